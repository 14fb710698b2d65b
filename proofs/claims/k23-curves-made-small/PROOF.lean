import PyProof.Rows.All
import PySem.Challenge.RW_huescarried_k23_whole_curves_made_small
import HandS.ForMost
import HandS.ForExc
import HandS.Wide
import HandS.TupAny
import HandS.Zip
import HandS.Walk
import HandS.CallSlots
import HandS.IsInst
import HandS.Star
import HandS.Defaults
import HandS.TryMany
import HandS.Flow
import HandS.RevTup
import HandS.Conv
import KE.KDictList
import HandS.Head0
import HandS.Head1
import HandS.Head2
import HandS.HeadEnd
import HandS.HeadHook1
import HandS.HeadHook2
set_option Elab.async false
set_option linter.all false
set_option maxRecDepth 100000
set_option maxHeartbeats 4000000
/-! Pd1: denotations over pure data and cells; what a state must be; the readings of denotations. -/
namespace Pd
open PySem L2
abbrev Fr := PySem.W.Frag
abbrev D := PyData

/-! ### data in the heap -/
mutual
inductive Rp (K : Fr) (F : Hp) : V → D → Prop
  | non : Rp K F .non .none
  | bl (b : Bool) : Rp K F (.bl b) (.bool b)
  | int (i : Int) : Rp K F (.int i) (.int i)
  | str (x : Str) : Rp K F (.str x) (.str x)
  | lst {a : Addr} {vs : List V} {ds : List D} : F a = some (.lst vs) → RpA K F vs ds → Rp K F (.ref a) (.list ds)
  | tup {a : Addr} {vs : List V} {ds : List D} : SqT K F a vs → RpA K F vs ds → Rp K F (.ref a) (.tuple ds)
inductive RpA (K : Fr) (F : Hp) : List V → List D → Prop
  | nil : RpA K F [] []
  | cons {v : V} {vs : List V} {d : D} {ds : List D} : Rp K F v d → RpA K F vs ds → RpA K F (v :: vs) (d :: ds)
end
theorem sqt_mono {K : Fr} {F F' : Hp} {a : Addr} {xs : List V} (e : Same F F') (h : SqT K F a xs) : SqT K F' a xs := by
  rcases h with (h | ⟨o, h⟩) | h
  · exact .inl (.inl (e _ _ h))
  · exact .inl (.inr ⟨o, e _ _ h⟩)
  · exact .inr h
section
variable {K : Fr} {F F' : Hp}
mutual
theorem Rp.mono (e : Same F F') : ∀ {d : D} {v : V}, Rp K F v d → Rp K F' v d
  | .none, _, h => by cases h; exact .non
  | .bool _, _, h => by cases h; exact .bl _
  | .int _, _, h => by cases h; exact .int _
  | .str _, _, h => by cases h; exact .str _
  | .list ds, _, h => by
    cases h with
    | lst h1 h2 => exact .lst (e _ _ h1) (RpA.mono e h2)
  | .tuple ds, _, h => by
    cases h with
    | tup h1 h2 => exact .tup (sqt_mono e h1) (RpA.mono e h2)
  | .dict _, _, h => by cases h
theorem RpA.mono (e : Same F F') : ∀ {ds : List D} {vs : List V}, RpA K F vs ds → RpA K F' vs ds
  | [], _, h => by cases h; exact .nil
  | _ :: _, _, h => by
    cases h with
    | cons h1 h2 => exact .cons (Rp.mono e h1) (RpA.mono e h2)
end
mutual
theorem Rp.dp : ∀ {d : D} {v : V}, Rp K F v d → Dp K F v d
  | .none, _, h => by cases h; exact .non
  | .bool _, _, h => by cases h; exact .bl _
  | .int _, _, h => by cases h; exact .int _
  | .str _, _, h => by cases h; exact .str _
  | .list ds, _, h => by
    cases h with
    | lst h1 h2 => exact .lst (.inl (.inl h1)) (RpA.dp h2)
  | .tuple ds, _, h => by
    cases h with
    | tup h1 h2 => exact .tup h1 (RpA.dp h2)
  | .dict _, _, h => by cases h
theorem RpA.dp : ∀ {ds : List D} {vs : List V}, RpA K F vs ds → DpAll K F vs ds
  | [], _, h => by cases h; exact .nil
  | _ :: _, _, h => by
    cases h with
    | cons h1 h2 => exact .cons (Rp.dp h1) (RpA.dp h2)
end
theorem RpA.len : ∀ {ds : List D} {vs : List V}, RpA K F vs ds → vs.length = ds.length
  | [], _, h => by cases h; rfl
  | _ :: _, _, h => by
    cases h with
    | cons h1 h2 => simp [RpA.len h2]
theorem RpA.get : ∀ {ds : List D} {vs : List V} {i : Nat} {d : D}, RpA K F vs ds → ds[i]? = some d → ∃ v, vs[i]? = some v ∧ Rp K F v d
  | [], _, _, _, h, e => by simp at e
  | _ :: _, _, i, _, h, e => by
    cases h with
    | cons h1 h2 =>
      cases i with
      | zero => simp at e; subst e; exact ⟨_, rfl, h1⟩
      | succ i =>
        obtain ⟨v, e1, e2⟩ := RpA.get (i := i) h2 (by simpa using e)
        exact ⟨v, by simpa using e1, e2⟩
theorem RpA.getV {ds : List D} {vs : List V} {i : Nat} {v : V} (h : RpA K F vs ds) (e : vs[i]? = some v) : ∃ d, ds[i]? = some d ∧ Rp K F v d := by
  have hi : i < ds.length := by
    rw [← h.len]
    exact (List.getElem?_eq_some_iff.mp e).1
  obtain ⟨v', e1, e2⟩ := h.get (List.getElem?_eq_getElem hi)
  rw [e] at e1
  cases e1
  exact ⟨_, List.getElem?_eq_getElem hi, e2⟩
theorem RpA.append : ∀ {ds : List D} {vs : List V} {es : List D} {ws : List V}, RpA K F vs ds → RpA K F ws es → RpA K F (vs ++ ws) (ds ++ es)
  | [], _, _, _, h, k => by cases h; exact k
  | _ :: _, _, _, _, h, k => by
    cases h with
    | cons h1 h2 => exact .cons h1 (RpA.append h2 k)
theorem RpA.take : ∀ (n : Nat) {ds : List D} {vs : List V}, RpA K F vs ds → RpA K F (vs.take n) (ds.take n)
  | 0, _, _, _ => by simp only [List.take_zero]; exact .nil
  | n + 1, [], _, h => by cases h; exact .nil
  | n + 1, _ :: _, _, h => by
    cases h with
    | cons h1 h2 => exact .cons h1 (RpA.take n h2)
theorem RpA.drop : ∀ (n : Nat) {ds : List D} {vs : List V}, RpA K F vs ds → RpA K F (vs.drop n) (ds.drop n)
  | 0, _, _, h => h
  | n + 1, [], _, h => by cases h; exact .nil
  | n + 1, _ :: _, _, h => by
    cases h with
    | cons h1 h2 => exact RpA.drop n h2
theorem RpA.one {v : V} {d : D} (h : Rp K F v d) : RpA K F [v] [d] := .cons h .nil
theorem RpA.reverse : ∀ {ds : List D} {vs : List V}, RpA K F vs ds → RpA K F vs.reverse ds.reverse
  | [], _, h => by cases h; exact .nil
  | _ :: _, _, h => by
    cases h with
    | cons h1 h2 =>
      rw [List.reverse_cons, List.reverse_cons]
      exact (RpA.reverse h2).append (.one h1)
theorem RpA.rep {ds : List D} {vs : List V} (h : RpA K F vs ds) : ∀ k : Nat, RpA K F (List.replicate k vs).flatten (List.replicate k ds).flatten
  | 0 => .nil
  | k + 1 => by
    rw [List.replicate_succ, List.replicate_succ, List.flatten_cons, List.flatten_cons]
    exact h.append (RpA.rep h k)
theorem RpA.ints : ∀ (ns : List Int), RpA K F (ns.map V.int) (ns.map PyData.int)
  | [] => .nil
  | n :: ns => .cons (.int n) (RpA.ints ns)
end

/-! ### values, cells -/
inductive Vl where
  | dat (d : D)
  | cel (k : Nat)
  | scr (ns : List Int)
inductive Cell where
  | lst (xs : List Vl)
  | frz (d : D)
abbrev Slots := List (Option Vl)
abbrev Store := List Cell
/-- a law that is not told to hold by running -/
theorem nr {α : Sort _} {a b : α} (h : a = b) : a = b := h
inductive Res (α : Type) where
  | ok (a : α) (st : Store)
  | exc (c : Nat) (p : Option (Str × D)) (st : Store)
  | no
def Res.bind {α β : Type} (r : Res α) (k : α → Store → Res β) : Res β := match r with
  | .ok a st => k a st
  | .exc c p st => .exc c p st
  | .no => .no
@[simp] theorem Res.bind_ok {α β : Type} (a : α) (st : Store) (k : α → Store → Res β) : (Res.ok a st).bind k = k a st := nr rfl
@[simp] theorem Res.bind_exc {α β : Type} (c : Nat) (p : Option (Str × D)) (st : Store) (k : α → Store → Res β) : (Res.exc c p st).bind k = .exc c p st := nr rfl
@[simp] theorem Res.bind_no {α β : Type} (k : α → Store → Res β) : (Res.no : Res α).bind k = .no := nr rfl

inductive VlOk (K : Fr) (F : Hp) (as : List Addr) : V → Vl → Prop
  | dat {v : V} {d : D} : Rp K F v d → VlOk K F as v (.dat d)
  | cel {a : Addr} {k : Nat} : as[k]? = some a → VlOk K F as (.ref a) (.cel k)
  | scr {a : Addr} {ns : List Int} : SqL K F a (ns.map V.int) → VlOk K F as (.ref a) (.scr ns)
abbrev VlsOk (K : Fr) (F : Hp) (as : List Addr) : List V → List Vl → Prop := Paired (VlOk K F as)
def CellOk (K : Fr) (F : Hp) (as : List Addr) (H : Hp) (a : Addr) : Cell → Prop
  | .lst xs => F a = none ∧ ∃ vs, H a = some (.lst vs) ∧ VlsOk K F as vs xs
  | .frz d => Rp K F (.ref a) d
structure RepH (K : Fr) (B F : Hp) (as : List Addr) (H : Hp) (st : Store) : Prop where
  fh : Same F H
  bh : Same B H
  nd : as.Nodup
  len : as.length = st.length
  bn : ∀ a ∈ as, B a = none
  hs : ∀ a ∈ as, H a ≠ none
  ok : ∀ (k : Nat) (c : Cell) (a : Addr), st[k]? = some c → as[k]? = some a → CellOk K F as H a c
structure Grow (B F F' : Hp) (as as' : List Addr) : Prop where
  sub : Same F F'
  frame : ∀ a, B a ≠ none → F a = none → F' a = none
  ext : as <+: as'
def SlOk (K : Fr) (F : Hp) (as : List Addr) (σ : St) (s : Slots) : Prop :=
  σ.length = s.length ∧ ∀ (i : Nat) (v : Vl), s[i]? = some (some v) → ∃ u, σ[i]? = some (some u) ∧ VlOk K F as u v

section
variable {K : Fr} {B F F' F'' : Hp} {as as' as'' : List Addr} {H H' : Hp} {st : Store}
theorem Grow.refl : Grow B F F as as := ⟨Same.refl _, fun _ _ h => h, List.prefix_refl _⟩
theorem Grow.trans (a : Grow B F F' as as') (b : Grow B F' F'' as' as'') : Grow B F F'' as as'' :=
  ⟨a.sub.trans b.sub, fun x h1 h2 => b.frame x h1 (a.frame x h1 h2), a.ext.trans b.ext⟩
theorem as_ext {k : Nat} {a : Addr} (e : as <+: as') (h : as[k]? = some a) : as'[k]? = some a := by
  obtain ⟨t, rfl⟩ := e
  rw [List.getElem?_append_left (List.getElem?_eq_some_iff.mp h).1]
  exact h
theorem sql_mono {a : Addr} {xs : List V} (e : Same F F') (h : SqL K F a xs) : SqL K F' a xs := e.seq h
theorem VlOk.mono' {v : V} {x : Vl} (e : Same F F') (p : as <+: as') (h : VlOk K F as v x) : VlOk K F' as' v x := by
  cases h with
  | dat h => exact .dat (h.mono e)
  | cel h => exact .cel (as_ext p h)
  | scr h => exact .scr (sql_mono e h)
theorem VlOk.mono {v : V} {x : Vl} (g : Grow B F F' as as') (h : VlOk K F as v x) : VlOk K F' as' v x := h.mono' g.sub g.ext
theorem VlsOk.mono' {vs : List V} {xs : List Vl} (e : Same F F') (p : as <+: as') (h : VlsOk K F as vs xs) : VlsOk K F' as' vs xs := by
  induction h with
  | nil => exact .nil
  | cons h1 _ ih => exact .cons (h1.mono' e p) ih
theorem VlsOk.mono {vs : List V} {xs : List Vl} (g : Grow B F F' as as') (h : VlsOk K F as vs xs) : VlsOk K F' as' vs xs := h.mono' g.sub g.ext
theorem SlOk.mono {σ : St} {s : Slots} (g : Grow B F F' as as') (h : SlOk K F as σ s) : SlOk K F' as' σ s :=
  ⟨h.1, fun i v e => let ⟨u, e1, e2⟩ := h.2 i v e; ⟨u, e1, e2.mono g⟩⟩
theorem SlOk.set {σ : St} {s : Slots} {i : Nat} {u : V} {v : Vl} (h : SlOk K F as σ s) (r : VlOk K F as u v) : SlOk K F as (σ.set i (some u)) (s.set i (some v)) := by
  refine ⟨by simp [h.1], fun j w e => ?_⟩
  by_cases hj : i = j
  · subst hj
    have hi : i < s.length := by
      have := (List.getElem?_eq_some_iff.mp e).1
      simpa using this
    rw [List.getElem?_set_self hi] at e
    cases e
    exact ⟨u, by rw [List.getElem?_set_self (by rw [h.1]; exact hi)], r⟩
  · rw [List.getElem?_set_ne hj] at e ⊢
    exact h.2 j w e
theorem VlsOk.rpa {vs : List V} {ds : List D} (h : RpA K F vs ds) : VlsOk K F as vs (ds.map .dat) := by
  induction ds generalizing vs with
  | nil => cases h; exact .nil
  | cons d ds ih =>
    cases h with
    | cons h1 h2 => exact .cons (.dat h1) (ih h2)
theorem VlsOk.to_rpa {vs : List V} {ds : List D} (h : VlsOk K F as vs (ds.map .dat)) : RpA K F vs ds := by
  induction ds generalizing vs with
  | nil => cases h; exact .nil
  | cons d ds ih =>
    cases h with
    | cons h1 h2 =>
      cases h1 with
      | dat h1 => exact .cons h1 (ih h2)
end

/-- new frozen objects alone -/
structure Ext (F H F' H' : Hp) : Prop where
  f : Same F F'
  h : Same H H'
  s : Same F' H'
  n : ∀ a, F a = none → F' a ≠ none → H a = none
theorem Ext.refl {F H : Hp} (e : Same F H) : Ext F H F H := ⟨Same.refl _, Same.refl _, e, fun _ h k => absurd h k⟩
theorem Ext.trans {F H F1 H1 F2 H2 : Hp} (a : Ext F H F1 H1) (b : Ext F1 H1 F2 H2) : Ext F H F2 H2 :=
  ⟨a.f.trans b.f, a.h.trans b.h, b.s, fun x h k => by
    by_cases q : F1 x = none
    · exact a.h.free (b.n x q k)
    · exact a.n x h q⟩
theorem Ext.new {F H : Hp} {p : Addr} {o : HO} (e : Same F H) (h : H p = none) : Ext F H (upd F p o) (upd H p o) := by
  have hf : F p = none := e.free h
  refine ⟨fun a u q => ?_, fun a u q => ?_, fun a u q => ?_, fun a q k => ?_⟩
  · rw [upd_ne (ne_of_none q hf)]; exact q
  · rw [upd_ne (ne_of_none q h)]; exact q
  · by_cases hp : a = p
    · subst hp; rw [upd_same] at q ⊢; exact q
    · rw [upd_ne hp] at q ⊢; exact e _ _ q
  · by_cases hp : a = p
    · subst hp; exact h
    · rw [upd_ne hp] at k; exact absurd q k
section
variable {K : Fr} {B F F' F'' : Hp} {as as' as'' : List Addr} {H H' : Hp} {st : Store}
theorem none_of_not {a : Addr} (h : ¬ F a ≠ none) : F a = none := Classical.byContradiction fun q => h q
theorem RepH.ext (r : RepH K B F as H st) (x : Ext F H F' H') : RepH K B F' as H' st where
  fh := x.s
  bh := r.bh.trans x.h
  nd := r.nd
  len := r.len
  bn := r.bn
  hs := fun a ha q => r.hs a ha (x.h.free q)
  ok := fun k c a e1 e2 => by
    have q := r.ok k c a e1 e2
    cases c with
    | lst xs =>
      obtain ⟨h1, vs, h2, h3⟩ := q
      refine ⟨none_of_not fun z => ?_, vs, x.h _ _ h2, h3.mono' x.f (List.prefix_refl _)⟩
      have := x.n a h1 z
      rw [h2] at this
      cases this
    | frz d => exact Rp.mono x.f q
theorem Ext.grow (r : RepH K B F as H st) (x : Ext F H F' H') : Grow B F F' as as :=
  ⟨x.f, fun a hb hf => none_of_not fun z => by
    have e := x.n a hf z
    exact hb (r.bh.free e), List.prefix_refl _⟩
end

/-! ### what is wanted behind a result -/
def ExcAt (K : Fr) (F H : Hp) (p : Option (Str × D)) (x : Option Addr) : Prop := match p with
  | none => x = none
  | some (f, d) => ∃ a v, x = some a ∧ H a = some (.xd [(f, v)]) ∧ Rp K F v d
section
variable (K : Fr) (cl : Nat → Value) (W : WX)
def postR {α : Type} (B F : Hp) (as : List Addr) (σ : St) (G : α → Store → Hp → List Addr → Hp → Prop) : Res α → Prop
  | .ok a st => ∀ F' as' H', Grow B F F' as as' → RepH K B F' as' H' st → G a st F' as' H'
  | .exc c p st => ∀ x F' as' H', Grow B F F' as as' → RepH K B F' as' H' st → ExcAt K F' H' p x → W (cl c) x σ H'
  | .no => False
/-- the reading of a denotation: in some state that is as told -/
def den {α : Type} (m : Slots → Store → Res α) (σ : St) (H : Hp) (G : α → Store → Hp → List Addr → Hp → Prop) : Prop :=
  ∃ B F as s st, RepH K B F as H st ∧ SlOk K F as σ s ∧ postR K cl W B F as σ G (m s st)
def denE (m : Slots → Store → Res Vl) : TE := fun σ H Q => den K cl W m σ H fun v _ F' as' H' => ∀ u, VlOk K F' as' u v → Q u H'
def denT (m : Slots → Store → Res Bool) : TT := fun σ H Q => den K cl W m σ H fun b _ _ _ H' => Q b H'
def denA (m : Slots → Store → Res (List Vl)) : TA := fun σ H Q => den K cl W m σ H fun vs _ F' as' H' => ∀ us, VlsOk K F' as' us vs → Q us H'
end
section
variable {K : Fr} {cl : Nat → Value} {W : WX} {α β : Type} {B F F' : Hp} {as as' : List Addr} {σ : St} {G G' : α → Store → Hp → List Addr → Hp → Prop} {H : Hp}
theorem post_grow (g : Grow B F F' as as') : ∀ {r : Res α}, postR K cl W B F as σ G r → postR K cl W B F' as' σ G r
  | .ok a st, h => fun F2 as2 H2 g2 r2 => h F2 as2 H2 (g.trans g2) r2
  | .exc c p st, h => fun x F2 as2 H2 g2 r2 e => h x F2 as2 H2 (g.trans g2) r2 e
  | .no, h => h
theorem post_mono {r : Res α} (h : postR K cl W B F as σ G r) (k : ∀ a st F' as' H', r = .ok a st → Grow B F F' as as' → RepH K B F' as' H' st → G a st F' as' H' → G' a st F' as' H') : postR K cl W B F as σ G' r := by
  cases r with
  | ok a st => exact fun F2 as2 H2 g2 r2 => k a st F2 as2 H2 rfl g2 r2 (h F2 as2 H2 g2 r2)
  | exc c p st => exact h
  | no => exact h
theorem post_bind {G : β → Store → Hp → List Addr → Hp → Prop} {r : Res α} {k : α → Store → Res β} (h : postR K cl W B F as σ G (r.bind k)) : postR K cl W B F as σ (fun a st F1 as1 _ => postR K cl W B F1 as1 σ G (k a st)) r := by
  cases r with
  | ok a st => exact fun F2 as2 H2 g2 r2 => post_grow g2 h
  | exc c p st => exact h
  | no => exact h
theorem post_ok {a : α} {st : Store} (h : postR K cl W B F as σ G (.ok a st)) (r : RepH K B F as H st) : G a st F as H := h F as H Grow.refl r
/-- a step of ours, told from the state that is here -/
theorem den_of {m : Slots → Store → Res α} {s : Slots} {st : Store} (r : RepH K B F as H st) (k : SlOk K F as σ s) (h : postR K cl W B F as σ G (m s st)) : den K cl W m σ H G := ⟨B, F, as, s, st, r, k, h⟩
end

/-! ### weakening of readings -/
section
variable {X : Cx}
theorem PE.imp {e : Expr} {t t' : TE} (h : PE X e t) (k : ∀ σ H Q, t' σ H Q → t σ H Q) : PE X e t' := ⟨fun pins s σ H Q I q => h.run pins s σ H Q I (k σ H Q q)⟩
theorem PT.imp {e : Expr} {t t' : TT} (h : PT X e t) (k : ∀ σ H Q, t' σ H Q → t σ H Q) : PT X e t' := ⟨fun pins s σ H Q I q => h.run pins s σ H Q I (k σ H Q q)⟩
theorem PW.imp {e : Expr} {t t' : TT} (h : PW X e t) (k : ∀ σ H Q, t' σ H Q → t σ H Q) : PW X e t' := ⟨fun w pins s σ H Q I q => h.run w pins s σ H Q I (k σ H Q q)⟩
theorem PA.imp {es : List Expr} {t t' : TA} (h : PA X es t) (k : ∀ σ H Q, t' σ H Q → t σ H Q) : PA X es t' := ⟨fun p pins s σ H Q I q => h.run p pins s σ H Q I (k σ H Q q)⟩
theorem PS.imp {st : Stmt} {t t' : TS} (h : PS X st t) (k : ∀ D σ H, t' D σ H → t D σ H) : PS X st t' := ⟨fun pins s σ H D I q => h.run pins s σ H D I (k D σ H q)⟩
theorem PSs.imp {st : List Stmt} {t t' : TS} (h : PSs X st t) (k : ∀ D σ H, t' D σ H → t D σ H) : PSs X st t' := ⟨fun pins s σ H D I q => h.run pins s σ H D I (k D σ H q)⟩
theorem PO.imp {e : Option Expr} {t t' : TO} (h : PO X e t) (k : ∀ σ H Q, t' σ H Q → t σ H Q) : PO X e t' := ⟨fun pins s σ H Q I q => h.run pins s σ H Q I (k σ H Q q)⟩
theorem PI.imp {tg e : Expr} {t t' : TI} (h : PI X tg e t) (k : ∀ σ H Q, t' σ H Q → t σ H Q) : PI X tg e t' := ⟨fun pins s σ H R I q => h.run pins s σ H R I (k σ H R q)⟩
end
end Pd

set_option Elab.async false
set_option linter.all false
set_option maxRecDepth 100000
set_option maxHeartbeats 4000000
/-! Pd2: expressions: what they denote, and that they read so. -/
namespace Pd
open PySem L2
abbrev EM := Slots → Store → Res Vl
abbrev TM := Slots → Store → Res Bool
abbrev AM := Slots → Store → Res (List Vl)

/-! ### freezing, looking -/
def unDat : List Vl → Option (List D)
  | [] => some []
  | .dat d :: r => (unDat r).map (d :: ·)
  | _ :: _ => none
theorem unDat_eq : ∀ {xs : List Vl} {ds : List D}, unDat xs = some ds → xs = ds.map .dat
  | [], ds, h => by cases h; rfl
  | .dat d :: r, ds, h => by
    unfold unDat at h
    cases e : unDat r with
    | none => rw [e] at h; cases h
    | some es => rw [e] at h; cases h; rw [unDat_eq e]; rfl
  | .cel _ :: _, _, h => by cases h
  | .scr _ :: _, _, h => by cases h
@[simp] theorem unDat_map : ∀ ds : List D, unDat (ds.map .dat) = some ds
  | [] => rfl
  | d :: ds => by
    rw [List.map_cons]
    unfold unDat
    rw [unDat_map ds]
    rfl
def toD (v : Vl) (st : Store) : Res D := match v with
  | .dat d => .ok d st
  | .cel k => (match st[k]? with
    | some (.frz d) => .ok d st
    | some (.lst xs) => (match unDat xs with
      | some ds => .ok (.list ds) (st.set k (.frz (.list ds)))
      | none => .no)
    | none => .no)
  | .scr _ => .no
@[simp] theorem toD_dat (d : D) (st : Store) : toD (.dat d) st = .ok d st := rfl
def toDs : List Vl → Store → Res (List D)
  | [], st => .ok [] st
  | v :: r, st => (toD v st).bind fun d st1 => (toDs r st1).bind fun ds st2 => .ok (d :: ds) st2
@[simp] theorem toDs_dat : ∀ (ds : List D) (st : Store), toDs (ds.map .dat) st = .ok ds st
  | [], _ => rfl
  | d :: ds, st => by
    rw [List.map_cons]
    unfold toDs
    rw [toD_dat, Res.bind_ok, toDs_dat ds]
    rfl
def peek (v : Vl) (st : Store) : Option D := match v with
  | .dat d => some d
  | .cel k => (match st[k]? with
    | some (.frz d) => some d
    | some (.lst xs) => (unDat xs).map .list
    | none => none)
  | .scr _ => none
@[simp] theorem peek_dat (d : D) (st : Store) : peek (.dat d) st = some d := rfl
def peeks : List Vl → Store → Option (List D)
  | [], _ => some []
  | v :: r, st => (peek v st).bind fun d => (peeks r st).map (d :: ·)
@[simp] theorem peeks_dat : ∀ (ds : List D) (st : Store), peeks (ds.map .dat) st = some ds
  | [], _ => rfl
  | d :: ds, st => by
    rw [List.map_cons]
    unfold peeks
    rw [peek_dat, peeks_dat ds]
    rfl
/-- what may be read as d: frozen, or a cell's list -/
def RpS (K : Fr) (F H : Hp) (v : V) (d : D) : Prop := Rp K F v d ∨ ∃ a vs ds, v = .ref a ∧ d = .list ds ∧ H a = some (.lst vs) ∧ RpA K F vs ds
theorem RpS.list {K : Fr} {F H : Hp} {v : V} {ds : List D} (e : Same F H) (h : RpS K F H v (.list ds)) : ∃ a vs, v = .ref a ∧ H a = some (.lst vs) ∧ RpA K F vs ds := by
  rcases h with h | ⟨a, vs, es, e1, e2, e3, e4⟩
  · cases h with
    | lst h1 h2 => exact ⟨_, _, rfl, e _ _ h1, h2⟩
  · cases e2
    exact ⟨a, vs, e1, e3, e4⟩
theorem RpS.tuple {K : Fr} {F H : Hp} {v : V} {ds : List D} (h : RpS K F H v (.tuple ds)) : ∃ a vs, v = .ref a ∧ SqT K F a vs ∧ RpA K F vs ds := by
  rcases h with h | ⟨a, vs, es, e1, e2, e3, e4⟩
  · cases h with
    | tup h1 h2 => exact ⟨_, _, rfl, h1, h2⟩
  · cases e2
theorem RpS.int {K : Fr} {F H : Hp} {v : V} {i : Int} (h : RpS K F H v (.int i)) : v = .int i := by
  rcases h with h | ⟨a, vs, es, e1, e2, e3, e4⟩
  · cases h; rfl
  · cases e2
theorem RpS.bl {K : Fr} {F H : Hp} {v : V} {i : Bool} (h : RpS K F H v (.bool i)) : v = .bl i := by
  rcases h with h | ⟨a, vs, es, e1, e2, e3, e4⟩
  · cases h; rfl
  · cases e2
theorem RpS.str {K : Fr} {F H : Hp} {v : V} {i : Str} (h : RpS K F H v (.str i)) : v = .str i := by
  rcases h with h | ⟨a, vs, es, e1, e2, e3, e4⟩
  · cases h; rfl
  · cases e2
theorem RpS.non {K : Fr} {F H : Hp} {v : V} (h : RpS K F H v .none) : v = .non := by
  rcases h with h | ⟨a, vs, es, e1, e2, e3, e4⟩
  · cases h; rfl
  · cases e2
theorem RpS.dp {K : Fr} {F H : Hp} {v : V} {d : D} (e : Same F H) (h : RpS K F H v d) : Dp K H v d := by
  rcases h with h | ⟨a, vs, es, rfl, rfl, e3, e4⟩
  · exact (h.mono e).dp
  · exact .lst (.inl (.inl e3)) (e4.mono e).dp
theorem RpS.sq {K : Fr} {F H : Hp} {v : V} {ds : List D} (e : Same F H) (h : RpS K F H v (.list ds) ∨ RpS K F H v (.tuple ds)) : ∃ a vs, v = .ref a ∧ (SqL K H a vs ∨ SqT K H a vs) ∧ RpA K F vs ds := by
  rcases h with h | h
  · obtain ⟨a, vs, e1, e2, e3⟩ := h.list e
    exact ⟨a, vs, e1, .inl (.inl (.inl e2)), e3⟩
  · obtain ⟨a, vs, e1, e2, e3⟩ := h.tuple
    exact ⟨a, vs, e1, .inr (sqt_mono e e2), e3⟩
section
variable {K : Fr} {B F : Hp} {as : List Addr} {H : Hp} {st st' : Store} {u : V} {v : Vl} {d : D}
theorem RepH.cell (r : RepH K B F as H st) {k : Nat} {a : Addr} {c : Cell} (e1 : as[k]? = some a) (e2 : st[k]? = some c) : CellOk K F as H a c := r.ok k c a e2 e1
theorem peek_ok (r : RepH K B F as H st) (o : VlOk K F as u v) (h : peek v st = some d) : RpS K F H u d := by
  cases o with
  | dat o => cases h; exact .inl o
  | cel o =>
    rename_i a k
    dsimp only [peek] at h
    cases e : st[k]? with
    | none => rw [e] at h; cases h
    | some c =>
      rw [e] at h
      have q := r.cell o e
      cases c with
      | frz d2 => cases h; exact .inl q
      | lst xs =>
        obtain ⟨q1, vs, q2, q3⟩ := q
        cases e2 : unDat xs with
        | none => simp only [e2] at h; cases h
        | some ds =>
          simp only [e2] at h
          cases h
          rw [unDat_eq e2] at q3
          exact .inr ⟨_, vs, ds, rfl, rfl, q2, q3.to_rpa⟩
  | scr o => cases h
theorem peeks_ok (r : RepH K B F as H st) : ∀ {us : List V} {vs : List Vl} {ds : List D}, VlsOk K F as us vs → peeks vs st = some ds → Paired (RpS K F H) us ds
  | [], _, _, .nil, h => by cases h; exact .nil
  | u :: us, v :: vs, ds, .cons o1 o2, h => by
    unfold peeks at h
    cases e : peek v st with
    | none => rw [e] at h; cases h
    | some d =>
      rw [e] at h
      cases e2 : peeks vs st with
      | none => rw [e2] at h; cases h
      | some es =>
        rw [e2] at h
        cases h
        exact .cons (peek_ok r o1 e) (peeks_ok r o2 e2)
theorem toD_ok (r : RepH K B F as H st) (o : VlOk K F as u v) (h : toD v st = .ok d st') : ∃ F', Grow B F F' as as ∧ RepH K B F' as H st' ∧ Rp K F' u d := by
  cases o with
  | dat o => cases h; exact ⟨F, Grow.refl, r, o⟩
  | cel o =>
    rename_i a k
    dsimp only [toD] at h
    cases e : st[k]? with
    | none => rw [e] at h; cases h
    | some c =>
      rw [e] at h
      have q := r.cell o e
      cases c with
      | frz d2 => cases h; exact ⟨F, Grow.refl, r, q⟩
      | lst xs =>
        obtain ⟨q1, vs, q2, q3⟩ := q
        cases e2 : unDat xs with
        | none => simp only [e2] at h; cases h
        | some ds =>
          simp only [e2] at h
          cases h
          rw [unDat_eq e2] at q3
          have hA : a ∈ as := List.mem_of_getElem? o
          have ff : Same F (upd F a (.lst vs)) := fun b z q => by
            rw [upd_ne (ne_of_none q q1)]
            exact q
          have rp : Rp K (upd F a (.lst vs)) (.ref a) (.list ds) := .lst upd_same (q3.to_rpa.mono ff)
          refine ⟨upd F a (.lst vs), ⟨ff, fun b h1 h2 => ?_, List.prefix_refl _⟩, ⟨fun b z q => ?_, r.bh, r.nd, by rw [List.length_set]; exact r.len, r.bn, r.hs, fun j c b e3 e4 => ?_⟩, rp⟩
          · rw [upd_ne (fun z => by subst z; exact h1 (r.bn _ hA))]
            exact h2
          · by_cases hb : b = a
            · subst hb
              rw [upd_same] at q
              cases q
              exact q2
            · rw [upd_ne hb] at q
              exact r.fh _ _ q
          · by_cases hj : k = j
            · subst hj
              rw [o] at e4
              cases e4
              rw [List.getElem?_set_self (List.getElem?_eq_some_iff.mp e).1] at e3
              cases e3
              exact rp
            · rw [List.getElem?_set_ne hj] at e3
              have qj := r.cell e4 e3
              have hne : b ≠ a := fun z => by
                subst z
                obtain ⟨l1, g1⟩ := List.getElem?_eq_some_iff.mp o
                obtain ⟨l2, g2⟩ := List.getElem?_eq_some_iff.mp e4
                exact hj ((List.getElem_inj r.nd).mp (g1.trans g2.symm))
              cases c with
              | frz d2 => exact Rp.mono ff qj
              | lst ys =>
                obtain ⟨p1, ws, p2, p3⟩ := qj
                exact ⟨by rw [upd_ne hne]; exact p1, ws, p2, p3.mono' ff (List.prefix_refl _)⟩
  | scr o => cases h
theorem toDs_ok : ∀ {us : List V} {vs : List Vl} {F : Hp} {st st' : Store} {ds : List D}, RepH K B F as H st → VlsOk K F as us vs → toDs vs st = .ok ds st' → ∃ F', Grow B F F' as as ∧ RepH K B F' as H st' ∧ RpA K F' us ds
  | [], _, F, _, _, _, r, .nil, h => by cases h; exact ⟨F, Grow.refl, r, .nil⟩
  | u :: us, v :: vs, F, st, st', ds, r, .cons o1 o2, h => by
    unfold toDs at h
    cases e : toD v st with
    | exc c p z => rw [e] at h; cases h
    | no => rw [e] at h; cases h
    | ok d st1 =>
      rw [e, Res.bind_ok] at h
      cases e2 : toDs vs st1 with
      | exc c p z => rw [e2] at h; cases h
      | no => rw [e2] at h; cases h
      | ok es st2 =>
        rw [e2, Res.bind_ok] at h
        cases h
        obtain ⟨F1, g1, r1, p1⟩ := toD_ok r o1 e
        obtain ⟨F2, g2, r2, p2⟩ := toDs_ok r1 (VlsOk.mono g1 o2) e2
        exact ⟨F2, g1.trans g2, r2, .cons (p1.mono g2.sub) p2⟩
end
/-- toD never raises -/
theorem toD_res (v : Vl) (st : Store) : (∃ d st', toD v st = .ok d st') ∨ toD v st = .no := by
  unfold toD
  split
  · exact .inl ⟨_, _, rfl⟩
  · split
    · exact .inl ⟨_, _, rfl⟩
    · split
      · exact .inl ⟨_, _, rfl⟩
      · exact .inr rfl
    · exact .inr rfl
  · exact .inr rfl
theorem toDs_res : ∀ (vs : List Vl) (st : Store), (∃ d st', toDs vs st = .ok d st') ∨ toDs vs st = .no
  | [], _ => .inl ⟨_, _, rfl⟩
  | v :: vs, st => by
    unfold toDs
    rcases toD_res v st with ⟨d, st1, e⟩ | e
    · rw [e, Res.bind_ok]
      rcases toDs_res vs st1 with ⟨ds, st2, e2⟩ | e2
      · rw [e2]; exact .inl ⟨_, _, rfl⟩
      · rw [e2]; exact .inr rfl
    · rw [e]; exact .inr rfl

/-! ### denotations -/
def cst (d : D) : EM := fun _ st => .ok (.dat d) st
def vr (i : Nat) : EM := fun s st => match s[i]? with
  | some (some v) => .ok v st
  | _ => .no
def op2 (h : D → D → Option D) (f g : EM) : EM := fun s st => (f s st).bind fun a st1 => (g s st1).bind fun b st2 => match peek a st2, peek b st2 with
  | some x, some y => (match h x y with
    | some z => .ok (.dat z) st2
    | none => .no)
  | _, _ => .no
def op1 (h : D → Option D) (f : EM) : EM := fun s st => (f s st).bind fun a st1 => match peek a st1 with
  | some x => (match h x with
    | some z => .ok (.dat z) st1
    | none => .no)
  | none => .no
def opN (h : List D → Option D) (m : AM) : EM := fun s st => (m s st).bind fun vs st1 => match peeks vs st1 with
  | some ds => (match h ds with
    | some z => .ok (.dat z) st1
    | none => .no)
  | none => .no
def aNil : AM := fun _ st => .ok [] st
def aCons (f : EM) (m : AM) : AM := fun s st => (f s st).bind fun v st1 => (m s st1).bind fun vs st2 => .ok (v :: vs) st2
def tupM (m : AM) : EM := fun s st => (m s st).bind fun vs st1 => (toDs vs st1).bind fun ds st2 => if ds.length ≤ sizeLine then .ok (.dat (.tuple ds)) st2 else .no
/-- a list display: frozen | a cell of its own -/
def lstD (m : AM) : EM := fun s st => (m s st).bind fun vs st1 => (toDs vs st1).bind fun ds st2 => if ds.length ≤ sizeLine then .ok (.dat (.list ds)) st2 else .no
def lstC (m : AM) : EM := fun s st => (m s st).bind fun vs st1 => if vs.length ≤ sizeLine then .ok (.cel st1.length) (st1 ++ [.lst vs]) else .no
def callM (g : List Vl → Store → Res Vl) (m : AM) : EM := fun s st => (m s st).bind g
def ifE (c : TM) (f g : EM) : EM := fun s st => (c s st).bind fun b st1 => if b = true then f s st1 else g s st1
def truD : D → Option Bool
  | .none => some false
  | .bool b => some b
  | .int i => some (i != 0)
  | .str x => if x.length ≤ sizeLine then some ((x.length : Int) != 0) else none
  | .list xs => some (!xs.isEmpty)
  | .tuple xs => some (!xs.isEmpty)
  | .dict _ => none
def truM (f : EM) : TM := fun s st => (f s st).bind fun a st1 => match peek a st1 with
  | some x => (match truD x with
    | some b => .ok b st1
    | none => .no)
  | none => .no
def andT (c d : TM) : TM := fun s st => (c s st).bind fun b st1 => if b = true then d s st1 else .ok false st1
def orT (c d : TM) : TM := fun s st => (c s st).bind fun b st1 => if b = true then .ok true st1 else d s st1
def notT (c : TM) : TM := fun s st => (c s st).bind fun b st1 => .ok (!b) st1
def andE (f g : EM) : EM := fun s st => (f s st).bind fun a st1 => match a with
  | .dat (.bool b) => if b = true then g s st1 else .ok (.dat (.bool false)) st1
  | _ => .no
def orE (f g : EM) : EM := fun s st => (f s st).bind fun a st1 => match a with
  | .dat (.bool b) => if b = true then .ok (.dat (.bool true)) st1 else g s st1
  | _ => .no
def notE (f : EM) : EM := fun s st => (f s st).bind fun a st1 => match a with
  | .dat (.bool b) => .ok (.dat (.bool (!b))) st1
  | _ => .no

/-! ### operations on data -/
section
variable (K : Fr)
def OpD (r : R2) (h : D → D → Option D) : Prop := ∀ F H x y a b c (Q : VK), Same F H → RpS K F H x a → RpS K F H y b → h a b = some c → (∀ u F' H', Ext F H F' H' → Rp K F' u c → Q u H') → r x y H Q
def Op1 (r : V → Hp → VK → Prop) (h : D → Option D) : Prop := ∀ F H x a c (Q : VK), Same F H → RpS K F H x a → h a = some c → (∀ u F' H', Ext F H F' H' → Rp K F' u c → Q u H') → r x H Q
def OpNd (r : List V → Hp → VK → Prop) (h : List D → Option D) : Prop := ∀ F H xs ds c (Q : VK), Same F H → Paired (RpS K F H) xs ds → h ds = some c → (∀ u F' H', Ext F H F' H' → Rp K F' u c → Q u H') → r xs H Q
end
section
variable {K : Fr} {cl : Nat → Value} {W : WX}
/-- from a word about one result to the reading of what follows -/
theorem den_bind {α β : Type} {f : Slots → Store → Res α} {k : α → Slots → Store → Res β} {σ : St} {H : Hp} {G : β → Store → Hp → List Addr → Hp → Prop} {G2 : α → Store → Hp → List Addr → Hp → Prop}
    (h : den K cl W (fun s st => (f s st).bind fun a st1 => k a s st1) σ H G)
    (hk : ∀ B F as s a st1 H1, RepH K B F as H1 st1 → SlOk K F as σ s → postR K cl W B F as σ G (k a s st1) → G2 a st1 F as H1) : den K cl W f σ H G2 := by
  obtain ⟨B, F, as, s, st, r, o, p⟩ := h
  exact ⟨B, F, as, s, st, r, o, post_mono (post_bind p) fun a st1 F1 as1 H1 _ g1 r1 q => hk B F1 as1 s a st1 H1 r1 (o.mono g1) q⟩
theorem op2_den {r : R2} {h : D → D → Option D} (hd : OpD K r h) {f g : EM} {σ : St} {H : Hp} {Q : VK} (p : denE K cl W (op2 h f g) σ H Q) : tOp r (denE K cl W f) (denE K cl W g) σ H Q := by
  refine den_bind p fun B F as s a st1 H1 r1 o1 q u hu => ?_
  refine ⟨B, F, as, s, st1, r1, o1, post_mono (post_bind q) fun b st2 F2 as2 H2 _ g2 r2 q2 w hw => ?_⟩
  cases ea : peek a st2 with
  | none => rw [ea] at q2; exact q2.elim
  | some x =>
    cases eb : peek b st2 with
    | none => rw [ea, eb] at q2; exact q2.elim
    | some y =>
      rw [ea, eb] at q2
      cases eh : h x y with
      | none => simp only [eh] at q2; exact q2.elim
      | some z =>
        simp only [eh] at q2
        refine hd F2 H2 u w x y z Q r2.fh (peek_ok r2 (hu.mono g2) ea) (peek_ok r2 hw eb) eh fun v F3 H3 x3 rp => ?_
        exact q2 F3 as2 H3 (x3.grow r2) (r2.ext x3) v (.dat rp)
theorem op1_den {r : V → Hp → VK → Prop} {h : D → Option D} (hd : Op1 K r h) {f : EM} {σ : St} {H : Hp} {Q : VK} (p : denE K cl W (op1 h f) σ H Q) : denE K cl W f σ H fun x H1 => r x H1 Q := by
  refine den_bind p fun B F as s a st1 H1 r1 o1 q u hu => ?_
  cases ea : peek a st1 with
  | none => rw [ea] at q; exact q.elim
  | some x =>
    rw [ea] at q
    cases eh : h x with
    | none => simp only [eh] at q; exact q.elim
    | some z =>
      simp only [eh] at q
      exact hd F H1 u x z Q r1.fh (peek_ok r1 hu ea) eh fun v F3 H3 x3 rp => q F3 as H3 (x3.grow r1) (r1.ext x3) v (.dat rp)
theorem opN_den {r : List V → Hp → VK → Prop} {h : List D → Option D} (hd : OpNd K r h) {m : AM} {σ : St} {H : Hp} {Q : VK} (p : denE K cl W (opN h m) σ H Q) : denA K cl W m σ H fun xs H1 => r xs H1 Q := by
  refine den_bind p fun B F as s a st1 H1 r1 o1 q us hu => ?_
  cases ea : peeks a st1 with
  | none => rw [ea] at q; exact q.elim
  | some ds =>
    rw [ea] at q
    cases eh : h ds with
    | none => simp only [eh] at q; exact q.elim
    | some z =>
      simp only [eh] at q
      exact hd F H1 us ds z Q r1.fh (peeks_ok r1 hu ea) eh fun v F3 H3 x3 rp => q F3 as H3 (x3.grow r1) (r1.ext x3) v (.dat rp)
end

/-! ### the rules -/
section
variable {X : Cx} {cl : Nat → Value} {W : WX} {e a b : Expr} {es : List Expr} {pos : Pos} {f g : EM} {m : AM} {c d : TM}
theorem qe_cst {v : V} {x : D} (h : PE X e (tC v)) (r : ∀ F, Rp X.K F v x) : PE X e (denE X.K cl W (cst x)) := PE.imp h fun σ H Q q => by
  obtain ⟨B, F, as, s, st, rp, o, p⟩ := q
  exact post_ok p rp v (.dat (r F))
theorem qe_int {i : Int} {j : Nat} : PE X (.Constant (.int i) j pos) (denE X.K cl W (cst (.int i))) := qe_cst pe_int fun _ => .int i
theorem qe_bl {i : Bool} {j : Nat} : PE X (.Constant (.bool i) j pos) (denE X.K cl W (cst (.bool i))) := qe_cst pe_bl fun _ => .bl i
theorem qe_non {j : Nat} : PE X (.Constant .none j pos) (denE X.K cl W (cst .none)) := qe_cst pe_non fun _ => .non
theorem qe_str {i : Str} {j : Nat} : PE X (.Constant (.str i) j pos) (denE X.K cl W (cst (.str i))) := qe_cst pe_str fun _ => .str i
theorem qe_glob {x : Str} {v : V} {u : Value} {d : D} (hg : Gl X x) (hm : X.mg x = some u) (r : RelV v u) (k : ∀ F, Rp X.K F v d) (hd : (x == ("__debug__" : Str)) = false := by decide) : PE X (.Name x pos) (denE X.K cl W (cst d)) := qe_cst (pe_glob hg hm r hd) k
theorem vr_den {K : Fr} {i : Nat} {σ : St} {H : Hp} {Q : VK} (q : denE K cl W (vr i) σ H Q) : tVar i σ H Q := by
  obtain ⟨B, F, as, s, st, rp, o, p⟩ := q
  unfold vr at p
  split at p
  · rename_i v e
    obtain ⟨u, e1, e2⟩ := o.2 i v e
    exact ⟨u, e1, post_ok p rp u e2⟩
  · exact p.elim
theorem qe_var (i : Nat) {x : Str} (hN : X.N[i]? = some x := by rfl) (hv : Vis X.env.scope x := by first | exact Or.inl rfl | exact Or.inr (Or.inl rfl) | exact Or.inr (Or.inr rfl)) (hd : (x == ("__debug__" : Str)) = false := by decide)
    (hcd : (x == ("__classdict__" : Str)) = false := by decide) : PE X (.Name x pos) (denE X.K cl W (vr i)) := PE.imp (pe_var hN hv hd hcd) fun _ _ _ q => vr_den q
theorem qe_bin {op : Operator} {r : R2} {h : D → D → Option D} (ho : OpR X (binaryOp op) r) (hd : OpD X.K r h) (ha : PE X a (denE X.K cl W f)) (hb : PE X b (denE X.K cl W g)) : PE X (.BinOp a op b pos) (denE X.K cl W (op2 h f g)) :=
  PE.imp (pe_op ho ha hb) fun _ _ _ q => op2_den hd q
theorem qe_cmp {op : CmpOp} {r : R2} {h : D → D → Option D} (ho : OpR X (compareOp op) r) (hd : OpD X.K r h) (ha : PE X a (denE X.K cl W f)) (hb : PE X b (denE X.K cl W g)) (hm : behindInMarks op b = false) : PE X (.Compare a [op] [b] pos) (denE X.K cl W (op2 h f g)) :=
  PE.imp (pe_cmpR ho ha hb hm) fun _ _ _ q => op2_den hd q
theorem qe_ix {r : R2} {h : D → D → Option D} (ho : IxR X r) (hd : OpD X.K r h) (ha : PE X a (denE X.K cl W f)) (hb : PE X b (denE X.K cl W g)) (hs : PlainIx b) : PE X (.Subscript a b pos) (denE X.K cl W (op2 h f g)) :=
  PE.imp (pe_ix ho ha hb hs) fun _ _ _ q => op2_den hd q
theorem qe_un {op : UnaryOp} {r : V → Hp → VK → Prop} {h : D → Option D} (ho : UnR X (unaryOp op) r) (hd : Op1 X.K r h) (ha : PE X a (denE X.K cl W f)) : PE X (.UnaryOp op a pos) (denE X.K cl W (op1 h f)) :=
  PE.imp (pe_un ho ha) fun _ _ _ q => op1_den hd q
/-! arguments -/
theorem qa_nil : PA X [] (denA X.K cl W aNil) := PA.imp pa_nil fun σ H Q q => by
  obtain ⟨B, F, as, s, st, rp, o, p⟩ := q
  exact post_ok p rp [] .nil
theorem aCons_den {K : Fr} {σ : St} {H : Hp} {Q : List V → Hp → Prop} (q : denA K cl W (aCons f m) σ H Q) : tCons (denE K cl W f) (denA K cl W m) σ H Q := by
  refine den_bind q fun B F as s v st1 H1 r1 o1 q u hu => ?_
  refine ⟨B, F, as, s, st1, r1, o1, post_mono (post_bind q) fun vs st2 F2 as2 H2 _ g2 r2 q2 us hus => ?_⟩
  exact post_ok q2 r2 (u :: us) (.cons (hu.mono g2) hus)
theorem qa_cons (ha : PE X e (denE X.K cl W f)) (hr : PA X es (denA X.K cl W m)) (hs : starEach (e :: es) X.env = (false, eval e X.env) :: starEach es X.env := by rfl) : PA X (e :: es) (denA X.K cl W (aCons f m)) :=
  PA.imp (pa_cons ha hr hs) fun _ _ _ q => aCons_den q
/-! displays -/
theorem tup_frozen {K : Fr} {B F : Hp} {as : List Addr} {H : Hp} {st : Store} {us : List V} {ds : List D} {p : Addr} (r : RepH K B F as H st) (h : RpA K F us ds) (hp : H p = none) :
    Grow B F (upd F p (.tup us)) as as ∧ RepH K B (upd F p (.tup us)) as (upd H p (.tup us)) st ∧ Rp K (upd F p (.tup us)) (.ref p) (.tuple ds) := by
  have x := Ext.new (o := .tup us) r.fh hp
  exact ⟨x.grow r, r.ext x, .tup (.inl (.inl upd_same)) (h.mono x.f)⟩
theorem lst_frozen {K : Fr} {B F : Hp} {as : List Addr} {H : Hp} {st : Store} {us : List V} {ds : List D} {p : Addr} (r : RepH K B F as H st) (h : RpA K F us ds) (hp : H p = none) :
    Grow B F (upd F p (.lst us)) as as ∧ RepH K B (upd F p (.lst us)) as (upd H p (.lst us)) st ∧ Rp K (upd F p (.lst us)) (.ref p) (.list ds) := by
  have x := Ext.new (o := .lst us) r.fh hp
  exact ⟨x.grow r, r.ext x, .lst upd_same (h.mono x.f)⟩
/-- a new cell -/
theorem cell_new {K : Fr} {B F : Hp} {as : List Addr} {H : Hp} {st : Store} {us : List V} {vs : List Vl} {p : Addr} (r : RepH K B F as H st) (h : VlsOk K F as us vs) (hp : H p = none) :
    Grow B F F as (as ++ [p]) ∧ RepH K B F (as ++ [p]) (upd H p (.lst us)) (st ++ [.lst vs]) ∧ VlOk K F (as ++ [p]) (.ref p) (.cel st.length) := by
  have hnew : p ∉ as := fun z => r.hs p z hp
  have hx : as <+: as ++ [p] := List.prefix_append _ _
  have hl : (as ++ [p])[st.length]? = some p := by
    rw [← r.len, List.getElem?_append_right (Nat.le_refl _), Nat.sub_self]
    rfl
  refine ⟨⟨Same.refl _, fun _ _ h => h, hx⟩, ⟨fun a o q => ?_, fun a o q => ?_, ?_, by simp [r.len], fun a ha => ?_, fun a ha => ?_, fun k c a e1 e2 => ?_⟩, .cel hl⟩
  · have := r.fh _ _ q
    rw [upd_ne (ne_of_none this hp)]
    exact this
  · have := r.bh _ _ q
    rw [upd_ne (ne_of_none this hp)]
    exact this
  · exact List.nodup_append.mpr ⟨r.nd, by simp, fun a ha b hb => by
      have : b = p := by simpa using hb
      subst this
      exact fun z => hnew (z ▸ ha)⟩
  · rcases List.mem_append.mp ha with ha | ha
    · exact r.bn a ha
    · have : a = p := by simpa using ha
      subst this
      exact r.bh.free hp
  · rcases List.mem_append.mp ha with ha | ha
    · have hne : a ≠ p := fun z => hnew (z ▸ ha)
      rw [upd_ne hne]
      exact r.hs a ha
    · have : a = p := by simpa using ha
      subst this
      rw [upd_same]
      exact fun z => by cases z
  · by_cases hk : k < st.length
    · rw [List.getElem?_append_left hk] at e1
      rw [List.getElem?_append_left (by rw [r.len]; exact hk)] at e2
      have q := r.ok k c a e1 e2
      have ha : a ∈ as := List.mem_of_getElem? e2
      have hne : a ≠ p := fun z => hnew (z ▸ ha)
      cases c with
      | frz d => exact q
      | lst xs =>
        obtain ⟨q1, ws, q2, q3⟩ := q
        exact ⟨q1, ws, by rw [upd_ne hne]; exact q2, q3.mono' (Same.refl _) hx⟩
    · have hk2 : k < st.length + 1 := by
        have := (List.getElem?_eq_some_iff.mp e1).1
        simpa using this
      have hk3 : k = st.length := by omega
      subst hk3
      rw [hl] at e2
      cases e2
      rw [List.getElem?_append_right (Nat.le_refl _), Nat.sub_self] at e1
      cases e1
      exact ⟨r.fh.free hp, us, upd_same, h.mono' (Same.refl _) hx⟩
theorem qe_tup {j : Nat} (h : PA X es (denA X.K cl W m)) : PE X (.Tuple es j pos) (denE X.K cl W (tupM m)) := PE.imp (pe_tup h) fun σ H Q q => by
  refine den_bind q fun B F as s vs st1 H1 r1 o1 q us hus => ?_
  rcases toDs_res vs st1 with ⟨ds, st2, e⟩ | e
  · rw [e, Res.bind_ok] at q
    obtain ⟨F2, g2, r2, p2⟩ := toDs_ok r1 hus e
    split at q
    · rename_i hl
      refine ⟨by rw [p2.len]; exact hl, fun p hp => ?_⟩
      obtain ⟨g3, r3, p3⟩ := tup_frozen r2 p2 hp
      exact q _ _ _ (g2.trans g3) r3 _ (.dat p3)
    · exact q.elim
  · rw [e] at q
    exact q.elim
theorem qe_lstD (h : PA X es (denA X.K cl W m)) : PE X (.List es pos) (denE X.K cl W (lstD m)) := PE.imp (pe_lst h) fun σ H Q q => by
  refine den_bind q fun B F as s vs st1 H1 r1 o1 q us hus => ?_
  rcases toDs_res vs st1 with ⟨ds, st2, e⟩ | e
  · rw [e, Res.bind_ok] at q
    obtain ⟨F2, g2, r2, p2⟩ := toDs_ok r1 hus e
    split at q
    · rename_i hl
      refine ⟨by rw [p2.len]; exact hl, fun p hp => ?_⟩
      obtain ⟨g3, r3, p3⟩ := lst_frozen r2 p2 hp
      exact q _ _ _ (g2.trans g3) r3 _ (.dat p3)
    · exact q.elim
  · rw [e] at q
    exact q.elim
theorem qe_lstC (h : PA X es (denA X.K cl W m)) : PE X (.List es pos) (denE X.K cl W (lstC m)) := PE.imp (pe_lst h) fun σ H Q q => by
  refine den_bind q fun B F as s vs st1 H1 r1 o1 q us hus => ?_
  split at q
  · rename_i hl
    refine ⟨by rw [Paired.length hus]; exact hl, fun p hp => ?_⟩
    obtain ⟨g3, r3, p3⟩ := cell_new r1 hus hp
    exact q _ _ _ g3 r3 _ p3
  · exact q.elim
/-! tests -/
theorem tru_ok2 {K : Fr} {F H : Hp} {v : V} {x : D} {k : Bool} (e : Same F H) (h : RpS K F H v x) (ht : truD x = some k) : TruV K v H k := by
  cases x with
  | none => rw [h.non]; cases ht; rfl
  | bool b => rw [h.bl]; cases ht; rfl
  | int i => rw [h.int]; cases ht; rfl
  | str z =>
    rw [h.str]
    dsimp only [truD] at ht
    split at ht
    · cases ht
      exact ⟨by assumption, rfl⟩
    · cases ht
  | list xs =>
    obtain ⟨a, vs, rfl, h1, h2⟩ := h.list e
    cases ht
    refine .inl ⟨vs, .inl (.inl h1), ?_⟩
    cases h2 <;> rfl
  | tuple xs =>
    obtain ⟨a, vs, rfl, h1, h2⟩ := h.tuple
    cases ht
    refine .inr (.inl ⟨vs, sqt_mono e h1, ?_⟩)
    cases h2 <;> rfl
  | dict kvs => cases ht
theorem truM_den {K : Fr} {σ : St} {H : Hp} {Q : Bool → Hp → Prop} (q : denT K cl W (truM f) σ H Q) : denE K cl W f σ H fun x H1 => ∃ k, TruV K x H1 k ∧ Q k H1 := by
  refine den_bind q fun B F as s a st1 H1 r1 o1 q u hu => ?_
  cases ea : peek a st1 with
  | none => rw [ea] at q; exact q.elim
  | some x =>
    rw [ea] at q
    cases et : truD x with
    | none => simp only [et] at q; exact q.elim
    | some k =>
      simp only [et] at q
      exact ⟨k, tru_ok2 r1.fh (peek_ok r1 hu ea) et, post_ok q r1⟩
/-- a test by its value's truth -/
theorem qt_val (ha : PE X a (denE X.K cl W f)) (he : ∀ whole, isTrue a X.env whole = (do let v ← whole; standAt a.pos; holding [v] (truthy v)) := by intro _; rfl) : PT X a (denT X.K cl W (truM f)) :=
  PT.imp (pt_truth ha he) fun _ _ _ q => truM_den q
theorem truM_bool {K : Fr} {σ : St} {H : Hp} {Q : Bool → Hp → Prop} (q : denT K cl W (truM f) σ H Q) (hb : ∀ s st v st1, f s st = .ok v st1 → ∃ b, v = .dat (.bool b)) : denE K cl W f σ H fun x H1 => ∃ k, x = .bl k ∧ Q k H1 := by
  obtain ⟨B, F, as, s, st, r, o, p⟩ := q
  refine ⟨B, F, as, s, st, r, o, post_mono (post_bind p) fun a st1 F1 as1 H1 ea g1 r1 q u hu => ?_⟩
  obtain ⟨b, rfl⟩ := hb s st a st1 ea
  cases hu with
  | dat hu =>
    cases hu
    exact ⟨b, rfl, post_ok q r1⟩
/-- h gives bools alone -/
def BoolOp2 (h : D → D → Option D) : Prop := ∀ a b c, h a b = some c → ∃ k, c = .bool k
theorem op2_bool {h : D → D → Option D} (hb : BoolOp2 h) {s : Slots} {st st1 : Store} {v : Vl} (e : op2 h f g s st = .ok v st1) : ∃ b, v = .dat (.bool b) := by
  unfold op2 at e
  cases e1 : f s st with
  | exc c p z => rw [e1] at e; cases e
  | no => rw [e1] at e; cases e
  | ok a sa =>
    rw [e1, Res.bind_ok] at e
    cases e2 : g s sa with
    | exc c p z => rw [e2] at e; cases e
    | no => rw [e2] at e; cases e
    | ok b sb =>
      rw [e2, Res.bind_ok] at e
      split at e
      · split at e
        · rename_i x y _ _ z hz
          cases e
          obtain ⟨k, rfl⟩ := hb _ _ _ hz
          exact ⟨k, rfl⟩
        · cases e
      · cases e
theorem qt_cmp {op : CmpOp} {r : R2} {h : D → D → Option D} (ho : OpR X (compareOp op) r) (hd : OpD X.K r h) (hb2 : BoolOp2 h) (ha : PE X a (denE X.K cl W f)) (hb : PE X b (denE X.K cl W g)) (hm : behindInMarks op b = false) : PT X (.Compare a [op] [b] pos) (denT X.K cl W (truM (op2 h f g))) :=
  PT.imp (pt_cmpR ho ha hb hm) fun σ H Q q => op2_den hd (truM_bool q fun s st v st1 e => op2_bool hb2 e)
theorem andT_den {K : Fr} {σ : St} {H : Hp} {Q : Bool → Hp → Prop} (q : denT K cl W (andT c d) σ H Q) : tAnd (denT K cl W c) (denT K cl W d) σ H Q := by
  refine den_bind q fun B F as s b st1 H1 r1 o1 q => ?_
  cases b with
  | true => exact ⟨B, F, as, s, st1, r1, o1, q⟩
  | false => exact post_ok q r1
theorem orT_den {K : Fr} {σ : St} {H : Hp} {Q : Bool → Hp → Prop} (q : denT K cl W (orT c d) σ H Q) : tOr (denT K cl W c) (denT K cl W d) σ H Q := by
  refine den_bind q fun B F as s b st1 H1 r1 o1 q => ?_
  cases b with
  | true => exact post_ok q r1
  | false => exact ⟨B, F, as, s, st1, r1, o1, q⟩
theorem qw_and1 (ha : PT X a (denT X.K cl W c)) : PW X (.BoolOp .And [a] pos) (denT X.K cl W c) := pw_and1 ha
theorem qw_or1 (ha : PT X a (denT X.K cl W c)) : PW X (.BoolOp .Or [a] pos) (denT X.K cl W c) := pw_or1 ha
theorem qw_and {rest : List Expr} (ha : PT X a (denT X.K cl W c)) (hb : PW X (.BoolOp .And (b :: rest) pos) (denT X.K cl W d)) : PW X (.BoolOp .And (a :: b :: rest) pos) (denT X.K cl W (andT c d)) := PW.imp (pw_and ha hb) fun _ _ _ q => andT_den q
theorem qw_or {rest : List Expr} (ha : PT X a (denT X.K cl W c)) (hb : PW X (.BoolOp .Or (b :: rest) pos) (denT X.K cl W d)) : PW X (.BoolOp .Or (a :: b :: rest) pos) (denT X.K cl W (orT c d)) := PW.imp (pw_or ha hb) fun _ _ _ q => orT_den q
theorem qt_not (ha : PT X a (denT X.K cl W c)) : PT X (.UnaryOp .Not a pos) (denT X.K cl W (notT c)) := PT.imp (pt_not ha) fun σ H Q q => by
  refine den_bind q fun B F as s b st1 H1 r1 o1 q => ?_
  exact post_ok q r1
theorem qe_ifE {t : Expr} (hc : PT X t (denT X.K cl W c)) (ha : PE X a (denE X.K cl W f)) (hb : PE X b (denE X.K cl W g)) : PE X (.IfExp t a b pos) (denE X.K cl W (ifE c f g)) := PE.imp (pe_ifExp hc ha hb) fun σ H Q q => by
  refine den_bind q fun B F as s b st1 H1 r1 o1 q => ?_
  cases b with
  | true => exact ⟨B, F, as, s, st1, r1, o1, q⟩
  | false => exact ⟨B, F, as, s, st1, r1, o1, q⟩
theorem qe_one {op : BoolOp} (h : PE X a (denE X.K cl W f)) : PE X (.BoolOp op [a] pos) (denE X.K cl W f) := pe_one h
theorem qe_and {rest : List Expr} (ha : PE X a (denE X.K cl W f)) (hb : PE X (.BoolOp .And (b :: rest) pos) (denE X.K cl W g)) : PE X (.BoolOp .And (a :: b :: rest) pos) (denE X.K cl W (andE f g)) := PE.imp (pe_and ha hb) fun σ H Q q => by
  refine den_bind q fun B F as s v st1 H1 r1 o1 q u hu => ?_
  split at q
  · cases hu with
    | dat hu =>
      cases hu
      refine ⟨_, rfl, ?_⟩
      rename_i k
      cases k with
      | true => exact ⟨B, F, as, s, st1, r1, o1, q⟩
      | false => exact post_ok q r1 _ (.dat (.bl false))
  · exact q.elim
theorem qe_or {rest : List Expr} (ha : PE X a (denE X.K cl W f)) (hb : PE X (.BoolOp .Or (b :: rest) pos) (denE X.K cl W g)) : PE X (.BoolOp .Or (a :: b :: rest) pos) (denE X.K cl W (orE f g)) := PE.imp (pe_or ha hb) fun σ H Q q => by
  refine den_bind q fun B F as s v st1 H1 r1 o1 q u hu => ?_
  split at q
  · cases hu with
    | dat hu =>
      cases hu
      refine ⟨_, rfl, ?_⟩
      rename_i k
      cases k with
      | true => exact post_ok q r1 _ (.dat (.bl true))
      | false => exact ⟨B, F, as, s, st1, r1, o1, q⟩
  · exact q.elim
theorem qe_not (ha : PE X a (denE X.K cl W f)) : PE X (.UnaryOp .Not a pos) (denE X.K cl W (notE f)) := PE.imp (pe_not ha) fun σ H Q q => by
  refine den_bind q fun B F as s v st1 H1 r1 o1 q u hu => ?_
  split at q
  · cases hu with
    | dat hu =>
      cases hu
      exact ⟨_, rfl, post_ok q r1 _ (.dat (.bl _))⟩
  · exact q.elim
/-! calls -/
theorem qe_callB {id : String} {x : Str} {p : Pos} {r : List V → Hp → VK → Prop} {h : List D → Option D} (hc : CallR X (.builtin id) r) (hd : OpNd X.K r h) (hg : Gl X x) (hm : X.mg x = none) (hv : bootBuiltins x = some (.builtin id)) (ha : PA X (e :: es) (denA X.K cl W m))
    (hn : x ≠ "__name__" := by decide) (hdb : (x == ("__debug__" : Str)) = false := by decide) (he : starEach (e :: es) X.env = (false, eval e X.env) :: starEach es X.env := by rfl) (hpl : (backTo pos (starEach es X.env)).any (·.1) = false := by rfl) :
    PE X (.Call (.Name x p) (e :: es) [] pos) (denE X.K cl W (opN h m)) := PE.imp (pe_callB hc hg hm hv ha hn hdb he hpl) fun _ _ _ q => opN_den hd q
theorem qe_callTy {T : String} {x : Str} {p : Pos} {r : List V → Hp → VK → Prop} {h : List D → Option D} (hc : CallR X (.type T) r) (hd : OpNd X.K r h) (hg : Gl X x) (hm : X.mg x = none) (hv : bootBuiltins x = some (.type T)) (ha : PA X (e :: es) (denA X.K cl W m))
    (hn : x ≠ "__name__" := by decide) (hdb : (x == ("__debug__" : Str)) = false := by decide) (he : starEach (e :: es) X.env = (false, eval e X.env) :: starEach es X.env := by rfl) (hpl : (backTo pos (starEach es X.env)).any (·.1) = false := by rfl) :
    PE X (.Call (.Name x p) (e :: es) [] pos) (denE X.K cl W (opN h m)) := PE.imp (pe_callTy hc hg hm hv ha hn hdb he hpl) fun _ _ _ q => opN_den hd q
end
/-- a def's promise by its denotation -/
def spV (K : Fr) (cl : Nat → Value) (g : List Vl → Store → Res Vl) : Sp := fun vs H Q E => ∃ B F as args st, RepH K B F as H st ∧ VlsOk K F as vs args ∧
  postR K cl (fun c d _ H' => E c d H') B F as [] (fun v _ F' as' H' => ∀ u, VlOk K F' as' u v → Q u H') (g args st)
section
variable {X : Cx} {cl : Nat → Value} {W : WX} {e : Expr} {es : List Expr} {pos : Pos} {m : AM}
theorem passAt2 {X : Cx} {W : WX} (tk : Takes X W) (σ : St) : ∀ (pins : List (Addr × Obj)) (H : Hp) (s : Shared) (e : Value) (s' : Shared), Inv X pins σ H s → L2.CX X.prog X.w X.stack H s (fun c d H' => W c d σ H') e s' → X.xe e s' :=
  fun pins H s e s' I c => tk e s' (XE.of_call I (fun _ _ _ q => q) c)
theorem qe_call {k : Nat} {f : Addr} {fd : FuncData} {ps : List Str} {g : List Vl → Store → Res Vl} {x : Str} {p : Pos} (F : FnOk X.prog X.w X.K X.mg X.base (L2.CX X.prog X.w) k f fd ps (spV X.K cl g)) (hr : Room k X.A) (hg : Gl X x) (hm : X.mg x = some (.ref f))
    (hk : PySem.W.keepIn X.K (.ref f) = true) (hb : Binds X.K fd ps []) (tk : Takes X W) (ha : PA X (e :: es) (denA X.K cl W m)) (hdb : (x == ("__debug__" : Str)) = false := by decide) (he : starEach (e :: es) X.env = (false, eval e X.env) :: starEach es X.env := by rfl)
    (hpl : (backTo pos (starEach es X.env)).any (·.1) = false := by rfl) : PE X (.Call (.Name x p) (e :: es) [] pos) (denE X.K cl W (callM g m)) := by
  refine PE.imp (pe_callSD (E := fun σ cls d H' => W cls d σ H') F hr hg hm hk hb .nil (fun σ => passAt2 tk σ) ha hdb he hpl) fun σ H Q q => ?_
  obtain ⟨B, F, as, s, st, r, o, p⟩ := q
  refine ⟨B, F, as, s, st, r, o, post_mono (post_bind p) fun vs st1 F1 as1 H1 ev g1 r1 q us hus => ?_⟩
  show spV X.K cl g (us ++ []) H1 Q _
  rw [List.append_nil]
  refine ⟨B, F1, as1, vs, st1, r1, hus, ?_⟩
  revert q
  cases g vs st1 with
  | ok v st2 => exact fun q => q
  | exc c p st2 => exact fun q => q
  | no => exact fun q => q
end
end Pd

set_option Elab.async false
set_option linter.all false
set_option maxRecDepth 100000
set_option maxHeartbeats 4000000
/-! Pd3: targets, statements, loops, comprehensions, defs. -/
namespace Pd
open PySem L2
inductive Out where
  | nx (s : Slots) (st : Store)
  | rt (v : Vl) (st : Store)
  | bk (s : Slots) (st : Store)
  | ct (s : Slots) (st : Store)
  | exc (c : Nat) (p : Option (Str × D)) (s : Slots) (st : Store)
  | no
abbrev SM := Slots → Store → Out
abbrev IM := Slots → Store → Res (List D)
abbrev BM := Vl → Slots → Option Slots
def bindS {α : Type} (r : Res α) (s : Slots) (k : α → Store → Out) : Out := match r with
  | .ok a st => k a st
  | .exc c p st => .exc c p s st
  | .no => .no
@[simp] theorem bindS_ok {α : Type} (a : α) (st : Store) (s : Slots) (k : α → Store → Out) : bindS (.ok a st) s k = k a st := nr rfl
@[simp] theorem bindS_exc {α : Type} (c : Nat) (p : Option (Str × D)) (st : Store) (s : Slots) (k : α → Store → Out) : bindS (.exc c p st : Res α) s k = .exc c p s st := nr rfl
@[simp] theorem bindS_no {α : Type} (s : Slots) (k : α → Store → Out) : bindS (.no : Res α) s k = .no := nr rfl
section
variable (K : Fr) (cl : Nat → Value) (W : WX)
def postS (B F : Hp) (as : List Addr) (Dn : Ends) : Out → Prop
  | .nx s st => ∀ σ' F' as' H', Grow B F F' as as' → RepH K B F' as' H' st → SlOk K F' as' σ' s → Dn.nx σ' H'
  | .bk s st => ∀ σ' F' as' H', Grow B F F' as as' → RepH K B F' as' H' st → SlOk K F' as' σ' s → Dn.bk σ' H'
  | .ct s st => ∀ σ' F' as' H', Grow B F F' as as' → RepH K B F' as' H' st → SlOk K F' as' σ' s → Dn.ct σ' H'
  | .rt v st => ∀ u F' as' H', Grow B F F' as as' → RepH K B F' as' H' st → VlOk K F' as' u v → Dn.rt u H'
  | .exc c p s st => ∀ x σ' F' as' H', Grow B F F' as as' → RepH K B F' as' H' st → SlOk K F' as' σ' s → ExcAt K F' H' p x → W (cl c) x σ' H'
  | .no => False
def denS (m : SM) : TS := fun Dn σ H => ∃ B F as s st, RepH K B F as H st ∧ SlOk K F as σ s ∧ postS K cl W B F as Dn (m s st)
end
section
variable {K : Fr} {cl : Nat → Value} {W : WX} {α : Type} {B F F' : Hp} {as as' : List Addr} {σ : St} {s : Slots} {H : Hp} {Dn : Ends}
theorem postS_grow (g : Grow B F F' as as') : ∀ {r : Out}, postS K cl W B F as Dn r → postS K cl W B F' as' Dn r
  | .nx _ _, h => fun σ2 F2 as2 H2 g2 => h σ2 F2 as2 H2 (g.trans g2)
  | .bk _ _, h => fun σ2 F2 as2 H2 g2 => h σ2 F2 as2 H2 (g.trans g2)
  | .ct _ _, h => fun σ2 F2 as2 H2 g2 => h σ2 F2 as2 H2 (g.trans g2)
  | .rt _ _, h => fun u F2 as2 H2 g2 => h u F2 as2 H2 (g.trans g2)
  | .exc _ _ _ _, h => fun x σ2 F2 as2 H2 g2 => h x σ2 F2 as2 H2 (g.trans g2)
  | .no, h => h
theorem postS_bind {r : Res α} {k : α → Store → Out} (o : SlOk K F as σ s) (h : postS K cl W B F as Dn (bindS r s k)) : postR K cl W B F as σ (fun a st F1 as1 _ => postS K cl W B F1 as1 Dn (k a st)) r := by
  cases r with
  | ok a st => exact fun F2 as2 H2 g2 r2 => postS_grow g2 h
  | exc c p st => exact fun x F2 as2 H2 g2 r2 e => h x σ F2 as2 H2 g2 r2 (o.mono g2) e
  | no => exact h
/-- an expression, then the rest of a statement -/
theorem denS_bind {f : Slots → Store → Res α} {k : α → Slots → Store → Out} {G2 : α → Store → Hp → List Addr → Hp → Prop} (h : denS K cl W (fun s st => bindS (f s st) s fun a st1 => k a s st1) Dn σ H)
    (hk : ∀ B F as s a st1 H1, RepH K B F as H1 st1 → SlOk K F as σ s → postS K cl W B F as Dn (k a s st1) → G2 a st1 F as H1) : den K cl W f σ H G2 := by
  obtain ⟨B, F, as, s, st, r, o, p⟩ := h
  exact ⟨B, F, as, s, st, r, o, post_mono (postS_bind o p) fun a st1 F1 as1 H1 _ g1 r1 q => hk B F1 as1 s a st1 H1 r1 (o.mono g1) q⟩
end

/-! ### targets -/
def bName (i : Nat) : BM := fun v s => some (s.set i (some v))
def bAll : List BM → List D → Slots → Option Slots
  | [], [], s => some s
  | b :: bs, d :: ds, s => (b (.dat d) s).bind fun s1 => bAll bs ds s1
  | _, _, _ => none
def bTup (bs : List BM) : BM := fun v s => match v with
  | .dat (.tuple ds) => bAll bs ds s
  | _ => none
/-- a target's reading; is: the slots it may store -/
def denG (K : Fr) (is : List Nat) (b : BM) : TG := fun u σ H Q => ∃ B F as s st v s', RepH K B F as H st ∧ SlOk K F as σ s ∧ VlOk K F as u v ∧ b v s = some s' ∧
  ∀ σ', SlOk K F as σ' s' → σ'.length = σ.length → (∀ j, j ∉ is → σ'[j]? = σ[j]?) → Q σ' H
def denGs (K : Fr) (is : List Nat) (bs : List BM) : TGs := fun us σ H Q => ∃ B F as s st ds s', RepH K B F as H st ∧ SlOk K F as σ s ∧ RpA K F us ds ∧ bAll bs ds s = some s' ∧
  ∀ σ', SlOk K F as σ' s' → σ'.length = σ.length → (∀ j, j ∉ is → σ'[j]? = σ[j]?) → Q σ' H
section
variable {X : Cx} {pos : Pos}
theorem PG.imp {e : Expr} {t t' : TG} (h : PG X e t) (k : ∀ v σ H Q, t' v σ H Q → t v σ H Q) : PG X e t' := ⟨fun pins s σ H v u Q I r q => h.run pins s σ H v u Q I r (k v σ H Q q)⟩
theorem PGs.imp {e : List Expr} {t t' : TGs} (h : PGs X e t) (k : ∀ v σ H Q, t' v σ H Q → t v σ H Q) : PGs X e t' := ⟨fun pins s σ H v u Q I r q => h.run pins s σ H v u Q I r (k v σ H Q q)⟩
theorem qg_name (i : Nat) {x : Str} (hN : X.N.Nodup) (hi : X.N[i]? = some x := by rfl) (hx : Loc X.env.scope x := by first | exact Or.inl rfl | exact Or.inr rfl) (hf : X.fn x = true ∨ X.env.scope.names.lookup x = some .local := by first | exact .inl rfl | exact .inr rfl | assumption) :
    PG X (.Name x pos) (denG X.K [i] (bName i)) := PG.imp (pg_name hN hi hx hf) fun u σ H Q q => by
  obtain ⟨B, F, as, s, st, v, s', r, o, k, e, q⟩ := q
  cases e
  refine q _ (o.set k) (by simp) fun j hj => ?_
  rw [List.getElem?_set_ne (fun z => hj (by simp [z]))]
theorem qgs_nil {is : List Nat} : PGs X [] (denGs X.K is []) := PGs.imp pgs_nil fun us σ H Q q => by
  obtain ⟨B, F, as, s, st, ds, s', r, o, k, e, q⟩ := q
  cases ds with
  | nil =>
    cases e
    cases k
    exact ⟨rfl, q _ o rfl fun _ _ => rfl⟩
  | cons d ds => cases e
theorem qgs_cons {e : Expr} {es : List Expr} {is js : List Nat} {b : BM} {bs : List BM} (h1 : PG X e (denG X.K is b)) (h2 : PGs X es (denGs X.K js bs))
    (hs : (assignEach (e :: es) X.env).map (·.2) = assign e X.env :: (assignEach es X.env).map (·.2) := by rfl) : PGs X (e :: es) (denGs X.K (is ++ js) (b :: bs)) := PGs.imp (pgs_cons h1 h2 hs) fun us σ H Q q => by
  obtain ⟨B, F, as, s, st, ds, s', r, o, k, e, q⟩ := q
  cases ds with
  | nil => cases e
  | cons d ds =>
    cases k with
    | cons k1 k2 =>
      unfold bAll at e
      cases e1 : b (.dat d) s with
      | none => rw [e1] at e; cases e
      | some s1 =>
        rw [e1] at e
        refine ⟨_, _, rfl, B, F, as, s, st, _, s1, r, o, .dat k1, e1, fun σ1 o1 l1 n1 => ?_⟩
        refine ⟨B, F, as, s1, st, ds, s', r, o1, k2, e, fun σ2 o2 l2 n2 => ?_⟩
        refine q σ2 o2 (l2.trans l1) fun j hj => ?_
        rw [n2 j (fun z => hj (List.mem_append_right _ z)), n1 j (fun z => hj (List.mem_append_left _ z))]
theorem qg_tup {es : List Expr} {k : Nat} {is : List Nat} {bs : List BM} {n : Nat} (hc : X.calm = true) (h : PGs X es (denGs X.K is bs)) (hn : (assignEach es X.env).length = n := by rfl) (hb : bs.length = n := by rfl) (hst : (assignEach es X.env).findIdx? (·.1) = none := by rfl) :
    PG X (.Tuple es k pos) (denG X.K is (bTup bs)) := PG.imp (pg_tup hc h hn hst) fun u σ H Q q => by
  obtain ⟨B, F, as, s, st, v, s', r, o, k, e, q⟩ := q
  unfold bTup at e
  split at e
  · rename_i ds
    cases k with
    | dat k =>
      cases k with
      | tup k1 k2 =>
        have hl : ∀ (bs : List BM) (ds : List D) (s s' : Slots), bAll bs ds s = some s' → ds.length = bs.length := by
          intro bs
          induction bs with
          | nil => intro ds s s' e; cases ds with
            | nil => rfl
            | cons d ds => cases e
          | cons b bs ih => intro ds s s' e; cases ds with
            | nil => cases e
            | cons d ds =>
              unfold bAll at e
              cases e1 : b (.dat d) s with
              | none => rw [e1] at e; cases e
              | some s1 =>
                rw [e1] at e
                simp [ih ds s1 s' e]
        refine ⟨_, _, rfl, sqt_mono r.fh k1, ?_, B, F, as, s, st, ds, s', r, o, k2, e, q⟩
        rw [k2.len, hl _ _ _ _ e, hb]
  · cases e
end

/-! ### statements -/
def setM (i : Nat) (f : EM) : SM := fun s st => bindS (f s st) s fun v st1 => .nx (s.set i (some v)) st1
def asgM (b : BM) (f : EM) : SM := fun s st => bindS (f s st) s fun v st1 => match b v s with
  | some s' => .nx s' st1
  | none => .no
def parM (i j : Nat) (m : AM) : SM := fun s st => bindS (m s st) s fun vs st1 => match vs with
  | [v, w] => .nx ((s.set i (some v)).set j (some w)) st1
  | _ => .no
def seqM (a b : SM) : SM := fun s st => match a s st with
  | .nx s' st' => b s' st'
  | o => o
def skipM : SM := fun s st => .nx s st
def ifS (c : TM) (a b : SM) : SM := fun s st => bindS (c s st) s fun k st1 => if k = true then a s st1 else b s st1
def retM (f : EM) : SM := fun s st => bindS (f s st) s fun v st1 => .rt v st1
def retN : SM := fun _ st => .rt (.dat .none) st
def dropM (f : EM) : SM := fun s st => bindS (f s st) s fun _ st1 => .nx s st1
def brkM : SM := fun s st => .bk s st
def cntM : SM := fun s st => .ct s st
def raiseM (c : Nat) : SM := fun s st => .exc c none s st
def loopM (g : D → SM) : List D → SM
  | [], s, st => .nx s st
  | d :: r, s, st => match g d s st with
    | .nx s' st' => loopM g r s' st'
    | .ct s' st' => loopM g r s' st'
    | .bk s' st' => .nx s' st'
    | o => o
def tgM (b : BM) (body : SM) : D → SM := fun d s st => match b (.dat d) s with
  | some s' => body s' st
  | none => .no
def forM (b : BM) (it : IM) (body : SM) : SM := fun s st => bindS (it s st) s fun ds st1 => loopM (tgM b body) ds s st1
def whileN (c : TM) (b : SM) : Nat → SM
  | 0, _, _ => .no
  | n + 1, s, st => bindS (c s st) s fun k st1 => if k = true then (match b s st1 with
    | .nx s' st' => whileN c b n s' st'
    | .ct s' st' => whileN c b n s' st'
    | .bk s' st' => .nx s' st'
    | o => o) else .nx s st1
open Classical in
noncomputable def whileM (c : TM) (b : SM) : SM := fun s st => if h : ∃ n, whileN c b n s st ≠ .no then whileN c b h.choose s st else .no
theorem whileN_more (c : TM) (b : SM) : ∀ (n : Nat) (s : Slots) (st : Store), whileN c b n s st ≠ .no → whileN c b (n + 1) s st = whileN c b n s st
  | 0, _, _, h => absurd rfl h
  | n + 1, s, st, h => by
    rw [whileN] at h
    rw [whileN, whileN]
    cases e : c s st with
    | exc c p z => rfl
    | no => rfl
    | ok k st1 =>
      rw [e, bindS_ok] at h
      rw [bindS_ok, bindS_ok]
      cases k with
      | false => rfl
      | true =>
        simp only [if_true] at h ⊢
        cases e2 : b s st1 with
        | nx s' st' => rw [e2] at h; exact whileN_more c b n s' st' h
        | ct s' st' => rw [e2] at h; exact whileN_more c b n s' st' h
        | bk s' st' => rfl
        | rt v st' => rfl
        | exc c p s' st' => rfl
        | no => rfl
theorem whileN_le (c : TM) (b : SM) {n m : Nat} (s : Slots) (st : Store) (h : whileN c b n s st ≠ .no) (k : n ≤ m) : whileN c b m s st = whileN c b n s st := by
  induction k with
  | refl => rfl
  | step k ih => rw [whileN_more c b _ s st (by rw [ih]; exact h), ih]
theorem whileM_eq {c : TM} {b : SM} {n : Nat} {s : Slots} {st : Store} {o : Out} (h : whileN c b n s st = o) (ho : o ≠ .no) : whileM c b s st = o := by
  have hx : ∃ n, whileN c b n s st ≠ .no := ⟨n, by rw [h]; exact ho⟩
  unfold whileM
  rw [dif_pos hx]
  have h2 := hx.choose_spec
  rw [← whileN_le c b s st h2 (Nat.le_max_left hx.choose n), whileN_le c b s st (by rw [h]; exact ho) (Nat.le_max_right hx.choose n)]
  exact h
section
variable {X : Cx} {cl : Nat → Value} {W : WX} {e a b t : Expr} {pos : Pos} {f g : EM} {m : AM} {c d : TM} {st : Stmt} {rest body : List Stmt} {u w : SM} {it : IM}
theorem qs_set (i : Nat) {x : Str} {pos' : Pos} (hN : X.N.Nodup) (he : PE X e (denE X.K cl W f)) (hi : X.N[i]? = some x := by rfl) (hx : Loc X.env.scope x := by first | exact Or.inl rfl | exact Or.inr rfl) (hs : swapsWith e (some (.Name x pos')) pos.line X.env = pure false := by rfl)
    (hf : X.fn x = true ∨ X.env.scope.names.lookup x = some .local := by first | exact .inl rfl | exact .inr rfl | assumption) : PS X (.Assign [.Name x pos'] e pos) (denS X.K cl W (setM i f)) := PS.imp (ps_set hN hi hx he hs hf) fun Dn σ H q =>
  denS_bind q fun B F as s v st1 H1 r1 o1 q u hu => q _ F as H1 Grow.refl r1 (o1.set hu)
theorem qs_asg {tg : Expr} {is : List Nat} {b : BM} (he : PE X e (denE X.K cl W f)) (hg : PG X tg (denG X.K is b)) (hs : swapsWithSole [tg] e pos.line X.env = pure false := by rfl) (hw : swappedStores [tg] e X.env = pure none := by rfl)
    (h1 : (assignEach [tg] X.env).map (·.2) = [assign tg X.env] := by rfl) : PS X (.Assign [tg] e pos) (denS X.K cl W (asgM b f)) := PS.imp (ps_asg he hg hs hw h1) fun Dn σ H q =>
  denS_bind q fun B F as s v st1 H1 r1 o1 q u hu => by
    split at q
    · rename_i s' e
      exact ⟨B, F, as, s, st1, v, s', r1, o1, hu, e, fun σ' o' _ _ => q σ' F as H1 Grow.refl r1 o'⟩
    · exact q.elim
theorem qs_par (i j : Nat) {x y : Str} {px py pt : Pos} {kt k2 : Nat} {pt2 : Pos} (hc : X.calm = true) (hN : X.N.Nodup) (ha : PA X [a, b] (denA X.K cl W m)) (hi : X.N[i]? = some x) (hj : X.N[j]? = some y) (hij : i ≠ j)
    (hx : X.env.scope.names.lookup x = some .local) (hy : X.env.scope.names.lookup y = some .local)
    (hw : swappedStores [.Tuple [.Name x px, .Name y py] kt pt] (.Tuple [a, b] k2 pt2) X.env = pure (some [x, y]))
    (hs : swapsWithSole [.Tuple [.Name x px, .Name y py] kt pt] (.Tuple [a, b] k2 pt2) pos.line X.env = pure false := by rfl) :
    PS X (.Assign [.Tuple [.Name x px, .Name y py] kt pt] (.Tuple [a, b] k2 pt2) pos) (denS X.K cl W (parM i j m)) := PS.imp (ps_par hc hN hi hj hij hx hy ha hw hs) fun Dn σ H q =>
  denS_bind q fun B F as s vs st1 H1 r1 o1 q us hus => by
    split at q
    · cases hus with
      | cons h1 h2 =>
        cases h2 with
        | cons h2 h3 =>
          cases h3
          exact ⟨_, _, rfl, q _ F as H1 Grow.refl r1 ((o1.set h1).set h2)⟩
    · exact q.elim
theorem qss_nil : PSs X [] (denS X.K cl W skipM) := PSs.imp pss_nil fun Dn σ H q => by
  obtain ⟨B, F, as, s, st, r, o, p⟩ := q
  exact p σ F as H Grow.refl r o
theorem seqM_den {K : Fr} {Dn : Ends} {σ : St} {H : Hp} (q : denS K cl W (seqM u w) Dn σ H) : tSeq (denS K cl W u) (denS K cl W w) Dn σ H := by
  obtain ⟨B, F, as, s, st, r, o, p⟩ := q
  refine ⟨B, F, as, s, st, r, o, ?_⟩
  unfold seqM at p
  cases e : u s st with
  | nx s' st' =>
    rw [e] at p
    exact fun σ' F' as' H' g' r' o' => ⟨B, F', as', s', st', r', o', postS_grow g' p⟩
  | rt v st' => rw [e] at p; exact p
  | bk s' st' => rw [e] at p; exact p
  | ct s' st' => rw [e] at p; exact p
  | exc c p2 s' st' => rw [e] at p; exact p
  | no => rw [e] at p; exact p
theorem qss_cons (h1 : PS X st (denS X.K cl W u)) (h2 : PSs X rest (denS X.K cl W w)) : PSs X (st :: rest) (denS X.K cl W (seqM u w)) := PSs.imp (pss_cons h1 h2) fun _ _ _ q => seqM_den q
theorem qss_one (h1 : PS X st (denS X.K cl W u)) : PSs X [st] (denS X.K cl W u) := pss_one h1
theorem qs_pass : PS X (.Pass pos) (denS X.K cl W skipM) := PS.imp ps_pass fun Dn σ H q => by
  obtain ⟨B, F, as, s, st, r, o, p⟩ := q
  exact p σ F as H Grow.refl r o
theorem qs_break : PS X (.Break pos) (denS X.K cl W brkM) := PS.imp ps_break fun Dn σ H q => by
  obtain ⟨B, F, as, s, st, r, o, p⟩ := q
  exact p σ F as H Grow.refl r o
theorem qs_continue : PS X (.Continue pos) (denS X.K cl W cntM) := PS.imp ps_continue fun Dn σ H q => by
  obtain ⟨B, F, as, s, st, r, o, p⟩ := q
  exact p σ F as H Grow.refl r o
theorem qs_expr (he : PE X e (denE X.K cl W f)) (hs : swapsWith e none pos.line X.env = pure false := by rfl) : PS X (.Expr e pos) (denS X.K cl W (dropM f)) := PS.imp (ps_expr he hs) fun Dn σ H q =>
  denS_bind q fun B F as s v st1 H1 r1 o1 q u hu => q σ F as H1 Grow.refl r1 o1
theorem qs_ret (he : PE X e (denE X.K cl W f)) : PS X (.Return (some e) pos) (denS X.K cl W (retM f)) := PS.imp (ps_ret he) fun Dn σ H q =>
  denS_bind q fun B F as s v st1 H1 r1 o1 q u hu => q u F as H1 Grow.refl r1 hu
theorem qs_retN : PS X (.Return none pos) (denS X.K cl W retN) := PS.imp ps_retN fun Dn σ H q => by
  obtain ⟨B, F, as, s, st, r, o, p⟩ := q
  exact p .non F as H Grow.refl r (.dat .non)
theorem qs_if {x y : List Stmt} (hc : PT X t (denT X.K cl W c)) (ha : PSs X x (denS X.K cl W u)) (hb : PSs X y (denS X.K cl W w)) : PS X (.If t x y pos) (denS X.K cl W (ifS c u w)) := PS.imp (ps_if hc ha hb) fun Dn σ H q =>
  denS_bind q fun B F as s k st1 H1 r1 o1 q => by
    cases k with
    | true => exact ⟨B, F, as, s, st1, r1, o1, q⟩
    | false => exact ⟨B, F, as, s, st1, r1, o1, q⟩
theorem qs_raise {e : Expr} {C : Nat} (hc : X.calm = true) (tk : Takes X W) (he : PMk X e (fun _ H Q => Q (cl C) none H)) : PS X (.Raise (some e) none pos) (denS X.K cl W (raiseM C)) := PS.imp (ps_raise hc tk he) fun Dn σ H q => by
  obtain ⟨B, F, as, s, st, r, o, p⟩ := q
  exact p none σ F as H Grow.refl r o rfl
end

/-! ### what is walked -/
/-- J walks the data ds -/
structure Iter (K : Fr) (F : Hp) (J : It) (ds : List D) : Prop where
  go : ∀ i F1 H1, Same F F1 → Same F1 H1 → i < ds.length → J.go i H1
  stop : ∀ F1 H1, Same F F1 → Same F1 H1 → J.stop ds.length H1
  yld : ∀ i F1 H1 x H1' d, Same F F1 → Same F1 H1 → ds[i]? = some d → J.yld i H1 x H1' → ∃ F2, Ext F1 H1 F2 H1' ∧ Rp K F2 x d
def denI (K : Fr) (cl : Nat → Value) (W : WX) (m : IM) : TI := fun σ H R => den K cl W m σ H fun ds _ F' _ H' => ∀ J, Iter K F' J ds → R J H'
theorem iter_of {K : Fr} {F : Hp} {J : It} {ds : List D} {G : Hp → Prop} {Y : Nat → Hp → V → Hp → Prop} (w : Walk J ds.length G Y) (hG : ∀ F1 H1, Same F F1 → Same F1 H1 → G H1)
    (hY : ∀ i F1 H1 x H1' d, Same F F1 → Same F1 H1 → ds[i]? = some d → Y i H1 x H1' → ∃ F2, Ext F1 H1 F2 H1' ∧ Rp K F2 x d) : Iter K F J ds where
  go := fun i F1 H1 e1 e2 hi => w.goes i H1 hi (hG F1 H1 e1 e2)
  stop := fun F1 H1 e1 e2 => w.stops H1 (hG F1 H1 e1 e2)
  yld := fun i F1 H1 x H1' d e1 e2 hd y => hY i F1 H1 x H1' d e1 e2 hd (w.yields i H1 x H1' (List.getElem?_eq_some_iff.mp hd).1 (hG F1 H1 e1 e2) y)
theorem iter_at {K : Fr} {F : Hp} {J : It} {ds : List D} {vs : List V} {G : Hp → Prop} (h : RpA K F vs ds) (w : Walk J vs.length G (YAt vs)) (hG : ∀ F1 H1, Same F F1 → Same F1 H1 → G H1) : Iter K F J ds := by
  rw [h.len] at w
  refine iter_of w hG fun i F1 H1 x H1' d e1 e2 hd y => ?_
  obtain ⟨rfl, hx⟩ := y
  obtain ⟨d', e3, e4⟩ := h.getV hx
  rw [hd] at e3
  cases e3
  exact ⟨F1, Ext.refl e2, e4.mono e1⟩
/-- frozen lists and tuples; the script -/
def itM (f : EM) : IM := fun s st => (f s st).bind fun v st1 => match v with
  | .scr ns => .ok (ns.map .int) st1
  | .dat d => (match d with
    | .list ds => .ok ds st1
    | .tuple ds => .ok ds st1
    | _ => .no)
  | .cel k => (toD (.cel k) st1).bind fun d st2 => match d with
    | .list ds => .ok ds st2
    | _ => .no
/-- the source is a tuple -/
def itT (f : EM) : IM := fun s st => (f s st).bind fun v st1 => match v with
  | .dat (.tuple ds) => .ok ds st1
  | _ => .no
/-- the source is a list -/
def itL (f : EM) : IM := fun s st => (f s st).bind fun v st1 => match v with
  | .scr ns => .ok (ns.map .int) st1
  | .dat (.list ds) => .ok ds st1
  | .cel k => (toD (.cel k) st1).bind fun d st2 => match d with
    | .list ds => .ok ds st2
    | _ => .no
  | _ => .no
section
variable {X : Cx} {cl : Nat → Value} {W : WX} {tg l : Expr} {f : EM}
theorem PI.or {t t' : TI} (h : PI X tg l t) (h' : PI X tg l t') : PI X tg l (fun σ H R => t σ H R ∨ t' σ H R) := ⟨fun pins s σ H R I q => q.elim (h.run pins s σ H R I) (h'.run pins s σ H R I)⟩
theorem itL_den {K : Fr} {σ : St} {H : Hp} {R : It → Hp → Prop} (q : denI K cl W (itL f) σ H R) : iList K (denE K cl W f) σ H R := by
  refine den_bind q fun B F as s v st1 H1 r1 o1 q u hu => ?_
  split at q
  · rename_i ns
    cases hu with
    | scr hu =>
      refine ⟨_, rfl, ⟨_, sql_mono r1.fh hu⟩, post_ok q r1 _ ?_⟩
      exact iter_at (RpA.ints ns) walk_list fun F1 H1 e1 e2 => sql_mono (e1.trans e2) hu
  · rename_i ds
    cases hu with
    | dat hu =>
      cases hu with
      | lst h1 h2 =>
        refine ⟨_, rfl, ⟨_, .inl (.inl (r1.fh _ _ h1))⟩, post_ok q r1 _ ?_⟩
        exact iter_at h2 walk_list fun F1 H1 e1 e2 => .inl (.inl (e2 _ _ (e1 _ _ h1)))
  · rename_i k
    rcases toD_res (.cel k) st1 with ⟨d, st2, e⟩ | e
    · rw [e, Res.bind_ok] at q
      obtain ⟨F2, g2, r2, p2⟩ := toD_ok r1 hu e
      split at q
      · rename_i ds
        cases p2 with
        | lst h1 h2 =>
          refine ⟨_, rfl, ⟨_, .inl (.inl (r2.fh _ _ h1))⟩, q F2 as H1 g2 r2 _ ?_⟩
          exact iter_at h2 walk_list fun F1 H1 e1 e2 => .inl (.inl (e2 _ _ (e1 _ _ h1)))
      · exact q.elim
    · rw [e] at q
      exact q.elim
  · exact q.elim
theorem itT_den {K : Fr} {σ : St} {H : Hp} {R : It → Hp → Prop} (q : denI K cl W (itT f) σ H R) : iTup K (denE K cl W f) σ H R := by
  refine den_bind q fun B F as s v st1 H1 r1 o1 q u hu => ?_
  split at q
  · rename_i ds
    cases hu with
    | dat hu =>
      cases hu with
      | tup h1 h2 =>
        refine ⟨_, rfl, ⟨_, sqt_mono r1.fh h1⟩, post_ok q r1 _ ?_⟩
        exact iter_at h2 walk_tup fun F1 H1 e1 e2 => sqt_mono (e1.trans e2) h1
  · exact q.elim
theorem itM_split {K : Fr} {σ : St} {H : Hp} {R : It → Hp → Prop} (q : denI K cl W (itM f) σ H R) : denI K cl W (itL f) σ H R ∨ denI K cl W (itT f) σ H R := by
  obtain ⟨B, F, as, s, st, r, o, p⟩ := q
  have key : itM f s st = itL f s st ∨ itM f s st = itT f s st := by
    unfold itM itL itT
    cases f s st with
    | exc c p z => exact .inl rfl
    | no => exact .inl rfl
    | ok v st1 =>
      simp only [Res.bind_ok]
      cases v with
      | scr ns => exact .inl rfl
      | cel k => exact .inl rfl
      | dat d =>
        cases d with
        | list ds => exact .inl rfl
        | tuple ds => exact .inr rfl
        | none => exact .inl rfl
        | bool _ => exact .inl rfl
        | int _ => exact .inl rfl
        | str _ => exact .inl rfl
        | dict _ => exact .inl rfl
  rcases key with e | e
  · exact .inl ⟨B, F, as, s, st, r, o, e ▸ p⟩
  · exact .inr ⟨B, F, as, s, st, r, o, e ▸ p⟩
theorem qi_data (h : PE X l (denE X.K cl W f)) : PI X tg l (denI X.K cl W (itM f)) := PI.imp (PI.or (pi_list h) (pi_tup h)) fun σ H R q => (itM_split q).imp itL_den itT_den
end
end Pd

set_option Elab.async false
set_option linter.all false
set_option maxRecDepth 100000
set_option maxHeartbeats 4000000
/-! Pd4: ranges, zip, enumerate, reversed; for, while; comprehensions; defs. -/
namespace Pd
open PySem L2 RZ
/-! ranges, zip, enumerate, reversed -/
def rngD (a : Int) (n : Nat) (c : Int) : List D := (List.range n).map fun (i : Nat) => PyData.int (a + (i : Int) * c)
@[simp] theorem rngD_len (a : Int) (n : Nat) (c : Int) : (rngD a n c).length = n := by unfold rngD; simp
theorem rngD_get {a : Int} {n : Nat} {c : Int} {i : Nat} {d : D} (h : (rngD a n c)[i]? = some d) : d = .int (a + (i : Int) * c) := by
  have hi : i < n := by
    have := (List.getElem?_eq_some_iff.mp h).1
    simpa using this
  unfold rngD at h
  rw [List.getElem?_map, List.getElem?_range hi] at h
  exact (Option.some.inj h).symm
def rng1M (m : AM) : IM := fun s st => (m s st).bind fun vs st1 => match vs with
  | [.dat (.int j)] => if -(2 ^ 62) ≤ j ∧ j < 2 ^ 62 then .ok (rngD 0 j.toNat 1) st1 else .no
  | _ => .no
def rng2M (m : AM) : IM := fun s st => (m s st).bind fun vs st1 => match vs with
  | [.dat (.int i), .dat (.int j)] => if -(2 ^ 62) ≤ i ∧ i < 2 ^ 62 ∧ -(2 ^ 62) ≤ j ∧ j < 2 ^ 62 then .ok (rngD i (j - i).toNat 1) st1 else .no
  | _ => .no
/-- range(i, j, -1) -/
def rngDownM (m : AM) : IM := fun s st => (m s st).bind fun vs st1 => match vs with
  | [.dat (.int i), .dat (.int j), .dat (.int c)] => if (-(2 ^ 62) ≤ i ∧ i < 2 ^ 62 ∧ -(2 ^ 62) ≤ j ∧ j < 2 ^ 62) ∧ c = -1 then .ok (rngD i (i - j).toNat (-1)) st1 else .no
  | _ => .no
def seqOf (v : Vl) (st : Store) : Option (Bool × List D) := match peek v st with
  | some (.list ds) => some (true, ds)
  | some (.tuple ds) => some (false, ds)
  | _ => none
def zipD (xs ys : List D) : List D := (xs.zip ys).map fun p => .tuple [p.1, p.2]
theorem zipD_len (xs ys : List D) : (zipD xs ys).length = min xs.length ys.length := by unfold zipD; simp
theorem zipD_get {xs ys : List D} {i : Nat} {d : D} (h : (zipD xs ys)[i]? = some d) : ∃ x y, xs[i]? = some x ∧ ys[i]? = some y ∧ d = .tuple [x, y] := by
  unfold zipD at h
  rw [List.getElem?_map] at h
  cases e : (xs.zip ys)[i]? with
  | none => rw [e] at h; cases h
  | some p =>
    rw [e] at h
    cases h
    obtain ⟨x, y⟩ := p
    rw [List.getElem?_zip_eq_some] at e
    exact ⟨x, y, e.1, e.2, rfl⟩
def enumD (xs : List D) : List D := zipD (rngD 0 xs.length 1) xs
/-- zip of two lists or of two tuples: both frozen -/
def zipM (m : AM) : IM := fun s st => (m s st).bind fun vs st1 => (toDs vs st1).bind fun ds st2 => match ds with
  | [.list xs, .list ys] => .ok (zipD xs ys) st2
  | [.tuple xs, .tuple ys] => .ok (zipD xs ys) st2
  | _ => .no
def enumM (m : AM) : IM := fun s st => (m s st).bind fun vs st1 => (toDs vs st1).bind fun ds st2 => match ds with
  | [.list xs] => .ok (enumD xs) st2
  | _ => .no
def revM (m : AM) : IM := fun s st => (m s st).bind fun vs st1 => (toDs vs st1).bind fun ds st2 => match ds with
  | [.list xs] => .ok xs.reverse st2
  | _ => .no
theorem walk_zipT {K : Fr} {a b : Addr} {xs ys : List V} {n : Nat} (hn : n = min xs.length ys.length) : Walk (ItzT K a b) n (fun H => SqT K H a xs ∧ SqT K H b ys) (YPair (fun i => xs[i]?) (fun i => ys[i]?)) := by
  subst hn
  refine ⟨fun i _ hi q => ?_, fun _ q => ⟨xs, ys, q.1, q.2, by omega⟩, fun i H v H' _ q y => ?_⟩
  · have h1 : i < xs.length := by omega
    have h2 : i < ys.length := by omega
    exact ⟨xs, ys, xs[i], ys[i], q.1, q.2, by simp [h1], by simp [h2]⟩
  · obtain ⟨T, x, z, h1, h2, h3, h4, h5⟩ := y
    exact ⟨T, x, z, h1, h2, h3, h4 xs q.1, h5 ys q.2⟩
theorem iter_pair {K : Fr} {F : Hp} {J : It} {xs ys : List D} {vs ws : List V} {G : Hp → Prop} (h1 : RpA K F vs xs) (h2 : RpA K F ws ys) (w : Walk J (min vs.length ws.length) G (YPair (fun i => vs[i]?) (fun i => ws[i]?))) (hG : ∀ F1 H1, Same F F1 → Same F1 H1 → G H1) : Iter K F J (zipD xs ys) := by
  rw [h1.len, h2.len, ← zipD_len] at w
  refine iter_of w hG fun i F1 H1 x H1' d e1 e2 hd y => ?_
  obtain ⟨T, p, q, rfl, hT, rfl, hp, hq⟩ := y
  obtain ⟨a, b, ha, hb, rfl⟩ := zipD_get hd
  obtain ⟨a', ea, ra⟩ := h1.getV hp
  rw [ha] at ea
  cases ea
  obtain ⟨b', eb, rb⟩ := h2.getV hq
  rw [hb] at eb
  cases eb
  have x := Ext.new (o := .tup [p, q]) e2 hT
  exact ⟨_, x, .tup (.inl (.inl upd_same)) (.cons (ra.mono (e1.trans x.f)) (.cons (rb.mono (e1.trans x.f)) .nil))⟩
section
variable {X : Cx} {cl : Nat → Value} {W : WX} {tg a b c : Expr} {m : AM} {p pos tpos : Pos} {elts : List Expr} {kk : Nat}
theorem vl_int {K : Fr} {F : Hp} {as : List Addr} {u : V} {i : Int} (h : VlOk K F as u (.dat (.int i))) : u = .int i := by
  cases h with
  | dat h => cases h; rfl
theorem iter_rng {K : Fr} {F : Hp} {i : Int} {n : Nat} : Iter K F (Itr i n) (rngD i n 1) := by
  refine iter_of (G := fun _ => True) (by rw [rngD_len]; exact walk_range) (fun _ _ _ _ => trivial) fun j F1 H1 x H1' d e1 e2 hd y => ?_
  obtain ⟨rfl, rfl⟩ := y
  rw [rngD_get hd, Int.mul_one]
  exact ⟨F1, Ext.refl e2, .int _⟩
theorem iter_rngC {K : Fr} {F : Hp} {i c : Int} {n : Nat} : Iter K F (Itc i c n) (rngD i n c) := by
  refine iter_of (G := fun _ => True) (by rw [rngD_len]; exact walk_rangeC) (fun _ _ _ _ => trivial) fun j F1 H1 x H1' d e1 e2 hd y => ?_
  obtain ⟨rfl, rfl⟩ := y
  rw [rngD_get hd]
  exact ⟨F1, Ext.refl e2, .int _⟩
theorem qi_rng1 (hg : Gl X "range") (hm : X.mg "range" = none) (ha : PA X [a] (denA X.K cl W m)) (hs : starEach [a] X.env = [(false, eval a X.env)] := by rfl) : PI X tg (.Call (.Name "range" p) [a] [] pos) (denI X.K cl W (rng1M m)) :=
  PI.imp (pi_range1 hg hm ha hs) fun σ H R q => by
    refine den_bind q fun B F as s vs st1 H1 r1 o1 q us hu => ?_
    split at q
    · rename_i j
      cases hu with
      | cons h1 h2 =>
        cases h2
        split at q
        · rename_i hj
          rw [vl_int h1]
          exact ⟨j, rfl, hj.1, hj.2, post_ok q r1 _ iter_rng⟩
        · exact q.elim
    · exact q.elim
theorem qi_rng2 (hg : Gl X "range") (hm : X.mg "range" = none) (ha : PA X [a, b] (denA X.K cl W m)) (hs : starEach [a, b] X.env = [(false, eval a X.env), (false, eval b X.env)] := by rfl) (hs2 : starEach [b] X.env = [(false, eval b X.env)] := by rfl) :
    PI X tg (.Call (.Name "range" p) [a, b] [] pos) (denI X.K cl W (rng2M m)) :=
  PI.imp (pi_range2 hg hm ha hs hs2) fun σ H R q => by
    refine den_bind q fun B F as s vs st1 H1 r1 o1 q us hu => ?_
    split at q
    · rename_i i j
      cases hu with
      | cons h1 h2 =>
        cases h2 with
        | cons h2 h3 =>
          cases h3
          split at q
          · rename_i hj
            rw [vl_int h1, vl_int h2]
            exact ⟨i, j, rfl, hj, post_ok q r1 _ iter_rng⟩
          · exact q.elim
    · exact q.elim
theorem qi_rngDown (hg : Gl X "range") (hm : X.mg "range" = none) (ha : PA X [a, b, c] (denA X.K cl W m)) (hs : starEach [a, b, c] X.env = (false, eval a X.env) :: starEach [b, c] X.env := by rfl) (hpl : (backTo pos (starEach [b, c] X.env)).any (·.1) = false := by rfl) :
    PI X tg (.Call (.Name "range" p) [a, b, c] [] pos) (denI X.K cl W (rngDownM m)) :=
  PI.imp (pi_range3 hg hm ha hs hpl) fun σ H R q => by
    refine den_bind q fun B F as s vs st1 H1 r1 o1 q us hu => ?_
    split at q
    · rename_i i j c
      cases hu with
      | cons h1 h2 =>
        cases h2 with
        | cons h2 h3 =>
          cases h3 with
          | cons h3 h4 =>
            cases h4
            split at q
            · rename_i hj
              obtain ⟨hj, rfl⟩ := hj
              rw [vl_int h1, vl_int h2, vl_int h3]
              exact ⟨i, j, -1, _, rfl, RgC.neg hj.1 hj.2.1 hj.2.2.1 hj.2.2.2, post_ok q r1 _ iter_rngC⟩
            · exact q.elim
    · exact q.elim
theorem qi_zip (hg : Gl X "zip") (hm : X.mg "zip" = none) (ha : PA X [a, b] (denA X.K cl W m)) (hs : starEach [a, b] X.env = (false, eval a X.env) :: starEach [b] X.env := by rfl) (hpl : (backTo pos (starEach [b] X.env)).any (·.1) = false := by rfl) :
    PI X (.Tuple elts kk tpos) (.Call (.Name "zip" p) [a, b] [] pos) (denI X.K cl W (zipM m)) :=
  PI.imp (pi_zipA hg hm ha hs hpl) fun σ H R q => by
    refine den_bind q fun B F as s vs st1 H1 r1 o1 q us hu => ?_
    rcases toDs_res vs st1 with ⟨ds, st2, e⟩ | e
    · rw [e, Res.bind_ok] at q
      obtain ⟨F2, g2, r2, p2⟩ := toDs_ok r1 hu e
      split at q
      · cases p2 with
        | cons h1 h2 =>
          cases h2 with
          | cons h2 h3 =>
            cases h3
            cases h1 with
            | lst h1 h1' =>
              cases h2 with
              | lst h2 h2' =>
                refine ⟨_, _, _, _, rfl, .inl ⟨.inl (.inl (r2.fh _ _ h1)), .inl (.inl (r2.fh _ _ h2)), q F2 as H1 g2 r2 _ ?_⟩⟩
                exact iter_pair h1' h2' (walk_zip rfl) fun F1 H1 e1 e2 => ⟨.inl (.inl (e2 _ _ (e1 _ _ h1))), .inl (.inl (e2 _ _ (e1 _ _ h2)))⟩
      · cases p2 with
        | cons h1 h2 =>
          cases h2 with
          | cons h2 h3 =>
            cases h3
            cases h1 with
            | tup h1 h1' =>
              cases h2 with
              | tup h2 h2' =>
                refine ⟨_, _, _, _, rfl, .inr ⟨sqt_mono r2.fh h1, sqt_mono r2.fh h2, q F2 as H1 g2 r2 _ ?_⟩⟩
                exact iter_pair h1' h2' (walk_zipT rfl) fun F1 H1 e1 e2 => ⟨sqt_mono (e1.trans e2) h1, sqt_mono (e1.trans e2) h2⟩
      · exact q.elim
    · rw [e] at q
      exact q.elim
theorem qi_enum (hg : Gl X "enumerate") (hm : X.mg "enumerate" = none) (ha : PA X [a] (denA X.K cl W m)) (hs : starEach [a] X.env = [(false, eval a X.env)] := by rfl) :
    PI X (.Tuple elts kk tpos) (.Call (.Name "enumerate" p) [a] [] pos) (denI X.K cl W (enumM m)) :=
  PI.imp (pi_enum hg hm ha hs) fun σ H R q => by
    refine den_bind q fun B F as s vs st1 H1 r1 o1 q us hu => ?_
    rcases toDs_res vs st1 with ⟨ds, st2, e⟩ | e
    · rw [e, Res.bind_ok] at q
      obtain ⟨F2, g2, r2, p2⟩ := toDs_ok r1 hu e
      split at q
      · rename_i xs
        cases p2 with
        | cons h1 h2 =>
          cases h2
          cases h1 with
          | lst h1 h1' =>
            rename_i a' vs'
            refine ⟨_, _, rfl, .inl (.inl (r2.fh _ _ h1)), q F2 as H1 g2 r2 _ ?_⟩
            have w := walk_enum (K := X.K) (a := a') (xs := vs')
            have hl : (enumD xs).length = vs'.length := by rw [enumD, zipD_len, rngD_len, Nat.min_self, h1'.len]
            rw [← hl] at w
            refine iter_of w (fun F1 H1 e1 e2 => .inl (.inl (e2 _ _ (e1 _ _ h1)))) fun i F1 H1 x H1' d e1 e2 hd y => ?_
            obtain ⟨T, p, q, rfl, hT, rfl, hp, hq⟩ := y
            obtain ⟨z, b, hz, hb, rfl⟩ := zipD_get hd
            obtain ⟨b', eb, rb⟩ := h1'.getV hq
            rw [hb] at eb
            cases eb
            cases hp
            rw [rngD_get hz, Int.mul_one, Int.zero_add]
            have x := Ext.new (o := .tup [.int (i : Int), q]) e2 hT
            exact ⟨_, x, .tup (.inl (.inl upd_same)) (.cons (.int _) (.cons (rb.mono (e1.trans x.f)) .nil))⟩
      · exact q.elim
    · rw [e] at q
      exact q.elim
theorem qi_rev (hg : Gl X "reversed") (hm : X.mg "reversed" = none) (ha : PA X [a] (denA X.K cl W m)) (hs : starEach [a] X.env = [(false, eval a X.env)] := by rfl) :
    PI X tg (.Call (.Name "reversed" p) [a] [] pos) (denI X.K cl W (revM m)) :=
  PI.imp (pi_reversed hg hm ha hs) fun σ H R q => by
    refine den_bind q fun B F as s vs st1 H1 r1 o1 q us hu => ?_
    rcases toDs_res vs st1 with ⟨ds, st2, e⟩ | e
    · rw [e, Res.bind_ok] at q
      obtain ⟨F2, g2, r2, p2⟩ := toDs_ok r1 hu e
      split at q
      · rename_i xs
        cases p2 with
        | cons h1 h2 =>
          cases h2
          cases h1 with
          | lst h1 h1' =>
            rename_i a' vs'
            refine ⟨_, _, rfl, .inl (.inl (r2.fh _ _ h1)), q F2 as H1 g2 r2 _ ?_⟩
            have hr := h1'.reverse
            have w := walk_rev (K := X.K) (a := a') (xs := vs')
            have hl : xs.reverse.length = vs'.length := by rw [List.length_reverse, h1'.len]
            have w2 : Walk (Itv X.K a' vs'.length) xs.reverse.length (fun H => SqL X.K H a' vs') (fun i H x H' => H' = H ∧ vs'[vs'.length - 1 - i]? = some x) := by rw [hl]; exact w
            refine iter_of w2 (fun F1 H1 e1 e2 => .inl (.inl (e2 _ _ (e1 _ _ h1)))) fun i F1 H1 x H1' d e1 e2 hd y => ?_
            obtain ⟨rfl, hx⟩ := y
            have hi : i < vs'.length := by
              rw [← hl]
              exact (List.getElem?_eq_some_iff.mp hd).1
            have hx2 : vs'.reverse[i]? = some x := by
              rw [List.getElem?_reverse hi]
              exact hx
            obtain ⟨d', e3, e4⟩ := hr.getV hx2
            rw [hd] at e3
            cases e3
            exact ⟨F1, Ext.refl e2, e4.mono e1⟩
      · exact q.elim
    · rw [e] at q
      exact q.elim
end

/-! ### for, while -/
section
variable {X : Cx} {cl : Nat → Value} {W : WX} {tg iter t : Expr} {pos : Pos} {b : BM} {is : List Nat} {it : IM} {u : SM} {c : TM} {body : List Stmt}
theorem forM_den {K : Fr} {Dn : Ends} {σ : St} {H : Hp} (q : denS K cl W (forM b it u) Dn σ H) : tFor (denI K cl W it) (denG K is b) (denS K cl W u) Dn σ H := by
  refine denS_bind q fun B F as s ds st1 H1 r1 o1 q J hJ => ?_
  refine ⟨fun i m σ' H' => m = ds.length - i ∧ i ≤ ds.length ∧ ∃ F' as' s' st', Grow B F F' as as' ∧ RepH K B F' as' H' st' ∧ SlOk K F' as' σ' s' ∧ postS K cl W B F' as' Dn (loopM (tgM b u) (ds.drop i) s' st'),
    ⟨ds.length, by omega, by omega, F, as, s, st1, Grow.refl, r1, o1, q⟩, ?_⟩
  rintro i m σ' H' ⟨rfl, hi, F', as', s', st', g', r', o', q'⟩
  by_cases hlt : i < ds.length
  · have hd : ds.drop i = ds[i] :: ds.drop (i + 1) := List.drop_eq_getElem_cons hlt
    refine .inr ⟨hJ.go i F' H' g'.sub r'.fh hlt, fun σ2 H2 => ∃ F2 as2 s2 st2, Grow B F F2 as as2 ∧ RepH K B F2 as2 H2 st2 ∧ SlOk K F2 as2 σ2 s2 ∧ postS K cl W B F2 as2 Dn (loopM (tgM b u) (ds.drop (i + 1)) s2 st2),
      fun σ2 H2 ⟨F2, as2, s2, st2, g2, r2, o2, q2⟩ => ⟨ds.length - (i + 1), by omega, rfl, hlt, F2, as2, s2, st2, g2, r2, o2, q2⟩, fun x H3 y => ?_⟩
    obtain ⟨F3, x3, rp3⟩ := hJ.yld i F' H' x H3 ds[i] g'.sub r'.fh (List.getElem?_eq_getElem hlt) y
    have g3 := x3.grow r'
    have r3 := r'.ext x3
    rw [hd] at q'
    unfold loopM tgM at q'
    cases e : b (.dat ds[i]) s' with
    | none => rw [e] at q'; exact q'.elim
    | some s4 =>
      rw [e] at q'
      refine ⟨B, F3, as', s', st', .dat ds[i], s4, r3, o'.mono g3, .dat rp3, e, fun σ4 o4 _ _ => ?_⟩
      refine ⟨B, F3, as', s4, st', r3, o4, ?_⟩
      replace q' : postS K cl W B F' as' Dn (match u s4 st' with
        | .nx s' st' => loopM (tgM b u) (ds.drop (i + 1)) s' st'
        | .ct s' st' => loopM (tgM b u) (ds.drop (i + 1)) s' st'
        | .bk s' st' => .nx s' st'
        | o => o) := q'
      cases e2 : u s4 st' with
      | nx s5 st5 =>
        rw [e2] at q'
        exact fun σ5 F5 as5 H5 g5 r5 o5 => ⟨F5, as5, s5, st5, g'.trans (g3.trans g5), r5, o5, postS_grow (g3.trans g5) q'⟩
      | ct s5 st5 =>
        rw [e2] at q'
        exact fun σ5 F5 as5 H5 g5 r5 o5 => ⟨F5, as5, s5, st5, g'.trans (g3.trans g5), r5, o5, postS_grow (g3.trans g5) q'⟩
      | bk s5 st5 =>
        rw [e2] at q'
        exact fun σ5 F5 as5 H5 g5 r5 o5 => q' σ5 F5 as5 H5 (g3.trans g5) r5 o5
      | rt v st5 =>
        rw [e2] at q'
        exact fun w F5 as5 H5 g5 r5 o5 => q' w F5 as5 H5 (g3.trans g5) r5 o5
      | exc c p s5 st5 =>
        rw [e2] at q'
        exact fun w σ5 F5 as5 H5 g5 r5 o5 => q' w σ5 F5 as5 H5 (g3.trans g5) r5 o5
      | no => rw [e2] at q'; exact q'
  · have e : i = ds.length := by omega
    subst e
    rw [List.drop_length] at q'
    exact .inl ⟨hJ.stop F' H' g'.sub r'.fh, q' σ' F' as' H' Grow.refl r' o'⟩
theorem qs_for (hp : PassesOwn (model X.prog X.w) X.A X.env X.xe) (hc : X.calm = true) (hi : PI X tg iter (denI X.K cl W it)) (hg : PG X tg (denG X.K is b)) (hb : PSs X body (denS X.K cl W u)) (hs : ∀ x, foldedSetIterable iter X.env x = pure x := by intro _; rfl) :
    PS X (.For tg iter body [] pos) (denS X.K cl W (forM b it u)) := PS.imp (ps_for hp hc hi hg hb hs) fun _ _ _ q => forM_den q
theorem whileM_den {K : Fr} {Dn : Ends} {σ : St} {H : Hp} (q : denS K cl W (whileM c u) Dn σ H) : tWhile (denT K cl W c) (denS K cl W u) Dn σ H := by
  obtain ⟨B, F, as, s, st, r, o, p⟩ := q
  unfold whileM at p
  split at p
  · rename_i hx
    generalize hx.choose = n at p
    refine ⟨fun m σ' H' => ∃ F' as' s' st', Grow B F F' as as' ∧ RepH K B F' as' H' st' ∧ SlOk K F' as' σ' s' ∧ postS K cl W B F' as' Dn (whileN c u m s' st'), ⟨n, F, as, s, st, Grow.refl, r, o, p⟩, ?_⟩
    rintro m σ' H' ⟨F', as', s', st', g', r', o', q'⟩
    cases m with
    | zero => exact q'.elim
    | succ m =>
      rw [whileN] at q'
      refine ⟨B, F', as', s', st', r', o', post_mono (postS_bind o' q') fun k st2 F2 as2 H2 _ g2 r2 q2 => ?_⟩
      have o2 := o'.mono g2
      cases k with
      | false => exact q2 σ' F2 as2 H2 Grow.refl r2 o2
      | true =>
        refine ⟨fun σ3 H3 => ∃ F3 as3 s3 st3, Grow B F F3 as as3 ∧ RepH K B F3 as3 H3 st3 ∧ SlOk K F3 as3 σ3 s3 ∧ postS K cl W B F3 as3 Dn (whileN c u m s3 st3), fun σ3 H3 h3 => ⟨m, Nat.lt_succ_self _, h3⟩, ?_⟩
        refine ⟨B, F2, as2, s', st2, r2, o2, ?_⟩
        replace q2 : postS K cl W B F2 as2 Dn (match u s' st2 with
          | .nx s' st' => whileN c u m s' st'
          | .ct s' st' => whileN c u m s' st'
          | .bk s' st' => .nx s' st'
          | o => o) := q2
        cases e2 : u s' st2 with
        | nx s5 st5 =>
          rw [e2] at q2
          exact fun σ5 F5 as5 H5 g5 r5 o5 => ⟨F5, as5, s5, st5, g'.trans (g2.trans g5), r5, o5, postS_grow g5 q2⟩
        | ct s5 st5 =>
          rw [e2] at q2
          exact fun σ5 F5 as5 H5 g5 r5 o5 => ⟨F5, as5, s5, st5, g'.trans (g2.trans g5), r5, o5, postS_grow g5 q2⟩
        | bk s5 st5 => rw [e2] at q2; exact q2
        | rt v st5 => rw [e2] at q2; exact q2
        | exc c p s5 st5 => rw [e2] at q2; exact q2
        | no => rw [e2] at q2; exact q2
  · exact p.elim
theorem qs_while (hp : PassesOwn (model X.prog X.w) X.A X.env X.xe) (hc : PT X t (denT X.K cl W c)) (hb : PSs X body (denS X.K cl W u)) : PS X (.While t body [] pos) (denS X.K cl W (whileM c u)) := PS.imp (ps_while hp hc hb) fun _ _ _ q => whileM_den q
end

/-! ### comprehensions -/
def noX {α : Type} : Res α → Res α
  | .exc _ _ _ => .no
  | r => r
def wipeS (s : Slots) : List Nat → Slots
  | [] => s
  | i :: is => (wipeS s is).set i none
def lcGo (b : BM) (t : TM) (e : EM) : List D → Slots → Store → Res (List D)
  | [], _, st => .ok [] st
  | d :: r, s, st => match b (.dat d) s with
    | none => .no
    | some s1 => (t s1 st).bind fun k st1 => if k = true then (e s1 st1).bind fun v st2 => (toD v st2).bind fun x st3 => (lcGo b t e r s st3).bind fun xs st4 => .ok (x :: xs) st4
      else lcGo b t e r s st1
def tYesM : TM := fun _ st => .ok true st
def lcL (it : IM) (b : BM) (vs : List Nat) (t : TM) (e : EM) : Slots → Store → Res (List D) := fun s st => (it s st).bind fun ds st1 => (noX (lcGo b t e ds (wipeS s vs) st1)).bind fun out st2 => if out.length ≤ sizeLine then .ok out st2 else .no
def lcM (it : IM) (b : BM) (vs : List Nat) (t : TM) (e : EM) : EM := fun s st => (lcL it b vs t e s st).bind fun out st2 => .ok (.dat (.list out)) st2
def lcC (it : IM) (b : BM) (vs : List Nat) (t : TM) (e : EM) : EM := fun s st => (lcL it b vs t e s st).bind fun out st2 => .ok (.cel st2.length) (st2 ++ [.lst (out.map .dat)])
abbrev W0 : WX := fun _ _ _ _ => False
theorem wipeS_len (s : Slots) : ∀ vs, (wipeS s vs).length = s.length
  | [] => rfl
  | v :: vs => by unfold wipeS; rw [List.length_set, wipeS_len s vs]
theorem wipe_get {σ : St} {j : Nat} : ∀ {vs : List Nat}, j ∉ vs → (wipe σ vs)[j]? = σ[j]?
  | [], _ => rfl
  | v :: vs, h => by
    unfold wipe
    rw [List.getElem?_set_ne (fun z => h (by simp [z])), wipe_get (fun z => h (List.mem_cons_of_mem _ z))]
theorem wipe_in {σ : St} {j : Nat} : ∀ {vs : List Nat}, j ∈ vs → j < σ.length → (wipe σ vs)[j]? = some none
  | v :: vs, h, hj => by
    unfold wipe
    by_cases e : v = j
    · subst e
      rw [List.getElem?_set_self (by rw [wipe_length]; exact hj)]
    · rw [List.getElem?_set_ne e]
      refine wipe_in ?_ hj
      rcases List.mem_cons.mp h with z | z
      · exact absurd z.symm e
      · exact z
theorem wipe_same {σ σ' : St} {vs : List Nat} (hl : σ'.length = σ.length) (h : ∀ j, j ∉ vs → σ'[j]? = σ[j]?) : wipe σ' vs = wipe σ vs := by
  apply List.ext_getElem?
  intro j
  by_cases hj : j ∈ vs
  · by_cases h2 : j < σ.length
    · rw [wipe_in hj (by rw [hl]; exact h2), wipe_in hj h2]
    · rw [List.getElem?_eq_none (by rw [wipe_length, hl]; omega), List.getElem?_eq_none (by rw [wipe_length]; omega)]
  · rw [wipe_get hj, wipe_get hj, h j hj]
theorem wipe_wipe {σ σ' : St} {vs : List Nat} (hl : σ'.length = σ.length) (h : ∀ j, j ∉ vs → σ'[j]? = (wipe σ vs)[j]?) : wipe σ' vs = wipe σ vs :=
  wipe_same hl fun j hj => by rw [h j hj, wipe_get hj]
theorem SlOk.wipe {K : Fr} {F : Hp} {as : List Addr} {σ : St} {s : Slots} (o : SlOk K F as σ s) : ∀ vs : List Nat, SlOk K F as (L2.wipe σ vs) (wipeS s vs)
  | [] => o
  | v :: vs => by
    have ih := SlOk.wipe o vs
    unfold L2.wipe wipeS
    refine ⟨by rw [List.length_set, List.length_set]; exact ih.1, fun i x e => ?_⟩
    by_cases hi : v = i
    · subst hi
      have hv : v < (wipeS s vs).length := by
        have := (List.getElem?_eq_some_iff.mp e).1
        simpa using this
      rw [List.getElem?_set_self hv] at e
      cases e
    · rw [List.getElem?_set_ne hi] at e ⊢
      exact ih.2 i x e
section
variable {K : Fr} {B F F' : Hp} {as as' : List Addr} {H : Hp} {st : Store} {L : Addr} {acc : List V}
/-- a list that is being made stands by as what must stay -/
theorem RepH.guard (r : RepH K B F as H st) (hL : L ∉ as) (h : H L = some (.lst acc)) : RepH K (upd B L (.lst acc)) F as H st where
  fh := r.fh
  bh := fun a o q => by
    by_cases e : a = L
    · subst e; rw [upd_same] at q; cases q; exact h
    · rw [upd_ne e] at q; exact r.bh _ _ q
  nd := r.nd
  len := r.len
  bn := fun a ha => by rw [upd_ne (fun z => by subst z; exact hL ha)]; exact r.bn a ha
  hs := r.hs
  ok := r.ok
theorem RepH.unguard (r : RepH K (upd B L (.lst acc)) F as H st) (hB : B L = none) : RepH K B F as H st where
  fh := r.fh
  bh := fun a o q => r.bh a o (by rw [upd_ne (fun z => by subst z; rw [hB] at q; cases q)]; exact q)
  nd := r.nd
  len := r.len
  bn := fun a ha => by
    have h := r.bn a ha
    by_cases e : a = L
    · subst e; exact hB
    · rw [upd_ne e] at h; exact h
  hs := r.hs
  ok := r.ok
theorem Grow.unguard (g : Grow (upd B L (.lst acc)) F F' as as') : Grow B F F' as as' :=
  ⟨g.sub, fun a hb hf => g.frame a (fun z => by
    by_cases e : a = L
    · subst e; rw [upd_same] at z; cases z
    · rw [upd_ne e] at z; exact hb z) hf, g.ext⟩
/-- the list that is being made changes -/
theorem RepH.put {ws : List V} (r : RepH K B F as H st) (hL : L ∉ as) (hF : F L = none) (hB : B L = none) : RepH K B F as (upd H L (.lst ws)) st where
  fh := fun a o q => by rw [upd_ne (ne_of_none q hF)]; exact r.fh _ _ q
  bh := fun a o q => by rw [upd_ne (ne_of_none q hB)]; exact r.bh _ _ q
  nd := r.nd
  len := r.len
  bn := r.bn
  hs := fun a ha => by rw [upd_ne (fun z => by subst z; exact hL ha)]; exact r.hs a ha
  ok := fun k c a e1 e2 => by
    have q := r.ok k c a e1 e2
    have hne : a ≠ L := fun z => by subst z; exact hL (List.mem_of_getElem? e2)
    cases c with
    | frz d => exact q
    | lst xs =>
      obtain ⟨q1, vs, q2, q3⟩ := q
      exact ⟨q1, vs, by rw [upd_ne hne]; exact q2, q3⟩
end
theorem post_noX {K : Fr} {cl : Nat → Value} {W W' : WX} {α : Type} {B F : Hp} {as : List Addr} {σ σ' : St} {G : α → Store → Hp → List Addr → Hp → Prop} {r : Res α} (h : postR K cl W B F as σ G (noX r)) : postR K cl W' B F as σ' G r := by
  cases r with
  | ok a st => exact h
  | exc c p st => exact h.elim
  | no => exact h
theorem noX_bind {α β : Type} (r : Res α) (k : α → Store → Res β) : noX (r.bind k) = (noX r).bind fun a st => noX (k a st) := by
  cases r <;> rfl
/-- a comprehension's loop, from a state that is here: the list at L ends as told -/
theorem lc_run {K : Fr} {cl : Nat → Value} {W : WX} {B F : Hp} {as : List Addr} {σ : St} {s : Slots} {st : Store} {H : Hp} {J : It} {ds : List D} {b : BM} {is vs : List Nat} {t : TM} {e : EM} {L : Addr} {Qd : Hp → Prop}
    (hsub : ∀ i ∈ is, i ∈ vs) (hJ : Iter K F J ds) (r : RepH K B F as H st) (o : SlOk K F as σ s) (hL : H L = none)
    (hpost : postR K cl W B F as σ (fun out st' F' as' H' => out.length ≤ sizeLine ∧ ∀ vs', H' L = some (.lst vs') → F' L = none → L ∉ as' → B L = none → RpA K F' vs' out → Qd H') (noX (lcGo b t e ds (wipeS s vs) st)))
    (hlen : ∀ out st', lcGo b t e ds (wipeS s vs) st = .ok out st' → out.length ≤ sizeLine) :
    ∃ Wi : Nat → Nat → Hp → Prop, (∃ m, Wi 0 m (upd H L (.lst []))) ∧ ∀ i m H, Wi i m H →
      (J.stop i H ∧ Qd H) ∨ (J.go i H ∧ ∃ Nx : Hp → Prop, (∀ H', Nx H' → ∃ m', m' < m ∧ Wi (i + 1) m' H') ∧ ∀ x H', J.yld i H x H' → denG K is b x (wipe σ vs) H' fun σ2 H2 => wipe σ2 vs = wipe σ vs ∧ denT K cl W0 t σ2 H2 fun b H3 =>
        if b = true then denE K cl W0 e σ2 H3 fun y H4 => ∃ acc, H4 L = some (.lst acc) ∧ acc.length < sizeLine ∧ Nx (upd H4 L (.lst (acc ++ [y]))) else Nx H3) := by
  have hBL : B L = none := r.bh.free hL
  have hFL : F L = none := r.fh.free hL
  have hasL : L ∉ as := fun z => r.hs L z hL
  /- the turn's state: what is made so far, and that the rest ends well -/
  let St_ : Nat → Hp → Prop := fun i H' => ∃ F' as' st' acc done, Grow B F F' as as' ∧ RepH K B F' as' H' st' ∧ H' L = some (.lst acc) ∧ F' L = none ∧ L ∉ as' ∧ RpA K F' acc done ∧
    postR K cl W B F' as' σ (fun out st2 F2 as2 H2 => ∀ vs', H2 L = some (.lst vs') → F2 L = none → L ∉ as2 → RpA K F2 vs' (done ++ out) → Qd H2) (noX (lcGo b t e (ds.drop i) (wipeS s vs) st')) ∧
    (∀ out st2, lcGo b t e (ds.drop i) (wipeS s vs) st' = .ok out st2 → (done ++ out).length ≤ sizeLine)
  refine ⟨fun i m H' => m = ds.length - i ∧ i ≤ ds.length ∧ St_ i H', ⟨ds.length, by omega, by omega, F, as, st, [], [], Grow.refl, r.put hasL hFL hBL, upd_same, hFL, hasL, .nil, ?_, ?_⟩, ?_⟩
  · exact post_mono hpost fun out st2 F2 as2 H2 _ g2 r2 q2 vs' h1 h2 h3 h4 => q2.2 vs' h1 h2 h3 hBL (by simpa using h4)
  · intro out st2 h
    simpa using hlen out st2 h
  rintro i m H' ⟨rfl, hi, F', as', st', acc, done, g', r', hL', hF', hA', hR', q', l'⟩
  by_cases hlt : i < ds.length
  · have hd : ds.drop i = ds[i] :: ds.drop (i + 1) := List.drop_eq_getElem_cons hlt
    refine .inr ⟨hJ.go i F' H' g'.sub r'.fh hlt, St_ (i + 1), fun H2 h2 => ⟨ds.length - (i + 1), by omega, rfl, hlt, h2⟩, fun x H3 y => ?_⟩
    obtain ⟨F3, x3, rp3⟩ := hJ.yld i F' H' x H3 ds[i] g'.sub r'.fh (List.getElem?_eq_getElem hlt) y
    have g3 := x3.grow r'
    have r3 := r'.ext x3
    have hL3 : H3 L = some (.lst acc) := x3.h _ _ hL'
    have hF3 : F3 L = none := none_of_not fun z => by
      have := x3.n L hF' z
      rw [hL'] at this
      cases this
    have hR3 : RpA K F3 acc done := hR'.mono x3.f
    have o3 : SlOk K F3 as' (wipe σ vs) (wipeS s vs) := (o.mono (g'.trans g3)).wipe vs
    have rg := r3.guard hA' hL3
    rw [hd] at q' l'
    unfold lcGo at q' l'
    cases eb : b (.dat ds[i]) (wipeS s vs) with
    | none => rw [eb] at q'; exact q'.elim
    | some s4 =>
      rw [eb] at q' l'
      simp only at q' l'
      refine ⟨B, F3, as', wipeS s vs, st', .dat ds[i], s4, r3, o3, .dat rp3, eb, fun σ4 o4 l4 n4 => ⟨?_, ?_⟩⟩
      · refine wipe_wipe (by rw [l4, wipe_length]) fun j hj => n4 j fun z => hj (hsub j z)
      · -- the test
        cases et : t s4 st' with
        | exc c p z => rw [et] at q'; exact q'.elim
        | no => rw [et] at q'; exact q'.elim
        | ok k st5 =>
          rw [et, Res.bind_ok] at q' l'
          refine ⟨upd B L (.lst acc), F3, as', s4, st', rg, o4, ?_⟩
          rw [et]
          intro F5 as5 H5 g5 r5
          have hL5 : H5 L = some (.lst acc) := r5.bh L _ upd_same
          have hF5 : F5 L = none := g5.frame L (by rw [upd_same]; exact fun z => by cases z) hF3
          have hA5 : L ∉ as5 := fun z => by
            have := r5.bn L z
            rw [upd_same] at this
            cases this
          have g5' := g5.unguard
          have r5' := r5.unguard hBL
          cases k with
          | false =>
            simp only [Bool.false_eq_true, if_false] at q' l' ⊢
            exact ⟨F5, as5, st5, acc, done, g'.trans (g3.trans g5'), r5', hL5, hF5, hA5, hR3.mono g5.sub, post_grow (g3.trans g5') q', l'⟩
          | true =>
            simp only [if_true] at q' l' ⊢
            cases ee : e s4 st5 with
            | exc c p z => rw [ee] at q'; exact q'.elim
            | no => rw [ee] at q'; exact q'.elim
            | ok v st6 =>
              rw [ee, Res.bind_ok] at q' l'
              refine ⟨upd B L (.lst acc), F5, as5, s4, st5, r5, o4.mono g5, ?_⟩
              rw [ee]
              intro F6 as6 H6 g6 r6 u hu
              have hL6 : H6 L = some (.lst acc) := r6.bh L _ upd_same
              have hF6 : F6 L = none := g6.frame L (by rw [upd_same]; exact fun z => by cases z) hF5
              have hA6 : L ∉ as6 := fun z => by
                have := r6.bn L z
                rw [upd_same] at this
                cases this
              rcases toD_res v st6 with ⟨d, st7, ed⟩ | ed
              · rw [ed, Res.bind_ok] at q' l'
                obtain ⟨F7, g7, r7, rp7⟩ := toD_ok r6 hu ed
                have hF7 : F7 L = none := g7.frame L (by rw [upd_same]; exact fun z => by cases z) hF6
                have g7' := g7.unguard
                have g6' := g6.unguard
                have r7' := r7.unguard hBL
                have hR7 : RpA K F7 acc done := ((hR3.mono g5.sub).mono g6.sub).mono g7.sub
                cases eo : lcGo b t e (ds.drop (i + 1)) (wipeS s vs) st7 with
                | exc c p z => rw [eo] at q'; exact q'.elim
                | no => rw [eo] at q'; exact q'.elim
                | ok out st8 =>
                  rw [eo, Res.bind_ok] at q' l'
                  have ll := l' (d :: out) st8 rfl
                  have hlen : acc.length < sizeLine := by
                    rw [hR7.len]
                    rw [List.length_append, List.length_cons] at ll
                    omega
                  refine ⟨acc, hL6, hlen, F7, as6, st7, acc ++ [u], done ++ [d], g'.trans (g3.trans (g5'.trans (g6'.trans g7'))), r7'.put hA6 hF7 hBL, upd_same, hF7, hA6, hR7.append (.one rp7), ?_, ?_⟩
                  · rw [eo]
                    intro F9 as9 H9 g9 r9 vs' h1 h2 h3 h4
                    refine q' F9 as9 H9 (g3.trans (g5'.trans (g6'.trans (g7'.trans g9)))) r9 vs' h1 h2 h3 ?_
                    rw [List.append_assoc] at h4
                    exact h4
                  · intro out2 st9 e9
                    rw [eo] at e9
                    cases e9
                    rw [List.append_assoc]
                    exact ll
              · rw [ed] at q'
                exact q'.elim
  · have ei : i = ds.length := by omega
    subst ei
    rw [List.drop_length] at q'
    refine .inl ⟨hJ.stop F' H' g'.sub r'.fh, ?_⟩
    exact q' F' as' H' Grow.refl r' acc hL' hF' hA' (by simpa using hR')
end Pd

set_option Elab.async false
set_option linter.all false
set_option maxRecDepth 100000
set_option maxHeartbeats 4000000
/-! Pd5: comprehensions as rules; cells changed; defs. -/
namespace Pd
open PySem PySem.Spec PyProof.Rows L2 RZ
section
variable {K : Fr} {B F F' : Hp} {as as' : List Addr} {H H' : Hp} {st st' : Store} {L a : Addr} {vs ws : List V} {xs ys : List Vl} {k : Nat}
/-- a list that stands untracked is frozen | becomes a cell -/
theorem lst_adopt {ds : List D} (r : RepH K B F as H st) (h : H L = some (.lst vs)) (hF : F L = none) (hL : L ∉ as) (hB : B L = none) (p : RpA K F vs ds) :
    Grow B F (upd F L (.lst vs)) as as ∧ RepH K B (upd F L (.lst vs)) as H st ∧ Rp K (upd F L (.lst vs)) (.ref L) (.list ds) := by
  have ff : Same F (upd F L (.lst vs)) := fun b z q => by
    rw [upd_ne (ne_of_none q hF)]
    exact q
  refine ⟨⟨ff, fun b h1 h2 => by rw [upd_ne (fun z => by subst z; exact h1 hB)]; exact h2, List.prefix_refl _⟩, ⟨fun b z q => ?_, r.bh, r.nd, r.len, r.bn, r.hs, fun j c b e1 e2 => ?_⟩, .lst upd_same (p.mono ff)⟩
  · by_cases hb : b = L
    · subst hb; rw [upd_same] at q; cases q; exact h
    · rw [upd_ne hb] at q; exact r.fh _ _ q
  · have q := r.ok j c b e1 e2
    have hne : b ≠ L := fun z => by subst z; exact hL (List.mem_of_getElem? e2)
    cases c with
    | frz d => exact Rp.mono ff q
    | lst zs =>
      obtain ⟨p1, us, p2, p3⟩ := q
      exact ⟨by rw [upd_ne hne]; exact p1, us, p2, p3.mono' ff (List.prefix_refl _)⟩
theorem cell_adopt (r : RepH K B F as H st) (h : H L = some (.lst vs)) (hF : F L = none) (hL : L ∉ as) (hB : B L = none) (p : VlsOk K F as vs xs) :
    Grow B F F as (as ++ [L]) ∧ RepH K B F (as ++ [L]) H (st ++ [.lst xs]) ∧ VlOk K F (as ++ [L]) (.ref L) (.cel st.length) := by
  have hx : as <+: as ++ [L] := List.prefix_append _ _
  have hl : (as ++ [L])[st.length]? = some L := by
    rw [← r.len, List.getElem?_append_right (Nat.le_refl _), Nat.sub_self]
    rfl
  refine ⟨⟨Same.refl _, fun _ _ h => h, hx⟩, ⟨r.fh, r.bh, ?_, by simp [r.len], fun b ha => ?_, fun b ha => ?_, fun j c b e1 e2 => ?_⟩, .cel hl⟩
  · exact List.nodup_append.mpr ⟨r.nd, by simp, fun x hx' y hy => by
      have : y = L := by simpa using hy
      subst this
      exact fun z => hL (z ▸ hx')⟩
  · rcases List.mem_append.mp ha with ha | ha
    · exact r.bn b ha
    · have : b = L := by simpa using ha
      subst this
      exact hB
  · rcases List.mem_append.mp ha with ha | ha
    · exact r.hs b ha
    · have : b = L := by simpa using ha
      subst this
      rw [h]
      exact fun z => by cases z
  · by_cases hk : j < st.length
    · rw [List.getElem?_append_left hk] at e1
      rw [List.getElem?_append_left (by rw [r.len]; exact hk)] at e2
      have q := r.ok j c b e1 e2
      cases c with
      | frz d => exact q
      | lst zs =>
        obtain ⟨q1, us, q2, q3⟩ := q
        exact ⟨q1, us, q2, q3.mono' (Same.refl _) hx⟩
    · have hk2 : j < st.length + 1 := by
        have := (List.getElem?_eq_some_iff.mp e1).1
        simpa using this
      have hk3 : j = st.length := by omega
      subst hk3
      rw [hl] at e2
      cases e2
      rw [List.getElem?_append_right (Nat.le_refl _), Nat.sub_self] at e1
      cases e1
      exact ⟨hF, vs, h, p.mono' (Same.refl _) hx⟩
/-- a cell's list changes -/
theorem cell_put (r : RepH K B F as H st) (e1 : as[k]? = some a) (e2 : st[k]? = some (.lst xs)) (p : VlsOk K F as ws ys) : RepH K B F as (upd H a (.lst ws)) (st.set k (.lst ys)) := by
  obtain ⟨q1, vs, q2, q3⟩ := r.ok k _ a e2 e1
  have ha : a ∈ as := List.mem_of_getElem? e1
  have hB := r.bn a ha
  refine ⟨fun b o q => by rw [upd_ne (ne_of_none q q1)]; exact r.fh _ _ q, fun b o q => by rw [upd_ne (ne_of_none q hB)]; exact r.bh _ _ q, r.nd, by rw [List.length_set]; exact r.len, r.bn, fun b hb => ?_, fun j c b e3 e4 => ?_⟩
  · by_cases e : b = a
    · subst e; rw [upd_same]; exact fun z => by cases z
    · rw [upd_ne e]; exact r.hs b hb
  · by_cases hj : k = j
    · subst hj
      rw [e1] at e4
      cases e4
      rw [List.getElem?_set_self (List.getElem?_eq_some_iff.mp e2).1] at e3
      cases e3
      exact ⟨q1, ws, upd_same, p⟩
    · rw [List.getElem?_set_ne hj] at e3
      have qj := r.ok j c b e3 e4
      have hne : b ≠ a := fun z => by
        subst z
        obtain ⟨l1, g1⟩ := List.getElem?_eq_some_iff.mp e1
        obtain ⟨l2, g2⟩ := List.getElem?_eq_some_iff.mp e4
        exact hj ((List.getElem_inj r.nd).mp (g1.trans g2.symm))
      cases c with
      | frz d => exact qj
      | lst zs =>
        obtain ⟨p1, us, p2, p3⟩ := qj
        exact ⟨p1, us, by rw [upd_ne hne]; exact p2, p3⟩
end
section
variable {K : Fr} {cl : Nat → Value} {W : WX}
theorem lcM_den {it : IM} {b : BM} {is vs : List Nat} {t : TM} {e : EM} (hsub : ∀ i ∈ is, i ∈ vs) {σ : L2.St} {H : Hp} {Q : VK} (q : denE K cl W (lcM it b vs t e) σ H Q) : tLc (denI K cl W it) (denG K is b) (denT K cl W0 t) (denE K cl W0 e) vs σ H Q := by
  have q2 : den K cl W (fun s st => (it s st).bind fun ds st1 => (noX (lcGo b t e ds (wipeS s vs) st1)).bind fun out st2 => if out.length ≤ sizeLine then .ok (.dat (.list out)) st2 else .no) σ H fun v _ F' as' H' => ∀ u, VlOk K F' as' u v → Q u H' := by
    obtain ⟨B, F, as, s, st, r, o, p⟩ := q
    refine ⟨B, F, as, s, st, r, o, ?_⟩
    unfold lcM lcL at p
    dsimp only
    cases e1 : it s st with
    | exc c p2 z => rw [e1] at p; exact p
    | no => rw [e1] at p; exact p
    | ok ds st1 =>
      rw [e1, Res.bind_ok] at p
      rw [Res.bind_ok]
      cases e2 : noX (lcGo b t e ds (wipeS s vs) st1) with
      | exc c p2 z => rw [e2] at p; exact p
      | no => rw [e2] at p; exact p
      | ok out st2 =>
        rw [e2, Res.bind_ok] at p
        rw [Res.bind_ok]
        split
        · rename_i h
          rw [if_pos h] at p
          exact p
        · rename_i h
          rw [if_neg h] at p
          exact p
  refine den_bind q2 fun B F as s ds st1 H1 r1 o1 q J hJ L hL => ?_
  refine lc_run (W := W) hsub hJ r1 o1 hL ?_ ?_
  · refine post_mono (post_bind q) fun out st' F' as' H' e g' r' q3 => ?_
    split at q3
    · rename_i hl
      refine ⟨hl, fun vs' h1 h2 h3 h4 h5 => ?_⟩
      obtain ⟨g4, r4, p4⟩ := lst_adopt r' h1 h2 h3 h4 h5
      exact q3 _ _ _ g4 r4 _ (.dat p4)
    · exact q3.elim
  · intro out st' e
    rw [e] at q
    replace q : postR K cl W B F as σ (fun v _ F' as' H' => ∀ u, VlOk K F' as' u v → Q u H') (if out.length ≤ sizeLine then .ok (.dat (.list out)) st' else .no) := q
    split at q
    · assumption
    · exact q.elim
theorem lcC_den {it : IM} {b : BM} {is vs : List Nat} {t : TM} {e : EM} (hsub : ∀ i ∈ is, i ∈ vs) {σ : L2.St} {H : Hp} {Q : VK} (q : denE K cl W (lcC it b vs t e) σ H Q) : tLc (denI K cl W it) (denG K is b) (denT K cl W0 t) (denE K cl W0 e) vs σ H Q := by
  have q2 : den K cl W (fun s st => (it s st).bind fun ds st1 => (noX (lcGo b t e ds (wipeS s vs) st1)).bind fun out st2 => if out.length ≤ sizeLine then .ok (.cel st2.length) (st2 ++ [.lst (out.map .dat)]) else .no) σ H fun v _ F' as' H' => ∀ u, VlOk K F' as' u v → Q u H' := by
    obtain ⟨B, F, as, s, st, r, o, p⟩ := q
    refine ⟨B, F, as, s, st, r, o, ?_⟩
    unfold lcC lcL at p
    dsimp only
    cases e1 : it s st with
    | exc c p2 z => rw [e1] at p; exact p
    | no => rw [e1] at p; exact p
    | ok ds st1 =>
      rw [e1, Res.bind_ok] at p
      rw [Res.bind_ok]
      cases e2 : noX (lcGo b t e ds (wipeS s vs) st1) with
      | exc c p2 z => rw [e2] at p; exact p
      | no => rw [e2] at p; exact p
      | ok out st2 =>
        rw [e2, Res.bind_ok] at p
        rw [Res.bind_ok]
        split
        · rename_i h
          rw [if_pos h] at p
          exact p
        · rename_i h
          rw [if_neg h] at p
          exact p
  refine den_bind q2 fun B F as s ds st1 H1 r1 o1 q J hJ L hL => ?_
  refine lc_run (W := W) hsub hJ r1 o1 hL ?_ ?_
  · refine post_mono (post_bind q) fun out st' F' as' H' e g' r' q3 => ?_
    split at q3
    · rename_i hl
      refine ⟨hl, fun vs' h1 h2 h3 h4 h5 => ?_⟩
      obtain ⟨g4, r4, p4⟩ := cell_adopt r' h1 h2 h3 h4 (VlsOk.rpa h5)
      exact q3 _ _ _ g4 r4 _ p4
    · exact q3.elim
  · intro out st' e
    rw [e] at q
    replace q : postR K cl W B F as σ (fun v _ F' as' H' => ∀ u, VlOk K F' as' u v → Q u H') (if out.length ≤ sizeLine then .ok (.cel st'.length) (st' ++ [.lst (out.map .dat)]) else .no) := q
    split at q
    · assumption
    · exact q.elim
end
theorem sub_of {is vs : List Nat} (h : is.all (fun i => vs.contains i) = true) : ∀ i ∈ is, i ∈ vs := fun i hi => List.contains_iff_mem.mp (List.all_eq_true.mp h i hi)
section
variable {X : Cx} {cl : Nat → Value} {W : WX} {elt tg iter : Expr} {ifs : List Expr} {scope : Scope} {own : List (Str × Nat)} {pos : Pos} {it : IM} {b : BM} {is : List Nat} {t : TM} {e : EM}
theorem qts_nil : PTs X [] (denT X.K cl W tYesM) := ⟨fun pins s σ H Q I q => pts_nil.run pins s σ H Q I (by
  obtain ⟨B, F, as, sl, st, r, o, p⟩ := q
  exact post_ok p r)⟩
theorem qts_one {c : Expr} (h : PT X c (denT X.K cl W t)) : PTs X [c] (denT X.K cl W t) := pts_one h
theorem qe_lc (own : List (Str × Nat)) (hc : X.calm = true) (hN : X.N.Nodup) (hsub : is.all (fun i => (own.map (·.2)).contains i) = true) (hi : PI X tg iter (denI X.K cl W it)) (ok : BlkOk X.N X.env.scope scope own)
    (hg : ∀ (s : Shared) (H : Hp) (C : Addr) (cl : List (Str × Addr)) (fp : List Addr), PG (X.blk s H scope (compEnvC scope cl C X.env) fp) tg (denG X.K is b))
    (ht : ∀ (s : Shared) (H : Hp) (C : Addr) (cl' : List (Str × Addr)) (fp : List Addr), PTs (X.blk s H scope (compEnvC scope cl' C X.env) fp) ifs (denT X.K cl W0 t))
    (he : ∀ (s : Shared) (H : Hp) (C : Addr) (cl' : List (Str × Addr)) (fp : List Addr), PE (X.blk s H scope (compEnvC scope cl' C X.env) fp) elt (denE X.K cl W0 e)) (hs : ∀ x, foldedSetIterable iter X.env x = pure x := by intro _; rfl) :
    PE X (.ListComp elt [⟨tg, iter, ifs, 0⟩] scope pos) (denE X.K cl W (lcM it b (own.map (·.2)) t e)) :=
  PE.imp (pe_lc hc hN hi ok hg ht he hs) fun _ _ _ q => lcM_den (sub_of hsub) q
theorem qe_lcC (own : List (Str × Nat)) (hc : X.calm = true) (hN : X.N.Nodup) (hsub : is.all (fun i => (own.map (·.2)).contains i) = true) (hi : PI X tg iter (denI X.K cl W it)) (ok : BlkOk X.N X.env.scope scope own)
    (hg : ∀ (s : Shared) (H : Hp) (C : Addr) (cl : List (Str × Addr)) (fp : List Addr), PG (X.blk s H scope (compEnvC scope cl C X.env) fp) tg (denG X.K is b))
    (ht : ∀ (s : Shared) (H : Hp) (C : Addr) (cl' : List (Str × Addr)) (fp : List Addr), PTs (X.blk s H scope (compEnvC scope cl' C X.env) fp) ifs (denT X.K cl W0 t))
    (he : ∀ (s : Shared) (H : Hp) (C : Addr) (cl' : List (Str × Addr)) (fp : List Addr), PE (X.blk s H scope (compEnvC scope cl' C X.env) fp) elt (denE X.K cl W0 e)) (hs : ∀ x, foldedSetIterable iter X.env x = pure x := by intro _; rfl) :
    PE X (.ListComp elt [⟨tg, iter, ifs, 0⟩] scope pos) (denE X.K cl W (lcC it b (own.map (·.2)) t e)) :=
  PE.imp (pe_lc hc hN hi ok hg ht he hs) fun _ _ _ q => lcC_den (sub_of hsub) q
theorem qs_setLc (i : Nat) (own : List (Str × Nat)) {y : Str} {py spos : Pos} (hc : X.calm = true) (hN : X.N.Nodup) (hsub : is.all (fun i => (own.map (·.2)).contains i) = true) (hi : PI X tg iter (denI X.K cl W it)) (ok : BlkOk X.N X.env.scope scope own)
    (hg : ∀ (s : Shared) (H : Hp) (C : Addr) (cl : List (Str × Addr)) (fp : List Addr), PG (X.blk s H scope (compEnvC scope cl C X.env) fp) tg (denG X.K is b))
    (ht : ∀ (s : Shared) (H : Hp) (C : Addr) (cl' : List (Str × Addr)) (fp : List Addr), PTs (X.blk s H scope (compEnvC scope cl' C X.env) fp) ifs (denT X.K cl W0 t))
    (he : ∀ (s : Shared) (H : Hp) (C : Addr) (cl' : List (Str × Addr)) (fp : List Addr), PE (X.blk s H scope (compEnvC scope cl' C X.env) fp) elt (denE X.K cl W0 e))
    (hy : X.N[i]? = some y) (hyl : X.env.scope.names.lookup y = some .local) (hsw : swapsWith (.ListComp elt [⟨tg, iter, ifs, 0⟩] scope pos) (some (.Name y py)) spos.line X.env = pure true) (hs : ∀ x, foldedSetIterable iter X.env x = pure x := by intro _; rfl) :
    PS X (.Assign [.Name y py] (.ListComp elt [⟨tg, iter, ifs, 0⟩] scope pos) spos) (denS X.K cl W (setM i (lcM it b (own.map (·.2)) t e))) :=
  PS.imp (ps_setLc hc hN hy hyl hsw hi ok hg ht he hs) fun Dn σ H q => by
    have q2 : denE X.K cl W (lcM it b (own.map (·.2)) t e) σ H fun x H1 => gName i x σ H1 Dn.nx := denS_bind q fun B F as s v st1 H1 r1 o1 q u hu => q _ F as H1 Grow.refl r1 (o1.set hu)
    exact lcM_den (sub_of hsub) q2
theorem qs_setLcC (i : Nat) (own : List (Str × Nat)) {y : Str} {py spos : Pos} (hc : X.calm = true) (hN : X.N.Nodup) (hsub : is.all (fun i => (own.map (·.2)).contains i) = true) (hi : PI X tg iter (denI X.K cl W it)) (ok : BlkOk X.N X.env.scope scope own)
    (hg : ∀ (s : Shared) (H : Hp) (C : Addr) (cl : List (Str × Addr)) (fp : List Addr), PG (X.blk s H scope (compEnvC scope cl C X.env) fp) tg (denG X.K is b))
    (ht : ∀ (s : Shared) (H : Hp) (C : Addr) (cl' : List (Str × Addr)) (fp : List Addr), PTs (X.blk s H scope (compEnvC scope cl' C X.env) fp) ifs (denT X.K cl W0 t))
    (he : ∀ (s : Shared) (H : Hp) (C : Addr) (cl' : List (Str × Addr)) (fp : List Addr), PE (X.blk s H scope (compEnvC scope cl' C X.env) fp) elt (denE X.K cl W0 e))
    (hy : X.N[i]? = some y) (hyl : X.env.scope.names.lookup y = some .local) (hsw : swapsWith (.ListComp elt [⟨tg, iter, ifs, 0⟩] scope pos) (some (.Name y py)) spos.line X.env = pure true) (hs : ∀ x, foldedSetIterable iter X.env x = pure x := by intro _; rfl) :
    PS X (.Assign [.Name y py] (.ListComp elt [⟨tg, iter, ifs, 0⟩] scope pos) spos) (denS X.K cl W (setM i (lcC it b (own.map (·.2)) t e))) :=
  PS.imp (ps_setLc hc hN hy hyl hsw hi ok hg ht he hs) fun Dn σ H q => by
    have q2 : denE X.K cl W (lcC it b (own.map (·.2)) t e) σ H fun x H1 => gName i x σ H1 Dn.nx := denS_bind q fun B F as s v st1 H1 r1 o1 q u hu => q _ F as H1 Grow.refl r1 (o1.set hu)
    exact lcC_den (sub_of hsub) q2
end

/-! ### cells by methods -/
def lstAt (v : Vl) (st : Store) : Option (Nat × List Vl) := match v with
  | .cel k => (match st[k]? with
    | some (.lst xs) => some (k, xs)
    | _ => none)
  | _ => none
theorem lstAt_eq {v : Vl} {st : Store} {k : Nat} {xs : List Vl} (h : lstAt v st = some (k, xs)) : v = .cel k ∧ st[k]? = some (.lst xs) := by
  unfold lstAt at h
  split at h
  · rename_i j
    split at h
    · rename_i zs e
      cases h
      exact ⟨rfl, e⟩
    · cases h
  · cases h
theorem cel_at {K : Fr} {F : Hp} {as : List Addr} {u : V} {k : Nat} (h : VlOk K F as u (.cel k)) : ∃ a, u = .ref a ∧ as[k]? = some a := by
  cases h with
  | cel h => exact ⟨_, rfl, h⟩
/-- x.append(e): the item frozen -/
def appM (f g : EM) : EM := fun s st => (f s st).bind fun v st1 => match lstAt v st1 with
  | none => .no
  | some _ => (g s st1).bind fun w st2 => (toD w st2).bind fun d st3 => match lstAt v st3 with
    | some (k, xs) => if xs.length < sizeLine then .ok (.dat .none) (st3.set k (.lst (xs ++ [.dat d]))) else .no
    | none => .no
/-- x.pop() -/
def popM (f : EM) : EM := fun s st => (f s st).bind fun v st1 => match lstAt v st1 with
  | some (k, xs) => (match xs[xs.length - 1]? with
    | some w => .ok w (st1.set k (.lst xs.dropLast))
    | none => .no)
  | none => .no
theorem Vls.last {K : Fr} {F : Hp} {as : List Addr} {vs : List V} {xs : List Vl} {i : Nat} {w : Vl} (h : VlsOk K F as vs xs) (e : xs[i]? = some w) : ∃ u, vs[i]? = some u ∧ VlOk K F as u w := by
  induction h generalizing i with
  | nil => simp at e
  | cons h1 h2 ih =>
    cases i with
    | zero => simp at e; subst e; exact ⟨_, rfl, h1⟩
    | succ i =>
      obtain ⟨u, e1, e2⟩ := ih (i := i) (by simpa using e)
      exact ⟨u, by simpa using e1, e2⟩
theorem Vls.append {K : Fr} {F : Hp} {as : List Addr} {vs ws : List V} {xs ys : List Vl} (h : VlsOk K F as vs xs) (k : VlsOk K F as ws ys) : VlsOk K F as (vs ++ ws) (xs ++ ys) := by
  induction h with
  | nil => exact k
  | cons h1 h2 ih => exact .cons h1 ih
theorem Vls.dropLast {K : Fr} {F : Hp} {as : List Addr} {vs : List V} {xs : List Vl} (h : VlsOk K F as vs xs) : VlsOk K F as vs.dropLast xs.dropLast := by
  induction h with
  | nil => exact .nil
  | cons h1 h2 ih =>
    cases h2 with
    | nil => exact .nil
    | cons h3 h4 => exact .cons h1 ih
theorem Vls.set {K : Fr} {F : Hp} {as : List Addr} {vs : List V} {xs : List Vl} {u : V} {w : Vl} (r : VlOk K F as u w) (h : VlsOk K F as vs xs) : ∀ j : Nat, VlsOk K F as (vs.set j u) (xs.set j w) := by
  induction h with
  | nil => intro j; exact .nil
  | cons h1 h2 ih =>
    intro j
    cases j with
    | zero => exact .cons r h2
    | succ j => exact .cons h1 (ih j)
section
variable {X : Cx} {cl : Nat → Value} {W : WX} {o e i : Expr} {f g h : EM} {apos cpos pos pos' : Pos}
theorem qe_append (ho : PE X o (denE X.K cl W f)) (he : PE X e (denE X.K cl W g)) (hbase : attributeBase o "append" X.env (eval o X.env) = eval o X.env := by rfl)
    (hfew : ((backTo cpos (starEach (e :: []) X.env)).all (fun x => !x.1) && (backToKw cpos (keywordEach [] X.env)).all (fun x => x.1.isSome)
      && decide ((e :: []).length + ([] : List Keyword).length + (if ([] : List Keyword).isEmpty then 0 else 1) < 30)) = true := by rfl)
    (hline : (apos.endLine == cpos.line) = true := by rfl) (hs : starEach (e :: []) X.env = (false, eval e X.env) :: starEach [] X.env := by rfl) :
    PE X (.Call (.Attribute o "append" apos) [e] [] cpos) (denE X.K cl W (appM f g)) :=
  PE.imp (pe_bm PySem.F.plainAttrs_list PySem.F.slot_list_append PySem.F.type_list_append mt_append ho (pa_cons he pa_nil hs) (hbase := hbase) (hfew := hfew) (hline := hline) (hs := hs)) fun σ H Q q => by
    refine den_bind q fun B F as s v st1 H1 r1 o1 q u hu => ?_
    cases e1 : lstAt v st1 with
    | none => rw [e1] at q; exact q.elim
    | some kx =>
      obtain ⟨k0, xs0⟩ := kx
      rw [e1] at q
      obtain ⟨rfl, ec⟩ := lstAt_eq e1
      obtain ⟨a, rfl, ea⟩ := cel_at hu
      obtain ⟨q1, vs0, q2, q3⟩ := r1.ok k0 _ a ec ea
      refine ⟨.inl ⟨rfl, _, .inl (.inl q2)⟩, ?_⟩
      refine ⟨B, F, as, s, st1, r1, o1, post_mono (post_bind q) fun w st2 F2 as2 H2 _ g2 r2 q w' hw => ?_⟩
      rcases toD_res w st2 with ⟨d, st3, ed⟩ | ed
      · rw [ed, Res.bind_ok] at q
        obtain ⟨F3, g3, r3, p3⟩ := toD_ok r2 hw ed
        cases e3 : lstAt (.cel k0) st3 with
        | none => rw [e3] at q; exact q.elim
        | some kx =>
          obtain ⟨k, xs⟩ := kx
          rw [e3] at q
          obtain ⟨ek, ec3⟩ := lstAt_eq e3
          cases ek
          simp only at q
          have ea3 := as_ext (g2.trans g3).ext ea
          obtain ⟨p1, vs, p2, p4⟩ := r3.ok _ _ a ec3 ea3
          split at q
          · rename_i hl
            refine ⟨a, vs, w', rfl, rfl, p2, by rw [Paired.length p4]; exact hl, ?_⟩
            have r4 := cell_put r3 ea3 ec3 (Vls.append p4 (.cons (.dat p3) .nil) : VlsOk X.K F3 as2 (vs ++ [w']) (xs ++ [.dat d]))
            exact q F3 as2 _ g3 r4 _ (.dat .non)
          · exact q.elim
      · rw [ed] at q
        exact q.elim
theorem qe_pop (ho : PE X o (denE X.K cl W f)) (hbase : attributeBase o "pop" X.env (eval o X.env) = eval o X.env := by rfl) (hline : (apos.endLine == cpos.line) = true := by rfl) :
    PE X (.Call (.Attribute o "pop" apos) [] [] cpos) (denE X.K cl W (popM f)) :=
  PE.imp (pe_bm0 PySem.F.plainAttrs_list PySem.F.slot_list_pop PySem.F.type_list_pop mt_pop ho (hbase := hbase) (hline := hline)) fun σ H Q q => by
    refine den_bind q fun B F as s v st1 H1 r1 o1 q u hu => ?_
    cases e1 : lstAt v st1 with
    | none => rw [e1] at q; exact q.elim
    | some kx =>
      obtain ⟨k, xs⟩ := kx
      rw [e1] at q
      simp only at q
      obtain ⟨rfl, ec⟩ := lstAt_eq e1
      obtain ⟨a, rfl, ea⟩ := cel_at hu
      obtain ⟨q1, vs, q2, q3⟩ := r1.ok k _ a ec ea
      refine ⟨.inl ⟨rfl, _, .inl (.inl q2)⟩, ?_⟩
      cases ew : xs[xs.length - 1]? with
      | none => simp only [ew] at q; exact q.elim
      | some w =>
        simp only [ew] at q
        obtain ⟨y, ey, hy⟩ := Vls.last q3 ew
        refine ⟨a, vs, y, rfl, rfl, q2, by rw [Paired.length q3]; exact ey, ?_⟩
        exact q F as _ Grow.refl (cell_put r1 ea ec (Vls.dropLast q3)) y hy
/-- x[i] = e: the item frozen -/
def setIxM (f g h : EM) : SM := fun s st => bindS (h s st) s fun w st1 => bindS (toD w st1) s fun d st2 => bindS (f s st2) s fun v st3 => bindS (g s st3) s fun j st4 => match lstAt v st4, j with
  | some (k, xs), .dat (.int n) => (match ixN xs.length n with
    | some m => .nx s (st4.set k (.lst (xs.set m (.dat d))))
    | none => .no)
  | _, _ => .no
theorem qs_setIx (he : PE X e (denE X.K cl W h)) (ho : PE X o (denE X.K cl W f)) (hi : PE X i (denE X.K cl W g)) (hs : swapsWithSole [.Subscript o i pos'] e pos.line X.env = pure false := by rfl) (hw : swappedStores [.Subscript o i pos'] e X.env = pure none := by rfl)
    (h1 : (assignEach [.Subscript o i pos'] X.env).map (·.2) = [assign (.Subscript o i pos') X.env] := by rfl)
    (ha : ∀ v, assign (.Subscript o i pos') X.env v = (do
      let ov ← holding [v] (eval o X.env)
      let iv ← holding [v, ov] (eval i X.env)
      standAt pos'
      holding [v, ov, iv] (setItem ov iv v)
      release [v, ov, iv] []) := by intro _; rfl) : PS X (.Assign [.Subscript o i pos'] e pos) (denS X.K cl W (setIxM f g h)) :=
  PS.imp (ps_asg he (pg_sub ho hi set_list ha) hs hw h1) fun Dn σ H q => by
    refine denS_bind q fun B F as s w st1 H1 r1 o1 q w' hw' => ?_
    rcases toD_res w st1 with ⟨d, st2, ed⟩ | ed
    · rw [ed, bindS_ok] at q
      obtain ⟨F2, g2, r2, p2⟩ := toD_ok r1 hw' ed
      have qa := postS_grow g2 q
      have o2 := o1.mono g2
      refine ⟨B, F2, as, s, st2, r2, o2, post_mono (postS_bind o2 qa) fun v st3 F3 as3 H3 _ g3 r3 qb u hu => ?_⟩
      have o3 := o2.mono g3
      refine ⟨B, F3, as3, s, st3, r3, o3, post_mono (postS_bind o3 qb) fun j st4 F4 as4 H4 _ g4 r4 qc j' hj => ?_⟩
      have o4 := o3.mono g4
      cases e4 : lstAt v st4 with
      | none => rw [e4] at qc; exact qc.elim
      | some kx =>
        obtain ⟨k, xs⟩ := kx
        rw [e4] at qc
        obtain ⟨rfl, ec⟩ := lstAt_eq e4
        obtain ⟨a, rfl, ea⟩ := cel_at (hu.mono g4)
        obtain ⟨q1, vs, q2, q3⟩ := r4.ok k _ a ec ea
        have hj2 : ∃ n, j = .dat (.int n) := by
          cases j with
          | cel _ => exact qc.elim
          | scr _ => exact qc.elim
          | dat dj => cases dj with
            | int n => exact ⟨n, rfl⟩
            | none => exact qc.elim
            | bool _ => exact qc.elim
            | str _ => exact qc.elim
            | list _ => exact qc.elim
            | tuple _ => exact qc.elim
            | dict _ => exact qc.elim
        obtain ⟨n, rfl⟩ := hj2
        simp only at qc
        cases hm : ixN xs.length n with
        | none => simp only [hm] at qc; exact qc.elim
        | some m =>
          simp only [hm] at qc
          rw [vl_int hj]
          refine ⟨a, vs, n, m, rfl, rfl, q2, by rw [Paired.length q3]; exact hm, ?_⟩
          exact qc σ F4 as4 _ Grow.refl (cell_put r4 ea ec (Vls.set (.dat (p2.mono (g3.trans g4).sub)) q3 m)) o4
    · rw [ed] at q
      exact q.elim
end

/-! ### defs -/
def fnV (n k : Nat) (body : SM) : List Vl → Store → Res Vl := fun args st => if args.length = n then (match body (args.map some ++ List.replicate k none) st with
  | .rt v st' => .ok v st'
  | .nx _ st' => .ok (.dat .none) st'
  | .exc c p _ st' => .exc c p st'
  | _ => .no) else .no
theorem start_slots {K : Fr} {F : Hp} {as : List Addr} {vs : List V} {args : List Vl} {N : List Str} {k : Nat} (h : VlsOk K F as vs args) (hk : N.length = vs.length + k) : SlOk K F as (L2.start N vs) (args.map some ++ List.replicate k none) := by
  have hl := Paired.length h
  have e : N.length - vs.length = k := by omega
  unfold L2.start
  rw [e]
  refine ⟨by simp [hl], fun i v e => ?_⟩
  by_cases hi : i < args.length
  · rw [List.getElem?_append_left (by simpa using hi), List.getElem?_map] at e
    cases e2 : args[i]? with
    | none => rw [e2] at e; cases e
    | some w =>
      rw [e2] at e
      cases e
      obtain ⟨u, e3, e4⟩ := Vls.last h e2
      refine ⟨u, ?_, e4⟩
      rw [List.getElem?_append_left (by rw [List.length_map, hl]; exact hi), List.getElem?_map, e3]
      rfl
  · rw [List.getElem?_append_right (by simpa using hi), List.getElem?_replicate] at e
    split at e <;> cases e
section
variable {P : Program} {w : World} {K : PySem.W.Frag} {mg : Str → Option Value} {base : Heap} {x qual : Str} {params : Arguments} {body : List Stmt} {scope : Scope} {f : Addr} {fd : FuncData} {cl : Nat → Value}
/-- THE RULE: a def keeps the promise of its denotation -/
theorem fn_ok {N ps : List Str} {k n j : Nat} {m : SM} (Fd : FunD K x qual params body scope [] [] f fd) (S : FnScope N ps scope) (hn : ps.length = n) (hj : N.length = n + j)
    (hbody : ∀ (cdv : Value) (A : Around) (outer : List Env) (s : Shared) (H : Hp) (E : XK), Room k (A.deeper (envOfC qual scope s.heap.objs.size f cdv)) →
      Takes (cxOf (L2.CX P w) P w K mg base N qual scope f cdv A outer s H E) (fun c d _ H' => E c d H') → PassesOwn (model P w) (A.deeper (envOfC qual scope s.heap.objs.size f cdv)) (envOfC qual scope s.heap.objs.size f cdv) (cxOf (L2.CX P w) P w K mg base N qual scope f cdv A outer s H E).xe →
      PSs (cxOf (L2.CX P w) P w K mg base N qual scope f cdv A outer s H E) body (denS K cl (fun c d _ H' => E c d H') m)) :
    FnOk P w K mg base (L2.CX P w) (k + 1) f fd ps (spV K cl (fnV n j m)) := by
  refine Fd.ok S (fun vs H Q E h => ?_) (fun cdv A outer s H vs Q E hr h => ⟨_, hbody cdv A outer s H E hr (takes_of rfl rfl rfl rfl) (passes_of (X := cxOf (L2.CX P w) P w K mg base N qual scope f cdv A outer s H E) rfl), ?_⟩)
  · obtain ⟨B, F, as, args, st, r, o, p⟩ := h
    unfold fnV at p
    split at p
    · rename_i e
      rw [Paired.length o, e, hn]
    · exact p.elim
  · obtain ⟨B, F, as, args, st, r, o, p⟩ := h
    unfold fnV at p
    split at p
    · rename_i e
      have hl : vs.length = n := (Paired.length o).trans e
      refine ⟨B, F, as, _, st, r, start_slots (k := j) o (by rw [hj, hl]), ?_⟩
      revert p
      cases m (args.map some ++ List.replicate j none) st with
      | rt v st' => exact fun p u F' as' H' g' r' k => p F' as' H' g' r' u k
      | nx s' st' => exact fun p σ' F' as' H' g' r' k => p F' as' H' g' r' _ (.dat .non)
      | exc c p2 s' st' => exact fun p x σ' F' as' H' g' r' k e => p x F' as' H' g' r' e
      | bk s' st' => exact fun p => p.elim
      | ct s' st' => exact fun p => p.elim
      | no => exact fun p => p.elim
    · exact p.elim
end
/-! what a def hands back is data, and what it made is forgotten -/
def below (n : Nat) : Cell → Bool
  | .lst xs => xs.all fun v => match v with
    | .cel k => decide (k < n)
    | _ => true
  | .frz _ => true
def trim (n : Nat) (st : Store) : Bool := (st.take n).all (below n)
open Classical in
noncomputable def closeD (g : List Vl → Store → Res Vl) : List Vl → Store → Res Vl := fun args st => match g args st with
  | .ok v st' => (toD v st').bind fun d st2 => if st2.take st.length = st ∨ trim st.length st2 = true then .ok (.dat d) (st2.take st.length) else .no
  | .exc c p st' => if st'.take st.length = st ∨ trim st.length st' = true then .exc c p (st'.take st.length) else .no
  | .no => .no
/-- a store that stands holds no cell of its own behind its end -/
theorem RepH.trim {K : Fr} {B F : Hp} {as : List Addr} {H : Hp} {st : Store} (r : RepH K B F as H st) : trim st.length st = true := by
  unfold Pd.trim
  rw [List.take_length]
  refine List.all_eq_true.mpr fun c hc => ?_
  obtain ⟨k, hk, e⟩ := List.getElem_of_mem hc
  have hk2 : k < as.length := by rw [r.len]; exact hk
  have q := r.ok k c as[k] (by rw [List.getElem?_eq_getElem hk, e]) (List.getElem?_eq_getElem hk2)
  cases c with
  | frz d => rfl
  | lst xs =>
    obtain ⟨_, vs, _, q3⟩ := q
    refine List.all_eq_true.mpr fun v hv => ?_
    obtain ⟨i, hi, e2⟩ := List.getElem_of_mem hv
    obtain ⟨u, _, q4⟩ := Vls.last q3 (show _[i]? = some v by rw [List.getElem?_eq_getElem hi, e2])
    cases q4 with
    | dat h => rfl
    | scr h => rfl
    | cel h =>
      refine decide_eq_true ?_
      rw [← r.len]
      exact (List.getElem?_eq_some_iff.mp h).1
theorem trim_of {K : Fr} {B F : Hp} {as : List Addr} {H : Hp} {st st2 : Store} (r : RepH K B F as H st) (h : st2.take st.length = st ∨ trim st.length st2 = true) : trim st.length st2 = true := by
  rcases h with h | h
  · have q := r.trim
    unfold trim at q ⊢
    rw [List.take_length] at q
    rw [h]
    exact q
  · exact h
theorem trim_ok {K : Fr} {B F : Hp} {as as' : List Addr} {H : Hp} {st : Store} {n : Nat} (r : RepH K B F as' H st) (e : as <+: as') (hn : as.length = n) (ht : trim n st = true) : RepH K B F as H (st.take n) := by
  obtain ⟨t, rfl⟩ := e
  have hl : n ≤ st.length := by
    rw [← r.len, ← hn, List.length_append]
    omega
  refine ⟨r.fh, r.bh, (List.nodup_append.mp r.nd).1, by rw [List.length_take, hn]; omega, fun a ha => r.bn a (List.mem_append_left _ ha), fun a ha => r.hs a (List.mem_append_left _ ha), fun k c a e1 e2 => ?_⟩
  have hk : k < n := by
    have := (List.getElem?_eq_some_iff.mp e2).1
    omega
  have e3 : (as ++ t)[k]? = some a := as_ext (List.prefix_append _ _) e2
  rw [List.getElem?_take_of_lt hk] at e1
  have q := r.ok k c a e1 e3
  cases c with
  | frz d => exact q
  | lst xs =>
    obtain ⟨q1, vs, q2, q3⟩ := q
    refine ⟨q1, vs, q2, ?_⟩
    have hb : below n (.lst xs) = true := List.all_eq_true.mp ht _ (List.mem_of_getElem? (by rw [List.getElem?_take_of_lt hk]; exact e1))
    have hb2 : ∀ v ∈ xs, (match v with | .cel k => decide (k < n) | _ => true) = true := List.all_eq_true.mp hb
    clear q2 hb e1
    induction q3 with
    | nil => exact .nil
    | cons h1 h2 ih =>
      refine .cons ?_ (ih fun v hv => hb2 v (List.mem_cons_of_mem _ hv))
      cases h1 with
      | dat h => exact .dat h
      | scr h => exact .scr h
      | cel h =>
        have := of_decide_eq_true (hb2 _ List.mem_cons_self)
        refine .cel ?_
        rw [List.getElem?_append_left (by omega)] at h
        exact h
section
variable {P : Program} {w : World} {K : PySem.W.Frag} {mg : Str → Option Value} {base : Heap} {f : Addr} {fd : FuncData} {cl : Nat → Value} {ps : List Str} {k : Nat} {g : List Vl → Store → Res Vl}
theorem fn_close (h : FnOk P w K mg base (L2.CX P w) k f fd ps (spV K cl g)) : FnOk P w K mg base (L2.CX P w) k f fd ps (spV K cl (closeD g)) := h.imp fun vs H Q E q => by
  obtain ⟨B, F, as, args, st, r, o, p⟩ := q
  refine ⟨B, F, as, args, st, r, o, ?_⟩
  unfold closeD at p
  cases e : g args st with
  | no => rw [e] at p; exact p
  | exc c p2 st' =>
    rw [e] at p
    simp only at p
    split at p
    · rename_i ht
      exact fun x F' as' H' g' r' ex => p x F' as H' ⟨g'.sub, g'.frame, List.prefix_refl _⟩ (trim_ok r' g'.ext r.len (trim_of r ht)) ex
    · exact p.elim
  | ok v st' =>
    rw [e] at p
    simp only at p
    intro F' as' H' g' r' u hu
    rcases toD_res v st' with ⟨d, st2, ed⟩ | ed
    · rw [ed, Res.bind_ok] at p
      obtain ⟨F2, g2, r2, p2⟩ := toD_ok r' hu ed
      split at p
      · rename_i ht
        have g3 := g'.trans g2
        exact p F2 as H' ⟨g3.sub, g3.frame, List.prefix_refl _⟩ (trim_ok r2 g3.ext r.len (trim_of r ht)) u (.dat p2)
      · exact p.elim
    · rw [ed] at p
      exact p.elim
/-- the same promise by another denotation that is equal to it -/
theorem fn_eq {g' : List Vl → Store → Res Vl} (h : FnOk P w K mg base (L2.CX P w) k f fd ps (spV K cl g)) (e : ∀ args st, g' args st ≠ .no → g args st = g' args st) : FnOk P w K mg base (L2.CX P w) k f fd ps (spV K cl g') := h.imp fun vs H Q E q => by
  obtain ⟨B, F, as, args, st, r, o, p⟩ := q
  refine ⟨B, F, as, args, st, r, o, ?_⟩
  rw [e args st (fun z => by rw [z] at p; exact p)]
  exact p
end
theorem closeD_ok {g : List Vl → Store → Res Vl} {args : List Vl} {st st' : Store} {d : D} (h : g args st = .ok (.dat d) (st ++ st')) : closeD g args st = .ok (.dat d) st := by
  unfold closeD
  rw [h]
  simp
theorem closeD_okS {g : List Vl → Store → Res Vl} {args : List Vl} {st st' : Store} {d : D} (h : g args st = .ok (.dat d) st') (ht : st'.length = st.length) (hb : trim st.length st' = true) : closeD g args st = .ok (.dat d) st' := by
  unfold closeD
  rw [h]
  have e : st'.take st.length = st' := by rw [← ht, List.take_length]
  simp [hb, e]
theorem closeD_exc {g : List Vl → Store → Res Vl} {args : List Vl} {st st' : Store} {c : Nat} {p : Option (Str × D)} (h : g args st = .exc c p (st ++ st')) : closeD g args st = .exc c p st := by
  unfold closeD
  rw [h]
  simp
end Pd

set_option Elab.async false
set_option linter.all false
set_option maxRecDepth 100000
set_option maxHeartbeats 4000000
/-! Pd6: the operations on data, each with its rule. -/
namespace Pd
open PySem PySem.Spec PyProof.Rows L2 RZ

/-! ### arithmetic -/
def mulOk (i j : Int) : Bool := decide (i.natAbs.log2 + j.natAbs.log2 < 100000000) || decide (j.natAbs.log2 < 62)
def CMulX (i j : Int) : Prop := mulOk i j = true
theorem CMulX.ok {i j : Int} (h : CMulX i j) : IntMulOk i j := by
  have b : ∀ x : Int, Builtin.Int.intBits x ≤ x.natAbs.log2 + 1 := fun x => by
    unfold Builtin.Int.intBits
    split <;> omega
  have h1 := b i
  have h2 := b j
  rcases Bool.or_eq_true_iff.mp h with h | h
  rotate_left
  · have h3 : j.natAbs.log2 < 62 := of_decide_eq_true h
    exact IntMulOk.of_right (by omega)
  have h3 : i.natAbs.log2 + j.natAbs.log2 < 100000000 := of_decide_eq_true h
  have e : bitsLine = 134217728 := by decide
  unfold IntMulOk
  intro z
  rw [Bool.and_eq_true] at z
  have z2 := z.2
  unfold Builtin.Int.intTooBig at z2
  have z3 := of_decide_eq_true z2
  rw [e] at z3
  omega
theorem mulOk_of {i j : Int} {a b : Nat} (ha : i.natAbs < 2 ^ a) (hb : j.natAbs < 2 ^ b) (h0 : 0 < a) (h1 : 0 < b) (h : a + b ≤ 100000000) : mulOk i j = true := by
  have x := PySem.Flt.log2_lt_of h0 ha
  have y := PySem.Flt.log2_lt_of h1 hb
  unfold mulOk
  rw [decide_eq_true (by omega : i.natAbs.log2 + j.natAbs.log2 < 100000000)]
  rfl
theorem mulOk_r {i j : Int} (h : j.natAbs.log2 < 62) : mulOk i j = true := by
  unfold mulOk
  rw [decide_eq_true h, Bool.or_true]
def divOk (j : Int) : Bool := decide (0 < j) && decide (j.natAbs.log2 < 9000)
theorem divOk_of {j : Int} {b : Nat} (h : 0 < j) (hb : j.natAbs < 2 ^ b) (h0 : 0 < b) (h9 : b ≤ 9000) : divOk j = true := by
  have x := PySem.Flt.log2_lt_of h0 hb
  unfold divOk
  rw [decide_eq_true h, decide_eq_true (by omega : j.natAbs.log2 < 9000)]
  rfl
section
variable {X : Cx}
theorem op_mulX : OpR X (binaryOp .Mult) (rI CMulX fun i j => .int (i * j)) := opI fun _ _ _ _ _ _ _ hc q => mul_int q hc.ok
abbrev rStr : R2 := fun x y H Q => ∃ i j, x = .str i ∧ y = .str j ∧ i.length + j.length ≤ sizeLine ∧ Q (.str (i ++ j)) H
abbrev rAddA (K : Fr) : R2 := fun x y H Q => rI0 (fun i j => V.int (i + j)) x y H Q ∨ (rCat x y H Q ∨ (rCatA K x y H Q ∨ rStr x y H Q))
theorem op_addA : OpR X (binaryOp .Add) (rAddA X.K) := op_add.or (op_cat.or (op_catA.or op_add_str))
abbrev rMulA : R2 := fun x y H Q => rI CMulX (fun i j => V.int (i * j)) x y H Q ∨ rRep x y H Q
theorem op_mulA : OpR X (binaryOp .Mult) rMulA := op_mulX.or op_rep
end
def addD : D → D → Option D
  | .int i, .int j => some (.int (i + j))
  | .list xs, .list ys => if xs.length + ys.length ≤ sizeLine then some (.list (xs ++ ys)) else none
  | .tuple xs, .tuple ys => if xs.length + ys.length ≤ sizeLine then some (.tuple (xs ++ ys)) else none
  | .str x, .str y => if x.length + y.length ≤ sizeLine then some (.str (x ++ y)) else none
  | _, _ => none
def subD : D → D → Option D
  | .int i, .int j => some (.int (i - j))
  | _, _ => none
def mulD : D → D → Option D
  | .int i, .int j => if mulOk i j = true then some (.int (i * j)) else none
  | .list xs, .int k => if (-(2 ^ 63) ≤ k ∧ k < 2 ^ 63) ∧ xs.length * k.toNat ≤ sizeLine then some (.list (List.replicate k.toNat xs).flatten) else none
  | _, _ => none
def fdivD : D → D → Option D
  | .int i, .int j => if divOk j = true then some (.int (i / j)) else none
  | _, _ => none
def modD : D → D → Option D
  | .int i, .int j => if 0 < j then some (.int (i % j)) else none
  | _, _ => none
def powD : D → D → Option D
  | .int i, .int j => if 0 ≤ j ∧ j ≤ 1000000 ∧ i.natAbs < 2 ^ 64 then some (.int (i ^ j.toNat)) else none
  | _, _ => none
def negD : D → Option D
  | .int i => some (.int (-i))
  | _ => none
def ltD : D → D → Option D
  | .int i, .int j => some (.bool (decide (i < j)))
  | _, _ => none
def leD : D → D → Option D
  | .int i, .int j => some (.bool (decide (i ≤ j)))
  | _, _ => none
def gtD : D → D → Option D
  | .int i, .int j => some (.bool (decide (j < i)))
  | _, _ => none
def geD : D → D → Option D
  | .int i, .int j => some (.bool (decide (j ≤ i)))
  | _, _ => none
def eqD (x y : D) : Option D := if SeqAt.shaped x = true ∧ SeqAt.shaped y = true then some (.bool (PyData.eqv x y)) else none
def neD (x y : D) : Option D := if SeqAt.shaped x = true ∧ SeqAt.shaped y = true then some (.bool (!PyData.eqv x y)) else none
def noneB : D → Bool
  | .none => true
  | _ => false
/-- is None, is not None -/
def isND (x y : D) : Option D := match y with
  | .none => some (.bool (noneB x))
  | _ => none
def notND (x y : D) : Option D := match y with
  | .none => some (.bool (!noneB x))
  | _ => none
section
variable {K : Fr}
theorem od_int0 {h : D → D → Option D} {g : Int → Int → D} {gv : Int → Int → V} (hg : ∀ F i j, Rp K F (gv i j) (g i j)) (hh : ∀ a b c, h a b = some c → ∃ i j, a = .int i ∧ b = .int j ∧ c = g i j) : OpD K (rI0 gv) h := by
  intro F H x y a b c Q e ha hb eh q
  obtain ⟨i, j, rfl, rfl, rfl⟩ := hh a b c eh
  rw [ha.int, hb.int]
  exact ⟨i, j, rfl, rfl, q _ F H (Ext.refl e) (hg F i j)⟩
theorem od_intC {C : Int → Int → Prop} {h : D → D → Option D} {g : Int → Int → Int} (hh : ∀ a b c, h a b = some c → ∃ i j, a = .int i ∧ b = .int j ∧ C i j ∧ c = .int (g i j)) : OpD K (rI C fun i j => .int (g i j)) h := by
  intro F H x y a b c Q e ha hb eh q
  obtain ⟨i, j, rfl, rfl, hc, rfl⟩ := hh a b c eh
  rw [ha.int, hb.int]
  exact ⟨i, j, rfl, rfl, hc, q _ F H (Ext.refl e) (.int _)⟩
theorem od_sub : OpD K (rI0 fun i j => .int (i - j)) subD := od_int0 (g := fun i j => .int (i - j)) (fun F i j => .int _) fun a b c h => by
  unfold subD at h
  split at h
  · cases h; exact ⟨_, _, rfl, rfl, rfl⟩
  · cases h
theorem od_lt : OpD K (rI0 fun i j => .bl (decide (i < j))) ltD := od_int0 (g := fun i j => .bool (decide (i < j))) (fun F i j => .bl _) fun a b c h => by
  unfold ltD at h
  split at h
  · cases h; exact ⟨_, _, rfl, rfl, rfl⟩
  · cases h
theorem od_le : OpD K (rI0 fun i j => .bl (decide (i ≤ j))) leD := od_int0 (g := fun i j => .bool (decide (i ≤ j))) (fun F i j => .bl _) fun a b c h => by
  unfold leD at h
  split at h
  · cases h; exact ⟨_, _, rfl, rfl, rfl⟩
  · cases h
theorem od_gt : OpD K (rI0 fun i j => .bl (decide (j < i))) gtD := od_int0 (g := fun i j => .bool (decide (j < i))) (fun F i j => .bl _) fun a b c h => by
  unfold gtD at h
  split at h
  · cases h; exact ⟨_, _, rfl, rfl, rfl⟩
  · cases h
theorem od_ge : OpD K (rI0 fun i j => .bl (decide (j ≤ i))) geD := od_int0 (g := fun i j => .bool (decide (j ≤ i))) (fun F i j => .bl _) fun a b c h => by
  unfold geD at h
  split at h
  · cases h; exact ⟨_, _, rfl, rfl, rfl⟩
  · cases h
theorem b2_lt : BoolOp2 ltD := fun a b c h => by
  unfold ltD at h
  split at h
  · cases h; exact ⟨_, rfl⟩
  · cases h
theorem b2_le : BoolOp2 leD := fun a b c h => by
  unfold leD at h
  split at h
  · cases h; exact ⟨_, rfl⟩
  · cases h
theorem b2_gt : BoolOp2 gtD := fun a b c h => by
  unfold gtD at h
  split at h
  · cases h; exact ⟨_, rfl⟩
  · cases h
theorem b2_ge : BoolOp2 geD := fun a b c h => by
  unfold geD at h
  split at h
  · cases h; exact ⟨_, rfl⟩
  · cases h
theorem b2_eq : BoolOp2 eqD := fun a b c h => by
  unfold eqD at h
  split at h
  · cases h; exact ⟨_, rfl⟩
  · cases h
theorem b2_ne : BoolOp2 neD := fun a b c h => by
  unfold neD at h
  split at h
  · cases h; exact ⟨_, rfl⟩
  · cases h
theorem b2_isN : BoolOp2 isND := fun a b c h => by
  unfold isND at h
  split at h
  · cases h; exact ⟨_, rfl⟩
  · cases h
theorem b2_notN : BoolOp2 notND := fun a b c h => by
  unfold notND at h
  split at h
  · cases h; exact ⟨_, rfl⟩
  · cases h
theorem od_fdiv : OpD K (rI CDivW fun i j => .int (i / j)) fdivD := od_intC fun a b c h => by
  unfold fdivD at h
  split at h
  · split at h
    · rename_i hd
      cases h
      unfold divOk at hd
      rw [Bool.and_eq_true] at hd
      exact ⟨_, _, rfl, rfl, ⟨of_decide_eq_true hd.1, of_decide_eq_true hd.2⟩, rfl⟩
    · cases h
  · cases h
theorem od_mod : OpD K (rI (fun _ j => 0 < j) fun i j => .int (i % j)) modD := od_intC fun a b c h => by
  unfold modD at h
  split at h
  · split at h
    · cases h; exact ⟨_, _, rfl, rfl, by assumption, rfl⟩
    · cases h
  · cases h
theorem od_pow : OpD K (rI CPow fun i j => .int (i ^ j.toNat)) powD := od_intC fun a b c h => by
  unfold powD at h
  split at h
  · split at h
    · cases h; exact ⟨_, _, rfl, rfl, by assumption, rfl⟩
    · cases h
  · cases h
theorem o1_neg : Op1 K (rU fun i => .int (-i)) negD := fun F H x a c Q e ha eh q => by
  unfold negD at eh
  split at eh
  · cases eh
    rw [ha.int]
    exact ⟨_, rfl, q _ F H (Ext.refl e) (.int _)⟩
  · cases eh
theorem od_add : OpD K (rAddA K) addD := by
  intro F H x y a b c Q e ha hb eh q
  unfold addD at eh
  split at eh
  · cases eh
    rw [ha.int, hb.int]
    exact .inl ⟨_, _, rfl, rfl, q _ F H (Ext.refl e) (.int _)⟩
  · split at eh
    · rename_i hl
      cases eh
      obtain ⟨p1, vs1, rfl, h1, r1⟩ := ha.list e
      obtain ⟨p2, vs2, rfl, h2, r2⟩ := hb.list e
      refine .inr (.inl ⟨p1, p2, vs1, vs2, rfl, rfl, h1, h2, by rw [r1.len, r2.len]; exact hl, fun p hp => ?_⟩)
      have x := Ext.new (o := .lst (vs1 ++ vs2)) e hp
      exact q _ _ _ x (.lst upd_same ((r1.append r2).mono x.f))
    · cases eh
  · split at eh
    · rename_i hl
      cases eh
      obtain ⟨p1, vs1, rfl, h1, r1⟩ := ha.tuple
      obtain ⟨p2, vs2, rfl, h2, r2⟩ := hb.tuple
      refine .inr (.inr (.inl ⟨p1, p2, vs1, vs2, rfl, rfl, sqt_mono e h1, sqt_mono e h2, by rw [r1.len, r2.len]; exact hl, fun z => ?_, fun z z2 => ?_, fun _ _ p hp => ?_⟩))
      · subst z
        cases r1
        exact q _ F H (Ext.refl e) (.tup h2 r2)
      · subst z2
        cases r2
        rw [List.append_nil] at q
        exact q _ F H (Ext.refl e) (.tup h1 r1)
      · have x := Ext.new (o := .tup (vs1 ++ vs2)) e hp
        exact q _ _ _ x (.tup (.inl (.inl upd_same)) ((r1.append r2).mono x.f))
    · cases eh
  · split at eh
    · rename_i hl
      cases eh
      rw [ha.str, hb.str]
      exact .inr (.inr (.inr ⟨_, _, rfl, rfl, hl, q _ F H (Ext.refl e) (.str _)⟩))
    · cases eh
  · cases eh
theorem od_mul : OpD K rMulA mulD := by
  intro F H x y a b c Q e ha hb eh q
  unfold mulD at eh
  split at eh
  · split at eh
    · rename_i hc
      cases eh
      rw [ha.int, hb.int]
      exact .inl ⟨_, _, rfl, rfl, hc, q _ F H (Ext.refl e) (.int _)⟩
    · cases eh
  · split at eh
    · rename_i k hl
      cases eh
      obtain ⟨p1, vs1, rfl, h1, r1⟩ := ha.list e
      rw [hb.int]
      refine .inr ⟨p1, _, vs1, rfl, rfl, h1, hl.1.1, hl.1.2, by rw [r1.len]; exact hl.2, fun p hp => ?_⟩
      have x := Ext.new (o := .lst (List.replicate k.toNat vs1).flatten) e hp
      exact q _ _ _ x (.lst upd_same ((r1.rep _).mono x.f))
    · cases eh
  · cases eh
theorem od_eq : OpD K (rEqD K) eqD := by
  intro F H x y a b c Q e ha hb eh q
  unfold eqD at eh
  split at eh
  · rename_i hs
    cases eh
    exact ⟨a, b, ha.dp e, hb.dp e, hs.1, hs.2, q _ F H (Ext.refl e) (.bl _)⟩
  · cases eh
theorem od_ne : OpD K (rNeD K) neD := by
  intro F H x y a b c Q e ha hb eh q
  unfold neD at eh
  split at eh
  · rename_i hs
    cases eh
    exact ⟨a, b, ha.dp e, hb.dp e, hs.1, hs.2, q _ F H (Ext.refl e) (.bl _)⟩
  · cases eh
theorem non_iff {F H : Hp} {x : V} {a : D} (h : RpS K F H x a) : decide (x = .non) = noneB a := by
  rcases h with h | ⟨p, vs, ds, rfl, rfl, _, _⟩
  · cases h <;> rfl
  · rfl
theorem od_isN : OpD K (fun x y H Q => y = .non ∧ Q (.bl (decide (x = .non))) H) isND := by
  intro F H x y a b c Q e ha hb eh q
  unfold isND at eh
  split at eh
  · cases eh
    refine ⟨hb.non, ?_⟩
    rw [non_iff ha]
    exact q _ F H (Ext.refl e) (.bl _)
  · cases eh
theorem od_notN : OpD K (fun x y H Q => y = .non ∧ Q (.bl (!decide (x = .non))) H) notND := by
  intro F H x y a b c Q e ha hb eh q
  unfold notND at eh
  split at eh
  · cases eh
    refine ⟨hb.non, ?_⟩
    rw [non_iff ha]
    exact q _ F H (Ext.refl e) (.bl _)
  · cases eh
end

/-! ### sequences -/
def ixD : D → D → Option D
  | .list ds, .int i => atI ds i
  | .tuple ds, .int i => atI ds i
  | .str z, .int i => if z.length ≤ sizeLine then (atI z.cps.toList i).map fun c => .str ⟨#[c]⟩ else none
  | _, _ => none
theorem RpA.at {K : Fr} {F : Hp} {vs : List V} {ds : List D} {i : Int} {d : D} (h : RpA K F vs ds) (e : atI ds i = some d) : ∃ v, atI vs i = some v ∧ Rp K F v d := by
  unfold atI at e ⊢
  rw [h.len]
  cases e2 : ixN ds.length i with
  | none => rw [e2] at e; cases e
  | some j =>
    rw [e2] at e
    exact h.get e
theorem od_ix {K : Fr} : OpD K (rIx K) ixD := by
  intro F H x y a b c Q e ha hb eh q
  unfold ixD at eh
  split at eh
  · obtain ⟨p1, vs1, rfl, h1, r1⟩ := ha.list e
    rw [hb.int]
    obtain ⟨v, e1, e2⟩ := r1.at eh
    exact .inl ⟨p1, vs1, _, v, rfl, rfl, .inl (.inl h1), e1, q _ F H (Ext.refl e) e2⟩
  · obtain ⟨p1, vs1, rfl, h1, r1⟩ := ha.tuple
    rw [hb.int]
    obtain ⟨v, e1, e2⟩ := r1.at eh
    exact .inr (.inl ⟨p1, vs1, _, v, rfl, rfl, sqt_mono e h1, e1, q _ F H (Ext.refl e) e2⟩)
  · split at eh
    · rename_i hl
      rw [ha.str, hb.int]
      rename_i z i
      cases ec : atI z.cps.toList i with
      | none => rw [ec] at eh; cases eh
      | some c0 =>
        rw [ec] at eh
        cases eh
        exact .inr (.inr ⟨z, i, c0, rfl, rfl, hl, ec, q _ F H (Ext.refl e) (.str _)⟩)
    · cases eh
  · cases eh
/-! slices -/
abbrev OM := Slots → Store → Res (Option Int)
def denO (K : Fr) (cl : Nat → Value) (W : WX) (m : OM) : TO := fun σ H Q => den K cl W m σ H fun o _ _ _ H' => Q o H'
def noO : OM := fun _ st => .ok none st
def someO (f : EM) : OM := fun s st => (f s st).bind fun v st1 => match v with
  | .dat (.int i) => .ok (some i) st1
  | _ => .no
def cutL {α : Type} (xs : List α) (lo hi : Option Int) : List α := (xs.drop (HT.sIx xs.length 0 lo)).take (HT.sIx xs.length xs.length hi - HT.sIx xs.length 0 lo)
theorem RpA.cut {K : Fr} {F : Hp} {vs : List V} {ds : List D} (h : RpA K F vs ds) (lo hi : Option Int) : RpA K F (cutV vs lo hi) (cutL ds lo hi) := by
  unfold cutV cutL
  rw [h.len]
  exact (h.drop _).take _
def sliceD (d : D) (lo hi : Option Int) : Option D := match d with
  | .list ds => some (.list (cutL ds lo hi))
  | .tuple ds => some (.tuple (cutL ds lo hi))
  | _ => none
def sliceM (f : EM) (lo hi : OM) : EM := fun s st => (f s st).bind fun v st1 => (lo s st1).bind fun l st2 => (hi s st2).bind fun h st3 => match peek v st3 with
  | some d => (match sliceD d l h with
    | some z => .ok (.dat z) st3
    | none => .no)
  | none => .no
theorem cut_whole {α : Type} {xs : List α} {lo hi : Option Int} (h1 : HT.sIx xs.length 0 lo = 0) (h2 : HT.sIx xs.length xs.length hi = xs.length) : cutL xs lo hi = xs := by
  unfold cutL
  rw [h1, h2]
  simp
section
variable {X : Cx} {cl : Nat → Value} {W : WX} {e : Expr} {pos p2 : Pos} {f : EM} {l h : OM} {lo hi : Option Expr}
theorem qo_none : PO X none (denO X.K cl W noO) := PO.imp po_none fun σ H Q q => by
  obtain ⟨B, F, as, s, st, r, o, p⟩ := q
  exact post_ok p r
theorem qo_some (he : PE X e (denE X.K cl W f)) : PO X (some e) (denO X.K cl W (someO f)) := PO.imp (po_some he) fun σ H Q q => by
  refine den_bind q fun B F as s v st1 H1 r1 o1 q u hu => ?_
  split at q
  · exact ⟨_, vl_int hu, post_ok q r1⟩
  · exact q.elim
theorem qe_slice (he : PE X e (denE X.K cl W f)) (hl : PO X lo (denO X.K cl W l)) (hh : PO X hi (denO X.K cl W h)) : PE X (.Subscript e (.Slice lo hi none p2) pos) (denE X.K cl W (sliceM f l h)) :=
  PE.imp (pe_slice (sl_list.or sl_tupA) he hl hh) fun σ H Q q => by
    refine den_bind q fun B F as s v st1 H1 r1 o1 q u hu => ?_
    refine ⟨B, F, as, s, st1, r1, o1, post_mono (post_bind q) fun l0 st2 F2 as2 H2 _ g2 r2 q2 => ?_⟩
    refine ⟨B, F2, as2, s, st2, r2, o1.mono g2, post_mono (post_bind q2) fun h0 st3 F3 as3 H3 _ g3 r3 q3 => ?_⟩
    cases ea : peek v st3 with
    | none => rw [ea] at q3; exact q3.elim
    | some d =>
      rw [ea] at q3
      have hp := peek_ok r3 (hu.mono (g2.trans g3)) ea
      cases d with
      | list ds =>
        obtain ⟨a, vs, rfl, h1, rp⟩ := hp.list r3.fh
        refine .inl ⟨a, vs, rfl, .inl (.inl h1), fun p hp => ?_⟩
        have x := Ext.new (o := .lst (cutV vs l0 h0)) r3.fh hp
        exact q3 _ as3 _ (x.grow r3) (r3.ext x) _ (.dat (.lst upd_same ((rp.cut l0 h0).mono x.f)))
      | tuple ds =>
        obtain ⟨a, vs, rfl, h1, rp⟩ := hp.tuple
        refine .inr ⟨a, vs, rfl, sqt_mono r3.fh h1, fun z => ?_, fun z p hp => ?_⟩
        · rw [rp.len] at z
          have q4 := post_ok q3 r3 (.ref a)
          rw [cut_whole z.1 z.2] at q4
          exact q4 (.dat (.tup h1 rp))
        · have x := Ext.new (o := .tup (cutV vs l0 h0)) r3.fh hp
          exact q3 _ as3 _ (x.grow r3) (r3.ext x) _ (.dat (.tup (.inl (.inl upd_same)) ((rp.cut l0 h0).mono x.f)))
      | none => exact q3.elim
      | bool _ => exact q3.elim
      | int _ => exact q3.elim
      | str _ => exact q3.elim
      | dict _ => exact q3.elim
end

/-! ### builtins -/
def absD : List D → Option D
  | [.int i] => some (.int (if i < 0 then -i else i))
  | _ => none
def lenD : List D → Option D
  | [.list xs] => some (.int xs.length)
  | [.tuple xs] => some (.int xs.length)
  | [.str z] => if z.length ≤ sizeLine then some (.int z.length) else none
  | _ => none
def intD : List D → Option D
  | [.int i] => some (.int i)
  | [.bool b] => some (.int (if b then 1 else 0))
  | _ => none
def tupleD : List D → Option D
  | [.list xs] => some (.tuple xs)
  | [.tuple xs] => some (.tuple xs)
  | _ => none
def listD : List D → Option D
  | [.list xs] => some (.list xs)
  | [.tuple xs] => some (.list xs)
  | _ => none
def unInts : List D → Option (List Int)
  | [] => some []
  | .int i :: r => (unInts r).map (i :: ·)
  | _ :: _ => none
def unBools : List D → Option (List Bool)
  | [] => some []
  | .bool i :: r => (unBools r).map (i :: ·)
  | _ :: _ => none
@[simp] theorem unInts_map : ∀ ns : List Int, unInts (ns.map .int) = some ns
  | [] => rfl
  | n :: ns => by rw [List.map_cons, unInts, unInts_map ns]; rfl
@[simp] theorem unBools_map : ∀ ns : List Bool, unBools (ns.map .bool) = some ns
  | [] => rfl
  | n :: ns => by rw [List.map_cons, unBools, unBools_map ns]; rfl
theorem unInts_rp {K : Fr} {F : Hp} : ∀ {ds : List D} {vs : List V} {ns : List Int}, unInts ds = some ns → RpA K F vs ds → vs = ns.map V.int
  | [], _, _, h, r => by cases h; cases r; rfl
  | .int i :: ds, _, _, h, r => by
    unfold unInts at h
    cases e : unInts ds with
    | none => rw [e] at h; cases h
    | some ms =>
      rw [e] at h
      cases h
      cases r with
      | cons r1 r2 =>
        cases r1
        rw [unInts_rp e r2]
        rfl
  | .none :: _, _, _, h, _ => by cases h
  | .bool _ :: _, _, _, h, _ => by cases h
  | .str _ :: _, _, _, h, _ => by cases h
  | .list _ :: _, _, _, h, _ => by cases h
  | .tuple _ :: _, _, _, h, _ => by cases h
  | .dict _ :: _, _, _, h, _ => by cases h
theorem unBools_rp {K : Fr} {F : Hp} : ∀ {ds : List D} {vs : List V} {ns : List Bool}, unBools ds = some ns → RpA K F vs ds → vs = ns.map V.bl
  | [], _, _, h, r => by cases h; cases r; rfl
  | .bool i :: ds, _, _, h, r => by
    unfold unBools at h
    cases e : unBools ds with
    | none => rw [e] at h; cases h
    | some ms =>
      rw [e] at h
      cases h
      cases r with
      | cons r1 r2 =>
        cases r1
        rw [unBools_rp e r2]
        rfl
  | .none :: _, _, _, h, _ => by cases h
  | .int _ :: _, _, _, h, _ => by cases h
  | .str _ :: _, _, _, h, _ => by cases h
  | .list _ :: _, _, _, h, _ => by cases h
  | .tuple _ :: _, _, _, h, _ => by cases h
  | .dict _ :: _, _, _, h, _ => by cases h
def minI : List Int → Option Int
  | [] => none
  | i :: r => match minI r with
    | none => some i
    | some j => some (if j < i then j else i)
def maxI : List Int → Option Int
  | [] => none
  | i :: r => match maxI r with
    | none => some i
    | some j => some (if i < j then j else i)
theorem minI_spec : ∀ {ns : List Int} {m : Int}, minI ns = some m → m ∈ ns ∧ ∀ y ∈ ns, m ≤ y
  | i :: r, m, h => by
    unfold minI at h
    cases e : minI r with
    | none =>
      rw [e] at h
      cases h
      cases r with
      | nil => simp
      | cons j r =>
        unfold minI at e
        cases e2 : minI r <;> rw [e2] at e <;> cases e
    | some j =>
      rw [e] at h
      cases h
      obtain ⟨h1, h2⟩ := minI_spec e
      by_cases hji : j < i
      · rw [if_pos hji]
        refine ⟨List.mem_cons_of_mem _ h1, fun y hy => ?_⟩
        rcases List.mem_cons.mp hy with rfl | hy
        · omega
        · exact h2 y hy
      · rw [if_neg hji]
        refine ⟨List.mem_cons_self, fun y hy => ?_⟩
        rcases List.mem_cons.mp hy with rfl | hy
        · omega
        · have := h2 y hy
          omega
theorem maxI_spec : ∀ {ns : List Int} {m : Int}, maxI ns = some m → m ∈ ns ∧ ∀ y ∈ ns, y ≤ m
  | i :: r, m, h => by
    unfold maxI at h
    cases e : maxI r with
    | none =>
      rw [e] at h
      cases h
      cases r with
      | nil => simp
      | cons j r =>
        unfold maxI at e
        cases e2 : maxI r <;> rw [e2] at e <;> cases e
    | some j =>
      rw [e] at h
      cases h
      obtain ⟨h1, h2⟩ := maxI_spec e
      by_cases hji : i < j
      · rw [if_pos hji]
        refine ⟨List.mem_cons_of_mem _ h1, fun y hy => ?_⟩
        rcases List.mem_cons.mp hy with rfl | hy
        · omega
        · exact h2 y hy
      · rw [if_neg hji]
        refine ⟨List.mem_cons_self, fun y hy => ?_⟩
        rcases List.mem_cons.mp hy with rfl | hy
        · omega
        · have := h2 y hy
          omega
def minD : List D → Option D
  | [.list xs] => ((unInts xs).bind minI).map .int
  | _ => none
def maxD : List D → Option D
  | [.list xs] => ((unInts xs).bind maxI).map .int
  | _ => none
def sumD : List D → Option D
  | [.list xs] => (unInts xs).map fun ns => .int ns.sum
  | _ => none
def allD : List D → Option D
  | [.list xs] => (unBools xs).map fun bs => .bool (bs.all id)
  | _ => none
def anyD : List D → Option D
  | [.list xs] => (unBools xs).map fun bs => .bool (bs.any id)
  | _ => none
def max2D : List D → Option D
  | [.int i, .int j] => some (.int (if j > i then j else i))
  | _ => none
def min2D : List D → Option D
  | [.int i, .int j] => some (.int (if j < i then j else i))
  | _ => none
theorem p1 {α β : Type} {R : α → β → Prop} {xs : List α} {b : β} (h : Paired R xs [b]) : ∃ a, xs = [a] ∧ R a b := by
  cases h with
  | cons h1 h2 => cases h2; exact ⟨_, rfl, h1⟩
theorem p2 {α β : Type} {R : α → β → Prop} {xs : List α} {b c : β} (h : Paired R xs [b, c]) : ∃ a d, xs = [a, d] ∧ R a b ∧ R d c := by
  cases h with
  | cons h1 h2 =>
    obtain ⟨d, rfl, h3⟩ := p1 h2
    exact ⟨_, _, rfl, h1, h3⟩
section
variable {K : Fr}
theorem on_abs : OpNd K (fun xs H Q => ∃ i, xs = [V.int i] ∧ Q (.int (if i < 0 then -i else i)) H) absD := fun F H xs ds c Q e hp eh q => by
  unfold absD at eh
  split at eh
  · cases eh
    obtain ⟨v, rfl, h⟩ := p1 hp
    rw [h.int]
    exact ⟨_, rfl, q _ F H (Ext.refl e) (.int _)⟩
  · cases eh
abbrev rLenA (K : Fr) : List V → Hp → VK → Prop := fun xs H Q => (∃ p ys, xs = [V.ref p] ∧ (SqL K H p ys ∨ SqT K H p ys) ∧ Q (.int ys.length) H) ∨ ∃ z, xs = [V.str z] ∧ z.length ≤ sizeLine ∧ Q (.int z.length) H
theorem on_len : OpNd K (rLenA K) lenD := fun F H xs ds c Q e hp eh q => by
  unfold lenD at eh
  split at eh
  · cases eh
    obtain ⟨v, rfl, h⟩ := p1 hp
    obtain ⟨a, vs, rfl, h1, h2⟩ := RpS.sq e (.inl h)
    exact .inl ⟨a, vs, rfl, h1, by rw [h2.len]; exact q _ F H (Ext.refl e) (.int _)⟩
  · cases eh
    obtain ⟨v, rfl, h⟩ := p1 hp
    obtain ⟨a, vs, rfl, h1, h2⟩ := RpS.sq e (.inr h)
    exact .inl ⟨a, vs, rfl, h1, by rw [h2.len]; exact q _ F H (Ext.refl e) (.int _)⟩
  · split at eh
    · rename_i hl
      cases eh
      obtain ⟨v, rfl, h⟩ := p1 hp
      rw [h.str]
      exact .inr ⟨_, rfl, hl, q _ F H (Ext.refl e) (.int _)⟩
    · cases eh
  · cases eh
theorem on_int : OpNd K (fun xs H Q => (∃ i, xs = [V.int i] ∧ Q (.int i) H) ∨ ∃ k, xs = [V.bl k] ∧ Q (.int (if k then 1 else 0)) H) intD := fun F H xs ds c Q e hp eh q => by
  unfold intD at eh
  split at eh
  · cases eh
    obtain ⟨v, rfl, h⟩ := p1 hp
    rw [h.int]
    exact .inl ⟨_, rfl, q _ F H (Ext.refl e) (.int _)⟩
  · cases eh
    obtain ⟨v, rfl, h⟩ := p1 hp
    rw [h.bl]
    exact .inr ⟨_, rfl, q _ F H (Ext.refl e) (.int _)⟩
  · cases eh
theorem on_tuple : OpNd K (fun xs H Q => ∃ p ys, xs = [V.ref p] ∧ ((SqL K H p ys ∧ ∀ l, H l = none → Q (.ref l) (upd H l (.tup ys))) ∨ (SqT K H p ys ∧ Q (.ref p) H))) tupleD := fun F H xs ds c Q e hp eh q => by
  unfold tupleD at eh
  split at eh
  · cases eh
    obtain ⟨v, rfl, h⟩ := p1 hp
    obtain ⟨a, vs, rfl, h1, h2⟩ := h.list e
    refine ⟨a, vs, rfl, .inl ⟨.inl (.inl h1), fun l hl => ?_⟩⟩
    have x := Ext.new (o := .tup vs) e hl
    exact q _ _ _ x (.tup (.inl (.inl upd_same)) (h2.mono x.f))
  · cases eh
    obtain ⟨v, rfl, h⟩ := p1 hp
    obtain ⟨a, vs, rfl, h1, h2⟩ := h.tuple
    exact ⟨a, vs, rfl, .inr ⟨sqt_mono e h1, q _ F H (Ext.refl e) (.tup h1 h2)⟩⟩
  · cases eh
theorem on_list : OpNd K (fun xs H Q => ∃ p ys, xs = [V.ref p] ∧ (SqL K H p ys ∨ SqT K H p ys) ∧ ∀ l, H l = none → Q (.ref l) (upd H l (.lst ys))) listD := fun F H xs ds c Q e hp eh q => by
  unfold listD at eh
  split at eh
  · cases eh
    obtain ⟨v, rfl, h⟩ := p1 hp
    obtain ⟨a, vs, rfl, h1, h2⟩ := RpS.sq e (.inl h)
    refine ⟨a, vs, rfl, h1, fun l hl => ?_⟩
    have x := Ext.new (o := .lst vs) e hl
    exact q _ _ _ x (.lst upd_same (h2.mono x.f))
  · cases eh
    obtain ⟨v, rfl, h⟩ := p1 hp
    obtain ⟨a, vs, rfl, h1, h2⟩ := RpS.sq e (.inr h)
    refine ⟨a, vs, rfl, h1, fun l hl => ?_⟩
    have x := Ext.new (o := .lst vs) e hl
    exact q _ _ _ x (.lst upd_same (h2.mono x.f))
  · cases eh
theorem ints_of {F H : Hp} {v : V} {xs : List D} {ns : List Int} (e : Same F H) (h : RpS K F H v (.list xs)) (hi : unInts xs = some ns) : ∃ a, v = .ref a ∧ SqL K H a (ns.map V.int) := by
  obtain ⟨a, vs, rfl, h1, h2⟩ := h.list e
  rw [unInts_rp hi h2] at h1
  exact ⟨a, rfl, .inl (.inl h1)⟩
theorem bools_of {F H : Hp} {v : V} {xs : List D} {ns : List Bool} (e : Same F H) (h : RpS K F H v (.list xs)) (hi : unBools xs = some ns) : ∃ a, v = .ref a ∧ SqL K H a (ns.map V.bl) := by
  obtain ⟨a, vs, rfl, h1, h2⟩ := h.list e
  rw [unBools_rp hi h2] at h1
  exact ⟨a, rfl, .inl (.inl h1)⟩
theorem on_min : OpNd K (rMin K) minD := fun F H xs ds c Q e hp eh q => by
  unfold minD at eh
  split at eh
  · rename_i zs
    obtain ⟨v, rfl, h⟩ := p1 hp
    cases ei : unInts zs with
    | none => rw [ei] at eh; cases eh
    | some ns =>
      rw [ei] at eh
      obtain ⟨a, rfl, hs⟩ := ints_of e h ei
      cases em : minI ns with
      | none => simp [em] at eh
      | some m =>
        simp [em] at eh
        subst eh
        obtain ⟨m1, m2⟩ := minI_spec em
        refine ⟨a, ns, rfl, hs, List.length_pos_of_mem m1, fun m' h1 h2 => ?_⟩
        have e1 := m2 m' h1
        have e2 := h2 m m1
        have e3 : m' = m := by omega
        rw [e3]
        exact q _ F H (Ext.refl e) (.int _)
  · cases eh
theorem on_max : OpNd K (rMax K) maxD := fun F H xs ds c Q e hp eh q => by
  unfold maxD at eh
  split at eh
  · rename_i zs
    obtain ⟨v, rfl, h⟩ := p1 hp
    cases ei : unInts zs with
    | none => rw [ei] at eh; cases eh
    | some ns =>
      rw [ei] at eh
      obtain ⟨a, rfl, hs⟩ := ints_of e h ei
      cases em : maxI ns with
      | none => simp [em] at eh
      | some m =>
        simp [em] at eh
        subst eh
        obtain ⟨m1, m2⟩ := maxI_spec em
        refine ⟨a, ns, rfl, hs, List.length_pos_of_mem m1, fun m' h1 h2 => ?_⟩
        have e1 := m2 m' h1
        have e2 := h2 m m1
        have e3 : m' = m := by omega
        rw [e3]
        exact q _ F H (Ext.refl e) (.int _)
  · cases eh
theorem on_sum : OpNd K (rSum K) sumD := fun F H xs ds c Q e hp eh q => by
  unfold sumD at eh
  split at eh
  · rename_i zs
    obtain ⟨v, rfl, h⟩ := p1 hp
    cases ei : unInts zs with
    | none => rw [ei] at eh; cases eh
    | some ns =>
      rw [ei] at eh
      cases eh
      obtain ⟨a, rfl, hs⟩ := ints_of e h ei
      exact ⟨a, ns, rfl, hs, q _ F H (Ext.refl e) (.int _)⟩
  · cases eh
theorem on_all : OpNd K (rAll K) allD := fun F H xs ds c Q e hp eh q => by
  unfold allD at eh
  split at eh
  · rename_i zs
    obtain ⟨v, rfl, h⟩ := p1 hp
    cases ei : unBools zs with
    | none => rw [ei] at eh; cases eh
    | some ns =>
      rw [ei] at eh
      cases eh
      obtain ⟨a, rfl, hs⟩ := bools_of e h ei
      exact ⟨a, ns, rfl, hs, q _ F H (Ext.refl e) (.bl _)⟩
  · cases eh
theorem on_any : OpNd K (rAny K) anyD := fun F H xs ds c Q e hp eh q => by
  unfold anyD at eh
  split at eh
  · rename_i zs
    obtain ⟨v, rfl, h⟩ := p1 hp
    cases ei : unBools zs with
    | none => rw [ei] at eh; cases eh
    | some ns =>
      rw [ei] at eh
      cases eh
      obtain ⟨a, rfl, hs⟩ := bools_of e h ei
      exact ⟨a, ns, rfl, hs, q _ F H (Ext.refl e) (.bl _)⟩
  · cases eh
theorem on_max2 : OpNd K (fun xs H Q => ∃ i j, xs = [V.int i, V.int j] ∧ Q (.int (if j > i then j else i)) H) max2D := fun F H xs ds c Q e hp eh q => by
  unfold max2D at eh
  split at eh
  · cases eh
    obtain ⟨v, w, rfl, h1, h2⟩ := p2 hp
    rw [h1.int, h2.int]
    exact ⟨_, _, rfl, q _ F H (Ext.refl e) (.int _)⟩
  · cases eh
theorem on_min2 : OpNd K (fun xs H Q => ∃ i j, xs = [V.int i, V.int j] ∧ Q (.int (if j < i then j else i)) H) min2D := fun F H xs ds c Q e hp eh q => by
  unfold min2D at eh
  split at eh
  · cases eh
    obtain ⟨v, w, rfl, h1, h2⟩ := p2 hp
    rw [h1.int, h2.int]
    exact ⟨_, _, rfl, q _ F H (Ext.refl e) (.int _)⟩
  · cases eh
end
theorem call_lenA {X : Cx} : CallR X (.builtin "len") (rLenA X.K) := call_len_seq.or call_len_str

/-! ### isinstance -/
def tyD : D → String
  | .none => "NoneType"
  | .bool _ => "bool"
  | .int _ => "int"
  | .str _ => "str"
  | .list _ => "list"
  | .tuple _ => "tuple"
  | .dict _ => "dict"
def isiD (T : String) (d : D) : Option D := (kitB (tyD d) T).map .bool
theorem ty_of {K : Fr} {F H : Hp} {v : V} {d : D} (e : Same F H) (h : RpS K F H v d) : TyX K H v (.type (tyD d)) := by
  rcases h with h | ⟨a, vs, ds, rfl, rfl, h1, _⟩
  · cases h with
    | non => exact .base .non
    | bl b => exact .base (.bl b)
    | int i => exact .base (.int i)
    | str x => exact .base (.str x)
    | lst h1 h2 => exact .base (.lst (e _ _ h1))
    | tup h1 h2 =>
      rcases h1 with (h1 | ⟨o, h1⟩) | ⟨o, its, n, h1, h3, _⟩
      · exact .base (.tup (e _ _ h1))
      · exact .fTuple (e _ _ h1)
      · exact .kTuple h1 h3
  · exact .base (.lst h1)
def isiM (T : String) (f : EM) : EM := op1 (isiD T) f
theorem qe_isi {X : Cx} {cl : Nat → Value} {W : WX} {e : Expr} {f : EM} {T : Str} {t : String} {p p3 pos : Pos} (hg : Gl X "isinstance") (hm : X.mg "isinstance" = none) (he : PE X e (denE X.K cl W f)) (hgT : Gl X T) (hmT : X.mg T = none) (hv : bootBuiltins T = some (.type t))
    (hn : T ≠ "__name__" := by decide) (hd : (T == ("__debug__" : Str)) = false := by decide) (he1 : starEach [e, .Name T p3] X.env = (false, eval e X.env) :: starEach [.Name T p3] X.env := by rfl) (hpl : (backTo pos (starEach [.Name T p3] X.env)).any (·.1) = false := by rfl) :
    PE X (.Call (.Name "isinstance" p) [e, .Name T p3] [] pos) (denE X.K cl W (isiM t f)) := by
  have ha : PA X [e, .Name T p3] (tCons (denE X.K cl W f) (tCons (tC (.ty t)) tNil)) := pa_cons he (pa_cons (pe_bltn hgT hmT hv rfl hn hd) pa_nil) he1
  refine PE.imp (pe_callB call_isi hg hm boot_isinstance ha (he := he1) (hpl := hpl)) fun σ H Q q => ?_
  have q2 : denE X.K cl W (op1 (isiD t) f) σ H Q := q
  have k : Op1 X.K (fun v H Q => rIsi X.K [v, .ty t] H Q) (isiD t) := fun F H v a c Q e ha eh q => by
    unfold isiD at eh
    cases ek : kitB (tyD a) t with
    | none => rw [ek] at eh; cases eh
    | some b =>
      rw [ek] at eh
      cases eh
      exact ⟨v, .ty t, _, .type t, b, rfl, .ty _, ty_of e ha, kit_ty ek, q _ F H (Ext.refl e) (.bl _)⟩
  exact op1_den k q2
end Pd

set_option Elab.async false
set_option linter.all false
set_option maxRecDepth 100000
set_option maxHeartbeats 4000000
/-! Pd7: list(reversed(x)); chains of comparisons; names at once; stars in displays; lists as new cells; try. -/
namespace Pd
open PySem PySem.Spec PyProof.Rows L2 RZ RT
section
variable {prog : Program} {w : World} {A : Around} {E : Value → Shared → Prop} {s : Shared} {it l : Addr} {items : Array Value}
theorem rev_extend {R : Result → Shared → Prop} (hh : A.handled = none) (hit : s.heap.IsRevIter it l ((items.size : Int) - 1)) (hl : s.heap.IsList l items) (hne : l ≠ it) (hn : items.size ≤ sizeLine) (S : Addr) (hSi : S ≠ it) (hSl : S ≠ l) (res : Value) (c₀ : Nat) (hS : s.heap.get? S = some { cls := .type "list", data := .seq #[] c₀ })
    (hR : ∀ h' tk acc' c', (∀ b o, b ≠ S → b ≠ it → s.heap.get? b = some o → h'.get? b = some o) → h'.get? S = some { cls := .type "list", dict := none, data := .seq acc' c', slots := #[] } → ItemsOf (fun i v => items[items.size - 1 - i]? = some v) acc' items.size → R (.ok (.ret res)) { s with heap := h', toks := tk }) :
    wpAny (model prog w) A.in1 (Builtin.List.listExtendWith (.ref S) (.ref it) res)
      (fun fin s' => match fin with | .done f => R (.ok f) s' | .again c' => c'.quiet = true ∧ codeAny (model prog w) A c' R s') (fun e s' => R (.error e) s') s := by
  have W := (Walks.listRev (prog := prog) (w := w) (A := A.in1) hh it l hne items).toS
  have hSf : S ∉ [it, l] := by simp only [List.mem_cons, List.not_mem_nil, or_false, not_or]; exact ⟨hSi, hSl⟩
  have hT : s.TypeIs (.ref it) "list_reverseiterator" := Heap.IsRevIter.typeIs hit
  have h1 : Builtin.List.listSameRef (.ref S) (.ref it) = false := by simp [Builtin.List.listSameRef, hSi]
  have e0 : ((items.size : Nat) : Int) - 1 - ((0 : Nat) : Int) = (items.size : Int) - 1 := by omega
  have key : ∀ (h : Heap) (c₁ tk : Nat), h.IsRevIter it l ((items.size : Int) - 1) → h.IsList l items → (∀ b o, b ≠ S → b ≠ it → s.heap.get? b = some o → h.get? b = some o) →
      h.get? S = some { cls := .type "list", data := .seq #[] c₁ } → codeAny (model prog w) A (.builtin "list.extend.loop" ⟨[.ref S, .ref it, res], []⟩) R { s with heap := h, toks := tk } := by
    intro h c₁ tk hst hst2 hk hS₁
    refine codeAny_extend_loopS W hn S hSf res items.size 0 _ #[] c₁ rfl (Nat.zero_le _) ⟨Nat.zero_le _, by rw [e0]; exact hst, hst2⟩ hS₁ (ItemsOf.nil _) fun s' acc' c' hm hS' hacc => ?_
    rw [Moved.eq_with hm]
    refine hR s'.heap s'.toks acc' c' (fun b o hb hb2 e => hm.heap b o (fun hmem => ?_) (hk b o hb hb2 e)) hS' hacc
    rcases List.mem_cons.mp hmem with e' | hmem
    · exact hb e'
    · exact hb2 (List.mem_singleton.mp hmem)
  unfold Builtin.List.listExtendWith
  refine wpAny_bind (wpAny_typeOf hT ?_)
  rw [if_neg (by rw [h1]; decide)]
  refine wpAny_bind (wpAny_pyIter_revIter hit ?_)
  refine wpAny_bind (wpAny_holding ?_)
  unfold Builtin.List.listLengthHint
  refine wpAny_bind (wpAny_specialOf hT nolen_lri ?_)
  show wpAny _ A.in1 (specialOf (Value.ref it) (Str.ofString "__length_hint__") >>= _) _ _ _
  refine wpAny_bind (wpAny_specialOf hT hint_lri ?_)
  generalize hid : ("list_reverseiterator.__length_hint__" : String) = id0
  wp_delta
  rw [show splitId id0 = some ("list_reverseiterator", "__length_hint__") from by subst hid; decide +kernel]
  subst hid
  refine wpAny_bind (wpAny_isInstance (b := true) hT (by rw [isSubtype_type]; kernel_rfl) ?_)
  refine wpAny_pure ?_
  rw [if_neg (by decide)]
  exact wpAny_pure ⟨plainId_quiet F.plain_extend_loop _, key _ c₀ _ hit hl (fun b o _ _ e => e) hS⟩
theorem rev_init {R : Result → Shared → Prop} (hh : A.handled = none) (hit : s.heap.IsRevIter it l ((items.size : Int) - 1)) (hl : s.heap.IsList l items) (hne : l ≠ it) (hn : items.size ≤ sizeLine) (S : Addr) (hSi : S ≠ it) (hSl : S ≠ l) (hS : s.heap.get? S = some { cls := .type "list", data := .seq #[] })
    (hR : ∀ h' tk acc' c', (∀ b o, b ≠ S → b ≠ it → s.heap.get? b = some o → h'.get? b = some o) → h'.get? S = some { cls := .type "list", dict := none, data := .seq acc' c', slots := #[] } → ItemsOf (fun i v => items[items.size - 1 - i]? = some v) acc' items.size → R (.ok (.ret .none)) { s with heap := h', toks := tk }) :
    wpAny (model prog w) A.in1 (Builtin.«list.__init__» ⟨[.ref S, .ref it], []⟩)
      (fun fin s' => match fin with | .done f => R (.ok f) s' | .again c' => c'.quiet = true ∧ codeAny (model prog w) A c' R s') (fun e s' => R (.error e) s') s := by
  show wpAny _ _ (do let old ← Builtin.List.listItems (.ref S); Builtin.List.listUpdate (.ref S) (fun _ => #[]); letGo old.toList.reverse; Builtin.List.listExtendWith (.ref S) (.ref it) .none) _ _ s
  refine wpAny_bind ?_
  unfold Builtin.List.listItems
  refine wpAny_bind (wpAny_seqItems hS rfl (wpAny_pure ?_))
  show wpAny _ _ (updateSeq S (fun _ => #[]) >>= fun _ => letGo (#[] : Array Value).toList.reverse >>= fun _ => Builtin.List.listExtendWith (.ref S) (.ref it) .none) _ _ s
  refine wpAny_bind (wpAny_updateSeq hS rfl ?_)
  have hS₂ := Heap.get?_update_self (Obj.mapSeq (fun _ => (#[] : Array Value))) hS rfl
  have oth : ∀ b o, b ≠ S → s.heap.get? b = some o → (s.heap.update S (Obj.mapSeq (fun _ => (#[] : Array Value)))).get? b = some o :=
    fun b o hb e => (Heap.get?_update_other _ _ (Ne.symm hb)).trans e
  refine wpAny_bind (wpAny_letGo ?_)
  obtain ⟨ol, hol, rl⟩ := id hl
  refine rev_extend (s := { s with heap := s.heap.update S (Obj.mapSeq (fun _ => (#[] : Array Value))) }) hh (hit.at fun o e => oth it o (Ne.symm hSi) e) ⟨ol, oth l ol (Ne.symm hSl) hol, rl⟩ hne hn S hSi hSl .none _ hS₂ fun h' tk acc' c' hk hS' hacc => ?_
  exact hR h' tk acc' c' (fun b o hb hb2 e => hk b o hb hb2 (oth b o hb e)) hS' hacc
theorem rev_list {Q : Value → Shared → Prop} (hh : A.handled = none) (hit : s.heap.IsRevIter it l ((items.size : Int) - 1)) (hl : s.heap.IsList l items) (hne : l ≠ it) (hn : items.size ≤ sizeLine)
    (hQ : ∀ h' tk acc' c', (∀ b o, b ≠ it → s.heap.get? b = some o → h'.get? b = some o) → h'.get? s.heap.objs.size = some { cls := .type "list", dict := none, data := .seq acc' c', slots := #[] } → ItemsOf (fun i v => items[items.size - 1 - i]? = some v) acc' items.size → Q (.ref s.heap.objs.size) { s with heap := h', toks := tk }) :
    wpAny (model prog w) A (call (.type "list") [.ref it]) Q E s := by
  refine callType_codes (Q₁ := fun obj s₁ => obj = .ref s.heap.objs.size ∧ s₁ = { s with heap := s.heap.push { cls := .type "list", data := .seq #[] } }) PySem.F.called_list (PySem.F.typeCall_list_1 _) PySem.F.entry_list_init
    (PySem.code_list_new _ ⟨rfl, rfl⟩) fun obj s₁ h₁ => ?_
  obtain ⟨rfl, rfl⟩ := h₁
  have hS : (s.heap.push { cls := .type "list", data := .seq #[] }).get? s.heap.objs.size = some { cls := .type "list", data := .seq #[] } := Heap.get?_push_size _ rfl
  obtain ⟨oi, hoi, ri⟩ := id hit
  obtain ⟨ol, hol, rl⟩ := id hl
  refine ⟨⟨_, hS, rfl⟩, PySem.F.args_list_init_2 _ _, rev_init (A := A.in1) (s := { s with heap := s.heap.push { cls := .type "list", data := .seq #[] } }) hh (hit.at fun o e => Heap.get?_push_of_some _ e) (hl.push _) hne hn _ (Nat.ne_of_gt (Heap.lt_size hoi)) (Nat.ne_of_gt (Heap.lt_size hol)) hS fun h' tk acc' c' hk hS' hacc => ?_⟩
  exact ⟨rfl, hQ h' tk acc' c' (fun b o hb e => hk b o (Nat.ne_of_lt (Heap.lt_size e)) hb (Heap.get?_push_of_some _ e)) hS' hacc⟩
end
def tRevOf (K : Fr) (te : TE) : TE := fun σ H Q => te σ H fun x H1 => ∃ a xs, x = .ref a ∧ SqL K H1 a xs ∧ ∀ p, H1 p = none → Q (.ref p) (upd H1 p (.lst xs.reverse))
theorem vals_rev {xs : List V} {its : List Value} {acc : Array Value} (r : Vals xs its) (h : ItemsOf (fun i v => its.toArray[its.toArray.size - 1 - i]? = some v) acc its.toArray.size) : Vals xs.reverse acc.toList := by
  have e : acc.toList = its.reverse := by
    apply List.ext_getElem?
    intro i
    by_cases hi : i < its.length
    · have hs : i < acc.size := by rw [h.1]; simpa using hi
      have h2 := h.2 i acc[i] (by simp [hs])
      rw [List.getElem?_reverse hi]
      simp only [List.size_toArray] at h2
      rw [Array.getElem?_toList, Array.getElem?_eq_getElem hs, ← h2]
      simp
    · have hs : acc.size = its.length := by rw [h.1]; simp
      rw [List.getElem?_eq_none (by rw [Array.length_toList, hs]; omega), List.getElem?_eq_none (by rw [List.length_reverse]; omega)]
  rw [e]
  exact r.reverse
theorem pe_listRev {X : Cx} {e : Expr} {te : TE} {p p2 pos pos2 : Pos} (hc : X.calm = true) (hg : Gl X "list") (hm : X.mg "list" = none) (hg2 : Gl X "reversed") (hm2 : X.mg "reversed" = none) (he : PE X e te)
    (na2 : starEach [e] X.env = (false, eval e X.env) :: starEach [] X.env := by rfl)
    (na : starEach [.Call (.Name "reversed" p2) [e] [] pos2] X.env = (false, eval (.Call (.Name "reversed" p2) [e] [] pos2) X.env) :: starEach [] X.env := by rfl) :
    PE X (.Call (.Name "list" p) [.Call (.Name "reversed" p2) [e] [] pos2] [] pos) (tRevOf X.K te) := by
  refine ⟨fun pins s σ H Q I h => ?_⟩
  refine Call_ (ld_blt I hg hm boot_list (PyProof.Rows.callWith_type1 (args_cons ?_ na) na))
  refine Call_ (ld_blt I hg2 hm2 PyProof.Rows.boot_reversed (PyProof.Rows.callWith_type1 (one_arg he I h (fun v s1 x H1 I1 r1 q1 => ?_) na2) na2))
  obtain ⟨a, xs, rfl, hq, q⟩ := q1
  cases r1
  obtain ⟨its, rv, p', hz⟩ := I1.list hq
  have hl := rv.length
  obtain ⟨ol, hol, rl⟩ := id p'.isList
  refine call_reversed_list p'.isList (args_nil ?_)
  have hit : (s1.heap.push (revObj a ((its.toArray.size : Int) - 1))).IsRevIter s1.heap.objs.size a ((its.toArray.size : Int) - 1) := ⟨_, Heap.get?_push_size _ rfl, rfl, rfl⟩
  refine rev_list (s := { s1 with heap := s1.heap.push (revObj a ((its.toArray.size : Int) - 1)) }) (I1.ok.hd hc) hit (p'.isList.push _) (Nat.ne_of_lt (Heap.lt_size hol)) (by simp only [List.size_toArray]; omega) fun h' tk acc' c' hk hS' hacc => ?_
  have I2 : Inv X pins σ H1 { s1 with heap := s1.heap.push (revObj a ((its.toArray.size : Int) - 1)) } := I1.kept (t' := s1.toks) fun b u e => Heap.get?_push_of_some _ e
  obtain ⟨f0, f1, f2, f3, f4, f5⟩ := I1.fpOk (b := s1.heap.objs.size) (H' := H1) (Nat.le_refl _) (I1.hok.fresh (Nat.le_refl _))
  have hk2 : ∀ b o, b ≠ s1.heap.objs.size → s1.heap.get? b = some o → h'.get? b = some o := fun b o hb e => hk b o hb (Heap.get?_push_of_some _ e)
  have I3 : Inv X pins σ H1 { s1 with heap := h', toks := tk } := I1.kept fun b u e => hk2 b u (Nat.ne_of_lt (Heap.lt_size e)) e
  have hsz : (s1.heap.push (revObj a ((its.toArray.size : Int) - 1))).objs.size = s1.heap.objs.size + 1 := Heap.size_push ..
  have hnew : H1 (s1.heap.push (revObj a ((its.toArray.size : Int) - 1))).objs.size = none := I1.hok.fresh (by rw [hsz]; omega)
  refine ⟨.ref _, upd H1 _ (.lst xs.reverse), I1.laid (t' := tk) (fun b u e => hk2 b u (Nat.ne_of_lt (Heap.lt_size e)) e) (by rw [hsz]; omega) (show ObjOk X.prog X.w _ h' _ (.lst xs.reverse) from ⟨?_, acc'.toList, c', vals_rev rv hacc, ?_⟩), rfl, q _ hnew⟩
  · rw [List.length_reverse]; exact hz
  · rw [Array.toArray_toList]; exact hS'
end Pd

set_option Elab.async false
set_option linter.all false
set_option maxRecDepth 100000
set_option maxHeartbeats 4000000
/-! Pd8: chains of comparisons; names at once; stars in displays; lists as new cells; try. -/
namespace Pd
open PySem PySem.Spec PyProof.Rows L2 RZ RT StX

/-! ### a op b op c -/
def chM (h h' : D → D → Option D) (f g e : EM) : EM := fun s st => (f s st).bind fun a st1 => (g s st1).bind fun b st2 => match peek a st2, peek b st2 with
  | some x, some y => (match h x y with
    | some (.bool k) => if k = true then (e s st2).bind fun c st3 => (match peek b st3, peek c st3 with
        | some y, some z => (match h' y z with
          | some (.bool j) => .ok (.dat (.bool j)) st3
          | _ => .no)
        | _, _ => .no) else .ok (.dat (.bool false)) st2
    | _ => .no)
  | _, _ => .no
theorem chM_den {K : Fr} {cl : Nat → Value} {W : WX} {r r' : R2} {h h' : D → D → Option D} (hd : OpD K r h) (hd' : OpD K r' h') {f g e : EM} {σ : L2.St} {H : Hp} {Q : VK} (p : denE K cl W (chM h h' f g e) σ H Q) :
    tChain r r' (denE K cl W f) (denE K cl W g) (denE K cl W e) σ H Q := by
  refine den_bind p fun B F as s a st1 H1 r1 o1 q u hu => ?_
  refine ⟨B, F, as, s, st1, r1, o1, post_mono (post_bind q) fun b st2 F2 as2 H2 _ g2 r2 q2 w hw => ?_⟩
  cases ea : peek a st2 with
  | none => rw [ea] at q2; exact q2.elim
  | some x =>
    cases eb : peek b st2 with
    | none => rw [ea, eb] at q2; exact q2.elim
    | some y =>
      rw [ea, eb] at q2
      simp only at q2
      split at q2
      · rename_i k eh
        refine hd F2 H2 u w x y (.bool k) _ r2.fh (peek_ok r2 (hu.mono g2) ea) (peek_ok r2 hw eb) eh fun v F3 H3 x3 rp => ?_
        cases rp
        refine ⟨k, rfl, ?_⟩
        have g3 := x3.grow r2
        have r3 := r2.ext x3
        cases k with
        | false =>
          simp only [Bool.false_eq_true, if_false] at q2 ⊢
          exact q2 F3 as2 H3 g3 r3 _ (.dat (.bl _))
        | true =>
          simp only [if_true] at q2 ⊢
          refine ⟨B, F3, as2, s, st2, r3, o1.mono (g2.trans g3), post_mono (post_bind (post_grow g3 q2)) fun c st4 F4 as4 H4 _ g4 r4 q4 w' hw' => ?_⟩
          cases eb4 : peek b st4 with
          | none => rw [eb4] at q4; exact q4.elim
          | some y4 =>
            cases ec4 : peek c st4 with
            | none => rw [eb4, ec4] at q4; exact q4.elim
            | some z4 =>
              rw [eb4, ec4] at q4
              simp only at q4
              split at q4
              · rename_i j ej
                refine hd' F4 H4 w w' y4 z4 (.bool j) _ r4.fh (peek_ok r4 (hw.mono (g3.trans g4)) eb4) (peek_ok r4 hw' ec4) ej fun v F5 H5 x5 rp5 => ?_
                exact q4 F5 as4 H5 (x5.grow r4) (r4.ext x5) v (.dat rp5)
              · exact q4.elim
      · exact q2.elim
section
variable {X : Cx} {cl : Nat → Value} {W : WX} {a b c e : Expr} {es : List Expr} {pos : Pos} {f g k : EM} {m : AM}
theorem chM_bool {h h' : D → D → Option D} {s : Slots} {st st1 : Store} {v : Vl} (ev : chM h h' f g k s st = .ok v st1) : ∃ j, v = .dat (.bool j) := by
  unfold chM at ev
  cases e1 : f s st with
  | exc c p z => rw [e1] at ev; cases ev
  | no => rw [e1] at ev; cases ev
  | ok a sa =>
    rw [e1, Res.bind_ok] at ev
    cases e2 : g s sa with
    | exc c p z => rw [e2] at ev; cases ev
    | no => rw [e2] at ev; cases ev
    | ok b sb =>
      rw [e2, Res.bind_ok] at ev
      split at ev
      · split at ev
        · split at ev
          · cases e3 : k s sb with
            | exc c p z => rw [e3] at ev; cases ev
            | no => rw [e3] at ev; cases ev
            | ok c sc =>
              rw [e3, Res.bind_ok] at ev
              split at ev
              · split at ev
                · cases ev; exact ⟨_, rfl⟩
                · cases ev
              · cases ev
          · cases ev; exact ⟨_, rfl⟩
        · cases ev
      · cases ev
theorem qe_chain {op op' : CmpOp} {r r' : R2} {h h' : D → D → Option D} (ho : OpR X (compareOp op) r) (ho' : OpR X (compareOp op') r') (hd : OpD X.K r h) (hd' : OpD X.K r' h') (ha : PE X a (denE X.K cl W f)) (hb : PE X b (denE X.K cl W g)) (hc : PE X c (denE X.K cl W k))
    (hm : lastMarks [op, op'] [b, c] = false := by with_unfolding_all rfl) : PE X (.Compare a [op, op'] [b, c] pos) (denE X.K cl W (chM h h' f g k)) := PE.imp (pe_chain ho ho' ha hb hc hm) fun σ H Q q => chM_den hd hd' q
theorem qt_chain {op op' : CmpOp} {r r' : R2} {h h' : D → D → Option D} (ho : OpR X (compareOp op) r) (ho' : OpR X (compareOp op') r') (hd : OpD X.K r h) (hd' : OpD X.K r' h') (ha : PE X a (denE X.K cl W f)) (hb : PE X b (denE X.K cl W g)) (hc : PE X c (denE X.K cl W k))
    (hm : lastMarks [op, op'] [b, c] = false := by with_unfolding_all rfl) : PT X (.Compare a [op, op'] [b, c] pos) (denT X.K cl W (truM (chM h h' f g k))) := PT.imp (pt_chain ho ho' ha hb hc hm) fun σ H Q q =>
  chM_den hd hd' (truM_bool q fun s st v st1 e => chM_bool e)

/-! ### a, b, .. = x, y, .. through a tuple: names hold the values as they are -/
def setAll : List Nat → List Vl → Slots → Option Slots
  | [], [], s => some s
  | i :: is, v :: vs, s => setAll is vs (s.set i (some v))
  | _, _, _ => none
def gNames : List Nat → TGs
  | [] => gNil
  | i :: is => gCons (gName i) (gNames is)
def parGM (is : List Nat) (m : AM) : SM := fun s st => bindS (m s st) s fun vs st1 => if vs.length ≤ sizeLine then (match setAll is vs s with
  | some s' => .nx s' st1
  | none => .no) else .no
theorem RepH.junk {K : Fr} {B F : Hp} {as : List Addr} {H : Hp} {st : Store} {p : Addr} {o : HO} (r : RepH K B F as H st) (hp : H p = none) : RepH K B F as (upd H p o) st where
  fh := fun a u q => by
    have := r.fh _ _ q
    rw [upd_ne (ne_of_none this hp)]
    exact this
  bh := fun a u q => by
    have := r.bh _ _ q
    rw [upd_ne (ne_of_none this hp)]
    exact this
  nd := r.nd
  len := r.len
  bn := r.bn
  hs := fun a ha => by
    rw [upd_ne (fun z => by subst z; exact r.hs a ha hp)]
    exact r.hs a ha
  ok := fun k c a e1 e2 => by
    have q := r.ok k c a e1 e2
    have hne : a ≠ p := fun z => by subst z; exact r.hs a (List.mem_of_getElem? e2) hp
    cases c with
    | frz d => exact q
    | lst xs =>
      obtain ⟨q1, vs, q2, q3⟩ := q
      exact ⟨q1, vs, by rw [upd_ne hne]; exact q2, q3⟩
theorem gNames_ok {K : Fr} {F : Hp} {as : List Addr} {H : Hp} {Q : L2.St → Hp → Prop} : ∀ {is : List Nat} {vs : List Vl} {us : List V} {s s' : Slots} {σ : L2.St}, setAll is vs s = some s' → VlsOk K F as us vs → SlOk K F as σ s → (∀ σ', SlOk K F as σ' s' → Q σ' H) → gNames is us σ H Q
  | [], [], _, _, _, _, e, .nil, o, q => by cases e; exact ⟨rfl, q _ o⟩
  | i :: is, v :: vs, u :: us, s, s', σ, e, .cons h1 h2, o, q => ⟨u, us, rfl, gNames_ok (is := is) e h2 (o.set h1) q⟩
  | [], _ :: _, _, _, _, _, e, _, _, _ => by cases e
  | _ :: _, [], _, _, _, _, e, _, _, _ => by cases e
theorem setAll_len : ∀ {is : List Nat} {vs : List Vl} {s s' : Slots}, setAll is vs s = some s' → vs.length = is.length
  | [], [], _, _, _ => rfl
  | i :: is, v :: vs, s, s', e => by
    rw [List.length_cons, List.length_cons, setAll_len (is := is) e]
  | [], _ :: _, _, _, e => by cases e
  | _ :: _, [], _, _, e => by cases e
theorem qs_parG {ns : List Expr} {kt k2 : Nat} {pt pt2 : Pos} {n : Nat} {is : List Nat} (hc : X.calm = true) (ha : PA X es (denA X.K cl W m)) (hg : PGs X ns (gNames is)) (hl : is.length = n := by rfl) (hn : (assignEach ns X.env).length = n := by rfl) (hst : (assignEach ns X.env).findIdx? (·.1) = none := by rfl)
    (hs : swapsWithSole [.Tuple ns kt pt] (.Tuple es k2 pt2) pos.line X.env = pure false := by rfl) (hw : swappedStores [.Tuple ns kt pt] (.Tuple es k2 pt2) X.env = pure none := by rfl)
    (h1 : (assignEach [.Tuple ns kt pt] X.env).map (·.2) = [assign (.Tuple ns kt pt) X.env] := by rfl) :
    PS X (.Assign [.Tuple ns kt pt] (.Tuple es k2 pt2) pos) (denS X.K cl W (parGM is m)) := PS.imp (ps_asg (pe_tup ha) (pg_tup hc hg hn hst) hs hw h1) fun Dn σ H q =>
  denS_bind q fun B F as s vs st1 H1 r1 o1 q us hus => by
    split at q
    · rename_i hz
      split at q
      · rename_i s' e
        refine ⟨by rw [Paired.length hus]; exact hz, fun p hp => ⟨p, us, rfl, .inl (.inl upd_same), by rw [Paired.length hus, setAll_len e, hl], ?_⟩⟩
        exact gNames_ok e hus o1 fun σ' o' => q σ' F as _ Grow.refl (r1.junk hp) o'
      · exact q.elim
    · exact q.elim

/-! ### stars in displays -/
def aStar (f : EM) (m : AM) : AM := fun s st => (f s st).bind fun v st1 => match peek v st1 with
  | some (.list ds) => (m s st1).bind fun vs st2 => .ok (ds.map .dat ++ vs) st2
  | some (.tuple ds) => (m s st1).bind fun vs st2 => .ok (ds.map .dat ++ vs) st2
  | _ => .no
theorem qa_star {p : Pos} (he : PE X e (denE X.K cl W f)) (hr : PA X es (denA X.K cl W m)) (hs : starEach (.Starred e p :: es) X.env = (true, eval e X.env) :: starEach es X.env := by rfl) : PA X (.Starred e p :: es) (denA X.K cl W (aStar f m)) :=
  PA.imp (pa_star he hr hs) fun σ H Q q => by
    refine den_bind q fun B F as s v st1 H1 r1 o1 q u hu => ?_
    have key : ∀ ds : List D, (RpS X.K F H1 u (.list ds) ∨ RpS X.K F H1 u (.tuple ds)) → postR X.K cl W B F as σ (fun vs _ F' as' H' => ∀ us, VlsOk X.K F' as' us vs → Q us H') ((m s st1).bind fun vs st2 => .ok (ds.map .dat ++ vs) st2) →
        ∃ p xs, u = V.ref p ∧ (SqT X.K H1 p xs ∨ SqL X.K H1 p xs) ∧ denA X.K cl W m σ H1 fun ys H2 => Q (xs ++ ys) H2 := by
      intro ds hd q
      obtain ⟨a, vs, rfl, h1, h2⟩ := RpS.sq r1.fh hd
      refine ⟨a, vs, rfl, h1.symm, B, F, as, s, st1, r1, o1, post_mono (post_bind q) fun ws st2 F2 as2 H2 _ g2 r2 q2 us hus => ?_⟩
      exact post_ok q2 r2 _ (Vls.append (VlsOk.rpa (h2.mono g2.sub)) hus)
    split at q
    · rename_i ds ep
      exact key ds (.inl (peek_ok r1 hu ep)) q
    · rename_i ds ep
      exact key ds (.inr (peek_ok r1 hu ep)) q
    · exact q.elim

/-! ### new lists as cells -/
def OpDL (K : Fr) (r : R2) (h : D → D → Option (List D)) : Prop := ∀ F H x y a b out (Q : VK), Same F H → RpS K F H x a → RpS K F H y b → h a b = some out → (∀ p vs, H p = none → RpA K F vs out → Q (.ref p) (upd H p (.lst vs))) → r x y H Q
def OpNL (K : Fr) (r : List V → Hp → VK → Prop) (h : List D → Option (List D)) : Prop := ∀ F H xs ds out (Q : VK), Same F H → Paired (RpS K F H) xs ds → h ds = some out → (∀ p vs, H p = none → RpA K F vs out → Q (.ref p) (upd H p (.lst vs))) → r xs H Q
def op2C (h : D → D → Option (List D)) (f g : EM) : EM := fun s st => (f s st).bind fun a st1 => (g s st1).bind fun b st2 => match peek a st2, peek b st2 with
  | some x, some y => (match h x y with
    | some out => .ok (.cel st2.length) (st2 ++ [.lst (out.map .dat)])
    | none => .no)
  | _, _ => .no
def opNC (h : List D → Option (List D)) (m : AM) : EM := fun s st => (m s st).bind fun vs st1 => match peeks vs st1 with
  | some ds => (match h ds with
    | some out => .ok (.cel st1.length) (st1 ++ [.lst (out.map .dat)])
    | none => .no)
  | none => .no
theorem op2C_den {K : Fr} {r : R2} {h : D → D → Option (List D)} (hd : OpDL K r h) {σ : L2.St} {H : Hp} {Q : VK} (p : denE K cl W (op2C h f g) σ H Q) : tOp r (denE K cl W f) (denE K cl W g) σ H Q := by
  refine den_bind p fun B F as s a st1 H1 r1 o1 q u hu => ?_
  refine ⟨B, F, as, s, st1, r1, o1, post_mono (post_bind q) fun b st2 F2 as2 H2 _ g2 r2 q2 w hw => ?_⟩
  cases ea : peek a st2 with
  | none => rw [ea] at q2; exact q2.elim
  | some x =>
    cases eb : peek b st2 with
    | none => rw [ea, eb] at q2; exact q2.elim
    | some y =>
      rw [ea, eb] at q2
      cases eh : h x y with
      | none => simp only [eh] at q2; exact q2.elim
      | some z =>
        simp only [eh] at q2
        refine hd F2 H2 u w x y z Q r2.fh (peek_ok r2 (hu.mono g2) ea) (peek_ok r2 hw eb) eh fun p vs hp rp => ?_
        obtain ⟨g3, r3, p3⟩ := cell_new r2 (VlsOk.rpa rp) hp
        exact q2 _ _ _ g3 r3 _ p3
theorem opNC_den {K : Fr} {r : List V → Hp → VK → Prop} {h : List D → Option (List D)} (hd : OpNL K r h) {σ : L2.St} {H : Hp} {Q : VK} (p : denE K cl W (opNC h m) σ H Q) : denA K cl W m σ H fun xs H1 => r xs H1 Q := by
  refine den_bind p fun B F as s a st1 H1 r1 o1 q us hu => ?_
  cases ea : peeks a st1 with
  | none => rw [ea] at q; exact q.elim
  | some ds =>
    rw [ea] at q
    cases eh : h ds with
    | none => simp only [eh] at q; exact q.elim
    | some z =>
      simp only [eh] at q
      refine hd F H1 us ds z Q r1.fh (peeks_ok r1 hu ea) eh fun p vs hp rp => ?_
      obtain ⟨g3, r3, p3⟩ := cell_new r1 (VlsOk.rpa rp) hp
      exact q _ _ _ g3 r3 _ p3
theorem qe_binC {op : Operator} {r : R2} {h : D → D → Option (List D)} (ho : OpR X (binaryOp op) r) (hd : OpDL X.K r h) (ha : PE X a (denE X.K cl W f)) (hb : PE X b (denE X.K cl W g)) : PE X (.BinOp a op b pos) (denE X.K cl W (op2C h f g)) :=
  PE.imp (pe_op ho ha hb) fun _ _ _ q => op2C_den hd q
theorem qe_callTyC {T : String} {x : Str} {p : Pos} {r : List V → Hp → VK → Prop} {h : List D → Option (List D)} (hc : CallR X (.type T) r) (hd : OpNL X.K r h) (hg : Gl X x) (hm : X.mg x = none) (hv : bootBuiltins x = some (.type T)) (ha : PA X (e :: es) (denA X.K cl W m))
    (hn : x ≠ "__name__" := by decide) (hdb : (x == ("__debug__" : Str)) = false := by decide) (he : starEach (e :: es) X.env = (false, eval e X.env) :: starEach es X.env := by rfl) (hpl : (backTo pos (starEach es X.env)).any (·.1) = false := by rfl) :
    PE X (.Call (.Name x p) (e :: es) [] pos) (denE X.K cl W (opNC h m)) := PE.imp (pe_callTy hc hg hm hv ha hn hdb he hpl) fun _ _ _ q => opNC_den hd q
def repL : D → D → Option (List D)
  | .list xs, .int k => if (-(2 ^ 63) ≤ k ∧ k < 2 ^ 63) ∧ xs.length * k.toNat ≤ sizeLine then some (List.replicate k.toNat xs).flatten else none
  | _, _ => none
def catL : D → D → Option (List D)
  | .list xs, .list ys => if xs.length + ys.length ≤ sizeLine then some (xs ++ ys) else none
  | _, _ => none
def listL : List D → Option (List D)
  | [.list xs] => some xs
  | [.tuple xs] => some xs
  | _ => none
theorem ol_rep {K : Fr} : OpDL K rRep repL := fun F H x y a b out Q e ha hb eh q => by
  unfold repL at eh
  split at eh
  · split at eh
    · rename_i k hl
      cases eh
      obtain ⟨p1, vs1, rfl, h1, r1⟩ := ha.list e
      rw [hb.int]
      exact ⟨p1, _, vs1, rfl, rfl, h1, hl.1.1, hl.1.2, by rw [r1.len]; exact hl.2, fun p hp => q p _ hp (r1.rep _)⟩
    · cases eh
  · cases eh
theorem ol_cat {K : Fr} : OpDL K rCat catL := fun F H x y a b out Q e ha hb eh q => by
  unfold catL at eh
  split at eh
  · split at eh
    · rename_i hl
      cases eh
      obtain ⟨p1, vs1, rfl, h1, r1⟩ := ha.list e
      obtain ⟨p2, vs2, rfl, h2, r2⟩ := hb.list e
      exact ⟨p1, p2, vs1, vs2, rfl, rfl, h1, h2, by rw [r1.len, r2.len]; exact hl, fun p hp => q p _ hp (r1.append r2)⟩
    · cases eh
  · cases eh
theorem ol_list {K : Fr} : OpNL K (fun xs H Q => ∃ p ys, xs = [V.ref p] ∧ (SqL K H p ys ∨ SqT K H p ys) ∧ ∀ l, H l = none → Q (.ref l) (upd H l (.lst ys))) listL := fun F H xs ds out Q e hp eh q => by
  unfold listL at eh
  split at eh
  · cases eh
    obtain ⟨v, rfl, h⟩ := p1 hp
    obtain ⟨a, vs, rfl, h1, h2⟩ := RpS.sq e (.inl h)
    exact ⟨a, vs, rfl, h1, fun l hl => q l _ hl h2⟩
  · cases eh
    obtain ⟨v, rfl, h⟩ := p1 hp
    obtain ⟨a, vs, rfl, h1, h2⟩ := RpS.sq e (.inr h)
    exact ⟨a, vs, rfl, h1, fun l hl => q l _ hl h2⟩
  · cases eh
/-- list(reversed(x)): frozen | a cell -/
def lrevM (f : EM) : EM := fun s st => (f s st).bind fun v st1 => match peek v st1 with
  | some (.list ds) => .ok (.dat (.list ds.reverse)) st1
  | _ => .no
def lrevC (f : EM) : EM := fun s st => (f s st).bind fun v st1 => match peek v st1 with
  | some (.list ds) => .ok (.cel st1.length) (st1 ++ [.lst (ds.reverse.map .dat)])
  | _ => .no
theorem qe_lrev {p p2 pos2 : Pos} (hc : X.calm = true) (hg : Gl X "list") (hm : X.mg "list" = none) (hg2 : Gl X "reversed") (hm2 : X.mg "reversed" = none) (he : PE X e (denE X.K cl W f))
    (na2 : starEach [e] X.env = (false, eval e X.env) :: starEach [] X.env := by rfl)
    (na : starEach [.Call (.Name "reversed" p2) [e] [] pos2] X.env = (false, eval (.Call (.Name "reversed" p2) [e] [] pos2) X.env) :: starEach [] X.env := by rfl) :
    PE X (.Call (.Name "list" p) [.Call (.Name "reversed" p2) [e] [] pos2] [] pos) (denE X.K cl W (lrevM f)) := PE.imp (pe_listRev hc hg hm hg2 hm2 he na2 na) fun σ H Q q => by
  refine den_bind q fun B F as s v st1 H1 r1 o1 q u hu => ?_
  split at q
  · rename_i ds ep
    obtain ⟨a, vs, rfl, h1, h2⟩ := (peek_ok r1 hu ep).list r1.fh
    refine ⟨a, vs, rfl, .inl (.inl h1), fun p hp => ?_⟩
    obtain ⟨g3, r3, p3⟩ := lst_frozen r1 h2.reverse hp
    exact q _ _ _ g3 r3 _ (.dat p3)
  · exact q.elim
theorem qe_lrevC {p p2 pos2 : Pos} (hc : X.calm = true) (hg : Gl X "list") (hm : X.mg "list" = none) (hg2 : Gl X "reversed") (hm2 : X.mg "reversed" = none) (he : PE X e (denE X.K cl W f))
    (na2 : starEach [e] X.env = (false, eval e X.env) :: starEach [] X.env := by rfl)
    (na : starEach [.Call (.Name "reversed" p2) [e] [] pos2] X.env = (false, eval (.Call (.Name "reversed" p2) [e] [] pos2) X.env) :: starEach [] X.env := by rfl) :
    PE X (.Call (.Name "list" p) [.Call (.Name "reversed" p2) [e] [] pos2] [] pos) (denE X.K cl W (lrevC f)) := PE.imp (pe_listRev hc hg hm hg2 hm2 he na2 na) fun σ H Q q => by
  refine den_bind q fun B F as s v st1 H1 r1 o1 q u hu => ?_
  split at q
  · rename_i ds ep
    obtain ⟨a, vs, rfl, h1, h2⟩ := (peek_ok r1 hu ep).list r1.fh
    refine ⟨a, vs, rfl, .inl (.inl h1), fun p hp => ?_⟩
    obtain ⟨g3, r3, p3⟩ := cell_new r1 (VlsOk.rpa h2.reverse) hp
    exact q _ _ _ g3 r3 _ p3
  · exact q.elim
/-! the script: len, an item, its items walked (itM has it) -/
def scLen (f : EM) : EM := fun s st => (f s st).bind fun v st1 => match v with
  | .scr ns => .ok (.dat (.int ns.length)) st1
  | _ => .no
def scIx (f g : EM) : EM := fun s st => (f s st).bind fun v st1 => (g s st1).bind fun j st2 => match v, j with
  | .scr ns, .dat (.int i) => (match atI ns i with
    | some n => .ok (.dat (.int n)) st2
    | none => .no)
  | _, _ => .no
theorem atI_map {α β : Type} {k : α → β} {xs : List α} {i : Int} {x : α} (h : atI xs i = some x) : atI (xs.map k) i = some (k x) := by
  unfold atI at h ⊢
  rw [List.length_map]
  cases e : ixN xs.length i with
  | none => rw [e] at h; cases h
  | some j =>
    rw [e] at h
    have h2 : xs[j]? = some x := h
    show (xs.map k)[j]? = some (k x)
    rw [List.getElem?_map, h2]
    rfl
theorem qe_scLen {p : Pos} (hg : Gl X "len") (hm : X.mg "len" = none) (he : PE X e (denE X.K cl W f)) (hs : starEach [e] X.env = (false, eval e X.env) :: starEach [] X.env := by rfl) :
    PE X (.Call (.Name "len" p) [e] [] pos) (denE X.K cl W (scLen f)) := PE.imp (pe_callB call_len_seq hg hm PySem.boot_len (pa_cons he pa_nil hs) (he := hs)) fun σ H Q q => by
  refine den_bind q fun B F as s v st1 H1 r1 o1 q u hu => ?_
  split at q
  · rename_i ns
    cases hu with
    | scr hu =>
      refine ⟨_, _, rfl, .inl (sql_mono r1.fh hu), ?_⟩
      rw [List.length_map]
      exact post_ok q r1 _ (.dat (.int _))
  · exact q.elim
theorem qe_scIx (ha : PE X a (denE X.K cl W f)) (hb : PE X b (denE X.K cl W g)) (hs : PlainIx b) : PE X (.Subscript a b pos) (denE X.K cl W (scIx f g)) := PE.imp (pe_ix ix_list ha hb hs) fun σ H Q q => by
  refine den_bind q fun B F as s v st1 H1 r1 o1 q u hu => ?_
  refine ⟨B, F, as, s, st1, r1, o1, post_mono (post_bind q) fun j st2 F2 as2 H2 _ g2 r2 q2 w hw => ?_⟩
  split at q2
  · rename_i ns i
    split at q2
    · rename_i n en
      have hu2 := hu.mono g2
      cases hu2 with
      | scr hu2 =>
        rw [vl_int hw]
        exact ⟨_, _, _, _, rfl, rfl, sql_mono r2.fh hu2, atI_map en, post_ok q2 r2 _ (.dat (.int _))⟩
    · exact q2.elim
  · exact q2.elim
end

/-! ### try .. except X: .. except Y: .. -/
def noXS : Out → Out
  | .exc _ _ _ _ => .no
  | o => o
def handle (exm : Nat → Nat → Bool) (c : Nat) (p : Option (Str × D)) : List (Nat × SM) → SM
  | [], s, st => .exc c p s st
  | (d, h) :: r, s, st => if exm c d = true then noXS (h s st) else handle exm c p r s st
def tryM (exm : Nat → Nat → Bool) (body : SM) (hs : List (Nat × SM)) : SM := fun s st => match body s st with
  | .exc c p s' st' => handle exm c p hs s' st'
  | o => o
theorem post_noXS {K : Fr} {cl : Nat → Value} {W W' : WX} {B F : Hp} {as : List Addr} {Dn : Ends} {r : Out} (h : postS K cl W B F as Dn (noXS r)) : postS K cl W' B F as Dn r := by
  cases r with
  | exc c p s st => exact h.elim
  | nx s st => exact h
  | bk s st => exact h
  | ct s st => exact h
  | rt v st => exact h
  | no => exact h
theorem wish_ok {K : Fr} {cl : Nat → Value} {W : WX} {exm : Nat → Nat → Bool} (hx : ∀ c d, PySem.W.exmOne K (cl c) (cl d) = some (exm c d)) {Dn : Ends} {c : Nat} {p : Option (Str × D)} {B : Hp} {s : Slots} {st : Store} {x : Option Addr} :
    ∀ {hs : List (Nat × SM)} {F : Hp} {as : List Addr} {H : Hp} {σ : L2.St}, RepH K B F as H st → SlOk K F as σ s → ExcAt K F H p x → postS K cl W B F as Dn (handle exm c p hs s st) → wMany K W Dn (hs.map fun dh => (cl dh.1, fun _ _ _ => denS K cl W0 dh.2)) (cl c) x σ H
  | [], F, as, H, σ, r, o, e, q => q x σ F as H Grow.refl r o e
  | (d, h) :: hs, F, as, H, σ, r, o, e, q => by
    refine ⟨exm c d, hx c d, fun hb a _ => ?_, fun hb => ?_⟩
    · unfold handle at q
      rw [if_pos hb] at q
      exact ⟨B, F, as, s, st, r, o, post_noXS q⟩
    · unfold handle at q
      rw [if_neg (by rw [hb]; decide)] at q
      exact wish_ok hx r o e q
section
variable {X : Cx} {cl : Nat → Value} {W : WX} {body : List Stmt} {h₀ : ExceptHandler} {hds : List ExceptHandler} {pos : Pos} {mb : SM} {hs : List (Nat × SM)} {exm : Nat → Nat → Bool}
theorem qs_try (hs0 : X.stack = X.env :: X.outer) (hf : X.env.frame = some X.env.locals) (tk : Takes X W) (hx : ∀ c d, PySem.W.exmOne X.K (cl c) (cl d) = some (exm c d))
    (hb : ∀ (W : WX) (pn : List (Addr × Obj)) (xe : Value → Shared → Prop), Takes (X.tr pn xe) W → PassesOwn (model X.prog X.w) X.A X.env xe → PSs (X.tr pn xe) body (denS X.K cl W mb))
    (hh : HdsOk X (h₀ :: hds) (hs.map fun dh => (cl dh.1, fun _ _ _ => denS X.K cl W0 dh.2))) : PS X (.Try body (h₀ :: hds) [] [] pos) (denS X.K cl W (tryM exm mb hs)) :=
  PS.imp (ps_try_many (tb := fun W => denS X.K cl W mb) hs0 hf tk hb hh) fun Dn σ H q => by
    obtain ⟨B, F, as, s, st, r, o, p⟩ := q
    refine ⟨B, F, as, s, st, r, o, ?_⟩
    unfold tryM at p
    cases e : mb s st with
    | nx s' st' => rw [e] at p; exact p
    | bk s' st' => rw [e] at p; exact p
    | ct s' st' => rw [e] at p; exact p
    | rt v st' => rw [e] at p; exact p
    | no => rw [e] at p; exact p
    | exc c p2 s' st' =>
      rw [e] at p
      exact fun x σ' F' as' H' g' r' o' ex => wish_ok hx r' o' ex (postS_grow g' p)
end
end Pd

set_option Elab.async false
set_option linter.all false
set_option maxRecDepth 100000
set_option maxHeartbeats 4000000
/-! Pd9: what the top has left, by data; calls by name. -/
namespace Pd
open PySem PySem.Spec PyProof.Rows L2 RZ RT StX

/-! ### constants of the top -/
mutual
def valB (K : Fr) : Value → D → Bool
  | .none, .none => true
  | .bool a, .bool b => a == b
  | .int i _, .int j => decide (i = j)
  | .str x _, .str y => decide (x = y)
  | .ref a, .tuple ds => (match K.lookup a with
    | some ⟨.type c, _, .seq its _, _⟩ => decide (c = "tuple") && (decide (its.size ≤ sizeLine) && valsB K its.toList ds)
    | _ => false)
  | _, _ => false
def valsB (K : Fr) : List Value → List D → Bool
  | [], [] => true
  | u :: us, d :: ds => valB K u d && valsB K us ds
  | _, _ => false
end
section
variable {K : Fr}
mutual
theorem valB_ok : ∀ {d : D} {u : Value}, valB K u d = true → ∃ v, RelV v u ∧ ∀ F, Rp K F v d
  | .none, u, h => by
    cases u <;> first | exact ⟨.non, rfl, fun F => .non⟩ | (unfold valB at h; cases h)
  | .bool b, u, h => by
    cases u with
    | bool a =>
      unfold valB at h
      have e : a = b := eq_of_beq h
      subst e
      exact ⟨.bl a, rfl, fun F => .bl a⟩
    | _ => unfold valB at h; cases h
  | .int j, u, h => by
    cases u with
    | int i t =>
      unfold valB at h
      have e : i = j := of_decide_eq_true h
      subst e
      exact ⟨.int i, ⟨t, rfl⟩, fun F => .int i⟩
    | _ => unfold valB at h; cases h
  | .str y, u, h => by
    cases u with
    | str x t =>
      unfold valB at h
      have e : x = y := of_decide_eq_true h
      subst e
      exact ⟨.str x, ⟨t, rfl⟩, fun F => .str x⟩
    | _ => unfold valB at h; cases h
  | .tuple ds, u, h => by
    cases u with
    | ref a =>
      unfold valB at h
      cases q : K.lookup a with
      | none => rw [q] at h; cases h
      | some o =>
        obtain ⟨oc, od, dt, osl⟩ := o
        rw [q] at h
        cases oc with
        | type c =>
          cases dt with
          | seq its n =>
            simp only [Bool.and_eq_true, decide_eq_true_eq] at h
            obtain ⟨h1, h2, h3⟩ := h
            obtain ⟨vs, r, p⟩ := valsB_ok h3
            exact ⟨.ref a, rfl, fun F => .tup (.inr ⟨_, its, n, q, congrArg Value.type h1, rfl, h2, r⟩) (p F)⟩
          | _ => cases h
        | _ => cases h
    | _ => unfold valB at h; cases h
  | .list _, u, h => by cases u <;> (unfold valB at h; cases h)
  | .dict _, u, h => by cases u <;> (unfold valB at h; cases h)
theorem valsB_ok : ∀ {ds : List D} {us : List Value}, valsB K us ds = true → ∃ vs, Vals vs us ∧ ∀ F, RpA K F vs ds
  | [], us, h => by
    cases us with
    | nil => exact ⟨[], .nil, fun F => .nil⟩
    | cons u us => unfold valsB at h; cases h
  | d :: ds, us, h => by
    cases us with
    | nil => unfold valsB at h; cases h
    | cons u us =>
      unfold valsB at h
      rw [Bool.and_eq_true] at h
      obtain ⟨v, r1, p1⟩ := valB_ok h.1
      obtain ⟨vs, r2, p2⟩ := valsB_ok h.2
      exact ⟨v :: vs, .cons r1 r2, fun F => .cons (p1 F) (p2 F)⟩
end
end
def consB (K : Fr) (p : Str × D) : Bool := match PySem.W.nsIn K mainGlobals p.1 with
  | some (some u) => valB K u p.2
  | _ => false

/-! ### the exception classes: by their numbers -/
def excName (ns : List Str) (c : Nat) : Str := ns.getD c (ns.headD Str.empty)
def clN (ns : List Str) (K : Fr) (c : Nat) : Value := .ref (He.ga K (excName ns c))
/-- which class is a subclass of which: the pairs -/
def exmN (n : Nat) (tb : List (Nat × Nat)) (c d : Nat) : Bool := tb.contains (if c < n then c else 0, if d < n then d else 0)
def excB (ns : List Str) (tb : List (Nat × Nat)) (K : Fr) : Bool := (List.range ns.length).all fun c => (List.range ns.length).all fun d => decide (PySem.W.exmOne K (clN ns K c) (clN ns K d) = some (tb.contains (c, d)))
theorem excName_ge {ns : List Str} {c : Nat} (h : ¬ c < ns.length) : excName ns c = excName ns 0 := by
  unfold excName
  rw [List.getD_eq_getElem?_getD, List.getD_eq_getElem?_getD, List.getElem?_eq_none (by omega)]
  cases ns <;> rfl
theorem excB_ok {ns : List Str} {tb : List (Nat × Nat)} {K : Fr} (h : excB ns tb K = true) (hn : 0 < ns.length) (c d : Nat) : PySem.W.exmOne K (clN ns K c) (clN ns K d) = some (exmN ns.length tb c d) := by
  have key : ∀ c d, c < ns.length → d < ns.length → PySem.W.exmOne K (clN ns K c) (clN ns K d) = some (tb.contains (c, d)) := fun c d h1 h2 =>
    of_decide_eq_true (List.all_eq_true.mp (List.all_eq_true.mp h c (List.mem_range.mpr h1)) d (List.mem_range.mpr h2))
  unfold exmN
  have e1 : clN ns K c = clN ns K (if c < ns.length then c else 0) := by
    split
    · rfl
    · unfold clN; rw [excName_ge (by assumption)]
  have e2 : clN ns K d = clN ns K (if d < ns.length then d else 0) := by
    split
    · rfl
    · unfold clN; rw [excName_ge (by assumption)]
  rw [e1, e2]
  exact key _ _ (by split <;> omega) (by split <;> omega)

/-! ### the hook -/
structure Tx where
  fa : List He.Fa
  fn : List He.DefD
  cs : List (Str × D)
  ex : List Str
  tb : List (Nat × Nat)
abbrev AlX : Type := He.AlD × Bool
def obsX (t : Tx) (K : Fr) : AlX := (He.obsD t.fa t.fn K, t.cs.all (consB K) && excB t.ex t.tb K)
def valX (t : Tx) : AlX := (He.valD t.fn, true)
def obsXG (n : Nat) (t : Tx) (g : Addr → Option Obj) : AlX := obsX t (He.frG g (He.asD g n))
def hookX (n : Nat) (t : Tx) : PySem.W.Hook where
  α := AlX
  obs := fun s => obsXG n t s.heap.get?
  val := fun _ => valX t
  says := fun _ h => ∃ K : Fr, K.In h ∧ obsX t K = valX t
  of := fun _ _ e => ⟨_, He.frG_in, e⟩
  keeps := fun _ _ _ ⟨K, hK, c⟩ k => ⟨K, PySem.W.Frag.In.keeps hK k, c⟩
theorem obsXG_eq {n : Nat} {t : Tx} {g : Addr → Option Obj} {s : Shared} (h : ∀ a, g a = s.heap.get? a) : obsXG n t g = (hookX n t).obs s := by
  have e : g = s.heap.get? := funext h
  rw [e] <;> rfl
/-- what stands of the top -/
structure Txt (t : Tx) (K : Fr) (mg : Str → Option Value) : Prop where
  says : obsX t K = valX t
  ns : ∃ h, K.In h ∧ h.Ns mainGlobals mg
section
variable {t : Tx} {K : Fr} {mg : Str → Option Value}
theorem Txt.d (T : Txt t K mg) : He.SaysD t.fa t.fn K := congrArg (fun z : AlX => z.1) T.says
theorem Txt.b (T : Txt t K mg) : (t.cs.all (consB K) && excB t.ex t.tb K) = true := congrArg (fun z : AlX => z.2) T.says
theorem Txt.free (T : Txt t K mg) (i : Nat) {x : Str} (h : t.fa[i]? = some (.free x) := by rfl) : mg x = none := by
  obtain ⟨hp, X, G⟩ := T.ns
  exact He.free_ok X G (T.d.fact i h)
theorem Txt.glo (T : Txt t K mg) (i : Nat) {x : Str} (h : t.fa[i]? = some (.glo x) := by rfl) : mg x = some (.ref (He.ga K x)) := by
  obtain ⟨hp, X, G⟩ := T.ns
  exact He.glo_ok X G (T.d.fact i h)
theorem Txt.cons (T : Txt t K mg) (i : Nat) {x : Str} {d : D} (h : t.cs[i]? = some (x, d) := by rfl) : ∃ v u, mg x = some u ∧ RelV v u ∧ ∀ F, Rp K F v d := by
  obtain ⟨hp, X, G⟩ := T.ns
  have c := List.all_eq_true.mp (Bool.and_eq_true_iff.mp T.b).1 _ (List.mem_of_getElem? h)
  unfold consB at c
  cases e : PySem.W.nsIn K mainGlobals x with
  | none => simp only [e] at c; cases c
  | some o =>
    cases o with
    | none => simp only [e] at c; cases c
    | some u =>
      simp only [e] at c
      obtain ⟨v, r, p⟩ := valB_ok c
      exact ⟨v, u, PySem.W.mg_of X G e, r, p⟩
theorem Txt.exm (T : Txt t K mg) (hn : 0 < t.ex.length) (c d : Nat) : PySem.W.exmOne K (clN t.ex K c) (clN t.ex K d) = some (exmN t.ex.length t.tb c d) := excB_ok (Bool.and_eq_true_iff.mp T.b).2 hn c d
end

/-! ### calls by name -/
structure Cal (P : Program) (w : World) (K : Fr) (mg : Str → Option Value) (base : Heap) (cl : Nat → Value) (x : Str) (ps : List Str) (k : Nat) (g : List Vl → Store → Res Vl) : Prop where
  ex : ∃ f fd, FnOk P w K mg base (L2.CX P w) k f fd ps (spV K cl g) ∧ mg x = some (.ref f) ∧ PySem.W.keepIn K (.ref f) = true ∧ Binds K fd ps [] ∧
    (∃ oc od osl, K.lookup f = some ⟨oc, od, .func fd, osl⟩) ∧ ∀ (s : Shared) (us : List Value), us.length = ps.length → BindsTo s fd ⟨us, []⟩ (ps.zip us)
section
variable {P : Program} {w : World} {K : Fr} {mg : Str → Option Value} {base : Heap} {cl : Nat → Value} {x : Str} {k : Nat} {ps : List Str} {g : List Vl → Store → Res Vl} {t : Tx}
theorem Cal.eq {g' : List Vl → Store → Res Vl} (c : Cal P w K mg base cl x ps k g) (e : ∀ args st, g' args st ≠ .no → g args st = g' args st) : Cal P w K mg base cl x ps k g' := by
  obtain ⟨f, fd, F, r⟩ := c.ex
  exact ⟨f, fd, fn_eq F e, r⟩
theorem Cal.close (c : Cal P w K mg base cl x ps k g) : Cal P w K mg base cl x ps k (closeD g) := by
  obtain ⟨f, fd, F, r⟩ := c.ex
  exact ⟨f, fd, fn_close F, r⟩
theorem cal_of {d : He.DefD} {N ps : List Str} {n j : Nat} {m : SM} (T : Txt t K mg) (i : Nat) (hd : t.fn[i]? = some d) (hg : mg x = some (.ref (He.fAd K d.at_))) (h0 : d.dfl = []) (h1 : d.kwd = []) (S : FnScope N ps d.scope) (hn : ps.length = n) (hj : N.length = n + j)
    (hb : ∀ (kV doc pm : Value) (an : Option Addr) (cdv ct : Value) (us : List Value), us.length = ps.length → bindArgs (PySem.W.fnOf d.name d.qual d.params d.body d.scope .none kV doc pm an cdv ct) ⟨us, []⟩ = pure (ps.zip us))
    (hbody : ∀ (f : Addr) (cdv : Value) (A : Around) (outer : List Env) (s : Shared) (H : Hp) (E : XK), Room k (A.deeper (envOfC d.qual d.scope s.heap.objs.size f cdv)) →
      Takes (cxOf (L2.CX P w) P w K mg base N d.qual d.scope f cdv A outer s H E) (fun c d _ H' => E c d H') → PassesOwn (model P w) (A.deeper (envOfC d.qual d.scope s.heap.objs.size f cdv)) (envOfC d.qual d.scope s.heap.objs.size f cdv) (cxOf (L2.CX P w) P w K mg base N d.qual d.scope f cdv A outer s H E).xe →
      PSs (cxOf (L2.CX P w) P w K mg base N d.qual d.scope f cdv A outer s H E) d.body (denS K cl (fun c d _ H' => E c d H') m)) : Cal P w K mg base cl x ps (k + 1) (fnV n j m) := by
  obtain ⟨fd, Fd⟩ := T.d.def_ i hd
  have e1 : d.dvs K = [] := by unfold He.DefD.dvs; rw [h0]; rfl
  have e2 : d.kws K = [] := by unfold He.DefD.kws; rw [h1]; rfl
  rw [e1, e2] at Fd
  have lk : ∃ oc od osl, K.lookup (He.fAd K d.at_) = some ⟨oc, od, .func fd, osl⟩ := by
    obtain ⟨oc, od, _, _, _, _, _, _, _, osl, _, h, _⟩ := Fd.ex
    exact ⟨oc, od, osl, h⟩
  exact ⟨_, fd, fn_ok Fd S hn hj (hbody _), hg, Fd.kp, Fd.bindsN hb, lk, Fd.bindsA hb⟩
/-- of a denotation that is nowhere nothing is asked -/
theorem cal_no {d : He.DefD} {ps : List Str} (T : Txt t K mg) (i : Nat) (hd : t.fn[i]? = some d) (hg : mg x = some (.ref (He.fAd K d.at_))) (h0 : d.dfl = []) (h1 : d.kwd = [])
    (hb : ∀ (kV doc pm : Value) (an : Option Addr) (cdv ct : Value) (us : List Value), us.length = ps.length → bindArgs (PySem.W.fnOf d.name d.qual d.params d.body d.scope .none kV doc pm an cdv ct) ⟨us, []⟩ = pure (ps.zip us)) : Cal P w K mg base cl x ps k (fun _ _ => .no) := by
  obtain ⟨fd, Fd⟩ := T.d.def_ i hd
  have e1 : d.dvs K = [] := by unfold He.DefD.dvs; rw [h0]; rfl
  have e2 : d.kws K = [] := by unfold He.DefD.kws; rw [h1]; rfl
  rw [e1, e2] at Fd
  have z : ∀ vs H Q E, ¬ spV K cl (fun _ _ => Res.no) vs H Q E := fun vs H Q E h => by
    obtain ⟨_, _, _, _, _, _, _, h⟩ := h
    exact h
  have lk : ∃ oc od osl, K.lookup (He.fAd K d.at_) = some ⟨oc, od, .func fd, osl⟩ := by
    obtain ⟨oc, od, _, _, _, _, _, _, _, osl, _, h, _⟩ := Fd.ex
    exact ⟨oc, od, osl, h⟩
  exact ⟨_, fd, ⟨fun vs H Q E h => (z vs H Q E h).elim, fun _ _ _ H _ _ vs Q E _ _ _ _ h => (z vs H Q E h).elim⟩, hg, Fd.kp, Fd.bindsN hb, lk, Fd.bindsA hb⟩
end
section
variable {X : Cx} {cl : Nat → Value} {W : WX} {e : Expr} {es : List Expr} {pos p : Pos} {m : AM} {x : Str} {k k' : Nat} {ps : List Str} {g : List Vl → Store → Res Vl}
theorem qe_callC (c : Cal X.prog X.w X.K X.mg X.base cl x ps k g) (hr : Room k' X.A) (tk : Takes X W) (ha : PA X (e :: es) (denA X.K cl W m)) (hk : k ≤ k' := by decide) (hg : Gl X x := by rfl) (hdb : (x == ("__debug__" : Str)) = false := by decide) (he : starEach (e :: es) X.env = (false, eval e X.env) :: starEach es X.env := by rfl)
    (hpl : (backTo pos (starEach es X.env)).any (·.1) = false := by rfl) : PE X (.Call (.Name x p) (e :: es) [] pos) (denE X.K cl W (callM g m)) := by
  obtain ⟨f, fd, F, h1, h2, h3, _⟩ := c.ex
  exact qe_call F (hr.mono hk) hg h1 h2 h3 tk ha hdb he hpl
theorem qe_const {d : D} (h : ∃ v u, X.mg x = some u ∧ RelV v u ∧ ∀ F, Rp X.K F v d) (hg : Gl X x := by rfl) (hd : (x == ("__debug__" : Str)) = false := by decide) : PE X (.Name x pos) (denE X.K cl W (cst d)) := by
  obtain ⟨v, u, h1, h2, h3⟩ := h
  exact qe_glob hg h1 h2 h3 hd
end

/-! ### the end of a law -/
open PySem.W in
theorem walk_ofX {l : PySem.W.OpenLaw} {n k : Nat} {q : Program} {loose : List Str} {XP : (Str → Option Value) → Heap → Prop} {d : DefRec} {t : Tx} {ps : List Str} {g : List Vl → Store → Res Vl} {i : Nat}
    (hn : l.most = some n) (hn2 : n ≤ sizeLine) (hdf : d.params.defaults = []) (hr : Room k callerA) {x : Str} (hd : d.name = x)
    (F : ∀ (w : World) (K : Fr) (mg : Str → Option Value) (base : Heap), Txt t K mg → Cal l.prog w K mg base (clN t.ex K) x ps k g)
    (hg : ∀ ns : List Int, ns.length ≤ n → ∃ st, g [.scr ns] [] = .ok (.dat (.bool true)) st) :
    PySem.W.WalkO q loose XP (hookX i t).says l.row.toRowW d [] (fun f vs => PySem.call f vs) := by
  refine Att.attach_call hn hdf fun w s₀ s₁ mg mb fa o pm cd doc a vs ns G Y ho hd2 hcd hmg hobj hints hlen hgens => ?_
  obtain ⟨K, KX, c⟩ := Y
  rw [hd] at hmg
  have T : Txt t K mg := ⟨c, _, KX, G.T.g⟩
  have lawsp : ∀ (H : Hp) (ns : List Int), ns.length ≤ n → L2.Only H → L2.SqL K H a (ns.map V.int) → spV K (clN t.ex K) g [.ref a] H (fun v _ => v = .bl true) fun _ _ _ => False := fun H ns hl hO hS => by
    obtain ⟨st, e⟩ := hg ns hl
    refine ⟨fun _ => none, H, [], [.scr ns], [], ⟨L2.Same.refl _, fun _ _ h => (nomatch h), List.nodup_nil, rfl, fun _ _ => rfl, fun _ h => (nomatch h), fun k c a h => by simp at h⟩, .cons (.scr hS) .nil, ?_⟩
    rw [e]
    intro F' as' H' g' r' u hu
    cases hu with
    | dat hu => cases hu; rfl
  obtain ⟨f, fd, F0, hf, hk, hb, ⟨oc, od, osl, lk⟩, hB⟩ := (F w K mg _ T).ex (base := s₁.heap)
  have e0 : fa = f := by
    rw [hmg] at hf
    cases hf
    rfl
  subst e0
  have hps : ∃ y, ps = [y] := by
    have hl := F0.len [.ref a] (fun b => if b = a then some (.frz o (.lst (ns.map V.int))) else none) (fun v _ => v = .bl true) (fun _ _ _ => False) (lawsp _ ns hlen (fun b => by
      by_cases e : b = a
      · rw [if_pos e]; exact .inr ⟨_, _, rfl⟩
      · rw [if_neg e]; exact .inl rfl) (.inl (.inr ⟨o, by show (if a = a then _ else _) = _; rw [if_pos rfl]⟩)))
    cases ps with
    | nil => cases hl
    | cons y r => cases r with
      | nil => exact ⟨y, rfl⟩
      | cons z r => cases hl
  obtain ⟨y, rfl⟩ := hps
  refine law_call (P := l.prog) (k := k) (x := y) (CX := L2.CX l.prog w) (sp := spV K (clN t.ex K) g) KX G.T.g G.T.b G.T.builtins G.T.nolimit hgens hobj hints (Nat.le_trans hlen hn2) hr (fun base h1 h2 => ?_) (fun s u => hB s [u] rfl) (fun H hO hS => lawsp H ns hlen hO hS) fun H e s' h => ?_
  · obtain ⟨f', fd', F1, hf1, _, _, ⟨oc1, od1, osl1, lk1⟩, _⟩ := (F w K mg base T).ex
    have e1 : fa = f' := by
      rw [hmg] at hf1
      cases hf1
      rfl
    subst e1
    rw [lk] at lk1
    cases lk1
    exact F1
  · obtain ⟨_, _, _, _, _, _, _, _, _, _, _, _, z⟩ := h
    exact z.elim
end Pd

set_option Elab.async false
set_option linter.all false
set_option maxRecDepth 100000
set_option maxHeartbeats 4000000
/-! Ev: how denotations are run by simp. -/
namespace Pd
open PySem L2
def seqO (o : Out) (w : Slots → Store → Out) : Out := match o with
  | .nx s st => w s st
  | o => o
@[simp] theorem seqO_nx (s : Slots) (st : Store) (w : Slots → Store → Out) : seqO (.nx s st) w = w s st := nr rfl
@[simp] theorem seqO_rt (v : Vl) (st : Store) (w : Slots → Store → Out) : seqO (.rt v st) w = .rt v st := nr rfl
@[simp] theorem seqO_exc (c : Nat) (p : Option (Str × D)) (s : Slots) (st : Store) (w : Slots → Store → Out) : seqO (.exc c p s st) w = .exc c p s st := nr rfl
@[simp] theorem seqO_bk (s : Slots) (st : Store) (w : Slots → Store → Out) : seqO (.bk s st) w = .bk s st := nr rfl
@[simp] theorem seqO_ct (s : Slots) (st : Store) (w : Slots → Store → Out) : seqO (.ct s st) w = .ct s st := nr rfl
@[simp] theorem seqO_no (w : Slots → Store → Out) : seqO .no w = .no := nr rfl
def optO (o : Option Slots) (k : Slots → Out) : Out := match o with
  | some s => k s
  | none => .no
@[simp] theorem optO_some (s : Slots) (k : Slots → Out) : optO (some s) k = k s := nr rfl
def loopO (o : Out) (k : Slots → Store → Out) : Out := match o with
  | .nx s st => k s st
  | .ct s st => k s st
  | .bk s st => .nx s st
  | o => o
@[simp] theorem loopO_nx (s : Slots) (st : Store) (k : Slots → Store → Out) : loopO (.nx s st) k = k s st := nr rfl
@[simp] theorem loopO_ct (s : Slots) (st : Store) (k : Slots → Store → Out) : loopO (.ct s st) k = k s st := nr rfl
@[simp] theorem loopO_bk (s : Slots) (st : Store) (k : Slots → Store → Out) : loopO (.bk s st) k = .nx s st := nr rfl
@[simp] theorem loopO_rt (v : Vl) (st : Store) (k : Slots → Store → Out) : loopO (.rt v st) k = .rt v st := nr rfl
@[simp] theorem loopO_exc (c : Nat) (p : Option (Str × D)) (s : Slots) (st : Store) (k : Slots → Store → Out) : loopO (.exc c p s st) k = .exc c p s st := nr rfl
def cnd {α : Type} (k : Bool) (a b : α) : α := if k = true then a else b
@[simp] theorem cnd_true {α : Type} (a b : α) : cnd true a b = a := nr rfl
@[simp] theorem cnd_false {α : Type} (a b : α) : cnd false a b = b := nr rfl
def andO (a : Vl) (r : Res Vl) (st : Store) : Res Vl := match a with
  | .dat (.bool b) => cnd b r (.ok (.dat (.bool false)) st)
  | _ => .no
@[simp] theorem andO_bool (b : Bool) (r : Res Vl) (st : Store) : andO (.dat (.bool b)) r st = cnd b r (.ok (.dat (.bool false)) st) := nr rfl
def orO (a : Vl) (r : Res Vl) (st : Store) : Res Vl := match a with
  | .dat (.bool b) => cnd b (.ok (.dat (.bool true)) st) r
  | _ => .no
@[simp] theorem orO_bool (b : Bool) (r : Res Vl) (st : Store) : orO (.dat (.bool b)) r st = cnd b (.ok (.dat (.bool true)) st) r := nr rfl
def parO (i j : Nat) (vs : List Vl) (s : Slots) (st : Store) : Out := match vs with
  | [v, w] => .nx ((s.set i (some v)).set j (some w)) st
  | _ => .no
@[simp] theorem parO_two (i j : Nat) (v w : Vl) (s : Slots) (st : Store) : parO i j [v, w] s st = .nx ((s.set i (some v)).set j (some w)) st := nr rfl
section
variable {s : Slots} {st st1 : Store} {f g : EM} {m : AM} {c d : TM}
def ofO : Option D → Store → Res Vl
  | some x, st => .ok (.dat x) st
  | none, _ => .no
@[simp] theorem ofO_some (x : D) (st : Store) : ofO (some x) st = .ok (.dat x) st := rfl
@[simp] theorem ofO_none (st : Store) : ofO none st = .no := rfl
def ap2 (h : D → D → Option D) (a b : Vl) (st : Store) : Res Vl := match peek a st, peek b st with
  | some x, some y => ofO (h x y) st
  | _, _ => .no
@[simp] theorem ap2_dat (h : D → D → Option D) (x y : D) (st : Store) : ap2 h (.dat x) (.dat y) st = ofO (h x y) st := rfl
@[simp] theorem ev_op2 (h : D → D → Option D) : op2 h f g s st = (f s st).bind fun a st1 => (g s st1).bind fun b st2 => ap2 h a b st2 := by
  unfold op2 ap2
  congr 1
  funext a st1
  congr 1
  funext b st2
  cases peek a st2 with
  | none => rfl
  | some x => cases peek b st2 with
    | none => rfl
    | some y => cases e : h x y <;> simp [e]
def apN (h : List D → Option D) (vs : List Vl) (st : Store) : Res Vl := match peeks vs st with
  | some ds => ofO (h ds) st
  | none => .no
@[simp] theorem ev_opN (h : List D → Option D) : opN h m s st = (m s st).bind fun vs st1 => apN h vs st1 := by
  unfold opN apN
  congr 1
  funext a st1
  cases peeks a st1 with
  | none => rfl
  | some x => cases e : h x <;> simp [e]
@[simp] theorem apN1 (h : List D → Option D) (x : D) (st : Store) : apN h [.dat x] st = ofO (h [x]) st := rfl
@[simp] theorem apN2 (h : List D → Option D) (x y : D) (st : Store) : apN h [.dat x, .dat y] st = ofO (h [x, y]) st := rfl
theorem apN_cel {h : List D → Option D} {k : Nat} {ds : List D} {st : Store} (e : st[k]? = some (.lst (ds.map .dat))) : apN h [.cel k] st = ofO (h [.list ds]) st := by
  simp [apN, peeks, peek, e]
def outC (o : Option (List D)) (st : Store) : Res Vl := match o with
  | some out => .ok (.cel st.length) (st ++ [.lst (out.map .dat)])
  | none => .no
@[simp] theorem outC_some (out : List D) (st : Store) : outC (some out) st = .ok (.cel st.length) (st ++ [.lst (out.map .dat)]) := nr rfl
def apC (h : D → D → Option (List D)) (a b : Vl) (st : Store) : Res Vl := match peek a st, peek b st with
  | some x, some y => outC (h x y) st
  | _, _ => .no
@[simp] theorem apC_dat (h : D → D → Option (List D)) (x y : D) (st : Store) : apC h (.dat x) (.dat y) st = outC (h x y) st := nr rfl
@[simp] theorem ev_op2C (h : D → D → Option (List D)) : op2C h f g s st = (f s st).bind fun a st1 => (g s st1).bind fun b st2 => apC h a b st2 := nr rfl
@[simp] theorem ev_op1 (h : D → Option D) : op1 h f s st = (f s st).bind fun a st1 => match peek a st1 with
  | some x => ofO (h x) st1
  | none => .no := by
  unfold op1
  congr 1
  funext a st1
  cases peek a st1 with
  | none => rfl
  | some x => cases e : h x <;> simp [e]
@[simp] theorem ev_cst (d : D) : cst d s st = .ok (.dat d) st := nr rfl
@[simp] theorem ev_vr (i : Nat) : vr i s st = match s[i]? with
  | some (some v) => .ok v st
  | _ => .no := rfl
@[simp] theorem ev_aNil : aNil s st = .ok [] st := nr rfl
@[simp] theorem ev_aCons : aCons f m s st = (f s st).bind fun v st1 => (m s st1).bind fun vs st2 => .ok (v :: vs) st2 := nr rfl
@[simp] theorem toDs_nil : toDs [] st = .ok [] st := rfl
@[simp] theorem toDs_cons (v : Vl) (r : List Vl) : toDs (v :: r) st = (toD v st).bind fun d st1 => (toDs r st1).bind fun ds st2 => .ok (d :: ds) st2 := rfl
@[simp] theorem ev_tupM : tupM m s st = (m s st).bind fun vs st1 => (toDs vs st1).bind fun ds st2 => if ds.length ≤ sizeLine then .ok (.dat (.tuple ds)) st2 else .no := nr rfl
@[simp] theorem ev_lstD : lstD m s st = (m s st).bind fun vs st1 => (toDs vs st1).bind fun ds st2 => if ds.length ≤ sizeLine then .ok (.dat (.list ds)) st2 else .no := nr rfl
@[simp] theorem ev_lstC : lstC m s st = (m s st).bind fun vs st1 => if vs.length ≤ sizeLine then .ok (.cel st1.length) (st1 ++ [.lst vs]) else .no := nr rfl
@[simp] theorem ev_callM (g : List Vl → Store → Res Vl) : callM g m s st = (m s st).bind g := nr rfl
@[simp] theorem ev_ifE : ifE c f g s st = (c s st).bind fun b st1 => cnd b (f s st1) (g s st1) := nr rfl
@[simp] theorem ev_truM : truM f s st = (f s st).bind fun a st1 => match peek a st1 with
  | some x => (match truD x with
    | some b => .ok b st1
    | none => .no)
  | none => .no := nr rfl
@[simp] theorem truD_bool (b : Bool) : truD (.bool b) = some b := rfl
@[simp] theorem ev_andT : andT c d s st = (c s st).bind fun b st1 => cnd b (d s st1) (.ok false st1) := nr rfl
@[simp] theorem ev_orT : orT c d s st = (c s st).bind fun b st1 => cnd b (.ok true st1) (d s st1) := nr rfl
@[simp] theorem ev_notT : notT c s st = (c s st).bind fun b st1 => .ok (!b) st1 := nr rfl
@[simp] theorem ev_andE : andE f g s st = (f s st).bind fun a st1 => andO a (g s st1) st1 := by
  rfl
@[simp] theorem ev_orE : orE f g s st = (f s st).bind fun a st1 => orO a (g s st1) st1 := by
  rfl
@[simp] theorem ev_notE : notE f s st = (f s st).bind fun a st1 => match a with
  | .dat (.bool b) => .ok (.dat (.bool (!b))) st1
  | _ => .no := rfl
@[simp] theorem ev_setM (i : Nat) : setM i f s st = bindS (f s st) s fun v st1 => .nx (s.set i (some v)) st1 := nr rfl
@[simp] theorem ev_asgM (b : BM) : asgM b f s st = bindS (f s st) s fun v st1 => optO (b v s) fun s' => .nx s' st1 := nr rfl
@[simp] theorem ev_parM (i j : Nat) : parM i j m s st = bindS (m s st) s fun vs st1 => parO i j vs s st1 := nr rfl
variable {u w : SM}
@[simp] theorem ev_seqM : seqM u w s st = seqO (u s st) w := nr rfl
@[simp] theorem ev_skipM : skipM s st = .nx s st := nr rfl
@[simp] theorem ev_ifS : ifS c u w s st = bindS (c s st) s fun k st1 => cnd k (u s st1) (w s st1) := nr rfl
@[simp] theorem ev_retM : retM f s st = bindS (f s st) s fun v st1 => .rt v st1 := nr rfl
@[simp] theorem ev_retN : retN s st = .rt (.dat .none) st := nr rfl
@[simp] theorem ev_dropM : dropM f s st = bindS (f s st) s fun _ st1 => .nx s st1 := nr rfl
@[simp] theorem ev_brkM : brkM s st = .bk s st := nr rfl
@[simp] theorem ev_cntM : cntM s st = .ct s st := nr rfl
@[simp] theorem ev_raiseM (k : Nat) : raiseM k s st = .exc k none s st := nr rfl
@[simp] theorem loopM_nil (g : D → SM) : loopM g [] s st = .nx s st := rfl
theorem whileN_succ (c : TM) (b : SM) (n : Nat) (s : Slots) (st : Store) : whileN c b (n + 1) s st = bindS (c s st) s fun k st1 => cnd k (loopO (b s st1) fun s' st' => whileN c b n s' st') (.nx s st1) := nr rfl
theorem loopM_cons (g : D → SM) (x : D) (r : List D) : loopM g (x :: r) s st = loopO (g x s st) fun s' st' => loopM g r s' st' := nr rfl
@[simp] theorem ev_tgM (b : BM) (x : D) : tgM b u x s st = optO (b (.dat x) s) fun s' => u s' st := nr rfl
@[simp] theorem ev_forM (b : BM) (it : IM) : forM b it u s st = bindS (it s st) s fun ds st1 => loopM (tgM b u) ds s st1 := nr rfl
@[simp] theorem ev_bName (i : Nat) (v : Vl) : bName i v s = some (s.set i (some v)) := nr rfl
@[simp] theorem bAll_nil : bAll [] [] s = some s := rfl
@[simp] theorem bAll_cons (b : BM) (bs : List BM) (x : D) (xs : List D) : bAll (b :: bs) (x :: xs) s = (b (.dat x) s).bind fun s1 => bAll bs xs s1 := rfl
@[simp] theorem ev_bTup (bs : List BM) (xs : List D) : bTup bs (.dat (.tuple xs)) s = bAll bs xs s := nr rfl
@[simp] theorem ev_itM : itM f s st = (f s st).bind fun v st1 => match v with
  | .scr ns => .ok (ns.map .int) st1
  | .dat d => (match d with
    | .list ds => .ok ds st1
    | .tuple ds => .ok ds st1
    | _ => .no)
  | .cel k => (toD (.cel k) st1).bind fun d st2 => match d with
    | .list ds => .ok ds st2
    | _ => .no := rfl
theorem rng_ok {n : Nat} (h : n < 1000000) : -(2 ^ 62) ≤ (n : Int) ∧ (n : Int) < 2 ^ 62 := by
  have e : (2 : Int) ^ 62 = 4611686018427387904 := by decide
  rw [e]
  omega
theorem run_rng1 {n : Nat} (h : m s st = .ok [.dat (.int n)] st1) (hn : n < 1000000) : rng1M m s st = .ok (rngD 0 n 1) st1 := by
  unfold rng1M
  rw [h, Res.bind_ok]
  show (if _ then _ else _) = _
  rw [if_pos (rng_ok hn), Int.toNat_natCast]
theorem run_rng2 {i j : Nat} (h : m s st = .ok [.dat (.int i), .dat (.int j)] st1) (hi : i < 1000000) (hj : j < 1000000) : rng2M m s st = .ok (rngD i (j - i) 1) st1 := by
  unfold rng2M
  rw [h, Res.bind_ok]
  show (if _ then _ else _) = _
  rw [if_pos ⟨(rng_ok hi).1, (rng_ok hi).2, (rng_ok hj).1, (rng_ok hj).2⟩]
  congr 2
  omega
theorem run_rngDown {i : Nat} (h : m s st = .ok [.dat (.int ((i : Int) - 1)), .dat (.int (-1)), .dat (.int (-1))] st1) (hi : i < 1000000) : rngDownM m s st = .ok (rngD ((i : Int) - 1) i (-1)) st1 := by
  unfold rngDownM
  rw [h, Res.bind_ok]
  show (if _ then _ else _) = _
  have e : (2 : Int) ^ 62 = 4611686018427387904 := by decide
  rw [if_pos ⟨⟨by rw [e]; omega, by rw [e]; omega, by rw [e]; omega, by rw [e]; omega⟩, rfl⟩]
  congr 2
  omega
@[simp] theorem ev_zipM : zipM m s st = (m s st).bind fun vs st1 => (toDs vs st1).bind fun ds st2 => match ds with
  | [.list xs, .list ys] => .ok (zipD xs ys) st2
  | [.tuple xs, .tuple ys] => .ok (zipD xs ys) st2
  | _ => .no := rfl
@[simp] theorem ev_noO : noO s st = .ok none st := nr rfl
@[simp] theorem ev_someO : someO f s st = (f s st).bind fun v st1 => match v with
  | .dat (.int i) => .ok (some i) st1
  | _ => .no := rfl
@[simp] theorem ev_sliceM (lo hi : OM) : sliceM f lo hi s st = (f s st).bind fun v st1 => (lo s st1).bind fun l st2 => (hi s st2).bind fun h st3 => match peek v st3 with
  | some d => ofO (sliceD d l h) st3
  | none => .no := by
  unfold sliceM
  congr 1
  funext v st1
  congr 1
  funext l st2
  congr 1
  funext h st3
  cases peek v st3 with
  | none => rfl
  | some d => cases e : sliceD d l h <;> simp [e]
@[simp] theorem ev_isiM (T : String) : isiM T f s st = (f s st).bind fun a st1 => match peek a st1 with
  | some x => ofO (isiD T x) st1
  | none => .no := ev_op1 _
@[simp] theorem ev_lcM (it : IM) (b : BM) (vs : List Nat) (t : TM) (e : EM) : lcM it b vs t e s st = (it s st).bind fun ds st1 => (noX (lcGo b t e ds (wipeS s vs) st1)).bind fun out st2 => if out.length ≤ sizeLine then .ok (.dat (.list out)) st2 else .no := by
  unfold lcM lcL
  cases it s st with
  | no => rfl
  | exc c p st => rfl
  | ok ds st1 =>
    simp only [Res.bind_ok]
    cases noX (lcGo b t e ds (wipeS s vs) st1) with
    | no => rfl
    | exc c p st => rfl
    | ok out st2 =>
      simp only [Res.bind_ok]
      split <;> rfl
@[simp] theorem noX_ok {α : Type} (a : α) (st : Store) : noX (Res.ok a st) = .ok a st := rfl
@[simp] theorem lcGo_nil (b : BM) (t : TM) (e : EM) : lcGo b t e [] s st = .ok [] st := rfl
theorem lcGo_cons (b : BM) (t : TM) (e : EM) (x : D) (r : List D) : lcGo b t e (x :: r) s st = match b (.dat x) s with
    | none => .no
    | some s1 => (t s1 st).bind fun k st1 => if k = true then (e s1 st1).bind fun v st2 => (toD v st2).bind fun x st3 => (lcGo b t e r s st3).bind fun xs st4 => .ok (x :: xs) st4
      else lcGo b t e r s st1 := rfl
@[simp] theorem ev_tYesM : tYesM s st = .ok true st := nr rfl
/-- a comprehension whose elements do not touch the store -/
theorem lcGo_map {b : BM} {e : EM} (h : D → D) : ∀ (ds : List D), (∀ x ∈ ds, ∃ s1, b (.dat x) s = some s1 ∧ e s1 st = .ok (.dat (h x)) st) → lcGo b tYesM e ds s st = .ok (ds.map h) st
  | [], _ => rfl
  | x :: r, k => by
    obtain ⟨s1, e1, e2⟩ := k x List.mem_cons_self
    rw [lcGo_cons, e1]
    simp [e2, lcGo_map h r fun y hy => k y (List.mem_cons_of_mem _ hy)]
theorem lcGo_filter {b : BM} {t : TM} {e : EM} (p : D → Bool) : ∀ (ds : List D), (∀ x ∈ ds, ∃ s1, b (.dat x) s = some s1 ∧ t s1 st = .ok (p x) st ∧ e s1 st = .ok (.dat x) st) → lcGo b t e ds s st = .ok (ds.filter p) st
  | [], _ => rfl
  | x :: r, k => by
    obtain ⟨s1, e1, e2, e3⟩ := k x List.mem_cons_self
    rw [lcGo_cons, e1]
    cases hp : p x <;> simp [e2, e3, hp, lcGo_filter p r fun y hy => k y (List.mem_cons_of_mem _ hy)]
theorem lcGo_filterMap {b : BM} {t : TM} {e : EM} (p : D → Bool) (h : D → D) : ∀ (ds : List D), (∀ x ∈ ds, ∃ s1, b (.dat x) s = some s1 ∧ t s1 st = .ok (p x) st ∧ (p x = true → e s1 st = .ok (.dat (h x)) st)) → lcGo b t e ds s st = .ok ((ds.filter p).map h) st
  | [], _ => rfl
  | x :: r, k => by
    obtain ⟨s1, e1, e2, e3⟩ := k x List.mem_cons_self
    rw [lcGo_cons, e1]
    cases hp : p x
    · simp [e2, hp, lcGo_filterMap p h r fun y hy => k y (List.mem_cons_of_mem _ hy)]
    · simp [e2, e3 hp, hp, lcGo_filterMap p h r fun y hy => k y (List.mem_cons_of_mem _ hy)]
end
/-! defs -/
theorem fnV_rt {n k : Nat} {body : SM} {args : List Vl} {st st' : Store} {v : Vl} (hn : args.length = n) (h : body (args.map some ++ List.replicate k none) st = .rt v st') : fnV n k body args st = .ok v st' := by
  unfold fnV
  rw [if_pos hn, h]
theorem fnV_nx {n k : Nat} {body : SM} {args : List Vl} {st st' : Store} {s' : Slots} (hn : args.length = n) (h : body (args.map some ++ List.replicate k none) st = .nx s' st') : fnV n k body args st = .ok (.dat .none) st' := by
  unfold fnV
  rw [if_pos hn, h]
theorem fnV_exc {n k : Nat} {body : SM} {args : List Vl} {st st' : Store} {s' : Slots} {c : Nat} {p : Option (Str × D)} (hn : args.length = n) (h : body (args.map some ++ List.replicate k none) st = .exc c p s' st') : fnV n k body args st = .exc c p st' := by
  unfold fnV
  rw [if_pos hn, h]
/-- a def that leaves the store as it was -/
theorem call_rt {n k : Nat} {body : SM} {args : List Vl} {st : Store} {d : D} (hn : args.length = n) (h : body (args.map some ++ List.replicate k none) st = .rt (.dat d) st) : closeD (fnV n k body) args st = .ok (.dat d) st :=
  closeD_ok (st' := []) (by rw [List.append_nil]; exact fnV_rt hn h)
/-- a def that makes cells of its own -/
theorem call_rtN {n k : Nat} {body : SM} {args : List Vl} {st st' : Store} {d : D} (hn : args.length = n) (h : body (args.map some ++ List.replicate k none) st = .rt (.dat d) (st ++ st')) : closeD (fnV n k body) args st = .ok (.dat d) st := closeD_ok (fnV_rt hn h)
theorem call_nx {n k : Nat} {body : SM} {args : List Vl} {st : Store} {s' : Slots} (hn : args.length = n) (h : body (args.map some ++ List.replicate k none) st = .nx s' st) : closeD (fnV n k body) args st = .ok (.dat .none) st :=
  closeD_ok (st' := []) (by rw [List.append_nil]; exact fnV_nx hn h)
theorem call_exc {n k : Nat} {body : SM} {args : List Vl} {st : Store} {s' : Slots} {c : Nat} {p : Option (Str × D)} (hn : args.length = n) (h : body (args.map some ++ List.replicate k none) st = .exc c p s' st) : closeD (fnV n k body) args st = .exc c p st :=
  closeD_exc (st' := []) (by rw [List.append_nil]; exact fnV_exc hn h)
/-! data -/
@[simp] theorem addD_int (i j : Int) : addD (.int i) (.int j) = some (.int (i + j)) := rfl
@[simp] theorem subD_int (i j : Int) : subD (.int i) (.int j) = some (.int (i - j)) := rfl
@[simp] theorem negD_int (i : Int) : negD (.int i) = some (.int (-i)) := rfl
@[simp] theorem ltD_int (i j : Int) : ltD (.int i) (.int j) = some (.bool (decide (i < j))) := rfl
@[simp] theorem leD_int (i j : Int) : leD (.int i) (.int j) = some (.bool (decide (i ≤ j))) := rfl
@[simp] theorem gtD_int (i j : Int) : gtD (.int i) (.int j) = some (.bool (decide (j < i))) := rfl
@[simp] theorem geD_int (i j : Int) : geD (.int i) (.int j) = some (.bool (decide (j ≤ i))) := rfl
@[simp] theorem mulD_int (i j : Int) : mulD (.int i) (.int j) = if mulOk i j = true then some (.int (i * j)) else none := rfl
@[simp] theorem fdivD_int (i j : Int) : fdivD (.int i) (.int j) = if divOk j = true then some (.int (i / j)) else none := rfl
@[simp] theorem modD_int (i j : Int) : modD (.int i) (.int j) = if 0 < j then some (.int (i % j)) else none := rfl
@[simp] theorem absD_int (i : Int) : absD [.int i] = some (.int (if i < 0 then -i else i)) := rfl
theorem abs_eq (i : Int) : (if i < 0 then -i else i) = (i.natAbs : Int) := by split <;> omega
@[simp] theorem lenD_tup (ds : List D) : lenD [.tuple ds] = some (.int ds.length) := rfl
@[simp] theorem lenD_lst (ds : List D) : lenD [.list ds] = some (.int ds.length) := rfl
@[simp] theorem intD_int (i : Int) : intD [.int i] = some (.int i) := rfl
@[simp] theorem tupleD_list (ds : List D) : tupleD [.list ds] = some (.tuple ds) := rfl
@[simp] theorem ixD_tup (ds : List D) (i : Int) : ixD (.tuple ds) (.int i) = atI ds i := rfl
@[simp] theorem ixD_lst (ds : List D) (i : Int) : ixD (.list ds) (.int i) = atI ds i := rfl
@[simp] theorem atI_nat {α : Type} (xs : List α) (i : Nat) : atI xs (i : Int) = xs[i]? := by
  unfold atI ixN
  rw [if_pos (by omega)]
  split
  · simp
  · rename_i h
    simp
    omega
@[simp] theorem atI_0 {α : Type} (xs : List α) : atI xs 0 = xs[0]? := atI_nat xs 0
@[simp] theorem atI_1 {α : Type} (xs : List α) : atI xs 1 = xs[1]? := atI_nat xs 1
@[simp] theorem atI_last {α : Type} (xs : List α) : atI xs (-1) = xs[xs.length - 1]? := by
  unfold atI ixN
  rw [if_neg (by omega)]
  cases xs with
  | nil => simp
  | cons x xs =>
    rw [if_pos (by simp only [List.length_cons]; omega)]
    simp only [List.length_cons, Option.bind_some]
    congr 1
    omega
@[simp] theorem addD_tup (xs ys : List D) : addD (.tuple xs) (.tuple ys) = if xs.length + ys.length ≤ sizeLine then some (.tuple (xs ++ ys)) else none := rfl
@[simp] theorem addD_lst (xs ys : List D) : addD (.list xs) (.list ys) = if xs.length + ys.length ≤ sizeLine then some (.list (xs ++ ys)) else none := rfl
@[simp] theorem sliceD_tup (ds : List D) (lo hi : Option Int) : sliceD (.tuple ds) lo hi = some (.tuple (cutL ds lo hi)) := rfl
@[simp] theorem sliceD_lst (ds : List D) (lo hi : Option Int) : sliceD (.list ds) lo hi = some (.list (cutL ds lo hi)) := rfl
theorem cutL_from {α : Type} (xs : List α) (k : Nat) : cutL xs (some (k : Int)) none = xs.drop k := by
  unfold cutL
  rw [HT.sIx_nat, HT.sIx_none]
  by_cases h : k ≤ xs.length
  · rw [Nat.min_eq_left h, List.take_of_length_le (by simp)]
  · rw [Nat.min_eq_right (by omega), List.drop_eq_nil_of_le (Nat.le_refl _), List.drop_eq_nil_of_le (by omega)]
    simp
theorem cutL_to {α : Type} (xs : List α) (k : Nat) : cutL xs none (some (k : Int)) = xs.take k := by
  unfold cutL
  rw [HT.sIx_nat, HT.sIx_none]
  simp
theorem cutL_1 {α : Type} (xs : List α) : cutL xs (some 1) none = xs.tail := by
  rw [show (some (1 : Int)) = some ((1 : Nat) : Int) from rfl, cutL_from]
  simp
theorem cutL_to1 {α : Type} (xs : List α) : cutL xs none (some 1) = xs.take 1 := by
  rw [show (some (1 : Int)) = some ((1 : Nat) : Int) from rfl, cutL_to]
theorem cutL_m1 {α : Type} (xs : List α) : cutL xs (some (-1)) none = xs.drop (xs.length - 1) := by
  unfold cutL
  rw [HT.sIx_none]
  have e : HT.sIx xs.length 0 (some (-1)) = xs.length - 1 := by
    show (if (-1 : Int) < 0 then ((-1 : Int) + (xs.length : Int)).toNat else min (-1 : Int).toNat xs.length) = _
    rw [if_pos (by decide)]
    omega
  rw [e, List.take_of_length_le (by simp)]
theorem cutL_mid {α : Type} (xs : List α) (i j : Nat) : cutL xs (some (i : Int)) (some (j : Int)) = (xs.take j).drop i := by
  unfold cutL
  rw [HT.sIx_nat, HT.sIx_nat, List.drop_take]
  by_cases h : i ≤ xs.length
  · rw [Nat.min_eq_left h]
    by_cases h2 : j ≤ xs.length
    · rw [Nat.min_eq_left h2]
    · rw [Nat.min_eq_right (by omega), List.take_of_length_le (by simp), List.take_of_length_le (by simp; omega)]
  · rw [Nat.min_eq_right (a := i) (by omega), List.drop_eq_nil_of_le (Nat.le_refl _), List.drop_eq_nil_of_le (by omega)]
    simp
@[simp] theorem isiD_tt (ds : List D) : isiD "tuple" (.tuple ds) = some (.bool true) := by rfl
@[simp] theorem isiD_ii (i : Int) : isiD "int" (.int i) = some (.bool true) := by rfl
@[simp] theorem isiD_bi (i : Int) : isiD "bool" (.int i) = some (.bool false) := by rfl
@[simp] theorem isiD_ti (i : Int) : isiD "tuple" (.int i) = some (.bool false) := by rfl
@[simp] theorem isiD_tn : isiD "tuple" .none = some (.bool false) := by rfl
@[simp] theorem isiD_tl (ds : List D) : isiD "tuple" (.list ds) = some (.bool false) := by rfl
@[simp] theorem eqD_int (i j : Int) : eqD (.int i) (.int j) = some (.bool (decide (i = j))) := by
  show (if _ then some (PyData.bool (PyData.eqv (.int i) (.int j))) else none) = _
  rw [if_pos ⟨rfl, rfl⟩]
  simp [PyData.eqv]
  rfl
@[simp] theorem neD_int (i j : Int) : neD (.int i) (.int j) = some (.bool (!decide (i = j))) := by
  show (if _ then some (PyData.bool (!PyData.eqv (.int i) (.int j))) else none) = _
  rw [if_pos ⟨rfl, rfl⟩]
  simp [PyData.eqv]
  rfl
theorem neD_refl {d : D} (h : SeqAt.shaped d = true) : neD d d = some (.bool false) := by
  unfold neD
  rw [if_pos ⟨h, h⟩, SeqAt.eqv_refl d (SeqAt.canLay_of_shaped h)]
  rfl
theorem eqD_refl {d : D} (h : SeqAt.shaped d = true) : eqD d d = some (.bool true) := by
  unfold eqD
  rw [if_pos ⟨h, h⟩, SeqAt.eqv_refl d (SeqAt.canLay_of_shaped h)]
@[simp] theorem isND_n : isND .none .none = some (.bool true) := rfl
@[simp] theorem isND_t (ds : List D) : isND (.tuple ds) .none = some (.bool false) := rfl
end Pd

set_option Elab.async false
set_option linter.all false
set_option maxRecDepth 100000
set_option maxHeartbeats 4000000
/-! Rt: ratios as data; gcd; sizes. -/
namespace Pd
open PySem L2
/-- a rational number as the program writes it -/
def rt (q : Rat) : D := .tuple [.int q.num, .int q.den]
/-- how large it may be written -/
def Sz (k : Nat) (q : Rat) : Prop := q.num.natAbs < 2 ^ k ∧ q.den < 2 ^ k
theorem Sz.mono {k l : Nat} {q : Rat} (h : Sz k q) (e : k ≤ l) : Sz l q :=
  ⟨Nat.lt_of_lt_of_le h.1 (Nat.pow_le_pow_right (by decide) e), Nat.lt_of_lt_of_le h.2 (Nat.pow_le_pow_right (by decide) e)⟩
theorem Sz.pos {k : Nat} {q : Rat} (h : Sz k q) : 0 < k := by
  have h1 := h.2
  have h2 := q.den_pos
  cases k with
  | zero => rw [Nat.pow_zero] at h1; omega
  | succ k => omega
theorem mulOk_lt {i j : Int} {k l : Nat} (hi : i.natAbs < 2 ^ k) (hj : j.natAbs < 2 ^ l) (h : k + l < 100000000) : mulOk i j = true := by
  refine Bool.or_eq_true_iff.mpr (.inl (decide_eq_true ?_))
  have a : i.natAbs.log2 ≤ k := by
    by_cases z : i.natAbs = 0
    · rw [z]; exact Nat.zero_le _
    · exact Nat.le_of_lt ((Nat.log2_lt z).mpr hi)
  have b : j.natAbs.log2 ≤ l := by
    by_cases z : j.natAbs = 0
    · rw [z]; exact Nat.zero_le _
    · exact Nat.le_of_lt ((Nat.log2_lt z).mpr hj)
  omega
theorem divOk_lt {j : Int} {k : Nat} (h0 : 0 < j) (hj : j.natAbs < 2 ^ k) (h : k ≤ 9000) : divOk j = true := by
  unfold divOk
  have a : j.natAbs.log2 < k := (Nat.log2_lt (by omega)).mpr hj
  simp [h0]
  omega
theorem natAbs_mul_lt {i j : Int} {k l : Nat} (hi : i.natAbs < 2 ^ k) (hj : j.natAbs < 2 ^ l) : (i * j).natAbs < 2 ^ (k + l) := by
  rw [Int.natAbs_mul, Nat.pow_add]
  exact Nat.mul_lt_mul'' hi hj
theorem natAbs_add_lt {i j : Int} {k : Nat} (hi : i.natAbs < 2 ^ k) (hj : j.natAbs < 2 ^ k) : (i + j).natAbs < 2 ^ (k + 1) := by
  rw [Nat.pow_succ]
  have := Int.natAbs_add_le i j
  omega
theorem natAbs_sub_lt {i j : Int} {k : Nat} (hi : i.natAbs < 2 ^ k) (hj : j.natAbs < 2 ^ k) : (i - j).natAbs < 2 ^ (k + 1) := by
  rw [Nat.pow_succ]
  omega
theorem den_nat (q : Rat) : ((q.den : Int)).natAbs = q.den := rfl
/-- the ratio of two numbers is no larger than they are -/
theorem divInt_sz {n d : Int} {k : Nat} (hk : 0 < k) (hn : n.natAbs < 2 ^ k) (hd : d.natAbs < 2 ^ k) : Sz k (Rat.divInt n d) := by
  constructor
  · rw [Rat.num_divInt]
    refine Nat.lt_of_le_of_lt ?_ hn
    rw [Int.natAbs_ediv_of_dvd (Int.dvd_trans (Int.gcd_dvd_right ..) (Int.dvd_mul_left ..))]
    refine Nat.le_trans (Nat.div_le_self _ _) ?_
    rw [Int.natAbs_mul]
    have e : d.sign.natAbs ≤ 1 := by
      rw [Int.natAbs_sign]
      split <;> omega
    refine Nat.le_trans (Nat.mul_le_mul_right _ e) ?_
    omega
  · rw [Rat.den_divInt]
    split
    · exact Nat.one_lt_two_pow_iff.mpr (by omega)
    · exact Nat.lt_of_le_of_lt (Nat.div_le_self _ _) hd
theorem add_divInt (a b : Rat) : a + b = Rat.divInt (a.num * b.den + b.num * a.den) (a.den * b.den) := by
  rw [Rat.add_def', ← Rat.divInt_ofNat, Int.natCast_mul]
theorem sub_divInt (a b : Rat) : a - b = Rat.divInt (a.num * b.den - b.num * a.den) (a.den * b.den) := by
  rw [Rat.sub_def', ← Rat.divInt_ofNat, Int.natCast_mul]
theorem mul_divInt (a b : Rat) : a * b = Rat.divInt (a.num * b.num) (a.den * b.den) := by
  rw [Rat.mul_def', ← Rat.divInt_ofNat, Int.natCast_mul]
theorem div_divInt (a b : Rat) : a / b = Rat.divInt (a.num * b.den) (a.den * b.num) := by
  rw [Rat.div_def, Rat.inv_def]
  conv => lhs; rw [← Rat.num_divInt_den a]
  rw [Rat.divInt_mul_divInt]
theorem den_ne (q : Rat) : ((q.den : Int)) ≠ 0 := by
  have := q.den_nz
  omega
theorem add_sz {a b : Rat} {k l : Nat} (ha : Sz k a) (hb : Sz l b) : Sz (k + l + 1) (a + b) := by
  rw [add_divInt]
  refine divInt_sz (by omega) (natAbs_add_lt (natAbs_mul_lt ha.1 hb.2) ?_) (Nat.lt_of_lt_of_le (natAbs_mul_lt (i := (a.den : Int)) (j := (b.den : Int)) ha.2 hb.2) (Nat.pow_le_pow_right (by decide) (by omega)))
  rw [Nat.add_comm]
  exact natAbs_mul_lt hb.1 ha.2
theorem sub_sz {a b : Rat} {k l : Nat} (ha : Sz k a) (hb : Sz l b) : Sz (k + l + 1) (a - b) := by
  rw [sub_divInt]
  refine divInt_sz (by omega) (natAbs_sub_lt (natAbs_mul_lt ha.1 hb.2) ?_) (Nat.lt_of_lt_of_le (natAbs_mul_lt (i := (a.den : Int)) (j := (b.den : Int)) ha.2 hb.2) (Nat.pow_le_pow_right (by decide) (by omega)))
  rw [Nat.add_comm]
  exact natAbs_mul_lt hb.1 ha.2
theorem mul_sz {a b : Rat} {k l : Nat} (ha : Sz k a) (hb : Sz l b) : Sz (k + l) (a * b) := by
  rw [mul_divInt]
  exact divInt_sz (by have := ha.pos; omega) (natAbs_mul_lt ha.1 hb.1) (natAbs_mul_lt (i := (a.den : Int)) (j := (b.den : Int)) ha.2 hb.2)
theorem div_sz {a b : Rat} {k l : Nat} (ha : Sz k a) (hb : Sz l b) : Sz (k + l) (a / b) := by
  rw [div_divInt]
  exact divInt_sz (by have := ha.pos; omega) (natAbs_mul_lt ha.1 hb.2) (natAbs_mul_lt (i := (a.den : Int)) ha.2 hb.1)
/-- the size of a ratio -/
def rabs (q : Rat) : Rat := if q < 0 then -q else q
theorem rabs_num (q : Rat) : (rabs q).num = (q.num.natAbs : Int) := by
  unfold rabs
  split
  · rename_i h
    have : q.num < 0 := by
      have := (Rat.lt_iff q 0).mp h
      simpa using this
    rw [Rat.neg_num]
    omega
  · rename_i h
    have : ¬ q.num < 0 := fun z => h ((Rat.lt_iff q 0).mpr (by simpa using z))
    omega
theorem rabs_den (q : Rat) : (rabs q).den = q.den := by
  unfold rabs
  split
  · rfl
  · rfl
theorem rabs_sz {q : Rat} {k : Nat} (h : Sz k q) : Sz k (rabs q) := by
  refine ⟨?_, by rw [rabs_den]; exact h.2⟩
  rw [rabs_num]
  exact h.1
theorem rt_rabs (q : Rat) : rt (rabs q) = .tuple [.int (if q.num < 0 then -q.num else q.num), .int q.den] := by
  unfold rt
  rw [rabs_num, rabs_den, abs_eq]
theorem lt_num (a b : Rat) : (a.num * b.den < b.num * a.den) ↔ a < b := (Rat.lt_iff a b).symm
/-- Euclid -/
theorem gcd_step (a b : Nat) : Nat.gcd b (a % b) = Nat.gcd a b := by
  rw [Nat.gcd_comm a b, Nat.gcd_rec b a, Nat.gcd_comm]
/-- a ratio, made of its two numbers and their common divisor -/
theorem rt_made {n d : Int} (hd : d ≠ 0) : rt (Rat.divInt n d) = .tuple [.int (d.sign * n / (Nat.gcd n.natAbs d.natAbs : Int)), .int (d.sign * d / (Nat.gcd n.natAbs d.natAbs : Int))] := by
  unfold rt
  rw [Rat.num_divInt, Rat.den_divInt, if_neg hd, Int.gcd_comm d n]
  have e : (d.sign * d) = (d.natAbs : Int) := by rw [Int.sign_mul_self]
  rw [e, Int.natCast_ediv]
  rfl
theorem rt_lay (q : Rat) : (rt q).canLay0 = true := rfl
theorem rt_depth (q : Rat) : (rt q).depth = 1 := rfl
theorem rt_shaped (q : Rat) : SeqAt.shaped (rt q) = true := rfl
theorem rt_eqv (a b : Rat) : PyData.eqv (rt a) (rt b) = decide (a = b) := by
  have e : PyData.eqv (rt a) (rt b) = ((a.num == b.num) && (((a.den : Int) == (b.den : Int)) && true)) := rfl
  rw [e]
  by_cases h : a = b
  · subst h
    simp
  · rw [decide_eq_false h]
    by_cases h1 : a.num = b.num
    · have h2 : a.den ≠ b.den := fun z => h (Rat.ext h1 z)
      simp [h1]
      omega
    · simp [h1]
theorem eqD_rt (a b : Rat) : eqD (rt a) (rt b) = some (.bool (decide (a = b))) := by
  unfold eqD
  rw [if_pos ⟨rt_shaped a, rt_shaped b⟩, rt_eqv]
theorem neD_rt (a b : Rat) : neD (rt a) (rt b) = some (.bool (!decide (a = b))) := by
  unfold neD
  rw [if_pos ⟨rt_shaped a, rt_shaped b⟩, rt_eqv]
end Pd

set_option Elab.async false
set_option linter.all false
set_option maxRecDepth 100000
/-! printed by pr.py: what each def denotes -/
namespace K23
open PySem L2 Pd
noncomputable section
def c_ZERO : D := .tuple [.int 0, .int 1]
def c_ONE : D := .tuple [.int 1, .int 1]
def c_MOST_POINTS : D := .int 40
abbrev exm : Nat → Nat → Bool := exmN 2 [(0, 0), (1, 0), (1, 1)]
def b_u_law_draws : SM :=
    seqM (setM 1 (lstC aNil))
        (seqM (forM (bName 2) (itM (vr 0)) (seqM (setM 5 (opN absD (aCons (vr 2) aNil)))
        (seqM (ifS (truM (op2 ltD (vr 5) (op2 powD (cst (.int 10)) (cst (.int 18))))) (seqM (setM 6 (op2 modD (opN intD (aCons (op2 addD (op2 mulD (vr 5) (cst (.int 48271))) (cst (.int 11))) aNil)) (cst (.int 2147483647))))
        (seqM (dropM (appM (vr 1) (op2 modD (opN intD (aCons (op2 addD (op2 mulD (vr 6) (cst (.int 69621))) (vr 5)) aNil)) (cst (.int 2147483629)))))
        (seqM (dropM (appM (vr 1) (op2 modD (opN intD (aCons (op2 addD (vr 6) (op2 fdivD (vr 5) (cst (.int 7)))) aNil)) (cst (.int 1000003)))))
        (setM 5 (cst (.int 0)))))) skipM)
        (forM (bName 4) (rng1M (aCons (cst (.int 60)) aNil)) (ifS (truM (op2 gtD (vr 5) (cst (.int 0)))) (seqM (dropM (appM (vr 1) (op2 modD (opN intD (aCons (vr 5) aNil)) (cst (.int 997)))))
        (setM 5 (op2 fdivD (vr 5) (cst (.int 997))))) skipM)))))
        (seqM (setM 3 (cst (.int 1)))
        (seqM (ifS (truM (op2 gtD (scLen (vr 0)) (cst (.int 0)))) (setM 3 (op2 addD (cst (.int 1)) (opN absD (aCons (scIx (vr 0) (cst (.int 0))) aNil)))) skipM)
        (seqM (forM (bName 4) (rng1M (aCons (cst (.int 3000)) aNil)) (seqM (setM 3 (op2 modD (opN intD (aCons (op2 addD (op2 mulD (vr 3) (cst (.int 48271))) (cst (.int 69621))) aNil)) (cst (.int 2147483647))))
        (dropM (appM (vr 1) (op2 fdivD (vr 3) (cst (.int 5)))))))
        (retM (lrevC (vr 1)))))))
def d_u_law_draws : List Vl → Store → Res Vl := fnV 1 6 b_u_law_draws
def b_u_law_take : SM :=
    seqM (ifS (truM (op2 eqD (opN lenD (aCons (vr 0) aNil)) (cst (.int 0)))) (retM (cst (.int 0))) skipM)
        (retM (op2 modD (opN intD (aCons (popM (vr 0)) aNil)) (vr 1)))
def d_u_law_take : List Vl → Store → Res Vl := closeD (fnV 2 0 b_u_law_take)
def b_u_law_pick : SM :=
    retM (op2 ixD (vr 1) (callM d_u_law_take (aCons (vr 0) (aCons (opN lenD (aCons (vr 1) aNil)) aNil))))
def d_u_law_pick : List Vl → Store → Res Vl := closeD (fnV 2 0 b_u_law_pick)
def b_check : SM :=
    ifS (notT (truM (vr 0))) (raiseM 1) skipM
def d_check : List Vl → Store → Res Vl := closeD (fnV 1 0 b_check)
def b_is_integer : SM :=
    retM (andE (isiM "int" (vr 0)) (notE (isiM "bool" (vr 0))))
def d_is_integer : List Vl → Store → Res Vl := closeD (fnV 1 0 b_is_integer)
def b_shared : SM :=
    seqM (whileM (truM (op2 gtD (vr 1) (cst (.int 0)))) (parM 0 1 (aCons (vr 1) (aCons (op2 modD (vr 0) (vr 1)) aNil))))
        (retM (vr 0))
def d_shared : List Vl → Store → Res Vl := closeD (fnV 2 0 b_shared)
def b_is_ratio : SM :=
    seqM (ifS (orT (notT (truM (isiM "tuple" (vr 0)))) (orT (truM (op2 neD (opN lenD (aCons (vr 0) aNil)) (cst (.int 2)))) (orT (notT (truM (callM d_is_integer (aCons (op2 ixD (vr 0) (cst (.int 0))) aNil)))) (notT (truM (callM d_is_integer (aCons (op2 ixD (vr 0) (cst (.int 1))) aNil))))))) (retM (cst (.bool false))) skipM)
        (retM (andE (op2 gtD (op2 ixD (vr 0) (cst (.int 1))) (cst (.int 0))) (op2 eqD (callM d_shared (aCons (opN absD (aCons (op2 ixD (vr 0) (cst (.int 0))) aNil)) (aCons (op2 ixD (vr 0) (cst (.int 1))) aNil))) (cst (.int 1)))))
def d_is_ratio : List Vl → Store → Res Vl := closeD (fnV 1 0 b_is_ratio)
def b_is_below : SM :=
    retM (op2 ltD (op2 mulD (op2 ixD (vr 0) (cst (.int 0))) (op2 ixD (vr 1) (cst (.int 1)))) (op2 mulD (op2 ixD (vr 1) (cst (.int 0))) (op2 ixD (vr 0) (cst (.int 1)))))
def d_is_below : List Vl → Store → Res Vl := closeD (fnV 2 0 b_is_below)
def b_check_bound : SM :=
    dropM (callM d_check (aCons (andE (callM d_is_ratio (aCons (vr 0) aNil)) (notE (callM d_is_below (aCons (vr 0) (aCons (cst c_ZERO) aNil))))) aNil))
def d_check_bound : List Vl → Store → Res Vl := closeD (fnV 1 0 b_check_bound)
def b_is_point : SM :=
    retM (andE (isiM "tuple" (vr 0)) (andE (op2 eqD (opN lenD (aCons (vr 0) aNil)) (cst (.int 2))) (andE (callM d_is_ratio (aCons (op2 ixD (vr 0) (cst (.int 0))) aNil)) (callM d_is_ratio (aCons (op2 ixD (vr 0) (cst (.int 1))) aNil)))))
def d_is_point : List Vl → Store → Res Vl := closeD (fnV 1 0 b_is_point)
def b_is_curve : SM :=
    seqM (ifS (orT (notT (truM (isiM "tuple" (vr 0)))) (notT (truM (chM leD leD (cst (.int 2)) (opN lenD (aCons (vr 0) aNil)) (cst c_MOST_POINTS))))) (retM (cst (.bool false))) skipM)
        (seqM (ifS (notT (truM (opN allD (aCons (lcM (itM (vr 0)) (bName 2) [2] tYesM (callM d_is_point (aCons (vr 2) aNil))) aNil)))) (retM (cst (.bool false))) skipM)
        (seqM (setM 1 (opN allD (aCons (lcM (zipM (aCons (vr 0) (aCons (sliceM (vr 0) (someO (cst (.int 1))) noO) aNil))) (bTup [bName 3, bName 4]) [3, 4] tYesM (callM d_is_below (aCons (op2 ixD (vr 3) (cst (.int 0))) (aCons (op2 ixD (vr 4) (cst (.int 0))) aNil)))) aNil)))
        (retM (andE (vr 1) (andE (op2 eqD (op2 ixD (op2 ixD (vr 0) (cst (.int 0))) (cst (.int 0))) (cst c_ZERO)) (op2 eqD (op2 ixD (op2 ixD (vr 0) (op1 negD (cst (.int 1)))) (cst (.int 0))) (cst c_ONE)))))))
def d_is_curve : List Vl → Store → Res Vl := closeD (fnV 1 4 b_is_curve)
def b_made : SM :=
    seqM (setM 2 (callM d_shared (aCons (opN absD (aCons (vr 0) aNil)) (aCons (opN absD (aCons (vr 1) aNil)) aNil))))
        (seqM (setM 3 (ifE (truM (op2 gtD (vr 1) (cst (.int 0)))) (cst (.int 1)) (op1 negD (cst (.int 1)))))
        (retM (tupM (aCons (op2 fdivD (op2 mulD (vr 3) (vr 0)) (vr 2)) (aCons (op2 fdivD (op2 mulD (vr 3) (vr 1)) (vr 2)) aNil)))))
def d_made : List Vl → Store → Res Vl := closeD (fnV 2 2 b_made)
def b_share : SM :=
    retM (callM d_made (aCons (op2 mulD (op2 ixD (vr 0) (cst (.int 0))) (op2 ixD (vr 1) (cst (.int 1)))) (aCons (op2 mulD (op2 ixD (vr 0) (cst (.int 1))) (op2 ixD (vr 1) (cst (.int 0)))) aNil)))
def d_share : List Vl → Store → Res Vl := closeD (fnV 2 0 b_share)
def b_less : SM :=
    retM (callM d_made (aCons (op2 subD (op2 mulD (op2 ixD (vr 0) (cst (.int 0))) (op2 ixD (vr 1) (cst (.int 1)))) (op2 mulD (op2 ixD (vr 1) (cst (.int 0))) (op2 ixD (vr 0) (cst (.int 1))))) (aCons (op2 mulD (op2 ixD (vr 0) (cst (.int 1))) (op2 ixD (vr 1) (cst (.int 1)))) aNil)))
def d_less : List Vl → Store → Res Vl := closeD (fnV 2 0 b_less)
def b_add : SM :=
    retM (callM d_made (aCons (op2 addD (op2 mulD (op2 ixD (vr 0) (cst (.int 0))) (op2 ixD (vr 1) (cst (.int 1)))) (op2 mulD (op2 ixD (vr 1) (cst (.int 0))) (op2 ixD (vr 0) (cst (.int 1))))) (aCons (op2 mulD (op2 ixD (vr 0) (cst (.int 1))) (op2 ixD (vr 1) (cst (.int 1)))) aNil)))
def d_add : List Vl → Store → Res Vl := closeD (fnV 2 0 b_add)
def b_product : SM :=
    retM (callM d_made (aCons (op2 mulD (op2 ixD (vr 0) (cst (.int 0))) (op2 ixD (vr 1) (cst (.int 0)))) (aCons (op2 mulD (op2 ixD (vr 0) (cst (.int 1))) (op2 ixD (vr 1) (cst (.int 1)))) aNil)))
def d_product : List Vl → Store → Res Vl := closeD (fnV 2 0 b_product)
def b_size_of : SM :=
    retM (tupM (aCons (opN absD (aCons (op2 ixD (vr 0) (cst (.int 0))) aNil)) (aCons (op2 ixD (vr 0) (cst (.int 1))) aNil)))
def d_size_of : List Vl → Store → Res Vl := closeD (fnV 1 0 b_size_of)
def b_is_close : SM :=
    seqM (asgM (bTup [bTup [bName 7, bName 8], bTup [bName 9, bName 10]]) (tupM (aCons (op2 ixD (vr 0) (vr 1)) (aCons (op2 ixD (vr 0) (vr 2)) aNil))))
        (seqM (setM 4 (callM d_share (aCons (callM d_less (aCons (vr 10) (aCons (vr 8) aNil))) (aCons (callM d_less (aCons (vr 9) (aCons (vr 7) aNil))) aNil))))
        (seqM (forM (bName 5) (itM (sliceM (vr 0) (someO (op2 addD (vr 1) (cst (.int 1)))) (someO (vr 2)))) (seqM (setM 6 (callM d_add (aCons (vr 8) (aCons (callM d_product (aCons (vr 4) (aCons (callM d_less (aCons (op2 ixD (vr 5) (cst (.int 0))) (aCons (vr 7) aNil))) aNil))) aNil))))
        (ifS (truM (callM d_is_below (aCons (vr 3) (aCons (callM d_size_of (aCons (callM d_less (aCons (vr 6) (aCons (op2 ixD (vr 5) (cst (.int 1))) aNil))) aNil)) aNil)))) (retM (cst (.bool false))) skipM)))
        (retM (cst (.bool true)))))
def d_is_close : List Vl → Store → Res Vl := closeD (fnV 4 7 b_is_close)
def b_made_small : SM :=
    seqM (dropM (callM d_check (aCons (callM d_is_curve (aCons (vr 0) aNil)) aNil)))
        (seqM (dropM (callM d_check_bound (aCons (vr 1) aNil)))
        (seqM (setM 2 (op2 subD (opN lenD (aCons (vr 0) aNil)) (cst (.int 1))))
        (seqM (parGM [4, 5] (aCons (lcC (itM (vr 0)) (bName 7) [7] tYesM (lstD aNil)) (aCons (op2C repL (lstD (aCons (cst (.int 0)) aNil)) (opN lenD (aCons (vr 0) aNil))) aNil)))
        (seqM (forM (bName 3) (rngDownM (aCons (op2 subD (vr 2) (cst (.int 1))) (aCons (op1 negD (cst (.int 1))) (aCons (op1 negD (cst (.int 1))) aNil)))) (seqM (setIxM (vr 4) (vr 3) (lcM (rng2M (aCons (op2 addD (vr 3) (cst (.int 1))) (aCons (op2 addD (vr 2) (cst (.int 1))) aNil))) (bName 8) [8] (truM (callM d_is_close (aCons (vr 0) (aCons (vr 3) (aCons (vr 8) (aCons (vr 1) aNil)))))) (vr 8)))
        (setIxM (vr 5) (vr 3) (op2 addD (cst (.int 1)) (opN minD (aCons (lcM (itM (op2 ixD (vr 4) (vr 3))) (bName 8) [8] tYesM (op2 ixD (vr 5) (vr 8))) aNil))))))
        (seqM (parGM [6, 3] (aCons (lstC (aCons (op2 ixD (vr 0) (cst (.int 0))) aNil)) (aCons (cst (.int 0)) aNil)))
        (seqM (whileM (truM (op2 ltD (vr 3) (vr 2))) (seqM (setM 3 (op2 ixD (lcM (itM (op2 ixD (vr 4) (vr 3))) (bName 8) [8] (truM (op2 eqD (op2 ixD (vr 5) (vr 8)) (op2 subD (op2 ixD (vr 5) (vr 3)) (cst (.int 1))))) (vr 8)) (cst (.int 0))))
        (dropM (appM (vr 6) (op2 ixD (vr 0) (vr 3))))))
        (retM (opN tupleD (aCons (vr 6) aNil)))))))))
def d_made_small : List Vl → Store → Res Vl := closeD (fnV 2 7 b_made_small)
def b_curve_by : SM :=
    seqM (ifS (notT (truM (callM d_is_below (aCons (op2 ixD (op2 ixD (vr 0) (cst (.int 0))) (cst (.int 0))) (aCons (vr 1) aNil))))) (retM (op2 ixD (op2 ixD (vr 0) (cst (.int 0))) (cst (.int 1)))) skipM)
        (seqM (forM (bTup [bTup [bName 2, bName 3], bTup [bName 4, bName 5]]) (zipM (aCons (vr 0) (aCons (sliceM (vr 0) (someO (cst (.int 1))) noO) aNil))) (ifS (notT (truM (callM d_is_below (aCons (vr 4) (aCons (vr 1) aNil))))) (retM (callM d_add (aCons (vr 3) (aCons (callM d_product (aCons (callM d_share (aCons (callM d_less (aCons (vr 1) (aCons (vr 2) aNil))) (aCons (callM d_less (aCons (vr 4) (aCons (vr 2) aNil))) aNil))) (aCons (callM d_less (aCons (vr 5) (aCons (vr 3) aNil))) aNil))) aNil)))) skipM))
        (retM (op2 ixD (op2 ixD (vr 0) (op1 negD (cst (.int 1)))) (cst (.int 1)))))
def d_curve_by : List Vl → Store → Res Vl := closeD (fnV 2 4 b_curve_by)
def b_fault_of_curve : SM :=
    seqM (dropM (callM d_check (aCons (callM d_is_curve (aCons (vr 0) aNil)) aNil)))
        (seqM (dropM (callM d_check (aCons (callM d_is_curve (aCons (vr 1) aNil)) aNil)))
        (seqM (parM 2 3 (aCons (cst c_ZERO) (aCons (cst c_ZERO) aNil)))
        (seqM (forM (bTup [bName 4, bName 5]) (itM (tupM (aStar (vr 0) (aStar (vr 1) aNil)))) (seqM (setM 6 (callM d_size_of (aCons (callM d_less (aCons (callM d_curve_by (aCons (vr 0) (aCons (vr 4) aNil))) (aCons (callM d_curve_by (aCons (vr 1) (aCons (vr 4) aNil))) aNil))) aNil)))
        (ifS (orT (truM (callM d_is_below (aCons (vr 2) (aCons (vr 6) aNil)))) (andT (truM (op2 eqD (vr 6) (vr 2))) (truM (callM d_is_below (aCons (vr 4) (aCons (vr 3) aNil)))))) (parM 2 3 (aCons (vr 6) (aCons (vr 4) aNil))) skipM)))
        (retM (tupM (aCons (vr 2) (aCons (vr 3) aNil)))))))
def d_fault_of_curve : List Vl → Store → Res Vl := closeD (fnV 2 5 b_fault_of_curve)
def b_u_law_told : SM :=
    tryM exm (retM (ifE (truM (op2 eqD (vr 0) (cst (.int 0)))) (callM d_made_small (aCons (vr 1) (aCons (vr 2) aNil))) (callM d_fault_of_curve (aCons (vr 1) (aCons (vr 2) aNil))))) [(1, retM (tupM (aCons (cst (.str "refused")) (aCons (cst (.str "not right")) aNil)))), (0, retM (tupM (aCons (cst (.str "refused")) (aCons (cst (.str "other")) aNil))))]
def d_u_law_told : List Vl → Store → Res Vl := closeD (fnV 3 0 b_u_law_told)
def b_u_law_r : SM :=
    seqM (parM 3 4 (aCons (opN absD (aCons (vr 0) aNil)) (aCons (opN absD (aCons (vr 1) aNil)) aNil)))
        (seqM (forM (bName 2) (rng1M (aCons (cst (.int 900)) aNil)) (seqM (ifS (truM (op2 eqD (vr 4) (cst (.int 0)))) brkM skipM)
        (parM 3 4 (aCons (vr 4) (aCons (op2 modD (opN intD (aCons (vr 3) aNil)) (vr 4)) aNil)))))
        (retM (ifE (truM (op2 gtD (vr 1) (cst (.int 0)))) (tupM (aCons (op2 fdivD (vr 0) (vr 3)) (aCons (op2 fdivD (vr 1) (vr 3)) aNil))) (tupM (aCons (op2 subD (cst (.int 0)) (op2 fdivD (vr 0) (vr 3))) (aCons (op2 subD (cst (.int 0)) (op2 fdivD (vr 1) (vr 3))) aNil))))))
def d_u_law_r : List Vl → Store → Res Vl := closeD (fnV 2 3 b_u_law_r)
def b_u_law_mul : SM :=
    retM (callM d_u_law_r (aCons (op2 mulD (op2 ixD (vr 0) (cst (.int 0))) (op2 ixD (vr 1) (cst (.int 0)))) (aCons (op2 mulD (op2 ixD (vr 0) (cst (.int 1))) (op2 ixD (vr 1) (cst (.int 1)))) aNil)))
def d_u_law_mul : List Vl → Store → Res Vl := closeD (fnV 2 0 b_u_law_mul)
def b_u_law_add : SM :=
    retM (callM d_u_law_r (aCons (op2 addD (op2 mulD (op2 ixD (vr 0) (cst (.int 0))) (op2 ixD (vr 1) (cst (.int 1)))) (op2 mulD (op2 ixD (vr 1) (cst (.int 0))) (op2 ixD (vr 0) (cst (.int 1))))) (aCons (op2 mulD (op2 ixD (vr 0) (cst (.int 1))) (op2 ixD (vr 1) (cst (.int 1)))) aNil)))
def d_u_law_add : List Vl → Store → Res Vl := closeD (fnV 2 0 b_u_law_add)
def b_u_law_less : SM :=
    retM (op2 ltD (op2 mulD (op2 ixD (vr 0) (cst (.int 0))) (op2 ixD (vr 1) (cst (.int 1)))) (op2 mulD (op2 ixD (vr 1) (cst (.int 0))) (op2 ixD (vr 0) (cst (.int 1)))))
def d_u_law_less : List Vl → Store → Res Vl := closeD (fnV 2 0 b_u_law_less)
def b_u_law_long_curve : SM :=
    seqM (setM 1 (lstD (aCons (tupM (aCons (cst (.int 0)) (aCons (cst (.int 1)) aNil))) (aCons (tupM (aCons (cst (.int 1)) (aCons (cst (.int 8)) aNil))) (aCons (tupM (aCons (cst (.int 1)) (aCons (cst (.int 4)) aNil))) (aCons (tupM (aCons (cst (.int 1)) (aCons (cst (.int 3)) aNil))) (aCons (tupM (aCons (cst (.int 1)) (aCons (cst (.int 2)) aNil))) (aCons (tupM (aCons (cst (.int 2)) (aCons (cst (.int 3)) aNil))) (aCons (tupM (aCons (cst (.int 3)) (aCons (cst (.int 4)) aNil))) (aCons (tupM (aCons (cst (.int 7)) (aCons (cst (.int 8)) aNil))) aNil))))))))))
        (seqM (setM 1 (op2 addD (op2 addD (lstD (aCons (tupM (aCons (cst (.int 0)) (aCons (cst (.int 1)) aNil))) aNil)) (lcM (itM (sliceM (vr 1) (someO (cst (.int 1))) noO)) (bName 4) [4] (truM (op2 ltD (callM d_u_law_take (aCons (vr 0) (aCons (cst (.int 5)) aNil))) (cst (.int 4)))) (vr 4))) (lstD (aCons (tupM (aCons (cst (.int 1)) (aCons (cst (.int 1)) aNil))) aNil))))
        (seqM (setM 2 (callM d_u_law_take (aCons (vr 0) (aCons (cst (.int 4)) aNil))))
        (seqM (ifS (truM (op2 eqD (vr 2) (cst (.int 0)))) (retM (opN tupleD (aCons (lcM (itM (vr 1)) (bName 4) [4] tYesM (tupM (aCons (vr 4) (aCons (callM d_u_law_mul (aCons (vr 4) (aCons (tupM (aCons (cst (.int 1)) (aCons (cst (.int 2)) aNil))) aNil))) aNil)))) aNil))) skipM)
        (seqM (ifS (truM (op2 eqD (vr 2) (cst (.int 1)))) (retM (opN tupleD (aCons (lcM (itM (vr 1)) (bName 4) [4] tYesM (tupM (aCons (vr 4) (aCons (ifE (truM (callM d_u_law_less (aCons (vr 4) (aCons (tupM (aCons (cst (.int 1)) (aCons (cst (.int 2)) aNil))) aNil)))) (vr 4) (tupM (aCons (cst (.int 1)) (aCons (cst (.int 2)) aNil)))) aNil)))) aNil))) skipM)
        (seqM (setM 3 (lstD (aCons (tupM (aCons (cst (.int 0)) (aCons (cst (.int 1)) aNil))) (aCons (tupM (aCons (cst (.int 1)) (aCons (cst (.int 1)) aNil))) (aCons (tupM (aCons (cst (.int 1)) (aCons (cst (.int 2)) aNil))) (aCons (tupM (aCons (cst (.int 1)) (aCons (cst (.int 4)) aNil))) (aCons (tupM (aCons (op1 negD (cst (.int 1))) (aCons (cst (.int 3)) aNil))) (aCons (tupM (aCons (cst (.int 5)) (aCons (cst (.int 4)) aNil))) (aCons (tupM (aCons (cst (.int 2)) (aCons (cst (.int 5)) aNil))) (aCons (tupM (aCons (cst (.int 3)) (aCons (cst (.int 7)) aNil))) aNil))))))))))
        (retM (opN tupleD (aCons (lcM (itM (vr 1)) (bName 4) [4] tYesM (tupM (aCons (vr 4) (aCons (ifE (truM (op2 eqD (vr 2) (cst (.int 2)))) (callM d_u_law_add (aCons (vr 4) (aCons (callM d_u_law_mul (aCons (callM d_u_law_pick (aCons (vr 0) (aCons (vr 3) aNil))) (aCons (tupM (aCons (cst (.int 1)) (aCons (cst (.int 5)) aNil))) aNil))) aNil))) (callM d_u_law_pick (aCons (vr 0) (aCons (vr 3) aNil)))) aNil)))) aNil))))))))
def d_u_law_long_curve : List Vl → Store → Res Vl := closeD (fnV 1 4 b_u_law_long_curve)
def b_u_law_sub : SM :=
    retM (callM d_u_law_r (aCons (op2 subD (op2 mulD (op2 ixD (vr 0) (cst (.int 0))) (op2 ixD (vr 1) (cst (.int 1)))) (op2 mulD (op2 ixD (vr 1) (cst (.int 0))) (op2 ixD (vr 0) (cst (.int 1))))) (aCons (op2 mulD (op2 ixD (vr 0) (cst (.int 1))) (op2 ixD (vr 1) (cst (.int 1)))) aNil)))
def d_u_law_sub : List Vl → Store → Res Vl := closeD (fnV 2 0 b_u_law_sub)
def b_u_law_on_curve : SM :=
    seqM (ifS (truM (op2 ltD (op2 ixD (vr 1) (cst (.int 0))) (cst (.int 0)))) (retM (op2 ixD (op2 ixD (vr 0) (cst (.int 0))) (cst (.int 1)))) skipM)
        (seqM (forM (bName 2) (rng1M (aCons (op2 subD (opN lenD (aCons (vr 0) aNil)) (cst (.int 1))) aNil)) (seqM (asgM (bTup [bTup [bName 3, bName 4], bTup [bName 5, bName 6]]) (tupM (aCons (op2 ixD (vr 0) (vr 2)) (aCons (op2 ixD (vr 0) (op2 addD (vr 2) (cst (.int 1)))) aNil))))
        (ifS (notT (truM (callM d_u_law_less (aCons (vr 5) (aCons (vr 1) aNil))))) (seqM (parM 7 8 (aCons (callM d_u_law_mul (aCons (callM d_u_law_sub (aCons (vr 1) (aCons (vr 3) aNil))) (aCons (callM d_u_law_sub (aCons (vr 6) (aCons (vr 4) aNil))) aNil))) (aCons (callM d_u_law_sub (aCons (vr 5) (aCons (vr 3) aNil))) aNil)))
        (retM (callM d_u_law_add (aCons (vr 4) (aCons (callM d_u_law_r (aCons (op2 mulD (op2 ixD (vr 7) (cst (.int 0))) (op2 ixD (vr 8) (cst (.int 1)))) (aCons (op2 mulD (op2 ixD (vr 7) (cst (.int 1))) (op2 ixD (vr 8) (cst (.int 0)))) aNil))) aNil))))) skipM)))
        (retM (op2 ixD (op2 ixD (vr 0) (op2 subD (opN lenD (aCons (vr 0) aNil)) (cst (.int 1)))) (cst (.int 1)))))
def d_u_law_on_curve : List Vl → Store → Res Vl := closeD (fnV 2 7 b_u_law_on_curve)
def b_u_law_off : SM :=
    seqM (parGM [3, 4] (aCons (cst .none) (aCons (cst .none) aNil)))
        (seqM (forM (bName 2) (itM (op2 addD (lcM (itM (vr 0)) (bName 6) [6] tYesM (op2 ixD (vr 6) (cst (.int 0)))) (lcM (itM (vr 1)) (bName 6) [6] tYesM (op2 ixD (vr 6) (cst (.int 0)))))) (seqM (setM 5 (callM d_u_law_sub (aCons (callM d_u_law_on_curve (aCons (vr 0) (aCons (vr 2) aNil))) (aCons (callM d_u_law_on_curve (aCons (vr 1) (aCons (vr 2) aNil))) aNil))))
        (seqM (setM 5 (tupM (aCons (opN absD (aCons (op2 ixD (vr 5) (cst (.int 0))) aNil)) (aCons (op2 ixD (vr 5) (cst (.int 1))) aNil))))
        (ifS (orT (truM (op2 isND (vr 3) (cst .none))) (orT (truM (callM d_u_law_less (aCons (vr 3) (aCons (vr 5) aNil)))) (andT (truM (op2 eqD (vr 3) (vr 5))) (truM (callM d_u_law_less (aCons (vr 2) (aCons (vr 4) aNil))))))) (parM 3 4 (aCons (vr 5) (aCons (vr 2) aNil))) skipM))))
        (retM (tupM (aCons (vr 3) (aCons (vr 4) aNil)))))
def d_u_law_off : List Vl → Store → Res Vl := closeD (fnV 2 5 b_u_law_off)
def b_u_law_rows (g : List Vl → Store → Res Vl) : SM :=
    seqM (ifS (truM (op2 eqD (vr 1) (cst (.int 0)))) (retM (lstD (aCons (tupM aNil) aNil))) skipM)
        (seqM (setM 3 (lstD aNil))
        (seqM (forM (bName 4) (rng2M (aCons (vr 2) (aCons (vr 0) aNil))) (setM 3 (op2 addD (vr 3) (lcM (itM (callM g (aCons (vr 0) (aCons (op2 subD (vr 1) (cst (.int 1))) (aCons (op2 addD (vr 4) (cst (.int 1))) aNil))))) (bName 5) [5] tYesM (op2 addD (tupM (aCons (vr 4) aNil)) (vr 5))))))
        (retM (vr 3))))
def d_u_law_rows : Nat → List Vl → Store → Res Vl
  | 0 => fun _ _ => .no
  | k + 1 => closeD (fnV 3 3 (b_u_law_rows (d_u_law_rows k)))
def b_u_law_small : SM :=
    seqM (forM (bName 2) (rng1M (aCons (op2 subD (opN lenD (aCons (vr 0) aNil)) (cst (.int 1))) aNil)) (forM (bName 3) (itM (callM (d_u_law_rows 20) (aCons (op2 subD (opN lenD (aCons (vr 0) aNil)) (cst (.int 1))) (aCons (vr 2) (aCons (cst (.int 1)) aNil))))) (seqM (setM 4 (op2 addD (op2 addD (sliceM (vr 0) noO (someO (cst (.int 1)))) (opN tupleD (aCons (lcM (itM (vr 3)) (bName 5) [5] tYesM (op2 ixD (vr 0) (vr 5))) aNil))) (sliceM (vr 0) (someO (op1 negD (cst (.int 1)))) noO)))
        (ifS (notT (truM (callM d_u_law_less (aCons (vr 1) (aCons (op2 ixD (callM d_u_law_off (aCons (vr 0) (aCons (vr 4) aNil))) (cst (.int 0))) aNil))))) (retM (vr 4)) skipM))))
        (retM (vr 0))
def d_u_law_small : List Vl → Store → Res Vl := closeD (fnV 2 4 b_u_law_small)
def b_on_curve : SM :=
    seqM (dropM (callM d_check (aCons (callM d_is_curve (aCons (vr 0) aNil)) aNil)))
        (seqM (dropM (callM d_check (aCons (callM d_is_ratio (aCons (vr 1) aNil)) aNil)))
        (retM (callM d_curve_by (aCons (vr 0) (aCons (vr 1) aNil)))))
def d_on_curve : List Vl → Store → Res Vl := closeD (fnV 2 0 b_on_curve)
def b_law : SM :=
    seqM (setM 1 (callM d_u_law_draws (aCons (vr 0) aNil)))
        (seqM (forM (bName 2) (rng1M (aCons (cst (.int 6)) aNil)) (seqM (parM 10 11 (aCons (callM d_u_law_long_curve (aCons (vr 1) aNil)) (aCons (callM d_u_law_long_curve (aCons (vr 1) aNil)) aNil)))
        (seqM (ifS (orT (notT (truM (callM d_is_curve (aCons (vr 10) aNil)))) (orT (truM (op2 neD (callM d_u_law_told (aCons (cst (.int 1)) (aCons (vr 10) (aCons (vr 11) aNil)))) (callM d_u_law_off (aCons (vr 10) (aCons (vr 11) aNil))))) (truM (op2 neD (callM d_u_law_told (aCons (cst (.int 1)) (aCons (vr 10) (aCons (vr 10) aNil)))) (tupM (aCons (tupM (aCons (cst (.int 0)) (aCons (cst (.int 1)) aNil))) (aCons (tupM (aCons (cst (.int 0)) (aCons (cst (.int 1)) aNil))) aNil))))))) (retM (cst (.bool false))) skipM)
        (seqM (setM 3 (callM d_u_law_pick (aCons (vr 1) (aCons (lstD (aCons (tupM (aCons (cst (.int 0)) (aCons (cst (.int 1)) aNil))) (aCons (tupM (aCons (cst (.int 1)) (aCons (cst (.int 10)) aNil))) (aCons (tupM (aCons (cst (.int 1)) (aCons (cst (.int 4)) aNil))) (aCons (tupM (aCons (cst (.int 1)) (aCons (cst (.int 20)) aNil))) (aCons (tupM (aCons (cst (.int 1)) (aCons (cst (.int 2)) aNil))) (aCons (tupM (aCons (cst (.int 3)) (aCons (cst (.int 1)) aNil))) aNil))))))) aNil))))
        (seqM (setM 4 (callM d_u_law_told (aCons (cst (.int 0)) (aCons (vr 10) (aCons (vr 3) aNil)))))
        (seqM (ifS (orT (truM (op2 neD (vr 4) (callM d_u_law_small (aCons (vr 10) (aCons (vr 3) aNil))))) (orT (truM (callM d_u_law_less (aCons (vr 3) (aCons (op2 ixD (callM d_u_law_off (aCons (vr 10) (aCons (vr 4) aNil))) (cst (.int 0))) aNil)))) (truM (op2 neD (callM d_u_law_told (aCons (cst (.int 0)) (aCons (vr 10) (aCons (tupM (aCons (cst (.int 9)) (aCons (cst (.int 1)) aNil))) aNil)))) (tupM (aCons (op2 ixD (vr 10) (cst (.int 0))) (aCons (op2 ixD (vr 10) (op1 negD (cst (.int 1)))) aNil))))))) (retM (cst (.bool false))) skipM)
        (seqM (setM 5 (callM d_u_law_told (aCons (cst (.int 0)) (aCons (vr 10) (aCons (tupM (aCons (cst (.int 0)) (aCons (cst (.int 1)) aNil))) aNil)))))
        (seqM (forM (bName 6) (rng1M (aCons (cst (.int 9)) aNil)) (ifS (truM (op2 neD (callM d_on_curve (aCons (vr 5) (aCons (callM d_u_law_r (aCons (vr 6) (aCons (cst (.int 8)) aNil))) aNil))) (callM d_u_law_on_curve (aCons (vr 10) (aCons (callM d_u_law_r (aCons (vr 6) (aCons (cst (.int 8)) aNil))) aNil))))) (retM (cst (.bool false))) skipM))
        (seqM (ifS (orT (truM (op2 neD (callM d_u_law_told (aCons (cst (.int 0)) (aCons (vr 5) (aCons (tupM (aCons (cst (.int 0)) (aCons (cst (.int 1)) aNil))) aNil)))) (vr 5))) (truM (op2 gtD (opN lenD (aCons (vr 4) aNil)) (opN lenD (aCons (vr 5) aNil))))) (retM (cst (.bool false))) skipM)
        (seqM (setM 7 (callM d_u_law_pick (aCons (vr 1) (aCons (lstD (aCons (cst .none) (aCons (tupM aNil) (aCons (sliceM (vr 10) (someO (cst (.int 1))) noO) (aCons (sliceM (vr 10) noO (someO (cst (.int 1)))) (aCons (op2 addD (vr 10) (sliceM (vr 10) (someO (op1 negD (cst (.int 1)))) noO)) (aCons (opN listD (aCons (vr 10) aNil)) (aCons (tupM (aCons (op2 ixD (vr 10) (cst (.int 0))) (aCons (tupM (aCons (cst (.int 1)) (aCons (cst (.int 1)) aNil))) aNil))) aNil)))))))) aNil))))
        (seqM (setM 8 (callM d_u_law_pick (aCons (vr 1) (aCons (lstD (aCons (cst .none) (aCons (cst (.int 1)) (aCons (tupM (aCons (op1 negD (cst (.int 1))) (aCons (cst (.int 4)) aNil))) (aCons (tupM (aCons (cst (.int 2)) (aCons (cst (.int 4)) aNil))) (aCons (tupM (aCons (cst (.int 1)) (aCons (cst (.int 0)) aNil))) aNil)))))) aNil))))
        (seqM (setM 9 (lstD (aCons (callM d_u_law_told (aCons (cst (.int 0)) (aCons (vr 7) (aCons (tupM (aCons (cst (.int 1)) (aCons (cst (.int 2)) aNil))) aNil)))) (aCons (callM d_u_law_told (aCons (cst (.int 0)) (aCons (vr 10) (aCons (vr 8) aNil)))) (aCons (callM d_u_law_told (aCons (cst (.int 1)) (aCons (vr 7) (aCons (vr 10) aNil)))) (aCons (callM d_u_law_told (aCons (cst (.int 1)) (aCons (vr 10) (aCons (vr 7) aNil)))) aNil))))))
        (ifS (truM (op2 neD (vr 9) (op2 mulD (lstD (aCons (tupM (aCons (cst (.str "refused")) (aCons (cst (.str "not right")) aNil))) aNil)) (cst (.int 4))))) (retM (cst (.bool false))) skipM)))))))))))))
        (retM (cst (.bool true))))
def d_law : List Vl → Store → Res Vl := closeD (fnV 1 11 b_law)
end
end K23

set_option Elab.async false
set_option linter.all false
set_option maxRecDepth 100000
set_option maxHeartbeats 4000000
/-! RtK: what the ratio defs compute. -/
namespace K23
open PySem L2 Pd
theorem shared_loop (b : Nat) : ∀ (a : Nat) (st : Store), ∃ n, whileN (truM (op2 gtD (vr 1) (cst (.int 0)))) (parM 0 1 (aCons (vr 1) (aCons (op2 modD (vr 0) (vr 1)) aNil))) n [some (.dat (.int a)), some (.dat (.int b))] st = .nx [some (.dat (.int (Nat.gcd a b))), some (.dat (.int 0))] st := by
  induction b using Nat.strongRecOn with
  | ind b ih =>
    intro a st
    by_cases h : b = 0
    · subst h
      exact ⟨1, by simp [whileN]⟩
    · obtain ⟨n, hn⟩ := ih (a % b) (Nat.mod_lt _ (by omega)) b st
      refine ⟨n + 1, ?_⟩
      have h2 : (0 : Int) < (b : Int) := by omega
      have h3 : 0 < b := by omega
      rw [gcd_step] at hn
      simp [whileN, h2, h3]
      exact hn
theorem shared_run (a b : Nat) (st : Store) : d_shared [.dat (.int a), .dat (.int b)] st = .ok (.dat (.int (Nat.gcd a b))) st := by
  refine call_rt rfl ?_
  obtain ⟨n, hn⟩ := shared_loop b a st
  show seqM _ _ _ _ = _
  simp only [seqO_nx, seqO_rt, seqO_exc, optO_some, cnd_true, cnd_false, parO_two, loopO_nx, loopO_rt, loopO_bk, ev_seqM]
  rw [show ((List.map some [Vl.dat (.int a), Vl.dat (.int b)]) ++ List.replicate 0 none) = [some (.dat (.int a)), some (.dat (.int b))] from rfl, whileM_eq hn (by simp)]
  simp
theorem made_run {n d : Int} (st : Store) (hn : n.natAbs < 2 ^ 4000) (h0 : d ≠ 0) (hd : d.natAbs < 2 ^ 4000) : d_made [.dat (.int n), .dat (.int d)] st = .ok (.dat (rt (Rat.divInt n d))) st := by
  have hs : (if 0 < d then (1 : Int) else -1) = d.sign := by
    split
    · rw [Int.sign_eq_one_of_pos (by assumption)]
    · rw [Int.sign_eq_neg_one_of_neg (by omega)]
  have hg0 : 0 < Nat.gcd n.natAbs d.natAbs := Nat.gcd_pos_of_pos_right _ (by omega)
  have hg : ((Nat.gcd n.natAbs d.natAbs : Nat) : Int).natAbs < 2 ^ 4000 := Nat.lt_of_le_of_lt (Nat.gcd_le_right _ (by omega)) hd
  have hq : divOk ((Nat.gcd n.natAbs d.natAbs : Nat) : Int) = true := divOk_lt (by omega) hg (by decide)
  have hsl : d.sign.natAbs < 2 ^ 1 := by rw [Int.natAbs_sign]; split <;> decide
  have m1 : mulOk d.sign n = true := mulOk_lt hsl hn (by decide)
  have m2 : mulOk d.sign d = true := mulOk_lt hsl hd (by decide)
  rw [rt_made h0]
  refine call_rt rfl ?_
  have e := shared_run n.natAbs d.natAbs st
  have hs2 : cnd (decide (0 < d)) (Res.ok (Vl.dat (PyData.int 1)) st) (Res.ok (Vl.dat (PyData.int (-1))) st) = Res.ok (Vl.dat (PyData.int d.sign)) st := by
    rw [← hs]
    by_cases h : 0 < d
    · rw [decide_eq_true h, if_pos h]
      rfl
    · rw [decide_eq_false h, if_neg h]
      rfl
  have e6 : (2 : Nat) ≤ sizeLine := by decide
  simp only [seqO_nx, seqO_rt, seqO_exc, optO_some, cnd_true, cnd_false, parO_two, loopO_nx, loopO_rt, loopO_bk, b_made, List.map_cons, List.map_nil, List.replicate, List.cons_append, List.nil_append, ev_seqM, ev_setM, ev_callM, ev_aCons, ev_aNil, ev_opN, ev_vr, List.getElem?_cons_zero, List.getElem?_cons_succ, Res.bind_ok, apN1, absD_int, ofO_some, abs_eq, e, bindS_ok, List.set, ev_ifE, ev_truM, ev_op2, ev_op1, ev_cst, ap2_dat, gtD_int, peek_dat, truD_bool, negD_int, hs2, ev_retM, ev_tupM, mulD_int, m1, m2, if_true, fdivD_int, hq, toDs_cons, toDs_nil, toD_dat, List.length_cons, List.length_nil, Nat.zero_add, e6]
theorem add_run {a b : Rat} (st : Store) (ha : Sz 1000 a) (hb : Sz 1000 b) : d_add [.dat (rt a), .dat (rt b)] st = .ok (.dat (rt (a + b))) st := by
  refine call_rt rfl ?_
  have d1 := den_ne a
  have d2 := den_ne b
  have e := made_run (n := a.num * b.den + b.num * a.den) (d := a.den * b.den) st (Nat.lt_of_lt_of_le (natAbs_add_lt (natAbs_mul_lt ha.1 hb.2) (natAbs_mul_lt hb.1 ha.2)) (Nat.pow_le_pow_right (by decide) (by decide))) (Int.mul_ne_zero d1 d2) (Nat.lt_of_lt_of_le (natAbs_mul_lt (i := (a.den : Int)) ha.2 hb.2) (Nat.pow_le_pow_right (by decide) (by decide)))
  have m1 : mulOk a.num b.den = true := mulOk_lt ha.1 hb.2 (by decide)
  have m2 : mulOk b.num a.den = true := mulOk_lt hb.1 ha.2 (by decide)
  have m3 : mulOk a.den b.den = true := mulOk_lt (i := (a.den : Int)) ha.2 hb.2 (by decide)
  rw [add_divInt]
  simp [b_add, rt, m1, m2, m3, e]
theorem less_run {a b : Rat} (st : Store) (ha : Sz 1000 a) (hb : Sz 1000 b) : d_less [.dat (rt a), .dat (rt b)] st = .ok (.dat (rt (a - b))) st := by
  refine call_rt rfl ?_
  have d1 := den_ne a
  have d2 := den_ne b
  have e := made_run (n := a.num * b.den - b.num * a.den) (d := a.den * b.den) st (Nat.lt_of_lt_of_le (natAbs_sub_lt (natAbs_mul_lt ha.1 hb.2) (natAbs_mul_lt hb.1 ha.2)) (Nat.pow_le_pow_right (by decide) (by decide))) (Int.mul_ne_zero d1 d2) (Nat.lt_of_lt_of_le (natAbs_mul_lt (i := (a.den : Int)) ha.2 hb.2) (Nat.pow_le_pow_right (by decide) (by decide)))
  have m1 : mulOk a.num b.den = true := mulOk_lt ha.1 hb.2 (by decide)
  have m2 : mulOk b.num a.den = true := mulOk_lt hb.1 ha.2 (by decide)
  have m3 : mulOk a.den b.den = true := mulOk_lt (i := (a.den : Int)) ha.2 hb.2 (by decide)
  rw [sub_divInt]
  simp [b_less, rt, m1, m2, m3, e]
theorem product_run {a b : Rat} (st : Store) (ha : Sz 1000 a) (hb : Sz 1000 b) : d_product [.dat (rt a), .dat (rt b)] st = .ok (.dat (rt (a * b))) st := by
  refine call_rt rfl ?_
  have d1 := den_ne a
  have d2 := den_ne b
  have e := made_run (n := a.num * b.num) (d := a.den * b.den) st (Nat.lt_of_lt_of_le (natAbs_mul_lt ha.1 hb.1) (Nat.pow_le_pow_right (by decide) (by decide))) (Int.mul_ne_zero d1 d2) (Nat.lt_of_lt_of_le (natAbs_mul_lt (i := (a.den : Int)) ha.2 hb.2) (Nat.pow_le_pow_right (by decide) (by decide)))
  have m1 : mulOk a.num b.num = true := mulOk_lt ha.1 hb.1 (by decide)
  have m3 : mulOk a.den b.den = true := mulOk_lt (i := (a.den : Int)) ha.2 hb.2 (by decide)
  rw [mul_divInt]
  simp [b_product, rt, m1, m3, e]
theorem num_ne {b : Rat} (h : b ≠ 0) : b.num ≠ 0 := fun z => h (Rat.num_eq_zero.mp z)
theorem share_run {a b : Rat} (st : Store) (ha : Sz 1000 a) (hb : Sz 1000 b) (h0 : b ≠ 0) : d_share [.dat (rt a), .dat (rt b)] st = .ok (.dat (rt (a / b))) st := by
  refine call_rt rfl ?_
  have d1 := den_ne a
  have d2 := num_ne h0
  have e := made_run (n := a.num * b.den) (d := a.den * b.num) st (Nat.lt_of_lt_of_le (natAbs_mul_lt ha.1 hb.2) (Nat.pow_le_pow_right (by decide) (by decide))) (Int.mul_ne_zero d1 d2) (Nat.lt_of_lt_of_le (natAbs_mul_lt (i := (a.den : Int)) ha.2 hb.1) (Nat.pow_le_pow_right (by decide) (by decide)))
  have m1 : mulOk a.num b.den = true := mulOk_lt ha.1 hb.2 (by decide)
  have m3 : mulOk a.den b.num = true := mulOk_lt (i := (a.den : Int)) ha.2 hb.1 (by decide)
  rw [div_divInt]
  simp [b_share, rt, m1, m3, e]
theorem below_run {a b : Rat} (st : Store) (ha : Sz 1000 a) (hb : Sz 1000 b) : d_is_below [.dat (rt a), .dat (rt b)] st = .ok (.dat (.bool (decide (a < b)))) st := by
  refine call_rt rfl ?_
  have m1 : mulOk a.num b.den = true := mulOk_lt ha.1 hb.2 (by decide)
  have m2 : mulOk b.num a.den = true := mulOk_lt hb.1 ha.2 (by decide)
  simp [b_is_below, rt, m1, m2, lt_num]
theorem lless_run {a b : Rat} (st : Store) (ha : Sz 1000 a) (hb : Sz 1000 b) : d_u_law_less [.dat (rt a), .dat (rt b)] st = .ok (.dat (.bool (decide (a < b)))) st := by
  refine call_rt rfl ?_
  have m1 : mulOk a.num b.den = true := mulOk_lt ha.1 hb.2 (by decide)
  have m2 : mulOk b.num a.den = true := mulOk_lt hb.1 ha.2 (by decide)
  simp [b_u_law_less, rt, m1, m2, lt_num]
theorem size_run (a : Rat) (st : Store) : d_size_of [.dat (rt a)] st = .ok (.dat (rt (rabs a))) st := by
  refine call_rt rfl ?_
  have e : (2 : Nat) ≤ sizeLine := by decide
  rw [rt_rabs]
  simp [b_size_of, rt, e]
theorem isint_run (i : Int) (st : Store) : d_is_integer [.dat (.int i)] st = .ok (.dat (.bool true)) st := by
  refine call_rt rfl ?_
  simp [b_is_integer]
theorem isratio_run (q : Rat) (st : Store) : d_is_ratio [.dat (rt q)] st = .ok (.dat (.bool true)) st := by
  refine call_rt rfl ?_
  have e := shared_run q.num.natAbs q.den st
  have h : Nat.gcd q.num.natAbs q.den = 1 := q.reduced
  rw [h] at e
  have hp := q.den_pos
  simp [b_is_ratio, rt, isint_run, abs_eq, e, hp]
theorem check_run (st : Store) : d_check [.dat (.bool true)] st = .ok (.dat .none) st := by
  refine call_nx (s' := [some (.dat (.bool true))]) rfl ?_
  simp [b_check]
theorem check_bad (st : Store) : d_check [.dat (.bool false)] st = .exc 1 none st := by
  refine call_exc (s' := [some (.dat (.bool false))]) rfl ?_
  simp [b_check]
theorem zero_rt : c_ZERO = rt 0 := rfl
theorem one_rt : c_ONE = rt 1 := rfl
theorem zero_sz : Sz 1 0 := ⟨by decide, by decide⟩
theorem checkbound_run {q : Rat} (st : Store) (hq : Sz 1000 q) (h : 0 ≤ q) : d_check_bound [.dat (rt q)] st = .ok (.dat .none) st := by
  refine call_nx (s' := [some (.dat (rt q))]) rfl ?_
  have e := below_run st hq (zero_sz.mono (by decide : 1 ≤ 1000))
  have h2 : ¬ q < 0 := Rat.not_lt.mpr h
  simp [b_check_bound, zero_rt, isratio_run, e, h2, check_run]
/-! the law's own ratios -/
theorem r_loop (n d : Int) (st : Store) : ∀ (k a b : Nat) (ds : List D) (o : Option Vl), b ≤ a → a * b < 2 ^ k → k ≤ ds.length →
    ∃ o', loopM (tgM (bName 2) (seqM (ifS (truM (op2 eqD (vr 4) (cst (.int 0)))) brkM skipM)
        (parM 3 4 (aCons (vr 4) (aCons (op2 modD (opN intD (aCons (vr 3) aNil)) (vr 4)) aNil))))) ds [some (.dat (.int n)), some (.dat (.int d)), o, some (.dat (.int a)), some (.dat (.int b))] st
      = .nx [some (.dat (.int n)), some (.dat (.int d)), o', some (.dat (.int (Nat.gcd a b))), some (.dat (.int 0))] st := by
  have zero : ∀ (a : Nat) (ds : List D) (o : Option Vl), ∃ o', loopM (tgM (bName 2) (seqM (ifS (truM (op2 eqD (vr 4) (cst (.int 0)))) brkM skipM)
        (parM 3 4 (aCons (vr 4) (aCons (op2 modD (opN intD (aCons (vr 3) aNil)) (vr 4)) aNil))))) ds [some (.dat (.int n)), some (.dat (.int d)), o, some (.dat (.int a)), some (.dat (.int (0 : Nat)))] st
      = .nx [some (.dat (.int n)), some (.dat (.int d)), o', some (.dat (.int (Nat.gcd a 0))), some (.dat (.int 0))] st := by
    intro a ds o
    cases ds with
    | nil => exact ⟨o, by simp⟩
    | cons x r => exact ⟨some (.dat x), by simp [loopM_cons]⟩
  intro k
  induction k with
  | zero =>
    intro a b ds o h1 h2 h3
    have hb : b = 0 := by
      rcases Nat.eq_zero_or_pos b with h | h
      · exact h
      · have := Nat.mul_pos (Nat.lt_of_lt_of_le h h1) h
        simp at h2
        omega
    subst hb
    exact zero a ds o
  | succ k ih =>
    intro a b ds o h1 h2 h3
    by_cases hb : b = 0
    · subst hb
      exact zero a ds o
    · cases ds with
      | nil => simp at h3
      | cons x r =>
        have hm : a % b < b := Nat.mod_lt _ (by omega)
        have h4 : b * (a % b) < 2 ^ k := by
          have h5 : 2 * (a % b) ≤ a := by
            have h6 := Nat.div_add_mod a b
            have h7 : 1 ≤ a / b := Nat.div_pos h1 (by omega)
            have h8 : b * 1 ≤ b * (a / b) := Nat.mul_le_mul_left _ h7
            omega
          have h9 : b * (2 * (a % b)) ≤ b * a := Nat.mul_le_mul_left _ h5
          rw [Nat.mul_comm a b, Nat.pow_succ] at h2
          have h10 : b * (2 * (a % b)) = 2 * (b * (a % b)) := Nat.mul_left_comm ..
          omega
        obtain ⟨o', e⟩ := ih b (a % b) r (some (.dat x)) (by omega) h4 (by simpa using h3)
        refine ⟨o', ?_⟩
        rw [gcd_step] at e
        rw [← e]
        have h5 : 0 < b := by omega
        have h6 : ¬ ((b : Int) = 0) := by omega
        simp [loopM_cons, h5, hb]
theorem rr_run {n d : Int} (st : Store) (hn : n.natAbs < 2 ^ 400) (h0 : d ≠ 0) (hd : d.natAbs < 2 ^ 400) : d_u_law_r [.dat (.int n), .dat (.int d)] st = .ok (.dat (rt (Rat.divInt n d))) st := by
  refine call_rt rfl ?_
  have hg0 : 0 < Nat.gcd n.natAbs d.natAbs := Nat.gcd_pos_of_pos_right _ (by omega)
  have hg : ((Nat.gcd n.natAbs d.natAbs : Nat) : Int).natAbs < 2 ^ 400 := Nat.lt_of_le_of_lt (Nat.gcd_le_right _ (by omega)) hd
  have hq : divOk ((Nat.gcd n.natAbs d.natAbs : Nat) : Int) = true := divOk_lt (by omega) hg (by decide)
  have e6 : (2 : Nat) ≤ sizeLine := by decide
  have hL : ∃ o', loopM (tgM (bName 2) (seqM (ifS (truM (op2 eqD (vr 4) (cst (.int 0)))) brkM skipM)
        (parM 3 4 (aCons (vr 4) (aCons (op2 modD (opN intD (aCons (vr 3) aNil)) (vr 4)) aNil))))) (rngD 0 900 1) [some (.dat (.int n)), some (.dat (.int d)), none, some (.dat (.int n.natAbs)), some (.dat (.int d.natAbs))] st
      = .nx [some (.dat (.int n)), some (.dat (.int d)), o', some (.dat (.int (Nat.gcd n.natAbs d.natAbs))), some (.dat (.int 0))] st := by
    have hp : n.natAbs * d.natAbs < 2 ^ 800 := by
      rw [show (800 : Nat) = 400 + 400 from rfl, Nat.pow_add]
      exact Nat.mul_lt_mul'' hn hd
    by_cases h : d.natAbs ≤ n.natAbs
    · exact r_loop n d st 800 _ _ _ none h hp (by rw [rngD_len]; decide)
    · have e9 : rngD 0 900 1 = .int 0 :: (rngD 0 900 1).tail := by rfl
      obtain ⟨o', e⟩ := r_loop n d st 800 d.natAbs n.natAbs (rngD 0 900 1).tail (some (.dat (.int 0))) (by omega) (by rw [Nat.mul_comm]; exact hp) (by rw [List.length_tail, rngD_len]; decide)
      refine ⟨o', ?_⟩
      rw [Nat.gcd_comm] at e
      rw [e9, ← e]
      have h5 : 0 < d.natAbs := by omega
      have h7 : ¬ (d.natAbs = 0) := by omega
      have h6 : ((n.natAbs : Int) % (d.natAbs : Int)) = (n.natAbs : Int) := Int.emod_eq_of_lt (by omega) (by omega)
      simp only [seqO_nx, seqO_rt, seqO_exc, optO_some, cnd_true, cnd_false, parO_two, loopO_nx, loopO_rt, loopO_bk, loopM_cons, ev_tgM, ev_bName, ev_seqM, ev_ifS, ev_truM, ev_op2, ev_vr, List.set, List.getElem?_cons_zero, List.getElem?_cons_succ, Res.bind_ok, ev_cst, ap2_dat, eqD_int, ofO_some, peek_dat, truD_bool, bindS_ok, decide_eq_true_eq]
      rw [decide_eq_false (by omega : ¬ ((d.natAbs : Int) = 0))]
      simp only [seqO_nx, seqO_rt, seqO_exc, optO_some, cnd_true, cnd_false, parO_two, loopO_nx, loopO_rt, loopO_bk, ev_skipM, ev_parM, ev_aCons, ev_aNil, ev_vr, ev_op2, ev_opN, List.set, List.getElem?_cons_zero, List.getElem?_cons_succ, Res.bind_ok, apN1, intD_int, ofO_some, ap2_dat, modD_int, bindS_ok, h6]
      rw [if_pos (by omega)]
      simp only [ofO_some, Res.bind_ok, bindS_ok, parO_two, List.set, seqO_nx, loopO_nx]
  obtain ⟨o', hL⟩ := hL
  rw [rt_made h0]
  simp only [seqO_nx, seqO_rt, seqO_exc, optO_some, cnd_true, cnd_false, parO_two, loopO_nx, loopO_rt, loopO_bk, b_u_law_r, List.map_cons, List.map_nil, List.replicate, List.cons_append, List.nil_append, ev_seqM, ev_parM, ev_callM, ev_aCons, ev_aNil, ev_opN, ev_vr, List.getElem?_cons_zero, List.getElem?_cons_succ, Res.bind_ok, apN1, absD_int, ofO_some, abs_eq, bindS_ok, List.set, ev_forM]
  rw [run_rng1 (n := 900) (st1 := st) rfl (by decide)]
  simp only [bindS_ok]
  rw [hL]
  have dn : ((Nat.gcd n.natAbs d.natAbs : Nat) : Int) ∣ n := Int.ofNat_dvd_left.mpr (Nat.gcd_dvd_left _ _)
  have dd : ((Nat.gcd n.natAbs d.natAbs : Nat) : Int) ∣ d := Int.ofNat_dvd_left.mpr (Nat.gcd_dvd_right _ _)
  by_cases hp : 0 < d
  · rw [Int.sign_eq_one_of_pos hp]
    simp [hp, hq, e6]
  · rw [Int.sign_eq_neg_one_of_neg (by omega)]
    have e1 : -1 * n / ((Nat.gcd n.natAbs d.natAbs : Nat) : Int) = 0 - n / ((Nat.gcd n.natAbs d.natAbs : Nat) : Int) := by
      rw [show -1 * n = -n by omega, Int.neg_ediv_of_dvd dn]
      omega
    have e2 : -1 * d / ((Nat.gcd n.natAbs d.natAbs : Nat) : Int) = 0 - d / ((Nat.gcd n.natAbs d.natAbs : Nat) : Int) := by
      rw [show -1 * d = -d by omega, Int.neg_ediv_of_dvd dd]
      omega
    rw [e1, e2]
    simp [hp, hq, e6]
theorem ladd_run {a b : Rat} (st : Store) (ha : Sz 190 a) (hb : Sz 190 b) : d_u_law_add [.dat (rt a), .dat (rt b)] st = .ok (.dat (rt (a + b))) st := by
  refine call_rt rfl ?_
  have d1 := den_ne a
  have d2 := den_ne b
  have e := rr_run (n := a.num * b.den + b.num * a.den) (d := a.den * b.den) st (Nat.lt_of_lt_of_le (natAbs_add_lt (natAbs_mul_lt ha.1 hb.2) (natAbs_mul_lt hb.1 ha.2)) (Nat.pow_le_pow_right (by decide) (by decide))) (Int.mul_ne_zero d1 d2) (Nat.lt_of_lt_of_le (natAbs_mul_lt (i := (a.den : Int)) ha.2 hb.2) (Nat.pow_le_pow_right (by decide) (by decide)))
  have m1 : mulOk a.num b.den = true := mulOk_lt ha.1 hb.2 (by decide)
  have m2 : mulOk b.num a.den = true := mulOk_lt hb.1 ha.2 (by decide)
  have m3 : mulOk a.den b.den = true := mulOk_lt (i := (a.den : Int)) ha.2 hb.2 (by decide)
  rw [add_divInt]
  simp [b_u_law_add, rt, m1, m2, m3, e]
theorem lsub_run {a b : Rat} (st : Store) (ha : Sz 190 a) (hb : Sz 190 b) : d_u_law_sub [.dat (rt a), .dat (rt b)] st = .ok (.dat (rt (a - b))) st := by
  refine call_rt rfl ?_
  have d1 := den_ne a
  have d2 := den_ne b
  have e := rr_run (n := a.num * b.den - b.num * a.den) (d := a.den * b.den) st (Nat.lt_of_lt_of_le (natAbs_sub_lt (natAbs_mul_lt ha.1 hb.2) (natAbs_mul_lt hb.1 ha.2)) (Nat.pow_le_pow_right (by decide) (by decide))) (Int.mul_ne_zero d1 d2) (Nat.lt_of_lt_of_le (natAbs_mul_lt (i := (a.den : Int)) ha.2 hb.2) (Nat.pow_le_pow_right (by decide) (by decide)))
  have m1 : mulOk a.num b.den = true := mulOk_lt ha.1 hb.2 (by decide)
  have m2 : mulOk b.num a.den = true := mulOk_lt hb.1 ha.2 (by decide)
  have m3 : mulOk a.den b.den = true := mulOk_lt (i := (a.den : Int)) ha.2 hb.2 (by decide)
  rw [sub_divInt]
  simp [b_u_law_sub, rt, m1, m2, m3, e]
theorem lmul_run {a b : Rat} (st : Store) (ha : Sz 190 a) (hb : Sz 190 b) : d_u_law_mul [.dat (rt a), .dat (rt b)] st = .ok (.dat (rt (a * b))) st := by
  refine call_rt rfl ?_
  have d1 := den_ne a
  have d2 := den_ne b
  have e := rr_run (n := a.num * b.num) (d := a.den * b.den) st (Nat.lt_of_lt_of_le (natAbs_mul_lt ha.1 hb.1) (Nat.pow_le_pow_right (by decide) (by decide))) (Int.mul_ne_zero d1 d2) (Nat.lt_of_lt_of_le (natAbs_mul_lt (i := (a.den : Int)) ha.2 hb.2) (Nat.pow_le_pow_right (by decide) (by decide)))
  have m1 : mulOk a.num b.num = true := mulOk_lt ha.1 hb.1 (by decide)
  have m3 : mulOk a.den b.den = true := mulOk_lt (i := (a.den : Int)) ha.2 hb.2 (by decide)
  rw [mul_divInt]
  simp [b_u_law_mul, rt, m1, m3, e]
end K23

set_option Elab.async false
set_option linter.all false
set_option maxRecDepth 100000
set_option maxHeartbeats 4000000
/-! Dy: the least path, found by counts from the end, is the first good row by size and then by its numbers. -/
namespace Pd
section
variable (ok : Nat → Nat → Bool) (last : Nat)
def chain : Nat → List Nat → Bool
  | p, [] => ok p last
  | p, k :: r => ok p k && chain k r
def rowsN (many : Nat) : Nat → Nat → List (List Nat)
  | 0, _ => [[]]
  | s + 1, least => (List.range' least (many - least)).flatMap fun k => (rowsN many s (k + 1)).map (k :: ·)
structure Cnt (cnt : Nat → Nat) : Prop where
  z : cnt last = 0
  le : ∀ i j, i < j → j ≤ last → ok i j = true → cnt i ≤ 1 + cnt j
  ex : ∀ i, i < last → ∃ j, i < j ∧ j ≤ last ∧ ok i j = true ∧ cnt i = 1 + cnt j
def nxt (cnt : Nat → Nat) (i : Nat) : Nat := ((List.range' (i + 1) (last - i)).find? fun j => ok i j && (cnt j + 1 == cnt i)).getD 0
def grow (cnt : Nat → Nat) : Nat → Nat → List Nat
  | 0, _ => []
  | s + 1, i => nxt ok last cnt i :: grow cnt s (nxt ok last cnt i)
def itr (cnt : Nat → Nat) : Nat → Nat → Nat
  | 0, i => i
  | m + 1, i => itr cnt m (nxt ok last cnt i)
end
section
variable {ok : Nat → Nat → Bool} {last : Nat} {cnt : Nat → Nat}
theorem grow_itr : ∀ (s i : Nat), grow ok last cnt s i = (List.range s).map fun m => itr ok last cnt (m + 1) i
  | 0, i => rfl
  | s + 1, i => by
    rw [List.range_succ_eq_map]
    unfold grow
    rw [grow_itr s]
    simp only [List.map_cons, List.map_map]
    rfl
theorem itr_succ : ∀ (m i : Nat), itr ok last cnt (m + 1) i = nxt ok last cnt (itr ok last cnt m i)
  | 0, i => rfl
  | m + 1, i => by
    show itr ok last cnt (m + 1) (nxt ok last cnt i) = _
    rw [itr_succ m]
    rfl
theorem Cnt.nxt_find (h : Cnt ok last cnt) {i : Nat} (hi : i < last) : ((List.range' (i + 1) (last - i)).find? fun j => ok i j && (cnt j + 1 == cnt i)) = some (nxt ok last cnt i) := by
  unfold nxt
  cases e : (List.range' (i + 1) (last - i)).find? fun j => ok i j && (cnt j + 1 == cnt i) with
  | some j => rfl
  | none =>
    obtain ⟨j, h1, h2, h3, h4⟩ := h.ex i hi
    have := List.find?_eq_none.mp e j (List.mem_range'_1.mpr ⟨by omega, by omega⟩)
    simp [h3, h4] at this
    omega
theorem Cnt.nxt_spec (h : Cnt ok last cnt) {i : Nat} (hi : i < last) : i < nxt ok last cnt i ∧ nxt ok last cnt i ≤ last ∧ ok i (nxt ok last cnt i) = true ∧ cnt (nxt ok last cnt i) + 1 = cnt i := by
  have e := h.nxt_find hi
  have h1 := List.find?_some e
  have h2 := List.mem_range'_1.mp (List.mem_of_find?_eq_some e)
  simp at h1
  exact ⟨by omega, by omega, h1.1, h1.2⟩
theorem Cnt.pos (h : Cnt ok last cnt) {i : Nat} (hi : i < last) : 0 < cnt i := by
  obtain ⟨j, _, _, _, h4⟩ := h.ex i hi
  omega
theorem Cnt.zero (h : Cnt ok last cnt) {i : Nat} (hi : i ≤ last) (e : cnt i = 0) : i = last := by
  rcases Nat.lt_or_ge i last with h1 | h1
  · have := h.pos h1
    omega
  · omega
theorem Cnt.le_last (h : Cnt ok last cnt) : ∀ (n i : Nat), last - i = n → i ≤ last → cnt i ≤ n
  | 0, i, e, hi => by
    have : i = last := by omega
    subst this
    rw [h.z]
    omega
  | n + 1, i, e, hi => by
    obtain ⟨h1, h2, h3, h4⟩ := h.nxt_spec (i := i) (by omega)
    have := h.le_last (last - nxt ok last cnt i) _ rfl h2
    omega
/-- the iterates of nxt: the path itself -/
theorem Cnt.itr_spec (h : Cnt ok last cnt) : ∀ (m : Nat), m ≤ cnt 0 → itr ok last cnt m 0 ≤ last ∧ cnt (itr ok last cnt m 0) + m = cnt 0
  | 0, _ => ⟨Nat.zero_le _, rfl⟩
  | m + 1, hm => by
    obtain ⟨h1, h2⟩ := h.itr_spec m (by omega)
    have h3 : itr ok last cnt m 0 < last := by
      rcases Nat.lt_or_ge (itr ok last cnt m 0) last with h4 | h4
      · exact h4
      · have : itr ok last cnt m 0 = last := by omega
        rw [this, h.z] at h2
        omega
    rw [itr_succ]
    obtain ⟨k1, k2, k3, k4⟩ := h.nxt_spec h3
    exact ⟨k2, by omega⟩
theorem Cnt.itr_step (h : Cnt ok last cnt) {m : Nat} (hm : m < cnt 0) : itr ok last cnt m 0 < last ∧ itr ok last cnt m 0 < itr ok last cnt (m + 1) 0 ∧ ok (itr ok last cnt m 0) (itr ok last cnt (m + 1) 0) = true := by
  obtain ⟨h1, h2⟩ := h.itr_spec m (by omega)
  have h3 : itr ok last cnt m 0 < last := by
    rcases Nat.lt_or_ge (itr ok last cnt m 0) last with h4 | h4
    · exact h4
    · have : itr ok last cnt m 0 = last := by omega
      rw [this, h.z] at h2
      omega
  rw [itr_succ]
  obtain ⟨k1, k2, k3, k4⟩ := h.nxt_spec h3
  exact ⟨h3, k1, k3⟩
theorem Cnt.itr_last (h : Cnt ok last cnt) : itr ok last cnt (cnt 0) 0 = last := by
  obtain ⟨h1, h2⟩ := h.itr_spec (cnt 0) (Nat.le_refl _)
  exact h.zero h1 (by omega)
theorem Cnt.rows (h : Cnt ok last cnt) : ∀ (s i : Nat), i < last →
    (s + 1 < cnt i → ∀ r ∈ rowsN last s (i + 1), chain ok last i r = false) ∧
    (s + 1 = cnt i → (rowsN last s (i + 1)).find? (chain ok last i) = some (grow ok last cnt s i))
  | 0, i, hi => by
    constructor
    · intro e r hr
      simp [rowsN] at hr
      subst hr
      unfold chain
      cases q : ok i last with
      | false => rfl
      | true =>
        have := h.le i last hi (Nat.le_refl _) q
        rw [h.z] at this
        omega
    · intro e
      obtain ⟨j, h1, h2, h3, h4⟩ := h.ex i hi
      have hj : j = last := h.zero h2 (by omega)
      subst hj
      simp [rowsN, chain, h3, grow]
  | s + 1, i, hi => by
    have ih := fun k hk => h.rows s k hk
    constructor
    · intro e r hr
      simp only [rowsN, List.mem_flatMap, List.mem_map, List.mem_range'_1] at hr
      obtain ⟨k, hk, r', hr', rfl⟩ := hr
      unfold chain
      cases q : ok i k with
      | false => rfl
      | true =>
        have := h.le i k (by omega) (by omega) q
        rw [(ih k (by omega)).1 (by omega) r' hr']
        rfl
    · intro e
      obtain ⟨k1, k2, k3, k4⟩ := h.nxt_spec hi
      have hl : nxt ok last cnt i < last := by
        rcases Nat.lt_or_ge (nxt ok last cnt i) last with h4 | h4
        · exact h4
        · have : nxt ok last cnt i = last := by omega
          rw [this, h.z] at k4
          omega
      have hf := h.nxt_find hi
      -- every k gives what is told
      have hg : ∀ k ∈ List.range' (i + 1) (last - (i + 1)), ((rowsN last s (k + 1)).map (k :: ·)).find? (chain ok last i) = if (ok i k && (cnt k + 1 == cnt i)) = true then some (k :: grow ok last cnt s k) else none := by
        intro k hk
        have hk2 := List.mem_range'_1.mp hk
        rw [List.find?_map]
        cases q : ok i k with
        | false =>
          have e2 : (rowsN last s (k + 1)).find? (chain ok last i ∘ (k :: ·)) = none := by
            refine List.find?_eq_none.mpr fun r _ => ?_
            simp [chain, q]
          rw [e2]
          simp
        | true =>
          have e3 : (chain ok last i ∘ (k :: ·)) = chain ok last k := by
            funext r
            simp [chain, q]
          rw [e3]
          have h5 := h.le i k (by omega) (by omega) q
          by_cases h6 : cnt k + 1 = cnt i
          · rw [(ih k (by omega)).2 (by omega)]
            simp [h6]
          · have e4 : (rowsN last s (k + 1)).find? (chain ok last k) = none := by
              refine List.find?_eq_none.mpr fun r hr => ?_
              rw [(ih k (by omega)).1 (by omega) r hr]
              decide
            rw [e4]
            simp [h6]
      unfold rowsN
      rw [List.find?_flatMap]
      have hs : List.range' (i + 1) (last - i) = List.range' (i + 1) (last - (i + 1)) ++ [last] := by
        have : last - i = (last - (i + 1)) + 1 := by omega
        rw [this, List.range'_concat]
        congr 2
        omega
      rw [hs, List.find?_append] at hf
      have hf2 : ((List.range' (i + 1) (last - (i + 1))).find? fun j => ok i j && (cnt j + 1 == cnt i)) = some (nxt ok last cnt i) := by
        cases e5 : (List.range' (i + 1) (last - (i + 1))).find? fun j => ok i j && (cnt j + 1 == cnt i) with
        | some j => rw [e5] at hf; simpa using hf
        | none =>
          rw [e5] at hf
          simp at hf
          omega
      have gen : ∀ (l : List Nat), (∀ k ∈ l, ((rowsN last s (k + 1)).map (k :: ·)).find? (chain ok last i) = if (ok i k && (cnt k + 1 == cnt i)) = true then some (k :: grow ok last cnt s k) else none) →
          l.findSome? (fun k => ((rowsN last s (k + 1)).map (k :: ·)).find? (chain ok last i)) = (l.find? fun j => ok i j && (cnt j + 1 == cnt i)).map fun k => k :: grow ok last cnt s k := by
        intro l
        induction l with
        | nil => intro _; rfl
        | cons k l ihl =>
          intro hl2
          rw [List.findSome?_cons, hl2 k List.mem_cons_self, List.find?_cons]
          cases q : (ok i k && (cnt k + 1 == cnt i)) with
          | true => rfl
          | false => exact ihl fun k' hk' => hl2 k' (List.mem_cons_of_mem _ hk')
      rw [gen _ hg, hf2]
      rfl
/-- any good row is no shorter -/
theorem Cnt.chain_len (h : Cnt ok last cnt) : ∀ (r : List Nat) (i : Nat), (∀ k ∈ r, k ≤ last) → List.Pairwise (· < ·) (i :: r) → i < last → (∀ k ∈ r, k < last) → chain ok last i r = true → cnt i ≤ r.length + 1
  | [], i, _, _, hi, _, q => by
    have := h.le i last hi (Nat.le_refl _) q
    rw [h.z] at this
    simpa using this
  | k :: r, i, h1, h2, hi, h3, q => by
    unfold chain at q
    rw [Bool.and_eq_true] at q
    have hk := h3 k List.mem_cons_self
    have h5 := List.pairwise_cons.mp h2
    have h4 := h.chain_len r k (fun x hx => h1 x (List.mem_cons_of_mem _ hx)) h5.2 hk (fun x hx => h3 x (List.mem_cons_of_mem _ hx)) q.2
    have := h.le i k (h5.1 k List.mem_cons_self) (by omega) q.1
    simp only [List.length_cons]
    omega
/-- fewer counts where more is allowed -/
theorem Cnt.mono {ok' : Nat → Nat → Bool} {cnt' : Nat → Nat} (h : Cnt ok last cnt) (h' : Cnt ok' last cnt') (k : ∀ i j, i < j → j ≤ last → ok i j = true → ok' i j = true) : ∀ (n i : Nat), last - i = n → i ≤ last → cnt' i ≤ cnt i := by
  intro n
  induction n using Nat.strongRecOn with
  | ind n ih =>
    intro i e hi
    rcases Nat.lt_or_ge i last with h1 | h1
    · obtain ⟨j, j1, j2, j3, j4⟩ := h.ex i h1
      have a := ih (last - j) (by omega) j rfl j2
      have b := h'.le i j j1 j2 (k i j j1 j2 j3)
      omega
    · have : i = last := by omega
      subst this
      rw [h'.z]
      omega
end
end Pd

set_option Elab.async false
set_option linter.all false
set_option maxRecDepth 100000
set_option maxHeartbeats 4000000
/-! Cv: curves of ratios. -/
namespace Pd
theorem getD_lt {α : Type} (l : List α) (d : α) {i : Nat} (h : i < l.length) : l.getD i d = l[i] := by
  rw [List.getD_eq_getElem?_getD, List.getElem?_eq_getElem h]
  rfl
abbrev Pt := Rat × Rat
def seg (p q : Pt) (a : Rat) : Rat := p.2 + (a - p.1) / (q.1 - p.1) * (q.2 - p.2)
theorem seg_l (p q : Pt) : seg p q p.1 = p.2 := by unfold seg; grind
theorem seg_r (p q : Pt) (h : p.1 < q.1) : seg p q q.1 = q.2 := by unfold seg; grind
theorem seg_seg (p q u v : Pt) (a : Rat) (h : p.1 < q.1) (h2 : u.1 < v.1) (h3 : u.2 = seg p q u.1) (h4 : v.2 = seg p q v.1) : seg u v a = seg p q a := by unfold seg at *; grind
theorem rabs_comm (a b : Rat) : rabs (a - b) = rabs (b - a) := by unfold rabs; grind
theorem rabs_zero : rabs 0 = 0 := rfl
theorem rabs_nn (a : Rat) : 0 ≤ rabs a := by unfold rabs; grind
theorem eq_of_rabs {a b : Rat} (h : ¬ 0 < rabs (a - b)) : a = b := by unfold rabs at h; grind
def onc : List Pt → Rat → Rat
  | [], _ => 0
  | [p], _ => p.2
  | p :: q :: r, a => if q.1 < a then onc (q :: r) a else seg p q a
def Ris (c : List Pt) : Prop := c.Pairwise fun p q => p.1 < q.1
def pt (c : List Pt) (i : Nat) : Pt := c.getD i (0, 0)
theorem pt_get {c : List Pt} {i : Nat} (h : i < c.length) : c[i]? = some (pt c i) := by
  unfold pt
  rw [List.getElem?_eq_getElem h, getD_lt _ _ h]
theorem pt_cons (p : Pt) (c : List Pt) (i : Nat) : pt (p :: c) (i + 1) = pt c i := by
  unfold pt
  rw [List.getD_cons_succ]
theorem Ris.lt {c : List Pt} (h : Ris c) {i j : Nat} (hij : i < j) (hj : j < c.length) : (pt c i).1 < (pt c j).1 := by
  have := List.pairwise_iff_getElem.mp h i j (by omega) hj hij
  unfold pt
  rw [getD_lt _ _ (by omega), getD_lt _ _ hj]
  exact this
theorem Ris.le {c : List Pt} (h : Ris c) {i j : Nat} (hij : i ≤ j) (hj : j < c.length) : (pt c i).1 ≤ (pt c j).1 := by
  rcases Nat.lt_or_ge i j with h1 | h1
  · exact Rat.le_of_lt (h.lt h1 hj)
  · have : i = j := by omega
    subst this
    exact Rat.le_refl
theorem onc_at : ∀ {c : List Pt}, Ris c → ∀ {i : Nat}, i < c.length → onc c (pt c i).1 = (pt c i).2
  | [], _, i, hi => by simp at hi
  | [p], _, i, hi => by
    have : i = 0 := by simpa using hi
    subst this
    rfl
  | p :: q :: r, h, i, hi => by
    have h2 : Ris (q :: r) := (List.pairwise_cons.mp h).2
    unfold onc
    cases i with
    | zero =>
      have h3 : p.1 < q.1 := (List.pairwise_cons.mp h).1 q List.mem_cons_self
      have e : pt (p :: q :: r) 0 = p := rfl
      rw [e, if_neg (by grind), seg_l]
    | succ i =>
      rw [pt_cons]
      cases i with
      | zero =>
        have h3 : p.1 < q.1 := (List.pairwise_cons.mp h).1 q List.mem_cons_self
        have e : pt (q :: r) 0 = q := rfl
        rw [e, if_neg (by grind), seg_r _ _ h3]
      | succ i =>
        have h4 := h2.lt (i := 0) (j := i + 1) (by omega) (by simpa using hi)
        have e : pt (q :: r) 0 = q := rfl
        rw [e] at h4
        rw [if_pos h4]
        exact onc_at h2 (by simpa using hi)
theorem onc_mid : ∀ {c : List Pt}, Ris c → ∀ {i : Nat} {a : Rat}, i + 1 < c.length → (pt c i).1 ≤ a → a ≤ (pt c (i + 1)).1 → onc c a = seg (pt c i) (pt c (i + 1)) a
  | [], _, i, _, hi, _, _ => by simp at hi
  | [p], _, i, _, hi, _, _ => by simp at hi
  | p :: q :: r, h, i, a, hi, h1, h2 => by
    have h3 : Ris (q :: r) := (List.pairwise_cons.mp h).2
    have h5 : p.1 < q.1 := (List.pairwise_cons.mp h).1 q List.mem_cons_self
    unfold onc
    cases i with
    | zero =>
      have e : pt (p :: q :: r) (0 + 1) = q := rfl
      have e2 : pt (p :: q :: r) 0 = p := rfl
      rw [e] at h2 ⊢
      rw [e2]
      rw [if_neg (by grind)]
    | succ i =>
      rw [pt_cons] at h1 h2 ⊢
      rw [pt_cons]
      have h6 := h3.le (i := 0) (j := i) (by omega) (by simp at hi ⊢; omega)
      have e : pt (q :: r) 0 = q := rfl
      rw [e] at h6
      by_cases h4 : q.1 < a
      · rw [if_pos h4]
        exact onc_mid h3 (by simpa using hi) h1 h2
      · rw [if_neg h4]
        have ha : a = q.1 := by grind
        subst ha
        have hi0 : i = 0 := by
          rcases Nat.eq_zero_or_pos i with z | z
          · exact z
          · have h7 := h3.lt (i := 0) (j := i) z (by simp at hi ⊢; omega)
            rw [e] at h7
            grind
        subst hi0
        rw [e, seg_r _ _ h5, seg_l]
/-- where a number lies -/
theorem find_k {c : List Pt} (h : Ris c) {a : Rat} : ∀ (n : Nat), n + 1 < c.length → (pt c 0).1 ≤ a → a ≤ (pt c (n + 1)).1 → ∃ k, k ≤ n ∧ (pt c k).1 ≤ a ∧ a ≤ (pt c (k + 1)).1
  | 0, h1, h2, h3 => ⟨0, Nat.le_refl _, h2, h3⟩
  | n + 1, h1, h2, h3 => by
    by_cases h4 : a ≤ (pt c (n + 1)).1
    · obtain ⟨k, k1, k2⟩ := find_k h n (by omega) h2 h4
      exact ⟨k, by omega, k2⟩
    · exact ⟨n + 1, Nat.le_refl _, by grind, h3⟩
/-! may the points between be left out -/
def okc (c : List Pt) (b : Rat) (i j : Nat) : Bool := ((c.take j).drop (i + 1)).all fun p => decide (¬ b < rabs (seg (pt c i) (pt c j) p.1 - p.2))
theorem okc_iff {c : List Pt} {b : Rat} {i j : Nat} (hj : j ≤ c.length) : okc c b i j = true ↔ ∀ k, i < k → k < j → ¬ b < rabs (seg (pt c i) (pt c j) (pt c k).1 - (pt c k).2) := by
  unfold okc
  rw [List.all_eq_true]
  constructor
  · intro h k h1 h2
    have := h (pt c k) (List.mem_iff_getElem?.mpr ⟨k - (i + 1), by
      rw [List.getElem?_drop, show i + 1 + (k - (i + 1)) = k by omega, List.getElem?_take_of_lt h2]
      exact pt_get (by omega)⟩)
    exact of_decide_eq_true this
  · intro h p hp
    obtain ⟨m, hm⟩ := List.mem_iff_getElem?.mp hp
    rw [List.getElem?_drop] at hm
    have h2 : i + 1 + m < j := by
      rcases Nat.lt_or_ge (i + 1 + m) j with h3 | h3
      · exact h3
      · rw [List.getElem?_eq_none (by simp; omega)] at hm
        cases hm
    rw [List.getElem?_take_of_lt h2, pt_get (by omega)] at hm
    cases hm
    exact decide_eq_true (h _ (by omega) h2)
theorem okc_next (c : List Pt) (b : Rat) (i : Nat) : okc c b i (i + 1) = true := by
  unfold okc
  rw [List.drop_eq_nil_of_le (by simp; omega)]
  rfl
theorem okc_mono {c : List Pt} {b b' : Rat} (h : b ≤ b') {i j : Nat} (k : okc c b i j = true) : okc c b' i j = true := by
  unfold okc at *
  rw [List.all_eq_true] at *
  intro p hp
  have := of_decide_eq_true (k p hp)
  exact decide_eq_true (by grind)
/-! paths -/
/-- strictly rising numbers from 0 to last -/
structure Way (last : Nat) (L : List Nat) : Prop where
  two : 2 ≤ L.length
  ris : L.Pairwise (· < ·)
  fst : L.getD 0 0 = 0
  lst : L.getD (L.length - 1) 0 = last
theorem Way.lt {last : Nat} {L : List Nat} (h : Way last L) {i j : Nat} (hij : i < j) (hj : j < L.length) : L.getD i 0 < L.getD j 0 := by
  have := List.pairwise_iff_getElem.mp h.ris i j (by omega) hj hij
  rw [getD_lt _ _ (by omega), getD_lt _ _ hj]
  exact this
theorem Way.le {last : Nat} {L : List Nat} (h : Way last L) {i j : Nat} (hij : i ≤ j) (hj : j < L.length) : L.getD i 0 ≤ L.getD j 0 := by
  rcases Nat.lt_or_ge i j with h1 | h1
  · exact Nat.le_of_lt (h.lt h1 hj)
  · have : i = j := by omega
    subst this
    exact Nat.le_refl _
theorem Way.le_last {last : Nat} {L : List Nat} (h : Way last L) {i : Nat} (hi : i < L.length) : L.getD i 0 ≤ last := by
  have := h.le (i := i) (j := L.length - 1) (by omega) (by have := h.two; omega)
  rw [h.lst] at this
  exact this
/-- between which two steps a number lies, from step i on -/
theorem Way.find {last : Nat} {L : List Nat} (h : Way last L) {i k : Nat} : ∀ (j : Nat), i < j → j < L.length → L.getD i 0 ≤ k → k < L.getD j 0 → ∃ m, i ≤ m ∧ m < j ∧ L.getD m 0 ≤ k ∧ k < L.getD (m + 1) 0
  | 0, h1, _, _, _ => by omega
  | j + 1, h1, h2, h3, h4 => by
    rcases Nat.lt_or_ge k (L.getD j 0) with h5 | h5
    · have hij : i < j := by
        rcases Nat.lt_or_ge i j with z | z
        · exact z
        · have : i = j := by omega
          subst this
          omega
      obtain ⟨m, m1, m2, m3⟩ := h.find j hij (by omega) h3 h5
      exact ⟨m, m1, by omega, m3⟩
    · exact ⟨j, by omega, by omega, h5, h4⟩
def sub (c : List Pt) (L : List Nat) : List Pt := L.map (pt c)
theorem sub_len (c : List Pt) (L : List Nat) : (sub c L).length = L.length := List.length_map ..
theorem sub_pt {c : List Pt} {L : List Nat} {m : Nat} (h : m < L.length) : pt (sub c L) m = pt c (L.getD m 0) := by
  unfold sub
  have : (List.map (pt c) L)[m]? = some (pt c (L.getD m 0)) := by
    rw [List.getElem?_map, List.getElem?_eq_getElem h, getD_lt _ _ h]
    rfl
  unfold pt at this ⊢
  rw [List.getD_eq_getElem?_getD, this]
  rfl
theorem sub_ris {c : List Pt} {L : List Nat} {last : Nat} (hc : Ris c) (hl : c.length = last + 1) (h : Way last L) : Ris (sub c L) := by
  refine List.pairwise_iff_getElem.mpr fun i j hi hj hij => ?_
  rw [sub_len] at hi hj
  have e1 := sub_pt (c := c) hi
  have e2 := sub_pt (c := c) hj
  unfold pt at e1 e2
  rw [getD_lt _ _ (by rw [sub_len]; exact hi)] at e1
  rw [getD_lt _ _ (by rw [sub_len]; exact hj)] at e2
  rw [e1, e2]
  have := h.le_last hj
  exact hc.lt (h.lt hij hj) (by omega)
section
variable {c : List Pt} {L : List Nat} {last : Nat} {b : Rat}
/-- the smaller curve between two of its points -/
theorem sub_mid (hc : Ris c) (hl : c.length = last + 1) (h : Way last L) {m : Nat} {a : Rat} (hm : m + 1 < L.length) (h1 : (pt c (L.getD m 0)).1 ≤ a) (h2 : a ≤ (pt c (L.getD (m + 1) 0)).1) :
    onc (sub c L) a = seg (pt c (L.getD m 0)) (pt c (L.getD (m + 1) 0)) a := by
  rw [← sub_pt (by omega), ← sub_pt hm]
  exact onc_mid (sub_ris hc hl h) (by rw [sub_len]; exact hm) (by rw [sub_pt (by omega)]; exact h1) (by rw [sub_pt hm]; exact h2)
/-- how far the smaller curve is off is told by the steps -/
theorem off_iff (hc : Ris c) (hl : c.length = last + 1) (h : Way last L) (hb : 0 ≤ b) : (∀ x ∈ c.map (·.1) ++ (sub c L).map (·.1), ¬ b < rabs (onc c x - onc (sub c L) x)) ↔ ∀ m, m + 1 < L.length → okc c b (L.getD m 0) (L.getD (m + 1) 0) = true := by
  constructor
  · intro k m hm
    have hle := h.le_last hm
    refine (okc_iff (by omega)).mpr fun i h1 h2 => ?_
    have := k (pt c i).1 (List.mem_append_left _ (List.mem_map.mpr ⟨pt c i, List.mem_iff_getElem?.mpr ⟨i, pt_get (by omega)⟩, rfl⟩))
    rw [onc_at hc (by omega), sub_mid hc hl h hm (hc.le (by omega) (by omega)) (hc.le (by omega) (by omega)), rabs_comm] at this
    exact this
  · intro k x hx
    have hx2 : ∃ i, i ≤ last ∧ x = (pt c i).1 := by
      rcases List.mem_append.mp hx with hx | hx
      · obtain ⟨p, hp, rfl⟩ := List.mem_map.mp hx
        obtain ⟨i, hi, e⟩ := List.getElem_of_mem hp
        refine ⟨i, by omega, ?_⟩
        have := pt_get hi
        rw [List.getElem?_eq_getElem hi, e] at this
        cases this
        rfl
      · obtain ⟨p, hp, rfl⟩ := List.mem_map.mp hx
        obtain ⟨i, hi, e⟩ := List.getElem_of_mem hp
        have hi2 := hi
        rw [sub_len] at hi2
        refine ⟨L.getD i 0, h.le_last hi2, ?_⟩
        have := pt_get hi
        rw [List.getElem?_eq_getElem hi, e] at this
        cases this
        rw [sub_pt hi2]
    obtain ⟨i, hi, rfl⟩ := hx2
    have two := h.two
    have hf : ∃ m, m + 1 < L.length ∧ L.getD m 0 ≤ i ∧ i ≤ L.getD (m + 1) 0 := by
      rcases Nat.lt_or_ge i last with z | z
      · obtain ⟨m, m1, m2, m3, m4⟩ := h.find (i := 0) (k := i) (L.length - 1) (by omega) (by omega) (by rw [h.fst]; omega) (by rw [h.lst]; exact z)
        exact ⟨m, by omega, m3, by omega⟩
      · have hi2 : i = last := by omega
        refine ⟨L.length - 2, by omega, ?_, ?_⟩
        · have := h.le_last (i := L.length - 2) (by omega)
          omega
        · have e : L.length - 2 + 1 = L.length - 1 := by omega
          rw [e, h.lst]
          omega
    obtain ⟨m, m1, m2, m3⟩ := hf
    have hle := h.le_last m1
    have hlt := h.lt (i := m) (j := m + 1) (by omega) m1
    rw [onc_at hc (by omega), sub_mid hc hl h m1 (hc.le m2 (by omega)) (hc.le m3 (by omega)), rabs_comm]
    rcases Nat.lt_or_ge (L.getD m 0) i with z | z
    · rcases Nat.lt_or_ge i (L.getD (m + 1) 0) with z2 | z2
      · exact (okc_iff (by omega)).mp (k m m1) i z z2
      · have e : i = L.getD (m + 1) 0 := by omega
        rw [e, seg_r _ _ (hc.lt hlt (by omega))]
        have : (pt c (L.getD (m + 1) 0)).2 - (pt c (L.getD (m + 1) 0)).2 = 0 := by grind
        rw [this, rabs_zero]
        grind
    · have e : i = L.getD m 0 := by omega
      rw [e, seg_l]
      have : (pt c (L.getD m 0)).2 - (pt c (L.getD m 0)).2 = 0 := by grind
      rw [this, rabs_zero]
      grind
/-- with no room the smaller curve is the same everywhere -/
theorem sub_same (hc : Ris c) (hl : c.length = last + 1) (h : Way last L) (k : ∀ m, m + 1 < L.length → okc c 0 (L.getD m 0) (L.getD (m + 1) 0) = true) {a : Rat} (h1 : (pt c 0).1 ≤ a) (h2 : a ≤ (pt c last).1) : onc (sub c L) a = onc c a := by
  have two := h.two
  have hlast : 0 < last := by
    have := h.lt (i := 0) (j := L.length - 1) (by omega) (by omega)
    rw [h.lst, h.fst] at this
    exact this
  obtain ⟨i, i1, i2, i3⟩ := find_k hc (a := a) (last - 1) (by omega) h1 (by rw [show last - 1 + 1 = last by omega]; exact h2)
  obtain ⟨m, m1, m2, m3, m4⟩ := h.find (i := 0) (k := i) (L.length - 1) (by omega) (by omega) (by rw [h.fst]; omega) (by rw [h.lst]; omega)
  have hm : m + 1 < L.length := by omega
  have hle := h.le_last hm
  have hlt := h.lt (i := m) (j := m + 1) (by omega) hm
  have on : ∀ j, L.getD m 0 ≤ j → j ≤ L.getD (m + 1) 0 → (pt c j).2 = seg (pt c (L.getD m 0)) (pt c (L.getD (m + 1) 0)) (pt c j).1 := by
    intro j j1 j2
    rcases Nat.lt_or_ge (L.getD m 0) j with z | z
    · rcases Nat.lt_or_ge j (L.getD (m + 1) 0) with z2 | z2
      · exact (eq_of_rabs ((okc_iff (by omega)).mp (k m hm) j z z2)).symm
      · have e : j = L.getD (m + 1) 0 := by omega
        rw [e, seg_r _ _ (hc.lt hlt (by omega))]
    · have e : j = L.getD m 0 := by omega
      rw [e, seg_l]
  have a1 := hc.le (i := L.getD m 0) (j := i) m3 (by omega)
  have a2 := hc.le (i := i + 1) (j := L.getD (m + 1) 0) (by omega) (by omega)
  rw [onc_mid hc (by omega) i2 i3, sub_mid hc hl h hm (by grind) (by grind)]
  exact (seg_seg _ _ _ _ _ (hc.lt hlt (by omega)) (hc.lt (by omega) (by omega)) (on i m3 (by omega)) (on (i + 1) (by omega) (by omega))).symm
/-- with no room, what may be left out of the smaller curve may be left out of the curve -/
theorem sub_ok (hc : Ris c) (hl : c.length = last + 1) (h : Way last L) (k : ∀ m, m + 1 < L.length → okc c 0 (L.getD m 0) (L.getD (m + 1) 0) = true) {i j : Nat} (hij : i < j) (hj : j < L.length) (q : okc (sub c L) 0 i j = true) : okc c 0 (L.getD i 0) (L.getD j 0) = true := by
  have hle := h.le_last hj
  refine (okc_iff (by omega)).mpr fun n n1 n2 => ?_
  obtain ⟨m, m1, m2, m3, m4⟩ := h.find (i := i) (k := n) j hij hj (by omega) n2
  have hm : m + 1 < L.length := by omega
  have q2 := (okc_iff (by rw [sub_len]; omega)).mp q
  have hlt := h.lt hij hj
  have hR := hc.lt hlt (by omega)
  -- the points of the smaller curve lie on the line
  have on : ∀ u, i ≤ u → u ≤ j → (pt c (L.getD u 0)).2 = seg (pt c (L.getD i 0)) (pt c (L.getD j 0)) (pt c (L.getD u 0)).1 := by
    intro u u1 u2
    rcases Nat.lt_or_ge i u with z | z
    · rcases Nat.lt_or_ge u j with z2 | z2
      · have := q2 u z z2
        rw [sub_pt (by omega), sub_pt (by omega), sub_pt (by omega)] at this
        exact (eq_of_rabs this).symm
      · have e : u = j := by omega
        rw [e, seg_r _ _ hR]
    · have e : u = i := by omega
      rw [e, seg_l]
  have hlm := h.le_last hm
  have hlt2 := h.lt (i := m) (j := m + 1) (by omega) hm
  have e1 : (pt c n).2 = seg (pt c (L.getD m 0)) (pt c (L.getD (m + 1) 0)) (pt c n).1 := by
    rcases Nat.lt_or_ge (L.getD m 0) n with z | z
    · exact (eq_of_rabs ((okc_iff (by omega)).mp (k m hm) n z m4)).symm
    · have e : n = L.getD m 0 := by omega
      rw [e, seg_l]
  rw [e1, seg_seg _ _ _ _ _ hR (hc.lt hlt2 (by omega)) (on m m1 (by omega)) (on (m + 1) (by omega) (by omega))]
  have : seg (pt c (L.getD i 0)) (pt c (L.getD j 0)) (pt c n).1 - seg (pt c (L.getD i 0)) (pt c (L.getD j 0)) (pt c n).1 = 0 := by grind
  rw [this, rabs_zero]
  grind
end
end Pd

set_option Elab.async false
set_option linter.all false
set_option maxRecDepth 100000
set_option maxHeartbeats 4000000
set_option exponentiation.threshold 5000
/-! CvK: what the curve defs compute. -/
namespace K23
open PySem L2 Pd
def ptD (p : Pt) : D := .tuple [rt p.1, rt p.2]
def cvD (c : List Pt) : D := .tuple (c.map ptD)
structure Good (c : List Pt) : Prop where
  l2 : 2 ≤ c.length
  l9 : c.length ≤ 9
  ris : Ris c
  z : (pt c 0).1 = 0
  one : (pt c (c.length - 1)).1 = 1
  sz : ∀ p ∈ c, Sz 12 p.1 ∧ Sz 12 p.2
  bd : ∀ p ∈ c, -3 ≤ p.2 ∧ p.2 ≤ 3
theorem pt_mem {c : List Pt} {i : Nat} (h : i < c.length) : pt c i ∈ c := List.mem_iff_getElem?.mpr ⟨i, pt_get h⟩
theorem sl : ∀ n : Nat, n ≤ 60 → n ≤ sizeLine := fun n h => Nat.le_trans h (by decide)
theorem ispoint_run (p : Pt) (st : Store) : d_is_point [.dat (ptD p)] st = .ok (.dat (.bool true)) st := by
  refine call_rt rfl ?_
  simp [b_is_point, ptD, isratio_run]
theorem unBools_true {α : Type} (l : List α) : unBools (l.map fun _ => PyData.bool true) = some (l.map fun _ => true) := by
  induction l with
  | nil => rfl
  | cons x l ih => simp [unBools, ih]
theorem allD_true {α : Type} (l : List α) : allD [.list (l.map fun _ => PyData.bool true)] = some (.bool true) := by
  have e : allD [.list (l.map fun _ => PyData.bool true)] = (unBools (l.map fun _ => PyData.bool true)).map fun bs => .bool (bs.all id) := rfl
  rw [e, unBools_true]
  simp
theorem atl_ptD {c : List Pt} {i : Nat} (h : i < c.length) : (c.map ptD)[i]? = some (ptD (pt c i)) := by
  rw [List.getElem?_map, pt_get h]
  rfl
theorem iscurve_run {c : List Pt} (h : Good c) (st : Store) : d_is_curve [.dat (cvD c)] st = .ok (.dat (.bool true)) st := by
  refine call_rt rfl ?_
  have h1 := h.l2
  have h2 := h.l9
  have e1 : ∀ s : Slots, s.length = 5 → lcGo (bName 2) tYesM (callM d_is_point (aCons (vr 2) aNil)) (c.map ptD) s st = .ok ((c.map ptD).map fun _ => .bool true) st := by
    intro s hs
    refine lcGo_map (fun _ => .bool true) _ fun x hx => ?_
    obtain ⟨p, _, rfl⟩ := List.mem_map.mp hx
    refine ⟨s.set 2 (some (.dat (ptD p))), rfl, ?_⟩
    simp [hs, ispoint_run]
  have e2 : ∀ s : Slots, s.length = 5 → lcGo (bTup [bName 3, bName 4]) tYesM (callM d_is_below (aCons (op2 ixD (vr 3) (cst (.int 0))) (aCons (op2 ixD (vr 4) (cst (.int 0))) aNil))) (zipD (c.map ptD) (c.map ptD).tail) s st = .ok ((zipD (c.map ptD) (c.map ptD).tail).map fun _ => .bool true) st := by
    intro s hs
    refine lcGo_map (fun _ => .bool true) _ fun x hx => ?_
    obtain ⟨i, hi⟩ := List.mem_iff_getElem?.mp hx
    obtain ⟨a, b, ea, eb, rfl⟩ := zipD_get hi
    have hi2 : i + 1 < c.length := by
      rw [List.getElem?_tail] at eb
      have := (List.getElem?_eq_some_iff.mp eb).1
      simpa using this
    rw [atl_ptD (by omega)] at ea
    rw [List.getElem?_tail, atl_ptD hi2] at eb
    cases ea
    cases eb
    refine ⟨(s.set 3 (some (.dat (ptD (pt c i))))).set 4 (some (.dat (ptD (pt c (i + 1))))), rfl, ?_⟩
    have hb := below_run st ((h.sz _ (pt_mem (i := i) (by omega))).1.mono (by decide : 12 ≤ 1000)) ((h.sz _ (pt_mem hi2)).1.mono (by decide : 12 ≤ 1000))
    have hlt := h.ris.lt (i := i) (j := i + 1) (by omega) hi2
    simp [hs, ptD, hb, hlt]
  have hz := atl_ptD (c := c) (i := 0) (by omega)
  have ho := atl_ptD (c := c) (i := c.length - 1) (by omega)
  have hz2 : eqD (rt (pt c 0).1) c_ZERO = some (.bool true) := by rw [h.z]; rfl
  have ho2 : eqD (rt (pt c (c.length - 1)).1) c_ONE = some (.bool true) := by rw [h.one]; rfl
  have q1 : (List.map (fun _ => PyData.bool true) (c.map ptD)).length ≤ sizeLine := by
    rw [List.length_map, List.length_map]
    exact sl _ (by omega)
  have q2 : (List.map (fun _ => PyData.bool true) (zipD (c.map ptD) (c.map ptD).tail)).length ≤ sizeLine := by
    rw [List.length_map, zipD_len, List.length_tail, List.length_map]
    exact sl _ (by omega)
  have k1 : (2 : Int) ≤ c.length := by omega
  have k2 : (c.length : Int) ≤ 40 := by omega
  simp only [seqO_nx, seqO_rt, seqO_exc, optO_some, cnd_true, cnd_false, parO_two, loopO_nx, loopO_rt, loopO_bk, b_is_curve, cvD, List.map_cons, List.map_nil, List.replicate, List.cons_append, List.nil_append, ev_seqM, ev_ifS, ev_orT, ev_notT, ev_truM, ev_isiM, ev_vr, List.getElem?_cons_zero, List.getElem?_cons_succ, Res.bind_ok, peek_dat, isiD_tt, ofO_some, truD_bool, Bool.not_true, Bool.false_eq_true, if_false]
  have k3 : chM leD leD (cst (.int 2)) (opN lenD (aCons (vr 0) aNil)) (cst c_MOST_POINTS) [some (Vl.dat (.tuple (c.map ptD))), none, none, none, none] st = .ok (.dat (.bool true)) st := by
    simp [chM, c_MOST_POINTS, k1, k2]
  simp only [seqO_nx, seqO_rt, seqO_exc, optO_some, cnd_true, cnd_false, parO_two, loopO_nx, loopO_rt, loopO_bk, k3, Res.bind_ok, peek_dat, truD_bool, Bool.not_true, bindS_ok, Bool.false_eq_true, if_false, ev_skipM]
  simp only [seqO_nx, seqO_rt, seqO_exc, optO_some, cnd_true, cnd_false, parO_two, loopO_nx, loopO_rt, loopO_bk, ev_seqM, ev_ifS, ev_notT, ev_truM, ev_opN, ev_aCons, ev_aNil, ev_lcM, ev_itM, ev_vr, List.getElem?_cons_zero, Res.bind_ok]
  rw [e1 _ (by rfl)]
  simp only [noX_ok, Res.bind_ok]
  rw [if_pos q1]
  simp only [Res.bind_ok, apN1]
  rw [allD_true]
  simp only [seqO_nx, seqO_rt, seqO_exc, optO_some, cnd_true, cnd_false, parO_two, loopO_nx, loopO_rt, loopO_bk, ofO_some, Res.bind_ok, peek_dat, truD_bool, Bool.not_true, bindS_ok, Bool.false_eq_true, if_false, ev_skipM]
  simp only [seqO_nx, seqO_rt, seqO_exc, optO_some, cnd_true, cnd_false, parO_two, loopO_nx, loopO_rt, loopO_bk, ev_seqM, ev_setM, ev_opN, ev_aCons, ev_aNil, ev_lcM, ev_zipM, ev_vr, List.getElem?_cons_zero, Res.bind_ok, ev_sliceM, ev_someO, ev_noO, ev_cst, peek_dat, sliceD_tup, cutL_1, ofO_some, toDs_cons, toDs_nil, toD_dat]
  rw [e2 _ (by rfl)]
  simp only [noX_ok, Res.bind_ok]
  rw [if_pos q2]
  simp only [Res.bind_ok, apN1]
  rw [allD_true]
  simp [hz, ho, ptD, hz2, ho2]

/-! sizes -/
theorem seg_run_sz {p q : Pt} {a : Rat} (hp : Sz 12 p.1 ∧ Sz 12 p.2) (hq : Sz 12 q.1 ∧ Sz 12 q.2) (ha : Sz 12 a) : Sz 88 (seg p q a) :=
  (add_sz hp.2 (mul_sz (div_sz (sub_sz ha hp.1) (sub_sz hq.1 hp.1)) (sub_sz hq.2 hp.2))).mono (by decide)
theorem onc_sz : ∀ {c : List Pt} {a : Rat}, (∀ p ∈ c, Sz 12 p.1 ∧ Sz 12 p.2) → Sz 12 a → Sz 88 (onc c a)
  | [], _, _, _ => zero_sz.mono (by decide)
  | [p], _, h, _ => (h p List.mem_cons_self).2.mono (by decide)
  | p :: q :: r, a, h, ha => by
    unfold onc
    split
    · exact onc_sz (fun x hx => h x (List.mem_cons_of_mem _ hx)) ha
    · exact seg_run_sz (h p List.mem_cons_self) (h q (List.mem_cons_of_mem _ List.mem_cons_self)) ha
theorem zipD_cons (x y : D) (xs ys : List D) : zipD (x :: xs) (y :: ys) = .tuple [x, y] :: zipD xs ys := rfl
/-! a curve at a number -/
noncomputable abbrev by_loop : SM := (ifS (notT (truM (callM d_is_below (aCons (vr 4) (aCons (vr 1) aNil))))) (retM (callM d_add (aCons (vr 3) (aCons (callM d_product (aCons (callM d_share (aCons (callM d_less (aCons (vr 1) (aCons (vr 2) aNil))) (aCons (callM d_less (aCons (vr 4) (aCons (vr 2) aNil))) aNil))) (aCons (callM d_less (aCons (vr 5) (aCons (vr 3) aNil))) aNil))) aNil)))) skipM)
theorem by_run (cv : D) {a : Rat} (ha : Sz 12 a) (st : Store) : ∀ (r : List Pt) (p : Pt) (o2 o3 o4 o5 : Option Vl), Ris (p :: r) → (∀ q ∈ p :: r, Sz 12 q.1 ∧ Sz 12 q.2) → (∃ z ∈ r, a ≤ z.1) →
    loopM (tgM (bTup [bTup [bName 2, bName 3], bTup [bName 4, bName 5]]) by_loop) (zipD ((p :: r).map ptD) (r.map ptD)) [some (.dat cv), some (.dat (rt a)), o2, o3, o4, o5] st = .rt (.dat (rt (onc (p :: r) a))) st
  | [], p, _, _, _, _, _, _, h => by
    obtain ⟨z, hz, _⟩ := h
    cases hz
  | q :: r, p, o2, o3, o4, o5, h1, h2, h3 => by
    have hp := h2 p List.mem_cons_self
    have hq := h2 q (List.mem_cons_of_mem _ List.mem_cons_self)
    have e1 := below_run st (hq.1.mono (by decide : 12 ≤ 1000)) (ha.mono (by decide : 12 ≤ 1000))
    have hlt : p.1 < q.1 := (List.pairwise_cons.mp h1).1 q List.mem_cons_self
    rw [List.map_cons, List.map_cons, zipD_cons, loopM_cons]
    unfold onc
    by_cases hc : q.1 < a
    · have h4 : ∃ z ∈ r, a ≤ z.1 := by
        obtain ⟨z, hz, k⟩ := h3
        cases hz with
        | head => grind
        | tail _ hz => exact ⟨z, hz, k⟩
      have ih := by_run cv ha st r q (some (.dat (rt p.1))) (some (.dat (rt p.2))) (some (.dat (rt q.1))) (some (.dat (rt q.2))) (List.pairwise_cons.mp h1).2 (fun x hx => h2 x (List.mem_cons_of_mem _ hx)) h4
      rw [if_pos hc, ← ih]
      simp [ptD, e1, hc]
    · have e2 := less_run st (ha.mono (by decide : 12 ≤ 1000)) (hp.1.mono (by decide : 12 ≤ 1000))
      have e3 := less_run st (hq.1.mono (by decide : 12 ≤ 1000)) (hp.1.mono (by decide : 12 ≤ 1000))
      have e4 := less_run st (hq.2.mono (by decide : 12 ≤ 1000)) (hp.2.mono (by decide : 12 ≤ 1000))
      have s2 := sub_sz ha hp.1
      have s3 := sub_sz hq.1 hp.1
      have s4 := sub_sz hq.2 hp.2
      have e5 := share_run st (s2.mono (by decide : 25 ≤ 1000)) (s3.mono (by decide : 25 ≤ 1000)) (by grind)
      have e6 := product_run st ((div_sz s2 s3).mono (by decide : 50 ≤ 1000)) (s4.mono (by decide : 25 ≤ 1000))
      have e7 := add_run st (hp.2.mono (by decide : 12 ≤ 1000)) ((mul_sz (div_sz s2 s3) s4).mono (by decide : 75 ≤ 1000))
      rw [if_neg hc]
      simp [ptD, e1, hc, e2, e3, e4, e5, e6, e7, seg]
theorem curveby_run {c : List Pt} (h : Good c) {a : Rat} (ha : Sz 12 a) (h0 : 0 ≤ a) (h1 : a ≤ 1) (st : Store) : d_curve_by [.dat (cvD c), .dat (rt a)] st = .ok (.dat (rt (onc c a))) st := by
  refine call_rt rfl ?_
  have l2 := h.l2
  have hz := atl_ptD (c := c) (i := 0) (by omega)
  have e1 := below_run st ((h.sz _ (pt_mem (i := 0) (by omega))).1.mono (by decide : 12 ≤ 1000)) (ha.mono (by decide : 12 ≤ 1000))
  rw [h.z] at e1
  have hz3 : (pt c 0) = (0, (pt c 0).2) := by
    have := h.z
    rw [← this]
  by_cases hc : (0 : Rat) < a
  · obtain ⟨p, r, rfl⟩ : ∃ p r, c = p :: r := by
      cases c with
      | nil => simp at l2
      | cons p r => exact ⟨p, r, rfl⟩
    have hr : 0 < r.length := by simp at l2; omega
    have hex : ∃ z ∈ r, a ≤ z.1 := by
      have ho := h.one
      have e : (p :: r).length - 1 = (r.length - 1) + 1 := by simp only [List.length_cons]; omega
      rw [e, pt_cons] at ho
      exact ⟨pt r (r.length - 1), pt_mem (by omega), by rw [ho]; exact h1⟩
    have e2 := by_run (cvD (p :: r)) ha st r p none none none none h.ris h.sz hex
    have e3 : ((p :: r).map ptD).tail = r.map ptD := rfl
    have hz2 : ((p :: r).map ptD)[0]? = some (.tuple [rt 0, rt (pt (p :: r) 0).2]) := by
      rw [hz, hz3]
      rfl
    simp only [seqO_nx, seqO_rt, seqO_exc, optO_some, cnd_true, cnd_false, parO_two, loopO_nx, loopO_rt, loopO_bk, b_curve_by, List.map_cons (f := some), List.map_nil (f := some), List.replicate, List.cons_append, List.nil_append, ev_seqM, ev_ifS, ev_notT, ev_truM, ev_callM, ev_aCons, ev_aNil, ev_op2, ev_vr, List.getElem?_cons_zero, List.getElem?_cons_succ, Res.bind_ok, ev_cst, ap2_dat, cvD, ixD_tup, atI_0, hz2, ofO_some, e1, hc, peek_dat, truD_bool, decide_true, Bool.not_true, bindS_ok, Bool.false_eq_true, if_false, ev_skipM, ev_forM, ev_zipM, ev_sliceM, ev_someO, ev_noO, sliceD_tup, cutL_1, toDs_cons, toDs_nil, toD_dat, e3]
    unfold cvD at e2
    rw [e2, seqO_rt]
  · have ha0 : a = 0 := by grind
    subst ha0
    have e2 : onc c 0 = (pt c 0).2 := by
      have := onc_at h.ris (i := 0) (by omega)
      rw [h.z] at this
      exact this
    have hz2 : (c.map ptD)[0]? = some (.tuple [rt 0, rt (pt c 0).2]) := by
      rw [hz, hz3]
      rfl
    rw [e2]
    simp [b_curve_by, cvD, hz2, e1, hc]
/-! the law's own -/
noncomputable abbrev on_loop : SM := (seqM (asgM (bTup [bTup [bName 3, bName 4], bTup [bName 5, bName 6]]) (tupM (aCons (op2 ixD (vr 0) (vr 2)) (aCons (op2 ixD (vr 0) (op2 addD (vr 2) (cst (.int 1)))) aNil))))
        (ifS (notT (truM (callM d_u_law_less (aCons (vr 5) (aCons (vr 1) aNil))))) (seqM (parM 7 8 (aCons (callM d_u_law_mul (aCons (callM d_u_law_sub (aCons (vr 1) (aCons (vr 3) aNil))) (aCons (callM d_u_law_sub (aCons (vr 6) (aCons (vr 4) aNil))) aNil))) (aCons (callM d_u_law_sub (aCons (vr 5) (aCons (vr 3) aNil))) aNil)))
        (retM (callM d_u_law_add (aCons (vr 4) (aCons (callM d_u_law_r (aCons (op2 mulD (op2 ixD (vr 7) (cst (.int 0))) (op2 ixD (vr 8) (cst (.int 1)))) (aCons (op2 mulD (op2 ixD (vr 7) (cst (.int 1))) (op2 ixD (vr 8) (cst (.int 0)))) aNil))) aNil))))) skipM))
theorem rngD_cons (a : Int) (n : Nat) (k : Int) : rngD a (n + 1) k = .int a :: rngD (a + k) n k := by
  unfold rngD
  rw [List.range_succ_eq_map, List.map_cons, List.map_map]
  congr 1
  · simp
  · refine List.map_congr_left fun i _ => ?_
    show PyData.int _ = PyData.int _
    congr 1
    have : ((i + 1 : Nat) : Int) * k = i * k + k := by
      rw [Int.natCast_add, Int.add_mul]
      simp
    show a + ((i + 1 : Nat) : Int) * k = _
    rw [this]
    omega
@[simp] theorem rngD_nil (a k : Int) : rngD a 0 k = [] := rfl
theorem on_run {c : List Pt} (h2 : ∀ q ∈ c, Sz 12 q.1 ∧ Sz 12 q.2) (hr : Ris c) {a : Rat} (ha : Sz 12 a) (st : Store) : ∀ (n k : Nat) (o2 o3 o4 o5 o6 : Option Vl), k + n + 1 = c.length → 0 < n → a ≤ (pt c (c.length - 1)).1 →
    loopM (tgM (bName 2) on_loop) (rngD k n 1) [some (.dat (cvD c)), some (.dat (rt a)), o2, o3, o4, o5, o6, none, none] st = .rt (.dat (rt (onc (c.drop k) a))) st
  | 0, _, _, _, _, _, _, _, h, _ => by omega
  | n + 1, k, o2, o3, o4, o5, o6, h1, _, h3 => by
    have hk : k + 1 < c.length := by omega
    have hp := h2 _ (pt_mem (i := k) (by omega))
    have hq := h2 _ (pt_mem hk)
    have e1 := lless_run st (hq.1.mono (by decide : 12 ≤ 1000)) (ha.mono (by decide : 12 ≤ 1000))
    have hlt := hr.lt (i := k) (j := k + 1) (by omega) hk
    have g1 := atl_ptD (c := c) (i := k) (by omega)
    have g2 := atl_ptD hk
    have g3 : atI (c.map ptD) ((k : Int) + 1) = some (ptD (pt c (k + 1))) := by
      rw [show ((k : Int) + 1) = ((k + 1 : Nat) : Int) from rfl, Pd.atI_nat, g2]
    have hd : c.drop k = pt c k :: pt c (k + 1) :: c.drop (k + 2) := by
      have e1 : c[k] = pt c k := by
        have := pt_get (c := c) (i := k) (by omega)
        rw [List.getElem?_eq_getElem (by omega)] at this
        exact Option.some.inj this
      have e2 : c[k + 1] = pt c (k + 1) := by
        have := pt_get hk
        rw [List.getElem?_eq_getElem (by omega)] at this
        exact Option.some.inj this
      rw [List.drop_eq_getElem_cons (by omega), List.drop_eq_getElem_cons hk, e1, e2]
    have e6 : (2 : Nat) ≤ sizeLine := sl _ (by decide)
    rw [rngD_cons, loopM_cons]
    by_cases hc : (pt c (k + 1)).1 < a
    · have hn : 0 < n := by
        rcases Nat.eq_zero_or_pos n with z | z
        · have : c.length - 1 = k + 1 := by omega
          rw [this] at h3
          grind
        · exact z
      have ih := on_run h2 hr ha st n (k + 1) (some (.dat (.int k))) (some (.dat (rt (pt c k).1))) (some (.dat (rt (pt c k).2))) (some (.dat (rt (pt c (k + 1)).1))) (some (.dat (rt (pt c (k + 1)).2))) (by omega) hn h3
      have hd2 : c.drop (k + 1) = pt c (k + 1) :: c.drop (k + 2) := by
        have : c.drop (k + 1) = (c.drop k).drop 1 := by rw [List.drop_drop]
        rw [this, hd]
        rfl
      have e5 : onc (c.drop k) a = onc (c.drop (k + 1)) a := by
        rw [hd, hd2]
        conv => lhs; unfold onc
        rw [if_pos hc]
      rw [show ((k + 1 : Nat) : Int) = (k : Int) + 1 from rfl] at ih
      rw [e5, ← ih]
      simp [cvD, g1, g3, ptD, e6, e1, hc]
    · have s2 := sub_sz ha hp.1
      have s3 := sub_sz hq.1 hp.1
      have s4 := sub_sz hq.2 hp.2
      have f2 := lsub_run st (ha.mono (by decide : 12 ≤ 190)) (hp.1.mono (by decide : 12 ≤ 190))
      have f3 := lsub_run st (hq.1.mono (by decide : 12 ≤ 190)) (hp.1.mono (by decide : 12 ≤ 190))
      have f4 := lsub_run st (hq.2.mono (by decide : 12 ≤ 190)) (hp.2.mono (by decide : 12 ≤ 190))
      have f5 := lmul_run st (s2.mono (by decide : 25 ≤ 190)) (s4.mono (by decide : 25 ≤ 190))
      have s5 := mul_sz s2 s4
      have hne : (pt c (k + 1)).1 - (pt c k).1 ≠ 0 := by grind
      have w1 := num_ne hne
      have w2 := den_ne ((a - (pt c k).1) * ((pt c (k + 1)).2 - (pt c k).2))
      have f6 := rr_run (n := ((a - (pt c k).1) * ((pt c (k + 1)).2 - (pt c k).2)).num * ((pt c (k + 1)).1 - (pt c k).1).den) (d := ((a - (pt c k).1) * ((pt c (k + 1)).2 - (pt c k).2)).den * ((pt c (k + 1)).1 - (pt c k).1).num) st
        (Nat.lt_of_lt_of_le (natAbs_mul_lt s5.1 s3.2) (Nat.pow_le_pow_right (by decide) (by decide))) (Int.mul_ne_zero w2 w1) (Nat.lt_of_lt_of_le (natAbs_mul_lt (i := (((a - (pt c k).1) * ((pt c (k + 1)).2 - (pt c k).2)).den : Int)) s5.2 s3.1) (Nat.pow_le_pow_right (by decide) (by decide)))
      rw [← div_divInt] at f6
      have m1 : mulOk ((a - (pt c k).1) * ((pt c (k + 1)).2 - (pt c k).2)).num ((pt c (k + 1)).1 - (pt c k).1).den = true := mulOk_lt s5.1 s3.2 (by decide)
      have m2 : mulOk ((a - (pt c k).1) * ((pt c (k + 1)).2 - (pt c k).2)).den ((pt c (k + 1)).1 - (pt c k).1).num = true := mulOk_lt (i := (((a - (pt c k).1) * ((pt c (k + 1)).2 - (pt c k).2)).den : Int)) s5.2 s3.1 (by decide)
      have f7 := ladd_run st (hp.2.mono (by decide : 12 ≤ 190)) ((div_sz s5 s3).mono (by decide : 75 ≤ 190))
      have e5 : onc (c.drop k) a = (pt c k).2 + (a - (pt c k).1) * ((pt c (k + 1)).2 - (pt c k).2) / ((pt c (k + 1)).1 - (pt c k).1) := by
        rw [hd]
        unfold onc
        rw [if_neg hc]
        unfold seg
        rw [Rat.div_def, Rat.div_def]
        grind
      rw [e5]
      generalize ht : (a - (pt c k).1) * ((pt c (k + 1)).2 - (pt c k).2) = top at *
      generalize hw : (pt c (k + 1)).1 - (pt c k).1 = wide at *
      have rt1 : ∀ q : Rat, atI [PyData.int q.num, PyData.int (q.den : Int)] 0 = some (.int q.num) := fun q => rfl
      simp [cvD, g1, g3, ptD, e6, e1, hc, f2, f3, f4, f5]
      simp [rt, m1, m2]
      simp only [rt] at f6
      simp [f6]
      simp only [rt] at f7
      simp [f7]
theorem lon_run {c : List Pt} (h : Good c) {a : Rat} (ha : Sz 12 a) (h0 : 0 ≤ a) (h1 : a ≤ 1) (st : Store) : d_u_law_on_curve [.dat (cvD c), .dat (rt a)] st = .ok (.dat (rt (onc c a))) st := by
  refine call_rt rfl ?_
  have l2 := h.l2
  have l9 := h.l9
  have h3 : ¬ a.num < 0 := by
    have := Rat.num_nonneg.mpr h0
    omega
  have e := on_run h.sz h.ris ha st (c.length - 1) 0 none none none none none (by omega) (by omega) (by rw [h.one]; exact h1)
  rw [List.drop_zero] at e
  have rt0 : ixD (rt a) (.int 0) = some (.int a.num) := rfl
  have hr : rng1M (aCons (op2 subD (opN lenD (aCons (vr 0) aNil)) (cst (.int 1))) aNil) [some (.dat (cvD c)), some (.dat (rt a)), none, none, none, none, none, none, none] st = .ok (rngD 0 (c.length - 1) 1) st := by
    refine run_rng1 ?_ (by omega)
    have e2 : ((c.length : Int) - 1) = ((c.length - 1 : Nat) : Int) := by omega
    simp [cvD, e2]
  simp only [seqO_nx, seqO_rt, seqO_exc, optO_some, cnd_true, cnd_false, parO_two, loopO_nx, loopO_rt, loopO_bk, b_u_law_on_curve, List.map_cons (f := some), List.map_nil (f := some), List.replicate, List.cons_append, List.nil_append, ev_seqM, ev_ifS, ev_truM, ev_op2, ev_vr, List.getElem?_cons_zero, List.getElem?_cons_succ, Res.bind_ok, ev_cst, ap2_dat, rt0, ofO_some, ltD_int, peek_dat, truD_bool, h3, decide_false, bindS_ok, Bool.false_eq_true, if_false, ev_skipM, ev_forM]
  rw [hr]
  simp only [bindS_ok, cnd_false, seqO_nx]
  have z0 : ((0 : Nat) : Int) = 0 := rfl
  rw [z0] at e
  rw [e, seqO_rt]
end K23

set_option Elab.async false
set_option linter.all false
set_option maxRecDepth 100000
set_option maxHeartbeats 4000000
set_option exponentiation.threshold 5000
/-! FtK: how far two curves are apart. -/
namespace K23
open PySem L2 Pd
def flt (c o : List Pt) (x : Rat) : Rat := rabs (onc c x - onc o x)
def stp (F : Rat → Rat) (bf : Rat × Rat) (x : Rat) : Rat × Rat := if bf.1 < F x ∨ (bf.1 = F x ∧ x < bf.2) then (F x, x) else bf
theorem Good.x01 {c : List Pt} (h : Good c) {p : Pt} (hp : p ∈ c) : 0 ≤ p.1 ∧ p.1 ≤ 1 := by
  obtain ⟨i, hi, e⟩ := List.getElem_of_mem hp
  have e2 : pt c i = p := by
    have := pt_get hi
    rw [List.getElem?_eq_getElem hi, e] at this
    exact (Option.some.inj this).symm
  have a := h.ris.le (i := 0) (j := i) (by omega) hi
  have b := h.ris.le (i := i) (j := c.length - 1) (by omega) (by omega)
  rw [h.z] at a
  rw [h.one] at b
  rw [e2] at a b
  exact ⟨a, b⟩
theorem flt_sz {c o : List Pt} (hc : Good c) (ho : Good o) {x : Rat} (hx : Sz 12 x) : Sz 177 (flt c o x) := rabs_sz (sub_sz (onc_sz hc.sz hx) (onc_sz ho.sz hx))
theorem stp_sz {F : Rat → Rat} {bf : Rat × Rat} {x : Rat} (h1 : Sz 177 bf.1) (h2 : Sz 12 bf.2) (h3 : Sz 177 (F x)) (h4 : Sz 12 x) : Sz 177 (stp F bf x).1 ∧ Sz 12 (stp F bf x).2 := by
  unfold stp
  split
  · exact ⟨h3, h4⟩
  · exact ⟨h1, h2⟩
noncomputable abbrev fault_loop : SM := (seqM (setM 6 (callM d_size_of (aCons (callM d_less (aCons (callM d_curve_by (aCons (vr 0) (aCons (vr 4) aNil))) (aCons (callM d_curve_by (aCons (vr 1) (aCons (vr 4) aNil))) aNil))) aNil)))
        (ifS (orT (truM (callM d_is_below (aCons (vr 2) (aCons (vr 6) aNil)))) (andT (truM (op2 eqD (vr 6) (vr 2))) (truM (callM d_is_below (aCons (vr 4) (aCons (vr 3) aNil)))))) (parM 2 3 (aCons (vr 6) (aCons (vr 4) aNil))) skipM))
theorem fault_run {c o : List Pt} (hc : Good c) (ho : Good o) (st : Store) : ∀ (l : List Pt) (bf : Rat × Rat) (o4 o5 o6 : Option Vl), (∀ p ∈ l, Sz 12 p.1 ∧ 0 ≤ p.1 ∧ p.1 ≤ 1) → Sz 177 bf.1 → Sz 12 bf.2 →
    ∃ o4' o5' o6', loopM (tgM (bTup [bName 4, bName 5]) fault_loop) (l.map ptD) [some (.dat (cvD c)), some (.dat (cvD o)), some (.dat (rt bf.1)), some (.dat (rt bf.2)), o4, o5, o6] st
      = .nx [some (.dat (cvD c)), some (.dat (cvD o)), some (.dat (rt ((l.map (·.1)).foldl (stp (flt c o)) bf).1)), some (.dat (rt ((l.map (·.1)).foldl (stp (flt c o)) bf).2)), o4', o5', o6'] st
  | [], bf, o4, o5, o6, _, _, _ => ⟨o4, o5, o6, rfl⟩
  | p :: l, bf, o4, o5, o6, h, h1, h2 => by
    obtain ⟨hp, p0, p1⟩ := h p List.mem_cons_self
    have hf := flt_sz hc ho hp
    have hs := stp_sz (F := flt c o) h1 h2 hf hp
    obtain ⟨o4', o5', o6', ih⟩ := fault_run hc ho st l (stp (flt c o) bf p.1) (some (.dat (rt p.1))) (some (.dat (rt p.2))) (some (.dat (rt (flt c o p.1)))) (fun q hq => h q (List.mem_cons_of_mem _ hq)) hs.1 hs.2
    refine ⟨o4', o5', o6', ?_⟩
    rw [List.map_cons, List.map_cons, List.foldl_cons, ← ih, loopM_cons]
    have e1 := curveby_run hc hp p0 p1 st
    have e2 := curveby_run ho hp p0 p1 st
    have e3 := less_run st ((onc_sz hc.sz hp).mono (by decide : 88 ≤ 1000)) ((onc_sz ho.sz hp).mono (by decide : 88 ≤ 1000))
    have e4 := size_run (onc c p.1 - onc o p.1) st
    have e5 := below_run st (h1.mono (by decide : 177 ≤ 1000)) (hf.mono (by decide : 177 ≤ 1000))
    have e6 := below_run st (hp.mono (by decide : 12 ≤ 1000)) (h2.mono (by decide : 12 ≤ 1000))
    rw [show rabs (onc c p.1 - onc o p.1) = flt c o p.1 from rfl] at e4
    unfold stp
    by_cases k1 : bf.1 < flt c o p.1
    · rw [if_pos (.inl k1)]
      simp [ptD, e1, e2, e3, e4, e5, k1]
    · by_cases k2 : bf.1 = flt c o p.1
      · have e7 : eqD (rt (flt c o p.1)) (rt bf.1) = some (.bool true) := by rw [eqD_rt]; simp [k2]
        by_cases k3 : p.1 < bf.2
        · rw [if_pos (.inr ⟨k2, k3⟩)]
          simp [ptD, e1, e2, e3, e4, e5, k1, e7, e6, k3]
        · rw [if_neg (by grind)]
          simp [ptD, e1, e2, e3, e4, e5, k1, e7, e6, k3]
      · have e7 : eqD (rt (flt c o p.1)) (rt bf.1) = some (.bool false) := by rw [eqD_rt]; simp; exact fun z => k2 z.symm
        rw [if_neg (by grind)]
        simp [ptD, e1, e2, e3, e4, e5, k1, e7]
def xs2 (c o : List Pt) : List Rat := c.map (·.1) ++ o.map (·.1)
def offR (c o : List Pt) : Rat × Rat := (xs2 c o).foldl (stp (flt c o)) (0, 0)
def offD (c o : List Pt) : D := .tuple [rt (offR c o).1, rt (offR c o).2]
theorem Good.all2 {c o : List Pt} (hc : Good c) (ho : Good o) : ∀ p ∈ c ++ o, Sz 12 p.1 ∧ 0 ≤ p.1 ∧ p.1 ≤ 1 := fun p hp => by
  rcases List.mem_append.mp hp with h | h
  · exact ⟨(hc.sz p h).1, (hc.x01 h).1, (hc.x01 h).2⟩
  · exact ⟨(ho.sz p h).1, (ho.x01 h).1, (ho.x01 h).2⟩
theorem foc_run {c o : List Pt} (hc : Good c) (ho : Good o) (st : Store) : d_fault_of_curve [.dat (cvD c), .dat (cvD o)] st = .ok (.dat (offD c o)) st := by
  refine call_rt rfl ?_
  have e6 : (2 : Nat) ≤ sizeLine := sl _ (by decide)
  have z := zero_sz
  obtain ⟨o4', o5', o6', e⟩ := fault_run hc ho st (c ++ o) (0, 0) none none none (hc.all2 ho) (zero_sz.mono (by decide)) (zero_sz.mono (by decide))
  have e9 : (c.map ptD ++ o.map ptD).length ≤ sizeLine := by
    rw [List.length_append, List.length_map, List.length_map]
    have := hc.l9
    have := ho.l9
    exact sl _ (by omega)
  have hs : aStar (vr 0) (aStar (vr 1) aNil) [some (.dat (cvD c)), some (.dat (cvD o)), some (.dat (rt 0)), some (.dat (rt 0)), none, none, none] st = .ok ((c.map ptD ++ o.map ptD).map .dat) st := by
    simp [aStar, cvD]
  have hm : (c ++ o).map ptD = c.map ptD ++ o.map ptD := List.map_append
  simp only [seqO_nx, seqO_rt, seqO_exc, optO_some, cnd_true, cnd_false, parO_two, loopO_nx, loopO_rt, loopO_bk, b_fault_of_curve, List.map_cons (f := some), List.map_nil (f := some), List.replicate, List.cons_append, List.nil_append, ev_seqM, ev_dropM, ev_callM, ev_aCons, ev_aNil, ev_vr, List.getElem?_cons_zero, List.getElem?_cons_succ, Res.bind_ok, iscurve_run hc, iscurve_run ho, check_run, bindS_ok, ev_parM, ev_cst, zero_rt, List.set, ev_forM, ev_itM, ev_tupM, hs, toDs_dat]
  rw [if_pos e9]
  simp only [Res.bind_ok, bindS_ok]
  rw [← hm, e]
  simp [e6, offD, offR, xs2]
/-! the law's own -/
noncomputable abbrev off_loop : SM := (seqM (setM 5 (callM d_u_law_sub (aCons (callM d_u_law_on_curve (aCons (vr 0) (aCons (vr 2) aNil))) (aCons (callM d_u_law_on_curve (aCons (vr 1) (aCons (vr 2) aNil))) aNil))))
        (seqM (setM 5 (tupM (aCons (opN absD (aCons (op2 ixD (vr 5) (cst (.int 0))) aNil)) (aCons (op2 ixD (vr 5) (cst (.int 1))) aNil))))
        (ifS (orT (truM (op2 isND (vr 3) (cst .none))) (orT (truM (callM d_u_law_less (aCons (vr 3) (aCons (vr 5) aNil)))) (andT (truM (op2 eqD (vr 3) (vr 5))) (truM (callM d_u_law_less (aCons (vr 2) (aCons (vr 4) aNil))))))) (parM 3 4 (aCons (vr 5) (aCons (vr 2) aNil))) skipM)))
theorem size_law (q : Rat) (st : Store) (s : Slots) (hs : s[5]? = some (some (.dat (rt q)))) : (tupM (aCons (opN absD (aCons (op2 ixD (vr 5) (cst (.int 0))) aNil)) (aCons (op2 ixD (vr 5) (cst (.int 1))) aNil))) s st = .ok (.dat (rt (rabs q))) st := by
  have e6 : (2 : Nat) ≤ sizeLine := sl _ (by decide)
  rw [rt_rabs]
  simp [hs, rt, e6]
theorem isND_rt (q : Rat) : isND (rt q) .none = some (.bool false) := rfl
theorem off_run {c o : List Pt} (hc : Good c) (ho : Good o) (st : Store) : ∀ (l : List Rat) (bf : Rat × Rat) (o2 o5 : Option Vl), (∀ x ∈ l, Sz 12 x ∧ 0 ≤ x ∧ x ≤ 1) → Sz 177 bf.1 → Sz 12 bf.2 →
    ∃ o2' o5', loopM (tgM (bName 2) off_loop) (l.map rt) [some (.dat (cvD c)), some (.dat (cvD o)), o2, some (.dat (rt bf.1)), some (.dat (rt bf.2)), o5, none] st
      = .nx [some (.dat (cvD c)), some (.dat (cvD o)), o2', some (.dat (rt (l.foldl (stp (flt c o)) bf).1)), some (.dat (rt (l.foldl (stp (flt c o)) bf).2)), o5', none] st
  | [], bf, o2, o5, _, _, _ => ⟨o2, o5, rfl⟩
  | x :: l, bf, o2, o5, h, h1, h2 => by
    obtain ⟨hp, p0, p1⟩ := h x List.mem_cons_self
    have hf := flt_sz hc ho hp
    have hs := stp_sz (F := flt c o) h1 h2 hf hp
    obtain ⟨o2', o5', ih⟩ := off_run hc ho st l (stp (flt c o) bf x) (some (.dat (rt x))) (some (.dat (rt (flt c o x)))) (fun q hq => h q (List.mem_cons_of_mem _ hq)) hs.1 hs.2
    refine ⟨o2', o5', ?_⟩
    rw [List.map_cons, List.foldl_cons, ← ih, loopM_cons]
    have e1 := lon_run hc hp p0 p1 st
    have e2 := lon_run ho hp p0 p1 st
    have e3 := lsub_run st ((onc_sz hc.sz hp).mono (by decide : 88 ≤ 190)) ((onc_sz ho.sz hp).mono (by decide : 88 ≤ 190))
    have e4 := size_law (onc c x - onc o x) st [some (.dat (cvD c)), some (.dat (cvD o)), some (.dat (rt x)), some (.dat (rt bf.1)), some (.dat (rt bf.2)), some (.dat (rt (onc c x - onc o x))), none] rfl
    have e5 := lless_run st (h1.mono (by decide : 177 ≤ 1000)) (hf.mono (by decide : 177 ≤ 1000))
    have e6 := lless_run st (hp.mono (by decide : 12 ≤ 1000)) (h2.mono (by decide : 12 ≤ 1000))
    have e7 := eqD_rt bf.1 (flt c o x)
    rw [show rabs (onc c x - onc o x) = flt c o x from rfl] at e4
    simp only [seqO_nx, seqO_rt, seqO_exc, optO_some, cnd_true, cnd_false, parO_two, loopO_nx, loopO_rt, loopO_bk, ev_tgM, ev_bName, List.set, ev_seqM, ev_setM, ev_callM, ev_aCons, ev_aNil, ev_vr, List.getElem?_cons_zero, List.getElem?_cons_succ, Res.bind_ok, e1, e2, e3, bindS_ok]
    rw [e4]
    unfold stp
    by_cases k1 : bf.1 < flt c o x
    · rw [if_pos (.inl k1)]
      simp [e5, k1, isND_rt]
    · by_cases k2 : bf.1 = flt c o x
      · have e8 : eqD (rt bf.1) (rt (flt c o x)) = some (.bool true) := by rw [eqD_rt]; simp [k2]
        by_cases k3 : x < bf.2
        · rw [if_pos (.inr ⟨k2, k3⟩)]
          simp [e5, k1, isND_rt, e8, e6, k3]
        · rw [if_neg (by grind)]
          simp [e5, k1, isND_rt, e8, e6, k3]
      · have e8 : eqD (rt bf.1) (rt (flt c o x)) = some (.bool false) := by rw [eqD_rt]; simp [k2]
        rw [if_neg (by grind)]
        simp [e5, k1, isND_rt, e8]
theorem flt_nn (c o : List Pt) (x : Rat) : 0 ≤ flt c o x := rabs_nn _
theorem off_go {c o : List Pt} (hc : Good c) (ho : Good o) (st : Store) : d_u_law_off [.dat (cvD c), .dat (cvD o)] st = .ok (.dat (offD c o)) st := by
  refine call_rt rfl ?_
  have e6 : (2 : Nat) ≤ sizeLine := sl _ (by decide)
  have lx : ∀ (cc : List Pt) (s : Slots), s.length = 7 → lcGo (bName 6) tYesM (op2 ixD (vr 6) (cst (.int 0))) (cc.map ptD) s st = .ok ((cc.map (·.1)).map rt) st := by
    intro cc s hs
    have := lcGo_map (b := bName 6) (e := op2 ixD (vr 6) (cst (.int 0))) (s := s) (st := st) (fun d => match d with | .tuple (x :: _) => x | d => d) (cc.map ptD) fun x hx => by
      obtain ⟨p, _, rfl⟩ := List.mem_map.mp hx
      refine ⟨s.set 6 (some (.dat (ptD p))), rfl, ?_⟩
      simp [hs, ptD]
    rw [this, List.map_map, List.map_map]
    rfl
  obtain ⟨p, r, rfl⟩ : ∃ p r, c = p :: r := by
    have := hc.l2
    cases c with
    | nil => simp at this
    | cons p r => exact ⟨p, r, rfl⟩
  have hz : p.1 = 0 := hc.z
  have hall : ∀ x ∈ xs2 (p :: r) o, Sz 12 x ∧ 0 ≤ x ∧ x ≤ 1 := by
    intro x hx
    unfold xs2 at hx
    rw [← List.map_append] at hx
    obtain ⟨q, hq, rfl⟩ := List.mem_map.mp hx
    exact hc.all2 ho q hq
  have hx2 : xs2 (p :: r) o = 0 :: (r.map (·.1) ++ o.map (·.1)) := by
    unfold xs2
    rw [List.map_cons, hz]
    rfl
  have hf0 := flt_sz hc ho (x := 0) (zero_sz.mono (by decide))
  have z12 : Sz 12 0 := zero_sz.mono (by decide)
  obtain ⟨o2', o5', e⟩ := off_run hc ho st (r.map (·.1) ++ o.map (·.1)) (flt (p :: r) o 0, 0) (some (.dat (rt 0))) (some (.dat (rt (flt (p :: r) o 0)))) (fun x hx => hall x (by rw [hx2]; exact List.mem_cons_of_mem _ hx)) hf0 z12
  have hoff : (r.map (·.1) ++ o.map (·.1)).foldl (stp (flt (p :: r) o)) (flt (p :: r) o 0, 0) = offR (p :: r) o := by
    unfold offR
    rw [hx2, List.foldl_cons]
    congr 1
    unfold stp
    have := flt_nn (p :: r) o 0
    split
    · rfl
    · rename_i k
      have : flt (p :: r) o 0 = 0 := by
        by_cases q : (0 : Rat) < flt (p :: r) o 0
        · exact absurd (.inl q) k
        · grind
      rw [this]
  have q1 : ((List.map (·.1) (p :: r)).map rt).length ≤ sizeLine := by
    rw [List.length_map, List.length_map]
    have := hc.l9
    exact sl _ (by omega)
  have q2 : ((List.map (·.1) o).map rt).length ≤ sizeLine := by
    rw [List.length_map, List.length_map]
    have := ho.l9
    exact sl _ (by omega)
  have q3 : ((List.map (·.1) (p :: r)).map rt).length + ((List.map (·.1) o).map rt).length ≤ sizeLine := by
    rw [List.length_map, List.length_map, List.length_map, List.length_map]
    have := hc.l9
    have := ho.l9
    exact sl _ (by omega)
  have hpar : ∀ s : Slots, s = [some (.dat (cvD (p :: r))), some (.dat (cvD o)), none, none, none, none, none] → parGM [3, 4] (aCons (cst .none) (aCons (cst .none) aNil)) s st = .nx [some (.dat (cvD (p :: r))), some (.dat (cvD o)), none, some (.dat .none), some (.dat .none), none, none] st := by
    rintro s rfl
    simp [parGM, setAll, e6]
  have hit : (itM (op2 addD (lcM (itM (vr 0)) (bName 6) [6] tYesM (op2 ixD (vr 6) (cst (.int 0)))) (lcM (itM (vr 1)) (bName 6) [6] tYesM (op2 ixD (vr 6) (cst (.int 0)))))) [some (.dat (cvD (p :: r))), some (.dat (cvD o)), none, some (.dat .none), some (.dat .none), none, none] st = .ok ((xs2 (p :: r) o).map rt) st := by
    simp only [seqO_nx, seqO_rt, seqO_exc, optO_some, cnd_true, cnd_false, parO_two, loopO_nx, loopO_rt, loopO_bk, ev_itM, ev_op2, ev_lcM, ev_vr, List.getElem?_cons_zero, List.getElem?_cons_succ, Res.bind_ok, cvD]
    rw [lx _ _ rfl]
    simp only [noX_ok, Res.bind_ok]
    rw [if_pos q1]
    simp only [Res.bind_ok]
    rw [lx _ _ rfl]
    simp only [noX_ok, Res.bind_ok]
    rw [if_pos q2]
    simp only [Res.bind_ok, ap2_dat, addD_lst]
    rw [if_pos q3]
    simp only [ofO_some, Res.bind_ok]
    unfold xs2
    rw [List.map_append]
  have f1 := lon_run hc z12 (by decide) (by decide) st
  have f2 := lon_run ho z12 (by decide) (by decide) st
  have f3 := lsub_run st ((onc_sz hc.sz z12).mono (by decide : 88 ≤ 190)) ((onc_sz ho.sz z12).mono (by decide : 88 ≤ 190))
  have f4 := size_law (onc (p :: r) 0 - onc o 0) st [some (.dat (cvD (p :: r))), some (.dat (cvD o)), some (.dat (rt 0)), some (.dat .none), some (.dat .none), some (.dat (rt (onc (p :: r) 0 - onc o 0))), none] rfl
  rw [show rabs (onc (p :: r) 0 - onc o 0) = flt (p :: r) o 0 from rfl] at f4
  simp only [seqO_nx, seqO_rt, seqO_exc, optO_some, cnd_true, cnd_false, parO_two, loopO_nx, loopO_rt, loopO_bk, b_u_law_off, List.map_cons (f := some), List.map_nil (f := some), List.replicate, List.cons_append, List.nil_append, ev_seqM]
  rw [hpar _ rfl, seqO_nx]
  simp only [ev_seqM, seqO_nx, seqO_rt, seqO_exc, optO_some, cnd_true, cnd_false, parO_two, loopO_nx, loopO_rt, loopO_bk, ev_forM, hit, bindS_ok, hx2, List.map_cons (f := rt), loopM_cons]
  simp only [seqO_nx, seqO_rt, seqO_exc, optO_some, cnd_true, cnd_false, parO_two, loopO_nx, loopO_rt, loopO_bk, ev_tgM, ev_bName, List.set, ev_seqM, ev_setM, ev_callM, ev_aCons, ev_aNil, ev_vr, List.getElem?_cons_zero, List.getElem?_cons_succ, Res.bind_ok, f1, f2, f3, bindS_ok]
  rw [f4]
  simp only [seqO_nx, seqO_rt, seqO_exc, optO_some, cnd_true, cnd_false, parO_two, loopO_nx, loopO_rt, loopO_bk, bindS_ok, List.set, ev_ifS, ev_orT, ev_truM, ev_op2, ev_vr, List.getElem?_cons_zero, List.getElem?_cons_succ, Res.bind_ok, ev_cst, ap2_dat, isND_n, ofO_some, peek_dat, truD_bool, if_true, ev_parM, ev_aCons, ev_aNil]
  rw [e, hoff]
  simp [e6, offD]
/-! what the fold tells -/
theorem fold_le {F : Rat → Rat} : ∀ (l : List Rat) (bf : Rat × Rat), bf.1 ≤ (l.foldl (stp F) bf).1 ∧ ∀ x ∈ l, F x ≤ (l.foldl (stp F) bf).1
  | [], bf => ⟨Rat.le_refl, fun _ h => by cases h⟩
  | x :: l, bf => by
    obtain ⟨h1, h2⟩ := fold_le (F := F) l (stp F bf x)
    rw [List.foldl_cons]
    have h3 : bf.1 ≤ (stp F bf x).1 ∧ F x ≤ (stp F bf x).1 := by
      unfold stp
      split
      · rename_i h
        rcases h with h | h
        · exact ⟨Rat.le_of_lt h, Rat.le_refl⟩
        · exact ⟨by rw [h.1]; exact Rat.le_refl, Rat.le_refl⟩
      · rename_i h
        exact ⟨Rat.le_refl, by grind⟩
    refine ⟨by grind, fun y hy => ?_⟩
    cases hy with
    | head => grind
    | tail _ hy => exact h2 y hy
theorem fold_in {F : Rat → Rat} : ∀ (l : List Rat) (bf : Rat × Rat), (l.foldl (stp F) bf) = bf ∨ ∃ x ∈ l, (l.foldl (stp F) bf) = (F x, x)
  | [], bf => .inl rfl
  | x :: l, bf => by
    rw [List.foldl_cons]
    rcases fold_in (F := F) l (stp F bf x) with h | ⟨y, hy, h⟩
    · rw [h]
      unfold stp
      split
      · exact .inr ⟨x, List.mem_cons_self, rfl⟩
      · exact .inl rfl
    · exact .inr ⟨y, List.mem_cons_of_mem _ hy, h⟩
theorem offR_le {c o : List Pt} {b : Rat} (hb : 0 ≤ b) : (¬ b < (offR c o).1) ↔ ∀ x ∈ xs2 c o, ¬ b < flt c o x := by
  constructor
  · intro h x hx
    have := (fold_le (F := flt c o) (xs2 c o) (0, 0)).2 x hx
    unfold offR at h
    grind
  · intro h
    unfold offR
    rcases fold_in (F := flt c o) (xs2 c o) (0, 0) with e | ⟨x, hx, e⟩
    · rw [e]
      grind
    · rw [e]
      exact h x hx
theorem offR_self (c : List Pt) (h : ∀ p ∈ c, 0 ≤ p.1) : offR c c = (0, 0) := by
  unfold offR
  have hz : ∀ x, flt c c x = 0 := fun x => by
    unfold flt
    have : onc c x - onc c x = 0 := by grind
    rw [this]
    rfl
  have : ∀ l : List Rat, (∀ x ∈ l, 0 ≤ x) → l.foldl (stp (flt c c)) (0, 0) = (0, 0) := by
    intro l
    induction l with
    | nil => intro _; rfl
    | cons x l ih =>
      intro hl
      rw [List.foldl_cons]
      have e : stp (flt c c) (0, 0) x = (0, 0) := by
        unfold stp
        have := hl x List.mem_cons_self
        rw [hz]
        rw [if_neg]
        grind
      rw [e]
      exact ih fun y hy => hl y (List.mem_cons_of_mem _ hy)
  refine this _ fun x hx => ?_
  unfold xs2 at hx
  rw [← List.map_append] at hx
  obtain ⟨q, hq, rfl⟩ := List.mem_map.mp hx
  rcases List.mem_append.mp hq with k | k <;> exact h q k
theorem offR_sz {c o : List Pt} (hc : Good c) (ho : Good o) : Sz 177 (offR c o).1 := by
  unfold offR
  rcases fold_in (F := flt c o) (xs2 c o) (0, 0) with e | ⟨x, hx, e⟩
  · rw [e]
    exact zero_sz.mono (by decide)
  · rw [e]
    unfold xs2 at hx
    rw [← List.map_append] at hx
    obtain ⟨q, hq, rfl⟩ := List.mem_map.mp hx
    exact flt_sz hc ho (hc.all2 ho q hq).1
end K23

set_option Elab.async false
set_option linter.all false
set_option maxRecDepth 100000
set_option maxHeartbeats 4000000
set_option exponentiation.threshold 5000
/-! MsK: the curve made small. -/
namespace K23
open PySem L2 Pd
noncomputable abbrev close_loop : SM := (seqM (setM 6 (callM d_add (aCons (vr 8) (aCons (callM d_product (aCons (vr 4) (aCons (callM d_less (aCons (op2 ixD (vr 5) (cst (.int 0))) (aCons (vr 7) aNil))) aNil))) aNil))))
        (ifS (truM (callM d_is_below (aCons (vr 3) (aCons (callM d_size_of (aCons (callM d_less (aCons (vr 6) (aCons (op2 ixD (vr 5) (cst (.int 1))) aNil))) aNil)) aNil)))) (retM (cst (.bool false))) skipM))
theorem seg_slope (p q : Pt) (a : Rat) : p.2 + (q.2 - p.2) / (q.1 - p.1) * (a - p.1) = seg p q a := by
  unfold seg
  rw [Rat.div_def, Rat.div_def]
  grind
theorem close_run {p q : Pt} {b : Rat} (hp : Sz 12 p.1 ∧ Sz 12 p.2) (hq : Sz 12 q.1 ∧ Sz 12 q.2) (hb : Sz 12 b) (cv : D) (i j : Int) (st : Store) : ∀ (l : List Pt) (o5 o6 : Option Vl), (∀ z ∈ l, Sz 12 z.1 ∧ Sz 12 z.2) →
    ∃ s, loopM (tgM (bName 5) close_loop) (l.map ptD) [some (.dat cv), some (.dat (.int i)), some (.dat (.int j)), some (.dat (rt b)), some (.dat (rt ((q.2 - p.2) / (q.1 - p.1)))), o5, o6, some (.dat (rt p.1)), some (.dat (rt p.2)), some (.dat (rt q.1)), some (.dat (rt q.2))] st
      = if (l.all fun z => decide (¬ b < rabs (seg p q z.1 - z.2))) = true then .nx s st else .rt (.dat (.bool false)) st
  | [], o5, o6, _ => ⟨_, rfl⟩
  | z :: l, o5, o6, h => by
    have hz := h z List.mem_cons_self
    have s4 := div_sz (sub_sz hq.2 hp.2) (sub_sz hq.1 hp.1)
    have e2 := less_run st (hz.1.mono (by decide : 12 ≤ 1000)) (hp.1.mono (by decide : 12 ≤ 1000))
    have s2 := sub_sz hz.1 hp.1
    have e3 := product_run st (s4.mono (by decide : 50 ≤ 1000)) (s2.mono (by decide : 25 ≤ 1000))
    have e4 := add_run st (hp.2.mono (by decide : 12 ≤ 1000)) ((mul_sz s4 s2).mono (by decide : 75 ≤ 1000))
    rw [seg_slope] at e4
    have s5 : Sz 88 (seg p q z.1) := seg_run_sz hp hq hz.1
    have e5 := less_run st (s5.mono (by decide : 88 ≤ 1000)) (hz.2.mono (by decide : 12 ≤ 1000))
    have e6 := size_run (seg p q z.1 - z.2) st
    have e7 := below_run st (hb.mono (by decide : 12 ≤ 1000)) ((rabs_sz (sub_sz s5 hz.2)).mono (by decide : 101 ≤ 1000))
    obtain ⟨s, ih⟩ := close_run hp hq hb cv i j st l (some (.dat (ptD z))) (some (.dat (rt (seg p q z.1)))) (fun w hw => h w (List.mem_cons_of_mem _ hw))
    refine ⟨s, ?_⟩
    rw [List.map_cons, loopM_cons, List.all_cons]
    have hpd : ptD z = .tuple [rt z.1, rt z.2] := rfl
    by_cases k : b < rabs (seg p q z.1 - z.2)
    · have : (decide (¬ b < rabs (seg p q z.1 - z.2)) && l.all fun z => decide (¬ b < rabs (seg p q z.1 - z.2))) = false := by simp [k]
      rw [this]
      simp [hpd, e2, e3, e4, e5, e6, e7, k]
    · have : (decide (¬ b < rabs (seg p q z.1 - z.2)) && l.all fun z => decide (¬ b < rabs (seg p q z.1 - z.2))) = l.all fun z => decide (¬ b < rabs (seg p q z.1 - z.2)) := by simp [k]
      rw [this, ← ih]
      simp [hpd, e2, e3, e4, e5, e6, e7, k]
theorem isclose_run {c : List Pt} (h : Good c) {b : Rat} (hb : Sz 12 b) {i j : Nat} (hij : i < j) (hj : j < c.length) (st : Store) : d_is_close [.dat (cvD c), .dat (.int i), .dat (.int j), .dat (rt b)] st = .ok (.dat (.bool (okc c b i j))) st := by
  refine call_rt rfl ?_
  have hp := h.sz _ (pt_mem (i := i) (by omega))
  have hq := h.sz _ (pt_mem hj)
  have g1 := atl_ptD (c := c) (i := i) (by omega)
  have g2 := atl_ptD hj
  have e6 : (2 : Nat) ≤ sizeLine := sl _ (by decide)
  have hlt := h.ris.lt hij hj
  have e1 := less_run st (hq.2.mono (by decide : 12 ≤ 1000)) (hp.2.mono (by decide : 12 ≤ 1000))
  have e2 := less_run st (hq.1.mono (by decide : 12 ≤ 1000)) (hp.1.mono (by decide : 12 ≤ 1000))
  have e3 := share_run st ((sub_sz hq.2 hp.2).mono (by decide : 25 ≤ 1000)) ((sub_sz hq.1 hp.1).mono (by decide : 25 ≤ 1000)) (by grind)
  obtain ⟨s, e⟩ := close_run hp hq hb (cvD c) i j st ((c.take j).drop (i + 1)) none none (fun z hz => h.sz z (List.mem_of_mem_take (List.mem_of_mem_drop hz)))
  have hcut : cutL (c.map ptD) (some ((i : Int) + 1)) (some (j : Int)) = ((c.take j).drop (i + 1)).map ptD := by
    rw [show ((i : Int) + 1) = ((i + 1 : Nat) : Int) from rfl, cutL_mid, List.map_drop, List.map_take]
  have hpd : ∀ z, ptD z = .tuple [rt z.1, rt z.2] := fun _ => rfl
  have ho : okc c b i j = ((c.take j).drop (i + 1)).all fun z => decide (¬ b < rabs (seg (pt c i) (pt c j) z.1 - z.2)) := rfl
  rw [ho]
  simp only [seqO_nx, seqO_rt, seqO_exc, optO_some, cnd_true, cnd_false, parO_two, loopO_nx, loopO_rt, loopO_bk, b_is_close, List.map_cons (f := some), List.map_nil (f := some), List.replicate, List.cons_append, List.nil_append, ev_seqM, ev_asgM, ev_tupM, ev_aCons, ev_aNil, ev_op2, ev_vr, List.getElem?_cons_zero, List.getElem?_cons_succ, Res.bind_ok, ap2_dat, cvD, ixD_tup, Pd.atI_nat, g1, g2, ofO_some, toDs_cons, toDs_nil, toD_dat, List.length_cons, List.length_nil, Nat.zero_add, e6, if_true, bindS_ok, ev_bTup, bAll_cons, bAll_nil, hpd, ev_bName, Option.bind_some, List.set, ev_setM, ev_callM, e1, e2, e3, ev_forM, ev_itM, ev_sliceM, ev_someO, ev_cst, addD_int, peek_dat, sliceD_tup, hcut]
  unfold cvD at e
  rw [e]
  by_cases k : (((c.take j).drop (i + 1)).all fun z => decide (¬ b < rabs (seg (pt c i) (pt c j) z.1 - z.2))) = true
  · rw [if_pos k, k]
    simp
  · rw [if_neg k]
    have : (((c.take j).drop (i + 1)).all fun z => decide (¬ b < rabs (seg (pt c i) (pt c j) z.1 - z.2))) = false := by simpa using k
    rw [this, seqO_rt]
/-! lists of numbers -/
abbrev nI (k : Nat) : D := .int k
theorem rngD_nat (a n : Nat) : rngD a n 1 = (List.range' a n).map nI := by
  induction n generalizing a with
  | zero => rfl
  | succ n ih =>
    rw [rngD_cons, List.range'_succ, List.map_cons]
    have := ih (a + 1)
    rw [show ((a + 1 : Nat) : Int) = (a : Int) + 1 from rfl] at this
    rw [this]
theorem lcGo_filterN {b : BM} {t : TM} {e : EM} {s : Slots} {st : Store} (p : Nat → Bool) : ∀ (l : List Nat), (∀ k ∈ l, ∃ s1, b (.dat (nI k)) s = some s1 ∧ t s1 st = .ok (p k) st ∧ e s1 st = .ok (.dat (nI k)) st) → lcGo b t e (l.map nI) s st = .ok ((l.filter p).map nI) st
  | [], _ => rfl
  | x :: r, k => by
    obtain ⟨s1, e1, e2, e3⟩ := k x List.mem_cons_self
    rw [List.map_cons, lcGo_cons, e1]
    have ih := lcGo_filterN p r fun y hy => k y (List.mem_cons_of_mem _ hy)
    cases hp : p x <;> simp [e2, e3, hp, ih]
theorem lcGo_mapN {b : BM} {e : EM} {s : Slots} {st : Store} (f : Nat → Nat) : ∀ (l : List Nat), (∀ k ∈ l, ∃ s1, b (.dat (nI k)) s = some s1 ∧ e s1 st = .ok (.dat (nI (f k))) st) → lcGo b tYesM e (l.map nI) s st = .ok ((l.map f).map nI) st
  | [], _ => rfl
  | x :: r, k => by
    obtain ⟨s1, e1, e2⟩ := k x List.mem_cons_self
    rw [List.map_cons, lcGo_cons, e1]
    have ih := lcGo_mapN f r fun y hy => k y (List.mem_cons_of_mem _ hy)
    simp [e2, ih]
theorem minD_nat {l : List Nat} (h : l ≠ []) : ∃ m, m ∈ l ∧ (∀ y ∈ l, m ≤ y) ∧ minD [.list (l.map nI)] = some (nI m) := by
  have e : minD [.list (l.map nI)] = ((unInts (l.map nI)).bind minI).map .int := rfl
  have e2 : l.map nI = (l.map fun k : Nat => (k : Int)).map .int := by rw [List.map_map]; rfl
  rw [e, e2, unInts_map, Option.bind_some]
  cases q : minI (l.map fun k : Nat => (k : Int)) with
  | none =>
    cases l with
    | nil => exact absurd rfl h
    | cons x l =>
      exfalso
      rw [List.map_cons] at q
      unfold minI at q
      split at q <;> cases q
  | some m =>
    obtain ⟨h1, h2⟩ := minI_spec q
    obtain ⟨k, hk, rfl⟩ := List.mem_map.mp h1
    refine ⟨k, hk, fun y hy => ?_, rfl⟩
    have := h2 y (List.mem_map.mpr ⟨y, hy, rfl⟩)
    omega
/-! the counts from the end -/
abbrev lD (l : List Nat) : D := .list (l.map nI)
abbrev cW (Ws : List (List Nat)) : Cell := .lst ((Ws.map lD).map .dat)
abbrev cC (Cs : List Nat) : Cell := .lst ((Cs.map nI).map .dat)
theorem st_0 (st : Store) (x y : Cell) : (st ++ [x, y])[st.length]? = some x := by simp
theorem st_1 (st : Store) (x y : Cell) : (st ++ [x, y])[st.length + 1]? = some y := by simp
theorem st_s0 (st : Store) (x y z : Cell) : (st ++ [x, y]).set st.length z = st ++ [z, y] := by simp
theorem st_s1 (st : Store) (x y z : Cell) : (st ++ [x, y]).set (st.length + 1) z = st ++ [x, z] := by simp [List.set_append]
def wy (ok : Nat → Nat → Bool) (last i : Nat) : List Nat := (List.range' (i + 1) (last - i)).filter (ok i)
noncomputable abbrev cnt_loop : SM := (seqM (setIxM (vr 4) (vr 3) (lcM (rng2M (aCons (op2 addD (vr 3) (cst (.int 1))) (aCons (op2 addD (vr 2) (cst (.int 1))) aNil))) (bName 8) [8] (truM (callM d_is_close (aCons (vr 0) (aCons (vr 3) (aCons (vr 8) (aCons (vr 1) aNil)))))) (vr 8)))
        (setIxM (vr 5) (vr 3) (op2 addD (cst (.int 1)) (opN minD (aCons (lcM (itM (op2 ixD (vr 4) (vr 3))) (bName 8) [8] tYesM (op2 ixD (vr 5) (vr 8))) aNil)))))
theorem peek_W {st : Store} {k : Nat} {ds : List D} (h : st[k]? = some (.lst (ds.map .dat))) : peek (.cel k) st = some (.list ds) := by
  simp [peek, h]
theorem cnt_step {c : List Pt} (h : Good c) {b : Rat} (hb : Sz 12 b) {last i : Nat} (hl : c.length = last + 1) (hi : i < last) (Ws : List (List Nat)) (Cs : List Nat) (hW : Ws.length = last + 1) (hC : Cs.length = last + 1) (st : Store) :
    ∃ m, m ∈ (wy (okc c b) last i).map (fun j => Cs.getD j 0) ∧ (∀ y ∈ (wy (okc c b) last i).map (fun j => Cs.getD j 0), m ≤ y) ∧
      cnt_loop [some (.dat (cvD c)), some (.dat (rt b)), some (.dat (nI last)), some (.dat (nI i)), some (.cel st.length), some (.cel (st.length + 1)), none, none, none] (st ++ [cW Ws, cC Cs])
        = .nx [some (.dat (cvD c)), some (.dat (rt b)), some (.dat (nI last)), some (.dat (nI i)), some (.cel st.length), some (.cel (st.length + 1)), none, none, none] (st ++ [cW (Ws.set i (wy (okc c b) last i)), cC (Cs.set i (1 + m))]) := by
  have l9 := h.l9
  have hmem : ∀ j ∈ wy (okc c b) last i, i < j ∧ j ≤ last := fun j hj => by
    have := List.mem_range'_1.mp (List.mem_filter.mp hj).1
    omega
  have hne : wy (okc c b) last i ≠ [] := by
    intro z
    have : i + 1 ∈ wy (okc c b) last i := List.mem_filter.mpr ⟨List.mem_range'_1.mpr ⟨by omega, by omega⟩, okc_next c b i⟩
    rw [z] at this
    cases this
  obtain ⟨m, m1, m2, m3⟩ := minD_nat (l := (wy (okc c b) last i).map (fun j => Cs.getD j 0)) (by simpa using hne)
  refine ⟨m, m1, m2, ?_⟩
  let S : Slots := [some (.dat (cvD c)), some (.dat (rt b)), some (.dat (nI last)), some (.dat (nI i)), some (.cel st.length), some (.cel (st.length + 1)), none, none, none]
  have hS : S = [some (.dat (cvD c)), some (.dat (rt b)), some (.dat (nI last)), some (.dat (nI i)), some (.cel st.length), some (.cel (st.length + 1)), none, none, none] := rfl
  rw [← hS]
  have wl : (wy (okc c b) last i).length ≤ 60 := by
    have := List.length_filter_le (okc c b i) (List.range' (i + 1) (last - i))
    rw [List.length_range'] at this
    unfold wy
    omega
  -- ways
  have r1 : rng2M (aCons (op2 addD (vr 3) (cst (.int 1))) (aCons (op2 addD (vr 2) (cst (.int 1))) aNil)) S (st ++ [cW Ws, cC Cs]) = .ok ((List.range' (i + 1) (last - i)).map nI) (st ++ [cW Ws, cC Cs]) := by
    have := run_rng2 (m := aCons (op2 addD (vr 3) (cst (.int 1))) (aCons (op2 addD (vr 2) (cst (.int 1))) aNil)) (s := S) (st := st ++ [cW Ws, cC Cs]) (st1 := st ++ [cW Ws, cC Cs]) (i := i + 1) (j := last + 1) (by simp [S, nI]) (by omega) (by omega)
    rw [this, rngD_nat, show last + 1 - (i + 1) = last - i by omega]
  have f1 : lcM (rng2M (aCons (op2 addD (vr 3) (cst (.int 1))) (aCons (op2 addD (vr 2) (cst (.int 1))) aNil))) (bName 8) [8] (truM (callM d_is_close (aCons (vr 0) (aCons (vr 3) (aCons (vr 8) (aCons (vr 1) aNil)))))) (vr 8) S (st ++ [cW Ws, cC Cs]) = .ok (.dat (lD (wy (okc c b) last i))) (st ++ [cW Ws, cC Cs]) := by
    rw [ev_lcM, r1]
    simp only [Res.bind_ok]
    rw [lcGo_filterN (okc c b i)]
    · simp only [noX_ok, Res.bind_ok]
      rw [if_pos (by rw [List.length_map]; exact sl _ wl)]
      rfl
    · intro k hk
      have hk2 := List.mem_range'_1.mp hk
      refine ⟨(wipeS S [8]).set 8 (some (.dat (nI k))), rfl, ?_, ?_⟩
      · have e := isclose_run h hb (i := i) (j := k) (by omega) (by omega) (st ++ [cW Ws, cC Cs])
        simp [S, wipeS, e]
      · simp [S, wipeS]
  have gi : ixN (Ws.map lD).length (i : Int) = some i := by
    unfold ixN
    rw [if_pos (by omega), List.length_map, hW, if_pos (by omega), Int.toNat_natCast]
  have gi2 : ixN (Cs.map nI).length (i : Int) = some i := by
    unfold ixN
    rw [if_pos (by omega), List.length_map, hC, if_pos (by omega), Int.toNat_natCast]
  have g1 : lstAt (.cel st.length) (st ++ [cW Ws, cC Cs]) = some (st.length, (Ws.map lD).map .dat) := by
    simp [lstAt]
  have h1 : setIxM (vr 4) (vr 3) (lcM (rng2M (aCons (op2 addD (vr 3) (cst (.int 1))) (aCons (op2 addD (vr 2) (cst (.int 1))) aNil))) (bName 8) [8] (truM (callM d_is_close (aCons (vr 0) (aCons (vr 3) (aCons (vr 8) (aCons (vr 1) aNil)))))) (vr 8)) S (st ++ [cW Ws, cC Cs])
      = .nx S (st ++ [cW (Ws.set i (wy (okc c b) last i)), cC Cs]) := by
    unfold setIxM
    rw [f1]
    have v4 : vr 4 S (st ++ [cW Ws, cC Cs]) = .ok (.cel st.length) (st ++ [cW Ws, cC Cs]) := rfl
    have v3 : vr 3 S (st ++ [cW Ws, cC Cs]) = .ok (.dat (nI i)) (st ++ [cW Ws, cC Cs]) := rfl
    simp only [bindS_ok, toD_dat, v4, v3, g1, nI, List.length_map] at gi ⊢
    rw [gi]
    simp only []
    rw [st_s0]
    simp [List.map_set]
  have p1 : peek (.cel st.length) (st ++ [cW (Ws.set i (wy (okc c b) last i)), cC Cs]) = some (.list ((Ws.set i (wy (okc c b) last i)).map lD)) := peek_W (st_0 _ _ _)
  have p2 : peek (.cel (st.length + 1)) (st ++ [cW (Ws.set i (wy (okc c b) last i)), cC Cs]) = some (.list (Cs.map nI)) := peek_W (st_1 _ _ _)
  have g3 : ((Ws.set i (wy (okc c b) last i)).map lD)[i]? = some (lD (wy (okc c b) last i)) := by
    rw [List.getElem?_map, List.getElem?_set_self (by omega)]
    rfl
  have f2 : lcM (itM (op2 ixD (vr 4) (vr 3))) (bName 8) [8] tYesM (op2 ixD (vr 5) (vr 8)) S (st ++ [cW (Ws.set i (wy (okc c b) last i)), cC Cs]) = .ok (.dat (.list (((wy (okc c b) last i).map (fun j => Cs.getD j 0)).map nI))) (st ++ [cW (Ws.set i (wy (okc c b) last i)), cC Cs]) := by
    have v : itM (op2 ixD (vr 4) (vr 3)) S (st ++ [cW (Ws.set i (wy (okc c b) last i)), cC Cs]) = .ok ((wy (okc c b) last i).map nI) (st ++ [cW (Ws.set i (wy (okc c b) last i)), cC Cs]) := by
      simp only [seqO_nx, seqO_rt, seqO_exc, optO_some, cnd_true, cnd_false, parO_two, loopO_nx, loopO_rt, loopO_bk, ev_itM, ev_op2, ev_vr, S, List.getElem?_cons_zero, List.getElem?_cons_succ, Res.bind_ok, ap2, p1, peek_dat, ixD_lst, nI, Pd.atI_nat, g3, ofO_some]
    rw [ev_lcM, v]
    simp only [Res.bind_ok]
    rw [lcGo_mapN (fun j => Cs.getD j 0)]
    · simp only [noX_ok, Res.bind_ok]
      rw [if_pos (by rw [List.length_map, List.length_map]; exact sl _ wl)]
    · intro k hk
      have hk2 := hmem k hk
      refine ⟨(wipeS S [8]).set 8 (some (.dat (nI k))), rfl, ?_⟩
      have g4 : (Cs.map nI)[k]? = some (nI (Cs.getD k 0)) := by
        rw [List.getElem?_map, List.getElem?_eq_getElem (by omega), getD_lt _ _ (by omega)]
        rfl
      simp only [seqO_nx, seqO_rt, seqO_exc, optO_some, cnd_true, cnd_false, parO_two, loopO_nx, loopO_rt, loopO_bk, ev_op2, ev_vr, S, wipeS, List.set, List.getElem?_cons_zero, List.getElem?_cons_succ, Res.bind_ok, ap2, p2, peek_dat, ixD_lst, nI, Pd.atI_nat, g4, ofO_some]
  have f3 : op2 addD (cst (.int 1)) (opN minD (aCons (lcM (itM (op2 ixD (vr 4) (vr 3))) (bName 8) [8] tYesM (op2 ixD (vr 5) (vr 8))) aNil)) S (st ++ [cW (Ws.set i (wy (okc c b) last i)), cC Cs]) = .ok (.dat (nI (1 + m))) (st ++ [cW (Ws.set i (wy (okc c b) last i)), cC Cs]) := by
    simp only [seqO_nx, seqO_rt, seqO_exc, optO_some, cnd_true, cnd_false, parO_two, loopO_nx, loopO_rt, loopO_bk, ev_op2, ev_cst, ev_opN, ev_aCons, ev_aNil, f2, Res.bind_ok, apN1, m3, ofO_some, nI, ap2_dat, addD_int]
    rfl
  have g2 : lstAt (.cel (st.length + 1)) (st ++ [cW (Ws.set i (wy (okc c b) last i)), cC Cs]) = some (st.length + 1, (Cs.map nI).map .dat) := by
    simp [lstAt]
  have h2 : setIxM (vr 5) (vr 3) (op2 addD (cst (.int 1)) (opN minD (aCons (lcM (itM (op2 ixD (vr 4) (vr 3))) (bName 8) [8] tYesM (op2 ixD (vr 5) (vr 8))) aNil))) S (st ++ [cW (Ws.set i (wy (okc c b) last i)), cC Cs])
      = .nx S (st ++ [cW (Ws.set i (wy (okc c b) last i)), cC (Cs.set i (1 + m))]) := by
    unfold setIxM
    rw [f3]
    have v5 : vr 5 S (st ++ [cW (Ws.set i (wy (okc c b) last i)), cC Cs]) = .ok (.cel (st.length + 1)) (st ++ [cW (Ws.set i (wy (okc c b) last i)), cC Cs]) := rfl
    have v3 : vr 3 S (st ++ [cW (Ws.set i (wy (okc c b) last i)), cC Cs]) = .ok (.dat (nI i)) (st ++ [cW (Ws.set i (wy (okc c b) last i)), cC Cs]) := rfl
    simp only [bindS_ok, toD_dat, v5, v3, g2, nI, List.length_map] at gi2 ⊢
    rw [gi2]
    simp only []
    rw [st_s1]
    simp [List.map_set]
    rfl
  rw [cnt_loop, ev_seqM, h1]
  exact h2
structure Inv (ok : Nat → Nat → Bool) (last n : Nat) (Ws : List (List Nat)) (Cs : List Nat) : Prop where
  lw : Ws.length = last + 1
  lc : Cs.length = last + 1
  z : Cs.getD last 0 = 0
  w : ∀ i, n ≤ i → i < last → Ws.getD i [] = wy ok last i
  le : ∀ i, n ≤ i → i < last → ∀ j ∈ wy ok last i, Cs.getD i 0 ≤ 1 + Cs.getD j 0
  ex : ∀ i, n ≤ i → i < last → ∃ j ∈ wy ok last i, Cs.getD i 0 = 1 + Cs.getD j 0
theorem wy_mem {ok : Nat → Nat → Bool} {last i j : Nat} (h : j ∈ wy ok last i) : i < j ∧ j ≤ last ∧ ok i j = true := by
  have h1 := List.mem_filter.mp h
  have := List.mem_range'_1.mp h1.1
  exact ⟨by omega, by omega, h1.2⟩
theorem getD_set_ne {α : Type} (l : List α) (d x : α) {i j : Nat} (h : i ≠ j) : (l.set i x).getD j d = l.getD j d := by
  rw [List.getD_eq_getElem?_getD, List.getD_eq_getElem?_getD, List.getElem?_set_ne h]
theorem getD_set_self {α : Type} (l : List α) (d x : α) {i : Nat} (h : i < l.length) : (l.set i x).getD i d = x := by
  rw [List.getD_eq_getElem?_getD, List.getElem?_set_self h]
  rfl
theorem Inv.step {ok : Nat → Nat → Bool} {last n : Nat} {Ws : List (List Nat)} {Cs : List Nat} (h : Inv ok last (n + 1) Ws Cs) (hn : n < last) {m : Nat} (m1 : m ∈ (wy ok last n).map fun j => Cs.getD j 0) (m2 : ∀ y ∈ (wy ok last n).map fun j => Cs.getD j 0, m ≤ y) : Inv ok last n (Ws.set n (wy ok last n)) (Cs.set n (1 + m)) := by
  have lw := h.lw
  have lc := h.lc
  refine ⟨by rw [List.length_set]; exact lw, by rw [List.length_set]; exact lc, by rw [getD_set_ne _ _ _ (by omega)]; exact h.z, fun i h1 h2 => ?_, fun i h1 h2 j hj => ?_, fun i h1 h2 => ?_⟩
  · by_cases e : n = i
    · subst e
      exact getD_set_self _ _ _ (by omega)
    · rw [getD_set_ne _ _ _ e]
      exact h.w i (by omega) h2
  · have hj2 := wy_mem hj
    rw [getD_set_ne (i := n) (j := j) _ _ _ (by omega)]
    by_cases e : n = i
    · subst e
      rw [getD_set_self _ _ _ (by omega)]
      have := m2 _ (List.mem_map.mpr ⟨j, hj, rfl⟩)
      omega
    · rw [getD_set_ne _ _ _ e]
      exact h.le i (by omega) h2 j hj
  · by_cases e : n = i
    · subst e
      obtain ⟨j, hj, rfl⟩ := List.mem_map.mp m1
      have hj2 := wy_mem hj
      refine ⟨j, hj, ?_⟩
      rw [getD_set_self _ _ _ (by omega), getD_set_ne _ _ _ (by omega)]
    · obtain ⟨j, hj, e2⟩ := h.ex i (by omega) h2
      have hj2 := wy_mem hj
      refine ⟨j, hj, ?_⟩
      rw [getD_set_ne _ _ _ e, getD_set_ne _ _ _ (by omega)]
      exact e2
theorem Inv.cnt {ok : Nat → Nat → Bool} {last : Nat} {Ws : List (List Nat)} {Cs : List Nat} (h : Inv ok last 0 Ws Cs) : Cnt ok last fun i => Cs.getD i 0 where
  z := h.z
  le := fun i j h1 h2 h3 => h.le i (by omega) (by omega) j (List.mem_filter.mpr ⟨List.mem_range'_1.mpr ⟨by omega, by omega⟩, h3⟩)
  ex := fun i hi => by
    obtain ⟨j, hj, e⟩ := h.ex i (by omega) hi
    obtain ⟨a, b, c⟩ := wy_mem hj
    exact ⟨j, a, b, c, e⟩
theorem cnt_run {c : List Pt} (h : Good c) {b : Rat} (hb : Sz 12 b) {last : Nat} (hl : c.length = last + 1) (st : Store) : ∀ (n : Nat) (Ws : List (List Nat)) (Cs : List Nat) (o : Option Vl), n ≤ last → Inv (okc c b) last n Ws Cs →
    ∃ Ws' Cs' o', Inv (okc c b) last 0 Ws' Cs' ∧ loopM (tgM (bName 3) cnt_loop) (rngD ((n : Int) - 1) n (-1)) [some (.dat (cvD c)), some (.dat (rt b)), some (.dat (nI last)), o, some (.cel st.length), some (.cel (st.length + 1)), none, none, none] (st ++ [cW Ws, cC Cs])
      = .nx [some (.dat (cvD c)), some (.dat (rt b)), some (.dat (nI last)), o', some (.cel st.length), some (.cel (st.length + 1)), none, none, none] (st ++ [cW Ws', cC Cs'])
  | 0, Ws, Cs, o, _, hi => ⟨Ws, Cs, o, hi, rfl⟩
  | n + 1, Ws, Cs, o, hn, hi => by
    obtain ⟨m, m1, m2, e⟩ := cnt_step h hb hl (i := n) (by omega) Ws Cs hi.lw hi.lc st
    obtain ⟨Ws', Cs', o', h1, h2⟩ := cnt_run h hb hl st n _ _ (some (.dat (nI n))) (by omega) (hi.step (by omega) m1 m2)
    refine ⟨Ws', Cs', o', h1, ?_⟩
    have e1 : ((n + 1 : Nat) : Int) - 1 = (n : Int) := by omega
    rw [← h2, e1, rngD_cons, loopM_cons]
    have e2 : tgM (bName 3) cnt_loop (.int n) [some (.dat (cvD c)), some (.dat (rt b)), some (.dat (nI last)), o, some (.cel st.length), some (.cel (st.length + 1)), none, none, none] (st ++ [cW Ws, cC Cs]) = cnt_loop [some (.dat (cvD c)), some (.dat (rt b)), some (.dat (nI last)), some (.dat (nI n)), some (.cel st.length), some (.cel (st.length + 1)), none, none, none] (st ++ [cW Ws, cC Cs]) := by simp only [seqO_nx, seqO_rt, seqO_exc, optO_some, cnd_true, cnd_false, parO_two, loopO_nx, loopO_rt, loopO_bk, ev_tgM, ev_bName, List.set]
    rw [e2, e, loopO_nx]
    rw [show (n : Int) + -1 = (n : Int) - 1 from rfl]
/-! the path -/
def path (ok : Nat → Nat → Bool) (last : Nat) (cnt : Nat → Nat) : List Nat := 0 :: grow ok last cnt (cnt 0) 0
noncomputable abbrev way_loop : SM := (seqM (setM 3 (op2 ixD (lcM (itM (op2 ixD (vr 4) (vr 3))) (bName 8) [8] (truM (op2 eqD (op2 ixD (vr 5) (vr 8)) (op2 subD (op2 ixD (vr 5) (vr 3)) (cst (.int 1))))) (vr 8)) (cst (.int 0))))
        (dropM (appM (vr 6) (op2 ixD (vr 0) (vr 3)))))
abbrev cP (F : List Pt) : Cell := .lst ((F.map ptD).map .dat)
theorem way_step {c : List Pt} (h : Good c) {b : Rat} {last i : Nat} (hl : c.length = last + 1) (hi : i < last) {Ws : List (List Nat)} {Cs : List Nat} (hI : Inv (okc c b) last 0 Ws Cs) (F : List Pt) (hF : F.length ≤ 50) (st : Store) :
    way_loop [some (.dat (cvD c)), some (.dat (rt b)), some (.dat (nI last)), some (.dat (nI i)), some (.cel st.length), some (.cel (st.length + 1)), some (.cel (st.length + 2)), none, none] (st ++ [cW Ws, cC Cs, cP F])
      = .nx [some (.dat (cvD c)), some (.dat (rt b)), some (.dat (nI last)), some (.dat (nI (nxt (okc c b) last (fun i => Cs.getD i 0) i))), some (.cel st.length), some (.cel (st.length + 1)), some (.cel (st.length + 2)), none, none] (st ++ [cW Ws, cC Cs, cP (F ++ [pt c (nxt (okc c b) last (fun i => Cs.getD i 0) i)])]) := by
  have l9 := h.l9
  have hC := hI.cnt
  have lw := hI.lw
  have lc := hI.lc
  obtain ⟨k1, k2, k3, k4⟩ := hC.nxt_spec hi
  have kf := hC.nxt_find hi
  let S : Slots := [some (.dat (cvD c)), some (.dat (rt b)), some (.dat (nI last)), some (.dat (nI i)), some (.cel st.length), some (.cel (st.length + 1)), some (.cel (st.length + 2)), none, none]
  have hS : S = [some (.dat (cvD c)), some (.dat (rt b)), some (.dat (nI last)), some (.dat (nI i)), some (.cel st.length), some (.cel (st.length + 1)), some (.cel (st.length + 2)), none, none] := rfl
  rw [← hS]
  have p1 : peek (.cel st.length) (st ++ [cW Ws, cC Cs, cP F]) = some (.list (Ws.map lD)) := peek_W (by simp)
  have p2 : peek (.cel (st.length + 1)) (st ++ [cW Ws, cC Cs, cP F]) = some (.list (Cs.map nI)) := peek_W (by simp)
  have g3 : (Ws.map lD)[i]? = some (lD (wy (okc c b) last i)) := by
    have := hI.w i (Nat.zero_le _) hi
    rw [getD_lt _ _ (by omega)] at this
    rw [List.getElem?_map, List.getElem?_eq_getElem (by omega), this]
    rfl
  have g4 : ∀ k, k ≤ last → (Cs.map nI)[k]? = some (nI (Cs.getD k 0)) := fun k hk => by
    rw [List.getElem?_map, List.getElem?_eq_getElem (by omega), getD_lt _ _ (by omega)]
    rfl
  have wl : (wy (okc c b) last i).length ≤ 60 := by
    have := List.length_filter_le (okc c b i) (List.range' (i + 1) (last - i))
    rw [List.length_range'] at this
    unfold wy
    omega
  have v : itM (op2 ixD (vr 4) (vr 3)) S (st ++ [cW Ws, cC Cs, cP F]) = .ok ((wy (okc c b) last i).map nI) (st ++ [cW Ws, cC Cs, cP F]) := by
    simp only [seqO_nx, seqO_rt, seqO_exc, optO_some, cnd_true, cnd_false, parO_two, loopO_nx, loopO_rt, loopO_bk, ev_itM, ev_op2, ev_vr, S, List.getElem?_cons_zero, List.getElem?_cons_succ, Res.bind_ok, ap2, p1, peek_dat, ixD_lst, nI, Pd.atI_nat, g3, ofO_some]
  have f1 : lcM (itM (op2 ixD (vr 4) (vr 3))) (bName 8) [8] (truM (op2 eqD (op2 ixD (vr 5) (vr 8)) (op2 subD (op2 ixD (vr 5) (vr 3)) (cst (.int 1))))) (vr 8) S (st ++ [cW Ws, cC Cs, cP F]) = .ok (.dat (.list (((wy (okc c b) last i).filter fun j => Cs.getD j 0 + 1 == Cs.getD i 0).map nI))) (st ++ [cW Ws, cC Cs, cP F]) := by
    rw [ev_lcM, v]
    simp only [Res.bind_ok]
    rw [lcGo_filterN fun j => Cs.getD j 0 + 1 == Cs.getD i 0]
    · simp only [noX_ok, Res.bind_ok]
      rw [if_pos (by
        rw [List.length_map]
        exact sl _ (Nat.le_trans (List.length_filter_le _ _) wl))]
    · intro k hk
      have hk2 := wy_mem hk
      refine ⟨(wipeS S [8]).set 8 (some (.dat (nI k))), rfl, ?_, ?_⟩
      · have e : decide ((Cs.getD k 0 : Int) = (Cs.getD i 0 : Int) - 1) = (Cs.getD k 0 + 1 == Cs.getD i 0) := by
          by_cases q : Cs.getD k 0 + 1 = Cs.getD i 0
          · rw [decide_eq_true (by omega), beq_iff_eq.mpr q]
          · rw [decide_eq_false (by omega), beq_eq_false_iff_ne.mpr q]
        simp only [seqO_nx, seqO_rt, seqO_exc, optO_some, cnd_true, cnd_false, parO_two, loopO_nx, loopO_rt, loopO_bk, ev_truM, ev_op2, ev_vr, ev_cst, S, wipeS, List.set, List.getElem?_cons_zero, List.getElem?_cons_succ, Res.bind_ok, ap2, p2, peek_dat, ixD_lst, nI, Pd.atI_nat, g4 k hk2.2.1, g4 i (by omega), ofO_some, subD_int, eqD_int, truD_bool, e]
      · simp [S, wipeS]
  have hh : ((wy (okc c b) last i).filter fun j => Cs.getD j 0 + 1 == Cs.getD i 0)[0]? = some (nxt (okc c b) last (fun i => Cs.getD i 0) i) := by
    rw [← List.head?_eq_getElem?, List.head?_filter]
    unfold wy
    have e : (fun a => decide (okc c b i a = true ∧ (Cs.getD a 0 + 1 == Cs.getD i 0) = true)) = fun j => okc c b i j && (Cs.getD j 0 + 1 == Cs.getD i 0) := by
      funext a
      cases okc c b i a <;> cases (Cs.getD a 0 + 1 == Cs.getD i 0) <;> rfl
    rw [List.find?_filter, e]
    exact kf
  have f2 : setM 3 (op2 ixD (lcM (itM (op2 ixD (vr 4) (vr 3))) (bName 8) [8] (truM (op2 eqD (op2 ixD (vr 5) (vr 8)) (op2 subD (op2 ixD (vr 5) (vr 3)) (cst (.int 1))))) (vr 8)) (cst (.int 0))) S (st ++ [cW Ws, cC Cs, cP F]) = .nx (S.set 3 (some (.dat (nI (nxt (okc c b) last (fun i => Cs.getD i 0) i))))) (st ++ [cW Ws, cC Cs, cP F]) := by
    rw [ev_setM, ev_op2, f1]
    simp only [seqO_nx, seqO_rt, seqO_exc, optO_some, cnd_true, cnd_false, parO_two, loopO_nx, loopO_rt, loopO_bk, Res.bind_ok, ev_cst, ap2_dat, ixD_lst, atI_0, List.getElem?_map, hh, Option.map_some, ofO_some, bindS_ok]
  rw [way_loop, ev_seqM, f2]
  have g5 := atl_ptD (c := c) (i := nxt (okc c b) last (fun i => Cs.getD i 0) i) (by omega)
  have l1 : lstAt (.cel (st.length + 2)) (st ++ [cW Ws, cC Cs, cP F]) = some (st.length + 2, (F.map ptD).map .dat) := by
    simp [lstAt]
  have e5 : (F.map ptD).length < sizeLine := by
    rw [List.length_map]
    exact Nat.lt_of_lt_of_le (m := 60) (by omega) (sl _ (by decide))
  have e6 : ((F.map ptD).map Vl.dat).length < sizeLine := by
    rw [List.length_map]
    exact e5
  generalize nxt (okc c b) last (fun i => Cs.getD i 0) i = z at *
  show bindS (appM _ _ _ _) _ _ = _
  unfold appM
  simp only [seqO_nx, seqO_rt, seqO_exc, optO_some, cnd_true, cnd_false, parO_two, loopO_nx, loopO_rt, loopO_bk, ev_vr, S, List.set, List.getElem?_cons_zero, List.getElem?_cons_succ, Res.bind_ok, l1, ev_op2, cvD, ap2_dat, nI, ixD_tup, Pd.atI_nat, g5, ofO_some, toD_dat]
  rw [if_pos e6]
  simp only [bindS_ok]
  have e7 : (st ++ [cW Ws, cC Cs, cP F]).set (st.length + 2) (.lst ((F.map ptD).map .dat ++ [.dat (ptD (pt c z))])) = st ++ [cW Ws, cC Cs, cP (F ++ [pt c z])] := by
    simp [List.set_append]
  rw [e7]
theorem way_run {c : List Pt} (h : Good c) {b : Rat} {last : Nat} (hl : c.length = last + 1) {Ws : List (List Nat)} {Cs : List Nat} (hI : Inv (okc c b) last 0 Ws Cs) (st : Store) : ∀ (n i : Nat) (F : List Pt), Cs.getD i 0 = n → i ≤ last → F.length + n ≤ 50 →
    ∃ k, whileN (truM (op2 ltD (vr 3) (vr 2))) way_loop k [some (.dat (cvD c)), some (.dat (rt b)), some (.dat (nI last)), some (.dat (nI i)), some (.cel st.length), some (.cel (st.length + 1)), some (.cel (st.length + 2)), none, none] (st ++ [cW Ws, cC Cs, cP F])
      = .nx [some (.dat (cvD c)), some (.dat (rt b)), some (.dat (nI last)), some (.dat (nI last)), some (.cel st.length), some (.cel (st.length + 1)), some (.cel (st.length + 2)), none, none] (st ++ [cW Ws, cC Cs, cP (F ++ (grow (okc c b) last (fun i => Cs.getD i 0) n i).map (pt c))])
  | 0, i, F, hn, hi, hF => by
    have e : i = last := hI.cnt.zero hi hn
    subst e
    refine ⟨1, ?_⟩
    rw [whileN_succ]
    simp [grow]
  | n + 1, i, F, hn, hi, hF => by
    have hlt : i < last := by
      rcases Nat.lt_or_ge i last with z | z
      · exact z
      · have e : i = last := by omega
        subst e
        rw [hI.z] at hn
        omega
    obtain ⟨k1, k2, k3, k4⟩ := hI.cnt.nxt_spec hlt
    obtain ⟨k, e⟩ := way_run h hl hI st n (nxt (okc c b) last (fun i => Cs.getD i 0) i) (F ++ [pt c (nxt (okc c b) last (fun i => Cs.getD i 0) i)]) (by omega) k2 (by simp; omega)
    refine ⟨k + 1, ?_⟩
    have w := way_step h hl hlt hI F (by omega) st
    have e2 : truM (op2 ltD (vr 3) (vr 2)) [some (.dat (cvD c)), some (.dat (rt b)), some (.dat (nI last)), some (.dat (nI i)), some (.cel st.length), some (.cel (st.length + 1)), some (.cel (st.length + 2)), none, none] (st ++ [cW Ws, cC Cs, cP F]) = .ok true (st ++ [cW Ws, cC Cs, cP F]) := by
      simp [nI, hlt]
    rw [whileN_succ, e2, bindS_ok, cnd_true, w, loopO_nx, e, List.append_assoc]
    rfl
theorem rep_flat : ∀ n : Nat, (List.replicate n [PyData.int 0]).flatten = (List.replicate n 0).map nI
  | 0 => rfl
  | n + 1 => by
    rw [List.replicate_succ, List.flatten_cons, rep_flat n]
    rfl
theorem two63 {n : Nat} (h : n < 1000000) : -(2 ^ 63) ≤ (n : Int) ∧ (n : Int) < 2 ^ 63 := by
  have e : (2 : Int) ^ 63 = 9223372036854775808 := by decide
  rw [e]
  omega
theorem rep_run {n : Nat} (h : n ≤ 9) : repL (.list [.int 0]) (.int n) = some ((List.replicate n 0).map nI) := by
  have q0 : repL (.list [.int 0]) (.int n) = if (-(2 ^ 63) ≤ (n : Int) ∧ (n : Int) < 2 ^ 63) ∧ ([PyData.int 0].length) * (n : Int).toNat ≤ sizeLine then some (List.replicate (n : Int).toNat [PyData.int 0]).flatten else none := rfl
  have q1 : ([PyData.int 0].length) * (n : Int).toNat ≤ sizeLine := by
    rw [Int.toNat_natCast, List.length_singleton, Nat.one_mul]
    exact sl _ (by omega)
  rw [q0, if_pos ⟨two63 (by omega), q1⟩, Int.toNat_natCast, rep_flat]
theorem made_pre {c : List Pt} (h : Good c) {b : Rat} {last : Nat} (hl : c.length = last + 1) (st : Store) (s : Slots) (hs : s = [some (.dat (cvD c)), some (.dat (rt b)), some (.dat (nI last)), none, none, none, none, none, none]) :
    parGM [4, 5] (aCons (lcC (itM (vr 0)) (bName 7) [7] tYesM (lstD aNil)) (aCons (op2C repL (lstD (aCons (cst (.int 0)) aNil)) (opN lenD (aCons (vr 0) aNil))) aNil)) s st
      = .nx [some (.dat (cvD c)), some (.dat (rt b)), some (.dat (nI last)), none, some (.cel st.length), some (.cel (st.length + 1)), none, none, none] (st ++ [cW (List.replicate (last + 1) []), cC (List.replicate (last + 1) 0)]) := by
  subst hs
  have l9 := h.l9
  have e0 : (0 : Nat) ≤ sizeLine := Nat.zero_le _
  have e1 : (1 : Nat) ≤ sizeLine := sl _ (by decide)
  have e2 : (2 : Nat) ≤ sizeLine := sl _ (by decide)
  have f1 : lcGo (bName 7) tYesM (lstD aNil) (c.map ptD) (wipeS [some (.dat (cvD c)), some (.dat (rt b)), some (.dat (nI last)), none, none, none, none, none, none] [7]) st = .ok ((c.map ptD).map fun _ => lD []) st := by
    refine lcGo_map (fun _ => lD []) _ fun x hx => ⟨_, rfl, ?_⟩
    simp [e0, lD]
  have e3 : ((c.map ptD).map fun _ => lD []).length ≤ sizeLine := by
    rw [List.length_map, List.length_map]
    exact sl _ (by omega)
  have e4 : ((c.map ptD).map fun _ => lD []) = (List.replicate (last + 1) []).map lD := by
    rw [List.map_map, List.map_replicate, ← hl]
    exact List.map_const' ..
  have f2 : lcC (itM (vr 0)) (bName 7) [7] tYesM (lstD aNil) [some (.dat (cvD c)), some (.dat (rt b)), some (.dat (nI last)), none, none, none, none, none, none] st = .ok (.cel st.length) (st ++ [cW (List.replicate (last + 1) [])]) := by
    unfold lcC lcL
    rw [show itM (vr 0) [some (.dat (cvD c)), some (.dat (rt b)), some (.dat (nI last)), none, none, none, none, none, none] st = .ok (c.map ptD) st from rfl, Res.bind_ok, f1, noX_ok, Res.bind_ok, if_pos e3, Res.bind_ok, e4]
  have f3 : repL (.list [.int 0]) (.int c.length) = some ((List.replicate (last + 1) 0).map nI) := by
    rw [← hl]
    exact rep_run l9
  have f4 : op2C repL (lstD (aCons (cst (.int 0)) aNil)) (opN lenD (aCons (vr 0) aNil)) [some (.dat (cvD c)), some (.dat (rt b)), some (.dat (nI last)), none, none, none, none, none, none] (st ++ [cW (List.replicate (last + 1) [])]) = .ok (.cel (st.length + 1)) (st ++ [cW (List.replicate (last + 1) []), cC (List.replicate (last + 1) 0)]) := by
    have g1 : lstD (aCons (cst (.int 0)) aNil) [some (.dat (cvD c)), some (.dat (rt b)), some (.dat (nI last)), none, none, none, none, none, none] (st ++ [cW (List.replicate (last + 1) [])]) = .ok (.dat (.list [.int 0])) (st ++ [cW (List.replicate (last + 1) [])]) := by
      simp [e1]
    have g2 : opN lenD (aCons (vr 0) aNil) [some (.dat (cvD c)), some (.dat (rt b)), some (.dat (nI last)), none, none, none, none, none, none] (st ++ [cW (List.replicate (last + 1) [])]) = .ok (.dat (.int c.length)) (st ++ [cW (List.replicate (last + 1) [])]) := by
      simp [cvD]
    rw [ev_op2C, g1, Res.bind_ok, g2, Res.bind_ok, apC_dat, f3, outC_some]
    simp
  unfold parGM
  rw [ev_aCons, f2, Res.bind_ok, ev_aCons, f4]
  simp [setAll, e2]
theorem made_run_small {c : List Pt} (h : Good c) {b : Rat} (hb : Sz 12 b) (h0 : 0 ≤ b) (st : Store) : ∃ cnt, Cnt (okc c b) (c.length - 1) cnt ∧ d_made_small [.dat (cvD c), .dat (rt b)] st = .ok (.dat (cvD (sub c (path (okc c b) (c.length - 1) cnt)))) st := by
  have l2 := h.l2
  have l9 := h.l9
  obtain ⟨last, hl⟩ : ∃ last, c.length = last + 1 := ⟨c.length - 1, by omega⟩
  have hl1 : c.length - 1 = last := by omega
  rw [hl1]
  have e1 : (1 : Nat) ≤ sizeLine := sl _ (by decide)
  have e2 : (2 : Nat) ≤ sizeLine := sl _ (by decide)
  have i0 : Inv (okc c b) last last (List.replicate (last + 1) []) (List.replicate (last + 1) 0) := by
    refine ⟨by simp, by simp, ?_, fun i a b => by omega, fun i a b => by omega, fun i a b => by omega⟩
    rw [getD_lt _ _ (by simp)]
    simp
  obtain ⟨Ws, Cs, o', hI, e3⟩ := cnt_run h hb hl st last _ _ none (Nat.le_refl _) i0
  have hcl := hI.cnt.le_last last 0 rfl (Nat.zero_le _)
  obtain ⟨k, e4⟩ := way_run h hl hI st (Cs.getD 0 0) 0 [pt c 0] rfl (Nat.zero_le _) (by rw [List.length_singleton]; omega)
  refine ⟨_, hI.cnt, ?_⟩
  have e5 := whileM_eq e4 (by simp)
  have hc1 := checkbound_run st (hb.mono (by decide : 12 ≤ 1000)) h0
  have hd := made_pre h (b := b) hl st _ rfl
  have hr : rngDownM (aCons (op2 subD (vr 2) (cst (.int 1))) (aCons (op1 negD (cst (.int 1))) (aCons (op1 negD (cst (.int 1))) aNil))) [some (.dat (cvD c)), some (.dat (rt b)), some (.dat (nI last)), none, some (.cel st.length), some (.cel (st.length + 1)), none, none, none] (st ++ [cW (List.replicate (last + 1) []), cC (List.replicate (last + 1) 0)])
      = .ok (rngD ((last : Int) - 1) last (-1)) (st ++ [cW (List.replicate (last + 1) []), cC (List.replicate (last + 1) 0)]) := by
    refine run_rngDown ?_ (by omega)
    simp [nI]
  have hp : (path (okc c b) last fun i => Cs.getD i 0).map (pt c) = [pt c 0] ++ (grow (okc c b) last (fun i => Cs.getD i 0) (Cs.getD 0 0) 0).map (pt c) := rfl
  have hz := atl_ptD (c := c) (i := 0) (by omega)
  have hlast : ((c.length : Int) - 1) = (last : Int) := by omega
  have h6 : parGM [6, 3] (aCons (lstC (aCons (op2 ixD (vr 0) (cst (.int 0))) aNil)) (aCons (cst (.int 0)) aNil)) [some (.dat (cvD c)), some (.dat (rt b)), some (.dat (nI last)), o', some (.cel st.length), some (.cel (st.length + 1)), none, none, none] (st ++ [cW Ws, cC Cs])
      = .nx [some (.dat (cvD c)), some (.dat (rt b)), some (.dat (nI last)), some (.dat (nI 0)), some (.cel st.length), some (.cel (st.length + 1)), some (.cel (st.length + 2)), none, none] (st ++ [cW Ws, cC Cs, cP [pt c 0]]) := by
    unfold parGM
    simp [cvD, hz, e1, e2, setAll]
  refine call_rtN (st' := [cW Ws, cC Cs, cP ((path (okc c b) last fun i => Cs.getD i 0).map (pt c))]) rfl ?_
  have h7 : setM 2 (op2 subD (opN lenD (aCons (vr 0) aNil)) (cst (.int 1))) [some (.dat (cvD c)), some (.dat (rt b)), none, none, none, none, none, none, none] st = .nx [some (.dat (cvD c)), some (.dat (rt b)), some (.dat (nI last)), none, none, none, none, none, none] st := by
    simp [cvD, hlast]
  have h8 : retM (opN tupleD (aCons (vr 6) aNil)) [some (.dat (cvD c)), some (.dat (rt b)), some (.dat (nI last)), some (.dat (nI last)), some (.cel st.length), some (.cel (st.length + 1)), some (.cel (st.length + 2)), none, none] (st ++ [cW Ws, cC Cs, cP ((path (okc c b) last fun i => Cs.getD i 0).map (pt c))])
      = .rt (.dat (cvD ((path (okc c b) last fun i => Cs.getD i 0).map (pt c)))) (st ++ [cW Ws, cC Cs, cP ((path (okc c b) last fun i => Cs.getD i 0).map (pt c))]) := by
    have q := apN_cel (h := tupleD) (k := st.length + 2) (ds := ((path (okc c b) last fun i => Cs.getD i 0).map (pt c)).map ptD) (st := st ++ [cW Ws, cC Cs, cP ((path (okc c b) last fun i => Cs.getD i 0).map (pt c))]) (by simp)
    simp only [ev_retM, ev_opN, ev_aCons, ev_aNil, ev_vr, List.getElem?_cons_zero, List.getElem?_cons_succ, Res.bind_ok]
    rw [q]
    rfl
  rw [hp] at h8 ⊢
  simp only [b_made_small, List.map_cons (f := some), List.map_nil (f := some), List.replicate_succ (n := 6), List.cons_append, List.nil_append, ev_seqM, ev_dropM, ev_callM, ev_aCons, ev_aNil, ev_vr, List.getElem?_cons_zero, List.getElem?_cons_succ, Res.bind_ok, iscurve_run h, check_run, bindS_ok, seqO_nx, hc1]
  rw [show (List.replicate 6 none : Slots) = [none, none, none, none, none, none] from rfl]
  rw [h7, seqO_nx]
  rw [ev_seqM, hd, seqO_nx, ev_seqM, ev_forM, hr, bindS_ok, e3, seqO_nx, ev_seqM, h6, seqO_nx, ev_seqM, e5, seqO_nx, h8]
  rfl
end K23

set_option Elab.async false
set_option linter.all false
set_option maxRecDepth 100000
set_option maxHeartbeats 4000000
set_option exponentiation.threshold 5000
/-! LsK: the law's own small curve. -/
namespace K23
open PySem L2 Pd
/-! paths -/
section
variable {ok : Nat → Nat → Bool} {last : Nat} {cnt : Nat → Nat}
theorem path_eq : path ok last cnt = (List.range (cnt 0 + 1)).map fun m => itr ok last cnt m 0 := by
  unfold path
  rw [grow_itr, List.range_succ_eq_map, List.map_cons, List.map_map]
  rfl
theorem path_len : (path ok last cnt).length = cnt 0 + 1 := by
  rw [path_eq, List.length_map, List.length_range]
theorem path_get {m : Nat} (h : m ≤ cnt 0) : (path ok last cnt).getD m 0 = itr ok last cnt m 0 := by
  rw [getD_lt _ _ (by rw [path_len]; omega)]
  simp [path_eq]
theorem itr_lt (h : Cnt ok last cnt) {i : Nat} : ∀ (j : Nat), i < j → j ≤ cnt 0 → itr ok last cnt i 0 < itr ok last cnt j 0
  | 0, h1, _ => by omega
  | j + 1, h1, h2 => by
    have a := (h.itr_step (m := j) (by omega)).2.1
    by_cases e : i = j
    · subst e
      exact a
    · have := itr_lt h (i := i) j (by omega) (by omega)
      omega
theorem path_way (h : Cnt ok last cnt) (hl : 0 < last) : Way last (path ok last cnt) := by
  have hp := h.pos hl
  refine ⟨by rw [path_len]; omega, ?_, ?_, ?_⟩
  · refine List.pairwise_iff_getElem.mpr fun i j hi hj hij => ?_
    rw [path_len] at hi hj
    rw [← getD_lt _ 0 (by rw [path_len]; exact hi), ← getD_lt _ 0 (by rw [path_len]; exact hj), path_get (by omega), path_get (by omega)]
    exact itr_lt h j hij (by omega)
  · rw [path_get (Nat.zero_le _)]
    rfl
  · rw [path_len, show cnt 0 + 1 - 1 = cnt 0 by omega, path_get (Nat.le_refl _), h.itr_last]
theorem path_ok (h : Cnt ok last cnt) {m : Nat} (hm : m + 1 < (path ok last cnt).length) : ok ((path ok last cnt).getD m 0) ((path ok last cnt).getD (m + 1) 0) = true := by
  rw [path_len] at hm
  rw [path_get (by omega), path_get (by omega)]
  exact (h.itr_step (by omega)).2.2
theorem path_rows (h : Cnt ok last cnt) (hl : 0 < last) : path ok last cnt = 0 :: grow ok last cnt (cnt 0 - 1) 0 ++ [last] := by
  have hp := h.pos hl
  obtain ⟨s, hs⟩ : ∃ s, cnt 0 = s + 1 := ⟨cnt 0 - 1, by omega⟩
  have e := h.itr_last
  rw [path_eq, hs, show s + 1 - 1 = s by omega, List.range_succ, List.map_append, grow_itr, List.range_succ_eq_map]
  rw [hs] at e
  simp [e]
  rfl
theorem chain_iff : ∀ (r : List Nat) (p : Nat), chain ok last p r = true ↔ ∀ m, m + 1 < (p :: r ++ [last]).length → ok ((p :: r ++ [last]).getD m 0) ((p :: r ++ [last]).getD (m + 1) 0) = true
  | [], p => by
    constructor
    · intro h m hm
      have : m = 0 := by simp at hm; omega
      subst this
      exact h
    · intro h
      exact h 0 (by simp)
  | k :: r, p => by
    have ih := chain_iff r k
    unfold chain
    rw [Bool.and_eq_true, ih]
    constructor
    · intro h m hm
      cases m with
      | zero => exact h.1
      | succ m => exact h.2 m (by simpa using hm)
    · intro h
      exact ⟨h 0 (by simp), fun m hm => h (m + 1) (by simpa using hm)⟩
end
theorem rowsN_mem {many : Nat} : ∀ (s least : Nat) (r : List Nat), r ∈ rowsN many s least → r.length = s ∧ r.Pairwise (· < ·) ∧ ∀ k ∈ r, least ≤ k ∧ k < many
  | 0, least, r, h => by
    simp [rowsN] at h
    subst h
    exact ⟨rfl, .nil, fun k hk => by cases hk⟩
  | s + 1, least, r, h => by
    simp only [rowsN, List.mem_flatMap, List.mem_map, List.mem_range'_1] at h
    obtain ⟨k, hk, r', hr', rfl⟩ := h
    obtain ⟨h1, h2, h3⟩ := rowsN_mem s (k + 1) r' hr'
    refine ⟨by simp [h1], List.pairwise_cons.mpr ⟨fun x hx => ?_, h2⟩, fun x hx => ?_⟩
    · have := h3 x hx
      omega
    · cases hx with
      | head => omega
      | tail _ hx =>
        have := h3 x hx
        omega
theorem row_way {last s : Nat} {r : List Nat} (hl : 0 < last) (h : r ∈ rowsN last s 1) : Way last (0 :: r ++ [last]) := by
  obtain ⟨h1, h2, h3⟩ := rowsN_mem s 1 r h
  refine ⟨by simp, ?_, rfl, ?_⟩
  · refine List.pairwise_append.mpr ⟨List.pairwise_cons.mpr ⟨fun x hx => ?_, h2⟩, List.pairwise_singleton _ _, fun x hx y hy => ?_⟩
    · have := h3 x hx
      omega
    · have hy2 : y = last := by simpa using hy
      subst hy2
      cases hx with
      | head => exact hl
      | tail _ hx => exact (h3 x hx).2
  · rw [getD_lt _ _ (by simp)]
    simp
theorem sub_good {c : List Pt} (h : Good c) {L : List Nat} (hw : Way (c.length - 1) L) (h9 : L.length ≤ 9) : Good (sub c L) := by
  have l2 := h.l2
  have two := hw.two
  have mem : ∀ p ∈ sub c L, p ∈ c := fun p hp => by
    obtain ⟨i, hi, e⟩ := List.getElem_of_mem hp
    have hi2 := hi
    rw [sub_len] at hi2
    have := pt_get hi
    rw [List.getElem?_eq_getElem hi, e] at this
    cases this
    rw [sub_pt hi2]
    have := hw.le_last hi2
    exact pt_mem (by omega)
  refine ⟨by rw [sub_len]; exact two, by rw [sub_len]; exact h9, sub_ris h.ris (by omega) hw, ?_, ?_, fun p hp => h.sz p (mem p hp), fun p hp => h.bd p (mem p hp)⟩
  · rw [sub_pt (by omega), hw.fst]
    exact h.z
  · rw [sub_len, sub_pt (by omega), hw.lst]
    exact h.one
/-! rows -/
theorem rowsN_count {many : Nat} : ∀ (s least : Nat), (rowsN many s least).length ≤ 2 ^ (many - least)
  | 0, least => by
    simp [rowsN]
    exact Nat.one_le_two_pow
  | s + 1, least => by
    have ih := fun k => rowsN_count (many := many) s k
    unfold rowsN
    have gen : ∀ (n k : Nat), k + n = many → ((List.range' k n).flatMap fun k => (rowsN many s (k + 1)).map (k :: ·)).length + 1 ≤ 2 ^ n := by
      intro n
      induction n with
      | zero => intro k _; simp
      | succ n ihn =>
        intro k hk
        rw [List.range'_succ, List.flatMap_cons, List.length_append, List.length_map]
        have a := ihn (k + 1) (by omega)
        have b := ih (k + 1)
        have e : many - (k + 1) = n := by omega
        rw [e] at b
        rw [Nat.pow_succ]
        omega
    rcases Nat.lt_or_ge least many with h | h
    · have := gen (many - least) least (by omega)
      omega
    · have e : many - least = 0 := by omega
      rw [e]
      simp
abbrev rowD (r : List Nat) : D := .tuple (r.map nI)
abbrev rowsD (l : List (List Nat)) : D := .list (l.map rowD)
theorem sl2 : ∀ n : Nat, n ≤ 600 → n ≤ sizeLine := fun n h => Nat.le_trans h (by decide)
noncomputable abbrev rows_loop (g : List Vl → Store → Res Vl) : SM := (setM 3 (op2 addD (vr 3) (lcM (itM (callM g (aCons (vr 0) (aCons (op2 subD (vr 1) (cst (.int 1))) (aCons (op2 addD (vr 4) (cst (.int 1))) aNil))))) (bName 5) [5] tYesM (op2 addD (tupM (aCons (vr 4) aNil)) (vr 5)))))
theorem rows_run {many : Nat} (hm : many ≤ 9) : ∀ (f s least : Nat) (st : Store), s < f → s ≤ 9 → least ≤ 10 → d_u_law_rows f [.dat (nI many), .dat (nI s), .dat (nI least)] st = .ok (.dat (rowsD (rowsN many s least))) st
  | 0, s, _, _, h, _, _ => by omega
  | f + 1, 0, least, st, _, _, _ => by
    refine call_rt rfl ?_
    have e0 : (0 : Nat) ≤ sizeLine := Nat.zero_le _
    have e1 : (1 : Nat) ≤ sizeLine := sl _ (by decide)
    simp [b_u_law_rows, nI, e0, e1, rowsN]
  | f + 1, s + 1, least, st, hf, hs, hle => by
    refine call_rt rfl ?_
    have ih := fun (k : Nat) (hk : k ≤ 10) => rows_run hm f s k st (by omega) (by omega) hk
    have e0 : (0 : Nat) ≤ sizeLine := Nat.zero_le _
    have e1 : (1 : Nat) ≤ sizeLine := sl _ (by decide)
    have loop : ∀ (n k : Nat) (acc : List (List Nat)) (o : Option Vl), k + n = many → acc.length + 2 ^ n ≤ 600 →
        ∃ o', loopM (tgM (bName 4) (rows_loop (d_u_law_rows f))) (rngD k n 1) [some (.dat (nI many)), some (.dat (nI (s + 1))), some (.dat (nI least)), some (.dat (rowsD acc)), o, none] st
          = .nx [some (.dat (nI many)), some (.dat (nI (s + 1))), some (.dat (nI least)), some (.dat (rowsD (acc ++ (List.range' k n).flatMap fun k => (rowsN many s (k + 1)).map (k :: ·)))), o', none] st := by
      intro n
      induction n with
      | zero => intro k acc o _ _; exact ⟨o, by simp⟩
      | succ n ihn =>
        intro k acc o hk ha
        have cn := rowsN_count (many := many) s (k + 1)
        rw [show many - (k + 1) = n by omega] at cn
        rw [Nat.pow_succ] at ha
        obtain ⟨o', e⟩ := ihn (k + 1) (acc ++ (rowsN many s (k + 1)).map (k :: ·)) (some (.dat (nI k))) (by omega) (by rw [List.length_append, List.length_map]; omega)
        refine ⟨o', ?_⟩
        rw [rngD_cons, loopM_cons, List.range'_succ, List.flatMap_cons, ← List.append_assoc, ← e]
        have i1 := ih (k + 1) (by omega)
        have hc : callM (d_u_law_rows f) (aCons (vr 0) (aCons (op2 subD (vr 1) (cst (.int 1))) (aCons (op2 addD (vr 4) (cst (.int 1))) aNil))) [some (.dat (nI many)), some (.dat (nI (s + 1))), some (.dat (nI least)), some (.dat (rowsD acc)), some (.dat (nI k)), none] st = .ok (.dat (rowsD (rowsN many s (k + 1)))) st := by
          rw [← i1]
          have z1 : ((s + 1 : Nat) : Int) - 1 = (s : Int) := by omega
          simp only [ev_callM, ev_aCons, ev_aNil, ev_op2, ev_vr, ev_cst, List.getElem?_cons_zero, List.getElem?_cons_succ, Res.bind_ok, ap2_dat, nI, subD_int, addD_int, ofO_some, z1]
          rfl
        have hg : lcGo (bName 5) tYesM (op2 addD (tupM (aCons (vr 4) aNil)) (vr 5)) ((rowsN many s (k + 1)).map rowD) (wipeS [some (.dat (nI many)), some (.dat (nI (s + 1))), some (.dat (nI least)), some (.dat (rowsD acc)), some (.dat (nI k)), none] [5]) st = .ok (((rowsN many s (k + 1)).map (k :: ·)).map rowD) st := by
          have := lcGo_map (b := bName 5) (e := op2 addD (tupM (aCons (vr 4) aNil)) (vr 5)) (s := wipeS [some (.dat (nI many)), some (.dat (nI (s + 1))), some (.dat (nI least)), some (.dat (rowsD acc)), some (.dat (nI k)), none] [5]) (st := st) (fun d => match d with | .tuple ds => .tuple (nI k :: ds) | d => d) ((rowsN many s (k + 1)).map rowD) fun x hx => by
            obtain ⟨r, hr, rfl⟩ := List.mem_map.mp hx
            refine ⟨_, rfl, ?_⟩
            have hr2 := (rowsN_mem s (k + 1) r hr).1
            have q : 1 + (r.map nI).length ≤ sizeLine := by
              rw [List.length_map]
              exact sl _ (by omega)
            simp only [wipeS, List.set, ev_op2, ev_tupM, ev_aCons, ev_aNil, ev_vr, List.getElem?_cons_zero, List.getElem?_cons_succ, Res.bind_ok, toDs_cons, toDs_nil, toD_dat, List.length_singleton, e1, if_true, ap2_dat, addD_tup]
            rw [if_pos q, ofO_some]
            rfl
          rw [this, List.map_map, List.map_map]
          rfl
        have q2 : (((rowsN many s (k + 1)).map (k :: ·)).map rowD).length ≤ sizeLine := by
          rw [List.length_map, List.length_map]
          have : 2 ^ n ≤ 600 := by omega
          exact sl2 _ (by omega)
        have q3 : (acc.map rowD).length + (((rowsN many s (k + 1)).map (k :: ·)).map rowD).length ≤ sizeLine := by
          rw [List.length_map, List.length_map, List.length_map]
          exact sl2 _ (by omega)
        have hl : lcM (itM (callM (d_u_law_rows f) (aCons (vr 0) (aCons (op2 subD (vr 1) (cst (.int 1))) (aCons (op2 addD (vr 4) (cst (.int 1))) aNil))))) (bName 5) [5] tYesM (op2 addD (tupM (aCons (vr 4) aNil)) (vr 5)) [some (.dat (nI many)), some (.dat (nI (s + 1))), some (.dat (nI least)), some (.dat (rowsD acc)), some (.dat (nI k)), none] st = .ok (.dat (rowsD ((rowsN many s (k + 1)).map (k :: ·)))) st := by
          rw [ev_lcM, ev_itM, hc, Res.bind_ok]
          show (lcGo _ _ _ ((rowsN many s (k + 1)).map rowD) _ _ |> noX).bind _ = _
          rw [hg, noX_ok, Res.bind_ok, if_pos q2]
        have hb : tgM (bName 4) (rows_loop (d_u_law_rows f)) (.int k) [some (.dat (nI many)), some (.dat (nI (s + 1))), some (.dat (nI least)), some (.dat (rowsD acc)), o, none] st = .nx [some (.dat (nI many)), some (.dat (nI (s + 1))), some (.dat (nI least)), some (.dat (rowsD (acc ++ (rowsN many s (k + 1)).map (k :: ·)))), some (.dat (nI k)), none] st := by
          rw [ev_tgM, ev_bName, optO_some]
          show rows_loop (d_u_law_rows f) [some (.dat (nI many)), some (.dat (nI (s + 1))), some (.dat (nI least)), some (.dat (rowsD acc)), some (.dat (nI k)), none] st = _
          rw [rows_loop, ev_setM, ev_op2]
          simp only [ev_vr, List.getElem?_cons_zero, List.getElem?_cons_succ, Res.bind_ok]
          rw [hl]
          simp only [Res.bind_ok, ap2_dat, addD_lst]
          rw [if_pos q3, ofO_some, bindS_ok, ← List.map_append]
          rfl
        rw [hb, loopO_nx]
        rfl
    rcases Nat.lt_or_ge least many with hlm | hlm
    · obtain ⟨o', e⟩ := loop (many - least) least [] none (by omega) (by
        have : 2 ^ (many - least) ≤ 2 ^ 9 := Nat.pow_le_pow_right (by decide) (by omega)
        simp
        omega)
      have hr : rng2M (aCons (vr 2) (aCons (vr 0) aNil)) [some (.dat (nI many)), some (.dat (nI (s + 1))), some (.dat (nI least)), some (.dat (rowsD [])), none, none] st = .ok (rngD least (many - least) 1) st := run_rng2 rfl (by omega) (by omega)
      have z : ¬ (((s + 1 : Nat) : Int) = 0) := by omega
      simp only [b_u_law_rows, List.map_cons (f := some), List.map_nil (f := some), List.replicate, List.cons_append, List.nil_append, ev_seqM, ev_ifS, ev_truM, ev_op2, ev_vr, ev_cst, List.getElem?_cons_zero, List.getElem?_cons_succ, Res.bind_ok, ap2_dat, nI, eqD_int, z, decide_false, ofO_some, peek_dat, truD_bool, bindS_ok, cnd_false, ev_skipM, seqO_nx, ev_setM, ev_lstD, ev_aNil, toDs_nil, List.length_nil, e0, if_true, List.set]
      rw [ev_forM]
      simp only [nI, rowsD, List.map_nil] at hr e
      rw [hr, bindS_ok, e, seqO_nx, ev_retM]
      rfl
    · have hr : rng2M (aCons (vr 2) (aCons (vr 0) aNil)) [some (.dat (nI many)), some (.dat (nI (s + 1))), some (.dat (nI least)), some (.dat (rowsD [])), none, none] st = .ok (rngD least (many - least) 1) st := run_rng2 rfl (by omega) (by omega)
      have z : ¬ (((s + 1 : Nat) : Int) = 0) := by omega
      rw [show many - least = 0 by omega, rngD_nil] at hr
      simp only [b_u_law_rows, List.map_cons (f := some), List.map_nil (f := some), List.replicate, List.cons_append, List.nil_append, ev_seqM, ev_ifS, ev_truM, ev_op2, ev_vr, ev_cst, List.getElem?_cons_zero, List.getElem?_cons_succ, Res.bind_ok, ap2_dat, nI, eqD_int, z, decide_false, ofO_some, peek_dat, truD_bool, bindS_ok, cnd_false, ev_skipM, seqO_nx, ev_setM, ev_lstD, ev_aNil, toDs_nil, List.length_nil, e0, if_true, List.set]
      rw [ev_forM]
      simp only [nI, rowsD, List.map_nil] at hr
      rw [hr, bindS_ok, loopM_nil, seqO_nx, ev_retM]
      unfold rowsN
      rw [show many - least = 0 by omega]
      rfl
/-! the least good row -/
noncomputable abbrev small_in : SM := (seqM (setM 4 (op2 addD (op2 addD (sliceM (vr 0) noO (someO (cst (.int 1)))) (opN tupleD (aCons (lcM (itM (vr 3)) (bName 5) [5] tYesM (op2 ixD (vr 0) (vr 5))) aNil))) (sliceM (vr 0) (someO (op1 negD (cst (.int 1)))) noO)))
        (ifS (notT (truM (callM d_u_law_less (aCons (vr 1) (aCons (op2 ixD (callM d_u_law_off (aCons (vr 0) (aCons (vr 4) aNil))) (cst (.int 0))) aNil))))) (retM (vr 4)) skipM))
theorem good_iff {c : List Pt} (h : Good c) {b : Rat} (h0 : 0 ≤ b) {last : Nat} (hl : c.length = last + 1) {L : List Nat} (hw : Way last L) : (¬ b < (offR c (sub c L)).1) ↔ ∀ m, m + 1 < L.length → okc c b (L.getD m 0) (L.getD (m + 1) 0) = true :=
  (offR_le h0).trans (off_iff h.ris hl hw h0)
theorem small_step {c : List Pt} (h : Good c) {b : Rat} (hb : Sz 12 b) (h0 : 0 ≤ b) {last : Nat} (hl : c.length = last + 1) {s : Nat} {r : List Nat} (hr : r ∈ rowsN last s 1) (hs : s ≤ 7) (o2 o3 o4 : Option Vl) (st : Store) :
    tgM (bName 3) small_in (rowD r) [some (.dat (cvD c)), some (.dat (rt b)), o2, o3, o4, none] st = cnd (chain (okc c b) last 0 r) (.rt (.dat (cvD (sub c (0 :: r ++ [last])))) st) (.nx [some (.dat (cvD c)), some (.dat (rt b)), o2, some (.dat (rowD r)), some (.dat (cvD (sub c (0 :: r ++ [last])))), none] st) := by
  have l2 := h.l2
  have l9 := h.l9
  have hl0 : 0 < last := by omega
  have hw := row_way hl0 hr
  obtain ⟨r1, r2, r3⟩ := rowsN_mem s 1 r hr
  have hL : (0 :: r ++ [last]).length = s + 2 := by simp [r1]
  have hg : Good (sub c (0 :: r ++ [last])) := sub_good h (by rw [hl]; exact hw) (by omega)
  have e1 := off_go h hg st
  have e2 := lless_run st (hb.mono (by decide : 12 ≤ 1000)) ((offR_sz h hg).mono (by decide : 177 ≤ 1000))
  have e3 : ixD (offD c (sub c (0 :: r ++ [last]))) (.int 0) = some (rt (offR c (sub c (0 :: r ++ [last]))).1) := rfl
  have e4 : (!decide (b < (offR c (sub c (0 :: r ++ [last]))).1)) = chain (okc c b) last 0 r := by
    have q := (good_iff h h0 hl hw).trans (chain_iff r 0).symm
    by_cases z : chain (okc c b) last 0 r = true
    · rw [z, decide_eq_false (q.mpr z)]
      rfl
    · have z2 : b < (offR c (sub c (0 :: r ++ [last]))).1 := Classical.byContradiction fun w => z (q.mp w)
      rw [decide_eq_true z2]
      simp only [Bool.not_true]
      cases k : chain (okc c b) last 0 r
      · rfl
      · exact absurd k z
  -- the smaller curve
  have f1 : lcGo (bName 5) tYesM (op2 ixD (vr 0) (vr 5)) (r.map nI) (wipeS [some (.dat (cvD c)), some (.dat (rt b)), o2, some (.dat (rowD r)), o4, none] [5]) st = .ok ((r.map nI).map fun d => match d with | .int k => ptD (pt c k.toNat) | d => d) st := by
    refine lcGo_map _ _ fun x hx => ?_
    obtain ⟨k, hk, rfl⟩ := List.mem_map.mp hx
    refine ⟨_, rfl, ?_⟩
    have := r3 k hk
    have g := atl_ptD (c := c) (i := k) (by omega)
    simp [wipeS, cvD, g]
  have f2 : ((r.map nI).map fun d => match d with | .int k => ptD (pt c k.toNat) | d => d) = (r.map (pt c)).map ptD := by
    rw [List.map_map, List.map_map]
    rfl
  have q1 : ((r.map (pt c)).map ptD).length ≤ sizeLine := by
    rw [List.length_map, List.length_map]
    exact sl _ (by omega)
  have f3 : lcM (itM (vr 3)) (bName 5) [5] tYesM (op2 ixD (vr 0) (vr 5)) [some (.dat (cvD c)), some (.dat (rt b)), o2, some (.dat (rowD r)), o4, none] st = .ok (.dat (.list ((r.map (pt c)).map ptD))) st := by
    rw [ev_lcM]
    simp only [ev_itM, ev_vr, List.getElem?_cons_zero, List.getElem?_cons_succ, Res.bind_ok]
    rw [f1, noX_ok, Res.bind_ok, f2, if_pos q1]
  have t1 : (c.map ptD).take 1 = [ptD (pt c 0)] := by
    have e := atl_ptD (c := c) (i := 0) (by omega)
    cases hc : c.map ptD with
    | nil => rw [hc] at e; cases e
    | cons x xs =>
      rw [hc] at e
      cases e
      rfl
  have t2 : (c.map ptD).drop ((c.map ptD).length - 1) = [ptD (pt c last)] := by
    have e := atl_ptD (c := c) (i := last) (by omega)
    have e2 : (c.map ptD).length - 1 = last := by rw [List.length_map]; omega
    have e3 : last < (c.map ptD).length := by rw [List.length_map]; omega
    rw [List.getElem?_eq_getElem e3] at e
    rw [e2, List.drop_eq_getElem_cons e3, Option.some.inj e, List.drop_eq_nil_of_le (by rw [List.length_map]; omega)]
  have q2 : [ptD (pt c 0)].length + ((r.map (pt c)).map ptD).length ≤ sizeLine := by
    rw [List.length_map, List.length_map, List.length_singleton]
    exact sl _ (by omega)
  have q3 : ([ptD (pt c 0)] ++ (r.map (pt c)).map ptD).length + [ptD (pt c last)].length ≤ sizeLine := by
    rw [List.length_append, List.length_map, List.length_map, List.length_singleton, List.length_singleton]
    exact sl _ (by omega)
  have f4 : op2 addD (op2 addD (sliceM (vr 0) noO (someO (cst (.int 1)))) (opN tupleD (aCons (lcM (itM (vr 3)) (bName 5) [5] tYesM (op2 ixD (vr 0) (vr 5))) aNil))) (sliceM (vr 0) (someO (op1 negD (cst (.int 1)))) noO) [some (.dat (cvD c)), some (.dat (rt b)), o2, some (.dat (rowD r)), o4, none] st = .ok (.dat (cvD (sub c (0 :: r ++ [last])))) st := by
    have g1 : sliceM (vr 0) noO (someO (cst (.int 1))) [some (.dat (cvD c)), some (.dat (rt b)), o2, some (.dat (rowD r)), o4, none] st = .ok (.dat (.tuple [ptD (pt c 0)])) st := by
      simp only [ev_sliceM, ev_noO, ev_someO, ev_cst, ev_vr, List.getElem?_cons_zero, Res.bind_ok, peek_dat, cvD, sliceD_tup, cutL_to1, t1, ofO_some]
    have g2 : sliceM (vr 0) (someO (op1 negD (cst (.int 1)))) noO [some (.dat (cvD c)), some (.dat (rt b)), o2, some (.dat (rowD r)), o4, none] st = .ok (.dat (.tuple [ptD (pt c last)])) st := by
      simp only [ev_sliceM, ev_noO, ev_someO, ev_cst, ev_vr, ev_op1, List.getElem?_cons_zero, Res.bind_ok, peek_dat, negD_int, cvD, sliceD_tup, cutL_m1, t2, ofO_some]
    have g3 : opN tupleD (aCons (lcM (itM (vr 3)) (bName 5) [5] tYesM (op2 ixD (vr 0) (vr 5))) aNil) [some (.dat (cvD c)), some (.dat (rt b)), o2, some (.dat (rowD r)), o4, none] st = .ok (.dat (.tuple ((r.map (pt c)).map ptD))) st := by
      rw [ev_opN, ev_aCons, f3]
      simp only [Res.bind_ok, ev_aNil, apN1, tupleD_list, ofO_some]
    rw [ev_op2, ev_op2, g1, Res.bind_ok, g3, Res.bind_ok, ap2_dat, addD_tup, if_pos q2, ofO_some, Res.bind_ok, g2, Res.bind_ok, ap2_dat, addD_tup, if_pos q3, ofO_some]
    unfold sub cvD
    simp
  rw [ev_tgM, ev_bName, optO_some]
  show small_in [some (.dat (cvD c)), some (.dat (rt b)), o2, some (.dat (rowD r)), o4, none] st = _
  rw [small_in, ev_seqM, ev_setM, f4, bindS_ok, seqO_nx]
  simp only [List.set, ev_ifS, ev_notT, ev_truM, ev_callM, ev_aCons, ev_aNil, ev_op2, ev_vr, ev_cst, List.getElem?_cons_zero, List.getElem?_cons_succ, Res.bind_ok, e1, ap2_dat, e3, ofO_some, e2, peek_dat, truD_bool, e4, bindS_ok]
  cases chain (okc c b) last 0 r
  · rw [cnd_false, cnd_false, ev_skipM]
  · rw [cnd_true, cnd_true, ev_retM]
    rfl
theorem small_rows {c : List Pt} (h : Good c) {b : Rat} (hb : Sz 12 b) (h0 : 0 ≤ b) {last : Nat} (hl : c.length = last + 1) {s : Nat} (hs : s ≤ 7) (o2 : Option Vl) (st : Store) : ∀ (l : List (List Nat)) (o3 o4 : Option Vl), (∀ r ∈ l, r ∈ rowsN last s 1) →
    (∀ r, l.find? (chain (okc c b) last 0) = some r → loopM (tgM (bName 3) small_in) (l.map rowD) [some (.dat (cvD c)), some (.dat (rt b)), o2, o3, o4, none] st = .rt (.dat (cvD (sub c (0 :: r ++ [last])))) st) ∧
    (l.find? (chain (okc c b) last 0) = none → ∃ o3' o4', loopM (tgM (bName 3) small_in) (l.map rowD) [some (.dat (cvD c)), some (.dat (rt b)), o2, o3, o4, none] st = .nx [some (.dat (cvD c)), some (.dat (rt b)), o2, o3', o4', none] st)
  | [], o3, o4, _ => ⟨fun r e => by simp at e, fun _ => ⟨o3, o4, rfl⟩⟩
  | r :: l, o3, o4, hm => by
    have e := small_step h hb h0 hl (hm r List.mem_cons_self) hs o2 o3 o4 st
    obtain ⟨h1, h2⟩ := small_rows h hb h0 hl hs o2 st l (some (.dat (rowD r))) (some (.dat (cvD (sub c (0 :: r ++ [last]))))) fun x hx => hm x (List.mem_cons_of_mem _ hx)
    rw [List.map_cons, loopM_cons, e, List.find?_cons]
    cases k : chain (okc c b) last 0 r with
    | true =>
      rw [cnd_true, loopO_rt]
      exact ⟨fun r' er => by cases er; rfl, fun er => by cases er⟩
    | false =>
      rw [cnd_false, loopO_nx]
      exact ⟨h1, h2⟩
noncomputable abbrev small_out : SM := (forM (bName 3) (itM (callM (d_u_law_rows 20) (aCons (op2 subD (opN lenD (aCons (vr 0) aNil)) (cst (.int 1))) (aCons (vr 2) (aCons (cst (.int 1)) aNil))))) small_in)
theorem small_sizes {c : List Pt} (h : Good c) {b : Rat} (hb : Sz 12 b) (h0 : 0 ≤ b) {last : Nat} (hl : c.length = last + 1) {cnt : Nat → Nat} (hc : Cnt (okc c b) last cnt) (st : Store) : ∀ (n k : Nat) (o2 o3 o4 : Option Vl), k + n = last → k + 1 ≤ cnt 0 →
    loopM (tgM (bName 2) small_out) (rngD k n 1) [some (.dat (cvD c)), some (.dat (rt b)), o2, o3, o4, none] st = .rt (.dat (cvD (sub c (path (okc c b) last cnt)))) st
  | 0, k, o2, o3, o4, h1, h2 => by
    have := hc.le_last last 0 rfl (Nat.zero_le _)
    omega
  | n + 1, k, o2, o3, o4, h1, h2 => by
    have l2 := h.l2
    have l9 := h.l9
    have hl0 : 0 < last := by omega
    have hR := rows_run (many := last) (by omega) 20 k 1 st (by omega) (by omega) (by decide)
    have hit : itM (callM (d_u_law_rows 20) (aCons (op2 subD (opN lenD (aCons (vr 0) aNil)) (cst (.int 1))) (aCons (vr 2) (aCons (cst (.int 1)) aNil)))) [some (.dat (cvD c)), some (.dat (rt b)), some (.dat (nI k)), o3, o4, none] st = .ok ((rowsN last k 1).map rowD) st := by
      have hlast : ((c.length : Int) - 1) = (last : Int) := by omega
      have lc : lenD [cvD c] = some (.int c.length) := by
        unfold cvD
        rw [lenD_tup, List.length_map]
      have hcl : callM (d_u_law_rows 20) (aCons (op2 subD (opN lenD (aCons (vr 0) aNil)) (cst (.int 1))) (aCons (vr 2) (aCons (cst (.int 1)) aNil))) [some (.dat (cvD c)), some (.dat (rt b)), some (.dat (nI k)), o3, o4, none] st = .ok (.dat (rowsD (rowsN last k 1))) st := by
        rw [← hR]
        simp only [ev_callM, ev_aCons, ev_aNil, ev_op2, ev_opN, ev_vr, ev_cst, List.getElem?_cons_zero, List.getElem?_cons_succ, Res.bind_ok, ap2_dat, apN1, lc, ofO_some, subD_int, hlast]
        rfl
      rw [ev_itM, hcl, Res.bind_ok]
    obtain ⟨g1, g2⟩ := small_rows h hb h0 hl (s := k) (by omega) (some (.dat (nI k))) st (rowsN last k 1) o3 o4 fun r hr => hr
    obtain ⟨k1, k2⟩ := hc.rows k 0 hl0
    have hb1 : tgM (bName 2) small_out (.int k) [some (.dat (cvD c)), some (.dat (rt b)), o2, o3, o4, none] st = loopM (tgM (bName 3) small_in) ((rowsN last k 1).map rowD) [some (.dat (cvD c)), some (.dat (rt b)), some (.dat (nI k)), o3, o4, none] st := by
      rw [ev_tgM, ev_bName, optO_some]
      show small_out [some (.dat (cvD c)), some (.dat (rt b)), some (.dat (nI k)), o3, o4, none] st = _
      rw [small_out, ev_forM, hit, bindS_ok]
    rw [rngD_cons, loopM_cons, hb1]
    by_cases e : k + 1 = cnt 0
    · rw [g1 _ (k2 e), loopO_rt, path_rows hc hl0, ← e]
      rfl
    · have hn : (rowsN last k 1).find? (chain (okc c b) last 0) = none := by
        refine List.find?_eq_none.mpr fun r hr => ?_
        rw [k1 (by omega) r hr]
        decide
      obtain ⟨o3', o4', g⟩ := g2 hn
      rw [g, loopO_nx]
      have := small_sizes h hb h0 hl hc st n (k + 1) (some (.dat (nI k))) o3' o4' (by omega) (by omega)
      rw [show ((k + 1 : Nat) : Int) = (k : Int) + 1 from rfl] at this
      exact this
theorem small_run {c : List Pt} (h : Good c) {b : Rat} (hb : Sz 12 b) (h0 : 0 ≤ b) {cnt : Nat → Nat} (hc : Cnt (okc c b) (c.length - 1) cnt) (st : Store) : d_u_law_small [.dat (cvD c), .dat (rt b)] st = .ok (.dat (cvD (sub c (path (okc c b) (c.length - 1) cnt)))) st := by
  refine call_rt rfl ?_
  have l2 := h.l2
  have l9 := h.l9
  have hp := hc.pos (i := 0) (by omega)
  have e := small_sizes h hb h0 (last := c.length - 1) (by omega) hc st (c.length - 1) 0 none none none (by omega) (by omega)
  have lc : lenD [cvD c] = some (.int c.length) := by
    unfold cvD
    rw [lenD_tup, List.length_map]
  have hr : rng1M (aCons (op2 subD (opN lenD (aCons (vr 0) aNil)) (cst (.int 1))) aNil) [some (.dat (cvD c)), some (.dat (rt b)), none, none, none, none] st = .ok (rngD 0 (c.length - 1) 1) st := by
    refine run_rng1 ?_ (by omega)
    have e2 : ((c.length : Int) - 1) = ((c.length - 1 : Nat) : Int) := by omega
    simp only [ev_aCons, ev_aNil, ev_op2, ev_opN, ev_vr, ev_cst, List.getElem?_cons_zero, List.getElem?_cons_succ, Res.bind_ok, ap2_dat, apN1, lc, ofO_some, subD_int, e2]
  show b_u_law_small [some (.dat (cvD c)), some (.dat (rt b)), none, none, none, none] st = _
  rw [b_u_law_small, ev_seqM, ev_forM, hr, bindS_ok]
  rw [show ((0 : Nat) : Int) = 0 from rfl] at e
  rw [e, seqO_rt]
end K23

set_option Elab.async false
set_option linter.all false
set_option maxRecDepth 100000
set_option maxHeartbeats 4000000
set_option exponentiation.threshold 5000
/-! DwK: the draws, and the curves made of them. -/
namespace K23
open PySem L2 Pd
abbrev dI (n : Int) : Vl := .dat (.int n)
abbrev cI (xs : List Int) : Cell := .lst (xs.map dI)
theorem sl3 : ∀ n : Nat, n ≤ 20000 → n ≤ sizeLine := fun n h => Nat.le_trans h (by decide)
theorem app_run {f g : EM} {s : Slots} {st : Store} {k : Nat} {xs : List Int} {n : Int} (hf : f s st = .ok (.cel k) st) (hk : st[k]? = some (cI xs)) (hg : g s st = .ok (.dat (.int n)) st) (hl : xs.length < 20000) : dropM (appM f g) s st = .nx s (st.set k (cI (xs ++ [n]))) := by
  have l1 : lstAt (.cel k) st = some (k, xs.map dI) := by
    unfold lstAt
    simp only [hk]
  have e : appM f g s st = .ok (.dat .none) (st.set k (cI (xs ++ [n]))) := by
    unfold appM
    rw [hf, Res.bind_ok]
    simp only [l1, hg, Res.bind_ok, toD_dat]
    rw [if_pos (Nat.lt_of_lt_of_le (by rw [List.length_map]; exact hl) (sl3 _ (Nat.le_refl _)))]
    unfold cI
    rw [List.map_append]
    rfl
  rw [ev_dropM, e, bindS_ok]
noncomputable abbrev dig_loop : SM := (ifS (truM (op2 gtD (vr 5) (cst (.int 0)))) (seqM (dropM (appM (vr 1) (op2 modD (opN intD (aCons (vr 5) aNil)) (cst (.int 997)))))
        (setM 5 (op2 fdivD (vr 5) (cst (.int 997))))) skipM)
theorem dig_run (a2 a3 a6 : Option Vl) (scr : Vl) : ∀ (l : List D) (xs : List Int) (n : Int) (o4 : Option Vl), xs.length + l.length < 20000 →
    ∃ xs' n' o4', xs'.length ≤ xs.length + l.length ∧ loopM (tgM (bName 4) dig_loop) l [some scr, some (.cel 0), a2, a3, o4, some (.dat (.int n)), a6] [cI xs] = .nx [some scr, some (.cel 0), a2, a3, o4', some (.dat (.int n')), a6] [cI xs']
  | [], xs, n, o4, _ => ⟨xs, n, o4, by simp, rfl⟩
  | x :: l, xs, n, o4, hl => by
    rw [List.length_cons] at hl
    by_cases h : 0 < n
    · obtain ⟨xs', n', o4', h1, e⟩ := dig_run a2 a3 a6 scr l (xs ++ [n % 997]) (n / 997) (some (.dat x)) (by simp; omega)
      refine ⟨xs', n', o4', by simp at h1 ⊢; omega, ?_⟩
      have hd : divOk 997 = true := by decide
      have e1 := app_run (f := vr 1) (g := op2 modD (opN intD (aCons (vr 5) aNil)) (cst (.int 997))) (s := [some scr, some (.cel 0), a2, a3, some (.dat x), some (.dat (.int n)), a6]) (st := [cI xs]) (k := 0) (xs := xs) (n := n % 997) rfl rfl (by simp) (by omega)
      have hb : tgM (bName 4) dig_loop x [some scr, some (.cel 0), a2, a3, o4, some (.dat (.int n)), a6] [cI xs] = .nx [some scr, some (.cel 0), a2, a3, some (.dat x), some (.dat (.int (n / 997))), a6] [cI (xs ++ [n % 997])] := by
        rw [ev_tgM, ev_bName, optO_some]
        show dig_loop [some scr, some (.cel 0), a2, a3, some (.dat x), some (.dat (.int n)), a6] [cI xs] = _
        rw [dig_loop, ev_ifS]
        simp only [ev_truM, ev_op2, ev_vr, ev_cst, List.getElem?_cons_zero, List.getElem?_cons_succ, Res.bind_ok, ap2_dat, gtD_int, ofO_some, peek_dat, truD_bool, bindS_ok, h, decide_true, cnd_true]
        rw [ev_seqM, e1, seqO_nx]
        simp only [ev_setM, ev_op2, ev_vr, ev_cst, List.getElem?_cons_zero, List.getElem?_cons_succ, Res.bind_ok, ap2_dat, fdivD_int, hd, if_true, ofO_some, bindS_ok, List.set]
      rw [loopM_cons, hb, loopO_nx]
      exact e
    · obtain ⟨xs', n', o4', h1, e⟩ := dig_run a2 a3 a6 scr l xs n (some (.dat x)) (by omega)
      refine ⟨xs', n', o4', by simp; omega, ?_⟩
      have hb : tgM (bName 4) dig_loop x [some scr, some (.cel 0), a2, a3, o4, some (.dat (.int n)), a6] [cI xs] = .nx [some scr, some (.cel 0), a2, a3, some (.dat x), some (.dat (.int n)), a6] [cI xs] := by
        rw [ev_tgM, ev_bName, optO_some]
        show dig_loop [some scr, some (.cel 0), a2, a3, some (.dat x), some (.dat (.int n)), a6] [cI xs] = _
        rw [dig_loop, ev_ifS]
        simp only [ev_truM, ev_op2, ev_vr, ev_cst, List.getElem?_cons_zero, List.getElem?_cons_succ, Res.bind_ok, ap2_dat, gtD_int, ofO_some, peek_dat, truD_bool, bindS_ok, h, decide_false, cnd_false, ev_skipM]
      rw [loopM_cons, hb, loopO_nx]
      exact e
noncomputable abbrev cell_loop : SM := (seqM (setM 5 (opN absD (aCons (vr 2) aNil)))
        (seqM (ifS (truM (op2 ltD (vr 5) (op2 powD (cst (.int 10)) (cst (.int 18))))) (seqM (setM 6 (op2 modD (opN intD (aCons (op2 addD (op2 mulD (vr 5) (cst (.int 48271))) (cst (.int 11))) aNil)) (cst (.int 2147483647))))
        (seqM (dropM (appM (vr 1) (op2 modD (opN intD (aCons (op2 addD (op2 mulD (vr 6) (cst (.int 69621))) (vr 5)) aNil)) (cst (.int 2147483629)))))
        (seqM (dropM (appM (vr 1) (op2 modD (opN intD (aCons (op2 addD (vr 6) (op2 fdivD (vr 5) (cst (.int 7)))) aNil)) (cst (.int 1000003)))))
        (setM 5 (cst (.int 0)))))) skipM)
        (forM (bName 4) (rng1M (aCons (cst (.int 60)) aNil)) dig_loop)))
theorem mul_r (i j : Int) (h : j.natAbs.log2 < 62) : mulD (.int i) (.int j) = some (.int (i * j)) := by
  rw [mulD_int, mulOk_r h, if_pos rfl]
theorem pow_18 : powD (.int 10) (.int 18) = some (.int 1000000000000000000) := by rfl
theorem cell_step (scr : Vl) (n : Int) (xs : List Int) (o2 o3 o4 o5 o6 : Option Vl) (hl : xs.length + 62 < 20000) :
    ∃ xs' o4' o5' o6', xs'.length ≤ xs.length + 62 ∧ tgM (bName 2) cell_loop (.int n) [some scr, some (.cel 0), o2, o3, o4, o5, o6] [cI xs] = .nx [some scr, some (.cel 0), some (.dat (.int n)), o3, o4', o5', o6'] [cI xs'] := by
  have hr : ∀ (s : Slots) (st : Store), rng1M (aCons (cst (.int 60)) aNil) s st = .ok (rngD 0 60 1) st := fun s st => run_rng1 (n := 60) rfl (by decide)
  rw [ev_tgM, ev_bName, optO_some]
  show ∃ xs' o4' o5' o6', _ ∧ cell_loop [some scr, some (.cel 0), some (.dat (.int n)), o3, o4, o5, o6] [cI xs] = _
  have h5 : setM 5 (opN absD (aCons (vr 2) aNil)) [some scr, some (.cel 0), some (.dat (.int n)), o3, o4, o5, o6] [cI xs] = .nx [some scr, some (.cel 0), some (.dat (.int n)), o3, o4, some (.dat (.int (if n < 0 then -n else n))), o6] [cI xs] := by
    simp only [ev_setM, ev_opN, ev_aCons, ev_aNil, ev_vr, List.getElem?_cons_zero, List.getElem?_cons_succ, Res.bind_ok, apN1, absD_int, ofO_some, bindS_ok, List.set]
  generalize (if n < 0 then -n else n) = m at h5
  rw [cell_loop, ev_seqM, h5, seqO_nx, ev_seqM, ev_ifS]
  simp only [ev_truM, ev_op2, ev_vr, ev_cst, List.getElem?_cons_zero, List.getElem?_cons_succ, Res.bind_ok, ap2_dat, pow_18, ltD_int, ofO_some, peek_dat, truD_bool, bindS_ok]
  cases hm : decide (m < 1000000000000000000) with
  | false =>
    obtain ⟨xs', n', o4', h1, e⟩ := dig_run (some (.dat (.int n))) o3 o6 scr (rngD 0 60 1) xs m o4 (by rw [rngD_len]; omega)
    rw [rngD_len] at h1
    refine ⟨xs', o4', some (.dat (.int n')), o6, by omega, ?_⟩
    rw [cnd_false, ev_skipM, seqO_nx, ev_forM, hr, bindS_ok]
    exact e
  | true =>
    have hd : divOk 7 = true := by decide
    have e1 := app_run (f := vr 1) (g := op2 modD (opN intD (aCons (op2 addD (op2 mulD (vr 6) (cst (.int 69621))) (vr 5)) aNil)) (cst (.int 2147483629))) (s := [some scr, some (.cel 0), some (.dat (.int n)), o3, o4, some (.dat (.int m)), some (.dat (.int ((m * 48271 + 11) % 2147483647)))]) (st := [cI xs]) (k := 0) (xs := xs) (n := (((m * 48271 + 11) % 2147483647) * 69621 + m) % 2147483629) rfl rfl (by
      simp only [ev_op2, ev_opN, ev_aCons, ev_aNil, ev_vr, ev_cst, List.getElem?_cons_zero, List.getElem?_cons_succ, Res.bind_ok, ap2_dat, mul_r _ 69621 (by decide), addD_int, ofO_some, apN1, intD_int, modD_int]
      rfl) (by omega)
    have e2 := app_run (f := vr 1) (g := op2 modD (opN intD (aCons (op2 addD (vr 6) (op2 fdivD (vr 5) (cst (.int 7)))) aNil)) (cst (.int 1000003))) (s := [some scr, some (.cel 0), some (.dat (.int n)), o3, o4, some (.dat (.int m)), some (.dat (.int ((m * 48271 + 11) % 2147483647)))]) (st := [cI (xs ++ [(((m * 48271 + 11) % 2147483647) * 69621 + m) % 2147483629])]) (k := 0) (xs := xs ++ [(((m * 48271 + 11) % 2147483647) * 69621 + m) % 2147483629]) (n := ((m * 48271 + 11) % 2147483647 + m / 7) % 1000003) rfl rfl (by
      simp only [ev_op2, ev_opN, ev_aCons, ev_aNil, ev_vr, ev_cst, List.getElem?_cons_zero, List.getElem?_cons_succ, Res.bind_ok, ap2_dat, fdivD_int, hd, if_true, addD_int, ofO_some, apN1, intD_int, modD_int]
      rfl) (by simp; omega)
    have h6 : setM 6 (op2 modD (opN intD (aCons (op2 addD (op2 mulD (vr 5) (cst (.int 48271))) (cst (.int 11))) aNil)) (cst (.int 2147483647))) [some scr, some (.cel 0), some (.dat (.int n)), o3, o4, some (.dat (.int m)), o6] [cI xs] = .nx [some scr, some (.cel 0), some (.dat (.int n)), o3, o4, some (.dat (.int m)), some (.dat (.int ((m * 48271 + 11) % 2147483647)))] [cI xs] := by
      simp only [ev_setM, ev_op2, ev_opN, ev_aCons, ev_aNil, ev_vr, ev_cst, List.getElem?_cons_zero, List.getElem?_cons_succ, Res.bind_ok, ap2_dat, mul_r _ 48271 (by decide), addD_int, ofO_some, apN1, intD_int, modD_int]
      rfl
    generalize (m * 48271 + 11) % 2147483647 = f at h6 e1 e2
    generalize (f * 69621 + m) % 2147483629 = g at e1 e2
    generalize (f + m / 7) % 1000003 = g2 at e2
    obtain ⟨xs', n', o4', h1, e⟩ := dig_run (some (.dat (.int n))) o3 (some (.dat (.int f))) scr (rngD 0 60 1) (xs ++ [g] ++ [g2]) 0 o4 (by rw [rngD_len]; simp; omega)
    rw [rngD_len] at h1
    refine ⟨xs', o4', some (.dat (.int n')), some (.dat (.int f)), by simp at h1; omega, ?_⟩
    rw [cnd_true, ev_seqM, h6, seqO_nx, ev_seqM, e1, seqO_nx]
    show seqO (seqM _ _ _ [cI (xs ++ [g])]) _ = _
    rw [ev_seqM, e2, seqO_nx, ev_setM, ev_cst, bindS_ok, seqO_nx, ev_forM, hr, bindS_ok]
    exact e
theorem cells_run (scr : Vl) : ∀ (ns : List Int) (xs : List Int) (o2 o3 o4 o5 o6 : Option Vl), xs.length + 62 * ns.length < 10000 →
    ∃ xs' o2' o4' o5' o6', xs'.length ≤ xs.length + 62 * ns.length ∧ loopM (tgM (bName 2) cell_loop) (ns.map .int) [some scr, some (.cel 0), o2, o3, o4, o5, o6] [cI xs] = .nx [some scr, some (.cel 0), o2', o3, o4', o5', o6'] [cI xs']
  | [], xs, o2, o3, o4, o5, o6, _ => ⟨xs, o2, o4, o5, o6, by simp, rfl⟩
  | n :: ns, xs, o2, o3, o4, o5, o6, hl => by
    rw [List.length_cons] at hl
    obtain ⟨xs1, p4, p5, p6, h1, e1⟩ := cell_step scr n xs o2 o3 o4 o5 o6 (by omega)
    obtain ⟨xs', o2', o4', o5', o6', h2, e2⟩ := cells_run scr ns xs1 (some (.dat (.int n))) o3 p4 p5 p6 (by omega)
    refine ⟨xs', o2', o4', o5', o6', by rw [List.length_cons]; omega, ?_⟩
    rw [List.map_cons, loopM_cons, e1, loopO_nx, e2]
noncomputable abbrev seed_loop : SM := (seqM (setM 3 (op2 modD (opN intD (aCons (op2 addD (op2 mulD (vr 3) (cst (.int 48271))) (cst (.int 69621))) aNil)) (cst (.int 2147483647))))
        (dropM (appM (vr 1) (op2 fdivD (vr 3) (cst (.int 5))))))
theorem seed_run (scr : Vl) (a2 a5 a6 : Option Vl) : ∀ (l : List D) (xs : List Int) (m : Int) (o4 : Option Vl), xs.length + l.length < 20000 →
    ∃ xs' m' o4', loopM (tgM (bName 4) seed_loop) l [some scr, some (.cel 0), a2, some (.dat (.int m)), o4, a5, a6] [cI xs] = .nx [some scr, some (.cel 0), a2, some (.dat (.int m')), o4', a5, a6] [cI xs']
  | [], xs, m, o4, _ => ⟨xs, m, o4, rfl⟩
  | x :: l, xs, m, o4, hl => by
    rw [List.length_cons] at hl
    have hd : divOk 5 = true := by decide
    have h6 : setM 3 (op2 modD (opN intD (aCons (op2 addD (op2 mulD (vr 3) (cst (.int 48271))) (cst (.int 69621))) aNil)) (cst (.int 2147483647))) [some scr, some (.cel 0), a2, some (.dat (.int m)), some (.dat x), a5, a6] [cI xs] = .nx [some scr, some (.cel 0), a2, some (.dat (.int ((m * 48271 + 69621) % 2147483647))), some (.dat x), a5, a6] [cI xs] := by
      simp only [ev_setM, ev_op2, ev_opN, ev_aCons, ev_aNil, ev_vr, ev_cst, List.getElem?_cons_zero, List.getElem?_cons_succ, Res.bind_ok, ap2_dat, mul_r _ 48271 (by decide), addD_int, ofO_some, apN1, intD_int, modD_int]
      rfl
    generalize (m * 48271 + 69621) % 2147483647 = q at h6
    have e1 := app_run (f := vr 1) (g := op2 fdivD (vr 3) (cst (.int 5))) (s := [some scr, some (.cel 0), a2, some (.dat (.int q)), some (.dat x), a5, a6]) (st := [cI xs]) (k := 0) (xs := xs) (n := q / 5) rfl rfl (by
      simp only [ev_op2, ev_vr, ev_cst, List.getElem?_cons_zero, List.getElem?_cons_succ, Res.bind_ok, ap2_dat, fdivD_int, hd, if_true, ofO_some]) (by omega)
    obtain ⟨xs', m', o4', e⟩ := seed_run scr a2 a5 a6 l (xs ++ [q / 5]) q (some (.dat x)) (by simp; omega)
    refine ⟨xs', m', o4', ?_⟩
    have hb : tgM (bName 4) seed_loop x [some scr, some (.cel 0), a2, some (.dat (.int m)), o4, a5, a6] [cI xs] = .nx [some scr, some (.cel 0), a2, some (.dat (.int q)), some (.dat x), a5, a6] [cI (xs ++ [q / 5])] := by
      rw [ev_tgM, ev_bName, optO_some]
      show seed_loop [some scr, some (.cel 0), a2, some (.dat (.int m)), some (.dat x), a5, a6] [cI xs] = _
      rw [seed_loop, ev_seqM, h6, seqO_nx, e1]
      rfl
    rw [loopM_cons, hb, loopO_nx, e]
theorem draws_run (ns : List Int) (hn : ns.length ≤ 63) : ∃ xs ys, d_u_law_draws [.scr ns] [] = .ok (.cel 1) [cI xs, cI ys] := by
  obtain ⟨xs1, o2, o4, o5, o6, h1, e1⟩ := cells_run (.scr ns) ns [] none none none none none (by simp; omega)
  have hr : ∀ (s : Slots) (st : Store), rng1M (aCons (cst (.int 3000)) aNil) s st = .ok (rngD 0 3000 1) st := fun s st => run_rng1 (n := 3000) rfl (by decide)
  have e0 : (0 : Nat) ≤ sizeLine := Nat.zero_le _
  have hs : ∃ m : Int, (ifS (truM (op2 gtD (scLen (vr 0)) (cst (.int 0)))) (setM 3 (op2 addD (cst (.int 1)) (opN absD (aCons (scIx (vr 0) (cst (.int 0))) aNil)))) skipM) [some (.scr ns), some (.cel 0), o2, some (.dat (.int 1)), o4, o5, o6] [cI xs1] = .nx [some (.scr ns), some (.cel 0), o2, some (.dat (.int m)), o4, o5, o6] [cI xs1] := by
    have sc : scLen (vr 0) [some (.scr ns), some (.cel 0), o2, some (.dat (.int 1)), o4, o5, o6] [cI xs1] = .ok (.dat (.int ns.length)) [cI xs1] := rfl
    rw [ev_ifS, ev_truM, ev_op2, sc]
    simp only [Res.bind_ok, ev_cst, ap2_dat, gtD_int, ofO_some, peek_dat, truD_bool, bindS_ok]
    cases ns with
    | nil =>
      refine ⟨1, ?_⟩
      have : decide ((0 : Int) < ((([] : List Int).length : Nat) : Int)) = false := rfl
      rw [this, cnd_false, ev_skipM]
    | cons n ns =>
      have : decide ((0 : Int) < (((n :: ns).length : Nat) : Int)) = true := decide_eq_true (by simp only [List.length_cons]; omega)
      rw [this, cnd_true]
      have sx : scIx (vr 0) (cst (.int 0)) [some (.scr (n :: ns)), some (.cel 0), o2, some (.dat (.int 1)), o4, o5, o6] [cI xs1] = .ok (.dat (.int n)) [cI xs1] := by
        unfold scIx
        simp
      refine ⟨1 + (if n < 0 then -n else n), ?_⟩
      have so : opN absD (aCons (scIx (vr 0) (cst (.int 0))) aNil) [some (.scr (n :: ns)), some (.cel 0), o2, some (.dat (.int 1)), o4, o5, o6] [cI xs1] = .ok (.dat (.int (if n < 0 then -n else n))) [cI xs1] := by
        rw [ev_opN, ev_aCons, sx]
        simp only [Res.bind_ok, ev_aNil, apN1, absD_int, ofO_some]
      rw [ev_setM, ev_op2, ev_cst, Res.bind_ok, so]
      simp only [Res.bind_ok, ev_aNil, apN1, absD_int, ofO_some, ev_cst, ap2_dat, addD_int, bindS_ok, List.set]
  obtain ⟨m, hs⟩ := hs
  obtain ⟨xs2, m', o4', e2⟩ := seed_run (.scr ns) o2 o5 o6 (rngD 0 3000 1) xs1 m o4 (by rw [rngD_len]; simp at h1; omega)
  refine ⟨xs2, xs2.reverse, ?_⟩
  refine fnV_rt rfl ?_
  show b_u_law_draws [some (.scr ns), none, none, none, none, none, none] [] = _
  have h0 : setM 1 (lstC aNil) [some (.scr ns), none, none, none, none, none, none] [] = .nx [some (.scr ns), some (.cel 0), none, none, none, none, none] [cI []] := by
    simp [e0]
  have hit : itM (vr 0) [some (.scr ns), some (.cel 0), none, none, none, none, none] [cI []] = .ok (ns.map .int) [cI []] := rfl
  have h3 : setM 3 (cst (.int 1)) [some (.scr ns), some (.cel 0), o2, none, o4, o5, o6] [cI xs1] = .nx [some (.scr ns), some (.cel 0), o2, some (.dat (.int 1)), o4, o5, o6] [cI xs1] := rfl
  have h9 : retM (lrevC (vr 1)) [some (.scr ns), some (.cel 0), o2, some (.dat (.int m')), o4', o5, o6] [cI xs2] = .rt (.cel 1) [cI xs2, cI xs2.reverse] := by
    have hp : peek (.cel 0) [cI xs2] = some (.list (xs2.map .int)) := by
      have : (xs2.map dI) = (xs2.map PyData.int).map .dat := by rw [List.map_map]; rfl
      have e : peek (.cel 0) [cI xs2] = (unDat (xs2.map dI)).map .list := rfl
      rw [e, this, unDat_map]
      rfl
    rw [ev_retM]
    unfold lrevC
    rw [show vr 1 [some (.scr ns), some (.cel 0), o2, some (.dat (.int m')), o4', o5, o6] [cI xs2] = .ok (.cel 0) [cI xs2] from rfl, Res.bind_ok]
    simp only [hp, bindS_ok]
    have : ((xs2.map PyData.int).reverse.map Vl.dat) = xs2.reverse.map dI := by rw [← List.map_reverse, List.map_map]; rfl
    rw [this]
    rfl
  rw [b_u_law_draws, ev_seqM, h0, seqO_nx, ev_seqM, ev_forM, hit, bindS_ok, e1, seqO_nx, ev_seqM, h3, seqO_nx, ev_seqM, hs, seqO_nx, ev_seqM, ev_forM, hr, bindS_ok, e2, seqO_nx, h9]
end K23

set_option Elab.async false
set_option linter.all false
set_option maxRecDepth 100000
set_option maxHeartbeats 4000000
set_option exponentiation.threshold 5000
/-! TkK: taking from the draws, and curves made so. -/
namespace K23
open PySem L2 Pd
abbrev S2 (xs ys : List Int) : Store := [cI xs, cI ys]
theorem trim_S2 (xs ys : List Int) : trim 2 (S2 xs ys) = true := by
  unfold trim S2 cI
  simp [below]
theorem call_S2 {n k : Nat} {body : SM} {args : List Vl} {xs ys ys' : List Int} {d : D} (hn : args.length = n) (h : body (args.map some ++ List.replicate k none) (S2 xs ys) = .rt (.dat d) (S2 xs ys')) : closeD (fnV n k body) args (S2 xs ys) = .ok (.dat d) (S2 xs ys') :=
  closeD_okS (fnV_rt hn h) rfl (trim_S2 xs ys')
theorem take_run (xs ys : List Int) {b : Int} (hb : 0 < b) : ∃ v ys', d_u_law_take [.cel 1, .dat (.int b)] (S2 xs ys) = .ok (.dat (.int v)) (S2 xs ys') ∧ 0 ≤ v ∧ v < b := by
  have hl : opN lenD (aCons (vr 0) aNil) [some (.cel 1), some (.dat (.int b))] (S2 xs ys) = .ok (.dat (.int ys.length)) (S2 xs ys) := by
    have e := apN_cel (h := lenD) (k := 1) (ds := ys.map .int) (st := S2 xs ys) (by
      show some (cI ys) = _
      unfold cI
      rw [List.map_map]
      rfl)
    rw [ev_opN, ev_aCons, show vr 0 [some (.cel 1), some (.dat (.int b))] (S2 xs ys) = .ok (.cel 1) (S2 xs ys) from rfl, Res.bind_ok, ev_aNil, Res.bind_ok, Res.bind_ok, e, lenD_lst, List.length_map]
    rfl
  rcases List.eq_nil_or_concat ys with h | ⟨l, v, h⟩
  · subst h
    refine ⟨0, [], ?_, by omega, hb⟩
    refine call_S2 rfl ?_
    show b_u_law_take [some (.cel 1), some (.dat (.int b))] (S2 xs []) = _
    rw [b_u_law_take, ev_seqM, ev_ifS, ev_truM, ev_op2, hl]
    rfl
  · subst h
    refine ⟨v % b, l, ?_, Int.emod_nonneg _ (by omega), Int.emod_lt_of_pos _ hb⟩
    refine call_S2 rfl ?_
    show b_u_law_take [some (.cel 1), some (.dat (.int b))] (S2 xs (l.concat v)) = _
    have hp : popM (vr 0) [some (.cel 1), some (.dat (.int b))] (S2 xs (l.concat v)) = .ok (.dat (.int v)) (S2 xs l) := by
      unfold popM
      rw [show vr 0 [some (.cel 1), some (.dat (.int b))] (S2 xs (l.concat v)) = .ok (.cel 1) (S2 xs (l.concat v)) from rfl, Res.bind_ok]
      have e1 : lstAt (.cel 1) (S2 xs (l.concat v)) = some (1, (l.concat v).map dI) := rfl
      have e2 : ((l.concat v).map dI)[((l.concat v).map dI).length - 1]? = some (dI v) := by
        simp
      have e3 : ((l.concat v).map dI).dropLast = l.map dI := by simp
      simp only [e1, e2, e3]
      rfl
    have hz : decide (((l.concat v).length : Int) = 0) = false := decide_eq_false (by simp; omega)
    rw [b_u_law_take, ev_seqM, ev_ifS, ev_truM, ev_op2, hl]
    simp only [Res.bind_ok, ev_cst, ap2_dat, eqD_int, ofO_some, hz, peek_dat, truD_bool, bindS_ok, cnd_false, ev_skipM, seqO_nx]
    rw [ev_retM, ev_op2, ev_opN, ev_aCons, hp]
    simp only [Res.bind_ok, ev_aNil, apN1, intD_int, ofO_some, ev_vr, List.getElem?_cons_zero, List.getElem?_cons_succ, ap2_dat, modD_int, hb, if_true, bindS_ok]
theorem pick_run (xs ys : List Int) {ds : List D} (h : ds ≠ []) : ∃ d ys', d_u_law_pick [.cel 1, .dat (.list ds)] (S2 xs ys) = .ok (.dat d) (S2 xs ys') ∧ d ∈ ds := by
  have hl : 0 < ds.length := List.length_pos_iff.mpr h
  obtain ⟨v, ys', e, h1, h2⟩ := take_run xs ys (b := ds.length) (by omega)
  obtain ⟨k, rfl⟩ : ∃ k : Nat, v = k := ⟨v.toNat, by omega⟩
  have hk : k < ds.length := by omega
  refine ⟨ds[k], ys', ?_, List.getElem_mem hk⟩
  refine call_S2 rfl ?_
  show b_u_law_pick [some (.cel 1), some (.dat (.list ds))] (S2 xs ys) = _
  rw [b_u_law_pick, ev_retM, ev_op2]
  simp only [ev_callM, ev_aCons, ev_aNil, ev_opN, ev_vr, List.getElem?_cons_zero, List.getElem?_cons_succ, Res.bind_ok, apN1, lenD_lst, ofO_some, e, ap2_dat, ixD_lst, Pd.atI_nat, List.getElem?_eq_getElem hk, bindS_ok]
/-! comprehensions that draw -/
theorem lcGo_draw {b : BM} {t : TM} {e : EM} {s : Slots} {xs : List Int} : ∀ (l : List D) (ys : List Int), (∀ x ∈ l, ∃ s1, b (.dat x) s = some s1 ∧ ∀ ys, ∃ k ys', t s1 (S2 xs ys) = .ok k (S2 xs ys') ∧ e s1 (S2 xs ys') = .ok (.dat x) (S2 xs ys')) →
    ∃ l' ys', lcGo b t e l s (S2 xs ys) = .ok l' (S2 xs ys') ∧ l'.Sublist l
  | [], ys, _ => ⟨[], ys, rfl, List.Sublist.refl _⟩
  | x :: l, ys, h => by
    obtain ⟨s1, e1, h1⟩ := h x List.mem_cons_self
    obtain ⟨k, ys1, e2, e3⟩ := h1 ys
    obtain ⟨l', ys', e4, e5⟩ := lcGo_draw (e := e) l ys1 fun y hy => h y (List.mem_cons_of_mem _ hy)
    cases k with
    | true =>
      refine ⟨x :: l', ys', ?_, e5.cons₂ x⟩
      rw [lcGo_cons, e1]
      simp [e2, e3, e4]
    | false =>
      refine ⟨l', ys', ?_, e5.cons x⟩
      rw [lcGo_cons, e1]
      simp [e2, e4]
theorem lcGo_pts {b : BM} {e : EM} {s : Slots} {xs : List Int} (P : Rat → Rat → Prop) : ∀ (X : List Rat) (ys : List Int), (∀ x ∈ X, ∃ s1, b (.dat (rt x)) s = some s1 ∧ ∀ ys, ∃ y ys', e s1 (S2 xs ys) = .ok (.dat (ptD (x, y))) (S2 xs ys') ∧ P x y) →
    ∃ (c : List Pt) (ys' : List Int), lcGo b tYesM e (X.map rt) s (S2 xs ys) = .ok (c.map ptD) (S2 xs ys') ∧ c.map (·.1) = X ∧ ∀ p ∈ c, P p.1 p.2
  | [], ys, _ => ⟨[], ys, rfl, rfl, fun _ h => by cases h⟩
  | x :: X, ys, h => by
    obtain ⟨s1, e1, h1⟩ := h x List.mem_cons_self
    obtain ⟨y, ys1, e2, e3⟩ := h1 ys
    obtain ⟨c, ys', e4, e5, e6⟩ := lcGo_pts (e := e) P X ys1 fun z hz => h z (List.mem_cons_of_mem _ hz)
    refine ⟨(x, y) :: c, ys', ?_, by rw [List.map_cons, e5], fun p hp => ?_⟩
    · rw [List.map_cons, lcGo_cons, e1]
      simp [e2, e4]
    · cases hp with
      | head => exact e3
      | tail _ hp => exact e6 p hp
def XS : List Rat := [0, 1/8, 1/4, 1/3, 1/2, 2/3, 3/4, 7/8, 1]
def YS : List Rat := [0, 1, 1/2, 1/4, -1/3, 5/4, 2/5, 3/7]
theorem XS_sz : ∀ x ∈ XS, Sz 4 x ∧ 0 ≤ x ∧ x ≤ 1 := by
  unfold XS Sz
  decide +kernel
theorem YS_sz : ∀ y ∈ YS, Sz 4 y ∧ -1 ≤ y ∧ y ≤ 2 := by
  unfold YS Sz
  decide +kernel
theorem XS_ris : XS.Pairwise (· < ·) := by
  unfold XS
  decide +kernel
/-- what is asked of a point -/
def PtOk (x y : Rat) : Prop := Sz 12 y ∧ -3 ≤ y ∧ y ≤ 3
theorem good_of {c : List Pt} {X : List Rat} (hX : (0 :: X ++ [1]).Sublist XS) (hc : c.map (·.1) = 0 :: X ++ [1]) (hp : ∀ p ∈ c, PtOk p.1 p.2) : Good c := by
  have hlen : c.length = X.length + 2 := by
    have := congrArg List.length hc
    simpa using this
  have hl9 : (0 :: X ++ [1]).length ≤ 9 := hX.length_le
  have hris : (c.map (·.1)).Pairwise (· < ·) := by
    rw [hc]
    exact XS_ris.sublist hX
  have g : ∀ i, i < c.length → (pt c i).1 = (0 :: X ++ [1]).getD i 0 := fun i hi => by
    rw [← hc, getD_lt _ _ (by rw [List.length_map]; exact hi), List.getElem_map]
    unfold pt
    rw [getD_lt _ _ hi]
  refine ⟨by omega, by simp at hl9; omega, List.pairwise_map.mp hris, ?_, ?_, fun p hp2 => ⟨?_, (hp p hp2).1⟩, fun p hp2 => (hp p hp2).2⟩
  · rw [g 0 (by omega)]
    rfl
  · rw [g _ (by omega), hlen, getD_lt _ _ (by simp)]
    simp
  · have : p.1 ∈ XS := hX.subset (by rw [← hc]; exact List.mem_map.mpr ⟨p, hp2, rfl⟩)
    exact (XS_sz _ this).1.mono (by decide)
/-! a long curve -/
theorem tup_rt (n d : Int) (q : Rat) (s : Slots) (st : Store) (h : q.num = n ∧ (q.den : Int) = d) : tupM (aCons (cst (.int n)) (aCons (cst (.int d)) aNil)) s st = .ok (.dat (rt q)) st := by
  have e2 : (2 : Nat) ≤ sizeLine := sl _ (by decide)
  simp only [ev_tupM, ev_aCons, ev_aNil, ev_cst, Res.bind_ok, toDs_cons, toDs_nil, toD_dat, List.length_cons, List.length_nil]
  rw [if_pos e2]
  unfold rt
  rw [h.1, h.2]
theorem ptm_run {f g : EM} {s : Slots} {st st' : Store} {x y : Rat} (hf : f s st = .ok (.dat (rt x)) st) (hg : g s st = .ok (.dat (rt y)) st') : tupM (aCons f (aCons g aNil)) s st = .ok (.dat (ptD (x, y))) st' := by
  have e2 : (2 : Nat) ≤ sizeLine := sl _ (by decide)
  simp only [ev_tupM, ev_aCons, ev_aNil, hf, hg, Res.bind_ok, toDs_cons, toDs_nil, toD_dat, List.length_cons, List.length_nil]
  rw [if_pos e2]
  rfl
theorem lc_pts {s : Slots} {e : EM} {X : List Rat} (xs ys : List Int) (h1 : s[1]? = some (some (.dat (.list (X.map rt))))) (h4 : 4 < s.length) (hX : X.length ≤ 9) (h : ∀ x ∈ X, ∀ ys, ∃ y ys', e ((wipeS s [4]).set 4 (some (.dat (rt x)))) (S2 xs ys) = .ok (.dat (ptD (x, y))) (S2 xs ys') ∧ PtOk x y) :
    ∃ (c : List Pt) (ys' : List Int), opN tupleD (aCons (lcM (itM (vr 1)) (bName 4) [4] tYesM e) aNil) s (S2 xs ys) = .ok (.dat (cvD c)) (S2 xs ys') ∧ c.map (·.1) = X ∧ ∀ p ∈ c, PtOk p.1 p.2 := by
  obtain ⟨c, ys', e1, e2, e3⟩ := lcGo_pts (b := bName 4) (e := e) (s := wipeS s [4]) (xs := xs) PtOk X ys fun x hx => ⟨_, rfl, h x hx⟩
  refine ⟨c, ys', ?_, e2, e3⟩
  have hl : (c.map ptD).length ≤ sizeLine := by
    have := congrArg List.length e2
    rw [List.length_map] at this
    rw [List.length_map]
    exact sl _ (by omega)
  have hv : vr 1 s (S2 xs ys) = .ok (.dat (.list (X.map rt))) (S2 xs ys) := by
    rw [ev_vr, h1]
  rw [ev_opN, ev_aCons, ev_lcM, ev_itM, hv, Res.bind_ok]
  show (((lcGo (bName 4) tYesM e (X.map rt) (wipeS s [4]) (S2 xs ys) |> noX).bind _).bind _).bind _ = _
  rw [e1, noX_ok, Res.bind_ok, if_pos hl, Res.bind_ok, ev_aNil, Res.bind_ok, Res.bind_ok, apN1]
  rfl
theorem XS_list : lstD (aCons (tupM (aCons (cst (.int 0)) (aCons (cst (.int 1)) aNil))) (aCons (tupM (aCons (cst (.int 1)) (aCons (cst (.int 8)) aNil))) (aCons (tupM (aCons (cst (.int 1)) (aCons (cst (.int 4)) aNil))) (aCons (tupM (aCons (cst (.int 1)) (aCons (cst (.int 3)) aNil))) (aCons (tupM (aCons (cst (.int 1)) (aCons (cst (.int 2)) aNil))) (aCons (tupM (aCons (cst (.int 2)) (aCons (cst (.int 3)) aNil))) (aCons (tupM (aCons (cst (.int 3)) (aCons (cst (.int 4)) aNil))) (aCons (tupM (aCons (cst (.int 7)) (aCons (cst (.int 8)) aNil))) aNil)))))))) = fun s st => .ok (.dat (.list ([0, 1/8, 1/4, 1/3, 1/2, 2/3, 3/4, 7/8].map rt))) st := by
  funext s st
  have e8 : (8 : Nat) ≤ sizeLine := sl _ (by decide)
  rw [ev_lstD]
  simp only [ev_aCons, ev_aNil, tup_rt 0 1 0 _ _ (by decide +kernel), tup_rt 1 8 (1/8) _ _ (by decide +kernel), tup_rt 1 4 (1/4) _ _ (by decide +kernel), tup_rt 1 3 (1/3) _ _ (by decide +kernel), tup_rt 1 2 (1/2) _ _ (by decide +kernel), tup_rt 2 3 (2/3) _ _ (by decide +kernel), tup_rt 3 4 (3/4) _ _ (by decide +kernel), tup_rt 7 8 (7/8) _ _ (by decide +kernel), Res.bind_ok, toDs_cons, toDs_nil, toD_dat, List.length_cons, List.length_nil]
  rw [if_pos e8]
  rfl
theorem YS_list : lstD (aCons (tupM (aCons (cst (.int 0)) (aCons (cst (.int 1)) aNil))) (aCons (tupM (aCons (cst (.int 1)) (aCons (cst (.int 1)) aNil))) (aCons (tupM (aCons (cst (.int 1)) (aCons (cst (.int 2)) aNil))) (aCons (tupM (aCons (cst (.int 1)) (aCons (cst (.int 4)) aNil))) (aCons (tupM (aCons (op1 negD (cst (.int 1))) (aCons (cst (.int 3)) aNil))) (aCons (tupM (aCons (cst (.int 5)) (aCons (cst (.int 4)) aNil))) (aCons (tupM (aCons (cst (.int 2)) (aCons (cst (.int 5)) aNil))) (aCons (tupM (aCons (cst (.int 3)) (aCons (cst (.int 7)) aNil))) aNil)))))))) = fun s st => .ok (.dat (.list (YS.map rt))) st := by
  funext s st
  have e8 : (8 : Nat) ≤ sizeLine := sl _ (by decide)
  have e2 : (2 : Nat) ≤ sizeLine := sl _ (by decide)
  have hm : tupM (aCons (op1 negD (cst (.int 1))) (aCons (cst (.int 3)) aNil)) s st = .ok (.dat (rt (-1/3))) st := by
    simp only [ev_tupM, ev_aCons, ev_aNil, ev_cst, ev_op1, Res.bind_ok, peek_dat, negD_int, ofO_some, toDs_cons, toDs_nil, toD_dat, List.length_cons, List.length_nil]
    rw [if_pos e2]
    unfold rt
    rw [show (-1/3 : Rat).num = -1 by decide +kernel, show (-1/3 : Rat).den = 3 by decide +kernel]
    rfl
  rw [ev_lstD]
  simp only [ev_aCons, ev_aNil, tup_rt 0 1 0 _ _ (by decide +kernel), tup_rt 1 1 1 _ _ (by decide +kernel), tup_rt 1 2 (1/2) _ _ (by decide +kernel), tup_rt 1 4 (1/4) _ _ (by decide +kernel), hm, tup_rt 5 4 (5/4) _ _ (by decide +kernel), tup_rt 2 5 (2/5) _ _ (by decide +kernel), tup_rt 3 7 (3/7) _ _ (by decide +kernel), Res.bind_ok, toDs_cons, toDs_nil, toD_dat, List.length_cons, List.length_nil]
  rw [if_pos e8]
  rfl
theorem sz_half : Sz 2 (1/2 : Rat) := by unfold Sz; decide +kernel
theorem sz_fifth : Sz 3 (1/5 : Rat) := by unfold Sz; decide +kernel
theorem long_run (xs ys : List Int) : ∃ c ys', d_u_law_long_curve [.cel 1] (S2 xs ys) = .ok (.dat (cvD c)) (S2 xs ys') ∧ Good c := by
  -- the numbers x
  let X0 : List Rat := [0, 1/8, 1/4, 1/3, 1/2, 2/3, 3/4, 7/8]
  have hf := lcGo_draw (b := bName 4) (t := truM (op2 ltD (callM d_u_law_take (aCons (vr 0) (aCons (cst (.int 5)) aNil))) (cst (.int 4)))) (e := vr 4) (s := wipeS [some (.cel 1), some (.dat (.list (X0.map rt))), none, none, none] [4]) (xs := xs) (X0.tail.map rt) ys fun x hx => by
    refine ⟨_, rfl, fun ys => ?_⟩
    obtain ⟨v, ys', e, h1, h2⟩ := take_run xs ys (b := 5) (by decide)
    refine ⟨decide (v < 4), ys', ?_, rfl⟩
    simp only [wipeS, List.set, ev_truM, ev_op2, ev_callM, ev_aCons, ev_aNil, ev_vr, ev_cst, List.getElem?_cons_zero, Res.bind_ok, e, ap2_dat, ltD_int, ofO_some, peek_dat, truD_bool]
  obtain ⟨l', ys1, e1, hsub⟩ := hf
  obtain ⟨X, hX, rfl⟩ : ∃ X : List Rat, X.Sublist X0.tail ∧ l' = X.map rt := by
    obtain ⟨X, h1, h2⟩ := List.sublist_map_iff.mp hsub
    exact ⟨X, h1, h2⟩
  have hXl : X.length ≤ 7 := hX.length_le
  have hXS : (0 :: X ++ [1]).Sublist XS := by
    have : XS = 0 :: X0.tail ++ [1] := rfl
    rw [this]
    exact List.Sublist.append (hX.cons₂ 0) (List.Sublist.refl _)
  have hmem : ∀ x ∈ (0 :: X ++ [1]), x ∈ XS := fun x hx => hXS.subset hx
  have e2 : (2 : Nat) ≤ sizeLine := sl _ (by decide)
  have e1' : (1 : Nat) ≤ sizeLine := sl _ (by decide)
  -- xs
  have h1 : setM 1 (op2 addD (op2 addD (lstD (aCons (tupM (aCons (cst (.int 0)) (aCons (cst (.int 1)) aNil))) aNil)) (lcM (itM (sliceM (vr 1) (someO (cst (.int 1))) noO)) (bName 4) [4] (truM (op2 ltD (callM d_u_law_take (aCons (vr 0) (aCons (cst (.int 5)) aNil))) (cst (.int 4)))) (vr 4))) (lstD (aCons (tupM (aCons (cst (.int 1)) (aCons (cst (.int 1)) aNil))) aNil))) [some (.cel 1), some (.dat (.list (X0.map rt))), none, none, none] (S2 xs ys)
      = .nx [some (.cel 1), some (.dat (.list ((0 :: X ++ [1]).map rt))), none, none, none] (S2 xs ys1) := by
    have a0 : ∀ st : Store, lstD (aCons (tupM (aCons (cst (.int 0)) (aCons (cst (.int 1)) aNil))) aNil) [some (.cel 1), some (.dat (.list (X0.map rt))), none, none, none] st = .ok (.dat (.list [rt 0])) st := fun st => by
      simp only [ev_lstD, ev_aCons (f := tupM _), ev_aNil, tup_rt 0 1 0 _ _ (by decide +kernel), Res.bind_ok, toDs_cons, toDs_nil, toD_dat, List.length_cons, List.length_nil]
      rw [if_pos e1']
    have a1 : ∀ st : Store, lstD (aCons (tupM (aCons (cst (.int 1)) (aCons (cst (.int 1)) aNil))) aNil) [some (.cel 1), some (.dat (.list (X0.map rt))), none, none, none] st = .ok (.dat (.list [rt 1])) st := fun st => by
      simp only [ev_lstD, ev_aCons (f := tupM _), ev_aNil, tup_rt 1 1 1 _ _ (by decide +kernel), Res.bind_ok, toDs_cons, toDs_nil, toD_dat, List.length_cons, List.length_nil]
      rw [if_pos e1']
    have a2 : itM (sliceM (vr 1) (someO (cst (.int 1))) noO) [some (.cel 1), some (.dat (.list (X0.map rt))), none, none, none] (S2 xs ys) = .ok (X0.tail.map rt) (S2 xs ys) := by
      simp only [ev_itM, ev_sliceM, ev_someO, ev_noO, ev_cst, ev_vr, List.getElem?_cons_zero, List.getElem?_cons_succ, Res.bind_ok, peek_dat, sliceD_lst, cutL_1, ofO_some]
      rfl
    have q1 : (X.map rt).length ≤ sizeLine := by rw [List.length_map]; exact sl _ (by omega)
    have q2 : [rt 0].length + (X.map rt).length ≤ sizeLine := by rw [List.length_map, List.length_singleton]; exact sl _ (by omega)
    have q3 : ([rt 0] ++ X.map rt).length + [rt 1].length ≤ sizeLine := by rw [List.length_append, List.length_map, List.length_singleton, List.length_singleton]; exact sl _ (by omega)
    rw [ev_setM, ev_op2, ev_op2, a0, Res.bind_ok, ev_lcM, a2, Res.bind_ok, e1, noX_ok, Res.bind_ok, if_pos q1, Res.bind_ok, ap2_dat, addD_lst, if_pos q2, ofO_some, Res.bind_ok, a1, Res.bind_ok, ap2_dat, addD_lst, if_pos q3, ofO_some, bindS_ok]
    simp
  obtain ⟨kind, ys2, hk, hk1, hk2⟩ := take_run xs ys1 (b := 4) (by decide)
  have h2 : setM 2 (callM d_u_law_take (aCons (vr 0) (aCons (cst (.int 4)) aNil))) [some (.cel 1), some (.dat (.list ((0 :: X ++ [1]).map rt))), none, none, none] (S2 xs ys1) = .nx [some (.cel 1), some (.dat (.list ((0 :: X ++ [1]).map rt))), some (.dat (.int kind)), none, none] (S2 xs ys2) := by
    simp only [ev_setM, ev_callM, ev_aCons, ev_aNil, ev_vr, ev_cst, List.getElem?_cons_zero, Res.bind_ok, hk, bindS_ok, List.set]
  have hX9 : (0 :: X ++ [1]).length ≤ 9 := by simp; omega
  have fin : ∀ {k : Nat} {body : SM} (c : List Pt) (ys' : List Int), b_u_law_long_curve [some (.cel 1), none, none, none, none] (S2 xs ys) = .rt (.dat (cvD c)) (S2 xs ys') → c.map (·.1) = 0 :: X ++ [1] → (∀ p ∈ c, PtOk p.1 p.2) → ∃ c ys', d_u_law_long_curve [.cel 1] (S2 xs ys) = .ok (.dat (cvD c)) (S2 xs ys') ∧ Good c := by
    intro k body c ys' e e2 e3
    exact ⟨c, ys', call_S2 rfl e, good_of hXS e2 e3⟩
  have st1 : setM 1 (lstD (aCons (tupM (aCons (cst (.int 0)) (aCons (cst (.int 1)) aNil))) (aCons (tupM (aCons (cst (.int 1)) (aCons (cst (.int 8)) aNil))) (aCons (tupM (aCons (cst (.int 1)) (aCons (cst (.int 4)) aNil))) (aCons (tupM (aCons (cst (.int 1)) (aCons (cst (.int 3)) aNil))) (aCons (tupM (aCons (cst (.int 1)) (aCons (cst (.int 2)) aNil))) (aCons (tupM (aCons (cst (.int 2)) (aCons (cst (.int 3)) aNil))) (aCons (tupM (aCons (cst (.int 3)) (aCons (cst (.int 4)) aNil))) (aCons (tupM (aCons (cst (.int 7)) (aCons (cst (.int 8)) aNil))) aNil))))))))) [some (.cel 1), none, none, none, none] (S2 xs ys) = .nx [some (.cel 1), some (.dat (.list (X0.map rt))), none, none, none] (S2 xs ys) := by
    rw [XS_list]
    rfl
  obtain ⟨s0, hs0⟩ : ∃ s : Slots, s = [some (.cel 1), some (.dat (.list ((0 :: X ++ [1]).map rt))), some (.dat (.int kind)), none, none] := ⟨_, rfl⟩
  have hc0 : ∀ k : Int, truM (op2 eqD (vr 2) (cst (.int k))) s0 (S2 xs ys2) = .ok (decide (kind = k)) (S2 xs ys2) := fun k => by
    simp only [hs0, ev_truM, ev_op2, ev_vr, ev_cst, List.getElem?_cons_zero, List.getElem?_cons_succ, Res.bind_ok, ap2_dat, eqD_int, ofO_some, peek_dat, truD_bool]
  have hx4 : ∀ (x : Rat) (s : Slots) (st : Store), 4 < s.length → vr 4 (s.set 4 (some (.dat (rt x)))) st = .ok (.dat (rt x)) st := fun x s st h => by
    rw [ev_vr, List.getElem?_set_self h]
  by_cases k0 : kind = 0
  · obtain ⟨c, ys', g1, g2, g3⟩ := lc_pts (s := s0) (e := tupM (aCons (vr 4) (aCons (callM d_u_law_mul (aCons (vr 4) (aCons (tupM (aCons (cst (.int 1)) (aCons (cst (.int 2)) aNil))) aNil))) aNil))) xs ys2 (by rw [hs0]; rfl) (by simp [hs0]) hX9 fun x hx ys => by
      obtain ⟨z1, z2, z3⟩ := XS_sz x (hmem x hx)
      refine ⟨x * (1/2), ys, ptm_run (hx4 _ _ _ (by simp [hs0, wipeS])) ?_, (mul_sz z1 sz_half).mono (by decide), by grind, by grind⟩
      rw [ev_callM, ev_aCons, hx4 _ _ _ (by simp [hs0, wipeS]), Res.bind_ok, ev_aCons, tup_rt 1 2 (1/2) _ _ (by decide +kernel), Res.bind_ok, ev_aNil, Res.bind_ok, Res.bind_ok, Res.bind_ok]
      exact lmul_run _ (z1.mono (by decide)) (sz_half.mono (by decide))
    refine fin (k := 0) (body := skipM) c ys' ?_ g2 g3
    rw [b_u_law_long_curve, ev_seqM, st1, seqO_nx, ev_seqM, h1, seqO_nx, ev_seqM, h2, seqO_nx, ← hs0, ev_seqM, ev_ifS, hc0 0, bindS_ok, decide_eq_true k0, cnd_true, ev_retM, g1, bindS_ok, seqO_rt]
  by_cases k1 : kind = 1
  · obtain ⟨c, ys', g1, g2, g3⟩ := lc_pts (s := s0) (e := tupM (aCons (vr 4) (aCons (ifE (truM (callM d_u_law_less (aCons (vr 4) (aCons (tupM (aCons (cst (.int 1)) (aCons (cst (.int 2)) aNil))) aNil)))) (vr 4) (tupM (aCons (cst (.int 1)) (aCons (cst (.int 2)) aNil)))) aNil))) xs ys2 (by rw [hs0]; rfl) (by simp [hs0]) hX9 fun x hx ys => by
      obtain ⟨z1, z2, z3⟩ := XS_sz x (hmem x hx)
      refine ⟨if x < 1/2 then x else 1/2, ys, ptm_run (hx4 _ _ _ (by simp [hs0, wipeS])) ?_, ?_, ?_, ?_⟩
      · rw [ev_ifE, ev_truM, ev_callM, ev_aCons, hx4 _ _ _ (by simp [hs0, wipeS]), Res.bind_ok, ev_aCons, tup_rt 1 2 (1/2) _ _ (by decide +kernel), Res.bind_ok, ev_aNil, Res.bind_ok, Res.bind_ok, Res.bind_ok, lless_run _ (z1.mono (by decide)) (sz_half.mono (by decide))]
        simp only [Res.bind_ok, peek_dat, truD_bool]
        by_cases hx2 : x < 1/2
        · rw [decide_eq_true hx2, cnd_true, if_pos hx2]
          exact hx4 _ _ _ (by simp [hs0, wipeS])
        · rw [decide_eq_false hx2, cnd_false, if_neg hx2, tup_rt 1 2 (1/2) _ _ (by decide +kernel)]
      · split
        · exact z1.mono (by decide)
        · exact sz_half.mono (by decide)
      · split <;> grind
      · split <;> grind
    refine fin (k := 0) (body := skipM) c ys' ?_ g2 g3
    rw [b_u_law_long_curve, ev_seqM, st1, seqO_nx, ev_seqM, h1, seqO_nx, ev_seqM, h2, seqO_nx, ← hs0, ev_seqM, ev_ifS, hc0 0, bindS_ok, decide_eq_false k0, cnd_false, ev_skipM, seqO_nx, ev_seqM, ev_ifS, hc0 1, bindS_ok, decide_eq_true k1, cnd_true, ev_retM, g1, bindS_ok, seqO_rt]
  -- the others draw again
  obtain ⟨s1, hs1⟩ : ∃ s : Slots, s = [some (.cel 1), some (.dat (.list ((0 :: X ++ [1]).map rt))), some (.dat (.int kind)), some (.dat (.list (YS.map rt))), none] := ⟨_, rfl⟩
  have hs01 : s0.set 3 (some (.dat (.list (YS.map rt)))) = s1 := by
    rw [hs0, hs1]
    rfl
  have hc1 : ∀ (o : Option Vl) (ys : List Int), truM (op2 eqD (vr 2) (cst (.int 2))) ((wipeS s1 [4]).set 4 o) (S2 xs ys) = .ok (decide (kind = 2)) (S2 xs ys) := fun o ys => by
    simp only [hs1, wipeS, List.set, ev_truM, ev_op2, ev_vr, ev_cst, List.getElem?_cons_zero, List.getElem?_cons_succ, Res.bind_ok, ap2_dat, eqD_int, ofO_some, peek_dat, truD_bool]
  have hpick : ∀ (o : Option Vl) (ys : List Int), ∃ y ys', callM d_u_law_pick (aCons (vr 0) (aCons (vr 3) aNil)) ((wipeS s1 [4]).set 4 o) (S2 xs ys) = .ok (.dat (rt y)) (S2 xs ys') ∧ y ∈ YS := fun o ys => by
    obtain ⟨d, ys', e, hd⟩ := pick_run xs ys (ds := YS.map rt) (by decide)
    obtain ⟨y, hy, rfl⟩ := List.mem_map.mp hd
    refine ⟨y, ys', ?_, hy⟩
    simp only [hs1, wipeS, List.set, ev_callM, ev_aCons, ev_aNil, ev_vr, List.getElem?_cons_zero, List.getElem?_cons_succ, Res.bind_ok, e]
  obtain ⟨c, ys', g1, g2, g3⟩ := lc_pts (s := s1) (e := tupM (aCons (vr 4) (aCons (ifE (truM (op2 eqD (vr 2) (cst (.int 2)))) (callM d_u_law_add (aCons (vr 4) (aCons (callM d_u_law_mul (aCons (callM d_u_law_pick (aCons (vr 0) (aCons (vr 3) aNil))) (aCons (tupM (aCons (cst (.int 1)) (aCons (cst (.int 5)) aNil))) aNil))) aNil))) (callM d_u_law_pick (aCons (vr 0) (aCons (vr 3) aNil)))) aNil))) xs ys2 (by rw [hs1]; rfl) (by simp [hs1]) hX9 fun x hx ys => by
    obtain ⟨z1, z2, z3⟩ := XS_sz x (hmem x hx)
    obtain ⟨y, ys', e, hy⟩ := hpick (some (.dat (rt x))) ys
    obtain ⟨y1, y2, y3⟩ := YS_sz y hy
    by_cases k2 : kind = 2
    · refine ⟨x + y * (1/5), ys', ptm_run (hx4 _ _ _ (by simp [hs1, wipeS])) ?_, (add_sz z1 (mul_sz y1 sz_fifth)).mono (by decide), by grind, by grind⟩
      rw [ev_ifE, hc1, Res.bind_ok, decide_eq_true k2, cnd_true, ev_callM, ev_aCons, hx4 _ _ _ (by simp [hs1, wipeS]), Res.bind_ok, ev_aCons, ev_callM, ev_aCons, e, Res.bind_ok, ev_aCons, tup_rt 1 5 (1/5) _ _ (by decide +kernel), Res.bind_ok, ev_aNil, Res.bind_ok, Res.bind_ok, Res.bind_ok, lmul_run _ (y1.mono (by decide)) (sz_fifth.mono (by decide)), Res.bind_ok, ev_aNil, Res.bind_ok, Res.bind_ok, Res.bind_ok]
      exact ladd_run _ (z1.mono (by decide)) ((mul_sz y1 sz_fifth).mono (by decide))
    · refine ⟨y, ys', ptm_run (hx4 _ _ _ (by simp [hs1, wipeS])) ?_, y1.mono (by decide), by grind, by grind⟩
      rw [ev_ifE, hc1, Res.bind_ok, decide_eq_false k2, cnd_false, e]
  refine fin (k := 0) (body := skipM) c ys' ?_ g2 g3
  rw [b_u_law_long_curve, ev_seqM, st1, seqO_nx, ev_seqM, h1, seqO_nx, ev_seqM, h2, seqO_nx, ← hs0, ev_seqM, ev_ifS, hc0 0, bindS_ok, decide_eq_false k0, cnd_false, ev_skipM, seqO_nx, ev_seqM, ev_ifS, hc0 1, bindS_ok, decide_eq_false k1, cnd_false, ev_skipM, seqO_nx, ev_seqM, ev_setM, YS_list, bindS_ok, seqO_nx, hs01, ev_retM, g1, bindS_ok]
end K23

set_option Elab.async false
set_option linter.all false
set_option maxRecDepth 100000
set_option maxHeartbeats 4000000
set_option exponentiation.threshold 5000
/-! LwK: what is refused; what the law asks. -/
namespace K23
open PySem L2 Pd
/-! what is refused -/
theorem ratio_not (d : D) (h : isiD "tuple" d = some (.bool false)) (st : Store) : d_is_ratio [.dat d] st = .ok (.dat (.bool false)) st := by
  refine call_rt rfl ?_
  simp [b_is_ratio, h]
theorem curve_not (d : D) (h : isiD "tuple" d = some (.bool false)) (st : Store) : d_is_curve [.dat d] st = .ok (.dat (.bool false)) st := by
  refine call_rt rfl ?_
  simp [b_is_curve, h]
theorem curve_short (ds : List D) (h : ds.length < 2) (st : Store) : d_is_curve [.dat (.tuple ds)] st = .ok (.dat (.bool false)) st := by
  refine call_rt rfl ?_
  have k : ¬ (2 : Int) ≤ ds.length := by omega
  have k3 : chM leD leD (cst (.int 2)) (opN lenD (aCons (vr 0) aNil)) (cst c_MOST_POINTS) [some (Vl.dat (.tuple ds)), none, none, none, none] st = .ok (.dat (.bool false)) st := by
    simp [chM, c_MOST_POINTS, k]
  simp [b_is_curve, k3]
theorem lcGo_bools {b : BM} {e : EM} {s : Slots} {st : Store} (Q : D → Prop) : ∀ l : List D, (∀ x ∈ l, ∃ s1 k, b (.dat x) s = some s1 ∧ e s1 st = .ok (.dat (.bool k)) st ∧ (k = true → Q x)) →
    ∃ bs : List Bool, lcGo b tYesM e l s st = .ok (bs.map .bool) st ∧ bs.length = l.length ∧ (bs.all id = true → ∀ x ∈ l, Q x)
  | [], _ => ⟨[], rfl, rfl, fun _ x hx => by cases hx⟩
  | x :: l, h => by
    obtain ⟨s1, k, e1, e2, e3⟩ := h x List.mem_cons_self
    obtain ⟨bs, g1, g2, g3⟩ := lcGo_bools (e := e) Q l fun y hy => h y (List.mem_cons_of_mem _ hy)
    refine ⟨k :: bs, ?_, by simp [g2], fun ha y hy => ?_⟩
    · rw [lcGo_cons, e1]
      simp [e2, g1]
    · simp only [List.all_cons, id, Bool.and_eq_true] at ha
      cases hy with
      | head => exact e3 ha.1
      | tail _ hy => exact g3 ha.2 y hy
theorem curve_gen {c : List Pt} (h2 : 2 ≤ c.length) (h40 : c.length ≤ 40) (hsz : ∀ p ∈ c, Sz 12 p.1) (st : Store) : ∃ r : Bool, (r = true → ∀ i, i + 1 < c.length → (pt c i).1 < (pt c (i + 1)).1) ∧
    d_is_curve [.dat (cvD c)] st = .ok (.dat (.bool (r && (decide ((pt c 0).1 = 0) && decide ((pt c (c.length - 1)).1 = 1))))) st := by
  have e1 : ∀ s : Slots, s.length = 5 → lcGo (bName 2) tYesM (callM d_is_point (aCons (vr 2) aNil)) (c.map ptD) s st = .ok ((c.map ptD).map fun _ => .bool true) st := by
    intro s hs
    refine lcGo_map (fun _ => .bool true) _ fun x hx => ?_
    obtain ⟨p, _, rfl⟩ := List.mem_map.mp hx
    refine ⟨s.set 2 (some (.dat (ptD p))), rfl, ?_⟩
    simp [hs, ispoint_run]
  obtain ⟨bs, g1, g2, g3⟩ := lcGo_bools (b := bTup [bName 3, bName 4]) (e := callM d_is_below (aCons (op2 ixD (vr 3) (cst (.int 0))) (aCons (op2 ixD (vr 4) (cst (.int 0))) aNil))) (s := wipeS [some (.dat (cvD c)), none, none, none, none] [3, 4]) (st := st) (fun d => ∀ p q : Pt, d = .tuple [ptD p, ptD q] → p.1 < q.1) (zipD (c.map ptD) (c.map ptD).tail) fun x hx => by
    obtain ⟨i, hi⟩ := List.mem_iff_getElem?.mp hx
    obtain ⟨a, b, ea, eb, rfl⟩ := zipD_get hi
    have hi2 : i + 1 < c.length := by
      rw [List.getElem?_tail] at eb
      have := (List.getElem?_eq_some_iff.mp eb).1
      simpa using this
    rw [atl_ptD (by omega)] at ea
    rw [List.getElem?_tail, atl_ptD hi2] at eb
    cases ea
    cases eb
    have hb := below_run st ((hsz _ (pt_mem (i := i) (by omega))).mono (by decide : 12 ≤ 1000)) ((hsz _ (pt_mem hi2)).mono (by decide : 12 ≤ 1000))
    refine ⟨_, decide ((pt c i).1 < (pt c (i + 1)).1), rfl, ?_, ?_⟩
    · simp [wipeS, ptD, hb]
    · intro k p q e
      have k2 := of_decide_eq_true k
      simp only [ptD, rt] at e
      injection e with e
      injection e with e3 e4
      injection e4 with e4 _
      injection e3 with e3
      injection e3 with e3 _
      injection e3 with e3
      injection e3 with e5 e6
      injection e5 with e5
      injection e6 with e6 _
      injection e6 with e6
      injection e4 with e4
      injection e4 with e4 _
      injection e4 with e4
      injection e4 with e7 e8
      injection e7 with e7
      injection e8 with e8 _
      injection e8 with e8
      have a1 : (pt c i).1 = p.1 := Rat.ext e5 (by omega)
      have a2 : (pt c (i + 1)).1 = q.1 := Rat.ext e7 (by omega)
      rw [← a1, ← a2]
      exact k2
  refine ⟨bs.all id, fun hr i hi => ?_, ?_⟩
  · have hm : PyData.tuple [ptD (pt c i), ptD (pt c (i + 1))] ∈ zipD (c.map ptD) (c.map ptD).tail := by
      unfold zipD
      refine List.mem_map.mpr ⟨(ptD (pt c i), ptD (pt c (i + 1))), List.mem_iff_getElem?.mpr ⟨i, ?_⟩, rfl⟩
      rw [List.getElem?_zip_eq_some]
      exact ⟨atl_ptD (by omega), by rw [List.getElem?_tail]; exact atl_ptD hi⟩
    exact g3 hr _ hm _ _ rfl
  refine call_rt rfl ?_
  have hz := atl_ptD (c := c) (i := 0) (by omega)
  have ho := atl_ptD (c := c) (i := c.length - 1) (by omega)
  have hz2 : eqD (rt (pt c 0).1) c_ZERO = some (.bool (decide ((pt c 0).1 = 0))) := by rw [zero_rt, eqD_rt]
  have ho2 : eqD (rt (pt c (c.length - 1)).1) c_ONE = some (.bool (decide ((pt c (c.length - 1)).1 = 1))) := by rw [one_rt, eqD_rt]
  have q1 : (List.map (fun _ => PyData.bool true) (c.map ptD)).length ≤ sizeLine := by
    rw [List.length_map, List.length_map]
    exact sl _ (by omega)
  have q2 : (bs.map PyData.bool).length ≤ sizeLine := by
    rw [List.length_map, g2, zipD_len, List.length_tail, List.length_map]
    exact sl _ (by omega)
  have k1 : (2 : Int) ≤ c.length := by omega
  have k2 : (c.length : Int) ≤ 40 := by omega
  have k3 : chM leD leD (cst (.int 2)) (opN lenD (aCons (vr 0) aNil)) (cst c_MOST_POINTS) [some (Vl.dat (.tuple (c.map ptD))), none, none, none, none] st = .ok (.dat (.bool true)) st := by
    simp [chM, c_MOST_POINTS, k1, k2]
  have hall : allD [.list (bs.map PyData.bool)] = some (.bool (bs.all id)) := by
    have e : allD [.list (bs.map PyData.bool)] = (unBools (bs.map PyData.bool)).map fun bs => .bool (bs.all id) := rfl
    rw [e, unBools_map]
    rfl
  simp only [seqO_nx, seqO_rt, optO_some, cnd_true, cnd_false, b_is_curve, cvD, List.map_cons (f := some), List.map_nil (f := some), List.replicate, List.cons_append, List.nil_append, ev_seqM, ev_ifS, ev_orT, ev_notT, ev_truM, ev_isiM, ev_vr, List.getElem?_cons_zero, List.getElem?_cons_succ, Res.bind_ok, peek_dat, isiD_tt, ofO_some, truD_bool, Bool.not_true]
  simp only [k3, Res.bind_ok, peek_dat, truD_bool, Bool.not_true, bindS_ok, cnd_false, ev_skipM, seqO_nx]
  simp only [ev_seqM, ev_ifS, ev_notT, ev_truM, ev_opN, ev_aCons, ev_aNil, ev_lcM, ev_itM, ev_vr, List.getElem?_cons_zero, Res.bind_ok]
  rw [e1 _ (by rfl)]
  simp only [noX_ok, Res.bind_ok]
  rw [if_pos q1]
  simp only [Res.bind_ok, apN1]
  rw [allD_true]
  simp only [ofO_some, Res.bind_ok, peek_dat, truD_bool, Bool.not_true, bindS_ok, cnd_false, ev_skipM, seqO_nx]
  simp only [ev_seqM, ev_setM, ev_opN, ev_aCons, ev_aNil, ev_lcM, ev_zipM, ev_vr, List.getElem?_cons_zero, Res.bind_ok, ev_sliceM, ev_someO, ev_noO, ev_cst, peek_dat, sliceD_tup, cutL_1, ofO_some, toDs_cons, toDs_nil, toD_dat]
  unfold cvD at g1
  rw [g1]
  simp only [noX_ok, Res.bind_ok]
  rw [if_pos q2]
  simp only [Res.bind_ok, apN1]
  rw [hall]
  simp only [ofO_some, bindS_ok, seqO_nx, List.set, ev_retM, ev_andE, ev_vr, List.getElem?_cons_zero, List.getElem?_cons_succ, Res.bind_ok, andO_bool, ev_op2, ev_op1, ev_cst, ap2_dat, ixD_tup, atI_0, hz, ptD, hz2, peek_dat, negD_int, Pd.atI_last, List.length_map, ho, ho2]
  cases bs.all id <;> cases decide ((pt c 0).1 = 0) <;> cases decide ((pt c (c.length - 1)).1 = 1) <;> rfl
theorem curve_tail {c : List Pt} (h : Good c) (st : Store) : d_is_curve [.dat (cvD c.tail)] st = .ok (.dat (.bool false)) st := by
  have l2 := h.l2
  have l9 := h.l9
  by_cases hl : c.tail.length < 2
  · exact curve_short _ (by rw [List.length_map]; exact hl) st
  · obtain ⟨r, _, e⟩ := curve_gen (c := c.tail) (by omega) (by rw [List.length_tail]; omega) (fun p hp => (h.sz p (List.mem_of_mem_tail hp)).1) st
    obtain ⟨p, q, t, rfl⟩ : ∃ p q t, c = p :: q :: t := by
      match c, l2 with
      | p :: q :: t, _ => exact ⟨p, q, t, rfl⟩
    have h1 : p.1 < q.1 := (List.pairwise_cons.mp h.ris).1 q List.mem_cons_self
    have h0 : p.1 = 0 := h.z
    have h3 : decide ((pt (p :: q :: t).tail 0).1 = 0) = false := decide_eq_false (by
      show ¬ q.1 = 0
      grind)
    rw [e, h3]
    simp
theorem curve_more {c : List Pt} (h : Good c) (st : Store) : d_is_curve [.dat (cvD (c ++ [pt c (c.length - 1)]))] st = .ok (.dat (.bool false)) st := by
  have l2 := h.l2
  have l9 := h.l9
  obtain ⟨r, hr, e⟩ := curve_gen (c := c ++ [pt c (c.length - 1)]) (by simp; omega) (by simp; omega) (fun p hp => by
    rcases List.mem_append.mp hp with k | k
    · exact (h.sz p k).1
    · have : p = pt c (c.length - 1) := by simpa using k
      rw [this]
      exact (h.sz _ (pt_mem (by omega))).1) st
  have hf : r = false := by
    cases r with
    | false => rfl
    | true =>
      have := hr rfl (c.length - 1) (by simp; omega)
      have e1 : pt (c ++ [pt c (c.length - 1)]) (c.length - 1) = pt c (c.length - 1) := by
        unfold pt
        rw [getD_lt _ _ (by simp; omega), List.getElem_append_left (by omega), ← getD_lt c (0, 0)]
      have e2 : pt (c ++ [pt c (c.length - 1)]) (c.length - 1 + 1) = pt c (c.length - 1) := by
        have q : c.length - 1 + 1 = c.length := by omega
        rw [q]
        unfold pt
        rw [getD_lt (c ++ _) _ (by simp), List.getElem_append_right (by omega)]
        simp
      rw [e1, e2] at this
      exact absurd this Rat.lt_irrefl
  rw [e, hf]
  rfl
theorem point_not (st : Store) : d_is_point [.dat (.tuple [.int 1, .int 1])] st = .ok (.dat (.bool false)) st := by
  refine call_rt rfl ?_
  have e := ratio_not (.int 1) rfl st
  simp [b_is_point, e]
theorem curve_odd (p : Pt) (st : Store) : d_is_curve [.dat (.tuple [ptD p, .tuple [.int 1, .int 1]])] st = .ok (.dat (.bool false)) st := by
  refine call_rt rfl ?_
  have k3 : chM leD leD (cst (.int 2)) (opN lenD (aCons (vr 0) aNil)) (cst c_MOST_POINTS) [some (Vl.dat (.tuple [ptD p, .tuple [.int 1, .int 1]])), none, none, none, none] st = .ok (.dat (.bool true)) st := by
    simp [chM, c_MOST_POINTS]
  have q : (2 : Nat) ≤ sizeLine := sl _ (by decide)
  have e1 : lcGo (bName 2) tYesM (callM d_is_point (aCons (vr 2) aNil)) [ptD p, .tuple [.int 1, .int 1]] (wipeS [some (Vl.dat (.tuple [ptD p, .tuple [.int 1, .int 1]])), none, none, none, none] [2]) st = .ok [.bool true, .bool false] st := by
    simp [lcGo_cons, wipeS, ispoint_run, point_not]
  have e2 : allD [.list [.bool true, .bool false]] = some (.bool false) := rfl
  simp [b_is_curve, k3, e1, q, e2]
/-- what is picked as a bad curve -/
def Bad (d : D) : Prop := ∀ st, d_is_curve [.dat d] st = .ok (.dat (.bool false)) st
theorem made_bad {d : D} (h : Bad d) (o : D) (st : Store) : d_made_small [.dat d, .dat o] st = .exc 1 none st := by
  refine call_exc (s' := [some (.dat d), some (.dat o), none, none, none, none, none, none, none]) rfl ?_
  simp [b_made_small, h st, check_bad]
theorem fault_bad1 {d : D} (h : Bad d) (o : D) (st : Store) : d_fault_of_curve [.dat d, .dat o] st = .exc 1 none st := by
  refine call_exc (s' := [some (.dat d), some (.dat o), none, none, none, none, none]) rfl ?_
  simp [b_fault_of_curve, h st, check_bad]
theorem fault_bad2 {c : List Pt} (hc : Good c) {d : D} (h : Bad d) (st : Store) : d_fault_of_curve [.dat (cvD c), .dat d] st = .exc 1 none st := by
  refine call_exc (s' := [some (.dat (cvD c)), some (.dat d), none, none, none, none, none]) rfl ?_
  simp [b_fault_of_curve, iscurve_run hc, check_run, h st, check_bad]
def Odd1 (d : D) : Prop := ∀ st, d_check_bound [.dat d] st = .exc 1 none st
theorem made_odd {c : List Pt} (hc : Good c) {d : D} (h : Odd1 d) (st : Store) : d_made_small [.dat (cvD c), .dat d] st = .exc 1 none st := by
  refine call_exc (s' := [some (.dat (cvD c)), some (.dat d), none, none, none, none, none, none, none]) rfl ?_
  simp [b_made_small, iscurve_run hc, check_run, h st]
theorem odd_not {d : D} (h : ∀ st, d_is_ratio [.dat d] st = .ok (.dat (.bool false)) st) : Odd1 d := fun st => by
  refine call_exc (s' := [some (.dat d)]) rfl ?_
  simp [b_check_bound, h st, check_bad]
theorem odd_neg : Odd1 (.tuple [.int (-1), .int 4]) := fun st => by
  refine call_exc (s' := [some (.dat (.tuple [.int (-1), .int 4]))]) rfl ?_
  have e : PyData.tuple [.int (-1), .int 4] = rt (-1/4) := by
    unfold rt
    rw [show (-1/4 : Rat).num = -1 by decide +kernel, show (-1/4 : Rat).den = 4 by decide +kernel]
    rfl
  have hs : Sz 1000 (-1/4 : Rat) := Sz.mono (k := 4) (by unfold Sz; decide +kernel) (by decide)
  have e2 := below_run st hs (zero_sz.mono (by decide : 1 ≤ 1000))
  have h2 : (-1/4 : Rat) < 0 := by decide +kernel
  rw [e]
  simp [b_check_bound, zero_rt, isratio_run, e2, h2, check_bad]
theorem odd_two : Odd1 (.tuple [.int 2, .int 4]) := odd_not fun st => by
  refine call_rt rfl ?_
  have e : d_shared [.dat (.int 2), .dat (.int 4)] st = .ok (.dat (.int 2)) st := shared_run 2 4 st
  simp [b_is_ratio, isint_run, e]
theorem odd_zero : Odd1 (.tuple [.int 1, .int 0]) := odd_not fun st => by
  refine call_rt rfl ?_
  simp [b_is_ratio, isint_run]
/-! told -/
abbrev refD : D := .tuple [.str "refused", .str "not right"]
theorem told_ok0 {a b d : D} {st : Store} (h : d_made_small [.dat a, .dat b] st = .ok (.dat d) st) : d_u_law_told [.dat (.int 0), .dat a, .dat b] st = .ok (.dat d) st := by
  refine call_rt rfl ?_
  show b_u_law_told [some (.dat (.int 0)), some (.dat a), some (.dat b)] st = _
  unfold b_u_law_told tryM
  simp [h]
theorem told_ok1 {a b d : D} {st : Store} (h : d_fault_of_curve [.dat a, .dat b] st = .ok (.dat d) st) : d_u_law_told [.dat (.int 1), .dat a, .dat b] st = .ok (.dat d) st := by
  refine call_rt rfl ?_
  show b_u_law_told [some (.dat (.int 1)), some (.dat a), some (.dat b)] st = _
  unfold b_u_law_told tryM
  simp [h]
theorem told_ref0 {a b : D} {st : Store} (h : d_made_small [.dat a, .dat b] st = .exc 1 none st) : d_u_law_told [.dat (.int 0), .dat a, .dat b] st = .ok (.dat refD) st := by
  refine call_rt rfl ?_
  have e2 : (2 : Nat) ≤ sizeLine := sl _ (by decide)
  have e3 : exm 1 1 = true := by decide
  show b_u_law_told [some (.dat (.int 0)), some (.dat a), some (.dat b)] st = _
  unfold b_u_law_told tryM
  simp [h, handle, e3, noXS, e2]
theorem told_ref1 {a b : D} {st : Store} (h : d_fault_of_curve [.dat a, .dat b] st = .exc 1 none st) : d_u_law_told [.dat (.int 1), .dat a, .dat b] st = .ok (.dat refD) st := by
  refine call_rt rfl ?_
  have e2 : (2 : Nat) ≤ sizeLine := sl _ (by decide)
  have e3 : exm 1 1 = true := by decide
  show b_u_law_told [some (.dat (.int 1)), some (.dat a), some (.dat b)] st = _
  unfold b_u_law_told tryM
  simp [h, handle, e3, noXS, e2]
end K23

set_option Elab.async false
set_option linter.all false
set_option maxRecDepth 100000
set_option maxHeartbeats 4000000
set_option exponentiation.threshold 5000
/-! XwK: the plain law. -/
namespace K23
open PySem L2 Pd
theorem lay_pts : ∀ l : List Pt, PyData.canLayAll0 (l.map ptD) = true ∧ PyData.depthAll (l.map ptD) ≤ 2
  | [] => ⟨rfl, Nat.zero_le _⟩
  | p :: l => by
    obtain ⟨h1, h2⟩ := lay_pts l
    constructor
    · rw [List.map_cons, PyData.canLayAll0, h1]
      rfl
    · rw [List.map_cons, PyData.depthAll]
      have : (ptD p).depth = 2 := rfl
      omega
theorem cv_shaped (c : List Pt) : SeqAt.shaped (cvD c) = true := by
  obtain ⟨h1, h2⟩ := lay_pts c
  unfold SeqAt.shaped
  have e1 : (cvD c).canLay0 = PyData.canLayAll0 (c.map ptD) := rfl
  have e2 : (cvD c).depth = PyData.depthAll (c.map ptD) + 1 := rfl
  rw [e1, h1, e2, decide_eq_true (by omega)]
  rfl
theorem off_shaped (c o : List Pt) : SeqAt.shaped (offD c o) = true := rfl
/-! the plain facts -/
theorem small_off {c : List Pt} (h : Good c) {b : Rat} (h0 : 0 ≤ b) {cnt : Nat → Nat} (hc : Cnt (okc c b) (c.length - 1) cnt) : ¬ b < (offR c (sub c (path (okc c b) (c.length - 1) cnt))).1 := by
  have l2 := h.l2
  exact (good_iff h h0 (by omega) (path_way hc (by omega))).mpr fun m hm => path_ok hc hm
theorem path9 {c : List Pt} (h : Good c) {b : Rat} {cnt : Nat → Nat} (hc : Cnt (okc c b) (c.length - 1) cnt) : (path (okc c b) (c.length - 1) cnt).length ≤ 9 := by
  have l9 := h.l9
  have l2 := h.l2
  rw [path_len]
  have := hc.le_last (c.length - 1) 0 rfl (Nat.zero_le _)
  omega
theorem small_good {c : List Pt} (h : Good c) {b : Rat} {cnt : Nat → Nat} (hc : Cnt (okc c b) (c.length - 1) cnt) : Good (sub c (path (okc c b) (c.length - 1) cnt)) := by
  have l2 := h.l2
  exact sub_good h (path_way hc (by omega)) (path9 h hc)
theorem map_pt (l : List Pt) : (List.range l.length).map (pt l) = l := by
  refine List.ext_getElem (by simp) fun i h1 h2 => ?_
  rw [List.getElem_map, List.getElem_range]
  unfold pt
  rw [getD_lt _ _ h2]
theorem same_again {c : List Pt} (h : Good c) {cnt cnt' : Nat → Nat} (hc : Cnt (okc c 0) (c.length - 1) cnt) {c' : List Pt} (he : c' = sub c (path (okc c 0) (c.length - 1) cnt)) (hc' : Cnt (okc c' 0) (c'.length - 1) cnt') : sub c' (path (okc c' 0) (c'.length - 1) cnt') = c' := by
  have l2 := h.l2
  have hw := path_way hc (by omega)
  have hp := hc.pos (i := 0) (by omega)
  have hlen : c'.length = cnt 0 + 1 := by rw [he, sub_len, path_len]
  have hlast : c'.length - 1 = cnt 0 := by omega
  rw [hlast] at hc' ⊢
  have key : ∀ i j, i < j → j ≤ cnt 0 → okc c' 0 i j = true → j ≤ i + 1 := by
    intro i j hij hj q
    rw [he] at q
    have hj2 : j < (path (okc c 0) (c.length - 1) cnt).length := by rw [path_len]; omega
    have k := sub_ok h.ris (last := c.length - 1) (by omega) hw (fun m hm => path_ok hc hm) hij hj2 q
    have a := hw.lt hij hj2
    have b := hw.le_last hj2
    have d := hc.le _ _ a b k
    rw [path_get (by omega), path_get hj] at d
    have e1 := (hc.itr_spec i (by omega)).2
    have e2 := (hc.itr_spec j hj).2
    omega
  have nx : ∀ i, i < cnt 0 → nxt (okc c' 0) (cnt 0) cnt' i = i + 1 := by
    intro i hi
    obtain ⟨k1, k2, k3, k4⟩ := hc'.nxt_spec hi
    have := key _ _ k1 k2 k3
    omega
  have it : ∀ m, m ≤ cnt 0 → itr (okc c' 0) (cnt 0) cnt' m 0 = m := by
    intro m
    induction m with
    | zero => intro _; rfl
    | succ m ih =>
      intro hm
      rw [itr_succ, ih (by omega), nx m (by omega)]
  have hle := hc'.le_last (cnt 0) 0 rfl (Nat.zero_le _)
  have hcnt : cnt' 0 = cnt 0 := by
    have a := hc'.itr_last
    rw [it _ hle] at a
    exact a
  have hpath : path (okc c' 0) (cnt 0) cnt' = List.range c'.length := by
    rw [path_eq, hcnt, hlen]
    have : ∀ l : List Nat, (∀ m ∈ l, m ≤ cnt 0) → l.map (fun m => itr (okc c' 0) (cnt 0) cnt' m 0) = l := by
      intro l
      induction l with
      | nil => intro _; rfl
      | cons x l ih =>
        intro hl
        rw [List.map_cons, it x (hl x List.mem_cons_self), ih fun m hm => hl m (List.mem_cons_of_mem _ hm)]
    exact this _ fun m hm => by
      have := List.mem_range.mp hm
      omega
  rw [hpath]
  exact map_pt c'
theorem two_ends {c : List Pt} (h : Good c) {cnt : Nat → Nat} (hc : Cnt (okc c 9) (c.length - 1) cnt) : sub c (path (okc c 9) (c.length - 1) cnt) = [pt c 0, pt c (c.length - 1)] := by
  have l2 := h.l2
  have hp := hc.pos (i := 0) (by omega)
  have hok : okc c 9 0 (c.length - 1) = true := by
    refine (okc_iff (by omega)).mpr fun k k1 k2 => ?_
    have hx := h.x01 (pt_mem (c := c) (i := k) (by omega))
    have b0 := h.bd _ (pt_mem (c := c) (i := 0) (by omega))
    have b1 := h.bd _ (pt_mem (c := c) (i := c.length - 1) (by omega))
    have b2 := h.bd _ (pt_mem (c := c) (i := k) (by omega))
    unfold seg
    rw [h.z, h.one]
    generalize (pt c k).1 = a at *
    generalize (pt c k).2 = y at *
    generalize (pt c 0).2 = y0 at *
    generalize (pt c (c.length - 1)).2 = y1 at *
    have e : y0 + (a - 0) / (1 - 0) * (y1 - y0) = y0 + a * (y1 - y0) := by grind
    rw [e]
    have m1 := Rat.mul_nonneg hx.1 (by grind : 0 ≤ y1 + 3)
    have m2 := Rat.mul_nonneg hx.1 (by grind : 0 ≤ 3 - y1)
    have m3 := Rat.mul_nonneg (by grind : 0 ≤ 1 - a) (by grind : 0 ≤ y0 + 3)
    have m4 := Rat.mul_nonneg (by grind : 0 ≤ 1 - a) (by grind : 0 ≤ 3 - y0)
    unfold rabs
    split <;> grind
  have h1 := hc.le 0 (c.length - 1) (by omega) (Nat.le_refl _) hok
  rw [hc.z] at h1
  have hcnt : cnt 0 = 1 := by omega
  rw [path_rows hc (by omega), hcnt]
  rfl
theorem len_le {c : List Pt} (h : Good c) {b : Rat} (h0 : 0 ≤ b) {cnt cnt0 : Nat → Nat} (hc : Cnt (okc c b) (c.length - 1) cnt) (hc0 : Cnt (okc c 0) (c.length - 1) cnt0) : (path (okc c b) (c.length - 1) cnt).length ≤ (path (okc c 0) (c.length - 1) cnt0).length := by
  rw [path_len, path_len]
  have := hc0.mono hc (fun i j _ _ k => okc_mono h0 k) (c.length - 1) 0 rfl (Nat.zero_le _)
  omega
theorem on_same {c : List Pt} (h : Good c) {cnt : Nat → Nat} (hc : Cnt (okc c 0) (c.length - 1) cnt) {a : Rat} (a0 : 0 ≤ a) (a1 : a ≤ 1) : onc (sub c (path (okc c 0) (c.length - 1) cnt)) a = onc c a := by
  have l2 := h.l2
  exact sub_same h.ris (by omega) (path_way hc (by omega)) (fun m hm => path_ok hc hm) (by rw [h.z]; exact a0) (by rw [h.one]; exact a1)
theorem oncurve_run {c : List Pt} (h : Good c) {a : Rat} (ha : Sz 12 a) (h0 : 0 ≤ a) (h1 : a ≤ 1) (st : Store) : d_on_curve [.dat (cvD c), .dat (rt a)] st = .ok (.dat (rt (onc c a))) st := by
  refine call_rt rfl ?_
  simp [b_on_curve, iscurve_run h, isratio_run, check_run, curveby_run h ha h0 h1]
theorem eighth_run {k : Nat} (hk : k ≤ 8) (st : Store) : d_u_law_r [.dat (nI k), .dat (.int 8)] st = .ok (.dat (rt ((k : Rat) / 8))) st := by
  have e := rr_run (n := (k : Int)) (d := 8) st (Nat.lt_of_lt_of_le (show k < 2 ^ 4 by omega) (Nat.pow_le_pow_right (by decide) (by decide))) (by decide) (Nat.lt_of_lt_of_le (show (8 : Int).natAbs < 2 ^ 4 by decide) (Nat.pow_le_pow_right (by decide) (by decide)))
  rw [Rat.divInt_eq_div] at e
  exact e
theorem eighth_sz {k : Nat} (hk : k ≤ 8) : Sz 12 ((k : Rat) / 8) ∧ 0 ≤ ((k : Rat) / 8) ∧ ((k : Rat) / 8) ≤ 1 := by
  have : ∀ k ∈ List.range 9, Sz 12 ((k : Rat) / 8) ∧ 0 ≤ ((k : Rat) / 8) ∧ ((k : Rat) / 8) ≤ 1 := by
    unfold Sz
    decide +kernel
  exact this k (List.mem_range.mpr (by omega))
end K23

set_option Elab.async false
set_option linter.all false
set_option maxRecDepth 100000
set_option maxHeartbeats 4000000
set_option exponentiation.threshold 5000
/-! YwK: one turn of the law, and the law. -/
namespace K23
open PySem L2 Pd
def BL : List Rat := [0, 1/10, 1/4, 1/20, 1/2, 3]
theorem BL_sz : ∀ b ∈ BL, Sz 12 b ∧ 0 ≤ b := by
  unfold BL Sz
  decide +kernel
theorem zero_tup : PyData.tuple [.int 0, .int 1] = rt 0 := rfl
theorem nine_tup : PyData.tuple [.int 9, .int 1] = rt 9 := rfl
theorem nine_sz : Sz 12 (9 : Rat) := by unfold Sz; decide
theorem tup_any (n d : Int) (s : Slots) (st : Store) : tupM (aCons (cst (.int n)) (aCons (cst (.int d)) aNil)) s st = .ok (.dat (.tuple [.int n, .int d])) st := by
  have e2 : (2 : Nat) ≤ sizeLine := sl _ (by decide)
  simp only [ev_tupM, ev_aCons, ev_aNil, ev_cst, Res.bind_ok, toDs_cons, toDs_nil, toD_dat, List.length_cons, List.length_nil]
  rw [if_pos e2]
theorem BL_list : lstD (aCons (tupM (aCons (cst (.int 0)) (aCons (cst (.int 1)) aNil))) (aCons (tupM (aCons (cst (.int 1)) (aCons (cst (.int 10)) aNil))) (aCons (tupM (aCons (cst (.int 1)) (aCons (cst (.int 4)) aNil))) (aCons (tupM (aCons (cst (.int 1)) (aCons (cst (.int 20)) aNil))) (aCons (tupM (aCons (cst (.int 1)) (aCons (cst (.int 2)) aNil))) (aCons (tupM (aCons (cst (.int 3)) (aCons (cst (.int 1)) aNil))) aNil)))))) = fun s st => .ok (.dat (.list (BL.map rt))) st := by
  funext s st
  have e6 : (6 : Nat) ≤ sizeLine := sl _ (by decide)
  rw [ev_lstD]
  simp only [ev_aCons, ev_aNil, tup_rt 0 1 0 _ _ (by decide +kernel), tup_rt 1 10 (1/10) _ _ (by decide +kernel), tup_rt 1 4 (1/4) _ _ (by decide +kernel), tup_rt 1 20 (1/20) _ _ (by decide +kernel), tup_rt 1 2 (1/2) _ _ (by decide +kernel), tup_rt 3 1 3 _ _ (by decide +kernel), Res.bind_ok, toDs_cons, toDs_nil, toD_dat, List.length_cons, List.length_nil]
  rw [if_pos e6]
  rfl
/-! the turn's rows -/
noncomputable abbrev m2 : SM := ifS (orT (notT (truM (callM d_is_curve (aCons (vr 10) aNil)))) (orT (truM (op2 neD (callM d_u_law_told (aCons (cst (.int 1)) (aCons (vr 10) (aCons (vr 11) aNil)))) (callM d_u_law_off (aCons (vr 10) (aCons (vr 11) aNil))))) (truM (op2 neD (callM d_u_law_told (aCons (cst (.int 1)) (aCons (vr 10) (aCons (vr 10) aNil)))) (tupM (aCons (tupM (aCons (cst (.int 0)) (aCons (cst (.int 1)) aNil))) (aCons (tupM (aCons (cst (.int 0)) (aCons (cst (.int 1)) aNil))) aNil))))))) (retM (cst (.bool false))) skipM
theorem m2_run {c o : List Pt} (hc : Good c) (ho : Good o) (scr : Vl) (o2 o3 o4 o5 o6 o7 o8 o9 : Option Vl) (st : Store) :
    m2 [some scr, some (.cel 1), o2, o3, o4, o5, o6, o7, o8, o9, some (.dat (cvD c)), some (.dat (cvD o))] st = .nx [some scr, some (.cel 1), o2, o3, o4, o5, o6, o7, o8, o9, some (.dat (cvD c)), some (.dat (cvD o))] st := by
  have t1 := told_ok1 (foc_run hc ho st)
  have t2 := told_ok1 (foc_run hc hc st)
  have f1 := off_go hc ho st
  have n1 := neD_refl (off_shaped c o)
  have e : offD c c = .tuple [rt 0, rt 0] := by
    unfold offD
    rw [offR_self c fun p hp => (hc.x01 hp).1]
  have n2 := neD_refl (off_shaped c c)
  have e2 : (2 : Nat) ≤ sizeLine := sl _ (by decide)
  have tt : ∀ s : Slots, tupM (aCons (tupM (aCons (cst (.int 0)) (aCons (cst (.int 1)) aNil))) (aCons (tupM (aCons (cst (.int 0)) (aCons (cst (.int 1)) aNil))) aNil)) s st = .ok (.dat (offD c c)) st := fun s => by
    rw [ev_tupM]
    simp only [ev_aCons (f := tupM _), ev_aNil, tup_rt 0 1 0 _ _ (by decide +kernel), Res.bind_ok, toDs_cons, toDs_nil, toD_dat, List.length_cons, List.length_nil]
    rw [if_pos e2, e]
  rw [m2]
  simp only [seqO_nx, seqO_rt, optO_some, cnd_true, cnd_false, ev_seqM, ev_setM, ev_parM, parO_two, ev_ifS, ev_retM, ev_dropM, ev_callM, ev_aCons, ev_aNil, ev_op1, ev_op2, ev_opN, ev_cst, ev_vr, ev_truM, ev_orT, ev_notT, ev_skipM, List.getElem?_cons_zero, List.getElem?_cons_succ, Res.bind_ok, bindS_ok, ap2_dat, apN1, ofO_some, peek_dat, truD_bool, List.set, Bool.not_true, Bool.not_false, iscurve_run hc, t1, f1, n1, t2, tt, n2]
noncomputable abbrev m5 : SM := ifS (orT (truM (op2 neD (vr 4) (callM d_u_law_small (aCons (vr 10) (aCons (vr 3) aNil))))) (orT (truM (callM d_u_law_less (aCons (vr 3) (aCons (op2 ixD (callM d_u_law_off (aCons (vr 10) (aCons (vr 4) aNil))) (cst (.int 0))) aNil)))) (truM (op2 neD (callM d_u_law_told (aCons (cst (.int 0)) (aCons (vr 10) (aCons (tupM (aCons (cst (.int 9)) (aCons (cst (.int 1)) aNil))) aNil)))) (tupM (aCons (op2 ixD (vr 10) (cst (.int 0))) (aCons (op2 ixD (vr 10) (op1 negD (cst (.int 1)))) aNil))))))) (retM (cst (.bool false))) skipM
theorem m5_run {c : List Pt} (hc : Good c) {b : Rat} (hb : Sz 12 b) (h0 : 0 ≤ b) {cnt : Nat → Nat} (hcnt : Cnt (okc c b) (c.length - 1) cnt) (scr : Vl) (o2 o5 o6 o7 o8 o9 o11 : Option Vl) (st : Store) :
    m5 [some scr, some (.cel 1), o2, some (.dat (rt b)), some (.dat (cvD (sub c (path (okc c b) (c.length - 1) cnt)))), o5, o6, o7, o8, o9, some (.dat (cvD c)), o11] st = .nx [some scr, some (.cel 1), o2, some (.dat (rt b)), some (.dat (cvD (sub c (path (okc c b) (c.length - 1) cnt)))), o5, o6, o7, o8, o9, some (.dat (cvD c)), o11] st := by
  have l2 := hc.l2
  have g1 := small_run hc hb h0 hcnt st
  have hg := small_good hc hcnt
  have hoff := small_off hc h0 hcnt
  have n1 := neD_refl (cv_shaped (sub c (path (okc c b) (c.length - 1) cnt)))
  have f1 := off_go hc hg st
  have x1 : ixD (offD c (sub c (path (okc c b) (c.length - 1) cnt))) (.int 0) = some (rt (offR c (sub c (path (okc c b) (c.length - 1) cnt))).1) := rfl
  have k1 := lless_run st (hb.mono (by decide : 12 ≤ 1000)) ((offR_sz hc hg).mono (by decide : 177 ≤ 1000))
  rw [decide_eq_false hoff] at k1
  obtain ⟨cnt9, hc9, r9⟩ := made_run_small hc nine_sz (by decide) st
  rw [two_ends hc hc9] at r9
  have t9 := told_ok0 r9
  have n9 := neD_refl (cv_shaped [pt c 0, pt c (c.length - 1)])
  have e2 : (2 : Nat) ≤ sizeLine := sl _ (by decide)
  have z0 := atl_ptD (c := c) (i := 0) (by omega)
  have z1 := atl_ptD (c := c) (i := c.length - 1) (by omega)
  generalize hs : sub c (path (okc c b) (c.length - 1) cnt) = sm at *
  have tt : tupM (aCons (op2 ixD (vr 10) (cst (.int 0))) (aCons (op2 ixD (vr 10) (op1 negD (cst (.int 1)))) aNil)) [some scr, some (.cel 1), o2, some (.dat (rt b)), some (.dat (cvD sm)), o5, o6, o7, o8, o9, some (.dat (cvD c)), o11] st = .ok (.dat (cvD [pt c 0, pt c (c.length - 1)])) st := by
    simp only [ev_tupM, ev_aCons, ev_aNil, ev_op2, ev_op1, ev_vr, ev_cst, List.getElem?_cons_zero, List.getElem?_cons_succ, Res.bind_ok, ap2_dat, peek_dat, negD_int, ofO_some, cvD, ixD_tup, atI_0, Pd.atI_last, List.length_map, z0, z1, toDs_cons, toDs_nil, toD_dat, List.length_cons, List.length_nil]
    rw [if_pos e2]
    rfl
  have t9' : tupM (aCons (cst (.int 9)) (aCons (cst (.int 1)) aNil)) [some scr, some (.cel 1), o2, some (.dat (rt b)), some (.dat (cvD sm)), o5, o6, o7, o8, o9, some (.dat (cvD c)), o11] st = .ok (.dat (rt 9)) st := tup_rt 9 1 9 _ _ (by decide +kernel)
  rw [m5]
  simp only [seqO_nx, seqO_rt, optO_some, cnd_true, cnd_false, ev_seqM, ev_setM, ev_parM, parO_two, ev_ifS, ev_retM, ev_dropM, ev_callM, ev_aCons, ev_aNil, ev_op1, ev_op2, ev_opN, ev_cst, ev_vr, ev_truM, ev_orT, ev_notT, ev_skipM, List.getElem?_cons_zero, List.getElem?_cons_succ, Res.bind_ok, bindS_ok, ap2_dat, apN1, ofO_some, peek_dat, truD_bool, List.set, Bool.not_true, Bool.not_false, g1, n1, f1, x1, k1, t9', t9, tt, n9]
noncomputable abbrev m7 : SM := (forM (bName 6) (rng1M (aCons (cst (.int 9)) aNil)) (ifS (truM (op2 neD (callM d_on_curve (aCons (vr 5) (aCons (callM d_u_law_r (aCons (vr 6) (aCons (cst (.int 8)) aNil))) aNil))) (callM d_u_law_on_curve (aCons (vr 10) (aCons (callM d_u_law_r (aCons (vr 6) (aCons (cst (.int 8)) aNil))) aNil))))) (retM (cst (.bool false))) skipM))
theorem m7_loop {c sm : List Pt} (hc : Good c) (hg : Good sm) (hs : ∀ a : Rat, 0 ≤ a → a ≤ 1 → onc sm a = onc c a) (scr : Vl) (o2 o3 o4 o7 o8 o9 o11 : Option Vl) (st : Store) : ∀ (n k : Nat) (o6 : Option Vl), k + n ≤ 9 →
    ∃ o6', loopM (tgM (bName 6) (ifS (truM (op2 neD (callM d_on_curve (aCons (vr 5) (aCons (callM d_u_law_r (aCons (vr 6) (aCons (cst (.int 8)) aNil))) aNil))) (callM d_u_law_on_curve (aCons (vr 10) (aCons (callM d_u_law_r (aCons (vr 6) (aCons (cst (.int 8)) aNil))) aNil))))) (retM (cst (.bool false))) skipM)) (rngD k n 1) [some scr, some (.cel 1), o2, o3, o4, some (.dat (cvD sm)), o6, o7, o8, o9, some (.dat (cvD c)), o11] st = .nx [some scr, some (.cel 1), o2, o3, o4, some (.dat (cvD sm)), o6', o7, o8, o9, some (.dat (cvD c)), o11] st
  | 0, k, o6, _ => ⟨o6, rfl⟩
  | n + 1, k, o6, h => by
    obtain ⟨o6', e⟩ := m7_loop hc hg hs scr o2 o3 o4 o7 o8 o9 o11 st n (k + 1) (some (.dat (.int k))) (by omega)
    refine ⟨o6', ?_⟩
    obtain ⟨z1, z2, z3⟩ := eighth_sz (k := k) (by omega)
    have e1 := eighth_run (k := k) (by omega) st
    have e2 := oncurve_run hg z1 z2 z3 st
    have e3 := lon_run hc z1 z2 z3 st
    rw [hs _ z2 z3] at e2
    have n1 := neD_refl (rt_shaped (onc c ((k : Rat) / 8)))
    rw [show ((k + 1 : Nat) : Int) = (k : Int) + 1 from rfl] at e
    rw [rngD_cons, loopM_cons, ← e, ev_tgM, ev_bName, optO_some]
    simp only [seqO_nx, seqO_rt, optO_some, cnd_true, cnd_false, ev_seqM, ev_setM, ev_parM, parO_two, ev_ifS, ev_retM, ev_dropM, ev_callM, ev_aCons, ev_aNil, ev_op1, ev_op2, ev_opN, ev_cst, ev_vr, ev_truM, ev_orT, ev_notT, ev_skipM, List.getElem?_cons_zero, List.getElem?_cons_succ, Res.bind_ok, bindS_ok, ap2_dat, apN1, ofO_some, peek_dat, truD_bool, List.set, Bool.not_true, Bool.not_false, e1, e2, e3, n1, loopO_nx]
theorem m7_run {c sm : List Pt} (hc : Good c) (hg : Good sm) (hs : ∀ a : Rat, 0 ≤ a → a ≤ 1 → onc sm a = onc c a) (scr : Vl) (o2 o3 o4 o6 o7 o8 o9 o11 : Option Vl) (st : Store) :
    ∃ o6', m7 [some scr, some (.cel 1), o2, o3, o4, some (.dat (cvD sm)), o6, o7, o8, o9, some (.dat (cvD c)), o11] st = .nx [some scr, some (.cel 1), o2, o3, o4, some (.dat (cvD sm)), o6', o7, o8, o9, some (.dat (cvD c)), o11] st := by
  obtain ⟨o6', e⟩ := m7_loop hc hg hs scr o2 o3 o4 o7 o8 o9 o11 st 9 0 o6 (by decide)
  refine ⟨o6', ?_⟩
  rw [m7, ev_forM, run_rng1 (n := 9) (st1 := st) rfl (by decide), bindS_ok]
  exact e
noncomputable abbrev m8 : SM := (ifS (orT (truM (op2 neD (callM d_u_law_told (aCons (cst (.int 0)) (aCons (vr 5) (aCons (tupM (aCons (cst (.int 0)) (aCons (cst (.int 1)) aNil))) aNil)))) (vr 5))) (truM (op2 gtD (opN lenD (aCons (vr 4) aNil)) (opN lenD (aCons (vr 5) aNil))))) (retM (cst (.bool false))) skipM)
theorem m8_run {sm sa : List Pt} (h : ∀ st, d_made_small [.dat (cvD sa), .dat (rt 0)] st = .ok (.dat (cvD sa)) st) (hl : sm.length ≤ sa.length) (scr : Vl) (o2 o3 o6 o7 o8 o9 o10 o11 : Option Vl) (st : Store) :
    m8 [some scr, some (.cel 1), o2, o3, some (.dat (cvD sm)), some (.dat (cvD sa)), o6, o7, o8, o9, o10, o11] st = .nx [some scr, some (.cel 1), o2, o3, some (.dat (cvD sm)), some (.dat (cvD sa)), o6, o7, o8, o9, o10, o11] st := by
  have t1 := told_ok0 (h st)
  have n1 := neD_refl (cv_shaped sa)
  have l1 : lenD [cvD sm] = some (.int sm.length) := by unfold cvD; rw [lenD_tup, List.length_map]
  have l2 : lenD [cvD sa] = some (.int sa.length) := by unfold cvD; rw [lenD_tup, List.length_map]
  have k : ¬ ((sa.length : Int) < (sm.length : Int)) := by omega
  have tt : tupM (aCons (cst (.int 0)) (aCons (cst (.int 1)) aNil)) [some scr, some (.cel 1), o2, o3, some (.dat (cvD sm)), some (.dat (cvD sa)), o6, o7, o8, o9, o10, o11] st = .ok (.dat (rt 0)) st := tup_rt 0 1 0 _ _ (by decide +kernel)
  rw [m8]
  simp only [seqO_nx, seqO_rt, optO_some, cnd_true, cnd_false, ev_seqM, ev_setM, ev_parM, parO_two, ev_ifS, ev_retM, ev_dropM, ev_callM, ev_aCons, ev_aNil, ev_op1, ev_op2, ev_opN, ev_cst, ev_vr, ev_truM, ev_orT, ev_notT, ev_skipM, List.getElem?_cons_zero, List.getElem?_cons_succ, Res.bind_ok, bindS_ok, ap2_dat, apN1, ofO_some, peek_dat, truD_bool, List.set, Bool.not_true, Bool.not_false, tt, t1, n1, l1, l2, gtD_int, k, decide_false]
noncomputable abbrev badL : EM := (lstD (aCons (cst .none) (aCons (tupM aNil) (aCons (sliceM (vr 10) (someO (cst (.int 1))) noO) (aCons (sliceM (vr 10) noO (someO (cst (.int 1)))) (aCons (op2 addD (vr 10) (sliceM (vr 10) (someO (op1 negD (cst (.int 1)))) noO)) (aCons (opN listD (aCons (vr 10) aNil)) (aCons (tupM (aCons (op2 ixD (vr 10) (cst (.int 0))) (aCons (tupM (aCons (cst (.int 1)) (aCons (cst (.int 1)) aNil))) aNil))) aNil))))))))
theorem bad_run {c : List Pt} (hc : Good c) (scr : Vl) (o2 o3 o4 o5 o6 o7 o8 o9 o11 : Option Vl) (st : Store) :
    ∃ ds : List D, badL [some scr, some (.cel 1), o2, o3, o4, o5, o6, o7, o8, o9, some (.dat (cvD c)), o11] st = .ok (.dat (.list ds)) st ∧ ds ≠ [] ∧ ∀ d ∈ ds, Bad d := by
  have l2 := hc.l2
  have l9 := hc.l9
  have e0 : (0 : Nat) ≤ sizeLine := Nat.zero_le _
  have e2 : (2 : Nat) ≤ sizeLine := sl _ (by decide)
  have e7 : (7 : Nat) ≤ sizeLine := sl _ (by decide)
  refine ⟨[.none, .tuple [], cvD c.tail, cvD (c.take 1), cvD (c ++ [pt c (c.length - 1)]), .list (c.map ptD), .tuple [ptD (pt c 0), .tuple [.int 1, .int 1]]], ?_, by simp, ?_⟩
  · have t2 : (c.map ptD).drop ((c.map ptD).length - 1) = [ptD (pt c (c.length - 1))] := by
      have e := atl_ptD (c := c) (i := c.length - 1) (by omega)
      have e3 : c.length - 1 < (c.map ptD).length := by rw [List.length_map]; omega
      rw [List.getElem?_eq_getElem e3] at e
      rw [List.length_map, List.drop_eq_getElem_cons e3, Option.some.inj e, List.drop_eq_nil_of_le (by rw [List.length_map]; omega)]
    have q : (c.map ptD).length + [ptD (pt c (c.length - 1))].length ≤ sizeLine := by
      rw [List.length_map, List.length_singleton]
      exact sl _ (by omega)
    have z0 := atl_ptD (c := c) (i := 0) (by omega)
    have a1 : sliceM (vr 10) (someO (cst (.int 1))) noO [some scr, some (.cel 1), o2, o3, o4, o5, o6, o7, o8, o9, some (.dat (cvD c)), o11] st = .ok (.dat (cvD c.tail)) st := by
      simp only [ev_sliceM, ev_someO, ev_noO, ev_cst, ev_vr, List.getElem?_cons_zero, List.getElem?_cons_succ, Res.bind_ok, peek_dat, cvD, sliceD_tup, cutL_1, ofO_some, List.map_tail]
    have a2 : sliceM (vr 10) noO (someO (cst (.int 1))) [some scr, some (.cel 1), o2, o3, o4, o5, o6, o7, o8, o9, some (.dat (cvD c)), o11] st = .ok (.dat (cvD (c.take 1))) st := by
      simp only [ev_sliceM, ev_someO, ev_noO, ev_cst, ev_vr, List.getElem?_cons_zero, List.getElem?_cons_succ, Res.bind_ok, peek_dat, cvD, sliceD_tup, cutL_to1, ofO_some, List.map_take]
    have a3 : op2 addD (vr 10) (sliceM (vr 10) (someO (op1 negD (cst (.int 1)))) noO) [some scr, some (.cel 1), o2, o3, o4, o5, o6, o7, o8, o9, some (.dat (cvD c)), o11] st = .ok (.dat (cvD (c ++ [pt c (c.length - 1)]))) st := by
      have b1 : sliceM (vr 10) (someO (op1 negD (cst (.int 1)))) noO [some scr, some (.cel 1), o2, o3, o4, o5, o6, o7, o8, o9, some (.dat (cvD c)), o11] st = .ok (.dat (.tuple [ptD (pt c (c.length - 1))])) st := by
        simp only [ev_sliceM, ev_noO, ev_someO, ev_cst, ev_vr, ev_op1, List.getElem?_cons_zero, List.getElem?_cons_succ, Res.bind_ok, peek_dat, negD_int, cvD, sliceD_tup, cutL_m1, t2, ofO_some]
      rw [ev_op2, show vr 10 [some scr, some (.cel 1), o2, o3, o4, o5, o6, o7, o8, o9, some (.dat (cvD c)), o11] st = .ok (.dat (.tuple (c.map ptD))) st from rfl, Res.bind_ok, b1, Res.bind_ok, ap2_dat, addD_tup, if_pos q, ofO_some]
      unfold cvD
      rw [List.map_append]
      rfl
    have a4 : opN listD (aCons (vr 10) aNil) [some scr, some (.cel 1), o2, o3, o4, o5, o6, o7, o8, o9, some (.dat (cvD c)), o11] st = .ok (.dat (.list (c.map ptD))) st := rfl
    have a5 : tupM (aCons (op2 ixD (vr 10) (cst (.int 0))) (aCons (tupM (aCons (cst (.int 1)) (aCons (cst (.int 1)) aNil))) aNil)) [some scr, some (.cel 1), o2, o3, o4, o5, o6, o7, o8, o9, some (.dat (cvD c)), o11] st = .ok (.dat (.tuple [ptD (pt c 0), .tuple [.int 1, .int 1]])) st := by
      have b1 : op2 ixD (vr 10) (cst (.int 0)) [some scr, some (.cel 1), o2, o3, o4, o5, o6, o7, o8, o9, some (.dat (cvD c)), o11] st = .ok (.dat (ptD (pt c 0))) st := by
        simp only [ev_op2, ev_vr, ev_cst, List.getElem?_cons_zero, List.getElem?_cons_succ, Res.bind_ok, ap2_dat, cvD, ixD_tup, atI_0, z0, ofO_some]
      rw [ev_tupM, ev_aCons, b1]
      simp only [Res.bind_ok, ev_aCons (f := tupM _), tup_any, ev_aNil, toDs_cons, toDs_nil, toD_dat, List.length_cons, List.length_nil]
      rw [if_pos e2]
    have a6 : tupM aNil [some scr, some (.cel 1), o2, o3, o4, o5, o6, o7, o8, o9, some (.dat (cvD c)), o11] st = .ok (.dat (.tuple [])) st := by
      simp only [ev_tupM, ev_aNil, Res.bind_ok, toDs_nil, List.length_nil]
      rw [if_pos e0]
    rw [badL, ev_lstD]
    simp only [ev_aCons, ev_aNil, ev_cst, a1, a2, a3, a4, a5, a6, Res.bind_ok, toDs_cons, toDs_nil, toD_dat, List.length_cons, List.length_nil]
    rw [if_pos e7]
  · intro d hd
    simp only [List.mem_cons, List.not_mem_nil, or_false] at hd
    rcases hd with rfl | rfl | rfl | rfl | rfl | rfl | rfl
    · exact fun st => curve_not _ rfl st
    · exact fun st => curve_short _ (by decide) st
    · exact fun st => curve_tail hc st
    · exact fun st => curve_short _ (by rw [List.length_map, List.length_take]; omega) st
    · exact fun st => curve_more hc st
    · exact fun st => curve_not _ rfl st
    · exact fun st => curve_odd _ st
noncomputable abbrev oddL : EM := (lstD (aCons (cst .none) (aCons (cst (.int 1)) (aCons (tupM (aCons (op1 negD (cst (.int 1))) (aCons (cst (.int 4)) aNil))) (aCons (tupM (aCons (cst (.int 2)) (aCons (cst (.int 4)) aNil))) (aCons (tupM (aCons (cst (.int 1)) (aCons (cst (.int 0)) aNil))) aNil))))))
theorem odd_run (s : Slots) (st : Store) : ∃ ds : List D, oddL s st = .ok (.dat (.list ds)) st ∧ ds ≠ [] ∧ ∀ d ∈ ds, Odd1 d := by
  have e2 : (2 : Nat) ≤ sizeLine := sl _ (by decide)
  have e5 : (5 : Nat) ≤ sizeLine := sl _ (by decide)
  refine ⟨[.none, .int 1, .tuple [.int (-1), .int 4], .tuple [.int 2, .int 4], .tuple [.int 1, .int 0]], ?_, by simp, ?_⟩
  · have a1 : tupM (aCons (op1 negD (cst (.int 1))) (aCons (cst (.int 4)) aNil)) s st = .ok (.dat (.tuple [.int (-1), .int 4])) st := by
      simp only [ev_tupM, ev_aCons, ev_aNil, ev_cst, ev_op1, Res.bind_ok, peek_dat, negD_int, ofO_some, toDs_cons, toDs_nil, toD_dat, List.length_cons, List.length_nil]
      rw [if_pos e2]
    rw [oddL, ev_lstD]
    simp only [ev_aCons, ev_aNil, ev_cst (d := .none), ev_cst (d := .int 1), a1, tup_any, Res.bind_ok, toDs_cons, toDs_nil, toD_dat, List.length_cons, List.length_nil]
    rw [if_pos e5]
  · intro d hd
    simp only [List.mem_cons, List.not_mem_nil, or_false] at hd
    rcases hd with rfl | rfl | rfl | rfl | rfl
    · exact odd_not fun st => ratio_not _ rfl st
    · exact odd_not fun st => ratio_not _ rfl st
    · exact odd_neg
    · exact odd_two
    · exact odd_zero
noncomputable abbrev toldL : EM := (lstD (aCons (callM d_u_law_told (aCons (cst (.int 0)) (aCons (vr 7) (aCons (tupM (aCons (cst (.int 1)) (aCons (cst (.int 2)) aNil))) aNil)))) (aCons (callM d_u_law_told (aCons (cst (.int 0)) (aCons (vr 10) (aCons (vr 8) aNil)))) (aCons (callM d_u_law_told (aCons (cst (.int 1)) (aCons (vr 7) (aCons (vr 10) aNil)))) (aCons (callM d_u_law_told (aCons (cst (.int 1)) (aCons (vr 10) (aCons (vr 7) aNil)))) aNil)))))
noncomputable abbrev m12 : SM := (ifS (truM (op2 neD (vr 9) (op2 mulD (lstD (aCons (tupM (aCons (cst (.str "refused")) (aCons (cst (.str "not right")) aNil))) aNil)) (cst (.int 4))))) (retM (cst (.bool false))) skipM)
theorem told_run {c : List Pt} (hc : Good c) {bd od : D} (hb : Bad bd) (hod : Odd1 od) (scr : Vl) (o2 o3 o4 o5 o6 o9 o11 : Option Vl) (st : Store) :
    toldL [some scr, some (.cel 1), o2, o3, o4, o5, o6, some (.dat bd), some (.dat od), o9, some (.dat (cvD c)), o11] st = .ok (.dat (.list [refD, refD, refD, refD])) st := by
  have e4 : (4 : Nat) ≤ sizeLine := sl _ (by decide)
  have t1 := told_ref0 (made_bad hb (.tuple [.int 1, .int 2]) st)
  have t2 := told_ref0 (made_odd hc hod st)
  have t3 := told_ref1 (fault_bad1 hb (cvD c) st)
  have t4 := told_ref1 (fault_bad2 hc hb st)
  have b1 : callM d_u_law_told (aCons (cst (.int 0)) (aCons (vr 7) (aCons (tupM (aCons (cst (.int 1)) (aCons (cst (.int 2)) aNil))) aNil))) [some scr, some (.cel 1), o2, o3, o4, o5, o6, some (.dat bd), some (.dat od), o9, some (.dat (cvD c)), o11] st = .ok (.dat refD) st := by
    rw [← t1]
    simp only [ev_callM, ev_aCons (f := cst _), ev_aCons (f := vr _), ev_aCons (f := tupM _), ev_aNil, ev_cst, ev_vr, tup_any, List.getElem?_cons_zero, List.getElem?_cons_succ, Res.bind_ok]
  have b2 : callM d_u_law_told (aCons (cst (.int 0)) (aCons (vr 10) (aCons (vr 8) aNil))) [some scr, some (.cel 1), o2, o3, o4, o5, o6, some (.dat bd), some (.dat od), o9, some (.dat (cvD c)), o11] st = .ok (.dat refD) st := by
    rw [← t2]
    simp only [ev_callM, ev_aCons, ev_aNil, ev_cst, ev_vr, List.getElem?_cons_zero, List.getElem?_cons_succ, Res.bind_ok]
  have b3 : callM d_u_law_told (aCons (cst (.int 1)) (aCons (vr 7) (aCons (vr 10) aNil))) [some scr, some (.cel 1), o2, o3, o4, o5, o6, some (.dat bd), some (.dat od), o9, some (.dat (cvD c)), o11] st = .ok (.dat refD) st := by
    rw [← t3]
    simp only [ev_callM, ev_aCons, ev_aNil, ev_cst, ev_vr, List.getElem?_cons_zero, List.getElem?_cons_succ, Res.bind_ok]
  have b4 : callM d_u_law_told (aCons (cst (.int 1)) (aCons (vr 10) (aCons (vr 7) aNil))) [some scr, some (.cel 1), o2, o3, o4, o5, o6, some (.dat bd), some (.dat od), o9, some (.dat (cvD c)), o11] st = .ok (.dat refD) st := by
    rw [← t4]
    simp only [ev_callM, ev_aCons, ev_aNil, ev_cst, ev_vr, List.getElem?_cons_zero, List.getElem?_cons_succ, Res.bind_ok]
  rw [toldL, ev_lstD, ev_aCons, b1, Res.bind_ok, ev_aCons, b2, Res.bind_ok, ev_aCons, b3, Res.bind_ok, ev_aCons, b4]
  simp only [ev_aNil, Res.bind_ok, toDs_cons, toDs_nil, toD_dat, List.length_cons, List.length_nil]
  rw [if_pos e4]
theorem m12_run (scr : Vl) (o2 o3 o4 o5 o6 o7 o8 o10 o11 : Option Vl) (st : Store) : m12 [some scr, some (.cel 1), o2, o3, o4, o5, o6, o7, o8, some (.dat (.list [refD, refD, refD, refD])), o10, o11] st = .nx [some scr, some (.cel 1), o2, o3, o4, o5, o6, o7, o8, some (.dat (.list [refD, refD, refD, refD])), o10, o11] st := by
  have e1 : (1 : Nat) ≤ sizeLine := sl _ (by decide)
  have e2 : (2 : Nat) ≤ sizeLine := sl _ (by decide)
  have hm : mulD (.list [refD]) (.int 4) = some (.list [refD, refD, refD, refD]) := by
    have q0 : mulD (.list [refD]) (.int 4) = if (-(2 ^ 63) ≤ (4 : Int) ∧ (4 : Int) < 2 ^ 63) ∧ ([refD].length) * (4 : Int).toNat ≤ sizeLine then some (.list (List.replicate (4 : Int).toNat [refD]).flatten) else none := rfl
    rw [q0, if_pos ⟨two63 (n := 4) (by decide), sl _ (by decide)⟩]
    rfl
  have hl : lstD (aCons (tupM (aCons (cst (.str "refused")) (aCons (cst (.str "not right")) aNil))) aNil) [some scr, some (.cel 1), o2, o3, o4, o5, o6, o7, o8, some (.dat (.list [refD, refD, refD, refD])), o10, o11] st = .ok (.dat (.list [refD])) st := by
    simp only [ev_lstD, ev_tupM, ev_aCons, ev_aNil, ev_cst, Res.bind_ok, toDs_cons, toDs_nil, toD_dat, List.length_cons, List.length_nil]
    rw [if_pos e2, Res.bind_ok]
    simp only [Res.bind_ok, toDs_cons, toDs_nil, toD_dat, List.length_cons, List.length_nil]
    rw [if_pos e1]
  have n1 := neD_refl (d := .list [refD, refD, refD, refD]) (by decide +kernel)
  rw [m12]
  simp only [seqO_nx, seqO_rt, optO_some, cnd_true, cnd_false, ev_seqM, ev_setM, ev_parM, parO_two, ev_ifS, ev_retM, ev_dropM, ev_callM, ev_aCons, ev_aNil, ev_op1, ev_op2, ev_opN, ev_cst, ev_vr, ev_truM, ev_orT, ev_notT, ev_skipM, List.getElem?_cons_zero, List.getElem?_cons_succ, Res.bind_ok, bindS_ok, ap2_dat, apN1, ofO_some, peek_dat, truD_bool, List.set, Bool.not_true, Bool.not_false, hl, hm, n1]
end K23

set_option Elab.async false
set_option linter.all false
set_option maxRecDepth 100000
set_option maxHeartbeats 4000000
set_option exponentiation.threshold 5000
/-! ZwK: the law. -/
namespace K23
open PySem L2 Pd
noncomputable abbrev m1 : SM := (parM 10 11 (aCons (callM d_u_law_long_curve (aCons (vr 1) aNil)) (aCons (callM d_u_law_long_curve (aCons (vr 1) aNil)) aNil)))
noncomputable abbrev m3 : SM := (setM 3 (callM d_u_law_pick (aCons (vr 1) (aCons (lstD (aCons (tupM (aCons (cst (.int 0)) (aCons (cst (.int 1)) aNil))) (aCons (tupM (aCons (cst (.int 1)) (aCons (cst (.int 10)) aNil))) (aCons (tupM (aCons (cst (.int 1)) (aCons (cst (.int 4)) aNil))) (aCons (tupM (aCons (cst (.int 1)) (aCons (cst (.int 20)) aNil))) (aCons (tupM (aCons (cst (.int 1)) (aCons (cst (.int 2)) aNil))) (aCons (tupM (aCons (cst (.int 3)) (aCons (cst (.int 1)) aNil))) aNil))))))) aNil))))
noncomputable abbrev m4 : SM := (setM 4 (callM d_u_law_told (aCons (cst (.int 0)) (aCons (vr 10) (aCons (vr 3) aNil)))))
noncomputable abbrev m6 : SM := (setM 5 (callM d_u_law_told (aCons (cst (.int 0)) (aCons (vr 10) (aCons (tupM (aCons (cst (.int 0)) (aCons (cst (.int 1)) aNil))) aNil)))))
noncomputable abbrev m9 : SM := (setM 7 (callM d_u_law_pick (aCons (vr 1) (aCons badL aNil))))
noncomputable abbrev m10 : SM := (setM 8 (callM d_u_law_pick (aCons (vr 1) (aCons oddL aNil))))
noncomputable abbrev m11 : SM := (setM 9 toldL)
noncomputable abbrev turn : SM := (seqM m1 (seqM m2 (seqM m3 (seqM m4 (seqM m5 (seqM m6 (seqM m7 (seqM m8 (seqM m9 (seqM m10 (seqM m11 m12)))))))))))
theorem turn_run (scr : Vl) (xs ys : List Int) (o2 o3 o4 o5 o6 o7 o8 o9 o10 o11 : Option Vl) : ∃ ys' p3 p4 p5 p6 p7 p8 p9 p10 p11, turn [some scr, some (.cel 1), o2, o3, o4, o5, o6, o7, o8, o9, o10, o11] (S2 xs ys) = .nx [some scr, some (.cel 1), o2, p3, p4, p5, p6, p7, p8, p9, p10, p11] (S2 xs ys') := by
  obtain ⟨c, ys1, e1, hc⟩ := long_run xs ys
  obtain ⟨o, ys2, e2, ho⟩ := long_run xs ys1
  have h1 : m1 [some scr, some (.cel 1), o2, o3, o4, o5, o6, o7, o8, o9, o10, o11] (S2 xs ys) = .nx [some scr, some (.cel 1), o2, o3, o4, o5, o6, o7, o8, o9, some (.dat (cvD c)), some (.dat (cvD o))] (S2 xs ys2) := by
    rw [m1]
    simp only [ev_parM, ev_callM, ev_aCons, ev_aNil, ev_vr, List.getElem?_cons_zero, List.getElem?_cons_succ, Res.bind_ok, bindS_ok, e1, e2, parO_two, List.set]
  have h2 := m2_run hc ho scr o2 o3 o4 o5 o6 o7 o8 o9 (S2 xs ys2)
  obtain ⟨bD, ys3, e3, hb⟩ := pick_run xs ys2 (ds := BL.map rt) (by decide)
  obtain ⟨b, hbm, rfl⟩ := List.mem_map.mp hb
  obtain ⟨hbs, hb0⟩ := BL_sz b hbm
  have h3 : m3 [some scr, some (.cel 1), o2, o3, o4, o5, o6, o7, o8, o9, some (.dat (cvD c)), some (.dat (cvD o))] (S2 xs ys2) = .nx [some scr, some (.cel 1), o2, some (.dat (rt b)), o4, o5, o6, o7, o8, o9, some (.dat (cvD c)), some (.dat (cvD o))] (S2 xs ys3) := by
    rw [m3, BL_list]
    simp only [ev_setM, ev_callM, ev_aCons, ev_aNil, ev_vr, List.getElem?_cons_zero, List.getElem?_cons_succ, Res.bind_ok, bindS_ok, e3, List.set]
  obtain ⟨cnt, hcnt, e4⟩ := made_run_small hc hbs hb0 (S2 xs ys3)
  have e4' := told_ok0 e4
  have h4 : m4 [some scr, some (.cel 1), o2, some (.dat (rt b)), o4, o5, o6, o7, o8, o9, some (.dat (cvD c)), some (.dat (cvD o))] (S2 xs ys3) = .nx [some scr, some (.cel 1), o2, some (.dat (rt b)), some (.dat (cvD (sub c (path (okc c b) (c.length - 1) cnt)))), o5, o6, o7, o8, o9, some (.dat (cvD c)), some (.dat (cvD o))] (S2 xs ys3) := by
    rw [m4]
    simp only [ev_setM, ev_callM, ev_aCons, ev_aNil, ev_cst, ev_vr, List.getElem?_cons_zero, List.getElem?_cons_succ, Res.bind_ok, bindS_ok, e4', List.set]
  have h5 := m5_run hc hbs hb0 hcnt scr o2 o5 o6 o7 o8 o9 (some (.dat (cvD o))) (S2 xs ys3)
  obtain ⟨cnt0, hc0, e6⟩ := made_run_small hc (b := 0) (zero_sz.mono (by decide)) (by decide) (S2 xs ys3)
  have hlen := len_le hc hb0 hcnt hc0
  have hsg := small_good hc hc0
  have hon : ∀ a : Rat, 0 ≤ a → a ≤ 1 → onc (sub c (path (okc c 0) (c.length - 1) cnt0)) a = onc c a := fun a a0 a1 => on_same hc hc0 a0 a1
  have hag : ∀ st, d_made_small [.dat (cvD (sub c (path (okc c 0) (c.length - 1) cnt0))), .dat (rt 0)] st = .ok (.dat (cvD (sub c (path (okc c 0) (c.length - 1) cnt0)))) st := fun st => by
    obtain ⟨cnt', hc', e'⟩ := made_run_small hsg (b := 0) (zero_sz.mono (by decide)) (by decide) st
    rw [e', same_again hc hc0 rfl hc']
  have hl2 : (sub c (path (okc c b) (c.length - 1) cnt)).length ≤ (sub c (path (okc c 0) (c.length - 1) cnt0)).length := by
    rw [sub_len, sub_len]
    exact hlen
  generalize sub c (path (okc c 0) (c.length - 1) cnt0) = sa at e6 hsg hon hag hl2
  have e6' := told_ok0 e6
  have h6 : m6 [some scr, some (.cel 1), o2, some (.dat (rt b)), some (.dat (cvD (sub c (path (okc c b) (c.length - 1) cnt)))), o5, o6, o7, o8, o9, some (.dat (cvD c)), some (.dat (cvD o))] (S2 xs ys3) = .nx [some scr, some (.cel 1), o2, some (.dat (rt b)), some (.dat (cvD (sub c (path (okc c b) (c.length - 1) cnt)))), some (.dat (cvD sa)), o6, o7, o8, o9, some (.dat (cvD c)), some (.dat (cvD o))] (S2 xs ys3) := by
    rw [m6]
    simp only [ev_setM, ev_callM, ev_aCons (f := cst _), ev_aCons (f := vr _), ev_aCons (f := tupM _), ev_aNil, ev_cst, ev_vr, tup_rt 0 1 0 _ _ (by decide +kernel), List.getElem?_cons_zero, List.getElem?_cons_succ, Res.bind_ok, bindS_ok, e6', List.set]
  obtain ⟨q6, h7⟩ := m7_run hc hsg hon scr o2 (some (.dat (rt b))) (some (.dat (cvD (sub c (path (okc c b) (c.length - 1) cnt))))) o6 o7 o8 o9 (some (.dat (cvD o))) (S2 xs ys3)
  have h8 := m8_run hag hl2 scr o2 (some (.dat (rt b))) q6 o7 o8 o9 (some (.dat (cvD c))) (some (.dat (cvD o))) (S2 xs ys3)
  obtain ⟨ds, e9, d1, d2⟩ := bad_run hc scr o2 (some (.dat (rt b))) (some (.dat (cvD (sub c (path (okc c b) (c.length - 1) cnt))))) (some (.dat (cvD sa))) q6 o7 o8 o9 (some (.dat (cvD o))) (S2 xs ys3)
  obtain ⟨bd, ys4, f9, hbd⟩ := pick_run xs ys3 d1
  have h9 : m9 [some scr, some (.cel 1), o2, some (.dat (rt b)), some (.dat (cvD (sub c (path (okc c b) (c.length - 1) cnt)))), some (.dat (cvD sa)), q6, o7, o8, o9, some (.dat (cvD c)), some (.dat (cvD o))] (S2 xs ys3) = .nx [some scr, some (.cel 1), o2, some (.dat (rt b)), some (.dat (cvD (sub c (path (okc c b) (c.length - 1) cnt)))), some (.dat (cvD sa)), q6, some (.dat bd), o8, o9, some (.dat (cvD c)), some (.dat (cvD o))] (S2 xs ys4) := by
    rw [m9, ev_setM, ev_callM, ev_aCons, show vr 1 [some scr, some (.cel 1), o2, some (.dat (rt b)), some (.dat (cvD (sub c (path (okc c b) (c.length - 1) cnt)))), some (.dat (cvD sa)), q6, o7, o8, o9, some (.dat (cvD c)), some (.dat (cvD o))] (S2 xs ys3) = .ok (.cel 1) (S2 xs ys3) from rfl, Res.bind_ok, ev_aCons, e9, Res.bind_ok, ev_aNil, Res.bind_ok, Res.bind_ok, Res.bind_ok, f9, bindS_ok]
    rfl
  obtain ⟨ds2, e10, d3, d4⟩ := odd_run [some scr, some (.cel 1), o2, some (.dat (rt b)), some (.dat (cvD (sub c (path (okc c b) (c.length - 1) cnt)))), some (.dat (cvD sa)), q6, some (.dat bd), o8, o9, some (.dat (cvD c)), some (.dat (cvD o))] (S2 xs ys4)
  obtain ⟨od, ys5, f10, hod⟩ := pick_run xs ys4 d3
  have h10 : m10 [some scr, some (.cel 1), o2, some (.dat (rt b)), some (.dat (cvD (sub c (path (okc c b) (c.length - 1) cnt)))), some (.dat (cvD sa)), q6, some (.dat bd), o8, o9, some (.dat (cvD c)), some (.dat (cvD o))] (S2 xs ys4) = .nx [some scr, some (.cel 1), o2, some (.dat (rt b)), some (.dat (cvD (sub c (path (okc c b) (c.length - 1) cnt)))), some (.dat (cvD sa)), q6, some (.dat bd), some (.dat od), o9, some (.dat (cvD c)), some (.dat (cvD o))] (S2 xs ys5) := by
    rw [m10, ev_setM, ev_callM, ev_aCons, show vr 1 [some scr, some (.cel 1), o2, some (.dat (rt b)), some (.dat (cvD (sub c (path (okc c b) (c.length - 1) cnt)))), some (.dat (cvD sa)), q6, some (.dat bd), o8, o9, some (.dat (cvD c)), some (.dat (cvD o))] (S2 xs ys4) = .ok (.cel 1) (S2 xs ys4) from rfl, Res.bind_ok, ev_aCons, e10, Res.bind_ok, ev_aNil, Res.bind_ok, Res.bind_ok, Res.bind_ok, f10, bindS_ok]
    rfl
  have e11 := told_run hc (d2 bd hbd) (d4 od hod) scr o2 (some (.dat (rt b))) (some (.dat (cvD (sub c (path (okc c b) (c.length - 1) cnt))))) (some (.dat (cvD sa))) q6 o9 (some (.dat (cvD o))) (S2 xs ys5)
  have h11 : m11 [some scr, some (.cel 1), o2, some (.dat (rt b)), some (.dat (cvD (sub c (path (okc c b) (c.length - 1) cnt)))), some (.dat (cvD sa)), q6, some (.dat bd), some (.dat od), o9, some (.dat (cvD c)), some (.dat (cvD o))] (S2 xs ys5) = .nx [some scr, some (.cel 1), o2, some (.dat (rt b)), some (.dat (cvD (sub c (path (okc c b) (c.length - 1) cnt)))), some (.dat (cvD sa)), q6, some (.dat bd), some (.dat od), some (.dat (.list [refD, refD, refD, refD])), some (.dat (cvD c)), some (.dat (cvD o))] (S2 xs ys5) := by
    rw [m11, ev_setM, e11, bindS_ok]
    rfl
  have h12 := m12_run scr o2 (some (.dat (rt b))) (some (.dat (cvD (sub c (path (okc c b) (c.length - 1) cnt))))) (some (.dat (cvD sa))) q6 (some (.dat bd)) (some (.dat od)) (some (.dat (cvD c))) (some (.dat (cvD o))) (S2 xs ys5)
  refine ⟨ys5, some (.dat (rt b)), some (.dat (cvD (sub c (path (okc c b) (c.length - 1) cnt)))), some (.dat (cvD sa)), q6, some (.dat bd), some (.dat od), some (.dat (.list [refD, refD, refD, refD])), some (.dat (cvD c)), some (.dat (cvD o)), ?_⟩
  rw [turn, ev_seqM, h1, seqO_nx, ev_seqM, h2, seqO_nx, ev_seqM, h3, seqO_nx, ev_seqM, h4, seqO_nx, ev_seqM, h5, seqO_nx, ev_seqM, h6, seqO_nx, ev_seqM, h7, seqO_nx, ev_seqM, h8, seqO_nx, ev_seqM, h9, seqO_nx, ev_seqM, h10, seqO_nx, ev_seqM, h11, seqO_nx, h12]
theorem turns_run (scr : Vl) (xs : List Int) : ∀ (l : List D) (ys : List Int) (o2 o3 o4 o5 o6 o7 o8 o9 o10 o11 : Option Vl), ∃ ys' p2 p3 p4 p5 p6 p7 p8 p9 p10 p11, loopM (tgM (bName 2) turn) l [some scr, some (.cel 1), o2, o3, o4, o5, o6, o7, o8, o9, o10, o11] (S2 xs ys) = .nx [some scr, some (.cel 1), p2, p3, p4, p5, p6, p7, p8, p9, p10, p11] (S2 xs ys')
  | [], ys, o2, o3, o4, o5, o6, o7, o8, o9, o10, o11 => ⟨ys, o2, o3, o4, o5, o6, o7, o8, o9, o10, o11, rfl⟩
  | x :: l, ys, o2, o3, o4, o5, o6, o7, o8, o9, o10, o11 => by
    obtain ⟨ys1, q3, q4, q5, q6, q7, q8, q9, q10, q11, e1⟩ := turn_run scr xs ys (some (.dat x)) o3 o4 o5 o6 o7 o8 o9 o10 o11
    obtain ⟨ys', p2, p3, p4, p5, p6, p7, p8, p9, p10, p11, e2⟩ := turns_run scr xs l ys1 (some (.dat x)) q3 q4 q5 q6 q7 q8 q9 q10 q11
    refine ⟨ys', p2, p3, p4, p5, p6, p7, p8, p9, p10, p11, ?_⟩
    have hb : tgM (bName 2) turn x [some scr, some (.cel 1), o2, o3, o4, o5, o6, o7, o8, o9, o10, o11] (S2 xs ys) = turn [some scr, some (.cel 1), some (.dat x), o3, o4, o5, o6, o7, o8, o9, o10, o11] (S2 xs ys) := by
      rw [ev_tgM, ev_bName, optO_some]
      rfl
    rw [loopM_cons, hb, e1, loopO_nx, e2]
theorem law_true (ns : List Int) (hn : ns.length ≤ 63) : ∃ st, d_law [.scr ns] [] = .ok (.dat (.bool true)) st := by
  obtain ⟨xs, ys, e⟩ := draws_run ns hn
  obtain ⟨ys', p2, p3, p4, p5, p6, p7, p8, p9, p10, p11, e2⟩ := turns_run (.scr ns) xs (rngD 0 6 1) ys none none none none none none none none none none
  refine ⟨[], call_rtN (st' := S2 xs ys') rfl ?_⟩
  show b_law [some (.scr ns), none, none, none, none, none, none, none, none, none, none, none] [] = _
  have h1 : setM 1 (callM d_u_law_draws (aCons (vr 0) aNil)) [some (.scr ns), none, none, none, none, none, none, none, none, none, none, none] [] = .nx [some (.scr ns), some (.cel 1), none, none, none, none, none, none, none, none, none, none] (S2 xs ys) := by
    simp only [ev_setM, ev_callM, ev_aCons, ev_aNil, ev_vr, List.getElem?_cons_zero, List.getElem?_cons_succ, Res.bind_ok, bindS_ok, e, List.set]
  have hr : ∀ (s : Slots) (st : Store), rng1M (aCons (cst (.int 6)) aNil) s st = .ok (rngD 0 6 1) st := fun s st => run_rng1 (n := 6) rfl (by decide)
  rw [b_law, ev_seqM, h1, seqO_nx, ev_seqM, ev_forM, hr, bindS_ok, e2, seqO_nx]
  rfl
end K23

set_option Elab.async false
set_option linter.all false
set_option maxRecDepth 100000
/-! printed by pr.py: the code has these denotations -/
namespace K23
open PySem PySem.Spec PyProof.Rows L2 RZ RT StX Pd
def topS (i : Nat) : Stmt := PySem.Challenge.pw_huescarried_k23_whole_curves_made_small.main.body.getD i (.Pass ⟨0, 0, 0, 0⟩)
def txfa : List He.Fa := [.free "abs", .free "int", .free "range", .free "len", .free "list", .free "reversed", .free "isinstance", .free "bool", .free "tuple", .free "all", .free "zip", .free "min", .glo "NotRight", .glo "HueError", .glo "_law_draws", .glo "_law_take", .glo "_law_pick", .glo "check", .glo "is_integer", .glo "shared", .glo "is_ratio", .glo "is_below", .glo "check_bound", .glo "is_point", .glo "is_curve", .glo "made", .glo "share", .glo "less", .glo "add", .glo "product", .glo "size_of", .glo "is_close", .glo "made_small", .glo "curve_by", .glo "fault_of_curve", .glo "_law_told", .glo "_law_r", .glo "_law_mul", .glo "_law_add", .glo "_law_less", .glo "_law_long_curve", .glo "_law_sub", .glo "_law_on_curve", .glo "_law_off", .glo "_law_rows", .glo "_law_small", .glo "on_curve", .glo "law", .exc "NotRight"]
def txfn : List He.DefD := [
  ⟨("_law_draws", none), "_law_draws", "_law_draws", defArgs (topS 29), defBody (topS 29), defScope (topS 29), [], []⟩,
  ⟨("_law_take", none), "_law_take", "_law_take", defArgs (topS 30), defBody (topS 30), defScope (topS 30), [], []⟩,
  ⟨("_law_pick", none), "_law_pick", "_law_pick", defArgs (topS 31), defBody (topS 31), defScope (topS 31), [], []⟩,
  ⟨("check", none), "check", "check", defArgs (topS 4), defBody (topS 4), defScope (topS 4), [], []⟩,
  ⟨("is_integer", none), "is_integer", "is_integer", defArgs (topS 3), defBody (topS 3), defScope (topS 3), [], []⟩,
  ⟨("shared", none), "shared", "shared", defArgs (topS 8), defBody (topS 8), defScope (topS 8), [], []⟩,
  ⟨("is_ratio", none), "is_ratio", "is_ratio", defArgs (topS 10), defBody (topS 10), defScope (topS 10), [], []⟩,
  ⟨("is_below", none), "is_below", "is_below", defArgs (topS 15), defBody (topS 15), defScope (topS 15), [], []⟩,
  ⟨("check_bound", none), "check_bound", "check_bound", defArgs (topS 24), defBody (topS 24), defScope (topS 24), [], []⟩,
  ⟨("is_point", none), "is_point", "is_point", defArgs (topS 19), defBody (topS 19), defScope (topS 19), [], []⟩,
  ⟨("is_curve", none), "is_curve", "is_curve", defArgs (topS 20), defBody (topS 20), defScope (topS 20), [], []⟩,
  ⟨("made", none), "made", "made", defArgs (topS 9), defBody (topS 9), defScope (topS 9), [], []⟩,
  ⟨("share", none), "share", "share", defArgs (topS 14), defBody (topS 14), defScope (topS 14), [], []⟩,
  ⟨("less", none), "less", "less", defArgs (topS 12), defBody (topS 12), defScope (topS 12), [], []⟩,
  ⟨("add", none), "add", "add", defArgs (topS 11), defBody (topS 11), defScope (topS 11), [], []⟩,
  ⟨("product", none), "product", "product", defArgs (topS 13), defBody (topS 13), defScope (topS 13), [], []⟩,
  ⟨("size_of", none), "size_of", "size_of", defArgs (topS 16), defBody (topS 16), defScope (topS 16), [], []⟩,
  ⟨("is_close", none), "is_close", "is_close", defArgs (topS 25), defBody (topS 25), defScope (topS 25), [], []⟩,
  ⟨("made_small", none), "made_small", "made_small", defArgs (topS 26), defBody (topS 26), defScope (topS 26), [], []⟩,
  ⟨("curve_by", none), "curve_by", "curve_by", defArgs (topS 21), defBody (topS 21), defScope (topS 21), [], []⟩,
  ⟨("fault_of_curve", none), "fault_of_curve", "fault_of_curve", defArgs (topS 27), defBody (topS 27), defScope (topS 27), [], []⟩,
  ⟨("_law_told", none), "_law_told", "_law_told", defArgs (topS 38), defBody (topS 38), defScope (topS 38), [], []⟩,
  ⟨("_law_r", none), "_law_r", "_law_r", defArgs (topS 32), defBody (topS 32), defScope (topS 32), [], []⟩,
  ⟨("_law_mul", none), "_law_mul", "_law_mul", defArgs (topS 35), defBody (topS 35), defScope (topS 35), [], []⟩,
  ⟨("_law_add", none), "_law_add", "_law_add", defArgs (topS 33), defBody (topS 33), defScope (topS 33), [], []⟩,
  ⟨("_law_less", none), "_law_less", "_law_less", defArgs (topS 36), defBody (topS 36), defScope (topS 36), [], []⟩,
  ⟨("_law_long_curve", none), "_law_long_curve", "_law_long_curve", defArgs (topS 39), defBody (topS 39), defScope (topS 39), [], []⟩,
  ⟨("_law_sub", none), "_law_sub", "_law_sub", defArgs (topS 34), defBody (topS 34), defScope (topS 34), [], []⟩,
  ⟨("_law_on_curve", none), "_law_on_curve", "_law_on_curve", defArgs (topS 37), defBody (topS 37), defScope (topS 37), [], []⟩,
  ⟨("_law_off", none), "_law_off", "_law_off", defArgs (topS 40), defBody (topS 40), defScope (topS 40), [], []⟩,
  ⟨("_law_rows", none), "_law_rows", "_law_rows", defArgs (topS 41), defBody (topS 41), defScope (topS 41), [], []⟩,
  ⟨("_law_small", none), "_law_small", "_law_small", defArgs (topS 42), defBody (topS 42), defScope (topS 42), [], []⟩,
  ⟨("on_curve", none), "on_curve", "on_curve", defArgs (topS 22), defBody (topS 22), defScope (topS 22), [], []⟩,
  ⟨("law", none), "law", "law", defArgs (topS 43), defBody (topS 43), defScope (topS 43), [], []⟩]
def tx : Tx := ⟨txfa, txfn, [("ZERO", c_ZERO), ("ONE", c_ONE), ("MOST_POINTS", c_MOST_POINTS)], ["HueError", "NotRight"], [(0, 0), (1, 0), (1, 1)]⟩
section
variable {P : Program} {w : World} {K : Fr} {mg : Str → Option Value} {base : Heap}
abbrev s_u_law_draws : Stmt := topS 29
theorem sc_u_law_draws : FnScope ["script", "draws", "cell", "seed", "k", "number", "first"] ["script"] (defScope s_u_law_draws) := ⟨rfl, rfl, rfl, by decide +kernel, rfl, by decide +kernel, by decide +kernel⟩
set_option maxHeartbeats 4000000 in
theorem ok_u_law_draws (T : Txt tx K mg) : Cal P w K mg base (clN tx.ex K) "_law_draws" ["script"] 1 d_u_law_draws := by
  refine cal_of (N := ["script", "draws", "cell", "seed", "k", "number", "first"]) (ps := ["script"]) (n := 1) (j := 6) T 0 (by rfl) (T.glo 14) rfl rfl sc_u_law_draws rfl rfl (fun _ _ _ _ _ _ us hl => match us, hl with | [_], _ => rfl) (fun f cdv A outer s H E hr tk hp => ?_)
  exact qss_cons (qs_set 1 sc_u_law_draws.nd (qe_lstC qa_nil))
        (qss_cons (qs_for hp rfl (qi_data (qe_var 0)) (qg_name 2 sc_u_law_draws.nd) (qss_cons (qs_set 5 sc_u_law_draws.nd (qe_callB call_abs on_abs (by rfl) (T.free 0) (by decide +kernel) (qa_cons (qe_var 2) qa_nil)))
        (qss_cons (qs_if (qt_cmp op_lt od_lt b2_lt (qe_var 5) (qe_bin op_pow od_pow qe_int qe_int) (nomark _)) (qss_cons (qs_set 6 sc_u_law_draws.nd (qe_bin op_mod od_mod (qe_callTy call_int1 on_int (by rfl) (T.free 1) (by decide +kernel) (qa_cons (qe_bin op_addA od_add (qe_bin op_mulA od_mul (qe_var 5) qe_int) qe_int) qa_nil)) qe_int))
        (qss_cons (qs_expr (qe_append (qe_var 1) (qe_bin op_mod od_mod (qe_callTy call_int1 on_int (by rfl) (T.free 1) (by decide +kernel) (qa_cons (qe_bin op_addA od_add (qe_bin op_mulA od_mul (qe_var 6) qe_int) (qe_var 5)) qa_nil)) qe_int)))
        (qss_cons (qs_expr (qe_append (qe_var 1) (qe_bin op_mod od_mod (qe_callTy call_int1 on_int (by rfl) (T.free 1) (by decide +kernel) (qa_cons (qe_bin op_addA od_add (qe_var 6) (qe_bin op_fdivW od_fdiv (qe_var 5) qe_int)) qa_nil)) qe_int)))
        (qss_one (qs_set 5 sc_u_law_draws.nd qe_int))))) qss_nil)
        (qss_one (qs_for hp rfl (qi_rng1 (by rfl) (T.free 2) (qa_cons qe_int qa_nil)) (qg_name 4 sc_u_law_draws.nd) (qss_one (qs_if (qt_cmp op_gt od_gt b2_gt (qe_var 5) qe_int (nomark _)) (qss_cons (qs_expr (qe_append (qe_var 1) (qe_bin op_mod od_mod (qe_callTy call_int1 on_int (by rfl) (T.free 1) (by decide +kernel) (qa_cons (qe_var 5) qa_nil)) qe_int)))
        (qss_one (qs_set 5 sc_u_law_draws.nd (qe_bin op_fdivW od_fdiv (qe_var 5) qe_int)))) qss_nil)))))))
        (qss_cons (qs_set 3 sc_u_law_draws.nd qe_int)
        (qss_cons (qs_if (qt_cmp op_gt od_gt b2_gt (qe_scLen (by rfl) (T.free 3) (qe_var 0)) qe_int (nomark _)) (qss_one (qs_set 3 sc_u_law_draws.nd (qe_bin op_addA od_add qe_int (qe_callB call_abs on_abs (by rfl) (T.free 0) (by decide +kernel) (qa_cons (qe_scIx (qe_var 0) qe_int (fun _ _ => rfl)) qa_nil))))) qss_nil)
        (qss_cons (qs_for hp rfl (qi_rng1 (by rfl) (T.free 2) (qa_cons qe_int qa_nil)) (qg_name 4 sc_u_law_draws.nd) (qss_cons (qs_set 3 sc_u_law_draws.nd (qe_bin op_mod od_mod (qe_callTy call_int1 on_int (by rfl) (T.free 1) (by decide +kernel) (qa_cons (qe_bin op_addA od_add (qe_bin op_mulA od_mul (qe_var 3) qe_int) qe_int) qa_nil)) qe_int))
        (qss_one (qs_expr (qe_append (qe_var 1) (qe_bin op_fdivW od_fdiv (qe_var 3) qe_int))))))
        (qss_one (qs_ret (qe_lrevC rfl (by rfl) (T.free 4) (by rfl) (T.free 5) (qe_var 1))))))))
abbrev s_u_law_take : Stmt := topS 30
theorem sc_u_law_take : FnScope ["draws", "bound"] ["draws", "bound"] (defScope s_u_law_take) := ⟨rfl, rfl, rfl, by decide +kernel, rfl, by decide +kernel, by decide +kernel⟩
set_option maxHeartbeats 4000000 in
theorem ok_u_law_take (T : Txt tx K mg) : Cal P w K mg base (clN tx.ex K) "_law_take" ["draws", "bound"] 1 d_u_law_take := by
  refine Cal.close <| cal_of (N := ["draws", "bound"]) (ps := ["draws", "bound"]) (n := 2) (j := 0) T 1 (by rfl) (T.glo 15) rfl rfl sc_u_law_take rfl rfl (fun _ _ _ _ _ _ us hl => match us, hl with | [_, _], _ => rfl) (fun f cdv A outer s H E hr tk hp => ?_)
  exact qss_cons (qs_if (qt_cmp (op_eqD hr.units) od_eq b2_eq (qe_callB call_lenA on_len (by rfl) (T.free 3) (by decide +kernel) (qa_cons (qe_var 0) qa_nil)) qe_int (nomark _)) (qss_one (qs_ret qe_int)) qss_nil)
        (qss_one (qs_ret (qe_bin op_mod od_mod (qe_callTy call_int1 on_int (by rfl) (T.free 1) (by decide +kernel) (qa_cons (qe_pop (qe_var 0)) qa_nil)) (qe_var 1))))
abbrev s_u_law_pick : Stmt := topS 31
theorem sc_u_law_pick : FnScope ["draws", "some"] ["draws", "some"] (defScope s_u_law_pick) := ⟨rfl, rfl, rfl, by decide +kernel, rfl, by decide +kernel, by decide +kernel⟩
set_option maxHeartbeats 4000000 in
theorem ok_u_law_pick (T : Txt tx K mg) : Cal P w K mg base (clN tx.ex K) "_law_pick" ["draws", "some"] 2 d_u_law_pick := by
  refine Cal.close <| cal_of (N := ["draws", "some"]) (ps := ["draws", "some"]) (n := 2) (j := 0) T 2 (by rfl) (T.glo 16) rfl rfl sc_u_law_pick rfl rfl (fun _ _ _ _ _ _ us hl => match us, hl with | [_, _], _ => rfl) (fun f cdv A outer s H E hr tk hp => ?_)
  exact qss_one (qs_ret (qe_ix ix_seq od_ix (qe_var 1) (qe_callC (ok_u_law_take T) hr tk (qa_cons (qe_var 0) (qa_cons (qe_callB call_lenA on_len (by rfl) (T.free 3) (by decide +kernel) (qa_cons (qe_var 1) qa_nil)) qa_nil)) (by decide)) (fun _ _ => rfl)))
abbrev s_check : Stmt := topS 4
theorem sc_check : FnScope ["is_right"] ["is_right"] (defScope s_check) := ⟨rfl, rfl, rfl, by decide +kernel, rfl, by decide +kernel, by decide +kernel⟩
set_option maxHeartbeats 4000000 in
theorem ok_check (T : Txt tx K mg) : Cal P w K mg base (clN tx.ex K) "check" ["is_right"] 1 d_check := by
  refine Cal.close <| cal_of (N := ["is_right"]) (ps := ["is_right"]) (n := 1) (j := 0) T 3 (by rfl) (T.glo 17) rfl rfl sc_check rfl rfl (fun _ _ _ _ _ _ us hl => match us, hl with | [_], _ => rfl) (fun f cdv A outer s H E hr tk hp => ?_)
  exact qss_one (qs_if (qt_not (qt_val (qe_var 0))) (qss_one (qs_raise (C := 1) rfl tk (pmk_own PySem.F.excBase_ValueError (He.exc_ok (T.d.fact 48 (f := .exc "NotRight") rfl)).1 (T.glo 12) (He.exc_ok (T.d.fact 48 (f := .exc "NotRight") rfl)).2.1 (raises_own (He.exc_ok (T.d.fact 48 (f := .exc "NotRight") rfl)).2.2.1 (He.exc_ok (T.d.fact 48 (f := .exc "NotRight") rfl)).2.2.2) (by rfl)))) qss_nil)
abbrev s_is_integer : Stmt := topS 3
theorem sc_is_integer : FnScope ["value"] ["value"] (defScope s_is_integer) := ⟨rfl, rfl, rfl, by decide +kernel, rfl, by decide +kernel, by decide +kernel⟩
set_option maxHeartbeats 4000000 in
theorem ok_is_integer (T : Txt tx K mg) : Cal P w K mg base (clN tx.ex K) "is_integer" ["value"] 1 d_is_integer := by
  refine Cal.close <| cal_of (N := ["value"]) (ps := ["value"]) (n := 1) (j := 0) T 4 (by rfl) (T.glo 18) rfl rfl sc_is_integer rfl rfl (fun _ _ _ _ _ _ us hl => match us, hl with | [_], _ => rfl) (fun f cdv A outer s H E hr tk hp => ?_)
  exact qss_one (qs_ret (qe_and (qe_isi (by rfl) (T.free 6) (qe_var 0) (by rfl) (T.free 1) (by decide +kernel)) (qe_one (qe_not (qe_isi (by rfl) (T.free 6) (qe_var 0) (by rfl) (T.free 7) (by decide +kernel))))))
abbrev s_shared : Stmt := topS 8
theorem sc_shared : FnScope ["a", "b"] ["a", "b"] (defScope s_shared) := ⟨rfl, rfl, rfl, by decide +kernel, rfl, by decide +kernel, by decide +kernel⟩
set_option maxHeartbeats 4000000 in
theorem ok_shared (T : Txt tx K mg) : Cal P w K mg base (clN tx.ex K) "shared" ["a", "b"] 1 d_shared := by
  refine Cal.close <| cal_of (N := ["a", "b"]) (ps := ["a", "b"]) (n := 2) (j := 0) T 5 (by rfl) (T.glo 19) rfl rfl sc_shared rfl rfl (fun _ _ _ _ _ _ us hl => match us, hl with | [_, _], _ => rfl) (fun f cdv A outer s H E hr tk hp => ?_)
  exact qss_cons (qs_while hp (qt_cmp op_gt od_gt b2_gt (qe_var 1) qe_int (nomark _)) (qss_one (qs_par 0 1 rfl sc_shared.nd (qa_cons (qe_var 1) (qa_cons (qe_bin op_mod od_mod (qe_var 0) (qe_var 1)) qa_nil)) (by rfl) (by rfl) (by decide) (by rfl) (by rfl) (by rfl))))
        (qss_one (qs_ret (qe_var 0)))
abbrev s_is_ratio : Stmt := topS 10
theorem sc_is_ratio : FnScope ["value"] ["value"] (defScope s_is_ratio) := ⟨rfl, rfl, rfl, by decide +kernel, rfl, by decide +kernel, by decide +kernel⟩
set_option maxHeartbeats 4000000 in
theorem ok_is_ratio (T : Txt tx K mg) : Cal P w K mg base (clN tx.ex K) "is_ratio" ["value"] 2 d_is_ratio := by
  refine Cal.close <| cal_of (N := ["value"]) (ps := ["value"]) (n := 1) (j := 0) T 6 (by rfl) (T.glo 20) rfl rfl sc_is_ratio rfl rfl (fun _ _ _ _ _ _ us hl => match us, hl with | [_], _ => rfl) (fun f cdv A outer s H E hr tk hp => ?_)
  exact qss_cons (qs_if (PW.pt (qw_or (qt_not (qt_val (qe_isi (by rfl) (T.free 6) (qe_var 0) (by rfl) (T.free 8) (by decide +kernel)))) (qw_or (qt_cmp (op_neD hr.units) od_ne b2_ne (qe_callB call_lenA on_len (by rfl) (T.free 3) (by decide +kernel) (qa_cons (qe_var 0) qa_nil)) qe_int (nomark _)) (qw_or (qt_not (qt_val (qe_callC (ok_is_integer T) hr tk (qa_cons (qe_ix ix_seq od_ix (qe_var 0) qe_int (fun _ _ => rfl)) qa_nil) (by decide)))) (qw_or1 (qt_not (qt_val (qe_callC (ok_is_integer T) hr tk (qa_cons (qe_ix ix_seq od_ix (qe_var 0) qe_int (fun _ _ => rfl)) qa_nil) (by decide))))))))) (qss_one (qs_ret qe_bl)) qss_nil)
        (qss_one (qs_ret (qe_and (qe_cmp op_gt od_gt (qe_ix ix_seq od_ix (qe_var 0) qe_int (fun _ _ => rfl)) qe_int (nomark _)) (qe_one (qe_cmp (op_eqD hr.units) od_eq (qe_callC (ok_shared T) hr tk (qa_cons (qe_callB call_abs on_abs (by rfl) (T.free 0) (by decide +kernel) (qa_cons (qe_ix ix_seq od_ix (qe_var 0) qe_int (fun _ _ => rfl)) qa_nil)) (qa_cons (qe_ix ix_seq od_ix (qe_var 0) qe_int (fun _ _ => rfl)) qa_nil)) (by decide)) qe_int (nomark _))))))
abbrev s_is_below : Stmt := topS 15
theorem sc_is_below : FnScope ["a", "b"] ["a", "b"] (defScope s_is_below) := ⟨rfl, rfl, rfl, by decide +kernel, rfl, by decide +kernel, by decide +kernel⟩
set_option maxHeartbeats 4000000 in
theorem ok_is_below (T : Txt tx K mg) : Cal P w K mg base (clN tx.ex K) "is_below" ["a", "b"] 1 d_is_below := by
  refine Cal.close <| cal_of (N := ["a", "b"]) (ps := ["a", "b"]) (n := 2) (j := 0) T 7 (by rfl) (T.glo 21) rfl rfl sc_is_below rfl rfl (fun _ _ _ _ _ _ us hl => match us, hl with | [_, _], _ => rfl) (fun f cdv A outer s H E hr tk hp => ?_)
  exact qss_one (qs_ret (qe_cmp op_lt od_lt (qe_bin op_mulA od_mul (qe_ix ix_seq od_ix (qe_var 0) qe_int (fun _ _ => rfl)) (qe_ix ix_seq od_ix (qe_var 1) qe_int (fun _ _ => rfl))) (qe_bin op_mulA od_mul (qe_ix ix_seq od_ix (qe_var 1) qe_int (fun _ _ => rfl)) (qe_ix ix_seq od_ix (qe_var 0) qe_int (fun _ _ => rfl))) (nomark _)))
abbrev s_check_bound : Stmt := topS 24
theorem sc_check_bound : FnScope ["bound"] ["bound"] (defScope s_check_bound) := ⟨rfl, rfl, rfl, by decide +kernel, rfl, by decide +kernel, by decide +kernel⟩
set_option maxHeartbeats 4000000 in
theorem ok_check_bound (T : Txt tx K mg) : Cal P w K mg base (clN tx.ex K) "check_bound" ["bound"] 3 d_check_bound := by
  refine Cal.close <| cal_of (N := ["bound"]) (ps := ["bound"]) (n := 1) (j := 0) T 8 (by rfl) (T.glo 22) rfl rfl sc_check_bound rfl rfl (fun _ _ _ _ _ _ us hl => match us, hl with | [_], _ => rfl) (fun f cdv A outer s H E hr tk hp => ?_)
  exact qss_one (qs_expr (qe_callC (ok_check T) hr tk (qa_cons (qe_and (qe_callC (ok_is_ratio T) hr tk (qa_cons (qe_var 0) qa_nil) (by decide)) (qe_one (qe_not (qe_callC (ok_is_below T) hr tk (qa_cons (qe_var 0) (qa_cons (qe_const (T.cons 0)) qa_nil)) (by decide))))) qa_nil) (by decide)))
abbrev s_is_point : Stmt := topS 19
theorem sc_is_point : FnScope ["value"] ["value"] (defScope s_is_point) := ⟨rfl, rfl, rfl, by decide +kernel, rfl, by decide +kernel, by decide +kernel⟩
set_option maxHeartbeats 4000000 in
theorem ok_is_point (T : Txt tx K mg) : Cal P w K mg base (clN tx.ex K) "is_point" ["value"] 3 d_is_point := by
  refine Cal.close <| cal_of (N := ["value"]) (ps := ["value"]) (n := 1) (j := 0) T 9 (by rfl) (T.glo 23) rfl rfl sc_is_point rfl rfl (fun _ _ _ _ _ _ us hl => match us, hl with | [_], _ => rfl) (fun f cdv A outer s H E hr tk hp => ?_)
  exact qss_one (qs_ret (qe_and (qe_isi (by rfl) (T.free 6) (qe_var 0) (by rfl) (T.free 8) (by decide +kernel)) (qe_and (qe_cmp (op_eqD hr.units) od_eq (qe_callB call_lenA on_len (by rfl) (T.free 3) (by decide +kernel) (qa_cons (qe_var 0) qa_nil)) qe_int (nomark _)) (qe_and (qe_callC (ok_is_ratio T) hr tk (qa_cons (qe_ix ix_seq od_ix (qe_var 0) qe_int (fun _ _ => rfl)) qa_nil) (by decide)) (qe_one (qe_callC (ok_is_ratio T) hr tk (qa_cons (qe_ix ix_seq od_ix (qe_var 0) qe_int (fun _ _ => rfl)) qa_nil) (by decide)))))))
abbrev s_is_curve : Stmt := topS 20
theorem sc_is_curve : FnScope ["value", "is_rising", "point", "one", "other"] ["value"] (defScope s_is_curve) := ⟨rfl, rfl, rfl, by decide +kernel, rfl, by decide +kernel, by decide +kernel⟩
set_option maxHeartbeats 4000000 in
theorem ok_is_curve (T : Txt tx K mg) : Cal P w K mg base (clN tx.ex K) "is_curve" ["value"] 4 d_is_curve := by
  refine Cal.close <| cal_of (N := ["value", "is_rising", "point", "one", "other"]) (ps := ["value"]) (n := 1) (j := 4) T 10 (by rfl) (T.glo 24) rfl rfl sc_is_curve rfl rfl (fun _ _ _ _ _ _ us hl => match us, hl with | [_], _ => rfl) (fun f cdv A outer s H E hr tk hp => ?_)
  exact qss_cons (qs_if (PW.pt (qw_or (qt_not (qt_val (qe_isi (by rfl) (T.free 6) (qe_var 0) (by rfl) (T.free 8) (by decide +kernel)))) (qw_or1 (qt_not (qt_chain op_le op_le od_le od_le qe_int (qe_callB call_lenA on_len (by rfl) (T.free 3) (by decide +kernel) (qa_cons (qe_var 0) qa_nil)) (qe_const (T.cons 2))))))) (qss_one (qs_ret qe_bl)) qss_nil)
        (qss_cons (qs_if (qt_not (qt_val (qe_callB (cr_all rfl) on_all (by rfl) (T.free 9) (by decide +kernel) (qa_cons (qe_lc [("point", 2)] rfl sc_is_curve.nd (by decide) (qi_data (qe_var 0)) (blkOk_by (N := ["value", "is_rising", "point", "one", "other"]) (sc := defScope s_is_curve) (by decide +kernel)) (fun _ _ _ _ _ => qg_name 2 sc_is_curve.nd) (fun _ _ _ _ _ => qts_nil) (fun _ _ _ _ _ => qe_callC (ok_is_point T) hr takes0 (qa_cons (qe_var 2) qa_nil) (by decide))) qa_nil)))) (qss_one (qs_ret qe_bl)) qss_nil)
        (qss_cons (qs_set 1 sc_is_curve.nd (qe_callB (cr_all rfl) on_all (by rfl) (T.free 9) (by decide +kernel) (qa_cons (qe_lc [("one", 3), ("other", 4)] rfl sc_is_curve.nd (by decide) (qi_zip (by rfl) (T.free 10) (qa_cons (qe_var 0) (qa_cons (qe_slice (qe_var 0) (qo_some qe_int) qo_none) qa_nil))) (blkOk_by (N := ["value", "is_rising", "point", "one", "other"]) (sc := defScope s_is_curve) (by decide +kernel)) (fun _ _ _ _ _ => qg_tup rfl (qgs_cons (qg_name 3 sc_is_curve.nd) (qgs_cons (qg_name 4 sc_is_curve.nd) (qgs_nil (is := []))))) (fun _ _ _ _ _ => qts_nil) (fun _ _ _ _ _ => qe_callC (ok_is_below T) hr takes0 (qa_cons (qe_ix ix_seq od_ix (qe_var 3) qe_int (fun _ _ => rfl)) (qa_cons (qe_ix ix_seq od_ix (qe_var 4) qe_int (fun _ _ => rfl)) qa_nil)) (by decide))) qa_nil)))
        (qss_one (qs_ret (qe_and (qe_var 1) (qe_and (qe_cmp (op_eqD hr.units) od_eq (qe_ix ix_seq od_ix (qe_ix ix_seq od_ix (qe_var 0) qe_int (fun _ _ => rfl)) qe_int (fun _ _ => rfl)) (qe_const (T.cons 0)) (nomark _)) (qe_one (qe_cmp (op_eqD hr.units) od_eq (qe_ix ix_seq od_ix (qe_ix ix_seq od_ix (qe_var 0) (qe_un un_neg o1_neg qe_int) (fun _ _ => rfl)) qe_int (fun _ _ => rfl)) (qe_const (T.cons 1)) (nomark _)))))))))
abbrev s_made : Stmt := topS 9
theorem sc_made : FnScope ["n", "d", "divisor", "sign"] ["n", "d"] (defScope s_made) := ⟨rfl, rfl, rfl, by decide +kernel, rfl, by decide +kernel, by decide +kernel⟩
set_option maxHeartbeats 4000000 in
theorem ok_made (T : Txt tx K mg) : Cal P w K mg base (clN tx.ex K) "made" ["n", "d"] 2 d_made := by
  refine Cal.close <| cal_of (N := ["n", "d", "divisor", "sign"]) (ps := ["n", "d"]) (n := 2) (j := 2) T 11 (by rfl) (T.glo 25) rfl rfl sc_made rfl rfl (fun _ _ _ _ _ _ us hl => match us, hl with | [_, _], _ => rfl) (fun f cdv A outer s H E hr tk hp => ?_)
  exact qss_cons (qs_set 2 sc_made.nd (qe_callC (ok_shared T) hr tk (qa_cons (qe_callB call_abs on_abs (by rfl) (T.free 0) (by decide +kernel) (qa_cons (qe_var 0) qa_nil)) (qa_cons (qe_callB call_abs on_abs (by rfl) (T.free 0) (by decide +kernel) (qa_cons (qe_var 1) qa_nil)) qa_nil)) (by decide)))
        (qss_cons (qs_set 3 sc_made.nd (qe_ifE (qt_cmp op_gt od_gt b2_gt (qe_var 1) qe_int (nomark _)) qe_int (qe_un un_neg o1_neg qe_int)))
        (qss_one (qs_ret (qe_tup (qa_cons (qe_bin op_fdivW od_fdiv (qe_bin op_mulA od_mul (qe_var 3) (qe_var 0)) (qe_var 2)) (qa_cons (qe_bin op_fdivW od_fdiv (qe_bin op_mulA od_mul (qe_var 3) (qe_var 1)) (qe_var 2)) qa_nil))))))
abbrev s_share : Stmt := topS 14
theorem sc_share : FnScope ["a", "b"] ["a", "b"] (defScope s_share) := ⟨rfl, rfl, rfl, by decide +kernel, rfl, by decide +kernel, by decide +kernel⟩
set_option maxHeartbeats 4000000 in
theorem ok_share (T : Txt tx K mg) : Cal P w K mg base (clN tx.ex K) "share" ["a", "b"] 3 d_share := by
  refine Cal.close <| cal_of (N := ["a", "b"]) (ps := ["a", "b"]) (n := 2) (j := 0) T 12 (by rfl) (T.glo 26) rfl rfl sc_share rfl rfl (fun _ _ _ _ _ _ us hl => match us, hl with | [_, _], _ => rfl) (fun f cdv A outer s H E hr tk hp => ?_)
  exact qss_one (qs_ret (qe_callC (ok_made T) hr tk (qa_cons (qe_bin op_mulA od_mul (qe_ix ix_seq od_ix (qe_var 0) qe_int (fun _ _ => rfl)) (qe_ix ix_seq od_ix (qe_var 1) qe_int (fun _ _ => rfl))) (qa_cons (qe_bin op_mulA od_mul (qe_ix ix_seq od_ix (qe_var 0) qe_int (fun _ _ => rfl)) (qe_ix ix_seq od_ix (qe_var 1) qe_int (fun _ _ => rfl))) qa_nil)) (by decide)))
abbrev s_less : Stmt := topS 12
theorem sc_less : FnScope ["a", "b"] ["a", "b"] (defScope s_less) := ⟨rfl, rfl, rfl, by decide +kernel, rfl, by decide +kernel, by decide +kernel⟩
set_option maxHeartbeats 4000000 in
theorem ok_less (T : Txt tx K mg) : Cal P w K mg base (clN tx.ex K) "less" ["a", "b"] 3 d_less := by
  refine Cal.close <| cal_of (N := ["a", "b"]) (ps := ["a", "b"]) (n := 2) (j := 0) T 13 (by rfl) (T.glo 27) rfl rfl sc_less rfl rfl (fun _ _ _ _ _ _ us hl => match us, hl with | [_, _], _ => rfl) (fun f cdv A outer s H E hr tk hp => ?_)
  exact qss_one (qs_ret (qe_callC (ok_made T) hr tk (qa_cons (qe_bin op_sub od_sub (qe_bin op_mulA od_mul (qe_ix ix_seq od_ix (qe_var 0) qe_int (fun _ _ => rfl)) (qe_ix ix_seq od_ix (qe_var 1) qe_int (fun _ _ => rfl))) (qe_bin op_mulA od_mul (qe_ix ix_seq od_ix (qe_var 1) qe_int (fun _ _ => rfl)) (qe_ix ix_seq od_ix (qe_var 0) qe_int (fun _ _ => rfl)))) (qa_cons (qe_bin op_mulA od_mul (qe_ix ix_seq od_ix (qe_var 0) qe_int (fun _ _ => rfl)) (qe_ix ix_seq od_ix (qe_var 1) qe_int (fun _ _ => rfl))) qa_nil)) (by decide)))
abbrev s_add : Stmt := topS 11
theorem sc_add : FnScope ["a", "b"] ["a", "b"] (defScope s_add) := ⟨rfl, rfl, rfl, by decide +kernel, rfl, by decide +kernel, by decide +kernel⟩
set_option maxHeartbeats 4000000 in
theorem ok_add (T : Txt tx K mg) : Cal P w K mg base (clN tx.ex K) "add" ["a", "b"] 3 d_add := by
  refine Cal.close <| cal_of (N := ["a", "b"]) (ps := ["a", "b"]) (n := 2) (j := 0) T 14 (by rfl) (T.glo 28) rfl rfl sc_add rfl rfl (fun _ _ _ _ _ _ us hl => match us, hl with | [_, _], _ => rfl) (fun f cdv A outer s H E hr tk hp => ?_)
  exact qss_one (qs_ret (qe_callC (ok_made T) hr tk (qa_cons (qe_bin op_addA od_add (qe_bin op_mulA od_mul (qe_ix ix_seq od_ix (qe_var 0) qe_int (fun _ _ => rfl)) (qe_ix ix_seq od_ix (qe_var 1) qe_int (fun _ _ => rfl))) (qe_bin op_mulA od_mul (qe_ix ix_seq od_ix (qe_var 1) qe_int (fun _ _ => rfl)) (qe_ix ix_seq od_ix (qe_var 0) qe_int (fun _ _ => rfl)))) (qa_cons (qe_bin op_mulA od_mul (qe_ix ix_seq od_ix (qe_var 0) qe_int (fun _ _ => rfl)) (qe_ix ix_seq od_ix (qe_var 1) qe_int (fun _ _ => rfl))) qa_nil)) (by decide)))
abbrev s_product : Stmt := topS 13
theorem sc_product : FnScope ["a", "b"] ["a", "b"] (defScope s_product) := ⟨rfl, rfl, rfl, by decide +kernel, rfl, by decide +kernel, by decide +kernel⟩
set_option maxHeartbeats 4000000 in
theorem ok_product (T : Txt tx K mg) : Cal P w K mg base (clN tx.ex K) "product" ["a", "b"] 3 d_product := by
  refine Cal.close <| cal_of (N := ["a", "b"]) (ps := ["a", "b"]) (n := 2) (j := 0) T 15 (by rfl) (T.glo 29) rfl rfl sc_product rfl rfl (fun _ _ _ _ _ _ us hl => match us, hl with | [_, _], _ => rfl) (fun f cdv A outer s H E hr tk hp => ?_)
  exact qss_one (qs_ret (qe_callC (ok_made T) hr tk (qa_cons (qe_bin op_mulA od_mul (qe_ix ix_seq od_ix (qe_var 0) qe_int (fun _ _ => rfl)) (qe_ix ix_seq od_ix (qe_var 1) qe_int (fun _ _ => rfl))) (qa_cons (qe_bin op_mulA od_mul (qe_ix ix_seq od_ix (qe_var 0) qe_int (fun _ _ => rfl)) (qe_ix ix_seq od_ix (qe_var 1) qe_int (fun _ _ => rfl))) qa_nil)) (by decide)))
abbrev s_size_of : Stmt := topS 16
theorem sc_size_of : FnScope ["a"] ["a"] (defScope s_size_of) := ⟨rfl, rfl, rfl, by decide +kernel, rfl, by decide +kernel, by decide +kernel⟩
set_option maxHeartbeats 4000000 in
theorem ok_size_of (T : Txt tx K mg) : Cal P w K mg base (clN tx.ex K) "size_of" ["a"] 1 d_size_of := by
  refine Cal.close <| cal_of (N := ["a"]) (ps := ["a"]) (n := 1) (j := 0) T 16 (by rfl) (T.glo 30) rfl rfl sc_size_of rfl rfl (fun _ _ _ _ _ _ us hl => match us, hl with | [_], _ => rfl) (fun f cdv A outer s H E hr tk hp => ?_)
  exact qss_one (qs_ret (qe_tup (qa_cons (qe_callB call_abs on_abs (by rfl) (T.free 0) (by decide +kernel) (qa_cons (qe_ix ix_seq od_ix (qe_var 0) qe_int (fun _ _ => rfl)) qa_nil)) (qa_cons (qe_ix ix_seq od_ix (qe_var 0) qe_int (fun _ _ => rfl)) qa_nil))))
abbrev s_is_close : Stmt := topS 25
theorem sc_is_close : FnScope ["curve", "start", "end", "bound", "slope", "point", "told", "x", "y", "other", "there"] ["curve", "start", "end", "bound"] (defScope s_is_close) := ⟨rfl, rfl, rfl, by decide +kernel, rfl, by decide +kernel, by decide +kernel⟩
set_option maxHeartbeats 4000000 in
theorem ok_is_close (T : Txt tx K mg) : Cal P w K mg base (clN tx.ex K) "is_close" ["curve", "start", "end", "bound"] 4 d_is_close := by
  refine Cal.close <| cal_of (N := ["curve", "start", "end", "bound", "slope", "point", "told", "x", "y", "other", "there"]) (ps := ["curve", "start", "end", "bound"]) (n := 4) (j := 7) T 17 (by rfl) (T.glo 31) rfl rfl sc_is_close rfl rfl (fun _ _ _ _ _ _ us hl => match us, hl with | [_, _, _, _], _ => rfl) (fun f cdv A outer s H E hr tk hp => ?_)
  exact qss_cons (qs_asg (qe_tup (qa_cons (qe_ix ix_seq od_ix (qe_var 0) (qe_var 1) (fun _ _ => rfl)) (qa_cons (qe_ix ix_seq od_ix (qe_var 0) (qe_var 2) (fun _ _ => rfl)) qa_nil))) (qg_tup rfl (qgs_cons (qg_tup rfl (qgs_cons (qg_name 7 sc_is_close.nd) (qgs_cons (qg_name 8 sc_is_close.nd) (qgs_nil (is := []))))) (qgs_cons (qg_tup rfl (qgs_cons (qg_name 9 sc_is_close.nd) (qgs_cons (qg_name 10 sc_is_close.nd) (qgs_nil (is := []))))) (qgs_nil (is := []))))))
        (qss_cons (qs_set 4 sc_is_close.nd (qe_callC (ok_share T) hr tk (qa_cons (qe_callC (ok_less T) hr tk (qa_cons (qe_var 10) (qa_cons (qe_var 8) qa_nil)) (by decide)) (qa_cons (qe_callC (ok_less T) hr tk (qa_cons (qe_var 9) (qa_cons (qe_var 7) qa_nil)) (by decide)) qa_nil)) (by decide)))
        (qss_cons (qs_for hp rfl (qi_data (qe_slice (qe_var 0) (qo_some (qe_bin op_addA od_add (qe_var 1) qe_int)) (qo_some (qe_var 2)))) (qg_name 5 sc_is_close.nd) (qss_cons (qs_set 6 sc_is_close.nd (qe_callC (ok_add T) hr tk (qa_cons (qe_var 8) (qa_cons (qe_callC (ok_product T) hr tk (qa_cons (qe_var 4) (qa_cons (qe_callC (ok_less T) hr tk (qa_cons (qe_ix ix_seq od_ix (qe_var 5) qe_int (fun _ _ => rfl)) (qa_cons (qe_var 7) qa_nil)) (by decide)) qa_nil)) (by decide)) qa_nil)) (by decide)))
        (qss_one (qs_if (qt_val (qe_callC (ok_is_below T) hr tk (qa_cons (qe_var 3) (qa_cons (qe_callC (ok_size_of T) hr tk (qa_cons (qe_callC (ok_less T) hr tk (qa_cons (qe_var 6) (qa_cons (qe_ix ix_seq od_ix (qe_var 5) qe_int (fun _ _ => rfl)) qa_nil)) (by decide)) qa_nil) (by decide)) qa_nil)) (by decide))) (qss_one (qs_ret qe_bl)) qss_nil))))
        (qss_one (qs_ret qe_bl))))
abbrev s_made_small : Stmt := topS 26
theorem sc_made_small : FnScope ["curve", "bound", "last", "at", "ways", "counts", "found", "_", "there"] ["curve", "bound"] (defScope s_made_small) := ⟨rfl, rfl, rfl, by decide +kernel, rfl, by decide +kernel, by decide +kernel⟩
set_option maxHeartbeats 4000000 in
theorem ok_made_small (T : Txt tx K mg) : Cal P w K mg base (clN tx.ex K) "made_small" ["curve", "bound"] 5 d_made_small := by
  refine Cal.close <| cal_of (N := ["curve", "bound", "last", "at", "ways", "counts", "found", "_", "there"]) (ps := ["curve", "bound"]) (n := 2) (j := 7) T 18 (by rfl) (T.glo 32) rfl rfl sc_made_small rfl rfl (fun _ _ _ _ _ _ us hl => match us, hl with | [_, _], _ => rfl) (fun f cdv A outer s H E hr tk hp => ?_)
  exact qss_cons (qs_expr (qe_callC (ok_check T) hr tk (qa_cons (qe_callC (ok_is_curve T) hr tk (qa_cons (qe_var 0) qa_nil) (by decide)) qa_nil) (by decide)))
        (qss_cons (qs_expr (qe_callC (ok_check_bound T) hr tk (qa_cons (qe_var 1) qa_nil) (by decide)))
        (qss_cons (qs_set 2 sc_made_small.nd (qe_bin op_sub od_sub (qe_callB call_lenA on_len (by rfl) (T.free 3) (by decide +kernel) (qa_cons (qe_var 0) qa_nil)) qe_int))
        (qss_cons (qs_parG (is := [4, 5]) rfl (qa_cons (qe_lcC [("_", 7)] rfl sc_made_small.nd (by decide) (qi_data (qe_var 0)) (blkOk_by (N := ["curve", "bound", "last", "at", "ways", "counts", "found", "_", "there"]) (sc := defScope s_made_small) (by decide +kernel)) (fun _ _ _ _ _ => qg_name 7 sc_made_small.nd) (fun _ _ _ _ _ => qts_nil) (fun _ _ _ _ _ => qe_lstD qa_nil)) (qa_cons (qe_binC op_rep ol_rep (qe_lstD (qa_cons qe_int qa_nil)) (qe_callB call_lenA on_len (by rfl) (T.free 3) (by decide +kernel) (qa_cons (qe_var 0) qa_nil))) qa_nil)) (pgs_cons (pg_name (i := 4) sc_made_small.nd (by rfl) (by first | exact Or.inl rfl | exact Or.inr rfl)) (pgs_cons (pg_name (i := 5) sc_made_small.nd (by rfl) (by first | exact Or.inl rfl | exact Or.inr rfl)) pgs_nil)))
        (qss_cons (qs_for hp rfl (qi_rngDown (by rfl) (T.free 2) (qa_cons (qe_bin op_sub od_sub (qe_var 2) qe_int) (qa_cons (qe_un un_neg o1_neg qe_int) (qa_cons (qe_un un_neg o1_neg qe_int) qa_nil)))) (qg_name 3 sc_made_small.nd) (qss_cons (qs_setIx (qe_lc [("there", 8)] rfl sc_made_small.nd (by decide) (qi_rng2 (by rfl) (T.free 2) (qa_cons (qe_bin op_addA od_add (qe_var 3) qe_int) (qa_cons (qe_bin op_addA od_add (qe_var 2) qe_int) qa_nil))) (blkOk_by (N := ["curve", "bound", "last", "at", "ways", "counts", "found", "_", "there"]) (sc := defScope s_made_small) (by decide +kernel)) (fun _ _ _ _ _ => qg_name 8 sc_made_small.nd) (fun _ _ _ _ _ => qts_one (qt_val (qe_callC (ok_is_close T) hr takes0 (qa_cons (qe_var 0) (qa_cons (qe_var 3) (qa_cons (qe_var 8) (qa_cons (qe_var 1) qa_nil)))) (by decide)))) (fun _ _ _ _ _ => qe_var 8)) (qe_var 4) (qe_var 3))
        (qss_one (qs_setIx (qe_bin op_addA od_add qe_int (qe_callB (cr_min rfl) on_min (by rfl) (T.free 11) (by decide +kernel) (qa_cons (qe_lc [("there", 8)] rfl sc_made_small.nd (by decide) (qi_data (qe_ix ix_seq od_ix (qe_var 4) (qe_var 3) (fun _ _ => rfl))) (blkOk_by (N := ["curve", "bound", "last", "at", "ways", "counts", "found", "_", "there"]) (sc := defScope s_made_small) (by decide +kernel)) (fun _ _ _ _ _ => qg_name 8 sc_made_small.nd) (fun _ _ _ _ _ => qts_nil) (fun _ _ _ _ _ => qe_ix ix_seq od_ix (qe_var 5) (qe_var 8) (fun _ _ => rfl))) qa_nil))) (qe_var 5) (qe_var 3)))))
        (qss_cons (qs_parG (is := [6, 3]) rfl (qa_cons (qe_lstC (qa_cons (qe_ix ix_seq od_ix (qe_var 0) qe_int (fun _ _ => rfl)) qa_nil)) (qa_cons qe_int qa_nil)) (pgs_cons (pg_name (i := 6) sc_made_small.nd (by rfl) (by first | exact Or.inl rfl | exact Or.inr rfl)) (pgs_cons (pg_name (i := 3) sc_made_small.nd (by rfl) (by first | exact Or.inl rfl | exact Or.inr rfl)) pgs_nil)))
        (qss_cons (qs_while hp (qt_cmp op_lt od_lt b2_lt (qe_var 3) (qe_var 2) (nomark _)) (qss_cons (qs_set 3 sc_made_small.nd (qe_ix ix_seq od_ix (qe_lc [("there", 8)] rfl sc_made_small.nd (by decide) (qi_data (qe_ix ix_seq od_ix (qe_var 4) (qe_var 3) (fun _ _ => rfl))) (blkOk_by (N := ["curve", "bound", "last", "at", "ways", "counts", "found", "_", "there"]) (sc := defScope s_made_small) (by decide +kernel)) (fun _ _ _ _ _ => qg_name 8 sc_made_small.nd) (fun _ _ _ _ _ => qts_one (qt_cmp (op_eqD hr.units) od_eq b2_eq (qe_ix ix_seq od_ix (qe_var 5) (qe_var 8) (fun _ _ => rfl)) (qe_bin op_sub od_sub (qe_ix ix_seq od_ix (qe_var 5) (qe_var 3) (fun _ _ => rfl)) qe_int) (nomark _))) (fun _ _ _ _ _ => qe_var 8)) qe_int (fun _ _ => rfl)))
        (qss_one (qs_expr (qe_append (qe_var 6) (qe_ix ix_seq od_ix (qe_var 0) (qe_var 3) (fun _ _ => rfl)))))))
        (qss_one (qs_ret (qe_callTy call_tuple_of on_tuple (by rfl) (T.free 8) (by decide +kernel) (qa_cons (qe_var 6) qa_nil))))))))))
abbrev s_curve_by : Stmt := topS 21
theorem sc_curve_by : FnScope ["curve", "a", "x", "y", "far", "high"] ["curve", "a"] (defScope s_curve_by) := ⟨rfl, rfl, rfl, by decide +kernel, rfl, by decide +kernel, by decide +kernel⟩
set_option maxHeartbeats 4000000 in
theorem ok_curve_by (T : Txt tx K mg) : Cal P w K mg base (clN tx.ex K) "curve_by" ["curve", "a"] 4 d_curve_by := by
  refine Cal.close <| cal_of (N := ["curve", "a", "x", "y", "far", "high"]) (ps := ["curve", "a"]) (n := 2) (j := 4) T 19 (by rfl) (T.glo 33) rfl rfl sc_curve_by rfl rfl (fun _ _ _ _ _ _ us hl => match us, hl with | [_, _], _ => rfl) (fun f cdv A outer s H E hr tk hp => ?_)
  exact qss_cons (qs_if (qt_not (qt_val (qe_callC (ok_is_below T) hr tk (qa_cons (qe_ix ix_seq od_ix (qe_ix ix_seq od_ix (qe_var 0) qe_int (fun _ _ => rfl)) qe_int (fun _ _ => rfl)) (qa_cons (qe_var 1) qa_nil)) (by decide)))) (qss_one (qs_ret (qe_ix ix_seq od_ix (qe_ix ix_seq od_ix (qe_var 0) qe_int (fun _ _ => rfl)) qe_int (fun _ _ => rfl)))) qss_nil)
        (qss_cons (qs_for hp rfl (qi_zip (by rfl) (T.free 10) (qa_cons (qe_var 0) (qa_cons (qe_slice (qe_var 0) (qo_some qe_int) qo_none) qa_nil))) (qg_tup rfl (qgs_cons (qg_tup rfl (qgs_cons (qg_name 2 sc_curve_by.nd) (qgs_cons (qg_name 3 sc_curve_by.nd) (qgs_nil (is := []))))) (qgs_cons (qg_tup rfl (qgs_cons (qg_name 4 sc_curve_by.nd) (qgs_cons (qg_name 5 sc_curve_by.nd) (qgs_nil (is := []))))) (qgs_nil (is := []))))) (qss_one (qs_if (qt_not (qt_val (qe_callC (ok_is_below T) hr tk (qa_cons (qe_var 4) (qa_cons (qe_var 1) qa_nil)) (by decide)))) (qss_one (qs_ret (qe_callC (ok_add T) hr tk (qa_cons (qe_var 3) (qa_cons (qe_callC (ok_product T) hr tk (qa_cons (qe_callC (ok_share T) hr tk (qa_cons (qe_callC (ok_less T) hr tk (qa_cons (qe_var 1) (qa_cons (qe_var 2) qa_nil)) (by decide)) (qa_cons (qe_callC (ok_less T) hr tk (qa_cons (qe_var 4) (qa_cons (qe_var 2) qa_nil)) (by decide)) qa_nil)) (by decide)) (qa_cons (qe_callC (ok_less T) hr tk (qa_cons (qe_var 5) (qa_cons (qe_var 3) qa_nil)) (by decide)) qa_nil)) (by decide)) qa_nil)) (by decide)))) qss_nil)))
        (qss_one (qs_ret (qe_ix ix_seq od_ix (qe_ix ix_seq od_ix (qe_var 0) (qe_un un_neg o1_neg qe_int) (fun _ _ => rfl)) qe_int (fun _ _ => rfl)))))
abbrev s_fault_of_curve : Stmt := topS 27
theorem sc_fault_of_curve : FnScope ["curve", "other", "best", "found", "x", "_", "fault"] ["curve", "other"] (defScope s_fault_of_curve) := ⟨rfl, rfl, rfl, by decide +kernel, rfl, by decide +kernel, by decide +kernel⟩
set_option maxHeartbeats 4000000 in
theorem ok_fault_of_curve (T : Txt tx K mg) : Cal P w K mg base (clN tx.ex K) "fault_of_curve" ["curve", "other"] 5 d_fault_of_curve := by
  refine Cal.close <| cal_of (N := ["curve", "other", "best", "found", "x", "_", "fault"]) (ps := ["curve", "other"]) (n := 2) (j := 5) T 20 (by rfl) (T.glo 34) rfl rfl sc_fault_of_curve rfl rfl (fun _ _ _ _ _ _ us hl => match us, hl with | [_, _], _ => rfl) (fun f cdv A outer s H E hr tk hp => ?_)
  exact qss_cons (qs_expr (qe_callC (ok_check T) hr tk (qa_cons (qe_callC (ok_is_curve T) hr tk (qa_cons (qe_var 0) qa_nil) (by decide)) qa_nil) (by decide)))
        (qss_cons (qs_expr (qe_callC (ok_check T) hr tk (qa_cons (qe_callC (ok_is_curve T) hr tk (qa_cons (qe_var 1) qa_nil) (by decide)) qa_nil) (by decide)))
        (qss_cons (qs_par 2 3 rfl sc_fault_of_curve.nd (qa_cons (qe_const (T.cons 0)) (qa_cons (qe_const (T.cons 0)) qa_nil)) (by rfl) (by rfl) (by decide) (by rfl) (by rfl) (by rfl))
        (qss_cons (qs_for hp rfl (qi_data (qe_tup (qa_star (qe_var 0) (qa_star (qe_var 1) qa_nil)))) (qg_tup rfl (qgs_cons (qg_name 4 sc_fault_of_curve.nd) (qgs_cons (qg_name 5 sc_fault_of_curve.nd) (qgs_nil (is := []))))) (qss_cons (qs_set 6 sc_fault_of_curve.nd (qe_callC (ok_size_of T) hr tk (qa_cons (qe_callC (ok_less T) hr tk (qa_cons (qe_callC (ok_curve_by T) hr tk (qa_cons (qe_var 0) (qa_cons (qe_var 4) qa_nil)) (by decide)) (qa_cons (qe_callC (ok_curve_by T) hr tk (qa_cons (qe_var 1) (qa_cons (qe_var 4) qa_nil)) (by decide)) qa_nil)) (by decide)) qa_nil) (by decide)))
        (qss_one (qs_if (PW.pt (qw_or (qt_val (qe_callC (ok_is_below T) hr tk (qa_cons (qe_var 2) (qa_cons (qe_var 6) qa_nil)) (by decide))) (qw_or1 (PW.pt (qw_and (qt_cmp (op_eqD hr.units) od_eq b2_eq (qe_var 6) (qe_var 2) (nomark _)) (qw_and1 (qt_val (qe_callC (ok_is_below T) hr tk (qa_cons (qe_var 4) (qa_cons (qe_var 3) qa_nil)) (by decide))))))))) (qss_one (qs_par 2 3 rfl sc_fault_of_curve.nd (qa_cons (qe_var 6) (qa_cons (qe_var 4) qa_nil)) (by rfl) (by rfl) (by decide) (by rfl) (by rfl) (by rfl))) qss_nil))))
        (qss_one (qs_ret (qe_tup (qa_cons (qe_var 2) (qa_cons (qe_var 3) qa_nil))))))))
abbrev s_u_law_told : Stmt := topS 38
theorem sc_u_law_told : FnScope ["which", "curve", "other"] ["which", "curve", "other"] (defScope s_u_law_told) := ⟨rfl, rfl, rfl, by decide +kernel, rfl, by decide +kernel, by decide +kernel⟩
set_option maxHeartbeats 4000000 in
theorem ok_u_law_told (T : Txt tx K mg) : Cal P w K mg base (clN tx.ex K) "_law_told" ["which", "curve", "other"] 6 d_u_law_told := by
  refine Cal.close <| cal_of (N := ["which", "curve", "other"]) (ps := ["which", "curve", "other"]) (n := 3) (j := 0) T 21 (by rfl) (T.glo 35) rfl rfl sc_u_law_told rfl rfl (fun _ _ _ _ _ _ us hl => match us, hl with | [_, _, _], _ => rfl) (fun f cdv A outer s H E hr tk hp => ?_)
  exact qss_one (qs_try (hs := [(1, retM (tupM (aCons (cst (.str "refused")) (aCons (cst (.str "not right")) aNil)))), (0, retM (tupM (aCons (cst (.str "refused")) (aCons (cst (.str "other")) aNil))))]) rfl rfl tk (T.exm (by decide)) (fun W pn xe tk hp => qss_one (qs_ret (qe_ifE (qt_cmp (op_eqD hr.units) od_eq b2_eq (qe_var 0) qe_int (nomark _)) (qe_callC (ok_made_small T) hr tk (qa_cons (qe_var 1) (qa_cons (qe_var 2) qa_nil)) (by decide)) (qe_callC (ok_fault_of_curve T) hr tk (qa_cons (qe_var 1) (qa_cons (qe_var 2) qa_nil)) (by decide))))) (HdsOk.cons ⟨rfl, by decide, .inl (T.glo 12)⟩ (fun _ _ _ _ _ _ _ => qss_one (qs_ret (qe_tup (qa_cons qe_str (qa_cons qe_str qa_nil))))) (HdsOk.cons ⟨rfl, by decide, .inl (T.glo 13)⟩ (fun _ _ _ _ _ _ _ => qss_one (qs_ret (qe_tup (qa_cons qe_str (qa_cons qe_str qa_nil))))) HdsOk.nil)))
abbrev s_u_law_r : Stmt := topS 32
theorem sc_u_law_r : FnScope ["n", "d", "turn", "a", "b"] ["n", "d"] (defScope s_u_law_r) := ⟨rfl, rfl, rfl, by decide +kernel, rfl, by decide +kernel, by decide +kernel⟩
set_option maxHeartbeats 4000000 in
theorem ok_u_law_r (T : Txt tx K mg) : Cal P w K mg base (clN tx.ex K) "_law_r" ["n", "d"] 1 d_u_law_r := by
  refine Cal.close <| cal_of (N := ["n", "d", "turn", "a", "b"]) (ps := ["n", "d"]) (n := 2) (j := 3) T 22 (by rfl) (T.glo 36) rfl rfl sc_u_law_r rfl rfl (fun _ _ _ _ _ _ us hl => match us, hl with | [_, _], _ => rfl) (fun f cdv A outer s H E hr tk hp => ?_)
  exact qss_cons (qs_par 3 4 rfl sc_u_law_r.nd (qa_cons (qe_callB call_abs on_abs (by rfl) (T.free 0) (by decide +kernel) (qa_cons (qe_var 0) qa_nil)) (qa_cons (qe_callB call_abs on_abs (by rfl) (T.free 0) (by decide +kernel) (qa_cons (qe_var 1) qa_nil)) qa_nil)) (by rfl) (by rfl) (by decide) (by rfl) (by rfl) (by rfl))
        (qss_cons (qs_for hp rfl (qi_rng1 (by rfl) (T.free 2) (qa_cons qe_int qa_nil)) (qg_name 2 sc_u_law_r.nd) (qss_cons (qs_if (qt_cmp (op_eqD hr.units) od_eq b2_eq (qe_var 4) qe_int (nomark _)) (qss_one qs_break) qss_nil)
        (qss_one (qs_par 3 4 rfl sc_u_law_r.nd (qa_cons (qe_var 4) (qa_cons (qe_bin op_mod od_mod (qe_callTy call_int1 on_int (by rfl) (T.free 1) (by decide +kernel) (qa_cons (qe_var 3) qa_nil)) (qe_var 4)) qa_nil)) (by rfl) (by rfl) (by decide) (by rfl) (by rfl) (by rfl)))))
        (qss_one (qs_ret (qe_ifE (qt_cmp op_gt od_gt b2_gt (qe_var 1) qe_int (nomark _)) (qe_tup (qa_cons (qe_bin op_fdivW od_fdiv (qe_var 0) (qe_var 3)) (qa_cons (qe_bin op_fdivW od_fdiv (qe_var 1) (qe_var 3)) qa_nil))) (qe_tup (qa_cons (qe_bin op_sub od_sub qe_int (qe_bin op_fdivW od_fdiv (qe_var 0) (qe_var 3))) (qa_cons (qe_bin op_sub od_sub qe_int (qe_bin op_fdivW od_fdiv (qe_var 1) (qe_var 3))) qa_nil)))))))
abbrev s_u_law_mul : Stmt := topS 35
theorem sc_u_law_mul : FnScope ["a", "b"] ["a", "b"] (defScope s_u_law_mul) := ⟨rfl, rfl, rfl, by decide +kernel, rfl, by decide +kernel, by decide +kernel⟩
set_option maxHeartbeats 4000000 in
theorem ok_u_law_mul (T : Txt tx K mg) : Cal P w K mg base (clN tx.ex K) "_law_mul" ["a", "b"] 2 d_u_law_mul := by
  refine Cal.close <| cal_of (N := ["a", "b"]) (ps := ["a", "b"]) (n := 2) (j := 0) T 23 (by rfl) (T.glo 37) rfl rfl sc_u_law_mul rfl rfl (fun _ _ _ _ _ _ us hl => match us, hl with | [_, _], _ => rfl) (fun f cdv A outer s H E hr tk hp => ?_)
  exact qss_one (qs_ret (qe_callC (ok_u_law_r T) hr tk (qa_cons (qe_bin op_mulA od_mul (qe_ix ix_seq od_ix (qe_var 0) qe_int (fun _ _ => rfl)) (qe_ix ix_seq od_ix (qe_var 1) qe_int (fun _ _ => rfl))) (qa_cons (qe_bin op_mulA od_mul (qe_ix ix_seq od_ix (qe_var 0) qe_int (fun _ _ => rfl)) (qe_ix ix_seq od_ix (qe_var 1) qe_int (fun _ _ => rfl))) qa_nil)) (by decide)))
abbrev s_u_law_add : Stmt := topS 33
theorem sc_u_law_add : FnScope ["a", "b"] ["a", "b"] (defScope s_u_law_add) := ⟨rfl, rfl, rfl, by decide +kernel, rfl, by decide +kernel, by decide +kernel⟩
set_option maxHeartbeats 4000000 in
theorem ok_u_law_add (T : Txt tx K mg) : Cal P w K mg base (clN tx.ex K) "_law_add" ["a", "b"] 2 d_u_law_add := by
  refine Cal.close <| cal_of (N := ["a", "b"]) (ps := ["a", "b"]) (n := 2) (j := 0) T 24 (by rfl) (T.glo 38) rfl rfl sc_u_law_add rfl rfl (fun _ _ _ _ _ _ us hl => match us, hl with | [_, _], _ => rfl) (fun f cdv A outer s H E hr tk hp => ?_)
  exact qss_one (qs_ret (qe_callC (ok_u_law_r T) hr tk (qa_cons (qe_bin op_addA od_add (qe_bin op_mulA od_mul (qe_ix ix_seq od_ix (qe_var 0) qe_int (fun _ _ => rfl)) (qe_ix ix_seq od_ix (qe_var 1) qe_int (fun _ _ => rfl))) (qe_bin op_mulA od_mul (qe_ix ix_seq od_ix (qe_var 1) qe_int (fun _ _ => rfl)) (qe_ix ix_seq od_ix (qe_var 0) qe_int (fun _ _ => rfl)))) (qa_cons (qe_bin op_mulA od_mul (qe_ix ix_seq od_ix (qe_var 0) qe_int (fun _ _ => rfl)) (qe_ix ix_seq od_ix (qe_var 1) qe_int (fun _ _ => rfl))) qa_nil)) (by decide)))
abbrev s_u_law_less : Stmt := topS 36
theorem sc_u_law_less : FnScope ["a", "b"] ["a", "b"] (defScope s_u_law_less) := ⟨rfl, rfl, rfl, by decide +kernel, rfl, by decide +kernel, by decide +kernel⟩
set_option maxHeartbeats 4000000 in
theorem ok_u_law_less (T : Txt tx K mg) : Cal P w K mg base (clN tx.ex K) "_law_less" ["a", "b"] 1 d_u_law_less := by
  refine Cal.close <| cal_of (N := ["a", "b"]) (ps := ["a", "b"]) (n := 2) (j := 0) T 25 (by rfl) (T.glo 39) rfl rfl sc_u_law_less rfl rfl (fun _ _ _ _ _ _ us hl => match us, hl with | [_, _], _ => rfl) (fun f cdv A outer s H E hr tk hp => ?_)
  exact qss_one (qs_ret (qe_cmp op_lt od_lt (qe_bin op_mulA od_mul (qe_ix ix_seq od_ix (qe_var 0) qe_int (fun _ _ => rfl)) (qe_ix ix_seq od_ix (qe_var 1) qe_int (fun _ _ => rfl))) (qe_bin op_mulA od_mul (qe_ix ix_seq od_ix (qe_var 1) qe_int (fun _ _ => rfl)) (qe_ix ix_seq od_ix (qe_var 0) qe_int (fun _ _ => rfl))) (nomark _)))
abbrev s_u_law_long_curve : Stmt := topS 39
theorem sc_u_law_long_curve : FnScope ["draws", "xs", "kind", "ys", "x"] ["draws"] (defScope s_u_law_long_curve) := ⟨rfl, rfl, rfl, by decide +kernel, rfl, by decide +kernel, by decide +kernel⟩
set_option maxHeartbeats 4000000 in
theorem ok_u_law_long_curve (T : Txt tx K mg) : Cal P w K mg base (clN tx.ex K) "_law_long_curve" ["draws"] 3 d_u_law_long_curve := by
  refine Cal.close <| cal_of (N := ["draws", "xs", "kind", "ys", "x"]) (ps := ["draws"]) (n := 1) (j := 4) T 26 (by rfl) (T.glo 40) rfl rfl sc_u_law_long_curve rfl rfl (fun _ _ _ _ _ _ us hl => match us, hl with | [_], _ => rfl) (fun f cdv A outer s H E hr tk hp => ?_)
  exact qss_cons (qs_set 1 sc_u_law_long_curve.nd (qe_lstD (qa_cons (qe_tup (qa_cons qe_int (qa_cons qe_int qa_nil))) (qa_cons (qe_tup (qa_cons qe_int (qa_cons qe_int qa_nil))) (qa_cons (qe_tup (qa_cons qe_int (qa_cons qe_int qa_nil))) (qa_cons (qe_tup (qa_cons qe_int (qa_cons qe_int qa_nil))) (qa_cons (qe_tup (qa_cons qe_int (qa_cons qe_int qa_nil))) (qa_cons (qe_tup (qa_cons qe_int (qa_cons qe_int qa_nil))) (qa_cons (qe_tup (qa_cons qe_int (qa_cons qe_int qa_nil))) (qa_cons (qe_tup (qa_cons qe_int (qa_cons qe_int qa_nil))) qa_nil))))))))))
        (qss_cons (qs_set 1 sc_u_law_long_curve.nd (qe_bin op_addA od_add (qe_bin op_addA od_add (qe_lstD (qa_cons (qe_tup (qa_cons qe_int (qa_cons qe_int qa_nil))) qa_nil)) (qe_lc [("x", 4)] rfl sc_u_law_long_curve.nd (by decide) (qi_data (qe_slice (qe_var 1) (qo_some qe_int) qo_none)) (blkOk_by (N := ["draws", "xs", "kind", "ys", "x"]) (sc := defScope s_u_law_long_curve) (by decide +kernel)) (fun _ _ _ _ _ => qg_name 4 sc_u_law_long_curve.nd) (fun _ _ _ _ _ => qts_one (qt_cmp op_lt od_lt b2_lt (qe_callC (ok_u_law_take T) hr takes0 (qa_cons (qe_var 0) (qa_cons qe_int qa_nil)) (by decide)) qe_int (nomark _))) (fun _ _ _ _ _ => qe_var 4))) (qe_lstD (qa_cons (qe_tup (qa_cons qe_int (qa_cons qe_int qa_nil))) qa_nil))))
        (qss_cons (qs_set 2 sc_u_law_long_curve.nd (qe_callC (ok_u_law_take T) hr tk (qa_cons (qe_var 0) (qa_cons qe_int qa_nil)) (by decide)))
        (qss_cons (qs_if (qt_cmp (op_eqD hr.units) od_eq b2_eq (qe_var 2) qe_int (nomark _)) (qss_one (qs_ret (qe_callTy call_tuple_of on_tuple (by rfl) (T.free 8) (by decide +kernel) (qa_cons (qe_lc [("x", 4)] rfl sc_u_law_long_curve.nd (by decide) (qi_data (qe_var 1)) (blkOk_by (N := ["draws", "xs", "kind", "ys", "x"]) (sc := defScope s_u_law_long_curve) (by decide +kernel)) (fun _ _ _ _ _ => qg_name 4 sc_u_law_long_curve.nd) (fun _ _ _ _ _ => qts_nil) (fun _ _ _ _ _ => qe_tup (qa_cons (qe_var 4) (qa_cons (qe_callC (ok_u_law_mul T) hr takes0 (qa_cons (qe_var 4) (qa_cons (qe_tup (qa_cons qe_int (qa_cons qe_int qa_nil))) qa_nil)) (by decide)) qa_nil)))) qa_nil)))) qss_nil)
        (qss_cons (qs_if (qt_cmp (op_eqD hr.units) od_eq b2_eq (qe_var 2) qe_int (nomark _)) (qss_one (qs_ret (qe_callTy call_tuple_of on_tuple (by rfl) (T.free 8) (by decide +kernel) (qa_cons (qe_lc [("x", 4)] rfl sc_u_law_long_curve.nd (by decide) (qi_data (qe_var 1)) (blkOk_by (N := ["draws", "xs", "kind", "ys", "x"]) (sc := defScope s_u_law_long_curve) (by decide +kernel)) (fun _ _ _ _ _ => qg_name 4 sc_u_law_long_curve.nd) (fun _ _ _ _ _ => qts_nil) (fun _ _ _ _ _ => qe_tup (qa_cons (qe_var 4) (qa_cons (qe_ifE (qt_val (qe_callC (ok_u_law_less T) hr takes0 (qa_cons (qe_var 4) (qa_cons (qe_tup (qa_cons qe_int (qa_cons qe_int qa_nil))) qa_nil)) (by decide))) (qe_var 4) (qe_tup (qa_cons qe_int (qa_cons qe_int qa_nil)))) qa_nil)))) qa_nil)))) qss_nil)
        (qss_cons (qs_set 3 sc_u_law_long_curve.nd (qe_lstD (qa_cons (qe_tup (qa_cons qe_int (qa_cons qe_int qa_nil))) (qa_cons (qe_tup (qa_cons qe_int (qa_cons qe_int qa_nil))) (qa_cons (qe_tup (qa_cons qe_int (qa_cons qe_int qa_nil))) (qa_cons (qe_tup (qa_cons qe_int (qa_cons qe_int qa_nil))) (qa_cons (qe_tup (qa_cons (qe_un un_neg o1_neg qe_int) (qa_cons qe_int qa_nil))) (qa_cons (qe_tup (qa_cons qe_int (qa_cons qe_int qa_nil))) (qa_cons (qe_tup (qa_cons qe_int (qa_cons qe_int qa_nil))) (qa_cons (qe_tup (qa_cons qe_int (qa_cons qe_int qa_nil))) qa_nil))))))))))
        (qss_one (qs_ret (qe_callTy call_tuple_of on_tuple (by rfl) (T.free 8) (by decide +kernel) (qa_cons (qe_lc [("x", 4)] rfl sc_u_law_long_curve.nd (by decide) (qi_data (qe_var 1)) (blkOk_by (N := ["draws", "xs", "kind", "ys", "x"]) (sc := defScope s_u_law_long_curve) (by decide +kernel)) (fun _ _ _ _ _ => qg_name 4 sc_u_law_long_curve.nd) (fun _ _ _ _ _ => qts_nil) (fun _ _ _ _ _ => qe_tup (qa_cons (qe_var 4) (qa_cons (qe_ifE (qt_cmp (op_eqD hr.units) od_eq b2_eq (qe_var 2) qe_int (nomark _)) (qe_callC (ok_u_law_add T) hr takes0 (qa_cons (qe_var 4) (qa_cons (qe_callC (ok_u_law_mul T) hr takes0 (qa_cons (qe_callC (ok_u_law_pick T) hr takes0 (qa_cons (qe_var 0) (qa_cons (qe_var 3) qa_nil)) (by decide)) (qa_cons (qe_tup (qa_cons qe_int (qa_cons qe_int qa_nil))) qa_nil)) (by decide)) qa_nil)) (by decide)) (qe_callC (ok_u_law_pick T) hr takes0 (qa_cons (qe_var 0) (qa_cons (qe_var 3) qa_nil)) (by decide))) qa_nil)))) qa_nil)))))))))
abbrev s_u_law_sub : Stmt := topS 34
theorem sc_u_law_sub : FnScope ["a", "b"] ["a", "b"] (defScope s_u_law_sub) := ⟨rfl, rfl, rfl, by decide +kernel, rfl, by decide +kernel, by decide +kernel⟩
set_option maxHeartbeats 4000000 in
theorem ok_u_law_sub (T : Txt tx K mg) : Cal P w K mg base (clN tx.ex K) "_law_sub" ["a", "b"] 2 d_u_law_sub := by
  refine Cal.close <| cal_of (N := ["a", "b"]) (ps := ["a", "b"]) (n := 2) (j := 0) T 27 (by rfl) (T.glo 41) rfl rfl sc_u_law_sub rfl rfl (fun _ _ _ _ _ _ us hl => match us, hl with | [_, _], _ => rfl) (fun f cdv A outer s H E hr tk hp => ?_)
  exact qss_one (qs_ret (qe_callC (ok_u_law_r T) hr tk (qa_cons (qe_bin op_sub od_sub (qe_bin op_mulA od_mul (qe_ix ix_seq od_ix (qe_var 0) qe_int (fun _ _ => rfl)) (qe_ix ix_seq od_ix (qe_var 1) qe_int (fun _ _ => rfl))) (qe_bin op_mulA od_mul (qe_ix ix_seq od_ix (qe_var 1) qe_int (fun _ _ => rfl)) (qe_ix ix_seq od_ix (qe_var 0) qe_int (fun _ _ => rfl)))) (qa_cons (qe_bin op_mulA od_mul (qe_ix ix_seq od_ix (qe_var 0) qe_int (fun _ _ => rfl)) (qe_ix ix_seq od_ix (qe_var 1) qe_int (fun _ _ => rfl))) qa_nil)) (by decide)))
abbrev s_u_law_on_curve : Stmt := topS 37
theorem sc_u_law_on_curve : FnScope ["curve", "a", "k", "x", "y", "u", "v", "top", "wide"] ["curve", "a"] (defScope s_u_law_on_curve) := ⟨rfl, rfl, rfl, by decide +kernel, rfl, by decide +kernel, by decide +kernel⟩
set_option maxHeartbeats 4000000 in
theorem ok_u_law_on_curve (T : Txt tx K mg) : Cal P w K mg base (clN tx.ex K) "_law_on_curve" ["curve", "a"] 3 d_u_law_on_curve := by
  refine Cal.close <| cal_of (N := ["curve", "a", "k", "x", "y", "u", "v", "top", "wide"]) (ps := ["curve", "a"]) (n := 2) (j := 7) T 28 (by rfl) (T.glo 42) rfl rfl sc_u_law_on_curve rfl rfl (fun _ _ _ _ _ _ us hl => match us, hl with | [_, _], _ => rfl) (fun f cdv A outer s H E hr tk hp => ?_)
  exact qss_cons (qs_if (qt_cmp op_lt od_lt b2_lt (qe_ix ix_seq od_ix (qe_var 1) qe_int (fun _ _ => rfl)) qe_int (nomark _)) (qss_one (qs_ret (qe_ix ix_seq od_ix (qe_ix ix_seq od_ix (qe_var 0) qe_int (fun _ _ => rfl)) qe_int (fun _ _ => rfl)))) qss_nil)
        (qss_cons (qs_for hp rfl (qi_rng1 (by rfl) (T.free 2) (qa_cons (qe_bin op_sub od_sub (qe_callB call_lenA on_len (by rfl) (T.free 3) (by decide +kernel) (qa_cons (qe_var 0) qa_nil)) qe_int) qa_nil)) (qg_name 2 sc_u_law_on_curve.nd) (qss_cons (qs_asg (qe_tup (qa_cons (qe_ix ix_seq od_ix (qe_var 0) (qe_var 2) (fun _ _ => rfl)) (qa_cons (qe_ix ix_seq od_ix (qe_var 0) (qe_bin op_addA od_add (qe_var 2) qe_int) (fun _ _ => rfl)) qa_nil))) (qg_tup rfl (qgs_cons (qg_tup rfl (qgs_cons (qg_name 3 sc_u_law_on_curve.nd) (qgs_cons (qg_name 4 sc_u_law_on_curve.nd) (qgs_nil (is := []))))) (qgs_cons (qg_tup rfl (qgs_cons (qg_name 5 sc_u_law_on_curve.nd) (qgs_cons (qg_name 6 sc_u_law_on_curve.nd) (qgs_nil (is := []))))) (qgs_nil (is := []))))))
        (qss_one (qs_if (qt_not (qt_val (qe_callC (ok_u_law_less T) hr tk (qa_cons (qe_var 5) (qa_cons (qe_var 1) qa_nil)) (by decide)))) (qss_cons (qs_par 7 8 rfl sc_u_law_on_curve.nd (qa_cons (qe_callC (ok_u_law_mul T) hr tk (qa_cons (qe_callC (ok_u_law_sub T) hr tk (qa_cons (qe_var 1) (qa_cons (qe_var 3) qa_nil)) (by decide)) (qa_cons (qe_callC (ok_u_law_sub T) hr tk (qa_cons (qe_var 6) (qa_cons (qe_var 4) qa_nil)) (by decide)) qa_nil)) (by decide)) (qa_cons (qe_callC (ok_u_law_sub T) hr tk (qa_cons (qe_var 5) (qa_cons (qe_var 3) qa_nil)) (by decide)) qa_nil)) (by rfl) (by rfl) (by decide) (by rfl) (by rfl) (by rfl))
        (qss_one (qs_ret (qe_callC (ok_u_law_add T) hr tk (qa_cons (qe_var 4) (qa_cons (qe_callC (ok_u_law_r T) hr tk (qa_cons (qe_bin op_mulA od_mul (qe_ix ix_seq od_ix (qe_var 7) qe_int (fun _ _ => rfl)) (qe_ix ix_seq od_ix (qe_var 8) qe_int (fun _ _ => rfl))) (qa_cons (qe_bin op_mulA od_mul (qe_ix ix_seq od_ix (qe_var 7) qe_int (fun _ _ => rfl)) (qe_ix ix_seq od_ix (qe_var 8) qe_int (fun _ _ => rfl))) qa_nil)) (by decide)) qa_nil)) (by decide))))) qss_nil))))
        (qss_one (qs_ret (qe_ix ix_seq od_ix (qe_ix ix_seq od_ix (qe_var 0) (qe_bin op_sub od_sub (qe_callB call_lenA on_len (by rfl) (T.free 3) (by decide +kernel) (qa_cons (qe_var 0) qa_nil)) qe_int) (fun _ _ => rfl)) qe_int (fun _ _ => rfl)))))
abbrev s_u_law_off : Stmt := topS 40
theorem sc_u_law_off : FnScope ["curve", "other", "x", "best", "found", "far", "point"] ["curve", "other"] (defScope s_u_law_off) := ⟨rfl, rfl, rfl, by decide +kernel, rfl, by decide +kernel, by decide +kernel⟩
set_option maxHeartbeats 4000000 in
theorem ok_u_law_off (T : Txt tx K mg) : Cal P w K mg base (clN tx.ex K) "_law_off" ["curve", "other"] 4 d_u_law_off := by
  refine Cal.close <| cal_of (N := ["curve", "other", "x", "best", "found", "far", "point"]) (ps := ["curve", "other"]) (n := 2) (j := 5) T 29 (by rfl) (T.glo 43) rfl rfl sc_u_law_off rfl rfl (fun _ _ _ _ _ _ us hl => match us, hl with | [_, _], _ => rfl) (fun f cdv A outer s H E hr tk hp => ?_)
  exact qss_cons (qs_parG (is := [3, 4]) rfl (qa_cons qe_non (qa_cons qe_non qa_nil)) (pgs_cons (pg_name (i := 3) sc_u_law_off.nd (by rfl) (by first | exact Or.inl rfl | exact Or.inr rfl)) (pgs_cons (pg_name (i := 4) sc_u_law_off.nd (by rfl) (by first | exact Or.inl rfl | exact Or.inr rfl)) pgs_nil)))
        (qss_cons (qs_for hp rfl (qi_data (qe_bin op_addA od_add (qe_lc [("point", 6)] rfl sc_u_law_off.nd (by decide) (qi_data (qe_var 0)) (blkOk_by (N := ["curve", "other", "x", "best", "found", "far", "point"]) (sc := defScope s_u_law_off) (by decide +kernel)) (fun _ _ _ _ _ => qg_name 6 sc_u_law_off.nd) (fun _ _ _ _ _ => qts_nil) (fun _ _ _ _ _ => qe_ix ix_seq od_ix (qe_var 6) qe_int (fun _ _ => rfl))) (qe_lc [("point", 6)] rfl sc_u_law_off.nd (by decide) (qi_data (qe_var 1)) (blkOk_by (N := ["curve", "other", "x", "best", "found", "far", "point"]) (sc := defScope s_u_law_off) (by decide +kernel)) (fun _ _ _ _ _ => qg_name 6 sc_u_law_off.nd) (fun _ _ _ _ _ => qts_nil) (fun _ _ _ _ _ => qe_ix ix_seq od_ix (qe_var 6) qe_int (fun _ _ => rfl))))) (qg_name 2 sc_u_law_off.nd) (qss_cons (qs_set 5 sc_u_law_off.nd (qe_callC (ok_u_law_sub T) hr tk (qa_cons (qe_callC (ok_u_law_on_curve T) hr tk (qa_cons (qe_var 0) (qa_cons (qe_var 2) qa_nil)) (by decide)) (qa_cons (qe_callC (ok_u_law_on_curve T) hr tk (qa_cons (qe_var 1) (qa_cons (qe_var 2) qa_nil)) (by decide)) qa_nil)) (by decide)))
        (qss_cons (qs_set 5 sc_u_law_off.nd (qe_tup (qa_cons (qe_callB call_abs on_abs (by rfl) (T.free 0) (by decide +kernel) (qa_cons (qe_ix ix_seq od_ix (qe_var 5) qe_int (fun _ _ => rfl)) qa_nil)) (qa_cons (qe_ix ix_seq od_ix (qe_var 5) qe_int (fun _ _ => rfl)) qa_nil))))
        (qss_one (qs_if (PW.pt (qw_or (qt_cmp op_isN od_isN b2_isN (qe_var 3) qe_non (nomark _)) (qw_or (qt_val (qe_callC (ok_u_law_less T) hr tk (qa_cons (qe_var 3) (qa_cons (qe_var 5) qa_nil)) (by decide))) (qw_or1 (PW.pt (qw_and (qt_cmp (op_eqD hr.units) od_eq b2_eq (qe_var 3) (qe_var 5) (nomark _)) (qw_and1 (qt_val (qe_callC (ok_u_law_less T) hr tk (qa_cons (qe_var 2) (qa_cons (qe_var 4) qa_nil)) (by decide)))))))))) (qss_one (qs_par 3 4 rfl sc_u_law_off.nd (qa_cons (qe_var 5) (qa_cons (qe_var 2) qa_nil)) (by rfl) (by rfl) (by decide) (by rfl) (by rfl) (by rfl))) qss_nil)))))
        (qss_one (qs_ret (qe_tup (qa_cons (qe_var 3) (qa_cons (qe_var 4) qa_nil))))))
abbrev s_u_law_rows : Stmt := topS 41
theorem sc_u_law_rows : FnScope ["many", "size", "least", "found", "k", "row"] ["many", "size", "least"] (defScope s_u_law_rows) := ⟨rfl, rfl, rfl, by decide +kernel, rfl, by decide +kernel, by decide +kernel⟩
set_option maxHeartbeats 4000000 in
theorem ok_u_law_rows (T : Txt tx K mg) : ∀ k, Cal P w K mg base (clN tx.ex K) "_law_rows" ["many", "size", "least"] (k + 1) (d_u_law_rows k)
  | 0 => (cal_no T 30 (by rfl) (T.glo 44) rfl rfl (ps := ["many", "size", "least"]) (fun _ _ _ _ _ _ us hl => match us, hl with | [_, _, _], _ => rfl))
  | k + 1 => by
    have c0 := ok_u_law_rows T k
    rw [Nat.add_right_comm]
    refine Cal.close <| cal_of (N := ["many", "size", "least", "found", "k", "row"]) (ps := ["many", "size", "least"]) (n := 3) (j := 3) T 30 (by rfl) (T.glo 44) rfl rfl sc_u_law_rows rfl rfl (fun _ _ _ _ _ _ us hl => match us, hl with | [_, _, _], _ => rfl) (fun f cdv A outer s H E hr tk hp => ?_)
    exact qss_cons (qs_if (qt_cmp (op_eqD hr.units) od_eq b2_eq (qe_var 1) qe_int (nomark _)) (qss_one (qs_ret (qe_lstD (qa_cons (qe_tup qa_nil) qa_nil)))) qss_nil)
        (qss_cons (qs_set 3 sc_u_law_rows.nd (qe_lstD qa_nil))
        (qss_cons (qs_for hp rfl (qi_rng2 (by rfl) (T.free 2) (qa_cons (qe_var 2) (qa_cons (qe_var 0) qa_nil))) (qg_name 4 sc_u_law_rows.nd) (qss_one (qs_set 3 sc_u_law_rows.nd (qe_bin op_addA od_add (qe_var 3) (qe_lc [("row", 5)] rfl sc_u_law_rows.nd (by decide) (qi_data (qe_callC c0 hr tk (qa_cons (qe_var 0) (qa_cons (qe_bin op_sub od_sub (qe_var 1) qe_int) (qa_cons (qe_bin op_addA od_add (qe_var 4) qe_int) qa_nil))) (by omega))) (blkOk_by (N := ["many", "size", "least", "found", "k", "row"]) (sc := defScope s_u_law_rows) (by decide +kernel)) (fun _ _ _ _ _ => qg_name 5 sc_u_law_rows.nd) (fun _ _ _ _ _ => qts_nil) (fun _ _ _ _ _ => qe_bin op_addA od_add (qe_tup (qa_cons (qe_var 4) qa_nil)) (qe_var 5)))))))
        (qss_one (qs_ret (qe_var 3)))))
abbrev s_u_law_small : Stmt := topS 42
theorem sc_u_law_small : FnScope ["curve", "bound", "size", "row", "small", "k"] ["curve", "bound"] (defScope s_u_law_small) := ⟨rfl, rfl, rfl, by decide +kernel, rfl, by decide +kernel, by decide +kernel⟩
set_option maxHeartbeats 4000000 in
theorem ok_u_law_small (T : Txt tx K mg) : Cal P w K mg base (clN tx.ex K) "_law_small" ["curve", "bound"] 22 d_u_law_small := by
  refine Cal.close <| cal_of (N := ["curve", "bound", "size", "row", "small", "k"]) (ps := ["curve", "bound"]) (n := 2) (j := 4) T 31 (by rfl) (T.glo 45) rfl rfl sc_u_law_small rfl rfl (fun _ _ _ _ _ _ us hl => match us, hl with | [_, _], _ => rfl) (fun f cdv A outer s H E hr tk hp => ?_)
  exact qss_cons (qs_for hp rfl (qi_rng1 (by rfl) (T.free 2) (qa_cons (qe_bin op_sub od_sub (qe_callB call_lenA on_len (by rfl) (T.free 3) (by decide +kernel) (qa_cons (qe_var 0) qa_nil)) qe_int) qa_nil)) (qg_name 2 sc_u_law_small.nd) (qss_one (qs_for hp rfl (qi_data (qe_callC (ok_u_law_rows T 20) hr tk (qa_cons (qe_bin op_sub od_sub (qe_callB call_lenA on_len (by rfl) (T.free 3) (by decide +kernel) (qa_cons (qe_var 0) qa_nil)) qe_int) (qa_cons (qe_var 2) (qa_cons qe_int qa_nil))) (by decide))) (qg_name 3 sc_u_law_small.nd) (qss_cons (qs_set 4 sc_u_law_small.nd (qe_bin op_addA od_add (qe_bin op_addA od_add (qe_slice (qe_var 0) qo_none (qo_some qe_int)) (qe_callTy call_tuple_of on_tuple (by rfl) (T.free 8) (by decide +kernel) (qa_cons (qe_lc [("k", 5)] rfl sc_u_law_small.nd (by decide) (qi_data (qe_var 3)) (blkOk_by (N := ["curve", "bound", "size", "row", "small", "k"]) (sc := defScope s_u_law_small) (by decide +kernel)) (fun _ _ _ _ _ => qg_name 5 sc_u_law_small.nd) (fun _ _ _ _ _ => qts_nil) (fun _ _ _ _ _ => qe_ix ix_seq od_ix (qe_var 0) (qe_var 5) (fun _ _ => rfl))) qa_nil))) (qe_slice (qe_var 0) (qo_some (qe_un un_neg o1_neg qe_int)) qo_none)))
        (qss_one (qs_if (qt_not (qt_val (qe_callC (ok_u_law_less T) hr tk (qa_cons (qe_var 1) (qa_cons (qe_ix ix_seq od_ix (qe_callC (ok_u_law_off T) hr tk (qa_cons (qe_var 0) (qa_cons (qe_var 4) qa_nil)) (by decide)) qe_int (fun _ _ => rfl)) qa_nil)) (by decide)))) (qss_one (qs_ret (qe_var 4))) qss_nil))))))
        (qss_one (qs_ret (qe_var 0)))
abbrev s_on_curve : Stmt := topS 22
theorem sc_on_curve : FnScope ["curve", "a"] ["curve", "a"] (defScope s_on_curve) := ⟨rfl, rfl, rfl, by decide +kernel, rfl, by decide +kernel, by decide +kernel⟩
set_option maxHeartbeats 4000000 in
theorem ok_on_curve (T : Txt tx K mg) : Cal P w K mg base (clN tx.ex K) "on_curve" ["curve", "a"] 5 d_on_curve := by
  refine Cal.close <| cal_of (N := ["curve", "a"]) (ps := ["curve", "a"]) (n := 2) (j := 0) T 32 (by rfl) (T.glo 46) rfl rfl sc_on_curve rfl rfl (fun _ _ _ _ _ _ us hl => match us, hl with | [_, _], _ => rfl) (fun f cdv A outer s H E hr tk hp => ?_)
  exact qss_cons (qs_expr (qe_callC (ok_check T) hr tk (qa_cons (qe_callC (ok_is_curve T) hr tk (qa_cons (qe_var 0) qa_nil) (by decide)) qa_nil) (by decide)))
        (qss_cons (qs_expr (qe_callC (ok_check T) hr tk (qa_cons (qe_callC (ok_is_ratio T) hr tk (qa_cons (qe_var 1) qa_nil) (by decide)) qa_nil) (by decide)))
        (qss_one (qs_ret (qe_callC (ok_curve_by T) hr tk (qa_cons (qe_var 0) (qa_cons (qe_var 1) qa_nil)) (by decide)))))
abbrev s_law : Stmt := topS 43
theorem sc_law : FnScope ["script", "draws", "turn", "bound", "small", "same", "k", "bad", "odd", "told", "curve", "other"] ["script"] (defScope s_law) := ⟨rfl, rfl, rfl, by decide +kernel, rfl, by decide +kernel, by decide +kernel⟩
set_option maxHeartbeats 4000000 in
theorem ok_law (T : Txt tx K mg) : Cal P w K mg base (clN tx.ex K) "law" ["script"] 23 d_law := by
  refine Cal.close <| cal_of (N := ["script", "draws", "turn", "bound", "small", "same", "k", "bad", "odd", "told", "curve", "other"]) (ps := ["script"]) (n := 1) (j := 11) T 33 (by rfl) (T.glo 47) rfl rfl sc_law rfl rfl (fun _ _ _ _ _ _ us hl => match us, hl with | [_], _ => rfl) (fun f cdv A outer s H E hr tk hp => ?_)
  exact qss_cons (qs_set 1 sc_law.nd (qe_callC (ok_u_law_draws T) hr tk (qa_cons (qe_var 0) qa_nil) (by decide)))
        (qss_cons (qs_for hp rfl (qi_rng1 (by rfl) (T.free 2) (qa_cons qe_int qa_nil)) (qg_name 2 sc_law.nd) (qss_cons (qs_par 10 11 rfl sc_law.nd (qa_cons (qe_callC (ok_u_law_long_curve T) hr tk (qa_cons (qe_var 1) qa_nil) (by decide)) (qa_cons (qe_callC (ok_u_law_long_curve T) hr tk (qa_cons (qe_var 1) qa_nil) (by decide)) qa_nil)) (by rfl) (by rfl) (by decide) (by rfl) (by rfl) (by rfl))
        (qss_cons (qs_if (PW.pt (qw_or (qt_not (qt_val (qe_callC (ok_is_curve T) hr tk (qa_cons (qe_var 10) qa_nil) (by decide)))) (qw_or (qt_cmp (op_neD hr.units) od_ne b2_ne (qe_callC (ok_u_law_told T) hr tk (qa_cons qe_int (qa_cons (qe_var 10) (qa_cons (qe_var 11) qa_nil))) (by decide)) (qe_callC (ok_u_law_off T) hr tk (qa_cons (qe_var 10) (qa_cons (qe_var 11) qa_nil)) (by decide)) (nomark _)) (qw_or1 (qt_cmp (op_neD hr.units) od_ne b2_ne (qe_callC (ok_u_law_told T) hr tk (qa_cons qe_int (qa_cons (qe_var 10) (qa_cons (qe_var 10) qa_nil))) (by decide)) (qe_tup (qa_cons (qe_tup (qa_cons qe_int (qa_cons qe_int qa_nil))) (qa_cons (qe_tup (qa_cons qe_int (qa_cons qe_int qa_nil))) qa_nil))) (nomark _)))))) (qss_one (qs_ret qe_bl)) qss_nil)
        (qss_cons (qs_set 3 sc_law.nd (qe_callC (ok_u_law_pick T) hr tk (qa_cons (qe_var 1) (qa_cons (qe_lstD (qa_cons (qe_tup (qa_cons qe_int (qa_cons qe_int qa_nil))) (qa_cons (qe_tup (qa_cons qe_int (qa_cons qe_int qa_nil))) (qa_cons (qe_tup (qa_cons qe_int (qa_cons qe_int qa_nil))) (qa_cons (qe_tup (qa_cons qe_int (qa_cons qe_int qa_nil))) (qa_cons (qe_tup (qa_cons qe_int (qa_cons qe_int qa_nil))) (qa_cons (qe_tup (qa_cons qe_int (qa_cons qe_int qa_nil))) qa_nil))))))) qa_nil)) (by decide)))
        (qss_cons (qs_set 4 sc_law.nd (qe_callC (ok_u_law_told T) hr tk (qa_cons qe_int (qa_cons (qe_var 10) (qa_cons (qe_var 3) qa_nil))) (by decide)))
        (qss_cons (qs_if (PW.pt (qw_or (qt_cmp (op_neD hr.units) od_ne b2_ne (qe_var 4) (qe_callC (ok_u_law_small T) hr tk (qa_cons (qe_var 10) (qa_cons (qe_var 3) qa_nil)) (by decide)) (nomark _)) (qw_or (qt_val (qe_callC (ok_u_law_less T) hr tk (qa_cons (qe_var 3) (qa_cons (qe_ix ix_seq od_ix (qe_callC (ok_u_law_off T) hr tk (qa_cons (qe_var 10) (qa_cons (qe_var 4) qa_nil)) (by decide)) qe_int (fun _ _ => rfl)) qa_nil)) (by decide))) (qw_or1 (qt_cmp (op_neD hr.units) od_ne b2_ne (qe_callC (ok_u_law_told T) hr tk (qa_cons qe_int (qa_cons (qe_var 10) (qa_cons (qe_tup (qa_cons qe_int (qa_cons qe_int qa_nil))) qa_nil))) (by decide)) (qe_tup (qa_cons (qe_ix ix_seq od_ix (qe_var 10) qe_int (fun _ _ => rfl)) (qa_cons (qe_ix ix_seq od_ix (qe_var 10) (qe_un un_neg o1_neg qe_int) (fun _ _ => rfl)) qa_nil))) (nomark _)))))) (qss_one (qs_ret qe_bl)) qss_nil)
        (qss_cons (qs_set 5 sc_law.nd (qe_callC (ok_u_law_told T) hr tk (qa_cons qe_int (qa_cons (qe_var 10) (qa_cons (qe_tup (qa_cons qe_int (qa_cons qe_int qa_nil))) qa_nil))) (by decide)))
        (qss_cons (qs_for hp rfl (qi_rng1 (by rfl) (T.free 2) (qa_cons qe_int qa_nil)) (qg_name 6 sc_law.nd) (qss_one (qs_if (qt_cmp (op_neD hr.units) od_ne b2_ne (qe_callC (ok_on_curve T) hr tk (qa_cons (qe_var 5) (qa_cons (qe_callC (ok_u_law_r T) hr tk (qa_cons (qe_var 6) (qa_cons qe_int qa_nil)) (by decide)) qa_nil)) (by decide)) (qe_callC (ok_u_law_on_curve T) hr tk (qa_cons (qe_var 10) (qa_cons (qe_callC (ok_u_law_r T) hr tk (qa_cons (qe_var 6) (qa_cons qe_int qa_nil)) (by decide)) qa_nil)) (by decide)) (nomark _)) (qss_one (qs_ret qe_bl)) qss_nil)))
        (qss_cons (qs_if (PW.pt (qw_or (qt_cmp (op_neD hr.units) od_ne b2_ne (qe_callC (ok_u_law_told T) hr tk (qa_cons qe_int (qa_cons (qe_var 5) (qa_cons (qe_tup (qa_cons qe_int (qa_cons qe_int qa_nil))) qa_nil))) (by decide)) (qe_var 5) (nomark _)) (qw_or1 (qt_cmp op_gt od_gt b2_gt (qe_callB call_lenA on_len (by rfl) (T.free 3) (by decide +kernel) (qa_cons (qe_var 4) qa_nil)) (qe_callB call_lenA on_len (by rfl) (T.free 3) (by decide +kernel) (qa_cons (qe_var 5) qa_nil)) (nomark _))))) (qss_one (qs_ret qe_bl)) qss_nil)
        (qss_cons (qs_set 7 sc_law.nd (qe_callC (ok_u_law_pick T) hr tk (qa_cons (qe_var 1) (qa_cons (qe_lstD (qa_cons qe_non (qa_cons (qe_tup qa_nil) (qa_cons (qe_slice (qe_var 10) (qo_some qe_int) qo_none) (qa_cons (qe_slice (qe_var 10) qo_none (qo_some qe_int)) (qa_cons (qe_bin op_addA od_add (qe_var 10) (qe_slice (qe_var 10) (qo_some (qe_un un_neg o1_neg qe_int)) qo_none)) (qa_cons (qe_callTy call_list_of on_list (by rfl) (T.free 4) (by decide +kernel) (qa_cons (qe_var 10) qa_nil)) (qa_cons (qe_tup (qa_cons (qe_ix ix_seq od_ix (qe_var 10) qe_int (fun _ _ => rfl)) (qa_cons (qe_tup (qa_cons qe_int (qa_cons qe_int qa_nil))) qa_nil))) qa_nil)))))))) qa_nil)) (by decide)))
        (qss_cons (qs_set 8 sc_law.nd (qe_callC (ok_u_law_pick T) hr tk (qa_cons (qe_var 1) (qa_cons (qe_lstD (qa_cons qe_non (qa_cons qe_int (qa_cons (qe_tup (qa_cons (qe_un un_neg o1_neg qe_int) (qa_cons qe_int qa_nil))) (qa_cons (qe_tup (qa_cons qe_int (qa_cons qe_int qa_nil))) (qa_cons (qe_tup (qa_cons qe_int (qa_cons qe_int qa_nil))) qa_nil)))))) qa_nil)) (by decide)))
        (qss_cons (qs_set 9 sc_law.nd (qe_lstD (qa_cons (qe_callC (ok_u_law_told T) hr tk (qa_cons qe_int (qa_cons (qe_var 7) (qa_cons (qe_tup (qa_cons qe_int (qa_cons qe_int qa_nil))) qa_nil))) (by decide)) (qa_cons (qe_callC (ok_u_law_told T) hr tk (qa_cons qe_int (qa_cons (qe_var 10) (qa_cons (qe_var 8) qa_nil))) (by decide)) (qa_cons (qe_callC (ok_u_law_told T) hr tk (qa_cons qe_int (qa_cons (qe_var 7) (qa_cons (qe_var 10) qa_nil))) (by decide)) (qa_cons (qe_callC (ok_u_law_told T) hr tk (qa_cons qe_int (qa_cons (qe_var 10) (qa_cons (qe_var 7) qa_nil))) (by decide)) qa_nil))))))
        (qss_one (qs_if (qt_cmp (op_neD hr.units) od_ne b2_ne (qe_var 9) (qe_bin op_mulA od_mul (qe_lstD (qa_cons (qe_tup (qa_cons qe_str (qa_cons qe_str qa_nil))) qa_nil)) qe_int) (nomark _)) (qss_one (qs_ret qe_bl)) qss_nil))))))))))))))
        (qss_one (qs_ret qe_bl)))
end
end K23

set_option Elab.async false
set_option linter.all false
set_option maxRecDepth 100000
set_option maxHeartbeats 0
/-! printed by pr.py: the head by one run of the top, the end of the law -/
namespace K23
open PySem PySem.Spec PyProof.Rows L2 Pd
abbrev R : PySem.W.OpenRow := PySem.W.OpenLaw.row PySem.Challenge.rw_huescarried_k23_whole_curves_made_small
abbrev hk : PySem.W.Hook := hookX 6 tx
def ob (s : PySem.W.SharedT) : AlX := obsXG 6 tx (HandSHeadRun.getT s)
theorem ob_eq (s : PySem.W.SharedT) : ob s = hk.obs s.abs := obsXG_eq (HandSHeadRun.getT_eq s)
def loose0 : List Str := ["ZERO", "ONE", "MOST_POINTS", "HueError", "NotRight", "is_integer", "check", "shared", "made", "is_ratio", "add", "less", "product", "share", "is_below", "size_of", "is_point", "is_curve", "curve_by", "on_curve"]
def loose1 : List Str := ["check_bound", "is_close", "made_small", "fault_of_curve", "_law_draws", "_law_take", "_law_pick", "_law_r", "_law_add", "_law_sub", "_law_mul", "_law_less", "_law_on_curve", "_law_told", "_law_long_curve", "_law_off", "_law_rows", "_law_small"]
def loose : List Str := loose0 ++ loose1
theorem run (w : World) : HandSHeadRun.RunEq R (PySem.W.view R.prog [43]) hk ob 4000 loose w := by
  intro os
  kernel_rfl
end K23

set_option Elab.async false
set_option linter.all false
set_option maxRecDepth 100000
set_option maxHeartbeats 0
open PySem PySem.W PySem.Calls PyProof.Rows
theorem PySem.Challenge.cw_huescarried_k23_whole_curves_made_small_holds : PySem.Challenge.rw_huescarried_k23_whole_curves_made_small.Holds := by
  w_on; o_law
  refine HandSHeadRun.head_any (r := K23.R) (q := view (K23.R).prog [43]) (H := K23.hk) (ob := K23.ob) (M := 4000) (loose := K23.loose) (d := HandSHeadRun.topDef (K23.R).prog 43) (kwd := []) K23.ob_eq
    (by kernel_rfl) (fun s => by kernel_rfl) K23.run (by kernel_rfl) (by kernel_rfl) (by kernel_rfl) (by rfl) (by first | assumption | decide +kernel) (by decide +kernel) ⟨rfl, rfl, rfl, rfl, rfl, by decide +kernel⟩ ?hw ?hc
  case hw => w_witness2
  case hc =>
    exact Pd.walk_ofX (t := K23.tx) (n := 63) (k := 23) (x := "law") rfl (by decide) (by kernel_rfl) ⟨rfl, by decide, by decide⟩ (by kernel_rfl) (fun w K mg base T => K23.ok_law T) K23.law_true
