import PyProof.Rows.All
import PySem.Challenge.RW_huescarried_k27_whole_dots_and_what_is_s
import HandS.ForMost
import HandS.ForExc
import HandS.Wide
import HandS.TupAny
import HandS.Zip
import HandS.Walk
import HandS.CallSlots
import HandS.IsInst
import HandS.Star
import HandS.Defaults
import HandS.TryMany
import HandS.Flow
import HandS.RevTup
import HandS.Conv
import KE.KDictList
import HandS.Head0
import HandS.Head1
import HandS.Head2
import HandS.HeadEnd
import HandS.HeadHook1
import HandS.HeadHook2
import HandS.SortInts
import HandS.Deep
import HandS.TupLe
import PyProof.ListRange
import PyProof.SumWalkG
import PyProof.ListOps
import HandS.Style
set_option Elab.async false
set_option linter.all false
set_option maxRecDepth 100000
set_option maxHeartbeats 4000000
/-! Pd1: denotations over pure data and cells; what a state must be; the readings of denotations. -/
namespace Pd
open PySem L2
abbrev Fr := PySem.W.Frag
abbrev D := PyData

/-! ### data in the heap -/
mutual
inductive Rp (K : Fr) (F : Hp) : V → D → Prop
  | non : Rp K F .non .none
  | bl (b : Bool) : Rp K F (.bl b) (.bool b)
  | int (i : Int) : Rp K F (.int i) (.int i)
  | str (x : Str) : Rp K F (.str x) (.str x)
  | lst {a : Addr} {vs : List V} {ds : List D} : F a = some (.lst vs) → RpA K F vs ds → Rp K F (.ref a) (.list ds)
  | tup {a : Addr} {vs : List V} {ds : List D} : SqT K F a vs → RpA K F vs ds → Rp K F (.ref a) (.tuple ds)
inductive RpA (K : Fr) (F : Hp) : List V → List D → Prop
  | nil : RpA K F [] []
  | cons {v : V} {vs : List V} {d : D} {ds : List D} : Rp K F v d → RpA K F vs ds → RpA K F (v :: vs) (d :: ds)
end
theorem sqt_mono {K : Fr} {F F' : Hp} {a : Addr} {xs : List V} (e : Same F F') (h : SqT K F a xs) : SqT K F' a xs := by
  rcases h with (h | ⟨o, h⟩) | h
  · exact .inl (.inl (e _ _ h))
  · exact .inl (.inr ⟨o, e _ _ h⟩)
  · exact .inr h
section
variable {K : Fr} {F F' : Hp}
mutual
theorem Rp.mono (e : Same F F') : ∀ {d : D} {v : V}, Rp K F v d → Rp K F' v d
  | .none, _, h => by cases h; exact .non
  | .bool _, _, h => by cases h; exact .bl _
  | .int _, _, h => by cases h; exact .int _
  | .str _, _, h => by cases h; exact .str _
  | .list ds, _, h => by
    cases h with
    | lst h1 h2 => exact .lst (e _ _ h1) (RpA.mono e h2)
  | .tuple ds, _, h => by
    cases h with
    | tup h1 h2 => exact .tup (sqt_mono e h1) (RpA.mono e h2)
  | .dict _, _, h => by cases h
theorem RpA.mono (e : Same F F') : ∀ {ds : List D} {vs : List V}, RpA K F vs ds → RpA K F' vs ds
  | [], _, h => by cases h; exact .nil
  | _ :: _, _, h => by
    cases h with
    | cons h1 h2 => exact .cons (Rp.mono e h1) (RpA.mono e h2)
end
mutual
theorem Rp.dp : ∀ {d : D} {v : V}, Rp K F v d → Dp K F v d
  | .none, _, h => by cases h; exact .non
  | .bool _, _, h => by cases h; exact .bl _
  | .int _, _, h => by cases h; exact .int _
  | .str _, _, h => by cases h; exact .str _
  | .list ds, _, h => by
    cases h with
    | lst h1 h2 => exact .lst (.inl (.inl h1)) (RpA.dp h2)
  | .tuple ds, _, h => by
    cases h with
    | tup h1 h2 => exact .tup h1 (RpA.dp h2)
  | .dict _, _, h => by cases h
theorem RpA.dp : ∀ {ds : List D} {vs : List V}, RpA K F vs ds → DpAll K F vs ds
  | [], _, h => by cases h; exact .nil
  | _ :: _, _, h => by
    cases h with
    | cons h1 h2 => exact .cons (Rp.dp h1) (RpA.dp h2)
end
theorem RpA.len : ∀ {ds : List D} {vs : List V}, RpA K F vs ds → vs.length = ds.length
  | [], _, h => by cases h; rfl
  | _ :: _, _, h => by
    cases h with
    | cons h1 h2 => simp [RpA.len h2]
theorem RpA.get : ∀ {ds : List D} {vs : List V} {i : Nat} {d : D}, RpA K F vs ds → ds[i]? = some d → ∃ v, vs[i]? = some v ∧ Rp K F v d
  | [], _, _, _, h, e => by simp at e
  | _ :: _, _, i, _, h, e => by
    cases h with
    | cons h1 h2 =>
      cases i with
      | zero => simp at e; subst e; exact ⟨_, rfl, h1⟩
      | succ i =>
        obtain ⟨v, e1, e2⟩ := RpA.get (i := i) h2 (by simpa using e)
        exact ⟨v, by simpa using e1, e2⟩
theorem RpA.getV {ds : List D} {vs : List V} {i : Nat} {v : V} (h : RpA K F vs ds) (e : vs[i]? = some v) : ∃ d, ds[i]? = some d ∧ Rp K F v d := by
  have hi : i < ds.length := by
    rw [← h.len]
    exact (List.getElem?_eq_some_iff.mp e).1
  obtain ⟨v', e1, e2⟩ := h.get (List.getElem?_eq_getElem hi)
  rw [e] at e1
  cases e1
  exact ⟨_, List.getElem?_eq_getElem hi, e2⟩
theorem RpA.append : ∀ {ds : List D} {vs : List V} {es : List D} {ws : List V}, RpA K F vs ds → RpA K F ws es → RpA K F (vs ++ ws) (ds ++ es)
  | [], _, _, _, h, k => by cases h; exact k
  | _ :: _, _, _, _, h, k => by
    cases h with
    | cons h1 h2 => exact .cons h1 (RpA.append h2 k)
theorem RpA.take : ∀ (n : Nat) {ds : List D} {vs : List V}, RpA K F vs ds → RpA K F (vs.take n) (ds.take n)
  | 0, _, _, _ => by simp only [List.take_zero]; exact .nil
  | n + 1, [], _, h => by cases h; exact .nil
  | n + 1, _ :: _, _, h => by
    cases h with
    | cons h1 h2 => exact .cons h1 (RpA.take n h2)
theorem RpA.drop : ∀ (n : Nat) {ds : List D} {vs : List V}, RpA K F vs ds → RpA K F (vs.drop n) (ds.drop n)
  | 0, _, _, h => h
  | n + 1, [], _, h => by cases h; exact .nil
  | n + 1, _ :: _, _, h => by
    cases h with
    | cons h1 h2 => exact RpA.drop n h2
theorem RpA.one {v : V} {d : D} (h : Rp K F v d) : RpA K F [v] [d] := .cons h .nil
theorem RpA.reverse : ∀ {ds : List D} {vs : List V}, RpA K F vs ds → RpA K F vs.reverse ds.reverse
  | [], _, h => by cases h; exact .nil
  | _ :: _, _, h => by
    cases h with
    | cons h1 h2 =>
      rw [List.reverse_cons, List.reverse_cons]
      exact (RpA.reverse h2).append (.one h1)
theorem RpA.rep {ds : List D} {vs : List V} (h : RpA K F vs ds) : ∀ k : Nat, RpA K F (List.replicate k vs).flatten (List.replicate k ds).flatten
  | 0 => .nil
  | k + 1 => by
    rw [List.replicate_succ, List.replicate_succ, List.flatten_cons, List.flatten_cons]
    exact h.append (RpA.rep h k)
theorem RpA.ints : ∀ (ns : List Int), RpA K F (ns.map V.int) (ns.map PyData.int)
  | [] => .nil
  | n :: ns => .cons (.int n) (RpA.ints ns)
end

/-! ### values, cells -/
inductive Vl where
  | dat (d : D)
  | cel (k : Nat)
  | scr (ns : List Int)
inductive Cell where
  | lst (xs : List Vl)
  | frz (d : D)
abbrev Slots := List (Option Vl)
abbrev Store := List Cell
/-- a law that is not told to hold by running -/
theorem nr {α : Sort _} {a b : α} (h : a = b) : a = b := h
inductive Res (α : Type) where
  | ok (a : α) (st : Store)
  | exc (c : Nat) (p : Option (Str × D)) (st : Store)
  | no
def Res.bind {α β : Type} (r : Res α) (k : α → Store → Res β) : Res β := match r with
  | .ok a st => k a st
  | .exc c p st => .exc c p st
  | .no => .no
@[simp] theorem Res.bind_ok {α β : Type} (a : α) (st : Store) (k : α → Store → Res β) : (Res.ok a st).bind k = k a st := nr rfl
@[simp] theorem Res.bind_exc {α β : Type} (c : Nat) (p : Option (Str × D)) (st : Store) (k : α → Store → Res β) : (Res.exc c p st).bind k = .exc c p st := nr rfl
@[simp] theorem Res.bind_no {α β : Type} (k : α → Store → Res β) : (Res.no : Res α).bind k = .no := nr rfl

inductive VlOk (K : Fr) (F : Hp) (as : List Addr) : V → Vl → Prop
  | dat {v : V} {d : D} : Rp K F v d → VlOk K F as v (.dat d)
  | cel {a : Addr} {k : Nat} : as[k]? = some a → VlOk K F as (.ref a) (.cel k)
  | scr {a : Addr} {ns : List Int} : SqL K F a (ns.map V.int) → VlOk K F as (.ref a) (.scr ns)
abbrev VlsOk (K : Fr) (F : Hp) (as : List Addr) : List V → List Vl → Prop := Paired (VlOk K F as)
def CellOk (K : Fr) (F : Hp) (as : List Addr) (H : Hp) (a : Addr) : Cell → Prop
  | .lst xs => F a = none ∧ ∃ vs, H a = some (.lst vs) ∧ VlsOk K F as vs xs
  | .frz d => Rp K F (.ref a) d
structure RepH (K : Fr) (B F : Hp) (as : List Addr) (H : Hp) (st : Store) : Prop where
  fh : Same F H
  bh : Same B H
  nd : as.Nodup
  len : as.length = st.length
  bn : ∀ a ∈ as, B a = none
  hs : ∀ a ∈ as, H a ≠ none
  ok : ∀ (k : Nat) (c : Cell) (a : Addr), st[k]? = some c → as[k]? = some a → CellOk K F as H a c
structure Grow (B F F' : Hp) (as as' : List Addr) : Prop where
  sub : Same F F'
  frame : ∀ a, B a ≠ none → F a = none → F' a = none
  ext : as <+: as'
def SlOk (K : Fr) (F : Hp) (as : List Addr) (σ : St) (s : Slots) : Prop :=
  σ.length = s.length ∧ ∀ (i : Nat) (v : Vl), s[i]? = some (some v) → ∃ u, σ[i]? = some (some u) ∧ VlOk K F as u v

section
variable {K : Fr} {B F F' F'' : Hp} {as as' as'' : List Addr} {H H' : Hp} {st : Store}
theorem Grow.refl : Grow B F F as as := ⟨Same.refl _, fun _ _ h => h, List.prefix_refl _⟩
theorem Grow.trans (a : Grow B F F' as as') (b : Grow B F' F'' as' as'') : Grow B F F'' as as'' :=
  ⟨a.sub.trans b.sub, fun x h1 h2 => b.frame x h1 (a.frame x h1 h2), a.ext.trans b.ext⟩
theorem as_ext {k : Nat} {a : Addr} (e : as <+: as') (h : as[k]? = some a) : as'[k]? = some a := by
  obtain ⟨t, rfl⟩ := e
  rw [List.getElem?_append_left (List.getElem?_eq_some_iff.mp h).1]
  exact h
theorem sql_mono {a : Addr} {xs : List V} (e : Same F F') (h : SqL K F a xs) : SqL K F' a xs := e.seq h
theorem VlOk.mono' {v : V} {x : Vl} (e : Same F F') (p : as <+: as') (h : VlOk K F as v x) : VlOk K F' as' v x := by
  cases h with
  | dat h => exact .dat (h.mono e)
  | cel h => exact .cel (as_ext p h)
  | scr h => exact .scr (sql_mono e h)
theorem VlOk.mono {v : V} {x : Vl} (g : Grow B F F' as as') (h : VlOk K F as v x) : VlOk K F' as' v x := h.mono' g.sub g.ext
theorem VlsOk.mono' {vs : List V} {xs : List Vl} (e : Same F F') (p : as <+: as') (h : VlsOk K F as vs xs) : VlsOk K F' as' vs xs := by
  induction h with
  | nil => exact .nil
  | cons h1 _ ih => exact .cons (h1.mono' e p) ih
theorem VlsOk.mono {vs : List V} {xs : List Vl} (g : Grow B F F' as as') (h : VlsOk K F as vs xs) : VlsOk K F' as' vs xs := h.mono' g.sub g.ext
theorem SlOk.mono {σ : St} {s : Slots} (g : Grow B F F' as as') (h : SlOk K F as σ s) : SlOk K F' as' σ s :=
  ⟨h.1, fun i v e => let ⟨u, e1, e2⟩ := h.2 i v e; ⟨u, e1, e2.mono g⟩⟩
theorem SlOk.set {σ : St} {s : Slots} {i : Nat} {u : V} {v : Vl} (h : SlOk K F as σ s) (r : VlOk K F as u v) : SlOk K F as (σ.set i (some u)) (s.set i (some v)) := by
  refine ⟨by simp [h.1], fun j w e => ?_⟩
  by_cases hj : i = j
  · subst hj
    have hi : i < s.length := by
      have := (List.getElem?_eq_some_iff.mp e).1
      simpa using this
    rw [List.getElem?_set_self hi] at e
    cases e
    exact ⟨u, by rw [List.getElem?_set_self (by rw [h.1]; exact hi)], r⟩
  · rw [List.getElem?_set_ne hj] at e ⊢
    exact h.2 j w e
theorem VlsOk.rpa {vs : List V} {ds : List D} (h : RpA K F vs ds) : VlsOk K F as vs (ds.map .dat) := by
  induction ds generalizing vs with
  | nil => cases h; exact .nil
  | cons d ds ih =>
    cases h with
    | cons h1 h2 => exact .cons (.dat h1) (ih h2)
theorem VlsOk.to_rpa {vs : List V} {ds : List D} (h : VlsOk K F as vs (ds.map .dat)) : RpA K F vs ds := by
  induction ds generalizing vs with
  | nil => cases h; exact .nil
  | cons d ds ih =>
    cases h with
    | cons h1 h2 =>
      cases h1 with
      | dat h1 => exact .cons h1 (ih h2)
end

/-- new frozen objects alone -/
structure Ext (F H F' H' : Hp) : Prop where
  f : Same F F'
  h : Same H H'
  s : Same F' H'
  n : ∀ a, F a = none → F' a ≠ none → H a = none
theorem Ext.refl {F H : Hp} (e : Same F H) : Ext F H F H := ⟨Same.refl _, Same.refl _, e, fun _ h k => absurd h k⟩
theorem Ext.trans {F H F1 H1 F2 H2 : Hp} (a : Ext F H F1 H1) (b : Ext F1 H1 F2 H2) : Ext F H F2 H2 :=
  ⟨a.f.trans b.f, a.h.trans b.h, b.s, fun x h k => by
    by_cases q : F1 x = none
    · exact a.h.free (b.n x q k)
    · exact a.n x h q⟩
theorem Ext.new {F H : Hp} {p : Addr} {o : HO} (e : Same F H) (h : H p = none) : Ext F H (upd F p o) (upd H p o) := by
  have hf : F p = none := e.free h
  refine ⟨fun a u q => ?_, fun a u q => ?_, fun a u q => ?_, fun a q k => ?_⟩
  · rw [upd_ne (ne_of_none q hf)]; exact q
  · rw [upd_ne (ne_of_none q h)]; exact q
  · by_cases hp : a = p
    · subst hp; rw [upd_same] at q ⊢; exact q
    · rw [upd_ne hp] at q ⊢; exact e _ _ q
  · by_cases hp : a = p
    · subst hp; exact h
    · rw [upd_ne hp] at k; exact absurd q k
section
variable {K : Fr} {B F F' F'' : Hp} {as as' as'' : List Addr} {H H' : Hp} {st : Store}
theorem none_of_not {a : Addr} (h : ¬ F a ≠ none) : F a = none := Classical.byContradiction fun q => h q
theorem RepH.ext (r : RepH K B F as H st) (x : Ext F H F' H') : RepH K B F' as H' st where
  fh := x.s
  bh := r.bh.trans x.h
  nd := r.nd
  len := r.len
  bn := r.bn
  hs := fun a ha q => r.hs a ha (x.h.free q)
  ok := fun k c a e1 e2 => by
    have q := r.ok k c a e1 e2
    cases c with
    | lst xs =>
      obtain ⟨h1, vs, h2, h3⟩ := q
      refine ⟨none_of_not fun z => ?_, vs, x.h _ _ h2, h3.mono' x.f (List.prefix_refl _)⟩
      have := x.n a h1 z
      rw [h2] at this
      cases this
    | frz d => exact Rp.mono x.f q
theorem Ext.grow (r : RepH K B F as H st) (x : Ext F H F' H') : Grow B F F' as as :=
  ⟨x.f, fun a hb hf => none_of_not fun z => by
    have e := x.n a hf z
    exact hb (r.bh.free e), List.prefix_refl _⟩
end

/-! ### what is wanted behind a result -/
def ExcAt (K : Fr) (F H : Hp) (p : Option (Str × D)) (x : Option Addr) : Prop := match p with
  | none => x = none
  | some (f, d) => ∃ a v, x = some a ∧ H a = some (.xd [(f, v)]) ∧ Rp K F v d
section
variable (K : Fr) (cl : Nat → Value) (W : WX)
def postR {α : Type} (B F : Hp) (as : List Addr) (σ : St) (G : α → Store → Hp → List Addr → Hp → Prop) : Res α → Prop
  | .ok a st => ∀ F' as' H', Grow B F F' as as' → RepH K B F' as' H' st → G a st F' as' H'
  | .exc c p st => ∀ x F' as' H', Grow B F F' as as' → RepH K B F' as' H' st → ExcAt K F' H' p x → W (cl c) x σ H'
  | .no => False
/-- the reading of a denotation: in some state that is as told -/
def den {α : Type} (m : Slots → Store → Res α) (σ : St) (H : Hp) (G : α → Store → Hp → List Addr → Hp → Prop) : Prop :=
  ∃ B F as s st, RepH K B F as H st ∧ SlOk K F as σ s ∧ postR K cl W B F as σ G (m s st)
def denE (m : Slots → Store → Res Vl) : TE := fun σ H Q => den K cl W m σ H fun v _ F' as' H' => ∀ u, VlOk K F' as' u v → Q u H'
def denT (m : Slots → Store → Res Bool) : TT := fun σ H Q => den K cl W m σ H fun b _ _ _ H' => Q b H'
def denA (m : Slots → Store → Res (List Vl)) : TA := fun σ H Q => den K cl W m σ H fun vs _ F' as' H' => ∀ us, VlsOk K F' as' us vs → Q us H'
end
section
variable {K : Fr} {cl : Nat → Value} {W : WX} {α β : Type} {B F F' : Hp} {as as' : List Addr} {σ : St} {G G' : α → Store → Hp → List Addr → Hp → Prop} {H : Hp}
theorem post_grow (g : Grow B F F' as as') : ∀ {r : Res α}, postR K cl W B F as σ G r → postR K cl W B F' as' σ G r
  | .ok a st, h => fun F2 as2 H2 g2 r2 => h F2 as2 H2 (g.trans g2) r2
  | .exc c p st, h => fun x F2 as2 H2 g2 r2 e => h x F2 as2 H2 (g.trans g2) r2 e
  | .no, h => h
theorem post_mono {r : Res α} (h : postR K cl W B F as σ G r) (k : ∀ a st F' as' H', r = .ok a st → Grow B F F' as as' → RepH K B F' as' H' st → G a st F' as' H' → G' a st F' as' H') : postR K cl W B F as σ G' r := by
  cases r with
  | ok a st => exact fun F2 as2 H2 g2 r2 => k a st F2 as2 H2 rfl g2 r2 (h F2 as2 H2 g2 r2)
  | exc c p st => exact h
  | no => exact h
theorem post_bind {G : β → Store → Hp → List Addr → Hp → Prop} {r : Res α} {k : α → Store → Res β} (h : postR K cl W B F as σ G (r.bind k)) : postR K cl W B F as σ (fun a st F1 as1 _ => postR K cl W B F1 as1 σ G (k a st)) r := by
  cases r with
  | ok a st => exact fun F2 as2 H2 g2 r2 => post_grow g2 h
  | exc c p st => exact h
  | no => exact h
theorem post_ok {a : α} {st : Store} (h : postR K cl W B F as σ G (.ok a st)) (r : RepH K B F as H st) : G a st F as H := h F as H Grow.refl r
/-- a step of ours, told from the state that is here -/
theorem den_of {m : Slots → Store → Res α} {s : Slots} {st : Store} (r : RepH K B F as H st) (k : SlOk K F as σ s) (h : postR K cl W B F as σ G (m s st)) : den K cl W m σ H G := ⟨B, F, as, s, st, r, k, h⟩
end

/-! ### weakening of readings -/
section
variable {X : Cx}
theorem PE.imp {e : Expr} {t t' : TE} (h : PE X e t) (k : ∀ σ H Q, t' σ H Q → t σ H Q) : PE X e t' := ⟨fun pins s σ H Q I q => h.run pins s σ H Q I (k σ H Q q)⟩
theorem PT.imp {e : Expr} {t t' : TT} (h : PT X e t) (k : ∀ σ H Q, t' σ H Q → t σ H Q) : PT X e t' := ⟨fun pins s σ H Q I q => h.run pins s σ H Q I (k σ H Q q)⟩
theorem PW.imp {e : Expr} {t t' : TT} (h : PW X e t) (k : ∀ σ H Q, t' σ H Q → t σ H Q) : PW X e t' := ⟨fun w pins s σ H Q I q => h.run w pins s σ H Q I (k σ H Q q)⟩
theorem PA.imp {es : List Expr} {t t' : TA} (h : PA X es t) (k : ∀ σ H Q, t' σ H Q → t σ H Q) : PA X es t' := ⟨fun p pins s σ H Q I q => h.run p pins s σ H Q I (k σ H Q q)⟩
theorem PS.imp {st : Stmt} {t t' : TS} (h : PS X st t) (k : ∀ D σ H, t' D σ H → t D σ H) : PS X st t' := ⟨fun pins s σ H D I q => h.run pins s σ H D I (k D σ H q)⟩
theorem PSs.imp {st : List Stmt} {t t' : TS} (h : PSs X st t) (k : ∀ D σ H, t' D σ H → t D σ H) : PSs X st t' := ⟨fun pins s σ H D I q => h.run pins s σ H D I (k D σ H q)⟩
theorem PO.imp {e : Option Expr} {t t' : TO} (h : PO X e t) (k : ∀ σ H Q, t' σ H Q → t σ H Q) : PO X e t' := ⟨fun pins s σ H Q I q => h.run pins s σ H Q I (k σ H Q q)⟩
theorem PI.imp {tg e : Expr} {t t' : TI} (h : PI X tg e t) (k : ∀ σ H Q, t' σ H Q → t σ H Q) : PI X tg e t' := ⟨fun pins s σ H R I q => h.run pins s σ H R I (k σ H R q)⟩
end
end Pd

set_option Elab.async false
set_option linter.all false
set_option maxRecDepth 100000
set_option maxHeartbeats 4000000
/-! Pd2: expressions: what they denote, and that they read so. -/
namespace Pd
open PySem L2
abbrev EM := Slots → Store → Res Vl
abbrev TM := Slots → Store → Res Bool
abbrev AM := Slots → Store → Res (List Vl)

/-! ### freezing, looking -/
def unDat : List Vl → Option (List D)
  | [] => some []
  | .dat d :: r => (unDat r).map (d :: ·)
  | _ :: _ => none
theorem unDat_eq : ∀ {xs : List Vl} {ds : List D}, unDat xs = some ds → xs = ds.map .dat
  | [], ds, h => by cases h; rfl
  | .dat d :: r, ds, h => by
    unfold unDat at h
    cases e : unDat r with
    | none => rw [e] at h; cases h
    | some es => rw [e] at h; cases h; rw [unDat_eq e]; rfl
  | .cel _ :: _, _, h => by cases h
  | .scr _ :: _, _, h => by cases h
@[simp] theorem unDat_map : ∀ ds : List D, unDat (ds.map .dat) = some ds
  | [] => rfl
  | d :: ds => by
    rw [List.map_cons]
    unfold unDat
    rw [unDat_map ds]
    rfl
def toD (v : Vl) (st : Store) : Res D := match v with
  | .dat d => .ok d st
  | .cel k => (match st[k]? with
    | some (.frz d) => .ok d st
    | some (.lst xs) => (match unDat xs with
      | some ds => .ok (.list ds) (st.set k (.frz (.list ds)))
      | none => .no)
    | none => .no)
  | .scr _ => .no
@[simp] theorem toD_dat (d : D) (st : Store) : toD (.dat d) st = .ok d st := rfl
def toDs : List Vl → Store → Res (List D)
  | [], st => .ok [] st
  | v :: r, st => (toD v st).bind fun d st1 => (toDs r st1).bind fun ds st2 => .ok (d :: ds) st2
@[simp] theorem toDs_dat : ∀ (ds : List D) (st : Store), toDs (ds.map .dat) st = .ok ds st
  | [], _ => rfl
  | d :: ds, st => by
    rw [List.map_cons]
    unfold toDs
    rw [toD_dat, Res.bind_ok, toDs_dat ds]
    rfl
def peek (v : Vl) (st : Store) : Option D := match v with
  | .dat d => some d
  | .cel k => (match st[k]? with
    | some (.frz d) => some d
    | some (.lst xs) => (unDat xs).map .list
    | none => none)
  | .scr _ => none
@[simp] theorem peek_dat (d : D) (st : Store) : peek (.dat d) st = some d := rfl
def peeks : List Vl → Store → Option (List D)
  | [], _ => some []
  | v :: r, st => (peek v st).bind fun d => (peeks r st).map (d :: ·)
@[simp] theorem peeks_dat : ∀ (ds : List D) (st : Store), peeks (ds.map .dat) st = some ds
  | [], _ => rfl
  | d :: ds, st => by
    rw [List.map_cons]
    unfold peeks
    rw [peek_dat, peeks_dat ds]
    rfl
/-- what may be read as d: frozen, or a cell's list -/
def RpS (K : Fr) (F H : Hp) (v : V) (d : D) : Prop := Rp K F v d ∨ ∃ a vs ds, v = .ref a ∧ d = .list ds ∧ H a = some (.lst vs) ∧ RpA K F vs ds
theorem RpS.list {K : Fr} {F H : Hp} {v : V} {ds : List D} (e : Same F H) (h : RpS K F H v (.list ds)) : ∃ a vs, v = .ref a ∧ H a = some (.lst vs) ∧ RpA K F vs ds := by
  rcases h with h | ⟨a, vs, es, e1, e2, e3, e4⟩
  · cases h with
    | lst h1 h2 => exact ⟨_, _, rfl, e _ _ h1, h2⟩
  · cases e2
    exact ⟨a, vs, e1, e3, e4⟩
theorem RpS.tuple {K : Fr} {F H : Hp} {v : V} {ds : List D} (h : RpS K F H v (.tuple ds)) : ∃ a vs, v = .ref a ∧ SqT K F a vs ∧ RpA K F vs ds := by
  rcases h with h | ⟨a, vs, es, e1, e2, e3, e4⟩
  · cases h with
    | tup h1 h2 => exact ⟨_, _, rfl, h1, h2⟩
  · cases e2
theorem RpS.int {K : Fr} {F H : Hp} {v : V} {i : Int} (h : RpS K F H v (.int i)) : v = .int i := by
  rcases h with h | ⟨a, vs, es, e1, e2, e3, e4⟩
  · cases h; rfl
  · cases e2
theorem RpS.bl {K : Fr} {F H : Hp} {v : V} {i : Bool} (h : RpS K F H v (.bool i)) : v = .bl i := by
  rcases h with h | ⟨a, vs, es, e1, e2, e3, e4⟩
  · cases h; rfl
  · cases e2
theorem RpS.str {K : Fr} {F H : Hp} {v : V} {i : Str} (h : RpS K F H v (.str i)) : v = .str i := by
  rcases h with h | ⟨a, vs, es, e1, e2, e3, e4⟩
  · cases h; rfl
  · cases e2
theorem RpS.non {K : Fr} {F H : Hp} {v : V} (h : RpS K F H v .none) : v = .non := by
  rcases h with h | ⟨a, vs, es, e1, e2, e3, e4⟩
  · cases h; rfl
  · cases e2
theorem RpS.dp {K : Fr} {F H : Hp} {v : V} {d : D} (e : Same F H) (h : RpS K F H v d) : Dp K H v d := by
  rcases h with h | ⟨a, vs, es, rfl, rfl, e3, e4⟩
  · exact (h.mono e).dp
  · exact .lst (.inl (.inl e3)) (e4.mono e).dp
theorem RpS.sq {K : Fr} {F H : Hp} {v : V} {ds : List D} (e : Same F H) (h : RpS K F H v (.list ds) ∨ RpS K F H v (.tuple ds)) : ∃ a vs, v = .ref a ∧ (SqL K H a vs ∨ SqT K H a vs) ∧ RpA K F vs ds := by
  rcases h with h | h
  · obtain ⟨a, vs, e1, e2, e3⟩ := h.list e
    exact ⟨a, vs, e1, .inl (.inl (.inl e2)), e3⟩
  · obtain ⟨a, vs, e1, e2, e3⟩ := h.tuple
    exact ⟨a, vs, e1, .inr (sqt_mono e e2), e3⟩
section
variable {K : Fr} {B F : Hp} {as : List Addr} {H : Hp} {st st' : Store} {u : V} {v : Vl} {d : D}
theorem RepH.cell (r : RepH K B F as H st) {k : Nat} {a : Addr} {c : Cell} (e1 : as[k]? = some a) (e2 : st[k]? = some c) : CellOk K F as H a c := r.ok k c a e2 e1
theorem peek_ok (r : RepH K B F as H st) (o : VlOk K F as u v) (h : peek v st = some d) : RpS K F H u d := by
  cases o with
  | dat o => cases h; exact .inl o
  | cel o =>
    rename_i a k
    dsimp only [peek] at h
    cases e : st[k]? with
    | none => rw [e] at h; cases h
    | some c =>
      rw [e] at h
      have q := r.cell o e
      cases c with
      | frz d2 => cases h; exact .inl q
      | lst xs =>
        obtain ⟨q1, vs, q2, q3⟩ := q
        cases e2 : unDat xs with
        | none => simp only [e2] at h; cases h
        | some ds =>
          simp only [e2] at h
          cases h
          rw [unDat_eq e2] at q3
          exact .inr ⟨_, vs, ds, rfl, rfl, q2, q3.to_rpa⟩
  | scr o => cases h
theorem peeks_ok (r : RepH K B F as H st) : ∀ {us : List V} {vs : List Vl} {ds : List D}, VlsOk K F as us vs → peeks vs st = some ds → Paired (RpS K F H) us ds
  | [], _, _, .nil, h => by cases h; exact .nil
  | u :: us, v :: vs, ds, .cons o1 o2, h => by
    unfold peeks at h
    cases e : peek v st with
    | none => rw [e] at h; cases h
    | some d =>
      rw [e] at h
      cases e2 : peeks vs st with
      | none => rw [e2] at h; cases h
      | some es =>
        rw [e2] at h
        cases h
        exact .cons (peek_ok r o1 e) (peeks_ok r o2 e2)
theorem toD_ok (r : RepH K B F as H st) (o : VlOk K F as u v) (h : toD v st = .ok d st') : ∃ F', Grow B F F' as as ∧ RepH K B F' as H st' ∧ Rp K F' u d := by
  cases o with
  | dat o => cases h; exact ⟨F, Grow.refl, r, o⟩
  | cel o =>
    rename_i a k
    dsimp only [toD] at h
    cases e : st[k]? with
    | none => rw [e] at h; cases h
    | some c =>
      rw [e] at h
      have q := r.cell o e
      cases c with
      | frz d2 => cases h; exact ⟨F, Grow.refl, r, q⟩
      | lst xs =>
        obtain ⟨q1, vs, q2, q3⟩ := q
        cases e2 : unDat xs with
        | none => simp only [e2] at h; cases h
        | some ds =>
          simp only [e2] at h
          cases h
          rw [unDat_eq e2] at q3
          have hA : a ∈ as := List.mem_of_getElem? o
          have ff : Same F (upd F a (.lst vs)) := fun b z q => by
            rw [upd_ne (ne_of_none q q1)]
            exact q
          have rp : Rp K (upd F a (.lst vs)) (.ref a) (.list ds) := .lst upd_same (q3.to_rpa.mono ff)
          refine ⟨upd F a (.lst vs), ⟨ff, fun b h1 h2 => ?_, List.prefix_refl _⟩, ⟨fun b z q => ?_, r.bh, r.nd, by rw [List.length_set]; exact r.len, r.bn, r.hs, fun j c b e3 e4 => ?_⟩, rp⟩
          · rw [upd_ne (fun z => by subst z; exact h1 (r.bn _ hA))]
            exact h2
          · by_cases hb : b = a
            · subst hb
              rw [upd_same] at q
              cases q
              exact q2
            · rw [upd_ne hb] at q
              exact r.fh _ _ q
          · by_cases hj : k = j
            · subst hj
              rw [o] at e4
              cases e4
              rw [List.getElem?_set_self (List.getElem?_eq_some_iff.mp e).1] at e3
              cases e3
              exact rp
            · rw [List.getElem?_set_ne hj] at e3
              have qj := r.cell e4 e3
              have hne : b ≠ a := fun z => by
                subst z
                obtain ⟨l1, g1⟩ := List.getElem?_eq_some_iff.mp o
                obtain ⟨l2, g2⟩ := List.getElem?_eq_some_iff.mp e4
                exact hj ((List.getElem_inj r.nd).mp (g1.trans g2.symm))
              cases c with
              | frz d2 => exact Rp.mono ff qj
              | lst ys =>
                obtain ⟨p1, ws, p2, p3⟩ := qj
                exact ⟨by rw [upd_ne hne]; exact p1, ws, p2, p3.mono' ff (List.prefix_refl _)⟩
  | scr o => cases h
theorem toDs_ok : ∀ {us : List V} {vs : List Vl} {F : Hp} {st st' : Store} {ds : List D}, RepH K B F as H st → VlsOk K F as us vs → toDs vs st = .ok ds st' → ∃ F', Grow B F F' as as ∧ RepH K B F' as H st' ∧ RpA K F' us ds
  | [], _, F, _, _, _, r, .nil, h => by cases h; exact ⟨F, Grow.refl, r, .nil⟩
  | u :: us, v :: vs, F, st, st', ds, r, .cons o1 o2, h => by
    unfold toDs at h
    cases e : toD v st with
    | exc c p z => rw [e] at h; cases h
    | no => rw [e] at h; cases h
    | ok d st1 =>
      rw [e, Res.bind_ok] at h
      cases e2 : toDs vs st1 with
      | exc c p z => rw [e2] at h; cases h
      | no => rw [e2] at h; cases h
      | ok es st2 =>
        rw [e2, Res.bind_ok] at h
        cases h
        obtain ⟨F1, g1, r1, p1⟩ := toD_ok r o1 e
        obtain ⟨F2, g2, r2, p2⟩ := toDs_ok r1 (VlsOk.mono g1 o2) e2
        exact ⟨F2, g1.trans g2, r2, .cons (p1.mono g2.sub) p2⟩
end
/-- toD never raises -/
theorem toD_res (v : Vl) (st : Store) : (∃ d st', toD v st = .ok d st') ∨ toD v st = .no := by
  unfold toD
  split
  · exact .inl ⟨_, _, rfl⟩
  · split
    · exact .inl ⟨_, _, rfl⟩
    · split
      · exact .inl ⟨_, _, rfl⟩
      · exact .inr rfl
    · exact .inr rfl
  · exact .inr rfl
theorem toDs_res : ∀ (vs : List Vl) (st : Store), (∃ d st', toDs vs st = .ok d st') ∨ toDs vs st = .no
  | [], _ => .inl ⟨_, _, rfl⟩
  | v :: vs, st => by
    unfold toDs
    rcases toD_res v st with ⟨d, st1, e⟩ | e
    · rw [e, Res.bind_ok]
      rcases toDs_res vs st1 with ⟨ds, st2, e2⟩ | e2
      · rw [e2]; exact .inl ⟨_, _, rfl⟩
      · rw [e2]; exact .inr rfl
    · rw [e]; exact .inr rfl

/-! ### denotations -/
def cst (d : D) : EM := fun _ st => .ok (.dat d) st
def vr (i : Nat) : EM := fun s st => match s[i]? with
  | some (some v) => .ok v st
  | _ => .no
def op2 (h : D → D → Option D) (f g : EM) : EM := fun s st => (f s st).bind fun a st1 => (g s st1).bind fun b st2 => match peek a st2, peek b st2 with
  | some x, some y => (match h x y with
    | some z => .ok (.dat z) st2
    | none => .no)
  | _, _ => .no
def op1 (h : D → Option D) (f : EM) : EM := fun s st => (f s st).bind fun a st1 => match peek a st1 with
  | some x => (match h x with
    | some z => .ok (.dat z) st1
    | none => .no)
  | none => .no
def opN (h : List D → Option D) (m : AM) : EM := fun s st => (m s st).bind fun vs st1 => match peeks vs st1 with
  | some ds => (match h ds with
    | some z => .ok (.dat z) st1
    | none => .no)
  | none => .no
def aNil : AM := fun _ st => .ok [] st
def aCons (f : EM) (m : AM) : AM := fun s st => (f s st).bind fun v st1 => (m s st1).bind fun vs st2 => .ok (v :: vs) st2
def tupM (m : AM) : EM := fun s st => (m s st).bind fun vs st1 => (toDs vs st1).bind fun ds st2 => if ds.length ≤ sizeLine then .ok (.dat (.tuple ds)) st2 else .no
/-- a list display: frozen | a cell of its own -/
def lstD (m : AM) : EM := fun s st => (m s st).bind fun vs st1 => (toDs vs st1).bind fun ds st2 => if ds.length ≤ sizeLine then .ok (.dat (.list ds)) st2 else .no
def lstC (m : AM) : EM := fun s st => (m s st).bind fun vs st1 => if vs.length ≤ sizeLine then .ok (.cel st1.length) (st1 ++ [.lst vs]) else .no
def callM (g : List Vl → Store → Res Vl) (m : AM) : EM := fun s st => (m s st).bind g
def ifE (c : TM) (f g : EM) : EM := fun s st => (c s st).bind fun b st1 => if b = true then f s st1 else g s st1
def truD : D → Option Bool
  | .none => some false
  | .bool b => some b
  | .int i => some (i != 0)
  | .str x => if x.length ≤ sizeLine then some ((x.length : Int) != 0) else none
  | .list xs => some (!xs.isEmpty)
  | .tuple xs => some (!xs.isEmpty)
  | .dict _ => none
def truM (f : EM) : TM := fun s st => (f s st).bind fun a st1 => match peek a st1 with
  | some x => (match truD x with
    | some b => .ok b st1
    | none => .no)
  | none => .no
def andT (c d : TM) : TM := fun s st => (c s st).bind fun b st1 => if b = true then d s st1 else .ok false st1
def orT (c d : TM) : TM := fun s st => (c s st).bind fun b st1 => if b = true then .ok true st1 else d s st1
def notT (c : TM) : TM := fun s st => (c s st).bind fun b st1 => .ok (!b) st1
def andE (f g : EM) : EM := fun s st => (f s st).bind fun a st1 => match a with
  | .dat (.bool b) => if b = true then g s st1 else .ok (.dat (.bool false)) st1
  | _ => .no
def orE (f g : EM) : EM := fun s st => (f s st).bind fun a st1 => match a with
  | .dat (.bool b) => if b = true then .ok (.dat (.bool true)) st1 else g s st1
  | _ => .no
def notE (f : EM) : EM := fun s st => (f s st).bind fun a st1 => match a with
  | .dat (.bool b) => .ok (.dat (.bool (!b))) st1
  | _ => .no

/-! ### operations on data -/
section
variable (K : Fr)
def OpD (r : R2) (h : D → D → Option D) : Prop := ∀ F H x y a b c (Q : VK), Same F H → RpS K F H x a → RpS K F H y b → h a b = some c → (∀ u F' H', Ext F H F' H' → Rp K F' u c → Q u H') → r x y H Q
def Op1 (r : V → Hp → VK → Prop) (h : D → Option D) : Prop := ∀ F H x a c (Q : VK), Same F H → RpS K F H x a → h a = some c → (∀ u F' H', Ext F H F' H' → Rp K F' u c → Q u H') → r x H Q
def OpNd (r : List V → Hp → VK → Prop) (h : List D → Option D) : Prop := ∀ F H xs ds c (Q : VK), Same F H → Paired (RpS K F H) xs ds → h ds = some c → (∀ u F' H', Ext F H F' H' → Rp K F' u c → Q u H') → r xs H Q
end
section
variable {K : Fr} {cl : Nat → Value} {W : WX}
/-- from a word about one result to the reading of what follows -/
theorem den_bind {α β : Type} {f : Slots → Store → Res α} {k : α → Slots → Store → Res β} {σ : St} {H : Hp} {G : β → Store → Hp → List Addr → Hp → Prop} {G2 : α → Store → Hp → List Addr → Hp → Prop}
    (h : den K cl W (fun s st => (f s st).bind fun a st1 => k a s st1) σ H G)
    (hk : ∀ B F as s a st1 H1, RepH K B F as H1 st1 → SlOk K F as σ s → postR K cl W B F as σ G (k a s st1) → G2 a st1 F as H1) : den K cl W f σ H G2 := by
  obtain ⟨B, F, as, s, st, r, o, p⟩ := h
  exact ⟨B, F, as, s, st, r, o, post_mono (post_bind p) fun a st1 F1 as1 H1 _ g1 r1 q => hk B F1 as1 s a st1 H1 r1 (o.mono g1) q⟩
theorem op2_den {r : R2} {h : D → D → Option D} (hd : OpD K r h) {f g : EM} {σ : St} {H : Hp} {Q : VK} (p : denE K cl W (op2 h f g) σ H Q) : tOp r (denE K cl W f) (denE K cl W g) σ H Q := by
  refine den_bind p fun B F as s a st1 H1 r1 o1 q u hu => ?_
  refine ⟨B, F, as, s, st1, r1, o1, post_mono (post_bind q) fun b st2 F2 as2 H2 _ g2 r2 q2 w hw => ?_⟩
  cases ea : peek a st2 with
  | none => rw [ea] at q2; exact q2.elim
  | some x =>
    cases eb : peek b st2 with
    | none => rw [ea, eb] at q2; exact q2.elim
    | some y =>
      rw [ea, eb] at q2
      cases eh : h x y with
      | none => simp only [eh] at q2; exact q2.elim
      | some z =>
        simp only [eh] at q2
        refine hd F2 H2 u w x y z Q r2.fh (peek_ok r2 (hu.mono g2) ea) (peek_ok r2 hw eb) eh fun v F3 H3 x3 rp => ?_
        exact q2 F3 as2 H3 (x3.grow r2) (r2.ext x3) v (.dat rp)
theorem op1_den {r : V → Hp → VK → Prop} {h : D → Option D} (hd : Op1 K r h) {f : EM} {σ : St} {H : Hp} {Q : VK} (p : denE K cl W (op1 h f) σ H Q) : denE K cl W f σ H fun x H1 => r x H1 Q := by
  refine den_bind p fun B F as s a st1 H1 r1 o1 q u hu => ?_
  cases ea : peek a st1 with
  | none => rw [ea] at q; exact q.elim
  | some x =>
    rw [ea] at q
    cases eh : h x with
    | none => simp only [eh] at q; exact q.elim
    | some z =>
      simp only [eh] at q
      exact hd F H1 u x z Q r1.fh (peek_ok r1 hu ea) eh fun v F3 H3 x3 rp => q F3 as H3 (x3.grow r1) (r1.ext x3) v (.dat rp)
theorem opN_den {r : List V → Hp → VK → Prop} {h : List D → Option D} (hd : OpNd K r h) {m : AM} {σ : St} {H : Hp} {Q : VK} (p : denE K cl W (opN h m) σ H Q) : denA K cl W m σ H fun xs H1 => r xs H1 Q := by
  refine den_bind p fun B F as s a st1 H1 r1 o1 q us hu => ?_
  cases ea : peeks a st1 with
  | none => rw [ea] at q; exact q.elim
  | some ds =>
    rw [ea] at q
    cases eh : h ds with
    | none => simp only [eh] at q; exact q.elim
    | some z =>
      simp only [eh] at q
      exact hd F H1 us ds z Q r1.fh (peeks_ok r1 hu ea) eh fun v F3 H3 x3 rp => q F3 as H3 (x3.grow r1) (r1.ext x3) v (.dat rp)
end

/-! ### the rules -/
section
variable {X : Cx} {cl : Nat → Value} {W : WX} {e a b : Expr} {es : List Expr} {pos : Pos} {f g : EM} {m : AM} {c d : TM}
theorem qe_cst {v : V} {x : D} (h : PE X e (tC v)) (r : ∀ F, Rp X.K F v x) : PE X e (denE X.K cl W (cst x)) := PE.imp h fun σ H Q q => by
  obtain ⟨B, F, as, s, st, rp, o, p⟩ := q
  exact post_ok p rp v (.dat (r F))
theorem qe_int {i : Int} {j : Nat} : PE X (.Constant (.int i) j pos) (denE X.K cl W (cst (.int i))) := qe_cst pe_int fun _ => .int i
theorem qe_bl {i : Bool} {j : Nat} : PE X (.Constant (.bool i) j pos) (denE X.K cl W (cst (.bool i))) := qe_cst pe_bl fun _ => .bl i
theorem qe_non {j : Nat} : PE X (.Constant .none j pos) (denE X.K cl W (cst .none)) := qe_cst pe_non fun _ => .non
theorem qe_str {i : Str} {j : Nat} : PE X (.Constant (.str i) j pos) (denE X.K cl W (cst (.str i))) := qe_cst pe_str fun _ => .str i
theorem qe_glob {x : Str} {v : V} {u : Value} {d : D} (hg : Gl X x) (hm : X.mg x = some u) (r : RelV v u) (k : ∀ F, Rp X.K F v d) (hd : (x == ("__debug__" : Str)) = false := by decide) : PE X (.Name x pos) (denE X.K cl W (cst d)) := qe_cst (pe_glob hg hm r hd) k
theorem vr_den {K : Fr} {i : Nat} {σ : St} {H : Hp} {Q : VK} (q : denE K cl W (vr i) σ H Q) : tVar i σ H Q := by
  obtain ⟨B, F, as, s, st, rp, o, p⟩ := q
  unfold vr at p
  split at p
  · rename_i v e
    obtain ⟨u, e1, e2⟩ := o.2 i v e
    exact ⟨u, e1, post_ok p rp u e2⟩
  · exact p.elim
theorem qe_var (i : Nat) {x : Str} (hN : X.N[i]? = some x := by rfl) (hv : Vis X.env.scope x := by first | exact Or.inl rfl | exact Or.inr (Or.inl rfl) | exact Or.inr (Or.inr rfl)) (hd : (x == ("__debug__" : Str)) = false := by decide)
    (hcd : (x == ("__classdict__" : Str)) = false := by decide) : PE X (.Name x pos) (denE X.K cl W (vr i)) := PE.imp (pe_var hN hv hd hcd) fun _ _ _ q => vr_den q
theorem qe_bin {op : Operator} {r : R2} {h : D → D → Option D} (ho : OpR X (binaryOp op) r) (hd : OpD X.K r h) (ha : PE X a (denE X.K cl W f)) (hb : PE X b (denE X.K cl W g)) : PE X (.BinOp a op b pos) (denE X.K cl W (op2 h f g)) :=
  PE.imp (pe_op ho ha hb) fun _ _ _ q => op2_den hd q
theorem qe_cmp {op : CmpOp} {r : R2} {h : D → D → Option D} (ho : OpR X (compareOp op) r) (hd : OpD X.K r h) (ha : PE X a (denE X.K cl W f)) (hb : PE X b (denE X.K cl W g)) (hm : behindInMarks op b = false) : PE X (.Compare a [op] [b] pos) (denE X.K cl W (op2 h f g)) :=
  PE.imp (pe_cmpR ho ha hb hm) fun _ _ _ q => op2_den hd q
theorem qe_ix {r : R2} {h : D → D → Option D} (ho : IxR X r) (hd : OpD X.K r h) (ha : PE X a (denE X.K cl W f)) (hb : PE X b (denE X.K cl W g)) (hs : PlainIx b) : PE X (.Subscript a b pos) (denE X.K cl W (op2 h f g)) :=
  PE.imp (pe_ix ho ha hb hs) fun _ _ _ q => op2_den hd q
theorem qe_un {op : UnaryOp} {r : V → Hp → VK → Prop} {h : D → Option D} (ho : UnR X (unaryOp op) r) (hd : Op1 X.K r h) (ha : PE X a (denE X.K cl W f)) : PE X (.UnaryOp op a pos) (denE X.K cl W (op1 h f)) :=
  PE.imp (pe_un ho ha) fun _ _ _ q => op1_den hd q
/-! arguments -/
theorem qa_nil : PA X [] (denA X.K cl W aNil) := PA.imp pa_nil fun σ H Q q => by
  obtain ⟨B, F, as, s, st, rp, o, p⟩ := q
  exact post_ok p rp [] .nil
theorem aCons_den {K : Fr} {σ : St} {H : Hp} {Q : List V → Hp → Prop} (q : denA K cl W (aCons f m) σ H Q) : tCons (denE K cl W f) (denA K cl W m) σ H Q := by
  refine den_bind q fun B F as s v st1 H1 r1 o1 q u hu => ?_
  refine ⟨B, F, as, s, st1, r1, o1, post_mono (post_bind q) fun vs st2 F2 as2 H2 _ g2 r2 q2 us hus => ?_⟩
  exact post_ok q2 r2 (u :: us) (.cons (hu.mono g2) hus)
theorem qa_cons (ha : PE X e (denE X.K cl W f)) (hr : PA X es (denA X.K cl W m)) (hs : starEach (e :: es) X.env = (false, eval e X.env) :: starEach es X.env := by rfl) : PA X (e :: es) (denA X.K cl W (aCons f m)) :=
  PA.imp (pa_cons ha hr hs) fun _ _ _ q => aCons_den q
/-! displays -/
theorem tup_frozen {K : Fr} {B F : Hp} {as : List Addr} {H : Hp} {st : Store} {us : List V} {ds : List D} {p : Addr} (r : RepH K B F as H st) (h : RpA K F us ds) (hp : H p = none) :
    Grow B F (upd F p (.tup us)) as as ∧ RepH K B (upd F p (.tup us)) as (upd H p (.tup us)) st ∧ Rp K (upd F p (.tup us)) (.ref p) (.tuple ds) := by
  have x := Ext.new (o := .tup us) r.fh hp
  exact ⟨x.grow r, r.ext x, .tup (.inl (.inl upd_same)) (h.mono x.f)⟩
theorem lst_frozen {K : Fr} {B F : Hp} {as : List Addr} {H : Hp} {st : Store} {us : List V} {ds : List D} {p : Addr} (r : RepH K B F as H st) (h : RpA K F us ds) (hp : H p = none) :
    Grow B F (upd F p (.lst us)) as as ∧ RepH K B (upd F p (.lst us)) as (upd H p (.lst us)) st ∧ Rp K (upd F p (.lst us)) (.ref p) (.list ds) := by
  have x := Ext.new (o := .lst us) r.fh hp
  exact ⟨x.grow r, r.ext x, .lst upd_same (h.mono x.f)⟩
/-- a new cell -/
theorem cell_new {K : Fr} {B F : Hp} {as : List Addr} {H : Hp} {st : Store} {us : List V} {vs : List Vl} {p : Addr} (r : RepH K B F as H st) (h : VlsOk K F as us vs) (hp : H p = none) :
    Grow B F F as (as ++ [p]) ∧ RepH K B F (as ++ [p]) (upd H p (.lst us)) (st ++ [.lst vs]) ∧ VlOk K F (as ++ [p]) (.ref p) (.cel st.length) := by
  have hnew : p ∉ as := fun z => r.hs p z hp
  have hx : as <+: as ++ [p] := List.prefix_append _ _
  have hl : (as ++ [p])[st.length]? = some p := by
    rw [← r.len, List.getElem?_append_right (Nat.le_refl _), Nat.sub_self]
    rfl
  refine ⟨⟨Same.refl _, fun _ _ h => h, hx⟩, ⟨fun a o q => ?_, fun a o q => ?_, ?_, by simp [r.len], fun a ha => ?_, fun a ha => ?_, fun k c a e1 e2 => ?_⟩, .cel hl⟩
  · have := r.fh _ _ q
    rw [upd_ne (ne_of_none this hp)]
    exact this
  · have := r.bh _ _ q
    rw [upd_ne (ne_of_none this hp)]
    exact this
  · exact List.nodup_append.mpr ⟨r.nd, by simp, fun a ha b hb => by
      have : b = p := by simpa using hb
      subst this
      exact fun z => hnew (z ▸ ha)⟩
  · rcases List.mem_append.mp ha with ha | ha
    · exact r.bn a ha
    · have : a = p := by simpa using ha
      subst this
      exact r.bh.free hp
  · rcases List.mem_append.mp ha with ha | ha
    · have hne : a ≠ p := fun z => hnew (z ▸ ha)
      rw [upd_ne hne]
      exact r.hs a ha
    · have : a = p := by simpa using ha
      subst this
      rw [upd_same]
      exact fun z => by cases z
  · by_cases hk : k < st.length
    · rw [List.getElem?_append_left hk] at e1
      rw [List.getElem?_append_left (by rw [r.len]; exact hk)] at e2
      have q := r.ok k c a e1 e2
      have ha : a ∈ as := List.mem_of_getElem? e2
      have hne : a ≠ p := fun z => hnew (z ▸ ha)
      cases c with
      | frz d => exact q
      | lst xs =>
        obtain ⟨q1, ws, q2, q3⟩ := q
        exact ⟨q1, ws, by rw [upd_ne hne]; exact q2, q3.mono' (Same.refl _) hx⟩
    · have hk2 : k < st.length + 1 := by
        have := (List.getElem?_eq_some_iff.mp e1).1
        simpa using this
      have hk3 : k = st.length := by omega
      subst hk3
      rw [hl] at e2
      cases e2
      rw [List.getElem?_append_right (Nat.le_refl _), Nat.sub_self] at e1
      cases e1
      exact ⟨r.fh.free hp, us, upd_same, h.mono' (Same.refl _) hx⟩
theorem qe_tup {j : Nat} (h : PA X es (denA X.K cl W m)) : PE X (.Tuple es j pos) (denE X.K cl W (tupM m)) := PE.imp (pe_tup h) fun σ H Q q => by
  refine den_bind q fun B F as s vs st1 H1 r1 o1 q us hus => ?_
  rcases toDs_res vs st1 with ⟨ds, st2, e⟩ | e
  · rw [e, Res.bind_ok] at q
    obtain ⟨F2, g2, r2, p2⟩ := toDs_ok r1 hus e
    split at q
    · rename_i hl
      refine ⟨by rw [p2.len]; exact hl, fun p hp => ?_⟩
      obtain ⟨g3, r3, p3⟩ := tup_frozen r2 p2 hp
      exact q _ _ _ (g2.trans g3) r3 _ (.dat p3)
    · exact q.elim
  · rw [e] at q
    exact q.elim
theorem qe_lstD (h : PA X es (denA X.K cl W m)) : PE X (.List es pos) (denE X.K cl W (lstD m)) := PE.imp (pe_lst h) fun σ H Q q => by
  refine den_bind q fun B F as s vs st1 H1 r1 o1 q us hus => ?_
  rcases toDs_res vs st1 with ⟨ds, st2, e⟩ | e
  · rw [e, Res.bind_ok] at q
    obtain ⟨F2, g2, r2, p2⟩ := toDs_ok r1 hus e
    split at q
    · rename_i hl
      refine ⟨by rw [p2.len]; exact hl, fun p hp => ?_⟩
      obtain ⟨g3, r3, p3⟩ := lst_frozen r2 p2 hp
      exact q _ _ _ (g2.trans g3) r3 _ (.dat p3)
    · exact q.elim
  · rw [e] at q
    exact q.elim
theorem qe_lstC (h : PA X es (denA X.K cl W m)) : PE X (.List es pos) (denE X.K cl W (lstC m)) := PE.imp (pe_lst h) fun σ H Q q => by
  refine den_bind q fun B F as s vs st1 H1 r1 o1 q us hus => ?_
  split at q
  · rename_i hl
    refine ⟨by rw [Paired.length hus]; exact hl, fun p hp => ?_⟩
    obtain ⟨g3, r3, p3⟩ := cell_new r1 hus hp
    exact q _ _ _ g3 r3 _ p3
  · exact q.elim
/-! tests -/
theorem tru_ok2 {K : Fr} {F H : Hp} {v : V} {x : D} {k : Bool} (e : Same F H) (h : RpS K F H v x) (ht : truD x = some k) : TruV K v H k := by
  cases x with
  | none => rw [h.non]; cases ht; rfl
  | bool b => rw [h.bl]; cases ht; rfl
  | int i => rw [h.int]; cases ht; rfl
  | str z =>
    rw [h.str]
    dsimp only [truD] at ht
    split at ht
    · cases ht
      exact ⟨by assumption, rfl⟩
    · cases ht
  | list xs =>
    obtain ⟨a, vs, rfl, h1, h2⟩ := h.list e
    cases ht
    refine .inl ⟨vs, .inl (.inl h1), ?_⟩
    cases h2 <;> rfl
  | tuple xs =>
    obtain ⟨a, vs, rfl, h1, h2⟩ := h.tuple
    cases ht
    refine .inr (.inl ⟨vs, sqt_mono e h1, ?_⟩)
    cases h2 <;> rfl
  | dict kvs => cases ht
theorem truM_den {K : Fr} {σ : St} {H : Hp} {Q : Bool → Hp → Prop} (q : denT K cl W (truM f) σ H Q) : denE K cl W f σ H fun x H1 => ∃ k, TruV K x H1 k ∧ Q k H1 := by
  refine den_bind q fun B F as s a st1 H1 r1 o1 q u hu => ?_
  cases ea : peek a st1 with
  | none => rw [ea] at q; exact q.elim
  | some x =>
    rw [ea] at q
    cases et : truD x with
    | none => simp only [et] at q; exact q.elim
    | some k =>
      simp only [et] at q
      exact ⟨k, tru_ok2 r1.fh (peek_ok r1 hu ea) et, post_ok q r1⟩
/-- a test by its value's truth -/
theorem qt_val (ha : PE X a (denE X.K cl W f)) (he : ∀ whole, isTrue a X.env whole = (do let v ← whole; standAt a.pos; holding [v] (truthy v)) := by intro _; rfl) : PT X a (denT X.K cl W (truM f)) :=
  PT.imp (pt_truth ha he) fun _ _ _ q => truM_den q
theorem truM_bool {K : Fr} {σ : St} {H : Hp} {Q : Bool → Hp → Prop} (q : denT K cl W (truM f) σ H Q) (hb : ∀ s st v st1, f s st = .ok v st1 → ∃ b, v = .dat (.bool b)) : denE K cl W f σ H fun x H1 => ∃ k, x = .bl k ∧ Q k H1 := by
  obtain ⟨B, F, as, s, st, r, o, p⟩ := q
  refine ⟨B, F, as, s, st, r, o, post_mono (post_bind p) fun a st1 F1 as1 H1 ea g1 r1 q u hu => ?_⟩
  obtain ⟨b, rfl⟩ := hb s st a st1 ea
  cases hu with
  | dat hu =>
    cases hu
    exact ⟨b, rfl, post_ok q r1⟩
/-- h gives bools alone -/
def BoolOp2 (h : D → D → Option D) : Prop := ∀ a b c, h a b = some c → ∃ k, c = .bool k
theorem op2_bool {h : D → D → Option D} (hb : BoolOp2 h) {s : Slots} {st st1 : Store} {v : Vl} (e : op2 h f g s st = .ok v st1) : ∃ b, v = .dat (.bool b) := by
  unfold op2 at e
  cases e1 : f s st with
  | exc c p z => rw [e1] at e; cases e
  | no => rw [e1] at e; cases e
  | ok a sa =>
    rw [e1, Res.bind_ok] at e
    cases e2 : g s sa with
    | exc c p z => rw [e2] at e; cases e
    | no => rw [e2] at e; cases e
    | ok b sb =>
      rw [e2, Res.bind_ok] at e
      split at e
      · split at e
        · rename_i x y _ _ z hz
          cases e
          obtain ⟨k, rfl⟩ := hb _ _ _ hz
          exact ⟨k, rfl⟩
        · cases e
      · cases e
theorem qt_cmp {op : CmpOp} {r : R2} {h : D → D → Option D} (ho : OpR X (compareOp op) r) (hd : OpD X.K r h) (hb2 : BoolOp2 h) (ha : PE X a (denE X.K cl W f)) (hb : PE X b (denE X.K cl W g)) (hm : behindInMarks op b = false) : PT X (.Compare a [op] [b] pos) (denT X.K cl W (truM (op2 h f g))) :=
  PT.imp (pt_cmpR ho ha hb hm) fun σ H Q q => op2_den hd (truM_bool q fun s st v st1 e => op2_bool hb2 e)
theorem andT_den {K : Fr} {σ : St} {H : Hp} {Q : Bool → Hp → Prop} (q : denT K cl W (andT c d) σ H Q) : tAnd (denT K cl W c) (denT K cl W d) σ H Q := by
  refine den_bind q fun B F as s b st1 H1 r1 o1 q => ?_
  cases b with
  | true => exact ⟨B, F, as, s, st1, r1, o1, q⟩
  | false => exact post_ok q r1
theorem orT_den {K : Fr} {σ : St} {H : Hp} {Q : Bool → Hp → Prop} (q : denT K cl W (orT c d) σ H Q) : tOr (denT K cl W c) (denT K cl W d) σ H Q := by
  refine den_bind q fun B F as s b st1 H1 r1 o1 q => ?_
  cases b with
  | true => exact post_ok q r1
  | false => exact ⟨B, F, as, s, st1, r1, o1, q⟩
theorem qw_and1 (ha : PT X a (denT X.K cl W c)) : PW X (.BoolOp .And [a] pos) (denT X.K cl W c) := pw_and1 ha
theorem qw_or1 (ha : PT X a (denT X.K cl W c)) : PW X (.BoolOp .Or [a] pos) (denT X.K cl W c) := pw_or1 ha
theorem qw_and {rest : List Expr} (ha : PT X a (denT X.K cl W c)) (hb : PW X (.BoolOp .And (b :: rest) pos) (denT X.K cl W d)) : PW X (.BoolOp .And (a :: b :: rest) pos) (denT X.K cl W (andT c d)) := PW.imp (pw_and ha hb) fun _ _ _ q => andT_den q
theorem qw_or {rest : List Expr} (ha : PT X a (denT X.K cl W c)) (hb : PW X (.BoolOp .Or (b :: rest) pos) (denT X.K cl W d)) : PW X (.BoolOp .Or (a :: b :: rest) pos) (denT X.K cl W (orT c d)) := PW.imp (pw_or ha hb) fun _ _ _ q => orT_den q
theorem qt_not (ha : PT X a (denT X.K cl W c)) : PT X (.UnaryOp .Not a pos) (denT X.K cl W (notT c)) := PT.imp (pt_not ha) fun σ H Q q => by
  refine den_bind q fun B F as s b st1 H1 r1 o1 q => ?_
  exact post_ok q r1
theorem qe_ifE {t : Expr} (hc : PT X t (denT X.K cl W c)) (ha : PE X a (denE X.K cl W f)) (hb : PE X b (denE X.K cl W g)) : PE X (.IfExp t a b pos) (denE X.K cl W (ifE c f g)) := PE.imp (pe_ifExp hc ha hb) fun σ H Q q => by
  refine den_bind q fun B F as s b st1 H1 r1 o1 q => ?_
  cases b with
  | true => exact ⟨B, F, as, s, st1, r1, o1, q⟩
  | false => exact ⟨B, F, as, s, st1, r1, o1, q⟩
theorem qe_one {op : BoolOp} (h : PE X a (denE X.K cl W f)) : PE X (.BoolOp op [a] pos) (denE X.K cl W f) := pe_one h
theorem qe_and {rest : List Expr} (ha : PE X a (denE X.K cl W f)) (hb : PE X (.BoolOp .And (b :: rest) pos) (denE X.K cl W g)) : PE X (.BoolOp .And (a :: b :: rest) pos) (denE X.K cl W (andE f g)) := PE.imp (pe_and ha hb) fun σ H Q q => by
  refine den_bind q fun B F as s v st1 H1 r1 o1 q u hu => ?_
  split at q
  · cases hu with
    | dat hu =>
      cases hu
      refine ⟨_, rfl, ?_⟩
      rename_i k
      cases k with
      | true => exact ⟨B, F, as, s, st1, r1, o1, q⟩
      | false => exact post_ok q r1 _ (.dat (.bl false))
  · exact q.elim
theorem qe_or {rest : List Expr} (ha : PE X a (denE X.K cl W f)) (hb : PE X (.BoolOp .Or (b :: rest) pos) (denE X.K cl W g)) : PE X (.BoolOp .Or (a :: b :: rest) pos) (denE X.K cl W (orE f g)) := PE.imp (pe_or ha hb) fun σ H Q q => by
  refine den_bind q fun B F as s v st1 H1 r1 o1 q u hu => ?_
  split at q
  · cases hu with
    | dat hu =>
      cases hu
      refine ⟨_, rfl, ?_⟩
      rename_i k
      cases k with
      | true => exact post_ok q r1 _ (.dat (.bl true))
      | false => exact ⟨B, F, as, s, st1, r1, o1, q⟩
  · exact q.elim
theorem qe_not (ha : PE X a (denE X.K cl W f)) : PE X (.UnaryOp .Not a pos) (denE X.K cl W (notE f)) := PE.imp (pe_not ha) fun σ H Q q => by
  refine den_bind q fun B F as s v st1 H1 r1 o1 q u hu => ?_
  split at q
  · cases hu with
    | dat hu =>
      cases hu
      exact ⟨_, rfl, post_ok q r1 _ (.dat (.bl _))⟩
  · exact q.elim
/-! calls -/
theorem qe_callB {id : String} {x : Str} {p : Pos} {r : List V → Hp → VK → Prop} {h : List D → Option D} (hc : CallR X (.builtin id) r) (hd : OpNd X.K r h) (hg : Gl X x) (hm : X.mg x = none) (hv : bootBuiltins x = some (.builtin id)) (ha : PA X (e :: es) (denA X.K cl W m))
    (hn : x ≠ "__name__" := by decide) (hdb : (x == ("__debug__" : Str)) = false := by decide) (he : starEach (e :: es) X.env = (false, eval e X.env) :: starEach es X.env := by rfl) (hpl : (backTo pos (starEach es X.env)).any (·.1) = false := by rfl) :
    PE X (.Call (.Name x p) (e :: es) [] pos) (denE X.K cl W (opN h m)) := PE.imp (pe_callB hc hg hm hv ha hn hdb he hpl) fun _ _ _ q => opN_den hd q
theorem qe_callTy {T : String} {x : Str} {p : Pos} {r : List V → Hp → VK → Prop} {h : List D → Option D} (hc : CallR X (.type T) r) (hd : OpNd X.K r h) (hg : Gl X x) (hm : X.mg x = none) (hv : bootBuiltins x = some (.type T)) (ha : PA X (e :: es) (denA X.K cl W m))
    (hn : x ≠ "__name__" := by decide) (hdb : (x == ("__debug__" : Str)) = false := by decide) (he : starEach (e :: es) X.env = (false, eval e X.env) :: starEach es X.env := by rfl) (hpl : (backTo pos (starEach es X.env)).any (·.1) = false := by rfl) :
    PE X (.Call (.Name x p) (e :: es) [] pos) (denE X.K cl W (opN h m)) := PE.imp (pe_callTy hc hg hm hv ha hn hdb he hpl) fun _ _ _ q => opN_den hd q
end
/-- a def's promise by its denotation -/
def spV (K : Fr) (cl : Nat → Value) (g : List Vl → Store → Res Vl) : Sp := fun vs H Q E => ∃ B F as args st, RepH K B F as H st ∧ VlsOk K F as vs args ∧
  postR K cl (fun c d _ H' => E c d H') B F as [] (fun v _ F' as' H' => ∀ u, VlOk K F' as' u v → Q u H') (g args st)
section
variable {X : Cx} {cl : Nat → Value} {W : WX} {e : Expr} {es : List Expr} {pos : Pos} {m : AM}
theorem passAt2 {X : Cx} {W : WX} (tk : Takes X W) (σ : St) : ∀ (pins : List (Addr × Obj)) (H : Hp) (s : Shared) (e : Value) (s' : Shared), Inv X pins σ H s → L2.CX X.prog X.w X.stack H s (fun c d H' => W c d σ H') e s' → X.xe e s' :=
  fun pins H s e s' I c => tk e s' (XE.of_call I (fun _ _ _ q => q) c)
theorem qe_call {k : Nat} {f : Addr} {fd : FuncData} {ps : List Str} {g : List Vl → Store → Res Vl} {x : Str} {p : Pos} (F : FnOk X.prog X.w X.K X.mg X.base (L2.CX X.prog X.w) k f fd ps (spV X.K cl g)) (hr : Room k X.A) (hg : Gl X x) (hm : X.mg x = some (.ref f))
    (hk : PySem.W.keepIn X.K (.ref f) = true) (hb : Binds X.K fd ps []) (tk : Takes X W) (ha : PA X (e :: es) (denA X.K cl W m)) (hdb : (x == ("__debug__" : Str)) = false := by decide) (he : starEach (e :: es) X.env = (false, eval e X.env) :: starEach es X.env := by rfl)
    (hpl : (backTo pos (starEach es X.env)).any (·.1) = false := by rfl) : PE X (.Call (.Name x p) (e :: es) [] pos) (denE X.K cl W (callM g m)) := by
  refine PE.imp (pe_callSD (E := fun σ cls d H' => W cls d σ H') F hr hg hm hk hb .nil (fun σ => passAt2 tk σ) ha hdb he hpl) fun σ H Q q => ?_
  obtain ⟨B, F, as, s, st, r, o, p⟩ := q
  refine ⟨B, F, as, s, st, r, o, post_mono (post_bind p) fun vs st1 F1 as1 H1 ev g1 r1 q us hus => ?_⟩
  show spV X.K cl g (us ++ []) H1 Q _
  rw [List.append_nil]
  refine ⟨B, F1, as1, vs, st1, r1, hus, ?_⟩
  revert q
  cases g vs st1 with
  | ok v st2 => exact fun q => q
  | exc c p st2 => exact fun q => q
  | no => exact fun q => q
end
end Pd

set_option Elab.async false
set_option linter.all false
set_option maxRecDepth 100000
set_option maxHeartbeats 4000000
/-! Pd3: targets, statements, loops, comprehensions, defs. -/
namespace Pd
open PySem L2
inductive Out where
  | nx (s : Slots) (st : Store)
  | rt (v : Vl) (st : Store)
  | bk (s : Slots) (st : Store)
  | ct (s : Slots) (st : Store)
  | exc (c : Nat) (p : Option (Str × D)) (s : Slots) (st : Store)
  | no
abbrev SM := Slots → Store → Out
abbrev IM := Slots → Store → Res (List D)
abbrev BM := Vl → Slots → Option Slots
def bindS {α : Type} (r : Res α) (s : Slots) (k : α → Store → Out) : Out := match r with
  | .ok a st => k a st
  | .exc c p st => .exc c p s st
  | .no => .no
@[simp] theorem bindS_ok {α : Type} (a : α) (st : Store) (s : Slots) (k : α → Store → Out) : bindS (.ok a st) s k = k a st := nr rfl
@[simp] theorem bindS_exc {α : Type} (c : Nat) (p : Option (Str × D)) (st : Store) (s : Slots) (k : α → Store → Out) : bindS (.exc c p st : Res α) s k = .exc c p s st := nr rfl
@[simp] theorem bindS_no {α : Type} (s : Slots) (k : α → Store → Out) : bindS (.no : Res α) s k = .no := nr rfl
section
variable (K : Fr) (cl : Nat → Value) (W : WX)
def postS (B F : Hp) (as : List Addr) (Dn : Ends) : Out → Prop
  | .nx s st => ∀ σ' F' as' H', Grow B F F' as as' → RepH K B F' as' H' st → SlOk K F' as' σ' s → Dn.nx σ' H'
  | .bk s st => ∀ σ' F' as' H', Grow B F F' as as' → RepH K B F' as' H' st → SlOk K F' as' σ' s → Dn.bk σ' H'
  | .ct s st => ∀ σ' F' as' H', Grow B F F' as as' → RepH K B F' as' H' st → SlOk K F' as' σ' s → Dn.ct σ' H'
  | .rt v st => ∀ u F' as' H', Grow B F F' as as' → RepH K B F' as' H' st → VlOk K F' as' u v → Dn.rt u H'
  | .exc c p s st => ∀ x σ' F' as' H', Grow B F F' as as' → RepH K B F' as' H' st → SlOk K F' as' σ' s → ExcAt K F' H' p x → W (cl c) x σ' H'
  | .no => False
def denS (m : SM) : TS := fun Dn σ H => ∃ B F as s st, RepH K B F as H st ∧ SlOk K F as σ s ∧ postS K cl W B F as Dn (m s st)
end
section
variable {K : Fr} {cl : Nat → Value} {W : WX} {α : Type} {B F F' : Hp} {as as' : List Addr} {σ : St} {s : Slots} {H : Hp} {Dn : Ends}
theorem postS_grow (g : Grow B F F' as as') : ∀ {r : Out}, postS K cl W B F as Dn r → postS K cl W B F' as' Dn r
  | .nx _ _, h => fun σ2 F2 as2 H2 g2 => h σ2 F2 as2 H2 (g.trans g2)
  | .bk _ _, h => fun σ2 F2 as2 H2 g2 => h σ2 F2 as2 H2 (g.trans g2)
  | .ct _ _, h => fun σ2 F2 as2 H2 g2 => h σ2 F2 as2 H2 (g.trans g2)
  | .rt _ _, h => fun u F2 as2 H2 g2 => h u F2 as2 H2 (g.trans g2)
  | .exc _ _ _ _, h => fun x σ2 F2 as2 H2 g2 => h x σ2 F2 as2 H2 (g.trans g2)
  | .no, h => h
theorem postS_bind {r : Res α} {k : α → Store → Out} (o : SlOk K F as σ s) (h : postS K cl W B F as Dn (bindS r s k)) : postR K cl W B F as σ (fun a st F1 as1 _ => postS K cl W B F1 as1 Dn (k a st)) r := by
  cases r with
  | ok a st => exact fun F2 as2 H2 g2 r2 => postS_grow g2 h
  | exc c p st => exact fun x F2 as2 H2 g2 r2 e => h x σ F2 as2 H2 g2 r2 (o.mono g2) e
  | no => exact h
/-- an expression, then the rest of a statement -/
theorem denS_bind {f : Slots → Store → Res α} {k : α → Slots → Store → Out} {G2 : α → Store → Hp → List Addr → Hp → Prop} (h : denS K cl W (fun s st => bindS (f s st) s fun a st1 => k a s st1) Dn σ H)
    (hk : ∀ B F as s a st1 H1, RepH K B F as H1 st1 → SlOk K F as σ s → postS K cl W B F as Dn (k a s st1) → G2 a st1 F as H1) : den K cl W f σ H G2 := by
  obtain ⟨B, F, as, s, st, r, o, p⟩ := h
  exact ⟨B, F, as, s, st, r, o, post_mono (postS_bind o p) fun a st1 F1 as1 H1 _ g1 r1 q => hk B F1 as1 s a st1 H1 r1 (o.mono g1) q⟩
end

/-! ### targets -/
def bName (i : Nat) : BM := fun v s => some (s.set i (some v))
def bAll : List BM → List D → Slots → Option Slots
  | [], [], s => some s
  | b :: bs, d :: ds, s => (b (.dat d) s).bind fun s1 => bAll bs ds s1
  | _, _, _ => none
def bTup (bs : List BM) : BM := fun v s => match v with
  | .dat (.tuple ds) => bAll bs ds s
  | _ => none
/-- a target's reading; is: the slots it may store -/
def denG (K : Fr) (is : List Nat) (b : BM) : TG := fun u σ H Q => ∃ B F as s st v s', RepH K B F as H st ∧ SlOk K F as σ s ∧ VlOk K F as u v ∧ b v s = some s' ∧
  ∀ σ', SlOk K F as σ' s' → σ'.length = σ.length → (∀ j, j ∉ is → σ'[j]? = σ[j]?) → Q σ' H
def denGs (K : Fr) (is : List Nat) (bs : List BM) : TGs := fun us σ H Q => ∃ B F as s st ds s', RepH K B F as H st ∧ SlOk K F as σ s ∧ RpA K F us ds ∧ bAll bs ds s = some s' ∧
  ∀ σ', SlOk K F as σ' s' → σ'.length = σ.length → (∀ j, j ∉ is → σ'[j]? = σ[j]?) → Q σ' H
section
variable {X : Cx} {pos : Pos}
theorem PG.imp {e : Expr} {t t' : TG} (h : PG X e t) (k : ∀ v σ H Q, t' v σ H Q → t v σ H Q) : PG X e t' := ⟨fun pins s σ H v u Q I r q => h.run pins s σ H v u Q I r (k v σ H Q q)⟩
theorem PGs.imp {e : List Expr} {t t' : TGs} (h : PGs X e t) (k : ∀ v σ H Q, t' v σ H Q → t v σ H Q) : PGs X e t' := ⟨fun pins s σ H v u Q I r q => h.run pins s σ H v u Q I r (k v σ H Q q)⟩
theorem qg_name (i : Nat) {x : Str} (hN : X.N.Nodup) (hi : X.N[i]? = some x := by rfl) (hx : Loc X.env.scope x := by first | exact Or.inl rfl | exact Or.inr rfl) (hf : X.fn x = true ∨ X.env.scope.names.lookup x = some .local := by first | exact .inl rfl | exact .inr rfl | assumption) :
    PG X (.Name x pos) (denG X.K [i] (bName i)) := PG.imp (pg_name hN hi hx hf) fun u σ H Q q => by
  obtain ⟨B, F, as, s, st, v, s', r, o, k, e, q⟩ := q
  cases e
  refine q _ (o.set k) (by simp) fun j hj => ?_
  rw [List.getElem?_set_ne (fun z => hj (by simp [z]))]
theorem qgs_nil {is : List Nat} : PGs X [] (denGs X.K is []) := PGs.imp pgs_nil fun us σ H Q q => by
  obtain ⟨B, F, as, s, st, ds, s', r, o, k, e, q⟩ := q
  cases ds with
  | nil =>
    cases e
    cases k
    exact ⟨rfl, q _ o rfl fun _ _ => rfl⟩
  | cons d ds => cases e
theorem qgs_cons {e : Expr} {es : List Expr} {is js : List Nat} {b : BM} {bs : List BM} (h1 : PG X e (denG X.K is b)) (h2 : PGs X es (denGs X.K js bs))
    (hs : (assignEach (e :: es) X.env).map (·.2) = assign e X.env :: (assignEach es X.env).map (·.2) := by rfl) : PGs X (e :: es) (denGs X.K (is ++ js) (b :: bs)) := PGs.imp (pgs_cons h1 h2 hs) fun us σ H Q q => by
  obtain ⟨B, F, as, s, st, ds, s', r, o, k, e, q⟩ := q
  cases ds with
  | nil => cases e
  | cons d ds =>
    cases k with
    | cons k1 k2 =>
      unfold bAll at e
      cases e1 : b (.dat d) s with
      | none => rw [e1] at e; cases e
      | some s1 =>
        rw [e1] at e
        refine ⟨_, _, rfl, B, F, as, s, st, _, s1, r, o, .dat k1, e1, fun σ1 o1 l1 n1 => ?_⟩
        refine ⟨B, F, as, s1, st, ds, s', r, o1, k2, e, fun σ2 o2 l2 n2 => ?_⟩
        refine q σ2 o2 (l2.trans l1) fun j hj => ?_
        rw [n2 j (fun z => hj (List.mem_append_right _ z)), n1 j (fun z => hj (List.mem_append_left _ z))]
theorem qg_tup {es : List Expr} {k : Nat} {is : List Nat} {bs : List BM} {n : Nat} (hc : X.calm = true) (h : PGs X es (denGs X.K is bs)) (hn : (assignEach es X.env).length = n := by rfl) (hb : bs.length = n := by rfl) (hst : (assignEach es X.env).findIdx? (·.1) = none := by rfl) :
    PG X (.Tuple es k pos) (denG X.K is (bTup bs)) := PG.imp (pg_tup hc h hn hst) fun u σ H Q q => by
  obtain ⟨B, F, as, s, st, v, s', r, o, k, e, q⟩ := q
  unfold bTup at e
  split at e
  · rename_i ds
    cases k with
    | dat k =>
      cases k with
      | tup k1 k2 =>
        have hl : ∀ (bs : List BM) (ds : List D) (s s' : Slots), bAll bs ds s = some s' → ds.length = bs.length := by
          intro bs
          induction bs with
          | nil => intro ds s s' e; cases ds with
            | nil => rfl
            | cons d ds => cases e
          | cons b bs ih => intro ds s s' e; cases ds with
            | nil => cases e
            | cons d ds =>
              unfold bAll at e
              cases e1 : b (.dat d) s with
              | none => rw [e1] at e; cases e
              | some s1 =>
                rw [e1] at e
                simp [ih ds s1 s' e]
        refine ⟨_, _, rfl, sqt_mono r.fh k1, ?_, B, F, as, s, st, ds, s', r, o, k2, e, q⟩
        rw [k2.len, hl _ _ _ _ e, hb]
  · cases e
end

/-! ### statements -/
def setM (i : Nat) (f : EM) : SM := fun s st => bindS (f s st) s fun v st1 => .nx (s.set i (some v)) st1
def asgM (b : BM) (f : EM) : SM := fun s st => bindS (f s st) s fun v st1 => match b v s with
  | some s' => .nx s' st1
  | none => .no
def parM (i j : Nat) (m : AM) : SM := fun s st => bindS (m s st) s fun vs st1 => match vs with
  | [v, w] => .nx ((s.set i (some v)).set j (some w)) st1
  | _ => .no
def seqM (a b : SM) : SM := fun s st => match a s st with
  | .nx s' st' => b s' st'
  | o => o
def skipM : SM := fun s st => .nx s st
def ifS (c : TM) (a b : SM) : SM := fun s st => bindS (c s st) s fun k st1 => if k = true then a s st1 else b s st1
def retM (f : EM) : SM := fun s st => bindS (f s st) s fun v st1 => .rt v st1
def retN : SM := fun _ st => .rt (.dat .none) st
def dropM (f : EM) : SM := fun s st => bindS (f s st) s fun _ st1 => .nx s st1
def brkM : SM := fun s st => .bk s st
def cntM : SM := fun s st => .ct s st
def raiseM (c : Nat) : SM := fun s st => .exc c none s st
def loopM (g : D → SM) : List D → SM
  | [], s, st => .nx s st
  | d :: r, s, st => match g d s st with
    | .nx s' st' => loopM g r s' st'
    | .ct s' st' => loopM g r s' st'
    | .bk s' st' => .nx s' st'
    | o => o
def tgM (b : BM) (body : SM) : D → SM := fun d s st => match b (.dat d) s with
  | some s' => body s' st
  | none => .no
def forM (b : BM) (it : IM) (body : SM) : SM := fun s st => bindS (it s st) s fun ds st1 => loopM (tgM b body) ds s st1
def whileN (c : TM) (b : SM) : Nat → SM
  | 0, _, _ => .no
  | n + 1, s, st => bindS (c s st) s fun k st1 => if k = true then (match b s st1 with
    | .nx s' st' => whileN c b n s' st'
    | .ct s' st' => whileN c b n s' st'
    | .bk s' st' => .nx s' st'
    | o => o) else .nx s st1
open Classical in
noncomputable def whileM (c : TM) (b : SM) : SM := fun s st => if h : ∃ n, whileN c b n s st ≠ .no then whileN c b h.choose s st else .no
theorem whileN_more (c : TM) (b : SM) : ∀ (n : Nat) (s : Slots) (st : Store), whileN c b n s st ≠ .no → whileN c b (n + 1) s st = whileN c b n s st
  | 0, _, _, h => absurd rfl h
  | n + 1, s, st, h => by
    rw [whileN] at h
    rw [whileN, whileN]
    cases e : c s st with
    | exc c p z => rfl
    | no => rfl
    | ok k st1 =>
      rw [e, bindS_ok] at h
      rw [bindS_ok, bindS_ok]
      cases k with
      | false => rfl
      | true =>
        simp only [if_true] at h ⊢
        cases e2 : b s st1 with
        | nx s' st' => rw [e2] at h; exact whileN_more c b n s' st' h
        | ct s' st' => rw [e2] at h; exact whileN_more c b n s' st' h
        | bk s' st' => rfl
        | rt v st' => rfl
        | exc c p s' st' => rfl
        | no => rfl
theorem whileN_le (c : TM) (b : SM) {n m : Nat} (s : Slots) (st : Store) (h : whileN c b n s st ≠ .no) (k : n ≤ m) : whileN c b m s st = whileN c b n s st := by
  induction k with
  | refl => rfl
  | step k ih => rw [whileN_more c b _ s st (by rw [ih]; exact h), ih]
theorem whileM_eq {c : TM} {b : SM} {n : Nat} {s : Slots} {st : Store} {o : Out} (h : whileN c b n s st = o) (ho : o ≠ .no) : whileM c b s st = o := by
  have hx : ∃ n, whileN c b n s st ≠ .no := ⟨n, by rw [h]; exact ho⟩
  unfold whileM
  rw [dif_pos hx]
  have h2 := hx.choose_spec
  rw [← whileN_le c b s st h2 (Nat.le_max_left hx.choose n), whileN_le c b s st (by rw [h]; exact ho) (Nat.le_max_right hx.choose n)]
  exact h
section
variable {X : Cx} {cl : Nat → Value} {W : WX} {e a b t : Expr} {pos : Pos} {f g : EM} {m : AM} {c d : TM} {st : Stmt} {rest body : List Stmt} {u w : SM} {it : IM}
theorem qs_set (i : Nat) {x : Str} {pos' : Pos} (hN : X.N.Nodup) (he : PE X e (denE X.K cl W f)) (hi : X.N[i]? = some x := by rfl) (hx : Loc X.env.scope x := by first | exact Or.inl rfl | exact Or.inr rfl) (hs : swapsWith e (some (.Name x pos')) pos.line X.env = pure false := by rfl)
    (hf : X.fn x = true ∨ X.env.scope.names.lookup x = some .local := by first | exact .inl rfl | exact .inr rfl | assumption) : PS X (.Assign [.Name x pos'] e pos) (denS X.K cl W (setM i f)) := PS.imp (ps_set hN hi hx he hs hf) fun Dn σ H q =>
  denS_bind q fun B F as s v st1 H1 r1 o1 q u hu => q _ F as H1 Grow.refl r1 (o1.set hu)
theorem qs_asg {tg : Expr} {is : List Nat} {b : BM} (he : PE X e (denE X.K cl W f)) (hg : PG X tg (denG X.K is b)) (hs : swapsWithSole [tg] e pos.line X.env = pure false := by rfl) (hw : swappedStores [tg] e X.env = pure none := by rfl)
    (h1 : (assignEach [tg] X.env).map (·.2) = [assign tg X.env] := by rfl) : PS X (.Assign [tg] e pos) (denS X.K cl W (asgM b f)) := PS.imp (ps_asg he hg hs hw h1) fun Dn σ H q =>
  denS_bind q fun B F as s v st1 H1 r1 o1 q u hu => by
    split at q
    · rename_i s' e
      exact ⟨B, F, as, s, st1, v, s', r1, o1, hu, e, fun σ' o' _ _ => q σ' F as H1 Grow.refl r1 o'⟩
    · exact q.elim
theorem qs_par (i j : Nat) {x y : Str} {px py pt : Pos} {kt k2 : Nat} {pt2 : Pos} (hc : X.calm = true) (hN : X.N.Nodup) (ha : PA X [a, b] (denA X.K cl W m)) (hi : X.N[i]? = some x) (hj : X.N[j]? = some y) (hij : i ≠ j)
    (hx : X.env.scope.names.lookup x = some .local) (hy : X.env.scope.names.lookup y = some .local)
    (hw : swappedStores [.Tuple [.Name x px, .Name y py] kt pt] (.Tuple [a, b] k2 pt2) X.env = pure (some [x, y]))
    (hs : swapsWithSole [.Tuple [.Name x px, .Name y py] kt pt] (.Tuple [a, b] k2 pt2) pos.line X.env = pure false := by rfl) :
    PS X (.Assign [.Tuple [.Name x px, .Name y py] kt pt] (.Tuple [a, b] k2 pt2) pos) (denS X.K cl W (parM i j m)) := PS.imp (ps_par hc hN hi hj hij hx hy ha hw hs) fun Dn σ H q =>
  denS_bind q fun B F as s vs st1 H1 r1 o1 q us hus => by
    split at q
    · cases hus with
      | cons h1 h2 =>
        cases h2 with
        | cons h2 h3 =>
          cases h3
          exact ⟨_, _, rfl, q _ F as H1 Grow.refl r1 ((o1.set h1).set h2)⟩
    · exact q.elim
theorem qss_nil : PSs X [] (denS X.K cl W skipM) := PSs.imp pss_nil fun Dn σ H q => by
  obtain ⟨B, F, as, s, st, r, o, p⟩ := q
  exact p σ F as H Grow.refl r o
theorem seqM_den {K : Fr} {Dn : Ends} {σ : St} {H : Hp} (q : denS K cl W (seqM u w) Dn σ H) : tSeq (denS K cl W u) (denS K cl W w) Dn σ H := by
  obtain ⟨B, F, as, s, st, r, o, p⟩ := q
  refine ⟨B, F, as, s, st, r, o, ?_⟩
  unfold seqM at p
  cases e : u s st with
  | nx s' st' =>
    rw [e] at p
    exact fun σ' F' as' H' g' r' o' => ⟨B, F', as', s', st', r', o', postS_grow g' p⟩
  | rt v st' => rw [e] at p; exact p
  | bk s' st' => rw [e] at p; exact p
  | ct s' st' => rw [e] at p; exact p
  | exc c p2 s' st' => rw [e] at p; exact p
  | no => rw [e] at p; exact p
theorem qss_cons (h1 : PS X st (denS X.K cl W u)) (h2 : PSs X rest (denS X.K cl W w)) : PSs X (st :: rest) (denS X.K cl W (seqM u w)) := PSs.imp (pss_cons h1 h2) fun _ _ _ q => seqM_den q
theorem qss_one (h1 : PS X st (denS X.K cl W u)) : PSs X [st] (denS X.K cl W u) := pss_one h1
theorem qs_pass : PS X (.Pass pos) (denS X.K cl W skipM) := PS.imp ps_pass fun Dn σ H q => by
  obtain ⟨B, F, as, s, st, r, o, p⟩ := q
  exact p σ F as H Grow.refl r o
theorem qs_break : PS X (.Break pos) (denS X.K cl W brkM) := PS.imp ps_break fun Dn σ H q => by
  obtain ⟨B, F, as, s, st, r, o, p⟩ := q
  exact p σ F as H Grow.refl r o
theorem qs_continue : PS X (.Continue pos) (denS X.K cl W cntM) := PS.imp ps_continue fun Dn σ H q => by
  obtain ⟨B, F, as, s, st, r, o, p⟩ := q
  exact p σ F as H Grow.refl r o
theorem qs_expr (he : PE X e (denE X.K cl W f)) (hs : swapsWith e none pos.line X.env = pure false := by rfl) : PS X (.Expr e pos) (denS X.K cl W (dropM f)) := PS.imp (ps_expr he hs) fun Dn σ H q =>
  denS_bind q fun B F as s v st1 H1 r1 o1 q u hu => q σ F as H1 Grow.refl r1 o1
theorem qs_ret (he : PE X e (denE X.K cl W f)) : PS X (.Return (some e) pos) (denS X.K cl W (retM f)) := PS.imp (ps_ret he) fun Dn σ H q =>
  denS_bind q fun B F as s v st1 H1 r1 o1 q u hu => q u F as H1 Grow.refl r1 hu
theorem qs_retN : PS X (.Return none pos) (denS X.K cl W retN) := PS.imp ps_retN fun Dn σ H q => by
  obtain ⟨B, F, as, s, st, r, o, p⟩ := q
  exact p .non F as H Grow.refl r (.dat .non)
theorem qs_if {x y : List Stmt} (hc : PT X t (denT X.K cl W c)) (ha : PSs X x (denS X.K cl W u)) (hb : PSs X y (denS X.K cl W w)) : PS X (.If t x y pos) (denS X.K cl W (ifS c u w)) := PS.imp (ps_if hc ha hb) fun Dn σ H q =>
  denS_bind q fun B F as s k st1 H1 r1 o1 q => by
    cases k with
    | true => exact ⟨B, F, as, s, st1, r1, o1, q⟩
    | false => exact ⟨B, F, as, s, st1, r1, o1, q⟩
theorem qs_raise {e : Expr} {C : Nat} (hc : X.calm = true) (tk : Takes X W) (he : PMk X e (fun _ H Q => Q (cl C) none H)) : PS X (.Raise (some e) none pos) (denS X.K cl W (raiseM C)) := PS.imp (ps_raise hc tk he) fun Dn σ H q => by
  obtain ⟨B, F, as, s, st, r, o, p⟩ := q
  exact p none σ F as H Grow.refl r o rfl
end

/-! ### what is walked -/
/-- J walks the data ds -/
structure Iter (K : Fr) (F : Hp) (J : It) (ds : List D) : Prop where
  go : ∀ i F1 H1, Same F F1 → Same F1 H1 → i < ds.length → J.go i H1
  stop : ∀ F1 H1, Same F F1 → Same F1 H1 → J.stop ds.length H1
  yld : ∀ i F1 H1 x H1' d, Same F F1 → Same F1 H1 → ds[i]? = some d → J.yld i H1 x H1' → ∃ F2, Ext F1 H1 F2 H1' ∧ Rp K F2 x d
def denI (K : Fr) (cl : Nat → Value) (W : WX) (m : IM) : TI := fun σ H R => den K cl W m σ H fun ds _ F' _ H' => ∀ J, Iter K F' J ds → R J H'
theorem iter_of {K : Fr} {F : Hp} {J : It} {ds : List D} {G : Hp → Prop} {Y : Nat → Hp → V → Hp → Prop} (w : Walk J ds.length G Y) (hG : ∀ F1 H1, Same F F1 → Same F1 H1 → G H1)
    (hY : ∀ i F1 H1 x H1' d, Same F F1 → Same F1 H1 → ds[i]? = some d → Y i H1 x H1' → ∃ F2, Ext F1 H1 F2 H1' ∧ Rp K F2 x d) : Iter K F J ds where
  go := fun i F1 H1 e1 e2 hi => w.goes i H1 hi (hG F1 H1 e1 e2)
  stop := fun F1 H1 e1 e2 => w.stops H1 (hG F1 H1 e1 e2)
  yld := fun i F1 H1 x H1' d e1 e2 hd y => hY i F1 H1 x H1' d e1 e2 hd (w.yields i H1 x H1' (List.getElem?_eq_some_iff.mp hd).1 (hG F1 H1 e1 e2) y)
theorem iter_at {K : Fr} {F : Hp} {J : It} {ds : List D} {vs : List V} {G : Hp → Prop} (h : RpA K F vs ds) (w : Walk J vs.length G (YAt vs)) (hG : ∀ F1 H1, Same F F1 → Same F1 H1 → G H1) : Iter K F J ds := by
  rw [h.len] at w
  refine iter_of w hG fun i F1 H1 x H1' d e1 e2 hd y => ?_
  obtain ⟨rfl, hx⟩ := y
  obtain ⟨d', e3, e4⟩ := h.getV hx
  rw [hd] at e3
  cases e3
  exact ⟨F1, Ext.refl e2, e4.mono e1⟩
/-- frozen lists and tuples; the script -/
def itM (f : EM) : IM := fun s st => (f s st).bind fun v st1 => match v with
  | .scr ns => .ok (ns.map .int) st1
  | .dat d => (match d with
    | .list ds => .ok ds st1
    | .tuple ds => .ok ds st1
    | _ => .no)
  | .cel k => (toD (.cel k) st1).bind fun d st2 => match d with
    | .list ds => .ok ds st2
    | _ => .no
/-- the source is a tuple -/
def itT (f : EM) : IM := fun s st => (f s st).bind fun v st1 => match v with
  | .dat (.tuple ds) => .ok ds st1
  | _ => .no
/-- the source is a list -/
def itL (f : EM) : IM := fun s st => (f s st).bind fun v st1 => match v with
  | .scr ns => .ok (ns.map .int) st1
  | .dat (.list ds) => .ok ds st1
  | .cel k => (toD (.cel k) st1).bind fun d st2 => match d with
    | .list ds => .ok ds st2
    | _ => .no
  | _ => .no
section
variable {X : Cx} {cl : Nat → Value} {W : WX} {tg l : Expr} {f : EM}
theorem PI.or {t t' : TI} (h : PI X tg l t) (h' : PI X tg l t') : PI X tg l (fun σ H R => t σ H R ∨ t' σ H R) := ⟨fun pins s σ H R I q => q.elim (h.run pins s σ H R I) (h'.run pins s σ H R I)⟩
theorem itL_den {K : Fr} {σ : St} {H : Hp} {R : It → Hp → Prop} (q : denI K cl W (itL f) σ H R) : iList K (denE K cl W f) σ H R := by
  refine den_bind q fun B F as s v st1 H1 r1 o1 q u hu => ?_
  split at q
  · rename_i ns
    cases hu with
    | scr hu =>
      refine ⟨_, rfl, ⟨_, sql_mono r1.fh hu⟩, post_ok q r1 _ ?_⟩
      exact iter_at (RpA.ints ns) walk_list fun F1 H1 e1 e2 => sql_mono (e1.trans e2) hu
  · rename_i ds
    cases hu with
    | dat hu =>
      cases hu with
      | lst h1 h2 =>
        refine ⟨_, rfl, ⟨_, .inl (.inl (r1.fh _ _ h1))⟩, post_ok q r1 _ ?_⟩
        exact iter_at h2 walk_list fun F1 H1 e1 e2 => .inl (.inl (e2 _ _ (e1 _ _ h1)))
  · rename_i k
    rcases toD_res (.cel k) st1 with ⟨d, st2, e⟩ | e
    · rw [e, Res.bind_ok] at q
      obtain ⟨F2, g2, r2, p2⟩ := toD_ok r1 hu e
      split at q
      · rename_i ds
        cases p2 with
        | lst h1 h2 =>
          refine ⟨_, rfl, ⟨_, .inl (.inl (r2.fh _ _ h1))⟩, q F2 as H1 g2 r2 _ ?_⟩
          exact iter_at h2 walk_list fun F1 H1 e1 e2 => .inl (.inl (e2 _ _ (e1 _ _ h1)))
      · exact q.elim
    · rw [e] at q
      exact q.elim
  · exact q.elim
theorem itT_den {K : Fr} {σ : St} {H : Hp} {R : It → Hp → Prop} (q : denI K cl W (itT f) σ H R) : iTup K (denE K cl W f) σ H R := by
  refine den_bind q fun B F as s v st1 H1 r1 o1 q u hu => ?_
  split at q
  · rename_i ds
    cases hu with
    | dat hu =>
      cases hu with
      | tup h1 h2 =>
        refine ⟨_, rfl, ⟨_, sqt_mono r1.fh h1⟩, post_ok q r1 _ ?_⟩
        exact iter_at h2 walk_tup fun F1 H1 e1 e2 => sqt_mono (e1.trans e2) h1
  · exact q.elim
theorem itM_split {K : Fr} {σ : St} {H : Hp} {R : It → Hp → Prop} (q : denI K cl W (itM f) σ H R) : denI K cl W (itL f) σ H R ∨ denI K cl W (itT f) σ H R := by
  obtain ⟨B, F, as, s, st, r, o, p⟩ := q
  have key : itM f s st = itL f s st ∨ itM f s st = itT f s st := by
    unfold itM itL itT
    cases f s st with
    | exc c p z => exact .inl rfl
    | no => exact .inl rfl
    | ok v st1 =>
      simp only [Res.bind_ok]
      cases v with
      | scr ns => exact .inl rfl
      | cel k => exact .inl rfl
      | dat d =>
        cases d with
        | list ds => exact .inl rfl
        | tuple ds => exact .inr rfl
        | none => exact .inl rfl
        | bool _ => exact .inl rfl
        | int _ => exact .inl rfl
        | str _ => exact .inl rfl
        | dict _ => exact .inl rfl
  rcases key with e | e
  · exact .inl ⟨B, F, as, s, st, r, o, e ▸ p⟩
  · exact .inr ⟨B, F, as, s, st, r, o, e ▸ p⟩
theorem qi_data (h : PE X l (denE X.K cl W f)) : PI X tg l (denI X.K cl W (itM f)) := PI.imp (PI.or (pi_list h) (pi_tup h)) fun σ H R q => (itM_split q).imp itL_den itT_den
end
end Pd

set_option Elab.async false
set_option linter.all false
set_option maxRecDepth 100000
set_option maxHeartbeats 4000000
/-! Pd4: ranges, zip, enumerate, reversed; for, while; comprehensions; defs. -/
namespace Pd
open PySem L2 RZ
/-! ranges, zip, enumerate, reversed -/
def rngD (a : Int) (n : Nat) (c : Int) : List D := (List.range n).map fun (i : Nat) => PyData.int (a + (i : Int) * c)
@[simp] theorem rngD_len (a : Int) (n : Nat) (c : Int) : (rngD a n c).length = n := by unfold rngD; simp
theorem rngD_get {a : Int} {n : Nat} {c : Int} {i : Nat} {d : D} (h : (rngD a n c)[i]? = some d) : d = .int (a + (i : Int) * c) := by
  have hi : i < n := by
    have := (List.getElem?_eq_some_iff.mp h).1
    simpa using this
  unfold rngD at h
  rw [List.getElem?_map, List.getElem?_range hi] at h
  exact (Option.some.inj h).symm
def rng1M (m : AM) : IM := fun s st => (m s st).bind fun vs st1 => match vs with
  | [.dat (.int j)] => if -(2 ^ 62) ≤ j ∧ j < 2 ^ 62 then .ok (rngD 0 j.toNat 1) st1 else .no
  | _ => .no
def rng2M (m : AM) : IM := fun s st => (m s st).bind fun vs st1 => match vs with
  | [.dat (.int i), .dat (.int j)] => if -(2 ^ 62) ≤ i ∧ i < 2 ^ 62 ∧ -(2 ^ 62) ≤ j ∧ j < 2 ^ 62 then .ok (rngD i (j - i).toNat 1) st1 else .no
  | _ => .no
/-- range(i, j, -1) -/
def rngDownM (m : AM) : IM := fun s st => (m s st).bind fun vs st1 => match vs with
  | [.dat (.int i), .dat (.int j), .dat (.int c)] => if (-(2 ^ 62) ≤ i ∧ i < 2 ^ 62 ∧ -(2 ^ 62) ≤ j ∧ j < 2 ^ 62) ∧ c = -1 then .ok (rngD i (i - j).toNat (-1)) st1 else .no
  | _ => .no
def seqOf (v : Vl) (st : Store) : Option (Bool × List D) := match peek v st with
  | some (.list ds) => some (true, ds)
  | some (.tuple ds) => some (false, ds)
  | _ => none
def zipD (xs ys : List D) : List D := (xs.zip ys).map fun p => .tuple [p.1, p.2]
theorem zipD_len (xs ys : List D) : (zipD xs ys).length = min xs.length ys.length := by unfold zipD; simp
theorem zipD_get {xs ys : List D} {i : Nat} {d : D} (h : (zipD xs ys)[i]? = some d) : ∃ x y, xs[i]? = some x ∧ ys[i]? = some y ∧ d = .tuple [x, y] := by
  unfold zipD at h
  rw [List.getElem?_map] at h
  cases e : (xs.zip ys)[i]? with
  | none => rw [e] at h; cases h
  | some p =>
    rw [e] at h
    cases h
    obtain ⟨x, y⟩ := p
    rw [List.getElem?_zip_eq_some] at e
    exact ⟨x, y, e.1, e.2, rfl⟩
def enumD (xs : List D) : List D := zipD (rngD 0 xs.length 1) xs
/-- zip of two lists or of two tuples: both frozen -/
def zipM (m : AM) : IM := fun s st => (m s st).bind fun vs st1 => (toDs vs st1).bind fun ds st2 => match ds with
  | [.list xs, .list ys] => .ok (zipD xs ys) st2
  | [.tuple xs, .tuple ys] => .ok (zipD xs ys) st2
  | _ => .no
def enumM (m : AM) : IM := fun s st => (m s st).bind fun vs st1 => (toDs vs st1).bind fun ds st2 => match ds with
  | [.list xs] => .ok (enumD xs) st2
  | _ => .no
def revM (m : AM) : IM := fun s st => (m s st).bind fun vs st1 => (toDs vs st1).bind fun ds st2 => match ds with
  | [.list xs] => .ok xs.reverse st2
  | _ => .no
theorem walk_zipT {K : Fr} {a b : Addr} {xs ys : List V} {n : Nat} (hn : n = min xs.length ys.length) : Walk (ItzT K a b) n (fun H => SqT K H a xs ∧ SqT K H b ys) (YPair (fun i => xs[i]?) (fun i => ys[i]?)) := by
  subst hn
  refine ⟨fun i _ hi q => ?_, fun _ q => ⟨xs, ys, q.1, q.2, by omega⟩, fun i H v H' _ q y => ?_⟩
  · have h1 : i < xs.length := by omega
    have h2 : i < ys.length := by omega
    exact ⟨xs, ys, xs[i], ys[i], q.1, q.2, by simp [h1], by simp [h2]⟩
  · obtain ⟨T, x, z, h1, h2, h3, h4, h5⟩ := y
    exact ⟨T, x, z, h1, h2, h3, h4 xs q.1, h5 ys q.2⟩
theorem iter_pair {K : Fr} {F : Hp} {J : It} {xs ys : List D} {vs ws : List V} {G : Hp → Prop} (h1 : RpA K F vs xs) (h2 : RpA K F ws ys) (w : Walk J (min vs.length ws.length) G (YPair (fun i => vs[i]?) (fun i => ws[i]?))) (hG : ∀ F1 H1, Same F F1 → Same F1 H1 → G H1) : Iter K F J (zipD xs ys) := by
  rw [h1.len, h2.len, ← zipD_len] at w
  refine iter_of w hG fun i F1 H1 x H1' d e1 e2 hd y => ?_
  obtain ⟨T, p, q, rfl, hT, rfl, hp, hq⟩ := y
  obtain ⟨a, b, ha, hb, rfl⟩ := zipD_get hd
  obtain ⟨a', ea, ra⟩ := h1.getV hp
  rw [ha] at ea
  cases ea
  obtain ⟨b', eb, rb⟩ := h2.getV hq
  rw [hb] at eb
  cases eb
  have x := Ext.new (o := .tup [p, q]) e2 hT
  exact ⟨_, x, .tup (.inl (.inl upd_same)) (.cons (ra.mono (e1.trans x.f)) (.cons (rb.mono (e1.trans x.f)) .nil))⟩
section
variable {X : Cx} {cl : Nat → Value} {W : WX} {tg a b c : Expr} {m : AM} {p pos tpos : Pos} {elts : List Expr} {kk : Nat}
theorem vl_int {K : Fr} {F : Hp} {as : List Addr} {u : V} {i : Int} (h : VlOk K F as u (.dat (.int i))) : u = .int i := by
  cases h with
  | dat h => cases h; rfl
theorem iter_rng {K : Fr} {F : Hp} {i : Int} {n : Nat} : Iter K F (Itr i n) (rngD i n 1) := by
  refine iter_of (G := fun _ => True) (by rw [rngD_len]; exact walk_range) (fun _ _ _ _ => trivial) fun j F1 H1 x H1' d e1 e2 hd y => ?_
  obtain ⟨rfl, rfl⟩ := y
  rw [rngD_get hd, Int.mul_one]
  exact ⟨F1, Ext.refl e2, .int _⟩
theorem iter_rngC {K : Fr} {F : Hp} {i c : Int} {n : Nat} : Iter K F (Itc i c n) (rngD i n c) := by
  refine iter_of (G := fun _ => True) (by rw [rngD_len]; exact walk_rangeC) (fun _ _ _ _ => trivial) fun j F1 H1 x H1' d e1 e2 hd y => ?_
  obtain ⟨rfl, rfl⟩ := y
  rw [rngD_get hd]
  exact ⟨F1, Ext.refl e2, .int _⟩
theorem qi_rng1 (hg : Gl X "range") (hm : X.mg "range" = none) (ha : PA X [a] (denA X.K cl W m)) (hs : starEach [a] X.env = [(false, eval a X.env)] := by rfl) : PI X tg (.Call (.Name "range" p) [a] [] pos) (denI X.K cl W (rng1M m)) :=
  PI.imp (pi_range1 hg hm ha hs) fun σ H R q => by
    refine den_bind q fun B F as s vs st1 H1 r1 o1 q us hu => ?_
    split at q
    · rename_i j
      cases hu with
      | cons h1 h2 =>
        cases h2
        split at q
        · rename_i hj
          rw [vl_int h1]
          exact ⟨j, rfl, hj.1, hj.2, post_ok q r1 _ iter_rng⟩
        · exact q.elim
    · exact q.elim
theorem qi_rng2 (hg : Gl X "range") (hm : X.mg "range" = none) (ha : PA X [a, b] (denA X.K cl W m)) (hs : starEach [a, b] X.env = [(false, eval a X.env), (false, eval b X.env)] := by rfl) (hs2 : starEach [b] X.env = [(false, eval b X.env)] := by rfl) :
    PI X tg (.Call (.Name "range" p) [a, b] [] pos) (denI X.K cl W (rng2M m)) :=
  PI.imp (pi_range2 hg hm ha hs hs2) fun σ H R q => by
    refine den_bind q fun B F as s vs st1 H1 r1 o1 q us hu => ?_
    split at q
    · rename_i i j
      cases hu with
      | cons h1 h2 =>
        cases h2 with
        | cons h2 h3 =>
          cases h3
          split at q
          · rename_i hj
            rw [vl_int h1, vl_int h2]
            exact ⟨i, j, rfl, hj, post_ok q r1 _ iter_rng⟩
          · exact q.elim
    · exact q.elim
theorem qi_rngDown (hg : Gl X "range") (hm : X.mg "range" = none) (ha : PA X [a, b, c] (denA X.K cl W m)) (hs : starEach [a, b, c] X.env = (false, eval a X.env) :: starEach [b, c] X.env := by rfl) (hpl : (backTo pos (starEach [b, c] X.env)).any (·.1) = false := by rfl) :
    PI X tg (.Call (.Name "range" p) [a, b, c] [] pos) (denI X.K cl W (rngDownM m)) :=
  PI.imp (pi_range3 hg hm ha hs hpl) fun σ H R q => by
    refine den_bind q fun B F as s vs st1 H1 r1 o1 q us hu => ?_
    split at q
    · rename_i i j c
      cases hu with
      | cons h1 h2 =>
        cases h2 with
        | cons h2 h3 =>
          cases h3 with
          | cons h3 h4 =>
            cases h4
            split at q
            · rename_i hj
              obtain ⟨hj, rfl⟩ := hj
              rw [vl_int h1, vl_int h2, vl_int h3]
              exact ⟨i, j, -1, _, rfl, RgC.neg hj.1 hj.2.1 hj.2.2.1 hj.2.2.2, post_ok q r1 _ iter_rngC⟩
            · exact q.elim
    · exact q.elim
theorem qi_zip (hg : Gl X "zip") (hm : X.mg "zip" = none) (ha : PA X [a, b] (denA X.K cl W m)) (hs : starEach [a, b] X.env = (false, eval a X.env) :: starEach [b] X.env := by rfl) (hpl : (backTo pos (starEach [b] X.env)).any (·.1) = false := by rfl) :
    PI X (.Tuple elts kk tpos) (.Call (.Name "zip" p) [a, b] [] pos) (denI X.K cl W (zipM m)) :=
  PI.imp (pi_zipA hg hm ha hs hpl) fun σ H R q => by
    refine den_bind q fun B F as s vs st1 H1 r1 o1 q us hu => ?_
    rcases toDs_res vs st1 with ⟨ds, st2, e⟩ | e
    · rw [e, Res.bind_ok] at q
      obtain ⟨F2, g2, r2, p2⟩ := toDs_ok r1 hu e
      split at q
      · cases p2 with
        | cons h1 h2 =>
          cases h2 with
          | cons h2 h3 =>
            cases h3
            cases h1 with
            | lst h1 h1' =>
              cases h2 with
              | lst h2 h2' =>
                refine ⟨_, _, _, _, rfl, .inl ⟨.inl (.inl (r2.fh _ _ h1)), .inl (.inl (r2.fh _ _ h2)), q F2 as H1 g2 r2 _ ?_⟩⟩
                exact iter_pair h1' h2' (walk_zip rfl) fun F1 H1 e1 e2 => ⟨.inl (.inl (e2 _ _ (e1 _ _ h1))), .inl (.inl (e2 _ _ (e1 _ _ h2)))⟩
      · cases p2 with
        | cons h1 h2 =>
          cases h2 with
          | cons h2 h3 =>
            cases h3
            cases h1 with
            | tup h1 h1' =>
              cases h2 with
              | tup h2 h2' =>
                refine ⟨_, _, _, _, rfl, .inr ⟨sqt_mono r2.fh h1, sqt_mono r2.fh h2, q F2 as H1 g2 r2 _ ?_⟩⟩
                exact iter_pair h1' h2' (walk_zipT rfl) fun F1 H1 e1 e2 => ⟨sqt_mono (e1.trans e2) h1, sqt_mono (e1.trans e2) h2⟩
      · exact q.elim
    · rw [e] at q
      exact q.elim
theorem qi_enum (hg : Gl X "enumerate") (hm : X.mg "enumerate" = none) (ha : PA X [a] (denA X.K cl W m)) (hs : starEach [a] X.env = [(false, eval a X.env)] := by rfl) :
    PI X (.Tuple elts kk tpos) (.Call (.Name "enumerate" p) [a] [] pos) (denI X.K cl W (enumM m)) :=
  PI.imp (pi_enum hg hm ha hs) fun σ H R q => by
    refine den_bind q fun B F as s vs st1 H1 r1 o1 q us hu => ?_
    rcases toDs_res vs st1 with ⟨ds, st2, e⟩ | e
    · rw [e, Res.bind_ok] at q
      obtain ⟨F2, g2, r2, p2⟩ := toDs_ok r1 hu e
      split at q
      · rename_i xs
        cases p2 with
        | cons h1 h2 =>
          cases h2
          cases h1 with
          | lst h1 h1' =>
            rename_i a' vs'
            refine ⟨_, _, rfl, .inl (.inl (r2.fh _ _ h1)), q F2 as H1 g2 r2 _ ?_⟩
            have w := walk_enum (K := X.K) (a := a') (xs := vs')
            have hl : (enumD xs).length = vs'.length := by rw [enumD, zipD_len, rngD_len, Nat.min_self, h1'.len]
            rw [← hl] at w
            refine iter_of w (fun F1 H1 e1 e2 => .inl (.inl (e2 _ _ (e1 _ _ h1)))) fun i F1 H1 x H1' d e1 e2 hd y => ?_
            obtain ⟨T, p, q, rfl, hT, rfl, hp, hq⟩ := y
            obtain ⟨z, b, hz, hb, rfl⟩ := zipD_get hd
            obtain ⟨b', eb, rb⟩ := h1'.getV hq
            rw [hb] at eb
            cases eb
            cases hp
            rw [rngD_get hz, Int.mul_one, Int.zero_add]
            have x := Ext.new (o := .tup [.int (i : Int), q]) e2 hT
            exact ⟨_, x, .tup (.inl (.inl upd_same)) (.cons (.int _) (.cons (rb.mono (e1.trans x.f)) .nil))⟩
      · exact q.elim
    · rw [e] at q
      exact q.elim
theorem qi_rev (hg : Gl X "reversed") (hm : X.mg "reversed" = none) (ha : PA X [a] (denA X.K cl W m)) (hs : starEach [a] X.env = [(false, eval a X.env)] := by rfl) :
    PI X tg (.Call (.Name "reversed" p) [a] [] pos) (denI X.K cl W (revM m)) :=
  PI.imp (pi_reversed hg hm ha hs) fun σ H R q => by
    refine den_bind q fun B F as s vs st1 H1 r1 o1 q us hu => ?_
    rcases toDs_res vs st1 with ⟨ds, st2, e⟩ | e
    · rw [e, Res.bind_ok] at q
      obtain ⟨F2, g2, r2, p2⟩ := toDs_ok r1 hu e
      split at q
      · rename_i xs
        cases p2 with
        | cons h1 h2 =>
          cases h2
          cases h1 with
          | lst h1 h1' =>
            rename_i a' vs'
            refine ⟨_, _, rfl, .inl (.inl (r2.fh _ _ h1)), q F2 as H1 g2 r2 _ ?_⟩
            have hr := h1'.reverse
            have w := walk_rev (K := X.K) (a := a') (xs := vs')
            have hl : xs.reverse.length = vs'.length := by rw [List.length_reverse, h1'.len]
            have w2 : Walk (Itv X.K a' vs'.length) xs.reverse.length (fun H => SqL X.K H a' vs') (fun i H x H' => H' = H ∧ vs'[vs'.length - 1 - i]? = some x) := by rw [hl]; exact w
            refine iter_of w2 (fun F1 H1 e1 e2 => .inl (.inl (e2 _ _ (e1 _ _ h1)))) fun i F1 H1 x H1' d e1 e2 hd y => ?_
            obtain ⟨rfl, hx⟩ := y
            have hi : i < vs'.length := by
              rw [← hl]
              exact (List.getElem?_eq_some_iff.mp hd).1
            have hx2 : vs'.reverse[i]? = some x := by
              rw [List.getElem?_reverse hi]
              exact hx
            obtain ⟨d', e3, e4⟩ := hr.getV hx2
            rw [hd] at e3
            cases e3
            exact ⟨F1, Ext.refl e2, e4.mono e1⟩
      · exact q.elim
    · rw [e] at q
      exact q.elim
end

/-! ### for, while -/
section
variable {X : Cx} {cl : Nat → Value} {W : WX} {tg iter t : Expr} {pos : Pos} {b : BM} {is : List Nat} {it : IM} {u : SM} {c : TM} {body : List Stmt}
theorem forM_den {K : Fr} {Dn : Ends} {σ : St} {H : Hp} (q : denS K cl W (forM b it u) Dn σ H) : tFor (denI K cl W it) (denG K is b) (denS K cl W u) Dn σ H := by
  refine denS_bind q fun B F as s ds st1 H1 r1 o1 q J hJ => ?_
  refine ⟨fun i m σ' H' => m = ds.length - i ∧ i ≤ ds.length ∧ ∃ F' as' s' st', Grow B F F' as as' ∧ RepH K B F' as' H' st' ∧ SlOk K F' as' σ' s' ∧ postS K cl W B F' as' Dn (loopM (tgM b u) (ds.drop i) s' st'),
    ⟨ds.length, by omega, by omega, F, as, s, st1, Grow.refl, r1, o1, q⟩, ?_⟩
  rintro i m σ' H' ⟨rfl, hi, F', as', s', st', g', r', o', q'⟩
  by_cases hlt : i < ds.length
  · have hd : ds.drop i = ds[i] :: ds.drop (i + 1) := List.drop_eq_getElem_cons hlt
    refine .inr ⟨hJ.go i F' H' g'.sub r'.fh hlt, fun σ2 H2 => ∃ F2 as2 s2 st2, Grow B F F2 as as2 ∧ RepH K B F2 as2 H2 st2 ∧ SlOk K F2 as2 σ2 s2 ∧ postS K cl W B F2 as2 Dn (loopM (tgM b u) (ds.drop (i + 1)) s2 st2),
      fun σ2 H2 ⟨F2, as2, s2, st2, g2, r2, o2, q2⟩ => ⟨ds.length - (i + 1), by omega, rfl, hlt, F2, as2, s2, st2, g2, r2, o2, q2⟩, fun x H3 y => ?_⟩
    obtain ⟨F3, x3, rp3⟩ := hJ.yld i F' H' x H3 ds[i] g'.sub r'.fh (List.getElem?_eq_getElem hlt) y
    have g3 := x3.grow r'
    have r3 := r'.ext x3
    rw [hd] at q'
    unfold loopM tgM at q'
    cases e : b (.dat ds[i]) s' with
    | none => rw [e] at q'; exact q'.elim
    | some s4 =>
      rw [e] at q'
      refine ⟨B, F3, as', s', st', .dat ds[i], s4, r3, o'.mono g3, .dat rp3, e, fun σ4 o4 _ _ => ?_⟩
      refine ⟨B, F3, as', s4, st', r3, o4, ?_⟩
      replace q' : postS K cl W B F' as' Dn (match u s4 st' with
        | .nx s' st' => loopM (tgM b u) (ds.drop (i + 1)) s' st'
        | .ct s' st' => loopM (tgM b u) (ds.drop (i + 1)) s' st'
        | .bk s' st' => .nx s' st'
        | o => o) := q'
      cases e2 : u s4 st' with
      | nx s5 st5 =>
        rw [e2] at q'
        exact fun σ5 F5 as5 H5 g5 r5 o5 => ⟨F5, as5, s5, st5, g'.trans (g3.trans g5), r5, o5, postS_grow (g3.trans g5) q'⟩
      | ct s5 st5 =>
        rw [e2] at q'
        exact fun σ5 F5 as5 H5 g5 r5 o5 => ⟨F5, as5, s5, st5, g'.trans (g3.trans g5), r5, o5, postS_grow (g3.trans g5) q'⟩
      | bk s5 st5 =>
        rw [e2] at q'
        exact fun σ5 F5 as5 H5 g5 r5 o5 => q' σ5 F5 as5 H5 (g3.trans g5) r5 o5
      | rt v st5 =>
        rw [e2] at q'
        exact fun w F5 as5 H5 g5 r5 o5 => q' w F5 as5 H5 (g3.trans g5) r5 o5
      | exc c p s5 st5 =>
        rw [e2] at q'
        exact fun w σ5 F5 as5 H5 g5 r5 o5 => q' w σ5 F5 as5 H5 (g3.trans g5) r5 o5
      | no => rw [e2] at q'; exact q'
  · have e : i = ds.length := by omega
    subst e
    rw [List.drop_length] at q'
    exact .inl ⟨hJ.stop F' H' g'.sub r'.fh, q' σ' F' as' H' Grow.refl r' o'⟩
theorem qs_for (hp : PassesOwn (model X.prog X.w) X.A X.env X.xe) (hc : X.calm = true) (hi : PI X tg iter (denI X.K cl W it)) (hg : PG X tg (denG X.K is b)) (hb : PSs X body (denS X.K cl W u)) (hs : ∀ x, foldedSetIterable iter X.env x = pure x := by intro _; rfl) :
    PS X (.For tg iter body [] pos) (denS X.K cl W (forM b it u)) := PS.imp (ps_for hp hc hi hg hb hs) fun _ _ _ q => forM_den q
theorem whileM_den {K : Fr} {Dn : Ends} {σ : St} {H : Hp} (q : denS K cl W (whileM c u) Dn σ H) : tWhile (denT K cl W c) (denS K cl W u) Dn σ H := by
  obtain ⟨B, F, as, s, st, r, o, p⟩ := q
  unfold whileM at p
  split at p
  · rename_i hx
    generalize hx.choose = n at p
    refine ⟨fun m σ' H' => ∃ F' as' s' st', Grow B F F' as as' ∧ RepH K B F' as' H' st' ∧ SlOk K F' as' σ' s' ∧ postS K cl W B F' as' Dn (whileN c u m s' st'), ⟨n, F, as, s, st, Grow.refl, r, o, p⟩, ?_⟩
    rintro m σ' H' ⟨F', as', s', st', g', r', o', q'⟩
    cases m with
    | zero => exact q'.elim
    | succ m =>
      rw [whileN] at q'
      refine ⟨B, F', as', s', st', r', o', post_mono (postS_bind o' q') fun k st2 F2 as2 H2 _ g2 r2 q2 => ?_⟩
      have o2 := o'.mono g2
      cases k with
      | false => exact q2 σ' F2 as2 H2 Grow.refl r2 o2
      | true =>
        refine ⟨fun σ3 H3 => ∃ F3 as3 s3 st3, Grow B F F3 as as3 ∧ RepH K B F3 as3 H3 st3 ∧ SlOk K F3 as3 σ3 s3 ∧ postS K cl W B F3 as3 Dn (whileN c u m s3 st3), fun σ3 H3 h3 => ⟨m, Nat.lt_succ_self _, h3⟩, ?_⟩
        refine ⟨B, F2, as2, s', st2, r2, o2, ?_⟩
        replace q2 : postS K cl W B F2 as2 Dn (match u s' st2 with
          | .nx s' st' => whileN c u m s' st'
          | .ct s' st' => whileN c u m s' st'
          | .bk s' st' => .nx s' st'
          | o => o) := q2
        cases e2 : u s' st2 with
        | nx s5 st5 =>
          rw [e2] at q2
          exact fun σ5 F5 as5 H5 g5 r5 o5 => ⟨F5, as5, s5, st5, g'.trans (g2.trans g5), r5, o5, postS_grow g5 q2⟩
        | ct s5 st5 =>
          rw [e2] at q2
          exact fun σ5 F5 as5 H5 g5 r5 o5 => ⟨F5, as5, s5, st5, g'.trans (g2.trans g5), r5, o5, postS_grow g5 q2⟩
        | bk s5 st5 => rw [e2] at q2; exact q2
        | rt v st5 => rw [e2] at q2; exact q2
        | exc c p s5 st5 => rw [e2] at q2; exact q2
        | no => rw [e2] at q2; exact q2
  · exact p.elim
theorem qs_while (hp : PassesOwn (model X.prog X.w) X.A X.env X.xe) (hc : PT X t (denT X.K cl W c)) (hb : PSs X body (denS X.K cl W u)) : PS X (.While t body [] pos) (denS X.K cl W (whileM c u)) := PS.imp (ps_while hp hc hb) fun _ _ _ q => whileM_den q
end

/-! ### comprehensions -/
def noX {α : Type} : Res α → Res α
  | .exc _ _ _ => .no
  | r => r
def wipeS (s : Slots) : List Nat → Slots
  | [] => s
  | i :: is => (wipeS s is).set i none
def lcGo (b : BM) (t : TM) (e : EM) : List D → Slots → Store → Res (List D)
  | [], _, st => .ok [] st
  | d :: r, s, st => match b (.dat d) s with
    | none => .no
    | some s1 => (t s1 st).bind fun k st1 => if k = true then (e s1 st1).bind fun v st2 => (toD v st2).bind fun x st3 => (lcGo b t e r s st3).bind fun xs st4 => .ok (x :: xs) st4
      else lcGo b t e r s st1
def tYesM : TM := fun _ st => .ok true st
def lcL (it : IM) (b : BM) (vs : List Nat) (t : TM) (e : EM) : Slots → Store → Res (List D) := fun s st => (it s st).bind fun ds st1 => (noX (lcGo b t e ds (wipeS s vs) st1)).bind fun out st2 => if out.length ≤ sizeLine then .ok out st2 else .no
def lcM (it : IM) (b : BM) (vs : List Nat) (t : TM) (e : EM) : EM := fun s st => (lcL it b vs t e s st).bind fun out st2 => .ok (.dat (.list out)) st2
def lcC (it : IM) (b : BM) (vs : List Nat) (t : TM) (e : EM) : EM := fun s st => (lcL it b vs t e s st).bind fun out st2 => .ok (.cel st2.length) (st2 ++ [.lst (out.map .dat)])
abbrev W0 : WX := fun _ _ _ _ => False
theorem wipeS_len (s : Slots) : ∀ vs, (wipeS s vs).length = s.length
  | [] => rfl
  | v :: vs => by unfold wipeS; rw [List.length_set, wipeS_len s vs]
theorem wipe_get {σ : St} {j : Nat} : ∀ {vs : List Nat}, j ∉ vs → (wipe σ vs)[j]? = σ[j]?
  | [], _ => rfl
  | v :: vs, h => by
    unfold wipe
    rw [List.getElem?_set_ne (fun z => h (by simp [z])), wipe_get (fun z => h (List.mem_cons_of_mem _ z))]
theorem wipe_in {σ : St} {j : Nat} : ∀ {vs : List Nat}, j ∈ vs → j < σ.length → (wipe σ vs)[j]? = some none
  | v :: vs, h, hj => by
    unfold wipe
    by_cases e : v = j
    · subst e
      rw [List.getElem?_set_self (by rw [wipe_length]; exact hj)]
    · rw [List.getElem?_set_ne e]
      refine wipe_in ?_ hj
      rcases List.mem_cons.mp h with z | z
      · exact absurd z.symm e
      · exact z
theorem wipe_same {σ σ' : St} {vs : List Nat} (hl : σ'.length = σ.length) (h : ∀ j, j ∉ vs → σ'[j]? = σ[j]?) : wipe σ' vs = wipe σ vs := by
  apply List.ext_getElem?
  intro j
  by_cases hj : j ∈ vs
  · by_cases h2 : j < σ.length
    · rw [wipe_in hj (by rw [hl]; exact h2), wipe_in hj h2]
    · rw [List.getElem?_eq_none (by rw [wipe_length, hl]; omega), List.getElem?_eq_none (by rw [wipe_length]; omega)]
  · rw [wipe_get hj, wipe_get hj, h j hj]
theorem wipe_wipe {σ σ' : St} {vs : List Nat} (hl : σ'.length = σ.length) (h : ∀ j, j ∉ vs → σ'[j]? = (wipe σ vs)[j]?) : wipe σ' vs = wipe σ vs :=
  wipe_same hl fun j hj => by rw [h j hj, wipe_get hj]
theorem SlOk.wipe {K : Fr} {F : Hp} {as : List Addr} {σ : St} {s : Slots} (o : SlOk K F as σ s) : ∀ vs : List Nat, SlOk K F as (L2.wipe σ vs) (wipeS s vs)
  | [] => o
  | v :: vs => by
    have ih := SlOk.wipe o vs
    unfold L2.wipe wipeS
    refine ⟨by rw [List.length_set, List.length_set]; exact ih.1, fun i x e => ?_⟩
    by_cases hi : v = i
    · subst hi
      have hv : v < (wipeS s vs).length := by
        have := (List.getElem?_eq_some_iff.mp e).1
        simpa using this
      rw [List.getElem?_set_self hv] at e
      cases e
    · rw [List.getElem?_set_ne hi] at e ⊢
      exact ih.2 i x e
section
variable {K : Fr} {B F F' : Hp} {as as' : List Addr} {H : Hp} {st : Store} {L : Addr} {acc : List V}
/-- a list that is being made stands by as what must stay -/
theorem RepH.guard (r : RepH K B F as H st) (hL : L ∉ as) (h : H L = some (.lst acc)) : RepH K (upd B L (.lst acc)) F as H st where
  fh := r.fh
  bh := fun a o q => by
    by_cases e : a = L
    · subst e; rw [upd_same] at q; cases q; exact h
    · rw [upd_ne e] at q; exact r.bh _ _ q
  nd := r.nd
  len := r.len
  bn := fun a ha => by rw [upd_ne (fun z => by subst z; exact hL ha)]; exact r.bn a ha
  hs := r.hs
  ok := r.ok
theorem RepH.unguard (r : RepH K (upd B L (.lst acc)) F as H st) (hB : B L = none) : RepH K B F as H st where
  fh := r.fh
  bh := fun a o q => r.bh a o (by rw [upd_ne (fun z => by subst z; rw [hB] at q; cases q)]; exact q)
  nd := r.nd
  len := r.len
  bn := fun a ha => by
    have h := r.bn a ha
    by_cases e : a = L
    · subst e; exact hB
    · rw [upd_ne e] at h; exact h
  hs := r.hs
  ok := r.ok
theorem Grow.unguard (g : Grow (upd B L (.lst acc)) F F' as as') : Grow B F F' as as' :=
  ⟨g.sub, fun a hb hf => g.frame a (fun z => by
    by_cases e : a = L
    · subst e; rw [upd_same] at z; cases z
    · rw [upd_ne e] at z; exact hb z) hf, g.ext⟩
/-- the list that is being made changes -/
theorem RepH.put {ws : List V} (r : RepH K B F as H st) (hL : L ∉ as) (hF : F L = none) (hB : B L = none) : RepH K B F as (upd H L (.lst ws)) st where
  fh := fun a o q => by rw [upd_ne (ne_of_none q hF)]; exact r.fh _ _ q
  bh := fun a o q => by rw [upd_ne (ne_of_none q hB)]; exact r.bh _ _ q
  nd := r.nd
  len := r.len
  bn := r.bn
  hs := fun a ha => by rw [upd_ne (fun z => by subst z; exact hL ha)]; exact r.hs a ha
  ok := fun k c a e1 e2 => by
    have q := r.ok k c a e1 e2
    have hne : a ≠ L := fun z => by subst z; exact hL (List.mem_of_getElem? e2)
    cases c with
    | frz d => exact q
    | lst xs =>
      obtain ⟨q1, vs, q2, q3⟩ := q
      exact ⟨q1, vs, by rw [upd_ne hne]; exact q2, q3⟩
end
theorem post_noX {K : Fr} {cl : Nat → Value} {W W' : WX} {α : Type} {B F : Hp} {as : List Addr} {σ σ' : St} {G : α → Store → Hp → List Addr → Hp → Prop} {r : Res α} (h : postR K cl W B F as σ G (noX r)) : postR K cl W' B F as σ' G r := by
  cases r with
  | ok a st => exact h
  | exc c p st => exact h.elim
  | no => exact h
theorem noX_bind {α β : Type} (r : Res α) (k : α → Store → Res β) : noX (r.bind k) = (noX r).bind fun a st => noX (k a st) := by
  cases r <;> rfl
/-- a comprehension's loop, from a state that is here: the list at L ends as told -/
theorem lc_run {K : Fr} {cl : Nat → Value} {W : WX} {B F : Hp} {as : List Addr} {σ : St} {s : Slots} {st : Store} {H : Hp} {J : It} {ds : List D} {b : BM} {is vs : List Nat} {t : TM} {e : EM} {L : Addr} {Qd : Hp → Prop}
    (hsub : ∀ i ∈ is, i ∈ vs) (hJ : Iter K F J ds) (r : RepH K B F as H st) (o : SlOk K F as σ s) (hL : H L = none)
    (hpost : postR K cl W B F as σ (fun out st' F' as' H' => out.length ≤ sizeLine ∧ ∀ vs', H' L = some (.lst vs') → F' L = none → L ∉ as' → B L = none → RpA K F' vs' out → Qd H') (noX (lcGo b t e ds (wipeS s vs) st)))
    (hlen : ∀ out st', lcGo b t e ds (wipeS s vs) st = .ok out st' → out.length ≤ sizeLine) :
    ∃ Wi : Nat → Nat → Hp → Prop, (∃ m, Wi 0 m (upd H L (.lst []))) ∧ ∀ i m H, Wi i m H →
      (J.stop i H ∧ Qd H) ∨ (J.go i H ∧ ∃ Nx : Hp → Prop, (∀ H', Nx H' → ∃ m', m' < m ∧ Wi (i + 1) m' H') ∧ ∀ x H', J.yld i H x H' → denG K is b x (wipe σ vs) H' fun σ2 H2 => wipe σ2 vs = wipe σ vs ∧ denT K cl W0 t σ2 H2 fun b H3 =>
        if b = true then denE K cl W0 e σ2 H3 fun y H4 => ∃ acc, H4 L = some (.lst acc) ∧ acc.length < sizeLine ∧ Nx (upd H4 L (.lst (acc ++ [y]))) else Nx H3) := by
  have hBL : B L = none := r.bh.free hL
  have hFL : F L = none := r.fh.free hL
  have hasL : L ∉ as := fun z => r.hs L z hL
  /- the turn's state: what is made so far, and that the rest ends well -/
  let St_ : Nat → Hp → Prop := fun i H' => ∃ F' as' st' acc done, Grow B F F' as as' ∧ RepH K B F' as' H' st' ∧ H' L = some (.lst acc) ∧ F' L = none ∧ L ∉ as' ∧ RpA K F' acc done ∧
    postR K cl W B F' as' σ (fun out st2 F2 as2 H2 => ∀ vs', H2 L = some (.lst vs') → F2 L = none → L ∉ as2 → RpA K F2 vs' (done ++ out) → Qd H2) (noX (lcGo b t e (ds.drop i) (wipeS s vs) st')) ∧
    (∀ out st2, lcGo b t e (ds.drop i) (wipeS s vs) st' = .ok out st2 → (done ++ out).length ≤ sizeLine)
  refine ⟨fun i m H' => m = ds.length - i ∧ i ≤ ds.length ∧ St_ i H', ⟨ds.length, by omega, by omega, F, as, st, [], [], Grow.refl, r.put hasL hFL hBL, upd_same, hFL, hasL, .nil, ?_, ?_⟩, ?_⟩
  · exact post_mono hpost fun out st2 F2 as2 H2 _ g2 r2 q2 vs' h1 h2 h3 h4 => q2.2 vs' h1 h2 h3 hBL (by simpa using h4)
  · intro out st2 h
    simpa using hlen out st2 h
  rintro i m H' ⟨rfl, hi, F', as', st', acc, done, g', r', hL', hF', hA', hR', q', l'⟩
  by_cases hlt : i < ds.length
  · have hd : ds.drop i = ds[i] :: ds.drop (i + 1) := List.drop_eq_getElem_cons hlt
    refine .inr ⟨hJ.go i F' H' g'.sub r'.fh hlt, St_ (i + 1), fun H2 h2 => ⟨ds.length - (i + 1), by omega, rfl, hlt, h2⟩, fun x H3 y => ?_⟩
    obtain ⟨F3, x3, rp3⟩ := hJ.yld i F' H' x H3 ds[i] g'.sub r'.fh (List.getElem?_eq_getElem hlt) y
    have g3 := x3.grow r'
    have r3 := r'.ext x3
    have hL3 : H3 L = some (.lst acc) := x3.h _ _ hL'
    have hF3 : F3 L = none := none_of_not fun z => by
      have := x3.n L hF' z
      rw [hL'] at this
      cases this
    have hR3 : RpA K F3 acc done := hR'.mono x3.f
    have o3 : SlOk K F3 as' (wipe σ vs) (wipeS s vs) := (o.mono (g'.trans g3)).wipe vs
    have rg := r3.guard hA' hL3
    rw [hd] at q' l'
    unfold lcGo at q' l'
    cases eb : b (.dat ds[i]) (wipeS s vs) with
    | none => rw [eb] at q'; exact q'.elim
    | some s4 =>
      rw [eb] at q' l'
      simp only at q' l'
      refine ⟨B, F3, as', wipeS s vs, st', .dat ds[i], s4, r3, o3, .dat rp3, eb, fun σ4 o4 l4 n4 => ⟨?_, ?_⟩⟩
      · refine wipe_wipe (by rw [l4, wipe_length]) fun j hj => n4 j fun z => hj (hsub j z)
      · -- the test
        cases et : t s4 st' with
        | exc c p z => rw [et] at q'; exact q'.elim
        | no => rw [et] at q'; exact q'.elim
        | ok k st5 =>
          rw [et, Res.bind_ok] at q' l'
          refine ⟨upd B L (.lst acc), F3, as', s4, st', rg, o4, ?_⟩
          rw [et]
          intro F5 as5 H5 g5 r5
          have hL5 : H5 L = some (.lst acc) := r5.bh L _ upd_same
          have hF5 : F5 L = none := g5.frame L (by rw [upd_same]; exact fun z => by cases z) hF3
          have hA5 : L ∉ as5 := fun z => by
            have := r5.bn L z
            rw [upd_same] at this
            cases this
          have g5' := g5.unguard
          have r5' := r5.unguard hBL
          cases k with
          | false =>
            simp only [Bool.false_eq_true, if_false] at q' l' ⊢
            exact ⟨F5, as5, st5, acc, done, g'.trans (g3.trans g5'), r5', hL5, hF5, hA5, hR3.mono g5.sub, post_grow (g3.trans g5') q', l'⟩
          | true =>
            simp only [if_true] at q' l' ⊢
            cases ee : e s4 st5 with
            | exc c p z => rw [ee] at q'; exact q'.elim
            | no => rw [ee] at q'; exact q'.elim
            | ok v st6 =>
              rw [ee, Res.bind_ok] at q' l'
              refine ⟨upd B L (.lst acc), F5, as5, s4, st5, r5, o4.mono g5, ?_⟩
              rw [ee]
              intro F6 as6 H6 g6 r6 u hu
              have hL6 : H6 L = some (.lst acc) := r6.bh L _ upd_same
              have hF6 : F6 L = none := g6.frame L (by rw [upd_same]; exact fun z => by cases z) hF5
              have hA6 : L ∉ as6 := fun z => by
                have := r6.bn L z
                rw [upd_same] at this
                cases this
              rcases toD_res v st6 with ⟨d, st7, ed⟩ | ed
              · rw [ed, Res.bind_ok] at q' l'
                obtain ⟨F7, g7, r7, rp7⟩ := toD_ok r6 hu ed
                have hF7 : F7 L = none := g7.frame L (by rw [upd_same]; exact fun z => by cases z) hF6
                have g7' := g7.unguard
                have g6' := g6.unguard
                have r7' := r7.unguard hBL
                have hR7 : RpA K F7 acc done := ((hR3.mono g5.sub).mono g6.sub).mono g7.sub
                cases eo : lcGo b t e (ds.drop (i + 1)) (wipeS s vs) st7 with
                | exc c p z => rw [eo] at q'; exact q'.elim
                | no => rw [eo] at q'; exact q'.elim
                | ok out st8 =>
                  rw [eo, Res.bind_ok] at q' l'
                  have ll := l' (d :: out) st8 rfl
                  have hlen : acc.length < sizeLine := by
                    rw [hR7.len]
                    rw [List.length_append, List.length_cons] at ll
                    omega
                  refine ⟨acc, hL6, hlen, F7, as6, st7, acc ++ [u], done ++ [d], g'.trans (g3.trans (g5'.trans (g6'.trans g7'))), r7'.put hA6 hF7 hBL, upd_same, hF7, hA6, hR7.append (.one rp7), ?_, ?_⟩
                  · rw [eo]
                    intro F9 as9 H9 g9 r9 vs' h1 h2 h3 h4
                    refine q' F9 as9 H9 (g3.trans (g5'.trans (g6'.trans (g7'.trans g9)))) r9 vs' h1 h2 h3 ?_
                    rw [List.append_assoc] at h4
                    exact h4
                  · intro out2 st9 e9
                    rw [eo] at e9
                    cases e9
                    rw [List.append_assoc]
                    exact ll
              · rw [ed] at q'
                exact q'.elim
  · have ei : i = ds.length := by omega
    subst ei
    rw [List.drop_length] at q'
    refine .inl ⟨hJ.stop F' H' g'.sub r'.fh, ?_⟩
    exact q' F' as' H' Grow.refl r' acc hL' hF' hA' (by simpa using hR')
end Pd

set_option Elab.async false
set_option linter.all false
set_option maxRecDepth 100000
set_option maxHeartbeats 4000000
/-! Pd5: comprehensions as rules; cells changed; defs. -/
namespace Pd
open PySem PySem.Spec PyProof.Rows L2 RZ
section
variable {K : Fr} {B F F' : Hp} {as as' : List Addr} {H H' : Hp} {st st' : Store} {L a : Addr} {vs ws : List V} {xs ys : List Vl} {k : Nat}
/-- a list that stands untracked is frozen | becomes a cell -/
theorem lst_adopt {ds : List D} (r : RepH K B F as H st) (h : H L = some (.lst vs)) (hF : F L = none) (hL : L ∉ as) (hB : B L = none) (p : RpA K F vs ds) :
    Grow B F (upd F L (.lst vs)) as as ∧ RepH K B (upd F L (.lst vs)) as H st ∧ Rp K (upd F L (.lst vs)) (.ref L) (.list ds) := by
  have ff : Same F (upd F L (.lst vs)) := fun b z q => by
    rw [upd_ne (ne_of_none q hF)]
    exact q
  refine ⟨⟨ff, fun b h1 h2 => by rw [upd_ne (fun z => by subst z; exact h1 hB)]; exact h2, List.prefix_refl _⟩, ⟨fun b z q => ?_, r.bh, r.nd, r.len, r.bn, r.hs, fun j c b e1 e2 => ?_⟩, .lst upd_same (p.mono ff)⟩
  · by_cases hb : b = L
    · subst hb; rw [upd_same] at q; cases q; exact h
    · rw [upd_ne hb] at q; exact r.fh _ _ q
  · have q := r.ok j c b e1 e2
    have hne : b ≠ L := fun z => by subst z; exact hL (List.mem_of_getElem? e2)
    cases c with
    | frz d => exact Rp.mono ff q
    | lst zs =>
      obtain ⟨p1, us, p2, p3⟩ := q
      exact ⟨by rw [upd_ne hne]; exact p1, us, p2, p3.mono' ff (List.prefix_refl _)⟩
theorem cell_adopt (r : RepH K B F as H st) (h : H L = some (.lst vs)) (hF : F L = none) (hL : L ∉ as) (hB : B L = none) (p : VlsOk K F as vs xs) :
    Grow B F F as (as ++ [L]) ∧ RepH K B F (as ++ [L]) H (st ++ [.lst xs]) ∧ VlOk K F (as ++ [L]) (.ref L) (.cel st.length) := by
  have hx : as <+: as ++ [L] := List.prefix_append _ _
  have hl : (as ++ [L])[st.length]? = some L := by
    rw [← r.len, List.getElem?_append_right (Nat.le_refl _), Nat.sub_self]
    rfl
  refine ⟨⟨Same.refl _, fun _ _ h => h, hx⟩, ⟨r.fh, r.bh, ?_, by simp [r.len], fun b ha => ?_, fun b ha => ?_, fun j c b e1 e2 => ?_⟩, .cel hl⟩
  · exact List.nodup_append.mpr ⟨r.nd, by simp, fun x hx' y hy => by
      have : y = L := by simpa using hy
      subst this
      exact fun z => hL (z ▸ hx')⟩
  · rcases List.mem_append.mp ha with ha | ha
    · exact r.bn b ha
    · have : b = L := by simpa using ha
      subst this
      exact hB
  · rcases List.mem_append.mp ha with ha | ha
    · exact r.hs b ha
    · have : b = L := by simpa using ha
      subst this
      rw [h]
      exact fun z => by cases z
  · by_cases hk : j < st.length
    · rw [List.getElem?_append_left hk] at e1
      rw [List.getElem?_append_left (by rw [r.len]; exact hk)] at e2
      have q := r.ok j c b e1 e2
      cases c with
      | frz d => exact q
      | lst zs =>
        obtain ⟨q1, us, q2, q3⟩ := q
        exact ⟨q1, us, q2, q3.mono' (Same.refl _) hx⟩
    · have hk2 : j < st.length + 1 := by
        have := (List.getElem?_eq_some_iff.mp e1).1
        simpa using this
      have hk3 : j = st.length := by omega
      subst hk3
      rw [hl] at e2
      cases e2
      rw [List.getElem?_append_right (Nat.le_refl _), Nat.sub_self] at e1
      cases e1
      exact ⟨hF, vs, h, p.mono' (Same.refl _) hx⟩
/-- a cell's list changes -/
theorem cell_put (r : RepH K B F as H st) (e1 : as[k]? = some a) (e2 : st[k]? = some (.lst xs)) (p : VlsOk K F as ws ys) : RepH K B F as (upd H a (.lst ws)) (st.set k (.lst ys)) := by
  obtain ⟨q1, vs, q2, q3⟩ := r.ok k _ a e2 e1
  have ha : a ∈ as := List.mem_of_getElem? e1
  have hB := r.bn a ha
  refine ⟨fun b o q => by rw [upd_ne (ne_of_none q q1)]; exact r.fh _ _ q, fun b o q => by rw [upd_ne (ne_of_none q hB)]; exact r.bh _ _ q, r.nd, by rw [List.length_set]; exact r.len, r.bn, fun b hb => ?_, fun j c b e3 e4 => ?_⟩
  · by_cases e : b = a
    · subst e; rw [upd_same]; exact fun z => by cases z
    · rw [upd_ne e]; exact r.hs b hb
  · by_cases hj : k = j
    · subst hj
      rw [e1] at e4
      cases e4
      rw [List.getElem?_set_self (List.getElem?_eq_some_iff.mp e2).1] at e3
      cases e3
      exact ⟨q1, ws, upd_same, p⟩
    · rw [List.getElem?_set_ne hj] at e3
      have qj := r.ok j c b e3 e4
      have hne : b ≠ a := fun z => by
        subst z
        obtain ⟨l1, g1⟩ := List.getElem?_eq_some_iff.mp e1
        obtain ⟨l2, g2⟩ := List.getElem?_eq_some_iff.mp e4
        exact hj ((List.getElem_inj r.nd).mp (g1.trans g2.symm))
      cases c with
      | frz d => exact qj
      | lst zs =>
        obtain ⟨p1, us, p2, p3⟩ := qj
        exact ⟨p1, us, by rw [upd_ne hne]; exact p2, p3⟩
end
section
variable {K : Fr} {cl : Nat → Value} {W : WX}
theorem lcM_den {it : IM} {b : BM} {is vs : List Nat} {t : TM} {e : EM} (hsub : ∀ i ∈ is, i ∈ vs) {σ : L2.St} {H : Hp} {Q : VK} (q : denE K cl W (lcM it b vs t e) σ H Q) : tLc (denI K cl W it) (denG K is b) (denT K cl W0 t) (denE K cl W0 e) vs σ H Q := by
  have q2 : den K cl W (fun s st => (it s st).bind fun ds st1 => (noX (lcGo b t e ds (wipeS s vs) st1)).bind fun out st2 => if out.length ≤ sizeLine then .ok (.dat (.list out)) st2 else .no) σ H fun v _ F' as' H' => ∀ u, VlOk K F' as' u v → Q u H' := by
    obtain ⟨B, F, as, s, st, r, o, p⟩ := q
    refine ⟨B, F, as, s, st, r, o, ?_⟩
    unfold lcM lcL at p
    dsimp only
    cases e1 : it s st with
    | exc c p2 z => rw [e1] at p; exact p
    | no => rw [e1] at p; exact p
    | ok ds st1 =>
      rw [e1, Res.bind_ok] at p
      rw [Res.bind_ok]
      cases e2 : noX (lcGo b t e ds (wipeS s vs) st1) with
      | exc c p2 z => rw [e2] at p; exact p
      | no => rw [e2] at p; exact p
      | ok out st2 =>
        rw [e2, Res.bind_ok] at p
        rw [Res.bind_ok]
        split
        · rename_i h
          rw [if_pos h] at p
          exact p
        · rename_i h
          rw [if_neg h] at p
          exact p
  refine den_bind q2 fun B F as s ds st1 H1 r1 o1 q J hJ L hL => ?_
  refine lc_run (W := W) hsub hJ r1 o1 hL ?_ ?_
  · refine post_mono (post_bind q) fun out st' F' as' H' e g' r' q3 => ?_
    split at q3
    · rename_i hl
      refine ⟨hl, fun vs' h1 h2 h3 h4 h5 => ?_⟩
      obtain ⟨g4, r4, p4⟩ := lst_adopt r' h1 h2 h3 h4 h5
      exact q3 _ _ _ g4 r4 _ (.dat p4)
    · exact q3.elim
  · intro out st' e
    rw [e] at q
    replace q : postR K cl W B F as σ (fun v _ F' as' H' => ∀ u, VlOk K F' as' u v → Q u H') (if out.length ≤ sizeLine then .ok (.dat (.list out)) st' else .no) := q
    split at q
    · assumption
    · exact q.elim
theorem lcC_den {it : IM} {b : BM} {is vs : List Nat} {t : TM} {e : EM} (hsub : ∀ i ∈ is, i ∈ vs) {σ : L2.St} {H : Hp} {Q : VK} (q : denE K cl W (lcC it b vs t e) σ H Q) : tLc (denI K cl W it) (denG K is b) (denT K cl W0 t) (denE K cl W0 e) vs σ H Q := by
  have q2 : den K cl W (fun s st => (it s st).bind fun ds st1 => (noX (lcGo b t e ds (wipeS s vs) st1)).bind fun out st2 => if out.length ≤ sizeLine then .ok (.cel st2.length) (st2 ++ [.lst (out.map .dat)]) else .no) σ H fun v _ F' as' H' => ∀ u, VlOk K F' as' u v → Q u H' := by
    obtain ⟨B, F, as, s, st, r, o, p⟩ := q
    refine ⟨B, F, as, s, st, r, o, ?_⟩
    unfold lcC lcL at p
    dsimp only
    cases e1 : it s st with
    | exc c p2 z => rw [e1] at p; exact p
    | no => rw [e1] at p; exact p
    | ok ds st1 =>
      rw [e1, Res.bind_ok] at p
      rw [Res.bind_ok]
      cases e2 : noX (lcGo b t e ds (wipeS s vs) st1) with
      | exc c p2 z => rw [e2] at p; exact p
      | no => rw [e2] at p; exact p
      | ok out st2 =>
        rw [e2, Res.bind_ok] at p
        rw [Res.bind_ok]
        split
        · rename_i h
          rw [if_pos h] at p
          exact p
        · rename_i h
          rw [if_neg h] at p
          exact p
  refine den_bind q2 fun B F as s ds st1 H1 r1 o1 q J hJ L hL => ?_
  refine lc_run (W := W) hsub hJ r1 o1 hL ?_ ?_
  · refine post_mono (post_bind q) fun out st' F' as' H' e g' r' q3 => ?_
    split at q3
    · rename_i hl
      refine ⟨hl, fun vs' h1 h2 h3 h4 h5 => ?_⟩
      obtain ⟨g4, r4, p4⟩ := cell_adopt r' h1 h2 h3 h4 (VlsOk.rpa h5)
      exact q3 _ _ _ g4 r4 _ p4
    · exact q3.elim
  · intro out st' e
    rw [e] at q
    replace q : postR K cl W B F as σ (fun v _ F' as' H' => ∀ u, VlOk K F' as' u v → Q u H') (if out.length ≤ sizeLine then .ok (.cel st'.length) (st' ++ [.lst (out.map .dat)]) else .no) := q
    split at q
    · assumption
    · exact q.elim
end
theorem sub_of {is vs : List Nat} (h : is.all (fun i => vs.contains i) = true) : ∀ i ∈ is, i ∈ vs := fun i hi => List.contains_iff_mem.mp (List.all_eq_true.mp h i hi)
section
variable {X : Cx} {cl : Nat → Value} {W : WX} {elt tg iter : Expr} {ifs : List Expr} {scope : Scope} {own : List (Str × Nat)} {pos : Pos} {it : IM} {b : BM} {is : List Nat} {t : TM} {e : EM}
theorem qts_nil : PTs X [] (denT X.K cl W tYesM) := ⟨fun pins s σ H Q I q => pts_nil.run pins s σ H Q I (by
  obtain ⟨B, F, as, sl, st, r, o, p⟩ := q
  exact post_ok p r)⟩
theorem qts_one {c : Expr} (h : PT X c (denT X.K cl W t)) : PTs X [c] (denT X.K cl W t) := pts_one h
theorem qe_lc (own : List (Str × Nat)) (hc : X.calm = true) (hN : X.N.Nodup) (hsub : is.all (fun i => (own.map (·.2)).contains i) = true) (hi : PI X tg iter (denI X.K cl W it)) (ok : BlkOk X.N X.env.scope scope own)
    (hg : ∀ (s : Shared) (H : Hp) (C : Addr) (cl : List (Str × Addr)) (fp : List Addr), PG (X.blk s H scope (compEnvC scope cl C X.env) fp) tg (denG X.K is b))
    (ht : ∀ (s : Shared) (H : Hp) (C : Addr) (cl' : List (Str × Addr)) (fp : List Addr), PTs (X.blk s H scope (compEnvC scope cl' C X.env) fp) ifs (denT X.K cl W0 t))
    (he : ∀ (s : Shared) (H : Hp) (C : Addr) (cl' : List (Str × Addr)) (fp : List Addr), PE (X.blk s H scope (compEnvC scope cl' C X.env) fp) elt (denE X.K cl W0 e)) (hs : ∀ x, foldedSetIterable iter X.env x = pure x := by intro _; rfl) :
    PE X (.ListComp elt [⟨tg, iter, ifs, 0⟩] scope pos) (denE X.K cl W (lcM it b (own.map (·.2)) t e)) :=
  PE.imp (pe_lc hc hN hi ok hg ht he hs) fun _ _ _ q => lcM_den (sub_of hsub) q
theorem qe_lcC (own : List (Str × Nat)) (hc : X.calm = true) (hN : X.N.Nodup) (hsub : is.all (fun i => (own.map (·.2)).contains i) = true) (hi : PI X tg iter (denI X.K cl W it)) (ok : BlkOk X.N X.env.scope scope own)
    (hg : ∀ (s : Shared) (H : Hp) (C : Addr) (cl : List (Str × Addr)) (fp : List Addr), PG (X.blk s H scope (compEnvC scope cl C X.env) fp) tg (denG X.K is b))
    (ht : ∀ (s : Shared) (H : Hp) (C : Addr) (cl' : List (Str × Addr)) (fp : List Addr), PTs (X.blk s H scope (compEnvC scope cl' C X.env) fp) ifs (denT X.K cl W0 t))
    (he : ∀ (s : Shared) (H : Hp) (C : Addr) (cl' : List (Str × Addr)) (fp : List Addr), PE (X.blk s H scope (compEnvC scope cl' C X.env) fp) elt (denE X.K cl W0 e)) (hs : ∀ x, foldedSetIterable iter X.env x = pure x := by intro _; rfl) :
    PE X (.ListComp elt [⟨tg, iter, ifs, 0⟩] scope pos) (denE X.K cl W (lcC it b (own.map (·.2)) t e)) :=
  PE.imp (pe_lc hc hN hi ok hg ht he hs) fun _ _ _ q => lcC_den (sub_of hsub) q
theorem qs_setLc (i : Nat) (own : List (Str × Nat)) {y : Str} {py spos : Pos} (hc : X.calm = true) (hN : X.N.Nodup) (hsub : is.all (fun i => (own.map (·.2)).contains i) = true) (hi : PI X tg iter (denI X.K cl W it)) (ok : BlkOk X.N X.env.scope scope own)
    (hg : ∀ (s : Shared) (H : Hp) (C : Addr) (cl : List (Str × Addr)) (fp : List Addr), PG (X.blk s H scope (compEnvC scope cl C X.env) fp) tg (denG X.K is b))
    (ht : ∀ (s : Shared) (H : Hp) (C : Addr) (cl' : List (Str × Addr)) (fp : List Addr), PTs (X.blk s H scope (compEnvC scope cl' C X.env) fp) ifs (denT X.K cl W0 t))
    (he : ∀ (s : Shared) (H : Hp) (C : Addr) (cl' : List (Str × Addr)) (fp : List Addr), PE (X.blk s H scope (compEnvC scope cl' C X.env) fp) elt (denE X.K cl W0 e))
    (hy : X.N[i]? = some y) (hyl : X.env.scope.names.lookup y = some .local) (hsw : swapsWith (.ListComp elt [⟨tg, iter, ifs, 0⟩] scope pos) (some (.Name y py)) spos.line X.env = pure true) (hs : ∀ x, foldedSetIterable iter X.env x = pure x := by intro _; rfl) :
    PS X (.Assign [.Name y py] (.ListComp elt [⟨tg, iter, ifs, 0⟩] scope pos) spos) (denS X.K cl W (setM i (lcM it b (own.map (·.2)) t e))) :=
  PS.imp (ps_setLc hc hN hy hyl hsw hi ok hg ht he hs) fun Dn σ H q => by
    have q2 : denE X.K cl W (lcM it b (own.map (·.2)) t e) σ H fun x H1 => gName i x σ H1 Dn.nx := denS_bind q fun B F as s v st1 H1 r1 o1 q u hu => q _ F as H1 Grow.refl r1 (o1.set hu)
    exact lcM_den (sub_of hsub) q2
theorem qs_setLcC (i : Nat) (own : List (Str × Nat)) {y : Str} {py spos : Pos} (hc : X.calm = true) (hN : X.N.Nodup) (hsub : is.all (fun i => (own.map (·.2)).contains i) = true) (hi : PI X tg iter (denI X.K cl W it)) (ok : BlkOk X.N X.env.scope scope own)
    (hg : ∀ (s : Shared) (H : Hp) (C : Addr) (cl : List (Str × Addr)) (fp : List Addr), PG (X.blk s H scope (compEnvC scope cl C X.env) fp) tg (denG X.K is b))
    (ht : ∀ (s : Shared) (H : Hp) (C : Addr) (cl' : List (Str × Addr)) (fp : List Addr), PTs (X.blk s H scope (compEnvC scope cl' C X.env) fp) ifs (denT X.K cl W0 t))
    (he : ∀ (s : Shared) (H : Hp) (C : Addr) (cl' : List (Str × Addr)) (fp : List Addr), PE (X.blk s H scope (compEnvC scope cl' C X.env) fp) elt (denE X.K cl W0 e))
    (hy : X.N[i]? = some y) (hyl : X.env.scope.names.lookup y = some .local) (hsw : swapsWith (.ListComp elt [⟨tg, iter, ifs, 0⟩] scope pos) (some (.Name y py)) spos.line X.env = pure true) (hs : ∀ x, foldedSetIterable iter X.env x = pure x := by intro _; rfl) :
    PS X (.Assign [.Name y py] (.ListComp elt [⟨tg, iter, ifs, 0⟩] scope pos) spos) (denS X.K cl W (setM i (lcC it b (own.map (·.2)) t e))) :=
  PS.imp (ps_setLc hc hN hy hyl hsw hi ok hg ht he hs) fun Dn σ H q => by
    have q2 : denE X.K cl W (lcC it b (own.map (·.2)) t e) σ H fun x H1 => gName i x σ H1 Dn.nx := denS_bind q fun B F as s v st1 H1 r1 o1 q u hu => q _ F as H1 Grow.refl r1 (o1.set hu)
    exact lcC_den (sub_of hsub) q2
end

/-! ### cells by methods -/
def lstAt (v : Vl) (st : Store) : Option (Nat × List Vl) := match v with
  | .cel k => (match st[k]? with
    | some (.lst xs) => some (k, xs)
    | _ => none)
  | _ => none
theorem lstAt_eq {v : Vl} {st : Store} {k : Nat} {xs : List Vl} (h : lstAt v st = some (k, xs)) : v = .cel k ∧ st[k]? = some (.lst xs) := by
  unfold lstAt at h
  split at h
  · rename_i j
    split at h
    · rename_i zs e
      cases h
      exact ⟨rfl, e⟩
    · cases h
  · cases h
theorem cel_at {K : Fr} {F : Hp} {as : List Addr} {u : V} {k : Nat} (h : VlOk K F as u (.cel k)) : ∃ a, u = .ref a ∧ as[k]? = some a := by
  cases h with
  | cel h => exact ⟨_, rfl, h⟩
/-- x.append(e): the item frozen -/
def appM (f g : EM) : EM := fun s st => (f s st).bind fun v st1 => match lstAt v st1 with
  | none => .no
  | some _ => (g s st1).bind fun w st2 => (toD w st2).bind fun d st3 => match lstAt v st3 with
    | some (k, xs) => if xs.length < sizeLine then .ok (.dat .none) (st3.set k (.lst (xs ++ [.dat d]))) else .no
    | none => .no
/-- x.pop() -/
def popM (f : EM) : EM := fun s st => (f s st).bind fun v st1 => match lstAt v st1 with
  | some (k, xs) => (match xs[xs.length - 1]? with
    | some w => .ok w (st1.set k (.lst xs.dropLast))
    | none => .no)
  | none => .no
theorem Vls.last {K : Fr} {F : Hp} {as : List Addr} {vs : List V} {xs : List Vl} {i : Nat} {w : Vl} (h : VlsOk K F as vs xs) (e : xs[i]? = some w) : ∃ u, vs[i]? = some u ∧ VlOk K F as u w := by
  induction h generalizing i with
  | nil => simp at e
  | cons h1 h2 ih =>
    cases i with
    | zero => simp at e; subst e; exact ⟨_, rfl, h1⟩
    | succ i =>
      obtain ⟨u, e1, e2⟩ := ih (i := i) (by simpa using e)
      exact ⟨u, by simpa using e1, e2⟩
theorem Vls.append {K : Fr} {F : Hp} {as : List Addr} {vs ws : List V} {xs ys : List Vl} (h : VlsOk K F as vs xs) (k : VlsOk K F as ws ys) : VlsOk K F as (vs ++ ws) (xs ++ ys) := by
  induction h with
  | nil => exact k
  | cons h1 h2 ih => exact .cons h1 ih
theorem Vls.dropLast {K : Fr} {F : Hp} {as : List Addr} {vs : List V} {xs : List Vl} (h : VlsOk K F as vs xs) : VlsOk K F as vs.dropLast xs.dropLast := by
  induction h with
  | nil => exact .nil
  | cons h1 h2 ih =>
    cases h2 with
    | nil => exact .nil
    | cons h3 h4 => exact .cons h1 ih
theorem Vls.set {K : Fr} {F : Hp} {as : List Addr} {vs : List V} {xs : List Vl} {u : V} {w : Vl} (r : VlOk K F as u w) (h : VlsOk K F as vs xs) : ∀ j : Nat, VlsOk K F as (vs.set j u) (xs.set j w) := by
  induction h with
  | nil => intro j; exact .nil
  | cons h1 h2 ih =>
    intro j
    cases j with
    | zero => exact .cons r h2
    | succ j => exact .cons h1 (ih j)
section
variable {X : Cx} {cl : Nat → Value} {W : WX} {o e i : Expr} {f g h : EM} {apos cpos pos pos' : Pos}
theorem qe_append (ho : PE X o (denE X.K cl W f)) (he : PE X e (denE X.K cl W g)) (hbase : attributeBase o "append" X.env (eval o X.env) = eval o X.env := by rfl)
    (hfew : ((backTo cpos (starEach (e :: []) X.env)).all (fun x => !x.1) && (backToKw cpos (keywordEach [] X.env)).all (fun x => x.1.isSome)
      && decide ((e :: []).length + ([] : List Keyword).length + (if ([] : List Keyword).isEmpty then 0 else 1) < 30)) = true := by rfl)
    (hline : (apos.endLine == cpos.line) = true := by rfl) (hs : starEach (e :: []) X.env = (false, eval e X.env) :: starEach [] X.env := by rfl) :
    PE X (.Call (.Attribute o "append" apos) [e] [] cpos) (denE X.K cl W (appM f g)) :=
  PE.imp (pe_bm PySem.F.plainAttrs_list PySem.F.slot_list_append PySem.F.type_list_append mt_append ho (pa_cons he pa_nil hs) (hbase := hbase) (hfew := hfew) (hline := hline) (hs := hs)) fun σ H Q q => by
    refine den_bind q fun B F as s v st1 H1 r1 o1 q u hu => ?_
    cases e1 : lstAt v st1 with
    | none => rw [e1] at q; exact q.elim
    | some kx =>
      obtain ⟨k0, xs0⟩ := kx
      rw [e1] at q
      obtain ⟨rfl, ec⟩ := lstAt_eq e1
      obtain ⟨a, rfl, ea⟩ := cel_at hu
      obtain ⟨q1, vs0, q2, q3⟩ := r1.ok k0 _ a ec ea
      refine ⟨.inl ⟨rfl, _, .inl (.inl q2)⟩, ?_⟩
      refine ⟨B, F, as, s, st1, r1, o1, post_mono (post_bind q) fun w st2 F2 as2 H2 _ g2 r2 q w' hw => ?_⟩
      rcases toD_res w st2 with ⟨d, st3, ed⟩ | ed
      · rw [ed, Res.bind_ok] at q
        obtain ⟨F3, g3, r3, p3⟩ := toD_ok r2 hw ed
        cases e3 : lstAt (.cel k0) st3 with
        | none => rw [e3] at q; exact q.elim
        | some kx =>
          obtain ⟨k, xs⟩ := kx
          rw [e3] at q
          obtain ⟨ek, ec3⟩ := lstAt_eq e3
          cases ek
          simp only at q
          have ea3 := as_ext (g2.trans g3).ext ea
          obtain ⟨p1, vs, p2, p4⟩ := r3.ok _ _ a ec3 ea3
          split at q
          · rename_i hl
            refine ⟨a, vs, w', rfl, rfl, p2, by rw [Paired.length p4]; exact hl, ?_⟩
            have r4 := cell_put r3 ea3 ec3 (Vls.append p4 (.cons (.dat p3) .nil) : VlsOk X.K F3 as2 (vs ++ [w']) (xs ++ [.dat d]))
            exact q F3 as2 _ g3 r4 _ (.dat .non)
          · exact q.elim
      · rw [ed] at q
        exact q.elim
theorem qe_pop (ho : PE X o (denE X.K cl W f)) (hbase : attributeBase o "pop" X.env (eval o X.env) = eval o X.env := by rfl) (hline : (apos.endLine == cpos.line) = true := by rfl) :
    PE X (.Call (.Attribute o "pop" apos) [] [] cpos) (denE X.K cl W (popM f)) :=
  PE.imp (pe_bm0 PySem.F.plainAttrs_list PySem.F.slot_list_pop PySem.F.type_list_pop mt_pop ho (hbase := hbase) (hline := hline)) fun σ H Q q => by
    refine den_bind q fun B F as s v st1 H1 r1 o1 q u hu => ?_
    cases e1 : lstAt v st1 with
    | none => rw [e1] at q; exact q.elim
    | some kx =>
      obtain ⟨k, xs⟩ := kx
      rw [e1] at q
      simp only at q
      obtain ⟨rfl, ec⟩ := lstAt_eq e1
      obtain ⟨a, rfl, ea⟩ := cel_at hu
      obtain ⟨q1, vs, q2, q3⟩ := r1.ok k _ a ec ea
      refine ⟨.inl ⟨rfl, _, .inl (.inl q2)⟩, ?_⟩
      cases ew : xs[xs.length - 1]? with
      | none => simp only [ew] at q; exact q.elim
      | some w =>
        simp only [ew] at q
        obtain ⟨y, ey, hy⟩ := Vls.last q3 ew
        refine ⟨a, vs, y, rfl, rfl, q2, by rw [Paired.length q3]; exact ey, ?_⟩
        exact q F as _ Grow.refl (cell_put r1 ea ec (Vls.dropLast q3)) y hy
/-- x[i] = e: the item frozen -/
def setIxM (f g h : EM) : SM := fun s st => bindS (h s st) s fun w st1 => bindS (toD w st1) s fun d st2 => bindS (f s st2) s fun v st3 => bindS (g s st3) s fun j st4 => match lstAt v st4, j with
  | some (k, xs), .dat (.int n) => (match ixN xs.length n with
    | some m => .nx s (st4.set k (.lst (xs.set m (.dat d))))
    | none => .no)
  | _, _ => .no
theorem qs_setIx (he : PE X e (denE X.K cl W h)) (ho : PE X o (denE X.K cl W f)) (hi : PE X i (denE X.K cl W g)) (hs : swapsWithSole [.Subscript o i pos'] e pos.line X.env = pure false := by rfl) (hw : swappedStores [.Subscript o i pos'] e X.env = pure none := by rfl)
    (h1 : (assignEach [.Subscript o i pos'] X.env).map (·.2) = [assign (.Subscript o i pos') X.env] := by rfl)
    (ha : ∀ v, assign (.Subscript o i pos') X.env v = (do
      let ov ← holding [v] (eval o X.env)
      let iv ← holding [v, ov] (eval i X.env)
      standAt pos'
      holding [v, ov, iv] (setItem ov iv v)
      release [v, ov, iv] []) := by intro _; rfl) : PS X (.Assign [.Subscript o i pos'] e pos) (denS X.K cl W (setIxM f g h)) :=
  PS.imp (ps_asg he (pg_sub ho hi set_list ha) hs hw h1) fun Dn σ H q => by
    refine denS_bind q fun B F as s w st1 H1 r1 o1 q w' hw' => ?_
    rcases toD_res w st1 with ⟨d, st2, ed⟩ | ed
    · rw [ed, bindS_ok] at q
      obtain ⟨F2, g2, r2, p2⟩ := toD_ok r1 hw' ed
      have qa := postS_grow g2 q
      have o2 := o1.mono g2
      refine ⟨B, F2, as, s, st2, r2, o2, post_mono (postS_bind o2 qa) fun v st3 F3 as3 H3 _ g3 r3 qb u hu => ?_⟩
      have o3 := o2.mono g3
      refine ⟨B, F3, as3, s, st3, r3, o3, post_mono (postS_bind o3 qb) fun j st4 F4 as4 H4 _ g4 r4 qc j' hj => ?_⟩
      have o4 := o3.mono g4
      cases e4 : lstAt v st4 with
      | none => rw [e4] at qc; exact qc.elim
      | some kx =>
        obtain ⟨k, xs⟩ := kx
        rw [e4] at qc
        obtain ⟨rfl, ec⟩ := lstAt_eq e4
        obtain ⟨a, rfl, ea⟩ := cel_at (hu.mono g4)
        obtain ⟨q1, vs, q2, q3⟩ := r4.ok k _ a ec ea
        have hj2 : ∃ n, j = .dat (.int n) := by
          cases j with
          | cel _ => exact qc.elim
          | scr _ => exact qc.elim
          | dat dj => cases dj with
            | int n => exact ⟨n, rfl⟩
            | none => exact qc.elim
            | bool _ => exact qc.elim
            | str _ => exact qc.elim
            | list _ => exact qc.elim
            | tuple _ => exact qc.elim
            | dict _ => exact qc.elim
        obtain ⟨n, rfl⟩ := hj2
        simp only at qc
        cases hm : ixN xs.length n with
        | none => simp only [hm] at qc; exact qc.elim
        | some m =>
          simp only [hm] at qc
          rw [vl_int hj]
          refine ⟨a, vs, n, m, rfl, rfl, q2, by rw [Paired.length q3]; exact hm, ?_⟩
          exact qc σ F4 as4 _ Grow.refl (cell_put r4 ea ec (Vls.set (.dat (p2.mono (g3.trans g4).sub)) q3 m)) o4
    · rw [ed] at q
      exact q.elim
end

/-! ### defs -/
def fnV (n k : Nat) (body : SM) : List Vl → Store → Res Vl := fun args st => if args.length = n then (match body (args.map some ++ List.replicate k none) st with
  | .rt v st' => .ok v st'
  | .nx _ st' => .ok (.dat .none) st'
  | .exc c p _ st' => .exc c p st'
  | _ => .no) else .no
theorem start_slots {K : Fr} {F : Hp} {as : List Addr} {vs : List V} {args : List Vl} {N : List Str} {k : Nat} (h : VlsOk K F as vs args) (hk : N.length = vs.length + k) : SlOk K F as (L2.start N vs) (args.map some ++ List.replicate k none) := by
  have hl := Paired.length h
  have e : N.length - vs.length = k := by omega
  unfold L2.start
  rw [e]
  refine ⟨by simp [hl], fun i v e => ?_⟩
  by_cases hi : i < args.length
  · rw [List.getElem?_append_left (by simpa using hi), List.getElem?_map] at e
    cases e2 : args[i]? with
    | none => rw [e2] at e; cases e
    | some w =>
      rw [e2] at e
      cases e
      obtain ⟨u, e3, e4⟩ := Vls.last h e2
      refine ⟨u, ?_, e4⟩
      rw [List.getElem?_append_left (by rw [List.length_map, hl]; exact hi), List.getElem?_map, e3]
      rfl
  · rw [List.getElem?_append_right (by simpa using hi), List.getElem?_replicate] at e
    split at e <;> cases e
section
variable {P : Program} {w : World} {K : PySem.W.Frag} {mg : Str → Option Value} {base : Heap} {x qual : Str} {params : Arguments} {body : List Stmt} {scope : Scope} {f : Addr} {fd : FuncData} {cl : Nat → Value}
/-- THE RULE: a def keeps the promise of its denotation -/
theorem fn_ok {N ps : List Str} {k n j : Nat} {m : SM} (Fd : FunD K x qual params body scope [] [] f fd) (S : FnScope N ps scope) (hn : ps.length = n) (hj : N.length = n + j)
    (hbody : ∀ (cdv : Value) (A : Around) (outer : List Env) (s : Shared) (H : Hp) (E : XK), Room k (A.deeper (envOfC qual scope s.heap.objs.size f cdv)) →
      Takes (cxOf (L2.CX P w) P w K mg base N qual scope f cdv A outer s H E) (fun c d _ H' => E c d H') → PassesOwn (model P w) (A.deeper (envOfC qual scope s.heap.objs.size f cdv)) (envOfC qual scope s.heap.objs.size f cdv) (cxOf (L2.CX P w) P w K mg base N qual scope f cdv A outer s H E).xe →
      PSs (cxOf (L2.CX P w) P w K mg base N qual scope f cdv A outer s H E) body (denS K cl (fun c d _ H' => E c d H') m)) :
    FnOk P w K mg base (L2.CX P w) (k + 1) f fd ps (spV K cl (fnV n j m)) := by
  refine Fd.ok S (fun vs H Q E h => ?_) (fun cdv A outer s H vs Q E hr h => ⟨_, hbody cdv A outer s H E hr (takes_of rfl rfl rfl rfl) (passes_of (X := cxOf (L2.CX P w) P w K mg base N qual scope f cdv A outer s H E) rfl), ?_⟩)
  · obtain ⟨B, F, as, args, st, r, o, p⟩ := h
    unfold fnV at p
    split at p
    · rename_i e
      rw [Paired.length o, e, hn]
    · exact p.elim
  · obtain ⟨B, F, as, args, st, r, o, p⟩ := h
    unfold fnV at p
    split at p
    · rename_i e
      have hl : vs.length = n := (Paired.length o).trans e
      refine ⟨B, F, as, _, st, r, start_slots (k := j) o (by rw [hj, hl]), ?_⟩
      revert p
      cases m (args.map some ++ List.replicate j none) st with
      | rt v st' => exact fun p u F' as' H' g' r' k => p F' as' H' g' r' u k
      | nx s' st' => exact fun p σ' F' as' H' g' r' k => p F' as' H' g' r' _ (.dat .non)
      | exc c p2 s' st' => exact fun p x σ' F' as' H' g' r' k e => p x F' as' H' g' r' e
      | bk s' st' => exact fun p => p.elim
      | ct s' st' => exact fun p => p.elim
      | no => exact fun p => p.elim
    · exact p.elim
end
/-! what a def hands back is data, and what it made is forgotten -/
def below (n : Nat) : Cell → Bool
  | .lst xs => xs.all fun v => match v with
    | .cel k => decide (k < n)
    | _ => true
  | .frz _ => true
def trim (n : Nat) (st : Store) : Bool := (st.take n).all (below n)
open Classical in
noncomputable def closeD (g : List Vl → Store → Res Vl) : List Vl → Store → Res Vl := fun args st => match g args st with
  | .ok v st' => (toD v st').bind fun d st2 => if st2.take st.length = st ∨ trim st.length st2 = true then .ok (.dat d) (st2.take st.length) else .no
  | .exc c p st' => if st'.take st.length = st ∨ trim st.length st' = true then .exc c p (st'.take st.length) else .no
  | .no => .no
/-- a store that stands holds no cell of its own behind its end -/
theorem RepH.trim {K : Fr} {B F : Hp} {as : List Addr} {H : Hp} {st : Store} (r : RepH K B F as H st) : trim st.length st = true := by
  unfold Pd.trim
  rw [List.take_length]
  refine List.all_eq_true.mpr fun c hc => ?_
  obtain ⟨k, hk, e⟩ := List.getElem_of_mem hc
  have hk2 : k < as.length := by rw [r.len]; exact hk
  have q := r.ok k c as[k] (by rw [List.getElem?_eq_getElem hk, e]) (List.getElem?_eq_getElem hk2)
  cases c with
  | frz d => rfl
  | lst xs =>
    obtain ⟨_, vs, _, q3⟩ := q
    refine List.all_eq_true.mpr fun v hv => ?_
    obtain ⟨i, hi, e2⟩ := List.getElem_of_mem hv
    obtain ⟨u, _, q4⟩ := Vls.last q3 (show _[i]? = some v by rw [List.getElem?_eq_getElem hi, e2])
    cases q4 with
    | dat h => rfl
    | scr h => rfl
    | cel h =>
      refine decide_eq_true ?_
      rw [← r.len]
      exact (List.getElem?_eq_some_iff.mp h).1
theorem trim_of {K : Fr} {B F : Hp} {as : List Addr} {H : Hp} {st st2 : Store} (r : RepH K B F as H st) (h : st2.take st.length = st ∨ trim st.length st2 = true) : trim st.length st2 = true := by
  rcases h with h | h
  · have q := r.trim
    unfold trim at q ⊢
    rw [List.take_length] at q
    rw [h]
    exact q
  · exact h
theorem trim_ok {K : Fr} {B F : Hp} {as as' : List Addr} {H : Hp} {st : Store} {n : Nat} (r : RepH K B F as' H st) (e : as <+: as') (hn : as.length = n) (ht : trim n st = true) : RepH K B F as H (st.take n) := by
  obtain ⟨t, rfl⟩ := e
  have hl : n ≤ st.length := by
    rw [← r.len, ← hn, List.length_append]
    omega
  refine ⟨r.fh, r.bh, (List.nodup_append.mp r.nd).1, by rw [List.length_take, hn]; omega, fun a ha => r.bn a (List.mem_append_left _ ha), fun a ha => r.hs a (List.mem_append_left _ ha), fun k c a e1 e2 => ?_⟩
  have hk : k < n := by
    have := (List.getElem?_eq_some_iff.mp e2).1
    omega
  have e3 : (as ++ t)[k]? = some a := as_ext (List.prefix_append _ _) e2
  rw [List.getElem?_take_of_lt hk] at e1
  have q := r.ok k c a e1 e3
  cases c with
  | frz d => exact q
  | lst xs =>
    obtain ⟨q1, vs, q2, q3⟩ := q
    refine ⟨q1, vs, q2, ?_⟩
    have hb : below n (.lst xs) = true := List.all_eq_true.mp ht _ (List.mem_of_getElem? (by rw [List.getElem?_take_of_lt hk]; exact e1))
    have hb2 : ∀ v ∈ xs, (match v with | .cel k => decide (k < n) | _ => true) = true := List.all_eq_true.mp hb
    clear q2 hb e1
    induction q3 with
    | nil => exact .nil
    | cons h1 h2 ih =>
      refine .cons ?_ (ih fun v hv => hb2 v (List.mem_cons_of_mem _ hv))
      cases h1 with
      | dat h => exact .dat h
      | scr h => exact .scr h
      | cel h =>
        have := of_decide_eq_true (hb2 _ List.mem_cons_self)
        refine .cel ?_
        rw [List.getElem?_append_left (by omega)] at h
        exact h
section
variable {P : Program} {w : World} {K : PySem.W.Frag} {mg : Str → Option Value} {base : Heap} {f : Addr} {fd : FuncData} {cl : Nat → Value} {ps : List Str} {k : Nat} {g : List Vl → Store → Res Vl}
theorem fn_close (h : FnOk P w K mg base (L2.CX P w) k f fd ps (spV K cl g)) : FnOk P w K mg base (L2.CX P w) k f fd ps (spV K cl (closeD g)) := h.imp fun vs H Q E q => by
  obtain ⟨B, F, as, args, st, r, o, p⟩ := q
  refine ⟨B, F, as, args, st, r, o, ?_⟩
  unfold closeD at p
  cases e : g args st with
  | no => rw [e] at p; exact p
  | exc c p2 st' =>
    rw [e] at p
    simp only at p
    split at p
    · rename_i ht
      exact fun x F' as' H' g' r' ex => p x F' as H' ⟨g'.sub, g'.frame, List.prefix_refl _⟩ (trim_ok r' g'.ext r.len (trim_of r ht)) ex
    · exact p.elim
  | ok v st' =>
    rw [e] at p
    simp only at p
    intro F' as' H' g' r' u hu
    rcases toD_res v st' with ⟨d, st2, ed⟩ | ed
    · rw [ed, Res.bind_ok] at p
      obtain ⟨F2, g2, r2, p2⟩ := toD_ok r' hu ed
      split at p
      · rename_i ht
        have g3 := g'.trans g2
        exact p F2 as H' ⟨g3.sub, g3.frame, List.prefix_refl _⟩ (trim_ok r2 g3.ext r.len (trim_of r ht)) u (.dat p2)
      · exact p.elim
    · rw [ed] at p
      exact p.elim
/-- the same promise by another denotation that is equal to it -/
theorem fn_eq {g' : List Vl → Store → Res Vl} (h : FnOk P w K mg base (L2.CX P w) k f fd ps (spV K cl g)) (e : ∀ args st, g' args st ≠ .no → g args st = g' args st) : FnOk P w K mg base (L2.CX P w) k f fd ps (spV K cl g') := h.imp fun vs H Q E q => by
  obtain ⟨B, F, as, args, st, r, o, p⟩ := q
  refine ⟨B, F, as, args, st, r, o, ?_⟩
  rw [e args st (fun z => by rw [z] at p; exact p)]
  exact p
end
theorem closeD_ok {g : List Vl → Store → Res Vl} {args : List Vl} {st st' : Store} {d : D} (h : g args st = .ok (.dat d) (st ++ st')) : closeD g args st = .ok (.dat d) st := by
  unfold closeD
  rw [h]
  simp
theorem closeD_okS {g : List Vl → Store → Res Vl} {args : List Vl} {st st' : Store} {d : D} (h : g args st = .ok (.dat d) st') (ht : st'.length = st.length) (hb : trim st.length st' = true) : closeD g args st = .ok (.dat d) st' := by
  unfold closeD
  rw [h]
  have e : st'.take st.length = st' := by rw [← ht, List.take_length]
  simp [hb, e]
theorem closeD_exc {g : List Vl → Store → Res Vl} {args : List Vl} {st st' : Store} {c : Nat} {p : Option (Str × D)} (h : g args st = .exc c p (st ++ st')) : closeD g args st = .exc c p st := by
  unfold closeD
  rw [h]
  simp
end Pd

set_option Elab.async false
set_option linter.all false
set_option maxRecDepth 100000
set_option maxHeartbeats 4000000
/-! Pd6: the operations on data, each with its rule. -/
namespace Pd
open PySem PySem.Spec PyProof.Rows L2 RZ

/-! ### arithmetic -/
def mulOk (i j : Int) : Bool := decide (i.natAbs.log2 + j.natAbs.log2 < 100000000) || decide (j.natAbs.log2 < 62)
def CMulX (i j : Int) : Prop := mulOk i j = true
theorem CMulX.ok {i j : Int} (h : CMulX i j) : IntMulOk i j := by
  have b : ∀ x : Int, Builtin.Int.intBits x ≤ x.natAbs.log2 + 1 := fun x => by
    unfold Builtin.Int.intBits
    split <;> omega
  have h1 := b i
  have h2 := b j
  rcases Bool.or_eq_true_iff.mp h with h | h
  rotate_left
  · have h3 : j.natAbs.log2 < 62 := of_decide_eq_true h
    exact IntMulOk.of_right (by omega)
  have h3 : i.natAbs.log2 + j.natAbs.log2 < 100000000 := of_decide_eq_true h
  have e : bitsLine = 134217728 := by decide
  unfold IntMulOk
  intro z
  rw [Bool.and_eq_true] at z
  have z2 := z.2
  unfold Builtin.Int.intTooBig at z2
  have z3 := of_decide_eq_true z2
  rw [e] at z3
  omega
theorem mulOk_of {i j : Int} {a b : Nat} (ha : i.natAbs < 2 ^ a) (hb : j.natAbs < 2 ^ b) (h0 : 0 < a) (h1 : 0 < b) (h : a + b ≤ 100000000) : mulOk i j = true := by
  have x := PySem.Flt.log2_lt_of h0 ha
  have y := PySem.Flt.log2_lt_of h1 hb
  unfold mulOk
  rw [decide_eq_true (by omega : i.natAbs.log2 + j.natAbs.log2 < 100000000)]
  rfl
theorem mulOk_r {i j : Int} (h : j.natAbs.log2 < 62) : mulOk i j = true := by
  unfold mulOk
  rw [decide_eq_true h, Bool.or_true]
def divOk (j : Int) : Bool := decide (0 < j) && decide (j.natAbs.log2 < 9000)
theorem divOk_of {j : Int} {b : Nat} (h : 0 < j) (hb : j.natAbs < 2 ^ b) (h0 : 0 < b) (h9 : b ≤ 9000) : divOk j = true := by
  have x := PySem.Flt.log2_lt_of h0 hb
  unfold divOk
  rw [decide_eq_true h, decide_eq_true (by omega : j.natAbs.log2 < 9000)]
  rfl
section
variable {X : Cx}
theorem op_mulX : OpR X (binaryOp .Mult) (rI CMulX fun i j => .int (i * j)) := opI fun _ _ _ _ _ _ _ hc q => mul_int q hc.ok
abbrev rStr : R2 := fun x y H Q => ∃ i j, x = .str i ∧ y = .str j ∧ i.length + j.length ≤ sizeLine ∧ Q (.str (i ++ j)) H
abbrev rAddA (K : Fr) : R2 := fun x y H Q => rI0 (fun i j => V.int (i + j)) x y H Q ∨ (rCat x y H Q ∨ (rCatA K x y H Q ∨ rStr x y H Q))
theorem op_addA : OpR X (binaryOp .Add) (rAddA X.K) := op_add.or (op_cat.or (op_catA.or op_add_str))
abbrev rMulA : R2 := fun x y H Q => rI CMulX (fun i j => V.int (i * j)) x y H Q ∨ rRep x y H Q
theorem op_mulA : OpR X (binaryOp .Mult) rMulA := op_mulX.or op_rep
end
def addD : D → D → Option D
  | .int i, .int j => some (.int (i + j))
  | .list xs, .list ys => if xs.length + ys.length ≤ sizeLine then some (.list (xs ++ ys)) else none
  | .tuple xs, .tuple ys => if xs.length + ys.length ≤ sizeLine then some (.tuple (xs ++ ys)) else none
  | .str x, .str y => if x.length + y.length ≤ sizeLine then some (.str (x ++ y)) else none
  | _, _ => none
def subD : D → D → Option D
  | .int i, .int j => some (.int (i - j))
  | _, _ => none
def mulD : D → D → Option D
  | .int i, .int j => if mulOk i j = true then some (.int (i * j)) else none
  | .list xs, .int k => if (-(2 ^ 63) ≤ k ∧ k < 2 ^ 63) ∧ xs.length * k.toNat ≤ sizeLine then some (.list (List.replicate k.toNat xs).flatten) else none
  | _, _ => none
def fdivD : D → D → Option D
  | .int i, .int j => if divOk j = true then some (.int (i / j)) else none
  | _, _ => none
def modD : D → D → Option D
  | .int i, .int j => if 0 < j then some (.int (i % j)) else none
  | _, _ => none
def powD : D → D → Option D
  | .int i, .int j => if 0 ≤ j ∧ j ≤ 1000000 ∧ i.natAbs < 2 ^ 64 then some (.int (i ^ j.toNat)) else none
  | _, _ => none
def negD : D → Option D
  | .int i => some (.int (-i))
  | _ => none
def ltD : D → D → Option D
  | .int i, .int j => some (.bool (decide (i < j)))
  | _, _ => none
def leD : D → D → Option D
  | .int i, .int j => some (.bool (decide (i ≤ j)))
  | _, _ => none
def gtD : D → D → Option D
  | .int i, .int j => some (.bool (decide (j < i)))
  | _, _ => none
def geD : D → D → Option D
  | .int i, .int j => some (.bool (decide (j ≤ i)))
  | _, _ => none
def eqD (x y : D) : Option D := if SeqAt.shaped x = true ∧ SeqAt.shaped y = true then some (.bool (PyData.eqv x y)) else none
def neD (x y : D) : Option D := if SeqAt.shaped x = true ∧ SeqAt.shaped y = true then some (.bool (!PyData.eqv x y)) else none
def noneB : D → Bool
  | .none => true
  | _ => false
/-- is None, is not None -/
def isND (x y : D) : Option D := match y with
  | .none => some (.bool (noneB x))
  | _ => none
def notND (x y : D) : Option D := match y with
  | .none => some (.bool (!noneB x))
  | _ => none
section
variable {K : Fr}
theorem od_int0 {h : D → D → Option D} {g : Int → Int → D} {gv : Int → Int → V} (hg : ∀ F i j, Rp K F (gv i j) (g i j)) (hh : ∀ a b c, h a b = some c → ∃ i j, a = .int i ∧ b = .int j ∧ c = g i j) : OpD K (rI0 gv) h := by
  intro F H x y a b c Q e ha hb eh q
  obtain ⟨i, j, rfl, rfl, rfl⟩ := hh a b c eh
  rw [ha.int, hb.int]
  exact ⟨i, j, rfl, rfl, q _ F H (Ext.refl e) (hg F i j)⟩
theorem od_intC {C : Int → Int → Prop} {h : D → D → Option D} {g : Int → Int → Int} (hh : ∀ a b c, h a b = some c → ∃ i j, a = .int i ∧ b = .int j ∧ C i j ∧ c = .int (g i j)) : OpD K (rI C fun i j => .int (g i j)) h := by
  intro F H x y a b c Q e ha hb eh q
  obtain ⟨i, j, rfl, rfl, hc, rfl⟩ := hh a b c eh
  rw [ha.int, hb.int]
  exact ⟨i, j, rfl, rfl, hc, q _ F H (Ext.refl e) (.int _)⟩
theorem od_sub : OpD K (rI0 fun i j => .int (i - j)) subD := od_int0 (g := fun i j => .int (i - j)) (fun F i j => .int _) fun a b c h => by
  unfold subD at h
  split at h
  · cases h; exact ⟨_, _, rfl, rfl, rfl⟩
  · cases h
theorem od_lt : OpD K (rI0 fun i j => .bl (decide (i < j))) ltD := od_int0 (g := fun i j => .bool (decide (i < j))) (fun F i j => .bl _) fun a b c h => by
  unfold ltD at h
  split at h
  · cases h; exact ⟨_, _, rfl, rfl, rfl⟩
  · cases h
theorem od_le : OpD K (rI0 fun i j => .bl (decide (i ≤ j))) leD := od_int0 (g := fun i j => .bool (decide (i ≤ j))) (fun F i j => .bl _) fun a b c h => by
  unfold leD at h
  split at h
  · cases h; exact ⟨_, _, rfl, rfl, rfl⟩
  · cases h
theorem od_gt : OpD K (rI0 fun i j => .bl (decide (j < i))) gtD := od_int0 (g := fun i j => .bool (decide (j < i))) (fun F i j => .bl _) fun a b c h => by
  unfold gtD at h
  split at h
  · cases h; exact ⟨_, _, rfl, rfl, rfl⟩
  · cases h
theorem od_ge : OpD K (rI0 fun i j => .bl (decide (j ≤ i))) geD := od_int0 (g := fun i j => .bool (decide (j ≤ i))) (fun F i j => .bl _) fun a b c h => by
  unfold geD at h
  split at h
  · cases h; exact ⟨_, _, rfl, rfl, rfl⟩
  · cases h
theorem b2_lt : BoolOp2 ltD := fun a b c h => by
  unfold ltD at h
  split at h
  · cases h; exact ⟨_, rfl⟩
  · cases h
theorem b2_le : BoolOp2 leD := fun a b c h => by
  unfold leD at h
  split at h
  · cases h; exact ⟨_, rfl⟩
  · cases h
theorem b2_gt : BoolOp2 gtD := fun a b c h => by
  unfold gtD at h
  split at h
  · cases h; exact ⟨_, rfl⟩
  · cases h
theorem b2_ge : BoolOp2 geD := fun a b c h => by
  unfold geD at h
  split at h
  · cases h; exact ⟨_, rfl⟩
  · cases h
theorem b2_eq : BoolOp2 eqD := fun a b c h => by
  unfold eqD at h
  split at h
  · cases h; exact ⟨_, rfl⟩
  · cases h
theorem b2_ne : BoolOp2 neD := fun a b c h => by
  unfold neD at h
  split at h
  · cases h; exact ⟨_, rfl⟩
  · cases h
theorem b2_isN : BoolOp2 isND := fun a b c h => by
  unfold isND at h
  split at h
  · cases h; exact ⟨_, rfl⟩
  · cases h
theorem b2_notN : BoolOp2 notND := fun a b c h => by
  unfold notND at h
  split at h
  · cases h; exact ⟨_, rfl⟩
  · cases h
theorem od_fdiv : OpD K (rI CDivW fun i j => .int (i / j)) fdivD := od_intC fun a b c h => by
  unfold fdivD at h
  split at h
  · split at h
    · rename_i hd
      cases h
      unfold divOk at hd
      rw [Bool.and_eq_true] at hd
      exact ⟨_, _, rfl, rfl, ⟨of_decide_eq_true hd.1, of_decide_eq_true hd.2⟩, rfl⟩
    · cases h
  · cases h
theorem od_mod : OpD K (rI (fun _ j => 0 < j) fun i j => .int (i % j)) modD := od_intC fun a b c h => by
  unfold modD at h
  split at h
  · split at h
    · cases h; exact ⟨_, _, rfl, rfl, by assumption, rfl⟩
    · cases h
  · cases h
theorem od_pow : OpD K (rI CPow fun i j => .int (i ^ j.toNat)) powD := od_intC fun a b c h => by
  unfold powD at h
  split at h
  · split at h
    · cases h; exact ⟨_, _, rfl, rfl, by assumption, rfl⟩
    · cases h
  · cases h
theorem o1_neg : Op1 K (rU fun i => .int (-i)) negD := fun F H x a c Q e ha eh q => by
  unfold negD at eh
  split at eh
  · cases eh
    rw [ha.int]
    exact ⟨_, rfl, q _ F H (Ext.refl e) (.int _)⟩
  · cases eh
theorem od_add : OpD K (rAddA K) addD := by
  intro F H x y a b c Q e ha hb eh q
  unfold addD at eh
  split at eh
  · cases eh
    rw [ha.int, hb.int]
    exact .inl ⟨_, _, rfl, rfl, q _ F H (Ext.refl e) (.int _)⟩
  · split at eh
    · rename_i hl
      cases eh
      obtain ⟨p1, vs1, rfl, h1, r1⟩ := ha.list e
      obtain ⟨p2, vs2, rfl, h2, r2⟩ := hb.list e
      refine .inr (.inl ⟨p1, p2, vs1, vs2, rfl, rfl, h1, h2, by rw [r1.len, r2.len]; exact hl, fun p hp => ?_⟩)
      have x := Ext.new (o := .lst (vs1 ++ vs2)) e hp
      exact q _ _ _ x (.lst upd_same ((r1.append r2).mono x.f))
    · cases eh
  · split at eh
    · rename_i hl
      cases eh
      obtain ⟨p1, vs1, rfl, h1, r1⟩ := ha.tuple
      obtain ⟨p2, vs2, rfl, h2, r2⟩ := hb.tuple
      refine .inr (.inr (.inl ⟨p1, p2, vs1, vs2, rfl, rfl, sqt_mono e h1, sqt_mono e h2, by rw [r1.len, r2.len]; exact hl, fun z => ?_, fun z z2 => ?_, fun _ _ p hp => ?_⟩))
      · subst z
        cases r1
        exact q _ F H (Ext.refl e) (.tup h2 r2)
      · subst z2
        cases r2
        rw [List.append_nil] at q
        exact q _ F H (Ext.refl e) (.tup h1 r1)
      · have x := Ext.new (o := .tup (vs1 ++ vs2)) e hp
        exact q _ _ _ x (.tup (.inl (.inl upd_same)) ((r1.append r2).mono x.f))
    · cases eh
  · split at eh
    · rename_i hl
      cases eh
      rw [ha.str, hb.str]
      exact .inr (.inr (.inr ⟨_, _, rfl, rfl, hl, q _ F H (Ext.refl e) (.str _)⟩))
    · cases eh
  · cases eh
theorem od_mul : OpD K rMulA mulD := by
  intro F H x y a b c Q e ha hb eh q
  unfold mulD at eh
  split at eh
  · split at eh
    · rename_i hc
      cases eh
      rw [ha.int, hb.int]
      exact .inl ⟨_, _, rfl, rfl, hc, q _ F H (Ext.refl e) (.int _)⟩
    · cases eh
  · split at eh
    · rename_i k hl
      cases eh
      obtain ⟨p1, vs1, rfl, h1, r1⟩ := ha.list e
      rw [hb.int]
      refine .inr ⟨p1, _, vs1, rfl, rfl, h1, hl.1.1, hl.1.2, by rw [r1.len]; exact hl.2, fun p hp => ?_⟩
      have x := Ext.new (o := .lst (List.replicate k.toNat vs1).flatten) e hp
      exact q _ _ _ x (.lst upd_same ((r1.rep _).mono x.f))
    · cases eh
  · cases eh
theorem od_eq : OpD K (rEqD K) eqD := by
  intro F H x y a b c Q e ha hb eh q
  unfold eqD at eh
  split at eh
  · rename_i hs
    cases eh
    exact ⟨a, b, ha.dp e, hb.dp e, hs.1, hs.2, q _ F H (Ext.refl e) (.bl _)⟩
  · cases eh
theorem od_ne : OpD K (rNeD K) neD := by
  intro F H x y a b c Q e ha hb eh q
  unfold neD at eh
  split at eh
  · rename_i hs
    cases eh
    exact ⟨a, b, ha.dp e, hb.dp e, hs.1, hs.2, q _ F H (Ext.refl e) (.bl _)⟩
  · cases eh
theorem non_iff {F H : Hp} {x : V} {a : D} (h : RpS K F H x a) : decide (x = .non) = noneB a := by
  rcases h with h | ⟨p, vs, ds, rfl, rfl, _, _⟩
  · cases h <;> rfl
  · rfl
theorem od_isN : OpD K (fun x y H Q => y = .non ∧ Q (.bl (decide (x = .non))) H) isND := by
  intro F H x y a b c Q e ha hb eh q
  unfold isND at eh
  split at eh
  · cases eh
    refine ⟨hb.non, ?_⟩
    rw [non_iff ha]
    exact q _ F H (Ext.refl e) (.bl _)
  · cases eh
theorem od_notN : OpD K (fun x y H Q => y = .non ∧ Q (.bl (!decide (x = .non))) H) notND := by
  intro F H x y a b c Q e ha hb eh q
  unfold notND at eh
  split at eh
  · cases eh
    refine ⟨hb.non, ?_⟩
    rw [non_iff ha]
    exact q _ F H (Ext.refl e) (.bl _)
  · cases eh
end

/-! ### sequences -/
def ixD : D → D → Option D
  | .list ds, .int i => atI ds i
  | .tuple ds, .int i => atI ds i
  | .str z, .int i => if z.length ≤ sizeLine then (atI z.cps.toList i).map fun c => .str ⟨#[c]⟩ else none
  | _, _ => none
theorem RpA.at {K : Fr} {F : Hp} {vs : List V} {ds : List D} {i : Int} {d : D} (h : RpA K F vs ds) (e : atI ds i = some d) : ∃ v, atI vs i = some v ∧ Rp K F v d := by
  unfold atI at e ⊢
  rw [h.len]
  cases e2 : ixN ds.length i with
  | none => rw [e2] at e; cases e
  | some j =>
    rw [e2] at e
    exact h.get e
theorem od_ix {K : Fr} : OpD K (rIx K) ixD := by
  intro F H x y a b c Q e ha hb eh q
  unfold ixD at eh
  split at eh
  · obtain ⟨p1, vs1, rfl, h1, r1⟩ := ha.list e
    rw [hb.int]
    obtain ⟨v, e1, e2⟩ := r1.at eh
    exact .inl ⟨p1, vs1, _, v, rfl, rfl, .inl (.inl h1), e1, q _ F H (Ext.refl e) e2⟩
  · obtain ⟨p1, vs1, rfl, h1, r1⟩ := ha.tuple
    rw [hb.int]
    obtain ⟨v, e1, e2⟩ := r1.at eh
    exact .inr (.inl ⟨p1, vs1, _, v, rfl, rfl, sqt_mono e h1, e1, q _ F H (Ext.refl e) e2⟩)
  · split at eh
    · rename_i hl
      rw [ha.str, hb.int]
      rename_i z i
      cases ec : atI z.cps.toList i with
      | none => rw [ec] at eh; cases eh
      | some c0 =>
        rw [ec] at eh
        cases eh
        exact .inr (.inr ⟨z, i, c0, rfl, rfl, hl, ec, q _ F H (Ext.refl e) (.str _)⟩)
    · cases eh
  · cases eh
/-! slices -/
abbrev OM := Slots → Store → Res (Option Int)
def denO (K : Fr) (cl : Nat → Value) (W : WX) (m : OM) : TO := fun σ H Q => den K cl W m σ H fun o _ _ _ H' => Q o H'
def noO : OM := fun _ st => .ok none st
def someO (f : EM) : OM := fun s st => (f s st).bind fun v st1 => match v with
  | .dat (.int i) => .ok (some i) st1
  | _ => .no
def cutL {α : Type} (xs : List α) (lo hi : Option Int) : List α := (xs.drop (HT.sIx xs.length 0 lo)).take (HT.sIx xs.length xs.length hi - HT.sIx xs.length 0 lo)
theorem RpA.cut {K : Fr} {F : Hp} {vs : List V} {ds : List D} (h : RpA K F vs ds) (lo hi : Option Int) : RpA K F (cutV vs lo hi) (cutL ds lo hi) := by
  unfold cutV cutL
  rw [h.len]
  exact (h.drop _).take _
def sliceD (d : D) (lo hi : Option Int) : Option D := match d with
  | .list ds => some (.list (cutL ds lo hi))
  | .tuple ds => some (.tuple (cutL ds lo hi))
  | _ => none
def sliceM (f : EM) (lo hi : OM) : EM := fun s st => (f s st).bind fun v st1 => (lo s st1).bind fun l st2 => (hi s st2).bind fun h st3 => match peek v st3 with
  | some d => (match sliceD d l h with
    | some z => .ok (.dat z) st3
    | none => .no)
  | none => .no
theorem cut_whole {α : Type} {xs : List α} {lo hi : Option Int} (h1 : HT.sIx xs.length 0 lo = 0) (h2 : HT.sIx xs.length xs.length hi = xs.length) : cutL xs lo hi = xs := by
  unfold cutL
  rw [h1, h2]
  simp
section
variable {X : Cx} {cl : Nat → Value} {W : WX} {e : Expr} {pos p2 : Pos} {f : EM} {l h : OM} {lo hi : Option Expr}
theorem qo_none : PO X none (denO X.K cl W noO) := PO.imp po_none fun σ H Q q => by
  obtain ⟨B, F, as, s, st, r, o, p⟩ := q
  exact post_ok p r
theorem qo_some (he : PE X e (denE X.K cl W f)) : PO X (some e) (denO X.K cl W (someO f)) := PO.imp (po_some he) fun σ H Q q => by
  refine den_bind q fun B F as s v st1 H1 r1 o1 q u hu => ?_
  split at q
  · exact ⟨_, vl_int hu, post_ok q r1⟩
  · exact q.elim
theorem qe_slice (he : PE X e (denE X.K cl W f)) (hl : PO X lo (denO X.K cl W l)) (hh : PO X hi (denO X.K cl W h)) : PE X (.Subscript e (.Slice lo hi none p2) pos) (denE X.K cl W (sliceM f l h)) :=
  PE.imp (pe_slice (sl_list.or sl_tupA) he hl hh) fun σ H Q q => by
    refine den_bind q fun B F as s v st1 H1 r1 o1 q u hu => ?_
    refine ⟨B, F, as, s, st1, r1, o1, post_mono (post_bind q) fun l0 st2 F2 as2 H2 _ g2 r2 q2 => ?_⟩
    refine ⟨B, F2, as2, s, st2, r2, o1.mono g2, post_mono (post_bind q2) fun h0 st3 F3 as3 H3 _ g3 r3 q3 => ?_⟩
    cases ea : peek v st3 with
    | none => rw [ea] at q3; exact q3.elim
    | some d =>
      rw [ea] at q3
      have hp := peek_ok r3 (hu.mono (g2.trans g3)) ea
      cases d with
      | list ds =>
        obtain ⟨a, vs, rfl, h1, rp⟩ := hp.list r3.fh
        refine .inl ⟨a, vs, rfl, .inl (.inl h1), fun p hp => ?_⟩
        have x := Ext.new (o := .lst (cutV vs l0 h0)) r3.fh hp
        exact q3 _ as3 _ (x.grow r3) (r3.ext x) _ (.dat (.lst upd_same ((rp.cut l0 h0).mono x.f)))
      | tuple ds =>
        obtain ⟨a, vs, rfl, h1, rp⟩ := hp.tuple
        refine .inr ⟨a, vs, rfl, sqt_mono r3.fh h1, fun z => ?_, fun z p hp => ?_⟩
        · rw [rp.len] at z
          have q4 := post_ok q3 r3 (.ref a)
          rw [cut_whole z.1 z.2] at q4
          exact q4 (.dat (.tup h1 rp))
        · have x := Ext.new (o := .tup (cutV vs l0 h0)) r3.fh hp
          exact q3 _ as3 _ (x.grow r3) (r3.ext x) _ (.dat (.tup (.inl (.inl upd_same)) ((rp.cut l0 h0).mono x.f)))
      | none => exact q3.elim
      | bool _ => exact q3.elim
      | int _ => exact q3.elim
      | str _ => exact q3.elim
      | dict _ => exact q3.elim
end

/-! ### builtins -/
def absD : List D → Option D
  | [.int i] => some (.int (if i < 0 then -i else i))
  | _ => none
def lenD : List D → Option D
  | [.list xs] => some (.int xs.length)
  | [.tuple xs] => some (.int xs.length)
  | [.str z] => if z.length ≤ sizeLine then some (.int z.length) else none
  | _ => none
def intD : List D → Option D
  | [.int i] => some (.int i)
  | [.bool b] => some (.int (if b then 1 else 0))
  | _ => none
def tupleD : List D → Option D
  | [.list xs] => some (.tuple xs)
  | [.tuple xs] => some (.tuple xs)
  | _ => none
def listD : List D → Option D
  | [.list xs] => some (.list xs)
  | [.tuple xs] => some (.list xs)
  | _ => none
def unInts : List D → Option (List Int)
  | [] => some []
  | .int i :: r => (unInts r).map (i :: ·)
  | _ :: _ => none
def unBools : List D → Option (List Bool)
  | [] => some []
  | .bool i :: r => (unBools r).map (i :: ·)
  | _ :: _ => none
@[simp] theorem unInts_map : ∀ ns : List Int, unInts (ns.map .int) = some ns
  | [] => rfl
  | n :: ns => by rw [List.map_cons, unInts, unInts_map ns]; rfl
@[simp] theorem unBools_map : ∀ ns : List Bool, unBools (ns.map .bool) = some ns
  | [] => rfl
  | n :: ns => by rw [List.map_cons, unBools, unBools_map ns]; rfl
theorem unInts_rp {K : Fr} {F : Hp} : ∀ {ds : List D} {vs : List V} {ns : List Int}, unInts ds = some ns → RpA K F vs ds → vs = ns.map V.int
  | [], _, _, h, r => by cases h; cases r; rfl
  | .int i :: ds, _, _, h, r => by
    unfold unInts at h
    cases e : unInts ds with
    | none => rw [e] at h; cases h
    | some ms =>
      rw [e] at h
      cases h
      cases r with
      | cons r1 r2 =>
        cases r1
        rw [unInts_rp e r2]
        rfl
  | .none :: _, _, _, h, _ => by cases h
  | .bool _ :: _, _, _, h, _ => by cases h
  | .str _ :: _, _, _, h, _ => by cases h
  | .list _ :: _, _, _, h, _ => by cases h
  | .tuple _ :: _, _, _, h, _ => by cases h
  | .dict _ :: _, _, _, h, _ => by cases h
theorem unBools_rp {K : Fr} {F : Hp} : ∀ {ds : List D} {vs : List V} {ns : List Bool}, unBools ds = some ns → RpA K F vs ds → vs = ns.map V.bl
  | [], _, _, h, r => by cases h; cases r; rfl
  | .bool i :: ds, _, _, h, r => by
    unfold unBools at h
    cases e : unBools ds with
    | none => rw [e] at h; cases h
    | some ms =>
      rw [e] at h
      cases h
      cases r with
      | cons r1 r2 =>
        cases r1
        rw [unBools_rp e r2]
        rfl
  | .none :: _, _, _, h, _ => by cases h
  | .int _ :: _, _, _, h, _ => by cases h
  | .str _ :: _, _, _, h, _ => by cases h
  | .list _ :: _, _, _, h, _ => by cases h
  | .tuple _ :: _, _, _, h, _ => by cases h
  | .dict _ :: _, _, _, h, _ => by cases h
def minI : List Int → Option Int
  | [] => none
  | i :: r => match minI r with
    | none => some i
    | some j => some (if j < i then j else i)
def maxI : List Int → Option Int
  | [] => none
  | i :: r => match maxI r with
    | none => some i
    | some j => some (if i < j then j else i)
theorem minI_spec : ∀ {ns : List Int} {m : Int}, minI ns = some m → m ∈ ns ∧ ∀ y ∈ ns, m ≤ y
  | i :: r, m, h => by
    unfold minI at h
    cases e : minI r with
    | none =>
      rw [e] at h
      cases h
      cases r with
      | nil => simp
      | cons j r =>
        unfold minI at e
        cases e2 : minI r <;> rw [e2] at e <;> cases e
    | some j =>
      rw [e] at h
      cases h
      obtain ⟨h1, h2⟩ := minI_spec e
      by_cases hji : j < i
      · rw [if_pos hji]
        refine ⟨List.mem_cons_of_mem _ h1, fun y hy => ?_⟩
        rcases List.mem_cons.mp hy with rfl | hy
        · omega
        · exact h2 y hy
      · rw [if_neg hji]
        refine ⟨List.mem_cons_self, fun y hy => ?_⟩
        rcases List.mem_cons.mp hy with rfl | hy
        · omega
        · have := h2 y hy
          omega
theorem maxI_spec : ∀ {ns : List Int} {m : Int}, maxI ns = some m → m ∈ ns ∧ ∀ y ∈ ns, y ≤ m
  | i :: r, m, h => by
    unfold maxI at h
    cases e : maxI r with
    | none =>
      rw [e] at h
      cases h
      cases r with
      | nil => simp
      | cons j r =>
        unfold maxI at e
        cases e2 : maxI r <;> rw [e2] at e <;> cases e
    | some j =>
      rw [e] at h
      cases h
      obtain ⟨h1, h2⟩ := maxI_spec e
      by_cases hji : i < j
      · rw [if_pos hji]
        refine ⟨List.mem_cons_of_mem _ h1, fun y hy => ?_⟩
        rcases List.mem_cons.mp hy with rfl | hy
        · omega
        · exact h2 y hy
      · rw [if_neg hji]
        refine ⟨List.mem_cons_self, fun y hy => ?_⟩
        rcases List.mem_cons.mp hy with rfl | hy
        · omega
        · have := h2 y hy
          omega
def minD : List D → Option D
  | [.list xs] => ((unInts xs).bind minI).map .int
  | _ => none
def maxD : List D → Option D
  | [.list xs] => ((unInts xs).bind maxI).map .int
  | _ => none
def sumD : List D → Option D
  | [.list xs] => (unInts xs).map fun ns => .int ns.sum
  | _ => none
def allD : List D → Option D
  | [.list xs] => (unBools xs).map fun bs => .bool (bs.all id)
  | _ => none
def anyD : List D → Option D
  | [.list xs] => (unBools xs).map fun bs => .bool (bs.any id)
  | _ => none
def max2D : List D → Option D
  | [.int i, .int j] => some (.int (if j > i then j else i))
  | _ => none
def min2D : List D → Option D
  | [.int i, .int j] => some (.int (if j < i then j else i))
  | _ => none
theorem p1 {α β : Type} {R : α → β → Prop} {xs : List α} {b : β} (h : Paired R xs [b]) : ∃ a, xs = [a] ∧ R a b := by
  cases h with
  | cons h1 h2 => cases h2; exact ⟨_, rfl, h1⟩
theorem p2 {α β : Type} {R : α → β → Prop} {xs : List α} {b c : β} (h : Paired R xs [b, c]) : ∃ a d, xs = [a, d] ∧ R a b ∧ R d c := by
  cases h with
  | cons h1 h2 =>
    obtain ⟨d, rfl, h3⟩ := p1 h2
    exact ⟨_, _, rfl, h1, h3⟩
section
variable {K : Fr}
theorem on_abs : OpNd K (fun xs H Q => ∃ i, xs = [V.int i] ∧ Q (.int (if i < 0 then -i else i)) H) absD := fun F H xs ds c Q e hp eh q => by
  unfold absD at eh
  split at eh
  · cases eh
    obtain ⟨v, rfl, h⟩ := p1 hp
    rw [h.int]
    exact ⟨_, rfl, q _ F H (Ext.refl e) (.int _)⟩
  · cases eh
abbrev rLenA (K : Fr) : List V → Hp → VK → Prop := fun xs H Q => (∃ p ys, xs = [V.ref p] ∧ (SqL K H p ys ∨ SqT K H p ys) ∧ Q (.int ys.length) H) ∨ ∃ z, xs = [V.str z] ∧ z.length ≤ sizeLine ∧ Q (.int z.length) H
theorem on_len : OpNd K (rLenA K) lenD := fun F H xs ds c Q e hp eh q => by
  unfold lenD at eh
  split at eh
  · cases eh
    obtain ⟨v, rfl, h⟩ := p1 hp
    obtain ⟨a, vs, rfl, h1, h2⟩ := RpS.sq e (.inl h)
    exact .inl ⟨a, vs, rfl, h1, by rw [h2.len]; exact q _ F H (Ext.refl e) (.int _)⟩
  · cases eh
    obtain ⟨v, rfl, h⟩ := p1 hp
    obtain ⟨a, vs, rfl, h1, h2⟩ := RpS.sq e (.inr h)
    exact .inl ⟨a, vs, rfl, h1, by rw [h2.len]; exact q _ F H (Ext.refl e) (.int _)⟩
  · split at eh
    · rename_i hl
      cases eh
      obtain ⟨v, rfl, h⟩ := p1 hp
      rw [h.str]
      exact .inr ⟨_, rfl, hl, q _ F H (Ext.refl e) (.int _)⟩
    · cases eh
  · cases eh
theorem on_int : OpNd K (fun xs H Q => (∃ i, xs = [V.int i] ∧ Q (.int i) H) ∨ ∃ k, xs = [V.bl k] ∧ Q (.int (if k then 1 else 0)) H) intD := fun F H xs ds c Q e hp eh q => by
  unfold intD at eh
  split at eh
  · cases eh
    obtain ⟨v, rfl, h⟩ := p1 hp
    rw [h.int]
    exact .inl ⟨_, rfl, q _ F H (Ext.refl e) (.int _)⟩
  · cases eh
    obtain ⟨v, rfl, h⟩ := p1 hp
    rw [h.bl]
    exact .inr ⟨_, rfl, q _ F H (Ext.refl e) (.int _)⟩
  · cases eh
theorem on_tuple : OpNd K (fun xs H Q => ∃ p ys, xs = [V.ref p] ∧ ((SqL K H p ys ∧ ∀ l, H l = none → Q (.ref l) (upd H l (.tup ys))) ∨ (SqT K H p ys ∧ Q (.ref p) H))) tupleD := fun F H xs ds c Q e hp eh q => by
  unfold tupleD at eh
  split at eh
  · cases eh
    obtain ⟨v, rfl, h⟩ := p1 hp
    obtain ⟨a, vs, rfl, h1, h2⟩ := h.list e
    refine ⟨a, vs, rfl, .inl ⟨.inl (.inl h1), fun l hl => ?_⟩⟩
    have x := Ext.new (o := .tup vs) e hl
    exact q _ _ _ x (.tup (.inl (.inl upd_same)) (h2.mono x.f))
  · cases eh
    obtain ⟨v, rfl, h⟩ := p1 hp
    obtain ⟨a, vs, rfl, h1, h2⟩ := h.tuple
    exact ⟨a, vs, rfl, .inr ⟨sqt_mono e h1, q _ F H (Ext.refl e) (.tup h1 h2)⟩⟩
  · cases eh
theorem on_list : OpNd K (fun xs H Q => ∃ p ys, xs = [V.ref p] ∧ (SqL K H p ys ∨ SqT K H p ys) ∧ ∀ l, H l = none → Q (.ref l) (upd H l (.lst ys))) listD := fun F H xs ds c Q e hp eh q => by
  unfold listD at eh
  split at eh
  · cases eh
    obtain ⟨v, rfl, h⟩ := p1 hp
    obtain ⟨a, vs, rfl, h1, h2⟩ := RpS.sq e (.inl h)
    refine ⟨a, vs, rfl, h1, fun l hl => ?_⟩
    have x := Ext.new (o := .lst vs) e hl
    exact q _ _ _ x (.lst upd_same (h2.mono x.f))
  · cases eh
    obtain ⟨v, rfl, h⟩ := p1 hp
    obtain ⟨a, vs, rfl, h1, h2⟩ := RpS.sq e (.inr h)
    refine ⟨a, vs, rfl, h1, fun l hl => ?_⟩
    have x := Ext.new (o := .lst vs) e hl
    exact q _ _ _ x (.lst upd_same (h2.mono x.f))
  · cases eh
theorem ints_of {F H : Hp} {v : V} {xs : List D} {ns : List Int} (e : Same F H) (h : RpS K F H v (.list xs)) (hi : unInts xs = some ns) : ∃ a, v = .ref a ∧ SqL K H a (ns.map V.int) := by
  obtain ⟨a, vs, rfl, h1, h2⟩ := h.list e
  rw [unInts_rp hi h2] at h1
  exact ⟨a, rfl, .inl (.inl h1)⟩
theorem bools_of {F H : Hp} {v : V} {xs : List D} {ns : List Bool} (e : Same F H) (h : RpS K F H v (.list xs)) (hi : unBools xs = some ns) : ∃ a, v = .ref a ∧ SqL K H a (ns.map V.bl) := by
  obtain ⟨a, vs, rfl, h1, h2⟩ := h.list e
  rw [unBools_rp hi h2] at h1
  exact ⟨a, rfl, .inl (.inl h1)⟩
theorem on_min : OpNd K (rMin K) minD := fun F H xs ds c Q e hp eh q => by
  unfold minD at eh
  split at eh
  · rename_i zs
    obtain ⟨v, rfl, h⟩ := p1 hp
    cases ei : unInts zs with
    | none => rw [ei] at eh; cases eh
    | some ns =>
      rw [ei] at eh
      obtain ⟨a, rfl, hs⟩ := ints_of e h ei
      cases em : minI ns with
      | none => simp [em] at eh
      | some m =>
        simp [em] at eh
        subst eh
        obtain ⟨m1, m2⟩ := minI_spec em
        refine ⟨a, ns, rfl, hs, List.length_pos_of_mem m1, fun m' h1 h2 => ?_⟩
        have e1 := m2 m' h1
        have e2 := h2 m m1
        have e3 : m' = m := by omega
        rw [e3]
        exact q _ F H (Ext.refl e) (.int _)
  · cases eh
theorem on_max : OpNd K (rMax K) maxD := fun F H xs ds c Q e hp eh q => by
  unfold maxD at eh
  split at eh
  · rename_i zs
    obtain ⟨v, rfl, h⟩ := p1 hp
    cases ei : unInts zs with
    | none => rw [ei] at eh; cases eh
    | some ns =>
      rw [ei] at eh
      obtain ⟨a, rfl, hs⟩ := ints_of e h ei
      cases em : maxI ns with
      | none => simp [em] at eh
      | some m =>
        simp [em] at eh
        subst eh
        obtain ⟨m1, m2⟩ := maxI_spec em
        refine ⟨a, ns, rfl, hs, List.length_pos_of_mem m1, fun m' h1 h2 => ?_⟩
        have e1 := m2 m' h1
        have e2 := h2 m m1
        have e3 : m' = m := by omega
        rw [e3]
        exact q _ F H (Ext.refl e) (.int _)
  · cases eh
theorem on_sum : OpNd K (rSum K) sumD := fun F H xs ds c Q e hp eh q => by
  unfold sumD at eh
  split at eh
  · rename_i zs
    obtain ⟨v, rfl, h⟩ := p1 hp
    cases ei : unInts zs with
    | none => rw [ei] at eh; cases eh
    | some ns =>
      rw [ei] at eh
      cases eh
      obtain ⟨a, rfl, hs⟩ := ints_of e h ei
      exact ⟨a, ns, rfl, hs, q _ F H (Ext.refl e) (.int _)⟩
  · cases eh
theorem on_all : OpNd K (rAll K) allD := fun F H xs ds c Q e hp eh q => by
  unfold allD at eh
  split at eh
  · rename_i zs
    obtain ⟨v, rfl, h⟩ := p1 hp
    cases ei : unBools zs with
    | none => rw [ei] at eh; cases eh
    | some ns =>
      rw [ei] at eh
      cases eh
      obtain ⟨a, rfl, hs⟩ := bools_of e h ei
      exact ⟨a, ns, rfl, hs, q _ F H (Ext.refl e) (.bl _)⟩
  · cases eh
theorem on_any : OpNd K (rAny K) anyD := fun F H xs ds c Q e hp eh q => by
  unfold anyD at eh
  split at eh
  · rename_i zs
    obtain ⟨v, rfl, h⟩ := p1 hp
    cases ei : unBools zs with
    | none => rw [ei] at eh; cases eh
    | some ns =>
      rw [ei] at eh
      cases eh
      obtain ⟨a, rfl, hs⟩ := bools_of e h ei
      exact ⟨a, ns, rfl, hs, q _ F H (Ext.refl e) (.bl _)⟩
  · cases eh
theorem on_max2 : OpNd K (fun xs H Q => ∃ i j, xs = [V.int i, V.int j] ∧ Q (.int (if j > i then j else i)) H) max2D := fun F H xs ds c Q e hp eh q => by
  unfold max2D at eh
  split at eh
  · cases eh
    obtain ⟨v, w, rfl, h1, h2⟩ := p2 hp
    rw [h1.int, h2.int]
    exact ⟨_, _, rfl, q _ F H (Ext.refl e) (.int _)⟩
  · cases eh
theorem on_min2 : OpNd K (fun xs H Q => ∃ i j, xs = [V.int i, V.int j] ∧ Q (.int (if j < i then j else i)) H) min2D := fun F H xs ds c Q e hp eh q => by
  unfold min2D at eh
  split at eh
  · cases eh
    obtain ⟨v, w, rfl, h1, h2⟩ := p2 hp
    rw [h1.int, h2.int]
    exact ⟨_, _, rfl, q _ F H (Ext.refl e) (.int _)⟩
  · cases eh
end
theorem call_lenA {X : Cx} : CallR X (.builtin "len") (rLenA X.K) := call_len_seq.or call_len_str

/-! ### isinstance -/
def tyD : D → String
  | .none => "NoneType"
  | .bool _ => "bool"
  | .int _ => "int"
  | .str _ => "str"
  | .list _ => "list"
  | .tuple _ => "tuple"
  | .dict _ => "dict"
def isiD (T : String) (d : D) : Option D := (kitB (tyD d) T).map .bool
theorem ty_of {K : Fr} {F H : Hp} {v : V} {d : D} (e : Same F H) (h : RpS K F H v d) : TyX K H v (.type (tyD d)) := by
  rcases h with h | ⟨a, vs, ds, rfl, rfl, h1, _⟩
  · cases h with
    | non => exact .base .non
    | bl b => exact .base (.bl b)
    | int i => exact .base (.int i)
    | str x => exact .base (.str x)
    | lst h1 h2 => exact .base (.lst (e _ _ h1))
    | tup h1 h2 =>
      rcases h1 with (h1 | ⟨o, h1⟩) | ⟨o, its, n, h1, h3, _⟩
      · exact .base (.tup (e _ _ h1))
      · exact .fTuple (e _ _ h1)
      · exact .kTuple h1 h3
  · exact .base (.lst h1)
def isiM (T : String) (f : EM) : EM := op1 (isiD T) f
theorem qe_isi {X : Cx} {cl : Nat → Value} {W : WX} {e : Expr} {f : EM} {T : Str} {t : String} {p p3 pos : Pos} (hg : Gl X "isinstance") (hm : X.mg "isinstance" = none) (he : PE X e (denE X.K cl W f)) (hgT : Gl X T) (hmT : X.mg T = none) (hv : bootBuiltins T = some (.type t))
    (hn : T ≠ "__name__" := by decide) (hd : (T == ("__debug__" : Str)) = false := by decide) (he1 : starEach [e, .Name T p3] X.env = (false, eval e X.env) :: starEach [.Name T p3] X.env := by rfl) (hpl : (backTo pos (starEach [.Name T p3] X.env)).any (·.1) = false := by rfl) :
    PE X (.Call (.Name "isinstance" p) [e, .Name T p3] [] pos) (denE X.K cl W (isiM t f)) := by
  have ha : PA X [e, .Name T p3] (tCons (denE X.K cl W f) (tCons (tC (.ty t)) tNil)) := pa_cons he (pa_cons (pe_bltn hgT hmT hv rfl hn hd) pa_nil) he1
  refine PE.imp (pe_callB call_isi hg hm boot_isinstance ha (he := he1) (hpl := hpl)) fun σ H Q q => ?_
  have q2 : denE X.K cl W (op1 (isiD t) f) σ H Q := q
  have k : Op1 X.K (fun v H Q => rIsi X.K [v, .ty t] H Q) (isiD t) := fun F H v a c Q e ha eh q => by
    unfold isiD at eh
    cases ek : kitB (tyD a) t with
    | none => rw [ek] at eh; cases eh
    | some b =>
      rw [ek] at eh
      cases eh
      exact ⟨v, .ty t, _, .type t, b, rfl, .ty _, ty_of e ha, kit_ty ek, q _ F H (Ext.refl e) (.bl _)⟩
  exact op1_den k q2
end Pd

set_option Elab.async false
set_option linter.all false
set_option maxRecDepth 100000
set_option maxHeartbeats 4000000
/-! Pd7: list(reversed(x)); chains of comparisons; names at once; stars in displays; lists as new cells; try. -/
namespace Pd
open PySem PySem.Spec PyProof.Rows L2 RZ RT
section
variable {prog : Program} {w : World} {A : Around} {E : Value → Shared → Prop} {s : Shared} {it l : Addr} {items : Array Value}
theorem rev_extend {R : Result → Shared → Prop} (hh : A.handled = none) (hit : s.heap.IsRevIter it l ((items.size : Int) - 1)) (hl : s.heap.IsList l items) (hne : l ≠ it) (hn : items.size ≤ sizeLine) (S : Addr) (hSi : S ≠ it) (hSl : S ≠ l) (res : Value) (c₀ : Nat) (hS : s.heap.get? S = some { cls := .type "list", data := .seq #[] c₀ })
    (hR : ∀ h' tk acc' c', (∀ b o, b ≠ S → b ≠ it → s.heap.get? b = some o → h'.get? b = some o) → h'.get? S = some { cls := .type "list", dict := none, data := .seq acc' c', slots := #[] } → ItemsOf (fun i v => items[items.size - 1 - i]? = some v) acc' items.size → R (.ok (.ret res)) { s with heap := h', toks := tk }) :
    wpAny (model prog w) A.in1 (Builtin.List.listExtendWith (.ref S) (.ref it) res)
      (fun fin s' => match fin with | .done f => R (.ok f) s' | .again c' => c'.quiet = true ∧ codeAny (model prog w) A c' R s') (fun e s' => R (.error e) s') s := by
  have W := (Walks.listRev (prog := prog) (w := w) (A := A.in1) hh it l hne items).toS
  have hSf : S ∉ [it, l] := by simp only [List.mem_cons, List.not_mem_nil, or_false, not_or]; exact ⟨hSi, hSl⟩
  have hT : s.TypeIs (.ref it) "list_reverseiterator" := Heap.IsRevIter.typeIs hit
  have h1 : Builtin.List.listSameRef (.ref S) (.ref it) = false := by simp [Builtin.List.listSameRef, hSi]
  have e0 : ((items.size : Nat) : Int) - 1 - ((0 : Nat) : Int) = (items.size : Int) - 1 := by omega
  have key : ∀ (h : Heap) (c₁ tk : Nat), h.IsRevIter it l ((items.size : Int) - 1) → h.IsList l items → (∀ b o, b ≠ S → b ≠ it → s.heap.get? b = some o → h.get? b = some o) →
      h.get? S = some { cls := .type "list", data := .seq #[] c₁ } → codeAny (model prog w) A (.builtin "list.extend.loop" ⟨[.ref S, .ref it, res], []⟩) R { s with heap := h, toks := tk } := by
    intro h c₁ tk hst hst2 hk hS₁
    refine codeAny_extend_loopS W hn S hSf res items.size 0 _ #[] c₁ rfl (Nat.zero_le _) ⟨Nat.zero_le _, by rw [e0]; exact hst, hst2⟩ hS₁ (ItemsOf.nil _) fun s' acc' c' hm hS' hacc => ?_
    rw [Moved.eq_with hm]
    refine hR s'.heap s'.toks acc' c' (fun b o hb hb2 e => hm.heap b o (fun hmem => ?_) (hk b o hb hb2 e)) hS' hacc
    rcases List.mem_cons.mp hmem with e' | hmem
    · exact hb e'
    · exact hb2 (List.mem_singleton.mp hmem)
  unfold Builtin.List.listExtendWith
  refine wpAny_bind (wpAny_typeOf hT ?_)
  rw [if_neg (by rw [h1]; decide)]
  refine wpAny_bind (wpAny_pyIter_revIter hit ?_)
  refine wpAny_bind (wpAny_holding ?_)
  unfold Builtin.List.listLengthHint
  refine wpAny_bind (wpAny_specialOf hT nolen_lri ?_)
  show wpAny _ A.in1 (specialOf (Value.ref it) (Str.ofString "__length_hint__") >>= _) _ _ _
  refine wpAny_bind (wpAny_specialOf hT hint_lri ?_)
  generalize hid : ("list_reverseiterator.__length_hint__" : String) = id0
  wp_delta
  rw [show splitId id0 = some ("list_reverseiterator", "__length_hint__") from by subst hid; decide +kernel]
  subst hid
  refine wpAny_bind (wpAny_isInstance (b := true) hT (by rw [isSubtype_type]; kernel_rfl) ?_)
  refine wpAny_pure ?_
  rw [if_neg (by decide)]
  exact wpAny_pure ⟨plainId_quiet F.plain_extend_loop _, key _ c₀ _ hit hl (fun b o _ _ e => e) hS⟩
theorem rev_init {R : Result → Shared → Prop} (hh : A.handled = none) (hit : s.heap.IsRevIter it l ((items.size : Int) - 1)) (hl : s.heap.IsList l items) (hne : l ≠ it) (hn : items.size ≤ sizeLine) (S : Addr) (hSi : S ≠ it) (hSl : S ≠ l) (hS : s.heap.get? S = some { cls := .type "list", data := .seq #[] })
    (hR : ∀ h' tk acc' c', (∀ b o, b ≠ S → b ≠ it → s.heap.get? b = some o → h'.get? b = some o) → h'.get? S = some { cls := .type "list", dict := none, data := .seq acc' c', slots := #[] } → ItemsOf (fun i v => items[items.size - 1 - i]? = some v) acc' items.size → R (.ok (.ret .none)) { s with heap := h', toks := tk }) :
    wpAny (model prog w) A.in1 (Builtin.«list.__init__» ⟨[.ref S, .ref it], []⟩)
      (fun fin s' => match fin with | .done f => R (.ok f) s' | .again c' => c'.quiet = true ∧ codeAny (model prog w) A c' R s') (fun e s' => R (.error e) s') s := by
  show wpAny _ _ (do let old ← Builtin.List.listItems (.ref S); Builtin.List.listUpdate (.ref S) (fun _ => #[]); letGo old.toList.reverse; Builtin.List.listExtendWith (.ref S) (.ref it) .none) _ _ s
  refine wpAny_bind ?_
  unfold Builtin.List.listItems
  refine wpAny_bind (wpAny_seqItems hS rfl (wpAny_pure ?_))
  show wpAny _ _ (updateSeq S (fun _ => #[]) >>= fun _ => letGo (#[] : Array Value).toList.reverse >>= fun _ => Builtin.List.listExtendWith (.ref S) (.ref it) .none) _ _ s
  refine wpAny_bind (wpAny_updateSeq hS rfl ?_)
  have hS₂ := Heap.get?_update_self (Obj.mapSeq (fun _ => (#[] : Array Value))) hS rfl
  have oth : ∀ b o, b ≠ S → s.heap.get? b = some o → (s.heap.update S (Obj.mapSeq (fun _ => (#[] : Array Value)))).get? b = some o :=
    fun b o hb e => (Heap.get?_update_other _ _ (Ne.symm hb)).trans e
  refine wpAny_bind (wpAny_letGo ?_)
  obtain ⟨ol, hol, rl⟩ := id hl
  refine rev_extend (s := { s with heap := s.heap.update S (Obj.mapSeq (fun _ => (#[] : Array Value))) }) hh (hit.at fun o e => oth it o (Ne.symm hSi) e) ⟨ol, oth l ol (Ne.symm hSl) hol, rl⟩ hne hn S hSi hSl .none _ hS₂ fun h' tk acc' c' hk hS' hacc => ?_
  exact hR h' tk acc' c' (fun b o hb hb2 e => hk b o hb hb2 (oth b o hb e)) hS' hacc
theorem rev_list {Q : Value → Shared → Prop} (hh : A.handled = none) (hit : s.heap.IsRevIter it l ((items.size : Int) - 1)) (hl : s.heap.IsList l items) (hne : l ≠ it) (hn : items.size ≤ sizeLine)
    (hQ : ∀ h' tk acc' c', (∀ b o, b ≠ it → s.heap.get? b = some o → h'.get? b = some o) → h'.get? s.heap.objs.size = some { cls := .type "list", dict := none, data := .seq acc' c', slots := #[] } → ItemsOf (fun i v => items[items.size - 1 - i]? = some v) acc' items.size → Q (.ref s.heap.objs.size) { s with heap := h', toks := tk }) :
    wpAny (model prog w) A (call (.type "list") [.ref it]) Q E s := by
  refine callType_codes (Q₁ := fun obj s₁ => obj = .ref s.heap.objs.size ∧ s₁ = { s with heap := s.heap.push { cls := .type "list", data := .seq #[] } }) PySem.F.called_list (PySem.F.typeCall_list_1 _) PySem.F.entry_list_init
    (PySem.code_list_new _ ⟨rfl, rfl⟩) fun obj s₁ h₁ => ?_
  obtain ⟨rfl, rfl⟩ := h₁
  have hS : (s.heap.push { cls := .type "list", data := .seq #[] }).get? s.heap.objs.size = some { cls := .type "list", data := .seq #[] } := Heap.get?_push_size _ rfl
  obtain ⟨oi, hoi, ri⟩ := id hit
  obtain ⟨ol, hol, rl⟩ := id hl
  refine ⟨⟨_, hS, rfl⟩, PySem.F.args_list_init_2 _ _, rev_init (A := A.in1) (s := { s with heap := s.heap.push { cls := .type "list", data := .seq #[] } }) hh (hit.at fun o e => Heap.get?_push_of_some _ e) (hl.push _) hne hn _ (Nat.ne_of_gt (Heap.lt_size hoi)) (Nat.ne_of_gt (Heap.lt_size hol)) hS fun h' tk acc' c' hk hS' hacc => ?_⟩
  exact ⟨rfl, hQ h' tk acc' c' (fun b o hb e => hk b o (Nat.ne_of_lt (Heap.lt_size e)) hb (Heap.get?_push_of_some _ e)) hS' hacc⟩
end
def tRevOf (K : Fr) (te : TE) : TE := fun σ H Q => te σ H fun x H1 => ∃ a xs, x = .ref a ∧ SqL K H1 a xs ∧ ∀ p, H1 p = none → Q (.ref p) (upd H1 p (.lst xs.reverse))
theorem vals_rev {xs : List V} {its : List Value} {acc : Array Value} (r : Vals xs its) (h : ItemsOf (fun i v => its.toArray[its.toArray.size - 1 - i]? = some v) acc its.toArray.size) : Vals xs.reverse acc.toList := by
  have e : acc.toList = its.reverse := by
    apply List.ext_getElem?
    intro i
    by_cases hi : i < its.length
    · have hs : i < acc.size := by rw [h.1]; simpa using hi
      have h2 := h.2 i acc[i] (by simp [hs])
      rw [List.getElem?_reverse hi]
      simp only [List.size_toArray] at h2
      rw [Array.getElem?_toList, Array.getElem?_eq_getElem hs, ← h2]
      simp
    · have hs : acc.size = its.length := by rw [h.1]; simp
      rw [List.getElem?_eq_none (by rw [Array.length_toList, hs]; omega), List.getElem?_eq_none (by rw [List.length_reverse]; omega)]
  rw [e]
  exact r.reverse
theorem pe_listRev {X : Cx} {e : Expr} {te : TE} {p p2 pos pos2 : Pos} (hc : X.calm = true) (hg : Gl X "list") (hm : X.mg "list" = none) (hg2 : Gl X "reversed") (hm2 : X.mg "reversed" = none) (he : PE X e te)
    (na2 : starEach [e] X.env = (false, eval e X.env) :: starEach [] X.env := by rfl)
    (na : starEach [.Call (.Name "reversed" p2) [e] [] pos2] X.env = (false, eval (.Call (.Name "reversed" p2) [e] [] pos2) X.env) :: starEach [] X.env := by rfl) :
    PE X (.Call (.Name "list" p) [.Call (.Name "reversed" p2) [e] [] pos2] [] pos) (tRevOf X.K te) := by
  refine ⟨fun pins s σ H Q I h => ?_⟩
  refine Call_ (ld_blt I hg hm boot_list (PyProof.Rows.callWith_type1 (args_cons ?_ na) na))
  refine Call_ (ld_blt I hg2 hm2 PyProof.Rows.boot_reversed (PyProof.Rows.callWith_type1 (one_arg he I h (fun v s1 x H1 I1 r1 q1 => ?_) na2) na2))
  obtain ⟨a, xs, rfl, hq, q⟩ := q1
  cases r1
  obtain ⟨its, rv, p', hz⟩ := I1.list hq
  have hl := rv.length
  obtain ⟨ol, hol, rl⟩ := id p'.isList
  refine call_reversed_list p'.isList (args_nil ?_)
  have hit : (s1.heap.push (revObj a ((its.toArray.size : Int) - 1))).IsRevIter s1.heap.objs.size a ((its.toArray.size : Int) - 1) := ⟨_, Heap.get?_push_size _ rfl, rfl, rfl⟩
  refine rev_list (s := { s1 with heap := s1.heap.push (revObj a ((its.toArray.size : Int) - 1)) }) (I1.ok.hd hc) hit (p'.isList.push _) (Nat.ne_of_lt (Heap.lt_size hol)) (by simp only [List.size_toArray]; omega) fun h' tk acc' c' hk hS' hacc => ?_
  have I2 : Inv X pins σ H1 { s1 with heap := s1.heap.push (revObj a ((its.toArray.size : Int) - 1)) } := I1.kept (t' := s1.toks) fun b u e => Heap.get?_push_of_some _ e
  obtain ⟨f0, f1, f2, f3, f4, f5⟩ := I1.fpOk (b := s1.heap.objs.size) (H' := H1) (Nat.le_refl _) (I1.hok.fresh (Nat.le_refl _))
  have hk2 : ∀ b o, b ≠ s1.heap.objs.size → s1.heap.get? b = some o → h'.get? b = some o := fun b o hb e => hk b o hb (Heap.get?_push_of_some _ e)
  have I3 : Inv X pins σ H1 { s1 with heap := h', toks := tk } := I1.kept fun b u e => hk2 b u (Nat.ne_of_lt (Heap.lt_size e)) e
  have hsz : (s1.heap.push (revObj a ((its.toArray.size : Int) - 1))).objs.size = s1.heap.objs.size + 1 := Heap.size_push ..
  have hnew : H1 (s1.heap.push (revObj a ((its.toArray.size : Int) - 1))).objs.size = none := I1.hok.fresh (by rw [hsz]; omega)
  refine ⟨.ref _, upd H1 _ (.lst xs.reverse), I1.laid (t' := tk) (fun b u e => hk2 b u (Nat.ne_of_lt (Heap.lt_size e)) e) (by rw [hsz]; omega) (show ObjOk X.prog X.w _ h' _ (.lst xs.reverse) from ⟨?_, acc'.toList, c', vals_rev rv hacc, ?_⟩), rfl, q _ hnew⟩
  · rw [List.length_reverse]; exact hz
  · rw [Array.toArray_toList]; exact hS'
end Pd

set_option Elab.async false
set_option linter.all false
set_option maxRecDepth 100000
set_option maxHeartbeats 4000000
/-! Pd8: chains of comparisons; names at once; stars in displays; lists as new cells; try. -/
namespace Pd
open PySem PySem.Spec PyProof.Rows L2 RZ RT StX

/-! ### a op b op c -/
def chM (h h' : D → D → Option D) (f g e : EM) : EM := fun s st => (f s st).bind fun a st1 => (g s st1).bind fun b st2 => match peek a st2, peek b st2 with
  | some x, some y => (match h x y with
    | some (.bool k) => if k = true then (e s st2).bind fun c st3 => (match peek b st3, peek c st3 with
        | some y, some z => (match h' y z with
          | some (.bool j) => .ok (.dat (.bool j)) st3
          | _ => .no)
        | _, _ => .no) else .ok (.dat (.bool false)) st2
    | _ => .no)
  | _, _ => .no
theorem chM_den {K : Fr} {cl : Nat → Value} {W : WX} {r r' : R2} {h h' : D → D → Option D} (hd : OpD K r h) (hd' : OpD K r' h') {f g e : EM} {σ : L2.St} {H : Hp} {Q : VK} (p : denE K cl W (chM h h' f g e) σ H Q) :
    tChain r r' (denE K cl W f) (denE K cl W g) (denE K cl W e) σ H Q := by
  refine den_bind p fun B F as s a st1 H1 r1 o1 q u hu => ?_
  refine ⟨B, F, as, s, st1, r1, o1, post_mono (post_bind q) fun b st2 F2 as2 H2 _ g2 r2 q2 w hw => ?_⟩
  cases ea : peek a st2 with
  | none => rw [ea] at q2; exact q2.elim
  | some x =>
    cases eb : peek b st2 with
    | none => rw [ea, eb] at q2; exact q2.elim
    | some y =>
      rw [ea, eb] at q2
      simp only at q2
      split at q2
      · rename_i k eh
        refine hd F2 H2 u w x y (.bool k) _ r2.fh (peek_ok r2 (hu.mono g2) ea) (peek_ok r2 hw eb) eh fun v F3 H3 x3 rp => ?_
        cases rp
        refine ⟨k, rfl, ?_⟩
        have g3 := x3.grow r2
        have r3 := r2.ext x3
        cases k with
        | false =>
          simp only [Bool.false_eq_true, if_false] at q2 ⊢
          exact q2 F3 as2 H3 g3 r3 _ (.dat (.bl _))
        | true =>
          simp only [if_true] at q2 ⊢
          refine ⟨B, F3, as2, s, st2, r3, o1.mono (g2.trans g3), post_mono (post_bind (post_grow g3 q2)) fun c st4 F4 as4 H4 _ g4 r4 q4 w' hw' => ?_⟩
          cases eb4 : peek b st4 with
          | none => rw [eb4] at q4; exact q4.elim
          | some y4 =>
            cases ec4 : peek c st4 with
            | none => rw [eb4, ec4] at q4; exact q4.elim
            | some z4 =>
              rw [eb4, ec4] at q4
              simp only at q4
              split at q4
              · rename_i j ej
                refine hd' F4 H4 w w' y4 z4 (.bool j) _ r4.fh (peek_ok r4 (hw.mono (g3.trans g4)) eb4) (peek_ok r4 hw' ec4) ej fun v F5 H5 x5 rp5 => ?_
                exact q4 F5 as4 H5 (x5.grow r4) (r4.ext x5) v (.dat rp5)
              · exact q4.elim
      · exact q2.elim
section
variable {X : Cx} {cl : Nat → Value} {W : WX} {a b c e : Expr} {es : List Expr} {pos : Pos} {f g k : EM} {m : AM}
theorem chM_bool {h h' : D → D → Option D} {s : Slots} {st st1 : Store} {v : Vl} (ev : chM h h' f g k s st = .ok v st1) : ∃ j, v = .dat (.bool j) := by
  unfold chM at ev
  cases e1 : f s st with
  | exc c p z => rw [e1] at ev; cases ev
  | no => rw [e1] at ev; cases ev
  | ok a sa =>
    rw [e1, Res.bind_ok] at ev
    cases e2 : g s sa with
    | exc c p z => rw [e2] at ev; cases ev
    | no => rw [e2] at ev; cases ev
    | ok b sb =>
      rw [e2, Res.bind_ok] at ev
      split at ev
      · split at ev
        · split at ev
          · cases e3 : k s sb with
            | exc c p z => rw [e3] at ev; cases ev
            | no => rw [e3] at ev; cases ev
            | ok c sc =>
              rw [e3, Res.bind_ok] at ev
              split at ev
              · split at ev
                · cases ev; exact ⟨_, rfl⟩
                · cases ev
              · cases ev
          · cases ev; exact ⟨_, rfl⟩
        · cases ev
      · cases ev
theorem qe_chain {op op' : CmpOp} {r r' : R2} {h h' : D → D → Option D} (ho : OpR X (compareOp op) r) (ho' : OpR X (compareOp op') r') (hd : OpD X.K r h) (hd' : OpD X.K r' h') (ha : PE X a (denE X.K cl W f)) (hb : PE X b (denE X.K cl W g)) (hc : PE X c (denE X.K cl W k))
    (hm : lastMarks [op, op'] [b, c] = false := by with_unfolding_all rfl) : PE X (.Compare a [op, op'] [b, c] pos) (denE X.K cl W (chM h h' f g k)) := PE.imp (pe_chain ho ho' ha hb hc hm) fun σ H Q q => chM_den hd hd' q
theorem qt_chain {op op' : CmpOp} {r r' : R2} {h h' : D → D → Option D} (ho : OpR X (compareOp op) r) (ho' : OpR X (compareOp op') r') (hd : OpD X.K r h) (hd' : OpD X.K r' h') (ha : PE X a (denE X.K cl W f)) (hb : PE X b (denE X.K cl W g)) (hc : PE X c (denE X.K cl W k))
    (hm : lastMarks [op, op'] [b, c] = false := by with_unfolding_all rfl) : PT X (.Compare a [op, op'] [b, c] pos) (denT X.K cl W (truM (chM h h' f g k))) := PT.imp (pt_chain ho ho' ha hb hc hm) fun σ H Q q =>
  chM_den hd hd' (truM_bool q fun s st v st1 e => chM_bool e)

/-! ### a, b, .. = x, y, .. through a tuple: names hold the values as they are -/
def setAll : List Nat → List Vl → Slots → Option Slots
  | [], [], s => some s
  | i :: is, v :: vs, s => setAll is vs (s.set i (some v))
  | _, _, _ => none
def gNames : List Nat → TGs
  | [] => gNil
  | i :: is => gCons (gName i) (gNames is)
def parGM (is : List Nat) (m : AM) : SM := fun s st => bindS (m s st) s fun vs st1 => if vs.length ≤ sizeLine then (match setAll is vs s with
  | some s' => .nx s' st1
  | none => .no) else .no
theorem RepH.junk {K : Fr} {B F : Hp} {as : List Addr} {H : Hp} {st : Store} {p : Addr} {o : HO} (r : RepH K B F as H st) (hp : H p = none) : RepH K B F as (upd H p o) st where
  fh := fun a u q => by
    have := r.fh _ _ q
    rw [upd_ne (ne_of_none this hp)]
    exact this
  bh := fun a u q => by
    have := r.bh _ _ q
    rw [upd_ne (ne_of_none this hp)]
    exact this
  nd := r.nd
  len := r.len
  bn := r.bn
  hs := fun a ha => by
    rw [upd_ne (fun z => by subst z; exact r.hs a ha hp)]
    exact r.hs a ha
  ok := fun k c a e1 e2 => by
    have q := r.ok k c a e1 e2
    have hne : a ≠ p := fun z => by subst z; exact r.hs a (List.mem_of_getElem? e2) hp
    cases c with
    | frz d => exact q
    | lst xs =>
      obtain ⟨q1, vs, q2, q3⟩ := q
      exact ⟨q1, vs, by rw [upd_ne hne]; exact q2, q3⟩
theorem gNames_ok {K : Fr} {F : Hp} {as : List Addr} {H : Hp} {Q : L2.St → Hp → Prop} : ∀ {is : List Nat} {vs : List Vl} {us : List V} {s s' : Slots} {σ : L2.St}, setAll is vs s = some s' → VlsOk K F as us vs → SlOk K F as σ s → (∀ σ', SlOk K F as σ' s' → Q σ' H) → gNames is us σ H Q
  | [], [], _, _, _, _, e, .nil, o, q => by cases e; exact ⟨rfl, q _ o⟩
  | i :: is, v :: vs, u :: us, s, s', σ, e, .cons h1 h2, o, q => ⟨u, us, rfl, gNames_ok (is := is) e h2 (o.set h1) q⟩
  | [], _ :: _, _, _, _, _, e, _, _, _ => by cases e
  | _ :: _, [], _, _, _, _, e, _, _, _ => by cases e
theorem setAll_len : ∀ {is : List Nat} {vs : List Vl} {s s' : Slots}, setAll is vs s = some s' → vs.length = is.length
  | [], [], _, _, _ => rfl
  | i :: is, v :: vs, s, s', e => by
    rw [List.length_cons, List.length_cons, setAll_len (is := is) e]
  | [], _ :: _, _, _, e => by cases e
  | _ :: _, [], _, _, e => by cases e
theorem qs_parG {ns : List Expr} {kt k2 : Nat} {pt pt2 : Pos} {n : Nat} {is : List Nat} (hc : X.calm = true) (ha : PA X es (denA X.K cl W m)) (hg : PGs X ns (gNames is)) (hl : is.length = n := by rfl) (hn : (assignEach ns X.env).length = n := by rfl) (hst : (assignEach ns X.env).findIdx? (·.1) = none := by rfl)
    (hs : swapsWithSole [.Tuple ns kt pt] (.Tuple es k2 pt2) pos.line X.env = pure false := by rfl) (hw : swappedStores [.Tuple ns kt pt] (.Tuple es k2 pt2) X.env = pure none := by rfl)
    (h1 : (assignEach [.Tuple ns kt pt] X.env).map (·.2) = [assign (.Tuple ns kt pt) X.env] := by rfl) :
    PS X (.Assign [.Tuple ns kt pt] (.Tuple es k2 pt2) pos) (denS X.K cl W (parGM is m)) := PS.imp (ps_asg (pe_tup ha) (pg_tup hc hg hn hst) hs hw h1) fun Dn σ H q =>
  denS_bind q fun B F as s vs st1 H1 r1 o1 q us hus => by
    split at q
    · rename_i hz
      split at q
      · rename_i s' e
        refine ⟨by rw [Paired.length hus]; exact hz, fun p hp => ⟨p, us, rfl, .inl (.inl upd_same), by rw [Paired.length hus, setAll_len e, hl], ?_⟩⟩
        exact gNames_ok e hus o1 fun σ' o' => q σ' F as _ Grow.refl (r1.junk hp) o'
      · exact q.elim
    · exact q.elim

/-! ### stars in displays -/
def aStar (f : EM) (m : AM) : AM := fun s st => (f s st).bind fun v st1 => match peek v st1 with
  | some (.list ds) => (m s st1).bind fun vs st2 => .ok (ds.map .dat ++ vs) st2
  | some (.tuple ds) => (m s st1).bind fun vs st2 => .ok (ds.map .dat ++ vs) st2
  | _ => .no
theorem qa_star {p : Pos} (he : PE X e (denE X.K cl W f)) (hr : PA X es (denA X.K cl W m)) (hs : starEach (.Starred e p :: es) X.env = (true, eval e X.env) :: starEach es X.env := by rfl) : PA X (.Starred e p :: es) (denA X.K cl W (aStar f m)) :=
  PA.imp (pa_star he hr hs) fun σ H Q q => by
    refine den_bind q fun B F as s v st1 H1 r1 o1 q u hu => ?_
    have key : ∀ ds : List D, (RpS X.K F H1 u (.list ds) ∨ RpS X.K F H1 u (.tuple ds)) → postR X.K cl W B F as σ (fun vs _ F' as' H' => ∀ us, VlsOk X.K F' as' us vs → Q us H') ((m s st1).bind fun vs st2 => .ok (ds.map .dat ++ vs) st2) →
        ∃ p xs, u = V.ref p ∧ (SqT X.K H1 p xs ∨ SqL X.K H1 p xs) ∧ denA X.K cl W m σ H1 fun ys H2 => Q (xs ++ ys) H2 := by
      intro ds hd q
      obtain ⟨a, vs, rfl, h1, h2⟩ := RpS.sq r1.fh hd
      refine ⟨a, vs, rfl, h1.symm, B, F, as, s, st1, r1, o1, post_mono (post_bind q) fun ws st2 F2 as2 H2 _ g2 r2 q2 us hus => ?_⟩
      exact post_ok q2 r2 _ (Vls.append (VlsOk.rpa (h2.mono g2.sub)) hus)
    split at q
    · rename_i ds ep
      exact key ds (.inl (peek_ok r1 hu ep)) q
    · rename_i ds ep
      exact key ds (.inr (peek_ok r1 hu ep)) q
    · exact q.elim

/-! ### new lists as cells -/
def OpDL (K : Fr) (r : R2) (h : D → D → Option (List D)) : Prop := ∀ F H x y a b out (Q : VK), Same F H → RpS K F H x a → RpS K F H y b → h a b = some out → (∀ p vs, H p = none → RpA K F vs out → Q (.ref p) (upd H p (.lst vs))) → r x y H Q
def OpNL (K : Fr) (r : List V → Hp → VK → Prop) (h : List D → Option (List D)) : Prop := ∀ F H xs ds out (Q : VK), Same F H → Paired (RpS K F H) xs ds → h ds = some out → (∀ p vs, H p = none → RpA K F vs out → Q (.ref p) (upd H p (.lst vs))) → r xs H Q
def op2C (h : D → D → Option (List D)) (f g : EM) : EM := fun s st => (f s st).bind fun a st1 => (g s st1).bind fun b st2 => match peek a st2, peek b st2 with
  | some x, some y => (match h x y with
    | some out => .ok (.cel st2.length) (st2 ++ [.lst (out.map .dat)])
    | none => .no)
  | _, _ => .no
def opNC (h : List D → Option (List D)) (m : AM) : EM := fun s st => (m s st).bind fun vs st1 => match peeks vs st1 with
  | some ds => (match h ds with
    | some out => .ok (.cel st1.length) (st1 ++ [.lst (out.map .dat)])
    | none => .no)
  | none => .no
theorem op2C_den {K : Fr} {r : R2} {h : D → D → Option (List D)} (hd : OpDL K r h) {σ : L2.St} {H : Hp} {Q : VK} (p : denE K cl W (op2C h f g) σ H Q) : tOp r (denE K cl W f) (denE K cl W g) σ H Q := by
  refine den_bind p fun B F as s a st1 H1 r1 o1 q u hu => ?_
  refine ⟨B, F, as, s, st1, r1, o1, post_mono (post_bind q) fun b st2 F2 as2 H2 _ g2 r2 q2 w hw => ?_⟩
  cases ea : peek a st2 with
  | none => rw [ea] at q2; exact q2.elim
  | some x =>
    cases eb : peek b st2 with
    | none => rw [ea, eb] at q2; exact q2.elim
    | some y =>
      rw [ea, eb] at q2
      cases eh : h x y with
      | none => simp only [eh] at q2; exact q2.elim
      | some z =>
        simp only [eh] at q2
        refine hd F2 H2 u w x y z Q r2.fh (peek_ok r2 (hu.mono g2) ea) (peek_ok r2 hw eb) eh fun p vs hp rp => ?_
        obtain ⟨g3, r3, p3⟩ := cell_new r2 (VlsOk.rpa rp) hp
        exact q2 _ _ _ g3 r3 _ p3
theorem opNC_den {K : Fr} {r : List V → Hp → VK → Prop} {h : List D → Option (List D)} (hd : OpNL K r h) {σ : L2.St} {H : Hp} {Q : VK} (p : denE K cl W (opNC h m) σ H Q) : denA K cl W m σ H fun xs H1 => r xs H1 Q := by
  refine den_bind p fun B F as s a st1 H1 r1 o1 q us hu => ?_
  cases ea : peeks a st1 with
  | none => rw [ea] at q; exact q.elim
  | some ds =>
    rw [ea] at q
    cases eh : h ds with
    | none => simp only [eh] at q; exact q.elim
    | some z =>
      simp only [eh] at q
      refine hd F H1 us ds z Q r1.fh (peeks_ok r1 hu ea) eh fun p vs hp rp => ?_
      obtain ⟨g3, r3, p3⟩ := cell_new r1 (VlsOk.rpa rp) hp
      exact q _ _ _ g3 r3 _ p3
theorem qe_binC {op : Operator} {r : R2} {h : D → D → Option (List D)} (ho : OpR X (binaryOp op) r) (hd : OpDL X.K r h) (ha : PE X a (denE X.K cl W f)) (hb : PE X b (denE X.K cl W g)) : PE X (.BinOp a op b pos) (denE X.K cl W (op2C h f g)) :=
  PE.imp (pe_op ho ha hb) fun _ _ _ q => op2C_den hd q
theorem qe_callTyC {T : String} {x : Str} {p : Pos} {r : List V → Hp → VK → Prop} {h : List D → Option (List D)} (hc : CallR X (.type T) r) (hd : OpNL X.K r h) (hg : Gl X x) (hm : X.mg x = none) (hv : bootBuiltins x = some (.type T)) (ha : PA X (e :: es) (denA X.K cl W m))
    (hn : x ≠ "__name__" := by decide) (hdb : (x == ("__debug__" : Str)) = false := by decide) (he : starEach (e :: es) X.env = (false, eval e X.env) :: starEach es X.env := by rfl) (hpl : (backTo pos (starEach es X.env)).any (·.1) = false := by rfl) :
    PE X (.Call (.Name x p) (e :: es) [] pos) (denE X.K cl W (opNC h m)) := PE.imp (pe_callTy hc hg hm hv ha hn hdb he hpl) fun _ _ _ q => opNC_den hd q
def repL : D → D → Option (List D)
  | .list xs, .int k => if (-(2 ^ 63) ≤ k ∧ k < 2 ^ 63) ∧ xs.length * k.toNat ≤ sizeLine then some (List.replicate k.toNat xs).flatten else none
  | _, _ => none
def catL : D → D → Option (List D)
  | .list xs, .list ys => if xs.length + ys.length ≤ sizeLine then some (xs ++ ys) else none
  | _, _ => none
def listL : List D → Option (List D)
  | [.list xs] => some xs
  | [.tuple xs] => some xs
  | _ => none
theorem ol_rep {K : Fr} : OpDL K rRep repL := fun F H x y a b out Q e ha hb eh q => by
  unfold repL at eh
  split at eh
  · split at eh
    · rename_i k hl
      cases eh
      obtain ⟨p1, vs1, rfl, h1, r1⟩ := ha.list e
      rw [hb.int]
      exact ⟨p1, _, vs1, rfl, rfl, h1, hl.1.1, hl.1.2, by rw [r1.len]; exact hl.2, fun p hp => q p _ hp (r1.rep _)⟩
    · cases eh
  · cases eh
theorem ol_cat {K : Fr} : OpDL K rCat catL := fun F H x y a b out Q e ha hb eh q => by
  unfold catL at eh
  split at eh
  · split at eh
    · rename_i hl
      cases eh
      obtain ⟨p1, vs1, rfl, h1, r1⟩ := ha.list e
      obtain ⟨p2, vs2, rfl, h2, r2⟩ := hb.list e
      exact ⟨p1, p2, vs1, vs2, rfl, rfl, h1, h2, by rw [r1.len, r2.len]; exact hl, fun p hp => q p _ hp (r1.append r2)⟩
    · cases eh
  · cases eh
theorem ol_list {K : Fr} : OpNL K (fun xs H Q => ∃ p ys, xs = [V.ref p] ∧ (SqL K H p ys ∨ SqT K H p ys) ∧ ∀ l, H l = none → Q (.ref l) (upd H l (.lst ys))) listL := fun F H xs ds out Q e hp eh q => by
  unfold listL at eh
  split at eh
  · cases eh
    obtain ⟨v, rfl, h⟩ := p1 hp
    obtain ⟨a, vs, rfl, h1, h2⟩ := RpS.sq e (.inl h)
    exact ⟨a, vs, rfl, h1, fun l hl => q l _ hl h2⟩
  · cases eh
    obtain ⟨v, rfl, h⟩ := p1 hp
    obtain ⟨a, vs, rfl, h1, h2⟩ := RpS.sq e (.inr h)
    exact ⟨a, vs, rfl, h1, fun l hl => q l _ hl h2⟩
  · cases eh
/-- list(reversed(x)): frozen | a cell -/
def lrevM (f : EM) : EM := fun s st => (f s st).bind fun v st1 => match peek v st1 with
  | some (.list ds) => .ok (.dat (.list ds.reverse)) st1
  | _ => .no
def lrevC (f : EM) : EM := fun s st => (f s st).bind fun v st1 => match peek v st1 with
  | some (.list ds) => .ok (.cel st1.length) (st1 ++ [.lst (ds.reverse.map .dat)])
  | _ => .no
theorem qe_lrev {p p2 pos2 : Pos} (hc : X.calm = true) (hg : Gl X "list") (hm : X.mg "list" = none) (hg2 : Gl X "reversed") (hm2 : X.mg "reversed" = none) (he : PE X e (denE X.K cl W f))
    (na2 : starEach [e] X.env = (false, eval e X.env) :: starEach [] X.env := by rfl)
    (na : starEach [.Call (.Name "reversed" p2) [e] [] pos2] X.env = (false, eval (.Call (.Name "reversed" p2) [e] [] pos2) X.env) :: starEach [] X.env := by rfl) :
    PE X (.Call (.Name "list" p) [.Call (.Name "reversed" p2) [e] [] pos2] [] pos) (denE X.K cl W (lrevM f)) := PE.imp (pe_listRev hc hg hm hg2 hm2 he na2 na) fun σ H Q q => by
  refine den_bind q fun B F as s v st1 H1 r1 o1 q u hu => ?_
  split at q
  · rename_i ds ep
    obtain ⟨a, vs, rfl, h1, h2⟩ := (peek_ok r1 hu ep).list r1.fh
    refine ⟨a, vs, rfl, .inl (.inl h1), fun p hp => ?_⟩
    obtain ⟨g3, r3, p3⟩ := lst_frozen r1 h2.reverse hp
    exact q _ _ _ g3 r3 _ (.dat p3)
  · exact q.elim
theorem qe_lrevC {p p2 pos2 : Pos} (hc : X.calm = true) (hg : Gl X "list") (hm : X.mg "list" = none) (hg2 : Gl X "reversed") (hm2 : X.mg "reversed" = none) (he : PE X e (denE X.K cl W f))
    (na2 : starEach [e] X.env = (false, eval e X.env) :: starEach [] X.env := by rfl)
    (na : starEach [.Call (.Name "reversed" p2) [e] [] pos2] X.env = (false, eval (.Call (.Name "reversed" p2) [e] [] pos2) X.env) :: starEach [] X.env := by rfl) :
    PE X (.Call (.Name "list" p) [.Call (.Name "reversed" p2) [e] [] pos2] [] pos) (denE X.K cl W (lrevC f)) := PE.imp (pe_listRev hc hg hm hg2 hm2 he na2 na) fun σ H Q q => by
  refine den_bind q fun B F as s v st1 H1 r1 o1 q u hu => ?_
  split at q
  · rename_i ds ep
    obtain ⟨a, vs, rfl, h1, h2⟩ := (peek_ok r1 hu ep).list r1.fh
    refine ⟨a, vs, rfl, .inl (.inl h1), fun p hp => ?_⟩
    obtain ⟨g3, r3, p3⟩ := cell_new r1 (VlsOk.rpa h2.reverse) hp
    exact q _ _ _ g3 r3 _ p3
  · exact q.elim
/-! the script: len, an item, its items walked (itM has it) -/
def scLen (f : EM) : EM := fun s st => (f s st).bind fun v st1 => match v with
  | .scr ns => .ok (.dat (.int ns.length)) st1
  | _ => .no
def scIx (f g : EM) : EM := fun s st => (f s st).bind fun v st1 => (g s st1).bind fun j st2 => match v, j with
  | .scr ns, .dat (.int i) => (match atI ns i with
    | some n => .ok (.dat (.int n)) st2
    | none => .no)
  | _, _ => .no
theorem atI_map {α β : Type} {k : α → β} {xs : List α} {i : Int} {x : α} (h : atI xs i = some x) : atI (xs.map k) i = some (k x) := by
  unfold atI at h ⊢
  rw [List.length_map]
  cases e : ixN xs.length i with
  | none => rw [e] at h; cases h
  | some j =>
    rw [e] at h
    have h2 : xs[j]? = some x := h
    show (xs.map k)[j]? = some (k x)
    rw [List.getElem?_map, h2]
    rfl
theorem qe_scLen {p : Pos} (hg : Gl X "len") (hm : X.mg "len" = none) (he : PE X e (denE X.K cl W f)) (hs : starEach [e] X.env = (false, eval e X.env) :: starEach [] X.env := by rfl) :
    PE X (.Call (.Name "len" p) [e] [] pos) (denE X.K cl W (scLen f)) := PE.imp (pe_callB call_len_seq hg hm PySem.boot_len (pa_cons he pa_nil hs) (he := hs)) fun σ H Q q => by
  refine den_bind q fun B F as s v st1 H1 r1 o1 q u hu => ?_
  split at q
  · rename_i ns
    cases hu with
    | scr hu =>
      refine ⟨_, _, rfl, .inl (sql_mono r1.fh hu), ?_⟩
      rw [List.length_map]
      exact post_ok q r1 _ (.dat (.int _))
  · exact q.elim
theorem qe_scIx (ha : PE X a (denE X.K cl W f)) (hb : PE X b (denE X.K cl W g)) (hs : PlainIx b) : PE X (.Subscript a b pos) (denE X.K cl W (scIx f g)) := PE.imp (pe_ix ix_list ha hb hs) fun σ H Q q => by
  refine den_bind q fun B F as s v st1 H1 r1 o1 q u hu => ?_
  refine ⟨B, F, as, s, st1, r1, o1, post_mono (post_bind q) fun j st2 F2 as2 H2 _ g2 r2 q2 w hw => ?_⟩
  split at q2
  · rename_i ns i
    split at q2
    · rename_i n en
      have hu2 := hu.mono g2
      cases hu2 with
      | scr hu2 =>
        rw [vl_int hw]
        exact ⟨_, _, _, _, rfl, rfl, sql_mono r2.fh hu2, atI_map en, post_ok q2 r2 _ (.dat (.int _))⟩
    · exact q2.elim
  · exact q2.elim
end

/-! ### try .. except X: .. except Y: .. -/
def noXS : Out → Out
  | .exc _ _ _ _ => .no
  | o => o
def handle (exm : Nat → Nat → Bool) (c : Nat) (p : Option (Str × D)) : List (Nat × SM) → SM
  | [], s, st => .exc c p s st
  | (d, h) :: r, s, st => if exm c d = true then noXS (h s st) else handle exm c p r s st
def tryM (exm : Nat → Nat → Bool) (body : SM) (hs : List (Nat × SM)) : SM := fun s st => match body s st with
  | .exc c p s' st' => handle exm c p hs s' st'
  | o => o
theorem post_noXS {K : Fr} {cl : Nat → Value} {W W' : WX} {B F : Hp} {as : List Addr} {Dn : Ends} {r : Out} (h : postS K cl W B F as Dn (noXS r)) : postS K cl W' B F as Dn r := by
  cases r with
  | exc c p s st => exact h.elim
  | nx s st => exact h
  | bk s st => exact h
  | ct s st => exact h
  | rt v st => exact h
  | no => exact h
theorem wish_ok {K : Fr} {cl : Nat → Value} {W : WX} {exm : Nat → Nat → Bool} (hx : ∀ c d, PySem.W.exmOne K (cl c) (cl d) = some (exm c d)) {Dn : Ends} {c : Nat} {p : Option (Str × D)} {B : Hp} {s : Slots} {st : Store} {x : Option Addr} :
    ∀ {hs : List (Nat × SM)} {F : Hp} {as : List Addr} {H : Hp} {σ : L2.St}, RepH K B F as H st → SlOk K F as σ s → ExcAt K F H p x → postS K cl W B F as Dn (handle exm c p hs s st) → wMany K W Dn (hs.map fun dh => (cl dh.1, fun _ _ _ => denS K cl W0 dh.2)) (cl c) x σ H
  | [], F, as, H, σ, r, o, e, q => q x σ F as H Grow.refl r o e
  | (d, h) :: hs, F, as, H, σ, r, o, e, q => by
    refine ⟨exm c d, hx c d, fun hb a _ => ?_, fun hb => ?_⟩
    · unfold handle at q
      rw [if_pos hb] at q
      exact ⟨B, F, as, s, st, r, o, post_noXS q⟩
    · unfold handle at q
      rw [if_neg (by rw [hb]; decide)] at q
      exact wish_ok hx r o e q
section
variable {X : Cx} {cl : Nat → Value} {W : WX} {body : List Stmt} {h₀ : ExceptHandler} {hds : List ExceptHandler} {pos : Pos} {mb : SM} {hs : List (Nat × SM)} {exm : Nat → Nat → Bool}
theorem qs_try (hs0 : X.stack = X.env :: X.outer) (hf : X.env.frame = some X.env.locals) (tk : Takes X W) (hx : ∀ c d, PySem.W.exmOne X.K (cl c) (cl d) = some (exm c d))
    (hb : ∀ (W : WX) (pn : List (Addr × Obj)) (xe : Value → Shared → Prop), Takes (X.tr pn xe) W → PassesOwn (model X.prog X.w) X.A X.env xe → PSs (X.tr pn xe) body (denS X.K cl W mb))
    (hh : HdsOk X (h₀ :: hds) (hs.map fun dh => (cl dh.1, fun _ _ _ => denS X.K cl W0 dh.2))) : PS X (.Try body (h₀ :: hds) [] [] pos) (denS X.K cl W (tryM exm mb hs)) :=
  PS.imp (ps_try_many (tb := fun W => denS X.K cl W mb) hs0 hf tk hb hh) fun Dn σ H q => by
    obtain ⟨B, F, as, s, st, r, o, p⟩ := q
    refine ⟨B, F, as, s, st, r, o, ?_⟩
    unfold tryM at p
    cases e : mb s st with
    | nx s' st' => rw [e] at p; exact p
    | bk s' st' => rw [e] at p; exact p
    | ct s' st' => rw [e] at p; exact p
    | rt v st' => rw [e] at p; exact p
    | no => rw [e] at p; exact p
    | exc c p2 s' st' =>
      rw [e] at p
      exact fun x σ' F' as' H' g' r' o' ex => wish_ok hx r' o' ex (postS_grow g' p)
end
end Pd

set_option Elab.async false
set_option linter.all false
set_option maxRecDepth 100000
set_option maxHeartbeats 4000000
/-! Pd9: what the top has left, by data; calls by name. -/
namespace Pd
open PySem PySem.Spec PyProof.Rows L2 RZ RT StX

/-! ### constants of the top -/
mutual
def valB (K : Fr) : Value → D → Bool
  | .none, .none => true
  | .bool a, .bool b => a == b
  | .int i _, .int j => decide (i = j)
  | .str x _, .str y => decide (x = y)
  | .ref a, .tuple ds => (match K.lookup a with
    | some ⟨.type c, _, .seq its _, _⟩ => decide (c = "tuple") && (decide (its.size ≤ sizeLine) && valsB K its.toList ds)
    | _ => false)
  | _, _ => false
def valsB (K : Fr) : List Value → List D → Bool
  | [], [] => true
  | u :: us, d :: ds => valB K u d && valsB K us ds
  | _, _ => false
end
section
variable {K : Fr}
mutual
theorem valB_ok : ∀ {d : D} {u : Value}, valB K u d = true → ∃ v, RelV v u ∧ ∀ F, Rp K F v d
  | .none, u, h => by
    cases u <;> first | exact ⟨.non, rfl, fun F => .non⟩ | (unfold valB at h; cases h)
  | .bool b, u, h => by
    cases u with
    | bool a =>
      unfold valB at h
      have e : a = b := eq_of_beq h
      subst e
      exact ⟨.bl a, rfl, fun F => .bl a⟩
    | _ => unfold valB at h; cases h
  | .int j, u, h => by
    cases u with
    | int i t =>
      unfold valB at h
      have e : i = j := of_decide_eq_true h
      subst e
      exact ⟨.int i, ⟨t, rfl⟩, fun F => .int i⟩
    | _ => unfold valB at h; cases h
  | .str y, u, h => by
    cases u with
    | str x t =>
      unfold valB at h
      have e : x = y := of_decide_eq_true h
      subst e
      exact ⟨.str x, ⟨t, rfl⟩, fun F => .str x⟩
    | _ => unfold valB at h; cases h
  | .tuple ds, u, h => by
    cases u with
    | ref a =>
      unfold valB at h
      cases q : K.lookup a with
      | none => rw [q] at h; cases h
      | some o =>
        obtain ⟨oc, od, dt, osl⟩ := o
        rw [q] at h
        cases oc with
        | type c =>
          cases dt with
          | seq its n =>
            simp only [Bool.and_eq_true, decide_eq_true_eq] at h
            obtain ⟨h1, h2, h3⟩ := h
            obtain ⟨vs, r, p⟩ := valsB_ok h3
            exact ⟨.ref a, rfl, fun F => .tup (.inr ⟨_, its, n, q, congrArg Value.type h1, rfl, h2, r⟩) (p F)⟩
          | _ => cases h
        | _ => cases h
    | _ => unfold valB at h; cases h
  | .list _, u, h => by cases u <;> (unfold valB at h; cases h)
  | .dict _, u, h => by cases u <;> (unfold valB at h; cases h)
theorem valsB_ok : ∀ {ds : List D} {us : List Value}, valsB K us ds = true → ∃ vs, Vals vs us ∧ ∀ F, RpA K F vs ds
  | [], us, h => by
    cases us with
    | nil => exact ⟨[], .nil, fun F => .nil⟩
    | cons u us => unfold valsB at h; cases h
  | d :: ds, us, h => by
    cases us with
    | nil => unfold valsB at h; cases h
    | cons u us =>
      unfold valsB at h
      rw [Bool.and_eq_true] at h
      obtain ⟨v, r1, p1⟩ := valB_ok h.1
      obtain ⟨vs, r2, p2⟩ := valsB_ok h.2
      exact ⟨v :: vs, .cons r1 r2, fun F => .cons (p1 F) (p2 F)⟩
end
end
def consB (K : Fr) (p : Str × D) : Bool := match PySem.W.nsIn K mainGlobals p.1 with
  | some (some u) => valB K u p.2
  | _ => false

/-! ### the exception classes: by their numbers -/
def excName (ns : List Str) (c : Nat) : Str := ns.getD c (ns.headD Str.empty)
def clN (ns : List Str) (K : Fr) (c : Nat) : Value := .ref (He.ga K (excName ns c))
/-- which class is a subclass of which: the pairs -/
def exmN (n : Nat) (tb : List (Nat × Nat)) (c d : Nat) : Bool := tb.contains (if c < n then c else 0, if d < n then d else 0)
def excB (ns : List Str) (tb : List (Nat × Nat)) (K : Fr) : Bool := (List.range ns.length).all fun c => (List.range ns.length).all fun d => decide (PySem.W.exmOne K (clN ns K c) (clN ns K d) = some (tb.contains (c, d)))
theorem excName_ge {ns : List Str} {c : Nat} (h : ¬ c < ns.length) : excName ns c = excName ns 0 := by
  unfold excName
  rw [List.getD_eq_getElem?_getD, List.getD_eq_getElem?_getD, List.getElem?_eq_none (by omega)]
  cases ns <;> rfl
theorem excB_ok {ns : List Str} {tb : List (Nat × Nat)} {K : Fr} (h : excB ns tb K = true) (hn : 0 < ns.length) (c d : Nat) : PySem.W.exmOne K (clN ns K c) (clN ns K d) = some (exmN ns.length tb c d) := by
  have key : ∀ c d, c < ns.length → d < ns.length → PySem.W.exmOne K (clN ns K c) (clN ns K d) = some (tb.contains (c, d)) := fun c d h1 h2 =>
    of_decide_eq_true (List.all_eq_true.mp (List.all_eq_true.mp h c (List.mem_range.mpr h1)) d (List.mem_range.mpr h2))
  unfold exmN
  have e1 : clN ns K c = clN ns K (if c < ns.length then c else 0) := by
    split
    · rfl
    · unfold clN; rw [excName_ge (by assumption)]
  have e2 : clN ns K d = clN ns K (if d < ns.length then d else 0) := by
    split
    · rfl
    · unfold clN; rw [excName_ge (by assumption)]
  rw [e1, e2]
  exact key _ _ (by split <;> omega) (by split <;> omega)

/-! ### the hook -/
structure Tx where
  fa : List He.Fa
  fn : List He.DefD
  cs : List (Str × D)
  ex : List Str
  tb : List (Nat × Nat)
abbrev AlX : Type := He.AlD × Bool
def obsX (t : Tx) (K : Fr) : AlX := (He.obsD t.fa t.fn K, t.cs.all (consB K) && excB t.ex t.tb K)
def valX (t : Tx) : AlX := (He.valD t.fn, true)
def obsXG (n : Nat) (t : Tx) (g : Addr → Option Obj) : AlX := obsX t (He.frG g (He.asD g n))
def hookX (n : Nat) (t : Tx) : PySem.W.Hook where
  α := AlX
  obs := fun s => obsXG n t s.heap.get?
  val := fun _ => valX t
  says := fun _ h => ∃ K : Fr, K.In h ∧ obsX t K = valX t
  of := fun _ _ e => ⟨_, He.frG_in, e⟩
  keeps := fun _ _ _ ⟨K, hK, c⟩ k => ⟨K, PySem.W.Frag.In.keeps hK k, c⟩
theorem obsXG_eq {n : Nat} {t : Tx} {g : Addr → Option Obj} {s : Shared} (h : ∀ a, g a = s.heap.get? a) : obsXG n t g = (hookX n t).obs s := by
  have e : g = s.heap.get? := funext h
  rw [e] <;> rfl
/-- what stands of the top -/
structure Txt (t : Tx) (K : Fr) (mg : Str → Option Value) : Prop where
  says : obsX t K = valX t
  ns : ∃ h, K.In h ∧ h.Ns mainGlobals mg
section
variable {t : Tx} {K : Fr} {mg : Str → Option Value}
theorem Txt.d (T : Txt t K mg) : He.SaysD t.fa t.fn K := congrArg (fun z : AlX => z.1) T.says
theorem Txt.b (T : Txt t K mg) : (t.cs.all (consB K) && excB t.ex t.tb K) = true := congrArg (fun z : AlX => z.2) T.says
theorem Txt.free (T : Txt t K mg) (i : Nat) {x : Str} (h : t.fa[i]? = some (.free x) := by rfl) : mg x = none := by
  obtain ⟨hp, X, G⟩ := T.ns
  exact He.free_ok X G (T.d.fact i h)
theorem Txt.glo (T : Txt t K mg) (i : Nat) {x : Str} (h : t.fa[i]? = some (.glo x) := by rfl) : mg x = some (.ref (He.ga K x)) := by
  obtain ⟨hp, X, G⟩ := T.ns
  exact He.glo_ok X G (T.d.fact i h)
theorem Txt.cons (T : Txt t K mg) (i : Nat) {x : Str} {d : D} (h : t.cs[i]? = some (x, d) := by rfl) : ∃ v u, mg x = some u ∧ RelV v u ∧ ∀ F, Rp K F v d := by
  obtain ⟨hp, X, G⟩ := T.ns
  have c := List.all_eq_true.mp (Bool.and_eq_true_iff.mp T.b).1 _ (List.mem_of_getElem? h)
  unfold consB at c
  cases e : PySem.W.nsIn K mainGlobals x with
  | none => simp only [e] at c; cases c
  | some o =>
    cases o with
    | none => simp only [e] at c; cases c
    | some u =>
      simp only [e] at c
      obtain ⟨v, r, p⟩ := valB_ok c
      exact ⟨v, u, PySem.W.mg_of X G e, r, p⟩
theorem Txt.exm (T : Txt t K mg) (hn : 0 < t.ex.length) (c d : Nat) : PySem.W.exmOne K (clN t.ex K c) (clN t.ex K d) = some (exmN t.ex.length t.tb c d) := excB_ok (Bool.and_eq_true_iff.mp T.b).2 hn c d
end

/-! ### calls by name -/
structure Cal (P : Program) (w : World) (K : Fr) (mg : Str → Option Value) (base : Heap) (cl : Nat → Value) (x : Str) (ps : List Str) (k : Nat) (g : List Vl → Store → Res Vl) : Prop where
  ex : ∃ f fd, FnOk P w K mg base (L2.CX P w) k f fd ps (spV K cl g) ∧ mg x = some (.ref f) ∧ PySem.W.keepIn K (.ref f) = true ∧ Binds K fd ps [] ∧
    (∃ oc od osl, K.lookup f = some ⟨oc, od, .func fd, osl⟩) ∧ ∀ (s : Shared) (us : List Value), us.length = ps.length → BindsTo s fd ⟨us, []⟩ (ps.zip us)
section
variable {P : Program} {w : World} {K : Fr} {mg : Str → Option Value} {base : Heap} {cl : Nat → Value} {x : Str} {k : Nat} {ps : List Str} {g : List Vl → Store → Res Vl} {t : Tx}
theorem Cal.eq {g' : List Vl → Store → Res Vl} (c : Cal P w K mg base cl x ps k g) (e : ∀ args st, g' args st ≠ .no → g args st = g' args st) : Cal P w K mg base cl x ps k g' := by
  obtain ⟨f, fd, F, r⟩ := c.ex
  exact ⟨f, fd, fn_eq F e, r⟩
theorem Cal.close (c : Cal P w K mg base cl x ps k g) : Cal P w K mg base cl x ps k (closeD g) := by
  obtain ⟨f, fd, F, r⟩ := c.ex
  exact ⟨f, fd, fn_close F, r⟩
theorem cal_of {d : He.DefD} {N ps : List Str} {n j : Nat} {m : SM} (T : Txt t K mg) (i : Nat) (hd : t.fn[i]? = some d) (hg : mg x = some (.ref (He.fAd K d.at_))) (h0 : d.dfl = []) (h1 : d.kwd = []) (S : FnScope N ps d.scope) (hn : ps.length = n) (hj : N.length = n + j)
    (hb : ∀ (kV doc pm : Value) (an : Option Addr) (cdv ct : Value) (us : List Value), us.length = ps.length → bindArgs (PySem.W.fnOf d.name d.qual d.params d.body d.scope .none kV doc pm an cdv ct) ⟨us, []⟩ = pure (ps.zip us))
    (hbody : ∀ (f : Addr) (cdv : Value) (A : Around) (outer : List Env) (s : Shared) (H : Hp) (E : XK), Room k (A.deeper (envOfC d.qual d.scope s.heap.objs.size f cdv)) →
      Takes (cxOf (L2.CX P w) P w K mg base N d.qual d.scope f cdv A outer s H E) (fun c d _ H' => E c d H') → PassesOwn (model P w) (A.deeper (envOfC d.qual d.scope s.heap.objs.size f cdv)) (envOfC d.qual d.scope s.heap.objs.size f cdv) (cxOf (L2.CX P w) P w K mg base N d.qual d.scope f cdv A outer s H E).xe →
      PSs (cxOf (L2.CX P w) P w K mg base N d.qual d.scope f cdv A outer s H E) d.body (denS K cl (fun c d _ H' => E c d H') m)) : Cal P w K mg base cl x ps (k + 1) (fnV n j m) := by
  obtain ⟨fd, Fd⟩ := T.d.def_ i hd
  have e1 : d.dvs K = [] := by unfold He.DefD.dvs; rw [h0]; rfl
  have e2 : d.kws K = [] := by unfold He.DefD.kws; rw [h1]; rfl
  rw [e1, e2] at Fd
  have lk : ∃ oc od osl, K.lookup (He.fAd K d.at_) = some ⟨oc, od, .func fd, osl⟩ := by
    obtain ⟨oc, od, _, _, _, _, _, _, _, osl, _, h, _⟩ := Fd.ex
    exact ⟨oc, od, osl, h⟩
  exact ⟨_, fd, fn_ok Fd S hn hj (hbody _), hg, Fd.kp, Fd.bindsN hb, lk, Fd.bindsA hb⟩
/-- of a denotation that is nowhere nothing is asked -/
theorem cal_no {d : He.DefD} {ps : List Str} (T : Txt t K mg) (i : Nat) (hd : t.fn[i]? = some d) (hg : mg x = some (.ref (He.fAd K d.at_))) (h0 : d.dfl = []) (h1 : d.kwd = [])
    (hb : ∀ (kV doc pm : Value) (an : Option Addr) (cdv ct : Value) (us : List Value), us.length = ps.length → bindArgs (PySem.W.fnOf d.name d.qual d.params d.body d.scope .none kV doc pm an cdv ct) ⟨us, []⟩ = pure (ps.zip us)) : Cal P w K mg base cl x ps k (fun _ _ => .no) := by
  obtain ⟨fd, Fd⟩ := T.d.def_ i hd
  have e1 : d.dvs K = [] := by unfold He.DefD.dvs; rw [h0]; rfl
  have e2 : d.kws K = [] := by unfold He.DefD.kws; rw [h1]; rfl
  rw [e1, e2] at Fd
  have z : ∀ vs H Q E, ¬ spV K cl (fun _ _ => Res.no) vs H Q E := fun vs H Q E h => by
    obtain ⟨_, _, _, _, _, _, _, h⟩ := h
    exact h
  have lk : ∃ oc od osl, K.lookup (He.fAd K d.at_) = some ⟨oc, od, .func fd, osl⟩ := by
    obtain ⟨oc, od, _, _, _, _, _, _, _, osl, _, h, _⟩ := Fd.ex
    exact ⟨oc, od, osl, h⟩
  exact ⟨_, fd, ⟨fun vs H Q E h => (z vs H Q E h).elim, fun _ _ _ H _ _ vs Q E _ _ _ _ h => (z vs H Q E h).elim⟩, hg, Fd.kp, Fd.bindsN hb, lk, Fd.bindsA hb⟩
end
section
variable {X : Cx} {cl : Nat → Value} {W : WX} {e : Expr} {es : List Expr} {pos p : Pos} {m : AM} {x : Str} {k k' : Nat} {ps : List Str} {g : List Vl → Store → Res Vl}
theorem qe_callC (c : Cal X.prog X.w X.K X.mg X.base cl x ps k g) (hr : Room k' X.A) (tk : Takes X W) (ha : PA X (e :: es) (denA X.K cl W m)) (hk : k ≤ k' := by decide) (hg : Gl X x := by rfl) (hdb : (x == ("__debug__" : Str)) = false := by decide) (he : starEach (e :: es) X.env = (false, eval e X.env) :: starEach es X.env := by rfl)
    (hpl : (backTo pos (starEach es X.env)).any (·.1) = false := by rfl) : PE X (.Call (.Name x p) (e :: es) [] pos) (denE X.K cl W (callM g m)) := by
  obtain ⟨f, fd, F, h1, h2, h3, _⟩ := c.ex
  exact qe_call F (hr.mono hk) hg h1 h2 h3 tk ha hdb he hpl
theorem qe_const {d : D} (h : ∃ v u, X.mg x = some u ∧ RelV v u ∧ ∀ F, Rp X.K F v d) (hg : Gl X x := by rfl) (hd : (x == ("__debug__" : Str)) = false := by decide) : PE X (.Name x pos) (denE X.K cl W (cst d)) := by
  obtain ⟨v, u, h1, h2, h3⟩ := h
  exact qe_glob hg h1 h2 h3 hd
end

/-! ### the end of a law -/
open PySem.W in
theorem walk_ofX {l : PySem.W.OpenLaw} {n k : Nat} {q : Program} {loose : List Str} {XP : (Str → Option Value) → Heap → Prop} {d : DefRec} {t : Tx} {ps : List Str} {g : List Vl → Store → Res Vl} {i : Nat}
    (hn : l.most = some n) (hn2 : n ≤ sizeLine) (hdf : d.params.defaults = []) (hr : Room k callerA) {x : Str} (hd : d.name = x)
    (F : ∀ (w : World) (K : Fr) (mg : Str → Option Value) (base : Heap), Txt t K mg → Cal l.prog w K mg base (clN t.ex K) x ps k g)
    (hg : ∀ ns : List Int, ns.length ≤ n → ∃ st, g [.scr ns] [] = .ok (.dat (.bool true)) st) :
    PySem.W.WalkO q loose XP (hookX i t).says l.row.toRowW d [] (fun f vs => PySem.call f vs) := by
  refine Att.attach_call hn hdf fun w s₀ s₁ mg mb fa o pm cd doc a vs ns G Y ho hd2 hcd hmg hobj hints hlen hgens => ?_
  obtain ⟨K, KX, c⟩ := Y
  rw [hd] at hmg
  have T : Txt t K mg := ⟨c, _, KX, G.T.g⟩
  have lawsp : ∀ (H : Hp) (ns : List Int), ns.length ≤ n → L2.Only H → L2.SqL K H a (ns.map V.int) → spV K (clN t.ex K) g [.ref a] H (fun v _ => v = .bl true) fun _ _ _ => False := fun H ns hl hO hS => by
    obtain ⟨st, e⟩ := hg ns hl
    refine ⟨fun _ => none, H, [], [.scr ns], [], ⟨L2.Same.refl _, fun _ _ h => (nomatch h), List.nodup_nil, rfl, fun _ _ => rfl, fun _ h => (nomatch h), fun k c a h => by simp at h⟩, .cons (.scr hS) .nil, ?_⟩
    rw [e]
    intro F' as' H' g' r' u hu
    cases hu with
    | dat hu => cases hu; rfl
  obtain ⟨f, fd, F0, hf, hk, hb, ⟨oc, od, osl, lk⟩, hB⟩ := (F w K mg _ T).ex (base := s₁.heap)
  have e0 : fa = f := by
    rw [hmg] at hf
    cases hf
    rfl
  subst e0
  have hps : ∃ y, ps = [y] := by
    have hl := F0.len [.ref a] (fun b => if b = a then some (.frz o (.lst (ns.map V.int))) else none) (fun v _ => v = .bl true) (fun _ _ _ => False) (lawsp _ ns hlen (fun b => by
      by_cases e : b = a
      · rw [if_pos e]; exact .inr ⟨_, _, rfl⟩
      · rw [if_neg e]; exact .inl rfl) (.inl (.inr ⟨o, by show (if a = a then _ else _) = _; rw [if_pos rfl]⟩)))
    cases ps with
    | nil => cases hl
    | cons y r => cases r with
      | nil => exact ⟨y, rfl⟩
      | cons z r => cases hl
  obtain ⟨y, rfl⟩ := hps
  refine law_call (P := l.prog) (k := k) (x := y) (CX := L2.CX l.prog w) (sp := spV K (clN t.ex K) g) KX G.T.g G.T.b G.T.builtins G.T.nolimit hgens hobj hints (Nat.le_trans hlen hn2) hr (fun base h1 h2 => ?_) (fun s u => hB s [u] rfl) (fun H hO hS => lawsp H ns hlen hO hS) fun H e s' h => ?_
  · obtain ⟨f', fd', F1, hf1, _, _, ⟨oc1, od1, osl1, lk1⟩, _⟩ := (F w K mg base T).ex
    have e1 : fa = f' := by
      rw [hmg] at hf1
      cases hf1
      rfl
    subst e1
    rw [lk] at lk1
    cases lk1
    exact F1
  · obtain ⟨_, _, _, _, _, _, _, _, _, _, _, _, z⟩ := h
    exact z.elim
end Pd

set_option Elab.async false
set_option linter.all false
set_option maxRecDepth 100000
set_option maxHeartbeats 4000000
/-! PdA: is True; sorted numbers; in; pop(i); list(range(n)). -/
namespace Pd
open PySem PySem.Spec PyProof.Rows L2 RZ RT
/-! ### is True, is not True -/
def isBD : D → D → Option D
  | .bool a, .bool b => some (.bool (decide (a = b)))
  | _, _ => none
def notBD : D → D → Option D
  | .bool a, .bool b => some (.bool (!decide (a = b)))
  | _, _ => none
section
variable {K : Fr}
theorem od_isB : OpD K (fun x y H Q => ∃ a b, x = V.bl a ∧ y = V.bl b ∧ Q (.bl (decide (a = b))) H) isBD := by
  intro F H x y a b c Q e ha hb eh q
  unfold isBD at eh
  split at eh
  · cases eh
    rw [ha.bl, hb.bl]
    exact ⟨_, _, rfl, rfl, q _ F H (Ext.refl e) (.bl _)⟩
  · cases eh
theorem od_notB : OpD K (fun x y H Q => ∃ a b, x = V.bl a ∧ y = V.bl b ∧ Q (.bl (!decide (a = b))) H) notBD := by
  intro F H x y a b c Q e ha hb eh q
  unfold notBD at eh
  split at eh
  · cases eh
    rw [ha.bl, hb.bl]
    exact ⟨_, _, rfl, rfl, q _ F H (Ext.refl e) (.bl _)⟩
  · cases eh
theorem b2_isB : BoolOp2 isBD := fun a b c h => by
  unfold isBD at h
  split at h
  · cases h; exact ⟨_, rfl⟩
  · cases h
theorem b2_notB : BoolOp2 notBD := fun a b c h => by
  unfold notBD at h
  split at h
  · cases h; exact ⟨_, rfl⟩
  · cases h
/-! ### sorted, of numbers -/
def sortI (ns : List Int) : List Int := ns.mergeSort fun a b => decide (a ≤ b)
theorem sortI_eq {ns ns' : List Int} (h1 : ns'.Perm ns) (h2 : ns'.Pairwise (· ≤ ·)) : ns' = sortI ns := by
  have p2 : (sortI ns).Pairwise (· ≤ ·) := by
    have := List.pairwise_mergeSort (le := fun a b : Int => decide (a ≤ b)) (fun a b c h k => by simp at *; omega) (fun a b => by simp; omega) ns
    exact this.imp fun h => of_decide_eq_true h
  exact List.Perm.eq_of_pairwise (fun a b _ _ h k => by omega) h2 p2 (h1.trans (List.mergeSort_perm ..).symm)
def sortedD : List D → Option D
  | [.list xs] => (unInts xs).map fun ns => .list ((sortI ns).map .int)
  | _ => none
theorem on_sorted : OpNd K (rSortedI K) sortedD := fun F H xs ds c Q e hp eh q => by
  unfold sortedD at eh
  split at eh
  · rename_i zs
    obtain ⟨v, rfl, h⟩ := p1 hp
    cases ei : unInts zs with
    | none => rw [ei] at eh; cases eh
    | some ns =>
      rw [ei] at eh
      cases eh
      obtain ⟨a, rfl, hs⟩ := ints_of e h ei
      refine ⟨a, ns, rfl, hs, fun ns' p h1 h2 hp => ?_⟩
      rw [sortI_eq h1 h2]
      have x := Ext.new (o := .lst ((sortI ns).map V.int)) e hp
      exact q _ _ _ x (.lst upd_same (RpA.ints _))
  · cases eh
/-! ### in -/
def flatD : D → Bool
  | .none => true
  | .bool _ => true
  | .int _ => true
  | .str _ => true
  | _ => false
theorem flat_eqv : ∀ (x y : D), flatD x = true → flatD y = true → ∀ {F H : Hp} {u v : V}, RpS K F H u x → RpS K F H v y → flatV u = true ∧ eqV u v = PyData.eqv x y := by
  intro x y hx hy F H u v ru rv
  cases x with
  | none => rw [ru.non]; cases y with
    | none => rw [rv.non]; exact ⟨rfl, rfl⟩
    | bool b => rw [rv.bl]; exact ⟨rfl, rfl⟩
    | int b => rw [rv.int]; exact ⟨rfl, rfl⟩
    | str b => rw [rv.str]; exact ⟨rfl, rfl⟩
    | list _ => cases hy
    | tuple _ => cases hy
    | dict _ => cases hy
  | bool a => rw [ru.bl]; cases y with
    | none => rw [rv.non]; exact ⟨rfl, rfl⟩
    | bool b => rw [rv.bl]; exact ⟨rfl, rfl⟩
    | int b => rw [rv.int]; exact ⟨rfl, rfl⟩
    | str b => rw [rv.str]; exact ⟨rfl, rfl⟩
    | list _ => cases hy
    | tuple _ => cases hy
    | dict _ => cases hy
  | int a => rw [ru.int]; cases y with
    | none => rw [rv.non]; exact ⟨rfl, rfl⟩
    | bool b => rw [rv.bl]; exact ⟨rfl, rfl⟩
    | int b => rw [rv.int]; exact ⟨rfl, rfl⟩
    | str b => rw [rv.str]; exact ⟨rfl, rfl⟩
    | list _ => cases hy
    | tuple _ => cases hy
    | dict _ => cases hy
  | str a => rw [ru.str]; cases y with
    | none => rw [rv.non]; exact ⟨rfl, rfl⟩
    | bool b => rw [rv.bl]; exact ⟨rfl, rfl⟩
    | int b => rw [rv.int]; exact ⟨rfl, rfl⟩
    | str b => rw [rv.str]; exact ⟨rfl, rfl⟩
    | list _ => cases hy
    | tuple _ => cases hy
    | dict _ => cases hy
  | list _ => cases hx
  | tuple _ => cases hx
  | dict _ => cases hx
theorem flat_any {F H : Hp} {u : V} {x : D} (hx : flatD x = true) (ru : RpS K F H u x) : ∀ {vs : List V} {ds : List D}, RpA K F vs ds → ds.all flatD = true → vs.all flatV = true ∧ inV u vs = ds.any fun z => PyData.eqv z x
  | [], [], .nil, _ => ⟨rfl, rfl⟩
  | v :: vs, d :: ds, .cons h1 h2, ha => by
    rw [List.all_cons, Bool.and_eq_true] at ha
    obtain ⟨a1, a2⟩ := flat_any hx ru h2 ha.2
    obtain ⟨b1, b2⟩ := flat_eqv d x ha.1 hx (.inl h1 : RpS K F H v d) ru
    refine ⟨by rw [List.all_cons, b1, a1]; rfl, ?_⟩
    unfold inV at a2 ⊢
    rw [List.any_cons, List.any_cons, b2, a2]
/-- x in y: of a list all that may be compared; of a tuple flat things -/
def inD (x y : D) : Option D := match y with
  | .list ds => if SeqAt.shaped x = true ∧ SeqAt.shaped (.list ds) = true then some (.bool (ds.any fun z => PyData.eqv z x)) else none
  | .tuple ds => if flatD x = true ∧ ds.all flatD = true then some (.bool (ds.any fun z => PyData.eqv z x)) else none
  | _ => none
def ninD (x y : D) : Option D := match inD x y with
  | some (.bool b) => some (.bool (!b))
  | _ => none
theorem b2_in : BoolOp2 inD := fun a b c h => by
  unfold inD at h
  split at h
  · split at h
    · cases h; exact ⟨_, rfl⟩
    · cases h
  · split at h
    · cases h; exact ⟨_, rfl⟩
    · cases h
  · cases h
abbrev rInA (K : Fr) : R2 := fun x y H Q => rInD K x y H Q ∨ rIn K false x y H Q
theorem op_inA {X : Cx} (hu : X.A.units + 65 < cLine) : OpR X (compareOp .In) (rInA X.K) := (op_inD hu).or op_in_seq
theorem od_in : OpD K (rInA K) inD := by
  intro F H x y a b c Q e ha hb eh q
  unfold inD at eh
  split at eh
  · rename_i ds
    split at eh
    · rename_i hs
      cases eh
      exact .inl ⟨a, ds, ha.dp e, hb.dp e, hs.1, hs.2, q _ F H (Ext.refl e) (.bl _)⟩
    · cases eh
  · rename_i ds
    split at eh
    · rename_i hs
      cases eh
      obtain ⟨p, vs, rfl, h1, h2⟩ := hb.tuple
      obtain ⟨k1, k2⟩ := flat_any hs.1 ha h2 hs.2
      refine .inr ⟨p, vs, rfl, .inr (sqt_mono e h1), (flat_eqv a a hs.1 hs.1 ha ha).1, k1, ?_⟩
      rw [if_neg (by decide), k2]
      exact q _ F H (Ext.refl e) (.bl _)
    · cases eh
  · cases eh
end
/-! ### x.pop(i) -/
def popAtM (f g : EM) : EM := fun s st => (f s st).bind fun v st1 => match lstAt v st1 with
  | none => .no
  | some _ => (g s st1).bind fun j st2 => match lstAt v st2, j with
    | some (k, xs), .dat (.int n) => (match seqIndex? n xs.length with
      | some m => (match xs[m]? with
        | some w => if -(2 ^ 63) ≤ n ∧ n < 2 ^ 63 then .ok w (st2.set k (.lst (xs.eraseIdx m))) else .no
        | none => .no)
      | none => .no)
    | _, _ => .no
theorem Vls.eraseIdx {K : Fr} {F : Hp} {as : List Addr} : ∀ {vs : List V} {xs : List Vl} (i : Nat), VlsOk K F as vs xs → VlsOk K F as (vs.eraseIdx i) (xs.eraseIdx i)
  | [], [], _, .nil => .nil
  | _ :: _, _ :: _, 0, .cons h1 h2 => h2
  | _ :: _, _ :: _, i + 1, .cons h1 h2 => .cons h1 (Vls.eraseIdx i h2)
section
variable {X : Cx} {cl : Nat → Value} {W : WX} {o e : Expr} {apos cpos : Pos} {f g : EM}
theorem qe_popAt (ho : PE X o (denE X.K cl W f)) (he : PE X e (denE X.K cl W g)) (hbase : attributeBase o "pop" X.env (eval o X.env) = eval o X.env := by rfl)
    (hfew : ((backTo cpos (starEach [e] X.env)).all (fun x => !x.1) && (backToKw cpos (keywordEach [] X.env)).all (fun x => x.1.isSome)
      && decide ([e].length + ([] : List Keyword).length + (if ([] : List Keyword).isEmpty then 0 else 1) < 30)) = true := by rfl)
    (hline : (apos.endLine == cpos.line) = true := by rfl) (hs : starEach [e] X.env = (false, eval e X.env) :: starEach [] X.env := by rfl) (hplain : (backTo cpos (starEach [] X.env)).any (·.1) = false := by rfl) :
    PE X (.Call (.Attribute o "pop" apos) [e] [] cpos) (denE X.K cl W (popAtM f g)) :=
  PE.imp (pe_bm PySem.F.plainAttrs_list PySem.F.slot_list_pop PySem.F.type_list_pop mt_popAt ho (pa_cons he pa_nil hs) (hbase := hbase) (hfew := hfew) (hline := hline) (hs := hs) (hplain := hplain)) fun σ H Q q => by
    refine den_bind q fun B F as s v st1 H1 r1 o1 q u hu => ?_
    cases e1 : lstAt v st1 with
    | none => rw [e1] at q; exact q.elim
    | some kx =>
      obtain ⟨k, xs⟩ := kx
      rw [e1] at q
      simp only at q
      obtain ⟨rfl, ec⟩ := lstAt_eq e1
      obtain ⟨a, rfl, ea⟩ := cel_at hu
      obtain ⟨q1, vs, q2, q3⟩ := r1.ok k _ a ec ea
      refine ⟨.inl ⟨rfl, _, .inl (.inl q2)⟩, B, F, as, s, st1, r1, o1, post_mono (post_bind q) fun j st2 F2 as2 H2 _ g2 r2 qb w hw => ?_⟩
      cases e2 : lstAt (.cel k) st2 with
      | none => rw [e2] at qb; exact qb.elim
      | some kx2 =>
        obtain ⟨k2, ys⟩ := kx2
        rw [e2] at qb
        obtain ⟨ek, ec2⟩ := lstAt_eq e2
        cases ek
        have ea2 := as_ext g2.ext ea
        obtain ⟨p1, ws, p2, p3⟩ := r2.ok k _ a ec2 ea2
        have hj2 : ∃ n, j = .dat (.int n) := by
          cases j with
          | cel _ => exact qb.elim
          | scr _ => exact qb.elim
          | dat dj => cases dj with
            | int n => exact ⟨n, rfl⟩
            | none => exact qb.elim
            | bool _ => exact qb.elim
            | str _ => exact qb.elim
            | list _ => exact qb.elim
            | tuple _ => exact qb.elim
            | dict _ => exact qb.elim
        obtain ⟨n, rfl⟩ := hj2
        simp only at qb
        cases hm : seqIndex? n ys.length with
        | none => simp only [hm] at qb; exact qb.elim
        | some m =>
          simp only [hm] at qb
          cases hy : ys[m]? with
          | none => simp only [hy] at qb; exact qb.elim
          | some z =>
            simp only [hy] at qb
            split at qb
            · rename_i hn
              obtain ⟨y, ey, hy2⟩ := Vls.last p3 hy
              rw [vl_int hw]
              refine ⟨a, ws, n, m, y, rfl, rfl, p2, hn.1, hn.2, by rw [Paired.length p3]; exact hm, ey, ?_⟩
              exact qb F2 as2 _ Grow.refl (cell_put r2 ea2 ec2 (Vls.eraseIdx m p3)) y hy2
            · exact qb.elim
end
end Pd

set_option Elab.async false
set_option linter.all false
set_option maxRecDepth 100000
set_option maxHeartbeats 4000000
/-! PdB: list(range(n)). -/
namespace Pd
open PySem PySem.Spec PyProof.Rows L2 RZ RT
def tListRng (te : TE) : TE := fun σ H Q => te σ H fun x H1 => ∃ n : Nat, x = .int n ∧ n ≤ sizeLine ∧ n ≤ 2 ^ 24 ∧ ∀ p, H1 p = none → Q (.ref p) (upd H1 p (.lst ((List.range n).map fun i : Nat => V.int i)))
theorem vals_rng {acc : Array Value} {n : Nat} (h : ItemsOf (fun i v => ∃ t, v = .int (0 + (i : Int) * 1) t) acc n) : Vals ((List.range n).map fun i : Nat => V.int i) acc.toList := by
  obtain ⟨hs, h⟩ := h
  have gen : ∀ (l : List Value) (k : Nat), (∀ j v, l[j]? = some v → ∃ t, v = Value.int ((k + j : Nat) : Int) t) → Vals ((List.range' k l.length).map fun i : Nat => V.int i) l := by
    intro l
    induction l with
    | nil => intro k _; exact .nil
    | cons v l ih =>
      intro k hk
      rw [List.length_cons, List.range'_succ, List.map_cons]
      refine .cons ?_ (ih (k + 1) fun j u e => ?_)
      · obtain ⟨t, rfl⟩ := hk 0 v rfl
        exact ⟨t, rfl⟩
      · obtain ⟨t, e2⟩ := hk (j + 1) u (by simpa using e)
        exact ⟨t, by rw [e2]; congr 1; omega⟩
  have := gen acc.toList 0 fun j v e => by
    obtain ⟨t, e2⟩ := h j v (by rw [← Array.getElem?_toList]; exact e)
    exact ⟨t, by rw [e2]; congr 1; omega⟩
  rw [Array.length_toList, hs, ← List.range_eq_range'] at this
  exact this
theorem pe_listRng {X : Cx} {e : Expr} {te : TE} {p p2 pos pos2 : Pos} (hc : X.calm = true) (hg : Gl X "list") (hm : X.mg "list" = none) (hg2 : Gl X "range") (hm2 : X.mg "range" = none) (he : PE X e te)
    (na2 : starEach [e] X.env = (false, eval e X.env) :: starEach [] X.env := by rfl)
    (na : starEach [.Call (.Name "range" p2) [e] [] pos2] X.env = (false, eval (.Call (.Name "range" p2) [e] [] pos2) X.env) :: starEach [] X.env := by rfl) :
    PE X (.Call (.Name "list" p) [.Call (.Name "range" p2) [e] [] pos2] [] pos) (tListRng te) := by
  refine ⟨fun pins s σ H Q I h => ?_⟩
  refine Call_ (ld_blt I hg hm boot_list (PyProof.Rows.callWith_type1 (args_cons ?_ na) na))
  refine Call_ (ld_blt I hg2 hm2 PyProof.Rows.boot_range (PyProof.Rows.callWith_type1 (one_arg he I h (fun v s1 x H1 I1 r1 q1 => ?_) na2) na2))
  obtain ⟨n, rfl, hn, hn2, q⟩ := q1
  obtain ⟨t, rfl⟩ := r1
  refine call_range_1 (args_nil ?_)
  have e62 : (2 : Int) ^ 62 = 4611686018427387904 := by decide
  have hn3 : n ≤ 16777216 := hn2
  refine call_list_range (s := { s1 with heap := s1.heap.push _, toks := s1.toks + 1 + 1 }) (I1.ok.hd hc) (IsRange.new s1.heap 0 n 1 s1.toks t (s1.toks + 1)) (small_one (by rw [e62]; decide) (by rw [e62]; decide) (by rw [e62]; omega) (by rw [e62]; omega)) (n := n) ?_ hn2 fun h' tk acc' c' hk hS' hacc => ?_
  · rw [rangeSize_one]
    split <;> omega
  have hk2 : ∀ b o, s1.heap.get? b = some o → h'.get? b = some o := fun b o e => hk b o (Heap.get?_push_of_some _ e)
  have hsz : (s1.heap.push { cls := .type "range", data := .fields #[.int 0 s1.toks, .int n t, .int 1 (s1.toks + 1)] }).objs.size = s1.heap.objs.size + 1 := Heap.size_push ..
  have hnew : H1 (s1.heap.push { cls := .type "range", data := .fields #[.int 0 s1.toks, .int n t, .int 1 (s1.toks + 1)] }).objs.size = none := I1.hok.fresh (by rw [hsz]; omega)
  refine ⟨.ref _, upd H1 _ (.lst ((List.range n).map fun i : Nat => V.int i)), I1.laid (t' := tk) (fun b u e => hk2 b u e) (by rw [hsz]; omega) (show ObjOk X.prog X.w _ h' _ (.lst _) from ⟨?_, acc'.toList, c', vals_rng hacc, ?_⟩), rfl, q _ hnew⟩
  · rw [List.length_map, List.length_range]; exact hn
  · rw [Array.toArray_toList]; exact hS'
/-- list(range(n)): frozen -/
def lrngM (f : EM) : EM := fun s st => (f s st).bind fun v st1 => match v with
  | .dat (.int i) => if i.toNat ≤ 16777216 ∧ i.toNat ≤ sizeLine ∧ 0 ≤ i then .ok (.dat (.list ((List.range i.toNat).map fun k : Nat => PyData.int k))) st1 else .no
  | _ => .no
theorem rng_rp {K : Fr} {F : Hp} : ∀ (l : List Nat), RpA K F (l.map fun i : Nat => V.int i) (l.map fun i : Nat => PyData.int i)
  | [] => .nil
  | n :: l => .cons (.int n) (rng_rp l)
theorem qe_lrng {X : Cx} {cl : Nat → Value} {W : WX} {e : Expr} {f : EM} {p p2 pos pos2 : Pos} (hc : X.calm = true) (hg : Gl X "list") (hm : X.mg "list" = none) (hg2 : Gl X "range") (hm2 : X.mg "range" = none) (he : PE X e (denE X.K cl W f))
    (na2 : starEach [e] X.env = (false, eval e X.env) :: starEach [] X.env := by rfl)
    (na : starEach [.Call (.Name "range" p2) [e] [] pos2] X.env = (false, eval (.Call (.Name "range" p2) [e] [] pos2) X.env) :: starEach [] X.env := by rfl) :
    PE X (.Call (.Name "list" p) [.Call (.Name "range" p2) [e] [] pos2] [] pos) (denE X.K cl W (lrngM f)) := PE.imp (pe_listRng hc hg hm hg2 hm2 he na2 na) fun σ H Q q => by
  refine den_bind q fun B F as s v st1 H1 r1 o1 q u hu => ?_
  split at q
  · rename_i i
    split at q
    · rename_i hn
      rw [vl_int hu]
      refine ⟨i.toNat, by rw [Int.toNat_of_nonneg hn.2.2], hn.2.1, hn.1, fun p hp => ?_⟩
      obtain ⟨g3, r3, p3⟩ := lst_frozen r1 (rng_rp (List.range i.toNat)) hp
      exact q _ _ _ g3 r3 _ (.dat p3)
    · exact q.elim
  · exact q.elim
end Pd

set_option Elab.async false
set_option linter.all false
set_option maxRecDepth 100000
set_option maxHeartbeats 4000000
/-! PdC: comprehensions with two for. -/
namespace Pd
open PySem PySem.Spec PyProof.Rows L2 RZ
/-- [e for b in .. if t for b1 in it1 if t1] -/
def lcGo2 (b : BM) (t : TM) (it1 : IM) (b1 : BM) (vs1 : List Nat) (t1 : TM) (e : EM) : List D → Slots → Store → Res (List D)
  | [], _, st => .ok [] st
  | d :: r, s, st => match b (.dat d) s with
    | none => .no
    | some s1 => (t s1 st).bind fun k st1 => if k = true then (it1 s1 st1).bind fun ds1 st2 => (lcGo b1 t1 e ds1 (wipeS s1 vs1) st2).bind fun xs st3 => (lcGo2 b t it1 b1 vs1 t1 e r s st3).bind fun ys st4 => .ok (xs ++ ys) st4
      else lcGo2 b t it1 b1 vs1 t1 e r s st1
def lc2L (it : IM) (b : BM) (vs : List Nat) (t : TM) (it1 : IM) (b1 : BM) (vs1 : List Nat) (t1 : TM) (e : EM) : Slots → Store → Res (List D) := fun s st => (it s st).bind fun ds st1 => (noX (lcGo2 b t it1 b1 vs1 t1 e ds (wipeS s vs) st1)).bind fun out st2 => if out.length ≤ sizeLine then .ok out st2 else .no
def lc2M (it : IM) (b : BM) (vs : List Nat) (t : TM) (it1 : IM) (b1 : BM) (vs1 : List Nat) (t1 : TM) (e : EM) : EM := fun s st => (lc2L it b vs t it1 b1 vs1 t1 e s st).bind fun out st2 => .ok (.dat (.list out)) st2
theorem lcI_run {acc0 : List V} {done0 : List D} {K : Fr} {cl : Nat → Value} {W : WX} {B F : Hp} {as : List Addr} {σ : L2.St} {s : Slots} {st : Store} {H : Hp} {J : It} {ds : List D} {b : BM} {is vs : List Nat} {t : TM} {e : EM} {L : Addr} {Qd : Hp → Prop}
    (hsub : ∀ i ∈ is, i ∈ vs) (hJ : Iter K F J ds) (r : RepH K B F as H st) (o : SlOk K F as σ s) (hL : H L = some (.lst acc0)) (hFL : F L = none) (hBL : B L = none) (hasL : L ∉ as) (hR0 : RpA K F acc0 done0)
    (hpost : postR K cl W B F as σ (fun out st' F' as' H' => ∀ vs', H' L = some (.lst vs') → F' L = none → L ∉ as' → RpA K F' vs' (done0 ++ out) → Qd H') (noX (lcGo b t e ds (wipeS s vs) st)))
    (hlen : ∀ out st', lcGo b t e ds (wipeS s vs) st = .ok out st' → (done0 ++ out).length ≤ sizeLine) :
    ∃ Wi : Nat → Nat → Hp → Prop, (∃ m, Wi 0 m H) ∧ ∀ i m H, Wi i m H →
      (J.stop i H ∧ Qd H) ∨ (J.go i H ∧ ∃ Nx : Hp → Prop, (∀ H', Nx H' → ∃ m', m' < m ∧ Wi (i + 1) m' H') ∧ ∀ x H', J.yld i H x H' → denG K is b x (wipe σ vs) H' fun σ2 H2 => wipe σ2 vs = wipe σ vs ∧ denT K cl W0 t σ2 H2 fun b H3 =>
        if b = true then denE K cl W0 e σ2 H3 fun y H4 => ∃ acc, H4 L = some (.lst acc) ∧ acc.length < sizeLine ∧ Nx (upd H4 L (.lst (acc ++ [y]))) else Nx H3) := by
  /- the turn's state: what is made so far, and that the rest ends well -/
  let St_ : Nat → Hp → Prop := fun i H' => ∃ F' as' st' acc done, Grow B F F' as as' ∧ RepH K B F' as' H' st' ∧ H' L = some (.lst acc) ∧ F' L = none ∧ L ∉ as' ∧ RpA K F' acc done ∧
    postR K cl W B F' as' σ (fun out st2 F2 as2 H2 => ∀ vs', H2 L = some (.lst vs') → F2 L = none → L ∉ as2 → RpA K F2 vs' (done ++ out) → Qd H2) (noX (lcGo b t e (ds.drop i) (wipeS s vs) st')) ∧
    (∀ out st2, lcGo b t e (ds.drop i) (wipeS s vs) st' = .ok out st2 → (done ++ out).length ≤ sizeLine)
  refine ⟨fun i m H' => m = ds.length - i ∧ i ≤ ds.length ∧ St_ i H', ⟨ds.length, by omega, by omega, F, as, st, acc0, done0, Grow.refl, r, hL, hFL, hasL, hR0, hpost, hlen⟩, ?_⟩
  rintro i m H' ⟨rfl, hi, F', as', st', acc, done, g', r', hL', hF', hA', hR', q', l'⟩
  by_cases hlt : i < ds.length
  · have hd : ds.drop i = ds[i] :: ds.drop (i + 1) := List.drop_eq_getElem_cons hlt
    refine .inr ⟨hJ.go i F' H' g'.sub r'.fh hlt, St_ (i + 1), fun H2 h2 => ⟨ds.length - (i + 1), by omega, rfl, hlt, h2⟩, fun x H3 y => ?_⟩
    obtain ⟨F3, x3, rp3⟩ := hJ.yld i F' H' x H3 ds[i] g'.sub r'.fh (List.getElem?_eq_getElem hlt) y
    have g3 := x3.grow r'
    have r3 := r'.ext x3
    have hL3 : H3 L = some (.lst acc) := x3.h _ _ hL'
    have hF3 : F3 L = none := none_of_not fun z => by
      have := x3.n L hF' z
      rw [hL'] at this
      cases this
    have hR3 : RpA K F3 acc done := hR'.mono x3.f
    have o3 : SlOk K F3 as' (wipe σ vs) (wipeS s vs) := (o.mono (g'.trans g3)).wipe vs
    have rg := r3.guard hA' hL3
    rw [hd] at q' l'
    unfold lcGo at q' l'
    cases eb : b (.dat ds[i]) (wipeS s vs) with
    | none => rw [eb] at q'; exact q'.elim
    | some s4 =>
      rw [eb] at q' l'
      simp only at q' l'
      refine ⟨B, F3, as', wipeS s vs, st', .dat ds[i], s4, r3, o3, .dat rp3, eb, fun σ4 o4 l4 n4 => ⟨?_, ?_⟩⟩
      · refine wipe_wipe (by rw [l4, wipe_length]) fun j hj => n4 j fun z => hj (hsub j z)
      · -- the test
        cases et : t s4 st' with
        | exc c p z => rw [et] at q'; exact q'.elim
        | no => rw [et] at q'; exact q'.elim
        | ok k st5 =>
          rw [et, Res.bind_ok] at q' l'
          refine ⟨upd B L (.lst acc), F3, as', s4, st', rg, o4, ?_⟩
          rw [et]
          intro F5 as5 H5 g5 r5
          have hL5 : H5 L = some (.lst acc) := r5.bh L _ upd_same
          have hF5 : F5 L = none := g5.frame L (by rw [upd_same]; exact fun z => by cases z) hF3
          have hA5 : L ∉ as5 := fun z => by
            have := r5.bn L z
            rw [upd_same] at this
            cases this
          have g5' := g5.unguard
          have r5' := r5.unguard hBL
          cases k with
          | false =>
            simp only [Bool.false_eq_true, if_false] at q' l' ⊢
            exact ⟨F5, as5, st5, acc, done, g'.trans (g3.trans g5'), r5', hL5, hF5, hA5, hR3.mono g5.sub, post_grow (g3.trans g5') q', l'⟩
          | true =>
            simp only [if_true] at q' l' ⊢
            cases ee : e s4 st5 with
            | exc c p z => rw [ee] at q'; exact q'.elim
            | no => rw [ee] at q'; exact q'.elim
            | ok v st6 =>
              rw [ee, Res.bind_ok] at q' l'
              refine ⟨upd B L (.lst acc), F5, as5, s4, st5, r5, o4.mono g5, ?_⟩
              rw [ee]
              intro F6 as6 H6 g6 r6 u hu
              have hL6 : H6 L = some (.lst acc) := r6.bh L _ upd_same
              have hF6 : F6 L = none := g6.frame L (by rw [upd_same]; exact fun z => by cases z) hF5
              have hA6 : L ∉ as6 := fun z => by
                have := r6.bn L z
                rw [upd_same] at this
                cases this
              rcases toD_res v st6 with ⟨d, st7, ed⟩ | ed
              · rw [ed, Res.bind_ok] at q' l'
                obtain ⟨F7, g7, r7, rp7⟩ := toD_ok r6 hu ed
                have hF7 : F7 L = none := g7.frame L (by rw [upd_same]; exact fun z => by cases z) hF6
                have g7' := g7.unguard
                have g6' := g6.unguard
                have r7' := r7.unguard hBL
                have hR7 : RpA K F7 acc done := ((hR3.mono g5.sub).mono g6.sub).mono g7.sub
                cases eo : lcGo b t e (ds.drop (i + 1)) (wipeS s vs) st7 with
                | exc c p z => rw [eo] at q'; exact q'.elim
                | no => rw [eo] at q'; exact q'.elim
                | ok out st8 =>
                  rw [eo, Res.bind_ok] at q' l'
                  have ll := l' (d :: out) st8 rfl
                  have hlen : acc.length < sizeLine := by
                    rw [hR7.len]
                    rw [List.length_append, List.length_cons] at ll
                    omega
                  refine ⟨acc, hL6, hlen, F7, as6, st7, acc ++ [u], done ++ [d], g'.trans (g3.trans (g5'.trans (g6'.trans g7'))), r7'.put hA6 hF7 hBL, upd_same, hF7, hA6, hR7.append (.one rp7), ?_, ?_⟩
                  · rw [eo]
                    intro F9 as9 H9 g9 r9 vs' h1 h2 h3 h4
                    refine q' F9 as9 H9 (g3.trans (g5'.trans (g6'.trans (g7'.trans g9)))) r9 vs' h1 h2 h3 ?_
                    rw [List.append_assoc] at h4
                    exact h4
                  · intro out2 st9 e9
                    rw [eo] at e9
                    cases e9
                    rw [List.append_assoc]
                    exact ll
              · rw [ed] at q'
                exact q'.elim
  · have ei : i = ds.length := by omega
    subst ei
    rw [List.drop_length] at q'
    refine .inl ⟨hJ.stop F' H' g'.sub r'.fh, ?_⟩
    exact q' F' as' H' Grow.refl r' acc hL' hF' hA' (by simpa using hR')
theorem lc2_run {it1 : IM} {b1 : BM} {is1 vs1 : List Nat} {t1 : TM} {K : Fr} {cl : Nat → Value} {W : WX} {B F : Hp} {as : List Addr} {σ : L2.St} {s : Slots} {st : Store} {H : Hp} {J : It} {ds : List D} {b : BM} {is vs : List Nat} {t : TM} {e : EM} {L : Addr} {Qd : Hp → Prop}
    (hsub : ∀ i ∈ is, i ∈ vs) (hsub1 : ∀ i ∈ is1, i ∈ vs1) (hJ : Iter K F J ds) (r : RepH K B F as H st) (o : SlOk K F as σ s) (hL : H L = none)
    (hpost : postR K cl W B F as σ (fun out st' F' as' H' => out.length ≤ sizeLine ∧ ∀ vs', H' L = some (.lst vs') → F' L = none → L ∉ as' → B L = none → RpA K F' vs' out → Qd H') (noX (lcGo2 b t it1 b1 vs1 t1 e ds (wipeS s vs) st)))
    (hlen : ∀ out st', lcGo2 b t it1 b1 vs1 t1 e ds (wipeS s vs) st = .ok out st' → out.length ≤ sizeLine) :
    ∃ Wi : Nat → Nat → Hp → Prop, (∃ m, Wi 0 m (upd H L (.lst []))) ∧ ∀ i m H, Wi i m H →
      (J.stop i H ∧ Qd H) ∨ (J.go i H ∧ ∃ Nx : Hp → Prop, (∀ H', Nx H' → ∃ m', m' < m ∧ Wi (i + 1) m' H') ∧ ∀ x H', J.yld i H x H' → denG K is b x (wipe σ vs) H' fun σ2 H2 => wipe σ2 vs = wipe σ vs ∧ denT K cl W0 t σ2 H2 fun b H3 =>
        if b = true then denI K cl W0 it1 σ2 H3 fun J1 H4 => ∃ W1 : Nat → Nat → Hp → Prop, (∃ m, W1 0 m H4) ∧ ∀ j k H, W1 j k H →
          (J1.stop j H ∧ Nx H) ∨ (J1.go j H ∧ ∃ Nx1 : Hp → Prop, (∀ H', Nx1 H' → ∃ k', k' < k ∧ W1 (j + 1) k' H') ∧ ∀ x H', J1.yld j H x H' → denG K is1 b1 x (wipe σ2 vs1) H' fun σ3 H5 => wipe σ3 vs1 = wipe σ2 vs1 ∧ denT K cl W0 t1 σ3 H5 fun b H6 =>
            if b = true then denE K cl W0 e σ3 H6 fun y H7 => ∃ acc, H7 L = some (.lst acc) ∧ acc.length < sizeLine ∧ Nx1 (upd H7 L (.lst (acc ++ [y]))) else Nx1 H6)
        else Nx H3) := by
  have hBL : B L = none := r.bh.free hL
  have hFL : F L = none := r.fh.free hL
  have hasL : L ∉ as := fun z => r.hs L z hL
  /- the turn's state: what is made so far, and that the rest ends well -/
  let St_ : Nat → Hp → Prop := fun i H' => ∃ F' as' st' acc done, Grow B F F' as as' ∧ RepH K B F' as' H' st' ∧ H' L = some (.lst acc) ∧ F' L = none ∧ L ∉ as' ∧ RpA K F' acc done ∧
    postR K cl W B F' as' σ (fun out st2 F2 as2 H2 => ∀ vs', H2 L = some (.lst vs') → F2 L = none → L ∉ as2 → RpA K F2 vs' (done ++ out) → Qd H2) (noX (lcGo2 b t it1 b1 vs1 t1 e (ds.drop i) (wipeS s vs) st')) ∧
    (∀ out st2, lcGo2 b t it1 b1 vs1 t1 e (ds.drop i) (wipeS s vs) st' = .ok out st2 → (done ++ out).length ≤ sizeLine)
  refine ⟨fun i m H' => m = ds.length - i ∧ i ≤ ds.length ∧ St_ i H', ⟨ds.length, by omega, by omega, F, as, st, [], [], Grow.refl, r.put hasL hFL hBL, upd_same, hFL, hasL, .nil, ?_, ?_⟩, ?_⟩
  · exact post_mono hpost fun out st2 F2 as2 H2 _ g2 r2 q2 vs' h1 h2 h3 h4 => q2.2 vs' h1 h2 h3 hBL (by simpa using h4)
  · intro out st2 h
    simpa using hlen out st2 h
  rintro i m H' ⟨rfl, hi, F', as', st', acc, done, g', r', hL', hF', hA', hR', q', l'⟩
  by_cases hlt : i < ds.length
  · have hd : ds.drop i = ds[i] :: ds.drop (i + 1) := List.drop_eq_getElem_cons hlt
    refine .inr ⟨hJ.go i F' H' g'.sub r'.fh hlt, St_ (i + 1), fun H2 h2 => ⟨ds.length - (i + 1), by omega, rfl, hlt, h2⟩, fun x H3 y => ?_⟩
    obtain ⟨F3, x3, rp3⟩ := hJ.yld i F' H' x H3 ds[i] g'.sub r'.fh (List.getElem?_eq_getElem hlt) y
    have g3 := x3.grow r'
    have r3 := r'.ext x3
    have hL3 : H3 L = some (.lst acc) := x3.h _ _ hL'
    have hF3 : F3 L = none := none_of_not fun z => by
      have := x3.n L hF' z
      rw [hL'] at this
      cases this
    have hR3 : RpA K F3 acc done := hR'.mono x3.f
    have o3 : SlOk K F3 as' (wipe σ vs) (wipeS s vs) := (o.mono (g'.trans g3)).wipe vs
    have rg := r3.guard hA' hL3
    rw [hd] at q' l'
    unfold lcGo2 at q' l'
    cases eb : b (.dat ds[i]) (wipeS s vs) with
    | none => rw [eb] at q'; exact q'.elim
    | some s4 =>
      rw [eb] at q' l'
      simp only at q' l'
      refine ⟨B, F3, as', wipeS s vs, st', .dat ds[i], s4, r3, o3, .dat rp3, eb, fun σ4 o4 l4 n4 => ⟨?_, ?_⟩⟩
      · refine wipe_wipe (by rw [l4, wipe_length]) fun j hj => n4 j fun z => hj (hsub j z)
      · -- the test
        cases et : t s4 st' with
        | exc c p z => rw [et] at q'; exact q'.elim
        | no => rw [et] at q'; exact q'.elim
        | ok k st5 =>
          rw [et, Res.bind_ok] at q' l'
          refine ⟨upd B L (.lst acc), F3, as', s4, st', rg, o4, ?_⟩
          rw [et]
          intro F5 as5 H5 g5 r5
          have hL5 : H5 L = some (.lst acc) := r5.bh L _ upd_same
          have hF5 : F5 L = none := g5.frame L (by rw [upd_same]; exact fun z => by cases z) hF3
          have hA5 : L ∉ as5 := fun z => by
            have := r5.bn L z
            rw [upd_same] at this
            cases this
          have g5' := g5.unguard
          have r5' := r5.unguard hBL
          cases k with
          | false =>
            simp only [Bool.false_eq_true, if_false] at q' l' ⊢
            exact ⟨F5, as5, st5, acc, done, g'.trans (g3.trans g5'), r5', hL5, hF5, hA5, hR3.mono g5.sub, post_grow (g3.trans g5') q', l'⟩
          | true =>
            simp only [if_true] at q' l' ⊢
            cases ee : it1 s4 st5 with
            | exc c p z => rw [ee] at q'; exact q'.elim
            | no => rw [ee] at q'; exact q'.elim
            | ok ds1 st6 =>
              rw [ee, Res.bind_ok] at q' l'
              refine ⟨upd B L (.lst acc), F5, as5, s4, st5, r5, o4.mono g5, ?_⟩
              rw [ee]
              intro F6 as6 H6 g6 r6 J1 hJ1
              have hL6 : H6 L = some (.lst acc) := r6.bh L _ upd_same
              have hF6 : F6 L = none := g6.frame L (by rw [upd_same]; exact fun z => by cases z) hF5
              have hA6 : L ∉ as6 := fun z => by
                have := r6.bn L z
                rw [upd_same] at this
                cases this
              have g6' := g6.unguard
              have r6' := r6.unguard hBL
              have hR6 : RpA K F6 acc done := (hR3.mono g5.sub).mono g6.sub
              cases eI : lcGo b1 t1 e ds1 (wipeS s4 vs1) st6 with
              | exc c p z => rw [eI] at q'; exact q'.elim
              | no => rw [eI] at q'; exact q'.elim
              | ok xs st7 =>
                rw [eI, Res.bind_ok] at q' l'
                cases eR : lcGo2 b t it1 b1 vs1 t1 e (ds.drop (i + 1)) (wipeS s vs) st7 with
                | exc c p z => rw [eR] at q'; exact q'.elim
                | no => rw [eR] at q'; exact q'.elim
                | ok ys st8 =>
                  rw [eR, Res.bind_ok] at q' l'
                  have ll := l' (xs ++ ys) st8 rfl
                  refine lcI_run (W := W0) (σ := σ4) hsub1 hJ1 r6' ((o4.mono g5).mono g6) hL6 hF6 hBL hA6 hR6 ?_ ?_
                  · rw [eI]
                    intro F7 as7 H7 g7 r7 vs' h1 h2 h3 h4
                    refine ⟨F7, as7, st7, vs', done ++ xs, g'.trans (g3.trans (g5'.trans (g6'.trans g7))), r7, h1, h2, h3, h4, ?_, ?_⟩
                    · rw [eR]
                      intro F9 as9 H9 g9 r9 vs2 k1 k2 k3 k4
                      refine q' F9 as9 H9 (g3.trans (g5'.trans (g6'.trans (g7.trans g9)))) r9 vs2 k1 k2 k3 ?_
                      rw [List.append_assoc] at k4
                      exact k4
                    · intro out2 st9 e9
                      rw [eR] at e9
                      cases e9
                      rw [List.append_assoc]
                      exact ll
                  · intro out2 st9 e9
                    rw [eI] at e9
                    cases e9
                    rw [List.length_append, List.length_append] at ll
                    rw [List.length_append]
                    omega
  · have ei : i = ds.length := by omega
    subst ei
    rw [List.drop_length] at q'
    refine .inl ⟨hJ.stop F' H' g'.sub r'.fh, ?_⟩
    exact q' F' as' H' Grow.refl r' acc hL' hF' hA' (by simpa using hR')
section
variable {K : Fr} {cl : Nat → Value} {W : WX}
theorem lc2M_den {it : IM} {b : BM} {is vs : List Nat} {t : TM} {it1 : IM} {b1 : BM} {is1 vs1 : List Nat} {t1 : TM} {e : EM} (hsub : ∀ i ∈ is, i ∈ vs) (hsub1 : ∀ i ∈ is1, i ∈ vs1) {σ : L2.St} {H : Hp} {Q : VK} (q : denE K cl W (lc2M it b vs t it1 b1 vs1 t1 e) σ H Q) : tLc2 (denI K cl W it) (denG K is b) (denT K cl W0 t) (denI K cl W0 it1) (denG K is1 b1) (denT K cl W0 t1) (denE K cl W0 e) vs vs1 σ H Q := by
  have q2 : den K cl W (fun s st => (it s st).bind fun ds st1 => (noX (lcGo2 b t it1 b1 vs1 t1 e ds (wipeS s vs) st1)).bind fun out st2 => if out.length ≤ sizeLine then .ok (.dat (.list out)) st2 else .no) σ H fun v _ F' as' H' => ∀ u, VlOk K F' as' u v → Q u H' := by
    obtain ⟨B, F, as, s, st, r, o, p⟩ := q
    refine ⟨B, F, as, s, st, r, o, ?_⟩
    unfold lc2M lc2L at p
    dsimp only
    cases e1 : it s st with
    | exc c p2 z => rw [e1] at p; exact p
    | no => rw [e1] at p; exact p
    | ok ds st1 =>
      rw [e1, Res.bind_ok] at p
      rw [Res.bind_ok]
      cases e2 : noX (lcGo2 b t it1 b1 vs1 t1 e ds (wipeS s vs) st1) with
      | exc c p2 z => rw [e2] at p; exact p
      | no => rw [e2] at p; exact p
      | ok out st2 =>
        rw [e2, Res.bind_ok] at p
        rw [Res.bind_ok]
        split
        · rename_i h
          rw [if_pos h] at p
          exact p
        · rename_i h
          rw [if_neg h] at p
          exact p
  refine den_bind q2 fun B F as s ds st1 H1 r1 o1 q J hJ L hL => ?_
  refine lc2_run (W := W) hsub hsub1 hJ r1 o1 hL ?_ ?_
  · refine post_mono (post_bind q) fun out st' F' as' H' e g' r' q3 => ?_
    split at q3
    · rename_i hl
      refine ⟨hl, fun vs' h1 h2 h3 h4 h5 => ?_⟩
      obtain ⟨g4, r4, p4⟩ := lst_adopt r' h1 h2 h3 h4 h5
      exact q3 _ _ _ g4 r4 _ (.dat p4)
    · exact q3.elim
  · intro out st' e
    rw [e] at q
    replace q : postR K cl W B F as σ (fun v _ F' as' H' => ∀ u, VlOk K F' as' u v → Q u H') (if out.length ≤ sizeLine then .ok (.dat (.list out)) st' else .no) := q
    split at q
    · assumption
    · exact q.elim
end
section
variable {X : Cx} {cl : Nat → Value} {W : WX} {elt tg iter tg1 iter1 : Expr} {ifs ifs1 : List Expr} {scope : Scope} {own : List (Str × Nat)} {pos : Pos} {it it1 : IM} {b b1 : BM} {is is1 : List Nat} {t t1 : TM} {e : EM}
theorem qe_lc2 (own : List (Str × Nat)) (vs1 : List Nat) (hc : X.calm = true) (hN : X.N.Nodup) (hsub : is.all (fun i => (own.map (·.2)).contains i) = true) (hsub1 : is1.all (fun i => vs1.contains i) = true) (hv : vs1.all (fun i => (own.map (·.2)).contains i) = true) (hi : PI X tg iter (denI X.K cl W it)) (ok : BlkOk X.N X.env.scope scope own)
    (hg : ∀ (s : Shared) (H : Hp) (C : Addr) (cl : List (Str × Addr)) (fp : List Addr), PG (X.blk s H scope (compEnvC scope cl C X.env) fp) tg (denG X.K is b))
    (ht : ∀ (s : Shared) (H : Hp) (C : Addr) (cl' : List (Str × Addr)) (fp : List Addr), PTs (X.blk s H scope (compEnvC scope cl' C X.env) fp) ifs (denT X.K cl W0 t))
    (hi1 : ∀ (s : Shared) (H : Hp) (C : Addr) (cl' : List (Str × Addr)) (fp : List Addr), PI (X.blk s H scope (compEnvC scope cl' C X.env) fp) tg1 iter1 (denI X.K cl W0 it1))
    (hg1 : ∀ (s : Shared) (H : Hp) (C : Addr) (cl : List (Str × Addr)) (fp : List Addr), PG (X.blk s H scope (compEnvC scope cl C X.env) fp) tg1 (denG X.K is1 b1))
    (ht1 : ∀ (s : Shared) (H : Hp) (C : Addr) (cl' : List (Str × Addr)) (fp : List Addr), PTs (X.blk s H scope (compEnvC scope cl' C X.env) fp) ifs1 (denT X.K cl W0 t1))
    (he : ∀ (s : Shared) (H : Hp) (C : Addr) (cl' : List (Str × Addr)) (fp : List Addr), PE (X.blk s H scope (compEnvC scope cl' C X.env) fp) elt (denE X.K cl W0 e)) (hs : ∀ x, foldedSetIterable iter X.env x = pure x := by intro _; rfl) (hs1 : ∀ env x, foldedSetIterable iter1 env x = pure x := by intro _ _; rfl) :
    PE X (.ListComp elt [⟨tg, iter, ifs, 0⟩, ⟨tg1, iter1, ifs1, 0⟩] scope pos) (denE X.K cl W (lc2M it b (own.map (·.2)) t it1 b1 vs1 t1 e)) :=
  PE.imp (pe_lc2 hc hN hi ok (sub_of hv) hg ht hi1 hg1 ht1 he hs hs1) fun _ _ _ q => lc2M_den (sub_of hsub) (sub_of hsub1) q
theorem qs_setLc2 (i : Nat) (own : List (Str × Nat)) (vs1 : List Nat) {y : Str} {py spos : Pos} (hc : X.calm = true) (hN : X.N.Nodup) (hsub : is.all (fun i => (own.map (·.2)).contains i) = true) (hsub1 : is1.all (fun i => vs1.contains i) = true) (hv : vs1.all (fun i => (own.map (·.2)).contains i) = true) (hi : PI X tg iter (denI X.K cl W it)) (ok : BlkOk X.N X.env.scope scope own)
    (hg : ∀ (s : Shared) (H : Hp) (C : Addr) (cl : List (Str × Addr)) (fp : List Addr), PG (X.blk s H scope (compEnvC scope cl C X.env) fp) tg (denG X.K is b))
    (ht : ∀ (s : Shared) (H : Hp) (C : Addr) (cl' : List (Str × Addr)) (fp : List Addr), PTs (X.blk s H scope (compEnvC scope cl' C X.env) fp) ifs (denT X.K cl W0 t))
    (hi1 : ∀ (s : Shared) (H : Hp) (C : Addr) (cl' : List (Str × Addr)) (fp : List Addr), PI (X.blk s H scope (compEnvC scope cl' C X.env) fp) tg1 iter1 (denI X.K cl W0 it1))
    (hg1 : ∀ (s : Shared) (H : Hp) (C : Addr) (cl : List (Str × Addr)) (fp : List Addr), PG (X.blk s H scope (compEnvC scope cl C X.env) fp) tg1 (denG X.K is1 b1))
    (ht1 : ∀ (s : Shared) (H : Hp) (C : Addr) (cl' : List (Str × Addr)) (fp : List Addr), PTs (X.blk s H scope (compEnvC scope cl' C X.env) fp) ifs1 (denT X.K cl W0 t1))
    (he : ∀ (s : Shared) (H : Hp) (C : Addr) (cl' : List (Str × Addr)) (fp : List Addr), PE (X.blk s H scope (compEnvC scope cl' C X.env) fp) elt (denE X.K cl W0 e))
    (hy : X.N[i]? = some y) (hyl : X.env.scope.names.lookup y = some .local) (hsw : swapsWith (.ListComp elt [⟨tg, iter, ifs, 0⟩, ⟨tg1, iter1, ifs1, 0⟩] scope pos) (some (.Name y py)) spos.line X.env = pure true) (hs : ∀ x, foldedSetIterable iter X.env x = pure x := by intro _; rfl) (hs1 : ∀ env x, foldedSetIterable iter1 env x = pure x := by intro _ _; rfl) :
    PS X (.Assign [.Name y py] (.ListComp elt [⟨tg, iter, ifs, 0⟩, ⟨tg1, iter1, ifs1, 0⟩] scope pos) spos) (denS X.K cl W (setM i (lc2M it b (own.map (·.2)) t it1 b1 vs1 t1 e))) :=
  PS.imp (ps_setLc2 hc hN hy hyl hsw hi ok (sub_of hv) hg ht hi1 hg1 ht1 he hs hs1) fun Dn σ H q => by
    have q2 : denE X.K cl W (lc2M it b (own.map (·.2)) t it1 b1 vs1 t1 e) σ H fun x H1 => gName i x σ H1 Dn.nx := denS_bind q fun B F as s v st1 H1 r1 o1 q u hu => q _ F as H1 Grow.refl r1 (o1.set hu)
    exact lc2M_den (sub_of hsub) (sub_of hsub1) q2
end
/-! a comprehension within a comprehension -/
theorem look_relabel {env : Env} {x : Str} : ∀ {names : List (Str × NameKind)}, (names.lookup x = some .cell ∨ names.lookup x = some .free) →
    (names.map fun (n, k) => if (k == NameKind.free && env.scope.kind == .function && env.kindOf n == some .cell) then (n, NameKind.cell) else (n, k)).lookup x = some .cell ∨
    (names.map fun (n, k) => if (k == NameKind.free && env.scope.kind == .function && env.kindOf n == some .cell) then (n, NameKind.cell) else (n, k)).lookup x = some .free
  | [], h => by simp at h
  | (n, k) :: r, h => by
    rw [List.map_cons]
    by_cases e : x = n
    · subst e
      have h2 : k = .cell ∨ k = .free := by simpa [List.lookup_cons] using h
      dsimp only
      split
      · left; simp [List.lookup_cons]
      · rcases h2 with rfl | rfl
        · left; simp [List.lookup_cons]
        · right; simp [List.lookup_cons]
    · have hb : (x == n) = false := by simpa using e
      rw [List.lookup_cons, hb] at h
      have ih := look_relabel (env := env) h
      dsimp only
      split
      · rw [List.lookup_cons, hb]; exact ih
      · rw [List.lookup_cons, hb]; exact ih
theorem blk_relabel {N : List Str} {scope0 scope : Scope} {own : List (Str × Nat)} {env : Env} (h : BlkOk N scope0 scope own) : BlkOk N (relabel scope0 env) scope own :=
  ⟨h.kind, h.uniq, h.ix, fun y hy e => look_relabel (h.free y hy e), h.own⟩
section
variable {X : Cx} {cl : Nat → Value} {W : WX} {elt tg iter tg1 iter1 : Expr} {ifs ifs1 : List Expr} {scope scope0 : Scope} {own : List (Str × Nat)} {pos : Pos} {it it1 : IM} {b b1 : BM} {is is1 : List Nat} {t t1 : TM} {e : EM} {s0 : Shared} {H0 : Hp} {C0 : Addr} {cl0 : List (Str × Addr)} {fp0 : List Addr}
theorem qe_lcB (own : List (Str × Nat)) (hc : (X.blk s0 H0 scope0 (compEnvC scope0 cl0 C0 X.env) fp0).calm = true) (hN : X.N.Nodup) (hsub : is.all (fun i => (own.map (·.2)).contains i) = true) (hi : PI (X.blk s0 H0 scope0 (compEnvC scope0 cl0 C0 X.env) fp0) tg iter (denI X.K cl W it)) (ok : BlkOk X.N scope0 scope own)
    (hg : ∀ (s : Shared) (H : Hp) (C : Addr) (cl : List (Str × Addr)) (fp : List Addr), PG ((X.blk s0 H0 scope0 (compEnvC scope0 cl0 C0 X.env) fp0).blk s H scope (compEnvC scope cl C (compEnvC scope0 cl0 C0 X.env)) fp) tg (denG X.K is b))
    (ht : ∀ (s : Shared) (H : Hp) (C : Addr) (cl' : List (Str × Addr)) (fp : List Addr), PTs ((X.blk s0 H0 scope0 (compEnvC scope0 cl0 C0 X.env) fp0).blk s H scope (compEnvC scope cl' C (compEnvC scope0 cl0 C0 X.env)) fp) ifs (denT X.K cl W0 t))
    (he : ∀ (s : Shared) (H : Hp) (C : Addr) (cl' : List (Str × Addr)) (fp : List Addr), PE ((X.blk s0 H0 scope0 (compEnvC scope0 cl0 C0 X.env) fp0).blk s H scope (compEnvC scope cl' C (compEnvC scope0 cl0 C0 X.env)) fp) elt (denE X.K cl W0 e)) (hs : ∀ x, foldedSetIterable iter (compEnvC scope0 cl0 C0 X.env) x = pure x := by intro _; rfl) :
    PE (X.blk s0 H0 scope0 (compEnvC scope0 cl0 C0 X.env) fp0) (.ListComp elt [⟨tg, iter, ifs, 0⟩] scope pos) (denE X.K cl W (lcM it b (own.map (·.2)) t e)) :=
  qe_lc (X := X.blk s0 H0 scope0 (compEnvC scope0 cl0 C0 X.env) fp0) own hc hN hsub hi (blk_relabel ok) hg ht he hs
theorem qe_lc2B (own : List (Str × Nat)) (vs1 : List Nat) (hc : (X.blk s0 H0 scope0 (compEnvC scope0 cl0 C0 X.env) fp0).calm = true) (hN : X.N.Nodup) (hsub : is.all (fun i => (own.map (·.2)).contains i) = true) (hsub1 : is1.all (fun i => vs1.contains i) = true) (hv : vs1.all (fun i => (own.map (·.2)).contains i) = true) (hi : PI (X.blk s0 H0 scope0 (compEnvC scope0 cl0 C0 X.env) fp0) tg iter (denI X.K cl W it)) (ok : BlkOk X.N scope0 scope own)
    (hg : ∀ (s : Shared) (H : Hp) (C : Addr) (cl : List (Str × Addr)) (fp : List Addr), PG ((X.blk s0 H0 scope0 (compEnvC scope0 cl0 C0 X.env) fp0).blk s H scope (compEnvC scope cl C (compEnvC scope0 cl0 C0 X.env)) fp) tg (denG X.K is b))
    (ht : ∀ (s : Shared) (H : Hp) (C : Addr) (cl' : List (Str × Addr)) (fp : List Addr), PTs ((X.blk s0 H0 scope0 (compEnvC scope0 cl0 C0 X.env) fp0).blk s H scope (compEnvC scope cl' C (compEnvC scope0 cl0 C0 X.env)) fp) ifs (denT X.K cl W0 t))
    (hi1 : ∀ (s : Shared) (H : Hp) (C : Addr) (cl' : List (Str × Addr)) (fp : List Addr), PI ((X.blk s0 H0 scope0 (compEnvC scope0 cl0 C0 X.env) fp0).blk s H scope (compEnvC scope cl' C (compEnvC scope0 cl0 C0 X.env)) fp) tg1 iter1 (denI X.K cl W0 it1))
    (hg1 : ∀ (s : Shared) (H : Hp) (C : Addr) (cl : List (Str × Addr)) (fp : List Addr), PG ((X.blk s0 H0 scope0 (compEnvC scope0 cl0 C0 X.env) fp0).blk s H scope (compEnvC scope cl C (compEnvC scope0 cl0 C0 X.env)) fp) tg1 (denG X.K is1 b1))
    (ht1 : ∀ (s : Shared) (H : Hp) (C : Addr) (cl' : List (Str × Addr)) (fp : List Addr), PTs ((X.blk s0 H0 scope0 (compEnvC scope0 cl0 C0 X.env) fp0).blk s H scope (compEnvC scope cl' C (compEnvC scope0 cl0 C0 X.env)) fp) ifs1 (denT X.K cl W0 t1))
    (he : ∀ (s : Shared) (H : Hp) (C : Addr) (cl' : List (Str × Addr)) (fp : List Addr), PE ((X.blk s0 H0 scope0 (compEnvC scope0 cl0 C0 X.env) fp0).blk s H scope (compEnvC scope cl' C (compEnvC scope0 cl0 C0 X.env)) fp) elt (denE X.K cl W0 e)) (hs : ∀ x, foldedSetIterable iter (compEnvC scope0 cl0 C0 X.env) x = pure x := by intro _; rfl) (hs1 : ∀ env x, foldedSetIterable iter1 env x = pure x := by intro _ _; rfl) :
    PE (X.blk s0 H0 scope0 (compEnvC scope0 cl0 C0 X.env) fp0) (.ListComp elt [⟨tg, iter, ifs, 0⟩, ⟨tg1, iter1, ifs1, 0⟩] scope pos) (denE X.K cl W (lc2M it b (own.map (·.2)) t it1 b1 vs1 t1 e)) :=
  qe_lc2 (X := X.blk s0 H0 scope0 (compEnvC scope0 cl0 C0 X.env) fp0) own vs1 hc hN hsub hsub1 hv hi (blk_relabel ok) hg ht hi1 hg1 ht1 he hs hs1
end
end Pd

set_option Elab.async false
set_option linter.all false
set_option maxRecDepth 100000
set_option maxHeartbeats 4000000
/-! PdD: sum of a list of lists. -/
namespace Pd
open PySem PySem.Spec PyProof.Rows L2 RZ RT
section
variable {prog : Program} {w : World} {A : Around} {R : Result → Shared → Prop} {I : Addr} {fp wr : List Addr} {n : Nat} {P : Nat → Value → Prop} {St : Nat → Heap → Prop}
theorem sumL_loop (W : Walks prog w A.in1 I fp wr n P St) (L : Nat → List Value) (S : Addr) (hfp : ∀ b ∈ fp, b < S) :
    ∀ (k i : Nat) (s : Shared) (T cT : Nat) (acc : List Value) (c : Nat), n - i = k → i ≤ n → St i s.heap → IsL s.heap S #[.ref T] c → IsL s.heap T acc.toArray cT → T ≠ S → T ∉ wr →
    (∀ j v, i ≤ j → j < n → P j v → ∃ a m, v = .ref a ∧ a ∉ wr ∧ a ≠ S ∧ IsL s.heap a (L j).toArray m) → (i = 0 ∨ S < T) →
    acc.length + ((List.range' i k).flatMap L).length ≤ sizeLine →
    (∀ h' tk T' c', (∀ b o, b ∉ wr → b ≠ S → s.heap.get? b = some o → h'.get? b = some o) → IsL h' T' (acc ++ (List.range' i k).flatMap L).toArray c' → (n = 0 ∨ S < T') → R (.ok (.ret (.ref T'))) { s with heap := h', toks := tk }) →
    codeAny (model prog w) A (.builtin "sum.loop" ⟨[.ref I, .ref S, rawInt 2, rawInt 0], []⟩) R s := by
  have hSf : S ∉ fp := fun h => Nat.lt_irrefl _ (hfp _ h)
  have hSw : S ∉ wr := fun h => hSf (W.sub _ h)
  intro k
  induction k with
  | zero =>
    intro i s T cT acc c hk hi hst hS hT hTS hTw hL hi0 hlen hR
    have hin : i = n := by omega
    subst hin
    refine codeAny_builtin PySem.F.entry_sum_loop ?_
    rw [Around.under_plainId PySem.F.plain_sum_loop _]
    show wpAny _ A.in1 (seqItems? (.ref S) >>= _) _ _ s
    refine wpAny_bind (wpAny_seqItems hS rfl ?_)
    show wpAny _ A.in1 (tryCatch (pyNext (.ref I)) _ >>= _) _ _ s
    refine wpAny_bind (wpAny_tryCatch (W.done s _ _ hst fun h' tk hk' => ?_))
    exact wpAny_pure (hR h' tk T cT (fun b o hbw _ e => hk' b o hbw e) (by simpa using hk' T _ hTw hT) (by omega))
  | succ k ih =>
    intro i s T cT acc c hk hi hst hS hT hTS hTw hL hi0 hlen hR
    have hlt : i < n := by omega
    rw [List.range'_succ, List.flatMap_cons] at hlen hR
    refine codeAny_builtin PySem.F.entry_sum_loop ?_
    rw [Around.under_plainId PySem.F.plain_sum_loop _]
    show wpAny _ A.in1 (seqItems? (.ref S) >>= _) _ _ s
    refine wpAny_bind (wpAny_seqItems hS rfl ?_)
    show wpAny _ A.in1 (tryCatch (pyNext (.ref I)) _ >>= _) _ _ s
    refine wpAny_bind (wpAny_tryCatch (W.item i s _ _ hlt hst fun v h' tk hP hst' hk' => ?_))
    obtain ⟨a, m, rfl, haw, haS, hal⟩ := hL i v (Nat.le_refl _) hlt hP
    have hS' : IsL h' S #[.ref T] c := hk' S _ hSw hS
    have hT' : IsL h' T acc.toArray cT := hk' T _ hTw hT
    have ha' : IsL h' a (L i).toArray m := hk' a _ haw hal
    have hsz : acc.toArray.size + (L i).toArray.size ≤ sizeLine := by
      rw [List.length_append] at hlen
      simp only [List.size_toArray]
      omega
    have hSlt : S < h'.objs.size := Heap.lt_size hS'
    have hTlt : T < h'.objs.size := Heap.lt_size hT'
    show wpAny _ A.in1 ((holding [Value.ref a] (binaryOp .Add (.ref T) (.ref a))).attempt >>= _) _ _ _
    refine wpAny_bind (wpAny_attempt (wpAny_holding (PySem.P.add_list (s := { s with heap := h', toks := tk }) hT' ha' ?_ hsz)))
    let h2 : Heap := h'.push { cls := .type "list", data := .seq (acc.toArray ++ (L i).toArray) }
    have hS2 : h2.get? S = some { cls := .type "list", dict := none, data := .seq #[.ref T] c, slots := #[] } := Heap.get?_push_of_some _ hS'
    show wpAny _ A.in1 (updateSeq S (fun _ => #[.ref h'.objs.size]) >>= _) _ _ { s with heap := h2, toks := tk }
    refine wpAny_bind ?_
    refine wpAny_updateSeq hS2 rfl ?_
    have hS3 := Heap.get?_update_self (Obj.mapSeq fun _ => #[Value.ref h'.objs.size]) hS2 rfl
    refine wpAny_bind (wpAny_letGo ?_)
    refine wpAny_bind ?_
    have oth : ∀ b o, b ≠ S → h'.get? b = some o → ((h2.update S (Obj.mapSeq fun _ => #[Value.ref h'.objs.size])).update S (Obj.mapSeq fun _ => #[Value.ref h'.objs.size])).get? b = some o := fun b o hb e =>
      (Heap.get?_update_other _ _ (Ne.symm hb)).trans ((Heap.get?_update_other _ _ (Ne.symm hb)).trans (Heap.get?_push_of_some _ e))
    have hne : h'.objs.size ≠ S := Nat.ne_of_gt hSlt
    have hnew : ((h2.update S (Obj.mapSeq fun _ => #[Value.ref h'.objs.size])).update S (Obj.mapSeq fun _ => #[Value.ref h'.objs.size])).get? h'.objs.size = some { cls := .type "list", data := .seq (acc.toArray ++ (L i).toArray) } :=
      (Heap.get?_update_other _ _ (Ne.symm hne)).trans ((Heap.get?_update_other _ _ (Ne.symm hne)).trans (Heap.get?_push_size _ rfl))
    have ea : acc.toArray ++ (L i).toArray = (acc ++ L i).toArray := by simp
    rw [ea] at hnew
    refine wpAny_updateSeq hS3 rfl (wpAny_pure ⟨plainId_quiet PySem.F.plain_sum_loop _, ih (i + 1) _ h'.objs.size _ (acc ++ L i) _ (by omega) hlt (W.frame _ _ _ hst' fun b hb o e => oth b o (fun z => hSf (z ▸ hb)) e) (Heap.get?_update_self _ hS3 rfl) hnew hne (fun z => Nat.lt_irrefl _ (Nat.lt_trans (hfp _ (W.sub _ z)) hSlt)) (fun j v hj1 hj2 hPj => ?_) (.inr hSlt) ?_ fun h'' tk'' T' c'' hk'' hT'' hfr => ?_⟩)
    · obtain ⟨b, m', rfl, hb1, hb2, hb3⟩ := hL j v (by omega) hj2 hPj
      exact ⟨b, m', rfl, hb1, hb2, oth b _ hb2 (hk' b _ hb1 hb3)⟩
    · rw [List.length_append] at hlen ⊢
      omega
    · refine hR h'' tk'' T' c'' (fun b o hbw hbS e => hk'' b o hbw hbS (oth b o hbS (hk' b o hbw e))) ?_ hfr
      rw [List.append_assoc] at hT''
      exact hT''
end
section
variable {prog : Program} {w : World} {A : Around} {E : Value → Shared → Prop} {s : Shared}
theorem args_sum2 (a b : Value) : argsOk "sum" ⟨[a, b], []⟩ := by unfold argsOk; kernel_rfl
theorem call_sum_lists {l b : Addr} {items acc : List Value} {nl nb : Nat} {L : Nat → List Value} {Q : Value → Shared → Prop} (hh : A.handled = none) (hl : IsL s.heap l items.toArray nl) (hb : IsL s.heap b acc.toArray nb) (hne : items ≠ [])
    (hL : ∀ (j : Nat) (v : Value), items[j]? = some v → ∃ a m, v = .ref a ∧ IsL s.heap a (L j).toArray m) (hsz : acc.length + ((List.range' 0 items.length).flatMap L).length ≤ sizeLine)
    (h : ∀ h' tk T' c', (∀ b o, s.heap.get? b = some o → h'.get? b = some o) → IsL h' T' (acc ++ (List.range' 0 items.length).flatMap L).toArray c' → s.heap.objs.size ≤ T' → Q (.ref T') { s with heap := h', toks := tk }) :
    wpAny (model prog w) A (call (.builtin "sum") [.ref l, .ref b]) Q E s := by
  refine call_function_tree PySem.F.kind_sum PySem.F.plain_sum PySem.F.entry_sum (args_sum2 _ _) ?_
  unfold Builtin.«sum»
  simp only [List.length_cons, List.length_nil]
  rw [if_neg (by decide)]
  refine wpAny_bind (wpAny_of_eq (show Builtin.Builtins.bindParams "sum" ["start"] 0 ⟨[.ref b], []⟩ = pure [some (.ref b)] from rfl) ?_)
  have hli : s.heap.IsList l items.toArray := ⟨_, hl, rfl, _, rfl⟩
  have hlt : l < s.heap.objs.size := Heap.lt_size hl
  have hbt : b < s.heap.objs.size := Heap.lt_size hb
  refine wpAny_bind (wpAny_pyIter_list hli ?_)
  let h1 : Heap := s.heap.push { cls := .type "list_iterator", data := .fields #[.ref l, .int 0 0] }
  have hb1 : IsL h1 b acc.toArray nb := Heap.get?_push_of_some _ hb
  have tb : ({ s with heap := h1 } : Shared).TypeIs (.ref b) "list" := Heap.IsList.typeIs (s := { s with heap := h1 }) ⟨_, hb1, rfl, _, rfl⟩
  refine wpAny_bind (wpAny_pure ?_)
  simp only [List.forIn_cons, List.forIn_nil]
  refine wpAny_bind (wpAny_bind (wpAny_bind (wpAny_isInstance (b := false) tb (by rw [isSubtype_type]; kernel_rfl) ?_)))
  simp only [Bool.false_eq_true, if_false]
  refine wpAny_pure (wpAny_bind (wpAny_bind (wpAny_isInstance (b := false) tb (by rw [isSubtype_type]; kernel_rfl) ?_)))
  simp only [Bool.false_eq_true, if_false]
  refine wpAny_pure (wpAny_bind (wpAny_bind (wpAny_isInstance (b := false) tb (by rw [isSubtype_type]; kernel_rfl) ?_)))
  simp only [Bool.false_eq_true, if_false]
  refine wpAny_pure (wpAny_pure ?_)
  refine wpAny_bind (wpAny_newObj_type ?_)
  have hs1 : h1.objs.size = s.heap.objs.size + 1 := Heap.size_push ..
  have W := Walks.list (prog := prog) (w := w) (A := A.in1) hh s.heap.objs.size l (Nat.ne_of_lt hlt) items.toArray
  have hfp : ∀ b ∈ [s.heap.objs.size, l], b < h1.objs.size := fun b hb => by
    rw [hs1]
    rcases List.mem_cons.mp hb with e | hb
    · rw [e]
      exact Nat.lt_succ_self _
    · have e : b = l := by simpa using hb
      rw [e]
      exact Nat.lt_succ_of_lt hlt
  have hn0 : 0 < items.length := List.length_pos_iff.mpr hne
  have oth : ∀ x o, s.heap.get? x = some o → (h1.push { cls := .type "list", data := .seq #[.ref b] }).get? x = some o := fun x o e => Heap.get?_push_of_some _ (Heap.get?_push_of_some _ e)
  have hbS : b ≠ h1.objs.size := by rw [hs1]; exact Nat.ne_of_lt (Nat.lt_succ_of_lt hbt)
  refine wpAny_pure ⟨plainId_quiet PySem.F.plain_sum_loop _, sumL_loop (s := { s with heap := h1.push { cls := .type "list", data := .seq #[.ref b] } }) W L h1.objs.size hfp items.length 0 b nb acc _ (by simp) (Nat.zero_le _)
    (W.frame _ _ _ (⟨⟨_, Heap.get?_push_size _ rfl, rfl, rfl⟩, hli.push _⟩ : h1.IsListIter s.heap.objs.size l 0 ∧ h1.IsList l items.toArray) fun x _ o e => Heap.get?_push_of_some _ e) (Heap.get?_push_size _ rfl) (oth _ _ hb) hbS (fun z => ?_) (fun j v _ _ hP => ?_) (.inl rfl) hsz fun h' tk T' c' hk hT' hfr => ?_⟩
  · have e : b = s.heap.objs.size := by simpa using z
    exact Nat.ne_of_lt hbt e
  · obtain ⟨a, m, rfl, ha⟩ := hL j v (by simpa using hP)
    have hat : a < s.heap.objs.size := Heap.lt_size ha
    exact ⟨a, m, rfl, fun z => by
      have e : a = s.heap.objs.size := by simpa using z
      exact Nat.ne_of_lt hat e, by rw [hs1]; exact Nat.ne_of_lt (Nat.lt_succ_of_lt hat), oth _ _ ha⟩
  · refine h h' tk T' c' (fun x o e => hk x o (fun z => ?_) (fun z => ?_) (oth x o e)) hT' ?_
    · have e2 : x = s.heap.objs.size := by simpa using z
      exact Nat.ne_of_lt (Heap.lt_size e) e2
    · rw [hs1] at z
      exact Nat.ne_of_lt (Nat.lt_succ_of_lt (Heap.lt_size e)) z
    · rcases hfr with z | z
      · simp at z; exact absurd z hne
      · rw [hs1] at z
        exact Nat.le_of_lt (Nat.lt_trans (Nat.lt_succ_self _) z)
end
/-! three names at once -/
def parM3 (i j l : Nat) (m : AM) : SM := fun s st => bindS (m s st) s fun vs st1 => match vs with
  | [u, v, w] => .nx (((s.set i (some u)).set j (some v)).set l (some w)) st1
  | _ => .no
section
variable {X : Cx} {cl : Nat → Value} {W : WX} {a b c : Expr} {m : AM} {pos : Pos}
theorem qs_par3 (i j l : Nat) {x y z : Str} {px py pz pt : Pos} {kt k2 : Nat} {pt2 : Pos} (hc : X.calm = true) (hN : X.N.Nodup) (ha : PA X [a, b, c] (denA X.K cl W m)) (hi : X.N[i]? = some x) (hj : X.N[j]? = some y) (hl : X.N[l]? = some z) (hij : i ≠ j) (hil : i ≠ l) (hjl : j ≠ l)
    (hx : X.env.scope.names.lookup x = some .local) (hy : X.env.scope.names.lookup y = some .local) (hz : X.env.scope.names.lookup z = some .local)
    (hw : swappedStores [.Tuple [.Name x px, .Name y py, .Name z pz] kt pt] (.Tuple [a, b, c] k2 pt2) X.env = pure (some [x, y, z]))
    (hs : swapsWithSole [.Tuple [.Name x px, .Name y py, .Name z pz] kt pt] (.Tuple [a, b, c] k2 pt2) pos.line X.env = pure false := by rfl) :
    PS X (.Assign [.Tuple [.Name x px, .Name y py, .Name z pz] kt pt] (.Tuple [a, b, c] k2 pt2) pos) (denS X.K cl W (parM3 i j l m)) := PS.imp (ps_par3 hc hN hi hj hl hij hil hjl hx hy hz ha hw hs) fun Dn σ H q =>
  denS_bind q fun B F as s vs st1 H1 r1 o1 q us hus => by
    split at q
    · cases hus with
      | cons h1 h2 =>
        cases h2 with
        | cons h2 h3 =>
          cases h3 with
          | cons h3 h4 =>
            cases h4
            exact ⟨_, _, _, rfl, q _ F as H1 Grow.refl r1 (((o1.set h1).set h2).set h3)⟩
    · exact q.elim
end
theorem units65 {k : Nat} {A : Around} (r : Room k A) : A.units + 65 < cLine := by have := r.un; omega
/-! ### sum(lists, start) -/
def rSumL : List V → Hp → VK → Prop := fun vs H Q => ∃ a b xs zs Ls, vs = [V.ref a, V.ref b] ∧ H a = some (.lst xs) ∧ H b = some (.lst zs) ∧ xs ≠ [] ∧ Paired (fun (v : V) (l : List V) => ∃ c, v = .ref c ∧ H c = some (.lst l)) xs Ls ∧
  zs.length + Ls.flatten.length ≤ sizeLine ∧ ∀ p, H p = none → Q (.ref p) (upd H p (.lst (zs ++ Ls.flatten)))
section
variable {X : Cx}
theorem lists_at {pins : List (Addr × Obj)} {s : Shared} {σ : L2.St} {H : Hp} (I : Inv X pins σ H s) : ∀ {xs : List V} {Ls : List (List V)} {us : List Value}, Paired (fun (v : V) (l : List V) => ∃ c, v = .ref c ∧ H c = some (.lst l)) xs Ls → Vals xs us →
    ∃ LV : List (List Value), LV.length = us.length ∧ Vals Ls.flatten LV.flatten ∧ ∀ (j : Nat) (v : Value), us[j]? = some v → ∃ a m, v = .ref a ∧ IsL s.heap a (LV.getD j []).toArray m
  | _, _, _, .nil, .nil => ⟨[], rfl, .nil, fun j v e => by simp at e⟩
  | _, _, _, .cons h1 h2, .cons r1 r2 => by
    obtain ⟨LV, e1, e2, e3⟩ := lists_at I h2 r2
    obtain ⟨c, rfl, hc⟩ := h1
    cases r1
    obtain ⟨z, its, n, r, hl, e⟩ := I.lstM hc
    refine ⟨its :: LV, by simp [e1], by rw [List.flatten_cons, List.flatten_cons]; exact r.append e2, fun j v ej => ?_⟩
    cases j with
    | zero =>
      cases ej
      exact ⟨c, n, rfl, e⟩
    | succ j =>
      obtain ⟨a, m, rfl, h⟩ := e3 j v (by simpa using ej)
      exact ⟨a, m, rfl, h⟩
theorem flat_getD : ∀ (LV : List (List Value)) (pre : List (List Value)), (List.range' pre.length LV.length).flatMap (fun j => (pre ++ LV).getD j []) = LV.flatten
  | [], _ => rfl
  | l :: LV, pre => by
    rw [List.length_cons, List.range'_succ, List.flatMap_cons, List.flatten_cons]
    have := flat_getD LV (pre ++ [l])
    rw [List.length_append, List.length_singleton, List.append_assoc] at this
    rw [show ([l] ++ LV) = l :: LV from rfl] at this
    rw [this]
    congr 1
    rw [List.getD_eq_getElem?_getD, List.getElem?_append_right (Nat.le_refl _), Nat.sub_self]
    rfl
theorem cr_sumL (hc : X.calm = true) : CallR X (.builtin "sum") rSumL := by
  intro pins s σ H vs us Q I r h
  obtain ⟨a, b, xs, zs, Ls, rfl, ha, hb, hne, hp, hsz, q⟩ := h
  obtain ⟨u1, u2, rfl, ri, rj⟩ := vals2 r
  cases ri
  cases rj
  obtain ⟨z, its, n, rv, hl, e⟩ := I.lstM ha
  obtain ⟨z2, its2, n2, rv2, hl2, e2⟩ := I.lstM hb
  obtain ⟨LV, k1, k2, k3⟩ := lists_at I hp rv
  have hfl : (List.range' 0 its.length).flatMap (fun j => LV.getD j []) = LV.flatten := by
    rw [← k1]
    exact flat_getD LV []
  have hne2 : its ≠ [] := fun w => hne (by
    have := rv.length
    rw [w] at this
    exact List.eq_nil_of_length_eq_zero this)
  refine call_sum_lists (L := fun j => LV.getD j []) (I.ok.hd hc) e e2 hne2 k3 ?_ fun h' tk T' c' hk hT' hfr => ?_
  · rw [hfl, ← k2.length, ← hl2]
    exact hsz
  · rw [hfl] at hT'
    exact ⟨.ref T', upd H T' (.lst (zs ++ Ls.flatten)), I.laid (t' := tk) hk hfr (show ObjOk X.prog X.w _ h' _ (.lst _) from ⟨by rw [List.length_append]; exact hsz, _, c', rv2.append k2, hT'⟩), rfl, q _ (I.hok.fresh hfr)⟩
end
def unLists : List D → Option (List (List D))
  | [] => some []
  | .list l :: r => (unLists r).map (l :: ·)
  | _ :: _ => none
theorem unLists_rp {K : Fr} {F H : Hp} (e : Same F H) : ∀ {vs : List V} {ds : List D} {ls : List (List D)}, RpA K F vs ds → unLists ds = some ls →
    ∃ Ls, Paired (fun (v : V) (l : List V) => ∃ c, v = .ref c ∧ H c = some (.lst l)) vs Ls ∧ RpA K F Ls.flatten ls.flatten
  | [], [], ls, .nil, h => by
    cases h
    exact ⟨[], .nil, .nil⟩
  | v :: vs, d :: ds, ls, .cons h1 h2, h => by
    cases d with
    | list l =>
      unfold unLists at h
      cases e2 : unLists ds with
      | none => rw [e2] at h; cases h
      | some ls2 =>
        rw [e2] at h
        cases h
        obtain ⟨Ls, k1, k2⟩ := unLists_rp e h2 e2
        cases h1 with
        | lst a1 a2 => exact ⟨_ :: Ls, .cons ⟨_, rfl, e _ _ a1⟩ k1, by rw [List.flatten_cons, List.flatten_cons]; exact a2.append k2⟩
    | none => cases h
    | bool _ => cases h
    | int _ => cases h
    | str _ => cases h
    | tuple _ => cases h
    | dict _ => cases h
def sumLD : List D → Option D
  | [.list xs, .list zs] => (unLists xs).bind fun ls => if xs ≠ [] ∧ zs.length + ls.flatten.length ≤ sizeLine then some (.list (zs ++ ls.flatten)) else none
  | _ => none
theorem on_sumL {K : Fr} : OpNd K rSumL sumLD := fun F H xs ds c Q e hp eh q => by
  unfold sumLD at eh
  split at eh
  · rename_i us zs
    cases eu : unLists us with
    | none => rw [eu] at eh; cases eh
    | some ls =>
      rw [eu, Option.bind_some] at eh
      split at eh
      · rename_i hh
        cases eh
        obtain ⟨v, w, rfl, h1, h2⟩ := p2 hp
        obtain ⟨a, vs, rfl, a1, a2⟩ := h1.list e
        obtain ⟨b, ws, rfl, b1, b2⟩ := h2.list e
        obtain ⟨Ls, k1, k2⟩ := unLists_rp e a2 eu
        refine ⟨a, b, vs, ws, Ls, rfl, a1, b1, fun z => hh.1 ?_, k1, by rw [b2.len, k2.len]; exact hh.2, fun p hp => ?_⟩
        · subst z
          cases a2
          rfl
        · have x := Ext.new (o := .lst (ws ++ Ls.flatten)) e hp
          exact q _ _ _ x (.lst upd_same ((b2.append k2).mono x.f))
      · cases eh
  · cases eh
end Pd

set_option Elab.async false
set_option linter.all false
set_option maxRecDepth 100000
set_option maxHeartbeats 4000000
/-! Ev: how denotations are run by simp. -/
namespace Pd
open PySem L2
def seqO (o : Out) (w : Slots → Store → Out) : Out := match o with
  | .nx s st => w s st
  | o => o
@[simp] theorem seqO_nx (s : Slots) (st : Store) (w : Slots → Store → Out) : seqO (.nx s st) w = w s st := nr rfl
@[simp] theorem seqO_rt (v : Vl) (st : Store) (w : Slots → Store → Out) : seqO (.rt v st) w = .rt v st := nr rfl
@[simp] theorem seqO_exc (c : Nat) (p : Option (Str × D)) (s : Slots) (st : Store) (w : Slots → Store → Out) : seqO (.exc c p s st) w = .exc c p s st := nr rfl
@[simp] theorem seqO_bk (s : Slots) (st : Store) (w : Slots → Store → Out) : seqO (.bk s st) w = .bk s st := nr rfl
@[simp] theorem seqO_ct (s : Slots) (st : Store) (w : Slots → Store → Out) : seqO (.ct s st) w = .ct s st := nr rfl
@[simp] theorem seqO_no (w : Slots → Store → Out) : seqO .no w = .no := nr rfl
def optO (o : Option Slots) (k : Slots → Out) : Out := match o with
  | some s => k s
  | none => .no
@[simp] theorem optO_some (s : Slots) (k : Slots → Out) : optO (some s) k = k s := nr rfl
def loopO (o : Out) (k : Slots → Store → Out) : Out := match o with
  | .nx s st => k s st
  | .ct s st => k s st
  | .bk s st => .nx s st
  | o => o
@[simp] theorem loopO_nx (s : Slots) (st : Store) (k : Slots → Store → Out) : loopO (.nx s st) k = k s st := nr rfl
@[simp] theorem loopO_ct (s : Slots) (st : Store) (k : Slots → Store → Out) : loopO (.ct s st) k = k s st := nr rfl
@[simp] theorem loopO_bk (s : Slots) (st : Store) (k : Slots → Store → Out) : loopO (.bk s st) k = .nx s st := nr rfl
@[simp] theorem loopO_rt (v : Vl) (st : Store) (k : Slots → Store → Out) : loopO (.rt v st) k = .rt v st := nr rfl
@[simp] theorem loopO_exc (c : Nat) (p : Option (Str × D)) (s : Slots) (st : Store) (k : Slots → Store → Out) : loopO (.exc c p s st) k = .exc c p s st := nr rfl
def cnd {α : Type} (k : Bool) (a b : α) : α := if k = true then a else b
@[simp] theorem cnd_true {α : Type} (a b : α) : cnd true a b = a := nr rfl
@[simp] theorem cnd_false {α : Type} (a b : α) : cnd false a b = b := nr rfl
def andO (a : Vl) (r : Res Vl) (st : Store) : Res Vl := match a with
  | .dat (.bool b) => cnd b r (.ok (.dat (.bool false)) st)
  | _ => .no
@[simp] theorem andO_bool (b : Bool) (r : Res Vl) (st : Store) : andO (.dat (.bool b)) r st = cnd b r (.ok (.dat (.bool false)) st) := nr rfl
def orO (a : Vl) (r : Res Vl) (st : Store) : Res Vl := match a with
  | .dat (.bool b) => cnd b (.ok (.dat (.bool true)) st) r
  | _ => .no
@[simp] theorem orO_bool (b : Bool) (r : Res Vl) (st : Store) : orO (.dat (.bool b)) r st = cnd b (.ok (.dat (.bool true)) st) r := nr rfl
def parO (i j : Nat) (vs : List Vl) (s : Slots) (st : Store) : Out := match vs with
  | [v, w] => .nx ((s.set i (some v)).set j (some w)) st
  | _ => .no
@[simp] theorem parO_two (i j : Nat) (v w : Vl) (s : Slots) (st : Store) : parO i j [v, w] s st = .nx ((s.set i (some v)).set j (some w)) st := nr rfl
section
variable {s : Slots} {st st1 : Store} {f g : EM} {m : AM} {c d : TM}
def ofO : Option D → Store → Res Vl
  | some x, st => .ok (.dat x) st
  | none, _ => .no
@[simp] theorem ofO_some (x : D) (st : Store) : ofO (some x) st = .ok (.dat x) st := rfl
@[simp] theorem ofO_none (st : Store) : ofO none st = .no := rfl
def ap2 (h : D → D → Option D) (a b : Vl) (st : Store) : Res Vl := match peek a st, peek b st with
  | some x, some y => ofO (h x y) st
  | _, _ => .no
@[simp] theorem ap2_dat (h : D → D → Option D) (x y : D) (st : Store) : ap2 h (.dat x) (.dat y) st = ofO (h x y) st := rfl
@[simp] theorem ev_op2 (h : D → D → Option D) : op2 h f g s st = (f s st).bind fun a st1 => (g s st1).bind fun b st2 => ap2 h a b st2 := by
  unfold op2 ap2
  congr 1
  funext a st1
  congr 1
  funext b st2
  cases peek a st2 with
  | none => rfl
  | some x => cases peek b st2 with
    | none => rfl
    | some y => cases e : h x y <;> simp [e]
def apN (h : List D → Option D) (vs : List Vl) (st : Store) : Res Vl := match peeks vs st with
  | some ds => ofO (h ds) st
  | none => .no
@[simp] theorem ev_opN (h : List D → Option D) : opN h m s st = (m s st).bind fun vs st1 => apN h vs st1 := by
  unfold opN apN
  congr 1
  funext a st1
  cases peeks a st1 with
  | none => rfl
  | some x => cases e : h x <;> simp [e]
@[simp] theorem apN1 (h : List D → Option D) (x : D) (st : Store) : apN h [.dat x] st = ofO (h [x]) st := rfl
@[simp] theorem apN2 (h : List D → Option D) (x y : D) (st : Store) : apN h [.dat x, .dat y] st = ofO (h [x, y]) st := rfl
theorem apN_cel {h : List D → Option D} {k : Nat} {ds : List D} {st : Store} (e : st[k]? = some (.lst (ds.map .dat))) : apN h [.cel k] st = ofO (h [.list ds]) st := by
  simp [apN, peeks, peek, e]
def outC (o : Option (List D)) (st : Store) : Res Vl := match o with
  | some out => .ok (.cel st.length) (st ++ [.lst (out.map .dat)])
  | none => .no
@[simp] theorem outC_some (out : List D) (st : Store) : outC (some out) st = .ok (.cel st.length) (st ++ [.lst (out.map .dat)]) := nr rfl
def apC (h : D → D → Option (List D)) (a b : Vl) (st : Store) : Res Vl := match peek a st, peek b st with
  | some x, some y => outC (h x y) st
  | _, _ => .no
@[simp] theorem apC_dat (h : D → D → Option (List D)) (x y : D) (st : Store) : apC h (.dat x) (.dat y) st = outC (h x y) st := nr rfl
@[simp] theorem ev_op2C (h : D → D → Option (List D)) : op2C h f g s st = (f s st).bind fun a st1 => (g s st1).bind fun b st2 => apC h a b st2 := nr rfl
@[simp] theorem ev_op1 (h : D → Option D) : op1 h f s st = (f s st).bind fun a st1 => match peek a st1 with
  | some x => ofO (h x) st1
  | none => .no := by
  unfold op1
  congr 1
  funext a st1
  cases peek a st1 with
  | none => rfl
  | some x => cases e : h x <;> simp [e]
@[simp] theorem ev_cst (d : D) : cst d s st = .ok (.dat d) st := nr rfl
@[simp] theorem ev_vr (i : Nat) : vr i s st = match s[i]? with
  | some (some v) => .ok v st
  | _ => .no := rfl
@[simp] theorem ev_aNil : aNil s st = .ok [] st := nr rfl
@[simp] theorem ev_aCons : aCons f m s st = (f s st).bind fun v st1 => (m s st1).bind fun vs st2 => .ok (v :: vs) st2 := nr rfl
@[simp] theorem toDs_nil : toDs [] st = .ok [] st := rfl
@[simp] theorem toDs_cons (v : Vl) (r : List Vl) : toDs (v :: r) st = (toD v st).bind fun d st1 => (toDs r st1).bind fun ds st2 => .ok (d :: ds) st2 := rfl
@[simp] theorem ev_tupM : tupM m s st = (m s st).bind fun vs st1 => (toDs vs st1).bind fun ds st2 => if ds.length ≤ sizeLine then .ok (.dat (.tuple ds)) st2 else .no := nr rfl
@[simp] theorem ev_lstD : lstD m s st = (m s st).bind fun vs st1 => (toDs vs st1).bind fun ds st2 => if ds.length ≤ sizeLine then .ok (.dat (.list ds)) st2 else .no := nr rfl
@[simp] theorem ev_lstC : lstC m s st = (m s st).bind fun vs st1 => if vs.length ≤ sizeLine then .ok (.cel st1.length) (st1 ++ [.lst vs]) else .no := nr rfl
@[simp] theorem ev_callM (g : List Vl → Store → Res Vl) : callM g m s st = (m s st).bind g := nr rfl
@[simp] theorem ev_ifE : ifE c f g s st = (c s st).bind fun b st1 => cnd b (f s st1) (g s st1) := nr rfl
@[simp] theorem ev_truM : truM f s st = (f s st).bind fun a st1 => match peek a st1 with
  | some x => (match truD x with
    | some b => .ok b st1
    | none => .no)
  | none => .no := nr rfl
@[simp] theorem truD_bool (b : Bool) : truD (.bool b) = some b := rfl
@[simp] theorem ev_andT : andT c d s st = (c s st).bind fun b st1 => cnd b (d s st1) (.ok false st1) := nr rfl
@[simp] theorem ev_orT : orT c d s st = (c s st).bind fun b st1 => cnd b (.ok true st1) (d s st1) := nr rfl
@[simp] theorem ev_notT : notT c s st = (c s st).bind fun b st1 => .ok (!b) st1 := nr rfl
@[simp] theorem ev_andE : andE f g s st = (f s st).bind fun a st1 => andO a (g s st1) st1 := by
  rfl
@[simp] theorem ev_orE : orE f g s st = (f s st).bind fun a st1 => orO a (g s st1) st1 := by
  rfl
@[simp] theorem ev_notE : notE f s st = (f s st).bind fun a st1 => match a with
  | .dat (.bool b) => .ok (.dat (.bool (!b))) st1
  | _ => .no := rfl
@[simp] theorem ev_setM (i : Nat) : setM i f s st = bindS (f s st) s fun v st1 => .nx (s.set i (some v)) st1 := nr rfl
@[simp] theorem ev_asgM (b : BM) : asgM b f s st = bindS (f s st) s fun v st1 => optO (b v s) fun s' => .nx s' st1 := nr rfl
@[simp] theorem ev_parM (i j : Nat) : parM i j m s st = bindS (m s st) s fun vs st1 => parO i j vs s st1 := nr rfl
variable {u w : SM}
@[simp] theorem ev_seqM : seqM u w s st = seqO (u s st) w := nr rfl
@[simp] theorem ev_skipM : skipM s st = .nx s st := nr rfl
@[simp] theorem ev_ifS : ifS c u w s st = bindS (c s st) s fun k st1 => cnd k (u s st1) (w s st1) := nr rfl
@[simp] theorem ev_retM : retM f s st = bindS (f s st) s fun v st1 => .rt v st1 := nr rfl
@[simp] theorem ev_retN : retN s st = .rt (.dat .none) st := nr rfl
@[simp] theorem ev_dropM : dropM f s st = bindS (f s st) s fun _ st1 => .nx s st1 := nr rfl
@[simp] theorem ev_brkM : brkM s st = .bk s st := nr rfl
@[simp] theorem ev_cntM : cntM s st = .ct s st := nr rfl
@[simp] theorem ev_raiseM (k : Nat) : raiseM k s st = .exc k none s st := nr rfl
@[simp] theorem loopM_nil (g : D → SM) : loopM g [] s st = .nx s st := rfl
theorem whileN_succ (c : TM) (b : SM) (n : Nat) (s : Slots) (st : Store) : whileN c b (n + 1) s st = bindS (c s st) s fun k st1 => cnd k (loopO (b s st1) fun s' st' => whileN c b n s' st') (.nx s st1) := nr rfl
theorem loopM_cons (g : D → SM) (x : D) (r : List D) : loopM g (x :: r) s st = loopO (g x s st) fun s' st' => loopM g r s' st' := nr rfl
@[simp] theorem ev_tgM (b : BM) (x : D) : tgM b u x s st = optO (b (.dat x) s) fun s' => u s' st := nr rfl
@[simp] theorem ev_forM (b : BM) (it : IM) : forM b it u s st = bindS (it s st) s fun ds st1 => loopM (tgM b u) ds s st1 := nr rfl
@[simp] theorem ev_bName (i : Nat) (v : Vl) : bName i v s = some (s.set i (some v)) := nr rfl
@[simp] theorem bAll_nil : bAll [] [] s = some s := rfl
@[simp] theorem bAll_cons (b : BM) (bs : List BM) (x : D) (xs : List D) : bAll (b :: bs) (x :: xs) s = (b (.dat x) s).bind fun s1 => bAll bs xs s1 := rfl
@[simp] theorem ev_bTup (bs : List BM) (xs : List D) : bTup bs (.dat (.tuple xs)) s = bAll bs xs s := nr rfl
@[simp] theorem ev_itM : itM f s st = (f s st).bind fun v st1 => match v with
  | .scr ns => .ok (ns.map .int) st1
  | .dat d => (match d with
    | .list ds => .ok ds st1
    | .tuple ds => .ok ds st1
    | _ => .no)
  | .cel k => (toD (.cel k) st1).bind fun d st2 => match d with
    | .list ds => .ok ds st2
    | _ => .no := rfl
theorem rng_ok {n : Nat} (h : n < 1000000) : -(2 ^ 62) ≤ (n : Int) ∧ (n : Int) < 2 ^ 62 := by
  have e : (2 : Int) ^ 62 = 4611686018427387904 := by decide
  rw [e]
  omega
theorem run_rng1 {n : Nat} (h : m s st = .ok [.dat (.int n)] st1) (hn : n < 1000000) : rng1M m s st = .ok (rngD 0 n 1) st1 := by
  unfold rng1M
  rw [h, Res.bind_ok]
  show (if _ then _ else _) = _
  rw [if_pos (rng_ok hn), Int.toNat_natCast]
theorem run_rng2 {i j : Nat} (h : m s st = .ok [.dat (.int i), .dat (.int j)] st1) (hi : i < 1000000) (hj : j < 1000000) : rng2M m s st = .ok (rngD i (j - i) 1) st1 := by
  unfold rng2M
  rw [h, Res.bind_ok]
  show (if _ then _ else _) = _
  rw [if_pos ⟨(rng_ok hi).1, (rng_ok hi).2, (rng_ok hj).1, (rng_ok hj).2⟩]
  congr 2
  omega
theorem run_rngDown {i : Nat} (h : m s st = .ok [.dat (.int ((i : Int) - 1)), .dat (.int (-1)), .dat (.int (-1))] st1) (hi : i < 1000000) : rngDownM m s st = .ok (rngD ((i : Int) - 1) i (-1)) st1 := by
  unfold rngDownM
  rw [h, Res.bind_ok]
  show (if _ then _ else _) = _
  have e : (2 : Int) ^ 62 = 4611686018427387904 := by decide
  rw [if_pos ⟨⟨by rw [e]; omega, by rw [e]; omega, by rw [e]; omega, by rw [e]; omega⟩, rfl⟩]
  congr 2
  omega
@[simp] theorem ev_zipM : zipM m s st = (m s st).bind fun vs st1 => (toDs vs st1).bind fun ds st2 => match ds with
  | [.list xs, .list ys] => .ok (zipD xs ys) st2
  | [.tuple xs, .tuple ys] => .ok (zipD xs ys) st2
  | _ => .no := rfl
@[simp] theorem ev_noO : noO s st = .ok none st := nr rfl
@[simp] theorem ev_someO : someO f s st = (f s st).bind fun v st1 => match v with
  | .dat (.int i) => .ok (some i) st1
  | _ => .no := rfl
@[simp] theorem ev_sliceM (lo hi : OM) : sliceM f lo hi s st = (f s st).bind fun v st1 => (lo s st1).bind fun l st2 => (hi s st2).bind fun h st3 => match peek v st3 with
  | some d => ofO (sliceD d l h) st3
  | none => .no := by
  unfold sliceM
  congr 1
  funext v st1
  congr 1
  funext l st2
  congr 1
  funext h st3
  cases peek v st3 with
  | none => rfl
  | some d => cases e : sliceD d l h <;> simp [e]
@[simp] theorem ev_isiM (T : String) : isiM T f s st = (f s st).bind fun a st1 => match peek a st1 with
  | some x => ofO (isiD T x) st1
  | none => .no := ev_op1 _
@[simp] theorem ev_lcM (it : IM) (b : BM) (vs : List Nat) (t : TM) (e : EM) : lcM it b vs t e s st = (it s st).bind fun ds st1 => (noX (lcGo b t e ds (wipeS s vs) st1)).bind fun out st2 => if out.length ≤ sizeLine then .ok (.dat (.list out)) st2 else .no := by
  unfold lcM lcL
  cases it s st with
  | no => rfl
  | exc c p st => rfl
  | ok ds st1 =>
    simp only [Res.bind_ok]
    cases noX (lcGo b t e ds (wipeS s vs) st1) with
    | no => rfl
    | exc c p st => rfl
    | ok out st2 =>
      simp only [Res.bind_ok]
      split <;> rfl
@[simp] theorem noX_ok {α : Type} (a : α) (st : Store) : noX (Res.ok a st) = .ok a st := rfl
@[simp] theorem lcGo_nil (b : BM) (t : TM) (e : EM) : lcGo b t e [] s st = .ok [] st := rfl
theorem lcGo_cons (b : BM) (t : TM) (e : EM) (x : D) (r : List D) : lcGo b t e (x :: r) s st = match b (.dat x) s with
    | none => .no
    | some s1 => (t s1 st).bind fun k st1 => if k = true then (e s1 st1).bind fun v st2 => (toD v st2).bind fun x st3 => (lcGo b t e r s st3).bind fun xs st4 => .ok (x :: xs) st4
      else lcGo b t e r s st1 := rfl
@[simp] theorem ev_tYesM : tYesM s st = .ok true st := nr rfl
/-- a comprehension whose elements do not touch the store -/
theorem lcGo_map {b : BM} {e : EM} (h : D → D) : ∀ (ds : List D), (∀ x ∈ ds, ∃ s1, b (.dat x) s = some s1 ∧ e s1 st = .ok (.dat (h x)) st) → lcGo b tYesM e ds s st = .ok (ds.map h) st
  | [], _ => rfl
  | x :: r, k => by
    obtain ⟨s1, e1, e2⟩ := k x List.mem_cons_self
    rw [lcGo_cons, e1]
    simp [e2, lcGo_map h r fun y hy => k y (List.mem_cons_of_mem _ hy)]
theorem lcGo_filter {b : BM} {t : TM} {e : EM} (p : D → Bool) : ∀ (ds : List D), (∀ x ∈ ds, ∃ s1, b (.dat x) s = some s1 ∧ t s1 st = .ok (p x) st ∧ e s1 st = .ok (.dat x) st) → lcGo b t e ds s st = .ok (ds.filter p) st
  | [], _ => rfl
  | x :: r, k => by
    obtain ⟨s1, e1, e2, e3⟩ := k x List.mem_cons_self
    rw [lcGo_cons, e1]
    cases hp : p x <;> simp [e2, e3, hp, lcGo_filter p r fun y hy => k y (List.mem_cons_of_mem _ hy)]
theorem lcGo_filterMap {b : BM} {t : TM} {e : EM} (p : D → Bool) (h : D → D) : ∀ (ds : List D), (∀ x ∈ ds, ∃ s1, b (.dat x) s = some s1 ∧ t s1 st = .ok (p x) st ∧ (p x = true → e s1 st = .ok (.dat (h x)) st)) → lcGo b t e ds s st = .ok ((ds.filter p).map h) st
  | [], _ => rfl
  | x :: r, k => by
    obtain ⟨s1, e1, e2, e3⟩ := k x List.mem_cons_self
    rw [lcGo_cons, e1]
    cases hp : p x
    · simp [e2, hp, lcGo_filterMap p h r fun y hy => k y (List.mem_cons_of_mem _ hy)]
    · simp [e2, e3 hp, hp, lcGo_filterMap p h r fun y hy => k y (List.mem_cons_of_mem _ hy)]
end
/-! defs -/
theorem fnV_rt {n k : Nat} {body : SM} {args : List Vl} {st st' : Store} {v : Vl} (hn : args.length = n) (h : body (args.map some ++ List.replicate k none) st = .rt v st') : fnV n k body args st = .ok v st' := by
  unfold fnV
  rw [if_pos hn, h]
theorem fnV_nx {n k : Nat} {body : SM} {args : List Vl} {st st' : Store} {s' : Slots} (hn : args.length = n) (h : body (args.map some ++ List.replicate k none) st = .nx s' st') : fnV n k body args st = .ok (.dat .none) st' := by
  unfold fnV
  rw [if_pos hn, h]
theorem fnV_exc {n k : Nat} {body : SM} {args : List Vl} {st st' : Store} {s' : Slots} {c : Nat} {p : Option (Str × D)} (hn : args.length = n) (h : body (args.map some ++ List.replicate k none) st = .exc c p s' st') : fnV n k body args st = .exc c p st' := by
  unfold fnV
  rw [if_pos hn, h]
/-- a def that leaves the store as it was -/
theorem call_rt {n k : Nat} {body : SM} {args : List Vl} {st : Store} {d : D} (hn : args.length = n) (h : body (args.map some ++ List.replicate k none) st = .rt (.dat d) st) : closeD (fnV n k body) args st = .ok (.dat d) st :=
  closeD_ok (st' := []) (by rw [List.append_nil]; exact fnV_rt hn h)
/-- a def that makes cells of its own -/
theorem call_rtN {n k : Nat} {body : SM} {args : List Vl} {st st' : Store} {d : D} (hn : args.length = n) (h : body (args.map some ++ List.replicate k none) st = .rt (.dat d) (st ++ st')) : closeD (fnV n k body) args st = .ok (.dat d) st := closeD_ok (fnV_rt hn h)
theorem call_nx {n k : Nat} {body : SM} {args : List Vl} {st : Store} {s' : Slots} (hn : args.length = n) (h : body (args.map some ++ List.replicate k none) st = .nx s' st) : closeD (fnV n k body) args st = .ok (.dat .none) st :=
  closeD_ok (st' := []) (by rw [List.append_nil]; exact fnV_nx hn h)
theorem call_exc {n k : Nat} {body : SM} {args : List Vl} {st : Store} {s' : Slots} {c : Nat} {p : Option (Str × D)} (hn : args.length = n) (h : body (args.map some ++ List.replicate k none) st = .exc c p s' st) : closeD (fnV n k body) args st = .exc c p st :=
  closeD_exc (st' := []) (by rw [List.append_nil]; exact fnV_exc hn h)
/-! data -/
@[simp] theorem addD_int (i j : Int) : addD (.int i) (.int j) = some (.int (i + j)) := rfl
@[simp] theorem subD_int (i j : Int) : subD (.int i) (.int j) = some (.int (i - j)) := rfl
@[simp] theorem negD_int (i : Int) : negD (.int i) = some (.int (-i)) := rfl
@[simp] theorem ltD_int (i j : Int) : ltD (.int i) (.int j) = some (.bool (decide (i < j))) := rfl
@[simp] theorem leD_int (i j : Int) : leD (.int i) (.int j) = some (.bool (decide (i ≤ j))) := rfl
@[simp] theorem gtD_int (i j : Int) : gtD (.int i) (.int j) = some (.bool (decide (j < i))) := rfl
@[simp] theorem geD_int (i j : Int) : geD (.int i) (.int j) = some (.bool (decide (j ≤ i))) := rfl
@[simp] theorem mulD_int (i j : Int) : mulD (.int i) (.int j) = if mulOk i j = true then some (.int (i * j)) else none := rfl
@[simp] theorem fdivD_int (i j : Int) : fdivD (.int i) (.int j) = if divOk j = true then some (.int (i / j)) else none := rfl
@[simp] theorem modD_int (i j : Int) : modD (.int i) (.int j) = if 0 < j then some (.int (i % j)) else none := rfl
@[simp] theorem absD_int (i : Int) : absD [.int i] = some (.int (if i < 0 then -i else i)) := rfl
theorem abs_eq (i : Int) : (if i < 0 then -i else i) = (i.natAbs : Int) := by split <;> omega
@[simp] theorem lenD_tup (ds : List D) : lenD [.tuple ds] = some (.int ds.length) := rfl
@[simp] theorem lenD_lst (ds : List D) : lenD [.list ds] = some (.int ds.length) := rfl
@[simp] theorem intD_int (i : Int) : intD [.int i] = some (.int i) := rfl
@[simp] theorem tupleD_list (ds : List D) : tupleD [.list ds] = some (.tuple ds) := rfl
@[simp] theorem ixD_tup (ds : List D) (i : Int) : ixD (.tuple ds) (.int i) = atI ds i := rfl
@[simp] theorem ixD_lst (ds : List D) (i : Int) : ixD (.list ds) (.int i) = atI ds i := rfl
@[simp] theorem atI_nat {α : Type} (xs : List α) (i : Nat) : atI xs (i : Int) = xs[i]? := by
  unfold atI ixN
  rw [if_pos (by omega)]
  split
  · simp
  · rename_i h
    simp
    omega
@[simp] theorem atI_0 {α : Type} (xs : List α) : atI xs 0 = xs[0]? := atI_nat xs 0
@[simp] theorem atI_1 {α : Type} (xs : List α) : atI xs 1 = xs[1]? := atI_nat xs 1
@[simp] theorem atI_last {α : Type} (xs : List α) : atI xs (-1) = xs[xs.length - 1]? := by
  unfold atI ixN
  rw [if_neg (by omega)]
  cases xs with
  | nil => simp
  | cons x xs =>
    rw [if_pos (by simp only [List.length_cons]; omega)]
    simp only [List.length_cons, Option.bind_some]
    congr 1
    omega
@[simp] theorem addD_tup (xs ys : List D) : addD (.tuple xs) (.tuple ys) = if xs.length + ys.length ≤ sizeLine then some (.tuple (xs ++ ys)) else none := rfl
@[simp] theorem addD_lst (xs ys : List D) : addD (.list xs) (.list ys) = if xs.length + ys.length ≤ sizeLine then some (.list (xs ++ ys)) else none := rfl
@[simp] theorem sliceD_tup (ds : List D) (lo hi : Option Int) : sliceD (.tuple ds) lo hi = some (.tuple (cutL ds lo hi)) := rfl
@[simp] theorem sliceD_lst (ds : List D) (lo hi : Option Int) : sliceD (.list ds) lo hi = some (.list (cutL ds lo hi)) := rfl
theorem cutL_from {α : Type} (xs : List α) (k : Nat) : cutL xs (some (k : Int)) none = xs.drop k := by
  unfold cutL
  rw [HT.sIx_nat, HT.sIx_none]
  by_cases h : k ≤ xs.length
  · rw [Nat.min_eq_left h, List.take_of_length_le (by simp)]
  · rw [Nat.min_eq_right (by omega), List.drop_eq_nil_of_le (Nat.le_refl _), List.drop_eq_nil_of_le (by omega)]
    simp
theorem cutL_to {α : Type} (xs : List α) (k : Nat) : cutL xs none (some (k : Int)) = xs.take k := by
  unfold cutL
  rw [HT.sIx_nat, HT.sIx_none]
  simp
theorem cutL_1 {α : Type} (xs : List α) : cutL xs (some 1) none = xs.tail := by
  rw [show (some (1 : Int)) = some ((1 : Nat) : Int) from rfl, cutL_from]
  simp
theorem cutL_to1 {α : Type} (xs : List α) : cutL xs none (some 1) = xs.take 1 := by
  rw [show (some (1 : Int)) = some ((1 : Nat) : Int) from rfl, cutL_to]
theorem cutL_m1 {α : Type} (xs : List α) : cutL xs (some (-1)) none = xs.drop (xs.length - 1) := by
  unfold cutL
  rw [HT.sIx_none]
  have e : HT.sIx xs.length 0 (some (-1)) = xs.length - 1 := by
    show (if (-1 : Int) < 0 then ((-1 : Int) + (xs.length : Int)).toNat else min (-1 : Int).toNat xs.length) = _
    rw [if_pos (by decide)]
    omega
  rw [e, List.take_of_length_le (by simp)]
theorem cutL_mid {α : Type} (xs : List α) (i j : Nat) : cutL xs (some (i : Int)) (some (j : Int)) = (xs.take j).drop i := by
  unfold cutL
  rw [HT.sIx_nat, HT.sIx_nat, List.drop_take]
  by_cases h : i ≤ xs.length
  · rw [Nat.min_eq_left h]
    by_cases h2 : j ≤ xs.length
    · rw [Nat.min_eq_left h2]
    · rw [Nat.min_eq_right (by omega), List.take_of_length_le (by simp), List.take_of_length_le (by simp; omega)]
  · rw [Nat.min_eq_right (a := i) (by omega), List.drop_eq_nil_of_le (Nat.le_refl _), List.drop_eq_nil_of_le (by omega)]
    simp
@[simp] theorem isiD_tt (ds : List D) : isiD "tuple" (.tuple ds) = some (.bool true) := by rfl
@[simp] theorem isiD_ii (i : Int) : isiD "int" (.int i) = some (.bool true) := by rfl
@[simp] theorem isiD_bi (i : Int) : isiD "bool" (.int i) = some (.bool false) := by rfl
@[simp] theorem isiD_ti (i : Int) : isiD "tuple" (.int i) = some (.bool false) := by rfl
@[simp] theorem isiD_tn : isiD "tuple" .none = some (.bool false) := by rfl
@[simp] theorem isiD_tl (ds : List D) : isiD "tuple" (.list ds) = some (.bool false) := by rfl
@[simp] theorem eqD_int (i j : Int) : eqD (.int i) (.int j) = some (.bool (decide (i = j))) := by
  show (if _ then some (PyData.bool (PyData.eqv (.int i) (.int j))) else none) = _
  rw [if_pos ⟨rfl, rfl⟩]
  simp [PyData.eqv]
  rfl
@[simp] theorem neD_int (i j : Int) : neD (.int i) (.int j) = some (.bool (!decide (i = j))) := by
  show (if _ then some (PyData.bool (!PyData.eqv (.int i) (.int j))) else none) = _
  rw [if_pos ⟨rfl, rfl⟩]
  simp [PyData.eqv]
  rfl
theorem neD_refl {d : D} (h : SeqAt.shaped d = true) : neD d d = some (.bool false) := by
  unfold neD
  rw [if_pos ⟨h, h⟩, SeqAt.eqv_refl d (SeqAt.canLay_of_shaped h)]
  rfl
theorem eqD_refl {d : D} (h : SeqAt.shaped d = true) : eqD d d = some (.bool true) := by
  unfold eqD
  rw [if_pos ⟨h, h⟩, SeqAt.eqv_refl d (SeqAt.canLay_of_shaped h)]
@[simp] theorem isND_n : isND .none .none = some (.bool true) := rfl
@[simp] theorem isND_t (ds : List D) : isND (.tuple ds) .none = some (.bool false) := rfl
end Pd

set_option Elab.async false
set_option linter.all false
set_option maxRecDepth 100000
set_option maxHeartbeats 4000000
/-! Rt: ratios as data; gcd; sizes. -/
namespace Pd
open PySem L2
/-- a rational number as the program writes it -/
def rt (q : Rat) : D := .tuple [.int q.num, .int q.den]
/-- how large it may be written -/
def Sz (k : Nat) (q : Rat) : Prop := q.num.natAbs < 2 ^ k ∧ q.den < 2 ^ k
theorem Sz.mono {k l : Nat} {q : Rat} (h : Sz k q) (e : k ≤ l) : Sz l q :=
  ⟨Nat.lt_of_lt_of_le h.1 (Nat.pow_le_pow_right (by decide) e), Nat.lt_of_lt_of_le h.2 (Nat.pow_le_pow_right (by decide) e)⟩
theorem Sz.pos {k : Nat} {q : Rat} (h : Sz k q) : 0 < k := by
  have h1 := h.2
  have h2 := q.den_pos
  cases k with
  | zero => rw [Nat.pow_zero] at h1; omega
  | succ k => omega
theorem mulOk_lt {i j : Int} {k l : Nat} (hi : i.natAbs < 2 ^ k) (hj : j.natAbs < 2 ^ l) (h : k + l < 100000000) : mulOk i j = true := by
  refine Bool.or_eq_true_iff.mpr (.inl (decide_eq_true ?_))
  have a : i.natAbs.log2 ≤ k := by
    by_cases z : i.natAbs = 0
    · rw [z]; exact Nat.zero_le _
    · exact Nat.le_of_lt ((Nat.log2_lt z).mpr hi)
  have b : j.natAbs.log2 ≤ l := by
    by_cases z : j.natAbs = 0
    · rw [z]; exact Nat.zero_le _
    · exact Nat.le_of_lt ((Nat.log2_lt z).mpr hj)
  omega
theorem divOk_lt {j : Int} {k : Nat} (h0 : 0 < j) (hj : j.natAbs < 2 ^ k) (h : k ≤ 9000) : divOk j = true := by
  unfold divOk
  have a : j.natAbs.log2 < k := (Nat.log2_lt (by omega)).mpr hj
  simp [h0]
  omega
theorem natAbs_mul_lt {i j : Int} {k l : Nat} (hi : i.natAbs < 2 ^ k) (hj : j.natAbs < 2 ^ l) : (i * j).natAbs < 2 ^ (k + l) := by
  rw [Int.natAbs_mul, Nat.pow_add]
  exact Nat.mul_lt_mul'' hi hj
theorem natAbs_add_lt {i j : Int} {k : Nat} (hi : i.natAbs < 2 ^ k) (hj : j.natAbs < 2 ^ k) : (i + j).natAbs < 2 ^ (k + 1) := by
  rw [Nat.pow_succ]
  have := Int.natAbs_add_le i j
  omega
theorem natAbs_sub_lt {i j : Int} {k : Nat} (hi : i.natAbs < 2 ^ k) (hj : j.natAbs < 2 ^ k) : (i - j).natAbs < 2 ^ (k + 1) := by
  rw [Nat.pow_succ]
  omega
theorem den_nat (q : Rat) : ((q.den : Int)).natAbs = q.den := rfl
/-- the ratio of two numbers is no larger than they are -/
theorem divInt_sz {n d : Int} {k : Nat} (hk : 0 < k) (hn : n.natAbs < 2 ^ k) (hd : d.natAbs < 2 ^ k) : Sz k (Rat.divInt n d) := by
  constructor
  · rw [Rat.num_divInt]
    refine Nat.lt_of_le_of_lt ?_ hn
    rw [Int.natAbs_ediv_of_dvd (Int.dvd_trans (Int.gcd_dvd_right ..) (Int.dvd_mul_left ..))]
    refine Nat.le_trans (Nat.div_le_self _ _) ?_
    rw [Int.natAbs_mul]
    have e : d.sign.natAbs ≤ 1 := by
      rw [Int.natAbs_sign]
      split <;> omega
    refine Nat.le_trans (Nat.mul_le_mul_right _ e) ?_
    omega
  · rw [Rat.den_divInt]
    split
    · exact Nat.one_lt_two_pow_iff.mpr (by omega)
    · exact Nat.lt_of_le_of_lt (Nat.div_le_self _ _) hd
theorem add_divInt (a b : Rat) : a + b = Rat.divInt (a.num * b.den + b.num * a.den) (a.den * b.den) := by
  rw [Rat.add_def', ← Rat.divInt_ofNat, Int.natCast_mul]
theorem sub_divInt (a b : Rat) : a - b = Rat.divInt (a.num * b.den - b.num * a.den) (a.den * b.den) := by
  rw [Rat.sub_def', ← Rat.divInt_ofNat, Int.natCast_mul]
theorem mul_divInt (a b : Rat) : a * b = Rat.divInt (a.num * b.num) (a.den * b.den) := by
  rw [Rat.mul_def', ← Rat.divInt_ofNat, Int.natCast_mul]
theorem div_divInt (a b : Rat) : a / b = Rat.divInt (a.num * b.den) (a.den * b.num) := by
  rw [Rat.div_def, Rat.inv_def]
  conv => lhs; rw [← Rat.num_divInt_den a]
  rw [Rat.divInt_mul_divInt]
theorem den_ne (q : Rat) : ((q.den : Int)) ≠ 0 := by
  have := q.den_nz
  omega
theorem add_sz {a b : Rat} {k l : Nat} (ha : Sz k a) (hb : Sz l b) : Sz (k + l + 1) (a + b) := by
  rw [add_divInt]
  refine divInt_sz (by omega) (natAbs_add_lt (natAbs_mul_lt ha.1 hb.2) ?_) (Nat.lt_of_lt_of_le (natAbs_mul_lt (i := (a.den : Int)) (j := (b.den : Int)) ha.2 hb.2) (Nat.pow_le_pow_right (by decide) (by omega)))
  rw [Nat.add_comm]
  exact natAbs_mul_lt hb.1 ha.2
theorem sub_sz {a b : Rat} {k l : Nat} (ha : Sz k a) (hb : Sz l b) : Sz (k + l + 1) (a - b) := by
  rw [sub_divInt]
  refine divInt_sz (by omega) (natAbs_sub_lt (natAbs_mul_lt ha.1 hb.2) ?_) (Nat.lt_of_lt_of_le (natAbs_mul_lt (i := (a.den : Int)) (j := (b.den : Int)) ha.2 hb.2) (Nat.pow_le_pow_right (by decide) (by omega)))
  rw [Nat.add_comm]
  exact natAbs_mul_lt hb.1 ha.2
theorem mul_sz {a b : Rat} {k l : Nat} (ha : Sz k a) (hb : Sz l b) : Sz (k + l) (a * b) := by
  rw [mul_divInt]
  exact divInt_sz (by have := ha.pos; omega) (natAbs_mul_lt ha.1 hb.1) (natAbs_mul_lt (i := (a.den : Int)) (j := (b.den : Int)) ha.2 hb.2)
theorem div_sz {a b : Rat} {k l : Nat} (ha : Sz k a) (hb : Sz l b) : Sz (k + l) (a / b) := by
  rw [div_divInt]
  exact divInt_sz (by have := ha.pos; omega) (natAbs_mul_lt ha.1 hb.2) (natAbs_mul_lt (i := (a.den : Int)) ha.2 hb.1)
/-- the size of a ratio -/
def rabs (q : Rat) : Rat := if q < 0 then -q else q
theorem rabs_num (q : Rat) : (rabs q).num = (q.num.natAbs : Int) := by
  unfold rabs
  split
  · rename_i h
    have : q.num < 0 := by
      have := (Rat.lt_iff q 0).mp h
      simpa using this
    rw [Rat.neg_num]
    omega
  · rename_i h
    have : ¬ q.num < 0 := fun z => h ((Rat.lt_iff q 0).mpr (by simpa using z))
    omega
theorem rabs_den (q : Rat) : (rabs q).den = q.den := by
  unfold rabs
  split
  · rfl
  · rfl
theorem rabs_sz {q : Rat} {k : Nat} (h : Sz k q) : Sz k (rabs q) := by
  refine ⟨?_, by rw [rabs_den]; exact h.2⟩
  rw [rabs_num]
  exact h.1
theorem rt_rabs (q : Rat) : rt (rabs q) = .tuple [.int (if q.num < 0 then -q.num else q.num), .int q.den] := by
  unfold rt
  rw [rabs_num, rabs_den, abs_eq]
theorem lt_num (a b : Rat) : (a.num * b.den < b.num * a.den) ↔ a < b := (Rat.lt_iff a b).symm
/-- Euclid -/
theorem gcd_step (a b : Nat) : Nat.gcd b (a % b) = Nat.gcd a b := by
  rw [Nat.gcd_comm a b, Nat.gcd_rec b a, Nat.gcd_comm]
/-- a ratio, made of its two numbers and their common divisor -/
theorem rt_made {n d : Int} (hd : d ≠ 0) : rt (Rat.divInt n d) = .tuple [.int (d.sign * n / (Nat.gcd n.natAbs d.natAbs : Int)), .int (d.sign * d / (Nat.gcd n.natAbs d.natAbs : Int))] := by
  unfold rt
  rw [Rat.num_divInt, Rat.den_divInt, if_neg hd, Int.gcd_comm d n]
  have e : (d.sign * d) = (d.natAbs : Int) := by rw [Int.sign_mul_self]
  rw [e, Int.natCast_ediv]
  rfl
theorem rt_lay (q : Rat) : (rt q).canLay0 = true := rfl
theorem rt_depth (q : Rat) : (rt q).depth = 1 := rfl
theorem rt_shaped (q : Rat) : SeqAt.shaped (rt q) = true := rfl
theorem rt_eqv (a b : Rat) : PyData.eqv (rt a) (rt b) = decide (a = b) := by
  have e : PyData.eqv (rt a) (rt b) = ((a.num == b.num) && (((a.den : Int) == (b.den : Int)) && true)) := rfl
  rw [e]
  by_cases h : a = b
  · subst h
    simp
  · rw [decide_eq_false h]
    by_cases h1 : a.num = b.num
    · have h2 : a.den ≠ b.den := fun z => h (Rat.ext h1 z)
      simp [h1]
      omega
    · simp [h1]
theorem eqD_rt (a b : Rat) : eqD (rt a) (rt b) = some (.bool (decide (a = b))) := by
  unfold eqD
  rw [if_pos ⟨rt_shaped a, rt_shaped b⟩, rt_eqv]
theorem neD_rt (a b : Rat) : neD (rt a) (rt b) = some (.bool (!decide (a = b))) := by
  unfold neD
  rw [if_pos ⟨rt_shaped a, rt_shaped b⟩, rt_eqv]
end Pd

set_option Elab.async false
set_option linter.all false
set_option maxRecDepth 100000
set_option maxHeartbeats 4000000
set_option exponentiation.threshold 5000
/-! Rk: denotations run step by step: what comes later bears a name, so that it is not looked at before its turn. -/
namespace Pd
open PySem L2
section
variable {s : Slots} {st st1 : Store} {f g e : EM} {m : AM} {c d : TM} {u w : SM}
def kOp2b (h : D → D → Option D) (a : Vl) : Vl → Store → Res Vl := fun b st => ap2 h a b st
def kOp2 (h : D → D → Option D) (g : EM) (s : Slots) : Vl → Store → Res Vl := fun a st => (g s st).bind (kOp2b h a)
theorem ek_op2 (h : D → D → Option D) : op2 h f g s st = (f s st).bind (kOp2 h g s) := ev_op2 h
theorem k_op2 (h : D → D → Option D) (a : Vl) : kOp2 h g s a st = (g s st).bind (kOp2b h a) := nr rfl
theorem k_op2b (h : D → D → Option D) (a b : Vl) : kOp2b h a b st = ap2 h a b st := nr rfl
def ap1 (h : D → Option D) (a : Vl) (st : Store) : Res Vl := match peek a st with
  | some x => ofO (h x) st
  | none => .no
theorem ap1_dat (h : D → Option D) (x : D) : ap1 h (.dat x) st = ofO (h x) st := nr rfl
def kOp1 (h : D → Option D) : Vl → Store → Res Vl := fun a st => ap1 h a st
theorem ek_op1 (h : D → Option D) : op1 h f s st = (f s st).bind (kOp1 h) := ev_op1 h
theorem k_op1 (h : D → Option D) (a : Vl) : kOp1 h a st = ap1 h a st := nr rfl
theorem ek_isiM (T : String) : isiM T f s st = (f s st).bind (kOp1 (isiD T)) := ev_op1 _
def kOpN (h : List D → Option D) : List Vl → Store → Res Vl := fun vs st => apN h vs st
theorem ek_opN (h : List D → Option D) : opN h m s st = (m s st).bind (kOpN h) := ev_opN h
theorem k_opN (h : List D → Option D) (vs : List Vl) : kOpN h vs st = apN h vs st := nr rfl
def kCons2 (v : Vl) : List Vl → Store → Res (List Vl) := fun vs st => .ok (v :: vs) st
def kCons (m : AM) (s : Slots) : Vl → Store → Res (List Vl) := fun v st => (m s st).bind (kCons2 v)
theorem ek_aCons : aCons f m s st = (f s st).bind (kCons m s) := nr rfl
theorem k_cons (v : Vl) : kCons m s v st = (m s st).bind (kCons2 v) := nr rfl
theorem k_cons2 (v : Vl) (vs : List Vl) : kCons2 v vs st = .ok (v :: vs) st := nr rfl
def kTup2 (k : List D → D) : List D → Store → Res Vl := fun ds st => if ds.length ≤ sizeLine then .ok (.dat (k ds)) st else .no
def kTup (k : List D → D) : List Vl → Store → Res Vl := fun vs st => (toDs vs st).bind (kTup2 k)
theorem ek_tupM : tupM m s st = (m s st).bind (kTup .tuple) := nr rfl
theorem ek_lstD : lstD m s st = (m s st).bind (kTup .list) := nr rfl
theorem k_tup (k : List D → D) (vs : List Vl) : kTup k vs st = (toDs vs st).bind (kTup2 k) := nr rfl
theorem k_tup2 (k : List D → D) (ds : List D) : kTup2 k ds st = if ds.length ≤ sizeLine then .ok (.dat (k ds)) st else .no := nr rfl
theorem k_tup2_ok (k : List D → D) (ds : List D) (h : ds.length ≤ sizeLine) : kTup2 k ds st = .ok (.dat (k ds)) st := by
  rw [k_tup2, if_pos h]
theorem k_tup2_0 (k : List D → D) : kTup2 k [] st = .ok (.dat (k [])) st := k_tup2_ok k _ (by decide : 0 ≤ sizeLine)
theorem k_tup2_1 (k : List D → D) (x0 : D) : kTup2 k [x0] st = .ok (.dat (k [x0])) st := k_tup2_ok k _ (by decide : 1 ≤ sizeLine)
theorem k_tup2_2 (k : List D → D) (x0 x1 : D) : kTup2 k [x0, x1] st = .ok (.dat (k [x0, x1])) st := k_tup2_ok k _ (by decide : 2 ≤ sizeLine)
theorem k_tup2_3 (k : List D → D) (x0 x1 x2 : D) : kTup2 k [x0, x1, x2] st = .ok (.dat (k [x0, x1, x2])) st := k_tup2_ok k _ (by decide : 3 ≤ sizeLine)
theorem k_tup2_4 (k : List D → D) (x0 x1 x2 x3 : D) : kTup2 k [x0, x1, x2, x3] st = .ok (.dat (k [x0, x1, x2, x3])) st := k_tup2_ok k _ (by decide : 4 ≤ sizeLine)
theorem k_tup2_5 (k : List D → D) (x0 x1 x2 x3 x4 : D) : kTup2 k [x0, x1, x2, x3, x4] st = .ok (.dat (k [x0, x1, x2, x3, x4])) st := k_tup2_ok k _ (by decide : 5 ≤ sizeLine)
theorem k_tup2_6 (k : List D → D) (x0 x1 x2 x3 x4 x5 : D) : kTup2 k [x0, x1, x2, x3, x4, x5] st = .ok (.dat (k [x0, x1, x2, x3, x4, x5])) st := k_tup2_ok k _ (by decide : 6 ≤ sizeLine)
theorem k_tup2_7 (k : List D → D) (x0 x1 x2 x3 x4 x5 x6 : D) : kTup2 k [x0, x1, x2, x3, x4, x5, x6] st = .ok (.dat (k [x0, x1, x2, x3, x4, x5, x6])) st := k_tup2_ok k _ (by decide : 7 ≤ sizeLine)
theorem k_tup2_8 (k : List D → D) (x0 x1 x2 x3 x4 x5 x6 x7 : D) : kTup2 k [x0, x1, x2, x3, x4, x5, x6, x7] st = .ok (.dat (k [x0, x1, x2, x3, x4, x5, x6, x7])) st := k_tup2_ok k _ (by decide : 8 ≤ sizeLine)
theorem k_tup2_9 (k : List D → D) (x0 x1 x2 x3 x4 x5 x6 x7 x8 : D) : kTup2 k [x0, x1, x2, x3, x4, x5, x6, x7, x8] st = .ok (.dat (k [x0, x1, x2, x3, x4, x5, x6, x7, x8])) st := k_tup2_ok k _ (by decide : 9 ≤ sizeLine)
theorem k_tup2_10 (k : List D → D) (x0 x1 x2 x3 x4 x5 x6 x7 x8 x9 : D) : kTup2 k [x0, x1, x2, x3, x4, x5, x6, x7, x8, x9] st = .ok (.dat (k [x0, x1, x2, x3, x4, x5, x6, x7, x8, x9])) st := k_tup2_ok k _ (by decide : 10 ≤ sizeLine)
theorem k_tup2_11 (k : List D → D) (x0 x1 x2 x3 x4 x5 x6 x7 x8 x9 x10 : D) : kTup2 k [x0, x1, x2, x3, x4, x5, x6, x7, x8, x9, x10] st = .ok (.dat (k [x0, x1, x2, x3, x4, x5, x6, x7, x8, x9, x10])) st := k_tup2_ok k _ (by decide : 11 ≤ sizeLine)
theorem k_tup2_12 (k : List D → D) (x0 x1 x2 x3 x4 x5 x6 x7 x8 x9 x10 x11 : D) : kTup2 k [x0, x1, x2, x3, x4, x5, x6, x7, x8, x9, x10, x11] st = .ok (.dat (k [x0, x1, x2, x3, x4, x5, x6, x7, x8, x9, x10, x11])) st := k_tup2_ok k _ (by decide : 12 ≤ sizeLine)
def kToDs2 (d : D) : List D → Store → Res (List D) := fun ds st => .ok (d :: ds) st
def kToDs (r : List Vl) : D → Store → Res (List D) := fun d st => (toDs r st).bind (kToDs2 d)
theorem ek_toDs (v : Vl) (r : List Vl) : toDs (v :: r) st = (toD v st).bind (kToDs r) := nr rfl
theorem k_toDs (r : List Vl) (d : D) : kToDs r d st = (toDs r st).bind (kToDs2 d) := nr rfl
theorem k_toDs2 (d : D) (ds : List D) : kToDs2 d ds st = .ok (d :: ds) st := nr rfl
theorem ek_callM (g : List Vl → Store → Res Vl) : callM g m s st = (m s st).bind g := nr rfl
def kIfE (f g : EM) (s : Slots) : Bool → Store → Res Vl := fun b st => cnd b (f s st) (g s st)
theorem ek_ifE : ifE c f g s st = (c s st).bind (kIfE f g s) := nr rfl
theorem k_ifE_t : kIfE f g s true st = f s st := nr rfl
theorem k_ifE_f : kIfE f g s false st = g s st := nr rfl
def ofB : Option Bool → Store → Res Bool
  | some b, st => .ok b st
  | none, _ => .no
theorem ofB_some (b : Bool) : ofB (some b) st = .ok b st := nr rfl
def truO : Option D → Store → Res Bool
  | some x, st => ofB (truD x) st
  | none, _ => .no
theorem truO_some (x : D) : truO (some x) st = ofB (truD x) st := nr rfl
def kTru : Vl → Store → Res Bool := fun a st => truO (peek a st) st
theorem ek_truM : truM f s st = (f s st).bind kTru := by
  rw [ev_truM]
  congr 1
  funext a st1
  unfold kTru truO ofB
  cases peek a st1 with
  | none => rfl
  | some x => cases h : truD x <;> simp [h]
theorem k_tru (a : Vl) : kTru a st = truO (peek a st) st := nr rfl
def kAndT (d : TM) (s : Slots) : Bool → Store → Res Bool := fun b st => cnd b (d s st) (.ok false st)
theorem ek_andT : andT c d s st = (c s st).bind (kAndT d s) := nr rfl
theorem k_andT_t : kAndT d s true st = d s st := nr rfl
theorem k_andT_f : kAndT d s false st = .ok false st := nr rfl
def kOrT (d : TM) (s : Slots) : Bool → Store → Res Bool := fun b st => cnd b (.ok true st) (d s st)
theorem ek_orT : orT c d s st = (c s st).bind (kOrT d s) := nr rfl
theorem k_orT_f : kOrT d s false st = d s st := nr rfl
theorem k_orT_t : kOrT d s true st = .ok true st := nr rfl
def kNotT : Bool → Store → Res Bool := fun b st => .ok (!b) st
theorem ek_notT : notT c s st = (c s st).bind kNotT := nr rfl
theorem k_notT (b : Bool) : kNotT b st = .ok (!b) st := nr rfl
def kAndE (g : EM) (s : Slots) : Vl → Store → Res Vl := fun a st => andO a (g s st) st
theorem ek_andE : andE f g s st = (f s st).bind (kAndE g s) := ev_andE
theorem k_andE_t : kAndE g s (.dat (.bool true)) st = g s st := nr rfl
theorem k_andE_f : kAndE g s (.dat (.bool false)) st = .ok (.dat (.bool false)) st := nr rfl
def kOrE (g : EM) (s : Slots) : Vl → Store → Res Vl := fun a st => orO a (g s st) st
theorem ek_orE : orE f g s st = (f s st).bind (kOrE g s) := ev_orE
theorem k_orE_f : kOrE g s (.dat (.bool false)) st = g s st := nr rfl
theorem k_orE_t : kOrE g s (.dat (.bool true)) st = .ok (.dat (.bool true)) st := nr rfl
def kNotE : Vl → Store → Res Vl := fun a st => match a with
  | .dat (.bool b) => .ok (.dat (.bool (!b))) st
  | _ => .no
theorem ek_notE : notE f s st = (f s st).bind kNotE := nr rfl
theorem k_notE (b : Bool) : kNotE (.dat (.bool b)) st = .ok (.dat (.bool (!b))) st := nr rfl
def kSet (i : Nat) (s : Slots) : Vl → Store → Out := fun v st => .nx (s.set i (some v)) st
theorem ek_setM (i : Nat) : setM i f s st = bindS (f s st) s (kSet i s) := nr rfl
theorem k_set (i : Nat) (v : Vl) : kSet i s v st = .nx (s.set i (some v)) st := nr rfl
def kAsg (b : BM) (s : Slots) : Vl → Store → Out := fun v st => optO (b v s) fun s' => .nx s' st
theorem ek_asgM (b : BM) : asgM b f s st = bindS (f s st) s (kAsg b s) := ev_asgM b
def kPar (i j : Nat) (s : Slots) : List Vl → Store → Out := fun vs st => parO i j vs s st
theorem ek_parM (i j : Nat) : parM i j m s st = bindS (m s st) s (kPar i j s) := nr rfl
theorem k_par (i j : Nat) (v w : Vl) : kPar i j s [v, w] st = .nx ((s.set i (some v)).set j (some w)) st := nr rfl
def kIf (u w : SM) (s : Slots) : Bool → Store → Out := fun k st => cnd k (u s st) (w s st)
theorem ek_ifS : ifS c u w s st = bindS (c s st) s (kIf u w s) := nr rfl
theorem k_if_t : kIf u w s true st = u s st := nr rfl
theorem k_if_f : kIf u w s false st = w s st := nr rfl
def kRet : Vl → Store → Out := fun v st => .rt v st
theorem ek_retM : retM f s st = bindS (f s st) s kRet := nr rfl
theorem k_ret (v : Vl) : kRet v st = .rt v st := nr rfl
def kDrop (s : Slots) : Vl → Store → Out := fun _ st => .nx s st
theorem ek_dropM : dropM f s st = bindS (f s st) s (kDrop s) := nr rfl
theorem k_drop (v : Vl) : kDrop s v st = .nx s st := nr rfl
def kFor (g : D → SM) (s : Slots) : List D → Store → Out := fun ds st => loopM g ds s st
theorem ek_forM (b : BM) (it : IM) : forM b it u s st = bindS (it s st) s (kFor (tgM b u) s) := nr rfl
theorem k_for (g : D → SM) (ds : List D) : kFor g s ds st = loopM g ds s st := nr rfl
def kIt : Vl → Store → Res (List D) := fun v st1 => match v with
  | .scr ns => .ok (ns.map .int) st1
  | .dat d => (match d with
    | .list ds => .ok ds st1
    | .tuple ds => .ok ds st1
    | _ => .no)
  | .cel k => (toD (.cel k) st1).bind fun d st2 => match d with
    | .list ds => .ok ds st2
    | _ => .no
theorem ek_itM : itM f s st = (f s st).bind kIt := ev_itM
theorem k_it_l (ds : List D) : kIt (.dat (.list ds)) st = .ok ds st := nr rfl
theorem k_it_t (ds : List D) : kIt (.dat (.tuple ds)) st = .ok ds st := nr rfl
def kZip2 : List D → Store → Res (List D) := fun ds st2 => match ds with
  | [.list xs, .list ys] => .ok (zipD xs ys) st2
  | [.tuple xs, .tuple ys] => .ok (zipD xs ys) st2
  | _ => .no
def kZip : List Vl → Store → Res (List D) := fun vs st1 => (toDs vs st1).bind kZip2
theorem ek_zipM : zipM m s st = (m s st).bind kZip := ev_zipM
theorem k_zip (vs : List Vl) : kZip vs st = (toDs vs st).bind kZip2 := nr rfl
theorem k_zip2_l (xs ys : List D) : kZip2 [.list xs, .list ys] st = .ok (zipD xs ys) st := nr rfl
theorem k_zip2_t (xs ys : List D) : kZip2 [.tuple xs, .tuple ys] st = .ok (zipD xs ys) st := nr rfl
def kSome : Vl → Store → Res (Option Int) := fun v st1 => match v with
  | .dat (.int i) => .ok (some i) st1
  | _ => .no
theorem ek_someO : someO f s st = (f s st).bind kSome := ev_someO
theorem k_some (i : Int) : kSome (.dat (.int i)) st = .ok (some i) st := nr rfl
def apS (v : Vl) (l h : Option Int) (st : Store) : Res Vl := match peek v st with
  | some d => ofO (sliceD d l h) st
  | none => .no
theorem apS_dat (d : D) (l h : Option Int) : apS (.dat d) l h st = ofO (sliceD d l h) st := nr rfl
def kSl3 (v : Vl) (l : Option Int) : Option Int → Store → Res Vl := fun h st => apS v l h st
def kSl2 (hi : OM) (s : Slots) (v : Vl) : Option Int → Store → Res Vl := fun l st => (hi s st).bind (kSl3 v l)
def kSl (lo hi : OM) (s : Slots) : Vl → Store → Res Vl := fun v st => (lo s st).bind (kSl2 hi s v)
theorem ek_sliceM (lo hi : OM) : sliceM f lo hi s st = (f s st).bind (kSl lo hi s) := ev_sliceM lo hi
theorem k_sl (lo hi : OM) (v : Vl) : kSl lo hi s v st = (lo s st).bind (kSl2 hi s v) := nr rfl
theorem k_sl2 (hi : OM) (v : Vl) (l : Option Int) : kSl2 hi s v l st = (hi s st).bind (kSl3 v l) := nr rfl
theorem k_sl3 (v : Vl) (l h : Option Int) : kSl3 v l h st = apS v l h st := nr rfl
def kPG (is : List Nat) (s : Slots) : List Vl → Store → Out := fun vs st => if vs.length ≤ sizeLine then (match setAll is vs s with
  | some s' => .nx s' st
  | none => .no) else .no
theorem ek_parGM (is : List Nat) : parGM is m s st = bindS (m s st) s (kPG is s) := nr rfl
theorem k_pg2 (i j : Nat) (v w : Vl) : kPG [i, j] s [v, w] st = .nx ((s.set i (some v)).set j (some w)) st := by
  unfold kPG
  rw [if_pos (show [v, w].length ≤ sizeLine from (by decide : 2 ≤ sizeLine))]
  rfl
theorem k_pg3 (i j k : Nat) (v w x : Vl) : kPG [i, j, k] s [v, w, x] st = .nx (((s.set i (some v)).set j (some w)).set k (some x)) st := by
  unfold kPG
  rw [if_pos (show [v, w, x].length ≤ sizeLine from (by decide : 3 ≤ sizeLine))]
  rfl
def kP3 (i j l : Nat) (s : Slots) : List Vl → Store → Out := fun vs st1 => match vs with
  | [v, w, x] => .nx (((s.set i (some v)).set j (some w)).set l (some x)) st1
  | _ => .no
theorem ek_parM3 (i j l : Nat) : parM3 i j l m s st = bindS (m s st) s (kP3 i j l s) := nr rfl
theorem k_p3 (i j l : Nat) (v w x : Vl) : kP3 i j l s [v, w, x] st = .nx (((s.set i (some v)).set j (some w)).set l (some x)) st := nr rfl
def kLst : List Vl → Store → Res Vl := fun vs st1 => if vs.length ≤ sizeLine then .ok (.cel st1.length) (st1 ++ [.lst vs]) else .no
theorem ek_lstC : lstC m s st = (m s st).bind kLst := nr rfl
abbrev cD (xs : List D) : Cell := .lst (xs.map .dat)
theorem k_lst0 : kLst [] st = .ok (.cel st.length) (st ++ [cD []]) := by
  exact if_pos (Nat.zero_le _)
end
end Pd

set_option Elab.async false
set_option linter.all false
set_option maxRecDepth 100000
set_option maxHeartbeats 4000000
set_option exponentiation.threshold 5000
/-! Rn: comprehensions, loops and data in general. -/
namespace Pd
open PySem L2








/-! comprehensions -/
theorem lcGo_mapA {α : Type} {b : BM} {e : EM} {s : Slots} {st : Store} {enc h : α → D} : ∀ l : List α, (∀ x ∈ l, ∃ s1, b (.dat (enc x)) s = some s1 ∧ e s1 st = .ok (.dat (h x)) st) → lcGo b tYesM e (l.map enc) s st = .ok (l.map h) st
  | [], _ => rfl
  | x :: r, k => by
    obtain ⟨s1, e1, e2⟩ := k x List.mem_cons_self
    rw [List.map_cons, List.map_cons, lcGo_cons, e1]
    have ih := lcGo_mapA (e := e) (h := h) r fun y hy => k y (List.mem_cons_of_mem _ hy)
    simp only [ev_tYesM, Res.bind_ok, if_true, e2, toD_dat, ih]
theorem lcM_mapA {α : Type} {it : IM} {b : BM} {vs : List Nat} {e : EM} {s : Slots} {st : Store} {enc : α → D} (h : α → D) {l : List α} (hit : it s st = .ok (l.map enc) st) (hl : l.length ≤ sizeLine) (he : ∀ x ∈ l, ∃ s1, b (.dat (enc x)) (wipeS s vs) = some s1 ∧ e s1 st = .ok (.dat (h x)) st) :
    lcM it b vs tYesM e s st = .ok (.dat (.list (l.map h))) st := by
  rw [ev_lcM, hit, Res.bind_ok, lcGo_mapA l he, noX_ok, Res.bind_ok, if_pos (by rw [List.length_map]; exact hl)]
theorem lcM_mapN {α : Type} {it : IM} {i : Nat} {vs : List Nat} {e : EM} {s : Slots} {st : Store} {enc : α → D} (h : α → D) {l : List α} (hit : it s st = .ok (l.map enc) st) (hl : l.length ≤ sizeLine) (he : ∀ x ∈ l, e ((wipeS s vs).set i (some (.dat (enc x)))) st = .ok (.dat (h x)) st) :
    lcM it (bName i) vs tYesM e s st = .ok (.dat (.list (l.map h))) st := lcM_mapA h hit hl fun x hx => ⟨_, rfl, he x hx⟩
theorem tupLc {f : EM} {s : Slots} {st st1 : Store} {ds : List D} (h : f s st = .ok (.dat (.list ds)) st1) : opN tupleD (aCons f aNil) s st = .ok (.dat (.tuple ds)) st1 := by
  simp only [ev_opN, ev_aCons, ev_aNil, h, Res.bind_ok, apN1, tupleD_list, ofO_some]
theorem allD_bools (bs : List Bool) : allD [.list (bs.map .bool)] = some (.bool (bs.all id)) := by
  have e : allD [.list (bs.map PyData.bool)] = (unBools (bs.map PyData.bool)).map fun bs => .bool (bs.all id) := rfl
  rw [e, unBools_map]
  rfl
theorem allLc {α : Type} {f : EM} {s : Slots} {st st1 : Store} {l : List α} {p : α → Bool} (h : f s st = .ok (.dat (.list (l.map fun x => .bool (p x)))) st1) : opN allD (aCons f aNil) s st = .ok (.dat (.bool (l.all p))) st1 := by
  have e : (l.map fun x => PyData.bool (p x)) = (l.map p).map .bool := by rw [List.map_map]; rfl
  rw [e] at h
  simp only [ev_opN, ev_aCons, ev_aNil, h, Res.bind_ok, apN1, allD_bools, ofO_some, List.all_map]
  rfl
/-- two for: the rows laid one behind the other -/
theorem lc2_flat {α : Type} {it : IM} {i j : Nat} {vs : List Nat} {s : Slots} {st : Store} {enc : α → D} {rows : List (List α)} (hit : it s st = .ok (rows.map fun r => .tuple (r.map enc)) st) (hl : rows.flatten.length ≤ sizeLine) (hi : i < s.length) (hj : j < s.length) :
    lc2M it (bName i) vs tYesM (itM (vr i)) (bName j) [j] tYesM (vr j) s st = .ok (.dat (.list (rows.flatten.map enc))) st := by
  have inner : ∀ (r : List α) (s : Slots), j < s.length → lcGo (bName j) tYesM (vr j) (r.map enc) s st = .ok (r.map enc) st := fun r s hs => lcGo_mapA r fun x _ => ⟨_, rfl, by rw [ev_vr, List.getElem?_set_self hs]⟩
  have outer : ∀ (rows : List (List α)) (s : Slots), i < s.length → j < s.length → lcGo2 (bName i) tYesM (itM (vr i)) (bName j) [j] tYesM (vr j) (rows.map fun r => .tuple (r.map enc)) s st = .ok (rows.flatten.map enc) st := by
    intro rows
    induction rows with
    | nil => intro s _ _; rfl
    | cons r rows ih =>
      intro s h1 h2
      have hv : itM (vr i) (s.set i (some (.dat (.tuple (r.map enc))))) st = .ok (r.map enc) st := by
        rw [ev_itM, ev_vr, List.getElem?_set_self h1]
        rfl
      have e1 := inner r (wipeS (s.set i (some (.dat (.tuple (r.map enc))))) [j]) (by rw [wipeS_len, List.length_set]; exact h2)
      have e2 := ih s h1 h2
      show (Res.bind (itM (vr i) (s.set i (some (.dat (.tuple (r.map enc))))) st) _) = _
      rw [hv, Res.bind_ok, e1, Res.bind_ok, e2, Res.bind_ok, List.flatten_cons, List.map_append]
  unfold lc2M lc2L
  rw [hit, Res.bind_ok, outer rows _ (by rw [wipeS_len]; exact hi) (by rw [wipeS_len]; exact hj), noX_ok, Res.bind_ok, if_pos (by rw [List.length_map]; exact hl), Res.bind_ok]
/-! comprehensions that change the store -/
inductive All2 {α β : Type} (P : α → β → Prop) : List α → List β → Prop
  | nil : All2 P [] []
  | cons {a : α} {b : β} {as : List α} {bs : List β} : P a b → All2 P as bs → All2 P (a :: as) (b :: bs)
theorem All2.len {α β : Type} {P : α → β → Prop} {as : List α} {bs : List β} (h : All2 P as bs) : bs.length = as.length := by
  induction h with
  | nil => rfl
  | cons _ _ ih => simp [ih]
theorem All2.right {α β : Type} {P : α → β → Prop} {Q : β → Prop} {as : List α} {bs : List β} (h : All2 P as bs) (k : ∀ a b, P a b → Q b) : ∀ b ∈ bs, Q b := by
  induction h with
  | nil => intro b hb; cases hb
  | cons h1 _ ih =>
    intro b hb
    cases hb with
    | head => exact k _ _ h1
    | tail _ hb => exact ih b hb
theorem lcGo_drawA {α β : Type} {b : BM} {e : EM} {s : Slots} {enc : α → D} {out : β → D} {I : Store → Prop} (P : α → β → Prop) : ∀ (l : List α) (st : Store), I st → (∀ x ∈ l, ∃ s1, b (.dat (enc x)) s = some s1 ∧ ∀ st, I st → ∃ y st', I st' ∧ e s1 st = .ok (.dat (out y)) st' ∧ P x y) →
    ∃ ys st', I st' ∧ lcGo b tYesM e (l.map enc) s st = .ok (ys.map out) st' ∧ All2 P l ys
  | [], st, hi, _ => ⟨[], st, hi, rfl, .nil⟩
  | x :: l, st, hi, k => by
    obtain ⟨s1, e1, h1⟩ := k x List.mem_cons_self
    obtain ⟨y, st1, hi1, e2, hp⟩ := h1 st hi
    obtain ⟨ys, st2, hi2, e3, ha⟩ := lcGo_drawA (e := e) P l st1 hi1 fun z hz => k z (List.mem_cons_of_mem _ hz)
    refine ⟨y :: ys, st2, hi2, ?_, .cons hp ha⟩
    rw [List.map_cons, List.map_cons, lcGo_cons, e1]
    simp only [ev_tYesM, Res.bind_ok, if_true, e2, toD_dat, e3]
theorem lcM_drawN {α β : Type} {it : IM} {i : Nat} {vs : List Nat} {e : EM} {s : Slots} {st st0 : Store} {enc : α → D} {out : β → D} {I : Store → Prop} (P : α → β → Prop) {l : List α} (hit : it s st0 = .ok (l.map enc) st) (hi : I st) (hl : l.length ≤ sizeLine)
    (he : ∀ x ∈ l, ∀ st, I st → ∃ y st', I st' ∧ e ((wipeS s vs).set i (some (.dat (enc x)))) st = .ok (.dat (out y)) st' ∧ P x y) :
    ∃ ys st', I st' ∧ lcM it (bName i) vs tYesM e s st0 = .ok (.dat (.list (ys.map out))) st' ∧ All2 P l ys := by
  obtain ⟨ys, st', h1, h2, h3⟩ := lcGo_drawA (b := bName i) (e := e) (s := wipeS s vs) (enc := enc) (out := out) P l st hi fun x hx => ⟨_, rfl, he x hx⟩
  refine ⟨ys, st', h1, ?_, h3⟩
  rw [ev_lcM, hit, Res.bind_ok, h2, noX_ok, Res.bind_ok, if_pos (by rw [List.length_map, h3.len]; exact hl)]
/-! loops -/
theorem loop_fold {α σ : Type} {enc : α → D} {g : D → SM} {f : σ → α → σ} (P : σ → Slots → Store → Prop) : ∀ (l : List α) (a : σ) (s : Slots) (st : Store), (∀ x ∈ l, ∀ a s st, P a s st → ∃ s' st', g (enc x) s st = .nx s' st' ∧ P (f a x) s' st') → P a s st →
    ∃ s' st', loopM g (l.map enc) s st = .nx s' st' ∧ P (l.foldl f a) s' st'
  | [], a, s, st, _, h => ⟨s, st, rfl, h⟩
  | x :: l, a, s, st, k, h => by
    obtain ⟨s1, st1, e1, h1⟩ := k x List.mem_cons_self a s st h
    obtain ⟨s2, st2, e2, h2⟩ := loop_fold (f := f) P l (f a x) s1 st1 (fun y hy => k y (List.mem_cons_of_mem _ hy)) h1
    refine ⟨s2, st2, ?_, h2⟩
    rw [List.map_cons, loopM_cons, e1, loopO_nx, e2]
/-- a loop that keeps what holds, counting its turns -/
theorem loop_keep {α : Type} {enc : α → D} {g : D → SM} (P : Nat → Slots → Store → Prop) : ∀ (l : List α) (n : Nat) (s : Slots) (st : Store), (∀ x ∈ l, ∀ k s st, k < n + l.length → P k s st → ∃ s' st', g (enc x) s st = .nx s' st' ∧ P (k + 1) s' st') → P n s st →
    ∃ s' st', loopM g (l.map enc) s st = .nx s' st' ∧ P (n + l.length) s' st'
  | [], n, s, st, _, h => ⟨s, st, rfl, h⟩
  | x :: l, n, s, st, k, h => by
    obtain ⟨s1, st1, e1, h1⟩ := k x List.mem_cons_self n s st (by simp) h
    obtain ⟨s2, st2, e2, h2⟩ := loop_keep P l (n + 1) s1 st1 (fun y hy m s st hm hp => k y (List.mem_cons_of_mem _ hy) m s st (by simp at hm ⊢; omega) hp) h1
    refine ⟨s2, st2, ?_, ?_⟩
    · rw [List.map_cons, loopM_cons, e1, loopO_nx, e2]
    · rw [List.length_cons, show n + (l.length + 1) = n + 1 + l.length by omega]
      exact h2
theorem nat_rng (n : Nat) : rngD 0 n 1 = (List.range n).map fun k : Nat => PyData.int k := by
  unfold rngD
  refine List.map_congr_left fun i _ => ?_
  show PyData.int _ = PyData.int _
  congr 1
  omega
theorem run_rngN {n : Nat} {m : AM} {s : Slots} {st st1 : Store} (h : m s st = .ok [.dat (.int n)] st1) (hn : n < 1000000) : rng1M m s st = .ok ((List.range n).map fun k : Nat => PyData.int k) st1 := by
  rw [run_rng1 h hn, nat_rng]
/-! shapes and likeness of data -/
def Lay (k : Nat) (d : D) : Prop := d.canLay0 = true ∧ d.depth ≤ k
theorem Lay.mono {k l : Nat} {d : D} (h : Lay k d) (e : k ≤ l) : Lay l d := ⟨h.1, Nat.le_trans h.2 e⟩
theorem Lay.shaped {k : Nat} {d : D} (h : Lay k d) (e : k ≤ 64) : SeqAt.shaped d = true := by
  unfold SeqAt.shaped
  rw [h.1, decide_eq_true (Nat.le_trans h.2 e)]
  rfl
theorem Lay.rt (q : Rat) : Lay 1 (rt q) := ⟨rt_lay q, by rw [rt_depth]; exact Nat.le_refl _⟩
theorem Lay.int (i : Int) : Lay 0 (.int i) := ⟨rfl, Nat.le_refl _⟩
theorem Lay.bool (i : Bool) : Lay 0 (.bool i) := ⟨rfl, Nat.le_refl _⟩
theorem Lay.none : Lay 0 .none := ⟨rfl, Nat.le_refl _⟩
theorem lay_all {k : Nat} : ∀ {ds : List D}, (∀ d ∈ ds, Lay k d) → PyData.canLayAll0 ds = true ∧ PyData.depthAll ds ≤ k
  | [], _ => ⟨rfl, Nat.zero_le _⟩
  | d :: ds, h => by
    obtain ⟨a, b⟩ := lay_all (ds := ds) fun x hx => h x (List.mem_cons_of_mem _ hx)
    obtain ⟨c, e⟩ := h d List.mem_cons_self
    refine ⟨by rw [PyData.canLayAll0, c, a]; rfl, ?_⟩
    rw [PyData.depthAll]
    omega
theorem Lay.list {k : Nat} {ds : List D} (h : ∀ d ∈ ds, Lay k d) : Lay (k + 1) (.list ds) := by
  obtain ⟨a, b⟩ := lay_all h
  refine ⟨by rw [PyData.canLay0]; exact a, ?_⟩
  rw [PyData.depth]
  omega
theorem Lay.tuple {k : Nat} {ds : List D} (h : ∀ d ∈ ds, Lay k d) : Lay (k + 1) (.tuple ds) := by
  obtain ⟨a, b⟩ := lay_all h
  refine ⟨by rw [PyData.canLay0]; exact a, ?_⟩
  rw [PyData.depth]
  omega
theorem Lay.tupleM {α : Type} {k : Nat} {l : List α} {enc : α → D} (h : ∀ x ∈ l, Lay k (enc x)) : Lay (k + 1) (.tuple (l.map enc)) := Lay.tuple fun d hd => by
  obtain ⟨x, hx, rfl⟩ := List.mem_map.mp hd
  exact h x hx
theorem Lay.listM {α : Type} {k : Nat} {l : List α} {enc : α → D} (h : ∀ x ∈ l, Lay k (enc x)) : Lay (k + 1) (.list (l.map enc)) := Lay.list fun d hd => by
  obtain ⟨x, hx, rfl⟩ := List.mem_map.mp hd
  exact h x hx
theorem eqvAll_map {α : Type} [DecidableEq α] {enc : α → D} (h : ∀ a b, PyData.eqv (enc a) (enc b) = decide (a = b)) : ∀ xs ys : List α, PyData.eqvAll (xs.map enc) (ys.map enc) = decide (xs = ys)
  | [], [] => by simp [PyData.eqvAll]
  | [], y :: ys => by simp [PyData.eqvAll]
  | x :: xs, [] => by simp [PyData.eqvAll]
  | x :: xs, y :: ys => by
    rw [List.map_cons, List.map_cons, PyData.eqvAll, h, eqvAll_map h xs ys]
    by_cases h1 : x = y <;> by_cases h2 : xs = ys <;> simp [h1, h2]
theorem eqv_int (a b : Int) : PyData.eqv (.int a) (.int b) = decide (a = b) := by
  rw [PyData.eqv]
  by_cases h : a = b <;> simp [h]
theorem eqv_nat (a b : Nat) : PyData.eqv (.int a) (.int b) = decide (a = b) := by
  rw [eqv_int]
  by_cases h : a = b
  · simp [h]
  · rw [decide_eq_false h, decide_eq_false (by omega)]
theorem eqv_listM {α : Type} [DecidableEq α] {enc : α → D} (h : ∀ a b, PyData.eqv (enc a) (enc b) = decide (a = b)) (xs ys : List α) : PyData.eqv (.list (xs.map enc)) (.list (ys.map enc)) = decide (xs = ys) := by
  rw [PyData.eqv, eqvAll_map h]
theorem eqv_tupleM {α : Type} [DecidableEq α] {enc : α → D} (h : ∀ a b, PyData.eqv (enc a) (enc b) = decide (a = b)) (xs ys : List α) : PyData.eqv (.tuple (xs.map enc)) (.tuple (ys.map enc)) = decide (xs = ys) := by
  rw [PyData.eqv, eqvAll_map h]
theorem eqD_of {k l : Nat} {x y : D} (hx : Lay k x) (hy : Lay l y) (hk : k ≤ 64 := by decide) (hl : l ≤ 64 := by decide) : eqD x y = some (.bool (PyData.eqv x y)) := by
  unfold eqD
  rw [if_pos ⟨hx.shaped hk, hy.shaped hl⟩]
theorem neD_of {k l : Nat} {x y : D} (hx : Lay k x) (hy : Lay l y) (hk : k ≤ 64 := by decide) (hl : l ≤ 64 := by decide) : neD x y = some (.bool (!PyData.eqv x y)) := by
  unfold neD
  rw [if_pos ⟨hx.shaped hk, hy.shaped hl⟩]
theorem slN : ∀ n : Nat, n ≤ 20000 → n ≤ sizeLine := fun n h => Nat.le_trans h (by decide)
end Pd

set_option Elab.async false
set_option linter.all false
set_option maxRecDepth 100000
set_option maxHeartbeats 4000000
set_option exponentiation.threshold 5000
/-! Ro: a list of one's own at the store's end. -/
namespace Pd
open PySem L2
theorem end_get (st : Store) (c : Cell) : (st ++ [c])[st.length]? = some c := by simp
theorem end_set (st : Store) (c d : Cell) : (st ++ [c]).set st.length d = st ++ [d] := by simp
theorem app_end {f g : EM} {s : Slots} {st : Store} {xs : List D} {d : D} (hf : f s (st ++ [cD xs]) = .ok (.cel st.length) (st ++ [cD xs])) (hg : g s (st ++ [cD xs]) = .ok (.dat d) (st ++ [cD xs])) (hl : xs.length < 20000) : appM f g s (st ++ [cD xs]) = .ok (.dat .none) (st ++ [cD (xs ++ [d])]) := by
  have l1 : lstAt (.cel st.length) (st ++ [cD xs]) = some (st.length, xs.map .dat) := by
    unfold lstAt
    simp only [end_get]
  unfold appM
  rw [hf, Res.bind_ok]
  simp only [l1, hg, Res.bind_ok, toD_dat]
  rw [if_pos (Nat.lt_of_lt_of_le (by rw [List.length_map]; exact hl) (slN _ (Nat.le_refl _))), end_set, cD, List.map_append]
  rfl
theorem app_end_go {f g : EM} {s : Slots} {st : Store} {xs : List D} {d : D} (hf : f s (st ++ [cD xs]) = .ok (.cel st.length) (st ++ [cD xs])) (hg : g s (st ++ [cD xs]) = .ok (.dat d) (st ++ [cD xs])) (hl : xs.length < 20000) : dropM (appM f g) s (st ++ [cD xs]) = .nx s (st ++ [cD (xs ++ [d])]) := by
  rw [ev_dropM, app_end hf hg hl, bindS_ok]
theorem peek_end (st : Store) (xs : List D) : peek (.cel st.length) (st ++ [cD xs]) = some (.list xs) := by
  unfold peek
  simp only [end_get]
  rw [unDat_map]
  rfl
theorem apN_end (h : List D → Option D) (st : Store) (xs : List D) : apN h [.cel st.length] (st ++ [cD xs]) = ofO (h [.list xs]) (st ++ [cD xs]) := apN_cel (end_get st _)
theorem toD_end (st : Store) (xs : List D) : toD (.cel st.length) (st ++ [cD xs]) = .ok (.list xs) (st ++ [.frz (.list xs)]) := by
  unfold toD
  simp only [end_get]
  rw [unDat_map]
  simp only [end_set]
theorem itM_end {f : EM} {s : Slots} {st : Store} {xs : List D} (hf : f s (st ++ [cD xs]) = .ok (.cel st.length) (st ++ [cD xs])) : itM f s (st ++ [cD xs]) = .ok xs (st ++ [.frz (.list xs)]) := by
  rw [ev_itM, hf, Res.bind_ok]
  show (Res.bind (toD (.cel st.length) (st ++ [cD xs])) _) = _
  rw [toD_end, Res.bind_ok]
/-- a loop each turn of which lays one thing behind -/
theorem loop_app {α : Type} {enc : α → D} {g : D → SM} (h : α → D) (P : Slots → Prop) (st : Store) : ∀ (l : List α) (acc : List D) (s : Slots), P s → (∀ x ∈ l, ∀ acc s, P s → acc.length < 20000 → ∃ s', g (enc x) s (st ++ [cD acc]) = .nx s' (st ++ [cD (acc ++ [h x])]) ∧ P s') → acc.length + l.length < 20000 →
    ∃ s', loopM g (l.map enc) s (st ++ [cD acc]) = .nx s' (st ++ [cD (acc ++ l.map h)]) ∧ P s'
  | [], acc, s, p, _, _ => ⟨s, by rw [List.map_nil, List.map_nil, List.append_nil]; rfl, p⟩
  | x :: l, acc, s, p, k, hl => by
    rw [List.length_cons] at hl
    obtain ⟨s1, e1, p1⟩ := k x List.mem_cons_self acc s p (by omega)
    obtain ⟨s2, e2, p2⟩ := loop_app h P st l (acc ++ [h x]) s1 p1 (fun y hy => k y (List.mem_cons_of_mem _ hy)) (by rw [List.length_append, List.length_singleton]; omega)
    refine ⟨s2, ?_, p2⟩
    rw [List.map_cons, List.map_cons, loopM_cons, e1, loopO_nx, e2, List.append_assoc]
    rfl
theorem lcM_mapS {α : Type} {it : IM} {i : Nat} {vs : List Nat} {e : EM} {s : Slots} {st st1 : Store} {enc : α → D} (h : α → D) {l : List α} (hit : it s st = .ok (l.map enc) st1) (hl : l.length ≤ sizeLine) (he : ∀ x ∈ l, e ((wipeS s vs).set i (some (.dat (enc x)))) st1 = .ok (.dat (h x)) st1) :
    lcM it (bName i) vs tYesM e s st = .ok (.dat (.list (l.map h))) st1 := by
  rw [ev_lcM, hit, Res.bind_ok, lcGo_mapA l fun x hx => ⟨_, rfl, he x hx⟩, noX_ok, Res.bind_ok, if_pos (by rw [List.length_map]; exact hl)]
theorem tg_name {i : Nat} {u : SM} {x : D} {s : Slots} {st : Store} : tgM (bName i) u x s st = u (s.set i (some (.dat x))) st := by
  rw [ev_tgM, ev_bName, optO_some]
theorem rngN_cons (a n : Nat) : rngD (a : Int) (n + 1) 1 = .int a :: rngD ((a + 1 : Nat) : Int) n 1 := by
  unfold rngD
  rw [List.range_succ_eq_map, List.map_cons, List.map_map]
  simp
  omega
theorem loop_from {g : D → SM} (P : Nat → Slots → Store → Prop) : ∀ (n a : Nat) (s : Slots) (st : Store), P a s st → (∀ k, a ≤ k → k < a + n → ∀ s st, P k s st → ∃ s' st', g (.int k) s st = .nx s' st' ∧ P (k + 1) s' st') →
    ∃ s' st', loopM g (rngD (a : Int) n 1) s st = .nx s' st' ∧ P (a + n) s' st'
  | 0, a, s, st, h, _ => ⟨s, st, rfl, h⟩
  | n + 1, a, s, st, h, k => by
    obtain ⟨s1, st1, e1, h1⟩ := k a (Nat.le_refl _) (by omega) s st h
    obtain ⟨s2, st2, e2, h2⟩ := loop_from P n (a + 1) s1 st1 h1 fun j hj hk => k j (by omega) (by omega)
    refine ⟨s2, st2, ?_, ?_⟩
    · rw [rngN_cons, loopM_cons, e1, loopO_nx, e2]
    · rw [show a + (n + 1) = a + 1 + n by omega]
      exact h2
theorem loop_range {g : D → SM} (P : Nat → Slots → Store → Prop) (n : Nat) (s : Slots) (st : Store) (h : P 0 s st) (k : ∀ k, k < n → ∀ s st, P k s st → ∃ s' st', g (.int k) s st = .nx s' st' ∧ P (k + 1) s' st') :
    ∃ s' st', loopM g ((List.range n).map fun k : Nat => PyData.int k) s st = .nx s' st' ∧ P n s' st' := by
  obtain ⟨s', st', e, h'⟩ := loop_from (g := g) P n 0 s st h fun j _ hj => k j (by omega)
  refine ⟨s', st', ?_, by rw [Nat.zero_add] at h'; exact h'⟩
  rw [← nat_rng]
  exact e
theorem loop_foldN {α σ : Type} {enc : α → D} {g : D → SM} {f : σ → α → σ} (P : Nat → σ → Slots → Store → Prop) : ∀ (l : List α) (n : Nat) (a : σ) (s : Slots) (st : Store), (∀ x ∈ l, ∀ k a s st, k < n + l.length → P k a s st → ∃ s' st', g (enc x) s st = .nx s' st' ∧ P (k + 1) (f a x) s' st') → P n a s st →
    ∃ s' st', loopM g (l.map enc) s st = .nx s' st' ∧ P (n + l.length) (l.foldl f a) s' st'
  | [], n, a, s, st, _, h => ⟨s, st, rfl, h⟩
  | x :: l, n, a, s, st, k, h => by
    obtain ⟨s1, st1, e1, h1⟩ := k x List.mem_cons_self n a s st (by simp) h
    obtain ⟨s2, st2, e2, h2⟩ := loop_foldN P l (n + 1) (f a x) s1 st1 (fun y hy m a s st hm hp => k y (List.mem_cons_of_mem _ hy) m a s st (by simp at hm ⊢; omega) hp) h1
    refine ⟨s2, st2, ?_, ?_⟩
    · rw [List.map_cons, loopM_cons, e1, loopO_nx, e2]
    · rw [List.length_cons, show n + (l.length + 1) = n + 1 + l.length by omega]
      exact h2
/-- [f(a, b) for a, b in zip(A, B)] -/
theorem lcM_zip {α β : Type} {A B : EM} {i j : Nat} {e : EM} {s : Slots} {st : Store} {enc : α → D} {enc2 : β → D} (h : α → β → D) {l : List α} {m : List β} (hA : A s st = .ok (.dat (.tuple (l.map enc))) st) (hB : B s st = .ok (.dat (.tuple (m.map enc2))) st) (hl : l.length ≤ sizeLine)
    (he : ∀ x ∈ l, ∀ y ∈ m, e (((wipeS s [i, j]).set i (some (.dat (enc x)))).set j (some (.dat (enc2 y)))) st = .ok (.dat (h x y)) st) :
    lcM (zipM (aCons A (aCons B aNil))) (bTup [bName i, bName j]) [i, j] tYesM e s st = .ok (.dat (.list (List.zipWith h l m))) st := by
  have hz : ∀ (l : List α) (m : List β), zipD (l.map enc) (m.map enc2) = (l.zip m).map fun p => PyData.tuple [enc p.1, enc2 p.2] := by
    intro l
    induction l with
    | nil => intro m; rfl
    | cons x l ih =>
      intro m
      cases m with
      | nil => rfl
      | cons y m =>
        have := ih m
        show _ :: zipD (l.map enc) (m.map enc2) = _
        rw [this]
        rfl
  have hit : zipM (aCons A (aCons B aNil)) s st = .ok ((l.zip m).map fun p => PyData.tuple [enc p.1, enc2 p.2]) st := by
    rw [ev_zipM, ev_aCons, hA, Res.bind_ok, ev_aCons, hB, Res.bind_ok, ev_aNil, Res.bind_ok, Res.bind_ok, Res.bind_ok, toDs_cons, toD_dat, Res.bind_ok, toDs_cons, toD_dat, Res.bind_ok, toDs_nil, Res.bind_ok, Res.bind_ok, Res.bind_ok]
    show Res.ok (zipD (l.map enc) (m.map enc2)) st = _
    rw [hz]
  have e1 := lcM_mapA (b := bTup [bName i, bName j]) (vs := [i, j]) (e := e) (fun p : α × β => h p.1 p.2) hit (by rw [List.length_zip]; exact Nat.le_trans (Nat.min_le_left _ _) hl) fun p hp => ⟨_, rfl, he p.1 (List.of_mem_zip hp).1 p.2 (List.of_mem_zip hp).2⟩
  rw [e1]
  congr 3
  rw [List.zip_eq_zipWith, List.map_zipWith]
end Pd

set_option Elab.async false
set_option linter.all false
set_option maxRecDepth 100000
/-! printed by pr.py: what each def denotes -/
namespace K27
open PySem L2 Pd
noncomputable section
def c_ZERO : D := .tuple [.int 0, .int 1]
def c_ONE : D := .tuple [.int 1, .int 1]
def c_MOST_LEVELS : D := .int 256
def c_MOST_GROWN : D := .int 5
def c_HALF : D := .tuple [.int 1, .int 2]
def c_DOTS : D := .tuple [.int 0, .int 1]
abbrev exm : Nat → Nat → Bool := exmN 2 [(0, 0), (1, 0), (1, 1)]
def b_u_law_draws : SM :=
    seqM (setM 1 (lstC aNil))
        (seqM (forM (bName 2) (itM (vr 0)) (seqM (setM 5 (opN absD (aCons (vr 2) aNil)))
        (seqM (ifS (truM (op2 ltD (vr 5) (op2 powD (cst (.int 10)) (cst (.int 18))))) (seqM (setM 6 (op2 modD (opN intD (aCons (op2 addD (op2 mulD (vr 5) (cst (.int 48271))) (cst (.int 11))) aNil)) (cst (.int 2147483647))))
        (seqM (dropM (appM (vr 1) (op2 modD (opN intD (aCons (op2 addD (op2 mulD (vr 6) (cst (.int 69621))) (vr 5)) aNil)) (cst (.int 2147483629)))))
        (seqM (dropM (appM (vr 1) (op2 modD (opN intD (aCons (op2 addD (vr 6) (op2 fdivD (vr 5) (cst (.int 7)))) aNil)) (cst (.int 1000003)))))
        (setM 5 (cst (.int 0)))))) skipM)
        (forM (bName 4) (rng1M (aCons (cst (.int 60)) aNil)) (ifS (truM (op2 gtD (vr 5) (cst (.int 0)))) (seqM (dropM (appM (vr 1) (op2 modD (opN intD (aCons (vr 5) aNil)) (cst (.int 997)))))
        (setM 5 (op2 fdivD (vr 5) (cst (.int 997))))) skipM)))))
        (seqM (setM 3 (cst (.int 1)))
        (seqM (ifS (truM (op2 gtD (scLen (vr 0)) (cst (.int 0)))) (setM 3 (op2 addD (cst (.int 1)) (opN absD (aCons (scIx (vr 0) (cst (.int 0))) aNil)))) skipM)
        (seqM (forM (bName 4) (rng1M (aCons (cst (.int 3000)) aNil)) (seqM (setM 3 (op2 modD (opN intD (aCons (op2 addD (op2 mulD (vr 3) (cst (.int 48271))) (cst (.int 69621))) aNil)) (cst (.int 2147483647))))
        (dropM (appM (vr 1) (op2 fdivD (vr 3) (cst (.int 5)))))))
        (retM (lrevC (vr 1)))))))
def d_u_law_draws : List Vl → Store → Res Vl := fnV 1 6 b_u_law_draws
def b_u_law_take : SM :=
    seqM (ifS (truM (op2 eqD (opN lenD (aCons (vr 0) aNil)) (cst (.int 0)))) (retM (cst (.int 0))) skipM)
        (retM (op2 modD (opN intD (aCons (popM (vr 0)) aNil)) (vr 1)))
def d_u_law_take : List Vl → Store → Res Vl := closeD (fnV 2 0 b_u_law_take)
def b_u_law_pick : SM :=
    retM (op2 ixD (vr 1) (callM d_u_law_take (aCons (vr 0) (aCons (opN lenD (aCons (vr 1) aNil)) aNil))))
def d_u_law_pick : List Vl → Store → Res Vl := closeD (fnV 2 0 b_u_law_pick)
def b_check : SM :=
    ifS (notT (truM (vr 0))) (raiseM 1) skipM
def d_check : List Vl → Store → Res Vl := closeD (fnV 1 0 b_check)
def b_are_rows : SM :=
    seqM (ifS (orT (notT (truM (isiM "tuple" (vr 0)))) (orT (truM (op2 eqD (opN lenD (aCons (vr 0) aNil)) (cst (.int 0)))) (notT (truM (opN allD (aCons (lcM (itM (vr 0)) (bName 1) [1] tYesM (isiM "tuple" (vr 1))) aNil)))))) (retM (cst (.bool false))) skipM)
        (retM (andE (op2 gtD (opN lenD (aCons (op2 ixD (vr 0) (cst (.int 0))) aNil)) (cst (.int 0))) (opN allD (aCons (lcM (itM (vr 0)) (bName 1) [1] tYesM (op2 eqD (opN lenD (aCons (vr 1) aNil)) (opN lenD (aCons (op2 ixD (vr 0) (cst (.int 0))) aNil)))) aNil))))
def d_are_rows : List Vl → Store → Res Vl := closeD (fnV 1 1 b_are_rows)
def b_is_integer : SM :=
    retM (andE (isiM "int" (vr 0)) (notE (isiM "bool" (vr 0))))
def d_is_integer : List Vl → Store → Res Vl := closeD (fnV 1 0 b_is_integer)
def b_is_screen : SM :=
    seqM (ifS (notT (truM (callM d_are_rows (aCons (vr 0) aNil)))) (retM (cst (.bool false))) skipM)
        (seqM (setM 1 (lc2M (itM (vr 0)) (bName 2) [2, 3] tYesM (itM (vr 2)) (bName 3) [3] tYesM (vr 3)))
        (retM (andE (opN allD (aCons (lcM (itM (vr 1)) (bName 3) [3] tYesM (callM d_is_integer (aCons (vr 3) aNil))) aNil)) (op2 eqD (opN sortedD (aCons (vr 1) aNil)) (lrngM (opN lenD (aCons (vr 1) aNil)))))))
def d_is_screen : List Vl → Store → Res Vl := closeD (fnV 1 3 b_is_screen)
def b_shared : SM :=
    seqM (whileM (truM (op2 gtD (vr 1) (cst (.int 0)))) (parM 0 1 (aCons (vr 1) (aCons (op2 modD (vr 0) (vr 1)) aNil))))
        (retM (vr 0))
def d_shared : List Vl → Store → Res Vl := closeD (fnV 2 0 b_shared)
def b_is_ratio : SM :=
    seqM (ifS (orT (notT (truM (isiM "tuple" (vr 0)))) (orT (truM (op2 neD (opN lenD (aCons (vr 0) aNil)) (cst (.int 2)))) (orT (notT (truM (callM d_is_integer (aCons (op2 ixD (vr 0) (cst (.int 0))) aNil)))) (notT (truM (callM d_is_integer (aCons (op2 ixD (vr 0) (cst (.int 1))) aNil))))))) (retM (cst (.bool false))) skipM)
        (retM (andE (op2 gtD (op2 ixD (vr 0) (cst (.int 1))) (cst (.int 0))) (op2 eqD (callM d_shared (aCons (opN absD (aCons (op2 ixD (vr 0) (cst (.int 0))) aNil)) (aCons (op2 ixD (vr 0) (cst (.int 1))) aNil))) (cst (.int 1)))))
def d_is_ratio : List Vl → Store → Res Vl := closeD (fnV 1 0 b_is_ratio)
def b_is_colour : SM :=
    retM (andE (isiM "tuple" (vr 0)) (andE (op2 eqD (opN lenD (aCons (vr 0) aNil)) (cst (.int 3))) (opN allD (aCons (lcM (itM (vr 0)) (bName 1) [1] tYesM (callM d_is_ratio (aCons (vr 1) aNil))) aNil))))
def d_is_colour : List Vl → Store → Res Vl := closeD (fnV 1 1 b_is_colour)
def b_is_unit : SM :=
    retM (chM leD leD (cst (.int 0)) (op2 ixD (vr 0) (cst (.int 0))) (op2 ixD (vr 0) (cst (.int 1))))
def d_is_unit : List Vl → Store → Res Vl := closeD (fnV 1 0 b_is_unit)
def b_is_plain : SM :=
    retM (andE (callM d_is_colour (aCons (vr 0) aNil)) (opN allD (aCons (lcM (itM (vr 0)) (bName 1) [1] tYesM (callM d_is_unit (aCons (vr 1) aNil))) aNil)))
def d_is_plain : List Vl → Store → Res Vl := closeD (fnV 1 1 b_is_plain)
def b_is_below : SM :=
    retM (op2 ltD (op2 mulD (op2 ixD (vr 0) (cst (.int 0))) (op2 ixD (vr 1) (cst (.int 1)))) (op2 mulD (op2 ixD (vr 1) (cst (.int 0))) (op2 ixD (vr 0) (cst (.int 1)))))
def d_is_below : List Vl → Store → Res Vl := closeD (fnV 2 0 b_is_below)
def b_made : SM :=
    seqM (setM 2 (callM d_shared (aCons (opN absD (aCons (vr 0) aNil)) (aCons (opN absD (aCons (vr 1) aNil)) aNil))))
        (seqM (setM 3 (ifE (truM (op2 gtD (vr 1) (cst (.int 0)))) (cst (.int 1)) (op1 negD (cst (.int 1)))))
        (retM (tupM (aCons (op2 fdivD (op2 mulD (vr 3) (vr 0)) (vr 2)) (aCons (op2 fdivD (op2 mulD (vr 3) (vr 1)) (vr 2)) aNil)))))
def d_made : List Vl → Store → Res Vl := closeD (fnV 2 2 b_made)
def b_add : SM :=
    retM (callM d_made (aCons (op2 addD (op2 mulD (op2 ixD (vr 0) (cst (.int 0))) (op2 ixD (vr 1) (cst (.int 1)))) (op2 mulD (op2 ixD (vr 1) (cst (.int 0))) (op2 ixD (vr 0) (cst (.int 1))))) (aCons (op2 mulD (op2 ixD (vr 0) (cst (.int 1))) (op2 ixD (vr 1) (cst (.int 1)))) aNil)))
def d_add : List Vl → Store → Res Vl := closeD (fnV 2 0 b_add)
def b_product : SM :=
    retM (callM d_made (aCons (op2 mulD (op2 ixD (vr 0) (cst (.int 0))) (op2 ixD (vr 1) (cst (.int 0)))) (aCons (op2 mulD (op2 ixD (vr 0) (cst (.int 1))) (op2 ixD (vr 1) (cst (.int 1)))) aNil)))
def d_product : List Vl → Store → Res Vl := closeD (fnV 2 0 b_product)
def b_dot_of : SM :=
    retM (ifE (truM (callM d_is_below (aCons (callM d_add (aCons (callM d_made (aCons (vr 2) (aCons (cst (.int 1)) aNil))) (aCons (cst c_HALF) aNil))) (aCons (callM d_product (aCons (vr 0) (aCons (callM d_made (aCons (vr 1) (aCons (cst (.int 1)) aNil))) aNil))) aNil)))) (cst (.int 1)) (cst (.int 0)))
def d_dot_of : List Vl → Store → Res Vl := closeD (fnV 3 0 b_dot_of)
def b_dots_of : SM :=
    seqM (dropM (callM d_check (aCons (callM d_is_screen (aCons (vr 0) aNil)) aNil)))
        (seqM (dropM (callM d_check (aCons (callM d_is_plain (aCons (vr 1) aNil)) aNil)))
        (seqM (setM 2 (op2 mulD (opN lenD (aCons (vr 0) aNil)) (opN lenD (aCons (op2 ixD (vr 0) (cst (.int 0))) aNil))))
        (retM (opN tupleD (aCons (lcM (itM (vr 0)) (bName 3) [3] tYesM (opN tupleD (aCons (lcM (itM (vr 3)) (bName 4) [4] tYesM (opN tupleD (aCons (lcM (itM (vr 1)) (bName 5) [5] tYesM (callM d_dot_of (aCons (vr 5) (aCons (vr 2) (aCons (vr 4) aNil))))) aNil))) aNil))) aNil)))))
def d_dots_of : List Vl → Store → Res Vl := closeD (fnV 2 4 b_dots_of)
def b_is_within : SM :=
    retM (andE (callM d_is_integer (aCons (vr 0) aNil)) (chM leD leD (vr 1) (vr 0) (vr 2)))
def d_is_within : List Vl → Store → Res Vl := closeD (fnV 3 0 b_is_within)
def b_are_levels : SM :=
    retM (andE (isiM "tuple" (vr 0)) (andE (op2 eqD (opN lenD (aCons (vr 0) aNil)) (cst (.int 3))) (opN allD (aCons (lcM (itM (vr 0)) (bName 1) [1] tYesM (callM d_is_within (aCons (vr 1) (aCons (cst (.int 2)) (aCons (cst c_MOST_LEVELS) aNil))))) aNil))))
def d_are_levels : List Vl → Store → Res Vl := closeD (fnV 1 1 b_are_levels)
def b_unit_of : SM :=
    seqM (ifS (truM (op2 ltD (op2 ixD (vr 0) (cst (.int 0))) (cst (.int 0)))) (retM (cst c_ZERO)) skipM)
        (retM (ifE (truM (op2 gtD (op2 ixD (vr 0) (cst (.int 0))) (op2 ixD (vr 0) (cst (.int 1))))) (cst c_ONE) (vr 0)))
def d_unit_of : List Vl → Store → Res Vl := closeD (fnV 1 0 b_unit_of)
def b_plain_of : SM :=
    retM (opN tupleD (aCons (lcM (itM (vr 0)) (bName 1) [1] tYesM (callM d_unit_of (aCons (vr 1) aNil))) aNil))
def d_plain_of : List Vl → Store → Res Vl := closeD (fnV 1 1 b_plain_of)
def b_index_of : SM :=
    retM (op2 fdivD (op2 addD (op2 mulD (op2 mulD (cst (.int 2)) (op2 ixD (vr 1) (cst (.int 0)))) (op2 subD (vr 0) (cst (.int 1)))) (op2 ixD (vr 1) (cst (.int 1)))) (op2 mulD (cst (.int 2)) (op2 ixD (vr 1) (cst (.int 1)))))
def d_index_of : List Vl → Store → Res Vl := closeD (fnV 2 0 b_index_of)
def b_put_by : SM :=
    retM (opN tupleD (aCons (lcM (zipM (aCons (vr 0) (aCons (vr 1) aNil))) (bTup [bName 2, bName 3]) [2, 3] tYesM (callM d_made (aCons (callM d_index_of (aCons (vr 2) (aCons (vr 3) aNil))) (aCons (op2 subD (vr 2) (cst (.int 1))) aNil)))) aNil))
def d_put_by : List Vl → Store → Res Vl := closeD (fnV 2 2 b_put_by)
def b_less : SM :=
    retM (callM d_made (aCons (op2 subD (op2 mulD (op2 ixD (vr 0) (cst (.int 0))) (op2 ixD (vr 1) (cst (.int 1)))) (op2 mulD (op2 ixD (vr 1) (cst (.int 0))) (op2 ixD (vr 0) (cst (.int 1))))) (aCons (op2 mulD (op2 ixD (vr 0) (cst (.int 1))) (op2 ixD (vr 1) (cst (.int 1)))) aNil)))
def d_less : List Vl → Store → Res Vl := closeD (fnV 2 0 b_less)
def b_spread : SM :=
    seqM (dropM (callM d_check (aCons (callM d_are_levels (aCons (vr 0) aNil)) aNil)))
        (seqM (dropM (callM d_check (aCons (andE (isiM "tuple" (vr 1)) (andE (op2 gtD (opN lenD (aCons (vr 1) aNil)) (cst (.int 0))) (opN allD (aCons (lcM (itM (vr 1)) (bName 2) [2] tYesM (callM d_is_plain (aCons (vr 2) aNil))) aNil)))) aNil)))
        (seqM (parM3 3 4 5 (aCons (lstC aNil) (aCons (tupM (aCons (cst c_ZERO) (aCons (cst c_ZERO) (aCons (cst c_ZERO) aNil)))) (aCons (cst (.bool false)) aNil))))
        (seqM (forM (bName 2) (itM (vr 1)) (seqM (setM 6 (opN tupleD (aCons (lcM (zipM (aCons (vr 2) (aCons (vr 4) aNil))) (bTup [bName 8, bName 9]) [8, 9] tYesM (callM d_add (aCons (vr 8) (aCons (vr 9) aNil)))) aNil)))
        (seqM (setM 7 (callM d_plain_of (aCons (vr 6) aNil)))
        (seqM (setM 5 (orE (vr 5) (op2 neD (vr 7) (vr 6))))
        (seqM (dropM (appM (vr 3) (callM d_put_by (aCons (vr 0) (aCons (vr 7) aNil)))))
        (setM 4 (opN tupleD (aCons (lcM (zipM (aCons (vr 7) (aCons (op2 ixD (vr 3) (op1 negD (cst (.int 1)))) aNil))) (bTup [bName 8, bName 9]) [8, 9] tYesM (callM d_less (aCons (vr 8) (aCons (vr 9) aNil)))) aNil))))))))
        (retM (tupM (aCons (opN tupleD (aCons (vr 3) aNil)) (aCons (vr 5) aNil)))))))
def d_spread : List Vl → Store → Res Vl := closeD (fnV 2 8 b_spread)
def b_grown_screen : SM :=
    seqM (dropM (callM d_check (aCons (callM d_is_within (aCons (vr 0) (aCons (cst (.int 0)) (aCons (cst c_MOST_GROWN) aNil)))) aNil)))
        (seqM (setM 1 (tupM (aCons (tupM (aCons (cst (.int 0)) aNil)) aNil)))
        (seqM (forM (bName 2) (rng1M (aCons (vr 0) aNil)) (seqM (setM 3 (lcM (itM (vr 1)) (bName 5) [5] tYesM (opN tupleD (aCons (op2 addD (lcM (itM (vr 5)) (bName 6) [6] tYesM (op2 mulD (cst (.int 4)) (vr 6))) (lcM (itM (vr 5)) (bName 6) [6] tYesM (op2 addD (op2 mulD (cst (.int 4)) (vr 6)) (cst (.int 2))))) aNil))))
        (seqM (setM 4 (lcM (itM (vr 1)) (bName 5) [5] tYesM (opN tupleD (aCons (op2 addD (lcM (itM (vr 5)) (bName 6) [6] tYesM (op2 addD (op2 mulD (cst (.int 4)) (vr 6)) (cst (.int 3)))) (lcM (itM (vr 5)) (bName 6) [6] tYesM (op2 addD (op2 mulD (cst (.int 4)) (vr 6)) (cst (.int 1))))) aNil))))
        (setM 1 (tupM (aStar (vr 3) (aStar (vr 4) aNil)))))))
        (retM (vr 1))))
def d_grown_screen : List Vl → Store → Res Vl := closeD (fnV 1 6 b_grown_screen)
def b_is_dots : SM :=
    retM (andE (isiM "tuple" (vr 0)) (andE (op2 eqD (opN lenD (aCons (vr 0) aNil)) (cst (.int 3))) (opN allD (aCons (lcM (itM (vr 0)) (bName 1) [1] tYesM (andE (callM d_is_integer (aCons (vr 1) aNil)) (op2 inD (vr 1) (cst c_DOTS)))) aNil))))
def d_is_dots : List Vl → Store → Res Vl := closeD (fnV 1 1 b_is_dots)
def b_total : SM :=
    seqM (setM 1 (cst c_ZERO))
        (seqM (forM (bName 2) (itM (vr 0)) (setM 1 (callM d_add (aCons (vr 1) (aCons (vr 2) aNil)))))
        (retM (vr 1)))
def d_total : List Vl → Store → Res Vl := closeD (fnV 1 2 b_total)
def b_mean_of : SM :=
    seqM (dropM (callM d_check (aCons (callM d_are_rows (aCons (vr 0) aNil)) aNil)))
        (seqM (setM 1 (lc2M (itM (vr 0)) (bName 4) [4, 5] tYesM (itM (vr 4)) (bName 5) [5] tYesM (vr 5)))
        (seqM (setM 2 (opN allD (aCons (lcM (itM (vr 1)) (bName 5) [5] tYesM (callM d_is_dots (aCons (vr 5) aNil))) aNil)))
        (seqM (dropM (callM d_check (aCons (orE (vr 2) (opN allD (aCons (lcM (itM (vr 1)) (bName 5) [5] tYesM (callM d_is_colour (aCons (vr 5) aNil))) aNil))) aNil)))
        (seqM (ifS (truM (vr 2)) (setM 1 (lcM (itM (vr 1)) (bName 5) [5] tYesM (opN tupleD (aCons (lcM (itM (vr 5)) (bName 7) [7] tYesM (callM d_made (aCons (vr 7) (aCons (cst (.int 1)) aNil)))) aNil)))) skipM)
        (seqM (setM 3 (callM d_made (aCons (cst (.int 1)) (aCons (opN lenD (aCons (vr 1) aNil)) aNil))))
        (retM (opN tupleD (aCons (lcM (rng1M (aCons (cst (.int 3)) aNil)) (bName 6) [6] tYesM (callM d_product (aCons (callM d_total (aCons (lcM (itM (vr 1)) (bName 5) [5] tYesM (op2 ixD (vr 5) (vr 6))) aNil)) (aCons (vr 3) aNil)))) aNil))))))))
def d_mean_of : List Vl → Store → Res Vl := closeD (fnV 1 7 b_mean_of)
def b_u_law_told : SM :=
    tryM exm (seqM (ifS (truM (op2 ltD (vr 0) (cst (.int 2)))) (retM (ifE (truM (op2 eqD (vr 0) (cst (.int 0)))) (callM d_grown_screen (aCons (vr 1) aNil)) (callM d_mean_of (aCons (vr 1) aNil)))) skipM)
        (retM (ifE (truM (op2 eqD (vr 0) (cst (.int 2)))) (callM d_dots_of (aCons (vr 1) (aCons (vr 2) aNil))) (callM d_spread (aCons (vr 1) (aCons (vr 2) aNil)))))) [(1, retM (tupM (aCons (cst (.str "refused")) (aCons (cst (.str "not right")) aNil)))), (0, retM (tupM (aCons (cst (.str "refused")) (aCons (cst (.str "other")) aNil))))]
def d_u_law_told : List Vl → Store → Res Vl := closeD (fnV 3 0 b_u_law_told)
def b_u_law_place : SM :=
    seqM (setM 3 (cst (.int 0)))
        (seqM (forM (bName 4) (rng1M (aCons (vr 0) aNil)) (seqM (parM 5 6 (aCons (op2 modD (opN intD (aCons (vr 1) aNil)) (cst (.int 2))) (aCons (op2 modD (opN intD (aCons (vr 2) aNil)) (cst (.int 2))) aNil)))
        (seqM (setM 3 (op2 addD (op2 mulD (cst (.int 4)) (vr 3)) (op2 ixD (op2 ixD (lstD (aCons (lstD (aCons (cst (.int 0)) (aCons (cst (.int 2)) aNil))) (aCons (lstD (aCons (cst (.int 3)) (aCons (cst (.int 1)) aNil))) aNil))) (vr 5)) (vr 6))))
        (parM 1 2 (aCons (op2 fdivD (vr 1) (cst (.int 2))) (aCons (op2 fdivD (vr 2) (cst (.int 2))) aNil))))))
        (retM (vr 3)))
def d_u_law_place : List Vl → Store → Res Vl := closeD (fnV 3 4 b_u_law_place)
def b_u_law_grown : SM :=
    seqM (setM 1 (op2 ixD (lstD (aCons (cst (.int 1)) (aCons (cst (.int 2)) (aCons (cst (.int 4)) (aCons (cst (.int 8)) (aCons (cst (.int 16)) (aCons (cst (.int 32)) aNil))))))) (vr 0)))
        (retM (opN tupleD (aCons (lcM (rng1M (aCons (vr 1) aNil)) (bName 2) [2] tYesM (opN tupleD (aCons (lcM (rng1M (aCons (vr 1) aNil)) (bName 3) [3] tYesM (callM d_u_law_place (aCons (vr 0) (aCons (vr 2) (aCons (vr 3) aNil))))) aNil))) aNil)))
def d_u_law_grown : List Vl → Store → Res Vl := closeD (fnV 1 3 b_u_law_grown)
def b_u_law_mixed : SM :=
    seqM (parM 2 3 (aCons (opNC listL (aCons (vr 1) aNil)) (aCons (lstC aNil) aNil)))
        (seqM (whileM (truM (op2 neD (vr 2) (lstD aNil))) (dropM (appM (vr 3) (popAtM (vr 2) (callM d_u_law_take (aCons (vr 0) (aCons (opN lenD (aCons (vr 2) aNil)) aNil)))))))
        (retM (vr 3)))
def d_u_law_mixed : List Vl → Store → Res Vl := closeD (fnV 2 2 b_u_law_mixed)
def b_u_law_drawn_screen : SM :=
    seqM (parGM [2, 3] (aCons (op2 addD (cst (.int 1)) (callM d_u_law_take (aCons (vr 0) (aCons (cst (.int 4)) aNil)))) (aCons (op2 addD (cst (.int 1)) (callM d_u_law_take (aCons (vr 0) (aCons (cst (.int 5)) aNil)))) aNil)))
        (seqM (setM 1 (callM d_u_law_mixed (aCons (vr 0) (aCons (lrngM (op2 mulD (vr 2) (vr 3))) aNil))))
        (retM (opN tupleD (aCons (lcM (rng1M (aCons (vr 2) aNil)) (bName 4) [4] tYesM (opN tupleD (aCons (sliceM (vr 1) (someO (op2 mulD (vr 4) (vr 3))) (someO (op2 addD (op2 mulD (vr 4) (vr 3)) (vr 3)))) aNil))) aNil))))
def d_u_law_drawn_screen : List Vl → Store → Res Vl := closeD (fnV 1 4 b_u_law_drawn_screen)
def b_u_law_less : SM :=
    retM (op2 ltD (op2 mulD (op2 ixD (vr 0) (cst (.int 0))) (op2 ixD (vr 1) (cst (.int 1)))) (op2 mulD (op2 ixD (vr 1) (cst (.int 0))) (op2 ixD (vr 0) (cst (.int 1)))))
def d_u_law_less : List Vl → Store → Res Vl := closeD (fnV 2 0 b_u_law_less)
def b_u_law_clip : SM :=
    retM (ifE (truM (op2 ltD (op2 ixD (vr 0) (cst (.int 0))) (cst (.int 0)))) (tupM (aCons (cst (.int 0)) (aCons (cst (.int 1)) aNil))) (ifE (truM (op2 gtD (op2 ixD (vr 0) (cst (.int 0))) (op2 ixD (vr 0) (cst (.int 1))))) (tupM (aCons (cst (.int 1)) (aCons (cst (.int 1)) aNil))) (vr 0)))
def d_u_law_clip : List Vl → Store → Res Vl := closeD (fnV 1 0 b_u_law_clip)
def b_u_law_dots : SM :=
    seqM (setM 2 (op2 mulD (opN lenD (aCons (vr 0) aNil)) (opN lenD (aCons (op2 ixD (vr 0) (cst (.int 0))) aNil))))
        (seqM (setM 3 (lstC aNil))
        (seqM (forM (bName 4) (itM (vr 0)) (dropM (appM (vr 3) (opN tupleD (aCons (lcM (itM (vr 4)) (bName 5) [5] tYesM (opN tupleD (aCons (lcM (itM (vr 1)) (bName 6) [6] tYesM (opN intD (aCons (op2 gtD (op2 mulD (op2 mulD (cst (.int 2)) (op2 ixD (vr 6) (cst (.int 0)))) (vr 2)) (op2 mulD (op2 ixD (vr 6) (cst (.int 1))) (op2 addD (op2 mulD (cst (.int 2)) (vr 5)) (cst (.int 1))))) aNil))) aNil))) aNil)))))
        (retM (opN tupleD (aCons (vr 3) aNil)))))
def d_u_law_dots : List Vl → Store → Res Vl := closeD (fnV 2 5 b_u_law_dots)
def b_u_law_r : SM :=
    seqM (parM 3 4 (aCons (opN absD (aCons (vr 0) aNil)) (aCons (opN absD (aCons (vr 1) aNil)) aNil)))
        (seqM (forM (bName 2) (rng1M (aCons (cst (.int 900)) aNil)) (seqM (ifS (truM (op2 eqD (vr 4) (cst (.int 0)))) brkM skipM)
        (parM 3 4 (aCons (vr 4) (aCons (op2 modD (opN intD (aCons (vr 3) aNil)) (vr 4)) aNil)))))
        (retM (ifE (truM (op2 gtD (vr 1) (cst (.int 0)))) (tupM (aCons (op2 fdivD (vr 0) (vr 3)) (aCons (op2 fdivD (vr 1) (vr 3)) aNil))) (tupM (aCons (op2 subD (cst (.int 0)) (op2 fdivD (vr 0) (vr 3))) (aCons (op2 subD (cst (.int 0)) (op2 fdivD (vr 1) (vr 3))) aNil))))))
def d_u_law_r : List Vl → Store → Res Vl := closeD (fnV 2 3 b_u_law_r)
def b_u_law_mul : SM :=
    retM (callM d_u_law_r (aCons (op2 mulD (op2 ixD (vr 0) (cst (.int 0))) (op2 ixD (vr 1) (cst (.int 0)))) (aCons (op2 mulD (op2 ixD (vr 0) (cst (.int 1))) (op2 ixD (vr 1) (cst (.int 1)))) aNil)))
def d_u_law_mul : List Vl → Store → Res Vl := closeD (fnV 2 0 b_u_law_mul)
def b_u_law_add : SM :=
    retM (callM d_u_law_r (aCons (op2 addD (op2 mulD (op2 ixD (vr 0) (cst (.int 0))) (op2 ixD (vr 1) (cst (.int 1)))) (op2 mulD (op2 ixD (vr 1) (cst (.int 0))) (op2 ixD (vr 0) (cst (.int 1))))) (aCons (op2 mulD (op2 ixD (vr 0) (cst (.int 1))) (op2 ixD (vr 1) (cst (.int 1)))) aNil)))
def d_u_law_add : List Vl → Store → Res Vl := closeD (fnV 2 0 b_u_law_add)
def b_u_law_sum : SM :=
    seqM (setM 1 (tupM (aCons (cst (.int 0)) (aCons (cst (.int 1)) aNil))))
        (seqM (forM (bName 2) (itM (vr 0)) (setM 1 (callM d_u_law_add (aCons (vr 1) (aCons (vr 2) aNil)))))
        (retM (vr 1)))
def d_u_law_sum : List Vl → Store → Res Vl := closeD (fnV 1 2 b_u_law_sum)
def b_u_law_mean : SM :=
    seqM (setM 1 (opN sumLD (aCons (lcM (itM (vr 0)) (bName 5) [5] tYesM (opN listD (aCons (vr 5) aNil))) (aCons (lstD aNil) aNil))))
        (seqM (setM 2 (lstC aNil))
        (seqM (forM (bName 3) (rng1M (aCons (cst (.int 3)) aNil)) (seqM (setM 4 (lcM (itM (vr 1)) (bName 6) [6] tYesM (ifE (truM (isiM "tuple" (op2 ixD (vr 6) (vr 3)))) (op2 ixD (vr 6) (vr 3)) (tupM (aCons (op2 ixD (vr 6) (vr 3)) (aCons (cst (.int 1)) aNil))))))
        (dropM (appM (vr 2) (callM d_u_law_mul (aCons (callM d_u_law_sum (aCons (vr 4) aNil)) (aCons (tupM (aCons (cst (.int 1)) (aCons (opN lenD (aCons (vr 1) aNil)) aNil))) aNil)))))))
        (retM (opN tupleD (aCons (lcM (itM (vr 2)) (bName 7) [7] tYesM (callM d_u_law_r (aCons (op2 ixD (vr 7) (cst (.int 0))) (aCons (op2 ixD (vr 7) (cst (.int 1))) aNil)))) aNil)))))
def d_u_law_mean : List Vl → Store → Res Vl := closeD (fnV 1 7 b_u_law_mean)
def b_u_law_sub : SM :=
    retM (callM d_u_law_r (aCons (op2 subD (op2 mulD (op2 ixD (vr 0) (cst (.int 0))) (op2 ixD (vr 1) (cst (.int 1)))) (op2 mulD (op2 ixD (vr 1) (cst (.int 0))) (op2 ixD (vr 0) (cst (.int 1))))) (aCons (op2 mulD (op2 ixD (vr 0) (cst (.int 1))) (op2 ixD (vr 1) (cst (.int 1)))) aNil)))
def d_u_law_sub : List Vl → Store → Res Vl := closeD (fnV 2 0 b_u_law_sub)
def b_u_law_distance : SM :=
    seqM (setM 2 (tupM (aCons (cst (.int 0)) (aCons (cst (.int 1)) aNil))))
        (seqM (forM (bName 3) (rng1M (aCons (cst (.int 3)) aNil)) (seqM (setM 4 (callM d_u_law_sub (aCons (op2 ixD (vr 0) (vr 3)) (aCons (op2 ixD (vr 1) (vr 3)) aNil))))
        (seqM (setM 4 (tupM (aCons (opN absD (aCons (op2 ixD (vr 4) (cst (.int 0))) aNil)) (aCons (op2 ixD (vr 4) (cst (.int 1))) aNil))))
        (setM 2 (ifE (truM (callM d_u_law_less (aCons (vr 2) (aCons (vr 4) aNil)))) (vr 4) (vr 2))))))
        (retM (vr 2)))
def d_u_law_distance : List Vl → Store → Res Vl := closeD (fnV 2 3 b_u_law_distance)
def b_u_law_number : SM :=
    retM (callM d_u_law_pick (aCons (vr 0) (aCons (lstD (aCons (tupM (aCons (cst (.int 0)) (aCons (cst (.int 1)) aNil))) (aCons (tupM (aCons (cst (.int 1)) (aCons (cst (.int 1)) aNil))) (aCons (tupM (aCons (cst (.int 1)) (aCons (cst (.int 2)) aNil))) (aCons (tupM (aCons (cst (.int 1)) (aCons (cst (.int 4)) aNil))) (aCons (tupM (aCons (cst (.int 3)) (aCons (cst (.int 4)) aNil))) (aCons (tupM (aCons (cst (.int 1)) (aCons (cst (.int 3)) aNil))) (aCons (tupM (aCons (cst (.int 2)) (aCons (cst (.int 5)) aNil))) (aCons (tupM (aCons (cst (.int 7)) (aCons (cst (.int 8)) aNil))) aNil))))))))) aNil)))
def d_u_law_number : List Vl → Store → Res Vl := closeD (fnV 1 0 b_u_law_number)
def b_u_law_are_dots_due : SM :=
    seqM (setM 2 (opN tupleD (aCons (lcM (rng1M (aCons (cst (.int 3)) aNil)) (bName 10) [10] tYesM (callM d_u_law_pick (aCons (vr 0) (aCons (lstD (aCons (callM d_u_law_number (aCons (vr 0) aNil)) (aCons (callM d_u_law_r (aCons (callM d_u_law_take (aCons (vr 0) (aCons (cst (.int 30)) aNil))) (aCons (cst (.int 29)) aNil))) aNil))) aNil)))) aNil)))
        (seqM (setM 3 (opN tupleD (aCons (lcM (itM (vr 2)) (bName 11) [11] tYesM (callM d_u_law_clip (aCons (callM d_u_law_add (aCons (vr 11) (aCons (callM d_u_law_number (aCons (vr 0) aNil)) aNil))) aNil))) aNil)))
        (seqM (parGM [5, 6] (aCons (callM d_u_law_told (aCons (cst (.int 2)) (aCons (vr 1) (aCons (vr 2) aNil)))) (aCons (callM d_u_law_told (aCons (cst (.int 2)) (aCons (vr 1) (aCons (vr 3) aNil)))) aNil)))
        (seqM (ifS (orT (truM (op2 neD (vr 5) (callM d_u_law_dots (aCons (vr 1) (aCons (vr 2) aNil))))) (truM (op2 neD (vr 6) (callM d_u_law_dots (aCons (vr 1) (aCons (vr 3) aNil)))))) (retM (cst (.bool false))) skipM)
        (seqM (forM (bName 4) (rng1M (aCons (opN lenD (aCons (vr 1) aNil)) aNil)) (forM (bName 7) (rng1M (aCons (opN lenD (aCons (op2 ixD (vr 1) (cst (.int 0))) aNil)) aNil)) (ifS (truM (op2 neD (lcM (rng1M (aCons (cst (.int 3)) aNil)) (bName 10) [10] (truM (op2 gtD (op2 ixD (op2 ixD (op2 ixD (vr 5) (vr 4)) (vr 7)) (vr 10)) (op2 ixD (op2 ixD (op2 ixD (vr 6) (vr 4)) (vr 7)) (vr 10)))) (vr 10)) (lstD aNil))) (retM (cst (.bool false))) skipM)))
        (seqM (parM 8 9 (aCons (callM d_u_law_told (aCons (cst (.int 1)) (aCons (vr 5) (aCons (cst .none) aNil)))) (aCons (op2 mulD (opN lenD (aCons (vr 1) aNil)) (opN lenD (aCons (op2 ixD (vr 1) (cst (.int 0))) aNil))) aNil)))
        (seqM (ifS (orT (truM (op2 neD (vr 8) (callM d_u_law_mean (aCons (vr 5) aNil)))) (truM (op2 neD (callM d_u_law_told (aCons (cst (.int 1)) (aCons (tupM (aCons (tupM (aCons (vr 2) (aCons (vr 3) aNil))) (aCons (tupM (aCons (vr 3) (aCons (vr 3) aNil))) aNil))) (aCons (cst .none) aNil)))) (callM d_u_law_mean (aCons (tupM (aCons (tupM (aCons (vr 2) (aCons (vr 3) aNil))) (aCons (tupM (aCons (vr 3) (aCons (vr 3) aNil))) aNil))) aNil))))) (retM (cst (.bool false))) skipM)
        (retM (notE (callM d_u_law_less (aCons (tupM (aCons (cst (.int 1)) (aCons (op2 mulD (cst (.int 2)) (vr 9)) aNil))) (aCons (callM d_u_law_distance (aCons (vr 8) (aCons (vr 2) aNil))) aNil)))))))))))
def d_u_law_are_dots_due : List Vl → Store → Res Vl := closeD (fnV 2 10 b_u_law_are_dots_due)
def b_u_law_colour : SM :=
    retM (opN tupleD (aCons (lcM (rng1M (aCons (cst (.int 3)) aNil)) (bName 1) [1] tYesM (callM d_u_law_number (aCons (vr 0) aNil))) aNil))
def d_u_law_colour : List Vl → Store → Res Vl := closeD (fnV 1 1 b_u_law_colour)
def b_put_to : SM :=
    seqM (dropM (callM d_check (aCons (callM d_are_levels (aCons (vr 0) aNil)) aNil)))
        (seqM (dropM (callM d_check (aCons (callM d_is_plain (aCons (vr 1) aNil)) aNil)))
        (retM (callM d_put_by (aCons (vr 0) (aCons (vr 1) aNil)))))
def d_put_to : List Vl → Store → Res Vl := closeD (fnV 2 0 b_put_to)
def b_u_law_nearest : SM :=
    seqM (setM 2 (cst .none))
        (seqM (forM (bName 3) (rng1M (aCons (vr 0) aNil)) (seqM (setM 4 (callM d_u_law_sub (aCons (callM d_u_law_r (aCons (vr 3) (aCons (op2 subD (vr 0) (cst (.int 1))) aNil))) (aCons (vr 1) aNil))))
        (seqM (setM 4 (tupM (aCons (opN absD (aCons (op2 ixD (vr 4) (cst (.int 0))) aNil)) (aCons (op2 ixD (vr 4) (cst (.int 1))) aNil))))
        (setM 2 (ifE (orT (truM (op2 isND (vr 2) (cst .none))) (notT (truM (callM d_u_law_less (aCons (op2 ixD (vr 2) (cst (.int 0))) (aCons (vr 4) aNil)))))) (tupM (aCons (vr 4) (aCons (callM d_u_law_r (aCons (vr 3) (aCons (op2 subD (vr 0) (cst (.int 1))) aNil))) aNil))) (vr 2))))))
        (retM (op2 ixD (vr 2) (cst (.int 1)))))
def d_u_law_nearest : List Vl → Store → Res Vl := closeD (fnV 2 3 b_u_law_nearest)
def b_u_law_is_spread_due : SM :=
    seqM (setM 1 (opN tupleD (aCons (lcM (rng1M (aCons (cst (.int 3)) aNil)) (bName 12) [12] tYesM (op2 addD (cst (.int 2)) (callM d_u_law_take (aCons (vr 0) (aCons (cst (.int 5)) aNil))))) aNil)))
        (seqM (setM 2 (op2 eqD (callM d_u_law_take (aCons (vr 0) (aCons (cst (.int 2)) aNil))) (cst (.int 0))))
        (seqM (setM 3 (lcM (rng1M (aCons (op2 addD (cst (.int 1)) (callM d_u_law_take (aCons (vr 0) (aCons (cst (.int 7)) aNil)))) aNil)) (bName 12) [12] tYesM (callM d_u_law_colour (aCons (vr 0) aNil))))
        (seqM (ifS (truM (vr 2)) (setM 3 (lcM (itM (vr 3)) (bName 4) [4] tYesM (opN tupleD (aCons (lcM (itM (vr 4)) (bName 14) [14] tYesM (callM d_u_law_add (aCons (tupM (aCons (cst (.int 1)) (aCons (cst (.int 3)) aNil))) (aCons (callM d_u_law_mul (aCons (vr 14) (aCons (tupM (aCons (cst (.int 1)) (aCons (cst (.int 3)) aNil))) aNil))) aNil)))) aNil)))) skipM)
        (seqM (parGM [7, 8, 9] (aCons (lstC aNil) (aCons (tupM (aCons (tupM (aCons (cst (.int 0)) (aCons (cst (.int 1)) aNil))) (aCons (tupM (aCons (cst (.int 0)) (aCons (cst (.int 1)) aNil))) (aCons (tupM (aCons (cst (.int 0)) (aCons (cst (.int 1)) aNil))) aNil)))) (aCons (cst (.bool false)) aNil))))
        (seqM (forM (bName 4) (itM (vr 3)) (seqM (setM 10 (lcM (rng1M (aCons (cst (.int 3)) aNil)) (bName 12) [12] tYesM (callM d_u_law_add (aCons (op2 ixD (vr 4) (vr 12)) (aCons (op2 ixD (vr 8) (vr 12)) aNil)))))
        (seqM (setM 11 (lcM (itM (vr 10)) (bName 14) [14] tYesM (callM d_u_law_clip (aCons (vr 14) aNil))))
        (seqM (setM 9 (orE (vr 9) (op2 neD (vr 11) (vr 10))))
        (seqM (dropM (appM (vr 7) (opN tupleD (aCons (lcM (rng1M (aCons (cst (.int 3)) aNil)) (bName 12) [12] tYesM (callM d_u_law_nearest (aCons (op2 ixD (vr 1) (vr 12)) (aCons (op2 ixD (vr 11) (vr 12)) aNil)))) aNil))))
        (setM 8 (lcM (rng1M (aCons (cst (.int 3)) aNil)) (bName 12) [12] tYesM (callM d_u_law_sub (aCons (op2 ixD (vr 11) (vr 12)) (aCons (op2 ixD (op2 ixD (vr 7) (op1 negD (cst (.int 1)))) (vr 12)) aNil))))))))))
        (seqM (setM 5 (callM d_u_law_told (aCons (cst (.int 3)) (aCons (vr 1) (aCons (opN tupleD (aCons (vr 3) aNil)) aNil)))))
        (seqM (ifS (orT (truM (op2 neD (vr 5) (tupM (aCons (opN tupleD (aCons (vr 7) aNil)) (aCons (vr 9) aNil))))) (truM (op2 neD (callM d_put_to (aCons (vr 1) (aCons (op2 ixD (vr 3) (cst (.int 0))) aNil))) (op2 ixD (vr 7) (cst (.int 0)))))) (retM (cst (.bool false))) skipM)
        (seqM (forM (bName 6) (rng2M (aCons (cst (.int 1)) (aCons (op2 mulD (op2 addD (opN lenD (aCons (vr 3) aNil)) (cst (.int 1))) (opN intD (aCons (notE (vr 9)) aNil))) aNil))) (forM (bName 12) (rng1M (aCons (cst (.int 3)) aNil)) (seqM (setM 13 (callM d_u_law_sub (aCons (callM d_u_law_sum (aCons (lcM (itM (sliceM (vr 3) noO (someO (vr 6)))) (bName 4) [4] tYesM (op2 ixD (vr 4) (vr 12))) aNil)) (aCons (callM d_u_law_sum (aCons (lcM (itM (sliceM (vr 7) noO (someO (vr 6)))) (bName 4) [4] tYesM (op2 ixD (vr 4) (vr 12))) aNil)) aNil))))
        (ifS (truM (callM d_u_law_less (aCons (tupM (aCons (cst (.int 1)) (aCons (op2 mulD (cst (.int 2)) (op2 subD (op2 ixD (vr 1) (vr 12)) (cst (.int 1)))) aNil))) (aCons (tupM (aCons (opN absD (aCons (op2 ixD (vr 13) (cst (.int 0))) aNil)) (aCons (op2 ixD (vr 13) (cst (.int 1))) aNil))) aNil)))) (retM (cst (.bool false))) skipM))))
        (retM (cst (.bool true)))))))))))
def d_u_law_is_spread_due : List Vl → Store → Res Vl := closeD (fnV 1 14 b_u_law_is_spread_due)
def b_u_law_are_refused : SM :=
    seqM (setM 1 (lstD (aCons (cst .none) (aCons (tupM aNil) (aCons (tupM (aCons (tupM aNil) aNil)) (aCons (tupM (aCons (tupM (aCons (cst (.int 0)) (aCons (cst (.int 1)) aNil))) (aCons (tupM (aCons (cst (.int 2)) aNil)) aNil))) (aCons (tupM (aCons (tupM (aCons (cst (.int 1)) (aCons (cst (.int 2)) aNil))) aNil)) (aCons (tupM (aCons (tupM (aCons (cst (.int 0)) (aCons (cst (.int 0)) aNil))) aNil)) (aCons (lstD (aCons (lstD (aCons (cst (.int 0)) aNil)) aNil)) (aCons (tupM (aCons (tupM (aCons (cst (.int 0)) aNil)) (aCons (lstD (aCons (cst (.int 1)) aNil)) aNil))) (aCons (tupM (aCons (tupM (aCons (cst (.int 0)) (aCons (cst .none) aNil))) aNil)) (aCons (tupM (aCons (tupM (aCons (cst (.bool false)) aNil)) aNil)) (aCons (tupM (aCons (tupM (aCons (cst (.int 0)) (aCons (cst (.int 1)) (aCons (cst (.int 3)) aNil)))) aNil)) aNil)))))))))))))
        (seqM (ifS (orT (truM (op2 neD (lcM (itM (vr 1)) (bName 9) [9] tYesM (callM d_is_screen (aCons (vr 9) aNil))) (op2 mulD (lstD (aCons (cst (.bool false)) aNil)) (opN lenD (aCons (vr 1) aNil))))) (truM (op2 notBD (callM d_is_screen (aCons (tupM (aCons (tupM (aCons (cst (.int 0)) aNil)) aNil)) aNil)) (cst (.bool true))))) (retM (cst (.bool false))) skipM)
        (seqM (parGM [4, 5] (aCons (tupM (aCons (tupM (aCons (cst (.int 1)) (aCons (cst (.int 2)) aNil))) (aCons (tupM (aCons (cst (.int 0)) (aCons (cst (.int 1)) aNil))) (aCons (tupM (aCons (cst (.int 1)) (aCons (cst (.int 1)) aNil))) aNil)))) (aCons (tupM (aCons (tupM (aCons (cst (.int 2)) (aCons (cst (.int 1)) aNil))) (aCons (tupM (aCons (cst (.int 0)) (aCons (cst (.int 1)) aNil))) (aCons (tupM (aCons (cst (.int 0)) (aCons (cst (.int 1)) aNil))) aNil)))) aNil)))
        (seqM (parM 6 7 (aCons (callM d_u_law_pick (aCons (vr 0) (aCons (vr 1) aNil))) (aCons (callM d_u_law_pick (aCons (vr 0) (aCons (lstD (aCons (cst .none) (aCons (vr 5) (aCons (sliceM (vr 4) noO (someO (cst (.int 2)))) (aCons (cst (.int 5)) aNil))))) aNil))) aNil)))
        (seqM (setM 2 (callM d_u_law_pick (aCons (vr 0) (aCons (lstD (aCons (cst .none) (aCons (tupM aNil) (aCons (tupM (aCons (tupM aNil) aNil)) (aCons (tupM (aCons (tupM (aCons (tupM (aCons (cst (.int 1)) (aCons (cst (.int 0)) (aCons (cst (.int 2)) aNil)))) aNil)) aNil)) (aCons (tupM (aCons (tupM (aCons (tupM (aCons (cst (.int 1)) (aCons (cst (.int 0)) aNil))) aNil)) aNil)) (aCons (tupM (aCons (tupM (aCons (tupM (aCons (cst (.int 1)) (aCons (cst (.int 0)) (aCons (cst (.int 1)) aNil)))) (aCons (tupM (aCons (cst (.int 1)) (aCons (cst (.int 1)) (aCons (cst (.int 1)) aNil)))) aNil))) (aCons (tupM (aCons (tupM (aCons (cst (.int 0)) (aCons (cst (.int 0)) (aCons (cst (.int 0)) aNil)))) aNil)) aNil))) (aCons (tupM (aCons (tupM (aCons (vr 4) (aCons (tupM (aCons (cst (.int 1)) (aCons (cst (.int 0)) (aCons (cst (.int 1)) aNil)))) aNil))) aNil)) (aCons (tupM (aCons (tupM (aCons (tupM (aCons (cst (.bool true)) (aCons (cst (.int 0)) (aCons (cst (.int 0)) aNil)))) aNil)) aNil)) aNil))))))))) aNil))))
        (seqM (setM 3 (op2 addD (lcM (itM (lstD (aCons (cst .none) (aCons (op1 negD (cst (.int 1))) (aCons (cst (.int 6)) (aCons (cst (.bool true)) aNil)))))) (bName 8) [8] tYesM (callM d_u_law_told (aCons (cst (.int 0)) (aCons (vr 8) (aCons (cst .none) aNil))))) (lstD (aCons (callM d_u_law_told (aCons (cst (.int 1)) (aCons (vr 2) (aCons (cst .none) aNil)))) (aCons (callM d_u_law_told (aCons (cst (.int 2)) (aCons (vr 6) (aCons (vr 4) aNil)))) (aCons (callM d_u_law_told (aCons (cst (.int 2)) (aCons (tupM (aCons (tupM (aCons (cst (.int 0)) aNil)) aNil)) (aCons (vr 7) aNil)))) aNil))))))
        (seqM (setM 3 (op2 addD (vr 3) (lstD (aCons (callM d_u_law_told (aCons (cst (.int 3)) (aCons (callM d_u_law_pick (aCons (vr 0) (aCons (lstD (aCons (cst .none) (aCons (tupM (aCons (cst (.int 2)) (aCons (cst (.int 2)) aNil))) (aCons (tupM (aCons (cst (.int 1)) (aCons (cst (.int 2)) (aCons (cst (.int 2)) aNil)))) (aCons (tupM (aCons (cst (.int 2)) (aCons (cst (.int 2)) (aCons (cst (.int 300)) aNil)))) aNil))))) aNil))) (aCons (tupM (aCons (vr 4) aNil)) aNil)))) aNil))))
        (seqM (setM 3 (op2 addD (vr 3) (lstD (aCons (callM d_u_law_told (aCons (cst (.int 3)) (aCons (tupM (aCons (cst (.int 2)) (aCons (cst (.int 2)) (aCons (cst (.int 2)) aNil)))) (aCons (tupM aNil) aNil)))) (aCons (callM d_u_law_told (aCons (cst (.int 3)) (aCons (tupM (aCons (cst (.int 2)) (aCons (cst (.int 2)) (aCons (cst (.int 2)) aNil)))) (aCons (lstD (aCons (vr 4) aNil)) aNil)))) (aCons (callM d_u_law_told (aCons (cst (.int 3)) (aCons (tupM (aCons (cst (.int 2)) (aCons (cst (.int 2)) (aCons (cst (.int 2)) aNil)))) (aCons (tupM (aCons (vr 4) (aCons (vr 5) aNil))) aNil)))) aNil))))))
        (retM (op2 eqD (vr 3) (op2 mulD (lstD (aCons (tupM (aCons (cst (.str "refused")) (aCons (cst (.str "not right")) aNil))) aNil)) (cst (.int 11))))))))))))
def d_u_law_are_refused : List Vl → Store → Res Vl := closeD (fnV 1 9 b_u_law_are_refused)
def b_law : SM :=
    seqM (setM 1 (callM d_u_law_draws (aCons (vr 0) aNil)))
        (seqM (forM (bName 2) (rng1M (aCons (cst (.int 6)) aNil)) (ifS (orT (truM (op2 neD (callM d_u_law_told (aCons (cst (.int 0)) (aCons (vr 2) (aCons (cst .none) aNil)))) (callM d_u_law_grown (aCons (vr 2) aNil)))) (truM (op2 notBD (callM d_is_screen (aCons (callM d_u_law_grown (aCons (vr 2) aNil)) aNil)) (cst (.bool true))))) (retM (cst (.bool false))) skipM))
        (seqM (forM (bName 3) (rng1M (aCons (cst (.int 5)) aNil)) (seqM (setM 4 (callM d_u_law_pick (aCons (vr 1) (aCons (lstD (aCons (callM d_u_law_drawn_screen (aCons (vr 1) aNil)) (aCons (callM d_u_law_grown (aCons (callM d_u_law_take (aCons (vr 1) (aCons (cst (.int 3)) aNil))) aNil)) aNil))) aNil))))
        (seqM (ifS (orT (truM (op2 notBD (callM d_is_screen (aCons (vr 4) aNil)) (cst (.bool true)))) (orT (notT (truM (callM d_u_law_are_dots_due (aCons (vr 1) (aCons (vr 4) aNil))))) (notT (truM (callM d_u_law_is_spread_due (aCons (vr 1) aNil)))))) (retM (cst (.bool false))) skipM)
        (seqM (setM 5 (op2 addD (sliceM (vr 4) noO (someO (op1 negD (cst (.int 1))))) (tupM (aCons (op2 addD (sliceM (op2 ixD (vr 4) (op1 negD (cst (.int 1)))) noO (someO (op1 negD (cst (.int 1))))) (tupM (aCons (op2 addD (op2 ixD (op2 ixD (vr 4) (op1 negD (cst (.int 1)))) (op1 negD (cst (.int 1)))) (cst (.int 1))) aNil))) aNil))))
        (ifS (orT (truM (op2 notBD (callM d_is_screen (aCons (vr 5) aNil)) (cst (.bool false)))) (notT (truM (callM d_u_law_are_refused (aCons (vr 1) aNil))))) (retM (cst (.bool false))) skipM)))))
        (retM (cst (.bool true)))))
def d_law : List Vl → Store → Res Vl := closeD (fnV 1 5 b_law)
end
end K27

set_option Elab.async false
set_option linter.all false
set_option maxRecDepth 100000
set_option maxHeartbeats 4000000
/-! RtK: what the ratio defs compute. -/
namespace K27
open PySem L2 Pd
theorem shared_loop (b : Nat) : ∀ (a : Nat) (st : Store), ∃ n, whileN (truM (op2 gtD (vr 1) (cst (.int 0)))) (parM 0 1 (aCons (vr 1) (aCons (op2 modD (vr 0) (vr 1)) aNil))) n [some (.dat (.int a)), some (.dat (.int b))] st = .nx [some (.dat (.int (Nat.gcd a b))), some (.dat (.int 0))] st := by
  induction b using Nat.strongRecOn with
  | ind b ih =>
    intro a st
    by_cases h : b = 0
    · subst h
      exact ⟨1, by simp [whileN]⟩
    · obtain ⟨n, hn⟩ := ih (a % b) (Nat.mod_lt _ (by omega)) b st
      refine ⟨n + 1, ?_⟩
      have h2 : (0 : Int) < (b : Int) := by omega
      have h3 : 0 < b := by omega
      rw [gcd_step] at hn
      simp [whileN, h2, h3]
      exact hn
theorem shared_run (a b : Nat) (st : Store) : d_shared [.dat (.int a), .dat (.int b)] st = .ok (.dat (.int (Nat.gcd a b))) st := by
  refine call_rt rfl ?_
  obtain ⟨n, hn⟩ := shared_loop b a st
  show seqM _ _ _ _ = _
  simp only [seqO_nx, seqO_rt, seqO_exc, optO_some, cnd_true, cnd_false, parO_two, loopO_nx, loopO_rt, loopO_bk, ev_seqM]
  rw [show ((List.map some [Vl.dat (.int a), Vl.dat (.int b)]) ++ List.replicate 0 none) = [some (.dat (.int a)), some (.dat (.int b))] from rfl, whileM_eq hn (by simp)]
  simp
theorem made_run {n d : Int} (st : Store) (hn : n.natAbs < 2 ^ 4000) (h0 : d ≠ 0) (hd : d.natAbs < 2 ^ 4000) : d_made [.dat (.int n), .dat (.int d)] st = .ok (.dat (rt (Rat.divInt n d))) st := by
  have hs : (if 0 < d then (1 : Int) else -1) = d.sign := by
    split
    · rw [Int.sign_eq_one_of_pos (by assumption)]
    · rw [Int.sign_eq_neg_one_of_neg (by omega)]
  have hg0 : 0 < Nat.gcd n.natAbs d.natAbs := Nat.gcd_pos_of_pos_right _ (by omega)
  have hg : ((Nat.gcd n.natAbs d.natAbs : Nat) : Int).natAbs < 2 ^ 4000 := Nat.lt_of_le_of_lt (Nat.gcd_le_right _ (by omega)) hd
  have hq : divOk ((Nat.gcd n.natAbs d.natAbs : Nat) : Int) = true := divOk_lt (by omega) hg (by decide)
  have hsl : d.sign.natAbs < 2 ^ 1 := by rw [Int.natAbs_sign]; split <;> decide
  have m1 : mulOk d.sign n = true := mulOk_lt hsl hn (by decide)
  have m2 : mulOk d.sign d = true := mulOk_lt hsl hd (by decide)
  rw [rt_made h0]
  refine call_rt rfl ?_
  have e := shared_run n.natAbs d.natAbs st
  have hs2 : cnd (decide (0 < d)) (Res.ok (Vl.dat (PyData.int 1)) st) (Res.ok (Vl.dat (PyData.int (-1))) st) = Res.ok (Vl.dat (PyData.int d.sign)) st := by
    rw [← hs]
    by_cases h : 0 < d
    · rw [decide_eq_true h, if_pos h]
      rfl
    · rw [decide_eq_false h, if_neg h]
      rfl
  have e6 : (2 : Nat) ≤ sizeLine := by decide
  simp only [seqO_nx, seqO_rt, seqO_exc, optO_some, cnd_true, cnd_false, parO_two, loopO_nx, loopO_rt, loopO_bk, b_made, List.map_cons, List.map_nil, List.replicate, List.cons_append, List.nil_append, ev_seqM, ev_setM, ev_callM, ev_aCons, ev_aNil, ev_opN, ev_vr, List.getElem?_cons_zero, List.getElem?_cons_succ, Res.bind_ok, apN1, absD_int, ofO_some, abs_eq, e, bindS_ok, List.set, ev_ifE, ev_truM, ev_op2, ev_op1, ev_cst, ap2_dat, gtD_int, peek_dat, truD_bool, negD_int, hs2, ev_retM, ev_tupM, mulD_int, m1, m2, if_true, fdivD_int, hq, toDs_cons, toDs_nil, toD_dat, List.length_cons, List.length_nil, Nat.zero_add, e6]
theorem add_run {a b : Rat} (st : Store) (ha : Sz 1000 a) (hb : Sz 1000 b) : d_add [.dat (rt a), .dat (rt b)] st = .ok (.dat (rt (a + b))) st := by
  refine call_rt rfl ?_
  have d1 := den_ne a
  have d2 := den_ne b
  have e := made_run (n := a.num * b.den + b.num * a.den) (d := a.den * b.den) st (Nat.lt_of_lt_of_le (natAbs_add_lt (natAbs_mul_lt ha.1 hb.2) (natAbs_mul_lt hb.1 ha.2)) (Nat.pow_le_pow_right (by decide) (by decide))) (Int.mul_ne_zero d1 d2) (Nat.lt_of_lt_of_le (natAbs_mul_lt (i := (a.den : Int)) ha.2 hb.2) (Nat.pow_le_pow_right (by decide) (by decide)))
  have m1 : mulOk a.num b.den = true := mulOk_lt ha.1 hb.2 (by decide)
  have m2 : mulOk b.num a.den = true := mulOk_lt hb.1 ha.2 (by decide)
  have m3 : mulOk a.den b.den = true := mulOk_lt (i := (a.den : Int)) ha.2 hb.2 (by decide)
  rw [add_divInt]
  simp [b_add, rt, m1, m2, m3, e]
theorem less_run {a b : Rat} (st : Store) (ha : Sz 1000 a) (hb : Sz 1000 b) : d_less [.dat (rt a), .dat (rt b)] st = .ok (.dat (rt (a - b))) st := by
  refine call_rt rfl ?_
  have d1 := den_ne a
  have d2 := den_ne b
  have e := made_run (n := a.num * b.den - b.num * a.den) (d := a.den * b.den) st (Nat.lt_of_lt_of_le (natAbs_sub_lt (natAbs_mul_lt ha.1 hb.2) (natAbs_mul_lt hb.1 ha.2)) (Nat.pow_le_pow_right (by decide) (by decide))) (Int.mul_ne_zero d1 d2) (Nat.lt_of_lt_of_le (natAbs_mul_lt (i := (a.den : Int)) ha.2 hb.2) (Nat.pow_le_pow_right (by decide) (by decide)))
  have m1 : mulOk a.num b.den = true := mulOk_lt ha.1 hb.2 (by decide)
  have m2 : mulOk b.num a.den = true := mulOk_lt hb.1 ha.2 (by decide)
  have m3 : mulOk a.den b.den = true := mulOk_lt (i := (a.den : Int)) ha.2 hb.2 (by decide)
  rw [sub_divInt]
  simp [b_less, rt, m1, m2, m3, e]
theorem product_run {a b : Rat} (st : Store) (ha : Sz 1000 a) (hb : Sz 1000 b) : d_product [.dat (rt a), .dat (rt b)] st = .ok (.dat (rt (a * b))) st := by
  refine call_rt rfl ?_
  have d1 := den_ne a
  have d2 := den_ne b
  have e := made_run (n := a.num * b.num) (d := a.den * b.den) st (Nat.lt_of_lt_of_le (natAbs_mul_lt ha.1 hb.1) (Nat.pow_le_pow_right (by decide) (by decide))) (Int.mul_ne_zero d1 d2) (Nat.lt_of_lt_of_le (natAbs_mul_lt (i := (a.den : Int)) ha.2 hb.2) (Nat.pow_le_pow_right (by decide) (by decide)))
  have m1 : mulOk a.num b.num = true := mulOk_lt ha.1 hb.1 (by decide)
  have m3 : mulOk a.den b.den = true := mulOk_lt (i := (a.den : Int)) ha.2 hb.2 (by decide)
  rw [mul_divInt]
  simp [b_product, rt, m1, m3, e]
theorem num_ne {b : Rat} (h : b ≠ 0) : b.num ≠ 0 := fun z => h (Rat.num_eq_zero.mp z)
theorem below_run {a b : Rat} (st : Store) (ha : Sz 1000 a) (hb : Sz 1000 b) : d_is_below [.dat (rt a), .dat (rt b)] st = .ok (.dat (.bool (decide (a < b)))) st := by
  refine call_rt rfl ?_
  have m1 : mulOk a.num b.den = true := mulOk_lt ha.1 hb.2 (by decide)
  have m2 : mulOk b.num a.den = true := mulOk_lt hb.1 ha.2 (by decide)
  simp [b_is_below, rt, m1, m2, lt_num]
theorem lless_run {a b : Rat} (st : Store) (ha : Sz 1000 a) (hb : Sz 1000 b) : d_u_law_less [.dat (rt a), .dat (rt b)] st = .ok (.dat (.bool (decide (a < b)))) st := by
  refine call_rt rfl ?_
  have m1 : mulOk a.num b.den = true := mulOk_lt ha.1 hb.2 (by decide)
  have m2 : mulOk b.num a.den = true := mulOk_lt hb.1 ha.2 (by decide)
  simp [b_u_law_less, rt, m1, m2, lt_num]
theorem isint_run (i : Int) (st : Store) : d_is_integer [.dat (.int i)] st = .ok (.dat (.bool true)) st := by
  refine call_rt rfl ?_
  simp [b_is_integer]
theorem isratio_run (q : Rat) (st : Store) : d_is_ratio [.dat (rt q)] st = .ok (.dat (.bool true)) st := by
  refine call_rt rfl ?_
  have e := shared_run q.num.natAbs q.den st
  have h : Nat.gcd q.num.natAbs q.den = 1 := q.reduced
  rw [h] at e
  have hp := q.den_pos
  simp [b_is_ratio, rt, isint_run, abs_eq, e, hp]
theorem check_run (st : Store) : d_check [.dat (.bool true)] st = .ok (.dat .none) st := by
  refine call_nx (s' := [some (.dat (.bool true))]) rfl ?_
  simp [b_check]
theorem check_bad (st : Store) : d_check [.dat (.bool false)] st = .exc 1 none st := by
  refine call_exc (s' := [some (.dat (.bool false))]) rfl ?_
  simp [b_check]
theorem zero_rt : c_ZERO = rt 0 := rfl
theorem one_rt : c_ONE = rt 1 := rfl
theorem zero_sz : Sz 1 0 := ⟨by decide, by decide⟩
/-! the law's own ratios -/
theorem r_loop (n d : Int) (st : Store) : ∀ (k a b : Nat) (ds : List D) (o : Option Vl), b ≤ a → a * b < 2 ^ k → k ≤ ds.length →
    ∃ o', loopM (tgM (bName 2) (seqM (ifS (truM (op2 eqD (vr 4) (cst (.int 0)))) brkM skipM)
        (parM 3 4 (aCons (vr 4) (aCons (op2 modD (opN intD (aCons (vr 3) aNil)) (vr 4)) aNil))))) ds [some (.dat (.int n)), some (.dat (.int d)), o, some (.dat (.int a)), some (.dat (.int b))] st
      = .nx [some (.dat (.int n)), some (.dat (.int d)), o', some (.dat (.int (Nat.gcd a b))), some (.dat (.int 0))] st := by
  have zero : ∀ (a : Nat) (ds : List D) (o : Option Vl), ∃ o', loopM (tgM (bName 2) (seqM (ifS (truM (op2 eqD (vr 4) (cst (.int 0)))) brkM skipM)
        (parM 3 4 (aCons (vr 4) (aCons (op2 modD (opN intD (aCons (vr 3) aNil)) (vr 4)) aNil))))) ds [some (.dat (.int n)), some (.dat (.int d)), o, some (.dat (.int a)), some (.dat (.int (0 : Nat)))] st
      = .nx [some (.dat (.int n)), some (.dat (.int d)), o', some (.dat (.int (Nat.gcd a 0))), some (.dat (.int 0))] st := by
    intro a ds o
    cases ds with
    | nil => exact ⟨o, by simp⟩
    | cons x r => exact ⟨some (.dat x), by simp [loopM_cons]⟩
  intro k
  induction k with
  | zero =>
    intro a b ds o h1 h2 h3
    have hb : b = 0 := by
      rcases Nat.eq_zero_or_pos b with h | h
      · exact h
      · have := Nat.mul_pos (Nat.lt_of_lt_of_le h h1) h
        simp at h2
        omega
    subst hb
    exact zero a ds o
  | succ k ih =>
    intro a b ds o h1 h2 h3
    by_cases hb : b = 0
    · subst hb
      exact zero a ds o
    · cases ds with
      | nil => simp at h3
      | cons x r =>
        have hm : a % b < b := Nat.mod_lt _ (by omega)
        have h4 : b * (a % b) < 2 ^ k := by
          have h5 : 2 * (a % b) ≤ a := by
            have h6 := Nat.div_add_mod a b
            have h7 : 1 ≤ a / b := Nat.div_pos h1 (by omega)
            have h8 : b * 1 ≤ b * (a / b) := Nat.mul_le_mul_left _ h7
            omega
          have h9 : b * (2 * (a % b)) ≤ b * a := Nat.mul_le_mul_left _ h5
          rw [Nat.mul_comm a b, Nat.pow_succ] at h2
          have h10 : b * (2 * (a % b)) = 2 * (b * (a % b)) := Nat.mul_left_comm ..
          omega
        obtain ⟨o', e⟩ := ih b (a % b) r (some (.dat x)) (by omega) h4 (by simpa using h3)
        refine ⟨o', ?_⟩
        rw [gcd_step] at e
        rw [← e]
        have h5 : 0 < b := by omega
        have h6 : ¬ ((b : Int) = 0) := by omega
        simp [loopM_cons, h5, hb]
theorem rr_run {n d : Int} (st : Store) (hn : n.natAbs < 2 ^ 400) (h0 : d ≠ 0) (hd : d.natAbs < 2 ^ 400) : d_u_law_r [.dat (.int n), .dat (.int d)] st = .ok (.dat (rt (Rat.divInt n d))) st := by
  refine call_rt rfl ?_
  have hg0 : 0 < Nat.gcd n.natAbs d.natAbs := Nat.gcd_pos_of_pos_right _ (by omega)
  have hg : ((Nat.gcd n.natAbs d.natAbs : Nat) : Int).natAbs < 2 ^ 400 := Nat.lt_of_le_of_lt (Nat.gcd_le_right _ (by omega)) hd
  have hq : divOk ((Nat.gcd n.natAbs d.natAbs : Nat) : Int) = true := divOk_lt (by omega) hg (by decide)
  have e6 : (2 : Nat) ≤ sizeLine := by decide
  have hL : ∃ o', loopM (tgM (bName 2) (seqM (ifS (truM (op2 eqD (vr 4) (cst (.int 0)))) brkM skipM)
        (parM 3 4 (aCons (vr 4) (aCons (op2 modD (opN intD (aCons (vr 3) aNil)) (vr 4)) aNil))))) (rngD 0 900 1) [some (.dat (.int n)), some (.dat (.int d)), none, some (.dat (.int n.natAbs)), some (.dat (.int d.natAbs))] st
      = .nx [some (.dat (.int n)), some (.dat (.int d)), o', some (.dat (.int (Nat.gcd n.natAbs d.natAbs))), some (.dat (.int 0))] st := by
    have hp : n.natAbs * d.natAbs < 2 ^ 800 := by
      rw [show (800 : Nat) = 400 + 400 from rfl, Nat.pow_add]
      exact Nat.mul_lt_mul'' hn hd
    by_cases h : d.natAbs ≤ n.natAbs
    · exact r_loop n d st 800 _ _ _ none h hp (by rw [rngD_len]; decide)
    · have e9 : rngD 0 900 1 = .int 0 :: (rngD 0 900 1).tail := by rfl
      obtain ⟨o', e⟩ := r_loop n d st 800 d.natAbs n.natAbs (rngD 0 900 1).tail (some (.dat (.int 0))) (by omega) (by rw [Nat.mul_comm]; exact hp) (by rw [List.length_tail, rngD_len]; decide)
      refine ⟨o', ?_⟩
      rw [Nat.gcd_comm] at e
      rw [e9, ← e]
      have h5 : 0 < d.natAbs := by omega
      have h7 : ¬ (d.natAbs = 0) := by omega
      have h6 : ((n.natAbs : Int) % (d.natAbs : Int)) = (n.natAbs : Int) := Int.emod_eq_of_lt (by omega) (by omega)
      simp only [seqO_nx, seqO_rt, seqO_exc, optO_some, cnd_true, cnd_false, parO_two, loopO_nx, loopO_rt, loopO_bk, loopM_cons, ev_tgM, ev_bName, ev_seqM, ev_ifS, ev_truM, ev_op2, ev_vr, List.set, List.getElem?_cons_zero, List.getElem?_cons_succ, Res.bind_ok, ev_cst, ap2_dat, eqD_int, ofO_some, peek_dat, truD_bool, bindS_ok, decide_eq_true_eq]
      rw [decide_eq_false (by omega : ¬ ((d.natAbs : Int) = 0))]
      simp only [seqO_nx, seqO_rt, seqO_exc, optO_some, cnd_true, cnd_false, parO_two, loopO_nx, loopO_rt, loopO_bk, ev_skipM, ev_parM, ev_aCons, ev_aNil, ev_vr, ev_op2, ev_opN, List.set, List.getElem?_cons_zero, List.getElem?_cons_succ, Res.bind_ok, apN1, intD_int, ofO_some, ap2_dat, modD_int, bindS_ok, h6]
      rw [if_pos (by omega)]
      simp only [ofO_some, Res.bind_ok, bindS_ok, parO_two, List.set, seqO_nx, loopO_nx]
  obtain ⟨o', hL⟩ := hL
  rw [rt_made h0]
  simp only [seqO_nx, seqO_rt, seqO_exc, optO_some, cnd_true, cnd_false, parO_two, loopO_nx, loopO_rt, loopO_bk, b_u_law_r, List.map_cons, List.map_nil, List.replicate, List.cons_append, List.nil_append, ev_seqM, ev_parM, ev_callM, ev_aCons, ev_aNil, ev_opN, ev_vr, List.getElem?_cons_zero, List.getElem?_cons_succ, Res.bind_ok, apN1, absD_int, ofO_some, abs_eq, bindS_ok, List.set, ev_forM]
  rw [run_rng1 (n := 900) (st1 := st) rfl (by decide)]
  simp only [bindS_ok]
  rw [hL]
  have dn : ((Nat.gcd n.natAbs d.natAbs : Nat) : Int) ∣ n := Int.ofNat_dvd_left.mpr (Nat.gcd_dvd_left _ _)
  have dd : ((Nat.gcd n.natAbs d.natAbs : Nat) : Int) ∣ d := Int.ofNat_dvd_left.mpr (Nat.gcd_dvd_right _ _)
  by_cases hp : 0 < d
  · rw [Int.sign_eq_one_of_pos hp]
    simp [hp, hq, e6]
  · rw [Int.sign_eq_neg_one_of_neg (by omega)]
    have e1 : -1 * n / ((Nat.gcd n.natAbs d.natAbs : Nat) : Int) = 0 - n / ((Nat.gcd n.natAbs d.natAbs : Nat) : Int) := by
      rw [show -1 * n = -n by omega, Int.neg_ediv_of_dvd dn]
      omega
    have e2 : -1 * d / ((Nat.gcd n.natAbs d.natAbs : Nat) : Int) = 0 - d / ((Nat.gcd n.natAbs d.natAbs : Nat) : Int) := by
      rw [show -1 * d = -d by omega, Int.neg_ediv_of_dvd dd]
      omega
    rw [e1, e2]
    simp [hp, hq, e6]
theorem ladd_run {a b : Rat} (st : Store) (ha : Sz 190 a) (hb : Sz 190 b) : d_u_law_add [.dat (rt a), .dat (rt b)] st = .ok (.dat (rt (a + b))) st := by
  refine call_rt rfl ?_
  have d1 := den_ne a
  have d2 := den_ne b
  have e := rr_run (n := a.num * b.den + b.num * a.den) (d := a.den * b.den) st (Nat.lt_of_lt_of_le (natAbs_add_lt (natAbs_mul_lt ha.1 hb.2) (natAbs_mul_lt hb.1 ha.2)) (Nat.pow_le_pow_right (by decide) (by decide))) (Int.mul_ne_zero d1 d2) (Nat.lt_of_lt_of_le (natAbs_mul_lt (i := (a.den : Int)) ha.2 hb.2) (Nat.pow_le_pow_right (by decide) (by decide)))
  have m1 : mulOk a.num b.den = true := mulOk_lt ha.1 hb.2 (by decide)
  have m2 : mulOk b.num a.den = true := mulOk_lt hb.1 ha.2 (by decide)
  have m3 : mulOk a.den b.den = true := mulOk_lt (i := (a.den : Int)) ha.2 hb.2 (by decide)
  rw [add_divInt]
  simp [b_u_law_add, rt, m1, m2, m3, e]
theorem lsub_run {a b : Rat} (st : Store) (ha : Sz 190 a) (hb : Sz 190 b) : d_u_law_sub [.dat (rt a), .dat (rt b)] st = .ok (.dat (rt (a - b))) st := by
  refine call_rt rfl ?_
  have d1 := den_ne a
  have d2 := den_ne b
  have e := rr_run (n := a.num * b.den - b.num * a.den) (d := a.den * b.den) st (Nat.lt_of_lt_of_le (natAbs_sub_lt (natAbs_mul_lt ha.1 hb.2) (natAbs_mul_lt hb.1 ha.2)) (Nat.pow_le_pow_right (by decide) (by decide))) (Int.mul_ne_zero d1 d2) (Nat.lt_of_lt_of_le (natAbs_mul_lt (i := (a.den : Int)) ha.2 hb.2) (Nat.pow_le_pow_right (by decide) (by decide)))
  have m1 : mulOk a.num b.den = true := mulOk_lt ha.1 hb.2 (by decide)
  have m2 : mulOk b.num a.den = true := mulOk_lt hb.1 ha.2 (by decide)
  have m3 : mulOk a.den b.den = true := mulOk_lt (i := (a.den : Int)) ha.2 hb.2 (by decide)
  rw [sub_divInt]
  simp [b_u_law_sub, rt, m1, m2, m3, e]
theorem lmul_run {a b : Rat} (st : Store) (ha : Sz 190 a) (hb : Sz 190 b) : d_u_law_mul [.dat (rt a), .dat (rt b)] st = .ok (.dat (rt (a * b))) st := by
  refine call_rt rfl ?_
  have d1 := den_ne a
  have d2 := den_ne b
  have e := rr_run (n := a.num * b.num) (d := a.den * b.den) st (Nat.lt_of_lt_of_le (natAbs_mul_lt ha.1 hb.1) (Nat.pow_le_pow_right (by decide) (by decide))) (Int.mul_ne_zero d1 d2) (Nat.lt_of_lt_of_le (natAbs_mul_lt (i := (a.den : Int)) ha.2 hb.2) (Nat.pow_le_pow_right (by decide) (by decide)))
  have m1 : mulOk a.num b.num = true := mulOk_lt ha.1 hb.1 (by decide)
  have m3 : mulOk a.den b.den = true := mulOk_lt (i := (a.den : Int)) ha.2 hb.2 (by decide)
  rw [mul_divInt]
  simp [b_u_law_mul, rt, m1, m3, e]
end K27

set_option Elab.async false
set_option linter.all false
set_option maxRecDepth 100000
set_option maxHeartbeats 4000000
set_option exponentiation.threshold 5000
/-! DwK: the draws, and the curves made of them. -/
namespace K27
open PySem L2 Pd
abbrev dI (n : Int) : Vl := .dat (.int n)
abbrev cI (xs : List Int) : Cell := .lst (xs.map dI)
theorem sl3 : ∀ n : Nat, n ≤ 20000 → n ≤ sizeLine := fun n h => Nat.le_trans h (by decide)
theorem app_run {f g : EM} {s : Slots} {st : Store} {k : Nat} {xs : List Int} {n : Int} (hf : f s st = .ok (.cel k) st) (hk : st[k]? = some (cI xs)) (hg : g s st = .ok (.dat (.int n)) st) (hl : xs.length < 20000) : dropM (appM f g) s st = .nx s (st.set k (cI (xs ++ [n]))) := by
  have l1 : lstAt (.cel k) st = some (k, xs.map dI) := by
    unfold lstAt
    simp only [hk]
  have e : appM f g s st = .ok (.dat .none) (st.set k (cI (xs ++ [n]))) := by
    unfold appM
    rw [hf, Res.bind_ok]
    simp only [l1, hg, Res.bind_ok, toD_dat]
    rw [if_pos (Nat.lt_of_lt_of_le (by rw [List.length_map]; exact hl) (sl3 _ (Nat.le_refl _)))]
    unfold cI
    rw [List.map_append]
    rfl
  rw [ev_dropM, e, bindS_ok]
noncomputable abbrev dig_loop : SM := (ifS (truM (op2 gtD (vr 5) (cst (.int 0)))) (seqM (dropM (appM (vr 1) (op2 modD (opN intD (aCons (vr 5) aNil)) (cst (.int 997)))))
        (setM 5 (op2 fdivD (vr 5) (cst (.int 997))))) skipM)
theorem dig_run (a2 a3 a6 : Option Vl) (scr : Vl) : ∀ (l : List D) (xs : List Int) (n : Int) (o4 : Option Vl), xs.length + l.length < 20000 →
    ∃ xs' n' o4', xs'.length ≤ xs.length + l.length ∧ loopM (tgM (bName 4) dig_loop) l [some scr, some (.cel 0), a2, a3, o4, some (.dat (.int n)), a6] [cI xs] = .nx [some scr, some (.cel 0), a2, a3, o4', some (.dat (.int n')), a6] [cI xs']
  | [], xs, n, o4, _ => ⟨xs, n, o4, by simp, rfl⟩
  | x :: l, xs, n, o4, hl => by
    rw [List.length_cons] at hl
    by_cases h : 0 < n
    · obtain ⟨xs', n', o4', h1, e⟩ := dig_run a2 a3 a6 scr l (xs ++ [n % 997]) (n / 997) (some (.dat x)) (by simp; omega)
      refine ⟨xs', n', o4', by simp at h1 ⊢; omega, ?_⟩
      have hd : divOk 997 = true := by decide
      have e1 := app_run (f := vr 1) (g := op2 modD (opN intD (aCons (vr 5) aNil)) (cst (.int 997))) (s := [some scr, some (.cel 0), a2, a3, some (.dat x), some (.dat (.int n)), a6]) (st := [cI xs]) (k := 0) (xs := xs) (n := n % 997) rfl rfl (by simp) (by omega)
      have hb : tgM (bName 4) dig_loop x [some scr, some (.cel 0), a2, a3, o4, some (.dat (.int n)), a6] [cI xs] = .nx [some scr, some (.cel 0), a2, a3, some (.dat x), some (.dat (.int (n / 997))), a6] [cI (xs ++ [n % 997])] := by
        rw [ev_tgM, ev_bName, optO_some]
        show dig_loop [some scr, some (.cel 0), a2, a3, some (.dat x), some (.dat (.int n)), a6] [cI xs] = _
        rw [dig_loop, ev_ifS]
        simp only [ev_truM, ev_op2, ev_vr, ev_cst, List.getElem?_cons_zero, List.getElem?_cons_succ, Res.bind_ok, ap2_dat, gtD_int, ofO_some, peek_dat, truD_bool, bindS_ok, h, decide_true, cnd_true]
        rw [ev_seqM, e1, seqO_nx]
        simp only [ev_setM, ev_op2, ev_vr, ev_cst, List.getElem?_cons_zero, List.getElem?_cons_succ, Res.bind_ok, ap2_dat, fdivD_int, hd, if_true, ofO_some, bindS_ok, List.set]
      rw [loopM_cons, hb, loopO_nx]
      exact e
    · obtain ⟨xs', n', o4', h1, e⟩ := dig_run a2 a3 a6 scr l xs n (some (.dat x)) (by omega)
      refine ⟨xs', n', o4', by simp; omega, ?_⟩
      have hb : tgM (bName 4) dig_loop x [some scr, some (.cel 0), a2, a3, o4, some (.dat (.int n)), a6] [cI xs] = .nx [some scr, some (.cel 0), a2, a3, some (.dat x), some (.dat (.int n)), a6] [cI xs] := by
        rw [ev_tgM, ev_bName, optO_some]
        show dig_loop [some scr, some (.cel 0), a2, a3, some (.dat x), some (.dat (.int n)), a6] [cI xs] = _
        rw [dig_loop, ev_ifS]
        simp only [ev_truM, ev_op2, ev_vr, ev_cst, List.getElem?_cons_zero, List.getElem?_cons_succ, Res.bind_ok, ap2_dat, gtD_int, ofO_some, peek_dat, truD_bool, bindS_ok, h, decide_false, cnd_false, ev_skipM]
      rw [loopM_cons, hb, loopO_nx]
      exact e
noncomputable abbrev cell_loop : SM := (seqM (setM 5 (opN absD (aCons (vr 2) aNil)))
        (seqM (ifS (truM (op2 ltD (vr 5) (op2 powD (cst (.int 10)) (cst (.int 18))))) (seqM (setM 6 (op2 modD (opN intD (aCons (op2 addD (op2 mulD (vr 5) (cst (.int 48271))) (cst (.int 11))) aNil)) (cst (.int 2147483647))))
        (seqM (dropM (appM (vr 1) (op2 modD (opN intD (aCons (op2 addD (op2 mulD (vr 6) (cst (.int 69621))) (vr 5)) aNil)) (cst (.int 2147483629)))))
        (seqM (dropM (appM (vr 1) (op2 modD (opN intD (aCons (op2 addD (vr 6) (op2 fdivD (vr 5) (cst (.int 7)))) aNil)) (cst (.int 1000003)))))
        (setM 5 (cst (.int 0)))))) skipM)
        (forM (bName 4) (rng1M (aCons (cst (.int 60)) aNil)) dig_loop)))
theorem mul_r (i j : Int) (h : j.natAbs.log2 < 62) : mulD (.int i) (.int j) = some (.int (i * j)) := by
  rw [mulD_int, mulOk_r h, if_pos rfl]
theorem pow_18 : powD (.int 10) (.int 18) = some (.int 1000000000000000000) := by rfl
theorem cell_step (scr : Vl) (n : Int) (xs : List Int) (o2 o3 o4 o5 o6 : Option Vl) (hl : xs.length + 62 < 20000) :
    ∃ xs' o4' o5' o6', xs'.length ≤ xs.length + 62 ∧ tgM (bName 2) cell_loop (.int n) [some scr, some (.cel 0), o2, o3, o4, o5, o6] [cI xs] = .nx [some scr, some (.cel 0), some (.dat (.int n)), o3, o4', o5', o6'] [cI xs'] := by
  have hr : ∀ (s : Slots) (st : Store), rng1M (aCons (cst (.int 60)) aNil) s st = .ok (rngD 0 60 1) st := fun s st => run_rng1 (n := 60) rfl (by decide)
  rw [ev_tgM, ev_bName, optO_some]
  show ∃ xs' o4' o5' o6', _ ∧ cell_loop [some scr, some (.cel 0), some (.dat (.int n)), o3, o4, o5, o6] [cI xs] = _
  have h5 : setM 5 (opN absD (aCons (vr 2) aNil)) [some scr, some (.cel 0), some (.dat (.int n)), o3, o4, o5, o6] [cI xs] = .nx [some scr, some (.cel 0), some (.dat (.int n)), o3, o4, some (.dat (.int (if n < 0 then -n else n))), o6] [cI xs] := by
    simp only [ev_setM, ev_opN, ev_aCons, ev_aNil, ev_vr, List.getElem?_cons_zero, List.getElem?_cons_succ, Res.bind_ok, apN1, absD_int, ofO_some, bindS_ok, List.set]
  generalize (if n < 0 then -n else n) = m at h5
  rw [cell_loop, ev_seqM, h5, seqO_nx, ev_seqM, ev_ifS]
  simp only [ev_truM, ev_op2, ev_vr, ev_cst, List.getElem?_cons_zero, List.getElem?_cons_succ, Res.bind_ok, ap2_dat, pow_18, ltD_int, ofO_some, peek_dat, truD_bool, bindS_ok]
  cases hm : decide (m < 1000000000000000000) with
  | false =>
    obtain ⟨xs', n', o4', h1, e⟩ := dig_run (some (.dat (.int n))) o3 o6 scr (rngD 0 60 1) xs m o4 (by rw [rngD_len]; omega)
    rw [rngD_len] at h1
    refine ⟨xs', o4', some (.dat (.int n')), o6, by omega, ?_⟩
    rw [cnd_false, ev_skipM, seqO_nx, ev_forM, hr, bindS_ok]
    exact e
  | true =>
    have hd : divOk 7 = true := by decide
    have e1 := app_run (f := vr 1) (g := op2 modD (opN intD (aCons (op2 addD (op2 mulD (vr 6) (cst (.int 69621))) (vr 5)) aNil)) (cst (.int 2147483629))) (s := [some scr, some (.cel 0), some (.dat (.int n)), o3, o4, some (.dat (.int m)), some (.dat (.int ((m * 48271 + 11) % 2147483647)))]) (st := [cI xs]) (k := 0) (xs := xs) (n := (((m * 48271 + 11) % 2147483647) * 69621 + m) % 2147483629) rfl rfl (by
      simp only [ev_op2, ev_opN, ev_aCons, ev_aNil, ev_vr, ev_cst, List.getElem?_cons_zero, List.getElem?_cons_succ, Res.bind_ok, ap2_dat, mul_r _ 69621 (by decide), addD_int, ofO_some, apN1, intD_int, modD_int]
      rfl) (by omega)
    have e2 := app_run (f := vr 1) (g := op2 modD (opN intD (aCons (op2 addD (vr 6) (op2 fdivD (vr 5) (cst (.int 7)))) aNil)) (cst (.int 1000003))) (s := [some scr, some (.cel 0), some (.dat (.int n)), o3, o4, some (.dat (.int m)), some (.dat (.int ((m * 48271 + 11) % 2147483647)))]) (st := [cI (xs ++ [(((m * 48271 + 11) % 2147483647) * 69621 + m) % 2147483629])]) (k := 0) (xs := xs ++ [(((m * 48271 + 11) % 2147483647) * 69621 + m) % 2147483629]) (n := ((m * 48271 + 11) % 2147483647 + m / 7) % 1000003) rfl rfl (by
      simp only [ev_op2, ev_opN, ev_aCons, ev_aNil, ev_vr, ev_cst, List.getElem?_cons_zero, List.getElem?_cons_succ, Res.bind_ok, ap2_dat, fdivD_int, hd, if_true, addD_int, ofO_some, apN1, intD_int, modD_int]
      rfl) (by simp; omega)
    have h6 : setM 6 (op2 modD (opN intD (aCons (op2 addD (op2 mulD (vr 5) (cst (.int 48271))) (cst (.int 11))) aNil)) (cst (.int 2147483647))) [some scr, some (.cel 0), some (.dat (.int n)), o3, o4, some (.dat (.int m)), o6] [cI xs] = .nx [some scr, some (.cel 0), some (.dat (.int n)), o3, o4, some (.dat (.int m)), some (.dat (.int ((m * 48271 + 11) % 2147483647)))] [cI xs] := by
      simp only [ev_setM, ev_op2, ev_opN, ev_aCons, ev_aNil, ev_vr, ev_cst, List.getElem?_cons_zero, List.getElem?_cons_succ, Res.bind_ok, ap2_dat, mul_r _ 48271 (by decide), addD_int, ofO_some, apN1, intD_int, modD_int]
      rfl
    generalize (m * 48271 + 11) % 2147483647 = f at h6 e1 e2
    generalize (f * 69621 + m) % 2147483629 = g at e1 e2
    generalize (f + m / 7) % 1000003 = g2 at e2
    obtain ⟨xs', n', o4', h1, e⟩ := dig_run (some (.dat (.int n))) o3 (some (.dat (.int f))) scr (rngD 0 60 1) (xs ++ [g] ++ [g2]) 0 o4 (by rw [rngD_len]; simp; omega)
    rw [rngD_len] at h1
    refine ⟨xs', o4', some (.dat (.int n')), some (.dat (.int f)), by simp at h1; omega, ?_⟩
    rw [cnd_true, ev_seqM, h6, seqO_nx, ev_seqM, e1, seqO_nx]
    show seqO (seqM _ _ _ [cI (xs ++ [g])]) _ = _
    rw [ev_seqM, e2, seqO_nx, ev_setM, ev_cst, bindS_ok, seqO_nx, ev_forM, hr, bindS_ok]
    exact e
theorem cells_run (scr : Vl) : ∀ (ns : List Int) (xs : List Int) (o2 o3 o4 o5 o6 : Option Vl), xs.length + 62 * ns.length < 10000 →
    ∃ xs' o2' o4' o5' o6', xs'.length ≤ xs.length + 62 * ns.length ∧ loopM (tgM (bName 2) cell_loop) (ns.map .int) [some scr, some (.cel 0), o2, o3, o4, o5, o6] [cI xs] = .nx [some scr, some (.cel 0), o2', o3, o4', o5', o6'] [cI xs']
  | [], xs, o2, o3, o4, o5, o6, _ => ⟨xs, o2, o4, o5, o6, by simp, rfl⟩
  | n :: ns, xs, o2, o3, o4, o5, o6, hl => by
    rw [List.length_cons] at hl
    obtain ⟨xs1, p4, p5, p6, h1, e1⟩ := cell_step scr n xs o2 o3 o4 o5 o6 (by omega)
    obtain ⟨xs', o2', o4', o5', o6', h2, e2⟩ := cells_run scr ns xs1 (some (.dat (.int n))) o3 p4 p5 p6 (by omega)
    refine ⟨xs', o2', o4', o5', o6', by rw [List.length_cons]; omega, ?_⟩
    rw [List.map_cons, loopM_cons, e1, loopO_nx, e2]
noncomputable abbrev seed_loop : SM := (seqM (setM 3 (op2 modD (opN intD (aCons (op2 addD (op2 mulD (vr 3) (cst (.int 48271))) (cst (.int 69621))) aNil)) (cst (.int 2147483647))))
        (dropM (appM (vr 1) (op2 fdivD (vr 3) (cst (.int 5))))))
theorem seed_run (scr : Vl) (a2 a5 a6 : Option Vl) : ∀ (l : List D) (xs : List Int) (m : Int) (o4 : Option Vl), xs.length + l.length < 20000 →
    ∃ xs' m' o4', loopM (tgM (bName 4) seed_loop) l [some scr, some (.cel 0), a2, some (.dat (.int m)), o4, a5, a6] [cI xs] = .nx [some scr, some (.cel 0), a2, some (.dat (.int m')), o4', a5, a6] [cI xs']
  | [], xs, m, o4, _ => ⟨xs, m, o4, rfl⟩
  | x :: l, xs, m, o4, hl => by
    rw [List.length_cons] at hl
    have hd : divOk 5 = true := by decide
    have h6 : setM 3 (op2 modD (opN intD (aCons (op2 addD (op2 mulD (vr 3) (cst (.int 48271))) (cst (.int 69621))) aNil)) (cst (.int 2147483647))) [some scr, some (.cel 0), a2, some (.dat (.int m)), some (.dat x), a5, a6] [cI xs] = .nx [some scr, some (.cel 0), a2, some (.dat (.int ((m * 48271 + 69621) % 2147483647))), some (.dat x), a5, a6] [cI xs] := by
      simp only [ev_setM, ev_op2, ev_opN, ev_aCons, ev_aNil, ev_vr, ev_cst, List.getElem?_cons_zero, List.getElem?_cons_succ, Res.bind_ok, ap2_dat, mul_r _ 48271 (by decide), addD_int, ofO_some, apN1, intD_int, modD_int]
      rfl
    generalize (m * 48271 + 69621) % 2147483647 = q at h6
    have e1 := app_run (f := vr 1) (g := op2 fdivD (vr 3) (cst (.int 5))) (s := [some scr, some (.cel 0), a2, some (.dat (.int q)), some (.dat x), a5, a6]) (st := [cI xs]) (k := 0) (xs := xs) (n := q / 5) rfl rfl (by
      simp only [ev_op2, ev_vr, ev_cst, List.getElem?_cons_zero, List.getElem?_cons_succ, Res.bind_ok, ap2_dat, fdivD_int, hd, if_true, ofO_some]) (by omega)
    obtain ⟨xs', m', o4', e⟩ := seed_run scr a2 a5 a6 l (xs ++ [q / 5]) q (some (.dat x)) (by simp; omega)
    refine ⟨xs', m', o4', ?_⟩
    have hb : tgM (bName 4) seed_loop x [some scr, some (.cel 0), a2, some (.dat (.int m)), o4, a5, a6] [cI xs] = .nx [some scr, some (.cel 0), a2, some (.dat (.int q)), some (.dat x), a5, a6] [cI (xs ++ [q / 5])] := by
      rw [ev_tgM, ev_bName, optO_some]
      show seed_loop [some scr, some (.cel 0), a2, some (.dat (.int m)), some (.dat x), a5, a6] [cI xs] = _
      rw [seed_loop, ev_seqM, h6, seqO_nx, e1]
      rfl
    rw [loopM_cons, hb, loopO_nx, e]
theorem draws_run (ns : List Int) (hn : ns.length ≤ 63) : ∃ xs ys, d_u_law_draws [.scr ns] [] = .ok (.cel 1) [cI xs, cI ys] := by
  obtain ⟨xs1, o2, o4, o5, o6, h1, e1⟩ := cells_run (.scr ns) ns [] none none none none none (by simp; omega)
  have hr : ∀ (s : Slots) (st : Store), rng1M (aCons (cst (.int 3000)) aNil) s st = .ok (rngD 0 3000 1) st := fun s st => run_rng1 (n := 3000) rfl (by decide)
  have e0 : (0 : Nat) ≤ sizeLine := Nat.zero_le _
  have hs : ∃ m : Int, (ifS (truM (op2 gtD (scLen (vr 0)) (cst (.int 0)))) (setM 3 (op2 addD (cst (.int 1)) (opN absD (aCons (scIx (vr 0) (cst (.int 0))) aNil)))) skipM) [some (.scr ns), some (.cel 0), o2, some (.dat (.int 1)), o4, o5, o6] [cI xs1] = .nx [some (.scr ns), some (.cel 0), o2, some (.dat (.int m)), o4, o5, o6] [cI xs1] := by
    have sc : scLen (vr 0) [some (.scr ns), some (.cel 0), o2, some (.dat (.int 1)), o4, o5, o6] [cI xs1] = .ok (.dat (.int ns.length)) [cI xs1] := rfl
    rw [ev_ifS, ev_truM, ev_op2, sc]
    simp only [Res.bind_ok, ev_cst, ap2_dat, gtD_int, ofO_some, peek_dat, truD_bool, bindS_ok]
    cases ns with
    | nil =>
      refine ⟨1, ?_⟩
      have : decide ((0 : Int) < ((([] : List Int).length : Nat) : Int)) = false := rfl
      rw [this, cnd_false, ev_skipM]
    | cons n ns =>
      have : decide ((0 : Int) < (((n :: ns).length : Nat) : Int)) = true := decide_eq_true (by simp only [List.length_cons]; omega)
      rw [this, cnd_true]
      have sx : scIx (vr 0) (cst (.int 0)) [some (.scr (n :: ns)), some (.cel 0), o2, some (.dat (.int 1)), o4, o5, o6] [cI xs1] = .ok (.dat (.int n)) [cI xs1] := by
        unfold scIx
        simp
      refine ⟨1 + (if n < 0 then -n else n), ?_⟩
      have so : opN absD (aCons (scIx (vr 0) (cst (.int 0))) aNil) [some (.scr (n :: ns)), some (.cel 0), o2, some (.dat (.int 1)), o4, o5, o6] [cI xs1] = .ok (.dat (.int (if n < 0 then -n else n))) [cI xs1] := by
        rw [ev_opN, ev_aCons, sx]
        simp only [Res.bind_ok, ev_aNil, apN1, absD_int, ofO_some]
      rw [ev_setM, ev_op2, ev_cst, Res.bind_ok, so]
      simp only [Res.bind_ok, ev_aNil, apN1, absD_int, ofO_some, ev_cst, ap2_dat, addD_int, bindS_ok, List.set]
  obtain ⟨m, hs⟩ := hs
  obtain ⟨xs2, m', o4', e2⟩ := seed_run (.scr ns) o2 o5 o6 (rngD 0 3000 1) xs1 m o4 (by rw [rngD_len]; simp at h1; omega)
  refine ⟨xs2, xs2.reverse, ?_⟩
  refine fnV_rt rfl ?_
  show b_u_law_draws [some (.scr ns), none, none, none, none, none, none] [] = _
  have h0 : setM 1 (lstC aNil) [some (.scr ns), none, none, none, none, none, none] [] = .nx [some (.scr ns), some (.cel 0), none, none, none, none, none] [cI []] := by
    simp [e0]
  have hit : itM (vr 0) [some (.scr ns), some (.cel 0), none, none, none, none, none] [cI []] = .ok (ns.map .int) [cI []] := rfl
  have h3 : setM 3 (cst (.int 1)) [some (.scr ns), some (.cel 0), o2, none, o4, o5, o6] [cI xs1] = .nx [some (.scr ns), some (.cel 0), o2, some (.dat (.int 1)), o4, o5, o6] [cI xs1] := rfl
  have h9 : retM (lrevC (vr 1)) [some (.scr ns), some (.cel 0), o2, some (.dat (.int m')), o4', o5, o6] [cI xs2] = .rt (.cel 1) [cI xs2, cI xs2.reverse] := by
    have hp : peek (.cel 0) [cI xs2] = some (.list (xs2.map .int)) := by
      have : (xs2.map dI) = (xs2.map PyData.int).map .dat := by rw [List.map_map]; rfl
      have e : peek (.cel 0) [cI xs2] = (unDat (xs2.map dI)).map .list := rfl
      rw [e, this, unDat_map]
      rfl
    rw [ev_retM]
    unfold lrevC
    rw [show vr 1 [some (.scr ns), some (.cel 0), o2, some (.dat (.int m')), o4', o5, o6] [cI xs2] = .ok (.cel 0) [cI xs2] from rfl, Res.bind_ok]
    simp only [hp, bindS_ok]
    have : ((xs2.map PyData.int).reverse.map Vl.dat) = xs2.reverse.map dI := by rw [← List.map_reverse, List.map_map]; rfl
    rw [this]
    rfl
  rw [b_u_law_draws, ev_seqM, h0, seqO_nx, ev_seqM, ev_forM, hit, bindS_ok, e1, seqO_nx, ev_seqM, h3, seqO_nx, ev_seqM, hs, seqO_nx, ev_seqM, ev_forM, hr, bindS_ok, e2, seqO_nx, h9]
end K27

set_option Elab.async false
set_option linter.all false
set_option maxRecDepth 100000
set_option maxHeartbeats 4000000
set_option exponentiation.threshold 5000
/-! K27Co: taking from the draws; colours. -/
namespace K27
open PySem L2 Pd
theorem sl : ∀ n : Nat, n ≤ 60 → n ≤ sizeLine := fun n h => Nat.le_trans h (by decide)
abbrev S2 (xs ys : List Int) : Store := [cI xs, cI ys]
theorem trim_S2 (xs ys : List Int) : trim 2 (S2 xs ys) = true := by
  unfold trim S2 cI
  simp [below]
theorem call_S2 {n k : Nat} {body : SM} {args : List Vl} {xs ys ys' : List Int} {d : D} (hn : args.length = n) (h : body (args.map some ++ List.replicate k none) (S2 xs ys) = .rt (.dat d) (S2 xs ys')) : closeD (fnV n k body) args (S2 xs ys) = .ok (.dat d) (S2 xs ys') :=
  closeD_okS (fnV_rt hn h) rfl (trim_S2 xs ys')
theorem take_run (xs ys : List Int) {b : Int} (hb : 0 < b) : ∃ v ys', d_u_law_take [.cel 1, .dat (.int b)] (S2 xs ys) = .ok (.dat (.int v)) (S2 xs ys') ∧ 0 ≤ v ∧ v < b := by
  have hl : opN lenD (aCons (vr 0) aNil) [some (.cel 1), some (.dat (.int b))] (S2 xs ys) = .ok (.dat (.int ys.length)) (S2 xs ys) := by
    have e := apN_cel (h := lenD) (k := 1) (ds := ys.map .int) (st := S2 xs ys) (by
      show some (cI ys) = _
      unfold cI
      rw [List.map_map]
      rfl)
    rw [ev_opN, ev_aCons, show vr 0 [some (.cel 1), some (.dat (.int b))] (S2 xs ys) = .ok (.cel 1) (S2 xs ys) from rfl, Res.bind_ok, ev_aNil, Res.bind_ok, Res.bind_ok, e, lenD_lst, List.length_map]
    rfl
  rcases List.eq_nil_or_concat ys with h | ⟨l, v, h⟩
  · subst h
    refine ⟨0, [], ?_, by omega, hb⟩
    refine call_S2 rfl ?_
    show b_u_law_take [some (.cel 1), some (.dat (.int b))] (S2 xs []) = _
    rw [b_u_law_take, ev_seqM, ev_ifS, ev_truM, ev_op2, hl]
    rfl
  · subst h
    refine ⟨v % b, l, ?_, Int.emod_nonneg _ (by omega), Int.emod_lt_of_pos _ hb⟩
    refine call_S2 rfl ?_
    show b_u_law_take [some (.cel 1), some (.dat (.int b))] (S2 xs (l.concat v)) = _
    have hp : popM (vr 0) [some (.cel 1), some (.dat (.int b))] (S2 xs (l.concat v)) = .ok (.dat (.int v)) (S2 xs l) := by
      unfold popM
      rw [show vr 0 [some (.cel 1), some (.dat (.int b))] (S2 xs (l.concat v)) = .ok (.cel 1) (S2 xs (l.concat v)) from rfl, Res.bind_ok]
      have e1 : lstAt (.cel 1) (S2 xs (l.concat v)) = some (1, (l.concat v).map dI) := rfl
      have e2 : ((l.concat v).map dI)[((l.concat v).map dI).length - 1]? = some (dI v) := by
        simp
      have e3 : ((l.concat v).map dI).dropLast = l.map dI := by simp
      simp only [e1, e2, e3]
      rfl
    have hz : decide (((l.concat v).length : Int) = 0) = false := decide_eq_false (by simp; omega)
    rw [b_u_law_take, ev_seqM, ev_ifS, ev_truM, ev_op2, hl]
    simp only [Res.bind_ok, ev_cst, ap2_dat, eqD_int, ofO_some, hz, peek_dat, truD_bool, bindS_ok, cnd_false, ev_skipM, seqO_nx]
    rw [ev_retM, ev_op2, ev_opN, ev_aCons, hp]
    simp only [Res.bind_ok, ev_aNil, apN1, intD_int, ofO_some, ev_vr, List.getElem?_cons_zero, List.getElem?_cons_succ, ap2_dat, modD_int, hb, if_true, bindS_ok]
theorem pick_run (xs ys : List Int) {ds : List D} (h : ds ≠ []) : ∃ d ys', d_u_law_pick [.cel 1, .dat (.list ds)] (S2 xs ys) = .ok (.dat d) (S2 xs ys') ∧ d ∈ ds := by
  have hl : 0 < ds.length := List.length_pos_iff.mpr h
  obtain ⟨v, ys', e, h1, h2⟩ := take_run xs ys (b := ds.length) (by omega)
  obtain ⟨k, rfl⟩ : ∃ k : Nat, v = k := ⟨v.toNat, by omega⟩
  have hk : k < ds.length := by omega
  refine ⟨ds[k], ys', ?_, List.getElem_mem hk⟩
  refine call_S2 rfl ?_
  show b_u_law_pick [some (.cel 1), some (.dat (.list ds))] (S2 xs ys) = _
  rw [b_u_law_pick, ev_retM, ev_op2]
  simp only [ev_callM, ev_aCons, ev_aNil, ev_opN, ev_vr, List.getElem?_cons_zero, List.getElem?_cons_succ, Res.bind_ok, apN1, lenD_lst, ofO_some, e, ap2_dat, ixD_lst, Pd.atI_nat, List.getElem?_eq_getElem hk, bindS_ok]
/-! colours -/
def colD (c : List Rat) : D := .tuple (c.map rt)
theorem unBools_true {α : Type} (l : List α) : unBools (l.map fun _ => PyData.bool true) = some (l.map fun _ => true) := by
  induction l with
  | nil => rfl
  | cons x l ih => simp [unBools, ih]
theorem allD_true {α : Type} (l : List α) : allD [.list (l.map fun _ => PyData.bool true)] = some (.bool true) := by
  have e : allD [.list (l.map fun _ => PyData.bool true)] = (unBools (l.map fun _ => PyData.bool true)).map fun bs => .bool (bs.all id) := rfl
  rw [e, unBools_true]
  simp
theorem iscolour_run {c : List Rat} (h : c.length = 3) (st : Store) : d_is_colour [.dat (colD c)] st = .ok (.dat (.bool true)) st := by
  refine call_rt rfl ?_
  have e1 : lcGo (bName 1) tYesM (callM d_is_ratio (aCons (vr 1) aNil)) (c.map rt) (wipeS [some (.dat (colD c)), none] [1]) st = .ok ((c.map rt).map fun _ => .bool true) st := by
    refine lcGo_map (fun _ => .bool true) _ fun x hx => ?_
    obtain ⟨q, _, rfl⟩ := List.mem_map.mp hx
    refine ⟨_, rfl, ?_⟩
    simp [wipeS, isratio_run]
  have q1 : ((c.map rt).map fun _ => PyData.bool true).length ≤ sizeLine := by
    rw [List.length_map, List.length_map, h]
    exact sl _ (by decide)
  have hl : ((c.map rt).length : Int) = 3 := by rw [List.length_map, h]; rfl
  have e2 : opN allD (aCons (lcM (itM (vr 0)) (bName 1) [1] tYesM (callM d_is_ratio (aCons (vr 1) aNil))) aNil) [some (.dat (colD c)), none] st = .ok (.dat (.bool true)) st := by
    rw [ev_opN, ev_aCons, ev_lcM]
    rw [show itM (vr 0) [some (.dat (colD c)), none] st = .ok (c.map rt) st from rfl, Res.bind_ok, e1, noX_ok, Res.bind_ok, if_pos q1, Res.bind_ok, ev_aNil, Res.bind_ok, Res.bind_ok, apN1, allD_true]
    rfl
  show b_is_colour [some (.dat (colD c)), none] st = _
  rw [b_is_colour, ev_retM, ev_andE, ev_isiM]
  simp only [ev_vr, List.getElem?_cons_zero, Res.bind_ok, peek_dat, colD, isiD_tt, ofO_some, andO_bool, cnd_true, ev_andE, ev_op2, ev_opN, ev_aCons, ev_aNil, ev_cst, apN1, lenD_tup, hl, ap2_dat, eqD_int, decide_true]
  have e3 := e2
  simp only [colD] at e3
  simp only [ev_opN, ev_aCons, ev_aNil, Res.bind_ok] at e3
  rw [e3, bindS_ok]
theorem isunit_run (q : Rat) (st : Store) : d_is_unit [.dat (rt q)] st = .ok (.dat (.bool (decide (0 ≤ q) && decide (q ≤ 1)))) st := by
  refine call_rt rfl ?_
  have h1 : (0 ≤ q.num) ↔ (0 ≤ q) := Rat.num_nonneg
  have h2 : (q.num ≤ (q.den : Int)) ↔ q ≤ 1 := by
    rw [Rat.le_iff]
    simp
  by_cases k : 0 ≤ q
  · have k1 := h1.mpr k
    simp [b_is_unit, chM, rt, k1, k, h2]
  · have k1 : ¬ 0 ≤ q.num := fun z => k (h1.mp z)
    simp [b_is_unit, chM, rt, k1, k]
theorem isplain_run {c : List Rat} (h : c.length = 3) (h01 : ∀ q ∈ c, 0 ≤ q ∧ q ≤ 1) (st : Store) : d_is_plain [.dat (colD c)] st = .ok (.dat (.bool true)) st := by
  refine call_rt rfl ?_
  have e1 : lcGo (bName 1) tYesM (callM d_is_unit (aCons (vr 1) aNil)) (c.map rt) (wipeS [some (.dat (colD c)), none] [1]) st = .ok ((c.map rt).map fun _ => .bool true) st := by
    refine lcGo_map (fun _ => .bool true) _ fun x hx => ?_
    obtain ⟨q, hq, rfl⟩ := List.mem_map.mp hx
    obtain ⟨k1, k2⟩ := h01 q hq
    refine ⟨_, rfl, ?_⟩
    simp [wipeS, isunit_run, k1, k2]
  have q1 : ((c.map rt).map fun _ => PyData.bool true).length ≤ sizeLine := by
    rw [List.length_map, List.length_map, h]
    exact sl _ (by decide)
  have e2 : opN allD (aCons (lcM (itM (vr 0)) (bName 1) [1] tYesM (callM d_is_unit (aCons (vr 1) aNil))) aNil) [some (.dat (colD c)), none] st = .ok (.dat (.bool true)) st := by
    rw [ev_opN, ev_aCons, ev_lcM]
    rw [show itM (vr 0) [some (.dat (colD c)), none] st = .ok (c.map rt) st from rfl, Res.bind_ok, e1, noX_ok, Res.bind_ok, if_pos q1, Res.bind_ok, ev_aNil, Res.bind_ok, Res.bind_ok, apN1, allD_true]
    rfl
  show b_is_plain [some (.dat (colD c)), none] st = _
  have e0 : callM d_is_colour (aCons (vr 0) aNil) [some (.dat (colD c)), none] st = .ok (.dat (.bool true)) st := by
    rw [← iscolour_run h st]
    rfl
  rw [b_is_plain, ev_retM, ev_andE, e0, Res.bind_ok, andO_bool, cnd_true, e2, bindS_ok]
def clipR (q : Rat) : Rat := if q < 0 then 0 else if 1 < q then 1 else q
theorem unitof_run (q : Rat) (st : Store) : d_unit_of [.dat (rt q)] st = .ok (.dat (rt (clipR q))) st := by
  refine call_rt rfl ?_
  have h1 : (q.num < 0) ↔ (q < 0) := by
    rw [Rat.lt_iff]
    simp
  have h2 : ((q.den : Int) < q.num) ↔ 1 < q := by
    rw [Rat.lt_iff]
    simp
  have x0 : ixD (rt q) (.int 0) = some (.int q.num) := rfl
  have x1 : ixD (rt q) (.int 1) = some (.int (q.den : Int)) := rfl
  unfold clipR
  by_cases k : q < 0
  · have k1 := h1.mpr k
    rw [if_pos k]
    simp [b_unit_of, x0, x1, k1, zero_rt]
  · have k1 : ¬ q.num < 0 := fun z => k (h1.mp z)
    rw [if_neg k]
    by_cases k2 : 1 < q
    · have k3 := h2.mpr k2
      rw [if_pos k2]
      simp [b_unit_of, x0, x1, k1, k3, one_rt]
    · have k3 : ¬ (q.den : Int) < q.num := fun z => k2 (h2.mp z)
      rw [if_neg k2]
      simp [b_unit_of, x0, x1, k1, k3]
theorem lclip_run (q : Rat) (st : Store) : d_u_law_clip [.dat (rt q)] st = .ok (.dat (rt (clipR q))) st := by
  refine call_rt rfl ?_
  have h1 : (q.num < 0) ↔ (q < 0) := by
    rw [Rat.lt_iff]
    simp
  have h2 : ((q.den : Int) < q.num) ↔ 1 < q := by
    rw [Rat.lt_iff]
    simp
  have x0 : ixD (rt q) (.int 0) = some (.int q.num) := rfl
  have x1 : ixD (rt q) (.int 1) = some (.int (q.den : Int)) := rfl
  have e2 : (2 : Nat) ≤ sizeLine := sl _ (by decide)
  have z0 : rt 0 = .tuple [.int 0, .int 1] := rfl
  have z1 : rt 1 = .tuple [.int 1, .int 1] := rfl
  unfold clipR
  by_cases k : q < 0
  · have k1 := h1.mpr k
    rw [if_pos k, z0]
    simp [b_u_law_clip, x0, x1, k1, e2]
  · have k1 : ¬ q.num < 0 := fun z => k (h1.mp z)
    rw [if_neg k]
    by_cases k2 : 1 < q
    · have k3 := h2.mpr k2
      rw [if_pos k2, z1]
      simp [b_u_law_clip, x0, x1, k1, k3, e2]
    · have k3 : ¬ (q.den : Int) < q.num := fun z => k2 (h2.mp z)
      rw [if_neg k2]
      simp [b_u_law_clip, x0, x1, k1, k3]
end K27

set_option Elab.async false
set_option linter.all false
set_option maxRecDepth 100000
set_option maxHeartbeats 4000000
set_option exponentiation.threshold 5000
/-! K27Le: levels; sums of ratios. -/
namespace K27
open PySem L2 Pd
abbrev nI (k : Nat) : D := .int k
def lvD (ms : List Nat) : D := .tuple (ms.map nI)
theorem plainof_run {c : List Rat} (h : c.length = 3) (st : Store) : d_plain_of [.dat (colD c)] st = .ok (.dat (colD (c.map clipR))) st := by
  refine call_rt rfl ?_
  have e1 : lcGo (bName 1) tYesM (callM d_unit_of (aCons (vr 1) aNil)) (c.map rt) (wipeS [some (.dat (colD c)), none] [1]) st = .ok ((c.map clipR).map rt) st := by
    have gen : ∀ l : List Rat, lcGo (bName 1) tYesM (callM d_unit_of (aCons (vr 1) aNil)) (l.map rt) (wipeS [some (.dat (colD c)), none] [1]) st = .ok ((l.map clipR).map rt) st := by
      intro l
      induction l with
      | nil => rfl
      | cons q l ih =>
        rw [List.map_cons, lcGo_cons]
        simp [wipeS, unitof_run] at ih ⊢
        simp [ih]
    exact gen c
  have q1 : ((c.map clipR).map rt).length ≤ sizeLine := by
    rw [List.length_map, List.length_map, h]
    exact sl _ (by decide)
  show b_plain_of [some (.dat (colD c)), none] st = _
  rw [b_plain_of, ev_retM, ev_opN, ev_aCons, ev_lcM, show itM (vr 0) [some (.dat (colD c)), none] st = .ok (c.map rt) st from rfl, Res.bind_ok, e1, noX_ok, Res.bind_ok, if_pos q1, Res.bind_ok, ev_aNil, Res.bind_ok, Res.bind_ok, apN1]
  rfl
/-- the level that is nearest -/
def ixo (m : Nat) (q : Rat) : Int := (2 * q.num * ((m : Int) - 1) + q.den) / (2 * q.den)
theorem index_run {m : Nat} {q : Rat} (h2 : 2 ≤ m) (hm : m ≤ 256) (hq : Sz 1000 q) (st : Store) : d_index_of [.dat (nI m), .dat (rt q)] st = .ok (.dat (.int (ixo m q))) st := by
  refine call_rt rfl ?_
  have x0 : ixD (rt q) (.int 0) = some (.int q.num) := rfl
  have x1 : ixD (rt q) (.int 1) = some (.int (q.den : Int)) := rfl
  have a2 : (2 : Int).natAbs < 2 ^ 2 := by decide
  have am : ((m : Int) - 1).natAbs < 2 ^ 9 := by omega
  have m1 : mulOk 2 q.num = true := mulOk_lt a2 hq.1 (by decide)
  have m2 : mulOk (2 * q.num) ((m : Int) - 1) = true := mulOk_lt (natAbs_mul_lt a2 hq.1) am (by decide)
  have m3 : mulOk 2 (q.den : Int) = true := mulOk_lt (j := (q.den : Int)) a2 hq.2 (by decide)
  have hp := q.den_pos
  have m4 : divOk (2 * (q.den : Int)) = true := divOk_lt (by omega) (natAbs_mul_lt (j := (q.den : Int)) a2 hq.2) (by decide)
  simp [b_index_of, x0, x1, m1, m2, m3, m4, ixo]
def putR (m : Nat) (q : Rat) : Rat := Rat.divInt (ixo m q) ((m : Int) - 1)
theorem ixo_lt {m : Nat} {q : Rat} (h2 : 2 ≤ m) (hm : m ≤ 256) (h0 : 0 ≤ q) (h1 : q ≤ 1) : 0 ≤ ixo m q ∧ ixo m q ≤ (m : Int) - 1 := by
  have hp : 0 < (q.den : Int) := by have := q.den_pos; omega
  have n0 : 0 ≤ q.num := Rat.num_nonneg.mpr h0
  have n1 : q.num ≤ q.den := by
    have := (Rat.le_iff q 1).mp h1
    simpa using this
  have hm1 : (1 : Int) ≤ (m : Int) - 1 := by omega
  unfold ixo
  generalize (m : Int) - 1 = k at *
  have p0 : 0 ≤ 2 * q.num * k := Int.mul_nonneg (by omega) (by omega)
  have p1 : 2 * q.num * k ≤ 2 * q.den * k := Int.mul_le_mul_of_nonneg_right (by omega) (by omega)
  constructor
  · exact Int.ediv_nonneg (by omega) (by omega)
  · have h3 : (2 * q.num * k + q.den) / (2 * q.den) < k + 1 := by
      rw [Int.ediv_lt_iff_lt_mul (by omega)]
      have : (k + 1) * (2 * (q.den : Int)) = 2 * q.den * k + 2 * q.den := by
        rw [Int.add_mul, Int.one_mul, Int.mul_comm]
      omega
    omega
theorem putby_run : ∀ {ms : List Nat} {c : List Rat}, ms.length = 3 → c.length = 3 → (∀ m ∈ ms, 2 ≤ m ∧ m ≤ 256) → (∀ q ∈ c, Sz 1000 q ∧ 0 ≤ q ∧ q ≤ 1) → ∀ st, d_put_by [.dat (lvD ms), .dat (colD c)] st = .ok (.dat (colD (List.zipWith putR ms c))) st := by
  intro ms c hms hc hm hq st
  refine call_rt rfl ?_
  have gen : ∀ (ms : List Nat) (c : List Rat) (s : Slots), s.length = 4 → (∀ m ∈ ms, 2 ≤ m ∧ m ≤ 256) → (∀ q ∈ c, Sz 1000 q ∧ 0 ≤ q ∧ q ≤ 1) →
      lcGo (bTup [bName 2, bName 3]) tYesM (callM d_made (aCons (callM d_index_of (aCons (vr 2) (aCons (vr 3) aNil))) (aCons (op2 subD (vr 2) (cst (.int 1))) aNil))) (zipD (ms.map nI) (c.map rt)) s st = .ok ((List.zipWith putR ms c).map rt) st := by
    intro ms
    induction ms with
    | nil => intro c s _ _ _; rfl
    | cons m ms ih =>
      intro c s hs h1 h2
      cases c with
      | nil => rfl
      | cons q c =>
        have ih2 := ih c s hs (fun x hx => h1 x (List.mem_cons_of_mem _ hx)) (fun x hx => h2 x (List.mem_cons_of_mem _ hx))
        obtain ⟨a1, a2⟩ := h1 m List.mem_cons_self
        obtain ⟨b1, b2, b3⟩ := h2 q List.mem_cons_self
        obtain ⟨d1, d2⟩ := ixo_lt a1 a2 b2 b3
        have e1 := index_run a1 a2 b1 st
        have e2 := made_run (n := ixo m q) (d := (m : Int) - 1) st (Nat.lt_of_lt_of_le (show (ixo m q).natAbs < 2 ^ 9 by omega) (Nat.pow_le_pow_right (by decide) (by decide))) (by omega) (Nat.lt_of_lt_of_le (show ((m : Int) - 1).natAbs < 2 ^ 9 by omega) (Nat.pow_le_pow_right (by decide) (by decide)))
        have hz : zipD ((m :: ms).map nI) ((q :: c).map rt) = .tuple [nI m, rt q] :: zipD (ms.map nI) (c.map rt) := rfl
        rw [hz, lcGo_cons]
        simp only [nI] at e1
        simp [hs, e1, e2, ih2, putR]
  have e1 := gen ms c (wipeS [some (.dat (lvD ms)), some (.dat (colD c)), none, none] [2, 3]) rfl hm hq
  have q1 : ((List.zipWith putR ms c).map rt).length ≤ sizeLine := by
    rw [List.length_map, List.length_zipWith, hms, hc]
    exact sl _ (by decide)
  have hz : zipM (aCons (vr 0) (aCons (vr 1) aNil)) [some (.dat (lvD ms)), some (.dat (colD c)), none, none] st = .ok (zipD (ms.map nI) (c.map rt)) st := rfl
  show b_put_by [some (.dat (lvD ms)), some (.dat (colD c)), none, none] st = _
  rw [b_put_by, ev_retM, ev_opN, ev_aCons, ev_lcM, hz, Res.bind_ok, e1, noX_ok, Res.bind_ok, if_pos q1, Res.bind_ok, ev_aNil, Res.bind_ok, Res.bind_ok, apN1]
  rfl
end K27

set_option Elab.async false
set_option linter.all false
set_option maxRecDepth 100000
set_option maxHeartbeats 4000000
set_option exponentiation.threshold 5000
/-! K27Su: sums of ratios. -/
namespace K27
open PySem L2 Pd
def sumR (l : List Rat) : Rat := l.foldl (· + ·) 0
theorem total_loop (k : Nat) (lst : D) (st : Store) : ∀ (l : List Rat) (a : Rat) (n : Nat) (o : Option Vl), (∀ q ∈ l, Sz k q) → Sz n a → n + l.length * (k + 1) ≤ 1000 → k ≤ 1000 →
    ∃ o' n', Sz n' (l.foldl (· + ·) a) ∧ n' ≤ n + l.length * (k + 1) ∧ loopM (tgM (bName 2) (setM 1 (callM d_add (aCons (vr 1) (aCons (vr 2) aNil))))) (l.map rt) [some (.dat lst), some (.dat (rt a)), o] st = .nx [some (.dat lst), some (.dat (rt (l.foldl (· + ·) a))), o'] st
  | [], a, n, o, _, ha, _, _ => ⟨o, n, ha, by simp, rfl⟩
  | q :: l, a, n, o, h, ha, hn, hk => by
    rw [List.length_cons, Nat.succ_mul] at hn
    have hq := h q List.mem_cons_self
    have e := add_run st (ha.mono (by omega : n ≤ 1000)) (hq.mono hk)
    obtain ⟨o', n', h1, h2, h3⟩ := total_loop k lst st l (a + q) (n + k + 1) (some (.dat (rt q))) (fun x hx => h x (List.mem_cons_of_mem _ hx)) (add_sz ha hq) (by omega) hk
    refine ⟨o', n', h1, by rw [List.length_cons, Nat.succ_mul]; omega, ?_⟩
    rw [List.map_cons, List.foldl_cons, ← h3, loopM_cons]
    simp [e]
theorem total_run (k : Nat) {l : List Rat} (h : ∀ q ∈ l, Sz k q) (hn : 1 + l.length * (k + 1) ≤ 1000) (hk : k ≤ 1000) (st : Store) : d_total [.dat (.list (l.map rt))] st = .ok (.dat (rt (sumR l))) st := by
  refine call_rt rfl ?_
  obtain ⟨o', n', _, _, e⟩ := total_loop k (.list (l.map rt)) st l 0 1 none h zero_sz hn hk
  show b_total [some (.dat (.list (l.map rt))), none, none] st = _
  have h1 : setM 1 (cst c_ZERO) [some (.dat (.list (l.map rt))), none, none] st = .nx [some (.dat (.list (l.map rt))), some (.dat (rt 0)), none] st := rfl
  rw [b_total, ev_seqM, h1, seqO_nx, ev_seqM, ev_forM, show itM (vr 0) [some (.dat (.list (l.map rt))), some (.dat (rt 0)), none] st = .ok (l.map rt) st from rfl, bindS_ok, e, seqO_nx]
  rfl
theorem lsum_loop (k : Nat) (lst : D) (st : Store) : ∀ (l : List Rat) (a : Rat) (n : Nat) (o : Option Vl), (∀ q ∈ l, Sz k q) → Sz n a → n + l.length * (k + 1) ≤ 190 → k ≤ 190 →
    ∃ o' n', Sz n' (l.foldl (· + ·) a) ∧ n' ≤ n + l.length * (k + 1) ∧ loopM (tgM (bName 2) (setM 1 (callM d_u_law_add (aCons (vr 1) (aCons (vr 2) aNil))))) (l.map rt) [some (.dat lst), some (.dat (rt a)), o] st = .nx [some (.dat lst), some (.dat (rt (l.foldl (· + ·) a))), o'] st
  | [], a, n, o, _, ha, _, _ => ⟨o, n, ha, by simp, rfl⟩
  | q :: l, a, n, o, h, ha, hn, hk => by
    rw [List.length_cons, Nat.succ_mul] at hn
    have hq := h q List.mem_cons_self
    have e := ladd_run st (ha.mono (by omega : n ≤ 190)) (hq.mono hk)
    obtain ⟨o', n', h1, h2, h3⟩ := lsum_loop k lst st l (a + q) (n + k + 1) (some (.dat (rt q))) (fun x hx => h x (List.mem_cons_of_mem _ hx)) (add_sz ha hq) (by omega) hk
    refine ⟨o', n', h1, by rw [List.length_cons, Nat.succ_mul]; omega, ?_⟩
    rw [List.map_cons, List.foldl_cons, ← h3, loopM_cons]
    simp [e]
theorem lsum_run (k : Nat) {l : List Rat} (h : ∀ q ∈ l, Sz k q) (hn : 1 + l.length * (k + 1) ≤ 190) (hk : k ≤ 190) (st : Store) : d_u_law_sum [.dat (.list (l.map rt))] st = .ok (.dat (rt (sumR l))) st ∧ Sz (1 + l.length * (k + 1)) (sumR l) := by
  obtain ⟨o', n', hs, hn', e⟩ := lsum_loop k (.list (l.map rt)) st l 0 1 none h zero_sz hn hk
  refine ⟨call_rt rfl ?_, hs.mono hn'⟩
  show b_u_law_sum [some (.dat (.list (l.map rt))), none, none] st = _
  have e2 : (2 : Nat) ≤ sizeLine := sl _ (by decide)
  have z0 : rt 0 = .tuple [.int 0, .int 1] := rfl
  have h1 : setM 1 (tupM (aCons (cst (.int 0)) (aCons (cst (.int 1)) aNil))) [some (.dat (.list (l.map rt))), none, none] st = .nx [some (.dat (.list (l.map rt))), some (.dat (rt 0)), none] st := by
    rw [z0]
    simp [e2]
  rw [b_u_law_sum, ev_seqM, h1, seqO_nx, ev_seqM, ev_forM, show itM (vr 0) [some (.dat (.list (l.map rt))), some (.dat (rt 0)), none] st = .ok (l.map rt) st from rfl, bindS_ok, e, seqO_nx]
  rfl
end K27

set_option Elab.async false
set_option linter.all false
set_option maxRecDepth 100000
set_option maxHeartbeats 4000000
set_option exponentiation.threshold 5000
/-! K27Gr: grown screens. -/
namespace K27
open PySem L2 Pd
theorem lcGo_mapN {b : BM} {e : EM} {s : Slots} {st : Store} (f : Nat → Nat) : ∀ (l : List Nat), (∀ k ∈ l, ∃ s1, b (.dat (nI k)) s = some s1 ∧ e s1 st = .ok (.dat (nI (f k))) st) → lcGo b tYesM e (l.map nI) s st = .ok ((l.map f).map nI) st
  | [], _ => rfl
  | x :: r, k => by
    obtain ⟨s1, e1, e2⟩ := k x List.mem_cons_self
    rw [List.map_cons, lcGo_cons, e1]
    have ih := lcGo_mapN f r fun y hy => k y (List.mem_cons_of_mem _ hy)
    simp [e2, ih]
abbrev rowD (r : List Nat) : D := .tuple (r.map nI)
abbrev scrD (rows : List (List Nat)) : D := .tuple (rows.map rowD)
def growStep (rows : List (List Nat)) : List (List Nat) := (rows.map fun r => r.map (fun p => 4 * p) ++ r.map fun p => 4 * p + 2) ++ (rows.map fun r => r.map (fun p => 4 * p + 3) ++ r.map fun p => 4 * p + 1)
def growN : Nat → List (List Nat)
  | 0 => [[0]]
  | n + 1 => growStep (growN n)
theorem sl4 : ∀ n : Nat, n ≤ 20000 → n ≤ sizeLine := fun n h => Nat.le_trans h (by decide)
theorem mul4 {p : Nat} (h : p < 2 ^ 30) : mulD (.int 4) (.int p) = some (.int (4 * (p : Int))) := by
  rw [mulD_int, if_pos (mulOk_lt (k := 3) (l := 30) (by decide) (by simpa using h) (by decide))]
/-- a row's half -/
theorem half_run {e : EM} {f : Nat → Nat} {s : Slots} {st : Store} {r : List Nat} (h5 : s[5]? = some (some (.dat (rowD r)))) (hr : r.length ≤ 1000) (he : ∀ k ∈ r, e ((wipeS s [6]).set 6 (some (.dat (nI k)))) st = .ok (.dat (nI (f k))) st) :
    lcM (itM (vr 5)) (bName 6) [6] tYesM e s st = .ok (.dat (.list ((r.map f).map nI))) st := by
  have hv : vr 5 s st = .ok (.dat (rowD r)) st := by rw [ev_vr, h5]
  rw [ev_lcM, ev_itM, hv, Res.bind_ok]
  show (lcGo _ _ _ (r.map nI) _ _ |> noX).bind _ = _
  rw [lcGo_mapN f r fun k hk => ⟨_, rfl, he k hk⟩, noX_ok, Res.bind_ok, if_pos (by rw [List.length_map, List.length_map]; exact sl4 _ (by omega))]
/-- the two halves of all rows -/
theorem rows_run {e1 e2 : EM} {f g : Nat → Nat} {s : Slots} {st : Store} {rows : List (List Nat)} (h1 : s[1]? = some (some (.dat (scrD rows)))) (hl : 6 < s.length) (hn : rows.length ≤ 1000) (hr : ∀ r ∈ rows, r.length ≤ 1000)
    (he1 : ∀ r ∈ rows, ∀ k ∈ r, ∀ s : Slots, 6 < s.length → e1 (s.set 6 (some (.dat (nI k)))) st = .ok (.dat (nI (f k))) st) (he2 : ∀ r ∈ rows, ∀ k ∈ r, ∀ s : Slots, 6 < s.length → e2 (s.set 6 (some (.dat (nI k)))) st = .ok (.dat (nI (g k))) st) :
    lcM (itM (vr 1)) (bName 5) [5] tYesM (opN tupleD (aCons (op2 addD (lcM (itM (vr 5)) (bName 6) [6] tYesM e1) (lcM (itM (vr 5)) (bName 6) [6] tYesM e2)) aNil)) s st = .ok (.dat (.list ((rows.map fun r => r.map f ++ r.map g).map rowD))) st := by
  have hv : vr 1 s st = .ok (.dat (scrD rows)) st := by rw [ev_vr, h1]
  have gen : ∀ l : List (List Nat), (∀ r ∈ l, r ∈ rows) → lcGo (bName 5) tYesM (opN tupleD (aCons (op2 addD (lcM (itM (vr 5)) (bName 6) [6] tYesM e1) (lcM (itM (vr 5)) (bName 6) [6] tYesM e2)) aNil)) (l.map rowD) (wipeS s [5]) st = .ok ((l.map fun r => r.map f ++ r.map g).map rowD) st := by
    intro l
    induction l with
    | nil => intro _; rfl
    | cons r l ih =>
      intro hm
      have hrm := hm r List.mem_cons_self
      have hrl := hr r hrm
      have h5 : ((wipeS s [5]).set 5 (some (.dat (rowD r))))[5]? = some (some (.dat (rowD r))) := List.getElem?_set_self (by rw [wipeS_len]; omega)
      have hl6 : 6 < ((wipeS ((wipeS s [5]).set 5 (some (.dat (rowD r)))) [6])).length := by rw [wipeS_len, List.length_set, wipeS_len]; exact hl
      have k1 := half_run (e := e1) (f := f) (st := st) h5 hrl fun k hk => he1 r hrm k hk _ hl6
      have k2 := half_run (e := e2) (f := g) (st := st) h5 hrl fun k hk => he2 r hrm k hk _ hl6
      have q : ((r.map f).map nI).length + ((r.map g).map nI).length ≤ sizeLine := by
        rw [List.length_map, List.length_map, List.length_map, List.length_map]
        exact sl4 _ (by omega)
      have hb : opN tupleD (aCons (op2 addD (lcM (itM (vr 5)) (bName 6) [6] tYesM e1) (lcM (itM (vr 5)) (bName 6) [6] tYesM e2)) aNil) ((wipeS s [5]).set 5 (some (.dat (rowD r)))) st = .ok (.dat (rowD (r.map f ++ r.map g))) st := by
        rw [ev_opN, ev_aCons, ev_op2, k1, Res.bind_ok, k2, Res.bind_ok, ap2_dat, addD_lst, if_pos q, ofO_some, Res.bind_ok, ev_aNil, Res.bind_ok, Res.bind_ok, apN1, tupleD_list, ofO_some]
        unfold rowD
        rw [List.map_append]
      rw [List.map_cons, List.map_cons, List.map_cons, lcGo_cons, ev_bName]
      simp only [ev_tYesM, Res.bind_ok, if_true, hb, toD_dat, ih fun x hx => hm x (List.mem_cons_of_mem _ hx)]
  rw [ev_lcM, ev_itM, hv, Res.bind_ok]
  show (lcGo _ _ _ (rows.map rowD) _ _ |> noX).bind _ = _
  rw [gen rows fun _ h => h, noX_ok, Res.bind_ok, if_pos (by rw [List.length_map, List.length_map]; exact sl4 _ (by omega))]
theorem grow_facts : ∀ j ∈ List.range 6, (growN j).length ≤ 1000 ∧ (∀ r ∈ growN j, r.length ≤ 1000 ∧ ∀ p ∈ r, p < 2 ^ 30) := by decide +kernel
noncomputable abbrev grow_loop : SM := (seqM (setM 3 (lcM (itM (vr 1)) (bName 5) [5] tYesM (opN tupleD (aCons (op2 addD (lcM (itM (vr 5)) (bName 6) [6] tYesM (op2 mulD (cst (.int 4)) (vr 6))) (lcM (itM (vr 5)) (bName 6) [6] tYesM (op2 addD (op2 mulD (cst (.int 4)) (vr 6)) (cst (.int 2))))) aNil))))
        (seqM (setM 4 (lcM (itM (vr 1)) (bName 5) [5] tYesM (opN tupleD (aCons (op2 addD (lcM (itM (vr 5)) (bName 6) [6] tYesM (op2 addD (op2 mulD (cst (.int 4)) (vr 6)) (cst (.int 3)))) (lcM (itM (vr 5)) (bName 6) [6] tYesM (op2 addD (op2 mulD (cst (.int 4)) (vr 6)) (cst (.int 1))))) aNil))))
        (setM 1 (tupM (aStar (vr 3) (aStar (vr 4) aNil))))))
theorem v6 {s : Slots} {st : Store} {k : Nat} (h : 6 < s.length) : vr 6 (s.set 6 (some (.dat (nI k)))) st = .ok (.dat (nI k)) st := by
  rw [ev_vr, List.getElem?_set_self h]
theorem grow_step {rows : List (List Nat)} (h1 : rows.length ≤ 1000) (h2 : ∀ r ∈ rows, r.length ≤ 1000 ∧ ∀ p ∈ r, p < 2 ^ 30) (a : D) (o2 o3 o4 : Option Vl) (st : Store) :
    ∃ o3' o4', grow_loop [some (.dat a), some (.dat (scrD rows)), o2, o3, o4, none, none] st = .nx [some (.dat a), some (.dat (scrD (growStep rows))), o2, o3', o4', none, none] st := by
  have c0 : ∀ r ∈ rows, ∀ k ∈ r, ∀ s : Slots, 6 < s.length → op2 mulD (cst (.int 4)) (vr 6) (s.set 6 (some (.dat (nI k)))) st = .ok (.dat (nI (4 * k))) st := fun r hr k hk s hs => by
    rw [ev_op2, ev_cst, Res.bind_ok, v6 hs, Res.bind_ok, ap2_dat, mul4 ((h2 r hr).2 k hk)]
    rfl
  have cn : ∀ (d : Nat) (i : Int), i = (d : Int) → ∀ r ∈ rows, ∀ k ∈ r, ∀ s : Slots, 6 < s.length → op2 addD (op2 mulD (cst (.int 4)) (vr 6)) (cst (.int i)) (s.set 6 (some (.dat (nI k)))) st = .ok (.dat (nI (4 * k + d))) st := fun d i hi r hr k hk s hs => by
    subst hi
    rw [ev_op2, c0 r hr k hk s hs, Res.bind_ok, ev_cst, Res.bind_ok, ap2_dat]
    rfl
  have f1 := rows_run (s := [some (.dat a), some (.dat (scrD rows)), o2, o3, o4, none, none]) (st := st) (f := fun p => 4 * p) (g := fun p => 4 * p + 2) rfl (by simp) h1 (fun r hr => (h2 r hr).1) c0 (cn 2 2 rfl)
  have f2 := fun x : Vl => rows_run (s := [some (.dat a), some (.dat (scrD rows)), o2, some x, o4, none, none]) (st := st) (f := fun p => 4 * p + 3) (g := fun p => 4 * p + 1) rfl (by simp) h1 (fun r hr => (h2 r hr).1) (cn 3 3 rfl) (cn 1 1 rfl)
  refine ⟨some (.dat (.list ((rows.map fun r => r.map (fun p => 4 * p) ++ r.map fun p => 4 * p + 2).map rowD))), some (.dat (.list ((rows.map fun r => r.map (fun p => 4 * p + 3) ++ r.map fun p => 4 * p + 1).map rowD))), ?_⟩
  rw [grow_loop, ev_seqM, ev_setM, f1, bindS_ok, seqO_nx, ev_seqM, ev_setM]
  show seqO (bindS (lcM _ _ _ _ _ [some (.dat a), some (.dat (scrD rows)), o2, some (.dat _), o4, none, none] st) _ _) _ = _
  have f3 := f2 (.dat (.list ((rows.map fun r => r.map (fun p => 4 * p) ++ r.map fun p => 4 * p + 2).map rowD)))
  rw [f3, bindS_ok, seqO_nx, ev_setM, ev_tupM]
  have hs : aStar (vr 3) (aStar (vr 4) aNil) [some (.dat a), some (.dat (scrD rows)), o2, some (.dat (.list ((rows.map fun r => r.map (fun p => 4 * p) ++ r.map fun p => 4 * p + 2).map rowD))), some (.dat (.list ((rows.map fun r => r.map (fun p => 4 * p + 3) ++ r.map fun p => 4 * p + 1).map rowD))), none, none] st = .ok (((growStep rows).map rowD).map .dat) st := by
    unfold growStep
    rw [List.map_append, List.map_append]
    simp [aStar]
  show bindS (Res.bind (aStar (vr 3) (aStar (vr 4) aNil) [some (.dat a), some (.dat (scrD rows)), o2, some (.dat _), some (.dat _), none, none] st) _) _ _ = _
  have hl : ((growStep rows).map rowD).length ≤ sizeLine := by
    unfold growStep
    rw [List.length_map, List.length_append, List.length_map, List.length_map]
    exact sl4 _ (by omega)
  rw [hs, Res.bind_ok, toDs_dat, Res.bind_ok, if_pos hl, bindS_ok]
  rfl
theorem rngD_cons (a : Int) (n : Nat) (k : Int) : rngD a (n + 1) k = .int a :: rngD (a + k) n k := by
  unfold rngD
  rw [List.range_succ_eq_map, List.map_cons, List.map_map]
  congr 1
  · simp
  · refine List.map_congr_left fun i _ => ?_
    show PyData.int _ = PyData.int _
    congr 1
    have : ((i + 1 : Nat) : Int) * k = i * k + k := by
      rw [Int.natCast_add, Int.add_mul]
      simp
    show a + ((i + 1 : Nat) : Int) * k = _
    rw [this]
    omega
theorem within_run (v lo hi : Int) (st : Store) : d_is_within [.dat (.int v), .dat (.int lo), .dat (.int hi)] st = .ok (.dat (.bool (decide (lo ≤ v) && decide (v ≤ hi)))) st := by
  refine call_rt rfl ?_
  by_cases k : lo ≤ v
  · simp [b_is_within, isint_run, chM, k]
  · simp [b_is_within, isint_run, chM, k]
theorem grow_many (a : D) (st : Store) : ∀ (k j : Nat) (o2 o3 o4 : Option Vl), j + k ≤ 5 → ∃ o2' o3' o4', loopM (tgM (bName 2) grow_loop) (rngD j k 1) [some (.dat a), some (.dat (scrD (growN j))), o2, o3, o4, none, none] st = .nx [some (.dat a), some (.dat (scrD (growN (j + k)))), o2', o3', o4', none, none] st
  | 0, j, o2, o3, o4, _ => ⟨o2, o3, o4, rfl⟩
  | k + 1, j, o2, o3, o4, h => by
    obtain ⟨g1, g2⟩ := grow_facts j (List.mem_range.mpr (by omega))
    obtain ⟨p3, p4, e⟩ := grow_step g1 g2 a (some (.dat (.int j))) o3 o4 st
    obtain ⟨o2', o3', o4', ih⟩ := grow_many a st k (j + 1) (some (.dat (.int j))) p3 p4 (by omega)
    refine ⟨o2', o3', o4', ?_⟩
    have hb : tgM (bName 2) grow_loop (.int j) [some (.dat a), some (.dat (scrD (growN j))), o2, o3, o4, none, none] st = grow_loop [some (.dat a), some (.dat (scrD (growN j))), some (.dat (.int j)), o3, o4, none, none] st := by
      rw [ev_tgM, ev_bName, optO_some]
      rfl
    rw [show ((j + 1 : Nat) : Int) = (j : Int) + 1 from rfl, show j + 1 + k = j + (k + 1) by omega] at ih
    rw [rngD_cons, loopM_cons, hb, e, loopO_nx]
    exact ih
theorem grown_run {n : Nat} (h : n ≤ 5) (st : Store) : d_grown_screen [.dat (.int n)] st = .ok (.dat (scrD (growN n))) st := by
  refine call_rt rfl ?_
  have e1 : (1 : Nat) ≤ sizeLine := sl _ (by decide)
  obtain ⟨o2, o3, o4, e⟩ := grow_many (.int n) st n 0 none none none (by omega)
  have w := within_run n 0 5 st
  have k1 : (0 : Int) ≤ n := by omega
  have k2 : (n : Int) ≤ 5 := by omega
  rw [decide_eq_true k1, decide_eq_true k2] at w
  have hc : dropM (callM d_check (aCons (callM d_is_within (aCons (vr 0) (aCons (cst (.int 0)) (aCons (cst c_MOST_GROWN) aNil)))) aNil)) [some (.dat (.int n)), none, none, none, none, none, none] st = .nx [some (.dat (.int n)), none, none, none, none, none, none] st := by
    simp only [ev_dropM, ev_callM, ev_aCons, ev_aNil, ev_vr, ev_cst, c_MOST_GROWN, List.getElem?_cons_zero, Res.bind_ok, w, check_run, Bool.and_self, bindS_ok]
  have h1 : setM 1 (tupM (aCons (tupM (aCons (cst (.int 0)) aNil)) aNil)) [some (.dat (.int n)), none, none, none, none, none, none] st = .nx [some (.dat (.int n)), some (.dat (scrD (growN 0))), none, none, none, none, none] st := by
    simp [e1, growN]
  have hr : rng1M (aCons (vr 0) aNil) [some (.dat (.int n)), some (.dat (scrD (growN 0))), none, none, none, none, none] st = .ok (rngD 0 n 1) st := run_rng1 rfl (by omega)
  show b_grown_screen [some (.dat (.int n)), none, none, none, none, none, none] st = _
  rw [show ((0 : Nat) : Int) = 0 from rfl, Nat.zero_add] at e
  rw [b_grown_screen, ev_seqM, hc, seqO_nx, ev_seqM, h1, seqO_nx, ev_seqM, ev_forM, hr, bindS_ok, e, seqO_nx]
  rfl
end K27

set_option Elab.async false
set_option linter.all false
set_option maxRecDepth 100000
set_option maxHeartbeats 4000000
set_option exponentiation.threshold 5000
/-! K27Pl: the law's own places. -/
namespace K27
open PySem L2 Pd
def tab (low left : Nat) : Nat := if low = 0 then (if left = 0 then 0 else 2) else (if left = 0 then 3 else 1)
def plc : Nat → Nat → Nat → Nat → Nat
  | 0, _, _, found => found
  | n + 1, row, col, found => plc n (row / 2) (col / 2) (4 * found + tab (row % 2) (col % 2))
noncomputable abbrev plc_loop : SM := (seqM (parM 5 6 (aCons (op2 modD (opN intD (aCons (vr 1) aNil)) (cst (.int 2))) (aCons (op2 modD (opN intD (aCons (vr 2) aNil)) (cst (.int 2))) aNil)))
        (seqM (setM 3 (op2 addD (op2 mulD (cst (.int 4)) (vr 3)) (op2 ixD (op2 ixD (lstD (aCons (lstD (aCons (cst (.int 0)) (aCons (cst (.int 2)) aNil))) (aCons (lstD (aCons (cst (.int 3)) (aCons (cst (.int 1)) aNil))) aNil))) (vr 5)) (vr 6))))
        (parM 1 2 (aCons (op2 fdivD (vr 1) (cst (.int 2))) (aCons (op2 fdivD (vr 2) (cst (.int 2))) aNil)))))
theorem tab_run (low left : Nat) (h1 : low < 2) (h2 : left < 2) (s : Slots) (st : Store) (k5 : s[5]? = some (some (.dat (nI low)))) (k6 : s[6]? = some (some (.dat (nI left)))) :
    op2 ixD (op2 ixD (lstD (aCons (lstD (aCons (cst (.int 0)) (aCons (cst (.int 2)) aNil))) (aCons (lstD (aCons (cst (.int 3)) (aCons (cst (.int 1)) aNil))) aNil))) (vr 5)) (vr 6) s st = .ok (.dat (nI (tab low left))) st := by
  have e2 : (2 : Nat) ≤ sizeLine := sl _ (by decide)
  have hl : lstD (aCons (lstD (aCons (cst (.int 0)) (aCons (cst (.int 2)) aNil))) (aCons (lstD (aCons (cst (.int 3)) (aCons (cst (.int 1)) aNil))) aNil)) s st = .ok (.dat (.list [.list [.int 0, .int 2], .list [.int 3, .int 1]])) st := by
    simp [e2]
  have v5 : vr 5 s st = .ok (.dat (nI low)) st := by rw [ev_vr, k5]
  have v6 : vr 6 s st = .ok (.dat (nI left)) st := by rw [ev_vr, k6]
  rw [ev_op2, ev_op2, hl, Res.bind_ok, v5, Res.bind_ok, ap2_dat, ixD_lst, Pd.atI_nat]
  obtain rfl | rfl : low = 0 ∨ low = 1 := by omega
  · obtain rfl | rfl : left = 0 ∨ left = 1 := by omega
    · simp [k6, ofO, tab]
    · simp [k6, ofO, tab]
  · obtain rfl | rfl : left = 0 ∨ left = 1 := by omega
    · simp [k6, ofO, tab]
    · simp [k6, ofO, tab]
theorem plc_many (a : D) (st : Store) : ∀ (k : Nat) (ds : List D) (row col found : Nat) (o4 o5 o6 : Option Vl), ds.length = k → found < 4 ^ (10 - k) → k ≤ 10 →
    ∃ row' col' o4' o5' o6', loopM (tgM (bName 4) plc_loop) ds [some (.dat a), some (.dat (nI row)), some (.dat (nI col)), some (.dat (nI found)), o4, o5, o6] st = .nx [some (.dat a), some (.dat (nI row')), some (.dat (nI col')), some (.dat (nI (plc k row col found))), o4', o5', o6'] st
  | 0, [], row, col, found, o4, o5, o6, _, _, _ => ⟨row, col, o4, o5, o6, rfl⟩
  | k + 1, x :: ds, row, col, found, o4, o5, o6, hl, hf, hk => by
    have ht : tab (row % 2) (col % 2) ≤ 3 := by
      unfold tab
      split <;> split <;> omega
    have hp : 4 ^ (10 - k) = 4 ^ (10 - (k + 1)) * 4 := by
      rw [← Nat.pow_succ]
      congr 1
      omega
    have hb30 : found < 2 ^ 30 := Nat.lt_of_lt_of_le hf (Nat.le_trans (Nat.pow_le_pow_right (by decide) (show 10 - (k + 1) ≤ 10 by omega)) (by decide))
    obtain ⟨row', col', o4', o5', o6', ih⟩ := plc_many a st k ds (row / 2) (col / 2) (4 * found + tab (row % 2) (col % 2)) (some (.dat x)) (some (.dat (nI (row % 2)))) (some (.dat (nI (col % 2)))) (by simpa using hl) (by omega) (by omega)
    refine ⟨row', col', o4', o5', o6', ?_⟩
    have d2 : divOk 2 = true := by decide
    have t := tab_run (row % 2) (col % 2) (Nat.mod_lt _ (by decide)) (Nat.mod_lt _ (by decide)) [some (.dat a), some (.dat (nI row)), some (.dat (nI col)), some (.dat (nI found)), some (.dat x), some (.dat (nI (row % 2))), some (.dat (nI (col % 2)))] st rfl rfl
    have r1 : ((row : Int) % 2) = ((row % 2 : Nat) : Int) := by omega
    have r2 : ((col : Int) % 2) = ((col % 2 : Nat) : Int) := by omega
    have q1 : ((row : Int) / 2) = ((row / 2 : Nat) : Int) := by omega
    have q2 : ((col : Int) / 2) = ((col / 2 : Nat) : Int) := by omega
    have b1 : parM 5 6 (aCons (op2 modD (opN intD (aCons (vr 1) aNil)) (cst (.int 2))) (aCons (op2 modD (opN intD (aCons (vr 2) aNil)) (cst (.int 2))) aNil)) [some (.dat a), some (.dat (nI row)), some (.dat (nI col)), some (.dat (nI found)), some (.dat x), o5, o6] st = .nx [some (.dat a), some (.dat (nI row)), some (.dat (nI col)), some (.dat (nI found)), some (.dat x), some (.dat (nI (row % 2))), some (.dat (nI (col % 2)))] st := by
      have p2 : (0 : Int) < 2 := by decide
      simp only [ev_parM, ev_aCons, ev_aNil, ev_op2, ev_opN, ev_vr, ev_cst, List.getElem?_cons_zero, List.getElem?_cons_succ, Res.bind_ok, apN1, intD_int, ofO_some, ap2_dat, nI, modD_int, p2, if_true, r1, r2, bindS_ok, parO_two, List.set]
    have b2 : setM 3 (op2 addD (op2 mulD (cst (.int 4)) (vr 3)) (op2 ixD (op2 ixD (lstD (aCons (lstD (aCons (cst (.int 0)) (aCons (cst (.int 2)) aNil))) (aCons (lstD (aCons (cst (.int 3)) (aCons (cst (.int 1)) aNil))) aNil))) (vr 5)) (vr 6))) [some (.dat a), some (.dat (nI row)), some (.dat (nI col)), some (.dat (nI found)), some (.dat x), some (.dat (nI (row % 2))), some (.dat (nI (col % 2)))] st = .nx [some (.dat a), some (.dat (nI row)), some (.dat (nI col)), some (.dat (nI (4 * found + tab (row % 2) (col % 2)))), some (.dat x), some (.dat (nI (row % 2))), some (.dat (nI (col % 2)))] st := by
      have m1 : op2 mulD (cst (.int 4)) (vr 3) [some (.dat a), some (.dat (nI row)), some (.dat (nI col)), some (.dat (nI found)), some (.dat x), some (.dat (nI (row % 2))), some (.dat (nI (col % 2)))] st = .ok (.dat (.int (4 * (found : Int)))) st := by
        rw [ev_op2, ev_cst, Res.bind_ok, show vr 3 [some (.dat a), some (.dat (nI row)), some (.dat (nI col)), some (.dat (nI found)), some (.dat x), some (.dat (nI (row % 2))), some (.dat (nI (col % 2)))] st = .ok (.dat (nI found)) st from rfl, Res.bind_ok, ap2_dat, mul4 hb30]
        rfl
      rw [ev_setM, ev_op2, m1, Res.bind_ok, t, Res.bind_ok, ap2_dat, addD_int, ofO_some, bindS_ok]
      rfl
    have b3 : parM 1 2 (aCons (op2 fdivD (vr 1) (cst (.int 2))) (aCons (op2 fdivD (vr 2) (cst (.int 2))) aNil)) [some (.dat a), some (.dat (nI row)), some (.dat (nI col)), some (.dat (nI (4 * found + tab (row % 2) (col % 2)))), some (.dat x), some (.dat (nI (row % 2))), some (.dat (nI (col % 2)))] st = .nx [some (.dat a), some (.dat (nI (row / 2))), some (.dat (nI (col / 2))), some (.dat (nI (4 * found + tab (row % 2) (col % 2)))), some (.dat x), some (.dat (nI (row % 2))), some (.dat (nI (col % 2)))] st := by
      simp only [ev_parM, ev_aCons, ev_aNil, ev_op2, ev_vr, ev_cst, List.getElem?_cons_zero, List.getElem?_cons_succ, Res.bind_ok, ofO_some, ap2_dat, nI, fdivD_int, d2, if_true, q1, q2, bindS_ok, parO_two, List.set]
    have hb : tgM (bName 4) plc_loop x [some (.dat a), some (.dat (nI row)), some (.dat (nI col)), some (.dat (nI found)), o4, o5, o6] st = plc_loop [some (.dat a), some (.dat (nI row)), some (.dat (nI col)), some (.dat (nI found)), some (.dat x), o5, o6] st := by
      rw [ev_tgM, ev_bName, optO_some]
      rfl
    rw [loopM_cons, hb, plc_loop, ev_seqM, b1, seqO_nx, ev_seqM, b2, seqO_nx, b3, loopO_nx]
    exact ih
theorem place_run {n : Nat} (hn : n ≤ 5) (row col : Nat) (st : Store) : d_u_law_place [.dat (nI n), .dat (nI row), .dat (nI col)] st = .ok (.dat (nI (plc n row col 0))) st := by
  refine call_rt rfl ?_
  have hf : 0 < 4 ^ (10 - n) := Nat.pow_pos (by decide)
  obtain ⟨row', col', o4, o5, o6, e⟩ := plc_many (nI n) st n (rngD 0 n 1) row col 0 none none none (rngD_len ..) hf (by omega)
  have h1 : setM 3 (cst (.int 0)) [some (.dat (nI n)), some (.dat (nI row)), some (.dat (nI col)), none, none, none, none] st = .nx [some (.dat (nI n)), some (.dat (nI row)), some (.dat (nI col)), some (.dat (nI 0)), none, none, none] st := rfl
  have hr : rng1M (aCons (vr 0) aNil) [some (.dat (nI n)), some (.dat (nI row)), some (.dat (nI col)), some (.dat (nI 0)), none, none, none] st = .ok (rngD 0 n 1) st := run_rng1 rfl (by omega)
  show b_u_law_place [some (.dat (nI n)), some (.dat (nI row)), some (.dat (nI col)), none, none, none, none] st = _
  rw [b_u_law_place, ev_seqM, h1, seqO_nx, ev_seqM, ev_forM, hr, bindS_ok, e, seqO_nx]
  rfl
def lgrow (n : Nat) : List (List Nat) := (List.range (2 ^ n)).map fun row => (List.range (2 ^ n)).map fun col => plc n row col 0
theorem lgrow_eq : ∀ n ∈ List.range 6, lgrow n = growN n := by decide +kernel
theorem rngD_map (n : Nat) : rngD 0 n 1 = (List.range n).map nI := by
  unfold rngD
  refine List.map_congr_left fun i _ => ?_
  show PyData.int _ = PyData.int _
  congr 1
  omega
theorem lgrown_run {n : Nat} (hn : n ≤ 5) (st : Store) : d_u_law_grown [.dat (nI n)] st = .ok (.dat (scrD (lgrow n))) st := by
  refine call_rt rfl ?_
  have hs : 2 ^ n ≤ 32 := by
    have : 2 ^ n ≤ 2 ^ 5 := Nat.pow_le_pow_right (by decide) hn
    simpa using this
  have e6 : (6 : Nat) ≤ sizeLine := sl _ (by decide)
  have h1 : setM 1 (op2 ixD (lstD (aCons (cst (.int 1)) (aCons (cst (.int 2)) (aCons (cst (.int 4)) (aCons (cst (.int 8)) (aCons (cst (.int 16)) (aCons (cst (.int 32)) aNil))))))) (vr 0)) [some (.dat (nI n)), none, none, none] st = .nx [some (.dat (nI n)), some (.dat (nI (2 ^ n))), none, none] st := by
    have hl : lstD (aCons (cst (.int 1)) (aCons (cst (.int 2)) (aCons (cst (.int 4)) (aCons (cst (.int 8)) (aCons (cst (.int 16)) (aCons (cst (.int 32)) aNil)))))) [some (.dat (nI n)), none, none, none] st = .ok (.dat (.list [.int 1, .int 2, .int 4, .int 8, .int 16, .int 32])) st := by
      simp [e6]
    have hx : ([.int 1, .int 2, .int 4, .int 8, .int 16, .int 32] : List D)[n]? = some (nI (2 ^ n)) := by
      have : ∀ n ∈ List.range 6, ([1, 2, 4, 8, 16, 32] : List Nat)[n]? = some (2 ^ n) := by decide
      have e := this n (List.mem_range.mpr (by omega))
      have e2 : ([.int 1, .int 2, .int 4, .int 8, .int 16, .int 32] : List D) = ([1, 2, 4, 8, 16, 32] : List Nat).map nI := rfl
      rw [e2, List.getElem?_map, e]
      rfl
    rw [ev_setM, ev_op2, hl, Res.bind_ok, show vr 0 [some (.dat (nI n)), none, none, none] st = .ok (.dat (nI n)) st from rfl, Res.bind_ok, ap2_dat, ixD_lst, Pd.atI_nat, hx, ofO_some, bindS_ok]
    rfl
  have inner : ∀ (row : Nat) (s : Slots), s = [some (.dat (nI n)), some (.dat (nI (2 ^ n))), some (.dat (nI row)), none] → opN tupleD (aCons (lcM (rng1M (aCons (vr 1) aNil)) (bName 3) [3] tYesM (callM d_u_law_place (aCons (vr 0) (aCons (vr 2) (aCons (vr 3) aNil))))) aNil) s st = .ok (.dat (rowD ((List.range (2 ^ n)).map fun col => plc n row col 0))) st := by
    rintro row s rfl
    have hr : rng1M (aCons (vr 1) aNil) [some (.dat (nI n)), some (.dat (nI (2 ^ n))), some (.dat (nI row)), none] st = .ok ((List.range (2 ^ n)).map nI) st := by
      rw [run_rng1 (n := 2 ^ n) (st1 := st) rfl (by omega), rngD_map]
    have q : (((List.range (2 ^ n)).map fun col => plc n row col 0).map nI).length ≤ sizeLine := by
      rw [List.length_map, List.length_map, List.length_range]
      exact sl _ (by omega)
    rw [ev_opN, ev_aCons, ev_lcM, hr, Res.bind_ok, lcGo_mapN (fun col => plc n row col 0) _ fun col _ => ⟨_, rfl, ?_⟩, noX_ok, Res.bind_ok, if_pos q, Res.bind_ok, ev_aNil, Res.bind_ok, Res.bind_ok, apN1]
    · rfl
    · simp only [ev_callM, ev_aCons, ev_aNil, ev_vr, wipeS, List.set, List.getElem?_cons_zero, List.getElem?_cons_succ, Res.bind_ok, place_run hn]
  have outer : ∀ l : List Nat, lcGo (bName 2) tYesM (opN tupleD (aCons (lcM (rng1M (aCons (vr 1) aNil)) (bName 3) [3] tYesM (callM d_u_law_place (aCons (vr 0) (aCons (vr 2) (aCons (vr 3) aNil))))) aNil)) (l.map nI) (wipeS [some (.dat (nI n)), some (.dat (nI (2 ^ n))), none, none] [2]) st = .ok ((l.map fun row => (List.range (2 ^ n)).map fun col => plc n row col 0).map rowD) st := by
    intro l
    induction l with
    | nil => rfl
    | cons row l ih =>
      have i := inner row ((wipeS [some (.dat (nI n)), some (.dat (nI (2 ^ n))), none, none] [2]).set 2 (some (.dat (nI row)))) rfl
      rw [List.map_cons, List.map_cons, List.map_cons, lcGo_cons, ev_bName]
      simp only [ev_tYesM, Res.bind_ok, if_true, i, toD_dat, ih]
  have hr2 : rng1M (aCons (vr 1) aNil) [some (.dat (nI n)), some (.dat (nI (2 ^ n))), none, none] st = .ok ((List.range (2 ^ n)).map nI) st := by
    rw [run_rng1 (n := 2 ^ n) (st1 := st) rfl (by omega), rngD_map]
  have q2 : ((lgrow n).map rowD).length ≤ sizeLine := by
    unfold lgrow
    rw [List.length_map, List.length_map, List.length_range]
    exact sl _ (by omega)
  show b_u_law_grown [some (.dat (nI n)), none, none, none] st = _
  rw [b_u_law_grown, ev_seqM, h1, seqO_nx, ev_retM, ev_opN, ev_aCons, ev_lcM, hr2, Res.bind_ok, outer, noX_ok, Res.bind_ok]
  unfold lgrow at q2
  rw [if_pos q2]
  rfl
end K27

set_option Elab.async false
set_option linter.all false
set_option maxRecDepth 100000
set_option maxHeartbeats 4000000
set_option exponentiation.threshold 5000
/-! K27Sc: rows and screens. -/
namespace K27
open PySem L2 Pd
/-- rows of the same length, some of them -/
def rowsOk {α : Type} (rows : List (List α)) : Bool := match rows with
  | [] => false
  | r :: rs => decide (0 < r.length) && (r :: rs).all fun x => decide (x.length = r.length)
theorem arerows_run {α : Type} {enc : α → D} (rows : List (List α)) (hn : rows.length ≤ 1000) (st : Store) : d_are_rows [.dat (.tuple (rows.map fun r => .tuple (r.map enc)))] st = .ok (.dat (.bool (rowsOk rows))) st := by
  refine call_rt rfl ?_
  show b_are_rows [some (.dat (.tuple (rows.map fun r => .tuple (r.map enc)))), none] st = _
  cases rows with
  | nil =>
    rw [b_are_rows]
    simp only [seqO_nx, seqO_rt, seqO_exc, ev_seqM, ev_skipM, ev_cst, ev_vr, ev_aNil, ev_noO, ev_tYesM, List.getElem?_cons_zero, List.getElem?_cons_succ, List.set, Res.bind_ok, bindS_ok, ap2_dat, ap1_dat, apN1, apN2, ofO_some, peek_dat, truD_bool, Bool.not_true, Bool.not_false, ixD_tup, ixD_lst, atI_0, atI_1, toDs_nil, toD_dat, ek_op2, k_op2, k_op2b, ek_op1, k_op1, ek_isiM, ek_opN, k_opN, ek_aCons, k_cons, k_cons2, ek_tupM, ek_lstD, k_tup, k_tup2_0, k_tup2_1, k_tup2_2, k_tup2_3, k_tup2_4, k_tup2_5, k_tup2_6, k_tup2_7, k_tup2_8, k_tup2_9, k_tup2_10, k_tup2_11, k_tup2_12, ek_toDs, k_toDs, k_toDs2, ek_callM, ek_ifE, k_ifE_t, k_ifE_f, truO_some, ofB_some, ek_truM, k_tru, ek_andT, k_andT_t, k_andT_f, ek_orT, k_orT_t, k_orT_f, ek_notT, k_notT, ek_andE, k_andE_t, k_andE_f, ek_orE, k_orE_t, k_orE_f, ek_notE, k_notE, ek_setM, k_set, ek_parM, k_par, ek_ifS, k_if_t, k_if_f, ek_retM, k_ret, ek_dropM, k_drop, ek_forM, k_for, ek_itM, k_it_l, k_it_t, ek_zipM, k_zip, k_zip2_l, k_zip2_t, ek_someO, k_some, ek_sliceM, k_sl, k_sl2, k_sl3, apS_dat, ek_parGM, k_pg2, k_pg3, ek_parM3, k_p3, ek_lstC, k_lst0, isiD_tt, List.map_nil, lenD_tup, List.length_nil, Int.natCast_zero, eqD_int, decide_true, Int.ofNat_zero, rowsOk]
  | cons r rs =>
    have hit : itM (vr 0) [some (.dat (.tuple ((r :: rs).map fun r => .tuple (r.map enc)))), none] st = .ok ((r :: rs).map fun r => .tuple (r.map enc)) st := rfl
    have hz : decide ((((r :: rs).map fun r => PyData.tuple (r.map enc)).length : Int) = 0) = false := decide_eq_false (by rw [List.length_map, List.length_cons]; omega)
    have hs : (r :: rs).length ≤ sizeLine := slN _ (by omega)
    have e1 : opN allD (aCons (lcM (itM (vr 0)) (bName 1) [1] tYesM (isiM "tuple" (vr 1))) aNil) [some (.dat (.tuple ((r :: rs).map fun r => .tuple (r.map enc)))), none] st = .ok (.dat (.bool true)) st := by
      have k := allLc (lcM_mapN (e := isiM "tuple" (vr 1)) (vs := [1]) (i := 1) (fun _ : List α => .bool true) hit hs fun x _ => by
        simp only [seqO_nx, seqO_rt, seqO_exc, ev_seqM, ev_skipM, ev_cst, ev_vr, ev_aNil, ev_noO, ev_tYesM, List.getElem?_cons_zero, List.getElem?_cons_succ, List.set, Res.bind_ok, bindS_ok, ap2_dat, ap1_dat, apN1, apN2, ofO_some, peek_dat, truD_bool, Bool.not_true, Bool.not_false, ixD_tup, ixD_lst, atI_0, atI_1, toDs_nil, toD_dat, ek_op2, k_op2, k_op2b, ek_op1, k_op1, ek_isiM, ek_opN, k_opN, ek_aCons, k_cons, k_cons2, ek_tupM, ek_lstD, k_tup, k_tup2_0, k_tup2_1, k_tup2_2, k_tup2_3, k_tup2_4, k_tup2_5, k_tup2_6, k_tup2_7, k_tup2_8, k_tup2_9, k_tup2_10, k_tup2_11, k_tup2_12, ek_toDs, k_toDs, k_toDs2, ek_callM, ek_ifE, k_ifE_t, k_ifE_f, truO_some, ofB_some, ek_truM, k_tru, ek_andT, k_andT_t, k_andT_f, ek_orT, k_orT_t, k_orT_f, ek_notT, k_notT, ek_andE, k_andE_t, k_andE_f, ek_orE, k_orE_t, k_orE_f, ek_notE, k_notE, ek_setM, k_set, ek_parM, k_par, ek_ifS, k_if_t, k_if_f, ek_retM, k_ret, ek_dropM, k_drop, ek_forM, k_for, ek_itM, k_it_l, k_it_t, ek_zipM, k_zip, k_zip2_l, k_zip2_t, ek_someO, k_some, ek_sliceM, k_sl, k_sl2, k_sl3, apS_dat, ek_parGM, k_pg2, k_pg3, ek_parM3, k_p3, ek_lstC, k_lst0, wipeS, isiD_tt])
      rw [k]
      simp
    have e2 : opN allD (aCons (lcM (itM (vr 0)) (bName 1) [1] tYesM (op2 eqD (opN lenD (aCons (vr 1) aNil)) (opN lenD (aCons (op2 ixD (vr 0) (cst (.int 0))) aNil)))) aNil) [some (.dat (.tuple ((r :: rs).map fun r => .tuple (r.map enc)))), none] st = .ok (.dat (.bool ((r :: rs).all fun x => decide (x.length = r.length)))) st := by
      refine allLc (lcM_mapN (i := 1) (fun x : List α => .bool (decide (x.length = r.length))) hit hs fun x _ => ?_)
      have ha : ∀ x : List α, decide ((x.length : Int) = (r.length : Int)) = decide (x.length = r.length) := fun x => by
        by_cases h : x.length = r.length
        · simp [h]
        · rw [decide_eq_false h, decide_eq_false (by omega)]
      simp only [seqO_nx, seqO_rt, seqO_exc, ev_seqM, ev_skipM, ev_cst, ev_vr, ev_aNil, ev_noO, ev_tYesM, List.getElem?_cons_zero, List.getElem?_cons_succ, List.set, Res.bind_ok, bindS_ok, ap2_dat, ap1_dat, apN1, apN2, ofO_some, peek_dat, truD_bool, Bool.not_true, Bool.not_false, ixD_tup, ixD_lst, atI_0, atI_1, toDs_nil, toD_dat, ek_op2, k_op2, k_op2b, ek_op1, k_op1, ek_isiM, ek_opN, k_opN, ek_aCons, k_cons, k_cons2, ek_tupM, ek_lstD, k_tup, k_tup2_0, k_tup2_1, k_tup2_2, k_tup2_3, k_tup2_4, k_tup2_5, k_tup2_6, k_tup2_7, k_tup2_8, k_tup2_9, k_tup2_10, k_tup2_11, k_tup2_12, ek_toDs, k_toDs, k_toDs2, ek_callM, ek_ifE, k_ifE_t, k_ifE_f, truO_some, ofB_some, ek_truM, k_tru, ek_andT, k_andT_t, k_andT_f, ek_orT, k_orT_t, k_orT_f, ek_notT, k_notT, ek_andE, k_andE_t, k_andE_f, ek_orE, k_orE_t, k_orE_f, ek_notE, k_notE, ek_setM, k_set, ek_parM, k_par, ek_ifS, k_if_t, k_if_f, ek_retM, k_ret, ek_dropM, k_drop, ek_forM, k_for, ek_itM, k_it_l, k_it_t, ek_zipM, k_zip, k_zip2_l, k_zip2_t, ek_someO, k_some, ek_sliceM, k_sl, k_sl2, k_sl3, apS_dat, ek_parGM, k_pg2, k_pg3, ek_parM3, k_p3, ek_lstC, k_lst0, wipeS, List.map_cons, lenD_tup, List.length_map, eqD_int, ha]
    have e0 : opN lenD (aCons (op2 ixD (vr 0) (cst (.int 0))) aNil) [some (.dat (.tuple ((r :: rs).map fun r => .tuple (r.map enc)))), none] st = .ok (.dat (.int r.length)) st := by
      simp only [seqO_nx, seqO_rt, seqO_exc, ev_seqM, ev_skipM, ev_cst, ev_vr, ev_aNil, ev_noO, ev_tYesM, List.getElem?_cons_zero, List.getElem?_cons_succ, List.set, Res.bind_ok, bindS_ok, ap2_dat, ap1_dat, apN1, apN2, ofO_some, peek_dat, truD_bool, Bool.not_true, Bool.not_false, ixD_tup, ixD_lst, atI_0, atI_1, toDs_nil, toD_dat, ek_op2, k_op2, k_op2b, ek_op1, k_op1, ek_isiM, ek_opN, k_opN, ek_aCons, k_cons, k_cons2, ek_tupM, ek_lstD, k_tup, k_tup2_0, k_tup2_1, k_tup2_2, k_tup2_3, k_tup2_4, k_tup2_5, k_tup2_6, k_tup2_7, k_tup2_8, k_tup2_9, k_tup2_10, k_tup2_11, k_tup2_12, ek_toDs, k_toDs, k_toDs2, ek_callM, ek_ifE, k_ifE_t, k_ifE_f, truO_some, ofB_some, ek_truM, k_tru, ek_andT, k_andT_t, k_andT_f, ek_orT, k_orT_t, k_orT_f, ek_notT, k_notT, ek_andE, k_andE_t, k_andE_f, ek_orE, k_orE_t, k_orE_f, ek_notE, k_notE, ek_setM, k_set, ek_parM, k_par, ek_ifS, k_if_t, k_if_f, ek_retM, k_ret, ek_dropM, k_drop, ek_forM, k_for, ek_itM, k_it_l, k_it_t, ek_zipM, k_zip, k_zip2_l, k_zip2_t, ek_someO, k_some, ek_sliceM, k_sl, k_sl2, k_sl3, apS_dat, ek_parGM, k_pg2, k_pg3, ek_parM3, k_p3, ek_lstC, k_lst0, List.map_cons, lenD_tup, List.length_map]
    have hg : decide ((0 : Int) < (r.length : Int)) = decide (0 < r.length) := by
      by_cases h : 0 < r.length
      · rw [decide_eq_true h, decide_eq_true (by omega)]
      · rw [decide_eq_false h, decide_eq_false (by omega)]
    rw [b_are_rows]
    simp only [seqO_nx, seqO_rt, seqO_exc, ev_seqM, ev_skipM, ev_cst, ev_vr, ev_aNil, ev_noO, ev_tYesM, List.getElem?_cons_zero, List.getElem?_cons_succ, List.set, Res.bind_ok, bindS_ok, ap2_dat, ap1_dat, apN1, apN2, ofO_some, peek_dat, truD_bool, Bool.not_true, Bool.not_false, ixD_tup, ixD_lst, atI_0, atI_1, toDs_nil, toD_dat, ek_op2, k_op2, k_op2b, ek_op1, k_op1, ek_isiM, ek_opN, k_opN, ek_aCons, k_cons, k_cons2, ek_tupM, ek_lstD, k_tup, k_tup2_0, k_tup2_1, k_tup2_2, k_tup2_3, k_tup2_4, k_tup2_5, k_tup2_6, k_tup2_7, k_tup2_8, k_tup2_9, k_tup2_10, k_tup2_11, k_tup2_12, ek_toDs, k_toDs, k_toDs2, ek_callM, ek_ifE, k_ifE_t, k_ifE_f, truO_some, ofB_some, ek_truM, k_tru, ek_andT, k_andT_t, k_andT_f, ek_orT, k_orT_t, k_orT_f, ek_notT, k_notT, ek_andE, k_andE_t, k_andE_f, ek_orE, k_orE_t, k_orE_f, ek_notE, k_notE, ek_setM, k_set, ek_parM, k_par, ek_ifS, k_if_t, k_if_f, ek_retM, k_ret, ek_dropM, k_drop, ek_forM, k_for, ek_itM, k_it_l, k_it_t, ek_zipM, k_zip, k_zip2_l, k_zip2_t, ek_someO, k_some, ek_sliceM, k_sl, k_sl2, k_sl3, apS_dat, ek_parGM, k_pg2, k_pg3, ek_parM3, k_p3, ek_lstC, k_lst0, ↓e1, isiD_tt, lenD_tup, eqD_int, hz, ↓e2, ↓e0, gtD_int, hg]
    rw [rowsOk]
    cases decide (0 < r.length) with
    | true =>
      simp only [seqO_nx, seqO_rt, seqO_exc, ev_seqM, ev_skipM, ev_cst, ev_vr, ev_aNil, ev_noO, ev_tYesM, List.getElem?_cons_zero, List.getElem?_cons_succ, List.set, Res.bind_ok, bindS_ok, ap2_dat, ap1_dat, apN1, apN2, ofO_some, peek_dat, truD_bool, Bool.not_true, Bool.not_false, ixD_tup, ixD_lst, atI_0, atI_1, toDs_nil, toD_dat, ek_op2, k_op2, k_op2b, ek_op1, k_op1, ek_isiM, ek_opN, k_opN, ek_aCons, k_cons, k_cons2, ek_tupM, ek_lstD, k_tup, k_tup2_0, k_tup2_1, k_tup2_2, k_tup2_3, k_tup2_4, k_tup2_5, k_tup2_6, k_tup2_7, k_tup2_8, k_tup2_9, k_tup2_10, k_tup2_11, k_tup2_12, ek_toDs, k_toDs, k_toDs2, ek_callM, ek_ifE, k_ifE_t, k_ifE_f, truO_some, ofB_some, ek_truM, k_tru, ek_andT, k_andT_t, k_andT_f, ek_orT, k_orT_t, k_orT_f, ek_notT, k_notT, ek_andE, k_andE_t, k_andE_f, ek_orE, k_orE_t, k_orE_f, ek_notE, k_notE, ek_setM, k_set, ek_parM, k_par, ek_ifS, k_if_t, k_if_f, ek_retM, k_ret, ek_dropM, k_drop, ek_forM, k_for, ek_itM, k_it_l, k_it_t, ek_zipM, k_zip, k_zip2_l, k_zip2_t, ek_someO, k_some, ek_sliceM, k_sl, k_sl2, k_sl3, apS_dat, ek_parGM, k_pg2, k_pg3, ek_parM3, k_p3, ek_lstC, k_lst0, ↓e2]
      rfl
    | false =>
      simp only [seqO_nx, seqO_rt, seqO_exc, ev_seqM, ev_skipM, ev_cst, ev_vr, ev_aNil, ev_noO, ev_tYesM, List.getElem?_cons_zero, List.getElem?_cons_succ, List.set, Res.bind_ok, bindS_ok, ap2_dat, ap1_dat, apN1, apN2, ofO_some, peek_dat, truD_bool, Bool.not_true, Bool.not_false, ixD_tup, ixD_lst, atI_0, atI_1, toDs_nil, toD_dat, ek_op2, k_op2, k_op2b, ek_op1, k_op1, ek_isiM, ek_opN, k_opN, ek_aCons, k_cons, k_cons2, ek_tupM, ek_lstD, k_tup, k_tup2_0, k_tup2_1, k_tup2_2, k_tup2_3, k_tup2_4, k_tup2_5, k_tup2_6, k_tup2_7, k_tup2_8, k_tup2_9, k_tup2_10, k_tup2_11, k_tup2_12, ek_toDs, k_toDs, k_toDs2, ek_callM, ek_ifE, k_ifE_t, k_ifE_f, truO_some, ofB_some, ek_truM, k_tru, ek_andT, k_andT_t, k_andT_f, ek_orT, k_orT_t, k_orT_f, ek_notT, k_notT, ek_andE, k_andE_t, k_andE_f, ek_orE, k_orE_t, k_orE_f, ek_notE, k_notE, ek_setM, k_set, ek_parM, k_par, ek_ifS, k_if_t, k_if_f, ek_retM, k_ret, ek_dropM, k_drop, ek_forM, k_for, ek_itM, k_it_l, k_it_t, ek_zipM, k_zip, k_zip2_l, k_zip2_t, ek_someO, k_some, ek_sliceM, k_sl, k_sl2, k_sl3, apS_dat, ek_parGM, k_pg2, k_pg3, ek_parM3, k_p3, ek_lstC, k_lst0]
      rfl
theorem unInts_nat (l : List Nat) : unInts (l.map nI) = some (l.map fun k : Nat => (k : Int)) := by
  rw [show l.map nI = (l.map fun k : Nat => (k : Int)).map PyData.int from (by rw [List.map_map]; rfl), unInts_map]
/-- what is_screen looks at -/
def scrOk (rows : List (List Nat)) : Bool := rowsOk rows && decide (sortI (rows.flatten.map fun k : Nat => (k : Int)) = (List.range rows.flatten.length).map fun k : Nat => (k : Int))
theorem isscreen_run (rows : List (List Nat)) (hn : rows.length ≤ 1000) (hf : rows.flatten.length ≤ 5000) (st : Store) : d_is_screen [.dat (scrD rows)] st = .ok (.dat (.bool (scrOk rows))) st := by
  refine call_rt rfl ?_
  show b_is_screen [some (.dat (scrD rows)), none, none, none] st = _
  have e1 := arerows_run (enc := nI) rows hn st
  have e2 : lc2M (itM (vr 0)) (bName 2) [2, 3] tYesM (itM (vr 2)) (bName 3) [3] tYesM (vr 3) [some (.dat (scrD rows)), none, none, none] st = .ok (.dat (.list (rows.flatten.map nI))) st :=
    lc2_flat (rows := rows) rfl (slN _ (by omega)) (by simp) (by simp)
  rw [b_is_screen]
  have e1' : d_are_rows [.dat (scrD rows)] st = .ok (.dat (.bool (rowsOk rows))) st := e1
  cases hr : rowsOk rows with
  | false =>
    simp only [seqO_nx, seqO_rt, seqO_exc, ev_seqM, ev_skipM, ev_cst, ev_vr, ev_aNil, ev_noO, ev_tYesM, List.getElem?_cons_zero, List.getElem?_cons_succ, List.set, Res.bind_ok, bindS_ok, ap2_dat, ap1_dat, apN1, apN2, ofO_some, peek_dat, truD_bool, Bool.not_true, Bool.not_false, ixD_tup, ixD_lst, atI_0, atI_1, toDs_nil, toD_dat, ek_op2, k_op2, k_op2b, ek_op1, k_op1, ek_isiM, ek_opN, k_opN, ek_aCons, k_cons, k_cons2, ek_tupM, ek_lstD, k_tup, k_tup2_0, k_tup2_1, k_tup2_2, k_tup2_3, k_tup2_4, k_tup2_5, k_tup2_6, k_tup2_7, k_tup2_8, k_tup2_9, k_tup2_10, k_tup2_11, k_tup2_12, ek_toDs, k_toDs, k_toDs2, ek_callM, ek_ifE, k_ifE_t, k_ifE_f, truO_some, ofB_some, ek_truM, k_tru, ek_andT, k_andT_t, k_andT_f, ek_orT, k_orT_t, k_orT_f, ek_notT, k_notT, ek_andE, k_andE_t, k_andE_f, ek_orE, k_orE_t, k_orE_f, ek_notE, k_notE, ek_setM, k_set, ek_parM, k_par, ek_ifS, k_if_t, k_if_f, ek_retM, k_ret, ek_dropM, k_drop, ek_forM, k_for, ek_itM, k_it_l, k_it_t, ek_zipM, k_zip, k_zip2_l, k_zip2_t, ek_someO, k_some, ek_sliceM, k_sl, k_sl2, k_sl3, apS_dat, ek_parGM, k_pg2, k_pg3, ek_parM3, k_p3, ek_lstC, k_lst0, ↓e1', hr]
    rw [scrOk, hr]
    rfl
  | true =>
    have e3 : opN allD (aCons (lcM (itM (vr 1)) (bName 3) [3] tYesM (callM d_is_integer (aCons (vr 3) aNil))) aNil) [some (.dat (scrD rows)), some (.dat (.list (rows.flatten.map nI))), none, none] st = .ok (.dat (.bool true)) st := by
      have k := allLc (lcM_mapN (it := itM (vr 1)) (s := [some (.dat (scrD rows)), some (.dat (.list (rows.flatten.map nI))), none, none]) (st := st) (e := callM d_is_integer (aCons (vr 3) aNil)) (vs := [3]) (i := 3) (enc := nI) (fun _ : Nat => .bool true) rfl (slN _ (by omega)) fun x _ => by
        have := isint_run (x : Int) st
        simp only [seqO_nx, seqO_rt, seqO_exc, ev_seqM, ev_skipM, ev_cst, ev_vr, ev_aNil, ev_noO, ev_tYesM, List.getElem?_cons_zero, List.getElem?_cons_succ, List.set, Res.bind_ok, bindS_ok, ap2_dat, ap1_dat, apN1, apN2, ofO_some, peek_dat, truD_bool, Bool.not_true, Bool.not_false, ixD_tup, ixD_lst, atI_0, atI_1, toDs_nil, toD_dat, ek_op2, k_op2, k_op2b, ek_op1, k_op1, ek_isiM, ek_opN, k_opN, ek_aCons, k_cons, k_cons2, ek_tupM, ek_lstD, k_tup, k_tup2_0, k_tup2_1, k_tup2_2, k_tup2_3, k_tup2_4, k_tup2_5, k_tup2_6, k_tup2_7, k_tup2_8, k_tup2_9, k_tup2_10, k_tup2_11, k_tup2_12, ek_toDs, k_toDs, k_toDs2, ek_callM, ek_ifE, k_ifE_t, k_ifE_f, truO_some, ofB_some, ek_truM, k_tru, ek_andT, k_andT_t, k_andT_f, ek_orT, k_orT_t, k_orT_f, ek_notT, k_notT, ek_andE, k_andE_t, k_andE_f, ek_orE, k_orE_t, k_orE_f, ek_notE, k_notE, ek_setM, k_set, ek_parM, k_par, ek_ifS, k_if_t, k_if_f, ek_retM, k_ret, ek_dropM, k_drop, ek_forM, k_for, ek_itM, k_it_l, k_it_t, ek_zipM, k_zip, k_zip2_l, k_zip2_t, ek_someO, k_some, ek_sliceM, k_sl, k_sl2, k_sl3, apS_dat, ek_parGM, k_pg2, k_pg3, ek_parM3, k_p3, ek_lstC, k_lst0, wipeS, this])
      rw [k]
      simp
    have e4 : sortedD [.list (rows.flatten.map nI)] = some (.list ((sortI (rows.flatten.map fun k : Nat => (k : Int))).map .int)) := by
      show (unInts (rows.flatten.map nI)).map _ = _
      rw [unInts_nat]
      rfl
    have e5 : lrngM (opN lenD (aCons (vr 1) aNil)) [some (.dat (scrD rows)), some (.dat (.list (rows.flatten.map nI))), none, none] st = .ok (.dat (.list (((List.range rows.flatten.length).map fun k : Nat => (k : Int)).map .int))) st := by
      unfold lrngM
      simp only [seqO_nx, seqO_rt, seqO_exc, ev_seqM, ev_skipM, ev_cst, ev_vr, ev_aNil, ev_noO, ev_tYesM, List.getElem?_cons_zero, List.getElem?_cons_succ, List.set, Res.bind_ok, bindS_ok, ap2_dat, ap1_dat, apN1, apN2, ofO_some, peek_dat, truD_bool, Bool.not_true, Bool.not_false, ixD_tup, ixD_lst, atI_0, atI_1, toDs_nil, toD_dat, ek_op2, k_op2, k_op2b, ek_op1, k_op1, ek_isiM, ek_opN, k_opN, ek_aCons, k_cons, k_cons2, ek_tupM, ek_lstD, k_tup, k_tup2_0, k_tup2_1, k_tup2_2, k_tup2_3, k_tup2_4, k_tup2_5, k_tup2_6, k_tup2_7, k_tup2_8, k_tup2_9, k_tup2_10, k_tup2_11, k_tup2_12, ek_toDs, k_toDs, k_toDs2, ek_callM, ek_ifE, k_ifE_t, k_ifE_f, truO_some, ofB_some, ek_truM, k_tru, ek_andT, k_andT_t, k_andT_f, ek_orT, k_orT_t, k_orT_f, ek_notT, k_notT, ek_andE, k_andE_t, k_andE_f, ek_orE, k_orE_t, k_orE_f, ek_notE, k_notE, ek_setM, k_set, ek_parM, k_par, ek_ifS, k_if_t, k_if_f, ek_retM, k_ret, ek_dropM, k_drop, ek_forM, k_for, ek_itM, k_it_l, k_it_t, ek_zipM, k_zip, k_zip2_l, k_zip2_t, ek_someO, k_some, ek_sliceM, k_sl, k_sl2, k_sl3, apS_dat, ek_parGM, k_pg2, k_pg3, ek_parM3, k_p3, ek_lstC, k_lst0, lenD_lst, List.length_map]
      rw [if_pos ⟨by rw [Int.toNat_natCast]; omega, by rw [Int.toNat_natCast]; exact slN _ (by omega), by omega⟩, Int.toNat_natCast, List.map_map]
      rfl
    have e6 := eqD_of (Lay.listM (enc := PyData.int) (l := sortI (rows.flatten.map fun k : Nat => (k : Int))) fun x _ => Lay.int x) (Lay.listM (enc := PyData.int) (l := (List.range rows.flatten.length).map fun k : Nat => (k : Int)) fun x _ => Lay.int x)
    rw [eqv_listM eqv_int] at e6
    have e7 : op2 eqD (opN sortedD (aCons (vr 1) aNil)) (lrngM (opN lenD (aCons (vr 1) aNil))) [some (.dat (scrD rows)), some (.dat (.list (rows.flatten.map nI))), none, none] st = .ok (.dat (.bool (decide (sortI (rows.flatten.map fun k : Nat => (k : Int)) = (List.range rows.flatten.length).map fun k : Nat => (k : Int))))) st := by
      simp only [seqO_nx, seqO_rt, seqO_exc, ev_seqM, ev_skipM, ev_cst, ev_vr, ev_aNil, ev_noO, ev_tYesM, List.getElem?_cons_zero, List.getElem?_cons_succ, List.set, Res.bind_ok, bindS_ok, ap2_dat, ap1_dat, apN1, apN2, ofO_some, peek_dat, truD_bool, Bool.not_true, Bool.not_false, ixD_tup, ixD_lst, atI_0, atI_1, toDs_nil, toD_dat, ek_op2, k_op2, k_op2b, ek_op1, k_op1, ek_isiM, ek_opN, k_opN, ek_aCons, k_cons, k_cons2, ek_tupM, ek_lstD, k_tup, k_tup2_0, k_tup2_1, k_tup2_2, k_tup2_3, k_tup2_4, k_tup2_5, k_tup2_6, k_tup2_7, k_tup2_8, k_tup2_9, k_tup2_10, k_tup2_11, k_tup2_12, ek_toDs, k_toDs, k_toDs2, ek_callM, ek_ifE, k_ifE_t, k_ifE_f, truO_some, ofB_some, ek_truM, k_tru, ek_andT, k_andT_t, k_andT_f, ek_orT, k_orT_t, k_orT_f, ek_notT, k_notT, ek_andE, k_andE_t, k_andE_f, ek_orE, k_orE_t, k_orE_f, ek_notE, k_notE, ek_setM, k_set, ek_parM, k_par, ek_ifS, k_if_t, k_if_f, ek_retM, k_ret, ek_dropM, k_drop, ek_forM, k_for, ek_itM, k_it_l, k_it_t, ek_zipM, k_zip, k_zip2_l, k_zip2_t, ek_someO, k_some, ek_sliceM, k_sl, k_sl2, k_sl3, apS_dat, ek_parGM, k_pg2, k_pg3, ek_parM3, k_p3, ek_lstC, k_lst0, e4, ↓e5, e6]
    simp only [seqO_nx, seqO_rt, seqO_exc, ev_seqM, ev_skipM, ev_cst, ev_vr, ev_aNil, ev_noO, ev_tYesM, List.getElem?_cons_zero, List.getElem?_cons_succ, List.set, Res.bind_ok, bindS_ok, ap2_dat, ap1_dat, apN1, apN2, ofO_some, peek_dat, truD_bool, Bool.not_true, Bool.not_false, ixD_tup, ixD_lst, atI_0, atI_1, toDs_nil, toD_dat, ek_op2, k_op2, k_op2b, ek_op1, k_op1, ek_isiM, ek_opN, k_opN, ek_aCons, k_cons, k_cons2, ek_tupM, ek_lstD, k_tup, k_tup2_0, k_tup2_1, k_tup2_2, k_tup2_3, k_tup2_4, k_tup2_5, k_tup2_6, k_tup2_7, k_tup2_8, k_tup2_9, k_tup2_10, k_tup2_11, k_tup2_12, ek_toDs, k_toDs, k_toDs2, ek_callM, ek_ifE, k_ifE_t, k_ifE_f, truO_some, ofB_some, ek_truM, k_tru, ek_andT, k_andT_t, k_andT_f, ek_orT, k_orT_t, k_orT_f, ek_notT, k_notT, ek_andE, k_andE_t, k_andE_f, ek_orE, k_orE_t, k_orE_f, ek_notE, k_notE, ek_setM, k_set, ek_parM, k_par, ek_ifS, k_if_t, k_if_f, ek_retM, k_ret, ek_dropM, k_drop, ek_forM, k_for, ek_itM, k_it_l, k_it_t, ek_zipM, k_zip, k_zip2_l, k_zip2_t, ek_someO, k_some, ek_sliceM, k_sl, k_sl2, k_sl3, apS_dat, ek_parGM, k_pg2, k_pg3, ek_parM3, k_p3, ek_lstC, k_lst0, ↓e1', hr, ↓e2, ↓e3, ↓e7]
    rw [scrOk, hr]
    rfl
/-! screens -/
structure Scr (rows : List (List Nat)) (w : Nat) : Prop where
  h0 : 0 < rows.length
  w0 : 0 < w
  h4 : rows.length ≤ 4
  w5 : w ≤ 5
  wid : ∀ r ∈ rows, r.length = w
  perm : rows.flatten.Perm (List.range (rows.length * w))
theorem flat_len {α : Type} {w : Nat} : ∀ {rows : List (List α)}, (∀ r ∈ rows, r.length = w) → rows.flatten.length = rows.length * w
  | [], _ => by simp
  | r :: rs, h => by
    rw [List.flatten_cons, List.length_append, flat_len fun x hx => h x (List.mem_cons_of_mem _ hx), h r List.mem_cons_self, List.length_cons, Nat.succ_mul]
    omega
theorem rowsOk_of {α : Type} {rows : List (List α)} {w : Nat} (h0 : 0 < rows.length) (w0 : 0 < w) (h : ∀ r ∈ rows, r.length = w) : rowsOk rows = true := by
  cases rows with
  | nil => simp at h0
  | cons r rs =>
    have hr := h r List.mem_cons_self
    unfold rowsOk
    simp only [Bool.and_eq_true, decide_eq_true_eq, List.all_eq_true]
    exact ⟨by omega, fun x hx => by rw [h x hx, hr]⟩
theorem rng_sorted (n : Nat) : ((List.range n).map fun k : Nat => (k : Int)).Pairwise (· ≤ ·) := by
  rw [List.pairwise_map]
  exact List.pairwise_lt_range.imp fun h => by omega
theorem scrOk_perm {rows : List (List Nat)} {n : Nat} (h : rows.flatten.Perm (List.range n)) : sortI (rows.flatten.map fun k : Nat => (k : Int)) = (List.range rows.flatten.length).map fun k : Nat => (k : Int) := by
  have hl : rows.flatten.length = n := by rw [h.length_eq, List.length_range]
  rw [hl]
  exact (sortI_eq (h.map _).symm (rng_sorted n)).symm
theorem Scr.ok {rows : List (List Nat)} {w : Nat} (h : Scr rows w) : scrOk rows = true := by
  unfold scrOk
  rw [rowsOk_of h.h0 h.w0 h.wid, decide_eq_true (scrOk_perm h.perm)]
  rfl
theorem Scr.flen {rows : List (List Nat)} {w : Nat} (h : Scr rows w) : rows.flatten.length = rows.length * w := flat_len h.wid
theorem Scr.n20 {rows : List (List Nat)} {w : Nat} (h : Scr rows w) : rows.length * w ≤ 20 := Nat.mul_le_mul h.h4 h.w5
theorem Scr.run {rows : List (List Nat)} {w : Nat} (h : Scr rows w) (st : Store) : d_is_screen [.dat (scrD rows)] st = .ok (.dat (.bool true)) st := by
  have := h.n20
  rw [isscreen_run rows (by have := h.h4; omega) (by rw [h.flen]; omega) st, h.ok]
/-! what is bent is no screen -/
theorem sum_perm {a b : List Nat} (h : a.Perm b) : a.sum = b.sum := h.sum_nat
theorem bent_no {rows rows2 : List (List Nat)} {n : Nat} (h : rows.flatten.Perm (List.range n)) (hs : rows2.flatten.sum = rows.flatten.sum + 1) (hl : rows2.flatten.length = rows.flatten.length) : scrOk rows2 = false := by
  unfold scrOk
  rw [Bool.and_eq_false_iff]
  right
  refine decide_eq_false fun e => ?_
  have hn : rows.flatten.length = n := by rw [h.length_eq, List.length_range]
  have p : (rows2.flatten.map fun k : Nat => (k : Int)).Perm ((List.range n).map fun k : Nat => (k : Int)) := by
    rw [hl, hn] at e
    rw [← e]
    exact (List.mergeSort_perm ..).symm
  have p2 := p.map Int.toNat
  rw [List.map_map, List.map_map, show (Int.toNat ∘ fun k : Nat => (k : Int)) = id from (by funext k; exact Int.toNat_natCast k), List.map_id, List.map_id] at p2
  have s1 := sum_perm p2
  have s2 := sum_perm h
  omega
/-! grown screens are screens -/
theorem grow_perm (rows : List (List Nat)) : (growStep rows).flatten.Perm (rows.flatten.flatMap fun p => [4 * p, 4 * p + 1, 4 * p + 2, 4 * p + 3]) := by
  have inner : ∀ (x : Nat) (r : List Nat), (r.map fun p => 4 * p).count x + (r.map fun p => 4 * p + 2).count x + (r.map fun p => 4 * p + 3).count x + (r.map fun p => 4 * p + 1).count x = (r.flatMap fun p => [4 * p, 4 * p + 1, 4 * p + 2, 4 * p + 3]).count x := by
    intro x r
    induction r with
    | nil => rfl
    | cons p r ih =>
      simp only [List.map_cons, List.flatMap_cons, List.count_append, List.count_cons, List.count_nil] at ih ⊢
      omega
  refine List.perm_iff_count.mpr fun x => ?_
  unfold growStep
  rw [List.flatten_append, List.count_append]
  induction rows with
  | nil => rfl
  | cons r rows ih =>
    have i := inner x r
    simp only [List.map_cons, List.flatten_cons, List.count_append, List.flatMap_append] at ih i ⊢
    omega
theorem range4 (n : Nat) : ((List.range n).flatMap fun p => [4 * p, 4 * p + 1, 4 * p + 2, 4 * p + 3]) = List.range (4 * n) := by
  induction n with
  | zero => rfl
  | succ n ih =>
    rw [List.range_succ, List.flatMap_append, ih, show 4 * (n + 1) = 4 * n + 1 + 1 + 1 + 1 by omega, List.range_succ, List.range_succ, List.range_succ, List.range_succ]
    simp
theorem growN_perm : ∀ n : Nat, (growN n).flatten.Perm (List.range (4 ^ n))
  | 0 => by decide
  | n + 1 => by
    rw [growN, Nat.pow_succ, Nat.mul_comm, ← range4]
    exact (grow_perm _).trans ((growN_perm n).flatMap_right _)
theorem growN_len : ∀ n : Nat, (growN n).length = 2 ^ n ∧ ∀ r ∈ growN n, r.length = 2 ^ n
  | 0 => by decide
  | n + 1 => by
    obtain ⟨h1, h2⟩ := growN_len n
    unfold growN growStep
    refine ⟨by rw [List.length_append, List.length_map, List.length_map, h1, Nat.pow_succ]; omega, fun r hr => ?_⟩
    rcases List.mem_append.mp hr with k | k
    · obtain ⟨z, hz, rfl⟩ := List.mem_map.mp k
      rw [List.length_append, List.length_map, List.length_map, h2 z hz, Nat.pow_succ]
      omega
    · obtain ⟨z, hz, rfl⟩ := List.mem_map.mp k
      rw [List.length_append, List.length_map, List.length_map, h2 z hz, Nat.pow_succ]
      omega
theorem growN_screen {n : Nat} (hn : n ≤ 5) (st : Store) : d_is_screen [.dat (scrD (growN n))] st = .ok (.dat (.bool true)) st := by
  obtain ⟨h1, h2⟩ := growN_len n
  have p := growN_perm n
  have b2 : 2 ^ n ≤ 2 ^ 5 := Nat.pow_le_pow_right (by decide) hn
  have b4 : 4 ^ n ≤ 4 ^ 5 := Nat.pow_le_pow_right (by decide) hn
  have c2 : (2 : Nat) ^ 5 = 32 := rfl
  have c4 : (4 : Nat) ^ 5 = 1024 := rfl
  have q : 0 < 2 ^ n := Nat.pow_pos (by decide)
  rw [isscreen_run (growN n) (by omega) (by rw [p.length_eq, List.length_range]; omega) st]
  unfold scrOk
  rw [rowsOk_of (by omega) q h2, decide_eq_true (scrOk_perm p)]
  rfl
theorem growN_scr {n : Nat} (hn : n ≤ 2) : Scr (growN n) (2 ^ n) := by
  obtain ⟨h1, h2⟩ := growN_len n
  have p := growN_perm n
  have b2 : 2 ^ n ≤ 2 ^ 2 := Nat.pow_le_pow_right (by decide) hn
  have c2 : (2 : Nat) ^ 2 = 4 := rfl
  have q : 0 < 2 ^ n := Nat.pow_pos (by decide)
  refine ⟨by omega, q, by omega, by omega, h2, ?_⟩
  rw [h1, ← Nat.mul_pow]
  exact p
end K27

set_option Elab.async false
set_option linter.all false
set_option maxRecDepth 100000
set_option maxHeartbeats 4000000
set_option exponentiation.threshold 5000
/-! K27Mx: what is mixed; screens that are drawn. -/
namespace K27
open PySem L2 Pd
abbrev Sx (xs ys : List Int) (rs : List (List Int)) : Store := cI xs :: cI ys :: rs.map cI
theorem trim_Sx (n : Nat) (xs ys : List Int) (rs : List (List Int)) : trim n (Sx xs ys rs) = true := by
  unfold trim
  rw [List.all_eq_true]
  intro c hc
  have hm : c ∈ (xs :: ys :: rs).map cI := List.mem_of_mem_take hc
  obtain ⟨zs, _, rfl⟩ := List.mem_map.mp hm
  unfold cI
  simp [below]
theorem takeX_run (xs ys : List Int) (rs : List (List Int)) {b : Int} (hb : 0 < b) : ∃ v ys', d_u_law_take [.cel 1, .dat (.int b)] (Sx xs ys rs) = .ok (.dat (.int v)) (Sx xs ys' rs) ∧ 0 ≤ v ∧ v < b := by
  have hcl : ∀ {ys' : List Int} {d : D}, b_u_law_take [some (.cel 1), some (.dat (.int b))] (Sx xs ys rs) = .rt (.dat d) (Sx xs ys' rs) → d_u_law_take [.cel 1, .dat (.int b)] (Sx xs ys rs) = .ok (.dat d) (Sx xs ys' rs) := fun h =>
    closeD_okS (fnV_rt rfl h) rfl (trim_Sx _ _ _ _)
  have hl : opN lenD (aCons (vr 0) aNil) [some (.cel 1), some (.dat (.int b))] (Sx xs ys rs) = .ok (.dat (.int ys.length)) (Sx xs ys rs) := by
    have e := apN_cel (h := lenD) (k := 1) (ds := ys.map .int) (st := Sx xs ys rs) (by
      show some (cI ys) = _
      unfold cI
      rw [List.map_map]
      rfl)
    rw [ev_opN, ev_aCons, show vr 0 [some (.cel 1), some (.dat (.int b))] (Sx xs ys rs) = .ok (.cel 1) (Sx xs ys rs) from rfl, Res.bind_ok, ev_aNil, Res.bind_ok, Res.bind_ok, e, lenD_lst, List.length_map]
    rfl
  rcases List.eq_nil_or_concat ys with h | ⟨l, v, h⟩
  · subst h
    refine ⟨0, [], ?_, by omega, hb⟩
    refine hcl ?_
    rw [b_u_law_take, ev_seqM, ev_ifS, ev_truM, ev_op2, hl]
    rfl
  · subst h
    refine ⟨v % b, l, ?_, Int.emod_nonneg _ (by omega), Int.emod_lt_of_pos _ hb⟩
    refine hcl ?_
    have hp : popM (vr 0) [some (.cel 1), some (.dat (.int b))] (Sx xs (l.concat v) rs) = .ok (.dat (.int v)) (Sx xs l rs) := by
      unfold popM
      rw [show vr 0 [some (.cel 1), some (.dat (.int b))] (Sx xs (l.concat v) rs) = .ok (.cel 1) (Sx xs (l.concat v) rs) from rfl, Res.bind_ok]
      have e1 : lstAt (.cel 1) (Sx xs (l.concat v) rs) = some (1, (l.concat v).map dI) := rfl
      have e2 : ((l.concat v).map dI)[((l.concat v).map dI).length - 1]? = some (dI v) := by
        simp
      have e3 : ((l.concat v).map dI).dropLast = l.map dI := by simp
      simp only [e1, e2, e3]
      rfl
    have hz : decide (((l.concat v).length : Int) = 0) = false := decide_eq_false (by simp; omega)
    rw [b_u_law_take, ev_seqM, ev_ifS, ev_truM, ev_op2, hl]
    simp only [Res.bind_ok, ev_cst, ap2_dat, eqD_int, ofO_some, hz, peek_dat, truD_bool, bindS_ok, cnd_false, ev_skipM, seqO_nx]
    rw [ev_retM, ev_op2, ev_opN, ev_aCons, hp]
    simp only [Res.bind_ok, ev_aNil, apN1, intD_int, ofO_some, ev_vr, List.getElem?_cons_zero, List.getElem?_cons_succ, ap2_dat, modD_int, hb, if_true, bindS_ok]
noncomputable abbrev mix_c : TM := truM (op2 neD (vr 2) (lstD aNil))
noncomputable abbrev mix_b : SM := dropM (appM (vr 3) (popAtM (vr 2) (callM d_u_law_take (aCons (vr 0) (aCons (opN lenD (aCons (vr 2) aNil)) aNil)))))
theorem unDat_ints (l : List Int) : unDat (l.map dI) = some (l.map .int) := by
  rw [show l.map dI = (l.map PyData.int).map Vl.dat from (by rw [List.map_map]; rfl), unDat_map]
theorem mix_cond (a : Vl) (d : D) (xs ys ws fs : List Int) : mix_c [some a, some (.dat d), some (.cel 2), some (.cel 3)] (Sx xs ys [ws, fs]) = .ok (!decide (ws = [])) (Sx xs ys [ws, fs]) := by
  have e1 : lstD aNil [some a, some (.dat d), some (.cel 2), some (.cel 3)] (Sx xs ys [ws, fs]) = .ok (.dat (.list [])) (Sx xs ys [ws, fs]) := by
    simp only [seqO_nx, seqO_rt, seqO_exc, ev_seqM, ev_skipM, ev_cst, ev_vr, ev_aNil, ev_noO, ev_tYesM, List.getElem?_cons_zero, List.getElem?_cons_succ, List.set, Res.bind_ok, bindS_ok, ap2_dat, ap1_dat, apN1, apN2, ofO_some, peek_dat, truD_bool, Bool.not_true, Bool.not_false, ixD_tup, ixD_lst, atI_0, atI_1, toDs_nil, toD_dat, ek_op2, k_op2, k_op2b, ek_op1, k_op1, ek_isiM, ek_opN, k_opN, ek_aCons, k_cons, k_cons2, ek_tupM, ek_lstD, k_tup, k_tup2_0, k_tup2_1, k_tup2_2, k_tup2_3, k_tup2_4, k_tup2_5, k_tup2_6, k_tup2_7, k_tup2_8, k_tup2_9, k_tup2_10, k_tup2_11, k_tup2_12, ek_toDs, k_toDs, k_toDs2, ek_callM, ek_ifE, k_ifE_t, k_ifE_f, truO_some, ofB_some, ek_truM, k_tru, ek_andT, k_andT_t, k_andT_f, ek_orT, k_orT_t, k_orT_f, ek_notT, k_notT, ek_andE, k_andE_t, k_andE_f, ek_orE, k_orE_t, k_orE_f, ek_notE, k_notE, ek_setM, k_set, ek_parM, k_par, ek_ifS, k_if_t, k_if_f, ek_retM, k_ret, ek_dropM, k_drop, ek_forM, k_for, ek_itM, k_it_l, k_it_t, ek_zipM, k_zip, k_zip2_l, k_zip2_t, ek_someO, k_some, ek_sliceM, k_sl, k_sl2, k_sl3, apS_dat, ek_parGM, k_pg2, k_pg3, ek_parM3, k_p3, ek_lstC, k_lst0]
  have e2 : peek (.cel 2) (Sx xs ys [ws, fs]) = some (.list (ws.map .int)) := by
    show (unDat (ws.map dI)).map PyData.list = _
    rw [unDat_ints]
    rfl
  have e3 := neD_of (Lay.listM (enc := PyData.int) (l := ws) fun x _ => Lay.int x) (Lay.listM (enc := PyData.int) (l := []) fun x _ => Lay.int x)
  rw [eqv_listM eqv_int, List.map_nil] at e3
  have e4 : ap2 neD (.cel 2) (.dat (.list [])) (Sx xs ys [ws, fs]) = .ok (.dat (.bool (!decide (ws = [])))) (Sx xs ys [ws, fs]) := by
    unfold ap2
    rw [e2, peek_dat]
    simp only [e3, ofO_some]
  rw [mix_c, ev_truM, ev_op2, show vr 2 [some a, some (.dat d), some (.cel 2), some (.cel 3)] (Sx xs ys [ws, fs]) = .ok (.cel 2) (Sx xs ys [ws, fs]) from rfl, Res.bind_ok, e1, Res.bind_ok, e4, Res.bind_ok]
  rfl
theorem erase_map {α β : Type} (f : α → β) : ∀ (l : List α) (i : Nat), (l.map f).eraseIdx i = (l.eraseIdx i).map f
  | [], i => by simp
  | x :: l, 0 => rfl
  | x :: l, i + 1 => by
    rw [List.map_cons, List.eraseIdx_cons_succ, List.eraseIdx_cons_succ, List.map_cons, erase_map f l i]
theorem erase_perm {α : Type} : ∀ (l : List α) (j : Nat) (h : j < l.length), (l[j] :: l.eraseIdx j).Perm l
  | [], j, h => by simp at h
  | x :: l, 0, h => List.Perm.refl _
  | x :: l, j + 1, h => by
    have hj : j < l.length := by simpa using h
    have ih := erase_perm l j hj
    rw [List.getElem_cons_succ, List.eraseIdx_cons_succ]
    exact (List.Perm.swap x l[j] _).trans (ih.cons x)
theorem seqIndex_nat {j n : Nat} (h : j < n) : seqIndex? (j : Int) n = some j := by
  unfold seqIndex?
  simp
  omega
theorem mix_body (d : D) (xs ys ws fs : List Int) (h : ws ≠ []) (hw : ws.length ≤ 100) (hf : fs.length ≤ 100) : ∃ ys' j, ∃ hj : j < ws.length, mix_b [some (.cel 1), some (.dat d), some (.cel 2), some (.cel 3)] (Sx xs ys [ws, fs]) = .nx [some (.cel 1), some (.dat d), some (.cel 2), some (.cel 3)] (Sx xs ys' [ws.eraseIdx j, fs ++ [ws[j]]]) := by
  have hl : 0 < ws.length := List.length_pos_iff.mpr h
  obtain ⟨v, ys', e, h1, h2⟩ := takeX_run xs ys [ws, fs] (b := ws.length) (by omega)
  obtain ⟨j, rfl⟩ : ∃ k : Nat, v = k := ⟨v.toNat, by omega⟩
  have hj : j < ws.length := by omega
  refine ⟨ys', j, hj, ?_⟩
  have el : opN lenD (aCons (vr 2) aNil) [some (.cel 1), some (.dat d), some (.cel 2), some (.cel 3)] (Sx xs ys [ws, fs]) = .ok (.dat (.int ws.length)) (Sx xs ys [ws, fs]) := by
    have e := apN_cel (h := lenD) (k := 2) (ds := ws.map .int) (st := Sx xs ys [ws, fs]) (by
      show some (cI ws) = _
      unfold cI
      rw [List.map_map]
      rfl)
    rw [ev_opN, ev_aCons, show vr 2 [some (.cel 1), some (.dat d), some (.cel 2), some (.cel 3)] (Sx xs ys [ws, fs]) = .ok (.cel 2) (Sx xs ys [ws, fs]) from rfl, Res.bind_ok, ev_aNil, Res.bind_ok, Res.bind_ok, e, lenD_lst, List.length_map]
    rfl
  have ec : callM d_u_law_take (aCons (vr 0) (aCons (opN lenD (aCons (vr 2) aNil)) aNil)) [some (.cel 1), some (.dat d), some (.cel 2), some (.cel 3)] (Sx xs ys [ws, fs]) = .ok (.dat (.int j)) (Sx xs ys' [ws, fs]) := by
    rw [ev_callM, ev_aCons, show vr 0 [some (.cel 1), some (.dat d), some (.cel 2), some (.cel 3)] (Sx xs ys [ws, fs]) = .ok (.cel 1) (Sx xs ys [ws, fs]) from rfl, Res.bind_ok, ev_aCons, el, Res.bind_ok, ev_aNil, Res.bind_ok, Res.bind_ok, Res.bind_ok, e]
  have ep : popAtM (vr 2) (callM d_u_law_take (aCons (vr 0) (aCons (opN lenD (aCons (vr 2) aNil)) aNil))) [some (.cel 1), some (.dat d), some (.cel 2), some (.cel 3)] (Sx xs ys [ws, fs]) = .ok (dI ws[j]) (Sx xs ys' [ws.eraseIdx j, fs]) := by
    unfold popAtM
    rw [show vr 2 [some (.cel 1), some (.dat d), some (.cel 2), some (.cel 3)] (Sx xs ys [ws, fs]) = .ok (.cel 2) (Sx xs ys [ws, fs]) from rfl, Res.bind_ok]
    have l1 : lstAt (.cel 2) (Sx xs ys [ws, fs]) = some (2, ws.map dI) := rfl
    have l2 : lstAt (.cel 2) (Sx xs ys' [ws, fs]) = some (2, ws.map dI) := rfl
    have s1 : seqIndex? (j : Int) (ws.map dI).length = some j := seqIndex_nat (by rw [List.length_map]; exact hj)
    have g1 : (ws.map dI)[j]? = some (dI ws[j]) := by rw [List.getElem?_map, List.getElem?_eq_getElem hj]; rfl
    have b1 : -(2 ^ 63) ≤ (j : Int) ∧ (j : Int) < 2 ^ 63 := by
      have e63 : (2 : Int) ^ 63 = 9223372036854775808 := by decide
      rw [e63]
      omega
    simp only [l1, ec, Res.bind_ok, l2, s1, g1]
    rw [if_pos b1]
    have : (ws.map dI).eraseIdx j = (ws.eraseIdx j).map dI := erase_map dI ws j
    rw [this]
    rfl
  have ea : appM (vr 3) (popAtM (vr 2) (callM d_u_law_take (aCons (vr 0) (aCons (opN lenD (aCons (vr 2) aNil)) aNil)))) [some (.cel 1), some (.dat d), some (.cel 2), some (.cel 3)] (Sx xs ys [ws, fs]) = .ok (.dat .none) (Sx xs ys' [ws.eraseIdx j, fs ++ [ws[j]]]) := by
    unfold appM
    rw [show vr 3 [some (.cel 1), some (.dat d), some (.cel 2), some (.cel 3)] (Sx xs ys [ws, fs]) = .ok (.cel 3) (Sx xs ys [ws, fs]) from rfl, Res.bind_ok]
    have l1 : lstAt (.cel 3) (Sx xs ys [ws, fs]) = some (3, fs.map dI) := rfl
    have l2 : lstAt (.cel 3) (Sx xs ys' [ws.eraseIdx j, fs]) = some (3, fs.map dI) := rfl
    simp only [l1, ep, Res.bind_ok, toD_dat, l2]
    rw [if_pos (Nat.lt_of_lt_of_le (show (fs.map dI).length < 101 by rw [List.length_map]; omega) (sl3 _ (by decide)))]
    rw [show fs.map dI ++ [Vl.dat (PyData.int ws[j])] = (fs ++ [ws[j]]).map dI by rw [List.map_append]; rfl]
    rfl
  rw [mix_b, ev_dropM, ea, bindS_ok]
theorem mix_many (d : D) (xs : List Int) : ∀ (n : Nat) (ys ws fs : List Int), ws.length = n → ws.length + fs.length ≤ 100 → ∃ (zs ys' : List Int), whileN mix_c mix_b (n + 1) [some (.cel 1), some (.dat d), some (.cel 2), some (.cel 3)] (Sx xs ys [ws, fs]) = .nx [some (.cel 1), some (.dat d), some (.cel 2), some (.cel 3)] (Sx xs ys' [[], fs ++ zs]) ∧ zs.Perm ws
  | 0, ys, ws, fs, hn, hb => by
    have : ws = [] := List.length_eq_zero_iff.mp hn
    subst this
    refine ⟨[], ys, ?_, List.Perm.refl _⟩
    rw [whileN_succ, mix_cond, bindS_ok, List.append_nil]
    rfl
  | n + 1, ys, ws, fs, hn, hb => by
    have h0 : ws ≠ [] := fun h => by rw [h] at hn; cases hn
    obtain ⟨ys1, j, hj, e1⟩ := mix_body d xs ys ws fs h0 (by omega) (by omega)
    have hl : (ws.eraseIdx j).length = n := by rw [List.length_eraseIdx_of_lt hj, hn]; omega
    obtain ⟨zs, ys', e2, p⟩ := mix_many d xs n ys1 (ws.eraseIdx j) (fs ++ [ws[j]]) hl (by rw [hl, List.length_append, List.length_singleton]; omega)
    refine ⟨ws[j] :: zs, ys', ?_, ?_⟩
    · rw [whileN_succ, mix_cond, decide_eq_false h0, bindS_ok, Bool.not_false, cnd_true, e1, loopO_nx, e2, List.append_assoc]
      rfl
    · exact (p.cons _).trans (erase_perm ws j hj)
theorem mixed_run (xs ys ws : List Int) (hw : ws.length ≤ 100) : ∃ (zs ys' : List Int), d_u_law_mixed [.cel 1, .dat (.list (ws.map .int))] (S2 xs ys) = .ok (.dat (.list (zs.map .int))) (S2 xs ys') ∧ zs.Perm ws := by
  obtain ⟨zs, ys', e, p⟩ := mix_many (.list (ws.map .int)) xs ws.length ys ws [] rfl (by simp; omega)
  refine ⟨zs, ys', ?_, p⟩
  have e0 : (0 : Nat) ≤ sizeLine := Nat.zero_le _
  have h1 : parM 2 3 (aCons (opNC listL (aCons (vr 1) aNil)) (aCons (lstC aNil) aNil)) [some (.cel 1), some (.dat (.list (ws.map .int))), none, none] (S2 xs ys) = .nx [some (.cel 1), some (.dat (.list (ws.map .int))), some (.cel 2), some (.cel 3)] (Sx xs ys [ws, []]) := by
    have l1 : opNC listL (aCons (vr 1) aNil) [some (.cel 1), some (.dat (.list (ws.map .int))), none, none] (S2 xs ys) = .ok (.cel 2) (Sx xs ys [ws]) := by
      show Res.ok (Vl.cel 2) (S2 xs ys ++ [.lst ((ws.map PyData.int).map .dat)]) = _
      rw [List.map_map]
      rfl
    have l2 : lstC aNil [some (.cel 1), some (.dat (.list (ws.map .int))), none, none] (Sx xs ys [ws]) = .ok (.cel 3) (Sx xs ys [ws, []]) := by
      simp only [seqO_nx, seqO_rt, seqO_exc, ev_seqM, ev_skipM, ev_cst, ev_vr, ev_aNil, ev_noO, ev_tYesM, List.getElem?_cons_zero, List.getElem?_cons_succ, List.set, Res.bind_ok, bindS_ok, ap2_dat, ap1_dat, apN1, apN2, ofO_some, peek_dat, truD_bool, Bool.not_true, Bool.not_false, ixD_tup, ixD_lst, atI_0, atI_1, toDs_nil, toD_dat, ek_op2, k_op2, k_op2b, ek_op1, k_op1, ek_isiM, ek_opN, k_opN, ek_aCons, k_cons, k_cons2, ek_tupM, ek_lstD, k_tup, k_tup2_0, k_tup2_1, k_tup2_2, k_tup2_3, k_tup2_4, k_tup2_5, k_tup2_6, k_tup2_7, k_tup2_8, k_tup2_9, k_tup2_10, k_tup2_11, k_tup2_12, ek_toDs, k_toDs, k_toDs2, ek_callM, ek_ifE, k_ifE_t, k_ifE_f, truO_some, ofB_some, ek_truM, k_tru, ek_andT, k_andT_t, k_andT_f, ek_orT, k_orT_t, k_orT_f, ek_notT, k_notT, ek_andE, k_andE_t, k_andE_f, ek_orE, k_orE_t, k_orE_f, ek_notE, k_notE, ek_setM, k_set, ek_parM, k_par, ek_ifS, k_if_t, k_if_f, ek_retM, k_ret, ek_dropM, k_drop, ek_forM, k_for, ek_itM, k_it_l, k_it_t, ek_zipM, k_zip, k_zip2_l, k_zip2_t, ek_someO, k_some, ek_sliceM, k_sl, k_sl2, k_sl3, apS_dat, ek_parGM, k_pg2, k_pg3, ek_parM3, k_p3, ek_lstC, k_lst0]
      rfl
    rw [ev_parM, ev_aCons, l1, Res.bind_ok, ev_aCons, l2, Res.bind_ok, ev_aNil, Res.bind_ok, Res.bind_ok, bindS_ok, parO_two]
    rfl
  have hb : b_u_law_mixed [some (.cel 1), some (.dat (.list (ws.map .int))), none, none] (S2 xs ys) = .rt (.cel 3) (Sx xs ys' [[], zs]) := by
    rw [b_u_law_mixed, ev_seqM, h1, seqO_nx, ev_seqM, whileM_eq e (by simp), seqO_nx]
    rfl
  show closeD (fnV 2 2 b_u_law_mixed) _ _ = _
  have hfn : fnV 2 2 b_u_law_mixed [.cel 1, .dat (.list (ws.map .int))] (S2 xs ys) = .ok (.cel 3) (Sx xs ys' [[], zs]) := fnV_rt rfl hb
  unfold closeD
  rw [hfn]
  have t : toD (.cel 3) (Sx xs ys' [[], zs]) = .ok (.list (zs.map .int)) ((Sx xs ys' [[], zs]).set 3 (.frz (.list (zs.map .int)))) := by
    unfold toD
    show (match unDat (zs.map dI) with
      | some ds => Res.ok (PyData.list ds) ((Sx xs ys' [[], zs]).set 3 (.frz (.list ds)))
      | none => .no) = _
    rw [unDat_ints]
  simp only
  rw [t, Res.bind_ok]
  have t2 : trim (S2 xs ys).length ((Sx xs ys' [[], zs]).set 3 (.frz (.list (zs.map .int)))) = true := trim_S2 xs ys'
  rw [if_pos (.inr t2)]
  rfl
/-- cut into rows -/
def cutR (l : List Nat) (w h : Nat) : List (List Nat) := (List.range h).map fun i => (l.take (i * w + w)).drop (i * w)
theorem cut_flat (l : List Nat) (w : Nat) : ∀ h, h * w ≤ l.length → (cutR l w h).flatten = l.take (h * w)
  | 0, _ => by simp [cutR]
  | h + 1, k => by
    rw [Nat.succ_mul] at k
    have ih := cut_flat l w h (by omega)
    unfold cutR at ih ⊢
    rw [List.range_succ, List.map_append, List.flatten_append, ih, Nat.succ_mul]
    simp only [List.map_cons, List.map_nil, List.flatten_cons, List.flatten_nil, List.append_nil]
    have e : l.take (h * w) = (l.take (h * w + w)).take (h * w) := by rw [List.take_take, Nat.min_eq_left (by omega)]
    rw [e, List.take_append_drop]
theorem cut_scr {l : List Nat} {h w : Nat} (h0 : 0 < h) (w0 : 0 < w) (h4 : h ≤ 4) (w5 : w ≤ 5) (p : l.Perm (List.range (h * w))) : Scr (cutR l w h) w := by
  have hl : l.length = h * w := by rw [p.length_eq, List.length_range]
  have hh : (cutR l w h).length = h := by unfold cutR; rw [List.length_map, List.length_range]
  refine ⟨by omega, w0, by omega, w5, fun r hr => ?_, ?_⟩
  · unfold cutR at hr
    obtain ⟨i, hi, rfl⟩ := List.mem_map.mp hr
    have hi := List.mem_range.mp hi
    have : i * w + w ≤ h * w := by
      rw [← Nat.succ_mul]
      exact Nat.mul_le_mul_right _ hi
    rw [List.length_drop, List.length_take]
    omega
  · rw [cut_flat l w h (by omega), ← hl, List.take_length, hh]
    exact p
theorem drawn_run (xs ys : List Int) : ∃ rows w ys', d_u_law_drawn_screen [.cel 1] (S2 xs ys) = .ok (.dat (scrD rows)) (S2 xs ys') ∧ Scr rows w := by
  obtain ⟨v1, ys1, e1, a1, b1⟩ := take_run xs ys (b := 4) (by decide)
  obtain ⟨v2, ys2, e2, a2, b2⟩ := take_run xs ys1 (b := 5) (by decide)
  obtain ⟨h, hh⟩ : ∃ h : Nat, 1 + v1 = h := ⟨(1 + v1).toNat, by omega⟩
  obtain ⟨w, hw⟩ : ∃ w : Nat, 1 + v2 = w := ⟨(1 + v2).toNat, by omega⟩
  have h0 : 0 < h := by omega
  have h4 : h ≤ 4 := by omega
  have w0 : 0 < w := by omega
  have w5 : w ≤ 5 := by omega
  have hhw : h * w ≤ 20 := Nat.mul_le_mul h4 w5
  obtain ⟨zs, ys3, e3, p⟩ := mixed_run xs ys2 ((List.range (h * w)).map fun k : Nat => (k : Int)) (by rw [List.length_map, List.length_range]; omega)
  obtain ⟨l, hlz, hlp⟩ : ∃ l : List Nat, zs = l.map (fun k : Nat => (k : Int)) ∧ l.Perm (List.range (h * w)) := by
    refine ⟨zs.map Int.toNat, ?_, ?_⟩
    · rw [List.map_map]
      conv => lhs; rw [← List.map_id zs]
      refine List.map_congr_left fun z hz => ?_
      obtain ⟨k, _, rfl⟩ := List.mem_map.mp (p.subset hz)
      simp
    · have p2 := p.map Int.toNat
      rw [List.map_map, show (Int.toNat ∘ fun k : Nat => (k : Int)) = id from (by funext k; exact Int.toNat_natCast k), List.map_id] at p2
      exact p2
  subst hlz
  have hll : l.length = h * w := by rw [hlp.length_eq, List.length_range]
  refine ⟨cutR l w h, w, ys3, ?_, cut_scr h0 w0 h4 w5 hlp⟩
  refine call_S2 rfl ?_
  show b_u_law_drawn_screen [some (.cel 1), none, none, none, none] (S2 xs ys) = _
  have h1 : parGM [2, 3] (aCons (op2 addD (cst (.int 1)) (callM d_u_law_take (aCons (vr 0) (aCons (cst (.int 4)) aNil)))) (aCons (op2 addD (cst (.int 1)) (callM d_u_law_take (aCons (vr 0) (aCons (cst (.int 5)) aNil)))) aNil)) [some (.cel 1), none, none, none, none] (S2 xs ys) = .nx [some (.cel 1), none, some (.dat (nI h)), some (.dat (nI w)), none] (S2 xs ys2) := by
    simp only [seqO_nx, seqO_rt, seqO_exc, ev_seqM, ev_skipM, ev_cst, ev_vr, ev_aNil, ev_noO, ev_tYesM, List.getElem?_cons_zero, List.getElem?_cons_succ, List.set, Res.bind_ok, bindS_ok, ap2_dat, ap1_dat, apN1, apN2, ofO_some, peek_dat, truD_bool, Bool.not_true, Bool.not_false, ixD_tup, ixD_lst, atI_0, atI_1, toDs_nil, toD_dat, ek_op2, k_op2, k_op2b, ek_op1, k_op1, ek_isiM, ek_opN, k_opN, ek_aCons, k_cons, k_cons2, ek_tupM, ek_lstD, k_tup, k_tup2_0, k_tup2_1, k_tup2_2, k_tup2_3, k_tup2_4, k_tup2_5, k_tup2_6, k_tup2_7, k_tup2_8, k_tup2_9, k_tup2_10, k_tup2_11, k_tup2_12, ek_toDs, k_toDs, k_toDs2, ek_callM, ek_ifE, k_ifE_t, k_ifE_f, truO_some, ofB_some, ek_truM, k_tru, ek_andT, k_andT_t, k_andT_f, ek_orT, k_orT_t, k_orT_f, ek_notT, k_notT, ek_andE, k_andE_t, k_andE_f, ek_orE, k_orE_t, k_orE_f, ek_notE, k_notE, ek_setM, k_set, ek_parM, k_par, ek_ifS, k_if_t, k_if_f, ek_retM, k_ret, ek_dropM, k_drop, ek_forM, k_for, ek_itM, k_it_l, k_it_t, ek_zipM, k_zip, k_zip2_l, k_zip2_t, ek_someO, k_some, ek_sliceM, k_sl, k_sl2, k_sl3, apS_dat, ek_parGM, k_pg2, k_pg3, ek_parM3, k_p3, ek_lstC, k_lst0, e1, e2, addD_int, hh, hw]
  have m1 : mulOk (h : Int) (w : Int) = true := mulOk_lt (k := 10) (l := 10) (by omega) (by omega) (by decide)
  have h2 : setM 1 (callM d_u_law_mixed (aCons (vr 0) (aCons (lrngM (op2 mulD (vr 2) (vr 3))) aNil))) [some (.cel 1), none, some (.dat (nI h)), some (.dat (nI w)), none] (S2 xs ys2) = .nx [some (.cel 1), some (.dat (.list (l.map nI))), some (.dat (nI h)), some (.dat (nI w)), none] (S2 xs ys3) := by
    have l1 : lrngM (op2 mulD (vr 2) (vr 3)) [some (.cel 1), none, some (.dat (nI h)), some (.dat (nI w)), none] (S2 xs ys2) = .ok (.dat (.list (((List.range (h * w)).map fun k : Nat => (k : Int)).map .int))) (S2 xs ys2) := by
      unfold lrngM
      simp only [seqO_nx, seqO_rt, seqO_exc, ev_seqM, ev_skipM, ev_cst, ev_vr, ev_aNil, ev_noO, ev_tYesM, List.getElem?_cons_zero, List.getElem?_cons_succ, List.set, Res.bind_ok, bindS_ok, ap2_dat, ap1_dat, apN1, apN2, ofO_some, peek_dat, truD_bool, Bool.not_true, Bool.not_false, ixD_tup, ixD_lst, atI_0, atI_1, toDs_nil, toD_dat, ek_op2, k_op2, k_op2b, ek_op1, k_op1, ek_isiM, ek_opN, k_opN, ek_aCons, k_cons, k_cons2, ek_tupM, ek_lstD, k_tup, k_tup2_0, k_tup2_1, k_tup2_2, k_tup2_3, k_tup2_4, k_tup2_5, k_tup2_6, k_tup2_7, k_tup2_8, k_tup2_9, k_tup2_10, k_tup2_11, k_tup2_12, ek_toDs, k_toDs, k_toDs2, ek_callM, ek_ifE, k_ifE_t, k_ifE_f, truO_some, ofB_some, ek_truM, k_tru, ek_andT, k_andT_t, k_andT_f, ek_orT, k_orT_t, k_orT_f, ek_notT, k_notT, ek_andE, k_andE_t, k_andE_f, ek_orE, k_orE_t, k_orE_f, ek_notE, k_notE, ek_setM, k_set, ek_parM, k_par, ek_ifS, k_if_t, k_if_f, ek_retM, k_ret, ek_dropM, k_drop, ek_forM, k_for, ek_itM, k_it_l, k_it_t, ek_zipM, k_zip, k_zip2_l, k_zip2_t, ek_someO, k_some, ek_sliceM, k_sl, k_sl2, k_sl3, apS_dat, ek_parGM, k_pg2, k_pg3, ek_parM3, k_p3, ek_lstC, k_lst0, nI, mulD_int, m1, if_true]
      have c : ((h : Int) * (w : Int)) = ((h * w : Nat) : Int) := by rw [Int.natCast_mul]
      rw [c, Int.toNat_natCast, if_pos ⟨by omega, sl _ (by omega), by omega⟩, List.map_map]
      rfl
    rw [ev_setM, ev_callM, ev_aCons, show vr 0 [some (.cel 1), none, some (.dat (nI h)), some (.dat (nI w)), none] (S2 xs ys2) = .ok (.cel 1) (S2 xs ys2) from rfl, Res.bind_ok, ev_aCons, l1]
    simp only [seqO_nx, seqO_rt, seqO_exc, ev_seqM, ev_skipM, ev_cst, ev_vr, ev_aNil, ev_noO, ev_tYesM, List.getElem?_cons_zero, List.getElem?_cons_succ, List.set, Res.bind_ok, bindS_ok, ap2_dat, ap1_dat, apN1, apN2, ofO_some, peek_dat, truD_bool, Bool.not_true, Bool.not_false, ixD_tup, ixD_lst, atI_0, atI_1, toDs_nil, toD_dat, ek_op2, k_op2, k_op2b, ek_op1, k_op1, ek_isiM, ek_opN, k_opN, ek_aCons, k_cons, k_cons2, ek_tupM, ek_lstD, k_tup, k_tup2_0, k_tup2_1, k_tup2_2, k_tup2_3, k_tup2_4, k_tup2_5, k_tup2_6, k_tup2_7, k_tup2_8, k_tup2_9, k_tup2_10, k_tup2_11, k_tup2_12, ek_toDs, k_toDs, k_toDs2, ek_callM, ek_ifE, k_ifE_t, k_ifE_f, truO_some, ofB_some, ek_truM, k_tru, ek_andT, k_andT_t, k_andT_f, ek_orT, k_orT_t, k_orT_f, ek_notT, k_notT, ek_andE, k_andE_t, k_andE_f, ek_orE, k_orE_t, k_orE_f, ek_notE, k_notE, ek_setM, k_set, ek_parM, k_par, ek_ifS, k_if_t, k_if_f, ek_retM, k_ret, ek_dropM, k_drop, ek_forM, k_for, ek_itM, k_it_l, k_it_t, ek_zipM, k_zip, k_zip2_l, k_zip2_t, ek_someO, k_some, ek_sliceM, k_sl, k_sl2, k_sl3, apS_dat, ek_parGM, k_pg2, k_pg3, ek_parM3, k_p3, ek_lstC, k_lst0, e3]
    rw [List.map_map]
    rfl
  have m2 : ∀ i ∈ List.range h, mulOk (i : Int) (w : Int) = true := fun i hi => mulOk_lt (k := 10) (l := 10) (by have := List.mem_range.mp hi; omega) (by omega) (by decide)
  have e4 := lcM_mapN (it := rng1M (aCons (vr 2) aNil)) (i := 4) (vs := [4]) (e := opN tupleD (aCons (sliceM (vr 1) (someO (op2 mulD (vr 4) (vr 3))) (someO (op2 addD (op2 mulD (vr 4) (vr 3)) (vr 3)))) aNil)) (s := [some (.cel 1), some (.dat (.list (l.map nI))), some (.dat (nI h)), some (.dat (nI w)), none]) (st := S2 xs ys3) (enc := fun k : Nat => PyData.int k) (fun i : Nat => rowD ((l.take (i * w + w)).drop (i * w))) (l := List.range h) (run_rngN rfl (by omega)) (sl _ (by rw [List.length_range]; omega)) fun i hi => by
    have c : ((i : Int) * (w : Int)) = ((i * w : Nat) : Int) := by rw [Int.natCast_mul]
    have c2 : (((i * w : Nat) : Int) + (w : Int)) = ((i * w + w : Nat) : Int) := by rw [Int.natCast_add]
    simp only [seqO_nx, seqO_rt, seqO_exc, ev_seqM, ev_skipM, ev_cst, ev_vr, ev_aNil, ev_noO, ev_tYesM, List.getElem?_cons_zero, List.getElem?_cons_succ, List.set, Res.bind_ok, bindS_ok, ap2_dat, ap1_dat, apN1, apN2, ofO_some, peek_dat, truD_bool, Bool.not_true, Bool.not_false, ixD_tup, ixD_lst, atI_0, atI_1, toDs_nil, toD_dat, ek_op2, k_op2, k_op2b, ek_op1, k_op1, ek_isiM, ek_opN, k_opN, ek_aCons, k_cons, k_cons2, ek_tupM, ek_lstD, k_tup, k_tup2_0, k_tup2_1, k_tup2_2, k_tup2_3, k_tup2_4, k_tup2_5, k_tup2_6, k_tup2_7, k_tup2_8, k_tup2_9, k_tup2_10, k_tup2_11, k_tup2_12, ek_toDs, k_toDs, k_toDs2, ek_callM, ek_ifE, k_ifE_t, k_ifE_f, truO_some, ofB_some, ek_truM, k_tru, ek_andT, k_andT_t, k_andT_f, ek_orT, k_orT_t, k_orT_f, ek_notT, k_notT, ek_andE, k_andE_t, k_andE_f, ek_orE, k_orE_t, k_orE_f, ek_notE, k_notE, ek_setM, k_set, ek_parM, k_par, ek_ifS, k_if_t, k_if_f, ek_retM, k_ret, ek_dropM, k_drop, ek_forM, k_for, ek_itM, k_it_l, k_it_t, ek_zipM, k_zip, k_zip2_l, k_zip2_t, ek_someO, k_some, ek_sliceM, k_sl, k_sl2, k_sl3, apS_dat, ek_parGM, k_pg2, k_pg3, ek_parM3, k_p3, ek_lstC, k_lst0, wipeS, ev_sliceM, ev_someO, nI, mulD_int, m2 i hi, if_true, addD_int, c, c2, sliceD_lst, cutL_mid, tupleD_list]
    rw [rowD, ← List.map_take, ← List.map_drop]
  rw [b_u_law_drawn_screen, ev_seqM, h1, seqO_nx, ev_seqM, h2, seqO_nx, ev_retM, tupLc e4, bindS_ok]
  unfold scrD cutR
  rw [List.map_map]
  rfl
end K27

set_option Elab.async false
set_option linter.all false
set_option maxRecDepth 100000
set_option maxHeartbeats 4000000
set_option exponentiation.threshold 5000
/-! K27Ma: plain laws of dots, means and levels. -/
namespace K27
open PySem L2 Pd
/-! sums -/
theorem foldl_sum (l : List Rat) : ∀ a : Rat, l.foldl (· + ·) a = a + l.sum := by
  induction l with
  | nil => intro a; simp [Rat.add_zero]
  | cons x l ih =>
    intro a
    rw [List.foldl_cons, ih, List.sum_cons, Rat.add_assoc]
theorem sumR_eq (l : List Rat) : sumR l = l.sum := by
  unfold sumR
  rw [foldl_sum, Rat.zero_add]
theorem rsum_perm {a b : List Rat} (h : a.Perm b) : a.sum = b.sum := by
  induction h with
  | nil => rfl
  | cons x _ ih => rw [List.sum_cons, List.sum_cons, ih]
  | swap x y l => rw [List.sum_cons, List.sum_cons, List.sum_cons, List.sum_cons]; grind
  | trans _ _ h1 h2 => rw [h1, h2]
theorem rsum_append (a b : List Rat) : (a ++ b).sum = a.sum + b.sum := by
  induction a with
  | nil => simp [Rat.zero_add]
  | cons x a ih => rw [List.cons_append, List.sum_cons, List.sum_cons, ih, Rat.add_assoc]
/-! ratios of whole numbers -/
theorem rt_over {k : Nat} (h : 0 < k) : rt (1 / (k : Rat)) = .tuple [.int 1, .int k] := by
  have e : (1 / (k : Rat)) = Rat.divInt 1 (k : Int) := by
    rw [Rat.divInt_eq_div]
    rfl
  rw [e, rt_made (by omega)]
  have g : Nat.gcd (1 : Int).natAbs (k : Int).natAbs = 1 := by
    show Nat.gcd 1 _ = 1
    exact Nat.gcd_one_left _
  rw [g, Int.sign_eq_one_of_pos (by omega)]
  simp
theorem rt_nat (k : Nat) : rt (k : Rat) = .tuple [.int k, .int 1] := rfl
theorem divInt_one (k : Nat) : Rat.divInt (k : Int) 1 = (k : Rat) := by
  rw [Rat.divInt_eq_div]
  show ((k : Rat)) / (1 : Rat) = _
  grind
theorem nat_sz {k m : Nat} (h : k < 2 ^ m) (h1 : 0 < m) : Sz m (k : Rat) := by
  refine ⟨?_, ?_⟩
  · show ((k : Int)).natAbs < _
    exact h
  · show 1 < _
    exact Nat.one_lt_two_pow_iff.mpr (by omega)
theorem over_sz {k m : Nat} (h0 : 0 < k) (h : k < 2 ^ m) (h1 : 0 < m) : Sz m (1 / (k : Rat)) := by
  have e : (1 / (k : Rat)) = Rat.divInt 1 (k : Int) := by
    rw [Rat.divInt_eq_div]
    rfl
  rw [e]
  exact divInt_sz h1 (by show 1 < _; exact Nat.one_lt_two_pow_iff.mpr (by omega)) h
/-! dots -/
def dotv (many : Nat) (q : Rat) (p : Nat) : Nat := if (p : Rat) + 1 / 2 < q * many then 1 else 0
theorem dotv_le (many : Nat) (q : Rat) (p : Nat) : dotv many q p ≤ 1 := by unfold dotv; split <;> omega
theorem num_eq (q : Rat) : q * (q.den : Rat) = (q.num : Rat) := by
  have h : ((q.den : Rat)) ≠ 0 := by
    intro z
    have := Rat.natCast_pos.mpr q.den_pos
    rw [z] at this
    exact absurd this (by decide)
  have e : q = (q.num : Rat) / (q.den : Rat) := by
    conv => lhs; rw [← Rat.num_divInt_den q]
    rw [Rat.divInt_eq_div]
    rfl
  exact (congrArg (· * (q.den : Rat)) e).trans (Rat.div_mul_cancel h)
theorem dot_iff (many : Nat) (q : Rat) (p : Nat) : (p : Rat) + 1 / 2 < q * many ↔ (q.den : Int) * (2 * (p : Int) + 1) < 2 * q.num * many := by
  have hd : (0 : Rat) < (q.den : Rat) := Rat.natCast_pos.mpr q.den_pos
  have hq := num_eq q
  rw [← Rat.intCast_lt_intCast, ← Rat.mul_lt_mul_right (show (0 : Rat) < 2 * (q.den : Rat) by grind)]
  have e1 : (((q.den : Int) * (2 * (p : Int) + 1) : Int) : Rat) = ((p : Rat) + 1 / 2) * (2 * (q.den : Rat)) := by
    rw [Rat.intCast_mul, Rat.intCast_add, Rat.intCast_mul, Rat.intCast_natCast, Rat.intCast_natCast]
    show (q.den : Rat) * (2 * (p : Rat) + 1) = _
    grind
  have e2 : ((2 * q.num * (many : Int) : Int) : Rat) = q * many * (2 * (q.den : Rat)) := by
    rw [Rat.intCast_mul, Rat.intCast_mul, Rat.intCast_natCast, ← hq]
    show 2 * (q * (q.den : Rat)) * (many : Rat) = _
    grind
  rw [e1, e2]
theorem cnt_fact (many : Nat) (q : Rat) : ∀ n : Nat, ∃ c : Nat, ((List.range n).map fun p => ((dotv many q p : Nat) : Rat)).sum = c ∧ c ≤ n ∧ (c = 0 ∨ (c : Rat) - 1 / 2 < q * many) ∧ (c = n ∨ q * many ≤ c + 1 / 2)
  | 0 => ⟨0, rfl, Nat.le_refl _, .inl rfl, .inl rfl⟩
  | n + 1 => by
    obtain ⟨c, h1, h2, h3, h4⟩ := cnt_fact many q n
    rw [List.range_succ, List.map_append, rsum_append, h1, List.map_singleton, List.sum_singleton]
    by_cases k : (n : Rat) + 1 / 2 < q * many
    · have e : dotv many q n = 1 := by unfold dotv; rw [if_pos k]
      have cn : c = n := by
        rcases h4 with h4 | h4
        · exact h4
        · rcases Nat.lt_or_ge c n with h | h
          · have : ((c + 1 : Nat) : Rat) ≤ (n : Rat) := Rat.natCast_le_natCast.mpr h
            rw [Rat.natCast_add] at this
            have e1 : ((1 : Nat) : Rat) = 1 := rfl
            grind
          · omega
      subst cn
      refine ⟨c + 1, ?_, Nat.le_refl _, .inr ?_, .inl rfl⟩
      · rw [e, Rat.natCast_add]
      · rw [Rat.natCast_add]
        have e1 : ((1 : Nat) : Rat) = 1 := rfl
        grind
    · have e : dotv many q n = 0 := by unfold dotv; rw [if_neg k]
      refine ⟨c, ?_, by omega, h3, .inr ?_⟩
      · rw [e]
        show (c : Rat) + 0 = c
        exact Rat.add_zero _
      · rcases h4 with h4 | h4
        · subst h4
          exact Rat.not_lt.mp k
        · exact h4
theorem rabs_le {a b : Rat} (h1 : a ≤ b) (h2 : -b ≤ a) : rabs a ≤ b := by
  unfold rabs
  split
  · grind
  · exact h1
theorem mean_off {N : Nat} {q : Rat} {l : List Nat} (h0 : 0 < N) (hq0 : 0 ≤ q) (hq1 : q ≤ 1) (p : l.Perm (List.range N)) : rabs (sumR (l.map fun p => ((dotv N q p : Nat) : Rat)) * (1 / (N : Rat)) - q) ≤ 1 / (2 * (N : Rat)) := by
  obtain ⟨c, h1, h2, h3, h4⟩ := cnt_fact N q N
  have hN : (0 : Rat) < N := Rat.natCast_pos.mpr h0
  rw [sumR_eq, rsum_perm (p.map _), h1]
  have b1 : (c : Rat) ≤ q * N + 1 / 2 := by
    rcases h3 with h3 | h3
    · subst h3
      have : 0 ≤ q * N := Rat.mul_nonneg hq0 (Rat.le_of_lt hN)
      show (0 : Rat) ≤ _
      grind
    · grind
  have b2 : q * N ≤ c + 1 / 2 := by
    rcases h4 with h4 | h4
    · subst h4
      have : q * c ≤ 1 * c := Rat.mul_le_mul_of_nonneg_right hq1 (Rat.le_of_lt hN)
      grind
    · exact h4
  have hu : (0 : Rat) < 1 / (N : Rat) := by rw [Rat.lt_div_iff hN]; grind
  have e1 : (N : Rat) * (1 / (N : Rat)) = 1 := by grind
  have e2 : 1 / (2 * (N : Rat)) = (1 / 2) * (1 / (N : Rat)) := by grind
  generalize 1 / (N : Rat) = u at *
  rw [e2]
  have m1 := Rat.mul_le_mul_of_nonneg_right b1 (Rat.le_of_lt hu)
  have m2 := Rat.mul_le_mul_of_nonneg_right b2 (Rat.le_of_lt hu)
  have e3 : q * N * u = q := by rw [Rat.mul_assoc, e1]; grind
  exact rabs_le (by grind) (by grind)
theorem dotv_mono {N : Nat} {a b : Rat} (h : a ≤ b) (p : Nat) : dotv N a p ≤ dotv N b p := by
  unfold dotv
  by_cases k : (p : Rat) + 1 / 2 < a * N
  · have : a * N ≤ b * N := Rat.mul_le_mul_of_nonneg_right h Rat.natCast_nonneg
    rw [if_pos k, if_pos (by grind)]
    exact Nat.le_refl _
  · rw [if_neg k]
    exact Nat.zero_le _
/-! levels -/
theorem rabs_mul {a u : Rat} (h : 0 < u) : rabs (a * u) = rabs a * u := by
  unfold rabs
  by_cases k : a < 0
  · rw [if_pos k, if_pos ((Rat.mul_neg_iff_of_pos_right h).mpr k)]
    grind
  · have k2 : ¬ a * u < 0 := fun z => k ((Rat.mul_neg_iff_of_pos_right h).mp z)
    rw [if_neg k, if_neg k2]
theorem ixo_fact {m : Nat} {q : Rat} (h2 : 2 ≤ m) : ((ixo m q : Int) : Rat) ≤ q * ((m : Rat) - 1) + 1 / 2 ∧ q * ((m : Rat) - 1) + 1 / 2 < ((ixo m q : Int) : Rat) + 1 := by
  have hp : 0 < 2 * (q.den : Int) := by have := q.den_pos; omega
  have hd : (0 : Rat) < (q.den : Rat) := Rat.natCast_pos.mpr q.den_pos
  have hq := num_eq q
  have d1 := Int.mul_ediv_self_le (x := 2 * q.num * ((m : Int) - 1) + q.den) (k := 2 * (q.den : Int)) (by omega)
  have d2 := Int.lt_mul_ediv_self_add (x := 2 * q.num * ((m : Int) - 1) + q.den) hp
  have e0 : (2 * q.num * ((m : Int) - 1) + q.den) / (2 * (q.den : Int)) = ixo m q := rfl
  rw [e0] at d1 d2
  generalize ixo m q = x at *
  have c1 := Rat.intCast_le_intCast.mpr d1
  have c2 := Rat.intCast_lt_intCast.mpr d2
  have t2 : ((2 : Int) : Rat) = 2 := rfl
  have t1 : ((1 : Int) : Rat) = 1 := rfl
  rw [Rat.intCast_mul, Rat.intCast_mul, Rat.intCast_add, Rat.intCast_mul, Rat.intCast_mul, Rat.intCast_sub, Rat.intCast_natCast, Rat.intCast_natCast, ← hq, t2, t1] at c1
  rw [Rat.intCast_add, Rat.intCast_mul, Rat.intCast_mul, Rat.intCast_add, Rat.intCast_mul, Rat.intCast_mul, Rat.intCast_sub, Rat.intCast_natCast, Rat.intCast_natCast, ← hq, t2, t1] at c2
  have h2d : (0 : Rat) < 2 * (q.den : Rat) := by grind
  constructor
  · refine Rat.le_of_mul_le_mul_left ?_ h2d
    grind
  · refine Rat.lt_of_mul_lt_mul_left ?_ (Rat.le_of_lt h2d)
    grind
/-- how far level k lies -/
def farR (m : Nat) (q : Rat) (k : Nat) : Rat := rabs ((k : Rat) / ((m : Rat) - 1) - q)
theorem far_eq {m : Nat} {q : Rat} (h2 : 2 ≤ m) (k : Nat) : ∃ u : Rat, 0 < u ∧ u = 1 / ((m : Rat) - 1) ∧ ∀ k : Nat, farR m q k = rabs ((k : Rat) - q * ((m : Rat) - 1)) * u := by
  have hm : (0 : Rat) < (m : Rat) - 1 := by
    have : ((2 : Nat) : Rat) ≤ (m : Rat) := Rat.natCast_le_natCast.mpr h2
    have e : ((2 : Nat) : Rat) = 2 := rfl
    grind
  have hu : (0 : Rat) < 1 / ((m : Rat) - 1) := by rw [Rat.lt_div_iff hm]; grind
  refine ⟨_, hu, rfl, fun k => ?_⟩
  rw [← rabs_mul hu, farR]
  congr 1
  grind
theorem far_down {m : Nat} {q : Rat} (h2 : 2 ≤ m) {k : Nat} (h : ((k + 1 : Nat) : Int) ≤ ixo m q) : farR m q (k + 1) ≤ farR m q k := by
  obtain ⟨u, hu, _, e⟩ := far_eq (q := q) h2 k
  rw [e, e]
  refine Rat.mul_le_mul_of_nonneg_right ?_ (Rat.le_of_lt hu)
  obtain ⟨f1, _⟩ := ixo_fact (q := q) h2
  have c := Rat.intCast_le_intCast.mpr h
  rw [Rat.intCast_natCast, Rat.natCast_add] at c
  rw [Rat.natCast_add]
  have e1 : ((1 : Nat) : Rat) = 1 := rfl
  rw [e1] at c ⊢
  unfold rabs
  split <;> split <;> grind
theorem far_up {m : Nat} {q : Rat} (h2 : 2 ≤ m) {i k : Nat} (hi : ixo m q = i) (h : i < k) : farR m q i < farR m q k := by
  obtain ⟨u, hu, _, e⟩ := far_eq (q := q) h2 k
  rw [e, e]
  refine Rat.mul_lt_mul_of_pos_right ?_ hu
  obtain ⟨f1, f2⟩ := ixo_fact (q := q) h2
  rw [hi, Rat.intCast_natCast] at f1 f2
  have c : ((i + 1 : Nat) : Rat) ≤ (k : Rat) := Rat.natCast_le_natCast.mpr h
  rw [Rat.natCast_add] at c
  have e1 : ((1 : Nat) : Rat) = 1 := rfl
  rw [e1] at c
  unfold rabs
  split <;> split <;> grind
theorem put_eq {m : Nat} {q : Rat} {i : Nat} (h2 : 2 ≤ m) (hi : ixo m q = i) : putR m q = (i : Rat) / ((m : Rat) - 1) := by
  unfold putR
  rw [hi, Rat.divInt_eq_div, Rat.intCast_sub, Rat.intCast_natCast, Rat.intCast_natCast]
  rfl
theorem put_off {m : Nat} {q : Rat} (h2 : 2 ≤ m) (hm : m ≤ 256) (h0 : 0 ≤ q) (h1 : q ≤ 1) : rabs (q - putR m q) ≤ 1 / (2 * ((m : Rat) - 1)) := by
  obtain ⟨a, _⟩ := ixo_lt h2 hm h0 h1
  obtain ⟨i, hi⟩ : ∃ i : Nat, ixo m q = i := ⟨(ixo m q).toNat, by omega⟩
  obtain ⟨u, hu, eu, e⟩ := far_eq (q := q) h2 i
  obtain ⟨f1, f2⟩ := ixo_fact (q := q) h2
  rw [hi, Rat.intCast_natCast] at f1 f2
  rw [put_eq h2 hi]
  have e3 : 1 / (2 * ((m : Rat) - 1)) = (1 / 2) * u := by
    rw [eu]
    grind
  have e4 : rabs (q - (i : Rat) / ((m : Rat) - 1)) = farR m q i := by
    unfold farR rabs
    split <;> split <;> grind
  rw [e3, e4, e]
  refine Rat.mul_le_mul_of_nonneg_right ?_ (Rat.le_of_lt hu)
  exact rabs_le (by grind) (by grind)
end K27

set_option Elab.async false
set_option linter.all false
set_option maxRecDepth 100000
set_option maxHeartbeats 4000000
set_option exponentiation.threshold 5000
/-! K27Do: dots. -/
namespace K27
open PySem L2 Pd
theorem half_rt : c_HALF = rt (1 / 2) := by
  have h1 : (1 / 2 : Rat).num = 1 := by decide +kernel
  have h2 : (1 / 2 : Rat).den = 2 := by decide +kernel
  unfold rt
  rw [h1, h2]
  rfl
theorem half_sz : Sz 2 (1 / 2 : Rat) := by
  unfold Sz
  decide +kernel
theorem dotof_run {N p : Nat} {q : Rat} (hN : N < 2 ^ 10) (hp : p < 2 ^ 10) (hq : Sz 100 q) (st : Store) : d_dot_of [.dat (rt q), .dat (nI N), .dat (nI p)] st = .ok (.dat (nI (dotv N q p))) st := by
  refine call_rt rfl ?_
  show b_dot_of [some (.dat (rt q)), some (.dat (nI N)), some (.dat (nI p))] st = _
  have b10 : ∀ k : Nat, k < 2 ^ 10 → (k : Int).natAbs < 2 ^ 4000 := fun k hk => Nat.lt_of_lt_of_le (show k < 2 ^ 10 from hk) (Nat.pow_le_pow_right (by decide) (by decide))
  have o1 : (1 : Int).natAbs < 2 ^ 4000 := Nat.lt_of_lt_of_le (show (1 : Int).natAbs < 2 ^ 10 by decide) (Nat.pow_le_pow_right (by decide) (by decide))
  have e1 := made_run (n := (p : Int)) (d := 1) st (b10 p hp) (by decide) o1
  have e2 := made_run (n := (N : Int)) (d := 1) st (b10 N hN) (by decide) o1
  rw [divInt_one] at e1 e2
  have sp := nat_sz hp (by decide)
  have sN := nat_sz hN (by decide)
  have e3 := add_run st (sp.mono (by decide : 10 ≤ 1000)) (half_sz.mono (by decide : 2 ≤ 1000))
  have e4 := product_run st (hq.mono (by decide : 100 ≤ 1000)) (sN.mono (by decide : 10 ≤ 1000))
  have e5 := below_run st ((add_sz sp half_sz).mono (by decide : 10 + 2 + 1 ≤ 1000)) ((mul_sz hq sN).mono (by decide : 100 + 10 ≤ 1000))
  rw [← half_rt] at e3
  rw [b_dot_of]
  by_cases k : (p : Rat) + 1 / 2 < q * N
  · rw [decide_eq_true k] at e5
    simp only [seqO_nx, seqO_rt, seqO_exc, ev_seqM, ev_skipM, ev_cst, ev_vr, ev_aNil, ev_noO, ev_tYesM, List.getElem?_cons_zero, List.getElem?_cons_succ, List.set, Res.bind_ok, bindS_ok, ap2_dat, ap1_dat, apN1, apN2, ofO_some, peek_dat, truD_bool, Bool.not_true, Bool.not_false, ixD_tup, ixD_lst, atI_0, atI_1, toDs_nil, toD_dat, ek_op2, k_op2, k_op2b, ek_op1, k_op1, ek_isiM, ek_opN, k_opN, ek_aCons, k_cons, k_cons2, ek_tupM, ek_lstD, k_tup, k_tup2_0, k_tup2_1, k_tup2_2, k_tup2_3, k_tup2_4, k_tup2_5, k_tup2_6, k_tup2_7, k_tup2_8, k_tup2_9, k_tup2_10, k_tup2_11, k_tup2_12, ek_toDs, k_toDs, k_toDs2, ek_callM, ek_ifE, k_ifE_t, k_ifE_f, truO_some, ofB_some, ek_truM, k_tru, ek_andT, k_andT_t, k_andT_f, ek_orT, k_orT_t, k_orT_f, ek_notT, k_notT, ek_andE, k_andE_t, k_andE_f, ek_orE, k_orE_t, k_orE_f, ek_notE, k_notE, ek_setM, k_set, ek_parM, k_par, ek_ifS, k_if_t, k_if_f, ek_retM, k_ret, ek_dropM, k_drop, ek_forM, k_for, ek_itM, k_it_l, k_it_t, ek_zipM, k_zip, k_zip2_l, k_zip2_t, ek_someO, k_some, ek_sliceM, k_sl, k_sl2, k_sl3, apS_dat, ek_parGM, k_pg2, k_pg3, ek_parM3, k_p3, ek_lstC, k_lst0, nI, e1, e2, e3, e4, e5, dotv, if_pos k]
    rfl
  · rw [decide_eq_false k] at e5
    simp only [seqO_nx, seqO_rt, seqO_exc, ev_seqM, ev_skipM, ev_cst, ev_vr, ev_aNil, ev_noO, ev_tYesM, List.getElem?_cons_zero, List.getElem?_cons_succ, List.set, Res.bind_ok, bindS_ok, ap2_dat, ap1_dat, apN1, apN2, ofO_some, peek_dat, truD_bool, Bool.not_true, Bool.not_false, ixD_tup, ixD_lst, atI_0, atI_1, toDs_nil, toD_dat, ek_op2, k_op2, k_op2b, ek_op1, k_op1, ek_isiM, ek_opN, k_opN, ek_aCons, k_cons, k_cons2, ek_tupM, ek_lstD, k_tup, k_tup2_0, k_tup2_1, k_tup2_2, k_tup2_3, k_tup2_4, k_tup2_5, k_tup2_6, k_tup2_7, k_tup2_8, k_tup2_9, k_tup2_10, k_tup2_11, k_tup2_12, ek_toDs, k_toDs, k_toDs2, ek_callM, ek_ifE, k_ifE_t, k_ifE_f, truO_some, ofB_some, ek_truM, k_tru, ek_andT, k_andT_t, k_andT_f, ek_orT, k_orT_t, k_orT_f, ek_notT, k_notT, ek_andE, k_andE_t, k_andE_f, ek_orE, k_orE_t, k_orE_f, ek_notE, k_notE, ek_setM, k_set, ek_parM, k_par, ek_ifS, k_if_t, k_if_f, ek_retM, k_ret, ek_dropM, k_drop, ek_forM, k_for, ek_itM, k_it_l, k_it_t, ek_zipM, k_zip, k_zip2_l, k_zip2_t, ek_someO, k_some, ek_sliceM, k_sl, k_sl2, k_sl3, apS_dat, ek_parGM, k_pg2, k_pg3, ek_parM3, k_p3, ek_lstC, k_lst0, nI, e1, e2, e3, e4, e5, dotv, if_neg k]
    rfl
def dotD (N : Nat) (c : List Rat) (p : Nat) : D := .tuple (c.map fun q => nI (dotv N q p))
def dotsD (N : Nat) (c : List Rat) (rows : List (List Nat)) : D := .tuple (rows.map fun r => .tuple (r.map (dotD N c)))
/-- a colour of the cube -/
structure Pl (k : Nat) (c : List Rat) : Prop where
  len : c.length = 3
  sz : ∀ q ∈ c, Sz k q
  in01 : ∀ q ∈ c, 0 ≤ q ∧ q ≤ 1
theorem Scr.mem {rows : List (List Nat)} {w : Nat} (h : Scr rows w) : ∀ r ∈ rows, ∀ p ∈ r, p < rows.length * w := fun r hr p hp => List.mem_range.mp (h.perm.subset (List.mem_flatten.mpr ⟨r, hr, hp⟩))
theorem Scr.first {rows : List (List Nat)} {w : Nat} (h : Scr rows w) : ∃ r0, rows[0]? = some r0 ∧ r0.length = w := by
  refine ⟨rows[0]'h.h0, List.getElem?_eq_getElem h.h0, h.wid _ (List.getElem_mem _)⟩
theorem many_run {rows : List (List Nat)} {w : Nat} (h : Scr rows w) {s : Slots} {st : Store} (h0 : s[0]? = some (some (.dat (scrD rows)))) : op2 mulD (opN lenD (aCons (vr 0) aNil)) (opN lenD (aCons (op2 ixD (vr 0) (cst (.int 0))) aNil)) s st = .ok (.dat (nI (rows.length * w))) st := by
  obtain ⟨r0, e0, l0⟩ := h.first
  have g0 : (rows.map rowD)[0]? = some (rowD r0) := by rw [List.getElem?_map, e0]; rfl
  have hv : vr 0 s st = .ok (.dat (scrD rows)) st := by rw [ev_vr, h0]
  have m := mulOk_lt (i := (rows.length : Int)) (j := (w : Int)) (k := 10) (l := 10) (by have := h.h4; omega) (by have := h.w5; omega) (by decide)
  simp only [seqO_nx, seqO_rt, seqO_exc, ev_seqM, ev_skipM, ev_cst, ev_vr, ev_aNil, ev_noO, ev_tYesM, List.getElem?_cons_zero, List.getElem?_cons_succ, List.set, Res.bind_ok, bindS_ok, ap2_dat, ap1_dat, apN1, apN2, ofO_some, peek_dat, truD_bool, Bool.not_true, Bool.not_false, ixD_tup, ixD_lst, atI_0, atI_1, toDs_nil, toD_dat, ek_op2, k_op2, k_op2b, ek_op1, k_op1, ek_isiM, ek_opN, k_opN, ek_aCons, k_cons, k_cons2, ek_tupM, ek_lstD, k_tup, k_tup2_0, k_tup2_1, k_tup2_2, k_tup2_3, k_tup2_4, k_tup2_5, k_tup2_6, k_tup2_7, k_tup2_8, k_tup2_9, k_tup2_10, k_tup2_11, k_tup2_12, ek_toDs, k_toDs, k_toDs2, ek_callM, ek_ifE, k_ifE_t, k_ifE_f, truO_some, ofB_some, ek_truM, k_tru, ek_andT, k_andT_t, k_andT_f, ek_orT, k_orT_t, k_orT_f, ek_notT, k_notT, ek_andE, k_andE_t, k_andE_f, ek_orE, k_orE_t, k_orE_f, ek_notE, k_notE, ek_setM, k_set, ek_parM, k_par, ek_ifS, k_if_t, k_if_f, ek_retM, k_ret, ek_dropM, k_drop, ek_forM, k_for, ek_itM, k_it_l, k_it_t, ek_zipM, k_zip, k_zip2_l, k_zip2_t, ek_someO, k_some, ek_sliceM, k_sl, k_sl2, k_sl3, apS_dat, ek_parGM, k_pg2, k_pg3, ek_parM3, k_p3, ek_lstC, k_lst0, ↓hv, lenD_tup, List.length_map, g0, l0, mulD_int, m, if_true]
  rw [nI, Int.natCast_mul]
theorem dots_run {rows : List (List Nat)} {w : Nat} {c : List Rat} (h : Scr rows w) (hc : Pl 100 c) (st : Store) : d_dots_of [.dat (scrD rows), .dat (colD c)] st = .ok (.dat (dotsD (rows.length * w) c rows)) st := by
  refine call_rt rfl ?_
  show b_dots_of [some (.dat (scrD rows)), some (.dat (colD c)), none, none, none, none] st = _
  have n20 := h.n20
  have e1 := h.run st
  have e2 := isplain_run hc.len hc.in01 st
  have e3 := check_run st
  have e4 := many_run h (s := [some (.dat (scrD rows)), some (.dat (colD c)), none, none, none, none]) (st := st) rfl
  have inner : ∀ (r : List Nat) (p : Nat), p < rows.length * w → opN tupleD (aCons (lcM (itM (vr 1)) (bName 5) [5] tYesM (callM d_dot_of (aCons (vr 5) (aCons (vr 2) (aCons (vr 4) aNil))))) aNil) [some (.dat (scrD rows)), some (.dat (colD c)), some (.dat (nI (rows.length * w))), some (.dat (rowD r)), some (.dat (nI p)), none] st = .ok (.dat (dotD (rows.length * w) c p)) st := fun r p hp =>
    tupLc (lcM_mapN (enc := rt) (l := c) (fun q => nI (dotv (rows.length * w) q p)) rfl (slN _ (by rw [hc.len]; decide)) fun q hq => by
      have e := dotof_run (N := rows.length * w) (p := p) (by omega) (by omega) (hc.sz q hq) st
      simp only [seqO_nx, seqO_rt, seqO_exc, ev_seqM, ev_skipM, ev_cst, ev_vr, ev_aNil, ev_noO, ev_tYesM, List.getElem?_cons_zero, List.getElem?_cons_succ, List.set, Res.bind_ok, bindS_ok, ap2_dat, ap1_dat, apN1, apN2, ofO_some, peek_dat, truD_bool, Bool.not_true, Bool.not_false, ixD_tup, ixD_lst, atI_0, atI_1, toDs_nil, toD_dat, ek_op2, k_op2, k_op2b, ek_op1, k_op1, ek_isiM, ek_opN, k_opN, ek_aCons, k_cons, k_cons2, ek_tupM, ek_lstD, k_tup, k_tup2_0, k_tup2_1, k_tup2_2, k_tup2_3, k_tup2_4, k_tup2_5, k_tup2_6, k_tup2_7, k_tup2_8, k_tup2_9, k_tup2_10, k_tup2_11, k_tup2_12, ek_toDs, k_toDs, k_toDs2, ek_callM, ek_ifE, k_ifE_t, k_ifE_f, truO_some, ofB_some, ek_truM, k_tru, ek_andT, k_andT_t, k_andT_f, ek_orT, k_orT_t, k_orT_f, ek_notT, k_notT, ek_andE, k_andE_t, k_andE_f, ek_orE, k_orE_t, k_orE_f, ek_notE, k_notE, ek_setM, k_set, ek_parM, k_par, ek_ifS, k_if_t, k_if_f, ek_retM, k_ret, ek_dropM, k_drop, ek_forM, k_for, ek_itM, k_it_l, k_it_t, ek_zipM, k_zip, k_zip2_l, k_zip2_t, ek_someO, k_some, ek_sliceM, k_sl, k_sl2, k_sl3, apS_dat, ek_parGM, k_pg2, k_pg3, ek_parM3, k_p3, ek_lstC, k_lst0, wipeS, e])
  have mid : ∀ r ∈ rows, opN tupleD (aCons (lcM (itM (vr 3)) (bName 4) [4] tYesM (opN tupleD (aCons (lcM (itM (vr 1)) (bName 5) [5] tYesM (callM d_dot_of (aCons (vr 5) (aCons (vr 2) (aCons (vr 4) aNil))))) aNil))) aNil) [some (.dat (scrD rows)), some (.dat (colD c)), some (.dat (nI (rows.length * w))), some (.dat (rowD r)), none, none] st = .ok (.dat (.tuple (r.map (dotD (rows.length * w) c)))) st := fun r hr =>
    tupLc (lcM_mapN (enc := nI) (l := r) (dotD (rows.length * w) c) rfl (slN _ (by have := h.wid r hr; have := h.w5; omega)) fun p hp => inner r p (h.mem r hr p hp))
  have outer : opN tupleD (aCons (lcM (itM (vr 0)) (bName 3) [3] tYesM (opN tupleD (aCons (lcM (itM (vr 3)) (bName 4) [4] tYesM (opN tupleD (aCons (lcM (itM (vr 1)) (bName 5) [5] tYesM (callM d_dot_of (aCons (vr 5) (aCons (vr 2) (aCons (vr 4) aNil))))) aNil))) aNil))) aNil) [some (.dat (scrD rows)), some (.dat (colD c)), some (.dat (nI (rows.length * w))), none, none, none] st = .ok (.dat (dotsD (rows.length * w) c rows)) st :=
    tupLc (lcM_mapN (enc := rowD) (l := rows) (fun r => .tuple (r.map (dotD (rows.length * w) c))) rfl (slN _ (by have := h.h4; omega)) fun r hr => mid r hr)
  rw [b_dots_of]
  simp only [seqO_nx, seqO_rt, seqO_exc, ev_seqM, ev_skipM, ev_cst, ev_vr, ev_aNil, ev_noO, ev_tYesM, List.getElem?_cons_zero, List.getElem?_cons_succ, List.set, Res.bind_ok, bindS_ok, ap2_dat, ap1_dat, apN1, apN2, ofO_some, peek_dat, truD_bool, Bool.not_true, Bool.not_false, ixD_tup, ixD_lst, atI_0, atI_1, toDs_nil, toD_dat, ek_op2, k_op2, k_op2b, ek_op1, k_op1, ek_isiM, ek_opN, k_opN, ek_aCons, k_cons, k_cons2, ek_tupM, ek_lstD, k_tup, k_tup2_0, k_tup2_1, k_tup2_2, k_tup2_3, k_tup2_4, k_tup2_5, k_tup2_6, k_tup2_7, k_tup2_8, k_tup2_9, k_tup2_10, k_tup2_11, k_tup2_12, ek_toDs, k_toDs, k_toDs2, ek_callM, ek_ifE, k_ifE_t, k_ifE_f, truO_some, ofB_some, ek_truM, k_tru, ek_andT, k_andT_t, k_andT_f, ek_orT, k_orT_t, k_orT_f, ek_notT, k_notT, ek_andE, k_andE_t, k_andE_f, ek_orE, k_orE_t, k_orE_f, ek_notE, k_notE, ek_setM, k_set, ek_parM, k_par, ek_ifS, k_if_t, k_if_f, ek_retM, k_ret, ek_dropM, k_drop, ek_forM, k_for, ek_itM, k_it_l, k_it_t, ek_zipM, k_zip, k_zip2_l, k_zip2_t, ek_someO, k_some, ek_sliceM, k_sl, k_sl2, k_sl3, apS_dat, ek_parGM, k_pg2, k_pg3, ek_parM3, k_p3, ek_lstC, k_lst0, e1, e2, e3, ↓e4, ↓outer]
/-! the law's own -/
theorem intD_bool (b : Bool) : intD [.bool b] = some (.int (if b then 1 else 0)) := rfl
theorem ldot_run {N p : Nat} {q : Rat} (hN : N < 2 ^ 10) (hp : p < 2 ^ 10) (hq : Sz 100 q) {s : Slots} {st : Store} (h6 : s[6]? = some (some (.dat (rt q)))) (h2 : s[2]? = some (some (.dat (nI N)))) (h5 : s[5]? = some (some (.dat (nI p)))) :
    opN intD (aCons (op2 gtD (op2 mulD (op2 mulD (cst (.int 2)) (op2 ixD (vr 6) (cst (.int 0)))) (vr 2)) (op2 mulD (op2 ixD (vr 6) (cst (.int 1))) (op2 addD (op2 mulD (cst (.int 2)) (vr 5)) (cst (.int 1))))) aNil) s st = .ok (.dat (nI (dotv N q p))) st := by
  have v6 : vr 6 s st = .ok (.dat (rt q)) st := by rw [ev_vr, h6]
  have v2 : vr 2 s st = .ok (.dat (nI N)) st := by rw [ev_vr, h2]
  have v5 : vr 5 s st = .ok (.dat (nI p)) st := by rw [ev_vr, h5]
  have x0 : ixD (rt q) (.int 0) = some (.int q.num) := rfl
  have x1 : ixD (rt q) (.int 1) = some (.int (q.den : Int)) := rfl
  have a2 : (2 : Int).natAbs < 2 ^ 2 := by decide
  have m1 : mulOk 2 q.num = true := mulOk_lt a2 hq.1 (by decide)
  have m2 : mulOk (2 * q.num) (N : Int) = true := mulOk_lt (natAbs_mul_lt a2 hq.1) (show ((N : Int)).natAbs < 2 ^ 10 from hN) (by decide)
  have m3 : mulOk 2 (p : Int) = true := mulOk_lt a2 (show ((p : Int)).natAbs < 2 ^ 10 from hp) (by decide)
  have m4 : mulOk (q.den : Int) (2 * (p : Int) + 1) = true := mulOk_lt (i := (q.den : Int)) hq.2 (show (2 * (p : Int) + 1).natAbs < 2 ^ 12 by omega) (by decide)
  have k := dot_iff N q p
  simp only [seqO_nx, seqO_rt, seqO_exc, ev_seqM, ev_skipM, ev_cst, ev_vr, ev_aNil, ev_noO, ev_tYesM, List.getElem?_cons_zero, List.getElem?_cons_succ, List.set, Res.bind_ok, bindS_ok, ap2_dat, ap1_dat, apN1, apN2, ofO_some, peek_dat, truD_bool, Bool.not_true, Bool.not_false, ixD_tup, ixD_lst, atI_0, atI_1, toDs_nil, toD_dat, ek_op2, k_op2, k_op2b, ek_op1, k_op1, ek_isiM, ek_opN, k_opN, ek_aCons, k_cons, k_cons2, ek_tupM, ek_lstD, k_tup, k_tup2_0, k_tup2_1, k_tup2_2, k_tup2_3, k_tup2_4, k_tup2_5, k_tup2_6, k_tup2_7, k_tup2_8, k_tup2_9, k_tup2_10, k_tup2_11, k_tup2_12, ek_toDs, k_toDs, k_toDs2, ek_callM, ek_ifE, k_ifE_t, k_ifE_f, truO_some, ofB_some, ek_truM, k_tru, ek_andT, k_andT_t, k_andT_f, ek_orT, k_orT_t, k_orT_f, ek_notT, k_notT, ek_andE, k_andE_t, k_andE_f, ek_orE, k_orE_t, k_orE_f, ek_notE, k_notE, ek_setM, k_set, ek_parM, k_par, ek_ifS, k_if_t, k_if_f, ek_retM, k_ret, ek_dropM, k_drop, ek_forM, k_for, ek_itM, k_it_l, k_it_t, ek_zipM, k_zip, k_zip2_l, k_zip2_t, ek_someO, k_some, ek_sliceM, k_sl, k_sl2, k_sl3, apS_dat, ek_parGM, k_pg2, k_pg3, ek_parM3, k_p3, ek_lstC, k_lst0, ↓v6, ↓v2, ↓v5, x0, x1, mulD_int, m1, m2, m3, m4, if_true, addD_int, gtD_int, intD_bool]
  unfold dotv
  by_cases h : (p : Rat) + 1 / 2 < q * N
  · rw [if_pos h, decide_eq_true (k.mp h)]
    rfl
  · rw [if_neg h, decide_eq_false (fun z => h (k.mpr z))]
    rfl
theorem ldots_run {rows : List (List Nat)} {w : Nat} {c : List Rat} (h : Scr rows w) (hc : Pl 100 c) (st : Store) : d_u_law_dots [.dat (scrD rows), .dat (colD c)] st = .ok (.dat (dotsD (rows.length * w) c rows)) st := by
  have n20 := h.n20
  have e4 := many_run h (s := [some (.dat (scrD rows)), some (.dat (colD c)), none, none, none, none, none]) (st := st) rfl
  have inner : ∀ (o : Option Vl) (r : List Nat) (p : Nat) (st : Store), p < rows.length * w → opN tupleD (aCons (lcM (itM (vr 1)) (bName 6) [6] tYesM (opN intD (aCons (op2 gtD (op2 mulD (op2 mulD (cst (.int 2)) (op2 ixD (vr 6) (cst (.int 0)))) (vr 2)) (op2 mulD (op2 ixD (vr 6) (cst (.int 1))) (op2 addD (op2 mulD (cst (.int 2)) (vr 5)) (cst (.int 1))))) aNil))) aNil) [some (.dat (scrD rows)), some (.dat (colD c)), some (.dat (nI (rows.length * w))), o, some (.dat (rowD r)), some (.dat (nI p)), none] st = .ok (.dat (dotD (rows.length * w) c p)) st := fun o r p st hp =>
    tupLc (lcM_mapN (enc := rt) (l := c) (fun q => nI (dotv (rows.length * w) q p)) rfl (slN _ (by rw [hc.len]; decide)) fun q hq => ldot_run (by omega) (by omega) (hc.sz q hq) rfl rfl rfl)
  have mid : ∀ (o : Option Vl) (st : Store), ∀ r ∈ rows, opN tupleD (aCons (lcM (itM (vr 4)) (bName 5) [5] tYesM (opN tupleD (aCons (lcM (itM (vr 1)) (bName 6) [6] tYesM (opN intD (aCons (op2 gtD (op2 mulD (op2 mulD (cst (.int 2)) (op2 ixD (vr 6) (cst (.int 0)))) (vr 2)) (op2 mulD (op2 ixD (vr 6) (cst (.int 1))) (op2 addD (op2 mulD (cst (.int 2)) (vr 5)) (cst (.int 1))))) aNil))) aNil))) aNil) [some (.dat (scrD rows)), some (.dat (colD c)), some (.dat (nI (rows.length * w))), o, some (.dat (rowD r)), none, none] st = .ok (.dat (.tuple (r.map (dotD (rows.length * w) c)))) st := fun o st r hr =>
    tupLc (lcM_mapN (enc := nI) (l := r) (dotD (rows.length * w) c) rfl (slN _ (by have := h.wid r hr; have := h.w5; omega)) fun p hp => inner o r p st (h.mem r hr p hp))
  obtain ⟨s', e5, ⟨o, rfl⟩⟩ := loop_app (enc := rowD) (fun r : List Nat => PyData.tuple (r.map (dotD (rows.length * w) c))) (g := tgM (bName 4) (dropM (appM (vr 3) (opN tupleD (aCons (lcM (itM (vr 4)) (bName 5) [5] tYesM (opN tupleD (aCons (lcM (itM (vr 1)) (bName 6) [6] tYesM (opN intD (aCons (op2 gtD (op2 mulD (op2 mulD (cst (.int 2)) (op2 ixD (vr 6) (cst (.int 0)))) (vr 2)) (op2 mulD (op2 ixD (vr 6) (cst (.int 1))) (op2 addD (op2 mulD (cst (.int 2)) (vr 5)) (cst (.int 1))))) aNil))) aNil))) aNil)))))
    (fun s => ∃ o, s = [some (.dat (scrD rows)), some (.dat (colD c)), some (.dat (nI (rows.length * w))), some (.cel st.length), o, none, none]) st rows [] [some (.dat (scrD rows)), some (.dat (colD c)), some (.dat (nI (rows.length * w))), some (.cel st.length), none, none, none] ⟨none, rfl⟩ (by
      rintro r hr acc s ⟨o, rfl⟩ hl
      refine ⟨[some (.dat (scrD rows)), some (.dat (colD c)), some (.dat (nI (rows.length * w))), some (.cel st.length), some (.dat (rowD r)), none, none], ?_, ⟨_, rfl⟩⟩
      rw [ev_tgM, ev_bName, optO_some]
      exact app_end_go rfl (mid _ _ r hr) hl) (by have := h.h4; simp; omega)
  refine call_rtN (st' := [cD ([] ++ rows.map fun r => .tuple (r.map (dotD (rows.length * w) c)))]) rfl ?_
  show b_u_law_dots [some (.dat (scrD rows)), some (.dat (colD c)), none, none, none, none, none] st = _
  rw [b_u_law_dots]
  have e6 : ∀ s : Slots, s[0]? = some (some (.dat (scrD rows))) → itM (vr 0) s (st ++ [cD []]) = .ok (rows.map rowD) (st ++ [cD []]) := fun s hs => by
    rw [ev_itM, ev_vr, hs]
    rfl
  simp only [seqO_nx, seqO_rt, seqO_exc, ev_seqM, ev_skipM, ev_cst, ev_vr, ev_aNil, ev_noO, ev_tYesM, List.getElem?_cons_zero, List.getElem?_cons_succ, List.set, Res.bind_ok, bindS_ok, ap2_dat, ap1_dat, apN1, apN2, ofO_some, peek_dat, truD_bool, Bool.not_true, Bool.not_false, ixD_tup, ixD_lst, atI_0, atI_1, toDs_nil, toD_dat, ek_op2, k_op2, k_op2b, ek_op1, k_op1, ek_isiM, ek_opN, k_opN, ek_aCons, k_cons, k_cons2, ek_tupM, ek_lstD, k_tup, k_tup2_0, k_tup2_1, k_tup2_2, k_tup2_3, k_tup2_4, k_tup2_5, k_tup2_6, k_tup2_7, k_tup2_8, k_tup2_9, k_tup2_10, k_tup2_11, k_tup2_12, ek_toDs, k_toDs, k_toDs2, ek_callM, ek_ifE, k_ifE_t, k_ifE_f, truO_some, ofB_some, ek_truM, k_tru, ek_andT, k_andT_t, k_andT_f, ek_orT, k_orT_t, k_orT_f, ek_notT, k_notT, ek_andE, k_andE_t, k_andE_f, ek_orE, k_orE_t, k_orE_f, ek_notE, k_notE, ek_setM, k_set, ek_parM, k_par, ek_ifS, k_if_t, k_if_f, ek_retM, k_ret, ek_dropM, k_drop, ek_forM, k_for, ek_itM, k_it_l, k_it_t, ek_zipM, k_zip, k_zip2_l, k_zip2_t, ek_someO, k_some, ek_sliceM, k_sl, k_sl2, k_sl3, apS_dat, ek_parGM, k_pg2, k_pg3, ek_parM3, k_p3, ek_lstC, k_lst0, ↓e4, ↓e6, e5, apN_end, tupleD_list, List.nil_append]
  rfl
end K27

set_option Elab.async false
set_option linter.all false
set_option maxRecDepth 100000
set_option maxHeartbeats 4000000
set_option exponentiation.threshold 5000
/-! K27Me: means. -/
namespace K27
open PySem L2 Pd
theorem at3 {α : Type} {c : List α} {f : α → D} {z : α} (h : c.length = 3) {k : Nat} (hk : k < 3) : (c.map f)[k]? = some (f (c.getD k z)) := by
  rw [List.getElem?_map, List.getElem?_eq_getElem (by omega), List.getD_eq_getElem?_getD, List.getElem?_eq_getElem (by omega)]
  rfl
theorem getD_mem {c : List Rat} (h : c.length = 3) {k : Nat} (hk : k < 3) : c.getD k 0 ∈ c := by
  rw [List.getD_eq_getElem?_getD, List.getElem?_eq_getElem (by omega)]
  exact List.getElem_mem _
def meanC (cs : List (List Rat)) : List Rat := (List.range 3).map fun k => sumR (cs.map fun c => c.getD k 0) * (1 / (cs.length : Rat))
theorem one_lt {m : Nat} (h : 0 < m) : (1 : Int).natAbs < 2 ^ m := by
  show 1 < _
  exact Nat.one_lt_two_pow_iff.mpr (by omega)
theorem sumR_sz (k : Nat) {l : List Rat} (h : ∀ q ∈ l, Sz k q) (hn : 1 + l.length * (k + 1) ≤ 190) (hk : k ≤ 190) : Sz (1 + l.length * (k + 1)) (sumR l) := (lsum_run k h hn hk []).2
theorem colget {cs : List (List Rat)} {s : Nat} (h3 : ∀ c ∈ cs, c.length = 3) (hs : ∀ c ∈ cs, ∀ q ∈ c, Sz s q) {k : Nat} (hk : k < 3) : ∀ q ∈ cs.map fun c => c.getD k 0, Sz s q := fun q hq => by
  obtain ⟨c, hc, rfl⟩ := List.mem_map.mp hq
  exact hs c hc _ (getD_mem (h3 c hc) hk)
/-- how mean_of ends -/
theorem mean_end {cs : List (List Rat)} {s : Nat} (h3 : ∀ c ∈ cs, c.length = 3) (hs : ∀ c ∈ cs, ∀ q ∈ c, Sz s q) (h0 : 0 < cs.length) (hn : cs.length < 2 ^ 10) (hb : 1 + cs.length * (s + 1) ≤ 150) (hs2 : s ≤ 150) (v0 v2 : Vl) (o4 o5 o7 : Option Vl) (st : Store) :
    opN tupleD (aCons (lcM (rng1M (aCons (cst (.int 3)) aNil)) (bName 6) [6] tYesM (callM d_product (aCons (callM d_total (aCons (lcM (itM (vr 1)) (bName 5) [5] tYesM (op2 ixD (vr 5) (vr 6))) aNil)) (aCons (vr 3) aNil)))) aNil) [some v0, some (.dat (.list (cs.map colD))), some v2, some (.dat (rt (1 / (cs.length : Rat)))), o4, o5, none, o7] st = .ok (.dat (colD (meanC cs))) st := by
  show _ = Res.ok (Vl.dat (PyData.tuple (((List.range 3).map fun k => sumR (cs.map fun c => c.getD k 0) * (1 / (cs.length : Rat))).map rt))) st
  rw [List.map_map]
  refine tupLc (lcM_mapN (enc := fun k : Nat => PyData.int k) (l := List.range 3) (rt ∘ fun k => sumR (cs.map fun c => c.getD k 0) * (1 / (cs.length : Rat))) (run_rngN rfl (by decide)) (slN _ (by simp)) fun k hk => ?_)
  have hk3 : k < 3 := List.mem_range.mp hk
  have e1 : lcM (itM (vr 1)) (bName 5) [5] tYesM (op2 ixD (vr 5) (vr 6)) [some v0, some (.dat (.list (cs.map colD))), some v2, some (.dat (rt (1 / (cs.length : Rat)))), o4, o5, some (.dat (.int k)), o7] st = .ok (.dat (.list ((cs.map fun c => c.getD k 0).map rt))) st := by
    rw [List.map_map]
    refine lcM_mapN (enc := colD) (l := cs) (rt ∘ fun c => c.getD k 0) rfl (slN _ (by omega)) fun c hc => ?_
    have e := at3 (f := rt) (z := 0) (h3 c hc) hk3
    simp only [seqO_nx, seqO_rt, seqO_exc, ev_seqM, ev_skipM, ev_cst, ev_vr, ev_aNil, ev_noO, ev_tYesM, List.getElem?_cons_zero, List.getElem?_cons_succ, List.set, Res.bind_ok, bindS_ok, ap2_dat, ap1_dat, apN1, apN2, ofO_some, peek_dat, truD_bool, Bool.not_true, Bool.not_false, ixD_tup, ixD_lst, atI_0, atI_1, toDs_nil, toD_dat, ek_op2, k_op2, k_op2b, ek_op1, k_op1, ek_isiM, ek_opN, k_opN, ek_aCons, k_cons, k_cons2, ek_tupM, ek_lstD, k_tup, k_tup2_0, k_tup2_1, k_tup2_2, k_tup2_3, k_tup2_4, k_tup2_5, k_tup2_6, k_tup2_7, k_tup2_8, k_tup2_9, k_tup2_10, k_tup2_11, k_tup2_12, ek_toDs, k_toDs, k_toDs2, ek_callM, ek_ifE, k_ifE_t, k_ifE_f, truO_some, ofB_some, ek_truM, k_tru, ek_andT, k_andT_t, k_andT_f, ek_orT, k_orT_t, k_orT_f, ek_notT, k_notT, ek_andE, k_andE_t, k_andE_f, ek_orE, k_orE_t, k_orE_f, ek_notE, k_notE, ek_setM, k_set, ek_parM, k_par, ek_ifS, k_if_t, k_if_f, ek_retM, k_ret, ek_dropM, k_drop, ek_forM, k_for, ek_itM, k_it_l, k_it_t, ek_zipM, k_zip, k_zip2_l, k_zip2_t, ek_someO, k_some, ek_sliceM, k_sl, k_sl2, k_sl3, apS_dat, ek_parGM, k_pg2, k_pg3, ek_parM3, k_p3, ek_lstC, k_lst0, wipeS, colD, Pd.atI_nat, e]
    rfl
  have z1 := colget h3 hs hk3
  have hl : (cs.map fun c => c.getD k 0).length = cs.length := List.length_map ..
  have e2 := total_run s z1 (by rw [hl]; omega) (by omega) st
  have z2 := sumR_sz s z1 (by rw [hl]; omega) (by omega)
  rw [hl] at z2
  have e3 := product_run st (z2.mono (by omega : _ ≤ 1000)) ((over_sz h0 hn (by decide)).mono (by decide : 10 ≤ 1000))
  simp only [seqO_nx, seqO_rt, seqO_exc, ev_seqM, ev_skipM, ev_cst, ev_vr, ev_aNil, ev_noO, ev_tYesM, List.getElem?_cons_zero, List.getElem?_cons_succ, List.set, Res.bind_ok, bindS_ok, ap2_dat, ap1_dat, apN1, apN2, ofO_some, peek_dat, truD_bool, Bool.not_true, Bool.not_false, ixD_tup, ixD_lst, atI_0, atI_1, toDs_nil, toD_dat, ek_op2, k_op2, k_op2b, ek_op1, k_op1, ek_isiM, ek_opN, k_opN, ek_aCons, k_cons, k_cons2, ek_tupM, ek_lstD, k_tup, k_tup2_0, k_tup2_1, k_tup2_2, k_tup2_3, k_tup2_4, k_tup2_5, k_tup2_6, k_tup2_7, k_tup2_8, k_tup2_9, k_tup2_10, k_tup2_11, k_tup2_12, ek_toDs, k_toDs, k_toDs2, ek_callM, ek_ifE, k_ifE_t, k_ifE_f, truO_some, ofB_some, ek_truM, k_tru, ek_andT, k_andT_t, k_andT_f, ek_orT, k_orT_t, k_orT_f, ek_notT, k_notT, ek_andE, k_andE_t, k_andE_f, ek_orE, k_orE_t, k_orE_f, ek_notE, k_notE, ek_setM, k_set, ek_parM, k_par, ek_ifS, k_if_t, k_if_f, ek_retM, k_ret, ek_dropM, k_drop, ek_forM, k_for, ek_itM, k_it_l, k_it_t, ek_zipM, k_zip, k_zip2_l, k_zip2_t, ek_someO, k_some, ek_sliceM, k_sl, k_sl2, k_sl3, apS_dat, ek_parGM, k_pg2, k_pg3, ek_parM3, k_p3, ek_lstC, k_lst0, wipeS, ↓e1, e2, e3]
  rfl
theorem inD_dot {v : Nat} (h : v ≤ 1) : inD (nI v) c_DOTS = some (.bool true) := by
  obtain rfl | rfl : v = 0 ∨ v = 1 := by omega
  · rfl
  · rfl
theorem isdots_run {N p : Nat} {c : List Rat} (hc : c.length = 3) (st : Store) : d_is_dots [.dat (dotD N c p)] st = .ok (.dat (.bool true)) st := by
  refine call_rt rfl ?_
  show b_is_dots [some (.dat (dotD N c p)), none] st = _
  have e1 : opN allD (aCons (lcM (itM (vr 0)) (bName 1) [1] tYesM (andE (callM d_is_integer (aCons (vr 1) aNil)) (op2 inD (vr 1) (cst c_DOTS)))) aNil) [some (.dat (dotD N c p)), none] st = .ok (.dat (.bool (c.all fun _ => true))) st :=
    allLc (lcM_mapN (enc := fun q => nI (dotv N q p)) (fun _ => .bool true) rfl (slN _ (by omega)) fun q _ => by
      have i := isint_run (dotv N q p : Int) st
      have d := inD_dot (dotv_le N q p)
      simp only [seqO_nx, seqO_rt, seqO_exc, ev_seqM, ev_skipM, ev_cst, ev_vr, ev_aNil, ev_noO, ev_tYesM, List.getElem?_cons_zero, List.getElem?_cons_succ, List.set, Res.bind_ok, bindS_ok, ap2_dat, ap1_dat, apN1, apN2, ofO_some, peek_dat, truD_bool, Bool.not_true, Bool.not_false, ixD_tup, ixD_lst, atI_0, atI_1, toDs_nil, toD_dat, ek_op2, k_op2, k_op2b, ek_op1, k_op1, ek_isiM, ek_opN, k_opN, ek_aCons, k_cons, k_cons2, ek_tupM, ek_lstD, k_tup, k_tup2_0, k_tup2_1, k_tup2_2, k_tup2_3, k_tup2_4, k_tup2_5, k_tup2_6, k_tup2_7, k_tup2_8, k_tup2_9, k_tup2_10, k_tup2_11, k_tup2_12, ek_toDs, k_toDs, k_toDs2, ek_callM, ek_ifE, k_ifE_t, k_ifE_f, truO_some, ofB_some, ek_truM, k_tru, ek_andT, k_andT_t, k_andT_f, ek_orT, k_orT_t, k_orT_f, ek_notT, k_notT, ek_andE, k_andE_t, k_andE_f, ek_orE, k_orE_t, k_orE_f, ek_notE, k_notE, ek_setM, k_set, ek_parM, k_par, ek_ifS, k_if_t, k_if_f, ek_retM, k_ret, ek_dropM, k_drop, ek_forM, k_for, ek_itM, k_it_l, k_it_t, ek_zipM, k_zip, k_zip2_l, k_zip2_t, ek_someO, k_some, ek_sliceM, k_sl, k_sl2, k_sl3, apS_dat, ek_parGM, k_pg2, k_pg3, ek_parM3, k_p3, ek_lstC, k_lst0, wipeS, nI, i, d])
  have e2 : lenD [dotD N c p] = some (.int 3) := by
    unfold dotD
    rw [lenD_tup, List.length_map, hc]
    rfl
  have e3 : isiD "tuple" (dotD N c p) = some (.bool true) := rfl
  rw [b_is_dots]
  simp only [seqO_nx, seqO_rt, seqO_exc, ev_seqM, ev_skipM, ev_cst, ev_vr, ev_aNil, ev_noO, ev_tYesM, List.getElem?_cons_zero, List.getElem?_cons_succ, List.set, Res.bind_ok, bindS_ok, ap2_dat, ap1_dat, apN1, apN2, ofO_some, peek_dat, truD_bool, Bool.not_true, Bool.not_false, ixD_tup, ixD_lst, atI_0, atI_1, toDs_nil, toD_dat, ek_op2, k_op2, k_op2b, ek_op1, k_op1, ek_isiM, ek_opN, k_opN, ek_aCons, k_cons, k_cons2, ek_tupM, ek_lstD, k_tup, k_tup2_0, k_tup2_1, k_tup2_2, k_tup2_3, k_tup2_4, k_tup2_5, k_tup2_6, k_tup2_7, k_tup2_8, k_tup2_9, k_tup2_10, k_tup2_11, k_tup2_12, ek_toDs, k_toDs, k_toDs2, ek_callM, ek_ifE, k_ifE_t, k_ifE_f, truO_some, ofB_some, ek_truM, k_tru, ek_andT, k_andT_t, k_andT_f, ek_orT, k_orT_t, k_orT_f, ek_notT, k_notT, ek_andE, k_andE_t, k_andE_f, ek_orE, k_orE_t, k_orE_f, ek_notE, k_notE, ek_setM, k_set, ek_parM, k_par, ek_ifS, k_if_t, k_if_f, ek_retM, k_ret, ek_dropM, k_drop, ek_forM, k_for, ek_itM, k_it_l, k_it_t, ek_zipM, k_zip, k_zip2_l, k_zip2_t, ek_someO, k_some, ek_sliceM, k_sl, k_sl2, k_sl3, apS_dat, ek_parGM, k_pg2, k_pg3, ek_parM3, k_p3, ek_lstC, k_lst0, e3, e2, eqD_int, decide_true, ↓e1]
  simp
theorem isint_tuple (ds : List D) (st : Store) : d_is_integer [.dat (.tuple ds)] st = .ok (.dat (.bool false)) st := by
  refine call_rt rfl ?_
  have e : isiD "int" (.tuple ds) = some (.bool false) := rfl
  show b_is_integer [some (.dat (.tuple ds))] st = _
  rw [b_is_integer]
  simp only [seqO_nx, seqO_rt, seqO_exc, ev_seqM, ev_skipM, ev_cst, ev_vr, ev_aNil, ev_noO, ev_tYesM, List.getElem?_cons_zero, List.getElem?_cons_succ, List.set, Res.bind_ok, bindS_ok, ap2_dat, ap1_dat, apN1, apN2, ofO_some, peek_dat, truD_bool, Bool.not_true, Bool.not_false, ixD_tup, ixD_lst, atI_0, atI_1, toDs_nil, toD_dat, ek_op2, k_op2, k_op2b, ek_op1, k_op1, ek_isiM, ek_opN, k_opN, ek_aCons, k_cons, k_cons2, ek_tupM, ek_lstD, k_tup, k_tup2_0, k_tup2_1, k_tup2_2, k_tup2_3, k_tup2_4, k_tup2_5, k_tup2_6, k_tup2_7, k_tup2_8, k_tup2_9, k_tup2_10, k_tup2_11, k_tup2_12, ek_toDs, k_toDs, k_toDs2, ek_callM, ek_ifE, k_ifE_t, k_ifE_f, truO_some, ofB_some, ek_truM, k_tru, ek_andT, k_andT_t, k_andT_f, ek_orT, k_orT_t, k_orT_f, ek_notT, k_notT, ek_andE, k_andE_t, k_andE_f, ek_orE, k_orE_t, k_orE_f, ek_notE, k_notE, ek_setM, k_set, ek_parM, k_par, ek_ifS, k_if_t, k_if_f, ek_retM, k_ret, ek_dropM, k_drop, ek_forM, k_for, ek_itM, k_it_l, k_it_t, ek_zipM, k_zip, k_zip2_l, k_zip2_t, ek_someO, k_some, ek_sliceM, k_sl, k_sl2, k_sl3, apS_dat, ek_parGM, k_pg2, k_pg3, ek_parM3, k_p3, ek_lstC, k_lst0, e]
theorem isdots_col {c : List Rat} (hc : c.length = 3) (st : Store) : d_is_dots [.dat (colD c)] st = .ok (.dat (.bool false)) st := by
  refine call_rt rfl ?_
  show b_is_dots [some (.dat (colD c)), none] st = _
  have e1 : opN allD (aCons (lcM (itM (vr 0)) (bName 1) [1] tYesM (andE (callM d_is_integer (aCons (vr 1) aNil)) (op2 inD (vr 1) (cst c_DOTS)))) aNil) [some (.dat (colD c)), none] st = .ok (.dat (.bool (c.all fun _ => false))) st :=
    allLc (lcM_mapN (enc := rt) (fun _ => .bool false) rfl (slN _ (by omega)) fun q _ => by
      have i : d_is_integer [.dat (rt q)] st = .ok (.dat (.bool false)) st := isint_tuple _ st
      simp only [seqO_nx, seqO_rt, seqO_exc, ev_seqM, ev_skipM, ev_cst, ev_vr, ev_aNil, ev_noO, ev_tYesM, List.getElem?_cons_zero, List.getElem?_cons_succ, List.set, Res.bind_ok, bindS_ok, ap2_dat, ap1_dat, apN1, apN2, ofO_some, peek_dat, truD_bool, Bool.not_true, Bool.not_false, ixD_tup, ixD_lst, atI_0, atI_1, toDs_nil, toD_dat, ek_op2, k_op2, k_op2b, ek_op1, k_op1, ek_isiM, ek_opN, k_opN, ek_aCons, k_cons, k_cons2, ek_tupM, ek_lstD, k_tup, k_tup2_0, k_tup2_1, k_tup2_2, k_tup2_3, k_tup2_4, k_tup2_5, k_tup2_6, k_tup2_7, k_tup2_8, k_tup2_9, k_tup2_10, k_tup2_11, k_tup2_12, ek_toDs, k_toDs, k_toDs2, ek_callM, ek_ifE, k_ifE_t, k_ifE_f, truO_some, ofB_some, ek_truM, k_tru, ek_andT, k_andT_t, k_andT_f, ek_orT, k_orT_t, k_orT_f, ek_notT, k_notT, ek_andE, k_andE_t, k_andE_f, ek_orE, k_orE_t, k_orE_f, ek_notE, k_notE, ek_setM, k_set, ek_parM, k_par, ek_ifS, k_if_t, k_if_f, ek_retM, k_ret, ek_dropM, k_drop, ek_forM, k_for, ek_itM, k_it_l, k_it_t, ek_zipM, k_zip, k_zip2_l, k_zip2_t, ek_someO, k_some, ek_sliceM, k_sl, k_sl2, k_sl3, apS_dat, ek_parGM, k_pg2, k_pg3, ek_parM3, k_p3, ek_lstC, k_lst0, wipeS, i])
  have e2 : lenD [colD c] = some (.int 3) := by
    unfold colD
    rw [lenD_tup, List.length_map, hc]
    rfl
  have e3 : isiD "tuple" (colD c) = some (.bool true) := rfl
  have e4 : c.all (fun _ => false) = false := by
    obtain ⟨x, t, rfl⟩ : ∃ x t, c = x :: t := by
      match c, hc with
      | x :: t, _ => exact ⟨x, t, rfl⟩
    rfl
  rw [b_is_dots]
  simp only [seqO_nx, seqO_rt, seqO_exc, ev_seqM, ev_skipM, ev_cst, ev_vr, ev_aNil, ev_noO, ev_tYesM, List.getElem?_cons_zero, List.getElem?_cons_succ, List.set, Res.bind_ok, bindS_ok, ap2_dat, ap1_dat, apN1, apN2, ofO_some, peek_dat, truD_bool, Bool.not_true, Bool.not_false, ixD_tup, ixD_lst, atI_0, atI_1, toDs_nil, toD_dat, ek_op2, k_op2, k_op2b, ek_op1, k_op1, ek_isiM, ek_opN, k_opN, ek_aCons, k_cons, k_cons2, ek_tupM, ek_lstD, k_tup, k_tup2_0, k_tup2_1, k_tup2_2, k_tup2_3, k_tup2_4, k_tup2_5, k_tup2_6, k_tup2_7, k_tup2_8, k_tup2_9, k_tup2_10, k_tup2_11, k_tup2_12, ek_toDs, k_toDs, k_toDs2, ek_callM, ek_ifE, k_ifE_t, k_ifE_f, truO_some, ofB_some, ek_truM, k_tru, ek_andT, k_andT_t, k_andT_f, ek_orT, k_orT_t, k_orT_f, ek_notT, k_notT, ek_andE, k_andE_t, k_andE_f, ek_orE, k_orE_t, k_orE_f, ek_notE, k_notE, ek_setM, k_set, ek_parM, k_par, ek_ifS, k_if_t, k_if_f, ek_retM, k_ret, ek_dropM, k_drop, ek_forM, k_for, ek_itM, k_it_l, k_it_t, ek_zipM, k_zip, k_zip2_l, k_zip2_t, ek_someO, k_some, ek_sliceM, k_sl, k_sl2, k_sl3, apS_dat, ek_parGM, k_pg2, k_pg3, ek_parM3, k_p3, ek_lstC, k_lst0, e3, e2, eqD_int, decide_true, ↓e1, e4]
/-- dots as a colour -/
def dotC (N : Nat) (c : List Rat) (p : Nat) : List Rat := c.map fun q => ((dotv N q p : Nat) : Rat)
theorem share_run {n : Nat} (h0 : 0 < n) (hn : n < 2 ^ 10) (st : Store) : d_made [.dat (.int 1), .dat (.int n)] st = .ok (.dat (rt (1 / (n : Rat)))) st := by
  have e := made_run (n := 1) (d := (n : Int)) st (one_lt (by decide)) (by omega) (Nat.lt_of_lt_of_le hn (Nat.pow_le_pow_right (by decide) (by decide)))
  rw [Rat.divInt_eq_div] at e
  exact e
theorem dotv_sz (N : Nat) (q : Rat) (p : Nat) : Sz 1 ((dotv N q p : Nat) : Rat) := nat_sz (by have := dotv_le N q p; omega) (by decide)
theorem mean_dots {rows : List (List Nat)} {w N : Nat} {c : List Rat} (h : Scr rows w) (hc : c.length = 3) (st : Store) : d_mean_of [.dat (dotsD N c rows)] st = .ok (.dat (colD (meanC (rows.flatten.map (dotC N c))))) st := by
  refine call_rt rfl ?_
  show b_mean_of [some (.dat (dotsD N c rows)), none, none, none, none, none, none, none] st = _
  have n20 := h.n20
  have fl := h.flen
  have h4 := h.h4
  have f0 : 0 < rows.length * w := Nat.mul_pos h.h0 h.w0
  have e1 : d_are_rows [.dat (dotsD N c rows)] st = .ok (.dat (.bool true)) st := by
    rw [← rowsOk_of h.h0 h.w0 h.wid]
    exact arerows_run (enc := dotD N c) rows (by omega) st
  have e2 := check_run st
  have e3 : lc2M (itM (vr 0)) (bName 4) [4, 5] tYesM (itM (vr 4)) (bName 5) [5] tYesM (vr 5) [some (.dat (dotsD N c rows)), none, none, none, none, none, none, none] st = .ok (.dat (.list (rows.flatten.map (dotD N c)))) st :=
    lc2_flat (rows := rows) rfl (slN _ (by omega)) (by simp) (by simp)
  have e4 : opN allD (aCons (lcM (itM (vr 1)) (bName 5) [5] tYesM (callM d_is_dots (aCons (vr 5) aNil))) aNil) [some (.dat (dotsD N c rows)), some (.dat (.list (rows.flatten.map (dotD N c)))), none, none, none, none, none, none] st = .ok (.dat (.bool true)) st := by
    have k := allLc (lcM_mapN (it := itM (vr 1)) (i := 5) (vs := [5]) (e := callM d_is_dots (aCons (vr 5) aNil)) (s := [some (.dat (dotsD N c rows)), some (.dat (.list (rows.flatten.map (dotD N c)))), none, none, none, none, none, none]) (st := st) (enc := dotD N c) (l := rows.flatten) (fun _ => .bool true) rfl (slN _ (by omega)) fun p _ => by
      have i := isdots_run (N := N) (p := p) hc st
      simp only [seqO_nx, seqO_rt, seqO_exc, ev_seqM, ev_skipM, ev_cst, ev_vr, ev_aNil, ev_noO, ev_tYesM, List.getElem?_cons_zero, List.getElem?_cons_succ, List.set, Res.bind_ok, bindS_ok, ap2_dat, ap1_dat, apN1, apN2, ofO_some, peek_dat, truD_bool, Bool.not_true, Bool.not_false, ixD_tup, ixD_lst, atI_0, atI_1, toDs_nil, toD_dat, ek_op2, k_op2, k_op2b, ek_op1, k_op1, ek_isiM, ek_opN, k_opN, ek_aCons, k_cons, k_cons2, ek_tupM, ek_lstD, k_tup, k_tup2_0, k_tup2_1, k_tup2_2, k_tup2_3, k_tup2_4, k_tup2_5, k_tup2_6, k_tup2_7, k_tup2_8, k_tup2_9, k_tup2_10, k_tup2_11, k_tup2_12, ek_toDs, k_toDs, k_toDs2, ek_callM, ek_ifE, k_ifE_t, k_ifE_f, truO_some, ofB_some, ek_truM, k_tru, ek_andT, k_andT_t, k_andT_f, ek_orT, k_orT_t, k_orT_f, ek_notT, k_notT, ek_andE, k_andE_t, k_andE_f, ek_orE, k_orE_t, k_orE_f, ek_notE, k_notE, ek_setM, k_set, ek_parM, k_par, ek_ifS, k_if_t, k_if_f, ek_retM, k_ret, ek_dropM, k_drop, ek_forM, k_for, ek_itM, k_it_l, k_it_t, ek_zipM, k_zip, k_zip2_l, k_zip2_t, ek_someO, k_some, ek_sliceM, k_sl, k_sl2, k_sl3, apS_dat, ek_parGM, k_pg2, k_pg3, ek_parM3, k_p3, ek_lstC, k_lst0, wipeS, i])
    rw [k]
    simp
  have e5 : lcM (itM (vr 1)) (bName 5) [5] tYesM (opN tupleD (aCons (lcM (itM (vr 5)) (bName 7) [7] tYesM (callM d_made (aCons (vr 7) (aCons (cst (.int 1)) aNil)))) aNil)) [some (.dat (dotsD N c rows)), some (.dat (.list (rows.flatten.map (dotD N c)))), some (.dat (.bool true)), none, none, none, none, none] st = .ok (.dat (.list ((rows.flatten.map (dotC N c)).map colD))) st := by
    rw [List.map_map]
    refine lcM_mapN (enc := dotD N c) (l := rows.flatten) (colD ∘ dotC N c) rfl (slN _ (by omega)) fun p _ => ?_
    show _ = Res.ok (Vl.dat (PyData.tuple ((c.map fun q => ((dotv N q p : Nat) : Rat)).map rt))) st
    rw [List.map_map]
    refine tupLc (lcM_mapN (enc := fun q => nI (dotv N q p)) (l := c) (rt ∘ fun q => ((dotv N q p : Nat) : Rat)) rfl (slN _ (by omega)) fun q _ => ?_)
    have hv := dotv_le N q p
    have m := made_run (n := (dotv N q p : Int)) (d := 1) st (Nat.lt_of_lt_of_le (show ((dotv N q p : Nat) : Int).natAbs < 2 ^ 1 by omega) (Nat.pow_le_pow_right (by decide) (by decide))) (by decide) (one_lt (by decide))
    rw [divInt_one] at m
    simp only [seqO_nx, seqO_rt, seqO_exc, ev_seqM, ev_skipM, ev_cst, ev_vr, ev_aNil, ev_noO, ev_tYesM, List.getElem?_cons_zero, List.getElem?_cons_succ, List.set, Res.bind_ok, bindS_ok, ap2_dat, ap1_dat, apN1, apN2, ofO_some, peek_dat, truD_bool, Bool.not_true, Bool.not_false, ixD_tup, ixD_lst, atI_0, atI_1, toDs_nil, toD_dat, ek_op2, k_op2, k_op2b, ek_op1, k_op1, ek_isiM, ek_opN, k_opN, ek_aCons, k_cons, k_cons2, ek_tupM, ek_lstD, k_tup, k_tup2_0, k_tup2_1, k_tup2_2, k_tup2_3, k_tup2_4, k_tup2_5, k_tup2_6, k_tup2_7, k_tup2_8, k_tup2_9, k_tup2_10, k_tup2_11, k_tup2_12, ek_toDs, k_toDs, k_toDs2, ek_callM, ek_ifE, k_ifE_t, k_ifE_f, truO_some, ofB_some, ek_truM, k_tru, ek_andT, k_andT_t, k_andT_f, ek_orT, k_orT_t, k_orT_f, ek_notT, k_notT, ek_andE, k_andE_t, k_andE_f, ek_orE, k_orE_t, k_orE_f, ek_notE, k_notE, ek_setM, k_set, ek_parM, k_par, ek_ifS, k_if_t, k_if_f, ek_retM, k_ret, ek_dropM, k_drop, ek_forM, k_for, ek_itM, k_it_l, k_it_t, ek_zipM, k_zip, k_zip2_l, k_zip2_t, ek_someO, k_some, ek_sliceM, k_sl, k_sl2, k_sl3, apS_dat, ek_parGM, k_pg2, k_pg3, ek_parM3, k_p3, ek_lstC, k_lst0, wipeS, nI, m]
    rfl
  have hl : (rows.flatten.map (dotC N c)).length = rows.length * w := by rw [List.length_map, fl]
  have e6 := share_run (n := (rows.flatten.map (dotC N c)).length) (by omega) (by omega) st
  have e7 := mean_end (cs := rows.flatten.map (dotC N c)) (s := 1) (fun x hx => by
    obtain ⟨p, _, rfl⟩ := List.mem_map.mp hx
    unfold dotC
    rw [List.length_map, hc]) (fun x hx q hq => by
    obtain ⟨p, _, rfl⟩ := List.mem_map.mp hx
    obtain ⟨z, _, rfl⟩ := List.mem_map.mp hq
    exact dotv_sz N z p) (by omega) (by omega) (by omega) (by decide) (.dat (dotsD N c rows)) (.dat (.bool true)) none none none st
  rw [b_mean_of]
  simp only [seqO_nx, seqO_rt, seqO_exc, ev_seqM, ev_skipM, ev_cst, ev_vr, ev_aNil, ev_noO, ev_tYesM, List.getElem?_cons_zero, List.getElem?_cons_succ, List.set, Res.bind_ok, bindS_ok, ap2_dat, ap1_dat, apN1, apN2, ofO_some, peek_dat, truD_bool, Bool.not_true, Bool.not_false, ixD_tup, ixD_lst, atI_0, atI_1, toDs_nil, toD_dat, ek_op2, k_op2, k_op2b, ek_op1, k_op1, ek_isiM, ek_opN, k_opN, ek_aCons, k_cons, k_cons2, ek_tupM, ek_lstD, k_tup, k_tup2_0, k_tup2_1, k_tup2_2, k_tup2_3, k_tup2_4, k_tup2_5, k_tup2_6, k_tup2_7, k_tup2_8, k_tup2_9, k_tup2_10, k_tup2_11, k_tup2_12, ek_toDs, k_toDs, k_toDs2, ek_callM, ek_ifE, k_ifE_t, k_ifE_f, truO_some, ofB_some, ek_truM, k_tru, ek_andT, k_andT_t, k_andT_f, ek_orT, k_orT_t, k_orT_f, ek_notT, k_notT, ek_andE, k_andE_t, k_andE_f, ek_orE, k_orE_t, k_orE_f, ek_notE, k_notE, ek_setM, k_set, ek_parM, k_par, ek_ifS, k_if_t, k_if_f, ek_retM, k_ret, ek_dropM, k_drop, ek_forM, k_for, ek_itM, k_it_l, k_it_t, ek_zipM, k_zip, k_zip2_l, k_zip2_t, ek_someO, k_some, ek_sliceM, k_sl, k_sl2, k_sl3, apS_dat, ek_parGM, k_pg2, k_pg3, ek_parM3, k_p3, ek_lstC, k_lst0, e1, e2, ↓e3, ↓e4, ↓e5, lenD_lst, List.length_map, ← fl]
  simp only [seqO_nx, seqO_rt, seqO_exc, ev_seqM, ev_skipM, ev_cst, ev_vr, ev_aNil, ev_noO, ev_tYesM, List.getElem?_cons_zero, List.getElem?_cons_succ, List.set, Res.bind_ok, bindS_ok, ap2_dat, ap1_dat, apN1, apN2, ofO_some, peek_dat, truD_bool, Bool.not_true, Bool.not_false, ixD_tup, ixD_lst, atI_0, atI_1, toDs_nil, toD_dat, ek_op2, k_op2, k_op2b, ek_op1, k_op1, ek_isiM, ek_opN, k_opN, ek_aCons, k_cons, k_cons2, ek_tupM, ek_lstD, k_tup, k_tup2_0, k_tup2_1, k_tup2_2, k_tup2_3, k_tup2_4, k_tup2_5, k_tup2_6, k_tup2_7, k_tup2_8, k_tup2_9, k_tup2_10, k_tup2_11, k_tup2_12, ek_toDs, k_toDs, k_toDs2, ek_callM, ek_ifE, k_ifE_t, k_ifE_f, truO_some, ofB_some, ek_truM, k_tru, ek_andT, k_andT_t, k_andT_f, ek_orT, k_orT_t, k_orT_f, ek_notT, k_notT, ek_andE, k_andE_t, k_andE_f, ek_orE, k_orE_t, k_orE_f, ek_notE, k_notE, ek_setM, k_set, ek_parM, k_par, ek_ifS, k_if_t, k_if_f, ek_retM, k_ret, ek_dropM, k_drop, ek_forM, k_for, ek_itM, k_it_l, k_it_t, ek_zipM, k_zip, k_zip2_l, k_zip2_t, ek_someO, k_some, ek_sliceM, k_sl, k_sl2, k_sl3, apS_dat, ek_parGM, k_pg2, k_pg3, ek_parM3, k_p3, ek_lstC, k_lst0, List.length_map] at e6 e7
  simp only [seqO_nx, seqO_rt, seqO_exc, ev_seqM, ev_skipM, ev_cst, ev_vr, ev_aNil, ev_noO, ev_tYesM, List.getElem?_cons_zero, List.getElem?_cons_succ, List.set, Res.bind_ok, bindS_ok, ap2_dat, ap1_dat, apN1, apN2, ofO_some, peek_dat, truD_bool, Bool.not_true, Bool.not_false, ixD_tup, ixD_lst, atI_0, atI_1, toDs_nil, toD_dat, ek_op2, k_op2, k_op2b, ek_op1, k_op1, ek_isiM, ek_opN, k_opN, ek_aCons, k_cons, k_cons2, ek_tupM, ek_lstD, k_tup, k_tup2_0, k_tup2_1, k_tup2_2, k_tup2_3, k_tup2_4, k_tup2_5, k_tup2_6, k_tup2_7, k_tup2_8, k_tup2_9, k_tup2_10, k_tup2_11, k_tup2_12, ek_toDs, k_toDs, k_toDs2, ek_callM, ek_ifE, k_ifE_t, k_ifE_f, truO_some, ofB_some, ek_truM, k_tru, ek_andT, k_andT_t, k_andT_f, ek_orT, k_orT_t, k_orT_f, ek_notT, k_notT, ek_andE, k_andE_t, k_andE_f, ek_orE, k_orE_t, k_orE_f, ek_notE, k_notE, ek_setM, k_set, ek_parM, k_par, ek_ifS, k_if_t, k_if_f, ek_retM, k_ret, ek_dropM, k_drop, ek_forM, k_for, ek_itM, k_it_l, k_it_t, ek_zipM, k_zip, k_zip2_l, k_zip2_t, ek_someO, k_some, ek_sliceM, k_sl, k_sl2, k_sl3, apS_dat, ek_parGM, k_pg2, k_pg3, ek_parM3, k_p3, ek_lstC, k_lst0, e6, ↓e7]
theorem mean_cols {rows : List (List (List Rat))} {w s : Nat} (h0 : 0 < rows.length) (w0 : 0 < w) (hw : ∀ r ∈ rows, r.length = w) (hn : rows.length * w < 100) (hr : rows.length < 100) (h3 : ∀ c ∈ rows.flatten, c.length = 3) (hs : ∀ c ∈ rows.flatten, ∀ q ∈ c, Sz s q) (hb : 1 + rows.length * w * (s + 1) ≤ 150) (hs2 : s ≤ 150) (st : Store) :
    d_mean_of [.dat (.tuple (rows.map fun r => .tuple (r.map colD)))] st = .ok (.dat (colD (meanC rows.flatten))) st := by
  refine call_rt rfl ?_
  obtain ⟨V, hV⟩ : ∃ V : D, V = .tuple (rows.map fun r => .tuple (r.map colD)) := ⟨_, rfl⟩
  rw [← hV]
  show b_mean_of [some (.dat V), none, none, none, none, none, none, none] st = _
  have fl := flat_len hw
  have f0 : 0 < rows.length * w := Nat.mul_pos h0 w0
  have e1 : d_are_rows [.dat V] st = .ok (.dat (.bool true)) st := by
    rw [← rowsOk_of h0 w0 hw, hV]
    exact arerows_run (enc := colD) rows (by omega) st
  have e2 := check_run st
  have e3 : lc2M (itM (vr 0)) (bName 4) [4, 5] tYesM (itM (vr 4)) (bName 5) [5] tYesM (vr 5) [some (.dat V), none, none, none, none, none, none, none] st = .ok (.dat (.list (rows.flatten.map colD))) st :=
    lc2_flat (rows := rows) (by rw [hV]; rfl) (slN _ (by omega)) (by simp) (by simp)
  have e4 : opN allD (aCons (lcM (itM (vr 1)) (bName 5) [5] tYesM (callM d_is_dots (aCons (vr 5) aNil))) aNil) [some (.dat V), some (.dat (.list (rows.flatten.map colD))), none, none, none, none, none, none] st = .ok (.dat (.bool false)) st := by
    have k := allLc (lcM_mapN (it := itM (vr 1)) (i := 5) (vs := [5]) (e := callM d_is_dots (aCons (vr 5) aNil)) (s := [some (.dat V), some (.dat (.list (rows.flatten.map colD))), none, none, none, none, none, none]) (st := st) (enc := colD) (l := rows.flatten) (fun _ => .bool false) rfl (slN _ (by omega)) fun c hc => by
      have i := isdots_col (h3 c hc) st
      simp only [seqO_nx, seqO_rt, seqO_exc, ev_seqM, ev_skipM, ev_cst, ev_vr, ev_aNil, ev_noO, ev_tYesM, List.getElem?_cons_zero, List.getElem?_cons_succ, List.set, Res.bind_ok, bindS_ok, ap2_dat, ap1_dat, apN1, apN2, ofO_some, peek_dat, truD_bool, Bool.not_true, Bool.not_false, ixD_tup, ixD_lst, atI_0, atI_1, toDs_nil, toD_dat, ek_op2, k_op2, k_op2b, ek_op1, k_op1, ek_isiM, ek_opN, k_opN, ek_aCons, k_cons, k_cons2, ek_tupM, ek_lstD, k_tup, k_tup2_0, k_tup2_1, k_tup2_2, k_tup2_3, k_tup2_4, k_tup2_5, k_tup2_6, k_tup2_7, k_tup2_8, k_tup2_9, k_tup2_10, k_tup2_11, k_tup2_12, ek_toDs, k_toDs, k_toDs2, ek_callM, ek_ifE, k_ifE_t, k_ifE_f, truO_some, ofB_some, ek_truM, k_tru, ek_andT, k_andT_t, k_andT_f, ek_orT, k_orT_t, k_orT_f, ek_notT, k_notT, ek_andE, k_andE_t, k_andE_f, ek_orE, k_orE_t, k_orE_f, ek_notE, k_notE, ek_setM, k_set, ek_parM, k_par, ek_ifS, k_if_t, k_if_f, ek_retM, k_ret, ek_dropM, k_drop, ek_forM, k_for, ek_itM, k_it_l, k_it_t, ek_zipM, k_zip, k_zip2_l, k_zip2_t, ek_someO, k_some, ek_sliceM, k_sl, k_sl2, k_sl3, apS_dat, ek_parGM, k_pg2, k_pg3, ek_parM3, k_p3, ek_lstC, k_lst0, wipeS, i])
    rw [k]
    obtain ⟨x, t, e⟩ : ∃ x t, rows.flatten = x :: t := by
      match hf : rows.flatten with
      | [] => rw [hf] at fl; simp at fl; omega
      | x :: t => exact ⟨x, t, rfl⟩
    rw [e]
    rfl
  have e5 : opN allD (aCons (lcM (itM (vr 1)) (bName 5) [5] tYesM (callM d_is_colour (aCons (vr 5) aNil))) aNil) [some (.dat V), some (.dat (.list (rows.flatten.map colD))), some (.dat (.bool false)), none, none, none, none, none] st = .ok (.dat (.bool true)) st := by
    have k := allLc (lcM_mapN (it := itM (vr 1)) (i := 5) (vs := [5]) (e := callM d_is_colour (aCons (vr 5) aNil)) (s := [some (.dat V), some (.dat (.list (rows.flatten.map colD))), some (.dat (.bool false)), none, none, none, none, none]) (st := st) (enc := colD) (l := rows.flatten) (fun _ => .bool true) rfl (slN _ (by omega)) fun c hc => by
      have i := iscolour_run (h3 c hc) st
      simp only [seqO_nx, seqO_rt, seqO_exc, ev_seqM, ev_skipM, ev_cst, ev_vr, ev_aNil, ev_noO, ev_tYesM, List.getElem?_cons_zero, List.getElem?_cons_succ, List.set, Res.bind_ok, bindS_ok, ap2_dat, ap1_dat, apN1, apN2, ofO_some, peek_dat, truD_bool, Bool.not_true, Bool.not_false, ixD_tup, ixD_lst, atI_0, atI_1, toDs_nil, toD_dat, ek_op2, k_op2, k_op2b, ek_op1, k_op1, ek_isiM, ek_opN, k_opN, ek_aCons, k_cons, k_cons2, ek_tupM, ek_lstD, k_tup, k_tup2_0, k_tup2_1, k_tup2_2, k_tup2_3, k_tup2_4, k_tup2_5, k_tup2_6, k_tup2_7, k_tup2_8, k_tup2_9, k_tup2_10, k_tup2_11, k_tup2_12, ek_toDs, k_toDs, k_toDs2, ek_callM, ek_ifE, k_ifE_t, k_ifE_f, truO_some, ofB_some, ek_truM, k_tru, ek_andT, k_andT_t, k_andT_f, ek_orT, k_orT_t, k_orT_f, ek_notT, k_notT, ek_andE, k_andE_t, k_andE_f, ek_orE, k_orE_t, k_orE_f, ek_notE, k_notE, ek_setM, k_set, ek_parM, k_par, ek_ifS, k_if_t, k_if_f, ek_retM, k_ret, ek_dropM, k_drop, ek_forM, k_for, ek_itM, k_it_l, k_it_t, ek_zipM, k_zip, k_zip2_l, k_zip2_t, ek_someO, k_some, ek_sliceM, k_sl, k_sl2, k_sl3, apS_dat, ek_parGM, k_pg2, k_pg3, ek_parM3, k_p3, ek_lstC, k_lst0, wipeS, i])
    rw [k]
    simp
  have e6 := share_run (n := rows.flatten.length) (by omega) (by omega) st
  have e7 := mean_end (cs := rows.flatten) (s := s) h3 hs (by omega) (by omega) (by rw [fl]; exact hb) hs2 (.dat V) (.dat (.bool false)) none none none st
  rw [b_mean_of]
  simp only [seqO_nx, seqO_rt, seqO_exc, ev_seqM, ev_skipM, ev_cst, ev_vr, ev_aNil, ev_noO, ev_tYesM, List.getElem?_cons_zero, List.getElem?_cons_succ, List.set, Res.bind_ok, bindS_ok, ap2_dat, ap1_dat, apN1, apN2, ofO_some, peek_dat, truD_bool, Bool.not_true, Bool.not_false, ixD_tup, ixD_lst, atI_0, atI_1, toDs_nil, toD_dat, ek_op2, k_op2, k_op2b, ek_op1, k_op1, ek_isiM, ek_opN, k_opN, ek_aCons, k_cons, k_cons2, ek_tupM, ek_lstD, k_tup, k_tup2_0, k_tup2_1, k_tup2_2, k_tup2_3, k_tup2_4, k_tup2_5, k_tup2_6, k_tup2_7, k_tup2_8, k_tup2_9, k_tup2_10, k_tup2_11, k_tup2_12, ek_toDs, k_toDs, k_toDs2, ek_callM, ek_ifE, k_ifE_t, k_ifE_f, truO_some, ofB_some, ek_truM, k_tru, ek_andT, k_andT_t, k_andT_f, ek_orT, k_orT_t, k_orT_f, ek_notT, k_notT, ek_andE, k_andE_t, k_andE_f, ek_orE, k_orE_t, k_orE_f, ek_notE, k_notE, ek_setM, k_set, ek_parM, k_par, ek_ifS, k_if_t, k_if_f, ek_retM, k_ret, ek_dropM, k_drop, ek_forM, k_for, ek_itM, k_it_l, k_it_t, ek_zipM, k_zip, k_zip2_l, k_zip2_t, ek_someO, k_some, ek_sliceM, k_sl, k_sl2, k_sl3, apS_dat, ek_parGM, k_pg2, k_pg3, ek_parM3, k_p3, ek_lstC, k_lst0, e1, e2, ↓e3, ↓e4, ↓e5, lenD_lst, List.length_map, e6, ↓e7]
/-! the law's own -/
theorem unLists_map {α : Type} {enc : α → D} : ∀ rows : List (List α), unLists (rows.map fun r => .list (r.map enc)) = some (rows.map fun r => r.map enc)
  | [] => rfl
  | r :: rows => by
    rw [List.map_cons, unLists, unLists_map rows]
    rfl
noncomputable abbrev lm_loop : SM := (seqM (setM 4 (lcM (itM (vr 1)) (bName 6) [6] tYesM (ifE (truM (isiM "tuple" (op2 ixD (vr 6) (vr 3)))) (op2 ixD (vr 6) (vr 3)) (tupM (aCons (op2 ixD (vr 6) (vr 3)) (aCons (cst (.int 1)) aNil))))))
        (dropM (appM (vr 2) (callM d_u_law_mul (aCons (callM d_u_law_sum (aCons (vr 4) aNil)) (aCons (tupM (aCons (cst (.int 1)) (aCons (opN lenD (aCons (vr 1) aNil)) aNil))) aNil))))))
theorem lmean_run {α : Type} {enc : α → D} {cl : α → List Rat} {rows : List (List α)} {w s : Nat} (h0 : 0 < rows.length) (w0 : 0 < w) (hw : ∀ r ∈ rows, r.length = w) (hn : rows.length * w < 100) (hr : rows.length < 100) (h3 : ∀ x ∈ rows.flatten, (cl x).length = 3) (hs : ∀ x ∈ rows.flatten, ∀ q ∈ cl x, Sz s q) (hb : 1 + rows.length * w * (s + 1) ≤ 150) (hs2 : s ≤ 150)
    (hx : ∀ x ∈ rows.flatten, ∀ k, k < 3 → ∃ d, ixD (enc x) (.int (k : Nat)) = some d ∧ ((isiD "tuple" d = some (.bool true) ∧ d = rt ((cl x).getD k 0)) ∨ (isiD "tuple" d = some (.bool false) ∧ PyData.tuple [d, .int 1] = rt ((cl x).getD k 0)))) (st : Store) :
    d_u_law_mean [.dat (.tuple (rows.map fun r => .tuple (r.map enc)))] st = .ok (.dat (colD (meanC (rows.flatten.map cl)))) st := by
  obtain ⟨V, hV⟩ : ∃ V : D, V = .tuple (rows.map fun r => .tuple (r.map enc)) := ⟨_, rfl⟩
  rw [← hV]
  have fl := flat_len hw
  have f0 : 0 < rows.length * w := Nat.mul_pos h0 w0
  have e1 : lcM (itM (vr 0)) (bName 5) [5] tYesM (opN listD (aCons (vr 5) aNil)) [some (.dat V), none, none, none, none, none, none, none] st = .ok (.dat (.list (rows.map fun r => .list (r.map enc)))) st :=
    lcM_mapN (enc := fun r : List α => .tuple (r.map enc)) (l := rows) (fun r => .list (r.map enc)) (by rw [hV]; rfl) (slN _ (by omega)) fun r _ => by
      have : ∀ ds : List D, listD [.tuple ds] = some (.list ds) := fun _ => rfl
      simp only [seqO_nx, seqO_rt, seqO_exc, ev_seqM, ev_skipM, ev_cst, ev_vr, ev_aNil, ev_noO, ev_tYesM, List.getElem?_cons_zero, List.getElem?_cons_succ, List.set, Res.bind_ok, bindS_ok, ap2_dat, ap1_dat, apN1, apN2, ofO_some, peek_dat, truD_bool, Bool.not_true, Bool.not_false, ixD_tup, ixD_lst, atI_0, atI_1, toDs_nil, toD_dat, ek_op2, k_op2, k_op2b, ek_op1, k_op1, ek_isiM, ek_opN, k_opN, ek_aCons, k_cons, k_cons2, ek_tupM, ek_lstD, k_tup, k_tup2_0, k_tup2_1, k_tup2_2, k_tup2_3, k_tup2_4, k_tup2_5, k_tup2_6, k_tup2_7, k_tup2_8, k_tup2_9, k_tup2_10, k_tup2_11, k_tup2_12, ek_toDs, k_toDs, k_toDs2, ek_callM, ek_ifE, k_ifE_t, k_ifE_f, truO_some, ofB_some, ek_truM, k_tru, ek_andT, k_andT_t, k_andT_f, ek_orT, k_orT_t, k_orT_f, ek_notT, k_notT, ek_andE, k_andE_t, k_andE_f, ek_orE, k_orE_t, k_orE_f, ek_notE, k_notE, ek_setM, k_set, ek_parM, k_par, ek_ifS, k_if_t, k_if_f, ek_retM, k_ret, ek_dropM, k_drop, ek_forM, k_for, ek_itM, k_it_l, k_it_t, ek_zipM, k_zip, k_zip2_l, k_zip2_t, ek_someO, k_some, ek_sliceM, k_sl, k_sl2, k_sl3, apS_dat, ek_parGM, k_pg2, k_pg3, ek_parM3, k_p3, ek_lstC, k_lst0, wipeS, this]
  have e2 : sumLD [.list (rows.map fun r => .list (r.map enc)), .list []] = some (.list (rows.flatten.map enc)) := by
    show (unLists _).bind _ = _
    rw [unLists_map, Option.bind_some, ← List.map_flatten, if_pos ⟨by intro z; rw [List.map_eq_nil_iff] at z; rw [z] at h0; simp at h0, by rw [List.length_map, fl]; exact slN _ (by simp; omega)⟩]
    rfl
  have hl : (rows.flatten.map cl).length = rows.length * w := by rw [List.length_map, fl]
  have h3' : ∀ c ∈ rows.flatten.map cl, c.length = 3 := fun c hc => by
    obtain ⟨x, hx, rfl⟩ := List.mem_map.mp hc
    exact h3 x hx
  have hs' : ∀ c ∈ rows.flatten.map cl, ∀ q ∈ c, Sz s q := fun c hc => by
    obtain ⟨x, hx, rfl⟩ := List.mem_map.mp hc
    exact hs x hx
  obtain ⟨N, hN⟩ : ∃ N, N = rows.flatten.length := ⟨_, rfl⟩
  have zk : ∀ k, k < 3 → Sz 150 (sumR ((rows.flatten.map cl).map fun c => c.getD k 0)) ∧ ∀ st, d_u_law_sum [.dat (.list (((rows.flatten.map cl).map fun c => c.getD k 0).map rt))] st = .ok (.dat (rt (sumR ((rows.flatten.map cl).map fun c => c.getD k 0)))) st := fun k hk => by
    have z := fun st => lsum_run s (colget h3' hs' hk) (by rw [List.length_map, hl]; omega) (by omega) st
    exact ⟨((z []).2).mono (by rw [List.length_map, hl]; omega), fun st => (z st).1⟩
  have so : Sz 10 (1 / ((rows.flatten.map cl).length : Rat)) := over_sz (by omega) (by omega) (by decide)
  have ro := rt_over (k := (rows.flatten.map cl).length) (by omega)
  obtain ⟨s', e5, ⟨o3, o4, rfl⟩⟩ := loop_app (enc := fun k : Nat => PyData.int k) (fun k : Nat => rt (sumR ((rows.flatten.map cl).map fun c => c.getD k 0) * (1 / ((rows.flatten.map cl).length : Rat)))) (g := tgM (bName 3) lm_loop)
    (fun s => ∃ o3 o4, s = [some (.dat V), some (.dat (.list (rows.flatten.map enc))), some (.cel st.length), o3, o4, none, none, none]) st (List.range 3) [] [some (.dat V), some (.dat (.list (rows.flatten.map enc))), some (.cel st.length), none, none, none, none, none] ⟨none, none, rfl⟩ (by
      rintro k hk acc s ⟨o3, o4, rfl⟩ ha
      have hk3 : k < 3 := List.mem_range.mp hk
      refine ⟨[some (.dat V), some (.dat (.list (rows.flatten.map enc))), some (.cel st.length), some (.dat (.int k)), some (.dat (.list (((rows.flatten.map cl).map fun c => c.getD k 0).map rt))), none, none, none], ?_, ⟨_, _, rfl⟩⟩
      rw [ev_tgM, ev_bName, optO_some]
      show lm_loop [some (.dat V), some (.dat (.list (rows.flatten.map enc))), some (.cel st.length), some (.dat (.int k)), o4, none, none, none] _ = _
      have f1 : lcM (itM (vr 1)) (bName 6) [6] tYesM (ifE (truM (isiM "tuple" (op2 ixD (vr 6) (vr 3)))) (op2 ixD (vr 6) (vr 3)) (tupM (aCons (op2 ixD (vr 6) (vr 3)) (aCons (cst (.int 1)) aNil)))) [some (.dat V), some (.dat (.list (rows.flatten.map enc))), some (.cel st.length), some (.dat (.int k)), o4, none, none, none] (st ++ [cD acc]) = .ok (.dat (.list (((rows.flatten.map cl).map fun c => c.getD k 0).map rt))) (st ++ [cD acc]) := by
        rw [show ((rows.flatten.map cl).map fun c => c.getD k 0).map rt = rows.flatten.map fun x => rt ((cl x).getD k 0) from by rw [List.map_map, List.map_map]; rfl]
        refine lcM_mapN (enc := enc) (l := rows.flatten) (fun x => rt ((cl x).getD k 0)) rfl (slN _ (by omega)) fun x hxm => ?_
        obtain ⟨d, d1, d2⟩ := hx x hxm k hk3
        rcases d2 with ⟨d2, d3⟩ | ⟨d2, d3⟩
        · simp only [seqO_nx, seqO_rt, seqO_exc, ev_seqM, ev_skipM, ev_cst, ev_vr, ev_aNil, ev_noO, ev_tYesM, List.getElem?_cons_zero, List.getElem?_cons_succ, List.set, Res.bind_ok, bindS_ok, ap2_dat, ap1_dat, apN1, apN2, ofO_some, peek_dat, truD_bool, Bool.not_true, Bool.not_false, ixD_tup, ixD_lst, atI_0, atI_1, toDs_nil, toD_dat, ek_op2, k_op2, k_op2b, ek_op1, k_op1, ek_isiM, ek_opN, k_opN, ek_aCons, k_cons, k_cons2, ek_tupM, ek_lstD, k_tup, k_tup2_0, k_tup2_1, k_tup2_2, k_tup2_3, k_tup2_4, k_tup2_5, k_tup2_6, k_tup2_7, k_tup2_8, k_tup2_9, k_tup2_10, k_tup2_11, k_tup2_12, ek_toDs, k_toDs, k_toDs2, ek_callM, ek_ifE, k_ifE_t, k_ifE_f, truO_some, ofB_some, ek_truM, k_tru, ek_andT, k_andT_t, k_andT_f, ek_orT, k_orT_t, k_orT_f, ek_notT, k_notT, ek_andE, k_andE_t, k_andE_f, ek_orE, k_orE_t, k_orE_f, ek_notE, k_notE, ek_setM, k_set, ek_parM, k_par, ek_ifS, k_if_t, k_if_f, ek_retM, k_ret, ek_dropM, k_drop, ek_forM, k_for, ek_itM, k_it_l, k_it_t, ek_zipM, k_zip, k_zip2_l, k_zip2_t, ek_someO, k_some, ek_sliceM, k_sl, k_sl2, k_sl3, apS_dat, ek_parGM, k_pg2, k_pg3, ek_parM3, k_p3, ek_lstC, k_lst0, wipeS, d1, d2]
          rw [d3]
        · simp only [seqO_nx, seqO_rt, seqO_exc, ev_seqM, ev_skipM, ev_cst, ev_vr, ev_aNil, ev_noO, ev_tYesM, List.getElem?_cons_zero, List.getElem?_cons_succ, List.set, Res.bind_ok, bindS_ok, ap2_dat, ap1_dat, apN1, apN2, ofO_some, peek_dat, truD_bool, Bool.not_true, Bool.not_false, ixD_tup, ixD_lst, atI_0, atI_1, toDs_nil, toD_dat, ek_op2, k_op2, k_op2b, ek_op1, k_op1, ek_isiM, ek_opN, k_opN, ek_aCons, k_cons, k_cons2, ek_tupM, ek_lstD, k_tup, k_tup2_0, k_tup2_1, k_tup2_2, k_tup2_3, k_tup2_4, k_tup2_5, k_tup2_6, k_tup2_7, k_tup2_8, k_tup2_9, k_tup2_10, k_tup2_11, k_tup2_12, ek_toDs, k_toDs, k_toDs2, ek_callM, ek_ifE, k_ifE_t, k_ifE_f, truO_some, ofB_some, ek_truM, k_tru, ek_andT, k_andT_t, k_andT_f, ek_orT, k_orT_t, k_orT_f, ek_notT, k_notT, ek_andE, k_andE_t, k_andE_f, ek_orE, k_orE_t, k_orE_f, ek_notE, k_notE, ek_setM, k_set, ek_parM, k_par, ek_ifS, k_if_t, k_if_f, ek_retM, k_ret, ek_dropM, k_drop, ek_forM, k_for, ek_itM, k_it_l, k_it_t, ek_zipM, k_zip, k_zip2_l, k_zip2_t, ek_someO, k_some, ek_sliceM, k_sl, k_sl2, k_sl3, apS_dat, ek_parGM, k_pg2, k_pg3, ek_parM3, k_p3, ek_lstC, k_lst0, wipeS, d1, d2]
          rw [d3]
      obtain ⟨z1, z2⟩ := zk k hk3
      have f2 := z2 (st ++ [cD acc])
      have f3 := lmul_run (st ++ [cD acc]) (z1.mono (by decide : 150 ≤ 190)) (so.mono (by decide : 10 ≤ 190))
      rw [ro] at f3
      rw [lm_loop, ev_seqM, ev_setM, f1, bindS_ok, seqO_nx]
      refine app_end_go rfl ?_ ha
      rw [List.length_map] at f3
      simp only [seqO_nx, seqO_rt, seqO_exc, ev_seqM, ev_skipM, ev_cst, ev_vr, ev_aNil, ev_noO, ev_tYesM, List.getElem?_cons_zero, List.getElem?_cons_succ, List.set, Res.bind_ok, bindS_ok, ap2_dat, ap1_dat, apN1, apN2, ofO_some, peek_dat, truD_bool, Bool.not_true, Bool.not_false, ixD_tup, ixD_lst, atI_0, atI_1, toDs_nil, toD_dat, ek_op2, k_op2, k_op2b, ek_op1, k_op1, ek_isiM, ek_opN, k_opN, ek_aCons, k_cons, k_cons2, ek_tupM, ek_lstD, k_tup, k_tup2_0, k_tup2_1, k_tup2_2, k_tup2_3, k_tup2_4, k_tup2_5, k_tup2_6, k_tup2_7, k_tup2_8, k_tup2_9, k_tup2_10, k_tup2_11, k_tup2_12, ek_toDs, k_toDs, k_toDs2, ek_callM, ek_ifE, k_ifE_t, k_ifE_f, truO_some, ofB_some, ek_truM, k_tru, ek_andT, k_andT_t, k_andT_f, ek_orT, k_orT_t, k_orT_f, ek_notT, k_notT, ek_andE, k_andE_t, k_andE_f, ek_orE, k_orE_t, k_orE_f, ek_notE, k_notE, ek_setM, k_set, ek_parM, k_par, ek_ifS, k_if_t, k_if_f, ek_retM, k_ret, ek_dropM, k_drop, ek_forM, k_for, ek_itM, k_it_l, k_it_t, ek_zipM, k_zip, k_zip2_l, k_zip2_t, ek_someO, k_some, ek_sliceM, k_sl, k_sl2, k_sl3, apS_dat, ek_parGM, k_pg2, k_pg3, ek_parM3, k_p3, ek_lstC, k_lst0, f2, lenD_lst, List.length_map, f3]) (by simp)
  have so3 : ∀ k, k < 3 → Sz 160 (sumR ((rows.flatten.map cl).map fun c => c.getD k 0) * (1 / ((rows.flatten.map cl).length : Rat))) := fun k hk => mul_sz (zk k hk).1 so
  have e6 : ∀ s st, rng1M (aCons (cst (.int 3)) aNil) s st = .ok ((List.range 3).map fun k : Nat => PyData.int k) st := fun s st => run_rngN rfl (by decide)
  rw [List.nil_append] at e5
  obtain ⟨g, hg⟩ : ∃ g : Nat → Rat, g = fun k : Nat => sumR ((rows.flatten.map cl).map fun c => c.getD k 0) * (1 / ((rows.flatten.map cl).length : Rat)) := ⟨_, rfl⟩
  have gz : ∀ k, k < 3 → Sz 160 (g k) := fun k hk => by rw [hg]; exact so3 k hk
  have gm : meanC (rows.flatten.map cl) = (List.range 3).map g := by rw [hg]; rfl
  have gl : ((List.range 3).map fun k : Nat => rt (sumR ((rows.flatten.map cl).map fun c => c.getD k 0) * (1 / ((rows.flatten.map cl).length : Rat)))) = ((List.range 3).map g).map rt := by rw [hg, List.map_map]; rfl
  rw [gl] at e5
  have e7 : lcM (itM (vr 2)) (bName 7) [7] tYesM (callM d_u_law_r (aCons (op2 ixD (vr 7) (cst (.int 0))) (aCons (op2 ixD (vr 7) (cst (.int 1))) aNil))) [some (.dat V), some (.dat (.list (rows.flatten.map enc))), some (.cel st.length), o3, o4, none, none, none] (st ++ [cD (((List.range 3).map g).map rt)]) = .ok (.dat (.list (((List.range 3).map g).map rt))) (st ++ [.frz (.list (((List.range 3).map g).map rt))]) := by
    refine lcM_mapS (enc := rt) (l := (List.range 3).map g) rt (itM_end rfl) (slN _ (by simp)) fun q hq => ?_
    obtain ⟨k, hk, rfl⟩ := List.mem_map.mp hq
    have z := gz k (List.mem_range.mp hk)
    have e := rr_run (n := (g k).num) (d := ((g k).den : Int)) (st ++ [.frz (.list (((List.range 3).map g).map rt))]) (Nat.lt_of_lt_of_le z.1 (Nat.pow_le_pow_right (by decide) (by decide))) (den_ne _) (Nat.lt_of_lt_of_le z.2 (Nat.pow_le_pow_right (by decide) (by decide)))
    rw [Rat.num_divInt_den] at e
    have x0 : ixD (rt (g k)) (.int 0) = some (.int (g k).num) := rfl
    have x1 : ixD (rt (g k)) (.int 1) = some (.int ((g k).den : Int)) := rfl
    simp only [seqO_nx, seqO_rt, seqO_exc, ev_seqM, ev_skipM, ev_cst, ev_vr, ev_aNil, ev_noO, ev_tYesM, List.getElem?_cons_zero, List.getElem?_cons_succ, List.set, Res.bind_ok, bindS_ok, ap2_dat, ap1_dat, apN1, apN2, ofO_some, peek_dat, truD_bool, Bool.not_true, Bool.not_false, ixD_tup, ixD_lst, atI_0, atI_1, toDs_nil, toD_dat, ek_op2, k_op2, k_op2b, ek_op1, k_op1, ek_isiM, ek_opN, k_opN, ek_aCons, k_cons, k_cons2, ek_tupM, ek_lstD, k_tup, k_tup2_0, k_tup2_1, k_tup2_2, k_tup2_3, k_tup2_4, k_tup2_5, k_tup2_6, k_tup2_7, k_tup2_8, k_tup2_9, k_tup2_10, k_tup2_11, k_tup2_12, ek_toDs, k_toDs, k_toDs2, ek_callM, ek_ifE, k_ifE_t, k_ifE_f, truO_some, ofB_some, ek_truM, k_tru, ek_andT, k_andT_t, k_andT_f, ek_orT, k_orT_t, k_orT_f, ek_notT, k_notT, ek_andE, k_andE_t, k_andE_f, ek_orE, k_orE_t, k_orE_f, ek_notE, k_notE, ek_setM, k_set, ek_parM, k_par, ek_ifS, k_if_t, k_if_f, ek_retM, k_ret, ek_dropM, k_drop, ek_forM, k_for, ek_itM, k_it_l, k_it_t, ek_zipM, k_zip, k_zip2_l, k_zip2_t, ek_someO, k_some, ek_sliceM, k_sl, k_sl2, k_sl3, apS_dat, ek_parGM, k_pg2, k_pg3, ek_parM3, k_p3, ek_lstC, k_lst0, wipeS, x0, x1, e]
  refine call_rtN (st' := [.frz (.list (((List.range 3).map g).map rt))]) rfl ?_
  show b_u_law_mean [some (.dat V), none, none, none, none, none, none, none] st = _
  rw [b_u_law_mean, gm]
  simp only [seqO_nx, seqO_rt, seqO_exc, ev_seqM, ev_skipM, ev_cst, ev_vr, ev_aNil, ev_noO, ev_tYesM, List.getElem?_cons_zero, List.getElem?_cons_succ, List.set, Res.bind_ok, bindS_ok, ap2_dat, ap1_dat, apN1, apN2, ofO_some, peek_dat, truD_bool, Bool.not_true, Bool.not_false, ixD_tup, ixD_lst, atI_0, atI_1, toDs_nil, toD_dat, ek_op2, k_op2, k_op2b, ek_op1, k_op1, ek_isiM, ek_opN, k_opN, ek_aCons, k_cons, k_cons2, ek_tupM, ek_lstD, k_tup, k_tup2_0, k_tup2_1, k_tup2_2, k_tup2_3, k_tup2_4, k_tup2_5, k_tup2_6, k_tup2_7, k_tup2_8, k_tup2_9, k_tup2_10, k_tup2_11, k_tup2_12, ek_toDs, k_toDs, k_toDs2, ek_callM, ek_ifE, k_ifE_t, k_ifE_f, truO_some, ofB_some, ek_truM, k_tru, ek_andT, k_andT_t, k_andT_f, ek_orT, k_orT_t, k_orT_f, ek_notT, k_notT, ek_andE, k_andE_t, k_andE_f, ek_orE, k_orE_t, k_orE_f, ek_notE, k_notE, ek_setM, k_set, ek_parM, k_par, ek_ifS, k_if_t, k_if_f, ek_retM, k_ret, ek_dropM, k_drop, ek_forM, k_for, ek_itM, k_it_l, k_it_t, ek_zipM, k_zip, k_zip2_l, k_zip2_t, ek_someO, k_some, ek_sliceM, k_sl, k_sl2, k_sl3, apS_dat, ek_parGM, k_pg2, k_pg3, ek_parM3, k_p3, ek_lstC, k_lst0, ↓e1, e2, e6, e5, ↓e7, tupleD_list]
  rfl
end K27

set_option Elab.async false
set_option linter.all false
set_option maxRecDepth 100000
set_option maxHeartbeats 4000000
set_option exponentiation.threshold 5000
/-! K27Nu: numbers that are drawn; what is told; how far colours are apart. -/
namespace K27
open PySem L2 Pd
theorem rt_of (q : Rat) (n d : Int) (h : q.num = n ∧ (q.den : Int) = d) : rt q = .tuple [.int n, .int d] := by
  unfold rt
  rw [h.1, h.2]
def NL : List Rat := [0, 1, 1 / 2, 1 / 4, 3 / 4, 1 / 3, 2 / 5, 7 / 8]
theorem NL_sz : ∀ q ∈ NL, Sz 4 q ∧ 0 ≤ q ∧ q ≤ 1 := by
  unfold NL Sz
  decide +kernel
theorem NL_rt : NL.map rt = [.tuple [.int 0, .int 1], .tuple [.int 1, .int 1], .tuple [.int 1, .int 2], .tuple [.int 1, .int 4], .tuple [.int 3, .int 4], .tuple [.int 1, .int 3], .tuple [.int 2, .int 5], .tuple [.int 7, .int 8]] := by
  unfold NL
  simp only [List.map_cons, List.map_nil]
  rw [rt_of 0 0 1 (by decide +kernel), rt_of 1 1 1 (by decide +kernel), rt_of (1 / 2) 1 2 (by decide +kernel), rt_of (1 / 4) 1 4 (by decide +kernel), rt_of (3 / 4) 3 4 (by decide +kernel), rt_of (1 / 3) 1 3 (by decide +kernel), rt_of (2 / 5) 2 5 (by decide +kernel), rt_of (7 / 8) 7 8 (by decide +kernel)]
theorem number_run (xs ys : List Int) : ∃ (q : Rat) (ys' : List Int), d_u_law_number [.cel 1] (S2 xs ys) = .ok (.dat (rt q)) (S2 xs ys') ∧ Sz 4 q ∧ 0 ≤ q ∧ q ≤ 1 := by
  obtain ⟨d, ys', e, hd⟩ := pick_run xs ys (ds := NL.map rt) (by decide)
  obtain ⟨q, hq, rfl⟩ := List.mem_map.mp hd
  refine ⟨q, ys', ?_, NL_sz q hq⟩
  refine call_S2 rfl ?_
  show b_u_law_number [some (.cel 1)] (S2 xs ys) = _
  rw [NL_rt] at e
  rw [b_u_law_number]
  simp only [seqO_nx, seqO_rt, seqO_exc, ev_seqM, ev_skipM, ev_cst, ev_vr, ev_aNil, ev_noO, ev_tYesM, List.getElem?_cons_zero, List.getElem?_cons_succ, List.set, Res.bind_ok, bindS_ok, ap2_dat, ap1_dat, apN1, apN2, ofO_some, peek_dat, truD_bool, Bool.not_true, Bool.not_false, ixD_tup, ixD_lst, atI_0, atI_1, toDs_nil, toD_dat, ek_op2, k_op2, k_op2b, ek_op1, k_op1, ek_isiM, ek_opN, k_opN, ek_aCons, k_cons, k_cons2, ek_tupM, ek_lstD, k_tup, k_tup2_0, k_tup2_1, k_tup2_2, k_tup2_3, k_tup2_4, k_tup2_5, k_tup2_6, k_tup2_7, k_tup2_8, k_tup2_9, k_tup2_10, k_tup2_11, k_tup2_12, ek_toDs, k_toDs, k_toDs2, ek_callM, ek_ifE, k_ifE_t, k_ifE_f, truO_some, ofB_some, ek_truM, k_tru, ek_andT, k_andT_t, k_andT_f, ek_orT, k_orT_t, k_orT_f, ek_notT, k_notT, ek_andE, k_andE_t, k_andE_f, ek_orE, k_orE_t, k_orE_f, ek_notE, k_notE, ek_setM, k_set, ek_parM, k_par, ek_ifS, k_if_t, k_if_f, ek_retM, k_ret, ek_dropM, k_drop, ek_forM, k_for, ek_itM, k_it_l, k_it_t, ek_zipM, k_zip, k_zip2_l, k_zip2_t, ek_someO, k_some, ek_sliceM, k_sl, k_sl2, k_sl3, apS_dat, ek_parGM, k_pg2, k_pg3, ek_parM3, k_p3, ek_lstC, k_lst0, e]
theorem pick_rts (xs ys : List Int) (l : List Rat) (h : l ≠ []) : ∃ (q : Rat) (ys' : List Int), d_u_law_pick [.cel 1, .dat (.list (l.map rt))] (S2 xs ys) = .ok (.dat (rt q)) (S2 xs ys') ∧ q ∈ l := by
  obtain ⟨d, ys', e, hd⟩ := pick_run xs ys (ds := l.map rt) (by simpa using h)
  obtain ⟨q, hq, rfl⟩ := List.mem_map.mp hd
  exact ⟨q, ys', e, hq⟩
/-- the draws' store -/
def DS (xs : List Int) (st : Store) : Prop := ∃ ys : List Int, st = S2 xs ys
def In01 (k : Nat) (q : Rat) : Prop := Sz k q ∧ 0 ≤ q ∧ q ≤ 1
theorem In01.mono {k l : Nat} {q : Rat} (h : In01 k q) (e : k ≤ l) : In01 l q := ⟨h.1.mono e, h.2⟩
theorem part29 {v : Int} (h0 : 0 ≤ v) (h : v < 30) : In01 5 (Rat.divInt v 29) := by
  have : ∀ k ∈ List.range 30, In01 5 (Rat.divInt ((k : Nat) : Int) 29) := by
    unfold In01 Sz
    decide +kernel
  obtain ⟨k, rfl⟩ : ∃ k : Nat, v = k := ⟨v.toNat, by omega⟩
  exact this k (List.mem_range.mpr (by omega))
noncomputable abbrev one_e : EM := callM d_u_law_pick (aCons (vr 0) (aCons (lstD (aCons (callM d_u_law_number (aCons (vr 0) aNil)) (aCons (callM d_u_law_r (aCons (callM d_u_law_take (aCons (vr 0) (aCons (cst (.int 30)) aNil))) (aCons (cst (.int 29)) aNil))) aNil))) aNil))
theorem one_run {s : Slots} (h0 : s[0]? = some (some (.cel 1))) (xs : List Int) {st : Store} (hst : DS xs st) : ∃ (q : Rat) (st' : Store), DS xs st' ∧ one_e s st = .ok (.dat (rt q)) st' ∧ In01 5 q := by
  obtain ⟨ys, rfl⟩ := hst
  obtain ⟨a, ys1, e1, a1, a2⟩ := number_run xs ys
  obtain ⟨v, ys2, e2, v0, v1⟩ := take_run xs ys1 (b := 30) (by decide)
  have e3 := rr_run (n := v) (d := 29) (S2 xs ys2) (Nat.lt_of_lt_of_le (show v.natAbs < 2 ^ 5 by omega) (Nat.pow_le_pow_right (by decide) (by decide))) (by decide) (Nat.lt_of_lt_of_le (show (29 : Int).natAbs < 2 ^ 5 by decide) (Nat.pow_le_pow_right (by decide) (by decide)))
  obtain ⟨q, ys3, e4, hq⟩ := pick_rts xs ys2 [a, Rat.divInt v 29] (by simp)
  rw [List.map_cons, List.map_cons, List.map_nil] at e4
  have hv : ∀ st, vr 0 s st = .ok (.cel 1) st := fun st => by rw [ev_vr, h0]
  refine ⟨q, _, ⟨ys3, rfl⟩, ?_, ?_⟩
  · simp only [seqO_nx, seqO_rt, seqO_exc, ev_seqM, ev_skipM, ev_cst, ev_vr, ev_aNil, ev_noO, ev_tYesM, List.getElem?_cons_zero, List.getElem?_cons_succ, List.set, Res.bind_ok, bindS_ok, ap2_dat, ap1_dat, apN1, apN2, ofO_some, peek_dat, truD_bool, Bool.not_true, Bool.not_false, ixD_tup, ixD_lst, atI_0, atI_1, toDs_nil, toD_dat, ek_op2, k_op2, k_op2b, ek_op1, k_op1, ek_isiM, ek_opN, k_opN, ek_aCons, k_cons, k_cons2, ek_tupM, ek_lstD, k_tup, k_tup2_0, k_tup2_1, k_tup2_2, k_tup2_3, k_tup2_4, k_tup2_5, k_tup2_6, k_tup2_7, k_tup2_8, k_tup2_9, k_tup2_10, k_tup2_11, k_tup2_12, ek_toDs, k_toDs, k_toDs2, ek_callM, ek_ifE, k_ifE_t, k_ifE_f, truO_some, ofB_some, ek_truM, k_tru, ek_andT, k_andT_t, k_andT_f, ek_orT, k_orT_t, k_orT_f, ek_notT, k_notT, ek_andE, k_andE_t, k_andE_f, ek_orE, k_orE_t, k_orE_f, ek_notE, k_notE, ek_setM, k_set, ek_parM, k_par, ek_ifS, k_if_t, k_if_f, ek_retM, k_ret, ek_dropM, k_drop, ek_forM, k_for, ek_itM, k_it_l, k_it_t, ek_zipM, k_zip, k_zip2_l, k_zip2_t, ek_someO, k_some, ek_sliceM, k_sl, k_sl2, k_sl3, apS_dat, ek_parGM, k_pg2, k_pg3, ek_parM3, k_p3, ek_lstC, k_lst0, ↓hv, e1, e2, e3, e4]
  · have : q = a ∨ q = Rat.divInt v 29 := by simpa using hq
    rcases this with rfl | rfl
    · exact ⟨a1.mono (by decide), a2⟩
    · exact part29 v0 v1
noncomputable abbrev other_e : EM := callM d_u_law_clip (aCons (callM d_u_law_add (aCons (vr 11) (aCons (callM d_u_law_number (aCons (vr 0) aNil)) aNil))) aNil)
theorem clip_in {k : Nat} {q : Rat} (h : Sz k q) : In01 k (clipR q) := by
  have hk := h.pos
  have one : (1 : Nat) < 2 ^ k := Nat.one_lt_two_pow_iff.mpr (by omega)
  unfold clipR
  split
  · exact ⟨⟨Nat.lt_trans (by decide : (0 : Nat) < 1) one, one⟩, by decide, by decide⟩
  · split
    · exact ⟨⟨one, one⟩, by decide, by decide⟩
    · exact ⟨h, by grind, by grind⟩
theorem other_run {s : Slots} {p : Rat} (h0 : s[0]? = some (some (.cel 1))) (h11 : s[11]? = some (some (.dat (rt p)))) (hp : In01 5 p) (xs : List Int) {st : Store} (hst : DS xs st) : ∃ (q : Rat) (st' : Store), DS xs st' ∧ other_e s st = .ok (.dat (rt q)) st' ∧ (In01 10 q ∧ p ≤ q) := by
  obtain ⟨ys, rfl⟩ := hst
  obtain ⟨a, ys1, e1, a1, a2, a3⟩ := number_run xs ys
  have e2 := ladd_run (S2 xs ys1) (hp.1.mono (by decide : 5 ≤ 190)) (a1.mono (by decide : 4 ≤ 190))
  have e3 := lclip_run (p + a) (S2 xs ys1)
  have hv : ∀ st, vr 0 s st = .ok (.cel 1) st := fun st => by rw [ev_vr, h0]
  have hv2 : ∀ st, vr 11 s st = .ok (.dat (rt p)) st := fun st => by rw [ev_vr, h11]
  refine ⟨clipR (p + a), _, ⟨ys1, rfl⟩, ?_, clip_in (add_sz hp.1 a1), ?_⟩
  · simp only [seqO_nx, seqO_rt, seqO_exc, ev_seqM, ev_skipM, ev_cst, ev_vr, ev_aNil, ev_noO, ev_tYesM, List.getElem?_cons_zero, List.getElem?_cons_succ, List.set, Res.bind_ok, bindS_ok, ap2_dat, ap1_dat, apN1, apN2, ofO_some, peek_dat, truD_bool, Bool.not_true, Bool.not_false, ixD_tup, ixD_lst, atI_0, atI_1, toDs_nil, toD_dat, ek_op2, k_op2, k_op2b, ek_op1, k_op1, ek_isiM, ek_opN, k_opN, ek_aCons, k_cons, k_cons2, ek_tupM, ek_lstD, k_tup, k_tup2_0, k_tup2_1, k_tup2_2, k_tup2_3, k_tup2_4, k_tup2_5, k_tup2_6, k_tup2_7, k_tup2_8, k_tup2_9, k_tup2_10, k_tup2_11, k_tup2_12, ek_toDs, k_toDs, k_toDs2, ek_callM, ek_ifE, k_ifE_t, k_ifE_f, truO_some, ofB_some, ek_truM, k_tru, ek_andT, k_andT_t, k_andT_f, ek_orT, k_orT_t, k_orT_f, ek_notT, k_notT, ek_andE, k_andE_t, k_andE_f, ek_orE, k_orE_t, k_orE_f, ek_notE, k_notE, ek_setM, k_set, ek_parM, k_par, ek_ifS, k_if_t, k_if_f, ek_retM, k_ret, ek_dropM, k_drop, ek_forM, k_for, ek_itM, k_it_l, k_it_t, ek_zipM, k_zip, k_zip2_l, k_zip2_t, ek_someO, k_some, ek_sliceM, k_sl, k_sl2, k_sl3, apS_dat, ek_parGM, k_pg2, k_pg3, ek_parM3, k_p3, ek_lstC, k_lst0, ↓hv, ↓hv2, e1, e2, e3]
  · have := hp.2.2
    unfold clipR
    split
    · grind
    · split
      · exact this
      · grind
/-! what is told -/
abbrev refD : D := .tuple [.str "refused", .str "not right"]
theorem told0 {a : D} {b : D} {d : D} {st : Store} (h : d_grown_screen [.dat a] st = .ok (.dat d) st) : d_u_law_told [.dat (.int 0), .dat a, .dat b] st = .ok (.dat d) st := by
  refine call_rt rfl ?_
  show b_u_law_told [some (.dat (.int 0)), some (.dat a), some (.dat b)] st = _
  unfold b_u_law_told tryM
  simp [h]
theorem told1 {a : D} {b : D} {d : D} {st : Store} (h : d_mean_of [.dat a] st = .ok (.dat d) st) : d_u_law_told [.dat (.int 1), .dat a, .dat b] st = .ok (.dat d) st := by
  refine call_rt rfl ?_
  show b_u_law_told [some (.dat (.int 1)), some (.dat a), some (.dat b)] st = _
  unfold b_u_law_told tryM
  simp [h]
theorem told2 {a : D} {b : D} {d : D} {st : Store} (h : d_dots_of [.dat a, .dat b] st = .ok (.dat d) st) : d_u_law_told [.dat (.int 2), .dat a, .dat b] st = .ok (.dat d) st := by
  refine call_rt rfl ?_
  show b_u_law_told [some (.dat (.int 2)), some (.dat a), some (.dat b)] st = _
  unfold b_u_law_told tryM
  simp [h]
theorem told3 {a : D} {b : D} {d : D} {st : Store} (h : d_spread [.dat a, .dat b] st = .ok (.dat d) st) : d_u_law_told [.dat (.int 3), .dat a, .dat b] st = .ok (.dat d) st := by
  refine call_rt rfl ?_
  show b_u_law_told [some (.dat (.int 3)), some (.dat a), some (.dat b)] st = _
  unfold b_u_law_told tryM
  simp [h]
theorem ref0 {a : D} {b : D} {st : Store} (h : d_grown_screen [.dat a] st = .exc 1 none st) : d_u_law_told [.dat (.int 0), .dat a, .dat b] st = .ok (.dat refD) st := by
  refine call_rt rfl ?_
  have e2 : (2 : Nat) ≤ sizeLine := sl _ (by decide)
  have e3 : exm 1 1 = true := by decide
  show b_u_law_told [some (.dat (.int 0)), some (.dat a), some (.dat b)] st = _
  unfold b_u_law_told tryM
  simp [h, handle, e3, noXS, e2]
theorem ref1 {a : D} {b : D} {st : Store} (h : d_mean_of [.dat a] st = .exc 1 none st) : d_u_law_told [.dat (.int 1), .dat a, .dat b] st = .ok (.dat refD) st := by
  refine call_rt rfl ?_
  have e2 : (2 : Nat) ≤ sizeLine := sl _ (by decide)
  have e3 : exm 1 1 = true := by decide
  show b_u_law_told [some (.dat (.int 1)), some (.dat a), some (.dat b)] st = _
  unfold b_u_law_told tryM
  simp [h, handle, e3, noXS, e2]
theorem ref2 {a : D} {b : D} {st : Store} (h : d_dots_of [.dat a, .dat b] st = .exc 1 none st) : d_u_law_told [.dat (.int 2), .dat a, .dat b] st = .ok (.dat refD) st := by
  refine call_rt rfl ?_
  have e2 : (2 : Nat) ≤ sizeLine := sl _ (by decide)
  have e3 : exm 1 1 = true := by decide
  show b_u_law_told [some (.dat (.int 2)), some (.dat a), some (.dat b)] st = _
  unfold b_u_law_told tryM
  simp [h, handle, e3, noXS, e2]
theorem ref3 {a : D} {b : D} {st : Store} (h : d_spread [.dat a, .dat b] st = .exc 1 none st) : d_u_law_told [.dat (.int 3), .dat a, .dat b] st = .ok (.dat refD) st := by
  refine call_rt rfl ?_
  have e2 : (2 : Nat) ≤ sizeLine := sl _ (by decide)
  have e3 : exm 1 1 = true := by decide
  show b_u_law_told [some (.dat (.int 3)), some (.dat a), some (.dat b)] st = _
  unfold b_u_law_told tryM
  simp [h, handle, e3, noXS, e2]
/-! how far apart -/
theorem absd (q : Rat) (s : Slots) (st : Store) (i : Nat) (h : s[i]? = some (some (.dat (rt q)))) : tupM (aCons (opN absD (aCons (op2 ixD (vr i) (cst (.int 0))) aNil)) (aCons (op2 ixD (vr i) (cst (.int 1))) aNil)) s st = .ok (.dat (rt (rabs q))) st := by
  have hv : vr i s st = .ok (.dat (rt q)) st := by rw [ev_vr, h]
  have x0 : ixD (rt q) (.int 0) = some (.int q.num) := rfl
  have x1 : ixD (rt q) (.int 1) = some (.int (q.den : Int)) := rfl
  simp only [seqO_nx, seqO_rt, seqO_exc, ev_seqM, ev_skipM, ev_cst, ev_vr, ev_aNil, ev_noO, ev_tYesM, List.getElem?_cons_zero, List.getElem?_cons_succ, List.set, Res.bind_ok, bindS_ok, ap2_dat, ap1_dat, apN1, apN2, ofO_some, peek_dat, truD_bool, Bool.not_true, Bool.not_false, ixD_tup, ixD_lst, atI_0, atI_1, toDs_nil, toD_dat, ek_op2, k_op2, k_op2b, ek_op1, k_op1, ek_isiM, ek_opN, k_opN, ek_aCons, k_cons, k_cons2, ek_tupM, ek_lstD, k_tup, k_tup2_0, k_tup2_1, k_tup2_2, k_tup2_3, k_tup2_4, k_tup2_5, k_tup2_6, k_tup2_7, k_tup2_8, k_tup2_9, k_tup2_10, k_tup2_11, k_tup2_12, ek_toDs, k_toDs, k_toDs2, ek_callM, ek_ifE, k_ifE_t, k_ifE_f, truO_some, ofB_some, ek_truM, k_tru, ek_andT, k_andT_t, k_andT_f, ek_orT, k_orT_t, k_orT_f, ek_notT, k_notT, ek_andE, k_andE_t, k_andE_f, ek_orE, k_orE_t, k_orE_f, ek_notE, k_notE, ek_setM, k_set, ek_parM, k_par, ek_ifS, k_if_t, k_if_f, ek_retM, k_ret, ek_dropM, k_drop, ek_forM, k_for, ek_itM, k_it_l, k_it_t, ek_zipM, k_zip, k_zip2_l, k_zip2_t, ek_someO, k_some, ek_sliceM, k_sl, k_sl2, k_sl3, apS_dat, ek_parGM, k_pg2, k_pg3, ek_parM3, k_p3, ek_lstC, k_lst0, ↓hv, x0, x1, absD_int]
  rw [rt_rabs]
noncomputable abbrev dist_loop : SM := (seqM (setM 4 (callM d_u_law_sub (aCons (op2 ixD (vr 0) (vr 3)) (aCons (op2 ixD (vr 1) (vr 3)) aNil))))
        (seqM (setM 4 (tupM (aCons (opN absD (aCons (op2 ixD (vr 4) (cst (.int 0))) aNil)) (aCons (op2 ixD (vr 4) (cst (.int 1))) aNil))))
        (setM 2 (ifE (truM (callM d_u_law_less (aCons (vr 2) (aCons (vr 4) aNil)))) (vr 4) (vr 2)))))
theorem dist_run {a b : List Rat} {B : Rat} (ha : a.length = 3) (hb : b.length = 3) (sa : ∀ q ∈ a, Sz 100 q) (sb : ∀ q ∈ b, Sz 50 q) (hB : 0 ≤ B) (h : ∀ k, k < 3 → rabs (a.getD k 0 - b.getD k 0) ≤ B) (st : Store) :
    ∃ x : Rat, d_u_law_distance [.dat (colD a), .dat (colD b)] st = .ok (.dat (rt x)) st ∧ Sz 151 x ∧ x ≤ B := by
  obtain ⟨s', st', e1, ⟨x, o3, o4, rfl, hst, hx, hxB⟩⟩ := loop_keep (enc := fun k : Nat => PyData.int k) (g := tgM (bName 3) dist_loop) (fun _ s st2 => ∃ (x : Rat) (o3 o4 : Option Vl), s = [some (.dat (colD a)), some (.dat (colD b)), some (.dat (rt x)), o3, o4] ∧ st2 = st ∧ Sz 151 x ∧ x ≤ B) (List.range 3) 0
    [some (.dat (colD a)), some (.dat (colD b)), some (.dat (rt 0)), none, none] st (by
      rintro k hk _ _ _ _ ⟨x, o3, o4, rfl, rfl, hx, hxB⟩
      have hk3 : k < 3 := List.mem_range.mp hk
      have za := sa _ (getD_mem ha hk3)
      have zb := sb _ (getD_mem hb hk3)
      have g1 : ixD (colD a) (.int (k : Int)) = some (rt (a.getD k 0)) := by
        show atI (a.map rt) (k : Int) = _
        rw [Pd.atI_nat]
        exact at3 (f := rt) ha hk3
      have g2 : ixD (colD b) (.int (k : Int)) = some (rt (b.getD k 0)) := by
        show atI (b.map rt) (k : Int) = _
        rw [Pd.atI_nat]
        exact at3 (f := rt) hb hk3
      have f1 := fun st => lsub_run st (za.mono (by decide : 100 ≤ 190)) (zb.mono (by decide : 50 ≤ 190))
      have zd := rabs_sz (sub_sz za zb)
      have f2 := fun st => lless_run st (hx.mono (by decide : 151 ≤ 1000)) (zd.mono (by decide : 100 + 50 + 1 ≤ 1000))
      have hk := h k hk3
      have f3 := fun st => absd (a.getD k 0 - b.getD k 0) [some (.dat (colD a)), some (.dat (colD b)), some (.dat (rt x)), some (.dat (.int k)), some (.dat (rt (a.getD k 0 - b.getD k 0)))] st 4 rfl
      generalize a.getD k 0 - b.getD k 0 = z at *
      by_cases c : x < rabs z
      · refine ⟨_, _, ?_, ⟨rabs z, some (.dat (.int k)), some (.dat (rt (rabs z))), rfl, rfl, zd, hk⟩⟩
        rw [ev_tgM, ev_bName, optO_some, dist_loop]
        simp only [seqO_nx, seqO_rt, seqO_exc, ev_seqM, ev_skipM, ev_cst, ev_vr, ev_aNil, ev_noO, ev_tYesM, List.getElem?_cons_zero, List.getElem?_cons_succ, List.set, Res.bind_ok, bindS_ok, ap2_dat, ap1_dat, apN1, apN2, ofO_some, peek_dat, truD_bool, Bool.not_true, Bool.not_false, ixD_tup, ixD_lst, atI_0, atI_1, toDs_nil, toD_dat, ek_op2, k_op2, k_op2b, ek_op1, k_op1, ek_isiM, ek_opN, k_opN, ek_aCons, k_cons, k_cons2, ek_tupM, ek_lstD, k_tup, k_tup2_0, k_tup2_1, k_tup2_2, k_tup2_3, k_tup2_4, k_tup2_5, k_tup2_6, k_tup2_7, k_tup2_8, k_tup2_9, k_tup2_10, k_tup2_11, k_tup2_12, ek_toDs, k_toDs, k_toDs2, ek_callM, ek_ifE, k_ifE_t, k_ifE_f, truO_some, ofB_some, ek_truM, k_tru, ek_andT, k_andT_t, k_andT_f, ek_orT, k_orT_t, k_orT_f, ek_notT, k_notT, ek_andE, k_andE_t, k_andE_f, ek_orE, k_orE_t, k_orE_f, ek_notE, k_notE, ek_setM, k_set, ek_parM, k_par, ek_ifS, k_if_t, k_if_f, ek_retM, k_ret, ek_dropM, k_drop, ek_forM, k_for, ek_itM, k_it_l, k_it_t, ek_zipM, k_zip, k_zip2_l, k_zip2_t, ek_someO, k_some, ek_sliceM, k_sl, k_sl2, k_sl3, apS_dat, ek_parGM, k_pg2, k_pg3, ek_parM3, k_p3, ek_lstC, k_lst0, g1, g2, f1, ↓f3, f2, decide_eq_true c]
      · refine ⟨_, _, ?_, ⟨x, some (.dat (.int k)), some (.dat (rt (rabs z))), rfl, rfl, hx, hxB⟩⟩
        rw [ev_tgM, ev_bName, optO_some, dist_loop]
        simp only [seqO_nx, seqO_rt, seqO_exc, ev_seqM, ev_skipM, ev_cst, ev_vr, ev_aNil, ev_noO, ev_tYesM, List.getElem?_cons_zero, List.getElem?_cons_succ, List.set, Res.bind_ok, bindS_ok, ap2_dat, ap1_dat, apN1, apN2, ofO_some, peek_dat, truD_bool, Bool.not_true, Bool.not_false, ixD_tup, ixD_lst, atI_0, atI_1, toDs_nil, toD_dat, ek_op2, k_op2, k_op2b, ek_op1, k_op1, ek_isiM, ek_opN, k_opN, ek_aCons, k_cons, k_cons2, ek_tupM, ek_lstD, k_tup, k_tup2_0, k_tup2_1, k_tup2_2, k_tup2_3, k_tup2_4, k_tup2_5, k_tup2_6, k_tup2_7, k_tup2_8, k_tup2_9, k_tup2_10, k_tup2_11, k_tup2_12, ek_toDs, k_toDs, k_toDs2, ek_callM, ek_ifE, k_ifE_t, k_ifE_f, truO_some, ofB_some, ek_truM, k_tru, ek_andT, k_andT_t, k_andT_f, ek_orT, k_orT_t, k_orT_f, ek_notT, k_notT, ek_andE, k_andE_t, k_andE_f, ek_orE, k_orE_t, k_orE_f, ek_notE, k_notE, ek_setM, k_set, ek_parM, k_par, ek_ifS, k_if_t, k_if_f, ek_retM, k_ret, ek_dropM, k_drop, ek_forM, k_for, ek_itM, k_it_l, k_it_t, ek_zipM, k_zip, k_zip2_l, k_zip2_t, ek_someO, k_some, ek_sliceM, k_sl, k_sl2, k_sl3, apS_dat, ek_parGM, k_pg2, k_pg3, ek_parM3, k_p3, ek_lstC, k_lst0, g1, g2, f1, ↓f3, f2, decide_eq_false c]) ⟨0, none, none, rfl, rfl, zero_sz.mono (by decide), hB⟩
  rw [hst] at e1
  refine ⟨x, call_rt rfl ?_, hx, hxB⟩
  show b_u_law_distance [some (.dat (colD a)), some (.dat (colD b)), none, none, none] st = _
  have e6 : ∀ s st, rng1M (aCons (cst (.int 3)) aNil) s st = .ok ((List.range 3).map fun k : Nat => PyData.int k) st := fun s st => run_rngN rfl (by decide)
  have z0 : PyData.tuple [.int 0, .int 1] = rt 0 := rfl
  rw [b_u_law_distance]
  simp only [seqO_nx, seqO_rt, seqO_exc, ev_seqM, ev_skipM, ev_cst, ev_vr, ev_aNil, ev_noO, ev_tYesM, List.getElem?_cons_zero, List.getElem?_cons_succ, List.set, Res.bind_ok, bindS_ok, ap2_dat, ap1_dat, apN1, apN2, ofO_some, peek_dat, truD_bool, Bool.not_true, Bool.not_false, ixD_tup, ixD_lst, atI_0, atI_1, toDs_nil, toD_dat, ek_op2, k_op2, k_op2b, ek_op1, k_op1, ek_isiM, ek_opN, k_opN, ek_aCons, k_cons, k_cons2, ek_tupM, ek_lstD, k_tup, k_tup2_0, k_tup2_1, k_tup2_2, k_tup2_3, k_tup2_4, k_tup2_5, k_tup2_6, k_tup2_7, k_tup2_8, k_tup2_9, k_tup2_10, k_tup2_11, k_tup2_12, ek_toDs, k_toDs, k_toDs2, ek_callM, ek_ifE, k_ifE_t, k_ifE_f, truO_some, ofB_some, ek_truM, k_tru, ek_andT, k_andT_t, k_andT_f, ek_orT, k_orT_t, k_orT_f, ek_notT, k_notT, ek_andE, k_andE_t, k_andE_f, ek_orE, k_orE_t, k_orE_f, ek_notE, k_notE, ek_setM, k_set, ek_parM, k_par, ek_ifS, k_if_t, k_if_f, ek_retM, k_ret, ek_dropM, k_drop, ek_forM, k_for, ek_itM, k_it_l, k_it_t, ek_zipM, k_zip, k_zip2_l, k_zip2_t, ek_someO, k_some, ek_sliceM, k_sl, k_sl2, k_sl3, apS_dat, ek_parGM, k_pg2, k_pg3, ek_parM3, k_p3, ek_lstC, k_lst0, e6, z0, e1]
end K27

set_option Elab.async false
set_option linter.all false
set_option maxRecDepth 100000
set_option maxHeartbeats 4000000
set_option exponentiation.threshold 5000
/-! K27Du: the dots are due. -/
namespace K27
open PySem L2 Pd
theorem all2_get {P : Rat → Rat → Prop} : ∀ {a b : List Rat}, All2 P a b → ∀ k, k < a.length → P (a.getD k 0) (b.getD k 0)
  | _, _, .cons h _, 0, _ => h
  | _, _, .cons _ t, k + 1, hk => by
    have := all2_get t k (by simpa using hk)
    simpa using this
theorem lay_dots (N : Nat) (c : List Rat) (rows : List (List Nat)) : Lay 3 (dotsD N c rows) :=
  Lay.tupleM fun r _ => Lay.tupleM (enc := dotD N c) fun p _ => Lay.tupleM (enc := fun q => nI (dotv N q p)) fun q _ => Lay.int _
theorem lay_col (c : List Rat) : Lay 2 (colD c) := Lay.tupleM fun q _ => Lay.rt q
noncomputable abbrev row_loop : SM := (forM (bName 7) (rng1M (aCons (opN lenD (aCons (op2 ixD (vr 1) (cst (.int 0))) aNil)) aNil)) (ifS (truM (op2 neD (lcM (rng1M (aCons (cst (.int 3)) aNil)) (bName 10) [10] (truM (op2 gtD (op2 ixD (op2 ixD (op2 ixD (vr 5) (vr 4)) (vr 7)) (vr 10)) (op2 ixD (op2 ixD (op2 ixD (vr 6) (vr 4)) (vr 7)) (vr 10)))) (vr 10)) (lstD aNil))) (retM (cst (.bool false))) skipM))
noncomputable abbrev col_loop : SM := (ifS (truM (op2 neD (lcM (rng1M (aCons (cst (.int 3)) aNil)) (bName 10) [10] (truM (op2 gtD (op2 ixD (op2 ixD (op2 ixD (vr 5) (vr 4)) (vr 7)) (vr 10)) (op2 ixD (op2 ixD (op2 ixD (vr 6) (vr 4)) (vr 7)) (vr 10)))) (vr 10)) (lstD aNil))) (retM (cst (.bool false))) skipM)
theorem dots_at {rows : List (List Nat)} {w N : Nat} {c : List Rat} (h : Scr rows w) (hc : c.length = 3) {i j k : Nat} (hi : i < rows.length) (hj : j < w) (hk : k < 3) (f : Nat) (s : Slots) (st : Store) (i5 : s[f]? = some (some (.dat (dotsD N c rows)))) (i4 : s[4]? = some (some (.dat (nI i)))) (i7 : s[7]? = some (some (.dat (nI j)))) (i10 : s[10]? = some (some (.dat (nI k)))) :
    op2 ixD (op2 ixD (op2 ixD (vr f) (vr 4)) (vr 7)) (vr 10) s st = .ok (.dat (nI (dotv N (c.getD k 0) ((rows.getD i []).getD j 0)))) st := by
  have v5 : vr f s st = .ok (.dat (dotsD N c rows)) st := by rw [ev_vr, i5]
  have v4 : vr 4 s st = .ok (.dat (nI i)) st := by rw [ev_vr, i4]
  have v7 : vr 7 s st = .ok (.dat (nI j)) st := by rw [ev_vr, i7]
  have v10 : vr 10 s st = .ok (.dat (nI k)) st := by rw [ev_vr, i10]
  have hr : rows[i]? = some (rows.getD i []) := by rw [List.getD_eq_getElem?_getD, List.getElem?_eq_getElem hi]; rfl
  have hrl : (rows.getD i []).length = w := h.wid _ (List.mem_of_getElem? hr)
  have hp : (rows.getD i [])[j]? = some ((rows.getD i []).getD j 0) := by
    generalize rows.getD i [] = r at *
    rw [List.getD_eq_getElem?_getD, List.getElem?_eq_getElem (by omega)]
    rfl
  have x1 : ixD (dotsD N c rows) (.int (i : Int)) = some (.tuple ((rows.getD i []).map (dotD N c))) := by
    show atI (rows.map _) (i : Int) = _
    rw [Pd.atI_nat, List.getElem?_map, hr]
    rfl
  have x2 : ixD (.tuple ((rows.getD i []).map (dotD N c))) (.int (j : Int)) = some (dotD N c ((rows.getD i []).getD j 0)) := by
    show atI ((rows.getD i []).map _) (j : Int) = _
    rw [Pd.atI_nat, List.getElem?_map, hp]
    rfl
  have x3 : ixD (dotD N c ((rows.getD i []).getD j 0)) (.int (k : Int)) = some (nI (dotv N (c.getD k 0) ((rows.getD i []).getD j 0))) := by
    show atI (c.map _) (k : Int) = _
    rw [Pd.atI_nat]
    exact at3 (f := fun q => nI (dotv N q ((rows.getD i []).getD j 0))) hc hk
  rw [ev_op2, ev_op2, ev_op2, v5, Res.bind_ok, v4, Res.bind_ok, ap2_dat, x1, ofO_some, Res.bind_ok, v7, Res.bind_ok, ap2_dat, x2, ofO_some, Res.bind_ok, v10, Res.bind_ok, ap2_dat, x3, ofO_some]
theorem col_run {rows : List (List Nat)} {w N : Nat} {a b : List Rat} (h : Scr rows w) (ha : a.length = 3) (hb : b.length = 3) (hab : ∀ k, k < 3 → a.getD k 0 ≤ b.getD k 0) {i j : Nat} (hi : i < rows.length) (hj : j < w) (v0 v1 v2 v3 o8 o9 o11 : Option Vl) (st : Store) :
    col_loop [v0, v1, v2, v3, some (.dat (nI i)), some (.dat (dotsD N a rows)), some (.dat (dotsD N b rows)), some (.dat (nI j)), o8, o9, none, o11] st = .nx [v0, v1, v2, v3, some (.dat (nI i)), some (.dat (dotsD N a rows)), some (.dat (dotsD N b rows)), some (.dat (nI j)), o8, o9, none, o11] st := by
  have e1 : lcM (rng1M (aCons (cst (.int 3)) aNil)) (bName 10) [10] (truM (op2 gtD (op2 ixD (op2 ixD (op2 ixD (vr 5) (vr 4)) (vr 7)) (vr 10)) (op2 ixD (op2 ixD (op2 ixD (vr 6) (vr 4)) (vr 7)) (vr 10)))) (vr 10) [v0, v1, v2, v3, some (.dat (nI i)), some (.dat (dotsD N a rows)), some (.dat (dotsD N b rows)), some (.dat (nI j)), o8, o9, none, o11] st = .ok (.dat (.list [])) st := by
    rw [ev_lcM, run_rngN (n := 3) (st1 := st) rfl (by decide), Res.bind_ok]
    rw [lcGo_filter (fun _ => false) ((List.range 3).map fun k : Nat => PyData.int k) fun x hx => by
      obtain ⟨k, hk, rfl⟩ := List.mem_map.mp hx
      have hk3 : k < 3 := List.mem_range.mp hk
      have d1 := dots_at h ha hi hj hk3 5 [v0, v1, v2, v3, some (.dat (nI i)), some (.dat (dotsD N a rows)), some (.dat (dotsD N b rows)), some (.dat (nI j)), o8, o9, some (.dat (nI k)), o11] st rfl rfl rfl rfl
      have d2 := dots_at h hb hi hj hk3 6 [v0, v1, v2, v3, some (.dat (nI i)), some (.dat (dotsD N a rows)), some (.dat (dotsD N b rows)), some (.dat (nI j)), o8, o9, some (.dat (nI k)), o11] st rfl rfl rfl rfl
      have m := dotv_mono (N := N) (hab k hk3) ((rows.getD i []).getD j 0)
      refine ⟨[v0, v1, v2, v3, some (.dat (nI i)), some (.dat (dotsD N a rows)), some (.dat (dotsD N b rows)), some (.dat (nI j)), o8, o9, some (.dat (nI k)), o11], rfl, ?_, rfl⟩
      have c : decide (((dotv N (b.getD k 0) ((rows.getD i []).getD j 0) : Nat) : Int) < ((dotv N (a.getD k 0) ((rows.getD i []).getD j 0) : Nat) : Int)) = false := decide_eq_false (by omega)
      simp only [seqO_nx, seqO_rt, seqO_exc, ev_seqM, ev_skipM, ev_cst, ev_vr, ev_aNil, ev_noO, ev_tYesM, List.getElem?_cons_zero, List.getElem?_cons_succ, List.set, Res.bind_ok, bindS_ok, ap2_dat, ap1_dat, apN1, apN2, ofO_some, peek_dat, truD_bool, Bool.not_true, Bool.not_false, ixD_tup, ixD_lst, atI_0, atI_1, toDs_nil, toD_dat, ek_op2, k_op2, k_op2b, ek_op1, k_op1, ek_isiM, ek_opN, k_opN, ek_aCons, k_cons, k_cons2, ek_tupM, ek_lstD, k_tup, k_tup2_0, k_tup2_1, k_tup2_2, k_tup2_3, k_tup2_4, k_tup2_5, k_tup2_6, k_tup2_7, k_tup2_8, k_tup2_9, k_tup2_10, k_tup2_11, k_tup2_12, ek_toDs, k_toDs, k_toDs2, ek_callM, ek_ifE, k_ifE_t, k_ifE_f, truO_some, ofB_some, ek_truM, k_tru, ek_andT, k_andT_t, k_andT_f, ek_orT, k_orT_t, k_orT_f, ek_notT, k_notT, ek_andE, k_andE_t, k_andE_f, ek_orE, k_orE_t, k_orE_f, ek_notE, k_notE, ek_setM, k_set, ek_parM, k_par, ek_ifS, k_if_t, k_if_f, ek_retM, k_ret, ek_dropM, k_drop, ek_forM, k_for, ek_itM, k_it_l, k_it_t, ek_zipM, k_zip, k_zip2_l, k_zip2_t, ek_someO, k_some, ek_sliceM, k_sl, k_sl2, k_sl3, apS_dat, ek_parGM, k_pg2, k_pg3, ek_parM3, k_p3, ek_lstC, k_lst0, ↓d1, ↓d2, nI, gtD_int, c]]
    rfl
  have e2 : neD (.list []) (.list []) = some (.bool false) := neD_refl rfl
  simp only [seqO_nx, seqO_rt, seqO_exc, ev_seqM, ev_skipM, ev_cst, ev_vr, ev_aNil, ev_noO, ev_tYesM, List.getElem?_cons_zero, List.getElem?_cons_succ, List.set, Res.bind_ok, bindS_ok, ap2_dat, ap1_dat, apN1, apN2, ofO_some, peek_dat, truD_bool, Bool.not_true, Bool.not_false, ixD_tup, ixD_lst, atI_0, atI_1, toDs_nil, toD_dat, ek_op2, k_op2, k_op2b, ek_op1, k_op1, ek_isiM, ek_opN, k_opN, ek_aCons, k_cons, k_cons2, ek_tupM, ek_lstD, k_tup, k_tup2_0, k_tup2_1, k_tup2_2, k_tup2_3, k_tup2_4, k_tup2_5, k_tup2_6, k_tup2_7, k_tup2_8, k_tup2_9, k_tup2_10, k_tup2_11, k_tup2_12, ek_toDs, k_toDs, k_toDs2, ek_callM, ek_ifE, k_ifE_t, k_ifE_f, truO_some, ofB_some, ek_truM, k_tru, ek_andT, k_andT_t, k_andT_f, ek_orT, k_orT_t, k_orT_f, ek_notT, k_notT, ek_andE, k_andE_t, k_andE_f, ek_orE, k_orE_t, k_orE_f, ek_notE, k_notE, ek_setM, k_set, ek_parM, k_par, ek_ifS, k_if_t, k_if_f, ek_retM, k_ret, ek_dropM, k_drop, ek_forM, k_for, ek_itM, k_it_l, k_it_t, ek_zipM, k_zip, k_zip2_l, k_zip2_t, ek_someO, k_some, ek_sliceM, k_sl, k_sl2, k_sl3, apS_dat, ek_parGM, k_pg2, k_pg3, ek_parM3, k_p3, ek_lstC, k_lst0, ↓e1, e2]
theorem row_run {rows : List (List Nat)} {w N : Nat} {a b : List Rat} (h : Scr rows w) (ha : a.length = 3) (hb : b.length = 3) (hab : ∀ k, k < 3 → a.getD k 0 ≤ b.getD k 0) {i : Nat} (hi : i < rows.length) (v0 v2 v3 o7 o8 o9 o11 : Option Vl) (st : Store) :
    ∃ o7', row_loop [v0, some (.dat (scrD rows)), v2, v3, some (.dat (nI i)), some (.dat (dotsD N a rows)), some (.dat (dotsD N b rows)), o7, o8, o9, none, o11] st = .nx [v0, some (.dat (scrD rows)), v2, v3, some (.dat (nI i)), some (.dat (dotsD N a rows)), some (.dat (dotsD N b rows)), o7', o8, o9, none, o11] st := by
  obtain ⟨s', st', e1, ⟨o7', rfl, hst⟩⟩ := loop_keep (enc := fun k : Nat => PyData.int k) (g := tgM (bName 7) col_loop) (fun _ s st2 => ∃ o7 : Option Vl, s = [v0, some (.dat (scrD rows)), v2, v3, some (.dat (nI i)), some (.dat (dotsD N a rows)), some (.dat (dotsD N b rows)), o7, o8, o9, none, o11] ∧ st2 = st) (List.range w) 0
    [v0, some (.dat (scrD rows)), v2, v3, some (.dat (nI i)), some (.dat (dotsD N a rows)), some (.dat (dotsD N b rows)), o7, o8, o9, none, o11] st (by
      rintro j hj _ _ _ _ ⟨o7, rfl, rfl⟩
      refine ⟨_, _, ?_, ⟨some (.dat (nI j)), rfl, rfl⟩⟩
      rw [ev_tgM, ev_bName, optO_some]
      exact col_run h ha hb hab hi (List.mem_range.mp hj) _ _ _ _ _ _ _ _) ⟨o7, rfl, rfl⟩
  rw [hst] at e1
  obtain ⟨r0, e0, l0⟩ := h.first
  have g0 : (rows.map rowD)[0]? = some (rowD r0) := by rw [List.getElem?_map, e0]; rfl
  have e2 : rng1M (aCons (opN lenD (aCons (op2 ixD (vr 1) (cst (.int 0))) aNil)) aNil) [v0, some (.dat (scrD rows)), v2, v3, some (.dat (nI i)), some (.dat (dotsD N a rows)), some (.dat (dotsD N b rows)), o7, o8, o9, none, o11] st = .ok ((List.range w).map fun k : Nat => PyData.int k) st := run_rngN (by
    simp only [seqO_nx, seqO_rt, seqO_exc, ev_seqM, ev_skipM, ev_cst, ev_vr, ev_aNil, ev_noO, ev_tYesM, List.getElem?_cons_zero, List.getElem?_cons_succ, List.set, Res.bind_ok, bindS_ok, ap2_dat, ap1_dat, apN1, apN2, ofO_some, peek_dat, truD_bool, Bool.not_true, Bool.not_false, ixD_tup, ixD_lst, atI_0, atI_1, toDs_nil, toD_dat, ek_op2, k_op2, k_op2b, ek_op1, k_op1, ek_isiM, ek_opN, k_opN, ek_aCons, k_cons, k_cons2, ek_tupM, ek_lstD, k_tup, k_tup2_0, k_tup2_1, k_tup2_2, k_tup2_3, k_tup2_4, k_tup2_5, k_tup2_6, k_tup2_7, k_tup2_8, k_tup2_9, k_tup2_10, k_tup2_11, k_tup2_12, ek_toDs, k_toDs, k_toDs2, ek_callM, ek_ifE, k_ifE_t, k_ifE_f, truO_some, ofB_some, ek_truM, k_tru, ek_andT, k_andT_t, k_andT_f, ek_orT, k_orT_t, k_orT_f, ek_notT, k_notT, ek_andE, k_andE_t, k_andE_f, ek_orE, k_orE_t, k_orE_f, ek_notE, k_notE, ek_setM, k_set, ek_parM, k_par, ek_ifS, k_if_t, k_if_f, ek_retM, k_ret, ek_dropM, k_drop, ek_forM, k_for, ek_itM, k_it_l, k_it_t, ek_zipM, k_zip, k_zip2_l, k_zip2_t, ek_someO, k_some, ek_sliceM, k_sl, k_sl2, k_sl3, apS_dat, ek_parGM, k_pg2, k_pg3, ek_parM3, k_p3, ek_lstC, k_lst0, g0, lenD_tup, List.length_map, l0]) (by have := h.w5; omega)
  refine ⟨o7', ?_⟩
  simp only [seqO_nx, seqO_rt, seqO_exc, ev_seqM, ev_skipM, ev_cst, ev_vr, ev_aNil, ev_noO, ev_tYesM, List.getElem?_cons_zero, List.getElem?_cons_succ, List.set, Res.bind_ok, bindS_ok, ap2_dat, ap1_dat, apN1, apN2, ofO_some, peek_dat, truD_bool, Bool.not_true, Bool.not_false, ixD_tup, ixD_lst, atI_0, atI_1, toDs_nil, toD_dat, ek_op2, k_op2, k_op2b, ek_op1, k_op1, ek_isiM, ek_opN, k_opN, ek_aCons, k_cons, k_cons2, ek_tupM, ek_lstD, k_tup, k_tup2_0, k_tup2_1, k_tup2_2, k_tup2_3, k_tup2_4, k_tup2_5, k_tup2_6, k_tup2_7, k_tup2_8, k_tup2_9, k_tup2_10, k_tup2_11, k_tup2_12, ek_toDs, k_toDs, k_toDs2, ek_callM, ek_ifE, k_ifE_t, k_ifE_f, truO_some, ofB_some, ek_truM, k_tru, ek_andT, k_andT_t, k_andT_f, ek_orT, k_orT_t, k_orT_f, ek_notT, k_notT, ek_andE, k_andE_t, k_andE_f, ek_orE, k_orE_t, k_orE_f, ek_notE, k_notE, ek_setM, k_set, ek_parM, k_par, ek_ifS, k_if_t, k_if_f, ek_retM, k_ret, ek_dropM, k_drop, ek_forM, k_for, ek_itM, k_it_l, k_it_t, ek_zipM, k_zip, k_zip2_l, k_zip2_t, ek_someO, k_some, ek_sliceM, k_sl, k_sl2, k_sl3, apS_dat, ek_parGM, k_pg2, k_pg3, ek_parM3, k_p3, ek_lstC, k_lst0, ↓e2, e1]
noncomputable abbrev two_loop : SM := (forM (bName 4) (rng1M (aCons (opN lenD (aCons (vr 1) aNil)) aNil)) row_loop)
theorem two_run {rows : List (List Nat)} {w N : Nat} {a b : List Rat} (h : Scr rows w) (ha : a.length = 3) (hb : b.length = 3) (hab : ∀ k, k < 3 → a.getD k 0 ≤ b.getD k 0) (v0 v2 v3 o4 o7 o8 o9 o11 : Option Vl) (st : Store) :
    ∃ o4' o7', two_loop [v0, some (.dat (scrD rows)), v2, v3, o4, some (.dat (dotsD N a rows)), some (.dat (dotsD N b rows)), o7, o8, o9, none, o11] st = .nx [v0, some (.dat (scrD rows)), v2, v3, o4', some (.dat (dotsD N a rows)), some (.dat (dotsD N b rows)), o7', o8, o9, none, o11] st := by
  obtain ⟨s', st', e1, ⟨o4', o7', rfl, hst⟩⟩ := loop_keep (enc := fun k : Nat => PyData.int k) (g := tgM (bName 4) row_loop) (fun _ s st2 => ∃ o4 o7 : Option Vl, s = [v0, some (.dat (scrD rows)), v2, v3, o4, some (.dat (dotsD N a rows)), some (.dat (dotsD N b rows)), o7, o8, o9, none, o11] ∧ st2 = st) (List.range rows.length) 0
    [v0, some (.dat (scrD rows)), v2, v3, o4, some (.dat (dotsD N a rows)), some (.dat (dotsD N b rows)), o7, o8, o9, none, o11] st (by
      rintro i hi _ _ st2 _ ⟨o4, o7, rfl, hst2⟩
      obtain ⟨o7', e⟩ := row_run h ha hb hab (N := N) (List.mem_range.mp hi) v0 v2 v3 o7 o8 o9 o11 st2
      refine ⟨_, _, ?_, ⟨some (.dat (nI i)), o7', rfl, hst2⟩⟩
      rw [ev_tgM, ev_bName, optO_some]
      exact e) ⟨o4, o7, rfl, rfl⟩
  rw [hst] at e1
  have e2 : rng1M (aCons (opN lenD (aCons (vr 1) aNil)) aNil) [v0, some (.dat (scrD rows)), v2, v3, o4, some (.dat (dotsD N a rows)), some (.dat (dotsD N b rows)), o7, o8, o9, none, o11] st = .ok ((List.range rows.length).map fun k : Nat => PyData.int k) st := run_rngN (by
    simp only [seqO_nx, seqO_rt, seqO_exc, ev_seqM, ev_skipM, ev_cst, ev_vr, ev_aNil, ev_noO, ev_tYesM, List.getElem?_cons_zero, List.getElem?_cons_succ, List.set, Res.bind_ok, bindS_ok, ap2_dat, ap1_dat, apN1, apN2, ofO_some, peek_dat, truD_bool, Bool.not_true, Bool.not_false, ixD_tup, ixD_lst, atI_0, atI_1, toDs_nil, toD_dat, ek_op2, k_op2, k_op2b, ek_op1, k_op1, ek_isiM, ek_opN, k_opN, ek_aCons, k_cons, k_cons2, ek_tupM, ek_lstD, k_tup, k_tup2_0, k_tup2_1, k_tup2_2, k_tup2_3, k_tup2_4, k_tup2_5, k_tup2_6, k_tup2_7, k_tup2_8, k_tup2_9, k_tup2_10, k_tup2_11, k_tup2_12, ek_toDs, k_toDs, k_toDs2, ek_callM, ek_ifE, k_ifE_t, k_ifE_f, truO_some, ofB_some, ek_truM, k_tru, ek_andT, k_andT_t, k_andT_f, ek_orT, k_orT_t, k_orT_f, ek_notT, k_notT, ek_andE, k_andE_t, k_andE_f, ek_orE, k_orE_t, k_orE_f, ek_notE, k_notE, ek_setM, k_set, ek_parM, k_par, ek_ifS, k_if_t, k_if_f, ek_retM, k_ret, ek_dropM, k_drop, ek_forM, k_for, ek_itM, k_it_l, k_it_t, ek_zipM, k_zip, k_zip2_l, k_zip2_t, ek_someO, k_some, ek_sliceM, k_sl, k_sl2, k_sl3, apS_dat, ek_parGM, k_pg2, k_pg3, ek_parM3, k_p3, ek_lstC, k_lst0, lenD_tup, List.length_map]) (by have := h.h4; omega)
  refine ⟨o4', o7', ?_⟩
  simp only [seqO_nx, seqO_rt, seqO_exc, ev_seqM, ev_skipM, ev_cst, ev_vr, ev_aNil, ev_noO, ev_tYesM, List.getElem?_cons_zero, List.getElem?_cons_succ, List.set, Res.bind_ok, bindS_ok, ap2_dat, ap1_dat, apN1, apN2, ofO_some, peek_dat, truD_bool, Bool.not_true, Bool.not_false, ixD_tup, ixD_lst, atI_0, atI_1, toDs_nil, toD_dat, ek_op2, k_op2, k_op2b, ek_op1, k_op1, ek_isiM, ek_opN, k_opN, ek_aCons, k_cons, k_cons2, ek_tupM, ek_lstD, k_tup, k_tup2_0, k_tup2_1, k_tup2_2, k_tup2_3, k_tup2_4, k_tup2_5, k_tup2_6, k_tup2_7, k_tup2_8, k_tup2_9, k_tup2_10, k_tup2_11, k_tup2_12, ek_toDs, k_toDs, k_toDs2, ek_callM, ek_ifE, k_ifE_t, k_ifE_f, truO_some, ofB_some, ek_truM, k_tru, ek_andT, k_andT_t, k_andT_f, ek_orT, k_orT_t, k_orT_f, ek_notT, k_notT, ek_andE, k_andE_t, k_andE_f, ek_orE, k_orE_t, k_orE_f, ek_notE, k_notE, ek_setM, k_set, ek_parM, k_par, ek_ifS, k_if_t, k_if_f, ek_retM, k_ret, ek_dropM, k_drop, ek_forM, k_for, ek_itM, k_it_l, k_it_t, ek_zipM, k_zip, k_zip2_l, k_zip2_t, ek_someO, k_some, ek_sliceM, k_sl, k_sl2, k_sl3, apS_dat, ek_parGM, k_pg2, k_pg3, ek_parM3, k_p3, ek_lstC, k_lst0, ↓e2, e1]
/-! the means -/
theorem rt_tuple {q : Rat} {st : Store} : isiD "tuple" (rt q) = some (.bool true) := rfl
theorem lmean_dots {rows : List (List Nat)} {w N : Nat} {c : List Rat} (h : Scr rows w) (hc : c.length = 3) (st : Store) : d_u_law_mean [.dat (dotsD N c rows)] st = .ok (.dat (colD (meanC (rows.flatten.map (dotC N c))))) st := by
  have n20 := h.n20
  have h4 := h.h4
  refine lmean_run (enc := dotD N c) (cl := dotC N c) (s := 1) h.h0 h.w0 h.wid (by omega) (by omega) (fun p _ => by unfold dotC; rw [List.length_map, hc]) (fun p _ q hq => by
    obtain ⟨z, _, rfl⟩ := List.mem_map.mp hq
    exact dotv_sz N z p) (by omega) (by decide) (fun p _ k hk => ?_) st
  refine ⟨nI (dotv N (c.getD k 0) p), ?_, .inr ⟨rfl, ?_⟩⟩
  · show atI (c.map _) (k : Int) = _
    rw [Pd.atI_nat]
    exact at3 (f := fun q => nI (dotv N q p)) hc hk
  · have : (dotC N c p).getD k 0 = ((dotv N (c.getD k 0) p : Nat) : Rat) := by
      unfold dotC
      rw [List.getD_eq_getElem?_getD, List.getElem?_map, List.getElem?_eq_getElem (by omega), List.getD_eq_getElem?_getD, List.getElem?_eq_getElem (by omega)]
      rfl
    rw [this]
    rfl
theorem lmean_cols {rows : List (List (List Rat))} {w s : Nat} (h0 : 0 < rows.length) (w0 : 0 < w) (hw : ∀ r ∈ rows, r.length = w) (hn : rows.length * w < 100) (hr : rows.length < 100) (h3 : ∀ c ∈ rows.flatten, c.length = 3) (hs : ∀ c ∈ rows.flatten, ∀ q ∈ c, Sz s q) (hb : 1 + rows.length * w * (s + 1) ≤ 150) (hs2 : s ≤ 150) (st : Store) :
    d_u_law_mean [.dat (.tuple (rows.map fun r => .tuple (r.map colD)))] st = .ok (.dat (colD (meanC rows.flatten))) st := by
  have e := lmean_run (enc := colD) (cl := id) (s := s) h0 w0 hw hn hr h3 hs hb hs2 (fun c hc k hk => ⟨rt (c.getD k 0), by
    show atI (c.map rt) (k : Int) = _
    rw [Pd.atI_nat]
    exact at3 (f := rt) (h3 c hc) hk, .inl ⟨rfl, rfl⟩⟩) st
  rw [List.map_id] at e
  exact e
end K27

set_option Elab.async false
set_option linter.all false
set_option maxRecDepth 100000
set_option maxHeartbeats 4000000
set_option exponentiation.threshold 5000
/-! K27Dv: the dots are due, whole. -/
namespace K27
open PySem L2 Pd
theorem meanC_at {cs : List (List Rat)} {k : Nat} (hk : k < 3) : (meanC cs).getD k 0 = sumR (cs.map fun c => c.getD k 0) * (1 / (cs.length : Rat)) := by
  unfold meanC
  rw [List.getD_eq_getElem?_getD, List.getElem?_map, List.getElem?_range hk]
  rfl
theorem dotC_at {N k p : Nat} {c : List Rat} (hc : c.length = 3) (hk : k < 3) : (dotC N c p).getD k 0 = ((dotv N (c.getD k 0) p : Nat) : Rat) := by
  unfold dotC
  rw [List.getD_eq_getElem?_getD, List.getElem?_map, List.getElem?_eq_getElem (by omega), List.getD_eq_getElem?_getD, List.getElem?_eq_getElem (by omega)]
  rfl
theorem meanC_len (cs : List (List Rat)) : (meanC cs).length = 3 := by unfold meanC; simp
theorem mean_dist {rows : List (List Nat)} {w : Nat} {c : List Rat} (h : Scr rows w) (hc : Pl 5 c) (st : Store) :
    ∃ x : Rat, d_u_law_distance [.dat (colD (meanC (rows.flatten.map (dotC (rows.length * w) c)))), .dat (colD c)] st = .ok (.dat (rt x)) st ∧ Sz 151 x ∧ x ≤ 1 / (2 * ((rows.length * w : Nat) : Rat)) := by
  have n20 := h.n20
  have fl := h.flen
  have f0 : 0 < rows.length * w := Nat.mul_pos h.h0 h.w0
  have hN : (0 : Rat) < ((rows.length * w : Nat) : Rat) := Rat.natCast_pos.mpr f0
  have hl : (rows.flatten.map (dotC (rows.length * w) c)).length = rows.length * w := by rw [List.length_map, fl]
  have hm : ∀ k, k < 3 → ((rows.flatten.map (dotC (rows.length * w) c)).map fun c => c.getD k 0) = rows.flatten.map fun p => ((dotv (rows.length * w) (c.getD k 0) p : Nat) : Rat) := fun k hk => by
    rw [List.map_map]
    refine List.map_congr_left fun p _ => ?_
    exact dotC_at hc.len hk
  refine dist_run (meanC_len _) hc.len (fun q hq => ?_) (fun q hq => (hc.sz q hq).mono (by decide)) ?_ (fun k hk => ?_) st
  · unfold meanC at hq
    obtain ⟨k, hk, rfl⟩ := List.mem_map.mp hq
    have hk3 := List.mem_range.mp hk
    rw [hm k hk3, hl]
    have z := sumR_sz 1 (l := rows.flatten.map fun p => ((dotv (rows.length * w) (c.getD k 0) p : Nat) : Rat)) (fun q hq => by
      obtain ⟨p, _, rfl⟩ := List.mem_map.mp hq
      exact dotv_sz _ _ p) (by rw [List.length_map, fl]; omega) (by decide)
    rw [List.length_map, fl] at z
    exact (mul_sz z (over_sz f0 (show rows.length * w < 2 ^ 10 by omega) (by decide))).mono (by omega)
  · have e : (1 : Rat) / (2 * ((rows.length * w : Nat) : Rat)) = (1 / 2) * (1 / ((rows.length * w : Nat) : Rat)) := by grind
    rw [e]
    refine Rat.mul_nonneg (by decide +kernel) (Rat.le_of_lt ?_)
    rw [Rat.lt_div_iff hN]
    grind
  · rw [meanC_at hk, hm k hk, hl]
    obtain ⟨a, b⟩ := hc.in01 _ (getD_mem hc.len hk)
    exact mean_off f0 a b h.perm
theorem all2_pl {α : Type} {k : Nat} {P : α → Rat → Prop} {as : List α} {qs : List Rat} (h : All2 P as qs) (hl : as.length = 3) (hp : ∀ a b, P a b → In01 k b) : Pl k qs :=
  ⟨by rw [h.len, hl], fun q hq => (h.right hp q hq).1, fun q hq => (h.right hp q hq).2⟩
theorem dotsdue_run {rows : List (List Nat)} {w : Nat} (h : Scr rows w) (xs ys : List Int) : ∃ ys', d_u_law_are_dots_due [.cel 1, .dat (scrD rows)] (S2 xs ys) = .ok (.dat (.bool true)) (S2 xs ys') := by
  have n20 := h.n20
  have f0 : 0 < rows.length * w := Nat.mul_pos h.h0 h.w0
  obtain ⟨one, st1, ⟨ys1, rfl⟩, e1, a1⟩ := lcM_drawN (it := rng1M (aCons (cst (.int 3)) aNil)) (i := 10) (vs := [10]) (e := one_e) (s := [some (.cel 1), some (.dat (scrD rows)), none, none, none, none, none, none, none, none, none, none]) (st := S2 xs ys) (st0 := S2 xs ys) (enc := fun k : Nat => PyData.int k) (out := rt) (I := DS xs) (fun _ q => In01 5 q) (l := List.range 3) (run_rngN rfl (by decide)) ⟨ys, rfl⟩ (slN _ (by simp)) (fun k _ st hst => one_run rfl xs hst)
  have p1 : Pl 5 one := all2_pl a1 (by simp) fun _ _ q => q
  obtain ⟨other, st2, ⟨ys2, rfl⟩, e2, a2⟩ := lcM_drawN (it := itM (vr 2)) (i := 11) (vs := [11]) (e := other_e) (s := [some (.cel 1), some (.dat (scrD rows)), some (.dat (colD one)), none, none, none, none, none, none, none, none, none]) (st := S2 xs ys1) (st0 := S2 xs ys1) (enc := rt) (out := rt) (I := DS xs) (fun p q => In01 10 q ∧ p ≤ q) (l := one) rfl ⟨ys1, rfl⟩ (slN _ (by rw [p1.len]; decide)) (fun p hp st hst => other_run rfl rfl ⟨p1.sz p hp, p1.in01 p hp⟩ xs hst)
  have p2 : Pl 10 other := all2_pl a2 p1.len fun _ _ q => q.1
  have hab : ∀ k, k < 3 → one.getD k 0 ≤ other.getD k 0 := fun k hk => (all2_get a2 k (by rw [p1.len]; exact hk)).2
  have p1' : Pl 100 one := ⟨p1.len, fun q hq => (p1.sz q hq).mono (by decide), p1.in01⟩
  have p2' : Pl 100 other := ⟨p2.len, fun q hq => (p2.sz q hq).mono (by decide), p2.in01⟩
  have t1 : _ = Res.ok (Vl.dat (colD one)) (S2 xs ys1) := tupLc e1
  have t2 : _ = Res.ok (Vl.dat (colD other)) (S2 xs ys2) := tupLc e2
  obtain ⟨st, hst⟩ : ∃ st, st = S2 xs ys2 := ⟨_, rfl⟩
  refine ⟨ys2, call_S2 rfl ?_⟩
  rw [← hst] at t2 ⊢
  have g1 := told2 (dots_run h p1' st)
  have g2 := told2 (dots_run h p2' st)
  have l1 := ldots_run h p1' st
  have l2 := ldots_run h p2' st
  have n1 := neD_refl ((lay_dots (rows.length * w) one rows).shaped (by decide))
  have n2 := neD_refl ((lay_dots (rows.length * w) other rows).shaped (by decide))
  obtain ⟨o4, o7, tw⟩ := two_run h p1.len p2.len hab (N := rows.length * w) (some (.cel 1)) (some (.dat (colD one))) (some (.dat (colD other))) none none none none none st
  have m1 := told1 (b := .none) (mean_dots h (N := rows.length * w) p1.len st)
  have m2 := lmean_dots h (N := rows.length * w) p1.len st
  have m3 := neD_refl ((lay_col (meanC (rows.flatten.map (dotC (rows.length * w) one)))).shaped (by decide))
  have hf : ∀ c ∈ [[one, other], [other, other]].flatten, Pl 10 c := fun c hc => by
    have : c = one ∨ c = other := by simpa using hc
    rcases this with rfl | rfl
    · exact ⟨p1.len, fun q hq => (p1.sz q hq).mono (by decide), p1.in01⟩
    · exact p2
  have hw2 : ∀ r ∈ [[one, other], [other, other]], r.length = 2 := fun r hr => by
    have : r = [one, other] ∨ r = [other, other] := by simpa using hr
    rcases this with rfl | rfl <;> rfl
  have m4 : d_u_law_told [.dat (.int 1), .dat (.tuple [.tuple [colD one, colD other], .tuple [colD other, colD other]]), .dat .none] st = .ok (.dat (colD (meanC [[one, other], [other, other]].flatten))) st :=
    told1 (mean_cols (rows := [[one, other], [other, other]]) (w := 2) (s := 10) (by simp) (by decide) hw2 (show 2 * 2 < 100 by decide) (show 2 < 100 by decide) (fun c hc => (hf c hc).len) (fun c hc => (hf c hc).sz) (show 1 + 2 * 2 * (10 + 1) ≤ 150 by decide) (by decide) st)
  have m5 : d_u_law_mean [.dat (.tuple [.tuple [colD one, colD other], .tuple [colD other, colD other]])] st = .ok (.dat (colD (meanC [[one, other], [other, other]].flatten))) st :=
    lmean_cols (rows := [[one, other], [other, other]]) (w := 2) (s := 10) (by simp) (by decide) hw2 (show 2 * 2 < 100 by decide) (show 2 < 100 by decide) (fun c hc => (hf c hc).len) (fun c hc => (hf c hc).sz) (show 1 + 2 * 2 * (10 + 1) ≤ 150 by decide) (by decide) st
  have m6 := neD_refl ((lay_col (meanC [[one, other], [other, other]].flatten)).shaped (by decide))
  obtain ⟨x, d1, d2, d3⟩ := mean_dist h p1 st
  have many : ∀ s : Slots, s[1]? = some (some (.dat (scrD rows))) → op2 mulD (opN lenD (aCons (vr 1) aNil)) (opN lenD (aCons (op2 ixD (vr 1) (cst (.int 0))) aNil)) s st = .ok (.dat (nI (rows.length * w))) st := fun s h1 => by
    obtain ⟨r0, e0, l0⟩ := h.first
    have g0 : (rows.map rowD)[0]? = some (rowD r0) := by rw [List.getElem?_map, e0]; rfl
    have hv : vr 1 s st = .ok (.dat (scrD rows)) st := by rw [ev_vr, h1]
    have m := mulOk_lt (i := (rows.length : Int)) (j := (w : Int)) (k := 10) (l := 10) (by have := h.h4; omega) (by have := h.w5; omega) (by decide)
    simp only [seqO_nx, seqO_rt, seqO_exc, ev_seqM, ev_skipM, ev_cst, ev_vr, ev_aNil, ev_noO, ev_tYesM, List.getElem?_cons_zero, List.getElem?_cons_succ, List.set, Res.bind_ok, bindS_ok, ap2_dat, ap1_dat, apN1, apN2, ofO_some, peek_dat, truD_bool, Bool.not_true, Bool.not_false, ixD_tup, ixD_lst, atI_0, atI_1, toDs_nil, toD_dat, ek_op2, k_op2, k_op2b, ek_op1, k_op1, ek_isiM, ek_opN, k_opN, ek_aCons, k_cons, k_cons2, ek_tupM, ek_lstD, k_tup, k_tup2_0, k_tup2_1, k_tup2_2, k_tup2_3, k_tup2_4, k_tup2_5, k_tup2_6, k_tup2_7, k_tup2_8, k_tup2_9, k_tup2_10, k_tup2_11, k_tup2_12, ek_toDs, k_toDs, k_toDs2, ek_callM, ek_ifE, k_ifE_t, k_ifE_f, truO_some, ofB_some, ek_truM, k_tru, ek_andT, k_andT_t, k_andT_f, ek_orT, k_orT_t, k_orT_f, ek_notT, k_notT, ek_andE, k_andE_t, k_andE_f, ek_orE, k_orE_t, k_orE_f, ek_notE, k_notE, ek_setM, k_set, ek_parM, k_par, ek_ifS, k_if_t, k_if_f, ek_retM, k_ret, ek_dropM, k_drop, ek_forM, k_for, ek_itM, k_it_l, k_it_t, ek_zipM, k_zip, k_zip2_l, k_zip2_t, ek_someO, k_some, ek_sliceM, k_sl, k_sl2, k_sl3, apS_dat, ek_parGM, k_pg2, k_pg3, ek_parM3, k_p3, ek_lstC, k_lst0, ↓hv, lenD_tup, List.length_map, g0, l0, mulD_int, m, if_true]
    rw [nI, Int.natCast_mul]
  have mk : mulOk 2 ((rows.length * w : Nat) : Int) = true := mulOk_lt (k := 2) (l := 10) (by decide) (show rows.length * w < 2 ^ 10 by omega) (by decide)
  have ro := rt_over (k := 2 * (rows.length * w)) (by omega)
  have ro2 : PyData.tuple [.int 1, .int (2 * ((rows.length * w : Nat) : Int))] = rt (1 / ((2 * (rows.length * w) : Nat) : Rat)) := by
    rw [ro, Int.natCast_mul 2]
    rfl
  have bnd : (1 : Rat) / ((2 * (rows.length * w) : Nat) : Rat) = 1 / (2 * ((rows.length * w : Nat) : Rat)) := by
    rw [Rat.natCast_mul 2]
    rfl
  have d4 := lless_run st ((over_sz (k := 2 * (rows.length * w)) (by omega) (show 2 * (rows.length * w) < 2 ^ 10 by omega) (by decide)).mono (by decide : 10 ≤ 1000)) (d2.mono (by decide : 151 ≤ 1000))
  rw [decide_eq_false (by rw [bnd]; grind)] at d4
  show b_u_law_are_dots_due [some (.cel 1), some (.dat (scrD rows)), none, none, none, none, none, none, none, none, none, none] (S2 xs ys) = _
  generalize meanC [[one, other], [other, other]].flatten = mc at *
  rw [b_u_law_are_dots_due]
  simp only [seqO_nx, seqO_rt, seqO_exc, ev_seqM, ev_skipM, ev_cst, ev_vr, ev_aNil, ev_noO, ev_tYesM, List.getElem?_cons_zero, List.getElem?_cons_succ, List.set, Res.bind_ok, bindS_ok, ap2_dat, ap1_dat, apN1, apN2, ofO_some, peek_dat, truD_bool, Bool.not_true, Bool.not_false, ixD_tup, ixD_lst, atI_0, atI_1, toDs_nil, toD_dat, ek_op2, k_op2, k_op2b, ek_op1, k_op1, ek_isiM, ek_opN, k_opN, ek_aCons, k_cons, k_cons2, ek_tupM, ek_lstD, k_tup, k_tup2_0, k_tup2_1, k_tup2_2, k_tup2_3, k_tup2_4, k_tup2_5, k_tup2_6, k_tup2_7, k_tup2_8, k_tup2_9, k_tup2_10, k_tup2_11, k_tup2_12, ek_toDs, k_toDs, k_toDs2, ek_callM, ek_ifE, k_ifE_t, k_ifE_f, truO_some, ofB_some, ek_truM, k_tru, ek_andT, k_andT_t, k_andT_f, ek_orT, k_orT_t, k_orT_f, ek_notT, k_notT, ek_andE, k_andE_t, k_andE_f, ek_orE, k_orE_t, k_orE_f, ek_notE, k_notE, ek_setM, k_set, ek_parM, k_par, ek_ifS, k_if_t, k_if_f, ek_retM, k_ret, ek_dropM, k_drop, ek_forM, k_for, ek_itM, k_it_l, k_it_t, ek_zipM, k_zip, k_zip2_l, k_zip2_t, ek_someO, k_some, ek_sliceM, k_sl, k_sl2, k_sl3, apS_dat, ek_parGM, k_pg2, k_pg3, ek_parM3, k_p3, ek_lstC, k_lst0, ↓t1, ↓t2, g1, g2, l1, l2, n1, n2, ↓tw, m1, m2, m3, m4, m5, m6, ↓many, mulD_int, mk, if_true, nI, ro2, d1, d4]
end K27

set_option Elab.async false
set_option linter.all false
set_option maxRecDepth 100000
set_option maxHeartbeats 4000000
set_option exponentiation.threshold 5000
/-! K27Sp: levels, what lies nearest, what is spread. -/
namespace K27
open PySem L2 Pd
structure Lv (ms : List Nat) : Prop where
  len : ms.length = 3
  two : ∀ m ∈ ms, 2 ≤ m ∧ m ≤ 256
theorem arelevels_run {ms : List Nat} (h : Lv ms) (st : Store) : d_are_levels [.dat (lvD ms)] st = .ok (.dat (.bool true)) st := by
  refine call_rt rfl ?_
  show b_are_levels [some (.dat (lvD ms)), none] st = _
  have e1 : opN allD (aCons (lcM (itM (vr 0)) (bName 1) [1] tYesM (callM d_is_within (aCons (vr 1) (aCons (cst (.int 2)) (aCons (cst c_MOST_LEVELS) aNil))))) aNil) [some (.dat (lvD ms)), none] st = .ok (.dat (.bool (ms.all fun _ => true))) st :=
    allLc (lcM_mapN (enc := nI) (fun _ => .bool true) rfl (slN _ (by rw [h.len]; decide)) fun m hm => by
      have w := within_run m 2 256 st
      obtain ⟨a, b⟩ := h.two m hm
      rw [decide_eq_true (by omega : (2 : Int) ≤ m), decide_eq_true (by omega : (m : Int) ≤ 256)] at w
      simp only [seqO_nx, seqO_rt, seqO_exc, ev_seqM, ev_skipM, ev_cst, ev_vr, ev_aNil, ev_noO, ev_tYesM, List.getElem?_cons_zero, List.getElem?_cons_succ, List.set, Res.bind_ok, bindS_ok, ap2_dat, ap1_dat, apN1, apN2, ofO_some, peek_dat, truD_bool, Bool.not_true, Bool.not_false, ixD_tup, ixD_lst, atI_0, atI_1, toDs_nil, toD_dat, ek_op2, k_op2, k_op2b, ek_op1, k_op1, ek_isiM, ek_opN, k_opN, ek_aCons, k_cons, k_cons2, ek_tupM, ek_lstD, k_tup, k_tup2_0, k_tup2_1, k_tup2_2, k_tup2_3, k_tup2_4, k_tup2_5, k_tup2_6, k_tup2_7, k_tup2_8, k_tup2_9, k_tup2_10, k_tup2_11, k_tup2_12, ek_toDs, k_toDs, k_toDs2, ek_callM, ek_ifE, k_ifE_t, k_ifE_f, truO_some, ofB_some, ek_truM, k_tru, ek_andT, k_andT_t, k_andT_f, ek_orT, k_orT_t, k_orT_f, ek_notT, k_notT, ek_andE, k_andE_t, k_andE_f, ek_orE, k_orE_t, k_orE_f, ek_notE, k_notE, ek_setM, k_set, ek_parM, k_par, ek_ifS, k_if_t, k_if_f, ek_retM, k_ret, ek_dropM, k_drop, ek_forM, k_for, ek_itM, k_it_l, k_it_t, ek_zipM, k_zip, k_zip2_l, k_zip2_t, ek_someO, k_some, ek_sliceM, k_sl, k_sl2, k_sl3, apS_dat, ek_parGM, k_pg2, k_pg3, ek_parM3, k_p3, ek_lstC, k_lst0, wipeS, nI, c_MOST_LEVELS, w, Bool.and_self])
  have e2 : lenD [lvD ms] = some (.int 3) := by
    unfold lvD
    rw [lenD_tup, List.length_map, h.len]
    rfl
  have e3 : isiD "tuple" (lvD ms) = some (.bool true) := rfl
  rw [b_are_levels]
  simp only [seqO_nx, seqO_rt, seqO_exc, ev_seqM, ev_skipM, ev_cst, ev_vr, ev_aNil, ev_noO, ev_tYesM, List.getElem?_cons_zero, List.getElem?_cons_succ, List.set, Res.bind_ok, bindS_ok, ap2_dat, ap1_dat, apN1, apN2, ofO_some, peek_dat, truD_bool, Bool.not_true, Bool.not_false, ixD_tup, ixD_lst, atI_0, atI_1, toDs_nil, toD_dat, ek_op2, k_op2, k_op2b, ek_op1, k_op1, ek_isiM, ek_opN, k_opN, ek_aCons, k_cons, k_cons2, ek_tupM, ek_lstD, k_tup, k_tup2_0, k_tup2_1, k_tup2_2, k_tup2_3, k_tup2_4, k_tup2_5, k_tup2_6, k_tup2_7, k_tup2_8, k_tup2_9, k_tup2_10, k_tup2_11, k_tup2_12, ek_toDs, k_toDs, k_toDs2, ek_callM, ek_ifE, k_ifE_t, k_ifE_f, truO_some, ofB_some, ek_truM, k_tru, ek_andT, k_andT_t, k_andT_f, ek_orT, k_orT_t, k_orT_f, ek_notT, k_notT, ek_andE, k_andE_t, k_andE_f, ek_orE, k_orE_t, k_orE_f, ek_notE, k_notE, ek_setM, k_set, ek_parM, k_par, ek_ifS, k_if_t, k_if_f, ek_retM, k_ret, ek_dropM, k_drop, ek_forM, k_for, ek_itM, k_it_l, k_it_t, ek_zipM, k_zip, k_zip2_l, k_zip2_t, ek_someO, k_some, ek_sliceM, k_sl, k_sl2, k_sl3, apS_dat, ek_parGM, k_pg2, k_pg3, ek_parM3, k_p3, ek_lstC, k_lst0, e3, e2, eqD_int, decide_true, ↓e1]
  simp
theorem putto_run {ms : List Nat} {c : List Rat} (h : Lv ms) (hc : Pl 1000 c) (st : Store) : d_put_to [.dat (lvD ms), .dat (colD c)] st = .ok (.dat (colD (List.zipWith putR ms c))) st := by
  refine call_rt rfl ?_
  show b_put_to [some (.dat (lvD ms)), some (.dat (colD c))] st = _
  have e1 := arelevels_run h st
  have e2 := isplain_run hc.len hc.in01 st
  have e3 := check_run st
  have e4 := putby_run h.len hc.len h.two (fun q hq => ⟨hc.sz q hq, hc.in01 q hq⟩) st
  rw [b_put_to]
  simp only [seqO_nx, seqO_rt, seqO_exc, ev_seqM, ev_skipM, ev_cst, ev_vr, ev_aNil, ev_noO, ev_tYesM, List.getElem?_cons_zero, List.getElem?_cons_succ, List.set, Res.bind_ok, bindS_ok, ap2_dat, ap1_dat, apN1, apN2, ofO_some, peek_dat, truD_bool, Bool.not_true, Bool.not_false, ixD_tup, ixD_lst, atI_0, atI_1, toDs_nil, toD_dat, ek_op2, k_op2, k_op2b, ek_op1, k_op1, ek_isiM, ek_opN, k_opN, ek_aCons, k_cons, k_cons2, ek_tupM, ek_lstD, k_tup, k_tup2_0, k_tup2_1, k_tup2_2, k_tup2_3, k_tup2_4, k_tup2_5, k_tup2_6, k_tup2_7, k_tup2_8, k_tup2_9, k_tup2_10, k_tup2_11, k_tup2_12, ek_toDs, k_toDs, k_toDs2, ek_callM, ek_ifE, k_ifE_t, k_ifE_f, truO_some, ofB_some, ek_truM, k_tru, ek_andT, k_andT_t, k_andT_f, ek_orT, k_orT_t, k_orT_f, ek_notT, k_notT, ek_andE, k_andE_t, k_andE_f, ek_orE, k_orE_t, k_orE_f, ek_notE, k_notE, ek_setM, k_set, ek_parM, k_par, ek_ifS, k_if_t, k_if_f, ek_retM, k_ret, ek_dropM, k_drop, ek_forM, k_for, ek_itM, k_it_l, k_it_t, ek_zipM, k_zip, k_zip2_l, k_zip2_t, ek_someO, k_some, ek_sliceM, k_sl, k_sl2, k_sl3, apS_dat, ek_parGM, k_pg2, k_pg3, ek_parM3, k_p3, ek_lstC, k_lst0, e1, e2, e3, e4]
/-! what lies nearest -/
theorem level_run {k m : Nat} (hk : k < 300) (h2 : 2 ≤ m) (hm : m ≤ 256) (st : Store) : d_u_law_r [.dat (.int k), .dat (.int ((m : Int) - 1))] st = .ok (.dat (rt ((k : Rat) / ((m : Rat) - 1)))) st := by
  have e := rr_run (n := (k : Int)) (d := (m : Int) - 1) st (Nat.lt_of_lt_of_le (show ((k : Int)).natAbs < 2 ^ 9 by omega) (Nat.pow_le_pow_right (by decide) (by decide))) (by omega) (Nat.lt_of_lt_of_le (show ((m : Int) - 1).natAbs < 2 ^ 9 by omega) (Nat.pow_le_pow_right (by decide) (by decide)))
  rw [Rat.divInt_eq_div, Rat.intCast_sub, Rat.intCast_natCast, Rat.intCast_natCast] at e
  exact e
theorem level_sz {k m : Nat} (hk : k < 300) (h2 : 2 ≤ m) (hm : m ≤ 256) : Sz 9 ((k : Rat) / ((m : Rat) - 1)) := by
  have e : (k : Rat) / ((m : Rat) - 1) = Rat.divInt (k : Int) ((m : Int) - 1) := by
    rw [Rat.divInt_eq_div, Rat.intCast_sub, Rat.intCast_natCast, Rat.intCast_natCast]
    rfl
  rw [e]
  exact divInt_sz (by decide) (by omega) (by omega)
noncomputable abbrev near_loop : SM := (seqM (setM 4 (callM d_u_law_sub (aCons (callM d_u_law_r (aCons (vr 3) (aCons (op2 subD (vr 0) (cst (.int 1))) aNil))) (aCons (vr 1) aNil))))
        (seqM (setM 4 (tupM (aCons (opN absD (aCons (op2 ixD (vr 4) (cst (.int 0))) aNil)) (aCons (op2 ixD (vr 4) (cst (.int 1))) aNil))))
        (setM 2 (ifE (orT (truM (op2 isND (vr 2) (cst .none))) (notT (truM (callM d_u_law_less (aCons (op2 ixD (vr 2) (cst (.int 0))) (aCons (vr 4) aNil)))))) (tupM (aCons (vr 4) (aCons (callM d_u_law_r (aCons (vr 3) (aCons (op2 subD (vr 0) (cst (.int 1))) aNil))) aNil))) (vr 2)))))
def bestD (m : Nat) (q : Rat) (i : Nat) : D := .tuple [rt (farR m q i), rt ((i : Rat) / ((m : Rat) - 1))]
theorem near_step {m k : Nat} {q : Rat} (h2 : 2 ≤ m) (hm : m ≤ 256) (hk : k < m) (hq : Sz 150 q) {i0 : Nat} (hi : ixo m q = i0) (d2 : D) (hd : (k = 0 ∧ d2 = .none) ∨ (0 < k ∧ d2 = bestD m q (min i0 (k - 1)))) (o3 o4 : Option Vl) (st : Store) :
    near_loop [some (.dat (nI m)), some (.dat (rt q)), some (.dat d2), some (.dat (.int k)), o4] st = .nx [some (.dat (nI m)), some (.dat (rt q)), some (.dat (bestD m q (min i0 k))), some (.dat (.int k)), some (.dat (rt (farR m q k)))] st := by
  have l1 := level_run (k := k) (by omega) h2 hm st
  have z1 := level_sz (k := k) (by omega) h2 hm
  have f1 := lsub_run st (z1.mono (by decide : 9 ≤ 190)) (hq.mono (by decide : 150 ≤ 190))
  have f2 := absd ((k : Rat) / ((m : Rat) - 1) - q) [some (.dat (nI m)), some (.dat (rt q)), some (.dat d2), some (.dat (.int k)), some (.dat (rt ((k : Rat) / ((m : Rat) - 1) - q)))] st 4 rfl
  have fe : rabs ((k : Rat) / ((m : Rat) - 1) - q) = farR m q k := rfl
  have zf : ∀ j, j < 300 → Sz 160 (farR m q j) := fun j hj => (rabs_sz (sub_sz (level_sz (k := j) hj h2 hm) hq)).mono (by decide)
  rw [fe] at f2
  rw [near_loop]
  rcases hd with ⟨rfl, rfl⟩ | ⟨h0, rfl⟩
  · simp only [seqO_nx, seqO_rt, seqO_exc, ev_seqM, ev_skipM, ev_cst, ev_vr, ev_aNil, ev_noO, ev_tYesM, List.getElem?_cons_zero, List.getElem?_cons_succ, List.set, Res.bind_ok, bindS_ok, ap2_dat, ap1_dat, apN1, apN2, ofO_some, peek_dat, truD_bool, Bool.not_true, Bool.not_false, ixD_tup, ixD_lst, atI_0, atI_1, toDs_nil, toD_dat, ek_op2, k_op2, k_op2b, ek_op1, k_op1, ek_isiM, ek_opN, k_opN, ek_aCons, k_cons, k_cons2, ek_tupM, ek_lstD, k_tup, k_tup2_0, k_tup2_1, k_tup2_2, k_tup2_3, k_tup2_4, k_tup2_5, k_tup2_6, k_tup2_7, k_tup2_8, k_tup2_9, k_tup2_10, k_tup2_11, k_tup2_12, ek_toDs, k_toDs, k_toDs2, ek_callM, ek_ifE, k_ifE_t, k_ifE_f, truO_some, ofB_some, ek_truM, k_tru, ek_andT, k_andT_t, k_andT_f, ek_orT, k_orT_t, k_orT_f, ek_notT, k_notT, ek_andE, k_andE_t, k_andE_f, ek_orE, k_orE_t, k_orE_f, ek_notE, k_notE, ek_setM, k_set, ek_parM, k_par, ek_ifS, k_if_t, k_if_f, ek_retM, k_ret, ek_dropM, k_drop, ek_forM, k_for, ek_itM, k_it_l, k_it_t, ek_zipM, k_zip, k_zip2_l, k_zip2_t, ek_someO, k_some, ek_sliceM, k_sl, k_sl2, k_sl3, apS_dat, ek_parGM, k_pg2, k_pg3, ek_parM3, k_p3, ek_lstC, k_lst0, nI, subD_int, l1, f1, ↓f2, isND_n]
    rw [bestD, Nat.min_zero]
  · have hb : isND (bestD m q (min i0 (k - 1))) .none = some (.bool false) := rfl
    have x0 : ixD (bestD m q (min i0 (k - 1))) (.int 0) = some (rt (farR m q (min i0 (k - 1)))) := rfl
    have f3 := lless_run st ((zf (min i0 (k - 1)) (by omega)).mono (by decide : 160 ≤ 1000)) ((zf k (by omega)).mono (by decide : 160 ≤ 1000))
    by_cases c : k ≤ i0
    · have e1 : min i0 (k - 1) = k - 1 := by omega
      have e2 : min i0 k = k := by omega
      obtain ⟨j, rfl⟩ : ∃ j, k = j + 1 := ⟨k - 1, by omega⟩
      have hd := far_down (q := q) h2 (k := j) (by omega)
      have e3 : j + 1 - 1 = j := by omega
      rw [e3] at e1
      rw [e3, e1] at f3 hb x0 f2 ⊢
      rw [decide_eq_false (Rat.not_lt.mpr hd)] at f3
      simp only [seqO_nx, seqO_rt, seqO_exc, ev_seqM, ev_skipM, ev_cst, ev_vr, ev_aNil, ev_noO, ev_tYesM, List.getElem?_cons_zero, List.getElem?_cons_succ, List.set, Res.bind_ok, bindS_ok, ap2_dat, ap1_dat, apN1, apN2, ofO_some, peek_dat, truD_bool, Bool.not_true, Bool.not_false, ixD_tup, ixD_lst, atI_0, atI_1, toDs_nil, toD_dat, ek_op2, k_op2, k_op2b, ek_op1, k_op1, ek_isiM, ek_opN, k_opN, ek_aCons, k_cons, k_cons2, ek_tupM, ek_lstD, k_tup, k_tup2_0, k_tup2_1, k_tup2_2, k_tup2_3, k_tup2_4, k_tup2_5, k_tup2_6, k_tup2_7, k_tup2_8, k_tup2_9, k_tup2_10, k_tup2_11, k_tup2_12, ek_toDs, k_toDs, k_toDs2, ek_callM, ek_ifE, k_ifE_t, k_ifE_f, truO_some, ofB_some, ek_truM, k_tru, ek_andT, k_andT_t, k_andT_f, ek_orT, k_orT_t, k_orT_f, ek_notT, k_notT, ek_andE, k_andE_t, k_andE_f, ek_orE, k_orE_t, k_orE_f, ek_notE, k_notE, ek_setM, k_set, ek_parM, k_par, ek_ifS, k_if_t, k_if_f, ek_retM, k_ret, ek_dropM, k_drop, ek_forM, k_for, ek_itM, k_it_l, k_it_t, ek_zipM, k_zip, k_zip2_l, k_zip2_t, ek_someO, k_some, ek_sliceM, k_sl, k_sl2, k_sl3, apS_dat, ek_parGM, k_pg2, k_pg3, ek_parM3, k_p3, ek_lstC, k_lst0, nI, subD_int, l1, f1, ↓f2, hb, x0, f3]
      rw [e2, bestD]
    · have e1 : min i0 (k - 1) = i0 := by omega
      have e2 : min i0 k = i0 := by omega
      rw [e1] at f3 hb x0 f2 ⊢
      rw [decide_eq_true (far_up h2 hi (by omega))] at f3
      simp only [seqO_nx, seqO_rt, seqO_exc, ev_seqM, ev_skipM, ev_cst, ev_vr, ev_aNil, ev_noO, ev_tYesM, List.getElem?_cons_zero, List.getElem?_cons_succ, List.set, Res.bind_ok, bindS_ok, ap2_dat, ap1_dat, apN1, apN2, ofO_some, peek_dat, truD_bool, Bool.not_true, Bool.not_false, ixD_tup, ixD_lst, atI_0, atI_1, toDs_nil, toD_dat, ek_op2, k_op2, k_op2b, ek_op1, k_op1, ek_isiM, ek_opN, k_opN, ek_aCons, k_cons, k_cons2, ek_tupM, ek_lstD, k_tup, k_tup2_0, k_tup2_1, k_tup2_2, k_tup2_3, k_tup2_4, k_tup2_5, k_tup2_6, k_tup2_7, k_tup2_8, k_tup2_9, k_tup2_10, k_tup2_11, k_tup2_12, ek_toDs, k_toDs, k_toDs2, ek_callM, ek_ifE, k_ifE_t, k_ifE_f, truO_some, ofB_some, ek_truM, k_tru, ek_andT, k_andT_t, k_andT_f, ek_orT, k_orT_t, k_orT_f, ek_notT, k_notT, ek_andE, k_andE_t, k_andE_f, ek_orE, k_orE_t, k_orE_f, ek_notE, k_notE, ek_setM, k_set, ek_parM, k_par, ek_ifS, k_if_t, k_if_f, ek_retM, k_ret, ek_dropM, k_drop, ek_forM, k_for, ek_itM, k_it_l, k_it_t, ek_zipM, k_zip, k_zip2_l, k_zip2_t, ek_someO, k_some, ek_sliceM, k_sl, k_sl2, k_sl3, apS_dat, ek_parGM, k_pg2, k_pg3, ek_parM3, k_p3, ek_lstC, k_lst0, nI, subD_int, l1, f1, ↓f2, hb, x0, f3]
      rw [e2]
theorem near_run {m : Nat} {q : Rat} (h2 : 2 ≤ m) (hm : m ≤ 256) (hq : In01 150 q) (st : Store) : d_u_law_nearest [.dat (nI m), .dat (rt q)] st = .ok (.dat (rt (putR m q))) st := by
  obtain ⟨a, b⟩ := ixo_lt h2 hm hq.2.1 hq.2.2
  obtain ⟨i, hi⟩ : ∃ i : Nat, ixo m q = i := ⟨(ixo m q).toNat, by omega⟩
  obtain ⟨s', st', e1, ⟨d2, o3, o4, rfl, hst, hd⟩⟩ := loop_range (g := tgM (bName 3) near_loop) (fun k s st2 => ∃ (d2 : D) (o3 o4 : Option Vl), s = [some (.dat (nI m)), some (.dat (rt q)), some (.dat d2), o3, o4] ∧ st2 = st ∧ ((k = 0 ∧ d2 = .none) ∨ (0 < k ∧ d2 = bestD m q (min i (k - 1))))) m [some (.dat (nI m)), some (.dat (rt q)), some (.dat .none), none, none] st
    ⟨.none, none, none, rfl, rfl, .inl ⟨rfl, rfl⟩⟩ (by
      rintro k hk _ st2 ⟨d2, o3, o4, rfl, hst, hd⟩
      have e := near_step h2 hm hk hq.1 hi d2 hd o3 o4 st2
      exact ⟨_, _, tg_name.trans e, ⟨bestD m q (min i k), _, _, rfl, hst, .inr ⟨by omega, by rw [Nat.add_sub_cancel]⟩⟩⟩)
  rw [hst] at e1
  have hd2 : d2 = bestD m q i := by
    rcases hd with ⟨h, _⟩ | ⟨_, h⟩
    · omega
    · rw [h, show min i (m - 1) = i by omega]
  subst hd2
  refine call_rt rfl ?_
  show b_u_law_nearest [some (.dat (nI m)), some (.dat (rt q)), none, none, none] st = _
  have e6 : rng1M (aCons (vr 0) aNil) [some (.dat (nI m)), some (.dat (rt q)), some (.dat .none), none, none] st = .ok ((List.range m).map fun k : Nat => PyData.int k) st := run_rngN rfl (by omega)
  have x1 : ixD (bestD m q i) (.int 1) = some (rt ((i : Rat) / ((m : Rat) - 1))) := rfl
  rw [b_u_law_nearest, put_eq h2 hi]
  simp only [seqO_nx, seqO_rt, seqO_exc, ev_seqM, ev_skipM, ev_cst, ev_vr, ev_aNil, ev_noO, ev_tYesM, List.getElem?_cons_zero, List.getElem?_cons_succ, List.set, Res.bind_ok, bindS_ok, ap2_dat, ap1_dat, apN1, apN2, ofO_some, peek_dat, truD_bool, Bool.not_true, Bool.not_false, ixD_tup, ixD_lst, atI_0, atI_1, toDs_nil, toD_dat, ek_op2, k_op2, k_op2b, ek_op1, k_op1, ek_isiM, ek_opN, k_opN, ek_aCons, k_cons, k_cons2, ek_tupM, ek_lstD, k_tup, k_tup2_0, k_tup2_1, k_tup2_2, k_tup2_3, k_tup2_4, k_tup2_5, k_tup2_6, k_tup2_7, k_tup2_8, k_tup2_9, k_tup2_10, k_tup2_11, k_tup2_12, ek_toDs, k_toDs, k_toDs2, ek_callM, ek_ifE, k_ifE_t, k_ifE_f, truO_some, ofB_some, ek_truM, k_tru, ek_andT, k_andT_t, k_andT_f, ek_orT, k_orT_t, k_orT_f, ek_notT, k_notT, ek_andE, k_andE_t, k_andE_f, ek_orE, k_orE_t, k_orE_f, ek_notE, k_notE, ek_setM, k_set, ek_parM, k_par, ek_ifS, k_if_t, k_if_f, ek_retM, k_ret, ek_dropM, k_drop, ek_forM, k_for, ek_itM, k_it_l, k_it_t, ek_zipM, k_zip, k_zip2_l, k_zip2_t, ek_someO, k_some, ek_sliceM, k_sl, k_sl2, k_sl3, apS_dat, ek_parGM, k_pg2, k_pg3, ek_parM3, k_p3, ek_lstC, k_lst0, ↓e6, e1, x1]
end K27

set_option Elab.async false
set_option linter.all false
set_option maxRecDepth 100000
set_option maxHeartbeats 4000000
set_option exponentiation.threshold 5000
/-! K27Sq: what is spread. -/
namespace K27
open PySem L2 Pd
def addC (c l : List Rat) : List Rat := List.zipWith (· + ·) c l
def subC (c l : List Rat) : List Rat := List.zipWith (· - ·) c l
def outC' (ms : List Nat) (p : List Rat) : List Rat := List.zipWith putR ms p
abbrev SpS := List (List Rat) × List Rat × Bool
def stp (ms : List Nat) (a : SpS) (c : List Rat) : SpS :=
  (a.1 ++ [outC' ms ((addC c a.2.1).map clipR)], subC ((addC c a.2.1).map clipR) (outC' ms ((addC c a.2.1).map clipR)), a.2.2 || !decide ((addC c a.2.1).map clipR = addC c a.2.1))
def z3 : List Rat := [0, 0, 0]
theorem eqv_rt (a b : Rat) : PyData.eqv (rt a) (rt b) = decide (a = b) := rt_eqv a b
theorem eqv_col (a b : List Rat) : PyData.eqv (colD a) (colD b) = decide (a = b) := eqv_tupleM rt_eqv a b
theorem neD_col (a b : List Rat) : neD (colD a) (colD b) = some (.bool (!decide (a = b))) := by
  rw [neD_of (lay_col a) (lay_col b), eqv_col]
theorem zip_sz {f : Rat → Rat → Rat} {c l : List Rat} {P : Rat → Prop} (h : ∀ x ∈ c, ∀ y ∈ l, P (f x y)) : ∀ z ∈ List.zipWith f c l, P z := fun z hz => by
  rw [List.mem_iff_getElem?] at hz
  obtain ⟨i, hi⟩ := hz
  rw [List.getElem?_zipWith] at hi
  cases hc : c[i]? with
  | none => rw [hc] at hi; simp at hi
  | some x =>
    cases hl : l[i]? with
    | none => rw [hc, hl] at hi; simp at hi
    | some y =>
      rw [hc, hl] at hi
      simp at hi
      subst hi
      exact h x (List.mem_of_getElem? hc) y (List.mem_of_getElem? hl)
theorem putR_sz {m : Nat} {q : Rat} (h2 : 2 ≤ m) (hm : m ≤ 256) (h : 0 ≤ q ∧ q ≤ 1) : Sz 9 (putR m q) := by
  obtain ⟨a, b⟩ := ixo_lt h2 hm h.1 h.2
  exact divInt_sz (by decide) (by omega) (by omega)
theorem outC_sz {ms : List Nat} (h : Lv ms) {p : List Rat} (hp : ∀ q ∈ p, 0 ≤ q ∧ q ≤ 1) : ∀ z ∈ outC' ms p, Sz 9 z := by
  intro z hz
  unfold outC' at hz
  rw [List.mem_iff_getElem?] at hz
  obtain ⟨i, hi⟩ := hz
  rw [List.getElem?_zipWith] at hi
  cases hc : ms[i]? with
  | none => rw [hc] at hi; simp at hi
  | some m =>
    cases hl : p[i]? with
    | none => rw [hc, hl] at hi; simp at hi
    | some q =>
      rw [hc, hl] at hi
      simp at hi
      subst hi
      obtain ⟨a, b⟩ := h.two m (List.mem_of_getElem? hc)
      exact putR_sz a b (hp q (List.mem_of_getElem? hl))
noncomputable abbrev sp_loop : SM := (seqM (setM 6 (opN tupleD (aCons (lcM (zipM (aCons (vr 2) (aCons (vr 4) aNil))) (bTup [bName 8, bName 9]) [8, 9] tYesM (callM d_add (aCons (vr 8) (aCons (vr 9) aNil)))) aNil)))
        (seqM (setM 7 (callM d_plain_of (aCons (vr 6) aNil)))
        (seqM (setM 5 (orE (vr 5) (op2 neD (vr 7) (vr 6))))
        (seqM (dropM (appM (vr 3) (callM d_put_by (aCons (vr 0) (aCons (vr 7) aNil)))))
        (setM 4 (opN tupleD (aCons (lcM (zipM (aCons (vr 7) (aCons (op2 ixD (vr 3) (op1 negD (cst (.int 1)))) aNil))) (bTup [bName 8, bName 9]) [8, 9] tYesM (callM d_less (aCons (vr 8) (aCons (vr 9) aNil)))) aNil)))))))
theorem clipC_in {k : Nat} {w : List Rat} (h : ∀ q ∈ w, Sz k q) : ∀ q ∈ w.map clipR, In01 k q := fun q hq => by
  obtain ⟨x, hx, rfl⟩ := List.mem_map.mp hq
  exact clip_in (h x hx)
theorem addC_len {c l : List Rat} (hc : c.length = 3) (hl : l.length = 3) : (addC c l).length = 3 := by unfold addC; simp [hc, hl]
theorem subC_len {c l : List Rat} (hc : c.length = 3) (hl : l.length = 3) : (subC c l).length = 3 := by unfold subC; simp [hc, hl]
theorem outC_len {ms : List Nat} {l : List Rat} (hc : ms.length = 3) (hl : l.length = 3) : (outC' ms l).length = 3 := by unfold outC'; simp [hc, hl]
theorem stp_sz {ms : List Nat} (h : Lv ms) {n : Nat} {a : SpS} {c : List Rat} (hc : Pl 9 c) (ha : a.2.1.length = 3 ∧ ∀ q ∈ a.2.1, Sz n q) : (∀ q ∈ addC c a.2.1, Sz (9 + n + 1) q) ∧ (stp ms a c).2.1.length = 3 ∧ ∀ q ∈ (stp ms a c).2.1, Sz (n + 20) q := by
  have s1 : ∀ q ∈ addC c a.2.1, Sz (9 + n + 1) q := zip_sz fun x hx y hy => add_sz (hc.sz x hx) (ha.2 y hy)
  have s2 := clipC_in s1
  have s3 := outC_sz h (fun q hq => (s2 q hq).2)
  have l1 := addC_len hc.len ha.1
  have l2 : ((addC c a.2.1).map clipR).length = 3 := by rw [List.length_map, l1]
  refine ⟨s1, subC_len l2 (outC_len h.len l2), ?_⟩
  have s4 : ∀ q ∈ subC ((addC c a.2.1).map clipR) (outC' ms ((addC c a.2.1).map clipR)), Sz (9 + n + 1 + 9 + 1) q := zip_sz fun x hx y hy => sub_sz (k := 9 + n + 1) (l := 9) (s2 x hx).1 (s3 y hy)
  exact fun q hq => (s4 q hq).mono (by omega)
theorem spread_step {ms : List Nat} (h : Lv ms) {n : Nat} (hn : n ≤ 300) {a : SpS} {c : List Rat} (hc : Pl 9 c) (ha : a.2.1.length = 3 ∧ ∀ q ∈ a.2.1, Sz n q) (hl : a.1.length < 20000) (v1 : Vl) (o2 o6 o7 : Option Vl) (st : Store) :
    ∃ o6' o7', sp_loop [some (.dat (lvD ms)), some v1, some (.dat (colD c)), some (.cel st.length), some (.dat (colD a.2.1)), some (.dat (.bool a.2.2)), o6, o7, none, none] (st ++ [cD (a.1.map colD)]) =
      .nx [some (.dat (lvD ms)), some v1, some (.dat (colD c)), some (.cel st.length), some (.dat (colD (stp ms a c).2.1)), some (.dat (.bool (stp ms a c).2.2)), o6', o7', none, none] (st ++ [cD ((stp ms a c).1.map colD)]) := by
  obtain ⟨acc, l, b⟩ := a
  obtain ⟨hl3, hls⟩ := ha
  simp only at hl3 hls hl ⊢
  obtain ⟨s1, _, _⟩ := stp_sz h (a := (acc, l, b)) hc ⟨hl3, hls⟩
  simp only at s1
  have l1 := addC_len hc.len hl3
  have s2 := clipC_in s1
  have l2 : ((addC c l).map clipR).length = 3 := by rw [List.length_map, l1]
  have s3 := outC_sz h (p := (addC c l).map clipR) fun q hq => (s2 q hq).2
  have l3 := outC_len h.len l2 (ms := ms)
  have e1 : opN tupleD (aCons (lcM (zipM (aCons (vr 2) (aCons (vr 4) aNil))) (bTup [bName 8, bName 9]) [8, 9] tYesM (callM d_add (aCons (vr 8) (aCons (vr 9) aNil)))) aNil) [some (.dat (lvD ms)), some v1, some (.dat (colD c)), some (.cel st.length), some (.dat (colD l)), some (.dat (.bool b)), o6, o7, none, none] (st ++ [cD (acc.map colD)]) = .ok (.dat (colD (addC c l))) (st ++ [cD (acc.map colD)]) := by
    have k := tupLc (lcM_zip (i := 8) (j := 9) (A := vr 2) (B := vr 4) (e := callM d_add (aCons (vr 8) (aCons (vr 9) aNil))) (s := [some (.dat (lvD ms)), some v1, some (.dat (colD c)), some (.cel st.length), some (.dat (colD l)), some (.dat (.bool b)), o6, o7, none, none]) (st := st ++ [cD (acc.map colD)]) (enc := rt) (enc2 := rt) (l := c) (m := l) (fun x y => rt (x + y)) rfl rfl (slN _ (by rw [hc.len]; decide)) fun x hx y hy => by
      have e := add_run (st ++ [cD (acc.map colD)]) ((hc.sz x hx).mono (by decide : 9 ≤ 1000)) ((hls y hy).mono (by omega : n ≤ 1000))
      simp only [seqO_nx, seqO_rt, seqO_exc, ev_seqM, ev_skipM, ev_cst, ev_vr, ev_aNil, ev_noO, ev_tYesM, List.getElem?_cons_zero, List.getElem?_cons_succ, List.set, Res.bind_ok, bindS_ok, ap2_dat, ap1_dat, apN1, apN2, ofO_some, peek_dat, truD_bool, Bool.not_true, Bool.not_false, ixD_tup, ixD_lst, atI_0, atI_1, toDs_nil, toD_dat, ek_op2, k_op2, k_op2b, ek_op1, k_op1, ek_isiM, ek_opN, k_opN, ek_aCons, k_cons, k_cons2, ek_tupM, ek_lstD, k_tup, k_tup2_0, k_tup2_1, k_tup2_2, k_tup2_3, k_tup2_4, k_tup2_5, k_tup2_6, k_tup2_7, k_tup2_8, k_tup2_9, k_tup2_10, k_tup2_11, k_tup2_12, ek_toDs, k_toDs, k_toDs2, ek_callM, ek_ifE, k_ifE_t, k_ifE_f, truO_some, ofB_some, ek_truM, k_tru, ek_andT, k_andT_t, k_andT_f, ek_orT, k_orT_t, k_orT_f, ek_notT, k_notT, ek_andE, k_andE_t, k_andE_f, ek_orE, k_orE_t, k_orE_f, ek_notE, k_notE, ek_setM, k_set, ek_parM, k_par, ek_ifS, k_if_t, k_if_f, ek_retM, k_ret, ek_dropM, k_drop, ek_forM, k_for, ek_itM, k_it_l, k_it_t, ek_zipM, k_zip, k_zip2_l, k_zip2_t, ek_someO, k_some, ek_sliceM, k_sl, k_sl2, k_sl3, apS_dat, ek_parGM, k_pg2, k_pg3, ek_parM3, k_p3, ek_lstC, k_lst0, wipeS, e])
    rw [k]
    unfold colD addC
    rw [List.map_zipWith]
  have e2 := plainof_run l1 (st ++ [cD (acc.map colD)])
  have e3 := neD_col ((addC c l).map clipR) (addC c l)
  have e4 := putby_run h.len l2 h.two (fun q hq => ⟨((s2 q hq).1).mono (by omega : 9 + n + 1 ≤ 1000), (s2 q hq).2⟩) (st ++ [cD (acc.map colD)])
  have e5 : (acc.map colD) ++ [colD (outC' ms ((addC c l).map clipR))] = (acc ++ [outC' ms ((addC c l).map clipR)]).map colD := by rw [List.map_append]; rfl
  refine ⟨some (.dat (colD (addC c l))), some (.dat (colD ((addC c l).map clipR))), ?_⟩
  have e6 : ∀ o5 : Option Vl, dropM (appM (vr 3) (callM d_put_by (aCons (vr 0) (aCons (vr 7) aNil)))) [some (.dat (lvD ms)), some v1, some (.dat (colD c)), some (.cel st.length), some (.dat (colD l)), o5, some (.dat (colD (addC c l))), some (.dat (colD ((addC c l).map clipR))), none, none] (st ++ [cD (acc.map colD)]) = .nx [some (.dat (lvD ms)), some v1, some (.dat (colD c)), some (.cel st.length), some (.dat (colD l)), o5, some (.dat (colD (addC c l))), some (.dat (colD ((addC c l).map clipR))), none, none] (st ++ [cD ((acc ++ [outC' ms ((addC c l).map clipR)]).map colD)]) := fun o5 => by
    rw [← e5]
    refine app_end_go rfl ?_ (by rw [List.length_map]; exact hl)
    simp only [seqO_nx, seqO_rt, seqO_exc, ev_seqM, ev_skipM, ev_cst, ev_vr, ev_aNil, ev_noO, ev_tYesM, List.getElem?_cons_zero, List.getElem?_cons_succ, List.set, Res.bind_ok, bindS_ok, ap2_dat, ap1_dat, apN1, apN2, ofO_some, peek_dat, truD_bool, Bool.not_true, Bool.not_false, ixD_tup, ixD_lst, atI_0, atI_1, toDs_nil, toD_dat, ek_op2, k_op2, k_op2b, ek_op1, k_op1, ek_isiM, ek_opN, k_opN, ek_aCons, k_cons, k_cons2, ek_tupM, ek_lstD, k_tup, k_tup2_0, k_tup2_1, k_tup2_2, k_tup2_3, k_tup2_4, k_tup2_5, k_tup2_6, k_tup2_7, k_tup2_8, k_tup2_9, k_tup2_10, k_tup2_11, k_tup2_12, ek_toDs, k_toDs, k_toDs2, ek_callM, ek_ifE, k_ifE_t, k_ifE_f, truO_some, ofB_some, ek_truM, k_tru, ek_andT, k_andT_t, k_andT_f, ek_orT, k_orT_t, k_orT_f, ek_notT, k_notT, ek_andE, k_andE_t, k_andE_f, ek_orE, k_orE_t, k_orE_f, ek_notE, k_notE, ek_setM, k_set, ek_parM, k_par, ek_ifS, k_if_t, k_if_f, ek_retM, k_ret, ek_dropM, k_drop, ek_forM, k_for, ek_itM, k_it_l, k_it_t, ek_zipM, k_zip, k_zip2_l, k_zip2_t, ek_someO, k_some, ek_sliceM, k_sl, k_sl2, k_sl3, apS_dat, ek_parGM, k_pg2, k_pg3, ek_parM3, k_p3, ek_lstC, k_lst0, e4]
    rfl
  have e7 : ∀ o5 : Option Vl, opN tupleD (aCons (lcM (zipM (aCons (vr 7) (aCons (op2 ixD (vr 3) (op1 negD (cst (.int 1)))) aNil))) (bTup [bName 8, bName 9]) [8, 9] tYesM (callM d_less (aCons (vr 8) (aCons (vr 9) aNil)))) aNil) [some (.dat (lvD ms)), some v1, some (.dat (colD c)), some (.cel st.length), some (.dat (colD l)), o5, some (.dat (colD (addC c l))), some (.dat (colD ((addC c l).map clipR))), none, none] (st ++ [cD ((acc ++ [outC' ms ((addC c l).map clipR)]).map colD)]) = .ok (.dat (colD (subC ((addC c l).map clipR) (outC' ms ((addC c l).map clipR))))) (st ++ [cD ((acc ++ [outC' ms ((addC c l).map clipR)]).map colD)]) := fun o5 => by
    have hB : op2 ixD (vr 3) (op1 negD (cst (.int 1))) [some (.dat (lvD ms)), some v1, some (.dat (colD c)), some (.cel st.length), some (.dat (colD l)), o5, some (.dat (colD (addC c l))), some (.dat (colD ((addC c l).map clipR))), none, none] (st ++ [cD ((acc ++ [outC' ms ((addC c l).map clipR)]).map colD)]) = .ok (.dat (.tuple ((outC' ms ((addC c l).map clipR)).map rt))) (st ++ [cD ((acc ++ [outC' ms ((addC c l).map clipR)]).map colD)]) := by
      have hp := peek_end st ((acc ++ [outC' ms ((addC c l).map clipR)]).map colD)
      have ha : ∀ y : D, ap2 ixD (.cel st.length) (.dat y) (st ++ [cD ((acc ++ [outC' ms ((addC c l).map clipR)]).map colD)]) = ofO (ixD (.list ((acc ++ [outC' ms ((addC c l).map clipR)]).map colD)) y) (st ++ [cD ((acc ++ [outC' ms ((addC c l).map clipR)]).map colD)]) := fun y => by
        unfold ap2
        rw [hp, peek_dat]
      have hx : ((acc ++ [outC' ms ((addC c l).map clipR)]).map colD)[((acc ++ [outC' ms ((addC c l).map clipR)]).map colD).length - 1]? = some (colD (outC' ms ((addC c l).map clipR))) := by
        simp
      simp only [seqO_nx, seqO_rt, seqO_exc, ev_seqM, ev_skipM, ev_cst, ev_vr, ev_aNil, ev_noO, ev_tYesM, List.getElem?_cons_zero, List.getElem?_cons_succ, List.set, Res.bind_ok, bindS_ok, ap2_dat, ap1_dat, apN1, apN2, ofO_some, peek_dat, truD_bool, Bool.not_true, Bool.not_false, ixD_tup, ixD_lst, atI_0, atI_1, toDs_nil, toD_dat, ek_op2, k_op2, k_op2b, ek_op1, k_op1, ek_isiM, ek_opN, k_opN, ek_aCons, k_cons, k_cons2, ek_tupM, ek_lstD, k_tup, k_tup2_0, k_tup2_1, k_tup2_2, k_tup2_3, k_tup2_4, k_tup2_5, k_tup2_6, k_tup2_7, k_tup2_8, k_tup2_9, k_tup2_10, k_tup2_11, k_tup2_12, ek_toDs, k_toDs, k_toDs2, ek_callM, ek_ifE, k_ifE_t, k_ifE_f, truO_some, ofB_some, ek_truM, k_tru, ek_andT, k_andT_t, k_andT_f, ek_orT, k_orT_t, k_orT_f, ek_notT, k_notT, ek_andE, k_andE_t, k_andE_f, ek_orE, k_orE_t, k_orE_f, ek_notE, k_notE, ek_setM, k_set, ek_parM, k_par, ek_ifS, k_if_t, k_if_f, ek_retM, k_ret, ek_dropM, k_drop, ek_forM, k_for, ek_itM, k_it_l, k_it_t, ek_zipM, k_zip, k_zip2_l, k_zip2_t, ek_someO, k_some, ek_sliceM, k_sl, k_sl2, k_sl3, apS_dat, ek_parGM, k_pg2, k_pg3, ek_parM3, k_p3, ek_lstC, k_lst0, negD_int, ha, Pd.atI_last, hx]
      rfl
    have k := tupLc (lcM_zip (i := 8) (j := 9) (A := vr 7) (B := op2 ixD (vr 3) (op1 negD (cst (.int 1)))) (e := callM d_less (aCons (vr 8) (aCons (vr 9) aNil))) (s := [some (.dat (lvD ms)), some v1, some (.dat (colD c)), some (.cel st.length), some (.dat (colD l)), o5, some (.dat (colD (addC c l))), some (.dat (colD ((addC c l).map clipR))), none, none]) (st := st ++ [cD ((acc ++ [outC' ms ((addC c l).map clipR)]).map colD)]) (enc := rt) (enc2 := rt) (l := (addC c l).map clipR) (m := outC' ms ((addC c l).map clipR)) (fun x y => rt (x - y)) rfl hB (slN _ (by rw [l2]; decide)) fun x hx y hy => by
      have e := less_run (st ++ [cD ((acc ++ [outC' ms ((addC c l).map clipR)]).map colD)]) ((s2 x hx).1.mono (by omega : 9 + n + 1 ≤ 1000)) ((s3 y hy).mono (by decide : 9 ≤ 1000))
      simp only [seqO_nx, seqO_rt, seqO_exc, ev_seqM, ev_skipM, ev_cst, ev_vr, ev_aNil, ev_noO, ev_tYesM, List.getElem?_cons_zero, List.getElem?_cons_succ, List.set, Res.bind_ok, bindS_ok, ap2_dat, ap1_dat, apN1, apN2, ofO_some, peek_dat, truD_bool, Bool.not_true, Bool.not_false, ixD_tup, ixD_lst, atI_0, atI_1, toDs_nil, toD_dat, ek_op2, k_op2, k_op2b, ek_op1, k_op1, ek_isiM, ek_opN, k_opN, ek_aCons, k_cons, k_cons2, ek_tupM, ek_lstD, k_tup, k_tup2_0, k_tup2_1, k_tup2_2, k_tup2_3, k_tup2_4, k_tup2_5, k_tup2_6, k_tup2_7, k_tup2_8, k_tup2_9, k_tup2_10, k_tup2_11, k_tup2_12, ek_toDs, k_toDs, k_toDs2, ek_callM, ek_ifE, k_ifE_t, k_ifE_f, truO_some, ofB_some, ek_truM, k_tru, ek_andT, k_andT_t, k_andT_f, ek_orT, k_orT_t, k_orT_f, ek_notT, k_notT, ek_andE, k_andE_t, k_andE_f, ek_orE, k_orE_t, k_orE_f, ek_notE, k_notE, ek_setM, k_set, ek_parM, k_par, ek_ifS, k_if_t, k_if_f, ek_retM, k_ret, ek_dropM, k_drop, ek_forM, k_for, ek_itM, k_it_l, k_it_t, ek_zipM, k_zip, k_zip2_l, k_zip2_t, ek_someO, k_some, ek_sliceM, k_sl, k_sl2, k_sl3, apS_dat, ek_parGM, k_pg2, k_pg3, ek_parM3, k_p3, ek_lstC, k_lst0, wipeS, e])
    rw [k]
    unfold subC
    show Res.ok (Vl.dat (PyData.tuple _)) _ = Res.ok (Vl.dat (PyData.tuple ((List.zipWith (fun x1 x2 => x1 - x2) ((addC c l).map clipR) (outC' ms ((addC c l).map clipR))).map rt))) _
    rw [List.map_zipWith]
  rw [sp_loop]
  cases b with
  | true =>
    simp only [seqO_nx, seqO_rt, seqO_exc, ev_seqM, ev_skipM, ev_cst, ev_vr, ev_aNil, ev_noO, ev_tYesM, List.getElem?_cons_zero, List.getElem?_cons_succ, List.set, Res.bind_ok, bindS_ok, ap2_dat, ap1_dat, apN1, apN2, ofO_some, peek_dat, truD_bool, Bool.not_true, Bool.not_false, ixD_tup, ixD_lst, atI_0, atI_1, toDs_nil, toD_dat, ek_op2, k_op2, k_op2b, ek_op1, k_op1, ek_isiM, ek_opN, k_opN, ek_aCons, k_cons, k_cons2, ek_tupM, ek_lstD, k_tup, k_tup2_0, k_tup2_1, k_tup2_2, k_tup2_3, k_tup2_4, k_tup2_5, k_tup2_6, k_tup2_7, k_tup2_8, k_tup2_9, k_tup2_10, k_tup2_11, k_tup2_12, ek_toDs, k_toDs, k_toDs2, ek_callM, ek_ifE, k_ifE_t, k_ifE_f, truO_some, ofB_some, ek_truM, k_tru, ek_andT, k_andT_t, k_andT_f, ek_orT, k_orT_t, k_orT_f, ek_notT, k_notT, ek_andE, k_andE_t, k_andE_f, ek_orE, k_orE_t, k_orE_f, ek_notE, k_notE, ek_setM, k_set, ek_parM, k_par, ek_ifS, k_if_t, k_if_f, ek_retM, k_ret, ek_dropM, k_drop, ek_forM, k_for, ek_itM, k_it_l, k_it_t, ek_zipM, k_zip, k_zip2_l, k_zip2_t, ek_someO, k_some, ek_sliceM, k_sl, k_sl2, k_sl3, apS_dat, ek_parGM, k_pg2, k_pg3, ek_parM3, k_p3, ek_lstC, k_lst0, ↓e1, e2, ↓e6, ↓e7]
    rfl
  | false =>
    simp only [seqO_nx, seqO_rt, seqO_exc, ev_seqM, ev_skipM, ev_cst, ev_vr, ev_aNil, ev_noO, ev_tYesM, List.getElem?_cons_zero, List.getElem?_cons_succ, List.set, Res.bind_ok, bindS_ok, ap2_dat, ap1_dat, apN1, apN2, ofO_some, peek_dat, truD_bool, Bool.not_true, Bool.not_false, ixD_tup, ixD_lst, atI_0, atI_1, toDs_nil, toD_dat, ek_op2, k_op2, k_op2b, ek_op1, k_op1, ek_isiM, ek_opN, k_opN, ek_aCons, k_cons, k_cons2, ek_tupM, ek_lstD, k_tup, k_tup2_0, k_tup2_1, k_tup2_2, k_tup2_3, k_tup2_4, k_tup2_5, k_tup2_6, k_tup2_7, k_tup2_8, k_tup2_9, k_tup2_10, k_tup2_11, k_tup2_12, ek_toDs, k_toDs, k_toDs2, ek_callM, ek_ifE, k_ifE_t, k_ifE_f, truO_some, ofB_some, ek_truM, k_tru, ek_andT, k_andT_t, k_andT_f, ek_orT, k_orT_t, k_orT_f, ek_notT, k_notT, ek_andE, k_andE_t, k_andE_f, ek_orE, k_orE_t, k_orE_f, ek_notE, k_notE, ek_setM, k_set, ek_parM, k_par, ek_ifS, k_if_t, k_if_f, ek_retM, k_ret, ek_dropM, k_drop, ek_forM, k_for, ek_itM, k_it_l, k_it_t, ek_zipM, k_zip, k_zip2_l, k_zip2_t, ek_someO, k_some, ek_sliceM, k_sl, k_sl2, k_sl3, apS_dat, ek_parGM, k_pg2, k_pg3, ek_parM3, k_p3, ek_lstC, k_lst0, ↓e1, e2, e3, ↓e6, ↓e7]
    rw [stp, Bool.false_or]
theorem spread_run {ms : List Nat} (h : Lv ms) {cs : List (List Rat)} (hc : ∀ c ∈ cs, Pl 9 c) (h0 : 0 < cs.length) (hn : cs.length ≤ 7) (st : Store) :
    d_spread [.dat (lvD ms), .dat (.tuple (cs.map colD))] st = .ok (.dat (.tuple [.tuple ((cs.foldl (stp ms) ([], z3, false)).1.map colD), .bool (cs.foldl (stp ms) ([], z3, false)).2.2])) st := by
  have e1 := arelevels_run h st
  have e2 := check_run st
  have zz : colD z3 = .tuple [c_ZERO, c_ZERO, c_ZERO] := rfl
  have g1 : opN allD (aCons (lcM (itM (vr 1)) (bName 2) [2] tYesM (callM d_is_plain (aCons (vr 2) aNil))) aNil) [some (.dat (lvD ms)), some (.dat (.tuple (cs.map colD))), none, none, none, none, none, none, none, none] st = .ok (.dat (.bool true)) st := by
    have k := allLc (lcM_mapN (it := itM (vr 1)) (i := 2) (vs := [2]) (e := callM d_is_plain (aCons (vr 2) aNil)) (s := [some (.dat (lvD ms)), some (.dat (.tuple (cs.map colD))), none, none, none, none, none, none, none, none]) (st := st) (enc := colD) (l := cs) (fun _ => .bool true) rfl (slN _ (by omega)) fun c hm => by
      have i := isplain_run (hc c hm).len (hc c hm).in01 st
      simp only [seqO_nx, seqO_rt, seqO_exc, ev_seqM, ev_skipM, ev_cst, ev_vr, ev_aNil, ev_noO, ev_tYesM, List.getElem?_cons_zero, List.getElem?_cons_succ, List.set, Res.bind_ok, bindS_ok, ap2_dat, ap1_dat, apN1, apN2, ofO_some, peek_dat, truD_bool, Bool.not_true, Bool.not_false, ixD_tup, ixD_lst, atI_0, atI_1, toDs_nil, toD_dat, ek_op2, k_op2, k_op2b, ek_op1, k_op1, ek_isiM, ek_opN, k_opN, ek_aCons, k_cons, k_cons2, ek_tupM, ek_lstD, k_tup, k_tup2_0, k_tup2_1, k_tup2_2, k_tup2_3, k_tup2_4, k_tup2_5, k_tup2_6, k_tup2_7, k_tup2_8, k_tup2_9, k_tup2_10, k_tup2_11, k_tup2_12, ek_toDs, k_toDs, k_toDs2, ek_callM, ek_ifE, k_ifE_t, k_ifE_f, truO_some, ofB_some, ek_truM, k_tru, ek_andT, k_andT_t, k_andT_f, ek_orT, k_orT_t, k_orT_f, ek_notT, k_notT, ek_andE, k_andE_t, k_andE_f, ek_orE, k_orE_t, k_orE_f, ek_notE, k_notE, ek_setM, k_set, ek_parM, k_par, ek_ifS, k_if_t, k_if_f, ek_retM, k_ret, ek_dropM, k_drop, ek_forM, k_for, ek_itM, k_it_l, k_it_t, ek_zipM, k_zip, k_zip2_l, k_zip2_t, ek_someO, k_some, ek_sliceM, k_sl, k_sl2, k_sl3, apS_dat, ek_parGM, k_pg2, k_pg3, ek_parM3, k_p3, ek_lstC, k_lst0, wipeS, i])
    rw [k]
    simp
  have g2 : decide ((0 : Int) < (cs.length : Int)) = true := decide_eq_true (by omega)
  obtain ⟨s', st', e3, ⟨o2, o6, o7, rfl, rfl, hP⟩⟩ := loop_foldN (enc := colD) (g := tgM (bName 2) sp_loop) (f := stp ms) (fun k a s st2 => ∃ o2 o6 o7 : Option Vl, s = [some (.dat (lvD ms)), some (.dat (.tuple (cs.map colD))), o2, some (.cel st.length), some (.dat (colD a.2.1)), some (.dat (.bool a.2.2)), o6, o7, none, none] ∧ st2 = st ++ [cD (a.1.map colD)] ∧ a.2.1.length = 3 ∧ (∀ q ∈ a.2.1, Sz (20 * k + 1) q) ∧ a.1.length = k) cs 0 ([], z3, false)
    [some (.dat (lvD ms)), some (.dat (.tuple (cs.map colD))), none, some (.cel st.length), some (.dat (colD z3)), some (.dat (.bool false)), none, none, none, none] (st ++ [cD []]) (by
      rintro c hm k a s st2 hk ⟨o2, o6, o7, rfl, rfl, h3, hsz, hlen⟩
      obtain ⟨o6', o7', e⟩ := spread_step h (n := 20 * k + 1) (by omega) (hc c hm) ⟨h3, hsz⟩ (by omega) (.dat (.tuple (cs.map colD))) o2 o6 o7 st
      obtain ⟨_, z1, z2⟩ := stp_sz h (hc c hm) ⟨h3, hsz⟩
      exact ⟨_, _, tg_name.trans e, ⟨some (.dat (colD c)), o6', o7', rfl, rfl, z1, fun q hq => (z2 q hq).mono (by omega), by simp [stp, hlen]⟩⟩) ⟨none, none, none, rfl, rfl, rfl, (by
      intro q hq
      have : q = 0 := by simpa [z3] using hq
      rw [this]
      exact zero_sz), rfl⟩
  refine call_rtN (st' := [cD ((cs.foldl (stp ms) ([], z3, false)).1.map colD)]) rfl ?_
  show b_spread [some (.dat (lvD ms)), some (.dat (.tuple (cs.map colD))), none, none, none, none, none, none, none, none] st = _
  rw [b_spread]
  simp only [seqO_nx, seqO_rt, seqO_exc, ev_seqM, ev_skipM, ev_cst, ev_vr, ev_aNil, ev_noO, ev_tYesM, List.getElem?_cons_zero, List.getElem?_cons_succ, List.set, Res.bind_ok, bindS_ok, ap2_dat, ap1_dat, apN1, apN2, ofO_some, peek_dat, truD_bool, Bool.not_true, Bool.not_false, ixD_tup, ixD_lst, atI_0, atI_1, toDs_nil, toD_dat, ek_op2, k_op2, k_op2b, ek_op1, k_op1, ek_isiM, ek_opN, k_opN, ek_aCons, k_cons, k_cons2, ek_tupM, ek_lstD, k_tup, k_tup2_0, k_tup2_1, k_tup2_2, k_tup2_3, k_tup2_4, k_tup2_5, k_tup2_6, k_tup2_7, k_tup2_8, k_tup2_9, k_tup2_10, k_tup2_11, k_tup2_12, ek_toDs, k_toDs, k_toDs2, ek_callM, ek_ifE, k_ifE_t, k_ifE_f, truO_some, ofB_some, ek_truM, k_tru, ek_andT, k_andT_t, k_andT_f, ek_orT, k_orT_t, k_orT_f, ek_notT, k_notT, ek_andE, k_andE_t, k_andE_f, ek_orE, k_orE_t, k_orE_f, ek_notE, k_notE, ek_setM, k_set, ek_parM, k_par, ek_ifS, k_if_t, k_if_f, ek_retM, k_ret, ek_dropM, k_drop, ek_forM, k_for, ek_itM, k_it_l, k_it_t, ek_zipM, k_zip, k_zip2_l, k_zip2_t, ek_someO, k_some, ek_sliceM, k_sl, k_sl2, k_sl3, apS_dat, ek_parGM, k_pg2, k_pg3, ek_parM3, k_p3, ek_lstC, k_lst0, e1, e2, isiD_tt, lenD_tup, List.length_map, gtD_int, g2, ↓g1, ← zz, e3, apN_end, tupleD_list]
end K27

set_option Elab.async false
set_option linter.all false
set_option maxRecDepth 100000
set_option maxHeartbeats 4000000
set_option exponentiation.threshold 5000
/-! K27Sr: the law's own spreading. -/
namespace K27
open PySem L2 Pd
/-! plain -/
def spr (ms : List Nat) : List (List Rat) → List Rat → List (List Rat) × Bool
  | [], _ => ([], false)
  | c :: cs, l => (outC' ms ((addC c l).map clipR) :: (spr ms cs (subC ((addC c l).map clipR) (outC' ms ((addC c l).map clipR)))).1, !decide ((addC c l).map clipR = addC c l) || (spr ms cs (subC ((addC c l).map clipR) (outC' ms ((addC c l).map clipR)))).2)
theorem spr_fold (ms : List Nat) : ∀ (cs : List (List Rat)) (acc : List (List Rat)) (l : List Rat) (b : Bool), (cs.foldl (stp ms) (acc, l, b)).1 = acc ++ (spr ms cs l).1 ∧ (cs.foldl (stp ms) (acc, l, b)).2.2 = (b || (spr ms cs l).2)
  | [], acc, l, b => ⟨by simp [spr], by simp [spr]⟩
  | c :: cs, acc, l, b => by
    obtain ⟨h1, h2⟩ := spr_fold ms cs (acc ++ [outC' ms ((addC c l).map clipR)]) (subC ((addC c l).map clipR) (outC' ms ((addC c l).map clipR))) (b || !decide ((addC c l).map clipR = addC c l))
    rw [List.foldl_cons]
    refine ⟨?_, ?_⟩
    · show (cs.foldl (stp ms) (acc ++ [outC' ms ((addC c l).map clipR)], subC ((addC c l).map clipR) (outC' ms ((addC c l).map clipR)), b || !decide ((addC c l).map clipR = addC c l))).1 = _
      rw [h1, spr, List.append_assoc]
      rfl
    · show (cs.foldl (stp ms) (acc ++ [outC' ms ((addC c l).map clipR)], subC ((addC c l).map clipR) (outC' ms ((addC c l).map clipR)), b || !decide ((addC c l).map clipR = addC c l))).2.2 = _
      rw [h2, spr, Bool.or_assoc]
theorem zip_at {α β γ : Type} {f : α → β → γ} {a : List α} {b : List β} {k : Nat} (ha : a.length = 3) (hb : b.length = 3) (hk : k < 3) (x : α) (y : β) (z : γ) : (List.zipWith f a b).getD k z = f (a.getD k x) (b.getD k y) := by
  rw [List.getD_eq_getElem?_getD, List.getElem?_zipWith, List.getElem?_eq_getElem (by omega), List.getElem?_eq_getElem (by omega), List.getD_eq_getElem?_getD, List.getD_eq_getElem?_getD, List.getElem?_eq_getElem (by omega), List.getElem?_eq_getElem (by omega)]
  rfl
theorem zip_rng {α β γ : Type} {f : α → β → γ} {a : List α} {b : List β} (ha : a.length = 3) (hb : b.length = 3) (x : α) (y : β) : (List.range 3).map (fun k => f (a.getD k x) (b.getD k y)) = List.zipWith f a b := by
  refine List.ext_getElem (by simp [ha, hb]) fun k h1 h2 => ?_
  have hk : k < 3 := by simpa using h1
  rw [List.getElem_map, List.getElem_range, List.getElem_zipWith, List.getD_eq_getElem?_getD, List.getD_eq_getElem?_getD, List.getElem?_eq_getElem (by omega), List.getElem?_eq_getElem (by omega)]
  rfl
theorem sumR_cons (x : Rat) (l : List Rat) : sumR (x :: l) = x + sumR l := by rw [sumR_eq, sumR_eq, List.sum_cons]
def Bk (ms : List Nat) (k : Nat) : Rat := 1 / (2 * (((ms.getD k 0 : Nat) : Rat) - 1))
theorem tele {ms : List Nat} (h : Lv ms) : ∀ (cs : List (List Rat)) (l : List Rat), (∀ c ∈ cs, c.length = 3) → l.length = 3 → (∀ k, k < 3 → rabs (l.getD k 0) ≤ Bk ms k) → (spr ms cs l).2 = false →
    ∀ j k, k < 3 → rabs (l.getD k 0 + sumR ((cs.take j).map fun c => c.getD k 0) - sumR (((spr ms cs l).1.take j).map fun c => c.getD k 0)) ≤ Bk ms k
  | cs, l, _, _, hl, _, 0, k, hk => by
    have e : ∀ x : Rat, x + sumR ((List.take 0 cs).map fun c => c.getD k 0) - sumR ((List.take 0 (spr ms cs l).1).map fun c => c.getD k 0) = x := fun x => by
      rw [List.take_zero, List.take_zero]
      show x + 0 - 0 = x
      grind
    rw [e]
    exact hl k hk
  | [], l, _, _, hl, _, j + 1, k, hk => by
    have e : ∀ x : Rat, x + sumR ((List.take (j + 1) ([] : List (List Rat))).map fun c => c.getD k 0) - sumR ((List.take (j + 1) (spr ms [] l).1).map fun c => c.getD k 0) = x := fun x => by
      rw [spr, List.take_nil]
      show x + 0 - 0 = x
      grind
    rw [e]
    exact hl k hk
  | c :: cs, l, hc, h3, hl, hb, j + 1, k, hk => by
    rw [spr] at hb
    simp only [Bool.or_eq_false_iff, Bool.not_eq_false', decide_eq_true_eq] at hb
    obtain ⟨hw, hb⟩ := hb
    have c3 := hc c List.mem_cons_self
    have w3 := addC_len c3 h3
    have p3 : ((addC c l).map clipR).length = 3 := by rw [List.length_map, w3]
    have o3 := outC_len (ms := ms) h.len p3
    have s3 := subC_len p3 o3
    have hn : ∀ k, k < 3 → rabs ((subC ((addC c l).map clipR) (outC' ms ((addC c l).map clipR))).getD k 0) ≤ Bk ms k := fun k hk => by
      unfold subC outC'
      rw [zip_at p3 (by simpa [outC'] using o3) hk 0 0, zip_at h.len p3 hk 0 0]
      have hm : ms.getD k 0 ∈ ms := by
        rw [List.getD_eq_getElem?_getD, List.getElem?_eq_getElem (by rw [h.len]; omega)]
        exact List.getElem_mem _
      obtain ⟨m2, m256⟩ := h.two _ hm
      have hq := getD_mem p3 hk
      obtain ⟨x, _, hx⟩ := List.mem_map.mp hq
      have q01 : 0 ≤ ((addC c l).map clipR).getD k 0 ∧ ((addC c l).map clipR).getD k 0 ≤ 1 := by
        rw [← hx]
        unfold clipR
        split
        · exact ⟨by decide, by decide⟩
        · split
          · exact ⟨by decide, by decide⟩
          · exact ⟨by grind, by grind⟩
      exact put_off m2 m256 q01.1 q01.2
    have ih := tele h cs _ (fun x hx => hc x (List.mem_cons_of_mem _ hx)) s3 hn hb j k hk
    rw [spr, List.take_succ_cons, List.take_succ_cons, List.map_cons, List.map_cons, sumR_cons, sumR_cons]
    have hh : ∀ {a b : Rat}, a = b → rabs b ≤ Bk ms k → rabs a ≤ Bk ms k := fun h k => by rw [h]; exact k
    refine hh ?_ ih
    have e1 : (subC ((addC c l).map clipR) (outC' ms ((addC c l).map clipR))).getD k 0 = c.getD k 0 + l.getD k 0 - (outC' ms ((addC c l).map clipR)).getD k 0 := by
      unfold subC
      rw [zip_at p3 o3 hk 0 0, hw]
      unfold addC
      rw [zip_at c3 h3 hk 0 0]
    rw [e1]
    grind
end K27

set_option Elab.async false
set_option linter.all false
set_option maxRecDepth 100000
set_option maxHeartbeats 4000000
set_option exponentiation.threshold 5000
/-! K27Ss: the law's spreading runs. -/
namespace K27
open PySem L2 Pd
theorem col_at {c : List Rat} (h : c.length = 3) {k : Nat} (hk : k < 3) : ixD (colD c) (.int (k : Int)) = some (rt (c.getD k 0)) := by
  show atI (c.map rt) (k : Int) = _
  rw [Pd.atI_nat]
  exact at3 (f := rt) h hk
theorem lst_at {c : List Rat} (h : c.length = 3) {k : Nat} (hk : k < 3) : ixD (.list (c.map rt)) (.int (k : Int)) = some (rt (c.getD k 0)) := by
  show atI (c.map rt) (k : Int) = _
  rw [Pd.atI_nat]
  exact at3 (f := rt) h hk
theorem lv_at {ms : List Nat} (h : ms.length = 3) {k : Nat} (hk : k < 3) : ixD (lvD ms) (.int (k : Int)) = some (nI (ms.getD k 0)) := by
  show atI (ms.map nI) (k : Int) = _
  rw [Pd.atI_nat]
  exact at3 (f := nI) h hk
theorem lv_mem {ms : List Nat} (h : ms.length = 3) {k : Nat} (hk : k < 3) : ms.getD k 0 ∈ ms := by
  rw [List.getD_eq_getElem?_getD, List.getElem?_eq_getElem (by omega)]
  exact List.getElem_mem _
theorem rng3 (s : Slots) (st : Store) : rng1M (aCons (cst (.int 3)) aNil) s st = .ok ((List.range 3).map fun k : Nat => PyData.int k) st := run_rngN rfl (by decide)
theorem rng_zip_rt {f : Rat → Rat → Rat} {a b : List Rat} (ha : a.length = 3) (hb : b.length = 3) : (List.range 3).map (fun k => rt (f (a.getD k 0) (b.getD k 0))) = (List.zipWith f a b).map rt := by
  rw [← zip_rng ha hb 0 0, List.map_map]
  rfl
noncomputable abbrev ls_loop : SM := (seqM (setM 10 (lcM (rng1M (aCons (cst (.int 3)) aNil)) (bName 12) [12] tYesM (callM d_u_law_add (aCons (op2 ixD (vr 4) (vr 12)) (aCons (op2 ixD (vr 8) (vr 12)) aNil)))))
        (seqM (setM 11 (lcM (itM (vr 10)) (bName 14) [14] tYesM (callM d_u_law_clip (aCons (vr 14) aNil))))
        (seqM (setM 9 (orE (vr 9) (op2 neD (vr 11) (vr 10))))
        (seqM (dropM (appM (vr 7) (opN tupleD (aCons (lcM (rng1M (aCons (cst (.int 3)) aNil)) (bName 12) [12] tYesM (callM d_u_law_nearest (aCons (op2 ixD (vr 1) (vr 12)) (aCons (op2 ixD (vr 11) (vr 12)) aNil)))) aNil))))
        (setM 8 (lcM (rng1M (aCons (cst (.int 3)) aNil)) (bName 12) [12] tYesM (callM d_u_law_sub (aCons (op2 ixD (vr 11) (vr 12)) (aCons (op2 ixD (op2 ixD (vr 7) (op1 negD (cst (.int 1)))) (vr 12)) aNil)))))))))
/-- what left may be: a tuple at first, then lists -/
def Left (d : D) (l : List Rat) : Prop := l.length = 3 ∧ ∀ k, k < 3 → ixD d (.int (k : Nat)) = some (rt (l.getD k 0))
theorem lspread_step {ms : List Nat} (h : Lv ms) {n : Nat} (hn : n ≤ 130) {acc : List (List Rat)} {l : List Rat} {b : Bool} {d8 : D} (h8 : Left d8 l) {c : List Rat} (hc : Pl 9 c) (hls : ∀ q ∈ l, Sz n q) (hl : acc.length < 20000) (v0 v2 v3 o4 o5 o6 o10 o11 o13 : Option Vl) (st : Store) :
    ∃ o10' o11', ls_loop [v0, some (.dat (lvD ms)), v2, v3, some (.dat (colD c)), o5, o6, some (.cel st.length), some (.dat d8), some (.dat (.bool b)), o10, o11, none, o13, none] (st ++ [cD (acc.map colD)]) =
      .nx [v0, some (.dat (lvD ms)), v2, v3, some (.dat (colD c)), o5, o6, some (.cel st.length), some (.dat (.list ((stp ms (acc, l, b) c).2.1.map rt))), some (.dat (.bool (stp ms (acc, l, b) c).2.2)), o10', o11', none, o13, none] (st ++ [cD ((stp ms (acc, l, b) c).1.map colD)]) := by
  obtain ⟨l3, hd8⟩ := h8
  obtain ⟨s1, _, _⟩ := stp_sz h (a := (acc, l, b)) hc ⟨l3, hls⟩
  simp only at s1
  have w3 := addC_len hc.len l3
  have s2 := clipC_in s1
  have p3 : ((addC c l).map clipR).length = 3 := by rw [List.length_map, w3]
  have s3 := outC_sz h (p := (addC c l).map clipR) fun q hq => (s2 q hq).2
  have o3 := outC_len h.len p3 (ms := ms)
  have e1 : lcM (rng1M (aCons (cst (.int 3)) aNil)) (bName 12) [12] tYesM (callM d_u_law_add (aCons (op2 ixD (vr 4) (vr 12)) (aCons (op2 ixD (vr 8) (vr 12)) aNil))) [v0, some (.dat (lvD ms)), v2, v3, some (.dat (colD c)), o5, o6, some (.cel st.length), some (.dat d8), some (.dat (.bool b)), o10, o11, none, o13, none] (st ++ [cD (acc.map colD)]) = .ok (.dat (.list ((addC c l).map rt))) (st ++ [cD (acc.map colD)]) := by
    unfold addC
    rw [← rng_zip_rt hc.len l3]
    refine lcM_mapN (enc := fun k : Nat => PyData.int k) (l := List.range 3) (fun k => rt (c.getD k 0 + l.getD k 0)) (rng3 _ _) (slN _ (by simp)) fun k hk => ?_
    have hk3 := List.mem_range.mp hk
    have x1 := col_at hc.len hk3
    have x2 := hd8 k hk3
    have e := ladd_run (st ++ [cD (acc.map colD)]) ((hc.sz _ (getD_mem hc.len hk3)).mono (by decide : 9 ≤ 190)) ((hls _ (getD_mem l3 hk3)).mono (by omega : n ≤ 190))
    simp only [seqO_nx, seqO_rt, seqO_exc, ev_seqM, ev_skipM, ev_cst, ev_vr, ev_aNil, ev_noO, ev_tYesM, List.getElem?_cons_zero, List.getElem?_cons_succ, List.set, Res.bind_ok, bindS_ok, ap2_dat, ap1_dat, apN1, apN2, ofO_some, peek_dat, truD_bool, Bool.not_true, Bool.not_false, ixD_tup, ixD_lst, atI_0, atI_1, toDs_nil, toD_dat, ek_op2, k_op2, k_op2b, ek_op1, k_op1, ek_isiM, ek_opN, k_opN, ek_aCons, k_cons, k_cons2, ek_tupM, ek_lstD, k_tup, k_tup2_0, k_tup2_1, k_tup2_2, k_tup2_3, k_tup2_4, k_tup2_5, k_tup2_6, k_tup2_7, k_tup2_8, k_tup2_9, k_tup2_10, k_tup2_11, k_tup2_12, ek_toDs, k_toDs, k_toDs2, ek_callM, ek_ifE, k_ifE_t, k_ifE_f, truO_some, ofB_some, ek_truM, k_tru, ek_andT, k_andT_t, k_andT_f, ek_orT, k_orT_t, k_orT_f, ek_notT, k_notT, ek_andE, k_andE_t, k_andE_f, ek_orE, k_orE_t, k_orE_f, ek_notE, k_notE, ek_setM, k_set, ek_parM, k_par, ek_ifS, k_if_t, k_if_f, ek_retM, k_ret, ek_dropM, k_drop, ek_forM, k_for, ek_itM, k_it_l, k_it_t, ek_zipM, k_zip, k_zip2_l, k_zip2_t, ek_someO, k_some, ek_sliceM, k_sl, k_sl2, k_sl3, apS_dat, ek_parGM, k_pg2, k_pg3, ek_parM3, k_p3, ek_lstC, k_lst0, wipeS, x1, x2, e]
  have e2 : ∀ o13 : Option Vl, lcM (itM (vr 10)) (bName 14) [14] tYesM (callM d_u_law_clip (aCons (vr 14) aNil)) [v0, some (.dat (lvD ms)), v2, v3, some (.dat (colD c)), o5, o6, some (.cel st.length), some (.dat d8), some (.dat (.bool b)), some (.dat (.list ((addC c l).map rt))), o11, none, o13, none] (st ++ [cD (acc.map colD)]) = .ok (.dat (.list (((addC c l).map clipR).map rt))) (st ++ [cD (acc.map colD)]) := fun o13 => by
    rw [List.map_map]
    refine lcM_mapN (enc := rt) (l := addC c l) (rt ∘ clipR) rfl (slN _ (by omega)) fun q _ => ?_
    have e := lclip_run q (st ++ [cD (acc.map colD)])
    simp only [seqO_nx, seqO_rt, seqO_exc, ev_seqM, ev_skipM, ev_cst, ev_vr, ev_aNil, ev_noO, ev_tYesM, List.getElem?_cons_zero, List.getElem?_cons_succ, List.set, Res.bind_ok, bindS_ok, ap2_dat, ap1_dat, apN1, apN2, ofO_some, peek_dat, truD_bool, Bool.not_true, Bool.not_false, ixD_tup, ixD_lst, atI_0, atI_1, toDs_nil, toD_dat, ek_op2, k_op2, k_op2b, ek_op1, k_op1, ek_isiM, ek_opN, k_opN, ek_aCons, k_cons, k_cons2, ek_tupM, ek_lstD, k_tup, k_tup2_0, k_tup2_1, k_tup2_2, k_tup2_3, k_tup2_4, k_tup2_5, k_tup2_6, k_tup2_7, k_tup2_8, k_tup2_9, k_tup2_10, k_tup2_11, k_tup2_12, ek_toDs, k_toDs, k_toDs2, ek_callM, ek_ifE, k_ifE_t, k_ifE_f, truO_some, ofB_some, ek_truM, k_tru, ek_andT, k_andT_t, k_andT_f, ek_orT, k_orT_t, k_orT_f, ek_notT, k_notT, ek_andE, k_andE_t, k_andE_f, ek_orE, k_orE_t, k_orE_f, ek_notE, k_notE, ek_setM, k_set, ek_parM, k_par, ek_ifS, k_if_t, k_if_f, ek_retM, k_ret, ek_dropM, k_drop, ek_forM, k_for, ek_itM, k_it_l, k_it_t, ek_zipM, k_zip, k_zip2_l, k_zip2_t, ek_someO, k_some, ek_sliceM, k_sl, k_sl2, k_sl3, apS_dat, ek_parGM, k_pg2, k_pg3, ek_parM3, k_p3, ek_lstC, k_lst0, wipeS, e]
    rfl
  have e3 := neD_of (Lay.listM (enc := rt) (l := (addC c l).map clipR) fun q _ => Lay.rt q) (Lay.listM (enc := rt) (l := addC c l) fun q _ => Lay.rt q)
  rw [eqv_listM rt_eqv] at e3
  have e5 : (acc.map colD) ++ [colD (outC' ms ((addC c l).map clipR))] = (acc ++ [outC' ms ((addC c l).map clipR)]).map colD := by rw [List.map_append]; rfl
  have e6 : ∀ o9 : Option Vl, dropM (appM (vr 7) (opN tupleD (aCons (lcM (rng1M (aCons (cst (.int 3)) aNil)) (bName 12) [12] tYesM (callM d_u_law_nearest (aCons (op2 ixD (vr 1) (vr 12)) (aCons (op2 ixD (vr 11) (vr 12)) aNil)))) aNil))) [v0, some (.dat (lvD ms)), v2, v3, some (.dat (colD c)), o5, o6, some (.cel st.length), some (.dat d8), o9, some (.dat (.list ((addC c l).map rt))), some (.dat (.list (((addC c l).map clipR).map rt))), none, o13, none] (st ++ [cD (acc.map colD)]) = .nx [v0, some (.dat (lvD ms)), v2, v3, some (.dat (colD c)), o5, o6, some (.cel st.length), some (.dat d8), o9, some (.dat (.list ((addC c l).map rt))), some (.dat (.list (((addC c l).map clipR).map rt))), none, o13, none] (st ++ [cD ((acc ++ [outC' ms ((addC c l).map clipR)]).map colD)]) := fun o9 => by
    rw [← e5]
    refine app_end_go rfl ?_ (by rw [List.length_map]; exact hl)
    have k := tupLc (lcM_mapN (it := rng1M (aCons (cst (.int 3)) aNil)) (i := 12) (vs := [12]) (e := callM d_u_law_nearest (aCons (op2 ixD (vr 1) (vr 12)) (aCons (op2 ixD (vr 11) (vr 12)) aNil))) (s := [v0, some (.dat (lvD ms)), v2, v3, some (.dat (colD c)), o5, o6, some (.cel st.length), some (.dat d8), o9, some (.dat (.list ((addC c l).map rt))), some (.dat (.list (((addC c l).map clipR).map rt))), none, o13, none]) (st := st ++ [cD (acc.map colD)]) (enc := fun k : Nat => PyData.int k) (l := List.range 3) (fun k => rt (putR (ms.getD k 0) (((addC c l).map clipR).getD k 0))) (rng3 _ _) (slN _ (by simp)) fun k hk => by
      have hk3 := List.mem_range.mp hk
      have x1 := lv_at h.len hk3
      have x2 := lst_at p3 hk3
      obtain ⟨m2, m256⟩ := h.two _ (lv_mem h.len hk3)
      have z := s2 _ (getD_mem p3 hk3)
      have e := near_run m2 m256 (z.mono (by omega : 9 + n + 1 ≤ 150)) (st ++ [cD (acc.map colD)])
      simp only [seqO_nx, seqO_rt, seqO_exc, ev_seqM, ev_skipM, ev_cst, ev_vr, ev_aNil, ev_noO, ev_tYesM, List.getElem?_cons_zero, List.getElem?_cons_succ, List.set, Res.bind_ok, bindS_ok, ap2_dat, ap1_dat, apN1, apN2, ofO_some, peek_dat, truD_bool, Bool.not_true, Bool.not_false, ixD_tup, ixD_lst, atI_0, atI_1, toDs_nil, toD_dat, ek_op2, k_op2, k_op2b, ek_op1, k_op1, ek_isiM, ek_opN, k_opN, ek_aCons, k_cons, k_cons2, ek_tupM, ek_lstD, k_tup, k_tup2_0, k_tup2_1, k_tup2_2, k_tup2_3, k_tup2_4, k_tup2_5, k_tup2_6, k_tup2_7, k_tup2_8, k_tup2_9, k_tup2_10, k_tup2_11, k_tup2_12, ek_toDs, k_toDs, k_toDs2, ek_callM, ek_ifE, k_ifE_t, k_ifE_f, truO_some, ofB_some, ek_truM, k_tru, ek_andT, k_andT_t, k_andT_f, ek_orT, k_orT_t, k_orT_f, ek_notT, k_notT, ek_andE, k_andE_t, k_andE_f, ek_orE, k_orE_t, k_orE_f, ek_notE, k_notE, ek_setM, k_set, ek_parM, k_par, ek_ifS, k_if_t, k_if_f, ek_retM, k_ret, ek_dropM, k_drop, ek_forM, k_for, ek_itM, k_it_l, k_it_t, ek_zipM, k_zip, k_zip2_l, k_zip2_t, ek_someO, k_some, ek_sliceM, k_sl, k_sl2, k_sl3, apS_dat, ek_parGM, k_pg2, k_pg3, ek_parM3, k_p3, ek_lstC, k_lst0, wipeS, x1, x2, e])
    rw [k]
    have e : (List.range 3).map (fun k => rt (putR (ms.getD k 0) (((addC c l).map clipR).getD k 0))) = (outC' ms ((addC c l).map clipR)).map rt := by
      unfold outC'
      rw [← zip_rng h.len p3 0 0, List.map_map]
      rfl
    rw [e]
    rfl
  have e7 : ∀ o9 : Option Vl, lcM (rng1M (aCons (cst (.int 3)) aNil)) (bName 12) [12] tYesM (callM d_u_law_sub (aCons (op2 ixD (vr 11) (vr 12)) (aCons (op2 ixD (op2 ixD (vr 7) (op1 negD (cst (.int 1)))) (vr 12)) aNil))) [v0, some (.dat (lvD ms)), v2, v3, some (.dat (colD c)), o5, o6, some (.cel st.length), some (.dat d8), o9, some (.dat (.list ((addC c l).map rt))), some (.dat (.list (((addC c l).map clipR).map rt))), none, o13, none] (st ++ [cD ((acc ++ [outC' ms ((addC c l).map clipR)]).map colD)]) = .ok (.dat (.list ((subC ((addC c l).map clipR) (outC' ms ((addC c l).map clipR))).map rt))) (st ++ [cD ((acc ++ [outC' ms ((addC c l).map clipR)]).map colD)]) := fun o9 => by
    unfold subC
    rw [← rng_zip_rt p3 o3]
    refine lcM_mapN (enc := fun k : Nat => PyData.int k) (l := List.range 3) (fun k => rt (((addC c l).map clipR).getD k 0 - (outC' ms ((addC c l).map clipR)).getD k 0)) (rng3 _ _) (slN _ (by simp)) fun k hk => ?_
    have hk3 := List.mem_range.mp hk
    have x1 := lst_at p3 hk3
    have x2 := col_at o3 hk3
    have hp := peek_end st ((acc ++ [outC' ms ((addC c l).map clipR)]).map colD)
    have ha : ∀ y : D, ap2 ixD (.cel st.length) (.dat y) (st ++ [cD ((acc ++ [outC' ms ((addC c l).map clipR)]).map colD)]) = ofO (ixD (.list ((acc ++ [outC' ms ((addC c l).map clipR)]).map colD)) y) (st ++ [cD ((acc ++ [outC' ms ((addC c l).map clipR)]).map colD)]) := fun y => by
      unfold ap2
      rw [hp, peek_dat]
    have hx : ((acc ++ [outC' ms ((addC c l).map clipR)]).map colD)[((acc ++ [outC' ms ((addC c l).map clipR)]).map colD).length - 1]? = some (colD (outC' ms ((addC c l).map clipR))) := by
      simp
    have e := lsub_run (st ++ [cD ((acc ++ [outC' ms ((addC c l).map clipR)]).map colD)]) ((s2 _ (getD_mem p3 hk3)).1.mono (by omega : 9 + n + 1 ≤ 190)) ((s3 _ (getD_mem o3 hk3)).mono (by decide : 9 ≤ 190))
    simp only [seqO_nx, seqO_rt, seqO_exc, ev_seqM, ev_skipM, ev_cst, ev_vr, ev_aNil, ev_noO, ev_tYesM, List.getElem?_cons_zero, List.getElem?_cons_succ, List.set, Res.bind_ok, bindS_ok, ap2_dat, ap1_dat, apN1, apN2, ofO_some, peek_dat, truD_bool, Bool.not_true, Bool.not_false, ixD_tup, ixD_lst, atI_0, atI_1, toDs_nil, toD_dat, ek_op2, k_op2, k_op2b, ek_op1, k_op1, ek_isiM, ek_opN, k_opN, ek_aCons, k_cons, k_cons2, ek_tupM, ek_lstD, k_tup, k_tup2_0, k_tup2_1, k_tup2_2, k_tup2_3, k_tup2_4, k_tup2_5, k_tup2_6, k_tup2_7, k_tup2_8, k_tup2_9, k_tup2_10, k_tup2_11, k_tup2_12, ek_toDs, k_toDs, k_toDs2, ek_callM, ek_ifE, k_ifE_t, k_ifE_f, truO_some, ofB_some, ek_truM, k_tru, ek_andT, k_andT_t, k_andT_f, ek_orT, k_orT_t, k_orT_f, ek_notT, k_notT, ek_andE, k_andE_t, k_andE_f, ek_orE, k_orE_t, k_orE_f, ek_notE, k_notE, ek_setM, k_set, ek_parM, k_par, ek_ifS, k_if_t, k_if_f, ek_retM, k_ret, ek_dropM, k_drop, ek_forM, k_for, ek_itM, k_it_l, k_it_t, ek_zipM, k_zip, k_zip2_l, k_zip2_t, ek_someO, k_some, ek_sliceM, k_sl, k_sl2, k_sl3, apS_dat, ek_parGM, k_pg2, k_pg3, ek_parM3, k_p3, ek_lstC, k_lst0, wipeS, negD_int, ha, Pd.atI_last, hx, x1, x2, e]
  refine ⟨some (.dat (.list ((addC c l).map rt))), some (.dat (.list (((addC c l).map clipR).map rt))), ?_⟩
  rw [ls_loop]
  cases b with
  | true =>
    simp only [seqO_nx, seqO_rt, seqO_exc, ev_seqM, ev_skipM, ev_cst, ev_vr, ev_aNil, ev_noO, ev_tYesM, List.getElem?_cons_zero, List.getElem?_cons_succ, List.set, Res.bind_ok, bindS_ok, ap2_dat, ap1_dat, apN1, apN2, ofO_some, peek_dat, truD_bool, Bool.not_true, Bool.not_false, ixD_tup, ixD_lst, atI_0, atI_1, toDs_nil, toD_dat, ek_op2, k_op2, k_op2b, ek_op1, k_op1, ek_isiM, ek_opN, k_opN, ek_aCons, k_cons, k_cons2, ek_tupM, ek_lstD, k_tup, k_tup2_0, k_tup2_1, k_tup2_2, k_tup2_3, k_tup2_4, k_tup2_5, k_tup2_6, k_tup2_7, k_tup2_8, k_tup2_9, k_tup2_10, k_tup2_11, k_tup2_12, ek_toDs, k_toDs, k_toDs2, ek_callM, ek_ifE, k_ifE_t, k_ifE_f, truO_some, ofB_some, ek_truM, k_tru, ek_andT, k_andT_t, k_andT_f, ek_orT, k_orT_t, k_orT_f, ek_notT, k_notT, ek_andE, k_andE_t, k_andE_f, ek_orE, k_orE_t, k_orE_f, ek_notE, k_notE, ek_setM, k_set, ek_parM, k_par, ek_ifS, k_if_t, k_if_f, ek_retM, k_ret, ek_dropM, k_drop, ek_forM, k_for, ek_itM, k_it_l, k_it_t, ek_zipM, k_zip, k_zip2_l, k_zip2_t, ek_someO, k_some, ek_sliceM, k_sl, k_sl2, k_sl3, apS_dat, ek_parGM, k_pg2, k_pg3, ek_parM3, k_p3, ek_lstC, k_lst0, ↓e1, ↓e2, ↓e6, ↓e7]
    rfl
  | false =>
    simp only [seqO_nx, seqO_rt, seqO_exc, ev_seqM, ev_skipM, ev_cst, ev_vr, ev_aNil, ev_noO, ev_tYesM, List.getElem?_cons_zero, List.getElem?_cons_succ, List.set, Res.bind_ok, bindS_ok, ap2_dat, ap1_dat, apN1, apN2, ofO_some, peek_dat, truD_bool, Bool.not_true, Bool.not_false, ixD_tup, ixD_lst, atI_0, atI_1, toDs_nil, toD_dat, ek_op2, k_op2, k_op2b, ek_op1, k_op1, ek_isiM, ek_opN, k_opN, ek_aCons, k_cons, k_cons2, ek_tupM, ek_lstD, k_tup, k_tup2_0, k_tup2_1, k_tup2_2, k_tup2_3, k_tup2_4, k_tup2_5, k_tup2_6, k_tup2_7, k_tup2_8, k_tup2_9, k_tup2_10, k_tup2_11, k_tup2_12, ek_toDs, k_toDs, k_toDs2, ek_callM, ek_ifE, k_ifE_t, k_ifE_f, truO_some, ofB_some, ek_truM, k_tru, ek_andT, k_andT_t, k_andT_f, ek_orT, k_orT_t, k_orT_f, ek_notT, k_notT, ek_andE, k_andE_t, k_andE_f, ek_orE, k_orE_t, k_orE_f, ek_notE, k_notE, ek_setM, k_set, ek_parM, k_par, ek_ifS, k_if_t, k_if_f, ek_retM, k_ret, ek_dropM, k_drop, ek_forM, k_for, ek_itM, k_it_l, k_it_t, ek_zipM, k_zip, k_zip2_l, k_zip2_t, ek_someO, k_some, ek_sliceM, k_sl, k_sl2, k_sl3, apS_dat, ek_parGM, k_pg2, k_pg3, ek_parM3, k_p3, ek_lstC, k_lst0, ↓e1, ↓e2, e3, ↓e6, ↓e7]
    rw [stp, Bool.false_or]
theorem lspread_run {ms : List Nat} (h : Lv ms) {cs : List (List Rat)} (hc : ∀ c ∈ cs, Pl 9 c) (hn : cs.length ≤ 7) (v0 v2 v3 o4 o5 o6 : Option Vl) (st : Store) :
    ∃ o4' o8' o10' o11', loopM (tgM (bName 4) ls_loop) (cs.map colD) [v0, some (.dat (lvD ms)), v2, v3, o4, o5, o6, some (.cel st.length), some (.dat (colD z3)), some (.dat (.bool false)), none, none, none, none, none] (st ++ [cD []]) =
      .nx [v0, some (.dat (lvD ms)), v2, v3, o4', o5, o6, some (.cel st.length), o8', some (.dat (.bool (cs.foldl (stp ms) ([], z3, false)).2.2)), o10', o11', none, none, none] (st ++ [cD ((cs.foldl (stp ms) ([], z3, false)).1.map colD)]) := by
  obtain ⟨s', st', e3, ⟨o4', d8, o10', o11', rfl, rfl, hP⟩⟩ := loop_foldN (enc := colD) (g := tgM (bName 4) ls_loop) (f := stp ms) (fun k a s st2 => ∃ (o4 : Option Vl) (d8 : D) (o10 o11 : Option Vl), s = [v0, some (.dat (lvD ms)), v2, v3, o4, o5, o6, some (.cel st.length), some (.dat d8), some (.dat (.bool a.2.2)), o10, o11, none, none, none] ∧ st2 = st ++ [cD (a.1.map colD)] ∧ Left d8 a.2.1 ∧ (∀ q ∈ a.2.1, Sz (20 * k + 1) q) ∧ a.1.length = k) cs 0 ([], z3, false)
    [v0, some (.dat (lvD ms)), v2, v3, o4, o5, o6, some (.cel st.length), some (.dat (colD z3)), some (.dat (.bool false)), none, none, none, none, none] (st ++ [cD []]) (by
      rintro c hm k ⟨acc, l, b⟩ s st2 hk ⟨o4, d8, o10, o11, rfl, rfl, h8, hsz, hlen⟩
      obtain ⟨o10', o11', e⟩ := lspread_step h (n := 20 * k + 1) (by omega) (acc := acc) (l := l) (b := b) h8 (hc c hm) hsz (by simp only at hlen ⊢; omega) v0 v2 v3 o4 o5 o6 o10 o11 none st
      obtain ⟨_, z1, z2⟩ := stp_sz h (a := (acc, l, b)) (hc c hm) ⟨h8.1, hsz⟩
      exact ⟨_, _, tg_name.trans e, ⟨some (.dat (colD c)), _, o10', o11', rfl, rfl, ⟨z1, fun k hk => lst_at z1 hk⟩, fun q hq => (z2 q hq).mono (by omega), by simp only at hlen; simp [stp, hlen]⟩⟩) ⟨o4, colD z3, none, none, rfl, rfl, ⟨rfl, fun k hk => col_at rfl hk⟩, (by
      intro q hq
      have : q = 0 := by simpa [z3] using hq
      rw [this]
      exact zero_sz), rfl⟩
  exact ⟨o4', some (.dat d8), o10', o11', e3⟩
end K27

set_option Elab.async false
set_option linter.all false
set_option maxRecDepth 100000
set_option maxHeartbeats 4000000
set_option exponentiation.threshold 5000
/-! K27St: the spread is due. -/
namespace K27
open PySem L2 Pd
theorem call_S2N {n k : Nat} {body : SM} {args : List Vl} {xs ys ys' : List Int} {d : D} {more : Store} (hn : args.length = n) (h : body (args.map some ++ List.replicate k none) (S2 xs ys) = .rt (.dat d) (S2 xs ys' ++ more)) : closeD (fnV n k body) args (S2 xs ys) = .ok (.dat d) (S2 xs ys') := by
  have hf := fnV_rt (n := n) (k := k) hn h
  unfold closeD
  rw [hf]
  have t : trim (S2 xs ys).length (S2 xs ys' ++ more) = true := by
    unfold trim
    rw [show (S2 xs ys' ++ more).take (S2 xs ys).length = S2 xs ys' from rfl]
    unfold S2 cI
    simp [below]
  show Res.bind (Res.ok d (S2 xs ys' ++ more)) _ = _
  rw [Res.bind_ok, if_pos (.inr t)]
  rfl
noncomputable abbrev off_body : SM := (seqM (setM 13 (callM d_u_law_sub (aCons (callM d_u_law_sum (aCons (lcM (itM (sliceM (vr 3) noO (someO (vr 6)))) (bName 4) [4] tYesM (op2 ixD (vr 4) (vr 12))) aNil)) (aCons (callM d_u_law_sum (aCons (lcM (itM (sliceM (vr 7) noO (someO (vr 6)))) (bName 4) [4] tYesM (op2 ixD (vr 4) (vr 12))) aNil)) aNil))))
        (ifS (truM (callM d_u_law_less (aCons (tupM (aCons (cst (.int 1)) (aCons (op2 mulD (cst (.int 2)) (op2 subD (op2 ixD (vr 1) (vr 12)) (cst (.int 1)))) aNil))) (aCons (tupM (aCons (opN absD (aCons (op2 ixD (vr 13) (cst (.int 0))) aNil)) (aCons (op2 ixD (vr 13) (cst (.int 1))) aNil))) aNil)))) (retM (cst (.bool false))) skipM))
theorem spr_props {ms : List Nat} (h : Lv ms) : ∀ (cs : List (List Rat)) (l : List Rat) (n : Nat), (∀ c ∈ cs, Pl 9 c) → (l.length = 3 ∧ ∀ q ∈ l, Sz n q) → (spr ms cs l).1.length = cs.length ∧ ∀ c ∈ (spr ms cs l).1, c.length = 3 ∧ ∀ q ∈ c, Sz 9 q
  | [], l, n, _, _ => ⟨rfl, fun c hc => by cases hc⟩
  | c :: cs, l, n, hc, hl => by
    obtain ⟨s1, z1, z2⟩ := stp_sz h (a := ([], l, false)) (hc c List.mem_cons_self) hl
    obtain ⟨i1, i2⟩ := spr_props h cs _ (n + 20) (fun x hx => hc x (List.mem_cons_of_mem _ hx)) ⟨z1, z2⟩
    have w3 := addC_len (hc c List.mem_cons_self).len hl.1
    have p3 : ((addC c l).map clipR).length = 3 := by rw [List.length_map, w3]
    have s2 := clipC_in s1
    refine ⟨by rw [spr, List.length_cons, List.length_cons]; exact congrArg (· + 1) i1, fun x hx => ?_⟩
    rw [spr] at hx
    cases hx with
    | head => exact ⟨outC_len h.len p3, outC_sz h fun q hq => (s2 q hq).2⟩
    | tail _ hx => exact i2 x hx
theorem cut_run {f : EM} {cs : List (List Rat)} {s : Slots} {st : Store} {j k : Nat} (hf : sliceM f noO (someO (vr 6)) s st = .ok (.dat (.list ((cs.take j).map colD))) st) (h3 : ∀ c ∈ cs, c.length = 3) (hn : cs.length ≤ 7) (hk : k < 3) (h12 : ∀ x : D, ((wipeS s [4]).set 4 (some (.dat x)))[12]? = some (some (.dat (nI k)))) (h4 : ∀ x : D, ((wipeS s [4]).set 4 (some (.dat x)))[4]? = some (some (.dat x))) :
    lcM (itM (sliceM f noO (someO (vr 6)))) (bName 4) [4] tYesM (op2 ixD (vr 4) (vr 12)) s st = .ok (.dat (.list (((cs.take j).map fun c => c.getD k 0).map rt))) st := by
  rw [List.map_map]
  have hit : itM (sliceM f noO (someO (vr 6))) s st = .ok ((cs.take j).map colD) st := by
    rw [ev_itM, hf, Res.bind_ok]
  refine lcM_mapN (enc := colD) (l := cs.take j) (rt ∘ fun c => c.getD k 0) hit (slN _ (by rw [List.length_take]; omega)) fun c hc => ?_
  have x1 := col_at (h3 c (List.mem_of_mem_take hc)) hk
  have v4 : vr 4 ((wipeS s [4]).set 4 (some (.dat (colD c)))) st = .ok (.dat (colD c)) st := by rw [ev_vr, h4]
  have v12 : vr 12 ((wipeS s [4]).set 4 (some (.dat (colD c)))) st = .ok (.dat (nI k)) st := by rw [ev_vr, h12]
  rw [ev_op2, v4, Res.bind_ok, v12, Res.bind_ok, ap2_dat, x1]
  rfl
theorem off_run {ms : List Nat} (h : Lv ms) {cs F : List (List Rat)} (hc : ∀ c ∈ cs, Pl 9 c) (hn : cs.length ≤ 7) (hF : F = (spr ms cs z3).1) (hb : (spr ms cs z3).2 = false) (j : Nat) {k : Nat} (hk : k < 3) (v0 v2 v4 v5 v8 v9 v10 v11 o13 : Option Vl) (st : Store) :
    ∃ o13', off_body [v0, some (.dat (lvD ms)), v2, some (.dat (.list (cs.map colD))), v4, v5, some (.dat (nI j)), some (.cel st.length), v8, v9, v10, v11, some (.dat (nI k)), o13, none] (st ++ [cD (F.map colD)]) =
      .nx [v0, some (.dat (lvD ms)), v2, some (.dat (.list (cs.map colD))), v4, v5, some (.dat (nI j)), some (.cel st.length), v8, v9, v10, v11, some (.dat (nI k)), o13', none] (st ++ [cD (F.map colD)]) := by
  have z0 : z3.length = 3 ∧ ∀ q ∈ z3, Sz 1 q := ⟨rfl, fun q hq => by
    have : q = 0 := by simpa [z3] using hq
    rw [this]
    exact zero_sz⟩
  obtain ⟨f1, f2⟩ := spr_props h cs z3 1 hc z0
  rw [← hF] at f1 f2
  have c3 : ∀ c ∈ cs, c.length = 3 := fun c hm => (hc c hm).len
  have e1 : ∀ o13 : Option Vl, lcM (itM (sliceM (vr 3) noO (someO (vr 6)))) (bName 4) [4] tYesM (op2 ixD (vr 4) (vr 12)) [v0, some (.dat (lvD ms)), v2, some (.dat (.list (cs.map colD))), v4, v5, some (.dat (nI j)), some (.cel st.length), v8, v9, v10, v11, some (.dat (nI k)), o13, none] (st ++ [cD (F.map colD)]) = .ok (.dat (.list (((cs.take j).map fun c => c.getD k 0).map rt))) (st ++ [cD (F.map colD)]) := fun o13 => by
    refine cut_run ?_ c3 hn hk (fun _ => rfl) fun _ => rfl
    simp only [seqO_nx, seqO_rt, seqO_exc, ev_seqM, ev_skipM, ev_cst, ev_vr, ev_aNil, ev_noO, ev_tYesM, List.getElem?_cons_zero, List.getElem?_cons_succ, List.set, Res.bind_ok, bindS_ok, ap2_dat, ap1_dat, apN1, apN2, ofO_some, peek_dat, truD_bool, Bool.not_true, Bool.not_false, ixD_tup, ixD_lst, atI_0, atI_1, toDs_nil, toD_dat, ek_op2, k_op2, k_op2b, ek_op1, k_op1, ek_isiM, ek_opN, k_opN, ek_aCons, k_cons, k_cons2, ek_tupM, ek_lstD, k_tup, k_tup2_0, k_tup2_1, k_tup2_2, k_tup2_3, k_tup2_4, k_tup2_5, k_tup2_6, k_tup2_7, k_tup2_8, k_tup2_9, k_tup2_10, k_tup2_11, k_tup2_12, ek_toDs, k_toDs, k_toDs2, ek_callM, ek_ifE, k_ifE_t, k_ifE_f, truO_some, ofB_some, ek_truM, k_tru, ek_andT, k_andT_t, k_andT_f, ek_orT, k_orT_t, k_orT_f, ek_notT, k_notT, ek_andE, k_andE_t, k_andE_f, ek_orE, k_orE_t, k_orE_f, ek_notE, k_notE, ek_setM, k_set, ek_parM, k_par, ek_ifS, k_if_t, k_if_f, ek_retM, k_ret, ek_dropM, k_drop, ek_forM, k_for, ek_itM, k_it_l, k_it_t, ek_zipM, k_zip, k_zip2_l, k_zip2_t, ek_someO, k_some, ek_sliceM, k_sl, k_sl2, k_sl3, apS_dat, ek_parGM, k_pg2, k_pg3, ek_parM3, k_p3, ek_lstC, k_lst0, nI, sliceD_lst, cutL_to, List.map_take]
  have e2 : ∀ o13 : Option Vl, lcM (itM (sliceM (vr 7) noO (someO (vr 6)))) (bName 4) [4] tYesM (op2 ixD (vr 4) (vr 12)) [v0, some (.dat (lvD ms)), v2, some (.dat (.list (cs.map colD))), v4, v5, some (.dat (nI j)), some (.cel st.length), v8, v9, v10, v11, some (.dat (nI k)), o13, none] (st ++ [cD (F.map colD)]) = .ok (.dat (.list (((F.take j).map fun c => c.getD k 0).map rt))) (st ++ [cD (F.map colD)]) := fun o13 => by
    refine cut_run ?_ (fun c hm => (f2 c hm).1) (by omega) hk (fun _ => rfl) fun _ => rfl
    have ha : ∀ l h, apS (.cel st.length) l h (st ++ [cD (F.map colD)]) = ofO (sliceD (.list (F.map colD)) l h) (st ++ [cD (F.map colD)]) := fun l h => by
      unfold apS
      rw [peek_end]
    simp only [seqO_nx, seqO_rt, seqO_exc, ev_seqM, ev_skipM, ev_cst, ev_vr, ev_aNil, ev_noO, ev_tYesM, List.getElem?_cons_zero, List.getElem?_cons_succ, List.set, Res.bind_ok, bindS_ok, ap2_dat, ap1_dat, apN1, apN2, ofO_some, peek_dat, truD_bool, Bool.not_true, Bool.not_false, ixD_tup, ixD_lst, atI_0, atI_1, toDs_nil, toD_dat, ek_op2, k_op2, k_op2b, ek_op1, k_op1, ek_isiM, ek_opN, k_opN, ek_aCons, k_cons, k_cons2, ek_tupM, ek_lstD, k_tup, k_tup2_0, k_tup2_1, k_tup2_2, k_tup2_3, k_tup2_4, k_tup2_5, k_tup2_6, k_tup2_7, k_tup2_8, k_tup2_9, k_tup2_10, k_tup2_11, k_tup2_12, ek_toDs, k_toDs, k_toDs2, ek_callM, ek_ifE, k_ifE_t, k_ifE_f, truO_some, ofB_some, ek_truM, k_tru, ek_andT, k_andT_t, k_andT_f, ek_orT, k_orT_t, k_orT_f, ek_notT, k_notT, ek_andE, k_andE_t, k_andE_f, ek_orE, k_orE_t, k_orE_f, ek_notE, k_notE, ek_setM, k_set, ek_parM, k_par, ek_ifS, k_if_t, k_if_f, ek_retM, k_ret, ek_dropM, k_drop, ek_forM, k_for, ek_itM, k_it_l, k_it_t, ek_zipM, k_zip, k_zip2_l, k_zip2_t, ek_someO, k_some, ek_sliceM, k_sl, k_sl2, k_sl3, apS_dat, ek_parGM, k_pg2, k_pg3, ek_parM3, k_p3, ek_lstC, k_lst0, nI, ha, sliceD_lst, cutL_to, List.map_take]
  have g1 := lsum_run 9 (l := (cs.take j).map fun c => c.getD k 0) (fun q hq => by
    obtain ⟨c, hm, rfl⟩ := List.mem_map.mp hq
    have hm := List.mem_of_mem_take hm
    exact (hc c hm).sz _ (getD_mem (c3 c hm) hk)) (by rw [List.length_map, List.length_take]; omega) (by decide) (st ++ [cD (F.map colD)])
  have g2 := lsum_run 9 (l := (F.take j).map fun c => c.getD k 0) (fun q hq => by
    obtain ⟨c, hm, rfl⟩ := List.mem_map.mp hq
    have hm := List.mem_of_mem_take hm
    exact (f2 c hm).2 _ (getD_mem (f2 c hm).1 hk)) (by rw [List.length_map, List.length_take]; omega) (by decide) (st ++ [cD (F.map colD)])
  have s1 := g1.2.mono (show _ ≤ 80 by rw [List.length_map, List.length_take]; omega)
  have s2 := g2.2.mono (show _ ≤ 80 by rw [List.length_map, List.length_take]; omega)
  have t := tele h cs z3 c3 rfl (fun k hk => by
    have : z3.getD k 0 = 0 := by
      obtain rfl | rfl | rfl : k = 0 ∨ k = 1 ∨ k = 2 := by omega
      all_goals rfl
    rw [this]
    obtain ⟨m2, _⟩ := h.two _ (lv_mem h.len hk)
    have hm : (0 : Rat) < ((ms.getD k 0 : Nat) : Rat) - 1 := by
      have : ((2 : Nat) : Rat) ≤ ((ms.getD k 0 : Nat) : Rat) := Rat.natCast_le_natCast.mpr m2
      have e : ((2 : Nat) : Rat) = 2 := rfl
      grind
    show (0 : Rat) ≤ Bk ms k
    unfold Bk
    refine Rat.le_of_lt ?_
    rw [Rat.lt_div_iff (by grind)]
    grind) hb j k hk
  have z0' : z3.getD k 0 = 0 := by
    obtain rfl | rfl | rfl : k = 0 ∨ k = 1 ∨ k = 2 := by omega
    all_goals rfl
  rw [z0', Rat.zero_add, ← hF] at t
  have g1' := g1.1
  have g2' := g2.1
  generalize sumR ((cs.take j).map fun c => c.getD k 0) = S1 at *
  generalize sumR ((F.take j).map fun c => c.getD k 0) = S2' at *
  have e3 := lsub_run (st ++ [cD (F.map colD)]) (s1.mono (by decide : 80 ≤ 190)) (s2.mono (by decide : 80 ≤ 190))
  have s3 := rabs_sz (sub_sz s1 s2)
  have e4 := absd (S1 - S2') [v0, some (.dat (lvD ms)), v2, some (.dat (.list (cs.map colD))), v4, v5, some (.dat (nI j)), some (.cel st.length), v8, v9, v10, v11, some (.dat (nI k)), some (.dat (rt (S1 - S2'))), none] (st ++ [cD (F.map colD)]) 13 rfl
  have x1 := lv_at h.len hk
  obtain ⟨m2, m256⟩ := h.two _ (lv_mem h.len hk)
  have hB : Bk ms k = 1 / ((2 * (ms.getD k 0 - 1) : Nat) : Rat) := by
    unfold Bk
    congr 1
    obtain ⟨i, hi⟩ : ∃ i, ms.getD k 0 = i + 1 := ⟨ms.getD k 0 - 1, by omega⟩
    rw [hi, Nat.add_sub_cancel, Rat.natCast_mul, Rat.natCast_add]
    show 2 * ((i : Rat) + 1 - 1) = 2 * (i : Rat)
    grind
  generalize ms.getD k 0 = m at *
  have ro := rt_over (k := 2 * (m - 1)) (by omega)
  have ro2 : PyData.tuple [.int 1, .int (2 * ((m : Int) - 1))] = rt (Bk ms k) := by
    rw [hB, ro]
    congr 4
    omega
  have mk : mulOk 2 ((m : Int) - 1) = true := mulOk_lt (k := 2) (l := 10) (by decide) (by omega) (by decide)
  have sB : Sz 10 (Bk ms k) := by
    rw [hB]
    exact over_sz (by omega) (by omega) (by decide)
  have e5 := lless_run (st ++ [cD (F.map colD)]) (sB.mono (by decide : 10 ≤ 1000)) (s3.mono (by decide : 80 + 80 + 1 ≤ 1000))
  rw [decide_eq_false (Rat.not_lt.mpr t)] at e5
  refine ⟨some (.dat (rt (S1 - S2'))), ?_⟩
  rw [off_body]
  simp only [seqO_nx, seqO_rt, seqO_exc, ev_seqM, ev_skipM, ev_cst, ev_vr, ev_aNil, ev_noO, ev_tYesM, List.getElem?_cons_zero, List.getElem?_cons_succ, List.set, Res.bind_ok, bindS_ok, ap2_dat, ap1_dat, apN1, apN2, ofO_some, peek_dat, truD_bool, Bool.not_true, Bool.not_false, ixD_tup, ixD_lst, atI_0, atI_1, toDs_nil, toD_dat, ek_op2, k_op2, k_op2b, ek_op1, k_op1, ek_isiM, ek_opN, k_opN, ek_aCons, k_cons, k_cons2, ek_tupM, ek_lstD, k_tup, k_tup2_0, k_tup2_1, k_tup2_2, k_tup2_3, k_tup2_4, k_tup2_5, k_tup2_6, k_tup2_7, k_tup2_8, k_tup2_9, k_tup2_10, k_tup2_11, k_tup2_12, ek_toDs, k_toDs, k_toDs2, ek_callM, ek_ifE, k_ifE_t, k_ifE_f, truO_some, ofB_some, ek_truM, k_tru, ek_andT, k_andT_t, k_andT_f, ek_orT, k_orT_t, k_orT_f, ek_notT, k_notT, ek_andE, k_andE_t, k_andE_f, ek_orE, k_orE_t, k_orE_f, ek_notE, k_notE, ek_setM, k_set, ek_parM, k_par, ek_ifS, k_if_t, k_if_f, ek_retM, k_ret, ek_dropM, k_drop, ek_forM, k_for, ek_itM, k_it_l, k_it_t, ek_zipM, k_zip, k_zip2_l, k_zip2_t, ek_someO, k_some, ek_sliceM, k_sl, k_sl2, k_sl3, apS_dat, ek_parGM, k_pg2, k_pg3, ek_parM3, k_p3, ek_lstC, k_lst0, ↓e1, ↓e2, g1', g2', e3, x1, nI, subD_int, mulD_int, mk, if_true, ro2, ↓e4, e5]
end K27

set_option Elab.async false
set_option linter.all false
set_option maxRecDepth 100000
set_option maxHeartbeats 4000000
set_option exponentiation.threshold 5000
/-! K27Sv: the spread is due, whole. -/
namespace K27
open PySem L2 Pd
noncomputable abbrev many_loop : SM := (forM (bName 6) (rng2M (aCons (cst (.int 1)) (aCons (op2 mulD (op2 addD (opN lenD (aCons (vr 3) aNil)) (cst (.int 1))) (opN intD (aCons (notE (vr 9)) aNil))) aNil))) (forM (bName 12) (rng1M (aCons (cst (.int 3)) aNil)) off_body))
noncomputable abbrev rest : SM := (seqM (parGM [7, 8, 9] (aCons (lstC aNil) (aCons (tupM (aCons (tupM (aCons (cst (.int 0)) (aCons (cst (.int 1)) aNil))) (aCons (tupM (aCons (cst (.int 0)) (aCons (cst (.int 1)) aNil))) (aCons (tupM (aCons (cst (.int 0)) (aCons (cst (.int 1)) aNil))) aNil)))) (aCons (cst (.bool false)) aNil))))
        (seqM (forM (bName 4) (itM (vr 3)) ls_loop)
        (seqM (setM 5 (callM d_u_law_told (aCons (cst (.int 3)) (aCons (vr 1) (aCons (opN tupleD (aCons (vr 3) aNil)) aNil)))))
        (seqM (ifS (orT (truM (op2 neD (vr 5) (tupM (aCons (opN tupleD (aCons (vr 7) aNil)) (aCons (vr 9) aNil))))) (truM (op2 neD (callM d_put_to (aCons (vr 1) (aCons (op2 ixD (vr 3) (cst (.int 0))) aNil))) (op2 ixD (vr 7) (cst (.int 0)))))) (retM (cst (.bool false))) skipM)
        (seqM many_loop
        (retM (cst (.bool true))))))))
theorem z3_tup : PyData.tuple [.tuple [.int 0, .int 1], .tuple [.int 0, .int 1], .tuple [.int 0, .int 1]] = colD z3 := rfl
theorem add_z3 {c : List Rat} (hc : Pl 9 c) : (addC c z3).map clipR = c := by
  obtain ⟨x, y, z, rfl⟩ : ∃ x y z, c = [x, y, z] := by
    match c, hc.len with
    | [x, y, z], _ => exact ⟨x, y, z, rfl⟩
  have k : ∀ q : Rat, 0 ≤ q ∧ q ≤ 1 → clipR (q + 0) = q := fun q hq => by
    rw [Rat.add_zero]
    unfold clipR
    rw [if_neg (by grind), if_neg (by grind)]
  show [clipR (x + 0), clipR (y + 0), clipR (z + 0)] = _
  rw [k x (hc.in01 x (by simp)), k y (hc.in01 y (by simp)), k z (hc.in01 z (by simp))]
theorem many_run' {ms : List Nat} (h : Lv ms) {cs F : List (List Rat)} (hc : ∀ c ∈ cs, Pl 9 c) (hn : cs.length ≤ 7) (hF : F = (spr ms cs z3).1) (v0 v2 v4 v5 v6 v8 v10 v11 v12 v13 : Option Vl) (st : Store) :
    ∃ s', many_loop [v0, some (.dat (lvD ms)), v2, some (.dat (.list (cs.map colD))), v4, v5, v6, some (.cel st.length), v8, some (.dat (.bool (spr ms cs z3).2)), v10, v11, v12, v13, none] (st ++ [cD (F.map colD)]) = .nx s' (st ++ [cD (F.map colD)]) := by
  have m0 : mulOk ((cs.length : Int) + 1) 0 = true := mulOk_lt (k := 10) (l := 1) (by omega) (by decide) (by decide)
  have m1 : mulOk ((cs.length : Int) + 1) 1 = true := mulOk_lt (k := 10) (l := 1) (by omega) (by decide) (by decide)
  cases hb : (spr ms cs z3).2 with
  | true =>
    have e : aCons (cst (.int 1)) (aCons (op2 mulD (op2 addD (opN lenD (aCons (vr 3) aNil)) (cst (.int 1))) (opN intD (aCons (notE (vr 9)) aNil))) aNil) [v0, some (.dat (lvD ms)), v2, some (.dat (.list (cs.map colD))), v4, v5, v6, some (.cel st.length), v8, some (.dat (.bool true)), v10, v11, v12, v13, none] (st ++ [cD (F.map colD)]) = .ok [.dat (.int (1 : Nat)), .dat (.int (0 : Nat))] (st ++ [cD (F.map colD)]) := by
      simp only [seqO_nx, seqO_rt, seqO_exc, ev_seqM, ev_skipM, ev_cst, ev_vr, ev_aNil, ev_noO, ev_tYesM, List.getElem?_cons_zero, List.getElem?_cons_succ, List.set, Res.bind_ok, bindS_ok, ap2_dat, ap1_dat, apN1, apN2, ofO_some, peek_dat, truD_bool, Bool.not_true, Bool.not_false, ixD_tup, ixD_lst, atI_0, atI_1, toDs_nil, toD_dat, ek_op2, k_op2, k_op2b, ek_op1, k_op1, ek_isiM, ek_opN, k_opN, ek_aCons, k_cons, k_cons2, ek_tupM, ek_lstD, k_tup, k_tup2_0, k_tup2_1, k_tup2_2, k_tup2_3, k_tup2_4, k_tup2_5, k_tup2_6, k_tup2_7, k_tup2_8, k_tup2_9, k_tup2_10, k_tup2_11, k_tup2_12, ek_toDs, k_toDs, k_toDs2, ek_callM, ek_ifE, k_ifE_t, k_ifE_f, truO_some, ofB_some, ek_truM, k_tru, ek_andT, k_andT_t, k_andT_f, ek_orT, k_orT_t, k_orT_f, ek_notT, k_notT, ek_andE, k_andE_t, k_andE_f, ek_orE, k_orE_t, k_orE_f, ek_notE, k_notE, ek_setM, k_set, ek_parM, k_par, ek_ifS, k_if_t, k_if_f, ek_retM, k_ret, ek_dropM, k_drop, ek_forM, k_for, ek_itM, k_it_l, k_it_t, ek_zipM, k_zip, k_zip2_l, k_zip2_t, ek_someO, k_some, ek_sliceM, k_sl, k_sl2, k_sl3, apS_dat, ek_parGM, k_pg2, k_pg3, ek_parM3, k_p3, ek_lstC, k_lst0, lenD_lst, List.length_map, addD_int, Bool.not_true, intD_bool, mulD_int, m0, if_true, Bool.false_eq_true, if_false, Int.mul_zero]
      rfl
    refine ⟨[v0, some (.dat (lvD ms)), v2, some (.dat (.list (cs.map colD))), v4, v5, v6, some (.cel st.length), v8, some (.dat (.bool true)), v10, v11, v12, v13, none], ?_⟩
    rw [many_loop, ev_forM, run_rng2 e (by decide) (by decide), bindS_ok]
    rfl
  | false =>
    have e : aCons (cst (.int 1)) (aCons (op2 mulD (op2 addD (opN lenD (aCons (vr 3) aNil)) (cst (.int 1))) (opN intD (aCons (notE (vr 9)) aNil))) aNil) [v0, some (.dat (lvD ms)), v2, some (.dat (.list (cs.map colD))), v4, v5, v6, some (.cel st.length), v8, some (.dat (.bool false)), v10, v11, v12, v13, none] (st ++ [cD (F.map colD)]) = .ok [.dat (.int (1 : Nat)), .dat (.int (cs.length + 1 : Nat))] (st ++ [cD (F.map colD)]) := by
      simp only [seqO_nx, seqO_rt, seqO_exc, ev_seqM, ev_skipM, ev_cst, ev_vr, ev_aNil, ev_noO, ev_tYesM, List.getElem?_cons_zero, List.getElem?_cons_succ, List.set, Res.bind_ok, bindS_ok, ap2_dat, ap1_dat, apN1, apN2, ofO_some, peek_dat, truD_bool, Bool.not_true, Bool.not_false, ixD_tup, ixD_lst, atI_0, atI_1, toDs_nil, toD_dat, ek_op2, k_op2, k_op2b, ek_op1, k_op1, ek_isiM, ek_opN, k_opN, ek_aCons, k_cons, k_cons2, ek_tupM, ek_lstD, k_tup, k_tup2_0, k_tup2_1, k_tup2_2, k_tup2_3, k_tup2_4, k_tup2_5, k_tup2_6, k_tup2_7, k_tup2_8, k_tup2_9, k_tup2_10, k_tup2_11, k_tup2_12, ek_toDs, k_toDs, k_toDs2, ek_callM, ek_ifE, k_ifE_t, k_ifE_f, truO_some, ofB_some, ek_truM, k_tru, ek_andT, k_andT_t, k_andT_f, ek_orT, k_orT_t, k_orT_f, ek_notT, k_notT, ek_andE, k_andE_t, k_andE_f, ek_orE, k_orE_t, k_orE_f, ek_notE, k_notE, ek_setM, k_set, ek_parM, k_par, ek_ifS, k_if_t, k_if_f, ek_retM, k_ret, ek_dropM, k_drop, ek_forM, k_for, ek_itM, k_it_l, k_it_t, ek_zipM, k_zip, k_zip2_l, k_zip2_t, ek_someO, k_some, ek_sliceM, k_sl, k_sl2, k_sl3, apS_dat, ek_parGM, k_pg2, k_pg3, ek_parM3, k_p3, ek_lstC, k_lst0, lenD_lst, List.length_map, addD_int, Bool.not_false, intD_bool, mulD_int, m1, if_true, Int.mul_one]
      rfl
    obtain ⟨s', st', e1, ⟨w6, w12, w13, rfl, rfl⟩⟩ := loop_from (g := tgM (bName 6) (forM (bName 12) (rng1M (aCons (cst (.int 3)) aNil)) off_body)) (fun _ s st2 => ∃ w6 w12 w13 : Option Vl, s = [v0, some (.dat (lvD ms)), v2, some (.dat (.list (cs.map colD))), v4, v5, w6, some (.cel st.length), v8, some (.dat (.bool false)), v10, v11, w12, w13, none] ∧ st2 = st ++ [cD (F.map colD)]) (cs.length + 1 - 1) 1 [v0, some (.dat (lvD ms)), v2, some (.dat (.list (cs.map colD))), v4, v5, v6, some (.cel st.length), v8, some (.dat (.bool false)), v10, v11, v12, v13, none] (st ++ [cD (F.map colD)]) ⟨v6, v12, v13, rfl, rfl⟩ (by
        rintro j _ _ _ _ ⟨w6, w12, w13, rfl, rfl⟩
        obtain ⟨s2, st2, e2, ⟨x12, x13, rfl, rfl⟩⟩ := loop_range (g := tgM (bName 12) off_body) (fun _ s st2 => ∃ w12 w13 : Option Vl, s = [v0, some (.dat (lvD ms)), v2, some (.dat (.list (cs.map colD))), v4, v5, some (.dat (nI j)), some (.cel st.length), v8, some (.dat (.bool false)), v10, v11, w12, w13, none] ∧ st2 = st ++ [cD (F.map colD)]) 3 [v0, some (.dat (lvD ms)), v2, some (.dat (.list (cs.map colD))), v4, v5, some (.dat (nI j)), some (.cel st.length), v8, some (.dat (.bool false)), v10, v11, w12, w13, none] (st ++ [cD (F.map colD)]) ⟨w12, w13, rfl, rfl⟩ (by
          rintro k hk _ _ ⟨y12, y13, rfl, rfl⟩
          obtain ⟨o13', e3⟩ := off_run h hc hn hF hb j hk v0 v2 v4 v5 v8 (some (.dat (.bool false))) v10 v11 y13 st
          exact ⟨_, _, tg_name.trans e3, ⟨some (.dat (nI k)), o13', rfl, rfl⟩⟩)
        have e4 : forM (bName 12) (rng1M (aCons (cst (.int 3)) aNil)) off_body [v0, some (.dat (lvD ms)), v2, some (.dat (.list (cs.map colD))), v4, v5, some (.dat (nI j)), some (.cel st.length), v8, some (.dat (.bool false)), v10, v11, w12, w13, none] (st ++ [cD (F.map colD)]) = .nx [v0, some (.dat (lvD ms)), v2, some (.dat (.list (cs.map colD))), v4, v5, some (.dat (nI j)), some (.cel st.length), v8, some (.dat (.bool false)), v10, v11, x12, x13, none] (st ++ [cD (F.map colD)]) := by
          rw [ev_forM, rng3, bindS_ok, e2]
        exact ⟨_, _, tg_name.trans e4, ⟨_, x12, x13, rfl, rfl⟩⟩)
    refine ⟨[v0, some (.dat (lvD ms)), v2, some (.dat (.list (cs.map colD))), v4, v5, w6, some (.cel st.length), v8, some (.dat (.bool false)), v10, v11, w12, w13, none], ?_⟩
    rw [many_loop, ev_forM, run_rng2 e (by decide) (by omega), bindS_ok]
    exact e1
theorem rest_run {ms : List Nat} (h : Lv ms) {cs : List (List Rat)} (hc : ∀ c ∈ cs, Pl 9 c) (h0 : 0 < cs.length) (hn : cs.length ≤ 7) (v0 v2 v4 v5 v6 : Option Vl) (st : Store) :
    rest [v0, some (.dat (lvD ms)), v2, some (.dat (.list (cs.map colD))), v4, v5, v6, none, none, none, none, none, none, none, none] st = .rt (.dat (.bool true)) (st ++ [cD ((spr ms cs z3).1.map colD)]) := by
  obtain ⟨p1, p2⟩ := spr_fold ms cs [] z3 false
  rw [List.nil_append] at p1
  rw [Bool.false_or] at p2
  obtain ⟨o4, o8, o10, o11, e1⟩ := lspread_run h hc hn v0 v2 (some (.dat (.list (cs.map colD)))) v4 v5 v6 st
  have t := told3 (spread_run h hc h0 hn (st ++ [cD ((spr ms cs z3).1.map colD)]))
  rw [p1, p2] at t e1
  obtain ⟨F, hF⟩ : ∃ F, F = (spr ms cs z3).1 := ⟨_, rfl⟩
  rw [← hF] at t e1 ⊢
  obtain ⟨s', e2⟩ := many_run' h hc hn hF v0 v2 o4 (some (.dat (.tuple [.tuple (F.map colD), .bool (spr ms cs z3).2]))) v6 o8 o10 o11 none none st
  have n1 : neD (.tuple [.tuple (F.map colD), .bool (spr ms cs z3).2]) (.tuple [.tuple (F.map colD), .bool (spr ms cs z3).2]) = some (.bool false) := neD_refl ((Lay.tuple (k := 3) (ds := [.tuple (F.map colD), .bool (spr ms cs z3).2]) fun d hd => by
    have : d = .tuple (F.map colD) ∨ d = .bool (spr ms cs z3).2 := by simpa using hd
    rcases this with rfl | rfl
    · exact Lay.tupleM fun c _ => lay_col c
    · exact (Lay.bool _).mono (by decide)).shaped (by decide))
  obtain ⟨c0, t0, rfl⟩ : ∃ c t, cs = c :: t := by
    match cs, h0 with
    | c :: t, _ => exact ⟨c, t, rfl⟩
  have hc0 := hc c0 List.mem_cons_self
  have e3 := putto_run h (c := c0) ⟨hc0.len, fun q hq => (hc0.sz q hq).mono (by decide), hc0.in01⟩ (st ++ [cD (F.map colD)])
  have hF0 : (F.map colD)[0]? = some (colD (List.zipWith putR ms c0)) := by
    rw [hF, spr, add_z3 hc0]
    rfl
  have n2 := neD_refl ((lay_col (List.zipWith putR ms c0)).shaped (by decide))
  have x0 : ((c0 :: t0).map colD)[0]? = some (colD c0) := rfl
  have ha : ∀ y : D, ap2 ixD (.cel st.length) (.dat y) (st ++ [cD (F.map colD)]) = ofO (ixD (.list (F.map colD)) y) (st ++ [cD (F.map colD)]) := fun y => by
    unfold ap2
    rw [peek_end, peek_dat]
  rw [rest]
  simp only [seqO_nx, seqO_rt, seqO_exc, ev_seqM, ev_skipM, ev_cst, ev_vr, ev_aNil, ev_noO, ev_tYesM, List.getElem?_cons_zero, List.getElem?_cons_succ, List.set, Res.bind_ok, bindS_ok, ap2_dat, ap1_dat, apN1, apN2, ofO_some, peek_dat, truD_bool, Bool.not_true, Bool.not_false, ixD_tup, ixD_lst, atI_0, atI_1, toDs_nil, toD_dat, ek_op2, k_op2, k_op2b, ek_op1, k_op1, ek_isiM, ek_opN, k_opN, ek_aCons, k_cons, k_cons2, ek_tupM, ek_lstD, k_tup, k_tup2_0, k_tup2_1, k_tup2_2, k_tup2_3, k_tup2_4, k_tup2_5, k_tup2_6, k_tup2_7, k_tup2_8, k_tup2_9, k_tup2_10, k_tup2_11, k_tup2_12, ek_toDs, k_toDs, k_toDs2, ek_callM, ek_ifE, k_ifE_t, k_ifE_f, truO_some, ofB_some, ek_truM, k_tru, ek_andT, k_andT_t, k_andT_f, ek_orT, k_orT_t, k_orT_f, ek_notT, k_notT, ek_andE, k_andE_t, k_andE_f, ek_orE, k_orE_t, k_orE_f, ek_notE, k_notE, ek_setM, k_set, ek_parM, k_par, ek_ifS, k_if_t, k_if_f, ek_retM, k_ret, ek_dropM, k_drop, ek_forM, k_for, ek_itM, k_it_l, k_it_t, ek_zipM, k_zip, k_zip2_l, k_zip2_t, ek_someO, k_some, ek_sliceM, k_sl, k_sl2, k_sl3, apS_dat, ek_parGM, k_pg2, k_pg3, ek_parM3, k_p3, ek_lstC, k_lst0, z3_tup, e1, tupleD_list, t, apN_end, n1, x0, e3, ha, hF0, n2, ↓e2]
/-! the draws -/
theorem colour_run (xs ys : List Int) : ∃ (c : List Rat) (ys' : List Int), d_u_law_colour [.cel 1] (S2 xs ys) = .ok (.dat (colD c)) (S2 xs ys') ∧ Pl 4 c := by
  obtain ⟨c, st1, ⟨ys1, rfl⟩, e1, a1⟩ := lcM_drawN (it := rng1M (aCons (cst (.int 3)) aNil)) (i := 1) (vs := [1]) (e := callM d_u_law_number (aCons (vr 0) aNil)) (s := [some (.cel 1), none]) (st := S2 xs ys) (st0 := S2 xs ys) (enc := fun k : Nat => PyData.int k) (out := rt) (I := DS xs) (fun _ q => In01 4 q) (l := List.range 3) (rng3 _ _) ⟨ys, rfl⟩ (slN _ (by simp)) (fun k _ st hst => by
    obtain ⟨ys, rfl⟩ := hst
    obtain ⟨q, ys', e, h⟩ := number_run xs ys
    refine ⟨q, _, ⟨ys', rfl⟩, ?_, h⟩
    simp only [seqO_nx, seqO_rt, seqO_exc, ev_seqM, ev_skipM, ev_cst, ev_vr, ev_aNil, ev_noO, ev_tYesM, List.getElem?_cons_zero, List.getElem?_cons_succ, List.set, Res.bind_ok, bindS_ok, ap2_dat, ap1_dat, apN1, apN2, ofO_some, peek_dat, truD_bool, Bool.not_true, Bool.not_false, ixD_tup, ixD_lst, atI_0, atI_1, toDs_nil, toD_dat, ek_op2, k_op2, k_op2b, ek_op1, k_op1, ek_isiM, ek_opN, k_opN, ek_aCons, k_cons, k_cons2, ek_tupM, ek_lstD, k_tup, k_tup2_0, k_tup2_1, k_tup2_2, k_tup2_3, k_tup2_4, k_tup2_5, k_tup2_6, k_tup2_7, k_tup2_8, k_tup2_9, k_tup2_10, k_tup2_11, k_tup2_12, ek_toDs, k_toDs, k_toDs2, ek_callM, ek_ifE, k_ifE_t, k_ifE_f, truO_some, ofB_some, ek_truM, k_tru, ek_andT, k_andT_t, k_andT_f, ek_orT, k_orT_t, k_orT_f, ek_notT, k_notT, ek_andE, k_andE_t, k_andE_f, ek_orE, k_orE_t, k_orE_f, ek_notE, k_notE, ek_setM, k_set, ek_parM, k_par, ek_ifS, k_if_t, k_if_f, ek_retM, k_ret, ek_dropM, k_drop, ek_forM, k_for, ek_itM, k_it_l, k_it_t, ek_zipM, k_zip, k_zip2_l, k_zip2_t, ek_someO, k_some, ek_sliceM, k_sl, k_sl2, k_sl3, apS_dat, ek_parGM, k_pg2, k_pg3, ek_parM3, k_p3, ek_lstC, k_lst0, wipeS, e])
  have t1 : _ = Res.ok (Vl.dat (colD c)) (S2 xs ys1) := tupLc e1
  refine ⟨c, ys1, call_S2 rfl ?_, all2_pl a1 (by simp) fun _ _ q => q⟩
  show b_u_law_colour [some (.cel 1), none] (S2 xs ys) = _
  rw [b_u_law_colour]
  simp only [seqO_nx, seqO_rt, seqO_exc, ev_seqM, ev_skipM, ev_cst, ev_vr, ev_aNil, ev_noO, ev_tYesM, List.getElem?_cons_zero, List.getElem?_cons_succ, List.set, Res.bind_ok, bindS_ok, ap2_dat, ap1_dat, apN1, apN2, ofO_some, peek_dat, truD_bool, Bool.not_true, Bool.not_false, ixD_tup, ixD_lst, atI_0, atI_1, toDs_nil, toD_dat, ek_op2, k_op2, k_op2b, ek_op1, k_op1, ek_isiM, ek_opN, k_opN, ek_aCons, k_cons, k_cons2, ek_tupM, ek_lstD, k_tup, k_tup2_0, k_tup2_1, k_tup2_2, k_tup2_3, k_tup2_4, k_tup2_5, k_tup2_6, k_tup2_7, k_tup2_8, k_tup2_9, k_tup2_10, k_tup2_11, k_tup2_12, ek_toDs, k_toDs, k_toDs2, ek_callM, ek_ifE, k_ifE_t, k_ifE_f, truO_some, ofB_some, ek_truM, k_tru, ek_andT, k_andT_t, k_andT_f, ek_orT, k_orT_t, k_orT_f, ek_notT, k_notT, ek_andE, k_andE_t, k_andE_f, ek_orE, k_orE_t, k_orE_f, ek_notE, k_notE, ek_setM, k_set, ek_parM, k_par, ek_ifS, k_if_t, k_if_f, ek_retM, k_ret, ek_dropM, k_drop, ek_forM, k_for, ek_itM, k_it_l, k_it_t, ek_zipM, k_zip, k_zip2_l, k_zip2_t, ek_someO, k_some, ek_sliceM, k_sl, k_sl2, k_sl3, apS_dat, ek_parGM, k_pg2, k_pg3, ek_parM3, k_p3, ek_lstC, k_lst0, ↓t1]
theorem third_rt : PyData.tuple [.int 1, .int 3] = rt (1 / 3) := (rt_of (1 / 3) 1 3 (by decide +kernel)).symm
theorem third_sz : Sz 2 (1 / 3 : Rat) := by
  unfold Sz
  decide +kernel
def mild (c : List Rat) : List Rat := c.map fun q => 1 / 3 + q * (1 / 3)
theorem mild_pl {c : List Rat} (h : Pl 4 c) : Pl 9 (mild c) := by
  refine ⟨by unfold mild; rw [List.length_map, h.len], fun q hq => ?_, fun q hq => ?_⟩
  · obtain ⟨x, hx, rfl⟩ := List.mem_map.mp hq
    exact add_sz (k := 2) (l := 6) third_sz (mul_sz (k := 4) (l := 2) (h.sz x hx) third_sz)
  · obtain ⟨x, hx, rfl⟩ := List.mem_map.mp hq
    obtain ⟨a, b⟩ := h.in01 x hx
    exact ⟨by grind, by grind⟩
theorem isspread_run (xs ys : List Int) : ∃ ys', d_u_law_is_spread_due [.cel 1] (S2 xs ys) = .ok (.dat (.bool true)) (S2 xs ys') := by
  obtain ⟨ms, st1, ⟨ys1, rfl⟩, e1, a1⟩ := lcM_drawN (it := rng1M (aCons (cst (.int 3)) aNil)) (i := 12) (vs := [12]) (e := op2 addD (cst (.int 2)) (callM d_u_law_take (aCons (vr 0) (aCons (cst (.int 5)) aNil)))) (s := [some (.cel 1), none, none, none, none, none, none, none, none, none, none, none, none, none, none]) (st := S2 xs ys) (st0 := S2 xs ys) (enc := fun k : Nat => PyData.int k) (out := nI) (I := DS xs) (fun _ m => 2 ≤ m ∧ m ≤ 256) (l := List.range 3) (rng3 _ _) ⟨ys, rfl⟩ (slN _ (by simp)) (fun k _ st hst => by
    obtain ⟨ys, rfl⟩ := hst
    obtain ⟨v, ys', e, v0, v1⟩ := take_run xs ys (b := 5) (by decide)
    obtain ⟨m, hm⟩ : ∃ m : Nat, 2 + v = m := ⟨(2 + v).toNat, by omega⟩
    refine ⟨m, _, ⟨ys', rfl⟩, ?_, by omega, by omega⟩
    simp only [seqO_nx, seqO_rt, seqO_exc, ev_seqM, ev_skipM, ev_cst, ev_vr, ev_aNil, ev_noO, ev_tYesM, List.getElem?_cons_zero, List.getElem?_cons_succ, List.set, Res.bind_ok, bindS_ok, ap2_dat, ap1_dat, apN1, apN2, ofO_some, peek_dat, truD_bool, Bool.not_true, Bool.not_false, ixD_tup, ixD_lst, atI_0, atI_1, toDs_nil, toD_dat, ek_op2, k_op2, k_op2b, ek_op1, k_op1, ek_isiM, ek_opN, k_opN, ek_aCons, k_cons, k_cons2, ek_tupM, ek_lstD, k_tup, k_tup2_0, k_tup2_1, k_tup2_2, k_tup2_3, k_tup2_4, k_tup2_5, k_tup2_6, k_tup2_7, k_tup2_8, k_tup2_9, k_tup2_10, k_tup2_11, k_tup2_12, ek_toDs, k_toDs, k_toDs2, ek_callM, ek_ifE, k_ifE_t, k_ifE_f, truO_some, ofB_some, ek_truM, k_tru, ek_andT, k_andT_t, k_andT_f, ek_orT, k_orT_t, k_orT_f, ek_notT, k_notT, ek_andE, k_andE_t, k_andE_f, ek_orE, k_orE_t, k_orE_f, ek_notE, k_notE, ek_setM, k_set, ek_parM, k_par, ek_ifS, k_if_t, k_if_f, ek_retM, k_ret, ek_dropM, k_drop, ek_forM, k_for, ek_itM, k_it_l, k_it_t, ek_zipM, k_zip, k_zip2_l, k_zip2_t, ek_someO, k_some, ek_sliceM, k_sl, k_sl2, k_sl3, apS_dat, ek_parGM, k_pg2, k_pg3, ek_parM3, k_p3, ek_lstC, k_lst0, wipeS, e, addD_int, hm])
  have t1 : _ = Res.ok (Vl.dat (lvD ms)) (S2 xs ys1) := tupLc e1
  have h : Lv ms := ⟨by rw [a1.len]; simp, a1.right fun _ _ q => q⟩
  obtain ⟨v, ys2, e2, _, _⟩ := take_run xs ys1 (b := 2) (by decide)
  obtain ⟨w, ys3, e3, w0, w1⟩ := take_run xs ys2 (b := 7) (by decide)
  obtain ⟨n, hn⟩ : ∃ n : Nat, 1 + w = n := ⟨(1 + w).toNat, by omega⟩
  have hit : ∀ s : Slots, s[0]? = some (some (.cel 1)) → rng1M (aCons (op2 addD (cst (.int 1)) (callM d_u_law_take (aCons (vr 0) (aCons (cst (.int 7)) aNil)))) aNil) s (S2 xs ys2) = .ok ((List.range n).map fun k : Nat => PyData.int k) (S2 xs ys3) := fun s hs => by
    have hv : ∀ st, vr 0 s st = .ok (.cel 1) st := fun st => by rw [ev_vr, hs]
    refine run_rngN ?_ (by omega)
    simp only [seqO_nx, seqO_rt, seqO_exc, ev_seqM, ev_skipM, ev_cst, ev_vr, ev_aNil, ev_noO, ev_tYesM, List.getElem?_cons_zero, List.getElem?_cons_succ, List.set, Res.bind_ok, bindS_ok, ap2_dat, ap1_dat, apN1, apN2, ofO_some, peek_dat, truD_bool, Bool.not_true, Bool.not_false, ixD_tup, ixD_lst, atI_0, atI_1, toDs_nil, toD_dat, ek_op2, k_op2, k_op2b, ek_op1, k_op1, ek_isiM, ek_opN, k_opN, ek_aCons, k_cons, k_cons2, ek_tupM, ek_lstD, k_tup, k_tup2_0, k_tup2_1, k_tup2_2, k_tup2_3, k_tup2_4, k_tup2_5, k_tup2_6, k_tup2_7, k_tup2_8, k_tup2_9, k_tup2_10, k_tup2_11, k_tup2_12, ek_toDs, k_toDs, k_toDs2, ek_callM, ek_ifE, k_ifE_t, k_ifE_f, truO_some, ofB_some, ek_truM, k_tru, ek_andT, k_andT_t, k_andT_f, ek_orT, k_orT_t, k_orT_f, ek_notT, k_notT, ek_andE, k_andE_t, k_andE_f, ek_orE, k_orE_t, k_orE_f, ek_notE, k_notE, ek_setM, k_set, ek_parM, k_par, ek_ifS, k_if_t, k_if_f, ek_retM, k_ret, ek_dropM, k_drop, ek_forM, k_for, ek_itM, k_it_l, k_it_t, ek_zipM, k_zip, k_zip2_l, k_zip2_t, ek_someO, k_some, ek_sliceM, k_sl, k_sl2, k_sl3, apS_dat, ek_parGM, k_pg2, k_pg3, ek_parM3, k_p3, ek_lstC, k_lst0, ↓hv, e3, addD_int, hn]
  obtain ⟨b, hb⟩ : ∃ b : Bool, decide (v = 0) = b := ⟨_, rfl⟩
  obtain ⟨cs, st4, ⟨ys4, rfl⟩, e4, a4⟩ := lcM_drawN (it := rng1M (aCons (op2 addD (cst (.int 1)) (callM d_u_law_take (aCons (vr 0) (aCons (cst (.int 7)) aNil)))) aNil)) (i := 12) (vs := [12]) (e := callM d_u_law_colour (aCons (vr 0) aNil)) (s := [some (.cel 1), some (.dat (lvD ms)), some (.dat (.bool b)), none, none, none, none, none, none, none, none, none, none, none, none]) (st := S2 xs ys3) (st0 := S2 xs ys2) (enc := fun k : Nat => PyData.int k) (out := colD) (I := DS xs) (fun _ c => Pl 4 c) (l := List.range n) (hit _ rfl) ⟨ys3, rfl⟩ (slN _ (by rw [List.length_range]; omega)) (fun k _ st hst => by
    obtain ⟨ys, rfl⟩ := hst
    obtain ⟨c, ys', e, h⟩ := colour_run xs ys
    refine ⟨c, _, ⟨ys', rfl⟩, ?_, h⟩
    simp only [seqO_nx, seqO_rt, seqO_exc, ev_seqM, ev_skipM, ev_cst, ev_vr, ev_aNil, ev_noO, ev_tYesM, List.getElem?_cons_zero, List.getElem?_cons_succ, List.set, Res.bind_ok, bindS_ok, ap2_dat, ap1_dat, apN1, apN2, ofO_some, peek_dat, truD_bool, Bool.not_true, Bool.not_false, ixD_tup, ixD_lst, atI_0, atI_1, toDs_nil, toD_dat, ek_op2, k_op2, k_op2b, ek_op1, k_op1, ek_isiM, ek_opN, k_opN, ek_aCons, k_cons, k_cons2, ek_tupM, ek_lstD, k_tup, k_tup2_0, k_tup2_1, k_tup2_2, k_tup2_3, k_tup2_4, k_tup2_5, k_tup2_6, k_tup2_7, k_tup2_8, k_tup2_9, k_tup2_10, k_tup2_11, k_tup2_12, ek_toDs, k_toDs, k_toDs2, ek_callM, ek_ifE, k_ifE_t, k_ifE_f, truO_some, ofB_some, ek_truM, k_tru, ek_andT, k_andT_t, k_andT_f, ek_orT, k_orT_t, k_orT_f, ek_notT, k_notT, ek_andE, k_andE_t, k_andE_f, ek_orE, k_orE_t, k_orE_f, ek_notE, k_notE, ek_setM, k_set, ek_parM, k_par, ek_ifS, k_if_t, k_if_f, ek_retM, k_ret, ek_dropM, k_drop, ek_forM, k_for, ek_itM, k_it_l, k_it_t, ek_zipM, k_zip, k_zip2_l, k_zip2_t, ek_someO, k_some, ek_sliceM, k_sl, k_sl2, k_sl3, apS_dat, ek_parGM, k_pg2, k_pg3, ek_parM3, k_p3, ek_lstC, k_lst0, wipeS, e])
  have hl : cs.length = n := by rw [a4.len, List.length_range]
  have hc4 : ∀ c ∈ cs, Pl 4 c := a4.right fun _ _ q => q
  obtain ⟨st, hst⟩ : ∃ st, st = S2 xs ys4 := ⟨_, rfl⟩
  cases b with
  | false =>
    have hc : ∀ c ∈ cs, Pl 9 c := fun c hm => ⟨(hc4 c hm).len, fun q hq => ((hc4 c hm).sz q hq).mono (by decide), (hc4 c hm).in01⟩
    have r := rest_run h hc (by omega) (by omega) (some (.cel 1)) (some (.dat (.bool false))) none none none st
    refine ⟨ys4, call_S2N (more := [cD ((spr ms cs z3).1.map colD)]) rfl ?_⟩
    show b_u_law_is_spread_due [some (.cel 1), none, none, none, none, none, none, none, none, none, none, none, none, none, none] (S2 xs ys) = _
    rw [← hst] at e4 ⊢
    rw [b_u_law_is_spread_due]
    simp only [seqO_nx, seqO_rt, seqO_exc, ev_seqM, ev_skipM, ev_cst, ev_vr, ev_aNil, ev_noO, ev_tYesM, List.getElem?_cons_zero, List.getElem?_cons_succ, List.set, Res.bind_ok, bindS_ok, ap2_dat, ap1_dat, apN1, apN2, ofO_some, peek_dat, truD_bool, Bool.not_true, Bool.not_false, ixD_tup, ixD_lst, atI_0, atI_1, toDs_nil, toD_dat, ek_op2, k_op2, k_op2b, ek_op1, k_op1, ek_isiM, ek_opN, k_opN, ek_aCons, k_cons, k_cons2, ek_tupM, ek_lstD, k_tup, k_tup2_0, k_tup2_1, k_tup2_2, k_tup2_3, k_tup2_4, k_tup2_5, k_tup2_6, k_tup2_7, k_tup2_8, k_tup2_9, k_tup2_10, k_tup2_11, k_tup2_12, ek_toDs, k_toDs, k_toDs2, ek_callM, ek_ifE, k_ifE_t, k_ifE_f, truO_some, ofB_some, ek_truM, k_tru, ek_andT, k_andT_t, k_andT_f, ek_orT, k_orT_t, k_orT_f, ek_notT, k_notT, ek_andE, k_andE_t, k_andE_f, ek_orE, k_orE_t, k_orE_f, ek_notE, k_notE, ek_setM, k_set, ek_parM, k_par, ek_ifS, k_if_t, k_if_f, ek_retM, k_ret, ek_dropM, k_drop, ek_forM, k_for, ek_itM, k_it_l, k_it_t, ek_zipM, k_zip, k_zip2_l, k_zip2_t, ek_someO, k_some, ek_sliceM, k_sl, k_sl2, k_sl3, apS_dat, ek_parGM, k_pg2, k_pg3, ek_parM3, k_p3, ek_lstC, k_lst0, ↓t1, e2, eqD_int, hb, ↓e4, ↓r]
  | true =>
    have hc : ∀ c ∈ cs.map mild, Pl 9 c := fun c hm => by
      obtain ⟨x, hx, rfl⟩ := List.mem_map.mp hm
      exact mild_pl (hc4 x hx)
    have r := rest_run h hc (by rw [List.length_map]; omega) (by rw [List.length_map]; omega) (some (.cel 1)) (some (.dat (.bool true))) none none none st
    have e5 : lcM (itM (vr 3)) (bName 4) [4] tYesM (opN tupleD (aCons (lcM (itM (vr 4)) (bName 14) [14] tYesM (callM d_u_law_add (aCons (tupM (aCons (cst (.int 1)) (aCons (cst (.int 3)) aNil))) (aCons (callM d_u_law_mul (aCons (vr 14) (aCons (tupM (aCons (cst (.int 1)) (aCons (cst (.int 3)) aNil))) aNil))) aNil)))) aNil)) [some (.cel 1), some (.dat (lvD ms)), some (.dat (.bool true)), some (.dat (.list (cs.map colD))), none, none, none, none, none, none, none, none, none, none, none] st = .ok (.dat (.list ((cs.map mild).map colD))) st := by
      rw [List.map_map]
      refine lcM_mapN (enc := colD) (l := cs) (colD ∘ mild) rfl (slN _ (by omega)) fun c hm => ?_
      show _ = Res.ok (Vl.dat (PyData.tuple ((c.map fun q => 1 / 3 + q * (1 / 3)).map rt))) st
      rw [List.map_map]
      refine tupLc (lcM_mapN (enc := rt) (l := c) (rt ∘ fun q => 1 / 3 + q * (1 / 3)) rfl (slN _ (by rw [(hc4 c hm).len]; decide)) fun q hq => ?_)
      have f1 := lmul_run st (((hc4 c hm).sz q hq).mono (by decide : 4 ≤ 190)) (third_sz.mono (by decide : 2 ≤ 190))
      have f2 := ladd_run st (third_sz.mono (by decide : 2 ≤ 190)) ((mul_sz ((hc4 c hm).sz q hq) third_sz).mono (by decide : 4 + 2 ≤ 190))
      simp only [seqO_nx, seqO_rt, seqO_exc, ev_seqM, ev_skipM, ev_cst, ev_vr, ev_aNil, ev_noO, ev_tYesM, List.getElem?_cons_zero, List.getElem?_cons_succ, List.set, Res.bind_ok, bindS_ok, ap2_dat, ap1_dat, apN1, apN2, ofO_some, peek_dat, truD_bool, Bool.not_true, Bool.not_false, ixD_tup, ixD_lst, atI_0, atI_1, toDs_nil, toD_dat, ek_op2, k_op2, k_op2b, ek_op1, k_op1, ek_isiM, ek_opN, k_opN, ek_aCons, k_cons, k_cons2, ek_tupM, ek_lstD, k_tup, k_tup2_0, k_tup2_1, k_tup2_2, k_tup2_3, k_tup2_4, k_tup2_5, k_tup2_6, k_tup2_7, k_tup2_8, k_tup2_9, k_tup2_10, k_tup2_11, k_tup2_12, ek_toDs, k_toDs, k_toDs2, ek_callM, ek_ifE, k_ifE_t, k_ifE_f, truO_some, ofB_some, ek_truM, k_tru, ek_andT, k_andT_t, k_andT_f, ek_orT, k_orT_t, k_orT_f, ek_notT, k_notT, ek_andE, k_andE_t, k_andE_f, ek_orE, k_orE_t, k_orE_f, ek_notE, k_notE, ek_setM, k_set, ek_parM, k_par, ek_ifS, k_if_t, k_if_f, ek_retM, k_ret, ek_dropM, k_drop, ek_forM, k_for, ek_itM, k_it_l, k_it_t, ek_zipM, k_zip, k_zip2_l, k_zip2_t, ek_someO, k_some, ek_sliceM, k_sl, k_sl2, k_sl3, apS_dat, ek_parGM, k_pg2, k_pg3, ek_parM3, k_p3, ek_lstC, k_lst0, wipeS, third_rt, f1, f2]
      rfl
    refine ⟨ys4, call_S2N (more := [cD ((spr ms (cs.map mild) z3).1.map colD)]) rfl ?_⟩
    show b_u_law_is_spread_due [some (.cel 1), none, none, none, none, none, none, none, none, none, none, none, none, none, none] (S2 xs ys) = _
    rw [← hst] at e4 ⊢
    rw [b_u_law_is_spread_due]
    simp only [seqO_nx, seqO_rt, seqO_exc, ev_seqM, ev_skipM, ev_cst, ev_vr, ev_aNil, ev_noO, ev_tYesM, List.getElem?_cons_zero, List.getElem?_cons_succ, List.set, Res.bind_ok, bindS_ok, ap2_dat, ap1_dat, apN1, apN2, ofO_some, peek_dat, truD_bool, Bool.not_true, Bool.not_false, ixD_tup, ixD_lst, atI_0, atI_1, toDs_nil, toD_dat, ek_op2, k_op2, k_op2b, ek_op1, k_op1, ek_isiM, ek_opN, k_opN, ek_aCons, k_cons, k_cons2, ek_tupM, ek_lstD, k_tup, k_tup2_0, k_tup2_1, k_tup2_2, k_tup2_3, k_tup2_4, k_tup2_5, k_tup2_6, k_tup2_7, k_tup2_8, k_tup2_9, k_tup2_10, k_tup2_11, k_tup2_12, ek_toDs, k_toDs, k_toDs2, ek_callM, ek_ifE, k_ifE_t, k_ifE_f, truO_some, ofB_some, ek_truM, k_tru, ek_andT, k_andT_t, k_andT_f, ek_orT, k_orT_t, k_orT_f, ek_notT, k_notT, ek_andE, k_andE_t, k_andE_f, ek_orE, k_orE_t, k_orE_f, ek_notE, k_notE, ek_setM, k_set, ek_parM, k_par, ek_ifS, k_if_t, k_if_f, ek_retM, k_ret, ek_dropM, k_drop, ek_forM, k_for, ek_itM, k_it_l, k_it_t, ek_zipM, k_zip, k_zip2_l, k_zip2_t, ek_someO, k_some, ek_sliceM, k_sl, k_sl2, k_sl3, apS_dat, ek_parGM, k_pg2, k_pg3, ek_parM3, k_p3, ek_lstC, k_lst0, ↓t1, e2, eqD_int, hb, ↓e4, ↓e5, ↓r]
end K27

set_option Elab.async false
set_option linter.all false
set_option maxRecDepth 100000
set_option maxHeartbeats 4000000
set_option exponentiation.threshold 5000
/-! K27Re: what is refused. -/
namespace K27
open PySem L2 Pd
/-! numbers, ratios, colours -/
theorem isint_bool (b : Bool) (st : Store) : d_is_integer [.dat (.bool b)] st = .ok (.dat (.bool false)) st := by
  refine call_rt rfl ?_
  have e1 : isiD "int" (.bool b) = some (.bool true) := rfl
  have e2 : isiD "bool" (.bool b) = some (.bool true) := rfl
  show b_is_integer [some (.dat (.bool b))] st = _
  rw [b_is_integer]
  simp only [seqO_nx, seqO_rt, seqO_exc, ev_seqM, ev_skipM, ev_cst, ev_vr, ev_aNil, ev_noO, ev_tYesM, List.getElem?_cons_zero, List.getElem?_cons_succ, List.set, Res.bind_ok, bindS_ok, Res.bind_exc, bindS_exc, ap2_dat, ap1_dat, apN1, apN2, ofO_some, peek_dat, truD_bool, Bool.not_true, Bool.not_false, ixD_tup, ixD_lst, atI_0, atI_1, toDs_nil, toD_dat, ek_op2, k_op2, k_op2b, ek_op1, k_op1, ek_isiM, ek_opN, k_opN, ek_aCons, k_cons, k_cons2, ek_tupM, ek_lstD, k_tup, k_tup2_0, k_tup2_1, k_tup2_2, k_tup2_3, k_tup2_4, k_tup2_5, k_tup2_6, k_tup2_7, k_tup2_8, k_tup2_9, k_tup2_10, k_tup2_11, k_tup2_12, ek_toDs, k_toDs, k_toDs2, ek_callM, ek_ifE, k_ifE_t, k_ifE_f, truO_some, ofB_some, ek_truM, k_tru, ek_andT, k_andT_t, k_andT_f, ek_orT, k_orT_t, k_orT_f, ek_notT, k_notT, ek_andE, k_andE_t, k_andE_f, ek_orE, k_orE_t, k_orE_f, ek_notE, k_notE, ek_setM, k_set, ek_parM, k_par, ek_ifS, k_if_t, k_if_f, ek_retM, k_ret, ek_dropM, k_drop, ek_forM, k_for, ek_itM, k_it_l, k_it_t, ek_zipM, k_zip, k_zip2_l, k_zip2_t, ek_someO, k_some, ek_sliceM, k_sl, k_sl2, k_sl3, apS_dat, ek_parGM, k_pg2, k_pg3, ek_parM3, k_p3, ek_lstC, k_lst0, e1, e2]
theorem isint_none (st : Store) : d_is_integer [.dat .none] st = .ok (.dat (.bool false)) st := by
  refine call_rt rfl ?_
  have e1 : isiD "int" .none = some (.bool false) := rfl
  show b_is_integer [some (.dat .none)] st = _
  rw [b_is_integer]
  simp only [seqO_nx, seqO_rt, seqO_exc, ev_seqM, ev_skipM, ev_cst, ev_vr, ev_aNil, ev_noO, ev_tYesM, List.getElem?_cons_zero, List.getElem?_cons_succ, List.set, Res.bind_ok, bindS_ok, Res.bind_exc, bindS_exc, ap2_dat, ap1_dat, apN1, apN2, ofO_some, peek_dat, truD_bool, Bool.not_true, Bool.not_false, ixD_tup, ixD_lst, atI_0, atI_1, toDs_nil, toD_dat, ek_op2, k_op2, k_op2b, ek_op1, k_op1, ek_isiM, ek_opN, k_opN, ek_aCons, k_cons, k_cons2, ek_tupM, ek_lstD, k_tup, k_tup2_0, k_tup2_1, k_tup2_2, k_tup2_3, k_tup2_4, k_tup2_5, k_tup2_6, k_tup2_7, k_tup2_8, k_tup2_9, k_tup2_10, k_tup2_11, k_tup2_12, ek_toDs, k_toDs, k_toDs2, ek_callM, ek_ifE, k_ifE_t, k_ifE_f, truO_some, ofB_some, ek_truM, k_tru, ek_andT, k_andT_t, k_andT_f, ek_orT, k_orT_t, k_orT_f, ek_notT, k_notT, ek_andE, k_andE_t, k_andE_f, ek_orE, k_orE_t, k_orE_f, ek_notE, k_notE, ek_setM, k_set, ek_parM, k_par, ek_ifS, k_if_t, k_if_f, ek_retM, k_ret, ek_dropM, k_drop, ek_forM, k_for, ek_itM, k_it_l, k_it_t, ek_zipM, k_zip, k_zip2_l, k_zip2_t, ek_someO, k_some, ek_sliceM, k_sl, k_sl2, k_sl3, apS_dat, ek_parGM, k_pg2, k_pg3, ek_parM3, k_p3, ek_lstC, k_lst0, e1]
theorem ratio_not {d : D} (h : isiD "tuple" d = some (.bool false)) (st : Store) : d_is_ratio [.dat d] st = .ok (.dat (.bool false)) st := by
  refine call_rt rfl ?_
  show b_is_ratio [some (.dat d)] st = _
  rw [b_is_ratio]
  simp only [seqO_nx, seqO_rt, seqO_exc, ev_seqM, ev_skipM, ev_cst, ev_vr, ev_aNil, ev_noO, ev_tYesM, List.getElem?_cons_zero, List.getElem?_cons_succ, List.set, Res.bind_ok, bindS_ok, Res.bind_exc, bindS_exc, ap2_dat, ap1_dat, apN1, apN2, ofO_some, peek_dat, truD_bool, Bool.not_true, Bool.not_false, ixD_tup, ixD_lst, atI_0, atI_1, toDs_nil, toD_dat, ek_op2, k_op2, k_op2b, ek_op1, k_op1, ek_isiM, ek_opN, k_opN, ek_aCons, k_cons, k_cons2, ek_tupM, ek_lstD, k_tup, k_tup2_0, k_tup2_1, k_tup2_2, k_tup2_3, k_tup2_4, k_tup2_5, k_tup2_6, k_tup2_7, k_tup2_8, k_tup2_9, k_tup2_10, k_tup2_11, k_tup2_12, ek_toDs, k_toDs, k_toDs2, ek_callM, ek_ifE, k_ifE_t, k_ifE_f, truO_some, ofB_some, ek_truM, k_tru, ek_andT, k_andT_t, k_andT_f, ek_orT, k_orT_t, k_orT_f, ek_notT, k_notT, ek_andE, k_andE_t, k_andE_f, ek_orE, k_orE_t, k_orE_f, ek_notE, k_notE, ek_setM, k_set, ek_parM, k_par, ek_ifS, k_if_t, k_if_f, ek_retM, k_ret, ek_dropM, k_drop, ek_forM, k_for, ek_itM, k_it_l, k_it_t, ek_zipM, k_zip, k_zip2_l, k_zip2_t, ek_someO, k_some, ek_sliceM, k_sl, k_sl2, k_sl3, apS_dat, ek_parGM, k_pg2, k_pg3, ek_parM3, k_p3, ek_lstC, k_lst0, h]
theorem colour_not {d : D} (h : isiD "tuple" d = some (.bool false)) (st : Store) : d_is_colour [.dat d] st = .ok (.dat (.bool false)) st := by
  refine call_rt rfl ?_
  show b_is_colour [some (.dat d), none] st = _
  rw [b_is_colour]
  simp only [seqO_nx, seqO_rt, seqO_exc, ev_seqM, ev_skipM, ev_cst, ev_vr, ev_aNil, ev_noO, ev_tYesM, List.getElem?_cons_zero, List.getElem?_cons_succ, List.set, Res.bind_ok, bindS_ok, Res.bind_exc, bindS_exc, ap2_dat, ap1_dat, apN1, apN2, ofO_some, peek_dat, truD_bool, Bool.not_true, Bool.not_false, ixD_tup, ixD_lst, atI_0, atI_1, toDs_nil, toD_dat, ek_op2, k_op2, k_op2b, ek_op1, k_op1, ek_isiM, ek_opN, k_opN, ek_aCons, k_cons, k_cons2, ek_tupM, ek_lstD, k_tup, k_tup2_0, k_tup2_1, k_tup2_2, k_tup2_3, k_tup2_4, k_tup2_5, k_tup2_6, k_tup2_7, k_tup2_8, k_tup2_9, k_tup2_10, k_tup2_11, k_tup2_12, ek_toDs, k_toDs, k_toDs2, ek_callM, ek_ifE, k_ifE_t, k_ifE_f, truO_some, ofB_some, ek_truM, k_tru, ek_andT, k_andT_t, k_andT_f, ek_orT, k_orT_t, k_orT_f, ek_notT, k_notT, ek_andE, k_andE_t, k_andE_f, ek_orE, k_orE_t, k_orE_f, ek_notE, k_notE, ek_setM, k_set, ek_parM, k_par, ek_ifS, k_if_t, k_if_f, ek_retM, k_ret, ek_dropM, k_drop, ek_forM, k_for, ek_itM, k_it_l, k_it_t, ek_zipM, k_zip, k_zip2_l, k_zip2_t, ek_someO, k_some, ek_sliceM, k_sl, k_sl2, k_sl3, apS_dat, ek_parGM, k_pg2, k_pg3, ek_parM3, k_p3, ek_lstC, k_lst0, h]
theorem colour_len {ds : List D} (h : ds.length ≠ 3) (st : Store) : d_is_colour [.dat (.tuple ds)] st = .ok (.dat (.bool false)) st := by
  refine call_rt rfl ?_
  have e : decide ((ds.length : Int) = 3) = false := decide_eq_false (by omega)
  show b_is_colour [some (.dat (.tuple ds)), none] st = _
  rw [b_is_colour]
  simp only [seqO_nx, seqO_rt, seqO_exc, ev_seqM, ev_skipM, ev_cst, ev_vr, ev_aNil, ev_noO, ev_tYesM, List.getElem?_cons_zero, List.getElem?_cons_succ, List.set, Res.bind_ok, bindS_ok, Res.bind_exc, bindS_exc, ap2_dat, ap1_dat, apN1, apN2, ofO_some, peek_dat, truD_bool, Bool.not_true, Bool.not_false, ixD_tup, ixD_lst, atI_0, atI_1, toDs_nil, toD_dat, ek_op2, k_op2, k_op2b, ek_op1, k_op1, ek_isiM, ek_opN, k_opN, ek_aCons, k_cons, k_cons2, ek_tupM, ek_lstD, k_tup, k_tup2_0, k_tup2_1, k_tup2_2, k_tup2_3, k_tup2_4, k_tup2_5, k_tup2_6, k_tup2_7, k_tup2_8, k_tup2_9, k_tup2_10, k_tup2_11, k_tup2_12, ek_toDs, k_toDs, k_toDs2, ek_callM, ek_ifE, k_ifE_t, k_ifE_f, truO_some, ofB_some, ek_truM, k_tru, ek_andT, k_andT_t, k_andT_f, ek_orT, k_orT_t, k_orT_f, ek_notT, k_notT, ek_andE, k_andE_t, k_andE_f, ek_orE, k_orE_t, k_orE_f, ek_notE, k_notE, ek_setM, k_set, ek_parM, k_par, ek_ifS, k_if_t, k_if_f, ek_retM, k_ret, ek_dropM, k_drop, ek_forM, k_for, ek_itM, k_it_l, k_it_t, ek_zipM, k_zip, k_zip2_l, k_zip2_t, ek_someO, k_some, ek_sliceM, k_sl, k_sl2, k_sl3, apS_dat, ek_parGM, k_pg2, k_pg3, ek_parM3, k_p3, ek_lstC, k_lst0, isiD_tt, lenD_tup, eqD_int, e]
theorem colour_gen {ds : List D} {p : D → Bool} (h : ds.length = 3) (hp : ∀ d ∈ ds, ∀ st, d_is_ratio [.dat d] st = .ok (.dat (.bool (p d))) st) (st : Store) : d_is_colour [.dat (.tuple ds)] st = .ok (.dat (.bool (ds.all p))) st := by
  refine call_rt rfl ?_
  have e : decide ((ds.length : Int) = 3) = true := decide_eq_true (by omega)
  have e1 : opN allD (aCons (lcM (itM (vr 0)) (bName 1) [1] tYesM (callM d_is_ratio (aCons (vr 1) aNil))) aNil) [some (.dat (.tuple ds)), none] st = .ok (.dat (.bool (ds.all p))) st :=
    allLc (lcM_mapN (enc := id) (l := ds) (fun x => .bool (p x)) (by rw [List.map_id]; rfl) (slN _ (by omega)) fun d hd => by
      have := hp d hd st
      simp only [seqO_nx, seqO_rt, seqO_exc, ev_seqM, ev_skipM, ev_cst, ev_vr, ev_aNil, ev_noO, ev_tYesM, List.getElem?_cons_zero, List.getElem?_cons_succ, List.set, Res.bind_ok, bindS_ok, Res.bind_exc, bindS_exc, ap2_dat, ap1_dat, apN1, apN2, ofO_some, peek_dat, truD_bool, Bool.not_true, Bool.not_false, ixD_tup, ixD_lst, atI_0, atI_1, toDs_nil, toD_dat, ek_op2, k_op2, k_op2b, ek_op1, k_op1, ek_isiM, ek_opN, k_opN, ek_aCons, k_cons, k_cons2, ek_tupM, ek_lstD, k_tup, k_tup2_0, k_tup2_1, k_tup2_2, k_tup2_3, k_tup2_4, k_tup2_5, k_tup2_6, k_tup2_7, k_tup2_8, k_tup2_9, k_tup2_10, k_tup2_11, k_tup2_12, ek_toDs, k_toDs, k_toDs2, ek_callM, ek_ifE, k_ifE_t, k_ifE_f, truO_some, ofB_some, ek_truM, k_tru, ek_andT, k_andT_t, k_andT_f, ek_orT, k_orT_t, k_orT_f, ek_notT, k_notT, ek_andE, k_andE_t, k_andE_f, ek_orE, k_orE_t, k_orE_f, ek_notE, k_notE, ek_setM, k_set, ek_parM, k_par, ek_ifS, k_if_t, k_if_f, ek_retM, k_ret, ek_dropM, k_drop, ek_forM, k_for, ek_itM, k_it_l, k_it_t, ek_zipM, k_zip, k_zip2_l, k_zip2_t, ek_someO, k_some, ek_sliceM, k_sl, k_sl2, k_sl3, apS_dat, ek_parGM, k_pg2, k_pg3, ek_parM3, k_p3, ek_lstC, k_lst0, wipeS, id, this])
  show b_is_colour [some (.dat (.tuple ds)), none] st = _
  rw [b_is_colour]
  simp only [seqO_nx, seqO_rt, seqO_exc, ev_seqM, ev_skipM, ev_cst, ev_vr, ev_aNil, ev_noO, ev_tYesM, List.getElem?_cons_zero, List.getElem?_cons_succ, List.set, Res.bind_ok, bindS_ok, Res.bind_exc, bindS_exc, ap2_dat, ap1_dat, apN1, apN2, ofO_some, peek_dat, truD_bool, Bool.not_true, Bool.not_false, ixD_tup, ixD_lst, atI_0, atI_1, toDs_nil, toD_dat, ek_op2, k_op2, k_op2b, ek_op1, k_op1, ek_isiM, ek_opN, k_opN, ek_aCons, k_cons, k_cons2, ek_tupM, ek_lstD, k_tup, k_tup2_0, k_tup2_1, k_tup2_2, k_tup2_3, k_tup2_4, k_tup2_5, k_tup2_6, k_tup2_7, k_tup2_8, k_tup2_9, k_tup2_10, k_tup2_11, k_tup2_12, ek_toDs, k_toDs, k_toDs2, ek_callM, ek_ifE, k_ifE_t, k_ifE_f, truO_some, ofB_some, ek_truM, k_tru, ek_andT, k_andT_t, k_andT_f, ek_orT, k_orT_t, k_orT_f, ek_notT, k_notT, ek_andE, k_andE_t, k_andE_f, ek_orE, k_orE_t, k_orE_f, ek_notE, k_notE, ek_setM, k_set, ek_parM, k_par, ek_ifS, k_if_t, k_if_f, ek_retM, k_ret, ek_dropM, k_drop, ek_forM, k_for, ek_itM, k_it_l, k_it_t, ek_zipM, k_zip, k_zip2_l, k_zip2_t, ek_someO, k_some, ek_sliceM, k_sl, k_sl2, k_sl3, apS_dat, ek_parGM, k_pg2, k_pg3, ek_parM3, k_p3, ek_lstC, k_lst0, isiD_tt, lenD_tup, eqD_int, e, ↓e1]
def pIn : D → Bool
  | .int i => [PyData.int 0, .int 1].any fun z => PyData.eqv z (.int i)
  | _ => false
def simple : D → Bool
  | .int _ => true
  | .bool _ => true
  | .tuple _ => true
  | .none => true
  | _ => false
theorem dots_gen {ds : List D} (h : ds.length = 3) (hp : ∀ d ∈ ds, simple d = true) (st : Store) : d_is_dots [.dat (.tuple ds)] st = .ok (.dat (.bool (ds.all pIn))) st := by
  refine call_rt rfl ?_
  have e : decide ((ds.length : Int) = 3) = true := decide_eq_true (by omega)
  have e1 : opN allD (aCons (lcM (itM (vr 0)) (bName 1) [1] tYesM (andE (callM d_is_integer (aCons (vr 1) aNil)) (op2 inD (vr 1) (cst c_DOTS)))) aNil) [some (.dat (.tuple ds)), none] st = .ok (.dat (.bool (ds.all pIn))) st :=
    allLc (lcM_mapN (enc := id) (l := ds) (fun x => .bool (pIn x)) (by rw [List.map_id]; rfl) (slN _ (by omega)) fun d hd => by
      have hs := hp d hd
      cases d with
      | int i =>
        have i1 := isint_run i st
        have i2 : inD (.int i) c_DOTS = some (.bool (pIn (.int i))) := rfl
        simp only [seqO_nx, seqO_rt, seqO_exc, ev_seqM, ev_skipM, ev_cst, ev_vr, ev_aNil, ev_noO, ev_tYesM, List.getElem?_cons_zero, List.getElem?_cons_succ, List.set, Res.bind_ok, bindS_ok, Res.bind_exc, bindS_exc, ap2_dat, ap1_dat, apN1, apN2, ofO_some, peek_dat, truD_bool, Bool.not_true, Bool.not_false, ixD_tup, ixD_lst, atI_0, atI_1, toDs_nil, toD_dat, ek_op2, k_op2, k_op2b, ek_op1, k_op1, ek_isiM, ek_opN, k_opN, ek_aCons, k_cons, k_cons2, ek_tupM, ek_lstD, k_tup, k_tup2_0, k_tup2_1, k_tup2_2, k_tup2_3, k_tup2_4, k_tup2_5, k_tup2_6, k_tup2_7, k_tup2_8, k_tup2_9, k_tup2_10, k_tup2_11, k_tup2_12, ek_toDs, k_toDs, k_toDs2, ek_callM, ek_ifE, k_ifE_t, k_ifE_f, truO_some, ofB_some, ek_truM, k_tru, ek_andT, k_andT_t, k_andT_f, ek_orT, k_orT_t, k_orT_f, ek_notT, k_notT, ek_andE, k_andE_t, k_andE_f, ek_orE, k_orE_t, k_orE_f, ek_notE, k_notE, ek_setM, k_set, ek_parM, k_par, ek_ifS, k_if_t, k_if_f, ek_retM, k_ret, ek_dropM, k_drop, ek_forM, k_for, ek_itM, k_it_l, k_it_t, ek_zipM, k_zip, k_zip2_l, k_zip2_t, ek_someO, k_some, ek_sliceM, k_sl, k_sl2, k_sl3, apS_dat, ek_parGM, k_pg2, k_pg3, ek_parM3, k_p3, ek_lstC, k_lst0, wipeS, id, i1, i2]
      | bool b =>
        have i1 := isint_bool b st
        simp only [seqO_nx, seqO_rt, seqO_exc, ev_seqM, ev_skipM, ev_cst, ev_vr, ev_aNil, ev_noO, ev_tYesM, List.getElem?_cons_zero, List.getElem?_cons_succ, List.set, Res.bind_ok, bindS_ok, Res.bind_exc, bindS_exc, ap2_dat, ap1_dat, apN1, apN2, ofO_some, peek_dat, truD_bool, Bool.not_true, Bool.not_false, ixD_tup, ixD_lst, atI_0, atI_1, toDs_nil, toD_dat, ek_op2, k_op2, k_op2b, ek_op1, k_op1, ek_isiM, ek_opN, k_opN, ek_aCons, k_cons, k_cons2, ek_tupM, ek_lstD, k_tup, k_tup2_0, k_tup2_1, k_tup2_2, k_tup2_3, k_tup2_4, k_tup2_5, k_tup2_6, k_tup2_7, k_tup2_8, k_tup2_9, k_tup2_10, k_tup2_11, k_tup2_12, ek_toDs, k_toDs, k_toDs2, ek_callM, ek_ifE, k_ifE_t, k_ifE_f, truO_some, ofB_some, ek_truM, k_tru, ek_andT, k_andT_t, k_andT_f, ek_orT, k_orT_t, k_orT_f, ek_notT, k_notT, ek_andE, k_andE_t, k_andE_f, ek_orE, k_orE_t, k_orE_f, ek_notE, k_notE, ek_setM, k_set, ek_parM, k_par, ek_ifS, k_if_t, k_if_f, ek_retM, k_ret, ek_dropM, k_drop, ek_forM, k_for, ek_itM, k_it_l, k_it_t, ek_zipM, k_zip, k_zip2_l, k_zip2_t, ek_someO, k_some, ek_sliceM, k_sl, k_sl2, k_sl3, apS_dat, ek_parGM, k_pg2, k_pg3, ek_parM3, k_p3, ek_lstC, k_lst0, wipeS, id, i1, pIn]
      | tuple ds =>
        have i1 := isint_tuple ds st
        simp only [seqO_nx, seqO_rt, seqO_exc, ev_seqM, ev_skipM, ev_cst, ev_vr, ev_aNil, ev_noO, ev_tYesM, List.getElem?_cons_zero, List.getElem?_cons_succ, List.set, Res.bind_ok, bindS_ok, Res.bind_exc, bindS_exc, ap2_dat, ap1_dat, apN1, apN2, ofO_some, peek_dat, truD_bool, Bool.not_true, Bool.not_false, ixD_tup, ixD_lst, atI_0, atI_1, toDs_nil, toD_dat, ek_op2, k_op2, k_op2b, ek_op1, k_op1, ek_isiM, ek_opN, k_opN, ek_aCons, k_cons, k_cons2, ek_tupM, ek_lstD, k_tup, k_tup2_0, k_tup2_1, k_tup2_2, k_tup2_3, k_tup2_4, k_tup2_5, k_tup2_6, k_tup2_7, k_tup2_8, k_tup2_9, k_tup2_10, k_tup2_11, k_tup2_12, ek_toDs, k_toDs, k_toDs2, ek_callM, ek_ifE, k_ifE_t, k_ifE_f, truO_some, ofB_some, ek_truM, k_tru, ek_andT, k_andT_t, k_andT_f, ek_orT, k_orT_t, k_orT_f, ek_notT, k_notT, ek_andE, k_andE_t, k_andE_f, ek_orE, k_orE_t, k_orE_f, ek_notE, k_notE, ek_setM, k_set, ek_parM, k_par, ek_ifS, k_if_t, k_if_f, ek_retM, k_ret, ek_dropM, k_drop, ek_forM, k_for, ek_itM, k_it_l, k_it_t, ek_zipM, k_zip, k_zip2_l, k_zip2_t, ek_someO, k_some, ek_sliceM, k_sl, k_sl2, k_sl3, apS_dat, ek_parGM, k_pg2, k_pg3, ek_parM3, k_p3, ek_lstC, k_lst0, wipeS, id, i1, pIn]
      | none =>
        have i1 := isint_none st
        simp only [seqO_nx, seqO_rt, seqO_exc, ev_seqM, ev_skipM, ev_cst, ev_vr, ev_aNil, ev_noO, ev_tYesM, List.getElem?_cons_zero, List.getElem?_cons_succ, List.set, Res.bind_ok, bindS_ok, Res.bind_exc, bindS_exc, ap2_dat, ap1_dat, apN1, apN2, ofO_some, peek_dat, truD_bool, Bool.not_true, Bool.not_false, ixD_tup, ixD_lst, atI_0, atI_1, toDs_nil, toD_dat, ek_op2, k_op2, k_op2b, ek_op1, k_op1, ek_isiM, ek_opN, k_opN, ek_aCons, k_cons, k_cons2, ek_tupM, ek_lstD, k_tup, k_tup2_0, k_tup2_1, k_tup2_2, k_tup2_3, k_tup2_4, k_tup2_5, k_tup2_6, k_tup2_7, k_tup2_8, k_tup2_9, k_tup2_10, k_tup2_11, k_tup2_12, ek_toDs, k_toDs, k_toDs2, ek_callM, ek_ifE, k_ifE_t, k_ifE_f, truO_some, ofB_some, ek_truM, k_tru, ek_andT, k_andT_t, k_andT_f, ek_orT, k_orT_t, k_orT_f, ek_notT, k_notT, ek_andE, k_andE_t, k_andE_f, ek_orE, k_orE_t, k_orE_f, ek_notE, k_notE, ek_setM, k_set, ek_parM, k_par, ek_ifS, k_if_t, k_if_f, ek_retM, k_ret, ek_dropM, k_drop, ek_forM, k_for, ek_itM, k_it_l, k_it_t, ek_zipM, k_zip, k_zip2_l, k_zip2_t, ek_someO, k_some, ek_sliceM, k_sl, k_sl2, k_sl3, apS_dat, ek_parGM, k_pg2, k_pg3, ek_parM3, k_p3, ek_lstC, k_lst0, wipeS, id, i1, pIn]
      | str _ => cases hs
      | list _ => cases hs
      | dict _ => cases hs)
  show b_is_dots [some (.dat (.tuple ds)), none] st = _
  rw [b_is_dots]
  simp only [seqO_nx, seqO_rt, seqO_exc, ev_seqM, ev_skipM, ev_cst, ev_vr, ev_aNil, ev_noO, ev_tYesM, List.getElem?_cons_zero, List.getElem?_cons_succ, List.set, Res.bind_ok, bindS_ok, Res.bind_exc, bindS_exc, ap2_dat, ap1_dat, apN1, apN2, ofO_some, peek_dat, truD_bool, Bool.not_true, Bool.not_false, ixD_tup, ixD_lst, atI_0, atI_1, toDs_nil, toD_dat, ek_op2, k_op2, k_op2b, ek_op1, k_op1, ek_isiM, ek_opN, k_opN, ek_aCons, k_cons, k_cons2, ek_tupM, ek_lstD, k_tup, k_tup2_0, k_tup2_1, k_tup2_2, k_tup2_3, k_tup2_4, k_tup2_5, k_tup2_6, k_tup2_7, k_tup2_8, k_tup2_9, k_tup2_10, k_tup2_11, k_tup2_12, ek_toDs, k_toDs, k_toDs2, ek_callM, ek_ifE, k_ifE_t, k_ifE_f, truO_some, ofB_some, ek_truM, k_tru, ek_andT, k_andT_t, k_andT_f, ek_orT, k_orT_t, k_orT_f, ek_notT, k_notT, ek_andE, k_andE_t, k_andE_f, ek_orE, k_orE_t, k_orE_f, ek_notE, k_notE, ek_setM, k_set, ek_parM, k_par, ek_ifS, k_if_t, k_if_f, ek_retM, k_ret, ek_dropM, k_drop, ek_forM, k_for, ek_itM, k_it_l, k_it_t, ek_zipM, k_zip, k_zip2_l, k_zip2_t, ek_someO, k_some, ek_sliceM, k_sl, k_sl2, k_sl3, apS_dat, ek_parGM, k_pg2, k_pg3, ek_parM3, k_p3, ek_lstC, k_lst0, isiD_tt, lenD_tup, eqD_int, e, ↓e1]
theorem dots_len {ds : List D} (h : ds.length ≠ 3) (st : Store) : d_is_dots [.dat (.tuple ds)] st = .ok (.dat (.bool false)) st := by
  refine call_rt rfl ?_
  have e : decide ((ds.length : Int) = 3) = false := decide_eq_false (by omega)
  show b_is_dots [some (.dat (.tuple ds)), none] st = _
  rw [b_is_dots]
  simp only [seqO_nx, seqO_rt, seqO_exc, ev_seqM, ev_skipM, ev_cst, ev_vr, ev_aNil, ev_noO, ev_tYesM, List.getElem?_cons_zero, List.getElem?_cons_succ, List.set, Res.bind_ok, bindS_ok, Res.bind_exc, bindS_exc, ap2_dat, ap1_dat, apN1, apN2, ofO_some, peek_dat, truD_bool, Bool.not_true, Bool.not_false, ixD_tup, ixD_lst, atI_0, atI_1, toDs_nil, toD_dat, ek_op2, k_op2, k_op2b, ek_op1, k_op1, ek_isiM, ek_opN, k_opN, ek_aCons, k_cons, k_cons2, ek_tupM, ek_lstD, k_tup, k_tup2_0, k_tup2_1, k_tup2_2, k_tup2_3, k_tup2_4, k_tup2_5, k_tup2_6, k_tup2_7, k_tup2_8, k_tup2_9, k_tup2_10, k_tup2_11, k_tup2_12, ek_toDs, k_toDs, k_toDs2, ek_callM, ek_ifE, k_ifE_t, k_ifE_f, truO_some, ofB_some, ek_truM, k_tru, ek_andT, k_andT_t, k_andT_f, ek_orT, k_orT_t, k_orT_f, ek_notT, k_notT, ek_andE, k_andE_t, k_andE_f, ek_orE, k_orE_t, k_orE_f, ek_notE, k_notE, ek_setM, k_set, ek_parM, k_par, ek_ifS, k_if_t, k_if_f, ek_retM, k_ret, ek_dropM, k_drop, ek_forM, k_for, ek_itM, k_it_l, k_it_t, ek_zipM, k_zip, k_zip2_l, k_zip2_t, ek_someO, k_some, ek_sliceM, k_sl, k_sl2, k_sl3, apS_dat, ek_parGM, k_pg2, k_pg3, ek_parM3, k_p3, ek_lstC, k_lst0, isiD_tt, lenD_tup, eqD_int, e]
theorem plain_no {d : D} (h : ∀ st, d_is_colour [.dat d] st = .ok (.dat (.bool false)) st) (st : Store) : d_is_plain [.dat d] st = .ok (.dat (.bool false)) st := by
  refine call_rt rfl ?_
  have := h st
  show b_is_plain [some (.dat d), none] st = _
  rw [b_is_plain]
  simp only [seqO_nx, seqO_rt, seqO_exc, ev_seqM, ev_skipM, ev_cst, ev_vr, ev_aNil, ev_noO, ev_tYesM, List.getElem?_cons_zero, List.getElem?_cons_succ, List.set, Res.bind_ok, bindS_ok, Res.bind_exc, bindS_exc, ap2_dat, ap1_dat, apN1, apN2, ofO_some, peek_dat, truD_bool, Bool.not_true, Bool.not_false, ixD_tup, ixD_lst, atI_0, atI_1, toDs_nil, toD_dat, ek_op2, k_op2, k_op2b, ek_op1, k_op1, ek_isiM, ek_opN, k_opN, ek_aCons, k_cons, k_cons2, ek_tupM, ek_lstD, k_tup, k_tup2_0, k_tup2_1, k_tup2_2, k_tup2_3, k_tup2_4, k_tup2_5, k_tup2_6, k_tup2_7, k_tup2_8, k_tup2_9, k_tup2_10, k_tup2_11, k_tup2_12, ek_toDs, k_toDs, k_toDs2, ek_callM, ek_ifE, k_ifE_t, k_ifE_f, truO_some, ofB_some, ek_truM, k_tru, ek_andT, k_andT_t, k_andT_f, ek_orT, k_orT_t, k_orT_f, ek_notT, k_notT, ek_andE, k_andE_t, k_andE_f, ek_orE, k_orE_t, k_orE_f, ek_notE, k_notE, ek_setM, k_set, ek_parM, k_par, ek_ifS, k_if_t, k_if_f, ek_retM, k_ret, ek_dropM, k_drop, ek_forM, k_for, ek_itM, k_it_l, k_it_t, ek_zipM, k_zip, k_zip2_l, k_zip2_t, ek_someO, k_some, ek_sliceM, k_sl, k_sl2, k_sl3, apS_dat, ek_parGM, k_pg2, k_pg3, ek_parM3, k_p3, ek_lstC, k_lst0, this]
theorem plain_gen {c : List Rat} (h : c.length = 3) (st : Store) : d_is_plain [.dat (colD c)] st = .ok (.dat (.bool (c.all fun q => decide (0 ≤ q) && decide (q ≤ 1)))) st := by
  refine call_rt rfl ?_
  have e1 : opN allD (aCons (lcM (itM (vr 0)) (bName 1) [1] tYesM (callM d_is_unit (aCons (vr 1) aNil))) aNil) [some (.dat (colD c)), none] st = .ok (.dat (.bool (c.all fun q => decide (0 ≤ q) && decide (q ≤ 1)))) st :=
    allLc (lcM_mapN (enc := rt) (l := c) (fun q => .bool (decide (0 ≤ q) && decide (q ≤ 1))) rfl (slN _ (by omega)) fun q _ => by
      have := isunit_run q st
      simp only [seqO_nx, seqO_rt, seqO_exc, ev_seqM, ev_skipM, ev_cst, ev_vr, ev_aNil, ev_noO, ev_tYesM, List.getElem?_cons_zero, List.getElem?_cons_succ, List.set, Res.bind_ok, bindS_ok, Res.bind_exc, bindS_exc, ap2_dat, ap1_dat, apN1, apN2, ofO_some, peek_dat, truD_bool, Bool.not_true, Bool.not_false, ixD_tup, ixD_lst, atI_0, atI_1, toDs_nil, toD_dat, ek_op2, k_op2, k_op2b, ek_op1, k_op1, ek_isiM, ek_opN, k_opN, ek_aCons, k_cons, k_cons2, ek_tupM, ek_lstD, k_tup, k_tup2_0, k_tup2_1, k_tup2_2, k_tup2_3, k_tup2_4, k_tup2_5, k_tup2_6, k_tup2_7, k_tup2_8, k_tup2_9, k_tup2_10, k_tup2_11, k_tup2_12, ek_toDs, k_toDs, k_toDs2, ek_callM, ek_ifE, k_ifE_t, k_ifE_f, truO_some, ofB_some, ek_truM, k_tru, ek_andT, k_andT_t, k_andT_f, ek_orT, k_orT_t, k_orT_f, ek_notT, k_notT, ek_andE, k_andE_t, k_andE_f, ek_orE, k_orE_t, k_orE_f, ek_notE, k_notE, ek_setM, k_set, ek_parM, k_par, ek_ifS, k_if_t, k_if_f, ek_retM, k_ret, ek_dropM, k_drop, ek_forM, k_for, ek_itM, k_it_l, k_it_t, ek_zipM, k_zip, k_zip2_l, k_zip2_t, ek_someO, k_some, ek_sliceM, k_sl, k_sl2, k_sl3, apS_dat, ek_parGM, k_pg2, k_pg3, ek_parM3, k_p3, ek_lstC, k_lst0, wipeS, this])
  have e2 := iscolour_run h st
  show b_is_plain [some (.dat (colD c)), none] st = _
  rw [b_is_plain]
  simp only [seqO_nx, seqO_rt, seqO_exc, ev_seqM, ev_skipM, ev_cst, ev_vr, ev_aNil, ev_noO, ev_tYesM, List.getElem?_cons_zero, List.getElem?_cons_succ, List.set, Res.bind_ok, bindS_ok, Res.bind_exc, bindS_exc, ap2_dat, ap1_dat, apN1, apN2, ofO_some, peek_dat, truD_bool, Bool.not_true, Bool.not_false, ixD_tup, ixD_lst, atI_0, atI_1, toDs_nil, toD_dat, ek_op2, k_op2, k_op2b, ek_op1, k_op1, ek_isiM, ek_opN, k_opN, ek_aCons, k_cons, k_cons2, ek_tupM, ek_lstD, k_tup, k_tup2_0, k_tup2_1, k_tup2_2, k_tup2_3, k_tup2_4, k_tup2_5, k_tup2_6, k_tup2_7, k_tup2_8, k_tup2_9, k_tup2_10, k_tup2_11, k_tup2_12, ek_toDs, k_toDs, k_toDs2, ek_callM, ek_ifE, k_ifE_t, k_ifE_f, truO_some, ofB_some, ek_truM, k_tru, ek_andT, k_andT_t, k_andT_f, ek_orT, k_orT_t, k_orT_f, ek_notT, k_notT, ek_andE, k_andE_t, k_andE_f, ek_orE, k_orE_t, k_orE_f, ek_notE, k_notE, ek_setM, k_set, ek_parM, k_par, ek_ifS, k_if_t, k_if_f, ek_retM, k_ret, ek_dropM, k_drop, ek_forM, k_for, ek_itM, k_it_l, k_it_t, ek_zipM, k_zip, k_zip2_l, k_zip2_t, ek_someO, k_some, ek_sliceM, k_sl, k_sl2, k_sl3, apS_dat, ek_parGM, k_pg2, k_pg3, ek_parM3, k_p3, ek_lstC, k_lst0, e2, ↓e1]
/-! rows -/
theorem rows_not {d : D} (h : isiD "tuple" d = some (.bool false)) (st : Store) : d_are_rows [.dat d] st = .ok (.dat (.bool false)) st := by
  refine call_rt rfl ?_
  show b_are_rows [some (.dat d), none] st = _
  rw [b_are_rows]
  simp only [seqO_nx, seqO_rt, seqO_exc, ev_seqM, ev_skipM, ev_cst, ev_vr, ev_aNil, ev_noO, ev_tYesM, List.getElem?_cons_zero, List.getElem?_cons_succ, List.set, Res.bind_ok, bindS_ok, Res.bind_exc, bindS_exc, ap2_dat, ap1_dat, apN1, apN2, ofO_some, peek_dat, truD_bool, Bool.not_true, Bool.not_false, ixD_tup, ixD_lst, atI_0, atI_1, toDs_nil, toD_dat, ek_op2, k_op2, k_op2b, ek_op1, k_op1, ek_isiM, ek_opN, k_opN, ek_aCons, k_cons, k_cons2, ek_tupM, ek_lstD, k_tup, k_tup2_0, k_tup2_1, k_tup2_2, k_tup2_3, k_tup2_4, k_tup2_5, k_tup2_6, k_tup2_7, k_tup2_8, k_tup2_9, k_tup2_10, k_tup2_11, k_tup2_12, ek_toDs, k_toDs, k_toDs2, ek_callM, ek_ifE, k_ifE_t, k_ifE_f, truO_some, ofB_some, ek_truM, k_tru, ek_andT, k_andT_t, k_andT_f, ek_orT, k_orT_t, k_orT_f, ek_notT, k_notT, ek_andE, k_andE_t, k_andE_f, ek_orE, k_orE_t, k_orE_f, ek_notE, k_notE, ek_setM, k_set, ek_parM, k_par, ek_ifS, k_if_t, k_if_f, ek_retM, k_ret, ek_dropM, k_drop, ek_forM, k_for, ek_itM, k_it_l, k_it_t, ek_zipM, k_zip, k_zip2_l, k_zip2_t, ek_someO, k_some, ek_sliceM, k_sl, k_sl2, k_sl3, apS_dat, ek_parGM, k_pg2, k_pg3, ek_parM3, k_p3, ek_lstC, k_lst0, h]
theorem rows_list (st : Store) : d_are_rows [.dat (.tuple [.tuple [.int 0], .list [.int 1]])] st = .ok (.dat (.bool false)) st := by
  refine call_rt rfl ?_
  have e1 : opN allD (aCons (lcM (itM (vr 0)) (bName 1) [1] tYesM (isiM "tuple" (vr 1))) aNil) [some (.dat (.tuple [.tuple [.int 0], .list [.int 1]])), none] st = .ok (.dat (.bool ([PyData.tuple [.int 0], .list [.int 1]].all fun d => match d with
      | .tuple _ => true
      | _ => false))) st :=
    allLc (lcM_mapN (enc := id) (l := [PyData.tuple [.int 0], .list [.int 1]]) (fun d => .bool (match d with
      | .tuple _ => true
      | _ => false)) rfl (slN _ (by decide)) fun d hd => by
        have : d = .tuple [.int 0] ∨ d = .list [.int 1] := by simpa using hd
        rcases this with rfl | rfl
        · simp only [seqO_nx, seqO_rt, seqO_exc, ev_seqM, ev_skipM, ev_cst, ev_vr, ev_aNil, ev_noO, ev_tYesM, List.getElem?_cons_zero, List.getElem?_cons_succ, List.set, Res.bind_ok, bindS_ok, Res.bind_exc, bindS_exc, ap2_dat, ap1_dat, apN1, apN2, ofO_some, peek_dat, truD_bool, Bool.not_true, Bool.not_false, ixD_tup, ixD_lst, atI_0, atI_1, toDs_nil, toD_dat, ek_op2, k_op2, k_op2b, ek_op1, k_op1, ek_isiM, ek_opN, k_opN, ek_aCons, k_cons, k_cons2, ek_tupM, ek_lstD, k_tup, k_tup2_0, k_tup2_1, k_tup2_2, k_tup2_3, k_tup2_4, k_tup2_5, k_tup2_6, k_tup2_7, k_tup2_8, k_tup2_9, k_tup2_10, k_tup2_11, k_tup2_12, ek_toDs, k_toDs, k_toDs2, ek_callM, ek_ifE, k_ifE_t, k_ifE_f, truO_some, ofB_some, ek_truM, k_tru, ek_andT, k_andT_t, k_andT_f, ek_orT, k_orT_t, k_orT_f, ek_notT, k_notT, ek_andE, k_andE_t, k_andE_f, ek_orE, k_orE_t, k_orE_f, ek_notE, k_notE, ek_setM, k_set, ek_parM, k_par, ek_ifS, k_if_t, k_if_f, ek_retM, k_ret, ek_dropM, k_drop, ek_forM, k_for, ek_itM, k_it_l, k_it_t, ek_zipM, k_zip, k_zip2_l, k_zip2_t, ek_someO, k_some, ek_sliceM, k_sl, k_sl2, k_sl3, apS_dat, ek_parGM, k_pg2, k_pg3, ek_parM3, k_p3, ek_lstC, k_lst0, wipeS, id, isiD_tt]
        · simp only [seqO_nx, seqO_rt, seqO_exc, ev_seqM, ev_skipM, ev_cst, ev_vr, ev_aNil, ev_noO, ev_tYesM, List.getElem?_cons_zero, List.getElem?_cons_succ, List.set, Res.bind_ok, bindS_ok, Res.bind_exc, bindS_exc, ap2_dat, ap1_dat, apN1, apN2, ofO_some, peek_dat, truD_bool, Bool.not_true, Bool.not_false, ixD_tup, ixD_lst, atI_0, atI_1, toDs_nil, toD_dat, ek_op2, k_op2, k_op2b, ek_op1, k_op1, ek_isiM, ek_opN, k_opN, ek_aCons, k_cons, k_cons2, ek_tupM, ek_lstD, k_tup, k_tup2_0, k_tup2_1, k_tup2_2, k_tup2_3, k_tup2_4, k_tup2_5, k_tup2_6, k_tup2_7, k_tup2_8, k_tup2_9, k_tup2_10, k_tup2_11, k_tup2_12, ek_toDs, k_toDs, k_toDs2, ek_callM, ek_ifE, k_ifE_t, k_ifE_f, truO_some, ofB_some, ek_truM, k_tru, ek_andT, k_andT_t, k_andT_f, ek_orT, k_orT_t, k_orT_f, ek_notT, k_notT, ek_andE, k_andE_t, k_andE_f, ek_orE, k_orE_t, k_orE_f, ek_notE, k_notE, ek_setM, k_set, ek_parM, k_par, ek_ifS, k_if_t, k_if_f, ek_retM, k_ret, ek_dropM, k_drop, ek_forM, k_for, ek_itM, k_it_l, k_it_t, ek_zipM, k_zip, k_zip2_l, k_zip2_t, ek_someO, k_some, ek_sliceM, k_sl, k_sl2, k_sl3, apS_dat, ek_parGM, k_pg2, k_pg3, ek_parM3, k_p3, ek_lstC, k_lst0, wipeS, id, isiD_tl])
  have e2 : decide ((([PyData.tuple [.int 0], .list [.int 1]] : List D).length : Int) = 0) = false := by decide
  show b_are_rows [some (.dat (.tuple [.tuple [.int 0], .list [.int 1]])), none] st = _
  rw [b_are_rows]
  simp only [seqO_nx, seqO_rt, seqO_exc, ev_seqM, ev_skipM, ev_cst, ev_vr, ev_aNil, ev_noO, ev_tYesM, List.getElem?_cons_zero, List.getElem?_cons_succ, List.set, Res.bind_ok, bindS_ok, Res.bind_exc, bindS_exc, ap2_dat, ap1_dat, apN1, apN2, ofO_some, peek_dat, truD_bool, Bool.not_true, Bool.not_false, ixD_tup, ixD_lst, atI_0, atI_1, toDs_nil, toD_dat, ek_op2, k_op2, k_op2b, ek_op1, k_op1, ek_isiM, ek_opN, k_opN, ek_aCons, k_cons, k_cons2, ek_tupM, ek_lstD, k_tup, k_tup2_0, k_tup2_1, k_tup2_2, k_tup2_3, k_tup2_4, k_tup2_5, k_tup2_6, k_tup2_7, k_tup2_8, k_tup2_9, k_tup2_10, k_tup2_11, k_tup2_12, ek_toDs, k_toDs, k_toDs2, ek_callM, ek_ifE, k_ifE_t, k_ifE_f, truO_some, ofB_some, ek_truM, k_tru, ek_andT, k_andT_t, k_andT_f, ek_orT, k_orT_t, k_orT_f, ek_notT, k_notT, ek_andE, k_andE_t, k_andE_f, ek_orE, k_orE_t, k_orE_f, ek_notE, k_notE, ek_setM, k_set, ek_parM, k_par, ek_ifS, k_if_t, k_if_f, ek_retM, k_ret, ek_dropM, k_drop, ek_forM, k_for, ek_itM, k_it_l, k_it_t, ek_zipM, k_zip, k_zip2_l, k_zip2_t, ek_someO, k_some, ek_sliceM, k_sl, k_sl2, k_sl3, apS_dat, ek_parGM, k_pg2, k_pg3, ek_parM3, k_p3, ek_lstC, k_lst0, isiD_tt, lenD_tup, eqD_int, e2, ↓e1, List.all_cons, List.all_nil, Bool.and_true, Bool.true_and, Bool.and_false, Bool.false_and]
theorem screen_norows {d : D} (h : ∀ st, d_are_rows [.dat d] st = .ok (.dat (.bool false)) st) (st : Store) : d_is_screen [.dat d] st = .ok (.dat (.bool false)) st := by
  refine call_rt rfl ?_
  have := h st
  show b_is_screen [some (.dat d), none, none, none] st = _
  rw [b_is_screen]
  simp only [seqO_nx, seqO_rt, seqO_exc, ev_seqM, ev_skipM, ev_cst, ev_vr, ev_aNil, ev_noO, ev_tYesM, List.getElem?_cons_zero, List.getElem?_cons_succ, List.set, Res.bind_ok, bindS_ok, Res.bind_exc, bindS_exc, ap2_dat, ap1_dat, apN1, apN2, ofO_some, peek_dat, truD_bool, Bool.not_true, Bool.not_false, ixD_tup, ixD_lst, atI_0, atI_1, toDs_nil, toD_dat, ek_op2, k_op2, k_op2b, ek_op1, k_op1, ek_isiM, ek_opN, k_opN, ek_aCons, k_cons, k_cons2, ek_tupM, ek_lstD, k_tup, k_tup2_0, k_tup2_1, k_tup2_2, k_tup2_3, k_tup2_4, k_tup2_5, k_tup2_6, k_tup2_7, k_tup2_8, k_tup2_9, k_tup2_10, k_tup2_11, k_tup2_12, ek_toDs, k_toDs, k_toDs2, ek_callM, ek_ifE, k_ifE_t, k_ifE_f, truO_some, ofB_some, ek_truM, k_tru, ek_andT, k_andT_t, k_andT_f, ek_orT, k_orT_t, k_orT_f, ek_notT, k_notT, ek_andE, k_andE_t, k_andE_f, ek_orE, k_orE_t, k_orE_f, ek_notE, k_notE, ek_setM, k_set, ek_parM, k_par, ek_ifS, k_if_t, k_if_f, ek_retM, k_ret, ek_dropM, k_drop, ek_forM, k_for, ek_itM, k_it_l, k_it_t, ek_zipM, k_zip, k_zip2_l, k_zip2_t, ek_someO, k_some, ek_sliceM, k_sl, k_sl2, k_sl3, apS_dat, ek_parGM, k_pg2, k_pg3, ek_parM3, k_p3, ek_lstC, k_lst0, this]
theorem screen_odd {rows : List (List D)} (ok : rowsOk rows = true) {p : D → Bool} (hn : rows.length ≤ 1000) (hf : rows.flatten.length ≤ 1000) (hp : ∀ d ∈ rows.flatten, ∀ st, d_is_integer [.dat d] st = .ok (.dat (.bool (p d))) st) (hno : rows.flatten.all p = false) (st : Store) : d_is_screen [.dat (.tuple (rows.map .tuple))] st = .ok (.dat (.bool false)) st := by
  refine call_rt rfl ?_
  have e0 : d_are_rows [.dat (.tuple (rows.map .tuple))] st = .ok (.dat (.bool true)) st := by
    have e := arerows_run (enc := id) rows hn st
    rw [ok] at e
    simpa using e
  obtain ⟨V, hV⟩ : ∃ V : D, V = .tuple (rows.map .tuple) := ⟨_, rfl⟩
  rw [← hV] at e0 ⊢
  have e1 : lc2M (itM (vr 0)) (bName 2) [2, 3] tYesM (itM (vr 2)) (bName 3) [3] tYesM (vr 3) [some (.dat V), none, none, none] st = .ok (.dat (.list rows.flatten)) st := by
    have e := lc2_flat (it := itM (vr 0)) (i := 2) (j := 3) (vs := [2, 3]) (s := [some (.dat V), none, none, none]) (st := st) (enc := id) (rows := rows) (by rw [hV]; simp) (slN _ (by omega)) (by simp) (by simp)
    rw [List.map_id] at e
    exact e
  have e2 : opN allD (aCons (lcM (itM (vr 1)) (bName 3) [3] tYesM (callM d_is_integer (aCons (vr 3) aNil))) aNil) [some (.dat V), some (.dat (.list rows.flatten)), none, none] st = .ok (.dat (.bool (rows.flatten.all p))) st :=
    allLc (lcM_mapN (enc := id) (l := rows.flatten) (fun d => .bool (p d)) (by rw [List.map_id]; rfl) (slN _ (by omega)) fun d hd => by
      have := hp d hd st
      simp only [seqO_nx, seqO_rt, seqO_exc, ev_seqM, ev_skipM, ev_cst, ev_vr, ev_aNil, ev_noO, ev_tYesM, List.getElem?_cons_zero, List.getElem?_cons_succ, List.set, Res.bind_ok, bindS_ok, Res.bind_exc, bindS_exc, ap2_dat, ap1_dat, apN1, apN2, ofO_some, peek_dat, truD_bool, Bool.not_true, Bool.not_false, ixD_tup, ixD_lst, atI_0, atI_1, toDs_nil, toD_dat, ek_op2, k_op2, k_op2b, ek_op1, k_op1, ek_isiM, ek_opN, k_opN, ek_aCons, k_cons, k_cons2, ek_tupM, ek_lstD, k_tup, k_tup2_0, k_tup2_1, k_tup2_2, k_tup2_3, k_tup2_4, k_tup2_5, k_tup2_6, k_tup2_7, k_tup2_8, k_tup2_9, k_tup2_10, k_tup2_11, k_tup2_12, ek_toDs, k_toDs, k_toDs2, ek_callM, ek_ifE, k_ifE_t, k_ifE_f, truO_some, ofB_some, ek_truM, k_tru, ek_andT, k_andT_t, k_andT_f, ek_orT, k_orT_t, k_orT_f, ek_notT, k_notT, ek_andE, k_andE_t, k_andE_f, ek_orE, k_orE_t, k_orE_f, ek_notE, k_notE, ek_setM, k_set, ek_parM, k_par, ek_ifS, k_if_t, k_if_f, ek_retM, k_ret, ek_dropM, k_drop, ek_forM, k_for, ek_itM, k_it_l, k_it_t, ek_zipM, k_zip, k_zip2_l, k_zip2_t, ek_someO, k_some, ek_sliceM, k_sl, k_sl2, k_sl3, apS_dat, ek_parGM, k_pg2, k_pg3, ek_parM3, k_p3, ek_lstC, k_lst0, wipeS, id, this])
  rw [hno] at e2
  show b_is_screen [some (.dat V), none, none, none] st = _
  rw [b_is_screen]
  simp only [seqO_nx, seqO_rt, seqO_exc, ev_seqM, ev_skipM, ev_cst, ev_vr, ev_aNil, ev_noO, ev_tYesM, List.getElem?_cons_zero, List.getElem?_cons_succ, List.set, Res.bind_ok, bindS_ok, Res.bind_exc, bindS_exc, ap2_dat, ap1_dat, apN1, apN2, ofO_some, peek_dat, truD_bool, Bool.not_true, Bool.not_false, ixD_tup, ixD_lst, atI_0, atI_1, toDs_nil, toD_dat, ek_op2, k_op2, k_op2b, ek_op1, k_op1, ek_isiM, ek_opN, k_opN, ek_aCons, k_cons, k_cons2, ek_tupM, ek_lstD, k_tup, k_tup2_0, k_tup2_1, k_tup2_2, k_tup2_3, k_tup2_4, k_tup2_5, k_tup2_6, k_tup2_7, k_tup2_8, k_tup2_9, k_tup2_10, k_tup2_11, k_tup2_12, ek_toDs, k_toDs, k_toDs2, ek_callM, ek_ifE, k_ifE_t, k_ifE_f, truO_some, ofB_some, ek_truM, k_tru, ek_andT, k_andT_t, k_andT_f, ek_orT, k_orT_t, k_orT_f, ek_notT, k_notT, ek_andE, k_andE_t, k_andE_f, ek_orE, k_orE_t, k_orE_f, ek_notE, k_notE, ek_setM, k_set, ek_parM, k_par, ek_ifS, k_if_t, k_if_f, ek_retM, k_ret, ek_dropM, k_drop, ek_forM, k_for, ek_itM, k_it_l, k_it_t, ek_zipM, k_zip, k_zip2_l, k_zip2_t, ek_someO, k_some, ek_sliceM, k_sl, k_sl2, k_sl3, apS_dat, ek_parGM, k_pg2, k_pg3, ek_parM3, k_p3, ek_lstC, k_lst0, e0, ↓e1, ↓e2]
def badL : List D := [.none, .tuple [], .tuple [.tuple []], .tuple [.tuple [.int 0, .int 1], .tuple [.int 2]], .tuple [.tuple [.int 1, .int 2]], .tuple [.tuple [.int 0, .int 0]], .list [.list [.int 0]], .tuple [.tuple [.int 0], .list [.int 1]], .tuple [.tuple [.int 0, .none]], .tuple [.tuple [.bool false]], .tuple [.tuple [.int 0, .int 1, .int 3]]]
theorem scr_no {rows : List (List Nat)} (h : scrOk rows = false) (hn : rows.length ≤ 1000) (hf : rows.flatten.length ≤ 5000) (st : Store) : d_is_screen [.dat (scrD rows)] st = .ok (.dat (.bool false)) st := by
  rw [isscreen_run rows hn hf st, h]
theorem scrOk_no {rows : List (List Nat)} (h : (rows.flatten.map fun k : Nat => (k : Int)).Pairwise (· ≤ ·)) (hd : (rows.flatten.map fun k : Nat => (k : Int)) ≠ (List.range rows.flatten.length).map fun k : Nat => (k : Int)) : scrOk rows = false := by
  unfold scrOk
  rw [← sortI_eq (List.Perm.refl _) h, decide_eq_false hd, Bool.and_false]
theorem bad_no : ∀ d ∈ badL, ∀ st, d_is_screen [.dat d] st = .ok (.dat (.bool false)) st := by
  intro d hd st
  unfold badL at hd
  simp only [List.mem_cons, List.not_mem_nil, or_false] at hd
  rcases hd with rfl | rfl | rfl | rfl | rfl | rfl | rfl | rfl | rfl | rfl | rfl
  · exact screen_norows (fun st => rows_not rfl st) st
  · exact scr_no (rows := []) rfl (by decide) (by decide) st
  · exact scr_no (rows := [[]]) rfl (by decide) (by decide) st
  · exact scr_no (rows := [[0, 1], [2]]) rfl (by decide) (by decide) st
  · exact scr_no (rows := [[1, 2]]) (scrOk_no (by decide) (by decide)) (by decide) (by decide) st
  · exact scr_no (rows := [[0, 0]]) (scrOk_no (by decide) (by decide)) (by decide) (by decide) st
  · exact screen_norows (fun st => rows_not rfl st) st
  · exact screen_norows rows_list st
  · exact screen_odd (rows := [[.int 0, .none]]) rfl (p := fun d => match d with
      | .int _ => true
      | _ => false) (by decide) (by decide) (fun d hd st => by
        have : d = .int 0 ∨ d = .none := by simpa using hd
        rcases this with rfl | rfl
        · exact isint_run 0 st
        · exact isint_none st) rfl st
  · exact screen_odd (rows := [[.bool false]]) rfl (p := fun _ => false) (by decide) (by decide) (fun d hd st => by
        have : d = .bool false := by simpa using hd
        subst this
        exact isint_bool false st) rfl st
  · exact scr_no (rows := [[0, 1, 3]]) (scrOk_no (by decide) (by decide)) (by decide) (by decide) st
end K27

set_option Elab.async false
set_option linter.all false
set_option maxRecDepth 100000
set_option maxHeartbeats 4000000
set_option exponentiation.threshold 5000
/-! K27Rf: refusals. -/
namespace K27
open PySem L2 Pd
def plainC : List Rat := [1 / 2, 0, 1]
def farC : List Rat := [2, 0, 0]
theorem plain_eq : colD plainC = .tuple [.tuple [.int 1, .int 2], .tuple [.int 0, .int 1], .tuple [.int 1, .int 1]] := by
  unfold colD plainC
  simp only [List.map_cons, List.map_nil]
  rw [rt_of (1 / 2) 1 2 (by decide +kernel), rt_of 0 0 1 (by decide +kernel), rt_of 1 1 1 (by decide +kernel)]
theorem far_eq' : colD farC = .tuple [.tuple [.int 2, .int 1], .tuple [.int 0, .int 1], .tuple [.int 0, .int 1]] := by
  unfold colD farC
  simp only [List.map_cons, List.map_nil]
  rw [rt_of 2 2 1 (by decide +kernel), rt_of 0 0 1 (by decide +kernel)]
theorem plainC_pl : Pl 10 plainC := by
  refine ⟨rfl, ?_, ?_⟩
  · unfold plainC Sz
    decide +kernel
  · unfold plainC
    decide +kernel
theorem far_no (st : Store) : d_is_plain [.dat (colD farC)] st = .ok (.dat (.bool false)) st := by
  have e := plain_gen (c := farC) rfl st
  have : (farC.all fun q => decide (0 ≤ q) && decide (q ≤ 1)) = false := by
    unfold farC
    decide +kernel
  rw [this] at e
  exact e
/-! grown_screen -/
theorem within_no {d a b : D} (h : ∀ st, d_is_integer [.dat d] st = .ok (.dat (.bool false)) st) (st : Store) : d_is_within [.dat d, .dat a, .dat b] st = .ok (.dat (.bool false)) st := by
  refine call_rt rfl ?_
  have := h st
  show b_is_within [some (.dat d), some (.dat a), some (.dat b)] st = _
  rw [b_is_within]
  simp only [seqO_nx, seqO_rt, seqO_exc, ev_seqM, ev_skipM, ev_cst, ev_vr, ev_aNil, ev_noO, ev_tYesM, List.getElem?_cons_zero, List.getElem?_cons_succ, List.set, Res.bind_ok, bindS_ok, Res.bind_exc, bindS_exc, ap2_dat, ap1_dat, apN1, apN2, ofO_some, peek_dat, truD_bool, Bool.not_true, Bool.not_false, ixD_tup, ixD_lst, atI_0, atI_1, toDs_nil, toD_dat, ek_op2, k_op2, k_op2b, ek_op1, k_op1, ek_isiM, ek_opN, k_opN, ek_aCons, k_cons, k_cons2, ek_tupM, ek_lstD, k_tup, k_tup2_0, k_tup2_1, k_tup2_2, k_tup2_3, k_tup2_4, k_tup2_5, k_tup2_6, k_tup2_7, k_tup2_8, k_tup2_9, k_tup2_10, k_tup2_11, k_tup2_12, ek_toDs, k_toDs, k_toDs2, ek_callM, ek_ifE, k_ifE_t, k_ifE_f, truO_some, ofB_some, ek_truM, k_tru, ek_andT, k_andT_t, k_andT_f, ek_orT, k_orT_t, k_orT_f, ek_notT, k_notT, ek_andE, k_andE_t, k_andE_f, ek_orE, k_orE_t, k_orE_f, ek_notE, k_notE, ek_setM, k_set, ek_parM, k_par, ek_ifS, k_if_t, k_if_f, ek_retM, k_ret, ek_dropM, k_drop, ek_forM, k_for, ek_itM, k_it_l, k_it_t, ek_zipM, k_zip, k_zip2_l, k_zip2_t, ek_someO, k_some, ek_sliceM, k_sl, k_sl2, k_sl3, apS_dat, ek_parGM, k_pg2, k_pg3, ek_parM3, k_p3, ek_lstC, k_lst0, this]
theorem grown_bad {d : D} (h : ∀ st, d_is_within [.dat d, .dat (.int 0), .dat c_MOST_GROWN] st = .ok (.dat (.bool false)) st) (st : Store) : d_grown_screen [.dat d] st = .exc 1 none st := by
  refine call_exc (s' := [some (.dat d), none, none, none, none, none, none]) rfl ?_
  have e1 := h st
  have e2 := check_bad st
  show b_grown_screen [some (.dat d), none, none, none, none, none, none] st = _
  rw [b_grown_screen]
  simp only [seqO_nx, seqO_rt, seqO_exc, ev_seqM, ev_skipM, ev_cst, ev_vr, ev_aNil, ev_noO, ev_tYesM, List.getElem?_cons_zero, List.getElem?_cons_succ, List.set, Res.bind_ok, bindS_ok, Res.bind_exc, bindS_exc, ap2_dat, ap1_dat, apN1, apN2, ofO_some, peek_dat, truD_bool, Bool.not_true, Bool.not_false, ixD_tup, ixD_lst, atI_0, atI_1, toDs_nil, toD_dat, ek_op2, k_op2, k_op2b, ek_op1, k_op1, ek_isiM, ek_opN, k_opN, ek_aCons, k_cons, k_cons2, ek_tupM, ek_lstD, k_tup, k_tup2_0, k_tup2_1, k_tup2_2, k_tup2_3, k_tup2_4, k_tup2_5, k_tup2_6, k_tup2_7, k_tup2_8, k_tup2_9, k_tup2_10, k_tup2_11, k_tup2_12, ek_toDs, k_toDs, k_toDs2, ek_callM, ek_ifE, k_ifE_t, k_ifE_f, truO_some, ofB_some, ek_truM, k_tru, ek_andT, k_andT_t, k_andT_f, ek_orT, k_orT_t, k_orT_f, ek_notT, k_notT, ek_andE, k_andE_t, k_andE_f, ek_orE, k_orE_t, k_orE_f, ek_notE, k_notE, ek_setM, k_set, ek_parM, k_par, ek_ifS, k_if_t, k_if_f, ek_retM, k_ret, ek_dropM, k_drop, ek_forM, k_for, ek_itM, k_it_l, k_it_t, ek_zipM, k_zip, k_zip2_l, k_zip2_t, ek_someO, k_some, ek_sliceM, k_sl, k_sl2, k_sl3, apS_dat, ek_parGM, k_pg2, k_pg3, ek_parM3, k_p3, ek_lstC, k_lst0, e1, e2]
def grownBad : List D := [.none, .int (-1), .int 6, .bool true]
theorem grown_all : ∀ d ∈ grownBad, ∀ st, d_grown_screen [.dat d] st = .exc 1 none st := by
  intro d hd st
  unfold grownBad at hd
  simp only [List.mem_cons, List.not_mem_nil, or_false] at hd
  rcases hd with rfl | rfl | rfl | rfl
  · exact grown_bad (fun st => within_no isint_none st) st
  · exact grown_bad (fun st => by
      have w := within_run (-1) 0 5 st
      rw [decide_eq_false (by decide : ¬ (0 : Int) ≤ -1), Bool.false_and] at w
      exact w) st
  · exact grown_bad (fun st => by
      have w := within_run 6 0 5 st
      rw [decide_eq_false (by decide : ¬ (6 : Int) ≤ 5), Bool.and_false] at w
      exact w) st
  · exact grown_bad (fun st => within_no (isint_bool true) st) st
/-! mean_of -/
theorem mean_norows {d : D} (h : ∀ st, d_are_rows [.dat d] st = .ok (.dat (.bool false)) st) (st : Store) : d_mean_of [.dat d] st = .exc 1 none st := by
  refine call_exc (s' := [some (.dat d), none, none, none, none, none, none, none]) rfl ?_
  have e1 := h st
  have e2 := check_bad st
  show b_mean_of [some (.dat d), none, none, none, none, none, none, none] st = _
  rw [b_mean_of]
  simp only [seqO_nx, seqO_rt, seqO_exc, ev_seqM, ev_skipM, ev_cst, ev_vr, ev_aNil, ev_noO, ev_tYesM, List.getElem?_cons_zero, List.getElem?_cons_succ, List.set, Res.bind_ok, bindS_ok, Res.bind_exc, bindS_exc, ap2_dat, ap1_dat, apN1, apN2, ofO_some, peek_dat, truD_bool, Bool.not_true, Bool.not_false, ixD_tup, ixD_lst, atI_0, atI_1, toDs_nil, toD_dat, ek_op2, k_op2, k_op2b, ek_op1, k_op1, ek_isiM, ek_opN, k_opN, ek_aCons, k_cons, k_cons2, ek_tupM, ek_lstD, k_tup, k_tup2_0, k_tup2_1, k_tup2_2, k_tup2_3, k_tup2_4, k_tup2_5, k_tup2_6, k_tup2_7, k_tup2_8, k_tup2_9, k_tup2_10, k_tup2_11, k_tup2_12, ek_toDs, k_toDs, k_toDs2, ek_callM, ek_ifE, k_ifE_t, k_ifE_f, truO_some, ofB_some, ek_truM, k_tru, ek_andT, k_andT_t, k_andT_f, ek_orT, k_orT_t, k_orT_f, ek_notT, k_notT, ek_andE, k_andE_t, k_andE_f, ek_orE, k_orE_t, k_orE_f, ek_notE, k_notE, ek_setM, k_set, ek_parM, k_par, ek_ifS, k_if_t, k_if_f, ek_retM, k_ret, ek_dropM, k_drop, ek_forM, k_for, ek_itM, k_it_l, k_it_t, ek_zipM, k_zip, k_zip2_l, k_zip2_t, ek_someO, k_some, ek_sliceM, k_sl, k_sl2, k_sl3, apS_dat, ek_parGM, k_pg2, k_pg3, ek_parM3, k_p3, ek_lstC, k_lst0, e1, e2]
theorem mean_odd {rows : List (List D)} (ok : rowsOk rows = true) {p c : D → Bool} (hn : rows.length ≤ 1000) (hf : rows.flatten.length ≤ 1000) (hp : ∀ d ∈ rows.flatten, ∀ st, d_is_dots [.dat d] st = .ok (.dat (.bool (p d))) st) (hc : ∀ d ∈ rows.flatten, ∀ st, d_is_colour [.dat d] st = .ok (.dat (.bool (c d))) st) (hno : rows.flatten.all p = false) (hno2 : rows.flatten.all c = false) (st : Store) : d_mean_of [.dat (.tuple (rows.map .tuple))] st = .exc 1 none st := by
  have e0 : d_are_rows [.dat (.tuple (rows.map .tuple))] st = .ok (.dat (.bool true)) st := by
    have e := arerows_run (enc := id) rows hn st
    rw [ok] at e
    simpa using e
  obtain ⟨V, hV⟩ : ∃ V : D, V = .tuple (rows.map .tuple) := ⟨_, rfl⟩
  rw [← hV] at e0 ⊢
  have e1 : lc2M (itM (vr 0)) (bName 4) [4, 5] tYesM (itM (vr 4)) (bName 5) [5] tYesM (vr 5) [some (.dat V), none, none, none, none, none, none, none] st = .ok (.dat (.list rows.flatten)) st := by
    have e := lc2_flat (it := itM (vr 0)) (i := 4) (j := 5) (vs := [4, 5]) (s := [some (.dat V), none, none, none, none, none, none, none]) (st := st) (enc := id) (rows := rows) (by rw [hV]; simp) (slN _ (by omega)) (by simp) (by simp)
    rw [List.map_id] at e
    exact e
  have e2 : opN allD (aCons (lcM (itM (vr 1)) (bName 5) [5] tYesM (callM d_is_dots (aCons (vr 5) aNil))) aNil) [some (.dat V), some (.dat (.list rows.flatten)), none, none, none, none, none, none] st = .ok (.dat (.bool (rows.flatten.all p))) st :=
    allLc (lcM_mapN (enc := id) (l := rows.flatten) (fun d => .bool (p d)) (by rw [List.map_id]; rfl) (slN _ (by omega)) fun d hd => by
      have := hp d hd st
      simp only [seqO_nx, seqO_rt, seqO_exc, ev_seqM, ev_skipM, ev_cst, ev_vr, ev_aNil, ev_noO, ev_tYesM, List.getElem?_cons_zero, List.getElem?_cons_succ, List.set, Res.bind_ok, bindS_ok, Res.bind_exc, bindS_exc, ap2_dat, ap1_dat, apN1, apN2, ofO_some, peek_dat, truD_bool, Bool.not_true, Bool.not_false, ixD_tup, ixD_lst, atI_0, atI_1, toDs_nil, toD_dat, ek_op2, k_op2, k_op2b, ek_op1, k_op1, ek_isiM, ek_opN, k_opN, ek_aCons, k_cons, k_cons2, ek_tupM, ek_lstD, k_tup, k_tup2_0, k_tup2_1, k_tup2_2, k_tup2_3, k_tup2_4, k_tup2_5, k_tup2_6, k_tup2_7, k_tup2_8, k_tup2_9, k_tup2_10, k_tup2_11, k_tup2_12, ek_toDs, k_toDs, k_toDs2, ek_callM, ek_ifE, k_ifE_t, k_ifE_f, truO_some, ofB_some, ek_truM, k_tru, ek_andT, k_andT_t, k_andT_f, ek_orT, k_orT_t, k_orT_f, ek_notT, k_notT, ek_andE, k_andE_t, k_andE_f, ek_orE, k_orE_t, k_orE_f, ek_notE, k_notE, ek_setM, k_set, ek_parM, k_par, ek_ifS, k_if_t, k_if_f, ek_retM, k_ret, ek_dropM, k_drop, ek_forM, k_for, ek_itM, k_it_l, k_it_t, ek_zipM, k_zip, k_zip2_l, k_zip2_t, ek_someO, k_some, ek_sliceM, k_sl, k_sl2, k_sl3, apS_dat, ek_parGM, k_pg2, k_pg3, ek_parM3, k_p3, ek_lstC, k_lst0, wipeS, id, this])
  have e3 : opN allD (aCons (lcM (itM (vr 1)) (bName 5) [5] tYesM (callM d_is_colour (aCons (vr 5) aNil))) aNil) [some (.dat V), some (.dat (.list rows.flatten)), some (.dat (.bool false)), none, none, none, none, none] st = .ok (.dat (.bool (rows.flatten.all c))) st :=
    allLc (lcM_mapN (enc := id) (l := rows.flatten) (fun d => .bool (c d)) (by rw [List.map_id]; rfl) (slN _ (by omega)) fun d hd => by
      have := hc d hd st
      simp only [seqO_nx, seqO_rt, seqO_exc, ev_seqM, ev_skipM, ev_cst, ev_vr, ev_aNil, ev_noO, ev_tYesM, List.getElem?_cons_zero, List.getElem?_cons_succ, List.set, Res.bind_ok, bindS_ok, Res.bind_exc, bindS_exc, ap2_dat, ap1_dat, apN1, apN2, ofO_some, peek_dat, truD_bool, Bool.not_true, Bool.not_false, ixD_tup, ixD_lst, atI_0, atI_1, toDs_nil, toD_dat, ek_op2, k_op2, k_op2b, ek_op1, k_op1, ek_isiM, ek_opN, k_opN, ek_aCons, k_cons, k_cons2, ek_tupM, ek_lstD, k_tup, k_tup2_0, k_tup2_1, k_tup2_2, k_tup2_3, k_tup2_4, k_tup2_5, k_tup2_6, k_tup2_7, k_tup2_8, k_tup2_9, k_tup2_10, k_tup2_11, k_tup2_12, ek_toDs, k_toDs, k_toDs2, ek_callM, ek_ifE, k_ifE_t, k_ifE_f, truO_some, ofB_some, ek_truM, k_tru, ek_andT, k_andT_t, k_andT_f, ek_orT, k_orT_t, k_orT_f, ek_notT, k_notT, ek_andE, k_andE_t, k_andE_f, ek_orE, k_orE_t, k_orE_f, ek_notE, k_notE, ek_setM, k_set, ek_parM, k_par, ek_ifS, k_if_t, k_if_f, ek_retM, k_ret, ek_dropM, k_drop, ek_forM, k_for, ek_itM, k_it_l, k_it_t, ek_zipM, k_zip, k_zip2_l, k_zip2_t, ek_someO, k_some, ek_sliceM, k_sl, k_sl2, k_sl3, apS_dat, ek_parGM, k_pg2, k_pg3, ek_parM3, k_p3, ek_lstC, k_lst0, wipeS, id, this])
  rw [hno] at e2
  rw [hno2] at e3
  have e4 := check_run st
  have e5 := check_bad st
  refine call_exc (s' := [some (.dat V), some (.dat (.list rows.flatten)), some (.dat (.bool false)), none, none, none, none, none]) rfl ?_
  show b_mean_of [some (.dat V), none, none, none, none, none, none, none] st = _
  rw [b_mean_of]
  simp only [seqO_nx, seqO_rt, seqO_exc, ev_seqM, ev_skipM, ev_cst, ev_vr, ev_aNil, ev_noO, ev_tYesM, List.getElem?_cons_zero, List.getElem?_cons_succ, List.set, Res.bind_ok, bindS_ok, Res.bind_exc, bindS_exc, ap2_dat, ap1_dat, apN1, apN2, ofO_some, peek_dat, truD_bool, Bool.not_true, Bool.not_false, ixD_tup, ixD_lst, atI_0, atI_1, toDs_nil, toD_dat, ek_op2, k_op2, k_op2b, ek_op1, k_op1, ek_isiM, ek_opN, k_opN, ek_aCons, k_cons, k_cons2, ek_tupM, ek_lstD, k_tup, k_tup2_0, k_tup2_1, k_tup2_2, k_tup2_3, k_tup2_4, k_tup2_5, k_tup2_6, k_tup2_7, k_tup2_8, k_tup2_9, k_tup2_10, k_tup2_11, k_tup2_12, ek_toDs, k_toDs, k_toDs2, ek_callM, ek_ifE, k_ifE_t, k_ifE_f, truO_some, ofB_some, ek_truM, k_tru, ek_andT, k_andT_t, k_andT_f, ek_orT, k_orT_t, k_orT_f, ek_notT, k_notT, ek_andE, k_andE_t, k_andE_f, ek_orE, k_orE_t, k_orE_f, ek_notE, k_notE, ek_setM, k_set, ek_parM, k_par, ek_ifS, k_if_t, k_if_f, ek_retM, k_ret, ek_dropM, k_drop, ek_forM, k_for, ek_itM, k_it_l, k_it_t, ek_zipM, k_zip, k_zip2_l, k_zip2_t, ek_someO, k_some, ek_sliceM, k_sl, k_sl2, k_sl3, apS_dat, ek_parGM, k_pg2, k_pg3, ek_parM3, k_p3, ek_lstC, k_lst0, e0, e4, ↓e1, ↓e2, ↓e3, e5]
def rowsBad : List D := [.none, .tuple [], .tuple [.tuple []], .tuple [.tuple [.tuple [.int 1, .int 0, .int 2]]], .tuple [.tuple [.tuple [.int 1, .int 0]]], .tuple [.tuple [.tuple [.int 1, .int 0, .int 1], .tuple [.int 1, .int 1, .int 1]], .tuple [.tuple [.int 0, .int 0, .int 0]]], .tuple [.tuple [colD plainC, .tuple [.int 1, .int 0, .int 1]]], .tuple [.tuple [.tuple [.bool true, .int 0, .int 0]]]]
/-- no ratio among three numbers -/
theorem colour_nums {a b c : D} (ha : isiD "tuple" a = some (.bool false)) (hb : isiD "tuple" b = some (.bool false)) (hc : isiD "tuple" c = some (.bool false)) (st : Store) : d_is_colour [.dat (.tuple [a, b, c])] st = .ok (.dat (.bool false)) st :=
  colour_gen (p := fun _ => false) rfl (fun d hd st => by
    have : d = a ∨ d = b ∨ d = c := by simpa using hd
    rcases this with rfl | rfl | rfl
    · exact ratio_not ha st
    · exact ratio_not hb st
    · exact ratio_not hc st) st
theorem mean_all : ∀ d ∈ rowsBad, ∀ st, d_mean_of [.dat d] st = .exc 1 none st := by
  intro d hd st
  unfold rowsBad at hd
  simp only [List.mem_cons, List.not_mem_nil, or_false] at hd
  rcases hd with rfl | rfl | rfl | rfl | rfl | rfl | rfl | rfl
  · exact mean_norows (fun st => rows_not rfl st) st
  · exact mean_norows (fun st => arerows_run (enc := id) (α := D) [] (by decide) st) st
  · exact mean_norows (fun st => arerows_run (enc := id) (α := D) [[]] (by decide) st) st
  · exact mean_odd (rows := [[.tuple [.int 1, .int 0, .int 2]]]) rfl (p := fun _ => false) (c := fun _ => false) (by decide) (by decide) (fun d hd st => by
      have : d = .tuple [.int 1, .int 0, .int 2] := by simpa using hd
      subst this
      exact dots_gen rfl (by decide) st) (fun d hd st => by
      have : d = .tuple [.int 1, .int 0, .int 2] := by simpa using hd
      subst this
      exact colour_nums rfl rfl rfl st) rfl rfl st
  · exact mean_odd (rows := [[.tuple [.int 1, .int 0]]]) rfl (p := fun _ => false) (c := fun _ => false) (by decide) (by decide) (fun d hd st => by
      have : d = .tuple [.int 1, .int 0] := by simpa using hd
      subst this
      exact dots_len (by decide) st) (fun d hd st => by
      have : d = .tuple [.int 1, .int 0] := by simpa using hd
      subst this
      exact colour_len (by decide) st) rfl rfl st
  · exact mean_norows (fun st => arerows_run (enc := id) (α := D) [[.tuple [.int 1, .int 0, .int 1], .tuple [.int 1, .int 1, .int 1]], [.tuple [.int 0, .int 0, .int 0]]] (by decide) st) st
  · refine mean_odd (rows := [[colD plainC, .tuple [.int 1, .int 0, .int 1]]]) rfl (p := fun d => match d with
      | .tuple (.int _ :: _) => true
      | _ => false) (c := fun d => match d with
      | .tuple (.int _ :: _) => false
      | _ => true) (by decide) (by decide) (fun d hd st => ?_) (fun d hd st => ?_) rfl rfl st
    · have : d = colD plainC ∨ d = .tuple [.int 1, .int 0, .int 1] := by simpa using hd
      rcases this with rfl | rfl
      · exact isdots_col rfl st
      · exact dots_gen rfl (by decide) st
    · have : d = colD plainC ∨ d = .tuple [.int 1, .int 0, .int 1] := by simpa using hd
      rcases this with rfl | rfl
      · exact iscolour_run rfl st
      · exact colour_nums rfl rfl rfl st
  · exact mean_odd (rows := [[.tuple [.bool true, .int 0, .int 0]]]) rfl (p := fun _ => false) (c := fun _ => false) (by decide) (by decide) (fun d hd st => by
      have : d = .tuple [.bool true, .int 0, .int 0] := by simpa using hd
      subst this
      exact dots_gen rfl (by decide) st) (fun d hd st => by
      have : d = .tuple [.bool true, .int 0, .int 0] := by simpa using hd
      subst this
      exact colour_nums rfl rfl rfl st) rfl rfl st
/-! dots_of -/
theorem dots_bad1 {d c : D} (h : ∀ st, d_is_screen [.dat d] st = .ok (.dat (.bool false)) st) (st : Store) : d_dots_of [.dat d, .dat c] st = .exc 1 none st := by
  refine call_exc (s' := [some (.dat d), some (.dat c), none, none, none, none]) rfl ?_
  have e1 := h st
  have e2 := check_bad st
  show b_dots_of [some (.dat d), some (.dat c), none, none, none, none] st = _
  rw [b_dots_of]
  simp only [seqO_nx, seqO_rt, seqO_exc, ev_seqM, ev_skipM, ev_cst, ev_vr, ev_aNil, ev_noO, ev_tYesM, List.getElem?_cons_zero, List.getElem?_cons_succ, List.set, Res.bind_ok, bindS_ok, Res.bind_exc, bindS_exc, ap2_dat, ap1_dat, apN1, apN2, ofO_some, peek_dat, truD_bool, Bool.not_true, Bool.not_false, ixD_tup, ixD_lst, atI_0, atI_1, toDs_nil, toD_dat, ek_op2, k_op2, k_op2b, ek_op1, k_op1, ek_isiM, ek_opN, k_opN, ek_aCons, k_cons, k_cons2, ek_tupM, ek_lstD, k_tup, k_tup2_0, k_tup2_1, k_tup2_2, k_tup2_3, k_tup2_4, k_tup2_5, k_tup2_6, k_tup2_7, k_tup2_8, k_tup2_9, k_tup2_10, k_tup2_11, k_tup2_12, ek_toDs, k_toDs, k_toDs2, ek_callM, ek_ifE, k_ifE_t, k_ifE_f, truO_some, ofB_some, ek_truM, k_tru, ek_andT, k_andT_t, k_andT_f, ek_orT, k_orT_t, k_orT_f, ek_notT, k_notT, ek_andE, k_andE_t, k_andE_f, ek_orE, k_orE_t, k_orE_f, ek_notE, k_notE, ek_setM, k_set, ek_parM, k_par, ek_ifS, k_if_t, k_if_f, ek_retM, k_ret, ek_dropM, k_drop, ek_forM, k_for, ek_itM, k_it_l, k_it_t, ek_zipM, k_zip, k_zip2_l, k_zip2_t, ek_someO, k_some, ek_sliceM, k_sl, k_sl2, k_sl3, apS_dat, ek_parGM, k_pg2, k_pg3, ek_parM3, k_p3, ek_lstC, k_lst0, e1, e2]
theorem dots_bad2 {d c : D} (h1 : ∀ st, d_is_screen [.dat d] st = .ok (.dat (.bool true)) st) (h : ∀ st, d_is_plain [.dat c] st = .ok (.dat (.bool false)) st) (st : Store) : d_dots_of [.dat d, .dat c] st = .exc 1 none st := by
  refine call_exc (s' := [some (.dat d), some (.dat c), none, none, none, none]) rfl ?_
  have e1 := h1 st
  have e2 := check_bad st
  have e3 := h st
  have e4 := check_run st
  show b_dots_of [some (.dat d), some (.dat c), none, none, none, none] st = _
  rw [b_dots_of]
  simp only [seqO_nx, seqO_rt, seqO_exc, ev_seqM, ev_skipM, ev_cst, ev_vr, ev_aNil, ev_noO, ev_tYesM, List.getElem?_cons_zero, List.getElem?_cons_succ, List.set, Res.bind_ok, bindS_ok, Res.bind_exc, bindS_exc, ap2_dat, ap1_dat, apN1, apN2, ofO_some, peek_dat, truD_bool, Bool.not_true, Bool.not_false, ixD_tup, ixD_lst, atI_0, atI_1, toDs_nil, toD_dat, ek_op2, k_op2, k_op2b, ek_op1, k_op1, ek_isiM, ek_opN, k_opN, ek_aCons, k_cons, k_cons2, ek_tupM, ek_lstD, k_tup, k_tup2_0, k_tup2_1, k_tup2_2, k_tup2_3, k_tup2_4, k_tup2_5, k_tup2_6, k_tup2_7, k_tup2_8, k_tup2_9, k_tup2_10, k_tup2_11, k_tup2_12, ek_toDs, k_toDs, k_toDs2, ek_callM, ek_ifE, k_ifE_t, k_ifE_f, truO_some, ofB_some, ek_truM, k_tru, ek_andT, k_andT_t, k_andT_f, ek_orT, k_orT_t, k_orT_f, ek_notT, k_notT, ek_andE, k_andE_t, k_andE_f, ek_orE, k_orE_t, k_orE_f, ek_notE, k_notE, ek_setM, k_set, ek_parM, k_par, ek_ifS, k_if_t, k_if_f, ek_retM, k_ret, ek_dropM, k_drop, ek_forM, k_for, ek_itM, k_it_l, k_it_t, ek_zipM, k_zip, k_zip2_l, k_zip2_t, ek_someO, k_some, ek_sliceM, k_sl, k_sl2, k_sl3, apS_dat, ek_parGM, k_pg2, k_pg3, ek_parM3, k_p3, ek_lstC, k_lst0, e1, e4, e3, e2]
theorem one_screen (st : Store) : d_is_screen [.dat (.tuple [.tuple [.int 0]])] st = .ok (.dat (.bool true)) st := growN_screen (n := 0) (by decide) st
def oddL : List D := [.none, colD farC, .tuple [.tuple [.int 1, .int 2], .tuple [.int 0, .int 1]], .int 5]
theorem odd_no : ∀ d ∈ oddL, ∀ st, d_is_plain [.dat d] st = .ok (.dat (.bool false)) st := by
  intro d hd st
  unfold oddL at hd
  simp only [List.mem_cons, List.not_mem_nil, or_false] at hd
  rcases hd with rfl | rfl | rfl | rfl
  · exact plain_no (fun st => colour_not rfl st) st
  · exact far_no st
  · exact plain_no (fun st => colour_len (by decide) st) st
  · exact plain_no (fun st => colour_not rfl st) st
/-! spread -/
theorem spread_bad1 {d c : D} (h : ∀ st, d_are_levels [.dat d] st = .ok (.dat (.bool false)) st) (st : Store) : d_spread [.dat d, .dat c] st = .exc 1 none st := by
  refine call_exc (s' := [some (.dat d), some (.dat c), none, none, none, none, none, none, none, none]) rfl ?_
  have e1 := h st
  have e2 := check_bad st
  show b_spread [some (.dat d), some (.dat c), none, none, none, none, none, none, none, none] st = _
  rw [b_spread]
  simp only [seqO_nx, seqO_rt, seqO_exc, ev_seqM, ev_skipM, ev_cst, ev_vr, ev_aNil, ev_noO, ev_tYesM, List.getElem?_cons_zero, List.getElem?_cons_succ, List.set, Res.bind_ok, bindS_ok, Res.bind_exc, bindS_exc, ap2_dat, ap1_dat, apN1, apN2, ofO_some, peek_dat, truD_bool, Bool.not_true, Bool.not_false, ixD_tup, ixD_lst, atI_0, atI_1, toDs_nil, toD_dat, ek_op2, k_op2, k_op2b, ek_op1, k_op1, ek_isiM, ek_opN, k_opN, ek_aCons, k_cons, k_cons2, ek_tupM, ek_lstD, k_tup, k_tup2_0, k_tup2_1, k_tup2_2, k_tup2_3, k_tup2_4, k_tup2_5, k_tup2_6, k_tup2_7, k_tup2_8, k_tup2_9, k_tup2_10, k_tup2_11, k_tup2_12, ek_toDs, k_toDs, k_toDs2, ek_callM, ek_ifE, k_ifE_t, k_ifE_f, truO_some, ofB_some, ek_truM, k_tru, ek_andT, k_andT_t, k_andT_f, ek_orT, k_orT_t, k_orT_f, ek_notT, k_notT, ek_andE, k_andE_t, k_andE_f, ek_orE, k_orE_t, k_orE_f, ek_notE, k_notE, ek_setM, k_set, ek_parM, k_par, ek_ifS, k_if_t, k_if_f, ek_retM, k_ret, ek_dropM, k_drop, ek_forM, k_for, ek_itM, k_it_l, k_it_t, ek_zipM, k_zip, k_zip2_l, k_zip2_t, ek_someO, k_some, ek_sliceM, k_sl, k_sl2, k_sl3, apS_dat, ek_parGM, k_pg2, k_pg3, ek_parM3, k_p3, ek_lstC, k_lst0, e1, e2]
def lvBad : List D := [.none, .tuple [.int 2, .int 2], .tuple [.int 1, .int 2, .int 2], .tuple [.int 2, .int 2, .int 300]]
theorem levels_gen {a b c : Int} (st : Store) : d_are_levels [.dat (.tuple [.int a, .int b, .int c])] st = .ok (.dat (.bool ([a, b, c].all fun m => decide (2 ≤ m) && decide (m ≤ 256)))) st := by
  refine call_rt rfl ?_
  have e1 : opN allD (aCons (lcM (itM (vr 0)) (bName 1) [1] tYesM (callM d_is_within (aCons (vr 1) (aCons (cst (.int 2)) (aCons (cst c_MOST_LEVELS) aNil))))) aNil) [some (.dat (.tuple [.int a, .int b, .int c])), none] st = .ok (.dat (.bool ([a, b, c].all fun m => decide (2 ≤ m) && decide (m ≤ 256)))) st :=
    allLc (lcM_mapN (enc := .int) (l := [a, b, c]) (fun m => .bool (decide (2 ≤ m) && decide (m ≤ 256))) rfl (slN _ (show 3 ≤ 20000 by decide)) fun m _ => by
      have := within_run m 2 256 st
      simp only [seqO_nx, seqO_rt, seqO_exc, ev_seqM, ev_skipM, ev_cst, ev_vr, ev_aNil, ev_noO, ev_tYesM, List.getElem?_cons_zero, List.getElem?_cons_succ, List.set, Res.bind_ok, bindS_ok, Res.bind_exc, bindS_exc, ap2_dat, ap1_dat, apN1, apN2, ofO_some, peek_dat, truD_bool, Bool.not_true, Bool.not_false, ixD_tup, ixD_lst, atI_0, atI_1, toDs_nil, toD_dat, ek_op2, k_op2, k_op2b, ek_op1, k_op1, ek_isiM, ek_opN, k_opN, ek_aCons, k_cons, k_cons2, ek_tupM, ek_lstD, k_tup, k_tup2_0, k_tup2_1, k_tup2_2, k_tup2_3, k_tup2_4, k_tup2_5, k_tup2_6, k_tup2_7, k_tup2_8, k_tup2_9, k_tup2_10, k_tup2_11, k_tup2_12, ek_toDs, k_toDs, k_toDs2, ek_callM, ek_ifE, k_ifE_t, k_ifE_f, truO_some, ofB_some, ek_truM, k_tru, ek_andT, k_andT_t, k_andT_f, ek_orT, k_orT_t, k_orT_f, ek_notT, k_notT, ek_andE, k_andE_t, k_andE_f, ek_orE, k_orE_t, k_orE_f, ek_notE, k_notE, ek_setM, k_set, ek_parM, k_par, ek_ifS, k_if_t, k_if_f, ek_retM, k_ret, ek_dropM, k_drop, ek_forM, k_for, ek_itM, k_it_l, k_it_t, ek_zipM, k_zip, k_zip2_l, k_zip2_t, ek_someO, k_some, ek_sliceM, k_sl, k_sl2, k_sl3, apS_dat, ek_parGM, k_pg2, k_pg3, ek_parM3, k_p3, ek_lstC, k_lst0, wipeS, c_MOST_LEVELS, this])
  have e2 : decide ((([PyData.int a, .int b, .int c] : List D).length : Int) = 3) = true := decide_eq_true rfl
  show b_are_levels [some (.dat (.tuple [.int a, .int b, .int c])), none] st = _
  rw [b_are_levels]
  simp only [seqO_nx, seqO_rt, seqO_exc, ev_seqM, ev_skipM, ev_cst, ev_vr, ev_aNil, ev_noO, ev_tYesM, List.getElem?_cons_zero, List.getElem?_cons_succ, List.set, Res.bind_ok, bindS_ok, Res.bind_exc, bindS_exc, ap2_dat, ap1_dat, apN1, apN2, ofO_some, peek_dat, truD_bool, Bool.not_true, Bool.not_false, ixD_tup, ixD_lst, atI_0, atI_1, toDs_nil, toD_dat, ek_op2, k_op2, k_op2b, ek_op1, k_op1, ek_isiM, ek_opN, k_opN, ek_aCons, k_cons, k_cons2, ek_tupM, ek_lstD, k_tup, k_tup2_0, k_tup2_1, k_tup2_2, k_tup2_3, k_tup2_4, k_tup2_5, k_tup2_6, k_tup2_7, k_tup2_8, k_tup2_9, k_tup2_10, k_tup2_11, k_tup2_12, ek_toDs, k_toDs, k_toDs2, ek_callM, ek_ifE, k_ifE_t, k_ifE_f, truO_some, ofB_some, ek_truM, k_tru, ek_andT, k_andT_t, k_andT_f, ek_orT, k_orT_t, k_orT_f, ek_notT, k_notT, ek_andE, k_andE_t, k_andE_f, ek_orE, k_orE_t, k_orE_f, ek_notE, k_notE, ek_setM, k_set, ek_parM, k_par, ek_ifS, k_if_t, k_if_f, ek_retM, k_ret, ek_dropM, k_drop, ek_forM, k_for, ek_itM, k_it_l, k_it_t, ek_zipM, k_zip, k_zip2_l, k_zip2_t, ek_someO, k_some, ek_sliceM, k_sl, k_sl2, k_sl3, apS_dat, ek_parGM, k_pg2, k_pg3, ek_parM3, k_p3, ek_lstC, k_lst0, isiD_tt, lenD_tup, eqD_int, e2, ↓e1]
theorem levels_not {d : D} (h : isiD "tuple" d = some (.bool false)) (st : Store) : d_are_levels [.dat d] st = .ok (.dat (.bool false)) st := by
  refine call_rt rfl ?_
  show b_are_levels [some (.dat d), none] st = _
  rw [b_are_levels]
  simp only [seqO_nx, seqO_rt, seqO_exc, ev_seqM, ev_skipM, ev_cst, ev_vr, ev_aNil, ev_noO, ev_tYesM, List.getElem?_cons_zero, List.getElem?_cons_succ, List.set, Res.bind_ok, bindS_ok, Res.bind_exc, bindS_exc, ap2_dat, ap1_dat, apN1, apN2, ofO_some, peek_dat, truD_bool, Bool.not_true, Bool.not_false, ixD_tup, ixD_lst, atI_0, atI_1, toDs_nil, toD_dat, ek_op2, k_op2, k_op2b, ek_op1, k_op1, ek_isiM, ek_opN, k_opN, ek_aCons, k_cons, k_cons2, ek_tupM, ek_lstD, k_tup, k_tup2_0, k_tup2_1, k_tup2_2, k_tup2_3, k_tup2_4, k_tup2_5, k_tup2_6, k_tup2_7, k_tup2_8, k_tup2_9, k_tup2_10, k_tup2_11, k_tup2_12, ek_toDs, k_toDs, k_toDs2, ek_callM, ek_ifE, k_ifE_t, k_ifE_f, truO_some, ofB_some, ek_truM, k_tru, ek_andT, k_andT_t, k_andT_f, ek_orT, k_orT_t, k_orT_f, ek_notT, k_notT, ek_andE, k_andE_t, k_andE_f, ek_orE, k_orE_t, k_orE_f, ek_notE, k_notE, ek_setM, k_set, ek_parM, k_par, ek_ifS, k_if_t, k_if_f, ek_retM, k_ret, ek_dropM, k_drop, ek_forM, k_for, ek_itM, k_it_l, k_it_t, ek_zipM, k_zip, k_zip2_l, k_zip2_t, ek_someO, k_some, ek_sliceM, k_sl, k_sl2, k_sl3, apS_dat, ek_parGM, k_pg2, k_pg3, ek_parM3, k_p3, ek_lstC, k_lst0, h]
theorem levels_len {ds : List D} (h : ds.length ≠ 3) (st : Store) : d_are_levels [.dat (.tuple ds)] st = .ok (.dat (.bool false)) st := by
  refine call_rt rfl ?_
  have e : decide ((ds.length : Int) = 3) = false := decide_eq_false (by omega)
  show b_are_levels [some (.dat (.tuple ds)), none] st = _
  rw [b_are_levels]
  simp only [seqO_nx, seqO_rt, seqO_exc, ev_seqM, ev_skipM, ev_cst, ev_vr, ev_aNil, ev_noO, ev_tYesM, List.getElem?_cons_zero, List.getElem?_cons_succ, List.set, Res.bind_ok, bindS_ok, Res.bind_exc, bindS_exc, ap2_dat, ap1_dat, apN1, apN2, ofO_some, peek_dat, truD_bool, Bool.not_true, Bool.not_false, ixD_tup, ixD_lst, atI_0, atI_1, toDs_nil, toD_dat, ek_op2, k_op2, k_op2b, ek_op1, k_op1, ek_isiM, ek_opN, k_opN, ek_aCons, k_cons, k_cons2, ek_tupM, ek_lstD, k_tup, k_tup2_0, k_tup2_1, k_tup2_2, k_tup2_3, k_tup2_4, k_tup2_5, k_tup2_6, k_tup2_7, k_tup2_8, k_tup2_9, k_tup2_10, k_tup2_11, k_tup2_12, ek_toDs, k_toDs, k_toDs2, ek_callM, ek_ifE, k_ifE_t, k_ifE_f, truO_some, ofB_some, ek_truM, k_tru, ek_andT, k_andT_t, k_andT_f, ek_orT, k_orT_t, k_orT_f, ek_notT, k_notT, ek_andE, k_andE_t, k_andE_f, ek_orE, k_orE_t, k_orE_f, ek_notE, k_notE, ek_setM, k_set, ek_parM, k_par, ek_ifS, k_if_t, k_if_f, ek_retM, k_ret, ek_dropM, k_drop, ek_forM, k_for, ek_itM, k_it_l, k_it_t, ek_zipM, k_zip, k_zip2_l, k_zip2_t, ek_someO, k_some, ek_sliceM, k_sl, k_sl2, k_sl3, apS_dat, ek_parGM, k_pg2, k_pg3, ek_parM3, k_p3, ek_lstC, k_lst0, isiD_tt, lenD_tup, eqD_int, e]
theorem lv_no : ∀ d ∈ lvBad, ∀ st, d_are_levels [.dat d] st = .ok (.dat (.bool false)) st := by
  intro d hd st
  unfold lvBad at hd
  simp only [List.mem_cons, List.not_mem_nil, or_false] at hd
  rcases hd with rfl | rfl | rfl | rfl
  · exact levels_not rfl st
  · exact levels_len (by decide) st
  · exact levels_gen st
  · exact levels_gen st
theorem lv222 (st : Store) : d_are_levels [.dat (.tuple [.int 2, .int 2, .int 2])] st = .ok (.dat (.bool true)) st := levels_gen st
theorem spread_empty (st : Store) : d_spread [.dat (.tuple [.int 2, .int 2, .int 2]), .dat (.tuple [])] st = .exc 1 none st := by
  refine call_exc (s' := [some (.dat (.tuple [.int 2, .int 2, .int 2])), some (.dat (.tuple [])), none, none, none, none, none, none, none, none]) rfl ?_
  have e1 := lv222 st
  have e2 := check_bad st
  have e3 := check_run st
  have e4 : gtD (.int (([] : List D).length : Nat)) (.int 0) = some (.bool false) := rfl
  show b_spread [some (.dat (.tuple [.int 2, .int 2, .int 2])), some (.dat (.tuple [])), none, none, none, none, none, none, none, none] st = _
  rw [b_spread]
  simp only [seqO_nx, seqO_rt, seqO_exc, ev_seqM, ev_skipM, ev_cst, ev_vr, ev_aNil, ev_noO, ev_tYesM, List.getElem?_cons_zero, List.getElem?_cons_succ, List.set, Res.bind_ok, bindS_ok, Res.bind_exc, bindS_exc, ap2_dat, ap1_dat, apN1, apN2, ofO_some, peek_dat, truD_bool, Bool.not_true, Bool.not_false, ixD_tup, ixD_lst, atI_0, atI_1, toDs_nil, toD_dat, ek_op2, k_op2, k_op2b, ek_op1, k_op1, ek_isiM, ek_opN, k_opN, ek_aCons, k_cons, k_cons2, ek_tupM, ek_lstD, k_tup, k_tup2_0, k_tup2_1, k_tup2_2, k_tup2_3, k_tup2_4, k_tup2_5, k_tup2_6, k_tup2_7, k_tup2_8, k_tup2_9, k_tup2_10, k_tup2_11, k_tup2_12, ek_toDs, k_toDs, k_toDs2, ek_callM, ek_ifE, k_ifE_t, k_ifE_f, truO_some, ofB_some, ek_truM, k_tru, ek_andT, k_andT_t, k_andT_f, ek_orT, k_orT_t, k_orT_f, ek_notT, k_notT, ek_andE, k_andE_t, k_andE_f, ek_orE, k_orE_t, k_orE_f, ek_notE, k_notE, ek_setM, k_set, ek_parM, k_par, ek_ifS, k_if_t, k_if_f, ek_retM, k_ret, ek_dropM, k_drop, ek_forM, k_for, ek_itM, k_it_l, k_it_t, ek_zipM, k_zip, k_zip2_l, k_zip2_t, ek_someO, k_some, ek_sliceM, k_sl, k_sl2, k_sl3, apS_dat, ek_parGM, k_pg2, k_pg3, ek_parM3, k_p3, ek_lstC, k_lst0, e1, e3, isiD_tt, lenD_tup, e4, e2]
theorem spread_list {ds : List D} (st : Store) : d_spread [.dat (.tuple [.int 2, .int 2, .int 2]), .dat (.list ds)] st = .exc 1 none st := by
  refine call_exc (s' := [some (.dat (.tuple [.int 2, .int 2, .int 2])), some (.dat (.list ds)), none, none, none, none, none, none, none, none]) rfl ?_
  have e1 := lv222 st
  have e2 := check_bad st
  have e3 := check_run st
  show b_spread [some (.dat (.tuple [.int 2, .int 2, .int 2])), some (.dat (.list ds)), none, none, none, none, none, none, none, none] st = _
  rw [b_spread]
  simp only [seqO_nx, seqO_rt, seqO_exc, ev_seqM, ev_skipM, ev_cst, ev_vr, ev_aNil, ev_noO, ev_tYesM, List.getElem?_cons_zero, List.getElem?_cons_succ, List.set, Res.bind_ok, bindS_ok, Res.bind_exc, bindS_exc, ap2_dat, ap1_dat, apN1, apN2, ofO_some, peek_dat, truD_bool, Bool.not_true, Bool.not_false, ixD_tup, ixD_lst, atI_0, atI_1, toDs_nil, toD_dat, ek_op2, k_op2, k_op2b, ek_op1, k_op1, ek_isiM, ek_opN, k_opN, ek_aCons, k_cons, k_cons2, ek_tupM, ek_lstD, k_tup, k_tup2_0, k_tup2_1, k_tup2_2, k_tup2_3, k_tup2_4, k_tup2_5, k_tup2_6, k_tup2_7, k_tup2_8, k_tup2_9, k_tup2_10, k_tup2_11, k_tup2_12, ek_toDs, k_toDs, k_toDs2, ek_callM, ek_ifE, k_ifE_t, k_ifE_f, truO_some, ofB_some, ek_truM, k_tru, ek_andT, k_andT_t, k_andT_f, ek_orT, k_orT_t, k_orT_f, ek_notT, k_notT, ek_andE, k_andE_t, k_andE_f, ek_orE, k_orE_t, k_orE_f, ek_notE, k_notE, ek_setM, k_set, ek_parM, k_par, ek_ifS, k_if_t, k_if_f, ek_retM, k_ret, ek_dropM, k_drop, ek_forM, k_for, ek_itM, k_it_l, k_it_t, ek_zipM, k_zip, k_zip2_l, k_zip2_t, ek_someO, k_some, ek_sliceM, k_sl, k_sl2, k_sl3, apS_dat, ek_parGM, k_pg2, k_pg3, ek_parM3, k_p3, ek_lstC, k_lst0, e1, e3, isiD_tl, e2]
theorem spread_far (st : Store) : d_spread [.dat (.tuple [.int 2, .int 2, .int 2]), .dat (.tuple [colD plainC, colD farC])] st = .exc 1 none st := by
  refine call_exc (s' := [some (.dat (.tuple [.int 2, .int 2, .int 2])), some (.dat (.tuple [colD plainC, colD farC])), none, none, none, none, none, none, none, none]) rfl ?_
  have e1 := lv222 st
  have e2 := check_bad st
  have e3 := check_run st
  have e4 : gtD (.int (([colD plainC, colD farC] : List D).length : Nat)) (.int 0) = some (.bool true) := rfl
  have e5 : opN allD (aCons (lcM (itM (vr 1)) (bName 2) [2] tYesM (callM d_is_plain (aCons (vr 2) aNil))) aNil) [some (.dat (.tuple [.int 2, .int 2, .int 2])), some (.dat (.tuple [colD plainC, colD farC])), none, none, none, none, none, none, none, none] st = .ok (.dat (.bool ([plainC, farC].all fun c => c.all fun q => decide (0 ≤ q) && decide (q ≤ 1)))) st :=
    allLc (lcM_mapN (enc := colD) (l := [plainC, farC]) (fun c => .bool (c.all fun q => decide (0 ≤ q) && decide (q ≤ 1))) rfl (slN _ (by decide)) fun c hc => by
      have : c.length = 3 := by
        have : c = plainC ∨ c = farC := by simpa using hc
        rcases this with rfl | rfl <;> rfl
      have := plain_gen this st
      simp only [seqO_nx, seqO_rt, seqO_exc, ev_seqM, ev_skipM, ev_cst, ev_vr, ev_aNil, ev_noO, ev_tYesM, List.getElem?_cons_zero, List.getElem?_cons_succ, List.set, Res.bind_ok, bindS_ok, Res.bind_exc, bindS_exc, ap2_dat, ap1_dat, apN1, apN2, ofO_some, peek_dat, truD_bool, Bool.not_true, Bool.not_false, ixD_tup, ixD_lst, atI_0, atI_1, toDs_nil, toD_dat, ek_op2, k_op2, k_op2b, ek_op1, k_op1, ek_isiM, ek_opN, k_opN, ek_aCons, k_cons, k_cons2, ek_tupM, ek_lstD, k_tup, k_tup2_0, k_tup2_1, k_tup2_2, k_tup2_3, k_tup2_4, k_tup2_5, k_tup2_6, k_tup2_7, k_tup2_8, k_tup2_9, k_tup2_10, k_tup2_11, k_tup2_12, ek_toDs, k_toDs, k_toDs2, ek_callM, ek_ifE, k_ifE_t, k_ifE_f, truO_some, ofB_some, ek_truM, k_tru, ek_andT, k_andT_t, k_andT_f, ek_orT, k_orT_t, k_orT_f, ek_notT, k_notT, ek_andE, k_andE_t, k_andE_f, ek_orE, k_orE_t, k_orE_f, ek_notE, k_notE, ek_setM, k_set, ek_parM, k_par, ek_ifS, k_if_t, k_if_f, ek_retM, k_ret, ek_dropM, k_drop, ek_forM, k_for, ek_itM, k_it_l, k_it_t, ek_zipM, k_zip, k_zip2_l, k_zip2_t, ek_someO, k_some, ek_sliceM, k_sl, k_sl2, k_sl3, apS_dat, ek_parGM, k_pg2, k_pg3, ek_parM3, k_p3, ek_lstC, k_lst0, wipeS, this])
  have e6 : ([plainC, farC].all fun c => c.all fun q => decide (0 ≤ q) && decide (q ≤ 1)) = false := by
    unfold plainC farC
    decide +kernel
  rw [e6] at e5
  show b_spread [some (.dat (.tuple [.int 2, .int 2, .int 2])), some (.dat (.tuple [colD plainC, colD farC])), none, none, none, none, none, none, none, none] st = _
  rw [b_spread]
  simp only [seqO_nx, seqO_rt, seqO_exc, ev_seqM, ev_skipM, ev_cst, ev_vr, ev_aNil, ev_noO, ev_tYesM, List.getElem?_cons_zero, List.getElem?_cons_succ, List.set, Res.bind_ok, bindS_ok, Res.bind_exc, bindS_exc, ap2_dat, ap1_dat, apN1, apN2, ofO_some, peek_dat, truD_bool, Bool.not_true, Bool.not_false, ixD_tup, ixD_lst, atI_0, atI_1, toDs_nil, toD_dat, ek_op2, k_op2, k_op2b, ek_op1, k_op1, ek_isiM, ek_opN, k_opN, ek_aCons, k_cons, k_cons2, ek_tupM, ek_lstD, k_tup, k_tup2_0, k_tup2_1, k_tup2_2, k_tup2_3, k_tup2_4, k_tup2_5, k_tup2_6, k_tup2_7, k_tup2_8, k_tup2_9, k_tup2_10, k_tup2_11, k_tup2_12, ek_toDs, k_toDs, k_toDs2, ek_callM, ek_ifE, k_ifE_t, k_ifE_f, truO_some, ofB_some, ek_truM, k_tru, ek_andT, k_andT_t, k_andT_f, ek_orT, k_orT_t, k_orT_f, ek_notT, k_notT, ek_andE, k_andE_t, k_andE_f, ek_orE, k_orE_t, k_orE_f, ek_notE, k_notE, ek_setM, k_set, ek_parM, k_par, ek_ifS, k_if_t, k_if_f, ek_retM, k_ret, ek_dropM, k_drop, ek_forM, k_for, ek_itM, k_it_l, k_it_t, ek_zipM, k_zip, k_zip2_l, k_zip2_t, ek_someO, k_some, ek_sliceM, k_sl, k_sl2, k_sl3, apS_dat, ek_parGM, k_pg2, k_pg3, ek_parM3, k_p3, ek_lstC, k_lst0, e1, e3, isiD_tt, lenD_tup, e4, ↓e5, e2]
end K27

set_option Elab.async false
set_option linter.all false
set_option maxRecDepth 100000
set_option maxHeartbeats 4000000
set_option exponentiation.threshold 5000
/-! K27Lw: what the law tells of refusals (printed by genlw.py). -/
namespace K27
open PySem L2 Pd
theorem mulD_list (xs : List D) (n : Nat) (h : n < 1000) (hl : xs.length * n ≤ 1000) : mulD (.list xs) (.int n) = some (.list (List.replicate n xs).flatten) := by
  have e63 : (2 : Int) ^ 63 = 9223372036854775808 := by decide
  have q0 : mulD (.list xs) (.int (n : Int)) = if (-(2 ^ 63) ≤ (n : Int) ∧ (n : Int) < 2 ^ 63) ∧ xs.length * (n : Int).toNat ≤ sizeLine then some (.list (List.replicate (n : Int).toNat xs).flatten) else none := rfl
  have q1 : -(2 ^ 63) ≤ (n : Int) ∧ (n : Int) < 2 ^ 63 := by rw [e63]; omega
  have q2 : xs.length * (n : Int).toNat ≤ sizeLine := by rw [Int.toNat_natCast]; exact slN _ (by omega)
  rw [q0, if_pos ⟨q1, q2⟩, Int.toNat_natCast]
theorem addL (xs ys : List D) (h : xs.length + ys.length ≤ 1000) : addD (.list xs) (.list ys) = some (.list (xs ++ ys)) := by
  rw [addD_lst, if_pos (slN _ (by omega))]
theorem cut_plain : sliceD (colD plainC) none (some 2) = some (.tuple [.tuple [.int 1, .int 2], .tuple [.int 0, .int 1]]) := by
  rw [plain_eq, sliceD_tup]
  rfl
theorem badE_run (s : Slots) (st : Store) : (lstD (aCons (cst .none) (aCons (tupM aNil) (aCons (tupM (aCons (tupM aNil) aNil)) (aCons (tupM (aCons (tupM (aCons (cst (.int 0)) (aCons (cst (.int 1)) aNil))) (aCons (tupM (aCons (cst (.int 2)) aNil)) aNil))) (aCons (tupM (aCons (tupM (aCons (cst (.int 1)) (aCons (cst (.int 2)) aNil))) aNil)) (aCons (tupM (aCons (tupM (aCons (cst (.int 0)) (aCons (cst (.int 0)) aNil))) aNil)) (aCons (lstD (aCons (lstD (aCons (cst (.int 0)) aNil)) aNil)) (aCons (tupM (aCons (tupM (aCons (cst (.int 0)) aNil)) (aCons (lstD (aCons (cst (.int 1)) aNil)) aNil))) (aCons (tupM (aCons (tupM (aCons (cst (.int 0)) (aCons (cst .none) aNil))) aNil)) (aCons (tupM (aCons (tupM (aCons (cst (.bool false)) aNil)) aNil)) (aCons (tupM (aCons (tupM (aCons (cst (.int 0)) (aCons (cst (.int 1)) (aCons (cst (.int 3)) aNil)))) aNil)) aNil)))))))))))) s st = .ok (.dat (.list badL)) st := by
  simp only [seqO_nx, seqO_rt, seqO_exc, ev_seqM, ev_skipM, ev_cst, ev_vr, ev_aNil, ev_noO, ev_tYesM, List.getElem?_cons_zero, List.getElem?_cons_succ, List.set, Res.bind_ok, bindS_ok, Res.bind_exc, bindS_exc, ap2_dat, ap1_dat, apN1, apN2, ofO_some, peek_dat, truD_bool, Bool.not_true, Bool.not_false, ixD_tup, ixD_lst, atI_0, atI_1, toDs_nil, toD_dat, ek_op2, k_op2, k_op2b, ek_op1, k_op1, ek_isiM, ek_opN, k_opN, ek_aCons, k_cons, k_cons2, ek_tupM, ek_lstD, k_tup, k_tup2_0, k_tup2_1, k_tup2_2, k_tup2_3, k_tup2_4, k_tup2_5, k_tup2_6, k_tup2_7, k_tup2_8, k_tup2_9, k_tup2_10, k_tup2_11, k_tup2_12, ek_toDs, k_toDs, k_toDs2, ek_callM, ek_ifE, k_ifE_t, k_ifE_f, truO_some, ofB_some, ek_truM, k_tru, ek_andT, k_andT_t, k_andT_f, ek_orT, k_orT_t, k_orT_f, ek_notT, k_notT, ek_andE, k_andE_t, k_andE_f, ek_orE, k_orE_t, k_orE_f, ek_notE, k_notE, ek_setM, k_set, ek_parM, k_par, ek_ifS, k_if_t, k_if_f, ek_retM, k_ret, ek_dropM, k_drop, ek_forM, k_for, ek_itM, k_it_l, k_it_t, ek_zipM, k_zip, k_zip2_l, k_zip2_t, ek_someO, k_some, ek_sliceM, k_sl, k_sl2, k_sl3, apS_dat, ek_parGM, k_pg2, k_pg3, ek_parM3, k_p3, ek_lstC, k_lst0]
  rfl
theorem refused_run (xs ys : List Int) : ∃ ys', d_u_law_are_refused [.cel 1] (S2 xs ys) = .ok (.dat (.bool true)) (S2 xs ys') := by
  obtain ⟨bd, ys1, e1, h1⟩ := pick_run xs ys (ds := badL) (by unfold badL; simp)
  obtain ⟨od, ys2, e2, h2⟩ := pick_run xs ys1 (ds := oddL) (by unfold oddL; simp)
  obtain ⟨rd, ys3, e3, h3⟩ := pick_run xs ys2 (ds := rowsBad) (by unfold rowsBad; simp)
  obtain ⟨ld, ys4, e4, h4⟩ := pick_run xs ys3 (ds := lvBad) (by unfold lvBad; simp)
  unfold oddL at e2
  unfold rowsBad at e3
  unfold lvBad at e4
  have t1 : ∀ st, d_u_law_told [.dat (.int 1), .dat rd, .dat .none] st = .ok (.dat refD) st := fun st => ref1 (mean_all rd h3 st)
  have t2 : ∀ st, d_u_law_told [.dat (.int 2), .dat bd, .dat (colD plainC)] st = .ok (.dat refD) st := fun st => ref2 (dots_bad1 (bad_no bd h1) st)
  have t3 : ∀ st, d_u_law_told [.dat (.int 2), .dat (.tuple [.tuple [.int 0]]), .dat od] st = .ok (.dat refD) st := fun st => ref2 (dots_bad2 one_screen (odd_no od h2) st)
  have t4 : ∀ st, d_u_law_told [.dat (.int 3), .dat ld, .dat (.tuple [colD plainC])] st = .ok (.dat refD) st := fun st => ref3 (spread_bad1 (lv_no ld h4) st)
  have t5 : ∀ st, d_u_law_told [.dat (.int 3), .dat (.tuple [.int 2, .int 2, .int 2]), .dat (.tuple [])] st = .ok (.dat refD) st := fun st => ref3 (spread_empty st)
  have t6 : ∀ st, d_u_law_told [.dat (.int 3), .dat (.tuple [.int 2, .int 2, .int 2]), .dat (.list [colD plainC])] st = .ok (.dat refD) st := fun st => ref3 (spread_list st)
  have t7 : ∀ st, d_u_law_told [.dat (.int 3), .dat (.tuple [.int 2, .int 2, .int 2]), .dat (.tuple [colD plainC, colD farC])] st = .ok (.dat refD) st := fun st => ref3 (spread_far st)
  have l1 : ∀ st, (lcM (itM (vr 1)) (bName 9) [9] tYesM (callM d_is_screen (aCons (vr 9) aNil))) [some (.cel 1), some (.dat (.list badL)), none, none, none, none, none, none, none, none] st = .ok (.dat (.list (List.replicate 11 [PyData.bool false]).flatten)) st := fun st =>
    lcM_mapN (enc := id) (l := badL) (fun _ => .bool false) (by rw [List.map_id]; rfl) (slN _ (by unfold badL; decide)) fun d hd => by
      have := bad_no d hd st
      simp only [seqO_nx, seqO_rt, seqO_exc, ev_seqM, ev_skipM, ev_cst, ev_vr, ev_aNil, ev_noO, ev_tYesM, List.getElem?_cons_zero, List.getElem?_cons_succ, List.set, Res.bind_ok, bindS_ok, Res.bind_exc, bindS_exc, ap2_dat, ap1_dat, apN1, apN2, ofO_some, peek_dat, truD_bool, Bool.not_true, Bool.not_false, ixD_tup, ixD_lst, atI_0, atI_1, toDs_nil, toD_dat, ek_op2, k_op2, k_op2b, ek_op1, k_op1, ek_isiM, ek_opN, k_opN, ek_aCons, k_cons, k_cons2, ek_tupM, ek_lstD, k_tup, k_tup2_0, k_tup2_1, k_tup2_2, k_tup2_3, k_tup2_4, k_tup2_5, k_tup2_6, k_tup2_7, k_tup2_8, k_tup2_9, k_tup2_10, k_tup2_11, k_tup2_12, ek_toDs, k_toDs, k_toDs2, ek_callM, ek_ifE, k_ifE_t, k_ifE_f, truO_some, ofB_some, ek_truM, k_tru, ek_andT, k_andT_t, k_andT_f, ek_orT, k_orT_t, k_orT_f, ek_notT, k_notT, ek_andE, k_andE_t, k_andE_f, ek_orE, k_orE_t, k_orE_f, ek_notE, k_notE, ek_setM, k_set, ek_parM, k_par, ek_ifS, k_if_t, k_if_f, ek_retM, k_ret, ek_dropM, k_drop, ek_forM, k_for, ek_itM, k_it_l, k_it_t, ek_zipM, k_zip, k_zip2_l, k_zip2_t, ek_someO, k_some, ek_sliceM, k_sl, k_sl2, k_sl3, apS_dat, ek_parGM, k_pg2, k_pg3, ek_parM3, k_p3, ek_lstC, k_lst0, wipeS, id, this]
  have m1 := mulD_list [.bool false] 11 (by decide) (by decide)
  have m1' : mulD (.list [.bool false]) (.int (badL.length : Nat)) = some (.list (List.replicate 11 [PyData.bool false]).flatten) := m1
  have n1 : neD (.list (List.replicate 11 [PyData.bool false]).flatten) (.list (List.replicate 11 [PyData.bool false]).flatten) = some (.bool false) := neD_refl (by decide +kernel)
  have os := one_screen
  have nb : notBD (.bool true) (.bool true) = some (.bool false) := rfl
  have l2 : ∀ st, (lcM (itM (lstD (aCons (cst .none) (aCons (op1 negD (cst (.int 1))) (aCons (cst (.int 6)) (aCons (cst (.bool true)) aNil)))))) (bName 8) [8] tYesM (callM d_u_law_told (aCons (cst (.int 0)) (aCons (vr 8) (aCons (cst .none) aNil))))) [some (.cel 1), some (.dat (.list badL)), some (.dat rd), none, some (.dat (colD plainC)), some (.dat (colD farC)), some (.dat bd), some (.dat od), none, none] st = .ok (.dat (.list [refD, refD, refD, refD])) st := fun st =>
    lcM_mapS (enc := id) (l := grownBad) (fun _ => refD) (st1 := st) (by
      rw [List.map_id]
      simp only [seqO_nx, seqO_rt, seqO_exc, ev_seqM, ev_skipM, ev_cst, ev_vr, ev_aNil, ev_noO, ev_tYesM, List.getElem?_cons_zero, List.getElem?_cons_succ, List.set, Res.bind_ok, bindS_ok, Res.bind_exc, bindS_exc, ap2_dat, ap1_dat, apN1, apN2, ofO_some, peek_dat, truD_bool, Bool.not_true, Bool.not_false, ixD_tup, ixD_lst, atI_0, atI_1, toDs_nil, toD_dat, ek_op2, k_op2, k_op2b, ek_op1, k_op1, ek_isiM, ek_opN, k_opN, ek_aCons, k_cons, k_cons2, ek_tupM, ek_lstD, k_tup, k_tup2_0, k_tup2_1, k_tup2_2, k_tup2_3, k_tup2_4, k_tup2_5, k_tup2_6, k_tup2_7, k_tup2_8, k_tup2_9, k_tup2_10, k_tup2_11, k_tup2_12, ek_toDs, k_toDs, k_toDs2, ek_callM, ek_ifE, k_ifE_t, k_ifE_f, truO_some, ofB_some, ek_truM, k_tru, ek_andT, k_andT_t, k_andT_f, ek_orT, k_orT_t, k_orT_f, ek_notT, k_notT, ek_andE, k_andE_t, k_andE_f, ek_orE, k_orE_t, k_orE_f, ek_notE, k_notE, ek_setM, k_set, ek_parM, k_par, ek_ifS, k_if_t, k_if_f, ek_retM, k_ret, ek_dropM, k_drop, ek_forM, k_for, ek_itM, k_it_l, k_it_t, ek_zipM, k_zip, k_zip2_l, k_zip2_t, ek_someO, k_some, ek_sliceM, k_sl, k_sl2, k_sl3, apS_dat, ek_parGM, k_pg2, k_pg3, ek_parM3, k_p3, ek_lstC, k_lst0, negD_int]
      rfl) (slN _ (by unfold grownBad; decide)) fun d hd => by
      have := ref0 (b := .none) (grown_all d hd st)
      simp only [seqO_nx, seqO_rt, seqO_exc, ev_seqM, ev_skipM, ev_cst, ev_vr, ev_aNil, ev_noO, ev_tYesM, List.getElem?_cons_zero, List.getElem?_cons_succ, List.set, Res.bind_ok, bindS_ok, Res.bind_exc, bindS_exc, ap2_dat, ap1_dat, apN1, apN2, ofO_some, peek_dat, truD_bool, Bool.not_true, Bool.not_false, ixD_tup, ixD_lst, atI_0, atI_1, toDs_nil, toD_dat, ek_op2, k_op2, k_op2b, ek_op1, k_op1, ek_isiM, ek_opN, k_opN, ek_aCons, k_cons, k_cons2, ek_tupM, ek_lstD, k_tup, k_tup2_0, k_tup2_1, k_tup2_2, k_tup2_3, k_tup2_4, k_tup2_5, k_tup2_6, k_tup2_7, k_tup2_8, k_tup2_9, k_tup2_10, k_tup2_11, k_tup2_12, ek_toDs, k_toDs, k_toDs2, ek_callM, ek_ifE, k_ifE_t, k_ifE_f, truO_some, ofB_some, ek_truM, k_tru, ek_andT, k_andT_t, k_andT_f, ek_orT, k_orT_t, k_orT_f, ek_notT, k_notT, ek_andE, k_andE_t, k_andE_f, ek_orE, k_orE_t, k_orE_f, ek_notE, k_notE, ek_setM, k_set, ek_parM, k_par, ek_ifS, k_if_t, k_if_f, ek_retM, k_ret, ek_dropM, k_drop, ek_forM, k_for, ek_itM, k_it_l, k_it_t, ek_zipM, k_zip, k_zip2_l, k_zip2_t, ek_someO, k_some, ek_sliceM, k_sl, k_sl2, k_sl3, apS_dat, ek_parGM, k_pg2, k_pg3, ek_parM3, k_p3, ek_lstC, k_lst0, wipeS, id, this]
  have a1 : addD (.list [refD, refD, refD, refD]) (.list [refD, refD, refD]) = some (.list [refD, refD, refD, refD, refD, refD, refD]) := addL _ _ (by decide)
  have a2 : addD (.list [refD, refD, refD, refD, refD, refD, refD]) (.list [refD]) = some (.list [refD, refD, refD, refD, refD, refD, refD, refD]) := addL _ _ (by decide)
  have a3 : addD (.list [refD, refD, refD, refD, refD, refD, refD, refD]) (.list [refD, refD, refD]) = some (.list [refD, refD, refD, refD, refD, refD, refD, refD, refD, refD, refD]) := addL _ _ (by decide)
  have m2 : mulD (.list [.tuple [.str "refused", .str "not right"]]) (.int 11) = some (.list [refD, refD, refD, refD, refD, refD, refD, refD, refD, refD, refD]) := mulD_list [refD] 11 (by decide) (by decide)
  have q1 : eqD (.list [refD, refD, refD, refD, refD, refD, refD, refD, refD, refD, refD]) (.list [refD, refD, refD, refD, refD, refD, refD, refD, refD, refD, refD]) = some (.bool true) := eqD_refl (by decide +kernel)
  refine ⟨ys4, call_S2 rfl ?_⟩
  show b_u_law_are_refused [some (.cel 1), none, none, none, none, none, none, none, none, none] (S2 xs ys) = _
  rw [b_u_law_are_refused]
  simp only [seqO_nx, seqO_rt, seqO_exc, ev_seqM, ev_skipM, ev_cst, ev_vr, ev_aNil, ev_noO, ev_tYesM, List.getElem?_cons_zero, List.getElem?_cons_succ, List.set, Res.bind_ok, bindS_ok, Res.bind_exc, bindS_exc, ap2_dat, ap1_dat, apN1, apN2, ofO_some, peek_dat, truD_bool, Bool.not_true, Bool.not_false, ixD_tup, ixD_lst, atI_0, atI_1, toDs_nil, toD_dat, ek_op2, k_op2, k_op2b, ek_op1, k_op1, ek_isiM, ek_opN, k_opN, ek_aCons, k_cons, k_cons2, ek_tupM, ek_lstD, k_tup, k_tup2_0, k_tup2_1, k_tup2_2, k_tup2_3, k_tup2_4, k_tup2_5, k_tup2_6, k_tup2_7, k_tup2_8, k_tup2_9, k_tup2_10, k_tup2_11, k_tup2_12, ek_toDs, k_toDs, k_toDs2, ek_callM, ek_ifE, k_ifE_t, k_ifE_f, truO_some, ofB_some, ek_truM, k_tru, ek_andT, k_andT_t, k_andT_f, ek_orT, k_orT_t, k_orT_f, ek_notT, k_notT, ek_andE, k_andE_t, k_andE_f, ek_orE, k_orE_t, k_orE_f, ek_notE, k_notE, ek_setM, k_set, ek_parM, k_par, ek_ifS, k_if_t, k_if_f, ek_retM, k_ret, ek_dropM, k_drop, ek_forM, k_for, ek_itM, k_it_l, k_it_t, ek_zipM, k_zip, k_zip2_l, k_zip2_t, ek_someO, k_some, ek_sliceM, k_sl, k_sl2, k_sl3, apS_dat, ek_parGM, k_pg2, k_pg3, ek_parM3, k_p3, ek_lstC, k_lst0, ↓badE_run, ↓l1, lenD_lst, m1', n1, os, nb, ← plain_eq, ← far_eq', e1, cut_plain, e2, e3, e4, ↓l2, t1, t2, t3, t4, t5, t6, t7, a1, a2, a3, m2, q1]
end K27

set_option Elab.async false
set_option linter.all false
set_option maxRecDepth 100000
set_option maxHeartbeats 4000000
set_option exponentiation.threshold 5000
/-! K27Zw: the law. -/
namespace K27
open PySem L2 Pd
theorem cutL_tom1 {α : Type} (xs : List α) : cutL xs none (some (-1)) = xs.dropLast := by
  unfold cutL
  rw [HT.sIx_none]
  have e : HT.sIx xs.length xs.length (some (-1)) = xs.length - 1 := by
    show (if (-1 : Int) < 0 then ((-1 : Int) + (xs.length : Int)).toNat else min (-1 : Int).toNat xs.length) = _
    rw [if_pos (by decide)]
    omega
  rw [e, List.dropLast_eq_take]
  rfl
noncomputable abbrev bent_e : EM := op2 addD (sliceM (vr 4) noO (someO (op1 negD (cst (.int 1))))) (tupM (aCons (op2 addD (sliceM (op2 ixD (vr 4) (op1 negD (cst (.int 1)))) noO (someO (op1 negD (cst (.int 1))))) (tupM (aCons (op2 addD (op2 ixD (op2 ixD (vr 4) (op1 negD (cst (.int 1)))) (op1 negD (cst (.int 1)))) (cst (.int 1))) aNil))) aNil))
theorem bent_run {rows : List (List Nat)} {w : Nat} (h : Scr rows w) (s : Slots) (st : Store) (h4 : s[4]? = some (some (.dat (scrD rows)))) :
    ∃ b : D, bent_e s st = .ok (.dat b) st ∧ ∀ st, d_is_screen [.dat b] st = .ok (.dat (.bool false)) st := by
  obtain ⟨init, rl, rfl⟩ : ∃ init rl, rows = init ++ [rl] := by
    rcases List.eq_nil_or_concat rows with k | ⟨l, v, k⟩
    · have := h.h0; rw [k] at this; simp at this
    · exact ⟨l, v, by rw [k, List.concat_eq_append]⟩
  have hw := h.wid rl (by simp)
  have w0 := h.w0
  have w5 := h.w5
  have hr4 := h.h4
  obtain ⟨ri, p, rfl⟩ : ∃ ri p, rl = ri ++ [p] := by
    rcases List.eq_nil_or_concat rl with k | ⟨l, v, k⟩
    · rw [k] at hw; simp at hw; omega
    · exact ⟨l, v, by rw [k, List.concat_eq_append]⟩
  have hv : vr 4 s st = .ok (.dat (scrD (init ++ [ri ++ [p]]))) st := by rw [ev_vr, h4]
  have li : init.length ≤ 3 := by simp at hr4; omega
  have lr : ri.length ≤ 4 := by simp at hw; omega
  have x1 : ((init ++ [ri ++ [p]]).map rowD)[((init ++ [ri ++ [p]]).map rowD).length - 1]? = some (rowD (ri ++ [p])) := by simp
  have x2 : ((ri ++ [p]).map nI)[((ri ++ [p]).map nI).length - 1]? = some (nI p) := by simp
  have d1 : ((init ++ [ri ++ [p]]).map rowD).dropLast = init.map rowD := by simp
  have d2 : ((ri ++ [p]).map nI).dropLast = ri.map nI := by simp
  have c1 : (init.map rowD).length + [PyData.tuple (ri.map nI ++ [.int ((p : Int) + 1)])].length ≤ sizeLine := by
    rw [List.length_map, List.length_singleton]
    exact slN _ (by omega)
  have c2 : (ri.map nI).length + [PyData.int ((p : Int) + 1)].length ≤ sizeLine := by
    rw [List.length_map, List.length_singleton]
    exact slN _ (by omega)
  have a1 : addD (.tuple (ri.map nI)) (.tuple [.int ((p : Int) + 1)]) = some (.tuple (ri.map nI ++ [.int ((p : Int) + 1)])) := by rw [addD_tup, if_pos c2]
  have a2 : addD (.tuple (init.map rowD)) (.tuple [.tuple (ri.map nI ++ [.int ((p : Int) + 1)])]) = some (.tuple (init.map rowD ++ [.tuple (ri.map nI ++ [.int ((p : Int) + 1)])])) := by rw [addD_tup, if_pos c1]
  have s1 : sliceD (scrD (init ++ [ri ++ [p]])) none (some (-1)) = some (.tuple (init.map rowD)) := by
    rw [sliceD_tup, cutL_tom1, d1]
  have s2 : sliceD (rowD (ri ++ [p])) none (some (-1)) = some (.tuple (ri.map nI)) := by
    rw [sliceD_tup, cutL_tom1, d2]
  have i1 : ixD (scrD (init ++ [ri ++ [p]])) (.int (-1)) = some (rowD (ri ++ [p])) := by
    rw [ixD_tup, Pd.atI_last, x1]
  have i2 : ixD (rowD (ri ++ [p])) (.int (-1)) = some (nI p) := by
    rw [ixD_tup, Pd.atI_last, x2]
  have e63 : (-1 : Int) = -1 := rfl
  refine ⟨scrD (init ++ [ri ++ [p + 1]]), ?_, fun st => ?_⟩
  · have hs : scrD (init ++ [ri ++ [p + 1]]) = .tuple (init.map rowD ++ [.tuple (ri.map nI ++ [.int ((p : Int) + 1)])]) := by
      unfold scrD
      rw [List.map_append]
      unfold rowD
      rw [List.map_singleton, List.map_append]
      rfl
    rw [hs]
    have y1 : op2 ixD (vr 4) (op1 negD (cst (.int 1))) s st = .ok (.dat (rowD (ri ++ [p]))) st := by
      rw [ev_op2, hv, Res.bind_ok, ek_op1, ev_cst, Res.bind_ok, k_op1, ap1_dat, negD_int, ofO_some, Res.bind_ok, ap2_dat, i1, ofO_some]
    have y2 : sliceM (vr 4) noO (someO (op1 negD (cst (.int 1)))) s st = .ok (.dat (.tuple (init.map rowD))) st := by
      rw [ek_sliceM, hv, Res.bind_ok, k_sl, ev_noO, Res.bind_ok, k_sl2, ek_someO, ek_op1, ev_cst, Res.bind_ok, k_op1, ap1_dat, negD_int, ofO_some, Res.bind_ok, k_some, Res.bind_ok, k_sl3, apS_dat, s1, ofO_some]
    have y3 : sliceM (op2 ixD (vr 4) (op1 negD (cst (.int 1)))) noO (someO (op1 negD (cst (.int 1)))) s st = .ok (.dat (.tuple (ri.map nI))) st := by
      rw [ek_sliceM, y1, Res.bind_ok, k_sl, ev_noO, Res.bind_ok, k_sl2, ek_someO, ek_op1, ev_cst, Res.bind_ok, k_op1, ap1_dat, negD_int, ofO_some, Res.bind_ok, k_some, Res.bind_ok, k_sl3, apS_dat, s2, ofO_some]
    have y4 : op2 ixD (op2 ixD (vr 4) (op1 negD (cst (.int 1)))) (op1 negD (cst (.int 1))) s st = .ok (.dat (nI p)) st := by
      rw [ev_op2, y1, Res.bind_ok, ek_op1, ev_cst, Res.bind_ok, k_op1, ap1_dat, negD_int, ofO_some, Res.bind_ok, ap2_dat, i2, ofO_some]
    rw [bent_e]
    simp only [seqO_nx, seqO_rt, seqO_exc, ev_seqM, ev_skipM, ev_cst, ev_vr, ev_aNil, ev_noO, ev_tYesM, List.getElem?_cons_zero, List.getElem?_cons_succ, List.set, Res.bind_ok, bindS_ok, Res.bind_exc, bindS_exc, ap2_dat, ap1_dat, apN1, apN2, ofO_some, peek_dat, truD_bool, Bool.not_true, Bool.not_false, ixD_tup, ixD_lst, atI_0, atI_1, toDs_nil, toD_dat, ek_op2, k_op2, k_op2b, ek_op1, k_op1, ek_isiM, ek_opN, k_opN, ek_aCons, k_cons, k_cons2, ek_tupM, ek_lstD, k_tup, k_tup2_0, k_tup2_1, k_tup2_2, k_tup2_3, k_tup2_4, k_tup2_5, k_tup2_6, k_tup2_7, k_tup2_8, k_tup2_9, k_tup2_10, k_tup2_11, k_tup2_12, ek_toDs, k_toDs, k_toDs2, ek_callM, ek_ifE, k_ifE_t, k_ifE_f, truO_some, ofB_some, ek_truM, k_tru, ek_andT, k_andT_t, k_andT_f, ek_orT, k_orT_t, k_orT_f, ek_notT, k_notT, ek_andE, k_andE_t, k_andE_f, ek_orE, k_orE_t, k_orE_f, ek_notE, k_notE, ek_setM, k_set, ek_parM, k_par, ek_ifS, k_if_t, k_if_f, ek_retM, k_ret, ek_dropM, k_drop, ek_forM, k_for, ek_itM, k_it_l, k_it_t, ek_zipM, k_zip, k_zip2_l, k_zip2_t, ek_someO, k_some, ek_sliceM, k_sl, k_sl2, k_sl3, apS_dat, ek_parGM, k_pg2, k_pg3, ek_parM3, k_p3, ek_lstC, k_lst0, ↓y2, ↓y3, ↓y4, nI, addD_int, a1, a2]
  · have hf : (init ++ [ri ++ [p + 1]]).flatten.sum = (init ++ [ri ++ [p]]).flatten.sum + 1 := by
      rw [List.flatten_append, List.flatten_append, List.sum_append, List.sum_append]
      simp
      omega
    have hl : (init ++ [ri ++ [p + 1]]).flatten.length = (init ++ [ri ++ [p]]).flatten.length := by
      rw [List.flatten_append, List.flatten_append, List.length_append, List.length_append]
      simp
    have n20 := h.n20
    have fl := h.flen
    rw [isscreen_run _ (by simp; omega) (by rw [hl]; omega) st, bent_no h.perm hf hl]
theorem grown_same {n : Nat} (hn : n ≤ 5) (st : Store) : d_u_law_grown [.dat (.int n)] st = .ok (.dat (scrD (growN n))) st := by
  have e := lgrown_run hn st
  rw [lgrow_eq n (List.mem_range.mpr (by omega))] at e
  exact e
theorem lay_scr (rows : List (List Nat)) : Lay 2 (scrD rows) := Lay.tupleM fun r _ => Lay.tupleM (enc := nI) fun p _ => Lay.int _
noncomputable abbrev grow_check : SM := (ifS (orT (truM (op2 neD (callM d_u_law_told (aCons (cst (.int 0)) (aCons (vr 2) (aCons (cst .none) aNil)))) (callM d_u_law_grown (aCons (vr 2) aNil)))) (truM (op2 notBD (callM d_is_screen (aCons (callM d_u_law_grown (aCons (vr 2) aNil)) aNil)) (cst (.bool true))))) (retM (cst (.bool false))) skipM)
theorem check_one {n : Nat} (hn : n < 6) (v0 v1 o3 o4 o5 : Option Vl) (st : Store) : grow_check [v0, v1, some (.dat (.int n)), o3, o4, o5] st = .nx [v0, v1, some (.dat (.int n)), o3, o4, o5] st := by
  have e1 := told0 (b := .none) (grown_run (n := n) (by omega) st)
  have e2 := grown_same (n := n) (by omega) st
  have e3 := growN_screen (n := n) (by omega) st
  have n1 := neD_refl ((lay_scr (growN n)).shaped (by decide))
  have nb : notBD (.bool true) (.bool true) = some (.bool false) := rfl
  rw [grow_check]
  simp only [seqO_nx, seqO_rt, seqO_exc, ev_seqM, ev_skipM, ev_cst, ev_vr, ev_aNil, ev_noO, ev_tYesM, List.getElem?_cons_zero, List.getElem?_cons_succ, List.set, Res.bind_ok, bindS_ok, Res.bind_exc, bindS_exc, ap2_dat, ap1_dat, apN1, apN2, ofO_some, peek_dat, truD_bool, Bool.not_true, Bool.not_false, ixD_tup, ixD_lst, atI_0, atI_1, toDs_nil, toD_dat, ek_op2, k_op2, k_op2b, ek_op1, k_op1, ek_isiM, ek_opN, k_opN, ek_aCons, k_cons, k_cons2, ek_tupM, ek_lstD, k_tup, k_tup2_0, k_tup2_1, k_tup2_2, k_tup2_3, k_tup2_4, k_tup2_5, k_tup2_6, k_tup2_7, k_tup2_8, k_tup2_9, k_tup2_10, k_tup2_11, k_tup2_12, ek_toDs, k_toDs, k_toDs2, ek_callM, ek_ifE, k_ifE_t, k_ifE_f, truO_some, ofB_some, ek_truM, k_tru, ek_andT, k_andT_t, k_andT_f, ek_orT, k_orT_t, k_orT_f, ek_notT, k_notT, ek_andE, k_andE_t, k_andE_f, ek_orE, k_orE_t, k_orE_f, ek_notE, k_notE, ek_setM, k_set, ek_parM, k_par, ek_ifS, k_if_t, k_if_f, ek_retM, k_ret, ek_dropM, k_drop, ek_forM, k_for, ek_itM, k_it_l, k_it_t, ek_zipM, k_zip, k_zip2_l, k_zip2_t, ek_someO, k_some, ek_sliceM, k_sl, k_sl2, k_sl3, apS_dat, ek_parGM, k_pg2, k_pg3, ek_parM3, k_p3, ek_lstC, k_lst0, e1, e2, e3, n1, nb]
noncomputable abbrev turn : SM := (seqM (setM 4 (callM d_u_law_pick (aCons (vr 1) (aCons (lstD (aCons (callM d_u_law_drawn_screen (aCons (vr 1) aNil)) (aCons (callM d_u_law_grown (aCons (callM d_u_law_take (aCons (vr 1) (aCons (cst (.int 3)) aNil))) aNil)) aNil))) aNil))))
        (seqM (ifS (orT (truM (op2 notBD (callM d_is_screen (aCons (vr 4) aNil)) (cst (.bool true)))) (orT (notT (truM (callM d_u_law_are_dots_due (aCons (vr 1) (aCons (vr 4) aNil))))) (notT (truM (callM d_u_law_is_spread_due (aCons (vr 1) aNil)))))) (retM (cst (.bool false))) skipM)
        (seqM (setM 5 bent_e)
        (ifS (orT (truM (op2 notBD (callM d_is_screen (aCons (vr 5) aNil)) (cst (.bool false)))) (notT (truM (callM d_u_law_are_refused (aCons (vr 1) aNil))))) (retM (cst (.bool false))) skipM))))
theorem turn_run (scr : Vl) (xs ys : List Int) (o2 o3 o4 o5 : Option Vl) : ∃ ys' o4' o5', turn [some scr, some (.cel 1), o2, o3, o4, o5] (S2 xs ys) = .nx [some scr, some (.cel 1), o2, o3, o4', o5'] (S2 xs ys') := by
  obtain ⟨r1, w1, ys1, e1, h1⟩ := drawn_run xs ys
  obtain ⟨v, ys2, e2, v0, v1⟩ := take_run xs ys1 (b := 3) (by decide)
  obtain ⟨n, rfl⟩ : ∃ n : Nat, v = n := ⟨v.toNat, by omega⟩
  have e3 := grown_same (n := n) (by omega) (S2 xs ys2)
  have h2 := growN_scr (n := n) (by omega)
  obtain ⟨d, ys3, e4, hd⟩ := pick_run xs ys2 (ds := [scrD r1, scrD (growN n)]) (by simp)
  obtain ⟨rows, w, rfl, h⟩ : ∃ rows w, d = scrD rows ∧ Scr rows w := by
    have : d = scrD r1 ∨ d = scrD (growN n) := by simpa using hd
    rcases this with rfl | rfl
    · exact ⟨r1, w1, rfl, h1⟩
    · exact ⟨_, _, rfl, h2⟩
  have e5 := h.run (S2 xs ys3)
  obtain ⟨ys4, e6⟩ := dotsdue_run h xs ys3
  obtain ⟨ys5, e7⟩ := isspread_run xs ys4
  obtain ⟨b, e8, e9⟩ := bent_run h [some scr, some (.cel 1), o2, o3, some (.dat (scrD rows)), o5] (S2 xs ys5) rfl
  have e9' := e9 (S2 xs ys5)
  obtain ⟨ys6, e10⟩ := refused_run xs ys5
  have nb : notBD (.bool true) (.bool true) = some (.bool false) := rfl
  have nb2 : notBD (.bool false) (.bool false) = some (.bool false) := rfl
  refine ⟨ys6, some (.dat (scrD rows)), some (.dat b), ?_⟩
  rw [turn]
  simp only [seqO_nx, seqO_rt, seqO_exc, ev_seqM, ev_skipM, ev_cst, ev_vr, ev_aNil, ev_noO, ev_tYesM, List.getElem?_cons_zero, List.getElem?_cons_succ, List.set, Res.bind_ok, bindS_ok, Res.bind_exc, bindS_exc, ap2_dat, ap1_dat, apN1, apN2, ofO_some, peek_dat, truD_bool, Bool.not_true, Bool.not_false, ixD_tup, ixD_lst, atI_0, atI_1, toDs_nil, toD_dat, ek_op2, k_op2, k_op2b, ek_op1, k_op1, ek_isiM, ek_opN, k_opN, ek_aCons, k_cons, k_cons2, ek_tupM, ek_lstD, k_tup, k_tup2_0, k_tup2_1, k_tup2_2, k_tup2_3, k_tup2_4, k_tup2_5, k_tup2_6, k_tup2_7, k_tup2_8, k_tup2_9, k_tup2_10, k_tup2_11, k_tup2_12, ek_toDs, k_toDs, k_toDs2, ek_callM, ek_ifE, k_ifE_t, k_ifE_f, truO_some, ofB_some, ek_truM, k_tru, ek_andT, k_andT_t, k_andT_f, ek_orT, k_orT_t, k_orT_f, ek_notT, k_notT, ek_andE, k_andE_t, k_andE_f, ek_orE, k_orE_t, k_orE_f, ek_notE, k_notE, ek_setM, k_set, ek_parM, k_par, ek_ifS, k_if_t, k_if_f, ek_retM, k_ret, ek_dropM, k_drop, ek_forM, k_for, ek_itM, k_it_l, k_it_t, ek_zipM, k_zip, k_zip2_l, k_zip2_t, ek_someO, k_some, ek_sliceM, k_sl, k_sl2, k_sl3, apS_dat, ek_parGM, k_pg2, k_pg3, ek_parM3, k_p3, ek_lstC, k_lst0, e1, e2, e3, e4, e5, nb, e6, e7, ↓e8, e9', nb2, e10]
theorem law_true (ns : List Int) (hn : ns.length ≤ 63) : ∃ st, d_law [.scr ns] [] = .ok (.dat (.bool true)) st := by
  obtain ⟨xs, ys, e⟩ := draws_run ns hn
  obtain ⟨s1, st1, f1, ⟨o2, rfl, hst1⟩⟩ := loop_range (g := tgM (bName 2) grow_check) (fun _ s st2 => ∃ o2 : Option Vl, s = [some (.scr ns), some (.cel 1), o2, none, none, none] ∧ st2 = S2 xs ys) 6 [some (.scr ns), some (.cel 1), none, none, none, none] (S2 xs ys) ⟨none, rfl, rfl⟩ (by
    rintro n hn6 _ st2 ⟨o2, rfl, hst2⟩
    exact ⟨_, _, tg_name.trans (check_one hn6 (some (.scr ns)) (some (.cel 1)) none none none st2), ⟨some (.dat (.int n)), rfl, hst2⟩⟩)
  rw [hst1] at f1
  obtain ⟨s2, st2, f2, ⟨o2', o3, o4, o5, ys', rfl, hst2⟩⟩ := loop_range (g := tgM (bName 3) turn) (fun _ s st2 => ∃ (o2 o3 o4 o5 : Option Vl) (ys : List Int), s = [some (.scr ns), some (.cel 1), o2, o3, o4, o5] ∧ st2 = S2 xs ys) 5 [some (.scr ns), some (.cel 1), o2, none, none, none] (S2 xs ys) ⟨o2, none, none, none, ys, rfl, rfl⟩ (by
    rintro n _ _ _ ⟨o2, o3, o4, o5, ys, rfl, rfl⟩
    obtain ⟨ys', o4', o5', e2⟩ := turn_run (.scr ns) xs ys o2 (some (.dat (.int n))) o4 o5
    exact ⟨_, _, tg_name.trans e2, ⟨o2, some (.dat (.int n)), o4', o5', ys', rfl, rfl⟩⟩)
  rw [hst2] at f2
  refine ⟨[], call_rtN (st' := S2 xs ys') rfl ?_⟩
  show b_law [some (.scr ns), none, none, none, none, none] [] = _
  have r6 : ∀ (s : Slots) (st : Store), rng1M (aCons (cst (.int 6)) aNil) s st = .ok ((List.range 6).map fun k : Nat => PyData.int k) st := fun s st => run_rngN rfl (by decide)
  have r5 : ∀ (s : Slots) (st : Store), rng1M (aCons (cst (.int 5)) aNil) s st = .ok ((List.range 5).map fun k : Nat => PyData.int k) st := fun s st => run_rngN rfl (by decide)
  rw [b_law]
  simp only [seqO_nx, seqO_rt, seqO_exc, ev_seqM, ev_skipM, ev_cst, ev_vr, ev_aNil, ev_noO, ev_tYesM, List.getElem?_cons_zero, List.getElem?_cons_succ, List.set, Res.bind_ok, bindS_ok, Res.bind_exc, bindS_exc, ap2_dat, ap1_dat, apN1, apN2, ofO_some, peek_dat, truD_bool, Bool.not_true, Bool.not_false, ixD_tup, ixD_lst, atI_0, atI_1, toDs_nil, toD_dat, ek_op2, k_op2, k_op2b, ek_op1, k_op1, ek_isiM, ek_opN, k_opN, ek_aCons, k_cons, k_cons2, ek_tupM, ek_lstD, k_tup, k_tup2_0, k_tup2_1, k_tup2_2, k_tup2_3, k_tup2_4, k_tup2_5, k_tup2_6, k_tup2_7, k_tup2_8, k_tup2_9, k_tup2_10, k_tup2_11, k_tup2_12, ek_toDs, k_toDs, k_toDs2, ek_callM, ek_ifE, k_ifE_t, k_ifE_f, truO_some, ofB_some, ek_truM, k_tru, ek_andT, k_andT_t, k_andT_f, ek_orT, k_orT_t, k_orT_f, ek_notT, k_notT, ek_andE, k_andE_t, k_andE_f, ek_orE, k_orE_t, k_orE_f, ek_notE, k_notE, ek_setM, k_set, ek_parM, k_par, ek_ifS, k_if_t, k_if_f, ek_retM, k_ret, ek_dropM, k_drop, ek_forM, k_for, ek_itM, k_it_l, k_it_t, ek_zipM, k_zip, k_zip2_l, k_zip2_t, ek_someO, k_some, ek_sliceM, k_sl, k_sl2, k_sl3, apS_dat, ek_parGM, k_pg2, k_pg3, ek_parM3, k_p3, ek_lstC, k_lst0, e, r6, f1, r5, f2]
  rfl
end K27

set_option Elab.async false
set_option linter.all false
set_option maxRecDepth 100000
/-! printed by pr.py: the code has these denotations -/
namespace K27
open PySem PySem.Spec PyProof.Rows L2 RZ RT StX Pd
def topS (i : Nat) : Stmt := PySem.Challenge.pw_huescarried_k27_whole_dots_and_what_is_s.main.body.getD i (.Pass ⟨0, 0, 0, 0⟩)
def txfa : List He.Fa := [.free "abs", .free "int", .free "range", .free "len", .free "list", .free "reversed", .free "isinstance", .free "tuple", .free "all", .free "bool", .free "sorted", .free "zip", .free "sum", .glo "NotRight", .glo "HueError", .glo "_law_draws", .glo "_law_take", .glo "_law_pick", .glo "check", .glo "are_rows", .glo "is_integer", .glo "is_screen", .glo "shared", .glo "is_ratio", .glo "is_colour", .glo "is_unit", .glo "is_plain", .glo "is_below", .glo "made", .glo "add", .glo "product", .glo "dot_of", .glo "dots_of", .glo "is_within", .glo "are_levels", .glo "unit_of", .glo "plain_of", .glo "index_of", .glo "put_by", .glo "less", .glo "spread", .glo "grown_screen", .glo "is_dots", .glo "total", .glo "mean_of", .glo "_law_told", .glo "_law_place", .glo "_law_grown", .glo "_law_mixed", .glo "_law_drawn_screen", .glo "_law_less", .glo "_law_clip", .glo "_law_dots", .glo "_law_r", .glo "_law_mul", .glo "_law_add", .glo "_law_sum", .glo "_law_mean", .glo "_law_sub", .glo "_law_distance", .glo "_law_number", .glo "_law_are_dots_due", .glo "_law_colour", .glo "put_to", .glo "_law_nearest", .glo "_law_is_spread_due", .glo "_law_are_refused", .glo "law", .exc "NotRight"]
def txfn : List He.DefD := [
  ⟨("_law_draws", none), "_law_draws", "_law_draws", defArgs (topS 41), defBody (topS 41), defScope (topS 41), [], []⟩,
  ⟨("_law_take", none), "_law_take", "_law_take", defArgs (topS 42), defBody (topS 42), defScope (topS 42), [], []⟩,
  ⟨("_law_pick", none), "_law_pick", "_law_pick", defArgs (topS 43), defBody (topS 43), defScope (topS 43), [], []⟩,
  ⟨("check", none), "check", "check", defArgs (topS 5), defBody (topS 5), defScope (topS 5), [], []⟩,
  ⟨("are_rows", none), "are_rows", "are_rows", defArgs (topS 32), defBody (topS 32), defScope (topS 32), [], []⟩,
  ⟨("is_integer", none), "is_integer", "is_integer", defArgs (topS 3), defBody (topS 3), defScope (topS 3), [], []⟩,
  ⟨("is_screen", none), "is_screen", "is_screen", defArgs (topS 33), defBody (topS 33), defScope (topS 33), [], []⟩,
  ⟨("shared", none), "shared", "shared", defArgs (topS 9), defBody (topS 9), defScope (topS 9), [], []⟩,
  ⟨("is_ratio", none), "is_ratio", "is_ratio", defArgs (topS 11), defBody (topS 11), defScope (topS 11), [], []⟩,
  ⟨("is_colour", none), "is_colour", "is_colour", defArgs (topS 12), defBody (topS 12), defScope (topS 12), [], []⟩,
  ⟨("is_unit", none), "is_unit", "is_unit", defArgs (topS 13), defBody (topS 13), defScope (topS 13), [], []⟩,
  ⟨("is_plain", none), "is_plain", "is_plain", defArgs (topS 14), defBody (topS 14), defScope (topS 14), [], []⟩,
  ⟨("is_below", none), "is_below", "is_below", defArgs (topS 18), defBody (topS 18), defScope (topS 18), [], []⟩,
  ⟨("made", none), "made", "made", defArgs (topS 10), defBody (topS 10), defScope (topS 10), [], []⟩,
  ⟨("add", none), "add", "add", defArgs (topS 15), defBody (topS 15), defScope (topS 15), [], []⟩,
  ⟨("product", none), "product", "product", defArgs (topS 17), defBody (topS 17), defScope (topS 17), [], []⟩,
  ⟨("dot_of", none), "dot_of", "dot_of", defArgs (topS 34), defBody (topS 34), defScope (topS 34), [], []⟩,
  ⟨("dots_of", none), "dots_of", "dots_of", defArgs (topS 35), defBody (topS 35), defScope (topS 35), [], []⟩,
  ⟨("is_within", none), "is_within", "is_within", defArgs (topS 4), defBody (topS 4), defScope (topS 4), [], []⟩,
  ⟨("are_levels", none), "are_levels", "are_levels", defArgs (topS 28), defBody (topS 28), defScope (topS 28), [], []⟩,
  ⟨("unit_of", none), "unit_of", "unit_of", defArgs (topS 20), defBody (topS 20), defScope (topS 20), [], []⟩,
  ⟨("plain_of", none), "plain_of", "plain_of", defArgs (topS 22), defBody (topS 22), defScope (topS 22), [], []⟩,
  ⟨("index_of", none), "index_of", "index_of", defArgs (topS 29), defBody (topS 29), defScope (topS 29), [], []⟩,
  ⟨("put_by", none), "put_by", "put_by", defArgs (topS 30), defBody (topS 30), defScope (topS 30), [], []⟩,
  ⟨("less", none), "less", "less", defArgs (topS 16), defBody (topS 16), defScope (topS 16), [], []⟩,
  ⟨("spread", none), "spread", "spread", defArgs (topS 38), defBody (topS 38), defScope (topS 38), [], []⟩,
  ⟨("grown_screen", none), "grown_screen", "grown_screen", defArgs (topS 39), defBody (topS 39), defScope (topS 39), [], []⟩,
  ⟨("is_dots", none), "is_dots", "is_dots", defArgs (topS 36), defBody (topS 36), defScope (topS 36), [], []⟩,
  ⟨("total", none), "total", "total", defArgs (topS 19), defBody (topS 19), defScope (topS 19), [], []⟩,
  ⟨("mean_of", none), "mean_of", "mean_of", defArgs (topS 37), defBody (topS 37), defScope (topS 37), [], []⟩,
  ⟨("_law_told", none), "_law_told", "_law_told", defArgs (topS 55), defBody (topS 55), defScope (topS 55), [], []⟩,
  ⟨("_law_place", none), "_law_place", "_law_place", defArgs (topS 56), defBody (topS 56), defScope (topS 56), [], []⟩,
  ⟨("_law_grown", none), "_law_grown", "_law_grown", defArgs (topS 57), defBody (topS 57), defScope (topS 57), [], []⟩,
  ⟨("_law_mixed", none), "_law_mixed", "_law_mixed", defArgs (topS 44), defBody (topS 44), defScope (topS 44), [], []⟩,
  ⟨("_law_drawn_screen", none), "_law_drawn_screen", "_law_drawn_screen", defArgs (topS 58), defBody (topS 58), defScope (topS 58), [], []⟩,
  ⟨("_law_less", none), "_law_less", "_law_less", defArgs (topS 49), defBody (topS 49), defScope (topS 49), [], []⟩,
  ⟨("_law_clip", none), "_law_clip", "_law_clip", defArgs (topS 51), defBody (topS 51), defScope (topS 51), [], []⟩,
  ⟨("_law_dots", none), "_law_dots", "_law_dots", defArgs (topS 59), defBody (topS 59), defScope (topS 59), [], []⟩,
  ⟨("_law_r", none), "_law_r", "_law_r", defArgs (topS 45), defBody (topS 45), defScope (topS 45), [], []⟩,
  ⟨("_law_mul", none), "_law_mul", "_law_mul", defArgs (topS 48), defBody (topS 48), defScope (topS 48), [], []⟩,
  ⟨("_law_add", none), "_law_add", "_law_add", defArgs (topS 46), defBody (topS 46), defScope (topS 46), [], []⟩,
  ⟨("_law_sum", none), "_law_sum", "_law_sum", defArgs (topS 50), defBody (topS 50), defScope (topS 50), [], []⟩,
  ⟨("_law_mean", none), "_law_mean", "_law_mean", defArgs (topS 60), defBody (topS 60), defScope (topS 60), [], []⟩,
  ⟨("_law_sub", none), "_law_sub", "_law_sub", defArgs (topS 47), defBody (topS 47), defScope (topS 47), [], []⟩,
  ⟨("_law_distance", none), "_law_distance", "_law_distance", defArgs (topS 54), defBody (topS 54), defScope (topS 54), [], []⟩,
  ⟨("_law_number", none), "_law_number", "_law_number", defArgs (topS 52), defBody (topS 52), defScope (topS 52), [], []⟩,
  ⟨("_law_are_dots_due", none), "_law_are_dots_due", "_law_are_dots_due", defArgs (topS 61), defBody (topS 61), defScope (topS 61), [], []⟩,
  ⟨("_law_colour", none), "_law_colour", "_law_colour", defArgs (topS 53), defBody (topS 53), defScope (topS 53), [], []⟩,
  ⟨("put_to", none), "put_to", "put_to", defArgs (topS 31), defBody (topS 31), defScope (topS 31), [], []⟩,
  ⟨("_law_nearest", none), "_law_nearest", "_law_nearest", defArgs (topS 62), defBody (topS 62), defScope (topS 62), [], []⟩,
  ⟨("_law_is_spread_due", none), "_law_is_spread_due", "_law_is_spread_due", defArgs (topS 63), defBody (topS 63), defScope (topS 63), [], []⟩,
  ⟨("_law_are_refused", none), "_law_are_refused", "_law_are_refused", defArgs (topS 64), defBody (topS 64), defScope (topS 64), [], []⟩,
  ⟨("law", none), "law", "law", defArgs (topS 65), defBody (topS 65), defScope (topS 65), [], []⟩]
def tx : Tx := ⟨txfa, txfn, [("ZERO", c_ZERO), ("ONE", c_ONE), ("MOST_LEVELS", c_MOST_LEVELS), ("MOST_GROWN", c_MOST_GROWN), ("HALF", c_HALF), ("DOTS", c_DOTS)], ["HueError", "NotRight"], [(0, 0), (1, 0), (1, 1)]⟩
section
variable {P : Program} {w : World} {K : Fr} {mg : Str → Option Value} {base : Heap}
abbrev s_u_law_draws : Stmt := topS 41
theorem sc_u_law_draws : FnScope ["script", "draws", "cell", "seed", "k", "number", "first"] ["script"] (defScope s_u_law_draws) := ⟨rfl, rfl, rfl, by decide +kernel, rfl, by decide +kernel, by decide +kernel⟩
set_option maxHeartbeats 4000000 in
theorem ok_u_law_draws (T : Txt tx K mg) : Cal P w K mg base (clN tx.ex K) "_law_draws" ["script"] 1 d_u_law_draws := by
  refine cal_of (N := ["script", "draws", "cell", "seed", "k", "number", "first"]) (ps := ["script"]) (n := 1) (j := 6) T 0 (by rfl) (T.glo 15) rfl rfl sc_u_law_draws rfl rfl (fun _ _ _ _ _ _ us hl => match us, hl with | [_], _ => rfl) (fun f cdv A outer s H E hr tk hp => ?_)
  exact qss_cons (qs_set 1 sc_u_law_draws.nd (qe_lstC qa_nil))
        (qss_cons (qs_for hp rfl (qi_data (qe_var 0)) (qg_name 2 sc_u_law_draws.nd) (qss_cons (qs_set 5 sc_u_law_draws.nd (qe_callB call_abs on_abs (by rfl) (T.free 0) (by decide +kernel) (qa_cons (qe_var 2) qa_nil)))
        (qss_cons (qs_if (qt_cmp op_lt od_lt b2_lt (qe_var 5) (qe_bin op_pow od_pow qe_int qe_int) (nomark _)) (qss_cons (qs_set 6 sc_u_law_draws.nd (qe_bin op_mod od_mod (qe_callTy call_int1 on_int (by rfl) (T.free 1) (by decide +kernel) (qa_cons (qe_bin op_addA od_add (qe_bin op_mulA od_mul (qe_var 5) qe_int) qe_int) qa_nil)) qe_int))
        (qss_cons (qs_expr (qe_append (qe_var 1) (qe_bin op_mod od_mod (qe_callTy call_int1 on_int (by rfl) (T.free 1) (by decide +kernel) (qa_cons (qe_bin op_addA od_add (qe_bin op_mulA od_mul (qe_var 6) qe_int) (qe_var 5)) qa_nil)) qe_int)))
        (qss_cons (qs_expr (qe_append (qe_var 1) (qe_bin op_mod od_mod (qe_callTy call_int1 on_int (by rfl) (T.free 1) (by decide +kernel) (qa_cons (qe_bin op_addA od_add (qe_var 6) (qe_bin op_fdivW od_fdiv (qe_var 5) qe_int)) qa_nil)) qe_int)))
        (qss_one (qs_set 5 sc_u_law_draws.nd qe_int))))) qss_nil)
        (qss_one (qs_for hp rfl (qi_rng1 (by rfl) (T.free 2) (qa_cons qe_int qa_nil)) (qg_name 4 sc_u_law_draws.nd) (qss_one (qs_if (qt_cmp op_gt od_gt b2_gt (qe_var 5) qe_int (nomark _)) (qss_cons (qs_expr (qe_append (qe_var 1) (qe_bin op_mod od_mod (qe_callTy call_int1 on_int (by rfl) (T.free 1) (by decide +kernel) (qa_cons (qe_var 5) qa_nil)) qe_int)))
        (qss_one (qs_set 5 sc_u_law_draws.nd (qe_bin op_fdivW od_fdiv (qe_var 5) qe_int)))) qss_nil)))))))
        (qss_cons (qs_set 3 sc_u_law_draws.nd qe_int)
        (qss_cons (qs_if (qt_cmp op_gt od_gt b2_gt (qe_scLen (by rfl) (T.free 3) (qe_var 0)) qe_int (nomark _)) (qss_one (qs_set 3 sc_u_law_draws.nd (qe_bin op_addA od_add qe_int (qe_callB call_abs on_abs (by rfl) (T.free 0) (by decide +kernel) (qa_cons (qe_scIx (qe_var 0) qe_int (fun _ _ => rfl)) qa_nil))))) qss_nil)
        (qss_cons (qs_for hp rfl (qi_rng1 (by rfl) (T.free 2) (qa_cons qe_int qa_nil)) (qg_name 4 sc_u_law_draws.nd) (qss_cons (qs_set 3 sc_u_law_draws.nd (qe_bin op_mod od_mod (qe_callTy call_int1 on_int (by rfl) (T.free 1) (by decide +kernel) (qa_cons (qe_bin op_addA od_add (qe_bin op_mulA od_mul (qe_var 3) qe_int) qe_int) qa_nil)) qe_int))
        (qss_one (qs_expr (qe_append (qe_var 1) (qe_bin op_fdivW od_fdiv (qe_var 3) qe_int))))))
        (qss_one (qs_ret (qe_lrevC rfl (by rfl) (T.free 4) (by rfl) (T.free 5) (qe_var 1))))))))
abbrev s_u_law_take : Stmt := topS 42
theorem sc_u_law_take : FnScope ["draws", "bound"] ["draws", "bound"] (defScope s_u_law_take) := ⟨rfl, rfl, rfl, by decide +kernel, rfl, by decide +kernel, by decide +kernel⟩
set_option maxHeartbeats 4000000 in
theorem ok_u_law_take (T : Txt tx K mg) : Cal P w K mg base (clN tx.ex K) "_law_take" ["draws", "bound"] 1 d_u_law_take := by
  refine Cal.close <| cal_of (N := ["draws", "bound"]) (ps := ["draws", "bound"]) (n := 2) (j := 0) T 1 (by rfl) (T.glo 16) rfl rfl sc_u_law_take rfl rfl (fun _ _ _ _ _ _ us hl => match us, hl with | [_, _], _ => rfl) (fun f cdv A outer s H E hr tk hp => ?_)
  exact qss_cons (qs_if (qt_cmp (op_eqD hr.units) od_eq b2_eq (qe_callB call_lenA on_len (by rfl) (T.free 3) (by decide +kernel) (qa_cons (qe_var 0) qa_nil)) qe_int (nomark _)) (qss_one (qs_ret qe_int)) qss_nil)
        (qss_one (qs_ret (qe_bin op_mod od_mod (qe_callTy call_int1 on_int (by rfl) (T.free 1) (by decide +kernel) (qa_cons (qe_pop (qe_var 0)) qa_nil)) (qe_var 1))))
abbrev s_u_law_pick : Stmt := topS 43
theorem sc_u_law_pick : FnScope ["draws", "some"] ["draws", "some"] (defScope s_u_law_pick) := ⟨rfl, rfl, rfl, by decide +kernel, rfl, by decide +kernel, by decide +kernel⟩
set_option maxHeartbeats 4000000 in
theorem ok_u_law_pick (T : Txt tx K mg) : Cal P w K mg base (clN tx.ex K) "_law_pick" ["draws", "some"] 2 d_u_law_pick := by
  refine Cal.close <| cal_of (N := ["draws", "some"]) (ps := ["draws", "some"]) (n := 2) (j := 0) T 2 (by rfl) (T.glo 17) rfl rfl sc_u_law_pick rfl rfl (fun _ _ _ _ _ _ us hl => match us, hl with | [_, _], _ => rfl) (fun f cdv A outer s H E hr tk hp => ?_)
  exact qss_one (qs_ret (qe_ix ix_seq od_ix (qe_var 1) (qe_callC (ok_u_law_take T) hr tk (qa_cons (qe_var 0) (qa_cons (qe_callB call_lenA on_len (by rfl) (T.free 3) (by decide +kernel) (qa_cons (qe_var 1) qa_nil)) qa_nil)) (by decide)) (fun _ _ => rfl)))
abbrev s_check : Stmt := topS 5
theorem sc_check : FnScope ["is_right"] ["is_right"] (defScope s_check) := ⟨rfl, rfl, rfl, by decide +kernel, rfl, by decide +kernel, by decide +kernel⟩
set_option maxHeartbeats 4000000 in
theorem ok_check (T : Txt tx K mg) : Cal P w K mg base (clN tx.ex K) "check" ["is_right"] 1 d_check := by
  refine Cal.close <| cal_of (N := ["is_right"]) (ps := ["is_right"]) (n := 1) (j := 0) T 3 (by rfl) (T.glo 18) rfl rfl sc_check rfl rfl (fun _ _ _ _ _ _ us hl => match us, hl with | [_], _ => rfl) (fun f cdv A outer s H E hr tk hp => ?_)
  exact qss_one (qs_if (qt_not (qt_val (qe_var 0))) (qss_one (qs_raise (C := 1) rfl tk (pmk_own PySem.F.excBase_ValueError (He.exc_ok (T.d.fact 68 (f := .exc "NotRight") rfl)).1 (T.glo 13) (He.exc_ok (T.d.fact 68 (f := .exc "NotRight") rfl)).2.1 (raises_own (He.exc_ok (T.d.fact 68 (f := .exc "NotRight") rfl)).2.2.1 (He.exc_ok (T.d.fact 68 (f := .exc "NotRight") rfl)).2.2.2) (by rfl)))) qss_nil)
abbrev s_are_rows : Stmt := topS 32
theorem sc_are_rows : FnScope ["value", "row"] ["value"] (defScope s_are_rows) := ⟨rfl, rfl, rfl, by decide +kernel, rfl, by decide +kernel, by decide +kernel⟩
set_option maxHeartbeats 4000000 in
theorem ok_are_rows (T : Txt tx K mg) : Cal P w K mg base (clN tx.ex K) "are_rows" ["value"] 1 d_are_rows := by
  refine Cal.close <| cal_of (N := ["value", "row"]) (ps := ["value"]) (n := 1) (j := 1) T 4 (by rfl) (T.glo 19) rfl rfl sc_are_rows rfl rfl (fun _ _ _ _ _ _ us hl => match us, hl with | [_], _ => rfl) (fun f cdv A outer s H E hr tk hp => ?_)
  exact qss_cons (qs_if (PW.pt (qw_or (qt_not (qt_val (qe_isi (by rfl) (T.free 6) (qe_var 0) (by rfl) (T.free 7) (by decide +kernel)))) (qw_or (qt_cmp (op_eqD hr.units) od_eq b2_eq (qe_callB call_lenA on_len (by rfl) (T.free 3) (by decide +kernel) (qa_cons (qe_var 0) qa_nil)) qe_int (nomark _)) (qw_or1 (qt_not (qt_val (qe_callB (cr_all rfl) on_all (by rfl) (T.free 8) (by decide +kernel) (qa_cons (qe_lc [("row", 1)] rfl sc_are_rows.nd (by decide) (qi_data (qe_var 0)) (blkOk_by (N := ["value", "row"]) (sc := defScope s_are_rows) (by decide +kernel)) (fun _ _ _ _ _ => qg_name 1 sc_are_rows.nd) (fun _ _ _ _ _ => qts_nil) (fun _ _ _ _ _ => qe_isi (by rfl) (T.free 6) (qe_var 1) (by rfl) (T.free 7) (by decide +kernel))) qa_nil)))))))) (qss_one (qs_ret qe_bl)) qss_nil)
        (qss_one (qs_ret (qe_and (qe_cmp op_gt od_gt (qe_callB call_lenA on_len (by rfl) (T.free 3) (by decide +kernel) (qa_cons (qe_ix ix_seq od_ix (qe_var 0) qe_int (fun _ _ => rfl)) qa_nil)) qe_int (nomark _)) (qe_one (qe_callB (cr_all rfl) on_all (by rfl) (T.free 8) (by decide +kernel) (qa_cons (qe_lc [("row", 1)] rfl sc_are_rows.nd (by decide) (qi_data (qe_var 0)) (blkOk_by (N := ["value", "row"]) (sc := defScope s_are_rows) (by decide +kernel)) (fun _ _ _ _ _ => qg_name 1 sc_are_rows.nd) (fun _ _ _ _ _ => qts_nil) (fun _ _ _ _ _ => qe_cmp (op_eqD hr.units) od_eq (qe_callB call_lenA on_len (by rfl) (T.free 3) (by decide +kernel) (qa_cons (qe_var 1) qa_nil)) (qe_callB call_lenA on_len (by rfl) (T.free 3) (by decide +kernel) (qa_cons (qe_ix ix_seq od_ix (qe_var 0) qe_int (fun _ _ => rfl)) qa_nil)) (nomark _))) qa_nil))))))
abbrev s_is_integer : Stmt := topS 3
theorem sc_is_integer : FnScope ["value"] ["value"] (defScope s_is_integer) := ⟨rfl, rfl, rfl, by decide +kernel, rfl, by decide +kernel, by decide +kernel⟩
set_option maxHeartbeats 4000000 in
theorem ok_is_integer (T : Txt tx K mg) : Cal P w K mg base (clN tx.ex K) "is_integer" ["value"] 1 d_is_integer := by
  refine Cal.close <| cal_of (N := ["value"]) (ps := ["value"]) (n := 1) (j := 0) T 5 (by rfl) (T.glo 20) rfl rfl sc_is_integer rfl rfl (fun _ _ _ _ _ _ us hl => match us, hl with | [_], _ => rfl) (fun f cdv A outer s H E hr tk hp => ?_)
  exact qss_one (qs_ret (qe_and (qe_isi (by rfl) (T.free 6) (qe_var 0) (by rfl) (T.free 1) (by decide +kernel)) (qe_one (qe_not (qe_isi (by rfl) (T.free 6) (qe_var 0) (by rfl) (T.free 9) (by decide +kernel))))))
abbrev s_is_screen : Stmt := topS 33
theorem sc_is_screen : FnScope ["value", "places", "row", "place"] ["value"] (defScope s_is_screen) := ⟨rfl, rfl, rfl, by decide +kernel, rfl, by decide +kernel, by decide +kernel⟩
set_option maxHeartbeats 4000000 in
theorem ok_is_screen (T : Txt tx K mg) : Cal P w K mg base (clN tx.ex K) "is_screen" ["value"] 2 d_is_screen := by
  refine Cal.close <| cal_of (N := ["value", "places", "row", "place"]) (ps := ["value"]) (n := 1) (j := 3) T 6 (by rfl) (T.glo 21) rfl rfl sc_is_screen rfl rfl (fun _ _ _ _ _ _ us hl => match us, hl with | [_], _ => rfl) (fun f cdv A outer s H E hr tk hp => ?_)
  exact qss_cons (qs_if (qt_not (qt_val (qe_callC (ok_are_rows T) hr tk (qa_cons (qe_var 0) qa_nil) (by decide)))) (qss_one (qs_ret qe_bl)) qss_nil)
        (qss_cons (qs_setLc2 1 [("row", 2), ("place", 3)] [3] rfl sc_is_screen.nd (by decide) (by decide) (by decide) (qi_data (qe_var 0)) (blkOk_by (N := ["value", "places", "row", "place"]) (sc := defScope s_is_screen) (by decide +kernel)) (fun _ _ _ _ _ => qg_name 2 sc_is_screen.nd) (fun _ _ _ _ _ => qts_nil) (fun _ _ _ _ _ => qi_data (qe_var 2)) (fun _ _ _ _ _ => qg_name 3 sc_is_screen.nd) (fun _ _ _ _ _ => qts_nil) (fun _ _ _ _ _ => qe_var 3) (by rfl) (by rfl) (sw_true rfl rfl rfl (by decide +kernel)))
        (qss_one (qs_ret (qe_and (qe_callB (cr_all rfl) on_all (by rfl) (T.free 8) (by decide +kernel) (qa_cons (qe_lc [("place", 3)] rfl sc_is_screen.nd (by decide) (qi_data (qe_var 1)) (blkOk_by (N := ["value", "places", "row", "place"]) (sc := defScope s_is_screen) (by decide +kernel)) (fun _ _ _ _ _ => qg_name 3 sc_is_screen.nd) (fun _ _ _ _ _ => qts_nil) (fun _ _ _ _ _ => qe_callC (ok_is_integer T) hr takes0 (qa_cons (qe_var 3) qa_nil) (by decide))) qa_nil)) (qe_one (qe_cmp (op_eqD hr.units) od_eq (qe_callB cr_sortedI on_sorted (by rfl) (T.free 10) (by decide +kernel) (qa_cons (qe_var 1) qa_nil)) (qe_lrng rfl (by rfl) (T.free 4) (by rfl) (T.free 2) (qe_callB call_lenA on_len (by rfl) (T.free 3) (by decide +kernel) (qa_cons (qe_var 1) qa_nil))) (nomark _)))))))
abbrev s_shared : Stmt := topS 9
theorem sc_shared : FnScope ["a", "b"] ["a", "b"] (defScope s_shared) := ⟨rfl, rfl, rfl, by decide +kernel, rfl, by decide +kernel, by decide +kernel⟩
set_option maxHeartbeats 4000000 in
theorem ok_shared (T : Txt tx K mg) : Cal P w K mg base (clN tx.ex K) "shared" ["a", "b"] 1 d_shared := by
  refine Cal.close <| cal_of (N := ["a", "b"]) (ps := ["a", "b"]) (n := 2) (j := 0) T 7 (by rfl) (T.glo 22) rfl rfl sc_shared rfl rfl (fun _ _ _ _ _ _ us hl => match us, hl with | [_, _], _ => rfl) (fun f cdv A outer s H E hr tk hp => ?_)
  exact qss_cons (qs_while hp (qt_cmp op_gt od_gt b2_gt (qe_var 1) qe_int (nomark _)) (qss_one (qs_par 0 1 rfl sc_shared.nd (qa_cons (qe_var 1) (qa_cons (qe_bin op_mod od_mod (qe_var 0) (qe_var 1)) qa_nil)) (by rfl) (by rfl) (by decide) (by rfl) (by rfl) (by rfl))))
        (qss_one (qs_ret (qe_var 0)))
abbrev s_is_ratio : Stmt := topS 11
theorem sc_is_ratio : FnScope ["value"] ["value"] (defScope s_is_ratio) := ⟨rfl, rfl, rfl, by decide +kernel, rfl, by decide +kernel, by decide +kernel⟩
set_option maxHeartbeats 4000000 in
theorem ok_is_ratio (T : Txt tx K mg) : Cal P w K mg base (clN tx.ex K) "is_ratio" ["value"] 2 d_is_ratio := by
  refine Cal.close <| cal_of (N := ["value"]) (ps := ["value"]) (n := 1) (j := 0) T 8 (by rfl) (T.glo 23) rfl rfl sc_is_ratio rfl rfl (fun _ _ _ _ _ _ us hl => match us, hl with | [_], _ => rfl) (fun f cdv A outer s H E hr tk hp => ?_)
  exact qss_cons (qs_if (PW.pt (qw_or (qt_not (qt_val (qe_isi (by rfl) (T.free 6) (qe_var 0) (by rfl) (T.free 7) (by decide +kernel)))) (qw_or (qt_cmp (op_neD hr.units) od_ne b2_ne (qe_callB call_lenA on_len (by rfl) (T.free 3) (by decide +kernel) (qa_cons (qe_var 0) qa_nil)) qe_int (nomark _)) (qw_or (qt_not (qt_val (qe_callC (ok_is_integer T) hr tk (qa_cons (qe_ix ix_seq od_ix (qe_var 0) qe_int (fun _ _ => rfl)) qa_nil) (by decide)))) (qw_or1 (qt_not (qt_val (qe_callC (ok_is_integer T) hr tk (qa_cons (qe_ix ix_seq od_ix (qe_var 0) qe_int (fun _ _ => rfl)) qa_nil) (by decide))))))))) (qss_one (qs_ret qe_bl)) qss_nil)
        (qss_one (qs_ret (qe_and (qe_cmp op_gt od_gt (qe_ix ix_seq od_ix (qe_var 0) qe_int (fun _ _ => rfl)) qe_int (nomark _)) (qe_one (qe_cmp (op_eqD hr.units) od_eq (qe_callC (ok_shared T) hr tk (qa_cons (qe_callB call_abs on_abs (by rfl) (T.free 0) (by decide +kernel) (qa_cons (qe_ix ix_seq od_ix (qe_var 0) qe_int (fun _ _ => rfl)) qa_nil)) (qa_cons (qe_ix ix_seq od_ix (qe_var 0) qe_int (fun _ _ => rfl)) qa_nil)) (by decide)) qe_int (nomark _))))))
abbrev s_is_colour : Stmt := topS 12
theorem sc_is_colour : FnScope ["value", "part"] ["value"] (defScope s_is_colour) := ⟨rfl, rfl, rfl, by decide +kernel, rfl, by decide +kernel, by decide +kernel⟩
set_option maxHeartbeats 4000000 in
theorem ok_is_colour (T : Txt tx K mg) : Cal P w K mg base (clN tx.ex K) "is_colour" ["value"] 3 d_is_colour := by
  refine Cal.close <| cal_of (N := ["value", "part"]) (ps := ["value"]) (n := 1) (j := 1) T 9 (by rfl) (T.glo 24) rfl rfl sc_is_colour rfl rfl (fun _ _ _ _ _ _ us hl => match us, hl with | [_], _ => rfl) (fun f cdv A outer s H E hr tk hp => ?_)
  exact qss_one (qs_ret (qe_and (qe_isi (by rfl) (T.free 6) (qe_var 0) (by rfl) (T.free 7) (by decide +kernel)) (qe_and (qe_cmp (op_eqD hr.units) od_eq (qe_callB call_lenA on_len (by rfl) (T.free 3) (by decide +kernel) (qa_cons (qe_var 0) qa_nil)) qe_int (nomark _)) (qe_one (qe_callB (cr_all rfl) on_all (by rfl) (T.free 8) (by decide +kernel) (qa_cons (qe_lc [("part", 1)] rfl sc_is_colour.nd (by decide) (qi_data (qe_var 0)) (blkOk_by (N := ["value", "part"]) (sc := defScope s_is_colour) (by decide +kernel)) (fun _ _ _ _ _ => qg_name 1 sc_is_colour.nd) (fun _ _ _ _ _ => qts_nil) (fun _ _ _ _ _ => qe_callC (ok_is_ratio T) hr takes0 (qa_cons (qe_var 1) qa_nil) (by decide))) qa_nil))))))
abbrev s_is_unit : Stmt := topS 13
theorem sc_is_unit : FnScope ["value"] ["value"] (defScope s_is_unit) := ⟨rfl, rfl, rfl, by decide +kernel, rfl, by decide +kernel, by decide +kernel⟩
set_option maxHeartbeats 4000000 in
theorem ok_is_unit (T : Txt tx K mg) : Cal P w K mg base (clN tx.ex K) "is_unit" ["value"] 1 d_is_unit := by
  refine Cal.close <| cal_of (N := ["value"]) (ps := ["value"]) (n := 1) (j := 0) T 10 (by rfl) (T.glo 25) rfl rfl sc_is_unit rfl rfl (fun _ _ _ _ _ _ us hl => match us, hl with | [_], _ => rfl) (fun f cdv A outer s H E hr tk hp => ?_)
  exact qss_one (qs_ret (qe_chain op_le op_le od_le od_le qe_int (qe_ix ix_seq od_ix (qe_var 0) qe_int (fun _ _ => rfl)) (qe_ix ix_seq od_ix (qe_var 0) qe_int (fun _ _ => rfl))))
abbrev s_is_plain : Stmt := topS 14
theorem sc_is_plain : FnScope ["value", "part"] ["value"] (defScope s_is_plain) := ⟨rfl, rfl, rfl, by decide +kernel, rfl, by decide +kernel, by decide +kernel⟩
set_option maxHeartbeats 4000000 in
theorem ok_is_plain (T : Txt tx K mg) : Cal P w K mg base (clN tx.ex K) "is_plain" ["value"] 4 d_is_plain := by
  refine Cal.close <| cal_of (N := ["value", "part"]) (ps := ["value"]) (n := 1) (j := 1) T 11 (by rfl) (T.glo 26) rfl rfl sc_is_plain rfl rfl (fun _ _ _ _ _ _ us hl => match us, hl with | [_], _ => rfl) (fun f cdv A outer s H E hr tk hp => ?_)
  exact qss_one (qs_ret (qe_and (qe_callC (ok_is_colour T) hr tk (qa_cons (qe_var 0) qa_nil) (by decide)) (qe_one (qe_callB (cr_all rfl) on_all (by rfl) (T.free 8) (by decide +kernel) (qa_cons (qe_lc [("part", 1)] rfl sc_is_plain.nd (by decide) (qi_data (qe_var 0)) (blkOk_by (N := ["value", "part"]) (sc := defScope s_is_plain) (by decide +kernel)) (fun _ _ _ _ _ => qg_name 1 sc_is_plain.nd) (fun _ _ _ _ _ => qts_nil) (fun _ _ _ _ _ => qe_callC (ok_is_unit T) hr takes0 (qa_cons (qe_var 1) qa_nil) (by decide))) qa_nil)))))
abbrev s_is_below : Stmt := topS 18
theorem sc_is_below : FnScope ["a", "b"] ["a", "b"] (defScope s_is_below) := ⟨rfl, rfl, rfl, by decide +kernel, rfl, by decide +kernel, by decide +kernel⟩
set_option maxHeartbeats 4000000 in
theorem ok_is_below (T : Txt tx K mg) : Cal P w K mg base (clN tx.ex K) "is_below" ["a", "b"] 1 d_is_below := by
  refine Cal.close <| cal_of (N := ["a", "b"]) (ps := ["a", "b"]) (n := 2) (j := 0) T 12 (by rfl) (T.glo 27) rfl rfl sc_is_below rfl rfl (fun _ _ _ _ _ _ us hl => match us, hl with | [_, _], _ => rfl) (fun f cdv A outer s H E hr tk hp => ?_)
  exact qss_one (qs_ret (qe_cmp op_lt od_lt (qe_bin op_mulA od_mul (qe_ix ix_seq od_ix (qe_var 0) qe_int (fun _ _ => rfl)) (qe_ix ix_seq od_ix (qe_var 1) qe_int (fun _ _ => rfl))) (qe_bin op_mulA od_mul (qe_ix ix_seq od_ix (qe_var 1) qe_int (fun _ _ => rfl)) (qe_ix ix_seq od_ix (qe_var 0) qe_int (fun _ _ => rfl))) (nomark _)))
abbrev s_made : Stmt := topS 10
theorem sc_made : FnScope ["n", "d", "divisor", "sign"] ["n", "d"] (defScope s_made) := ⟨rfl, rfl, rfl, by decide +kernel, rfl, by decide +kernel, by decide +kernel⟩
set_option maxHeartbeats 4000000 in
theorem ok_made (T : Txt tx K mg) : Cal P w K mg base (clN tx.ex K) "made" ["n", "d"] 2 d_made := by
  refine Cal.close <| cal_of (N := ["n", "d", "divisor", "sign"]) (ps := ["n", "d"]) (n := 2) (j := 2) T 13 (by rfl) (T.glo 28) rfl rfl sc_made rfl rfl (fun _ _ _ _ _ _ us hl => match us, hl with | [_, _], _ => rfl) (fun f cdv A outer s H E hr tk hp => ?_)
  exact qss_cons (qs_set 2 sc_made.nd (qe_callC (ok_shared T) hr tk (qa_cons (qe_callB call_abs on_abs (by rfl) (T.free 0) (by decide +kernel) (qa_cons (qe_var 0) qa_nil)) (qa_cons (qe_callB call_abs on_abs (by rfl) (T.free 0) (by decide +kernel) (qa_cons (qe_var 1) qa_nil)) qa_nil)) (by decide)))
        (qss_cons (qs_set 3 sc_made.nd (qe_ifE (qt_cmp op_gt od_gt b2_gt (qe_var 1) qe_int (nomark _)) qe_int (qe_un un_neg o1_neg qe_int)))
        (qss_one (qs_ret (qe_tup (qa_cons (qe_bin op_fdivW od_fdiv (qe_bin op_mulA od_mul (qe_var 3) (qe_var 0)) (qe_var 2)) (qa_cons (qe_bin op_fdivW od_fdiv (qe_bin op_mulA od_mul (qe_var 3) (qe_var 1)) (qe_var 2)) qa_nil))))))
abbrev s_add : Stmt := topS 15
theorem sc_add : FnScope ["a", "b"] ["a", "b"] (defScope s_add) := ⟨rfl, rfl, rfl, by decide +kernel, rfl, by decide +kernel, by decide +kernel⟩
set_option maxHeartbeats 4000000 in
theorem ok_add (T : Txt tx K mg) : Cal P w K mg base (clN tx.ex K) "add" ["a", "b"] 3 d_add := by
  refine Cal.close <| cal_of (N := ["a", "b"]) (ps := ["a", "b"]) (n := 2) (j := 0) T 14 (by rfl) (T.glo 29) rfl rfl sc_add rfl rfl (fun _ _ _ _ _ _ us hl => match us, hl with | [_, _], _ => rfl) (fun f cdv A outer s H E hr tk hp => ?_)
  exact qss_one (qs_ret (qe_callC (ok_made T) hr tk (qa_cons (qe_bin op_addA od_add (qe_bin op_mulA od_mul (qe_ix ix_seq od_ix (qe_var 0) qe_int (fun _ _ => rfl)) (qe_ix ix_seq od_ix (qe_var 1) qe_int (fun _ _ => rfl))) (qe_bin op_mulA od_mul (qe_ix ix_seq od_ix (qe_var 1) qe_int (fun _ _ => rfl)) (qe_ix ix_seq od_ix (qe_var 0) qe_int (fun _ _ => rfl)))) (qa_cons (qe_bin op_mulA od_mul (qe_ix ix_seq od_ix (qe_var 0) qe_int (fun _ _ => rfl)) (qe_ix ix_seq od_ix (qe_var 1) qe_int (fun _ _ => rfl))) qa_nil)) (by decide)))
abbrev s_product : Stmt := topS 17
theorem sc_product : FnScope ["a", "b"] ["a", "b"] (defScope s_product) := ⟨rfl, rfl, rfl, by decide +kernel, rfl, by decide +kernel, by decide +kernel⟩
set_option maxHeartbeats 4000000 in
theorem ok_product (T : Txt tx K mg) : Cal P w K mg base (clN tx.ex K) "product" ["a", "b"] 3 d_product := by
  refine Cal.close <| cal_of (N := ["a", "b"]) (ps := ["a", "b"]) (n := 2) (j := 0) T 15 (by rfl) (T.glo 30) rfl rfl sc_product rfl rfl (fun _ _ _ _ _ _ us hl => match us, hl with | [_, _], _ => rfl) (fun f cdv A outer s H E hr tk hp => ?_)
  exact qss_one (qs_ret (qe_callC (ok_made T) hr tk (qa_cons (qe_bin op_mulA od_mul (qe_ix ix_seq od_ix (qe_var 0) qe_int (fun _ _ => rfl)) (qe_ix ix_seq od_ix (qe_var 1) qe_int (fun _ _ => rfl))) (qa_cons (qe_bin op_mulA od_mul (qe_ix ix_seq od_ix (qe_var 0) qe_int (fun _ _ => rfl)) (qe_ix ix_seq od_ix (qe_var 1) qe_int (fun _ _ => rfl))) qa_nil)) (by decide)))
abbrev s_dot_of : Stmt := topS 34
theorem sc_dot_of : FnScope ["part", "many", "place"] ["part", "many", "place"] (defScope s_dot_of) := ⟨rfl, rfl, rfl, by decide +kernel, rfl, by decide +kernel, by decide +kernel⟩
set_option maxHeartbeats 4000000 in
theorem ok_dot_of (T : Txt tx K mg) : Cal P w K mg base (clN tx.ex K) "dot_of" ["part", "many", "place"] 4 d_dot_of := by
  refine Cal.close <| cal_of (N := ["part", "many", "place"]) (ps := ["part", "many", "place"]) (n := 3) (j := 0) T 16 (by rfl) (T.glo 31) rfl rfl sc_dot_of rfl rfl (fun _ _ _ _ _ _ us hl => match us, hl with | [_, _, _], _ => rfl) (fun f cdv A outer s H E hr tk hp => ?_)
  exact qss_one (qs_ret (qe_ifE (qt_val (qe_callC (ok_is_below T) hr tk (qa_cons (qe_callC (ok_add T) hr tk (qa_cons (qe_callC (ok_made T) hr tk (qa_cons (qe_var 2) (qa_cons qe_int qa_nil)) (by decide)) (qa_cons (qe_const (T.cons 4)) qa_nil)) (by decide)) (qa_cons (qe_callC (ok_product T) hr tk (qa_cons (qe_var 0) (qa_cons (qe_callC (ok_made T) hr tk (qa_cons (qe_var 1) (qa_cons qe_int qa_nil)) (by decide)) qa_nil)) (by decide)) qa_nil)) (by decide))) qe_int qe_int))
abbrev s_dots_of : Stmt := topS 35
theorem sc_dots_of : FnScope ["screen", "colour", "many", "row", "place", "part"] ["screen", "colour"] (defScope s_dots_of) := ⟨rfl, rfl, rfl, by decide +kernel, rfl, by decide +kernel, by decide +kernel⟩
set_option maxHeartbeats 4000000 in
theorem ok_dots_of (T : Txt tx K mg) : Cal P w K mg base (clN tx.ex K) "dots_of" ["screen", "colour"] 5 d_dots_of := by
  refine Cal.close <| cal_of (N := ["screen", "colour", "many", "row", "place", "part"]) (ps := ["screen", "colour"]) (n := 2) (j := 4) T 17 (by rfl) (T.glo 32) rfl rfl sc_dots_of rfl rfl (fun _ _ _ _ _ _ us hl => match us, hl with | [_, _], _ => rfl) (fun f cdv A outer s H E hr tk hp => ?_)
  exact qss_cons (qs_expr (qe_callC (ok_check T) hr tk (qa_cons (qe_callC (ok_is_screen T) hr tk (qa_cons (qe_var 0) qa_nil) (by decide)) qa_nil) (by decide)))
        (qss_cons (qs_expr (qe_callC (ok_check T) hr tk (qa_cons (qe_callC (ok_is_plain T) hr tk (qa_cons (qe_var 1) qa_nil) (by decide)) qa_nil) (by decide)))
        (qss_cons (qs_set 2 sc_dots_of.nd (qe_bin op_mulA od_mul (qe_callB call_lenA on_len (by rfl) (T.free 3) (by decide +kernel) (qa_cons (qe_var 0) qa_nil)) (qe_callB call_lenA on_len (by rfl) (T.free 3) (by decide +kernel) (qa_cons (qe_ix ix_seq od_ix (qe_var 0) qe_int (fun _ _ => rfl)) qa_nil))))
        (qss_one (qs_ret (qe_callTy call_tuple_of on_tuple (by rfl) (T.free 7) (by decide +kernel) (qa_cons (qe_lc [("row", 3)] rfl sc_dots_of.nd (by decide) (qi_data (qe_var 0)) (blkOk_by (N := ["screen", "colour", "many", "row", "place", "part"]) (sc := defScope s_dots_of) (by decide +kernel)) (fun _ _ _ _ _ => qg_name 3 sc_dots_of.nd) (fun _ _ _ _ _ => qts_nil) (fun _ _ _ _ _ => qe_callTy call_tuple_of on_tuple (by rfl) (T.free 7) (by decide +kernel) (qa_cons (qe_lcB [("place", 4)] rfl sc_dots_of.nd (by decide) (qi_data (qe_var 3)) (blkOk_by (N := ["screen", "colour", "many", "row", "place", "part"]) (by decide +kernel)) (fun _ _ _ _ _ => qg_name 4 sc_dots_of.nd) (fun _ _ _ _ _ => qts_nil) (fun _ _ _ _ _ => qe_callTy call_tuple_of on_tuple (by rfl) (T.free 7) (by decide +kernel) (qa_cons (qe_lcB [("part", 5)] rfl sc_dots_of.nd (by decide) (qi_data (qe_var 1)) (blkOk_by (N := ["screen", "colour", "many", "row", "place", "part"]) (by decide +kernel)) (fun _ _ _ _ _ => qg_name 5 sc_dots_of.nd) (fun _ _ _ _ _ => qts_nil) (fun _ _ _ _ _ => qe_callC (ok_dot_of T) hr takes0 (qa_cons (qe_var 5) (qa_cons (qe_var 2) (qa_cons (qe_var 4) qa_nil))) (by decide))) qa_nil))) qa_nil))) qa_nil))))))
abbrev s_is_within : Stmt := topS 4
theorem sc_is_within : FnScope ["value", "low", "high"] ["value", "low", "high"] (defScope s_is_within) := ⟨rfl, rfl, rfl, by decide +kernel, rfl, by decide +kernel, by decide +kernel⟩
set_option maxHeartbeats 4000000 in
theorem ok_is_within (T : Txt tx K mg) : Cal P w K mg base (clN tx.ex K) "is_within" ["value", "low", "high"] 2 d_is_within := by
  refine Cal.close <| cal_of (N := ["value", "low", "high"]) (ps := ["value", "low", "high"]) (n := 3) (j := 0) T 18 (by rfl) (T.glo 33) rfl rfl sc_is_within rfl rfl (fun _ _ _ _ _ _ us hl => match us, hl with | [_, _, _], _ => rfl) (fun f cdv A outer s H E hr tk hp => ?_)
  exact qss_one (qs_ret (qe_and (qe_callC (ok_is_integer T) hr tk (qa_cons (qe_var 0) qa_nil) (by decide)) (qe_one (qe_chain op_le op_le od_le od_le (qe_var 1) (qe_var 0) (qe_var 2)))))
abbrev s_are_levels : Stmt := topS 28
theorem sc_are_levels : FnScope ["value", "part"] ["value"] (defScope s_are_levels) := ⟨rfl, rfl, rfl, by decide +kernel, rfl, by decide +kernel, by decide +kernel⟩
set_option maxHeartbeats 4000000 in
theorem ok_are_levels (T : Txt tx K mg) : Cal P w K mg base (clN tx.ex K) "are_levels" ["value"] 3 d_are_levels := by
  refine Cal.close <| cal_of (N := ["value", "part"]) (ps := ["value"]) (n := 1) (j := 1) T 19 (by rfl) (T.glo 34) rfl rfl sc_are_levels rfl rfl (fun _ _ _ _ _ _ us hl => match us, hl with | [_], _ => rfl) (fun f cdv A outer s H E hr tk hp => ?_)
  exact qss_one (qs_ret (qe_and (qe_isi (by rfl) (T.free 6) (qe_var 0) (by rfl) (T.free 7) (by decide +kernel)) (qe_and (qe_cmp (op_eqD hr.units) od_eq (qe_callB call_lenA on_len (by rfl) (T.free 3) (by decide +kernel) (qa_cons (qe_var 0) qa_nil)) qe_int (nomark _)) (qe_one (qe_callB (cr_all rfl) on_all (by rfl) (T.free 8) (by decide +kernel) (qa_cons (qe_lc [("part", 1)] rfl sc_are_levels.nd (by decide) (qi_data (qe_var 0)) (blkOk_by (N := ["value", "part"]) (sc := defScope s_are_levels) (by decide +kernel)) (fun _ _ _ _ _ => qg_name 1 sc_are_levels.nd) (fun _ _ _ _ _ => qts_nil) (fun _ _ _ _ _ => qe_callC (ok_is_within T) hr takes0 (qa_cons (qe_var 1) (qa_cons qe_int (qa_cons (qe_const (T.cons 2)) qa_nil))) (by decide))) qa_nil))))))
abbrev s_unit_of : Stmt := topS 20
theorem sc_unit_of : FnScope ["a"] ["a"] (defScope s_unit_of) := ⟨rfl, rfl, rfl, by decide +kernel, rfl, by decide +kernel, by decide +kernel⟩
set_option maxHeartbeats 4000000 in
theorem ok_unit_of (T : Txt tx K mg) : Cal P w K mg base (clN tx.ex K) "unit_of" ["a"] 1 d_unit_of := by
  refine Cal.close <| cal_of (N := ["a"]) (ps := ["a"]) (n := 1) (j := 0) T 20 (by rfl) (T.glo 35) rfl rfl sc_unit_of rfl rfl (fun _ _ _ _ _ _ us hl => match us, hl with | [_], _ => rfl) (fun f cdv A outer s H E hr tk hp => ?_)
  exact qss_cons (qs_if (qt_cmp op_lt od_lt b2_lt (qe_ix ix_seq od_ix (qe_var 0) qe_int (fun _ _ => rfl)) qe_int (nomark _)) (qss_one (qs_ret (qe_const (T.cons 0)))) qss_nil)
        (qss_one (qs_ret (qe_ifE (qt_cmp op_gt od_gt b2_gt (qe_ix ix_seq od_ix (qe_var 0) qe_int (fun _ _ => rfl)) (qe_ix ix_seq od_ix (qe_var 0) qe_int (fun _ _ => rfl)) (nomark _)) (qe_const (T.cons 1)) (qe_var 0))))
abbrev s_plain_of : Stmt := topS 22
theorem sc_plain_of : FnScope ["colour", "part"] ["colour"] (defScope s_plain_of) := ⟨rfl, rfl, rfl, by decide +kernel, rfl, by decide +kernel, by decide +kernel⟩
set_option maxHeartbeats 4000000 in
theorem ok_plain_of (T : Txt tx K mg) : Cal P w K mg base (clN tx.ex K) "plain_of" ["colour"] 2 d_plain_of := by
  refine Cal.close <| cal_of (N := ["colour", "part"]) (ps := ["colour"]) (n := 1) (j := 1) T 21 (by rfl) (T.glo 36) rfl rfl sc_plain_of rfl rfl (fun _ _ _ _ _ _ us hl => match us, hl with | [_], _ => rfl) (fun f cdv A outer s H E hr tk hp => ?_)
  exact qss_one (qs_ret (qe_callTy call_tuple_of on_tuple (by rfl) (T.free 7) (by decide +kernel) (qa_cons (qe_lc [("part", 1)] rfl sc_plain_of.nd (by decide) (qi_data (qe_var 0)) (blkOk_by (N := ["colour", "part"]) (sc := defScope s_plain_of) (by decide +kernel)) (fun _ _ _ _ _ => qg_name 1 sc_plain_of.nd) (fun _ _ _ _ _ => qts_nil) (fun _ _ _ _ _ => qe_callC (ok_unit_of T) hr takes0 (qa_cons (qe_var 1) qa_nil) (by decide))) qa_nil)))
abbrev s_index_of : Stmt := topS 29
theorem sc_index_of : FnScope ["many", "part"] ["many", "part"] (defScope s_index_of) := ⟨rfl, rfl, rfl, by decide +kernel, rfl, by decide +kernel, by decide +kernel⟩
set_option maxHeartbeats 4000000 in
theorem ok_index_of (T : Txt tx K mg) : Cal P w K mg base (clN tx.ex K) "index_of" ["many", "part"] 1 d_index_of := by
  refine Cal.close <| cal_of (N := ["many", "part"]) (ps := ["many", "part"]) (n := 2) (j := 0) T 22 (by rfl) (T.glo 37) rfl rfl sc_index_of rfl rfl (fun _ _ _ _ _ _ us hl => match us, hl with | [_, _], _ => rfl) (fun f cdv A outer s H E hr tk hp => ?_)
  exact qss_one (qs_ret (qe_bin op_fdivW od_fdiv (qe_bin op_addA od_add (qe_bin op_mulA od_mul (qe_bin op_mulA od_mul qe_int (qe_ix ix_seq od_ix (qe_var 1) qe_int (fun _ _ => rfl))) (qe_bin op_sub od_sub (qe_var 0) qe_int)) (qe_ix ix_seq od_ix (qe_var 1) qe_int (fun _ _ => rfl))) (qe_bin op_mulA od_mul qe_int (qe_ix ix_seq od_ix (qe_var 1) qe_int (fun _ _ => rfl)))))
abbrev s_put_by : Stmt := topS 30
theorem sc_put_by : FnScope ["levels", "colour", "many", "part"] ["levels", "colour"] (defScope s_put_by) := ⟨rfl, rfl, rfl, by decide +kernel, rfl, by decide +kernel, by decide +kernel⟩
set_option maxHeartbeats 4000000 in
theorem ok_put_by (T : Txt tx K mg) : Cal P w K mg base (clN tx.ex K) "put_by" ["levels", "colour"] 3 d_put_by := by
  refine Cal.close <| cal_of (N := ["levels", "colour", "many", "part"]) (ps := ["levels", "colour"]) (n := 2) (j := 2) T 23 (by rfl) (T.glo 38) rfl rfl sc_put_by rfl rfl (fun _ _ _ _ _ _ us hl => match us, hl with | [_, _], _ => rfl) (fun f cdv A outer s H E hr tk hp => ?_)
  exact qss_one (qs_ret (qe_callTy call_tuple_of on_tuple (by rfl) (T.free 7) (by decide +kernel) (qa_cons (qe_lc [("many", 2), ("part", 3)] rfl sc_put_by.nd (by decide) (qi_zip (by rfl) (T.free 11) (qa_cons (qe_var 0) (qa_cons (qe_var 1) qa_nil))) (blkOk_by (N := ["levels", "colour", "many", "part"]) (sc := defScope s_put_by) (by decide +kernel)) (fun _ _ _ _ _ => qg_tup rfl (qgs_cons (qg_name 2 sc_put_by.nd) (qgs_cons (qg_name 3 sc_put_by.nd) (qgs_nil (is := []))))) (fun _ _ _ _ _ => qts_nil) (fun _ _ _ _ _ => qe_callC (ok_made T) hr takes0 (qa_cons (qe_callC (ok_index_of T) hr takes0 (qa_cons (qe_var 2) (qa_cons (qe_var 3) qa_nil)) (by decide)) (qa_cons (qe_bin op_sub od_sub (qe_var 2) qe_int) qa_nil)) (by decide))) qa_nil)))
abbrev s_less : Stmt := topS 16
theorem sc_less : FnScope ["a", "b"] ["a", "b"] (defScope s_less) := ⟨rfl, rfl, rfl, by decide +kernel, rfl, by decide +kernel, by decide +kernel⟩
set_option maxHeartbeats 4000000 in
theorem ok_less (T : Txt tx K mg) : Cal P w K mg base (clN tx.ex K) "less" ["a", "b"] 3 d_less := by
  refine Cal.close <| cal_of (N := ["a", "b"]) (ps := ["a", "b"]) (n := 2) (j := 0) T 24 (by rfl) (T.glo 39) rfl rfl sc_less rfl rfl (fun _ _ _ _ _ _ us hl => match us, hl with | [_, _], _ => rfl) (fun f cdv A outer s H E hr tk hp => ?_)
  exact qss_one (qs_ret (qe_callC (ok_made T) hr tk (qa_cons (qe_bin op_sub od_sub (qe_bin op_mulA od_mul (qe_ix ix_seq od_ix (qe_var 0) qe_int (fun _ _ => rfl)) (qe_ix ix_seq od_ix (qe_var 1) qe_int (fun _ _ => rfl))) (qe_bin op_mulA od_mul (qe_ix ix_seq od_ix (qe_var 1) qe_int (fun _ _ => rfl)) (qe_ix ix_seq od_ix (qe_var 0) qe_int (fun _ _ => rfl)))) (qa_cons (qe_bin op_mulA od_mul (qe_ix ix_seq od_ix (qe_var 0) qe_int (fun _ _ => rfl)) (qe_ix ix_seq od_ix (qe_var 1) qe_int (fun _ _ => rfl))) qa_nil)) (by decide)))
abbrev s_spread : Stmt := topS 38
theorem sc_spread : FnScope ["levels", "colours", "colour", "found", "left", "was_clipped", "whole", "clipped", "a", "b"] ["levels", "colours"] (defScope s_spread) := ⟨rfl, rfl, rfl, by decide +kernel, rfl, by decide +kernel, by decide +kernel⟩
set_option maxHeartbeats 4000000 in
theorem ok_spread (T : Txt tx K mg) : Cal P w K mg base (clN tx.ex K) "spread" ["levels", "colours"] 5 d_spread := by
  refine Cal.close <| cal_of (N := ["levels", "colours", "colour", "found", "left", "was_clipped", "whole", "clipped", "a", "b"]) (ps := ["levels", "colours"]) (n := 2) (j := 8) T 25 (by rfl) (T.glo 40) rfl rfl sc_spread rfl rfl (fun _ _ _ _ _ _ us hl => match us, hl with | [_, _], _ => rfl) (fun f cdv A outer s H E hr tk hp => ?_)
  exact qss_cons (qs_expr (qe_callC (ok_check T) hr tk (qa_cons (qe_callC (ok_are_levels T) hr tk (qa_cons (qe_var 0) qa_nil) (by decide)) qa_nil) (by decide)))
        (qss_cons (qs_expr (qe_callC (ok_check T) hr tk (qa_cons (qe_and (qe_isi (by rfl) (T.free 6) (qe_var 1) (by rfl) (T.free 7) (by decide +kernel)) (qe_and (qe_cmp op_gt od_gt (qe_callB call_lenA on_len (by rfl) (T.free 3) (by decide +kernel) (qa_cons (qe_var 1) qa_nil)) qe_int (nomark _)) (qe_one (qe_callB (cr_all rfl) on_all (by rfl) (T.free 8) (by decide +kernel) (qa_cons (qe_lc [("colour", 2)] rfl sc_spread.nd (by decide) (qi_data (qe_var 1)) (blkOk_by (N := ["levels", "colours", "colour", "found", "left", "was_clipped", "whole", "clipped", "a", "b"]) (sc := defScope s_spread) (by decide +kernel)) (fun _ _ _ _ _ => qg_name 2 sc_spread.nd) (fun _ _ _ _ _ => qts_nil) (fun _ _ _ _ _ => qe_callC (ok_is_plain T) hr takes0 (qa_cons (qe_var 2) qa_nil) (by decide))) qa_nil))))) qa_nil) (by decide)))
        (qss_cons (qs_par3 3 4 5 rfl sc_spread.nd (qa_cons (qe_lstC qa_nil) (qa_cons (qe_tup (qa_cons (qe_const (T.cons 0)) (qa_cons (qe_const (T.cons 0)) (qa_cons (qe_const (T.cons 0)) qa_nil)))) (qa_cons qe_bl qa_nil))) (by rfl) (by rfl) (by rfl) (by decide) (by decide) (by decide) (by rfl) (by rfl) (by rfl) (by rfl))
        (qss_cons (qs_for hp rfl (qi_data (qe_var 1)) (qg_name 2 sc_spread.nd) (qss_cons (qs_set 6 sc_spread.nd (qe_callTy call_tuple_of on_tuple (by rfl) (T.free 7) (by decide +kernel) (qa_cons (qe_lc [("a", 8), ("b", 9)] rfl sc_spread.nd (by decide) (qi_zip (by rfl) (T.free 11) (qa_cons (qe_var 2) (qa_cons (qe_var 4) qa_nil))) (blkOk_by (N := ["levels", "colours", "colour", "found", "left", "was_clipped", "whole", "clipped", "a", "b"]) (sc := defScope s_spread) (by decide +kernel)) (fun _ _ _ _ _ => qg_tup rfl (qgs_cons (qg_name 8 sc_spread.nd) (qgs_cons (qg_name 9 sc_spread.nd) (qgs_nil (is := []))))) (fun _ _ _ _ _ => qts_nil) (fun _ _ _ _ _ => qe_callC (ok_add T) hr takes0 (qa_cons (qe_var 8) (qa_cons (qe_var 9) qa_nil)) (by decide))) qa_nil)))
        (qss_cons (qs_set 7 sc_spread.nd (qe_callC (ok_plain_of T) hr tk (qa_cons (qe_var 6) qa_nil) (by decide)))
        (qss_cons (qs_set 5 sc_spread.nd (qe_or (qe_var 5) (qe_one (qe_cmp (op_neD hr.units) od_ne (qe_var 7) (qe_var 6) (nomark _)))))
        (qss_cons (qs_expr (qe_append (qe_var 3) (qe_callC (ok_put_by T) hr tk (qa_cons (qe_var 0) (qa_cons (qe_var 7) qa_nil)) (by decide))))
        (qss_one (qs_set 4 sc_spread.nd (qe_callTy call_tuple_of on_tuple (by rfl) (T.free 7) (by decide +kernel) (qa_cons (qe_lc [("a", 8), ("b", 9)] rfl sc_spread.nd (by decide) (qi_zip (by rfl) (T.free 11) (qa_cons (qe_var 7) (qa_cons (qe_ix ix_seq od_ix (qe_var 3) (qe_un un_neg o1_neg qe_int) (fun _ _ => rfl)) qa_nil))) (blkOk_by (N := ["levels", "colours", "colour", "found", "left", "was_clipped", "whole", "clipped", "a", "b"]) (sc := defScope s_spread) (by decide +kernel)) (fun _ _ _ _ _ => qg_tup rfl (qgs_cons (qg_name 8 sc_spread.nd) (qgs_cons (qg_name 9 sc_spread.nd) (qgs_nil (is := []))))) (fun _ _ _ _ _ => qts_nil) (fun _ _ _ _ _ => qe_callC (ok_less T) hr takes0 (qa_cons (qe_var 8) (qa_cons (qe_var 9) qa_nil)) (by decide))) qa_nil)))))))))
        (qss_one (qs_ret (qe_tup (qa_cons (qe_callTy call_tuple_of on_tuple (by rfl) (T.free 7) (by decide +kernel) (qa_cons (qe_var 3) qa_nil)) (qa_cons (qe_var 5) qa_nil))))))))
abbrev s_grown_screen : Stmt := topS 39
theorem sc_grown_screen : FnScope ["n", "screen", "_", "above", "below", "row", "place"] ["n"] (defScope s_grown_screen) := ⟨rfl, rfl, rfl, by decide +kernel, rfl, by decide +kernel, by decide +kernel⟩
set_option maxHeartbeats 4000000 in
theorem ok_grown_screen (T : Txt tx K mg) : Cal P w K mg base (clN tx.ex K) "grown_screen" ["n"] 3 d_grown_screen := by
  refine Cal.close <| cal_of (N := ["n", "screen", "_", "above", "below", "row", "place"]) (ps := ["n"]) (n := 1) (j := 6) T 26 (by rfl) (T.glo 41) rfl rfl sc_grown_screen rfl rfl (fun _ _ _ _ _ _ us hl => match us, hl with | [_], _ => rfl) (fun f cdv A outer s H E hr tk hp => ?_)
  exact qss_cons (qs_expr (qe_callC (ok_check T) hr tk (qa_cons (qe_callC (ok_is_within T) hr tk (qa_cons (qe_var 0) (qa_cons qe_int (qa_cons (qe_const (T.cons 3)) qa_nil))) (by decide)) qa_nil) (by decide)))
        (qss_cons (qs_set 1 sc_grown_screen.nd (qe_tup (qa_cons (qe_tup (qa_cons qe_int qa_nil)) qa_nil)))
        (qss_cons (qs_for hp rfl (qi_rng1 (by rfl) (T.free 2) (qa_cons (qe_var 0) qa_nil)) (qg_name 2 sc_grown_screen.nd) (qss_cons (qs_setLc 3 [("row", 5)] rfl sc_grown_screen.nd (by decide) (qi_data (qe_var 1)) (blkOk_by (N := ["n", "screen", "_", "above", "below", "row", "place"]) (sc := defScope s_grown_screen) (by decide +kernel)) (fun _ _ _ _ _ => qg_name 5 sc_grown_screen.nd) (fun _ _ _ _ _ => qts_nil) (fun _ _ _ _ _ => qe_callTy call_tuple_of on_tuple (by rfl) (T.free 7) (by decide +kernel) (qa_cons (qe_bin op_addA od_add (qe_lcB [("place", 6)] rfl sc_grown_screen.nd (by decide) (qi_data (qe_var 5)) (blkOk_by (N := ["n", "screen", "_", "above", "below", "row", "place"]) (by decide +kernel)) (fun _ _ _ _ _ => qg_name 6 sc_grown_screen.nd) (fun _ _ _ _ _ => qts_nil) (fun _ _ _ _ _ => qe_bin op_mulA od_mul qe_int (qe_var 6))) (qe_lcB [("place", 6)] rfl sc_grown_screen.nd (by decide) (qi_data (qe_var 5)) (blkOk_by (N := ["n", "screen", "_", "above", "below", "row", "place"]) (by decide +kernel)) (fun _ _ _ _ _ => qg_name 6 sc_grown_screen.nd) (fun _ _ _ _ _ => qts_nil) (fun _ _ _ _ _ => qe_bin op_addA od_add (qe_bin op_mulA od_mul qe_int (qe_var 6)) qe_int))) qa_nil)) (by rfl) (by rfl) (sw_true rfl rfl rfl (by decide +kernel)))
        (qss_cons (qs_setLc 4 [("row", 5)] rfl sc_grown_screen.nd (by decide) (qi_data (qe_var 1)) (blkOk_by (N := ["n", "screen", "_", "above", "below", "row", "place"]) (sc := defScope s_grown_screen) (by decide +kernel)) (fun _ _ _ _ _ => qg_name 5 sc_grown_screen.nd) (fun _ _ _ _ _ => qts_nil) (fun _ _ _ _ _ => qe_callTy call_tuple_of on_tuple (by rfl) (T.free 7) (by decide +kernel) (qa_cons (qe_bin op_addA od_add (qe_lcB [("place", 6)] rfl sc_grown_screen.nd (by decide) (qi_data (qe_var 5)) (blkOk_by (N := ["n", "screen", "_", "above", "below", "row", "place"]) (by decide +kernel)) (fun _ _ _ _ _ => qg_name 6 sc_grown_screen.nd) (fun _ _ _ _ _ => qts_nil) (fun _ _ _ _ _ => qe_bin op_addA od_add (qe_bin op_mulA od_mul qe_int (qe_var 6)) qe_int)) (qe_lcB [("place", 6)] rfl sc_grown_screen.nd (by decide) (qi_data (qe_var 5)) (blkOk_by (N := ["n", "screen", "_", "above", "below", "row", "place"]) (by decide +kernel)) (fun _ _ _ _ _ => qg_name 6 sc_grown_screen.nd) (fun _ _ _ _ _ => qts_nil) (fun _ _ _ _ _ => qe_bin op_addA od_add (qe_bin op_mulA od_mul qe_int (qe_var 6)) qe_int))) qa_nil)) (by rfl) (by rfl) (sw_true rfl rfl rfl (by decide +kernel)))
        (qss_one (qs_set 1 sc_grown_screen.nd (qe_tup (qa_star (qe_var 3) (qa_star (qe_var 4) qa_nil))))))))
        (qss_one (qs_ret (qe_var 1)))))
abbrev s_is_dots : Stmt := topS 36
theorem sc_is_dots : FnScope ["value", "dot"] ["value"] (defScope s_is_dots) := ⟨rfl, rfl, rfl, by decide +kernel, rfl, by decide +kernel, by decide +kernel⟩
set_option maxHeartbeats 4000000 in
theorem ok_is_dots (T : Txt tx K mg) : Cal P w K mg base (clN tx.ex K) "is_dots" ["value"] 2 d_is_dots := by
  refine Cal.close <| cal_of (N := ["value", "dot"]) (ps := ["value"]) (n := 1) (j := 1) T 27 (by rfl) (T.glo 42) rfl rfl sc_is_dots rfl rfl (fun _ _ _ _ _ _ us hl => match us, hl with | [_], _ => rfl) (fun f cdv A outer s H E hr tk hp => ?_)
  exact qss_one (qs_ret (qe_and (qe_isi (by rfl) (T.free 6) (qe_var 0) (by rfl) (T.free 7) (by decide +kernel)) (qe_and (qe_cmp (op_eqD hr.units) od_eq (qe_callB call_lenA on_len (by rfl) (T.free 3) (by decide +kernel) (qa_cons (qe_var 0) qa_nil)) qe_int (nomark _)) (qe_one (qe_callB (cr_all rfl) on_all (by rfl) (T.free 8) (by decide +kernel) (qa_cons (qe_lc [("dot", 1)] rfl sc_is_dots.nd (by decide) (qi_data (qe_var 0)) (blkOk_by (N := ["value", "dot"]) (sc := defScope s_is_dots) (by decide +kernel)) (fun _ _ _ _ _ => qg_name 1 sc_is_dots.nd) (fun _ _ _ _ _ => qts_nil) (fun _ _ _ _ _ => qe_and (qe_callC (ok_is_integer T) hr takes0 (qa_cons (qe_var 1) qa_nil) (by decide)) (qe_one (qe_cmp (op_inA (units65 hr)) od_in (qe_var 1) (qe_const (T.cons 5)) (by rfl))))) qa_nil))))))
abbrev s_total : Stmt := topS 19
theorem sc_total : FnScope ["values", "found", "value"] ["values"] (defScope s_total) := ⟨rfl, rfl, rfl, by decide +kernel, rfl, by decide +kernel, by decide +kernel⟩
set_option maxHeartbeats 4000000 in
theorem ok_total (T : Txt tx K mg) : Cal P w K mg base (clN tx.ex K) "total" ["values"] 4 d_total := by
  refine Cal.close <| cal_of (N := ["values", "found", "value"]) (ps := ["values"]) (n := 1) (j := 2) T 28 (by rfl) (T.glo 43) rfl rfl sc_total rfl rfl (fun _ _ _ _ _ _ us hl => match us, hl with | [_], _ => rfl) (fun f cdv A outer s H E hr tk hp => ?_)
  exact qss_cons (qs_set 1 sc_total.nd (qe_const (T.cons 0)))
        (qss_cons (qs_for hp rfl (qi_data (qe_var 0)) (qg_name 2 sc_total.nd) (qss_one (qs_set 1 sc_total.nd (qe_callC (ok_add T) hr tk (qa_cons (qe_var 1) (qa_cons (qe_var 2) qa_nil)) (by decide)))))
        (qss_one (qs_ret (qe_var 1))))
abbrev s_mean_of : Stmt := topS 37
theorem sc_mean_of : FnScope ["rows", "places", "are_dots", "share", "row", "place", "at", "dot"] ["rows"] (defScope s_mean_of) := ⟨rfl, rfl, rfl, by decide +kernel, rfl, by decide +kernel, by decide +kernel⟩
set_option maxHeartbeats 4000000 in
theorem ok_mean_of (T : Txt tx K mg) : Cal P w K mg base (clN tx.ex K) "mean_of" ["rows"] 5 d_mean_of := by
  refine Cal.close <| cal_of (N := ["rows", "places", "are_dots", "share", "row", "place", "at", "dot"]) (ps := ["rows"]) (n := 1) (j := 7) T 29 (by rfl) (T.glo 44) rfl rfl sc_mean_of rfl rfl (fun _ _ _ _ _ _ us hl => match us, hl with | [_], _ => rfl) (fun f cdv A outer s H E hr tk hp => ?_)
  exact qss_cons (qs_expr (qe_callC (ok_check T) hr tk (qa_cons (qe_callC (ok_are_rows T) hr tk (qa_cons (qe_var 0) qa_nil) (by decide)) qa_nil) (by decide)))
        (qss_cons (qs_set 1 sc_mean_of.nd (qe_lc2 [("row", 4), ("place", 5)] [5] rfl sc_mean_of.nd (by decide) (by decide) (by decide) (qi_data (qe_var 0)) (blkOk_by (N := ["rows", "places", "are_dots", "share", "row", "place", "at", "dot"]) (sc := defScope s_mean_of) (by decide +kernel)) (fun _ _ _ _ _ => qg_name 4 sc_mean_of.nd) (fun _ _ _ _ _ => qts_nil) (fun _ _ _ _ _ => qi_data (qe_var 4)) (fun _ _ _ _ _ => qg_name 5 sc_mean_of.nd) (fun _ _ _ _ _ => qts_nil) (fun _ _ _ _ _ => qe_var 5)))
        (qss_cons (qs_set 2 sc_mean_of.nd (qe_callB (cr_all rfl) on_all (by rfl) (T.free 8) (by decide +kernel) (qa_cons (qe_lc [("place", 5)] rfl sc_mean_of.nd (by decide) (qi_data (qe_var 1)) (blkOk_by (N := ["rows", "places", "are_dots", "share", "row", "place", "at", "dot"]) (sc := defScope s_mean_of) (by decide +kernel)) (fun _ _ _ _ _ => qg_name 5 sc_mean_of.nd) (fun _ _ _ _ _ => qts_nil) (fun _ _ _ _ _ => qe_callC (ok_is_dots T) hr takes0 (qa_cons (qe_var 5) qa_nil) (by decide))) qa_nil)))
        (qss_cons (qs_expr (qe_callC (ok_check T) hr tk (qa_cons (qe_or (qe_var 2) (qe_one (qe_callB (cr_all rfl) on_all (by rfl) (T.free 8) (by decide +kernel) (qa_cons (qe_lc [("place", 5)] rfl sc_mean_of.nd (by decide) (qi_data (qe_var 1)) (blkOk_by (N := ["rows", "places", "are_dots", "share", "row", "place", "at", "dot"]) (sc := defScope s_mean_of) (by decide +kernel)) (fun _ _ _ _ _ => qg_name 5 sc_mean_of.nd) (fun _ _ _ _ _ => qts_nil) (fun _ _ _ _ _ => qe_callC (ok_is_colour T) hr takes0 (qa_cons (qe_var 5) qa_nil) (by decide))) qa_nil)))) qa_nil) (by decide)))
        (qss_cons (qs_if (qt_val (qe_var 2)) (qss_one (qs_set 1 sc_mean_of.nd (qe_lc [("place", 5)] rfl sc_mean_of.nd (by decide) (qi_data (qe_var 1)) (blkOk_by (N := ["rows", "places", "are_dots", "share", "row", "place", "at", "dot"]) (sc := defScope s_mean_of) (by decide +kernel)) (fun _ _ _ _ _ => qg_name 5 sc_mean_of.nd) (fun _ _ _ _ _ => qts_nil) (fun _ _ _ _ _ => qe_callTy call_tuple_of on_tuple (by rfl) (T.free 7) (by decide +kernel) (qa_cons (qe_lcB [("dot", 7)] rfl sc_mean_of.nd (by decide) (qi_data (qe_var 5)) (blkOk_by (N := ["rows", "places", "are_dots", "share", "row", "place", "at", "dot"]) (by decide +kernel)) (fun _ _ _ _ _ => qg_name 7 sc_mean_of.nd) (fun _ _ _ _ _ => qts_nil) (fun _ _ _ _ _ => qe_callC (ok_made T) hr takes0 (qa_cons (qe_var 7) (qa_cons qe_int qa_nil)) (by decide))) qa_nil))))) qss_nil)
        (qss_cons (qs_set 3 sc_mean_of.nd (qe_callC (ok_made T) hr tk (qa_cons qe_int (qa_cons (qe_callB call_lenA on_len (by rfl) (T.free 3) (by decide +kernel) (qa_cons (qe_var 1) qa_nil)) qa_nil)) (by decide)))
        (qss_one (qs_ret (qe_callTy call_tuple_of on_tuple (by rfl) (T.free 7) (by decide +kernel) (qa_cons (qe_lc [("at", 6)] rfl sc_mean_of.nd (by decide) (qi_rng1 (by rfl) (T.free 2) (qa_cons qe_int qa_nil)) (blkOk_by (N := ["rows", "places", "are_dots", "share", "row", "place", "at", "dot"]) (sc := defScope s_mean_of) (by decide +kernel)) (fun _ _ _ _ _ => qg_name 6 sc_mean_of.nd) (fun _ _ _ _ _ => qts_nil) (fun _ _ _ _ _ => qe_callC (ok_product T) hr takes0 (qa_cons (qe_callC (ok_total T) hr takes0 (qa_cons (qe_lcB [("place", 5)] rfl sc_mean_of.nd (by decide) (qi_data (qe_var 1)) (blkOk_by (N := ["rows", "places", "are_dots", "share", "row", "place", "at", "dot"]) (by decide +kernel)) (fun _ _ _ _ _ => qg_name 5 sc_mean_of.nd) (fun _ _ _ _ _ => qts_nil) (fun _ _ _ _ _ => qe_ix ix_seq od_ix (qe_var 5) (qe_var 6) (fun _ _ => rfl))) qa_nil) (by decide)) (qa_cons (qe_var 3) qa_nil)) (by decide))) qa_nil)))))))))
abbrev s_u_law_told : Stmt := topS 55
theorem sc_u_law_told : FnScope ["which", "one", "two"] ["which", "one", "two"] (defScope s_u_law_told) := ⟨rfl, rfl, rfl, by decide +kernel, rfl, by decide +kernel, by decide +kernel⟩
set_option maxHeartbeats 4000000 in
theorem ok_u_law_told (T : Txt tx K mg) : Cal P w K mg base (clN tx.ex K) "_law_told" ["which", "one", "two"] 6 d_u_law_told := by
  refine Cal.close <| cal_of (N := ["which", "one", "two"]) (ps := ["which", "one", "two"]) (n := 3) (j := 0) T 30 (by rfl) (T.glo 45) rfl rfl sc_u_law_told rfl rfl (fun _ _ _ _ _ _ us hl => match us, hl with | [_, _, _], _ => rfl) (fun f cdv A outer s H E hr tk hp => ?_)
  exact qss_one (qs_try (hs := [(1, retM (tupM (aCons (cst (.str "refused")) (aCons (cst (.str "not right")) aNil)))), (0, retM (tupM (aCons (cst (.str "refused")) (aCons (cst (.str "other")) aNil))))]) rfl rfl tk (T.exm (by decide)) (fun W pn xe tk hp => qss_cons (qs_if (qt_cmp op_lt od_lt b2_lt (qe_var 0) qe_int (nomark _)) (qss_one (qs_ret (qe_ifE (qt_cmp (op_eqD hr.units) od_eq b2_eq (qe_var 0) qe_int (nomark _)) (qe_callC (ok_grown_screen T) hr tk (qa_cons (qe_var 1) qa_nil) (by decide)) (qe_callC (ok_mean_of T) hr tk (qa_cons (qe_var 1) qa_nil) (by decide))))) qss_nil)
        (qss_one (qs_ret (qe_ifE (qt_cmp (op_eqD hr.units) od_eq b2_eq (qe_var 0) qe_int (nomark _)) (qe_callC (ok_dots_of T) hr tk (qa_cons (qe_var 1) (qa_cons (qe_var 2) qa_nil)) (by decide)) (qe_callC (ok_spread T) hr tk (qa_cons (qe_var 1) (qa_cons (qe_var 2) qa_nil)) (by decide)))))) (HdsOk.cons ⟨rfl, by decide, .inl (T.glo 13)⟩ (fun _ _ _ _ _ _ _ => qss_one (qs_ret (qe_tup (qa_cons qe_str (qa_cons qe_str qa_nil))))) (HdsOk.cons ⟨rfl, by decide, .inl (T.glo 14)⟩ (fun _ _ _ _ _ _ _ => qss_one (qs_ret (qe_tup (qa_cons qe_str (qa_cons qe_str qa_nil))))) HdsOk.nil)))
abbrev s_u_law_place : Stmt := topS 56
theorem sc_u_law_place : FnScope ["n", "row", "column", "found", "k", "low", "left"] ["n", "row", "column"] (defScope s_u_law_place) := ⟨rfl, rfl, rfl, by decide +kernel, rfl, by decide +kernel, by decide +kernel⟩
set_option maxHeartbeats 4000000 in
theorem ok_u_law_place (T : Txt tx K mg) : Cal P w K mg base (clN tx.ex K) "_law_place" ["n", "row", "column"] 1 d_u_law_place := by
  refine Cal.close <| cal_of (N := ["n", "row", "column", "found", "k", "low", "left"]) (ps := ["n", "row", "column"]) (n := 3) (j := 4) T 31 (by rfl) (T.glo 46) rfl rfl sc_u_law_place rfl rfl (fun _ _ _ _ _ _ us hl => match us, hl with | [_, _, _], _ => rfl) (fun f cdv A outer s H E hr tk hp => ?_)
  exact qss_cons (qs_set 3 sc_u_law_place.nd qe_int)
        (qss_cons (qs_for hp rfl (qi_rng1 (by rfl) (T.free 2) (qa_cons (qe_var 0) qa_nil)) (qg_name 4 sc_u_law_place.nd) (qss_cons (qs_par 5 6 rfl sc_u_law_place.nd (qa_cons (qe_bin op_mod od_mod (qe_callTy call_int1 on_int (by rfl) (T.free 1) (by decide +kernel) (qa_cons (qe_var 1) qa_nil)) qe_int) (qa_cons (qe_bin op_mod od_mod (qe_callTy call_int1 on_int (by rfl) (T.free 1) (by decide +kernel) (qa_cons (qe_var 2) qa_nil)) qe_int) qa_nil)) (by rfl) (by rfl) (by decide) (by rfl) (by rfl) (by rfl))
        (qss_cons (qs_set 3 sc_u_law_place.nd (qe_bin op_addA od_add (qe_bin op_mulA od_mul qe_int (qe_var 3)) (qe_ix ix_seq od_ix (qe_ix ix_seq od_ix (qe_lstD (qa_cons (qe_lstD (qa_cons qe_int (qa_cons qe_int qa_nil))) (qa_cons (qe_lstD (qa_cons qe_int (qa_cons qe_int qa_nil))) qa_nil))) (qe_var 5) (fun _ _ => rfl)) (qe_var 6) (fun _ _ => rfl))))
        (qss_one (qs_par 1 2 rfl sc_u_law_place.nd (qa_cons (qe_bin op_fdivW od_fdiv (qe_var 1) qe_int) (qa_cons (qe_bin op_fdivW od_fdiv (qe_var 2) qe_int) qa_nil)) (by rfl) (by rfl) (by decide) (by rfl) (by rfl) (by rfl))))))
        (qss_one (qs_ret (qe_var 3))))
abbrev s_u_law_grown : Stmt := topS 57
theorem sc_u_law_grown : FnScope ["n", "side", "row", "column"] ["n"] (defScope s_u_law_grown) := ⟨rfl, rfl, rfl, by decide +kernel, rfl, by decide +kernel, by decide +kernel⟩
set_option maxHeartbeats 4000000 in
theorem ok_u_law_grown (T : Txt tx K mg) : Cal P w K mg base (clN tx.ex K) "_law_grown" ["n"] 2 d_u_law_grown := by
  refine Cal.close <| cal_of (N := ["n", "side", "row", "column"]) (ps := ["n"]) (n := 1) (j := 3) T 32 (by rfl) (T.glo 47) rfl rfl sc_u_law_grown rfl rfl (fun _ _ _ _ _ _ us hl => match us, hl with | [_], _ => rfl) (fun f cdv A outer s H E hr tk hp => ?_)
  exact qss_cons (qs_set 1 sc_u_law_grown.nd (qe_ix ix_seq od_ix (qe_lstD (qa_cons qe_int (qa_cons qe_int (qa_cons qe_int (qa_cons qe_int (qa_cons qe_int (qa_cons qe_int qa_nil))))))) (qe_var 0) (fun _ _ => rfl)))
        (qss_one (qs_ret (qe_callTy call_tuple_of on_tuple (by rfl) (T.free 7) (by decide +kernel) (qa_cons (qe_lc [("row", 2)] rfl sc_u_law_grown.nd (by decide) (qi_rng1 (by rfl) (T.free 2) (qa_cons (qe_var 1) qa_nil)) (blkOk_by (N := ["n", "side", "row", "column"]) (sc := defScope s_u_law_grown) (by decide +kernel)) (fun _ _ _ _ _ => qg_name 2 sc_u_law_grown.nd) (fun _ _ _ _ _ => qts_nil) (fun _ _ _ _ _ => qe_callTy call_tuple_of on_tuple (by rfl) (T.free 7) (by decide +kernel) (qa_cons (qe_lcB [("column", 3)] rfl sc_u_law_grown.nd (by decide) (qi_rng1 (by rfl) (T.free 2) (qa_cons (qe_var 1) qa_nil)) (blkOk_by (N := ["n", "side", "row", "column"]) (by decide +kernel)) (fun _ _ _ _ _ => qg_name 3 sc_u_law_grown.nd) (fun _ _ _ _ _ => qts_nil) (fun _ _ _ _ _ => qe_callC (ok_u_law_place T) hr takes0 (qa_cons (qe_var 0) (qa_cons (qe_var 2) (qa_cons (qe_var 3) qa_nil))) (by decide))) qa_nil))) qa_nil))))
abbrev s_u_law_mixed : Stmt := topS 44
theorem sc_u_law_mixed : FnScope ["draws", "items", "waiting", "found"] ["draws", "items"] (defScope s_u_law_mixed) := ⟨rfl, rfl, rfl, by decide +kernel, rfl, by decide +kernel, by decide +kernel⟩
set_option maxHeartbeats 4000000 in
theorem ok_u_law_mixed (T : Txt tx K mg) : Cal P w K mg base (clN tx.ex K) "_law_mixed" ["draws", "items"] 2 d_u_law_mixed := by
  refine Cal.close <| cal_of (N := ["draws", "items", "waiting", "found"]) (ps := ["draws", "items"]) (n := 2) (j := 2) T 33 (by rfl) (T.glo 48) rfl rfl sc_u_law_mixed rfl rfl (fun _ _ _ _ _ _ us hl => match us, hl with | [_, _], _ => rfl) (fun f cdv A outer s H E hr tk hp => ?_)
  exact qss_cons (qs_par 2 3 rfl sc_u_law_mixed.nd (qa_cons (qe_callTyC call_list_of ol_list (by rfl) (T.free 4) (by decide +kernel) (qa_cons (qe_var 1) qa_nil)) (qa_cons (qe_lstC qa_nil) qa_nil)) (by rfl) (by rfl) (by decide) (by rfl) (by rfl) (by rfl))
        (qss_cons (qs_while hp (qt_cmp (op_neD hr.units) od_ne b2_ne (qe_var 2) (qe_lstD qa_nil) (nomark _)) (qss_one (qs_expr (qe_append (qe_var 3) (qe_popAt (qe_var 2) (qe_callC (ok_u_law_take T) hr tk (qa_cons (qe_var 0) (qa_cons (qe_callB call_lenA on_len (by rfl) (T.free 3) (by decide +kernel) (qa_cons (qe_var 2) qa_nil)) qa_nil)) (by decide)))))))
        (qss_one (qs_ret (qe_var 3))))
abbrev s_u_law_drawn_screen : Stmt := topS 58
theorem sc_u_law_drawn_screen : FnScope ["draws", "places", "high", "wide", "row"] ["draws"] (defScope s_u_law_drawn_screen) := ⟨rfl, rfl, rfl, by decide +kernel, rfl, by decide +kernel, by decide +kernel⟩
set_option maxHeartbeats 4000000 in
theorem ok_u_law_drawn_screen (T : Txt tx K mg) : Cal P w K mg base (clN tx.ex K) "_law_drawn_screen" ["draws"] 3 d_u_law_drawn_screen := by
  refine Cal.close <| cal_of (N := ["draws", "places", "high", "wide", "row"]) (ps := ["draws"]) (n := 1) (j := 4) T 34 (by rfl) (T.glo 49) rfl rfl sc_u_law_drawn_screen rfl rfl (fun _ _ _ _ _ _ us hl => match us, hl with | [_], _ => rfl) (fun f cdv A outer s H E hr tk hp => ?_)
  exact qss_cons (qs_parG (is := [2, 3]) rfl (qa_cons (qe_bin op_addA od_add qe_int (qe_callC (ok_u_law_take T) hr tk (qa_cons (qe_var 0) (qa_cons qe_int qa_nil)) (by decide))) (qa_cons (qe_bin op_addA od_add qe_int (qe_callC (ok_u_law_take T) hr tk (qa_cons (qe_var 0) (qa_cons qe_int qa_nil)) (by decide))) qa_nil)) (pgs_cons (pg_name (i := 2) sc_u_law_drawn_screen.nd (by rfl) (by first | exact Or.inl rfl | exact Or.inr rfl)) (pgs_cons (pg_name (i := 3) sc_u_law_drawn_screen.nd (by rfl) (by first | exact Or.inl rfl | exact Or.inr rfl)) pgs_nil)))
        (qss_cons (qs_set 1 sc_u_law_drawn_screen.nd (qe_callC (ok_u_law_mixed T) hr tk (qa_cons (qe_var 0) (qa_cons (qe_lrng rfl (by rfl) (T.free 4) (by rfl) (T.free 2) (qe_bin op_mulA od_mul (qe_var 2) (qe_var 3))) qa_nil)) (by decide)))
        (qss_one (qs_ret (qe_callTy call_tuple_of on_tuple (by rfl) (T.free 7) (by decide +kernel) (qa_cons (qe_lc [("row", 4)] rfl sc_u_law_drawn_screen.nd (by decide) (qi_rng1 (by rfl) (T.free 2) (qa_cons (qe_var 2) qa_nil)) (blkOk_by (N := ["draws", "places", "high", "wide", "row"]) (sc := defScope s_u_law_drawn_screen) (by decide +kernel)) (fun _ _ _ _ _ => qg_name 4 sc_u_law_drawn_screen.nd) (fun _ _ _ _ _ => qts_nil) (fun _ _ _ _ _ => qe_callTy call_tuple_of on_tuple (by rfl) (T.free 7) (by decide +kernel) (qa_cons (qe_slice (qe_var 1) (qo_some (qe_bin op_mulA od_mul (qe_var 4) (qe_var 3))) (qo_some (qe_bin op_addA od_add (qe_bin op_mulA od_mul (qe_var 4) (qe_var 3)) (qe_var 3)))) qa_nil))) qa_nil)))))
abbrev s_u_law_less : Stmt := topS 49
theorem sc_u_law_less : FnScope ["a", "b"] ["a", "b"] (defScope s_u_law_less) := ⟨rfl, rfl, rfl, by decide +kernel, rfl, by decide +kernel, by decide +kernel⟩
set_option maxHeartbeats 4000000 in
theorem ok_u_law_less (T : Txt tx K mg) : Cal P w K mg base (clN tx.ex K) "_law_less" ["a", "b"] 1 d_u_law_less := by
  refine Cal.close <| cal_of (N := ["a", "b"]) (ps := ["a", "b"]) (n := 2) (j := 0) T 35 (by rfl) (T.glo 50) rfl rfl sc_u_law_less rfl rfl (fun _ _ _ _ _ _ us hl => match us, hl with | [_, _], _ => rfl) (fun f cdv A outer s H E hr tk hp => ?_)
  exact qss_one (qs_ret (qe_cmp op_lt od_lt (qe_bin op_mulA od_mul (qe_ix ix_seq od_ix (qe_var 0) qe_int (fun _ _ => rfl)) (qe_ix ix_seq od_ix (qe_var 1) qe_int (fun _ _ => rfl))) (qe_bin op_mulA od_mul (qe_ix ix_seq od_ix (qe_var 1) qe_int (fun _ _ => rfl)) (qe_ix ix_seq od_ix (qe_var 0) qe_int (fun _ _ => rfl))) (nomark _)))
abbrev s_u_law_clip : Stmt := topS 51
theorem sc_u_law_clip : FnScope ["a"] ["a"] (defScope s_u_law_clip) := ⟨rfl, rfl, rfl, by decide +kernel, rfl, by decide +kernel, by decide +kernel⟩
set_option maxHeartbeats 4000000 in
theorem ok_u_law_clip (T : Txt tx K mg) : Cal P w K mg base (clN tx.ex K) "_law_clip" ["a"] 1 d_u_law_clip := by
  refine Cal.close <| cal_of (N := ["a"]) (ps := ["a"]) (n := 1) (j := 0) T 36 (by rfl) (T.glo 51) rfl rfl sc_u_law_clip rfl rfl (fun _ _ _ _ _ _ us hl => match us, hl with | [_], _ => rfl) (fun f cdv A outer s H E hr tk hp => ?_)
  exact qss_one (qs_ret (qe_ifE (qt_cmp op_lt od_lt b2_lt (qe_ix ix_seq od_ix (qe_var 0) qe_int (fun _ _ => rfl)) qe_int (nomark _)) (qe_tup (qa_cons qe_int (qa_cons qe_int qa_nil))) (qe_ifE (qt_cmp op_gt od_gt b2_gt (qe_ix ix_seq od_ix (qe_var 0) qe_int (fun _ _ => rfl)) (qe_ix ix_seq od_ix (qe_var 0) qe_int (fun _ _ => rfl)) (nomark _)) (qe_tup (qa_cons qe_int (qa_cons qe_int qa_nil))) (qe_var 0))))
abbrev s_u_law_dots : Stmt := topS 59
theorem sc_u_law_dots : FnScope ["screen", "colour", "many", "rows", "row", "place", "part"] ["screen", "colour"] (defScope s_u_law_dots) := ⟨rfl, rfl, rfl, by decide +kernel, rfl, by decide +kernel, by decide +kernel⟩
set_option maxHeartbeats 4000000 in
theorem ok_u_law_dots (T : Txt tx K mg) : Cal P w K mg base (clN tx.ex K) "_law_dots" ["screen", "colour"] 1 d_u_law_dots := by
  refine Cal.close <| cal_of (N := ["screen", "colour", "many", "rows", "row", "place", "part"]) (ps := ["screen", "colour"]) (n := 2) (j := 5) T 37 (by rfl) (T.glo 52) rfl rfl sc_u_law_dots rfl rfl (fun _ _ _ _ _ _ us hl => match us, hl with | [_, _], _ => rfl) (fun f cdv A outer s H E hr tk hp => ?_)
  exact qss_cons (qs_set 2 sc_u_law_dots.nd (qe_bin op_mulA od_mul (qe_callB call_lenA on_len (by rfl) (T.free 3) (by decide +kernel) (qa_cons (qe_var 0) qa_nil)) (qe_callB call_lenA on_len (by rfl) (T.free 3) (by decide +kernel) (qa_cons (qe_ix ix_seq od_ix (qe_var 0) qe_int (fun _ _ => rfl)) qa_nil))))
        (qss_cons (qs_set 3 sc_u_law_dots.nd (qe_lstC qa_nil))
        (qss_cons (qs_for hp rfl (qi_data (qe_var 0)) (qg_name 4 sc_u_law_dots.nd) (qss_one (qs_expr (qe_append (qe_var 3) (qe_callTy call_tuple_of on_tuple (by rfl) (T.free 7) (by decide +kernel) (qa_cons (qe_lc [("place", 5)] rfl sc_u_law_dots.nd (by decide) (qi_data (qe_var 4)) (blkOk_by (N := ["screen", "colour", "many", "rows", "row", "place", "part"]) (sc := defScope s_u_law_dots) (by decide +kernel)) (fun _ _ _ _ _ => qg_name 5 sc_u_law_dots.nd) (fun _ _ _ _ _ => qts_nil) (fun _ _ _ _ _ => qe_callTy call_tuple_of on_tuple (by rfl) (T.free 7) (by decide +kernel) (qa_cons (qe_lcB [("part", 6)] rfl sc_u_law_dots.nd (by decide) (qi_data (qe_var 1)) (blkOk_by (N := ["screen", "colour", "many", "rows", "row", "place", "part"]) (by decide +kernel)) (fun _ _ _ _ _ => qg_name 6 sc_u_law_dots.nd) (fun _ _ _ _ _ => qts_nil) (fun _ _ _ _ _ => qe_callTy call_int1 on_int (by rfl) (T.free 1) (by decide +kernel) (qa_cons (qe_cmp op_gt od_gt (qe_bin op_mulA od_mul (qe_bin op_mulA od_mul qe_int (qe_ix ix_seq od_ix (qe_var 6) qe_int (fun _ _ => rfl))) (qe_var 2)) (qe_bin op_mulA od_mul (qe_ix ix_seq od_ix (qe_var 6) qe_int (fun _ _ => rfl)) (qe_bin op_addA od_add (qe_bin op_mulA od_mul qe_int (qe_var 5)) qe_int)) (nomark _)) qa_nil))) qa_nil))) qa_nil))))))
        (qss_one (qs_ret (qe_callTy call_tuple_of on_tuple (by rfl) (T.free 7) (by decide +kernel) (qa_cons (qe_var 3) qa_nil))))))
abbrev s_u_law_r : Stmt := topS 45
theorem sc_u_law_r : FnScope ["n", "d", "turn", "a", "b"] ["n", "d"] (defScope s_u_law_r) := ⟨rfl, rfl, rfl, by decide +kernel, rfl, by decide +kernel, by decide +kernel⟩
set_option maxHeartbeats 4000000 in
theorem ok_u_law_r (T : Txt tx K mg) : Cal P w K mg base (clN tx.ex K) "_law_r" ["n", "d"] 1 d_u_law_r := by
  refine Cal.close <| cal_of (N := ["n", "d", "turn", "a", "b"]) (ps := ["n", "d"]) (n := 2) (j := 3) T 38 (by rfl) (T.glo 53) rfl rfl sc_u_law_r rfl rfl (fun _ _ _ _ _ _ us hl => match us, hl with | [_, _], _ => rfl) (fun f cdv A outer s H E hr tk hp => ?_)
  exact qss_cons (qs_par 3 4 rfl sc_u_law_r.nd (qa_cons (qe_callB call_abs on_abs (by rfl) (T.free 0) (by decide +kernel) (qa_cons (qe_var 0) qa_nil)) (qa_cons (qe_callB call_abs on_abs (by rfl) (T.free 0) (by decide +kernel) (qa_cons (qe_var 1) qa_nil)) qa_nil)) (by rfl) (by rfl) (by decide) (by rfl) (by rfl) (by rfl))
        (qss_cons (qs_for hp rfl (qi_rng1 (by rfl) (T.free 2) (qa_cons qe_int qa_nil)) (qg_name 2 sc_u_law_r.nd) (qss_cons (qs_if (qt_cmp (op_eqD hr.units) od_eq b2_eq (qe_var 4) qe_int (nomark _)) (qss_one qs_break) qss_nil)
        (qss_one (qs_par 3 4 rfl sc_u_law_r.nd (qa_cons (qe_var 4) (qa_cons (qe_bin op_mod od_mod (qe_callTy call_int1 on_int (by rfl) (T.free 1) (by decide +kernel) (qa_cons (qe_var 3) qa_nil)) (qe_var 4)) qa_nil)) (by rfl) (by rfl) (by decide) (by rfl) (by rfl) (by rfl)))))
        (qss_one (qs_ret (qe_ifE (qt_cmp op_gt od_gt b2_gt (qe_var 1) qe_int (nomark _)) (qe_tup (qa_cons (qe_bin op_fdivW od_fdiv (qe_var 0) (qe_var 3)) (qa_cons (qe_bin op_fdivW od_fdiv (qe_var 1) (qe_var 3)) qa_nil))) (qe_tup (qa_cons (qe_bin op_sub od_sub qe_int (qe_bin op_fdivW od_fdiv (qe_var 0) (qe_var 3))) (qa_cons (qe_bin op_sub od_sub qe_int (qe_bin op_fdivW od_fdiv (qe_var 1) (qe_var 3))) qa_nil)))))))
abbrev s_u_law_mul : Stmt := topS 48
theorem sc_u_law_mul : FnScope ["a", "b"] ["a", "b"] (defScope s_u_law_mul) := ⟨rfl, rfl, rfl, by decide +kernel, rfl, by decide +kernel, by decide +kernel⟩
set_option maxHeartbeats 4000000 in
theorem ok_u_law_mul (T : Txt tx K mg) : Cal P w K mg base (clN tx.ex K) "_law_mul" ["a", "b"] 2 d_u_law_mul := by
  refine Cal.close <| cal_of (N := ["a", "b"]) (ps := ["a", "b"]) (n := 2) (j := 0) T 39 (by rfl) (T.glo 54) rfl rfl sc_u_law_mul rfl rfl (fun _ _ _ _ _ _ us hl => match us, hl with | [_, _], _ => rfl) (fun f cdv A outer s H E hr tk hp => ?_)
  exact qss_one (qs_ret (qe_callC (ok_u_law_r T) hr tk (qa_cons (qe_bin op_mulA od_mul (qe_ix ix_seq od_ix (qe_var 0) qe_int (fun _ _ => rfl)) (qe_ix ix_seq od_ix (qe_var 1) qe_int (fun _ _ => rfl))) (qa_cons (qe_bin op_mulA od_mul (qe_ix ix_seq od_ix (qe_var 0) qe_int (fun _ _ => rfl)) (qe_ix ix_seq od_ix (qe_var 1) qe_int (fun _ _ => rfl))) qa_nil)) (by decide)))
abbrev s_u_law_add : Stmt := topS 46
theorem sc_u_law_add : FnScope ["a", "b"] ["a", "b"] (defScope s_u_law_add) := ⟨rfl, rfl, rfl, by decide +kernel, rfl, by decide +kernel, by decide +kernel⟩
set_option maxHeartbeats 4000000 in
theorem ok_u_law_add (T : Txt tx K mg) : Cal P w K mg base (clN tx.ex K) "_law_add" ["a", "b"] 2 d_u_law_add := by
  refine Cal.close <| cal_of (N := ["a", "b"]) (ps := ["a", "b"]) (n := 2) (j := 0) T 40 (by rfl) (T.glo 55) rfl rfl sc_u_law_add rfl rfl (fun _ _ _ _ _ _ us hl => match us, hl with | [_, _], _ => rfl) (fun f cdv A outer s H E hr tk hp => ?_)
  exact qss_one (qs_ret (qe_callC (ok_u_law_r T) hr tk (qa_cons (qe_bin op_addA od_add (qe_bin op_mulA od_mul (qe_ix ix_seq od_ix (qe_var 0) qe_int (fun _ _ => rfl)) (qe_ix ix_seq od_ix (qe_var 1) qe_int (fun _ _ => rfl))) (qe_bin op_mulA od_mul (qe_ix ix_seq od_ix (qe_var 1) qe_int (fun _ _ => rfl)) (qe_ix ix_seq od_ix (qe_var 0) qe_int (fun _ _ => rfl)))) (qa_cons (qe_bin op_mulA od_mul (qe_ix ix_seq od_ix (qe_var 0) qe_int (fun _ _ => rfl)) (qe_ix ix_seq od_ix (qe_var 1) qe_int (fun _ _ => rfl))) qa_nil)) (by decide)))
abbrev s_u_law_sum : Stmt := topS 50
theorem sc_u_law_sum : FnScope ["some", "found", "one"] ["some"] (defScope s_u_law_sum) := ⟨rfl, rfl, rfl, by decide +kernel, rfl, by decide +kernel, by decide +kernel⟩
set_option maxHeartbeats 4000000 in
theorem ok_u_law_sum (T : Txt tx K mg) : Cal P w K mg base (clN tx.ex K) "_law_sum" ["some"] 3 d_u_law_sum := by
  refine Cal.close <| cal_of (N := ["some", "found", "one"]) (ps := ["some"]) (n := 1) (j := 2) T 41 (by rfl) (T.glo 56) rfl rfl sc_u_law_sum rfl rfl (fun _ _ _ _ _ _ us hl => match us, hl with | [_], _ => rfl) (fun f cdv A outer s H E hr tk hp => ?_)
  exact qss_cons (qs_set 1 sc_u_law_sum.nd (qe_tup (qa_cons qe_int (qa_cons qe_int qa_nil))))
        (qss_cons (qs_for hp rfl (qi_data (qe_var 0)) (qg_name 2 sc_u_law_sum.nd) (qss_one (qs_set 1 sc_u_law_sum.nd (qe_callC (ok_u_law_add T) hr tk (qa_cons (qe_var 1) (qa_cons (qe_var 2) qa_nil)) (by decide)))))
        (qss_one (qs_ret (qe_var 1))))
abbrev s_u_law_mean : Stmt := topS 60
theorem sc_u_law_mean : FnScope ["rows", "places", "found", "k", "some", "row", "place", "part"] ["rows"] (defScope s_u_law_mean) := ⟨rfl, rfl, rfl, by decide +kernel, rfl, by decide +kernel, by decide +kernel⟩
set_option maxHeartbeats 4000000 in
theorem ok_u_law_mean (T : Txt tx K mg) : Cal P w K mg base (clN tx.ex K) "_law_mean" ["rows"] 4 d_u_law_mean := by
  refine Cal.close <| cal_of (N := ["rows", "places", "found", "k", "some", "row", "place", "part"]) (ps := ["rows"]) (n := 1) (j := 7) T 42 (by rfl) (T.glo 57) rfl rfl sc_u_law_mean rfl rfl (fun _ _ _ _ _ _ us hl => match us, hl with | [_], _ => rfl) (fun f cdv A outer s H E hr tk hp => ?_)
  exact qss_cons (qs_set 1 sc_u_law_mean.nd (qe_callB (cr_sumL rfl) on_sumL (by rfl) (T.free 12) (by decide +kernel) (qa_cons (qe_lc [("row", 5)] rfl sc_u_law_mean.nd (by decide) (qi_data (qe_var 0)) (blkOk_by (N := ["rows", "places", "found", "k", "some", "row", "place", "part"]) (sc := defScope s_u_law_mean) (by decide +kernel)) (fun _ _ _ _ _ => qg_name 5 sc_u_law_mean.nd) (fun _ _ _ _ _ => qts_nil) (fun _ _ _ _ _ => qe_callTy call_list_of on_list (by rfl) (T.free 4) (by decide +kernel) (qa_cons (qe_var 5) qa_nil))) (qa_cons (qe_lstD qa_nil) qa_nil))))
        (qss_cons (qs_set 2 sc_u_law_mean.nd (qe_lstC qa_nil))
        (qss_cons (qs_for hp rfl (qi_rng1 (by rfl) (T.free 2) (qa_cons qe_int qa_nil)) (qg_name 3 sc_u_law_mean.nd) (qss_cons (qs_setLc 4 [("place", 6)] rfl sc_u_law_mean.nd (by decide) (qi_data (qe_var 1)) (blkOk_by (N := ["rows", "places", "found", "k", "some", "row", "place", "part"]) (sc := defScope s_u_law_mean) (by decide +kernel)) (fun _ _ _ _ _ => qg_name 6 sc_u_law_mean.nd) (fun _ _ _ _ _ => qts_nil) (fun _ _ _ _ _ => qe_ifE (qt_val (qe_isi (by rfl) (T.free 6) (qe_ix ix_seq od_ix (qe_var 6) (qe_var 3) (fun _ _ => rfl)) (by rfl) (T.free 7) (by decide +kernel))) (qe_ix ix_seq od_ix (qe_var 6) (qe_var 3) (fun _ _ => rfl)) (qe_tup (qa_cons (qe_ix ix_seq od_ix (qe_var 6) (qe_var 3) (fun _ _ => rfl)) (qa_cons qe_int qa_nil)))) (by rfl) (by rfl) (sw_true rfl rfl rfl (by decide +kernel)))
        (qss_one (qs_expr (qe_append (qe_var 2) (qe_callC (ok_u_law_mul T) hr tk (qa_cons (qe_callC (ok_u_law_sum T) hr tk (qa_cons (qe_var 4) qa_nil) (by decide)) (qa_cons (qe_tup (qa_cons qe_int (qa_cons (qe_callB call_lenA on_len (by rfl) (T.free 3) (by decide +kernel) (qa_cons (qe_var 1) qa_nil)) qa_nil))) qa_nil)) (by decide)))))))
        (qss_one (qs_ret (qe_callTy call_tuple_of on_tuple (by rfl) (T.free 7) (by decide +kernel) (qa_cons (qe_lc [("part", 7)] rfl sc_u_law_mean.nd (by decide) (qi_data (qe_var 2)) (blkOk_by (N := ["rows", "places", "found", "k", "some", "row", "place", "part"]) (sc := defScope s_u_law_mean) (by decide +kernel)) (fun _ _ _ _ _ => qg_name 7 sc_u_law_mean.nd) (fun _ _ _ _ _ => qts_nil) (fun _ _ _ _ _ => qe_callC (ok_u_law_r T) hr takes0 (qa_cons (qe_ix ix_seq od_ix (qe_var 7) qe_int (fun _ _ => rfl)) (qa_cons (qe_ix ix_seq od_ix (qe_var 7) qe_int (fun _ _ => rfl)) qa_nil)) (by decide))) qa_nil))))))
abbrev s_u_law_sub : Stmt := topS 47
theorem sc_u_law_sub : FnScope ["a", "b"] ["a", "b"] (defScope s_u_law_sub) := ⟨rfl, rfl, rfl, by decide +kernel, rfl, by decide +kernel, by decide +kernel⟩
set_option maxHeartbeats 4000000 in
theorem ok_u_law_sub (T : Txt tx K mg) : Cal P w K mg base (clN tx.ex K) "_law_sub" ["a", "b"] 2 d_u_law_sub := by
  refine Cal.close <| cal_of (N := ["a", "b"]) (ps := ["a", "b"]) (n := 2) (j := 0) T 43 (by rfl) (T.glo 58) rfl rfl sc_u_law_sub rfl rfl (fun _ _ _ _ _ _ us hl => match us, hl with | [_, _], _ => rfl) (fun f cdv A outer s H E hr tk hp => ?_)
  exact qss_one (qs_ret (qe_callC (ok_u_law_r T) hr tk (qa_cons (qe_bin op_sub od_sub (qe_bin op_mulA od_mul (qe_ix ix_seq od_ix (qe_var 0) qe_int (fun _ _ => rfl)) (qe_ix ix_seq od_ix (qe_var 1) qe_int (fun _ _ => rfl))) (qe_bin op_mulA od_mul (qe_ix ix_seq od_ix (qe_var 1) qe_int (fun _ _ => rfl)) (qe_ix ix_seq od_ix (qe_var 0) qe_int (fun _ _ => rfl)))) (qa_cons (qe_bin op_mulA od_mul (qe_ix ix_seq od_ix (qe_var 0) qe_int (fun _ _ => rfl)) (qe_ix ix_seq od_ix (qe_var 1) qe_int (fun _ _ => rfl))) qa_nil)) (by decide)))
abbrev s_u_law_distance : Stmt := topS 54
theorem sc_u_law_distance : FnScope ["a", "b", "found", "k", "part"] ["a", "b"] (defScope s_u_law_distance) := ⟨rfl, rfl, rfl, by decide +kernel, rfl, by decide +kernel, by decide +kernel⟩
set_option maxHeartbeats 4000000 in
theorem ok_u_law_distance (T : Txt tx K mg) : Cal P w K mg base (clN tx.ex K) "_law_distance" ["a", "b"] 3 d_u_law_distance := by
  refine Cal.close <| cal_of (N := ["a", "b", "found", "k", "part"]) (ps := ["a", "b"]) (n := 2) (j := 3) T 44 (by rfl) (T.glo 59) rfl rfl sc_u_law_distance rfl rfl (fun _ _ _ _ _ _ us hl => match us, hl with | [_, _], _ => rfl) (fun f cdv A outer s H E hr tk hp => ?_)
  exact qss_cons (qs_set 2 sc_u_law_distance.nd (qe_tup (qa_cons qe_int (qa_cons qe_int qa_nil))))
        (qss_cons (qs_for hp rfl (qi_rng1 (by rfl) (T.free 2) (qa_cons qe_int qa_nil)) (qg_name 3 sc_u_law_distance.nd) (qss_cons (qs_set 4 sc_u_law_distance.nd (qe_callC (ok_u_law_sub T) hr tk (qa_cons (qe_ix ix_seq od_ix (qe_var 0) (qe_var 3) (fun _ _ => rfl)) (qa_cons (qe_ix ix_seq od_ix (qe_var 1) (qe_var 3) (fun _ _ => rfl)) qa_nil)) (by decide)))
        (qss_cons (qs_set 4 sc_u_law_distance.nd (qe_tup (qa_cons (qe_callB call_abs on_abs (by rfl) (T.free 0) (by decide +kernel) (qa_cons (qe_ix ix_seq od_ix (qe_var 4) qe_int (fun _ _ => rfl)) qa_nil)) (qa_cons (qe_ix ix_seq od_ix (qe_var 4) qe_int (fun _ _ => rfl)) qa_nil))))
        (qss_one (qs_set 2 sc_u_law_distance.nd (qe_ifE (qt_val (qe_callC (ok_u_law_less T) hr tk (qa_cons (qe_var 2) (qa_cons (qe_var 4) qa_nil)) (by decide))) (qe_var 4) (qe_var 2)))))))
        (qss_one (qs_ret (qe_var 2))))
abbrev s_u_law_number : Stmt := topS 52
theorem sc_u_law_number : FnScope ["draws"] ["draws"] (defScope s_u_law_number) := ⟨rfl, rfl, rfl, by decide +kernel, rfl, by decide +kernel, by decide +kernel⟩
set_option maxHeartbeats 4000000 in
theorem ok_u_law_number (T : Txt tx K mg) : Cal P w K mg base (clN tx.ex K) "_law_number" ["draws"] 3 d_u_law_number := by
  refine Cal.close <| cal_of (N := ["draws"]) (ps := ["draws"]) (n := 1) (j := 0) T 45 (by rfl) (T.glo 60) rfl rfl sc_u_law_number rfl rfl (fun _ _ _ _ _ _ us hl => match us, hl with | [_], _ => rfl) (fun f cdv A outer s H E hr tk hp => ?_)
  exact qss_one (qs_ret (qe_callC (ok_u_law_pick T) hr tk (qa_cons (qe_var 0) (qa_cons (qe_lstD (qa_cons (qe_tup (qa_cons qe_int (qa_cons qe_int qa_nil))) (qa_cons (qe_tup (qa_cons qe_int (qa_cons qe_int qa_nil))) (qa_cons (qe_tup (qa_cons qe_int (qa_cons qe_int qa_nil))) (qa_cons (qe_tup (qa_cons qe_int (qa_cons qe_int qa_nil))) (qa_cons (qe_tup (qa_cons qe_int (qa_cons qe_int qa_nil))) (qa_cons (qe_tup (qa_cons qe_int (qa_cons qe_int qa_nil))) (qa_cons (qe_tup (qa_cons qe_int (qa_cons qe_int qa_nil))) (qa_cons (qe_tup (qa_cons qe_int (qa_cons qe_int qa_nil))) qa_nil))))))))) qa_nil)) (by decide)))
abbrev s_u_law_are_dots_due : Stmt := topS 61
theorem sc_u_law_are_dots_due : FnScope ["draws", "screen", "one", "other", "row", "told", "more", "column", "mean", "many", "k", "part"] ["draws", "screen"] (defScope s_u_law_are_dots_due) := ⟨rfl, rfl, rfl, by decide +kernel, rfl, by decide +kernel, by decide +kernel⟩
set_option maxHeartbeats 4000000 in
theorem ok_u_law_are_dots_due (T : Txt tx K mg) : Cal P w K mg base (clN tx.ex K) "_law_are_dots_due" ["draws", "screen"] 7 d_u_law_are_dots_due := by
  refine Cal.close <| cal_of (N := ["draws", "screen", "one", "other", "row", "told", "more", "column", "mean", "many", "k", "part"]) (ps := ["draws", "screen"]) (n := 2) (j := 10) T 46 (by rfl) (T.glo 61) rfl rfl sc_u_law_are_dots_due rfl rfl (fun _ _ _ _ _ _ us hl => match us, hl with | [_, _], _ => rfl) (fun f cdv A outer s H E hr tk hp => ?_)
  exact qss_cons (qs_set 2 sc_u_law_are_dots_due.nd (qe_callTy call_tuple_of on_tuple (by rfl) (T.free 7) (by decide +kernel) (qa_cons (qe_lc [("k", 10)] rfl sc_u_law_are_dots_due.nd (by decide) (qi_rng1 (by rfl) (T.free 2) (qa_cons qe_int qa_nil)) (blkOk_by (N := ["draws", "screen", "one", "other", "row", "told", "more", "column", "mean", "many", "k", "part"]) (sc := defScope s_u_law_are_dots_due) (by decide +kernel)) (fun _ _ _ _ _ => qg_name 10 sc_u_law_are_dots_due.nd) (fun _ _ _ _ _ => qts_nil) (fun _ _ _ _ _ => qe_callC (ok_u_law_pick T) hr takes0 (qa_cons (qe_var 0) (qa_cons (qe_lstD (qa_cons (qe_callC (ok_u_law_number T) hr takes0 (qa_cons (qe_var 0) qa_nil) (by decide)) (qa_cons (qe_callC (ok_u_law_r T) hr takes0 (qa_cons (qe_callC (ok_u_law_take T) hr takes0 (qa_cons (qe_var 0) (qa_cons qe_int qa_nil)) (by decide)) (qa_cons qe_int qa_nil)) (by decide)) qa_nil))) qa_nil)) (by decide))) qa_nil)))
        (qss_cons (qs_set 3 sc_u_law_are_dots_due.nd (qe_callTy call_tuple_of on_tuple (by rfl) (T.free 7) (by decide +kernel) (qa_cons (qe_lc [("part", 11)] rfl sc_u_law_are_dots_due.nd (by decide) (qi_data (qe_var 2)) (blkOk_by (N := ["draws", "screen", "one", "other", "row", "told", "more", "column", "mean", "many", "k", "part"]) (sc := defScope s_u_law_are_dots_due) (by decide +kernel)) (fun _ _ _ _ _ => qg_name 11 sc_u_law_are_dots_due.nd) (fun _ _ _ _ _ => qts_nil) (fun _ _ _ _ _ => qe_callC (ok_u_law_clip T) hr takes0 (qa_cons (qe_callC (ok_u_law_add T) hr takes0 (qa_cons (qe_var 11) (qa_cons (qe_callC (ok_u_law_number T) hr takes0 (qa_cons (qe_var 0) qa_nil) (by decide)) qa_nil)) (by decide)) qa_nil) (by decide))) qa_nil)))
        (qss_cons (qs_parG (is := [5, 6]) rfl (qa_cons (qe_callC (ok_u_law_told T) hr tk (qa_cons qe_int (qa_cons (qe_var 1) (qa_cons (qe_var 2) qa_nil))) (by decide)) (qa_cons (qe_callC (ok_u_law_told T) hr tk (qa_cons qe_int (qa_cons (qe_var 1) (qa_cons (qe_var 3) qa_nil))) (by decide)) qa_nil)) (pgs_cons (pg_name (i := 5) sc_u_law_are_dots_due.nd (by rfl) (by first | exact Or.inl rfl | exact Or.inr rfl)) (pgs_cons (pg_name (i := 6) sc_u_law_are_dots_due.nd (by rfl) (by first | exact Or.inl rfl | exact Or.inr rfl)) pgs_nil)))
        (qss_cons (qs_if (PW.pt (qw_or (qt_cmp (op_neD hr.units) od_ne b2_ne (qe_var 5) (qe_callC (ok_u_law_dots T) hr tk (qa_cons (qe_var 1) (qa_cons (qe_var 2) qa_nil)) (by decide)) (nomark _)) (qw_or1 (qt_cmp (op_neD hr.units) od_ne b2_ne (qe_var 6) (qe_callC (ok_u_law_dots T) hr tk (qa_cons (qe_var 1) (qa_cons (qe_var 3) qa_nil)) (by decide)) (nomark _))))) (qss_one (qs_ret qe_bl)) qss_nil)
        (qss_cons (qs_for hp rfl (qi_rng1 (by rfl) (T.free 2) (qa_cons (qe_callB call_lenA on_len (by rfl) (T.free 3) (by decide +kernel) (qa_cons (qe_var 1) qa_nil)) qa_nil)) (qg_name 4 sc_u_law_are_dots_due.nd) (qss_one (qs_for hp rfl (qi_rng1 (by rfl) (T.free 2) (qa_cons (qe_callB call_lenA on_len (by rfl) (T.free 3) (by decide +kernel) (qa_cons (qe_ix ix_seq od_ix (qe_var 1) qe_int (fun _ _ => rfl)) qa_nil)) qa_nil)) (qg_name 7 sc_u_law_are_dots_due.nd) (qss_one (qs_if (qt_cmp (op_neD hr.units) od_ne b2_ne (qe_lc [("k", 10)] rfl sc_u_law_are_dots_due.nd (by decide) (qi_rng1 (by rfl) (T.free 2) (qa_cons qe_int qa_nil)) (blkOk_by (N := ["draws", "screen", "one", "other", "row", "told", "more", "column", "mean", "many", "k", "part"]) (sc := defScope s_u_law_are_dots_due) (by decide +kernel)) (fun _ _ _ _ _ => qg_name 10 sc_u_law_are_dots_due.nd) (fun _ _ _ _ _ => qts_one (qt_cmp op_gt od_gt b2_gt (qe_ix ix_seq od_ix (qe_ix ix_seq od_ix (qe_ix ix_seq od_ix (qe_var 5) (qe_var 4) (fun _ _ => rfl)) (qe_var 7) (fun _ _ => rfl)) (qe_var 10) (fun _ _ => rfl)) (qe_ix ix_seq od_ix (qe_ix ix_seq od_ix (qe_ix ix_seq od_ix (qe_var 6) (qe_var 4) (fun _ _ => rfl)) (qe_var 7) (fun _ _ => rfl)) (qe_var 10) (fun _ _ => rfl)) (nomark _))) (fun _ _ _ _ _ => qe_var 10)) (qe_lstD qa_nil) (nomark _)) (qss_one (qs_ret qe_bl)) qss_nil)))))
        (qss_cons (qs_par 8 9 rfl sc_u_law_are_dots_due.nd (qa_cons (qe_callC (ok_u_law_told T) hr tk (qa_cons qe_int (qa_cons (qe_var 5) (qa_cons qe_non qa_nil))) (by decide)) (qa_cons (qe_bin op_mulA od_mul (qe_callB call_lenA on_len (by rfl) (T.free 3) (by decide +kernel) (qa_cons (qe_var 1) qa_nil)) (qe_callB call_lenA on_len (by rfl) (T.free 3) (by decide +kernel) (qa_cons (qe_ix ix_seq od_ix (qe_var 1) qe_int (fun _ _ => rfl)) qa_nil))) qa_nil)) (by rfl) (by rfl) (by decide) (by rfl) (by rfl) (by rfl))
        (qss_cons (qs_if (PW.pt (qw_or (qt_cmp (op_neD hr.units) od_ne b2_ne (qe_var 8) (qe_callC (ok_u_law_mean T) hr tk (qa_cons (qe_var 5) qa_nil) (by decide)) (nomark _)) (qw_or1 (qt_cmp (op_neD hr.units) od_ne b2_ne (qe_callC (ok_u_law_told T) hr tk (qa_cons qe_int (qa_cons (qe_tup (qa_cons (qe_tup (qa_cons (qe_var 2) (qa_cons (qe_var 3) qa_nil))) (qa_cons (qe_tup (qa_cons (qe_var 3) (qa_cons (qe_var 3) qa_nil))) qa_nil))) (qa_cons qe_non qa_nil))) (by decide)) (qe_callC (ok_u_law_mean T) hr tk (qa_cons (qe_tup (qa_cons (qe_tup (qa_cons (qe_var 2) (qa_cons (qe_var 3) qa_nil))) (qa_cons (qe_tup (qa_cons (qe_var 3) (qa_cons (qe_var 3) qa_nil))) qa_nil))) qa_nil) (by decide)) (nomark _))))) (qss_one (qs_ret qe_bl)) qss_nil)
        (qss_one (qs_ret (qe_not (qe_callC (ok_u_law_less T) hr tk (qa_cons (qe_tup (qa_cons qe_int (qa_cons (qe_bin op_mulA od_mul qe_int (qe_var 9)) qa_nil))) (qa_cons (qe_callC (ok_u_law_distance T) hr tk (qa_cons (qe_var 8) (qa_cons (qe_var 2) qa_nil)) (by decide)) qa_nil)) (by decide)))))))))))
abbrev s_u_law_colour : Stmt := topS 53
theorem sc_u_law_colour : FnScope ["draws", "k"] ["draws"] (defScope s_u_law_colour) := ⟨rfl, rfl, rfl, by decide +kernel, rfl, by decide +kernel, by decide +kernel⟩
set_option maxHeartbeats 4000000 in
theorem ok_u_law_colour (T : Txt tx K mg) : Cal P w K mg base (clN tx.ex K) "_law_colour" ["draws"] 4 d_u_law_colour := by
  refine Cal.close <| cal_of (N := ["draws", "k"]) (ps := ["draws"]) (n := 1) (j := 1) T 47 (by rfl) (T.glo 62) rfl rfl sc_u_law_colour rfl rfl (fun _ _ _ _ _ _ us hl => match us, hl with | [_], _ => rfl) (fun f cdv A outer s H E hr tk hp => ?_)
  exact qss_one (qs_ret (qe_callTy call_tuple_of on_tuple (by rfl) (T.free 7) (by decide +kernel) (qa_cons (qe_lc [("k", 1)] rfl sc_u_law_colour.nd (by decide) (qi_rng1 (by rfl) (T.free 2) (qa_cons qe_int qa_nil)) (blkOk_by (N := ["draws", "k"]) (sc := defScope s_u_law_colour) (by decide +kernel)) (fun _ _ _ _ _ => qg_name 1 sc_u_law_colour.nd) (fun _ _ _ _ _ => qts_nil) (fun _ _ _ _ _ => qe_callC (ok_u_law_number T) hr takes0 (qa_cons (qe_var 0) qa_nil) (by decide))) qa_nil)))
abbrev s_put_to : Stmt := topS 31
theorem sc_put_to : FnScope ["levels", "colour"] ["levels", "colour"] (defScope s_put_to) := ⟨rfl, rfl, rfl, by decide +kernel, rfl, by decide +kernel, by decide +kernel⟩
set_option maxHeartbeats 4000000 in
theorem ok_put_to (T : Txt tx K mg) : Cal P w K mg base (clN tx.ex K) "put_to" ["levels", "colour"] 5 d_put_to := by
  refine Cal.close <| cal_of (N := ["levels", "colour"]) (ps := ["levels", "colour"]) (n := 2) (j := 0) T 48 (by rfl) (T.glo 63) rfl rfl sc_put_to rfl rfl (fun _ _ _ _ _ _ us hl => match us, hl with | [_, _], _ => rfl) (fun f cdv A outer s H E hr tk hp => ?_)
  exact qss_cons (qs_expr (qe_callC (ok_check T) hr tk (qa_cons (qe_callC (ok_are_levels T) hr tk (qa_cons (qe_var 0) qa_nil) (by decide)) qa_nil) (by decide)))
        (qss_cons (qs_expr (qe_callC (ok_check T) hr tk (qa_cons (qe_callC (ok_is_plain T) hr tk (qa_cons (qe_var 1) qa_nil) (by decide)) qa_nil) (by decide)))
        (qss_one (qs_ret (qe_callC (ok_put_by T) hr tk (qa_cons (qe_var 0) (qa_cons (qe_var 1) qa_nil)) (by decide)))))
abbrev s_u_law_nearest : Stmt := topS 62
theorem sc_u_law_nearest : FnScope ["many", "part", "best", "k", "far"] ["many", "part"] (defScope s_u_law_nearest) := ⟨rfl, rfl, rfl, by decide +kernel, rfl, by decide +kernel, by decide +kernel⟩
set_option maxHeartbeats 4000000 in
theorem ok_u_law_nearest (T : Txt tx K mg) : Cal P w K mg base (clN tx.ex K) "_law_nearest" ["many", "part"] 3 d_u_law_nearest := by
  refine Cal.close <| cal_of (N := ["many", "part", "best", "k", "far"]) (ps := ["many", "part"]) (n := 2) (j := 3) T 49 (by rfl) (T.glo 64) rfl rfl sc_u_law_nearest rfl rfl (fun _ _ _ _ _ _ us hl => match us, hl with | [_, _], _ => rfl) (fun f cdv A outer s H E hr tk hp => ?_)
  exact qss_cons (qs_set 2 sc_u_law_nearest.nd qe_non)
        (qss_cons (qs_for hp rfl (qi_rng1 (by rfl) (T.free 2) (qa_cons (qe_var 0) qa_nil)) (qg_name 3 sc_u_law_nearest.nd) (qss_cons (qs_set 4 sc_u_law_nearest.nd (qe_callC (ok_u_law_sub T) hr tk (qa_cons (qe_callC (ok_u_law_r T) hr tk (qa_cons (qe_var 3) (qa_cons (qe_bin op_sub od_sub (qe_var 0) qe_int) qa_nil)) (by decide)) (qa_cons (qe_var 1) qa_nil)) (by decide)))
        (qss_cons (qs_set 4 sc_u_law_nearest.nd (qe_tup (qa_cons (qe_callB call_abs on_abs (by rfl) (T.free 0) (by decide +kernel) (qa_cons (qe_ix ix_seq od_ix (qe_var 4) qe_int (fun _ _ => rfl)) qa_nil)) (qa_cons (qe_ix ix_seq od_ix (qe_var 4) qe_int (fun _ _ => rfl)) qa_nil))))
        (qss_one (qs_set 2 sc_u_law_nearest.nd (qe_ifE (PW.pt (qw_or (qt_cmp op_isN od_isN b2_isN (qe_var 2) qe_non (nomark _)) (qw_or1 (qt_not (qt_val (qe_callC (ok_u_law_less T) hr tk (qa_cons (qe_ix ix_seq od_ix (qe_var 2) qe_int (fun _ _ => rfl)) (qa_cons (qe_var 4) qa_nil)) (by decide))))))) (qe_tup (qa_cons (qe_var 4) (qa_cons (qe_callC (ok_u_law_r T) hr tk (qa_cons (qe_var 3) (qa_cons (qe_bin op_sub od_sub (qe_var 0) qe_int) qa_nil)) (by decide)) qa_nil))) (qe_var 2)))))))
        (qss_one (qs_ret (qe_ix ix_seq od_ix (qe_var 2) qe_int (fun _ _ => rfl)))))
abbrev s_u_law_is_spread_due : Stmt := topS 63
theorem sc_u_law_is_spread_due : FnScope ["draws", "levels", "fine", "colours", "colour", "told", "many", "found", "left", "clipped", "whole", "plain", "k", "off", "part"] ["draws"] (defScope s_u_law_is_spread_due) := ⟨rfl, rfl, rfl, by decide +kernel, rfl, by decide +kernel, by decide +kernel⟩
set_option maxHeartbeats 4000000 in
theorem ok_u_law_is_spread_due (T : Txt tx K mg) : Cal P w K mg base (clN tx.ex K) "_law_is_spread_due" ["draws"] 7 d_u_law_is_spread_due := by
  refine Cal.close <| cal_of (N := ["draws", "levels", "fine", "colours", "colour", "told", "many", "found", "left", "clipped", "whole", "plain", "k", "off", "part"]) (ps := ["draws"]) (n := 1) (j := 14) T 50 (by rfl) (T.glo 65) rfl rfl sc_u_law_is_spread_due rfl rfl (fun _ _ _ _ _ _ us hl => match us, hl with | [_], _ => rfl) (fun f cdv A outer s H E hr tk hp => ?_)
  exact qss_cons (qs_set 1 sc_u_law_is_spread_due.nd (qe_callTy call_tuple_of on_tuple (by rfl) (T.free 7) (by decide +kernel) (qa_cons (qe_lc [("k", 12)] rfl sc_u_law_is_spread_due.nd (by decide) (qi_rng1 (by rfl) (T.free 2) (qa_cons qe_int qa_nil)) (blkOk_by (N := ["draws", "levels", "fine", "colours", "colour", "told", "many", "found", "left", "clipped", "whole", "plain", "k", "off", "part"]) (sc := defScope s_u_law_is_spread_due) (by decide +kernel)) (fun _ _ _ _ _ => qg_name 12 sc_u_law_is_spread_due.nd) (fun _ _ _ _ _ => qts_nil) (fun _ _ _ _ _ => qe_bin op_addA od_add qe_int (qe_callC (ok_u_law_take T) hr takes0 (qa_cons (qe_var 0) (qa_cons qe_int qa_nil)) (by decide)))) qa_nil)))
        (qss_cons (qs_set 2 sc_u_law_is_spread_due.nd (qe_cmp (op_eqD hr.units) od_eq (qe_callC (ok_u_law_take T) hr tk (qa_cons (qe_var 0) (qa_cons qe_int qa_nil)) (by decide)) qe_int (nomark _)))
        (qss_cons (qs_setLc 3 [("k", 12)] rfl sc_u_law_is_spread_due.nd (by decide) (qi_rng1 (by rfl) (T.free 2) (qa_cons (qe_bin op_addA od_add qe_int (qe_callC (ok_u_law_take T) hr tk (qa_cons (qe_var 0) (qa_cons qe_int qa_nil)) (by decide))) qa_nil)) (blkOk_by (N := ["draws", "levels", "fine", "colours", "colour", "told", "many", "found", "left", "clipped", "whole", "plain", "k", "off", "part"]) (sc := defScope s_u_law_is_spread_due) (by decide +kernel)) (fun _ _ _ _ _ => qg_name 12 sc_u_law_is_spread_due.nd) (fun _ _ _ _ _ => qts_nil) (fun _ _ _ _ _ => qe_callC (ok_u_law_colour T) hr takes0 (qa_cons (qe_var 0) qa_nil) (by decide)) (by rfl) (by rfl) (sw_true rfl rfl rfl (by decide +kernel)))
        (qss_cons (qs_if (qt_val (qe_var 2)) (qss_one (qs_setLc 3 [("colour", 4)] rfl sc_u_law_is_spread_due.nd (by decide) (qi_data (qe_var 3)) (blkOk_by (N := ["draws", "levels", "fine", "colours", "colour", "told", "many", "found", "left", "clipped", "whole", "plain", "k", "off", "part"]) (sc := defScope s_u_law_is_spread_due) (by decide +kernel)) (fun _ _ _ _ _ => qg_name 4 sc_u_law_is_spread_due.nd) (fun _ _ _ _ _ => qts_nil) (fun _ _ _ _ _ => qe_callTy call_tuple_of on_tuple (by rfl) (T.free 7) (by decide +kernel) (qa_cons (qe_lcB [("part", 14)] rfl sc_u_law_is_spread_due.nd (by decide) (qi_data (qe_var 4)) (blkOk_by (N := ["draws", "levels", "fine", "colours", "colour", "told", "many", "found", "left", "clipped", "whole", "plain", "k", "off", "part"]) (by decide +kernel)) (fun _ _ _ _ _ => qg_name 14 sc_u_law_is_spread_due.nd) (fun _ _ _ _ _ => qts_nil) (fun _ _ _ _ _ => qe_callC (ok_u_law_add T) hr takes0 (qa_cons (qe_tup (qa_cons qe_int (qa_cons qe_int qa_nil))) (qa_cons (qe_callC (ok_u_law_mul T) hr takes0 (qa_cons (qe_var 14) (qa_cons (qe_tup (qa_cons qe_int (qa_cons qe_int qa_nil))) qa_nil)) (by decide)) qa_nil)) (by decide))) qa_nil)) (by rfl) (by rfl) (sw_true rfl rfl rfl (by decide +kernel)))) qss_nil)
        (qss_cons (qs_parG (is := [7, 8, 9]) rfl (qa_cons (qe_lstC qa_nil) (qa_cons (qe_tup (qa_cons (qe_tup (qa_cons qe_int (qa_cons qe_int qa_nil))) (qa_cons (qe_tup (qa_cons qe_int (qa_cons qe_int qa_nil))) (qa_cons (qe_tup (qa_cons qe_int (qa_cons qe_int qa_nil))) qa_nil)))) (qa_cons qe_bl qa_nil))) (pgs_cons (pg_name (i := 7) sc_u_law_is_spread_due.nd (by rfl) (by first | exact Or.inl rfl | exact Or.inr rfl)) (pgs_cons (pg_name (i := 8) sc_u_law_is_spread_due.nd (by rfl) (by first | exact Or.inl rfl | exact Or.inr rfl)) (pgs_cons (pg_name (i := 9) sc_u_law_is_spread_due.nd (by rfl) (by first | exact Or.inl rfl | exact Or.inr rfl)) pgs_nil))))
        (qss_cons (qs_for hp rfl (qi_data (qe_var 3)) (qg_name 4 sc_u_law_is_spread_due.nd) (qss_cons (qs_setLc 10 [("k", 12)] rfl sc_u_law_is_spread_due.nd (by decide) (qi_rng1 (by rfl) (T.free 2) (qa_cons qe_int qa_nil)) (blkOk_by (N := ["draws", "levels", "fine", "colours", "colour", "told", "many", "found", "left", "clipped", "whole", "plain", "k", "off", "part"]) (sc := defScope s_u_law_is_spread_due) (by decide +kernel)) (fun _ _ _ _ _ => qg_name 12 sc_u_law_is_spread_due.nd) (fun _ _ _ _ _ => qts_nil) (fun _ _ _ _ _ => qe_callC (ok_u_law_add T) hr takes0 (qa_cons (qe_ix ix_seq od_ix (qe_var 4) (qe_var 12) (fun _ _ => rfl)) (qa_cons (qe_ix ix_seq od_ix (qe_var 8) (qe_var 12) (fun _ _ => rfl)) qa_nil)) (by decide)) (by rfl) (by rfl) (sw_true rfl rfl rfl (by decide +kernel)))
        (qss_cons (qs_set 11 sc_u_law_is_spread_due.nd (qe_lc [("part", 14)] rfl sc_u_law_is_spread_due.nd (by decide) (qi_data (qe_var 10)) (blkOk_by (N := ["draws", "levels", "fine", "colours", "colour", "told", "many", "found", "left", "clipped", "whole", "plain", "k", "off", "part"]) (sc := defScope s_u_law_is_spread_due) (by decide +kernel)) (fun _ _ _ _ _ => qg_name 14 sc_u_law_is_spread_due.nd) (fun _ _ _ _ _ => qts_nil) (fun _ _ _ _ _ => qe_callC (ok_u_law_clip T) hr takes0 (qa_cons (qe_var 14) qa_nil) (by decide))))
        (qss_cons (qs_set 9 sc_u_law_is_spread_due.nd (qe_or (qe_var 9) (qe_one (qe_cmp (op_neD hr.units) od_ne (qe_var 11) (qe_var 10) (nomark _)))))
        (qss_cons (qs_expr (qe_append (qe_var 7) (qe_callTy call_tuple_of on_tuple (by rfl) (T.free 7) (by decide +kernel) (qa_cons (qe_lc [("k", 12)] rfl sc_u_law_is_spread_due.nd (by decide) (qi_rng1 (by rfl) (T.free 2) (qa_cons qe_int qa_nil)) (blkOk_by (N := ["draws", "levels", "fine", "colours", "colour", "told", "many", "found", "left", "clipped", "whole", "plain", "k", "off", "part"]) (sc := defScope s_u_law_is_spread_due) (by decide +kernel)) (fun _ _ _ _ _ => qg_name 12 sc_u_law_is_spread_due.nd) (fun _ _ _ _ _ => qts_nil) (fun _ _ _ _ _ => qe_callC (ok_u_law_nearest T) hr takes0 (qa_cons (qe_ix ix_seq od_ix (qe_var 1) (qe_var 12) (fun _ _ => rfl)) (qa_cons (qe_ix ix_seq od_ix (qe_var 11) (qe_var 12) (fun _ _ => rfl)) qa_nil)) (by decide))) qa_nil))))
        (qss_one (qs_set 8 sc_u_law_is_spread_due.nd (qe_lc [("k", 12)] rfl sc_u_law_is_spread_due.nd (by decide) (qi_rng1 (by rfl) (T.free 2) (qa_cons qe_int qa_nil)) (blkOk_by (N := ["draws", "levels", "fine", "colours", "colour", "told", "many", "found", "left", "clipped", "whole", "plain", "k", "off", "part"]) (sc := defScope s_u_law_is_spread_due) (by decide +kernel)) (fun _ _ _ _ _ => qg_name 12 sc_u_law_is_spread_due.nd) (fun _ _ _ _ _ => qts_nil) (fun _ _ _ _ _ => qe_callC (ok_u_law_sub T) hr takes0 (qa_cons (qe_ix ix_seq od_ix (qe_var 11) (qe_var 12) (fun _ _ => rfl)) (qa_cons (qe_ix ix_seq od_ix (qe_ix ix_seq od_ix (qe_var 7) (qe_un un_neg o1_neg qe_int) (fun _ _ => rfl)) (qe_var 12) (fun _ _ => rfl)) qa_nil)) (by decide))))))))))
        (qss_cons (qs_set 5 sc_u_law_is_spread_due.nd (qe_callC (ok_u_law_told T) hr tk (qa_cons qe_int (qa_cons (qe_var 1) (qa_cons (qe_callTy call_tuple_of on_tuple (by rfl) (T.free 7) (by decide +kernel) (qa_cons (qe_var 3) qa_nil)) qa_nil))) (by decide)))
        (qss_cons (qs_if (PW.pt (qw_or (qt_cmp (op_neD hr.units) od_ne b2_ne (qe_var 5) (qe_tup (qa_cons (qe_callTy call_tuple_of on_tuple (by rfl) (T.free 7) (by decide +kernel) (qa_cons (qe_var 7) qa_nil)) (qa_cons (qe_var 9) qa_nil))) (nomark _)) (qw_or1 (qt_cmp (op_neD hr.units) od_ne b2_ne (qe_callC (ok_put_to T) hr tk (qa_cons (qe_var 1) (qa_cons (qe_ix ix_seq od_ix (qe_var 3) qe_int (fun _ _ => rfl)) qa_nil)) (by decide)) (qe_ix ix_seq od_ix (qe_var 7) qe_int (fun _ _ => rfl)) (nomark _))))) (qss_one (qs_ret qe_bl)) qss_nil)
        (qss_cons (qs_for hp rfl (qi_rng2 (by rfl) (T.free 2) (qa_cons qe_int (qa_cons (qe_bin op_mulA od_mul (qe_bin op_addA od_add (qe_callB call_lenA on_len (by rfl) (T.free 3) (by decide +kernel) (qa_cons (qe_var 3) qa_nil)) qe_int) (qe_callTy call_int1 on_int (by rfl) (T.free 1) (by decide +kernel) (qa_cons (qe_not (qe_var 9)) qa_nil))) qa_nil))) (qg_name 6 sc_u_law_is_spread_due.nd) (qss_one (qs_for hp rfl (qi_rng1 (by rfl) (T.free 2) (qa_cons qe_int qa_nil)) (qg_name 12 sc_u_law_is_spread_due.nd) (qss_cons (qs_set 13 sc_u_law_is_spread_due.nd (qe_callC (ok_u_law_sub T) hr tk (qa_cons (qe_callC (ok_u_law_sum T) hr tk (qa_cons (qe_lc [("colour", 4)] rfl sc_u_law_is_spread_due.nd (by decide) (qi_data (qe_slice (qe_var 3) qo_none (qo_some (qe_var 6)))) (blkOk_by (N := ["draws", "levels", "fine", "colours", "colour", "told", "many", "found", "left", "clipped", "whole", "plain", "k", "off", "part"]) (sc := defScope s_u_law_is_spread_due) (by decide +kernel)) (fun _ _ _ _ _ => qg_name 4 sc_u_law_is_spread_due.nd) (fun _ _ _ _ _ => qts_nil) (fun _ _ _ _ _ => qe_ix ix_seq od_ix (qe_var 4) (qe_var 12) (fun _ _ => rfl))) qa_nil) (by decide)) (qa_cons (qe_callC (ok_u_law_sum T) hr tk (qa_cons (qe_lc [("colour", 4)] rfl sc_u_law_is_spread_due.nd (by decide) (qi_data (qe_slice (qe_var 7) qo_none (qo_some (qe_var 6)))) (blkOk_by (N := ["draws", "levels", "fine", "colours", "colour", "told", "many", "found", "left", "clipped", "whole", "plain", "k", "off", "part"]) (sc := defScope s_u_law_is_spread_due) (by decide +kernel)) (fun _ _ _ _ _ => qg_name 4 sc_u_law_is_spread_due.nd) (fun _ _ _ _ _ => qts_nil) (fun _ _ _ _ _ => qe_ix ix_seq od_ix (qe_var 4) (qe_var 12) (fun _ _ => rfl))) qa_nil) (by decide)) qa_nil)) (by decide)))
        (qss_one (qs_if (qt_val (qe_callC (ok_u_law_less T) hr tk (qa_cons (qe_tup (qa_cons qe_int (qa_cons (qe_bin op_mulA od_mul qe_int (qe_bin op_sub od_sub (qe_ix ix_seq od_ix (qe_var 1) (qe_var 12) (fun _ _ => rfl)) qe_int)) qa_nil))) (qa_cons (qe_tup (qa_cons (qe_callB call_abs on_abs (by rfl) (T.free 0) (by decide +kernel) (qa_cons (qe_ix ix_seq od_ix (qe_var 13) qe_int (fun _ _ => rfl)) qa_nil)) (qa_cons (qe_ix ix_seq od_ix (qe_var 13) qe_int (fun _ _ => rfl)) qa_nil))) qa_nil)) (by decide))) (qss_one (qs_ret qe_bl)) qss_nil))))))
        (qss_one (qs_ret qe_bl))))))))))
abbrev s_u_law_are_refused : Stmt := topS 64
theorem sc_u_law_are_refused : FnScope ["draws", "bad", "rows", "told", "plain", "far", "screen", "odd", "wrong", "one"] ["draws"] (defScope s_u_law_are_refused) := ⟨rfl, rfl, rfl, by decide +kernel, rfl, by decide +kernel, by decide +kernel⟩
set_option maxHeartbeats 4000000 in
theorem ok_u_law_are_refused (T : Txt tx K mg) : Cal P w K mg base (clN tx.ex K) "_law_are_refused" ["draws"] 7 d_u_law_are_refused := by
  refine Cal.close <| cal_of (N := ["draws", "bad", "rows", "told", "plain", "far", "screen", "odd", "wrong", "one"]) (ps := ["draws"]) (n := 1) (j := 9) T 51 (by rfl) (T.glo 66) rfl rfl sc_u_law_are_refused rfl rfl (fun _ _ _ _ _ _ us hl => match us, hl with | [_], _ => rfl) (fun f cdv A outer s H E hr tk hp => ?_)
  exact qss_cons (qs_set 1 sc_u_law_are_refused.nd (qe_lstD (qa_cons qe_non (qa_cons (qe_tup qa_nil) (qa_cons (qe_tup (qa_cons (qe_tup qa_nil) qa_nil)) (qa_cons (qe_tup (qa_cons (qe_tup (qa_cons qe_int (qa_cons qe_int qa_nil))) (qa_cons (qe_tup (qa_cons qe_int qa_nil)) qa_nil))) (qa_cons (qe_tup (qa_cons (qe_tup (qa_cons qe_int (qa_cons qe_int qa_nil))) qa_nil)) (qa_cons (qe_tup (qa_cons (qe_tup (qa_cons qe_int (qa_cons qe_int qa_nil))) qa_nil)) (qa_cons (qe_lstD (qa_cons (qe_lstD (qa_cons qe_int qa_nil)) qa_nil)) (qa_cons (qe_tup (qa_cons (qe_tup (qa_cons qe_int qa_nil)) (qa_cons (qe_lstD (qa_cons qe_int qa_nil)) qa_nil))) (qa_cons (qe_tup (qa_cons (qe_tup (qa_cons qe_int (qa_cons qe_non qa_nil))) qa_nil)) (qa_cons (qe_tup (qa_cons (qe_tup (qa_cons qe_bl qa_nil)) qa_nil)) (qa_cons (qe_tup (qa_cons (qe_tup (qa_cons qe_int (qa_cons qe_int (qa_cons qe_int qa_nil)))) qa_nil)) qa_nil)))))))))))))
        (qss_cons (qs_if (PW.pt (qw_or (qt_cmp (op_neD hr.units) od_ne b2_ne (qe_lc [("one", 9)] rfl sc_u_law_are_refused.nd (by decide) (qi_data (qe_var 1)) (blkOk_by (N := ["draws", "bad", "rows", "told", "plain", "far", "screen", "odd", "wrong", "one"]) (sc := defScope s_u_law_are_refused) (by decide +kernel)) (fun _ _ _ _ _ => qg_name 9 sc_u_law_are_refused.nd) (fun _ _ _ _ _ => qts_nil) (fun _ _ _ _ _ => qe_callC (ok_is_screen T) hr takes0 (qa_cons (qe_var 9) qa_nil) (by decide))) (qe_bin op_mulA od_mul (qe_lstD (qa_cons qe_bl qa_nil)) (qe_callB call_lenA on_len (by rfl) (T.free 3) (by decide +kernel) (qa_cons (qe_var 1) qa_nil))) (nomark _)) (qw_or1 (qt_cmp op_isnot_bl od_notB b2_notB (qe_callC (ok_is_screen T) hr tk (qa_cons (qe_tup (qa_cons (qe_tup (qa_cons qe_int qa_nil)) qa_nil)) qa_nil) (by decide)) qe_bl (nomark _))))) (qss_one (qs_ret qe_bl)) qss_nil)
        (qss_cons (qs_parG (is := [4, 5]) rfl (qa_cons (qe_tup (qa_cons (qe_tup (qa_cons qe_int (qa_cons qe_int qa_nil))) (qa_cons (qe_tup (qa_cons qe_int (qa_cons qe_int qa_nil))) (qa_cons (qe_tup (qa_cons qe_int (qa_cons qe_int qa_nil))) qa_nil)))) (qa_cons (qe_tup (qa_cons (qe_tup (qa_cons qe_int (qa_cons qe_int qa_nil))) (qa_cons (qe_tup (qa_cons qe_int (qa_cons qe_int qa_nil))) (qa_cons (qe_tup (qa_cons qe_int (qa_cons qe_int qa_nil))) qa_nil)))) qa_nil)) (pgs_cons (pg_name (i := 4) sc_u_law_are_refused.nd (by rfl) (by first | exact Or.inl rfl | exact Or.inr rfl)) (pgs_cons (pg_name (i := 5) sc_u_law_are_refused.nd (by rfl) (by first | exact Or.inl rfl | exact Or.inr rfl)) pgs_nil)))
        (qss_cons (qs_par 6 7 rfl sc_u_law_are_refused.nd (qa_cons (qe_callC (ok_u_law_pick T) hr tk (qa_cons (qe_var 0) (qa_cons (qe_var 1) qa_nil)) (by decide)) (qa_cons (qe_callC (ok_u_law_pick T) hr tk (qa_cons (qe_var 0) (qa_cons (qe_lstD (qa_cons qe_non (qa_cons (qe_var 5) (qa_cons (qe_slice (qe_var 4) qo_none (qo_some qe_int)) (qa_cons qe_int qa_nil))))) qa_nil)) (by decide)) qa_nil)) (by rfl) (by rfl) (by decide) (by rfl) (by rfl) (by rfl))
        (qss_cons (qs_set 2 sc_u_law_are_refused.nd (qe_callC (ok_u_law_pick T) hr tk (qa_cons (qe_var 0) (qa_cons (qe_lstD (qa_cons qe_non (qa_cons (qe_tup qa_nil) (qa_cons (qe_tup (qa_cons (qe_tup qa_nil) qa_nil)) (qa_cons (qe_tup (qa_cons (qe_tup (qa_cons (qe_tup (qa_cons qe_int (qa_cons qe_int (qa_cons qe_int qa_nil)))) qa_nil)) qa_nil)) (qa_cons (qe_tup (qa_cons (qe_tup (qa_cons (qe_tup (qa_cons qe_int (qa_cons qe_int qa_nil))) qa_nil)) qa_nil)) (qa_cons (qe_tup (qa_cons (qe_tup (qa_cons (qe_tup (qa_cons qe_int (qa_cons qe_int (qa_cons qe_int qa_nil)))) (qa_cons (qe_tup (qa_cons qe_int (qa_cons qe_int (qa_cons qe_int qa_nil)))) qa_nil))) (qa_cons (qe_tup (qa_cons (qe_tup (qa_cons qe_int (qa_cons qe_int (qa_cons qe_int qa_nil)))) qa_nil)) qa_nil))) (qa_cons (qe_tup (qa_cons (qe_tup (qa_cons (qe_var 4) (qa_cons (qe_tup (qa_cons qe_int (qa_cons qe_int (qa_cons qe_int qa_nil)))) qa_nil))) qa_nil)) (qa_cons (qe_tup (qa_cons (qe_tup (qa_cons (qe_tup (qa_cons qe_bl (qa_cons qe_int (qa_cons qe_int qa_nil)))) qa_nil)) qa_nil)) qa_nil))))))))) qa_nil)) (by decide)))
        (qss_cons (qs_set 3 sc_u_law_are_refused.nd (qe_bin op_addA od_add (qe_lc [("wrong", 8)] rfl sc_u_law_are_refused.nd (by decide) (qi_data (qe_lstD (qa_cons qe_non (qa_cons (qe_un un_neg o1_neg qe_int) (qa_cons qe_int (qa_cons qe_bl qa_nil)))))) (blkOk_by (N := ["draws", "bad", "rows", "told", "plain", "far", "screen", "odd", "wrong", "one"]) (sc := defScope s_u_law_are_refused) (by decide +kernel)) (fun _ _ _ _ _ => qg_name 8 sc_u_law_are_refused.nd) (fun _ _ _ _ _ => qts_nil) (fun _ _ _ _ _ => qe_callC (ok_u_law_told T) hr takes0 (qa_cons qe_int (qa_cons (qe_var 8) (qa_cons qe_non qa_nil))) (by decide))) (qe_lstD (qa_cons (qe_callC (ok_u_law_told T) hr tk (qa_cons qe_int (qa_cons (qe_var 2) (qa_cons qe_non qa_nil))) (by decide)) (qa_cons (qe_callC (ok_u_law_told T) hr tk (qa_cons qe_int (qa_cons (qe_var 6) (qa_cons (qe_var 4) qa_nil))) (by decide)) (qa_cons (qe_callC (ok_u_law_told T) hr tk (qa_cons qe_int (qa_cons (qe_tup (qa_cons (qe_tup (qa_cons qe_int qa_nil)) qa_nil)) (qa_cons (qe_var 7) qa_nil))) (by decide)) qa_nil))))))
        (qss_cons (qs_set 3 sc_u_law_are_refused.nd (qe_bin op_addA od_add (qe_var 3) (qe_lstD (qa_cons (qe_callC (ok_u_law_told T) hr tk (qa_cons qe_int (qa_cons (qe_callC (ok_u_law_pick T) hr tk (qa_cons (qe_var 0) (qa_cons (qe_lstD (qa_cons qe_non (qa_cons (qe_tup (qa_cons qe_int (qa_cons qe_int qa_nil))) (qa_cons (qe_tup (qa_cons qe_int (qa_cons qe_int (qa_cons qe_int qa_nil)))) (qa_cons (qe_tup (qa_cons qe_int (qa_cons qe_int (qa_cons qe_int qa_nil)))) qa_nil))))) qa_nil)) (by decide)) (qa_cons (qe_tup (qa_cons (qe_var 4) qa_nil)) qa_nil))) (by decide)) qa_nil))))
        (qss_cons (qs_set 3 sc_u_law_are_refused.nd (qe_bin op_addA od_add (qe_var 3) (qe_lstD (qa_cons (qe_callC (ok_u_law_told T) hr tk (qa_cons qe_int (qa_cons (qe_tup (qa_cons qe_int (qa_cons qe_int (qa_cons qe_int qa_nil)))) (qa_cons (qe_tup qa_nil) qa_nil))) (by decide)) (qa_cons (qe_callC (ok_u_law_told T) hr tk (qa_cons qe_int (qa_cons (qe_tup (qa_cons qe_int (qa_cons qe_int (qa_cons qe_int qa_nil)))) (qa_cons (qe_lstD (qa_cons (qe_var 4) qa_nil)) qa_nil))) (by decide)) (qa_cons (qe_callC (ok_u_law_told T) hr tk (qa_cons qe_int (qa_cons (qe_tup (qa_cons qe_int (qa_cons qe_int (qa_cons qe_int qa_nil)))) (qa_cons (qe_tup (qa_cons (qe_var 4) (qa_cons (qe_var 5) qa_nil))) qa_nil))) (by decide)) qa_nil))))))
        (qss_one (qs_ret (qe_cmp (op_eqD hr.units) od_eq (qe_var 3) (qe_bin op_mulA od_mul (qe_lstD (qa_cons (qe_tup (qa_cons qe_str (qa_cons qe_str qa_nil))) qa_nil)) qe_int) (nomark _)))))))))))
abbrev s_law : Stmt := topS 65
theorem sc_law : FnScope ["script", "draws", "n", "turn", "screen", "bent"] ["script"] (defScope s_law) := ⟨rfl, rfl, rfl, by decide +kernel, rfl, by decide +kernel, by decide +kernel⟩
set_option maxHeartbeats 4000000 in
theorem ok_law (T : Txt tx K mg) : Cal P w K mg base (clN tx.ex K) "law" ["script"] 8 d_law := by
  refine Cal.close <| cal_of (N := ["script", "draws", "n", "turn", "screen", "bent"]) (ps := ["script"]) (n := 1) (j := 5) T 52 (by rfl) (T.glo 67) rfl rfl sc_law rfl rfl (fun _ _ _ _ _ _ us hl => match us, hl with | [_], _ => rfl) (fun f cdv A outer s H E hr tk hp => ?_)
  exact qss_cons (qs_set 1 sc_law.nd (qe_callC (ok_u_law_draws T) hr tk (qa_cons (qe_var 0) qa_nil) (by decide)))
        (qss_cons (qs_for hp rfl (qi_rng1 (by rfl) (T.free 2) (qa_cons qe_int qa_nil)) (qg_name 2 sc_law.nd) (qss_one (qs_if (PW.pt (qw_or (qt_cmp (op_neD hr.units) od_ne b2_ne (qe_callC (ok_u_law_told T) hr tk (qa_cons qe_int (qa_cons (qe_var 2) (qa_cons qe_non qa_nil))) (by decide)) (qe_callC (ok_u_law_grown T) hr tk (qa_cons (qe_var 2) qa_nil) (by decide)) (nomark _)) (qw_or1 (qt_cmp op_isnot_bl od_notB b2_notB (qe_callC (ok_is_screen T) hr tk (qa_cons (qe_callC (ok_u_law_grown T) hr tk (qa_cons (qe_var 2) qa_nil) (by decide)) qa_nil) (by decide)) qe_bl (nomark _))))) (qss_one (qs_ret qe_bl)) qss_nil)))
        (qss_cons (qs_for hp rfl (qi_rng1 (by rfl) (T.free 2) (qa_cons qe_int qa_nil)) (qg_name 3 sc_law.nd) (qss_cons (qs_set 4 sc_law.nd (qe_callC (ok_u_law_pick T) hr tk (qa_cons (qe_var 1) (qa_cons (qe_lstD (qa_cons (qe_callC (ok_u_law_drawn_screen T) hr tk (qa_cons (qe_var 1) qa_nil) (by decide)) (qa_cons (qe_callC (ok_u_law_grown T) hr tk (qa_cons (qe_callC (ok_u_law_take T) hr tk (qa_cons (qe_var 1) (qa_cons qe_int qa_nil)) (by decide)) qa_nil) (by decide)) qa_nil))) qa_nil)) (by decide)))
        (qss_cons (qs_if (PW.pt (qw_or (qt_cmp op_isnot_bl od_notB b2_notB (qe_callC (ok_is_screen T) hr tk (qa_cons (qe_var 4) qa_nil) (by decide)) qe_bl (nomark _)) (qw_or (qt_not (qt_val (qe_callC (ok_u_law_are_dots_due T) hr tk (qa_cons (qe_var 1) (qa_cons (qe_var 4) qa_nil)) (by decide)))) (qw_or1 (qt_not (qt_val (qe_callC (ok_u_law_is_spread_due T) hr tk (qa_cons (qe_var 1) qa_nil) (by decide)))))))) (qss_one (qs_ret qe_bl)) qss_nil)
        (qss_cons (qs_set 5 sc_law.nd (qe_bin op_addA od_add (qe_slice (qe_var 4) qo_none (qo_some (qe_un un_neg o1_neg qe_int))) (qe_tup (qa_cons (qe_bin op_addA od_add (qe_slice (qe_ix ix_seq od_ix (qe_var 4) (qe_un un_neg o1_neg qe_int) (fun _ _ => rfl)) qo_none (qo_some (qe_un un_neg o1_neg qe_int))) (qe_tup (qa_cons (qe_bin op_addA od_add (qe_ix ix_seq od_ix (qe_ix ix_seq od_ix (qe_var 4) (qe_un un_neg o1_neg qe_int) (fun _ _ => rfl)) (qe_un un_neg o1_neg qe_int) (fun _ _ => rfl)) qe_int) qa_nil))) qa_nil))))
        (qss_one (qs_if (PW.pt (qw_or (qt_cmp op_isnot_bl od_notB b2_notB (qe_callC (ok_is_screen T) hr tk (qa_cons (qe_var 5) qa_nil) (by decide)) qe_bl (nomark _)) (qw_or1 (qt_not (qt_val (qe_callC (ok_u_law_are_refused T) hr tk (qa_cons (qe_var 1) qa_nil) (by decide))))))) (qss_one (qs_ret qe_bl)) qss_nil))))))
        (qss_one (qs_ret qe_bl))))
end
end K27

set_option Elab.async false
set_option linter.all false
set_option maxRecDepth 100000
set_option maxHeartbeats 0
/-! printed by pr.py: the head by one run of the top, the end of the law -/
namespace K27
open PySem PySem.Spec PyProof.Rows L2 Pd
abbrev R : PySem.W.OpenRow := PySem.W.OpenLaw.row PySem.Challenge.rw_huescarried_k27_whole_dots_and_what_is_s
abbrev hk : PySem.W.Hook := hookX 6 tx
def ob (s : PySem.W.SharedT) : AlX := obsXG 6 tx (HandSHeadRun.getT s)
theorem ob_eq (s : PySem.W.SharedT) : ob s = hk.obs s.abs := obsXG_eq (HandSHeadRun.getT_eq s)
def loose0 : List Str := ["ZERO", "ONE", "MOST_LEVELS", "MOST_GROWN", "HALF", "DOTS", "HueError", "NotRight", "is_integer", "is_within", "check", "shared", "made", "is_ratio", "is_colour", "is_unit", "is_plain", "add", "less", "product"]
def loose1 : List Str := ["is_below", "total", "unit_of", "plain_of", "are_levels", "index_of", "put_by", "put_to", "are_rows", "is_screen", "dot_of", "dots_of", "is_dots", "mean_of", "spread", "grown_screen", "_law_draws", "_law_take", "_law_pick", "_law_mixed"]
def loose2 : List Str := ["_law_r", "_law_add", "_law_sub", "_law_mul", "_law_less", "_law_sum", "_law_clip", "_law_number", "_law_colour", "_law_distance", "_law_told", "_law_place", "_law_grown", "_law_drawn_screen", "_law_dots", "_law_mean", "_law_are_dots_due", "_law_nearest", "_law_is_spread_due", "_law_are_refused"]
def loose : List Str := loose0 ++ loose1 ++ loose2
theorem run (w : World) : HandSHeadRun.RunEq R (PySem.W.view R.prog [65]) hk ob 4000 loose w := by
  intro os
  kernel_rfl
end K27

set_option Elab.async false
set_option linter.all false
set_option maxRecDepth 100000
set_option maxHeartbeats 0
open PySem PySem.W PySem.Calls PyProof.Rows
theorem PySem.Challenge.cw_huescarried_k27_whole_dots_and_what_is_s_holds : PySem.Challenge.rw_huescarried_k27_whole_dots_and_what_is_s.Holds := by
  w_on; o_law
  refine HandSHeadRun.head_any (r := K27.R) (q := view (K27.R).prog [65]) (H := K27.hk) (ob := K27.ob) (M := 4000) (loose := K27.loose) (d := HandSHeadRun.topDef (K27.R).prog 65) (kwd := []) K27.ob_eq
    (by kernel_rfl) (fun s => by kernel_rfl) K27.run (by kernel_rfl) (by kernel_rfl) (by kernel_rfl) (by rfl) (by first | assumption | decide +kernel) (by decide +kernel) ⟨rfl, rfl, rfl, rfl, rfl, by decide +kernel⟩ ?hw ?hc
  case hw => w_witness2
  case hc =>
    exact Pd.walk_ofX (t := K27.tx) (n := 63) (k := 8) (x := "law") rfl (by decide) (by kernel_rfl) ⟨rfl, by decide, by decide⟩ (by kernel_rfl) (fun w K mg base T => K27.ok_law T) K27.law_true
