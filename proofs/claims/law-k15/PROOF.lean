import PyProof.Rows.All
import Wide.All
import OpenK.AllK
import Wide.FinOn
import HandS.ForMost
import HandS.ForExc
import HandS.Deep
import HandS.Star
import HandS.Walk
import HandS.Zip
import HandS.Flow
import HandS.IsInst
import HandS.NoneIn
import HandS.Wide
import HandS.TupAny
import HandS.CallSlots
import HandS.Conv
import HandS.SortInts
import KE.SortData
import KE.KDictPairs
import KE.KeyNested
import KE.KExcInit
import KE.KExcSuper
import KE.KSuper
import HandS.ExcSuper
import KE.KExcIs
import PySem.Challenge.RW_touchrights_k15_main_texts_of_plays
import KE.KExcLine
set_option Elab.async false
set_option linter.all false
set_option maxRecDepth 100000
set_option maxHeartbeats 4000000
/-! DLBase: a data layer over HandS: environments of plain data, owned lists, the judgements EV, ET, EA, SD and their bind lemmas. -/
namespace DL
open PySem PySem.Spec PyProof.Rows L2
abbrev D := PyData
abbrev Sg := L2.St

inductive Slot where
  | v (d : D)
  | m (l : List D)
  | p (l : List D)
  | f (a : Addr)
abbrev Rho := List (Option Slot)

inductive Res (α : Type) where
  | ok (a : α) (r : Rho)
  | exc (c : Nat) (d : D) (r : Rho)
  | bad
abbrev M (α : Type) := Rho → Res α
def ret {α : Type} (a : α) : M α := fun r => .ok a r
def bnd {α β : Type} (x : M α) (k : α → M β) : M β := fun r => match x r with
  | .ok a r' => k a r'
  | .exc c d r' => .exc c d r'
  | .bad => .bad
def noX {α : Type} (x : M α) : M α := fun r => match x r with
  | .ok a r' => .ok a r'
  | .exc _ _ _ => .bad
  | .bad => .bad
def lif {α : Type} (o : Option α) : M α := fun r => match o with
  | some a => .ok a r
  | none => .bad
theorem bnd_ok {α β : Type} {x : M α} {k : α → M β} {r r' : Rho} {a : α} (h : x r = .ok a r') : bnd x k r = k a r' := by unfold bnd; rw [h]
theorem bnd_exc {α β : Type} {x : M α} {k : α → M β} {r r' : Rho} {c : Nat} {d : D} (h : x r = .exc c d r') : bnd x k r = .exc c d r' := by unfold bnd; rw [h]
theorem bnd_bad {α β : Type} {x : M α} {k : α → M β} {r : Rho} (h : x r = .bad) : bnd x k r = .bad := by unfold bnd; rw [h]
theorem bnd_ret {α β : Type} {a : α} {k : α → M β} {r : Rho} : bnd (ret a) k r = k a r := rfl
theorem bnd_lif_some {α β : Type} {a : α} {k : α → M β} {r : Rho} : bnd (lif (some a)) k r = k a r := rfl

/-! ### ownership -/
def Ow (σ : Sg) (r : Rho) (a : Addr) : Prop := ∃ (i : Nat) (l : List D), (r[i]? = some (some (.m l)) ∨ r[i]? = some (some (.p l))) ∧ σ[i]? = some (some (.ref a))
structure Stp (F H : Hp) (O : Addr → Prop) (F' H' : Hp) (O' : Addr → Prop) : Prop where
  sub : ∀ a o, F a = some o → F' a = some o
  keep : ∀ a o, H a = some o → ¬ O a → H' a = some o
  dom : ∀ a, H a ≠ none → H' a ≠ none
  new : ∀ a, F' a ≠ none → F a ≠ none ∨ H a = none ∨ O a
  own : ∀ a, O' a → O a ∨ H a = none
theorem Stp.refl (F H : Hp) (O : Addr → Prop) : Stp F H O F H O := ⟨fun _ _ h => h, fun _ _ h _ => h, fun _ h => h, fun _ h => .inl h, fun _ h => .inl h⟩
theorem ne_none_of {α : Type} {o : Option α} {x : α} (h : o = some x) : o ≠ none := by rw [h]; exact fun z => nomatch z
theorem Stp.trans {F H F1 H1 F2 H2 : Hp} {O O1 O2 : Addr → Prop} (a : Stp F H O F1 H1 O1) (b : Stp F1 H1 O1 F2 H2 O2) : Stp F H O F2 H2 O2 where
  sub := fun x o h => b.sub x o (a.sub x o h)
  keep := fun x o h hn => b.keep x o (a.keep x o h hn) fun z => (a.own x z).elim hn fun e => by rw [h] at e; cases e
  dom := fun x h => b.dom x (a.dom x h)
  new := fun x h => by
    rcases b.new x h with h1 | h1 | h1
    · exact a.new x h1
    · refine .inr (.inl ?_)
      cases e : H x with
      | none => rfl
      | some o => exact absurd h1 (a.dom x (ne_none_of e))
    · exact .inr ((a.own x h1).symm)
  own := fun x h => by
    rcases b.own x h with h1 | h1
    · exact a.own x h1
    · refine .inr ?_
      cases e : H x with
      | none => rfl
      | some o => exact absurd h1 (a.dom x (ne_none_of e))

/-! ### data over a growing heap -/
theorem sqL_mono {K : PySem.W.Frag} {F F' : Hp} {a : Addr} {xs : List V} (k : ∀ a o, F a = some o → F' a = some o) (h : SqL K F a xs) : SqL K F' a xs := by
  rcases h with (h | ⟨o, h⟩) | h
  · exact .inl (.inl (k _ _ h))
  · exact .inl (.inr ⟨o, k _ _ h⟩)
  · exact .inr h
theorem sqT_mono {K : PySem.W.Frag} {F F' : Hp} {a : Addr} {xs : List V} (k : ∀ a o, F a = some o → F' a = some o) (h : SqT K F a xs) : SqT K F' a xs := by
  rcases h with (h | ⟨o, h⟩) | h
  · exact .inl (.inl (k _ _ h))
  · exact .inl (.inr ⟨o, k _ _ h⟩)
  · exact .inr h
mutual
theorem dp_mono {K : PySem.W.Frag} {F F' : Hp} (k : ∀ a o, F a = some o → F' a = some o) : ∀ {d : D} {v : V}, Dp K F v d → Dp K F' v d
  | .none, _, h => by cases h; exact .non
  | .bool _, _, h => by cases h; exact .bl _
  | .int _, _, h => by cases h; exact .int _
  | .str _, _, h => by cases h; exact .str _
  | .list ds, _, h => by
    cases h with
    | lst h1 h2 => exact .lst (sqL_mono k h1) (dps_mono k h2)
  | .tuple ds, _, h => by
    cases h with
    | tup h1 h2 => exact .tup (sqT_mono k h1) (dps_mono k h2)
  | .dict _, _, h => by cases h
theorem dps_mono {K : PySem.W.Frag} {F F' : Hp} (k : ∀ a o, F a = some o → F' a = some o) : ∀ {ds : List D} {vs : List V}, DpAll K F vs ds → DpAll K F' vs ds
  | [], _, h => by cases h; exact .nil
  | d :: ds, _, h => by
    cases h with
    | cons h1 h2 => exact .cons (dp_mono k h1) (dps_mono k h2)
end
theorem dps_length {K : PySem.W.Frag} {F : Hp} : ∀ {ds : List D} {vs : List V}, DpAll K F vs ds → vs.length = ds.length
  | [], _, h => by cases h; rfl
  | d :: ds, _, h => by
    cases h with
    | cons h1 h2 => rw [List.length_cons, List.length_cons, dps_length h2]
theorem dps_get {K : PySem.W.Frag} {F : Hp} : ∀ {ds : List D} {vs : List V}, DpAll K F vs ds → ∀ {i : Nat} {d : D}, ds[i]? = some d → ∃ v, vs[i]? = some v ∧ Dp K F v d
  | [], _, h, i, d, e => by simp at e
  | d0 :: ds, _, h, 0, d, e => by
    cases h with
    | cons h1 h2 => simp at e; subst e; exact ⟨_, rfl, h1⟩
  | d0 :: ds, _, h, i + 1, d, e => by
    cases h with
    | cons h1 h2 =>
      obtain ⟨v, e1, r⟩ := dps_get h2 (i := i) (d := d) (by simpa using e)
      exact ⟨v, by simpa using e1, r⟩
theorem dps_get' {K : PySem.W.Frag} {F : Hp} {ds : List D} {vs : List V} (h : DpAll K F vs ds) {i : Nat} {v : V} (e : vs[i]? = some v) : ∃ d, ds[i]? = some d ∧ Dp K F v d := by
  have hl := dps_length h
  obtain ⟨hi, _⟩ := List.getElem?_eq_some_iff.mp e
  have hi' : i < ds.length := by omega
  obtain ⟨v', e', r⟩ := dps_get h (List.getElem?_eq_getElem hi')
  rw [e] at e'; cases e'
  exact ⟨_, List.getElem?_eq_getElem hi', r⟩
theorem dps_append {K : PySem.W.Frag} {F : Hp} : ∀ {ds es : List D} {vs ws : List V}, DpAll K F vs ds → DpAll K F ws es → DpAll K F (vs ++ ws) (ds ++ es)
  | [], _, _, _, h, g => by cases h; exact g
  | _ :: _, _, _, _, h, g => by
    cases h with
    | cons h1 h2 => exact .cons h1 (dps_append h2 g)
theorem dps_take {K : PySem.W.Frag} {F : Hp} : ∀ {ds : List D} {vs : List V} (n : Nat), DpAll K F vs ds → DpAll K F (vs.take n) (ds.take n)
  | _, _, 0, _ => .nil
  | [], _, n + 1, h => by cases h; exact .nil
  | _ :: _, _, n + 1, h => by
    cases h with
    | cons h1 h2 => exact .cons h1 (dps_take n h2)
theorem dps_drop {K : PySem.W.Frag} {F : Hp} : ∀ {ds : List D} {vs : List V} (n : Nat), DpAll K F vs ds → DpAll K F (vs.drop n) (ds.drop n)
  | _, _, 0, h => h
  | [], _, n + 1, h => by cases h; exact .nil
  | _ :: _, _, n + 1, h => by
    cases h with
    | cons h1 h2 => exact dps_drop n h2
theorem dps_set {K : PySem.W.Frag} {F : Hp} {d : D} {v : V} (r : Dp K F v d) : ∀ {ds : List D} {vs : List V} (n : Nat), DpAll K F vs ds → DpAll K F (vs.set n v) (ds.set n d)
  | [], _, _, h => by cases h; exact .nil
  | _ :: _, _, 0, h => by
    cases h with
    | cons h1 h2 => exact .cons r h2
  | _ :: _, _, n + 1, h => by
    cases h with
    | cons h1 h2 => exact .cons h1 (dps_set r n h2)
theorem dps_erase {K : PySem.W.Frag} {F : Hp} : ∀ {ds : List D} {vs : List V} (n : Nat), DpAll K F vs ds → DpAll K F (vs.eraseIdx n) (ds.eraseIdx n)
  | [], _, _, h => by cases h; exact .nil
  | _ :: _, _, 0, h => by
    cases h with
    | cons h1 h2 => exact h2
  | _ :: _, _, n + 1, h => by
    cases h with
    | cons h1 h2 => exact .cons h1 (dps_erase n h2)
theorem dps_map_bool {K : PySem.W.Frag} {F : Hp} : ∀ {bs : List Bool} {vs : List V}, DpAll K F vs (bs.map .bool) → vs = bs.map .bl
  | [], _, h => by cases h; rfl
  | b :: bs, _, h => by
    cases h with
    | cons h1 h2 => cases h1; rw [dps_map_bool h2]; rfl

/-! ### what the environment says -/
structure EnvOk (pa : Nat → Addr) (K : PySem.W.Frag) (F H : Hp) (σ : Sg) (r : Rho) : Prop where
  len : r.length = σ.length
  sub : ∀ a o, F a = some o → H a = some o
  val : ∀ (i : Nat) (d : D), r[i]? = some (some (.v d)) → ∃ v, σ[i]? = some (some v) ∧ Dp K F v d
  own : ∀ (i : Nat) (l : List D), (r[i]? = some (some (.m l)) ∨ r[i]? = some (some (.p l))) → ∃ a xs, σ[i]? = some (some (.ref a)) ∧ F a = none ∧ H a = some (.lst xs) ∧ DpAll K F xs l
  inj : ∀ (i j : Nat) (a : Addr) (l l' : List D), (r[i]? = some (some (.m l)) ∨ r[i]? = some (some (.p l))) → (r[j]? = some (some (.m l')) ∨ r[j]? = some (some (.p l'))) → σ[i]? = some (some (.ref a)) → σ[j]? = some (some (.ref a)) → i = j
  par : ∀ (i : Nat) (l : List D), r[i]? = some (some (.p l)) → σ[i]? = some (some (.ref (pa i)))
  fn : ∀ (i : Nat) (a : Addr), r[i]? = some (some (.f a)) → σ[i]? = some (some (.ref a))

/-- exception classes by number: the class's address, its field -/
structure DC where
  pa : Nat → Addr
  xc : List (Addr × Option Str)
  W : WX
def XRep (xc : List (Addr × Option Str)) (K : PySem.W.Frag) (F H : Hp) (c : Nat) (d : D) (cls : Value) (dd : Option Addr) : Prop :=
  ∃ a fo, xc[c]? = some (a, fo) ∧ cls = .ref a ∧ match fo with
    | none => dd = none ∧ d = .none
    | some fld => ∃ q v, dd = some q ∧ H q = some (.xd [(fld, v)]) ∧ Dp K F v d

section
variable {X : Cx} {C : DC}
/-- what an outcome asks; k: what follows -/
def Wn (X : Cx) (C : DC) (F H : Hp) (σ : Sg) (r : Rho) {α : Type} (x : Res α) (k : α → Rho → Hp → Hp → Prop) : Prop := match x with
  | .ok a r' => ∀ F' H', EnvOk C.pa X.K F' H' σ r' → Stp F H (Ow σ r) F' H' (Ow σ r') → k a r' F' H'
  | .exc c d r' => ∀ F' H' cls dd, EnvOk C.pa X.K F' H' σ r' → Stp F H (Ow σ r) F' H' (Ow σ r') → XRep C.xc X.K F' H' c d cls dd → C.W cls dd σ H'
  | .bad => False
def EV (X : Cx) (C : DC) (e : Expr) (f : M D) : Prop := ∃ t, PE X e t ∧ ∀ F H σ r Q, EnvOk C.pa X.K F H σ r → Wn X C F H σ r (f r) (fun d _ F' H' => ∀ v, Dp X.K F' v d → Q v H') → t σ H Q
def ET (X : Cx) (C : DC) (e : Expr) (f : M Bool) : Prop := ∃ t, PT X e t ∧ ∀ F H σ r Q, EnvOk C.pa X.K F H σ r → Wn X C F H σ r (f r) (fun b _ _ H' => Q b H') → t σ H Q
def EA (X : Cx) (C : DC) (es : List Expr) (f : M (List D)) : Prop := ∃ t, PA X es t ∧ ∀ F H σ r Q, EnvOk C.pa X.K F H σ r → Wn X C F H σ r (f r) (fun ds _ F' H' => ∀ vs, DpAll X.K F' vs ds → Q vs H') → t σ H Q
/-- a new value that nobody else holds, or frozen data -/
def SRep (K : PySem.W.Frag) (F' H' : Hp) (O' : Addr → Prop) (H : Hp) : Slot → V → Prop
  | .v d, v => Dp K F' v d
  | .m l, v => ∃ a xs, v = .ref a ∧ F' a = none ∧ H' a = some (.lst xs) ∧ DpAll K F' xs l ∧ ¬ O' a ∧ H a = none
  | .p _, _ => False
  | .f a, v => v = .ref a
def ES (X : Cx) (C : DC) (e : Expr) (f : M Slot) : Prop := ∃ t, PE X e t ∧ ∀ F H σ r Q, EnvOk C.pa X.K F H σ r → Wn X C F H σ r (f r) (fun s r' F' H' => ∀ v, SRep X.K F' H' (Ow σ r') H s v → Q v H') → t σ H Q

inductive Fl where
  | nx | ret (s : Slot) | brk | ct
def Fin (K : PySem.W.Frag) (E : Ends) (σ' : Sg) (F' H' : Hp) (O' : Addr → Prop) (H : Hp) : Fl → Prop
  | .nx => E.nx σ' H'
  | .ret s => ∀ v, SRep K F' H' O' H s v → E.rt v H'
  | .brk => E.bk σ' H'
  | .ct => E.ct σ' H'
def Ws (X : Cx) (C : DC) (F H : Hp) (σ : Sg) (r : Rho) (x : Res Fl) (E : Ends) : Prop := match x with
  | .ok fl r' => ∀ σ' F' H', EnvOk C.pa X.K F' H' σ' r' → Stp F H (Ow σ r) F' H' (Ow σ' r') → Fin X.K E σ' F' H' (Ow σ' r') H fl
  | .exc c d r' => ∀ σ' F' H' cls dd, EnvOk C.pa X.K F' H' σ' r' → Stp F H (Ow σ r) F' H' (Ow σ' r') → XRep C.xc X.K F' H' c d cls dd → C.W cls dd σ' H'
  | .bad => False
def SD (X : Cx) (C : DC) (st : Stmt) (f : M Fl) : Prop := ∃ t, PS X st t ∧ ∀ F H σ r E, EnvOk C.pa X.K F H σ r → Ws X C F H σ r (f r) E → t E σ H
def SDs (X : Cx) (C : DC) (st : List Stmt) (f : M Fl) : Prop := ∃ t, PSs X st t ∧ ∀ F H σ r E, EnvOk C.pa X.K F H σ r → Ws X C F H σ r (f r) E → t E σ H

variable {F H F1 H1 : Hp} {σ : Sg} {r r1 : Rho} {α β : Type}
theorem Wn.imp {x : Res α} {k k' : α → Rho → Hp → Hp → Prop} (h : Wn X C F H σ r x k) (i : ∀ a r' F' H', EnvOk C.pa X.K F' H' σ r' → Stp F H (Ow σ r) F' H' (Ow σ r') → k a r' F' H' → k' a r' F' H') : Wn X C F H σ r x k' := by
  cases x with
  | ok a r' => exact fun F' H' e s => i a r' F' H' e s (h F' H' e s)
  | exc c d r' => exact h
  | bad => exact h
/-- further on -/
theorem Wn.on {x : Res α} {k : α → Rho → Hp → Hp → Prop} (h : Wn X C F H σ r x k) (s : Stp F H (Ow σ r) F1 H1 (Ow σ r1)) : Wn X C F1 H1 σ r1 x k := by
  cases x with
  | ok a r' => exact fun F' H' e s' => h F' H' e (s.trans s')
  | exc c d r' => exact fun F' H' cls dd e s' x => h F' H' cls dd e (s.trans s') x
  | bad => exact h
/-- two steps: what the first is to reach -/
theorem Wn.bnd {x : M α} {k : α → M β} {q : β → Rho → Hp → Hp → Prop} (h : Wn X C F H σ r (bnd x k r) q) :
    Wn X C F H σ r (x r) (fun a r1 F1 H1 => EnvOk C.pa X.K F1 H1 σ r1 ∧ Stp F H (Ow σ r) F1 H1 (Ow σ r1) ∧ Wn X C F1 H1 σ r1 (k a r1) q) := by
  cases e : x r with
  | ok a r' =>
    rw [bnd_ok e] at h
    exact fun F' H' e' s' => ⟨e', s', h.on s'⟩
  | exc c d r' => rw [bnd_exc e] at h; exact h
  | bad => rw [bnd_bad e] at h; exact h
theorem Wn.lif {o : Option α} {k : α → Rho → Hp → Hp → Prop} (h : Wn X C F H σ r (lif o r) k) (e : EnvOk C.pa X.K F H σ r) : ∃ a, o = some a ∧ k a r F H := by
  cases o with
  | none => exact h.elim
  | some a => exact ⟨a, rfl, h F H e (Stp.refl _ _ _)⟩
theorem Wn.ret {a : α} {k : α → Rho → Hp → Hp → Prop} (h : Wn X C F H σ r (ret a r) k) (e : EnvOk C.pa X.K F H σ r) : k a r F H := h F H e (Stp.refl _ _ _)

/-! ### the heap grows -/
theorem EnvOk.grow {pa : Nat → Addr} {K : PySem.W.Frag} {F' H' : Hp} (e : EnvOk pa K F H σ r) (hF : ∀ a o, F a = some o → F' a = some o) (hH : ∀ a o, H a = some o → H' a = some o) (hs : ∀ a o, F' a = some o → H' a = some o)
    (hn : ∀ a, F' a ≠ none → F a ≠ none ∨ H a = none) : EnvOk pa K F' H' σ r where
  len := e.len
  sub := hs
  val := fun i d h => let ⟨v, e1, r1⟩ := e.val i d h; ⟨v, e1, dp_mono hF r1⟩
  own := fun i l h => by
    obtain ⟨a, xs, e1, e2, e3, e4⟩ := e.own i l h
    refine ⟨a, xs, e1, ?_, hH _ _ e3, dps_mono hF e4⟩
    cases q : F' a with
    | none => rfl
    | some o =>
      rcases hn a (ne_none_of q) with z | z
      · exact absurd e2 z
      · rw [e3] at z; cases z
  inj := e.inj
  par := e.par
  fn := e.fn
theorem Stp.grow {F' H' : Hp} {O : Addr → Prop} (hF : ∀ a o, F a = some o → F' a = some o) (hH : ∀ a o, H a = some o → H' a = some o) (hn : ∀ a, F' a ≠ none → F a ≠ none ∨ H a = none) : Stp F H O F' H' O :=
  ⟨hF, fun a o h _ => hH a o h, fun a h => by
    cases e : H a with
    | none => exact absurd e h
    | some o => exact ne_none_of (hH a o e), fun a h => (hn a h).elim .inl fun z => .inr (.inl z), fun _ h => .inl h⟩
theorem upd_grow {p : Addr} {o : HO} (hp : H p = none) : ∀ a u, H a = some u → upd H p o a = some u := fun a u e => by rw [upd_ne (ne_of_none e hp)]; exact e
/-- a new frozen object -/
theorem EnvOk.laid {pa : Nat → Addr} {K : PySem.W.Frag} {p : Addr} {o : HO} (e : EnvOk pa K F H σ r) (hp : H p = none) : EnvOk pa K (upd F p o) (upd H p o) σ r := by
  have hf : F p = none := by
    cases q : F p with
    | none => rfl
    | some u => rw [e.sub _ _ q] at hp; cases hp
  refine e.grow (upd_grow hf) (upd_grow hp) (fun a u h => ?_) fun a h => ?_
  · by_cases z : a = p
    · subst z; rw [upd_same] at h ⊢; exact h
    · rw [upd_ne z] at h ⊢; exact e.sub a u h
  · by_cases z : a = p
    · subst z; exact .inr hp
    · rw [upd_ne z] at h; exact .inl h
theorem EnvOk.free {pa : Nat → Addr} {K : PySem.W.Frag} {p : Addr} (e : EnvOk pa K F H σ r) (hp : H p = none) : F p = none := by
  cases q : F p with
  | none => rfl
  | some u => rw [e.sub _ _ q] at hp; cases hp
theorem Stp.laid {p : Addr} {o : HO} {O : Addr → Prop} (hf : F p = none) (hp : H p = none) : Stp F H O (upd F p o) (upd H p o) O :=
  Stp.grow (upd_grow hf) (upd_grow hp) fun a h => by
    by_cases z : a = p
    · subst z; exact .inr hp
    · rw [upd_ne z] at h; exact .inl h
/-- a new object that is not frozen -/
theorem EnvOk.laidH {pa : Nat → Addr} {K : PySem.W.Frag} {p : Addr} {o : HO} (e : EnvOk pa K F H σ r) (hp : H p = none) : EnvOk pa K F (upd H p o) σ r :=
  e.grow (fun _ _ h => h) (upd_grow hp) (fun a u h => upd_grow hp a u (e.sub a u h)) fun a h => .inl h
theorem Stp.laidH {p : Addr} {o : HO} {O : Addr → Prop} (hp : H p = none) : Stp F H O F (upd H p o) O :=
  Stp.grow (fun _ _ h => h) (upd_grow hp) fun a h => .inl h
theorem not_ow_of_free {pa : Nat → Addr} {K : PySem.W.Frag} {p : Addr} (e : EnvOk pa K F H σ r) (hp : H p = none) : ¬ Ow σ r p := fun ⟨i, l, h1, h2⟩ => by
  obtain ⟨a, xs, e1, e2, e3, e4⟩ := e.own i l h1
  rw [h2] at e1; cases e1
  rw [e3] at hp; cases hp
end

/-! ### names, constants -/
section
variable {X : Cx} {C : DC}
/-- a name read as data; an owned list is frozen by it -/
def dName (i : Nat) : M D := fun r => match r[i]? with
  | some (some (.v d)) => .ok d r
  | some (some (.m l)) => .ok (.list l) (r.set i (some (.v (.list l))))
  | _ => .bad
def dC (d : D) : M D := ret d
theorem set_get {α : Type} {l : List α} {i j : Nat} {x : α} (h : i < l.length) : (l.set i x)[j]? = if i = j then some x else l[j]? := by
  rw [List.getElem?_set]
  by_cases e : i = j
  · subst e; simp [h]
  · simp [e]
theorem lt_of_get {α : Type} {l : List α} {i : Nat} {x : α} (h : l[i]? = some x) : i < l.length := (List.getElem?_eq_some_iff.mp h).1
/-- slot i's owned list is frozen -/
theorem EnvOk.freeze {pa : Nat → Addr} {K : PySem.W.Frag} {F H : Hp} {σ : Sg} {r : Rho} {i : Nat} {l : List D} (e : EnvOk pa K F H σ r) (h : r[i]? = some (some (.m l))) :
    ∃ a xs, σ[i]? = some (some (.ref a)) ∧ H a = some (.lst xs) ∧ EnvOk pa K (upd F a (.lst xs)) H σ (r.set i (some (.v (.list l)))) ∧ Stp F H (Ow σ r) (upd F a (.lst xs)) H (Ow σ (r.set i (some (.v (.list l))))) ∧ Dp K (upd F a (.lst xs)) (.ref a) (.list l) := by
  obtain ⟨a, xs, e1, e2, e3, e4⟩ := e.own i l (.inl h)
  have hi := lt_of_get h
  have hd : Dp K (upd F a (.lst xs)) (.ref a) (.list l) := .lst (SqL.of upd_same) (dps_mono (upd_grow e2) e4)
  have back : ∀ {j : Nat} {s : Slot}, (r.set i (some (.v (.list l))))[j]? = some (some s) → (∀ d, s ≠ .v d) → r[j]? = some (some s) ∧ i ≠ j := fun {j s} q hn => by
    rw [set_get hi] at q
    by_cases z : i = j
    · rw [if_pos z] at q; cases q; exact absurd rfl (hn _)
    · rw [if_neg z] at q; exact ⟨q, z⟩
  have backO : ∀ {j : Nat} {l' : List D}, ((r.set i (some (.v (.list l))))[j]? = some (some (.m l')) ∨ (r.set i (some (.v (.list l))))[j]? = some (some (.p l'))) → (r[j]? = some (some (.m l')) ∨ r[j]? = some (some (.p l'))) ∧ i ≠ j := fun {j l'} q => by
    rcases q with q | q
    · obtain ⟨q, z⟩ := back q (fun _ w => nomatch w); exact ⟨.inl q, z⟩
    · obtain ⟨q, z⟩ := back q (fun _ w => nomatch w); exact ⟨.inr q, z⟩
  refine ⟨a, xs, e1, e3, ⟨by rw [List.length_set]; exact e.len, fun b o q => ?_, fun j d q => ?_, fun j l' q => ?_, fun j j' b l1 l2 q1 q2 q3 q4 => ?_, fun j l' q => ?_, fun j b q => ?_⟩, ⟨upd_grow e2, fun _ _ q _ => q, fun _ q => q, fun b q => ?_, fun b q => ?_⟩, hd⟩
  · by_cases z : b = a
    · subst z; rw [upd_same] at q; cases q; exact e3
    · rw [upd_ne z] at q; exact e.sub b o q
  · rw [set_get hi] at q
    by_cases z : i = j
    · rw [if_pos z] at q; cases q; subst z; exact ⟨_, e1, hd⟩
    · rw [if_neg z] at q
      obtain ⟨v, q1, q2⟩ := e.val j d q
      exact ⟨v, q1, dp_mono (upd_grow e2) q2⟩
  · obtain ⟨q, z⟩ := backO q
    obtain ⟨b, ys, g1, g2, g3, g4⟩ := e.own j l' q
    refine ⟨b, ys, g1, ?_, g3, dps_mono (upd_grow e2) g4⟩
    have hb : b ≠ a := fun w => z (e.inj i j a l l' (.inl h) q e1 (w ▸ g1))
    rw [upd_ne hb]; exact g2
  · exact e.inj j j' b l1 l2 (backO q1).1 (backO q2).1 q3 q4
  · exact e.par j l' (back q (fun _ w => nomatch w)).1
  · exact e.fn j b (back q (fun _ w => nomatch w)).1
  · by_cases z : b = a
    · subst z; exact .inr (.inr ⟨i, l, .inl h, e1⟩)
    · rw [upd_ne z] at q; exact .inl q
  · obtain ⟨j, l', q1, q2⟩ := q
    exact .inl ⟨j, l', (backO q1).1, q2⟩
theorem ev_name (i : Nat) {x : Str} {pos : Pos} (hN : X.N[i]? = some x := by rfl) (hv : Vis X.env.scope x := by first | exact Or.inl rfl | exact Or.inr (Or.inl rfl) | exact Or.inr (Or.inr rfl)) (hd : (x == ("__debug__" : Str)) = false := by decide)
    (hcd : (x == ("__classdict__" : Str)) = false := by decide) : EV X C (.Name x pos) (dName i) := by
  refine ⟨tVar i, pe_var hN hv hd hcd, fun F H σ r Q e h => ?_⟩
  unfold dName at h
  cases q : r[i]? with
  | none => rw [q] at h; exact h.elim
  | some o =>
    cases o with
    | none => rw [q] at h; exact h.elim
    | some s =>
      cases s with
      | v d =>
        rw [q] at h
        obtain ⟨v, e1, e2⟩ := e.val i d q
        exact ⟨v, e1, h F H e (Stp.refl _ _ _) v e2⟩
      | m l =>
        rw [q] at h
        obtain ⟨a, xs, e1, e2, e3, e4, e5⟩ := e.freeze q
        exact ⟨_, e1, h _ _ e3 e4 _ e5⟩
      | p l => rw [q] at h; exact h.elim
      | f a => rw [q] at h; exact h.elim
theorem ev_of {e : Expr} {v : V} {d : D} (h : PE X e (tC v)) (hd : ∀ F : Hp, Dp X.K F v d) : EV X C e (dC d) :=
  ⟨_, h, fun F H σ r Q en w => w F H en (Stp.refl _ _ _) v (hd F)⟩
theorem ev_int {i j pos} : EV X C (.Constant (.int i) j pos) (dC (.int i)) := ev_of pe_int fun _ => .int _
theorem ev_bool {b j pos} : EV X C (.Constant (.bool b) j pos) (dC (.bool b)) := ev_of pe_bl fun _ => .bl _
theorem ev_none {j pos} : EV X C (.Constant .none j pos) (dC .none) := ev_of pe_non fun _ => .non
theorem ev_str {x j pos} : EV X C (.Constant (.str x) j pos) (dC (.str x)) := ev_of pe_str fun _ => .str _
theorem ev_gint {x : Str} {i : Int} {t : Tok} {pos : Pos} (hg : Gl X x) (hm : X.mg x = some (.int i t)) (hd : (x == ("__debug__" : Str)) = false := by decide) : EV X C (.Name x pos) (dC (.int i)) := ev_of (pe_glob (v := .int i) hg hm ⟨t, rfl⟩ hd) fun _ => .int _
theorem ev_gstr {x z : Str} {t : Tok} {pos : Pos} (hg : Gl X x) (hm : X.mg x = some (.str z t)) (hd : (x == ("__debug__" : Str)) = false := by decide) : EV X C (.Name x pos) (dC (.str z)) := ev_of (pe_glob (v := .str z) hg hm ⟨t, rfl⟩ hd) fun _ => .str _
end
end DL

/-! DLOps: operators, comparisons, subscripts, slices, built-ins and methods of texts upon plain data. -/
namespace DL
open PySem PySem.Spec PyProof.Rows L2

structure Grw (F H F' H' : Hp) : Prop where
  subF : ∀ a o, F a = some o → F' a = some o
  subH : ∀ a o, H a = some o → H' a = some o
  fin : ∀ a o, F' a = some o → H' a = some o
  new : ∀ a, F' a ≠ none → F a ≠ none ∨ H a = none
theorem Grw.refl {F H : Hp} (s : ∀ a o, F a = some o → H a = some o) : Grw F H F H := ⟨fun _ _ h => h, fun _ _ h => h, s, fun _ h => .inl h⟩
theorem free_of {F H : Hp} (s : ∀ a o, F a = some o → H a = some o) {p : Addr} (hp : H p = none) : F p = none := by
  cases q : F p with
  | none => rfl
  | some u => rw [s _ _ q] at hp; cases hp
theorem Grw.laid {F H : Hp} (s : ∀ a o, F a = some o → H a = some o) {p : Addr} {o : HO} (hp : H p = none) : Grw F H (upd F p o) (upd H p o) :=
  ⟨upd_grow (free_of s hp), upd_grow hp, fun a u h => by
    by_cases z : a = p
    · subst z; rw [upd_same] at h ⊢; exact h
    · rw [upd_ne z] at h ⊢; exact s a u h, fun a h => by
    by_cases z : a = p
    · subst z; exact .inr hp
    · rw [upd_ne z] at h; exact .inl h⟩

def OD (X : Cx) (f : Value → Value → Sem Value) (g : D → D → Option D) : Prop := ∃ rr : R2, OpR X f rr ∧ ∀ F H x y a b c Q, (∀ a o, F a = some o → H a = some o) → Dp X.K F x a → Dp X.K F y b → g a b = some c →
  (∀ v F' H', Grw F H F' H' → Dp X.K F' v c → Q v H') → rr x y H Q
def orG (g h : D → D → Option D) : D → D → Option D := fun a b => match g a b with
  | some c => some c
  | none => h a b
section
variable {X : Cx} {C : DC}
theorem OD.or {f : Value → Value → Sem Value} {g h : D → D → Option D} (a : OD X f g) (b : OD X f h) : OD X f (orG g h) := by
  obtain ⟨r1, o1, s1⟩ := a
  obtain ⟨r2, o2, s2⟩ := b
  refine ⟨fun x y H Q => r1 x y H Q ∨ r2 x y H Q, fun pins s σ H x y v u Q I rx ry q => ?_, fun F H x y a b c Q sb dx dy e q => ?_⟩
  · rcases q with q | q
    · exact o1 pins s σ H x y v u Q I rx ry q
    · exact o2 pins s σ H x y v u Q I rx ry q
  · unfold orG at e
    split at e
    · rename_i c' e'
      cases e
      exact .inl (s1 F H x y a b c Q sb dx dy e' q)
    · exact .inr (s2 F H x y a b c Q sb dx dy e q)

/-! ### ints -/
def onI (C : Int → Int → Bool) (g : Int → Int → D) : D → D → Option D := fun a b => match a, b with
  | .int i, .int j => if C i j then some (g i j) else none
  | _, _ => none
theorem od_int {f : Value → Value → Sem Value} {P : Int → Int → Prop} {B : Int → Int → Bool} {g : Int → Int → V} {g' : Int → Int → D} (o : OpR X f (rI P g)) (hB : ∀ i j, B i j = true → P i j) (hg : ∀ (F : Hp) i j, Dp X.K F (g i j) (g' i j)) : OD X f (onI B g') := by
  refine ⟨_, o, fun F H x y a b c Q sb dx dy e q => ?_⟩
  unfold onI at e
  split at e
  · split at e
    · cases e
      cases dx
      cases dy
      exact ⟨_, _, rfl, rfl, hB _ _ (by assumption), q _ F H (Grw.refl sb) (hg _ _ _)⟩
    · cases e
  · cases e
theorem od_int0 {f : Value → Value → Sem Value} {g : Int → Int → V} {g' : Int → Int → D} (o : OpR X f (rI0 g)) (hg : ∀ (F : Hp) i j, Dp X.K F (g i j) (g' i j)) : OD X f (onI (fun _ _ => true) g') := by
  refine ⟨_, o, fun F H x y a b c Q sb dx dy e q => ?_⟩
  unfold onI at e
  split at e
  · cases dx
    cases dy
    simp only [if_true] at e
    cases e
    exact ⟨_, _, rfl, rfl, q _ F H (Grw.refl sb) (hg _ _ _)⟩
  · cases e
def T2 : Int → Int → Bool := fun _ _ => true
def gAddI : D → D → Option D := onI (fun _ _ => true) fun i j => .int (i + j)
def gSub : D → D → Option D := onI (fun _ _ => true) fun i j => .int (i - j)
def gMul : D → D → Option D := onI (fun i j => decide ((-(2 ^ 64) < i ∧ i < 2 ^ 64) ∨ (-(2 ^ 64) < j ∧ j < 2 ^ 64))) fun i j => .int (i * j)
def gDiv : D → D → Option D := onI (fun _ j => decide (0 < j ∧ j < 1073741824)) fun i j => .int (i / j)
def gMod : D → D → Option D := onI (fun _ j => decide (0 < j)) fun i j => .int (i % j)
def gPow : D → D → Option D := onI (fun i j => decide (0 ≤ j ∧ j ≤ 1000000 ∧ i.natAbs < 2 ^ 64)) fun i j => .int (i ^ j.toNat)
theorem od_addI : OD X (binaryOp .Add) gAddI := od_int0 op_add fun _ _ _ => .int _
theorem od_sub : OD X (binaryOp .Sub) gSub := od_int0 op_sub fun _ _ _ => .int _
theorem od_mul : OD X (binaryOp .Mult) gMul := od_int op_mul (fun i j h => (show (-(2 ^ 64) < i ∧ i < 2 ^ 64) ∨ (-(2 ^ 64) < j ∧ j < 2 ^ 64) from of_decide_eq_true h)) fun _ _ _ => .int _
theorem od_div : OD X (binaryOp .FloorDiv) gDiv := od_int op_fdiv (fun i j h => (show 0 < j ∧ j < 1073741824 from of_decide_eq_true h)) fun _ _ _ => .int _
theorem od_mod : OD X (binaryOp .Mod) gMod := od_int op_mod (fun i j h => (show 0 < j from of_decide_eq_true h)) fun _ _ _ => .int _
theorem od_pow : OD X (binaryOp .Pow) gPow := od_int op_pow (fun i j h => (show 0 ≤ j ∧ j ≤ 1000000 ∧ i.natAbs < 2 ^ 64 from of_decide_eq_true h)) fun _ _ _ => .int _
def gLtI : D → D → Option D := onI (fun _ _ => true) fun i j => .bool (decide (i < j))
def gLe : D → D → Option D := onI (fun _ _ => true) fun i j => .bool (decide (i ≤ j))
def gGt : D → D → Option D := onI (fun _ _ => true) fun i j => .bool (decide (j < i))
def gGe : D → D → Option D := onI (fun _ _ => true) fun i j => .bool (decide (j ≤ i))
theorem od_ltI : OD X (compareOp .Lt) gLtI := od_int0 op_lt fun _ _ _ => .bl _
theorem od_le : OD X (compareOp .LtE) gLe := od_int0 op_le fun _ _ _ => .bl _
theorem od_gt : OD X (compareOp .Gt) gGt := od_int0 op_gt fun _ _ _ => .bl _
theorem od_ge : OD X (compareOp .GtE) gGe := od_int0 op_ge fun _ _ _ => .bl _

/-! ### texts -/
def gAddS : D → D → Option D := fun a b => match a, b with
  | .str i, .str j => if i.length + j.length ≤ sizeLine then some (.str (i ++ j)) else none
  | _, _ => none
theorem od_addS : OD X (binaryOp .Add) gAddS := by
  refine ⟨_, op_add_str, fun F H x y a b c Q sb dx dy e q => ?_⟩
  unfold gAddS at e
  split at e
  · split at e
    · cases e
      cases dx
      cases dy
      exact ⟨_, _, rfl, rfl, by assumption, q _ F H (Grw.refl sb) (.str _)⟩
    · cases e
  · cases e
def gLtS : D → D → Option D := fun a b => match a, b with
  | .str i, .str j => some (.bool (decide (i.cps.toList < j.cps.toList)))
  | _, _ => none
theorem od_ltS : OD X (compareOp .Lt) gLtS := by
  refine ⟨_, op_lt_str, fun F H x y a b c Q sb dx dy e q => ?_⟩
  unfold gLtS at e
  split at e
  · cases e
    cases dx
    cases dy
    exact ⟨_, _, rfl, rfl, q _ F H (Grw.refl sb) (.bl _)⟩
  · cases e
def gInS (neg : Bool) : D → D → Option D := fun a b => match a, b with
  | .str i, .str j => some (.bool (neg != !(Builtin.Str.occurrences j i 0 j.length 1).isEmpty))
  | _, _ => none
theorem od_inS : OD X (compareOp .In) (gInS false) := by
  refine ⟨_, op_in_str, fun F H x y a b c Q sb dx dy e q => ?_⟩
  unfold gInS at e
  split at e
  · cases e
    cases dx
    cases dy
    exact ⟨_, _, rfl, rfl, q _ F H (Grw.refl sb) (by simp only [Bool.false_bne]; exact .bl _)⟩
  · cases e

/-! ### lists, tuples -/
/-- list + list, wherever they stand -/
theorem op_catL : OpR X (binaryOp .Add) (fun x y H Q => ∃ l b xs zs, x = .ref l ∧ y = .ref b ∧ SqL X.K H l xs ∧ SqL X.K H b zs ∧ xs.length + zs.length ≤ sizeLine ∧ ∀ p, H p = none → Q (.ref p) (upd H p (.lst (xs ++ zs)))) := by
  intro pins s σ H x y v u Q I rx ry h
  obtain ⟨l, b, xs, zs, rfl, rfl, hH, hB, hz, q⟩ := h
  cases rx
  cases ry
  obtain ⟨its, r, ⟨⟨cls, dd, data, sls⟩, n, e, hc, hdn, hdt⟩, hl⟩ := I.list hH
  obtain ⟨its2, r2, ⟨⟨cls2, dd2, data2, sls2⟩, n2, e2, hc2, hdn2, hdt2⟩, hl2⟩ := I.list hB
  simp only at hc hdn hdt hc2 hdn2 hdt2
  subst hc hdn hdt hc2 hdn2 hdt2
  have a1 := r.length
  have a2 := r2.length
  have ea : its.toArray ++ its2.toArray = (its ++ its2).toArray := by simp
  refine concat_meets ⟨_, e, rfl⟩ ⟨_, e2, rfl⟩ noFill_list_add seq_list_add PySem.F.slot_list_add PySem.F.entry_list_add (PySem.F.args_list_add_2 _ _) (list_addW l b its.toArray its2.toArray n n2 none none sls sls2 (by simp only [List.size_toArray]; omega)) ⟨e, e2, ?_⟩
  rw [ea]
  exact ⟨.ref _, _, I.lnew (t' := s.toks) (r.append r2) (by rw [List.length_append]; omega), rfl, q _ I.fresh⟩
def gAddL : D → D → Option D := fun a b => match a, b with
  | .list i, .list j => if i.length + j.length ≤ sizeLine then some (.list (i ++ j)) else none
  | _, _ => none
theorem od_addL : OD X (binaryOp .Add) gAddL := by
  refine ⟨_, op_catL, fun F H x y a b c Q sb dx dy e q => ?_⟩
  unfold gAddL at e
  split at e
  · split at e
    · cases e
      cases dx with
      | lst h1 h2 =>
        cases dy with
        | lst g1 g2 =>
          refine ⟨_, _, _, _, rfl, rfl, sqL_mono sb h1, sqL_mono sb g1, by rw [dps_length h2, dps_length g2]; assumption, fun p hp => q _ _ _ (Grw.laid sb hp) ?_⟩
          exact .lst (SqL.of upd_same) (dps_mono (upd_grow (free_of sb hp)) (dps_append h2 g2))
    · cases e
  · cases e
def gAddT : D → D → Option D := fun a b => match a, b with
  | .tuple i, .tuple j => if i.length + j.length ≤ sizeLine then some (.tuple (i ++ j)) else none
  | _, _ => none
theorem od_addT : OD X (binaryOp .Add) gAddT := by
  refine ⟨_, op_catA, fun F H x y a b c Q sb dx dy e q => ?_⟩
  unfold gAddT at e
  split at e
  · split at e
    · cases e
      cases dx with
      | tup h1 h2 =>
        cases dy with
        | tup g1 g2 =>
          refine ⟨_, _, _, _, rfl, rfl, sqT_mono sb h1, sqT_mono sb g1, by rw [dps_length h2, dps_length g2]; assumption, fun z => ?_, fun _ z => ?_, fun _ _ p hp => ?_⟩
          · subst z
            cases h2
            exact q _ F H (Grw.refl sb) (.tup g1 g2)
          · subst z
            cases g2
            exact q _ F H (Grw.refl sb) (by rw [List.append_nil]; exact .tup h1 h2)
          · exact q _ _ _ (Grw.laid sb hp) (.tup (SqT.of upd_same) (dps_mono (upd_grow (free_of sb hp)) (dps_append h2 g2)))
    · cases e
  · cases e
/-- a + b -/
def gAdd : D → D → Option D := orG gAddI (orG gAddS (orG gAddL gAddT))
theorem od_add : OD X (binaryOp .Add) gAdd := od_addI.or (od_addS.or (od_addL.or od_addT))
def gLt : D → D → Option D := orG gLtI gLtS
theorem od_lt : OD X (compareOp .Lt) gLt := od_ltI.or od_ltS

/-! ### ==, in -/
def gEq (neg : Bool) : D → D → Option D := fun a b => if SeqAt.shaped a && SeqAt.shaped b then some (.bool (neg != PyData.eqv a b)) else none
theorem od_eq (hu : X.A.units + 64 < cLine) : OD X (compareOp .Eq) (gEq false) := by
  refine ⟨_, op_eqD hu, fun F H x y a b c Q sb dx dy e q => ?_⟩
  unfold gEq at e
  split at e
  · rename_i hs
    cases e
    rw [Bool.and_eq_true] at hs
    exact ⟨a, b, dp_mono sb dx, dp_mono sb dy, hs.1, hs.2, q _ F H (Grw.refl sb) (by simp only [Bool.false_bne]; exact .bl _)⟩
  · cases e
theorem od_ne (hu : X.A.units + 64 < cLine) : OD X (compareOp .NotEq) (gEq true) := by
  refine ⟨_, op_neD hu, fun F H x y a b c Q sb dx dy e q => ?_⟩
  unfold gEq at e
  split at e
  · rename_i hs
    cases e
    rw [Bool.and_eq_true] at hs
    exact ⟨a, b, dp_mono sb dx, dp_mono sb dy, hs.1, hs.2, q _ F H (Grw.refl sb) (by simp only [Bool.true_bne]; exact .bl _)⟩
  · cases e
theorem shaped_tup {ds : List D} : SeqAt.shaped (.tuple ds) = SeqAt.shaped (.list ds) := by
  simp [SeqAt.shaped, PyData.canLay0, PyData.depth]
theorem op_inTup (hu : X.A.units + 65 < cLine) (neg : Bool) : OpR X (compareOp (if neg then .NotIn else .In)) (fun x y H Q => ∃ d ds, Dp X.K H x d ∧ Dp X.K H y (.tuple ds) ∧ SeqAt.shaped d = true ∧ SeqAt.shaped (.list ds) = true ∧ Q (.bl (neg != ds.any fun z => PyData.eqv z d)) H) := by
  intro pins s σ H x y v u Q I rx ry h
  obtain ⟨d, ds, hd, he, sd, se, q⟩ := h
  obtain ⟨as, r1⟩ := Dp.reads I d x v hd rx
  obtain ⟨bs, r2⟩ := Dp.reads I (.tuple ds) y u he ry
  cases neg with
  | false =>
    simp only [Bool.false_bne] at q
    exact SeqAt.in_tuple_reads r2 r1 (SeqAt.canLay_of_shaped se) (SeqAt.canLay_of_shaped sd) (room_in_shaped sd hu) ⟨.bl _, H, I, rfl, q⟩
  | true =>
    simp only [Bool.true_bne] at q
    exact SeqAt.notIn_tuple_reads r2 r1 (SeqAt.canLay_of_shaped se) (SeqAt.canLay_of_shaped sd) (room_in_shaped sd hu) ⟨.bl _, H, I, rfl, q⟩
theorem op_inLst (hu : X.A.units + 65 < cLine) (neg : Bool) : OpR X (compareOp (if neg then .NotIn else .In)) (fun x y H Q => ∃ d ds, Dp X.K H x d ∧ Dp X.K H y (.list ds) ∧ SeqAt.shaped d = true ∧ SeqAt.shaped (.list ds) = true ∧ Q (.bl (neg != ds.any fun z => PyData.eqv z d)) H) := by
  cases neg with
  | false =>
    intro pins s σ H x y v u Q I rx ry h
    simp only [Bool.false_bne] at h
    exact op_inD hu pins s σ H x y v u Q I rx ry h
  | true =>
    intro pins s σ H x y v u Q I rx ry h
    simp only [Bool.true_bne] at h
    exact op_notInD hu pins s σ H x y v u Q I rx ry h
def gInL (neg : Bool) : D → D → Option D := fun a b => match b with
  | .list ds => if SeqAt.shaped a && SeqAt.shaped (.list ds) then some (.bool (neg != ds.any fun z => PyData.eqv z a)) else none
  | .tuple ds => if SeqAt.shaped a && SeqAt.shaped (.list ds) then some (.bool (neg != ds.any fun z => PyData.eqv z a)) else none
  | _ => none
theorem od_inL (hu : X.A.units + 65 < cLine) (neg : Bool) : OD X (compareOp (if neg then .NotIn else .In)) (gInL neg) := by
  refine ⟨fun x y H Q => _ ∨ _, fun pins s σ H x y v u Q I rx ry h => h.elim (op_inTup hu neg pins s σ H x y v u Q I rx ry) (op_inLst hu neg pins s σ H x y v u Q I rx ry), fun F H x y a b c Q sb dx dy e q => ?_⟩
  unfold gInL at e
  split at e
  · split at e
    · rename_i hs
      cases e
      rw [Bool.and_eq_true] at hs
      exact .inr ⟨_, _, dp_mono sb dx, dp_mono sb dy, hs.1, hs.2, q _ F H (Grw.refl sb) (.bl _)⟩
    · cases e
  · split at e
    · rename_i hs
      cases e
      rw [Bool.and_eq_true] at hs
      exact .inl ⟨_, _, dp_mono sb dx, dp_mono sb dy, hs.1, hs.2, q _ F H (Grw.refl sb) (.bl _)⟩
    · cases e
  · cases e
def gIn : D → D → Option D := orG (gInL false) (gInS false)
theorem od_in (hu : X.A.units + 65 < cLine) : OD X (compareOp .In) gIn := (od_inL hu false).or od_inS
def gNotIn : D → D → Option D := gInL true
theorem od_notin (hu : X.A.units + 65 < cLine) : OD X (compareOp .NotIn) gNotIn := od_inL hu true
def isN : D → Bool
  | .none => true
  | _ => false
theorem dp_non {K : PySem.W.Frag} {F : Hp} {v : V} {d : D} (h : Dp K F v d) : decide (v = .non) = isN d := by
  cases h <;> rfl
def gIs (neg : Bool) : D → D → Option D := fun a b => match b with
  | .none => some (.bool (neg != isN a))
  | _ => none
theorem od_is : OD X (compareOp .Is) (gIs false) := by
  refine ⟨_, op_isN, fun F H x y a b c Q sb dx dy e q => ?_⟩
  unfold gIs at e
  split at e
  · cases e
    cases dy
    exact ⟨rfl, q _ F H (Grw.refl sb) (by rw [dp_non dx]; simp only [Bool.false_bne]; exact .bl _)⟩
  · cases e
theorem od_isnot : OD X (compareOp .IsNot) (gIs true) := by
  refine ⟨_, op_notN, fun F H x y a b c Q sb dx dy e q => ?_⟩
  unfold gIs at e
  split at e
  · cases e
    cases dy
    exact ⟨rfl, q _ F H (Grw.refl sb) (by rw [dp_non dx]; simp only [Bool.true_bne]; exact .bl _)⟩
  · cases e

/-! ### subscripts -/
def IxD (X : Cx) (g : D → D → Option D) : Prop := ∃ rr : R2, IxR X rr ∧ ∀ F H x y a b c Q, (∀ a o, F a = some o → H a = some o) → Dp X.K F x a → Dp X.K F y b → g a b = some c →
  (∀ v F' H', Grw F H F' H' → Dp X.K F' v c → Q v H') → rr x y H Q
theorem atI_dps {K : PySem.W.Frag} {F : Hp} {ds : List D} {vs : List V} (h : DpAll K F vs ds) {i : Int} {d : D} (e : atI ds i = some d) : ∃ v, atI vs i = some v ∧ Dp K F v d := by
  unfold atI at e ⊢
  rw [dps_length h]
  cases q : ixN ds.length i with
  | none => rw [q] at e; cases e
  | some j =>
    rw [q] at e
    obtain ⟨v, e1, r⟩ := dps_get h (i := j) (d := d) e
    exact ⟨v, e1, r⟩
def gIx : D → D → Option D := fun a b => match a, b with
  | .list ds, .int i => atI ds i
  | .tuple ds, .int i => atI ds i
  | .str z, .int i => if z.length ≤ sizeLine then (atI z.cps.toList i).map fun c => .str ⟨#[c]⟩ else none
  | _, _ => none
theorem ixd_sem {K : PySem.W.Frag} : ∀ F H x y a b c Q, (∀ a o, F a = some o → H a = some o) → Dp K F x a → Dp K F y b → gIx a b = some c → (∀ v F' H', Grw F H F' H' → Dp K F' v c → Q v H') → rIx K x y H Q := by
  intro F H x y a b c Q sb dx dy e q
  unfold gIx at e
  split at e
  · cases dy
    cases dx with
    | lst h1 h2 =>
      obtain ⟨v, e1, r⟩ := atI_dps h2 e
      exact .inl ⟨_, _, _, _, rfl, rfl, sqL_mono sb h1, e1, q _ F H (Grw.refl sb) r⟩
  · cases dy
    cases dx with
    | tup h1 h2 =>
      obtain ⟨v, e1, r⟩ := atI_dps h2 e
      exact .inr (.inl ⟨_, _, _, _, rfl, rfl, sqT_mono sb h1, e1, q _ F H (Grw.refl sb) r⟩)
  · cases dy
    cases dx
    split at e
    · obtain ⟨k, e1, e2⟩ := Option.map_eq_some_iff.mp e
      cases e2
      exact .inr (.inr ⟨_, _, _, rfl, rfl, by assumption, e1, q _ F H (Grw.refl sb) (.str _)⟩)
    · cases e
  · cases e

theorem ixd : IxD X gIx := ⟨_, ix_seq, ixd_sem⟩

/-! ### built-ins by values -/
def CD (X : Cx) (f : Value) (g : List D → Option D) : Prop := ∃ rr : List V → Hp → VK → Prop, CallR X f rr ∧ ∀ F H xs ds c Q, (∀ a o, F a = some o → H a = some o) → DpAll X.K F xs ds → g ds = some c →
  (∀ v F' H', Grw F H F' H' → Dp X.K F' v c → Q v H') → rr xs H Q
def orC (g h : List D → Option D) : List D → Option D := fun a => match g a with
  | some c => some c
  | none => h a
theorem CD.or {f : Value} {g h : List D → Option D} (a : CD X f g) (b : CD X f h) : CD X f (orC g h) := by
  obtain ⟨r1, o1, s1⟩ := a
  obtain ⟨r2, o2, s2⟩ := b
  refine ⟨fun x H Q => r1 x H Q ∨ r2 x H Q, o1.or o2, fun F H xs ds c Q sb dx e q => ?_⟩
  unfold orC at e
  split at e
  · rename_i c' e'
    cases e
    exact .inl (s1 F H xs ds c Q sb dx e' q)
  · exact .inr (s2 F H xs ds c Q sb dx e q)
theorem dps1 {K : PySem.W.Frag} {F : Hp} {xs : List V} {d : D} (h : DpAll K F xs [d]) : ∃ x, xs = [x] ∧ Dp K F x d := by
  cases h with
  | cons h1 h2 => cases h2; exact ⟨_, rfl, h1⟩
theorem dps2 {K : PySem.W.Frag} {F : Hp} {xs : List V} {d e : D} (h : DpAll K F xs [d, e]) : ∃ x y, xs = [x, y] ∧ Dp K F x d ∧ Dp K F y e := by
  cases h with
  | cons h1 h2 =>
    obtain ⟨y, rfl, h3⟩ := dps1 h2
    exact ⟨_, y, rfl, h1, h3⟩
def cLen : List D → Option D
  | [.list ds] => some (.int ds.length)
  | [.tuple ds] => some (.int ds.length)
  | [.str z] => if z.length ≤ sizeLine then some (.int z.length) else none
  | _ => none
theorem cd_len : CD X (.builtin "len") cLen := by
  refine ⟨_, call_len_seq.or call_len_str, fun F H xs ds c Q sb dx e q => ?_⟩
  unfold cLen at e
  split at e
  · cases e
    obtain ⟨x, rfl, h⟩ := dps1 dx
    cases h with
    | lst h1 h2 => exact .inl ⟨_, _, rfl, .inl (sqL_mono sb h1), q _ F H (Grw.refl sb) (by rw [dps_length h2]; exact .int _)⟩
  · cases e
    obtain ⟨x, rfl, h⟩ := dps1 dx
    cases h with
    | tup h1 h2 => exact .inl ⟨_, _, rfl, .inr (sqT_mono sb h1), q _ F H (Grw.refl sb) (by rw [dps_length h2]; exact .int _)⟩
  · split at e
    · cases e
      obtain ⟨x, rfl, h⟩ := dps1 dx
      cases h
      exact .inr ⟨_, rfl, by assumption, q _ F H (Grw.refl sb) (.int _)⟩
    · cases e
  · cases e
def cAbs : List D → Option D
  | [.int i] => some (.int (if i < 0 then -i else i))
  | _ => none
theorem cd_abs : CD X (.builtin "abs") cAbs := by
  refine ⟨_, call_abs, fun F H xs ds c Q sb dx e q => ?_⟩
  unfold cAbs at e
  split at e
  · cases e
    obtain ⟨x, rfl, h⟩ := dps1 dx
    cases h
    exact ⟨_, rfl, q _ F H (Grw.refl sb) (.int _)⟩
  · cases e
def cInt : List D → Option D
  | [.int i] => some (.int i)
  | [.bool k] => some (.int (if k then 1 else 0))
  | _ => none
theorem cd_int : CD X (.type "int") cInt := by
  refine ⟨_, call_int1, fun F H xs ds c Q sb dx e q => ?_⟩
  unfold cInt at e
  split at e
  · cases e
    obtain ⟨x, rfl, h⟩ := dps1 dx
    cases h
    exact .inl ⟨_, rfl, q _ F H (Grw.refl sb) (.int _)⟩
  · cases e
    obtain ⟨x, rfl, h⟩ := dps1 dx
    cases h
    exact .inr ⟨_, rfl, q _ F H (Grw.refl sb) (.int _)⟩
  · cases e
def cMin : List D → Option D
  | [.int i, .int j] => some (.int (if j < i then j else i))
  | _ => none
theorem cd_min (hc : X.calm = true) : CD X (.builtin "min") cMin := by
  refine ⟨_, call_min2 hc, fun F H xs ds c Q sb dx e q => ?_⟩
  unfold cMin at e
  split at e
  · cases e
    obtain ⟨x, y, rfl, h, h'⟩ := dps2 dx
    cases h
    cases h'
    exact ⟨_, _, rfl, q _ F H (Grw.refl sb) (.int _)⟩
  · cases e
def cList : List D → Option D
  | [.list ds] => some (.list ds)
  | [.tuple ds] => some (.list ds)
  | _ => none
theorem cd_list : CD X (.type "list") cList := by
  refine ⟨_, call_list_of, fun F H xs ds c Q sb dx e q => ?_⟩
  unfold cList at e
  split at e
  · cases e
    obtain ⟨x, rfl, h⟩ := dps1 dx
    cases h with
    | lst h1 h2 => exact ⟨_, _, rfl, .inl (sqL_mono sb h1), fun l hl => q _ _ _ (Grw.laid sb hl) (.lst (SqL.of upd_same) (dps_mono (upd_grow (free_of sb hl)) h2))⟩
  · cases e
    obtain ⟨x, rfl, h⟩ := dps1 dx
    cases h with
    | tup h1 h2 => exact ⟨_, _, rfl, .inr (sqT_mono sb h1), fun l hl => q _ _ _ (Grw.laid sb hl) (.lst (SqL.of upd_same) (dps_mono (upd_grow (free_of sb hl)) h2))⟩
  · cases e
def cTuple : List D → Option D
  | [.list ds] => some (.tuple ds)
  | [.tuple ds] => some (.tuple ds)
  | _ => none
theorem cd_tuple : CD X (.type "tuple") cTuple := by
  refine ⟨_, call_tuple_of, fun F H xs ds c Q sb dx e q => ?_⟩
  unfold cTuple at e
  split at e
  · cases e
    obtain ⟨x, rfl, h⟩ := dps1 dx
    cases h with
    | lst h1 h2 => exact ⟨_, _, rfl, .inl ⟨sqL_mono sb h1, fun l hl => q _ _ _ (Grw.laid sb hl) (.tup (SqT.of upd_same) (dps_mono (upd_grow (free_of sb hl)) h2))⟩⟩
  · cases e
    obtain ⟨x, rfl, h⟩ := dps1 dx
    cases h with
    | tup h1 h2 => exact ⟨_, _, rfl, .inr ⟨sqT_mono sb h1, q _ F H (Grw.refl sb) (.tup h1 h2)⟩⟩
  · cases e
def toBools : List D → Option (List Bool)
  | [] => some []
  | .bool b :: r => (toBools r).map fun bs => b :: bs
  | _ => none
theorem toBools_eq : ∀ {ds : List D} {bs : List Bool}, toBools ds = some bs → ds = bs.map .bool
  | [], bs, h => by cases h; rfl
  | d :: r, bs, h => by
    unfold toBools at h
    split at h
    · rename_i e; cases e
    · rename_i b r' e
      cases e
      obtain ⟨bs', e1, e2⟩ := Option.map_eq_some_iff.mp h
      cases e2
      rw [toBools_eq e1]; rfl
    · cases h
def cAll (any : Bool) : List D → Option D
  | [.list ds] => (toBools ds).map fun bs => .bool (if any then bs.any id else bs.all id)
  | _ => none
theorem cd_all (hc : X.calm = true) : CD X (.builtin "all") (cAll false) := by
  refine ⟨_, cr_all hc, fun F H xs ds c Q sb dx e q => ?_⟩
  unfold cAll at e
  split at e
  · obtain ⟨bs, e1, e2⟩ := Option.map_eq_some_iff.mp e
    cases e2
    obtain ⟨x, rfl, h⟩ := dps1 dx
    cases h with
    | lst h1 h2 =>
      rw [toBools_eq e1] at h2
      have := dps_map_bool h2
      subst this
      exact ⟨_, bs, rfl, sqL_mono sb h1, q _ F H (Grw.refl sb) (.bl _)⟩
  · cases e
theorem cd_any (hc : X.calm = true) : CD X (.builtin "any") (cAll true) := by
  refine ⟨_, cr_any hc, fun F H xs ds c Q sb dx e q => ?_⟩
  unfold cAll at e
  split at e
  · obtain ⟨bs, e1, e2⟩ := Option.map_eq_some_iff.mp e
    cases e2
    obtain ⟨x, rfl, h⟩ := dps1 dx
    cases h with
    | lst h1 h2 =>
      rw [toBools_eq e1] at h2
      have := dps_map_bool h2
      subst this
      exact ⟨_, bs, rfl, sqL_mono sb h1, q _ F H (Grw.refl sb) (.bl _)⟩
  · cases e

/-! ### methods of texts -/
def MD (X : Cx) (id : String) (g : D → List D → Option D) : Prop := ∃ rr : V → List V → Hp → VK → Prop, MtR X id rr ∧ ∀ F H x xs d ds c Q, (∀ a o, F a = some o → H a = some o) → Dp X.K F x d → DpAll X.K F xs ds → g d ds = some c →
  (∀ v F' H', Grw F H F' H' → Dp X.K F' v c → Q v H') → rr x xs H Q
theorem dps_strs {K : PySem.W.Frag} {F : Hp} : ∀ {ys : List Str}, DpAll K F (ys.map V.str) (ys.map .str)
  | [] => .nil
  | _ :: _ => .cons (.str _) dps_strs
def mSplit : D → List D → Option D := fun d ds => match d, ds with
  | .str a, [.str b] => if (b.length == 0) = false ∧ a.length + 2 ≤ sizeLine then some (.list ((Txt.split a b).map .str)) else none
  | _, _ => none
theorem md_split : MD X "str.split" mSplit := by
  refine ⟨_, mt_split, fun F H x xs d ds c Q sb dx dxs e q => ?_⟩
  unfold mSplit at e
  split at e
  · split at e
    · rename_i hs
      cases e
      cases dx
      obtain ⟨y, rfl, h⟩ := dps1 dxs
      cases h
      refine ⟨_, _, rfl, rfl, hs.1, hs.2, fun p hp => q _ _ _ (Grw.laid sb hp) (.lst (SqL.of upd_same) dps_strs)⟩
    · cases e
  · cases e
def toStrs : List D → Option (List Str)
  | [] => some []
  | .str b :: r => (toStrs r).map fun bs => b :: bs
  | _ => none
theorem toStrs_eq : ∀ {ds : List D} {bs : List Str}, toStrs ds = some bs → ds = bs.map .str
  | [], bs, h => by cases h; rfl
  | d :: r, bs, h => by
    unfold toStrs at h
    split at h
    · rename_i e; cases e
    · rename_i b r' e
      cases e
      obtain ⟨bs', e1, e2⟩ := Option.map_eq_some_iff.mp h
      cases e2
      rw [toStrs_eq e1]; rfl
    · cases h
theorem dps_map_str {K : PySem.W.Frag} {F : Hp} : ∀ {bs : List Str} {vs : List V}, DpAll K F vs (bs.map .str) → vs = bs.map .str
  | [], _, h => by cases h; rfl
  | b :: bs, _, h => by
    cases h with
    | cons h1 h2 => cases h1; rw [dps_map_str h2]; rfl
def mJoin : D → List D → Option D := fun d ds => match d, ds with
  | .str a, [.list zs] => (toStrs zs).bind fun ys => if (ys.map (·.length)).sum + ys.length * a.length ≤ 16777216 then some (.str (Txt.join a ys)) else none
  | .str a, [.tuple zs] => (toStrs zs).bind fun ys => if (ys.map (·.length)).sum + ys.length * a.length ≤ 16777216 then some (.str (Txt.join a ys)) else none
  | _, _ => none
theorem md_join : MD X "str.join" mJoin := by
  refine ⟨_, mt_join, fun F H x xs d ds c Q sb dx dxs e q => ?_⟩
  unfold mJoin at e
  split at e
  · obtain ⟨ys, e1, e2⟩ := Option.bind_eq_some_iff.mp e
    split at e2
    · cases e2
      cases dx
      obtain ⟨y, rfl, h⟩ := dps1 dxs
      cases h with
      | lst h1 h2 =>
        rw [toStrs_eq e1] at h2
        have := dps_map_str h2
        subst this
        exact ⟨_, _, ys, rfl, rfl, .inl (sqL_mono sb h1), by assumption, q _ F H (Grw.refl sb) (.str _)⟩
    · cases e2
  · obtain ⟨ys, e1, e2⟩ := Option.bind_eq_some_iff.mp e
    split at e2
    · cases e2
      cases dx
      obtain ⟨y, rfl, h⟩ := dps1 dxs
      cases h with
      | tup h1 h2 =>
        rw [toStrs_eq e1] at h2
        have := dps_map_str h2
        subst this
        exact ⟨_, _, ys, rfl, rfl, .inr (sqT_mono sb h1), by assumption, q _ F H (Grw.refl sb) (.str _)⟩
    · cases e2
  · cases e
end
end DL

/-! DLRules: the rules for expressions, over data. -/
namespace DL
open PySem PySem.Spec PyProof.Rows L2
section
variable {X : Cx} {C : DC} {F H : Hp} {σ : Sg} {r : Rho}
theorem Wn.lifGrw {o : Option D} {Q : VK} (h : Wn X C F H σ r (DL.lif o r) (fun d _ F' H' => ∀ v, Dp X.K F' v d → Q v H')) (e : EnvOk C.pa X.K F H σ r) :
    ∃ c, o = some c ∧ ∀ v F' H', Grw F H F' H' → Dp X.K F' v c → Q v H' := by
  cases o with
  | none => exact h.elim
  | some c => exact ⟨c, rfl, fun v F' H' g dv => h F' H' (e.grow g.subF g.subH g.fin g.new) (Stp.grow g.subF g.subH g.new) v dv⟩

/-! ### operators -/
def dBin (g : D → D → Option D) (fa fb : M D) : M D := bnd fa fun x => bnd fb fun y => lif (g x y)
theorem ev_two {ta tb : TE} {fa fb : M D} {g : D → D → Option D} {rr : R2}
    (sr : ∀ F H x y a b c Q, (∀ a o, F a = some o → H a = some o) → Dp X.K F x a → Dp X.K F y b → g a b = some c → (∀ v F' H', Grw F H F' H' → Dp X.K F' v c → Q v H') → rr x y H Q)
    (sa : ∀ F H σ r Q, EnvOk C.pa X.K F H σ r → Wn X C F H σ r (fa r) (fun d _ F' H' => ∀ v, Dp X.K F' v d → Q v H') → ta σ H Q)
    (sb : ∀ F H σ r Q, EnvOk C.pa X.K F H σ r → Wn X C F H σ r (fb r) (fun d _ F' H' => ∀ v, Dp X.K F' v d → Q v H') → tb σ H Q)
    {Q : VK} (e : EnvOk C.pa X.K F H σ r) (h : Wn X C F H σ r (dBin g fa fb r) (fun d _ F' H' => ∀ v, Dp X.K F' v d → Q v H')) : tOp rr ta tb σ H Q := by
  refine sa F H σ r _ e (h.bnd.imp fun x r1 F1 H1 e1 s1 w v dv => ?_)
  obtain ⟨_, _, w⟩ := w
  refine sb F1 H1 σ r1 _ e1 (w.bnd.imp fun y r2 F2 H2 e2 s2 w2 u du => ?_)
  obtain ⟨_, _, w2⟩ := w2
  obtain ⟨c, ec, fin⟩ := w2.lifGrw e2
  exact sr F2 H2 v u x y c Q e2.sub (dp_mono s2.sub dv) du ec fin
variable {a b c e o : Expr} {pos : Pos} {fa fb fc : M D}
theorem ev_bin {op : Operator} {g : D → D → Option D} (o : OD X (binaryOp op) g) (ha : EV X C a fa) (hb : EV X C b fb) : EV X C (.BinOp a op b pos) (dBin g fa fb) := by
  obtain ⟨rr, o, sr⟩ := o
  obtain ⟨ta, pa, sa⟩ := ha
  obtain ⟨tb, pb, sb⟩ := hb
  exact ⟨_, pe_op o pa pb, fun F H σ r Q e h => ev_two sr sa sb e h⟩
theorem ev_cmp {op : CmpOp} {g : D → D → Option D} (o : OD X (compareOp op) g) (ha : EV X C a fa) (hb : EV X C b fb) (hm : behindInMarks op b = false := by first | exact nomark _ | rfl) : EV X C (.Compare a [op] [b] pos) (dBin g fa fb) := by
  obtain ⟨rr, o, sr⟩ := o
  obtain ⟨ta, pa, sa⟩ := ha
  obtain ⟨tb, pb, sb⟩ := hb
  exact ⟨_, pe_cmpR o pa pb hm, fun F H σ r Q e h => ev_two sr sa sb e h⟩
def asB : D → Option Bool
  | .bool b => some b
  | _ => none
/-- a value that is a bool, as a test -/
def dTest (f : M D) : M Bool := bnd f fun d => lif (asB d)
theorem Wn.asB {f : M D} {Q : Bool → Hp → Prop} (h : Wn X C F H σ r (dTest f r) (fun b _ _ H' => Q b H')) :
    Wn X C F H σ r (f r) (fun d _ F' H' => ∀ v, Dp X.K F' v d → ∃ k, v = .bl k ∧ Q k H') := by
  refine h.bnd.imp fun d r1 F1 H1 e1 s1 w v dv => ?_
  obtain ⟨_, _, w⟩ := w
  obtain ⟨k, ek, q⟩ := w.lif e1
  unfold DL.asB at ek
  split at ek
  · cases ek
    cases dv
    exact ⟨_, rfl, q⟩
  · cases ek
theorem et_cmp {op : CmpOp} {g : D → D → Option D} (o : OD X (compareOp op) g) (ha : EV X C a fa) (hb : EV X C b fb) (hm : behindInMarks op b = false := by first | exact nomark _ | rfl) : ET X C (.Compare a [op] [b] pos) (dTest (dBin g fa fb)) := by
  obtain ⟨rr, o, sr⟩ := o
  obtain ⟨ta, pa, sa⟩ := ha
  obtain ⟨tb, pb, sb⟩ := hb
  exact ⟨_, pt_cmpR o pa pb hm, fun F H σ r Q e h => ev_two sr sa sb e h.asB⟩
/-- a op b op' c -/
def dChain (g g' : D → D → Option D) (fa fb fc : M D) : M D := bnd fa fun x => bnd fb fun y => bnd (lif ((g x y).bind asB)) fun k => if k then bnd fc fun z => lif (g' y z) else ret (.bool false)
theorem ev_chainW {op op' : CmpOp} {g g' : D → D → Option D} {rr rr' : R2} {ta tb tc : TE}
    (sr : ∀ F H x y a b c Q, (∀ a o, F a = some o → H a = some o) → Dp X.K F x a → Dp X.K F y b → g a b = some c → (∀ v F' H', Grw F H F' H' → Dp X.K F' v c → Q v H') → rr x y H Q)
    (sr' : ∀ F H x y a b c Q, (∀ a o, F a = some o → H a = some o) → Dp X.K F x a → Dp X.K F y b → g' a b = some c → (∀ v F' H', Grw F H F' H' → Dp X.K F' v c → Q v H') → rr' x y H Q)
    (sa : ∀ F H σ r Q, EnvOk C.pa X.K F H σ r → Wn X C F H σ r (fa r) (fun d _ F' H' => ∀ v, Dp X.K F' v d → Q v H') → ta σ H Q)
    (sb : ∀ F H σ r Q, EnvOk C.pa X.K F H σ r → Wn X C F H σ r (fb r) (fun d _ F' H' => ∀ v, Dp X.K F' v d → Q v H') → tb σ H Q)
    (sc : ∀ F H σ r Q, EnvOk C.pa X.K F H σ r → Wn X C F H σ r (fc r) (fun d _ F' H' => ∀ v, Dp X.K F' v d → Q v H') → tc σ H Q)
    {Q : VK} (e : EnvOk C.pa X.K F H σ r) (h : Wn X C F H σ r (dChain g g' fa fb fc r) (fun d _ F' H' => ∀ v, Dp X.K F' v d → Q v H')) : tChain rr rr' ta tb tc σ H Q := by
  refine sa F H σ r _ e (h.bnd.imp fun x r1 F1 H1 e1 s1 w v dv => ?_)
  obtain ⟨_, _, w⟩ := w
  refine sb F1 H1 σ r1 _ e1 (w.bnd.imp fun y r2 F2 H2 e2 s2 w2 u du => ?_)
  obtain ⟨_, _, w2⟩ := w2
  obtain ⟨k, ek, _, _, w3⟩ := w2.bnd.lif e2
  obtain ⟨d, ed, eb⟩ := Option.bind_eq_some_iff.mp ek
  refine sr F2 H2 v u x y d _ e2.sub (dp_mono s2.sub dv) du ed fun z F3 H3 gw dz => ?_
  unfold asB at eb
  split at eb
  · cases eb
    cases dz
    refine ⟨_, rfl, ?_⟩
    have e3 := e2.grow gw.subF gw.subH gw.fin gw.new
    have s3 : Stp F2 H2 (Ow σ r2) F3 H3 (Ow σ r2) := Stp.grow gw.subF gw.subH gw.new
    cases k with
    | true =>
      simp only [if_true] at w3 ⊢
      refine sc F3 H3 σ r2 _ e3 ((w3.on s3).bnd.imp fun z r4 F4 H4 e4 s4 w4 u4 du4 => ?_)
      obtain ⟨_, _, w4⟩ := w4
      obtain ⟨c, ec, fin⟩ := w4.lifGrw e4
      exact sr' F4 H4 u u4 y z c Q e4.sub (dp_mono s4.sub (dp_mono gw.subF du)) du4 ec fin
    | false =>
      have w3' : Wn X C F2 H2 σ r2 (ret (.bool false) r2) (fun d _ F' H' => ∀ v, Dp X.K F' v d → Q v H') := w3
      show Q (.bl false) H3
      exact (w3'.on s3).ret e3 _ (.bl _)
  · cases eb
theorem ev_chain {op op' : CmpOp} {g g' : D → D → Option D} (o : OD X (compareOp op) g) (o' : OD X (compareOp op') g') (ha : EV X C a fa) (hb : EV X C b fb) (hc : EV X C c fc) (hm : lastMarks [op, op'] [b, c] = false := by with_unfolding_all rfl) :
    EV X C (.Compare a [op, op'] [b, c] pos) (dChain g g' fa fb fc) := by
  obtain ⟨rr, o, sr⟩ := o
  obtain ⟨rr', o', sr'⟩ := o'
  obtain ⟨ta, pa, sa⟩ := ha
  obtain ⟨tb, pb, sb⟩ := hb
  obtain ⟨tc, pc, sc⟩ := hc
  exact ⟨_, pe_chain o o' pa pb pc hm, fun F H σ r Q e h => ev_chainW (op := op) (op' := op') sr sr' sa sb sc e h⟩
theorem et_chain {op op' : CmpOp} {g g' : D → D → Option D} (o : OD X (compareOp op) g) (o' : OD X (compareOp op') g') (ha : EV X C a fa) (hb : EV X C b fb) (hc : EV X C c fc) (hm : lastMarks [op, op'] [b, c] = false := by with_unfolding_all rfl) :
    ET X C (.Compare a [op, op'] [b, c] pos) (dTest (dChain g g' fa fb fc)) := by
  obtain ⟨rr, o, sr⟩ := o
  obtain ⟨rr', o', sr'⟩ := o'
  obtain ⟨ta, pa, sa⟩ := ha
  obtain ⟨tb, pb, sb⟩ := hb
  obtain ⟨tc, pc, sc⟩ := hc
  exact ⟨_, pt_chain o o' pa pb pc hm, fun F H σ r Q e h => ev_chainW (op := op) (op' := op') sr sr' sa sb sc e h.asB⟩

/-! ### truth, and, or, not -/
def truth : D → Option Bool
  | .none => some false
  | .bool b => some b
  | .int i => some (i != 0)
  | .str y => if y.length ≤ sizeLine then some ((y.length : Int) != 0) else none
  | .list l => some (!l.isEmpty)
  | .tuple l => some (!l.isEmpty)
  | .dict _ => none
def dTruth (f : M D) : M Bool := bnd f fun d => lif (truth d)
theorem dps_empty {K : PySem.W.Frag} {F : Hp} {ds : List D} {vs : List V} (h : DpAll K F vs ds) : vs.isEmpty = ds.isEmpty := by
  cases h <;> rfl
theorem truV_of {K : PySem.W.Frag} {F H : Hp} {v : V} {d : D} {k : Bool} (s : ∀ a o, F a = some o → H a = some o) (h : Dp K F v d) (e : truth d = some k) : TruV K v H k := by
  cases h with
  | non => cases e; rfl
  | bl b => cases e; rfl
  | int i => cases e; rfl
  | str x =>
    unfold truth at e
    simp only at e
    split at e
    · cases e; exact ⟨by assumption, rfl⟩
    · cases e
  | lst h1 h2 => cases e; exact .inl ⟨_, sqL_mono s h1, by rw [dps_empty h2]⟩
  | tup h1 h2 => cases e; exact .inr (.inl ⟨_, sqT_mono s h1, by rw [dps_empty h2]⟩)
theorem et_val (ha : EV X C a fa) (he : ∀ whole, isTrue a X.env whole = (do let v ← whole; standAt a.pos; holding [v] (truthy v)) := by intro _; rfl) : ET X C a (dTruth fa) := by
  obtain ⟨ta, pa, sa⟩ := ha
  refine ⟨_, pt_truth pa he, fun F H σ r Q e h => sa F H σ r _ e (h.bnd.imp fun d r1 F1 H1 e1 s1 w v dv => ?_)⟩
  obtain ⟨_, _, w⟩ := w
  obtain ⟨k, ek, q⟩ := w.lif e1
  exact ⟨k, truV_of e1.sub dv ek, q⟩
variable {ga gb : M Bool} {rest : List Expr}
def EW (X : Cx) (C : DC) (e : Expr) (f : M Bool) : Prop := ∃ t, PW X e t ∧ ∀ F H σ r Q, EnvOk C.pa X.K F H σ r → Wn X C F H σ r (f r) (fun b _ _ H' => Q b H') → t σ H Q
theorem EW.et (h : EW X C e ga) : ET X C e ga := let ⟨t, p, s⟩ := h; ⟨t, p.pt, s⟩
def bAnd (x y : M Bool) : M Bool := bnd x fun k => if k then y else ret false
def bOr (x y : M Bool) : M Bool := bnd x fun k => if k then ret true else y
def bNot (x : M Bool) : M Bool := bnd x fun k => ret (!k)
theorem ew_and1 (h : ET X C a ga) : EW X C (.BoolOp .And [a] pos) ga := let ⟨t, p, s⟩ := h; ⟨t, pw_and1 p, s⟩
theorem ew_or1 (h : ET X C a ga) : EW X C (.BoolOp .Or [a] pos) ga := let ⟨t, p, s⟩ := h; ⟨t, pw_or1 p, s⟩
theorem ew_and (h : ET X C a ga) (h' : EW X C (.BoolOp .And (b :: rest) pos) gb) : EW X C (.BoolOp .And (a :: b :: rest) pos) (bAnd ga gb) := by
  obtain ⟨ta, pa, sa⟩ := h
  obtain ⟨tb, pb, sb⟩ := h'
  refine ⟨_, pw_and pa pb, fun F H σ r Q e h => sa F H σ r _ e (h.bnd.imp fun k r1 F1 H1 e1 s1 w => ?_)⟩
  obtain ⟨_, _, w⟩ := w
  cases k with
  | true => exact sb F1 H1 σ r1 Q e1 w
  | false => exact Wn.ret (α := Bool) w e1
theorem ew_or (h : ET X C a ga) (h' : EW X C (.BoolOp .Or (b :: rest) pos) gb) : EW X C (.BoolOp .Or (a :: b :: rest) pos) (bOr ga gb) := by
  obtain ⟨ta, pa, sa⟩ := h
  obtain ⟨tb, pb, sb⟩ := h'
  refine ⟨_, pw_or pa pb, fun F H σ r Q e h => sa F H σ r _ e (h.bnd.imp fun k r1 F1 H1 e1 s1 w => ?_)⟩
  obtain ⟨_, _, w⟩ := w
  cases k with
  | true => exact Wn.ret (α := Bool) w e1
  | false => exact sb F1 H1 σ r1 Q e1 w
theorem et_not (h : ET X C a ga) : ET X C (.UnaryOp .Not a pos) (bNot ga) := by
  obtain ⟨ta, pa, sa⟩ := h
  refine ⟨_, pt_not pa, fun F H σ r Q e h => sa F H σ r _ e (h.bnd.imp fun k r1 F1 H1 e1 s1 w => ?_)⟩
  obtain ⟨_, _, w⟩ := w
  exact Wn.ret (α := Bool) w e1
/-- as values: all but the last a bool -/
def dAnd (x y : M D) : M D := bnd x fun d => match asB d with
  | some true => y
  | some false => ret (.bool false)
  | none => fun _ => .bad
def dOr (x y : M D) : M D := bnd x fun d => match asB d with
  | some true => ret (.bool true)
  | some false => y
  | none => fun _ => .bad
def dNot (x : M D) : M D := bnd x fun d => match asB d with
  | some k => ret (.bool (!k))
  | none => fun _ => .bad
theorem ev_one {op : BoolOp} (h : EV X C a fa) : EV X C (.BoolOp op [a] pos) fa := let ⟨t, p, s⟩ := h; ⟨t, pe_one p, s⟩
theorem asB_some {d : D} {k : Bool} (h : asB d = some k) : d = .bool k := by
  unfold asB at h
  split at h
  · cases h; rfl
  · cases h
theorem ev_and (h : EV X C a fa) (h' : EV X C (.BoolOp .And (b :: rest) pos) fb) : EV X C (.BoolOp .And (a :: b :: rest) pos) (dAnd fa fb) := by
  obtain ⟨ta, pa, sa⟩ := h
  obtain ⟨tb, pb, sb⟩ := h'
  refine ⟨_, pe_and pa pb, fun F H σ r Q e h => sa F H σ r _ e (h.bnd.imp fun d r1 F1 H1 e1 s1 w v dv => ?_)⟩
  obtain ⟨_, _, w⟩ := w
  cases q : asB d with
  | none => rw [q] at w; exact w.elim
  | some k =>
    rw [q] at w
    have := asB_some q
    subst this
    cases dv
    refine ⟨k, rfl, ?_⟩
    cases k with
    | true => exact sb F1 H1 σ r1 Q e1 w
    | false => exact Wn.ret (α := D) w e1 _ (.bl _)
theorem ev_or (h : EV X C a fa) (h' : EV X C (.BoolOp .Or (b :: rest) pos) fb) : EV X C (.BoolOp .Or (a :: b :: rest) pos) (dOr fa fb) := by
  obtain ⟨ta, pa, sa⟩ := h
  obtain ⟨tb, pb, sb⟩ := h'
  refine ⟨_, pe_or pa pb, fun F H σ r Q e h => sa F H σ r _ e (h.bnd.imp fun d r1 F1 H1 e1 s1 w v dv => ?_)⟩
  obtain ⟨_, _, w⟩ := w
  cases q : asB d with
  | none => rw [q] at w; exact w.elim
  | some k =>
    rw [q] at w
    have := asB_some q
    subst this
    cases dv
    refine ⟨k, rfl, ?_⟩
    cases k with
    | true => exact Wn.ret (α := D) w e1 _ (.bl _)
    | false => exact sb F1 H1 σ r1 Q e1 w
theorem ev_not (h : EV X C a fa) : EV X C (.UnaryOp .Not a pos) (dNot fa) := by
  obtain ⟨ta, pa, sa⟩ := h
  refine ⟨_, pe_not pa, fun F H σ r Q e h => sa F H σ r _ e (h.bnd.imp fun d r1 F1 H1 e1 s1 w v dv => ?_)⟩
  obtain ⟨_, _, w⟩ := w
  cases q : asB d with
  | none => rw [q] at w; exact w.elim
  | some k =>
    rw [q] at w
    have := asB_some q
    subst this
    cases dv
    exact ⟨k, rfl, Wn.ret (α := D) w e1 _ (.bl _)⟩
/-- a if t else b -/
def mIf {α : Type} (t : M Bool) (x y : M α) : M α := bnd t fun k => if k then x else y
theorem ev_if (hc : ET X C c ga) (ha : EV X C a fa) (hb : EV X C b fb) : EV X C (.IfExp c a b pos) (mIf ga fa fb) := by
  obtain ⟨tc, pc, sc⟩ := hc
  obtain ⟨ta, pa, sa⟩ := ha
  obtain ⟨tb, pb, sb⟩ := hb
  refine ⟨_, pe_ifExp pc pa pb, fun F H σ r Q e h => sc F H σ r _ e (h.bnd.imp fun k r1 F1 H1 e1 s1 w => ?_)⟩
  obtain ⟨_, _, w⟩ := w
  cases k with
  | true => exact sa F1 H1 σ r1 Q e1 w
  | false => exact sb F1 H1 σ r1 Q e1 w

/-! ### subscripts, slices -/
theorem ev_ix {g : D → D → Option D} (i : IxD X g) (ha : EV X C a fa) (hb : EV X C b fb) (hs : PlainIx b := by intro _ _; rfl) : EV X C (.Subscript a b pos) (dBin g fa fb) := by
  obtain ⟨rr, o, sr⟩ := i
  obtain ⟨ta, pa, sa⟩ := ha
  obtain ⟨tb, pb, sb⟩ := hb
  exact ⟨_, pe_ix o pa pb hs, fun F H σ r Q e h => ev_two sr sa sb e h⟩
/-- a bound of a slice -/
def EO (X : Cx) (C : DC) (e : Option Expr) (f : M (Option Int)) : Prop := ∃ t, PO X e t ∧ ∀ F H σ r Q, EnvOk C.pa X.K F H σ r → Wn X C F H σ r (f r) (fun i _ _ H' => Q i H') → t σ H Q
def asI : D → Option Int
  | .int i => some i
  | _ => none
def oInt (f : M D) : M (Option Int) := bnd f fun d => match asI d with
  | some i => ret (some i)
  | none => fun _ => .bad
theorem eo_none : EO X C none (ret none) := ⟨_, po_none, fun F H σ r Q e h => Wn.ret (α := Option Int) h e⟩
theorem eo_some (h : EV X C a fa) : EO X C (some a) (oInt fa) := by
  obtain ⟨ta, pa, sa⟩ := h
  refine ⟨_, po_some pa, fun F H σ r Q e h => sa F H σ r _ e (h.bnd.imp fun d r1 F1 H1 e1 s1 w v dv => ?_)⟩
  obtain ⟨_, _, w⟩ := w
  cases q : asI d with
  | none => rw [q] at w; exact w.elim
  | some i =>
    rw [q] at w
    unfold asI at q
    split at q
    · cases q
      cases dv
      exact ⟨_, rfl, Wn.ret (α := Option Int) w e1⟩
    · cases q
def cutD (xs : List D) (lo hi : Option Int) : List D := (xs.drop (HT.sIx xs.length 0 lo)).take (HT.sIx xs.length xs.length hi - HT.sIx xs.length 0 lo)
theorem dps_cut {K : PySem.W.Frag} {F : Hp} {ds : List D} {vs : List V} (h : DpAll K F vs ds) (lo hi : Option Int) : DpAll K F (cutV vs lo hi) (cutD ds lo hi) := by
  unfold cutV cutD
  rw [dps_length h]
  exact dps_take _ (dps_drop _ h)
def SlD (X : Cx) (g : D → Option Int → Option Int → Option D) : Prop := ∃ rr : V → Option Int → Option Int → Hp → VK → Prop, SlR X rr ∧ ∀ F H x d lo hi c Q, (∀ a o, F a = some o → H a = some o) → Dp X.K F x d → g d lo hi = some c →
  (∀ v F' H', Grw F H F' H' → Dp X.K F' v c → Q v H') → rr x lo hi H Q
def gSl : D → Option Int → Option Int → Option D := fun d lo hi => match d with
  | .list ds => some (.list (cutD ds lo hi))
  | .tuple ds => some (.tuple (cutD ds lo hi))
  | _ => none
theorem cut_all {ds : List D} {lo hi : Option Int} (h : HT.sIx ds.length 0 lo = 0 ∧ HT.sIx ds.length ds.length hi = ds.length) : cutD ds lo hi = ds := by
  unfold cutD
  rw [h.1, h.2]
  simp
theorem sld : SlD X gSl := by
  refine ⟨fun x lo hi H Q => _ ∨ _, sl_list.or sl_tupA, fun F H x d lo hi c Q sb dx e q => ?_⟩
  unfold gSl at e
  split at e
  · cases e
    cases dx with
    | lst h1 h2 => exact .inl ⟨_, _, rfl, sqL_mono sb h1, fun p hp => q _ _ _ (Grw.laid sb hp) (.lst (SqL.of upd_same) (dps_mono (upd_grow (free_of sb hp)) (dps_cut h2 lo hi)))⟩
  · cases e
    cases dx with
    | tup h1 h2 =>
      refine .inr ⟨_, _, rfl, sqT_mono sb h1, fun hw => ?_, fun _ p hp => q _ _ _ (Grw.laid sb hp) (.tup (SqT.of upd_same) (dps_mono (upd_grow (free_of sb hp)) (dps_cut h2 lo hi)))⟩
      rw [dps_length h2] at hw
      refine q _ F H (Grw.refl sb) ?_
      rw [cut_all hw]
      exact .tup h1 h2
  · cases e
def dSlice (g : D → Option Int → Option Int → Option D) (fa : M D) (fl fh : M (Option Int)) : M D := bnd fa fun d => bnd fl fun lo => bnd fh fun hi => lif (g d lo hi)
theorem ev_slice {g : D → Option Int → Option Int → Option D} {lo hi : Option Expr} {fl fh : M (Option Int)} {p2 : Pos} (i : SlD X g) (ha : EV X C a fa) (hl : EO X C lo fl) (hh : EO X C hi fh) : EV X C (.Subscript a (.Slice lo hi none p2) pos) (dSlice g fa fl fh) := by
  obtain ⟨rr, o, sr⟩ := i
  obtain ⟨ta, pa, sa⟩ := ha
  obtain ⟨tl, pl, sl⟩ := hl
  obtain ⟨th, ph, sh⟩ := hh
  refine ⟨_, pe_slice o pa pl ph, fun F H σ r Q e h => sa F H σ r _ e (h.bnd.imp fun d r1 F1 H1 e1 s1 w v dv => ?_)⟩
  obtain ⟨_, _, w⟩ := w
  refine sl F1 H1 σ r1 _ e1 (w.bnd.imp fun lo r2 F2 H2 e2 s2 w2 => ?_)
  obtain ⟨_, _, w2⟩ := w2
  refine sh F2 H2 σ r2 _ e2 (w2.bnd.imp fun hi r3 F3 H3 e3 s3 w3 => ?_)
  obtain ⟨_, _, w3⟩ := w3
  obtain ⟨c, ec, fin⟩ := w3.lifGrw e3
  exact sr F3 H3 v d lo hi c Q e3.sub (dp_mono s3.sub (dp_mono s2.sub dv)) ec fin

/-! ### argument lists, displays -/
variable {es : List Expr} {fs : M (List D)}
def aNil : M (List D) := ret []
def aCons (fa : M D) (fs : M (List D)) : M (List D) := bnd fa fun d => bnd fs fun ds => ret (d :: ds)
def seqOf : D → Option (List D)
  | .list ds => some ds
  | .tuple ds => some ds
  | _ => none
def aStar (fa : M D) (fs : M (List D)) : M (List D) := bnd fa fun d => bnd (lif (seqOf d)) fun ds => bnd fs fun es => ret (ds ++ es)
theorem ea_nil : EA X C [] aNil := ⟨_, pa_nil, fun F H σ r Q e h => Wn.ret (α := List D) h e _ .nil⟩
theorem ea_cons (ha : EV X C a fa) (hs : EA X C es fs) (he : starEach (a :: es) X.env = (false, eval a X.env) :: starEach es X.env := by rfl) : EA X C (a :: es) (aCons fa fs) := by
  obtain ⟨ta, pa, sa⟩ := ha
  obtain ⟨ts, ps, ss⟩ := hs
  refine ⟨_, pa_cons pa ps he, fun F H σ r Q e h => sa F H σ r _ e (h.bnd.imp fun d r1 F1 H1 e1 s1 w v dv => ?_)⟩
  obtain ⟨_, _, w⟩ := w
  refine ss F1 H1 σ r1 _ e1 (w.bnd.imp fun ds r2 F2 H2 e2 s2 w2 vs dvs => ?_)
  obtain ⟨_, _, w2⟩ := w2
  exact Wn.ret (α := List D) w2 e2 _ (.cons (dp_mono s2.sub dv) dvs)
theorem ea_star {p : Pos} (ha : EV X C a fa) (hs : EA X C es fs) (he : starEach (.Starred a p :: es) X.env = (true, eval a X.env) :: starEach es X.env := by rfl) : EA X C (.Starred a p :: es) (aStar fa fs) := by
  obtain ⟨ta, pa, sa⟩ := ha
  obtain ⟨ts, ps, ss⟩ := hs
  refine ⟨_, StX.pa_star pa ps he, fun F H σ r Q e h => sa F H σ r _ e (h.bnd.imp fun d r1 F1 H1 e1 s1 w v dv => ?_)⟩
  obtain ⟨_, _, w⟩ := w
  have key : ∀ ds, seqOf d = some ds → ∃ p xs, v = V.ref p ∧ (SqT X.K H1 p xs ∨ SqL X.K H1 p xs) ∧ DpAll X.K F1 xs ds := fun ds hd => by
    unfold seqOf at hd
    split at hd
    · cases hd
      cases dv with
      | lst h1 h2 => exact ⟨_, _, rfl, .inr (sqL_mono e1.sub h1), h2⟩
    · cases hd
      cases dv with
      | tup h1 h2 => exact ⟨_, _, rfl, .inl (sqT_mono e1.sub h1), h2⟩
    · cases hd
  obtain ⟨ds, q, _, _, w⟩ := w.bnd.lif e1
  obtain ⟨p, xs, rfl, hx, hd⟩ := key ds q
  refine ⟨p, xs, rfl, hx, ss F1 H1 σ r1 _ e1 (w.bnd.imp fun es r2 F2 H2 e2 s2 w2 vs dvs => ?_)⟩
  obtain ⟨_, _, w2⟩ := w2
  exact Wn.ret (α := List D) w2 e2 _ (dps_append (dps_mono s2.sub hd) dvs)
def dTup (fs : M (List D)) : M D := bnd fs fun ds => lif (if ds.length ≤ sizeLine then some (.tuple ds) else none)
def dLst (fs : M (List D)) : M D := bnd fs fun ds => lif (if ds.length ≤ sizeLine then some (.list ds) else none)
theorem ev_tup {k : Nat} (hs : EA X C es fs) : EV X C (.Tuple es k pos) (dTup fs) := by
  obtain ⟨ts, ps, ss⟩ := hs
  refine ⟨_, pe_tup ps, fun F H σ r Q e h => ss F H σ r _ e (h.bnd.imp fun ds r1 F1 H1 e1 s1 w vs dvs => ?_)⟩
  obtain ⟨_, _, w⟩ := w
  obtain ⟨c, ec, fin⟩ := w.lifGrw e1
  split at ec
  · cases ec
    exact ⟨by rw [dps_length dvs]; assumption, fun p hp => fin _ _ _ (Grw.laid e1.sub hp) (.tup (SqT.of upd_same) (dps_mono (upd_grow (free_of e1.sub hp)) dvs))⟩
  · cases ec
theorem ev_lst (hs : EA X C es fs) : EV X C (.List es pos) (dLst fs) := by
  obtain ⟨ts, ps, ss⟩ := hs
  refine ⟨_, pe_lst ps, fun F H σ r Q e h => ss F H σ r _ e (h.bnd.imp fun ds r1 F1 H1 e1 s1 w vs dvs => ?_)⟩
  obtain ⟨_, _, w⟩ := w
  obtain ⟨c, ec, fin⟩ := w.lifGrw e1
  split at ec
  · cases ec
    exact ⟨by rw [dps_length dvs]; assumption, fun p hp => fin _ _ _ (Grw.laid e1.sub hp) (.lst (SqL.of upd_same) (dps_mono (upd_grow (free_of e1.sub hp)) dvs))⟩
  · cases ec

/-! ### values that may be a new list of one's own -/
def sV (f : M D) : M Slot := bnd f fun d => ret (.v d)
theorem es_of (h : EV X C a fa) : ES X C a (sV fa) := by
  obtain ⟨ta, pa, sa⟩ := h
  refine ⟨_, pa, fun F H σ r Q e h => sa F H σ r _ e (h.bnd.imp fun d r1 F1 H1 e1 s1 w v dv => ?_)⟩
  obtain ⟨_, _, w⟩ := w
  cases hx : (ret (Slot.v d) : M Slot) r1 with
  | ok s r' =>
    cases hx
    have w' := w F1 H1 e1 (Stp.refl _ _ _)
    exact w' v dv
  | exc => cases hx
  | bad => cases hx
def sLst (fs : M (List D)) : M Slot := bnd fs fun ds => lif (if ds.length ≤ sizeLine then some (.m ds) else none)
theorem es_lst (hs : EA X C es fs) : ES X C (.List es pos) (sLst fs) := by
  obtain ⟨ts, ps, ss⟩ := hs
  refine ⟨_, pe_lst ps, fun F H σ r Q e h => ss F H σ r _ e (h.bnd.imp fun ds r1 F1 H1 e1 s1 w vs dvs => ?_)⟩
  obtain ⟨_, _, w⟩ := w
  split at w
  · rename_i hz
    refine ⟨by rw [dps_length dvs]; exact hz, fun p hp => ?_⟩
    have w' : ∀ F' H', EnvOk C.pa X.K F' H' σ r1 → Stp F1 H1 (Ow σ r1) F' H' (Ow σ r1) → ∀ v, SRep X.K F' H' (Ow σ r1) H (.m ds) v → Q v H' := w
    refine w' F1 (upd H1 p (.lst vs)) (e1.laidH hp) (Stp.laidH hp) _ ⟨p, vs, rfl, e1.free hp, upd_same, dvs, not_ow_of_free e1 hp, ?_⟩
    cases q : H p with
    | none => rfl
    | some o => exact absurd hp (s1.dom p (ne_none_of q))
  · exact w.elim

/-! ### built-ins -/
variable {x : Str} {p : Pos}
def dCall (g : List D → Option D) (fs : M (List D)) : M D := bnd fs fun ds => lif (g ds)
theorem ev_callV {f : Value} {g : List D → Option D} {rr : List V → Hp → VK → Prop} {t : TE}
    (sr : ∀ F H xs ds c Q, (∀ a o, F a = some o → H a = some o) → DpAll X.K F xs ds → g ds = some c → (∀ v F' H', Grw F H F' H' → Dp X.K F' v c → Q v H') → rr xs H Q) {ts : TA} (ss : ∀ F H σ r Q, EnvOk C.pa X.K F H σ r → Wn X C F H σ r (fs r) (fun ds _ F' H' => ∀ vs, DpAll X.K F' vs ds → Q vs H') → ts σ H Q)
    {Q : VK} (e : EnvOk C.pa X.K F H σ r) (h : Wn X C F H σ r (dCall g fs r) (fun d _ F' H' => ∀ v, Dp X.K F' v d → Q v H')) : tCB rr ts σ H Q := by
  refine ss F H σ r _ e (h.bnd.imp fun ds r1 F1 H1 e1 s1 w vs dvs => ?_)
  obtain ⟨_, _, w⟩ := w
  obtain ⟨c, ec, fin⟩ := w.lifGrw e1
  exact sr F1 H1 vs ds c Q e1.sub dvs ec fin
theorem ev_callB {id : String} {g : List D → Option D} (hc : CD X (.builtin id) g) (hg : Gl X x) (hm : X.mg x = none) (hv : bootBuiltins x = some (.builtin id)) (ha : EA X C (a :: es) fs) (hn : x ≠ "__name__" := by decide) (hdb : (x == ("__debug__" : Str)) = false := by decide)
    (he : starEach (a :: es) X.env = (false, eval a X.env) :: starEach es X.env := by rfl) (hpl : (backTo pos (starEach es X.env)).any (·.1) = false := by rfl) : EV X C (.Call (.Name x p) (a :: es) [] pos) (dCall g fs) := by
  obtain ⟨rr, o, sr⟩ := hc
  obtain ⟨ts, ps, ss⟩ := ha
  exact ⟨_, pe_callB o hg hm hv ps hn hdb he hpl, fun F H σ r Q e h => ev_callV (f := .builtin id) (t := fun _ _ _ => True) sr ss e h⟩
theorem ev_callTy {T : String} {g : List D → Option D} (hc : CD X (.type T) g) (hg : Gl X x) (hm : X.mg x = none) (hv : bootBuiltins x = some (.type T)) (ha : EA X C (a :: es) fs) (hn : x ≠ "__name__" := by decide) (hdb : (x == ("__debug__" : Str)) = false := by decide)
    (he : starEach (a :: es) X.env = (false, eval a X.env) :: starEach es X.env := by rfl) (hpl : (backTo pos (starEach es X.env)).any (·.1) = false := by rfl) : EV X C (.Call (.Name x p) (a :: es) [] pos) (dCall g fs) := by
  obtain ⟨rr, o, sr⟩ := hc
  obtain ⟨ts, ps, ss⟩ := ha
  exact ⟨_, pe_callTy o hg hm hv ps hn hdb he hpl, fun F H σ r Q e h => ev_callV (f := .type T) (t := fun _ _ _ => True) sr ss e h⟩
/-- a text's method of one argument -/
def strOf : D → Bool
  | .str _ => true
  | _ => false
def dMeth (g : D → List D → Option D) (fa fb : M D) : M D := bnd fa fun d => bnd (lif (if strOf d then some () else none)) fun _ => bnd fb fun y => lif (g d [y])
theorem ev_m1 {id : String} {name : Str} {apos : Pos} {g : D → List D → Option D} (slot : PySem.Slot "str" name id) (ty : typeOf (.builtin id) = pure (.type "method_descriptor")) (i : MD X id g) (ha : EV X C a fa) (hb : EV X C b fb)
    (hs : starEach [b] X.env = [(false, eval b X.env)] := by rfl) (hbase : attributeBase a name X.env (eval a X.env) = eval a X.env := by rfl) (hline : (apos.endLine == pos.line) = true := by rfl) : EV X C (.Call (.Attribute a name apos) [b] [] pos) (dMeth g fa fb) := by
  obtain ⟨rr, o, sr⟩ := i
  obtain ⟨ta, pa, sa⟩ := ha
  obtain ⟨tb, pb, sb⟩ := hb
  refine ⟨_, pe_m1 slot ty o pa pb hs hbase hline, fun F H σ r Q e h => sa F H σ r _ e (h.bnd.imp fun d r1 F1 H1 e1 s1 w v dv => ?_)⟩
  obtain ⟨_, _, w⟩ := w
  obtain ⟨_, q, _, _, w⟩ := w.bnd.lif e1
  split at q
  · rename_i hd
    unfold strOf at hd
    split at hd
    · cases dv
      refine ⟨⟨_, rfl⟩, sb F1 H1 σ r1 _ e1 (w.bnd.imp fun y r2 F2 H2 e2 s2 w2 u du => ?_)⟩
      obtain ⟨_, _, w2⟩ := w2
      obtain ⟨c, ec, fin⟩ := w2.lifGrw e2
      exact sr F2 H2 _ _ _ _ c Q e2.sub (.str _) (.cons du .nil) ec fin
    · cases hd
  · cases q
end
end DL

/-! DLCalls: what a def does with data (FnD), its calls, isinstance. -/
namespace DL
open PySem PySem.Spec PyProof.Rows L2

inductive FRes where
  | ok (s : Slot) (o : Option (List D))
  | exc (c : Nat) (d : D) (o : Option (List D))
  | bad
inductive SlotsRep (K : PySem.W.Frag) (F H : Hp) : List V → List Slot → Option Addr → Prop where
  | nil : SlotsRep K F H [] [] none
  | v {v : V} {d : D} {vs : List V} {ss : List Slot} {pa : Option Addr} : Dp K F v d → SlotsRep K F H vs ss pa → SlotsRep K F H (v :: vs) (.v d :: ss) pa
  | f {a : Addr} {vs : List V} {ss : List Slot} {pa : Option Addr} : SlotsRep K F H vs ss pa → SlotsRep K F H (.ref a :: vs) (.f a :: ss) pa
  | p {a : Addr} {xs : List V} {l : List D} {vs : List V} {ss : List Slot} : F a = none → H a = some (.lst xs) → DpAll K F xs l → SlotsRep K F H vs ss none → SlotsRep K F H (.ref a :: vs) (.p l :: ss) (some a)
structure Post (K : PySem.W.Frag) (F H : Hp) (pa : Option Addr) (F' H' : Hp) (o : Option (List D)) : Prop where
  subF : ∀ a u, F a = some u → F' a = some u
  fin : ∀ a u, F' a = some u → H' a = some u
  keep : ∀ a u, H a = some u → pa ≠ some a → H' a = some u
  dom : ∀ a, H a ≠ none → H' a ≠ none
  new : ∀ a, F' a ≠ none → F a ≠ none ∨ H a = none
  out : match pa, o with
    | some a, some l => ∃ xs, H' a = some (.lst xs) ∧ DpAll K F' xs l
    | none, none => True
    | _, _ => False
def FRep (K : PySem.W.Frag) (F' H' H : Hp) : Slot → V → Prop
  | .v d, v => Dp K F' v d
  | .m l, v => ∃ a xs, v = .ref a ∧ F' a = none ∧ H' a = some (.lst xs) ∧ DpAll K F' xs l ∧ H a = none
  | .p _, _ => False
  | .f a, v => v = .ref a
def spD (K : PySem.W.Frag) (xc : List (Addr × Option Str)) (n : Nat) (g : List Slot → FRes) : Sp := fun vs H Q E => vs.length = n ∧ ∃ F ss pa, (∀ a u, F a = some u → H a = some u) ∧ SlotsRep K F H vs ss pa ∧ match g ss with
  | .ok s o => ∀ v F' H', Post K F H pa F' H' o → FRep K F' H' H s v → Q v H'
  | .exc c d o => ∀ cls dd F' H', Post K F H pa F' H' o → XRep xc K F' H' c d cls dd → E cls dd H'
  | .bad => False

/-! ### arguments -/
inductive Arg where
  | v (d : D) | io (i : Nat) | f (a : Addr)
inductive ArgsRep (K : PySem.W.Frag) (F : Hp) (σ : Sg) : List V → List Arg → Prop where
  | nil : ArgsRep K F σ [] []
  | v {v : V} {d : D} {vs : List V} {ss : List Arg} : Dp K F v d → ArgsRep K F σ vs ss → ArgsRep K F σ (v :: vs) (.v d :: ss)
  | f {a : Addr} {vs : List V} {ss : List Arg} : ArgsRep K F σ vs ss → ArgsRep K F σ (.ref a :: vs) (.f a :: ss)
  | io {a : Addr} {i : Nat} {vs : List V} {ss : List Arg} : σ[i]? = some (some (.ref a)) → ArgsRep K F σ vs ss → ArgsRep K F σ (.ref a :: vs) (.io i :: ss)
theorem ArgsRep.mono {K : PySem.W.Frag} {F F' : Hp} {σ : Sg} {vs : List V} {as : List Arg} (k : ∀ a o, F a = some o → F' a = some o) (h : ArgsRep K F σ vs as) : ArgsRep K F' σ vs as := by
  induction h with
  | nil => exact .nil
  | v h _ ih => exact .v (dp_mono k h) ih
  | f _ ih => exact .f ih
  | io h _ ih => exact .io h ih
def resolve (r : Rho) : List Arg → Option (List Slot × Option Nat)
  | [] => some ([], none)
  | .v d :: as => (resolve r as).map fun p => (.v d :: p.1, p.2)
  | .f a :: as => (resolve r as).map fun p => (.f a :: p.1, p.2)
  | .io i :: as => match resolve r as with
    | some (ss, none) => match r[i]? with
      | some (some (.m l)) => some (.p l :: ss, some i)
      | some (some (.p l)) => some (.p l :: ss, some i)
      | _ => none
    | _ => none
theorem resolve_rep {pa : Nat → Addr} {K : PySem.W.Frag} {F H : Hp} {σ : Sg} {r : Rho} (e : EnvOk pa K F H σ r) : ∀ {as : List Arg} {vs : List V} {ss : List Slot} {oi : Option Nat}, ArgsRep K F σ vs as → resolve r as = some (ss, oi) →
    ∃ oa, SlotsRep K F H vs ss oa ∧ match oi, oa with
      | none, none => True
      | some i, some a => σ[i]? = some (some (.ref a)) ∧ ∃ l, r[i]? = some (some (.m l)) ∨ r[i]? = some (some (.p l))
      | _, _ => False
  | [], _, _, _, h, q => by
    cases h
    cases q
    exact ⟨none, .nil, True.intro⟩
  | .v d :: as, _, ss, oi, h, q => by
    cases h with
    | v h1 h2 =>
      obtain ⟨⟨s1, o1⟩, q1, q2⟩ := Option.map_eq_some_iff.mp q
      cases q2
      obtain ⟨oa, g1, g2⟩ := resolve_rep e h2 q1
      exact ⟨oa, .v h1 g1, g2⟩
  | .f a :: as, _, ss, oi, h, q => by
    cases h with
    | f h2 =>
      obtain ⟨⟨s1, o1⟩, q1, q2⟩ := Option.map_eq_some_iff.mp q
      cases q2
      obtain ⟨oa, g1, g2⟩ := resolve_rep e h2 q1
      exact ⟨oa, .f g1, g2⟩
  | .io i :: as, _, ss, oi, h, q => by
    cases h with
    | io h1 h2 =>
      unfold resolve at q
      split at q
      · rename_i s1 q1
        obtain ⟨oa, g1, g2⟩ := resolve_rep e h2 q1
        cases oa with
        | some a => exact g2.elim
        | none =>
          split at q
          · rename_i l hl
            cases q
            obtain ⟨a', xs, e1, e2, e3, e4⟩ := e.own i l (.inl hl)
            rw [h1] at e1; cases e1
            exact ⟨some _, .p e2 e3 e4 g1, h1, l, .inl hl⟩
          · rename_i l hl
            cases q
            obtain ⟨a', xs, e1, e2, e3, e4⟩ := e.own i l (.inr hl)
            rw [h1] at e1; cases e1
            exact ⟨some _, .p e2 e3 e4 g1, h1, l, .inr hl⟩
          · cases q
      · cases q
/-- slot i's list is another one now -/
def relist (r : Rho) (oi : Option Nat) (o : Option (List D)) : Option Rho := match oi, o with
  | none, none => some r
  | some i, some l => match r[i]? with
    | some (some (.m _)) => some (r.set i (some (.m l)))
    | some (some (.p _)) => some (r.set i (some (.p l)))
    | _ => none
  | _, _ => none
theorem relist_ow {r r' : Rho} {oi : Option Nat} {o : Option (List D)} {σ : Sg} {a : Addr} (h : relist r oi o = some r') (w : Ow σ r' a) : Ow σ r a := by
  unfold relist at h
  split at h
  · cases h; exact w
  · rename_i i l
    obtain ⟨j, l', q1, q2⟩ := w
    split at h
    · rename_i l0 h0
      cases h
      rw [set_get (lt_of_get h0)] at q1
      by_cases z : i = j
      · subst z; exact ⟨_, l0, .inl h0, q2⟩
      · rw [if_neg z] at q1; exact ⟨j, l', q1, q2⟩
    · rename_i l0 h0
      cases h
      rw [set_get (lt_of_get h0)] at q1
      by_cases z : i = j
      · subst z; exact ⟨_, l0, .inr h0, q2⟩
      · rw [if_neg z] at q1; exact ⟨j, l', q1, q2⟩
    · cases h
  · cases h
theorem EnvOk.relist1 {pa : Nat → Addr} {K : PySem.W.Frag} {F H F' H' : Hp} {σ : Sg} {r : Rho} {i : Nat} {a : Addr} {l0 l : List D} {xs : List V} {s : Slot} (e : EnvOk pa K F H σ r) (hσ : σ[i]? = some (some (.ref a))) (hs : (s = .m l ∧ r[i]? = some (some (.m l0))) ∨ (s = .p l ∧ r[i]? = some (some (.p l0))))
    (subF : ∀ a u, F a = some u → F' a = some u) (fin : ∀ a u, F' a = some u → H' a = some u) (keep : ∀ b u, H b = some u → b ≠ a → H' b = some u) (dom : ∀ a, H a ≠ none → H' a ≠ none) (new : ∀ a, F' a ≠ none → F a ≠ none ∨ H a = none) (hx : H' a = some (.lst xs)) (hd : DpAll K F' xs l) :
    EnvOk pa K F' H' σ (r.set i (some s)) ∧ Stp F H (Ow σ r) F' H' (Ow σ (r.set i (some s))) := by
  have ho : r[i]? = some (some (.m l0)) ∨ r[i]? = some (some (.p l0)) := hs.imp (·.2) (·.2)
  have hi : i < r.length := ho.elim lt_of_get lt_of_get
  obtain ⟨a', xs0, z1, z2, z3, z4⟩ := e.own i l0 ho
  rw [hσ] at z1; cases z1
  have backO : ∀ {j : Nat} {l' : List D}, ((r.set i (some s))[j]? = some (some (.m l')) ∨ (r.set i (some s))[j]? = some (some (.p l'))) → (i = j ∧ l' = l) ∨ (i ≠ j ∧ (r[j]? = some (some (.m l')) ∨ r[j]? = some (some (.p l')))) := fun {j l'} q => by
    rw [set_get hi] at q
    by_cases z : i = j
    · rw [if_pos z] at q
      refine .inl ⟨z, ?_⟩
      rcases hs with ⟨rfl, _⟩ | ⟨rfl, _⟩ <;> rcases q with q | q <;> cases q <;> rfl
    · rw [if_neg z] at q; exact .inr ⟨z, q⟩
  have fa' : F' a = none := by
    cases q : F' a with
    | none => rfl
    | some u =>
      rcases new a (ne_none_of q) with w | w
      · exact absurd z2 w
      · rw [z3] at w; cases w
  have backA : ∀ {j : Nat} {l' : List D}, ((r.set i (some s))[j]? = some (some (.m l')) ∨ (r.set i (some s))[j]? = some (some (.p l'))) → ∃ l'', r[j]? = some (some (.m l'')) ∨ r[j]? = some (some (.p l'')) := fun {j l'} q => by
    rcases backO q with ⟨rfl, _⟩ | ⟨_, q⟩
    · exact ⟨l0, ho⟩
    · exact ⟨l', q⟩
  refine ⟨⟨by rw [List.length_set]; exact e.len, fin, fun j d q => ?_, fun j l' q => ?_, fun j j' b l1 l2 q1 q2 q3 q4 => ?_, fun j l' q => ?_, fun j b q => ?_⟩, ⟨subF, fun b u q hn => ?_, dom, fun b q => (new b q).imp id .inl, fun b q => ?_⟩⟩
  · rw [set_get hi] at q
    by_cases z : i = j
    · rw [if_pos z] at q
      rcases hs with ⟨rfl, _⟩ | ⟨rfl, _⟩ <;> cases q
    · rw [if_neg z] at q
      obtain ⟨v, q1, q2⟩ := e.val j d q
      exact ⟨v, q1, dp_mono subF q2⟩
  · rcases backO q with ⟨rfl, rfl⟩ | ⟨z, q⟩
    · exact ⟨a, xs, hσ, fa', hx, hd⟩
    · obtain ⟨b, ys, g1, g2, g3, g4⟩ := e.own j l' q
      have hb : b ≠ a := fun w => z (e.inj i j a l0 l' ho q hσ (w ▸ g1))
      refine ⟨b, ys, g1, ?_, keep b _ g3 hb, dps_mono subF g4⟩
      cases w : F' b with
      | none => rfl
      | some u =>
        rcases new b (ne_none_of w) with t | t
        · exact absurd g2 t
        · rw [g3] at t; cases t
  · obtain ⟨m1, k1⟩ := backA q1
    obtain ⟨m2, k2⟩ := backA q2
    exact e.inj j j' b m1 m2 k1 k2 q3 q4
  · rw [set_get hi] at q
    by_cases z : i = j
    · rw [if_pos z] at q
      subst z
      rcases hs with ⟨rfl, _⟩ | ⟨rfl, hp⟩
      · cases q
      · exact e.par i l0 hp
    · rw [if_neg z] at q
      exact e.par j l' q
  · rw [set_get hi] at q
    by_cases z : i = j
    · rw [if_pos z] at q
      rcases hs with ⟨rfl, _⟩ | ⟨rfl, _⟩ <;> cases q
    · rw [if_neg z] at q
      exact e.fn j b q
  · exact keep b u q fun z => hn ⟨i, l0, ho, z ▸ hσ⟩
  · obtain ⟨j, l', q1, q2⟩ := q
    obtain ⟨m, k⟩ := backA q1
    exact .inl ⟨j, m, k, q2⟩

section
variable {X : Cx} {C : DC} {F H : Hp} {σ : Sg} {r : Rho} {a b e : Expr} {es : List Expr} {pos p : Pos} {fa fb : M D} {x : Str}
def EG (X : Cx) (C : DC) (es : List Expr) (f : M (List Arg)) : Prop := ∃ t, PA X es t ∧ ∀ F H σ r Q, EnvOk C.pa X.K F H σ r → Wn X C F H σ r (f r) (fun as _ F' H' => ∀ vs, ArgsRep X.K F' σ vs as → Q vs H') → t σ H Q
def gNil : M (List Arg) := ret []
def gV (fa : M D) (fs : M (List Arg)) : M (List Arg) := bnd fa fun d => bnd fs fun as => ret (.v d :: as)
def ioOf (i : Nat) : M Arg := fun r => match r[i]? with
  | some (some (.m _)) => .ok (.io i) r
  | some (some (.p _)) => .ok (.io i) r
  | some (some (.f a)) => .ok (.f a) r
  | _ => .bad
def gIo (i : Nat) (fs : M (List Arg)) : M (List Arg) := bnd (ioOf i) fun a => bnd fs fun as => ret (a :: as)
def gF (a : Addr) (fs : M (List Arg)) : M (List Arg) := bnd fs fun as => ret (.f a :: as)
variable {fs : M (List Arg)}
theorem eg_nil : EG X C [] gNil := ⟨_, pa_nil, fun F H σ r Q e h => Wn.ret (α := List Arg) h e _ .nil⟩
theorem eg_v (ha : EV X C a fa) (hs : EG X C es fs) (he : starEach (a :: es) X.env = (false, eval a X.env) :: starEach es X.env := by rfl) : EG X C (a :: es) (gV fa fs) := by
  obtain ⟨ta, pa, sa⟩ := ha
  obtain ⟨ts, ps, ss⟩ := hs
  refine ⟨_, pa_cons pa ps he, fun F H σ r Q e h => sa F H σ r _ e (h.bnd.imp fun d r1 F1 H1 e1 s1 w v dv => ?_)⟩
  obtain ⟨_, _, w⟩ := w
  refine ss F1 H1 σ r1 _ e1 (w.bnd.imp fun ds r2 F2 H2 e2 s2 w2 vs dvs => ?_)
  obtain ⟨_, _, w2⟩ := w2
  exact Wn.ret (α := List Arg) w2 e2 _ (.v (dp_mono s2.sub dv) dvs)
theorem eg_io (i : Nat) (hs : EG X C es fs) (he : starEach (.Name x p :: es) X.env = (false, eval (.Name x p) X.env) :: starEach es X.env := by rfl) (hN : X.N[i]? = some x := by rfl) (hv : Vis X.env.scope x := by first | exact Or.inl rfl | exact Or.inr (Or.inl rfl) | exact Or.inr (Or.inr rfl)) (hd : (x == ("__debug__" : Str)) = false := by decide)
    (hcd : (x == ("__classdict__" : Str)) = false := by decide) : EG X C (.Name x p :: es) (gIo i fs) := by
  obtain ⟨ts, ps, ss⟩ := hs
  refine ⟨_, pa_cons (pe_var hN hv hd hcd) ps he, fun F H σ r Q e h => ?_⟩
  have w := h.bnd
  unfold ioOf at w
  cases q : r[i]? with
  | none => rw [q] at w; exact w.elim
  | some o =>
    cases o with
    | none => rw [q] at w; exact w.elim
    | some s =>
      cases s with
      | v d => rw [q] at w; exact w.elim
      | m l =>
        rw [q] at w
        obtain ⟨a, xs, e1, _⟩ := e.own i l (.inl q)
        obtain ⟨_, _, w⟩ := w F H e (Stp.refl _ _ _)
        refine ⟨_, e1, ss F H σ r _ e (w.bnd.imp fun as r2 F2 H2 e2 s2 w2 vs dvs => ?_)⟩
        exact Wn.ret (α := List Arg) w2.2.2 e2 _ (.io e1 dvs)
      | p l =>
        rw [q] at w
        obtain ⟨a, xs, e1, _⟩ := e.own i l (.inr q)
        obtain ⟨_, _, w⟩ := w F H e (Stp.refl _ _ _)
        refine ⟨_, e1, ss F H σ r _ e (w.bnd.imp fun as r2 F2 H2 e2 s2 w2 vs dvs => ?_)⟩
        exact Wn.ret (α := List Arg) w2.2.2 e2 _ (.io e1 dvs)
      | f a =>
        rw [q] at w
        have e1 := e.fn i a q
        obtain ⟨_, _, w⟩ := w F H e (Stp.refl _ _ _)
        refine ⟨_, e1, ss F H σ r _ e (w.bnd.imp fun as r2 F2 H2 e2 s2 w2 vs dvs => ?_)⟩
        exact Wn.ret (α := List Arg) w2.2.2 e2 _ (.f dvs)
theorem eg_f {f : Addr} (hg : Gl X x) (hm : X.mg x = some (.ref f)) (hs : EG X C es fs) (he : starEach (.Name x p :: es) X.env = (false, eval (.Name x p) X.env) :: starEach es X.env := by rfl) (hd : (x == ("__debug__" : Str)) = false := by decide) : EG X C (.Name x p :: es) (gF f fs) := by
  obtain ⟨ts, ps, ss⟩ := hs
  refine ⟨_, pa_cons (pe_glob (v := .ref f) hg hm rfl hd) ps he, fun F H σ r Q e h => ?_⟩
  refine ss F H σ r _ e (h.bnd.imp fun as r2 F2 H2 e2 s2 w2 vs dvs => ?_)
  exact Wn.ret (α := List Arg) w2.2.2 e2 _ (.f dvs)
/-- f(..): a def's own result -/
def dDef (g : List Slot → FRes) (fs : M (List Arg)) : M Slot := bnd fs fun as => fun r => match resolve r as with
  | none => .bad
  | some (ss, oi) => match g ss with
    | .ok s o => match relist r oi o with
      | some r' => .ok s r'
      | none => .bad
    | .exc c d o => match relist r oi o with
      | some r' => .exc c d r'
      | none => .bad
    | .bad => .bad
theorem call_post {oi : Option Nat} {oa : Option Addr} {o : Option (List D)} {r' : Rho} {F' H' : Hp} (e : EnvOk C.pa X.K F H σ r) (hm : match oi, oa with
      | none, none => True
      | some i, some a => σ[i]? = some (some (.ref a)) ∧ ∃ l, r[i]? = some (some (.m l)) ∨ r[i]? = some (some (.p l))
      | _, _ => False) (hr : relist r oi o = some r') (P : Post X.K F H oa F' H' o) : EnvOk C.pa X.K F' H' σ r' ∧ Stp F H (Ow σ r) F' H' (Ow σ r') := by
  cases oi with
  | none =>
    cases oa with
    | some a => exact hm.elim
    | none =>
      cases o with
      | some l => exact P.out.elim
      | none =>
        cases hr
        have kp : ∀ b u, H b = some u → H' b = some u := fun b u q => P.keep b u q (fun z => nomatch z)
        exact ⟨e.grow P.subF kp P.fin P.new, Stp.grow P.subF kp P.new⟩
  | some i =>
    cases oa with
    | none => exact hm.elim
    | some a =>
      cases o with
      | none => exact P.out.elim
      | some l =>
        obtain ⟨hσ, l0, ho⟩ := hm
        obtain ⟨xs, hx, hd⟩ := P.out
        have kp : ∀ b u, H b = some u → b ≠ a → H' b = some u := fun b u q hb => P.keep b u q fun z => hb (Option.some.inj z).symm
        unfold relist at hr
        rcases ho with ho | ho
        · simp only [ho] at hr
          cases hr
          exact e.relist1 hσ (.inl ⟨rfl, ho⟩) P.subF P.fin kp P.dom P.new hx hd
        · simp only [ho] at hr
          cases hr
          exact e.relist1 hσ (.inr ⟨rfl, ho⟩) P.subF P.fin kp P.dom P.new hx hd
/-- the promise at a call, as the caller has it -/
theorem call_sp {g : List Slot → FRes} {n : Nat} {F1 H1 : Hp} {r1 : Rho} {as : List Arg} {vs : List V} {Q : VK} (hn : vs.length = n) (e1 : EnvOk C.pa X.K F1 H1 σ r1) (s1 : Stp F H (Ow σ r) F1 H1 (Ow σ r1)) (ha : ArgsRep X.K F1 σ vs as)
    (w : Wn X C F1 H1 σ r1 ((fun r => match resolve r as with
      | none => .bad
      | some (ss, oi) => match g ss with
        | .ok s o => match relist r oi o with
          | some r' => .ok s r'
          | none => .bad
        | .exc c d o => match relist r oi o with
          | some r' => .exc c d r'
          | none => .bad
        | .bad => .bad : M Slot) r1) (fun s r' F' H' => ∀ v, SRep X.K F' H' (Ow σ r') H s v → Q v H')) : spD X.K C.xc n g vs H1 Q (WE C.W σ) := by
  refine ⟨hn, ?_⟩
  simp only at w
  cases q : resolve r1 as with
  | none => rw [q] at w; exact w.elim
  | some so =>
    obtain ⟨ss, oi⟩ := so
    rw [q] at w
    simp only at w
    obtain ⟨oa, hss, hm⟩ := resolve_rep e1 ha q
    refine ⟨F1, ss, oa, e1.sub, hss, ?_⟩
    cases qg : g ss with
    | ok s o =>
      rw [qg] at w
      simp only at w ⊢
      intro v F' H' P fr
      cases qr : relist r1 oi o with
      | none => rw [qr] at w; exact w.elim
      | some r' =>
        rw [qr] at w
        obtain ⟨e2, s2⟩ := call_post e1 hm qr P
        refine w F' H' e2 s2 v ?_
        cases s with
        | v d => exact fr
        | p l => exact fr
        | f a => exact fr
        | m l =>
          obtain ⟨a, xs, rfl, h1, h2, h3, h4⟩ := fr
          refine ⟨a, xs, rfl, h1, h2, h3, fun z => ?_, ?_⟩
          · exact not_ow_of_free e1 h4 (relist_ow qr z)
          · cases q : H a with
            | none => rfl
            | some u => exact absurd h4 (s1.dom a (ne_none_of q))
    | exc c d o =>
      rw [qg] at w
      simp only at w ⊢
      intro cls dd F' H' P xr
      cases qr : relist r1 oi o with
      | none => rw [qr] at w; exact w.elim
      | some r' =>
        rw [qr] at w
        obtain ⟨e2, s2⟩ := call_post e1 hm qr P
        exact w F' H' cls dd e2 s2 xr
    | bad => rw [qg] at w; exact w.elim
variable {f : Addr} {fd : FuncData} {ps ks : List Str} {g : List Slot → FRes} {k j : Nat} {kws : List Keyword}
theorem args_length {K : PySem.W.Frag} {F : Hp} {vs : List V} {as : List Arg} (h : ArgsRep K F σ vs as) : vs.length = as.length := by
  induction h with
  | nil => rfl
  | v _ _ ih => simp [ih]
  | f _ ih => simp [ih]
  | io _ _ ih => simp [ih]
/-- as dDef, for a def of n parameters -/
def dDefN (n : Nat) (g : List Slot → FRes) (fs : M (List Arg)) : M Slot := bnd fs fun as => bnd (lif (if as.length = n then some () else none)) fun _ => fun r => match resolve r as with
  | none => .bad
  | some (ss, oi) => match g ss with
    | .ok s o => match relist r oi o with
      | some r' => .ok s r'
      | none => .bad
    | .exc c d o => match relist r oi o with
      | some r' => .exc c d r'
      | none => .bad
    | .bad => .bad
theorem es_call (G : FnOk X.prog X.w X.K X.mg X.base (L2.CX X.prog X.w) k f fd ps (spD X.K C.xc ps.length g)) (hr : Room j X.A) (tk : Takes X C.W) (hm : X.mg x = some (.ref f)) (hk : PySem.W.keepIn X.K (.ref f) = true) (hb : Binds X.K fd ps [])
    (ha : EG X C (a :: es) fs) (hkj : k ≤ j := by decide) (hg : Gl X x := by rfl) (hdb : (x == ("__debug__" : Str)) = false := by decide) (he : starEach (a :: es) X.env = (false, eval a X.env) :: starEach es X.env := by rfl) (hpl : (backTo pos (starEach es X.env)).any (·.1) = false := by rfl) :
    ES X C (.Call (.Name x p) (a :: es) [] pos) (dDefN ps.length g fs) := by
  obtain ⟨ts, ps', ss⟩ := ha
  refine ⟨_, pe_callS G (hr.mono hkj) hg hm hk hb (fun σ => passAt tk σ) ps' hdb he hpl, fun F H σ r Q e h => ?_⟩
  refine ss F H σ r _ e (h.bnd.imp fun as r1 F1 H1 e1 s1 w vs dvs => ?_)
  obtain ⟨_, _, w⟩ := w
  obtain ⟨_, q, _, _, w⟩ := w.bnd.lif e1
  split at q
  · rename_i hl
    exact call_sp ((args_length dvs).trans hl) e1 s1 dvs w
  · cases q

/-! ### calls by keywords alone -/
def EK (X : Cx) (C : DC) (kws : List Keyword) (f : M (List Arg)) : Prop := ∃ t, PK X kws t ∧ ∀ F H σ r Q, EnvOk C.pa X.K F H σ r → Wn X C F H σ r (f r) (fun as _ F' H' => ∀ vs, ArgsRep X.K F' σ vs as → Q vs H') → t σ H Q
theorem ek_nil : EK X C [] gNil := ⟨_, pk_nil, fun F H σ r Q e h => Wn.ret (α := List Arg) h e _ .nil⟩
theorem ek_v {nm : Option Str} {kpos : Pos} (ha : EV X C a fa) (hs : EK X C kws fs) : EK X C (⟨nm, a, kpos⟩ :: kws) (gV fa fs) := by
  obtain ⟨ta, pa, sa⟩ := ha
  obtain ⟨ts, ps, ss⟩ := hs
  refine ⟨_, pk_cons pa ps, fun F H σ r Q e h => sa F H σ r _ e (h.bnd.imp fun d r1 F1 H1 e1 s1 w v dv => ?_)⟩
  obtain ⟨_, _, w⟩ := w
  refine ss F1 H1 σ r1 _ e1 (w.bnd.imp fun ds r2 F2 H2 e2 s2 w2 vs dvs => ?_)
  obtain ⟨_, _, w2⟩ := w2
  exact Wn.ret (α := List Arg) w2 e2 _ (.v (dp_mono s2.sub dv) dvs)
/-- all parameters by their names, in their order -/
def KB (K : PySem.W.Frag) (fd : FuncData) (ps : List Str) : Prop := ∀ (s : Shared) (ws : List Value), K.In s.heap → ws.length = ps.length → BindsTo s fd ⟨[], ps.zip ws⟩ (ps.zip ws)
theorem es_callK (G : FnOk X.prog X.w X.K X.mg X.base (L2.CX X.prog X.w) k f fd ps (spD X.K C.xc ps.length g)) (hr : Room j X.A) (tk : Takes X C.W) (hm : X.mg x = some (.ref f)) (hk : PySem.W.keepIn X.K (.ref f) = true) (hb : KB X.K fd ps)
    (ha : EK X C kws fs) (hkj : k ≤ j := by decide) (hall : (backToKw pos (keywordEach kws X.env)).all (·.1.isSome) = true := by rfl) (hks : (backToKw pos (keywordEach kws X.env)).filterMap (·.1) = ps := by rfl) (hg : Gl X x := by rfl)
    (hdb : (x == ("__debug__" : Str)) = false := by decide) (hpl : ((backTo pos (starEach [] X.env)).any (·.1) || (backToKw pos (keywordEach kws X.env)).any (·.1.isNone)) = false := by rfl) :
    ES X C (.Call (.Name x p) [] kws pos) (dDefN ps.length g fs) := by
  obtain ⟨ts, ps', ss⟩ := ha
  refine ⟨fun σ H Q => ts σ H fun vs H1 => spD X.K C.xc ps.length g vs H1 Q (WE C.W σ), ⟨fun pins s σ H Q I h => ?_⟩, fun F H σ r Q e h => ?_⟩
  · refine wpAny_Call_Name_kw (ld_glob I hg hm ?_ hdb)
    refine PySem.W.callWith_KW0 (h₀ := X.base) I.ok.mod.kin hk hall ?_ hpl
    refine thn (ps'.run pos pins s σ H _ I h) fun ws s2 ⟨zs, H2, I2, rz, q2⟩ => ⟨I2.kIn, ?_⟩
    rw [hks]
    have hl : ws.length = ps.length := by rw [← rz.length]; exact G.len _ _ _ _ q2
    refine wpAny_call (codeAny_mono (G.run X.A X.stack s2 H2 ⟨[] ++ [], ps.zip ws⟩ ws zs Q (WE C.W σ) (hr.mono hkj) I2.env0 (hb s2 ws I2.kIn hl) rz q2) fun r s' hq => ?_)
    cases r with
    | error e => exact passAt tk σ pins H2 s2 e s' I2 hq
    | ok fl =>
      cases fl with
      | ret u => exact I2.after hq
      | next => exact False.elim hq
      | brk => exact False.elim hq
      | cont => exact False.elim hq
  · refine ss F H σ r _ e (h.bnd.imp fun as r1 F1 H1 e1 s1 w vs dvs => ?_)
    obtain ⟨_, _, w⟩ := w
    obtain ⟨_, q, _, _, w⟩ := w.bnd.lif e1
    split at q
    · rename_i hl
      exact call_sp ((args_length dvs).trans hl) e1 s1 dvs w
    · cases q
/-- a def's own result, frozen -/
def dFrz (f : M Slot) : M D := bnd f fun s => match s with
  | .v d => ret d
  | .m l => ret (.list l)
  | _ => fun _ => .bad
theorem ev_frz {f : M Slot} (h : ES X C e f) : EV X C e (dFrz f) := by
  obtain ⟨t, p, s⟩ := h
  refine ⟨t, p, fun F H σ r Q en h => s F H σ r _ en ?_⟩
  unfold dFrz at h
  cases q : f r with
  | exc c d r' => rw [bnd_exc q] at h; exact h
  | bad => rw [bnd_bad q] at h; exact h
  | ok sl r1 =>
  rw [bnd_ok q] at h
  intro F1 H1 e1 s1 v sv
  cases sl with
  | v d => exact h F1 H1 e1 s1 v sv
  | p l => exact h.elim
  | f a => exact h.elim
  | m l =>
    obtain ⟨a, xs, rfl, h1, h2, h3, h4, h5⟩ := sv
    have hd : Dp X.K (upd F1 a (.lst xs)) (.ref a) (.list l) := .lst (SqL.of upd_same) (dps_mono (upd_grow h1) h3)
    have e2 : EnvOk C.pa X.K (upd F1 a (.lst xs)) H1 σ r1 := by
      refine ⟨e1.len, fun b o q => ?_, fun j d q => ?_, fun j l' q => ?_, e1.inj, e1.par, e1.fn⟩
      · by_cases z : b = a
        · subst z; rw [upd_same] at q; cases q; exact h2
        · rw [upd_ne z] at q; exact e1.sub b o q
      · obtain ⟨v, q1, q2⟩ := e1.val j d q
        exact ⟨v, q1, dp_mono (upd_grow h1) q2⟩
      · obtain ⟨b, ys, g1, g2, g3, g4⟩ := e1.own j l' q
        have hb : b ≠ a := fun z => h4 ⟨j, l', q, z ▸ g1⟩
        exact ⟨b, ys, g1, by rw [upd_ne hb]; exact g2, g3, dps_mono (upd_grow h1) g4⟩
    have s2 : Stp F H (Ow σ r) (upd F1 a (.lst xs)) H1 (Ow σ r1) := by
      refine ⟨fun b o q => upd_grow h1 b o (s1.sub b o q), s1.keep, s1.dom, fun b q => ?_, s1.own⟩
      by_cases z : b = a
      · subst z; exact .inr (.inl h5)
      · rw [upd_ne z] at q; exact s1.new b q
    -- the wish from the start
    exact h _ _ e2 s2 _ hd
end
end DL

/-! DLStm: statements, owned lists, loops, over data. -/
namespace DL
open PySem PySem.Spec PyProof.Rows L2
section
variable {X : Cx} {C : DC} {F H F1 H1 : Hp} {σ σ1 : Sg} {r r1 : Rho} {a b c e : Expr} {es : List Expr} {pos p pos' : Pos} {fa fb : M D} {x : Str} {E : Ends} {α : Type}
theorem Ws.on {o : Res Fl} (h : Ws X C F H σ r o E) (s : Stp F H (Ow σ r) F1 H1 (Ow σ1 r1)) : Ws X C F1 H1 σ1 r1 o E := by
  cases o with
  | ok fl r' =>
    intro σ' F' H' e s'
    have q := h σ' F' H' e (s.trans s')
    cases fl with
    | nx => exact q
    | brk => exact q
    | ct => exact q
    | ret sl =>
      intro v sv
      refine q v ?_
      cases sl with
      | v d => exact sv
      | p l => exact sv
      | f a => exact sv
      | m l =>
        obtain ⟨a, xs, rfl, h1, h2, h3, h4, h5⟩ := sv
        refine ⟨a, xs, rfl, h1, h2, h3, h4, ?_⟩
        cases q : H a with
        | none => rfl
        | some u => exact absurd h5 (s.dom a (ne_none_of q))
  | exc c d r' => exact fun σ' F' H' cls dd e s' x => h σ' F' H' cls dd e (s.trans s') x
  | bad => exact h
theorem Ws.bnd {f : M α} {k : α → M Fl} (h : Ws X C F H σ r (bnd f k r) E) :
    Wn X C F H σ r (f r) (fun a r1 F1 H1 => EnvOk C.pa X.K F1 H1 σ r1 ∧ Stp F H (Ow σ r) F1 H1 (Ow σ r1) ∧ Ws X C F1 H1 σ r1 (k a r1) E) := by
  cases e : f r with
  | ok a r' =>
    rw [bnd_ok e] at h
    exact fun F' H' e' s' => ⟨e', s', h.on s'⟩
  | exc c d r' =>
    rw [bnd_exc e] at h
    exact fun F' H' cls dd e' s' x => h σ F' H' cls dd e' s' x
  | bad => rw [bnd_bad e] at h; exact h
/-- the outcome of a target -/
def Wt (X : Cx) (C : DC) (F H : Hp) (σ : Sg) (r : Rho) (x : Res Unit) (Q : Sg → Hp → Prop) : Prop := match x with
  | .ok _ r' => ∀ σ' F' H', EnvOk C.pa X.K F' H' σ' r' → Stp F H (Ow σ r) F' H' (Ow σ' r') → Q σ' H'
  | _ => False
/-- other slots than those of `is` are as they were -/
def Off (is : List Nat) (σ σ' : Sg) : Prop := σ'.length = σ.length ∧ ∀ k, k ∉ is → σ'[k]? = σ[k]?
def GD (X : Cx) (C : DC) (tg : Expr) (is : List Nat) (f : D → M Unit) : Prop := ∃ g, PG X tg g ∧ ∀ F H σ r v d Q, EnvOk C.pa X.K F H σ r → Dp X.K F v d → Wt X C F H σ r (f d r) (fun σ' H' => Off is σ σ' → Q σ' H') → g v σ H Q

/-! ### stores to a name -/
def setS (i : Nat) (s : Slot) : M Unit := fun r => match r[i]? with
  | some (some (.p _)) => .bad
  | some _ => .ok () (r.set i (some s))
  | none => .bad
theorem setS_ok {i : Nat} {s : Slot} {r' : Rho} {u : Unit} (h : setS i s r = .ok u r') : i < r.length ∧ r' = r.set i (some s) ∧ ∀ l, r[i]? ≠ some (some (.p l)) := by
  unfold setS at h
  cases q : r[i]? with
  | none => rw [q] at h; cases h
  | some o =>
    rw [q] at h
    have hi := lt_of_get q
    cases o with
    | none => cases h; exact ⟨hi, rfl, fun l z => nomatch z⟩
    | some s' =>
      cases s' with
      | v d => cases h; exact ⟨hi, rfl, fun l z => nomatch z⟩
      | m d => cases h; exact ⟨hi, rfl, fun l z => nomatch z⟩
      | p d => cases h
      | f d => cases h; exact ⟨hi, rfl, fun l z => nomatch z⟩
theorem setS_exc {i : Nat} {s : Slot} {c : Nat} {d : D} {r' : Rho} : setS i s r ≠ .exc c d r' := by
  unfold setS
  split <;> intro z <;> cases z
/-- slot i gets s, whose value is v -/
theorem EnvOk.store {pa : Nat → Addr} {K : PySem.W.Frag} {H0 : Hp} {i : Nat} {s : Slot} {v : V} (e : EnvOk pa K F H σ r) (hi : i < r.length) (hp : ∀ l, r[i]? ≠ some (some (.p l))) (sv : SRep K F H (Ow σ r) H0 s v) :
    EnvOk pa K F H (σ.set i (some v)) (r.set i (some s)) := by
  have hi' : i < σ.length := by rw [← e.len]; exact hi
  have np : ∀ l, s ≠ .p l := fun l z => by subst z; exact sv
  have gr : ∀ {j : Nat} {t : Slot}, (r.set i (some s))[j]? = some (some t) → (i = j ∧ t = s) ∨ (i ≠ j ∧ r[j]? = some (some t)) := fun {j t} q => by
    rw [set_get hi] at q
    by_cases z : i = j
    · rw [if_pos z] at q; cases q; exact .inl ⟨z, rfl⟩
    · rw [if_neg z] at q; exact .inr ⟨z, q⟩
  have gs : ∀ {j : Nat}, i ≠ j → (σ.set i (some v))[j]? = σ[j]? := fun {j} z => by rw [set_get hi', if_neg z]
  have gi : (σ.set i (some v))[i]? = some (some v) := by rw [set_get hi', if_pos rfl]
  have own1 : ∀ {j : Nat} {l : List D}, ((r.set i (some s))[j]? = some (some (.m l)) ∨ (r.set i (some s))[j]? = some (some (.p l))) → (i = j ∧ s = .m l) ∨ (i ≠ j ∧ (r[j]? = some (some (.m l)) ∨ r[j]? = some (some (.p l)))) := fun {j l} q => by
    rcases q with q | q
    · rcases gr q with ⟨z, w⟩ | ⟨z, w⟩
      · exact .inl ⟨z, w.symm⟩
      · exact .inr ⟨z, .inl w⟩
    · rcases gr q with ⟨z, w⟩ | ⟨z, w⟩
      · exact absurd w.symm (np l)
      · exact .inr ⟨z, .inr w⟩
  refine ⟨by rw [List.length_set, List.length_set]; exact e.len, e.sub, fun j d q => ?_, fun j l q => ?_, fun j k b l1 l2 q1 q2 q3 q4 => ?_, fun j l q => ?_, fun j b q => ?_⟩
  · rcases gr q with ⟨rfl, w⟩ | ⟨z, w⟩
    · subst w; exact ⟨v, gi, sv⟩
    · obtain ⟨u, h1, h2⟩ := e.val j d w
      exact ⟨u, by rw [gs z]; exact h1, h2⟩
  · rcases own1 q with ⟨rfl, w⟩ | ⟨z, w⟩
    · subst w
      obtain ⟨b, xs, rfl, h1, h2, h3, h4, h5⟩ := sv
      exact ⟨b, xs, gi, h1, h2, h3⟩
    · obtain ⟨b, xs, h1, h2⟩ := e.own j l w
      exact ⟨b, xs, by rw [gs z]; exact h1, h2⟩
  · have cross : ∀ {j k : Nat} {l1 l2 : List D}, s = .m l1 → i ≠ k → (r[k]? = some (some (.m l2)) ∨ r[k]? = some (some (.p l2))) → (σ.set i (some v))[i]? = some (some (.ref b)) → (σ.set i (some v))[k]? = some (some (.ref b)) → False := fun {j k l1 l2} w z hk g1 g2 => by
      subst w
      obtain ⟨b', xs, rfl, h1, h2, h3, h4, h5⟩ := sv
      rw [gi] at g1; cases g1
      rw [gs z] at g2
      exact h4 ⟨k, l2, hk, g2⟩
    rcases own1 q1 with ⟨rfl, w1⟩ | ⟨z1, w1⟩
    · rcases own1 q2 with ⟨rfl, w2⟩ | ⟨z2, w2⟩
      · rfl
      · exact (cross (j := i) w1 z2 w2 q3 q4).elim
    · rcases own1 q2 with ⟨rfl, w2⟩ | ⟨z2, w2⟩
      · exact (cross (j := i) w2 z1 w1 q4 q3).elim
      · rw [gs z1] at q3
        rw [gs z2] at q4
        exact e.inj j k b l1 l2 w1 w2 q3 q4
  · rcases gr q with ⟨rfl, w⟩ | ⟨z, w⟩
    · exact absurd w.symm (np l)
    · rw [gs z]; exact e.par j l w
  · rcases gr q with ⟨rfl, w⟩ | ⟨z, w⟩
    · subst w
      rw [gi]
      exact congrArg (fun t => some (some t)) sv
    · rw [gs z]; exact e.fn j b w
theorem Ow.store {i : Nat} {s : Slot} {v : V} {H0 : Hp} {K : PySem.W.Frag} {b : Addr} (hi : i < r.length) (hl : r.length = σ.length) (sv : SRep K F H (Ow σ r) H0 s v) (w : Ow (σ.set i (some v)) (r.set i (some s)) b) : Ow σ r b ∨ H0 b = none := by
  have hi' : i < σ.length := by rw [← hl]; exact hi
  obtain ⟨j, l, q1, q2⟩ := w
  rw [set_get hi] at q1
  rw [set_get hi'] at q2
  by_cases z : i = j
  · rw [if_pos z] at q1 q2
    cases q2
    rcases q1 with q1 | q1
    · cases q1
      obtain ⟨b', xs, w, h1, h2, h3, h4, h5⟩ := sv
      cases w
      exact .inr h5
    · cases q1
      exact sv.elim
  · rw [if_neg z] at q1 q2
    exact .inl ⟨j, l, q1, q2⟩
def tName (i : Nat) (d : D) : M Unit := setS i (.v d)
theorem gd_name (i : Nat) (hN : X.N.Nodup) (hi : X.N[i]? = some x := by rfl) (hx : Loc X.env.scope x := by first | exact Or.inl rfl | exact Or.inr rfl) (hf : X.fn x = true ∨ X.env.scope.names.lookup x = some .local := by first | exact .inl rfl | exact .inr rfl) : GD X C (.Name x pos) [i] (tName i) := by
  refine ⟨gName i, pg_name hN hi hx hf, fun F H σ r v d Q e dv w => ?_⟩
  unfold tName at w
  cases q : setS i (.v d) r with
  | exc c d' r' => exact absurd q setS_exc
  | bad => rw [q] at w; exact w.elim
  | ok u r' =>
    rw [q] at w
    obtain ⟨h1, rfl, h3⟩ := setS_ok q
    have sv : SRep X.K F H (Ow σ r) H (.v d) v := dv
    exact w _ F H (e.store h1 h3 sv) ⟨fun _ _ z => z, fun _ _ z _ => z, fun _ z => z, fun _ z => .inl z, fun b z => Ow.store h1 e.len sv z⟩ ⟨List.length_set, fun k hk => by
      rw [List.getElem?_set_ne (fun z => hk (by simp [z]))]⟩

/-! ### blocks -/
variable {st : Stmt} {sts : List Stmt} {f g : M Fl}
def sNil : M Fl := ret .nx
def sSeq (f g : M Fl) : M Fl := bnd f fun fl => match fl with
  | .nx => g
  | .ret s => ret (.ret s)
  | .brk => ret .brk
  | .ct => ret .ct
theorem Ws.ret {fl : Fl} (h : Ws X C F H σ r (DL.ret fl r) E) (e : EnvOk C.pa X.K F H σ r) : Fin X.K E σ F H (Ow σ r) H fl := h σ F H e (Stp.refl _ _ _)
theorem sds_nil : SDs X C [] sNil := ⟨_, pss_nil, fun F H σ r E e h => Ws.ret h e⟩
theorem sds_cons (h1 : SD X C st f) (h2 : SDs X C sts g) : SDs X C (st :: sts) (sSeq f g) := by
  obtain ⟨t, p, s⟩ := h1
  obtain ⟨u, q, s2⟩ := h2
  refine ⟨_, pss_cons p q, fun F H σ r E e h => s F H σ r _ e ?_⟩
  unfold sSeq at h
  cases hf : f r with
  | bad => rw [bnd_bad hf] at h; exact h
  | exc c d r' => rw [bnd_exc hf] at h; exact h
  | ok fl r' =>
    rw [bnd_ok hf] at h
    intro σ' F' H' e' s'
    cases fl with
    | nx => exact s2 F' H' σ' r' E e' (h.on s')
    | brk => exact h σ' F' H' e' s'
    | ct => exact h σ' F' H' e' s'
    | ret sl => exact h σ' F' H' e' s'
theorem sds_one (h1 : SD X C st f) : SDs X C [st] f := by
  obtain ⟨t, p, s⟩ := h1
  exact ⟨t, pss_one p, s⟩
theorem sd_pass : SD X C (.Pass pos) sNil := ⟨_, ps_pass, fun F H σ r E e h => Ws.ret h e⟩
theorem sd_continue : SD X C (.Continue pos) (ret .ct) := ⟨_, ps_continue, fun F H σ r E e h => Ws.ret h e⟩
theorem sd_break : SD X C (.Break pos) (ret .brk) := ⟨_, ps_break, fun F H σ r E e h => Ws.ret h e⟩
def sDrop (fa : M D) : M Fl := bnd fa fun _ => ret .nx
theorem sd_expr (ha : EV X C a fa) (hs : swapsWith a none pos.line X.env = pure false := by rfl) : SD X C (.Expr a pos) (sDrop fa) := by
  obtain ⟨t, p, s⟩ := ha
  refine ⟨_, ps_expr p hs, fun F H σ r E e h => s F H σ r _ e (h.bnd.imp fun d r1 F1 H1 e1 s1 w v dv => ?_)⟩
  exact Ws.ret w.2.2 e1
def sRet (fs : M Slot) : M Fl := bnd fs fun s => ret (.ret s)
theorem sd_ret {fs : M Slot} (ha : ES X C a fs) : SD X C (.Return (some a) pos) (sRet fs) := by
  obtain ⟨t, p, s⟩ := ha
  refine ⟨_, ps_ret p, fun F H σ r E e h => s F H σ r _ e ?_⟩
  unfold sRet at h
  cases q : fs r with
  | bad => rw [bnd_bad q] at h; exact h
  | exc c d r' => rw [bnd_exc q] at h; exact fun F' H' cls dd e' s' x => h σ F' H' cls dd e' s' x
  | ok sl r' =>
    rw [bnd_ok q] at h
    intro F' H' e' s' v sv
    exact h σ F' H' e' s' v sv
def sRetN : M Fl := ret (.ret (.v .none))
theorem sd_retN : SD X C (.Return none pos) sRetN := ⟨_, ps_retN, fun F H σ r E e h => Ws.ret h e _ .non⟩
theorem sd_if {gc : M Bool} (hc : ET X C c gc) {as bs : List Stmt} (ha : SDs X C as f) (hb : SDs X C bs g) : SD X C (.If c as bs pos) (mIf gc f g) := by
  obtain ⟨tc, pc, sc⟩ := hc
  obtain ⟨ta, pa, sa⟩ := ha
  obtain ⟨tb, pb, sb⟩ := hb
  refine ⟨_, ps_if pc pa pb, fun F H σ r E e h => sc F H σ r _ e (h.bnd.imp fun k r1 F1 H1 e1 s1 w => ?_)⟩
  obtain ⟨_, _, w⟩ := w
  cases k with
  | true => exact sa F1 H1 σ r1 E e1 w
  | false => exact sb F1 H1 σ r1 E e1 w
/-- x = e -/
def sSet (i : Nat) (fs : M Slot) : M Fl := bnd fs fun s => bnd (setS i s) fun _ => ret .nx
theorem sSet_ok {i : Nat} {t : TE} {fs : M Slot} (s : ∀ F H σ r Q, EnvOk C.pa X.K F H σ r → Wn X C F H σ r (fs r) (fun s r' F' H' => ∀ v, SRep X.K F' H' (Ow σ r') H s v → Q v H') → t σ H Q) (e : EnvOk C.pa X.K F H σ r) (h : Ws X C F H σ r (sSet i fs r) E) : tAsg t (gName i) E σ H := by
  refine s F H σ r _ e ?_
  unfold sSet at h
  cases q : fs r with
  | bad => rw [bnd_bad q] at h; exact h
  | exc c d r' => rw [bnd_exc q] at h; exact fun F' H' cls dd e' s' x => h σ F' H' cls dd e' s' x
  | ok sl r' =>
    rw [bnd_ok q] at h
    intro F' H' e' s' v sv
    cases q2 : setS i sl r' with
    | exc c d r' => exact absurd q2 setS_exc
    | bad => rw [bnd_bad q2] at h; exact h.elim
    | ok u r2 =>
      rw [bnd_ok q2] at h
      obtain ⟨h1, rfl, h3⟩ := setS_ok q2
      refine h _ F' H' (e'.store h1 h3 sv) ⟨s'.sub, s'.keep, s'.dom, s'.new, fun b z => ?_⟩
      rcases Ow.store h1 e'.len sv z with z | z
      · exact s'.own b z
      · exact .inr z
theorem sd_set (i : Nat) {fs : M Slot} (hN : X.N.Nodup) (ha : ES X C a fs) (hi : X.N[i]? = some x := by rfl) (hx : Loc X.env.scope x := by first | exact Or.inl rfl | exact Or.inr rfl) (hs : swapsWith a (some (.Name x pos')) pos.line X.env = pure false := by rfl) (hf : X.fn x = true ∨ X.env.scope.names.lookup x = some .local := by first | exact .inl rfl | exact .inr rfl) :
    SD X C (.Assign [.Name x pos'] a pos) (sSet i fs) := by
  obtain ⟨t, p, s⟩ := ha
  exact ⟨_, ps_set hN hi hx p hs hf, fun F H σ r E e h => sSet_ok s e h⟩

/-! ### for -/
def ItD (K : PySem.W.Frag) (F : Hp) (ds : List D) (J : It) : Prop := Walk J ds.length (fun H => ∀ a o, F a = some o → H a = some o) (fun i H x H' => (H' = H ∧ ∃ d, ds[i]? = some d ∧ Dp K F x d) ∨
  ∃ p xs es, H p = none ∧ H' = upd H p (.tup xs) ∧ x = .ref p ∧ ds[i]? = some (.tuple es) ∧ DpAll K F xs es)
def EI (X : Cx) (C : DC) (tg iter : Expr) (f : M (List D)) : Prop := ∃ wi, PI X tg iter wi ∧ ∀ F H σ r R, EnvOk C.pa X.K F H σ r → Wn X C F H σ r (f r) (fun ds _ F' H' => ∀ J, ItD X.K F' ds J → R J H') → wi σ H R
def dFor (h : D → M Unit) (body : M Fl) : List D → M Fl
  | [] => ret .nx
  | d :: ds => bnd (noX (h d)) fun _ => bnd body fun fl => match fl with
    | .nx => dFor h body ds
    | .ct => dFor h body ds
    | .brk => ret .nx
    | .ret s => ret (.ret s)
def sFor (fi : M (List D)) (h : D → M Unit) (body : M Fl) : M Fl := bnd fi fun ds => dFor h body ds
/-- what a turn yields, in the frozen heap -/
theorem ItD.yld {K : PySem.W.Frag} {F0 : Hp} {ds : List D} {J : It} {i : Nat} {v : V} {H' : Hp} {pa : Nat → Addr} (w : ItD K F0 ds J) (hi : i < ds.length) (e : EnvOk pa K F H σ r) (k : ∀ a o, F0 a = some o → F a = some o) (y : J.yld i H v H') :
    ∃ F', EnvOk pa K F' H' σ r ∧ Stp F H (Ow σ r) F' H' (Ow σ r) ∧ (∀ a o, F a = some o → F' a = some o) ∧ ∃ d, ds[i]? = some d ∧ Dp K F' v d := by
  rcases w.yields i H v H' hi (fun a o q => e.sub a o (k a o q)) y with ⟨rfl, d, h1, h2⟩ | ⟨p, xs, es, h1, rfl, rfl, h2, h3⟩
  · exact ⟨F, e, Stp.refl _ _ _, fun _ _ q => q, d, h1, dp_mono k h2⟩
  · have hf := e.free h1
    exact ⟨upd F p (.tup xs), e.laid h1, Stp.laid hf h1, upd_grow hf, _, h2, .tup (SqT.of upd_same) (dps_mono (upd_grow hf) (dps_mono k h3))⟩
theorem sd_for {tg iter : Expr} {body : List Stmt} {is : List Nat} {fi : M (List D)} {h : D → M Unit} {fb : M Fl} (hi : EI X C tg iter fi) (hg : GD X C tg is h) (hb : SDs X C body fb) (hp : PassesOwn (model X.prog X.w) X.A X.env X.xe) (hc : X.calm = true := by rfl)
    (hs : ∀ x, foldedSetIterable iter X.env x = pure x := by intro _; rfl) : SD X C (.For tg iter body [] pos) (sFor fi h fb) := by
  obtain ⟨wi, pi, si⟩ := hi
  obtain ⟨tg', pg, sg⟩ := hg
  obtain ⟨tb, pb, sb⟩ := hb
  refine ⟨_, ps_for hp hc pi pg pb hs, fun F H σ r E e w => ?_⟩
  refine si F H σ r _ e (w.bnd.imp fun ds r1 F1 H1 e1 s1 w1 J it => ?_)
  obtain ⟨_, _, w1⟩ := w1
  refine for_it it (fun i σ' H' => ∃ F' r', EnvOk C.pa X.K F' H' σ' r' ∧ (∀ a o, F1 a = some o → F' a = some o) ∧ Ws X C F' H' σ' r' (dFor h fb (ds.drop i) r') E) ⟨F1, r1, e1, fun _ _ q => q, w1⟩ ?_ ?_ ?_
  · rintro i σ' H' _ ⟨F', r', e', k, _⟩ a o q
    exact e'.sub a o (k a o q)
  · rintro i v σ' H' H2 hi ⟨F', r', e', k, w'⟩ y
    have hd : ds.drop i = ds[i] :: ds.drop (i + 1) := List.drop_eq_getElem_cons hi
    rw [hd] at w'
    have hI : ∃ F2, EnvOk C.pa X.K F2 H2 σ' r' ∧ Stp F' H' (Ow σ' r') F2 H2 (Ow σ' r') ∧ (∀ a o, F' a = some o → F2 a = some o) ∧ Dp X.K F2 v ds[i] := by
      rcases y with ⟨rfl, d, h1, h2⟩ | ⟨p, xs, es, h1, rfl, rfl, h2, h3⟩
      · rw [List.getElem?_eq_getElem hi] at h1; cases h1
        exact ⟨F', e', Stp.refl _ _ _, fun _ _ q => q, dp_mono k h2⟩
      · have hf := e'.free h1
        rw [List.getElem?_eq_getElem hi] at h2
        refine ⟨upd F' p (.tup xs), e'.laid h1, Stp.laid hf h1, upd_grow hf, ?_⟩
        rw [Option.some.inj h2]
        exact .tup (SqT.of upd_same) (dps_mono (upd_grow hf) (dps_mono k h3))
    obtain ⟨F2, e2, s2, k2, dv⟩ := hI
    have w2 := w'.on s2
    refine sg F2 H2 σ' r' v _ _ e2 dv ?_
    unfold dFor at w2
    cases q : h ds[i] r' with
    | bad => rw [bnd_bad (show noX (h ds[i]) r' = .bad by unfold noX; rw [q])] at w2; exact w2
    | exc c d rr => rw [bnd_bad (show noX (h ds[i]) r' = .bad by unfold noX; rw [q])] at w2; exact w2
    | ok u r3 =>
      rw [bnd_ok (show noX (h ds[i]) r' = .ok u r3 by unfold noX; rw [q])] at w2
      intro σ3 F3 H3 e3 s3 _
      have w3 := w2.on s3
      refine sb F3 H3 σ3 r3 _ e3 ?_
      cases q2 : fb r3 with
      | bad => rw [bnd_bad q2] at w3; exact w3
      | exc c d rr => rw [bnd_exc q2] at w3; exact w3
      | ok fl r4 =>
        rw [bnd_ok q2] at w3
        intro σ4 F4 H4 e4 s4
        have k4 : ∀ a o, F1 a = some o → F4 a = some o := fun a o z => s4.sub a o (s3.sub a o (k2 a o (k a o z)))
        cases fl with
        | nx => exact ⟨F4, r4, e4, k4, w3.on s4⟩
        | ct => exact ⟨F4, r4, e4, k4, w3.on s4⟩
        | brk => exact w3 σ4 F4 H4 e4 s4
        | ret sl =>
          intro v sv
          exact w3 σ4 F4 H4 e4 s4 v sv
  · rintro σ' H' ⟨F', r', e', k, w'⟩
    rw [List.drop_length] at w'
    exact Ws.ret w' e'
end
end DL

/-! DLMore: comprehensions, iterators, owned lists changed, unpacking, isinstance, over data. -/
namespace DL
open PySem PySem.Spec PyProof.Rows L2
section
variable {X : Cx} {C : DC} {F H F1 H1 : Hp} {σ σ1 : Sg} {r r1 : Rho} {a b c e : Expr} {es : List Expr} {pos p pos' : Pos} {fa fb : M D} {x : Str} {E : Ends} {α : Type}
/-! ### readings that hang on the data alone -/
def tEV (X : Cx) (C : DC) (f : M D) : TE := fun σ H Q => ∃ F r, EnvOk C.pa X.K F H σ r ∧ Wn X C F H σ r (f r) (fun d _ F' H' => ∀ v, Dp X.K F' v d → Q v H')
theorem EV.pe {f : M D} (h : EV X C e f) : PE X e (tEV X C f) := by
  obtain ⟨t, p, s⟩ := h
  exact ⟨fun pins st σ H Q I ⟨F, r, en, w⟩ => p.run pins st σ H Q I (s F H σ r Q en w)⟩
def tET (X : Cx) (C : DC) (f : M Bool) : TT := fun σ H Q => ∃ F r, EnvOk C.pa X.K F H σ r ∧ Wn X C F H σ r (f r) (fun b _ _ H' => Q b H')
theorem ET.pt {f : M Bool} (h : ET X C e f) : PT X e (tET X C f) := by
  obtain ⟨t, p, s⟩ := h
  exact ⟨fun pins st σ H Q I ⟨F, r, en, w⟩ => p.run pins st σ H Q I (s F H σ r Q en w)⟩
def tGD (X : Cx) (C : DC) (is : List Nat) (f : D → M Unit) : TG := fun v σ H Q => ∃ F r d, EnvOk C.pa X.K F H σ r ∧ Dp X.K F v d ∧ Wt X C F H σ r (f d r) (fun σ' H' => Off is σ σ' → Q σ' H')
theorem GD.pg {is : List Nat} {f : D → M Unit} (h : GD X C e is f) : PG X e (tGD X C is f) := by
  obtain ⟨t, p, s⟩ := h
  exact ⟨fun pins st σ H v u Q I rv ⟨F, r, d, en, dv, w⟩ => p.run pins st σ H v u Q I rv (s F H σ r v d Q en dv w)⟩

/-! ### a block's own names forgotten -/
def wipeR (r : Rho) : List Nat → Rho
  | [] => r
  | v :: vs => (wipeR r vs).set v none
def okW (r : Rho) (vs : List Nat) : Bool := vs.all fun i => match r[i]? with
  | some (some (.m _)) => false
  | some (some (.p _)) => false
  | _ => true
def restR (r0 r : Rho) : List Nat → Rho
  | [] => r
  | v :: vs => (restR r0 r vs).set v (r0.getD v none)
theorem wipeR_len (r : Rho) : ∀ vs, (wipeR r vs).length = r.length
  | [] => rfl
  | v :: vs => by unfold wipeR; rw [List.length_set, wipeR_len r vs]
theorem restR_len (r0 r : Rho) : ∀ vs, (restR r0 r vs).length = r.length
  | [] => rfl
  | v :: vs => by unfold restR; rw [List.length_set, restR_len r0 r vs]
theorem wipeR_in {i : Nat} {s : Slot} : ∀ {vs : List Nat}, (wipeR r vs)[i]? = some (some s) → r[i]? = some (some s) ∧ i ∉ vs
  | [], h => ⟨h, by simp⟩
  | v :: vs, h => by
    unfold wipeR at h
    rw [List.getElem?_set] at h
    by_cases z : v = i
    · rw [if_pos z] at h; split at h <;> cases h
    · rw [if_neg z] at h
      obtain ⟨h1, h2⟩ := wipeR_in h
      exact ⟨h1, by simp only [List.mem_cons, not_or]; exact ⟨fun w => z w.symm, h2⟩⟩
theorem wipeR_out {i : Nat} : ∀ {vs : List Nat}, i ∉ vs → (wipeR r vs)[i]? = r[i]?
  | [], _ => rfl
  | v :: vs, h => by
    simp only [List.mem_cons, not_or] at h
    unfold wipeR
    rw [List.getElem?_set, if_neg (fun z => h.1 z.symm)]
    exact wipeR_out h.2
theorem wipe_off {i : Nat} : ∀ {vs : List Nat}, i ∉ vs → (wipe σ vs)[i]? = σ[i]?
  | [], _ => rfl
  | v :: vs, h => by
    simp only [List.mem_cons, not_or] at h
    unfold wipe
    rw [List.getElem?_set, if_neg (fun z => h.1 z.symm)]
    exact wipe_off h.2
theorem wipe_on {i : Nat} : ∀ {vs : List Nat}, i ∈ vs → i < σ.length → (wipe σ vs)[i]? = some none
  | v :: vs, h, hl => by
    unfold wipe
    rw [List.getElem?_set]
    by_cases z : v = i
    · rw [if_pos z, if_pos (by rw [wipe_length]; omega)]
    · rw [if_neg z]
      exact wipe_on ((List.mem_cons.mp h).resolve_left fun w => z w.symm) hl
theorem wipe_eq {vs is : List Nat} (hs : ∀ i ∈ is, i ∈ vs) (o : Off is σ σ1) : wipe σ1 vs = wipe σ vs := by
  have hl := o.1
  apply List.ext_getElem?
  intro i
  by_cases hi : i ∈ vs
  · by_cases h2 : i < σ.length
    · rw [wipe_on hi h2, wipe_on hi (by omega)]
    · rw [List.getElem?_eq_none (by rw [wipe_length]; omega), List.getElem?_eq_none (by rw [wipe_length]; omega)]
  · rw [wipe_off hi, wipe_off hi]
    exact o.2 i fun z => hi (hs i z)
theorem wipe_wipe {vs : List Nat} : wipe (wipe σ vs) vs = wipe σ vs := by
  exact wipe_eq (is := vs) (fun i h => h) ⟨wipe_length σ vs, fun k hk => wipe_off hk⟩
theorem restR_in {i : Nat} {r0 : Rho} : ∀ {vs : List Nat}, i ∈ vs → i < r.length → (restR r0 r vs)[i]? = some (r0.getD i none)
  | v :: vs, h, hl => by
    unfold restR
    rw [List.getElem?_set]
    by_cases z : v = i
    · rw [if_pos z, if_pos (by rw [restR_len]; omega), z]
    · rw [if_neg z]
      exact restR_in ((List.mem_cons.mp h).resolve_left fun w => z w.symm) hl
theorem restR_out {i : Nat} {r0 : Rho} : ∀ {vs : List Nat}, i ∉ vs → (restR r0 r vs)[i]? = r[i]?
  | [], _ => rfl
  | v :: vs, h => by
    simp only [List.mem_cons, not_or] at h
    unfold restR
    rw [List.getElem?_set, if_neg (fun z => h.1 z.symm)]
    exact restR_out h.2
theorem okW_no {vs : List Nat} (h : okW r vs = true) {i : Nat} (hi : i ∈ vs) (l : List D) : r[i]? ≠ some (some (.m l)) ∧ r[i]? ≠ some (some (.p l)) := by
  unfold okW at h
  have h1 := List.all_eq_true.mp h i hi
  constructor <;> intro z <;> rw [z] at h1 <;> cases h1
theorem EnvOk.wipe {pa : Nat → Addr} {K : PySem.W.Frag} {vs : List Nat} (e : EnvOk pa K F H σ r) : EnvOk pa K F H (L2.wipe σ vs) (wipeR r vs) := by
  have g : ∀ {i : Nat} {s : Slot}, (wipeR r vs)[i]? = some (some s) → r[i]? = some (some s) ∧ (L2.wipe σ vs)[i]? = σ[i]? := fun {i s} q => by
    obtain ⟨h1, h2⟩ := wipeR_in q
    exact ⟨h1, wipe_off h2⟩
  have go : ∀ {i : Nat} {l : List D}, ((wipeR r vs)[i]? = some (some (.m l)) ∨ (wipeR r vs)[i]? = some (some (.p l))) → (r[i]? = some (some (.m l)) ∨ r[i]? = some (some (.p l))) ∧ (L2.wipe σ vs)[i]? = σ[i]? := fun {i l} q => by
    rcases q with q | q
    · exact ⟨.inl (g q).1, (g q).2⟩
    · exact ⟨.inr (g q).1, (g q).2⟩
  refine ⟨by rw [wipeR_len, wipe_length]; exact e.len, e.sub, fun i d q => ?_, fun i l q => ?_, fun i j a l l' q1 q2 q3 q4 => ?_, fun i l q => ?_, fun i a q => ?_⟩
  · rw [(g q).2]; exact e.val i d (g q).1
  · rw [(go q).2]; exact e.own i l (go q).1
  · rw [(go q1).2] at q3
    rw [(go q2).2] at q4
    exact e.inj i j a l l' (go q1).1 (go q2).1 q3 q4
  · rw [(g q).2]; exact e.par i l (g q).1
  · rw [(g q).2]; exact e.fn i a (g q).1
theorem ow_wipe {vs : List Nat} {a : Addr} (h : Ow (wipe σ vs) (wipeR r vs) a) : Ow σ r a := by
  obtain ⟨i, l, q1, q2⟩ := h
  have hi : i ∉ vs := q1.elim (fun z => (wipeR_in z).2) fun z => (wipeR_in z).2
  rw [wipeR_out hi] at q1
  rw [wipe_off hi] at q2
  exact ⟨i, l, q1, q2⟩
theorem ow_unwipe {vs : List Nat} {a : Addr} (hk : okW r vs = true) (h : Ow σ r a) : Ow (wipe σ vs) (wipeR r vs) a := by
  obtain ⟨i, l, q1, q2⟩ := h
  have hi : i ∉ vs := fun z => q1.elim (okW_no hk z l).1 (okW_no hk z l).2
  exact ⟨i, l, by rw [wipeR_out hi]; exact q1, by rw [wipe_off hi]; exact q2⟩
/-- behind a block -/
theorem EnvOk.rest {pa : Nat → Addr} {K : PySem.W.Frag} {vs : List Nat} {r0 : Rho} (e0 : EnvOk pa K F H σ r0) (hk : okW r0 vs = true) (k : ∀ a o, F a = some o → F1 a = some o) (e : EnvOk pa K F1 H1 (L2.wipe σ vs) r) : EnvOk pa K F1 H1 σ (restR r0 r vs) := by
  have hlen : r.length = σ.length := by rw [e.len, wipe_length]
  have g : ∀ {i : Nat} {s : Slot}, (restR r0 r vs)[i]? = some (some s) → (i ∈ vs ∧ r0[i]? = some (some s)) ∨ (r[i]? = some (some s) ∧ (L2.wipe σ vs)[i]? = σ[i]? ∧ i ∉ vs) := fun {i s} q => by
    by_cases hi : i ∈ vs
    · by_cases hl : i < r.length
      · rw [restR_in hi hl] at q
        refine .inl ⟨hi, ?_⟩
        have q' := Option.some.inj q
        rw [List.getD_eq_getElem?_getD] at q'
        cases z : r0[i]? with
        | none => rw [z] at q'; cases q'
        | some o => rw [z] at q'; rw [← q']; rfl
      · rw [List.getElem?_eq_none (by rw [restR_len]; omega)] at q; cases q
    · rw [restR_out hi] at q
      exact .inr ⟨q, wipe_off hi, hi⟩
  have go : ∀ {i : Nat} {l : List D}, ((restR r0 r vs)[i]? = some (some (.m l)) ∨ (restR r0 r vs)[i]? = some (some (.p l))) → (r[i]? = some (some (.m l)) ∨ r[i]? = some (some (.p l))) ∧ (L2.wipe σ vs)[i]? = σ[i]? := fun {i l} q => by
    rcases q with q | q
    · rcases g q with ⟨h1, h2⟩ | ⟨h1, h2, _⟩
      · exact absurd h2 (okW_no hk h1 l).1
      · exact ⟨.inl h1, h2⟩
    · rcases g q with ⟨h1, h2⟩ | ⟨h1, h2, _⟩
      · exact absurd h2 (okW_no hk h1 l).2
      · exact ⟨.inr h1, h2⟩
  refine ⟨by rw [restR_len]; exact hlen, e.sub, fun i d q => ?_, fun i l q => ?_, fun i j a l l' q1 q2 q3 q4 => ?_, fun i l q => ?_, fun i a q => ?_⟩
  · rcases g q with ⟨h1, h2⟩ | ⟨h1, h2, _⟩
    · obtain ⟨v, g1, g2⟩ := e0.val i d h2
      exact ⟨v, g1, dp_mono k g2⟩
    · rw [← h2]; exact e.val i d h1
  · rw [← (go q).2]; exact e.own i l (go q).1
  · rw [← (go q1).2] at q3
    rw [← (go q2).2] at q4
    exact e.inj i j a l l' (go q1).1 (go q2).1 q3 q4
  · rcases g q with ⟨h1, h2⟩ | ⟨h1, h2, _⟩
    · exact absurd h2 (okW_no hk h1 l).2
    · rw [← h2]; exact e.par i l h1
  · rcases g q with ⟨h1, h2⟩ | ⟨h1, h2, _⟩
    · exact e0.fn i a h2
    · rw [← h2]; exact e.fn i a h1
theorem ow_rest {vs : List Nat} {r0 : Rho} {a : Addr} (hk : okW r0 vs = true) (h : Ow σ (restR r0 r vs) a) : Ow (wipe σ vs) r a := by
  obtain ⟨i, l, q1, q2⟩ := h
  by_cases hi : i ∈ vs
  · exfalso
    have key : ∀ s, (restR r0 r vs)[i]? = some (some s) → r0[i]? = some (some s) := fun s q => by
      by_cases hl : i < r.length
      · rw [restR_in hi hl] at q
        have q' := Option.some.inj q
        rw [List.getD_eq_getElem?_getD] at q'
        cases z : r0[i]? with
        | none => rw [z] at q'; cases q'
        | some o => rw [z] at q'; rw [← q']; rfl
      · rw [List.getElem?_eq_none (by rw [restR_len]; omega)] at q; cases q
    rcases q1 with q1 | q1
    · exact (okW_no hk hi l).1 (key _ q1)
    · exact (okW_no hk hi l).2 (key _ q1)
  · rw [restR_out hi] at q1
    exact ⟨i, l, q1, by rw [wipe_off hi]; exact q2⟩

/-! ### a list comprehension -/
def cLoop (vs : List Nat) (h : D → M Unit) (t : M Bool) (fe : M D) : List D → List D → M (List D)
  | [], acc => ret acc
  | d :: ds, acc => fun r => if okW r vs then bnd (noX (h d)) (fun _ => bnd (noX t) fun k => if k then bnd (noX fe) fun y => (if acc.length < sizeLine then cLoop vs h t fe ds (acc ++ [y]) else fun _ => .bad) else cLoop vs h t fe ds acc) (wipeR r vs) else .bad
def dComp (vs : List Nat) (fi : M (List D)) (h : D → M Unit) (t : M Bool) (fe : M D) : M (List D) := bnd fi fun ds => fun r => match cLoop vs h t fe ds [] r with
  | .ok acc r' => if okW r vs && okW r' vs then .ok acc (restR r r' vs) else .bad
  | _ => .bad
def sComp (vs : List Nat) (fi : M (List D)) (h : D → M Unit) (t : M Bool) (fe : M D) : M Slot := bnd (dComp vs fi h t fe) fun acc => ret (.m acc)
abbrev DC.no (C : DC) : DC := { C with W := fun _ _ _ _ => False }
/-- what a block's parts are -/
def BG (X : Cx) (C : DC) (scope : Scope) (e : Expr) (is : List Nat) (f : D → M Unit) : Prop := ∀ (s : Shared) (H : Hp) (L : Addr) (cl : List (Str × Addr)) (fp : List Addr), GD (X.blk s H scope (compEnvC scope cl L X.env) fp) C.no e is f
def BV (X : Cx) (C : DC) (scope : Scope) (e : Expr) (f : M D) : Prop := ∀ (s : Shared) (H : Hp) (L : Addr) (cl : List (Str × Addr)) (fp : List Addr), EV (X.blk s H scope (compEnvC scope cl L X.env) fp) C.no e f
def BT (X : Cx) (C : DC) (scope : Scope) (es : List Expr) (f : M Bool) : Prop := ∀ (s : Shared) (H : Hp) (L : Addr) (cl : List (Str × Addr)) (fp : List Addr), PTs (X.blk s H scope (compEnvC scope cl L X.env) fp) es (tET X C.no f)
theorem bt_nil {scope : Scope} : BT X C scope [] (ret true) := fun s H L cl fp => ⟨fun pins st σ H Q I ⟨F, r, en, w⟩ => pts_nil.run pins st σ H Q I (Wn.ret (α := Bool) w en)⟩
theorem bt_one {scope : Scope} {f : M Bool} (h : ∀ (s : Shared) (H : Hp) (L : Addr) (cl : List (Str × Addr)) (fp : List Addr), ET (X.blk s H scope (compEnvC scope cl L X.env) fp) C.no e f) : BT X C scope [e] f := fun s H L cl fp => pts_one (h s H L cl fp).pt
theorem noX_ok {f : M α} {r' : Rho} {a : α} (h : noX f r = .ok a r') : f r = .ok a r' := by
  unfold noX at h
  split at h
  · rename_i q; cases h; exact q
  · cases h
  · cases h
theorem noX_exc {f : M α} {r' : Rho} {c : Nat} {d : D} : noX f r ≠ .exc c d r' := by
  unfold noX
  intro h
  split at h <;> cases h
/-- a turn's way, seen from its outcome -/
theorem Wn.of_ok {β : Type} {f : M β} {q : β → Rho → Hp → Hp → Prop} {y : β} {r' : Rho} (h : f r = .ok y r') (w : ∀ F' H', EnvOk C.pa X.K F' H' σ r' → Stp F H (Ow σ r) F' H' (Ow σ r') → q y r' F' H') : Wn X C F H σ r (f r) q := by
  rw [h]; exact w
theorem Stp.hold {F H F' H' : Hp} {O O' : Addr → Prop} {L : Addr} {o : HO} (s : Stp F H O F' H' O') (h1 : F L = none) (h2 : H L = some o) (h3 : ¬ O L) : F' L = none ∧ H' L = some o ∧ ¬ O' L := by
  refine ⟨?_, s.keep L o h2 h3, fun z => ?_⟩
  · cases q : F' L with
    | none => rfl
    | some u =>
      rcases s.new L (ne_none_of q) with z | z | z
      · exact absurd h1 z
      · rw [h2] at z; cases z
      · exact absurd z h3
  · rcases s.own L z with z | z
    · exact h3 z
    · rw [h2] at z; cases z
theorem EnvOk.updL {pa : Nat → Addr} {K : PySem.W.Frag} {L : Addr} {o : HO} (e : EnvOk pa K F H σ r) (h1 : F L = none) (h3 : ¬ Ow σ r L) : EnvOk pa K F (upd H L o) σ r := by
  refine ⟨e.len, fun a u q => ?_, e.val, fun i l q => ?_, e.inj, e.par, e.fn⟩
  · have : a ≠ L := fun z => by rw [z, h1] at q; cases q
    rw [upd_ne this]; exact e.sub a u q
  · obtain ⟨a, xs, g1, g2, g3, g4⟩ := e.own i l q
    have : a ≠ L := fun z => h3 ⟨i, l, q, z ▸ g1⟩
    exact ⟨a, xs, g1, g2, by rw [upd_ne this]; exact g3, g4⟩
theorem cLoop_ok {vs : List Nat} {h : D → M Unit} {t : M Bool} {fe : M D} {ds acc a' : List D} {r' : Rho} (q : cLoop vs h t fe ds acc r = .ok a' r') (hk : okW r' vs = true) : okW r vs = true := by
  cases ds with
  | nil => unfold cLoop at q; cases q; exact hk
  | cons d ds =>
    unfold cLoop at q
    by_cases z : okW r vs = true
    · exact z
    · simp only [z] at q; cases q
theorem cLoop_read {vs is : List Nat} {h : D → M Unit} {t : M Bool} {fe : M D} (hs : ∀ i ∈ is, i ∈ vs) {J : It} {F1 : Hp} {ds : List D} (it : ItD X.K F1 ds J) {H1 : Hp} {L : Addr} {Qd : Hp → Prop} (e1 : EnvOk C.pa X.K F1 H1 σ r) (hL : H1 L = none) {acc : List D} {r' : Rho}
    (out : cLoop vs h t fe ds [] r = .ok acc r') (hk0 : okW r vs = true) (hk1 : okW r' vs = true)
    (fin : ∀ F' H' xs, EnvOk C.pa X.K F' H' (wipe σ vs) (wipeR r' vs) → (∀ a o, F1 a = some o → F' a = some o) → Stp F1 H1 (Ow σ r) F' H' (Ow (wipe σ vs) (wipeR r' vs)) → F' L = none → H' L = some (.lst xs) → DpAll X.K F' xs acc → ¬ Ow (wipe σ vs) (wipeR r' vs) L → Qd H') :
    ∃ W : Nat → Nat → Hp → Prop, (∃ m, W 0 m (upd H1 L (.lst []))) ∧ ∀ i m H, W i m H →
      (J.stop i H ∧ Qd H) ∨ (J.go i H ∧ ∃ Nx : Hp → Prop, (∀ H', Nx H' → ∃ m', m' < m ∧ W (i + 1) m' H') ∧ ∀ x H', J.yld i H x H' → tGD X C.no is h x (wipe σ vs) H' fun σ2 H2 => wipe σ2 vs = wipe σ vs ∧ tET X C.no t σ2 H2 fun b H3 =>
        if b = true then tEV X C.no fe σ2 H3 fun y H4 => ∃ ac, H4 L = some (.lst ac) ∧ ac.length < sizeLine ∧ Nx (upd H4 L (.lst (ac ++ [y]))) else Nx H3) := by
  refine lc_it it (fun i H' => ∃ F' r2 ac xs, EnvOk C.pa X.K F' H' (wipe σ vs) (wipeR r2 vs) ∧ okW r2 vs = true ∧ (∀ a o, F1 a = some o → F' a = some o) ∧ Stp F1 H1 (Ow σ r) F' H' (Ow (wipe σ vs) (wipeR r2 vs)) ∧ F' L = none ∧ H' L = some (.lst xs) ∧ DpAll X.K F' xs ac ∧ ¬ Ow (wipe σ vs) (wipeR r2 vs) L ∧
    cLoop vs h t fe (ds.drop i) ac r2 = .ok acc r') ?_ ?_ ?_ ?_
  · have nO : ¬ Ow (wipe σ vs) (wipeR r vs) L := fun z => not_ow_of_free e1 hL (ow_wipe z)
    refine ⟨F1, r, [], [], (e1.laidH hL).wipe, hk0, fun _ _ z => z, ?_, e1.free hL, upd_same, .nil, nO, out⟩
    have s := Stp.laidH (F := F1) (H := H1) (O := Ow σ r) (o := .lst []) hL
    exact ⟨s.sub, s.keep, s.dom, s.new, fun b z => .inl (ow_wipe z)⟩
  · rintro i H' _ ⟨F', r2, ac, xs, e2, _, k, _⟩ a o q
    exact e2.sub a o (k a o q)
  · rintro i v H' H2 hi ⟨F', r2, ac, xs, e2, hk2, k, s2, fl, hl, da, nO, go⟩ y
    have hd : ds.drop i = ds[i] :: ds.drop (i + 1) := List.drop_eq_getElem_cons hi
    rw [hd] at go
    unfold cLoop at go
    simp only [hk2, if_true] at go
    have hI : ∃ F2, EnvOk C.pa X.K F2 H2 (wipe σ vs) (wipeR r2 vs) ∧ Stp F' H' (Ow (wipe σ vs) (wipeR r2 vs)) F2 H2 (Ow (wipe σ vs) (wipeR r2 vs)) ∧ (∀ a o, F' a = some o → F2 a = some o) ∧ Dp X.K F2 v ds[i] ∧ F2 L = none ∧ H2 L = some (.lst xs) := by
      rcases y with ⟨rfl, d, h1, h2⟩ | ⟨p, zs, es, h1, rfl, rfl, h2, h3⟩
      · rw [List.getElem?_eq_getElem hi] at h1; cases h1
        exact ⟨F', e2, Stp.refl _ _ _, fun _ _ q => q, dp_mono k h2, fl, hl⟩
      · have hf := e2.free h1
        rw [List.getElem?_eq_getElem hi] at h2
        have hpL : L ≠ p := fun z => by rw [← z, hl] at h1; cases h1
        refine ⟨upd F' p (.tup zs), e2.laid h1, Stp.laid hf h1, upd_grow hf, ?_, by rw [upd_ne hpL]; exact fl, by rw [upd_ne hpL]; exact hl⟩
        rw [Option.some.inj h2]
        exact .tup (SqT.of upd_same) (dps_mono (upd_grow hf) (dps_mono k h3))
    obtain ⟨F2, e3, s3, k3, dv, fl3, hl3⟩ := hI
    refine ⟨F2, wipeR r2 vs, ds[i], e3, dv, ?_⟩
    cases q1 : noX (h ds[i]) (wipeR r2 vs) with
    | bad => rw [bnd_bad q1] at go; cases go
    | exc c d rr => exact absurd q1 noX_exc
    | ok u r3 =>
    rw [bnd_ok q1] at go
    rw [noX_ok q1]
    intro σ3 F3 H3 e4 s4 off
    have hw : wipe σ3 vs = wipe σ vs := by
      rw [← wipe_wipe (σ := σ) (vs := vs)]
      exact wipe_eq hs off
    obtain ⟨fl4, hl4, nO4⟩ := s4.hold fl3 hl3 nO
    refine ⟨hw, F3, r3, e4, ?_⟩
    cases q2 : noX t r3 with
    | bad => rw [bnd_bad q2] at go; cases go
    | exc c d rr => exact absurd q2 noX_exc
    | ok k4 r4 =>
    rw [bnd_ok q2] at go
    rw [noX_ok q2]
    intro F4 H4 e5 s5
    obtain ⟨fl5, hl5, nO5⟩ := s5.hold fl4 hl4 nO4
    have sAll := ((s2.trans s3).trans s4).trans s5
    have kAll : ∀ a o, F' a = some o → F4 a = some o := fun a o z => s5.sub a o (s4.sub a o (k3 a o z))
    cases k4 with
    | false =>
      have go' : cLoop vs h t fe (ds.drop (i + 1)) ac r4 = .ok acc r' := go
      have hk4 := cLoop_ok go' hk1
      show ∃ F' r2 ac xs, _
      refine ⟨F4, r4, ac, xs, by rw [← hw]; exact e5.wipe, hk4, fun a o z => kAll a o (k a o z), ?_, fl5, hl5, dps_mono kAll da, fun z => nO5 (ow_wipe (by rw [hw]; exact z)), go'⟩
      exact ⟨sAll.sub, sAll.keep, sAll.dom, sAll.new, fun b z => sAll.own b (ow_wipe (by rw [hw]; exact z))⟩
    | true =>
      simp only [if_true] at go ⊢
      refine ⟨F4, r4, e5, ?_⟩
      cases q3 : noX fe r4 with
      | bad => rw [bnd_bad q3] at go; cases go
      | exc c d rr => exact absurd q3 noX_exc
      | ok yv r5 =>
      rw [bnd_ok q3] at go
      rw [noX_ok q3]
      intro F5 H5 e6 s6 w dw
      obtain ⟨fl6, hl6, nO6⟩ := s6.hold fl5 hl5 nO5
      have sA := sAll.trans s6
      have kA : ∀ a o, F' a = some o → F5 a = some o := fun a o z => s6.sub a o (kAll a o z)
      split at go
      · rename_i hz
        have hk5 := cLoop_ok go hk1
        have e7 : EnvOk C.pa X.K F5 H5 (wipe σ vs) (wipeR r5 vs) := by rw [← hw]; exact e6.wipe
        have nO7 : ¬ Ow (wipe σ vs) (wipeR r5 vs) L := fun z => nO6 (ow_wipe (by rw [hw]; exact z))
        refine ⟨xs, hl6, by rw [dps_length da]; exact hz, F5, r5, ac ++ [yv], xs ++ [w], e7.updL fl6 nO7, hk5, fun a o z => kA a o (k a o z), ?_, fl6, upd_same, dps_append (dps_mono kA da) (.cons dw .nil), nO7, go⟩
        refine ⟨sA.sub, fun b o z hn => ?_, fun b z => ?_, sA.new, fun b z => sA.own b (ow_wipe (by rw [hw]; exact z))⟩
        · have : b ≠ L := fun w => by rw [w, hL] at z; cases z
          rw [upd_ne this]; exact sA.keep b o z hn
        · by_cases q : b = L
          · rw [q, upd_same]; exact fun z => nomatch z
          · rw [upd_ne q]; exact sA.dom b z
      · cases go
  · rintro H' ⟨F', r2, ac, xs, e2, hk2, k, s2, fl, hl, da, nO, go⟩
    rw [List.drop_length] at go
    unfold cLoop at go
    cases go
    exact fin F' H' xs e2 k s2 fl hl da nO
variable {scope : Scope} {tg iter elt : Expr} {ifs : List Expr} {own : List (Str × Nat)} {is : List Nat} {fi : M (List D)} {h : D → M Unit} {t : M Bool} {fe : M D}
def tLcD (X : Cx) (C : DC) (wi : TI) (is : List Nat) (h : D → M Unit) (t : M Bool) (fe : M D) (vs : List Nat) : TE := tLc wi (tGD X C.no is h) (tET X C.no t) (tEV X C.no fe) vs
theorem lc_sem {vs : List Nat} (hs : ∀ i ∈ is, i ∈ vs) {wi : TI} (si : ∀ F H σ r R, EnvOk C.pa X.K F H σ r → Wn X C F H σ r (fi r) (fun ds _ F' H' => ∀ J, ItD X.K F' ds J → R J H') → wi σ H R) {Q : VK} (e : EnvOk C.pa X.K F H σ r)
    (w : Wn X C F H σ r (sComp vs fi h t fe r) (fun s r' F' H' => ∀ v, SRep X.K F' H' (Ow σ r') H s v → Q v H')) : tLcD X C wi is h t fe vs σ H Q := by
  refine si F H σ r _ e ?_
  unfold sComp dComp at w
  cases q : fi r with
  | bad => rw [bnd_bad (bnd_bad q)] at w; exact w
  | exc c d rr => rw [bnd_exc (bnd_exc q)] at w; exact w
  | ok ds r1 =>
  intro F1 H1 e1 s1 J it L hL
  have w1 : Wn X C F H σ r (DL.bnd (fun r => match cLoop vs h t fe ds [] r with
    | .ok acc r' => if okW r vs && okW r' vs then .ok acc (restR r r' vs) else .bad
    | _ => .bad : M (List D)) (fun acc => ret (Slot.m acc)) r1) (fun s r' F' H' => ∀ v, SRep X.K F' H' (Ow σ r') H s v → Q v H') := by
    have : ∀ g : M (List D), DL.bnd (DL.bnd fi (fun ds => g)) (fun acc => ret (Slot.m acc)) r = DL.bnd g (fun acc => ret (Slot.m acc)) r1 := fun g => by
      unfold DL.bnd; rw [q]
    have h2 : DL.bnd (DL.bnd fi (fun ds => (fun r => match cLoop vs h t fe ds [] r with
    | .ok acc r' => if okW r vs && okW r' vs then .ok acc (restR r r' vs) else .bad
    | _ => .bad : M (List D)))) (fun acc => ret (Slot.m acc)) r = DL.bnd (fun r => match cLoop vs h t fe ds [] r with
    | .ok acc r' => if okW r vs && okW r' vs then .ok acc (restR r r' vs) else .bad
    | _ => .bad : M (List D)) (fun acc => ret (Slot.m acc)) r1 := by
      unfold DL.bnd; rw [q]
    rw [h2] at w; exact w
  unfold DL.bnd at w1
  dsimp only at w1
  cases q2 : cLoop vs h t fe ds [] r1 with
  | bad => rw [q2] at w1; exact w1.elim
  | exc c d rr => rw [q2] at w1; exact w1.elim
  | ok acc r' =>
  rw [q2] at w1
  simp only at w1
  by_cases hk : (okW r1 vs && okW r' vs) = true
  · simp only [hk, if_true] at w1
    rw [Bool.and_eq_true] at hk
    refine cLoop_read hs it e1 hL q2 hk.1 hk.2 fun F' H' xs e2 k s2 fl hl da nO => ?_
    have e3 : EnvOk C.pa X.K F' H' σ (restR r1 (wipeR r' vs) vs) := e1.rest hk.1 k e2
    have er : restR r1 (wipeR r' vs) vs = restR r1 r' vs := by
      apply List.ext_getElem?
      intro i
      by_cases hi : i ∈ vs
      · by_cases h2 : i < r'.length
        · rw [restR_in hi (by rw [wipeR_len]; exact h2), restR_in hi h2]
        · rw [List.getElem?_eq_none (by rw [restR_len, wipeR_len]; omega), List.getElem?_eq_none (by rw [restR_len]; omega)]
      · rw [restR_out hi, restR_out hi, wipeR_out hi]
    rw [er] at e3
    have ow : ∀ b, Ow σ (restR r1 r' vs) b → Ow (wipe σ vs) (wipeR r' vs) b := fun b z => ow_rest (r0 := r1) hk.1 (by rw [er]; exact z)
    have s3 : Stp F1 H1 (Ow σ r1) F' H' (Ow σ (restR r1 r' vs)) := ⟨s2.sub, s2.keep, s2.dom, s2.new, fun b z => s2.own b (ow b z)⟩
    refine w1 F' H' e3 (s1.trans s3) _ ⟨L, xs, rfl, fl, hl, da, fun z => nO (ow L z), ?_⟩
    cases q : H L with
    | none => rfl
    | some u => exact absurd hL (s1.dom L (ne_none_of q))
  · simp only [hk] at w1
    exact w1.elim
theorem es_lc (hi : EI X C tg iter fi) (hg : BG X C scope tg is h) (ht : BT X C scope ifs t) (he : BV X C scope elt fe) (hN : X.N.Nodup) (ok : BlkOk X.N X.env.scope scope own) (hs : ∀ i ∈ is, i ∈ own.map (·.2) := by decide) (hc : X.calm = true := by rfl) (hf : ∀ x, foldedSetIterable iter X.env x = pure x := by intro _; rfl) :
    ES X C (.ListComp elt [⟨tg, iter, ifs, 0⟩] scope pos) (sComp (own.map (·.2)) fi h t fe) := by
  obtain ⟨wi, pi, si⟩ := hi
  exact ⟨_, pe_lc hc hN pi ok (fun s H L cl fp => (hg s H L cl fp).pg) ht (fun s H L cl fp => (he s H L cl fp).pe) hf, fun F H σ r Q e w => lc_sem hs si e w⟩
theorem sd_setLc (i : Nat) {spos py : Pos} {y : Str} (hi : EI X C tg iter fi) (hg : BG X C scope tg is h) (ht : BT X C scope ifs t) (he : BV X C scope elt fe) (hN : X.N.Nodup) (ok : BlkOk X.N X.env.scope scope own) (hs : ∀ i ∈ is, i ∈ own.map (·.2) := by decide) (hy : X.N[i]? = some y := by rfl) (hyl : X.env.scope.names.lookup y = some .local := by rfl)
    (hsw : swapsWith (.ListComp elt [⟨tg, iter, ifs, 0⟩] scope pos) (some (.Name y py)) spos.line X.env = pure true) (hc : X.calm = true := by rfl) (hf : ∀ x, foldedSetIterable iter X.env x = pure x := by intro _; rfl) :
    SD X C (.Assign [.Name y py] (.ListComp elt [⟨tg, iter, ifs, 0⟩] scope pos) spos) (sSet i (sComp (own.map (·.2)) fi h t fe)) := by
  obtain ⟨wi, pi, si⟩ := hi
  exact ⟨_, ps_setLc hc hN hy hyl hsw pi ok (fun s H L cl fp => (hg s H L cl fp).pg) ht (fun s H L cl fp => (he s H L cl fp).pe) hf, fun F H σ r E e w => sSet_ok (fun F H σ r Q e w => lc_sem hs si e w) e w⟩
end
end DL

/-! DLIter: what loops walk, owned lists read and changed, unpacking, isinstance, or by truth, new lists. -/
namespace DL
open PySem PySem.Spec PyProof.Rows L2
section
variable {X : Cx} {C : DC} {F H F1 H1 : Hp} {σ σ1 : Sg} {r r1 : Rho} {a b c e : Expr} {es : List Expr} {pos p pos' : Pos} {fa fb : M D} {x : Str} {E : Ends} {α : Type}
/-! ### iterators -/
theorem itd_list {K : PySem.W.Frag} {q : Addr} {xs : List V} {ds : List D} (h : SqL K F q xs) (hd : DpAll K F xs ds) : ItD K F ds (Itl K q) := by
  unfold ItD
  rw [← dps_length hd]
  refine walk_list.mono (fun H s => sqL_mono s h) fun i H x H' hi s y => ?_
  obtain ⟨d, e1, e2⟩ := dps_get' hd y.2
  exact .inl ⟨y.1, d, e1, e2⟩
theorem itd_tup {K : PySem.W.Frag} {q : Addr} {xs : List V} {ds : List D} (h : SqT K F q xs) (hd : DpAll K F xs ds) : ItD K F ds (Itt K q) := by
  unfold ItD
  rw [← dps_length hd]
  refine walk_tup.mono (fun H s => sqT_mono s h) fun i H x H' hi s y => ?_
  obtain ⟨d, e1, e2⟩ := dps_get' hd y.2
  exact .inl ⟨y.1, d, e1, e2⟩
theorem itd_str {K : PySem.W.Frag} {z : Str} : ItD K F (z.cps.toList.map fun c => .str ⟨#[c]⟩) (Its z) := by
  unfold ItD
  rw [List.length_map, Array.length_toList]
  refine walk_str.mono (fun H s => True.intro) fun i H x H' hi s y => ?_
  obtain ⟨e0, c, e1, e2⟩ := y
  refine .inl ⟨e0, .str ⟨#[c]⟩, ?_, by rw [e2]; exact .str _⟩
  rw [List.getElem?_map, Array.getElem?_toList, e1]; rfl
theorem itd_range {K : PySem.W.Frag} {lo : Int} {n : Nat} : ItD K F ((List.range n).map fun i => .int (lo + (i : Nat))) (Itr lo n) := by
  unfold ItD
  rw [List.length_map, List.length_range]
  refine walk_range.mono (fun H s => True.intro) fun i H x H' hi s y => ?_
  obtain ⟨e0, e2⟩ := y
  refine .inl ⟨e0, .int (lo + (i : Nat)), ?_, by rw [e2]; exact .int _⟩
  rw [List.getElem?_map, List.getElem?_range hi]; rfl
theorem itd_enum {K : PySem.W.Frag} {q : Addr} {xs : List V} {ds : List D} (h : SqL K F q xs) (hd : DpAll K F xs ds) : ItD K F (ds.mapIdx fun i d => .tuple [.int i, d]) (Ite K q) := by
  unfold ItD
  rw [List.length_mapIdx, ← dps_length hd]
  refine walk_enum.mono (fun H s => sqL_mono s h) fun i H x H' hi s y => ?_
  obtain ⟨T, x1, x2, e1, e2, e3, e4, e5⟩ := y
  cases e4
  obtain ⟨d, g1, g2⟩ := dps_get' hd e5
  refine .inr ⟨T, _, _, e2, e3, e1, ?_, .cons (.int _) (.cons g2 .nil)⟩
  rw [List.getElem?_mapIdx, g1]; rfl
def zipD (ds es : List D) : List D := (ds.zip es).map fun p => .tuple [p.1, p.2]
theorem zipD_len (ds es : List D) : (zipD ds es).length = min ds.length es.length := by unfold zipD; rw [List.length_map, List.length_zip]
theorem zipD_get {ds es : List D} {i : Nat} {d e : D} (h1 : ds[i]? = some d) (h2 : es[i]? = some e) : (zipD ds es)[i]? = some (.tuple [d, e]) := by
  unfold zipD
  rw [List.getElem?_map, (List.getElem?_zip_eq_some (z := (d, e))).mpr ⟨h1, h2⟩]; rfl
theorem itd_zipL {K : PySem.W.Frag} {q q2 : Addr} {xs ys : List V} {ds es : List D} (h : SqL K F q xs) (hd : DpAll K F xs ds) (h2 : SqL K F q2 ys) (hd2 : DpAll K F ys es) : ItD K F (zipD ds es) (Itz K q q2) := by
  unfold ItD
  rw [zipD_len, ← dps_length hd, ← dps_length hd2]
  refine (walk_zip (xs := xs) (ys := ys) rfl).mono (fun H s => ⟨sqL_mono s h, sqL_mono s h2⟩) fun i H x H' hi s y => ?_
  obtain ⟨T, x1, x2, e1, e2, e3, e4, e5⟩ := y
  obtain ⟨d, g1, g2⟩ := dps_get' hd e4
  obtain ⟨d', g3, g4⟩ := dps_get' hd2 e5
  exact .inr ⟨T, _, _, e2, e3, e1, zipD_get g1 g3, .cons g2 (.cons g4 .nil)⟩
theorem itd_zipT {K : PySem.W.Frag} {q q2 : Addr} {xs ys : List V} {ds es : List D} (h : SqT K F q xs) (hd : DpAll K F xs ds) (h2 : SqT K F q2 ys) (hd2 : DpAll K F ys es) : ItD K F (zipD ds es) (RZ.ItzT K q q2) := by
  unfold ItD
  rw [zipD_len, ← dps_length hd, ← dps_length hd2]
  refine ⟨fun i H hi s => ?_, fun H s => ⟨xs, ys, sqT_mono s h, sqT_mono s h2, by omega⟩, fun i H x H' hi s y => ?_⟩
  · have a1 : i < xs.length := by omega
    have a2 : i < ys.length := by omega
    exact ⟨xs, ys, xs[i], ys[i], sqT_mono s h, sqT_mono s h2, by simp [a1], by simp [a2]⟩
  · obtain ⟨T, x1, x2, e1, e2, e3, e4, e5⟩ := y
    obtain ⟨d, g1, g2⟩ := dps_get' hd (e4 xs (sqT_mono s h))
    obtain ⟨d', g3, g4⟩ := dps_get' hd2 (e5 ys (sqT_mono s h2))
    exact .inr ⟨T, _, _, e2, e3, e1, zipD_get g1 g3, .cons g2 (.cons g4 .nil)⟩
variable {tg : Expr}
def iL (fa : M D) : M (List D) := bnd fa fun d => match d with
  | .list ds => ret ds
  | _ => fun _ => .bad
def iT (fa : M D) : M (List D) := bnd fa fun d => match d with
  | .tuple ds => ret ds
  | _ => fun _ => .bad
def iS (fa : M D) : M (List D) := bnd fa fun d => match d with
  | .str z => ret (z.cps.toList.map fun c => .str ⟨#[c]⟩)
  | _ => fun _ => .bad
theorem ei_list (ha : EV X C a fa) : EI X C tg a (iL fa) := by
  obtain ⟨ta, pa, sa⟩ := ha
  refine ⟨_, pi_list pa, fun F H σ r R e h => sa F H σ r _ e (h.bnd.imp fun d r1 F1 H1 e1 s1 w v dv => ?_)⟩
  obtain ⟨_, _, w⟩ := w
  cases d with
  | list ds =>
    cases dv with
    | lst h1 h2 => exact ⟨_, rfl, ⟨_, sqL_mono e1.sub h1⟩, Wn.ret (α := List D) w e1 _ (itd_list h1 h2)⟩
  | _ => exact w.elim
theorem ei_tup (ha : EV X C a fa) : EI X C tg a (iT fa) := by
  obtain ⟨ta, pa, sa⟩ := ha
  refine ⟨_, pi_tup pa, fun F H σ r R e h => sa F H σ r _ e (h.bnd.imp fun d r1 F1 H1 e1 s1 w v dv => ?_)⟩
  obtain ⟨_, _, w⟩ := w
  cases d with
  | tuple ds =>
    cases dv with
    | tup h1 h2 => exact ⟨_, rfl, ⟨_, sqT_mono e1.sub h1⟩, Wn.ret (α := List D) w e1 _ (itd_tup h1 h2)⟩
  | _ => exact w.elim
theorem ei_str (ha : EV X C a fa) : EI X C tg a (iS fa) := by
  obtain ⟨ta, pa, sa⟩ := ha
  refine ⟨_, pi_str pa, fun F H σ r R e h => sa F H σ r _ e (h.bnd.imp fun d r1 F1 H1 e1 s1 w v dv => ?_)⟩
  obtain ⟨_, _, w⟩ := w
  cases d with
  | str z =>
    cases dv
    exact ⟨_, rfl, Wn.ret (α := List D) w e1 _ itd_str⟩
  | _ => exact w.elim
/-- a list or a tuple or a text, whichever comes -/
def iAny (fa : M D) : M (List D) := bnd fa fun d => match d with
  | .list ds => ret ds
  | .tuple ds => ret ds
  | .str z => ret (z.cps.toList.map fun c => .str ⟨#[c]⟩)
  | _ => fun _ => .bad
/-- what is walked hangs on the value -/
theorem ei_any (ha : EV X C a fa) : EI X C tg a (iAny fa) := by
  obtain ⟨ta, pa, sa⟩ := ha
  refine ⟨fun σ H R => iList X.K (tEV X C fa) σ H R ∨ iTup X.K (tEV X C fa) σ H R ∨ iStr (tEV X C fa) σ H R, ?_, fun F H σ r R e h => ?_⟩
  · have pe : PE X a (tEV X C fa) := EV.pe ⟨ta, pa, sa⟩
    exact ⟨fun pins s σ H R I h => by
      rcases h with h | h | h
      · exact (pi_list pe).run pins s σ H R I h
      · exact (pi_tup pe).run pins s σ H R I h
      · exact (pi_str pe).run pins s σ H R I h⟩
  · unfold iAny at h
    cases q : fa r with
    | bad => rw [bnd_bad q] at h; exact h.elim
    | exc c d r' =>
      rw [bnd_exc q] at h
      exact .inl ⟨F, r, e, by rw [q]; exact h⟩
    | ok d r' =>
      rw [bnd_ok q] at h
      cases d with
      | list ds =>
        refine .inl ⟨F, r, e, by
          rw [q]
          intro F1 H1 e1 s1 v dv
          cases dv with
          | lst h1 h2 => exact ⟨_, rfl, ⟨_, sqL_mono e1.sub h1⟩, h F1 H1 e1 s1 _ (itd_list h1 h2)⟩⟩
      | tuple ds =>
        refine .inr (.inl ⟨F, r, e, by
          rw [q]
          intro F1 H1 e1 s1 v dv
          cases dv with
          | tup h1 h2 => exact ⟨_, rfl, ⟨_, sqT_mono e1.sub h1⟩, h F1 H1 e1 s1 _ (itd_tup h1 h2)⟩⟩)
      | str z =>
        refine .inr (.inr ⟨F, r, e, by
          rw [q]
          intro F1 H1 e1 s1 v dv
          cases dv
          exact ⟨_, rfl, h F1 H1 e1 s1 _ itd_str⟩⟩)
      | _ => exact h.elim
def iRange1 (fa : M D) : M (List D) := bnd fa fun d => match d with
  | .int j => if -(2 ^ 62) ≤ j ∧ j < 2 ^ 62 then ret ((List.range j.toNat).map fun i => .int (0 + (i : Nat))) else fun _ => .bad
  | _ => fun _ => .bad
theorem ei_range1 (ha : EV X C a fa) (hm : X.mg "range" = none) (hg : Gl X "range" := by rfl) (hs : starEach [a] X.env = [(false, eval a X.env)] := by rfl) : EI X C tg (.Call (.Name "range" p) [a] [] pos) (iRange1 fa) := by
  obtain ⟨ta, pa, sa⟩ := ha
  refine ⟨_, pi_range1 hg hm (pa_cons pa pa_nil hs) hs, fun F H σ r R e h => sa F H σ r _ e (h.bnd.imp fun d r1 F1 H1 e1 s1 w v dv => ?_)⟩
  obtain ⟨_, _, w⟩ := w
  cases d with
  | int j =>
    cases dv
    simp only at w
    split at w
    · rename_i hj
      exact ⟨j, rfl, hj.1, hj.2, Wn.ret (α := List D) w e1 _ itd_range⟩
    · exact w.elim
  | _ => exact w.elim
def iZip (fa fb : M D) : M (List D) := bnd fa fun d => bnd fb fun e => match d, e with
  | .list ds, .list es => ret (zipD ds es)
  | .tuple ds, .tuple es => ret (zipD ds es)
  | _, _ => fun _ => .bad
theorem ei_zip {elts : List Expr} {kk : Nat} {tpos : Pos} (ha : EV X C a fa) (hb : EV X C b fb) (hm : X.mg "zip" = none) (hg : Gl X "zip" := by rfl) (hs : starEach [a, b] X.env = [(false, eval a X.env), (false, eval b X.env)] := by rfl) (hs2 : starEach [b] X.env = [(false, eval b X.env)] := by rfl) :
    EI X C (.Tuple elts kk tpos) (.Call (.Name "zip" p) [a, b] [] pos) (iZip fa fb) := by
  obtain ⟨ta, pa, sa⟩ := ha
  obtain ⟨tb, pb, sb⟩ := hb
  refine ⟨_, RZ.pi_zipA (hs := by rw [hs, hs2]) (hpl := by rw [hs2]; rfl) hg hm (pa_cons pa (pa_cons pb pa_nil hs2) (by rw [hs, hs2])), fun F H σ r R e h => sa F H σ r _ e (h.bnd.imp fun d r1 F1 H1 e1 s1 w v dv => ?_)⟩
  obtain ⟨_, _, w⟩ := w
  refine sb F1 H1 σ r1 _ e1 (w.bnd.imp fun d2 r2 F2 H2 e2 s2 w2 u du => ?_)
  obtain ⟨_, _, w2⟩ := w2
  have dv2 := dp_mono s2.sub dv
  cases d with
  | list ds =>
    cases d2 with
    | list es =>
      cases dv2 with
      | lst h1 h2 =>
        cases du with
        | lst g1 g2 => exact ⟨_, _, _, _, rfl, .inl ⟨sqL_mono e2.sub h1, sqL_mono e2.sub g1, Wn.ret (α := List D) w2 e2 _ (itd_zipL h1 h2 g1 g2)⟩⟩
    | _ => exact w2.elim
  | tuple ds =>
    cases d2 with
    | tuple es =>
      cases dv2 with
      | tup h1 h2 =>
        cases du with
        | tup g1 g2 => exact ⟨_, _, _, _, rfl, .inr ⟨sqT_mono e2.sub h1, sqT_mono e2.sub g1, Wn.ret (α := List D) w2 e2 _ (itd_zipT h1 h2 g1 g2)⟩⟩
    | _ => exact w2.elim
  | _ => exact w2.elim
def iEnumD (fa : M D) : M (List D) := bnd fa fun d => match d with
  | .list ds => ret (ds.mapIdx fun i d => .tuple [.int i, d])
  | _ => fun _ => .bad
theorem ei_enum {elts : List Expr} {kk : Nat} {tpos : Pos} (ha : EV X C a fa) (hm : X.mg "enumerate" = none) (hg : Gl X "enumerate" := by rfl) (hs : starEach [a] X.env = [(false, eval a X.env)] := by rfl) : EI X C (.Tuple elts kk tpos) (.Call (.Name "enumerate" p) [a] [] pos) (iEnumD fa) := by
  obtain ⟨ta, pa, sa⟩ := ha
  refine ⟨_, pi_enum hg hm (pa_cons pa pa_nil hs) hs, fun F H σ r R e h => sa F H σ r _ e (h.bnd.imp fun d r1 F1 H1 e1 s1 w v dv => ?_)⟩
  obtain ⟨_, _, w⟩ := w
  cases d with
  | list ds =>
    cases dv with
    | lst h1 h2 => exact ⟨_, _, rfl, sqL_mono e1.sub h1, Wn.ret (α := List D) w e1 _ (itd_enum h1 h2)⟩
  | _ => exact w.elim

/-! ### targets: (a, b, ..) = a tuple, a list -/
def GDs (X : Cx) (C : DC) (ts : List Expr) (is : List Nat) (f : List D → M Unit) : Prop := ∃ g, PGs X ts g ∧ ∀ F H σ r vs ds Q, EnvOk C.pa X.K F H σ r → DpAll X.K F vs ds → Wt X C F H σ r (f ds r) (fun σ' H' => Off is σ σ' → Q σ' H') → g vs σ H Q
def tsNil : List D → M Unit
  | [] => ret ()
  | _ => fun _ => .bad
def tsCons (h : D → M Unit) (hs : List D → M Unit) : List D → M Unit
  | d :: ds => bnd (noX (h d)) fun _ => hs ds
  | [] => fun _ => .bad
theorem gds_nil {is : List Nat} : GDs X C [] is tsNil := by
  refine ⟨_, pgs_nil, fun F H σ r vs ds Q e dv w => ?_⟩
  cases ds with
  | nil =>
    cases dv
    exact ⟨rfl, w σ F H e (Stp.refl _ _ _) ⟨rfl, fun _ _ => rfl⟩⟩
  | cons d ds => exact w.elim
variable {is : List Nat} {h : D → M Unit} {hs : List D → M Unit} {ts : List Expr}
theorem Wt.on {F1 H1 : Hp} {σ1 : Sg} {r1 : Rho} {o : Res Unit} {Q : Sg → Hp → Prop} (h : Wt X C F H σ r o Q) (s : Stp F H (Ow σ r) F1 H1 (Ow σ1 r1)) : Wt X C F1 H1 σ1 r1 o Q := by
  cases o with
  | ok u r' => exact fun σ' F' H' e s' => h σ' F' H' e (s.trans s')
  | exc c d r' => exact h
  | bad => exact h
theorem gds_cons {js : List Nat} (hg : GD X C a js h) (hgs : GDs X C ts is hs) (hj : ∀ j ∈ js, j ∈ is := by decide) (he : (assignEach (a :: ts) X.env).map (·.2) = assign a X.env :: (assignEach ts X.env).map (·.2) := by rfl) : GDs X C (a :: ts) is (tsCons h hs) := by
  obtain ⟨g, pg, sg⟩ := hg
  obtain ⟨gs, pgs, sgs⟩ := hgs
  refine ⟨_, pgs_cons pg pgs he, fun F H σ r vs ds Q e dv w => ?_⟩
  cases ds with
  | nil => exact w.elim
  | cons d ds =>
    cases dv with
    | cons d1 d2 =>
      refine ⟨_, _, rfl, sg F H σ r _ d _ e d1 ?_⟩
      change Wt X C F H σ r (bnd (noX (h d)) (fun _ => hs ds) r) _ at w
      cases q : h d r with
      | bad => rw [bnd_bad (show noX (h d) r = .bad by unfold noX; rw [q])] at w; exact w
      | exc c dd rr => rw [bnd_bad (show noX (h d) r = .bad by unfold noX; rw [q])] at w; exact w.elim
      | ok u r1 =>
        rw [bnd_ok (show noX (h d) r = .ok u r1 by unfold noX; rw [q])] at w
        intro σ1 F1 H1 e1 s1 o1
        refine sgs F1 H1 σ1 r1 _ ds _ e1 (dps_mono s1.sub d2) ?_
        have w' := w.on s1
        cases q2 : hs ds r1 with
        | bad => rw [q2] at w'; exact w'
        | exc c dd rr => rw [q2] at w'; exact w'
        | ok u2 r2 =>
          rw [q2] at w'
          intro σ2 F2 H2 e2 s2 o2
          refine w' σ2 F2 H2 e2 s2 ⟨o2.1.trans o1.1, fun k hk => (o2.2 k hk).trans (o1.2 k fun z => hk (hj k z))⟩
def tTupD (hs : List D → M Unit) : D → M Unit
  | .tuple ds => hs ds
  | _ => fun _ => .bad
def tLstD (hs : List D → M Unit) : D → M Unit
  | .list ds => hs ds
  | _ => fun _ => .bad
theorem hs_len {n : Nat} {hs : List D → M Unit} (h : ∀ ds r u r', hs ds r = .ok u r' → ds.length = n) {ds : List D} {Q : Sg → Hp → Prop} (w : Wt X C F H σ r (hs ds r) Q) : ds.length = n := by
  cases q : hs ds r with
  | ok u r' => exact h _ _ _ _ q
  | exc c d r' => rw [q] at w; exact w.elim
  | bad => rw [q] at w; exact w.elim
theorem tsNil_len : ∀ (ds : List D) (r : Rho) (u : Unit) (r' : Rho), tsNil ds r = .ok u r' → ds.length = 0
  | [], _, _, _, _ => rfl
  | _ :: _, _, _, _, h => nomatch h
theorem tsCons_len {n : Nat} (hl : ∀ ds r u r', hs ds r = .ok u r' → ds.length = n) : ∀ (ds : List D) (r : Rho) (u : Unit) (r' : Rho), tsCons h hs ds r = .ok u r' → ds.length = n + 1
  | [], _, _, _, q => nomatch q
  | d :: ds, r, u, r', q => by
    change bnd (noX (h d)) (fun _ => hs ds) r = .ok u r' at q
    cases z : noX (h d) r with
    | bad => rw [bnd_bad z] at q; cases q
    | exc c dd rr => rw [bnd_exc z] at q; cases q
    | ok u1 r1 =>
      rw [bnd_ok z] at q
      rw [List.length_cons, hl _ _ _ _ q]
theorem gd_tup {k n : Nat} (hg : GDs X C ts is hs) (hl : ∀ ds r u r', hs ds r = .ok u r' → ds.length = n) (hc : X.calm = true := by rfl) (hn : (assignEach ts X.env).length = n := by rfl) (hst : (assignEach ts X.env).findIdx? (·.1) = none := by rfl) : GD X C (.Tuple ts k pos) is (tTupD hs) := by
  obtain ⟨g, pg, sg⟩ := hg
  refine ⟨_, pg_tup hc pg hn hst, fun F H σ r v d Q e dv w => ?_⟩
  cases d with
  | tuple ds =>
    cases dv with
    | tup h1 h2 => exact ⟨_, _, rfl, sqT_mono e.sub h1, by rw [dps_length h2]; exact hs_len hl w, sg F H σ r _ ds Q e h2 w⟩
  | _ => exact w.elim
theorem gd_unl {k n : Nat} (hg : GDs X C ts is hs) (hl : ∀ ds r u r', hs ds r = .ok u r' → ds.length = n) (hc : X.calm = true := by rfl) (hn : (assignEach ts X.env).length = n := by rfl) (hst : (assignEach ts X.env).findIdx? (·.1) = none := by rfl) : GD X C (.Tuple ts k pos) is (tLstD hs) := by
  obtain ⟨g, pg, sg⟩ := hg
  refine ⟨_, pg_unl hc pg hn hst, fun F H σ r v d Q e dv w => ?_⟩
  cases d with
  | list ds =>
    cases dv with
    | lst h1 h2 => exact ⟨_, _, rfl, sqL_mono e.sub h1, by rw [dps_length h2]; exact hs_len hl w, sg F H σ r _ ds Q e h2 w⟩
  | _ => exact w.elim
/-- target = e, the value frozen -/
def sAsg (fa : M D) (h : D → M Unit) : M Fl := bnd fa fun d => bnd (noX (h d)) fun _ => ret .nx
theorem sd_asg (ha : EV X C a fa) (hg : GD X C tg is h) (hs : swapsWithSole [tg] a pos.line X.env = pure false := by rfl) (hw : swappedStores [tg] a X.env = pure none := by rfl)
    (h1 : (assignEach [tg] X.env).map (·.2) = [assign tg X.env] := by rfl) : SD X C (.Assign [tg] a pos) (sAsg fa h) := by
  obtain ⟨ta, pa, sa⟩ := ha
  obtain ⟨g, pg, sg⟩ := hg
  refine ⟨_, ps_asg pa pg hs hw h1, fun F H σ r E e w => sa F H σ r _ e (w.bnd.imp fun d r1 F1 H1 e1 s1 w v dv => ?_)⟩
  obtain ⟨_, _, w⟩ := w
  refine sg F1 H1 σ r1 v d _ e1 dv ?_
  cases q : h d r1 with
  | bad => rw [bnd_bad (show noX (h d) r1 = .bad by unfold noX; rw [q])] at w; exact w
  | exc c dd rr => rw [bnd_bad (show noX (h d) r1 = .bad by unfold noX; rw [q])] at w; exact w.elim
  | ok u r2 =>
    rw [bnd_ok (show noX (h d) r1 = .ok u r2 by unfold noX; rw [q])] at w
    exact fun σ2 F2 H2 e2 s2 _ => Ws.ret (w.on s2) e2
end
end DL

/-! DLOwn: owned lists read and changed, pairs of stores, isinstance, or by truth, new lists, the body of a def. -/
namespace DL
open PySem PySem.Spec PyProof.Rows L2
section
variable {X : Cx} {C : DC} {F H F1 H1 F2 H2 : Hp} {σ σ1 : Sg} {r r1 : Rho} {a b c e : Expr} {es : List Expr} {pos p pos' apos : Pos} {fa fb : M D} {fs gs : M Slot} {x : Str} {E : Ends} {α : Type}
def listAt (r : Rho) (i : Nat) : Option D := match r[i]? with
  | some (some (.v d)) => some d
  | some (some (.m l)) => some (.list l)
  | some (some (.p l)) => some (.list l)
  | _ => none
/-- slot i's data, in the heap as it stands -/
theorem EnvOk.at {pa : Nat → Addr} {K : PySem.W.Frag} {i : Nat} {d : D} (e : EnvOk pa K F H σ r) (h : listAt r i = some d) : ∃ v, σ[i]? = some (some v) ∧ Dp K H v d ∧
    ((Dp K F v d) ∨ ∃ l q xs, d = .list l ∧ v = .ref q ∧ H q = some (.lst xs) ∧ DpAll K F xs l) := by
  unfold listAt at h
  split at h
  · rename_i d' q
    cases h
    obtain ⟨v, e1, e2⟩ := e.val i _ q
    exact ⟨v, e1, dp_mono e.sub e2, .inl e2⟩
  · rename_i l q
    cases h
    obtain ⟨q', xs, e1, e2, e3, e4⟩ := e.own i _ (.inl q)
    exact ⟨_, e1, .lst (SqL.of e3) (dps_mono e.sub e4), .inr ⟨l, q', xs, rfl, rfl, e3, e4⟩⟩
  · rename_i l q
    cases h
    obtain ⟨q', xs, e1, e2, e3, e4⟩ := e.own i _ (.inr q)
    exact ⟨_, e1, .lst (SqL.of e3) (dps_mono e.sub e4), .inr ⟨l, q', xs, rfl, rfl, e3, e4⟩⟩
  · cases h
def dHas (i : Nat) : M Unit := fun r => match listAt r i with
  | some _ => .ok () r
  | none => .bad
theorem dHas_ok {i : Nat} {k : Unit → M α} {q : α → Rho → Hp → Hp → Prop} (e : EnvOk C.pa X.K F H σ r) (w : Wn X C F H σ r (bnd (dHas i) k r) q) : ∃ d, listAt r i = some d ∧ Wn X C F H σ r (k () r) q := by
  cases z : listAt r i with
  | none => rw [bnd_bad (show dHas i r = .bad by unfold dHas; rw [z])] at w; exact w.elim
  | some d =>
    rw [bnd_ok (show dHas i r = .ok () r by unfold dHas; rw [z])] at w
    exact ⟨d, rfl, w⟩
/-- x[e], x a list of one's own or not -/
def dIxO (i : Nat) (fb : M D) : M D := bnd (dHas i) fun _ => bnd fb fun y => fun r => lif ((listAt r i).bind fun d => gIx d y) r
theorem ev_ixO (i : Nat) (hb : EV X C b fb) (hN : X.N[i]? = some x := by rfl) (hv : Vis X.env.scope x := by first | exact Or.inl rfl | exact Or.inr (Or.inl rfl) | exact Or.inr (Or.inr rfl)) (hs : PlainIx b := by intro _ _; rfl) (hd : (x == ("__debug__" : Str)) = false := by decide)
    (hcd : (x == ("__classdict__" : Str)) = false := by decide) : EV X C (.Subscript (.Name x p) b pos) (dIxO i fb) := by
  obtain ⟨tb, pb, sb⟩ := hb
  refine ⟨_, pe_ix ix_seq (pe_var hN hv hd hcd) pb hs, fun F H σ r Q e h => ?_⟩
  obtain ⟨d0, h0, h⟩ := dHas_ok e h
  obtain ⟨v, ev, _⟩ := e.at h0
  refine ⟨v, ev, sb F H σ r _ e (h.bnd.imp fun y r1 F1 H1 e1 s1 w u du => ?_)⟩
  obtain ⟨_, _, w⟩ := w
  obtain ⟨cc, ec, fin⟩ := Wn.lifGrw w e1
  obtain ⟨d, hd1, hd2⟩ := Option.bind_eq_some_iff.mp ec
  obtain ⟨v', ev', _, h3⟩ := e1.at hd1
  rw [ev] at ev'; cases ev'
  rcases h3 with h3 | ⟨l, a1, xs, rfl, rfl, h4, h5⟩
  · exact ixd_sem F1 H1 _ _ _ _ _ Q e1.sub h3 du hd2 fin
  · unfold gIx at hd2
    split at hd2
    · rename_i z; cases z
      cases du
      obtain ⟨w, g1, g2⟩ := atI_dps h5 hd2
      exact .inl ⟨_, _, _, _, rfl, rfl, SqL.of h4, g1, fin _ F1 H1 (Grw.refl e1.sub) g2⟩
    · rename_i z; cases z
    · rename_i z; cases z
    · cases hd2
/-- len(x) -/
def dLenO (i : Nat) : M D := fun r => lif ((listAt r i).bind fun d => cLen [d]) r
theorem ev_lenO (i : Nat) (hm : X.mg "len" = none) (hg : Gl X "len" := by rfl) (hN : X.N[i]? = some x := by rfl) (hv : Vis X.env.scope x := by first | exact Or.inl rfl | exact Or.inr (Or.inl rfl) | exact Or.inr (Or.inr rfl)) (hd : (x == ("__debug__" : Str)) = false := by decide)
    (hcd : (x == ("__classdict__" : Str)) = false := by decide) (he : starEach [.Name x p] X.env = (false, eval (.Name x p) X.env) :: starEach [] X.env := by rfl) (hpl : (backTo pos (starEach [] X.env)).any (·.1) = false := by rfl) : EV X C (.Call (.Name "len" pos') [.Name x p] [] pos) (dLenO i) := by
  refine ⟨_, pe_callB (call_len_seq.or call_len_str) hg hm PySem.boot_len (pa_cons (pe_var hN hv hd hcd) pa_nil he) (by decide) (by decide) he hpl, fun F H σ r Q e h => ?_⟩
  obtain ⟨cc, ec, fin⟩ := Wn.lifGrw h e
  obtain ⟨d, hd1, hd2⟩ := Option.bind_eq_some_iff.mp ec
  obtain ⟨v, ev, dv, _⟩ := e.at hd1
  refine ⟨v, ev, ?_⟩
  unfold cLen at hd2
  split at hd2
  · rename_i z; cases z; cases hd2
    cases dv with
    | lst h1 h2 => exact .inl ⟨_, _, rfl, .inl h1, fin _ F H (Grw.refl e.sub) (by rw [dps_length h2]; exact .int _)⟩
  · rename_i z; cases z; cases hd2
    cases dv with
    | tup h1 h2 => exact .inl ⟨_, _, rfl, .inr h1, fin _ F H (Grw.refl e.sub) (by rw [dps_length h2]; exact .int _)⟩
  · rename_i z; cases z
    split at hd2
    · cases hd2
      cases dv
      exact .inr ⟨_, rfl, by assumption, fin _ F H (Grw.refl e.sub) (.int _)⟩
    · cases hd2
  · cases hd2

/-! ### owned lists changed -/
def ownAt (r : Rho) (i : Nat) : Option (List D) := match r[i]? with
  | some (some (.m l)) => some l
  | some (some (.p l)) => some l
  | _ => none
def putAt (r : Rho) (i : Nat) (l : List D) : Rho := match r[i]? with
  | some (some (.p _)) => r.set i (some (.p l))
  | _ => r.set i (some (.m l))
def dOwn (i : Nat) : M Unit := fun r => match ownAt r i with
  | some _ => .ok () r
  | none => .bad
theorem dOwn_ok {i : Nat} {k : Unit → M α} {q : α → Rho → Hp → Hp → Prop} (e : EnvOk C.pa X.K F H σ r) (w : Wn X C F H σ r (bnd (dOwn i) k r) q) : ∃ l a xs, ownAt r i = some l ∧ σ[i]? = some (some (.ref a)) ∧ H a = some (.lst xs) ∧ DpAll X.K F xs l ∧ Wn X C F H σ r (k () r) q := by
  cases z : ownAt r i with
  | none => rw [bnd_bad (show dOwn i r = .bad by unfold dOwn; rw [z])] at w; exact w.elim
  | some l =>
    rw [bnd_ok (show dOwn i r = .ok () r by unfold dOwn; rw [z])] at w
    unfold ownAt at z
    split at z
    · rename_i l' q; cases z
      obtain ⟨a, xs, h1, h2, h3, h4⟩ := e.own i _ (.inl q)
      exact ⟨_, a, xs, rfl, h1, h3, h4, w⟩
    · rename_i l' q; cases z
      obtain ⟨a, xs, h1, h2, h3, h4⟩ := e.own i _ (.inr q)
      exact ⟨_, a, xs, rfl, h1, h3, h4, w⟩
    · cases z
/-- the list in slot i becomes l -/
theorem EnvOk.put {pa : Nat → Addr} {K : PySem.W.Frag} {i : Nat} {a : Addr} {l0 l : List D} {xs : List V} (e : EnvOk pa K F H σ r) (h : ownAt r i = some l0) (hσ : σ[i]? = some (some (.ref a))) (hd : DpAll K F xs l) :
    EnvOk pa K F (upd H a (.lst xs)) σ (putAt r i l) ∧ Stp F H (Ow σ r) F (upd H a (.lst xs)) (Ow σ (putAt r i l)) := by
  have dom : ∀ b, H b ≠ none → upd H a (.lst xs) b ≠ none := fun b hb => by
    by_cases z : b = a
    · rw [z, upd_same]; exact fun w => nomatch w
    · rw [upd_ne z]; exact hb
  have kp : ∀ b u, H b = some u → b ≠ a → upd H a (.lst xs) b = some u := fun b u q hb => by rw [upd_ne hb]; exact q
  have ho : r[i]? = some (some (.m l0)) ∨ r[i]? = some (some (.p l0)) := by
    unfold ownAt at h
    split at h
    · rename_i q; cases h; exact .inl q
    · rename_i q; cases h; exact .inr q
    · cases h
  obtain ⟨a', xs0, z1, z2, z3, z4⟩ := e.own i l0 ho
  rw [hσ] at z1; cases z1
  have fin : ∀ b u, F b = some u → upd H a (.lst xs) b = some u := fun b u q => by
    have : b ≠ a := fun z => by rw [z, z2] at q; cases q
    rw [upd_ne this]; exact e.sub b u q
  unfold putAt
  rcases ho with ho | ho
  · rw [ho]
    exact e.relist1 hσ (.inl ⟨rfl, ho⟩) (fun _ _ q => q) fin kp dom (fun b q => .inl q) upd_same hd
  · rw [ho]
    exact e.relist1 hσ (.inr ⟨rfl, ho⟩) (fun _ _ q => q) fin kp dom (fun b q => .inl q) upd_same hd
def sAppend (i : Nat) (fb : M D) : M Fl := bnd (dOwn i) fun _ => bnd fb fun y => fun r => match ownAt r i with
  | some l => if l.length < sizeLine then .ok .nx (putAt r i (l ++ [y])) else .bad
  | none => .bad
theorem Ws.toWn {f : M α} {k : α → M Fl} {q : α → Rho → Hp → Hp → Prop} (h : Ws X C F H σ r (DL.bnd f k r) E) (i : ∀ a r1 F1 H1, EnvOk C.pa X.K F1 H1 σ r1 → Stp F H (Ow σ r) F1 H1 (Ow σ r1) → Ws X C F1 H1 σ r1 (k a r1) E → q a r1 F1 H1) : Wn X C F H σ r (f r) q :=
  h.bnd.imp fun a r1 F1 H1 e s w => i a r1 F1 H1 e s w.2.2
theorem dOwn_okS {i : Nat} {k : Unit → M Fl} (e : EnvOk C.pa X.K F H σ r) (w : Ws X C F H σ r (bnd (dOwn i) k r) E) : ∃ l a xs, ownAt r i = some l ∧ σ[i]? = some (some (.ref a)) ∧ H a = some (.lst xs) ∧ DpAll X.K F xs l ∧ Ws X C F H σ r (k () r) E := by
  cases z : ownAt r i with
  | none => rw [bnd_bad (show dOwn i r = .bad by unfold dOwn; rw [z])] at w; exact w.elim
  | some l =>
    rw [bnd_ok (show dOwn i r = .ok () r by unfold dOwn; rw [z])] at w
    unfold ownAt at z
    split at z
    · rename_i l' q; cases z
      obtain ⟨a, xs, h1, h2, h3, h4⟩ := e.own i _ (.inl q)
      exact ⟨_, a, xs, rfl, h1, h3, h4, w⟩
    · rename_i l' q; cases z
      obtain ⟨a, xs, h1, h2, h3, h4⟩ := e.own i _ (.inr q)
      exact ⟨_, a, xs, rfl, h1, h3, h4, w⟩
    · cases z
theorem own_at {pa : Nat → Addr} {K : PySem.W.Frag} {i : Nat} {l : List D} {a : Addr} (e : EnvOk pa K F H σ r) (h : ownAt r i = some l) (hσ : σ[i]? = some (some (.ref a))) : ∃ xs, F a = none ∧ H a = some (.lst xs) ∧ DpAll K F xs l := by
  have ho : r[i]? = some (some (.m l)) ∨ r[i]? = some (some (.p l)) := by
    unfold ownAt at h
    split at h
    · rename_i q; cases h; exact .inl q
    · rename_i q; cases h; exact .inr q
    · cases h
  obtain ⟨a', xs0, z1, z2, z3, z4⟩ := e.own i l ho
  rw [hσ] at z1; cases z1
  exact ⟨_, z2, z3, z4⟩
theorem sd_append (i : Nat) (hb : EV X C b fb) (hN : X.N[i]? = some x := by rfl) (hv : Vis X.env.scope x := by first | exact Or.inl rfl | exact Or.inr (Or.inl rfl) | exact Or.inr (Or.inr rfl)) (hd : (x == ("__debug__" : Str)) = false := by decide) (hcd : (x == ("__classdict__" : Str)) = false := by decide)
    (hbase : attributeBase (.Name x p) "append" X.env (eval (.Name x p) X.env) = eval (.Name x p) X.env := by rfl)
    (hfew : ((backTo pos' (starEach [b] X.env)).all (fun x => !x.1) && (backToKw pos' (keywordEach [] X.env)).all (fun x => x.1.isSome) && decide ([b].length + ([] : List Keyword).length + (if ([] : List Keyword).isEmpty then 0 else 1) < 30)) = true := by rfl)
    (hline : (apos.endLine == pos'.line) = true := by rfl) (hst : starEach [b] X.env = (false, eval b X.env) :: starEach [] X.env := by rfl) (hplain : (backTo pos' (starEach [] X.env)).any (·.1) = false := by rfl)
    (hs : swapsWith (.Call (.Attribute (.Name x p) "append" apos) [b] [] pos') none pos.line X.env = pure false := by rfl) : SD X C (.Expr (.Call (.Attribute (.Name x p) "append" apos) [b] [] pos') pos) (sAppend i fb) := by
  obtain ⟨tb, pb, sb⟩ := hb
  refine ⟨_, ps_expr (pe_bm PySem.F.plainAttrs_list PySem.F.slot_list_append PySem.F.type_list_append mt_append (pe_var hN hv hd hcd) (pa_cons pb pa_nil hst) hbase hfew hline hst hplain) hs, fun F H σ r E e h => ?_⟩
  obtain ⟨l0, a, xs, ho, hσ, hx, hdx, h⟩ := dOwn_okS e h
  refine ⟨_, hσ, .inl ⟨rfl, xs, SqL.of hx⟩, sb F H σ r _ e (h.toWn fun y r1 F1 H1 e1 s1 w u du => ?_)⟩
  cases q : ownAt r1 i with
  | none => rw [q] at w; exact w.elim
  | some l =>
    rw [q] at w
    simp only at w
    split at w
    · rename_i hz
      obtain ⟨ys, g1, g2, g3⟩ := own_at e1 q hσ
      obtain ⟨e2, s2⟩ := e1.put (l := l ++ [y]) q hσ (dps_append g3 (.cons du .nil))
      exact ⟨_, ys, u, rfl, rfl, g2, by rw [dps_length g3]; exact hz, w σ F1 _ e2 s2⟩
    · exact w.elim
/-- x.pop(e) -/
def dPop (i : Nat) (fb : M D) : M D := bnd (dOwn i) fun _ => bnd fb fun y => fun r => match ownAt r i, y with
  | some l, .int j => if -(2 ^ 63) ≤ j ∧ j < 2 ^ 63 then match seqIndex? j l.length with
    | some k => match l[k]? with
      | some d => .ok d (putAt r i (l.eraseIdx k))
      | none => .bad
    | none => .bad
    else .bad
  | _, _ => .bad
theorem ev_pop (i : Nat) (hb : EV X C b fb) (hN : X.N[i]? = some x := by rfl) (hv : Vis X.env.scope x := by first | exact Or.inl rfl | exact Or.inr (Or.inl rfl) | exact Or.inr (Or.inr rfl)) (hd : (x == ("__debug__" : Str)) = false := by decide) (hcd : (x == ("__classdict__" : Str)) = false := by decide)
    (hbase : attributeBase (.Name x p) "pop" X.env (eval (.Name x p) X.env) = eval (.Name x p) X.env := by rfl)
    (hfew : ((backTo pos' (starEach [b] X.env)).all (fun x => !x.1) && (backToKw pos' (keywordEach [] X.env)).all (fun x => x.1.isSome) && decide ([b].length + ([] : List Keyword).length + (if ([] : List Keyword).isEmpty then 0 else 1) < 30)) = true := by rfl)
    (hline : (apos.endLine == pos'.line) = true := by rfl) (hst : starEach [b] X.env = (false, eval b X.env) :: starEach [] X.env := by rfl) (hplain : (backTo pos' (starEach [] X.env)).any (·.1) = false := by rfl) : EV X C (.Call (.Attribute (.Name x p) "pop" apos) [b] [] pos') (dPop i fb) := by
  obtain ⟨tb, pb, sb⟩ := hb
  refine ⟨_, pe_bm PySem.F.plainAttrs_list PySem.F.slot_list_pop PySem.F.type_list_pop mt_popAt (pe_var hN hv hd hcd) (pa_cons pb pa_nil hst) hbase hfew hline hst hplain, fun F H σ r Q e h => ?_⟩
  obtain ⟨l0, a, xs, ho, hσ, hx, hdx, h⟩ := dOwn_ok e h
  refine ⟨_, hσ, .inl ⟨rfl, xs, SqL.of hx⟩, sb F H σ r _ e (h.bnd.imp fun y r1 F1 H1 e1 s1 w u du => ?_)⟩
  obtain ⟨_, _, w⟩ := w
  cases q : ownAt r1 i with
  | none => rw [q] at w; exact w.elim
  | some l =>
    rw [q] at w
    cases y with
    | int j =>
      simp only at w
      cases du
      split at w
      · rename_i hj
        obtain ⟨ys, g1, g2, g3⟩ := own_at e1 q hσ
        cases q2 : seqIndex? j l.length with
        | none => rw [q2] at w; exact w.elim
        | some k =>
          rw [q2] at w
          simp only at w
          cases q3 : l[k]? with
          | none => rw [q3] at w; exact w.elim
          | some d =>
            rw [q3] at w
            obtain ⟨v, k1, k2⟩ := dps_get g3 q3
            obtain ⟨e2, s2⟩ := e1.put (l := l.eraseIdx k) q hσ (dps_erase k g3)
            exact ⟨_, ys, j, k, v, rfl, rfl, g2, hj.1, hj.2, by rw [dps_length g3]; exact q2, k1, w F1 _ e2 s2 v k2⟩
      · exact w.elim
    | _ => exact w.elim
/-- x[e] = v -/
def sSetIx (i : Nat) (fv fi : M D) : M Fl := bnd fv fun d => bnd (dOwn i) fun _ => bnd fi fun y => fun r => match ownAt r i, y with
  | some l, .int j => match ixN l.length j with
    | some k => .ok .nx (putAt r i (l.set k d))
    | none => .bad
  | _, _ => .bad
theorem sd_setIx (i : Nat) (ha : EV X C a fa) (hb : EV X C b fb) (hN : X.N[i]? = some x := by rfl) (hv : Vis X.env.scope x := by first | exact Or.inl rfl | exact Or.inr (Or.inl rfl) | exact Or.inr (Or.inr rfl)) (hd : (x == ("__debug__" : Str)) = false := by decide) (hcd : (x == ("__classdict__" : Str)) = false := by decide)
    (hs : swapsWithSole [.Subscript (.Name x p) b pos'] a pos.line X.env = pure false := by rfl) (hw : swappedStores [.Subscript (.Name x p) b pos'] a X.env = pure none := by rfl)
    (h1 : (assignEach [.Subscript (.Name x p) b pos'] X.env).map (·.2) = [assign (.Subscript (.Name x p) b pos') X.env] := by rfl)
    (hass : ∀ v, assign (.Subscript (.Name x p) b pos') X.env v = (do
      let ov ← holding [v] (eval (.Name x p) X.env)
      let iv ← holding [v, ov] (eval b X.env)
      standAt pos'
      holding [v, ov, iv] (setItem ov iv v)
      release [v, ov, iv] []) := by intro _; rfl) : SD X C (.Assign [.Subscript (.Name x p) b pos'] a pos) (sSetIx i fa fb) := by
  obtain ⟨ta, pa, sa⟩ := ha
  obtain ⟨tb, pb, sb⟩ := hb
  refine ⟨_, ps_asg pa (pg_sub (pe_var hN hv hd hcd) pb set_list hass) hs hw h1, fun F H σ r E e h => sa F H σ r _ e (h.toWn fun d r1 F1 H1 e1 s1 w v dv => ?_)⟩
  obtain ⟨l0, q, xs, ho, hσ, hx, hdx, w⟩ := dOwn_okS e1 w
  refine ⟨_, hσ, sb F1 H1 σ r1 _ e1 (w.toWn fun y r2 F2 H2 e2 s2 w2 u du => ?_)⟩
  cases q2 : ownAt r2 i with
  | none => rw [q2] at w2; exact w2.elim
  | some l =>
    rw [q2] at w2
    cases y with
    | int j =>
      simp only at w2
      cases du
      obtain ⟨ys, g1, g2, g3⟩ := own_at e2 q2 hσ
      cases q3 : ixN l.length j with
      | none => rw [q3] at w2; exact w2.elim
      | some k =>
        rw [q3] at w2
        obtain ⟨e3, s3⟩ := e2.put (l := l.set k d) q2 hσ (dps_set (dp_mono s2.sub dv) k g3)
        exact ⟨_, ys, j, k, rfl, rfl, g2, by rw [dps_length g3]; exact q3, w2 σ F2 _ e3 s3⟩
    | _ => exact w2.elim

/-! ### two names at once -/
theorem SRep.on {s : Slot} {v : V} {O1 O2 : Addr → Prop} {H0 : Hp} (h : SRep X.K F1 H1 O1 H0 s v) (t : Stp F1 H1 O1 F2 H2 O2) : SRep X.K F2 H2 O2 H0 s v := by
  cases s with
  | v d => exact dp_mono t.sub h
  | p l => exact h
  | f a => exact h
  | m l =>
    obtain ⟨a, xs, rfl, h1, h2, h3, h4, h5⟩ := h
    obtain ⟨k1, k2, k3⟩ := t.hold h1 h2 h4
    exact ⟨a, xs, rfl, k1, k2, dps_mono t.sub h3, k3, h5⟩
def sPar (i j : Nat) (fs gs : M Slot) : M Fl := bnd fs fun s => bnd gs fun t => bnd (setS i s) fun _ => bnd (setS j t) fun _ => ret .nx
theorem sd_par (i j : Nat) {y : Str} {px py pt pt2 : Pos} {kt k2 : Nat} (hN : X.N.Nodup) (ha : ES X C a fs) (hb : ES X C b gs) (hw : swappedStores [.Tuple [.Name x px, .Name y py] kt pt] (.Tuple [a, b] k2 pt2) X.env = pure (some [x, y]) := by rfl)
    (hi : X.N[i]? = some x := by rfl) (hj : X.N[j]? = some y := by rfl) (hij : i ≠ j := by decide) (hc : X.calm = true := by rfl) (hx : X.env.scope.names.lookup x = some .local := by rfl) (hy : X.env.scope.names.lookup y = some .local := by rfl)
    (hs : swapsWithSole [.Tuple [.Name x px, .Name y py] kt pt] (.Tuple [a, b] k2 pt2) pos.line X.env = pure false := by rfl) (h1 : starEach [a, b] X.env = (false, eval a X.env) :: starEach [b] X.env := by rfl) (h2 : starEach [b] X.env = (false, eval b X.env) :: starEach [] X.env := by rfl) :
    SD X C (.Assign [.Tuple [.Name x px, .Name y py] kt pt] (.Tuple [a, b] k2 pt2) pos) (sPar i j fs gs) := by
  obtain ⟨ta, pa, sa⟩ := ha
  obtain ⟨tb, pb, sb⟩ := hb
  refine ⟨_, ps_par hc hN hi hj hij hx hy (pa_cons pa (pa_cons pb pa_nil h2) h1) hw hs, fun F H σ r E e h => ?_⟩
  refine sa F H σ r _ e ?_
  unfold sPar at h
  cases q01 : fs r with
  | bad => rw [bnd_bad q01] at h; exact h
  | exc c d rr => rw [bnd_exc q01] at h; exact fun F' H' cls dd e' s' x => h σ F' H' cls dd e' s' x
  | ok s r1 =>
  rw [bnd_ok q01] at h
  intro F1 H1 e1 s1 v sv
  refine sb F1 H1 σ r1 _ e1 ?_
  cases q02 : gs r1 with
  | bad => rw [bnd_bad q02] at h; exact h
  | exc c d rr => rw [bnd_exc q02] at h; exact fun F' H' cls dd e' s' x => h σ F' H' cls dd e' (s1.trans s') x
  | ok t r2 =>
  rw [bnd_ok q02] at h
  intro F2 H2 e2 s2 u su
  refine ⟨v, u, rfl, ?_⟩
  have sv2 := sv.on s2
  cases q1 : setS i s r2 with
  | exc c d r' => exact absurd q1 setS_exc
  | bad => rw [bnd_bad q1] at h; exact h.elim
  | ok _ r3 =>
    rw [bnd_ok q1] at h
    obtain ⟨a1, rfl, a3⟩ := setS_ok q1
    cases q2 : setS j t (r2.set i (some s)) with
    | exc c d r' => exact absurd q2 setS_exc
    | bad => rw [bnd_bad q2] at h; exact h.elim
    | ok _ r4 =>
      rw [bnd_ok q2] at h
      obtain ⟨b1, rfl, b3⟩ := setS_ok q2
      have e3 := e2.store a1 a3 sv2
      have su3 : SRep X.K F2 H2 (Ow (σ.set i (some v)) (r2.set i (some s))) H1 t u := by
        cases t with
        | v d => exact su
        | p l => exact su
        | f z => exact su
        | m l =>
          obtain ⟨q, xs, rfl, h1, h2, h3, h4, h5⟩ := su
          refine ⟨q, xs, rfl, h1, h2, h3, fun z => ?_, h5⟩
          obtain ⟨k, l', k1, k2⟩ := z
          rw [set_get a1] at k1
          rw [set_get (by rw [← e2.len]; exact a1)] at k2
          by_cases hk : i = k
          · rw [if_pos hk] at k1 k2
            cases k2
            rcases k1 with k1 | k1
            · cases k1
              obtain ⟨q', xs', g0, g1, g2, g3, g4, g5⟩ := sv
              cases g0
              rw [h5] at g2; cases g2
            · cases k1; exact sv
          · rw [if_neg hk] at k1 k2
            exact h4 ⟨k, l', k1, k2⟩
      have e4 := e3.store b1 b3 su3
      have key : ∀ bb, Ow ((σ.set i (some v)).set j (some u)) ((r2.set i (some s)).set j (some t)) bb → Ow σ r bb ∨ H bb = none := fun bb z => by
        have back : ∀ bb, H1 bb = none → H bb = none := fun bb q => by
          cases z : H bb with
          | none => rfl
          | some o => exact absurd q (s1.dom bb (ne_none_of z))
        rcases Ow.store b1 e3.len su3 z with z | z
        · rcases Ow.store a1 e2.len sv2 z with z | z
          · exact (s1.trans s2).own bb z
          · exact .inr z
        · exact .inr (back bb z)
      have s12 := s1.trans s2
      exact (h _ F2 H2 e4 ⟨s12.sub, s12.keep, s12.dom, s12.new, key⟩)

/-! ### isinstance -/
def tyN : D → String
  | .none => "NoneType"
  | .bool _ => "bool"
  | .int _ => "int"
  | .str _ => "str"
  | .list _ => "list"
  | .tuple _ => "tuple"
  | .dict _ => "dict"
theorem tyX_of {K : PySem.W.Frag} {v : V} {d : D} (s : ∀ a o, F a = some o → H a = some o) (h : Dp K F v d) : TyX K H v (.type (tyN d)) := by
  cases h with
  | non => exact .base .non
  | bl b => exact .base (.bl b)
  | int i => exact .base (.int i)
  | str z => exact .base (.str z)
  | lst h1 h2 =>
    rcases sqL_mono s h1 with (q | ⟨o, q⟩) | ⟨o, its, n, q, c, _⟩
    · exact .base (.lst q)
    · exact .base (.frz q)
    · exact .kList q c
  | tup h1 h2 =>
    rcases sqT_mono s h1 with (q | ⟨o, q⟩) | ⟨o, its, n, q, c, _⟩
    · exact .base (.tup q)
    · exact .fTuple q
    · exact .kTuple q c
def tys : List String := ["NoneType", "bool", "int", "str", "list", "tuple", "dict"]
theorem tyN_in (d : D) : tyN d ∈ tys := by cases d <;> simp [tyN, tys]
def dIsi (g : String → Bool) (fa : M D) : M D := bnd fa fun d => ret (.bool (g (tyN d)))
theorem ev_isi {T : Str} {Tn : String} {g : String → Bool} (ha : EV X C a fa) (hm : X.mg "isinstance" = none) (hmT : X.mg T = none) (hv : bootBuiltins T = some (.type Tn)) (hg : ∀ t ∈ tys, kitB t Tn = some (g t)) (hgi : Gl X "isinstance" := by rfl) (hgT : Gl X T := by rfl) (hn : T ≠ "__name__" := by decide) (hdb : (T == ("__debug__" : Str)) = false := by decide)
    (he : starEach [a, .Name T p] X.env = (false, eval a X.env) :: starEach [.Name T p] X.env := by rfl) (he2 : starEach [.Name T p] X.env = (false, eval (.Name T p) X.env) :: starEach [] X.env := by rfl) (hpl : (backTo pos (starEach [.Name T p] X.env)).any (·.1) = false := by rfl) :
    EV X C (.Call (.Name "isinstance" pos') [a, .Name T p] [] pos) (dIsi g fa) := by
  obtain ⟨ta, pa, sa⟩ := ha
  refine ⟨_, pe_callB call_isi hgi hm (by decide +kernel) (pa_cons pa (pa_cons (pe_bltn (v := .ty Tn) hgT hmT hv rfl hn hdb) pa_nil he2) he) (by decide) (by decide) he hpl, fun F H σ r Q e h => sa F H σ r _ e (h.bnd.imp fun d r1 F1 H1 e1 s1 w v dv => ?_)⟩
  obtain ⟨_, _, w⟩ := w
  exact ⟨v, .ty Tn, _, _, g (tyN d), rfl, .ty Tn, tyX_of e1.sub dv, kit_ty (hg _ (tyN_in d)), Wn.ret (α := D) w e1 _ (.bl _)⟩
theorem ev_isi2 {T U : Str} {Tn Un : String} {g : String → Bool} {pT pU pt : Pos} {kt : Nat} (ha : EV X C a fa) (hm : X.mg "isinstance" = none) (hmT : X.mg T = none) (hmU : X.mg U = none) (hv : bootBuiltins T = some (.type Tn)) (hvU : bootBuiltins U = some (.type Un)) (hg : ∀ t ∈ tys, ∃ b c, kitB t Tn = some b ∧ kitB t Un = some c ∧ g t = (b || c))
    (hgi : Gl X "isinstance" := by rfl) (hgT : Gl X T := by rfl) (hgU : Gl X U := by rfl) (hn : T ≠ "__name__" := by decide) (hdb : (T == ("__debug__" : Str)) = false := by decide) (hnU : U ≠ "__name__" := by decide) (hdbU : (U == ("__debug__" : Str)) = false := by decide)
    (he : starEach [a, .Tuple [.Name T pT, .Name U pU] kt pt] X.env = (false, eval a X.env) :: starEach [.Tuple [.Name T pT, .Name U pU] kt pt] X.env := by rfl) (he2 : starEach [.Tuple [.Name T pT, .Name U pU] kt pt] X.env = (false, eval (.Tuple [.Name T pT, .Name U pU] kt pt) X.env) :: starEach [] X.env := by rfl)
    (he3 : starEach [.Name T pT, .Name U pU] X.env = (false, eval (.Name T pT) X.env) :: starEach [.Name U pU] X.env := by rfl) (he4 : starEach [.Name U pU] X.env = (false, eval (.Name U pU) X.env) :: starEach [] X.env := by rfl)
    (hpl : (backTo pos (starEach [.Tuple [.Name T pT, .Name U pU] kt pt] X.env)).any (·.1) = false := by rfl) :
    EV X C (.Call (.Name "isinstance" pos') [a, .Tuple [.Name T pT, .Name U pU] kt pt] [] pos) (dIsi g fa) := by
  obtain ⟨ta, pa, sa⟩ := ha
  refine ⟨_, pe_callB call_isiT hgi hm (by decide +kernel) (pa_cons pa (pa_cons (pe_tup (pa_cons (pe_bltn (v := .ty Tn) hgT hmT hv rfl hn hdb) (pa_cons (pe_bltn (v := .ty Un) hgU hmU hvU rfl hnU hdbU) pa_nil he4) he3)) pa_nil he2) he) (by decide) (by decide) he hpl, fun F H σ r Q e h => sa F H σ r _ e (h.bnd.imp fun d r1 F1 H1 e1 s1 w v dv => ?_)⟩
  obtain ⟨_, _, w⟩ := w
  refine ⟨by show 2 ≤ sizeLine; decide, fun q hq => ?_⟩
  obtain ⟨b, c, hb, hc, hbc⟩ := hg _ (tyN_in d)
  have g2 := Grw.laid (o := .tup [.ty Tn, .ty Un]) e1.sub hq
  refine ⟨v, q, _, _, _, g (tyN d), rfl, upd_same, .cons (.ty Tn) (.cons (.ty Un) .nil), tyX_of g2.fin (dp_mono g2.subF dv), ?_, ?_⟩
  · rw [hbc]
    refine kitAny_cons (kit_ty hb) (fun z => ?_) (fun z => by rw [z]; rfl)
    refine kitAny_cons (kit_ty hc) (fun z2 => ?_) (fun z2 => by rw [z2]; simp)
    rw [z, z2]; exact kitAny_nil
  · exact w _ _ (e1.laid hq) (Stp.laid (e1.free hq) hq) _ (.bl _)

/-! ### or by truth; new lists -/
def truS : Slot → Option Bool
  | .v d => truth d
  | .m l => some (!l.isEmpty)
  | _ => none
def sOrT (fs gs : M Slot) : M Slot := bnd fs fun s => bnd (lif (truS s)) fun k => if k then ret s else gs
variable {rest : List Expr}
theorem es_one {op : BoolOp} (h : ES X C a fs) : ES X C (.BoolOp op [a] pos) fs := let ⟨t, p, s⟩ := h; ⟨t, pe_one p, s⟩
theorem es_orT (ha : ES X C a fs) (hb : ES X C (.BoolOp .Or (b :: rest) pos) gs) : ES X C (.BoolOp .Or (a :: b :: rest) pos) (sOrT fs gs) := by
  obtain ⟨ta, pa, sa⟩ := ha
  obtain ⟨tb, pb, sb⟩ := hb
  refine ⟨_, pe_orT pa pb, fun F H σ r Q e h => sa F H σ r _ e ?_⟩
  unfold sOrT at h
  cases q01 : fs r with
  | bad => rw [bnd_bad q01] at h; exact h
  | exc c d rr => rw [bnd_exc q01] at h; exact h
  | ok s r1 =>
  rw [bnd_ok q01] at h
  intro F1 H1 e1 s1 v sv
  cases q02 : truS s with
  | none => rw [q02] at h; exact h.elim
  | some k =>
    rw [q02, bnd_lif_some] at h
    refine ⟨k, ?_, ?_⟩
    · cases s with
      | v d => exact truV_of e1.sub sv q02
      | p l => cases q02
      | f q => cases q02
      | m l =>
        obtain ⟨q, xs, rfl, h1, h2, h3, h4, h5⟩ := sv
        cases q02
        exact .inl ⟨xs, SqL.of h2, by rw [dps_empty h3]⟩
    · cases k with
      | true => exact h F1 H1 e1 s1 v sv
      | false =>
        simp only [Bool.false_eq_true, if_false] at h ⊢
        refine sb F1 H1 σ r1 _ e1 ?_
        refine (h.on s1).imp fun s' r' F' H' e' s2 w v' sv' => w v' ?_
        cases s' with
        | v d => exact sv'
        | p l => exact sv'
        | f q => exact sv'
        | m l =>
          obtain ⟨q, xs, rfl, h1, h2, h3, h4, h5⟩ := sv'
          refine ⟨q, xs, rfl, h1, h2, h3, h4, ?_⟩
          cases z : H q with
          | none => rfl
          | some o => exact absurd h5 (s1.dom q (ne_none_of z))
/-- list(e), a new list of one's own -/
def sListOf (fa : M D) : M Slot := bnd fa fun d => bnd (lif (seqOf d)) fun l => ret (.m l)
theorem fresh_m {l : List D} {q : Addr} {xs : List V} (e1 : EnvOk C.pa X.K F1 H1 σ r1) (s1 : Stp F H (Ow σ r) F1 H1 (Ow σ r1)) (hq : H1 q = none) (hd : DpAll X.K F1 xs l) : SRep X.K F1 (upd H1 q (.lst xs)) (Ow σ r1) H (.m l) (.ref q) := by
  refine ⟨q, xs, rfl, e1.free hq, upd_same, hd, not_ow_of_free e1 hq, ?_⟩
  cases z : H q with
  | none => rfl
  | some o => exact absurd hq (s1.dom q (ne_none_of z))
theorem es_listOf (ha : EV X C a fa) (hm : X.mg "list" = none) (hg : Gl X "list" := by rfl) (he : starEach [a] X.env = (false, eval a X.env) :: starEach [] X.env := by rfl) (hpl : (backTo pos (starEach [] X.env)).any (·.1) = false := by rfl) : ES X C (.Call (.Name "list" p) [a] [] pos) (sListOf fa) := by
  obtain ⟨ta, pa, sa⟩ := ha
  refine ⟨_, pe_callTy call_list_of hg hm (by decide +kernel) (pa_cons pa pa_nil he) (by decide) (by decide) he hpl, fun F H σ r Q e h => sa F H σ r _ e ?_⟩
  unfold sListOf at h
  cases q01 : fa r with
  | bad => rw [bnd_bad q01] at h; exact h
  | exc c d rr => rw [bnd_exc q01] at h; exact h
  | ok d r1 =>
  rw [bnd_ok q01] at h
  intro F1 H1 e1 s1 v dv
  cases d with
  | list l =>
    cases dv with
    | lst h1 h2 => exact ⟨_, _, rfl, .inl (sqL_mono e1.sub h1), fun q hq => h F1 _ (e1.laidH hq) (s1.trans (Stp.laidH hq)) _ (fresh_m e1 s1 hq h2)⟩
  | tuple l =>
    cases dv with
    | tup h1 h2 => exact ⟨_, _, rfl, .inr (sqT_mono e1.sub h1), fun q hq => h F1 _ (e1.laidH hq) (s1.trans (Stp.laidH hq)) _ (fresh_m e1 s1 hq h2)⟩
  | _ => exact h.elim
/-- xs + ys, a new list of one's own -/
def catOf : D → D → Option (List D)
  | .list i, .list j => if i.length + j.length ≤ sizeLine then some (i ++ j) else none
  | _, _ => none
def sCat (fa fb : M D) : M Slot := bnd fa fun d => bnd fb fun e => bnd (lif (catOf d e)) fun l => ret (.m l)
theorem es_cat (ha : EV X C a fa) (hb : EV X C b fb) : ES X C (.BinOp a .Add b pos) (sCat fa fb) := by
  obtain ⟨ta, pa, sa⟩ := ha
  obtain ⟨tb, pb, sb⟩ := hb
  refine ⟨_, pe_op op_catL pa pb, fun F H σ r Q e h => sa F H σ r _ e ?_⟩
  unfold sCat at h
  cases q01 : fa r with
  | bad => rw [bnd_bad q01] at h; exact h
  | exc c d rr => rw [bnd_exc q01] at h; exact h
  | ok d r1 =>
  rw [bnd_ok q01] at h
  intro F1 H1 e1 s1 v dv
  refine sb F1 H1 σ r1 _ e1 ?_
  cases q02 : fb r1 with
  | bad => rw [bnd_bad q02] at h; exact h
  | exc c d rr => rw [bnd_exc q02] at h; exact fun F' H' cls dd e' s' x => h F' H' cls dd e' (s1.trans s') x
  | ok d2 r2 =>
  rw [bnd_ok q02] at h
  intro F2 H2 e2 s2 u du
  cases q03 : catOf d d2 with
  | none => rw [q03] at h; exact h.elim
  | some l =>
    rw [q03, bnd_lif_some] at h
    unfold catOf at q03
    split at q03
    · split at q03
      · rename_i hz
        cases q03
        have dv2 := dp_mono s2.sub dv
        cases dv2 with
        | lst h1 h2 =>
          cases du with
          | lst g1 g2 =>
            have s12 := s1.trans s2
            exact ⟨_, _, _, _, rfl, rfl, sqL_mono e2.sub h1, sqL_mono e2.sub g1, by rw [dps_length h2, dps_length g2]; exact hz, fun q hq => h F2 _ (e2.laidH hq) (s12.trans (Stp.laidH hq)) _ (fresh_m e2 s12 hq (dps_append h2 g2))⟩
      · cases q03
    · cases q03
end

/-! ### the body of a def -/
def pix : List Slot → Option Nat
  | [] => none
  | .p _ :: _ => some 0
  | _ :: ss => (pix ss).map (· + 1)
def pout (ss : List Slot) (r : Rho) : Option (Option (List D)) := match pix ss with
  | none => some none
  | some i => match r[i]? with
    | some (some (.p l)) => some (some l)
    | _ => none
def rho0 (n : Nat) (ss : List Slot) : Rho := ss.map some ++ List.replicate (n - ss.length) none
def runB (n : Nat) (fb : M Fl) (ss : List Slot) : FRes := match fb (rho0 n ss) with
  | .ok (.ret s) r => match pout ss r with
    | some o => .ok s o
    | none => .bad
  | .ok .nx r => match pout ss r with
    | some o => .ok (.v .none) o
    | none => .bad
  | .exc c d r => match pout ss r with
    | some o => .exc c d o
    | none => .bad
  | _ => .bad
def paOf (vs : List V) (i : Nat) : Addr := match vs[i]? with
  | some (.ref a) => a
  | _ => 0
theorem slots_length {K : PySem.W.Frag} {F H : Hp} {vs : List V} {ss : List Slot} {oa : Option Addr} (h : SlotsRep K F H vs ss oa) : vs.length = ss.length := by
  induction h with
  | nil => rfl
  | v _ _ ih => simp [ih]
  | f _ ih => simp [ih]
  | p _ _ _ _ ih => simp [ih]
theorem slots_get {K : PySem.W.Frag} {F H : Hp} {vs : List V} {ss : List Slot} {oa : Option Addr} (h : SlotsRep K F H vs ss oa) : ∀ (i : Nat) (s : Slot), ss[i]? = some s → ∃ v, vs[i]? = some v ∧ match s with
    | .v d => Dp K F v d
    | .f a => v = .ref a
    | .p l => ∃ a xs, v = .ref a ∧ F a = none ∧ H a = some (.lst xs) ∧ DpAll K F xs l ∧ oa = some a ∧ pix ss = some i
    | .m _ => False := by
  induction h with
  | nil => intro i s e; simp at e
  | v h1 _ ih =>
    intro i s e
    cases i with
    | zero => simp at e; subst e; exact ⟨_, rfl, h1⟩
    | succ i =>
      obtain ⟨v, e1, e2⟩ := ih i s (by simpa using e)
      refine ⟨v, by simpa using e1, ?_⟩
      cases s with
      | p l =>
        obtain ⟨a, xs, g1, g2, g3, g4, g5, g6⟩ := e2
        exact ⟨a, xs, g1, g2, g3, g4, g5, by unfold pix; rw [g6]; rfl⟩
      | _ => exact e2
  | f _ ih =>
    intro i s e
    cases i with
    | zero => simp at e; subst e; exact ⟨_, rfl, rfl⟩
    | succ i =>
      obtain ⟨v, e1, e2⟩ := ih i s (by simpa using e)
      refine ⟨v, by simpa using e1, ?_⟩
      cases s with
      | p l =>
        obtain ⟨a, xs, g1, g2, g3, g4, g5, g6⟩ := e2
        exact ⟨a, xs, g1, g2, g3, g4, g5, by unfold pix; rw [g6]; rfl⟩
      | _ => exact e2
  | p h1 h2 h3 _ ih =>
    intro i s e
    cases i with
    | zero => simp at e; subst e; exact ⟨_, rfl, _, _, rfl, h1, h2, h3, rfl, rfl⟩
    | succ i =>
      obtain ⟨v, e1, e2⟩ := ih i s (by simpa using e)
      refine ⟨v, by simpa using e1, ?_⟩
      cases s with
      | p l =>
        obtain ⟨a, xs, g1, g2, g3, g4, g5, g6⟩ := e2
        cases g5
      | _ => exact e2
theorem rho0_get {n i : Nat} {ss : List Slot} {s : Slot} (h : (rho0 n ss)[i]? = some (some s)) : ss[i]? = some s := by
  unfold rho0 at h
  by_cases hi : i < ss.length
  · rw [List.getElem?_append_left (by simpa using hi), List.getElem?_map] at h
    cases q : ss[i]? with
    | none => rw [q] at h; cases h
    | some t => rw [q] at h; simp at h; rw [h]
  · rw [List.getElem?_append_right (by simpa using Nat.le_of_not_lt hi)] at h
    obtain ⟨_, h2⟩ := List.getElem?_eq_some_iff.mp h
    simp at h2
theorem start_get {N : List Str} {vs : List V} {i : Nat} {v : V} (h : vs[i]? = some v) : (L2.start N vs)[i]? = some (some v) := by
  unfold L2.start
  have hi := lt_of_get h
  rw [List.getElem?_append_left (by simpa using hi), List.getElem?_map, h]; rfl
theorem env0_ok {K : PySem.W.Frag} {F H : Hp} {N : List Str} {vs : List V} {ss : List Slot} {oa : Option Addr} (s : ∀ a u, F a = some u → H a = some u) (h : SlotsRep K F H vs ss oa) (hn : vs.length ≤ N.length) : EnvOk (paOf vs) K F H (L2.start N vs) (rho0 N.length ss) := by
  have hl := slots_length h
  have m0 : ∀ (i : Nat) (l : List D), (rho0 N.length ss)[i]? ≠ some (some (.m l)) := fun i l z => by
    obtain ⟨v, _, e2⟩ := slots_get h i _ (rho0_get z)
    exact e2
  have own : ∀ (i : Nat) (l : List D), ((rho0 N.length ss)[i]? = some (some (.m l)) ∨ (rho0 N.length ss)[i]? = some (some (.p l))) → ∃ a xs, vs[i]? = some (.ref a) ∧ F a = none ∧ H a = some (.lst xs) ∧ DpAll K F xs l ∧ oa = some a ∧ pix ss = some i := fun i l z => by
    rcases z with z | z
    · exact absurd z (m0 i l)
    · obtain ⟨v, e1, a, xs, g1, g2⟩ := slots_get h i _ (rho0_get z)
      subst g1
      exact ⟨a, xs, e1, g2⟩
  refine ⟨by unfold rho0 L2.start; simp [hl], s, fun i d q => ?_, fun i l q => ?_, fun i j a l l' q1 q2 q3 q4 => ?_, fun i l q => ?_, fun i a q => ?_⟩
  · obtain ⟨v, e1, e2⟩ := slots_get h i _ (rho0_get q)
    exact ⟨v, start_get e1, e2⟩
  · obtain ⟨a, xs, g1, g2, g3, g4, g5⟩ := own i l q
    exact ⟨a, xs, start_get g1, g2, g3, g4⟩
  · obtain ⟨_, _, _, _, _, _, _, g6⟩ := own i l q1
    obtain ⟨_, _, _, _, _, _, _, k6⟩ := own j l' q2
    rw [g6] at k6; cases k6; rfl
  · obtain ⟨a, xs, g1, g2, g3, g4, g5⟩ := own i l (.inr q)
    rw [start_get g1]
    unfold paOf
    rw [g1]
  · obtain ⟨v, e1, e2⟩ := slots_get h i _ (rho0_get q)
    rw [e2] at e1
    exact start_get e1
theorem post_of {K : PySem.W.Frag} {F H F' H' : Hp} {N : List Str} {vs : List V} {ss : List Slot} {oa : Option Addr} {σ' : Sg} {r' : Rho} {o : Option (List D)} (s : ∀ a u, F a = some u → H a = some u) (h : SlotsRep K F H vs ss oa) (hn : vs.length ≤ N.length) (ho : pout ss r' = some o) (e : EnvOk (paOf vs) K F' H' σ' r') (t : Stp F H (Ow (L2.start N vs) (rho0 N.length ss)) F' H' (Ow σ' r')) :
    Post K F H oa F' H' o := by
  have owa : ∀ a, Ow (L2.start N vs) (rho0 N.length ss) a → oa = some a ∧ ∃ i, pix ss = some i ∧ vs[i]? = some (.ref a) := fun a ⟨i, l, q1, q2⟩ => by
    rcases q1 with q1 | q1
    · obtain ⟨v, _, e2⟩ := slots_get h i _ (rho0_get q1)
      exact e2.elim
    · obtain ⟨v, e1, a', xs, g1, g2, g3, g4, g5, g6⟩ := slots_get h i _ (rho0_get q1)
      subst g1
      rw [start_get e1] at q2; cases q2
      exact ⟨g5, i, g6, e1⟩
  -- the parameter's list at the end
  have fin : ∀ a, oa = some a → ∃ l xs, o = some l ∧ F' a = none ∧ H' a = some (.lst xs) ∧ DpAll K F' xs l := fun a ha => by
    have : ∃ i l, pix ss = some i ∧ ss[i]? = some (.p l) := by
      clear ho e t owa hn
      subst ha
      generalize hq : some a = oa at h
      induction h with
      | nil => cases hq
      | v _ _ ih =>
        obtain ⟨i, l, h1, h2⟩ := ih hq
        exact ⟨i + 1, l, by unfold pix; rw [h1]; rfl, by simpa using h2⟩
      | f _ ih =>
        obtain ⟨i, l, h1, h2⟩ := ih hq
        exact ⟨i + 1, l, by unfold pix; rw [h1]; rfl, by simpa using h2⟩
      | p _ _ _ _ _ => exact ⟨0, _, rfl, rfl⟩
    obtain ⟨i, l0, hp, hs⟩ := this
    obtain ⟨v, e1, a', xs, g1, g2, g3, g4, g5, g6⟩ := slots_get h i _ hs
    subst g1
    rw [ha] at g5; cases g5
    unfold pout at ho
    rw [hp] at ho
    simp only at ho
    split at ho
    · rename_i l q
      cases ho
      obtain ⟨b, ys, k1, k2, k3, k4⟩ := e.own i l (.inr q)
      have k5 := e.par i l q
      unfold paOf at k5
      rw [e1] at k5
      simp only at k5
      rw [k1] at k5; cases k5
      exact ⟨l, ys, rfl, k2, k3, k4⟩
    · cases ho
  refine ⟨t.sub, e.sub, fun a u q hn' => t.keep a u q fun z => hn' (owa a z).1, t.dom, fun a q => ?_, ?_⟩
  · rcases t.new a q with z | z | z
    · exact .inl z
    · exact .inr z
    · obtain ⟨l, xs, _, h1, _⟩ := fin a (owa a z).1
      exact absurd h1 q
  · cases oa with
    | none =>
      have : pix ss = none := by
        clear ho e t owa fin hn
        generalize hq : (none : Option Addr) = oa at h
        induction h with
        | nil => rfl
        | v _ _ ih => unfold pix; rw [ih hq, ← hq]; rfl
        | f _ ih => unfold pix; rw [ih hq, ← hq]; rfl
        | p _ _ _ _ _ => cases hq
      unfold pout at ho
      rw [this] at ho
      cases ho
      trivial
    | some a =>
      obtain ⟨l, xs, h0, h1, h2, h3⟩ := fin a rfl
      subst h0
      exact ⟨xs, h2, h3⟩
theorem fn_body {P : Program} {w : World} {K : PySem.W.Frag} {mg : Str → Option Value} {base : Heap} {xc : List (Addr × Option Str)} {x qual : Str} {st : Stmt} {f : Addr} {fd : FuncData} {N ps : List Str} {k : Nat} {fb : M Fl} (Fn : Fun K x qual st f fd) (S : FnScope N ps (defScope st)) (hnp : ps.length ≤ N.length)
    (hb : ∀ (cdv : Value) (A : Around) (outer : List Env) (s : Shared) (H : Hp) (E : XK) (pa : Nat → Addr), Room k (A.deeper (envOfC qual (defScope st) s.heap.objs.size f cdv)) → Takes (cxOf (L2.CX P w) P w K mg base N qual (defScope st) f cdv A outer s H E) (fun cls d _ H => E cls d H) →
      SDs (cxOf (L2.CX P w) P w K mg base N qual (defScope st) f cdv A outer s H E) ⟨pa, xc, fun cls d _ H => E cls d H⟩ (defBody st) fb) :
    FnOk P w K mg base (L2.CX P w) (k + 1) f fd ps (spD K xc ps.length (runB N.length fb)) := by
  refine Fn.okX S (fun vs H Q E h => h.1) (fun cdv A outer s H vs Q E hr h => ?_)
  obtain ⟨hl, F, ss, oa, sub, hss, h⟩ := h
  obtain ⟨t, pt, sem⟩ := hb cdv A outer s H E (paOf vs) hr (takes_of rfl rfl rfl rfl)
  refine ⟨t, pt, sem F H (L2.start N vs) (rho0 N.length ss) _ (env0_ok sub hss (by omega)) ?_⟩
  unfold runB at h
  cases q : fb (rho0 N.length ss) with
  | bad => rw [q] at h; exact h
  | exc c d r' =>
    rw [q] at h
    simp only at h
    intro σ' F' H' cls dd e' s' xr
    cases q2 : pout ss r' with
    | none => rw [q2] at h; exact h.elim
    | some o =>
      rw [q2] at h
      exact h cls dd F' H' (post_of sub hss (by omega) q2 e' s') xr
  | ok fl r' =>
    rw [q] at h
    intro σ' F' H' e' s'
    cases fl with
    | brk => exact h.elim
    | ct => exact h.elim
    | nx =>
      simp only at h
      cases q2 : pout ss r' with
      | none => rw [q2] at h; exact h.elim
      | some o =>
        rw [q2] at h
        exact h _ F' H' (post_of sub hss (by omega) q2 e' s') .non
    | ret sl =>
      simp only at h
      intro v sv
      cases q2 : pout ss r' with
      | none => rw [q2] at h; exact h.elim
      | some o =>
        rw [q2] at h
        refine h v F' H' (post_of sub hss (by omega) q2 e' s') ?_
        cases sl with
        | v d => exact sv
        | p l => exact sv
        | f z => exact sv
        | m l =>
          obtain ⟨b, xs, rfl, h1, h2, h3, h4, h5⟩ := sv
          exact ⟨b, xs, rfl, h1, h2, h3, h5⟩
end DL

/-! DLFin: what a printed text leans on. -/
namespace DL
open PySem PySem.Spec PyProof.Rows L2
/-- a def of the text: where it stands, its name, how it binds -/
structure FDef (K : PySem.W.Frag) (mg : Str → Option Value) (x : Str) (st : Stmt) (f : Addr) (fd : FuncData) (ps : List Str) : Prop where
  F : Fun K x x st f fd
  gm : mg x = some (.ref f)
  b : Binds K fd ps []
  kb : KB K fd ps
theorem hu2 {A : Around} {k : Nat} (hr : Room k A) : A.units + 64 < cLine ∧ A.units + 65 < cLine := by
  have := hr.un
  constructor <;> omega
theorem fn_bad {P : Program} {w : World} {K : PySem.W.Frag} {mg : Str → Option Value} {base : Heap} {CX : CXT} {k : Nat} {f : Addr} {fd : FuncData} {ps : List Str} {xc : List (Addr × Option Str)} : FnOk P w K mg base CX k f fd ps (spD K xc ps.length fun _ => .bad) :=
  ⟨fun vs H Q E h => h.1, fun A outer s H args us vs Q E hr e0 hb hv h => by
    obtain ⟨_, _, _, _, _, _, z⟩ := h
    exact z.elim⟩
theorem isi_mk (T U : String) (g : String → Bool) (h : tys.all (fun t => match kitB t T, kitB t U with
    | some b, some c => g t == (b || c)
    | _, _ => false) = true) : ∀ t ∈ tys, ∃ b c, kitB t T = some b ∧ kitB t U = some c ∧ g t = (b || c) := fun t ht => by
  have h1 := List.all_eq_true.mp h t ht
  split at h1
  · rename_i b c e1 e2
    exact ⟨b, c, e1, e2, by simpa using h1⟩
  · cases h1
section
variable {X : Cx} {C : DC} {scope : Scope} {tg iter elt : Expr} {ifs : List Expr} {is : List Nat} {fi : M (List D)} {h : D → M Unit} {t : M Bool} {fe : M D} {pos : Pos}
theorem es_lcV (own : List (Str × Nat)) (vs : List Nat) (hi : EI X C tg iter fi) (hg : BG X C scope tg is h) (ht : BT X C scope ifs t) (he : BV X C scope elt fe) (hN : X.N.Nodup) (ok : BlkOk X.N X.env.scope scope own) (hv : own.map (·.2) = vs := by rfl) (hs : ∀ i ∈ is, i ∈ vs := by decide) (hc : X.calm = true := by rfl) (hf : ∀ x, foldedSetIterable iter X.env x = pure x := by intro _; rfl) :
    ES X C (.ListComp elt [⟨tg, iter, ifs, 0⟩] scope pos) (sComp vs fi h t fe) := by
  subst hv
  exact es_lc hi hg ht he hN ok hs hc hf
theorem sd_setLcV (i : Nat) (own : List (Str × Nat)) (vs : List Nat) {spos py : Pos} {y : Str} (hi : EI X C tg iter fi) (hg : BG X C scope tg is h) (ht : BT X C scope ifs t) (he : BV X C scope elt fe) (hN : X.N.Nodup) (ok : BlkOk X.N X.env.scope scope own) (hv : own.map (·.2) = vs := by rfl) (hs : ∀ i ∈ is, i ∈ vs := by decide) (hy : X.N[i]? = some y := by rfl) (hyl : X.env.scope.names.lookup y = some .local := by rfl)
    (hsw : swapsWith (.ListComp elt [⟨tg, iter, ifs, 0⟩] scope pos) (some (.Name y py)) spos.line X.env = pure true := by exact sw_true rfl rfl rfl (by decide +kernel)) (hc : X.calm = true := by rfl) (hf : ∀ x, foldedSetIterable iter X.env x = pure x := by intro _; rfl) :
    SD X C (.Assign [.Name y py] (.ListComp elt [⟨tg, iter, ifs, 0⟩] scope pos) spos) (sSet i (sComp vs fi h t fe)) := by
  subst hv
  exact sd_setLc i hi hg ht he hN ok hs hy hyl hsw hc hf
variable {f : Addr} {fd : FuncData} {ps : List Str} {g : List Slot → FRes} {k j n : Nat} {kws : List Keyword} {x : Str} {a : Expr} {es : List Expr} {p : Pos} {fs : M (List Arg)}
theorem es_callN (G : FnOk X.prog X.w X.K X.mg X.base (L2.CX X.prog X.w) k f fd ps (spD X.K C.xc n g)) (hr : Room j X.A) (tk : Takes X C.W) (hm : X.mg x = some (.ref f)) (hk : PySem.W.keepIn X.K (.ref f) = true) (hb : Binds X.K fd ps [])
    (ha : EG X C (a :: es) fs) (hkj : k ≤ j) (hn : ps.length = n := by rfl) (hg : Gl X x := by rfl) (hdb : (x == ("__debug__" : Str)) = false := by decide) (he : starEach (a :: es) X.env = (false, eval a X.env) :: starEach es X.env := by rfl) (hpl : (backTo pos (starEach es X.env)).any (·.1) = false := by rfl) :
    ES X C (.Call (.Name x p) (a :: es) [] pos) (dDefN n g fs) := by
  subst hn
  exact es_call G hr tk hm hk hb ha hkj hg hdb he hpl
theorem es_callKN (G : FnOk X.prog X.w X.K X.mg X.base (L2.CX X.prog X.w) k f fd ps (spD X.K C.xc n g)) (hr : Room j X.A) (tk : Takes X C.W) (hm : X.mg x = some (.ref f)) (hk : PySem.W.keepIn X.K (.ref f) = true) (hb : KB X.K fd ps)
    (ha : EK X C kws fs) (hkj : k ≤ j) (hn : ps.length = n := by rfl) (hall : (backToKw pos (keywordEach kws X.env)).all (·.1.isSome) = true := by rfl) (hks : (backToKw pos (keywordEach kws X.env)).filterMap (·.1) = ps := by rfl) (hg : Gl X x := by rfl)
    (hdb : (x == ("__debug__" : Str)) = false := by decide) (hpl : ((backTo pos (starEach [] X.env)).any (·.1) || (backToKw pos (keywordEach kws X.env)).any (·.1.isNone)) = false := by rfl) :
    ES X C (.Call (.Name x p) [] kws pos) (dDefN n g fs) := by
  subst hn
  exact es_callK G hr tk hm hk hb ha hkj hall hks hg hdb hpl
end
end DL

/-! DLSort: sorted(..) of data, dict(..) of pairs with keys that are data. -/
namespace DL
open PySem PySem.Spec PyProof.Rows L2
open PySem.W (AllAlike Sortable dataLe EachIs alike alikeAll)

/-! ### keys -/
mutual
def nk : D → Option NestedKey
  | .int i => some (.num i)
  | .str x => some (.text x)
  | .none => some .none
  | .tuple ds => (nks ds).map .tup
  | _ => none
def nks : List D → Option (List NestedKey)
  | [] => some []
  | d :: ds => match nk d, nks ds with
    | some k, some ks => some (k :: ks)
    | _, _ => none
end
theorem nks_cons {d : D} {ds : List D} {ks : List NestedKey} (h : nks (d :: ds) = some ks) : ∃ k r, nk d = some k ∧ nks ds = some r ∧ ks = k :: r := by
  unfold nks at h
  split at h
  · rename_i k r e1 e2
    cases h
    exact ⟨k, r, e1, e2, rfl⟩
  · cases h
mutual
theorem nk_data : ∀ (d : D) (k : NestedKey), nk d = some k → k.data = d
  | .int i, k, h => by unfold nk at h; cases h; rfl
  | .str x, k, h => by unfold nk at h; cases h; rfl
  | .none, k, h => by unfold nk at h; cases h; rfl
  | .bool b, k, h => by unfold nk at h; cases h
  | .list ds, k, h => by unfold nk at h; cases h
  | .dict ds, k, h => by unfold nk at h; cases h
  | .tuple ds, k, h => by
    unfold nk at h
    obtain ⟨ks, e1, e2⟩ := Option.map_eq_some_iff.mp h
    subst e2
    show PyData.tuple (NestedKey.datas ks) = _
    rw [nks_data ds ks e1]
theorem nks_data : ∀ (ds : List D) (ks : List NestedKey), nks ds = some ks → NestedKey.datas ks = ds
  | [], ks, h => by unfold nks at h; cases h; rfl
  | d :: ds, ks, h => by
    obtain ⟨k, r, e1, e2, rfl⟩ := nks_cons h
    show k.data :: NestedKey.datas r = _
    rw [nk_data d k e1, nks_data ds r e2]
end
mutual
theorem nk_is {h : Heap} : ∀ (d : D) (k : NestedKey) (v : Value) (as : List Addr), nk d = some k → Reads h v d as → NestedIs h k v
  | .int i, k, v, as, e, r => by unfold nk at e; cases e; cases r; exact .int _ _
  | .str x, k, v, as, e, r => by unfold nk at e; cases e; cases r; exact .text _ _
  | .none, k, v, as, e, r => by unfold nk at e; cases e; cases r; exact .none
  | .bool b, k, v, as, e, r => by unfold nk at e; cases e
  | .list ds, k, v, as, e, r => by unfold nk at e; cases e
  | .dict ds, k, v, as, e, r => by unfold nk at e; cases e
  | .tuple ds, k, v, as, e, r => by
    unfold nk at e
    obtain ⟨ks, e1, e2⟩ := Option.map_eq_some_iff.mp e
    subst e2
    cases r with
    | tuple h1 h2 h3 h4 => exact .tup h1 h2 h3 (nks_is ds ks _ _ e1 h4)
theorem nks_is {h : Heap} : ∀ (ds : List D) (ks : List NestedKey) (vs : List Value) (as : List Addr), nks ds = some ks → ReadsAll h vs ds as → NestedAll h ks vs
  | [], ks, vs, as, e, r => by unfold nks at e; cases e; cases r; exact .nil
  | d :: ds, ks, vs, as, e, r => by
    obtain ⟨k, r', e1, e2, rfl⟩ := nks_cons e
    cases r with
    | cons h1 h2 => exact .cons (nk_is d k _ _ e1 h1) (nks_is ds r' _ _ e2 h2)
end
/-- the first of equal ones -/
def addN {κ : Type} [DecidableEq κ] (acc : List κ) (k : κ) : List κ := if (acc.any fun x => decide (x = k)) = true then acc else acc ++ [k]
def dedN {κ : Type} [DecidableEq κ] (ks : List κ) : List κ := ks.foldl addN []
theorem any_mem {κ : Type} [DecidableEq κ] {l : List κ} {k : κ} : (l.any fun x => decide (x = k)) = true ↔ k ∈ l := by
  rw [List.any_eq_true]
  exact ⟨fun ⟨x, h, e⟩ => of_decide_eq_true e ▸ h, fun h => ⟨k, h, decide_eq_true rfl⟩⟩
theorem ded_map {κ μ : Type} [DecidableEq κ] [DecidableEq μ] (f : κ → μ) (hf : ∀ a b, f a = f b → a = b) : ∀ (ks acc : List κ), (ks.map f).foldl addN (acc.map f) = (ks.foldl addN acc).map f
  | [], acc => rfl
  | k :: ks, acc => by
    have e : (f k ∈ acc.map f) ↔ k ∈ acc := ⟨fun h => by
      obtain ⟨a, ha, e⟩ := List.mem_map.mp h
      exact hf _ _ e ▸ ha, fun h => List.mem_map.mpr ⟨k, h, rfl⟩⟩
    have q : addN (acc.map f) (f k) = (addN acc k).map f := by
      unfold addN
      by_cases h : k ∈ acc
      · rw [if_pos (any_mem.mpr (e.mpr h)), if_pos (any_mem.mpr h)]
      · rw [if_neg fun z => h (e.mp (any_mem.mp z)), if_neg fun z => h (any_mem.mp z), List.map_append]
        rfl
    rw [List.map_cons, List.foldl_cons, List.foldl_cons, q]
    exact ded_map f hf ks _
theorem keys_put {κ : Type} [DecidableEq κ] (kvs : List (κ × V)) (k : κ) (v : V) : (putK kvs k v).map (·.1) = addN (kvs.map (·.1)) k := by
  unfold putK addN
  rw [List.any_map]
  by_cases h : (kvs.any fun kv => decide (kv.1 = k)) = true
  · rw [if_pos h, if_pos (show (kvs.any ((fun x => decide (x = k)) ∘ fun x => x.1)) = true from h), List.map_map]
    refine List.map_congr_left fun x _ => ?_
    show (if x.1 = k then (x.1, v) else x).1 = x.1
    split <;> rfl
  · rw [if_neg h, if_neg (show ¬ (kvs.any ((fun x => decide (x = k)) ∘ fun x => x.1)) = true from h), List.map_append]
    rfl
theorem keys_merge : ∀ (more kvs : List (L2.Key × V)), (mergeK kvs more).map (·.1) = (more.map (·.1)).foldl addN (kvs.map (·.1))
  | [], kvs => rfl
  | p :: ps, kvs => by
    have := keys_merge ps (putK kvs p.1 p.2)
    rw [keys_put] at this
    exact this
def knKey : L2.Key → NestedKey
  | .inl i => .num i
  | .inr x => .text x
theorem knKey_inj (a b : L2.Key) (h : knKey a = knKey b) : a = b := by
  cases a <;> cases b <;> first | (injection h with h; rw [h]) | exact nomatch h
section
variable {κ : Type} [DecidableEq κ]
theorem atKey_isSome (xs : List (κ × Addr × Value)) (k : κ) : (atKey xs k).isSome = ((xs.map (·.1)).any fun x => decide (x = k)) := by
  unfold atKey
  rw [Option.isSome_map, List.any_map, Bool.eq_iff_iff, List.find?_isSome, List.any_eq_true]
  exact Iff.rfl
theorem keys_stored (xs : List (κ × Addr × Value)) (k : κ) (a : Addr) (v : Value) : (storedH xs k a v).map (·.1) = addN (xs.map (·.1)) k := by
  unfold storedH addN
  rw [atKey_isSome]
  split
  · rw [List.map_map]
    refine List.map_congr_left fun x _ => ?_
    show (PySem.putAt k v x).1 = x.1
    unfold PySem.putAt
    split <;> rfl
  · rw [List.map_append]
    rfl
theorem mem_stored {P : κ → Addr → Prop} (xs : List (κ × Addr × Value)) (k : κ) (a : Addr) (v : Value) (hx : ∀ x ∈ xs, P x.1 x.2.1) (hk : P k a) : ∀ x ∈ storedH xs k a v, P x.1 x.2.1 := by
  intro x hm
  unfold storedH at hm
  split at hm
  · obtain ⟨y, hy, rfl⟩ := List.mem_map.mp hm
    unfold PySem.putAt
    split
    · exact hx y hy
    · exact hx y hy
  · rcases List.mem_append.mp hm with h | h
    · exact hx x h
    · rw [List.mem_singleton.mp h]; exact hk
theorem keys_storedAll : ∀ (ps xs : List (κ × Addr × Value)), (storedAllH xs ps).map (·.1) = (ps.map (·.1)).foldl addN (xs.map (·.1))
  | [], xs => rfl
  | p :: ps, xs => by
    have := keys_storedAll ps (storedH xs p.1 p.2.1 p.2.2)
    rw [keys_stored] at this
    exact this
theorem mem_storedAll {P : κ → Addr → Prop} : ∀ (ps xs : List (κ × Addr × Value)), (∀ x ∈ xs, P x.1 x.2.1) → (∀ x ∈ ps, P x.1 x.2.1) → ∀ x ∈ storedAllH xs ps, P x.1 x.2.1
  | [], xs, h, _ => h
  | p :: ps, xs, h, g => mem_storedAll ps (storedH xs p.1 p.2.1 p.2.2) (mem_stored xs p.1 p.2.1 p.2.2 h (g p List.mem_cons_self)) fun x hx => g x (List.mem_cons_of_mem _ hx)
end

/-! ### a dict, by its keys -/
def KeysAt (d : Addr) (ks : List V) (h : Heap) : Prop := ∃ o es ep, h.get? d = some o ∧ o.ExactDict ∧ o.data = .dict es ep ∧ Vals ks (es.toList.map (·.key))
theorem KeysAt.keep {d : Addr} {ks : List V} {h h' : Heap} (x : KeysAt d ks h) (k : ∀ o, h.get? d = some o → h'.get? d = some o) : KeysAt d ks h' := by
  obtain ⟨o, es, ep, e, r⟩ := x
  exact ⟨o, es, ep, k o e, r⟩
theorem vals_map {α : Type} {f : α → V} {g : α → Value} (h : ∀ x, RelV (f x) (g x)) : ∀ xs : List α, Vals (xs.map f) (xs.map g)
  | [] => .nil
  | x :: xs => .cons (h x) (vals_map h xs)
theorem keysAt_dK {P : Program} {w : World} {H : Hp} {h : Heap} {a : Addr} {kvs : List (Key × V)} (ok : HOk P w H h) (e : H a = some (.dK kvs)) : KeysAt a (kvs.map fun kv => kV kv.1) h := by
  obtain ⟨_, _, vs, rel, o, es, ep, e1, e2, e3, _, e4, _⟩ := dk_of ok e
  refine ⟨o, es, ep, e1, e2, e3, ?_⟩
  have hk := rel.keys
  have : ∀ (en : List DictEntry) (vs : List (Key × Value)), Pairs (mixKind P w) en vs → Vals ((vs.map (·.1)).map kV) (en.map (·.key)) := by
    intro en vs r
    induction r with
    | nil => exact .nil
    | cons h1 h2 h3 ih => exact .cons (keyIs_rel h1) ih
  have q := this _ _ e4
  rw [← hk, List.map_map] at q
  exact q

/-! ### sorted -/
mutual
theorem reads_lt {h : Heap} : ∀ (d : D) (v : Value) (as : List Addr), alike d d = true → Reads h v d as → ∀ a ∈ as, a < h.objs.size
  | .none, _, _, _, r, a, m => by cases r; cases m
  | .bool _, _, _, _, r, a, m => by cases r; cases m
  | .int _, _, _, _, r, a, m => by cases r; cases m
  | .str _, _, _, _, r, a, m => by cases r; cases m
  | .list ds, _, _, q, r, a, m => by
    cases r with
    | list h1 h2 h3 h4 =>
      rcases List.mem_cons.mp m with rfl | m
      · exact Heap.lt_size h1
      · exact readsAll_lt ds _ _ (by simpa [alike] using q) h4 a m
  | .tuple ds, _, _, q, r, a, m => by
    cases r with
    | tuple h1 h2 h3 h4 => exact readsAll_lt ds _ _ (by simpa [alike] using q) h4 a m
  | .dict kvs, _, _, q, r, a, m => absurd q (by simp [alike])
theorem readsAll_lt {h : Heap} : ∀ (ds : List D) (vs : List Value) (as : List Addr), alikeAll ds ds = true → ReadsAll h vs ds as → ∀ a ∈ as, a < h.objs.size
  | [], _, _, _, r, a, m => by cases r; cases m
  | d :: ds, _, _, q, r, a, m => by
    have q' : alike d d = true ∧ alikeAll ds ds = true := by simpa [alikeAll] using q
    cases r with
    | cons h1 h2 =>
      rcases List.mem_append.mp m with m | m
      · exact reads_lt d _ _ q'.1 h1 a m
      · exact readsAll_lt ds _ _ q'.2 h2 a m
end
/-- what a value of the list stands for -/
def Stands (K : PySem.W.Frag) (H : Hp) (u : Value) (d : D) : Prop := ∃ x, RelV x u ∧ Dp K H x d
theorem each_stands {K : PySem.W.Frag} {H : Hp} : ∀ {xs : List V} {us : List Value} {ds : List D}, Vals xs us → DpAll K H xs ds → EachIs (Stands K H) us ds
  | _, _, [], r, d => by cases d; cases r; exact .nil
  | _, _, e :: ds, r, d => by
    cases d with
    | cons d1 d2 =>
      cases r with
      | cons r1 r2 => exact .cons ⟨_, r1, d1⟩ (each_stands r2 d2)
theorem stands_each {K : PySem.W.Frag} {H : Hp} : ∀ {us : List Value} {ds : List D}, EachIs (Stands K H) us ds → ∃ xs, Vals xs us ∧ DpAll K H xs ds
  | _, _, .nil => ⟨[], .nil, .nil⟩
  | _, _, .cons ⟨x, r, d⟩ t => by
    obtain ⟨xs, r2, d2⟩ := stands_each t
    exact ⟨x :: xs, .cons r r2, .cons d d2⟩
theorem each_mono {α β : Type} {R S : α → β → Prop} (h : ∀ a b, R a b → S a b) : ∀ {as : List α} {bs : List β}, EachIs R as bs → EachIs S as bs
  | _, _, .nil => .nil
  | _, _, .cons r t => .cons (h _ _ r) (each_mono h t)
theorem each_mem' {α β : Type} {R : α → β → Prop} : ∀ {as : List α} {bs : List β}, EachIs R as bs → EachIs (fun a b => R a b ∧ b ∈ bs) as bs
  | _, _, .nil => .nil
  | _, _, .cons r t => .cons ⟨r, List.mem_cons_self⟩ (each_mono (fun _ _ h => ⟨h.1, List.mem_cons_of_mem _ h.2⟩) (each_mem' t))
def srt (ds : List D) : List D := ds.mergeSort (dataLe false id)
/-- the things can be sorted -/
def SrtOk (ds : List D) : Prop := AllAlike ds ∧ Sortable ds ∧ ∀ d ∈ ds, d.depth ≤ 60
def rSortedL (K : PySem.W.Frag) : List V → Hp → VK → Prop := fun vs H Q => ∃ (F : Hp) (a : Addr) (xs : List V) (ds : List D), (∀ a o, F a = some o → H a = some o) ∧ vs = [V.ref a] ∧ SqL K H a xs ∧ DpAll K F xs ds ∧ SrtOk ds ∧
  ∀ (ys : List V) (p : Addr), DpAll K F ys (srt ds) → H p = none → Q (.ref p) (upd H p (.lst ys))
def rSortedK (P : Program) (w : World) (K : PySem.W.Frag) : List V → Hp → VK → Prop := fun vs H Q => ∃ (F : Hp) (a : Addr) (xs : List V) (ds : List D), (∀ a o, F a = some o → H a = some o) ∧ vs = [V.ref a] ∧ (∀ h, HOk P w H h → (a == sysModules) = false ∧ xs.length ≤ sizeLine ∧ KeysAt a xs h) ∧ DpAll K F xs ds ∧ SrtOk ds ∧
  ∀ (ys : List V) (p : Addr), DpAll K F ys (srt ds) → H p = none → Q (.ref p) (upd H p (.lst ys))
section
variable {X : Cx}
theorem cr_sortedL (hu : X.A.units + 64 < cLine) : CallR X (.builtin "sorted") (rSortedL X.K) := by
  intro pins s σ H vs us Q I r h
  obtain ⟨F, a, xs, ds, sb, rfl, hs, hd, ⟨s1, s2, s3⟩, q⟩ := h
  obtain ⟨its, rv, hl, hz⟩ := I.list hs
  rw [Vals.ref1 r]
  have he := each_stands rv hd
  refine PySem.W.sorted_data (enc := id) hl.isList he (each_mono (fun u d ⟨x, r, e⟩ => Dp.reads I d x u (dp_mono sb e) r) he) (by rw [List.map_id]; exact s1) (by rw [List.map_id]; exact s2) (by rw [← dps_length hd]; exact hz) (fun b hb => ?_) fun out ho eo => ?_
  · have : b.depth ≤ 60 := s3 b hb
    show X.A.units + 2 + b.depth < cLine
    omega
  · obtain ⟨ys, ry, dy⟩ := stands_each eo
    obtain ⟨ep, he'⟩ := PyProof.Rows.sortedAll_at s.heap its out.toArray
    have hlen : ys.length ≤ sizeLine := by
      rw [ry.length, ho, ← dps_length hd]
      exact hz
    exact ⟨.ref _, upd H (s.heap.objs.size + 1) (.lst ys), I.laid (t' := s.toks) (fun _ _ => PyProof.Rows.sortedAll_old) (Nat.le_succ _) ⟨hlen, out, ep, ry, he'⟩, rfl, q ys _ dy (I.hok.fresh (Nat.le_succ _))⟩
theorem cr_sortedK (hc : X.calm = true) (hu : X.A.units + 64 < cLine) : CallR X (.builtin "sorted") (rSortedK X.prog X.w X.K) := by
  intro pins s σ H vs us Q I r h
  obtain ⟨F, a, xs, ds, sb, rfl, hk, hd, ⟨s1, s2, s3⟩, q⟩ := h
  rw [Vals.ref1 r]
  obtain ⟨hmod, hz, o, es, ep, ho, hx, hdt, rk⟩ := hk _ I.hok
  have hsz : es.size = xs.length := by rw [rk.length, List.length_map, Array.length_toList]
  refine Calls.call_function_entry PyProof.Rows.kind_sorted PyProof.Rows.plain_sorted PyProof.Rows.entry_sorted (PyProof.Rows.args_sorted1 _) ?_
  unfold Builtin.«sorted»
  refine wpAny_bind (m := checkCount "sorted" 1 1 _) (wpAny_pure ?_)
  refine wpAny_bind (PySem.W.kdu_collect (A := X.A.in1) (kdl_raw hmod hx hdt) (I.ok.hd hc) ho (by rw [hsz]; exact hz) fun h' tk acc hkp hacc => ?_)
  have hal : acc.toList = es.toList.map (·.key) := by
    have hl : acc.toList.length = es.size := by rw [Array.length_toList, hacc.1]
    apply List.ext_getElem?
    intro j
    rw [List.getElem?_map]
    cases hj : acc.toList[j]? with
    | none =>
      have h1 := List.getElem?_eq_none_iff.mp hj
      rw [List.getElem?_eq_none (by rw [Array.length_toList]; omega)]
      rfl
    | some v =>
      obtain ⟨en, hen, hv⟩ := hacc.2 j v (by rw [← Array.getElem?_toList]; exact hj)
      rw [Array.getElem?_toList, hen, hv]
      rfl
  rw [← hal] at rk
  have I1 : Inv X pins σ H { s with heap := h', toks := tk } := I.kept hkp
  refine wpAny_bind (wpAny_newList ?_ (by rw [← rk.length]; exact hz))
  have hoL : (h'.push (seqObj "list" acc.toList.toArray 0)).get? h'.objs.size = some (seqObj "list" acc.toList.toArray 0) := Heap.get?_push_size _ rfl
  show wpAny _ _ _ _ _ { s with heap := h'.push (seqObj "list" acc.toList.toArray 0), toks := tk }
  have he := each_stands rk hd
  have er : EachIs (fun v b => ∃ as, Reads (h'.push (seqObj "list" acc.toList.toArray 0)) v (id b) as ∧ h'.objs.size ∉ as) acc.toList ds := by
    refine each_mono (fun u d ⟨⟨x, r, e⟩, hm⟩ => ?_) (each_mem' he)
    obtain ⟨as, rd⟩ := Dp.reads I1 d x u (dp_mono sb e) r
    refine ⟨as, PyProof.Rows.Reads.keeps (fun b o e => Heap.get?_push_of_some _ e) rd, fun m => ?_⟩
    exact absurd (reads_lt d u as (s1 d hm d hm) rd _ m) (Nat.lt_irrefl _)
  refine wpAny_bind (wpAny_holding (PySem.W.list_sort_data (enc := id) (s := { s with heap := h'.push (seqObj "list" acc.toList.toArray 0), toks := tk }) hoL he er (by rw [List.map_id]; exact s1) (by rw [List.map_id]; exact s2) (by rw [← dps_length hd]; exact hz) (fun b hb => ?_) fun out hlo eo => ?_))
  · have : b.depth ≤ 60 := s3 b hb
    show X.A.units + 1 + 1 + b.depth < cLine
    omega
  · obtain ⟨ys, ry, dy⟩ := stands_each eo
    obtain ⟨e', he'⟩ := PyProof.Rows.sortedHeap_at (vs := acc.toList) (out := out.toArray) hoL
    have hlen : ys.length ≤ sizeLine := by
      rw [ry.length, hlo, ← dps_length hd]
      exact hz
    refine wpAny_pure ⟨_, rfl, .ref h'.objs.size, upd H h'.objs.size (.lst ys), I1.laid (t' := tk) (fun b u e => ?_) (Nat.le_refl _)
      (show ObjOk X.prog X.w _ _ _ (.lst ys) from ⟨hlen, out, e', ry, he'⟩), rfl, q ys _ dy (I1.hok.fresh (Nat.le_refl _))⟩
    have hb : b < h'.objs.size := Heap.lt_size e
    rw [PyProof.Rows.sortedHeap_old (Nat.ne_of_lt hb) (by rw [size_push']; exact Nat.lt_succ_of_lt hb)]
    exact Heap.get?_push_of_some _ e
end

/-! ### dict(pairs), by its keys -/
def pairKeys : List D → Option (List D)
  | [] => some []
  | .tuple [k, _] :: r => (pairKeys r).map fun ks => k :: ks
  | _ => none
theorem pairKeys_cons {d : D} {ds ks : List D} (h : pairKeys (d :: ds) = some ks) : ∃ k v r, d = .tuple [k, v] ∧ pairKeys ds = some r ∧ ks = k :: r := by
  unfold pairKeys at h
  split at h
  · rename_i e; cases e
  · rename_i k v r' e
    cases e
    obtain ⟨ks', e1, e2⟩ := Option.map_eq_some_iff.mp h
    exact ⟨k, v, ks', rfl, e1, e2.symm⟩
  · cases h
def keyD : L2.Key → D
  | .inl i => .int i
  | .inr x => .str x
def keyOf : D → Option L2.Key
  | .int i => some (.inl i)
  | .str x => some (.inr x)
  | _ => none
def keysOf : List D → Option (List L2.Key)
  | [] => some []
  | d :: ds => match keyOf d, keysOf ds with
    | some k, some ks => some (k :: ks)
    | _, _ => none
theorem keysOf_cons {d : D} {ds : List D} {ks : List L2.Key} (h : keysOf (d :: ds) = some ks) : ∃ k r, keyOf d = some k ∧ keysOf ds = some r ∧ ks = k :: r := by
  unfold keysOf at h
  split at h
  · rename_i k r e1 e2
    cases h
    exact ⟨k, r, e1, e2, rfl⟩
  · cases h
theorem keyOf_dp {K : PySem.W.Frag} {H : Hp} {d : D} {k : L2.Key} {v : V} (h : keyOf d = some k) (r : Dp K H v d) : v = kV k := by
  unfold keyOf at h
  split at h
  · cases h; cases r; rfl
  · cases h; cases r; rfl
  · cases h
theorem dps_keys {K : PySem.W.Frag} {H : Hp} : ∀ ks : List L2.Key, DpAll K H (ks.map kV) (ks.map keyD)
  | [] => .nil
  | .inl i :: ks => .cons (.int i) (dps_keys ks)
  | .inr x :: ks => .cons (.str x) (dps_keys ks)
theorem pairsK_of {K : PySem.W.Frag} {H : Hp} : ∀ {xs : List V} {ds kds : List D} {ks : List L2.Key}, DpAll K H xs ds → pairKeys ds = some kds → keysOf kds = some ks →
    ∃ (ps : List Addr) (kvs : List (L2.Key × V)), xs = ps.map V.ref ∧ Paired (fun p kv => SqT K H p [kV kv.1, kv.2]) ps kvs ∧ kvs.map (·.1) = ks
  | _, [], kds, ks, d, e1, e2 => by
    unfold pairKeys at e1
    cases e1
    unfold keysOf at e2
    cases e2
    cases d
    exact ⟨[], [], rfl, .nil, rfl⟩
  | _, _ :: ds, kds, ks, d, e1, e2 => by
    obtain ⟨k, v, r, rfl, e3, rfl⟩ := pairKeys_cons e1
    obtain ⟨kk, rr, e4, e5, rfl⟩ := keysOf_cons e2
    cases d with
    | cons d1 d2 =>
      obtain ⟨ps, kvs, rfl, h1, h2⟩ := pairsK_of d2 e3 e5
      cases d1 with
      | tup q1 q2 =>
        obtain ⟨x, y, rfl, dx, dy⟩ := dps2 q2
        have := keyOf_dp e4 dx
        subst this
        exact ⟨_ :: ps, (kk, y) :: kvs, rfl, .cons q1 h1, by rw [List.map_cons, h2]⟩
def isTupN : NestedKey → Bool
  | .tup _ => true
  | _ => false
section
variable {X : Cx} {pins : List (Addr × Obj)} {σ : Sg} {s : Shared}
theorem pairsH_of {F H : Hp} (sb : ∀ a o, F a = some o → H a = some o) (I : Inv X pins σ H s) : ∀ {xs : List V} {us : List Value} {ds kds : List D} {ns : List NestedKey}, Vals xs us → DpAll X.K F xs ds → pairKeys ds = some kds → nks kds = some ns → (∀ n ∈ ns, isTupN n = true) →
    ∃ (Ts : List Addr) (ps : List (NestedKey × Addr × Value)), us = Ts.map Value.ref ∧ ps.length = Ts.length ∧ ps.map (·.1) = ns ∧ (∀ (j : Nat) (q : NestedKey × Addr × Value), ps[j]? = some q → ∃ b, Ts[j]? = some b ∧ PairAt s.heap b (.ref q.2.1) q.2.2) ∧ ∀ q ∈ ps, NestedIs s.heap q.1 (.ref q.2.1) ∧ Dp X.K F (V.ref q.2.1) q.1.data
  | _, _, [], kds, ns, rv, d, e1, e2, _ => by
    unfold pairKeys at e1
    cases e1
    unfold nks at e2
    cases e2
    cases d
    cases rv
    exact ⟨[], [], rfl, rfl, rfl, fun j q e => by simp at e, fun q hq => by cases hq⟩
  | _, _, _ :: ds, kds, ns, rv, d, e1, e2, hn => by
    obtain ⟨k, v, r, rfl, e3, rfl⟩ := pairKeys_cons e1
    obtain ⟨n, nr, e4, e5, rfl⟩ := nks_cons e2
    cases d with
    | cons d1 d2 =>
      cases rv with
      | cons r1 r2 =>
        obtain ⟨Ts, ps, rfl, h1, h2, h3, h4⟩ := pairsH_of sb I r2 d2 e3 e5 fun n hm => hn n (List.mem_cons_of_mem _ hm)
        cases d1 with
        | tup q1 q2 =>
          obtain ⟨x, y, rfl, dx, dy⟩ := dps2 q2
          obtain ⟨its, rt, ht, _⟩ := I.tuple (sqT_mono sb q1)
          obtain ⟨u, w, rfl, ru, rw'⟩ := vals2 rt
          cases r1
          obtain ⟨as, rd⟩ := Dp.reads I k x u (dp_mono sb dx) ru
          have hk := nk_is k n u as e4 rd
          have ht1 := hn n List.mem_cons_self
          cases hk with
          | @tup b o vs m ks g1 g2 g3 g4 =>
            cases dx with
            | tup z1 z2 =>
              cases ru
              refine ⟨_ :: Ts, (.tup ks, b, w) :: ps, rfl, by rw [List.length_cons, List.length_cons, h1], by rw [List.map_cons, h2], fun j q e => ?_, fun q hq => ?_⟩
              · cases j with
                | zero =>
                  have e' : (NestedKey.tup ks, b, w) = q := Option.some.inj e
                  subst e'
                  obtain ⟨o', t1, t2, n', t3⟩ := ht
                  exact ⟨_, rfl, .inl ⟨o', t1, t2, n', t3⟩⟩
                | succ j =>
                  obtain ⟨b', e6, e7⟩ := h3 j q (by simpa using e)
                  exact ⟨b', by simpa using e6, e7⟩
              · rcases List.mem_cons.mp hq with rfl | hq
                · exact ⟨.tup g1 g2 g3 g4, by rw [nk_data _ _ e4]; exact .tup z1 z2⟩
                · exact h4 q hq
            | _ => simp [nk] at e4
          | _ => cases ht1
end
def rDictK (K : PySem.W.Frag) : List V → Hp → VK → Prop := fun xs H Q => ∃ (a : Addr) (ps : List Addr) (kvs : List (L2.Key × V)), xs = [.ref a] ∧ SqL K H a (ps.map V.ref) ∧ Paired (fun p kv => SqT K H p [kV kv.1, kv.2]) ps kvs ∧
    ∀ p, H p = none → Q (.ref p) (upd H p (.dK (mergeK [] kvs)))
def rDictH (K : PySem.W.Frag) : List V → Hp → VK → Prop := fun xs H Q => ∃ (F : Hp) (a : Addr) (ys : List V) (ds kds : List D) (ns : List NestedKey), (∀ a o, F a = some o → H a = some o) ∧ xs = [.ref a] ∧ SqL K H a ys ∧ DpAll K F ys ds ∧ pairKeys ds = some kds ∧ nks kds = some ns ∧ (∀ n ∈ ns, isTupN n = true ∧ n.depth ≤ 8) ∧
    ∀ p zs, H p = none → zs.length ≤ sizeLine → DpAll K F zs ((dedN ns).map NestedKey.data) → (p == sysModules) = false → Q (.ref p) (upd H p (.ext (KeysAt p zs)))
theorem vals_storeds : ∀ xs : List (NestedKey × Addr × Value), Vals (xs.map fun x => V.ref x.2.1) (xs.map fun x => Value.ref x.2.1)
  | [] => .nil
  | x :: xs => .cons rfl (vals_storeds xs)
theorem dps_storeds {K : PySem.W.Frag} {H : Hp} : ∀ xs : List (NestedKey × Addr × Value), (∀ x ∈ xs, Dp K H (V.ref x.2.1) x.1.data) → DpAll K H (xs.map fun x => V.ref x.2.1) ((xs.map (·.1)).map NestedKey.data)
  | [], _ => .nil
  | x :: xs, h => .cons (h x List.mem_cons_self) (dps_storeds xs fun y hy => h y (List.mem_cons_of_mem _ hy))
section
variable {X : Cx}
theorem cr_dictH (hc : X.calm = true) (hu : X.A.units + 64 < cLine) : CallR X (.type "dict") (rDictH X.K) := by
  intro pins s σ H xs us Q I r h
  obtain ⟨F, a, ys, ds, kds, ns, sb, rfl, hs, hd, e1, e2, hn, q⟩ := h
  obtain ⟨u, rfl, rx⟩ := vals1 r
  cases rx
  obtain ⟨its, rv, pl, hz⟩ := I.list hs
  obtain ⟨Ts, ps, rfl, h1, h2, h3, h4⟩ := pairsH_of sb I rv hd e1 e2 fun n hm => (hn n hm).1
  have hdep : ∀ q ∈ ps, q.1.depth ≤ 8 := fun q hq => (hn _ (by rw [← h2]; exact List.mem_map.mpr ⟨q, hq, rfl⟩)).2
  have hlen : (ps.map fun q => (Value.ref q.2.1, q.2.2)).length = ps.length := List.length_map _
  have hz' : ps.length ≤ sizeLine := by
    have := rv.length
    rw [List.length_map] at this
    omega
  refine call_dict_pairsH (knd := nestedKind X.prog X.w) (PairArg.list a (Ts.map Value.ref).toArray (fun j => Ts.getD j 0) (ps.map fun q => (Value.ref q.2.1, q.2.2))) (I.ok.hd hc) (show X.A.units + 1 + 1 + 8 < cLine by omega) ⟨pl, ?_⟩ (ps := ps) ⟨hlen.symm, ?_⟩ ?_ (by rw [hlen]; exact hz') ?_
  · refine ⟨by simp [h1], fun j k v e => ?_⟩
    rw [List.getElem?_map] at e
    obtain ⟨q', e3, e4⟩ := Option.map_eq_some_iff.mp e
    cases e4
    obtain ⟨b, e5, e6⟩ := h3 j q' e3
    have eb : Ts.getD j 0 = b := by rw [List.getD_eq_getElem?_getD, e5]; rfl
    show _ = some (Value.ref (Ts.getD j 0)) ∧ PairAt s.heap (Ts.getD j 0) _ _
    rw [eb]
    exact ⟨by simp [e5], e6⟩
  · intro i key v e
    rw [PairRel, List.getElem?_map] at e
    obtain ⟨q', e3, e4⟩ := Option.map_eq_some_iff.mp e
    cases e4
    exact ⟨q'.1, q'.2.1, e3, rfl⟩
  · intro h' hk x hx
    obtain ⟨g1, g2⟩ := h4 x hx
    refine ⟨?_, hdep x hx⟩
    exact NestedIs.at (fun b o vs n hb hc => hk b o (Nat.ne_of_lt (Heap.lt_size hb)) (by simp) hb) _ _ g1
  · intro h' tk hd' hk
    have hm : (s.heap.objs.size == sysModules) = false := beq_eq_false_iff_ne.mpr (Nat.ne_of_gt I.big)
    have hks : (storedAllH [] ps).map (·.1) = dedN ns := by
      rw [keys_storedAll, h2]
      rfl
    have hmem := mem_storedAll (P := fun k a => Dp X.K F (V.ref a) k.data) ps [] (fun x hx => by cases hx) (fun x hx => (h4 x hx).2)
    have hzs : ((storedAllH [] ps).map fun x => V.ref x.2.1).length ≤ sizeLine := by
      rw [List.length_map]
      have := storedAllH_length ps []
      simp only [List.length_nil, Nat.zero_add] at this
      omega
    obtain ⟨o, es, ep, g1, g2, g3, g4, g5, g6⟩ := hd'
    have hka : KeysAt s.heap.objs.size ((storedAllH [] ps).map fun x => V.ref x.2.1) h' := ⟨o, es, ep, g1, g2, g3, by
      rw [g4, List.map_map]
      exact vals_storeds _⟩
    refine ⟨.ref s.heap.objs.size, upd H s.heap.objs.size (.ext (KeysAt s.heap.objs.size ((storedAllH [] ps).map fun x => V.ref x.2.1))), I.laid (t' := tk) (fun b o e => hk b o (by simp) e) (Nat.le_refl _) ⟨hka, ⟨o, g1⟩, fun h1 h2 x k => x.keep k⟩, rfl, q _ _ (I.hok.fresh (Nat.le_refl _)) hzs ?_ hm⟩
    have := dps_storeds _ hmem
    rw [hks] at this
    exact this
end

/-! ### the rules -/
def isTupNE : D → Bool
  | .tuple (_ :: _) => true
  | _ => false
def isPl : D → Bool
  | .none => false
  | .tuple _ => false
  | _ => true
def srtB (ds : List D) : Bool := ds.all (fun d => ds.all fun d' => alike d d') && (ds.all isTupNE || ds.all isPl) && ds.all (fun d => decide (d.depth ≤ 60))
theorem srtB_ok {ds : List D} (h : srtB ds = true) : SrtOk ds := by
  unfold srtB at h
  simp only [Bool.and_eq_true, Bool.or_eq_true, List.all_eq_true, decide_eq_true_eq] at h
  obtain ⟨⟨h1, h2⟩, h3⟩ := h
  refine ⟨fun d hd d' hd' => h1 d hd d' hd', ?_, h3⟩
  rcases h2 with h2 | h2
  · refine .inl fun d hd => ?_
    have := h2 d hd
    unfold isTupNE at this
    split at this
    · exact ⟨_, _, rfl⟩
    · cases this
  · refine .inr fun d hd => ?_
    have := h2 d hd
    unfold isPl at this
    split at this
    · cases this
    · cases this
    · rename_i e1 e2
      exact ⟨fun e => e1 e, fun xs e => e2 xs e⟩
def chkS (ds : List D) : Option D := if srtB ds = true then some (.list (srt ds)) else none
def cSorted : List D → Option D
  | [.list ds] => chkS ds
  | _ => none
section
variable {X : Cx} {C : DC}
theorem cd_sorted (hu : X.A.units + 64 < cLine ∧ X.A.units + 65 < cLine) : CD X (.builtin "sorted") cSorted := by
  refine ⟨_, cr_sortedL hu.1, fun F H xs ds c Q sb dx e q => ?_⟩
  unfold cSorted at e
  split at e
  · unfold chkS at e
    split at e
    · rename_i hs
      cases e
      obtain ⟨x, rfl, h⟩ := dps1 dx
      cases h with
      | lst h1 h2 => exact ⟨F, _, _, _, sb, rfl, sqL_mono sb h1, h2, srtB_ok hs, fun ys p hy hp => q _ _ _ (Grw.laid sb hp) (.lst (SqL.of upd_same) (dps_mono (upd_grow (free_of sb hp)) hy))⟩
    · cases e
  · cases e

def sortedDict : D → Option D
  | .list ps => match pairKeys ps with
    | some kds => match keysOf kds with
      | some ks => chkS ((dedN ks).map keyD)
      | none => match nks kds with
        | some ns => if (ns.all fun n => isTupN n && decide (n.depth ≤ 8)) = true then chkS ((dedN ns).map NestedKey.data) else none
        | none => none
    | none => none
  | _ => none
def dSortedDict (fe : M D) : M D := bnd fe fun d => lif (sortedDict d)
variable {e : Expr} {fe : M D} {p1 p2 pos1 pos2 : Pos}
theorem chkS_some {ds : List D} {c : D} (h : chkS ds = some c) : SrtOk ds ∧ c = .list (srt ds) := by
  unfold chkS at h
  split at h
  · rename_i hs
    cases h
    exact ⟨srtB_ok hs, rfl⟩
  · cases h
theorem ev_sortedDict (hu : X.A.units + 64 < cLine ∧ X.A.units + 65 < cLine) (hmS : X.mg "sorted" = none) (hmD : X.mg "dict" = none) (he : EV X C e fe) (hc : X.calm = true := by rfl) (hgS : Gl X "sorted" := by rfl) (hgD : Gl X "dict" := by rfl)
    (hs : starEach [e] X.env = (false, eval e X.env) :: starEach [] X.env := by rfl) (hs2 : starEach [.Call (.Name "dict" p2) [e] [] pos2] X.env = (false, eval (.Call (.Name "dict" p2) [e] [] pos2) X.env) :: starEach [] X.env := by rfl)
    (hpl : ∀ pos, (backTo pos (starEach [] X.env)).any (·.1) = false := by intro _; rfl) : EV X C (.Call (.Name "sorted" p1) [.Call (.Name "dict" p2) [e] [] pos2] [] pos1) (dSortedDict fe) := by
  obtain ⟨te, pe, se⟩ := he
  refine ⟨_, pe_callB (cr_sortedK hc hu.1) hgS hmS (by decide +kernel) (pa_cons (pe_callTy ((call_dictP hc).or (cr_dictH hc hu.1)) hgD hmD (by decide +kernel) (pa_cons pe pa_nil hs) (by decide) (by decide) hs (hpl _)) pa_nil hs2) (by decide) (by decide) hs2 (hpl _), fun F H σ r Q en w => ?_⟩
  refine se F H σ r _ en (w.bnd.imp fun d r1 F1 H1 e1 s1 w1 v dv => ?_)
  obtain ⟨_, _, w1⟩ := w1
  cases hd : sortedDict d with
  | none => rw [hd] at w1; exact w1.elim
  | some c =>
    rw [hd] at w1
    have fin : ∀ (p q : Addr) (o : HO) (ys : List V) (ds : List D), H1 p = none → upd H1 p o q = none → c = .list ds → DpAll X.K F1 ys ds → Q (.ref q) (upd (upd H1 p o) q (.lst ys)) := fun p q o ys ds hp hq ec dy => by
      subst ec
      have e2 := e1.laidH (o := o) hp
      have e3 := e2.laid (o := .lst ys) hq
      have s2 : Stp F1 H1 (Ow σ r1) F1 (upd H1 p o) (Ow σ r1) := Stp.laidH hp
      have s3 : Stp F1 (upd H1 p o) (Ow σ r1) (upd F1 q (.lst ys)) (upd (upd H1 p o) q (.lst ys)) (Ow σ r1) := Stp.laid (e2.free hq) hq
      exact w1 _ _ e3 (s2.trans s3) _ (.lst (SqL.of upd_same) (dps_mono (upd_grow (e2.free hq)) dy))
    unfold sortedDict at hd
    split at hd
    · rename_i ps
      split at hd
      · rename_i kds ek
        cases dv with
        | lst q1 q2 =>
          split at hd
          · rename_i ks ekk
            obtain ⟨hso, rfl⟩ := chkS_some hd
            obtain ⟨pp, kvs, rfl, g1, g2⟩ := pairsK_of q2 ek ekk
            refine .inl ⟨_, pp, kvs, rfl, sqL_mono e1.sub q1, Paired.mapP g1 (fun a b z => sqT_mono e1.sub z), fun p hp => ?_⟩
            have hkeys : (mergeK [] kvs).map (·.1) = dedN ks := by rw [keys_merge, g2]; rfl
            have hdp : DpAll X.K F1 ((mergeK [] kvs).map fun kv => kV kv.1) ((dedN ks).map keyD) := by
              have := dps_keys (K := X.K) (H := F1) (dedN ks)
              rw [← hkeys, List.map_map] at this
              rw [hkeys] at this
              exact this
            refine ⟨F1, p, _, _, fun a o h => upd_grow hp a o (e1.sub a o h), rfl, fun h ok => ?_, hdp, hso, fun ys q hy hq => fin p q _ ys _ hp hq rfl hy⟩
            obtain ⟨z1, z2, _⟩ := dk_of ok upd_same
            exact ⟨z2, by rw [List.length_map]; exact z1, keysAt_dK ok upd_same⟩
          · split at hd
            · rename_i ns en'
              split at hd
              · rename_i hall
                obtain ⟨hso, rfl⟩ := chkS_some hd
                refine .inr ⟨F1, _, _, _, kds, ns, e1.sub, rfl, sqL_mono e1.sub q1, q2, ek, en', fun n hn => ?_, fun p zs hp hz dz hm => ?_⟩
                · have := List.all_eq_true.mp hall n hn
                  simpa using this
                · refine ⟨F1, p, zs, _, fun a o h => upd_grow hp a o (e1.sub a o h), rfl, fun h ok => ⟨hm, hz, ?_⟩, dz, hso, fun ys q hy hq => fin p q _ ys _ hp hq rfl hy⟩
                  exact (ok p _ upd_same).1
              · cases hd
            · cases hd
      · cases hd
    · cases hd
end
end DL

/-! DLExc: own exception classes whose __init__ says super().__init__(x); self.x = x. (Began as the text of worked proof 42, turned to such classes.) -/
namespace PySem
namespace SupX
theorem ns1_one {h : Heap} {a : Addr} {name : Str} {hsh : Int} {t : Tok} {v : Value} {n : Nat} (e : h.get? a = some (PySem.W.dictOf [⟨hsh, .str name t, v⟩] n)) : h.Ns1 a (fun y => if y = name then some v else none) := by
  refine ⟨_, #[⟨hsh, .str name t, v⟩], n, e, rfl, fun en hen => ?_, ?_, fun y => ?_⟩
  · have : en = ⟨hsh, .str name t, v⟩ := by simpa using hen
    subst this
    exact ⟨name, t, rfl⟩
  · unfold UniqKeys
    simp
  · unfold nsFind findBy
    by_cases hy : y = name
    · subst hy
      simp [Value.isStr]
    · have hy' : name ≠ y := fun z => hy z.symm
      simp [Value.isStr, hy, hy']
end SupX
end PySem

/-! DLTry: raise, try .. except X as n, what its suite asks. -/
namespace L2
open PySem PySem.Spec PyProof.Rows
/-- what an exception class at C says, whose instances hold the field f -/
structure ExF (K : PySem.W.Frag) (C : Addr) (f : Str) : Prop where
  ga : PySem.W.findIn K (.ref C) "__getattribute__" = some (some (.builtin "BaseException.__getattribute__"))
  gg : PySem.W.findIn K (.ref C) "__getattr__" = some none
  ex : PySem.W.subIn K (.ref C) (.type "BaseException") = some true
  hd : PySem.W.hasDictIn K C = true
  no : PySem.W.findIn K (.ref C) f = some none
  cl : (PySem.W.clsIn K C).isSome = true
  ha : PySem.W.findIn K (.ref C) "__class__" = some (some (.builtin "object.__class__"))
  hn : PySem.W.specialIn K (.builtin "object.__class__") "__get__" = some (some (.builtin "getset_descriptor.__get__"))
  ht : PySem.W.takesIn K (.builtin "object.__class__") = some true
  hm : PySem.W.mroIn K C (.type "object") = some true
/-- C(e): the class, its dict with the one field -/
def tMkX (C : Addr) (f : Str) (ta : TA) : St → Hp → XK → Prop := fun σ H Q => ta σ H fun vs H1 => ∃ v, vs = [v] ∧ ∀ d, H1 d = none → Q (.ref C) (some d) (upd H1 d (.xd [(f, v)]))
theorem relO_one {f0 : Str} {v : V} {v' : Value} (r : RelV v v') (f : Str) : RelO (List.lookup f [(f0, v)]) (if f = f0 then some v' else none) := by
  by_cases hw : f = f0
  · subst hw
    rw [if_pos rfl]
    have q : List.lookup f [(f, v)] = some v := by simp [List.lookup]
    rw [q]
    exact r
  · rw [if_neg hw]
    have qw : (f == f0) = false := by simpa using hw
    have q2 : List.lookup f [(f0, v)] = none := by simp [List.lookup, qw]
    rw [q2]
    trivial
section
variable {X : Cx} {C : Addr} {f : Str}
/-- err.f, err held by the suite -/
theorem pe_byX {a : Addr} {oe : Obj} {d : Addr} {pn : List (Addr × Obj)} {e : Expr} {te : TE} {pos : Pos} (T : ExF X.K C f) (hz : Zc (.ref C) (some d) oe) (hf : ∃ vs, oe.data = .fields vs) (he : PE (X.suite a ((a, oe) :: pn)) e te)
    (hb : attributeBase e f X.env (eval e X.env) = eval e X.env) :
    PE (X.suite a ((a, oe) :: pn)) (.Attribute e f pos) (fun σ H Q => te σ H fun x H1 => x = .ref a ∧ ∃ v : V, H1 d = some (.xd [(f, v)]) ∧ Q v H1) := by
  refine ⟨fun pins s σ H Q I h => ?_⟩
  refine attr_of hb (thn (he.run pins s σ H _ I h) fun u s1 hh => ?_)
  obtain ⟨x, H1, I1, rx, ex, v, ea, q⟩ := hh
  subst ex
  obtain rfl : u = Value.ref a := rx
  obtain ⟨ha, _⟩ := I1.pin (a, oe) (List.mem_append_left _ List.mem_cons_self)
  obtain ⟨vs, hd⟩ := hf
  have hx : ObjOk X.prog X.w H1 s1.heap d (.xd [(f, v)]) := I1.hok d _ ea
  obtain ⟨mA, hns, hr⟩ := hx
  obtain ⟨od, ho, hl⟩ := lookIn_ns hns
  have l : List.lookup f [(f, v)] = some v := by simp [List.lookup]
  obtain ⟨u, hu, ru⟩ := RelO.some_of (v := v) (o := mA f) (by rw [← l]; exact hr f)
  have J : PySem.W.InstAt s1.heap a oe C (some od) := ⟨ha, hz.1, by unfold PySem.W.notCls; rw [hd] <;> rfl, by rw [hz.2]; exact ho⟩
  exact HandSPX.exc_get I1.kIn J T.ga T.gg T.ex (PySem.W.findObj_own T.hd T.no rfl (by rw [hl, hu])) (handed_of ru) ⟨v, H1, I1.tok _, ru, q⟩
/-- isinstance(err, T), err held by the suite, its own dict at d -/
def rIsX (K : PySem.W.Frag) (C a d : Addr) (f : Str) : List V → Hp → VK → Prop := fun xs H Q => ∃ (c : V) (cv : Value) (b : Bool) (v : V), xs = [.ref a, c] ∧ H d = some (.xd [(f, v)]) ∧ (∀ u, RelV c u → u = cv) ∧ PySem.W.kitOne K (.ref C) cv = some b ∧ Q (.bl b) H
theorem call_isX {a d : Addr} {oe : Obj} {pn : List (Addr × Obj)} (T : ExF X.K C f) (hz : Zc (.ref C) (some d) oe) (hf : ∃ vs, oe.data = .fields vs) : CallR (X.suite a ((a, oe) :: pn)) (.builtin "isinstance") (rIsX X.K C a d f) := by
  intro pins s σ H xs us Q I r h
  obtain ⟨c, cv, b, v, rfl, ea, hcv, e, q⟩ := h
  cases r with
  | cons rx rr =>
    cases rr with
    | cons rt rr =>
      cases rr
      cases rx
      have ec := hcv _ rt
      subst ec
      obtain ⟨hget, _⟩ := I.pin (a, oe) (List.mem_append.mpr (.inl List.mem_cons_self))
      obtain ⟨vs, hv⟩ := hf
      have hx : ObjOk X.prog X.w H s.heap d (.xd [(f, v)]) := I.hok d _ ea
      obtain ⟨mA, hns, hr⟩ := hx
      obtain ⟨od, ho, hl⟩ := lookIn_ns hns
      have J : PySem.W.InstAt s.heap a oe C (some od) := ⟨hget, hz.1, by unfold PySem.W.notCls; rw [hv] <;> rfl, by rw [hz.2]; exact ho⟩
      exact PySem.W.kia_one (PySem.W.kitx_exc T.cl T.ga T.gg T.ex T.ha T.hn T.ht T.hm) I.kIn J e (fun z => nomatch z) fun tk => ⟨.bl b, H, I.kept (t' := tk) fun _ _ z => z, rfl, q⟩
end
end L2
namespace DL
open PySem PySem.Spec PyProof.Rows L2
section
variable {X : Cx} {C : DC} {F H : Hp} {σ : Sg} {r : Rho} {i c : Nat}
/-! ### raise -/
def sRaise (c : Nat) (fa : M D) : M Fl := bnd fa fun d => fun r => .exc c d r
theorem sd_raiseX {a : Expr} {fa : M D} {cn f : Str} {Ca : Addr} {p pos pos2 : Pos} (c : Nat) (hx : C.xc[c]? = some (Ca, some f)) (hc : X.calm = true) (tk : Takes X C.W)
    (mk : ∀ ta, PA X [a] ta → PMk X (.Call (.Name cn p) [a] [] pos) (tMkX Ca f ta)) (ha : EV X C a fa) (hs : starEach [a] X.env = (false, eval a X.env) :: starEach [] X.env := by rfl) : SD X C (.Raise (some (.Call (.Name cn p) [a] [] pos)) none pos2) (sRaise c fa) := by
  obtain ⟨ta, pa, sa⟩ := ha
  refine ⟨_, ps_raise hc tk (mk _ (pa_cons pa pa_nil hs)), fun F H σ r E e h => ?_⟩
  unfold sRaise at h
  have key : Wn X C F H σ r (fa r) (fun d r1 F1 H1 => EnvOk C.pa X.K F1 H1 σ r1 ∧ Stp F H (Ow σ r) F1 H1 (Ow σ r1) ∧ ∀ F' H' cls dd, EnvOk C.pa X.K F' H' σ r1 → Stp F1 H1 (Ow σ r1) F' H' (Ow σ r1) → XRep C.xc X.K F' H' c d cls dd → C.W cls dd σ H') := by
    cases q : fa r with
    | ok d r1 =>
      rw [bnd_ok q] at h
      exact fun F' H' e' s' => ⟨e', s', fun F2 H2 cls dd e2 s2 x => h σ F2 H2 cls dd e2 (s'.trans s2) x⟩
    | exc c' d' r' => rw [bnd_exc q] at h; exact fun F' H' cls dd e' s' x => h σ F' H' cls dd e' s' x
    | bad => rw [bnd_bad q] at h; exact h
  refine sa F H σ r _ e (key.imp fun d r1 F1 H1 e1 s1 w v dv => ?_)
  obtain ⟨e1, s1, w⟩ := w
  refine ⟨v, rfl, fun q hq => w F1 _ _ _ (e1.laidH hq) (Stp.laidH hq) ⟨Ca, some f, hx, rfl, q, v, rfl, upd_same, dv⟩⟩
/-! ### the suite -/
/-- what is known in the suite of 'except X as n', n in slot i, X the class c -/
structure Su (X : Cx) (C : DC) (i c : Nat) (a : Addr) (cls : Value) (dd : Option Addr) (d : D) (F H : Hp) (σ : Sg) (r : Rho) : Prop where
  e : EnvOk C.pa X.K F H σ r
  ni : r[i]? = some none
  sl : σ[i]? = some (some (.ref a))
  x : XRep C.xc X.K F H c d cls dd
def EX (X : Cx) (C : DC) (i c : Nat) (e : Expr) (g : D → D) : Prop := ∀ (a : Addr) (oe : Obj) (cls : Value) (dd : Option Addr) (pn : List (Addr × Obj)), Zc cls dd oe → (∃ vs, oe.data = .fields vs) →
    ∃ t, PE (X.suite a ((a, oe) :: pn)) e t ∧ ∀ F H σ r d Q, Su X C i c a cls dd d F H σ r → (∀ v, Dp X.K F v (g d) → Q v H) → t σ H Q
def EXs (X : Cx) (C : DC) (i c : Nat) (es : List Expr) (g : D → List D) : Prop := ∀ (a : Addr) (oe : Obj) (cls : Value) (dd : Option Addr) (pn : List (Addr × Obj)), Zc cls dd oe → (∃ vs, oe.data = .fields vs) →
    ∃ t, PA (X.suite a ((a, oe) :: pn)) es t ∧ ∀ F H σ r d Q, Su X C i c a cls dd d F H σ r → (∀ vs, DpAll X.K F vs (g d) → Q vs H) → t σ H Q
def SX (X : Cx) (C : DC) (i c : Nat) (st : List Stmt) (f : D → M Fl) : Prop := ∀ (a : Addr) (oe : Obj) (cls : Value) (dd : Option Addr) (pn : List (Addr × Obj)), Zc cls dd oe → (∃ vs, oe.data = .fields vs) →
    ∃ t, PSs (X.suite a ((a, oe) :: pn)) st t ∧ ∀ F H σ r d E, Su X C i c a cls dd d F H σ r → Ws X { C with W := fun _ _ _ _ => False } F H σ r (f d r) E → t E σ H
theorem ex_str {x : Str} {j} {pos : Pos} : EX X C i c (.Constant (.str x) j pos) (fun _ => .str x) := fun a oe cls dd pn hz hf => ⟨_, pe_str, fun F H σ r d Q u k => k _ (.str _)⟩
theorem exs_nil : EXs X C i c [] (fun _ => []) := fun a oe cls dd pn hz hf => ⟨_, pa_nil, fun F H σ r d Q u k => k _ .nil⟩
theorem exs_cons {e : Expr} {es : List Expr} {g : D → D} {gs : D → List D} (h : EX X C i c e g) (hs : EXs X C i c es gs) (he : starEach (e :: es) X.env = (false, eval e X.env) :: starEach es X.env := by rfl) : EXs X C i c (e :: es) (fun d => g d :: gs d) := fun a oe cls dd pn hz hf => by
  obtain ⟨t, p, s⟩ := h a oe cls dd pn hz hf
  obtain ⟨ts, ps, ss⟩ := hs a oe cls dd pn hz hf
  exact ⟨_, pa_cons p ps he, fun F H σ r d Q u k => s F H σ r d _ u fun v dv => ss F H σ r d _ u fun vs dvs => k _ (.cons dv dvs)⟩
theorem Su.at {f : Str} {Ca : Addr} {a : Addr} {cls : Value} {dd : Option Addr} {d : D} (u : Su X C i c a cls dd d F H σ r) (hx : C.xc[c]? = some (Ca, some f)) : cls = .ref Ca ∧ ∃ q v, dd = some q ∧ H q = some (.xd [(f, v)]) ∧ Dp X.K F v d := by
  obtain ⟨Cb, fo, h1, h2, h3⟩ := u.x
  rw [hx] at h1
  cases h1
  exact ⟨h2, h3⟩
theorem ex_fld {f n : Str} {Ca : Addr} {p pos : Pos} (T : ExF X.K Ca f) (hx : C.xc[c]? = some (Ca, some f)) (hN : X.N[i]? = some n := by rfl) (hv : Vis X.env.scope n := by first | exact Or.inl rfl | exact Or.inr (Or.inl rfl) | exact Or.inr (Or.inr rfl))
    (hd : (n == ("__debug__" : Str)) = false := by decide) (hcd : (n == ("__classdict__" : Str)) = false := by decide) (hb : attributeBase (.Name n p) f X.env (eval (.Name n p) X.env) = eval (.Name n p) X.env := by rfl) :
    EX X C i c (.Attribute (.Name n p) f pos) (fun d => d) := fun a oe cls dd pn hz hf => by
  refine ⟨fun σ H Q => ∃ q v, cls = .ref Ca ∧ dd = some q ∧ σ[i]? = some (some (.ref a)) ∧ H q = some (.xd [(f, v)]) ∧ Q v H, ⟨fun pins s σ H Q I h => ?_⟩, fun F H σ r d Q u k => ?_⟩
  · obtain ⟨q, v, rfl, rfl, hs, hq, k⟩ := h
    exact (pe_byX T hz hf (pe_var (X := X.suite a ((a, oe) :: pn)) hN hv hd hcd) hb).run pins s σ H Q I ⟨_, hs, rfl, v, hq, k⟩
  · obtain ⟨h1, q, v, h2, h3, h4⟩ := u.at hx
    exact ⟨q, v, h1, h2, u.sl, h3, k _ h4⟩
theorem ex_isi {f n Tn : Str} {TN : String} {Ca : Addr} {p p2 p3 pos : Pos} {b : Bool} (T : ExF X.K Ca f) (hx : C.xc[c]? = some (Ca, some f)) (hk : PySem.W.kitOne X.K (.ref Ca) (.type TN) = some b) (hm : X.mg "isinstance" = none) (hmT : X.mg Tn = none) (hvT : bootBuiltins Tn = some (.type TN))
    (hN : X.N[i]? = some n := by rfl) (hv : Vis X.env.scope n := by first | exact Or.inl rfl | exact Or.inr (Or.inl rfl) | exact Or.inr (Or.inr rfl))
    (hd : (n == ("__debug__" : Str)) = false := by decide) (hcd : (n == ("__classdict__" : Str)) = false := by decide) (hg : Gl X "isinstance" := by rfl) (hgT : Gl X Tn := by rfl) (hnT : Tn ≠ "__name__" := by decide) (hdT : (Tn == ("__debug__" : Str)) = false := by decide)
    (he : starEach [.Name n p2, .Name Tn p3] X.env = (false, eval (.Name n p2) X.env) :: starEach [.Name Tn p3] X.env := by rfl) (he2 : starEach [.Name Tn p3] X.env = (false, eval (.Name Tn p3) X.env) :: starEach [] X.env := by rfl)
    (hpl : (backTo pos (starEach [.Name Tn p3] X.env)).any (·.1) = false := by rfl) :
    EX X C i c (.Call (.Name "isinstance" p) [.Name n p2, .Name Tn p3] [] pos) (fun _ => .bool b) := fun a oe cls dd pn hz hf => by
  refine ⟨fun σ H Q => ∃ q v, cls = .ref Ca ∧ dd = some q ∧ σ[i]? = some (some (.ref a)) ∧ H q = some (.xd [(f, v)]) ∧ Q (.bl b) H, ⟨fun pins s σ H Q I h => ?_⟩, fun F H σ r d Q u k => ?_⟩
  · obtain ⟨q, v, rfl, rfl, hs, hq, k⟩ := h
    refine (pe_callB (X := X.suite a ((a, oe) :: pn)) (call_isX T hz hf) hg hm (by decide +kernel) (pa_cons (pe_var (X := X.suite a ((a, oe) :: pn)) hN hv hd hcd) (pa_cons (pe_bltn (X := X.suite a ((a, oe) :: pn)) (v := .ty TN) hgT hmT hvT rfl hnT hdT) pa_nil he2) he) (by decide) (by decide) he hpl).run pins s σ H Q I ?_
    exact ⟨_, hs, _, _, b, v, rfl, hq, (fun u e => e), hk, k⟩
  · obtain ⟨h1, q, v, h2, h3, h4⟩ := u.at hx
    exact ⟨q, v, h1, h2, u.sl, h3, k _ (.bl _)⟩
def sxRet (gs : D → List D) (d : D) : M Fl := bnd (lif (if (gs d).length ≤ sizeLine then some () else none)) fun _ => ret (.ret (.v (.tuple (gs d))))
theorem sx_retTup {es : List Expr} {gs : D → List D} {k : Nat} {pos pos2 : Pos} (h : EXs X C i c es gs) : SX X C i c [.Return (some (.Tuple es k pos)) pos2] (sxRet gs) := fun a oe cls dd pn hz hf => by
  obtain ⟨ts, ps, ss⟩ := h a oe cls dd pn hz hf
  refine ⟨_, pss_cons (ps_ret (pe_tup ps)) pss_nil, fun F H σ r d E u w => ?_⟩
  refine ss F H σ r d _ u fun vs dvs => ?_
  unfold sxRet at w
  split at w
  · rename_i hz'
    have w' : Ws X { C with W := fun _ _ _ _ => False } F H σ r (ret (.ret (.v (.tuple (gs d)))) r) E := w
    refine ⟨by rw [dps_length dvs]; exact hz', fun p hp => ?_⟩
    have hfr := u.e.free hp
    exact w' σ _ _ (u.e.laid (o := .tup vs) hp) (Stp.laid hfr hp) _ (.tup (SqT.of upd_same) (dps_mono (upd_grow hfr) dvs))
  · exact w.elim

/-! ### try .. except X as n -/
def sTry (i c : Nat) (fb : M Fl) (fs : D → M Fl) : M Fl := fun r => match fb r with
  | .ok fl r' => .ok fl r'
  | .bad => .bad
  | .exc c' d r' => if c' = c then (match r'[i]? with
      | some none => (match fs d r' with
        | .ok fl r2 => (match r2[i]? with
          | some none => .ok fl r2
          | _ => .bad)
        | _ => .bad)
      | _ => .bad) else .exc c' d r'
theorem EnvOk.loose {pa : Nat → Addr} {K : PySem.W.Frag} {o : Option V} (e : EnvOk pa K F H σ r) (h : r[i]? = some none) : EnvOk pa K F H (σ.set i o) r := by
  have ne : ∀ {j : Nat} {s : Slot}, r[j]? = some (some s) → i ≠ j := fun q z => by subst z; rw [h] at q; cases q
  have back : ∀ {j : Nat} {s : Slot}, r[j]? = some (some s) → (σ.set i o)[j]? = σ[j]? := fun q => List.getElem?_set_ne (ne q)
  have backO : ∀ {j : Nat} {l : List D}, (r[j]? = some (some (.m l)) ∨ r[j]? = some (some (.p l))) → (σ.set i o)[j]? = σ[j]? := fun q => q.elim back back
  refine ⟨by rw [List.length_set]; exact e.len, e.sub, fun j d q => ?_, fun j l q => ?_, fun j j' b l l' q1 q2 q3 q4 => ?_, fun j l q => ?_, fun j b q => ?_⟩
  · rw [back q]; exact e.val j d q
  · rw [backO q]; exact e.own j l q
  · rw [backO q1] at q3; rw [backO q2] at q4; exact e.inj j j' b l l' q1 q2 q3 q4
  · rw [back q]; exact e.par j l q
  · rw [back q]; exact e.fn j b q
theorem Ow.loose {o : Option V} {a : Addr} (h : r[i]? = some none) : Ow (σ.set i o) r a ↔ Ow σ r a := by
  have ne : ∀ {j : Nat} {s : Slot}, r[j]? = some (some s) → i ≠ j := fun q z => by subst z; rw [h] at q; cases q
  have backO : ∀ {j : Nat} {l : List D}, (r[j]? = some (some (.m l)) ∨ r[j]? = some (some (.p l))) → (σ.set i o)[j]? = σ[j]? := fun q => q.elim (fun z => List.getElem?_set_ne (ne z)) (fun z => List.getElem?_set_ne (ne z))
  exact ⟨fun ⟨j, l, q1, q2⟩ => ⟨j, l, q1, by rw [backO q1] at q2; exact q2⟩, fun ⟨j, l, q1, q2⟩ => ⟨j, l, q1, by rw [backO q1]; exact q2⟩⟩
theorem PSs.imp {X : Cx} {st : List Stmt} {t t' : TS} (h : PSs X st t) (k : ∀ E σ H, t' E σ H → t E σ H) : PSs X st t' := ⟨fun pins s σ H E I w => h.run pins s σ H E I (k E σ H w)⟩
theorem sd_tryX {body suite : List Stmt} {b₀ : Stmt} {x n : Str} {Ca : Addr} {np pos pos' : Pos} {fb : M Fl} {fs : D → M Fl} (i c : Nat) (hs : X.stack = X.env :: X.outer) (hf : X.env.frame = some X.env.locals) (hN : X.N.Nodup) (hc : Names X x (.ref Ca)) (tk : Takes X C.W)
    (hm : ∀ c' a fo, C.xc[c']? = some (a, fo) → PySem.W.exmOne X.K (.ref a) (.ref Ca) = some (decide (c' = c)))
    (hb : ∀ (W : WX) (pn : List (Addr × Obj)) (xe : Value → Shared → Prop), Takes (X.tr pn xe) W → PassesOwn (model X.prog X.w) X.A X.env xe → SDs (X.tr pn xe) { C with W := W } body fb)
    (hsu : SX X C i c (b₀ :: suite) fs) (hi : X.N[i]? = some n := by rfl) (hln : X.env.kindOf n = some .local := by rfl) :
    SD X C (.Try body [.ExceptHandler (some (.Name x np)) (some n) (b₀ :: suite) pos'] [] [] pos) (sTry i c fb fs) := by
  refine ⟨_, ps_try_as (X := X) (i := i) (tb := fun W E σ H => ∃ F r, EnvOk C.pa X.K F H σ r ∧ Ws X { C with W := W } F H σ r (fb r) E)
    (ts := fun a cls dd E σ H => ∃ F r d, Su X C i c a cls dd d F H σ r ∧ Ws X { C with W := fun _ _ _ _ => False } F H σ r (fs d r) E) hs hf hN hi hln hc tk (fun W pn xe tk' po => ?_) (fun a oe cls dd pn hz hfd => ?_), fun F H σ r E e h => ?_⟩
  · obtain ⟨t, p, s⟩ := hb W pn xe tk' po
    exact PSs.imp p fun E σ H ⟨F, r, e, w⟩ => s F H σ r E e w
  · obtain ⟨t, p, s⟩ := hsu a oe cls dd pn hz hfd
    exact PSs.imp p fun E σ H ⟨F, r, d, u, w⟩ => s F H σ r d E u w
  · refine ⟨F, r, e, ?_⟩
    unfold sTry at h
    cases q : fb r with
    | bad => rw [q] at h; exact h
    | ok fl r' => rw [q] at h; exact h
    | exc c' d r' =>
      rw [q] at h
      intro σ' F' H' cls dd e' s' x
      obtain ⟨Cb, fo, x1, x2, x3⟩ := id x
      subst x2
      refine ⟨decide (c' = c), hm c' Cb fo x1, fun hyes a ha => ?_, fun hno => ?_⟩
      · have ec : c' = c := of_decide_eq_true hyes
        subst ec
        simp only [if_true] at h
        split at h
        · rename_i hn
          have hlt : i < σ'.length := by rw [← e'.len]; exact lt_of_get hn
          refine ⟨F', r', d, ⟨e'.loose hn, hn, List.getElem?_set_self hlt, x⟩, ?_⟩
          split at h
          · rename_i fl r2 q2
            rw [q2]
            split at h
            · rename_i hn2
              intro σ2 F2 H2 e2 s2
              have hset : EnvOk C.pa X.K F2 H2 (σ2.set i none) r2 := e2.loose hn2
              have s3 : Stp F H (Ow σ r) F2 H2 (Ow (σ2.set i none) r2) := by
                have s2' : Stp F' H' (Ow σ' r') F2 H2 (Ow σ2 r2) := ⟨s2.sub, fun a o h hn' => s2.keep a o h fun z => hn' ((Ow.loose hn).mp z), s2.dom, fun a z => (s2.new a z).imp id (Or.imp id fun z => (Ow.loose hn).mp z), fun a z => (s2.own a z).imp (fun z => (Ow.loose hn).mp z) id⟩
                have s4 := s'.trans s2'
                exact ⟨s4.sub, s4.keep, s4.dom, s4.new, fun a z => s4.own a ((Ow.loose hn2).mp z)⟩
              have w := h (σ2.set i none) F2 H2 hset s3
              cases fl with
              | nx => exact w
              | brk => exact w
              | ct => exact w
              | ret sl =>
                intro v sv
                refine w v ?_
                cases sl with
                | v d => exact sv
                | f a => exact sv
                | p l => exact sv
                | m l =>
                  obtain ⟨a, xs, h1, h2, h3, h4, h5, h6⟩ := sv
                  refine ⟨a, xs, h1, h2, h3, h4, fun z => h5 ((Ow.loose hn2).mp z), ?_⟩
                  cases hz : H a with
                  | none => rfl
                  | some o => exact absurd h6 (s'.dom a (ne_none_of hz))
            · exact h.elim
          · exact h.elim
        · exact h.elim
      · have ec : c' ≠ c := of_decide_eq_false hno
        simp only [if_neg ec] at h
        exact h σ' F' H' _ dd e' s' x
end
end DL

/-! DLPlain: what a meaning reaches, without the program: rules for proving the plain law. -/
namespace DL
open PySem PySem.Spec PyProof.Rows L2
section
variable {α β : Type} {r : Rho}
/-- x ends well, Q holds of its end -/
inductive Rq : Res α → (α → Rho → Prop) → Prop where
  | ok {a : α} {r : Rho} {Q : α → Rho → Prop} : Q a r → Rq (.ok a r) Q
inductive FQ : FRes → (Slot → Option (List D) → Prop) → Prop where
  | ok {a : Slot} {r : Option (List D)} {Q : Slot → Option (List D) → Prop} : Q a r → FQ (.ok a r) Q
theorem Rq.un {a : α} {Q : α → Rho → Prop} (h : Rq (.ok a r) Q) : Q a r := by cases h; assumption
theorem Rq.imp {x : Res α} {Q Q' : α → Rho → Prop} (h : Rq x Q) (k : ∀ a r, Q a r → Q' a r) : Rq x Q' := by
  cases h with
  | ok q => exact .ok (k _ _ q)
theorem FQ.imp {x : FRes} {Q Q' : Slot → Option (List D) → Prop} (h : FQ x Q) (k : ∀ a o, Q a o → Q' a o) : FQ x Q' := by
  cases h with
  | ok q => exact .ok (k _ _ q)
theorem FQ.eq {x : FRes} {s : Slot} {o : Option (List D)} (h : FQ x (fun s' o' => s' = s ∧ o' = o)) : x = .ok s o := by
  cases h with
  | ok q => rw [q.1, q.2]
theorem fq_of {x : FRes} {s : Slot} {o : Option (List D)} {Q : Slot → Option (List D) → Prop} (e : x = .ok s o) (h : Q s o) : FQ x Q := by rw [e]; exact .ok h
theorem rq_of {x : Res α} {a : α} {r' : Rho} {Q : α → Rho → Prop} (e : x = .ok a r') (h : Q a r') : Rq x Q := by rw [e]; exact .ok h
theorem Rq.eq {x : Res α} {a : α} {r' : Rho} (h : Rq x (fun a' r2 => a' = a ∧ r2 = r')) : x = .ok a r' := by
  cases h with
  | ok q => rw [q.1, q.2]
theorem rq_ret {a : α} {Q : α → Rho → Prop} (h : Q a r) : Rq (ret a r) Q := .ok h
theorem rq_bnd {x : M α} {k : α → M β} {Q : β → Rho → Prop} (h : Rq (x r) (fun a r1 => Rq (k a r1) Q)) : Rq (bnd x k r) Q := by
  unfold bnd
  cases e : x r with
  | ok a r' => rw [e] at h; exact h.un
  | exc c d r' => rw [e] at h; cases h
  | bad => rw [e] at h; cases h
theorem rq_noX {x : M α} {Q : α → Rho → Prop} (h : Rq (x r) Q) : Rq (noX x r) Q := by
  unfold noX
  cases e : x r with
  | ok a r' => rw [e] at h; exact h
  | exc c d r' => rw [e] at h; cases h
  | bad => rw [e] at h; cases h
theorem rq_lif {o : Option α} {a : α} {Q : α → Rho → Prop} (e : o = some a) (h : Q a r) : Rq (lif o r) Q := by rw [e]; exact .ok h
theorem rq_name {i : Nat} {d : D} {Q : D → Rho → Prop} (e : r[i]? = some (some (.v d))) (h : Q d r) : Rq (dName i r) Q := by
  unfold dName; rw [e]; exact .ok h
theorem rq_nameM {i : Nat} {l : List D} {Q : D → Rho → Prop} (e : r[i]? = some (some (.m l))) (h : Q (.list l) (r.set i (some (.v (.list l))))) : Rq (dName i r) Q := by
  unfold dName; rw [e]; exact .ok h
/-- slot i may be stored to -/
def Free (r : Rho) (i : Nat) : Prop := ∃ o, r[i]? = some o ∧ ∀ l, o ≠ some (.p l)
theorem rq_setS {i : Nat} {s : Slot} {Q : Unit → Rho → Prop} (e : Free r i) (h : Q () (r.set i (some s))) : Rq (setS i s r) Q := by
  obtain ⟨o, e1, e2⟩ := e
  unfold setS
  rw [e1]
  cases o with
  | none => exact .ok h
  | some s' =>
    cases s' with
    | p l => exact absurd rfl (e2 l)
    | v d => exact .ok h
    | m l => exact .ok h
    | f a => exact .ok h
theorem rq_set {i : Nat} {fs : M Slot} {Q : Fl → Rho → Prop} (h : Rq (fs r) (fun s r1 => Free r1 i ∧ Q .nx (r1.set i (some s)))) : Rq (sSet i fs r) Q :=
  rq_bnd (h.imp fun s r1 ⟨e, q⟩ => rq_bnd (rq_setS e (rq_ret q)))
theorem rq_par {i j : Nat} {fs gs : M Slot} {Q : Fl → Rho → Prop} (h : Rq (fs r) (fun s r1 => Rq (gs r1) (fun t r2 => Free r2 i ∧ Free (r2.set i (some s)) j ∧ Q .nx ((r2.set i (some s)).set j (some t))))) : Rq (sPar i j fs gs r) Q :=
  rq_bnd (h.imp fun s r1 h => rq_bnd (h.imp fun t r2 ⟨e1, e2, q⟩ => rq_bnd (rq_setS e1 (rq_bnd (rq_setS e2 (rq_ret q))))))
theorem rq_ite {b : Bool} {x y : M α} {Q : α → Rho → Prop} (ht : b = true → Rq (x r) Q) (hf : b = false → Rq (y r) Q) : Rq ((if b = true then x else y) r) Q := by
  cases b with
  | true => exact ht rfl
  | false => exact hf rfl
theorem rq_if {t : M Bool} {x y : M α} {Q : α → Rho → Prop} (h : Rq (t r) (fun b r1 => (b = true → Rq (x r1) Q) ∧ (b = false → Rq (y r1) Q))) : Rq (mIf t x y r) Q := rq_bnd (h.imp fun b r1 ⟨a, c⟩ => rq_ite a c)
theorem rq_bAnd {x y : M Bool} {Q : Bool → Rho → Prop} (h : Rq (x r) (fun b r1 => (b = true → Rq (y r1) Q) ∧ (b = false → Q false r1))) : Rq (bAnd x y r) Q := rq_bnd (h.imp fun b r1 ⟨a, c⟩ => rq_ite a fun z => rq_ret (c z))
theorem rq_bOr {x y : M Bool} {Q : Bool → Rho → Prop} (h : Rq (x r) (fun b r1 => (b = true → Q true r1) ∧ (b = false → Rq (y r1) Q))) : Rq (bOr x y r) Q := rq_bnd (h.imp fun b r1 ⟨a, c⟩ => rq_ite (fun z => rq_ret (a z)) c)
theorem rq_and {x y : M D} {Q : D → Rho → Prop} (h : Rq (x r) (fun d r1 => ∃ b, d = .bool b ∧ (b = true → Rq (y r1) Q) ∧ (b = false → Q (.bool false) r1))) : Rq (dAnd x y r) Q := rq_bnd (h.imp fun d r1 ⟨b, e, a, c⟩ => by
  subst e
  cases b with
  | true => exact a rfl
  | false => exact rq_ret (c rfl))
theorem rq_or {x y : M D} {Q : D → Rho → Prop} (h : Rq (x r) (fun d r1 => ∃ b, d = .bool b ∧ (b = true → Q (.bool true) r1) ∧ (b = false → Rq (y r1) Q))) : Rq (dOr x y r) Q := rq_bnd (h.imp fun d r1 ⟨b, e, a, c⟩ => by
  subst e
  cases b with
  | true => exact rq_ret (a rfl)
  | false => exact c rfl)
theorem rq_not {x : M D} {Q : D → Rho → Prop} (h : Rq (x r) (fun d r1 => ∃ b, d = .bool b ∧ Q (.bool (!b)) r1)) : Rq (dNot x r) Q := rq_bnd (h.imp fun d r1 ⟨b, e, a⟩ => by
  subst e
  exact rq_ret a)
def cont (g : M Fl) (Q : Fl → Rho → Prop) : Fl → Rho → Prop
  | .nx, r => Rq (g r) Q
  | .ret s, r => Q (.ret s) r
  | .brk, r => Q .brk r
  | .ct, r => Q .ct r
theorem rq_seq {f g : M Fl} {Q : Fl → Rho → Prop} (h : Rq (f r) (cont g Q)) : Rq (sSeq f g r) Q := rq_bnd (h.imp fun fl r1 q => by
  cases fl with
  | nx => exact q
  | ret s => exact rq_ret q
  | brk => exact rq_ret q
  | ct => exact rq_ret q)
theorem cont_nx {g : M Fl} {Q : Fl → Rho → Prop} (h : Rq (g r) Q) : cont g Q .nx r := h
theorem cont_ret {g : M Fl} {Q : Fl → Rho → Prop} {s : Slot} (h : Q (.ret s) r) : cont g Q (.ret s) r := h
theorem rq_frz {f : M Slot} {Q : D → Rho → Prop} (h : Rq (f r) (fun s r1 => (∃ d, s = .v d ∧ Q d r1) ∨ ∃ l, s = .m l ∧ Q (.list l) r1)) : Rq (dFrz f r) Q := rq_bnd (h.imp fun s r1 q => by
  rcases q with ⟨d, rfl, q⟩ | ⟨l, rfl, q⟩
  · exact rq_ret q
  · exact rq_ret q)
theorem rq_call {n : Nat} {g : List Slot → FRes} {fs : M (List Arg)} {Q : Slot → Rho → Prop} (h : Rq (fs r) (fun as r1 => as.length = n ∧ ∃ ss oi, resolve r1 as = some (ss, oi) ∧ FQ (g ss) (fun s o => ∃ r', relist r1 oi o = some r' ∧ Q s r'))) : Rq (dDefN n g fs r) Q :=
  rq_bnd (h.imp fun as r1 ⟨hn, ss, oi, e, q⟩ => rq_bnd (rq_lif (if_pos hn) (by
    show Rq (match resolve r1 as with
      | none => .bad
      | some (ss, oi) => match g ss with
        | .ok s o => match relist r1 oi o with
          | some r' => .ok s r'
          | none => .bad
        | .exc c d o => match relist r1 oi o with
          | some r' => .exc c d r'
          | none => .bad
        | .bad => .bad) Q
    rw [e]
    show Rq (match g ss with
        | .ok s o => match relist r1 oi o with
          | some r' => .ok s r'
          | none => .bad
        | .exc c d o => match relist r1 oi o with
          | some r' => .exc c d r'
          | none => .bad
        | .bad => .bad) Q
    cases e2 : g ss with
    | ok s o =>
      rw [e2] at q
      cases q with
      | ok q =>
        obtain ⟨r', e3, q⟩ := q
        show Rq (match relist r1 oi o with
          | some r' => .ok s r'
          | none => .bad) Q
        rw [e3]; exact .ok q
    | exc c d o => rw [e2] at q; cases q
    | bad => rw [e2] at q; cases q)))
theorem fq_run {n : Nat} {fb : M Fl} {ss : List Slot} {P : Slot → Option (List D) → Prop} (h : Rq (fb (rho0 n ss)) (fun fl r => ∃ o, pout ss r = some o ∧ ((∃ s, fl = .ret s ∧ P s o) ∨ fl = .nx ∧ P (.v .none) o))) : FQ (runB n fb ss) P := by
  unfold runB
  cases e : fb (rho0 n ss) with
  | ok fl r' =>
    rw [e] at h
    obtain ⟨o, e1, q⟩ := h.un
    rcases q with ⟨s, rfl, q⟩ | ⟨rfl, q⟩
    · simp only [e1]; exact .ok q
    · simp only [e1]; exact .ok q
  | exc c d r' => rw [e] at h; cases h
  | bad => rw [e] at h; cases h
theorem rq_append {i : Nat} {fb : M D} {Q : Fl → Rho → Prop} (h0 : (ownAt r i).isSome = true) (h : Rq (fb r) (fun y r1 => ∃ l, ownAt r1 i = some l ∧ l.length < sizeLine ∧ Q .nx (putAt r1 i (l ++ [y])))) : Rq (sAppend i fb r) Q := by
  refine rq_bnd ?_
  unfold dOwn
  obtain ⟨l0, e0⟩ := Option.isSome_iff_exists.mp h0
  rw [e0]
  refine .ok (rq_bnd (h.imp fun y r1 ⟨l, e, hl, q⟩ => ?_))
  show Rq (match ownAt r1 i with
    | some l => if l.length < sizeLine then .ok .nx (putAt r1 i (l ++ [y])) else .bad
    | none => .bad) Q
  rw [e]
  show Rq (if l.length < sizeLine then .ok .nx (putAt r1 i (l ++ [y])) else .bad) Q
  rw [if_pos hl]
  exact .ok q
theorem rq_own {i : Nat} {Q : Unit → Rho → Prop} {l : List D} (e : ownAt r i = some l) (h : Q () r) : Rq (dOwn i r) Q := by
  unfold dOwn; rw [e]; exact .ok h
theorem rq_has {i : Nat} {Q : Unit → Rho → Prop} {d : D} (e : listAt r i = some d) (h : Q () r) : Rq (dHas i r) Q := by
  unfold dHas; rw [e]; exact .ok h
theorem rq_setIx {i : Nat} {fv fi : M D} {Q : Fl → Rho → Prop} (h : Rq (fv r) (fun d r1 => (ownAt r1 i).isSome = true ∧ Rq (fi r1) (fun y r2 => ∃ l j k, ownAt r2 i = some l ∧ y = .int j ∧ ixN l.length j = some k ∧ Q .nx (putAt r2 i (l.set k d))))) : Rq (sSetIx i fv fi r) Q := by
  refine rq_bnd (h.imp fun d r1 ⟨h0, h⟩ => ?_)
  obtain ⟨l0, e0⟩ := Option.isSome_iff_exists.mp h0
  refine rq_bnd (rq_own e0 (rq_bnd (h.imp fun y r2 ⟨l, j, k, e1, e2, e3, q⟩ => ?_)))
  subst e2
  show Rq (match ownAt r2 i, PyData.int j with
    | some l, .int j => match ixN l.length j with
      | some k => .ok .nx (putAt r2 i (l.set k d))
      | none => .bad
    | _, _ => .bad) Q
  rw [e1]
  show Rq (match ixN l.length j with
      | some k => .ok .nx (putAt r2 i (l.set k d))
      | none => .bad) Q
  rw [e3]
  exact .ok q
theorem rq_pop {i : Nat} {fb : M D} {Q : D → Rho → Prop} (h0 : (ownAt r i).isSome = true) (h : Rq (fb r) (fun y r1 => ∃ l k d, ownAt r1 i = some l ∧ y = .int (k : Nat) ∧ k < 2 ^ 62 ∧ l[k]? = some d ∧ Q d (putAt r1 i (l.eraseIdx k)))) : Rq (dPop i fb r) Q := by
  obtain ⟨l0, e0⟩ := Option.isSome_iff_exists.mp h0
  refine rq_bnd (rq_own e0 (rq_bnd (h.imp fun y r1 ⟨l, k, d, e1, e2, e3, e4, q⟩ => ?_)))
  subst e2
  have hk : k < l.length := (List.getElem?_eq_some_iff.mp e4).1
  have e5 : seqIndex? (k : Int) l.length = some k := by
    have h1 : ¬ ((k : Int) < 0) := by omega
    simp [seqIndex?, h1, hk]
  show Rq (match ownAt r1 i, PyData.int (k : Int) with
    | some l, .int j => if -(2 ^ 63) ≤ j ∧ j < 2 ^ 63 then match seqIndex? j l.length with
      | some k => match l[k]? with
        | some d => .ok d (putAt r1 i (l.eraseIdx k))
        | none => .bad
      | none => .bad
      else .bad
    | _, _ => .bad) Q
  rw [e1]
  show Rq (if -(2 ^ 63) ≤ (k : Int) ∧ (k : Int) < 2 ^ 63 then match seqIndex? (k : Int) l.length with
      | some k => match l[k]? with
        | some d => .ok d (putAt r1 i (l.eraseIdx k))
        | none => .bad
      | none => .bad
      else .bad) Q
  rw [if_pos (by omega), e5]
  show Rq (match l[k]? with
        | some d => .ok d (putAt r1 i (l.eraseIdx k))
        | none => .bad) Q
  rw [e4]
  exact .ok q
/-! ### one rule a combinator -/
variable {fa fb fc : M D} {fs : M (List D)} {as : M (List Arg)} {Q : D → Rho → Prop}
theorem rq_C {d : D} (h : Q d r) : Rq (dC d r) Q := .ok h
theorem rq_Bin {g : D → D → Option D} (h : Rq (fa r) fun x r1 => Rq (fb r1) fun y r2 => ∃ c, g x y = some c ∧ Q c r2) : Rq (dBin g fa fb r) Q := rq_bnd (h.imp fun _ _ h => rq_bnd (h.imp fun _ _ ⟨_, e, q⟩ => rq_lif e q))
theorem rq_Test {Q : Bool → Rho → Prop} (h : Rq (fa r) fun d r1 => ∃ b, d = .bool b ∧ Q b r1) : Rq (dTest fa r) Q := rq_bnd (h.imp fun _ _ ⟨b, e, q⟩ => by subst e; exact .ok q)
theorem rq_Truth {Q : Bool → Rho → Prop} (h : Rq (fa r) fun d r1 => ∃ b, truth d = some b ∧ Q b r1) : Rq (dTruth fa r) Q := rq_bnd (h.imp fun _ _ ⟨b, e, q⟩ => rq_lif e q)
theorem rq_bNot {x : M Bool} {Q : Bool → Rho → Prop} (h : Rq (x r) fun b r1 => Q (!b) r1) : Rq (bNot x r) Q := rq_bnd (h.imp fun _ _ q => .ok q)
theorem rq_Call {g : List D → Option D} (h : Rq (fs r) fun ds r1 => ∃ c, g ds = some c ∧ Q c r1) : Rq (dCall g fs r) Q := rq_bnd (h.imp fun _ _ ⟨_, e, q⟩ => rq_lif e q)
theorem rq_aNil {Q : List D → Rho → Prop} (h : Q [] r) : Rq (aNil r) Q := .ok h
theorem rq_aCons {Q : List D → Rho → Prop} (h : Rq (fa r) fun d r1 => Rq (fs r1) fun ds r2 => Q (d :: ds) r2) : Rq (aCons fa fs r) Q := rq_bnd (h.imp fun _ _ h => rq_bnd (h.imp fun _ _ q => .ok q))
theorem rq_aStar {Q : List D → Rho → Prop} (h : Rq (fa r) fun d r1 => ∃ ds, seqOf d = some ds ∧ Rq (fs r1) fun es r2 => Q (ds ++ es) r2) : Rq (aStar fa fs r) Q := rq_bnd (h.imp fun _ _ ⟨ds, e, h⟩ => rq_bnd (rq_lif e (rq_bnd (h.imp fun _ _ q => .ok q))))
theorem rq_Tup (h : Rq (fs r) fun ds r1 => ds.length ≤ sizeLine ∧ Q (.tuple ds) r1) : Rq (dTup fs r) Q := rq_bnd (h.imp fun _ _ ⟨e, q⟩ => rq_lif (if_pos e) q)
theorem rq_Lst (h : Rq (fs r) fun ds r1 => ds.length ≤ sizeLine ∧ Q (.list ds) r1) : Rq (dLst fs r) Q := rq_bnd (h.imp fun _ _ ⟨e, q⟩ => rq_lif (if_pos e) q)
theorem rq_sLst {Q : Slot → Rho → Prop} (h : Rq (fs r) fun ds r1 => ds.length ≤ sizeLine ∧ Q (.m ds) r1) : Rq (sLst fs r) Q := rq_bnd (h.imp fun _ _ ⟨e, q⟩ => rq_lif (if_pos e) q)
theorem rq_sV {Q : Slot → Rho → Prop} (h : Rq (fa r) fun d r1 => Q (.v d) r1) : Rq (sV fa r) Q := rq_bnd (h.imp fun _ _ q => .ok q)
theorem rq_sRet {gs : M Slot} {Q : Fl → Rho → Prop} (h : Rq (gs r) fun s r1 => Q (.ret s) r1) : Rq (sRet gs r) Q := rq_bnd (h.imp fun _ _ q => .ok q)
theorem rq_sNil {Q : Fl → Rho → Prop} (h : Q .nx r) : Rq (sNil r) Q := .ok h
theorem rq_Isi {g : String → Bool} (h : Rq (fa r) fun d r1 => Q (.bool (g (tyN d))) r1) : Rq (dIsi g fa r) Q := rq_bnd (h.imp fun _ _ q => .ok q)
theorem rq_Meth {g : D → List D → Option D} (h : Rq (fa r) fun d r1 => strOf d = true ∧ Rq (fb r1) fun y r2 => ∃ c, g d [y] = some c ∧ Q c r2) : Rq (dMeth g fa fb r) Q :=
  rq_bnd (h.imp fun _ _ ⟨e, h⟩ => rq_bnd (rq_lif (if_pos e) (rq_bnd (h.imp fun _ _ ⟨_, e, q⟩ => rq_lif e q))))
theorem rq_Slice {g : D → Option Int → Option Int → Option D} {fl fh : M (Option Int)} (h : Rq (fa r) fun d r1 => Rq (fl r1) fun lo r2 => Rq (fh r2) fun hi r3 => ∃ c, g d lo hi = some c ∧ Q c r3) : Rq (dSlice g fa fl fh r) Q :=
  rq_bnd (h.imp fun _ _ h => rq_bnd (h.imp fun _ _ h => rq_bnd (h.imp fun _ _ ⟨_, e, q⟩ => rq_lif e q)))
theorem rq_oInt {Q : Option Int → Rho → Prop} (h : Rq (fa r) fun d r1 => ∃ i, d = .int i ∧ Q (some i) r1) : Rq (oInt fa r) Q := rq_bnd (h.imp fun _ _ ⟨i, e, q⟩ => by subst e; exact .ok q)
theorem rq_Chain {g g' : D → D → Option D} (h : Rq (fa r) fun x r1 => Rq (fb r1) fun y r2 => ∃ b, g x y = some (.bool b) ∧ (b = true → Rq (fc r2) fun z r3 => ∃ c, g' y z = some c ∧ Q c r3) ∧ (b = false → Q (.bool false) r2)) : Rq (dChain g g' fa fb fc r) Q :=
  rq_bnd (h.imp fun _ _ h => rq_bnd (h.imp fun _ _ ⟨b, e, h1, h2⟩ => rq_bnd (rq_lif (a := b) (by rw [e]; rfl) (rq_ite (fun z => rq_bnd ((h1 z).imp fun _ _ ⟨_, e, q⟩ => rq_lif e q)) fun z => .ok (h2 z)))))
theorem rq_gNil {Q : List Arg → Rho → Prop} (h : Q [] r) : Rq (gNil r) Q := .ok h
theorem rq_gV {Q : List Arg → Rho → Prop} (h : Rq (fa r) fun d r1 => Rq (as r1) fun l r2 => Q (.v d :: l) r2) : Rq (gV fa as r) Q := rq_bnd (h.imp fun _ _ h => rq_bnd (h.imp fun _ _ q => .ok q))
theorem rq_gIo {i : Nat} {Q : List Arg → Rho → Prop} (e : (ownAt r i).isSome = true) (h : Rq (as r) fun l r2 => Q (.io i :: l) r2) : Rq (gIo i as r) Q := by
  refine rq_bnd ?_
  have : ioOf i r = .ok (.io i) r := by
    unfold ownAt at e
    unfold ioOf
    split at e
    · rename_i q; rw [q]
    · rename_i q; rw [q]
    · cases e
  exact rq_of this (rq_bnd (h.imp fun _ _ q => .ok q))
theorem rq_IxO {i : Nat} (e : (listAt r i).isSome = true) (h : Rq (fb r) fun y r1 => ∃ d c, listAt r1 i = some d ∧ gIx d y = some c ∧ Q c r1) : Rq (dIxO i fb r) Q := by
  obtain ⟨d0, e0⟩ := Option.isSome_iff_exists.mp e
  exact rq_bnd (rq_has e0 (rq_bnd (h.imp fun _ _ ⟨d, c, e1, e2, q⟩ => rq_lif (by rw [e1]; exact e2) q)))
theorem rq_LenO {i : Nat} {d c : D} (e1 : listAt r i = some d) (e2 : cLen [d] = some c) (h : Q c r) : Rq (dLenO i r) Q := rq_lif (a := c) (by rw [e1]; exact e2) h
theorem rq_iAny {Q : List D → Rho → Prop} (h : Rq (fa r) fun d r1 => (∃ ds, d = .list ds ∧ Q ds r1) ∨ (∃ ds, d = .tuple ds ∧ Q ds r1) ∨ ∃ z : Str, d = .str z ∧ Q (z.cps.toList.map fun c => .str ⟨#[c]⟩) r1) : Rq (iAny fa r) Q :=
  rq_bnd (h.imp fun _ _ h => by
    rcases h with ⟨ds, rfl, q⟩ | ⟨ds, rfl, q⟩ | ⟨z, rfl, q⟩ <;> exact .ok q)
theorem rq_iEnum {Q : List D → Rho → Prop} (h : Rq (fa r) fun d r1 => ∃ ds, d = .list ds ∧ Q (ds.mapIdx fun i d => .tuple [.int i, d]) r1) : Rq (iEnumD fa r) Q := rq_bnd (h.imp fun _ _ ⟨ds, e, q⟩ => by subst e; exact .ok q)
theorem rq_iZip {Q : List D → Rho → Prop} (h : Rq (fa r) fun d r1 => Rq (fb r1) fun e r2 => ∃ ds es, ((d = .list ds ∧ e = .list es) ∨ (d = .tuple ds ∧ e = .tuple es)) ∧ Q (zipD ds es) r2) : Rq (iZip fa fb r) Q :=
  rq_bnd (h.imp fun _ _ h => rq_bnd (h.imp fun _ _ ⟨ds, es, h, q⟩ => by
    rcases h with ⟨rfl, rfl⟩ | ⟨rfl, rfl⟩ <;> exact .ok q))
theorem rq_iRange {Q : List D → Rho → Prop} (h : Rq (fa r) fun d r1 => ∃ j : Int, d = .int j ∧ -(2 ^ 62) ≤ j ∧ j < 2 ^ 62 ∧ Q ((List.range j.toNat).map fun i => .int (0 + (i : Nat))) r1) : Rq (iRange1 fa r) Q := rq_bnd (h.imp fun _ _ ⟨j, e, h1, h2, q⟩ => by
  subst e
  show Rq ((if -(2 ^ 62) ≤ j ∧ j < 2 ^ 62 then ret ((List.range j.toNat).map fun i => PyData.int (0 + ((i : Nat) : Int))) else fun _ => .bad) _) _
  rw [if_pos ⟨h1, h2⟩]
  exact .ok q)
theorem rq_listOf {Q : Slot → Rho → Prop} (h : Rq (fa r) fun d r1 => ∃ l, seqOf d = some l ∧ Q (.m l) r1) : Rq (sListOf fa r) Q := rq_bnd (h.imp fun _ _ ⟨_, e, q⟩ => rq_bnd (rq_lif e (.ok q)))
theorem rq_cat {Q : Slot → Rho → Prop} (h : Rq (fa r) fun d r1 => Rq (fb r1) fun e r2 => ∃ l, catOf d e = some l ∧ Q (.m l) r2) : Rq (sCat fa fb r) Q := rq_bnd (h.imp fun _ _ h => rq_bnd (h.imp fun _ _ ⟨_, e, q⟩ => rq_bnd (rq_lif e (.ok q))))
theorem rq_orT {fs gs : M Slot} {Q : Slot → Rho → Prop} (h : Rq (fs r) fun s r1 => ∃ k, truS s = some k ∧ (k = true → Q s r1) ∧ (k = false → Rq (gs r1) Q)) : Rq (sOrT fs gs r) Q := rq_bnd (h.imp fun _ _ ⟨k, e, h1, h2⟩ => rq_bnd (rq_lif e (rq_ite (fun z => .ok (h1 z)) h2)))
theorem rq_asg {h' : D → M Unit} {Q : Fl → Rho → Prop} (h : Rq (fa r) fun d r1 => Rq (h' d r1) fun _ r2 => Q .nx r2) : Rq (sAsg fa h' r) Q := rq_bnd (h.imp fun _ _ h => rq_bnd (rq_noX (h.imp fun _ _ q => .ok q)))
theorem rq_tName {i : Nat} {d : D} {Q : Unit → Rho → Prop} (e : Free r i) (h : Q () (r.set i (some (.v d)))) : Rq (tName i d r) Q := rq_setS e h
theorem rq_tsNil {Q : Unit → Rho → Prop} (h : Q () r) : Rq (tsNil [] r) Q := .ok h
theorem rq_tsCons {d : D} {ds : List D} {h' : D → M Unit} {hs : List D → M Unit} {Q : Unit → Rho → Prop} (h : Rq (h' d r) fun _ r1 => Rq (hs ds r1) Q) : Rq (tsCons h' hs (d :: ds) r) Q := rq_bnd (rq_noX h)
theorem rq_tTup {ds : List D} {hs : List D → M Unit} {Q : Unit → Rho → Prop} (h : Rq (hs ds r) Q) : Rq (tTupD hs (.tuple ds) r) Q := h
theorem rq_tLst {ds : List D} {hs : List D → M Unit} {Q : Unit → Rho → Prop} (h : Rq (hs ds r) Q) : Rq (tLstD hs (.list ds) r) Q := h
theorem rq_name' {i : Nat} (h : ∃ d, r[i]? = some (some (.v d)) ∧ Q d r) : Rq (dName i r) Q := let ⟨_, e, q⟩ := h; rq_name e q
theorem rq_nameM' {i : Nat} (h : ∃ l, r[i]? = some (some (.m l)) ∧ Q (.list l) (r.set i (some (.v (.list l))))) : Rq (dName i r) Q := let ⟨_, e, q⟩ := h; rq_nameM e q
theorem rq_gIo' {i : Nat} {Q : List Arg → Rho → Prop} (h : (ownAt r i).isSome = true ∧ Rq (as r) fun l r2 => Q (.io i :: l) r2) : Rq (gIo i as r) Q := rq_gIo h.1 h.2
theorem rq_IxO' {i : Nat} (h : (listAt r i).isSome = true ∧ Rq (fb r) fun y r1 => ∃ d c, listAt r1 i = some d ∧ gIx d y = some c ∧ Q c r1) : Rq (dIxO i fb r) Q := rq_IxO h.1 h.2
theorem rq_append' {i : Nat} {Q : Fl → Rho → Prop} (h : (ownAt r i).isSome = true ∧ Rq (fb r) (fun y r1 => ∃ l, ownAt r1 i = some l ∧ l.length < sizeLine ∧ Q .nx (putAt r1 i (l ++ [y])))) : Rq (sAppend i fb r) Q := rq_append h.1 h.2
theorem rq_pop' {i : Nat} (h : (ownAt r i).isSome = true ∧ Rq (fb r) (fun y r1 => ∃ l k d, ownAt r1 i = some l ∧ y = .int (k : Nat) ∧ k < 2 ^ 62 ∧ l[k]? = some d ∧ Q d (putAt r1 i (l.eraseIdx k)))) : Rq (dPop i fb r) Q := rq_pop h.1 h.2
theorem rq_LenO' {i : Nat} (h : ∃ d c, listAt r i = some d ∧ cLen [d] = some c ∧ Q c r) : Rq (dLenO i r) Q := let ⟨_, _, e1, e2, q⟩ := h; rq_LenO e1 e2 q
theorem yes {b : Bool} {A B : Prop} (e : b = true) (h : A) : (b = true → A) ∧ (b = false → B) := ⟨fun _ => h, fun z => by rw [e] at z; cases z⟩
theorem noo {b : Bool} {A B : Prop} (e : b = false) (h : B) : (b = true → A) ∧ (b = false → B) := ⟨fun z => (by rw [e] at z; cases z), fun _ => h⟩
def NP (a : Option Slot) : Prop := ∀ l, a ≠ some (.p l)
theorem np_none : NP none := fun l h => nomatch h
theorem np_v {d : D} : NP (some (.v d)) := fun l h => nomatch h
theorem np_m {d : List D} : NP (some (.m d)) := fun l h => nomatch h
theorem rq_tName' {i : Nat} {d : D} {Q : Unit → Rho → Prop} (h : Free r i ∧ Q () (r.set i (some (.v d)))) : Rq (tName i d r) Q := rq_tName h.1 h.2
theorem free_at {i : Nat} {o : Option Slot} {A : Prop} (e : r[i]? = some o) (n : NP o) (h : A) : Free r i ∧ A := ⟨⟨o, e, n⟩, h⟩
theorem cut_mem {xs : List D} {lo hi : Option Int} {d : D} (h : d ∈ DL.cutD xs lo hi) : d ∈ xs := List.mem_of_mem_drop (List.mem_of_mem_take h)
theorem cut_len {xs : List D} {lo hi : Option Int} : (DL.cutD xs lo hi).length ≤ xs.length := by
  unfold DL.cutD
  rw [List.length_take, List.length_drop]
  omega
theorem rq_SD (h : Rq (fa r) fun d r1 => ∃ c, sortedDict d = some c ∧ Q c r1) : Rq (dSortedDict fa r) Q := rq_bnd (h.imp fun _ _ ⟨_, e, q⟩ => rq_lif e q)
/-! values -/
theorem gAdd_ii {a b : Int} : gAdd (.int a) (.int b) = some (.int (a + b)) := rfl
theorem gSub_ii {a b : Int} : gSub (.int a) (.int b) = some (.int (a - b)) := rfl
theorem gMul_ii {a b : Int} (h : (-(2 ^ 64) < a ∧ a < 2 ^ 64) ∨ (-(2 ^ 64) < b ∧ b < 2 ^ 64)) : gMul (.int a) (.int b) = some (.int (a * b)) := by
  show (if decide _ = true then _ else _) = _
  rw [if_pos (decide_eq_true h)]
theorem gDiv_ii {a b : Int} (h : 0 < b ∧ b < 1073741824) : gDiv (.int a) (.int b) = some (.int (a / b)) := by
  show (if decide _ = true then _ else _) = _
  rw [if_pos (decide_eq_true h)]
theorem gMod_ii {a b : Int} (h : 0 < b) : gMod (.int a) (.int b) = some (.int (a % b)) := by
  show (if decide _ = true then _ else _) = _
  rw [if_pos (decide_eq_true h)]
theorem gGt_ii {a b : Int} : gGt (.int a) (.int b) = some (.bool (decide (b < a))) := rfl
theorem gGe_ii {a b : Int} : gGe (.int a) (.int b) = some (.bool (decide (b ≤ a))) := rfl
theorem gLe_ii {a b : Int} : gLe (.int a) (.int b) = some (.bool (decide (a ≤ b))) := rfl
theorem gLt_ii {a b : Int} : gLt (.int a) (.int b) = some (.bool (decide (a < b))) := rfl
theorem gLt_ss {a b : Str} : gLt (.str a) (.str b) = some (.bool (decide (a.cps.toList < b.cps.toList))) := rfl
theorem cLen_l {ds : List D} : cLen [.list ds] = some (.int ds.length) := rfl
theorem cLen_t {ds : List D} : cLen [.tuple ds] = some (.int ds.length) := rfl
theorem cLen_s {z : Str} (h : z.length ≤ sizeLine) : cLen [.str z] = some (.int z.length) := if_pos h
theorem cInt_i {a : Int} : cInt [.int a] = some (.int a) := rfl
theorem cInt_b {a : Bool} : cInt [.bool a] = some (.int (if a then 1 else 0)) := rfl
theorem cAbs_i {a : Int} : cAbs [.int a] = some (.int (if a < 0 then -a else a)) := rfl
theorem atI_nat {α : Type} {l : List α} {i : Nat} {x : α} (h : l[i]? = some x) : atI l (i : Int) = some x := L2.atI_nat h
theorem gIx_l {l : List D} {i : Nat} {x : D} (h : l[i]? = some x) : gIx (.list l) (.int (i : Int)) = some x := L2.atI_nat h
theorem gIx_t {l : List D} {i : Nat} {x : D} (h : l[i]? = some x) : gIx (.tuple l) (.int (i : Int)) = some x := L2.atI_nat h
/-! ### loops -/
theorem rq_dFor {h : D → M Unit} {body : M Fl} {Q : Fl → Rho → Prop} (I : List D → Rho → Prop) : ∀ (ds done : List D) (r : Rho), I done r →
    (∀ pre d post r, ds = pre ++ d :: post → I (done ++ pre) r → Rq (h d r) (fun _ r2 => Rq (body r2) (fun fl r3 => match fl with
      | .nx => I (done ++ pre ++ [d]) r3
      | .ct => I (done ++ pre ++ [d]) r3
      | .brk => Q .nx r3
      | .ret s => Q (.ret s) r3))) → (∀ r, I (done ++ ds) r → Q .nx r) → Rq (dFor h body ds r) Q
  | [], done, r, hi, _, hq => rq_ret <| hq r (by rw [List.append_nil]; exact hi)
  | d :: ds, done, r, hi, hb, hq => by
    have h1 := hb [] d ds r rfl (by rw [List.append_nil]; exact hi)
    refine rq_bnd (rq_noX (h1.imp fun _ r2 h2 => rq_bnd (h2.imp fun fl r3 h3 => ?_)))
    have next : I (done ++ [] ++ [d]) r3 → Rq (dFor h body ds r3) Q := fun z => by
      refine rq_dFor I ds (done ++ [d]) r3 (by rw [List.append_nil] at z; exact z) (fun pre d' post r e z' => ?_) (fun r z' => hq r (by rw [List.append_assoc] at z'; exact z'))
      have := hb (d :: pre) d' post r (by rw [e]; rfl) (by rw [List.append_assoc] at z'; exact z')
      have e2 : done ++ [d] ++ pre = done ++ (d :: pre) := by rw [List.append_assoc]; rfl
      rw [e2]
      exact this
    cases fl with
    | nx => exact next h3
    | ct => exact next h3
    | brk => exact .ok h3
    | ret s => exact .ok h3
theorem rq_for {fi : M (List D)} {h : D → M Unit} {body : M Fl} {Q : Fl → Rho → Prop} (I : List D → Rho → Prop) (hi : Rq (fi r) (fun ds r1 => I [] r1 ∧
    (∀ pre d post r, ds = pre ++ d :: post → I pre r → Rq (h d r) (fun _ r2 => Rq (body r2) (fun fl r3 => match fl with
      | .nx => I (pre ++ [d]) r3
      | .ct => I (pre ++ [d]) r3
      | .brk => Q .nx r3
      | .ret s => Q (.ret s) r3))) ∧ ∀ r, I ds r → Q .nx r)) : Rq (sFor fi h body r) Q :=
  rq_bnd (hi.imp fun ds r1 ⟨a, b, c⟩ => rq_dFor I ds [] r1 a b c)

/-! ### comprehensions -/
/-- one step of a comprehension -/
def Step (vs : List Nat) (h : D → M Unit) (t : M Bool) (fe : M D) (I : List D → List D → Rho → Prop) (pre acc : List D) (d : D) (r : Rho) : Prop :=
  okW r vs = true ∧ Rq (h d (wipeR r vs)) (fun _ r2 => Rq (t r2) (fun k r3 => (k = true → Rq (fe r3) (fun y r4 => acc.length < sizeLine ∧ I (pre ++ [d]) (acc ++ [y]) r4)) ∧ (k = false → I (pre ++ [d]) acc r3)))
theorem rq_cLoop {vs : List Nat} {h : D → M Unit} {t : M Bool} {fe : M D} {Q : List D → Rho → Prop} (I : List D → List D → Rho → Prop) : ∀ (ds done acc : List D) (r : Rho), I done acc r →
    (∀ pre d post acc r, ds = pre ++ d :: post → I (done ++ pre) acc r → Step vs h t fe I (done ++ pre) acc d r) → (∀ acc r, I (done ++ ds) acc r → Q acc r) → Rq (cLoop vs h t fe ds acc r) Q
  | [], done, acc, r, hi, _, hq => rq_ret <| hq acc r (by rw [List.append_nil]; exact hi)
  | d :: ds, done, acc, r, hi, hb, hq => by
    obtain ⟨hw, h1⟩ := hb [] d ds acc r rfl (by rw [List.append_nil]; exact hi)
    have again : ∀ acc r, I (done ++ [] ++ [d]) acc r → Rq (cLoop vs h t fe ds acc r) Q := fun acc r z => by
      refine rq_cLoop I ds (done ++ [d]) acc r (by rw [List.append_nil] at z; exact z) (fun pre d' post acc r e z' => ?_) (fun acc r z' => hq acc r (by rw [List.append_assoc] at z'; exact z'))
      have := hb (d :: pre) d' post acc r (by rw [e]; rfl) (by rw [List.append_assoc] at z'; exact z')
      have e2 : done ++ [d] ++ pre = done ++ (d :: pre) := by rw [List.append_assoc]; rfl
      rw [e2]
      exact this
    show Rq (if okW r vs = true then bnd (noX (h d)) (fun _ => bnd (noX t) fun k => if k = true then bnd (noX fe) fun y => (if acc.length < sizeLine then cLoop vs h t fe ds (acc ++ [y]) else fun _ => .bad) else cLoop vs h t fe ds acc) (wipeR r vs) else .bad) Q
    rw [if_pos hw]
    refine rq_bnd (rq_noX (h1.imp fun _ r2 h2 => rq_bnd (rq_noX (h2.imp fun k r3 ⟨h3, h4⟩ => rq_ite (fun z => ?_) fun z => again acc r3 (h4 z)))))
    refine rq_bnd (rq_noX ((h3 z).imp fun y r4 ⟨hl, h5⟩ => ?_))
    rw [if_pos hl]
    exact again _ _ h5
theorem rq_comp {vs : List Nat} {fi : M (List D)} {h : D → M Unit} {t : M Bool} {fe : M D} {Q : Slot → Rho → Prop} (I : List D → List D → Rho → Prop) (hi : Rq (fi r) (fun ds r1 => okW r1 vs = true ∧ I [] [] r1 ∧
    (∀ pre d post acc r, ds = pre ++ d :: post → I pre acc r → Step vs h t fe I pre acc d r) ∧ ∀ acc r, I ds acc r → okW r vs = true ∧ Q (.m acc) (restR r1 r vs))) : Rq (sComp vs fi h t fe r) Q := by
  refine rq_bnd (rq_bnd (hi.imp fun ds r1 ⟨h0, h1, h2, h3⟩ => ?_))
  have key := rq_cLoop (Q := fun acc r2 => okW r2 vs = true ∧ Q (.m acc) (restR r1 r2 vs)) I ds [] [] r1 h1 (fun pre d post acc r e z => h2 pre d post acc r e z) (fun acc r z => h3 acc r z)
  show Rq (match cLoop vs h t fe ds [] r1 with
    | .ok acc r' => if (okW r1 vs && okW r' vs) = true then .ok acc (restR r1 r' vs) else .bad
    | _ => .bad) (fun a r1 => Rq (ret (.m a) r1) Q)
  cases e : cLoop vs h t fe ds [] r1 with
  | ok acc r' =>
    rw [e] at key
    obtain ⟨k1, k2⟩ := key.un
    show Rq (if (okW r1 vs && okW r' vs) = true then .ok acc (restR r1 r' vs) else .bad) _
    rw [if_pos (by rw [h0, k1]; rfl)]
    exact .ok (rq_ret k2)
  | exc c d r' => rw [e] at key; cases key
  | bad => rw [e] at key; cases key
theorem set_set {r : Rho} {i : Nat} {a b : Option Slot} : (r.set i a).set i b = r.set i b := by simp
/-- a comprehension over one name whose step changes nothing -/
theorem rq_comp1 {i : Nat} {fi : M (List D)} {t : M Bool} {fe : M D} {Q : Slot → Rho → Prop} (p : D → Bool) (f : D → D) (hi : Rq (fi r) (fun ds r1 => i < r1.length ∧ okW r1 [i] = true ∧ ds.length ≤ sizeLine ∧
    (∀ d ∈ ds, Rq (t (r1.set i (some (.v d)))) (fun k r3 => k = p d ∧ r3 = r1.set i (some (.v d))) ∧ (p d = true → Rq (fe (r1.set i (some (.v d)))) (fun y r4 => y = f d ∧ r4 = r1.set i (some (.v d))))) ∧ Q (.m ((ds.filter p).map f)) r1)) :
    Rq (sComp [i] fi (tName i) t fe r) Q := by
  cases hf : fi r with
  | exc c d r' => rw [hf] at hi; cases hi
  | bad => rw [hf] at hi; cases hi
  | ok ds r1 =>
    rw [hf] at hi
    obtain ⟨hl, hw, hz, hs, hq⟩ := hi.un
    have okset : ∀ x : D, okW (r1.set i (some (.v x))) [i] = true := fun x => by
      unfold okW
      simp [List.getElem?_set_self hl]
    refine rq_comp (fun pre acc r => (r = r1 ∨ ∃ x : D, r = r1.set i (some (.v x))) ∧ acc = (pre.filter p).map f ∧ ∃ post, ds = pre ++ post) (rq_of hf ⟨hw, ⟨.inl rfl, rfl, ds, rfl⟩, fun pre d post acc r e ⟨hr, ha, _⟩ => ?_, fun acc r ⟨hr, ha, _⟩ => ?_⟩)
    · have hmem : d ∈ ds := by rw [e]; simp
      have hokr : okW r [i] = true := by
        rcases hr with rfl | ⟨x, rfl⟩
        · exact hw
        · exact okset x
      have hwipe : wipeR r [i] = r1.set i none := by
        rcases hr with rfl | ⟨x, rfl⟩
        · rfl
        · show (r1.set i (some (.v x))).set i none = _
          exact set_set
      refine ⟨hokr, ?_⟩
      rw [hwipe]
      refine rq_setS ⟨none, List.getElem?_set_self hl, fun l z => by cases z⟩ ?_
      rw [set_set]
      obtain ⟨h1, h2⟩ := hs d hmem
      refine h1.imp fun k r3 ⟨ek, er⟩ => ?_
      subst er
      have hpost : ∃ post', ds = (pre ++ [d]) ++ post' := ⟨post, by rw [e]; simp⟩
      refine ⟨fun hk => ?_, fun hk => ⟨.inr ⟨d, rfl⟩, ?_, hpost⟩⟩
      · refine (h2 (ek ▸ hk)).imp fun y r4 ⟨ey, er⟩ => ⟨?_, .inr ⟨d, er⟩, ?_, hpost⟩
        · have h5 : acc.length ≤ pre.length := by rw [ha, List.length_map]; exact List.length_filter_le _ _
          have h6 : ds.length = pre.length + (post.length + 1) := by rw [e]; simp
          omega
        · rw [ha, ey, List.filter_append, List.map_append]
          have : [d].filter p = [d] := by simp [ek ▸ hk]
          rw [this]; rfl
      · rw [ha, List.filter_append, List.map_append]
        have : [d].filter p = [] := by simp [ek ▸ hk]
        rw [this]; simp
    · have h0 : restR r1 r [i] = r1 := by
        show r.set i (r1.getD i none) = r1
        have hg : r1.getD i none = r1[i] := by rw [List.getD_eq_getElem?_getD, List.getElem?_eq_getElem hl]; rfl
        rw [hg]
        rcases hr with rfl | ⟨x, rfl⟩
        · exact List.set_getElem_self hl
        · rw [set_set]; exact List.set_getElem_self hl
      rw [h0]
      refine ⟨?_, ?_⟩
      · rcases hr with rfl | ⟨x, rfl⟩
        · exact hw
        · exact okset x
      · rw [ha]; exact hq
end
end DL

/-! DLSets: sorted(dict(..)) of texts, of rows of texts; plain. -/
namespace DL
open PySem PySem.Spec PyProof.Rows L2
section
variable {κ : Type} [DecidableEq κ]
theorem addN_mem {acc : List κ} {k x : κ} : x ∈ addN acc k ↔ x ∈ acc ∨ x = k := by
  unfold addN
  split
  · rename_i h
    have := any_mem.mp h
    exact ⟨.inl, fun z => z.elim id fun e => e ▸ this⟩
  · rw [List.mem_append, List.mem_singleton]
theorem addN_nodup {acc : List κ} {k : κ} (h : acc.Nodup) : (addN acc k).Nodup := by
  unfold addN
  split
  · exact h
  · rename_i hn
    have hk : k ∉ acc := fun z => hn (any_mem.mpr z)
    rw [List.nodup_append]
    exact ⟨h, by simp, fun a ha b hb => by rw [List.mem_singleton.mp hb]; exact fun z => hk (z ▸ ha)⟩
theorem addN_len {acc : List κ} {k : κ} : (addN acc k).length ≤ acc.length + 1 := by
  unfold addN
  split
  · omega
  · simp
theorem fold_mem : ∀ (ks acc : List κ) (x : κ), x ∈ ks.foldl addN acc ↔ x ∈ acc ∨ x ∈ ks
  | [], acc, x => by simp
  | k :: ks, acc, x => by
    rw [List.foldl_cons, fold_mem ks, addN_mem, List.mem_cons, or_assoc]
theorem fold_nodup : ∀ (ks acc : List κ), acc.Nodup → (ks.foldl addN acc).Nodup
  | [], acc, h => h
  | k :: ks, acc, h => fold_nodup ks _ (addN_nodup h)
theorem fold_len : ∀ (ks acc : List κ), (ks.foldl addN acc).length ≤ acc.length + ks.length
  | [], acc => by simp
  | k :: ks, acc => by
    have := fold_len ks (addN acc k)
    have h2 := addN_len (acc := acc) (k := k)
    rw [List.foldl_cons, List.length_cons]
    omega
theorem ded_mem {ks : List κ} {x : κ} : x ∈ dedN ks ↔ x ∈ ks := by
  unfold dedN
  rw [fold_mem]
  simp
theorem ded_nodup {ks : List κ} : (dedN ks).Nodup := fold_nodup ks [] List.nodup_nil
theorem ded_len {ks : List κ} : (dedN ks).length ≤ ks.length := by
  have := fold_len ks []
  rw [List.length_nil, Nat.zero_add] at this
  exact this
end
theorem pairKeys_map (ds : List D) : pairKeys (ds.map fun d => .tuple [d, .int 1]) = some ds := by
  induction ds with
  | nil => rfl
  | cons d ds ih =>
    show (pairKeys _).map _ = _
    rw [ih]; rfl
theorem keysOf_strs (ss : List Str) : keysOf (ss.map .str) = some (ss.map Sum.inr) := by
  induction ss with
  | nil => rfl
  | cons d ds ih =>
    show (match keyOf (.str d), keysOf (ds.map .str) with
      | some k, some ks => some (k :: ks)
      | _, _ => none) = _
    rw [ih]; rfl
def sLe (a b : Str) : Bool := PySem.W.dataLe false id (PyData.str a) (PyData.str b)
theorem sLe_iff (a b : Str) : sLe a b = decide (a.cps.toList ≤ b.cps.toList) := congrFun (congrFun (PySem.W.dataLe_str (fun x : Str => x)) a) b
theorem srt_strs (ss : List Str) : srt (ss.map .str) = (ss.mergeSort sLe).map .str := by
  unfold srt
  exact (List.map_mergeSort (f := PyData.str) (r := sLe) (s := PySem.W.dataLe false id) (fun a _ b _ => rfl)).symm
theorem srtB_strs (ss : List Str) : srtB (ss.map .str) = true := by
  unfold srtB
  simp only [Bool.and_eq_true, Bool.or_eq_true, List.all_eq_true, List.mem_map, decide_eq_true_eq]
  refine ⟨⟨fun d ⟨a, _, e⟩ d' ⟨b, _, e'⟩ => ?_, .inr fun d ⟨a, _, e⟩ => ?_⟩, fun d ⟨a, _, e⟩ => ?_⟩
  · subst e; subst e'; simp [PySem.W.alike]
  · subst e; rfl
  · subst e; simp [PyData.depth]
theorem str_eq_of_cps {a b : Str} (h : a.cps.toList = b.cps.toList) : a = b := PySem.W.str_of_cps h
/-- a set of texts as a sorted row -/
theorem set_strs (ss : List Str) : ∃ T : List Str, sortedDict (.list ((ss.map PyData.str).map fun d => .tuple [d, .int 1])) = some (.list (T.map .str)) ∧ (∀ x, x ∈ T ↔ x ∈ ss) ∧ T.length ≤ ss.length ∧ T.Pairwise (fun a b => a.cps.toList < b.cps.toList) := by
  refine ⟨(dedN ss).mergeSort sLe, ?_, fun x => ?_, ?_, ?_⟩
  · unfold sortedDict
    simp only [pairKeys_map, keysOf_strs]
    have e : (dedN (ss.map Sum.inr) : List L2.Key).map keyD = (dedN ss).map .str := by
      have := ded_map (κ := Str) (μ := L2.Key) Sum.inr (fun a b h => by injection h) ss []
      unfold dedN
      rw [List.map_nil] at this
      rw [this, List.map_map]
      rfl
    rw [e]
    unfold chkS
    rw [if_pos (srtB_strs _), srt_strs]
  · rw [List.mem_mergeSort, ded_mem]
  · rw [List.length_mergeSort]
    exact ded_len
  · have h1 : ((dedN ss).mergeSort sLe).Pairwise (fun a b => sLe a b = true) := List.pairwise_mergeSort (fun a b c => ?_) (fun a b => ?_) _
    · have h2 : ((dedN ss).mergeSort sLe).Nodup := (List.mergeSort_perm _ _).nodup_iff.mpr ded_nodup
      refine (h1.and h2).imp fun {a b} ⟨h3, h4⟩ => ?_
      rw [sLe_iff] at h3
      have h5 := of_decide_eq_true h3
      exact Std.lt_of_le_of_ne h5 fun z => h4 (str_eq_of_cps z)
    · rw [sLe_iff, sLe_iff, sLe_iff]
      simp only [decide_eq_true_eq]
      exact fun h1 h2 => List.le_trans h1 h2
    · rw [sLe_iff, sLe_iff]
      simp only [Bool.or_eq_true, decide_eq_true_eq]
      exact List.le_total _ _

def rowD (t : List Str) : D := .tuple (t.map .str)
theorem nks_strs : ∀ t : List Str, nks (t.map .str) = some (t.map .text)
  | [] => rfl
  | a :: t => by
    show (match nk (.str a), nks (t.map .str) with
      | some k, some ks => some (k :: ks)
      | _, _ => none) = _
    rw [nks_strs t]; rfl
theorem nk_row (t : List Str) : nk (rowD t) = some (.tup (t.map .text)) := by
  show (nks (t.map .str)).map NestedKey.tup = _
  rw [nks_strs]; rfl
theorem nks_rows : ∀ ts : List (List Str), nks (ts.map rowD) = some (ts.map fun t => .tup (t.map .text))
  | [] => rfl
  | a :: t => by
    show (match nk (rowD a), nks (t.map rowD) with
      | some k, some ks => some (k :: ks)
      | _, _ => none) = _
    rw [nks_rows t, nk_row]; rfl
theorem datas_strs : ∀ t : List Str, NestedKey.datas (t.map .text) = t.map .str
  | [] => rfl
  | a :: t => by
    show NestedKey.data (.text a) :: NestedKey.datas (t.map .text) = _
    rw [datas_strs t]; rfl
theorem text_inj : ∀ {a b : List Str}, a.map NestedKey.text = b.map NestedKey.text → a = b
  | [], [], _ => rfl
  | [], _ :: _, h => by cases h
  | _ :: _, [], h => by cases h
  | x :: a, y :: b, h => by
    injection h with h1 h2
    injection h1 with h1
    rw [h1, text_inj h2]
theorem alike_strs : ∀ a b : List Str, PySem.W.alikeAll (a.map .str) (b.map .str) = true
  | [], _ => by simp [PySem.W.alikeAll]
  | _ :: _, [] => by simp [PySem.W.alikeAll]
  | x :: a, y :: b => by
    show PySem.W.alikeAll (PyData.str x :: a.map .str) (PyData.str y :: b.map .str) = true
    rw [PySem.W.alikeAll, alike_strs a b]
    simp [PySem.W.alike]
theorem depth_strs : ∀ a : List Str, PyData.depthAll (a.map .str) = 0
  | [] => by simp [PyData.depthAll]
  | x :: a => by
    show PyData.depthAll (PyData.str x :: a.map .str) = 0
    rw [PyData.depthAll, depth_strs a]
    simp [PyData.depth]
theorem srtB_rows (ts : List (List Str)) (h : ∀ t ∈ ts, t ≠ []) : srtB (ts.map rowD) = true := by
  unfold srtB
  simp only [Bool.and_eq_true, Bool.or_eq_true, List.all_eq_true, List.mem_map, decide_eq_true_eq]
  refine ⟨⟨fun d ⟨a, _, e⟩ d' ⟨b, _, e'⟩ => ?_, .inl fun d ⟨a, ha, e⟩ => ?_⟩, fun d ⟨a, _, e⟩ => ?_⟩
  · subst e; subst e'
    show PySem.W.alike (.tuple _) (.tuple _) = true
    rw [PySem.W.alike]
    exact alike_strs a b
  · subst e
    cases a with
    | nil => exact absurd rfl (h _ ha)
    | cons x a => rfl
  · subst e
    show PyData.depth (.tuple (a.map .str)) ≤ 60
    rw [PyData.depth, depth_strs]
    omega
def rLe (a b : List Str) : Bool := PySem.W.dataLe false id (rowD a) (rowD b)
theorem srt_rows (ts : List (List Str)) : srt (ts.map rowD) = (ts.mergeSort rLe).map rowD := by
  unfold srt
  exact (List.map_mergeSort (f := rowD) (r := rLe) (s := PySem.W.dataLe false id) (fun a _ b _ => rfl)).symm
theorem depthN_strs : ∀ a : List Str, NestedKey.depthAll (a.map .text) = 0
  | [] => rfl
  | x :: a => by
    show max (NestedKey.depth (.text x)) (NestedKey.depthAll (a.map .text)) = 0
    rw [depthN_strs a]; rfl
/-- a set of rows of texts as a sorted row -/
theorem set_rows (ts : List (List Str)) (h : ∀ t ∈ ts, t ≠ []) : ∃ T : List (List Str), sortedDict (.list ((ts.map rowD).map fun d => .tuple [d, .int 1])) = some (.list (T.map rowD)) ∧ (∀ x, x ∈ T ↔ x ∈ ts) ∧ T.length ≤ ts.length := by
  refine ⟨(dedN ts).mergeSort rLe, ?_, fun x => by rw [List.mem_mergeSort, ded_mem], by rw [List.length_mergeSort]; exact ded_len⟩
  unfold sortedDict
  simp only [pairKeys_map]
  have fin : chkS ((dedN ts).map rowD) = some (.list (((dedN ts).mergeSort rLe).map rowD)) := by
    unfold chkS
    rw [if_pos (srtB_rows _ fun t ht => h t (ded_mem.mp ht)), srt_rows]
  cases ts with
  | nil => exact fin
  | cons t ts =>
    have e0 : keysOf ((t :: ts).map rowD) = none := by
      show (match keyOf (rowD t), keysOf (ts.map rowD) with
        | some k, some ks => some (k :: ks)
        | _, _ => none) = none
      rfl
    rw [e0]
    simp only [nks_rows]
    have e1 : (dedN ((t :: ts).map fun t : List Str => NestedKey.tup (t.map .text))).map NestedKey.data = (dedN (t :: ts)).map rowD := by
      have := ded_map (κ := List Str) (μ := NestedKey) (fun t => NestedKey.tup (t.map .text)) (fun a b h => by injection h with h; exact text_inj h) (t :: ts) []
      unfold dedN
      rw [List.map_nil] at this
      rw [this, List.map_map]
      refine List.map_congr_left fun a _ => ?_
      show PyData.tuple (NestedKey.datas (a.map .text)) = _
      rw [datas_strs]; rfl
    rw [if_pos ?_, e1]
    · exact fin
    · rw [List.all_eq_true]
      intro n hn
      obtain ⟨a, _, rfl⟩ := List.mem_map.mp hn
      show (true && decide (NestedKey.depthAll (a.map .text) + 1 ≤ 8)) = true
      rw [depthN_strs]; rfl

theorem canAll_strs : ∀ t : List Str, (∀ s ∈ t, PyData.strOk s = true) → PyData.canLayAll0 (t.map .str) = true
  | [], _ => by simp [PyData.canLayAll0]
  | a :: t, h => by
    show PyData.canLayAll0 (PyData.str a :: t.map .str) = true
    simp [PyData.canLayAll0, PyData.canLay0, canAll_strs t fun s hs => h s (List.mem_cons_of_mem _ hs), h a List.mem_cons_self]
theorem shaped_str {a : Str} (h : PyData.strOk a = true) : SeqAt.shaped (.str a) = true := by simp [SeqAt.shaped, PyData.canLay0, PyData.depth, h]
theorem shaped_strs {t : List Str} (h : ∀ s ∈ t, PyData.strOk s = true) : SeqAt.shaped (.list (t.map .str)) = true := by
  simp [SeqAt.shaped, PyData.canLay0, PyData.depth, canAll_strs t h, depth_strs]
theorem eqv_ss (a b : Str) : PyData.eqv (.str a) (.str b) = decide (a = b) := by
  show (a == b) = _
  rw [Bool.eq_iff_iff, beq_iff_eq, decide_eq_true_iff]
theorem gEq_ss {neg : Bool} {a b : Str} (ha : PyData.strOk a = true) (hb : PyData.strOk b = true) : gEq neg (.str a) (.str b) = some (.bool (neg != decide (a = b))) := by
  unfold gEq
  rw [shaped_str ha, shaped_str hb, eqv_ss]; rfl
theorem gIn_ss {a : Str} {t : List Str} (ha : PyData.strOk a = true) (h : ∀ s ∈ t, PyData.strOk s = true) : gIn (.str a) (.tuple (t.map .str)) = some (.bool (t.any fun z => decide (z = a))) := by
  unfold gIn orG gInL
  simp only [shaped_str ha, shaped_strs h, Bool.and_self, if_true, List.any_map]
  congr 2
  simp [Function.comp_def, eqv_ss]
theorem gIn_t2 {a x y : Str} (ha : PyData.strOk a = true) (hx : PyData.strOk x = true) (hy : PyData.strOk y = true) : gIn (.str a) (.tuple [.str x, .str y]) = some (.bool (decide (x = a) || (decide (y = a) || false))) := gIn_ss (t := [x, y]) ha (by simp [hx, hy])
end DL

/-! DLText: joined texts and their read-back, plain. -/
namespace DL
open PySem PySem.Spec PyProof.Rows L2
theorem toStrs_map (ss : List Str) : toStrs (ss.map .str) = some ss := by
  induction ss with
  | nil => rfl
  | cons a t ih =>
    show (toStrs (t.map .str)).map _ = _
    rw [ih]; rfl
def textSum (ss : List Str) : Nat := (ss.map (·.length)).sum
theorem mJoin_t {a : Str} {ss : List Str} (h : textSum ss + ss.length * a.length ≤ 16777216) : mJoin (.str a) [.tuple (ss.map .str)] = some (.str (Txt.join a ss)) := by
  show (toStrs _).bind _ = _
  rw [toStrs_map]
  exact if_pos h
theorem mJoin_l {a : Str} {ss : List Str} (h : textSum ss + ss.length * a.length ≤ 16777216) : mJoin (.str a) [.list (ss.map .str)] = some (.str (Txt.join a ss)) := by
  show (toStrs _).bind _ = _
  rw [toStrs_map]
  exact if_pos h
theorem joinL_len (S : List Nat) : ∀ ps : List (List Nat), (TL.joinL S ps).length ≤ (ps.map List.length).sum + ps.length * S.length
  | [] => by simp [TL.joinL]
  | [p] => by
    show p.length ≤ _
    simp
  | p :: q :: r => by
    have := joinL_len S (q :: r)
    show (p ++ (S ++ TL.joinL S (q :: r))).length ≤ _
    rw [List.length_append, List.length_append]
    rw [List.map_cons, List.sum_cons, List.length_cons, Nat.succ_mul]
    omega
theorem joinL_mem {S : List Nat} {c : Nat} : ∀ {ps : List (List Nat)}, c ∈ TL.joinL S ps → c ∈ S ∨ ∃ p ∈ ps, c ∈ p
  | [], h => by cases h
  | [p], h => .inr ⟨p, List.mem_singleton.mpr rfl, h⟩
  | p :: q :: r, h => by
    rcases List.mem_append.mp (show c ∈ p ++ (S ++ TL.joinL S (q :: r)) from h) with h | h
    · exact .inr ⟨p, List.mem_cons_self, h⟩
    · rcases List.mem_append.mp h with h | h
      · exact .inl h
      · rcases joinL_mem h with h | ⟨x, hx, h⟩
        · exact .inl h
        · exact .inr ⟨x, List.mem_cons_of_mem _ hx, h⟩
theorem len_cps (s : Str) : s.length = s.cps.toList.length := by
  show s.cps.size = _
  simp
theorem join_cps (y : Str) (ps : List Str) : (Txt.join y ps).cps.toList = TL.joinL y.cps.toList (ps.map fun p => p.cps.toList) := by
  rw [TL.join_eq]
  exact TL.tl_join y ps
theorem join_len (y : Str) (ps : List Str) : (Txt.join y ps).length ≤ textSum ps + ps.length * y.length := by
  rw [len_cps, join_cps]
  have := joinL_len y.cps.toList (ps.map fun p => p.cps.toList)
  rw [List.length_map, List.map_map] at this
  have e : (List.length ∘ fun p : Str => p.cps.toList) = fun p : Str => p.length := by
    funext p
    exact (len_cps p).symm
  rw [e, ← len_cps] at this
  exact this
theorem join_mem {y : Str} {ps : List Str} {c : Nat} (h : c ∈ (Txt.join y ps).cps.toList) : c ∈ y.cps.toList ∨ ∃ p ∈ ps, c ∈ p.cps.toList := by
  rw [join_cps] at h
  rcases joinL_mem h with h | ⟨x, hx, h⟩
  · exact .inl h
  · obtain ⟨p, hp, rfl⟩ := List.mem_map.mp hx
    exact .inr ⟨p, hp, h⟩
theorem textSum_le {ss : List Str} {k : Nat} (h : ∀ s ∈ ss, s.length ≤ k) : textSum ss ≤ ss.length * k := by
  induction ss with
  | nil => exact Nat.zero_le _
  | cons a t ih =>
    have h1 := h a List.mem_cons_self
    have h2 := ih fun s hs => h s (List.mem_cons_of_mem _ hs)
    show a.length + textSum t ≤ (t.length + 1) * k
    rw [Nat.succ_mul]
    omega
/-- a text of one sign, joined and split -/
theorem split_back {y : Str} {c : Nat} (ey : y.cps.toList = [c]) (hc : c < 256) {ps : List Str} (h0 : ps ≠ []) (h : ∀ p ∈ ps, c ∉ p.cps.toList) (hz : textSum ps + ps.length + 2 ≤ sizeLine) :
    mSplit (.str (Txt.join y ps)) [.str y] = some (.list (ps.map .str)) := by
  have e := TL.split_join (y := y) (s := c) (S := []) ey (by
    have : y.cps = #[c] := by rw [← Array.toArray_toList (xs := y.cps), ey]
    rw [this]; simp [hc]) h0 h
  have hl : y.length = 1 := by rw [len_cps, ey]; rfl
  have hj := join_len y ps
  show (if (y.length == 0) = false ∧ (Txt.join y ps).length + 2 ≤ sizeLine then some (PyData.list ((Txt.split (Txt.join y ps) y).map .str)) else none) = _
  rw [if_pos ⟨by rw [hl]; rfl, by rw [hl] at hj; omega⟩, e]
theorem ok_join {y : Str} {ps : List Str} (hy : PyData.strOk y = true) (h : ∀ p ∈ ps, PyData.strOk p = true) : PyData.strOk (Txt.join y ps) = true := by
  unfold PyData.strOk
  rw [← Array.all_toList, List.all_eq_true]
  intro c hc
  have get : ∀ {z : Str}, PyData.strOk z = true → c ∈ z.cps.toList → decide (c < 0x110000) = true := fun {z} hz hm => by
    unfold PyData.strOk at hz
    rw [← Array.all_toList, List.all_eq_true] at hz
    exact hz c hm
  rcases join_mem hc with h1 | ⟨p, hp, h1⟩
  · exact get hy h1
  · exact get (h p hp) h1
theorem gEq_t0 {neg : Bool} {T : List Str} (h : ∀ s ∈ T, PyData.strOk s = true) : gEq neg (.tuple (T.map .str)) (.tuple []) = some (.bool (neg != decide (T = []))) := by
  have e1 : SeqAt.shaped (.tuple (T.map .str)) = true := by simp [SeqAt.shaped, PyData.canLay0, PyData.depth, canAll_strs T h, depth_strs]
  have e2 : SeqAt.shaped (.tuple []) = true := by simp [SeqAt.shaped, PyData.canLay0, PyData.canLayAll0, PyData.depth, PyData.depthAll]
  unfold gEq
  rw [e1, e2]
  cases T with
  | nil => rfl
  | cons a T => rfl
theorem gNot {b : Bool} (h : (true != b) = true) : b = false := by cases b <;> simp_all
theorem gNot' {b : Bool} (h : (true != b) = false) : b = true := by cases b <;> simp_all
end DL

/-! printed by gen.py: the defs of the linked text over plain data -/
namespace PySem
namespace Sup_BadLine
open PySem.W PySem.Calls PyProof.Rows PySem.HandSPX
/-! ### the text of __init__ -/
def iA : Arguments := { posonlyargs := [], args := [{ arg := "self", annotation := none, pos := ⟨4, 17, 4, 21⟩ }, { arg := "number", annotation := none, pos := ⟨4, 23, 4, 29⟩ }], vararg := none, kwonlyargs := [], kw_defaults := [], kwarg := none, defaults := [] }
def iB : List Stmt :=
  [.Expr (.Call (.Attribute (.Call (.Name "super" ⟨5, 8, 5, 13⟩) [] [] ⟨5, 8, 5, 15⟩) "__init__" ⟨5, 8, 5, 24⟩) [.Name "number" ⟨5, 25, 5, 31⟩] [] ⟨5, 8, 5, 32⟩) ⟨5, 8, 5, 32⟩, .Assign [.Attribute (.Name "self" ⟨6, 8, 6, 12⟩) "number" ⟨6, 8, 6, 19⟩] (.Name "number" ⟨6, 22, 6, 28⟩) ⟨6, 8, 6, 28⟩]
def iS : Scope := { kind := .function, names := [(PySem.Str.ofString "self", .local), (PySem.Str.ofString "number", .local), (PySem.Str.ofString "__class__", .free), (PySem.Str.ofString "super", .globalImplicit)], isGenerator := false, isCoroutine := false, more := [] }
structure Txt (B newId initId : String) (bmB : List Value) (prog : Program) (K : Frag) (mg : Str → Option Value) (cn qual : Str) (C fI : Addr) : Prop where
  gC : mg cn = some (.ref C)
  ms : mg "super" = none
  ex : excInitIn K C bmB newId = true
  ov : excOver K C bmB = true
  tk : takerIn K C "number" = some none
  sa : findIn K (.ref C) "__setattr__" = some (some (.builtin "object.__setattr__"))
  ga : findIn K (.ref C) "__getattribute__" = some (some (.builtin "BaseException.__getattribute__"))
  gg : findIn K (.ref C) "__getattr__" = some none
  noN : findIn K (.ref C) "number" = some none
  iC : findIn K (.ref C) "__init__" = some (some (.ref fI))
  tC : typeIn K (.ref fI) = some (.type "function")
  kC : keepIn K (.ref C) = true
  exC : subIn K (.ref C) (.type "BaseException") = some true
  tyC : typeIn K (.ref C) = some (.type "type")
  hdC : hasDictIn K C = true
  te : exmOne K (.ref C) (.ref C) = some true
  sup : ks_superIn K C C "__init__" = some (some (.builtin initId))
  sB : subIn K (.ref C) (.type B) = some true
  mr : mroIn K C (.ref C) = some true
  op : nsIn K cStatics "thirdparty.any" = some none
  top : (prog.main.scope.names.lookup ("super" : Str)).isSome = false
  fn : ∃ (oc : Value) (od : Option Addr) (doc pm : Value) (an : Option Addr) (cda : Addr) (ct : Value) (osl : Array (Option Value)) (cc : Addr),
    K.lookup fI = some ⟨oc, od, .func (ksFn "__init__" qual iA iB iS .none .none doc pm an (.ref cda) ct cc), osl⟩ ∧ codeIn K (.ref cda) qual = true ∧
      (∃ ccl cdd vs ccs file tf, K.lookup cda = some ⟨ccl, cdd, .fields vs, ccs⟩ ∧ vs[2]? = some (.str file tf) ∧ ((prog.main.file : Str) == file) = true) ∧ (∃ cl cld csl, K.lookup cc = some ⟨cl, cld, .cell (some (.ref C)), csl⟩)
theorem one_size (v : Value) : [v].length ≤ sizeLine := by
  rw [sizeLine_eq]
  exact (by decide : 1 ≤ 16777216)
theorem kept_but {K : Frag} {h h' : Heap} {x : Addr} (X : K.In h) (hx : K.lookup x = none) (k : ∀ b o, b ≠ x → h.get? b = some o → h'.get? b = some o) : K.In h' := fun a o e =>
  k a o (fun z => by rw [z, hx] at e; cases e) (X a o e)
/-- what __init__ leaves of a fresh exception at x -/
structure InitEnd (h h' : Heap) (x C dx t1 : Addr) (v : Value) : Prop where
  keep : ∀ b o, b ≠ x → h.get? b = some o → h'.get? b = some o
  obj : h'.get? x = some { cls := .ref C, dict := some dx, data := .fields #[.ref t1, .none, .none, .none, .bool false, .none] }
  dbig : h.objs.size ≤ dx
  dne : dx ≠ x
  ns : h'.Ns1 dx (fun y => if y = "number" then some v else none)
/-- a made one -/
structure OwnMade (h h' : Heap) (e C d : Addr) (v : Value) : Prop where
  keep : ∀ b o, h.get? b = some o → h'.get? b = some o
  new : h.objs.size ≤ e
  obj : ∃ oe vs, h'.get? e = some oe ∧ oe.cls = .ref C ∧ oe.dict = some d ∧ oe.data = .fields vs ∧ vs[1]? = some .none
  dbig : h.objs.size ≤ d
  dne : d ≠ e
  ns : h'.Ns1 d (fun y => if y = "number" then some v else none)
section
variable {prog : Program} {w : World} {A : Around} {E : Value → Shared → Prop} {R : Result → Shared → Prop} {s : Shared} {K : Frag} {mg : Str → Option Value} {C fI : Addr} {B newId initId : String} {bmB : List Value} {cn qual : Str}
theorem lk_self {x v : Value} : List.lookup ("self" : Str) ([(("self" : Str), x), (("number" : Str), v)] : List (Str × Value)).reverse = some x := by first | rfl | with_unfolding_all rfl | kernel_rfl
theorem lk_fld {x v : Value} : List.lookup ("number" : Str) ([(("self" : Str), x), (("number" : Str), v)] : List (Str × Value)).reverse = some v := by first | rfl | with_unfolding_all rfl | kernel_rfl
theorem sup_init (KF : KxsFacts B initId) (FB : ExcBaseFacts B newId initId bmB) (SF : StoreFacts B bmB "object.__setattr__" "object") (T : Txt B newId initId bmB prog K mg cn qual C fI) {x t0 : Addr} {v : Value} (X : K.In s.heap) (hlim : s.heap.NoLimit)
    (G : s.heap.Ns mainGlobals mg) {mb : Str → Option Value} (Bn : s.heap.Ns builtinsNs mb) (hmb : mb "super" = some (.type "super"))
    (hx : s.heap.get? x = some (excO C t0)) (hnx : K.lookup x = none) (hroom : A.depth < recursionLimit)
    (hq : ∀ h' tk dx t1, InitEnd s.heap h' x C dx t1 v → R (.ok (.ret .none)) { s with heap := h', toks := tk }) :
    codeAny (model prog w) A (.call (.ref fI) ⟨[.ref x, v], []⟩) R s := by
  obtain ⟨oc, od, doc, pm, an, cda, ct, osl, cc, ho, hcd, ⟨ccl, cdd, vs, ccs, file, tf, hcode, hvs, hfile⟩, ⟨cl, cld, csl, hcell⟩⟩ := T.fn
  obtain ⟨nm, N, q, bs, bm, hdct, sn, sub, ab, col, dd, k0, k1, k2, k3, k5, hC, hbm⟩ := excInit_of X T.ex
  cases hcl : clsIn K C with
  | none => have := T.sup; unfold ks_superIn at this; rw [hcl] at this; cases this
  | some cd =>
    refine ks_codeAny_call_defAt (fd := ksFn "__init__" qual iA iB iS .none .none doc pm an (.ref cda) ct cc) (body := iB)
      (binds := [("self", .ref x), ("number", v)]) hroom (X _ _ ho) rfl hlim (codeRec_of X hcd) rfl (BindsTo.of_eq ?_) ?_ ?_ (fun h₁ hn k => ?_)
    · first | rfl | with_unfolding_all rfl
    · show ∀ x ∈ iS.names, x.2 ≠ NameKind.cell
      decide
    · intro y hy
      rcases List.mem_cons.mp hy with rfl | hy
      · rfl
      · rw [List.mem_singleton.mp hy]
        show iS.names.lookup ("number" : Str) = some NameKind.local
        first | rfl | with_unfolding_all rfl | kernel_rfl
    · have X₀ : K.In (hideAll s.heap [x]) := fun a o e => hideAll_get [x] (X a o e) fun z => by
        rw [List.mem_singleton.mp z, hnx] at e; cases e
      have F₁ : Fr (hideAll s.heap [x]) s.heap.objs.size h₁ (fun y => List.lookup y ([(("self" : Str), Value.ref x), (("number" : Str), v)] : List (Str × Value)).reverse) :=
        ⟨hn, fun b o e => k b o (of_hideAll _ e), Nat.le_of_eq (hideAll_size _ _)⟩
      have N₁ : News (hideAll s.heap [x]) s.heap.objs.size h₁ [(x, excObj C t0 none .none)] := fun p hp => by
        rw [List.mem_singleton.mp hp]
        exact ⟨k _ _ hx, Nat.ne_of_lt (Heap.lt_size hx), hideAll_none _ (.head _)⟩
      have X₁ : K.In h₁ := X.keeps k
      have hx₁ := k _ _ hx
      obtain ⟨hp, g, d, tk, os⟩ := s
      show _root_.PySem.wpAt _ _ _ (execs iB (ksEnv qual iS hp.objs.size fI (.ref cda) cc)) _ _ _
      refine ks_wpAt_execs_cons (ks_wpAt_Expr_any (ks_wpAt_MethodCall ?_))
      refine ks_wpAt_super_base (env := ksEnv qual iS hp.objs.size fI (.ref cda) cc) rfl rfl (by decide) rfl (X₁ _ _ ho) rfl rfl rfl (X₁ _ _ hcode) rfl hvs hfile T.top ?_
      refine ks_loadName_global rfl rfl (loadGlobal_builtin (env := ksEnv qual iS hp.objs.size fI (.ref cda) cc) (G.keeps k) T.ms (Bn.keeps k) hmb ⟨rfl, ?_⟩)
      refine wpAny_loadName_free rfl rfl rfl ⟨_, X₁ _ _ hcell, rfl⟩ ?_
      refine wpAny_loadName_local rfl rfl hn lk_self ?_
      have hC₁ := k _ _ hC
      refine ks_wpAny_isType_cls hC₁ rfl ⟨rfl, ?_⟩
      refine ks_wpAny_call_super hC₁ rfl hx₁ rfl (fun c e => nomatch e) (looks_mroIn X₁ T.mr) (fun h₂ e2 k2 => ?_)
      obtain ⟨F₂, N₂, l₂⟩ := ks_newsPush (s := ⟨h₁, g, d, tk + 2, os⟩) (o := ks_superObj C x C) F₁ N₁ rfl e2 k2
      have hso : hp.objs.size < h₁.objs.size := hn.lt
      have hxs : x < h₁.objs.size := Heap.lt_size hx₁
      refine kxs_method KF F₂ X₀ N₂ (.head _) (InstAt.of_exc0 N₂ (.tail _ (.head _))) T.op T.sup T.sB (by decide) (fun q' h₃ F₃ N₃ l₃ => ?_)
      have hq1 : h₁.objs.size < q' := l₃ _ (.head _)
      have n0 : h₁.objs.size ≠ x := Nat.ne_of_gt hxs
      have n1 : q' ≠ x := Nat.ne_of_gt (Nat.lt_trans hxs hq1)
      refine kxs_callWith1 N₃ (.head _) ?_
      refine Calls.spliced_cons (ESX.ldL F₃.ns lk_fld (Calls.spliced_nil ⟨kxs_at N₃ (.head _), ?_⟩))
      refine kxs_call F₃ X₀ N₃ FB T.ex (.head _) (.tail n1 (.tail n0 (.head fun _ h => nomatch h))) (one_size v) (fun t' h₄ F₄ N₄ l₄ => ?_)
      have ht1 : q' < t' := l₄ _ (.head _)
      have n2 : t' ≠ x := Nat.ne_of_gt (Nat.lt_trans (Nat.lt_trans hxs hq1) ht1)
      refine wpAt_of_wpAny (wpAny_execs_cons (plainObj_wpAny_Assign_Attribute ?_))
      refine ESX.ldL F₄.ns lk_fld (ESX.ldL F₄.ns lk_self ?_)
      refine set_exc0 SF F₄ X₀ N₄ (.tail _ (.tail _ (.tail _ (.head _)))) T.sa T.ov T.tk T.hdC rfl (.tail n2 (.tail n1 (.tail n0 (.head fun _ h => nomatch h)))) (by first | rfl | decide | exact Nat.le_of_ble_eq_true rfl) (fun dx h₅ F₅ N₅ l₅ => ?_)
      have hd1 : t' < dx := l₅ _ (.head _)
      have n3 : dx ≠ x := Nat.ne_of_gt (Nat.lt_trans (Nat.lt_trans (Nat.lt_trans hxs hq1) ht1) hd1)
      have b1 : hp.objs.size ≤ dx := Nat.le_of_lt (Nat.lt_trans (Nat.lt_trans (Nat.lt_trans hso hq1) ht1) hd1)
      refine wpAny_execs_nil (hq h₅ _ dx t' ⟨fun b o hb e => F₅.keep b o (hideAll_get [x] e (by simpa using hb)), (N₅ _ (.tail _ (.tail _ (.tail _ (.tail _ (.head _)))))).1, b1, n3, ?_⟩)
      exact PySem.SupX.ns1_one (N₅ _ (.head _)).1
theorem sup_made (KF : KxsFacts B initId) (FB : ExcBaseFacts B newId initId bmB) (SF : StoreFacts B bmB "object.__setattr__" "object") (T : Txt B newId initId bmB prog K mg cn qual C fI) {v : Value} (X : K.In s.heap) (hlim : s.heap.NoLimit)
    (G : s.heap.Ns mainGlobals mg) {mb : Str → Option Value} (Bn : s.heap.Ns builtinsNs mb) (hmb : mb "super" = some (.type "super")) (hroom : A.depth + 1 < recursionLimit)
    (hq : ∀ h' tk e d, OwnMade s.heap h' e C d v → R (.ok (.ret (.ref e))) { s with heap := h', toks := tk }) :
    codeAny (model prog w) A (.call (.ref C) ⟨[v], []⟩) R s := by
  obtain ⟨nm, N, q, bs, bm, hdct, sn, sub, ab, col, dd, k0, k1, k2, k3, k5, hC, hT⟩ := excInit_of X T.ex
  obtain ⟨hp, g, dr, tk, os⟩ := s
  have k : ∀ b o, hp.get? b = some o → ((hp.push (kdv_tup [v])).push (excO C hp.objs.size)).get? b = some o := fun b o e => Heap.get?_push_of_some _ (Heap.get?_push_of_some _ e)
  have hget : ((hp.push (kdv_tup [v])).push (excO C hp.objs.size)).get? (hp.objs.size + 1) = some (excO C hp.objs.size) := by heap_get
  have hnx : K.lookup (hp.objs.size + 1) = none := by
    cases e : K.lookup (hp.objs.size + 1) with
    | none => rfl
    | some o =>
      have z : hp.get? (hp.objs.size + 1) = some o := X _ _ e
      exact absurd (Nat.lt_of_succ_lt (Heap.lt_size z)) (Nat.lt_irrefl _)
  refine call_own FB hT hC (looks_findIn X T.iC) (fun self => bind_fn X self T.tC) (one_size v) ?_
  refine sup_init (s := ⟨(hp.push (kdv_tup [v])).push (excO C hp.objs.size), g, dr, tk, os⟩) KF FB SF T (X.keeps k) (hlim.keeps k) (G.keeps k) (Bn.keeps k) hmb hget hnx ?_ fun h' tk' dx t1 ⟨k', hx, dn, dne, hns⟩ => ?_
  · show A.depth + 1 < recursionLimit
    exact hroom
  · have old : ∀ b o, hp.get? b = some o → h'.get? b = some o := fun b o e => k' b o (Nat.ne_of_lt (Nat.lt_succ_of_lt (Heap.lt_size e))) (k b o e)
    have z : hp.objs.size + 1 + 1 ≤ dx := by
      first
        | (simpa only [Heap.size_push] using dn)
        | exact dn
        | (have q := dn; rw [Heap.size_push, Heap.size_push] at q; exact q)
    exact ⟨rfl, hq h' tk' (hp.objs.size + 1) dx ⟨old, Nat.le_succ _, ⟨_, _, hx, rfl, rfl, rfl, rfl⟩, Nat.le_trans (Nat.le_trans (Nat.le_succ _) (Nat.le_succ _)) z, dne, hns⟩⟩
end
end Sup_BadLine
end PySem
namespace L2
open PySem PySem.Spec PyProof.Rows
theorem pmk_Sup_BadLine {X : Cx} {C fI : Addr} {B newId initId : String} {bmB : List Value} {cn qual : Str} {a : Expr} {ta : TA} {p pos : Pos} {k : Nat} (KF : PySem.W.KxsFacts B initId) (FB : ExcBaseFacts B newId initId bmB) (SF : StoreFacts B bmB "object.__setattr__" "object")
    (T : PySem.Sup_BadLine.Txt B newId initId bmB X.prog X.K X.mg cn qual C fI) (hr : Room k X.A) (ha : PA X [a] ta) (hg : Gl X cn := by rfl) (hdb : (cn == ("__debug__" : Str)) = false := by decide)
    (he : starEach (a :: []) X.env = (false, eval a X.env) :: starEach [] X.env := by rfl) (hpl : (backTo pos (starEach [] X.env)).any (·.1) = false := by rfl) :
    PMk X (.Call (.Name cn p) [a] [] pos) (tMkX C "number" ta) := by
  intro pins s σ H Q I h
  obtain ⟨mb, hB1, hB2⟩ := I.mod.blt
  refine wpAny_Call_Name_kw (ld_glob I hg T.gC ?_ hdb)
  refine PySem.W.callWith_K (h₀ := X.base) I.ok.mod.kin T.kC (thn (ha.run pos pins s σ H _ I h) fun us s1 hh => ?_) he hpl
  obtain ⟨vs, H1, I1, r1, v, ev, q1⟩ := hh
  subst ev
  refine ⟨I1.kIn, ?_⟩
  cases r1 with
  | cons rv rn =>
    rename_i v' us'
    cases rn
    show wpAny _ _ (call (.ref C) [v']) _ _ _
    have hlim := I1.nolimit
    have G1 := I1.mod.glob.keeps I1.bk
    have B1 := hB1.keeps I1.bk
    obtain ⟨hp, g, dr, tk, os⟩ := s1
    refine wpAny_call (PySem.Sup_BadLine.sup_made KF FB SF T I1.kIn hlim G1 B1 ((hB2 "super" (by decide)).trans (by decide +kernel)) (by have := hr.dp; omega) fun h' tk' e d M => ?_)
    show MkP X pins σ Q (.ref e) ⟨h', g, dr, tk', os⟩
    obtain ⟨oe, fv, hoe, hc, hd, hdat, h1⟩ := M.obj
    have hns := M.ns
    obtain ⟨G', g1, g2⟩ := restrict h' fun b => decide (b ≠ e)
    have gk : ∀ b, b ≠ e → G'.get? b = h'.get? b := fun b hb => g1 b (decide_eq_true hb)
    have ge : G'.get? e = none := g2 e (by simp)
    have old : ∀ b o, hp.get? b = some o → G'.get? b = some o := fun b o q => (gk b (Nat.ne_of_lt (Nat.lt_of_lt_of_le (Heap.lt_size q) M.new))).trans (M.keep b o q)
    have ob : ObjOk X.prog X.w (upd H1 d (.xd [(("number" : Str), v)])) G' d (.xd [(("number" : Str), v)]) :=
      ⟨_, hns.at (fun o q => (gk d M.dne).trans q), fun f => relO_one rv f⟩
    have J : Inv X pins σ (upd H1 d (.xd [(("number" : Str), v)])) ⟨G', g, dr, tk', os⟩ := I1.laid (t' := tk') old M.dbig ob
    refine ⟨e, oe, fv, ⟨G', g, dr, tk', os⟩, _, .ref C, some d, rfl, J, fun b o q => ?_, ge, hoe, ⟨hc, hd⟩, hdat, h1, ?_, rfl, I1.bare, raises_own T.exC T.tyC, q1 d (I1.hok.fresh M.dbig)⟩
    · by_cases hb : b = e
      · have q' : G'.get? b = some o := q
        rw [hb, ge] at q'; cases q'
      · exact (gk b hb).symm.trans q
    · rw [upd_ne (Ne.symm M.dne)]
      exact I1.hok.fresh M.new
end L2

namespace DT
open PySem PySem.Spec PyProof.Rows L2 DL
def topS (i : Nat) : Stmt := PySem.Challenge.pw_touchrights_k15_main_texts_of_plays.main.body.getD i (.Pass ⟨0, 0, 0, 0⟩)
abbrev fuel : Nat := 12
abbrev s_is_name : Stmt := topS 8
abbrev s_is_names : Stmt := topS 9
abbrev s_tupled : Stmt := topS 10
abbrev s_rises : Stmt := topS 11
abbrev s_is_deed : Stmt := topS 17
abbrev s_is_act : Stmt := topS 21
abbrev s_is_move : Stmt := topS 22
abbrev s_names_text : Stmt := topS 26
abbrev s_move_text : Stmt := topS 27
abbrev s_move_in : Stmt := topS 28
abbrev s_play_text : Stmt := topS 29
abbrev s_lines_of : Stmt := topS 30
abbrev s_play_in : Stmt := topS 31
abbrev s_is_text_of_play : Stmt := topS 32
abbrev s_count_moves : Stmt := topS 33
abbrev s_law_box : Stmt := topS 35
abbrev s_law_take : Stmt := topS 36
abbrev s_law_cells : Stmt := topS 37
abbrev s_law_of : Stmt := topS 38
abbrev s_law_pick : Stmt := topS 39
abbrev s_law_lists : Stmt := topS 40
abbrev s_law_same : Stmt := topS 41
abbrev s_law_set : Stmt := topS 42
abbrev s_law_book : Stmt := topS 43
abbrev s_law_may : Stmt := topS 44
abbrev s_law_done : Stmt := topS 45
abbrev s_law_open : Stmt := topS 46
abbrev s_law_drawn_play : Stmt := topS 47
abbrev s_law_words : Stmt := topS 48
abbrev s_law_read : Stmt := topS 49
abbrev s_law : Stmt := topS 50
structure Ad where
  f_is_name : Addr
  fd_is_name : FuncData
  f_is_names : Addr
  fd_is_names : FuncData
  f_tupled : Addr
  fd_tupled : FuncData
  f_rises : Addr
  fd_rises : FuncData
  f_is_deed : Addr
  fd_is_deed : FuncData
  f_is_act : Addr
  fd_is_act : FuncData
  f_is_move : Addr
  fd_is_move : FuncData
  f_names_text : Addr
  fd_names_text : FuncData
  f_move_text : Addr
  fd_move_text : FuncData
  f_move_in : Addr
  fd_move_in : FuncData
  f_play_text : Addr
  fd_play_text : FuncData
  f_lines_of : Addr
  fd_lines_of : FuncData
  f_play_in : Addr
  fd_play_in : FuncData
  f_is_text_of_play : Addr
  fd_is_text_of_play : FuncData
  f_count_moves : Addr
  fd_count_moves : FuncData
  f_law_box : Addr
  fd_law_box : FuncData
  f_law_take : Addr
  fd_law_take : FuncData
  f_law_cells : Addr
  fd_law_cells : FuncData
  f_law_of : Addr
  fd_law_of : FuncData
  f_law_pick : Addr
  fd_law_pick : FuncData
  f_law_lists : Addr
  fd_law_lists : FuncData
  f_law_same : Addr
  fd_law_same : FuncData
  f_law_set : Addr
  fd_law_set : FuncData
  f_law_book : Addr
  fd_law_book : FuncData
  f_law_may : Addr
  fd_law_may : FuncData
  f_law_done : Addr
  fd_law_done : FuncData
  f_law_open : Addr
  fd_law_open : FuncData
  f_law_drawn_play : Addr
  fd_law_drawn_play : FuncData
  f_law_words : Addr
  fd_law_words : FuncData
  f_law_read : Addr
  fd_law_read : FuncData
  f_law : Addr
  fd_law : FuncData
  x_BadLine : Addr
  i_BadLine : Addr
def xcs (A : Ad) : List (Addr × Option Str) := [(A.x_BadLine, some "number")]
structure Tx (P : Program) (K : PySem.W.Frag) (mg : Str → Option Value) (A : Ad) : Prop where
  b_ValueError : mg "ValueError" = none
  b_abs : mg "abs" = none
  b_all : mg "all" = none
  b_bool : mg "bool" = none
  b_dict : mg "dict" = none
  b_enumerate : mg "enumerate" = none
  b_int : mg "int" = none
  b_isinstance : mg "isinstance" = none
  b_len : mg "len" = none
  b_list : mg "list" = none
  b_min : mg "min" = none
  b_range : mg "range" = none
  b_sorted : mg "sorted" = none
  b_str : mg "str" = none
  b_tuple : mg "tuple" = none
  b_zip : mg "zip" = none
  c_LETTERS : ∃ t, mg "LETTERS" = some (.str "abcdefghijklmnopqrstuvwxyz" t)
  c_LONGEST : ∃ t, mg "LONGEST" = some (.int 8 t)
  c_TRIPLE : ∃ t, mg "TRIPLE" = some (.int 3 t)
  c_TAKE : ∃ t, mg "TAKE" = some (.str "take" t)
  c_HAND : ∃ t, mg "HAND" = some (.str "hand" t)
  c_FIVE : ∃ t, mg "FIVE" = some (.int 5 t)
  c_MAKE : ∃ t, mg "MAKE" = some (.str "make" t)
  c_PERSON : ∃ t, mg "PERSON" = some (.str "person" t)
  c_THING : ∃ t, mg "THING" = some (.str "thing" t)
  c_LOOK : ∃ t, mg "LOOK" = some (.str "look" t)
  c_TELL : ∃ t, mg "TELL" = some (.str "tell" t)
  c_NOBODY : ∃ t, mg "NOBODY" = some (.str "-" t)
  c_COMMA : ∃ t, mg "COMMA" = some (.str "," t)
  d_is_name : FDef K mg "is_name" s_is_name A.f_is_name A.fd_is_name ["thing"]
  d_is_names : FDef K mg "is_names" s_is_names A.f_is_names A.fd_is_names ["thing"]
  d_tupled : FDef K mg "tupled" s_tupled A.f_tupled A.fd_tupled ["thing"]
  d_rises : FDef K mg "rises" s_rises A.f_rises A.fd_rises ["row"]
  d_is_deed : FDef K mg "is_deed" s_is_deed A.f_is_deed A.fd_is_deed ["thing"]
  d_is_act : FDef K mg "is_act" s_is_act A.f_is_act A.fd_is_act ["thing"]
  d_is_move : FDef K mg "is_move" s_is_move A.f_is_move A.fd_is_move ["thing"]
  d_names_text : FDef K mg "names_text" s_names_text A.f_names_text A.fd_names_text ["names"]
  d_move_text : FDef K mg "move_text" s_move_text A.f_move_text A.fd_move_text ["move"]
  d_move_in : FDef K mg "move_in" s_move_in A.f_move_in A.fd_move_in ["line"]
  d_play_text : FDef K mg "play_text" s_play_text A.f_play_text A.fd_play_text ["play"]
  d_lines_of : FDef K mg "lines_of" s_lines_of A.f_lines_of A.fd_lines_of ["text"]
  d_play_in : FDef K mg "play_in" s_play_in A.f_play_in A.fd_play_in ["text"]
  d_is_text_of_play : FDef K mg "is_text_of_play" s_is_text_of_play A.f_is_text_of_play A.fd_is_text_of_play ["text"]
  d_count_moves : FDef K mg "count_moves" s_count_moves A.f_count_moves A.fd_count_moves ["play"]
  d_law_box : FDef K mg "_law_box" s_law_box A.f_law_box A.fd_law_box ["script", "k"]
  d_law_take : FDef K mg "_law_take" s_law_take A.f_law_take A.fd_law_take ["tin", "below_so"]
  d_law_cells : FDef K mg "_law_cells" s_law_cells A.f_law_cells A.fd_law_cells ["script", "most_so"]
  d_law_of : FDef K mg "_law_of" s_law_of A.f_law_of A.fd_law_of ["tin", "goods_so"]
  d_law_pick : FDef K mg "_law_pick" s_law_pick A.f_law_pick A.fd_law_pick ["tin", "goods_so", "count_so"]
  d_law_lists : FDef K mg "_law_lists" s_law_lists A.f_law_lists A.fd_law_lists ["matter"]
  d_law_same : FDef K mg "_law_same" s_law_same A.f_law_same A.fd_law_same ["got", "due"]
  d_law_set : FDef K mg "_law_set" s_law_set A.f_law_set A.fd_law_set ["rows_so"]
  d_law_book : FDef K mg "_law_book" s_law_book A.f_law_book A.fd_law_book ["tin", "people_so", "things_so", "holds_so", "rights_so"]
  d_law_may : FDef K mg "_law_may" s_law_may A.f_law_may A.fd_law_may ["book_so", "move_so"]
  d_law_done : FDef K mg "_law_done" s_law_done A.f_law_done A.fd_law_done ["book_so", "move_so"]
  d_law_open : FDef K mg "_law_open" s_law_open A.f_law_open A.fd_law_open ["tin", "book_so"]
  d_law_drawn_play : FDef K mg "_law_drawn_play" s_law_drawn_play A.f_law_drawn_play A.fd_law_drawn_play ["tin", "book_so", "many_so"]
  d_law_words : FDef K mg "_law_words" s_law_words A.f_law_words A.fd_law_words ["move_so"]
  d_law_read : FDef K mg "_law_read" s_law_read A.f_law_read A.fd_law_read ["text_so"]
  d_law : FDef K mg "law" s_law A.f_law A.fd_law ["script"]
  x_BadLine : PySem.Sup_BadLine.Txt "ValueError" "ValueError.__new__" "ValueError.__init__" [.type "ValueError", .type "Exception", .type "BaseException", .type "object"] P K mg "BadLine" "BadLine.__init__" A.x_BadLine A.i_BadLine
  e_BadLine : ExF K A.x_BadLine "number"
  m_BadLine : ∀ c' a fo, (xcs A)[c']? = some (a, fo) → PySem.W.exmOne K (.ref a) (.ref A.x_BadLine) = some (decide (c' = 0))
  k_BadLine_ValueError : PySem.W.kitOne K (.ref A.x_BadLine) (.type "ValueError") = some true
theorem isi_list_tuple : ∀ t ∈ tys, ∃ b c, kitB t "list" = some b ∧ kitB t "tuple" = some c ∧ (fun t => t == "list" || t == "tuple") t = (b || c) := isi_mk _ _ _ (by decide +kernel)
theorem isi_bool_str : ∀ t ∈ tys, ∃ b c, kitB t "bool" = some b ∧ kitB t "str" = some c ∧ (fun t => t == "bool" || t == "str") t = (b || c) := isi_mk _ _ _ (by decide +kernel)
section
variable {P : Program} {w : World} {K : PySem.W.Frag} {mg : Str → Option Value} {base : Heap} {A : Ad}
/-! is_name -/
theorem sc_is_name : FnScope ["thing", "sign"] ["thing"] (defScope s_is_name) := ⟨rfl, rfl, rfl, by decide +kernel, rfl, by decide +kernel, by decide +kernel⟩
def m_is_name : M Fl := (sSeq (mIf (bOr (bNot (dTruth (dIsi (fun t => t == "str") (dName 0)))) (bNot (dTest (dChain gLe gLe (dC (.int 1)) (dCall cLen (aCons (dName 0) aNil)) (dC (.int 8)))))) (sRet (sV (dC (.bool false)))) sNil)
    (sRet (sV (dCall (cAll false) (aCons (dFrz (sComp [1] (iAny (dName 0)) (tName 1) (ret true) (dBin gIn (dName 1) (dC (.str "abcdefghijklmnopqrstuvwxyz"))))) aNil)))))
def g_is_name : List Slot → FRes := runB 2 m_is_name
theorem ok_is_name (T : Tx P K mg A) : FnOk P w K mg base (L2.CX P w) 1 A.f_is_name A.fd_is_name ["thing"] (spD K (xcs A) 1 g_is_name) := by
  refine fn_body (k := 0) T.d_is_name.F sc_is_name (by decide) fun cdv Ar outer s H E pa hr tk => ?_
  have hu := hu2 hr
  have nd := sc_is_name.nd
  refine sds_cons ?_ ?_
  · refine sd_if ?_ ?_ ?_
    · refine EW.et ?_
      · refine ew_or ?_ ?_
        · refine et_not ?_
          · refine et_val ?_
            · refine ev_isi (Tn := "str") (g := (fun t => t == "str")) ?_ T.b_isinstance T.b_str (by decide +kernel) (by decide +kernel)
              · exact ev_name 0
        · refine ew_or1 ?_
          · refine et_not ?_
            · refine et_chain od_le od_le ?_ ?_ ?_
              · exact ev_int
              · refine ev_callB cd_len (by rfl) T.b_len (by decide +kernel) ?_
                · refine ea_cons ?_ ?_
                  · exact ev_name 0
                  · exact ea_nil
              · exact ev_gint (by rfl) T.c_LONGEST.choose_spec
    · refine sds_one ?_
      · refine sd_ret ?_
        · refine es_of ?_
          · exact ev_bool
    · exact sds_nil
  · refine sds_one ?_
    · refine sd_ret ?_
      · refine es_of ?_
        · refine ev_callB (cd_all rfl) (by rfl) T.b_all (by decide +kernel) ?_
          · refine ea_cons ?_ ?_
            · refine ev_frz ?_
              · refine es_lcV (is := [1]) [("sign", 1)] [1] ?_ ?_ ?_ ?_ nd (blkOk_by (N := ["thing", "sign"]) (sc := defScope s_is_name) (own := [("sign", 1)]) (by decide +kernel))
                · refine ei_any ?_
                  · exact ev_name 0
                · intro _ _ _ _ _
                  exact gd_name 1 nd
                · exact bt_nil
                · intro _ _ _ _ _
                  refine ev_cmp (od_in hu.2) ?_ ?_
                  · exact ev_name 1
                  · exact ev_gstr (by rfl) T.c_LETTERS.choose_spec
            · exact ea_nil

/-! rises -/
theorem sc_rises : FnScope ["row", "one", "other"] ["row"] (defScope s_rises) := ⟨rfl, rfl, rfl, by decide +kernel, rfl, by decide +kernel, by decide +kernel⟩
def m_rises : M Fl := (sRet (sV (dCall (cAll false) (aCons (dFrz (sComp [1, 2] (iZip (dName 0) (dSlice gSl (dName 0) (oInt (dC (.int 1))) (ret none))) (tTupD (tsCons (tName 1) (tsCons (tName 2) tsNil))) (ret true) (dBin gLt (dName 1) (dName 2)))) aNil))))
def g_rises : List Slot → FRes := runB 3 m_rises
theorem ok_rises (T : Tx P K mg A) : FnOk P w K mg base (L2.CX P w) 1 A.f_rises A.fd_rises ["row"] (spD K (xcs A) 1 g_rises) := by
  refine fn_body (k := 0) T.d_rises.F sc_rises (by decide) fun cdv Ar outer s H E pa hr tk => ?_
  have hu := hu2 hr
  have nd := sc_rises.nd
  refine sds_one ?_
  · refine sd_ret ?_
    · refine es_of ?_
      · refine ev_callB (cd_all rfl) (by rfl) T.b_all (by decide +kernel) ?_
        · refine ea_cons ?_ ?_
          · refine ev_frz ?_
            · refine es_lcV (is := [1, 2]) [("one", 1), ("other", 2)] [1, 2] ?_ ?_ ?_ ?_ nd (blkOk_by (N := ["row", "one", "other"]) (sc := defScope s_rises) (own := [("one", 1), ("other", 2)]) (by decide +kernel))
              · refine ei_zip ?_ ?_ T.b_zip
                · exact ev_name 0
                · refine ev_slice sld ?_ ?_ ?_
                  · exact ev_name 0
                  · refine eo_some ?_
                    · exact ev_int
                  · exact eo_none
              · intro _ _ _ _ _
                refine gd_tup (is := [1, 2]) ?_ (tsCons_len (tsCons_len tsNil_len))
                · refine gds_cons (js := [1]) ?_ ?_
                  · exact gd_name 1 nd
                  · refine gds_cons (js := [2]) ?_ ?_
                    · exact gd_name 2 nd
                    · exact gds_nil
              · exact bt_nil
              · intro _ _ _ _ _
                refine ev_cmp od_lt ?_ ?_
                · exact ev_name 1
                · exact ev_name 2
          · exact ea_nil

/-! is_names -/
theorem sc_is_names : FnScope ["thing", "own"] ["thing"] (defScope s_is_names) := ⟨rfl, rfl, rfl, by decide +kernel, rfl, by decide +kernel, by decide +kernel⟩
def m_is_names : M Fl := (sRet (sV (dAnd (dIsi (fun t => t == "tuple") (dName 0)) (dAnd (dCall (cAll false) (aCons (dFrz (sComp [1] (iAny (dName 0)) (tName 1) (ret true) (dFrz (dDefN 1 g_is_name (gV (dName 1) gNil))))) aNil)) (dFrz (dDefN 1 g_rises (gV (dName 0) gNil)))))))
def g_is_names : List Slot → FRes := runB 2 m_is_names
theorem ok_is_names (T : Tx P K mg A) : FnOk P w K mg base (L2.CX P w) 2 A.f_is_names A.fd_is_names ["thing"] (spD K (xcs A) 1 g_is_names) := by
  refine fn_body (k := 1) T.d_is_names.F sc_is_names (by decide) fun cdv Ar outer s H E pa hr tk => ?_
  have hu := hu2 hr
  have nd := sc_is_names.nd
  refine sds_one ?_
  · refine sd_ret ?_
    · refine es_of ?_
      · refine ev_and ?_ ?_
        · refine ev_isi (Tn := "tuple") (g := (fun t => t == "tuple")) ?_ T.b_isinstance T.b_tuple (by decide +kernel) (by decide +kernel)
          · exact ev_name 0
        · refine ev_and ?_ ?_
          · refine ev_callB (cd_all rfl) (by rfl) T.b_all (by decide +kernel) ?_
            · refine ea_cons ?_ ?_
              · refine ev_frz ?_
                · refine es_lcV (is := [1]) [("own", 1)] [1] ?_ ?_ ?_ ?_ nd (blkOk_by (N := ["thing", "own"]) (sc := defScope s_is_names) (own := [("own", 1)]) (by decide +kernel))
                  · refine ei_any ?_
                    · exact ev_name 0
                  · intro _ _ _ _ _
                    exact gd_name 1 nd
                  · exact bt_nil
                  · intro _ _ _ _ _
                    refine ev_frz ?_
                    · refine es_callN (ok_is_name T) hr takes0 T.d_is_name.gm T.d_is_name.F.kp T.d_is_name.b ?_ (by first | decide | omega)
                      · refine eg_v ?_ ?_
                        · exact ev_name 1
                        · exact eg_nil
              · exact ea_nil
          · refine ev_one ?_
            · refine ev_frz ?_
              · refine es_callN (ok_rises T) hr tk T.d_rises.gm T.d_rises.F.kp T.d_rises.b ?_ (by first | decide | omega)
                · refine eg_v ?_ ?_
                  · exact ev_name 0
                  · exact eg_nil

/-! tupled -/
theorem sc_tupled : FnScope ["thing", "part"] ["thing"] (defScope s_tupled) := ⟨rfl, rfl, rfl, by decide +kernel, rfl, by decide +kernel, by decide +kernel⟩
def m_tupled (self : List Slot → FRes) : M Fl := (sRet (sV (mIf (dTruth (dIsi (fun t => t == "list" || t == "tuple") (dName 0))) (dCall cTuple (aCons (dFrz (sComp [1] (iAny (dName 0)) (tName 1) (ret true) (dFrz (dDefN 1 self (gV (dName 1) gNil))))) aNil)) (dName 0))))
def g_tupled : Nat → List Slot → FRes
  | 0 => fun _ => .bad
  | n + 1 => runB 2 (m_tupled (g_tupled n))
theorem ok_tupled (T : Tx P K mg A) : ∀ n, FnOk P w K mg base (L2.CX P w) (1 + n) A.f_tupled A.fd_tupled ["thing"] (spD K (xcs A) 1 (g_tupled n))
  | 0 => fn_bad
  | n + 1 => by
    have ih := ok_tupled T n
    refine fn_body (k := 1 + n) T.d_tupled.F sc_tupled (by decide) fun cdv Ar outer s H E pa hr tk => ?_
    have hu := hu2 hr
    have nd := sc_tupled.nd
    refine sds_one ?_
    · refine sd_ret ?_
      · refine es_of ?_
        · refine ev_if ?_ ?_ ?_
          · refine et_val ?_
            · refine ev_isi2 (Tn := "list") (Un := "tuple") (g := (fun t => t == "list" || t == "tuple")) ?_ T.b_isinstance T.b_list T.b_tuple (by decide +kernel) (by decide +kernel) isi_list_tuple
              · exact ev_name 0
          · refine ev_callTy cd_tuple (by rfl) T.b_tuple (by decide +kernel) ?_
            · refine ea_cons ?_ ?_
              · refine ev_frz ?_
                · refine es_lcV (is := [1]) [("part", 1)] [1] ?_ ?_ ?_ ?_ nd (blkOk_by (N := ["thing", "part"]) (sc := defScope s_tupled) (own := [("part", 1)]) (by decide +kernel))
                  · refine ei_any ?_
                    · exact ev_name 0
                  · intro _ _ _ _ _
                    exact gd_name 1 nd
                  · exact bt_nil
                  · intro _ _ _ _ _
                    refine ev_frz ?_
                    · refine es_callN ih hr takes0 T.d_tupled.gm T.d_tupled.F.kp T.d_tupled.b ?_ (by first | decide | omega)
                      · refine eg_v ?_ ?_
                        · exact ev_name 1
                        · exact eg_nil
              · exact ea_nil
          · exact ev_name 0

/-! is_deed -/
theorem sc_is_deed : FnScope ["thing"] ["thing"] (defScope s_is_deed) := ⟨rfl, rfl, rfl, by decide +kernel, rfl, by decide +kernel, by decide +kernel⟩
def m_is_deed : M Fl := (sSeq (mIf (bOr (bNot (dTruth (dIsi (fun t => t == "tuple") (dName 0)))) (bOr (dTest (dBin (gEq true) (dCall cLen (aCons (dName 0) aNil)) (dC (.int 5)))) (bOr (bNot (dTruth (dFrz (dDefN 1 g_is_name (gV (dBin gIx (dName 0) (dC (.int 1))) gNil))))) (bNot (dTruth (dFrz (dDefN 1 g_is_name (gV (dBin gIx (dName 0) (dC (.int 2))) gNil)))))))) (sRet (sV (dC (.bool false)))) sNil)
    (sSeq (mIf (dTest (dBin gIn (dBin gIx (dName 0) (dC (.int 0))) (dTup (aCons (dC (.str "take")) (aCons (dC (.str "hand")) aNil))))) (sRet (sV (dAnd (dFrz (dDefN 1 g_is_name (gV (dBin gIx (dName 0) (dC (.int 3))) gNil))) (dFrz (dDefN 1 g_is_name (gV (dBin gIx (dName 0) (dC (.int 4))) gNil)))))) sNil)
    (sRet (sV (dAnd (dBin (gEq false) (dBin gIx (dName 0) (dC (.int 0))) (dC (.str "make"))) (dAnd (dBin gIn (dBin gIx (dName 0) (dC (.int 3))) (dTup (aCons (dC (.str "person")) (aCons (dC (.str "thing")) aNil)))) (dFrz (dDefN 1 g_is_names (gV (dBin gIx (dName 0) (dC (.int 4))) gNil)))))))))
def g_is_deed : List Slot → FRes := runB 1 m_is_deed
theorem ok_is_deed (T : Tx P K mg A) : FnOk P w K mg base (L2.CX P w) 3 A.f_is_deed A.fd_is_deed ["thing"] (spD K (xcs A) 1 g_is_deed) := by
  refine fn_body (k := 2) T.d_is_deed.F sc_is_deed (by decide) fun cdv Ar outer s H E pa hr tk => ?_
  have hu := hu2 hr
  have nd := sc_is_deed.nd
  refine sds_cons ?_ ?_
  · refine sd_if ?_ ?_ ?_
    · refine EW.et ?_
      · refine ew_or ?_ ?_
        · refine et_not ?_
          · refine et_val ?_
            · refine ev_isi (Tn := "tuple") (g := (fun t => t == "tuple")) ?_ T.b_isinstance T.b_tuple (by decide +kernel) (by decide +kernel)
              · exact ev_name 0
        · refine ew_or ?_ ?_
          · refine et_cmp (od_ne hu.1) ?_ ?_
            · refine ev_callB cd_len (by rfl) T.b_len (by decide +kernel) ?_
              · refine ea_cons ?_ ?_
                · exact ev_name 0
                · exact ea_nil
            · exact ev_gint (by rfl) T.c_FIVE.choose_spec
          · refine ew_or ?_ ?_
            · refine et_not ?_
              · refine et_val ?_
                · refine ev_frz ?_
                  · refine es_callN (ok_is_name T) hr tk T.d_is_name.gm T.d_is_name.F.kp T.d_is_name.b ?_ (by first | decide | omega)
                    · refine eg_v ?_ ?_
                      · refine ev_ix ixd ?_ ?_
                        · exact ev_name 0
                        · exact ev_int
                      · exact eg_nil
            · refine ew_or1 ?_
              · refine et_not ?_
                · refine et_val ?_
                  · refine ev_frz ?_
                    · refine es_callN (ok_is_name T) hr tk T.d_is_name.gm T.d_is_name.F.kp T.d_is_name.b ?_ (by first | decide | omega)
                      · refine eg_v ?_ ?_
                        · refine ev_ix ixd ?_ ?_
                          · exact ev_name 0
                          · exact ev_int
                        · exact eg_nil
    · refine sds_one ?_
      · refine sd_ret ?_
        · refine es_of ?_
          · exact ev_bool
    · exact sds_nil
  · refine sds_cons ?_ ?_
    · refine sd_if ?_ ?_ ?_
      · refine et_cmp (od_in hu.2) ?_ ?_
        · refine ev_ix ixd ?_ ?_
          · exact ev_name 0
          · exact ev_int
        · refine ev_tup ?_
          · refine ea_cons ?_ ?_
            · exact ev_gstr (by rfl) T.c_TAKE.choose_spec
            · refine ea_cons ?_ ?_
              · exact ev_gstr (by rfl) T.c_HAND.choose_spec
              · exact ea_nil
      · refine sds_one ?_
        · refine sd_ret ?_
          · refine es_of ?_
            · refine ev_and ?_ ?_
              · refine ev_frz ?_
                · refine es_callN (ok_is_name T) hr tk T.d_is_name.gm T.d_is_name.F.kp T.d_is_name.b ?_ (by first | decide | omega)
                  · refine eg_v ?_ ?_
                    · refine ev_ix ixd ?_ ?_
                      · exact ev_name 0
                      · exact ev_int
                    · exact eg_nil
              · refine ev_one ?_
                · refine ev_frz ?_
                  · refine es_callN (ok_is_name T) hr tk T.d_is_name.gm T.d_is_name.F.kp T.d_is_name.b ?_ (by first | decide | omega)
                    · refine eg_v ?_ ?_
                      · refine ev_ix ixd ?_ ?_
                        · exact ev_name 0
                        · exact ev_int
                      · exact eg_nil
      · exact sds_nil
    · refine sds_one ?_
      · refine sd_ret ?_
        · refine es_of ?_
          · refine ev_and ?_ ?_
            · refine ev_cmp (od_eq hu.1) ?_ ?_
              · refine ev_ix ixd ?_ ?_
                · exact ev_name 0
                · exact ev_int
              · exact ev_gstr (by rfl) T.c_MAKE.choose_spec
            · refine ev_and ?_ ?_
              · refine ev_cmp (od_in hu.2) ?_ ?_
                · refine ev_ix ixd ?_ ?_
                  · exact ev_name 0
                  · exact ev_int
                · refine ev_tup ?_
                  · refine ea_cons ?_ ?_
                    · exact ev_gstr (by rfl) T.c_PERSON.choose_spec
                    · refine ea_cons ?_ ?_
                      · exact ev_gstr (by rfl) T.c_THING.choose_spec
                      · exact ea_nil
              · refine ev_one ?_
                · refine ev_frz ?_
                  · refine es_callN (ok_is_names T) hr tk T.d_is_names.gm T.d_is_names.F.kp T.d_is_names.b ?_ (by first | decide | omega)
                    · refine eg_v ?_ ?_
                      · refine ev_ix ixd ?_ ?_
                        · exact ev_name 0
                        · exact ev_int
                      · exact eg_nil

/-! is_act -/
theorem sc_is_act : FnScope ["thing"] ["thing"] (defScope s_is_act) := ⟨rfl, rfl, rfl, by decide +kernel, rfl, by decide +kernel, by decide +kernel⟩
def m_is_act : M Fl := (sSeq (mIf (bOr (bNot (dTruth (dIsi (fun t => t == "tuple") (dName 0)))) (bOr (dTest (dBin (gEq true) (dCall cLen (aCons (dName 0) aNil)) (dC (.int 3)))) (bNot (dTruth (dIsi (fun t => t == "str") (dBin gIx (dName 0) (dC (.int 0)))))))) (sRet (sV (dC (.bool false)))) sNil)
    (sRet (sV (dAnd (dBin gIn (dBin gIx (dName 0) (dC (.int 0))) (dTup (aCons (dC (.str "look")) (aCons (dC (.str "tell")) aNil)))) (dAnd (dFrz (dDefN 1 g_is_name (gV (dBin gIx (dName 0) (dC (.int 1))) gNil))) (dFrz (dDefN 1 g_is_name (gV (dBin gIx (dName 0) (dC (.int 2))) gNil))))))))
def g_is_act : List Slot → FRes := runB 1 m_is_act
theorem ok_is_act (T : Tx P K mg A) : FnOk P w K mg base (L2.CX P w) 2 A.f_is_act A.fd_is_act ["thing"] (spD K (xcs A) 1 g_is_act) := by
  refine fn_body (k := 1) T.d_is_act.F sc_is_act (by decide) fun cdv Ar outer s H E pa hr tk => ?_
  have hu := hu2 hr
  have nd := sc_is_act.nd
  refine sds_cons ?_ ?_
  · refine sd_if ?_ ?_ ?_
    · refine EW.et ?_
      · refine ew_or ?_ ?_
        · refine et_not ?_
          · refine et_val ?_
            · refine ev_isi (Tn := "tuple") (g := (fun t => t == "tuple")) ?_ T.b_isinstance T.b_tuple (by decide +kernel) (by decide +kernel)
              · exact ev_name 0
        · refine ew_or ?_ ?_
          · refine et_cmp (od_ne hu.1) ?_ ?_
            · refine ev_callB cd_len (by rfl) T.b_len (by decide +kernel) ?_
              · refine ea_cons ?_ ?_
                · exact ev_name 0
                · exact ea_nil
            · exact ev_gint (by rfl) T.c_TRIPLE.choose_spec
          · refine ew_or1 ?_
            · refine et_not ?_
              · refine et_val ?_
                · refine ev_isi (Tn := "str") (g := (fun t => t == "str")) ?_ T.b_isinstance T.b_str (by decide +kernel) (by decide +kernel)
                  · refine ev_ix ixd ?_ ?_
                    · exact ev_name 0
                    · exact ev_int
    · refine sds_one ?_
      · refine sd_ret ?_
        · refine es_of ?_
          · exact ev_bool
    · exact sds_nil
  · refine sds_one ?_
    · refine sd_ret ?_
      · refine es_of ?_
        · refine ev_and ?_ ?_
          · refine ev_cmp (od_in hu.2) ?_ ?_
            · refine ev_ix ixd ?_ ?_
              · exact ev_name 0
              · exact ev_int
            · refine ev_tup ?_
              · refine ea_cons ?_ ?_
                · exact ev_gstr (by rfl) T.c_LOOK.choose_spec
                · refine ea_cons ?_ ?_
                  · exact ev_gstr (by rfl) T.c_TELL.choose_spec
                  · exact ea_nil
          · refine ev_and ?_ ?_
            · refine ev_frz ?_
              · refine es_callN (ok_is_name T) hr tk T.d_is_name.gm T.d_is_name.F.kp T.d_is_name.b ?_ (by first | decide | omega)
                · refine eg_v ?_ ?_
                  · refine ev_ix ixd ?_ ?_
                    · exact ev_name 0
                    · exact ev_int
                  · exact eg_nil
            · refine ev_one ?_
              · refine ev_frz ?_
                · refine es_callN (ok_is_name T) hr tk T.d_is_name.gm T.d_is_name.F.kp T.d_is_name.b ?_ (by first | decide | omega)
                  · refine eg_v ?_ ?_
                    · refine ev_ix ixd ?_ ?_
                      · exact ev_name 0
                      · exact ev_int
                    · exact eg_nil

/-! is_move -/
theorem sc_is_move : FnScope ["thing"] ["thing"] (defScope s_is_move) := ⟨rfl, rfl, rfl, by decide +kernel, rfl, by decide +kernel, by decide +kernel⟩
def m_is_move : M Fl := (sRet (sV (dOr (dFrz (dDefN 1 g_is_act (gV (dName 0) gNil))) (dFrz (dDefN 1 g_is_deed (gV (dName 0) gNil))))))
def g_is_move : List Slot → FRes := runB 1 m_is_move
theorem ok_is_move (T : Tx P K mg A) : FnOk P w K mg base (L2.CX P w) 4 A.f_is_move A.fd_is_move ["thing"] (spD K (xcs A) 1 g_is_move) := by
  refine fn_body (k := 3) T.d_is_move.F sc_is_move (by decide) fun cdv Ar outer s H E pa hr tk => ?_
  have hu := hu2 hr
  have nd := sc_is_move.nd
  refine sds_one ?_
  · refine sd_ret ?_
    · refine es_of ?_
      · refine ev_or ?_ ?_
        · refine ev_frz ?_
          · refine es_callN (ok_is_act T) hr tk T.d_is_act.gm T.d_is_act.F.kp T.d_is_act.b ?_ (by first | decide | omega)
            · refine eg_v ?_ ?_
              · exact ev_name 0
              · exact eg_nil
        · refine ev_one ?_
          · refine ev_frz ?_
            · refine es_callN (ok_is_deed T) hr tk T.d_is_deed.gm T.d_is_deed.F.kp T.d_is_deed.b ?_ (by first | decide | omega)
              · refine eg_v ?_ ?_
                · exact ev_name 0
                · exact eg_nil

/-! names_text -/
theorem sc_names_text : FnScope ["names"] ["names"] (defScope s_names_text) := ⟨rfl, rfl, rfl, by decide +kernel, rfl, by decide +kernel, by decide +kernel⟩
def m_names_text : M Fl := (sRet (sV (mIf (dTest (dBin gGt (dCall cLen (aCons (dName 0) aNil)) (dC (.int 0)))) (dMeth mJoin (dC (.str ",")) (dName 0)) (dC (.str "-")))))
def g_names_text : List Slot → FRes := runB 1 m_names_text
theorem ok_names_text (T : Tx P K mg A) : FnOk P w K mg base (L2.CX P w) 1 A.f_names_text A.fd_names_text ["names"] (spD K (xcs A) 1 g_names_text) := by
  refine fn_body (k := 0) T.d_names_text.F sc_names_text (by decide) fun cdv Ar outer s H E pa hr tk => ?_
  have hu := hu2 hr
  have nd := sc_names_text.nd
  refine sds_one ?_
  · refine sd_ret ?_
    · refine es_of ?_
      · refine ev_if ?_ ?_ ?_
        · refine et_cmp od_gt ?_ ?_
          · refine ev_callB cd_len (by rfl) T.b_len (by decide +kernel) ?_
            · refine ea_cons ?_ ?_
              · exact ev_name 0
              · exact ea_nil
          · exact ev_int
        · refine ev_m1 PySem.F.slot_str_join PySem.F.type_str_join md_join ?_ ?_
          · exact ev_gstr (by rfl) T.c_COMMA.choose_spec
          · exact ev_name 0
        · exact ev_gstr (by rfl) T.c_NOBODY.choose_spec

/-! move_text -/
theorem sc_move_text : FnScope ["move", "own"] ["move"] (defScope s_move_text) := ⟨rfl, rfl, rfl, by decide +kernel, rfl, by decide +kernel, by decide +kernel⟩
def m_move_text : M Fl := (sSeq (sSet 1 (dDefN 1 (g_tupled fuel) (gV (dName 0) gNil)))
    (sSeq (mIf (dTest (dBin (gEq false) (dBin gIx (dName 1) (dC (.int 0))) (dC (.str "make")))) (sRet (sV (dMeth mJoin (dC (.str " ")) (dLst (aStar (dSlice gSl (dName 1) (ret none) (oInt (dC (.int 4)))) (aCons (dFrz (dDefN 1 g_names_text (gV (dBin gIx (dName 1) (dC (.int 4))) gNil))) aNil)))))) sNil)
    (sRet (sV (dMeth mJoin (dC (.str " ")) (dName 1))))))
def g_move_text : List Slot → FRes := runB 2 m_move_text
theorem ok_move_text (T : Tx P K mg A) : FnOk P w K mg base (L2.CX P w) 14 A.f_move_text A.fd_move_text ["move"] (spD K (xcs A) 1 g_move_text) := by
  refine fn_body (k := 13) T.d_move_text.F sc_move_text (by decide) fun cdv Ar outer s H E pa hr tk => ?_
  have hu := hu2 hr
  have nd := sc_move_text.nd
  refine sds_cons ?_ ?_
  · refine sd_set 1 nd ?_
    · refine es_callN (ok_tupled T fuel) hr tk T.d_tupled.gm T.d_tupled.F.kp T.d_tupled.b ?_ (by first | decide | omega)
      · refine eg_v ?_ ?_
        · exact ev_name 0
        · exact eg_nil
  · refine sds_cons ?_ ?_
    · refine sd_if ?_ ?_ ?_
      · refine et_cmp (od_eq hu.1) ?_ ?_
        · refine ev_ix ixd ?_ ?_
          · exact ev_name 1
          · exact ev_int
        · exact ev_gstr (by rfl) T.c_MAKE.choose_spec
      · refine sds_one ?_
        · refine sd_ret ?_
          · refine es_of ?_
            · refine ev_m1 PySem.F.slot_str_join PySem.F.type_str_join md_join ?_ ?_
              · exact ev_str
              · refine ev_lst ?_
                · refine ea_star ?_ ?_
                  · refine ev_slice sld ?_ ?_ ?_
                    · exact ev_name 1
                    · exact eo_none
                    · refine eo_some ?_
                      · exact ev_int
                  · refine ea_cons ?_ ?_
                    · refine ev_frz ?_
                      · refine es_callN (ok_names_text T) hr tk T.d_names_text.gm T.d_names_text.F.kp T.d_names_text.b ?_ (by first | decide | omega)
                        · refine eg_v ?_ ?_
                          · refine ev_ix ixd ?_ ?_
                            · exact ev_name 1
                            · exact ev_int
                          · exact eg_nil
                    · exact ea_nil
      · exact sds_nil
    · refine sds_one ?_
      · refine sd_ret ?_
        · refine es_of ?_
          · refine ev_m1 PySem.F.slot_str_join PySem.F.type_str_join md_join ?_ ?_
            · exact ev_str
            · exact ev_name 1

/-! move_in -/
theorem sc_move_in : FnScope ["line", "words", "rights", "own"] ["line"] (defScope s_move_in) := ⟨rfl, rfl, rfl, by decide +kernel, rfl, by decide +kernel, by decide +kernel⟩
def m_move_in : M Fl := (sSeq (sSet 1 (sV (dMeth mSplit (dName 0) (dC (.str " ")))))
    (sSeq (mIf (bAnd (dTest (dBin (gEq false) (dBin gIx (dName 1) (dC (.int 0))) (dC (.str "make")))) (dTest (dBin (gEq false) (dCall cLen (aCons (dName 1) aNil)) (dC (.int 5))))) (sSeq (sSet 2 (sV (mIf (dTest (dBin (gEq true) (dBin gIx (dName 1) (dC (.int 4))) (dC (.str "-")))) (dCall cTuple (aCons (dMeth mSplit (dBin gIx (dName 1) (dC (.int 4))) (dC (.str ","))) aNil)) (dTup aNil))))
    (sSet 3 (sV (dTup (aStar (dSlice gSl (dName 1) (ret none) (oInt (dC (.int 4)))) (aCons (dName 2) aNil)))))) (sSet 3 (sV (dCall cTuple (aCons (dName 1) aNil)))))
    (sRet (sV (mIf (dTruth (dFrz (dDefN 1 g_is_move (gV (dName 3) gNil)))) (dName 3) (dC .none))))))
def g_move_in : List Slot → FRes := runB 4 m_move_in
theorem ok_move_in (T : Tx P K mg A) : FnOk P w K mg base (L2.CX P w) 5 A.f_move_in A.fd_move_in ["line"] (spD K (xcs A) 1 g_move_in) := by
  refine fn_body (k := 4) T.d_move_in.F sc_move_in (by decide) fun cdv Ar outer s H E pa hr tk => ?_
  have hu := hu2 hr
  have nd := sc_move_in.nd
  refine sds_cons ?_ ?_
  · refine sd_set 1 nd ?_
    · refine es_of ?_
      · refine ev_m1 PySem.F.slot_str_split PySem.F.type_str_split md_split ?_ ?_
        · exact ev_name 0
        · exact ev_str
  · refine sds_cons ?_ ?_
    · refine sd_if ?_ ?_ ?_
      · refine EW.et ?_
        · refine ew_and ?_ ?_
          · refine et_cmp (od_eq hu.1) ?_ ?_
            · refine ev_ix ixd ?_ ?_
              · exact ev_name 1
              · exact ev_int
            · exact ev_gstr (by rfl) T.c_MAKE.choose_spec
          · refine ew_and1 ?_
            · refine et_cmp (od_eq hu.1) ?_ ?_
              · refine ev_callB cd_len (by rfl) T.b_len (by decide +kernel) ?_
                · refine ea_cons ?_ ?_
                  · exact ev_name 1
                  · exact ea_nil
              · exact ev_int
      · refine sds_cons ?_ ?_
        · refine sd_set 2 nd ?_
          · refine es_of ?_
            · refine ev_if ?_ ?_ ?_
              · refine et_cmp (od_ne hu.1) ?_ ?_
                · refine ev_ix ixd ?_ ?_
                  · exact ev_name 1
                  · exact ev_int
                · exact ev_gstr (by rfl) T.c_NOBODY.choose_spec
              · refine ev_callTy cd_tuple (by rfl) T.b_tuple (by decide +kernel) ?_
                · refine ea_cons ?_ ?_
                  · refine ev_m1 PySem.F.slot_str_split PySem.F.type_str_split md_split ?_ ?_
                    · refine ev_ix ixd ?_ ?_
                      · exact ev_name 1
                      · exact ev_int
                    · exact ev_gstr (by rfl) T.c_COMMA.choose_spec
                  · exact ea_nil
              · refine ev_tup ?_
                · exact ea_nil
        · refine sds_one ?_
          · refine sd_set 3 nd ?_
            · refine es_of ?_
              · refine ev_tup ?_
                · refine ea_star ?_ ?_
                  · refine ev_slice sld ?_ ?_ ?_
                    · exact ev_name 1
                    · exact eo_none
                    · refine eo_some ?_
                      · exact ev_int
                  · refine ea_cons ?_ ?_
                    · exact ev_name 2
                    · exact ea_nil
      · refine sds_one ?_
        · refine sd_set 3 nd ?_
          · refine es_of ?_
            · refine ev_callTy cd_tuple (by rfl) T.b_tuple (by decide +kernel) ?_
              · refine ea_cons ?_ ?_
                · exact ev_name 1
                · exact ea_nil
    · refine sds_one ?_
      · refine sd_ret ?_
        · refine es_of ?_
          · refine ev_if ?_ ?_ ?_
            · refine et_val ?_
              · refine ev_frz ?_
                · refine es_callN (ok_is_move T) hr tk T.d_is_move.gm T.d_is_move.F.kp T.d_is_move.b ?_ (by first | decide | omega)
                  · refine eg_v ?_ ?_
                    · exact ev_name 3
                    · exact eg_nil
            · exact ev_name 3
            · exact ev_none

/-! play_text -/
theorem sc_play_text : FnScope ["play", "move"] ["play"] (defScope s_play_text) := ⟨rfl, rfl, rfl, by decide +kernel, rfl, by decide +kernel, by decide +kernel⟩
def m_play_text : M Fl := (sRet (sV (dMeth mJoin (dC (.str "\n")) (dFrz (sComp [1] (iAny (dName 0)) (tName 1) (ret true) (dFrz (dDefN 1 g_move_text (gV (dName 1) gNil))))))))
def g_play_text : List Slot → FRes := runB 2 m_play_text
theorem ok_play_text (T : Tx P K mg A) : FnOk P w K mg base (L2.CX P w) 15 A.f_play_text A.fd_play_text ["play"] (spD K (xcs A) 1 g_play_text) := by
  refine fn_body (k := 14) T.d_play_text.F sc_play_text (by decide) fun cdv Ar outer s H E pa hr tk => ?_
  have hu := hu2 hr
  have nd := sc_play_text.nd
  refine sds_one ?_
  · refine sd_ret ?_
    · refine es_of ?_
      · refine ev_m1 PySem.F.slot_str_join PySem.F.type_str_join md_join ?_ ?_
        · exact ev_str
        · refine ev_frz ?_
          · refine es_lcV (is := [1]) [("move", 1)] [1] ?_ ?_ ?_ ?_ nd (blkOk_by (N := ["play", "move"]) (sc := defScope s_play_text) (own := [("move", 1)]) (by decide +kernel))
            · refine ei_any ?_
              · exact ev_name 0
            · intro _ _ _ _ _
              exact gd_name 1 nd
            · exact bt_nil
            · intro _ _ _ _ _
              refine ev_frz ?_
              · refine es_callN (ok_move_text T) hr takes0 T.d_move_text.gm T.d_move_text.F.kp T.d_move_text.b ?_ (by first | decide | omega)
                · refine eg_v ?_ ?_
                  · exact ev_name 1
                  · exact eg_nil

/-! lines_of -/
theorem sc_lines_of : FnScope ["text"] ["text"] (defScope s_lines_of) := ⟨rfl, rfl, rfl, by decide +kernel, rfl, by decide +kernel, by decide +kernel⟩
def m_lines_of : M Fl := (sRet (sV (mIf (dTest (dBin (gEq true) (dName 0) (dC (.str "")))) (dMeth mSplit (dName 0) (dC (.str "\n"))) (dLst aNil))))
def g_lines_of : List Slot → FRes := runB 1 m_lines_of
theorem ok_lines_of (T : Tx P K mg A) : FnOk P w K mg base (L2.CX P w) 1 A.f_lines_of A.fd_lines_of ["text"] (spD K (xcs A) 1 g_lines_of) := by
  refine fn_body (k := 0) T.d_lines_of.F sc_lines_of (by decide) fun cdv Ar outer s H E pa hr tk => ?_
  have hu := hu2 hr
  have nd := sc_lines_of.nd
  refine sds_one ?_
  · refine sd_ret ?_
    · refine es_of ?_
      · refine ev_if ?_ ?_ ?_
        · refine et_cmp (od_ne hu.1) ?_ ?_
          · exact ev_name 0
          · exact ev_str
        · refine ev_m1 PySem.F.slot_str_split PySem.F.type_str_split md_split ?_ ?_
          · exact ev_name 0
          · exact ev_str
        · refine ev_lst ?_
          · exact ea_nil

/-! play_in -/
theorem sc_play_in : FnScope ["text", "found", "number", "line", "move"] ["text"] (defScope s_play_in) := ⟨rfl, rfl, rfl, by decide +kernel, rfl, by decide +kernel, by decide +kernel⟩
def m_play_in : M Fl := (sSeq (sSet 1 (sLst aNil))
    (sSeq (sFor (iEnumD (dFrz (dDefN 1 g_lines_of (gV (dName 0) gNil)))) (tTupD (tsCons (tName 2) (tsCons (tName 3) tsNil))) (sSeq (sSet 4 (dDefN 1 g_move_in (gV (dName 3) gNil)))
    (sSeq (mIf (dTest (dBin (gIs false) (dName 4) (dC .none))) (sRaise 0 (dName 2)) sNil)
    (sAppend 1 (dName 4)))))
    (sRet (sV (dCall cTuple (aCons (dName 1) aNil))))))
def g_play_in : List Slot → FRes := runB 5 m_play_in
theorem ok_play_in (T : Tx P K mg A) : FnOk P w K mg base (L2.CX P w) 6 A.f_play_in A.fd_play_in ["text"] (spD K (xcs A) 1 g_play_in) := by
  refine fn_body (k := 5) T.d_play_in.F sc_play_in (by decide) fun cdv Ar outer s H E pa hr tk => ?_
  have hu := hu2 hr
  have nd := sc_play_in.nd
  refine sds_cons ?_ ?_
  · refine sd_set 1 nd ?_
    · refine es_lst ?_
      · exact ea_nil
  · refine sds_cons ?_ ?_
    · refine sd_for (is := [2, 3]) ?_ ?_ ?_ (passes_of rfl)
      · refine ei_enum ?_ T.b_enumerate
        · refine ev_frz ?_
          · refine es_callN (ok_lines_of T) hr tk T.d_lines_of.gm T.d_lines_of.F.kp T.d_lines_of.b ?_ (by first | decide | omega)
            · refine eg_v ?_ ?_
              · exact ev_name 0
              · exact eg_nil
      · refine gd_tup (is := [2, 3]) ?_ (tsCons_len (tsCons_len tsNil_len))
        · refine gds_cons (js := [2]) ?_ ?_
          · exact gd_name 2 nd
          · refine gds_cons (js := [3]) ?_ ?_
            · exact gd_name 3 nd
            · exact gds_nil
      · refine sds_cons ?_ ?_
        · refine sd_set 4 nd ?_
          · refine es_callN (ok_move_in T) hr tk T.d_move_in.gm T.d_move_in.F.kp T.d_move_in.b ?_ (by first | decide | omega)
            · refine eg_v ?_ ?_
              · exact ev_name 3
              · exact eg_nil
        · refine sds_cons ?_ ?_
          · refine sd_if ?_ ?_ ?_
            · refine et_cmp od_is ?_ ?_
              · exact ev_name 4
              · exact ev_none
            · refine sds_one ?_
              · refine sd_raiseX (f := "number") 0 rfl rfl tk (fun _ ha => pmk_Sup_BadLine PySem.W.kxs_ValueError PySem.F.excBase_ValueError PySem.F.store_ValueError T.x_BadLine hr ha) ?_
                · exact ev_name 2
            · exact sds_nil
          · refine sds_one ?_
            · refine sd_append 1 ?_
              · exact ev_name 4
    · refine sds_one ?_
      · refine sd_ret ?_
        · refine es_of ?_
          · refine ev_callTy cd_tuple (by rfl) T.b_tuple (by decide +kernel) ?_
            · refine ea_cons ?_ ?_
              · exact ev_name 1
              · exact ea_nil

/-! is_text_of_play -/
theorem sc_is_text_of_play : FnScope ["text", "line"] ["text"] (defScope s_is_text_of_play) := ⟨rfl, rfl, rfl, by decide +kernel, rfl, by decide +kernel, by decide +kernel⟩
def m_is_text_of_play : M Fl := (sRet (sV (dCall (cAll false) (aCons (dFrz (sComp [1] (iAny (dFrz (dDefN 1 g_lines_of (gV (dName 0) gNil)))) (tName 1) (ret true) (dBin (gIs true) (dFrz (dDefN 1 g_move_in (gV (dName 1) gNil))) (dC .none)))) aNil))))
def g_is_text_of_play : List Slot → FRes := runB 2 m_is_text_of_play
theorem ok_is_text_of_play (T : Tx P K mg A) : FnOk P w K mg base (L2.CX P w) 6 A.f_is_text_of_play A.fd_is_text_of_play ["text"] (spD K (xcs A) 1 g_is_text_of_play) := by
  refine fn_body (k := 5) T.d_is_text_of_play.F sc_is_text_of_play (by decide) fun cdv Ar outer s H E pa hr tk => ?_
  have hu := hu2 hr
  have nd := sc_is_text_of_play.nd
  refine sds_one ?_
  · refine sd_ret ?_
    · refine es_of ?_
      · refine ev_callB (cd_all rfl) (by rfl) T.b_all (by decide +kernel) ?_
        · refine ea_cons ?_ ?_
          · refine ev_frz ?_
            · refine es_lcV (is := [1]) [("line", 1)] [1] ?_ ?_ ?_ ?_ nd (blkOk_by (N := ["text", "line"]) (sc := defScope s_is_text_of_play) (own := [("line", 1)]) (by decide +kernel))
              · refine ei_any ?_
                · refine ev_frz ?_
                  · refine es_callN (ok_lines_of T) hr tk T.d_lines_of.gm T.d_lines_of.F.kp T.d_lines_of.b ?_ (by first | decide | omega)
                    · refine eg_v ?_ ?_
                      · exact ev_name 0
                      · exact eg_nil
              · intro _ _ _ _ _
                exact gd_name 1 nd
              · exact bt_nil
              · intro _ _ _ _ _
                refine ev_cmp od_isnot ?_ ?_
                · refine ev_frz ?_
                  · refine es_callN (ok_move_in T) hr takes0 T.d_move_in.gm T.d_move_in.F.kp T.d_move_in.b ?_ (by first | decide | omega)
                    · refine eg_v ?_ ?_
                      · exact ev_name 1
                      · exact eg_nil
                · exact ev_none
          · exact ea_nil

/-! count_moves -/
theorem sc_count_moves : FnScope ["play", "acts", "move"] ["play"] (defScope s_count_moves) := ⟨rfl, rfl, rfl, by decide +kernel, rfl, by decide +kernel, by decide +kernel⟩
def m_count_moves : M Fl := (sSeq (sSet 1 (sComp [2] (iAny (dFrz (dDefN 1 (g_tupled fuel) (gV (dName 0) gNil)))) (tName 2) (dTruth (dFrz (dDefN 1 g_is_act (gV (dName 2) gNil)))) (dName 2)))
    (sRet (sV (dTup (aCons (dCall cLen (aCons (dFrz (sComp [2] (iAny (dFrz (dDefN 1 (g_tupled fuel) (gV (dName 0) gNil)))) (tName 2) (dTruth (dFrz (dDefN 1 g_is_deed (gV (dName 2) gNil)))) (dName 2))) aNil)) (aCons (dCall cLen (aCons (dName 1) aNil)) aNil))))))
def g_count_moves : List Slot → FRes := runB 3 m_count_moves
theorem ok_count_moves (T : Tx P K mg A) : FnOk P w K mg base (L2.CX P w) 14 A.f_count_moves A.fd_count_moves ["play"] (spD K (xcs A) 1 g_count_moves) := by
  refine fn_body (k := 13) T.d_count_moves.F sc_count_moves (by decide) fun cdv Ar outer s H E pa hr tk => ?_
  have hu := hu2 hr
  have nd := sc_count_moves.nd
  refine sds_cons ?_ ?_
  · refine sd_setLcV 1 (is := [2]) [("move", 2)] [2] ?_ ?_ ?_ ?_ nd (blkOk_by (N := ["play", "acts", "move"]) (sc := defScope s_count_moves) (own := [("move", 2)]) (by decide +kernel))
    · refine ei_any ?_
      · refine ev_frz ?_
        · refine es_callN (ok_tupled T fuel) hr tk T.d_tupled.gm T.d_tupled.F.kp T.d_tupled.b ?_ (by first | decide | omega)
          · refine eg_v ?_ ?_
            · exact ev_name 0
            · exact eg_nil
    · intro _ _ _ _ _
      exact gd_name 2 nd
    · refine bt_one ?_
      · intro _ _ _ _ _
        refine et_val ?_
        · refine ev_frz ?_
          · refine es_callN (ok_is_act T) hr takes0 T.d_is_act.gm T.d_is_act.F.kp T.d_is_act.b ?_ (by first | decide | omega)
            · refine eg_v ?_ ?_
              · exact ev_name 2
              · exact eg_nil
    · intro _ _ _ _ _
      exact ev_name 2
  · refine sds_one ?_
    · refine sd_ret ?_
      · refine es_of ?_
        · refine ev_tup ?_
          · refine ea_cons ?_ ?_
            · refine ev_callB cd_len (by rfl) T.b_len (by decide +kernel) ?_
              · refine ea_cons ?_ ?_
                · refine ev_frz ?_
                  · refine es_lcV (is := [2]) [("move", 2)] [2] ?_ ?_ ?_ ?_ nd (blkOk_by (N := ["play", "acts", "move"]) (sc := defScope s_count_moves) (own := [("move", 2)]) (by decide +kernel))
                    · refine ei_any ?_
                      · refine ev_frz ?_
                        · refine es_callN (ok_tupled T fuel) hr tk T.d_tupled.gm T.d_tupled.F.kp T.d_tupled.b ?_ (by first | decide | omega)
                          · refine eg_v ?_ ?_
                            · exact ev_name 0
                            · exact eg_nil
                    · intro _ _ _ _ _
                      exact gd_name 2 nd
                    · refine bt_one ?_
                      · intro _ _ _ _ _
                        refine et_val ?_
                        · refine ev_frz ?_
                          · refine es_callN (ok_is_deed T) hr takes0 T.d_is_deed.gm T.d_is_deed.F.kp T.d_is_deed.b ?_ (by first | decide | omega)
                            · refine eg_v ?_ ?_
                              · exact ev_name 2
                              · exact eg_nil
                    · intro _ _ _ _ _
                      exact ev_name 2
                · exact ea_nil
            · refine ea_cons ?_ ?_
              · refine ev_callB cd_len (by rfl) T.b_len (by decide +kernel) ?_
                · refine ea_cons ?_ ?_
                  · exact ev_name 1
                  · exact ea_nil
              · exact ea_nil

/-! _law_box -/
theorem sc_law_box : FnScope ["script", "k", "bit_so"] ["script", "k"] (defScope s_law_box) := ⟨rfl, rfl, rfl, by decide +kernel, rfl, by decide +kernel, by decide +kernel⟩
def m_law_box : M Fl := (sSeq (sSet 2 (sV (mIf (dTest (dBin gLt (dName 1) (dCall cLen (aCons (dName 0) aNil)))) (dBin gIx (dName 0) (dName 1)) (dC (.int 0)))))
    (sRet (sLst (aCons (dBin gMul (dCall cAbs (aCons (dName 2) aNil)) (dCall cInt (aCons (dBin gGe (dCall cAbs (aCons (dName 2) aNil)) (dBin gPow (dC (.int 10)) (dC (.int 18)))) aNil))) (aCons (dBin gAdd (dBin gAdd (dBin gMod (dCall cInt (aCons (dName 2) aNil)) (dC (.int 2305843009213693951))) (dBin gMul (dC (.int 39373)) (dName 1))) (dC (.int 119301))) (aCons (dC (.int 0)) aNil))))))
def g_law_box : List Slot → FRes := runB 3 m_law_box
theorem ok_law_box (T : Tx P K mg A) : FnOk P w K mg base (L2.CX P w) 1 A.f_law_box A.fd_law_box ["script", "k"] (spD K (xcs A) 2 g_law_box) := by
  refine fn_body (k := 0) T.d_law_box.F sc_law_box (by decide) fun cdv Ar outer s H E pa hr tk => ?_
  have hu := hu2 hr
  have nd := sc_law_box.nd
  refine sds_cons ?_ ?_
  · refine sd_set 2 nd ?_
    · refine es_of ?_
      · refine ev_if ?_ ?_ ?_
        · refine et_cmp od_lt ?_ ?_
          · exact ev_name 1
          · refine ev_callB cd_len (by rfl) T.b_len (by decide +kernel) ?_
            · refine ea_cons ?_ ?_
              · exact ev_name 0
              · exact ea_nil
        · refine ev_ix ixd ?_ ?_
          · exact ev_name 0
          · exact ev_name 1
        · exact ev_int
  · refine sds_one ?_
    · refine sd_ret ?_
      · refine es_lst ?_
        · refine ea_cons ?_ ?_
          · refine ev_bin od_mul ?_ ?_
            · refine ev_callB cd_abs (by rfl) T.b_abs (by decide +kernel) ?_
              · refine ea_cons ?_ ?_
                · exact ev_name 2
                · exact ea_nil
            · refine ev_callTy cd_int (by rfl) T.b_int (by decide +kernel) ?_
              · refine ea_cons ?_ ?_
                · refine ev_cmp od_ge ?_ ?_
                  · refine ev_callB cd_abs (by rfl) T.b_abs (by decide +kernel) ?_
                    · refine ea_cons ?_ ?_
                      · exact ev_name 2
                      · exact ea_nil
                  · refine ev_bin od_pow ?_ ?_
                    · exact ev_int
                    · exact ev_int
                · exact ea_nil
          · refine ea_cons ?_ ?_
            · refine ev_bin od_add ?_ ?_
              · refine ev_bin od_add ?_ ?_
                · refine ev_bin od_mod ?_ ?_
                  · refine ev_callTy cd_int (by rfl) T.b_int (by decide +kernel) ?_
                    · refine ea_cons ?_ ?_
                      · exact ev_name 2
                      · exact ea_nil
                  · exact ev_int
                · refine ev_bin od_mul ?_ ?_
                  · exact ev_int
                  · exact ev_name 1
              · exact ev_int
            · refine ea_cons ?_ ?_
              · exact ev_int
              · exact ea_nil

/-! _law_take -/
theorem sc_law_take : FnScope ["tin", "below_so", "drawn_so", "once_so", "wide_so", "twice_so"] ["tin", "below_so"] (defScope s_law_take) := ⟨rfl, rfl, rfl, by decide +kernel, rfl, by decide +kernel, by decide +kernel⟩
def m_law_take : M Fl := (sSeq (mIf (dTest (dBin gGt (dIxO 0 (dC (.int 0))) (dC (.int 0)))) (sSeq (sSet 2 (sV (dBin gMod (dCall cInt (aCons (dIxO 0 (dC (.int 0))) aNil)) (dName 1))))
    (sSeq (sSetIx 0 (dBin gDiv (dIxO 0 (dC (.int 0))) (dName 1)) (dC (.int 0)))
    (sRet (sV (dName 2))))) sNil)
    (sSeq (sSetIx 0 (dBin gAdd (dIxO 0 (dC (.int 2))) (dC (.int 1))) (dC (.int 2)))
    (sSeq (sSet 3 (sV (dBin gMod (dCall cInt (aCons (dBin gMul (dBin gAdd (dIxO 0 (dC (.int 1))) (dBin gMul (dC (.int 48271)) (dIxO 0 (dC (.int 2))))) (dBin gAdd (dC (.int 39373)) (dIxO 0 (dC (.int 2))))) aNil)) (dC (.int 2147483647)))))
    (sSeq (sSet 4 (sV (dBin gAdd (dBin gMod (dCall cInt (aCons (dName 3) aNil)) (dC (.int 40009))) (dC (.int 7)))))
    (sSeq (sSet 5 (sV (dBin gMod (dCall cInt (aCons (dBin gMul (dBin gAdd (dBin gAdd (dName 3) (dIxO 0 (dC (.int 2)))) (dBin gDiv (dIxO 0 (dC (.int 1))) (dC (.int 1000003)))) (dName 4)) aNil)) (dC (.int 2147483629)))))
    (sRet (sV (dBin gMod (dCall cInt (aCons (dBin gDiv (dBin gMod (dCall cInt (aCons (dBin gAdd (dBin gMul (dName 5) (dC (.int 48271))) (dName 3)) aNil)) (dC (.int 2147483587))) (dC (.int 64))) aNil)) (dName 1)))))))))
def g_law_take : List Slot → FRes := runB 6 m_law_take
theorem ok_law_take (T : Tx P K mg A) : FnOk P w K mg base (L2.CX P w) 1 A.f_law_take A.fd_law_take ["tin", "below_so"] (spD K (xcs A) 2 g_law_take) := by
  refine fn_body (k := 0) T.d_law_take.F sc_law_take (by decide) fun cdv Ar outer s H E pa hr tk => ?_
  have hu := hu2 hr
  have nd := sc_law_take.nd
  refine sds_cons ?_ ?_
  · refine sd_if ?_ ?_ ?_
    · refine et_cmp od_gt ?_ ?_
      · refine ev_ixO 0 ?_
        · exact ev_int
      · exact ev_int
    · refine sds_cons ?_ ?_
      · refine sd_set 2 nd ?_
        · refine es_of ?_
          · refine ev_bin od_mod ?_ ?_
            · refine ev_callTy cd_int (by rfl) T.b_int (by decide +kernel) ?_
              · refine ea_cons ?_ ?_
                · refine ev_ixO 0 ?_
                  · exact ev_int
                · exact ea_nil
            · exact ev_name 1
      · refine sds_cons ?_ ?_
        · refine sd_setIx 0 ?_ ?_
          · refine ev_bin od_div ?_ ?_
            · refine ev_ixO 0 ?_
              · exact ev_int
            · exact ev_name 1
          · exact ev_int
        · refine sds_one ?_
          · refine sd_ret ?_
            · refine es_of ?_
              · exact ev_name 2
    · exact sds_nil
  · refine sds_cons ?_ ?_
    · refine sd_setIx 0 ?_ ?_
      · refine ev_bin od_add ?_ ?_
        · refine ev_ixO 0 ?_
          · exact ev_int
        · exact ev_int
      · exact ev_int
    · refine sds_cons ?_ ?_
      · refine sd_set 3 nd ?_
        · refine es_of ?_
          · refine ev_bin od_mod ?_ ?_
            · refine ev_callTy cd_int (by rfl) T.b_int (by decide +kernel) ?_
              · refine ea_cons ?_ ?_
                · refine ev_bin od_mul ?_ ?_
                  · refine ev_bin od_add ?_ ?_
                    · refine ev_ixO 0 ?_
                      · exact ev_int
                    · refine ev_bin od_mul ?_ ?_
                      · exact ev_int
                      · refine ev_ixO 0 ?_
                        · exact ev_int
                  · refine ev_bin od_add ?_ ?_
                    · exact ev_int
                    · refine ev_ixO 0 ?_
                      · exact ev_int
                · exact ea_nil
            · exact ev_int
      · refine sds_cons ?_ ?_
        · refine sd_set 4 nd ?_
          · refine es_of ?_
            · refine ev_bin od_add ?_ ?_
              · refine ev_bin od_mod ?_ ?_
                · refine ev_callTy cd_int (by rfl) T.b_int (by decide +kernel) ?_
                  · refine ea_cons ?_ ?_
                    · exact ev_name 3
                    · exact ea_nil
                · exact ev_int
              · exact ev_int
        · refine sds_cons ?_ ?_
          · refine sd_set 5 nd ?_
            · refine es_of ?_
              · refine ev_bin od_mod ?_ ?_
                · refine ev_callTy cd_int (by rfl) T.b_int (by decide +kernel) ?_
                  · refine ea_cons ?_ ?_
                    · refine ev_bin od_mul ?_ ?_
                      · refine ev_bin od_add ?_ ?_
                        · refine ev_bin od_add ?_ ?_
                          · exact ev_name 3
                          · refine ev_ixO 0 ?_
                            · exact ev_int
                        · refine ev_bin od_div ?_ ?_
                          · refine ev_ixO 0 ?_
                            · exact ev_int
                          · exact ev_int
                      · exact ev_name 4
                    · exact ea_nil
                · exact ev_int
          · refine sds_one ?_
            · refine sd_ret ?_
              · refine es_of ?_
                · refine ev_bin od_mod ?_ ?_
                  · refine ev_callTy cd_int (by rfl) T.b_int (by decide +kernel) ?_
                    · refine ea_cons ?_ ?_
                      · refine ev_bin od_div ?_ ?_
                        · refine ev_bin od_mod ?_ ?_
                          · refine ev_callTy cd_int (by rfl) T.b_int (by decide +kernel) ?_
                            · refine ea_cons ?_ ?_
                              · refine ev_bin od_add ?_ ?_
                                · refine ev_bin od_mul ?_ ?_
                                  · exact ev_name 5
                                  · exact ev_int
                                · exact ev_name 3
                              · exact ea_nil
                          · exact ev_int
                        · exact ev_int
                      · exact ea_nil
                  · exact ev_name 1

/-! _law_cells -/
theorem sc_law_cells : FnScope ["script", "most_so", "cells_so", "k", "bit_so", "at_so"] ["script", "most_so"] (defScope s_law_cells) := ⟨rfl, rfl, rfl, by decide +kernel, rfl, by decide +kernel, by decide +kernel⟩
def m_law_cells : M Fl := (sSeq (sSet 2 (sOrT (sListOf (dSlice gSl (dName 0) (ret none) (oInt (dName 1)))) (sLst (aCons (dC (.int 0)) aNil))))
    (sSeq (sFor (iEnumD (dSlice gSl (dName 0) (oInt (dName 1)) (oInt (dC (.int 63))))) (tTupD (tsCons (tName 3) (tsCons (tName 4) tsNil))) (sSeq (sSet 5 (sV (dBin gMod (dCall cInt (aCons (dName 3) aNil)) (dName 1))))
    (sSetIx 2 (dBin gAdd (dIxO 2 (dName 5)) (dBin gMul (dName 4) (dBin gAdd (dName 3) (dC (.int 2))))) (dName 5))))
    (sRet (sV (dName 2)))))
def g_law_cells : List Slot → FRes := runB 6 m_law_cells
theorem ok_law_cells (T : Tx P K mg A) : FnOk P w K mg base (L2.CX P w) 1 A.f_law_cells A.fd_law_cells ["script", "most_so"] (spD K (xcs A) 2 g_law_cells) := by
  refine fn_body (k := 0) T.d_law_cells.F sc_law_cells (by decide) fun cdv Ar outer s H E pa hr tk => ?_
  have hu := hu2 hr
  have nd := sc_law_cells.nd
  refine sds_cons ?_ ?_
  · refine sd_set 2 nd ?_
    · refine es_orT ?_ ?_
      · refine es_listOf ?_ T.b_list
        · refine ev_slice sld ?_ ?_ ?_
          · exact ev_name 0
          · exact eo_none
          · refine eo_some ?_
            · exact ev_name 1
      · refine es_one ?_
        · refine es_lst ?_
          · refine ea_cons ?_ ?_
            · exact ev_int
            · exact ea_nil
  · refine sds_cons ?_ ?_
    · refine sd_for (is := [3, 4]) ?_ ?_ ?_ (passes_of rfl)
      · refine ei_enum ?_ T.b_enumerate
        · refine ev_slice sld ?_ ?_ ?_
          · exact ev_name 0
          · refine eo_some ?_
            · exact ev_name 1
          · refine eo_some ?_
            · exact ev_int
      · refine gd_tup (is := [3, 4]) ?_ (tsCons_len (tsCons_len tsNil_len))
        · refine gds_cons (js := [3]) ?_ ?_
          · exact gd_name 3 nd
          · refine gds_cons (js := [4]) ?_ ?_
            · exact gd_name 4 nd
            · exact gds_nil
      · refine sds_cons ?_ ?_
        · refine sd_set 5 nd ?_
          · refine es_of ?_
            · refine ev_bin od_mod ?_ ?_
              · refine ev_callTy cd_int (by rfl) T.b_int (by decide +kernel) ?_
                · refine ea_cons ?_ ?_
                  · exact ev_name 3
                  · exact ea_nil
              · exact ev_name 1
        · refine sds_one ?_
          · refine sd_setIx 2 ?_ ?_
            · refine ev_bin od_add ?_ ?_
              · refine ev_ixO 2 ?_
                · exact ev_name 5
              · refine ev_bin od_mul ?_ ?_
                · exact ev_name 4
                · refine ev_bin od_add ?_ ?_
                  · exact ev_name 3
                  · exact ev_int
            · exact ev_name 5
    · refine sds_one ?_
      · refine sd_ret ?_
        · refine es_of ?_
          · exact ev_name 2

/-! _law_of -/
theorem sc_law_of : FnScope ["tin", "goods_so"] ["tin", "goods_so"] (defScope s_law_of) := ⟨rfl, rfl, rfl, by decide +kernel, rfl, by decide +kernel, by decide +kernel⟩
def m_law_of : M Fl := (sRet (sV (dBin gIx (dName 1) (dFrz (dDefN 2 g_law_take (gIo 0 (gV (dCall cLen (aCons (dName 1) aNil)) gNil)))))))
def g_law_of : List Slot → FRes := runB 2 m_law_of
theorem ok_law_of (T : Tx P K mg A) : FnOk P w K mg base (L2.CX P w) 2 A.f_law_of A.fd_law_of ["tin", "goods_so"] (spD K (xcs A) 2 g_law_of) := by
  refine fn_body (k := 1) T.d_law_of.F sc_law_of (by decide) fun cdv Ar outer s H E pa hr tk => ?_
  have hu := hu2 hr
  have nd := sc_law_of.nd
  refine sds_one ?_
  · refine sd_ret ?_
    · refine es_of ?_
      · refine ev_ix ixd ?_ ?_
        · exact ev_name 1
        · refine ev_frz ?_
          · refine es_callN (ok_law_take T) hr tk T.d_law_take.gm T.d_law_take.F.kp T.d_law_take.b ?_ (by first | decide | omega)
            · refine eg_io 0 ?_
              · refine eg_v ?_ ?_
                · refine ev_callB cd_len (by rfl) T.b_len (by decide +kernel) ?_
                  · refine ea_cons ?_ ?_
                    · exact ev_name 1
                    · exact ea_nil
                · exact eg_nil

/-! _law_pick -/
theorem sc_law_pick : FnScope ["tin", "goods_so", "count_so", "pool_so", "found", "lap"] ["tin", "goods_so", "count_so"] (defScope s_law_pick) := ⟨rfl, rfl, rfl, by decide +kernel, rfl, by decide +kernel, by decide +kernel⟩
def m_law_pick : M Fl := (sSeq (sPar 3 4 (sListOf (dName 1)) (sLst aNil))
    (sSeq (sFor (iRange1 (dCall cMin (aCons (dCall cInt (aCons (dName 2) aNil)) (aCons (dLenO 3) aNil)))) (tName 5) (sAppend 4 (dPop 3 (dFrz (dDefN 2 g_law_take (gIo 0 (gV (dLenO 3) gNil)))))))
    (sRet (sV (dName 4)))))
def g_law_pick : List Slot → FRes := runB 6 m_law_pick
theorem ok_law_pick (T : Tx P K mg A) : FnOk P w K mg base (L2.CX P w) 2 A.f_law_pick A.fd_law_pick ["tin", "goods_so", "count_so"] (spD K (xcs A) 3 g_law_pick) := by
  refine fn_body (k := 1) T.d_law_pick.F sc_law_pick (by decide) fun cdv Ar outer s H E pa hr tk => ?_
  have hu := hu2 hr
  have nd := sc_law_pick.nd
  refine sds_cons ?_ ?_
  · refine sd_par 3 4 nd ?_ ?_
    · refine es_listOf ?_ T.b_list
      · exact ev_name 1
    · refine es_lst ?_
      · exact ea_nil
  · refine sds_cons ?_ ?_
    · refine sd_for (is := [5]) ?_ ?_ ?_ (passes_of rfl)
      · refine ei_range1 ?_ T.b_range
        · refine ev_callB (cd_min rfl) (by rfl) T.b_min (by decide +kernel) ?_
          · refine ea_cons ?_ ?_
            · refine ev_callTy cd_int (by rfl) T.b_int (by decide +kernel) ?_
              · refine ea_cons ?_ ?_
                · exact ev_name 2
                · exact ea_nil
            · refine ea_cons ?_ ?_
              · exact ev_lenO 3 T.b_len
              · exact ea_nil
      · exact gd_name 5 nd
      · refine sds_one ?_
        · refine sd_append 4 ?_
          · refine ev_pop 3 ?_
            · refine ev_frz ?_
              · refine es_callN (ok_law_take T) hr tk T.d_law_take.gm T.d_law_take.F.kp T.d_law_take.b ?_ (by first | decide | omega)
                · refine eg_io 0 ?_
                  · refine eg_v ?_ ?_
                    · exact ev_lenO 3 T.b_len
                    · exact eg_nil
    · refine sds_one ?_
      · refine sd_ret ?_
        · refine es_of ?_
          · exact ev_name 4

/-! _law_lists -/
theorem sc_law_lists : FnScope ["matter", "bit"] ["matter"] (defScope s_law_lists) := ⟨rfl, rfl, rfl, by decide +kernel, rfl, by decide +kernel, by decide +kernel⟩
def m_law_lists (self : List Slot → FRes) : M Fl := (sRet (sV (mIf (dTruth (dIsi (fun t => t == "list" || t == "tuple") (dName 0))) (dFrz (sComp [1] (iAny (dName 0)) (tName 1) (ret true) (dFrz (dDefN 1 self (gV (dName 1) gNil))))) (dName 0))))
def g_law_lists : Nat → List Slot → FRes
  | 0 => fun _ => .bad
  | n + 1 => runB 2 (m_law_lists (g_law_lists n))
theorem ok_law_lists (T : Tx P K mg A) : ∀ n, FnOk P w K mg base (L2.CX P w) (1 + n) A.f_law_lists A.fd_law_lists ["matter"] (spD K (xcs A) 1 (g_law_lists n))
  | 0 => fn_bad
  | n + 1 => by
    have ih := ok_law_lists T n
    refine fn_body (k := 1 + n) T.d_law_lists.F sc_law_lists (by decide) fun cdv Ar outer s H E pa hr tk => ?_
    have hu := hu2 hr
    have nd := sc_law_lists.nd
    refine sds_one ?_
    · refine sd_ret ?_
      · refine es_of ?_
        · refine ev_if ?_ ?_ ?_
          · refine et_val ?_
            · refine ev_isi2 (Tn := "list") (Un := "tuple") (g := (fun t => t == "list" || t == "tuple")) ?_ T.b_isinstance T.b_list T.b_tuple (by decide +kernel) (by decide +kernel) isi_list_tuple
              · exact ev_name 0
          · refine ev_frz ?_
            · refine es_lcV (is := [1]) [("bit", 1)] [1] ?_ ?_ ?_ ?_ nd (blkOk_by (N := ["matter", "bit"]) (sc := defScope s_law_lists) (own := [("bit", 1)]) (by decide +kernel))
              · refine ei_any ?_
                · exact ev_name 0
              · intro _ _ _ _ _
                exact gd_name 1 nd
              · exact bt_nil
              · intro _ _ _ _ _
                refine ev_frz ?_
                · refine es_callN ih hr takes0 T.d_law_lists.gm T.d_law_lists.F.kp T.d_law_lists.b ?_ (by first | decide | omega)
                  · refine eg_v ?_ ?_
                    · exact ev_name 1
                    · exact eg_nil
          · exact ev_name 0

/-! _law_same -/
theorem sc_law_same : FnScope ["got", "due", "mine", "its"] ["got", "due"] (defScope s_law_same) := ⟨rfl, rfl, rfl, by decide +kernel, rfl, by decide +kernel, by decide +kernel⟩
def m_law_same (self : List Slot → FRes) : M Fl := (sSeq (mIf (dTruth (dIsi (fun t => t == "list" || t == "tuple") (dName 1))) (sSeq (mIf (bOr (dTest (dBin (gEq true) (dIsi (fun t => t == "list") (dName 0)) (dIsi (fun t => t == "list") (dName 1)))) (dTest (dBin (gEq true) (dIsi (fun t => t == "tuple") (dName 0)) (dIsi (fun t => t == "tuple") (dName 1))))) (sRet (sV (dC (.bool false)))) sNil)
    (sRet (sV (dAnd (dBin (gEq false) (dCall cLen (aCons (dName 0) aNil)) (dCall cLen (aCons (dName 1) aNil))) (dCall (cAll false) (aCons (dFrz (sComp [2, 3] (iZip (dName 0) (dName 1)) (tTupD (tsCons (tName 2) (tsCons (tName 3) tsNil))) (ret true) (dFrz (dDefN 2 self (gV (dName 2) (gV (dName 3) gNil)))))) aNil)))))) sNil)
    (sSeq (mIf (dTest (dBin (gIs false) (dName 1) (dC .none))) (sRet (sV (dBin (gIs false) (dName 0) (dC .none)))) sNil)
    (sSeq (mIf (dTruth (dIsi (fun t => t == "bool" || t == "str") (dName 1))) (sRet (sV (dAnd (dBin (gEq false) (dIsi (fun t => t == "bool") (dName 0)) (dIsi (fun t => t == "bool") (dName 1))) (dAnd (dBin (gEq false) (dIsi (fun t => t == "str") (dName 0)) (dIsi (fun t => t == "str") (dName 1))) (dBin (gEq false) (dName 0) (dName 1)))))) sNil)
    (sRet (sV (dAnd (dIsi (fun t => t == "bool" || t == "int") (dName 0)) (dAnd (dNot (dIsi (fun t => t == "bool") (dName 0))) (dBin (gEq false) (dName 0) (dName 1)))))))))
def g_law_same : Nat → List Slot → FRes
  | 0 => fun _ => .bad
  | n + 1 => runB 4 (m_law_same (g_law_same n))
theorem ok_law_same (T : Tx P K mg A) : ∀ n, FnOk P w K mg base (L2.CX P w) (1 + n) A.f_law_same A.fd_law_same ["got", "due"] (spD K (xcs A) 2 (g_law_same n))
  | 0 => fn_bad
  | n + 1 => by
    have ih := ok_law_same T n
    refine fn_body (k := 1 + n) T.d_law_same.F sc_law_same (by decide) fun cdv Ar outer s H E pa hr tk => ?_
    have hu := hu2 hr
    have nd := sc_law_same.nd
    refine sds_cons ?_ ?_
    · refine sd_if ?_ ?_ ?_
      · refine et_val ?_
        · refine ev_isi2 (Tn := "list") (Un := "tuple") (g := (fun t => t == "list" || t == "tuple")) ?_ T.b_isinstance T.b_list T.b_tuple (by decide +kernel) (by decide +kernel) isi_list_tuple
          · exact ev_name 1
      · refine sds_cons ?_ ?_
        · refine sd_if ?_ ?_ ?_
          · refine EW.et ?_
            · refine ew_or ?_ ?_
              · refine et_cmp (od_ne hu.1) ?_ ?_
                · refine ev_isi (Tn := "list") (g := (fun t => t == "list")) ?_ T.b_isinstance T.b_list (by decide +kernel) (by decide +kernel)
                  · exact ev_name 0
                · refine ev_isi (Tn := "list") (g := (fun t => t == "list")) ?_ T.b_isinstance T.b_list (by decide +kernel) (by decide +kernel)
                  · exact ev_name 1
              · refine ew_or1 ?_
                · refine et_cmp (od_ne hu.1) ?_ ?_
                  · refine ev_isi (Tn := "tuple") (g := (fun t => t == "tuple")) ?_ T.b_isinstance T.b_tuple (by decide +kernel) (by decide +kernel)
                    · exact ev_name 0
                  · refine ev_isi (Tn := "tuple") (g := (fun t => t == "tuple")) ?_ T.b_isinstance T.b_tuple (by decide +kernel) (by decide +kernel)
                    · exact ev_name 1
          · refine sds_one ?_
            · refine sd_ret ?_
              · refine es_of ?_
                · exact ev_bool
          · exact sds_nil
        · refine sds_one ?_
          · refine sd_ret ?_
            · refine es_of ?_
              · refine ev_and ?_ ?_
                · refine ev_cmp (od_eq hu.1) ?_ ?_
                  · refine ev_callB cd_len (by rfl) T.b_len (by decide +kernel) ?_
                    · refine ea_cons ?_ ?_
                      · exact ev_name 0
                      · exact ea_nil
                  · refine ev_callB cd_len (by rfl) T.b_len (by decide +kernel) ?_
                    · refine ea_cons ?_ ?_
                      · exact ev_name 1
                      · exact ea_nil
                · refine ev_one ?_
                  · refine ev_callB (cd_all rfl) (by rfl) T.b_all (by decide +kernel) ?_
                    · refine ea_cons ?_ ?_
                      · refine ev_frz ?_
                        · refine es_lcV (is := [2, 3]) [("mine", 2), ("its", 3)] [2, 3] ?_ ?_ ?_ ?_ nd (blkOk_by (N := ["got", "due", "mine", "its"]) (sc := defScope s_law_same) (own := [("mine", 2), ("its", 3)]) (by decide +kernel))
                          · refine ei_zip ?_ ?_ T.b_zip
                            · exact ev_name 0
                            · exact ev_name 1
                          · intro _ _ _ _ _
                            refine gd_tup (is := [2, 3]) ?_ (tsCons_len (tsCons_len tsNil_len))
                            · refine gds_cons (js := [2]) ?_ ?_
                              · exact gd_name 2 nd
                              · refine gds_cons (js := [3]) ?_ ?_
                                · exact gd_name 3 nd
                                · exact gds_nil
                          · exact bt_nil
                          · intro _ _ _ _ _
                            refine ev_frz ?_
                            · refine es_callN ih hr takes0 T.d_law_same.gm T.d_law_same.F.kp T.d_law_same.b ?_ (by first | decide | omega)
                              · refine eg_v ?_ ?_
                                · exact ev_name 2
                                · refine eg_v ?_ ?_
                                  · exact ev_name 3
                                  · exact eg_nil
                      · exact ea_nil
      · exact sds_nil
    · refine sds_cons ?_ ?_
      · refine sd_if ?_ ?_ ?_
        · refine et_cmp od_is ?_ ?_
          · exact ev_name 1
          · exact ev_none
        · refine sds_one ?_
          · refine sd_ret ?_
            · refine es_of ?_
              · refine ev_cmp od_is ?_ ?_
                · exact ev_name 0
                · exact ev_none
        · exact sds_nil
      · refine sds_cons ?_ ?_
        · refine sd_if ?_ ?_ ?_
          · refine et_val ?_
            · refine ev_isi2 (Tn := "bool") (Un := "str") (g := (fun t => t == "bool" || t == "str")) ?_ T.b_isinstance T.b_bool T.b_str (by decide +kernel) (by decide +kernel) isi_bool_str
              · exact ev_name 1
          · refine sds_one ?_
            · refine sd_ret ?_
              · refine es_of ?_
                · refine ev_and ?_ ?_
                  · refine ev_cmp (od_eq hu.1) ?_ ?_
                    · refine ev_isi (Tn := "bool") (g := (fun t => t == "bool")) ?_ T.b_isinstance T.b_bool (by decide +kernel) (by decide +kernel)
                      · exact ev_name 0
                    · refine ev_isi (Tn := "bool") (g := (fun t => t == "bool")) ?_ T.b_isinstance T.b_bool (by decide +kernel) (by decide +kernel)
                      · exact ev_name 1
                  · refine ev_and ?_ ?_
                    · refine ev_cmp (od_eq hu.1) ?_ ?_
                      · refine ev_isi (Tn := "str") (g := (fun t => t == "str")) ?_ T.b_isinstance T.b_str (by decide +kernel) (by decide +kernel)
                        · exact ev_name 0
                      · refine ev_isi (Tn := "str") (g := (fun t => t == "str")) ?_ T.b_isinstance T.b_str (by decide +kernel) (by decide +kernel)
                        · exact ev_name 1
                    · refine ev_one ?_
                      · refine ev_cmp (od_eq hu.1) ?_ ?_
                        · exact ev_name 0
                        · exact ev_name 1
          · exact sds_nil
        · refine sds_one ?_
          · refine sd_ret ?_
            · refine es_of ?_
              · refine ev_and ?_ ?_
                · refine ev_isi (Tn := "int") (g := (fun t => t == "bool" || t == "int")) ?_ T.b_isinstance T.b_int (by decide +kernel) (by decide +kernel)
                  · exact ev_name 0
                · refine ev_and ?_ ?_
                  · refine ev_not ?_
                    · refine ev_isi (Tn := "bool") (g := (fun t => t == "bool")) ?_ T.b_isinstance T.b_bool (by decide +kernel) (by decide +kernel)
                      · exact ev_name 0
                  · refine ev_one ?_
                    · refine ev_cmp (od_eq hu.1) ?_ ?_
                      · exact ev_name 0
                      · exact ev_name 1

/-! _law_set -/
theorem sc_law_set : FnScope ["rows_so", "own"] ["rows_so"] (defScope s_law_set) := ⟨rfl, rfl, rfl, by decide +kernel, rfl, by decide +kernel, by decide +kernel⟩
def m_law_set : M Fl := (sRet (sV (dCall cTuple (aCons (dSortedDict (dFrz (sComp [1] (iAny (dName 0)) (tName 1) (ret true) (dTup (aCons (dName 1) (aCons (dC (.int 1)) aNil)))))) aNil))))
def g_law_set : List Slot → FRes := runB 2 m_law_set
theorem ok_law_set (T : Tx P K mg A) : FnOk P w K mg base (L2.CX P w) 1 A.f_law_set A.fd_law_set ["rows_so"] (spD K (xcs A) 1 g_law_set) := by
  refine fn_body (k := 0) T.d_law_set.F sc_law_set (by decide) fun cdv Ar outer s H E pa hr tk => ?_
  have hu := hu2 hr
  have nd := sc_law_set.nd
  refine sds_one ?_
  · refine sd_ret ?_
    · refine es_of ?_
      · refine ev_callTy cd_tuple (by rfl) T.b_tuple (by decide +kernel) ?_
        · refine ea_cons ?_ ?_
          · refine ev_sortedDict hu T.b_sorted T.b_dict ?_
            · refine ev_frz ?_
              · refine es_lcV (is := [1]) [("own", 1)] [1] ?_ ?_ ?_ ?_ nd (blkOk_by (N := ["rows_so", "own"]) (sc := defScope s_law_set) (own := [("own", 1)]) (by decide +kernel))
                · refine ei_any ?_
                  · exact ev_name 0
                · intro _ _ _ _ _
                  exact gd_name 1 nd
                · exact bt_nil
                · intro _ _ _ _ _
                  refine ev_tup ?_
                  · refine ea_cons ?_ ?_
                    · exact ev_name 1
                    · refine ea_cons ?_ ?_
                      · exact ev_int
                      · exact ea_nil
          · exact ea_nil

/-! _law_book -/
theorem sc_law_book : FnScope ["tin", "people_so", "things_so", "holds_so", "rights_so", "folk_so", "goods_so", "a", "b", "rows_so", "all_so", "turn", "who_so"] ["tin", "people_so", "things_so", "holds_so", "rights_so"] (defScope s_law_book) := ⟨rfl, rfl, rfl, by decide +kernel, rfl, by decide +kernel, by decide +kernel⟩
def m_law_book : M Fl := (sSeq (sSet 5 (sLst (aCons (dC (.str "ann")) (aCons (dC (.str "bob")) (aCons (dC (.str "cy")) (aCons (dC (.str "dan")) (aCons (dC (.str "eva")) (aCons (dC (.str "fay")) (aCons (dC (.str "gus")) (aCons (dC (.str "hal")) (aCons (dC (.str "ivy")) (aCons (dC (.str "jo")) (aCons (dC (.str "kay")) (aCons (dC (.str "lou")) (aCons (dC (.str "mo")) (aCons (dC (.str "ned")) (aCons (dC (.str "oz")) (aCons (dC (.str "pam")) (aCons (dC (.str "quin")) (aCons (dC (.str "ray")) (aCons (dC (.str "sue")) (aCons (dC (.str "tom")) (aCons (dC (.str "una")) (aCons (dC (.str "vic")) (aCons (dC (.str "wes")) (aCons (dC (.str "xan")) aNil))))))))))))))))))))))))))
    (sSeq (sSet 6 (sLst (aCons (dC (.str "box")) (aCons (dC (.str "car")) (aCons (dC (.str "den")) (aCons (dC (.str "egg")) (aCons (dC (.str "fan")) (aCons (dC (.str "gem")) (aCons (dC (.str "hat")) (aCons (dC (.str "ink")) (aCons (dC (.str "jar")) (aCons (dC (.str "key")) (aCons (dC (.str "lid")) (aCons (dC (.str "mug")) (aCons (dC (.str "net")) (aCons (dC (.str "oar")) (aCons (dC (.str "pen")) (aCons (dC (.str "rug")) (aCons (dC (.str "sack")) (aCons (dC (.str "tin")) (aCons (dC (.str "urn")) (aCons (dC (.str "van")) (aCons (dC (.str "web")) (aCons (dC (.str "yarn")) (aCons (dC (.str "zip")) (aCons (dC (.str "cup")) aNil))))))))))))))))))))))))))
    (sSeq (sPar 7 8 (sV (dCall cTuple (aCons (dCall cSorted (aCons (dSlice gSl (dName 5) (ret none) (oInt (dName 1))) aNil)) aNil))) (sV (dCall cTuple (aCons (dCall cSorted (aCons (dSlice gSl (dName 6) (ret none) (oInt (dName 2))) aNil)) aNil))))
    (sSeq (sPar 9 10 (sLst aNil) (sV (dBin gAdd (dCall cList (aCons (dName 7) aNil)) (dCall cList (aCons (dName 8) aNil)))))
    (sSeq (sFor (iRange1 (mIf (dTest (dBin (gEq true) (dName 10) (dLst aNil))) (dFrz (dDefN 2 g_law_take (gIo 0 (gV (dBin gAdd (dName 3) (dC (.int 1))) gNil)))) (dC (.int 0)))) (tName 11) (sSeq (sSet 12 (sV (mIf (bAnd (dTest (dBin (gEq true) (dName 7) (dTup aNil))) (dTest (dBin gGt (dFrz (dDefN 2 g_law_take (gIo 0 (gV (dC (.int 4)) gNil)))) (dC (.int 0))))) (dFrz (dDefN 2 g_law_of (gIo 0 (gV (dCall cList (aCons (dName 7) aNil)) gNil)))) (dFrz (dDefN 2 g_law_of (gIo 0 (gV (dName 10) gNil)))))))
    (sAppend 9 (dTup (aCons (dName 12) (aCons (dFrz (dDefN 2 g_law_of (gIo 0 (gV (dName 4) gNil)))) (aCons (dFrz (dDefN 2 g_law_of (gIo 0 (gV (dName 10) gNil)))) aNil)))))))
    (sRet (sV (dTup (aCons (dName 7) (aCons (dName 8) (aCons (dFrz (dDefN 1 g_law_set (gV (dName 9) gNil))) aNil)))))))))))
def g_law_book : List Slot → FRes := runB 13 m_law_book
theorem ok_law_book (T : Tx P K mg A) : FnOk P w K mg base (L2.CX P w) 3 A.f_law_book A.fd_law_book ["tin", "people_so", "things_so", "holds_so", "rights_so"] (spD K (xcs A) 5 g_law_book) := by
  refine fn_body (k := 2) T.d_law_book.F sc_law_book (by decide) fun cdv Ar outer s H E pa hr tk => ?_
  have hu := hu2 hr
  have nd := sc_law_book.nd
  refine sds_cons ?_ ?_
  · refine sd_set 5 nd ?_
    · refine es_lst ?_
      · refine ea_cons ?_ ?_
        · exact ev_str
        · refine ea_cons ?_ ?_
          · exact ev_str
          · refine ea_cons ?_ ?_
            · exact ev_str
            · refine ea_cons ?_ ?_
              · exact ev_str
              · refine ea_cons ?_ ?_
                · exact ev_str
                · refine ea_cons ?_ ?_
                  · exact ev_str
                  · refine ea_cons ?_ ?_
                    · exact ev_str
                    · refine ea_cons ?_ ?_
                      · exact ev_str
                      · refine ea_cons ?_ ?_
                        · exact ev_str
                        · refine ea_cons ?_ ?_
                          · exact ev_str
                          · refine ea_cons ?_ ?_
                            · exact ev_str
                            · refine ea_cons ?_ ?_
                              · exact ev_str
                              · refine ea_cons ?_ ?_
                                · exact ev_str
                                · refine ea_cons ?_ ?_
                                  · exact ev_str
                                  · refine ea_cons ?_ ?_
                                    · exact ev_str
                                    · refine ea_cons ?_ ?_
                                      · exact ev_str
                                      · refine ea_cons ?_ ?_
                                        · exact ev_str
                                        · refine ea_cons ?_ ?_
                                          · exact ev_str
                                          · refine ea_cons ?_ ?_
                                            · exact ev_str
                                            · refine ea_cons ?_ ?_
                                              · exact ev_str
                                              · refine ea_cons ?_ ?_
                                                · exact ev_str
                                                · refine ea_cons ?_ ?_
                                                  · exact ev_str
                                                  · refine ea_cons ?_ ?_
                                                    · exact ev_str
                                                    · refine ea_cons ?_ ?_
                                                      · exact ev_str
                                                      · exact ea_nil
  · refine sds_cons ?_ ?_
    · refine sd_set 6 nd ?_
      · refine es_lst ?_
        · refine ea_cons ?_ ?_
          · exact ev_str
          · refine ea_cons ?_ ?_
            · exact ev_str
            · refine ea_cons ?_ ?_
              · exact ev_str
              · refine ea_cons ?_ ?_
                · exact ev_str
                · refine ea_cons ?_ ?_
                  · exact ev_str
                  · refine ea_cons ?_ ?_
                    · exact ev_str
                    · refine ea_cons ?_ ?_
                      · exact ev_str
                      · refine ea_cons ?_ ?_
                        · exact ev_str
                        · refine ea_cons ?_ ?_
                          · exact ev_str
                          · refine ea_cons ?_ ?_
                            · exact ev_str
                            · refine ea_cons ?_ ?_
                              · exact ev_str
                              · refine ea_cons ?_ ?_
                                · exact ev_str
                                · refine ea_cons ?_ ?_
                                  · exact ev_str
                                  · refine ea_cons ?_ ?_
                                    · exact ev_str
                                    · refine ea_cons ?_ ?_
                                      · exact ev_str
                                      · refine ea_cons ?_ ?_
                                        · exact ev_str
                                        · refine ea_cons ?_ ?_
                                          · exact ev_str
                                          · refine ea_cons ?_ ?_
                                            · exact ev_str
                                            · refine ea_cons ?_ ?_
                                              · exact ev_str
                                              · refine ea_cons ?_ ?_
                                                · exact ev_str
                                                · refine ea_cons ?_ ?_
                                                  · exact ev_str
                                                  · refine ea_cons ?_ ?_
                                                    · exact ev_str
                                                    · refine ea_cons ?_ ?_
                                                      · exact ev_str
                                                      · refine ea_cons ?_ ?_
                                                        · exact ev_str
                                                        · exact ea_nil
    · refine sds_cons ?_ ?_
      · refine sd_par 7 8 nd ?_ ?_
        · refine es_of ?_
          · refine ev_callTy cd_tuple (by rfl) T.b_tuple (by decide +kernel) ?_
            · refine ea_cons ?_ ?_
              · refine ev_callB (cd_sorted hu) (by rfl) T.b_sorted (by decide +kernel) ?_
                · refine ea_cons ?_ ?_
                  · refine ev_slice sld ?_ ?_ ?_
                    · exact ev_name 5
                    · exact eo_none
                    · refine eo_some ?_
                      · exact ev_name 1
                  · exact ea_nil
              · exact ea_nil
        · refine es_of ?_
          · refine ev_callTy cd_tuple (by rfl) T.b_tuple (by decide +kernel) ?_
            · refine ea_cons ?_ ?_
              · refine ev_callB (cd_sorted hu) (by rfl) T.b_sorted (by decide +kernel) ?_
                · refine ea_cons ?_ ?_
                  · refine ev_slice sld ?_ ?_ ?_
                    · exact ev_name 6
                    · exact eo_none
                    · refine eo_some ?_
                      · exact ev_name 2
                  · exact ea_nil
              · exact ea_nil
      · refine sds_cons ?_ ?_
        · refine sd_par 9 10 nd ?_ ?_
          · refine es_lst ?_
            · exact ea_nil
          · refine es_of ?_
            · refine ev_bin od_add ?_ ?_
              · refine ev_callTy cd_list (by rfl) T.b_list (by decide +kernel) ?_
                · refine ea_cons ?_ ?_
                  · exact ev_name 7
                  · exact ea_nil
              · refine ev_callTy cd_list (by rfl) T.b_list (by decide +kernel) ?_
                · refine ea_cons ?_ ?_
                  · exact ev_name 8
                  · exact ea_nil
        · refine sds_cons ?_ ?_
          · refine sd_for (is := [11]) ?_ ?_ ?_ (passes_of rfl)
            · refine ei_range1 ?_ T.b_range
              · refine ev_if ?_ ?_ ?_
                · refine et_cmp (od_ne hu.1) ?_ ?_
                  · exact ev_name 10
                  · refine ev_lst ?_
                    · exact ea_nil
                · refine ev_frz ?_
                  · refine es_callN (ok_law_take T) hr tk T.d_law_take.gm T.d_law_take.F.kp T.d_law_take.b ?_ (by first | decide | omega)
                    · refine eg_io 0 ?_
                      · refine eg_v ?_ ?_
                        · refine ev_bin od_add ?_ ?_
                          · exact ev_name 3
                          · exact ev_int
                        · exact eg_nil
                · exact ev_int
            · exact gd_name 11 nd
            · refine sds_cons ?_ ?_
              · refine sd_set 12 nd ?_
                · refine es_of ?_
                  · refine ev_if ?_ ?_ ?_
                    · refine EW.et ?_
                      · refine ew_and ?_ ?_
                        · refine et_cmp (od_ne hu.1) ?_ ?_
                          · exact ev_name 7
                          · refine ev_tup ?_
                            · exact ea_nil
                        · refine ew_and1 ?_
                          · refine et_cmp od_gt ?_ ?_
                            · refine ev_frz ?_
                              · refine es_callN (ok_law_take T) hr tk T.d_law_take.gm T.d_law_take.F.kp T.d_law_take.b ?_ (by first | decide | omega)
                                · refine eg_io 0 ?_
                                  · refine eg_v ?_ ?_
                                    · exact ev_int
                                    · exact eg_nil
                            · exact ev_int
                    · refine ev_frz ?_
                      · refine es_callN (ok_law_of T) hr tk T.d_law_of.gm T.d_law_of.F.kp T.d_law_of.b ?_ (by first | decide | omega)
                        · refine eg_io 0 ?_
                          · refine eg_v ?_ ?_
                            · refine ev_callTy cd_list (by rfl) T.b_list (by decide +kernel) ?_
                              · refine ea_cons ?_ ?_
                                · exact ev_name 7
                                · exact ea_nil
                            · exact eg_nil
                    · refine ev_frz ?_
                      · refine es_callN (ok_law_of T) hr tk T.d_law_of.gm T.d_law_of.F.kp T.d_law_of.b ?_ (by first | decide | omega)
                        · refine eg_io 0 ?_
                          · refine eg_v ?_ ?_
                            · exact ev_name 10
                            · exact eg_nil
              · refine sds_one ?_
                · refine sd_append 9 ?_
                  · refine ev_tup ?_
                    · refine ea_cons ?_ ?_
                      · exact ev_name 12
                      · refine ea_cons ?_ ?_
                        · refine ev_frz ?_
                          · refine es_callN (ok_law_of T) hr tk T.d_law_of.gm T.d_law_of.F.kp T.d_law_of.b ?_ (by first | decide | omega)
                            · refine eg_io 0 ?_
                              · refine eg_v ?_ ?_
                                · exact ev_name 4
                                · exact eg_nil
                        · refine ea_cons ?_ ?_
                          · refine ev_frz ?_
                            · refine es_callN (ok_law_of T) hr tk T.d_law_of.gm T.d_law_of.F.kp T.d_law_of.b ?_ (by first | decide | omega)
                              · refine eg_io 0 ?_
                                · refine eg_v ?_ ?_
                                  · exact ev_name 10
                                  · exact eg_nil
                          · exact ea_nil
          · refine sds_one ?_
            · refine sd_ret ?_
              · refine es_of ?_
                · refine ev_tup ?_
                  · refine ea_cons ?_ ?_
                    · exact ev_name 7
                    · refine ea_cons ?_ ?_
                      · exact ev_name 8
                      · refine ea_cons ?_ ?_
                        · refine ev_frz ?_
                          · refine es_callN (ok_law_set T) hr tk T.d_law_set.gm T.d_law_set.F.kp T.d_law_set.b ?_ (by first | decide | omega)
                            · refine eg_v ?_ ?_
                              · exact ev_name 9
                              · exact eg_nil
                        · exact ea_nil

/-! _law_may -/
theorem sc_law_may : FnScope ["book_so", "move_so"] ["book_so", "move_so"] (defScope s_law_may) := ⟨rfl, rfl, rfl, by decide +kernel, rfl, by decide +kernel, by decide +kernel⟩
def m_law_may : M Fl := (sSeq (mIf (dTest (dBin (gEq false) (dCall cLen (aCons (dName 1) aNil)) (dC (.int 3)))) (sRet (sV (dAnd (dBin gIn (dBin gIx (dName 1) (dC (.int 1))) (dBin gIx (dName 0) (dC (.int 0)))) (dBin gIn (dTup (aCons (dBin gIx (dName 1) (dC (.int 1))) (aCons (dBin gIx (dName 1) (dC (.int 0))) (aCons (dBin gIx (dName 1) (dC (.int 2))) aNil)))) (dBin gIx (dName 0) (dC (.int 2))))))) sNil)
    (sSeq (mIf (dTest (dBin gNotIn (dBin gIx (dName 1) (dC (.int 1))) (dBin gIx (dName 0) (dC (.int 0))))) (sRet (sV (dC (.bool false)))) sNil)
    (sSeq (mIf (dTest (dBin (gEq false) (dBin gIx (dName 1) (dC (.int 0))) (dC (.str "make")))) (sRet (sV (dAnd (dBin gNotIn (dBin gIx (dName 1) (dC (.int 2))) (dBin gIx (dName 0) (dC (.int 0)))) (dBin gNotIn (dBin gIx (dName 1) (dC (.int 2))) (dBin gIx (dName 0) (dC (.int 1))))))) sNil)
    (sSeq (mIf (dTest (dBin (gEq false) (dBin gIx (dName 1) (dC (.int 0))) (dC (.str "take")))) (sRet (sV (dAnd (dBin gIn (dTup (aCons (dBin gIx (dName 1) (dC (.int 1))) (aCons (dC (.str "take")) (aCons (dBin gIx (dName 1) (dC (.int 2))) aNil)))) (dBin gIx (dName 0) (dC (.int 2)))) (dBin gIn (dTup (aCons (dBin gIx (dName 1) (dC (.int 2))) (aCons (dBin gIx (dName 1) (dC (.int 3))) (aCons (dBin gIx (dName 1) (dC (.int 4))) aNil)))) (dBin gIx (dName 0) (dC (.int 2))))))) sNil)
    (sRet (sV (dAnd (dBin gIn (dTup (aCons (dBin gIx (dName 1) (dC (.int 1))) (aCons (dC (.str "hand")) (aCons (dBin gIx (dName 1) (dC (.int 2))) aNil)))) (dBin gIx (dName 0) (dC (.int 2)))) (dBin gIn (dTup (aCons (dBin gIx (dName 1) (dC (.int 1))) (aCons (dBin gIx (dName 1) (dC (.int 3))) (aCons (dBin gIx (dName 1) (dC (.int 4))) aNil)))) (dBin gIx (dName 0) (dC (.int 2)))))))))))
def g_law_may : List Slot → FRes := runB 2 m_law_may
theorem ok_law_may (T : Tx P K mg A) : FnOk P w K mg base (L2.CX P w) 1 A.f_law_may A.fd_law_may ["book_so", "move_so"] (spD K (xcs A) 2 g_law_may) := by
  refine fn_body (k := 0) T.d_law_may.F sc_law_may (by decide) fun cdv Ar outer s H E pa hr tk => ?_
  have hu := hu2 hr
  have nd := sc_law_may.nd
  refine sds_cons ?_ ?_
  · refine sd_if ?_ ?_ ?_
    · refine et_cmp (od_eq hu.1) ?_ ?_
      · refine ev_callB cd_len (by rfl) T.b_len (by decide +kernel) ?_
        · refine ea_cons ?_ ?_
          · exact ev_name 1
          · exact ea_nil
      · exact ev_int
    · refine sds_one ?_
      · refine sd_ret ?_
        · refine es_of ?_
          · refine ev_and ?_ ?_
            · refine ev_cmp (od_in hu.2) ?_ ?_
              · refine ev_ix ixd ?_ ?_
                · exact ev_name 1
                · exact ev_int
              · refine ev_ix ixd ?_ ?_
                · exact ev_name 0
                · exact ev_int
            · refine ev_one ?_
              · refine ev_cmp (od_in hu.2) ?_ ?_
                · refine ev_tup ?_
                  · refine ea_cons ?_ ?_
                    · refine ev_ix ixd ?_ ?_
                      · exact ev_name 1
                      · exact ev_int
                    · refine ea_cons ?_ ?_
                      · refine ev_ix ixd ?_ ?_
                        · exact ev_name 1
                        · exact ev_int
                      · refine ea_cons ?_ ?_
                        · refine ev_ix ixd ?_ ?_
                          · exact ev_name 1
                          · exact ev_int
                        · exact ea_nil
                · refine ev_ix ixd ?_ ?_
                  · exact ev_name 0
                  · exact ev_int
    · exact sds_nil
  · refine sds_cons ?_ ?_
    · refine sd_if ?_ ?_ ?_
      · refine et_cmp (od_notin hu.2) ?_ ?_
        · refine ev_ix ixd ?_ ?_
          · exact ev_name 1
          · exact ev_int
        · refine ev_ix ixd ?_ ?_
          · exact ev_name 0
          · exact ev_int
      · refine sds_one ?_
        · refine sd_ret ?_
          · refine es_of ?_
            · exact ev_bool
      · exact sds_nil
    · refine sds_cons ?_ ?_
      · refine sd_if ?_ ?_ ?_
        · refine et_cmp (od_eq hu.1) ?_ ?_
          · refine ev_ix ixd ?_ ?_
            · exact ev_name 1
            · exact ev_int
          · exact ev_str
        · refine sds_one ?_
          · refine sd_ret ?_
            · refine es_of ?_
              · refine ev_and ?_ ?_
                · refine ev_cmp (od_notin hu.2) ?_ ?_
                  · refine ev_ix ixd ?_ ?_
                    · exact ev_name 1
                    · exact ev_int
                  · refine ev_ix ixd ?_ ?_
                    · exact ev_name 0
                    · exact ev_int
                · refine ev_one ?_
                  · refine ev_cmp (od_notin hu.2) ?_ ?_
                    · refine ev_ix ixd ?_ ?_
                      · exact ev_name 1
                      · exact ev_int
                    · refine ev_ix ixd ?_ ?_
                      · exact ev_name 0
                      · exact ev_int
        · exact sds_nil
      · refine sds_cons ?_ ?_
        · refine sd_if ?_ ?_ ?_
          · refine et_cmp (od_eq hu.1) ?_ ?_
            · refine ev_ix ixd ?_ ?_
              · exact ev_name 1
              · exact ev_int
            · exact ev_str
          · refine sds_one ?_
            · refine sd_ret ?_
              · refine es_of ?_
                · refine ev_and ?_ ?_
                  · refine ev_cmp (od_in hu.2) ?_ ?_
                    · refine ev_tup ?_
                      · refine ea_cons ?_ ?_
                        · refine ev_ix ixd ?_ ?_
                          · exact ev_name 1
                          · exact ev_int
                        · refine ea_cons ?_ ?_
                          · exact ev_str
                          · refine ea_cons ?_ ?_
                            · refine ev_ix ixd ?_ ?_
                              · exact ev_name 1
                              · exact ev_int
                            · exact ea_nil
                    · refine ev_ix ixd ?_ ?_
                      · exact ev_name 0
                      · exact ev_int
                  · refine ev_one ?_
                    · refine ev_cmp (od_in hu.2) ?_ ?_
                      · refine ev_tup ?_
                        · refine ea_cons ?_ ?_
                          · refine ev_ix ixd ?_ ?_
                            · exact ev_name 1
                            · exact ev_int
                          · refine ea_cons ?_ ?_
                            · refine ev_ix ixd ?_ ?_
                              · exact ev_name 1
                              · exact ev_int
                            · refine ea_cons ?_ ?_
                              · refine ev_ix ixd ?_ ?_
                                · exact ev_name 1
                                · exact ev_int
                              · exact ea_nil
                      · refine ev_ix ixd ?_ ?_
                        · exact ev_name 0
                        · exact ev_int
          · exact sds_nil
        · refine sds_one ?_
          · refine sd_ret ?_
            · refine es_of ?_
              · refine ev_and ?_ ?_
                · refine ev_cmp (od_in hu.2) ?_ ?_
                  · refine ev_tup ?_
                    · refine ea_cons ?_ ?_
                      · refine ev_ix ixd ?_ ?_
                        · exact ev_name 1
                        · exact ev_int
                      · refine ea_cons ?_ ?_
                        · exact ev_str
                        · refine ea_cons ?_ ?_
                          · refine ev_ix ixd ?_ ?_
                            · exact ev_name 1
                            · exact ev_int
                          · exact ea_nil
                  · refine ev_ix ixd ?_ ?_
                    · exact ev_name 0
                    · exact ev_int
                · refine ev_one ?_
                  · refine ev_cmp (od_in hu.2) ?_ ?_
                    · refine ev_tup ?_
                      · refine ea_cons ?_ ?_
                        · refine ev_ix ixd ?_ ?_
                          · exact ev_name 1
                          · exact ev_int
                        · refine ea_cons ?_ ?_
                          · refine ev_ix ixd ?_ ?_
                            · exact ev_name 1
                            · exact ev_int
                          · refine ea_cons ?_ ?_
                            · refine ev_ix ixd ?_ ?_
                              · exact ev_name 1
                              · exact ev_int
                            · exact ea_nil
                    · refine ev_ix ixd ?_ ?_
                      · exact ev_name 0
                      · exact ev_int

/-! _law_done -/
theorem sc_law_done : FnScope ["book_so", "move_so", "a", "b", "rows_so", "new_so", "own", "who_so"] ["book_so", "move_so"] (defScope s_law_done) := ⟨rfl, rfl, rfl, by decide +kernel, rfl, by decide +kernel, by decide +kernel⟩
def m_law_done : M Fl := (sSeq (sAsg (dName 0) (tTupD (tsCons (tName 2) (tsCons (tName 3) (tsCons (tName 4) tsNil)))))
    (sSeq (mIf (dTest (dBin (gEq false) (dCall cLen (aCons (dName 1) aNil)) (dC (.int 3)))) (sRet (sV (dName 0))) sNil)
    (sSeq (mIf (dTest (dBin (gEq false) (dBin gIx (dName 1) (dC (.int 0))) (dC (.str "make")))) (sSeq (sSet 5 (sComp [6] (iAny (dBin gIx (dName 1) (dC (.int 4)))) (tName 6) (ret true) (dTup (aCons (dBin gIx (dName 1) (dC (.int 1))) (aCons (dName 6) (aCons (dBin gIx (dName 1) (dC (.int 2))) aNil))))))
    (sSeq (sAsg (mIf (dTest (dBin (gEq false) (dBin gIx (dName 1) (dC (.int 3))) (dC (.str "person")))) (dTup (aCons (dFrz (dDefN 1 g_law_set (gV (dBin gAdd (dName 2) (dTup (aCons (dBin gIx (dName 1) (dC (.int 2))) aNil))) gNil))) (aCons (dName 3) aNil))) (dTup (aCons (dName 2) (aCons (dFrz (dDefN 1 g_law_set (gV (dBin gAdd (dName 3) (dTup (aCons (dBin gIx (dName 1) (dC (.int 2))) aNil))) gNil))) aNil)))) (tTupD (tsCons (tName 2) (tsCons (tName 3) tsNil))))
    (sRet (sV (dTup (aCons (dName 2) (aCons (dName 3) (aCons (dFrz (dDefN 1 g_law_set (gV (dBin gAdd (dCall cList (aCons (dName 4) aNil)) (dName 5)) gNil))) aNil)))))))) sNil)
    (sSeq (sSet 7 (sV (mIf (dTest (dBin (gEq false) (dBin gIx (dName 1) (dC (.int 0))) (dC (.str "take")))) (dBin gIx (dName 1) (dC (.int 1))) (dBin gIx (dName 1) (dC (.int 2))))))
    (sRet (sV (dTup (aCons (dName 2) (aCons (dName 3) (aCons (dFrz (dDefN 1 g_law_set (gV (dBin gAdd (dCall cList (aCons (dName 4) aNil)) (dLst (aCons (dTup (aCons (dName 7) (aCons (dBin gIx (dName 1) (dC (.int 3))) (aCons (dBin gIx (dName 1) (dC (.int 4))) aNil)))) aNil))) gNil))) aNil))))))))))
def g_law_done : List Slot → FRes := runB 8 m_law_done
theorem ok_law_done (T : Tx P K mg A) : FnOk P w K mg base (L2.CX P w) 2 A.f_law_done A.fd_law_done ["book_so", "move_so"] (spD K (xcs A) 2 g_law_done) := by
  refine fn_body (k := 1) T.d_law_done.F sc_law_done (by decide) fun cdv Ar outer s H E pa hr tk => ?_
  have hu := hu2 hr
  have nd := sc_law_done.nd
  refine sds_cons ?_ ?_
  · refine sd_asg (is := [2, 3, 4]) ?_ ?_
    · exact ev_name 0
    · refine gd_tup (is := [2, 3, 4]) ?_ (tsCons_len (tsCons_len (tsCons_len tsNil_len)))
      · refine gds_cons (js := [2]) ?_ ?_
        · exact gd_name 2 nd
        · refine gds_cons (js := [3]) ?_ ?_
          · exact gd_name 3 nd
          · refine gds_cons (js := [4]) ?_ ?_
            · exact gd_name 4 nd
            · exact gds_nil
  · refine sds_cons ?_ ?_
    · refine sd_if ?_ ?_ ?_
      · refine et_cmp (od_eq hu.1) ?_ ?_
        · refine ev_callB cd_len (by rfl) T.b_len (by decide +kernel) ?_
          · refine ea_cons ?_ ?_
            · exact ev_name 1
            · exact ea_nil
        · exact ev_int
      · refine sds_one ?_
        · refine sd_ret ?_
          · refine es_of ?_
            · exact ev_name 0
      · exact sds_nil
    · refine sds_cons ?_ ?_
      · refine sd_if ?_ ?_ ?_
        · refine et_cmp (od_eq hu.1) ?_ ?_
          · refine ev_ix ixd ?_ ?_
            · exact ev_name 1
            · exact ev_int
          · exact ev_str
        · refine sds_cons ?_ ?_
          · refine sd_setLcV 5 (is := [6]) [("own", 6)] [6] ?_ ?_ ?_ ?_ nd (blkOk_by (N := ["book_so", "move_so", "a", "b", "rows_so", "new_so", "own", "who_so"]) (sc := defScope s_law_done) (own := [("own", 6)]) (by decide +kernel))
            · refine ei_any ?_
              · refine ev_ix ixd ?_ ?_
                · exact ev_name 1
                · exact ev_int
            · intro _ _ _ _ _
              exact gd_name 6 nd
            · exact bt_nil
            · intro _ _ _ _ _
              refine ev_tup ?_
              · refine ea_cons ?_ ?_
                · refine ev_ix ixd ?_ ?_
                  · exact ev_name 1
                  · exact ev_int
                · refine ea_cons ?_ ?_
                  · exact ev_name 6
                  · refine ea_cons ?_ ?_
                    · refine ev_ix ixd ?_ ?_
                      · exact ev_name 1
                      · exact ev_int
                    · exact ea_nil
          · refine sds_cons ?_ ?_
            · refine sd_asg (is := [2, 3]) ?_ ?_
              · refine ev_if ?_ ?_ ?_
                · refine et_cmp (od_eq hu.1) ?_ ?_
                  · refine ev_ix ixd ?_ ?_
                    · exact ev_name 1
                    · exact ev_int
                  · exact ev_str
                · refine ev_tup ?_
                  · refine ea_cons ?_ ?_
                    · refine ev_frz ?_
                      · refine es_callN (ok_law_set T) hr tk T.d_law_set.gm T.d_law_set.F.kp T.d_law_set.b ?_ (by first | decide | omega)
                        · refine eg_v ?_ ?_
                          · refine ev_bin od_add ?_ ?_
                            · exact ev_name 2
                            · refine ev_tup ?_
                              · refine ea_cons ?_ ?_
                                · refine ev_ix ixd ?_ ?_
                                  · exact ev_name 1
                                  · exact ev_int
                                · exact ea_nil
                          · exact eg_nil
                    · refine ea_cons ?_ ?_
                      · exact ev_name 3
                      · exact ea_nil
                · refine ev_tup ?_
                  · refine ea_cons ?_ ?_
                    · exact ev_name 2
                    · refine ea_cons ?_ ?_
                      · refine ev_frz ?_
                        · refine es_callN (ok_law_set T) hr tk T.d_law_set.gm T.d_law_set.F.kp T.d_law_set.b ?_ (by first | decide | omega)
                          · refine eg_v ?_ ?_
                            · refine ev_bin od_add ?_ ?_
                              · exact ev_name 3
                              · refine ev_tup ?_
                                · refine ea_cons ?_ ?_
                                  · refine ev_ix ixd ?_ ?_
                                    · exact ev_name 1
                                    · exact ev_int
                                  · exact ea_nil
                            · exact eg_nil
                      · exact ea_nil
              · refine gd_tup (is := [2, 3]) ?_ (tsCons_len (tsCons_len tsNil_len))
                · refine gds_cons (js := [2]) ?_ ?_
                  · exact gd_name 2 nd
                  · refine gds_cons (js := [3]) ?_ ?_
                    · exact gd_name 3 nd
                    · exact gds_nil
            · refine sds_one ?_
              · refine sd_ret ?_
                · refine es_of ?_
                  · refine ev_tup ?_
                    · refine ea_cons ?_ ?_
                      · exact ev_name 2
                      · refine ea_cons ?_ ?_
                        · exact ev_name 3
                        · refine ea_cons ?_ ?_
                          · refine ev_frz ?_
                            · refine es_callN (ok_law_set T) hr tk T.d_law_set.gm T.d_law_set.F.kp T.d_law_set.b ?_ (by first | decide | omega)
                              · refine eg_v ?_ ?_
                                · refine ev_bin od_add ?_ ?_
                                  · refine ev_callTy cd_list (by rfl) T.b_list (by decide +kernel) ?_
                                    · refine ea_cons ?_ ?_
                                      · exact ev_name 4
                                      · exact ea_nil
                                  · exact ev_name 5
                                · exact eg_nil
                          · exact ea_nil
        · exact sds_nil
      · refine sds_cons ?_ ?_
        · refine sd_set 7 nd ?_
          · refine es_of ?_
            · refine ev_if ?_ ?_ ?_
              · refine et_cmp (od_eq hu.1) ?_ ?_
                · refine ev_ix ixd ?_ ?_
                  · exact ev_name 1
                  · exact ev_int
                · exact ev_str
              · refine ev_ix ixd ?_ ?_
                · exact ev_name 1
                · exact ev_int
              · refine ev_ix ixd ?_ ?_
                · exact ev_name 1
                · exact ev_int
        · refine sds_one ?_
          · refine sd_ret ?_
            · refine es_of ?_
              · refine ev_tup ?_
                · refine ea_cons ?_ ?_
                  · exact ev_name 2
                  · refine ea_cons ?_ ?_
                    · exact ev_name 3
                    · refine ea_cons ?_ ?_
                      · refine ev_frz ?_
                        · refine es_callN (ok_law_set T) hr tk T.d_law_set.gm T.d_law_set.F.kp T.d_law_set.b ?_ (by first | decide | omega)
                          · refine eg_v ?_ ?_
                            · refine ev_bin od_add ?_ ?_
                              · refine ev_callTy cd_list (by rfl) T.b_list (by decide +kernel) ?_
                                · refine ea_cons ?_ ?_
                                  · exact ev_name 4
                                  · exact ea_nil
                              · refine ev_lst ?_
                                · refine ea_cons ?_ ?_
                                  · refine ev_tup ?_
                                    · refine ea_cons ?_ ?_
                                      · exact ev_name 7
                                      · refine ea_cons ?_ ?_
                                        · refine ev_ix ixd ?_ ?_
                                          · exact ev_name 1
                                          · exact ev_int
                                        · refine ea_cons ?_ ?_
                                          · refine ev_ix ixd ?_ ?_
                                            · exact ev_name 1
                                            · exact ev_int
                                          · exact ea_nil
                                  · exact ea_nil
                            · exact eg_nil
                      · exact ea_nil

/-! _law_open -/
theorem sc_law_open : FnScope ["tin", "book_so", "rows_so", "who_so", "right_so", "what_so", "own", "word_so", "rights_so", "k"] ["tin", "book_so"] (defScope s_law_open) := ⟨rfl, rfl, rfl, by decide +kernel, rfl, by decide +kernel, by decide +kernel⟩
def m_law_open : M Fl := (sSeq (sSet 2 (sLst aNil))
    (sSeq (sFor (iAny (dBin gIx (dName 1) (dC (.int 2)))) (tTupD (tsCons (tName 3) (tsCons (tName 4) (tsCons (tName 5) tsNil)))) (mIf (dTest (dBin gIn (dName 3) (dBin gIx (dName 1) (dC (.int 0))))) (sSeq (mIf (dTest (dBin gIn (dName 4) (dTup (aCons (dC (.str "look")) (aCons (dC (.str "tell")) aNil))))) (sAppend 2 (dTup (aCons (dName 4) (aCons (dName 3) (aCons (dName 5) aNil))))) sNil)
    (sSeq (mIf (dTest (dBin (gEq false) (dName 4) (dC (.str "take")))) (sSet 2 (sCat (dName 2) (dFrz (sComp [6] (iAny (dBin gIx (dName 1) (dC (.int 2)))) (tName 6) (dTest (dBin (gEq false) (dBin gIx (dName 6) (dC (.int 0))) (dName 5))) (dTup (aCons (dC (.str "take")) (aCons (dName 3) (aCons (dName 5) (aCons (dBin gIx (dName 6) (dC (.int 1))) (aCons (dBin gIx (dName 6) (dC (.int 2))) aNil)))))))))) sNil)
    (mIf (dTest (dBin (gEq false) (dName 4) (dC (.str "hand")))) (sSet 2 (sCat (dName 2) (dFrz (sComp [6] (iAny (dBin gIx (dName 1) (dC (.int 2)))) (tName 6) (dTest (dBin (gEq false) (dBin gIx (dName 6) (dC (.int 0))) (dName 3))) (dTup (aCons (dC (.str "hand")) (aCons (dName 3) (aCons (dName 5) (aCons (dBin gIx (dName 6) (dC (.int 1))) (aCons (dBin gIx (dName 6) (dC (.int 2))) aNil)))))))))) sNil))) sNil))
    (sSeq (mIf (bAnd (dTest (dBin (gEq true) (dBin gIx (dName 1) (dC (.int 0))) (dTup aNil))) (bOr (dTest (dBin (gEq false) (dName 2) (dLst aNil))) (dTest (dBin (gEq false) (dFrz (dDefN 2 g_law_take (gIo 0 (gV (dC (.int 6)) gNil)))) (dC (.int 0)))))) (sSeq (sSet 7 (dDefN 2 g_law_of (gIo 0 (gV (dLst (aCons (dC (.str "ab")) (aCons (dC (.str "cd")) (aCons (dC (.str "ef")) (aCons (dC (.str "gh")) (aCons (dC (.str "qq")) (aCons (dC (.str "zz")) aNil))))))) gNil))))
    (sSeq (sSet 8 (dDefN 1 g_law_set (gV (dFrz (sComp [9] (iRange1 (dFrz (dDefN 2 g_law_take (gIo 0 (gV (dC (.int 4)) gNil))))) (tName 9) (ret true) (dFrz (dDefN 2 g_law_of (gIo 0 (gV (dLst (aCons (dC (.str "look")) (aCons (dC (.str "tell")) (aCons (dC (.str "take")) (aCons (dC (.str "hand")) (aCons (dC (.str "own")) aNil)))))) gNil)))))) gNil)))
    (sSeq (sSet 6 (sV (dTup (aCons (dC (.str "make")) (aCons (dFrz (dDefN 2 g_law_of (gIo 0 (gV (dCall cList (aCons (dBin gIx (dName 1) (dC (.int 0))) aNil)) gNil)))) (aCons (dName 7) (aCons (dFrz (dDefN 2 g_law_of (gIo 0 (gV (dLst (aCons (dC (.str "person")) (aCons (dC (.str "thing")) aNil))) gNil)))) (aCons (dName 8) aNil))))))))
    (sRet (sV (mIf (dTruth (dFrz (dDefN 2 g_law_may (gV (dName 1) (gV (dName 6) gNil))))) (dName 6) (dC .none))))))) sNil)
    (sRet (sV (mIf (dTest (dBin (gEq true) (dName 2) (dLst aNil))) (dFrz (dDefN 2 g_law_of (gIo 0 (gV (dName 2) gNil)))) (dC .none)))))))
def g_law_open : List Slot → FRes := runB 10 m_law_open
theorem ok_law_open (T : Tx P K mg A) : FnOk P w K mg base (L2.CX P w) 3 A.f_law_open A.fd_law_open ["tin", "book_so"] (spD K (xcs A) 2 g_law_open) := by
  refine fn_body (k := 2) T.d_law_open.F sc_law_open (by decide) fun cdv Ar outer s H E pa hr tk => ?_
  have hu := hu2 hr
  have nd := sc_law_open.nd
  refine sds_cons ?_ ?_
  · refine sd_set 2 nd ?_
    · refine es_lst ?_
      · exact ea_nil
  · refine sds_cons ?_ ?_
    · refine sd_for (is := [3, 4, 5]) ?_ ?_ ?_ (passes_of rfl)
      · refine ei_any ?_
        · refine ev_ix ixd ?_ ?_
          · exact ev_name 1
          · exact ev_int
      · refine gd_tup (is := [3, 4, 5]) ?_ (tsCons_len (tsCons_len (tsCons_len tsNil_len)))
        · refine gds_cons (js := [3]) ?_ ?_
          · exact gd_name 3 nd
          · refine gds_cons (js := [4]) ?_ ?_
            · exact gd_name 4 nd
            · refine gds_cons (js := [5]) ?_ ?_
              · exact gd_name 5 nd
              · exact gds_nil
      · refine sds_one ?_
        · refine sd_if ?_ ?_ ?_
          · refine et_cmp (od_in hu.2) ?_ ?_
            · exact ev_name 3
            · refine ev_ix ixd ?_ ?_
              · exact ev_name 1
              · exact ev_int
          · refine sds_cons ?_ ?_
            · refine sd_if ?_ ?_ ?_
              · refine et_cmp (od_in hu.2) ?_ ?_
                · exact ev_name 4
                · refine ev_tup ?_
                  · refine ea_cons ?_ ?_
                    · exact ev_str
                    · refine ea_cons ?_ ?_
                      · exact ev_str
                      · exact ea_nil
              · refine sds_one ?_
                · refine sd_append 2 ?_
                  · refine ev_tup ?_
                    · refine ea_cons ?_ ?_
                      · exact ev_name 4
                      · refine ea_cons ?_ ?_
                        · exact ev_name 3
                        · refine ea_cons ?_ ?_
                          · exact ev_name 5
                          · exact ea_nil
              · exact sds_nil
            · refine sds_cons ?_ ?_
              · refine sd_if ?_ ?_ ?_
                · refine et_cmp (od_eq hu.1) ?_ ?_
                  · exact ev_name 4
                  · exact ev_str
                · refine sds_one ?_
                  · refine sd_set 2 nd ?_
                    · refine es_cat ?_ ?_
                      · exact ev_name 2
                      · refine ev_frz ?_
                        · refine es_lcV (is := [6]) [("own", 6)] [6] ?_ ?_ ?_ ?_ nd (blkOk_by (N := ["tin", "book_so", "rows_so", "who_so", "right_so", "what_so", "own", "word_so", "rights_so", "k"]) (sc := defScope s_law_open) (own := [("own", 6)]) (by decide +kernel))
                          · refine ei_any ?_
                            · refine ev_ix ixd ?_ ?_
                              · exact ev_name 1
                              · exact ev_int
                          · intro _ _ _ _ _
                            exact gd_name 6 nd
                          · refine bt_one ?_
                            · intro _ _ _ _ _
                              refine et_cmp (od_eq hu.1) ?_ ?_
                              · refine ev_ix ixd ?_ ?_
                                · exact ev_name 6
                                · exact ev_int
                              · exact ev_name 5
                          · intro _ _ _ _ _
                            refine ev_tup ?_
                            · refine ea_cons ?_ ?_
                              · exact ev_str
                              · refine ea_cons ?_ ?_
                                · exact ev_name 3
                                · refine ea_cons ?_ ?_
                                  · exact ev_name 5
                                  · refine ea_cons ?_ ?_
                                    · refine ev_ix ixd ?_ ?_
                                      · exact ev_name 6
                                      · exact ev_int
                                    · refine ea_cons ?_ ?_
                                      · refine ev_ix ixd ?_ ?_
                                        · exact ev_name 6
                                        · exact ev_int
                                      · exact ea_nil
                · exact sds_nil
              · refine sds_one ?_
                · refine sd_if ?_ ?_ ?_
                  · refine et_cmp (od_eq hu.1) ?_ ?_
                    · exact ev_name 4
                    · exact ev_str
                  · refine sds_one ?_
                    · refine sd_set 2 nd ?_
                      · refine es_cat ?_ ?_
                        · exact ev_name 2
                        · refine ev_frz ?_
                          · refine es_lcV (is := [6]) [("own", 6)] [6] ?_ ?_ ?_ ?_ nd (blkOk_by (N := ["tin", "book_so", "rows_so", "who_so", "right_so", "what_so", "own", "word_so", "rights_so", "k"]) (sc := defScope s_law_open) (own := [("own", 6)]) (by decide +kernel))
                            · refine ei_any ?_
                              · refine ev_ix ixd ?_ ?_
                                · exact ev_name 1
                                · exact ev_int
                            · intro _ _ _ _ _
                              exact gd_name 6 nd
                            · refine bt_one ?_
                              · intro _ _ _ _ _
                                refine et_cmp (od_eq hu.1) ?_ ?_
                                · refine ev_ix ixd ?_ ?_
                                  · exact ev_name 6
                                  · exact ev_int
                                · exact ev_name 3
                            · intro _ _ _ _ _
                              refine ev_tup ?_
                              · refine ea_cons ?_ ?_
                                · exact ev_str
                                · refine ea_cons ?_ ?_
                                  · exact ev_name 3
                                  · refine ea_cons ?_ ?_
                                    · exact ev_name 5
                                    · refine ea_cons ?_ ?_
                                      · refine ev_ix ixd ?_ ?_
                                        · exact ev_name 6
                                        · exact ev_int
                                      · refine ea_cons ?_ ?_
                                        · refine ev_ix ixd ?_ ?_
                                          · exact ev_name 6
                                          · exact ev_int
                                        · exact ea_nil
                  · exact sds_nil
          · exact sds_nil
    · refine sds_cons ?_ ?_
      · refine sd_if ?_ ?_ ?_
        · refine EW.et ?_
          · refine ew_and ?_ ?_
            · refine et_cmp (od_ne hu.1) ?_ ?_
              · refine ev_ix ixd ?_ ?_
                · exact ev_name 1
                · exact ev_int
              · refine ev_tup ?_
                · exact ea_nil
            · refine ew_and1 ?_
              · refine EW.et ?_
                · refine ew_or ?_ ?_
                  · refine et_cmp (od_eq hu.1) ?_ ?_
                    · exact ev_name 2
                    · refine ev_lst ?_
                      · exact ea_nil
                  · refine ew_or1 ?_
                    · refine et_cmp (od_eq hu.1) ?_ ?_
                      · refine ev_frz ?_
                        · refine es_callN (ok_law_take T) hr tk T.d_law_take.gm T.d_law_take.F.kp T.d_law_take.b ?_ (by first | decide | omega)
                          · refine eg_io 0 ?_
                            · refine eg_v ?_ ?_
                              · exact ev_int
                              · exact eg_nil
                      · exact ev_int
        · refine sds_cons ?_ ?_
          · refine sd_set 7 nd ?_
            · refine es_callN (ok_law_of T) hr tk T.d_law_of.gm T.d_law_of.F.kp T.d_law_of.b ?_ (by first | decide | omega)
              · refine eg_io 0 ?_
                · refine eg_v ?_ ?_
                  · refine ev_lst ?_
                    · refine ea_cons ?_ ?_
                      · exact ev_str
                      · refine ea_cons ?_ ?_
                        · exact ev_str
                        · refine ea_cons ?_ ?_
                          · exact ev_str
                          · refine ea_cons ?_ ?_
                            · exact ev_str
                            · refine ea_cons ?_ ?_
                              · exact ev_str
                              · refine ea_cons ?_ ?_
                                · exact ev_str
                                · exact ea_nil
                  · exact eg_nil
          · refine sds_cons ?_ ?_
            · refine sd_set 8 nd ?_
              · refine es_callN (ok_law_set T) hr tk T.d_law_set.gm T.d_law_set.F.kp T.d_law_set.b ?_ (by first | decide | omega)
                · refine eg_v ?_ ?_
                  · refine ev_frz ?_
                    · refine es_lcV (is := [9]) [("k", 9)] [9] ?_ ?_ ?_ ?_ nd (blkOk_by (N := ["tin", "book_so", "rows_so", "who_so", "right_so", "what_so", "own", "word_so", "rights_so", "k"]) (sc := defScope s_law_open) (own := [("k", 9)]) (by decide +kernel))
                      · refine ei_range1 ?_ T.b_range
                        · refine ev_frz ?_
                          · refine es_callN (ok_law_take T) hr tk T.d_law_take.gm T.d_law_take.F.kp T.d_law_take.b ?_ (by first | decide | omega)
                            · refine eg_io 0 ?_
                              · refine eg_v ?_ ?_
                                · exact ev_int
                                · exact eg_nil
                      · intro _ _ _ _ _
                        exact gd_name 9 nd
                      · exact bt_nil
                      · intro _ _ _ _ _
                        refine ev_frz ?_
                        · refine es_callN (ok_law_of T) hr takes0 T.d_law_of.gm T.d_law_of.F.kp T.d_law_of.b ?_ (by first | decide | omega)
                          · refine eg_io 0 ?_
                            · refine eg_v ?_ ?_
                              · refine ev_lst ?_
                                · refine ea_cons ?_ ?_
                                  · exact ev_str
                                  · refine ea_cons ?_ ?_
                                    · exact ev_str
                                    · refine ea_cons ?_ ?_
                                      · exact ev_str
                                      · refine ea_cons ?_ ?_
                                        · exact ev_str
                                        · refine ea_cons ?_ ?_
                                          · exact ev_str
                                          · exact ea_nil
                              · exact eg_nil
                  · exact eg_nil
            · refine sds_cons ?_ ?_
              · refine sd_set 6 nd ?_
                · refine es_of ?_
                  · refine ev_tup ?_
                    · refine ea_cons ?_ ?_
                      · exact ev_str
                      · refine ea_cons ?_ ?_
                        · refine ev_frz ?_
                          · refine es_callN (ok_law_of T) hr tk T.d_law_of.gm T.d_law_of.F.kp T.d_law_of.b ?_ (by first | decide | omega)
                            · refine eg_io 0 ?_
                              · refine eg_v ?_ ?_
                                · refine ev_callTy cd_list (by rfl) T.b_list (by decide +kernel) ?_
                                  · refine ea_cons ?_ ?_
                                    · refine ev_ix ixd ?_ ?_
                                      · exact ev_name 1
                                      · exact ev_int
                                    · exact ea_nil
                                · exact eg_nil
                        · refine ea_cons ?_ ?_
                          · exact ev_name 7
                          · refine ea_cons ?_ ?_
                            · refine ev_frz ?_
                              · refine es_callN (ok_law_of T) hr tk T.d_law_of.gm T.d_law_of.F.kp T.d_law_of.b ?_ (by first | decide | omega)
                                · refine eg_io 0 ?_
                                  · refine eg_v ?_ ?_
                                    · refine ev_lst ?_
                                      · refine ea_cons ?_ ?_
                                        · exact ev_str
                                        · refine ea_cons ?_ ?_
                                          · exact ev_str
                                          · exact ea_nil
                                    · exact eg_nil
                            · refine ea_cons ?_ ?_
                              · exact ev_name 8
                              · exact ea_nil
              · refine sds_one ?_
                · refine sd_ret ?_
                  · refine es_of ?_
                    · refine ev_if ?_ ?_ ?_
                      · refine et_val ?_
                        · refine ev_frz ?_
                          · refine es_callN (ok_law_may T) hr tk T.d_law_may.gm T.d_law_may.F.kp T.d_law_may.b ?_ (by first | decide | omega)
                            · refine eg_v ?_ ?_
                              · exact ev_name 1
                              · refine eg_v ?_ ?_
                                · exact ev_name 6
                                · exact eg_nil
                      · exact ev_name 6
                      · exact ev_none
        · exact sds_nil
      · refine sds_one ?_
        · refine sd_ret ?_
          · refine es_of ?_
            · refine ev_if ?_ ?_ ?_
              · refine et_cmp (od_ne hu.1) ?_ ?_
                · exact ev_name 2
                · refine ev_lst ?_
                  · exact ea_nil
              · refine ev_frz ?_
                · refine es_callN (ok_law_of T) hr tk T.d_law_of.gm T.d_law_of.F.kp T.d_law_of.b ?_ (by first | decide | omega)
                  · refine eg_io 0 ?_
                    · refine eg_v ?_ ?_
                      · exact ev_name 2
                      · exact eg_nil
              · exact ev_none

/-! _law_drawn_play -/
theorem sc_law_drawn_play : FnScope ["tin", "book_so", "many_so", "found", "here", "turn", "own"] ["tin", "book_so", "many_so"] (defScope s_law_drawn_play) := ⟨rfl, rfl, rfl, by decide +kernel, rfl, by decide +kernel, by decide +kernel⟩
def m_law_drawn_play : M Fl := (sSeq (sPar 3 4 (sLst aNil) (sV (dName 1)))
    (sSeq (sFor (iRange1 (dName 2)) (tName 5) (sSeq (sSet 6 (dDefN 2 g_law_open (gIo 0 (gV (dName 4) gNil))))
    (mIf (dTest (dBin (gIs true) (dName 6) (dC .none))) (sSeq (sAppend 3 (dName 6))
    (sSet 4 (dDefN 2 g_law_done (gV (dName 4) (gV (dName 6) gNil))))) sNil)))
    (sRet (sV (dCall cTuple (aCons (dName 3) aNil))))))
def g_law_drawn_play : List Slot → FRes := runB 7 m_law_drawn_play
theorem ok_law_drawn_play (T : Tx P K mg A) : FnOk P w K mg base (L2.CX P w) 4 A.f_law_drawn_play A.fd_law_drawn_play ["tin", "book_so", "many_so"] (spD K (xcs A) 3 g_law_drawn_play) := by
  refine fn_body (k := 3) T.d_law_drawn_play.F sc_law_drawn_play (by decide) fun cdv Ar outer s H E pa hr tk => ?_
  have hu := hu2 hr
  have nd := sc_law_drawn_play.nd
  refine sds_cons ?_ ?_
  · refine sd_par 3 4 nd ?_ ?_
    · refine es_lst ?_
      · exact ea_nil
    · refine es_of ?_
      · exact ev_name 1
  · refine sds_cons ?_ ?_
    · refine sd_for (is := [5]) ?_ ?_ ?_ (passes_of rfl)
      · refine ei_range1 ?_ T.b_range
        · exact ev_name 2
      · exact gd_name 5 nd
      · refine sds_cons ?_ ?_
        · refine sd_set 6 nd ?_
          · refine es_callN (ok_law_open T) hr tk T.d_law_open.gm T.d_law_open.F.kp T.d_law_open.b ?_ (by first | decide | omega)
            · refine eg_io 0 ?_
              · refine eg_v ?_ ?_
                · exact ev_name 4
                · exact eg_nil
        · refine sds_one ?_
          · refine sd_if ?_ ?_ ?_
            · refine et_cmp od_isnot ?_ ?_
              · exact ev_name 6
              · exact ev_none
            · refine sds_cons ?_ ?_
              · refine sd_append 3 ?_
                · exact ev_name 6
              · refine sds_one ?_
                · refine sd_set 4 nd ?_
                  · refine es_callN (ok_law_done T) hr tk T.d_law_done.gm T.d_law_done.F.kp T.d_law_done.b ?_ (by first | decide | omega)
                    · refine eg_v ?_ ?_
                      · exact ev_name 4
                      · refine eg_v ?_ ?_
                        · exact ev_name 6
                        · exact eg_nil
            · exact sds_nil
    · refine sds_one ?_
      · refine sd_ret ?_
        · refine es_of ?_
          · refine ev_callTy cd_tuple (by rfl) T.b_tuple (by decide +kernel) ?_
            · refine ea_cons ?_ ?_
              · exact ev_name 3
              · exact ea_nil

/-! _law_words -/
theorem sc_law_words : FnScope ["move_so"] ["move_so"] (defScope s_law_words) := ⟨rfl, rfl, rfl, by decide +kernel, rfl, by decide +kernel, by decide +kernel⟩
def m_law_words : M Fl := (sSeq (mIf (dTest (dBin (gEq false) (dBin gIx (dName 0) (dC (.int 0))) (dC (.str "make")))) (sRet (sV (dMeth mJoin (dC (.str " ")) (dBin gAdd (dCall cList (aCons (dSlice gSl (dName 0) (ret none) (oInt (dC (.int 4)))) aNil)) (dLst (aCons (mIf (dTest (dBin (gEq true) (dBin gIx (dName 0) (dC (.int 4))) (dTup aNil))) (dMeth mJoin (dC (.str ",")) (dBin gIx (dName 0) (dC (.int 4)))) (dC (.str "-"))) aNil)))))) sNil)
    (sRet (sV (dMeth mJoin (dC (.str " ")) (dName 0)))))
def g_law_words : List Slot → FRes := runB 1 m_law_words
theorem ok_law_words (T : Tx P K mg A) : FnOk P w K mg base (L2.CX P w) 1 A.f_law_words A.fd_law_words ["move_so"] (spD K (xcs A) 1 g_law_words) := by
  refine fn_body (k := 0) T.d_law_words.F sc_law_words (by decide) fun cdv Ar outer s H E pa hr tk => ?_
  have hu := hu2 hr
  have nd := sc_law_words.nd
  refine sds_cons ?_ ?_
  · refine sd_if ?_ ?_ ?_
    · refine et_cmp (od_eq hu.1) ?_ ?_
      · refine ev_ix ixd ?_ ?_
        · exact ev_name 0
        · exact ev_int
      · exact ev_str
    · refine sds_one ?_
      · refine sd_ret ?_
        · refine es_of ?_
          · refine ev_m1 PySem.F.slot_str_join PySem.F.type_str_join md_join ?_ ?_
            · exact ev_str
            · refine ev_bin od_add ?_ ?_
              · refine ev_callTy cd_list (by rfl) T.b_list (by decide +kernel) ?_
                · refine ea_cons ?_ ?_
                  · refine ev_slice sld ?_ ?_ ?_
                    · exact ev_name 0
                    · exact eo_none
                    · refine eo_some ?_
                      · exact ev_int
                  · exact ea_nil
              · refine ev_lst ?_
                · refine ea_cons ?_ ?_
                  · refine ev_if ?_ ?_ ?_
                    · refine et_cmp (od_ne hu.1) ?_ ?_
                      · refine ev_ix ixd ?_ ?_
                        · exact ev_name 0
                        · exact ev_int
                      · refine ev_tup ?_
                        · exact ea_nil
                    · refine ev_m1 PySem.F.slot_str_join PySem.F.type_str_join md_join ?_ ?_
                      · exact ev_str
                      · refine ev_ix ixd ?_ ?_
                        · exact ev_name 0
                        · exact ev_int
                    · exact ev_str
                  · exact ea_nil
    · exact sds_nil
  · refine sds_one ?_
    · refine sd_ret ?_
      · refine es_of ?_
        · refine ev_m1 PySem.F.slot_str_join PySem.F.type_str_join md_join ?_ ?_
          · exact ev_str
          · exact ev_name 0

/-! _law_read -/
theorem sc_law_read : FnScope ["text_so", "slip_so"] ["text_so"] (defScope s_law_read) := ⟨rfl, rfl, rfl, by decide +kernel, rfl, by decide +kernel, by decide +kernel⟩
def m_law_read : M Fl := (sTry 1 0 (sRet (sV (dTup (aCons (dC (.str "told")) (aCons (dFrz (dDefN 1 g_play_in (gV (dName 0) gNil))) aNil))))) (sxRet fun d => (PyData.str "raised" :: (d :: (PyData.bool true :: [])))))
def g_law_read : List Slot → FRes := runB 2 m_law_read
theorem ok_law_read (T : Tx P K mg A) : FnOk P w K mg base (L2.CX P w) 7 A.f_law_read A.fd_law_read ["text_so"] (spD K (xcs A) 1 g_law_read) := by
  refine fn_body (k := 6) T.d_law_read.F sc_law_read (by decide) fun cdv Ar outer s H E pa hr tk => ?_
  have hu := hu2 hr
  have nd := sc_law_read.nd
  refine sds_one ?_
  · refine sd_tryX 1 0 rfl rfl nd ⟨rfl, by decide, .inl T.x_BadLine.gC⟩ tk T.m_BadLine ?_ ?_
    · intro W pn xe tk po
      refine sds_one ?_
      · refine sd_ret ?_
        · refine es_of ?_
          · refine ev_tup ?_
            · refine ea_cons ?_ ?_
              · exact ev_str
              · refine ea_cons ?_ ?_
                · refine ev_frz ?_
                  · refine es_callKN (ok_play_in T) hr tk T.d_play_in.gm T.d_play_in.F.kp T.d_play_in.kb ?_ (by first | decide | omega)
                    · refine ek_v ?_ ?_
                      · exact ev_name 0
                      · exact ek_nil
                · exact ea_nil
    · refine sx_retTup ?_
      · refine exs_cons ?_ ?_
        · exact ex_str
        · refine exs_cons ?_ ?_
          · exact ex_fld T.e_BadLine rfl
          · refine exs_cons ?_ ?_
            · exact ex_isi T.e_BadLine rfl T.k_BadLine_ValueError T.b_isinstance T.b_ValueError (by decide +kernel)
            · exact exs_nil

/-! law -/
theorem sc_law : FnScope ["script", "tin", "lap", "book_so", "play_so", "turn", "a", "b", "c", "k", "goods_so", "own", "lines_so", "plain_so", "got", "acts_so", "bads_so", "bad_so", "bent_so", "text_so", "due"] ["script"] (defScope s_law) := ⟨rfl, rfl, rfl, by decide +kernel, rfl, by decide +kernel, by decide +kernel⟩
def m_law : M Fl := (sSeq (sSet 1 (dDefN 2 g_law_box (gV (dFrz (dDefN 2 g_law_cells (gV (dName 0) (gV (dC (.int 1)) gNil)))) (gV (dC (.int 0)) gNil))))
    (sSeq (sFor (iRange1 (dC (.int 3))) (tName 2) (sSeq (sSet 3 (dDefN 5 g_law_book (gIo 1 (gV (dBin gAdd (dC (.int 1)) (dFrz (dDefN 2 g_law_take (gIo 1 (gV (dC (.int 6)) gNil))))) (gV (dFrz (dDefN 2 g_law_take (gIo 1 (gV (dC (.int 6)) gNil)))) (gV (dC (.int 14)) (gV (dLst (aCons (dC (.str "look")) (aCons (dC (.str "tell")) (aCons (dC (.str "take")) (aCons (dC (.str "hand")) (aCons (dC (.str "own")) aNil)))))) gNil)))))))
    (sSeq (sSet 4 (dDefN 3 g_law_drawn_play (gIo 1 (gV (dName 3) (gV (dFrz (dDefN 2 g_law_of (gIo 1 (gV (dLst (aCons (dC (.int 20)) (aCons (dC (.int 5)) (aCons (dC (.int 0)) aNil)))) gNil)))) gNil)))))
    (sSeq (sFor (iRange1 (dFrz (dDefN 2 g_law_take (gIo 1 (gV (dC (.int 4)) gNil))))) (tName 5) (sSeq (sAsg (dFrz (sComp [9] (iRange1 (dC (.int 3))) (tName 9) (ret true) (dFrz (dDefN 2 g_law_of (gIo 1 (gV (dLst (aCons (dC (.str "ann")) (aCons (dC (.str "box")) (aCons (dC (.str "zed")) (aCons (dC (.str "abcdefgh")) (aCons (dC (.str "q")) aNil)))))) gNil)))))) (tLstD (tsCons (tName 6) (tsCons (tName 7) (tsCons (tName 8) tsNil)))))
    (sSeq (sSet 10 (sLst (aCons (dTup (aCons (dC (.str "look")) (aCons (dName 6) (aCons (dName 7) aNil)))) (aCons (dTup (aCons (dC (.str "tell")) (aCons (dName 6) (aCons (dName 7) aNil)))) (aCons (dTup (aCons (dC (.str "take")) (aCons (dName 6) (aCons (dName 7) (aCons (dName 8) (aCons (dName 6) aNil)))))) (aCons (dTup (aCons (dC (.str "hand")) (aCons (dName 6) (aCons (dName 7) (aCons (dName 8) (aCons (dName 8) aNil)))))) (aCons (dTup (aCons (dC (.str "make")) (aCons (dName 6) (aCons (dName 7) (aCons (dC (.str "person")) (aCons (dFrz (dDefN 1 g_law_set (gV (dLst (aCons (dName 6) (aCons (dName 7) (aCons (dName 8) aNil)))) gNil))) aNil)))))) aNil)))))))
    (sSeq (sSet 11 (dDefN 2 g_law_of (gIo 1 (gV (dBin gAdd (dName 10) (dLst (aCons (dTup (aCons (dC (.str "make")) (aCons (dName 6) (aCons (dName 7) (aCons (dC (.str "thing")) (aCons (dTup aNil) aNil)))))) aNil))) gNil))))
    (sSet 4 (sV (dBin gAdd (dName 4) (dTup (aCons (dName 11) aNil)))))))))
    (sSeq (sSet 12 (sComp [11] (iAny (dName 4)) (tName 11) (ret true) (dFrz (dDefN 1 g_law_words (gV (dName 11) gNil)))))
    (sSeq (sSet 13 (sV (dMeth mJoin (dC (.str "\n")) (dName 12))))
    (sSeq (sSet 14 (sLst (aCons (dFrz (dDefN 1 g_play_text (gV (dFrz (dDefN 1 (g_law_lists fuel) (gV (dName 4) gNil))) gNil))) (aCons (dFrz (sComp [11] (iAny (dName 4)) (tName 11) (ret true) (dFrz (dDefN 1 g_move_text (gV (dName 11) gNil))))) (aCons (dFrz (dDefN 1 g_law_read (gV (dName 13) gNil))) (aCons (dFrz (dDefN 1 g_is_text_of_play (gV (dName 13) gNil))) aNil))))))
    (sSeq (mIf (bNot (dTruth (dFrz (dDefN 2 (g_law_same fuel) (gV (dName 14) (gV (dLst (aCons (dName 13) (aCons (dName 12) (aCons (dTup (aCons (dC (.str "told")) (aCons (dName 4) aNil))) (aCons (dC (.bool true)) aNil))))) gNil)))))) (sRet (sV (dC (.bool false)))) sNil)
    (sSeq (sSet 15 (sV (dCall cLen (aCons (dFrz (sComp [11] (iAny (dName 4)) (tName 11) (dTest (dBin (gEq false) (dCall cLen (aCons (dName 11) aNil)) (dC (.int 3)))) (dName 11))) aNil))))
    (sSeq (mIf (bNot (dTruth (dFrz (dDefN 2 (g_law_same fuel) (gV (dFrz (dDefN 1 g_count_moves (gV (dName 4) gNil))) (gV (dTup (aCons (dBin gSub (dCall cLen (aCons (dName 4) aNil)) (dName 15)) (aCons (dName 15) aNil))) gNil)))))) (sRet (sV (dC (.bool false)))) sNil)
    (sSeq (sSet 9 (dDefN 2 g_law_take (gIo 1 (gV (dBin gAdd (dCall cLen (aCons (dName 12) aNil)) (dC (.int 1))) gNil))))
    (sSeq (sSet 16 (sLst (aCons (dC (.str "")) (aCons (dC (.str " ")) (aCons (dC (.str "look ann")) (aCons (dC (.str "look ann box ")) (aCons (dC (.str " look ann box")) (aCons (dC (.str "look  ann box")) (aCons (dC (.str "look ann Box")) (aCons (dC (.str "look ann abcdefghi")) (aCons (dC (.str "give ann box own key")) aNil)))))))))))
    (sSeq (sSet 16 (sV (dBin gAdd (dName 16) (dLst (aCons (dC (.str "take ann box own")) (aCons (dC (.str "take ann box own key key")) aNil))))))
    (sSeq (sSet 16 (sV (dBin gAdd (dName 16) (dLst (aCons (dC (.str "make ann zed thing")) (aCons (dC (.str "make ann zed house -")) (aCons (dC (.str "make ann zed thing own,look")) (aCons (dC (.str "make ann zed thing own,own")) (aCons (dC (.str "make ann zed thing -,own")) aNil)))))))))
    (sSeq (sSet 16 (sV (dBin gAdd (dName 16) (dLst (aCons (dC (.str "make ann zed thing own look")) (aCons (dC (.str "look ann 1")) (aCons (dC (.str "-")) aNil)))))))
    (sSeq (sFor (iAny (dFrz (dDefN 3 g_law_pick (gIo 1 (gV (dName 16) (gV (dC (.int 6)) gNil)))))) (tName 17) (sSeq (sSet 18 (sV (dBin gAdd (dBin gAdd (dSlice gSl (dName 12) (ret none) (oInt (dName 9))) (dLst (aCons (dName 17) aNil))) (dSlice gSl (dName 12) (oInt (dName 9)) (ret none)))))
    (sSeq (sSet 19 (sV (dMeth mJoin (dC (.str "\n")) (dName 18))))
    (mIf (bAnd (dTest (dBin (gEq true) (dName 19) (dC (.str "")))) (bNot (dTruth (dFrz (dDefN 2 (g_law_same fuel) (gV (dLst (aCons (dFrz (dDefN 1 g_law_read (gV (dName 19) gNil))) (aCons (dFrz (dDefN 1 g_is_text_of_play (gV (dName 19) gNil))) aNil))) (gV (dLst (aCons (dTup (aCons (dC (.str "raised")) (aCons (dName 9) (aCons (dC (.bool true)) aNil)))) (aCons (dC (.bool false)) aNil))) gNil))))))) (sRet (sV (dC (.bool false)))) sNil))))
    (mIf (bAnd (dTest (dBin (gEq true) (dName 12) (dLst aNil))) (bNot (dTruth (dFrz (dDefN 2 (g_law_same fuel) (gV (dFrz (dDefN 1 g_law_read (gV (dBin gAdd (dName 13) (dC (.str "\n"))) gNil))) (gV (dTup (aCons (dC (.str "raised")) (aCons (dCall cLen (aCons (dName 12) aNil)) (aCons (dC (.bool true)) aNil)))) gNil))))))) (sRet (sV (dC (.bool false)))) sNil)))))))))))))))))
    (sSeq (sSet 20 (sV (dTup (aCons (dC (.str "told")) (aCons (dTup (aCons (dTup (aCons (dC (.str "make")) (aCons (dC (.str "ann")) (aCons (dC (.str "zed")) (aCons (dC (.str "thing")) (aCons (dTup (aCons (dC (.str "look")) (aCons (dC (.str "own")) (aCons (dC (.str "take")) aNil)))) aNil)))))) aNil)) aNil)))))
    (sRet (dDefN 2 (g_law_same fuel) (gV (dLst (aCons (dFrz (dDefN 1 g_law_read (gV (dC (.str "")) gNil))) (aCons (dFrz (dDefN 1 g_play_text (gV (dTup aNil) gNil))) (aCons (dFrz (dDefN 1 g_is_text_of_play (gV (dC (.str "")) gNil))) (aCons (dFrz (dDefN 1 g_law_read (gV (dC (.str "make ann zed thing look,own,take")) gNil))) aNil))))) (gV (dLst (aCons (dTup (aCons (dC (.str "told")) (aCons (dTup aNil) aNil))) (aCons (dC (.str "")) (aCons (dC (.bool true)) (aCons (dName 20) aNil))))) gNil)))))))
def g_law : List Slot → FRes := runB 21 m_law
theorem ok_law (T : Tx P K mg A) : FnOk P w K mg base (L2.CX P w) 16 A.f_law A.fd_law ["script"] (spD K (xcs A) 1 g_law) := by
  refine fn_body (k := 15) T.d_law.F sc_law (by decide) fun cdv Ar outer s H E pa hr tk => ?_
  have hu := hu2 hr
  have nd := sc_law.nd
  refine sds_cons ?_ ?_
  · refine sd_set 1 nd ?_
    · refine es_callN (ok_law_box T) hr tk T.d_law_box.gm T.d_law_box.F.kp T.d_law_box.b ?_ (by first | decide | omega)
      · refine eg_v ?_ ?_
        · refine ev_frz ?_
          · refine es_callN (ok_law_cells T) hr tk T.d_law_cells.gm T.d_law_cells.F.kp T.d_law_cells.b ?_ (by first | decide | omega)
            · refine eg_v ?_ ?_
              · exact ev_name 0
              · refine eg_v ?_ ?_
                · exact ev_int
                · exact eg_nil
        · refine eg_v ?_ ?_
          · exact ev_int
          · exact eg_nil
  · refine sds_cons ?_ ?_
    · refine sd_for (is := [2]) ?_ ?_ ?_ (passes_of rfl)
      · refine ei_range1 ?_ T.b_range
        · exact ev_int
      · exact gd_name 2 nd
      · refine sds_cons ?_ ?_
        · refine sd_set 3 nd ?_
          · refine es_callN (ok_law_book T) hr tk T.d_law_book.gm T.d_law_book.F.kp T.d_law_book.b ?_ (by first | decide | omega)
            · refine eg_io 1 ?_
              · refine eg_v ?_ ?_
                · refine ev_bin od_add ?_ ?_
                  · exact ev_int
                  · refine ev_frz ?_
                    · refine es_callN (ok_law_take T) hr tk T.d_law_take.gm T.d_law_take.F.kp T.d_law_take.b ?_ (by first | decide | omega)
                      · refine eg_io 1 ?_
                        · refine eg_v ?_ ?_
                          · exact ev_int
                          · exact eg_nil
                · refine eg_v ?_ ?_
                  · refine ev_frz ?_
                    · refine es_callN (ok_law_take T) hr tk T.d_law_take.gm T.d_law_take.F.kp T.d_law_take.b ?_ (by first | decide | omega)
                      · refine eg_io 1 ?_
                        · refine eg_v ?_ ?_
                          · exact ev_int
                          · exact eg_nil
                  · refine eg_v ?_ ?_
                    · exact ev_int
                    · refine eg_v ?_ ?_
                      · refine ev_lst ?_
                        · refine ea_cons ?_ ?_
                          · exact ev_str
                          · refine ea_cons ?_ ?_
                            · exact ev_str
                            · refine ea_cons ?_ ?_
                              · exact ev_str
                              · refine ea_cons ?_ ?_
                                · exact ev_str
                                · refine ea_cons ?_ ?_
                                  · exact ev_str
                                  · exact ea_nil
                      · exact eg_nil
        · refine sds_cons ?_ ?_
          · refine sd_set 4 nd ?_
            · refine es_callN (ok_law_drawn_play T) hr tk T.d_law_drawn_play.gm T.d_law_drawn_play.F.kp T.d_law_drawn_play.b ?_ (by first | decide | omega)
              · refine eg_io 1 ?_
                · refine eg_v ?_ ?_
                  · exact ev_name 3
                  · refine eg_v ?_ ?_
                    · refine ev_frz ?_
                      · refine es_callN (ok_law_of T) hr tk T.d_law_of.gm T.d_law_of.F.kp T.d_law_of.b ?_ (by first | decide | omega)
                        · refine eg_io 1 ?_
                          · refine eg_v ?_ ?_
                            · refine ev_lst ?_
                              · refine ea_cons ?_ ?_
                                · exact ev_int
                                · refine ea_cons ?_ ?_
                                  · exact ev_int
                                  · refine ea_cons ?_ ?_
                                    · exact ev_int
                                    · exact ea_nil
                            · exact eg_nil
                    · exact eg_nil
          · refine sds_cons ?_ ?_
            · refine sd_for (is := [5]) ?_ ?_ ?_ (passes_of rfl)
              · refine ei_range1 ?_ T.b_range
                · refine ev_frz ?_
                  · refine es_callN (ok_law_take T) hr tk T.d_law_take.gm T.d_law_take.F.kp T.d_law_take.b ?_ (by first | decide | omega)
                    · refine eg_io 1 ?_
                      · refine eg_v ?_ ?_
                        · exact ev_int
                        · exact eg_nil
              · exact gd_name 5 nd
              · refine sds_cons ?_ ?_
                · refine sd_asg (is := [6, 7, 8]) ?_ ?_
                  · refine ev_frz ?_
                    · refine es_lcV (is := [9]) [("k", 9)] [9] ?_ ?_ ?_ ?_ nd (blkOk_by (N := ["script", "tin", "lap", "book_so", "play_so", "turn", "a", "b", "c", "k", "goods_so", "own", "lines_so", "plain_so", "got", "acts_so", "bads_so", "bad_so", "bent_so", "text_so", "due"]) (sc := defScope s_law) (own := [("k", 9)]) (by decide +kernel))
                      · refine ei_range1 ?_ T.b_range
                        · exact ev_int
                      · intro _ _ _ _ _
                        exact gd_name 9 nd
                      · exact bt_nil
                      · intro _ _ _ _ _
                        refine ev_frz ?_
                        · refine es_callN (ok_law_of T) hr takes0 T.d_law_of.gm T.d_law_of.F.kp T.d_law_of.b ?_ (by first | decide | omega)
                          · refine eg_io 1 ?_
                            · refine eg_v ?_ ?_
                              · refine ev_lst ?_
                                · refine ea_cons ?_ ?_
                                  · exact ev_str
                                  · refine ea_cons ?_ ?_
                                    · exact ev_str
                                    · refine ea_cons ?_ ?_
                                      · exact ev_str
                                      · refine ea_cons ?_ ?_
                                        · exact ev_str
                                        · refine ea_cons ?_ ?_
                                          · exact ev_str
                                          · exact ea_nil
                              · exact eg_nil
                  · refine gd_unl (is := [6, 7, 8]) ?_ (tsCons_len (tsCons_len (tsCons_len tsNil_len)))
                    · refine gds_cons (js := [6]) ?_ ?_
                      · exact gd_name 6 nd
                      · refine gds_cons (js := [7]) ?_ ?_
                        · exact gd_name 7 nd
                        · refine gds_cons (js := [8]) ?_ ?_
                          · exact gd_name 8 nd
                          · exact gds_nil
                · refine sds_cons ?_ ?_
                  · refine sd_set 10 nd ?_
                    · refine es_lst ?_
                      · refine ea_cons ?_ ?_
                        · refine ev_tup ?_
                          · refine ea_cons ?_ ?_
                            · exact ev_str
                            · refine ea_cons ?_ ?_
                              · exact ev_name 6
                              · refine ea_cons ?_ ?_
                                · exact ev_name 7
                                · exact ea_nil
                        · refine ea_cons ?_ ?_
                          · refine ev_tup ?_
                            · refine ea_cons ?_ ?_
                              · exact ev_str
                              · refine ea_cons ?_ ?_
                                · exact ev_name 6
                                · refine ea_cons ?_ ?_
                                  · exact ev_name 7
                                  · exact ea_nil
                          · refine ea_cons ?_ ?_
                            · refine ev_tup ?_
                              · refine ea_cons ?_ ?_
                                · exact ev_str
                                · refine ea_cons ?_ ?_
                                  · exact ev_name 6
                                  · refine ea_cons ?_ ?_
                                    · exact ev_name 7
                                    · refine ea_cons ?_ ?_
                                      · exact ev_name 8
                                      · refine ea_cons ?_ ?_
                                        · exact ev_name 6
                                        · exact ea_nil
                            · refine ea_cons ?_ ?_
                              · refine ev_tup ?_
                                · refine ea_cons ?_ ?_
                                  · exact ev_str
                                  · refine ea_cons ?_ ?_
                                    · exact ev_name 6
                                    · refine ea_cons ?_ ?_
                                      · exact ev_name 7
                                      · refine ea_cons ?_ ?_
                                        · exact ev_name 8
                                        · refine ea_cons ?_ ?_
                                          · exact ev_name 8
                                          · exact ea_nil
                              · refine ea_cons ?_ ?_
                                · refine ev_tup ?_
                                  · refine ea_cons ?_ ?_
                                    · exact ev_str
                                    · refine ea_cons ?_ ?_
                                      · exact ev_name 6
                                      · refine ea_cons ?_ ?_
                                        · exact ev_name 7
                                        · refine ea_cons ?_ ?_
                                          · exact ev_str
                                          · refine ea_cons ?_ ?_
                                            · refine ev_frz ?_
                                              · refine es_callN (ok_law_set T) hr tk T.d_law_set.gm T.d_law_set.F.kp T.d_law_set.b ?_ (by first | decide | omega)
                                                · refine eg_v ?_ ?_
                                                  · refine ev_lst ?_
                                                    · refine ea_cons ?_ ?_
                                                      · exact ev_name 6
                                                      · refine ea_cons ?_ ?_
                                                        · exact ev_name 7
                                                        · refine ea_cons ?_ ?_
                                                          · exact ev_name 8
                                                          · exact ea_nil
                                                  · exact eg_nil
                                            · exact ea_nil
                                · exact ea_nil
                  · refine sds_cons ?_ ?_
                    · refine sd_set 11 nd ?_
                      · refine es_callN (ok_law_of T) hr tk T.d_law_of.gm T.d_law_of.F.kp T.d_law_of.b ?_ (by first | decide | omega)
                        · refine eg_io 1 ?_
                          · refine eg_v ?_ ?_
                            · refine ev_bin od_add ?_ ?_
                              · exact ev_name 10
                              · refine ev_lst ?_
                                · refine ea_cons ?_ ?_
                                  · refine ev_tup ?_
                                    · refine ea_cons ?_ ?_
                                      · exact ev_str
                                      · refine ea_cons ?_ ?_
                                        · exact ev_name 6
                                        · refine ea_cons ?_ ?_
                                          · exact ev_name 7
                                          · refine ea_cons ?_ ?_
                                            · exact ev_str
                                            · refine ea_cons ?_ ?_
                                              · refine ev_tup ?_
                                                · exact ea_nil
                                              · exact ea_nil
                                  · exact ea_nil
                            · exact eg_nil
                    · refine sds_one ?_
                      · refine sd_set 4 nd ?_
                        · refine es_of ?_
                          · refine ev_bin od_add ?_ ?_
                            · exact ev_name 4
                            · refine ev_tup ?_
                              · refine ea_cons ?_ ?_
                                · exact ev_name 11
                                · exact ea_nil
            · refine sds_cons ?_ ?_
              · refine sd_setLcV 12 (is := [11]) [("own", 11)] [11] ?_ ?_ ?_ ?_ nd (blkOk_by (N := ["script", "tin", "lap", "book_so", "play_so", "turn", "a", "b", "c", "k", "goods_so", "own", "lines_so", "plain_so", "got", "acts_so", "bads_so", "bad_so", "bent_so", "text_so", "due"]) (sc := defScope s_law) (own := [("own", 11)]) (by decide +kernel))
                · refine ei_any ?_
                  · exact ev_name 4
                · intro _ _ _ _ _
                  exact gd_name 11 nd
                · exact bt_nil
                · intro _ _ _ _ _
                  refine ev_frz ?_
                  · refine es_callN (ok_law_words T) hr takes0 T.d_law_words.gm T.d_law_words.F.kp T.d_law_words.b ?_ (by first | decide | omega)
                    · refine eg_v ?_ ?_
                      · exact ev_name 11
                      · exact eg_nil
              · refine sds_cons ?_ ?_
                · refine sd_set 13 nd ?_
                  · refine es_of ?_
                    · refine ev_m1 PySem.F.slot_str_join PySem.F.type_str_join md_join ?_ ?_
                      · exact ev_str
                      · exact ev_name 12
                · refine sds_cons ?_ ?_
                  · refine sd_set 14 nd ?_
                    · refine es_lst ?_
                      · refine ea_cons ?_ ?_
                        · refine ev_frz ?_
                          · refine es_callKN (ok_play_text T) hr tk T.d_play_text.gm T.d_play_text.F.kp T.d_play_text.kb ?_ (by first | decide | omega)
                            · refine ek_v ?_ ?_
                              · refine ev_frz ?_
                                · refine es_callN (ok_law_lists T fuel) hr tk T.d_law_lists.gm T.d_law_lists.F.kp T.d_law_lists.b ?_ (by first | decide | omega)
                                  · refine eg_v ?_ ?_
                                    · exact ev_name 4
                                    · exact eg_nil
                              · exact ek_nil
                        · refine ea_cons ?_ ?_
                          · refine ev_frz ?_
                            · refine es_lcV (is := [11]) [("own", 11)] [11] ?_ ?_ ?_ ?_ nd (blkOk_by (N := ["script", "tin", "lap", "book_so", "play_so", "turn", "a", "b", "c", "k", "goods_so", "own", "lines_so", "plain_so", "got", "acts_so", "bads_so", "bad_so", "bent_so", "text_so", "due"]) (sc := defScope s_law) (own := [("own", 11)]) (by decide +kernel))
                              · refine ei_any ?_
                                · exact ev_name 4
                              · intro _ _ _ _ _
                                exact gd_name 11 nd
                              · exact bt_nil
                              · intro _ _ _ _ _
                                refine ev_frz ?_
                                · refine es_callKN (ok_move_text T) hr takes0 T.d_move_text.gm T.d_move_text.F.kp T.d_move_text.kb ?_ (by first | decide | omega)
                                  · refine ek_v ?_ ?_
                                    · exact ev_name 11
                                    · exact ek_nil
                          · refine ea_cons ?_ ?_
                            · refine ev_frz ?_
                              · refine es_callN (ok_law_read T) hr tk T.d_law_read.gm T.d_law_read.F.kp T.d_law_read.b ?_ (by first | decide | omega)
                                · refine eg_v ?_ ?_
                                  · exact ev_name 13
                                  · exact eg_nil
                            · refine ea_cons ?_ ?_
                              · refine ev_frz ?_
                                · refine es_callKN (ok_is_text_of_play T) hr tk T.d_is_text_of_play.gm T.d_is_text_of_play.F.kp T.d_is_text_of_play.kb ?_ (by first | decide | omega)
                                  · refine ek_v ?_ ?_
                                    · exact ev_name 13
                                    · exact ek_nil
                              · exact ea_nil
                  · refine sds_cons ?_ ?_
                    · refine sd_if ?_ ?_ ?_
                      · refine et_not ?_
                        · refine et_val ?_
                          · refine ev_frz ?_
                            · refine es_callN (ok_law_same T fuel) hr tk T.d_law_same.gm T.d_law_same.F.kp T.d_law_same.b ?_ (by first | decide | omega)
                              · refine eg_v ?_ ?_
                                · exact ev_name 14
                                · refine eg_v ?_ ?_
                                  · refine ev_lst ?_
                                    · refine ea_cons ?_ ?_
                                      · exact ev_name 13
                                      · refine ea_cons ?_ ?_
                                        · exact ev_name 12
                                        · refine ea_cons ?_ ?_
                                          · refine ev_tup ?_
                                            · refine ea_cons ?_ ?_
                                              · exact ev_str
                                              · refine ea_cons ?_ ?_
                                                · exact ev_name 4
                                                · exact ea_nil
                                          · refine ea_cons ?_ ?_
                                            · exact ev_bool
                                            · exact ea_nil
                                  · exact eg_nil
                      · refine sds_one ?_
                        · refine sd_ret ?_
                          · refine es_of ?_
                            · exact ev_bool
                      · exact sds_nil
                    · refine sds_cons ?_ ?_
                      · refine sd_set 15 nd ?_
                        · refine es_of ?_
                          · refine ev_callB cd_len (by rfl) T.b_len (by decide +kernel) ?_
                            · refine ea_cons ?_ ?_
                              · refine ev_frz ?_
                                · refine es_lcV (is := [11]) [("own", 11)] [11] ?_ ?_ ?_ ?_ nd (blkOk_by (N := ["script", "tin", "lap", "book_so", "play_so", "turn", "a", "b", "c", "k", "goods_so", "own", "lines_so", "plain_so", "got", "acts_so", "bads_so", "bad_so", "bent_so", "text_so", "due"]) (sc := defScope s_law) (own := [("own", 11)]) (by decide +kernel))
                                  · refine ei_any ?_
                                    · exact ev_name 4
                                  · intro _ _ _ _ _
                                    exact gd_name 11 nd
                                  · refine bt_one ?_
                                    · intro _ _ _ _ _
                                      refine et_cmp (od_eq hu.1) ?_ ?_
                                      · refine ev_callB cd_len (by rfl) T.b_len (by decide +kernel) ?_
                                        · refine ea_cons ?_ ?_
                                          · exact ev_name 11
                                          · exact ea_nil
                                      · exact ev_int
                                  · intro _ _ _ _ _
                                    exact ev_name 11
                              · exact ea_nil
                      · refine sds_cons ?_ ?_
                        · refine sd_if ?_ ?_ ?_
                          · refine et_not ?_
                            · refine et_val ?_
                              · refine ev_frz ?_
                                · refine es_callN (ok_law_same T fuel) hr tk T.d_law_same.gm T.d_law_same.F.kp T.d_law_same.b ?_ (by first | decide | omega)
                                  · refine eg_v ?_ ?_
                                    · refine ev_frz ?_
                                      · refine es_callKN (ok_count_moves T) hr tk T.d_count_moves.gm T.d_count_moves.F.kp T.d_count_moves.kb ?_ (by first | decide | omega)
                                        · refine ek_v ?_ ?_
                                          · exact ev_name 4
                                          · exact ek_nil
                                    · refine eg_v ?_ ?_
                                      · refine ev_tup ?_
                                        · refine ea_cons ?_ ?_
                                          · refine ev_bin od_sub ?_ ?_
                                            · refine ev_callB cd_len (by rfl) T.b_len (by decide +kernel) ?_
                                              · refine ea_cons ?_ ?_
                                                · exact ev_name 4
                                                · exact ea_nil
                                            · exact ev_name 15
                                          · refine ea_cons ?_ ?_
                                            · exact ev_name 15
                                            · exact ea_nil
                                      · exact eg_nil
                          · refine sds_one ?_
                            · refine sd_ret ?_
                              · refine es_of ?_
                                · exact ev_bool
                          · exact sds_nil
                        · refine sds_cons ?_ ?_
                          · refine sd_set 9 nd ?_
                            · refine es_callN (ok_law_take T) hr tk T.d_law_take.gm T.d_law_take.F.kp T.d_law_take.b ?_ (by first | decide | omega)
                              · refine eg_io 1 ?_
                                · refine eg_v ?_ ?_
                                  · refine ev_bin od_add ?_ ?_
                                    · refine ev_callB cd_len (by rfl) T.b_len (by decide +kernel) ?_
                                      · refine ea_cons ?_ ?_
                                        · exact ev_name 12
                                        · exact ea_nil
                                    · exact ev_int
                                  · exact eg_nil
                          · refine sds_cons ?_ ?_
                            · refine sd_set 16 nd ?_
                              · refine es_lst ?_
                                · refine ea_cons ?_ ?_
                                  · exact ev_str
                                  · refine ea_cons ?_ ?_
                                    · exact ev_str
                                    · refine ea_cons ?_ ?_
                                      · exact ev_str
                                      · refine ea_cons ?_ ?_
                                        · exact ev_str
                                        · refine ea_cons ?_ ?_
                                          · exact ev_str
                                          · refine ea_cons ?_ ?_
                                            · exact ev_str
                                            · refine ea_cons ?_ ?_
                                              · exact ev_str
                                              · refine ea_cons ?_ ?_
                                                · exact ev_str
                                                · refine ea_cons ?_ ?_
                                                  · exact ev_str
                                                  · exact ea_nil
                            · refine sds_cons ?_ ?_
                              · refine sd_set 16 nd ?_
                                · refine es_of ?_
                                  · refine ev_bin od_add ?_ ?_
                                    · exact ev_name 16
                                    · refine ev_lst ?_
                                      · refine ea_cons ?_ ?_
                                        · exact ev_str
                                        · refine ea_cons ?_ ?_
                                          · exact ev_str
                                          · exact ea_nil
                              · refine sds_cons ?_ ?_
                                · refine sd_set 16 nd ?_
                                  · refine es_of ?_
                                    · refine ev_bin od_add ?_ ?_
                                      · exact ev_name 16
                                      · refine ev_lst ?_
                                        · refine ea_cons ?_ ?_
                                          · exact ev_str
                                          · refine ea_cons ?_ ?_
                                            · exact ev_str
                                            · refine ea_cons ?_ ?_
                                              · exact ev_str
                                              · refine ea_cons ?_ ?_
                                                · exact ev_str
                                                · refine ea_cons ?_ ?_
                                                  · exact ev_str
                                                  · exact ea_nil
                                · refine sds_cons ?_ ?_
                                  · refine sd_set 16 nd ?_
                                    · refine es_of ?_
                                      · refine ev_bin od_add ?_ ?_
                                        · exact ev_name 16
                                        · refine ev_lst ?_
                                          · refine ea_cons ?_ ?_
                                            · exact ev_str
                                            · refine ea_cons ?_ ?_
                                              · exact ev_str
                                              · refine ea_cons ?_ ?_
                                                · exact ev_str
                                                · exact ea_nil
                                  · refine sds_cons ?_ ?_
                                    · refine sd_for (is := [17]) ?_ ?_ ?_ (passes_of rfl)
                                      · refine ei_any ?_
                                        · refine ev_frz ?_
                                          · refine es_callN (ok_law_pick T) hr tk T.d_law_pick.gm T.d_law_pick.F.kp T.d_law_pick.b ?_ (by first | decide | omega)
                                            · refine eg_io 1 ?_
                                              · refine eg_v ?_ ?_
                                                · exact ev_name 16
                                                · refine eg_v ?_ ?_
                                                  · exact ev_int
                                                  · exact eg_nil
                                      · exact gd_name 17 nd
                                      · refine sds_cons ?_ ?_
                                        · refine sd_set 18 nd ?_
                                          · refine es_of ?_
                                            · refine ev_bin od_add ?_ ?_
                                              · refine ev_bin od_add ?_ ?_
                                                · refine ev_slice sld ?_ ?_ ?_
                                                  · exact ev_name 12
                                                  · exact eo_none
                                                  · refine eo_some ?_
                                                    · exact ev_name 9
                                                · refine ev_lst ?_
                                                  · refine ea_cons ?_ ?_
                                                    · exact ev_name 17
                                                    · exact ea_nil
                                              · refine ev_slice sld ?_ ?_ ?_
                                                · exact ev_name 12
                                                · refine eo_some ?_
                                                  · exact ev_name 9
                                                · exact eo_none
                                        · refine sds_cons ?_ ?_
                                          · refine sd_set 19 nd ?_
                                            · refine es_of ?_
                                              · refine ev_m1 PySem.F.slot_str_join PySem.F.type_str_join md_join ?_ ?_
                                                · exact ev_str
                                                · exact ev_name 18
                                          · refine sds_one ?_
                                            · refine sd_if ?_ ?_ ?_
                                              · refine EW.et ?_
                                                · refine ew_and ?_ ?_
                                                  · refine et_cmp (od_ne hu.1) ?_ ?_
                                                    · exact ev_name 19
                                                    · exact ev_str
                                                  · refine ew_and1 ?_
                                                    · refine et_not ?_
                                                      · refine et_val ?_
                                                        · refine ev_frz ?_
                                                          · refine es_callN (ok_law_same T fuel) hr tk T.d_law_same.gm T.d_law_same.F.kp T.d_law_same.b ?_ (by first | decide | omega)
                                                            · refine eg_v ?_ ?_
                                                              · refine ev_lst ?_
                                                                · refine ea_cons ?_ ?_
                                                                  · refine ev_frz ?_
                                                                    · refine es_callN (ok_law_read T) hr tk T.d_law_read.gm T.d_law_read.F.kp T.d_law_read.b ?_ (by first | decide | omega)
                                                                      · refine eg_v ?_ ?_
                                                                        · exact ev_name 19
                                                                        · exact eg_nil
                                                                  · refine ea_cons ?_ ?_
                                                                    · refine ev_frz ?_
                                                                      · refine es_callN (ok_is_text_of_play T) hr tk T.d_is_text_of_play.gm T.d_is_text_of_play.F.kp T.d_is_text_of_play.b ?_ (by first | decide | omega)
                                                                        · refine eg_v ?_ ?_
                                                                          · exact ev_name 19
                                                                          · exact eg_nil
                                                                    · exact ea_nil
                                                              · refine eg_v ?_ ?_
                                                                · refine ev_lst ?_
                                                                  · refine ea_cons ?_ ?_
                                                                    · refine ev_tup ?_
                                                                      · refine ea_cons ?_ ?_
                                                                        · exact ev_str
                                                                        · refine ea_cons ?_ ?_
                                                                          · exact ev_name 9
                                                                          · refine ea_cons ?_ ?_
                                                                            · exact ev_bool
                                                                            · exact ea_nil
                                                                    · refine ea_cons ?_ ?_
                                                                      · exact ev_bool
                                                                      · exact ea_nil
                                                                · exact eg_nil
                                              · refine sds_one ?_
                                                · refine sd_ret ?_
                                                  · refine es_of ?_
                                                    · exact ev_bool
                                              · exact sds_nil
                                    · refine sds_one ?_
                                      · refine sd_if ?_ ?_ ?_
                                        · refine EW.et ?_
                                          · refine ew_and ?_ ?_
                                            · refine et_cmp (od_ne hu.1) ?_ ?_
                                              · exact ev_name 12
                                              · refine ev_lst ?_
                                                · exact ea_nil
                                            · refine ew_and1 ?_
                                              · refine et_not ?_
                                                · refine et_val ?_
                                                  · refine ev_frz ?_
                                                    · refine es_callN (ok_law_same T fuel) hr tk T.d_law_same.gm T.d_law_same.F.kp T.d_law_same.b ?_ (by first | decide | omega)
                                                      · refine eg_v ?_ ?_
                                                        · refine ev_frz ?_
                                                          · refine es_callN (ok_law_read T) hr tk T.d_law_read.gm T.d_law_read.F.kp T.d_law_read.b ?_ (by first | decide | omega)
                                                            · refine eg_v ?_ ?_
                                                              · refine ev_bin od_add ?_ ?_
                                                                · exact ev_name 13
                                                                · exact ev_str
                                                              · exact eg_nil
                                                        · refine eg_v ?_ ?_
                                                          · refine ev_tup ?_
                                                            · refine ea_cons ?_ ?_
                                                              · exact ev_str
                                                              · refine ea_cons ?_ ?_
                                                                · refine ev_callB cd_len (by rfl) T.b_len (by decide +kernel) ?_
                                                                  · refine ea_cons ?_ ?_
                                                                    · exact ev_name 12
                                                                    · exact ea_nil
                                                                · refine ea_cons ?_ ?_
                                                                  · exact ev_bool
                                                                  · exact ea_nil
                                                          · exact eg_nil
                                        · refine sds_one ?_
                                          · refine sd_ret ?_
                                            · refine es_of ?_
                                              · exact ev_bool
                                        · exact sds_nil
    · refine sds_cons ?_ ?_
      · refine sd_set 20 nd ?_
        · refine es_of ?_
          · refine ev_tup ?_
            · refine ea_cons ?_ ?_
              · exact ev_str
              · refine ea_cons ?_ ?_
                · refine ev_tup ?_
                  · refine ea_cons ?_ ?_
                    · refine ev_tup ?_
                      · refine ea_cons ?_ ?_
                        · exact ev_str
                        · refine ea_cons ?_ ?_
                          · exact ev_str
                          · refine ea_cons ?_ ?_
                            · exact ev_str
                            · refine ea_cons ?_ ?_
                              · exact ev_str
                              · refine ea_cons ?_ ?_
                                · refine ev_tup ?_
                                  · refine ea_cons ?_ ?_
                                    · exact ev_str
                                    · refine ea_cons ?_ ?_
                                      · exact ev_str
                                      · refine ea_cons ?_ ?_
                                        · exact ev_str
                                        · exact ea_nil
                                · exact ea_nil
                    · exact ea_nil
                · exact ea_nil
      · refine sds_one ?_
        · refine sd_ret ?_
          · refine es_callN (ok_law_same T fuel) hr tk T.d_law_same.gm T.d_law_same.F.kp T.d_law_same.b ?_ (by first | decide | omega)
            · refine eg_v ?_ ?_
              · refine ev_lst ?_
                · refine ea_cons ?_ ?_
                  · refine ev_frz ?_
                    · refine es_callN (ok_law_read T) hr tk T.d_law_read.gm T.d_law_read.F.kp T.d_law_read.b ?_ (by first | decide | omega)
                      · refine eg_v ?_ ?_
                        · exact ev_str
                        · exact eg_nil
                  · refine ea_cons ?_ ?_
                    · refine ev_frz ?_
                      · refine es_callN (ok_play_text T) hr tk T.d_play_text.gm T.d_play_text.F.kp T.d_play_text.b ?_ (by first | decide | omega)
                        · refine eg_v ?_ ?_
                          · refine ev_tup ?_
                            · exact ea_nil
                          · exact eg_nil
                    · refine ea_cons ?_ ?_
                      · refine ev_frz ?_
                        · refine es_callN (ok_is_text_of_play T) hr tk T.d_is_text_of_play.gm T.d_is_text_of_play.F.kp T.d_is_text_of_play.b ?_ (by first | decide | omega)
                          · refine eg_v ?_ ?_
                            · exact ev_str
                            · exact eg_nil
                      · refine ea_cons ?_ ?_
                        · refine ev_frz ?_
                          · refine es_callN (ok_law_read T) hr tk T.d_law_read.gm T.d_law_read.F.kp T.d_law_read.b ?_ (by first | decide | omega)
                            · refine eg_v ?_ ?_
                              · exact ev_str
                              · exact eg_nil
                        · exact ea_nil
              · refine eg_v ?_ ?_
                · refine ev_lst ?_
                  · refine ea_cons ?_ ?_
                    · refine ev_tup ?_
                      · refine ea_cons ?_ ?_
                        · exact ev_str
                        · refine ea_cons ?_ ?_
                          · refine ev_tup ?_
                            · exact ea_nil
                          · exact ea_nil
                    · refine ea_cons ?_ ?_
                      · exact ev_str
                      · refine ea_cons ?_ ?_
                        · exact ev_bool
                        · refine ea_cons ?_ ?_
                          · exact ev_name 20
                          · exact ea_nil
                · exact eg_nil

end
end DT

/-! P15: the plain law of k15 -/
namespace DT
open PySem PySem.Spec PyProof.Rows L2 DL
local macro_rules
  | `(tactic| bv_omega) => `(tactic| first
    | with_reducible refine rq_ret ?_
    | with_reducible refine rq_C ?_
    | with_reducible refine rq_sNil ?_
    | with_reducible refine cont_nx ?_
    | with_reducible refine cont_ret ?_
    | with_reducible refine rq_aNil ?_
    | with_reducible refine rq_gNil ?_
    | with_reducible refine rq_tsNil ?_
    | ((with_reducible refine rq_name' ?_); refine ⟨_, rfl, ?_⟩)
    | ((with_reducible refine rq_nameM' ?_); refine ⟨_, rfl, ?_⟩)
    | ((with_reducible refine rq_gIo' ?_); refine ⟨rfl, ?_⟩)
    | ((with_reducible refine rq_IxO' ?_); refine ⟨rfl, ?_⟩)
    | ((with_reducible refine rq_append' ?_); refine ⟨rfl, ?_⟩)
    | ((with_reducible refine rq_pop' ?_); refine ⟨rfl, ?_⟩)
    | with_reducible refine rq_seq ?_
    | with_reducible refine rq_if ?_
    | with_reducible refine rq_and ?_
    | with_reducible refine rq_or ?_
    | with_reducible refine rq_not ?_
    | with_reducible refine rq_bAnd ?_
    | with_reducible refine rq_bOr ?_
    | with_reducible refine rq_bNot ?_
    | with_reducible refine rq_frz ?_
    | with_reducible refine rq_call ?_
    | with_reducible refine rq_set ?_
    | with_reducible refine rq_par ?_
    | with_reducible refine rq_setIx ?_
    | with_reducible refine rq_Bin ?_
    | with_reducible refine rq_Test ?_
    | with_reducible refine rq_Truth ?_
    | with_reducible refine rq_Call ?_
    | with_reducible refine rq_aCons ?_
    | with_reducible refine rq_aStar ?_
    | with_reducible refine rq_Tup ?_
    | with_reducible refine rq_Lst ?_
    | with_reducible refine rq_sLst ?_
    | with_reducible refine rq_sV ?_
    | with_reducible refine rq_sRet ?_
    | with_reducible refine rq_Isi ?_
    | with_reducible refine rq_Meth ?_
    | with_reducible refine rq_Slice ?_
    | with_reducible refine rq_oInt ?_
    | with_reducible refine rq_Chain ?_
    | with_reducible refine rq_gV ?_
    | with_reducible refine rq_iAny ?_
    | with_reducible refine rq_iEnum ?_
    | with_reducible refine rq_iZip ?_
    | with_reducible refine rq_LenO' ?_
    | with_reducible refine rq_SD ?_
    | with_reducible refine rq_iRange ?_
    | with_reducible refine rq_listOf ?_
    | with_reducible refine rq_cat ?_
    | with_reducible refine rq_orT ?_
    | with_reducible refine rq_asg ?_
    | with_reducible refine rq_tsCons ?_
    | with_reducible refine rq_tTup ?_
    | with_reducible refine rq_tLst ?_
    | refine yes rfl ?_
    | refine noo rfl ?_
    | refine yes (by decide +kernel) ?_
    | refine noo (by decide +kernel) ?_
    | with_reducible refine ⟨_, gAdd_ii, ?_⟩
    | ((with_reducible refine ⟨_, gIn_t2 ?_ ?_ ?_, ?_⟩); (· decide +kernel); (· decide +kernel); (· decide +kernel))
    | ((with_reducible refine ⟨_, gEq_ss ?_ ?_, ?_⟩); (· decide +kernel); (· decide +kernel))
    | with_reducible refine ⟨_, gSub_ii, ?_⟩
    | with_reducible refine ⟨_, gGt_ii, ?_⟩
    | with_reducible refine ⟨_, gGe_ii, ?_⟩
    | with_reducible refine ⟨_, gLe_ii, ?_⟩
    | with_reducible refine ⟨_, gLt_ii, ?_⟩
    | with_reducible refine ⟨_, gLt_ss, ?_⟩
    | with_reducible refine ⟨_, cLen_l, ?_⟩
    | with_reducible refine ⟨_, cLen_t, ?_⟩
    | with_reducible refine ⟨_, cInt_i, ?_⟩
    | with_reducible refine ⟨_, cInt_b, ?_⟩
    | with_reducible refine ⟨_, cAbs_i, ?_⟩
    | ((with_reducible refine ⟨_, gMod_ii ?_, ?_⟩); · decide)
    | ((with_reducible refine ⟨_, gDiv_ii ?_, ?_⟩); · decide)
    | ((with_reducible refine ⟨_, gMul_ii ?_, ?_⟩); · first | exact .inl (by decide) | exact .inr (by decide))
    | refine ⟨_, rfl, ?_⟩
    | refine ⟨_, _, _, rfl, rfl, rfl, ?_⟩
    | refine ⟨rfl, _, _, rfl, ?_⟩
    | refine ⟨rfl, ?_⟩
    | (refine free_at rfl ?_ ?_; · first | exact np_none | exact np_v | exact np_m | assumption)
    | with_reducible refine rq_tName' ?_
    | refine ⟨Nat.le_of_ble_eq_true rfl, ?_⟩
    | refine .inl ⟨_, rfl, ?_⟩
    | refine .inr ⟨_, rfl, ?_⟩
    | refine .inr (.inl ⟨_, rfl, ?_⟩)
    | refine .inr (.inr ⟨_, rfl, ?_⟩)
    | refine ⟨_, _, rfl, rfl, ?_⟩)
def inL (c : Nat) : Bool := false != !(Builtin.Str.occurrences ("abcdefghijklmnopqrstuvwxyz" : Str) ⟨#[c]⟩ 0 (Str.length "abcdefghijklmnopqrstuvwxyz") 1).isEmpty
def nameB (s : Str) : Bool := decide (1 ≤ (s.length : Int)) && decide ((s.length : Int) ≤ 8) && s.cps.toList.all inL
theorem toBools_map {f : D → Bool} : ∀ ds : List D, toBools (ds.map fun d => .bool (f d)) = some (ds.map f)
  | [] => rfl
  | d :: ds => by
    show (toBools (ds.map fun d => .bool (f d))).map _ = _
    rw [toBools_map ds]; rfl
theorem cAll_map {f : D → Bool} {ds : List D} : cAll false [.list (ds.map fun d => .bool (f d))] = some (.bool (ds.all f)) := by
  show (toBools _).map _ = _
  rw [toBools_map]
  show some (PyData.bool (if false = true then _ else (ds.map f).all id)) = _
  simp
theorem chars_map (s : Str) (f : Nat → Bool) (g : D → Bool) (h : ∀ c, g (.str ⟨#[c]⟩) = f c) : (s.cps.toList.map fun c => PyData.str ⟨#[c]⟩).all g = s.cps.toList.all f := by
  rw [List.all_map]
  congr 1
  funext c
  exact h c
def inD : D → Bool
  | .str ⟨#[c]⟩ => inL c
  | _ => false
theorem is_name_str {s : Str} (hs : s.length ≤ sizeLine) : g_is_name [.v (.str s)] = .ok (.v (.bool (nameB s))) none := by
  refine FQ.eq (fq_run ?_)
  show Rq (m_is_name [some (.v (.str s)), none]) _
  unfold m_is_name
  repeat bv_omega
  refine ⟨_, cLen_s hs, ?_⟩
  repeat bv_omega
  refine ⟨fun h1 => ?_, fun h1 => ?_⟩
  · repeat bv_omega
    refine ⟨fun h2 => ?_, fun h2 => ?_⟩
    · repeat bv_omega
      refine ⟨?_, rfl⟩
      have h2' : decide ((s.length : Int) ≤ 8) = false := by simpa using h2
      unfold nameB
      rw [h2']; simp
    · repeat bv_omega
      refine rq_comp1 (fun _ => true) (fun d => .bool (inD d)) ?_
      repeat bv_omega
      refine ⟨?_, fun d hd => ?_, ?_⟩
      · rw [List.length_map, Array.length_toList]; exact hs
      · obtain ⟨c, hc, rfl⟩ := List.mem_map.mp hd
        refine ⟨.ok ⟨rfl, rfl⟩, fun _ => ?_⟩
        repeat bv_omega
      · repeat bv_omega
        refine ⟨_, cAll_map, ?_⟩
        repeat bv_omega
        refine ⟨?_, rfl⟩
        have h2' : decide ((s.length : Int) ≤ 8) = true := by simpa using h2
        unfold nameB
        rw [h1, h2', List.filter_eq_self.mpr (fun _ _ => rfl), chars_map s inL inD fun c => rfl]
        rfl
  · repeat bv_omega
    refine ⟨?_, rfl⟩
    unfold nameB
    rw [h1]; simp

/-! ### draws -/
def TinOk (N : Nat) (l : List D) : Prop := ∃ a b c : Int, l = [.int a, .int b, .int c] ∧ 0 ≤ c ∧ c ≤ N
theorem TinOk.mono {N M : Nat} {l : List D} (h : TinOk N l) (k : N ≤ M) : TinOk M l := by
  obtain ⟨a, b, c, e, h1, h2⟩ := h
  exact ⟨a, b, c, e, h1, by omega⟩
theorem take_spec {N : Nat} {l : List D} (h : TinOk N l) (hN : N < 2 ^ 60) {n : Int} (hn : 0 < n) (hn2 : n < 1073741824) :
    FQ (g_law_take [.p l, .v (.int n)]) (fun s o => ∃ (m : Nat) (l' : List D), s = .v (.int m) ∧ o = some l' ∧ (m : Int) < n ∧ TinOk (N + 1) l') := by
  obtain ⟨a, b, c, rfl, h1, h2⟩ := h
  refine fq_run ?_
  show Rq (m_law_take [some (.p [.int a, .int b, .int c]), some (.v (.int n)), none, none, none, none]) _
  unfold m_law_take
  repeat bv_omega
  refine ⟨fun h0 => ?_, fun h0 => ?_⟩
  · repeat bv_omega
    refine ⟨_, gMod_ii hn, ?_⟩
    repeat bv_omega
    refine ⟨_, gDiv_ii ⟨hn, hn2⟩, ?_⟩
    repeat bv_omega
    have e1 : 0 ≤ a % n := Int.emod_nonneg _ (by omega)
    have e2 : a % n < n := Int.emod_lt_of_pos _ hn
    exact ⟨(a % n).toNat, _, by rw [Int.toNat_of_nonneg e1], rfl, by rw [Int.toNat_of_nonneg e1]; exact e2, _, _, _, rfl, h1, by omega⟩
  · repeat bv_omega
    refine ⟨_, gMul_ii (.inr ⟨by omega, by omega⟩), ?_⟩
    repeat bv_omega
    refine ⟨_, gMul_ii (.inr ⟨by omega, by omega⟩), ?_⟩
    repeat bv_omega
    refine ⟨_, gMod_ii hn, ?_⟩
    repeat bv_omega
    generalize hx : _ % n = x
    have e1 : 0 ≤ x := by rw [← hx]; exact Int.emod_nonneg _ (by omega)
    have e2 : x < n := by rw [← hx]; exact Int.emod_lt_of_pos _ hn
    exact ⟨x.toNat, _, by rw [Int.toNat_of_nonneg e1], rfl, by rw [Int.toNat_of_nonneg e1]; exact e2, _, _, _, rfl, by omega, by omega⟩
theorem of_spec {N : Nat} {l : List D} (h : TinOk N l) (hN : N < 2 ^ 60) {ds : List D} (h0 : ds ≠ []) (h1 : ds.length < 1073741824) :
    FQ (g_law_of [.p l, .v (.list ds)]) (fun s o => ∃ d l', s = .v d ∧ o = some l' ∧ d ∈ ds ∧ TinOk (N + 1) l') := by
  refine fq_run ?_
  show Rq (m_law_of [some (.p l), some (.v (.list ds))]) _
  unfold m_law_of
  repeat bv_omega
  have hl : 0 < ds.length := List.length_pos_iff.mpr h0
  refine (take_spec h hN (n := (ds.length : Int)) (by omega) (by omega)).imp ?_
  rintro s o ⟨m, l', rfl, rfl, hm, ht⟩
  repeat bv_omega
  obtain ⟨d, hd⟩ : ∃ d, ds[m]? = some d := ⟨ds[m], List.getElem?_eq_getElem (by omega)⟩
  refine ⟨_, gIx_l hd, ?_⟩
  repeat bv_omega
  exact ⟨List.mem_of_getElem? hd, ht⟩
theorem box_spec {z : Int} : FQ (g_law_box [.v (.list [.int z]), .v (.int 0)]) (fun s o => ∃ l, s = .m l ∧ o = none ∧ TinOk 0 l) := by
  refine fq_run ?_
  show Rq (m_law_box [some (.v (.list [.int z])), some (.v (.int 0)), none]) _
  unfold m_law_box
  repeat bv_omega
  refine ⟨_, gMul_ii (.inr (by split <;> omega)), ?_⟩
  repeat bv_omega
  exact ⟨_, _, _, rfl, by omega, by omega⟩
theorem cells_spec {ns : List Int} (hl : ns.length ≤ 63) : FQ (g_law_cells [.v (.list (ns.map .int)), .v (.int 1)]) (fun s o => ∃ z : Int, s = .v (.list [.int z]) ∧ o = none) := by
  refine fq_run ?_
  show Rq (m_law_cells [some (.v (.list (ns.map .int))), some (.v (.int 1)), none, none, none, none]) _
  unfold m_law_cells
  refine rq_seq (rq_set ?_)
  have key : Rq (sOrT (sListOf (dSlice gSl (dName 0) (DL.ret none) (oInt (dName 1)))) (sLst (aCons (dC (.int 0)) aNil)) [some (.v (.list (ns.map .int))), some (.v (.int 1)), none, none, none, none]) (fun s r => (∃ z : Int, s = .m [.int z]) ∧ r = [some (.v (.list (ns.map .int))), some (.v (.int 1)), none, none, none, none]) := by
    cases ns with
    | nil =>
      repeat bv_omega
      exact ⟨⟨_, rfl⟩, rfl⟩
    | cons n ns =>
      repeat bv_omega
      refine ⟨⟨n, ?_⟩, rfl⟩
      have e : (1 : Nat) ≤ (n :: ns).length := by simp
      show Slot.m (((PyData.int n :: ns.map PyData.int).drop 0).take (HT.sIx (PyData.int n :: ns.map PyData.int).length (PyData.int n :: ns.map PyData.int).length (some 1) - 0)) = _
      have e1 : HT.sIx (PyData.int n :: ns.map PyData.int).length (PyData.int n :: ns.map PyData.int).length (some 1) = 1 := by
        unfold HT.sIx
        simp
        try omega
      rw [e1]; rfl
  refine key.imp ?_
  rintro s r ⟨⟨z, rfl⟩, rfl⟩
  repeat bv_omega
  refine rq_for (fun _ r => ∃ (x : Int) (a b c : Option Slot), r = [some (.v (.list (ns.map .int))), some (.v (.int 1)), some (.m [.int x]), a, b, c] ∧ NP a ∧ NP b ∧ NP c) ?_
  repeat bv_omega
  refine ⟨⟨z, none, none, none, rfl, np_none, np_none, np_none⟩, fun pre d post r e hI => ?_, fun r hI => ?_⟩
  · obtain ⟨x, a, b, c, rfl, ha, hb, hc⟩ := hI
    have hd : d ∈ List.mapIdx (fun i d => PyData.tuple [PyData.int i, d]) (DL.cutD (List.map PyData.int ns) (some 1) (some 63)) := by rw [e]; simp
    obtain ⟨i, hi, rfl⟩ := List.mem_mapIdx.mp hd
    have hi2 : i < 63 := by
      have := cut_len (xs := List.map PyData.int ns) (lo := some 1) (hi := some 63)
      rw [List.length_map] at this
      omega
    obtain ⟨y, _, ey⟩ := List.mem_map.mp (cut_mem (List.getElem_mem hi))
    rw [← ey]
    repeat bv_omega
    rw [Int.emod_one]
    repeat bv_omega
    refine ⟨_, gMul_ii (.inr ⟨by omega, by omega⟩), ?_⟩
    repeat bv_omega
    exact ⟨_, _, _, _, rfl, np_v, np_v, np_v⟩
  · obtain ⟨x, a, b, c, rfl, ha, hb, hc⟩ := hI
    repeat bv_omega

theorem pick_spec {N : Nat} {l : List D} (h : TinOk N l) (hN : N < 2 ^ 59) {ds : List D} (h1 : ds.length < 1073741824) (h6 : 6 ≤ ds.length) :
    FQ (g_law_pick [.p l, .v (.list ds), .v (.int 6)]) (fun s o => ∃ fs l', s = .v (.list fs) ∧ o = some l' ∧ (∀ d ∈ fs, d ∈ ds) ∧ TinOk (N + 6) l') := by
  refine fq_run ?_
  show Rq (m_law_pick [some (.p l), some (.v (.list ds)), some (.v (.int 6)), none, none, none]) _
  unfold m_law_pick
  repeat bv_omega
  refine rq_for (fun pre r => ∃ (tin pool found : List D) (x : Option Slot), r = [some (.p tin), some (.v (.list ds)), some (.v (.int 6)), some (.m pool), some (.m found), x] ∧ NP x ∧ TinOk (N + pre.length) tin ∧ pool.length + pre.length = ds.length ∧ (∀ d ∈ pool, d ∈ ds) ∧ (∀ d ∈ found, d ∈ ds) ∧ found.length = pre.length) ?_
  repeat bv_omega
  have e6 : (if (ds.length : Int) < 6 then (ds.length : Int) else 6) = 6 := if_neg (by omega)
  rw [e6]
  refine ⟨by decide, by decide, ⟨l, ds, [], none, rfl, np_none, h, rfl, fun d hd => hd, fun d hd => (by cases hd), rfl⟩, fun pre d post r e hI => ?_, fun r hI => ?_⟩
  · obtain ⟨tin, pool, found, x, rfl, hx, ht, hp, hp1, hf1, hf2⟩ := hI
    have hpre : pre.length < 6 := by
      have := congrArg List.length e
      simp at this
      omega
    repeat bv_omega
    have hpl : 0 < pool.length := by omega
    refine (take_spec ht (by omega) (n := (pool.length : Int)) (by omega) (by omega)).imp ?_
    rintro s o ⟨m, l', rfl, rfl, hm, ht'⟩
    repeat bv_omega
    obtain ⟨d, hd⟩ : ∃ d, pool[m]? = some d := ⟨pool[m], List.getElem?_eq_getElem (by omega)⟩
    refine ⟨_, m, d, rfl, rfl, by omega, hd, ?_⟩
    refine ⟨_, rfl, ?_, ?_⟩
    · rw [hf2, sizeLine_eq]; omega
    refine ⟨_, _, _, _, rfl, np_v, ?_, ?_, fun z hz => hp1 z (List.mem_of_mem_eraseIdx hz), fun z hz => ?_, ?_⟩
    · rw [List.length_append]; exact ht'
    · rw [List.length_eraseIdx_of_lt (by omega), List.length_append]
      simp
      omega
    · rcases List.mem_append.mp hz with hz | hz
      · exact hf1 z hz
      · rw [List.mem_singleton.mp hz]; exact hp1 d (List.mem_of_getElem? hd)
    · rw [List.length_append, List.length_append, hf2]; rfl
  · obtain ⟨tin, pool, found, x, rfl, hx, ht, hp, hp1, hf1, hf2⟩ := hI
    repeat bv_omega
    refine ⟨hf1, ?_⟩
    have : ((List.range (Int.toNat 6)).map fun i => PyData.int (0 + (i : Nat))).length = 6 := rfl
    rw [this] at ht
    exact ht

/-! ### sets -/
theorem set_run {x : D} {ds : List D} {T : List D} (hx : x = .list ds ∨ x = .tuple ds) (hl : ds.length ≤ sizeLine) (h : sortedDict (.list (ds.map fun d => .tuple [d, .int 1])) = some (.list T)) : g_law_set [.v x] = .ok (.v (.tuple T)) none := by
  refine FQ.eq (fq_run ?_)
  show Rq (m_law_set [some (.v x), none]) _
  unfold m_law_set
  have key : Rq (sComp [1] (iAny (dName 0)) (tName 1) (DL.ret true) (dTup (aCons (dName 1) (aCons (dC (.int 1)) aNil))) [some (.v x), none]) (fun s r => s = .m (ds.map fun d => .tuple [d, .int 1]) ∧ r = [some (.v x), none]) := by
    refine rq_comp1 (fun _ => true) (fun d => .tuple [d, .int 1]) ?_
    rcases hx with rfl | rfl
    all_goals
      repeat bv_omega
      refine ⟨hl, fun d hd => ⟨.ok ⟨rfl, rfl⟩, fun _ => ?_⟩, ?_, rfl⟩
      · repeat bv_omega
      · rw [List.filter_eq_self.mpr (fun _ _ => rfl)]
  repeat bv_omega
  refine key.imp ?_
  rintro s r ⟨rfl, rfl⟩
  repeat bv_omega
  refine ⟨_, h, ?_⟩
  repeat bv_omega
theorem law_set_strs {x : D} {ss : List Str} (hx : x = .list (ss.map .str) ∨ x = .tuple (ss.map .str)) (hl : ss.length ≤ sizeLine) :
    ∃ T : List Str, g_law_set [.v x] = .ok (.v (.tuple (T.map .str))) none ∧ (∀ y, y ∈ T ↔ y ∈ ss) ∧ T.length ≤ ss.length ∧ T.Pairwise (fun a b => a.cps.toList < b.cps.toList) := by
  obtain ⟨T, h1, h2, h3, h4⟩ := set_strs ss
  exact ⟨T, set_run hx (by rw [List.length_map]; exact hl) h1, h2, h3, h4⟩
theorem law_set_rows {x : D} {ts : List (List Str)} (hx : x = .list (ts.map rowD) ∨ x = .tuple (ts.map rowD)) (hl : ts.length ≤ sizeLine) (h : ∀ t ∈ ts, t ≠ []) :
    ∃ T : List (List Str), g_law_set [.v x] = .ok (.v (.tuple (T.map rowD))) none ∧ (∀ y, y ∈ T ↔ y ∈ ts) ∧ T.length ≤ ts.length := by
  obtain ⟨T, h1, h2, h3⟩ := set_rows ts h
  exact ⟨T, set_run hx (by rw [List.length_map]; exact hl) h1, h2, h3⟩
/-! ### names -/
def Nm (s : Str) : Prop := nameB s = true ∧ PyData.strOk s = true
theorem Nm.len {s : Str} (h : Nm s) : s.length ≤ 8 := by
  have h := h.1
  unfold nameB at h
  simp only [Bool.and_eq_true, decide_eq_true_eq] at h
  omega
theorem Nm.small {s : Str} (h : Nm s) : s.length ≤ sizeLine := by have := h.len; rw [sizeLine_eq]; omega
theorem Nm.pos {s : Str} (h : Nm s) : 1 ≤ s.length := by
  have h := h.1
  unfold nameB at h
  simp only [Bool.and_eq_true, decide_eq_true_eq] at h
  omega
theorem Nm.ltr {s : Str} (h : Nm s) : ∀ c ∈ s.cps.toList, inL c = true := by
  have h := h.1
  unfold nameB at h
  simp only [Bool.and_eq_true, decide_eq_true_eq, List.all_eq_true] at h
  exact h.2
theorem Nm.is {s : Str} (h : Nm s) : g_is_name [.v (.str s)] = .ok (.v (.bool true)) none := by rw [is_name_str h.small, h.1]
theorem not_sp : inL 32 = false := by decide +kernel
theorem not_comma : inL 44 = false := by decide +kernel
theorem not_nl : inL 10 = false := by decide +kernel
theorem Nm.no {s : Str} (h : Nm s) {c : Nat} (hc : inL c = false) : c ∉ s.cps.toList := fun z => by rw [h.ltr c z] at hc; cases hc
def isNmD : D → Bool
  | .str s => nameB s
  | _ => false
theorem all_strs {T : List Str} : (T.map PyData.str).all isNmD = T.all nameB := by
  rw [List.all_map]; rfl
def ltD : D → Bool
  | .tuple [.str a, .str b] => decide (a.cps.toList < b.cps.toList)
  | _ => false
theorem zip_next : ∀ {T : List Str}, T.Pairwise (fun a b => a.cps.toList < b.cps.toList) → (zipD (T.map .str) ((T.map .str).drop 1)).all ltD = true
  | [], _ => rfl
  | [a], _ => rfl
  | a :: b :: T, h => by
    rw [List.pairwise_cons] at h
    have ih := zip_next h.2
    have h1 := h.1 b (List.mem_cons_self ..)
    show (ltD (.tuple [.str a, .str b]) && (zipD ((b :: T).map .str) (((b :: T).map .str).drop 1)).all ltD) = true
    rw [ih]
    show (decide (a.cps.toList < b.cps.toList) && true) = true
    rw [decide_eq_true h1]; rfl
theorem rises_ok {T : List Str} (hl : T.length ≤ 1000) (h : T.Pairwise (fun a b => a.cps.toList < b.cps.toList)) : g_rises [.v (.tuple (T.map .str))] = .ok (.v (.bool true)) none := by
  refine FQ.eq (fq_run ?_)
  show Rq (m_rises [some (.v (.tuple (T.map .str))), none, none]) _
  unfold m_rises
  repeat bv_omega
  refine rq_comp (fun pre acc r => ((r = [some (.v (.tuple (T.map .str))), none, none]) ∨ ∃ d e : D, r = [some (.v (.tuple (T.map .str))), some (.v d), some (.v e)]) ∧ acc = pre.map fun d => .bool (ltD d)) ?_
  repeat bv_omega
  have e1 : DL.cutD (T.map PyData.str) (some 1) none = (T.map .str).drop 1 := by
    unfold DL.cutD
    have : HT.sIx (T.map PyData.str).length 0 (some 1) = min 1 (T.map PyData.str).length := HT.sIx_nat _ _ 1
    rw [this, HT.sIx_none]
    cases T with
    | nil => rfl
    | cons a T =>
      have : min 1 ((a :: T).map PyData.str).length = 1 := by simp
      rw [this]
      rw [← List.length_drop, List.take_length]
  refine ⟨_, _, .inr ⟨rfl, rfl⟩, ?_⟩
  rw [e1]
  have hz : ∀ d ∈ zipD (T.map .str) ((T.map .str).drop 1), ∃ a b : Str, d = .tuple [.str a, .str b] := fun d hd => by
    obtain ⟨p, hp, rfl⟩ := List.mem_map.mp hd
    have h1 := List.of_mem_zip hp
    obtain ⟨a, _, ea⟩ := List.mem_map.mp h1.1
    obtain ⟨b, _, eb⟩ := List.mem_map.mp (List.mem_of_mem_drop h1.2)
    exact ⟨a, b, by rw [← ea, ← eb]⟩
  have hzl : (zipD (T.map .str) ((T.map .str).drop 1)).length ≤ 1000 := by
    unfold zipD
    rw [List.length_map, List.length_zip, List.length_map]
    omega
  refine ⟨rfl, ⟨.inl rfl, rfl⟩, fun pre d post acc r e ⟨hr, ha⟩ => ?_, fun acc r ⟨hr, ha⟩ => ?_⟩
  · obtain ⟨a, b, rfl⟩ := hz d (by rw [e]; simp)
    have hlen : acc.length < sizeLine := by
      have := congrArg List.length e
      rw [List.length_append, List.length_cons] at this
      rw [ha, List.length_map, sizeLine_eq]
      omega
    have hw : wipeR r [1, 2] = [some (.v (.tuple (T.map .str))), none, none] := by
      rcases hr with rfl | ⟨d, e, rfl⟩ <;> rfl
    refine ⟨by rcases hr with rfl | ⟨d, e, rfl⟩ <;> rfl, ?_⟩
    rw [hw]
    repeat bv_omega
    exact ⟨hlen, .inr ⟨_, _, rfl⟩, by rw [ha, List.map_append]; rfl⟩
  · have hq : restR [some (.v (.tuple (T.map .str))), none, none] r [1, 2] = [some (.v (.tuple (T.map .str))), none, none] := by
      rcases hr with rfl | ⟨d, e, rfl⟩ <;> rfl
    refine ⟨by rcases hr with rfl | ⟨d, e, rfl⟩ <;> rfl, ?_⟩
    rw [hq, ha]
    repeat bv_omega
    refine ⟨_, cAll_map, ?_⟩
    rw [zip_next h]
    repeat bv_omega
theorem is_names_ok {T : List Str} (hl : T.length ≤ 1000) (hn : ∀ s ∈ T, Nm s) (h : T.Pairwise (fun a b => a.cps.toList < b.cps.toList)) : g_is_names [.v (.tuple (T.map .str))] = .ok (.v (.bool true)) none := by
  refine FQ.eq (fq_run ?_)
  show Rq (m_is_names [some (.v (.tuple (T.map .str))), none]) _
  unfold m_is_names
  repeat bv_omega
  refine rq_comp1 (fun _ => true) (fun d => .bool (isNmD d)) ?_
  repeat bv_omega
  refine ⟨by rw [List.length_map, sizeLine_eq]; omega, fun d hd => ?_, ?_⟩
  · obtain ⟨s, hs, rfl⟩ := List.mem_map.mp hd
    refine ⟨.ok ⟨rfl, rfl⟩, fun _ => ?_⟩
    repeat bv_omega
    refine fq_of (is_name_str (hn s hs).small) ?_
    repeat bv_omega
  · rw [List.filter_eq_self.mpr (fun _ _ => rfl)]
    repeat bv_omega
    refine ⟨_, cAll_map, ?_⟩
    rw [all_strs, List.all_eq_true.mpr fun s hs => (hn s hs).1]
    repeat bv_omega
    refine fq_of (rises_ok hl h) ?_
    repeat bv_omega

/-! ### moves -/
structure Rts (T : List Str) : Prop where
  nm : ∀ s ∈ T, Nm s
  st : T.Pairwise (fun a b => a.cps.toList < b.cps.toList)
  len : T.length ≤ 4
inductive Mv : D → Prop where
  | look {a b : Str} : Nm a → Nm b → Mv (.tuple [.str "look", .str a, .str b])
  | tell {a b : Str} : Nm a → Nm b → Mv (.tuple [.str "tell", .str a, .str b])
  | take {a b c d : Str} : Nm a → Nm b → Nm c → Nm d → Mv (.tuple [.str "take", .str a, .str b, .str c, .str d])
  | hand {a b c d : Str} : Nm a → Nm b → Nm c → Nm d → Mv (.tuple [.str "hand", .str a, .str b, .str c, .str d])
  | person {a b : Str} {T : List Str} : Nm a → Nm b → Rts T → Mv (.tuple [.str "make", .str a, .str b, .str "person", .tuple (T.map .str)])
  | thing {a b : Str} {T : List Str} : Nm a → Nm b → Rts T → Mv (.tuple [.str "make", .str a, .str b, .str "thing", .tuple (T.map .str)])
def isActD : D → Bool
  | .tuple [_, _, _] => true
  | _ => false
theorem act_ok {m : D} (h : Mv m) : g_is_act [.v m] = .ok (.v (.bool (isActD m))) none := by
  refine FQ.eq (fq_run ?_)
  show Rq (m_is_act [some (.v m)]) _
  unfold m_is_act
  cases h with
  | look h1 h2 | tell h1 h2 =>
    repeat bv_omega
    refine fq_of h1.is ?_
    repeat bv_omega
    refine fq_of h2.is ?_
    repeat bv_omega
  | take h1 h2 h3 h4 | hand h1 h2 h3 h4 => repeat bv_omega
  | person h1 h2 h3 | thing h1 h2 h3 => repeat bv_omega
theorem deed_ok {m : D} (h : Mv m) : g_is_deed [.v m] = .ok (.v (.bool (!isActD m))) none := by
  refine FQ.eq (fq_run ?_)
  show Rq (m_is_deed [some (.v m)]) _
  unfold m_is_deed
  cases h with
  | look h1 h2 | tell h1 h2 => repeat bv_omega
  | take h1 h2 h3 h4 | hand h1 h2 h3 h4 =>
    repeat bv_omega
    refine fq_of h1.is ?_
    repeat bv_omega
    refine fq_of h2.is ?_
    repeat bv_omega
    refine fq_of h3.is ?_
    repeat bv_omega
    refine fq_of h4.is ?_
    repeat bv_omega
  | person h1 h2 h3 | thing h1 h2 h3 =>
    repeat bv_omega
    refine fq_of h1.is ?_
    repeat bv_omega
    refine fq_of h2.is ?_
    repeat bv_omega
    refine fq_of (is_names_ok (by have := h3.len; omega) h3.nm h3.st) ?_
    repeat bv_omega
theorem move_ok {m : D} (h : Mv m) : g_is_move [.v m] = .ok (.v (.bool true)) none := by
  refine FQ.eq (fq_run ?_)
  show Rq (m_is_move [some (.v m)]) _
  unfold m_is_move
  repeat bv_omega
  refine fq_of (act_ok h) ?_
  repeat bv_omega
  refine ⟨fun e => ?_, fun e => ?_⟩
  · repeat bv_omega
  · repeat bv_omega
    refine fq_of (deed_ok h) ?_
    rw [e]
    repeat bv_omega

/-! ### lines -/
def rtext (T : List Str) : Str := if T = [] then "-" else Txt.join "," T
def strsOf (ds : List D) : List Str := (toStrs ds).getD []
def wordsOf : D → List Str
  | .tuple [.str k, .str a, .str b] => [k, a, b]
  | .tuple [.str k, .str a, .str b, .str c, .str d] => [k, a, b, c, d]
  | .tuple [.str k, .str a, .str b, .str c, .tuple ds] => [k, a, b, c, rtext (strsOf ds)]
  | _ => []
def lineOf (m : D) : Str := Txt.join " " (wordsOf m)
theorem strsOf_map (T : List Str) : strsOf (T.map .str) = T := by unfold strsOf; rw [toStrs_map]; rfl
theorem rtext_len {T : List Str} (h : Rts T) : (rtext T).length ≤ 40 := by
  unfold rtext
  split
  · decide +kernel
  · have h1 := join_len "," T
    have h2 := textSum_le (ss := T) (k := 8) fun s hs => (h.nm s hs).len
    have h3 := h.len
    have h4 : Str.length "," = 1 := by decide +kernel
    rw [h4] at h1
    omega
structure Wd (s : Str) : Prop where
  len : s.length ≤ 40
  ok : PyData.strOk s = true
  sp : 32 ∉ s.cps.toList
  nl : 10 ∉ s.cps.toList
theorem Nm.wd {s : Str} (h : Nm s) : Wd s := ⟨by have := h.len; omega, h.2, h.no not_sp, h.no not_nl⟩
theorem rtext_wd {T : List Str} (h : Rts T) : Wd (rtext T) := by
  refine ⟨rtext_len h, ?_, ?_, ?_⟩
  · unfold rtext
    split
    · decide +kernel
    · exact ok_join (by decide +kernel) fun p hp => (h.nm p hp).2
  · unfold rtext
    split
    · decide +kernel
    · intro hc
      rcases join_mem hc with h1 | ⟨p, hp, h1⟩
      · revert h1; decide +kernel
      · exact (h.nm p hp).no not_sp h1
  · unfold rtext
    split
    · decide +kernel
    · intro hc
      rcases join_mem hc with h1 | ⟨p, hp, h1⟩
      · revert h1; decide +kernel
      · exact (h.nm p hp).no not_nl h1
theorem kw_wd {s : Str} (h : s ∈ (["look", "tell", "take", "hand", "make", "person", "thing"] : List Str)) : Wd s := by
  have all : ∀ s ∈ (["look", "tell", "take", "hand", "make", "person", "thing"] : List Str), decide (s.length ≤ 40) = true ∧ PyData.strOk s = true ∧ decide (32 ∉ s.cps.toList) = true ∧ decide (10 ∉ s.cps.toList) = true := by decide +kernel
  obtain ⟨h1, h2, h3, h4⟩ := all s h
  exact ⟨of_decide_eq_true h1, h2, of_decide_eq_true h3, of_decide_eq_true h4⟩
theorem words_wd {m : D} (h : Mv m) : (∀ s ∈ wordsOf m, Wd s) ∧ wordsOf m ≠ [] ∧ (wordsOf m).length ≤ 5 := by
  cases h with
  | look h1 h2 | tell h1 h2 =>
    refine ⟨fun s hs => ?_, by simp [wordsOf], by simp [wordsOf]⟩
    simp only [wordsOf, List.mem_cons, List.not_mem_nil, or_false] at hs
    rcases hs with rfl | rfl | rfl
    · exact kw_wd (by simp)
    · exact h1.wd
    · exact h2.wd
  | take h1 h2 h3 h4 | hand h1 h2 h3 h4 =>
    refine ⟨fun s hs => ?_, by simp [wordsOf], by simp [wordsOf]⟩
    simp only [wordsOf, List.mem_cons, List.not_mem_nil, or_false] at hs
    rcases hs with rfl | rfl | rfl | rfl | rfl
    · exact kw_wd (by simp)
    · exact h1.wd
    · exact h2.wd
    · exact h3.wd
    · exact h4.wd
  | person h1 h2 h3 | thing h1 h2 h3 =>
    refine ⟨fun s hs => ?_, by simp [wordsOf], by simp [wordsOf]⟩
    simp only [wordsOf, List.mem_cons, List.not_mem_nil, or_false] at hs
    rcases hs with rfl | rfl | rfl | rfl | rfl
    · exact kw_wd (by simp)
    · exact h1.wd
    · exact h2.wd
    · exact kw_wd (by simp)
    · rw [strsOf_map]; exact rtext_wd h3
theorem words_sum {m : D} (h : Mv m) : textSum (wordsOf m) ≤ 200 := by
  obtain ⟨h1, _, h3⟩ := words_wd h
  have := textSum_le (ss := wordsOf m) (k := 40) fun s hs => (h1 s hs).len
  omega
theorem line_join {m : D} (h : Mv m) : mJoin (.str " ") [.list ((wordsOf m).map .str)] = some (.str (lineOf m)) ∧ mJoin (.str " ") [.tuple ((wordsOf m).map .str)] = some (.str (lineOf m)) := by
  have h1 := words_sum h
  have h2 := (words_wd h).2.2
  have h4 : Str.length " " = 1 := by decide +kernel
  exact ⟨mJoin_l (by rw [h4]; omega), mJoin_t (by rw [h4]; omega)⟩
theorem line_split {m : D} (h : Mv m) : mSplit (.str (lineOf m)) [.str " "] = some (.list ((wordsOf m).map .str)) := by
  obtain ⟨h1, h2, h3⟩ := words_wd h
  have h4 := words_sum h
  exact split_back (c := 32) (by decide +kernel) (by omega) h2 (fun p hp => (h1 p hp).sp) (by rw [sizeLine_eq]; omega)
theorem line_len {m : D} (h : Mv m) : (lineOf m).length ≤ 210 := by
  have h1 := words_sum h
  have h2 := (words_wd h).2.2
  have h3 := join_len " " (wordsOf m)
  have h4 : Str.length " " = 1 := by decide +kernel
  rw [h4] at h3
  show (Txt.join " " (wordsOf m)).length ≤ 210
  omega
theorem line_nl {m : D} (h : Mv m) : 10 ∉ (lineOf m).cps.toList := fun hc => by
  rcases join_mem hc with h1 | ⟨p, hp, h1⟩
  · revert h1; decide +kernel
  · exact ((words_wd h).1 p hp).nl h1
theorem rtext_dash {T : List Str} (h : Rts T) : (rtext T = "-") ↔ T = [] := by
  unfold rtext
  split
  · rename_i e; exact ⟨fun _ => e, fun _ => rfl⟩
  · rename_i e
    refine ⟨fun z => ?_, fun z => absurd z e⟩
    exfalso
    have sp := split_back (y := ",") (c := 44) (ps := T) (by decide +kernel) (by omega) e (fun p hp => (h.nm p hp).no not_comma) (by
      have h2 := textSum_le (ss := T) (k := 8) fun s hs => (h.nm s hs).len
      have := h.len
      rw [sizeLine_eq]; omega)
    rw [z] at sp
    have sp2 : mSplit (.str "-") [.str ","] = some (.list [.str "-"]) := by kernel_rfl
    rw [sp2] at sp
    injection sp with sp
    injection sp with sp
    cases T with
    | nil => cases sp
    | cons a T =>
      injection sp with s1 s2
      injection s1 with s1
      have := (h.nm a List.mem_cons_self).1
      rw [← s1] at this
      revert this
      decide +kernel

theorem words_ok {m : D} (h : Mv m) : g_law_words [.v m] = .ok (.v (.str (lineOf m))) none := by
  have hj := line_join h
  refine FQ.eq (fq_run ?_)
  show Rq (m_law_words [some (.v m)]) _
  unfold m_law_words
  cases h with
  | look h1 h2 | tell h1 h2 | take h1 h2 h3 h4 | hand h1 h2 h3 h4 =>
    repeat bv_omega
    refine ⟨_, hj.2, ?_⟩
    repeat bv_omega
  | @person a b T h1 h2 h3 | @thing a b T h1 h2 h3 =>
    have hj1 := hj.1
    simp only [wordsOf, strsOf_map] at hj1
    repeat bv_omega
    refine ⟨_, gEq_t0 fun s hs => (h3.nm s hs).2, ?_⟩
    repeat bv_omega
    refine ⟨fun e => ?_, fun e => ?_⟩
    · have e1 : T ≠ [] := of_decide_eq_false (gNot e)
      have er : rtext T = Txt.join "," T := if_neg e1
      repeat bv_omega
      have h4 := textSum_le (ss := T) (k := 8) fun s hs => (h3.nm s hs).len
      have h5 := h3.len
      have h6 : Str.length "," = 1 := by decide +kernel
      refine ⟨_, mJoin_t (by rw [h6]; omega), ?_⟩
      rw [← er]
      repeat bv_omega
      refine ⟨_, hj1, ?_⟩
      repeat bv_omega
    · have e1 : T = [] := of_decide_eq_true (gNot' e)
      have er : rtext T = "-" := if_pos e1
      rw [er] at hj1
      repeat bv_omega
      refine ⟨_, hj1, ?_⟩
      repeat bv_omega

/-! ### tupled, move_text -/
/-- lists for tuples, two levels -/
def lstD : D → D
  | .tuple ds => .list (ds.map fun d => match d with
    | .tuple es => .list es
    | d => d)
  | d => d
theorem tup_str (n : Nat) (s : Str) : g_tupled (n + 1) [.v (.str s)] = .ok (.v (.str s)) none := by
  refine FQ.eq (fq_run ?_)
  show Rq (m_tupled (g_tupled n) [some (.v (.str s)), none]) _
  unfold m_tupled
  repeat bv_omega
/-- a row whose parts are known -/
theorem tup_row {n : Nat} {ds : List D} {f : D → D} {x : D} (hx : x = .list ds ∨ x = .tuple ds) (hl : ds.length ≤ sizeLine) (h : ∀ d ∈ ds, g_tupled n [.v d] = .ok (.v (f d)) none) : g_tupled (n + 1) [.v x] = .ok (.v (.tuple (ds.map f))) none := by
  refine FQ.eq (fq_run ?_)
  show Rq (m_tupled (g_tupled n) [some (.v x), none]) _
  unfold m_tupled
  have key : Rq (sComp [1] (iAny (dName 0)) (tName 1) (DL.ret true) (dFrz (dDefN 1 (g_tupled n) (gV (dName 1) gNil))) [some (.v x), none]) (fun s r => s = .m (ds.map f) ∧ r = [some (.v x), none]) := by
    refine rq_comp1 (fun _ => true) f ?_
    rcases hx with rfl | rfl
    all_goals
      repeat bv_omega
      refine ⟨hl, fun d hd => ⟨.ok ⟨rfl, rfl⟩, fun _ => ?_⟩, ?_, rfl⟩
      · repeat bv_omega
        refine fq_of (h d hd) ?_
        repeat bv_omega
      · rw [List.filter_eq_self.mpr (fun _ _ => rfl)]
  rcases hx with rfl | rfl
  all_goals
    repeat bv_omega
    refine key.imp ?_
    rintro s r ⟨rfl, rfl⟩
    repeat bv_omega
theorem tup_strs {n : Nat} {T : List Str} {x : D} (hx : x = .list (T.map .str) ∨ x = .tuple (T.map .str)) (hl : T.length ≤ sizeLine) : g_tupled (n + 2) [.v x] = .ok (.v (.tuple (T.map .str))) none := by
  have := tup_row (n := n + 1) (f := id) hx (by rw [List.length_map]; exact hl) fun d hd => by
    obtain ⟨s, _, rfl⟩ := List.mem_map.mp hd
    exact tup_str n s
  rw [List.map_id] at this
  exact this

def untup : D → D
  | .list es => .tuple es
  | d => d
theorem tup_part {n : Nat} {d : D} (h : (∃ s : Str, d = .str s) ∨ ∃ T : List Str, (d = .list (T.map .str) ∨ d = .tuple (T.map .str)) ∧ T.length ≤ sizeLine) : g_tupled (n + 2) [.v d] = .ok (.v (untup d)) none := by
  rcases h with ⟨s, rfl⟩ | ⟨T, h | h, hl⟩
  · exact tup_str _ _
  · rw [tup_strs (.inl h) hl, h]; rfl
  · rw [tup_strs (.inr h) hl, h]; rfl
theorem Rts.small {T : List Str} (h : Rts T) : T.length ≤ sizeLine := by have := h.len; rw [sizeLine_eq]; omega
theorem tup_move {m : D} (h : Mv m) {x : D} (hx : x = m ∨ x = lstD m) : g_tupled fuel [.v x] = .ok (.v m) none := by
  cases h with
  | look h1 h2 | tell h1 h2 | take h1 h2 h3 h4 | hand h1 h2 h3 h4 =>
    rcases hx with rfl | rfl
    · exact tup_row (n := 11) (f := untup) (.inr rfl) (Nat.le_of_ble_eq_true rfl) fun d hd => tup_part (n := 9) (.inl (by
        simp only [List.mem_cons, List.not_mem_nil, or_false] at hd
        rcases hd with rfl | rfl | rfl | rfl | rfl <;> exact ⟨_, rfl⟩))
    · exact tup_row (n := 11) (f := untup) (.inl rfl) (Nat.le_of_ble_eq_true rfl) fun d hd => tup_part (n := 9) (.inl (by
        simp only [List.map_cons, List.map_nil, List.mem_cons, List.not_mem_nil, or_false] at hd
        rcases hd with rfl | rfl | rfl | rfl | rfl <;> exact ⟨_, rfl⟩))
  | @person a b T h1 h2 h3 | @thing a b T h1 h2 h3 =>
    rcases hx with rfl | rfl
    · exact tup_row (n := 11) (f := untup) (.inr rfl) (Nat.le_of_ble_eq_true rfl) fun d hd => tup_part (n := 9) (by
        simp only [List.mem_cons, List.not_mem_nil, or_false] at hd
        rcases hd with rfl | rfl | rfl | rfl | rfl
        · exact .inl ⟨_, rfl⟩
        · exact .inl ⟨_, rfl⟩
        · exact .inl ⟨_, rfl⟩
        · exact .inl ⟨_, rfl⟩
        · exact .inr ⟨T, .inr rfl, h3.small⟩)
    · exact tup_row (n := 11) (f := untup) (.inl rfl) (Nat.le_of_ble_eq_true rfl) fun d hd => tup_part (n := 9) (by
        simp only [List.map_cons, List.map_nil, List.mem_cons, List.not_mem_nil, or_false] at hd
        rcases hd with rfl | rfl | rfl | rfl | rfl
        · exact .inl ⟨_, rfl⟩
        · exact .inl ⟨_, rfl⟩
        · exact .inl ⟨_, rfl⟩
        · exact .inl ⟨_, rfl⟩
        · exact .inr ⟨T, .inl rfl, h3.small⟩)
theorem names_text_ok {T : List Str} (h : Rts T) : g_names_text [.v (.tuple (T.map .str))] = .ok (.v (.str (rtext T))) none := by
  refine FQ.eq (fq_run ?_)
  show Rq (m_names_text [some (.v (.tuple (T.map .str)))]) _
  unfold m_names_text
  repeat bv_omega
  refine ⟨fun e => ?_, fun e => ?_⟩
  · have e1 : T ≠ [] := fun z => by subst z; revert e; decide
    have er : rtext T = Txt.join "," T := if_neg e1
    have h4 := textSum_le (ss := T) (k := 8) fun s hs => (h.nm s hs).len
    have h5 := h.len
    have h6 : Str.length "," = 1 := by decide +kernel
    repeat bv_omega
    refine ⟨_, mJoin_t (by rw [h6]; omega), ?_⟩
    rw [← er]
    repeat bv_omega
  · have e1 : T = [] := by
      have := of_decide_eq_false e
      rw [List.length_map] at this
      cases T with
      | nil => rfl
      | cons a T => exact absurd (by simp) this
    have er : rtext T = "-" := if_pos e1
    repeat bv_omega
    exact ⟨by rw [er], rfl⟩
theorem move_text_ok {m : D} (h : Mv m) {x : D} (hx : x = m ∨ x = lstD m) : g_move_text [.v x] = .ok (.v (.str (lineOf m))) none := by
  have hj := line_join h
  have ht := tup_move h hx
  refine FQ.eq (fq_run ?_)
  show Rq (m_move_text [some (.v x), none]) _
  unfold m_move_text
  repeat bv_omega
  refine fq_of ht ?_
  cases h with
  | look h1 h2 | tell h1 h2 | take h1 h2 h3 h4 | hand h1 h2 h3 h4 =>
    repeat bv_omega
    refine ⟨_, hj.2, ?_⟩
    repeat bv_omega
  | @person a b T h1 h2 h3 | @thing a b T h1 h2 h3 =>
    have hj1 := hj.1
    simp only [wordsOf, strsOf_map] at hj1
    repeat bv_omega
    refine fq_of (names_text_ok h3) ?_
    repeat bv_omega
    refine ⟨_, hj1, ?_⟩
    repeat bv_omega

/-! ### move_in -/
theorem rtext_split {T : List Str} (h : Rts T) (h0 : T ≠ []) : mSplit (.str (rtext T)) [.str ","] = some (.list (T.map .str)) := by
  have er : rtext T = Txt.join "," T := if_neg h0
  have h2 := textSum_le (ss := T) (k := 8) fun s hs => (h.nm s hs).len
  have h3 := h.len
  rw [er]
  exact split_back (c := 44) (by decide +kernel) (by omega) h0 (fun p hp => (h.nm p hp).no not_comma) (by rw [sizeLine_eq]; omega)
theorem move_in_ok {m : D} (h : Mv m) : g_move_in [.v (.str (lineOf m))] = .ok (.v m) none := by
  have hs := line_split h
  have hm := move_ok h
  refine FQ.eq (fq_run ?_)
  show Rq (m_move_in [some (.v (.str (lineOf m))), none, none, none]) _
  unfold m_move_in
  refine rq_seq (rq_set (rq_sV (rq_Meth (rq_name rfl ⟨rfl, rq_C ⟨_, hs, ?_⟩⟩))))
  refine free_at rfl np_none ?_
  cases h with
  | look h1 h2 | tell h1 h2 | take h1 h2 h3 h4 | hand h1 h2 h3 h4 =>
    repeat bv_omega
    refine fq_of hm ?_
    repeat bv_omega
  | @person a b T h1 h2 h3 | @thing a b T h1 h2 h3 =>
    simp only [wordsOf, strsOf_map, List.map_cons, List.map_nil]
    have hok := (rtext_wd h3).ok
    repeat bv_omega
    refine ⟨_, gEq_ss hok (by decide +kernel), ?_⟩
    repeat bv_omega
    refine ⟨fun e => ?_, fun e => ?_⟩
    · have e1 : T ≠ [] := fun z => of_decide_eq_false (gNot e) ((rtext_dash h3).mpr z)
      repeat bv_omega
      refine ⟨_, rtext_split h3 e1, ?_⟩
      repeat bv_omega
      refine fq_of hm ?_
      repeat bv_omega
    · have e1 : T = [] := (rtext_dash h3).mp (of_decide_eq_true (gNot' e))
      subst e1
      repeat bv_omega
      refine fq_of hm ?_
      repeat bv_omega
end DT

/-! P15b: the plain law of k15, on -/
namespace DL
open PySem PySem.Spec PyProof.Rows L2
section
variable {α β : Type} {r : Rho}
/-- x ends in an exception, Q holds of it -/
inductive Ex : Res α → (Nat → D → Rho → Prop) → Prop where
  | mk {c : Nat} {d : D} {r : Rho} {Q : Nat → D → Rho → Prop} : Q c d r → Ex (.exc c d r) Q
theorem ex_bnd {x : M α} {k : α → M β} {Q : Nat → D → Rho → Prop} (h : Rq (x r) (fun a r1 => Ex (k a r1) Q)) : Ex (bnd x k r) Q := by
  unfold bnd
  cases e : x r with
  | ok a r' => rw [e] at h; exact h.un
  | exc c d r' => rw [e] at h; cases h
  | bad => rw [e] at h; cases h
theorem ex_bnd0 {x : M α} {k : α → M β} {Q : Nat → D → Rho → Prop} (h : Ex (x r) Q) : Ex (bnd x k r) Q := by
  unfold bnd
  cases e : x r with
  | ok a r' => rw [e] at h; cases h
  | exc c d r' =>
    rw [e] at h
    cases h with
    | mk q => exact .mk q
  | bad => rw [e] at h; cases h
theorem ex_seq {f g : M Fl} {Q : Nat → D → Rho → Prop} (h : Rq (f r) (fun fl r1 => fl = .nx ∧ Ex (g r1) Q)) : Ex (sSeq f g r) Q := ex_bnd (h.imp fun fl r1 ⟨e, q⟩ => by subst e; exact q)
theorem ex_seq0 {f g : M Fl} {Q : Nat → D → Rho → Prop} (h : Ex (f r) Q) : Ex (sSeq f g r) Q := ex_bnd0 h
theorem ex_if {t : M Bool} {x y : M α} {Q : Nat → D → Rho → Prop} (h : Rq (t r) (fun b r1 => b = true ∧ Ex (x r1) Q)) : Ex (mIf t x y r) Q := ex_bnd (h.imp fun b r1 ⟨e, q⟩ => by subst e; exact q)
theorem ex_raise {c : Nat} {fa : M D} {Q : Nat → D → Rho → Prop} (h : Rq (fa r) (fun d r1 => Q c d r1)) : Ex (sRaise c fa r) Q := ex_bnd (h.imp fun d r1 q => .mk q)
theorem ex_dFor {h : D → M Unit} {body : M Fl} {Q : Nat → D → Rho → Prop} (I : List D → Rho → Prop) (d : D) (post : List D) : ∀ (ds done : List D) (r : Rho), I done r →
    (∀ pre x mid r, ds = pre ++ x :: mid → I (done ++ pre) r → Rq (h x r) (fun _ r2 => Rq (body r2) (fun fl r3 => fl = .nx ∧ I (done ++ pre ++ [x]) r3))) →
    (∀ r, I (done ++ ds) r → Rq (h d r) (fun _ r2 => Ex (body r2) Q)) → Ex (dFor h body (ds ++ d :: post) r) Q
  | [], done, r, hi, _, hq => by
    refine ex_bnd (rq_noX ((hq r (by rw [List.append_nil]; exact hi)).imp fun _ r2 h2 => ex_bnd0 h2))
  | x :: ds, done, r, hi, hb, hq => by
    have h1 := hb [] x ds r rfl (by rw [List.append_nil]; exact hi)
    refine ex_bnd (rq_noX (h1.imp fun _ r2 h2 => ex_bnd (h2.imp fun fl r3 ⟨e, h3⟩ => ?_)))
    subst e
    refine ex_dFor I d post ds (done ++ [x]) r3 (by rw [List.append_nil] at h3; exact h3) (fun pre y mid r e z => ?_) (fun r z => hq r (by rw [List.append_assoc] at z; exact z))
    have := hb (x :: pre) y mid r (by rw [e]; rfl) (by rw [List.append_assoc] at z; exact z)
    have e2 : done ++ [x] ++ pre = done ++ (x :: pre) := by rw [List.append_assoc]; rfl
    rw [e2]
    exact this
theorem run_exc {n : Nat} {fb : M Fl} {ss : List Slot} {c : Nat} {d : D} {o : Option (List D)} (h : Ex (fb (rho0 n ss)) (fun c' d' r => c' = c ∧ d' = d ∧ pout ss r = some o)) : runB n fb ss = .exc c d o := by
  unfold runB
  cases e : fb (rho0 n ss) with
  | ok fl r' => rw [e] at h; cases h
  | exc c' d' r' =>
    rw [e] at h
    cases h with
    | mk q =>
      obtain ⟨rfl, rfl, q⟩ := q
      simp only [q]
  | bad => rw [e] at h; cases h
end
end DL
namespace DT
open PySem PySem.Spec PyProof.Rows L2 DL
local macro_rules
  | `(tactic| bv_omega) => `(tactic| first
    | with_reducible refine rq_ret ?_
    | with_reducible refine rq_C ?_
    | with_reducible refine rq_sNil ?_
    | with_reducible refine cont_nx ?_
    | with_reducible refine cont_ret ?_
    | with_reducible refine rq_aNil ?_
    | with_reducible refine rq_gNil ?_
    | with_reducible refine rq_tsNil ?_
    | ((with_reducible refine rq_name' ?_); refine ⟨_, rfl, ?_⟩)
    | ((with_reducible refine rq_nameM' ?_); refine ⟨_, rfl, ?_⟩)
    | ((with_reducible refine rq_gIo' ?_); refine ⟨rfl, ?_⟩)
    | ((with_reducible refine rq_IxO' ?_); refine ⟨rfl, ?_⟩)
    | ((with_reducible refine rq_append' ?_); refine ⟨rfl, ?_⟩)
    | ((with_reducible refine rq_pop' ?_); refine ⟨rfl, ?_⟩)
    | with_reducible refine rq_seq ?_
    | with_reducible refine rq_if ?_
    | with_reducible refine rq_and ?_
    | with_reducible refine rq_or ?_
    | with_reducible refine rq_not ?_
    | with_reducible refine rq_bAnd ?_
    | with_reducible refine rq_bOr ?_
    | with_reducible refine rq_bNot ?_
    | with_reducible refine rq_frz ?_
    | with_reducible refine rq_call ?_
    | with_reducible refine rq_set ?_
    | with_reducible refine rq_par ?_
    | with_reducible refine rq_setIx ?_
    | with_reducible refine rq_Bin ?_
    | with_reducible refine rq_Test ?_
    | with_reducible refine rq_Truth ?_
    | with_reducible refine rq_Call ?_
    | with_reducible refine rq_aCons ?_
    | with_reducible refine rq_aStar ?_
    | with_reducible refine rq_Tup ?_
    | with_reducible refine rq_Lst ?_
    | with_reducible refine rq_sLst ?_
    | with_reducible refine rq_sV ?_
    | with_reducible refine rq_sRet ?_
    | with_reducible refine rq_Isi ?_
    | with_reducible refine rq_Meth ?_
    | with_reducible refine rq_Slice ?_
    | with_reducible refine rq_oInt ?_
    | with_reducible refine rq_Chain ?_
    | with_reducible refine rq_gV ?_
    | with_reducible refine rq_iAny ?_
    | with_reducible refine rq_iEnum ?_
    | with_reducible refine rq_iZip ?_
    | with_reducible refine rq_LenO' ?_
    | with_reducible refine rq_SD ?_
    | with_reducible refine rq_iRange ?_
    | with_reducible refine rq_listOf ?_
    | with_reducible refine rq_cat ?_
    | with_reducible refine rq_orT ?_
    | with_reducible refine rq_asg ?_
    | with_reducible refine rq_tsCons ?_
    | with_reducible refine rq_tTup ?_
    | with_reducible refine rq_tLst ?_
    | refine yes rfl ?_
    | refine noo rfl ?_
    | refine yes (by decide +kernel) ?_
    | refine noo (by decide +kernel) ?_
    | with_reducible refine ⟨_, gAdd_ii, ?_⟩
    | ((with_reducible refine ⟨_, gIn_t2 ?_ ?_ ?_, ?_⟩); (· decide +kernel); (· decide +kernel); (· decide +kernel))
    | ((with_reducible refine ⟨_, gEq_ss ?_ ?_, ?_⟩); (· decide +kernel); (· decide +kernel))
    | with_reducible refine ⟨_, gSub_ii, ?_⟩
    | with_reducible refine ⟨_, gGt_ii, ?_⟩
    | with_reducible refine ⟨_, gGe_ii, ?_⟩
    | with_reducible refine ⟨_, gLe_ii, ?_⟩
    | with_reducible refine ⟨_, gLt_ii, ?_⟩
    | with_reducible refine ⟨_, gLt_ss, ?_⟩
    | with_reducible refine ⟨_, cLen_l, ?_⟩
    | with_reducible refine ⟨_, cLen_t, ?_⟩
    | with_reducible refine ⟨_, cInt_i, ?_⟩
    | with_reducible refine ⟨_, cInt_b, ?_⟩
    | with_reducible refine ⟨_, cAbs_i, ?_⟩
    | ((with_reducible refine ⟨_, gMod_ii ?_, ?_⟩); · decide)
    | ((with_reducible refine ⟨_, gDiv_ii ?_, ?_⟩); · decide)
    | ((with_reducible refine ⟨_, gMul_ii ?_, ?_⟩); · first | exact .inl (by decide) | exact .inr (by decide))
    | refine ⟨_, rfl, ?_⟩
    | refine ⟨_, _, _, rfl, rfl, rfl, ?_⟩
    | refine ⟨rfl, _, _, rfl, ?_⟩
    | refine ⟨rfl, ?_⟩
    | (refine free_at rfl ?_ ?_; · first | exact np_none | exact np_v | exact np_m | assumption)
    | with_reducible refine rq_tName' ?_
    | refine ⟨Nat.le_of_ble_eq_true rfl, ?_⟩
    | refine .inl ⟨_, rfl, ?_⟩
    | refine .inr ⟨_, rfl, ?_⟩
    | refine .inr (.inl ⟨_, rfl, ?_⟩)
    | refine .inr (.inr ⟨_, rfl, ?_⟩)
    | refine ⟨_, _, rfl, rfl, ?_⟩)

/-! ### lines of a text -/
def NL (s : Str) : Prop := 10 ∉ s.cps.toList ∧ s.length ≤ 300 ∧ PyData.strOk s = true
theorem lines_ok {ls : List Str} (h0 : ls ≠ []) (h : ∀ s ∈ ls, NL s) (hl : ls.length ≤ 1000) (hne : Txt.join "\n" ls ≠ "") : g_lines_of [.v (.str (Txt.join "\n" ls))] = .ok (.v (.list (ls.map .str))) none := by
  have h2 := textSum_le (ss := ls) (k := 300) fun s hs => (h s hs).2.1
  have hs := split_back (y := "\n") (c := 10) (ps := ls) (by decide +kernel) (by omega) h0 (fun p hp => (h p hp).1) (by rw [sizeLine_eq]; omega)
  refine FQ.eq (fq_run ?_)
  show Rq (m_lines_of [some (.v (.str (Txt.join "\n" ls)))]) _
  unfold m_lines_of
  repeat bv_omega
  refine ⟨_, gEq_ss (ok_join (by decide +kernel) fun p hp => (h p hp).2.2) (by decide +kernel), ?_⟩
  rw [decide_eq_false hne]
  repeat bv_omega
  refine ⟨_, hs, ?_⟩
  repeat bv_omega
theorem lines_nil : g_lines_of [.v (.str "")] = .ok (.v (.list [])) none := by kernel_rfl
theorem enum_at {ls : List Str} {pre post : List D} {d : D} (e : (ls.map PyData.str).mapIdx (fun i d => PyData.tuple [PyData.int i, d]) = pre ++ d :: post) : ∃ s, ls[pre.length]? = some s ∧ d = .tuple [.int pre.length, .str s] := by
  have h1 : ((ls.map PyData.str).mapIdx (fun i d => PyData.tuple [PyData.int i, d]))[pre.length]? = some d := by rw [e]; simp
  rw [List.getElem?_mapIdx, List.getElem?_map] at h1
  cases hs : ls[pre.length]? with
  | none => rw [hs] at h1; cases h1
  | some s =>
    rw [hs] at h1
    exact ⟨s, rfl, (Option.some.inj h1).symm⟩
theorem play_in_ok {x : Str} {ms : List D} (hm : ∀ m ∈ ms, Mv m) (hl : ms.length ≤ 1000) (hx : g_lines_of [.v (.str x)] = .ok (.v (.list ((ms.map lineOf).map .str))) none) : g_play_in [.v (.str x)] = .ok (.v (.tuple ms)) none := by
  refine FQ.eq (fq_run ?_)
  show Rq (m_play_in [some (.v (.str x)), none, none, none, none]) _
  unfold m_play_in
  repeat bv_omega
  refine rq_for (fun pre r => ∃ a b c : Option Slot, r = [some (.v (.str x)), some (.m (ms.take pre.length)), a, b, c] ∧ NP a ∧ NP b ∧ NP c) ?_
  repeat bv_omega
  refine fq_of hx ?_
  repeat bv_omega
  refine ⟨⟨none, none, none, rfl, np_none, np_none, np_none⟩, fun pre d post r e hI => ?_, fun r hI => ?_⟩
  · obtain ⟨a, b, c, rfl, ha, hb, hc⟩ := hI
    obtain ⟨s, hs, rfl⟩ := enum_at e
    rw [List.getElem?_map] at hs
    obtain ⟨m, hm1, rfl⟩ := Option.map_eq_some_iff.mp hs
    have hmv := hm m (List.mem_of_getElem? hm1)
    have htk : ms.take (pre.length + 1) = ms.take pre.length ++ [m] := by rw [List.take_add_one, hm1]; rfl
    have hnn : isN m = false := by cases hmv <;> rfl
    repeat bv_omega
    refine fq_of (move_in_ok hmv) ?_
    repeat bv_omega
    rw [hnn]
    have hlt : (ms.take pre.length).length < sizeLine := by
      rw [List.length_take, sizeLine_eq]
      omega
    repeat bv_omega
    rw [List.length_append, List.length_singleton, htk]
    exact ⟨hlt, _, _, _, rfl, np_v, np_v, np_v⟩
  · obtain ⟨a, b, c, rfl, ha, hb, hc⟩ := hI
    have e1 : ((List.map PyData.str (List.map lineOf ms)).mapIdx fun i d => PyData.tuple [PyData.int i, d]).length = ms.length := by simp
    rw [e1, List.take_length]
    repeat bv_omega

theorem enum_split (ls : List Str) (s : Str) (rest : List Str) : ((ls ++ s :: rest).map PyData.str).mapIdx (fun i d => PyData.tuple [PyData.int i, d]) =
    (ls.map PyData.str).mapIdx (fun i d => PyData.tuple [PyData.int i, d]) ++ .tuple [.int ls.length, .str s] :: (rest.map PyData.str).mapIdx (fun i d => PyData.tuple [PyData.int ((i + (ls.length + 1) : Nat) : Int), d]) := by
  rw [List.map_append, List.mapIdx_append, List.map_cons, List.mapIdx_cons, List.length_map]
  congr 2
  · rw [Nat.zero_add]
  · congr 1
    funext i d
    congr 3
    omega
theorem play_in_bad {x : Str} {ms : List D} {s : Str} {rest : List Str} (hm : ∀ m ∈ ms, Mv m) (hl : ms.length ≤ 1000) (hb : g_move_in [.v (.str s)] = .ok (.v .none) none)
    (hx : g_lines_of [.v (.str x)] = .ok (.v (.list ((ms.map lineOf ++ s :: rest).map .str))) none) : g_play_in [.v (.str x)] = .exc 0 (.int ms.length) none := by
  refine run_exc ?_
  show Ex (m_play_in [some (.v (.str x)), none, none, none, none]) _
  unfold m_play_in
  refine ex_seq (rq_set (rq_sLst (rq_aNil ⟨Nat.le_of_ble_eq_true rfl, ⟨_, rfl, np_none⟩, rfl, ?_⟩)))
  refine ex_seq0 (ex_bnd ?_)
  repeat bv_omega
  refine fq_of hx ?_
  repeat bv_omega
  rw [enum_split]
  refine ex_dFor (fun pre r => ∃ a b c : Option Slot, r = [some (.v (.str x)), some (.m (ms.take pre.length)), a, b, c] ∧ NP a ∧ NP b ∧ NP c) _ _ _ [] _ ⟨none, none, none, rfl, np_none, np_none, np_none⟩ (fun pre d post r e hI => ?_) fun r hI => ?_
  · obtain ⟨a, b, c, rfl, ha, hb', hc⟩ := hI
    obtain ⟨s', hs, rfl⟩ := enum_at e
    rw [List.getElem?_map] at hs
    obtain ⟨m, hm1, rfl⟩ := Option.map_eq_some_iff.mp hs
    have hmv := hm m (List.mem_of_getElem? hm1)
    have htk : ms.take (pre.length + 1) = ms.take pre.length ++ [m] := by rw [List.take_add_one, hm1]; rfl
    have hnn : isN m = false := by cases hmv <;> rfl
    repeat bv_omega
    refine fq_of (move_in_ok hmv) ?_
    repeat bv_omega
    rw [hnn]
    have hlt : (ms.take pre.length).length < sizeLine := by
      rw [List.length_take, sizeLine_eq]
      omega
    repeat bv_omega
    rw [List.nil_append, List.length_append, List.length_singleton, htk]
    exact ⟨hlt, rfl, _, _, _, rfl, np_v, np_v, np_v⟩
  · obtain ⟨a, b, c, rfl, ha, hb', hc⟩ := hI
    repeat bv_omega
    refine ex_seq (rq_set ?_)
    repeat bv_omega
    refine fq_of hb ?_
    repeat bv_omega
    exact ⟨by rw [List.length_map], rfl⟩
/-! ### _law_read, is_text_of_play -/
theorem read_ok {x : Str} {ms : List D} (h : g_play_in [.v (.str x)] = .ok (.v (.tuple ms)) none) : g_law_read [.v (.str x)] = .ok (.v (.tuple [.str "told", .tuple ms])) none := by
  refine FQ.eq (fq_run ?_)
  show Rq (m_law_read [some (.v (.str x)), none]) _
  unfold m_law_read
  have key : Rq ((sRet (sV (dTup (aCons (dC (.str "told")) (aCons (dFrz (dDefN 1 g_play_in (gV (dName 0) gNil))) aNil))))) [some (.v (.str x)), none]) (fun fl r => fl = .ret (.v (.tuple [.str "told", .tuple ms])) ∧ r = [some (.v (.str x)), none]) := by
    repeat bv_omega
    refine fq_of h ?_
    repeat bv_omega
  unfold sTry
  rw [key.eq]
  exact .ok ⟨_, rfl, .inl ⟨_, rfl, rfl, rfl⟩⟩
theorem read_bad {x : Str} {k : Nat} (h : g_play_in [.v (.str x)] = .exc 0 (.int k) none) : g_law_read [.v (.str x)] = .ok (.v (.tuple [.str "raised", .int k, .bool true])) none := by
  refine FQ.eq (fq_run ?_)
  show Rq (m_law_read [some (.v (.str x)), none]) _
  unfold m_law_read
  have key : (sRet (sV (dTup (aCons (dC (.str "told")) (aCons (dFrz (dDefN 1 g_play_in (gV (dName 0) gNil))) aNil))))) [some (.v (.str x)), none] = .exc 0 (.int k) [some (.v (.str x)), none] := by
    have k2 : Ex ((sRet (sV (dTup (aCons (dC (.str "told")) (aCons (dFrz (dDefN 1 g_play_in (gV (dName 0) gNil))) aNil))))) [some (.v (.str x)), none]) (fun c d r => c = 0 ∧ d = .int k ∧ r = [some (.v (.str x)), none]) := by
      have k3 : (dDefN 1 g_play_in (gV (dName 0) gNil)) [some (.v (.str x)), none] = .exc 0 (.int k) [some (.v (.str x)), none] := by
        show (match g_play_in [.v (.str x)] with
          | .ok s o => match relist [some (.v (.str x)), none] none o with
            | some r' => Res.ok s r'
            | none => .bad
          | .exc c d o => match relist [some (.v (.str x)), none] none o with
            | some r' => .exc c d r'
            | none => .bad
          | .bad => .bad) = _
        rw [h]; rfl
      refine ex_bnd0 (ex_bnd0 (ex_bnd0 (ex_bnd (rq_C (ex_bnd0 (ex_bnd0 (ex_bnd0 ?_)))))))
      rw [k3]
      exact .mk ⟨rfl, rfl, rfl⟩
    generalize (sRet (sV (dTup (aCons (dC (.str "told")) (aCons (dFrz (dDefN 1 g_play_in (gV (dName 0) gNil))) aNil))))) [some (.v (.str x)), none] = z at k2 ⊢
    cases k2 with
    | mk q => rw [q.1, q.2.1, q.2.2]
  unfold sTry
  rw [key]
  exact .ok ⟨_, rfl, .inl ⟨_, rfl, rfl, rfl⟩⟩

def mvOf (s : Str) : D := match g_move_in [.v (.str s)] with
  | .ok (.v d) _ => d
  | _ => .none
def okLn (d : D) : Bool := match d with
  | .str s => true != isN (mvOf s)
  | _ => false
theorem mvOf_eq {s : Str} {d : D} (h : g_move_in [.v (.str s)] = .ok (.v d) none) : mvOf s = d := by unfold mvOf; rw [h]
theorem is_text {x : Str} {ls : List Str} (hl : ls.length ≤ sizeLine) (hx : g_lines_of [.v (.str x)] = .ok (.v (.list (ls.map .str))) none) (h : ∀ s ∈ ls, ∃ d, g_move_in [.v (.str s)] = .ok (.v d) none) :
    g_is_text_of_play [.v (.str x)] = .ok (.v (.bool (ls.all fun s => true != isN (mvOf s)))) none := by
  refine FQ.eq (fq_run ?_)
  show Rq (m_is_text_of_play [some (.v (.str x)), none]) _
  unfold m_is_text_of_play
  repeat bv_omega
  refine rq_comp1 (fun _ => true) (fun d => .bool (okLn d)) ?_
  repeat bv_omega
  refine fq_of hx ?_
  repeat bv_omega
  refine ⟨by rw [List.length_map]; exact hl, fun d hd => ?_, ?_⟩
  · obtain ⟨s, hs, rfl⟩ := List.mem_map.mp hd
    obtain ⟨d, hd'⟩ := h s hs
    refine ⟨.ok ⟨rfl, rfl⟩, fun _ => ?_⟩
    repeat bv_omega
    refine fq_of hd' ?_
    repeat bv_omega
    refine ⟨?_, rfl⟩
    show PyData.bool _ = PyData.bool (true != isN (mvOf s))
    rw [mvOf_eq hd']
  · rw [List.filter_eq_self.mpr (fun _ _ => rfl)]
    repeat bv_omega
    refine ⟨_, cAll_map, ?_⟩
    repeat bv_omega
    refine ⟨?_, rfl⟩
    rw [List.all_map]; rfl
theorem tup_moveN (n : Nat) {m : D} (h : Mv m) : g_tupled (n + 3) [.v m] = .ok (.v m) none := by
  cases h with
  | look h1 h2 | tell h1 h2 | take h1 h2 h3 h4 | hand h1 h2 h3 h4 =>
    exact tup_row (n := n + 2) (f := untup) (.inr rfl) (Nat.le_of_ble_eq_true rfl) fun d hd => tup_part (n := n) (.inl (by
        simp only [List.mem_cons, List.not_mem_nil, or_false] at hd
        rcases hd with rfl | rfl | rfl | rfl | rfl <;> exact ⟨_, rfl⟩))
  | @person a b T h1 h2 h3 | @thing a b T h1 h2 h3 =>
    exact tup_row (n := n + 2) (f := untup) (.inr rfl) (Nat.le_of_ble_eq_true rfl) fun d hd => tup_part (n := n) (by
        simp only [List.mem_cons, List.not_mem_nil, or_false] at hd
        rcases hd with rfl | rfl | rfl | rfl | rfl
        · exact .inl ⟨_, rfl⟩
        · exact .inl ⟨_, rfl⟩
        · exact .inl ⟨_, rfl⟩
        · exact .inl ⟨_, rfl⟩
        · exact .inr ⟨T, .inr rfl, h3.small⟩)
theorem tup_play {ms : List D} (h : ∀ m ∈ ms, Mv m) (hl : ms.length ≤ 1000) : g_tupled fuel [.v (.tuple ms)] = .ok (.v (.tuple ms)) none := by
  have := tup_row (n := 11) (f := id) (x := .tuple ms) (.inr rfl) (by rw [sizeLine_eq]; omega) fun m hm => tup_moveN 8 (h m hm)
  rw [List.map_id] at this
  exact this
theorem count_ok {ms : List D} (h : ∀ m ∈ ms, Mv m) (hl : ms.length ≤ 1000) : g_count_moves [.v (.tuple ms)] = .ok (.v (.tuple [.int (ms.filter fun m => !isActD m).length, .int (ms.filter isActD).length])) none := by
  have ht := tup_play h hl
  refine FQ.eq (fq_run ?_)
  show Rq (m_count_moves [some (.v (.tuple ms)), none, none]) _
  unfold m_count_moves
  refine rq_seq (rq_set ?_)
  refine rq_comp1 isActD id ?_
  repeat bv_omega
  refine fq_of ht ?_
  repeat bv_omega
  refine ⟨by rw [sizeLine_eq]; omega, fun m hm => ⟨?_, fun _ => ?_⟩, ?_⟩
  · repeat bv_omega
    refine fq_of (act_ok (h m hm)) ?_
    repeat bv_omega
  · repeat bv_omega
  · rw [List.map_id]
    repeat bv_omega
    refine rq_comp1 (fun m => !isActD m) id ?_
    repeat bv_omega
    refine fq_of ht ?_
    repeat bv_omega
    refine ⟨by rw [sizeLine_eq]; omega, fun m hm => ⟨?_, fun _ => ?_⟩, ?_⟩
    · repeat bv_omega
      refine fq_of (deed_ok (h m hm)) ?_
      repeat bv_omega
    · repeat bv_omega
    · rw [List.map_id]
      repeat bv_omega
end DT

/-! P15c: the plain law of k15, on -/
namespace DT
open PySem PySem.Spec PyProof.Rows L2 DL
local macro_rules
  | `(tactic| bv_omega) => `(tactic| first
    | with_reducible refine rq_ret ?_
    | with_reducible refine rq_C ?_
    | with_reducible refine rq_sNil ?_
    | with_reducible refine cont_nx ?_
    | with_reducible refine cont_ret ?_
    | with_reducible refine rq_aNil ?_
    | with_reducible refine rq_gNil ?_
    | with_reducible refine rq_tsNil ?_
    | ((with_reducible refine rq_name' ?_); refine ⟨_, rfl, ?_⟩)
    | ((with_reducible refine rq_nameM' ?_); refine ⟨_, rfl, ?_⟩)
    | ((with_reducible refine rq_gIo' ?_); refine ⟨rfl, ?_⟩)
    | ((with_reducible refine rq_IxO' ?_); refine ⟨rfl, ?_⟩)
    | ((with_reducible refine rq_append' ?_); refine ⟨rfl, ?_⟩)
    | ((with_reducible refine rq_pop' ?_); refine ⟨rfl, ?_⟩)
    | with_reducible refine rq_seq ?_
    | with_reducible refine rq_if ?_
    | with_reducible refine rq_and ?_
    | with_reducible refine rq_or ?_
    | with_reducible refine rq_not ?_
    | with_reducible refine rq_bAnd ?_
    | with_reducible refine rq_bOr ?_
    | with_reducible refine rq_bNot ?_
    | with_reducible refine rq_frz ?_
    | with_reducible refine rq_call ?_
    | with_reducible refine rq_set ?_
    | with_reducible refine rq_par ?_
    | with_reducible refine rq_setIx ?_
    | with_reducible refine rq_Bin ?_
    | with_reducible refine rq_Test ?_
    | with_reducible refine rq_Truth ?_
    | with_reducible refine rq_Call ?_
    | with_reducible refine rq_aCons ?_
    | with_reducible refine rq_aStar ?_
    | with_reducible refine rq_Tup ?_
    | with_reducible refine rq_Lst ?_
    | with_reducible refine rq_sLst ?_
    | with_reducible refine rq_sV ?_
    | with_reducible refine rq_sRet ?_
    | with_reducible refine rq_Isi ?_
    | with_reducible refine rq_Meth ?_
    | with_reducible refine rq_Slice ?_
    | with_reducible refine rq_oInt ?_
    | with_reducible refine rq_Chain ?_
    | with_reducible refine rq_gV ?_
    | with_reducible refine rq_iAny ?_
    | with_reducible refine rq_iEnum ?_
    | with_reducible refine rq_iZip ?_
    | with_reducible refine rq_LenO' ?_
    | with_reducible refine rq_SD ?_
    | with_reducible refine rq_iRange ?_
    | with_reducible refine rq_listOf ?_
    | with_reducible refine rq_cat ?_
    | with_reducible refine rq_orT ?_
    | with_reducible refine rq_asg ?_
    | with_reducible refine rq_tsCons ?_
    | with_reducible refine rq_tTup ?_
    | with_reducible refine rq_tLst ?_
    | refine yes rfl ?_
    | refine noo rfl ?_
    | refine yes (by decide +kernel) ?_
    | refine noo (by decide +kernel) ?_
    | with_reducible refine ⟨_, gAdd_ii, ?_⟩
    | ((with_reducible refine ⟨_, gIn_t2 ?_ ?_ ?_, ?_⟩); (· decide +kernel); (· decide +kernel); (· decide +kernel))
    | ((with_reducible refine ⟨_, gEq_ss ?_ ?_, ?_⟩); (· decide +kernel); (· decide +kernel))
    | with_reducible refine ⟨_, gSub_ii, ?_⟩
    | with_reducible refine ⟨_, gGt_ii, ?_⟩
    | with_reducible refine ⟨_, gGe_ii, ?_⟩
    | with_reducible refine ⟨_, gLe_ii, ?_⟩
    | with_reducible refine ⟨_, gLt_ii, ?_⟩
    | with_reducible refine ⟨_, gLt_ss, ?_⟩
    | with_reducible refine ⟨_, cLen_l, ?_⟩
    | with_reducible refine ⟨_, cLen_t, ?_⟩
    | with_reducible refine ⟨_, cInt_i, ?_⟩
    | with_reducible refine ⟨_, cInt_b, ?_⟩
    | with_reducible refine ⟨_, cAbs_i, ?_⟩
    | ((with_reducible refine ⟨_, gMod_ii ?_, ?_⟩); · decide)
    | ((with_reducible refine ⟨_, gDiv_ii ?_, ?_⟩); · decide)
    | ((with_reducible refine ⟨_, gMul_ii ?_, ?_⟩); · first | exact .inl (by decide) | exact .inr (by decide))
    | refine ⟨_, rfl, ?_⟩
    | refine ⟨_, _, _, rfl, rfl, rfl, ?_⟩
    | refine ⟨rfl, _, _, rfl, ?_⟩
    | refine ⟨rfl, ?_⟩
    | (refine free_at rfl ?_ ?_; · first | exact np_none | exact np_v | exact np_m | assumption)
    | with_reducible refine rq_tName' ?_
    | refine ⟨Nat.le_of_ble_eq_true rfl, ?_⟩
    | refine .inl ⟨_, rfl, ?_⟩
    | refine .inr ⟨_, rfl, ?_⟩
    | refine .inr (.inl ⟨_, rfl, ?_⟩)
    | refine .inr (.inr ⟨_, rfl, ?_⟩)
    | refine ⟨_, _, rfl, rfl, ?_⟩)

/-! ### equal data is the same -/
inductive Pln : Nat → D → Prop where
  | non {n : Nat} : Pln n .none
  | bl {n : Nat} {b : Bool} : Pln n (.bool b)
  | int {n : Nat} {i : Int} : Pln n (.int i)
  | str {n : Nat} {s : Str} : PyData.strOk s = true → Pln n (.str s)
  | lst {n : Nat} {ds : List D} : ds.length ≤ sizeLine → (∀ d ∈ ds, Pln n d) → Pln (n + 1) (.list ds)
  | tup {n : Nat} {ds : List D} : ds.length ≤ sizeLine → (∀ d ∈ ds, Pln n d) → Pln (n + 1) (.tuple ds)
theorem gEq_bb {neg a b : Bool} : gEq neg (.bool a) (.bool b) = some (.bool (neg != (a == b))) := by
  cases a <;> cases b <;> rfl
theorem gEq_ii {neg : Bool} {a b : Int} : gEq neg (.int a) (.int b) = some (.bool (neg != decide (a = b))) := by
  show some (PyData.bool (neg != (a == b))) = _
  have : (a == b) = decide (a = b) := by rw [Bool.eq_iff_iff, beq_iff_eq, decide_eq_true_iff]
  rw [this]
def pairD (f : D → Bool) : D → Bool
  | .tuple [a, _] => f a
  | _ => false
theorem zip_self (ds : List D) : zipD ds ds = ds.map fun d => .tuple [d, d] := by
  unfold zipD
  induction ds with
  | nil => rfl
  | cons d ds ih => rw [List.zip_cons_cons, List.map_cons, ih]; rfl
theorem same_rows {n : Nat} {ds : List D} {x : D} (hx : x = .list ds ∨ x = .tuple ds) (hl : ds.length ≤ sizeLine) (h : ∀ d ∈ ds, g_law_same n [.v d, .v d] = .ok (.v (.bool true)) none) : g_law_same (n + 1) [.v x, .v x] = .ok (.v (.bool true)) none := by
  refine FQ.eq (fq_run ?_)
  show Rq (m_law_same (g_law_same n) [some (.v x), some (.v x), none, none]) _
  unfold m_law_same
  have key : Rq (sComp [2, 3] (DL.iZip (dName 0) (dName 1)) (tTupD (tsCons (tName 2) (tsCons (tName 3) tsNil))) (DL.ret true) (dFrz (dDefN 2 (g_law_same n) (gV (dName 2) (gV (dName 3) gNil)))) [some (.v x), some (.v x), none, none])
      (fun s r => s = .m (ds.map fun _ => .bool true) ∧ r = [some (.v x), some (.v x), none, none]) := by
    refine rq_comp (fun pre acc r => ((r = [some (.v x), some (.v x), none, none]) ∨ ∃ d e : D, r = [some (.v x), some (.v x), some (.v d), some (.v e)]) ∧ acc = pre.map fun _ => .bool true) ?_
    have fin : okW [some (.v x), some (.v x), none, none] [2, 3] = true ∧ (([some (.v x), some (.v x), none, none] = [some (DL.Slot.v x), some (.v x), none, none] ∨ ∃ d e : D, [some (DL.Slot.v x), some (.v x), none, none] = [some (.v x), some (.v x), some (.v d), some (.v e)]) ∧ ([] : List D) = List.map (fun _ => PyData.bool true) ([] : List D)) ∧
        (∀ pre d post acc r, zipD ds ds = pre ++ d :: post → ((r = [some (DL.Slot.v x), some (.v x), none, none] ∨ ∃ d e : D, r = [some (.v x), some (.v x), some (.v d), some (.v e)]) ∧ acc = pre.map fun _ => PyData.bool true) →
          Step [2, 3] (tTupD (tsCons (tName 2) (tsCons (tName 3) tsNil))) (DL.ret true) (dFrz (dDefN 2 (g_law_same n) (gV (dName 2) (gV (dName 3) gNil)))) (fun pre acc r => ((r = [some (.v x), some (.v x), none, none]) ∨ ∃ d e : D, r = [some (.v x), some (.v x), some (.v d), some (.v e)]) ∧ acc = pre.map fun _ => .bool true) pre acc d r) ∧
        ∀ acc r, ((r = [some (DL.Slot.v x), some (.v x), none, none] ∨ ∃ d e : D, r = [some (.v x), some (.v x), some (.v d), some (.v e)]) ∧ acc = (zipD ds ds).map fun _ => PyData.bool true) → okW r [2, 3] = true ∧ DL.Slot.m acc = .m (ds.map fun _ => .bool true) ∧ restR [some (.v x), some (.v x), none, none] r [2, 3] = [some (.v x), some (.v x), none, none] := by
      refine ⟨rfl, ⟨.inl rfl, rfl⟩, fun pre d post acc r e ⟨hr, ha⟩ => ?_, fun acc r ⟨hr, ha⟩ => ?_⟩
      · have hd : d ∈ zipD ds ds := by rw [e]; simp
        rw [zip_self] at hd e
        obtain ⟨y, hy, rfl⟩ := List.mem_map.mp hd
        have hlen : acc.length < sizeLine := by
          have := congrArg List.length e
          rw [List.length_append, List.length_cons, List.length_map] at this
          rw [ha, List.length_map]
          omega
        have hw : wipeR r [2, 3] = [some (.v x), some (.v x), none, none] := by
          rcases hr with rfl | ⟨d, e, rfl⟩ <;> rfl
        refine ⟨by rcases hr with rfl | ⟨d, e, rfl⟩ <;> rfl, ?_⟩
        rw [hw]
        repeat bv_omega
        refine fq_of (h y hy) ?_
        repeat bv_omega
        exact ⟨hlen, .inr ⟨_, _, rfl⟩, by rw [ha, List.map_append]; rfl⟩
      · refine ⟨by rcases hr with rfl | ⟨d, e, rfl⟩ <;> rfl, ?_, by rcases hr with rfl | ⟨d, e, rfl⟩ <;> rfl⟩
        rw [ha, zip_self, List.map_map]; rfl
    rcases hx with rfl | rfl
    · repeat bv_omega
      exact ⟨_, _, .inl ⟨rfl, rfl⟩, fin⟩
    · repeat bv_omega
      exact ⟨_, _, .inr ⟨rfl, rfl⟩, fin⟩
  rcases hx with rfl | rfl
  all_goals
    repeat bv_omega
    refine yes (by show (false != ((ds.length : Int) == (ds.length : Int))) = true; simp) ?_
    repeat bv_omega
    refine key.imp ?_
    rintro s r ⟨rfl, rfl⟩
    repeat bv_omega
    refine ⟨_, cAll_map (f := fun _ => true), ?_⟩
    repeat bv_omega
    exact ⟨by rw [List.all_eq_true.mpr fun _ _ => rfl], rfl⟩

theorem same_ok : ∀ {n : Nat} {d : D}, Pln n d → g_law_same (n + 1) [.v d, .v d] = .ok (.v (.bool true)) none := by
  intro n d h
  induction h with
  | @lst n ds hl h ih => exact same_rows (.inl rfl) hl ih
  | @tup n ds hl h ih => exact same_rows (.inr rfl) hl ih
  | @non n =>
    refine FQ.eq (fq_run ?_)
    show Rq (m_law_same (g_law_same n) [some (.v .none), some (.v .none), none, none]) _
    unfold m_law_same
    repeat bv_omega
  | @bl n b =>
    refine FQ.eq (fq_run ?_)
    show Rq (m_law_same (g_law_same n) [some (.v (.bool b)), some (.v (.bool b)), none, none]) _
    unfold m_law_same
    cases b <;> repeat bv_omega
  | @int n i =>
    refine FQ.eq (fq_run ?_)
    show Rq (m_law_same (g_law_same n) [some (.v (.int i)), some (.v (.int i)), none, none]) _
    unfold m_law_same
    repeat bv_omega
    refine ⟨?_, rfl⟩
    show DL.Slot.v (PyData.bool (false != (i == i))) = _
    simp
  | @str n s hs =>
    refine FQ.eq (fq_run ?_)
    show Rq (m_law_same (g_law_same n) [some (.v (.str s)), some (.v (.str s)), none, none]) _
    unfold m_law_same
    repeat bv_omega
    refine ⟨_, gEq_ss hs hs, ?_⟩
    repeat bv_omega
    refine ⟨?_, rfl⟩
    rw [decide_eq_true rfl]; rfl
/-! ### lists for tuples -/
theorem lists_row {n : Nat} {ds : List D} {f : D → D} (hl : ds.length ≤ sizeLine) (h : ∀ d ∈ ds, g_law_lists n [.v d] = .ok (.v (f d)) none) : g_law_lists (n + 1) [.v (.tuple ds)] = .ok (.v (.list (ds.map f))) none := by
  refine FQ.eq (fq_run ?_)
  show Rq (m_law_lists (g_law_lists n) [some (.v (.tuple ds)), none]) _
  unfold m_law_lists
  have key : Rq (sComp [1] (iAny (dName 0)) (tName 1) (DL.ret true) (dFrz (dDefN 1 (g_law_lists n) (gV (dName 1) gNil))) [some (.v (.tuple ds)), none]) (fun s r => s = .m (ds.map f) ∧ r = [some (.v (.tuple ds)), none]) := by
    refine rq_comp1 (fun _ => true) f ?_
    repeat bv_omega
    refine ⟨hl, fun d hd => ⟨.ok ⟨rfl, rfl⟩, fun _ => ?_⟩, ?_, rfl⟩
    · repeat bv_omega
      refine fq_of (h d hd) ?_
      repeat bv_omega
    · rw [List.filter_eq_self.mpr (fun _ _ => rfl)]
  repeat bv_omega
  refine key.imp ?_
  rintro s r ⟨rfl, rfl⟩
  repeat bv_omega
theorem lists_str (n : Nat) (s : Str) : g_law_lists (n + 1) [.v (.str s)] = .ok (.v (.str s)) none := by
  refine FQ.eq (fq_run ?_)
  show Rq (m_law_lists (g_law_lists n) [some (.v (.str s)), none]) _
  unfold m_law_lists
  repeat bv_omega
def lst1 : D → D
  | .tuple es => .list es
  | d => d
theorem lists_part {n : Nat} {d : D} (h : (∃ s : Str, d = .str s) ∨ ∃ T : List Str, d = .tuple (T.map .str) ∧ T.length ≤ sizeLine) : g_law_lists (n + 2) [.v d] = .ok (.v (lst1 d)) none := by
  rcases h with ⟨s, rfl⟩ | ⟨T, rfl, hl⟩
  · exact lists_str _ _
  · have := lists_row (n := n + 1) (f := id) (ds := T.map .str) (by rw [List.length_map]; exact hl) fun d hd => by
      obtain ⟨s, _, rfl⟩ := List.mem_map.mp hd
      exact lists_str n s
    rw [List.map_id] at this
    exact this
theorem lists_move (n : Nat) {m : D} (h : Mv m) : g_law_lists (n + 3) [.v m] = .ok (.v (lstD m)) none := by
  cases h with
  | look h1 h2 | tell h1 h2 | take h1 h2 h3 h4 | hand h1 h2 h3 h4 =>
    exact lists_row (n := n + 2) (f := lst1) (Nat.le_of_ble_eq_true rfl) fun d hd => lists_part (n := n) (.inl (by
        simp only [List.mem_cons, List.not_mem_nil, or_false] at hd
        rcases hd with rfl | rfl | rfl | rfl | rfl <;> exact ⟨_, rfl⟩))
  | @person a b T h1 h2 h3 | @thing a b T h1 h2 h3 =>
    exact lists_row (n := n + 2) (f := lst1) (Nat.le_of_ble_eq_true rfl) fun d hd => lists_part (n := n) (by
        simp only [List.mem_cons, List.not_mem_nil, or_false] at hd
        rcases hd with rfl | rfl | rfl | rfl | rfl
        · exact .inl ⟨_, rfl⟩
        · exact .inl ⟨_, rfl⟩
        · exact .inl ⟨_, rfl⟩
        · exact .inl ⟨_, rfl⟩
        · exact .inr ⟨T, rfl, h3.small⟩)
theorem lists_play {ms : List D} (h : ∀ m ∈ ms, Mv m) (hl : ms.length ≤ 1000) : g_law_lists fuel [.v (.tuple ms)] = .ok (.v (.list (ms.map lstD))) none :=
  lists_row (n := 11) (f := lstD) (by rw [sizeLine_eq]; omega) fun m hm => lists_move 8 (h m hm)
theorem lines_sum {ms : List D} (h : ∀ m ∈ ms, Mv m) (hl : ms.length ≤ 1000) : textSum (ms.map lineOf) + (ms.map lineOf).length * Str.length "\n" ≤ 16777216 := by
  have h1 := textSum_le (ss := ms.map lineOf) (k := 210) fun s hs => by
    obtain ⟨m, hm, rfl⟩ := List.mem_map.mp hs
    exact line_len (h m hm)
  have h2 : Str.length "\n" = 1 := by decide +kernel
  rw [List.length_map] at h1 ⊢
  rw [h2]
  omega
theorem play_text_ok {ms : List D} (h : ∀ m ∈ ms, Mv m) (hl : ms.length ≤ 1000) : g_play_text [.v (.list (ms.map lstD))] = .ok (.v (.str (Txt.join "\n" (ms.map lineOf)))) none := by
  refine FQ.eq (fq_run ?_)
  show Rq (m_play_text [some (.v (.list (ms.map lstD))), none]) _
  unfold m_play_text
  have key : Rq (sComp [1] (iAny (dName 0)) (tName 1) (DL.ret true) (dFrz (dDefN 1 g_move_text (gV (dName 1) gNil))) [some (.v (.list (ms.map lstD))), none]) (fun s r => s = .m ((ms.map lineOf).map .str) ∧ r = [some (.v (.list (ms.map lstD))), none]) := by
    refine rq_comp1 (fun _ => true) (fun d => match g_move_text [.v d] with
      | .ok (.v e) _ => e
      | _ => .none) ?_
    repeat bv_omega
    refine ⟨by rw [List.length_map, sizeLine_eq]; omega, fun d hd => ?_, ?_, rfl⟩
    · obtain ⟨m, hm, rfl⟩ := List.mem_map.mp hd
      refine ⟨.ok ⟨rfl, rfl⟩, fun _ => ?_⟩
      repeat bv_omega
      refine fq_of (move_text_ok (h m hm) (.inr rfl)) ?_
      repeat bv_omega
      rw [move_text_ok (h m hm) (.inr rfl)]
      exact ⟨rfl, rfl⟩
    · rw [List.filter_eq_self.mpr (fun _ _ => rfl), List.map_map, List.map_map]
      congr 1
      refine List.map_congr_left fun m hm => ?_
      show (match g_move_text [.v (lstD m)] with
        | .ok (.v e) _ => e
        | _ => PyData.none) = PyData.str (lineOf m)
      rw [move_text_ok (h m hm) (.inr rfl)]
  repeat bv_omega
  refine key.imp ?_
  rintro s r ⟨rfl, rfl⟩
  repeat bv_omega
  refine ⟨_, mJoin_l (lines_sum h hl), ?_⟩
  repeat bv_omega
end DT

/-! P15d: the plain law of k15: books and plays drawn -/
namespace DT
open PySem PySem.Spec PyProof.Rows L2 DL
local macro_rules
  | `(tactic| bv_omega) => `(tactic| first
    | with_reducible refine rq_ret ?_
    | with_reducible refine rq_C ?_
    | with_reducible refine rq_sNil ?_
    | with_reducible refine cont_nx ?_
    | with_reducible refine cont_ret ?_
    | with_reducible refine rq_aNil ?_
    | with_reducible refine rq_gNil ?_
    | with_reducible refine rq_tsNil ?_
    | ((with_reducible refine rq_name' ?_); refine ⟨_, rfl, ?_⟩)
    | ((with_reducible refine rq_nameM' ?_); refine ⟨_, rfl, ?_⟩)
    | ((with_reducible refine rq_gIo' ?_); refine ⟨rfl, ?_⟩)
    | ((with_reducible refine rq_IxO' ?_); refine ⟨rfl, ?_⟩)
    | ((with_reducible refine rq_append' ?_); refine ⟨rfl, ?_⟩)
    | ((with_reducible refine rq_pop' ?_); refine ⟨rfl, ?_⟩)
    | with_reducible refine rq_seq ?_
    | with_reducible refine rq_if ?_
    | with_reducible refine rq_and ?_
    | with_reducible refine rq_or ?_
    | with_reducible refine rq_not ?_
    | with_reducible refine rq_bAnd ?_
    | with_reducible refine rq_bOr ?_
    | with_reducible refine rq_bNot ?_
    | with_reducible refine rq_frz ?_
    | with_reducible refine rq_call ?_
    | with_reducible refine rq_set ?_
    | with_reducible refine rq_par ?_
    | with_reducible refine rq_setIx ?_
    | with_reducible refine rq_Bin ?_
    | with_reducible refine rq_Test ?_
    | with_reducible refine rq_Truth ?_
    | with_reducible refine rq_Call ?_
    | with_reducible refine rq_aCons ?_
    | with_reducible refine rq_aStar ?_
    | with_reducible refine rq_Tup ?_
    | with_reducible refine rq_Lst ?_
    | with_reducible refine rq_sLst ?_
    | with_reducible refine rq_sV ?_
    | with_reducible refine rq_sRet ?_
    | with_reducible refine rq_Isi ?_
    | with_reducible refine rq_Meth ?_
    | with_reducible refine rq_Slice ?_
    | with_reducible refine rq_oInt ?_
    | with_reducible refine rq_Chain ?_
    | with_reducible refine rq_gV ?_
    | with_reducible refine rq_iAny ?_
    | with_reducible refine rq_iEnum ?_
    | with_reducible refine rq_iZip ?_
    | with_reducible refine rq_LenO' ?_
    | with_reducible refine rq_SD ?_
    | with_reducible refine rq_iRange ?_
    | with_reducible refine rq_listOf ?_
    | with_reducible refine rq_cat ?_
    | with_reducible refine rq_orT ?_
    | with_reducible refine rq_asg ?_
    | with_reducible refine rq_tsCons ?_
    | with_reducible refine rq_tTup ?_
    | with_reducible refine rq_tLst ?_
    | refine yes rfl ?_
    | refine noo rfl ?_
    | refine yes (by decide +kernel) ?_
    | refine noo (by decide +kernel) ?_
    | with_reducible refine ⟨_, gAdd_ii, ?_⟩
    | ((with_reducible refine ⟨_, gIn_t2 ?_ ?_ ?_, ?_⟩); (· decide +kernel); (· decide +kernel); (· decide +kernel))
    | ((with_reducible refine ⟨_, gEq_ss ?_ ?_, ?_⟩); (· decide +kernel); (· decide +kernel))
    | with_reducible refine ⟨_, gSub_ii, ?_⟩
    | with_reducible refine ⟨_, gGt_ii, ?_⟩
    | with_reducible refine ⟨_, gGe_ii, ?_⟩
    | with_reducible refine ⟨_, gLe_ii, ?_⟩
    | with_reducible refine ⟨_, gLt_ii, ?_⟩
    | with_reducible refine ⟨_, gLt_ss, ?_⟩
    | with_reducible refine ⟨_, cLen_l, ?_⟩
    | with_reducible refine ⟨_, cLen_t, ?_⟩
    | with_reducible refine ⟨_, cInt_i, ?_⟩
    | with_reducible refine ⟨_, cInt_b, ?_⟩
    | with_reducible refine ⟨_, cAbs_i, ?_⟩
    | ((with_reducible refine ⟨_, gMod_ii ?_, ?_⟩); · decide)
    | ((with_reducible refine ⟨_, gDiv_ii ?_, ?_⟩); · decide)
    | ((with_reducible refine ⟨_, gMul_ii ?_, ?_⟩); · first | exact .inl (by decide) | exact .inr (by decide))
    | refine ⟨_, rfl, ?_⟩
    | refine ⟨_, _, _, rfl, rfl, rfl, ?_⟩
    | refine ⟨rfl, _, _, rfl, ?_⟩
    | refine ⟨rfl, ?_⟩
    | (refine free_at rfl ?_ ?_; · first | exact np_none | exact np_v | exact np_m | assumption)
    | with_reducible refine rq_tName' ?_
    | refine ⟨Nat.le_of_ble_eq_true rfl, ?_⟩
    | refine .inl ⟨_, rfl, ?_⟩
    | refine .inr ⟨_, rfl, ?_⟩
    | refine .inr (.inl ⟨_, rfl, ?_⟩)
    | refine .inr (.inr ⟨_, rfl, ?_⟩)
    | refine ⟨_, _, rfl, rfl, ?_⟩)

theorem cSorted_strs (ss : List Str) : cSorted [.list (ss.map .str)] = some (.list ((ss.mergeSort sLe).map .str)) := by
  show chkS _ = _
  unfold chkS
  rw [if_pos (srtB_strs ss), srt_strs]
def cutS (xs : List Str) (lo hi : Option Int) : List Str := (xs.drop (HT.sIx xs.length 0 lo)).take (HT.sIx xs.length xs.length hi - HT.sIx xs.length 0 lo)
theorem cut_strs (xs : List Str) (lo hi : Option Int) : DL.cutD (xs.map .str) lo hi = (cutS xs lo hi).map .str := by
  unfold DL.cutD cutS
  rw [List.length_map, List.map_take, List.map_drop]
theorem cutS_mem {xs : List Str} {lo hi : Option Int} {d : Str} (h : d ∈ cutS xs lo hi) : d ∈ xs := List.mem_of_mem_drop (List.mem_of_mem_take h)
theorem cutS_len {xs : List Str} {lo hi : Option Int} : (cutS xs lo hi).length ≤ xs.length := by
  unfold cutS
  rw [List.length_take, List.length_drop]
  omega
def Row3 (t : List Str) : Prop := ∃ x y z : Str, t = [x, y, z] ∧ Nm x ∧ Nm y ∧ Nm z
def Bk (N : Nat) (d : D) : Prop := ∃ (a b : List Str) (rows : List (List Str)), d = .tuple [.tuple (a.map .str), .tuple (b.map .str), .tuple (rows.map rowD)] ∧ (∀ s ∈ a, Nm s) ∧ (∀ s ∈ b, Nm s) ∧ (∀ t ∈ rows, Row3 t) ∧ a.length ≤ N ∧ b.length ≤ N ∧ rows.length ≤ N
def folkS : List Str := ["ann", "bob", "cy", "dan", "eva", "fay", "gus", "hal", "ivy", "jo", "kay", "lou", "mo", "ned", "oz", "pam", "quin", "ray", "sue", "tom", "una", "vic", "wes", "xan"]
def goodsS : List Str := ["box", "car", "den", "egg", "fan", "gem", "hat", "ink", "jar", "key", "lid", "mug", "net", "oar", "pen", "rug", "sack", "tin", "urn", "van", "web", "yarn", "zip", "cup"]
def rightsS : List Str := ["look", "tell", "take", "hand", "own"]
theorem nm_all {l : List Str} (h : l.all (fun s => nameB s && PyData.strOk s) = true) : ∀ s ∈ l, Nm s := fun s hs => by
  have := List.all_eq_true.mp h s hs
  rw [Bool.and_eq_true] at this
  exact this
theorem folk_nm : ∀ s ∈ folkS, Nm s := nm_all (by decide +kernel)
theorem goods_nm : ∀ s ∈ goodsS, Nm s := nm_all (by decide +kernel)
theorem rights_nm : ∀ s ∈ rightsS, Nm s := nm_all (by decide +kernel)
theorem cut_sorted {l : List Str} (hl : l.length ≤ 24) (h : ∀ s ∈ l, Nm s) (lo hi : Option Int) : ∃ A : List Str, cSorted [.list (DL.cutD (l.map .str) lo hi)] = some (.list (A.map .str)) ∧ (∀ s ∈ A, Nm s) ∧ A.length ≤ 24 := by
  refine ⟨(cutS l lo hi).mergeSort sLe, by rw [cut_strs, cSorted_strs], fun s hs => h s (cutS_mem (List.mem_mergeSort.mp hs)), ?_⟩
  rw [List.length_mergeSort]
  exact Nat.le_trans cutS_len hl
theorem gAdd_ll {x y : List D} (h : x.length + y.length ≤ sizeLine) : gAdd (.list x) (.list y) = some (.list (x ++ y)) := by
  have e : gAddL (.list x) (.list y) = some (.list (x ++ y)) := if_pos h
  show (match gAddL (.list x) (.list y) with
    | some c => some c
    | none => gAddT (.list x) (.list y)) = _
  rw [e]
theorem gAdd_strs {a b : List Str} (h : a.length + b.length ≤ sizeLine) : gAdd (.list (a.map .str)) (.list (b.map .str)) = some (.list ((a ++ b).map .str)) := by
  rw [List.map_append]
  exact gAdd_ll (by rw [List.length_map, List.length_map]; exact h)
theorem gEq_l0 {neg : Bool} {T : List Str} (h : ∀ s ∈ T, PyData.strOk s = true) : gEq neg (.list (T.map .str)) (.list []) = some (.bool (neg != decide (T = []))) := by
  have e2 : SeqAt.shaped (.list []) = true := by simp [SeqAt.shaped, PyData.canLay0, PyData.canLayAll0, PyData.depth, PyData.depthAll]
  unfold gEq
  rw [shaped_strs h, e2]
  cases T with
  | nil => rfl
  | cons a T => rfl
theorem book_spec {N : Nat} {l : List D} (h : TinOk N l) (hN : N < 2 ^ 58) {p q : Int} : FQ (g_law_book [.p l, .v (.int p), .v (.int q), .v (.int 14), .v (.list (rightsS.map .str))]) (fun s o => ∃ d l', s = .v d ∧ o = some l' ∧ Bk 24 d ∧ TinOk (N + 100) l') := by
  refine fq_run ?_
  show Rq (m_law_book [some (.p l), some (.v (.int p)), some (.v (.int q)), some (.v (.int 14)), some (.v (.list (rightsS.map .str))), none, none, none, none, none, none, none, none]) _
  unfold m_law_book
  obtain ⟨A, hA1, hA2, hA3⟩ := cut_sorted (l := folkS) (by decide) folk_nm none (some p)
  obtain ⟨B, hB1, hB2, hB3⟩ := cut_sorted (l := goodsS) (by decide) goods_nm none (some q)
  refine rq_seq (rq_set ?_)
  repeat bv_omega
  refine ⟨_, hA1, ?_⟩
  repeat bv_omega
  refine ⟨_, hB1, ?_⟩
  repeat bv_omega
  refine ⟨_, gAdd_strs (by rw [sizeLine_eq]; omega), ?_⟩
  repeat bv_omega
  have hAB : ∀ s ∈ A ++ B, Nm s := fun s hs => (List.mem_append.mp hs).elim (hA2 s) (hB2 s)
  refine rq_for (fun pre r => ∃ (tin : List D) (rows : List (List Str)) (x y : Option Slot), r = [some (.p tin), some (.v (.int p)), some (.v (.int q)), some (.v (.int 14)), some (.v (.list (rightsS.map .str))), some (.v (.list (folkS.map .str))), some (.v (.list (goodsS.map .str))),
    some (.v (.tuple (A.map .str))), some (.v (.tuple (B.map .str))), some (.m (rows.map rowD)), some (.v (.list ((A ++ B).map .str))), x, y] ∧ NP x ∧ NP y ∧ TinOk (N + 1 + 4 * pre.length) tin ∧ (∀ t ∈ rows, Row3 t) ∧ rows.length = pre.length ∧ (pre ≠ [] → A ++ B ≠ [])) ?_
  refine rq_iRange (rq_if ?_)
  repeat bv_omega
  refine ⟨_, gEq_l0 (fun s hs => (hAB s hs).2), ?_⟩
  repeat bv_omega
  refine ⟨fun e => ?_, fun e => ?_⟩
  · have hne : A ++ B ≠ [] := of_decide_eq_false (gNot e)
    have hlen : (A ++ B).length ≤ 48 := by rw [List.length_append]; omega
    repeat bv_omega
    refine (take_spec h (by omega) (n := 14 + 1) (by omega) (by omega)).imp ?_
    rintro s o ⟨m, l', rfl, rfl, hm, ht⟩
    repeat bv_omega
    refine ⟨by omega, by omega, ⟨l', [], none, none, rfl, np_none, np_none, ht, (fun t h => nomatch h), rfl, fun z => absurd rfl z⟩, fun pre d post r e2 hI => ?_, fun r hI => ?_⟩
    · obtain ⟨tin, rows, x, y, rfl, hx, hy, ht', hr, hrl, _⟩ := hI
      have hpl : pre.length < 15 := by
        have := congrArg List.length e2
        rw [List.length_append, List.length_cons, List.length_map, List.length_range] at this
        omega
      refine rq_tName ⟨_, rfl, hx⟩ ?_
      have tail : ∀ (w : Str) (tin' : List D), Nm w → TinOk (N + 1 + 4 * pre.length + 2) tin' → Rq (sAppend 9 (dTup (aCons (dName 12) (aCons (dFrz (dDefN 2 g_law_of (gIo 0 (gV (dName 4) gNil)))) (aCons (dFrz (dDefN 2 g_law_of (gIo 0 (gV (dName 10) gNil)))) aNil))))
          [some (.p tin'), some (.v (.int p)), some (.v (.int q)), some (.v (.int 14)), some (.v (.list (rightsS.map .str))), some (.v (.list (folkS.map .str))), some (.v (.list (goodsS.map .str))), some (.v (.tuple (A.map .str))), some (.v (.tuple (B.map .str))), some (.m (rows.map rowD)), some (.v (.list ((A ++ B).map .str))), some (.v d), some (.v (.str w))])
          (fun fl r3 => fl = .nx ∧ ∃ (tin : List D) (rows : List (List Str)) (x y : Option DL.Slot), r3 = [some (.p tin), some (.v (.int p)), some (.v (.int q)), some (.v (.int 14)), some (.v (.list (rightsS.map .str))), some (.v (.list (folkS.map .str))), some (.v (.list (goodsS.map .str))),
            some (.v (.tuple (A.map .str))), some (.v (.tuple (B.map .str))), some (.m (rows.map rowD)), some (.v (.list ((A ++ B).map .str))), x, y] ∧ NP x ∧ NP y ∧ TinOk (N + 1 + 4 * (pre ++ [d]).length) tin ∧ (∀ t ∈ rows, Row3 t) ∧ rows.length = (pre ++ [d]).length ∧ (pre ++ [d] ≠ [] → A ++ B ≠ [])) := fun w tin' hw htw => by
        repeat bv_omega
        refine (of_spec (ds := rightsS.map .str) htw (by omega) (by decide) (by decide)).imp ?_
        rintro s o ⟨d1, l1, rfl, rfl, hd1, ht1⟩
        obtain ⟨r1, hr1, rfl⟩ := List.mem_map.mp hd1
        repeat bv_omega
        refine (of_spec (ds := (A ++ B).map .str) ht1 (by omega) (by simpa using hne) (by rw [List.length_map]; omega)).imp ?_
        rintro s o ⟨d2, l2, rfl, rfl, hd2, ht2⟩
        obtain ⟨r2, hr2, rfl⟩ := List.mem_map.mp hd2
        repeat bv_omega
        have e8 : rows.map rowD ++ [PyData.tuple [.str w, .str r1, .str r2]] = (rows ++ [[w, r1, r2]]).map rowD := by rw [List.map_append]; rfl
        rw [e8]
        refine ⟨by rw [List.length_map, sizeLine_eq]; omega, rfl, _, rows ++ [[w, r1, r2]], _, _, rfl, np_v, np_v, ?_, fun t ht => ?_, ?_, fun _ => hne⟩
        · rw [List.length_append, List.length_singleton]
          exact ht2.mono (by omega)
        · rcases List.mem_append.mp ht with ht | ht
          · exact hr t ht
          · rw [List.mem_singleton.mp ht]
            exact ⟨w, r1, r2, rfl, hw, rights_nm r1 hr1, hAB r2 hr2⟩
        · rw [List.length_append, List.length_append, hrl]; rfl
      repeat bv_omega
      refine ⟨_, gEq_t0 (fun s hs => (hA2 s hs).2), ?_⟩
      repeat bv_omega
      generalize (sAppend 9 (dTup (aCons (dName 12) (aCons (dFrz (dDefN 2 g_law_of (gIo 0 (gV (dName 4) gNil)))) (aCons (dFrz (dDefN 2 g_law_of (gIo 0 (gV (dName 10) gNil)))) aNil))))) = bT at tail ⊢
      have drawn : ∀ (S : List Str) (t : List D), S ≠ [] → S.length ≤ 48 → (∀ s ∈ S, Nm s) → TinOk (N + 1 + 4 * pre.length + 1) t → FQ (g_law_of [.p t, .v (.list (S.map .str))]) (fun s o => ∃ w l', s = .v (.str w) ∧ o = some l' ∧ Nm w ∧ TinOk (N + 1 + 4 * pre.length + 2) l') := fun S t h0 h1 h2 h3 => (of_spec h3 (by omega) (by simpa using h0) (by rw [List.length_map]; omega)).imp (by
        rintro s o ⟨d', l1, rfl, rfl, hd, ht1⟩
        obtain ⟨w, hw, rfl⟩ := List.mem_map.mp hd
        exact ⟨w, l1, rfl, rfl, h2 w hw, ht1⟩)
      refine ⟨fun eA => ?_, fun eA => ?_⟩
      · have hA0 : A ≠ [] := of_decide_eq_false (gNot eA)
        repeat bv_omega
        refine (take_spec ht' (by omega) (n := 4) (by decide) (by decide)).imp ?_
        rintro s o ⟨m4, l4, rfl, rfl, _, ht4⟩
        repeat bv_omega
        refine ⟨fun eg => ?_, fun eg => ?_⟩
        · repeat bv_omega
          refine (drawn A l4 hA0 (by omega) hA2 ht4).imp ?_
          rintro s o ⟨w, l5, rfl, rfl, hw, ht5⟩
          repeat bv_omega
          exact (tail w l5 hw ht5).imp fun fl r3 ⟨e, q⟩ => by subst e; exact q
        · repeat bv_omega
          refine (drawn (A ++ B) l4 hne hlen hAB ht4).imp ?_
          rintro s o ⟨w, l5, rfl, rfl, hw, ht5⟩
          repeat bv_omega
          exact (tail w l5 hw ht5).imp fun fl r3 ⟨e, q⟩ => by subst e; exact q
      · repeat bv_omega
        refine (drawn (A ++ B) tin hne hlen hAB (ht'.mono (by omega))).imp ?_
        rintro s o ⟨w, l5, rfl, rfl, hw, ht5⟩
        repeat bv_omega
        exact (tail w l5 hw ht5).imp fun fl r3 ⟨e, q⟩ => by subst e; exact q
    · obtain ⟨tin, rows, x, y, rfl, hx, hy, ht', hr, hrl, _⟩ := hI
      have e3 : ((List.range (m : Int).toNat).map fun i => PyData.int (0 + (i : Nat))).length = m := by simp
      rw [e3] at ht' hrl
      obtain ⟨T, hT1, hT2, hT3⟩ := law_set_rows (x := .list (rows.map rowD)) (ts := rows) (.inl rfl) (by rw [sizeLine_eq]; omega) fun t ht => by
        obtain ⟨a, b, c, rfl, _⟩ := hr t ht
        exact fun z => nomatch z
      repeat bv_omega
      refine fq_of hT1 ?_
      repeat bv_omega
      exact ⟨⟨A, B, T, rfl, hA2, hB2, fun t ht => hr t ((hT2 t).mp ht), hA3, hB3, by omega⟩, ht'.mono (by omega)⟩
  · repeat bv_omega
    refine ⟨by omega, by omega, ⟨l, [], none, none, rfl, np_none, np_none, h.mono (by omega), (fun t h => nomatch h), rfl, fun z => absurd rfl z⟩, fun pre d post r e2 hI => ?_, fun r hI => ?_⟩
    · have := congrArg List.length e2
      simp at this
    · obtain ⟨tin, rows, x, y, rfl, hx, hy, ht', hr, hrl, _⟩ := hI
      have hr0 : rows = [] := List.length_eq_zero_iff.mp hrl
      subst hr0
      obtain ⟨T, hT1, hT2, hT3⟩ := law_set_rows (x := .list (([] : List (List Str)).map rowD)) (ts := []) (.inl rfl) (Nat.zero_le _) fun t ht => by cases ht
      repeat bv_omega
      have e9 : srt (List.map keyD (dedN [])) = [] := by
        unfold srt dedN
        simp
      rw [e9]
      exact ⟨⟨A, B, [], rfl, hA2, hB2, (fun t ht => nomatch ht), hA3, hB3, Nat.zero_le _⟩, ht'.mono (by
        show N + 1 + 4 * 0 ≤ N + 100
        omega)⟩
end DT

/-! P15e: the plain law of k15, on -/
namespace DT
open PySem PySem.Spec PyProof.Rows L2 DL
local macro_rules
  | `(tactic| bv_omega) => `(tactic| first
    | with_reducible refine rq_ret ?_
    | with_reducible refine rq_C ?_
    | with_reducible refine rq_sNil ?_
    | with_reducible refine cont_nx ?_
    | with_reducible refine cont_ret ?_
    | with_reducible refine rq_aNil ?_
    | with_reducible refine rq_gNil ?_
    | with_reducible refine rq_tsNil ?_
    | ((with_reducible refine rq_name' ?_); refine ⟨_, rfl, ?_⟩)
    | ((with_reducible refine rq_nameM' ?_); refine ⟨_, rfl, ?_⟩)
    | ((with_reducible refine rq_gIo' ?_); refine ⟨rfl, ?_⟩)
    | ((with_reducible refine rq_IxO' ?_); refine ⟨rfl, ?_⟩)
    | ((with_reducible refine rq_append' ?_); refine ⟨rfl, ?_⟩)
    | ((with_reducible refine rq_pop' ?_); refine ⟨rfl, ?_⟩)
    | with_reducible refine rq_seq ?_
    | with_reducible refine rq_if ?_
    | with_reducible refine rq_and ?_
    | with_reducible refine rq_or ?_
    | with_reducible refine rq_not ?_
    | with_reducible refine rq_bAnd ?_
    | with_reducible refine rq_bOr ?_
    | with_reducible refine rq_bNot ?_
    | with_reducible refine rq_frz ?_
    | with_reducible refine rq_call ?_
    | with_reducible refine rq_set ?_
    | with_reducible refine rq_par ?_
    | with_reducible refine rq_setIx ?_
    | with_reducible refine rq_Bin ?_
    | with_reducible refine rq_Test ?_
    | with_reducible refine rq_Truth ?_
    | with_reducible refine rq_Call ?_
    | with_reducible refine rq_aCons ?_
    | with_reducible refine rq_aStar ?_
    | with_reducible refine rq_Tup ?_
    | with_reducible refine rq_Lst ?_
    | with_reducible refine rq_sLst ?_
    | with_reducible refine rq_sV ?_
    | with_reducible refine rq_sRet ?_
    | with_reducible refine rq_Isi ?_
    | with_reducible refine rq_Meth ?_
    | with_reducible refine rq_Slice ?_
    | with_reducible refine rq_oInt ?_
    | with_reducible refine rq_Chain ?_
    | with_reducible refine rq_gV ?_
    | with_reducible refine rq_iAny ?_
    | with_reducible refine rq_iEnum ?_
    | with_reducible refine rq_iZip ?_
    | with_reducible refine rq_LenO' ?_
    | with_reducible refine rq_SD ?_
    | with_reducible refine rq_iRange ?_
    | with_reducible refine rq_listOf ?_
    | with_reducible refine rq_cat ?_
    | with_reducible refine rq_orT ?_
    | with_reducible refine rq_asg ?_
    | with_reducible refine rq_tsCons ?_
    | with_reducible refine rq_tTup ?_
    | with_reducible refine rq_tLst ?_
    | refine yes rfl ?_
    | refine noo rfl ?_
    | refine yes (by decide +kernel) ?_
    | refine noo (by decide +kernel) ?_
    | with_reducible refine ⟨_, gAdd_ii, ?_⟩
    | ((with_reducible refine ⟨_, gIn_t2 ?_ ?_ ?_, ?_⟩); (· decide +kernel); (· decide +kernel); (· decide +kernel))
    | ((with_reducible refine ⟨_, gEq_ss ?_ ?_, ?_⟩); (· decide +kernel); (· decide +kernel))
    | with_reducible refine ⟨_, gSub_ii, ?_⟩
    | with_reducible refine ⟨_, gGt_ii, ?_⟩
    | with_reducible refine ⟨_, gGe_ii, ?_⟩
    | with_reducible refine ⟨_, gLe_ii, ?_⟩
    | with_reducible refine ⟨_, gLt_ii, ?_⟩
    | with_reducible refine ⟨_, gLt_ss, ?_⟩
    | with_reducible refine ⟨_, cLen_l, ?_⟩
    | with_reducible refine ⟨_, cLen_t, ?_⟩
    | with_reducible refine ⟨_, cInt_i, ?_⟩
    | with_reducible refine ⟨_, cInt_b, ?_⟩
    | with_reducible refine ⟨_, cAbs_i, ?_⟩
    | ((with_reducible refine ⟨_, gMod_ii ?_, ?_⟩); · decide)
    | ((with_reducible refine ⟨_, gDiv_ii ?_, ?_⟩); · decide)
    | ((with_reducible refine ⟨_, gMul_ii ?_, ?_⟩); · first | exact .inl (by decide) | exact .inr (by decide))
    | refine ⟨_, rfl, ?_⟩
    | refine ⟨_, _, _, rfl, rfl, rfl, ?_⟩
    | refine ⟨rfl, _, _, rfl, ?_⟩
    | refine ⟨rfl, ?_⟩
    | (refine free_at rfl ?_ ?_; · first | exact np_none | exact np_v | exact np_m | assumption)
    | with_reducible refine rq_tName' ?_
    | refine ⟨Nat.le_of_ble_eq_true rfl, ?_⟩
    | refine .inl ⟨_, rfl, ?_⟩
    | refine .inr ⟨_, rfl, ?_⟩
    | refine .inr (.inl ⟨_, rfl, ?_⟩)
    | refine .inr (.inr ⟨_, rfl, ?_⟩)
    | refine ⟨_, _, rfl, rfl, ?_⟩)
theorem gNotIn_ss {a : Str} {t : List Str} (ha : PyData.strOk a = true) (h : ∀ s ∈ t, PyData.strOk s = true) : gNotIn (.str a) (.tuple (t.map .str)) = some (.bool (true != t.any fun z => decide (z = a))) := by
  unfold gNotIn gInL
  simp only [shaped_str ha, shaped_strs h, Bool.and_self, if_true, List.any_map]
  congr 2
  all_goals simp [Function.comp_def, eqv_ss]
theorem gAdd_tt {x y : List D} (h : x.length + y.length ≤ sizeLine) : gAdd (.tuple x) (.tuple y) = some (.tuple (x ++ y)) := by
  have e : gAddT (.tuple x) (.tuple y) = some (.tuple (x ++ y)) := if_pos h
  exact e
theorem gAdd_row {rows : List (List Str)} {x y z : Str} (h : rows.length + 1 ≤ sizeLine) : gAdd (.list (rows.map rowD)) (.list [.tuple [.str x, .str y, .str z]]) = some (.list ((rows ++ [[x, y, z]]).map rowD)) := by
  rw [List.map_append]
  exact gAdd_ll (by rw [List.length_map]; exact h)
theorem gAdd_rows {rows new : List (List Str)} (h : rows.length + new.length ≤ sizeLine) : gAdd (.list (rows.map rowD)) (.list (new.map rowD)) = some (.list ((rows ++ new).map rowD)) := by
  rw [List.map_append]
  exact gAdd_ll (by rw [List.length_map, List.length_map]; exact h)
theorem gAdd_one {A : List Str} {b : Str} (h : A.length + 1 ≤ sizeLine) : gAdd (.tuple (A.map .str)) (.tuple [.str b]) = some (.tuple ((A ++ [b]).map .str)) := by
  rw [List.map_append]
  exact gAdd_tt (by rw [List.length_map]; exact h)
theorem Bk.mono {N M : Nat} {d : D} (h : Bk N d) (k : N ≤ M) : Bk M d := by
  obtain ⟨a, b, rows, e, h1, h2, h3, h4, h5, h6⟩ := h
  exact ⟨a, b, rows, e, h1, h2, h3, by omega, by omega, by omega⟩
theorem may_spec {N : Nat} {bk : D} (hk : Bk N bk) {a b k : Str} {x : D} (ha : Nm a) (hb : Nm b) : FQ (g_law_may [.v bk, .v (.tuple [.str "make", .str a, .str b, .str k, x])]) (fun s o => ∃ t, s = .v (.bool t) ∧ o = none) := by
  obtain ⟨A, B, rows, rfl, hA, hB, hR, _⟩ := hk
  refine fq_run ?_
  show Rq (m_law_may [some (.v _), some (.v _)]) _
  unfold m_law_may
  repeat bv_omega
  refine ⟨_, gNotIn_ss ha.2 (fun s hs => (hA s hs).2), ?_⟩
  repeat bv_omega
  refine ⟨fun e => ?_, fun e => ?_⟩
  · repeat bv_omega
  · repeat bv_omega
    refine ⟨_, gNotIn_ss hb.2 (fun s hs => (hA s hs).2), ?_⟩
    repeat bv_omega
    refine ⟨fun e => ?_, fun e => ?_⟩
    · repeat bv_omega
      refine ⟨_, gNotIn_ss hb.2 (fun s hs => (hB s hs).2), ?_⟩
      repeat bv_omega
    · repeat bv_omega
theorem done_spec {N : Nat} {bk m : D} (hb : Bk N bk) (hN : N ≤ 10000) (hm : Mv m) : FQ (g_law_done [.v bk, .v m]) (fun s o => ∃ d, s = .v d ∧ o = none ∧ Bk (N + 5) d) := by
  obtain ⟨A, B, rows, rfl, hA, hB, hR, h1, h2, h3⟩ := hb
  have hR0 : ∀ t ∈ rows, t ≠ [] := fun t ht => by
    obtain ⟨a, b, c, rfl, _⟩ := hR t ht
    exact fun z => nomatch z
  have szl := sizeLine_eq
  have new : ∀ t, Row3 t → ∃ T : List (List Str), g_law_set [.v (.list ((rows ++ [t]).map rowD))] = .ok (.v (.tuple (T.map rowD))) none ∧ (∀ u ∈ T, Row3 u) ∧ T.length ≤ rows.length + 1 := fun t ht => by
    obtain ⟨T, e1, e2, e3⟩ := law_set_rows (x := .list ((rows ++ [t]).map rowD)) (ts := rows ++ [t]) (.inl rfl) (by rw [List.length_append, List.length_singleton]; omega) fun u hu => by
      rcases List.mem_append.mp hu with hu | hu
      · exact hR0 u hu
      · rw [List.mem_singleton.mp hu]
        obtain ⟨a, b, c, rfl, _⟩ := ht
        exact fun z => nomatch z
    refine ⟨T, e1, fun u hu => ?_, by rw [List.length_append, List.length_singleton] at e3; exact e3⟩
    rcases List.mem_append.mp ((e2 u).mp hu) with hu | hu
    · exact hR u hu
    · rw [List.mem_singleton.mp hu]; exact ht
  refine fq_run ?_
  show Rq (m_law_done [some (.v (.tuple [.tuple (A.map .str), .tuple (B.map .str), .tuple (rows.map rowD)])), some (.v m), none, none, none, none, none, none]) _
  unfold m_law_done
  cases hm with
  | look g1 g2 | tell g1 g2 =>
    repeat bv_omega
    exact ⟨A, B, rows, rfl, hA, hB, hR, by omega, by omega, by omega⟩
  | @take a b c d g1 g2 g3 g4 =>
    obtain ⟨T, e1, e2, e3⟩ := new [a, c, d] ⟨a, c, d, rfl, g1, g3, g4⟩
    repeat bv_omega
    refine ⟨_, gAdd_row (by omega), ?_⟩
    repeat bv_omega
    refine fq_of e1 ?_
    repeat bv_omega
    exact ⟨A, B, T, rfl, hA, hB, e2, by omega, by omega, by omega⟩
  | @hand a b c d g1 g2 g3 g4 =>
    obtain ⟨T, e1, e2, e3⟩ := new [b, c, d] ⟨b, c, d, rfl, g2, g3, g4⟩
    repeat bv_omega
    refine ⟨_, gAdd_row (by omega), ?_⟩
    repeat bv_omega
    refine fq_of e1 ?_
    repeat bv_omega
    exact ⟨A, B, T, rfl, hA, hB, e2, by omega, by omega, by omega⟩
  | @person a b T g1 g2 g3 =>
    have hT := g3.len
    have e5 : List.map (fun d => PyData.tuple [.str a, d, .str b]) (T.map .str) = (T.map fun t => [a, t, b]).map rowD := by rw [List.map_map, List.map_map]; rfl
    obtain ⟨T2, k1, k2, k3⟩ := law_set_rows (x := .list ((rows ++ T.map fun t => [a, t, b]).map rowD)) (ts := rows ++ T.map fun t => [a, t, b]) (.inl rfl) (by rw [List.length_append, List.length_map]; omega) fun u hu => by
      rcases List.mem_append.mp hu with hu | hu
      · exact hR0 u hu
      · obtain ⟨t, _, rfl⟩ := List.mem_map.mp hu
        exact fun z => nomatch z
    obtain ⟨A2, j1, j2, j3, _⟩ := law_set_strs (x := .tuple ((A ++ [b]).map .str)) (ss := A ++ [b]) (.inr rfl) (by rw [List.length_append, List.length_singleton]; omega)
    rw [List.length_append, List.length_map] at k3
    rw [List.length_append, List.length_singleton] at j3
    have k4 : ∀ u ∈ T2, Row3 u := fun u hu => by
      rcases List.mem_append.mp ((k2 u).mp hu) with hu | hu
      · exact hR u hu
      · obtain ⟨t, ht, rfl⟩ := List.mem_map.mp hu
        exact ⟨a, t, b, rfl, g1, g3.nm t ht, g2⟩
    have j4 : ∀ u ∈ A2, Nm u := fun u hu => by
      rcases List.mem_append.mp ((j2 u).mp hu) with hu | hu
      · exact hA u hu
      · rw [List.mem_singleton.mp hu]; exact g2
    repeat bv_omega
    refine rq_comp1 (fun _ => true) (fun d => .tuple [.str a, d, .str b]) ?_
    repeat bv_omega
    refine ⟨by rw [List.length_map]; omega, fun d hd => ⟨.ok ⟨rfl, rfl⟩, fun _ => ?_⟩, ?_⟩
    · repeat bv_omega
    · rw [List.filter_eq_self.mpr (fun _ _ => rfl), e5]
      repeat bv_omega
      refine ⟨_, gAdd_one (by omega), ?_⟩
      repeat bv_omega
      refine fq_of j1 ?_
      repeat bv_omega
      refine ⟨_, gAdd_rows (by rw [List.length_map]; omega), ?_⟩
      repeat bv_omega
      refine fq_of k1 ?_
      repeat bv_omega
      exact ⟨A2, B, T2, rfl, j4, hB, k4, by omega, by omega, by omega⟩
  | @thing a b T g1 g2 g3 =>
    have hT := g3.len
    have e5 : List.map (fun d => PyData.tuple [.str a, d, .str b]) (T.map .str) = (T.map fun t => [a, t, b]).map rowD := by rw [List.map_map, List.map_map]; rfl
    obtain ⟨T2, k1, k2, k3⟩ := law_set_rows (x := .list ((rows ++ T.map fun t => [a, t, b]).map rowD)) (ts := rows ++ T.map fun t => [a, t, b]) (.inl rfl) (by rw [List.length_append, List.length_map]; omega) fun u hu => by
      rcases List.mem_append.mp hu with hu | hu
      · exact hR0 u hu
      · obtain ⟨t, _, rfl⟩ := List.mem_map.mp hu
        exact fun z => nomatch z
    obtain ⟨A2, j1, j2, j3, _⟩ := law_set_strs (x := .tuple ((B ++ [b]).map .str)) (ss := B ++ [b]) (.inr rfl) (by rw [List.length_append, List.length_singleton]; omega)
    rw [List.length_append, List.length_map] at k3
    rw [List.length_append, List.length_singleton] at j3
    have k4 : ∀ u ∈ T2, Row3 u := fun u hu => by
      rcases List.mem_append.mp ((k2 u).mp hu) with hu | hu
      · exact hR u hu
      · obtain ⟨t, ht, rfl⟩ := List.mem_map.mp hu
        exact ⟨a, t, b, rfl, g1, g3.nm t ht, g2⟩
    have j4 : ∀ u ∈ A2, Nm u := fun u hu => by
      rcases List.mem_append.mp ((j2 u).mp hu) with hu | hu
      · exact hB u hu
      · rw [List.mem_singleton.mp hu]; exact g2
    repeat bv_omega
    refine rq_comp1 (fun _ => true) (fun d => .tuple [.str a, d, .str b]) ?_
    repeat bv_omega
    refine ⟨by rw [List.length_map]; omega, fun d hd => ⟨.ok ⟨rfl, rfl⟩, fun _ => ?_⟩, ?_⟩
    · repeat bv_omega
    · rw [List.filter_eq_self.mpr (fun _ _ => rfl), e5]
      repeat bv_omega
      refine ⟨_, gAdd_one (by omega), ?_⟩
      repeat bv_omega
      refine fq_of j1 ?_
      repeat bv_omega
      refine ⟨_, gAdd_rows (by rw [List.length_map]; omega), ?_⟩
      repeat bv_omega
      refine fq_of k1 ?_
      repeat bv_omega
      exact ⟨A, A2, T2, rfl, hA, j4, k4, by omega, by omega, by omega⟩
theorem Nm.sh {s : Str} (h : Nm s) : PyData.strOk s = true := h.2
/-! ### shaped moves -/
theorem mv_can {m : D} (h : Mv m) : PyData.canLay0 m = true ∧ PyData.depth m ≤ 2 := by
  cases h with
  | look g1 g2 | tell g1 g2 =>
    have k1 := g1.2; have k2 := g2.2
    constructor
    · simp [PyData.canLay0, PyData.canLayAll0, k1, k2]; decide +kernel
    · simp [PyData.depth, PyData.depthAll]
  | take g1 g2 g3 g4 | hand g1 g2 g3 g4 =>
    have k1 := g1.2; have k2 := g2.2; have k3 := g3.2; have k4 := g4.2
    constructor
    · simp [PyData.canLay0, PyData.canLayAll0, k1, k2, k3, k4]; decide +kernel
    · simp [PyData.depth, PyData.depthAll]
  | person g1 g2 g3 | thing g1 g2 g3 =>
    have k1 := g1.2; have k2 := g2.2
    have k3 := canAll_strs _ fun s hs => (g3.nm s hs).2
    constructor
    · simp [PyData.canLay0, PyData.canLayAll0, k1, k2, k3]; decide +kernel
    · simp [PyData.depth, PyData.depthAll, depth_strs]
theorem mvs_can : ∀ {ms : List D}, (∀ m ∈ ms, Mv m) → PyData.canLayAll0 ms = true ∧ PyData.depthAll ms ≤ 2
  | [], _ => by simp [PyData.canLayAll0, PyData.depthAll]
  | m :: ms, h => by
    obtain ⟨h1, h2⟩ := mv_can (h m List.mem_cons_self)
    obtain ⟨h3, h4⟩ := mvs_can fun x hx => h x (List.mem_cons_of_mem _ hx)
    constructor
    · simp [PyData.canLayAll0, h1, h3]
    · rw [PyData.depthAll]; omega
theorem mvs_shaped {ms : List D} (h : ∀ m ∈ ms, Mv m) : SeqAt.shaped (.list ms) = true := by
  obtain ⟨h1, h2⟩ := mvs_can h
  have h3 : PyData.depth (.list ms) ≤ 3 := by rw [PyData.depth]; omega
  simp [SeqAt.shaped, PyData.canLay0, h1]
  omega
theorem gEq_m0 {neg : Bool} {ms : List D} (h : ∀ m ∈ ms, Mv m) : gEq neg (.list ms) (.list []) = some (.bool (neg != decide (ms = []))) := by
  have e2 : SeqAt.shaped (.list []) = true := by simp [SeqAt.shaped, PyData.canLay0, PyData.canLayAll0, PyData.depth, PyData.depthAll]
  unfold gEq
  rw [mvs_shaped h, e2]
  cases ms with
  | nil => rfl
  | cons a T => rfl
end DT

/-! P15f: the plain law of k15, on -/
namespace DT
open PySem PySem.Spec PyProof.Rows L2 DL
local macro_rules
  | `(tactic| bv_omega) => `(tactic| first
    | with_reducible refine rq_ret ?_
    | with_reducible refine rq_C ?_
    | with_reducible refine rq_sNil ?_
    | with_reducible refine cont_nx ?_
    | with_reducible refine cont_ret ?_
    | with_reducible refine rq_aNil ?_
    | with_reducible refine rq_gNil ?_
    | with_reducible refine rq_tsNil ?_
    | ((with_reducible refine rq_name' ?_); refine ⟨_, rfl, ?_⟩)
    | ((with_reducible refine rq_nameM' ?_); refine ⟨_, rfl, ?_⟩)
    | ((with_reducible refine rq_gIo' ?_); refine ⟨rfl, ?_⟩)
    | ((with_reducible refine rq_IxO' ?_); refine ⟨rfl, ?_⟩)
    | ((with_reducible refine rq_append' ?_); refine ⟨rfl, ?_⟩)
    | ((with_reducible refine rq_pop' ?_); refine ⟨rfl, ?_⟩)
    | with_reducible refine rq_seq ?_
    | with_reducible refine rq_if ?_
    | with_reducible refine rq_and ?_
    | with_reducible refine rq_or ?_
    | with_reducible refine rq_not ?_
    | with_reducible refine rq_bAnd ?_
    | with_reducible refine rq_bOr ?_
    | with_reducible refine rq_bNot ?_
    | with_reducible refine rq_frz ?_
    | with_reducible refine rq_call ?_
    | with_reducible refine rq_set ?_
    | with_reducible refine rq_par ?_
    | with_reducible refine rq_setIx ?_
    | with_reducible refine rq_Bin ?_
    | with_reducible refine rq_Test ?_
    | with_reducible refine rq_Truth ?_
    | with_reducible refine rq_Call ?_
    | with_reducible refine rq_aCons ?_
    | with_reducible refine rq_aStar ?_
    | with_reducible refine rq_Tup ?_
    | with_reducible refine rq_Lst ?_
    | with_reducible refine rq_sLst ?_
    | with_reducible refine rq_sV ?_
    | with_reducible refine rq_sRet ?_
    | with_reducible refine rq_Isi ?_
    | with_reducible refine rq_Meth ?_
    | with_reducible refine rq_Slice ?_
    | with_reducible refine rq_oInt ?_
    | with_reducible refine rq_Chain ?_
    | with_reducible refine rq_gV ?_
    | with_reducible refine rq_iAny ?_
    | with_reducible refine rq_iEnum ?_
    | with_reducible refine rq_iZip ?_
    | with_reducible refine rq_LenO' ?_
    | with_reducible refine rq_SD ?_
    | with_reducible refine rq_iRange ?_
    | with_reducible refine rq_listOf ?_
    | with_reducible refine rq_cat ?_
    | with_reducible refine rq_orT ?_
    | with_reducible refine rq_asg ?_
    | with_reducible refine rq_tsCons ?_
    | with_reducible refine rq_tTup ?_
    | with_reducible refine rq_tLst ?_
    | refine yes rfl ?_
    | refine noo rfl ?_
    | refine yes (by decide +kernel) ?_
    | refine noo (by decide +kernel) ?_
    | with_reducible refine ⟨_, gAdd_ii, ?_⟩
    | ((with_reducible refine ⟨_, gIn_t2 ?_ ?_ ?_, ?_⟩); (· decide +kernel); (· decide +kernel); (· decide +kernel))
    | ((with_reducible refine ⟨_, gEq_ss ?_ ?_, ?_⟩); (· decide +kernel); (· decide +kernel))
    | with_reducible refine ⟨_, gSub_ii, ?_⟩
    | with_reducible refine ⟨_, gGt_ii, ?_⟩
    | with_reducible refine ⟨_, gGe_ii, ?_⟩
    | with_reducible refine ⟨_, gLe_ii, ?_⟩
    | with_reducible refine ⟨_, gLt_ii, ?_⟩
    | with_reducible refine ⟨_, gLt_ss, ?_⟩
    | with_reducible refine ⟨_, cLen_l, ?_⟩
    | with_reducible refine ⟨_, cLen_t, ?_⟩
    | with_reducible refine ⟨_, cInt_i, ?_⟩
    | with_reducible refine ⟨_, cInt_b, ?_⟩
    | with_reducible refine ⟨_, cAbs_i, ?_⟩
    | ((with_reducible refine ⟨_, gMod_ii ?_, ?_⟩); · decide)
    | ((with_reducible refine ⟨_, gDiv_ii ?_, ?_⟩); · decide)
    | ((with_reducible refine ⟨_, gMul_ii ?_, ?_⟩); · first | exact .inl (by decide) | exact .inr (by decide))
    | refine ⟨_, rfl, ?_⟩
    | refine ⟨_, _, _, rfl, rfl, rfl, ?_⟩
    | refine ⟨rfl, _, _, rfl, ?_⟩
    | refine ⟨rfl, ?_⟩
    | (refine free_at rfl ?_ ?_; · first | exact np_none | exact np_v | exact np_m | assumption)
    | with_reducible refine rq_tName' ?_
    | refine ⟨Nat.le_of_ble_eq_true rfl, ?_⟩
    | refine .inl ⟨_, rfl, ?_⟩
    | refine .inr ⟨_, rfl, ?_⟩
    | refine .inr (.inl ⟨_, rfl, ?_⟩)
    | refine .inr (.inr ⟨_, rfl, ?_⟩)
    | refine ⟨_, _, rfl, rfl, ?_⟩)
def rFst (z : Str) : D → Bool
  | .tuple [.str a, _, _] => decide (a = z)
  | _ => false
def rMk (kw x z : Str) : D → D
  | .tuple [_, b, c] => .tuple [.str kw, .str x, .str z, b, c]
  | d => d
def wordS : List Str := ["ab", "cd", "ef", "gh", "qq", "zz"]
theorem word_nm : ∀ s ∈ wordS, Nm s := nm_all (by decide +kernel)
theorem rowD3 {x y z : Str} : rowD [x, y, z] = .tuple [.str x, .str y, .str z] := rfl
/-- new moves of a right -/
theorem mk_mv {kw x z w : Str} {rows : List (List Str)} (hk : kw = "take" ∨ kw = "hand") (hx : Nm x) (hz : Nm z) (hR : ∀ t ∈ rows, Row3 t) : ∀ m ∈ ((rows.map rowD).filter (rFst w)).map (rMk kw x z), Mv m := fun m hm => by
  obtain ⟨d, hd, rfl⟩ := List.mem_map.mp hm
  obtain ⟨t, ht, rfl⟩ := List.mem_map.mp ((List.mem_filter.mp hd).1)
  obtain ⟨a, b, c, rfl, h1, h2, h3⟩ := hR t ht
  rcases hk with rfl | rfl
  · exact .take hx hz h2 h3
  · exact .hand hx hz h2 h3
theorem mk_len {kw x z w : Str} {rows : List (List Str)} : (((rows.map rowD).filter (rFst w)).map (rMk kw x z)).length ≤ rows.length := by
  rw [List.length_map]
  exact Nat.le_trans (List.length_filter_le _ _) (by rw [List.length_map]; exact Nat.le_refl _)
theorem catOf_ll {x y : List D} (h : x.length + y.length ≤ sizeLine) : catOf (.list x) (.list y) = some (x ++ y) := if_pos h
theorem comp_take {l ms : List D} {bA bB : D} {rows : List (List Str)} {x y z : Str} (hx : Nm x) (hz : Nm z) (hR : ∀ t ∈ rows, Row3 t) (hl : rows.length ≤ sizeLine) :
    Rq (sComp [6] (iAny (dBin gIx (dName 1) (dC (.int 2)))) (tName 6) (dTest (dBin (gEq false) (dBin gIx (dName 6) (dC (.int 0))) (dName 5))) (dTup (aCons (dC (.str "take")) (aCons (dName 3) (aCons (dName 5) (aCons (dBin gIx (dName 6) (dC (.int 1))) (aCons (dBin gIx (dName 6) (dC (.int 2))) aNil)))))) [some (.p l), some (.v (.tuple [bA, bB, .tuple (rows.map rowD)])), some (.v (.list ms)), some (.v (.str x)), some (.v (.str y)), some (.v (.str z)), none, none, none, none])
      (fun s r => s = .m (((rows.map rowD).filter (rFst z)).map (rMk "take" x z)) ∧ r = [some (.p l), some (.v (.tuple [bA, bB, .tuple (rows.map rowD)])), some (.v (.list ms)), some (.v (.str x)), some (.v (.str y)), some (.v (.str z)), none, none, none, none]) := by
  refine rq_comp1 (rFst z) (rMk "take" x z) ?_
  repeat bv_omega
  refine ⟨by rw [List.length_map]; exact hl, fun d hd => ?_, ?_⟩
  · obtain ⟨t, ht, rfl⟩ := List.mem_map.mp hd
    obtain ⟨a, b, c, rfl, h1, h2, h3⟩ := hR t ht
    rw [rowD3]
    refine ⟨?_, fun _ => ?_⟩
    · repeat bv_omega
      refine ⟨_, gEq_ss h1.2 hz.2, ?_⟩
      repeat bv_omega
      exact ⟨Bool.false_bne _, rfl⟩
    · repeat bv_omega
  · exact ⟨rfl, rfl⟩
theorem comp_hand {l ms : List D} {bA bB : D} {rows : List (List Str)} {x y z : Str} (hx : Nm x) (hz : Nm z) (hR : ∀ t ∈ rows, Row3 t) (hl : rows.length ≤ sizeLine) :
    Rq (sComp [6] (iAny (dBin gIx (dName 1) (dC (.int 2)))) (tName 6) (dTest (dBin (gEq false) (dBin gIx (dName 6) (dC (.int 0))) (dName 3))) (dTup (aCons (dC (.str "hand")) (aCons (dName 3) (aCons (dName 5) (aCons (dBin gIx (dName 6) (dC (.int 1))) (aCons (dBin gIx (dName 6) (dC (.int 2))) aNil)))))) [some (.p l), some (.v (.tuple [bA, bB, .tuple (rows.map rowD)])), some (.v (.list ms)), some (.v (.str x)), some (.v (.str y)), some (.v (.str z)), none, none, none, none])
      (fun s r => s = .m (((rows.map rowD).filter (rFst x)).map (rMk "hand" x z)) ∧ r = [some (.p l), some (.v (.tuple [bA, bB, .tuple (rows.map rowD)])), some (.v (.list ms)), some (.v (.str x)), some (.v (.str y)), some (.v (.str z)), none, none, none, none]) := by
  refine rq_comp1 (rFst x) (rMk "hand" x z) ?_
  repeat bv_omega
  refine ⟨by rw [List.length_map]; exact hl, fun d hd => ?_, ?_⟩
  · obtain ⟨t, ht, rfl⟩ := List.mem_map.mp hd
    obtain ⟨a, b, c, rfl, h1, h2, h3⟩ := hR t ht
    rw [rowD3]
    refine ⟨?_, fun _ => ?_⟩
    · repeat bv_omega
      refine ⟨_, gEq_ss h1.2 hx.2, ?_⟩
      repeat bv_omega
      exact ⟨Bool.false_bne _, rfl⟩
    · repeat bv_omega
  · exact ⟨rfl, rfl⟩
theorem rights_comp {N : Nat} {tin : List D} {a1 a2 a3 a4 a5 a6 a7 a8 : Option Slot} (h : TinOk N tin) (hN : N < 2 ^ 59) :
    Rq ((sComp [9] (iRange1 (dFrz (dDefN 2 g_law_take (gIo 0 (gV (dC (.int 4)) gNil))))) (tName 9) (DL.ret true) (dFrz (dDefN 2 g_law_of (gIo 0 (gV (dLst (aCons (dC (.str "look")) (aCons (dC (.str "tell")) (aCons (dC (.str "take")) (aCons (dC (.str "hand")) (aCons (dC (.str "own")) aNil)))))) gNil))))) [some (.p tin), a1, a2, a3, a4, a5, a6, a7, a8, none]) (fun s r => ∃ (T : List Str) (tin' : List D), s = .m (T.map .str) ∧ (∀ t ∈ T, t ∈ rightsS) ∧ T.length ≤ 3 ∧ r = [some (.p tin'), a1, a2, a3, a4, a5, a6, a7, a8, none] ∧ TinOk (N + 4) tin') := by
  have szl := sizeLine_eq
  refine rq_comp (fun pre acc r => ∃ (T : List Str) (tin' : List D) (x : Option Slot), acc = T.map .str ∧ (∀ t ∈ T, t ∈ rightsS) ∧ T.length = pre.length ∧ r = [some (.p tin'), a1, a2, a3, a4, a5, a6, a7, a8, x] ∧ (x = none ∨ ∃ d, x = some (.v d)) ∧ TinOk (N + 1 + pre.length) tin') ?_
  refine rq_iRange ?_
  repeat bv_omega
  refine (take_spec h (by omega) (n := 4) (by decide) (by decide)).imp ?_
  rintro s o ⟨m, l', rfl, rfl, hm, ht⟩
  repeat bv_omega
  refine ⟨by omega, by omega, rfl, ⟨[], l', none, rfl, (fun t h => nomatch h), rfl, rfl, .inl rfl, ht⟩, fun pre d post acc r e ⟨T, t', x, ha, hT, hTl, hr, hx, ht'⟩ => ?_, fun acc r ⟨T, t', x, ha, hT, hTl, hr, hx, ht'⟩ => ?_⟩
  · have hpre : pre.length < 3 := by
      have := congrArg List.length e
      simp at this
      omega
    subst hr ha
    have hw : wipeR [some (.p t'), a1, a2, a3, a4, a5, a6, a7, a8, x] [9] = [some (.p t'), a1, a2, a3, a4, a5, a6, a7, a8, none] := rfl
    refine ⟨by rcases hx with rfl | ⟨d, rfl⟩ <;> rfl, ?_⟩
    rw [hw]
    repeat bv_omega
    refine (of_spec (ds := rightsS.map .str) ht' (by omega) (by decide) (by decide)).imp ?_
    rintro s o ⟨d1, l1, rfl, rfl, hd1, ht1⟩
    obtain ⟨r1, hr1, rfl⟩ := List.mem_map.mp hd1
    repeat bv_omega
    refine ⟨by rw [List.length_map]; omega, T ++ [r1], l1, _, by rw [List.map_append]; rfl, fun t ht => ?_, by rw [List.length_append, List.length_append, hTl]; rfl, rfl, .inr ⟨_, rfl⟩, by rw [List.length_append]; exact ht1⟩
    rcases List.mem_append.mp ht with ht | ht
    · exact hT t ht
    · rw [List.mem_singleton.mp ht]; exact hr1
  · subst hr ha
    have e3 : ((List.range (m : Int).toNat).map fun i => PyData.int (0 + (i : Nat))).length = m := by simp
    rw [e3] at hTl ht'
    exact ⟨by rcases hx with rfl | ⟨d, rfl⟩ <;> rfl, T, t', rfl, hT, by omega, rfl, ht'.mono (by omega)⟩
theorem make_body {N M : Nat} {tin : List D} {A B : List Str} {rows : List (List Str)} {a2 a3 a4 a5 : Option Slot} (h : TinOk N tin) (hN : N < 2 ^ 58)
    (hb : Bk M (.tuple [.tuple (A.map .str), .tuple (B.map .str), .tuple (rows.map rowD)])) (hA : ∀ s ∈ A, Nm s) (h0 : A ≠ []) (hl : A.length ≤ 1000) :
    Rq ((sSeq (sSet 7 (dDefN 2 g_law_of (gIo 0 (gV (dLst (aCons (dC (.str "ab")) (aCons (dC (.str "cd")) (aCons (dC (.str "ef")) (aCons (dC (.str "gh")) (aCons (dC (.str "qq")) (aCons (dC (.str "zz")) aNil))))))) gNil))))
    (sSeq (sSet 8 (dDefN 1 g_law_set (gV (dFrz (sComp [9] (iRange1 (dFrz (dDefN 2 g_law_take (gIo 0 (gV (dC (.int 4)) gNil))))) (tName 9) (DL.ret true) (dFrz (dDefN 2 g_law_of (gIo 0 (gV (dLst (aCons (dC (.str "look")) (aCons (dC (.str "tell")) (aCons (dC (.str "take")) (aCons (dC (.str "hand")) (aCons (dC (.str "own")) aNil)))))) gNil)))))) gNil)))
    (sSeq (sSet 6 (sV (dTup (aCons (dC (.str "make")) (aCons (dFrz (dDefN 2 g_law_of (gIo 0 (gV (dCall cList (aCons (dBin gIx (dName 1) (dC (.int 0))) aNil)) gNil)))) (aCons (dName 7) (aCons (dFrz (dDefN 2 g_law_of (gIo 0 (gV (dLst (aCons (dC (.str "person")) (aCons (dC (.str "thing")) aNil))) gNil)))) (aCons (dName 8) aNil))))))))
    (sRet (sV (mIf (dTruth (dFrz (dDefN 2 g_law_may (gV (dName 1) (gV (dName 6) gNil))))) (dName 6) (dC .none))))))) [some (.p tin), some (.v (.tuple [.tuple (A.map .str), .tuple (B.map .str), .tuple (rows.map rowD)])), a2, a3, a4, a5, none, none, none, none])
      (fun fl r => ∃ (d : D) (l' : List D) (rest : Rho), fl = .ret (.v d) ∧ r = some (.p l') :: rest ∧ (d = .none ∨ Mv d) ∧ TinOk (N + 10) l') := by
  have szl := sizeLine_eq
  repeat bv_omega
  refine (of_spec (ds := wordS.map .str) h (by omega) (by decide) (by decide)).imp ?_
  rintro s o ⟨d1, l1, rfl, rfl, hd1, ht1⟩
  obtain ⟨w, hw, rfl⟩ := List.mem_map.mp hd1
  have nw := word_nm w hw
  repeat bv_omega
  refine (rights_comp ht1 (by omega)).imp ?_
  rintro s r ⟨T, l2, rfl, hT, hTl, rfl, ht2⟩
  obtain ⟨T2, k1, k2, k3, k4⟩ := law_set_strs (x := .list (T.map .str)) (ss := T) (.inl rfl) (by omega)
  have hR : Rts T2 := ⟨fun s hs => rights_nm s (hT s ((k2 s).mp hs)), k4, by omega⟩
  repeat bv_omega
  refine fq_of k1 ?_
  repeat bv_omega
  refine (of_spec (ds := A.map .str) ht2 (by omega) (by simpa using h0) (by rw [List.length_map]; omega)).imp ?_
  rintro s o ⟨d3, l3, rfl, rfl, hd3, ht3⟩
  obtain ⟨a, ha, rfl⟩ := List.mem_map.mp hd3
  have na := hA a ha
  repeat bv_omega
  refine (of_spec (ds := [.str "person", .str "thing"]) ht3 (by omega) (by simp) (by decide)).imp ?_
  rintro s o ⟨d4, l4, rfl, rfl, hd4, ht4⟩
  obtain ⟨k, rfl, hk⟩ : ∃ k : Str, d4 = .str k ∧ (k = "person" ∨ k = "thing") := by
    simp only [List.mem_cons, List.not_mem_nil, or_false] at hd4
    rcases hd4 with rfl | rfl
    · exact ⟨_, rfl, .inl rfl⟩
    · exact ⟨_, rfl, .inr rfl⟩
  have hmv : Mv (.tuple [.str "make", .str a, .str w, .str k, .tuple (T2.map .str)]) := by
    rcases hk with rfl | rfl
    · exact .person na nw hR
    · exact .thing na nw hR
  repeat bv_omega
  refine (may_spec hb na nw).imp ?_
  rintro s o ⟨b, rfl, rfl⟩
  cases b with
  | true =>
    repeat bv_omega
    exact ⟨_, l4, _, rfl, rfl, .inr hmv, ht4.mono (by omega)⟩
  | false =>
    repeat bv_omega
    exact ⟨_, l4, _, rfl, rfl, .inl rfl, ht4.mono (by omega)⟩
theorem open_spec {N M : Nat} {l : List D} {bk : D} (h : TinOk N l) (hN : N < 2 ^ 57) (hb : Bk M bk) (hM : M ≤ 1000) : FQ (g_law_open [.p l, .v bk]) (fun s o => ∃ d l', s = .v d ∧ o = some l' ∧ (d = .none ∨ Mv d) ∧ TinOk (N + 20) l') := by
  obtain ⟨A, B, rows, rfl, hA, hB, hR, h1, h2, h3⟩ := id hb
  have szl := sizeLine_eq
  refine fq_run ?_
  show Rq (m_law_open [some (.p l), some (.v (.tuple [.tuple (A.map .str), .tuple (B.map .str), .tuple (rows.map rowD)])), none, none, none, none, none, none, none, none]) _
  unfold m_law_open
  refine rq_seq (rq_set ?_)
  repeat bv_omega
  refine rq_for (fun pre r => ∃ (ms : List D) (x y z : Option Slot), r = [some (.p l), some (.v (.tuple [.tuple (A.map .str), .tuple (B.map .str), .tuple (rows.map rowD)])), some (.m ms), x, y, z, none, none, none, none] ∧ NP x ∧ NP y ∧ NP z ∧ (∀ m ∈ ms, Mv m) ∧ ms.length ≤ pre.length * (rows.length + 1)) ?_
  repeat bv_omega
  refine ⟨⟨[], none, none, none, rfl, np_none, np_none, np_none, (fun t h => nomatch h), Nat.zero_le _⟩, fun pre d post r e2 hI => ?_, fun r hI => ?_⟩
  · obtain ⟨ms, x0, y0, z0, rfl, hx, hy, hz, hm, hl⟩ := hI
    have hd : d ∈ rows.map rowD := by rw [e2]; simp
    have hpl : pre.length < rows.length := by
      have := congrArg List.length e2
      rw [List.length_append, List.length_cons, List.length_map] at this
      omega
    have hpl2 : ms.length ≤ 1000 * 1001 := Nat.le_trans hl (Nat.mul_le_mul (by omega) (by omega))
    obtain ⟨t, ht, rfl⟩ := List.mem_map.mp hd
    obtain ⟨x, y, z, rfl, nx, ny, nz⟩ := hR t ht
    have grow : ∀ (es : List D), es.length ≤ rows.length + 1 → (ms ++ es).length ≤ (pre ++ [rowD [x, y, z]]).length * (rows.length + 1) := fun es he => by
      rw [List.length_append, List.length_append, List.length_singleton, Nat.succ_mul]
      omega
    have both : ∀ (es : List D), (∀ m ∈ es, Mv m) → ∀ m ∈ ms ++ es, Mv m := fun es he m h => (List.mem_append.mp h).elim (hm m) (he m)
    rw [rowD3]
    repeat bv_omega
    refine ⟨_, gIn_ss nx.2 (fun s hs => (hA s hs).2), ?_⟩
    repeat bv_omega
    refine ⟨fun e => ?_, fun e => ?_⟩
    · repeat bv_omega
      refine ⟨_, gIn_t2 ny.2 (by decide +kernel) (by decide +kernel), ?_⟩
      repeat bv_omega
      have fin : ∀ (ms2 : List D) (x1 y1 z1 : Option DL.Slot) , NP x1 → NP y1 → NP z1 → (∀ m ∈ ms2, Mv m) → ms2.length ≤ (pre ++ [rowD [x, y, z]]).length * (rows.length + 1) → ∃ (ms' : List D) (x' y' z' : Option Slot), [some (.p l), some (.v (.tuple [.tuple (A.map .str), .tuple (B.map .str), .tuple (rows.map rowD)])), some (.m ms2), x1, y1, z1, none, none, none, none] = [some (.p l), some (.v (.tuple [.tuple (A.map .str), .tuple (B.map .str), .tuple (rows.map rowD)])), some (.m ms'), x', y', z', none, none, none, none] ∧ NP x' ∧ NP y' ∧ NP z' ∧ (∀ m ∈ ms', Mv m) ∧ ms'.length ≤ (pre ++ [rowD [x, y, z]]).length * (rows.length + 1) := fun ms2 x1 y1 z1 k1 k2 k3 k4 k5 => ⟨ms2, x1, y1, z1, rfl, k1, k2, k3, k4, k5⟩
      refine ⟨fun e3 => ?_, fun e3 => ?_⟩
      · have hy' : y = "look" ∨ y = "tell" := by
          simp only [Bool.or_eq_true, decide_eq_true_eq, Bool.false_eq_true, or_false] at e3
          rcases e3 with e3 | e3
          · exact .inl e3.symm
          · exact .inr e3.symm
        have hmv : Mv (.tuple [.str y, .str x, .str z]) := by
          rcases hy' with rfl | rfl
          · exact .look nx nz
          · exact .tell nx nz
        have hno : decide (y = "take") = false ∧ decide (y = "hand") = false := by
          rcases hy' with rfl | rfl <;> decide +kernel
        repeat bv_omega
        refine ⟨by omega, ?_⟩
        repeat bv_omega
        refine ⟨_, gEq_ss ny.2 (by decide +kernel), ?_⟩
        rw [hno.1]
        repeat bv_omega
        refine ⟨_, gEq_ss ny.2 (by decide +kernel), ?_⟩
        rw [hno.2]
        repeat bv_omega
        exact fin _ _ _ _ np_v np_v np_v (both _ fun m h => by rw [List.mem_singleton.mp h]; exact hmv) (grow _ (by rw [List.length_singleton]; omega))
      · repeat bv_omega
        refine ⟨_, gEq_ss ny.2 (by decide +kernel), ?_⟩
        repeat bv_omega
        refine ⟨fun e4 => ?_, fun e4 => ?_⟩
        · have hy' : y = "take" := of_decide_eq_true (by rw [Bool.false_bne] at e4; exact e4)
          subst hy'
          repeat bv_omega
          refine (comp_take nx nz hR (by omega)).imp ?_
          rintro s r ⟨rfl, rfl⟩
          have hml := mk_len (kw := "take") (x := x) (z := z) (w := z) (rows := rows)
          repeat bv_omega
          refine ⟨_, catOf_ll (by omega), ?_⟩
          repeat bv_omega
          exact fin _ _ _ _ np_v np_v np_v (both _ (mk_mv (.inl rfl) nx nz hR)) (grow _ (by omega))
        · repeat bv_omega
          refine ⟨_, gEq_ss ny.2 (by decide +kernel), ?_⟩
          repeat bv_omega
          refine ⟨fun e5 => ?_, fun e5 => ?_⟩
          · repeat bv_omega
            refine (comp_hand nx nz hR (by omega)).imp ?_
            rintro s r ⟨rfl, rfl⟩
            have hml := mk_len (kw := "hand") (x := x) (z := z) (w := x) (rows := rows)
            repeat bv_omega
            refine ⟨_, catOf_ll (by omega), ?_⟩
            repeat bv_omega
            exact fin _ _ _ _ np_v np_v np_v (both _ (mk_mv (.inr rfl) nx nz hR)) (grow _ (by omega))
          · repeat bv_omega
            exact ⟨ms, _, _, _, rfl, np_v, np_v, np_v, hm, by have := grow [] (Nat.zero_le _); rw [List.append_nil] at this; exact this⟩
    · repeat bv_omega
      exact ⟨ms, _, _, _, rfl, np_v, np_v, np_v, hm, by have := grow [] (Nat.zero_le _); rw [List.append_nil] at this; exact this⟩
  · obtain ⟨ms, x0, y0, z0, rfl, hx, hy, hz, hm, hl⟩ := hI
    rw [List.length_map] at hl
    have hl2 : ms.length ≤ 1000 * 1001 := Nat.le_trans hl (Nat.mul_le_mul (by omega) (by omega))
    repeat bv_omega
    refine ⟨_, gEq_t0 (fun s hs => (hA s hs).2), ?_⟩
    repeat bv_omega
    refine ⟨fun eA => ?_, fun eA => ?_⟩
    · have hA0 : A ≠ [] := of_decide_eq_false (gNot eA)
      repeat bv_omega
      refine ⟨_, gEq_m0 hm, ?_⟩
      repeat bv_omega
      refine ⟨fun eM => ?_, fun eM => ?_⟩
      · refine yes rfl ?_
        refine (make_body (h.mono (Nat.le_add_right N 1)) (by omega) hb hA hA0 (by omega)).imp ?_
        rintro fl r ⟨d, l', rest, rfl, rfl, hd, ht⟩
        repeat bv_omega
        exact ⟨hd, ht.mono (by omega)⟩
      · have hm0 : ms ≠ [] := of_decide_eq_false (by rw [Bool.false_bne] at eM; exact eM)
        repeat bv_omega
        refine (take_spec h (by omega) (n := 6) (by decide) (by decide)).imp ?_
        rintro s o ⟨m6, l6, rfl, rfl, hm6, ht6⟩
        repeat bv_omega
        refine ⟨fun e6 => ?_, fun e6 => ?_⟩
        · refine (make_body ht6 (by omega) hb hA hA0 (by omega)).imp ?_
          rintro fl r ⟨d, l', rest, rfl, rfl, hd, ht⟩
          repeat bv_omega
          exact ⟨hd, ht.mono (by omega)⟩
        · repeat bv_omega
          refine ⟨_, gEq_m0 hm, ?_⟩
          repeat bv_omega
          refine ⟨fun eq => ?_, fun eq => ?_⟩
          · have hm1 : ms ≠ [] := of_decide_eq_false (gNot eq)
            repeat bv_omega
            refine (of_spec (ds := ms) ht6 (by omega) hm1 (by omega)).imp ?_
            rintro s o ⟨d, l', rfl, rfl, hd, ht'⟩
            repeat bv_omega
            exact ⟨.inr (hm d hd), ht'.mono (by omega)⟩
          · repeat bv_omega
            exact ⟨.inl rfl, ht6.mono (by omega)⟩
    · repeat bv_omega
      refine ⟨_, gEq_m0 hm, ?_⟩
      repeat bv_omega
      refine ⟨fun eq => ?_, fun eq => ?_⟩
      · have hm1 : ms ≠ [] := of_decide_eq_false (gNot eq)
        repeat bv_omega
        refine (of_spec (ds := ms) h (by omega) hm1 (by omega)).imp ?_
        rintro s o ⟨d, l', rfl, rfl, hd, ht'⟩
        repeat bv_omega
        exact ⟨.inr (hm d hd), ht'.mono (by omega)⟩
      · repeat bv_omega
        exact ⟨.inl rfl, h.mono (by omega)⟩
end DT

/-! P15g: the plain law of k15, on -/
namespace DT
open PySem PySem.Spec PyProof.Rows L2 DL
local macro_rules
  | `(tactic| bv_omega) => `(tactic| first
    | with_reducible refine rq_ret ?_
    | with_reducible refine rq_C ?_
    | with_reducible refine rq_sNil ?_
    | with_reducible refine cont_nx ?_
    | with_reducible refine cont_ret ?_
    | with_reducible refine rq_aNil ?_
    | with_reducible refine rq_gNil ?_
    | with_reducible refine rq_tsNil ?_
    | ((with_reducible refine rq_name' ?_); refine ⟨_, rfl, ?_⟩)
    | ((with_reducible refine rq_nameM' ?_); refine ⟨_, rfl, ?_⟩)
    | ((with_reducible refine rq_gIo' ?_); refine ⟨rfl, ?_⟩)
    | ((with_reducible refine rq_IxO' ?_); refine ⟨rfl, ?_⟩)
    | ((with_reducible refine rq_append' ?_); refine ⟨rfl, ?_⟩)
    | ((with_reducible refine rq_pop' ?_); refine ⟨rfl, ?_⟩)
    | with_reducible refine rq_seq ?_
    | with_reducible refine rq_if ?_
    | with_reducible refine rq_and ?_
    | with_reducible refine rq_or ?_
    | with_reducible refine rq_not ?_
    | with_reducible refine rq_bAnd ?_
    | with_reducible refine rq_bOr ?_
    | with_reducible refine rq_bNot ?_
    | with_reducible refine rq_frz ?_
    | with_reducible refine rq_call ?_
    | with_reducible refine rq_set ?_
    | with_reducible refine rq_par ?_
    | with_reducible refine rq_setIx ?_
    | with_reducible refine rq_Bin ?_
    | with_reducible refine rq_Test ?_
    | with_reducible refine rq_Truth ?_
    | with_reducible refine rq_Call ?_
    | with_reducible refine rq_aCons ?_
    | with_reducible refine rq_aStar ?_
    | with_reducible refine rq_Tup ?_
    | with_reducible refine rq_Lst ?_
    | with_reducible refine rq_sLst ?_
    | with_reducible refine rq_sV ?_
    | with_reducible refine rq_sRet ?_
    | with_reducible refine rq_Isi ?_
    | with_reducible refine rq_Meth ?_
    | with_reducible refine rq_Slice ?_
    | with_reducible refine rq_oInt ?_
    | with_reducible refine rq_Chain ?_
    | with_reducible refine rq_gV ?_
    | with_reducible refine rq_iAny ?_
    | with_reducible refine rq_iEnum ?_
    | with_reducible refine rq_iZip ?_
    | with_reducible refine rq_LenO' ?_
    | with_reducible refine rq_SD ?_
    | with_reducible refine rq_iRange ?_
    | with_reducible refine rq_listOf ?_
    | with_reducible refine rq_cat ?_
    | with_reducible refine rq_orT ?_
    | with_reducible refine rq_asg ?_
    | with_reducible refine rq_tsCons ?_
    | with_reducible refine rq_tTup ?_
    | with_reducible refine rq_tLst ?_
    | refine yes rfl ?_
    | refine noo rfl ?_
    | refine yes (by decide +kernel) ?_
    | refine noo (by decide +kernel) ?_
    | with_reducible refine ⟨_, gAdd_ii, ?_⟩
    | ((with_reducible refine ⟨_, gIn_t2 ?_ ?_ ?_, ?_⟩); (· decide +kernel); (· decide +kernel); (· decide +kernel))
    | ((with_reducible refine ⟨_, gEq_ss ?_ ?_, ?_⟩); (· decide +kernel); (· decide +kernel))
    | with_reducible refine ⟨_, gSub_ii, ?_⟩
    | with_reducible refine ⟨_, gGt_ii, ?_⟩
    | with_reducible refine ⟨_, gGe_ii, ?_⟩
    | with_reducible refine ⟨_, gLe_ii, ?_⟩
    | with_reducible refine ⟨_, gLt_ii, ?_⟩
    | with_reducible refine ⟨_, gLt_ss, ?_⟩
    | with_reducible refine ⟨_, cLen_l, ?_⟩
    | with_reducible refine ⟨_, cLen_t, ?_⟩
    | with_reducible refine ⟨_, cInt_i, ?_⟩
    | with_reducible refine ⟨_, cInt_b, ?_⟩
    | with_reducible refine ⟨_, cAbs_i, ?_⟩
    | ((with_reducible refine ⟨_, gMod_ii ?_, ?_⟩); · decide)
    | ((with_reducible refine ⟨_, gDiv_ii ?_, ?_⟩); · decide)
    | ((with_reducible refine ⟨_, gMul_ii ?_, ?_⟩); · first | exact .inl (by decide) | exact .inr (by decide))
    | refine ⟨_, rfl, ?_⟩
    | refine ⟨_, _, _, rfl, rfl, rfl, ?_⟩
    | refine ⟨rfl, _, _, rfl, ?_⟩
    | refine ⟨rfl, ?_⟩
    | (refine free_at rfl ?_ ?_; · first | exact np_none | exact np_v | exact np_m | assumption)
    | with_reducible refine rq_tName' ?_
    | refine ⟨Nat.le_of_ble_eq_true rfl, ?_⟩
    | refine .inl ⟨_, rfl, ?_⟩
    | refine .inr ⟨_, rfl, ?_⟩
    | refine .inr (.inl ⟨_, rfl, ?_⟩)
    | refine .inr (.inr ⟨_, rfl, ?_⟩)
    | refine ⟨_, _, rfl, rfl, ?_⟩)
theorem drawn_spec {N : Nat} {l : List D} {bk : D} {n : Int} (h : TinOk N l) (hN : N < 2 ^ 56) (hb : Bk 24 bk) (hn : n ≤ 20) (hn0 : 0 ≤ n) : FQ (g_law_drawn_play [.p l, .v bk, .v (.int n)]) (fun s o => ∃ ms l', s = .v (.tuple ms) ∧ o = some l' ∧ (∀ m ∈ ms, Mv m) ∧ ms.length ≤ 20 ∧ TinOk (N + 400) l') := by
  have szl := sizeLine_eq
  refine fq_run ?_
  show Rq (m_law_drawn_play [some (.p l), some (.v bk), some (.v (.int n)), none, none, none, none]) _
  unfold m_law_drawn_play
  repeat bv_omega
  refine rq_for (fun pre r => ∃ (tin : List D) (bk' : D) (ms : List D) (x y : Option Slot), r = [some (.p tin), some (.v bk), some (.v (.int n)), some (.m ms), some (.v bk'), x, y] ∧ NP x ∧ NP y ∧ TinOk (N + 20 * pre.length) tin ∧ Bk (24 + 5 * pre.length) bk' ∧ (∀ m ∈ ms, Mv m) ∧ ms.length ≤ pre.length) ?_
  refine rq_iRange ?_
  repeat bv_omega
  refine ⟨by omega, by omega, ⟨l, bk, [], none, none, rfl, np_none, np_none, h, hb, (fun t h => nomatch h), Nat.zero_le _⟩, fun pre d post r e2 hI => ?_, fun r hI => ?_⟩
  · obtain ⟨tin, bk', ms, x, y, rfl, hx, hy, ht, hbk, hm, hl⟩ := hI
    have hpre : pre.length < 20 := by
      have := congrArg List.length e2
      simp at this
      omega
    repeat bv_omega
    refine (open_spec ht (by omega) hbk (by omega)).imp ?_
    rintro s o ⟨d1, l1, rfl, rfl, hd1, ht1⟩
    repeat bv_omega
    refine ⟨fun e => ?_, fun e => ?_⟩
    · have hmv : Mv d1 := by
        rcases hd1 with rfl | hd1
        · cases e
        · exact hd1
      repeat bv_omega
      refine ⟨by omega, ?_⟩
      repeat bv_omega
      refine (done_spec hbk (by omega) hmv).imp ?_
      rintro s o ⟨bk2, rfl, rfl, hbk2⟩
      repeat bv_omega
      rw [List.length_append, List.length_singleton]
      refine ⟨_, _, _, _, _, rfl, np_v, np_v, ht1.mono (by omega), hbk2.mono (by omega), fun m hm' => ?_, by rw [List.length_append, List.length_singleton]; omega⟩
      rcases List.mem_append.mp hm' with h' | h'
      · exact hm m h'
      · rw [List.mem_singleton.mp h']; exact hmv
    · repeat bv_omega
      rw [List.length_append, List.length_singleton]
      exact ⟨_, _, _, _, _, rfl, np_v, np_v, ht1.mono (by omega), hbk.mono (by omega), hm, by omega⟩
  · obtain ⟨tin, bk', ms, x, y, rfl, hx, hy, ht, hbk, hm, hl⟩ := hI
    have e3 : ((List.range n.toNat).map fun i => PyData.int (0 + (i : Nat))).length = n.toNat := by simp
    rw [e3] at ht hl
    repeat bv_omega
    exact ⟨hm, by omega, ht.mono (by omega)⟩
end DT

/-! P15h: the plain law of k15, on -/
namespace DT
open PySem PySem.Spec PyProof.Rows L2 DL
local macro_rules
  | `(tactic| bv_omega) => `(tactic| first
    | with_reducible refine rq_ret ?_
    | with_reducible refine rq_C ?_
    | with_reducible refine rq_sNil ?_
    | with_reducible refine cont_nx ?_
    | with_reducible refine cont_ret ?_
    | with_reducible refine rq_aNil ?_
    | with_reducible refine rq_gNil ?_
    | with_reducible refine rq_tsNil ?_
    | ((with_reducible refine rq_name' ?_); refine ⟨_, rfl, ?_⟩)
    | ((with_reducible refine rq_nameM' ?_); refine ⟨_, rfl, ?_⟩)
    | ((with_reducible refine rq_gIo' ?_); refine ⟨rfl, ?_⟩)
    | ((with_reducible refine rq_IxO' ?_); refine ⟨rfl, ?_⟩)
    | ((with_reducible refine rq_append' ?_); refine ⟨rfl, ?_⟩)
    | ((with_reducible refine rq_pop' ?_); refine ⟨rfl, ?_⟩)
    | with_reducible refine rq_seq ?_
    | with_reducible refine rq_if ?_
    | with_reducible refine rq_and ?_
    | with_reducible refine rq_or ?_
    | with_reducible refine rq_not ?_
    | with_reducible refine rq_bAnd ?_
    | with_reducible refine rq_bOr ?_
    | with_reducible refine rq_bNot ?_
    | with_reducible refine rq_frz ?_
    | with_reducible refine rq_call ?_
    | with_reducible refine rq_set ?_
    | with_reducible refine rq_par ?_
    | with_reducible refine rq_setIx ?_
    | with_reducible refine rq_Bin ?_
    | with_reducible refine rq_Test ?_
    | with_reducible refine rq_Truth ?_
    | with_reducible refine rq_Call ?_
    | with_reducible refine rq_aCons ?_
    | with_reducible refine rq_aStar ?_
    | with_reducible refine rq_Tup ?_
    | with_reducible refine rq_Lst ?_
    | with_reducible refine rq_sLst ?_
    | with_reducible refine rq_sV ?_
    | with_reducible refine rq_sRet ?_
    | with_reducible refine rq_Isi ?_
    | with_reducible refine rq_Meth ?_
    | with_reducible refine rq_Slice ?_
    | with_reducible refine rq_oInt ?_
    | with_reducible refine rq_Chain ?_
    | with_reducible refine rq_gV ?_
    | with_reducible refine rq_iAny ?_
    | with_reducible refine rq_iEnum ?_
    | with_reducible refine rq_iZip ?_
    | with_reducible refine rq_LenO' ?_
    | with_reducible refine rq_SD ?_
    | with_reducible refine rq_iRange ?_
    | with_reducible refine rq_listOf ?_
    | with_reducible refine rq_cat ?_
    | with_reducible refine rq_orT ?_
    | with_reducible refine rq_asg ?_
    | with_reducible refine rq_tsCons ?_
    | with_reducible refine rq_tTup ?_
    | with_reducible refine rq_tLst ?_
    | refine yes rfl ?_
    | refine noo rfl ?_
    | refine yes (by decide +kernel) ?_
    | refine noo (by decide +kernel) ?_
    | with_reducible refine ⟨_, gAdd_ii, ?_⟩
    | ((with_reducible refine ⟨_, gIn_t2 ?_ ?_ ?_, ?_⟩); (· decide +kernel); (· decide +kernel); (· decide +kernel))
    | ((with_reducible refine ⟨_, gEq_ss ?_ ?_, ?_⟩); (· decide +kernel); (· decide +kernel))
    | with_reducible refine ⟨_, gSub_ii, ?_⟩
    | with_reducible refine ⟨_, gGt_ii, ?_⟩
    | with_reducible refine ⟨_, gGe_ii, ?_⟩
    | with_reducible refine ⟨_, gLe_ii, ?_⟩
    | with_reducible refine ⟨_, gLt_ii, ?_⟩
    | with_reducible refine ⟨_, gLt_ss, ?_⟩
    | with_reducible refine ⟨_, cLen_l, ?_⟩
    | with_reducible refine ⟨_, cLen_t, ?_⟩
    | with_reducible refine ⟨_, cInt_i, ?_⟩
    | with_reducible refine ⟨_, cInt_b, ?_⟩
    | with_reducible refine ⟨_, cAbs_i, ?_⟩
    | ((with_reducible refine ⟨_, gMod_ii ?_, ?_⟩); · decide)
    | ((with_reducible refine ⟨_, gDiv_ii ?_, ?_⟩); · decide)
    | ((with_reducible refine ⟨_, gMul_ii ?_, ?_⟩); · first | exact .inl (by decide) | exact .inr (by decide))
    | refine ⟨_, rfl, ?_⟩
    | refine ⟨_, _, _, rfl, rfl, rfl, ?_⟩
    | refine ⟨rfl, _, _, rfl, ?_⟩
    | refine ⟨rfl, ?_⟩
    | (refine free_at rfl ?_ ?_; · first | exact np_none | exact np_v | exact np_m | assumption)
    | with_reducible refine rq_tName' ?_
    | refine ⟨Nat.le_of_ble_eq_true rfl, ?_⟩
    | refine .inl ⟨_, rfl, ?_⟩
    | refine .inr ⟨_, rfl, ?_⟩
    | refine .inr (.inl ⟨_, rfl, ?_⟩)
    | refine .inr (.inr ⟨_, rfl, ?_⟩)
    | refine ⟨_, _, rfl, rfl, ?_⟩)
theorem line_NL {m : D} (h : Mv m) : NL (lineOf m) := ⟨line_nl h, by have := line_len h; omega, ok_join (by decide +kernel) fun p hp => ((words_wd h).1 p hp).ok⟩
theorem empty_in : g_move_in [.v (.str "")] = .ok (.v .none) none := by kernel_rfl
theorem mv_some {m : D} (h : Mv m) : m ≠ .none := fun e => by rw [e] at h; cases h
theorem line_ne {m : D} (h : Mv m) : lineOf m ≠ "" := fun e => by
  have h1 := move_in_ok h
  rw [e, empty_in] at h1
  injection h1 with h1
  injection h1 with h1
  exact mv_some h h1.symm
theorem join_ne {ls : List Str} (h0 : ls ≠ []) (h : ∀ s ∈ ls, NL s) (hl : ls.length ≤ 1001) (hx : ls ≠ [("" : Str)]) : Txt.join "\n" ls ≠ "" := fun e => by
  have h2 := textSum_le (ss := ls) (k := 300) fun s hs => (h s hs).2.1
  have hs := split_back (y := "\n") (c := 10) (ps := ls) (by decide +kernel) (by omega) h0 (fun p hp => (h p hp).1) (by rw [sizeLine_eq]; omega)
  have h3 : mSplit (.str "") [.str "\n"] = some (.list [.str ""]) := by kernel_rfl
  rw [e, h3] at hs
  injection hs with hs
  injection hs with hs
  cases ls with
  | nil => exact h0 rfl
  | cons a t =>
    injection hs with s1 s2
    injection s1 with s1
    cases t with
    | nil => exact hx (by rw [s1])
    | cons b t => cases s2
theorem lines_NL {ms : List D} (h : ∀ m ∈ ms, Mv m) : ∀ s ∈ ms.map lineOf, NL s := fun s hs => by
  obtain ⟨m, hm, rfl⟩ := List.mem_map.mp hs
  exact line_NL (h m hm)
theorem plain_lines {ms : List D} (h : ∀ m ∈ ms, Mv m) (hl : ms.length ≤ 1000) : g_lines_of [.v (.str (Txt.join "\n" (ms.map lineOf)))] = .ok (.v (.list ((ms.map lineOf).map .str))) none := by
  cases ms with
  | nil => exact lines_nil
  | cons m ms =>
    have h0 : (m :: ms).map lineOf ≠ [] := fun z => nomatch z
    refine lines_ok h0 (lines_NL h) (by rw [List.length_map]; exact hl) (join_ne h0 (lines_NL h) (by rw [List.length_map]; omega) fun z => ?_)
    injection z with z1 z2
    exact line_ne (h m List.mem_cons_self) z1
theorem plain_read {ms : List D} (h : ∀ m ∈ ms, Mv m) (hl : ms.length ≤ 1000) : g_law_read [.v (.str (Txt.join "\n" (ms.map lineOf)))] = .ok (.v (.tuple [.str "told", .tuple ms])) none :=
  read_ok (play_in_ok h hl (plain_lines h hl))
theorem plain_is {ms : List D} (h : ∀ m ∈ ms, Mv m) (hl : ms.length ≤ 1000) : g_is_text_of_play [.v (.str (Txt.join "\n" (ms.map lineOf)))] = .ok (.v (.bool true)) none := by
  rw [is_text (by rw [List.length_map, sizeLine_eq]; omega) (plain_lines h hl) fun s hs => by
    obtain ⟨m, hm, rfl⟩ := List.mem_map.mp hs
    exact ⟨m, move_in_ok (h m hm)⟩]
  congr 3
  rw [List.all_eq_true]
  intro s hs
  obtain ⟨m, hm, rfl⟩ := List.mem_map.mp hs
  rw [mvOf_eq (move_in_ok (h m hm))]
  cases h m hm <;> rfl
/-! ### spoilt lines -/
def badS : List Str := ["", " ", "look ann", "look ann box ", " look ann box", "look  ann box", "look ann Box", "look ann abcdefghi", "give ann box own key", "take ann box own", "take ann box own key key",
  "make ann zed thing", "make ann zed house -", "make ann zed thing own,look", "make ann zed thing own,own", "make ann zed thing -,own", "make ann zed thing own look", "look ann 1", "-"]
theorem bad_in : ∀ s ∈ badS, g_move_in [.v (.str s)] = .ok (.v .none) none := by
  unfold badS
  repeat refine List.forall_mem_cons.mpr ⟨by kernel_rfl, ?_⟩
  exact fun s hs => nomatch hs
theorem bad_NL : ∀ s ∈ badS, NL s := fun s hs => by
  have all : ∀ s ∈ badS, decide (10 ∉ s.cps.toList) = true ∧ decide (s.length ≤ 300) = true ∧ PyData.strOk s = true := by decide +kernel
  obtain ⟨h1, h2, h3⟩ := all s hs
  exact ⟨of_decide_eq_true h1, of_decide_eq_true h2, h3⟩
theorem bent_lines {ms : List D} {k : Nat} {b : Str} (h : ∀ m ∈ ms, Mv m) (hb : NL b) : ∀ s ∈ (ms.take k).map lineOf ++ b :: (ms.drop k).map lineOf, NL s := fun s hs => by
  rcases List.mem_append.mp hs with hs | hs
  · exact lines_NL (fun m hm => h m (List.mem_of_mem_take hm)) s hs
  · rcases List.mem_cons.mp hs with rfl | hs
    · exact hb
    · exact lines_NL (fun m hm => h m (List.mem_of_mem_drop hm)) s hs
theorem bent_len {ms : List D} {k : Nat} {b : Str} : ((ms.take k).map lineOf ++ b :: (ms.drop k).map lineOf).length = ms.length + 1 := by
  rw [List.length_append, List.length_cons, List.length_map, List.length_map, List.length_take, List.length_drop]
  omega
theorem bent_ok {ms : List D} {k : Nat} {b : Str} (h : ∀ m ∈ ms, Mv m) (hl : ms.length ≤ 900) (hk : k ≤ ms.length) (hb : NL b) (hi : g_move_in [.v (.str b)] = .ok (.v .none) none)
    (hne : Txt.join "\n" ((ms.take k).map lineOf ++ b :: (ms.drop k).map lineOf) ≠ "") :
    g_law_read [.v (.str (Txt.join "\n" ((ms.take k).map lineOf ++ b :: (ms.drop k).map lineOf)))] = .ok (.v (.tuple [.str "raised", .int k, .bool true])) none ∧
    g_is_text_of_play [.v (.str (Txt.join "\n" ((ms.take k).map lineOf ++ b :: (ms.drop k).map lineOf)))] = .ok (.v (.bool false)) none := by
  have h0 : (ms.take k).map lineOf ++ b :: (ms.drop k).map lineOf ≠ [] := fun z => by
    have := congrArg List.length z
    rw [bent_len] at this
    cases this
  have hx := lines_ok h0 (bent_lines h hb) (by rw [bent_len]; omega) hne
  have hk2 : (ms.take k).length = k := by rw [List.length_take]; omega
  constructor
  · have := play_in_bad (ms := ms.take k) (s := b) (rest := (ms.drop k).map lineOf) (fun m hm => h m (List.mem_of_mem_take hm)) (by omega) hi hx
    rw [hk2] at this
    exact read_bad this
  · rw [is_text (by rw [bent_len, sizeLine_eq]; omega) hx fun s hs => ?_]
    · congr 3
      rw [List.all_append, List.all_cons, mvOf_eq hi]
      simp [isN]
    · rcases List.mem_append.mp hs with hs | hs
      · obtain ⟨m, hm, rfl⟩ := List.mem_map.mp hs
        exact ⟨m, move_in_ok (h m (List.mem_of_mem_take hm))⟩
      · rcases List.mem_cons.mp hs with rfl | hs
        · exact ⟨_, hi⟩
        · obtain ⟨m, hm, rfl⟩ := List.mem_map.mp hs
          exact ⟨m, move_in_ok (h m (List.mem_of_mem_drop hm))⟩
theorem joinL_last (S q : List Nat) : ∀ ps : List (List Nat), ps ≠ [] → TL.joinL S (ps ++ [q]) = TL.joinL S ps ++ (S ++ q)
  | [], h => absurd rfl h
  | [p], _ => rfl
  | p :: r :: ps, _ => by
    show p ++ (S ++ TL.joinL S ((r :: ps) ++ [q])) = (p ++ (S ++ TL.joinL S (r :: ps))) ++ (S ++ q)
    rw [joinL_last S q (r :: ps) (fun z => nomatch z)]
    simp
theorem plain_nl {ls : List Str} (h0 : ls ≠ []) : Txt.join "\n" ls ++ "\n" = Txt.join "\n" (ls ++ [("" : Str)]) := by
  apply str_eq_of_cps
  have e1 : ∀ a b : Str, (a ++ b).cps.toList = a.cps.toList ++ b.cps.toList := fun a b => by
    show (a.cps ++ b.cps).toList = _
    simp
  rw [e1, join_cps, join_cps, List.map_append]
  have e2 : List.map (fun p : Str => p.cps.toList) [("" : Str)] = [[]] := rfl
  rw [e2, joinL_last _ _ _ (by simpa using h0), List.append_nil]
theorem last_read {ms : List D} (h : ∀ m ∈ ms, Mv m) (hl : ms.length ≤ 900) (h0 : ms ≠ []) : g_law_read [.v (.str (Txt.join "\n" (ms.map lineOf) ++ "\n"))] = .ok (.v (.tuple [.str "raised", .int ms.length, .bool true])) none := by
  rw [plain_nl (by simpa using h0)]
  have e1 : ms.map lineOf ++ [("" : Str)] = (ms.take ms.length).map lineOf ++ ("" : Str) :: (ms.drop ms.length).map lineOf := by rw [List.take_length, List.drop_length]; rfl
  rw [e1]
  refine (bent_ok (k := ms.length) h hl (Nat.le_refl _) (bad_NL "" (by simp [badS])) empty_in ?_).1
  rw [← e1]
  refine join_ne (fun z => ?_) (by rw [e1]; exact bent_lines h (bad_NL "" (by simp [badS]))) (by rw [List.length_append, List.length_map, List.length_singleton]; omega) fun z => ?_
  · have := congrArg List.length z
    rw [List.length_append] at this
    simp at this
  · have := congrArg List.length z
    rw [List.length_append, List.length_map, List.length_singleton] at this
    have : ms.length = 0 := by omega
    exact h0 (List.length_eq_zero_iff.mp this)
/-! ### equal data -/
theorem pln_s {n : Nat} {s : Str} (h : Nm s) : Pln n (.str s) := .str h.2
theorem pln_mv {n : Nat} {m : D} (h : Mv m) : Pln (n + 2) m := by
  cases h with
  | look g1 g2 | tell g1 g2 =>
    refine .tup (Nat.le_of_ble_eq_true rfl) fun d hd => ?_
    simp only [List.mem_cons, List.not_mem_nil, or_false] at hd
    rcases hd with rfl | rfl | rfl
    · exact .str (by decide +kernel)
    · exact pln_s g1
    · exact pln_s g2
  | take g1 g2 g3 g4 | hand g1 g2 g3 g4 =>
    refine .tup (Nat.le_of_ble_eq_true rfl) fun d hd => ?_
    simp only [List.mem_cons, List.not_mem_nil, or_false] at hd
    rcases hd with rfl | rfl | rfl | rfl | rfl
    · exact .str (by decide +kernel)
    · exact pln_s g1
    · exact pln_s g2
    · exact pln_s g3
    · exact pln_s g4
  | person g1 g2 g3 | thing g1 g2 g3 =>
    refine .tup (Nat.le_of_ble_eq_true rfl) fun d hd => ?_
    simp only [List.mem_cons, List.not_mem_nil, or_false] at hd
    rcases hd with rfl | rfl | rfl | rfl | rfl
    · exact .str (by decide +kernel)
    · exact pln_s g1
    · exact pln_s g2
    · exact .str (by decide +kernel)
    · refine .tup (by rw [List.length_map]; exact g3.small) fun d hd => ?_
      obtain ⟨s, hs, rfl⟩ := List.mem_map.mp hd
      exact pln_s (g3.nm s hs)
theorem pln_strs {n : Nat} {T : List Str} (h : ∀ s ∈ T, PyData.strOk s = true) (hl : T.length ≤ sizeLine) : Pln (n + 1) (.list (T.map .str)) :=
  .lst (by rw [List.length_map]; exact hl) fun d hd => by
    obtain ⟨s, hs, rfl⟩ := List.mem_map.mp hd
    exact .str (h s hs)
theorem same_got {ms : List D} (h : ∀ m ∈ ms, Mv m) (hl : ms.length ≤ 1000) :
    g_law_same fuel [.v (.list [.str (Txt.join "\n" (ms.map lineOf)), .list ((ms.map lineOf).map .str), .tuple [.str "told", .tuple ms], .bool true]),
      .v (.list [.str (Txt.join "\n" (ms.map lineOf)), .list ((ms.map lineOf).map .str), .tuple [.str "told", .tuple ms], .bool true])] = .ok (.v (.bool true)) none := by
  refine same_ok (n := 11) (.lst (Nat.le_of_ble_eq_true rfl) fun d hd => ?_)
  have hs := sizeLine_eq
  simp only [List.mem_cons, List.not_mem_nil, or_false] at hd
  rcases hd with rfl | rfl | rfl | rfl
  · exact .str (ok_join (by decide +kernel) fun p hp => (lines_NL h p hp).2.2)
  · exact pln_strs (fun s hs => (lines_NL h s hs).2.2) (by rw [List.length_map]; omega)
  · refine .tup (Nat.le_of_ble_eq_true rfl) fun d hd => ?_
    simp only [List.mem_cons, List.not_mem_nil, or_false] at hd
    rcases hd with rfl | rfl
    · exact .str (by decide +kernel)
    · exact .tup (by omega) fun d hd => pln_mv (h d hd)
  · exact .bl
theorem same_ints {a b : Int} : g_law_same fuel [.v (.tuple [.int a, .int b]), .v (.tuple [.int a, .int b])] = .ok (.v (.bool true)) none := by
  refine same_ok (n := 11) (.tup (Nat.le_of_ble_eq_true rfl) fun d hd => ?_)
  simp only [List.mem_cons, List.not_mem_nil, or_false] at hd
  rcases hd with rfl | rfl <;> exact .int
theorem pln_raised {n : Nat} {k : Int} : Pln (n + 1) (.tuple [.str "raised", .int k, .bool true]) := by
  refine .tup (Nat.le_of_ble_eq_true rfl) fun d hd => ?_
  simp only [List.mem_cons, List.not_mem_nil, or_false] at hd
  rcases hd with rfl | rfl | rfl
  · exact .str (by decide +kernel)
  · exact .int
  · exact .bl
theorem same_raised {k : Int} : g_law_same fuel [.v (.tuple [.str "raised", .int k, .bool true]), .v (.tuple [.str "raised", .int k, .bool true])] = .ok (.v (.bool true)) none := same_ok (n := 11) pln_raised
theorem same_bad {k : Int} : g_law_same fuel [.v (.list [.tuple [.str "raised", .int k, .bool true], .bool false]), .v (.list [.tuple [.str "raised", .int k, .bool true], .bool false])] = .ok (.v (.bool true)) none := by
  refine same_ok (n := 11) (.lst (Nat.le_of_ble_eq_true rfl) fun d hd => ?_)
  simp only [List.mem_cons, List.not_mem_nil, or_false] at hd
  rcases hd with rfl | rfl
  · exact pln_raised
  · exact .bl
theorem cut_to {xs : List Str} {k : Nat} (h : k ≤ xs.length) : DL.cutD (xs.map .str) none (some (k : Int)) = (xs.take k).map .str := by
  unfold DL.cutD
  rw [HT.sIx_none, HT.sIx_nat, List.length_map, List.drop_zero, Nat.sub_zero, Nat.min_eq_left h, List.map_take]
theorem cut_from {xs : List Str} {k : Nat} (h : k ≤ xs.length) : DL.cutD (xs.map .str) (some (k : Int)) none = (xs.drop k).map .str := by
  unfold DL.cutD
  rw [HT.sIx_none, HT.sIx_nat, List.length_map, Nat.min_eq_left h, List.map_drop]
  exact List.take_of_length_le (by rw [List.length_drop, List.length_map]; exact Nat.le_refl _)
theorem final_same : g_law_same fuel [.v (.list [.tuple [.str "told", .tuple []], .str "", .bool true, .tuple [.str "told", .tuple [.tuple [.str "make", .str "ann", .str "zed", .str "thing", .tuple [.str "look", .str "own", .str "take"]]]]]),
  .v (.list [.tuple [.str "told", .tuple []], .str "", .bool true, .tuple [.str "told", .tuple [.tuple [.str "make", .str "ann", .str "zed", .str "thing", .tuple [.str "look", .str "own", .str "take"]]]]])] = .ok (.v (.bool true)) none := by kernel_rfl
theorem fin1 : g_law_read [.v (.str "")] = .ok (.v (.tuple [.str "told", .tuple []])) none := by kernel_rfl
theorem fin2 : g_play_text [.v (.tuple [])] = .ok (.v (.str "")) none := by kernel_rfl
theorem fin3 : g_is_text_of_play [.v (.str "")] = .ok (.v (.bool true)) none := by kernel_rfl
theorem fin4 : g_law_read [.v (.str "make ann zed thing look,own,take")] = .ok (.v (.tuple [.str "told", .tuple [.tuple [.str "make", .str "ann", .str "zed", .str "thing", .tuple [.str "look", .str "own", .str "take"]]]])) none := by kernel_rfl
end DT

/-! P15i: the plain law of k15, on -/
namespace DT
open PySem PySem.Spec PyProof.Rows L2 DL
local macro_rules
  | `(tactic| bv_omega) => `(tactic| first
    | with_reducible refine rq_ret ?_
    | with_reducible refine rq_C ?_
    | with_reducible refine rq_sNil ?_
    | with_reducible refine cont_nx ?_
    | with_reducible refine cont_ret ?_
    | with_reducible refine rq_aNil ?_
    | with_reducible refine rq_gNil ?_
    | with_reducible refine rq_tsNil ?_
    | ((with_reducible refine rq_name' ?_); refine ⟨_, rfl, ?_⟩)
    | ((with_reducible refine rq_nameM' ?_); refine ⟨_, rfl, ?_⟩)
    | ((with_reducible refine rq_gIo' ?_); refine ⟨rfl, ?_⟩)
    | ((with_reducible refine rq_IxO' ?_); refine ⟨rfl, ?_⟩)
    | ((with_reducible refine rq_append' ?_); refine ⟨rfl, ?_⟩)
    | ((with_reducible refine rq_pop' ?_); refine ⟨rfl, ?_⟩)
    | with_reducible refine rq_seq ?_
    | with_reducible refine rq_if ?_
    | with_reducible refine rq_and ?_
    | with_reducible refine rq_or ?_
    | with_reducible refine rq_not ?_
    | with_reducible refine rq_bAnd ?_
    | with_reducible refine rq_bOr ?_
    | with_reducible refine rq_bNot ?_
    | with_reducible refine rq_frz ?_
    | with_reducible refine rq_call ?_
    | with_reducible refine rq_set ?_
    | with_reducible refine rq_par ?_
    | with_reducible refine rq_setIx ?_
    | with_reducible refine rq_Bin ?_
    | with_reducible refine rq_Test ?_
    | with_reducible refine rq_Truth ?_
    | with_reducible refine rq_Call ?_
    | with_reducible refine rq_aCons ?_
    | with_reducible refine rq_aStar ?_
    | with_reducible refine rq_Tup ?_
    | with_reducible refine rq_Lst ?_
    | with_reducible refine rq_sLst ?_
    | with_reducible refine rq_sV ?_
    | with_reducible refine rq_sRet ?_
    | with_reducible refine rq_Isi ?_
    | with_reducible refine rq_Meth ?_
    | with_reducible refine rq_Slice ?_
    | with_reducible refine rq_oInt ?_
    | with_reducible refine rq_Chain ?_
    | with_reducible refine rq_gV ?_
    | with_reducible refine rq_iAny ?_
    | with_reducible refine rq_iEnum ?_
    | with_reducible refine rq_iZip ?_
    | with_reducible refine rq_LenO' ?_
    | with_reducible refine rq_SD ?_
    | with_reducible refine rq_iRange ?_
    | with_reducible refine rq_listOf ?_
    | with_reducible refine rq_cat ?_
    | with_reducible refine rq_orT ?_
    | with_reducible refine rq_asg ?_
    | with_reducible refine rq_tsCons ?_
    | with_reducible refine rq_tTup ?_
    | with_reducible refine rq_tLst ?_
    | refine yes rfl ?_
    | refine noo rfl ?_
    | refine yes (by decide +kernel) ?_
    | refine noo (by decide +kernel) ?_
    | with_reducible refine ⟨_, gAdd_ii, ?_⟩
    | ((with_reducible refine ⟨_, gIn_t2 ?_ ?_ ?_, ?_⟩); (· decide +kernel); (· decide +kernel); (· decide +kernel))
    | ((with_reducible refine ⟨_, gEq_ss ?_ ?_, ?_⟩); (· decide +kernel); (· decide +kernel))
    | with_reducible refine ⟨_, gSub_ii, ?_⟩
    | with_reducible refine ⟨_, gGt_ii, ?_⟩
    | with_reducible refine ⟨_, gGe_ii, ?_⟩
    | with_reducible refine ⟨_, gLe_ii, ?_⟩
    | with_reducible refine ⟨_, gLt_ii, ?_⟩
    | with_reducible refine ⟨_, gLt_ss, ?_⟩
    | with_reducible refine ⟨_, cLen_l, ?_⟩
    | with_reducible refine ⟨_, cLen_t, ?_⟩
    | with_reducible refine ⟨_, cInt_i, ?_⟩
    | with_reducible refine ⟨_, cInt_b, ?_⟩
    | with_reducible refine ⟨_, cAbs_i, ?_⟩
    | ((with_reducible refine ⟨_, gMod_ii ?_, ?_⟩); · decide)
    | ((with_reducible refine ⟨_, gDiv_ii ?_, ?_⟩); · decide)
    | ((with_reducible refine ⟨_, gMul_ii ?_, ?_⟩); · first | exact .inl (by decide) | exact .inr (by decide))
    | refine ⟨_, rfl, ?_⟩
    | refine ⟨_, _, _, rfl, rfl, rfl, ?_⟩
    | refine ⟨rfl, _, _, rfl, ?_⟩
    | refine ⟨rfl, ?_⟩
    | (refine free_at rfl ?_ ?_; · first | exact np_none | exact np_v | exact np_m | assumption)
    | with_reducible refine rq_tName' ?_
    | refine ⟨Nat.le_of_ble_eq_true rfl, ?_⟩
    | refine .inl ⟨_, rfl, ?_⟩
    | refine .inr ⟨_, rfl, ?_⟩
    | refine .inr (.inl ⟨_, rfl, ?_⟩)
    | refine .inr (.inr ⟨_, rfl, ?_⟩)
    | refine ⟨_, _, rfl, rfl, ?_⟩)
def VN (a : Option Slot) : Prop := a = none ∨ ∃ d, a = some (.v d)
theorem VN.np {a : Option Slot} (h : VN a) : NP a := by
  rcases h with rfl | ⟨d, rfl⟩
  · exact np_none
  · exact np_v
theorem vn_none : VN none := .inl rfl
theorem vn_v {d : D} : VN (some (.v d)) := .inr ⟨d, rfl⟩
theorem ok_vn {r : Rho} {i : Nat} {x : Option Slot} (e : r[i]? = some x) (h : VN x) : okW r [i] = true := by
  unfold okW
  rcases h with rfl | ⟨d, rfl⟩ <;> simp [e]
def extraS : List Str := ["ann", "box", "zed", "abcdefgh", "q"]
theorem extra_nm : ∀ s ∈ extraS, Nm s := nm_all (by decide +kernel)
theorem extra_comp {N : Nat} {bS : D} {tin : List D} {x2 x3 x4 x5 x6 x7 x8 x9 x10 x11 x12 x13 x14 x15 x16 x17 x18 x19 x20 : Option Slot} (h : TinOk N tin) (hN : N < 2 ^ 59) (h9 : VN x9) :
    Rq ((sComp [9] (iRange1 (dC (.int 3))) (tName 9) (DL.ret true) (dFrz (dDefN 2 g_law_of (gIo 1 (gV (dLst (aCons (dC (.str "ann")) (aCons (dC (.str "box")) (aCons (dC (.str "zed")) (aCons (dC (.str "abcdefgh")) (aCons (dC (.str "q")) aNil)))))) gNil))))) [some (.v bS), some (.m tin), x2, x3, x4, x5, x6, x7, x8, x9, x10, x11, x12, x13, x14, x15, x16, x17, x18, x19, x20]) (fun s r => ∃ (T : List Str) (tin' : List D), s = .m (T.map .str) ∧ (∀ t ∈ T, t ∈ extraS) ∧ T.length = 3 ∧ r = [some (.v bS), some (.m tin'), x2, x3, x4, x5, x6, x7, x8, x9, x10, x11, x12, x13, x14, x15, x16, x17, x18, x19, x20] ∧ TinOk (N + 3) tin') := by
  have szl := sizeLine_eq
  refine rq_comp (fun pre acc r => ∃ (T : List Str) (tin' : List D) (x : Option Slot), acc = T.map .str ∧ (∀ t ∈ T, t ∈ extraS) ∧ T.length = pre.length ∧ r = [some (.v bS), some (.m tin'), x2, x3, x4, x5, x6, x7, x8, x, x10, x11, x12, x13, x14, x15, x16, x17, x18, x19, x20] ∧ VN x ∧ TinOk (N + pre.length) tin') ?_
  refine rq_iRange ?_
  repeat bv_omega
  refine ⟨by decide, by decide, ok_vn rfl h9, ⟨[], tin, x9, rfl, (fun t h => nomatch h), rfl, rfl, h9, h⟩, fun pre d post acc r e ⟨T, t', x, ha, hT, hTl, hr, hx, ht'⟩ => ?_, fun acc r ⟨T, t', x, ha, hT, hTl, hr, hx, ht'⟩ => ?_⟩
  · have hpre : pre.length < 3 := by
      have := congrArg List.length e
      simp at this
      omega
    subst hr ha
    have hw : wipeR [some (.v bS), some (.m t'), x2, x3, x4, x5, x6, x7, x8, x, x10, x11, x12, x13, x14, x15, x16, x17, x18, x19, x20] [9] = [some (.v bS), some (.m t'), x2, x3, x4, x5, x6, x7, x8, none, x10, x11, x12, x13, x14, x15, x16, x17, x18, x19, x20] := rfl
    refine ⟨ok_vn rfl hx, ?_⟩
    rw [hw]
    repeat bv_omega
    refine (of_spec (ds := extraS.map .str) ht' (by omega) (by decide) (by decide)).imp ?_
    rintro s o ⟨d1, l1, rfl, rfl, hd1, ht1⟩
    obtain ⟨r1, hr1, rfl⟩ := List.mem_map.mp hd1
    repeat bv_omega
    refine ⟨by rw [List.length_map]; omega, T ++ [r1], l1, _, by rw [List.map_append]; rfl, fun t ht => ?_, by rw [List.length_append, List.length_append, hTl]; rfl, rfl, vn_v, by rw [List.length_append]; exact ht1⟩
    rcases List.mem_append.mp ht with ht | ht
    · exact hT t ht
    · rw [List.mem_singleton.mp ht]; exact hr1
  · subst hr ha
    have e3 : ((List.range (3 : Int).toNat).map fun i => PyData.int (0 + (i : Nat))).length = 3 := rfl
    rw [e3] at hTl ht'
    exact ⟨ok_vn rfl hx, T, t', rfl, hT, hTl, rfl, ht'⟩
def sixM (a b c : Str) (T : List Str) : List D := [.tuple [.str "look", .str a, .str b], .tuple [.str "tell", .str a, .str b], .tuple [.str "take", .str a, .str b, .str c, .str a], .tuple [.str "hand", .str a, .str b, .str c, .str c],
  .tuple [.str "make", .str a, .str b, .str "person", .tuple (T.map .str)], .tuple [.str "make", .str a, .str b, .str "thing", .tuple []]]
theorem six_mv {a b c : Str} {T : List Str} (ha : Nm a) (hb : Nm b) (hc : Nm c) (hT : Rts T) : ∀ m ∈ sixM a b c T, Mv m := fun m hm => by
  simp only [sixM, List.mem_cons, List.not_mem_nil, or_false] at hm
  rcases hm with rfl | rfl | rfl | rfl | rfl | rfl
  · exact .look ha hb
  · exact .tell ha hb
  · exact .take ha hb hc ha
  · exact .hand ha hb hc hc
  · exact .person ha hb hT
  · exact .thing (T := []) ha hb ⟨(fun s hs => nomatch hs), .nil, by decide⟩
theorem extra_loop {N : Nat} {bS : D} {tin ms : List D} {x2 x3 x4 x5 x6 x7 x8 x9 x10 x11 x12 x13 x14 x15 x16 x17 x18 x19 x20 : Option Slot} (h : TinOk N tin) (hN : N < 2 ^ 57) (hm : ∀ m ∈ ms, Mv m) (hl : ms.length ≤ 20)
    (h5 : NP x5) (h6 : NP x6) (h7 : NP x7) (h8 : NP x8) (h9 : VN x9) (h10 : NP x10) (h11 : VN x11) :
    Rq ((sFor (iRange1 (dFrz (dDefN 2 g_law_take (gIo 1 (gV (dC (.int 4)) gNil))))) (tName 5) (sSeq (sAsg (dFrz (sComp [9] (iRange1 (dC (.int 3))) (tName 9) (DL.ret true) (dFrz (dDefN 2 g_law_of (gIo 1 (gV (dLst (aCons (dC (.str "ann")) (aCons (dC (.str "box")) (aCons (dC (.str "zed")) (aCons (dC (.str "abcdefgh")) (aCons (dC (.str "q")) aNil)))))) gNil)))))) (tLstD (tsCons (tName 6) (tsCons (tName 7) (tsCons (tName 8) tsNil)))))
    (sSeq (sSet 10 (sLst (aCons (dTup (aCons (dC (.str "look")) (aCons (dName 6) (aCons (dName 7) aNil)))) (aCons (dTup (aCons (dC (.str "tell")) (aCons (dName 6) (aCons (dName 7) aNil)))) (aCons (dTup (aCons (dC (.str "take")) (aCons (dName 6) (aCons (dName 7) (aCons (dName 8) (aCons (dName 6) aNil)))))) (aCons (dTup (aCons (dC (.str "hand")) (aCons (dName 6) (aCons (dName 7) (aCons (dName 8) (aCons (dName 8) aNil)))))) (aCons (dTup (aCons (dC (.str "make")) (aCons (dName 6) (aCons (dName 7) (aCons (dC (.str "person")) (aCons (dFrz (dDefN 1 g_law_set (gV (dLst (aCons (dName 6) (aCons (dName 7) (aCons (dName 8) aNil)))) gNil))) aNil)))))) aNil)))))))
    (sSeq (sSet 11 (dDefN 2 g_law_of (gIo 1 (gV (dBin gAdd (dName 10) (dLst (aCons (dTup (aCons (dC (.str "make")) (aCons (dName 6) (aCons (dName 7) (aCons (dC (.str "thing")) (aCons (dTup aNil) aNil)))))) aNil))) gNil))))
    (sSet 4 (sV (dBin gAdd (dName 4) (dTup (aCons (dName 11) aNil))))))))) [some (.v bS), some (.m tin), x2, x3, some (.v (.tuple ms)), x5, x6, x7, x8, x9, x10, x11, x12, x13, x14, x15, x16, x17, x18, x19, x20]) (fun fl r => fl = .nx ∧ ∃ (tin' ms' : List D) (x5 x6 x7 x8 x9 x10 x11 : Option Slot), r = [some (.v bS), some (.m tin'), x2, x3, some (.v (.tuple ms')), x5, x6, x7, x8, x9, x10, x11, x12, x13, x14, x15, x16, x17, x18, x19, x20] ∧
      NP x5 ∧ NP x6 ∧ NP x7 ∧ NP x8 ∧ VN x9 ∧ NP x10 ∧ VN x11 ∧ (∀ m ∈ ms', Mv m) ∧ ms'.length ≤ 30 ∧ TinOk (N + 100) tin') := by
  have szl := sizeLine_eq
  refine rq_for (fun pre r => ∃ (tin' ms' : List D) (x5 x6 x7 x8 x9 x10 x11 : Option Slot), r = [some (.v bS), some (.m tin'), x2, x3, some (.v (.tuple ms')), x5, x6, x7, x8, x9, x10, x11, x12, x13, x14, x15, x16, x17, x18, x19, x20] ∧
      NP x5 ∧ NP x6 ∧ NP x7 ∧ NP x8 ∧ VN x9 ∧ NP x10 ∧ VN x11 ∧ (∀ m ∈ ms', Mv m) ∧ ms'.length ≤ 20 + pre.length ∧ TinOk (N + 1 + 5 * pre.length) tin') ?_
  refine rq_iRange ?_
  repeat bv_omega
  refine (take_spec h (by omega) (n := 4) (by decide) (by decide)).imp ?_
  rintro s o ⟨m, l', rfl, rfl, hm4, ht⟩
  repeat bv_omega
  refine ⟨by omega, by omega, ⟨l', ms, x5, x6, x7, x8, x9, x10, x11, rfl, h5, h6, h7, h8, h9, h10, h11, hm, hl, ht⟩, fun pre d post r e2 hI => ?_, fun r hI => ?_⟩
  · obtain ⟨tin, ms, x5, x6, x7, x8, x9, x10, x11, rfl, h5, h6, h7, h8, h9, h10, h11, hm, hl, ht⟩ := hI
    have hpre : pre.length < 3 := by
      have := congrArg List.length e2
      simp at this
      omega
    repeat bv_omega
    refine (extra_comp ht (by omega) h9).imp ?_
    rintro s r ⟨T, l2, rfl, hT, hTl, rfl, ht2⟩
    obtain ⟨a, b, c, rfl⟩ : ∃ a b c, T = [a, b, c] := by
      match T, hTl with
      | [a, b, c], _ => exact ⟨a, b, c, rfl⟩
    have na := extra_nm a (hT a (by simp))
    have nb := extra_nm b (hT b (by simp))
    have nc := extra_nm c (hT c (by simp))
    obtain ⟨T2, k1, k2, k3, k4⟩ := law_set_strs (x := .list ([a, b, c].map .str)) (ss := [a, b, c]) (.inl rfl) (Nat.le_of_ble_eq_true rfl)
    have k3' : T2.length ≤ 3 := k3
    have hR : Rts T2 := ⟨fun s hs => extra_nm s (hT s ((k2 s).mp hs)), k4, by omega⟩
    have hR0 : Rts [] := ⟨(fun s hs => nomatch hs), .nil, by decide⟩
    have e0 : List.map PyData.str [a, b, c] = [.str a, .str b, .str c] := rfl
    rw [e0]
    repeat bv_omega
    have g11 := h11.np
    repeat bv_omega
    refine fq_of k1 ?_
    repeat bv_omega
    refine (of_spec (ds := sixM a b c T2) ht2 (by omega) (fun z => nomatch z) (Nat.lt_of_lt_of_le (Nat.lt_succ_self 6) (by decide))).imp ?_
    rintro s o ⟨d6, l6, rfl, rfl, hd6, ht6⟩
    have hmv := six_mv na nb nc hR d6 hd6
    repeat bv_omega
    refine ⟨_, gAdd_tt (by rw [List.length_singleton]; omega), ?_⟩
    repeat bv_omega
    rw [List.length_append, List.length_singleton]
    refine ⟨_, _, _, _, _, _, _, _, _, rfl, np_v, np_v, np_v, np_v, h9, np_v, vn_v, fun m hm' => ?_, by rw [List.length_append, List.length_singleton]; omega, ht6.mono (by omega)⟩
    rcases List.mem_append.mp hm' with h' | h'
    · exact hm m h'
    · rw [List.mem_singleton.mp h']; exact hmv
  · obtain ⟨tin, ms, x5, x6, x7, x8, x9, x10, x11, rfl, h5, h6, h7, h8, h9, h10, h11, hm, hl, ht⟩ := hI
    have e3 : ((List.range (m : Int).toNat).map fun i => PyData.int (0 + (i : Nat))).length = m := by simp
    rw [e3] at hl ht
    exact ⟨rfl, _, _, _, _, _, _, _, _, _, rfl, h5, h6, h7, h8, h9, h10, h11, hm, by omega, ht.mono (by omega)⟩
end DT

/-! P15j: the plain law of k15, on -/
namespace DT
open PySem PySem.Spec PyProof.Rows L2 DL
local macro_rules
  | `(tactic| bv_omega) => `(tactic| first
    | with_reducible refine rq_ret ?_
    | with_reducible refine rq_C ?_
    | with_reducible refine rq_sNil ?_
    | with_reducible refine cont_nx ?_
    | with_reducible refine cont_ret ?_
    | with_reducible refine rq_aNil ?_
    | with_reducible refine rq_gNil ?_
    | with_reducible refine rq_tsNil ?_
    | ((with_reducible refine rq_name' ?_); refine ⟨_, rfl, ?_⟩)
    | ((with_reducible refine rq_nameM' ?_); refine ⟨_, rfl, ?_⟩)
    | ((with_reducible refine rq_gIo' ?_); refine ⟨rfl, ?_⟩)
    | ((with_reducible refine rq_IxO' ?_); refine ⟨rfl, ?_⟩)
    | ((with_reducible refine rq_append' ?_); refine ⟨rfl, ?_⟩)
    | ((with_reducible refine rq_pop' ?_); refine ⟨rfl, ?_⟩)
    | with_reducible refine rq_seq ?_
    | with_reducible refine rq_if ?_
    | with_reducible refine rq_and ?_
    | with_reducible refine rq_or ?_
    | with_reducible refine rq_not ?_
    | with_reducible refine rq_bAnd ?_
    | with_reducible refine rq_bOr ?_
    | with_reducible refine rq_bNot ?_
    | with_reducible refine rq_frz ?_
    | with_reducible refine rq_call ?_
    | with_reducible refine rq_set ?_
    | with_reducible refine rq_par ?_
    | with_reducible refine rq_setIx ?_
    | with_reducible refine rq_Bin ?_
    | with_reducible refine rq_Test ?_
    | with_reducible refine rq_Truth ?_
    | with_reducible refine rq_Call ?_
    | with_reducible refine rq_aCons ?_
    | with_reducible refine rq_aStar ?_
    | with_reducible refine rq_Tup ?_
    | with_reducible refine rq_Lst ?_
    | with_reducible refine rq_sLst ?_
    | with_reducible refine rq_sV ?_
    | with_reducible refine rq_sRet ?_
    | with_reducible refine rq_Isi ?_
    | with_reducible refine rq_Meth ?_
    | with_reducible refine rq_Slice ?_
    | with_reducible refine rq_oInt ?_
    | with_reducible refine rq_Chain ?_
    | with_reducible refine rq_gV ?_
    | with_reducible refine rq_iAny ?_
    | with_reducible refine rq_iEnum ?_
    | with_reducible refine rq_iZip ?_
    | with_reducible refine rq_LenO' ?_
    | with_reducible refine rq_SD ?_
    | with_reducible refine rq_iRange ?_
    | with_reducible refine rq_listOf ?_
    | with_reducible refine rq_cat ?_
    | with_reducible refine rq_orT ?_
    | with_reducible refine rq_asg ?_
    | with_reducible refine rq_tsCons ?_
    | with_reducible refine rq_tTup ?_
    | with_reducible refine rq_tLst ?_
    | refine yes rfl ?_
    | refine noo rfl ?_
    | refine yes (by decide +kernel) ?_
    | refine noo (by decide +kernel) ?_
    | with_reducible refine ⟨_, gAdd_ii, ?_⟩
    | ((with_reducible refine ⟨_, gIn_t2 ?_ ?_ ?_, ?_⟩); (· decide +kernel); (· decide +kernel); (· decide +kernel))
    | ((with_reducible refine ⟨_, gEq_ss ?_ ?_, ?_⟩); (· decide +kernel); (· decide +kernel))
    | with_reducible refine ⟨_, gSub_ii, ?_⟩
    | with_reducible refine ⟨_, gGt_ii, ?_⟩
    | with_reducible refine ⟨_, gGe_ii, ?_⟩
    | with_reducible refine ⟨_, gLe_ii, ?_⟩
    | with_reducible refine ⟨_, gLt_ii, ?_⟩
    | with_reducible refine ⟨_, gLt_ss, ?_⟩
    | with_reducible refine ⟨_, cLen_l, ?_⟩
    | with_reducible refine ⟨_, cLen_t, ?_⟩
    | with_reducible refine ⟨_, cInt_i, ?_⟩
    | with_reducible refine ⟨_, cInt_b, ?_⟩
    | with_reducible refine ⟨_, cAbs_i, ?_⟩
    | ((with_reducible refine ⟨_, gMod_ii ?_, ?_⟩); · decide)
    | ((with_reducible refine ⟨_, gDiv_ii ?_, ?_⟩); · decide)
    | ((with_reducible refine ⟨_, gMul_ii ?_, ?_⟩); · first | exact .inl (by decide) | exact .inr (by decide))
    | refine ⟨_, rfl, ?_⟩
    | refine ⟨_, _, _, rfl, rfl, rfl, ?_⟩
    | refine ⟨rfl, _, _, rfl, ?_⟩
    | refine ⟨rfl, ?_⟩
    | (refine free_at rfl ?_ ?_; · first | exact np_none | exact np_v | exact np_m | assumption)
    | with_reducible refine rq_tName' ?_
    | refine ⟨Nat.le_of_ble_eq_true rfl, ?_⟩
    | refine .inl ⟨_, rfl, ?_⟩
    | refine .inr ⟨_, rfl, ?_⟩
    | refine .inr (.inl ⟨_, rfl, ?_⟩)
    | refine .inr (.inr ⟨_, rfl, ?_⟩)
    | refine ⟨_, _, rfl, rfl, ?_⟩)
theorem bads_loop {N k : Nat} {bS : D} {tin ms : List D} {x2 x3 x4 x5 x6 x7 x8 x9 x10 x11 x12 x13 x14 x15 x16 x17 x18 x19 x20 : Option Slot} (h : TinOk N tin) (hN : N < 2 ^ 57) (hm : ∀ m ∈ ms, Mv m) (hl : ms.length ≤ 30) (hk : k ≤ ms.length)
    (h17 : NP x17) (h18 : NP x18) (h19 : NP x19) :
    Rq ((sFor (iAny (dFrz (dDefN 3 g_law_pick (gIo 1 (gV (dName 16) (gV (dC (.int 6)) gNil)))))) (tName 17) (sSeq (sSet 18 (sV (dBin gAdd (dBin gAdd (dSlice gSl (dName 12) (DL.ret none) (oInt (dName 9))) (dLst (aCons (dName 17) aNil))) (dSlice gSl (dName 12) (oInt (dName 9)) (DL.ret none)))))
    (sSeq (sSet 19 (sV (dMeth mJoin (dC (.str "\n")) (dName 18))))
    (mIf (bAnd (dTest (dBin (gEq true) (dName 19) (dC (.str "")))) (bNot (dTruth (dFrz (dDefN 2 (g_law_same fuel) (gV (dLst (aCons (dFrz (dDefN 1 g_law_read (gV (dName 19) gNil))) (aCons (dFrz (dDefN 1 g_is_text_of_play (gV (dName 19) gNil))) aNil))) (gV (dLst (aCons (dTup (aCons (dC (.str "raised")) (aCons (dName 9) (aCons (dC (.bool true)) aNil)))) (aCons (dC (.bool false)) aNil))) gNil))))))) (sRet (sV (dC (.bool false)))) sNil)))) [some (.v bS), some (.m tin), x2, x3, x4, x5, x6, x7, x8, some (.v (.int (k : Nat))), x10, x11, some (.v (.list ((ms.map lineOf).map .str))), x13, x14, x15, some (.v (.list (badS.map .str))), x17, x18, x19, x20]) (fun fl r => fl = .nx ∧ ∃ (tin' : List D) (x17 x18 x19 : Option Slot), r = [some (.v bS), some (.m tin'), x2, x3, x4, x5, x6, x7, x8, some (.v (.int (k : Nat))), x10, x11, some (.v (.list ((ms.map lineOf).map .str))), x13, x14, x15, some (.v (.list (badS.map .str))), x17, x18, x19, x20] ∧ NP x17 ∧ NP x18 ∧ NP x19 ∧ TinOk (N + 6) tin') := by
  have szl := sizeLine_eq
  refine rq_for (fun pre r => ∃ (tin' : List D) (x17 x18 x19 : Option Slot), r = [some (.v bS), some (.m tin'), x2, x3, x4, x5, x6, x7, x8, some (.v (.int (k : Nat))), x10, x11, some (.v (.list ((ms.map lineOf).map .str))), x13, x14, x15, some (.v (.list (badS.map .str))), x17, x18, x19, x20] ∧ NP x17 ∧ NP x18 ∧ NP x19 ∧ TinOk (N + 6) tin') ?_
  repeat bv_omega
  refine (pick_spec (ds := badS.map .str) h (by omega) (by decide +kernel) (by decide +kernel)).imp ?_
  rintro s o ⟨fs, l', rfl, rfl, hfs, ht⟩
  repeat bv_omega
  refine ⟨⟨l', x17, x18, x19, rfl, h17, h18, h19, ht⟩, fun pre d post r e2 hI => ?_, fun r hI => ?_⟩
  · obtain ⟨tin, x17, x18, x19, rfl, h17, h18, h19, ht⟩ := hI
    obtain ⟨b, hb, rfl⟩ := List.mem_map.mp (hfs d (by rw [e2]; simp))
    have nb := bad_NL b hb
    have e3 : PyData.list [PyData.str b] = .list ([b].map .str) := rfl
    have hk2 : k ≤ (ms.map lineOf).length := by rw [List.length_map]; exact hk
    have lt : ((ms.map lineOf).take k).length ≤ 30 := by rw [List.length_take, List.length_map]; omega
    have ld : ((ms.map lineOf).drop k).length ≤ 30 := by rw [List.length_drop, List.length_map]; omega
    have e4 : ((ms.map lineOf).take k ++ [b]) ++ (ms.map lineOf).drop k = (ms.take k).map lineOf ++ b :: (ms.drop k).map lineOf := by rw [List.map_take, List.map_drop, List.append_assoc]; rfl
    have bl := bent_lines (k := k) hm nb
    have hsum := textSum_le (ss := (ms.take k).map lineOf ++ b :: (ms.drop k).map lineOf) (k := 300) fun s hs => (bl s hs).2.1
    rw [bent_len] at hsum
    have h1 : Str.length "\n" = 1 := by decide +kernel
    repeat bv_omega
    rw [cut_to hk2, e3]
    refine ⟨_, gAdd_strs (by rw [List.length_singleton]; omega), ?_⟩
    repeat bv_omega
    rw [cut_from hk2]
    refine ⟨_, gAdd_strs (by rw [List.length_append, List.length_singleton]; omega), ?_⟩
    rw [e4]
    repeat bv_omega
    refine ⟨_, mJoin_l (by rw [bent_len, h1]; omega), ?_⟩
    repeat bv_omega
    refine ⟨_, gEq_ss (ok_join (by decide +kernel) fun p hp => (bl p hp).2.2) (by decide +kernel), ?_⟩
    repeat bv_omega
    refine ⟨fun e5 => ?_, fun e5 => ?_⟩
    · have hne := of_decide_eq_false (gNot e5)
      obtain ⟨q1, q2⟩ := bent_ok (k := k) hm (by omega) hk nb (bad_in b hb) hne
      repeat bv_omega
      refine fq_of q1 ?_
      repeat bv_omega
      refine fq_of q2 ?_
      repeat bv_omega
      refine fq_of same_bad ?_
      repeat bv_omega
      exact ⟨_, _, _, _, rfl, np_v, np_v, np_v, ht⟩
    · repeat bv_omega
      exact ⟨_, _, _, _, rfl, np_v, np_v, np_v, ht⟩
  · exact ⟨rfl, hI⟩
end DT

/-! P15k: the plain law of k15, on -/
namespace DT
open PySem PySem.Spec PyProof.Rows L2 DL
local macro_rules
  | `(tactic| bv_omega) => `(tactic| first
    | with_reducible refine rq_ret ?_
    | with_reducible refine rq_C ?_
    | with_reducible refine rq_sNil ?_
    | with_reducible refine cont_nx ?_
    | with_reducible refine cont_ret ?_
    | with_reducible refine rq_aNil ?_
    | with_reducible refine rq_gNil ?_
    | with_reducible refine rq_tsNil ?_
    | ((with_reducible refine rq_name' ?_); refine ⟨_, rfl, ?_⟩)
    | ((with_reducible refine rq_nameM' ?_); refine ⟨_, rfl, ?_⟩)
    | ((with_reducible refine rq_gIo' ?_); refine ⟨rfl, ?_⟩)
    | ((with_reducible refine rq_IxO' ?_); refine ⟨rfl, ?_⟩)
    | ((with_reducible refine rq_append' ?_); refine ⟨rfl, ?_⟩)
    | ((with_reducible refine rq_pop' ?_); refine ⟨rfl, ?_⟩)
    | with_reducible refine rq_seq ?_
    | with_reducible refine rq_if ?_
    | with_reducible refine rq_and ?_
    | with_reducible refine rq_or ?_
    | with_reducible refine rq_not ?_
    | with_reducible refine rq_bAnd ?_
    | with_reducible refine rq_bOr ?_
    | with_reducible refine rq_bNot ?_
    | with_reducible refine rq_frz ?_
    | with_reducible refine rq_call ?_
    | with_reducible refine rq_set ?_
    | with_reducible refine rq_par ?_
    | with_reducible refine rq_setIx ?_
    | with_reducible refine rq_Bin ?_
    | with_reducible refine rq_Test ?_
    | with_reducible refine rq_Truth ?_
    | with_reducible refine rq_Call ?_
    | with_reducible refine rq_aCons ?_
    | with_reducible refine rq_aStar ?_
    | with_reducible refine rq_Tup ?_
    | with_reducible refine rq_Lst ?_
    | with_reducible refine rq_sLst ?_
    | with_reducible refine rq_sV ?_
    | with_reducible refine rq_sRet ?_
    | with_reducible refine rq_Isi ?_
    | with_reducible refine rq_Meth ?_
    | with_reducible refine rq_Slice ?_
    | with_reducible refine rq_oInt ?_
    | with_reducible refine rq_Chain ?_
    | with_reducible refine rq_gV ?_
    | with_reducible refine rq_iAny ?_
    | with_reducible refine rq_iEnum ?_
    | with_reducible refine rq_iZip ?_
    | with_reducible refine rq_LenO' ?_
    | with_reducible refine rq_SD ?_
    | with_reducible refine rq_iRange ?_
    | with_reducible refine rq_listOf ?_
    | with_reducible refine rq_cat ?_
    | with_reducible refine rq_orT ?_
    | with_reducible refine rq_asg ?_
    | with_reducible refine rq_tsCons ?_
    | with_reducible refine rq_tTup ?_
    | with_reducible refine rq_tLst ?_
    | refine yes rfl ?_
    | refine noo rfl ?_
    | refine yes (by decide +kernel) ?_
    | refine noo (by decide +kernel) ?_
    | with_reducible refine ⟨_, gAdd_ii, ?_⟩
    | ((with_reducible refine ⟨_, gIn_t2 ?_ ?_ ?_, ?_⟩); (· decide +kernel); (· decide +kernel); (· decide +kernel))
    | ((with_reducible refine ⟨_, gEq_ss ?_ ?_, ?_⟩); (· decide +kernel); (· decide +kernel))
    | with_reducible refine ⟨_, gSub_ii, ?_⟩
    | with_reducible refine ⟨_, gGt_ii, ?_⟩
    | with_reducible refine ⟨_, gGe_ii, ?_⟩
    | with_reducible refine ⟨_, gLe_ii, ?_⟩
    | with_reducible refine ⟨_, gLt_ii, ?_⟩
    | with_reducible refine ⟨_, gLt_ss, ?_⟩
    | with_reducible refine ⟨_, cLen_l, ?_⟩
    | with_reducible refine ⟨_, cLen_t, ?_⟩
    | with_reducible refine ⟨_, cInt_i, ?_⟩
    | with_reducible refine ⟨_, cInt_b, ?_⟩
    | with_reducible refine ⟨_, cAbs_i, ?_⟩
    | ((with_reducible refine ⟨_, gMod_ii ?_, ?_⟩); · decide)
    | ((with_reducible refine ⟨_, gDiv_ii ?_, ?_⟩); · decide)
    | ((with_reducible refine ⟨_, gMul_ii ?_, ?_⟩); · first | exact .inl (by decide) | exact .inr (by decide))
    | refine ⟨_, rfl, ?_⟩
    | refine ⟨_, _, _, rfl, rfl, rfl, ?_⟩
    | refine ⟨rfl, _, _, rfl, ?_⟩
    | refine ⟨rfl, ?_⟩
    | (refine free_at rfl ?_ ?_; · first | exact np_none | exact np_v | exact np_m | assumption)
    | with_reducible refine rq_tName' ?_
    | refine ⟨Nat.le_of_ble_eq_true rfl, ?_⟩
    | refine .inl ⟨_, rfl, ?_⟩
    | refine .inr ⟨_, rfl, ?_⟩
    | refine .inr (.inl ⟨_, rfl, ?_⟩)
    | refine .inr (.inr ⟨_, rfl, ?_⟩)
    | refine ⟨_, _, rfl, rfl, ?_⟩)
theorem filt_len (p : D → Bool) : ∀ l : List D, l.length = (l.filter p).length + (l.filter fun x => !p x).length
  | [] => rfl
  | x :: l => by
    have := filt_len p l
    rw [List.filter_cons, List.filter_cons, List.length_cons]
    cases p x <;> simp <;> omega
theorem eqv_int (a : Int) : PyData.eqv (.int a) (.int a) = true := by
  show (a == a) = true
  simp
theorem bads_build {bS : D} {tin : List D} {x2 x3 x4 x5 x6 x7 x8 x9 x10 x11 x12 x13 x14 x15 x16 x17 x18 x19 x20 : Option Slot} {rest : M Fl} {Q : Fl → Rho → Prop} (h16 : NP x16) (h : Rq (rest [some (.v bS), some (.m tin), x2, x3, x4, x5, x6, x7, x8, x9, x10, x11, x12, x13, x14, x15, some (.v (.list (badS.map .str))), x17, x18, x19, x20]) Q) :
    Rq ((sSeq (sSet 16 (sLst (aCons (dC (.str "")) (aCons (dC (.str " ")) (aCons (dC (.str "look ann")) (aCons (dC (.str "look ann box ")) (aCons (dC (.str " look ann box")) (aCons (dC (.str "look  ann box")) (aCons (dC (.str "look ann Box")) (aCons (dC (.str "look ann abcdefghi")) (aCons (dC (.str "give ann box own key")) aNil)))))))))))
    (sSeq (sSet 16 (sV (dBin gAdd (dName 16) (dLst (aCons (dC (.str "take ann box own")) (aCons (dC (.str "take ann box own key key")) aNil))))))
    (sSeq (sSet 16 (sV (dBin gAdd (dName 16) (dLst (aCons (dC (.str "make ann zed thing")) (aCons (dC (.str "make ann zed house -")) (aCons (dC (.str "make ann zed thing own,look")) (aCons (dC (.str "make ann zed thing own,own")) (aCons (dC (.str "make ann zed thing -,own")) aNil)))))))))
    (sSeq (sSet 16 (sV (dBin gAdd (dName 16) (dLst (aCons (dC (.str "make ann zed thing own look")) (aCons (dC (.str "look ann 1")) (aCons (dC (.str "-")) aNil))))))) rest)))) [some (.v bS), some (.m tin), x2, x3, x4, x5, x6, x7, x8, x9, x10, x11, x12, x13, x14, x15, x16, x17, x18, x19, x20]) Q := by
  repeat bv_omega
  exact h
theorem gAdd_str {a b : Str} (h : a.length + b.length ≤ sizeLine) : gAdd (.str a) (.str b) = some (.str (a ++ b)) := by
  have e : gAddS (.str a) (.str b) = some (.str (a ++ b)) := if_pos h
  show (match gAddS (.str a) (.str b) with
    | some c => some c
    | none => orG gAddL gAddT (.str a) (.str b)) = _
  rw [e]
theorem last_test {bS : D} {tin ms : List D} {x2 x3 x4 x5 x6 x7 x8 x9 x10 x11 x12 x13 x14 x15 x16 x17 x18 x19 x20 : Option Slot} (hm : ∀ m ∈ ms, Mv m) (hl : ms.length ≤ 30) (h0 : ms ≠ []) :
    Rq (bNot (dTruth (dFrz (dDefN 2 (g_law_same fuel) (gV (dFrz (dDefN 1 g_law_read (gV (dBin gAdd (dName 13) (dC (.str "\n"))) gNil))) (gV (dTup (aCons (dC (.str "raised")) (aCons (dCall cLen (aCons (dName 12) aNil)) (aCons (dC (.bool true)) aNil)))) gNil)))))
      [some (.v bS), some (.m tin), x2, x3, x4, x5, x6, x7, x8, x9, x10, x11, some (.v (.list ((ms.map lineOf).map .str))), some (.v (.str (Txt.join "\n" (ms.map lineOf)))), x14, x15, x16, x17, x18, x19, x20]) (fun b r => b = false ∧ r = [some (.v bS), some (.m tin), x2, x3, x4, x5, x6, x7, x8, x9, x10, x11, some (.v (.list ((ms.map lineOf).map .str))), some (.v (.str (Txt.join "\n" (ms.map lineOf)))), x14, x15, x16, x17, x18, x19, x20]) := by
  have h1 : Str.length "\n" = 1 := by decide +kernel
  have hj := join_len "\n" (ms.map lineOf)
  have hs := textSum_le (ss := ms.map lineOf) (k := 300) fun s hs => (lines_NL hm s hs).2.1
  rw [List.length_map] at hs
  rw [h1, List.length_map] at hj
  have ha := gAdd_str (a := Txt.join "\n" (ms.map lineOf)) (b := "\n") (by rw [sizeLine_eq, h1]; omega)
  have hr := last_read hm (by omega) h0
  generalize Txt.join "\n" (ms.map lineOf) = P at ha hr ⊢
  generalize P ++ "\n" = P2 at ha hr
  have el : ((ms.map lineOf).map PyData.str).length = ms.length := by rw [List.length_map, List.length_map]
  refine rq_bNot (rq_Truth (rq_frz (rq_call (rq_gV (rq_frz (rq_call (rq_gV (rq_Bin ?_))))))))
  refine rq_name rfl (rq_C ⟨_, ha, ?_⟩)
  iterate 2 bv_omega
  refine fq_of hr ?_
  repeat bv_omega
  rw [el]
  refine fq_of same_raised ?_
  repeat bv_omega
theorem lap_ok {N : Nat} {bS : D} {tin : List D} {x2 x3 x4 x5 x6 x7 x8 x9 x10 x11 x12 x13 x14 x15 x16 x17 x18 x19 x20 : Option Slot} (h : TinOk N tin) (hN : N < 2 ^ 50) (h2 : NP x2)
    (h3 : NP x3) (h4 : NP x4) (h5 : NP x5) (h6 : NP x6) (h7 : NP x7) (h8 : NP x8) (h9 : VN x9) (h10 : NP x10) (h11 : VN x11) (h12 : NP x12) (h13 : NP x13) (h14 : NP x14) (h15 : NP x15) (h16 : NP x16) (h17 : NP x17) (h18 : NP x18) (h19 : NP x19) :
    Rq ((sSeq (sSet 3 (dDefN 5 g_law_book (gIo 1 (gV (dBin gAdd (dC (.int 1)) (dFrz (dDefN 2 g_law_take (gIo 1 (gV (dC (.int 6)) gNil))))) (gV (dFrz (dDefN 2 g_law_take (gIo 1 (gV (dC (.int 6)) gNil)))) (gV (dC (.int 14)) (gV (dLst (aCons (dC (.str "look")) (aCons (dC (.str "tell")) (aCons (dC (.str "take")) (aCons (dC (.str "hand")) (aCons (dC (.str "own")) aNil)))))) gNil)))))))
    (sSeq (sSet 4 (dDefN 3 g_law_drawn_play (gIo 1 (gV (dName 3) (gV (dFrz (dDefN 2 g_law_of (gIo 1 (gV (dLst (aCons (dC (.int 20)) (aCons (dC (.int 5)) (aCons (dC (.int 0)) aNil)))) gNil)))) gNil)))))
    (sSeq (sFor (iRange1 (dFrz (dDefN 2 g_law_take (gIo 1 (gV (dC (.int 4)) gNil))))) (tName 5) (sSeq (sAsg (dFrz (sComp [9] (iRange1 (dC (.int 3))) (tName 9) (DL.ret true) (dFrz (dDefN 2 g_law_of (gIo 1 (gV (dLst (aCons (dC (.str "ann")) (aCons (dC (.str "box")) (aCons (dC (.str "zed")) (aCons (dC (.str "abcdefgh")) (aCons (dC (.str "q")) aNil)))))) gNil)))))) (tLstD (tsCons (tName 6) (tsCons (tName 7) (tsCons (tName 8) tsNil)))))
    (sSeq (sSet 10 (sLst (aCons (dTup (aCons (dC (.str "look")) (aCons (dName 6) (aCons (dName 7) aNil)))) (aCons (dTup (aCons (dC (.str "tell")) (aCons (dName 6) (aCons (dName 7) aNil)))) (aCons (dTup (aCons (dC (.str "take")) (aCons (dName 6) (aCons (dName 7) (aCons (dName 8) (aCons (dName 6) aNil)))))) (aCons (dTup (aCons (dC (.str "hand")) (aCons (dName 6) (aCons (dName 7) (aCons (dName 8) (aCons (dName 8) aNil)))))) (aCons (dTup (aCons (dC (.str "make")) (aCons (dName 6) (aCons (dName 7) (aCons (dC (.str "person")) (aCons (dFrz (dDefN 1 g_law_set (gV (dLst (aCons (dName 6) (aCons (dName 7) (aCons (dName 8) aNil)))) gNil))) aNil)))))) aNil)))))))
    (sSeq (sSet 11 (dDefN 2 g_law_of (gIo 1 (gV (dBin gAdd (dName 10) (dLst (aCons (dTup (aCons (dC (.str "make")) (aCons (dName 6) (aCons (dName 7) (aCons (dC (.str "thing")) (aCons (dTup aNil) aNil)))))) aNil))) gNil))))
    (sSet 4 (sV (dBin gAdd (dName 4) (dTup (aCons (dName 11) aNil)))))))))
    (sSeq (sSet 12 (sComp [11] (iAny (dName 4)) (tName 11) (DL.ret true) (dFrz (dDefN 1 g_law_words (gV (dName 11) gNil)))))
    (sSeq (sSet 13 (sV (dMeth mJoin (dC (.str "\n")) (dName 12))))
    (sSeq (sSet 14 (sLst (aCons (dFrz (dDefN 1 g_play_text (gV (dFrz (dDefN 1 (g_law_lists fuel) (gV (dName 4) gNil))) gNil))) (aCons (dFrz (sComp [11] (iAny (dName 4)) (tName 11) (DL.ret true) (dFrz (dDefN 1 g_move_text (gV (dName 11) gNil))))) (aCons (dFrz (dDefN 1 g_law_read (gV (dName 13) gNil))) (aCons (dFrz (dDefN 1 g_is_text_of_play (gV (dName 13) gNil))) aNil))))))
    (sSeq (mIf (bNot (dTruth (dFrz (dDefN 2 (g_law_same fuel) (gV (dName 14) (gV (dLst (aCons (dName 13) (aCons (dName 12) (aCons (dTup (aCons (dC (.str "told")) (aCons (dName 4) aNil))) (aCons (dC (.bool true)) aNil))))) gNil)))))) (sRet (sV (dC (.bool false)))) sNil)
    (sSeq (sSet 15 (sV (dCall cLen (aCons (dFrz (sComp [11] (iAny (dName 4)) (tName 11) (dTest (dBin (gEq false) (dCall cLen (aCons (dName 11) aNil)) (dC (.int 3)))) (dName 11))) aNil))))
    (sSeq (mIf (bNot (dTruth (dFrz (dDefN 2 (g_law_same fuel) (gV (dFrz (dDefN 1 g_count_moves (gV (dName 4) gNil))) (gV (dTup (aCons (dBin gSub (dCall cLen (aCons (dName 4) aNil)) (dName 15)) (aCons (dName 15) aNil))) gNil)))))) (sRet (sV (dC (.bool false)))) sNil)
    (sSeq (sSet 9 (dDefN 2 g_law_take (gIo 1 (gV (dBin gAdd (dCall cLen (aCons (dName 12) aNil)) (dC (.int 1))) gNil))))
    (sSeq (sSet 16 (sLst (aCons (dC (.str "")) (aCons (dC (.str " ")) (aCons (dC (.str "look ann")) (aCons (dC (.str "look ann box ")) (aCons (dC (.str " look ann box")) (aCons (dC (.str "look  ann box")) (aCons (dC (.str "look ann Box")) (aCons (dC (.str "look ann abcdefghi")) (aCons (dC (.str "give ann box own key")) aNil)))))))))))
    (sSeq (sSet 16 (sV (dBin gAdd (dName 16) (dLst (aCons (dC (.str "take ann box own")) (aCons (dC (.str "take ann box own key key")) aNil))))))
    (sSeq (sSet 16 (sV (dBin gAdd (dName 16) (dLst (aCons (dC (.str "make ann zed thing")) (aCons (dC (.str "make ann zed house -")) (aCons (dC (.str "make ann zed thing own,look")) (aCons (dC (.str "make ann zed thing own,own")) (aCons (dC (.str "make ann zed thing -,own")) aNil)))))))))
    (sSeq (sSet 16 (sV (dBin gAdd (dName 16) (dLst (aCons (dC (.str "make ann zed thing own look")) (aCons (dC (.str "look ann 1")) (aCons (dC (.str "-")) aNil)))))))
    (sSeq (sFor (iAny (dFrz (dDefN 3 g_law_pick (gIo 1 (gV (dName 16) (gV (dC (.int 6)) gNil)))))) (tName 17) (sSeq (sSet 18 (sV (dBin gAdd (dBin gAdd (dSlice gSl (dName 12) (DL.ret none) (oInt (dName 9))) (dLst (aCons (dName 17) aNil))) (dSlice gSl (dName 12) (oInt (dName 9)) (DL.ret none)))))
    (sSeq (sSet 19 (sV (dMeth mJoin (dC (.str "\n")) (dName 18))))
    (mIf (bAnd (dTest (dBin (gEq true) (dName 19) (dC (.str "")))) (bNot (dTruth (dFrz (dDefN 2 (g_law_same fuel) (gV (dLst (aCons (dFrz (dDefN 1 g_law_read (gV (dName 19) gNil))) (aCons (dFrz (dDefN 1 g_is_text_of_play (gV (dName 19) gNil))) aNil))) (gV (dLst (aCons (dTup (aCons (dC (.str "raised")) (aCons (dName 9) (aCons (dC (.bool true)) aNil)))) (aCons (dC (.bool false)) aNil))) gNil))))))) (sRet (sV (dC (.bool false)))) sNil))))
    (mIf (bAnd (dTest (dBin (gEq true) (dName 12) (dLst aNil))) (bNot (dTruth (dFrz (dDefN 2 (g_law_same fuel) (gV (dFrz (dDefN 1 g_law_read (gV (dBin gAdd (dName 13) (dC (.str "\n"))) gNil))) (gV (dTup (aCons (dC (.str "raised")) (aCons (dCall cLen (aCons (dName 12) aNil)) (aCons (dC (.bool true)) aNil)))) gNil))))))) (sRet (sV (dC (.bool false)))) sNil)))))))))))))))) [some (.v bS), some (.m tin), x2, x3, x4, x5, x6, x7, x8, x9, x10, x11, x12, x13, x14, x15, x16, x17, x18, x19, x20]) (fun fl r => fl = .nx ∧ ∃ (tin' : List D) (x2 x3 x4 x5 x6 x7 x8 x9 x10 x11 x12 x13 x14 x15 x16 x17 x18 x19 : Option Slot), r = [some (.v bS), some (.m tin'), x2, x3, x4, x5, x6, x7, x8, x9, x10, x11, x12, x13, x14, x15, x16, x17, x18, x19, x20] ∧ NP x2 ∧ NP x3 ∧ NP x4 ∧ NP x5 ∧ NP x6 ∧ NP x7 ∧ NP x8 ∧ VN x9 ∧ NP x10 ∧ VN x11 ∧ NP x12 ∧ NP x13 ∧ NP x14 ∧ NP x15 ∧ NP x16 ∧ NP x17 ∧ NP x18 ∧ NP x19 ∧ TinOk (N + 2000) tin') := by
  have szl := sizeLine_eq
  have g9 := h9.np
  have g11 := h11.np
  repeat bv_omega
  refine (take_spec h (by omega) (n := 6) (by decide) (by decide)).imp ?_
  rintro s o ⟨m1, l1, rfl, rfl, hm1, ht1⟩
  repeat bv_omega
  refine (take_spec ht1 (by omega) (n := 6) (by decide) (by decide)).imp ?_
  rintro s o ⟨m2, l2, rfl, rfl, hm2, ht2⟩
  repeat bv_omega
  refine (book_spec ht2 (by omega)).imp ?_
  rintro s o ⟨bk, l3, rfl, rfl, hbk, ht3⟩
  repeat bv_omega
  refine (of_spec (ds := [.int 20, .int 5, .int 0]) ht3 (by omega) (by simp) (by decide)).imp ?_
  rintro s o ⟨d4, l4, rfl, rfl, hd4, ht4⟩
  obtain ⟨n, rfl, hn0, hn1⟩ : ∃ n : Int, d4 = .int n ∧ 0 ≤ n ∧ n ≤ 20 := by
    simp only [List.mem_cons, List.not_mem_nil, or_false] at hd4
    rcases hd4 with rfl | rfl | rfl <;> exact ⟨_, rfl, by decide, by decide⟩
  repeat bv_omega
  refine (drawn_spec ht4 (by omega) hbk hn1 hn0).imp ?_
  rintro s o ⟨ms0, l5, rfl, rfl, hms0, hml0, ht5⟩
  repeat bv_omega
  refine (extra_loop (x4 := none) ht5 (by omega) hms0 hml0 h5 h6 h7 h8 h9 h10 h11).imp ?_
  clear h5 h6 h7 h8 h9 h10 h11 g9 g11
  rintro fl r ⟨rfl, tin6, ms, x5, x6, x7, x8, x9, x10, x11, rfl, h5, h6, h7, h8, h9, h10, h11, hm, hl, ht6⟩
  have g9 := h9.np
  have g11 := h11.np
  repeat bv_omega
  have e7 : List.map (fun d => PyData.str (lineOf d)) (ms.filter fun _ => true) = (ms.map lineOf).map .str := by rw [List.filter_eq_self.mpr (fun _ _ => rfl), List.map_map]; rfl
  refine rq_comp1 (fun _ => true) (fun d => .str (lineOf d)) ?_
  repeat bv_omega
  refine ⟨ok_vn rfl h11, by omega, fun d hd => ⟨.ok ⟨rfl, rfl⟩, fun _ => ?_⟩, ?_⟩
  · repeat bv_omega
    refine fq_of (words_ok (hm d hd)) ?_
    repeat bv_omega
  rw [e7]
  repeat bv_omega
  refine ⟨_, mJoin_l (lines_sum hm (by omega)), ?_⟩
  repeat bv_omega
  refine fq_of (lists_play hm (by omega)) ?_
  repeat bv_omega
  refine fq_of (play_text_ok hm (by omega)) ?_
  repeat bv_omega
  refine rq_comp1 (fun _ => true) (fun d => .str (lineOf d)) ?_
  repeat bv_omega
  refine ⟨ok_vn rfl h11, by omega, fun d hd => ⟨.ok ⟨rfl, rfl⟩, fun _ => ?_⟩, ?_⟩
  · repeat bv_omega
    refine fq_of (move_text_ok (hm d hd) (.inl rfl)) ?_
    repeat bv_omega
  rw [e7]
  repeat bv_omega
  refine fq_of (plain_read hm (by omega)) ?_
  repeat bv_omega
  refine fq_of (plain_is hm (by omega)) ?_
  repeat bv_omega
  refine fq_of (same_got hm (by omega)) ?_
  repeat bv_omega
  refine rq_comp1 isActD id ?_
  repeat bv_omega
  refine ⟨ok_vn rfl h11, by omega, fun d hd => ⟨?_, fun _ => ?_⟩, ?_⟩
  · cases hm d hd <;> repeat bv_omega
  · repeat bv_omega
  rw [List.map_id]
  have e8 : ((ms.filter fun m => !isActD m).length : Int) = (ms.length : Int) - ((ms.filter isActD).length : Int) := by
    have := filt_len isActD ms
    omega
  repeat bv_omega
  refine fq_of (count_ok hm (by omega)) ?_
  rw [e8]
  repeat bv_omega
  refine noo (by simp [eqv_int]) ?_
  iterate 17 bv_omega
  refine (take_spec ht6 (by omega) (by omega) (by rw [List.length_map, List.length_map]; omega)).imp ?_
  rintro s o ⟨k, l7, rfl, rfl, hk, ht7⟩
  rw [List.length_map, List.length_map] at hk
  iterate 3 bv_omega
  refine bads_build (x16 := x16) h16 ?_
  refine rq_seq ?_
  refine (bads_loop (k := k) (x9 := none) (x12 := none) (x16 := none) ht7 (by omega) hm hl (by omega) h17 h18 h19).imp ?_
  clear h17 h18 h19
  rintro fl r ⟨rfl, tin8, x17, x18, x19, rfl, h17, h18, h19, ht8⟩
  iterate 8 bv_omega
  refine ⟨Nat.zero_le _, _, gEq_l0 (fun s hs => (lines_NL hm s hs).2.2), _, rfl, fun e9 => ?_, fun e9 => ?_⟩
  · have e10 := of_decide_eq_false (gNot e9)
    have h0 : ms ≠ [] := fun z => e10 (by rw [z]; rfl)
    refine (last_test (x12 := none) (x13 := none) hm hl h0).imp ?_
    rintro b r ⟨rfl, rfl⟩
    refine noo rfl ?_
    refine rq_sNil ?_
    exact ⟨rfl, _, _, _, _, _, _, _, _, _, _, _, _, _, _, _, _, _, _, _, rfl, h2, np_v, np_v, h5, h6, h7, h8, vn_v, h10, h11, np_v, np_v, np_v, np_v, np_v, h17, h18, h19, ht8.mono (by omega)⟩
  · refine noo rfl ?_
    refine rq_sNil ?_
    exact ⟨rfl, _, _, _, _, _, _, _, _, _, _, _, _, _, _, _, _, _, _, _, rfl, h2, np_v, np_v, h5, h6, h7, h8, vn_v, h10, h11, np_v, np_v, np_v, np_v, np_v, h17, h18, h19, ht8.mono (by omega)⟩
end DT

/-! P15m: the plain law of k15, on -/
namespace DT
open PySem PySem.Spec PyProof.Rows L2 DL
local macro_rules
  | `(tactic| bv_omega) => `(tactic| first
    | with_reducible refine rq_ret ?_
    | with_reducible refine rq_C ?_
    | with_reducible refine rq_sNil ?_
    | with_reducible refine cont_nx ?_
    | with_reducible refine cont_ret ?_
    | with_reducible refine rq_aNil ?_
    | with_reducible refine rq_gNil ?_
    | with_reducible refine rq_tsNil ?_
    | ((with_reducible refine rq_name' ?_); refine ⟨_, rfl, ?_⟩)
    | ((with_reducible refine rq_nameM' ?_); refine ⟨_, rfl, ?_⟩)
    | ((with_reducible refine rq_gIo' ?_); refine ⟨rfl, ?_⟩)
    | ((with_reducible refine rq_IxO' ?_); refine ⟨rfl, ?_⟩)
    | ((with_reducible refine rq_append' ?_); refine ⟨rfl, ?_⟩)
    | ((with_reducible refine rq_pop' ?_); refine ⟨rfl, ?_⟩)
    | with_reducible refine rq_seq ?_
    | with_reducible refine rq_if ?_
    | with_reducible refine rq_and ?_
    | with_reducible refine rq_or ?_
    | with_reducible refine rq_not ?_
    | with_reducible refine rq_bAnd ?_
    | with_reducible refine rq_bOr ?_
    | with_reducible refine rq_bNot ?_
    | with_reducible refine rq_frz ?_
    | with_reducible refine rq_call ?_
    | with_reducible refine rq_set ?_
    | with_reducible refine rq_par ?_
    | with_reducible refine rq_setIx ?_
    | with_reducible refine rq_Bin ?_
    | with_reducible refine rq_Test ?_
    | with_reducible refine rq_Truth ?_
    | with_reducible refine rq_Call ?_
    | with_reducible refine rq_aCons ?_
    | with_reducible refine rq_aStar ?_
    | with_reducible refine rq_Tup ?_
    | with_reducible refine rq_Lst ?_
    | with_reducible refine rq_sLst ?_
    | with_reducible refine rq_sV ?_
    | with_reducible refine rq_sRet ?_
    | with_reducible refine rq_Isi ?_
    | with_reducible refine rq_Meth ?_
    | with_reducible refine rq_Slice ?_
    | with_reducible refine rq_oInt ?_
    | with_reducible refine rq_Chain ?_
    | with_reducible refine rq_gV ?_
    | with_reducible refine rq_iAny ?_
    | with_reducible refine rq_iEnum ?_
    | with_reducible refine rq_iZip ?_
    | with_reducible refine rq_LenO' ?_
    | with_reducible refine rq_SD ?_
    | with_reducible refine rq_iRange ?_
    | with_reducible refine rq_listOf ?_
    | with_reducible refine rq_cat ?_
    | with_reducible refine rq_orT ?_
    | with_reducible refine rq_asg ?_
    | with_reducible refine rq_tsCons ?_
    | with_reducible refine rq_tTup ?_
    | with_reducible refine rq_tLst ?_
    | refine yes rfl ?_
    | refine noo rfl ?_
    | refine yes (by decide +kernel) ?_
    | refine noo (by decide +kernel) ?_
    | with_reducible refine ⟨_, gAdd_ii, ?_⟩
    | ((with_reducible refine ⟨_, gIn_t2 ?_ ?_ ?_, ?_⟩); (· decide +kernel); (· decide +kernel); (· decide +kernel))
    | ((with_reducible refine ⟨_, gEq_ss ?_ ?_, ?_⟩); (· decide +kernel); (· decide +kernel))
    | with_reducible refine ⟨_, gSub_ii, ?_⟩
    | with_reducible refine ⟨_, gGt_ii, ?_⟩
    | with_reducible refine ⟨_, gGe_ii, ?_⟩
    | with_reducible refine ⟨_, gLe_ii, ?_⟩
    | with_reducible refine ⟨_, gLt_ii, ?_⟩
    | with_reducible refine ⟨_, gLt_ss, ?_⟩
    | with_reducible refine ⟨_, cLen_l, ?_⟩
    | with_reducible refine ⟨_, cLen_t, ?_⟩
    | with_reducible refine ⟨_, cInt_i, ?_⟩
    | with_reducible refine ⟨_, cInt_b, ?_⟩
    | with_reducible refine ⟨_, cAbs_i, ?_⟩
    | ((with_reducible refine ⟨_, gMod_ii ?_, ?_⟩); · decide)
    | ((with_reducible refine ⟨_, gDiv_ii ?_, ?_⟩); · decide)
    | ((with_reducible refine ⟨_, gMul_ii ?_, ?_⟩); · first | exact .inl (by decide) | exact .inr (by decide))
    | refine ⟨_, rfl, ?_⟩
    | refine ⟨_, _, _, rfl, rfl, rfl, ?_⟩
    | refine ⟨rfl, _, _, rfl, ?_⟩
    | refine ⟨rfl, ?_⟩
    | (refine free_at rfl ?_ ?_; · first | exact np_none | exact np_v | exact np_m | assumption)
    | with_reducible refine rq_tName' ?_
    | refine ⟨Nat.le_of_ble_eq_true rfl, ?_⟩
    | refine .inl ⟨_, rfl, ?_⟩
    | refine .inr ⟨_, rfl, ?_⟩
    | refine .inr (.inl ⟨_, rfl, ?_⟩)
    | refine .inr (.inr ⟨_, rfl, ?_⟩)
    | refine ⟨_, _, rfl, rfl, ?_⟩)
theorem law_runs {ns : List Int} (hl : ns.length ≤ 63) : g_law [.v (.list (ns.map .int))] = .ok (.v (.bool true)) none := by
  refine FQ.eq (fq_run ?_)
  show Rq (m_law [some (.v (.list (ns.map .int))), none, none, none, none, none, none, none, none, none, none, none, none, none, none, none, none, none, none, none, none]) _
  unfold m_law
  refine rq_seq (rq_set (rq_call ?_))
  repeat bv_omega
  refine (cells_spec hl).imp ?_
  rintro s o ⟨z, rfl, rfl⟩
  repeat bv_omega
  refine box_spec.imp ?_
  rintro s o ⟨tin, rfl, rfl, ht⟩
  repeat bv_omega
  refine rq_for (fun pre r => ∃ (tin' : List D) (x2 x3 x4 x5 x6 x7 x8 x9 x10 x11 x12 x13 x14 x15 x16 x17 x18 x19 : Option Slot), r = [some (.v (.list (ns.map .int))), some (.m tin'), x2, x3, x4, x5, x6, x7, x8, x9, x10, x11, x12, x13, x14, x15, x16, x17, x18, x19, none] ∧ NP x2 ∧ NP x3 ∧ NP x4 ∧ NP x5 ∧ NP x6 ∧ NP x7 ∧ NP x8 ∧ VN x9 ∧ NP x10 ∧ VN x11 ∧ NP x12 ∧ NP x13 ∧ NP x14 ∧ NP x15 ∧ NP x16 ∧ NP x17 ∧ NP x18 ∧ NP x19 ∧ TinOk (2000 * pre.length) tin') ?_
  refine rq_iRange ?_
  repeat bv_omega
  refine ⟨by decide, by decide, ⟨tin, none, none, none, none, none, none, none, none, none, none, none, none, none, none, none, none, none, none, rfl, np_none, np_none, np_none, np_none, np_none, np_none, np_none, vn_none, np_none, vn_none, np_none, np_none, np_none, np_none, np_none, np_none, np_none, np_none, ht⟩, fun pre d post r e2 hI => ?_, fun r hI => ?_⟩
  · obtain ⟨tin, x2, x3, x4, x5, x6, x7, x8, x9, x10, x11, x12, x13, x14, x15, x16, x17, x18, x19, rfl, h2, h3, h4, h5, h6, h7, h8, h9, h10, h11, h12, h13, h14, h15, h16, h17, h18, h19, ht⟩ := hI
    have hpre : pre.length < 3 := by
      have := congrArg List.length e2
      simp at this
      omega
    refine rq_tName' (free_at rfl h2 ?_)
    refine (lap_ok ht (by omega) np_v h3 h4 h5 h6 h7 h8 h9 h10 h11 h12 h13 h14 h15 h16 h17 h18 h19).imp ?_
    rintro fl r ⟨rfl, tin, x2, x3, x4, x5, x6, x7, x8, x9, x10, x11, x12, x13, x14, x15, x16, x17, x18, x19, rfl, h2, h3, h4, h5, h6, h7, h8, h9, h10, h11, h12, h13, h14, h15, h16, h17, h18, h19, ht⟩
    rw [List.length_append, List.length_singleton]
    exact ⟨_, _, _, _, _, _, _, _, _, _, _, _, _, _, _, _, _, _, _, rfl, h2, h3, h4, h5, h6, h7, h8, h9, h10, h11, h12, h13, h14, h15, h16, h17, h18, h19, ht.mono (by omega)⟩
  · obtain ⟨tin, x2, x3, x4, x5, x6, x7, x8, x9, x10, x11, x12, x13, x14, x15, x16, x17, x18, x19, rfl, h2, h3, h4, h5, h6, h7, h8, h9, h10, h11, h12, h13, h14, h15, h16, h17, h18, h19, ht⟩ := hI
    refine cont_nx ?_
    clear h2 h3 h4 h5 h6 h7 h8 h9 h10 h11 h12 h13 h14 h15 h16 h17 h18 h19 ht
    repeat bv_omega
    refine fq_of fin1 ?_
    repeat bv_omega
    refine fq_of fin3 ?_
    repeat bv_omega
    refine fq_of fin4 ?_
    repeat bv_omega
    refine fq_of final_same ?_
    repeat bv_omega
end DT

/-! printed by mkend.py: the end -/
namespace DT
open PySem PySem.Spec PyProof.Rows L2 DL
abbrev PW : Program := PySem.Challenge.pw_touchrights_k15_main_texts_of_plays
theorem exm_self {K : PySem.W.Frag} {S : Addr} (h1 : PySem.W.subIn K (.ref S) (.type "BaseException") = some true) (h2 : PySem.W.isClsIn K S = true) (h3 : PySem.W.typeIn K (.ref S) = some (.type "type")) {c : Value} {b : Bool} (h4 : PySem.W.subIn K c (.ref S) = some b) :
    PySem.W.exmOne K c (.ref S) = some b := by
  have e1 : (PySem.W.subIn K (.ref S) (.type "BaseException") == some true) = true := by rw [h1] <;> rfl
  have e2 : ((PySem.W.clsIn K S).isSome && PySem.W.typeIn K (.ref S) == some (.type "type")) = true := by
    have h2' : (PySem.W.clsIn K S).isSome = true := h2
    rw [h2', h3] <;> rfl
  show (if (PySem.W.subIn K (.ref S) (.type "BaseException") == some true) = true then (if ((PySem.W.clsIn K S).isSome && PySem.W.typeIn K (.ref S) == some (.type "type")) = true then PySem.W.subIn K c (.ref S) else none) else none) = some b
  rw [if_pos e1, if_pos e2]
  exact h4
theorem kit_of {K : PySem.W.Frag} {C : Addr} {T : String} (h : PySem.W.subIn K (.ref C) (.type T) = some true) (hm : PySem.W.kitMeta T = true) : PySem.W.kitOne K (.ref C) (.type T) = some true := by
  unfold PySem.W.kitOne PySem.W.kitCls
  simp [hm, h]
section
variable {K : PySem.W.Frag} {h : Heap} {mg : Str → Option Value}
theorem tx_mk (X : K.In h) (G : h.Ns mainGlobals mg)
    {f_is_name : Addr} {od_is_name an_is_name : Option Addr} {sl_is_name : Array (Option Value)} {oc_is_name kV_is_name dc_is_name pm_is_name cd_is_name ct_is_name : Value}
    {f_is_names : Addr} {od_is_names an_is_names : Option Addr} {sl_is_names : Array (Option Value)} {oc_is_names kV_is_names dc_is_names pm_is_names cd_is_names ct_is_names : Value}
    {f_tupled : Addr} {od_tupled an_tupled : Option Addr} {sl_tupled : Array (Option Value)} {oc_tupled kV_tupled dc_tupled pm_tupled cd_tupled ct_tupled : Value}
    {f_rises : Addr} {od_rises an_rises : Option Addr} {sl_rises : Array (Option Value)} {oc_rises kV_rises dc_rises pm_rises cd_rises ct_rises : Value}
    {f_is_deed : Addr} {od_is_deed an_is_deed : Option Addr} {sl_is_deed : Array (Option Value)} {oc_is_deed kV_is_deed dc_is_deed pm_is_deed cd_is_deed ct_is_deed : Value}
    {f_is_act : Addr} {od_is_act an_is_act : Option Addr} {sl_is_act : Array (Option Value)} {oc_is_act kV_is_act dc_is_act pm_is_act cd_is_act ct_is_act : Value}
    {f_is_move : Addr} {od_is_move an_is_move : Option Addr} {sl_is_move : Array (Option Value)} {oc_is_move kV_is_move dc_is_move pm_is_move cd_is_move ct_is_move : Value}
    {f_names_text : Addr} {od_names_text an_names_text : Option Addr} {sl_names_text : Array (Option Value)} {oc_names_text kV_names_text dc_names_text pm_names_text cd_names_text ct_names_text : Value}
    {f_move_text : Addr} {od_move_text an_move_text : Option Addr} {sl_move_text : Array (Option Value)} {oc_move_text kV_move_text dc_move_text pm_move_text cd_move_text ct_move_text : Value}
    {f_move_in : Addr} {od_move_in an_move_in : Option Addr} {sl_move_in : Array (Option Value)} {oc_move_in kV_move_in dc_move_in pm_move_in cd_move_in ct_move_in : Value}
    {f_play_text : Addr} {od_play_text an_play_text : Option Addr} {sl_play_text : Array (Option Value)} {oc_play_text kV_play_text dc_play_text pm_play_text cd_play_text ct_play_text : Value}
    {f_lines_of : Addr} {od_lines_of an_lines_of : Option Addr} {sl_lines_of : Array (Option Value)} {oc_lines_of kV_lines_of dc_lines_of pm_lines_of cd_lines_of ct_lines_of : Value}
    {f_play_in : Addr} {od_play_in an_play_in : Option Addr} {sl_play_in : Array (Option Value)} {oc_play_in kV_play_in dc_play_in pm_play_in cd_play_in ct_play_in : Value}
    {f_is_text_of_play : Addr} {od_is_text_of_play an_is_text_of_play : Option Addr} {sl_is_text_of_play : Array (Option Value)} {oc_is_text_of_play kV_is_text_of_play dc_is_text_of_play pm_is_text_of_play cd_is_text_of_play ct_is_text_of_play : Value}
    {f_count_moves : Addr} {od_count_moves an_count_moves : Option Addr} {sl_count_moves : Array (Option Value)} {oc_count_moves kV_count_moves dc_count_moves pm_count_moves cd_count_moves ct_count_moves : Value}
    {f_law_box : Addr} {od_law_box an_law_box : Option Addr} {sl_law_box : Array (Option Value)} {oc_law_box kV_law_box dc_law_box pm_law_box cd_law_box ct_law_box : Value}
    {f_law_take : Addr} {od_law_take an_law_take : Option Addr} {sl_law_take : Array (Option Value)} {oc_law_take kV_law_take dc_law_take pm_law_take cd_law_take ct_law_take : Value}
    {f_law_cells : Addr} {od_law_cells an_law_cells : Option Addr} {sl_law_cells : Array (Option Value)} {oc_law_cells kV_law_cells dc_law_cells pm_law_cells cd_law_cells ct_law_cells : Value}
    {f_law_of : Addr} {od_law_of an_law_of : Option Addr} {sl_law_of : Array (Option Value)} {oc_law_of kV_law_of dc_law_of pm_law_of cd_law_of ct_law_of : Value}
    {f_law_pick : Addr} {od_law_pick an_law_pick : Option Addr} {sl_law_pick : Array (Option Value)} {oc_law_pick kV_law_pick dc_law_pick pm_law_pick cd_law_pick ct_law_pick : Value}
    {f_law_lists : Addr} {od_law_lists an_law_lists : Option Addr} {sl_law_lists : Array (Option Value)} {oc_law_lists kV_law_lists dc_law_lists pm_law_lists cd_law_lists ct_law_lists : Value}
    {f_law_same : Addr} {od_law_same an_law_same : Option Addr} {sl_law_same : Array (Option Value)} {oc_law_same kV_law_same dc_law_same pm_law_same cd_law_same ct_law_same : Value}
    {f_law_set : Addr} {od_law_set an_law_set : Option Addr} {sl_law_set : Array (Option Value)} {oc_law_set kV_law_set dc_law_set pm_law_set cd_law_set ct_law_set : Value}
    {f_law_book : Addr} {od_law_book an_law_book : Option Addr} {sl_law_book : Array (Option Value)} {oc_law_book kV_law_book dc_law_book pm_law_book cd_law_book ct_law_book : Value}
    {f_law_may : Addr} {od_law_may an_law_may : Option Addr} {sl_law_may : Array (Option Value)} {oc_law_may kV_law_may dc_law_may pm_law_may cd_law_may ct_law_may : Value}
    {f_law_done : Addr} {od_law_done an_law_done : Option Addr} {sl_law_done : Array (Option Value)} {oc_law_done kV_law_done dc_law_done pm_law_done cd_law_done ct_law_done : Value}
    {f_law_open : Addr} {od_law_open an_law_open : Option Addr} {sl_law_open : Array (Option Value)} {oc_law_open kV_law_open dc_law_open pm_law_open cd_law_open ct_law_open : Value}
    {f_law_drawn_play : Addr} {od_law_drawn_play an_law_drawn_play : Option Addr} {sl_law_drawn_play : Array (Option Value)} {oc_law_drawn_play kV_law_drawn_play dc_law_drawn_play pm_law_drawn_play cd_law_drawn_play ct_law_drawn_play : Value}
    {f_law_words : Addr} {od_law_words an_law_words : Option Addr} {sl_law_words : Array (Option Value)} {oc_law_words kV_law_words dc_law_words pm_law_words cd_law_words ct_law_words : Value}
    {f_law_read : Addr} {od_law_read an_law_read : Option Addr} {sl_law_read : Array (Option Value)} {oc_law_read kV_law_read dc_law_read pm_law_read cd_law_read ct_law_read : Value}
    {f_law : Addr} {od_law an_law : Option Addr} {sl_law : Array (Option Value)} {oc_law kV_law dc_law pm_law cd_law ct_law : Value}
    {x_BadLine i_BadLine cda_BadLine cc_BadLine : Addr} {od_BadLine an_BadLine cdd_BadLine cld_BadLine : Option Addr} {sl_BadLine ccs_BadLine csl_BadLine : Array (Option Value)} {oc_BadLine dc_BadLine pm_BadLine ct_BadLine ccl_BadLine cl_BadLine : Value} {fv_BadLine : Array Value} {file_BadLine : Str} {tf_BadLine : Tok}
    {t_LETTERS : Tok}
    {t_LONGEST : Tok}
    {t_TRIPLE : Tok}
    {t_TAKE : Tok}
    {t_HAND : Tok}
    {t_FIVE : Tok}
    {t_MAKE : Tok}
    {t_PERSON : Tok}
    {t_THING : Tok}
    {t_LOOK : Tok}
    {t_TELL : Tok}
    {t_NOBODY : Tok}
    {t_COMMA : Tok}
    (a_is_name : PySem.W.nsIn K mainGlobals "is_name" = some (some (.ref f_is_name)))
    (l_is_name : K.lookup f_is_name = some ⟨oc_is_name, od_is_name, .func (PySem.W.fnOf "is_name" "is_name" (defArgs s_is_name) (defBody s_is_name) (defScope s_is_name) .none kV_is_name dc_is_name pm_is_name an_is_name cd_is_name ct_is_name), sl_is_name⟩)
    (c_is_name : PySem.W.codeIn K cd_is_name "is_name" = true)
    (k_is_name : PySem.W.keepIn K (.ref f_is_name) = true)
    (a_is_names : PySem.W.nsIn K mainGlobals "is_names" = some (some (.ref f_is_names)))
    (l_is_names : K.lookup f_is_names = some ⟨oc_is_names, od_is_names, .func (PySem.W.fnOf "is_names" "is_names" (defArgs s_is_names) (defBody s_is_names) (defScope s_is_names) .none kV_is_names dc_is_names pm_is_names an_is_names cd_is_names ct_is_names), sl_is_names⟩)
    (c_is_names : PySem.W.codeIn K cd_is_names "is_names" = true)
    (k_is_names : PySem.W.keepIn K (.ref f_is_names) = true)
    (a_tupled : PySem.W.nsIn K mainGlobals "tupled" = some (some (.ref f_tupled)))
    (l_tupled : K.lookup f_tupled = some ⟨oc_tupled, od_tupled, .func (PySem.W.fnOf "tupled" "tupled" (defArgs s_tupled) (defBody s_tupled) (defScope s_tupled) .none kV_tupled dc_tupled pm_tupled an_tupled cd_tupled ct_tupled), sl_tupled⟩)
    (c_tupled : PySem.W.codeIn K cd_tupled "tupled" = true)
    (k_tupled : PySem.W.keepIn K (.ref f_tupled) = true)
    (a_rises : PySem.W.nsIn K mainGlobals "rises" = some (some (.ref f_rises)))
    (l_rises : K.lookup f_rises = some ⟨oc_rises, od_rises, .func (PySem.W.fnOf "rises" "rises" (defArgs s_rises) (defBody s_rises) (defScope s_rises) .none kV_rises dc_rises pm_rises an_rises cd_rises ct_rises), sl_rises⟩)
    (c_rises : PySem.W.codeIn K cd_rises "rises" = true)
    (k_rises : PySem.W.keepIn K (.ref f_rises) = true)
    (a_is_deed : PySem.W.nsIn K mainGlobals "is_deed" = some (some (.ref f_is_deed)))
    (l_is_deed : K.lookup f_is_deed = some ⟨oc_is_deed, od_is_deed, .func (PySem.W.fnOf "is_deed" "is_deed" (defArgs s_is_deed) (defBody s_is_deed) (defScope s_is_deed) .none kV_is_deed dc_is_deed pm_is_deed an_is_deed cd_is_deed ct_is_deed), sl_is_deed⟩)
    (c_is_deed : PySem.W.codeIn K cd_is_deed "is_deed" = true)
    (k_is_deed : PySem.W.keepIn K (.ref f_is_deed) = true)
    (a_is_act : PySem.W.nsIn K mainGlobals "is_act" = some (some (.ref f_is_act)))
    (l_is_act : K.lookup f_is_act = some ⟨oc_is_act, od_is_act, .func (PySem.W.fnOf "is_act" "is_act" (defArgs s_is_act) (defBody s_is_act) (defScope s_is_act) .none kV_is_act dc_is_act pm_is_act an_is_act cd_is_act ct_is_act), sl_is_act⟩)
    (c_is_act : PySem.W.codeIn K cd_is_act "is_act" = true)
    (k_is_act : PySem.W.keepIn K (.ref f_is_act) = true)
    (a_is_move : PySem.W.nsIn K mainGlobals "is_move" = some (some (.ref f_is_move)))
    (l_is_move : K.lookup f_is_move = some ⟨oc_is_move, od_is_move, .func (PySem.W.fnOf "is_move" "is_move" (defArgs s_is_move) (defBody s_is_move) (defScope s_is_move) .none kV_is_move dc_is_move pm_is_move an_is_move cd_is_move ct_is_move), sl_is_move⟩)
    (c_is_move : PySem.W.codeIn K cd_is_move "is_move" = true)
    (k_is_move : PySem.W.keepIn K (.ref f_is_move) = true)
    (a_names_text : PySem.W.nsIn K mainGlobals "names_text" = some (some (.ref f_names_text)))
    (l_names_text : K.lookup f_names_text = some ⟨oc_names_text, od_names_text, .func (PySem.W.fnOf "names_text" "names_text" (defArgs s_names_text) (defBody s_names_text) (defScope s_names_text) .none kV_names_text dc_names_text pm_names_text an_names_text cd_names_text ct_names_text), sl_names_text⟩)
    (c_names_text : PySem.W.codeIn K cd_names_text "names_text" = true)
    (k_names_text : PySem.W.keepIn K (.ref f_names_text) = true)
    (a_move_text : PySem.W.nsIn K mainGlobals "move_text" = some (some (.ref f_move_text)))
    (l_move_text : K.lookup f_move_text = some ⟨oc_move_text, od_move_text, .func (PySem.W.fnOf "move_text" "move_text" (defArgs s_move_text) (defBody s_move_text) (defScope s_move_text) .none kV_move_text dc_move_text pm_move_text an_move_text cd_move_text ct_move_text), sl_move_text⟩)
    (c_move_text : PySem.W.codeIn K cd_move_text "move_text" = true)
    (k_move_text : PySem.W.keepIn K (.ref f_move_text) = true)
    (a_move_in : PySem.W.nsIn K mainGlobals "move_in" = some (some (.ref f_move_in)))
    (l_move_in : K.lookup f_move_in = some ⟨oc_move_in, od_move_in, .func (PySem.W.fnOf "move_in" "move_in" (defArgs s_move_in) (defBody s_move_in) (defScope s_move_in) .none kV_move_in dc_move_in pm_move_in an_move_in cd_move_in ct_move_in), sl_move_in⟩)
    (c_move_in : PySem.W.codeIn K cd_move_in "move_in" = true)
    (k_move_in : PySem.W.keepIn K (.ref f_move_in) = true)
    (a_play_text : PySem.W.nsIn K mainGlobals "play_text" = some (some (.ref f_play_text)))
    (l_play_text : K.lookup f_play_text = some ⟨oc_play_text, od_play_text, .func (PySem.W.fnOf "play_text" "play_text" (defArgs s_play_text) (defBody s_play_text) (defScope s_play_text) .none kV_play_text dc_play_text pm_play_text an_play_text cd_play_text ct_play_text), sl_play_text⟩)
    (c_play_text : PySem.W.codeIn K cd_play_text "play_text" = true)
    (k_play_text : PySem.W.keepIn K (.ref f_play_text) = true)
    (a_lines_of : PySem.W.nsIn K mainGlobals "lines_of" = some (some (.ref f_lines_of)))
    (l_lines_of : K.lookup f_lines_of = some ⟨oc_lines_of, od_lines_of, .func (PySem.W.fnOf "lines_of" "lines_of" (defArgs s_lines_of) (defBody s_lines_of) (defScope s_lines_of) .none kV_lines_of dc_lines_of pm_lines_of an_lines_of cd_lines_of ct_lines_of), sl_lines_of⟩)
    (c_lines_of : PySem.W.codeIn K cd_lines_of "lines_of" = true)
    (k_lines_of : PySem.W.keepIn K (.ref f_lines_of) = true)
    (a_play_in : PySem.W.nsIn K mainGlobals "play_in" = some (some (.ref f_play_in)))
    (l_play_in : K.lookup f_play_in = some ⟨oc_play_in, od_play_in, .func (PySem.W.fnOf "play_in" "play_in" (defArgs s_play_in) (defBody s_play_in) (defScope s_play_in) .none kV_play_in dc_play_in pm_play_in an_play_in cd_play_in ct_play_in), sl_play_in⟩)
    (c_play_in : PySem.W.codeIn K cd_play_in "play_in" = true)
    (k_play_in : PySem.W.keepIn K (.ref f_play_in) = true)
    (a_is_text_of_play : PySem.W.nsIn K mainGlobals "is_text_of_play" = some (some (.ref f_is_text_of_play)))
    (l_is_text_of_play : K.lookup f_is_text_of_play = some ⟨oc_is_text_of_play, od_is_text_of_play, .func (PySem.W.fnOf "is_text_of_play" "is_text_of_play" (defArgs s_is_text_of_play) (defBody s_is_text_of_play) (defScope s_is_text_of_play) .none kV_is_text_of_play dc_is_text_of_play pm_is_text_of_play an_is_text_of_play cd_is_text_of_play ct_is_text_of_play), sl_is_text_of_play⟩)
    (c_is_text_of_play : PySem.W.codeIn K cd_is_text_of_play "is_text_of_play" = true)
    (k_is_text_of_play : PySem.W.keepIn K (.ref f_is_text_of_play) = true)
    (a_count_moves : PySem.W.nsIn K mainGlobals "count_moves" = some (some (.ref f_count_moves)))
    (l_count_moves : K.lookup f_count_moves = some ⟨oc_count_moves, od_count_moves, .func (PySem.W.fnOf "count_moves" "count_moves" (defArgs s_count_moves) (defBody s_count_moves) (defScope s_count_moves) .none kV_count_moves dc_count_moves pm_count_moves an_count_moves cd_count_moves ct_count_moves), sl_count_moves⟩)
    (c_count_moves : PySem.W.codeIn K cd_count_moves "count_moves" = true)
    (k_count_moves : PySem.W.keepIn K (.ref f_count_moves) = true)
    (a_law_box : PySem.W.nsIn K mainGlobals "_law_box" = some (some (.ref f_law_box)))
    (l_law_box : K.lookup f_law_box = some ⟨oc_law_box, od_law_box, .func (PySem.W.fnOf "_law_box" "_law_box" (defArgs s_law_box) (defBody s_law_box) (defScope s_law_box) .none kV_law_box dc_law_box pm_law_box an_law_box cd_law_box ct_law_box), sl_law_box⟩)
    (c_law_box : PySem.W.codeIn K cd_law_box "_law_box" = true)
    (k_law_box : PySem.W.keepIn K (.ref f_law_box) = true)
    (a_law_take : PySem.W.nsIn K mainGlobals "_law_take" = some (some (.ref f_law_take)))
    (l_law_take : K.lookup f_law_take = some ⟨oc_law_take, od_law_take, .func (PySem.W.fnOf "_law_take" "_law_take" (defArgs s_law_take) (defBody s_law_take) (defScope s_law_take) .none kV_law_take dc_law_take pm_law_take an_law_take cd_law_take ct_law_take), sl_law_take⟩)
    (c_law_take : PySem.W.codeIn K cd_law_take "_law_take" = true)
    (k_law_take : PySem.W.keepIn K (.ref f_law_take) = true)
    (a_law_cells : PySem.W.nsIn K mainGlobals "_law_cells" = some (some (.ref f_law_cells)))
    (l_law_cells : K.lookup f_law_cells = some ⟨oc_law_cells, od_law_cells, .func (PySem.W.fnOf "_law_cells" "_law_cells" (defArgs s_law_cells) (defBody s_law_cells) (defScope s_law_cells) .none kV_law_cells dc_law_cells pm_law_cells an_law_cells cd_law_cells ct_law_cells), sl_law_cells⟩)
    (c_law_cells : PySem.W.codeIn K cd_law_cells "_law_cells" = true)
    (k_law_cells : PySem.W.keepIn K (.ref f_law_cells) = true)
    (a_law_of : PySem.W.nsIn K mainGlobals "_law_of" = some (some (.ref f_law_of)))
    (l_law_of : K.lookup f_law_of = some ⟨oc_law_of, od_law_of, .func (PySem.W.fnOf "_law_of" "_law_of" (defArgs s_law_of) (defBody s_law_of) (defScope s_law_of) .none kV_law_of dc_law_of pm_law_of an_law_of cd_law_of ct_law_of), sl_law_of⟩)
    (c_law_of : PySem.W.codeIn K cd_law_of "_law_of" = true)
    (k_law_of : PySem.W.keepIn K (.ref f_law_of) = true)
    (a_law_pick : PySem.W.nsIn K mainGlobals "_law_pick" = some (some (.ref f_law_pick)))
    (l_law_pick : K.lookup f_law_pick = some ⟨oc_law_pick, od_law_pick, .func (PySem.W.fnOf "_law_pick" "_law_pick" (defArgs s_law_pick) (defBody s_law_pick) (defScope s_law_pick) .none kV_law_pick dc_law_pick pm_law_pick an_law_pick cd_law_pick ct_law_pick), sl_law_pick⟩)
    (c_law_pick : PySem.W.codeIn K cd_law_pick "_law_pick" = true)
    (k_law_pick : PySem.W.keepIn K (.ref f_law_pick) = true)
    (a_law_lists : PySem.W.nsIn K mainGlobals "_law_lists" = some (some (.ref f_law_lists)))
    (l_law_lists : K.lookup f_law_lists = some ⟨oc_law_lists, od_law_lists, .func (PySem.W.fnOf "_law_lists" "_law_lists" (defArgs s_law_lists) (defBody s_law_lists) (defScope s_law_lists) .none kV_law_lists dc_law_lists pm_law_lists an_law_lists cd_law_lists ct_law_lists), sl_law_lists⟩)
    (c_law_lists : PySem.W.codeIn K cd_law_lists "_law_lists" = true)
    (k_law_lists : PySem.W.keepIn K (.ref f_law_lists) = true)
    (a_law_same : PySem.W.nsIn K mainGlobals "_law_same" = some (some (.ref f_law_same)))
    (l_law_same : K.lookup f_law_same = some ⟨oc_law_same, od_law_same, .func (PySem.W.fnOf "_law_same" "_law_same" (defArgs s_law_same) (defBody s_law_same) (defScope s_law_same) .none kV_law_same dc_law_same pm_law_same an_law_same cd_law_same ct_law_same), sl_law_same⟩)
    (c_law_same : PySem.W.codeIn K cd_law_same "_law_same" = true)
    (k_law_same : PySem.W.keepIn K (.ref f_law_same) = true)
    (a_law_set : PySem.W.nsIn K mainGlobals "_law_set" = some (some (.ref f_law_set)))
    (l_law_set : K.lookup f_law_set = some ⟨oc_law_set, od_law_set, .func (PySem.W.fnOf "_law_set" "_law_set" (defArgs s_law_set) (defBody s_law_set) (defScope s_law_set) .none kV_law_set dc_law_set pm_law_set an_law_set cd_law_set ct_law_set), sl_law_set⟩)
    (c_law_set : PySem.W.codeIn K cd_law_set "_law_set" = true)
    (k_law_set : PySem.W.keepIn K (.ref f_law_set) = true)
    (a_law_book : PySem.W.nsIn K mainGlobals "_law_book" = some (some (.ref f_law_book)))
    (l_law_book : K.lookup f_law_book = some ⟨oc_law_book, od_law_book, .func (PySem.W.fnOf "_law_book" "_law_book" (defArgs s_law_book) (defBody s_law_book) (defScope s_law_book) .none kV_law_book dc_law_book pm_law_book an_law_book cd_law_book ct_law_book), sl_law_book⟩)
    (c_law_book : PySem.W.codeIn K cd_law_book "_law_book" = true)
    (k_law_book : PySem.W.keepIn K (.ref f_law_book) = true)
    (a_law_may : PySem.W.nsIn K mainGlobals "_law_may" = some (some (.ref f_law_may)))
    (l_law_may : K.lookup f_law_may = some ⟨oc_law_may, od_law_may, .func (PySem.W.fnOf "_law_may" "_law_may" (defArgs s_law_may) (defBody s_law_may) (defScope s_law_may) .none kV_law_may dc_law_may pm_law_may an_law_may cd_law_may ct_law_may), sl_law_may⟩)
    (c_law_may : PySem.W.codeIn K cd_law_may "_law_may" = true)
    (k_law_may : PySem.W.keepIn K (.ref f_law_may) = true)
    (a_law_done : PySem.W.nsIn K mainGlobals "_law_done" = some (some (.ref f_law_done)))
    (l_law_done : K.lookup f_law_done = some ⟨oc_law_done, od_law_done, .func (PySem.W.fnOf "_law_done" "_law_done" (defArgs s_law_done) (defBody s_law_done) (defScope s_law_done) .none kV_law_done dc_law_done pm_law_done an_law_done cd_law_done ct_law_done), sl_law_done⟩)
    (c_law_done : PySem.W.codeIn K cd_law_done "_law_done" = true)
    (k_law_done : PySem.W.keepIn K (.ref f_law_done) = true)
    (a_law_open : PySem.W.nsIn K mainGlobals "_law_open" = some (some (.ref f_law_open)))
    (l_law_open : K.lookup f_law_open = some ⟨oc_law_open, od_law_open, .func (PySem.W.fnOf "_law_open" "_law_open" (defArgs s_law_open) (defBody s_law_open) (defScope s_law_open) .none kV_law_open dc_law_open pm_law_open an_law_open cd_law_open ct_law_open), sl_law_open⟩)
    (c_law_open : PySem.W.codeIn K cd_law_open "_law_open" = true)
    (k_law_open : PySem.W.keepIn K (.ref f_law_open) = true)
    (a_law_drawn_play : PySem.W.nsIn K mainGlobals "_law_drawn_play" = some (some (.ref f_law_drawn_play)))
    (l_law_drawn_play : K.lookup f_law_drawn_play = some ⟨oc_law_drawn_play, od_law_drawn_play, .func (PySem.W.fnOf "_law_drawn_play" "_law_drawn_play" (defArgs s_law_drawn_play) (defBody s_law_drawn_play) (defScope s_law_drawn_play) .none kV_law_drawn_play dc_law_drawn_play pm_law_drawn_play an_law_drawn_play cd_law_drawn_play ct_law_drawn_play), sl_law_drawn_play⟩)
    (c_law_drawn_play : PySem.W.codeIn K cd_law_drawn_play "_law_drawn_play" = true)
    (k_law_drawn_play : PySem.W.keepIn K (.ref f_law_drawn_play) = true)
    (a_law_words : PySem.W.nsIn K mainGlobals "_law_words" = some (some (.ref f_law_words)))
    (l_law_words : K.lookup f_law_words = some ⟨oc_law_words, od_law_words, .func (PySem.W.fnOf "_law_words" "_law_words" (defArgs s_law_words) (defBody s_law_words) (defScope s_law_words) .none kV_law_words dc_law_words pm_law_words an_law_words cd_law_words ct_law_words), sl_law_words⟩)
    (c_law_words : PySem.W.codeIn K cd_law_words "_law_words" = true)
    (k_law_words : PySem.W.keepIn K (.ref f_law_words) = true)
    (a_law_read : PySem.W.nsIn K mainGlobals "_law_read" = some (some (.ref f_law_read)))
    (l_law_read : K.lookup f_law_read = some ⟨oc_law_read, od_law_read, .func (PySem.W.fnOf "_law_read" "_law_read" (defArgs s_law_read) (defBody s_law_read) (defScope s_law_read) .none kV_law_read dc_law_read pm_law_read an_law_read cd_law_read ct_law_read), sl_law_read⟩)
    (c_law_read : PySem.W.codeIn K cd_law_read "_law_read" = true)
    (k_law_read : PySem.W.keepIn K (.ref f_law_read) = true)
    (a_law : PySem.W.nsIn K mainGlobals "law" = some (some (.ref f_law)))
    (l_law : K.lookup f_law = some ⟨oc_law, od_law, .func (PySem.W.fnOf "law" "law" (defArgs s_law) (defBody s_law) (defScope s_law) .none kV_law dc_law pm_law an_law cd_law ct_law), sl_law⟩)
    (c_law : PySem.W.codeIn K cd_law "law" = true)
    (k_law : PySem.W.keepIn K (.ref f_law) = true)
    (z_ValueError : PySem.W.nsIn K mainGlobals "ValueError" = some none)
    (z_abs : PySem.W.nsIn K mainGlobals "abs" = some none)
    (z_all : PySem.W.nsIn K mainGlobals "all" = some none)
    (z_bool : PySem.W.nsIn K mainGlobals "bool" = some none)
    (z_dict : PySem.W.nsIn K mainGlobals "dict" = some none)
    (z_enumerate : PySem.W.nsIn K mainGlobals "enumerate" = some none)
    (z_int : PySem.W.nsIn K mainGlobals "int" = some none)
    (z_isinstance : PySem.W.nsIn K mainGlobals "isinstance" = some none)
    (z_len : PySem.W.nsIn K mainGlobals "len" = some none)
    (z_list : PySem.W.nsIn K mainGlobals "list" = some none)
    (z_min : PySem.W.nsIn K mainGlobals "min" = some none)
    (z_range : PySem.W.nsIn K mainGlobals "range" = some none)
    (z_sorted : PySem.W.nsIn K mainGlobals "sorted" = some none)
    (z_str : PySem.W.nsIn K mainGlobals "str" = some none)
    (z_tuple : PySem.W.nsIn K mainGlobals "tuple" = some none)
    (z_zip : PySem.W.nsIn K mainGlobals "zip" = some none)
    (v_LETTERS : PySem.W.nsIn K mainGlobals "LETTERS" = some (some (.str "abcdefghijklmnopqrstuvwxyz" t_LETTERS)))
    (v_LONGEST : PySem.W.nsIn K mainGlobals "LONGEST" = some (some (.int 8 t_LONGEST)))
    (v_TRIPLE : PySem.W.nsIn K mainGlobals "TRIPLE" = some (some (.int 3 t_TRIPLE)))
    (v_TAKE : PySem.W.nsIn K mainGlobals "TAKE" = some (some (.str "take" t_TAKE)))
    (v_HAND : PySem.W.nsIn K mainGlobals "HAND" = some (some (.str "hand" t_HAND)))
    (v_FIVE : PySem.W.nsIn K mainGlobals "FIVE" = some (some (.int 5 t_FIVE)))
    (v_MAKE : PySem.W.nsIn K mainGlobals "MAKE" = some (some (.str "make" t_MAKE)))
    (v_PERSON : PySem.W.nsIn K mainGlobals "PERSON" = some (some (.str "person" t_PERSON)))
    (v_THING : PySem.W.nsIn K mainGlobals "THING" = some (some (.str "thing" t_THING)))
    (v_LOOK : PySem.W.nsIn K mainGlobals "LOOK" = some (some (.str "look" t_LOOK)))
    (v_TELL : PySem.W.nsIn K mainGlobals "TELL" = some (some (.str "tell" t_TELL)))
    (v_NOBODY : PySem.W.nsIn K mainGlobals "NOBODY" = some (some (.str "-" t_NOBODY)))
    (v_COMMA : PySem.W.nsIn K mainGlobals "COMMA" = some (some (.str "," t_COMMA)))
    (gC_BadLine : PySem.W.nsIn K mainGlobals "BadLine" = some (some (.ref x_BadLine)))
    (ms_BadLine : PySem.W.nsIn K mainGlobals "super" = some none)
    (ex_BadLine : PySem.W.excInitIn K x_BadLine [.type "ValueError", .type "Exception", .type "BaseException", .type "object"] "ValueError.__new__" = true)
    (ov_BadLine : PySem.W.excOver K x_BadLine [.type "ValueError", .type "Exception", .type "BaseException", .type "object"] = true)
    (tk_BadLine : PySem.W.takerIn K x_BadLine "number" = some none)
    (sa_BadLine : PySem.W.findIn K (.ref x_BadLine) "__setattr__" = some (some (.builtin "object.__setattr__")))
    (ga_BadLine : PySem.W.findIn K (.ref x_BadLine) "__getattribute__" = some (some (.builtin "BaseException.__getattribute__")))
    (gg_BadLine : PySem.W.findIn K (.ref x_BadLine) "__getattr__" = some none)
    (no_BadLine : PySem.W.findIn K (.ref x_BadLine) "number" = some none)
    (iC_BadLine : PySem.W.findIn K (.ref x_BadLine) "__init__" = some (some (.ref i_BadLine)))
    (tC_BadLine : PySem.W.typeIn K (.ref i_BadLine) = some (.type "function"))
    (kC_BadLine : PySem.W.keepIn K (.ref x_BadLine) = true)
    (eC_BadLine : PySem.W.subIn K (.ref x_BadLine) (.type "BaseException") = some true)
    (tyC_BadLine : PySem.W.typeIn K (.ref x_BadLine) = some (.type "type"))
    (hd_BadLine : PySem.W.hasDictIn K x_BadLine = true)
    (is_BadLine : PySem.W.isClsIn K x_BadLine = true)
    (sC_BadLine : PySem.W.subIn K (.ref x_BadLine) (.ref x_BadLine) = some true)
    (su_BadLine : PySem.W.ks_superIn K x_BadLine x_BadLine "__init__" = some (some (.builtin "ValueError.__init__")))
    (sB_BadLine : PySem.W.subIn K (.ref x_BadLine) (.type "ValueError") = some true)
    (mr_BadLine : PySem.W.mroIn K x_BadLine (.ref x_BadLine) = some true)
    (op_BadLine : PySem.W.nsIn K PySem.cStatics "thirdparty.any" = some none)
    (li_BadLine : K.lookup i_BadLine = some ⟨oc_BadLine, od_BadLine, .func (PySem.W.ksFn "__init__" "BadLine.__init__" PySem.Sup_BadLine.iA PySem.Sup_BadLine.iB PySem.Sup_BadLine.iS .none .none dc_BadLine pm_BadLine an_BadLine (.ref cda_BadLine) ct_BadLine cc_BadLine), sl_BadLine⟩)
    (ci_BadLine : PySem.W.codeIn K (.ref cda_BadLine) "BadLine.__init__" = true)
    (ld_BadLine : K.lookup cda_BadLine = some ⟨ccl_BadLine, cdd_BadLine, .fields fv_BadLine, ccs_BadLine⟩)
    (lf_BadLine : fv_BadLine[2]? = some (.str file_BadLine tf_BadLine))
    (fi_BadLine : ((PW.main.file : Str) == file_BadLine) = true)
    (lc_BadLine : K.lookup cc_BadLine = some ⟨cl_BadLine, cld_BadLine, .cell (some (.ref x_BadLine)), csl_BadLine⟩)
    (hc_BadLine : PySem.W.findIn K (.ref x_BadLine) "__class__" = some (some (.builtin "object.__class__")))
    (hm_BadLine : PySem.W.mroIn K x_BadLine (.type "object") = some true)
    (hn : PySem.W.specialIn K (.builtin "object.__class__") "__get__" = some (some (.builtin "getset_descriptor.__get__")))
    (ht : PySem.W.takesIn K (.builtin "object.__class__") = some true)
    (ki_BadLine_ValueError : PySem.W.subIn K (.ref x_BadLine) (.type "ValueError") = some true)
    : Tx PW K mg ⟨f_is_name, PySem.W.fnOf "is_name" "is_name" (defArgs s_is_name) (defBody s_is_name) (defScope s_is_name) .none kV_is_name dc_is_name pm_is_name an_is_name cd_is_name ct_is_name, f_is_names, PySem.W.fnOf "is_names" "is_names" (defArgs s_is_names) (defBody s_is_names) (defScope s_is_names) .none kV_is_names dc_is_names pm_is_names an_is_names cd_is_names ct_is_names, f_tupled, PySem.W.fnOf "tupled" "tupled" (defArgs s_tupled) (defBody s_tupled) (defScope s_tupled) .none kV_tupled dc_tupled pm_tupled an_tupled cd_tupled ct_tupled, f_rises, PySem.W.fnOf "rises" "rises" (defArgs s_rises) (defBody s_rises) (defScope s_rises) .none kV_rises dc_rises pm_rises an_rises cd_rises ct_rises, f_is_deed, PySem.W.fnOf "is_deed" "is_deed" (defArgs s_is_deed) (defBody s_is_deed) (defScope s_is_deed) .none kV_is_deed dc_is_deed pm_is_deed an_is_deed cd_is_deed ct_is_deed, f_is_act, PySem.W.fnOf "is_act" "is_act" (defArgs s_is_act) (defBody s_is_act) (defScope s_is_act) .none kV_is_act dc_is_act pm_is_act an_is_act cd_is_act ct_is_act, f_is_move, PySem.W.fnOf "is_move" "is_move" (defArgs s_is_move) (defBody s_is_move) (defScope s_is_move) .none kV_is_move dc_is_move pm_is_move an_is_move cd_is_move ct_is_move, f_names_text, PySem.W.fnOf "names_text" "names_text" (defArgs s_names_text) (defBody s_names_text) (defScope s_names_text) .none kV_names_text dc_names_text pm_names_text an_names_text cd_names_text ct_names_text, f_move_text, PySem.W.fnOf "move_text" "move_text" (defArgs s_move_text) (defBody s_move_text) (defScope s_move_text) .none kV_move_text dc_move_text pm_move_text an_move_text cd_move_text ct_move_text, f_move_in, PySem.W.fnOf "move_in" "move_in" (defArgs s_move_in) (defBody s_move_in) (defScope s_move_in) .none kV_move_in dc_move_in pm_move_in an_move_in cd_move_in ct_move_in, f_play_text, PySem.W.fnOf "play_text" "play_text" (defArgs s_play_text) (defBody s_play_text) (defScope s_play_text) .none kV_play_text dc_play_text pm_play_text an_play_text cd_play_text ct_play_text, f_lines_of, PySem.W.fnOf "lines_of" "lines_of" (defArgs s_lines_of) (defBody s_lines_of) (defScope s_lines_of) .none kV_lines_of dc_lines_of pm_lines_of an_lines_of cd_lines_of ct_lines_of, f_play_in, PySem.W.fnOf "play_in" "play_in" (defArgs s_play_in) (defBody s_play_in) (defScope s_play_in) .none kV_play_in dc_play_in pm_play_in an_play_in cd_play_in ct_play_in, f_is_text_of_play, PySem.W.fnOf "is_text_of_play" "is_text_of_play" (defArgs s_is_text_of_play) (defBody s_is_text_of_play) (defScope s_is_text_of_play) .none kV_is_text_of_play dc_is_text_of_play pm_is_text_of_play an_is_text_of_play cd_is_text_of_play ct_is_text_of_play, f_count_moves, PySem.W.fnOf "count_moves" "count_moves" (defArgs s_count_moves) (defBody s_count_moves) (defScope s_count_moves) .none kV_count_moves dc_count_moves pm_count_moves an_count_moves cd_count_moves ct_count_moves, f_law_box, PySem.W.fnOf "_law_box" "_law_box" (defArgs s_law_box) (defBody s_law_box) (defScope s_law_box) .none kV_law_box dc_law_box pm_law_box an_law_box cd_law_box ct_law_box, f_law_take, PySem.W.fnOf "_law_take" "_law_take" (defArgs s_law_take) (defBody s_law_take) (defScope s_law_take) .none kV_law_take dc_law_take pm_law_take an_law_take cd_law_take ct_law_take, f_law_cells, PySem.W.fnOf "_law_cells" "_law_cells" (defArgs s_law_cells) (defBody s_law_cells) (defScope s_law_cells) .none kV_law_cells dc_law_cells pm_law_cells an_law_cells cd_law_cells ct_law_cells, f_law_of, PySem.W.fnOf "_law_of" "_law_of" (defArgs s_law_of) (defBody s_law_of) (defScope s_law_of) .none kV_law_of dc_law_of pm_law_of an_law_of cd_law_of ct_law_of, f_law_pick, PySem.W.fnOf "_law_pick" "_law_pick" (defArgs s_law_pick) (defBody s_law_pick) (defScope s_law_pick) .none kV_law_pick dc_law_pick pm_law_pick an_law_pick cd_law_pick ct_law_pick, f_law_lists, PySem.W.fnOf "_law_lists" "_law_lists" (defArgs s_law_lists) (defBody s_law_lists) (defScope s_law_lists) .none kV_law_lists dc_law_lists pm_law_lists an_law_lists cd_law_lists ct_law_lists, f_law_same, PySem.W.fnOf "_law_same" "_law_same" (defArgs s_law_same) (defBody s_law_same) (defScope s_law_same) .none kV_law_same dc_law_same pm_law_same an_law_same cd_law_same ct_law_same, f_law_set, PySem.W.fnOf "_law_set" "_law_set" (defArgs s_law_set) (defBody s_law_set) (defScope s_law_set) .none kV_law_set dc_law_set pm_law_set an_law_set cd_law_set ct_law_set, f_law_book, PySem.W.fnOf "_law_book" "_law_book" (defArgs s_law_book) (defBody s_law_book) (defScope s_law_book) .none kV_law_book dc_law_book pm_law_book an_law_book cd_law_book ct_law_book, f_law_may, PySem.W.fnOf "_law_may" "_law_may" (defArgs s_law_may) (defBody s_law_may) (defScope s_law_may) .none kV_law_may dc_law_may pm_law_may an_law_may cd_law_may ct_law_may, f_law_done, PySem.W.fnOf "_law_done" "_law_done" (defArgs s_law_done) (defBody s_law_done) (defScope s_law_done) .none kV_law_done dc_law_done pm_law_done an_law_done cd_law_done ct_law_done, f_law_open, PySem.W.fnOf "_law_open" "_law_open" (defArgs s_law_open) (defBody s_law_open) (defScope s_law_open) .none kV_law_open dc_law_open pm_law_open an_law_open cd_law_open ct_law_open, f_law_drawn_play, PySem.W.fnOf "_law_drawn_play" "_law_drawn_play" (defArgs s_law_drawn_play) (defBody s_law_drawn_play) (defScope s_law_drawn_play) .none kV_law_drawn_play dc_law_drawn_play pm_law_drawn_play an_law_drawn_play cd_law_drawn_play ct_law_drawn_play, f_law_words, PySem.W.fnOf "_law_words" "_law_words" (defArgs s_law_words) (defBody s_law_words) (defScope s_law_words) .none kV_law_words dc_law_words pm_law_words an_law_words cd_law_words ct_law_words, f_law_read, PySem.W.fnOf "_law_read" "_law_read" (defArgs s_law_read) (defBody s_law_read) (defScope s_law_read) .none kV_law_read dc_law_read pm_law_read an_law_read cd_law_read ct_law_read, f_law, PySem.W.fnOf "law" "law" (defArgs s_law) (defBody s_law) (defScope s_law) .none kV_law dc_law pm_law an_law cd_law ct_law, x_BadLine, i_BadLine⟩ where
  b_ValueError := PySem.W.mg_none_of X G z_ValueError
  b_abs := PySem.W.mg_none_of X G z_abs
  b_all := PySem.W.mg_none_of X G z_all
  b_bool := PySem.W.mg_none_of X G z_bool
  b_dict := PySem.W.mg_none_of X G z_dict
  b_enumerate := PySem.W.mg_none_of X G z_enumerate
  b_int := PySem.W.mg_none_of X G z_int
  b_isinstance := PySem.W.mg_none_of X G z_isinstance
  b_len := PySem.W.mg_none_of X G z_len
  b_list := PySem.W.mg_none_of X G z_list
  b_min := PySem.W.mg_none_of X G z_min
  b_range := PySem.W.mg_none_of X G z_range
  b_sorted := PySem.W.mg_none_of X G z_sorted
  b_str := PySem.W.mg_none_of X G z_str
  b_tuple := PySem.W.mg_none_of X G z_tuple
  b_zip := PySem.W.mg_none_of X G z_zip
  c_LETTERS := ⟨_, PySem.W.mg_of X G v_LETTERS⟩
  c_LONGEST := ⟨_, PySem.W.mg_of X G v_LONGEST⟩
  c_TRIPLE := ⟨_, PySem.W.mg_of X G v_TRIPLE⟩
  c_TAKE := ⟨_, PySem.W.mg_of X G v_TAKE⟩
  c_HAND := ⟨_, PySem.W.mg_of X G v_HAND⟩
  c_FIVE := ⟨_, PySem.W.mg_of X G v_FIVE⟩
  c_MAKE := ⟨_, PySem.W.mg_of X G v_MAKE⟩
  c_PERSON := ⟨_, PySem.W.mg_of X G v_PERSON⟩
  c_THING := ⟨_, PySem.W.mg_of X G v_THING⟩
  c_LOOK := ⟨_, PySem.W.mg_of X G v_LOOK⟩
  c_TELL := ⟨_, PySem.W.mg_of X G v_TELL⟩
  c_NOBODY := ⟨_, PySem.W.mg_of X G v_NOBODY⟩
  c_COMMA := ⟨_, PySem.W.mg_of X G v_COMMA⟩
  d_is_name := ⟨fun_mk (st := s_is_name) l_is_name c_is_name k_is_name, PySem.W.mg_of X G a_is_name, (fun_mk (st := s_is_name) l_is_name c_is_name k_is_name).binds fun _ _ _ _ _ _ us hl => match us, hl with | [_], _ => rfl, fun s ws _ hl => match ws, hl with | [_], _ => .of_eq (by first | rfl | with_unfolding_all rfl)⟩
  d_is_names := ⟨fun_mk (st := s_is_names) l_is_names c_is_names k_is_names, PySem.W.mg_of X G a_is_names, (fun_mk (st := s_is_names) l_is_names c_is_names k_is_names).binds fun _ _ _ _ _ _ us hl => match us, hl with | [_], _ => rfl, fun s ws _ hl => match ws, hl with | [_], _ => .of_eq (by first | rfl | with_unfolding_all rfl)⟩
  d_tupled := ⟨fun_mk (st := s_tupled) l_tupled c_tupled k_tupled, PySem.W.mg_of X G a_tupled, (fun_mk (st := s_tupled) l_tupled c_tupled k_tupled).binds fun _ _ _ _ _ _ us hl => match us, hl with | [_], _ => rfl, fun s ws _ hl => match ws, hl with | [_], _ => .of_eq (by first | rfl | with_unfolding_all rfl)⟩
  d_rises := ⟨fun_mk (st := s_rises) l_rises c_rises k_rises, PySem.W.mg_of X G a_rises, (fun_mk (st := s_rises) l_rises c_rises k_rises).binds fun _ _ _ _ _ _ us hl => match us, hl with | [_], _ => rfl, fun s ws _ hl => match ws, hl with | [_], _ => .of_eq (by first | rfl | with_unfolding_all rfl)⟩
  d_is_deed := ⟨fun_mk (st := s_is_deed) l_is_deed c_is_deed k_is_deed, PySem.W.mg_of X G a_is_deed, (fun_mk (st := s_is_deed) l_is_deed c_is_deed k_is_deed).binds fun _ _ _ _ _ _ us hl => match us, hl with | [_], _ => rfl, fun s ws _ hl => match ws, hl with | [_], _ => .of_eq (by first | rfl | with_unfolding_all rfl)⟩
  d_is_act := ⟨fun_mk (st := s_is_act) l_is_act c_is_act k_is_act, PySem.W.mg_of X G a_is_act, (fun_mk (st := s_is_act) l_is_act c_is_act k_is_act).binds fun _ _ _ _ _ _ us hl => match us, hl with | [_], _ => rfl, fun s ws _ hl => match ws, hl with | [_], _ => .of_eq (by first | rfl | with_unfolding_all rfl)⟩
  d_is_move := ⟨fun_mk (st := s_is_move) l_is_move c_is_move k_is_move, PySem.W.mg_of X G a_is_move, (fun_mk (st := s_is_move) l_is_move c_is_move k_is_move).binds fun _ _ _ _ _ _ us hl => match us, hl with | [_], _ => rfl, fun s ws _ hl => match ws, hl with | [_], _ => .of_eq (by first | rfl | with_unfolding_all rfl)⟩
  d_names_text := ⟨fun_mk (st := s_names_text) l_names_text c_names_text k_names_text, PySem.W.mg_of X G a_names_text, (fun_mk (st := s_names_text) l_names_text c_names_text k_names_text).binds fun _ _ _ _ _ _ us hl => match us, hl with | [_], _ => rfl, fun s ws _ hl => match ws, hl with | [_], _ => .of_eq (by first | rfl | with_unfolding_all rfl)⟩
  d_move_text := ⟨fun_mk (st := s_move_text) l_move_text c_move_text k_move_text, PySem.W.mg_of X G a_move_text, (fun_mk (st := s_move_text) l_move_text c_move_text k_move_text).binds fun _ _ _ _ _ _ us hl => match us, hl with | [_], _ => rfl, fun s ws _ hl => match ws, hl with | [_], _ => .of_eq (by first | rfl | with_unfolding_all rfl)⟩
  d_move_in := ⟨fun_mk (st := s_move_in) l_move_in c_move_in k_move_in, PySem.W.mg_of X G a_move_in, (fun_mk (st := s_move_in) l_move_in c_move_in k_move_in).binds fun _ _ _ _ _ _ us hl => match us, hl with | [_], _ => rfl, fun s ws _ hl => match ws, hl with | [_], _ => .of_eq (by first | rfl | with_unfolding_all rfl)⟩
  d_play_text := ⟨fun_mk (st := s_play_text) l_play_text c_play_text k_play_text, PySem.W.mg_of X G a_play_text, (fun_mk (st := s_play_text) l_play_text c_play_text k_play_text).binds fun _ _ _ _ _ _ us hl => match us, hl with | [_], _ => rfl, fun s ws _ hl => match ws, hl with | [_], _ => .of_eq (by first | rfl | with_unfolding_all rfl)⟩
  d_lines_of := ⟨fun_mk (st := s_lines_of) l_lines_of c_lines_of k_lines_of, PySem.W.mg_of X G a_lines_of, (fun_mk (st := s_lines_of) l_lines_of c_lines_of k_lines_of).binds fun _ _ _ _ _ _ us hl => match us, hl with | [_], _ => rfl, fun s ws _ hl => match ws, hl with | [_], _ => .of_eq (by first | rfl | with_unfolding_all rfl)⟩
  d_play_in := ⟨fun_mk (st := s_play_in) l_play_in c_play_in k_play_in, PySem.W.mg_of X G a_play_in, (fun_mk (st := s_play_in) l_play_in c_play_in k_play_in).binds fun _ _ _ _ _ _ us hl => match us, hl with | [_], _ => rfl, fun s ws _ hl => match ws, hl with | [_], _ => .of_eq (by first | rfl | with_unfolding_all rfl)⟩
  d_is_text_of_play := ⟨fun_mk (st := s_is_text_of_play) l_is_text_of_play c_is_text_of_play k_is_text_of_play, PySem.W.mg_of X G a_is_text_of_play, (fun_mk (st := s_is_text_of_play) l_is_text_of_play c_is_text_of_play k_is_text_of_play).binds fun _ _ _ _ _ _ us hl => match us, hl with | [_], _ => rfl, fun s ws _ hl => match ws, hl with | [_], _ => .of_eq (by first | rfl | with_unfolding_all rfl)⟩
  d_count_moves := ⟨fun_mk (st := s_count_moves) l_count_moves c_count_moves k_count_moves, PySem.W.mg_of X G a_count_moves, (fun_mk (st := s_count_moves) l_count_moves c_count_moves k_count_moves).binds fun _ _ _ _ _ _ us hl => match us, hl with | [_], _ => rfl, fun s ws _ hl => match ws, hl with | [_], _ => .of_eq (by first | rfl | with_unfolding_all rfl)⟩
  d_law_box := ⟨fun_mk (st := s_law_box) l_law_box c_law_box k_law_box, PySem.W.mg_of X G a_law_box, (fun_mk (st := s_law_box) l_law_box c_law_box k_law_box).binds fun _ _ _ _ _ _ us hl => match us, hl with | [_, _], _ => rfl, fun s ws _ hl => match ws, hl with | [_, _], _ => .of_eq (by first | rfl | with_unfolding_all rfl)⟩
  d_law_take := ⟨fun_mk (st := s_law_take) l_law_take c_law_take k_law_take, PySem.W.mg_of X G a_law_take, (fun_mk (st := s_law_take) l_law_take c_law_take k_law_take).binds fun _ _ _ _ _ _ us hl => match us, hl with | [_, _], _ => rfl, fun s ws _ hl => match ws, hl with | [_, _], _ => .of_eq (by first | rfl | with_unfolding_all rfl)⟩
  d_law_cells := ⟨fun_mk (st := s_law_cells) l_law_cells c_law_cells k_law_cells, PySem.W.mg_of X G a_law_cells, (fun_mk (st := s_law_cells) l_law_cells c_law_cells k_law_cells).binds fun _ _ _ _ _ _ us hl => match us, hl with | [_, _], _ => rfl, fun s ws _ hl => match ws, hl with | [_, _], _ => .of_eq (by first | rfl | with_unfolding_all rfl)⟩
  d_law_of := ⟨fun_mk (st := s_law_of) l_law_of c_law_of k_law_of, PySem.W.mg_of X G a_law_of, (fun_mk (st := s_law_of) l_law_of c_law_of k_law_of).binds fun _ _ _ _ _ _ us hl => match us, hl with | [_, _], _ => rfl, fun s ws _ hl => match ws, hl with | [_, _], _ => .of_eq (by first | rfl | with_unfolding_all rfl)⟩
  d_law_pick := ⟨fun_mk (st := s_law_pick) l_law_pick c_law_pick k_law_pick, PySem.W.mg_of X G a_law_pick, (fun_mk (st := s_law_pick) l_law_pick c_law_pick k_law_pick).binds fun _ _ _ _ _ _ us hl => match us, hl with | [_, _, _], _ => rfl, fun s ws _ hl => match ws, hl with | [_, _, _], _ => .of_eq (by first | rfl | with_unfolding_all rfl)⟩
  d_law_lists := ⟨fun_mk (st := s_law_lists) l_law_lists c_law_lists k_law_lists, PySem.W.mg_of X G a_law_lists, (fun_mk (st := s_law_lists) l_law_lists c_law_lists k_law_lists).binds fun _ _ _ _ _ _ us hl => match us, hl with | [_], _ => rfl, fun s ws _ hl => match ws, hl with | [_], _ => .of_eq (by first | rfl | with_unfolding_all rfl)⟩
  d_law_same := ⟨fun_mk (st := s_law_same) l_law_same c_law_same k_law_same, PySem.W.mg_of X G a_law_same, (fun_mk (st := s_law_same) l_law_same c_law_same k_law_same).binds fun _ _ _ _ _ _ us hl => match us, hl with | [_, _], _ => rfl, fun s ws _ hl => match ws, hl with | [_, _], _ => .of_eq (by first | rfl | with_unfolding_all rfl)⟩
  d_law_set := ⟨fun_mk (st := s_law_set) l_law_set c_law_set k_law_set, PySem.W.mg_of X G a_law_set, (fun_mk (st := s_law_set) l_law_set c_law_set k_law_set).binds fun _ _ _ _ _ _ us hl => match us, hl with | [_], _ => rfl, fun s ws _ hl => match ws, hl with | [_], _ => .of_eq (by first | rfl | with_unfolding_all rfl)⟩
  d_law_book := ⟨fun_mk (st := s_law_book) l_law_book c_law_book k_law_book, PySem.W.mg_of X G a_law_book, (fun_mk (st := s_law_book) l_law_book c_law_book k_law_book).binds fun _ _ _ _ _ _ us hl => match us, hl with | [_, _, _, _, _], _ => rfl, fun s ws _ hl => match ws, hl with | [_, _, _, _, _], _ => .of_eq (by first | rfl | with_unfolding_all rfl)⟩
  d_law_may := ⟨fun_mk (st := s_law_may) l_law_may c_law_may k_law_may, PySem.W.mg_of X G a_law_may, (fun_mk (st := s_law_may) l_law_may c_law_may k_law_may).binds fun _ _ _ _ _ _ us hl => match us, hl with | [_, _], _ => rfl, fun s ws _ hl => match ws, hl with | [_, _], _ => .of_eq (by first | rfl | with_unfolding_all rfl)⟩
  d_law_done := ⟨fun_mk (st := s_law_done) l_law_done c_law_done k_law_done, PySem.W.mg_of X G a_law_done, (fun_mk (st := s_law_done) l_law_done c_law_done k_law_done).binds fun _ _ _ _ _ _ us hl => match us, hl with | [_, _], _ => rfl, fun s ws _ hl => match ws, hl with | [_, _], _ => .of_eq (by first | rfl | with_unfolding_all rfl)⟩
  d_law_open := ⟨fun_mk (st := s_law_open) l_law_open c_law_open k_law_open, PySem.W.mg_of X G a_law_open, (fun_mk (st := s_law_open) l_law_open c_law_open k_law_open).binds fun _ _ _ _ _ _ us hl => match us, hl with | [_, _], _ => rfl, fun s ws _ hl => match ws, hl with | [_, _], _ => .of_eq (by first | rfl | with_unfolding_all rfl)⟩
  d_law_drawn_play := ⟨fun_mk (st := s_law_drawn_play) l_law_drawn_play c_law_drawn_play k_law_drawn_play, PySem.W.mg_of X G a_law_drawn_play, (fun_mk (st := s_law_drawn_play) l_law_drawn_play c_law_drawn_play k_law_drawn_play).binds fun _ _ _ _ _ _ us hl => match us, hl with | [_, _, _], _ => rfl, fun s ws _ hl => match ws, hl with | [_, _, _], _ => .of_eq (by first | rfl | with_unfolding_all rfl)⟩
  d_law_words := ⟨fun_mk (st := s_law_words) l_law_words c_law_words k_law_words, PySem.W.mg_of X G a_law_words, (fun_mk (st := s_law_words) l_law_words c_law_words k_law_words).binds fun _ _ _ _ _ _ us hl => match us, hl with | [_], _ => rfl, fun s ws _ hl => match ws, hl with | [_], _ => .of_eq (by first | rfl | with_unfolding_all rfl)⟩
  d_law_read := ⟨fun_mk (st := s_law_read) l_law_read c_law_read k_law_read, PySem.W.mg_of X G a_law_read, (fun_mk (st := s_law_read) l_law_read c_law_read k_law_read).binds fun _ _ _ _ _ _ us hl => match us, hl with | [_], _ => rfl, fun s ws _ hl => match ws, hl with | [_], _ => .of_eq (by first | rfl | with_unfolding_all rfl)⟩
  d_law := ⟨fun_mk (st := s_law) l_law c_law k_law, PySem.W.mg_of X G a_law, (fun_mk (st := s_law) l_law c_law k_law).binds fun _ _ _ _ _ _ us hl => match us, hl with | [_], _ => rfl, fun s ws _ hl => match ws, hl with | [_], _ => .of_eq (by first | rfl | with_unfolding_all rfl)⟩
  x_BadLine := ⟨PySem.W.mg_of X G gC_BadLine, PySem.W.mg_none_of X G ms_BadLine, ex_BadLine, ov_BadLine, tk_BadLine, sa_BadLine, ga_BadLine, gg_BadLine, no_BadLine, iC_BadLine, tC_BadLine, kC_BadLine, eC_BadLine, tyC_BadLine, hd_BadLine, exm_self eC_BadLine is_BadLine tyC_BadLine sC_BadLine, su_BadLine, sB_BadLine, mr_BadLine, op_BadLine, (by first | rfl | decide +kernel), ⟨_, _, _, _, _, _, _, _, _, li_BadLine, ci_BadLine, ⟨_, _, _, _, _, _, ld_BadLine, lf_BadLine, fi_BadLine⟩, ⟨_, _, _, lc_BadLine⟩⟩⟩
  e_BadLine := ⟨ga_BadLine, gg_BadLine, eC_BadLine, hd_BadLine, no_BadLine, is_BadLine, hc_BadLine, hn, ht, hm_BadLine⟩
  m_BadLine := fun c' a fo e => by
    match c', e with
    | 0, e => cases e; exact exm_self eC_BadLine is_BadLine tyC_BadLine sC_BadLine
    | n + 1, e => cases e
  k_BadLine_ValueError := kit_of ki_BadLine_ValueError (by decide +kernel)
end
def spLaw (K : PySem.W.Frag) : Sp := fun vs H Q _ => ∃ (a : Addr) (ns : List Int), vs = [V.ref a] ∧ SqL K H a (ns.map V.int) ∧ ns.length ≤ 63 ∧ ∀ H', Q (.bl true) H'
theorem dps_ints {K : PySem.W.Frag} {F : Hp} : ∀ ns : List Int, DpAll K F (ns.map V.int) (ns.map PyData.int)
  | [] => .nil
  | n :: ns => .cons (.int n) (dps_ints ns)
def LawSays : Prop := ∀ ns : List Int, ns.length ≤ 63 → g_law [.v (.list (ns.map .int))] = .ok (.v (.bool true)) none
theorem law_sp {K : PySem.W.Frag} {xc : List (Addr × Option Str)} (L : LawSays) (vs : List V) (H : Hp) (Q : VK) (E : XK) (q : spLaw K vs H Q E) : spD K xc 1 g_law vs H Q E := by
  obtain ⟨a, ns, rfl, hs, hl, q⟩ := q
  refine ⟨rfl, H, [.v (.list (ns.map .int))], none, fun _ _ e => e, .v (.lst hs (dps_ints ns)) .nil, ?_⟩
  rw [L ns hl]
  intro v F' H' _ r
  cases r
  exact q _
theorem cx_of {P : Program} {w : World} {H : Hp} {s : Shared} {e : Value} {s' : Shared} (h : L2.CX P w [] H s (fun _ _ _ => False) e s') : False := by
  obtain ⟨_, _, _, _, _, _, h⟩ := h
  simp_all
theorem end_of {w : World} {K : PySem.W.Frag} {mg : Str → Option Value} {fa : Addr} {A : Ad} (hmg : mg "law" = some (.ref fa)) (L : LawSays) (T : Tx PW K mg A) (hb : ∀ (s : Shared) (v : Value), BindsTo s A.fd_law ⟨[v], []⟩ [("script", v)]) :
    ∃ fd : FuncData, (∀ (s : Shared) (v : Value), BindsTo s fd ⟨[v], []⟩ [("script", v)]) ∧ ∀ base : Heap, K.In base → base.Ns mainGlobals mg → FnOk PW w K mg base (L2.CX PW w) 16 fa fd ["script"] (spLaw K) := by
  have e := hmg.symm.trans T.d_law.gm
  cases e
  exact ⟨A.fd_law, hb, fun base _ _ => (ok_law T).imp (law_sp L)⟩
theorem law_says : LawSays := fun ns hl => law_runs hl
end DT
open PySem PySem.W PyProof.Rows
set_option maxRecDepth 100000 in
set_option maxHeartbeats 0 in
theorem PySem.Challenge.cw_touchrights_k15_main_texts_of_plays_holds : PySem.Challenge.rw_touchrights_k15_main_texts_of_plays.Holds := by
  w_on; o_law; k_head; (case hw => w_witness2)
  k_fill
  refine L2.walk_of (l := PySem.Challenge.rw_touchrights_k15_main_texts_of_plays) (n := 63) (k := 16) (x := "script") (CX := fun w => L2.CX DT.PW w) (sp := fun w => DT.spLaw _) rfl (by decide) rfl ⟨rfl, by decide, by decide⟩ (fun w h Y => PySem.W.kIn_of Y) ?F (fun _ _ a ns hl _ hS => ⟨a, ns, rfl, hS, hl, fun _ => rfl⟩) (fun _ H s e s' h => ?C)
  case F =>
    intro w mg fa h KX G hmg
    refine' DT.end_of hmg DT.law_says (DT.tx_mk KX G ?a_is_name ?l_is_name ?c_is_name ?k_is_name ?a_is_names ?l_is_names ?c_is_names ?k_is_names ?a_tupled ?l_tupled ?c_tupled ?k_tupled ?a_rises ?l_rises ?c_rises ?k_rises ?a_is_deed ?l_is_deed ?c_is_deed ?k_is_deed ?a_is_act ?l_is_act ?c_is_act ?k_is_act ?a_is_move ?l_is_move ?c_is_move ?k_is_move ?a_names_text ?l_names_text ?c_names_text ?k_names_text ?a_move_text ?l_move_text ?c_move_text ?k_move_text ?a_move_in ?l_move_in ?c_move_in ?k_move_in ?a_play_text ?l_play_text ?c_play_text ?k_play_text ?a_lines_of ?l_lines_of ?c_lines_of ?k_lines_of ?a_play_in ?l_play_in ?c_play_in ?k_play_in ?a_is_text_of_play ?l_is_text_of_play ?c_is_text_of_play ?k_is_text_of_play ?a_count_moves ?l_count_moves ?c_count_moves ?k_count_moves ?a_law_box ?l_law_box ?c_law_box ?k_law_box ?a_law_take ?l_law_take ?c_law_take ?k_law_take ?a_law_cells ?l_law_cells ?c_law_cells ?k_law_cells ?a_law_of ?l_law_of ?c_law_of ?k_law_of ?a_law_pick ?l_law_pick ?c_law_pick ?k_law_pick ?a_law_lists ?l_law_lists ?c_law_lists ?k_law_lists ?a_law_same ?l_law_same ?c_law_same ?k_law_same ?a_law_set ?l_law_set ?c_law_set ?k_law_set ?a_law_book ?l_law_book ?c_law_book ?k_law_book ?a_law_may ?l_law_may ?c_law_may ?k_law_may ?a_law_done ?l_law_done ?c_law_done ?k_law_done ?a_law_open ?l_law_open ?c_law_open ?k_law_open ?a_law_drawn_play ?l_law_drawn_play ?c_law_drawn_play ?k_law_drawn_play ?a_law_words ?l_law_words ?c_law_words ?k_law_words ?a_law_read ?l_law_read ?c_law_read ?k_law_read ?a_law ?l_law ?c_law ?k_law ?z_ValueError ?z_abs ?z_all ?z_bool ?z_dict ?z_enumerate ?z_int ?z_isinstance ?z_len ?z_list ?z_min ?z_range ?z_sorted ?z_str ?z_tuple ?z_zip ?v_LETTERS ?v_LONGEST ?v_TRIPLE ?v_TAKE ?v_HAND ?v_FIVE ?v_MAKE ?v_PERSON ?v_THING ?v_LOOK ?v_TELL ?v_NOBODY ?v_COMMA ?gC_BadLine ?ms_BadLine ?ex_BadLine ?ov_BadLine ?tk_BadLine ?sa_BadLine ?ga_BadLine ?gg_BadLine ?no_BadLine ?iC_BadLine ?tC_BadLine ?kC_BadLine ?eC_BadLine ?tyC_BadLine ?hd_BadLine ?is_BadLine ?sC_BadLine ?su_BadLine ?sB_BadLine ?mr_BadLine ?op_BadLine ?li_BadLine ?ci_BadLine ?ld_BadLine ?lf_BadLine ?fi_BadLine ?lc_BadLine ?hc_BadLine ?hm_BadLine ?hn ?ht ?ki_BadLine_ValueError) (fun s v => .of_eq (by first | rfl | with_unfolding_all rfl))
    (case a_is_name => k_is)
    (case l_is_name => k_is)
    (case c_is_name => k_is)
    (case k_is_name => k_is)
    (case a_is_names => k_is)
    (case l_is_names => k_is)
    (case c_is_names => k_is)
    (case k_is_names => k_is)
    (case a_tupled => k_is)
    (case l_tupled => k_is)
    (case c_tupled => k_is)
    (case k_tupled => k_is)
    (case a_rises => k_is)
    (case l_rises => k_is)
    (case c_rises => k_is)
    (case k_rises => k_is)
    (case a_is_deed => k_is)
    (case l_is_deed => k_is)
    (case c_is_deed => k_is)
    (case k_is_deed => k_is)
    (case a_is_act => k_is)
    (case l_is_act => k_is)
    (case c_is_act => k_is)
    (case k_is_act => k_is)
    (case a_is_move => k_is)
    (case l_is_move => k_is)
    (case c_is_move => k_is)
    (case k_is_move => k_is)
    (case a_names_text => k_is)
    (case l_names_text => k_is)
    (case c_names_text => k_is)
    (case k_names_text => k_is)
    (case a_move_text => k_is)
    (case l_move_text => k_is)
    (case c_move_text => k_is)
    (case k_move_text => k_is)
    (case a_move_in => k_is)
    (case l_move_in => k_is)
    (case c_move_in => k_is)
    (case k_move_in => k_is)
    (case a_play_text => k_is)
    (case l_play_text => k_is)
    (case c_play_text => k_is)
    (case k_play_text => k_is)
    (case a_lines_of => k_is)
    (case l_lines_of => k_is)
    (case c_lines_of => k_is)
    (case k_lines_of => k_is)
    (case a_play_in => k_is)
    (case l_play_in => k_is)
    (case c_play_in => k_is)
    (case k_play_in => k_is)
    (case a_is_text_of_play => k_is)
    (case l_is_text_of_play => k_is)
    (case c_is_text_of_play => k_is)
    (case k_is_text_of_play => k_is)
    (case a_count_moves => k_is)
    (case l_count_moves => k_is)
    (case c_count_moves => k_is)
    (case k_count_moves => k_is)
    (case a_law_box => k_is)
    (case l_law_box => k_is)
    (case c_law_box => k_is)
    (case k_law_box => k_is)
    (case a_law_take => k_is)
    (case l_law_take => k_is)
    (case c_law_take => k_is)
    (case k_law_take => k_is)
    (case a_law_cells => k_is)
    (case l_law_cells => k_is)
    (case c_law_cells => k_is)
    (case k_law_cells => k_is)
    (case a_law_of => k_is)
    (case l_law_of => k_is)
    (case c_law_of => k_is)
    (case k_law_of => k_is)
    (case a_law_pick => k_is)
    (case l_law_pick => k_is)
    (case c_law_pick => k_is)
    (case k_law_pick => k_is)
    (case a_law_lists => k_is)
    (case l_law_lists => k_is)
    (case c_law_lists => k_is)
    (case k_law_lists => k_is)
    (case a_law_same => k_is)
    (case l_law_same => k_is)
    (case c_law_same => k_is)
    (case k_law_same => k_is)
    (case a_law_set => k_is)
    (case l_law_set => k_is)
    (case c_law_set => k_is)
    (case k_law_set => k_is)
    (case a_law_book => k_is)
    (case l_law_book => k_is)
    (case c_law_book => k_is)
    (case k_law_book => k_is)
    (case a_law_may => k_is)
    (case l_law_may => k_is)
    (case c_law_may => k_is)
    (case k_law_may => k_is)
    (case a_law_done => k_is)
    (case l_law_done => k_is)
    (case c_law_done => k_is)
    (case k_law_done => k_is)
    (case a_law_open => k_is)
    (case l_law_open => k_is)
    (case c_law_open => k_is)
    (case k_law_open => k_is)
    (case a_law_drawn_play => k_is)
    (case l_law_drawn_play => k_is)
    (case c_law_drawn_play => k_is)
    (case k_law_drawn_play => k_is)
    (case a_law_words => k_is)
    (case l_law_words => k_is)
    (case c_law_words => k_is)
    (case k_law_words => k_is)
    (case a_law_read => k_is)
    (case l_law_read => k_is)
    (case c_law_read => k_is)
    (case k_law_read => k_is)
    (case a_law => k_is)
    (case l_law => k_is)
    (case c_law => k_is)
    (case k_law => k_is)
    (case z_ValueError => k_is)
    (case z_abs => k_is)
    (case z_all => k_is)
    (case z_bool => k_is)
    (case z_dict => k_is)
    (case z_enumerate => k_is)
    (case z_int => k_is)
    (case z_isinstance => k_is)
    (case z_len => k_is)
    (case z_list => k_is)
    (case z_min => k_is)
    (case z_range => k_is)
    (case z_sorted => k_is)
    (case z_str => k_is)
    (case z_tuple => k_is)
    (case z_zip => k_is)
    (case v_LETTERS => k_is)
    (case v_LONGEST => k_is)
    (case v_TRIPLE => k_is)
    (case v_TAKE => k_is)
    (case v_HAND => k_is)
    (case v_FIVE => k_is)
    (case v_MAKE => k_is)
    (case v_PERSON => k_is)
    (case v_THING => k_is)
    (case v_LOOK => k_is)
    (case v_TELL => k_is)
    (case v_NOBODY => k_is)
    (case v_COMMA => k_is)
    (case gC_BadLine => k_is)
    (case ms_BadLine => k_is)
    (case ex_BadLine => kx_is)
    (case ov_BadLine => kx_is)
    (case tk_BadLine => k_is)
    (case sa_BadLine => k_is)
    (case ga_BadLine => k_is)
    (case gg_BadLine => k_is)
    (case no_BadLine => k_is)
    (case iC_BadLine => k_is)
    (case tC_BadLine => k_is)
    (case kC_BadLine => k_is)
    (case eC_BadLine => k_is)
    (case tyC_BadLine => k_is)
    (case hd_BadLine => k_is)
    (case is_BadLine => k_is)
    (case sC_BadLine => (first | rfl | k_is))
    (case su_BadLine => ks_is)
    (case sB_BadLine => k_is)
    (case mr_BadLine => k_is)
    (case op_BadLine => k_is)
    (case li_BadLine => k_is)
    (case ci_BadLine => k_is)
    (case ld_BadLine => k_is)
    (case lf_BadLine => rfl)
    (case fi_BadLine => (first | rfl | decide +kernel))
    (case lc_BadLine => k_is)
    (case hc_BadLine => k_is)
    (case hm_BadLine => k_is)
    (case hn => k_is)
    (case ht => k_is)
    (case ki_BadLine_ValueError => k_is)
  case C => exact DT.cx_of h

