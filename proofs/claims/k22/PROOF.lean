import PyProof.Rows.All
import Wide.All
import OpenK.AllK
import Wide.FinOn
import HandS.ForMost
import HandS.ForExc
import HandS.Walk
import HandS.TupAny
import HandS.TupLe
import HandS.TupMul
import HandS.IsInst
import HandS.Style
import HandS.Flow
import HandS.Zip
import HandS.Conv
import HandS.Wide
import HandS.Deep
import KE.DataEq
import KE.KTupSum
import KE.GoesMore
import HandS.CallSlots
import HandS.Defaults
import HandS.SortInts
import KE.SortData
import HandS.Head0
import HandS.Head1
import HandS.Head2
import HandS.HeadEnd
import HandS.HeadHook1
import HandS.HeadHook2
import KE.KStateDown
import PySem.Challenge.RW_oneturn_k22_whole_exchanges_of_the_list
set_option Elab.async false
set_option linter.all false
set_option maxRecDepth 100000
set_option maxHeartbeats 4000000
section
/-! Z: a semantics by values over the hand layer. -/
namespace Z
open PySem PySem.Spec PyProof.Rows L2

abbrev D := PyData
abbrev St := L2.St
/-- what a slot holds: nothing known, a value that nobody changes, a list or dict of this frame's own, the two numbers that all draws change, the script -/
inductive S where
  | u
  | sh (d : D)
  | ow (d : D)
  | cu (x y : Int)
  | fz (ns : List Int)

inductive Rs (α : Type) where
  | ok (a : α)
  | ex (ρ : List S) (c : Str) (fs : List (Str × D))
  | no
namespace Rs
def bind {α β : Type} : Rs α → (α → Rs β) → Rs β
  | ok a, f => f a
  | ex ρ c fs, _ => ex ρ c fs
  | no, _ => no
instance : Monad Rs where
  pure := ok
  bind := bind
@[simp] theorem bind_ok {α β : Type} (a : α) (f : α → Rs β) : (Rs.ok a >>= f) = f a := Eq.trans rfl rfl
@[simp] theorem bind_no {α β : Type} (f : α → Rs β) : (Rs.no >>= f) = Rs.no := rfl
@[simp] theorem bind_ex {α β : Type} (ρ : List S) (c : Str) (fs : List (Str × D)) (f : α → Rs β) : (Rs.ex ρ c fs >>= f) = Rs.ex ρ c fs := rfl
/-- what may be stuck, but raises nothing -/
def of {α : Type} : Option α → Rs α
  | some a => ok a
  | none => no
@[simp] theorem of_some {α : Type} (a : α) : Rs.of (some a) = Rs.ok a := Eq.trans rfl rfl
@[simp] theorem of_none {α : Type} : Rs.of (none : Option α) = Rs.no := Eq.trans rfl rfl
@[simp] theorem pure_ok {α : Type} (a : α) : (pure a : Rs α) = Rs.ok a := rfl
end Rs

open Classical in
noncomputable def vw (H : Hp) (p : Addr → Prop) : Hp := fun b => if p b then none else H b
def hid (F : Addr → Prop) (A : List (Option Addr)) : Addr → Prop := fun b => F b ∨ some b ∈ A
def adj (F : Addr → Prop) (a : Addr) : Addr → Prop := fun b => F b ∨ b = a

theorem vw_neg {H : Hp} {p : Addr → Prop} {b : Addr} (h : ¬ p b) : vw H p b = H b := by unfold vw; rw [if_neg h]
theorem vw_pos {H : Hp} {p : Addr → Prop} {b : Addr} (h : p b) : vw H p b = none := by unfold vw; rw [if_pos h]
theorem vw_some {H : Hp} {p : Addr → Prop} {b : Addr} {o : HO} (h : vw H p b = some o) : ¬ p b ∧ H b = some o := by
  by_cases q : p b
  · rw [vw_pos q] at h; cases h
  · rw [vw_neg q] at h; exact ⟨q, h⟩
theorem vw_same (H : Hp) (p : Addr → Prop) : Same (vw H p) H := fun _ _ h => (vw_some h).2
theorem vw_mono {H H' : Hp} {p q : Addr → Prop} (h : ∀ b, q b → p b) (s : ∀ b o, ¬ p b → H b = some o → H' b = some o) : Same (vw H p) (vw H' q) := fun b o e => by
  obtain ⟨n, e⟩ := vw_some e
  rw [vw_neg fun z => n (h b z)]
  exact s b o n e
theorem vw_congr {H : Hp} {p q : Addr → Prop} (h : ∀ b, p b ↔ q b) : vw H p = vw H q := by
  have : p = q := funext fun b => propext (h b)
  rw [this]

/-! ### what a value is in a heap -/
mutual
inductive Rp (K : PySem.W.Frag) (H : Hp) : V → D → Prop
  | non : Rp K H .non .none
  | bl (b : Bool) : Rp K H (.bl b) (.bool b)
  | int (i : Int) : Rp K H (.int i) (.int i)
  | str (x : Str) : Rp K H (.str x) (.str x)
  | lst {a : Addr} {xs : List V} {ds : List D} : H a = some (.lst xs) → RpL K H xs ds → Rp K H (.ref a) (.list ds)
  | tup {a : Addr} {xs : List V} {ds : List D} : H a = some (.tup xs) → RpL K H xs ds → Rp K H (.ref a) (.tuple ds)
inductive RpL (K : PySem.W.Frag) (H : Hp) : List V → List D → Prop
  | nil : RpL K H [] []
  | cons {v : V} {vs : List V} {d : D} {ds : List D} : Rp K H v d → RpL K H vs ds → RpL K H (v :: vs) (d :: ds)
end
section
variable {K : PySem.W.Frag} {H H' : Hp}
mutual
theorem Rp.mono (s : Same H H') : ∀ {v : V} {d : D}, Rp K H v d → Rp K H' v d
  | _, _, .non => .non
  | _, _, .bl b => .bl b
  | _, _, .int i => .int i
  | _, _, .str x => .str x
  | _, _, .lst e r => .lst (s _ _ e) (RpL.mono s r)
  | _, _, .tup e r => .tup (s _ _ e) (RpL.mono s r)
theorem RpL.mono (s : Same H H') : ∀ {vs : List V} {ds : List D}, RpL K H vs ds → RpL K H' vs ds
  | _, _, .nil => .nil
  | _, _, .cons r t => .cons (Rp.mono s r) (RpL.mono s t)
end
mutual
theorem Rp.dp : ∀ {v : V} {d : D}, Rp K H v d → Dp K H v d
  | _, _, .non => .non
  | _, _, .bl b => .bl b
  | _, _, .int i => .int i
  | _, _, .str x => .str x
  | _, _, .lst e r => .lst (.of e) (RpL.dp r)
  | _, _, .tup e r => .tup (.of e) (RpL.dp r)
theorem RpL.dp : ∀ {vs : List V} {ds : List D}, RpL K H vs ds → DpAll K H vs ds
  | _, _, .nil => .nil
  | _, _, .cons r t => .cons (Rp.dp r) (RpL.dp t)
end
theorem RpL.len : ∀ {vs : List V} {ds : List D}, RpL K H vs ds → vs.length = ds.length
  | _, _, .nil => rfl
  | _, _, .cons _ t => by simp [RpL.len t]
theorem RpL.get : ∀ {vs : List V} {ds : List D} {i : Nat} {d : D}, RpL K H vs ds → ds[i]? = some d → ∃ v, vs[i]? = some v ∧ Rp K H v d
  | _, _, _, _, .nil, e => by simp at e
  | _, _, 0, _, .cons r _, e => by simp at e; subst e; exact ⟨_, rfl, r⟩
  | _, _, i + 1, _, .cons _ t, e => by
    obtain ⟨v, h1, h2⟩ := RpL.get (i := i) t (by simpa using e)
    exact ⟨v, by simpa using h1, h2⟩
theorem RpL.app : ∀ {vs ws : List V} {ds es : List D}, RpL K H vs ds → RpL K H ws es → RpL K H (vs ++ ws) (ds ++ es)
  | _, _, _, _, .nil, s => s
  | _, _, _, _, .cons r t, s => .cons r (RpL.app t s)
theorem RpL.take : ∀ {vs : List V} {ds : List D} (n : Nat), RpL K H vs ds → RpL K H (vs.take n) (ds.take n)
  | _, _, 0, _ => .nil
  | _, _, _ + 1, .nil => .nil
  | _, _, n + 1, .cons r t => .cons r (RpL.take n t)
theorem RpL.drop : ∀ {vs : List V} {ds : List D} (n : Nat), RpL K H vs ds → RpL K H (vs.drop n) (ds.drop n)
  | _, _, 0, r => r
  | _, _, _ + 1, .nil => .nil
  | _, _, n + 1, .cons _ t => RpL.drop n t
theorem RpL.set {v : V} {d : D} (r : Rp K H v d) : ∀ {vs : List V} {ds : List D} (i : Nat), RpL K H vs ds → RpL K H (vs.set i v) (ds.set i d)
  | _, _, _, .nil => .nil
  | _, _, 0, .cons _ t => .cons r t
  | _, _, i + 1, .cons q t => .cons q (RpL.set r i t)
theorem RpL.rev {vs : List V} {ds : List D} (h : RpL K H vs ds) : RpL K H vs.reverse ds.reverse := by
  induction vs generalizing ds with
  | nil => cases h; exact .nil
  | cons v vs ih =>
    cases h with
    | cons r t =>
      rw [List.reverse_cons, List.reverse_cons]
      exact (ih t).app (.cons r .nil)
theorem RpL.ints : ∀ (ns : List Int), RpL K H (ns.map V.int) (ns.map PyData.int)
  | [] => .nil
  | n :: r => .cons (.int n) (RpL.ints r)
theorem Rp.nomap {f : Int → D} : True := trivial
end

/-- what stands at the address of a thing of this frame's own -/
def Ow (K : PySem.W.Frag) (H W : Hp) (a : Addr) : D → Prop
  | .list ds => ∃ vs, H a = some (.lst vs) ∧ RpL K W vs ds
  | _ => False
theorem Ow.tr {K : PySem.W.Frag} {H W : Hp} {a : Addr} {d : D} (h : Ow K H W a d) : H a ≠ none := by
  cases d with
  | list ds => obtain ⟨vs, e, _⟩ := h; rw [e]; exact fun z => nomatch z
  | _ => exact h.elim
theorem Ow.mono {K : PySem.W.Frag} {H H' W W' : Hp} {a : Addr} {d : D} (h : Ow K H W a d) (e : H' a = H a) (s : Same W W') : Ow K H' W' a d := by
  cases d with
  | list ds => obtain ⟨vs, q, r⟩ := h; exact ⟨vs, e.trans q, r.mono s⟩
  | _ => exact h.elim
/-- a thing of one's own, shared from now on -/
theorem Ow.share {K : PySem.W.Frag} {H W : Hp} {a : Addr} {d : D} (h : Ow K H W a d) {W' : Hp} (s : Same W W') (e : W' a = H a) : Rp K W' (.ref a) d := by
  cases d with
  | list ds => obtain ⟨vs, q, r⟩ := h; exact .lst (e.trans q) (r.mono s)
  | _ => exact h.elim

def SlotOk (K : PySem.W.Frag) (H W : Hp) (ov : Option (Option V)) (oa : Option (Option Addr)) : S → Prop
  | .u => oa = some none
  | .sh d => oa = some none ∧ ∃ v, ov = some (some v) ∧ Rp K W v d
  | .ow d => ∃ a, oa = some (some a) ∧ ov = some (some (.ref a)) ∧ Ow K H W a d
  | .cu x y => ∃ a, oa = some (some a) ∧ ov = some (some (.ref a)) ∧ H a = some (.lst [.int x, .int y])
  | .fz ns => oa = some none ∧ ∃ a, ov = some (some (.ref a)) ∧ SqL K W a (ns.map V.int)

structure Good (K : PySem.W.Frag) (F : Addr → Prop) (σ : St) (H : Hp) (ρ : List S) (A : List (Option Addr)) : Prop where
  l1 : σ.length = ρ.length
  l2 : A.length = ρ.length
  inj : ∀ (i j : Nat) (a : Addr), A[i]? = some (some a) → A[j]? = some (some a) → i = j
  dis : ∀ (i : Nat) (a : Addr), A[i]? = some (some a) → ¬ F a
  trk : ∀ b, F b → H b ≠ none
  slot : ∀ (i : Nat) (s : S), ρ[i]? = some s → SlotOk K H (vw H (hid F A)) (σ[i]?) (A[i]?) s

/-- from a state to a later one of the same frame -/
structure Stp (F : Addr → Prop) (H : Hp) (ρ : List S) (A : List (Option Addr)) (H' : Hp) (ρ' : List S) (A' : List (Option Addr)) : Prop where
  kf : ∀ b, F b → H' b = H b
  vs : Same (vw H (hid F A)) (vw H' (hid F A'))
  cu : ∀ (i : Nat) (x y : Int), ρ[i]? = some (S.cu x y) → A'[i]? = A[i]? ∧ ∃ x' y' : Int, ρ'[i]? = some (S.cu x' y')

section
variable {K : PySem.W.Frag} {F : Addr → Prop} {σ : St} {H H' H'' : Hp} {ρ ρ' ρ'' : List S} {A A' A'' : List (Option Addr)}
theorem Stp.refl : Stp F H ρ A H ρ A := ⟨fun _ _ => rfl, Same.refl _, fun i x y h => ⟨rfl, x, y, h⟩⟩
theorem Stp.trans (a : Stp F H ρ A H' ρ' A') (b : Stp F H' ρ' A' H'' ρ'' A'') : Stp F H ρ A H'' ρ'' A'' :=
  ⟨fun c h => (b.kf c h).trans (a.kf c h), a.vs.trans b.vs, fun i x y h => by
    obtain ⟨e, x', y', h'⟩ := a.cu i x y h
    obtain ⟨e', q⟩ := b.cu i x' y' h'
    exact ⟨e'.trans e, q⟩⟩
theorem mem_of_ix {a : Addr} {i : Nat} (h : A[i]? = some (some a)) : some a ∈ A := List.mem_of_getElem? h
theorem ix_of_mem {a : Addr} (h : some a ∈ A) : ∃ i : Nat, A[i]? = some (some a) := List.getElem?_of_mem h
theorem Good.htr (g : Good K F σ H ρ A) {b : Addr} (h : hid F A b) : H b ≠ none := by
  rcases h with h | h
  · exact g.trk b h
  · obtain ⟨i, e⟩ := ix_of_mem h
    have hi : i < A.length := (List.getElem?_eq_some_iff.mp e).1
    have hi' : i < ρ.length := by rw [← g.l2]; exact hi
    have q := g.slot i ρ[i] (List.getElem?_eq_getElem hi')
    revert q
    cases ρ[i] with
    | u => intro q; rw [show A[i]? = some none from q] at e; cases e
    | sh d => intro q; rw [q.1] at e; cases e
    | fz d => intro q; rw [q.1] at e; cases e
    | ow d => intro ⟨a, e1, _, o⟩; rw [e1] at e; cases e; exact o.tr
    | cu x y => intro ⟨a, e1, _, o⟩; rw [e1] at e; cases e; rw [o]; exact fun z => nomatch z
theorem ne_z {α : Type} {f : Addr → Option α} {b p : Addr} (h1 : f b ≠ none) (h2 : f p = none) : b ≠ p := fun z => h1 (by rw [z]; exact h2)
theorem Good.new (g : Good K F σ H ρ A) {p : Addr} (h : H p = none) : ¬ hid F A p := fun z => g.htr z h
theorem SlotOk.mono {W W' : Hp} {ov : Option (Option V)} {oa : Option (Option Addr)} {s : S} (h : SlotOk K H W ov oa s) (k : ∀ a, oa = some (some a) → H' a = H a) (m : Same W W') : SlotOk K H' W' ov oa s := by
  cases s with
  | u => exact h
  | sh d => obtain ⟨e, v, e1, r⟩ := h; exact ⟨e, v, e1, r.mono m⟩
  | fz d => obtain ⟨e, v, e1, r⟩ := h; exact ⟨e, v, e1, m.seq r⟩
  | ow d => obtain ⟨a, e1, e2, o⟩ := h; exact ⟨a, e1, e2, o.mono (k a e1) m⟩
  | cu x y => obtain ⟨a, e1, e2, o⟩ := h; exact ⟨a, e1, e2, (k a e1).trans o⟩
/-- a new thing that the frame's view sees -/
theorem Good.upd_new (g : Good K F σ H ρ A) {p : Addr} {o : HO} (h : H p = none) : Good K F σ (upd H p o) ρ A := by
  refine ⟨g.l1, g.l2, g.inj, g.dis, fun b hb => ?_, fun i s e => (g.slot i s e).mono (fun a ha => ?_) ?_⟩
  · rw [upd_ne (ne_z (g.trk b hb) h)]; exact g.trk b hb
  · rw [upd_ne (ne_z (g.htr (.inr (mem_of_ix ha))) h)]
  · exact vw_mono (fun _ z => z) fun b u n e => by rw [upd_ne (ne_of_none e h)]; exact e
theorem Stp.upd_new (g : Good K F σ H ρ A) {p : Addr} {o : HO} (h : H p = none) : Stp F H ρ A (upd H p o) ρ A :=
  ⟨fun b hb => by rw [upd_ne (ne_z (g.trk b hb) h)], vw_mono (fun _ z => z) fun b u n e => by rw [upd_ne (ne_of_none e h)]; exact e, fun i x y h => ⟨rfl, x, y, h⟩⟩
theorem Good.vw_upd (g : Good K F σ H ρ A) {p : Addr} {o : HO} (h : H p = none) : vw (upd H p o) (hid F A) p = some o := by
  rw [vw_neg (g.new h), upd_same]
/-- a new thing that is hidden -/
theorem Good.hide_new (g : Good K F σ H ρ A) {p : Addr} {o : HO} (h : H p = none) : Good K (adj F p) σ (upd H p o) ρ A := by
  refine ⟨g.l1, g.l2, g.inj, fun i a e z => ?_, fun b hb => ?_, fun i s e => (g.slot i s e).mono (fun a ha => ?_) ?_⟩
  · rcases z with z | z
    · exact g.dis i a e z
    · subst z; exact g.htr (.inr (mem_of_ix e)) h
  · rcases hb with hb | hb
    · rw [upd_ne (ne_z (g.trk b hb) h)]; exact g.trk b hb
    · subst hb; rw [upd_same]; exact fun z => nomatch z
  · rw [upd_ne (ne_z (g.htr (.inr (mem_of_ix ha))) h)]
  · intro b u e
    obtain ⟨n, e⟩ := vw_some e
    have hb := ne_of_none e h
    rw [vw_neg, upd_ne hb]
    · exact e
    · rintro ((z | z) | z)
      · exact n (.inl z)
      · exact hb z
      · exact n (.inr z)
theorem view_hide (g : Good K F σ H ρ A) {p : Addr} {o : HO} (h : H p = none) : Same (vw H (hid F A)) (vw (upd H p o) (hid (adj F p) A)) := by
  intro b u e
  obtain ⟨n, e⟩ := vw_some e
  have hb := ne_of_none e h
  rw [vw_neg, upd_ne hb]
  · exact e
  · rintro ((z | z) | z)
    · exact n (.inl z)
    · exact hb z
    · exact n (.inr z)
/-- the hidden thing is seen again -/
theorem Good.unhide {a : Addr} (g : Good K (adj F a) σ H ρ A) : Good K F σ H ρ A :=
  ⟨g.l1, g.l2, g.inj, fun i b e z => g.dis i b e (.inl z), fun b hb => g.trk b (.inl hb), fun i s e => (g.slot i s e).mono (fun _ _ => rfl) (vw_mono (fun b z => z.elim (fun q => .inl (.inl q)) .inr) fun _ _ _ q => q)⟩
theorem view_unhide {a : Addr} : Same (vw H (hid (adj F a) A)) (vw H (hid F A)) := vw_mono (fun b z => z.elim (fun q => .inl (.inl q)) .inr) fun _ _ _ q => q
end

/-! ### what an evaluation's end is -/
section
variable (K : PySem.W.Frag) (mg : Str → Option Value) (W : WX)
/-- the value, seen from F, A -/
def Fin (F : Addr → Prop) (σ : St) (H : Hp) (ρ : List S) (A : List (Option Addr)) (r : S) (ρ' : List S) (v : V) (H' : Hp) : Prop :=
  match r with
  | .sh d => ∃ A', Good K F σ H' ρ' A' ∧ Stp F H ρ A H' ρ' A' ∧ Rp K (vw H' (hid F A')) v d
  | .ow d => ∃ A' a, v = .ref a ∧ ¬ F a ∧ Good K (adj F a) σ H' ρ' A' ∧ Stp F H ρ A H' ρ' A' ∧ Same (vw H (hid F A)) (vw H' (hid (adj F a) A')) ∧ Ow K H' (vw H' (hid (adj F a) A')) a d
  | .fz ns => ∃ A', Good K F σ H' ρ' A' ∧ Stp F H ρ A H' ρ' A' ∧ ∃ a, v = .ref a ∧ SqL K (vw H' (hid F A')) a (ns.map V.int)
  | _ => False
/-- an exception that is an instance of the class of this name, with these fields -/
def ExV (c : Str) (fs : List (Str × D)) (C : Value) (d : Option Addr) (H' : Hp) : Prop := mg c = some C ∧ (∃ a, C = .ref a) ∧ fs = [] ∧ d = none
def PoX (F : Addr → Prop) (σ : St) (H : Hp) (ρ : List S) (A : List (Option Addr)) (ρ' : List S) (c : Str) (fs : List (Str × D)) : Prop :=
  ∀ C d H' A', Good K F σ H' ρ' A' → Stp F H ρ A H' ρ' A' → ExV mg c fs C d H' → W C d σ H'
def PoE (F : Addr → Prop) (σ : St) (H : Hp) (ρ : List S) (A : List (Option Addr)) (o : Rs (S × List S)) (Q : VK) : Prop :=
  match o with
  | .ok (r, ρ') => ∀ v H', Fin K F σ H ρ A r ρ' v H' → Q v H'
  | .ex ρ' c fs => PoX K mg W F σ H ρ A ρ' c fs
  | .no => False
abbrev EF := List S → Rs (S × List S)
/-- an expression's reading by values -/
def TF (f : EF) : TE := fun σ H Q => ∃ F ρ A, Good K F σ H ρ A ∧ PoE K mg W F σ H ρ A (f ρ) Q

/-! operands: a name (read where it is wanted) or a value -/
inductive Hd where
  | ix (i : Nat)
  | dt (d : D)
def look (h : Hd) (ρ : List S) : Option D :=
  match h with
  | .dt d => some d
  | .ix i => match ρ[i]? with
    | some (.sh d) => some d
    | some (.ow d) => some d
    | some (.cu x y) => some (.list [.int x, .int y])
    | _ => none
def HRep (σ : St) (W' : Hp) (v : V) : Hd → Prop
  | .ix i => σ[i]? = some (some v)
  | .dt d => Rp K W' v d
abbrev OF := List S → Rs (Hd × List S)
def PoO (F : Addr → Prop) (σ : St) (H : Hp) (ρ : List S) (A : List (Option Addr)) (o : Rs (Hd × List S)) (Q : VK) : Prop :=
  match o with
  | .ok (h, ρ') => ∀ v H' A', Good K F σ H' ρ' A' → Stp F H ρ A H' ρ' A' → HRep K σ (vw H' (hid F A')) v h → Q v H'
  | .ex ρ' c fs => PoX K mg W F σ H ρ A ρ' c fs
  | .no => False
def TO' (f : OF) : TE := fun σ H Q => ∃ F ρ A, Good K F σ H ρ A ∧ PoO K mg W F σ H ρ A (f ρ) Q
/-- a value that is read: seen from the frame, or the frame's own -/
def Pk (H W' : Hp) (v : V) (d : D) : Prop := Rp K W' v d ∨ ∃ a, v = .ref a ∧ Ow K H W' a d

/-! tests -/
abbrev BF := List S → Rs (Bool × List S)
def PoT (F : Addr → Prop) (σ : St) (H : Hp) (ρ : List S) (A : List (Option Addr)) (o : Rs (Bool × List S)) (Q : Bool → Hp → Prop) : Prop :=
  match o with
  | .ok (b, ρ') => ∀ H' A', Good K F σ H' ρ' A' → Stp F H ρ A H' ρ' A' → Q b H'
  | .ex ρ' c fs => PoX K mg W F σ H ρ A ρ' c fs
  | .no => False
def TB' (f : BF) : TT := fun σ H Q => ∃ F ρ A, Good K F σ H ρ A ∧ PoT K mg W F σ H ρ A (f ρ) Q

/-! arguments: values; operands -/
abbrev AF := List S → Rs (List S × List S)
def SRep (W' : Hp) (v : V) : S → Prop
  | .sh d => Rp K W' v d
  | .fz ns => ∃ a, v = .ref a ∧ SqL K W' a (ns.map V.int)
  | _ => False
def SReps (W' : Hp) : List V → List S → Prop := Paired (SRep K W')
def PoA (F : Addr → Prop) (σ : St) (H : Hp) (ρ : List S) (A : List (Option Addr)) (o : Rs (List S × List S)) (Q : List V → Hp → Prop) : Prop :=
  match o with
  | .ok (rs, ρ') => ∀ vs H' A', Good K F σ H' ρ' A' → Stp F H ρ A H' ρ' A' → SReps K (vw H' (hid F A')) vs rs → Q vs H'
  | .ex ρ' c fs => PoX K mg W F σ H ρ A ρ' c fs
  | .no => False
def TAr (f : AF) : TA := fun σ H Q => ∃ F ρ A, Good K F σ H ρ A ∧ PoA K mg W F σ H ρ A (f ρ) Q
abbrev HF := List S → Rs (List Hd × List S)
def HReps (σ : St) (W' : Hp) : List V → List Hd → Prop := Paired (HRep K σ W')
def PoH (F : Addr → Prop) (σ : St) (H : Hp) (ρ : List S) (A : List (Option Addr)) (o : Rs (List Hd × List S)) (Q : List V → Hp → Prop) : Prop :=
  match o with
  | .ok (hs, ρ') => ∀ vs H' A', Good K F σ H' ρ' A' → Stp F H ρ A H' ρ' A' → HReps K σ (vw H' (hid F A')) vs hs → Q vs H'
  | .ex ρ' c fs => PoX K mg W F σ H ρ A ρ' c fs
  | .no => False
def TH (f : HF) : TA := fun σ H Q => ∃ F ρ A, Good K F σ H ρ A ∧ PoH K mg W F σ H ρ A (f ρ) Q

/-! statements -/
inductive Out where
  | nx | bk | ct
  | rt (r : S)
abbrev SF := List S → Rs (Out × List S)
def PoS (F : Addr → Prop) (σ : St) (H : Hp) (ρ : List S) (A : List (Option Addr)) (o : Rs (Out × List S)) (D' : Ends) : Prop :=
  match o with
  | .ok (.nx, ρ') => ∀ σ' H' A', Good K F σ' H' ρ' A' → Stp F H ρ A H' ρ' A' → D'.nx σ' H'
  | .ok (.bk, ρ') => ∀ σ' H' A', Good K F σ' H' ρ' A' → Stp F H ρ A H' ρ' A' → D'.bk σ' H'
  | .ok (.ct, ρ') => ∀ σ' H' A', Good K F σ' H' ρ' A' → Stp F H ρ A H' ρ' A' → D'.ct σ' H'
  | .ok (.rt r, ρ') => ∀ σ' v H', Fin K F σ' H ρ A r ρ' v H' → D'.rt v H'
  | .ex ρ' c fs => ∀ σ' C d H' A', Good K F σ' H' ρ' A' → Stp F H ρ A H' ρ' A' → ExV mg c fs C d H' → W C d σ' H'
  | .no => False
def TSt (g : SF) : TS := fun D' σ H => ∃ F ρ A, Good K F σ H ρ A ∧ PoS K mg W F σ H ρ A (g ρ) D'
end
end Z
end
section
namespace Z
open PySem PySem.Spec L2

/-- what the rules ask of the context -/
structure Ct (X : Cx) (K : PySem.W.Frag) (mg : Str → Option Value) (W : WX) (n : Nat) : Prop where
  k : X.K = K
  m : X.mg = mg
  tk : Takes X W
  calm : X.calm = true
  nd : X.N.Nodup
  room : Room n X.A

theorem pe_imp {X : Cx} {e : Expr} {t t' : TE} (h : PE X e t) (m : ∀ σ H Q, t' σ H Q → t σ H Q) : PE X e t' := ⟨fun p s σ H Q I q => h.run p s σ H Q I (m _ _ _ q)⟩
theorem pt_imp {X : Cx} {e : Expr} {t t' : TT} (h : PT X e t) (m : ∀ σ H Q, t' σ H Q → t σ H Q) : PT X e t' := ⟨fun p s σ H Q I q => h.run p s σ H Q I (m _ _ _ q)⟩
theorem pw_imp {X : Cx} {e : Expr} {t t' : TT} (h : PW X e t) (m : ∀ σ H Q, t' σ H Q → t σ H Q) : PW X e t' := ⟨fun w p s σ H Q I q => h.run w p s σ H Q I (m _ _ _ q)⟩
theorem pa_imp {X : Cx} {e : List Expr} {t t' : TA} (h : PA X e t) (m : ∀ σ H Q, t' σ H Q → t σ H Q) : PA X e t' := ⟨fun o p s σ H Q I q => h.run o p s σ H Q I (m _ _ _ q)⟩
theorem ps_imp {X : Cx} {e : Stmt} {t t' : TS} (h : PS X e t) (m : ∀ D' σ H, t' D' σ H → t D' σ H) : PS X e t' := ⟨fun p s σ H D' I q => h.run p s σ H D' I (m _ _ _ q)⟩
theorem pss_imp {X : Cx} {e : List Stmt} {t t' : TS} (h : PSs X e t) (m : ∀ D' σ H, t' D' σ H → t D' σ H) : PSs X e t' := ⟨fun p s σ H D' I q => h.run p s σ H D' I (m _ _ _ q)⟩
theorem po_imp {X : Cx} {e : Option Expr} {t t' : TO} (h : PO X e t) (m : ∀ σ H Q, t' σ H Q → t σ H Q) : PO X e t' := ⟨fun p s σ H Q I q => h.run p s σ H Q I (m _ _ _ q)⟩

section
variable {K : PySem.W.Frag} {mg : Str → Option Value} {W : WX} {F : Addr → Prop} {σ : St} {H H1 H2 : Hp} {ρ ρ1 ρ2 : List S} {A A1 A2 : List (Option Addr)}
theorem Fin.trans {r : S} {v : V} (s : Stp F H ρ A H1 ρ1 A1) (f : Fin K F σ H1 ρ1 A1 r ρ2 v H2) : Fin K F σ H ρ A r ρ2 v H2 := by
  cases r with
  | u => exact f
  | cu x y => exact f
  | sh d => obtain ⟨A', g, t, p⟩ := f; exact ⟨A', g, s.trans t, p⟩
  | fz d => obtain ⟨A', g, t, p⟩ := f; exact ⟨A', g, s.trans t, p⟩
  | ow d => obtain ⟨A', a, e, n, g, t, m, p⟩ := f; exact ⟨A', a, e, n, g, s.trans t, s.vs.trans m, p⟩
theorem Fin.sh {d : D} {v : V} (g : Good K F σ H1 ρ1 A1) (s : Stp F H ρ A H1 ρ1 A1) (p : Rp K (vw H1 (hid F A1)) v d) : Fin K F σ H ρ A (.sh d) ρ1 v H1 := ⟨A1, g, s, p⟩
theorem PoX.of {c : Str} {fs : List (Str × D)} (s : Stp F H ρ A H1 ρ1 A1) (x : PoX K mg W F σ H ρ A ρ2 c fs) : PoX K mg W F σ H1 ρ1 A1 ρ2 c fs := fun C d H' A' g t e => x C d H' A' g (s.trans t) e
/-- weakening: what was one's own is shared -/
theorem Fin.weak {d : D} {v : V} (f : Fin K F σ H ρ A (.ow d) ρ1 v H1) : Fin K F σ H ρ A (.sh d) ρ1 v H1 := by
  obtain ⟨A', a, rfl, n, g, t, m, p⟩ := f
  refine ⟨A', g.unhide, t, p.share view_unhide ?_⟩
  refine vw_neg ?_
  rintro (z | z)
  · exact n z
  · obtain ⟨i, e⟩ := ix_of_mem z
    exact g.dis i a e (.inr rfl)
theorem Pk.mono {H' : Hp} {W1 W2 : Hp} {v : V} {d : D} (h : Pk K H W1 v d) (e : ∀ a, v = .ref a → H a ≠ none → H' a = H a) (s : Same W1 W2) : Pk K H' W2 v d := by
  rcases h with h | ⟨a, rfl, h⟩
  · exact .inl (h.mono s)
  · exact .inr ⟨a, rfl, h.mono (e a rfl h.tr) s⟩
/-- a handle read -/
theorem look_ok {h : Hd} {v : V} {d : D} (g : Good K F σ H ρ A) (r : HRep K σ (vw H (hid F A)) v h) (e : look h ρ = some d) : Pk K H (vw H (hid F A)) v d := by
  cases h with
  | dt d' => cases e; exact .inl r
  | ix i =>
    unfold look at e
    dsimp only at e
    cases q : ρ[i]? with
    | none => rw [q] at e; cases e
    | some s =>
      rw [q] at e
      have k := g.slot i s q
      have r' : σ[i]? = some (some v) := r
      cases s with
      | u => cases e
      | fz ns => cases e
      | sh d' =>
        cases e
        obtain ⟨_, v', e1, p⟩ := k
        rw [r'] at e1; cases e1
        exact .inl p
      | ow d' =>
        cases e
        obtain ⟨a, _, e1, p⟩ := k
        rw [r'] at e1; cases e1
        exact .inr ⟨a, rfl, p⟩
      | cu x y =>
        cases e
        obtain ⟨a, _, e1, p⟩ := k
        rw [r'] at e1; cases e1
        exact .inr ⟨a, rfl, _, p, .cons (.int x) (.cons (.int y) .nil)⟩
theorem HRep.mono {W1 W2 : Hp} {v : V} {h : Hd} (r : HRep K σ W1 v h) (s : Same W1 W2) : HRep K σ W2 v h := by
  cases h with
  | ix i => exact r
  | dt d => exact Rp.mono s r
theorem SRep.mono {W1 W2 : Hp} {v : V} {h : S} (r : SRep K W1 v h) (s : Same W1 W2) : SRep K W2 v h := by
  cases h with
  | sh d => exact Rp.mono s r
  | fz d => obtain ⟨a, e, r⟩ := r; exact ⟨a, e, s.seq r⟩
  | _ => exact r
theorem SReps.mono {W1 W2 : Hp} : ∀ {vs : List V} {hs : List S}, SReps K W1 vs hs → Same W1 W2 → SReps K W2 vs hs
  | _, _, .nil, _ => .nil
  | _, _, .cons r t, s => .cons (SRep.mono r s) (SReps.mono t s)
theorem HReps.mono {W1 W2 : Hp} : ∀ {vs : List V} {hs : List Hd}, HReps K σ W1 vs hs → Same W1 W2 → HReps K σ W2 vs hs
  | _, _, .nil, _ => .nil
  | _, _, .cons r t, s => .cons (HRep.mono r s) (HReps.mono t s)
/-! peeked things as the layer's sequences -/
theorem Pk.list {v : V} {ds : List D} (h : Pk K H (vw H (hid F A)) v (.list ds)) : ∃ a vs, v = .ref a ∧ H a = some (.lst vs) ∧ RpL K (vw H (hid F A)) vs ds := by
  rcases h with h | ⟨a, rfl, vs, e, r⟩
  · cases h with
    | lst e r => exact ⟨_, _, rfl, (vw_some e).2, r⟩
  · exact ⟨a, vs, rfl, e, r⟩
theorem Pk.tuple {v : V} {ds : List D} (h : Pk K H (vw H (hid F A)) v (.tuple ds)) : ∃ a vs, v = .ref a ∧ H a = some (.tup vs) ∧ vw H (hid F A) a = some (.tup vs) ∧ RpL K (vw H (hid F A)) vs ds := by
  rcases h with h | ⟨a, rfl, h⟩
  · cases h with
    | tup e r => exact ⟨_, _, rfl, (vw_some e).2, e, r⟩
  · exact h.elim
theorem Pk.int {W' : Hp} {v : V} {i : Int} (h : Pk K H W' v (.int i)) : v = .int i := by
  rcases h with h | ⟨a, _, h⟩
  · cases h; rfl
  · exact h.elim
theorem Pk.bool {W' : Hp} {v : V} {i : Bool} (h : Pk K H W' v (.bool i)) : v = .bl i := by
  rcases h with h | ⟨a, _, h⟩
  · cases h; rfl
  · exact h.elim
theorem Pk.str {W' : Hp} {v : V} {i : Str} (h : Pk K H W' v (.str i)) : v = .str i := by
  rcases h with h | ⟨a, _, h⟩
  · cases h; rfl
  · exact h.elim
theorem Pk.none {W' : Hp} {v : V} (h : Pk K H W' v .none) : v = .non := by
  rcases h with h | ⟨a, _, h⟩
  · cases h; rfl
  · exact h.elim
theorem Pk.dp {v : V} {d : D} (h : Pk K H (vw H (hid F A)) v d) : Dp K H v d := by
  rcases h with h | ⟨a, rfl, h⟩
  · exact (h.mono (vw_same _ _)).dp
  · cases d with
    | list ds => obtain ⟨vs, e, r⟩ := h; exact .lst (.of e) (r.mono (vw_same _ _)).dp
    | _ => exact h.elim
end

/-! ### values -/
section
variable {X : Cx} {K : PySem.W.Frag} {mg : Str → Option Value} {W : WX} {n : Nat} {pos : Pos}
def fC (d : D) : EF := fun ρ => .ok (.sh d, ρ)
theorem ev_c {v : V} {d : D} {e : Expr} (h : PE X e (tC v)) (r : ∀ H, Rp K H v d) : PE X e (TF K mg W (fC d)) :=
  pe_imp h fun σ H Q ⟨F, ρ, A, g, po⟩ => po v H ⟨A, g, Stp.refl, r _⟩
theorem ev_int {i : Int} {j} : PE X (.Constant (.int i) j pos) (TF K mg W (fC (.int i))) := ev_c pe_int fun _ => .int i
theorem ev_bl {i : Bool} {j} : PE X (.Constant (.bool i) j pos) (TF K mg W (fC (.bool i))) := ev_c pe_bl fun _ => .bl i
theorem ev_non {j} : PE X (.Constant .none j pos) (TF K mg W (fC .none)) := ev_c pe_non fun _ => .non
theorem ev_str {i : Str} {j} : PE X (.Constant (.str i) j pos) (TF K mg W (fC (.str i))) := ev_c pe_str fun _ => .str i
/-- a module's constant -/
theorem ev_glob {x : Str} {i : Int} {t : Tok} (c : Ct X K mg W n) (hg : Gl X x) (hm : mg x = some (.int i t)) (hd : (x == ("__debug__" : Str)) = false := by decide) : PE X (.Name x pos) (TF K mg W (fC (.int i))) := by
  refine ev_c (pe_glob (v := .int i) hg (by rw [c.m]; exact hm) ⟨t, rfl⟩ hd) fun _ => .int i
theorem ev_globS {x y : Str} {t : Tok} (c : Ct X K mg W n) (hg : Gl X x) (hm : mg x = some (.str y t)) (hd : (x == ("__debug__" : Str)) = false := by decide) : PE X (.Name x pos) (TF K mg W (fC (.str y))) := by
  refine ev_c (pe_glob (v := .str y) hg (by rw [c.m]; exact hm) ⟨t, rfl⟩ hd) fun _ => .str y
/-- a name's value, to be kept by others: what was the frame's own is shared from then on -/
def fN (i : Nat) : EF := fun ρ => match ρ[i]? with
  | some (.sh d) => .ok (.sh d, ρ)
  | some (.ow d) => .ok (.sh d, ρ.set i (.sh d))
  | some (.fz ns) => .ok (.fz ns, ρ)
  | _ => .no
/-- a name's value, handed on for good -/
def fM (i : Nat) : EF := fun ρ => match ρ[i]? with
  | some (.sh d) => .ok (.sh d, ρ)
  | some (.ow d) => .ok (.ow d, ρ.set i .u)
  | _ => .no
section
variable {F : Addr → Prop} {σ : St} {H H1 H2 : Hp} {ρ ρ1 ρ2 : List S} {A A1 A2 : List (Option Addr)}
theorem lt_of_ix {α : Type} {l : List α} {i : Nat} {x : α} (h : l[i]? = some x) : i < l.length := (List.getElem?_eq_some_iff.mp h).1
theorem mem_set_none {i : Nat} {b : Addr} (h : some b ∈ A.set i none) : some b ∈ A := by
  rcases List.mem_or_eq_of_mem_set h with z | z
  · exact z
  · cases z
theorem mem_set_ne {i : Nat} {a b : Addr} (g : Good K F σ H ρ A) (ha : A[i]? = some (some a)) (h : some b ∈ A) (ne : b ≠ a) : some b ∈ A.set i none := by
  obtain ⟨j, e⟩ := ix_of_mem h
  have hij : i ≠ j := fun z => by subst z; rw [ha] at e; cases e; exact ne rfl
  have : (A.set i none)[j]? = some (some b) := by rw [List.getElem?_set_ne hij]; exact e
  exact mem_of_ix this
/-- a slot's own thing is let go of -/
theorem Good.let {i : Nat} {a : Addr} {s : S} (g : Good K F σ H ρ A) (ha : A[i]? = some (some a)) (hs : SlotOk K H (vw H (hid F (A.set i none))) (σ[i]?) (some none) s) : Good K F σ H (ρ.set i s) (A.set i none) := by
  have hi : i < A.length := lt_of_ix ha
  refine ⟨by rw [List.length_set]; exact g.l1, by rw [List.length_set, List.length_set]; exact g.l2, fun j k b e1 e2 => ?_, fun j b e => ?_, g.trk, fun j s' e => ?_⟩
  · by_cases hj : i = j
    · subst hj; rw [List.getElem?_set_self hi] at e1; cases e1
    · rw [List.getElem?_set_ne hj] at e1
      by_cases hk : i = k
      · subst hk; rw [List.getElem?_set_self hi] at e2; cases e2
      · rw [List.getElem?_set_ne hk] at e2
        exact g.inj j k b e1 e2
  · by_cases hj : i = j
    · subst hj; rw [List.getElem?_set_self hi] at e; cases e
    · rw [List.getElem?_set_ne hj] at e
      exact g.dis j b e
  · by_cases hj : i = j
    · subst hj
      have hr : i < ρ.length := by rw [← g.l2]; exact hi
      rw [List.getElem?_set_self hr] at e; cases e
      rw [List.getElem?_set_self hi]
      exact hs
    · rw [List.getElem?_set_ne hj] at e
      rw [List.getElem?_set_ne hj]
      exact (g.slot j s' e).mono (fun _ _ => rfl) (vw_mono (fun b z => z.elim .inl fun q => .inr (mem_set_none q)) fun _ _ _ q => q)
theorem view_let {i : Nat} : Same (vw H (hid F A)) (vw H (hid F (A.set i none))) := vw_mono (fun b z => z.elim .inl fun q => .inr (mem_set_none q)) fun _ _ _ q => q
theorem Stp.let {i : Nat} {a : Addr} {s : S} (g : Good K F σ H ρ A) (ha : A[i]? = some (some a)) (hc : ∀ x y, ρ[i]? ≠ some (S.cu x y)) : Stp F H ρ A H (ρ.set i s) (A.set i none) := by
  refine ⟨fun _ _ => rfl, view_let, fun j x y e => ?_⟩
  have hj : i ≠ j := fun z => by subst z; exact hc x y e
  rw [List.getElem?_set_ne hj, List.getElem?_set_ne hj]
  exact ⟨rfl, x, y, e⟩
theorem not_hid_let {i : Nat} {a : Addr} (g : Good K F σ H ρ A) (ha : A[i]? = some (some a)) : ¬ hid F (A.set i none) a := by
  have hi : i < A.length := lt_of_ix ha
  rintro (z | z)
  · exact g.dis i a ha z
  · obtain ⟨j, e⟩ := ix_of_mem z
    by_cases hj : i = j
    · subst hj; rw [List.getElem?_set_self hi] at e; cases e
    · rw [List.getElem?_set_ne hj] at e
      exact hj (g.inj i j a ha e)
end
theorem ev_name {x : Str} (i : Nat) (hN : X.N[i]? = some x := by rfl) (hv : Vis X.env.scope x := by first | exact Or.inl rfl | exact Or.inr (Or.inl rfl) | exact Or.inr (Or.inr rfl)) (hd : (x == ("__debug__" : Str)) = false := by decide)
    (hcd : (x == ("__classdict__" : Str)) = false := by decide) : PE X (.Name x pos) (TF K mg W (fN i)) := by
  refine pe_imp (pe_var hN hv hd hcd) fun σ H Q ⟨F, ρ, A, g, po⟩ => ?_
  unfold fN at po
  cases q : ρ[i]? with
  | none => rw [q] at po; exact po.elim
  | some s =>
    have k := g.slot i s q
    rw [q] at po
    cases s with
    | u => exact po.elim
    | cu x y => exact po.elim
    | sh d => obtain ⟨e, v, e1, p⟩ := k; exact ⟨v, e1, po v H ⟨A, g, Stp.refl, p⟩⟩
    | fz d => obtain ⟨e, a, e1, p⟩ := k; exact ⟨.ref a, e1, po _ H ⟨A, g, Stp.refl, a, rfl, p⟩⟩
    | ow d =>
      obtain ⟨a, ha, e1, p⟩ := k
      refine ⟨.ref a, e1, po _ H ⟨A.set i none, g.let ha ⟨rfl, _, e1, ?_⟩, Stp.let g ha (fun x y z => by rw [q] at z; cases z), ?_⟩⟩
      · exact p.share view_let (vw_neg (not_hid_let g ha))
      · exact p.share view_let (vw_neg (not_hid_let g ha))
theorem ev_move {x : Str} (i : Nat) (hN : X.N[i]? = some x := by rfl) (hv : Vis X.env.scope x := by first | exact Or.inl rfl | exact Or.inr (Or.inl rfl) | exact Or.inr (Or.inr rfl)) (hd : (x == ("__debug__" : Str)) = false := by decide)
    (hcd : (x == ("__classdict__" : Str)) = false := by decide) : PE X (.Name x pos) (TF K mg W (fM i)) := by
  refine pe_imp (pe_var hN hv hd hcd) fun σ H Q ⟨F, ρ, A, g, po⟩ => ?_
  unfold fM at po
  cases q : ρ[i]? with
  | none => rw [q] at po; exact po.elim
  | some s =>
    have k := g.slot i s q
    rw [q] at po
    cases s with
    | u => exact po.elim
    | cu x y => exact po.elim
    | fz d => exact po.elim
    | sh d => obtain ⟨e, v, e1, p⟩ := k; exact ⟨v, e1, po v H ⟨A, g, Stp.refl, p⟩⟩
    | ow d =>
      obtain ⟨a, ha, e1, p⟩ := k
      have hi := lt_of_ix ha
      have hcu : ∀ x y, ρ[i]? ≠ some (S.cu x y) := fun x y z => by rw [q] at z; cases z
      have eqv : ∀ b, hid F A b ↔ hid (adj F a) (A.set i none) b := fun b => by
        constructor
        · rintro (z | z)
          · exact .inl (.inl z)
          · by_cases hb : b = a
            · exact .inl (.inr hb)
            · exact .inr (mem_set_ne g ha z hb)
        · rintro ((z | z) | z)
          · exact .inl z
          · subst z; exact .inr (mem_of_ix ha)
          · exact .inr (mem_set_none z)
      have evw : vw H (hid F A) = vw H (hid (adj F a) (A.set i none)) := vw_congr eqv
      have gl : Good K F σ H (ρ.set i .u) (A.set i none) := g.let ha (s := .u) rfl
      refine ⟨.ref a, e1, po _ H ⟨A.set i none, a, rfl, g.dis i a ha, ?_, Stp.let g ha hcu, ?_, ?_⟩⟩
      · refine ⟨gl.l1, gl.l2, gl.inj, fun j b e z => ?_, fun b z => ?_, fun j s e => ?_⟩
        · rcases z with z | z
          · exact gl.dis j b e z
          · subst z; exact not_hid_let g ha (.inr (mem_of_ix e))
        · rcases z with z | z
          · exact g.trk b z
          · subst z; exact g.htr (.inr (mem_of_ix ha))
        · by_cases hj : i = j
          · subst hj
            rw [List.getElem?_set_self (lt_of_ix q)] at e; cases e
            rw [List.getElem?_set_self hi]
            exact rfl
          · rw [List.getElem?_set_ne hj] at e
            rw [List.getElem?_set_ne hj]
            exact (g.slot j s e).mono (fun _ _ => rfl) (by rw [← evw]; exact Same.refl _)
      · rw [← evw]; exact Same.refl _
      · rw [← evw]; exact p

/-! ### operands -/
def oN (i : Nat) : OF := fun ρ => match ρ[i]? with
  | some (.sh _) => .ok (.ix i, ρ)
  | some (.ow _) => .ok (.ix i, ρ)
  | some (.cu _ _) => .ok (.ix i, ρ)
  | _ => .no
def oE (f : EF) : OF := fun ρ => f ρ >>= fun p => match p.1 with
  | .sh d => .ok (.dt d, p.2)
  | .ow d => .ok (.dt d, p.2)
  | _ => .no
theorem op_name {x : Str} (i : Nat) (hN : X.N[i]? = some x := by rfl) (hv : Vis X.env.scope x := by first | exact Or.inl rfl | exact Or.inr (Or.inl rfl) | exact Or.inr (Or.inr rfl)) (hd : (x == ("__debug__" : Str)) = false := by decide)
    (hcd : (x == ("__classdict__" : Str)) = false := by decide) : PE X (.Name x pos) (TO' K mg W (oN i)) := by
  refine pe_imp (pe_var hN hv hd hcd) fun σ H Q ⟨F, ρ, A, g, po⟩ => ?_
  unfold oN at po
  cases q : ρ[i]? with
  | none => rw [q] at po; exact po.elim
  | some s =>
    have k := g.slot i s q
    rw [q] at po
    cases s with
    | u => exact po.elim
    | fz d => exact po.elim
    | cu x y => obtain ⟨a, ha, e1, p⟩ := k; exact ⟨.ref a, e1, po _ H A g Stp.refl e1⟩
    | sh d => obtain ⟨e, v, e1, p⟩ := k; exact ⟨v, e1, po v H A g Stp.refl e1⟩
    | ow d => obtain ⟨a, ha, e1, p⟩ := k; exact ⟨.ref a, e1, po _ H A g Stp.refl e1⟩
theorem op_e {e : Expr} {f : EF} (h : PE X e (TF K mg W f)) : PE X e (TO' K mg W (oE f)) := by
  refine pe_imp h fun σ H Q ⟨F, ρ, A, g, po⟩ => ⟨F, ρ, A, g, ?_⟩
  unfold oE at po
  cases q : f ρ with
  | no => rw [q] at po; exact po.elim
  | ex ρ' c fs => rw [q] at po; exact po
  | ok p =>
    obtain ⟨r, ρ'⟩ := p
    rw [q] at po
    cases r with
    | sh d => intro v H' ⟨A', g', s', p'⟩; exact po v H' A' g' s' p'
    | ow d => intro v H' fin; obtain ⟨A', g', s', p'⟩ := fin.weak; exact po v H' A' g' s' p'
    | _ => exact po.elim
end
end Z
end
section
namespace Z
open PySem PySem.Spec L2

/-! ### operations on values -/
def BinOk (K : PySem.W.Frag) (r : R2) (g : D → D → Option S) : Prop :=
  ∀ (F : Addr → Prop) (σ : St) (H : Hp) (ρ : List S) (A : List (Option Addr)) (x y : V) (dx dy : D) (res : S), Good K F σ H ρ A → Pk K H (vw H (hid F A)) x dx → Pk K H (vw H (hid F A)) y dy → g dx dy = some res →
    ∀ Q : VK, (∀ v H', Fin K F σ H ρ A res ρ v H' → Q v H') → r x y H Q
def CallOk (K : PySem.W.Frag) (r : List V → Hp → VK → Prop) (g : List D → Option S) : Prop :=
  ∀ (F : Addr → Prop) (σ : St) (H : Hp) (ρ : List S) (A : List (Option Addr)) (xs : List V) (ds : List D) (res : S), Good K F σ H ρ A → Paired (Pk K H (vw H (hid F A))) xs ds → g ds = some res →
    ∀ Q : VK, (∀ v H', Fin K F σ H ρ A res ρ v H' → Q v H') → r xs H Q
def fOp (g : D → D → Option S) (fa fb : OF) : EF := fun ρ => fa ρ >>= fun p => fb p.2 >>= fun q => Rs.of (look p.1 q.2) >>= fun d1 => Rs.of (look q.1 q.2) >>= fun d2 => Rs.of (g d1 d2) >>= fun r => .ok (r, q.2)

section
variable {K : PySem.W.Frag} {mg : Str → Option Value} {W : WX} {F : Addr → Prop} {σ : St} {H : Hp} {ρ : List S} {A : List (Option Addr)}
/-- an operand in front of what follows -/
theorem seqO {fa : OF} {α : Type} {k : (Hd × List S) → Rs α} (g : Good K F σ H ρ A) {po : Rs α → Prop} (hno : ¬ po .no) (hex : ∀ ρ' c fs, po (.ex ρ' c fs) → PoX K mg W F σ H ρ A ρ' c fs) (h : po (fa ρ >>= k)) {Q : VK}
    (hk : ∀ (hd : Hd) (ρ1 : List S) (v : V) (H1 : Hp) (A1 : List (Option Addr)), Good K F σ H1 ρ1 A1 → Stp F H ρ A H1 ρ1 A1 → HRep K σ (vw H1 (hid F A1)) v hd → po (k (hd, ρ1)) → Q v H1) : TO' K mg W fa σ H Q := by
  refine ⟨F, ρ, A, g, ?_⟩
  cases e : fa ρ with
  | no => rw [e] at h; exact (hno h).elim
  | ex ρ' c fs => rw [e] at h; exact hex _ _ _ h
  | ok p =>
    obtain ⟨hd, ρ1⟩ := p
    rw [e] at h
    exact fun v H1 A1 g1 s1 r1 => hk hd ρ1 v H1 A1 g1 s1 r1 h
theorem seqE {fa : EF} {α : Type} {k : (S × List S) → Rs α} (g : Good K F σ H ρ A) {po : Rs α → Prop} (hno : ¬ po .no) (hex : ∀ ρ' c fs, po (.ex ρ' c fs) → PoX K mg W F σ H ρ A ρ' c fs) (h : po (fa ρ >>= k)) {Q : VK}
    (hk : ∀ (r : S) (ρ1 : List S) (v : V) (H1 : Hp), Fin K F σ H ρ A r ρ1 v H1 → po (k (r, ρ1)) → Q v H1) : TF K mg W fa σ H Q := by
  refine ⟨F, ρ, A, g, ?_⟩
  cases e : fa ρ with
  | no => rw [e] at h; exact (hno h).elim
  | ex ρ' c fs => rw [e] at h; exact hex _ _ _ h
  | ok p =>
    obtain ⟨r, ρ1⟩ := p
    rw [e] at h
    exact fun v H1 f1 => hk r ρ1 v H1 f1 h
theorem seqB {fa : BF} {α : Type} {k : (Bool × List S) → Rs α} (g : Good K F σ H ρ A) {po : Rs α → Prop} (hno : ¬ po .no) (hex : ∀ ρ' c fs, po (.ex ρ' c fs) → PoX K mg W F σ H ρ A ρ' c fs) (h : po (fa ρ >>= k)) {Q : Bool → Hp → Prop}
    (hk : ∀ (r : Bool) (ρ1 : List S) (H1 : Hp) (A1 : List (Option Addr)), Good K F σ H1 ρ1 A1 → Stp F H ρ A H1 ρ1 A1 → po (k (r, ρ1)) → Q r H1) : TB' K mg W fa σ H Q := by
  refine ⟨F, ρ, A, g, ?_⟩
  cases e : fa ρ with
  | no => rw [e] at h; exact (hno h).elim
  | ex ρ' c fs => rw [e] at h; exact hex _ _ _ h
  | ok p =>
    obtain ⟨r, ρ1⟩ := p
    rw [e] at h
    exact fun H1 A1 g1 s1 => hk r ρ1 H1 A1 g1 s1 h
theorem seqA {fa : AF} {α : Type} {k : (List S × List S) → Rs α} (g : Good K F σ H ρ A) {po : Rs α → Prop} (hno : ¬ po .no) (hex : ∀ ρ' c fs, po (.ex ρ' c fs) → PoX K mg W F σ H ρ A ρ' c fs) (h : po (fa ρ >>= k)) {Q : List V → Hp → Prop}
    (hk : ∀ (r : List S) (ρ1 : List S) (vs : List V) (H1 : Hp) (A1 : List (Option Addr)), Good K F σ H1 ρ1 A1 → Stp F H ρ A H1 ρ1 A1 → SReps K (vw H1 (hid F A1)) vs r → po (k (r, ρ1)) → Q vs H1) : TAr K mg W fa σ H Q := by
  refine ⟨F, ρ, A, g, ?_⟩
  cases e : fa ρ with
  | no => rw [e] at h; exact (hno h).elim
  | ex ρ' c fs => rw [e] at h; exact hex _ _ _ h
  | ok p =>
    obtain ⟨r, ρ1⟩ := p
    rw [e] at h
    exact fun vs H1 A1 g1 s1 r1 => hk r ρ1 vs H1 A1 g1 s1 r1 h
theorem seqH {fa : HF} {α : Type} {k : (List Hd × List S) → Rs α} (g : Good K F σ H ρ A) {po : Rs α → Prop} (hno : ¬ po .no) (hex : ∀ ρ' c fs, po (.ex ρ' c fs) → PoX K mg W F σ H ρ A ρ' c fs) (h : po (fa ρ >>= k)) {Q : List V → Hp → Prop}
    (hk : ∀ (r : List Hd) (ρ1 : List S) (vs : List V) (H1 : Hp) (A1 : List (Option Addr)), Good K F σ H1 ρ1 A1 → Stp F H ρ A H1 ρ1 A1 → HReps K σ (vw H1 (hid F A1)) vs r → po (k (r, ρ1)) → Q vs H1) : TH K mg W fa σ H Q := by
  refine ⟨F, ρ, A, g, ?_⟩
  cases e : fa ρ with
  | no => rw [e] at h; exact (hno h).elim
  | ex ρ' c fs => rw [e] at h; exact hex _ _ _ h
  | ok p =>
    obtain ⟨r, ρ1⟩ := p
    rw [e] at h
    exact fun vs H1 A1 g1 s1 r1 => hk r ρ1 vs H1 A1 g1 s1 r1 h
/-- what may be stuck -/
theorem seqOpt {α β : Type} {o : Option α} {k : α → Rs β} {po : Rs β → Prop} (hno : ¬ po .no) (h : po (Rs.of o >>= k)) : ∃ a, o = some a ∧ po (k a) := by
  cases o with
  | none => exact (hno h).elim
  | some a => exact ⟨a, rfl, h⟩
theorem poE_no {Q : VK} : ¬ PoE K mg W F σ H ρ A .no Q := fun z => z
theorem poE_ex {Q : VK} (ρ' : List S) (c : Str) (fs : List (Str × D)) (h : PoE K mg W F σ H ρ A (.ex ρ' c fs) Q) : PoX K mg W F σ H ρ A ρ' c fs := h
theorem poE_exS {Q : VK} {H1 : Hp} {ρ1 : List S} {A1 : List (Option Addr)} (s : Stp F H ρ A H1 ρ1 A1) (ρ' : List S) (c : Str) (fs : List (Str × D)) (h : PoE K mg W F σ H ρ A (.ex ρ' c fs) Q) : PoX K mg W F σ H1 ρ1 A1 ρ' c fs := PoX.of s h
theorem poO_no {Q : VK} : ¬ PoO K mg W F σ H ρ A .no Q := fun z => z
theorem poO_exS {Q : VK} {H1 : Hp} {ρ1 : List S} {A1 : List (Option Addr)} (s : Stp F H ρ A H1 ρ1 A1) (ρ' : List S) (c : Str) (fs : List (Str × D)) (h : PoO K mg W F σ H ρ A (.ex ρ' c fs) Q) : PoX K mg W F σ H1 ρ1 A1 ρ' c fs := PoX.of s h
theorem poB_no {Q : Bool → Hp → Prop} : ¬ PoT K mg W F σ H ρ A .no Q := fun z => z
theorem poB_exS {Q : Bool → Hp → Prop} {H1 : Hp} {ρ1 : List S} {A1 : List (Option Addr)} (s : Stp F H ρ A H1 ρ1 A1) (ρ' : List S) (c : Str) (fs : List (Str × D)) (h : PoT K mg W F σ H ρ A (.ex ρ' c fs) Q) : PoX K mg W F σ H1 ρ1 A1 ρ' c fs := PoX.of s h
theorem poA_no {Q : List V → Hp → Prop} : ¬ PoA K mg W F σ H ρ A .no Q := fun z => z
theorem poA_exS {Q : List V → Hp → Prop} {H1 : Hp} {ρ1 : List S} {A1 : List (Option Addr)} (s : Stp F H ρ A H1 ρ1 A1) (ρ' : List S) (c : Str) (fs : List (Str × D)) (h : PoA K mg W F σ H ρ A (.ex ρ' c fs) Q) : PoX K mg W F σ H1 ρ1 A1 ρ' c fs := PoX.of s h
theorem poH_no {Q : List V → Hp → Prop} : ¬ PoH K mg W F σ H ρ A .no Q := fun z => z
theorem poH_exS {Q : List V → Hp → Prop} {H1 : Hp} {ρ1 : List S} {A1 : List (Option Addr)} (s : Stp F H ρ A H1 ρ1 A1) (ρ' : List S) (c : Str) (fs : List (Str × D)) (h : PoH K mg W F σ H ρ A (.ex ρ' c fs) Q) : PoX K mg W F σ H1 ρ1 A1 ρ' c fs := PoX.of s h
end

section
variable {X : Cx} {K : PySem.W.Frag} {mg : Str → Option Value} {W : WX} {n : Nat} {pos : Pos} {a b c : Expr} {fa fb fc : OF} {r : R2} {g : D → D → Option S}
theorem op2 (hr : BinOk K r g) : ∀ σ H Q, TF K mg W (fOp g fa fb) σ H Q → tOp r (TO' K mg W fa) (TO' K mg W fb) σ H Q := by
  intro σ H Q ⟨F, ρ, A, gd, po⟩
  refine seqO gd (po := fun o => PoE K mg W F σ H ρ A o Q) poE_no (poE_exS Stp.refl) po fun h1 ρ1 v1 H1 A1 g1 s1 r1 po => ?_
  refine seqO g1 (po := fun o => PoE K mg W F σ H ρ A o Q) poE_no (poE_exS s1) po fun h2 ρ2 v2 H2 A2 g2 s2 r2 po => ?_
  obtain ⟨d1, e1, po⟩ := seqOpt (po := fun o => PoE K mg W F σ H ρ A o Q) poE_no po
  obtain ⟨d2, e2, po⟩ := seqOpt (po := fun o => PoE K mg W F σ H ρ A o Q) poE_no po
  obtain ⟨res, e3, po⟩ := seqOpt (po := fun o => PoE K mg W F σ H ρ A o Q) poE_no po
  exact hr F σ H2 ρ2 A2 v1 v2 d1 d2 res g2 (look_ok g2 (r1.mono s2.vs) e1) (look_ok g2 r2 e2) e3 Q fun v H' f => po v H' (f.trans (s1.trans s2))
theorem ev_op {op : Operator} (ho : OpR X (binaryOp op) r) (hr : BinOk K r g) (ha : PE X a (TO' K mg W fa)) (hb : PE X b (TO' K mg W fb)) : PE X (.BinOp a op b pos) (TF K mg W (fOp g fa fb)) :=
  pe_imp (pe_op ho ha hb) (op2 hr)
theorem ev_cmp {op : CmpOp} (ho : OpR X (compareOp op) r) (hr : BinOk K r g) (ha : PE X a (TO' K mg W fa)) (hb : PE X b (TO' K mg W fb)) (hm : behindInMarks op b = false) : PE X (.Compare a [op] [b] pos) (TF K mg W (fOp g fa fb)) :=
  pe_imp (pe_cmpR ho ha hb hm) (op2 hr)
theorem ev_ix (ho : IxR X r) (hr : BinOk K r g) (ha : PE X a (TO' K mg W fa)) (hb : PE X b (TO' K mg W fb)) (hs : PlainIx b) : PE X (.Subscript a b pos) (TF K mg W (fOp g fa fb)) :=
  pe_imp (pe_ix ho ha hb hs) (op2 hr)
/-- a truth value of a result -/
def bOf (f : EF) : BF := fun ρ => f ρ >>= fun p => match p.1 with
  | .sh (.bool b) => .ok (b, p.2)
  | _ => .no
theorem b_of {e : Expr} {f : EF} {t : TT} {te : TE} (h : PT X e (tTest te)) (m : ∀ σ H Q, TF K mg W f σ H Q → te σ H Q) : PT X e (TB' K mg W (bOf f)) := by
  refine pt_imp h fun σ H Q ⟨F, ρ, A, gd, po⟩ => m σ H _ ?_
  refine seqE gd (po := fun o => PoT K mg W F σ H ρ A o Q) poB_no (poB_exS Stp.refl) po fun r1 ρ1 v1 H1 f1 po => ?_
  cases r1 with
  | sh d =>
    cases d with
    | bool b =>
      obtain ⟨A1, g1, s1, p⟩ := f1
      cases p
      exact ⟨b, rfl, po H1 A1 g1 s1⟩
    | _ => exact po.elim
  | _ => exact po.elim
theorem bt_cmp {op : CmpOp} (ho : OpR X (compareOp op) r) (hr : BinOk K r g) (ha : PE X a (TO' K mg W fa)) (hb : PE X b (TO' K mg W fb)) (hm : behindInMarks op b = false) : PT X (.Compare a [op] [b] pos) (TB' K mg W (bOf (fOp g fa fb))) :=
  b_of (t := tTest (tOp r (TO' K mg W fa) (TO' K mg W fb))) (pt_cmpR ho ha hb hm) (op2 hr)
/-! chains: a < b < c -/
def fChain (g g' : D → D → Option S) (fa fb fc : OF) : EF := fun ρ => fa ρ >>= fun p => fb p.2 >>= fun q => Rs.of (look p.1 q.2) >>= fun d1 => Rs.of (look q.1 q.2) >>= fun d2 => Rs.of (g d1 d2) >>= fun r =>
  match r with
  | .sh (.bool true) => fc q.2 >>= fun t => Rs.of (look q.1 t.2) >>= fun d2 => Rs.of (look t.1 t.2) >>= fun d3 => Rs.of (g' d2 d3) >>= fun r => .ok (r, t.2)
  | .sh (.bool false) => .ok (.sh (.bool false), q.2)
  | _ => .no
theorem chain2 {r' : R2} {g' : D → D → Option S} (hr : BinOk K r g) (hr' : BinOk K r' g') : ∀ σ H Q, TF K mg W (fChain g g' fa fb fc) σ H Q → tChain r r' (TO' K mg W fa) (TO' K mg W fb) (TO' K mg W fc) σ H Q := by
  intro σ H Q ⟨F, ρ, A, gd, po⟩
  refine seqO gd (po := fun o => PoE K mg W F σ H ρ A o Q) poE_no (poE_exS Stp.refl) po fun h1 ρ1 v1 H1 A1 g1 s1 r1 po => ?_
  refine seqO g1 (po := fun o => PoE K mg W F σ H ρ A o Q) poE_no (poE_exS s1) po fun h2 ρ2 v2 H2 A2 g2 s2 r2 po => ?_
  obtain ⟨d1, e1, po⟩ := seqOpt (po := fun o => PoE K mg W F σ H ρ A o Q) poE_no po
  obtain ⟨d2, e2, po⟩ := seqOpt (po := fun o => PoE K mg W F σ H ρ A o Q) poE_no po
  obtain ⟨res, e3, po⟩ := seqOpt (po := fun o => PoE K mg W F σ H ρ A o Q) poE_no po
  refine hr F σ H2 ρ2 A2 v1 v2 d1 d2 res g2 (look_ok g2 (r1.mono s2.vs) e1) (look_ok g2 r2 e2) e3 _ fun v H3 f3 => ?_
  cases res with
  | sh d =>
    cases d with
    | bool k =>
      obtain ⟨A3, g3, s3, p3⟩ := f3
      cases p3
      refine ⟨k, rfl, ?_⟩
      cases k with
      | false => exact po (.bl false) H3 ⟨A3, g3, (s1.trans s2).trans s3, .bl false⟩
      | true =>
        show TO' K mg W fc σ H3 _
        refine seqO g3 (po := fun o => PoE K mg W F σ H ρ A o Q) poE_no (poE_exS ((s1.trans s2).trans s3)) po fun h4 ρ4 v4 H4 A4 g4 s4 r4 po => ?_
        obtain ⟨d5, e5, po⟩ := seqOpt (po := fun o => PoE K mg W F σ H ρ A o Q) poE_no po
        obtain ⟨d6, e6, po⟩ := seqOpt (po := fun o => PoE K mg W F σ H ρ A o Q) poE_no po
        obtain ⟨res, e7, po⟩ := seqOpt (po := fun o => PoE K mg W F σ H ρ A o Q) poE_no po
        exact hr' F σ H4 ρ4 A4 v2 v4 d5 d6 res g4 (look_ok g4 (r2.mono (s3.trans s4).vs) e5) (look_ok g4 r4 e6) e7 Q fun v H' f => po v H' (f.trans (((s1.trans s2).trans s3).trans s4))
    | _ => exact po.elim
  | _ => exact po.elim
theorem ev_chain {op op' : CmpOp} {r' : R2} {g' : D → D → Option S} (ho : OpR X (compareOp op) r) (ho' : OpR X (compareOp op') r') (hr : BinOk K r g) (hr' : BinOk K r' g') (ha : PE X a (TO' K mg W fa)) (hb : PE X b (TO' K mg W fb)) (hc : PE X c (TO' K mg W fc))
    (hm : lastMarks [op, op'] [b, c] = false := by with_unfolding_all rfl) : PE X (.Compare a [op, op'] [b, c] pos) (TF K mg W (fChain g g' fa fb fc)) := pe_imp (pe_chain ho ho' ha hb hc hm) (chain2 hr hr')
theorem bt_chain {op op' : CmpOp} {r' : R2} {g' : D → D → Option S} (ho : OpR X (compareOp op) r) (ho' : OpR X (compareOp op') r') (hr : BinOk K r g) (hr' : BinOk K r' g') (ha : PE X a (TO' K mg W fa)) (hb : PE X b (TO' K mg W fb)) (hc : PE X c (TO' K mg W fc))
    (hm : lastMarks [op, op'] [b, c] = false := by with_unfolding_all rfl) : PT X (.Compare a [op, op'] [b, c] pos) (TB' K mg W (bOf (fChain g g' fa fb fc))) :=
  b_of (t := tTest (tChain r r' (TO' K mg W fa) (TO' K mg W fb) (TO' K mg W fc))) (pt_chain ho ho' ha hb hc hm) (chain2 hr hr')
end
end Z
end
section
namespace Z
open PySem PySem.Spec L2 PyProof.Rows
/-! ### tuple * int where nothing, or the tuple itself, comes out -/
theorem tuple_mulS (l : Addr) (items : Array Value) (n : Nat) (dd : Option Addr) (sl : Array (Option Value)) (x : Int) (u : Tok) (c0 : (decide (x < -(2 ^ 63)) || decide (x ≥ 2 ^ 63)) = false) (c1 : (items.isEmpty || x == 1) = true) :
    Meets (Builtin.«tuple.__mul__» ⟨[.ref l, .int x u], []⟩) (fun _ R s => s.heap.get? l = some { cls := .type "tuple", dict := dd, data := .seq items n, slots := sl } ∧
      R (.ok (.ret (Value.ref l))) s) :=
  .of_wp fun prog w A R s h => by
    obtain ⟨hp, g, d, tk, os⟩ := s
    obtain ⟨hl, h⟩ := h
    have f1 := AutoSeq1.idx_int
    wp_walk using wpAny_loadPart' hl
    repeat (first
      | (refine wpAny_ite_false (decide_eq_false (by rw [c0]; exact Bool.false_ne_true)) ?_; wp_walk using wpAny_loadPart' hl)
      | (refine wpAny_ite_true (decide_eq_true c1) ?_; wp_walk using wpAny_loadPart' hl))
    exact ⟨_, rfl, h⟩
theorem tuple_mulZ (l : Addr) (items : Array Value) (n : Nat) (dd : Option Addr) (sl : Array (Option Value)) (x : Int) (u : Tok) (c0 : (decide (x < -(2 ^ 63)) || decide (x ≥ 2 ^ 63)) = false) (c1 : (items.isEmpty || x == 1) = false) (c2 : (decide (x ≤ 0) || items.isEmpty) = true) :
    Meets (Builtin.«tuple.__mul__» ⟨[.ref l, .int x u], []⟩) (fun _ R s => s.heap.get? l = some { cls := .type "tuple", dict := dd, data := .seq items n, slots := sl } ∧
      R (.ok (.ret (Value.ref s.heap.objs.size))) { s with heap := s.heap.push { cls := Value.type "tuple", data := Data.seq #[] }, toks := s.toks }) :=
  .of_wp fun prog w A R s h => by
    obtain ⟨hp, g, d, tk, os⟩ := s
    obtain ⟨hl, h⟩ := h
    have f1 := AutoSeq1.idx_int
    wp_walk using wpAny_loadPart' hl
    repeat (first
      | (refine wpAny_ite_false (decide_eq_false (by rw [c0]; exact Bool.false_ne_true)) ?_; wp_walk using wpAny_loadPart' hl)
      | (refine wpAny_ite_false (decide_eq_false (by rw [c1]; exact Bool.false_ne_true)) ?_; wp_walk using wpAny_loadPart' hl)
      | (refine wpAny_ite_true (decide_eq_true c2) ?_; wp_walk using wpAny_loadPart' hl))
    exact ⟨_, rfl, h⟩
def rRepS (K : PySem.W.Frag) : R2 := fun x y H Q => ∃ l k xs, x = .ref l ∧ y = .int k ∧ SqT K H l xs ∧ (xs = [] ∨ k = 1) ∧ k.natAbs < 9223372036854775808 ∧ Q (.ref l) H
def rRepZ (K : PySem.W.Frag) : R2 := fun x y H Q => ∃ l k xs, x = .ref l ∧ y = .int k ∧ SqT K H l xs ∧ xs ≠ [] ∧ k ≤ 0 ∧ k.natAbs < 9223372036854775808 ∧ ∀ p, H p = none → Q (.ref p) (upd H p (.tup []))
section
variable {X : Cx}
theorem op_repS : OpR X (binaryOp .Mult) (rRepS X.K) := by
  intro pins s σ H x y v u Q I rx ry h
  obtain ⟨l, k, xs, rfl, rfl, hT, hne, hk, q⟩ := h
  cases rx
  obtain ⟨t, rfl⟩ := ry
  obtain ⟨its, r, ⟨⟨cls, dd, data, sl⟩, ho, hc, n, hd⟩, hs⟩ := I.tuple hT
  simp only at hc hd
  subst hc hd
  have hle : its.length = xs.length := r.length.symm
  have c0 : (decide (k < -(2 ^ 63)) || decide (k ≥ 2 ^ 63)) = false := by
    rw [decide_eq_false (by omega), decide_eq_false (by omega)] <;> rfl
  have c1 : (its.toArray.isEmpty || k == 1) = true := by
    rcases hne with rfl | rfl
    · rw [List.eq_nil_of_length_eq_zero (hle.trans rfl)]; rfl
    · simp
  refine wpAny_binaryOp_repeat_ref (T := "tuple") (U := "int") (by decide) ⟨_, ho, rfl⟩ (fun s' => typeIs_int s' k t) noFill_tuple_mul F.fills_int_mul F.slot_int_rmul repeat_tuple F.slot_int_index.lookup
    (call_meets F.slot_int_rmul (typeIs_int s k t) F.entry_int_rmul (F.args_int_rmul_2 _ _) (int_rmul_tuple k t l its.toArray n dd sl)
      ⟨ho, rfl, ⟨_, ho, rfl⟩, call_meets F.slot_tuple_mul ⟨_, ho, rfl⟩ F.entry_tuple_mul (F.args_tuple_mul_2 _ _) (tuple_mulS l its.toArray n dd sl k t c0 c1) ⟨ho, ?_⟩⟩)
  exact ⟨.ref l, H, I, rfl, q⟩
theorem op_repZ : OpR X (binaryOp .Mult) (rRepZ X.K) := by
  intro pins s σ H x y v u Q I rx ry h
  obtain ⟨l, k, xs, rfl, rfl, hT, hne, h1, hk, q⟩ := h
  cases rx
  obtain ⟨t, rfl⟩ := ry
  obtain ⟨its, r, ⟨⟨cls, dd, data, sl⟩, ho, hc, n, hd⟩, hs⟩ := I.tuple hT
  simp only at hc hd
  subst hc hd
  have hle : its.length = xs.length := r.length.symm
  have hn : its ≠ [] := fun e => hne (by
    rw [e] at hle
    exact List.eq_nil_of_length_eq_zero hle.symm)
  have hi : its.toArray.isEmpty = false := by
    cases its with
    | nil => exact absurd rfl hn
    | cons a b => rfl
  have c0 : (decide (k < -(2 ^ 63)) || decide (k ≥ 2 ^ 63)) = false := by
    rw [decide_eq_false (by omega), decide_eq_false (by omega)] <;> rfl
  have c1 : (its.toArray.isEmpty || k == 1) = false := by
    rw [hi, Bool.false_or]
    exact beq_eq_false_iff_ne.mpr (by omega)
  have c2 : (decide (k ≤ 0) || its.toArray.isEmpty) = true := by
    rw [decide_eq_true h1]; rfl
  refine wpAny_binaryOp_repeat_ref (T := "tuple") (U := "int") (by decide) ⟨_, ho, rfl⟩ (fun s' => typeIs_int s' k t) noFill_tuple_mul F.fills_int_mul F.slot_int_rmul repeat_tuple F.slot_int_index.lookup
    (call_meets F.slot_int_rmul (typeIs_int s k t) F.entry_int_rmul (F.args_int_rmul_2 _ _) (int_rmul_tuple k t l its.toArray n dd sl)
      ⟨ho, rfl, ⟨_, ho, rfl⟩, call_meets F.slot_tuple_mul ⟨_, ho, rfl⟩ F.entry_tuple_mul (F.args_tuple_mul_2 _ _) (tuple_mulZ l its.toArray n dd sl k t c0 c1 c2) ⟨ho, ?_⟩⟩)
  refine ⟨.ref s.heap.objs.size, _, I.laid (t' := s.toks) (o := .tup []) (fun b ob q => Heap.get?_push_of_some _ q) (Nat.le_refl _) ?_, rfl, q _ (I.hok.fresh (Nat.le_refl _))⟩
  exact ⟨by rw [sizeLine_eq]; decide, [], .nil, IsTup.new _ _⟩
end
end Z
end
section
namespace Z
open PySem PySem.Spec L2

mutual
theorem Rp.plain {K : PySem.W.Frag} {H : Hp} : ∀ {v : V} {d : D}, Rp K H v d → d.plain = true
  | _, _, .non => rfl
  | _, _, .bl b => rfl
  | _, _, .int i => rfl
  | _, _, .str x => rfl
  | _, _, .lst e r => by simp only [PyData.plain]; exact RpL.plain r
  | _, _, .tup e r => by simp only [PyData.plain]; exact RpL.plain r
theorem RpL.plain {K : PySem.W.Frag} {H : Hp} : ∀ {vs : List V} {ds : List D}, RpL K H vs ds → PyData.plainAll ds = true
  | _, _, .nil => rfl
  | _, _, .cons r t => by simp only [PyData.plainAll, Rp.plain r, RpL.plain t, Bool.and_self]
end
theorem Pk.plain {K : PySem.W.Frag} {H W' : Hp} {v : V} {d : D} (h : Pk K H W' v d) : d.plain = true := by
  rcases h with h | ⟨a, _, h⟩
  · exact h.plain
  · cases d with
    | list ds => obtain ⟨vs, _, r⟩ := h; simp only [PyData.plain]; exact r.plain
    | _ => exact h.elim

/-! ### results without a change of the heap -/
section
variable {K : PySem.W.Frag} {F : Addr → Prop} {σ : St} {H : Hp} {ρ : List S} {A : List (Option Addr)}
theorem Fin.here (g : Good K F σ H ρ A) {v : V} {d : D} (p : Rp K (vw H (hid F A)) v d) : Fin K F σ H ρ A (.sh d) ρ v H := ⟨A, g, Stp.refl, p⟩
/-- a new tuple -/
theorem Fin.newT (g : Good K F σ H ρ A) {p : Addr} (hp : H p = none) {vs : List V} {ds : List D} (r : RpL K (vw H (hid F A)) vs ds) : Fin K F σ H ρ A (.sh (.tuple ds)) ρ (.ref p) (upd H p (.tup vs)) :=
  ⟨A, g.upd_new hp, Stp.upd_new g hp, .tup (g.vw_upd hp) (r.mono (Stp.upd_new g hp).vs)⟩
/-- a new list, one's own -/
theorem Fin.newL (g : Good K F σ H ρ A) {p : Addr} (hp : H p = none) {vs : List V} {ds : List D} (r : RpL K (vw H (hid F A)) vs ds) : Fin K F σ H ρ A (.ow (.list ds)) ρ (.ref p) (upd H p (.lst vs)) :=
  ⟨A, p, rfl, fun z => g.trk p z hp, g.hide_new hp, Stp.upd_new g hp, view_hide g hp, vs, upd_same, r.mono (view_hide g hp)⟩
end

section
variable {K : PySem.W.Frag}
theorem BinOk.or {r r' : R2} {g : D → D → Option S} (h : ∀ (F : Addr → Prop) (σ : St) (H : Hp) (ρ : List S) (A : List (Option Addr)) (x y : V) (dx dy : D) (res : S), Good K F σ H ρ A → Pk K H (vw H (hid F A)) x dx → Pk K H (vw H (hid F A)) y dy → g dx dy = some res →
    ∀ Q : VK, (∀ v H', Fin K F σ H ρ A res ρ v H' → Q v H') → r x y H Q ∨ r' x y H Q) : BinOk K (fun x y H Q => r x y H Q ∨ r' x y H Q) g := h

def S.i (i : Int) : S := .sh (.int i)
def S.b (b : Bool) : S := .sh (.bool b)
/-! arithmetic -/
def gAdd : D → D → Option S
  | .int i, .int j => some (.sh (.int (i + j)))
  | .list a, .list b => if a.length + b.length ≤ 16777216 then some (.ow (.list (a ++ b))) else none
  | .tuple a, .tuple b => if a.length + b.length ≤ 16777216 then some (.sh (.tuple (a ++ b))) else none
  | .str a, .str b => if a.length + b.length ≤ 16777216 then some (.sh (.str (a ++ b))) else none
  | _, _ => none
def rStrCat : R2 := fun x y H Q => ∃ i j, x = .str i ∧ y = .str j ∧ i.length + j.length ≤ sizeLine ∧ Q (.str (i ++ j)) H
def rAddZ (K : PySem.W.Frag) : R2 := fun x y H Q => rI0 (fun i j => .int (i + j)) x y H Q ∨ (rCat x y H Q ∨ (rCatA K x y H Q ∨ rStrCat x y H Q))
theorem or_addZ {X : Cx} : OpR X (binaryOp .Add) (rAddZ X.K) := op_add.or (op_cat.or (op_catA.or op_add_str))
theorem ok_add : BinOk K (rAddZ K) gAdd := by
  intro F σ H ρ A x y dx dy res g hx hy e Q q
  have sl := sizeLine_eq
  cases dx with
  | int i =>
    cases dy with
    | int j => cases e; exact .inl ⟨i, j, hx.int, hy.int, q _ _ (.here g (.int _))⟩
    | _ => cases e
  | list a =>
    cases dy with
    | list b =>
      simp only [gAdd] at e
      split at e
      · cases e
        obtain ⟨p, vs, rfl, e1, r1⟩ := hx.list
        obtain ⟨p2, ws, rfl, e2, r2⟩ := hy.list
        have l1 := r1.len
        have l2 := r2.len
        exact .inr (.inl ⟨p, p2, vs, ws, rfl, rfl, e1, e2, by omega, fun n hn => q _ _ (.newL g hn (r1.app r2))⟩)
      · cases e
    | _ => cases e
  | tuple a =>
    cases dy with
    | tuple b =>
      simp only [gAdd] at e
      split at e
      · cases e
        obtain ⟨p, vs, rfl, e1, v1, r1⟩ := hx.tuple
        obtain ⟨p2, ws, rfl, e2, v2, r2⟩ := hy.tuple
        have l1 := r1.len
        have l2 := r2.len
        refine .inr (.inr (.inl ⟨p, p2, vs, ws, rfl, rfl, .of e1, .of e2, by omega, fun z => ?_, fun _ z => ?_, fun _ _ n hn => q _ _ (.newT g hn (r1.app r2))⟩))
        · subst z
          cases r1
          exact q _ _ (.here g (.tup v2 r2))
        · subst z
          cases r2
          rw [List.append_nil] at q
          exact q _ _ (.here g (.tup v1 r1))
      · cases e
    | _ => cases e
  | str a =>
    cases dy with
    | str b =>
      simp only [gAdd] at e
      split at e
      · cases e
        exact .inr (.inr (.inr ⟨a, b, hx.str, hy.str, by omega, q _ _ (.here g (.str _))⟩))
      · cases e
    | _ => cases e
  | _ => cases e
def gSub : D → D → Option S
  | .int i, .int j => some (.sh (.int (i - j)))
  | _, _ => none
theorem ok_sub : BinOk K (rI0 fun i j => .int (i - j)) gSub := by
  intro F σ H ρ A x y dx dy res g hx hy e Q q
  cases dx with
  | int i =>
    cases dy with
    | int j => cases e; exact ⟨i, j, hx.int, hy.int, q _ _ (.here g (.int _))⟩
    | _ => cases e
  | _ => cases e
/-- a product of ints, one of them small; a list so many times -/
def gMul : D → D → Option S
  | .int i, .int j => if i.natAbs < 18446744073709551616 ∨ j.natAbs < 18446744073709551616 then some (.sh (.int (i * j))) else none
  | .list a, .int k => if k.natAbs < 9223372036854775808 ∧ a.length * k.toNat ≤ 16777216 then some (.ow (.list (List.replicate k.toNat a).flatten)) else none
  | .tuple a, .int k => if k.natAbs ≤ 1000 ∧ a.length ≤ 1000 then some (.sh (.tuple (List.replicate k.toNat a).flatten)) else none
  | _, _ => none
def rMulZ (K : PySem.W.Frag) : R2 := fun x y H Q => rI CMul (fun i j => .int (i * j)) x y H Q ∨ (rRep x y H Q ∨ (rRepT K x y H Q ∨ (rRepS K x y H Q ∨ rRepZ K x y H Q)))
theorem or_mulZ {X : Cx} : OpR X (binaryOp .Mult) (rMulZ X.K) := op_mul.or (op_rep.or (op_repT.or (op_repS.or op_repZ)))
theorem RpL.rep {H : Hp} {vs : List V} {ds : List D} (r : RpL K H vs ds) : ∀ k : Nat, RpL K H (List.replicate k vs).flatten (List.replicate k ds).flatten
  | 0 => .nil
  | k + 1 => by
    rw [List.replicate_succ, List.replicate_succ, List.flatten_cons, List.flatten_cons]
    exact r.app (RpL.rep r k)
theorem ok_mul : BinOk K (rMulZ K) gMul := by
  intro F σ H ρ A x y dx dy res g hx hy e Q q
  have sl := sizeLine_eq
  cases dx with
  | int i =>
    cases dy with
    | int j =>
      simp only [gMul] at e
      split at e
      · rename_i hc
        cases e
        refine .inl ⟨i, j, hx.int, hy.int, ?_, q _ _ (.here g (.int _))⟩
        unfold CMul
        rcases hc with hc | hc
        · exact .inl ⟨by omega, by omega⟩
        · exact .inr ⟨by omega, by omega⟩
      · cases e
    | _ => cases e
  | list a =>
    cases dy with
    | int k =>
      simp only [gMul] at e
      split at e
      · rename_i hc
        cases e
        obtain ⟨p, vs, rfl, e1, r1⟩ := hx.list
        have l1 := r1.len
        exact .inr (.inl ⟨p, k, vs, rfl, hy.int, e1, by omega, by omega, by rw [l1]; omega, fun n hn => q _ _ (.newL g hn (r1.rep _))⟩)
      · cases e
    | _ => cases e
  | tuple a =>
    cases dy with
    | int k =>
      simp only [gMul] at e
      split at e
      · rename_i hc
        cases e
        obtain ⟨p, vs, rfl, e1, v1, r1⟩ := hx.tuple
        have l1 := r1.len
        by_cases hs : vs = [] ∨ k = 1
        · refine .inr (.inr (.inr (.inl ⟨p, k, vs, rfl, hy.int, .of e1, hs, by omega, q _ _ (.here g ?_)⟩)))
          have : (List.replicate k.toNat a).flatten = a := by
            rcases hs with rfl | rfl
            · cases r1
              exact List.flatten_eq_nil_iff.mpr fun x hx => (List.eq_of_mem_replicate hx)
            · simp
          rw [this]
          exact .tup v1 r1
        · by_cases hz : k ≤ 0
          · refine .inr (.inr (.inr (.inr ⟨p, k, vs, rfl, hy.int, .of e1, fun z => hs (.inl z), hz, by omega, fun n hn => ?_⟩)))
            have : (List.replicate k.toNat a).flatten = [] := by rw [show k.toNat = 0 by omega]; rfl
            rw [this] at q
            exact q _ _ (.newT g hn .nil)
          · exact .inr (.inr (.inl ⟨p, k, vs, rfl, hy.int, .of e1, fun z => hs (.inl z), by omega, by omega, by omega, fun n hn => q _ _ (.newT g hn (r1.rep _))⟩))
      · cases e
    | _ => cases e
  | _ => cases e
def gDiv : D → D → Option S
  | .int i, .int j => if 0 < j ∧ j.toNat < 1073741824 then some (.sh (.int (i / j))) else none
  | _, _ => none
theorem ok_div : BinOk K (rI CDiv fun i j => .int (i / j)) gDiv := by
  intro F σ H ρ A x y dx dy res g hx hy e Q q
  cases dx with
  | int i =>
    cases dy with
    | int j =>
      simp only [gDiv] at e
      split at e
      · rename_i hc
        cases e
        exact ⟨i, j, hx.int, hy.int, ⟨hc.1, by omega⟩, q _ _ (.here g (.int _))⟩
      · cases e
    | _ => cases e
  | _ => cases e
def gMod : D → D → Option S
  | .int i, .int j => if 0 < j then some (.sh (.int (i % j))) else none
  | _, _ => none
theorem ok_mod : BinOk K (rI (fun _ j => 0 < j) fun i j => .int (i % j)) gMod := by
  intro F σ H ρ A x y dx dy res g hx hy e Q q
  cases dx with
  | int i =>
    cases dy with
    | int j =>
      simp only [gMod] at e
      split at e
      · rename_i hc
        cases e
        exact ⟨i, j, hx.int, hy.int, hc, q _ _ (.here g (.int _))⟩
      · cases e
    | _ => cases e
  | _ => cases e
def gPow : D → D → Option S
  | .int i, .int j => if 0 ≤ j ∧ j.toNat ≤ 1000000 ∧ i.natAbs < 18446744073709551616 then some (.sh (.int (i ^ j.toNat))) else none
  | _, _ => none
theorem ok_pow : BinOk K (rI CPow fun i j => .int (i ^ j.toNat)) gPow := by
  intro F σ H ρ A x y dx dy res g hx hy e Q q
  cases dx with
  | int i =>
    cases dy with
    | int j =>
      simp only [gPow] at e
      split at e
      · rename_i hc
        cases e
        exact ⟨i, j, hx.int, hy.int, ⟨hc.1, by omega, by omega⟩, q _ _ (.here g (.int _))⟩
      · cases e
    | _ => cases e
  | _ => cases e

/-! order -/
def gLt : D → D → Option S
  | .int i, .int j => some (.sh (.bool (decide (i < j))))
  | .str i, .str j => some (.sh (.bool (decide (i.cps.toList < j.cps.toList))))
  | _, _ => none
def gLe : D → D → Option S
  | .int i, .int j => some (.sh (.bool (decide (i ≤ j))))
  | .str i, .str j => some (.sh (.bool (!decide (j.cps.toList < i.cps.toList))))
  | _, _ => none
def gGt : D → D → Option S
  | .int i, .int j => some (.sh (.bool (decide (j < i))))
  | .str i, .str j => some (.sh (.bool (decide (j.cps.toList < i.cps.toList))))
  | _, _ => none
def gGe : D → D → Option S
  | .int i, .int j => some (.sh (.bool (decide (j ≤ i))))
  | .str i, .str j => some (.sh (.bool (!decide (i.cps.toList < j.cps.toList))))
  | _, _ => none
def rCmpZ (p : Int → Int → Bool) (s : Str → Str → Bool) : R2 := fun x y H Q => rI0 (fun i j => .bl (p i j)) x y H Q ∨ (fun x y H Q => ∃ i j, x = .str i ∧ y = .str j ∧ Q (.bl (s i j)) H : R2) x y H Q
theorem or_ltZ {X : Cx} : OpR X (compareOp .Lt) (rCmpZ (fun i j => decide (i < j)) fun i j => decide (i.cps.toList < j.cps.toList)) := op_lt.or op_lt_str
theorem or_leZ {X : Cx} : OpR X (compareOp .LtE) (rCmpZ (fun i j => decide (i ≤ j)) fun i j => !decide (j.cps.toList < i.cps.toList)) := op_le.or op_le_str
theorem or_gtZ {X : Cx} : OpR X (compareOp .Gt) (rCmpZ (fun i j => decide (j < i)) fun i j => decide (j.cps.toList < i.cps.toList)) := op_gt.or op_gt_str
theorem or_geZ {X : Cx} : OpR X (compareOp .GtE) (rCmpZ (fun i j => decide (j ≤ i)) fun i j => !decide (i.cps.toList < j.cps.toList)) := op_ge.or op_ge_str
theorem ok_lt : BinOk K (rCmpZ (fun i j => decide (i < j)) fun i j => decide (i.cps.toList < j.cps.toList)) gLt := by
  intro F σ H ρ A x y dx dy res g hx hy e Q q
  cases dx <;> cases dy <;> first | (cases e; exact .inl ⟨_, _, hx.int, hy.int, q _ _ (.here g (.bl _))⟩) | (cases e; exact .inr ⟨_, _, hx.str, hy.str, q _ _ (.here g (.bl _))⟩) | cases e
theorem ok_le : BinOk K (rCmpZ (fun i j => decide (i ≤ j)) fun i j => !decide (j.cps.toList < i.cps.toList)) gLe := by
  intro F σ H ρ A x y dx dy res g hx hy e Q q
  cases dx <;> cases dy <;> first | (cases e; exact .inl ⟨_, _, hx.int, hy.int, q _ _ (.here g (.bl _))⟩) | (cases e; exact .inr ⟨_, _, hx.str, hy.str, q _ _ (.here g (.bl _))⟩) | cases e
theorem ok_gt : BinOk K (rCmpZ (fun i j => decide (j < i)) fun i j => decide (j.cps.toList < i.cps.toList)) gGt := by
  intro F σ H ρ A x y dx dy res g hx hy e Q q
  cases dx <;> cases dy <;> first | (cases e; exact .inl ⟨_, _, hx.int, hy.int, q _ _ (.here g (.bl _))⟩) | (cases e; exact .inr ⟨_, _, hx.str, hy.str, q _ _ (.here g (.bl _))⟩) | cases e
theorem ok_ge : BinOk K (rCmpZ (fun i j => decide (j ≤ i)) fun i j => !decide (i.cps.toList < j.cps.toList)) gGe := by
  intro F σ H ρ A x y dx dy res g hx hy e Q q
  cases dx <;> cases dy <;> first | (cases e; exact .inl ⟨_, _, hx.int, hy.int, q _ _ (.here g (.bl _))⟩) | (cases e; exact .inr ⟨_, _, hx.str, hy.str, q _ _ (.here g (.bl _))⟩) | cases e

/-! equality of data -/
def rEqP (K : PySem.W.Frag) (neg : Bool) : R2 := fun x y H Q => ∃ d e, Dp K H x d ∧ Dp K H y e ∧ d.plain = true ∧ e.plain = true ∧ min d.depth e.depth ≤ 60 ∧ Q (.bl (if neg then !PyData.eqv d e else PyData.eqv d e)) H
theorem or_eqP {X : Cx} (hu : X.A.units + 64 < cLine) : OpR X (compareOp .Eq) (rEqP X.K false) := by
  intro pins s σ H x y v u Q I rx ry h
  obtain ⟨d, e, hd, he, sd, se, hm, q⟩ := h
  obtain ⟨as, r1⟩ := Dp.reads I d x v hd rx
  obtain ⟨bs, r2⟩ := Dp.reads I e y u he ry
  exact SeqAt.eq_plain r1 r2 sd se (by omega) ⟨.bl _, H, I, rfl, q⟩
theorem or_neP {X : Cx} (hu : X.A.units + 64 < cLine) : OpR X (compareOp .NotEq) (rEqP X.K true) := by
  intro pins s σ H x y v u Q I rx ry h
  obtain ⟨d, e, hd, he, sd, se, hm, q⟩ := h
  obtain ⟨as, r1⟩ := Dp.reads I d x v hd rx
  obtain ⟨bs, r2⟩ := Dp.reads I e y u he ry
  exact SeqAt.ne_plain r1 r2 sd se (by omega) ⟨.bl _, H, I, rfl, q⟩
def gEq (a b : D) : Option S := if min a.depth b.depth ≤ 60 then some (.sh (.bool (PyData.eqv a b))) else none
def gNe (a b : D) : Option S := if min a.depth b.depth ≤ 60 then some (.sh (.bool (!PyData.eqv a b))) else none
theorem ok_eq : BinOk K (rEqP K false) gEq := by
  intro F σ H ρ A x y dx dy res g hx hy e Q q
  unfold gEq at e
  split at e
  · rename_i hc
    cases e
    exact ⟨dx, dy, hx.dp, hy.dp, hx.plain, hy.plain, hc, q _ _ (.here g (.bl _))⟩
  · cases e
theorem ok_ne : BinOk K (rEqP K true) gNe := by
  intro F σ H ρ A x y dx dy res g hx hy e Q q
  unfold gNe at e
  split at e
  · rename_i hc
    cases e
    exact ⟨dx, dy, hx.dp, hy.dp, hx.plain, hy.plain, hc, q _ _ (.here g (.bl _))⟩
  · cases e

/-! in: lists, tuples; one sign in a text -/
def rInP (K : PySem.W.Frag) (neg : Bool) : R2 := fun x y H Q => ∃ d ds, Dp K H x d ∧ (Dp K H y (.list ds) ∨ Dp K H y (.tuple ds)) ∧ d.plain = true ∧ PyData.plainAll ds = true ∧ min (PyData.depthAll ds) d.depth ≤ 60 ∧
  Q (.bl (if neg then !(ds.any fun z => PyData.eqv z d) else ds.any fun z => PyData.eqv z d)) H
theorem or_inP {X : Cx} (hu : X.A.units + 64 < cLine) : OpR X (compareOp .In) (rInP X.K false) := by
  intro pins s σ H x y v u Q I rx ry h
  obtain ⟨d, ds, hd, he, sd, se, hm, q⟩ := h
  obtain ⟨as, r1⟩ := Dp.reads I d x v hd rx
  rcases he with he | he
  · obtain ⟨bs, r2⟩ := Dp.reads I _ y u he ry
    exact SeqAt.in_list_data r2 r1 se sd (by omega) ⟨.bl _, H, I, rfl, q⟩
  · obtain ⟨bs, r2⟩ := Dp.reads I _ y u he ry
    exact SeqAt.in_tuple_data r2 r1 se sd (by omega) ⟨.bl _, H, I, rfl, q⟩
theorem or_notInP {X : Cx} (hu : X.A.units + 64 < cLine) : OpR X (compareOp .NotIn) (rInP X.K true) := by
  intro pins s σ H x y v u Q I rx ry h
  obtain ⟨d, ds, hd, he, sd, se, hm, q⟩ := h
  obtain ⟨as, r1⟩ := Dp.reads I d x v hd rx
  rcases he with he | he
  · obtain ⟨bs, r2⟩ := Dp.reads I _ y u he ry
    exact SeqAt.notIn_list_data r2 r1 se sd (by omega) ⟨.bl _, H, I, rfl, q⟩
  · obtain ⟨bs, r2⟩ := Dp.reads I _ y u he ry
    exact SeqAt.notIn_tuple_data r2 r1 se sd (by omega) ⟨.bl _, H, I, rfl, q⟩
def gInB (neg : Bool) (d : D) : D → Option S
  | .list ds => if min (PyData.depthAll ds) d.depth ≤ 60 then some (.sh (.bool (if neg then !(ds.any fun z => PyData.eqv z d) else ds.any fun z => PyData.eqv z d))) else none
  | .tuple ds => if min (PyData.depthAll ds) d.depth ≤ 60 then some (.sh (.bool (if neg then !(ds.any fun z => PyData.eqv z d) else ds.any fun z => PyData.eqv z d))) else none
  | _ => none
abbrev gIn : D → D → Option S := gInB false
abbrev gNotIn : D → D → Option S := gInB true
theorem ok_inB {neg : Bool} : BinOk K (rInP K neg) (gInB neg) := by
  intro F σ H ρ A x y dx dy res g hx hy e Q q
  cases dy with
  | list ds =>
    simp only [gInB] at e
    split at e
    · rename_i hc
      cases e
      have hp := hy.plain
      simp only [PyData.plain] at hp
      exact ⟨dx, ds, hx.dp, .inl hy.dp, hx.plain, hp, hc, q _ _ (.here g (.bl _))⟩
    · cases e
  | tuple ds =>
    simp only [gInB] at e
    split at e
    · rename_i hc
      cases e
      have hp := hy.plain
      simp only [PyData.plain] at hp
      exact ⟨dx, ds, hx.dp, .inr hy.dp, hx.plain, hp, hc, q _ _ (.here g (.bl _))⟩
    · cases e
  | _ => cases e

/-! is None, is True, is False -/
def rIsK (c : V) (neg : Bool) : R2 := fun x y H Q => y = c ∧ Q (.bl (if neg then !decide (x = c) else decide (x = c))) H
theorem is_const {X : Cx} {c : V} {u : Value} (hc : (c = .non ∧ u = .none) ∨ ∃ b, c = .bl b ∧ u = .bool b) {x : V} {v : Value} (rx : RelV x v) (hx : ∀ t, x ≠ .ty t) : plainIs v u = true ∧ ((v = u) ↔ x = c) := by
  rcases hc with ⟨rfl, rfl⟩ | ⟨b, rfl, rfl⟩
  all_goals (cases x with
    | ty t => exact absurd rfl (hx t)
    | non => cases rx; exact ⟨rfl, by simp⟩
    | bl b => cases rx; exact ⟨rfl, by simp⟩
    | int i => obtain ⟨t, rfl⟩ := rx; exact ⟨rfl, by simp⟩
    | str i => obtain ⟨t, rfl⟩ := rx; exact ⟨rfl, by simp⟩
    | byt i => obtain ⟨t, rfl⟩ := rx; exact ⟨rfl, by simp⟩
    | flt i => obtain ⟨t, rfl⟩ := rx; exact ⟨rfl, by simp⟩
    | ref a => cases rx; exact ⟨rfl, by simp⟩)
def isC (d c : D) : Option Bool := match c with
  | .none => some (match d with | .none => true | _ => false)
  | .bool b => some (match d with | .bool k => k == b | _ => false)
  | _ => none
def gIs (d c : D) : Option S := (isC d c).map fun b => .sh (.bool b)
def gIsNot (d c : D) : Option S := (isC d c).map fun b => .sh (.bool (!b))
def rIsZ (neg : Bool) : R2 := fun x y H Q => (∀ t, x ≠ .ty t) ∧ (y = .non ∨ ∃ b, y = .bl b) ∧ Q (.bl (if neg then !decide (x = y) else decide (x = y))) H
theorem or_isZ {X : Cx} : OpR X (compareOp .Is) (rIsZ false) := by
  intro pins s σ H x y v u Q I rx ry h
  obtain ⟨hx, hy, q⟩ := h
  have hc : (y = .non ∧ u = .none) ∨ ∃ b, y = .bl b ∧ u = .bool b := by
    rcases hy with rfl | ⟨b, rfl⟩
    · cases ry; exact .inl ⟨rfl, rfl⟩
    · cases ry; exact .inr ⟨b, rfl, rfl⟩
  obtain ⟨hp, hi⟩ := is_const (X := X) hc rx hx
  by_cases e : x = y
  · have e' := hi.mpr e
    subst e'
    exact wpAny_is_self hp ⟨.bl true, H, I, rfl, by simpa [e] using q⟩
  · exact wpAny_is_other hp (fun z => e (hi.mp z)) ⟨.bl false, H, I, rfl, by simpa [e] using q⟩
theorem or_isNotZ {X : Cx} : OpR X (compareOp .IsNot) (rIsZ true) := by
  intro pins s σ H x y v u Q I rx ry h
  obtain ⟨hx, hy, q⟩ := h
  have hc : (y = .non ∧ u = .none) ∨ ∃ b, y = .bl b ∧ u = .bool b := by
    rcases hy with rfl | ⟨b, rfl⟩
    · cases ry; exact .inl ⟨rfl, rfl⟩
    · cases ry; exact .inr ⟨b, rfl, rfl⟩
  obtain ⟨hp, hi⟩ := is_const (X := X) hc rx hx
  by_cases e : x = y
  · have e' := hi.mpr e
    subst e'
    exact wpAny_isNot_self hp ⟨.bl false, H, I, rfl, by simpa [e] using q⟩
  · exact wpAny_isNot_other hp (fun z => e (hi.mp z)) ⟨.bl true, H, I, rfl, by simpa [e] using q⟩
theorem Pk.noty {H W' : Hp} {v : V} {d : D} (h : Pk K H W' v d) : ∀ t, v ≠ .ty t := by
  intro t z
  subst z
  rcases h with h | ⟨a, z, _⟩
  · cases h
  · cases z
theorem isC_dec {H W' : Hp} {x y : V} {d c : D} {k : Bool} (hx : Pk K H W' x d) (hy : Pk K H W' y c) (e : isC d c = some k) : (y = .non ∨ ∃ b, y = .bl b) ∧ decide (x = y) = k := by
  cases c with
  | none =>
    have := hy.none
    subst this
    refine ⟨.inl rfl, ?_⟩
    cases d with
    | none => have := hx.none; subst this; cases e; rfl
    | bool b => have := hx.bool; subst this; cases e; rfl
    | int b => have := hx.int; subst this; cases e; rfl
    | str b => have := hx.str; subst this; cases e; rfl
    | list ds => rcases hx with hx | ⟨a, rfl, _⟩ <;> cases e <;> first | (cases hx <;> rfl) | rfl
    | tuple ds => rcases hx with hx | ⟨a, rfl, _⟩ <;> cases e <;> first | (cases hx <;> rfl) | rfl
    | dict ds => rcases hx with hx | ⟨a, rfl, _⟩ <;> cases e <;> first | (cases hx <;> rfl) | rfl
  | bool b =>
    have := hy.bool
    subst this
    refine ⟨.inr ⟨b, rfl⟩, ?_⟩
    cases d with
    | none => have := hx.none; subst this; cases e; rfl
    | bool k => have := hx.bool; subst this; cases e; cases k <;> cases b <;> rfl
    | int b => have := hx.int; subst this; cases e; rfl
    | str b => have := hx.str; subst this; cases e; rfl
    | list ds => rcases hx with hx | ⟨a, rfl, _⟩ <;> cases e <;> first | (cases hx <;> rfl) | rfl
    | tuple ds => rcases hx with hx | ⟨a, rfl, _⟩ <;> cases e <;> first | (cases hx <;> rfl) | rfl
    | dict ds => rcases hx with hx | ⟨a, rfl, _⟩ <;> cases e <;> first | (cases hx <;> rfl) | rfl
  | _ => cases e
theorem ok_is : BinOk K (rIsZ false) gIs := by
  intro F σ H ρ A x y dx dy res g hx hy e Q q
  unfold gIs at e
  cases h : isC dx dy with
  | none => rw [h] at e; cases e
  | some k =>
    rw [h] at e; cases e
    obtain ⟨h1, h2⟩ := isC_dec hx hy h
    refine ⟨hx.noty, h1, ?_⟩
    rw [h2]
    exact q _ _ (.here g (.bl _))
theorem ok_isNot : BinOk K (rIsZ true) gIsNot := by
  intro F σ H ρ A x y dx dy res g hx hy e Q q
  unfold gIsNot at e
  cases h : isC dx dy with
  | none => rw [h] at e; cases e
  | some k =>
    rw [h] at e; cases e
    obtain ⟨h1, h2⟩ := isC_dec hx hy h
    refine ⟨hx.noty, h1, ?_⟩
    rw [h2]
    exact q _ _ (.here g (.bl _))

/-! a subscript -/
def gIx : D → D → Option S
  | .list ds, .int i => (atI ds i).map S.sh
  | .tuple ds, .int i => (atI ds i).map S.sh
  | .str z, .int i => if z.length ≤ 16777216 then (atI z.cps.toList i).map fun c => S.sh (.str ⟨#[c]⟩) else none
  | _, _ => none
theorem at_rp {H : Hp} {vs : List V} {ds : List D} {i : Int} {d : D} (r : RpL K H vs ds) (e : atI ds i = some d) : ∃ v, atI vs i = some v ∧ Rp K H v d := by
  unfold atI at e ⊢
  rw [r.len]
  cases h : ixN ds.length i with
  | none => rw [h] at e; cases e
  | some j => rw [h] at e; exact r.get e
theorem ok_ix : BinOk K (rIx K) gIx := by
  intro F σ H ρ A x y dx dy res g hx hy e Q q
  have sl := sizeLine_eq
  cases dx with
  | list ds =>
    cases dy with
    | int i =>
      simp only [gIx] at e
      cases h : atI ds i with
      | none => rw [h] at e; cases e
      | some d =>
        rw [h] at e; cases e
        obtain ⟨p, vs, rfl, e1, r1⟩ := hx.list
        obtain ⟨v, h1, h2⟩ := at_rp r1 h
        exact .inl ⟨p, vs, i, v, rfl, hy.int, .of e1, h1, q _ _ (.here g h2)⟩
    | _ => cases e
  | tuple ds =>
    cases dy with
    | int i =>
      simp only [gIx] at e
      cases h : atI ds i with
      | none => rw [h] at e; cases e
      | some d =>
        rw [h] at e; cases e
        obtain ⟨p, vs, rfl, e1, _, r1⟩ := hx.tuple
        obtain ⟨v, h1, h2⟩ := at_rp r1 h
        exact .inr (.inl ⟨p, vs, i, v, rfl, hy.int, .of e1, h1, q _ _ (.here g h2)⟩)
    | _ => cases e
  | str z =>
    cases dy with
    | int i =>
      simp only [gIx] at e
      split at e
      · rename_i hc
        cases h : atI z.cps.toList i with
        | none => rw [h] at e; cases e
        | some d =>
          rw [h] at e; cases e
          exact .inr (.inr ⟨z, i, d, hx.str, hy.int, by omega, h, q _ _ (.here g (.str _))⟩)
      · cases e
    | _ => cases e
  | _ => cases e
end
end Z
end
section
namespace Z
open PySem PySem.Spec L2

/-! ### truth -/
def truth : D → Option Bool
  | .none => some false
  | .bool b => some b
  | .int i => some (i != 0)
  | .str y => if y.length ≤ 16777216 then some ((y.length : Int) != 0) else none
  | .list ds => some (!ds.isEmpty)
  | .tuple ds => some (!ds.isEmpty)
  | .dict _ => none
section
variable {K : PySem.W.Frag} {mg : Str → Option Value} {W : WX} {F : Addr → Prop} {σ : St} {H : Hp} {ρ : List S} {A : List (Option Addr)}
theorem truth_ok {v : V} {d : D} {b : Bool} (h : Pk K H (vw H (hid F A)) v d) (e : truth d = some b) : TruV K v H b := by
  have sl := sizeLine_eq
  cases d with
  | none => have := h.none; subst this; cases e; rfl
  | bool k => have := h.bool; subst this; cases e; rfl
  | int k => have := h.int; subst this; cases e; rfl
  | str y =>
    have := h.str; subst this
    simp only [truth] at e
    split at e
    · cases e; exact ⟨by omega, rfl⟩
    · cases e
  | list ds =>
    cases e
    obtain ⟨p, vs, rfl, e1, r1⟩ := h.list
    refine .inl ⟨vs, .of e1, ?_⟩
    cases r1 <;> rfl
  | tuple ds =>
    cases e
    obtain ⟨p, vs, rfl, e1, _, r1⟩ := h.tuple
    refine .inr (.inl ⟨vs, .of e1, ?_⟩)
    cases r1 <;> rfl
  | dict ds => cases e
end
def fTruth (f : OF) : BF := fun ρ => f ρ >>= fun p => Rs.of (look p.1 p.2) >>= fun d => Rs.of (truth d) >>= fun b => .ok (b, p.2)
def fNotB (f : BF) : BF := fun ρ => f ρ >>= fun p => .ok (!p.1, p.2)
def fAndB (f g : BF) : BF := fun ρ => f ρ >>= fun p => if p.1 = true then g p.2 else .ok (false, p.2)
def fOrB (f g : BF) : BF := fun ρ => f ρ >>= fun p => if p.1 = true then .ok (true, p.2) else g p.2
def fIf (c : BF) (f g : EF) : EF := fun ρ => c ρ >>= fun p => if p.1 = true then f p.2 else g p.2
def fIfO (c : BF) (f g : OF) : OF := fun ρ => c ρ >>= fun p => if p.1 = true then f p.2 else g p.2
/-- and, or, not as values: of operands -/
def fNotV (f : OF) : EF := fun ρ => f ρ >>= fun p => Rs.of (look p.1 p.2) >>= fun d => Rs.of (truth d) >>= fun b => .ok (.sh (.bool (!b)), p.2)
def fAndV (f g : EF) : EF := fun ρ => f ρ >>= fun p => match p.1 with
  | .sh d => Rs.of (truth d) >>= fun b => if b = true then g p.2 else .ok (.sh d, p.2)
  | _ => .no
def fOrV (f g : EF) : EF := fun ρ => f ρ >>= fun p => match p.1 with
  | .sh d => Rs.of (truth d) >>= fun b => if b = true then .ok (.sh d, p.2) else g p.2
  | _ => .no
section
variable {X : Cx} {K : PySem.W.Frag} {mg : Str → Option Value} {W : WX} {n : Nat} {pos : Pos} {a b c : Expr} {rest : List Expr} {fa fb : OF} {f g : EF} {ta tb : BF}
theorem b_no : ∀ {F σ H ρ A} {Q : Bool → Hp → Prop}, ¬ PoT K mg W F σ H ρ A .no Q := fun z => z
theorem bt_truth (ct : Ct X K mg W n) (h : PE X a (TO' K mg W fa)) (he : ∀ whole, isTrue a X.env whole = (do let v ← whole; standAt a.pos; holding [v] (truthy v)) := by intro _; rfl) : PT X a (TB' K mg W (fTruth fa)) := by
  obtain ⟨rfl, rfl, _, _, _, _⟩ := ct
  refine pt_imp (pt_truth h he) fun σ H Q ⟨F, ρ, A, gd, po⟩ => ?_
  refine seqO gd (po := fun o => PoT X.K X.mg W F σ H ρ A o Q) poB_no (poB_exS Stp.refl) po fun h1 ρ1 v1 H1 A1 g1 s1 r1 po => ?_
  obtain ⟨d1, e1, po⟩ := seqOpt (po := fun o => PoT X.K X.mg W F σ H ρ A o Q) poB_no po
  obtain ⟨b1, e2, po⟩ := seqOpt (po := fun o => PoT X.K X.mg W F σ H ρ A o Q) poB_no po
  exact ⟨b1, truth_ok (look_ok g1 r1 e1) e2, po H1 A1 g1 s1⟩
theorem bt_not (h : PT X a (TB' K mg W ta)) : PT X (.UnaryOp .Not a pos) (TB' K mg W (fNotB ta)) := by
  refine pt_imp (pt_not h) fun σ H Q ⟨F, ρ, A, gd, po⟩ => ?_
  refine seqB gd (po := fun o => PoT K mg W F σ H ρ A o Q) poB_no (poB_exS Stp.refl) po fun k ρ1 H1 A1 g1 s1 po => ?_
  exact po H1 A1 g1 s1
theorem PoT.of {F : Addr → Prop} {σ : St} {H H1 : Hp} {ρ ρ1 : List S} {A A1 : List (Option Addr)} {o : Rs (Bool × List S)} {Q : Bool → Hp → Prop} (s : Stp F H ρ A H1 ρ1 A1) (h : PoT K mg W F σ H ρ A o Q) : PoT K mg W F σ H1 ρ1 A1 o Q := by
  cases o with
  | no => exact h
  | ex ρ' c fs => exact PoX.of s h
  | ok p => obtain ⟨b, ρ2⟩ := p; exact fun H' A' g' s' => h H' A' g' (s.trans s')
theorem PoE.of {F : Addr → Prop} {σ : St} {H H1 : Hp} {ρ ρ1 : List S} {A A1 : List (Option Addr)} {o : Rs (S × List S)} {Q : VK} (s : Stp F H ρ A H1 ρ1 A1) (h : PoE K mg W F σ H ρ A o Q) : PoE K mg W F σ H1 ρ1 A1 o Q := by
  cases o with
  | no => exact h
  | ex ρ' c fs => exact PoX.of s h
  | ok p => obtain ⟨b, ρ2⟩ := p; exact fun v H' f => h v H' (f.trans s)
theorem PoO.of {F : Addr → Prop} {σ : St} {H H1 : Hp} {ρ ρ1 : List S} {A A1 : List (Option Addr)} {o : Rs (Hd × List S)} {Q : VK} (s : Stp F H ρ A H1 ρ1 A1) (h : PoO K mg W F σ H ρ A o Q) : PoO K mg W F σ H1 ρ1 A1 o Q := by
  cases o with
  | no => exact h
  | ex ρ' c fs => exact PoX.of s h
  | ok p => obtain ⟨b, ρ2⟩ := p; exact fun v H' A' g' s' r' => h v H' A' g' (s.trans s') r'
theorem bw_and1 (h : PT X a (TB' K mg W ta)) : PW X (.BoolOp .And [a] pos) (TB' K mg W ta) := pw_and1 h
theorem bw_or1 (h : PT X a (TB' K mg W ta)) : PW X (.BoolOp .Or [a] pos) (TB' K mg W ta) := pw_or1 h
theorem bw_and (h : PT X a (TB' K mg W ta)) (h2 : PW X (.BoolOp .And (b :: rest) pos) (TB' K mg W tb)) : PW X (.BoolOp .And (a :: b :: rest) pos) (TB' K mg W (fAndB ta tb)) := by
  refine pw_imp (pw_and h h2) fun σ H Q ⟨F, ρ, A, gd, po⟩ => ?_
  refine seqB gd (po := fun o => PoT K mg W F σ H ρ A o Q) poB_no (poB_exS Stp.refl) po fun k ρ1 H1 A1 g1 s1 po => ?_
  cases k with
  | true => exact ⟨F, ρ1, A1, g1, PoT.of s1 po⟩
  | false => exact po H1 A1 g1 s1
theorem bw_or (h : PT X a (TB' K mg W ta)) (h2 : PW X (.BoolOp .Or (b :: rest) pos) (TB' K mg W tb)) : PW X (.BoolOp .Or (a :: b :: rest) pos) (TB' K mg W (fOrB ta tb)) := by
  refine pw_imp (pw_or h h2) fun σ H Q ⟨F, ρ, A, gd, po⟩ => ?_
  refine seqB gd (po := fun o => PoT K mg W F σ H ρ A o Q) poB_no (poB_exS Stp.refl) po fun k ρ1 H1 A1 g1 s1 po => ?_
  cases k with
  | false => exact ⟨F, ρ1, A1, g1, PoT.of s1 po⟩
  | true => exact po H1 A1 g1 s1
theorem bt_bw (h : PW X a (TB' K mg W ta)) : PT X a (TB' K mg W ta) := h.pt
theorem ev_if (h : PT X c (TB' K mg W ta)) (hf : PE X a (TF K mg W f)) (hg : PE X b (TF K mg W g)) : PE X (.IfExp c a b pos) (TF K mg W (fIf ta f g)) := by
  refine pe_imp (pe_ifExp h hf hg) fun σ H Q ⟨F, ρ, A, gd, po⟩ => ?_
  refine seqB gd (po := fun o => PoE K mg W F σ H ρ A o Q) poE_no (poE_exS Stp.refl) po fun k ρ1 H1 A1 g1 s1 po => ?_
  cases k with
  | true => exact ⟨F, ρ1, A1, g1, PoE.of s1 po⟩
  | false => exact ⟨F, ρ1, A1, g1, PoE.of s1 po⟩
theorem op_if (h : PT X c (TB' K mg W ta)) (hf : PE X a (TO' K mg W fa)) (hg : PE X b (TO' K mg W fb)) : PE X (.IfExp c a b pos) (TO' K mg W (fIfO ta fa fb)) := by
  refine pe_imp (pe_ifExp h hf hg) fun σ H Q ⟨F, ρ, A, gd, po⟩ => ?_
  refine seqB gd (po := fun o => PoO K mg W F σ H ρ A o Q) poO_no (poO_exS Stp.refl) po fun k ρ1 H1 A1 g1 s1 po => ?_
  cases k with
  | true => exact ⟨F, ρ1, A1, g1, PoO.of s1 po⟩
  | false => exact ⟨F, ρ1, A1, g1, PoO.of s1 po⟩
theorem ev_not (ct : Ct X K mg W n) (h : PE X a (TO' K mg W fa)) : PE X (.UnaryOp .Not a pos) (TF K mg W (fNotV fa)) := by
  obtain ⟨rfl, rfl, _, _, _, _⟩ := ct
  refine pe_imp (pe_notT h) fun σ H Q ⟨F, ρ, A, gd, po⟩ => ?_
  refine seqO gd (po := fun o => PoE X.K X.mg W F σ H ρ A o Q) poE_no (poE_exS Stp.refl) po fun h1 ρ1 v1 H1 A1 g1 s1 r1 po => ?_
  obtain ⟨d1, e1, po⟩ := seqOpt (po := fun o => PoE X.K X.mg W F σ H ρ A o Q) poE_no po
  obtain ⟨b1, e2, po⟩ := seqOpt (po := fun o => PoE X.K X.mg W F σ H ρ A o Q) poE_no po
  exact ⟨b1, truth_ok (look_ok g1 r1 e1) e2, po _ H1 ⟨A1, g1, s1, .bl _⟩⟩
theorem ev_one {op} (h : PE X a (TF K mg W f)) : PE X (.BoolOp op [a] pos) (TF K mg W f) := pe_one h
theorem ev_and (ct : Ct X K mg W n) (h : PE X a (TF K mg W f)) (h2 : PE X (.BoolOp .And (b :: rest) pos) (TF K mg W g)) : PE X (.BoolOp .And (a :: b :: rest) pos) (TF K mg W (fAndV f g)) := by
  obtain ⟨rfl, rfl, _, _, _, _⟩ := ct
  refine pe_imp (pe_andT h h2) fun σ H Q ⟨F, ρ, A, gd, po⟩ => ?_
  refine seqE gd (po := fun o => PoE X.K X.mg W F σ H ρ A o Q) poE_no (poE_exS Stp.refl) po fun r ρ1 v1 H1 f1 po => ?_
  cases r with
  | sh d =>
    obtain ⟨b1, e2, po⟩ := seqOpt (po := fun o => PoE X.K X.mg W F σ H ρ A o Q) poE_no po
    obtain ⟨A1, g1, s1, p1⟩ := f1
    refine ⟨b1, truth_ok (.inl p1) e2, ?_⟩
    cases b1 with
    | true => exact ⟨F, ρ1, A1, g1, PoE.of s1 po⟩
    | false => exact po _ H1 ⟨A1, g1, s1, p1⟩
  | _ => exact po.elim
theorem ev_or (ct : Ct X K mg W n) (h : PE X a (TF K mg W f)) (h2 : PE X (.BoolOp .Or (b :: rest) pos) (TF K mg W g)) : PE X (.BoolOp .Or (a :: b :: rest) pos) (TF K mg W (fOrV f g)) := by
  obtain ⟨rfl, rfl, _, _, _, _⟩ := ct
  refine pe_imp (pe_orT h h2) fun σ H Q ⟨F, ρ, A, gd, po⟩ => ?_
  refine seqE gd (po := fun o => PoE X.K X.mg W F σ H ρ A o Q) poE_no (poE_exS Stp.refl) po fun r ρ1 v1 H1 f1 po => ?_
  cases r with
  | sh d =>
    obtain ⟨b1, e2, po⟩ := seqOpt (po := fun o => PoE X.K X.mg W F σ H ρ A o Q) poE_no po
    obtain ⟨A1, g1, s1, p1⟩ := f1
    refine ⟨b1, truth_ok (.inl p1) e2, ?_⟩
    cases b1 with
    | false => exact ⟨F, ρ1, A1, g1, PoE.of s1 po⟩
    | true => exact po _ H1 ⟨A1, g1, s1, p1⟩
  | _ => exact po.elim
/-- -x -/
def fNeg (f : OF) : EF := fun ρ => f ρ >>= fun p => Rs.of (look p.1 p.2) >>= fun d => match d with
  | .int i => .ok (.sh (.int (-i)), p.2)
  | _ => .no
theorem ev_neg (h : PE X a (TO' K mg W fa)) : PE X (.UnaryOp .USub a pos) (TF K mg W (fNeg fa)) := by
  refine pe_imp (pe_un un_neg h) fun σ H Q ⟨F, ρ, A, gd, po⟩ => ?_
  refine seqO gd (po := fun o => PoE K mg W F σ H ρ A o Q) poE_no (poE_exS Stp.refl) po fun h1 ρ1 v1 H1 A1 g1 s1 r1 po => ?_
  obtain ⟨d1, e1, po⟩ := seqOpt (po := fun o => PoE K mg W F σ H ρ A o Q) poE_no po
  cases d1 with
  | int i => exact ⟨i, (look_ok g1 r1 e1).int, po _ H1 ⟨A1, g1, s1, .int _⟩⟩
  | _ => exact po.elim

/-! ### argument lists -/
def aNil : AF := fun ρ => .ok ([], ρ)
def aCons (f : EF) (g : AF) : AF := fun ρ => f ρ >>= fun p => match p.1 with
  | .sh d => g p.2 >>= fun q => .ok (.sh d :: q.1, q.2)
  | .ow d => g p.2 >>= fun q => .ok (.sh d :: q.1, q.2)
  | .fz ns => g p.2 >>= fun q => .ok (.fz ns :: q.1, q.2)
  | _ => .no
def hNil : HF := fun ρ => .ok ([], ρ)
def hCons (f : OF) (g : HF) : HF := fun ρ => f ρ >>= fun p => g p.2 >>= fun q => .ok (p.1 :: q.1, q.2)
def looks : List Hd → List S → Option (List D)
  | [], _ => some []
  | h :: hs, ρ => match look h ρ, looks hs ρ with
    | some d, some ds => some (d :: ds)
    | _, _ => none
variable {e : Expr} {es : List Expr} {fA : AF} {fH : HF}
theorem ta_nil : PA X [] (TAr K mg W aNil) := pa_imp pa_nil fun σ H Q ⟨F, ρ, A, gd, po⟩ => po [] H A gd Stp.refl .nil
theorem ta_cons (h : PE X e (TF K mg W f)) (h2 : PA X es (TAr K mg W fA)) (hs : starEach (e :: es) X.env = (false, eval e X.env) :: starEach es X.env := by rfl) : PA X (e :: es) (TAr K mg W (aCons f fA)) := by
  refine pa_imp (pa_cons h h2 hs) fun σ H Q ⟨F, ρ, A, gd, po⟩ => ?_
  refine seqE gd (po := fun o => PoA K mg W F σ H ρ A o Q) poA_no (poA_exS Stp.refl) po fun r ρ1 v1 H1 f1 po => ?_
  have key : ∀ (A1 : List (Option Addr)) (s : S), Good K F σ H1 ρ1 A1 → Stp F H ρ A H1 ρ1 A1 → SRep K (vw H1 (hid F A1)) v1 s → PoA K mg W F σ H ρ A (fA ρ1 >>= fun q => Rs.ok (s :: q.1, q.2)) Q → TAr K mg W fA σ H1 fun xs H2 => Q (v1 :: xs) H2 := by
    intro A1 s g1 s1 r1 po
    refine seqA g1 (po := fun o => PoA K mg W F σ H ρ A o Q) poA_no (poA_exS s1) po fun rs ρ2 vs H2 A2 g2 s2 r2 po => ?_
    exact po (v1 :: vs) H2 A2 g2 (s1.trans s2) (.cons (r1.mono s2.vs) r2)
  cases r with
  | sh d => obtain ⟨A1, g1, s1, p1⟩ := f1; exact key A1 (.sh d) g1 s1 p1 po
  | ow d => obtain ⟨A1, g1, s1, p1⟩ := f1.weak; exact key A1 (.sh d) g1 s1 p1 po
  | fz ns => obtain ⟨A1, g1, s1, p1⟩ := f1; exact key A1 (.fz ns) g1 s1 p1 po
  | _ => exact po.elim
theorem th_nil : PA X [] (TH K mg W hNil) := pa_imp pa_nil fun σ H Q ⟨F, ρ, A, gd, po⟩ => po [] H A gd Stp.refl .nil
theorem th_cons (h : PE X e (TO' K mg W fa)) (h2 : PA X es (TH K mg W fH)) (hs : starEach (e :: es) X.env = (false, eval e X.env) :: starEach es X.env := by rfl) : PA X (e :: es) (TH K mg W (hCons fa fH)) := by
  refine pa_imp (pa_cons h h2 hs) fun σ H Q ⟨F, ρ, A, gd, po⟩ => ?_
  refine seqO gd (po := fun o => PoH K mg W F σ H ρ A o Q) poH_no (poH_exS Stp.refl) po fun h1 ρ1 v1 H1 A1 g1 s1 r1 po => ?_
  refine seqH g1 (po := fun o => PoH K mg W F σ H ρ A o Q) poH_no (poH_exS s1) po fun rs ρ2 vs H2 A2 g2 s2 r2 po => ?_
  exact po (v1 :: vs) H2 A2 g2 (s1.trans s2) (.cons (r1.mono s2.vs) r2)
theorem looks_ok {F : Addr → Prop} {σ : St} {H : Hp} {ρ : List S} {A : List (Option Addr)} (g : Good K F σ H ρ A) : ∀ {hs : List Hd} {vs : List V} {ds : List D}, HReps K σ (vw H (hid F A)) vs hs → looks hs ρ = some ds → Paired (Pk K H (vw H (hid F A))) vs ds
  | [], _, ds, .nil, e => by cases e; exact .nil
  | h :: hs, _, ds, .cons r t, e => by
    unfold looks at e
    cases e1 : look h ρ with
    | none => rw [e1] at e; cases e
    | some d =>
      cases e2 : looks hs ρ with
      | none => rw [e1, e2] at e; cases e
      | some ds' =>
        rw [e1, e2] at e
        cases e
        exact .cons (look_ok g r e1) (looks_ok g t e2)
/-! ### displays -/
def shs : List S → Option (List D)
  | [] => some []
  | .sh d :: r => (shs r).map (d :: ·)
  | _ :: _ => none
theorem shs_ok {W' : Hp} : ∀ {vs : List V} {rs : List S} {ds : List D}, SReps K W' vs rs → shs rs = some ds → RpL K W' vs ds
  | _, _, ds, .nil, e => by cases e; exact .nil
  | _, .sh d :: _, ds, .cons r t, e => by
    unfold shs at e
    rename_i rs _ _
    cases q : shs rs with
    | none => rw [q] at e; cases e
    | some ds' => rw [q] at e; cases e; exact .cons r (shs_ok t q)
  | _, .u :: _, _, .cons r _, e => by cases e
  | _, .ow _ :: _, _, .cons r _, e => by cases e
  | _, .cu _ _ :: _, _, .cons r _, e => by cases e
  | _, .fz _ :: _, _, .cons r _, e => by cases e
def fTup (f : AF) : EF := fun ρ => f ρ >>= fun p => Rs.of (shs p.1) >>= fun ds => if ds.length ≤ 16777216 then .ok (.sh (.tuple ds), p.2) else .no
def fLst (f : AF) : EF := fun ρ => f ρ >>= fun p => Rs.of (shs p.1) >>= fun ds => if ds.length ≤ 16777216 then .ok (.ow (.list ds), p.2) else .no
theorem ev_tup {k} (h : PA X es (TAr K mg W fA)) : PE X (.Tuple es k pos) (TF K mg W (fTup fA)) := by
  refine pe_imp (pe_tup h) fun σ H Q ⟨F, ρ, A, gd, po⟩ => ?_
  have sl := sizeLine_eq
  refine seqA gd (po := fun o => PoE K mg W F σ H ρ A o Q) poE_no (poE_exS Stp.refl) po fun rs ρ1 vs H1 A1 g1 s1 r1 po => ?_
  obtain ⟨ds, e1, po⟩ := seqOpt (po := fun o => PoE K mg W F σ H ρ A o Q) poE_no po
  have r2 := shs_ok r1 e1
  have l2 := r2.len
  split at po
  · exact ⟨by omega, fun p hp => po _ _ ((Fin.newT g1 hp r2).trans s1)⟩
  · exact po.elim
theorem ev_lst (h : PA X es (TAr K mg W fA)) : PE X (.List es pos) (TF K mg W (fLst fA)) := by
  refine pe_imp (pe_lst h) fun σ H Q ⟨F, ρ, A, gd, po⟩ => ?_
  have sl := sizeLine_eq
  refine seqA gd (po := fun o => PoE K mg W F σ H ρ A o Q) poE_no (poE_exS Stp.refl) po fun rs ρ1 vs H1 A1 g1 s1 r1 po => ?_
  obtain ⟨ds, e1, po⟩ := seqOpt (po := fun o => PoE K mg W F σ H ρ A o Q) poE_no po
  have r2 := shs_ok r1 e1
  have l2 := r2.len
  split at po
  · exact ⟨by omega, fun p hp => po _ _ ((Fin.newL g1 hp r2).trans s1)⟩
  · exact po.elim

/-! ### slices -/
abbrev NF := List S → Rs (Option Int × List S)
def PoN (F : Addr → Prop) (σ : St) (K : PySem.W.Frag) (mg : Str → Option Value) (W : WX) (H : Hp) (ρ : List S) (A : List (Option Addr)) (o : Rs (Option Int × List S)) (Q : Option Int → Hp → Prop) : Prop :=
  match o with
  | .ok (b, ρ') => ∀ H' A', Good K F σ H' ρ' A' → Stp F H ρ A H' ρ' A' → Q b H'
  | .ex ρ' c fs => PoX K mg W F σ H ρ A ρ' c fs
  | .no => False
def TN (K : PySem.W.Frag) (mg : Str → Option Value) (W : WX) (f : NF) : TO := fun σ H Q => ∃ F ρ A, Good K F σ H ρ A ∧ PoN F σ K mg W H ρ A (f ρ) Q
def nNone : NF := fun ρ => .ok (none, ρ)
def nSome (f : OF) : NF := fun ρ => f ρ >>= fun p => Rs.of (look p.1 p.2) >>= fun d => match d with
  | .int i => .ok (some i, p.2)
  | _ => .no
theorem tn_none : PO X none (TN K mg W nNone) := po_imp po_none fun σ H Q ⟨F, ρ, A, gd, po⟩ => po H A gd Stp.refl
theorem tn_some (h : PE X e (TO' K mg W fa)) : PO X (some e) (TN K mg W (nSome fa)) := by
  refine po_imp (po_some h) fun σ H Q ⟨F, ρ, A, gd, po⟩ => ?_
  refine seqO gd (po := fun o => PoN F σ K mg W H ρ A o Q) (fun z => z) (fun ρ' c fs h => h) po fun h1 ρ1 v1 H1 A1 g1 s1 r1 po => ?_
  obtain ⟨d1, e1, po⟩ := seqOpt (po := fun o => PoN F σ K mg W H ρ A o Q) (fun z => z) po
  cases d1 with
  | int i => exact ⟨i, (look_ok g1 r1 e1).int, po H1 A1 g1 s1⟩
  | _ => exact po.elim
theorem seqN {F : Addr → Prop} {σ : St} {H : Hp} {ρ : List S} {A : List (Option Addr)} {fa : NF} {α : Type} {k : (Option Int × List S) → Rs α} (g : Good K F σ H ρ A) {po : Rs α → Prop} (hno : ¬ po .no) (hex : ∀ ρ' c fs, po (.ex ρ' c fs) → PoX K mg W F σ H ρ A ρ' c fs) (h : po (fa ρ >>= k)) {Q : Option Int → Hp → Prop}
    (hk : ∀ (r : Option Int) (ρ1 : List S) (H1 : Hp) (A1 : List (Option Addr)), Good K F σ H1 ρ1 A1 → Stp F H ρ A H1 ρ1 A1 → po (k (r, ρ1)) → Q r H1) : TN K mg W fa σ H Q := by
  refine ⟨F, ρ, A, g, ?_⟩
  cases e : fa ρ with
  | no => rw [e] at h; exact (hno h).elim
  | ex ρ' c fs => rw [e] at h; exact hex _ _ _ h
  | ok p =>
    obtain ⟨r, ρ1⟩ := p
    rw [e] at h
    exact fun H1 A1 g1 s1 => hk r ρ1 H1 A1 g1 s1 h
def cutD (xs : List D) (lo hi : Option Int) : List D := (xs.drop (HT.sIx xs.length 0 lo)).take (HT.sIx xs.length xs.length hi - HT.sIx xs.length 0 lo)
theorem RpL.cut {H : Hp} {vs : List V} {ds : List D} (r : RpL K H vs ds) (lo hi : Option Int) : RpL K H (cutV vs lo hi) (cutD ds lo hi) := by
  unfold cutV cutD
  rw [r.len]
  exact (r.drop _).take _
def gSl (d : D) (lo hi : Option Int) : Option S := match d with
  | .list ds => some (.ow (.list (cutD ds lo hi)))
  | .tuple ds => some (.sh (.tuple (cutD ds lo hi)))
  | _ => none
def fSl (f : OF) (l u : NF) : EF := fun ρ => f ρ >>= fun p => l p.2 >>= fun q => u q.2 >>= fun t => Rs.of (look p.1 t.2) >>= fun d => Rs.of (gSl d q.1 t.1) >>= fun r => .ok (r, t.2)
theorem cutD_whole {ds : List D} {lo hi : Option Int} (h : HT.sIx ds.length 0 lo = 0 ∧ HT.sIx ds.length ds.length hi = ds.length) : cutD ds lo hi = ds := by
  unfold cutD
  rw [h.1, h.2]
  simp
theorem ev_slice {lo hi : Option Expr} {fl fu : NF} {p2 : Pos} (ct : Ct X K mg W n) (h : PE X e (TO' K mg W fa)) (hl : PO X lo (TN K mg W fl)) (hu : PO X hi (TN K mg W fu)) : PE X (.Subscript e (.Slice lo hi none p2) pos) (TF K mg W (fSl fa fl fu)) := by
  obtain ⟨rfl, rfl, _, _, _, _⟩ := ct
  refine pe_imp (pe_slice (sl_list.or sl_tupA) h hl hu) fun σ H Q ⟨F, ρ, A, gd, po⟩ => ?_
  refine seqO gd (po := fun o => PoE X.K X.mg W F σ H ρ A o Q) poE_no (poE_exS Stp.refl) po fun h1 ρ1 v1 H1 A1 g1 s1 r1 po => ?_
  refine seqN g1 (po := fun o => PoE X.K X.mg W F σ H ρ A o Q) poE_no (poE_exS s1) po fun l ρ2 H2 A2 g2 s2 po => ?_
  refine seqN g2 (po := fun o => PoE X.K X.mg W F σ H ρ A o Q) poE_no (poE_exS (s1.trans s2)) po fun u ρ3 H3 A3 g3 s3 po => ?_
  obtain ⟨d, e1, po⟩ := seqOpt (po := fun o => PoE X.K X.mg W F σ H ρ A o Q) poE_no po
  obtain ⟨r, e2, po⟩ := seqOpt (po := fun o => PoE X.K X.mg W F σ H ρ A o Q) poE_no po
  have hd := look_ok g3 (r1.mono (s2.trans s3).vs) e1
  have s := (s1.trans s2).trans s3
  cases d with
  | list ds =>
    cases e2
    obtain ⟨p, vs, rfl, q1, q2⟩ := hd.list
    exact .inl ⟨p, vs, rfl, .of q1, fun a ha => po _ _ ((Fin.newL g3 ha (q2.cut _ _)).trans s)⟩
  | tuple ds =>
    cases e2
    obtain ⟨p, vs, rfl, q1, q0, q2⟩ := hd.tuple
    refine .inr ⟨p, vs, rfl, .of q1, fun z => ?_, fun z a ha => po _ _ ((Fin.newT g3 ha (q2.cut _ _)).trans s)⟩
    rw [q2.len] at z
    rw [cutD_whole z] at po
    exact po _ _ ⟨A3, g3, s, .tup q0 q2⟩
  | _ => cases e2

/-! ### built-ins by name -/
def fCall (g : List D → Option S) (f : HF) : EF := fun ρ => f ρ >>= fun p => Rs.of (looks p.1 p.2) >>= fun ds => Rs.of (g ds) >>= fun r => .ok (r, p.2)
theorem call_r {r : List V → Hp → VK → Prop} {g : List D → Option S} (hr : CallOk K r g) : ∀ σ H Q, TF K mg W (fCall g fH) σ H Q → tCB r (TH K mg W fH) σ H Q := by
  intro σ H Q ⟨F, ρ, A, gd, po⟩
  refine seqH gd (po := fun o => PoE K mg W F σ H ρ A o Q) poE_no (poE_exS Stp.refl) po fun hs ρ1 vs H1 A1 g1 s1 r1 po => ?_
  obtain ⟨ds, e1, po⟩ := seqOpt (po := fun o => PoE K mg W F σ H ρ A o Q) poE_no po
  obtain ⟨res, e2, po⟩ := seqOpt (po := fun o => PoE K mg W F σ H ρ A o Q) poE_no po
  exact hr F σ H1 ρ1 A1 vs ds res g1 (looks_ok g1 r1 e1) e2 Q fun v H' f => po v H' (f.trans s1)
theorem ev_callB {x : Str} {p : Pos} {id : String} {r : List V → Hp → VK → Prop} {g : List D → Option S} (ct : Ct X K mg W n) (hc : CallR X (.builtin id) r) (hr : CallOk K r g) (hg : Gl X x) (hm : mg x = none) (hv : bootBuiltins x = some (.builtin id)) (ha : PA X (e :: es) (TH K mg W fH)) (hn : x ≠ "__name__" := by decide) (hdb : (x == ("__debug__" : Str)) = false := by decide)
    (he : starEach (e :: es) X.env = (false, eval e X.env) :: starEach es X.env := by rfl) (hpl : (backTo pos (starEach es X.env)).any (·.1) = false := by rfl) : PE X (.Call (.Name x p) (e :: es) [] pos) (TF K mg W (fCall g fH)) :=
  pe_imp (pe_callB hc hg (by rw [ct.m]; exact hm) hv ha hn hdb he hpl) (call_r hr)
theorem ev_callTy {x : Str} {p : Pos} {T : String} {r : List V → Hp → VK → Prop} {g : List D → Option S} (ct : Ct X K mg W n) (hc : CallR X (.type T) r) (hr : CallOk K r g) (hg : Gl X x) (hm : mg x = none) (hv : bootBuiltins x = some (.type T)) (ha : PA X (e :: es) (TH K mg W fH)) (hn : x ≠ "__name__" := by decide) (hdb : (x == ("__debug__" : Str)) = false := by decide)
    (he : starEach (e :: es) X.env = (false, eval e X.env) :: starEach es X.env := by rfl) (hpl : (backTo pos (starEach es X.env)).any (·.1) = false := by rfl) : PE X (.Call (.Name x p) (e :: es) [] pos) (TF K mg W (fCall g fH)) :=
  pe_imp (pe_callTy hc hg (by rw [ct.m]; exact hm) hv ha hn hdb he hpl) (call_r hr)
/-- list(x), x the script -/
def fListZ (i : Nat) : EF := fun ρ => match ρ[i]? with
  | some (.fz ns) => .ok (.ow (.list (ns.map PyData.int)), ρ)
  | _ => .no
theorem ev_listZ {x : Str} {p p2 : Pos} (i : Nat) (ct : Ct X K mg W n) (hg : Gl X "list") (hm : mg "list" = none) (hN : X.N[i]? = some x := by rfl) (hv : Vis X.env.scope x := by first | exact Or.inl rfl | exact Or.inr (Or.inl rfl) | exact Or.inr (Or.inr rfl)) (hd : (x == ("__debug__" : Str)) = false := by decide)
    (hcd : (x == ("__classdict__" : Str)) = false := by decide) (he : starEach [.Name x p2] X.env = (false, eval (.Name x p2) X.env) :: starEach [] X.env := by rfl) (hpl : (backTo pos (starEach [] X.env)).any (·.1) = false := by rfl) :
    PE X (.Call (.Name "list" p) [.Name x p2] [] pos) (TF K mg W (fListZ i)) := by
  obtain ⟨rfl, rfl, _, _, _, _⟩ := ct
  refine pe_imp (pe_callTy call_list_of hg hm (by decide +kernel) (pa_cons (pe_var hN hv hd hcd) pa_nil he) (by decide) (by decide) he hpl) fun σ H Q ⟨F, ρ, A, gd, po⟩ => ?_
  unfold fListZ at po
  cases q : ρ[i]? with
  | none => rw [q] at po; exact po.elim
  | some s =>
    have k := gd.slot i s q
    rw [q] at po
    cases s with
    | fz ns =>
      obtain ⟨e, a, e1, p⟩ := k
      exact ⟨.ref a, e1, a, _, rfl, .inl ((vw_same _ _).seq p), fun l hl => po _ _ (.newL gd hl (RpL.ints ns))⟩
    | _ => exact po.elim
end

section
variable {X : Cx} {K : PySem.W.Frag}
/-! the built-ins' values -/
theorem paired1 {α β : Type} {G : α → β → Prop} {xs : List α} {d : β} (h : Paired G xs [d]) : ∃ x, xs = [x] ∧ G x d := by
  cases h with
  | cons r t => cases t; exact ⟨_, rfl, r⟩
theorem paired2 {α β : Type} {G : α → β → Prop} {xs : List α} {d e : β} (h : Paired G xs [d, e]) : ∃ x y, xs = [x, y] ∧ G x d ∧ G y e := by
  cases h with
  | cons r t => cases t with
    | cons r2 t => cases t; exact ⟨_, _, rfl, r, r2⟩
def gLen : List D → Option S
  | [.list ds] => some (.sh (.int ds.length))
  | [.tuple ds] => some (.sh (.int ds.length))
  | [.str z] => if z.length ≤ 16777216 then some (.sh (.int z.length)) else none
  | _ => none
def rLenZ (K : PySem.W.Frag) : List V → Hp → VK → Prop := fun xs H Q => (∃ p ys, xs = [.ref p] ∧ (SqL K H p ys ∨ SqT K H p ys) ∧ Q (.int ys.length) H) ∨ ∃ z, xs = [.str z] ∧ z.length ≤ sizeLine ∧ Q (.int z.length) H
theorem cr_lenZ : CallR X (.builtin "len") (rLenZ X.K) := call_len_seq.or call_len_str
theorem ok_len : CallOk K (rLenZ K) gLen := by
  intro F σ H ρ A xs ds res g hp e Q q
  have sl := sizeLine_eq
  match ds, e with
  | [.list ds], e =>
    cases e
    obtain ⟨x, rfl, h⟩ := paired1 hp
    obtain ⟨p, vs, rfl, e1, r1⟩ := h.list
    exact .inl ⟨p, vs, rfl, .inl (.of e1), by rw [r1.len]; exact q _ _ (.here g (.int _))⟩
  | [.tuple ds], e =>
    cases e
    obtain ⟨x, rfl, h⟩ := paired1 hp
    obtain ⟨p, vs, rfl, e1, _, r1⟩ := h.tuple
    exact .inl ⟨p, vs, rfl, .inr (.of e1), by rw [r1.len]; exact q _ _ (.here g (.int _))⟩
  | [.str z], e =>
    obtain ⟨x, rfl, h⟩ := paired1 hp
    have := h.str
    subst this
    simp only [gLen] at e
    split at e
    · cases e; exact .inr ⟨z, rfl, by omega, q _ _ (.here g (.int _))⟩
    · cases e
def gInt : List D → Option S
  | [.int i] => some (.sh (.int i))
  | [.bool b] => some (.sh (.int (if b then 1 else 0)))
  | _ => none
theorem ok_int : CallOk K (fun xs H Q => (∃ i, xs = [.int i] ∧ Q (.int i) H) ∨ ∃ k, xs = [.bl k] ∧ Q (.int (if k then 1 else 0)) H) gInt := by
  intro F σ H ρ A xs ds res g hp e Q q
  match ds, e with
  | [.int i], e => cases e; obtain ⟨x, rfl, h⟩ := paired1 hp; exact .inl ⟨i, by rw [h.int], q _ _ (.here g (.int _))⟩
  | [.bool i], e => cases e; obtain ⟨x, rfl, h⟩ := paired1 hp; exact .inr ⟨i, by rw [h.bool], q _ _ (.here g (.int _))⟩
def gAbs : List D → Option S
  | [.int i] => some (.sh (.int (if i < 0 then -i else i)))
  | _ => none
theorem ok_abs : CallOk K (fun xs H Q => ∃ i, xs = [.int i] ∧ Q (.int (if i < 0 then -i else i)) H) gAbs := by
  intro F σ H ρ A xs ds res g hp e Q q
  match ds, e with
  | [.int i], e => cases e; obtain ⟨x, rfl, h⟩ := paired1 hp; exact ⟨i, by rw [h.int], q _ _ (.here g (.int _))⟩
def gMax2 : List D → Option S
  | [.int i, .int j] => some (.sh (.int (if j > i then j else i)))
  | _ => none
def gMin2 : List D → Option S
  | [.int i, .int j] => some (.sh (.int (if j < i then j else i)))
  | _ => none
theorem ok_max2 : CallOk K (fun xs H Q => ∃ i j, xs = [.int i, .int j] ∧ Q (.int (if j > i then j else i)) H) gMax2 := by
  intro F σ H ρ A xs ds res g hp e Q q
  match ds, e with
  | [.int i, .int j], e => cases e; obtain ⟨x, y, rfl, h, h'⟩ := paired2 hp; exact ⟨i, j, by rw [h.int, h'.int], q _ _ (.here g (.int _))⟩
theorem ok_min2 : CallOk K (fun xs H Q => ∃ i j, xs = [.int i, .int j] ∧ Q (.int (if j < i then j else i)) H) gMin2 := by
  intro F σ H ρ A xs ds res g hp e Q q
  match ds, e with
  | [.int i, .int j], e => cases e; obtain ⟨x, y, rfl, h, h'⟩ := paired2 hp; exact ⟨i, j, by rw [h.int, h'.int], q _ _ (.here g (.int _))⟩
/-- intL out of data -/
def intL : List D → Option (List Int)
  | [] => some []
  | .int i :: r => (intL r).map (i :: ·)
  | _ :: _ => none
theorem ints_map : ∀ {ds : List D} {ns : List Int}, intL ds = some ns → ds = ns.map PyData.int
  | [], _, e => by cases e; rfl
  | .int i :: r, ns, e => by
    unfold intL at e
    cases q : intL r with
    | none => rw [q] at e; cases e
    | some ms => rw [q] at e; cases e; rw [ints_map q]; rfl
  | .none :: _, _, e => by cases e
  | .bool _ :: _, _, e => by cases e
  | .str _ :: _, _, e => by cases e
  | .list _ :: _, _, e => by cases e
  | .tuple _ :: _, _, e => by cases e
  | .dict _ :: _, _, e => by cases e
@[simp] theorem ints_of : ∀ ns : List Int, intL (ns.map PyData.int) = some ns
  | [] => rfl
  | n :: r => by simp [intL, ints_of r]
theorem rp_ints {H : Hp} : ∀ {vs : List V} {ns : List Int}, RpL K H vs (ns.map PyData.int) → vs = ns.map V.int
  | _, [], .nil => rfl
  | _, n :: r, .cons h t => by cases h; rw [rp_ints t]; rfl
def bools : List D → Option (List Bool)
  | [] => some []
  | .bool i :: r => (bools r).map (i :: ·)
  | _ :: _ => none
theorem bools_map : ∀ {ds : List D} {ns : List Bool}, bools ds = some ns → ds = ns.map PyData.bool
  | [], _, e => by cases e; rfl
  | .bool i :: r, ns, e => by
    unfold bools at e
    cases q : bools r with
    | none => rw [q] at e; cases e
    | some ms => rw [q] at e; cases e; rw [bools_map q]; rfl
  | .none :: _, _, e => by cases e
  | .int _ :: _, _, e => by cases e
  | .str _ :: _, _, e => by cases e
  | .list _ :: _, _, e => by cases e
  | .tuple _ :: _, _, e => by cases e
  | .dict _ :: _, _, e => by cases e
@[simp] theorem bools_of : ∀ ns : List Bool, bools (ns.map PyData.bool) = some ns
  | [] => rfl
  | n :: r => by simp [bools, bools_of r]
theorem rp_bools {H : Hp} : ∀ {vs : List V} {ns : List Bool}, RpL K H vs (ns.map PyData.bool) → vs = ns.map V.bl
  | _, [], .nil => rfl
  | _, n :: r, .cons h t => by cases h; rw [rp_bools t]; rfl
/-- sum of a list or tuple of intL -/
def rSumT (K : PySem.W.Frag) : List V → Hp → VK → Prop := fun vs H Q => ∃ (a : Addr) (ns : List Int), vs = [V.ref a] ∧ SqT K H a (ns.map V.int) ∧ Q (.int ns.sum) H
theorem cr_sumT (hc : X.calm = true) : CallR X (.builtin "sum") (rSumT X.K) := by
  intro pins s σ H xs us Q I r h
  obtain ⟨a, ns, rfl, hs, q⟩ := h
  have := Vals.ref1 r
  subst this
  obtain ⟨its, rv, ⟨o, ho, hcl, n, hd⟩, hlen⟩ := I.tuple hs
  have hi := Vals.ints rv
  obtain ⟨ys, e⟩ := hi.allInts.items
  have hn : numsOf (intItems ys).toList = ns := by rw [← e]; exact hi.numsOf
  rw [nums_intItems] at hn
  refine PySem.W.ktm_sumG (I.ok.hd hc) (xs := ys) ⟨o, ho, hcl, n, by rw [hd, e]⟩ fun h' tk t' hk => ?_
  refine ⟨.int ns.sum, H, I.kept hk, ⟨t', ?_⟩, q⟩
  rw [preSum_eq, List.take_of_length_le (by simp), hn]
def gSum : List D → Option S
  | [.list ds] => (intL ds).map fun ns => .sh (.int ns.sum)
  | [.tuple ds] => (intL ds).map fun ns => .sh (.int ns.sum)
  | _ => none
def rSumZ (K : PySem.W.Frag) : List V → Hp → VK → Prop := fun vs H Q => rSum K vs H Q ∨ rSumT K vs H Q
theorem cr_sumZ (hc : X.calm = true) : CallR X (.builtin "sum") (rSumZ X.K) := (cr_sum hc).or (cr_sumT hc)
theorem ok_sum : CallOk K (rSumZ K) gSum := by
  intro F σ H ρ A xs ds res g hp e Q q
  match ds, e with
  | [.list ds], e =>
    simp only [gSum] at e
    cases h : intL ds with
    | none => rw [h] at e; cases e
    | some ns =>
      rw [h] at e; cases e
      have := ints_map h
      subst this
      obtain ⟨x, rfl, h⟩ := paired1 hp
      obtain ⟨p, vs, rfl, e1, r1⟩ := h.list
      have := rp_ints r1
      subst this
      exact .inl ⟨p, ns, rfl, .of e1, q _ _ (.here g (.int _))⟩
  | [.tuple ds], e =>
    simp only [gSum] at e
    cases h : intL ds with
    | none => rw [h] at e; cases e
    | some ns =>
      rw [h] at e; cases e
      have := ints_map h
      subst this
      obtain ⟨x, rfl, h⟩ := paired1 hp
      obtain ⟨p, vs, rfl, e1, _, r1⟩ := h.tuple
      have := rp_ints r1
      subst this
      exact .inr ⟨p, ns, rfl, .of e1, q _ _ (.here g (.int _))⟩
def gAll : List D → Option S
  | [.list ds] => (bools ds).map fun ns => .sh (.bool (ns.all id))
  | _ => none
def gAny : List D → Option S
  | [.list ds] => (bools ds).map fun ns => .sh (.bool (ns.any id))
  | _ => none
theorem ok_all : CallOk K (rAll K) gAll := by
  intro F σ H ρ A xs ds res g hp e Q q
  match ds, e with
  | [.list ds], e =>
    simp only [gAll] at e
    cases h : bools ds with
    | none => rw [h] at e; cases e
    | some ns =>
      rw [h] at e; cases e
      have := bools_map h
      subst this
      obtain ⟨x, rfl, h⟩ := paired1 hp
      obtain ⟨p, vs, rfl, e1, r1⟩ := h.list
      have := rp_bools r1
      subst this
      exact ⟨p, ns, rfl, .of e1, q _ _ (.here g (.bl _))⟩
theorem ok_any : CallOk K (rAny K) gAny := by
  intro F σ H ρ A xs ds res g hp e Q q
  match ds, e with
  | [.list ds], e =>
    simp only [gAny] at e
    cases h : bools ds with
    | none => rw [h] at e; cases e
    | some ns =>
      rw [h] at e; cases e
      have := bools_map h
      subst this
      obtain ⟨x, rfl, h⟩ := paired1 hp
      obtain ⟨p, vs, rfl, e1, r1⟩ := h.list
      have := rp_bools r1
      subst this
      exact ⟨p, ns, rfl, .of e1, q _ _ (.here g (.bl _))⟩
/-- the greatest, the least of a list of intL -/
def imax : List Int → Option Int
  | [] => none
  | n :: r => some (r.foldl (fun m x => if x > m then x else m) n)
def imin : List Int → Option Int
  | [] => none
  | n :: r => some (r.foldl (fun m x => if x < m then x else m) n)
theorem foldmax (r : List Int) : ∀ n : Int, (r.foldl (fun m x => if x > m then x else m) n = n ∨ r.foldl (fun m x => if x > m then x else m) n ∈ r) ∧ n ≤ r.foldl (fun m x => if x > m then x else m) n ∧ ∀ y ∈ r, y ≤ r.foldl (fun m x => if x > m then x else m) n := by
  induction r with
  | nil => intro n; exact ⟨.inl rfl, Int.le_refl _, fun y h => nomatch h⟩
  | cons a r ih =>
    intro n
    rw [List.foldl_cons]
    obtain ⟨h1, h2, h3⟩ := ih (if a > n then a else n)
    refine ⟨?_, ?_, fun y hy => ?_⟩
    · rcases h1 with h1 | h1
      · rw [h1]; split
        · exact .inr List.mem_cons_self
        · exact .inl rfl
      · exact .inr (List.mem_cons_of_mem _ h1)
    · refine Int.le_trans ?_ h2; split <;> omega
    · rcases List.mem_cons.mp hy with rfl | hy
      · refine Int.le_trans ?_ h2; split <;> omega
      · exact h3 y hy
theorem foldmin (r : List Int) : ∀ n : Int, (r.foldl (fun m x => if x < m then x else m) n = n ∨ r.foldl (fun m x => if x < m then x else m) n ∈ r) ∧ r.foldl (fun m x => if x < m then x else m) n ≤ n ∧ ∀ y ∈ r, r.foldl (fun m x => if x < m then x else m) n ≤ y := by
  induction r with
  | nil => intro n; exact ⟨.inl rfl, Int.le_refl _, fun y h => nomatch h⟩
  | cons a r ih =>
    intro n
    rw [List.foldl_cons]
    obtain ⟨h1, h2, h3⟩ := ih (if a < n then a else n)
    refine ⟨?_, ?_, fun y hy => ?_⟩
    · rcases h1 with h1 | h1
      · rw [h1]; split
        · exact .inr List.mem_cons_self
        · exact .inl rfl
      · exact .inr (List.mem_cons_of_mem _ h1)
    · refine Int.le_trans h2 ?_; split <;> omega
    · rcases List.mem_cons.mp hy with rfl | hy
      · refine Int.le_trans h2 ?_; split <;> omega
      · exact h3 y hy
theorem imax_is {ns : List Int} {m k : Int} (e : imax ns = some k) (h1 : m ∈ ns) (h2 : ∀ y ∈ ns, y ≤ m) : m = k := by
  cases ns with
  | nil => cases e
  | cons n r =>
    cases e
    obtain ⟨a, b, c⟩ := foldmax r n
    have h3 : r.foldl (fun m x => if x > m then x else m) n ≤ m := by
      rcases a with a | a
      · rw [a]; exact h2 n List.mem_cons_self
      · exact h2 _ (List.mem_cons_of_mem _ a)
    have h4 : m ≤ r.foldl (fun m x => if x > m then x else m) n := by
      rcases List.mem_cons.mp h1 with rfl | h1
      · exact b
      · exact c m h1
    omega
theorem imin_is {ns : List Int} {m k : Int} (e : imin ns = some k) (h1 : m ∈ ns) (h2 : ∀ y ∈ ns, m ≤ y) : m = k := by
  cases ns with
  | nil => cases e
  | cons n r =>
    cases e
    obtain ⟨a, b, c⟩ := foldmin r n
    have h3 : m ≤ r.foldl (fun m x => if x < m then x else m) n := by
      rcases a with a | a
      · rw [a]; exact h2 n List.mem_cons_self
      · exact h2 _ (List.mem_cons_of_mem _ a)
    have h4 : r.foldl (fun m x => if x < m then x else m) n ≤ m := by
      rcases List.mem_cons.mp h1 with rfl | h1
      · exact b
      · exact c m h1
    omega
def gMax1 : List D → Option S
  | [.list ds] => (intL ds).bind fun ns => (imax ns).map fun m => .sh (.int m)
  | _ => none
def gMin1 : List D → Option S
  | [.list ds] => (intL ds).bind fun ns => (imin ns).map fun m => .sh (.int m)
  | _ => none
theorem ok_max1 : CallOk K (rMax K) gMax1 := by
  intro F σ H ρ A xs ds res g hp e Q q
  match ds, e with
  | [.list ds], e =>
    simp only [gMax1] at e
    cases h : intL ds with
    | none => rw [h] at e; cases e
    | some ns =>
      rw [h] at e
      cases h2 : imax ns with
      | none => simp [h2] at e
      | some k =>
        simp only [h2, Option.bind_some, Option.map_some, Option.some.injEq] at e
        subst e
        have := ints_map h
        subst this
        obtain ⟨x, rfl, h⟩ := paired1 hp
        obtain ⟨p, vs, rfl, e1, r1⟩ := h.list
        have := rp_ints r1
        subst this
        refine ⟨p, ns, rfl, .of e1, ?_, fun m h3 h4 => ?_⟩
        · cases ns with
          | nil => cases h2
          | cons => simp
        · rw [imax_is h2 h3 h4]; exact q _ _ (.here g (.int _))
theorem ok_min1 : CallOk K (rMin K) gMin1 := by
  intro F σ H ρ A xs ds res g hp e Q q
  match ds, e with
  | [.list ds], e =>
    simp only [gMin1] at e
    cases h : intL ds with
    | none => rw [h] at e; cases e
    | some ns =>
      rw [h] at e
      cases h2 : imin ns with
      | none => simp [h2] at e
      | some k =>
        simp only [h2, Option.bind_some, Option.map_some, Option.some.injEq] at e
        subst e
        have := ints_map h
        subst this
        obtain ⟨x, rfl, h⟩ := paired1 hp
        obtain ⟨p, vs, rfl, e1, r1⟩ := h.list
        have := rp_ints r1
        subst this
        refine ⟨p, ns, rfl, .of e1, ?_, fun m h3 h4 => ?_⟩
        · cases ns with
          | nil => cases h2
          | cons => simp
        · rw [imin_is h2 h3 h4]; exact q _ _ (.here g (.int _))
def gTuple : List D → Option S
  | [.list ds] => some (.sh (.tuple ds))
  | [.tuple ds] => some (.sh (.tuple ds))
  | _ => none
theorem ok_tuple : CallOk K (fun xs H Q => ∃ p ys, xs = [.ref p] ∧ ((SqL K H p ys ∧ ∀ l, H l = none → Q (.ref l) (upd H l (.tup ys))) ∨ (SqT K H p ys ∧ Q (.ref p) H))) gTuple := by
  intro F σ H ρ A xs ds res g hp e Q q
  match ds, e with
  | [.list ds], e =>
    cases e
    obtain ⟨x, rfl, h⟩ := paired1 hp
    obtain ⟨p, vs, rfl, e1, r1⟩ := h.list
    exact ⟨p, vs, rfl, .inl ⟨.of e1, fun l hl => q _ _ (.newT g hl r1)⟩⟩
  | [.tuple ds], e =>
    cases e
    obtain ⟨x, rfl, h⟩ := paired1 hp
    obtain ⟨p, vs, rfl, e1, e0, r1⟩ := h.tuple
    exact ⟨p, vs, rfl, .inr ⟨.of e1, q _ _ (.here g (.tup e0 r1))⟩⟩
def gList : List D → Option S
  | [.list ds] => some (.ow (.list ds))
  | [.tuple ds] => some (.ow (.list ds))
  | _ => none
theorem ok_list : CallOk K (fun xs H Q => ∃ p ys, xs = [.ref p] ∧ (SqL K H p ys ∨ SqT K H p ys) ∧ ∀ l, H l = none → Q (.ref l) (upd H l (.lst ys))) gList := by
  intro F σ H ρ A xs ds res g hp e Q q
  match ds, e with
  | [.list ds], e =>
    cases e
    obtain ⟨x, rfl, h⟩ := paired1 hp
    obtain ⟨p, vs, rfl, e1, r1⟩ := h.list
    exact ⟨p, vs, rfl, .inl (.of e1), fun l hl => q _ _ (.newL g hl r1)⟩
  | [.tuple ds], e =>
    cases e
    obtain ⟨x, rfl, h⟩ := paired1 hp
    obtain ⟨p, vs, rfl, e1, e0, r1⟩ := h.tuple
    exact ⟨p, vs, rfl, .inr (.of e1), fun l hl => q _ _ (.newL g hl r1)⟩
def gStr : List D → Option S
  | [.int i] => if i.natAbs.log2 < 1920 then some (.sh (.str (toString i))) else none
  | _ => none
theorem ok_str : CallOk K (fun xs H Q => ∃ i : Int, xs = [.int i] ∧ i.natAbs.log2 < 1920 ∧ Q (.str (toString i)) H) gStr := by
  intro F σ H ρ A xs ds res g hp e Q q
  match ds, e with
  | [.int i], e =>
    simp only [gStr] at e
    split at e
    · cases e; obtain ⟨x, rfl, h⟩ := paired1 hp; exact ⟨i, by rw [h.int], by assumption, q _ _ (.here g (.str _))⟩
    · cases e
end

/-! ### isinstance(x, T), T one of int, bool, str, list, tuple -/
def isTy (T : String) : D → Bool
  | .none => false
  | .bool _ => T == "int" || T == "bool"
  | .int _ => T == "int"
  | .str _ => T == "str"
  | .list _ => T == "list"
  | .tuple _ => T == "tuple"
  | .dict _ => T == "dict"
def tyN : D → String
  | .none => "NoneType"
  | .bool _ => "bool"
  | .int _ => "int"
  | .str _ => "str"
  | .list _ => "list"
  | .tuple _ => "tuple"
  | .dict _ => "dict"
def kinds : List String := ["int", "bool", "str", "list", "tuple"]
def tyTab (n T : String) : Bool := match n with
  | "NoneType" => false
  | "bool" => T == "int" || T == "bool"
  | n => n == T
theorem kit_tab : (["NoneType", "bool", "int", "str", "list", "tuple"].all fun n => kinds.all fun T => kitB n T == some (tyTab n T)) = true := by decide +kernel
theorem kit_at {n T : String} (hn : n ∈ ["NoneType", "bool", "int", "str", "list", "tuple"]) (hT : T ∈ kinds) : kitB n T = some (tyTab n T) := by
  have h := List.all_eq_true.mp kit_tab n hn
  exact beq_iff_eq.mp (List.all_eq_true.mp h T hT)
theorem isTy_tab {T : String} {d : D} (h : d.plain = true) : tyTab (tyN d) T = isTy T d := by
  cases d with
  | none => rfl
  | bool b => rfl
  | int b => show ("int" == T) = (T == "int"); exact Bool.beq_comm
  | str b => show ("str" == T) = (T == "str"); exact Bool.beq_comm
  | list b => show ("list" == T) = (T == "list"); exact Bool.beq_comm
  | tuple b => show ("tuple" == T) = (T == "tuple"); exact Bool.beq_comm
  | dict b => cases h
section
variable {X : Cx} {K : PySem.W.Frag} {mg : Str → Option Value} {W : WX} {n : Nat} {pos : Pos} {e : Expr} {fa : OF}
theorem pk_ty {F : Addr → Prop} {H : Hp} {A : List (Option Addr)} {v : V} {d : D} (h : Pk K H (vw H (hid F A)) v d) : TyX K H v (.type (tyN d)) ∧ tyN d ∈ ["NoneType", "bool", "int", "str", "list", "tuple"] := by
  cases d with
  | none => have := h.none; subst this; exact ⟨.base .non, by simp [tyN]⟩
  | bool b => have := h.bool; subst this; exact ⟨.base (.bl b), by simp [tyN]⟩
  | int b => have := h.int; subst this; exact ⟨.base (.int b), by simp [tyN]⟩
  | str b => have := h.str; subst this; exact ⟨.base (.str b), by simp [tyN]⟩
  | list ds => obtain ⟨p, vs, rfl, e1, _⟩ := h.list; exact ⟨.base (.lst e1), by simp [tyN]⟩
  | tuple ds => obtain ⟨p, vs, rfl, e1, _⟩ := h.tuple; exact ⟨.base (.tup e1), by simp [tyN]⟩
  | dict ds => have := h.plain; cases this
def fIsi (T : String) (f : OF) : EF := fun ρ => f ρ >>= fun p => Rs.of (look p.1 p.2) >>= fun d => .ok (.sh (.bool (isTy T d)), p.2)
theorem ev_isi {T : String} {x : Str} {p p2 : Pos} (ct : Ct X K mg W n) (hT : T ∈ kinds) (hg : Gl X "isinstance") (hm : mg "isinstance" = none) (hg2 : Gl X x) (hm2 : mg x = none) (hv2 : bootBuiltins x = some (.type T)) (h : PE X e (TO' K mg W fa)) (hn : x ≠ "__name__" := by decide) (hdb : (x == ("__debug__" : Str)) = false := by decide)
    (he : starEach [e, .Name x p2] X.env = (false, eval e X.env) :: starEach [.Name x p2] X.env := by rfl) (he2 : starEach [.Name x p2] X.env = (false, eval (.Name x p2) X.env) :: starEach [] X.env := by rfl) (hpl : (backTo pos (starEach [.Name x p2] X.env)).any (·.1) = false := by rfl) :
    PE X (.Call (.Name "isinstance" p) [e, .Name x p2] [] pos) (TF K mg W (fIsi T fa)) := by
  obtain ⟨rfl, rfl, _, _, _, _⟩ := ct
  refine pe_imp (pe_callB call_isi hg hm (by decide +kernel) (pa_cons h (pa_cons (pe_bltn (v := .ty T) hg2 hm2 hv2 rfl hn hdb) pa_nil he2) he) (by decide) (by decide) he hpl) fun σ H Q ⟨F, ρ, A, gd, po⟩ => ?_
  refine seqO gd (po := fun o => PoE X.K X.mg W F σ H ρ A o Q) poE_no (poE_exS Stp.refl) po fun h1 ρ1 v1 H1 A1 g1 s1 r1 po => ?_
  obtain ⟨d1, e1, po⟩ := seqOpt (po := fun o => PoE X.K X.mg W F σ H ρ A o Q) poE_no po
  have pk := look_ok g1 r1 e1
  obtain ⟨t1, t2⟩ := pk_ty pk
  exact ⟨v1, .ty T, .type (tyN d1), .type T, isTy T d1, rfl, .ty T, t1, kit_ty (by rw [kit_at t2 hT, isTy_tab pk.plain]), po _ H1 ⟨A1, g1, s1, .bl _⟩⟩
end
end Z
end
section
namespace Z
open PySem PySem.Spec L2

/-! ### stores -/
def setS (i : Nat) (s : S) (ρ : List S) : Option (List S) := match ρ[i]? with
  | some (.cu _ _) => none
  | some _ => some (ρ.set i s)
  | none => none
section
variable {K : PySem.W.Frag} {F : Addr → Prop} {σ : St} {H H' : Hp} {ρ ρ' : List S} {A A' : List (Option Addr)}
theorem setS_some {i : Nat} {s : S} (e : setS i s ρ = some ρ') : i < ρ.length ∧ ρ' = ρ.set i s ∧ ∀ x y, ρ[i]? ≠ some (S.cu x y) := by
  unfold setS at e
  cases q : ρ[i]? with
  | none => rw [q] at e; cases e
  | some t =>
    rw [q] at e
    refine ⟨lt_of_ix q, ?_⟩
    cases t with
    | cu x y => cases e
    | _ => cases e; exact ⟨rfl, fun x y z => by cases z⟩
/-- the owner of the slot is forgotten, the view grows -/
theorem view_setNone {i : Nat} : Same (vw H (hid F A)) (vw H (hid F (A.set i none))) := vw_mono (fun b z => z.elim .inl fun q => .inr (mem_set_none q)) fun _ _ _ q => q
theorem Good.put {i : Nat} {v : V} {d : D} (g : Good K F σ H ρ A) (hi : i < ρ.length) (r : Rp K (vw H (hid F A)) v d) : Good K F (σ.set i (some v)) H (ρ.set i (.sh d)) (A.set i none) := by
  have hA : i < A.length := by rw [g.l2]; exact hi
  have hσ : i < σ.length := by rw [g.l1]; exact hi
  refine ⟨by simp [g.l1], by simp [g.l2], fun j k b e1 e2 => ?_, fun j b e => ?_, g.trk, fun j s e => ?_⟩
  · by_cases hj : i = j
    · subst hj; rw [List.getElem?_set_self hA] at e1; cases e1
    · rw [List.getElem?_set_ne hj] at e1
      by_cases hk : i = k
      · subst hk; rw [List.getElem?_set_self hA] at e2; cases e2
      · rw [List.getElem?_set_ne hk] at e2
        exact g.inj j k b e1 e2
  · by_cases hj : i = j
    · subst hj; rw [List.getElem?_set_self hA] at e; cases e
    · rw [List.getElem?_set_ne hj] at e
      exact g.dis j b e
  · by_cases hj : i = j
    · subst hj
      rw [List.getElem?_set_self hi] at e; cases e
      rw [List.getElem?_set_self hA, List.getElem?_set_self hσ]
      exact ⟨rfl, v, rfl, r.mono view_setNone⟩
    · rw [List.getElem?_set_ne hj] at e
      rw [List.getElem?_set_ne hj, List.getElem?_set_ne hj]
      exact (g.slot j s e).mono (fun _ _ => rfl) view_setNone
theorem Stp.put {i : Nat} {s : S} {oa : Option Addr} (hc : ∀ x y, ρ[i]? ≠ some (S.cu x y)) (hv : Same (vw H (hid F A)) (vw H (hid F (A.set i oa)))) : Stp F H ρ A H (ρ.set i s) (A.set i oa) :=
  ⟨fun _ _ => rfl, hv, fun j x y e => by
    have hj : i ≠ j := fun z => by subst z; exact hc x y e
    rw [List.getElem?_set_ne hj, List.getElem?_set_ne hj]
    exact ⟨rfl, x, y, e⟩⟩
/-- one's own, stored -/
theorem Good.putO {i : Nat} {a : Addr} {d : D} (g : Good K (adj F a) σ H ρ A) (na : ¬ F a) (hi : i < ρ.length) (o : Ow K H (vw H (hid (adj F a) A)) a d) : Good K F (σ.set i (some (.ref a))) H (ρ.set i (.ow d)) (A.set i (some a)) := by
  have hA : i < A.length := by rw [g.l2]; exact hi
  have hσ : i < σ.length := by rw [g.l1]; exact hi
  have hv : Same (vw H (hid (adj F a) A)) (vw H (hid F (A.set i (some a)))) := vw_mono (fun b z => by
    rcases z with z | z
    · exact .inl (.inl z)
    · rcases List.mem_or_eq_of_mem_set z with q | q
      · exact .inr q
      · cases q; exact .inl (.inr rfl)) fun _ _ _ q => q
  have nA : ∀ j b, A[j]? = some (some b) → b ≠ a := fun j b e z => g.dis j b e (.inr z)
  refine ⟨by simp [g.l1], by simp [g.l2], fun j k b e1 e2 => ?_, fun j b e => ?_, fun b hb => g.trk b (.inl hb), fun j s e => ?_⟩
  · by_cases hj : i = j
    · subst hj; rw [List.getElem?_set_self hA] at e1; cases e1
      by_cases hk : i = k
      · exact hk
      · rw [List.getElem?_set_ne hk] at e2
        exact absurd rfl (nA k _ e2)
    · rw [List.getElem?_set_ne hj] at e1
      by_cases hk : i = k
      · subst hk; rw [List.getElem?_set_self hA] at e2; cases e2
        exact absurd rfl (nA j _ e1)
      · rw [List.getElem?_set_ne hk] at e2
        exact g.inj j k b e1 e2
  · by_cases hj : i = j
    · subst hj; rw [List.getElem?_set_self hA] at e; cases e; exact na
    · rw [List.getElem?_set_ne hj] at e
      exact fun z => g.dis j b e (.inl z)
  · by_cases hj : i = j
    · subst hj
      rw [List.getElem?_set_self hi] at e; cases e
      rw [List.getElem?_set_self hA, List.getElem?_set_self hσ]
      exact ⟨a, rfl, rfl, o.mono rfl hv⟩
    · rw [List.getElem?_set_ne hj] at e
      rw [List.getElem?_set_ne hj, List.getElem?_set_ne hj]
      exact (g.slot j s e).mono (fun _ _ => rfl) hv
theorem view_putO {i : Nat} {a : Addr} : Same (vw H (hid (adj F a) A)) (vw H (hid F (A.set i (some a)))) := vw_mono (fun b z => by
    rcases z with z | z
    · exact .inl (.inl z)
    · rcases List.mem_or_eq_of_mem_set z with q | q
      · exact .inr q
      · cases q; exact .inl (.inr rfl)) fun _ _ _ q => q
/-- one's own object written: its new contents d' -/
theorem Good.write {i : Nat} {a : Addr} {d' : D} {o : HO} (g : Good K F σ H ρ A) (ha : A[i]? = some (some a)) (hσ : σ[i]? = some (some (.ref a))) (h : Ow K (upd H a o) (vw H (hid F A)) a d') : Good K F σ (upd H a o) (ρ.set i (.ow d')) A := by
  have hA : i < A.length := lt_of_ix ha
  have hi : i < ρ.length := by rw [← g.l2]; exact hA
  have hv : Same (vw H (hid F A)) (vw (upd H a o) (hid F A)) := vw_mono (fun _ z => z) fun b u n e => by
    rw [upd_ne (fun z => n (by rw [z]; exact .inr (mem_of_ix ha)))]; exact e
  refine ⟨by simp [g.l1], by simp [g.l2], g.inj, g.dis, fun b hb => ?_, fun j s e => ?_⟩
  · rw [upd_ne (fun z => g.dis i a ha (by rw [← z]; exact hb))]; exact g.trk b hb
  · by_cases hj : i = j
    · subst hj
      rw [List.getElem?_set_self hi] at e; cases e
      exact ⟨a, ha, hσ, h.mono rfl hv⟩
    · rw [List.getElem?_set_ne hj] at e
      refine (g.slot j s e).mono (fun b hb => ?_) hv
      rw [upd_ne (fun z => hj (g.inj i j a ha (by rw [← z]; exact hb)))]
theorem Stp.write {i : Nat} {a : Addr} {s : S} {o : HO} (g : Good K F σ H ρ A) (ha : A[i]? = some (some a)) (hc : ∀ x y, ρ[i]? = some (S.cu x y) → ∃ x' y', s = .cu x' y') : Stp F H ρ A (upd H a o) (ρ.set i s) A := by
  refine ⟨fun b hb => upd_ne (fun z => g.dis i a ha (by rw [← z]; exact hb)), vw_mono (fun _ z => z) fun b u n e => by
    rw [upd_ne (fun z => n (by rw [z]; exact .inr (mem_of_ix ha)))]; exact e, fun j x y e => ⟨rfl, ?_⟩⟩
  by_cases hj : i = j
  · subst hj
    rw [List.getElem?_set_self (lt_of_ix e)]
    obtain ⟨x', y', rfl⟩ := hc x y e
    exact ⟨x', y', rfl⟩
  · rw [List.getElem?_set_ne hj]
    exact ⟨x, y, e⟩
/-- the two numbers written -/
theorem Good.writeC {i : Nat} {a : Addr} {x y : Int} (g : Good K F σ H ρ A) (ha : A[i]? = some (some a)) (hσ : σ[i]? = some (some (.ref a))) : Good K F σ (upd H a (.lst [.int x, .int y])) (ρ.set i (.cu x y)) A := by
  have hA : i < A.length := lt_of_ix ha
  have hi : i < ρ.length := by rw [← g.l2]; exact hA
  have hv : Same (vw H (hid F A)) (vw (upd H a (.lst [.int x, .int y])) (hid F A)) := vw_mono (fun _ z => z) fun b u n e => by
    rw [upd_ne (fun z => n (by rw [z]; exact .inr (mem_of_ix ha)))]; exact e
  refine ⟨by simp [g.l1], by simp [g.l2], g.inj, g.dis, fun b hb => ?_, fun j s e => ?_⟩
  · rw [upd_ne (fun z => g.dis i a ha (by rw [← z]; exact hb))]; exact g.trk b hb
  · by_cases hj : i = j
    · subst hj
      rw [List.getElem?_set_self hi] at e; cases e
      exact ⟨a, ha, hσ, upd_same⟩
    · rw [List.getElem?_set_ne hj] at e
      refine (g.slot j s e).mono (fun b hb => ?_) hv
      rw [upd_ne (fun z => hj (g.inj i j a ha (by rw [← z]; exact hb)))]
end

/-! ### targets -/
abbrev GF := D → List S → Option (List S)
section
variable (K : PySem.W.Frag)
/-- is: the slots that it stores to -/
def TGt (is : List Nat) (g : GF) : TG := fun v σ H Q => ∃ F ρ A d ρ', Good K F σ H ρ A ∧ Rp K (vw H (hid F A)) v d ∧ g d ρ = some ρ' ∧ ∀ σ' A', Good K F σ' H ρ' A' → Stp F H ρ A H ρ' A' → σ'.length = σ.length → (∀ j, j ∉ is → σ'[j]? = σ[j]?) → Q σ' H
def TGs' (is : List Nat) (g : List D → List S → Option (List S)) : TGs := fun vs σ H Q => ∃ F ρ A ds ρ', Good K F σ H ρ A ∧ RpL K (vw H (hid F A)) vs ds ∧ g ds ρ = some ρ' ∧ ∀ σ' A', Good K F σ' H ρ' A' → Stp F H ρ A H ρ' A' → σ'.length = σ.length → (∀ j, j ∉ is → σ'[j]? = σ[j]?) → Q σ' H
end
def gNm (i : Nat) : GF := fun d ρ => setS i (.sh d) ρ
def gsNil : List D → List S → Option (List S) := fun ds ρ => match ds with
  | [] => some ρ
  | _ => none
def gsCons (g : GF) (gs : List D → List S → Option (List S)) : List D → List S → Option (List S) := fun ds ρ => match ds with
  | d :: r => (g d ρ).bind (gs r)
  | [] => none
def gTupT (n : Nat) (gs : List D → List S → Option (List S)) : GF := fun d ρ => match d with
  | .tuple ds => if ds.length = n then gs ds ρ else none
  | .list ds => if ds.length = n then gs ds ρ else none
  | _ => none
section
variable {X : Cx} {K : PySem.W.Frag} {mg : Str → Option Value} {W : WX} {n : Nat} {pos : Pos}
theorem pg_imp {e : Expr} {t t' : TG} (h : PG X e t) (m : ∀ v σ H Q, t' v σ H Q → t v σ H Q) : PG X e t' := ⟨fun p s σ H v u Q I r q => h.run p s σ H v u Q I r (m _ _ _ _ q)⟩
theorem pgs_imp {e : List Expr} {t t' : TGs} (h : PGs X e t) (m : ∀ v σ H Q, t' v σ H Q → t v σ H Q) : PGs X e t' := ⟨fun p s σ H v u Q I r q => h.run p s σ H v u Q I r (m _ _ _ _ q)⟩
theorem pg_or {e : Expr} {t t' : TG} (h : PG X e t) (h' : PG X e t') : PG X e (fun v σ H Q => t v σ H Q ∨ t' v σ H Q) := ⟨fun p s σ H v u Q I r q => q.elim (h.run p s σ H v u Q I r) (h'.run p s σ H v u Q I r)⟩
theorem gt_name {i : Nat} {x : Str} (hN : X.N.Nodup) (hi : X.N[i]? = some x := by rfl) (hx : Loc X.env.scope x := by first | exact Or.inl rfl | exact Or.inr rfl) (hf : X.fn x = true ∨ X.env.scope.names.lookup x = some .local := by first | exact .inl rfl | exact .inr rfl) : PG X (.Name x pos) (TGt K [i] (gNm i)) := by
  refine pg_imp (pg_name hN hi hx hf) fun v σ H Q ⟨F, ρ, A, d, ρ', g, r, e, q⟩ => ?_
  obtain ⟨h1, rfl, h2⟩ := setS_some e
  refine q _ _ (g.put h1 r) (Stp.put h2 view_setNone) (by simp) fun j hj => List.getElem?_set_ne (fun z => hj (by simp [z]))
theorem gts_nil : PGs X [] (TGs' K [] gsNil) := by
  refine pgs_imp pgs_nil fun v σ H Q ⟨F, ρ, A, ds, ρ', g, r, e, q⟩ => ?_
  cases ds with
  | nil => cases r; cases e; exact ⟨rfl, q σ A g Stp.refl rfl fun _ _ => rfl⟩
  | cons => cases e
theorem gts_cons {is js : List Nat} {e : Expr} {es : List Expr} {t : GF} {u : List D → List S → Option (List S)} (h1 : PG X e (TGt K is t)) (h2 : PGs X es (TGs' K js u)) (hs : (assignEach (e :: es) X.env).map (·.2) = assign e X.env :: (assignEach es X.env).map (·.2) := by rfl) : PGs X (e :: es) (TGs' K (is ++ js) (gsCons t u)) := by
  refine pgs_imp (pgs_cons h1 h2 hs) fun v σ H Q ⟨F, ρ, A, ds, ρ', g, r, e, q⟩ => ?_
  cases ds with
  | nil => cases e
  | cons d ds =>
    cases r with
    | @cons v vs _ _ r1 r2 =>
      have e' : (t d ρ).bind (u ds) = some ρ' := e
      cases h : t d ρ with
      | none => rw [h] at e'; cases e'
      | some ρ1 =>
        rw [h] at e'
        exact ⟨v, vs, rfl, F, ρ, A, d, ρ1, g, r1, h, fun σ1 A1 g1 s1 l1 k1 => ⟨F, ρ1, A1, ds, ρ', g1, r2.mono s1.vs, e', fun σ2 A2 g2 s2 l2 k2 => q σ2 A2 g2 (s1.trans s2) (l2.trans l1) fun j hj => (k2 j fun z => hj (List.mem_append_right _ z)).trans (k1 j fun z => hj (List.mem_append_left _ z))⟩⟩
theorem gt_tup {is : List Nat} {es : List Expr} {k : Nat} {gs : List D → List S → Option (List S)} {m : Nat} (ct : Ct X K mg W n) (h : PGs X es (TGs' K is gs))
    (hn : (assignEach es X.env).length = m := by rfl) (hst : (assignEach es X.env).findIdx? (·.1) = none := by rfl) : PG X (.Tuple es k pos) (TGt K is (gTupT m gs)) := by
  obtain ⟨rfl, rfl, _, hc, _, _⟩ := ct
  refine pg_imp (pg_or (pg_tup hc h hn hst) (pg_lst hc h hn hst)) fun v σ H Q ⟨F, ρ, A, d, ρ', g, r, e, q⟩ => ?_
  cases d with
  | tuple ds =>
    simp only [gTupT] at e
    split at e
    · rename_i hl
      cases r with
      | @tup a xs _ e1 r1 => exact .inl ⟨a, xs, rfl, .of (vw_some e1).2, by rw [r1.len]; exact hl, F, ρ, A, ds, ρ', g, r1, e, q⟩
    · cases e
  | list ds =>
    simp only [gTupT] at e
    split at e
    · rename_i hl
      cases r with
      | @lst a xs _ e1 r1 => exact .inr ⟨a, xs, rfl, .of (vw_some e1).2, by rw [r1.len]; exact hl, F, ρ, A, ds, ρ', g, r1, e, q⟩
    · cases e
  | _ => cases e

/-! ### statements -/
variable {e c : Expr} {es : List Expr} {f : EF} {fO : OF} {fB : BF} {fA : AF} {st : Stmt} {sts : List Stmt} {g u : SF}
theorem PoS.of {F : Addr → Prop} {H H1 : Hp} {ρ ρ1 : List S} {A A1 : List (Option Addr)} {σ : St} {o : Rs (Out × List S)} {D' : Ends} (s : Stp F H ρ A H1 ρ1 A1) (h : PoS K mg W F σ H ρ A o D') (σ1 : St) : PoS K mg W F σ1 H1 ρ1 A1 o D' := by
  cases o with
  | no => exact h
  | ex ρ' c fs => exact fun σ' C d H' A' g' s' e' => h σ' C d H' A' g' (s.trans s') e'
  | ok p =>
    obtain ⟨o, ρ2⟩ := p
    cases o with
    | nx => exact fun σ' H' A' g' s' => h σ' H' A' g' (s.trans s')
    | bk => exact fun σ' H' A' g' s' => h σ' H' A' g' (s.trans s')
    | ct => exact fun σ' H' A' g' s' => h σ' H' A' g' (s.trans s')
    | rt r => exact fun σ' v H' f => h σ' v H' (f.trans s)
theorem poS_no {F σ H ρ A} {D' : Ends} : ¬ PoS K mg W F σ H ρ A .no D' := fun z => z
theorem poS_exS {F : Addr → Prop} {H H1 : Hp} {ρ ρ1 : List S} {A A1 : List (Option Addr)} {σ : St} {D' : Ends} (s : Stp F H ρ A H1 ρ1 A1) (ρ' : List S) (c : Str) (fs : List (Str × D)) (h : PoS K mg W F σ H ρ A (.ex ρ' c fs) D') : PoX K mg W F σ H1 ρ1 A1 ρ' c fs :=
  fun C d H' A' g' s' e' => h σ C d H' A' g' (s.trans s') e'
def sNx : SF := fun ρ => .ok (.nx, ρ)
def sSeq (g u : SF) : SF := fun ρ => g ρ >>= fun p => match p.1 with
  | .nx => u p.2
  | o => .ok (o, p.2)
theorem st_nil : PSs X [] (TSt K mg W sNx) := pss_imp pss_nil fun D' σ H ⟨F, ρ, A, gd, po⟩ => po σ H A gd Stp.refl
theorem st_pass : PS X (.Pass pos) (TSt K mg W sNx) := ps_imp ps_pass fun D' σ H ⟨F, ρ, A, gd, po⟩ => po σ H A gd Stp.refl
theorem st_break : PS X (.Break pos) (TSt K mg W fun ρ => .ok (.bk, ρ)) := ps_imp ps_break fun D' σ H ⟨F, ρ, A, gd, po⟩ => po σ H A gd Stp.refl
theorem st_cont : PS X (.Continue pos) (TSt K mg W fun ρ => .ok (.ct, ρ)) := ps_imp ps_continue fun D' σ H ⟨F, ρ, A, gd, po⟩ => po σ H A gd Stp.refl
/-- what is never reached -/
theorem st_never : PS X st (TSt K mg W fun _ => .no) := ps_imp ps_never fun D' σ H ⟨F, ρ, A, gd, po⟩ => po.elim
theorem st_one (h : PS X st (TSt K mg W g)) : PSs X [st] (TSt K mg W g) := pss_one h
theorem st_cons (h : PS X st (TSt K mg W g)) (h2 : PSs X sts (TSt K mg W u)) : PSs X (st :: sts) (TSt K mg W (sSeq g u)) := by
  refine pss_imp (pss_cons h h2) fun D' σ H ⟨F, ρ, A, gd, po⟩ => ⟨F, ρ, A, gd, ?_⟩
  unfold sSeq at po
  cases q : g ρ with
  | no => rw [q] at po; exact po.elim
  | ex ρ' c fs => rw [q] at po; exact po
  | ok p =>
    obtain ⟨o, ρ1⟩ := p
    rw [q] at po
    cases o with
    | nx => exact fun σ1 H1 A1 g1 s1 => ⟨F, ρ1, A1, g1, PoS.of s1 po σ1⟩
    | bk => exact po
    | ct => exact po
    | rt r => exact po
theorem seqES {F : Addr → Prop} {σ : St} {H : Hp} {ρ : List S} {A : List (Option Addr)} {D' : Ends} {k : (S × List S) → Rs (Out × List S)} (gd : Good K F σ H ρ A) (po : PoS K mg W F σ H ρ A (f ρ >>= k) D') {Q : VK}
    (hk : ∀ (r : S) (ρ1 : List S) (v : V) (H1 : Hp), Fin K F σ H ρ A r ρ1 v H1 → PoS K mg W F σ H ρ A (k (r, ρ1)) D' → Q v H1) : TF K mg W f σ H Q :=
  seqE gd (po := fun o => PoS K mg W F σ H ρ A o D') poS_no (poS_exS Stp.refl) po hk
/-- an expression as a statement -/
def sExpr (f : EF) : SF := fun ρ => f ρ >>= fun p => match p.1 with
  | .sh _ => .ok (.nx, p.2)
  | .ow _ => .ok (.nx, p.2)
  | _ => .no
theorem st_expr (h : PE X e (TF K mg W f)) (hs : swapsWith e none pos.line X.env = pure false := by rfl) : PS X (.Expr e pos) (TSt K mg W (sExpr f)) := by
  refine ps_imp (ps_expr h hs) fun D' σ H ⟨F, ρ, A, gd, po⟩ => ?_
  refine seqES gd po fun r ρ1 v H1 f1 po => ?_
  cases r with
  | sh d => obtain ⟨A1, g1, s1, _⟩ := f1; exact po σ H1 A1 g1 s1
  | ow d => obtain ⟨A1, g1, s1, _⟩ := f1.weak; exact po σ H1 A1 g1 s1
  | _ => exact po.elim
theorem st_doc {x j pos'} : PS X (.Expr (.Constant (.str x) j pos) pos') (TSt K mg W sNx) := ps_imp ps_doc fun D' σ H ⟨F, ρ, A, gd, po⟩ => po σ H A gd Stp.refl
/-- x = e -/
def sSet (i : Nat) (f : EF) : SF := fun ρ => f ρ >>= fun p => match p.1 with
  | .sh d => Rs.of (setS i (.sh d) p.2) >>= fun ρ' => .ok (.nx, ρ')
  | .ow d => Rs.of (setS i (.ow d) p.2) >>= fun ρ' => .ok (.nx, ρ')
  | _ => .no
theorem set_r {i : Nat} : ∀ D' σ H, TSt K mg W (sSet i f) D' σ H → tAsg (TF K mg W f) (gName i) D' σ H := by
  intro D' σ H ⟨F, ρ, A, gd, po⟩
  refine seqES gd po fun r ρ1 v H1 f1 po => ?_
  cases r with
  | sh d =>
    obtain ⟨ρ', e1, po⟩ := seqOpt (po := fun o => PoS K mg W F σ H ρ A o D') poS_no po
    obtain ⟨h1, rfl, h2⟩ := setS_some e1
    obtain ⟨A1, g1, s1, p1⟩ := f1
    exact po _ H1 _ (g1.put h1 p1) (s1.trans (Stp.put h2 view_setNone))
  | ow d =>
    obtain ⟨ρ', e1, po⟩ := seqOpt (po := fun o => PoS K mg W F σ H ρ A o D') poS_no po
    obtain ⟨h1, rfl, h2⟩ := setS_some e1
    obtain ⟨A1, a, rfl, na, g1, s1, m1, o1⟩ := f1
    refine po _ H1 _ (g1.putO na h1 o1) ⟨s1.kf, m1.trans view_putO, fun j x y e => ?_⟩
    obtain ⟨q1, x', y', q2⟩ := s1.cu j x y e
    have hj : i ≠ j := fun z => by subst z; exact h2 _ _ q2
    rw [List.getElem?_set_ne hj, List.getElem?_set_ne hj]
    exact ⟨q1, x', y', q2⟩
  | _ => exact po.elim
theorem st_set {i : Nat} {x : Str} {pos' : Pos} (ct : Ct X K mg W n) (h : PE X e (TF K mg W f)) (hi : X.N[i]? = some x := by rfl) (hx : Loc X.env.scope x := by first | exact Or.inl rfl | exact Or.inr rfl) (hs : swapsWith e (some (.Name x pos')) pos.line X.env = pure false := by rfl) (hf : X.fn x = true ∨ X.env.scope.names.lookup x = some .local := by first | exact .inl rfl | exact .inr rfl) :
    PS X (.Assign [.Name x pos'] e pos) (TSt K mg W (sSet i f)) := ps_imp (ps_set ct.nd hi hx h hs hf) set_r
/-- a, b = e -/
def sAsg (t : GF) (f : EF) : SF := fun ρ => f ρ >>= fun p => match p.1 with
  | .sh d => Rs.of (t d p.2) >>= fun ρ' => .ok (.nx, ρ')
  | .ow d => Rs.of (t d p.2) >>= fun ρ' => .ok (.nx, ρ')
  | _ => .no
theorem st_asg {tg : Expr} {is : List Nat} {t : GF} (h : PE X e (TF K mg W f)) (ht : PG X tg (TGt K is t)) (hs : swapsWithSole [tg] e pos.line X.env = pure false := by rfl) (hw : swappedStores [tg] e X.env = pure none := by rfl) (h1 : (assignEach [tg] X.env).map (·.2) = [assign tg X.env] := by rfl) : PS X (.Assign [tg] e pos) (TSt K mg W (sAsg t f)) := by
  refine ps_imp (ps_asg h ht hs hw h1) fun D' σ H ⟨F, ρ, A, gd, po⟩ => ?_
  have key : ∀ d v ρ1 H1, Fin K F σ H ρ A (.sh d) ρ1 v H1 → PoS K mg W F σ H ρ A (Rs.of (t d ρ1) >>= fun ρ' => .ok (.nx, ρ')) D' → TGt K is t v σ H1 D'.nx := by
    intro d v ρ1 H1 ⟨A1, g1, s1, p1⟩ po
    obtain ⟨ρ', e1, po⟩ := seqOpt (po := fun o => PoS K mg W F σ H ρ A o D') poS_no po
    exact ⟨F, ρ1, A1, d, ρ', g1, p1, e1, fun σ' A' g' s' _ _ => po σ' H1 A' g' (s1.trans s')⟩
  refine seqES gd po fun r ρ1 v H1 f1 po => ?_
  cases r with
  | sh d => exact key d v ρ1 H1 f1 po
  | ow d => exact key d v ρ1 H1 f1.weak po
  | _ => exact po.elim
/-- a, b = e1, e2, plain names -/
def sPar (i j : Nat) (fA : AF) : SF := fun ρ => fA ρ >>= fun p => match p.1 with
  | [.sh d, .sh d'] => Rs.of ((setS i (.sh d) p.2).bind (setS j (.sh d'))) >>= fun ρ' => .ok (.nx, ρ')
  | _ => .no
theorem st_par {i j : Nat} {x y : Str} {a b : Expr} {px py pt : Pos} {kt k2 pt2} (ct : Ct X K mg W n) (ha : PA X [a, b] (TAr K mg W fA)) (hi : X.N[i]? = some x := by rfl) (hj : X.N[j]? = some y := by rfl) (hij : i ≠ j := by decide)
    (hx : X.env.scope.names.lookup x = some .local := by rfl) (hy : X.env.scope.names.lookup y = some .local := by rfl)
    (hw : swappedStores [.Tuple [.Name x px, .Name y py] kt pt] (.Tuple [a, b] k2 pt2) X.env = pure (some [x, y]) := by rfl) (hs : swapsWithSole [.Tuple [.Name x px, .Name y py] kt pt] (.Tuple [a, b] k2 pt2) pos.line X.env = pure false := by rfl) :
    PS X (.Assign [.Tuple [.Name x px, .Name y py] kt pt] (.Tuple [a, b] k2 pt2) pos) (TSt K mg W (sPar i j fA)) := by
  refine ps_imp (ps_par ct.calm ct.nd hi hj hij hx hy ha hw hs) fun D' σ H ⟨F, ρ, A, gd, po⟩ => ?_
  refine seqA gd (po := fun o => PoS K mg W F σ H ρ A o D') poS_no (poS_exS Stp.refl) po fun rs ρ1 vs H1 A1 g1 s1 r1 po => ?_
  match rs, r1, po with
  | [.sh d, .sh d'], .cons (a := v) r1 (.cons (a := w) r2 .nil), po =>
    obtain ⟨ρ', e1, po⟩ := seqOpt (po := fun o => PoS K mg W F σ H ρ A o D') poS_no po
    cases q1 : setS i (.sh d) ρ1 with
    | none => rw [q1] at e1; cases e1
    | some ρ2 =>
      rw [q1] at e1
      obtain ⟨h1, rfl, h2⟩ := setS_some q1
      obtain ⟨h3, rfl, h4⟩ := setS_some e1
      have g2 := g1.put h1 r1
      have s2 : Stp F H1 ρ1 A1 H1 (ρ1.set i (.sh d)) (A1.set i none) := Stp.put h2 view_setNone
      have g3 := g2.put h3 (r2.mono s2.vs)
      exact ⟨v, w, rfl, po _ H1 _ g3 ((s1.trans s2).trans (Stp.put h4 view_setNone))⟩
/-- return -/
def sRet (f : EF) : SF := fun ρ => f ρ >>= fun p => .ok (.rt p.1, p.2)
theorem st_ret (h : PE X e (TF K mg W f)) : PS X (.Return (some e) pos) (TSt K mg W (sRet f)) := by
  refine ps_imp (ps_ret h) fun D' σ H ⟨F, ρ, A, gd, po⟩ => ?_
  exact seqES gd po fun r ρ1 v H1 f1 po => po σ v H1 f1
theorem st_retN : PS X (.Return none pos) (TSt K mg W fun ρ => .ok (.rt (.sh .none), ρ)) := ps_imp ps_retN fun D' σ H ⟨F, ρ, A, gd, po⟩ => po σ .non H (.here gd .non)
/-- if -/
def sIf (c : BF) (g u : SF) : SF := fun ρ => c ρ >>= fun p => if p.1 = true then g p.2 else u p.2
theorem st_if {a b : List Stmt} (h : PT X c (TB' K mg W fB)) (ha : PSs X a (TSt K mg W g)) (hb : PSs X b (TSt K mg W u)) : PS X (.If c a b pos) (TSt K mg W (sIf fB g u)) := by
  refine ps_imp (ps_if h ha hb) fun D' σ H ⟨F, ρ, A, gd, po⟩ => ?_
  refine seqB gd (po := fun o => PoS K mg W F σ H ρ A o D') poS_no (poS_exS Stp.refl) po fun k ρ1 H1 A1 g1 s1 po => ?_
  cases k with
  | true => exact ⟨F, ρ1, A1, g1, PoS.of s1 po σ⟩
  | false => exact ⟨F, ρ1, A1, g1, PoS.of s1 po σ⟩
/-- while: at most so many turns -/
def whileL (c : BF) (b : SF) : Nat → List S → Rs (Out × List S)
  | 0, _ => .no
  | m + 1, ρ => c ρ >>= fun p => if p.1 = true then b p.2 >>= fun q => match q.1 with
      | .nx => whileL c b m q.2
      | .ct => whileL c b m q.2
      | .bk => .ok (.nx, q.2)
      | .rt r => .ok (.rt r, q.2)
    else .ok (.nx, p.2)
theorem st_while {body : List Stmt} (m : Nat) (hp : PassesOwn (model X.prog X.w) X.A X.env X.xe) (h : PT X c (TB' K mg W fB)) (hb : PSs X body (TSt K mg W g)) : PS X (.While c body [] pos) (TSt K mg W (whileL fB g m)) := by
  refine ps_imp (ps_while hp h hb) fun D' σ H ⟨F, ρ, A, gd, po⟩ => ?_
  refine ⟨fun k σ1 H1 => ∃ ρ1 A1, Good K F σ1 H1 ρ1 A1 ∧ Stp F H ρ A H1 ρ1 A1 ∧ PoS K mg W F σ H ρ A (whileL fB g k ρ1) D', ⟨m, ρ, A, gd, Stp.refl, po⟩, fun k σ1 H1 ⟨ρ1, A1, g1, s1, po⟩ => ?_⟩
  cases k with
  | zero => exact po.elim
  | succ k =>
    refine seqB g1 (po := fun o => PoS K mg W F σ H ρ A o D') poS_no (fun ρ' c fs h C d H' A' g' s' e' => h σ1 C d H' A' g' (s1.trans s') e') po fun t ρ2 H2 A2 g2 s2 po => ?_
    cases t with
    | false => exact po σ1 H2 A2 g2 (s1.trans s2)
    | true =>
      refine ⟨fun σ3 H3 => ∃ ρ3 A3, Good K F σ3 H3 ρ3 A3 ∧ Stp F H ρ A H3 ρ3 A3 ∧ PoS K mg W F σ H ρ A (whileL fB g k ρ3) D', fun σ3 H3 ⟨ρ3, A3, h3⟩ => ⟨k, Nat.lt_succ_self k, ρ3, A3, h3⟩, F, ρ2, A2, g2, ?_⟩
      have s12 := s1.trans s2
      rw [if_pos rfl] at po
      cases q : g ρ2 with
      | no => rw [q] at po; exact po.elim
      | ex ρ' c fs => rw [q] at po; exact PoS.of s12 po σ1
      | ok p =>
        obtain ⟨o, ρ3⟩ := p
        rw [q] at po
        cases o with
        | bk => exact PoS.of s12 po σ1
        | rt r => exact PoS.of s12 po σ1
        | nx => exact fun σ3 H3 A3 g3 s3 => ⟨ρ3, A3, g3, s12.trans s3, po⟩
        | ct => exact fun σ3 H3 A3 g3 s3 => ⟨ρ3, A3, g3, s12.trans s3, po⟩
end
end Z
end
section
namespace Z
open PySem PySem.Spec L2

/-! ### enumerate of a tuple -/
def IteT (a : Addr) : It :=
  ⟨fun i H => ∃ (xs : List V) (x : V), H a = some (.tup xs) ∧ xs[i]? = some x, fun i H v H' => ∃ T x, v = .ref T ∧ H T = none ∧ H' = upd H T (.tup [.int (i : Nat), x]) ∧ ∀ xs, H a = some (.tup xs) → xs[i]? = some x, fun i H => ∃ xs : List V, H a = some (.tup xs) ∧ xs.length ≤ i⟩
theorem turn_enumT {P : Program} {w : World} {K : PySem.W.Frag} {elts : List Expr} {kk : Nat} {tpos : Pos} (a e it : Addr) :
    Turn P w K (.Tuple elts kk tpos) (IteT a) [e, it] e (fun i h => (∃ old, IsEnum h e it ((i : Nat) : Int) old) ∧ h.IsTupleIter it a i ∧ e ≠ it) where
  mem := by simp
  obj := fun i h st b hb => by
    obtain ⟨⟨old, he⟩, ⟨o, ho, hc, hd⟩, _⟩ := st
    have e' : b = e ∨ b = it := by simpa using hb
    rcases e' with z | z
    · rw [z]; exact ⟨_, he, fun v q => nomatch q⟩
    · rw [z]; exact ⟨o, ho, fun v q => by rw [hd] at q; cases q⟩
  keep := fun i h h' st k => let ⟨⟨old, he⟩, hi, hne⟩ := st; ⟨⟨old, k e (by simp) _ he⟩, hi.at fun o q => k it (by simp) o q, hne⟩
  item := by
    intro X hP hw hK hc i pins s σ H E I hf st hg
    subst hP hw hK
    obtain ⟨⟨old, he⟩, hit, hne⟩ := st
    obtain ⟨xs, x, hq, hx⟩ := hg
    obtain ⟨its, rv, p, hz⟩ := I.tuple (SqT.of hq)
    obtain ⟨u, hu, ru⟩ := rv.get hx
    have hel : e < s.heap.objs.size := Heap.lt_size he
    have hil : it < s.heap.objs.size := by obtain ⟨_, q, _⟩ := hit; exact Heap.lt_size q
    have nae : e ≠ a := fun z => by have := (hf e (by simp)).1; rw [z, hq] at this; cases this
    have nai : a ≠ it := fun z => by have := (hf it (by simp)).1; rw [← z, hq] at this; cases this
    have hlt : i < its.toArray.size := by
      have := lt_of_ix hu
      simpa using this
    refine wpAny_pyNext_enum_itemD (n := its.toArray.size) (PySem.Draws.tuple (A := X.A.in1) (I.ok.hd hc) it a nai its.toArray) he ⟨hit, (show s.heap.IsTuple a its.toArray from p)⟩ hlt hne (by simp; exact ⟨hne, nae⟩) fun x' h' tk hP' ho hst' hT hsz hk => ?_
    have ex' : x' = u := by
      have h1 : its.toArray[i]? = some x' := hP'
      have h2 : its.toArray[i]? = some u := by simpa using hu
      rw [h1] at h2; cases h2; rfl
    subst ex'
    refine ⟨_, rfl, wpAny_letOwnedTupleGo_enum (s := { s with heap := h', toks := tk + 1 }) ho fun h'' he' sb => ?_⟩
    have hT2 : h''.get? s.heap.objs.size = some { cls := .type "tuple", data := .seq #[.int i tk, x'] } := (sb.2 _ (Nat.ne_of_gt hel)).trans hT
    have new : ObjOk X.prog X.w (upd H s.heap.objs.size (.tup [.int (i : Nat), x])) h'' s.heap.objs.size (.tup [.int (i : Nat), x]) :=
      ⟨by show 2 ≤ sizeLine; decide, [.int i tk, x'], .cons ⟨_, rfl⟩ (.cons ru .nil), ⟨_, hT2, rfl, _, rfl⟩⟩
    have I1 : Inv X pins σ (upd H s.heap.objs.size (.tup [.int (i : Nat), x])) { s with heap := h'', toks := tk + 1 } :=
      I.turnedNew (ch := [e, it]) (fun b ob hb q => (sb.2 b (fun z => hb (by simp [z]))).trans (hk b ob (fun z => hb (by simp [z])) (fun z => hb (by simp [z])) q)) hf (Nat.le_refl _) new
    refine ⟨.ref s.heap.objs.size, _, I1, rfl, ⟨_, x, rfl, I.hok.fresh (Nat.le_refl _), rfl, fun ys hy => by rw [hq] at hy; cases hy; exact hx⟩, ⟨⟨x', ?_⟩, hst'.1.at fun o q => (sb.2 it (Ne.symm hne)).trans q, hne⟩, fun b hb => ?_⟩
    · have e1 : ((i + 1 : Nat) : Int) = (i : Int) + 1 := by omega
      rw [e1]; exact he'
    · have hb' : b < s.heap.objs.size := by
        have e' : b = e ∨ b = it := by simpa using hb
        rcases e' with z | z
        · rw [z]; exact hel
        · rw [z]; exact hil
      rw [upd_ne (Nat.ne_of_lt hb')]
      exact (hf b hb).1
  done := by
    intro X hP hw hK hc i pins s σ H E I hf st hg
    subst hP hw hK
    obtain ⟨⟨old, he⟩, hit, hne⟩ := st
    obtain ⟨xs, hq, hx⟩ := hg
    obtain ⟨its, rv, p, hz⟩ := I.tuple (SqT.of hq)
    obtain ⟨f0, f1, f2, f3, f4, f5⟩ := hf it (by simp)
    have hl := rv.length
    have nai : a ≠ it := fun z => by rw [← z, hq] at f0; cases f0
    have hT : s.TypeIs (.ref e) "enumerate" := ⟨_, he, rfl⟩
    unfold pyNext
    refine wpAny_bind (wpAny_attempt (wpAny_callSpecial?_slot (name := Str.ofString "__next__") hT F.slot_enumerate_next
      (wpAny_call_entry F.slot_enumerate_next hT F.entry_enumerate_next ?_ (F.args_enumerate_next_1 _))))
    show wpAny _ _ (field (.ref e) 2 >>= _) _ _ _
    refine wpAny_bind (wpAny_field he rfl (x := .ref it) rfl ?_)
    refine wpAny_bind (wpAny_nextOf_tuple_end (A := X.A.in1) (I.ok.hd hc) hit (show s.heap.IsTuple a its.toArray from p) (by simp; omega) fun h' x he' hx' => ?_)
    obtain ⟨o, ho, hc'⟩ := hx'
    refine wpAny_bind (wpAny_isInstance (T := "StopIteration") (b := true) ⟨o, ho, hc'⟩ isSubtype_stop ?_)
    exact wpAny_pure ⟨rfl, I.turned (t' := s.toks) (fun b o hb q => he' b o hb q) f0 f1 f3 f4 f5⟩
  self := fun A i s Q E st h => let ⟨⟨_, he⟩, _⟩ := st; wpAny_pyIter_enum he h
theorem meets_enumerate_newT (l : Addr) (items : Array Value) (n : Nat) (dct : Option Addr) (sl : Array (Option Value)) :
    Meets (Builtin.«enumerate.__new__» ⟨[.type "enumerate", .ref l], []⟩) (fun _ R s => s.heap.get? l = some { cls := .type "tuple", dict := dct, data := .seq items n, slots := sl } ∧
      R (.ok (.ret (.ref (s.heap.push { cls := .type "tuple_iterator", data := .fields #[.ref l, .int 0 0] }).objs.size)))
        { s with heap := (s.heap.push { cls := .type "tuple_iterator", data := .fields #[.ref l, .int 0 0] }).push { cls := .type "enumerate", data := .fields #[.none, .bool false, .ref s.heap.objs.size, rawInt 0, .none, .none] } }) :=
  .of_wp fun prog w A R s h => by
    obtain ⟨hp, g, d, tk, os⟩ := s; obtain ⟨hl, h⟩ := h
    have hsub := sub_enumerate
    have hL : Heap.IsTuple (Shared.heap ⟨hp, g, d, tk, os⟩) l items := ⟨_, hl, rfl, n, rfl⟩
    wp_walk using AutoSeq1.wpAny_loadPart' hl
    refine wpAny_stack_any fun st => wpAny_pure ?_
    split
    · rename_i c _ _ _ _ _
      cases (c == Value.type "enumerate")
      · wp_walk using AutoSeq1.wpAny_loadPart' hl, wpAny_pyIter_tuple hL
        exact ⟨_, rfl, h⟩
      · wp_walk using AutoSeq1.wpAny_loadPart' hl, wpAny_pyIter_tuple hL
        exact ⟨_, rfl, h⟩
    · wp_walk using AutoSeq1.wpAny_loadPart' hl, wpAny_pyIter_tuple hL
      exact ⟨_, rfl, h⟩
theorem call_enumerate_tuple {prog : Program} {w : World} {A : Around} {E : Value → Shared → Prop} {s : Shared} {l : Addr} {items : Array Value} {Q : Value → Shared → Prop} (hL : s.heap.IsTuple l items)
    (h : ∀ h', IsEnum h' (s.heap.objs.size + 1) s.heap.objs.size 0 .none → h'.IsTupleIter s.heap.objs.size l 0 → h'.objs.size = s.heap.objs.size + 2 →
      (∀ b o, s.heap.get? b = some o → h'.get? b = some o) → Q (.ref (s.heap.objs.size + 1)) { s with heap := h' }) :
    wpAny (model prog w) A (call (.type "enumerate") [.ref l]) Q E s := by
  obtain ⟨⟨c, dct, dt, sl⟩, hl, hc, n, hd⟩ := hL
  replace hc : c = .type "tuple" := hc
  replace hd : dt = .seq items n := hd
  subst hc hd
  refine callType_new F.called_enumerate (by decide) (F.typeCall_enumerate_1 _) (F.newCall_enumerate_1 _) (fun obj => F.args_object_init_2 obj _) F.entry_enumerate_new
    (meets_enumerate_newT l items n dct sl) ⟨hl, ?_⟩
  have hz : (s.heap.push { cls := .type "tuple_iterator", data := .fields #[.ref l, .int 0 0] }).objs.size = s.heap.objs.size + 1 := Heap.size_push ..
  show _ ∧ _
  rw [hz]
  have he : IsEnum ((s.heap.push { cls := .type "tuple_iterator", data := .fields #[.ref l, .int 0 0] }).push
      { cls := .type "enumerate", data := .fields #[.none, .bool false, .ref s.heap.objs.size, rawInt 0, .none, .none] }) (s.heap.objs.size + 1) s.heap.objs.size 0 .none := by
    have := Heap.get?_push_size (s.heap.push { cls := .type "tuple_iterator", data := .fields #[.ref l, .int 0 0] })
      (o := { cls := .type "enumerate", data := .fields #[.none, .bool false, .ref s.heap.objs.size, rawInt 0, .none, .none] }) rfl
    rw [hz] at this; exact this
  refine ⟨⟨_, he, rfl⟩, h _ he ⟨_, Heap.get?_push_of_some _ (Heap.get?_push_size _ rfl), rfl, rfl⟩ (by rw [Heap.size_push, hz]) fun b o x => Heap.get?_push_of_some _ (Heap.get?_push_of_some _ x)⟩
/-- enumerate of a list or a tuple -/
def iEnumA (K : PySem.W.Frag) (ta : TA) : TI := fun σ H R => ta σ H fun vs H1 => ∃ a xs, vs = [.ref a] ∧ ((SqL K H1 a xs ∧ R (Ite K a) H1) ∨ (H1 a = some (.tup xs) ∧ R (IteT a) H1))
theorem pi_enumA {X : Cx} {e : Expr} {ta : TA} {p pos tpos : Pos} {elts : List Expr} {kk : Nat} (hg : Gl X "enumerate") (hm : X.mg "enumerate" = none) (ha : PA X [e] ta) (hs : starEach [e] X.env = [(false, eval e X.env)] := by rfl) :
    PI X (.Tuple elts kk tpos) (.Call (.Name "enumerate" p) [e] [] pos) (iEnumA X.K ta) := by
  refine ⟨fun pins s σ H R I h => ?_⟩
  refine PyProof.Rows.Call_ (ld_blt I hg hm (by decide +kernel) (PyProof.Rows.callWith_type1 (T := "enumerate") (thn (ha.run pos pins s σ H _ I h) fun us s1 ⟨vs, H1, I1, r1, q1⟩ => ?_) hs rfl))
  obtain ⟨a, xs, ex, q1⟩ := q1
  subst ex
  cases r1 with
  | cons r rr =>
    cases rr
    cases r
    have fp2 : ∀ b, b ∈ [s1.heap.objs.size + 1, s1.heap.objs.size] → FpOk X pins H1 b := fun b hb => by
      have e' : b = s1.heap.objs.size + 1 ∨ b = s1.heap.objs.size := by simpa using hb
      have hle : s1.heap.objs.size ≤ b := by
        rcases e' with z | z
        · rw [z]; exact Nat.le_add_right _ _
        · rw [z]; exact Nat.le_refl _
      exact I1.fpOk hle (I1.hok.fresh hle)
    rcases q1 with ⟨hq, q⟩ | ⟨hq, q⟩
    · obtain ⟨its, rv, p', hz⟩ := I1.list hq
      refine call_enumerate_list p'.isList fun h' he hit hsz hk => wpAny_pyIter_enum he ?_
      have I2 : Inv X pins σ H1 { s1 with heap := h' } := I1.kept (t' := s1.toks) hk
      exact ⟨s1.heap.objs.size + 1, [s1.heap.objs.size + 1, s1.heap.objs.size], _, _, H1, rfl, I2, turn_enum a (s1.heap.objs.size + 1) s1.heap.objs.size, ⟨⟨.none, he⟩, hit, Nat.succ_ne_self _⟩, fp2, q⟩
    · obtain ⟨its, rv, p', hz⟩ := I1.tuple (SqT.of hq)
      refine call_enumerate_tuple (show s1.heap.IsTuple a its.toArray from p') fun h' he hit hsz hk => wpAny_pyIter_enum he ?_
      have I2 : Inv X pins σ H1 { s1 with heap := h' } := I1.kept (t' := s1.toks) hk
      exact ⟨s1.heap.objs.size + 1, [s1.heap.objs.size + 1, s1.heap.objs.size], _, _, H1, rfl, I2, turn_enumT a (s1.heap.objs.size + 1) s1.heap.objs.size, ⟨⟨.none, he⟩, hit, Nat.succ_ne_self _⟩, fp2, q⟩
end Z
end
section
namespace Z
open PySem PySem.Spec L2

/-! ### what is walked -/
def YOk (K : PySem.W.Frag) (W0 H H' : Hp) (x : V) (d : D) : Prop :=
  (H' = H ∧ Rp K W0 x d) ∨ ∃ T vs ds, x = .ref T ∧ H T = none ∧ H' = upd H T (.tup vs) ∧ RpL K W0 vs ds ∧ d = .tuple ds
def WkOk (K : PySem.W.Frag) (J : It) (W0 : Hp) (ds : List D) : Prop :=
  ∀ H, Same W0 H → (∀ (i : Nat) (d : D), ds[i]? = some d → J.go i H ∧ ∀ x H', J.yld i H x H' → YOk K W0 H H' x d) ∧ J.stop ds.length H
abbrev IF := List S → Rs (List D × List S)
section
variable (K : PySem.W.Frag) (mg : Str → Option Value) (W : WX)
def PoI (F : Addr → Prop) (σ : St) (H : Hp) (ρ : List S) (A : List (Option Addr)) (o : Rs (List D × List S)) (R : It → Hp → Prop) : Prop :=
  match o with
  | .ok (ds, ρ') => ∀ J H' A', Good K F σ H' ρ' A' → Stp F H ρ A H' ρ' A' → WkOk K J (vw H' (hid F A')) ds → R J H'
  | .ex ρ' c fs => PoX K mg W F σ H ρ A ρ' c fs
  | .no => False
def TIt (f : IF) : TI := fun σ H R => ∃ F ρ A, Good K F σ H ρ A ∧ PoI K mg W F σ H ρ A (f ρ) R
end
section
variable {K : PySem.W.Frag} {W0 : Hp} {a b : Addr} {xs ys : List V} {ds es : List D}
theorem wk_list (e : W0 a = some (.lst xs)) (r : RpL K W0 xs ds) : WkOk K (Itl K a) W0 ds := fun H s => by
  have q : SqL K H a xs := .of (s _ _ e)
  refine ⟨fun i d hd => ?_, ⟨xs, q, by rw [r.len]; exact Nat.le_refl _⟩⟩
  obtain ⟨v, h1, h2⟩ := r.get hd
  exact ⟨⟨xs, v, q, h1⟩, fun x H' y => .inl ⟨y.1, by have := y.2 xs q; rw [h1] at this; cases this; exact h2⟩⟩
theorem wk_tup (e : W0 a = some (.tup xs)) (r : RpL K W0 xs ds) : WkOk K (Itt K a) W0 ds := fun H s => by
  have q : SqT K H a xs := .of (s _ _ e)
  refine ⟨fun i d hd => ?_, ⟨xs, q, by rw [r.len]; exact Nat.le_refl _⟩⟩
  obtain ⟨v, h1, h2⟩ := r.get hd
  exact ⟨⟨xs, v, q, h1⟩, fun x H' y => .inl ⟨y.1, by have := y.2 xs q; rw [h1] at this; cases this; exact h2⟩⟩
def chars (z : Str) : List D := z.cps.toList.map fun c => .str ⟨#[c]⟩
theorem wk_str {z : Str} : WkOk K (Its z) W0 (chars z) := fun H s => by
  refine ⟨fun i d hd => ?_, ?_⟩
  · unfold chars at hd
    rw [List.getElem?_map] at hd
    cases h : z.cps.toList[i]? with
    | none => rw [h] at hd; cases hd
    | some c =>
      rw [h] at hd; cases hd
      have h' : z.cps[i]? = some c := by simpa using h
      have hl := lt_of_ix h
      refine ⟨by show i < z.cps.size; simpa using hl, fun x H' ⟨e1, c', e2, e3⟩ => .inl ⟨e1, ?_⟩⟩
      rw [h'] at e2; cases e2; subst e3; exact .str _
  · show z.cps.size ≤ (chars z).length
    unfold chars
    simp
def rangeD (lo c : Int) (n : Nat) : List D := (List.range n).map fun k => .int (lo + (k : Nat) * c)
theorem wk_rangeC {lo c : Int} {n : Nat} : WkOk K (Itc lo c n) W0 (rangeD lo c n) := fun H s => by
  refine ⟨fun i d hd => ?_, ?_⟩
  · unfold rangeD at hd
    rw [List.getElem?_map] at hd
    cases h : (List.range n)[i]? with
    | none => rw [h] at hd; cases hd
    | some k =>
      rw [h] at hd; cases hd
      have hl := lt_of_ix h
      rw [List.length_range] at hl
      rw [List.getElem?_range hl] at h; cases h
      exact ⟨hl, fun x H' ⟨e1, e2⟩ => .inl ⟨e1, by rw [e2]; exact .int _⟩⟩
  · show n ≤ (rangeD lo c n).length
    unfold rangeD; simp
theorem wk_range {lo : Int} {n : Nat} : WkOk K (Itr lo n) W0 (rangeD lo 1 n) := fun H s => by
  refine ⟨fun i d hd => ?_, ?_⟩
  · unfold rangeD at hd
    rw [List.getElem?_map] at hd
    cases h : (List.range n)[i]? with
    | none => rw [h] at hd; cases hd
    | some k =>
      rw [h] at hd; cases hd
      have hl := lt_of_ix h
      rw [List.length_range] at hl
      rw [List.getElem?_range hl] at h; cases h
      exact ⟨hl, fun x H' ⟨e1, e2⟩ => .inl ⟨e1, by rw [e2]; show Rp K W0 (.int (lo + (i : Nat))) (.int (lo + (i : Nat) * 1)); rw [Int.mul_one]; exact .int _⟩⟩
  · show n ≤ (rangeD lo 1 n).length
    unfold rangeD; simp
def enumD (ds : List D) : List D := ds.mapIdx fun i d => .tuple [.int (i : Nat), d]
theorem wk_enumL (e : W0 a = some (.lst xs)) (r : RpL K W0 xs ds) : WkOk K (Ite K a) W0 (enumD ds) := fun H s => by
  have q : SqL K H a xs := .of (s _ _ e)
  refine ⟨fun i d hd => ?_, ⟨xs, q, by rw [r.len]; simp [enumD]⟩⟩
  unfold enumD at hd
  rw [List.getElem?_mapIdx] at hd
  cases h : ds[i]? with
  | none => rw [h] at hd; cases hd
  | some d' =>
    rw [h] at hd; cases hd
    obtain ⟨v, h1, h2⟩ := r.get h
    refine ⟨⟨xs, v, q, h1⟩, fun x H' ⟨T, x', e1, e2, e3, e4⟩ => .inr ⟨T, _, _, e1, e2, e3, .cons (.int _) (.cons ?_ .nil), rfl⟩⟩
    have := e4 xs q; rw [h1] at this; cases this; exact h2
theorem wk_enumT (e : W0 a = some (.tup xs)) (r : RpL K W0 xs ds) : WkOk K (IteT a) W0 (enumD ds) := fun H s => by
  have q : H a = some (.tup xs) := s _ _ e
  refine ⟨fun i d hd => ?_, ⟨xs, q, by rw [r.len]; simp [enumD]⟩⟩
  unfold enumD at hd
  rw [List.getElem?_mapIdx] at hd
  cases h : ds[i]? with
  | none => rw [h] at hd; cases hd
  | some d' =>
    rw [h] at hd; cases hd
    obtain ⟨v, h1, h2⟩ := r.get h
    refine ⟨⟨xs, v, q, h1⟩, fun x H' ⟨T, x', e1, e2, e3, e4⟩ => .inr ⟨T, _, _, e1, e2, e3, .cons (.int _) (.cons ?_ .nil), rfl⟩⟩
    have := e4 xs q; rw [h1] at this; cases this; exact h2
def zipD (ds es : List D) : List D := List.zipWith (fun d e => .tuple [d, e]) ds es
theorem zipD_get {i : Nat} {d : D} (h : (zipD ds es)[i]? = some d) : ∃ x y, ds[i]? = some x ∧ es[i]? = some y ∧ d = .tuple [x, y] := by
  unfold zipD at h
  rw [List.getElem?_zipWith] at h
  cases h1 : ds[i]? with
  | none => rw [h1] at h; simp at h
  | some x =>
    cases h2 : es[i]? with
    | none => rw [h1, h2] at h; simp at h
    | some y => rw [h1, h2] at h; simp at h; exact ⟨x, y, rfl, rfl, h.symm⟩
theorem zip_stop : ds.length ≤ (zipD ds es).length ∨ es.length ≤ (zipD ds es).length := by
  unfold zipD; rw [List.length_zipWith]; omega
theorem wk_zipL (e1 : W0 a = some (.lst xs)) (r1 : RpL K W0 xs ds) (e2 : W0 b = some (.lst ys)) (r2 : RpL K W0 ys es) : WkOk K (Itz K a b) W0 (zipD ds es) := fun H s => by
  have q1 : SqL K H a xs := .of (s _ _ e1)
  have q2 : SqL K H b ys := .of (s _ _ e2)
  refine ⟨fun i d hd => ?_, ⟨xs, ys, q1, q2, by rw [r1.len, r2.len]; exact zip_stop⟩⟩
  obtain ⟨d1, d2, h1, h2, rfl⟩ := zipD_get hd
  obtain ⟨v1, k1, p1⟩ := r1.get h1
  obtain ⟨v2, k2, p2⟩ := r2.get h2
  refine ⟨⟨xs, ys, v1, v2, q1, q2, k1, k2⟩, fun x H' ⟨T, x', y', c1, c2, c3, c4, c5⟩ => .inr ⟨T, _, _, c1, c2, c3, .cons ?_ (.cons ?_ .nil), rfl⟩⟩
  · have := c4 xs q1; rw [k1] at this; cases this; exact p1
  · have := c5 ys q2; rw [k2] at this; cases this; exact p2
theorem wk_zipT (e1 : W0 a = some (.tup xs)) (r1 : RpL K W0 xs ds) (e2 : W0 b = some (.tup ys)) (r2 : RpL K W0 ys es) : WkOk K (RZ.ItzT K a b) W0 (zipD ds es) := fun H s => by
  have q1 : SqT K H a xs := .of (s _ _ e1)
  have q2 : SqT K H b ys := .of (s _ _ e2)
  refine ⟨fun i d hd => ?_, ⟨xs, ys, q1, q2, by rw [r1.len, r2.len]; exact zip_stop⟩⟩
  obtain ⟨d1, d2, h1, h2, rfl⟩ := zipD_get hd
  obtain ⟨v1, k1, p1⟩ := r1.get h1
  obtain ⟨v2, k2, p2⟩ := r2.get h2
  refine ⟨⟨xs, ys, v1, v2, q1, q2, k1, k2⟩, fun x H' ⟨T, x', y', c1, c2, c3, c4, c5⟩ => .inr ⟨T, _, _, c1, c2, c3, .cons ?_ (.cons ?_ .nil), rfl⟩⟩
  · have := c4 xs q1; rw [k1] at this; cases this; exact p1
  · have := c5 ys q2; rw [k2] at this; cases this; exact p2
end
section
variable {X : Cx} {K : PySem.W.Frag} {mg : Str → Option Value} {W : WX} {n : Nat} {pos p : Pos} {tg e e2 : Expr} {f f2 : EF} {fA : AF} {fH : HF}
theorem pi_imp {t t' : TI} (h : PI X tg e t) (m : ∀ σ H Q, t' σ H Q → t σ H Q) : PI X tg e t' := ⟨fun p s σ H Q I q => h.run p s σ H Q I (m _ _ _ q)⟩
theorem pi_or {t t' : TI} (h : PI X tg e t) (h' : PI X tg e t') : PI X tg e (fun σ H R => t σ H R ∨ t' σ H R) := ⟨fun p s σ H Q I q => q.elim (h.run p s σ H Q I) (h'.run p s σ H Q I)⟩
theorem poI_no {F σ H ρ A} {R : It → Hp → Prop} : ¬ PoI K mg W F σ H ρ A .no R := fun z => z
theorem poI_exS {F : Addr → Prop} {σ : St} {H H1 : Hp} {ρ ρ1 : List S} {A A1 : List (Option Addr)} {R : It → Hp → Prop} (s : Stp F H ρ A H1 ρ1 A1) (ρ' : List S) (c : Str) (fs : List (Str × D)) (h : PoI K mg W F σ H ρ A (.ex ρ' c fs) R) : PoX K mg W F σ H1 ρ1 A1 ρ' c fs := PoX.of s h
/-- the items of a list, a tuple, a text -/
def iSeq (f : EF) : IF := fun ρ => f ρ >>= fun p => match p.1 with
  | .sh (.list ds) => .ok (ds, p.2)
  | .ow (.list ds) => .ok (ds, p.2)
  | .sh (.tuple ds) => .ok (ds, p.2)
  | .sh (.str z) => .ok (chars z, p.2)
  | _ => .no
theorem it_seq (ct : Ct X K mg W n) (h : PE X e (TF K mg W f)) : PI X tg e (TIt K mg W (iSeq f)) := by
  obtain ⟨rfl, rfl, _, _, _, _⟩ := ct
  refine pi_imp (pi_or (pi_list h) (pi_or (pi_tup h) (pi_str h))) fun σ H R ⟨F, ρ, A, gd, po⟩ => ?_
  unfold iSeq at po
  cases q : f ρ with
  | no => rw [q] at po; exact po.elim
  | ex ρ' c fs =>
    rw [q] at po
    exact .inl ⟨F, ρ, A, gd, by rw [q]; exact po⟩
  | ok pr =>
    obtain ⟨r, ρ1⟩ := pr
    rw [q] at po
    have asL : ∀ ds, (∀ v H1, Fin X.K F σ H ρ A r ρ1 v H1 → Fin X.K F σ H ρ A (.sh (.list ds)) ρ1 v H1) → (∀ J H' A', Good X.K F σ H' ρ1 A' → Stp F H ρ A H' ρ1 A' → WkOk X.K J (vw H' (hid F A')) ds → R J H') → iList X.K (TF X.K X.mg W f) σ H R := by
      intro ds w po
      refine ⟨F, ρ, A, gd, ?_⟩
      rw [q]
      intro v H1 f1
      obtain ⟨A1, g1, s1, p1⟩ := w v H1 f1
      cases p1 with
      | @lst a xs _ e1 r1 => exact ⟨a, rfl, ⟨xs, .of (vw_some e1).2⟩, po _ H1 A1 g1 s1 (wk_list e1 r1)⟩
    cases r with
    | sh d =>
      cases d with
      | list ds => exact .inl (asL ds (fun _ _ x => x) po)
      | tuple ds =>
        refine .inr (.inl ⟨F, ρ, A, gd, ?_⟩)
        rw [q]
        intro v H1 ⟨A1, g1, s1, p1⟩
        cases p1 with
        | @tup a xs _ e1 r1 => exact ⟨a, rfl, ⟨xs, .of (vw_some e1).2⟩, po _ H1 A1 g1 s1 (wk_tup e1 r1)⟩
      | str z =>
        refine .inr (.inr ⟨F, ρ, A, gd, ?_⟩)
        rw [q]
        intro v H1 ⟨A1, g1, s1, p1⟩
        cases p1
        exact ⟨z, rfl, po _ H1 A1 g1 s1 wk_str⟩
      | _ => exact po.elim
    | ow d =>
      cases d with
      | list ds => exact .inl (asL ds (fun _ _ x => x.weak) po)
      | _ => exact po.elim
    | _ => exact po.elim
/-- range -/
def bnd (i : Int) : Prop := i.natAbs < 4611686018427387904
instance (i : Int) : Decidable (bnd i) := by unfold bnd; infer_instance
def iRange1 (fH : HF) : IF := fun ρ => fH ρ >>= fun p => Rs.of (looks p.1 p.2) >>= fun ds => match ds with
  | [.int j] => if bnd j then .ok (rangeD 0 1 j.toNat, p.2) else .no
  | _ => .no
def iRange2 (fH : HF) : IF := fun ρ => fH ρ >>= fun p => Rs.of (looks p.1 p.2) >>= fun ds => match ds with
  | [.int i, .int j] => if bnd i ∧ bnd j then .ok (rangeD i 1 (j - i).toNat, p.2) else .no
  | _ => .no
def iRange3 (fH : HF) : IF := fun ρ => fH ρ >>= fun p => Rs.of (looks p.1 p.2) >>= fun ds => match ds with
  | [.int i, .int j, .int c] => if c ≠ 0 ∧ c.natAbs < 1073741824 ∧ Builtin.Range.small i j c = true ∧ 0 ≤ Builtin.Range.rangeSize i j c then .ok (rangeD i c (Builtin.Range.rangeSize i j c).toNat, p.2) else .no
  | _ => .no
theorem it_range1 (ct : Ct X K mg W n) (hg : Gl X "range") (hm : mg "range" = none) (h : PA X [e] (TH K mg W fH)) (hs : starEach [e] X.env = [(false, eval e X.env)] := by rfl) : PI X tg (.Call (.Name "range" p) [e] [] pos) (TIt K mg W (iRange1 fH)) := by
  obtain ⟨rfl, rfl, _, _, _, _⟩ := ct
  refine pi_imp (pi_range1 hg hm h hs) fun σ H R ⟨F, ρ, A, gd, po⟩ => ?_
  refine seqH gd (po := fun o => PoI X.K X.mg W F σ H ρ A o R) poI_no (poI_exS Stp.refl) po fun hs ρ1 vs H1 A1 g1 s1 r1 po => ?_
  obtain ⟨ds, e1, po⟩ := seqOpt (po := fun o => PoI X.K X.mg W F σ H ρ A o R) poI_no po
  have pk := looks_ok g1 r1 e1
  match ds, pk, po with
  | [.int j], pk, po =>
    obtain ⟨x, rfl, h⟩ := paired1 pk
    have := h.int; subst this
    simp only at po
    split at po
    · rename_i hb
      refine ⟨j, rfl, by unfold bnd at hb; omega, by unfold bnd at hb; omega, po _ H1 A1 g1 s1 wk_range⟩
    · exact po.elim
theorem it_range2 (ct : Ct X K mg W n) (hg : Gl X "range") (hm : mg "range" = none) (h : PA X [e, e2] (TH K mg W fH)) (hs : starEach [e, e2] X.env = [(false, eval e X.env), (false, eval e2 X.env)] := by rfl) (hs2 : starEach [e2] X.env = [(false, eval e2 X.env)] := by rfl) : PI X tg (.Call (.Name "range" p) [e, e2] [] pos) (TIt K mg W (iRange2 fH)) := by
  obtain ⟨rfl, rfl, _, _, _, _⟩ := ct
  refine pi_imp (pi_range2 hg hm h hs hs2) fun σ H R ⟨F, ρ, A, gd, po⟩ => ?_
  refine seqH gd (po := fun o => PoI X.K X.mg W F σ H ρ A o R) poI_no (poI_exS Stp.refl) po fun hs ρ1 vs H1 A1 g1 s1 r1 po => ?_
  obtain ⟨ds, e1, po⟩ := seqOpt (po := fun o => PoI X.K X.mg W F σ H ρ A o R) poI_no po
  have pk := looks_ok g1 r1 e1
  match ds, pk, po with
  | [.int i, .int j], pk, po =>
    obtain ⟨x, y, rfl, h, h'⟩ := paired2 pk
    have := h.int; subst this
    have := h'.int; subst this
    simp only at po
    split at po
    · rename_i hb
      obtain ⟨hb1, hb2⟩ := hb
      refine ⟨i, j, rfl, by unfold bnd at hb1 hb2; omega, po _ H1 A1 g1 s1 wk_range⟩
    · exact po.elim
theorem it_range3 {e3 : Expr} (ct : Ct X K mg W n) (hg : Gl X "range") (hm : mg "range" = none) (h : PA X [e, e2, e3] (TH K mg W fH)) (hs : starEach [e, e2, e3] X.env = (false, eval e X.env) :: starEach [e2, e3] X.env := by rfl) (hs2 : (backTo pos (starEach [e2, e3] X.env)).any (·.1) = false := by rfl) : PI X tg (.Call (.Name "range" p) [e, e2, e3] [] pos) (TIt K mg W (iRange3 fH)) := by
  obtain ⟨rfl, rfl, _, _, _, _⟩ := ct
  refine pi_imp (pi_range3 hg hm h hs hs2) fun σ H R ⟨F, ρ, A, gd, po⟩ => ?_
  refine seqH gd (po := fun o => PoI X.K X.mg W F σ H ρ A o R) poI_no (poI_exS Stp.refl) po fun hs ρ1 vs H1 A1 g1 s1 r1 po => ?_
  obtain ⟨ds, e1, po⟩ := seqOpt (po := fun o => PoI X.K X.mg W F σ H ρ A o R) poI_no po
  have pk := looks_ok g1 r1 e1
  match ds, pk, po with
  | [.int i, .int j, .int c], pk, po =>
    cases pk with
    | cons h1 t => cases t with
      | cons h2 t => cases t with
        | cons h3 t =>
          cases t
          have := h1.int; subst this
          have := h2.int; subst this
          have := h3.int; subst this
          simp only at po
          split at po
          · rename_i hb
            exact ⟨i, j, c, _, rfl, ⟨hb.1, hb.2.1, hb.2.2.1, (Int.toNat_of_nonneg hb.2.2.2).symm⟩, po _ H1 A1 g1 s1 wk_rangeC⟩
          · exact po.elim
/-- enumerate, zip -/
def iEnum' (fA : AF) : IF := fun ρ => fA ρ >>= fun p => match p.1 with
  | [.sh (.list ds)] => .ok (enumD ds, p.2)
  | [.sh (.tuple ds)] => .ok (enumD ds, p.2)
  | _ => .no
def iZip' (fA : AF) : IF := fun ρ => fA ρ >>= fun p => match p.1 with
  | [.sh (.list ds), .sh (.list es)] => .ok (zipD ds es, p.2)
  | [.sh (.tuple ds), .sh (.tuple es)] => .ok (zipD ds es, p.2)
  | _ => .no
theorem it_enum {elts : List Expr} {kk : Nat} {tpos : Pos} (ct : Ct X K mg W n) (hg : Gl X "enumerate") (hm : mg "enumerate" = none) (h : PA X [e] (TAr K mg W fA)) (hs : starEach [e] X.env = [(false, eval e X.env)] := by rfl) : PI X (.Tuple elts kk tpos) (.Call (.Name "enumerate" p) [e] [] pos) (TIt K mg W (iEnum' fA)) := by
  obtain ⟨rfl, rfl, _, _, _, _⟩ := ct
  refine pi_imp (pi_enumA hg hm h hs) fun σ H R ⟨F, ρ, A, gd, po⟩ => ?_
  refine seqA gd (po := fun o => PoI X.K X.mg W F σ H ρ A o R) poI_no (poI_exS Stp.refl) po fun rs ρ1 vs H1 A1 g1 s1 r1 po => ?_
  match rs, r1, po with
  | [.sh (.list ds)], .cons (a := v) r1 .nil, po =>
    cases (show Rp X.K _ v (.list ds) from r1) with
    | @lst a xs _ e1 r1 => exact ⟨a, xs, rfl, .inl ⟨.of (vw_some e1).2, po _ H1 A1 g1 s1 (wk_enumL e1 r1)⟩⟩
  | [.sh (.tuple ds)], .cons (a := v) r1 .nil, po =>
    cases (show Rp X.K _ v (.tuple ds) from r1) with
    | @tup a xs _ e1 r1 => exact ⟨a, xs, rfl, .inr ⟨(vw_some e1).2, po _ H1 A1 g1 s1 (wk_enumT e1 r1)⟩⟩
theorem it_zip {elts : List Expr} {kk : Nat} {tpos : Pos} (ct : Ct X K mg W n) (hg : Gl X "zip") (hm : mg "zip" = none) (h : PA X [e, e2] (TAr K mg W fA)) (hs : starEach [e, e2] X.env = (false, eval e X.env) :: starEach [e2] X.env := by rfl) (hpl : (backTo pos (starEach [e2] X.env)).any (·.1) = false := by rfl) : PI X (.Tuple elts kk tpos) (.Call (.Name "zip" p) [e, e2] [] pos) (TIt K mg W (iZip' fA)) := by
  obtain ⟨rfl, rfl, _, _, _, _⟩ := ct
  refine pi_imp (RZ.pi_zipA hg hm h hs hpl) fun σ H R ⟨F, ρ, A, gd, po⟩ => ?_
  refine seqA gd (po := fun o => PoI X.K X.mg W F σ H ρ A o R) poI_no (poI_exS Stp.refl) po fun rs ρ1 vs H1 A1 g1 s1 r1 po => ?_
  match rs, r1, po with
  | [.sh (.list ds), .sh (.list es)], .cons (a := v) r1 (.cons (a := w) r2 .nil), po =>
    cases (show Rp X.K _ v (.list ds) from r1) with
    | @lst a xs _ e1 r1 => cases (show Rp X.K _ w (.list es) from r2) with
      | @lst b ys _ e2 r2 => exact ⟨a, b, xs, ys, rfl, .inl ⟨.of (vw_some e1).2, .of (vw_some e2).2, po _ H1 A1 g1 s1 (wk_zipL e1 r1 e2 r2)⟩⟩
  | [.sh (.tuple ds), .sh (.tuple es)], .cons (a := v) r1 (.cons (a := w) r2 .nil), po =>
    cases (show Rp X.K _ v (.tuple ds) from r1) with
    | @tup a xs _ e1 r1 => cases (show Rp X.K _ w (.tuple es) from r2) with
      | @tup b ys _ e2 r2 => exact ⟨a, b, xs, ys, rfl, .inr ⟨.of (vw_some e1).2, .of (vw_some e2).2, po _ H1 A1 g1 s1 (wk_zipT e1 r1 e2 r2)⟩⟩

/-! ### for -/
variable {is : List Nat} {t : GF} {g : SF} {fi : IF}
def forL (t : GF) (b : SF) : List D → List S → Rs (Out × List S)
  | [], ρ => .ok (.nx, ρ)
  | d :: ds, ρ => Rs.of (t d ρ) >>= fun ρ1 => b ρ1 >>= fun q => match q.1 with
      | .nx => forL t b ds q.2
      | .ct => forL t b ds q.2
      | .bk => .ok (.nx, q.2)
      | .rt r => .ok (.rt r, q.2)
def sFor (fi : IF) (t : GF) (b : SF) : SF := fun ρ => fi ρ >>= fun p => forL t b p.1 p.2
/-- an item in a state -/
theorem yok_state {F : Addr → Prop} {σ : St} {W0 H H' : Hp} {ρ : List S} {A : List (Option Addr)} {x : V} {d : D} (g : Good K F σ H ρ A) (s : Same W0 (vw H (hid F A))) (y : YOk K W0 H H' x d) : Good K F σ H' ρ A ∧ Stp F H ρ A H' ρ A ∧ Rp K (vw H' (hid F A)) x d := by
  rcases y with ⟨rfl, r⟩ | ⟨T, vs, ds, rfl, hT, rfl, r, rfl⟩
  · exact ⟨g, Stp.refl, r.mono s⟩
  · have s2 := Stp.upd_new g hT (o := .tup vs)
    exact ⟨g.upd_new hT, s2, .tup (g.vw_upd hT) ((r.mono s).mono s2.vs)⟩
theorem st_for {body : List Stmt} (ct : Ct X K mg W n) (hp : PassesOwn (model X.prog X.w) X.A X.env X.xe) (hi : PI X tg e (TIt K mg W fi)) (hg : PG X tg (TGt K is t)) (hb : PSs X body (TSt K mg W g)) (hs : ∀ x, foldedSetIterable e X.env x = pure x := by intro _; rfl) : PS X (.For tg e body [] pos) (TSt K mg W (sFor fi t g)) := by
  refine ps_imp (ps_for hp ct.calm hi hg hb hs) fun D' σ H ⟨F, ρ, A, gd, po⟩ => ?_
  refine ⟨F, ρ, A, gd, ?_⟩
  unfold sFor at po
  cases q : fi ρ with
  | no => rw [q] at po; exact po.elim
  | ex ρ' c fs => rw [q] at po; exact poS_exS Stp.refl _ _ _ po
  | ok pr =>
    obtain ⟨ds, ρ1⟩ := pr
    rw [q] at po
    intro J H1 A1 g1 s1 wk
    refine ⟨fun i m σ2 H2 => ∃ ρ2 A2, Good K F σ2 H2 ρ2 A2 ∧ Stp F H ρ A H2 ρ2 A2 ∧ Same (vw H1 (hid F A1)) (vw H2 (hid F A2)) ∧ i ≤ ds.length ∧ m = ds.length - i ∧ PoS K mg W F σ H ρ A (forL t g (ds.drop i) ρ2) D', ⟨ds.length, ρ1, A1, g1, s1, Same.refl _, Nat.zero_le _, rfl, po⟩, ?_⟩
    rintro i m σ2 H2 ⟨ρ2, A2, g2, s2, v2, hi, rfl, po⟩
    obtain ⟨w1, w2⟩ := wk H2 (v2.trans (vw_same _ _))
    by_cases hlt : i < ds.length
    · have hd : ds[i]? = some ds[i] := List.getElem?_eq_getElem hlt
      obtain ⟨go, yl⟩ := w1 i _ hd
      rw [List.drop_eq_getElem_cons hlt] at po
      obtain ⟨ρ3, e3, po⟩ := seqOpt (po := fun o => PoS K mg W F σ H ρ A o D') poS_no po
      refine .inr ⟨go, fun σ5 H5 => ∃ ρ5 A5, Good K F σ5 H5 ρ5 A5 ∧ Stp F H ρ A H5 ρ5 A5 ∧ Same (vw H1 (hid F A1)) (vw H5 (hid F A5)) ∧ PoS K mg W F σ H ρ A (forL t g (ds.drop (i + 1)) ρ5) D', fun σ5 H5 ⟨ρ5, A5, h1, h2, h3, h4⟩ => ⟨ds.length - (i + 1), by omega, ρ5, A5, h1, h2, h3, hlt, rfl, h4⟩, fun x H3 y => ?_⟩
      obtain ⟨g3, s3, r3⟩ := yok_state g2 v2 (yl x H3 y)
      refine ⟨F, ρ2, A2, _, ρ3, g3, r3, e3, fun σ4 A4 g4 s4 _ _ => ⟨F, ρ3, A4, g4, ?_⟩⟩
      have s24 := (s2.trans s3).trans s4
      have v4 := (v2.trans s3.vs).trans s4.vs
      cases q : g ρ3 with
      | no => rw [q] at po; exact po.elim
      | ex ρ' c fs => rw [q] at po; exact PoS.of s24 po σ
      | ok pr =>
        obtain ⟨o, ρ5⟩ := pr
        rw [q] at po
        cases o with
        | bk => exact PoS.of s24 po σ
        | rt r => exact PoS.of s24 po σ
        | nx => exact fun σ5 H5 A5 g5 s5 => ⟨ρ5, A5, g5, s24.trans s5, v4.trans s5.vs, po⟩
        | ct => exact fun σ5 H5 A5 g5 s5 => ⟨ρ5, A5, g5, s24.trans s5, v4.trans s5.vs, po⟩
    · have e : i = ds.length := by omega
      subst e
      rw [List.drop_length] at po
      exact .inl ⟨w2, po σ2 H2 A2 g2 s2⟩
end
end Z
end
section
namespace Z
open PySem PySem.Spec L2

/-! ### comprehensions -/
def W0 : WX := fun _ _ _ _ => False
def toOpt {α : Type} : Rs α → Option α
  | .ok a => some a
  | _ => none
theorem toOpt_some {α : Type} {o : Rs α} {a : α} (h : toOpt o = some a) : o = .ok a := by
  cases o with
  | ok b => cases h; rfl
  | _ => cases h
def plainS : S → Bool
  | .ow _ => false
  | .cu _ _ => false
  | _ => true
/-- the own slots hold nothing that is the frame's own -/
def clean (vs : List Nat) (ρ : List S) : Bool := vs.all fun i => match ρ[i]? with
  | some s => plainS s
  | none => false
def wipeS (ρ : List S) : List Nat → List S
  | [] => ρ
  | v :: vs => (wipeS ρ vs).set v .u
def restS (ρ0 ρ : List S) : List Nat → List S
  | [] => ρ
  | v :: vs => (restS ρ0 ρ vs).set v (ρ0.getD v .u)
theorem wipeS_len (ρ : List S) : ∀ vs, (wipeS ρ vs).length = ρ.length
  | [] => rfl
  | v :: vs => by simp [wipeS, wipeS_len ρ vs]
theorem restS_len (ρ0 ρ : List S) : ∀ vs, (restS ρ0 ρ vs).length = ρ.length
  | [] => rfl
  | v :: vs => by simp [restS, restS_len ρ0 ρ vs]
theorem wipeS_at {ρ : List S} {i : Nat} : ∀ {vs : List Nat}, i < ρ.length → (wipeS ρ vs)[i]? = if i ∈ vs then some .u else ρ[i]?
  | [], h => by simp [wipeS]
  | v :: vs, h => by
    unfold wipeS
    by_cases hv : v = i
    · subst hv; rw [List.getElem?_set_self (by rw [wipeS_len]; exact h)]; simp
    · rw [List.getElem?_set_ne hv, wipeS_at h]
      have : i ≠ v := fun z => hv z.symm
      simp [this]
theorem restS_at {ρ0 ρ : List S} {i : Nat} : ∀ {vs : List Nat}, i < ρ.length → (restS ρ0 ρ vs)[i]? = if i ∈ vs then some (ρ0.getD i .u) else ρ[i]?
  | [], h => by simp [restS]
  | v :: vs, h => by
    unfold restS
    by_cases hv : v = i
    · subst hv; rw [List.getElem?_set_self (by rw [restS_len]; exact h)]; simp
    · rw [List.getElem?_set_ne hv, restS_at h]
      have : i ≠ v := fun z => hv z.symm
      simp [this]
theorem wipe_at {σ : St} {i : Nat} : ∀ {vs : List Nat}, i < σ.length → (wipe σ vs)[i]? = if i ∈ vs then some none else σ[i]?
  | [], h => by simp [wipe]
  | v :: vs, h => by
    unfold wipe
    by_cases hv : v = i
    · subst hv; rw [List.getElem?_set_self (by rw [wipe_length]; exact h)]; simp
    · rw [List.getElem?_set_ne hv, wipe_at h]
      have : i ≠ v := fun z => hv z.symm
      simp [this]
theorem wipe_eq {σ σ' : St} {is vs : List Nat} (hl : σ'.length = σ.length) (hk : ∀ j, j ∉ is → σ'[j]? = σ[j]?) (hs : ∀ i ∈ is, i ∈ vs) : wipe σ' vs = wipe σ vs := by
  apply List.ext_getElem?
  intro i
  by_cases hi : i < σ.length
  · rw [wipe_at hi, wipe_at (by rw [hl]; exact hi)]
    by_cases hv : i ∈ vs
    · simp [hv]
    · simp only [hv, if_false]
      exact hk i fun z => hv (hs i z)
  · rw [List.getElem?_eq_none (by rw [wipe_length]; omega), List.getElem?_eq_none (by rw [wipe_length]; omega)]
theorem wipe_wipe {σ : St} {vs : List Nat} : wipe (wipe σ vs) vs = wipe σ vs := by
  apply List.ext_getElem?
  intro i
  by_cases hi : i < σ.length
  · rw [wipe_at (by rw [wipe_length]; exact hi), wipe_at hi]
    by_cases hv : i ∈ vs <;> simp [hv]
  · rw [List.getElem?_eq_none (by rw [wipe_length, wipe_length]; omega), List.getElem?_eq_none (by rw [wipe_length]; omega)]
section
variable {K : PySem.W.Frag} {F : Addr → Prop} {σ σ' : St} {H H' : Hp} {ρ ρ' ρ0 : List S} {A A' : List (Option Addr)} {vs : List Nat}
theorem clean_at (c : clean vs ρ = true) {i : Nat} (hi : i ∈ vs) : ∃ s, ρ[i]? = some s ∧ plainS s = true := by
  have h := List.all_eq_true.mp c i hi
  cases q : ρ[i]? with
  | none => simp [q] at h
  | some s => simp [q] at h; exact ⟨s, rfl, h⟩
theorem clean_none (g : Good K F σ H ρ A) (c : clean vs ρ = true) {i : Nat} (hi : i ∈ vs) : A[i]? = some none := by
  obtain ⟨s, e, p⟩ := clean_at c hi
  have k := g.slot i s e
  cases s with
  | u => exact k
  | sh d => exact k.1
  | fz d => exact k.1
  | ow d => cases p
  | cu x y => cases p
theorem Good.wipe (g : Good K F σ H ρ A) (c : clean vs ρ = true) (hσ : ∀ j, j ∉ vs → σ'[j]? = σ[j]?) (hl : σ'.length = σ.length) : Good K F σ' H (wipeS ρ vs) A := by
  refine ⟨by rw [wipeS_len, hl]; exact g.l1, by rw [wipeS_len]; exact g.l2, g.inj, g.dis, g.trk, fun i s e => ?_⟩
  have hi : i < ρ.length := by have := lt_of_ix e; rw [wipeS_len] at this; exact this
  rw [wipeS_at hi] at e
  by_cases hv : i ∈ vs
  · simp only [hv, if_true] at e; cases e
    exact clean_none g c hv
  · simp only [hv, if_false] at e
    rw [hσ i hv]
    exact g.slot i s e
/-- the own slots as they were ahead of it -/
theorem Good.rest (g : Good K F σ' H' ρ' A') (hu : ∀ i ∈ vs, ρ'[i]? = some .u) (c : clean vs ρ0 = true) (g0 : ∀ i s, i ∈ vs → ρ0[i]? = some s → SlotOk K H' (vw H' (hid F A')) (σ[i]?) (some none) s) (hσ : ∀ j, j ∉ vs → σ[j]? = σ'[j]?) (hl : σ.length = σ'.length) : Good K F σ H' (restS ρ0 ρ' vs) A' := by
  refine ⟨by rw [restS_len, hl]; exact g.l1, by rw [restS_len]; exact g.l2, g.inj, g.dis, g.trk, fun i s e => ?_⟩
  have hi : i < ρ'.length := by have := lt_of_ix e; rw [restS_len] at this; exact this
  rw [restS_at hi] at e
  by_cases hv : i ∈ vs
  · simp only [hv, if_true] at e
    obtain ⟨s', e', p'⟩ := clean_at c hv
    have hA : A'[i]? = some none := g.slot i .u (hu i hv)
    have es : s = s' := by
      rw [List.getD_eq_getElem?_getD, e'] at e
      exact (Option.some.inj e).symm
    rw [hA]
    exact g0 i s hv (by rw [es]; exact e')
  · simp only [hv, if_false] at e
    rw [hσ i hv]
    exact g.slot i s e
theorem wipe_of {σ' σ : St} (h : wipe σ' vs = wipe σ vs) (hl : σ'.length = σ.length) : ∀ j, j ∉ vs → σ'[j]? = σ[j]? := fun j hj => by
  by_cases hi : j < σ.length
  · have := congrArg (fun l => l[j]?) h
    simp only [wipe_at hi, wipe_at (show j < σ'.length by omega), hj, if_false] at this
    exact this
  · rw [List.getElem?_eq_none (by omega), List.getElem?_eq_none (by omega)]
/-- a foreign hidden object is written -/
theorem Good.writeF {a : Addr} {o : HO} (g : Good K F σ H ρ A) (ha : F a) : Good K F σ (upd H a o) ρ A := by
  have hv : Same (vw H (hid F A)) (vw (upd H a o) (hid F A)) := vw_mono (fun _ z => z) fun b u n e => by
    rw [upd_ne (fun z => n (by rw [z]; exact .inl ha))]; exact e
  refine ⟨g.l1, g.l2, g.inj, g.dis, fun b hb => ?_, fun i s e => (g.slot i s e).mono (fun b hb => ?_) hv⟩
  · by_cases q : b = a
    · subst q; rw [upd_same]; exact fun z => nomatch z
    · rw [upd_ne q]; exact g.trk b hb
  · rw [upd_ne (fun z => g.dis i b hb (by rw [z]; exact ha))]
theorem view_writeF {a : Addr} {o : HO} (ha : F a) : Same (vw H (hid F A)) (vw (upd H a o) (hid F A)) := vw_mono (fun _ z => z) fun b u n e => by
  rw [upd_ne (fun z => n (by rw [z]; exact .inl ha))]; exact e
end
def lcL (vs : List Nat) (t : GF) (c : BF) (f : EF) : List D → List S → List D → Option (List D × List S)
  | [], ρ, acc => some (acc, ρ)
  | d :: ds, ρ, acc => (t d ρ).bind fun ρ1 => (toOpt (c ρ1)).bind fun p => if p.1 = true then (toOpt (f p.2)).bind fun q => match q.1 with
        | .sh d' => if clean vs q.2 && decide (acc.length < 16777216) then lcL vs t c f ds (wipeS q.2 vs) (acc ++ [d']) else none
        | .ow d' => if clean vs q.2 && decide (acc.length < 16777216) then lcL vs t c f ds (wipeS q.2 vs) (acc ++ [d']) else none
        | _ => none
      else if clean vs p.2 then lcL vs t c f ds (wipeS p.2 vs) acc else none
def fLc (vs : List Nat) (fi : IF) (t : GF) (c : BF) (f : EF) : EF := fun ρ => fi ρ >>= fun p => if clean vs p.2 then Rs.of (lcL vs t c f p.1 (wipeS p.2 vs) []) >>= fun q => .ok (.ow (.list q.1), restS p.2 q.2 vs) else .no
def bYes : BF := fun ρ => .ok (true, ρ)
section
variable {X : Cx} {K : PySem.W.Frag} {mg : Str → Option Value} {W : WX} {n : Nat} {pos : Pos} {is vs : List Nat} {t : GF} {c : BF} {f : EF} {fi : IF}
theorem tyes_imp : ∀ σ H Q, TB' K mg W bYes σ H Q → tYes σ H Q := fun σ H Q ⟨F, ρ, A, g, po⟩ => po H A g Stp.refl
theorem pts_none : PTs X [] (TB' K mg W bYes) := ⟨fun p s σ H Q I q => pts_nil.run p s σ H Q I (tyes_imp σ H Q q)⟩
structure LcSt (F : Addr → Prop) (H : Hp) (ρ : List S) (A : List (Option Addr)) (D' : Addr) (H' : Hp) (ρ' : List S) (A' : List (Option Addr)) : Prop where
  kf : ∀ b, F b → H' b = H b
  vs : Same (vw H (hid F A)) (vw H' (hid (adj F D') A'))
  cu : ∀ (i : Nat) (x y : Int), ρ[i]? = some (S.cu x y) → A'[i]? = A[i]? ∧ ∃ x' y' : Int, ρ'[i]? = some (S.cu x' y')
theorem LcSt.step {F : Addr → Prop} {H H1 H2 : Hp} {ρ ρ1 ρ2 : List S} {A A1 A2 : List (Option Addr)} {D' : Addr} (a : LcSt F H ρ A D' H1 ρ1 A1) (b : Stp (adj F D') H1 ρ1 A1 H2 ρ2 A2) : LcSt F H ρ A D' H2 ρ2 A2 :=
  ⟨fun c h => (b.kf c (.inl h)).trans (a.kf c h), a.vs.trans b.vs, fun i x y h => by
    obtain ⟨e, x', y', h'⟩ := a.cu i x y h
    obtain ⟨e', q⟩ := b.cu i x' y' h'
    exact ⟨e'.trans e, q⟩⟩
theorem LcSt.wipe {F : Addr → Prop} {H H1 : Hp} {ρ ρ1 : List S} {A A1 : List (Option Addr)} {D' : Addr} (a : LcSt F H ρ A D' H1 ρ1 A1) (c : clean vs ρ1 = true) : LcSt F H ρ A D' H1 (wipeS ρ1 vs) A1 :=
  ⟨a.kf, a.vs, fun i x y h => by
    obtain ⟨e, x', y', h'⟩ := a.cu i x y h
    refine ⟨e, x', y', ?_⟩
    have hv : i ∉ vs := fun hv => by obtain ⟨s, e, p⟩ := clean_at c hv; rw [h'] at e; cases e; cases p
    rw [wipeS_at (lt_of_ix h')]
    simp [hv, h']⟩
theorem LcSt.write {F : Addr → Prop} {H H1 : Hp} {ρ ρ1 : List S} {A A1 : List (Option Addr)} {D' : Addr} {o : HO} (a : LcSt F H ρ A D' H1 ρ1 A1) (n : ¬ F D') : LcSt F H ρ A D' (upd H1 D' o) ρ1 A1 :=
  ⟨fun b h => by rw [upd_ne (fun z => n (by rw [← z]; exact h))]; exact a.kf b h, a.vs.trans (view_writeF (.inr rfl)), a.cu⟩
theorem lc_r (hv : ∀ i ∈ is, i ∈ vs) : ∀ σ H Q, TF K mg W (fLc vs fi t c f) σ H Q → tLc (TIt K mg W fi) (TGt K is t) (TB' K mg W0 c) (TF K mg W0 f) vs σ H Q := by
  intro σ H Q ⟨F, ρ, A, gd, po⟩
  have sl := sizeLine_eq
  refine ⟨F, ρ, A, gd, ?_⟩
  unfold fLc at po
  cases q : fi ρ with
  | no => rw [q] at po; exact po.elim
  | ex ρ' c fs => rw [q] at po; exact po
  | ok pr =>
    obtain ⟨ds, ρ1⟩ := pr
    rw [q] at po
    simp only [Rs.bind_ok] at po
    split at po
    case isFalse => exact po.elim
    case isTrue hcl =>
    obtain ⟨⟨accF, ρF⟩, eF, po⟩ := seqOpt (po := fun o => PoE K mg W F σ H ρ A o Q) poE_no po
    intro J H1 A1 g1 s1 wk Dd hD
    have nFD : ¬ F Dd := fun z => g1.trk Dd z hD
    have gh : Good K (adj F Dd) σ (upd H1 Dd (.lst [])) ρ1 A1 := g1.hide_new hD
    have gw : Good K (adj F Dd) (L2.wipe σ vs) (upd H1 Dd (.lst [])) (wipeS ρ1 vs) A1 := gh.wipe hcl (fun j hj => by
      by_cases hi : j < σ.length
      · rw [wipe_at hi]; simp [hj]
      · rw [List.getElem?_eq_none (by rw [wipe_length]; omega), List.getElem?_eq_none (by omega)]) (wipe_length _ _)
    have L0 : LcSt F H1 ρ1 A1 Dd (upd H1 Dd (.lst [])) ρ1 A1 := ⟨fun b hb => upd_ne (ne_z (g1.trk b hb) hD), view_hide g1 hD, fun i x y h => ⟨rfl, x, y, h⟩⟩
    refine ⟨fun i m H2 => ∃ ρ2 A2 acc us, Good K (adj F Dd) (L2.wipe σ vs) H2 ρ2 A2 ∧ LcSt F H1 ρ1 A1 Dd H2 ρ2 A2 ∧ H2 Dd = some (.lst us) ∧ RpL K (vw H2 (hid (adj F Dd) A2)) us acc ∧ (∀ i ∈ vs, ρ2[i]? = some .u) ∧ i ≤ ds.length ∧ m = ds.length - i ∧ lcL vs t c f (ds.drop i) ρ2 acc = some (accF, ρF),
      ⟨ds.length, wipeS ρ1 vs, A1, [], [], gw, L0.wipe hcl, upd_same, .nil, fun i hi => by
        obtain ⟨s, e, _⟩ := clean_at hcl hi
        rw [wipeS_at (lt_of_ix e)]; simp [hi], Nat.zero_le _, rfl, eF⟩, ?_⟩
    rintro i m H2 ⟨ρ2, A2, acc, us, g2, L2', e2, r2, hu, hi, rfl, ec⟩
    have v2 : Same (vw H1 (hid F A1)) H2 := L2'.vs.trans (vw_same _ _)
    obtain ⟨w1, w2⟩ := wk H2 v2
    by_cases hlt : i < ds.length
    · have hd : ds[i]? = some ds[i] := List.getElem?_eq_getElem hlt
      obtain ⟨go, yl⟩ := w1 i _ hd
      rw [List.drop_eq_getElem_cons hlt] at ec
      unfold lcL at ec
      cases et : t ds[i] ρ2 with
      | none => rw [et] at ec; cases ec
      | some ρ3 =>
        rw [et] at ec
        simp only [Option.bind_some] at ec
        cases eb : toOpt (c ρ3) with
        | none => rw [eb] at ec; cases ec
        | some pb =>
          obtain ⟨b, ρ4⟩ := pb
          rw [eb] at ec
          simp only [Option.bind_some] at ec
          have eb' := toOpt_some eb
          refine .inr ⟨go, fun H5 => ∃ ρ5 A5 acc5 us5, Good K (adj F Dd) (L2.wipe σ vs) H5 ρ5 A5 ∧ LcSt F H1 ρ1 A1 Dd H5 ρ5 A5 ∧ H5 Dd = some (.lst us5) ∧ RpL K (vw H5 (hid (adj F Dd) A5)) us5 acc5 ∧ (∀ i ∈ vs, ρ5[i]? = some .u) ∧ lcL vs t c f (ds.drop (i + 1)) ρ5 acc5 = some (accF, ρF),
            fun H5 ⟨ρ5, A5, acc5, us5, h1, h2, h3, h4, h5, h6⟩ => ⟨ds.length - (i + 1), by omega, ρ5, A5, acc5, us5, h1, h2, h3, h4, h5, hlt, rfl, h6⟩, fun x H3 y => ?_⟩
          obtain ⟨g3, s3, r3⟩ := yok_state g2 L2'.vs (yl x H3 y)
          refine ⟨adj F Dd, ρ2, A2, _, ρ3, g3, r3, et, fun σ4 A4 g4 s4 l4 k4 => ⟨(wipe_eq l4 k4 hv).trans wipe_wipe, adj F Dd, ρ3, A4, g4, ?_⟩⟩
          have hw4 : L2.wipe σ4 vs = L2.wipe σ vs := (wipe_eq l4 k4 hv).trans wipe_wipe
          have hl4 : σ4.length = (L2.wipe σ vs).length := l4
          have kσ : ∀ j, j ∉ vs → (L2.wipe σ vs)[j]? = σ4[j]? := fun j hj => (k4 j fun z => hj (hv j z)).symm
          have L4 := (L2'.step s3).step s4
          rw [eb']
          intro H6 A6 g6 s6
          have L6 := L4.step s6
          have hD6 : H6 Dd = some (.lst us) := by rw [s6.kf Dd (.inr rfl), s3.kf Dd (.inr rfl)]; exact e2
          have r6 : RpL K (vw H6 (hid (adj F Dd) A6)) us acc := ((r2.mono s3.vs).mono s4.vs).mono s6.vs
          have nxt : ∀ (ρ7 : List S) (H7 : Hp) (A7 : List (Option Addr)) (acc7 : List D) (us7 : List V), Good K (adj F Dd) σ4 H7 ρ7 A7 → LcSt F H1 ρ1 A1 Dd H7 ρ7 A7 → H7 Dd = some (.lst us7) → RpL K (vw H7 (hid (adj F Dd) A7)) us7 acc7 → clean vs ρ7 = true → lcL vs t c f (ds.drop (i + 1)) (wipeS ρ7 vs) acc7 = some (accF, ρF) →
              ∃ ρ5 A5 acc5 us5, Good K (adj F Dd) (L2.wipe σ vs) H7 ρ5 A5 ∧ LcSt F H1 ρ1 A1 Dd H7 ρ5 A5 ∧ H7 Dd = some (.lst us5) ∧ RpL K (vw H7 (hid (adj F Dd) A5)) us5 acc5 ∧ (∀ i ∈ vs, ρ5[i]? = some .u) ∧ lcL vs t c f (ds.drop (i + 1)) ρ5 acc5 = some (accF, ρF) :=
            fun ρ7 H7 A7 acc7 us7 h1 h2 h3 h4 h5 h6 => ⟨wipeS ρ7 vs, A7, acc7, us7, h1.wipe h5 kσ hl4.symm, h2.wipe h5, h3, h4, fun j hj => by
              obtain ⟨s, e, _⟩ := clean_at h5 hj
              rw [wipeS_at (lt_of_ix e)]; simp [hj], h6⟩
          cases b with
          | false =>
            simp only [Bool.false_eq_true, if_false] at ec
            split at ec
            · rename_i hc
              exact nxt ρ4 H6 A6 acc us g6 L6 hD6 r6 hc ec
            · cases ec
          | true =>
            simp only [if_true] at ec
            cases ef : toOpt (f ρ4) with
            | none => rw [ef] at ec; cases ec
            | some pf =>
              obtain ⟨r, ρ7⟩ := pf
              rw [ef] at ec
              simp only [Option.bind_some] at ec
              have ef' := toOpt_some ef
              show TF K mg W0 f σ4 H6 _
              refine ⟨adj F Dd, ρ4, A6, g6, ?_⟩
              rw [ef']
              have fin : ∀ d' v H7, Fin K (adj F Dd) σ4 H6 ρ4 A6 (.sh d') ρ7 v H7 → (if clean vs ρ7 && decide (acc.length < 16777216) then lcL vs t c f (ds.drop (i + 1)) (wipeS ρ7 vs) (acc ++ [d']) else none) = some (accF, ρF) →
                  ∃ us1, H7 Dd = some (.lst us1) ∧ us1.length < sizeLine ∧ ∃ ρ5 A5 acc5 us5, Good K (adj F Dd) (L2.wipe σ vs) (upd H7 Dd (.lst (us1 ++ [v]))) ρ5 A5 ∧ LcSt F H1 ρ1 A1 Dd (upd H7 Dd (.lst (us1 ++ [v]))) ρ5 A5 ∧ (upd H7 Dd (.lst (us1 ++ [v]))) Dd = some (.lst us5) ∧ RpL K (vw (upd H7 Dd (.lst (us1 ++ [v]))) (hid (adj F Dd) A5)) us5 acc5 ∧ (∀ i ∈ vs, ρ5[i]? = some .u) ∧ lcL vs t c f (ds.drop (i + 1)) ρ5 acc5 = some (accF, ρF) := by
                intro d' v H7 ⟨A7, g7, s7, p7⟩ e
                split at e
                · rename_i hc
                  rw [Bool.and_eq_true] at hc
                  have hlen := of_decide_eq_true hc.2
                  have hD7 : H7 Dd = some (.lst us) := by rw [s7.kf Dd (.inr rfl)]; exact hD6
                  have r7 : RpL K (vw H7 (hid (adj F Dd) A7)) us acc := r6.mono s7.vs
                  refine ⟨us, hD7, by rw [r7.len]; omega, nxt ρ7 _ A7 (acc ++ [d']) (us ++ [v]) (g7.writeF (.inr rfl)) ((L6.step s7).write nFD) upd_same ((r7.app (.cons p7 .nil)).mono (view_writeF (.inr rfl))) hc.1 e⟩
                · cases e
              cases r with
              | sh d' => intro v H7 f7; exact fin d' v H7 f7 ec
              | ow d' => intro v H7 f7; exact fin d' v H7 f7.weak ec
              | _ => cases ec
    · have e : i = ds.length := by omega
      subst e
      rw [List.drop_length] at ec
      cases ec
      refine .inl ⟨w2, po _ H2 ⟨A2, Dd, rfl, nFD, ?_, ?_, ?_, us, e2, r2⟩⟩
      · refine g2.rest hu hcl (fun i s hi e => ?_) (fun j hj => ?_) (wipe_length _ _).symm
        · have k := g1.slot i s e
          have hn := clean_none g1 hcl hi
          rw [hn] at k
          exact k.mono (fun _ z => by cases z) L2'.vs
        · by_cases hi : j < σ.length
          · rw [wipe_at hi]; simp [hj]
          · rw [List.getElem?_eq_none (by omega), List.getElem?_eq_none (by rw [wipe_length]; omega)]
      · refine ⟨fun b hb => (L2'.kf b hb).trans (s1.kf b hb), s1.vs.trans (L2'.vs.trans view_unhide), fun j x y h => ?_⟩
        obtain ⟨q1, x', y', q2⟩ := s1.cu j x y h
        obtain ⟨q3, x2, y2, q4⟩ := L2'.cu j x' y' q2
        refine ⟨q3.trans q1, x2, y2, ?_⟩
        have hv : j ∉ vs := fun hv => by obtain ⟨s, e, p⟩ := clean_at hcl hv; rw [q2] at e; cases e; cases p
        rw [restS_at (lt_of_ix q4)]
        simp [hv, q4]
      · exact s1.vs.trans L2'.vs
variable {elt tg iter : Expr} {ifs : List Expr} {scope : Scope} {own : List (Str × Nat)}
theorem ev_lc (ct : Ct X K mg W n) (hv : ∀ i ∈ is, i ∈ own.map (·.2)) (hi : PI X tg iter (TIt K mg W fi)) (ok : BlkOk X.N X.env.scope scope own)
    (hg : ∀ (s : Shared) (H : Hp) (C : Addr) (cl : List (Str × Addr)) (fp : List Addr), PG (X.blk s H scope (compEnvC scope cl C X.env) fp) tg (TGt K is t)) (ht : ∀ (s : Shared) (H : Hp) (C : Addr) (cl : List (Str × Addr)) (fp : List Addr), PTs (X.blk s H scope (compEnvC scope cl C X.env) fp) ifs (TB' K mg W0 c))
    (he : ∀ (s : Shared) (H : Hp) (C : Addr) (cl : List (Str × Addr)) (fp : List Addr), PE (X.blk s H scope (compEnvC scope cl C X.env) fp) elt (TF K mg W0 f)) (hs : ∀ x, foldedSetIterable iter X.env x = pure x := by intro _; rfl) :
    PE X (.ListComp elt [⟨tg, iter, ifs, 0⟩] scope pos) (TF K mg W (fLc (own.map (·.2)) fi t c f)) := pe_imp (pe_lc ct.calm ct.nd hi ok hg ht he hs) (lc_r hv)
theorem st_setLc {i : Nat} {y : Str} {py spos : Pos} (ct : Ct X K mg W n) (hv : ∀ i ∈ is, i ∈ own.map (·.2)) (hy : X.N[i]? = some y) (hyl : X.env.scope.names.lookup y = some .local)
    (hsw : swapsWith (.ListComp elt [⟨tg, iter, ifs, 0⟩] scope pos) (some (.Name y py)) spos.line X.env = pure true) (hi : PI X tg iter (TIt K mg W fi)) (ok : BlkOk X.N X.env.scope scope own)
    (hg : ∀ (s : Shared) (H : Hp) (C : Addr) (cl : List (Str × Addr)) (fp : List Addr), PG (X.blk s H scope (compEnvC scope cl C X.env) fp) tg (TGt K is t)) (ht : ∀ (s : Shared) (H : Hp) (C : Addr) (cl : List (Str × Addr)) (fp : List Addr), PTs (X.blk s H scope (compEnvC scope cl C X.env) fp) ifs (TB' K mg W0 c))
    (he : ∀ (s : Shared) (H : Hp) (C : Addr) (cl : List (Str × Addr)) (fp : List Addr), PE (X.blk s H scope (compEnvC scope cl C X.env) fp) elt (TF K mg W0 f)) (hs : ∀ x, foldedSetIterable iter X.env x = pure x := by intro _; rfl) :
    PS X (.Assign [.Name y py] (.ListComp elt [⟨tg, iter, ifs, 0⟩] scope pos) spos) (TSt K mg W (sSet i (fLc (own.map (·.2)) fi t c f))) := by
  refine ps_imp (ps_setLc ct.calm ct.nd hy hyl hsw hi ok hg ht he hs) fun D' σ H h => ?_
  have h1 := set_r (f := fLc (own.map (·.2)) fi t c f) D' σ H h
  exact lc_r hv σ H _ h1
theorem Ct.blk (ct : Ct X K mg W n) (s : Shared) (H : Hp) (cenv : Env) (fp : List Addr) : Ct (X.blk s H scope cenv fp) K mg W0 n := ⟨ct.k, ct.m, takes0, ct.calm, ct.nd, ct.room⟩
end
end Z
end
section
namespace Z
open PySem PySem.Spec L2

section
variable {X : Cx} {K : PySem.W.Frag} {mg : Str → Option Value} {W : WX} {n : Nat} {pos apos cpos : Pos} {e : Expr} {f : EF} {fo : OF} {fA : AF}
/-! ### lists of one's own, changed -/
/-- x.append(e) -/
def appS (i : Nat) (d : D) (ρ : List S) : Rs (S × List S) := match ρ[i]? with
  | some (.ow (.list ds)) => if ds.length < 16777216 then .ok (.sh .none, ρ.set i (.ow (.list (ds ++ [d])))) else .no
  | _ => .no
def fAppend (i : Nat) (f : EF) : EF := fun ρ => match ρ[i]? with
  | some (.ow (.list _)) => f ρ >>= fun p => match p.1 with
    | .sh d => appS i d p.2
    | .ow d => appS i d p.2
    | _ => .no
  | _ => .no
theorem ev_append {c : Expr} (i : Nat) (h : PE X c (tBM X.K "list" rAppend (tVar i) (tCons (TF K mg W f) tNil))) : PE X c (TF K mg W (fAppend i f)) := by
  refine pe_imp h fun σ H Q ⟨F, ρ, A, gd, po⟩ => ?_
  have sl := sizeLine_eq
  unfold fAppend at po
  cases q : ρ[i]? with
  | none => rw [q] at po; exact po.elim
  | some s =>
    rw [q] at po
    cases s with
    | ow d0 =>
      cases d0 with
      | list ds0 =>
        obtain ⟨a, ha, e1, vs0, hH, _⟩ := gd.slot i _ q
        refine ⟨.ref a, e1, .inl ⟨rfl, _, .inl (.inl hH)⟩, ?_⟩
        refine seqE gd (po := fun o => PoE K mg W F σ H ρ A o Q) poE_no (poE_exS Stp.refl) po fun r ρ1 v H1 f1 po => ?_
        have key : ∀ d, Fin K F σ H ρ A (.sh d) ρ1 v H1 → PoE K mg W F σ H ρ A (appS i d ρ1) Q → tNil σ H1 fun xs H2 => rAppend (.ref a) (v :: xs) H2 Q := by
          intro d ⟨A1, g1, s1, p1⟩ po
          unfold appS at po
          cases q1 : ρ1[i]? with
          | none => rw [q1] at po; exact po.elim
          | some s' =>
            rw [q1] at po
            cases s' with
            | ow d1 =>
              cases d1 with
              | list ds =>
                simp only at po
                split at po
                · rename_i hlen
                  obtain ⟨a', ha', e1', vs, hH1, r1⟩ := g1.slot i _ q1
                  rw [e1] at e1'; cases e1'
                  have hl := r1.len
                  refine ⟨a, vs, v, rfl, rfl, hH1, by omega, po _ _ ⟨A1, g1.write ha' e1 ⟨vs ++ [v], upd_same, r1.app (.cons p1 .nil)⟩, s1.trans (Stp.write g1 ha' (fun x y z => by rw [q1] at z; cases z)), .non⟩⟩
                · exact po.elim
              | _ => exact po.elim
            | _ => exact po.elim
        cases r with
        | sh d => exact key d f1 po
        | ow d => exact key d f1.weak po
        | _ => exact po.elim
      | _ => exact po.elim
    | _ => exact po.elim
/-- x.pop() -/
def fPop (i : Nat) : EF := fun ρ => match ρ[i]? with
  | some (.ow (.list ds)) => match ds[ds.length - 1]? with
    | some d => .ok (.sh d, ρ.set i (.ow (.list ds.dropLast)))
    | none => .no
  | _ => .no
theorem RpL.dropLast {H : Hp} {vs : List V} {ds : List D} (r : RpL K H vs ds) : RpL K H vs.dropLast ds.dropLast := by
  rw [List.dropLast_eq_take, List.dropLast_eq_take, r.len]
  exact r.take _
theorem ev_pop {c : Expr} (i : Nat) (h : PE X c (tBM0 X.K "list" rPop (tVar i))) : PE X c (TF K mg W (fPop i)) := by
  refine pe_imp h fun σ H Q ⟨F, ρ, A, gd, po⟩ => ?_
  unfold fPop at po
  cases q : ρ[i]? with
  | none => rw [q] at po; exact po.elim
  | some s =>
    rw [q] at po
    cases s with
    | ow d0 =>
      cases d0 with
      | list ds =>
        obtain ⟨a, ha, e1, vs, hH, r1⟩ := gd.slot i _ q
        simp only at po
        cases e2 : ds[ds.length - 1]? with
        | none => rw [e2] at po; exact po.elim
        | some d =>
          rw [e2] at po
          obtain ⟨v, h1, h2⟩ := r1.get e2
          have st := Stp.write (s := .ow (.list ds.dropLast)) (o := .lst vs.dropLast) gd ha (fun x y z => by rw [q] at z; cases z)
          exact ⟨.ref a, e1, .inl ⟨rfl, _, .inl (.inl hH)⟩, a, vs, v, rfl, rfl, hH, by rw [r1.len]; exact h1, po _ _ ⟨A, gd.write ha e1 ⟨vs.dropLast, upd_same, r1.dropLast⟩, st, h2.mono st.vs⟩⟩
      | _ => exact po.elim
    | _ => exact po.elim
/-- x[i] = e: a list of one's own, or the two numbers -/
def putIx (i : Nat) (d k : D) (ρ : List S) : Rs (Out × List S) := match ρ[i]? with
  | some (.ow (.list ds)) => (match k with
    | .int k => Rs.of (ixN ds.length k) >>= fun j => .ok (.nx, ρ.set i (.ow (.list (ds.set j d))))
    | _ => .no)
  | some (.cu x y) => (match d, k with
    | .int z, .int k => if k = 0 then .ok (.nx, ρ.set i (.cu z y)) else if k = 1 then .ok (.nx, ρ.set i (.cu x z)) else .no
    | _, _ => .no)
  | _ => .no
def isOwn (i : Nat) (ρ : List S) : Bool := match ρ[i]? with
  | some (.ow _) => true
  | some (.cu _ _) => true
  | _ => false
def sSetIx (i : Nat) (f : EF) (fi : OF) : SF := fun ρ => f ρ >>= fun p => match p.1 with
  | .sh d => if isOwn i p.2 = true then fi p.2 >>= fun q => Rs.of (look q.1 q.2) >>= fun k => putIx i d k q.2 else .no
  | _ => .no
theorem st_setIx {st : Stmt} (i : Nat) (h : PS X st (tAsg (TF K mg W f) (L2.gSub (tVar i) (TO' K mg W fo) rSetL))) : PS X st (TSt K mg W (sSetIx i f fo)) := by
  refine ps_imp h fun D' σ H ⟨F, ρ, A, gd, po⟩ => ?_
  refine seqES gd po fun r ρ1 v H1 f1 po => ?_
  cases r with
  | sh d =>
    obtain ⟨A1, g1, s1, p1⟩ := f1
    simp only at po
    split at po
    case isFalse => exact po.elim
    case isTrue ho =>
    have hσ : ∃ a, σ[i]? = some (some (.ref a)) := by
      unfold isOwn at ho
      cases q : ρ1[i]? with
      | none => rw [q] at ho; cases ho
      | some s =>
        rw [q] at ho
        have k := g1.slot i s q
        cases s with
        | ow d => obtain ⟨a, _, e, _⟩ := k; exact ⟨a, e⟩
        | cu x y => obtain ⟨a, _, e, _⟩ := k; exact ⟨a, e⟩
        | _ => cases ho
    obtain ⟨a, ea⟩ := hσ
    refine ⟨.ref a, ea, ?_⟩
    refine seqO g1 (po := fun o => PoS K mg W F σ H ρ A o D') poS_no (poS_exS s1) po fun hk ρ2 w H2 A2 g2 s2 r2 po => ?_
    obtain ⟨k, ek, po⟩ := seqOpt (po := fun o => PoS K mg W F σ H ρ A o D') poS_no po
    have pk := look_ok g2 r2 ek
    have p2 := p1.mono s2.vs
    unfold putIx at po
    cases q : ρ2[i]? with
    | none => rw [q] at po; exact po.elim
    | some s =>
      rw [q] at po
      have ks := g2.slot i s q
      cases s with
      | ow d0 =>
        cases d0 with
        | list ds =>
          obtain ⟨a', ha, e1, vs, hH, r1⟩ := ks
          rw [ea] at e1; cases e1
          cases k with
          | int k =>
            obtain ⟨j, ej, po⟩ := seqOpt (po := fun o => PoS K mg W F σ H ρ A o D') poS_no po
            have st := Stp.write (s := .ow (.list (ds.set j d))) (o := .lst (vs.set j v)) g2 ha (fun x y z => by rw [q] at z; cases z)
            exact ⟨a, vs, k, j, rfl, pk.int, hH, by rw [r1.len]; exact ej, po _ _ _ (g2.write ha ea ⟨_, upd_same, r1.set p2 j⟩) ((s1.trans s2).trans st)⟩
          | _ => exact po.elim
        | _ => exact po.elim
      | cu x y =>
        obtain ⟨a', ha, e1, hH⟩ := ks
        rw [ea] at e1; cases e1
        cases d with
        | int z =>
          cases p2
          cases k with
          | int k =>
            simp only at po
            split at po
            · rename_i hk
              subst hk
              exact ⟨a, _, 0, 0, rfl, pk.int, hH, rfl, po _ _ _ (g2.writeC ha ea) ((s1.trans s2).trans (Stp.write g2 ha (fun x y _ => ⟨_, _, rfl⟩)))⟩
            · split at po
              · rename_i hk
                subst hk
                exact ⟨a, _, 1, 1, rfl, pk.int, hH, rfl, po _ _ _ (g2.writeC ha ea) ((s1.trans s2).trans (Stp.write g2 ha (fun x y _ => ⟨_, _, rfl⟩)))⟩
              · exact po.elim
          | _ => exact po.elim
        | _ => exact po.elim
      | _ => exact po.elim
  | _ => exact po.elim
/-- cup = [x, y]: the two numbers of all draws are made -/
def cupOf : S → Option (Int × Int)
  | .ow (.list [.int x, .int y]) => some (x, y)
  | _ => none
theorem cupOf_some : ∀ {s : S} {x y : Int}, cupOf s = some (x, y) → s = .ow (.list [.int x, .int y]) := by
  intro s x y h
  unfold cupOf at h
  split at h
  · cases h; rfl
  · cases h
def sCup (i : Nat) (f : EF) : SF := fun ρ => f ρ >>= fun p => Rs.of (cupOf p.1) >>= fun c => Rs.of (setS i (.cu c.1 c.2) p.2) >>= fun ρ' => .ok (.nx, ρ')
theorem st_cup {i : Nat} {st : Stmt} (h : PS X st (tAsg (TF K mg W f) (gName i))) : PS X st (TSt K mg W (sCup i f)) := by
  refine ps_imp h fun D' σ H ⟨F, ρ, A, gd, po⟩ => ?_
  refine seqES gd po fun r ρ1 v H1 f1 po => ?_
  obtain ⟨⟨x, y⟩, ec, po⟩ := seqOpt (po := fun o => PoS K mg W F σ H ρ A o D') poS_no po
  have := cupOf_some ec
  subst this
  · obtain ⟨ρ', e1, po⟩ := seqOpt (po := fun o => PoS K mg W F σ H ρ A o D') poS_no po
    obtain ⟨h1, rfl, h2⟩ := setS_some e1
    obtain ⟨A1, a, rfl, na, g1, s1, m1, o1⟩ := f1
    have g2 := g1.putO na h1 o1
    obtain ⟨vs, hH, rr⟩ := o1
    have hvs : vs = [.int x, .int y] := rp_ints (ns := [x, y]) rr
    subst hvs
    refine po _ H1 _ ⟨?_, ?_, g2.inj, g2.dis, g2.trk, fun j s e => ?_⟩ ⟨s1.kf, m1.trans view_putO, fun j x y e => ?_⟩
    · rw [g2.l1]; simp
    · rw [g2.l2]; simp
    · by_cases hj : i = j
      · subst hj
        rw [List.getElem?_set_self h1] at e; cases e
        obtain ⟨a', q1, q2, _⟩ := g2.slot i _ (List.getElem?_set_self h1)
        have hA : i < A1.length := by rw [g1.l2]; exact h1
        rw [List.getElem?_set_self hA] at q1 ⊢
        exact ⟨a, rfl, by rw [q2]; cases q1; rfl, hH⟩
      · rw [List.getElem?_set_ne hj] at e
        exact g2.slot j s (by rw [List.getElem?_set_ne hj]; exact e)
    · obtain ⟨q1, x', y', q2⟩ := s1.cu j x y e
      have hj : i ≠ j := fun z => by subst z; exact h2 _ _ q2
      rw [List.getElem?_set_ne hj, List.getElem?_set_ne hj]
      exact ⟨q1, x', y', q2⟩

/-! ### what a def promises -/
/-- what is known behind a call: F what the caller hides -/
def FinF (K : PySem.W.Frag) (F : Addr → Prop) (H H' : Hp) (v : V) : S → Prop
  | .sh d => Same (vw H F) (vw H' F) ∧ Rp K (vw H' F) v d
  | .ow d => ∃ a, v = .ref a ∧ ¬ F a ∧ Same (vw H F) (vw H' (adj F a)) ∧ Ow K H' (vw H' (adj F a)) a d
  | _ => False
/-- a def of values -/
def spF (K : PySem.W.Frag) (mg : Str → Option Value) (m : Nat) (mf : List S → Rs S) : Sp := fun vs H Q E => ∃ (F : Addr → Prop) (args : List S), SReps K (vw H F) vs args ∧ args.length = m ∧ (∀ b, F b → H b ≠ none) ∧ match mf args with
  | .ok r => ∀ v H', (∀ b, F b → H' b = H b) → FinF K F H H' v r → Q v H'
  | .ex _ c fs => ∀ C d H', (∀ b, F b → H' b = H b) → Same (vw H F) (vw H' F) → ExV mg c fs C d H' → E C d H'
  | .no => False
/-- a def that draws: the two numbers come first -/
def spC (K : PySem.W.Frag) (mg : Str → Option Value) (m : Nat) (mf : Int → Int → List S → Rs (S × Int × Int)) : Sp := fun vs H Q E => ∃ (F : Addr → Prop) (c : Addr) (x y : Int) (vs' : List V) (args : List S), vs = .ref c :: vs' ∧ ¬ F c ∧ H c = some (.lst [.int x, .int y]) ∧ SReps K (vw H (adj F c)) vs' args ∧ args.length = m ∧ (∀ b, F b → H b ≠ none) ∧ match mf x y args with
  | .ok (r, x', y') => ∀ v H', (∀ b, F b → H' b = H b) → H' c = some (.lst [.int x', .int y']) → FinF K (adj F c) H H' v r → Q v H'
  | _ => False
theorem SReps.len {W' : Hp} : ∀ {vs : List V} {rs : List S}, SReps K W' vs rs → vs.length = rs.length
  | _, _, .nil => rfl
  | _, _, .cons _ t => by simp [SReps.len t]

/-! ### calls -/
def fUser (mf : List S → Rs S) (fA : AF) : EF := fun ρ => fA ρ >>= fun p => match mf p.1 with
  | .ok r => .ok (r, p.2)
  | .ex _ c fs => .ex p.2 c fs
  | .no => .no
def fUser0 (mf : List S → Rs S) : EF := fun ρ => match mf [] with
  | .ok r => .ok (r, ρ)
  | _ => .no
def fUserC (mf : Int → Int → List S → Rs (S × Int × Int)) (i : Nat) (fA : AF) : EF := fun ρ => match ρ[i]? with
  | some (.cu _ _) => fA ρ >>= fun p => (match p.2[i]? with
    | some (.cu x y) => (match mf x y p.1 with
      | .ok (r, x', y') => .ok (r, p.2.set i (.cu x' y'))
      | _ => .no)
    | _ => .no)
  | _ => .no
/-- the caller's state behind a call that hides it all -/
theorem fin_call {F : Addr → Prop} {σ : St} {H H' : Hp} {ρ : List S} {A : List (Option Addr)} {v : V} {r : S} (g : Good K F σ H ρ A) (k : ∀ b, hid F A b → H' b = H b) (f : FinF K (hid F A) H H' v r) : Fin K F σ H ρ A r ρ v H' := by
  have kA : ∀ (i : Nat) (a : Addr), A[i]? = some (some a) → H' a = H a := fun i a e => k a (.inr (mem_of_ix e))
  have cu : ∀ (i : Nat) (x y : Int), ρ[i]? = some (S.cu x y) → A[i]? = A[i]? ∧ ∃ x' y' : Int, ρ[i]? = some (S.cu x' y') := fun i x y e => ⟨rfl, x, y, e⟩
  cases r with
  | sh d =>
    obtain ⟨s, p⟩ := f
    exact ⟨A, ⟨g.l1, g.l2, g.inj, g.dis, fun b hb => by rw [k b (.inl hb)]; exact g.trk b hb, fun i t e => (g.slot i t e).mono (kA i) s⟩, ⟨fun b hb => k b (.inl hb), s, cu⟩, p⟩
  | ow d =>
    obtain ⟨a, rfl, na, s, o⟩ := f
    have eq1 : vw H' (adj (hid F A) a) = vw H' (hid (adj F a) A) := vw_congr fun b => by
      constructor
      · rintro ((z | z) | z)
        · exact .inl (.inl z)
        · exact .inr z
        · exact .inl (.inr z)
      · rintro ((z | z) | z)
        · exact .inl (.inl z)
        · exact .inr z
        · exact .inl (.inr z)
    rw [eq1] at s o
    have ho := o.tr
    refine ⟨A, a, rfl, fun z => na (.inl z), ⟨g.l1, g.l2, g.inj, fun i b e z => ?_, fun b hb => ?_, fun i t e => (g.slot i t e).mono (kA i) s⟩, ⟨fun b hb => k b (.inl hb), s.trans view_unhide, cu⟩, s, o⟩
    · rcases z with z | z
      · exact g.dis i b e z
      · subst z; exact na (.inr (mem_of_ix e))
    · rcases hb with hb | hb
      · rw [k b (.inl hb)]; exact g.trk b hb
      · subst hb; exact ho
  | _ => exact f.elim
variable {x : Str} {p : Pos} {es : List Expr} {fA : AF} {k m : Nat} {fa : Addr} {fd : FuncData} {ps : List Str} {mf : List S → Rs S} {mc : Int → Int → List S → Rs (S × Int × Int)}
theorem ev_call (ct : Ct X K mg W n) (Fn : FnOk X.prog X.w X.K X.mg X.base (L2.CX X.prog X.w) k fa fd ps (spF X.K X.mg m mf)) (hn : k ≤ n) (hg : Gl X x) (hm : mg x = some (.ref fa)) (hk : PySem.W.keepIn X.K (.ref fa) = true) (hb : Binds X.K fd ps [])
    (ha : PA X (e :: es) (TAr K mg W fA)) (hl : (e :: es).length = m := by rfl) (hdb : (x == ("__debug__" : Str)) = false := by decide) (he : starEach (e :: es) X.env = (false, eval e X.env) :: starEach es X.env := by rfl) (hpl : (backTo pos (starEach es X.env)).any (·.1) = false := by rfl)
    (hlen : ∀ ρ q, fA ρ = .ok q → q.1.length = m) :
    PE X (.Call (.Name x p) (e :: es) [] pos) (TF K mg W (fUser mf fA)) := by
  obtain ⟨rfl, rfl, tk, _, _, room⟩ := ct
  refine pe_imp (pe_callS Fn (room.mono hn) hg hm hk hb (fun σ => passAt tk σ) ha hdb he hpl) fun σ H Q ⟨F, ρ, A, gd, po⟩ => ?_
  refine ⟨F, ρ, A, gd, ?_⟩
  unfold fUser at po
  cases q : fA ρ with
  | no => rw [q] at po; exact po.elim
  | ex ρ' c fs => rw [q] at po; exact po
  | ok pr =>
    obtain ⟨rs, ρ1⟩ := pr
    have hl2 := hlen ρ _ q
    rw [q] at po
    intro vs H1 A1 g1 s1 r1
    refine ⟨hid F A1, rs, r1, hl2, fun b hb => g1.htr hb, ?_⟩
    simp only [Rs.bind_ok] at po
    cases q2 : mf rs with
    | no => rw [q2] at po; exact po.elim
    | ok r => rw [q2] at po; exact fun v H' kk ff => po v H' ((fin_call g1 kk ff).trans s1)
    | ex ρ' c fs =>
      rw [q2] at po
      intro C d H' kk ss ee
      have g2 : Good X.K F σ H' ρ1 A1 := ⟨g1.l1, g1.l2, g1.inj, g1.dis, fun b hb => by rw [kk b (.inl hb)]; exact g1.trk b hb, fun i t e => (g1.slot i t e).mono (fun a ha => kk a (.inr (mem_of_ix ha))) ss⟩
      exact po C d H' A1 g2 (s1.trans ⟨fun b hb => kk b (.inl hb), ss, fun i x y e => ⟨rfl, x, y, e⟩⟩) ee
theorem ev_call0 (ct : Ct X K mg W n) (Fn : FnOk X.prog X.w X.K X.mg X.base (L2.CX X.prog X.w) k fa fd ps (spF X.K X.mg 0 mf)) (hn : k ≤ n) (hg : Gl X x) (hm : mg x = some (.ref fa)) (hk : PySem.W.keepIn X.K (.ref fa) = true) (hb : Binds X.K fd ps []) (hdb : (x == ("__debug__" : Str)) = false := by decide) :
    PE X (.Call (.Name x p) [] [] pos) (TF K mg W (fUser0 mf)) := by
  obtain ⟨rfl, rfl, tk, _, _, room⟩ := ct
  refine pe_imp (pe_call0 Fn (room.mono hn) hg hm hk hb .nil passL hdb) fun σ H Q ⟨F, ρ, A, gd, po⟩ => ?_
  unfold fUser0 at po
  refine ⟨hid F A, [], .nil, rfl, fun b hb => gd.htr hb, ?_⟩
  cases q2 : mf [] with
  | no => rw [q2] at po; exact po.elim
  | ok r => rw [q2] at po; exact fun v H' kk ff => po v H' (fin_call gd kk ff)
  | ex ρ' c fs => rw [q2] at po; exact po.elim
theorem ev_callC {y : Str} {p2 : Pos} (i : Nat) (ct : Ct X K mg W n) (Fn : FnOk X.prog X.w X.K X.mg X.base (L2.CX X.prog X.w) k fa fd ps (spC X.K X.mg m mc)) (hn : k ≤ n) (hg : Gl X x) (hm : mg x = some (.ref fa)) (hk : PySem.W.keepIn X.K (.ref fa) = true) (hb : Binds X.K fd ps [])
    (hN : X.N[i]? = some y) (hv : Vis X.env.scope y) (ha : PA X es (TAr K mg W fA)) (hlen : ∀ ρ q, fA ρ = .ok q → q.1.length = m) (hd : (y == ("__debug__" : Str)) = false := by decide) (hcd : (y == ("__classdict__" : Str)) = false := by decide)
    (hdb : (x == ("__debug__" : Str)) = false := by decide) (he : starEach (.Name y p2 :: es) X.env = (false, eval (.Name y p2) X.env) :: starEach es X.env := by rfl) (hpl : (backTo pos (starEach es X.env)).any (·.1) = false := by rfl) :
    PE X (.Call (.Name x p) (.Name y p2 :: es) [] pos) (TF K mg W (fUserC mc i fA)) := by
  obtain ⟨rfl, rfl, tk, _, _, room⟩ := ct
  refine pe_imp (pe_callS Fn (room.mono hn) hg hm hk hb (fun σ => passAt tk σ) (pa_cons (pe_var hN hv hd hcd) ha he) hdb he hpl) fun σ H Q ⟨F, ρ, A, gd, po⟩ => ?_
  unfold fUserC at po
  cases q0 : ρ[i]? with
  | none => rw [q0] at po; exact po.elim
  | some s0 =>
    rw [q0] at po
    cases s0 with
    | cu x0 y0 =>
      obtain ⟨c, ha0, e0, _⟩ := gd.slot i _ q0
      refine ⟨.ref c, e0, F, ρ, A, gd, ?_⟩
      simp only at po
      cases q : fA ρ with
      | no => rw [q] at po; exact po.elim
      | ex ρ' c fs => rw [q] at po; exact po
      | ok pr =>
        obtain ⟨rs, ρ1⟩ := pr
        have hl2 := hlen ρ _ q
        rw [q] at po
        intro vs H1 A1 g1 s1 r1
        simp only [Rs.bind_ok] at po
        cases q1 : ρ1[i]? with
        | none => rw [q1] at po; exact po.elim
        | some t1 =>
          rw [q1] at po
          cases t1 with
          | cu a b =>
            simp only at po
            obtain ⟨c', ha1, e1, hH⟩ := g1.slot i _ q1
            rw [e0] at e1; cases e1
            have nh : ¬ hid F (A1.set i none) c := not_hid_let g1 ha1
            have ev : ∀ h : Hp, vw h (adj (hid F (A1.set i none)) c) = vw h (hid F A1) := fun h => vw_congr fun b => by
              constructor
              · rintro ((z | z) | z)
                · exact .inl z
                · exact .inr (mem_set_none z)
                · subst z; exact .inr (mem_of_ix ha1)
              · rintro (z | z)
                · exact .inl (.inl z)
                · by_cases hb : b = c
                  · exact .inr hb
                  · exact .inl (.inr (mem_set_ne g1 ha1 z hb))
            refine ⟨hid F (A1.set i none), c, a, b, vs, rs, rfl, nh, hH, by rw [ev]; exact r1, hl2, fun b hb => g1.htr (hb.elim .inl fun z => .inr (mem_set_none z)), ?_⟩
            cases q2 : mc a b rs with
            | no => rw [q2] at po; exact po.elim
            | ex ρ' c fs => rw [q2] at po; exact po.elim
            | ok t =>
              obtain ⟨r, a', b'⟩ := t
              rw [q2] at po
              intro v H' kk hc ff
              have hadj : ∀ b, hid F A1 b → b ≠ c → H' b = H1 b := fun b hb hne => kk b (hb.elim .inl fun z => .inr (mem_set_ne g1 ha1 z hne))
              have kA : ∀ (j : Nat) (a : Addr), i ≠ j → A1[j]? = some (some a) → H' a = H1 a := fun j a hj e => hadj a (.inr (mem_of_ix e)) fun z => hj (g1.inj i j c ha1 (by rw [← z]; exact e))
              have hi := lt_of_ix q1
              have mkG : ∀ {G : Addr → Prop}, (∀ (j : Nat) (a : Addr), A1[j]? = some (some a) → ¬ G a) → (∀ b, G b → H' b ≠ none) → Same (vw H1 (hid F A1)) (vw H' (hid G A1)) → Good X.K G σ H' (ρ1.set i (.cu a' b')) A1 := fun {G} hd ht hs => by
                refine ⟨by simp [g1.l1], by simp [g1.l2], g1.inj, hd, ht, fun j s e => ?_⟩
                by_cases hj : i = j
                · subst hj
                  rw [List.getElem?_set_self hi] at e; cases e
                  exact ⟨c, ha1, e0, hc⟩
                · rw [List.getElem?_set_ne hj] at e
                  exact (g1.slot j s e).mono (fun b hb => kA j b hj hb) hs
              have fnc : ∀ b, F b → b ≠ c := fun b hb z => g1.dis i c ha1 (by rw [← z]; exact hb)
              have kF : ∀ b, F b → H' b = H1 b := fun b hb => kk b (.inl hb)
              have trkF : ∀ b, F b → H' b ≠ none := fun b hb => by rw [kF b hb]; exact g1.trk b hb
              have mkS : Same (vw H1 (hid F A1)) (vw H' (hid F A1)) → Stp F H1 ρ1 A1 H' (ρ1.set i (.cu a' b')) A1 := fun hs => ⟨kF, hs, fun j x y e => by
                refine ⟨rfl, ?_⟩
                by_cases hj : i = j
                · subst hj; exact ⟨a', b', List.getElem?_set_self hi⟩
                · rw [List.getElem?_set_ne hj]; exact ⟨x, y, e⟩⟩
              refine po v H' (Fin.trans s1 ?_)
              cases r with
              | sh d =>
                obtain ⟨ss, pp⟩ := ff
                rw [ev, ev] at ss
                rw [ev] at pp
                exact ⟨A1, mkG g1.dis trkF ss, mkS ss, pp⟩
              | ow d =>
                obtain ⟨l, rfl, nl, ss, oo⟩ := ff
                have ev2 : vw H' (adj (adj (hid F (A1.set i none)) c) l) = vw H' (hid (adj F l) A1) := vw_congr fun b => by
                  constructor
                  · rintro (((z | z) | z) | z)
                    · exact .inl (.inl z)
                    · exact .inr (mem_set_none z)
                    · subst z; exact .inr (mem_of_ix ha1)
                    · exact .inl (.inr z)
                  · rintro ((z | z) | z)
                    · exact .inl (.inl (.inl z))
                    · exact .inr z
                    · by_cases hb : b = c
                      · exact .inl (.inr hb)
                      · exact .inl (.inl (.inr (mem_set_ne g1 ha1 z hb)))
                rw [ev, ev2] at ss
                rw [ev2] at oo
                have nlA : ∀ (j : Nat) (b : Addr), A1[j]? = some (some b) → b ≠ l := fun j b e z => by
                  subst z
                  by_cases hb : b = c
                  · exact nl (.inr hb)
                  · exact nl (.inl (.inr (mem_set_ne g1 ha1 (mem_of_ix e) hb)))
                refine ⟨A1, l, rfl, fun z => nl (.inl (.inl z)), mkG (fun j b e z => z.elim (g1.dis j b e) (nlA j b e)) (fun b hb => hb.elim (trkF b) fun z => by rw [z]; exact oo.tr) ss, mkS (ss.trans view_unhide), ss, oo⟩
              | _ => exact ff.elim
          | _ => exact po.elim
    | _ => exact po.elim
end

/-! ### a def, by its body -/
def retF (g : SF) (N : Nat) (args : List S) : Rs S := match g (args ++ List.replicate (N - args.length) .u) with
  | .ok (.rt (.sh d), _) => .ok (.sh d)
  | .ok (.rt (.ow d), _) => .ok (.ow d)
  | .ok (.nx, _) => .ok (.sh .none)
  | .ex _ c fs => .ex [] c fs
  | _ => .no
def retC (g : SF) (N : Nat) (x y : Int) (args : List S) : Rs (S × Int × Int) := match g (.cu x y :: (args ++ List.replicate (N - 1 - args.length) .u)) with
  | .ok (.rt (.sh d), ρ) => (match (ρ[(0 : Nat)]? : Option S) with
    | some (S.cu x' y') => .ok (.sh d, x', y')
    | _ => .no)
  | .ok (.rt (.ow d), ρ) => (match (ρ[(0 : Nat)]? : Option S) with
    | some (S.cu x' y') => .ok (.ow d, x', y')
    | _ => .no)
  | _ => .no
section
variable {K : PySem.W.Frag} {mg : Str → Option Value}
theorem no_rep {N : Nat} {b : Addr} (q : some b ∈ List.replicate N (none : Option Addr)) : False := by have := List.eq_of_mem_replicate q; cases this
theorem good_start {H : Hp} {F : Addr → Prop} {vs : List V} {args : List S} (r : SReps K (vw H F) vs args) (N : Nat) (hN : args.length ≤ N) (trk : ∀ b, F b → H b ≠ none) :
    Good K F (vs.map some ++ List.replicate (N - vs.length) none) H (args ++ List.replicate (N - args.length) .u) (List.replicate N none) := by
  have hl := r.len
  have hv : vw H (hid F (List.replicate N none)) = vw H F := vw_congr fun b => ⟨fun z => z.elim id fun q => (no_rep q).elim, .inl⟩
  refine ⟨by simp [hl], by simp; omega, fun i j a e => ?_, fun i a e => ?_, trk, fun i s e => ?_⟩
  · have := List.eq_of_mem_replicate (List.mem_of_getElem? e); cases this
  · have := List.eq_of_mem_replicate (List.mem_of_getElem? e); cases this
  · have hi := lt_of_ix e
    simp only [List.length_append, List.length_replicate] at hi
    have hA : (List.replicate N (none : Option Addr))[i]? = some none := by rw [List.getElem?_replicate]; simp; omega
    rw [hA, hv]
    by_cases h : i < args.length
    · rw [List.getElem?_append_left h] at e
      have key : ∀ {vs : List V} {args : List S}, SReps K (vw H F) vs args → ∀ {i : Nat} {s : S}, args[i]? = some s → ∃ v, vs[i]? = some v ∧ SRep K (vw H F) v s := by
        intro vs args r
        induction r with
        | nil => intro i s e; simp at e
        | cons r t ih =>
          intro i s e
          cases i with
          | zero => simp at e; subst e; exact ⟨_, rfl, r⟩
          | succ i => obtain ⟨v, h1, h2⟩ := ih (i := i) (by simpa using e); exact ⟨v, by simpa using h1, h2⟩
      obtain ⟨v, h1, h2⟩ := key r e
      have hσ : (vs.map some ++ List.replicate (N - vs.length) none)[i]? = some (some v) := by
        rw [List.getElem?_append_left (by simp; omega), List.getElem?_map, h1]; rfl
      rw [hσ]
      cases s with
      | sh d => exact ⟨rfl, v, rfl, h2⟩
      | fz ns => obtain ⟨a, rfl, q⟩ := h2; exact ⟨rfl, a, rfl, q⟩
      | _ => exact h2.elim
    · rw [List.getElem?_append_right (by omega), List.getElem?_replicate] at e
      split at e
      · cases e; exact rfl
      · cases e
variable {P : Program} {w : World} {base : Heap} {x qual : Str} {st : Stmt} {f : Addr} {fd : FuncData} {N ps : List Str} {k : Nat} {g : SF}
theorem fn_okF {dvs : List V} {kws : List (Str × V)} (Fd : FunD K x qual (defArgs st) (defBody st) (defScope st) dvs kws f fd) (Sc : FnScope N ps (defScope st))
    (hb : ∀ (cdv : Value) (A : Around) (outer : List Env) (s : Shared) (H : Hp) (E : XK), Ct (cxOf (L2.CX P w) P w K mg base N qual (defScope st) f cdv A outer s H E) K mg (fun C d _ H => E C d H) k → PSs (cxOf (L2.CX P w) P w K mg base N qual (defScope st) f cdv A outer s H E) (defBody st) (TSt K mg (fun C d _ H => E C d H) g)) :
    FnOk P w K mg base (L2.CX P w) (k + 1) f fd ps (spF K mg ps.length (retF g N.length)) := by
  have hpn : ps.length ≤ N.length := by have := congrArg List.length Sc.pre; rw [List.length_take] at this; omega
  refine Fd.ok Sc (fun vs H Q E ⟨F, args, r, hl, _⟩ => by rw [r.len, hl]) fun cdv A outer s H vs Q E hr h => ?_
  obtain ⟨F, args, r, hl, trk, po⟩ := h
  refine ⟨_, hb cdv A outer s H E ⟨rfl, rfl, takes_of rfl rfl rfl rfl, rfl, Sc.nd, hr⟩, F, _, _, good_start r N.length (by omega) trk, ?_⟩
  have hv : vw H (hid F (List.replicate N.length none)) = vw H F := vw_congr fun b => ⟨fun z => z.elim id fun q => (no_rep q).elim, .inl⟩
  have up : ∀ {H' : Hp} {A' : List (Option Addr)}, Same (vw H' (hid F A')) (vw H' F) := vw_mono (fun b z => .inl z) fun _ _ _ q => q
  unfold retF at po
  have hlv := r.len
  cases q : g (args ++ List.replicate (N.length - args.length) .u) with
  | no => rw [q] at po; exact po.elim
  | ex ρ' c fs =>
    rw [q] at po
    intro σ' C d H' A' g' s' e'
    exact po C d H' s'.kf (by have := s'.vs; rw [hv] at this; exact this.trans up) e'
  | ok pr =>
    obtain ⟨o, ρ'⟩ := pr
    rw [q] at po
    cases o with
    | nx =>
      intro σ' H' A' g' s'
      exact po .non H' s'.kf ⟨by have := s'.vs; rw [hv] at this; exact this.trans up, .non⟩
    | bk => exact po.elim
    | ct => exact po.elim
    | rt rr =>
      cases rr with
      | sh d =>
        intro σ' v H' ⟨A', g', s', p'⟩
        exact po v H' s'.kf ⟨by have := s'.vs; rw [hv] at this; exact this.trans up, p'.mono up⟩
      | ow d =>
        intro σ' v H' ⟨A', a, e, na, g', s', m', o'⟩
        have up2 : Same (vw H' (hid (adj F a) A')) (vw H' (adj F a)) := vw_mono (fun b z => .inl z) fun _ _ _ q => q
        exact po v H' s'.kf ⟨a, e, na, by rw [hv] at m'; exact m'.trans up2, o'.mono rfl up2⟩
      | _ => exact po.elim
theorem fn_okF' {dvs : List V} {kws : List (Str × V)} {m : Nat} {mf : List S → Rs S} (Fd : FunD K x qual (defArgs st) (defBody st) (defScope st) dvs kws f fd) (Sc : FnScope N ps (defScope st)) (hm : m = ps.length) (hf : mf = retF g N.length)
    (hb : ∀ (cdv : Value) (A : Around) (outer : List Env) (s : Shared) (H : Hp) (E : XK), Ct (cxOf (L2.CX P w) P w K mg base N qual (defScope st) f cdv A outer s H E) K mg (fun C d _ H => E C d H) k → PSs (cxOf (L2.CX P w) P w K mg base N qual (defScope st) f cdv A outer s H E) (defBody st) (TSt K mg (fun C d _ H => E C d H) g)) :
    FnOk P w K mg base (L2.CX P w) (k + 1) f fd ps (spF K mg m mf) := by
  subst hm hf
  exact fn_okF Fd Sc hb
theorem good_startC {H : Hp} {F : Addr → Prop} {c : Addr} {x y : Int} {vs : List V} {args : List S} (r : SReps K (vw H (adj F c)) vs args) (N : Nat) (hN : args.length ≤ N) (trk : ∀ b, F b → H b ≠ none) (hc : H c = some (.lst [.int x, .int y])) (nc : ¬ F c) :
    Good K F (some (.ref c) :: (vs.map some ++ List.replicate (N - vs.length) none)) H (.cu x y :: (args ++ List.replicate (N - args.length) .u)) (some c :: List.replicate N none) := by
  have g := good_start r N hN (fun b hb => hb.elim (trk b) fun z => by rw [z, hc]; exact fun q => nomatch q)
  have hv : vw H (hid (adj F c) (List.replicate N none)) = vw H (hid F (some c :: List.replicate N none)) := vw_congr fun b => by
    constructor
    · rintro ((z | z) | z)
      · exact .inl z
      · subst z; exact .inr List.mem_cons_self
      · have := List.eq_of_mem_replicate z; cases this
    · rintro (z | z)
      · exact .inl (.inl z)
      · rcases List.mem_cons.mp z with z | z
        · cases z; exact .inl (.inr rfl)
        · have := List.eq_of_mem_replicate z; cases this
  have no : ∀ (i : Nat) (a : Addr), (List.replicate N (none : Option Addr))[i]? ≠ some (some a) := fun i a e => by have := List.eq_of_mem_replicate (List.mem_of_getElem? e); cases this
  refine ⟨by have := g.l1; simp at this ⊢; omega, by have := g.l2; simp at this ⊢; omega, fun i j a e1 e2 => ?_, fun i a e => ?_, trk, fun i s e => ?_⟩
  · cases i with
    | succ i => exact absurd e1 (by simpa using no i a)
    | zero => cases j with
      | zero => rfl
      | succ j => exact absurd e2 (by simpa using no j a)
  · cases i with
    | succ i => exact absurd e (by simpa using no i a)
    | zero => simp at e; subst e; exact nc
  · cases i with
    | zero => simp at e; subst e; exact ⟨c, rfl, rfl, hc⟩
    | succ i =>
      simp only [List.getElem?_cons_succ] at e ⊢
      rw [← hv]
      exact g.slot i s e
theorem fn_okC {dvs : List V} {kws : List (Str × V)} (Fd : FunD K x qual (defArgs st) (defBody st) (defScope st) dvs kws f fd) (Sc : FnScope N ps (defScope st)) (hp : 0 < ps.length)
    (hb : ∀ (cdv : Value) (A : Around) (outer : List Env) (s : Shared) (H : Hp) (E : XK), Ct (cxOf (L2.CX P w) P w K mg base N qual (defScope st) f cdv A outer s H E) K mg (fun C d _ H => E C d H) k → PSs (cxOf (L2.CX P w) P w K mg base N qual (defScope st) f cdv A outer s H E) (defBody st) (TSt K mg (fun C d _ H => E C d H) g)) :
    FnOk P w K mg base (L2.CX P w) (k + 1) f fd ps (spC K mg (ps.length - 1) (retC g N.length)) := by
  have hpn : ps.length ≤ N.length := by have := congrArg List.length Sc.pre; rw [List.length_take] at this; omega
  refine Fd.ok Sc (fun vs H Q E ⟨F, c, x, y, vs', args, e, _, _, r, hl, _⟩ => by rw [e, List.length_cons, r.len, hl]; omega) fun cdv A outer s H vs Q E hr h => ?_
  obtain ⟨F, c, x, y, vs', args, rfl, nc, hc, r, hl, trk, po⟩ := h
  have hlv := r.len
  have gs := good_startC r (N.length - 1) (by omega) trk hc nc
  have es : L2.start N (.ref c :: vs') = some (.ref c) :: (vs'.map some ++ List.replicate (N.length - 1 - vs'.length) none) := by
    unfold L2.start
    simp only [List.map_cons, List.length_cons, List.cons_append]
    rw [Nat.sub_sub, Nat.add_comm 1]
  refine ⟨_, hb cdv A outer s H E ⟨rfl, rfl, takes_of rfl rfl rfl rfl, rfl, Sc.nd, hr⟩, ?_⟩
  rw [es]
  refine ⟨F, _, _, gs, ?_⟩
  have hv : vw H (hid F (some c :: List.replicate (N.length - 1) none)) = vw H (adj F c) := vw_congr fun b => by
    constructor
    · rintro (z | z)
      · exact .inl z
      · rcases List.mem_cons.mp z with z | z
        · cases z; exact .inr rfl
        · have := List.eq_of_mem_replicate z; cases this
    · rintro (z | z)
      · exact .inl z
      · subst z; exact .inr List.mem_cons_self
  unfold retC at po
  have at0 : ∀ {H' : Hp} {ρ' : List S} {A' : List (Option Addr)} {σ' : St} {G : Addr → Prop} {x' y' : Int}, Good K G σ' H' ρ' A' → Stp F H (.cu x y :: (args ++ List.replicate (N.length - 1 - args.length) .u)) (some c :: List.replicate (N.length - 1) none) H' ρ' A' → ρ'[0]? = some (.cu x' y') → H' c = some (.lst [.int x', .int y']) ∧ some c ∈ A' := fun {H' ρ' A' σ' G x' y'} g' s' e' => by
    obtain ⟨q1, _⟩ := s'.cu 0 x y rfl
    have q2 : A'[0]? = some (some c) := q1
    obtain ⟨a, h1, _, h3⟩ := g'.slot 0 _ e'
    rw [q2] at h1; cases h1
    exact ⟨h3, mem_of_ix q2⟩
  cases q : g (.cu x y :: (args ++ List.replicate (N.length - 1 - args.length) .u)) with
  | no => rw [q] at po; exact po.elim
  | ex ρ' c fs => rw [q] at po; exact po.elim
  | ok pr =>
    obtain ⟨o, ρ'⟩ := pr
    rw [q] at po
    cases o with
    | nx => exact po.elim
    | bk => exact po.elim
    | ct => exact po.elim
    | rt rr =>
      cases rr with
      | sh d =>
        simp only at po
        cases q0 : ρ'[0]? with
        | none => rw [q0] at po; exact po.elim
        | some t0 =>
          rw [q0] at po
          cases t0 with
          | cu x' y' =>
            intro σ' v H' ⟨A', g', s', p'⟩
            obtain ⟨h1, h2⟩ := at0 g' s' q0
            have up : Same (vw H' (hid F A')) (vw H' (adj F c)) := vw_mono (fun b z => z.elim .inl fun z => .inr (by rw [z]; exact h2)) fun _ _ _ q => q
            exact po v H' s'.kf h1 ⟨by have := s'.vs; rw [hv] at this; exact this.trans up, p'.mono up⟩
          | _ => exact po.elim
      | ow d =>
        simp only at po
        cases q0 : ρ'[0]? with
        | none => rw [q0] at po; exact po.elim
        | some t0 =>
          rw [q0] at po
          cases t0 with
          | cu x' y' =>
            intro σ' v H' ⟨A', a, e, na, g', s', m', o'⟩
            obtain ⟨h1, h2⟩ := at0 g' s' q0
            have nac : a ≠ c := fun z => by
              obtain ⟨i, ei⟩ := ix_of_mem h2
              exact g'.dis i c ei (.inr z.symm)
            have up : Same (vw H' (hid (adj F a) A')) (vw H' (adj (adj F c) a)) := vw_mono (fun b z => by
              rcases z with (z | z) | z
              · exact .inl (.inl z)
              · rw [z]; exact .inr h2
              · exact .inl (.inr z)) fun _ _ _ q => q
            exact po v H' s'.kf h1 ⟨a, e, fun z => z.elim na nac, by rw [hv] at m'; exact m'.trans up, o'.mono rfl up⟩
          | _ => exact po.elim
      | _ => exact po.elim
theorem fn_okC' {dvs : List V} {kws : List (Str × V)} {m : Nat} {mc : Int → Int → List S → Rs (S × Int × Int)} (Fd : FunD K x qual (defArgs st) (defBody st) (defScope st) dvs kws f fd) (Sc : FnScope N ps (defScope st)) (hp : 0 < ps.length) (hm : m = ps.length - 1) (hf : mc = retC g N.length)
    (hb : ∀ (cdv : Value) (A : Around) (outer : List Env) (s : Shared) (H : Hp) (E : XK), Ct (cxOf (L2.CX P w) P w K mg base N qual (defScope st) f cdv A outer s H E) K mg (fun C d _ H => E C d H) k → PSs (cxOf (L2.CX P w) P w K mg base N qual (defScope st) f cdv A outer s H E) (defBody st) (TSt K mg (fun C d _ H => E C d H) g)) :
    FnOk P w K mg base (L2.CX P w) (k + 1) f fd ps (spC K mg m mc) := by
  subst hm hf
  exact fn_okC Fd Sc hp hb
end
end Z
end
section
namespace Z
open PySem PySem.Spec L2 HT PyProof.Rows
/-! ### xs[::-1], xs a list or a tuple -/
section
variable {prog : Program} {w : World} {A : Around} {E : Value → Shared → Prop} {s : Shared}
theorem adjust_rev (n : Nat) : Builtin.Slice.sliceAdjust none none (-1) (n : Int) = ((n : Int) - 1, -1) := by
  unfold Builtin.Slice.sliceAdjust
  simp
theorem places_rev (n : Nat) : Builtin.Slice.slicePlaces ((n : Int) - 1) (-1) (-1) = n := by
  unfold Builtin.Slice.slicePlaces
  simp
  split <;> omega
theorem sliceApplied_rev {sl : Addr} {vs : Value} {n : Nat} {Q : Int × Int × Nat → Shared → Prop} (hs : s.heap.IsSliceOf sl .none .none vs) (ps : IsPart vs (some (-1)))
    (h : Q ((n : Int) - 1, -1, n) s) : wpAny (model prog w) A (Builtin.Slice.sliceApplied (.ref sl) (pure (n : Int))) Q E s := by
  obtain ⟨os, hos, hcs, hds⟩ := id hs
  unfold Builtin.Slice.sliceApplied Builtin.Slice.sliceFields
  refine wpAny_bind (wpAny_bind (wpAny_field hos hds (x := .none) rfl (wpAny_bind (wpAny_field hos hds (x := .none) rfl (wpAny_bind (wpAny_field hos hds (x := vs) rfl (wpAny_pure ?_)))))))
  refine wpAny_bind (slicePart_ ps ?_)
  show wpAny _ _ (if ((-1 : Int) == 0) = true then _ else _) _ _ s
  rw [if_neg (by decide)]
  refine wpAny_bind (slicePart_none (wpAny_bind (slicePart_none (wpAny_bind (wpAny_pure ?_)))))
  show wpAny _ _ (match Builtin.Slice.sliceAdjust none none (-1) (n : Int) with | (lo, hi) => pure (lo, (-1 : Int), Builtin.Slice.slicePlaces lo hi (-1))) _ _ s
  rw [adjust_rev n]
  show wpAny _ _ (pure ((n : Int) - 1, (-1 : Int), Builtin.Slice.slicePlaces ((n : Int) - 1) (-1) (-1))) _ _ s
  rw [places_rev]
  exact wpAny_pure h
theorem pick_rev (xs : Array Value) : ((List.range xs.size).filterMap fun (m : Nat) => xs[((xs.size : Int) - 1 + (m : Int) * -1).toNat]?).toArray = xs.toList.reverse.toArray := by
  have e : (List.range xs.size).filterMap (fun (m : Nat) => xs[((xs.size : Int) - 1 + (m : Int) * -1).toNat]?) = ((List.range xs.size).map (fun k => xs.size - 1 - k)).filterMap (xs[·]?) := by
    rw [List.filterMap_map]
    congr 1
    funext m
    have : ((xs.size : Int) - 1 + (m : Int) * -1).toNat = xs.size - 1 - m := by omega
    simp only [Function.comp_apply, this]
  rw [e, PySem.W.krv_range, List.filterMap_reverse, PySem.W.krv_all]
theorem getItem_tuple_rev {t sl : Addr} {items : Array Value} {vs : Value} {Q : Value → Shared → Prop} (ht : IsTup s.heap t items) (hs : s.heap.IsSliceOf sl .none .none vs) (ps : IsPart vs (some (-1)))
    (h : Q (.ref s.heap.objs.size) { s with heap := s.heap.push { cls := .type "tuple", data := .seq items.toList.reverse.toArray } })
    (hsz : items.size ≤ sizeLine) : wpAny (model prog w) A (getItem (.ref t) (.ref sl)) Q E s := by
  have htake : sizeOk (.seq items.toList.reverse.toArray) := by
    show items.toList.reverse.toArray.size ≤ sizeLine
    rw [List.size_toArray, List.length_reverse, Array.length_toList]
    exact hsz
  obtain ⟨os, hos, hcs, hds⟩ := id hs
  have hTs : s.TypeIs (.ref sl) "slice" := ⟨os, hos, hcs⟩
  unfold getItem
  try with_reducible refine wpAny_holding ?_
  first | refine wpAny_bind (wpAny_pure ?_) | skip
  refine wpAny_bind (wpAny_sequenceKey ht.typeIs (by decide) ?_)
  refine wpAny_bind (wpAny_callSpecial?_slot (name := Str.ofString "__getitem__") ht.typeIs PyProof.Rows.slot_tuple_getitem
    (wpAny_call_entry PyProof.Rows.slot_tuple_getitem ht.typeIs entry_tuple_getitem ?_ (args_tuple_getitem _ _)))
  show wpAny _ _ (Builtin.Tuple.tupleItemsOf (.ref t) >>= _) _ _ s
  refine wpAny_bind (tupleItemsOf_ ht ?_)
  refine wpAny_bind (wpAny_typeOf hTs ?_)
  rw [if_pos (by decide)]
  refine wpAny_bind (sliceApplied_rev hs ps ?_)
  have hno : ¬ ((((items.size : Int) - 1) == 0 && (-1 : Int) == 1 && items.size == items.size) = true) := by simp
  show wpAny _ _ (if (((items.size : Int) - 1) == 0 && (-1 : Int) == 1 && items.size == items.size) = true then _ else _) _ _ s
  rw [if_neg hno, pick_rev]
  first
    | exact wpAny_bind (m := Builtin.Tuple.tupleExact _) (wpAny_newObj_type (wpAny_pure ⟨_, rfl, wpAny_pure h⟩) htake)
    | exact wpAny_bind (m := Builtin.Tuple.tupleExact _) (wpAny_newObj_type (wpAny_bind (wpAny_pure (wpAny_pure ⟨_, rfl, wpAny_pure h⟩))) htake)
    | exact wpAny_bind (wpAny_bind (m := Builtin.Tuple.tupleExact _) (wpAny_newObj_type (wpAny_pure (wpAny_pure ⟨_, rfl, wpAny_pure h⟩)) htake))
    | exact wpAny_bind (wpAny_bind (m := Builtin.Tuple.tupleExact _) (wpAny_newObj_type (wpAny_pure ⟨_, rfl, wpAny_pure h⟩) htake))
end
section
variable {X : Cx}
def tRevA (K : PySem.W.Frag) (te : TE) : TE := fun σ H Q => te σ H fun x H1 => ∃ a xs, x = .ref a ∧ ((SqL K H1 a xs ∧ ∀ p, H1 p = none → Q (.ref p) (upd H1 p (.lst xs.reverse))) ∨ (SqT K H1 a xs ∧ ∀ p, H1 p = none → Q (.ref p) (upd H1 p (.tup xs.reverse))))
theorem pe_revA {e : Expr} {te : TE} {k : Nat} {p1 p2 p3 pos : Pos} (he : PE X e te) : PE X (.Subscript e (.Slice none none (some (.UnaryOp .USub (.Constant (.int 1) k p1) p2)) p3) pos) (tRevA X.K te) := by
  refine ⟨fun pins s σ H Q I h => ?_⟩
  refine Subscript_ (thn (he.run pins s σ H _ I h) fun v s1 ⟨x, H1, I1, r1, q1⟩ => ?_)
  obtain ⟨a, xs, ex, q⟩ := q1
  subst ex
  cases r1
  have hst : PO X (some (.UnaryOp .USub (.Constant (.int 1) k p1) p2)) (tPart (tUn (rU fun i => .int (-i)) (tC (.int 1)))) := po_some (pe_un un_neg pe_int)
  refine wpAny_Slice (thn (po_none.run pins s1 σ H1 (fun o H2 => o = none ∧ H2 = H1) I1 ⟨rfl, rfl⟩) fun vl s2 ⟨l, H2, I2, pl, el, e2⟩ => ?_)
  subst el e2
  refine thn (po_none.run pins s2 σ H2 (fun o H3 => o = none ∧ H3 = H2) I2 ⟨rfl, rfl⟩) fun vu s3 ⟨u, H3, I3, pu, eu, e3⟩ => ?_
  subst eu e3
  refine thn (hst.run pins s3 σ H3 (fun o H4 => o = some (-1) ∧ H4 = H3) I3 ⟨1, rfl, -1, rfl, rfl, rfl⟩) fun vs s4 ⟨o, H4, I4, ps, eo, e4⟩ => ?_
  subst eo e4
  have I5 : Inv X pins σ H4 { s4 with heap := s4.heap.push { cls := .type "slice", data := .fields #[vl, vu, vs] } } := I4.kept (t' := s4.toks) fun b ob q => Heap.get?_push_of_some _ q
  show wpAny (model X.prog X.w) X.A (subscriptTail e (.Slice none none (some (.UnaryOp .USub (.Constant (.int 1) k p1) p2)) p3) (.ref a) (.ref s4.heap.objs.size)) (EP X pins σ Q) X.xe { s4 with heap := s4.heap.push { cls := .type "slice", data := .fields #[vl, vu, vs] } }
  rcases q with ⟨hx, q⟩ | ⟨hx, q⟩
  · obtain ⟨its, r, ht, hz⟩ := I5.list hx
    have hlen := r.length
    refine tail_any (ops := [.ref a, .ref s4.heap.objs.size]) ht.isList.typeIs (PySem.slot_list_getitem.lookup) ?_ (by with_unfolding_all rfl)
    refine wpAny_getItem_list_slice ht.isList (Heap.IsSliceOf.new _ vl vu vs) pl pu ps (by decide) ?_ (by rw [List.size_toArray]; omega)
    rw [PySem.W.krv_pick]
    refine ⟨.ref _, _, I5.laid (t' := s4.toks) (o := .lst xs.reverse) (fun b ob q => Heap.get?_push_of_some _ q) (Nat.le_refl _) ?_, rfl, q _ (I5.hok.fresh (Nat.le_refl _))⟩
    exact ⟨by rw [List.length_reverse]; exact hz, _, 0, r.reverse, Heap.get?_push_size _ rfl⟩
  · obtain ⟨its, r, ht, hz⟩ := I5.tuple hx
    have hlen := r.length
    cases pl
    cases pu
    refine tail_any (ops := [.ref a, .ref s4.heap.objs.size]) ht.typeIs (PyProof.Rows.slot_tuple_getitem.lookup) ?_ (by with_unfolding_all rfl)
    refine getItem_tuple_rev ht (Heap.IsSliceOf.new _ .none .none vs) ps ?_ (by rw [List.size_toArray]; omega)
    refine ⟨.ref _, _, I5.laid (t' := s4.toks) (o := .tup xs.reverse) (fun b ob q => Heap.get?_push_of_some _ q) (Nat.le_refl _) ?_, rfl, q _ (I5.hok.fresh (Nat.le_refl _))⟩
    exact ⟨by rw [List.length_reverse]; exact hz, its.reverse, r.reverse, IsTup.new _ _⟩
end
end Z
end
section
namespace Z
open PySem PySem.Spec L2
section
variable {X : Cx} {K : PySem.W.Frag} {mg : Str → Option Value} {W : WX} {n : Nat} {pos apos cpos : Pos} {e a b : Expr} {f : EF} {fa fb : OF} {fA : AF}
/-! ### xs[::-1] -/
def gRev : D → Option S
  | .list ds => some (.ow (.list ds.reverse))
  | .tuple ds => some (.sh (.tuple ds.reverse))
  | _ => none
def fRev (fa : OF) : EF := fun ρ => fa ρ >>= fun p => Rs.of (look p.1 p.2) >>= fun d => Rs.of (gRev d) >>= fun r => .ok (r, p.2)
theorem ev_rev {k : Nat} {p1 p2 p3 : Pos} (ct : Ct X K mg W n) (h : PE X e (TO' K mg W fa)) : PE X (.Subscript e (.Slice none none (some (.UnaryOp .USub (.Constant (.int 1) k p1) p2)) p3) pos) (TF K mg W (fRev fa)) := by
  obtain ⟨rfl, rfl, _, _, _, _⟩ := ct
  refine pe_imp (pe_revA h) fun σ H Q ⟨F, ρ, A, gd, po⟩ => ?_
  refine seqO gd (po := fun o => PoE X.K X.mg W F σ H ρ A o Q) poE_no (poE_exS Stp.refl) po fun h1 ρ1 v1 H1 A1 g1 s1 r1 po => ?_
  obtain ⟨d, e1, po⟩ := seqOpt (po := fun o => PoE X.K X.mg W F σ H ρ A o Q) poE_no po
  obtain ⟨r, e2, po⟩ := seqOpt (po := fun o => PoE X.K X.mg W F σ H ρ A o Q) poE_no po
  have hd := look_ok g1 r1 e1
  cases d with
  | list ds =>
    cases e2
    obtain ⟨p, vs, rfl, q1, q2⟩ := hd.list
    exact ⟨p, vs, rfl, .inl ⟨.of q1, fun a ha => po _ _ ((Fin.newL g1 ha q2.rev).trans s1)⟩⟩
  | tuple ds =>
    cases e2
    obtain ⟨p, vs, rfl, q1, q0, q2⟩ := hd.tuple
    exact ⟨p, vs, rfl, .inr ⟨.of q1, fun a ha => po _ _ ((Fin.newT g1 ha q2.rev).trans s1)⟩⟩
  | _ => cases e2
/-! ### list(range(a, b)), tuple(range(a, b)) -/
def gRg (tup : Bool) (i j : Int) : Option S := if i.natAbs < 4611686018427387904 ∧ j.natAbs < 4611686018427387904 ∧ (j - i).toNat ≤ 16777216 then some (if tup then .sh (.tuple (rangeD i 1 (j - i).toNat)) else .ow (.list (rangeD i 1 (j - i).toNat))) else none
def gRgD (tup : Bool) : D → D → Option S
  | .int i, .int j => gRg tup i j
  | _, _ => none
def fRg1 (tup : Bool) (fa : OF) : EF := fun ρ => fa ρ >>= fun p => Rs.of (look p.1 p.2) >>= fun d => Rs.of (gRgD tup (.int 0) d) >>= fun r => .ok (r, p.2)
def fRg2 (tup : Bool) (fa fb : OF) : EF := fun ρ => fa ρ >>= fun p => fb p.2 >>= fun q => Rs.of (look p.1 q.2) >>= fun d => Rs.of (look q.1 q.2) >>= fun d2 => Rs.of (gRgD tup d d2) >>= fun r => .ok (r, q.2)
theorem rg_rp (H : Hp) (i j : Int) : RpL K H (rgV i j) (rangeD i 1 (j - i).toNat) := by
  unfold rgV rangeD
  generalize (j - i).toNat = m
  generalize List.range m = l
  induction l with
  | nil => exact .nil
  | cons a r ih =>
    rw [List.map_cons, List.map_cons, Int.mul_one]
    exact .cons (.int _) ih
theorem rg_ok {tup : Bool} {i j : Int} {r : S} (e : gRg tup i j = some r) : RgOk i j ∧ r = (if tup then .sh (.tuple (rangeD i 1 (j - i).toNat)) else .ow (.list (rangeD i 1 (j - i).toNat))) := by
  unfold gRg at e
  split at e
  · rename_i h
    cases e
    exact ⟨⟨by omega, by omega, by omega, by omega, by omega⟩, rfl⟩
  · cases e
theorem prg1_of (ct : Ct X K mg W n) {p : Pos} (hg : Gl X "range") (hm : mg "range" = none) (ha : PE X a (TO' K mg W fa)) (na : starEach [a] X.env = (false, eval a X.env) :: starEach [] X.env := by rfl) : PRg X (.Call (.Name "range" p) [a] [] pos) (tRg1 (TO' K mg W fa)) := by
  obtain ⟨rfl, rfl, _, _, _, _⟩ := ct
  exact prg_1 hg hm ha na
theorem ev_listRg1 {p p2 : Pos} {q : Pos} (ct : Ct X K mg W n) (hgl : Gl X "list") (hml : mg "list" = none) (hg : Gl X "range") (hm : mg "range" = none) (ha : PE X a (TO' K mg W fa)) (na : starEach [a] X.env = (false, eval a X.env) :: starEach [] X.env := by rfl)
    (nb : starEach [Expr.Call (.Name "range" p) [a] [] q] X.env = (false, eval (Expr.Call (.Name "range" p) [a] [] q) X.env) :: starEach [] X.env := by rfl) : PE X (.Call (.Name "list" p2) [.Call (.Name "range" p) [a] [] q] [] pos) (TF K mg W (fRg1 false fa)) := by
  obtain ⟨rfl, rfl, _, _, _, _⟩ := id ct
  refine pe_imp (pe_listRg ct.calm hgl hml (prg1_of ct hg hm ha na) nb) fun σ H Q ⟨F, ρ, A, gd, po⟩ => ?_
  refine seqO gd (po := fun o => PoE X.K X.mg W F σ H ρ A o Q) poE_no (poE_exS Stp.refl) po fun h1 ρ1 v1 H1 A1 g1 s1 r1 po => ?_
  obtain ⟨d, e1, po⟩ := seqOpt (po := fun o => PoE X.K X.mg W F σ H ρ A o Q) poE_no po
  obtain ⟨r, e2, po⟩ := seqOpt (po := fun o => PoE X.K X.mg W F σ H ρ A o Q) poE_no po
  have hd := look_ok g1 r1 e1
  cases d with
  | int j =>
    obtain ⟨ok, rfl⟩ := rg_ok e2
    exact ⟨j, hd.int, ok, fun q hq => po _ _ ((Fin.newL g1 hq (rg_rp _ 0 j)).trans s1)⟩
  | _ => cases e2
theorem ev_tupRg1 {p p2 : Pos} {q : Pos} (ct : Ct X K mg W n) (hgl : Gl X "tuple") (hml : mg "tuple" = none) (hg : Gl X "range") (hm : mg "range" = none) (ha : PE X a (TO' K mg W fa)) (na : starEach [a] X.env = (false, eval a X.env) :: starEach [] X.env := by rfl)
    (nb : starEach [Expr.Call (.Name "range" p) [a] [] q] X.env = (false, eval (Expr.Call (.Name "range" p) [a] [] q) X.env) :: starEach [] X.env := by rfl) : PE X (.Call (.Name "tuple" p2) [.Call (.Name "range" p) [a] [] q] [] pos) (TF K mg W (fRg1 true fa)) := by
  obtain ⟨rfl, rfl, _, _, _, _⟩ := id ct
  refine pe_imp (pe_tupRg ct.calm hgl hml (prg1_of ct hg hm ha na) nb) fun σ H Q ⟨F, ρ, A, gd, po⟩ => ?_
  refine seqO gd (po := fun o => PoE X.K X.mg W F σ H ρ A o Q) poE_no (poE_exS Stp.refl) po fun h1 ρ1 v1 H1 A1 g1 s1 r1 po => ?_
  obtain ⟨d, e1, po⟩ := seqOpt (po := fun o => PoE X.K X.mg W F σ H ρ A o Q) poE_no po
  obtain ⟨r, e2, po⟩ := seqOpt (po := fun o => PoE X.K X.mg W F σ H ρ A o Q) poE_no po
  have hd := look_ok g1 r1 e1
  cases d with
  | int j =>
    obtain ⟨ok, rfl⟩ := rg_ok e2
    exact ⟨j, hd.int, ok, fun q hq => po _ _ ((Fin.newT g1 hq (rg_rp _ 0 j)).trans s1)⟩
  | _ => cases e2
theorem rg2_sem {tup : Bool} {σ : St} {H : Hp} {Q : VK} (h : TF K mg W (fRg2 tup fa fb) σ H Q) : tRg2 (TO' K mg W fa) (TO' K mg W fb) σ H fun i j H2 => RgOk i j ∧ ∀ q, H2 q = none → Q (.ref q) (upd H2 q (if tup then .tup (rgV i j) else .lst (rgV i j))) := by
  obtain ⟨F, ρ, A, gd, po⟩ := h
  refine seqO gd (po := fun o => PoE K mg W F σ H ρ A o Q) poE_no (poE_exS Stp.refl) po fun h1 ρ1 v1 H1 A1 g1 s1 r1 po => ?_
  refine seqO g1 (po := fun o => PoE K mg W F σ H ρ A o Q) poE_no (poE_exS s1) po fun h2 ρ2 v2 H2 A2 g2 s2 r2 po => ?_
  obtain ⟨d, e1, po⟩ := seqOpt (po := fun o => PoE K mg W F σ H ρ A o Q) poE_no po
  obtain ⟨d2, e2, po⟩ := seqOpt (po := fun o => PoE K mg W F σ H ρ A o Q) poE_no po
  obtain ⟨r, e3, po⟩ := seqOpt (po := fun o => PoE K mg W F σ H ρ A o Q) poE_no po
  have hd := look_ok g2 (r1.mono s2.vs) e1
  have hd2 := look_ok g2 r2 e2
  cases d with
  | int i =>
    cases d2 with
    | int j =>
      obtain ⟨ok, rfl⟩ := rg_ok e3
      refine ⟨i, j, hd.int, hd2.int, ok, fun q hq => ?_⟩
      cases tup with
      | true => exact po _ _ ((Fin.newT g2 hq (rg_rp _ i j)).trans (s1.trans s2))
      | false => exact po _ _ ((Fin.newL g2 hq (rg_rp _ i j)).trans (s1.trans s2))
    | _ => cases e3
  | _ => cases e3
theorem ev_listRg2 {p p2 : Pos} {q : Pos} (ct : Ct X K mg W n) (hgl : Gl X "list") (hml : mg "list" = none) (hg : Gl X "range") (hm : mg "range" = none) (ha : PE X a (TO' K mg W fa)) (hb : PE X b (TO' K mg W fb)) (na : starEach [a, b] X.env = (false, eval a X.env) :: starEach [b] X.env := by rfl) (na2 : starEach [b] X.env = (false, eval b X.env) :: starEach [] X.env := by rfl) (hp : (backTo q (starEach [b] X.env)).any (·.1) = false := by rfl)
    (nb : starEach [Expr.Call (.Name "range" p) [a, b] [] q] X.env = (false, eval (Expr.Call (.Name "range" p) [a, b] [] q) X.env) :: starEach [] X.env := by rfl) : PE X (.Call (.Name "list" p2) [.Call (.Name "range" p) [a, b] [] q] [] pos) (TF K mg W (fRg2 false fa fb)) := by
  obtain ⟨rfl, rfl, _, _, _, _⟩ := id ct
  exact pe_imp (pe_listRg ct.calm hgl hml (prg_2 hg hm ha hb na na2 hp) nb) fun σ H Q h => rg2_sem h
theorem ev_tupRg2 {p p2 : Pos} {q : Pos} (ct : Ct X K mg W n) (hgl : Gl X "tuple") (hml : mg "tuple" = none) (hg : Gl X "range") (hm : mg "range" = none) (ha : PE X a (TO' K mg W fa)) (hb : PE X b (TO' K mg W fb)) (na : starEach [a, b] X.env = (false, eval a X.env) :: starEach [b] X.env := by rfl) (na2 : starEach [b] X.env = (false, eval b X.env) :: starEach [] X.env := by rfl) (hp : (backTo q (starEach [b] X.env)).any (·.1) = false := by rfl)
    (nb : starEach [Expr.Call (.Name "range" p) [a, b] [] q] X.env = (false, eval (Expr.Call (.Name "range" p) [a, b] [] q) X.env) :: starEach [] X.env := by rfl) : PE X (.Call (.Name "tuple" p2) [.Call (.Name "range" p) [a, b] [] q] [] pos) (TF K mg W (fRg2 true fa fb)) := by
  obtain ⟨rfl, rfl, _, _, _, _⟩ := id ct
  exact pe_imp (pe_tupRg ct.calm hgl hml (prg_2 hg hm ha hb na na2 hp) nb) fun σ H Q h => rg2_sem h
/-! ### x += ys, x one's own list -/
def extS (i : Nat) (es : List D) (ρ : List S) : Rs (Out × List S) := match ρ[i]? with
  | some (.ow (.list ds)) => if ds.length + es.length ≤ 16777216 then .ok (.nx, ρ.set i (.ow (.list (ds ++ es)))) else .no
  | _ => .no
def sAugL (i : Nat) (f : EF) : SF := fun ρ => match ρ[i]? with
  | some (.ow (.list _)) => f ρ >>= fun p => match p.1 with
    | .sh (.list es) => extS i es p.2
    | .ow (.list es) => extS i es p.2
    | _ => .no
  | _ => .no
theorem st_augL {x : Str} {p : Pos} (i : Nat) (ct : Ct X K mg W n) (he : PE X e (TF K mg W f)) (hi : X.N[i]? = some x := by rfl) (hx : Loc X.env.scope x := by first | exact .inl rfl | exact .inr rfl) (hf : X.fn x = true ∨ X.env.scope.names.lookup x = some .local := by first | exact .inl rfl | exact .inr rfl) : PS X (.AugAssign (.Name x p) .Add e pos) (TSt K mg W (sAugL i f)) := by
  refine ps_imp (ps_aug ct.nd hi hx he iop_ext hf) fun D' σ H ⟨F, ρ, A, gd, po⟩ => ?_
  have sl := sizeLine_eq
  unfold sAugL at po
  cases q : ρ[i]? with
  | none => rw [q] at po; exact po.elim
  | some s =>
    rw [q] at po
    cases s with
    | ow d0 =>
      cases d0 with
      | list ds0 =>
        obtain ⟨a, ha, e1, vs0, hH, _⟩ := gd.slot i _ q
        refine ⟨.ref a, e1, ?_⟩
        refine seqES gd po fun r ρ1 v H1 f1 po => ?_
        have key : ∀ es, Fin K F σ H ρ A (.sh (.list es)) ρ1 v H1 → PoS K mg W F σ H ρ A (extS i es ρ1) D' → rExt2 (.ref a) v H1 fun z H2 => D'.nx (σ.set i (some z)) H2 := by
          intro es ⟨A1, g1, s1, p1⟩ po
          unfold extS at po
          cases q1 : ρ1[i]? with
          | none => rw [q1] at po; exact po.elim
          | some s' =>
            rw [q1] at po
            cases s' with
            | ow d1 =>
              cases d1 with
              | list ds =>
                simp only at po
                split at po
                · rename_i hlen
                  obtain ⟨a', ha', e1', vs, hH1, r1⟩ := g1.slot i _ q1
                  rw [e1] at e1'; cases e1'
                  have hl := r1.len
                  cases p1 with
                  | lst hb rb =>
                    rename_i b zs
                    have hl2 := rb.len
                    have es' : σ.set i (some (.ref a)) = σ := by
                      refine List.ext_getElem? fun j => ?_
                      rw [List.getElem?_set]
                      split
                      · rename_i hj; subst hj
                        split
                        · exact e1.symm
                        · rename_i hh; rw [List.getElem?_eq_none (by omega)] at e1; cases e1
                      · rfl
                    refine ⟨a, b, vs, zs, rfl, rfl, hH1, vw_same _ _ _ _ hb, by omega, ?_⟩
                    show D'.nx (σ.set i (some (.ref a))) _
                    rw [es']
                    exact po _ _ _ (g1.write ha' e1 ⟨vs ++ zs, upd_same, r1.app rb⟩) (s1.trans (Stp.write g1 ha' (fun x y z => by rw [q1] at z; cases z)))
                · exact po.elim
              | _ => exact po.elim
            | _ => exact po.elim
        cases r with
        | sh d =>
          cases d with
          | list es => exact key es f1 po
          | _ => exact po.elim
        | ow d =>
          cases d with
          | list es => exact key es f1.weak po
          | _ => exact po.elim
        | _ => exact po.elim
      | _ => exact po.elim
    | _ => exact po.elim
end
end Z
end
section
namespace Z
open PySem PySem.Spec L2 PyProof.Rows PySem.W
/-! ### sorted(xs), xs a list of data that can be compared -/
def rSortedD (K : PySem.W.Frag) : List V → Hp → VK → Prop := fun vs H Q => ∃ (a : Addr) (ps : List (V × PyData)), vs = [V.ref a] ∧ SqL K H a (ps.map (·.1)) ∧ (∀ p ∈ ps, Dp K H p.1 p.2) ∧ AllAlike (ps.map (·.2)) ∧ Sortable (ps.map (·.2)) ∧ (∀ p ∈ ps, p.2.depth ≤ 60) ∧
  ∀ q, H q = none → Q (.ref q) (upd H q (.lst ((ps.mergeSort (dataLe false (·.2))).map (·.1))))
theorem each_rel : ∀ {us : List Value} (ps : List (V × PyData)), Vals (ps.map (·.1)) us → EachIs (fun v p => RelV p.1 v) us ps
  | _, [], r => by cases r; exact .nil
  | _, p :: ps, r => by
    cases r with
    | cons r1 r2 => exact .cons r1 (each_rel ps r2)
theorem rel_each : ∀ {us : List Value} {ps : List (V × PyData)}, EachIs (fun v p => RelV p.1 v) us ps → Vals (ps.map (·.1)) us
  | _, _, .nil => .nil
  | _, _, .cons r1 r2 => .cons r1 (rel_each r2)
theorem each_impM {α β : Type} {R S : α → β → Prop} : ∀ {us : List α} {ps : List β}, EachIs R us ps → (∀ u p, p ∈ ps → R u p → S u p) → EachIs S us ps
  | _, _, .nil, _ => .nil
  | _, _, .cons r1 r2, h => .cons (h _ _ List.mem_cons_self r1) (each_impM r2 fun u p hp => h u p (List.mem_cons_of_mem _ hp))
theorem cr_sortedD {X : Cx} (hu : X.A.units + 64 < cLine) : CallR X (.builtin "sorted") (rSortedD X.K) := by
  intro pins s σ H vs us Q I r h
  obtain ⟨a, ps, rfl, hs, hd, hal, hk, hdep, q⟩ := h
  obtain ⟨its, rv, hl, hz⟩ := I.list hs
  rw [Vals.ref1 r]
  have e1 := each_rel ps rv
  have er : EachIs (fun v (p : V × PyData) => ∃ as, Reads s.heap v p.2 as) its ps := each_impM e1 fun v p hp rr => Dp.reads I p.2 p.1 v (hd p hp) rr
  rw [List.length_map] at hz
  refine sorted_data (R := fun v (p : V × PyData) => RelV p.1 v) (enc := (·.2)) hl.isList e1 er hal hk hz (fun p hp => by have := hdep p hp; omega) fun out ho eo => ?_
  obtain ⟨ep, he'⟩ := PyProof.Rows.sortedAll_at s.heap its out.toArray
  have hlen : ((ps.mergeSort (dataLe false (·.2))).map (·.1)).length ≤ sizeLine := by
    rw [List.length_map, List.length_mergeSort]; exact hz
  exact ⟨.ref _, upd H (s.heap.objs.size + 1) (.lst ((ps.mergeSort (dataLe false (·.2))).map (·.1))), I.laid (t' := s.toks) (fun _ _ => PyProof.Rows.sortedAll_old) (Nat.le_succ _) ⟨hlen, out, ep, rel_each eo, he'⟩, rfl, q _ (I.hok.fresh (Nat.le_succ _))⟩
end Z
end
section
namespace Z
open PySem PySem.Spec L2 PySem.W
/-! ### sorted(xs), xs a list -/
def isTupC : D → Bool
  | .tuple (_ :: _) => true
  | _ => false
def isOth : D → Bool
  | .none => false
  | .tuple _ => false
  | _ => true
def sortOk (ds : List D) : Bool := (ds.all fun d => ds.all fun e => alike d e) && (ds.all isTupC || ds.all isOth) && decide (PyData.depthAll ds ≤ 60)
def sortD (ds : List D) : List D := ds.mergeSort (dataLe false id)
def gSorted : List D → Option S
  | [.list ds] => if sortOk ds = true then some (.ow (.list (sortD ds))) else none
  | _ => none
theorem depth_mem : ∀ {ds : List D} {d : D}, d ∈ ds → PyData.depth d ≤ PyData.depthAll ds
  | e :: r, d, hm => by
    simp only [PyData.depthAll]
    rcases List.mem_cons.mp hm with rfl | hm
    · omega
    · have := depth_mem hm; omega
theorem sort_all {ds : List D} (h : sortOk ds = true) : AllAlike ds ∧ PySem.W.Sortable ds ∧ ∀ d ∈ ds, d.depth ≤ 60 := by
  unfold sortOk at h
  rw [Bool.and_eq_true, Bool.and_eq_true, Bool.or_eq_true] at h
  obtain ⟨⟨h1, h2⟩, h3⟩ := h
  have h3 := of_decide_eq_true h3
  refine ⟨fun d hd e he => List.all_eq_true.mp (List.all_eq_true.mp h1 d hd) e he, ?_, fun d hd => Nat.le_trans (depth_mem hd) h3⟩
  rcases h2 with h2 | h2
  · refine .inl fun d hd => ?_
    have := List.all_eq_true.mp h2 d hd
    unfold isTupC at this
    split at this
    · exact ⟨_, _, rfl⟩
    · cases this
  · refine .inr fun d hd => ?_
    have := List.all_eq_true.mp h2 d hd
    cases d <;> first | (cases this; done) | exact ⟨fun z => (by cases z), fun xs z => (by cases z)⟩
section
variable {K : PySem.W.Frag} {H : Hp}
theorem RpL.zips : ∀ {vs : List V} {ds : List D}, RpL K H vs ds → ∃ ps : List (V × D), ps.map (·.1) = vs ∧ ps.map (·.2) = ds ∧ ∀ p ∈ ps, Rp K H p.1 p.2
  | _, _, .nil => ⟨[], rfl, rfl, fun p z => by cases z⟩
  | _, _, .cons (v := v) (d := d) r1 r2 => by
    obtain ⟨ps, e1, e2, h⟩ := RpL.zips r2
    exact ⟨(v, d) :: ps, by simp [e1], by simp [e2], fun p hp => by
      rcases List.mem_cons.mp hp with rfl | hp
      · exact r1
      · exact h p hp⟩
theorem RpL.unzips : ∀ (ps : List (V × D)), (∀ p ∈ ps, Rp K H p.1 p.2) → RpL K H (ps.map (·.1)) (ps.map (·.2))
  | [], _ => .nil
  | p :: ps, h => .cons (h p List.mem_cons_self) (RpL.unzips ps fun q hq => h q (List.mem_cons_of_mem _ hq))
theorem ok_sorted : CallOk K (rSortedD K) gSorted := by
  intro F σ H ρ A xs ds res g hp e Q q
  match ds, e with
  | [.list ds], e =>
    simp only [gSorted] at e
    split at e
    · rename_i hc
      cases e
      obtain ⟨x, rfl, h⟩ := paired1 hp
      obtain ⟨p, vs, rfl, e1, r1⟩ := h.list
      obtain ⟨ps, rfl, rfl, hr⟩ := RpL.zips r1
      obtain ⟨a1, a2, a3⟩ := sort_all hc
      refine ⟨p, ps, rfl, .of e1, fun y hy => (Rp.dp ((hr y hy).mono (vw_same _ _))), a1, a2, fun y hy => a3 _ (List.mem_map.mpr ⟨y, hy, rfl⟩), fun n hn => ?_⟩
      have hm : (ps.mergeSort (dataLe false (·.2))).map (·.2) = sortD (ps.map (·.2)) := List.map_mergeSort fun a _ b _ => rfl
      rw [← hm] at q
      exact q _ _ (.newL g hn (RpL.unzips _ fun y hy => hr y ((List.mergeSort_perm _ _).mem_iff.mp hy)))
    · cases e
  | [.none], e => cases e
  | [.bool _], e => cases e
  | [.int _], e => cases e
  | [.str _], e => cases e
  | [.tuple _], e => cases e
  | [.dict _], e => cases e
  | [], e => cases e
  | _ :: _ :: _, e => simp [gSorted] at e
end
end Z
end
section
namespace Z
open PySem PySem.Spec L2
/-- a function that the kernel does not open -/
noncomputable def hide {α : Type} (a : α) : α := Classical.choose (⟨a, rfl⟩ : ∃ b, b = a)
theorem hide_eq {α : Type} (a : α) : hide a = a := Classical.choose_spec (⟨a, rfl⟩ : ∃ b, b = a)
/-! ### what no one reads any more is forgotten -/
def cuS : S → Bool
  | .cu _ _ => true
  | _ => false
def kill1 (v : Nat) (ρ : List S) : List S := match ρ[v]? with
  | some s => if cuS s = true then ρ else ρ.set v .u
  | none => ρ
def killS : List Nat → List S → List S
  | [], ρ => ρ
  | v :: vs, ρ => killS vs (kill1 v ρ)
/-- a statement behind which the slots vs are forgotten -/
def kl (vs : List Nat) (g : SF) : SF := fun ρ => g ρ >>= fun p => match p.1 with
  | .rt r => .ok (.rt r, p.2)
  | o => .ok (o, killS vs p.2)
section
variable {K : PySem.W.Frag} {mg : Str → Option Value} {W : WX} {F : Addr → Prop} {σ : St} {H H' : Hp} {ρ ρ0 : List S} {A A0 : List (Option Addr)}
theorem Good.kill1 {v : Nat} (g : Good K F σ H ρ A) (s : Stp F H' ρ0 A0 H ρ A) : ∃ A', Good K F σ H (kill1 v ρ) A' ∧ Stp F H' ρ0 A0 H (kill1 v ρ) A' := by
  unfold Z.kill1
  cases q : ρ[v]? with
  | none => exact ⟨A, g, s⟩
  | some t =>
    dsimp only
    by_cases hc : cuS t = true
    · rw [if_pos hc]; exact ⟨A, g, s⟩
    · rw [if_neg hc]
      have hi : v < ρ.length := lt_of_ix q
      have hA : v < A.length := by rw [g.l2]; exact hi
      refine ⟨A.set v none, ⟨by simp [g.l1], by simp [g.l2], fun i j a e1 e2 => ?_, fun i a e => ?_, g.trk, fun i u e => ?_⟩, ?_⟩
      · by_cases h1 : v = i
        · subst h1; rw [List.getElem?_set_self hA] at e1; cases e1
        · by_cases h2 : v = j
          · subst h2; rw [List.getElem?_set_self hA] at e2; cases e2
          · rw [List.getElem?_set_ne h1] at e1
            rw [List.getElem?_set_ne h2] at e2
            exact g.inj i j a e1 e2
      · by_cases h1 : v = i
        · subst h1; rw [List.getElem?_set_self hA] at e; cases e
        · rw [List.getElem?_set_ne h1] at e
          exact g.dis i a e
      · by_cases h1 : v = i
        · subst h1
          rw [List.getElem?_set_self hi] at e
          cases e
          rw [List.getElem?_set_self hA]
          exact rfl
        · rw [List.getElem?_set_ne h1] at e
          rw [List.getElem?_set_ne h1]
          exact (g.slot i u e).mono (fun _ _ => rfl) view_setNone
      · refine s.trans ⟨fun _ _ => rfl, view_setNone, fun i x y e => ?_⟩
        have h1 : v ≠ i := fun z => by
          subst z
          rw [q] at e
          cases e
          exact hc rfl
        rw [List.getElem?_set_ne h1, List.getElem?_set_ne h1]
        exact ⟨rfl, x, y, e⟩
theorem Good.kill : ∀ (vs : List Nat) {ρ : List S} {A : List (Option Addr)}, Good K F σ H ρ A → Stp F H' ρ0 A0 H ρ A → ∃ A', Good K F σ H (killS vs ρ) A' ∧ Stp F H' ρ0 A0 H (killS vs ρ) A'
  | [], _, A, g, s => ⟨A, g, s⟩
  | v :: vs, _, _, g, s => by
    obtain ⟨A1, g1, s1⟩ := g.kill1 (v := v) s
    exact Good.kill vs g1 s1
variable {X : Cx} {g : SF}
theorem kl_r (vs : List Nat) : ∀ D' σ H, TSt K mg W (kl vs g) D' σ H → TSt K mg W g D' σ H := by
  intro D' σ H ⟨F, ρ, A, gd, po⟩
  refine ⟨F, ρ, A, gd, ?_⟩
  unfold kl at po
  cases q : g ρ with
  | no => rw [q] at po; exact po.elim
  | ex ρ' c fs => rw [q] at po; exact po
  | ok p =>
    obtain ⟨o, ρ1⟩ := p
    rw [q] at po
    cases o with
    | rt r => exact po
    | nx =>
      intro σ' H1 A1 g1 s1
      obtain ⟨A2, g2, s2⟩ := Good.kill vs g1 s1
      exact po σ' H1 A2 g2 s2
    | bk =>
      intro σ' H1 A1 g1 s1
      obtain ⟨A2, g2, s2⟩ := Good.kill vs g1 s1
      exact po σ' H1 A2 g2 s2
    | ct =>
      intro σ' H1 A1 g1 s1
      obtain ⟨A2, g2, s2⟩ := Good.kill vs g1 s1
      exact po σ' H1 A2 g2 s2
theorem st_kl (vs : List Nat) {st : Stmt} (h : PS X st (TSt K mg W g)) : PS X st (TSt K mg W (kl vs g)) := ps_imp h (kl_r vs)
theorem st_kls (vs : List Nat) {st : List Stmt} (h : PSs X st (TSt K mg W g)) : PSs X st (TSt K mg W (kl vs g)) := pss_imp h (kl_r vs)
end
end Z
end
section
namespace Z
open PySem PySem.Spec L2
def AL (f : AF) (m : Nat) : Prop := ∀ ρ q, f ρ = .ok q → q.1.length = m
theorem aNil_len : AL aNil 0 := fun ρ q h => by cases h; rfl
theorem aCons_len {f : EF} {g : AF} {m : Nat} (h : AL g m) : AL (aCons f g) (m + 1) := fun ρ q e => by
  unfold aCons at e
  cases q1 : f ρ with
  | no => rw [q1] at e; cases e
  | ex ρ' c fs => rw [q1] at e; cases e
  | ok p =>
    obtain ⟨r, ρ1⟩ := p
    rw [q1] at e
    simp only [Rs.bind_ok] at e
    cases q2 : g ρ1 with
    | no => cases r <;> simp [q2] at e
    | ex ρ' c fs => cases r <;> simp [q2] at e
    | ok t =>
      have := h ρ1 t q2
      cases r <;> simp [q2] at e <;> (subst e; simp [this])
section
variable {P : Program} {w : World} {K : PySem.W.Frag} {mg : Str → Option Value} {base : Heap} {k m : Nat} {f : Addr} {fd : FuncData} {ps : List Str}
/-- nothing is promised -/
theorem fn_no (h : m = ps.length) : FnOk P w K mg base (L2.CX P w) k f fd ps (spF K mg m fun _ => .no) :=
  ⟨fun vs H Q E ⟨F, args, r, hl, _⟩ => by rw [r.len, hl, h], fun A outer s H args us vs Q E _ _ _ _ ⟨F, a, _, _, _, z⟩ => z.elim⟩
/-- the law's promise -/
def spLaw (K : PySem.W.Frag) : Sp := fun vs H Q _ => ∃ (a : Addr) (ns : List Int), vs = [.ref a] ∧ SqL K H a (ns.map V.int) ∧ ns.length ≤ 63 ∧ ∀ H', Q (.bl true) H'
theorem vw_none (H : Hp) : vw H (fun _ => False) = H := by funext b; exact vw_neg id
theorem fn_law {mf : List S → Rs S} (h : FnOk P w K mg base (L2.CX P w) k f fd ps (spF K mg 1 mf)) (t : ∀ ns : List Int, ns.length ≤ 63 → mf [.fz ns] = .ok (.sh (.bool true))) : FnOk P w K mg base CX0 k f fd ps (spLaw K) := by
  have h2 : FnOk P w K mg base (L2.CX P w) k f fd ps (spLaw K) := by
    refine h.imp fun vs H Q E ⟨a, ns, e, hs, hl, q⟩ => ?_
    refine ⟨fun _ => False, [.fz ns], ?_, rfl, fun b z => z.elim, ?_⟩
    · rw [e, vw_none]
      exact .cons ⟨a, rfl, hs⟩ .nil
    · rw [t ns hl]
      intro v H' _ ff
      cases ff.2
      exact q H'
  refine ⟨h2.len, fun A outer s H args us vs Q E hr he hb hv hs => codeAny_mono (h2.run A outer s H args us vs Q E0 hr he hb hv hs) fun r s' q => ?_⟩
  cases r with
  | ok fl => cases fl <;> exact q
  | error e =>
    obtain ⟨_, _, _, _, _, _, _, _, _, _, _, _, z⟩ := q
    exact z.elim
end
/-- a def of the text: it stands there, and how its arguments bind -/
structure Df (K : PySem.W.Frag) (mg : Str → Option Value) (x : Str) (st : Stmt) (ps : List Str) (f : Addr) (fd : FuncData) : Prop where
  d : FunD K x x (defArgs st) (defBody st) (defScope st) [] [] f fd
  g : mg x = some (.ref f)
  b : Binds K fd ps []
theorem df_mk {K : PySem.W.Frag} {mg : Str → Option Value} {h : Heap} (X : K.In h) (G : h.Ns mainGlobals mg) {x : Str} {st : Stmt} {ps : List Str} (hd : ∃ fd, FunD K x x (defArgs st) (defBody st) (defScope st) [] [] (He.fAd K (x, none)) fd) (hg : (He.Fa.glo x).ok K = true)
    (hb : ∀ (kV doc pm : Value) (an : Option Addr) (cdv ct : Value) (us : List Value), us.length = ps.length → bindArgs (PySem.W.fnOf x x (defArgs st) (defBody st) (defScope st) .none kV doc pm an cdv ct) ⟨us, []⟩ = pure (ps.zip us)) :
    ∃ fd, Df K mg x st ps (He.ga K x) fd := by
  obtain ⟨fd, F⟩ := hd
  exact ⟨fd, F, He.glo_ok X G hg, F.bindsN hb⟩
end Z
end
section
namespace P
open PySem Z
noncomputable section
def LIM : Nat := hide 100000000
theorem LIM_eq : LIM = 100000000 := hide_eq _
/-- def fits_whole(value, low, high); slots: 0 value, 1 low, 2 high -/
def b_fits_whole : SF :=
    sRet (fAndV (fIsi "int" (oN 0)) (fAndV (fNotV (oE (fIsi "bool" (oN 0)))) (fChain gLe gLe (oN 1) (oN 0) (oN 2))))
def m_fits_whole : List S → Rs S := hide (retF b_fits_whole 3)
/-- def is_tuple_of(value, least, most); slots: 0 value, 1 least, 2 most -/
def b_is_tuple_of : SF :=
    sRet (fAndV (fIsi "tuple" (oN 0)) (fChain gLe gLe (oN 1) (oE (fCall gLen (hCons (oN 0) (hNil)))) (oN 2)))
def m_is_tuple_of : List S → Rs S := hide (retF b_is_tuple_of 3)
/-- def fits_pick(many, value); slots: 0 many, 1 value, 2 one, 3 other -/
def b_fits_pick : SF :=
    sSeq (sIf (fOrB (fNotB (fTruth (oE (fUser m_is_tuple_of (aCons (fN 1) (aCons (fC (.int 0)) (aCons (fN 0) (aNil)))))))) (fNotB (fTruth (oE (fCall gAll (hCons (oE (fLc [2] (iSeq (fN 1)) (gNm 2) (bYes) (fUser m_fits_whole (aCons (fN 2) (aCons (fC (.int 1)) (aCons (fN 0) (aNil))))))) (hNil))))))) (sRet (fC (.bool false))) (sNx))
    (sRet (fCall gAll (hCons (oE (fLc [2, 3] (iZip' (aCons (fN 1) (aCons (fSl (oN 1) (nSome (oE (fC (.int 1)))) (nNone)) (aNil)))) (gTupT 2 (gsCons (gNm 2) (gsCons (gNm 3) (gsNil)))) (bYes) (fOp gLt (oN 2) (oN 3)))) (hNil))))
def m_fits_pick : List S → Rs S := hide (retF b_fits_pick 4)
/-- def need_many(many); slots: 0 many -/
def b_need_many : SF :=
    sIf (fNotB (fTruth (oE (fUser m_fits_whole (aCons (fN 0) (aCons (fC (.int 1)) (aCons (fC (.int 20)) (aNil)))))))) ((fun _ => .no)) (sNx)
def m_need_many : List S → Rs S := hide (retF b_need_many 1)
/-- def need_size(many, size); slots: 0 many, 1 size -/
def b_need_size : SF :=
    sSeq (sExpr (fUser m_need_many (aCons (fN 0) (aNil))))
    (sIf (fNotB (fTruth (oE (fUser m_fits_whole (aCons (fN 1) (aCons (fC (.int 0)) (aCons (fN 0) (aNil)))))))) ((fun _ => .no)) (sNx))
def m_need_size : List S → Rs S := hide (retF b_need_size 2)
/-- def need_pick(many, pick); slots: 0 many, 1 pick -/
def b_need_pick : SF :=
    sSeq (sExpr (fUser m_need_many (aCons (fN 0) (aNil))))
    (sIf (fNotB (fTruth (oE (fUser m_fits_pick (aCons (fN 0) (aCons (fN 1) (aNil))))))) ((fun _ => .no)) (sNx))
def m_need_pick : List S → Rs S := hide (retF b_need_pick 2)
/-- def choose(many, size); slots: 0 many, 1 size, 2 found, 3 one -/
def b_choose : SF :=
    sSeq (sSet 2 (fC (.int 1)))
    (sSeq (sFor (iRange1 (hCons (oN 1) (hNil))) (gNm 3) (kl [3] (sSet 2 (fOp gDiv (oE (fOp gMul (oN 2) (oE (fOp gSub (oN 0) (oN 3))))) (oE (fOp gAdd (oN 3) (oE (fC (.int 1)))))))))
    (sRet (fIf (bOf (fOp gLe (oN 1) (oN 0))) (fM 2) (fC (.int 0)))))
def m_choose : List S → Rs S := hide (retF b_choose 4)
/-- def need_number(many, size, number, less); slots: 0 many, 1 size, 2 number, 3 less -/
def b_need_number : SF :=
    sSeq (sExpr (fUser m_need_size (aCons (fN 0) (aCons (fN 1) (aNil)))))
    (sIf (fNotB (fTruth (oE (fUser m_fits_whole (aCons (fN 2) (aCons (fC (.int 0)) (aCons (fOp gSub (oE (fOp gSub (oE (fUser m_choose (aCons (fN 0) (aCons (fN 1) (aNil))))) (oE (fC (.int 1))))) (oN 3)) (aNil)))))))) ((fun _ => .no)) (sNx))
def m_need_number : List S → Rs S := hide (retF b_need_number 4)
/-- def number_in(pick); slots: 0 pick, 1 found, 2 at, 3 one -/
def b_number_in : SF :=
    sSeq (sSet 1 (fC (.int 0)))
    (sSeq (sFor (iEnum' (aCons (fN 0) (aNil))) (gTupT 2 (gsCons (gNm 2) (gsCons (gNm 3) (gsNil)))) (kl [2, 3] (sSet 1 (fOp gSub (oE (fOp gSub (oE (fUser m_choose (aCons (fN 3) (aCons (fOp gAdd (oN 2) (oE (fC (.int 1)))) (aNil))))) (oE (fC (.int 1))))) (oN 1)))))
    (sRet (fM 1)))
def m_number_in : List S → Rs S := hide (retF b_number_in 4)
/-- def pick_in(many, size, number); slots: 0 many, 1 size, 2 number, 3 found, 4 left -/
def b_pick_in : SF :=
    sSeq (sSet 3 (fTup (aNil)))
    (sSeq (kl [0, 2] (sFor (iRange3 (hCons (oN 1) (hCons (oE (fC (.int 0))) (hCons (oE (fNeg (oE (fC (.int 1))))) (hNil))))) (gNm 4) (kl [4] (sSeq (whileL (bOf (fOp gGt (oE (fUser m_choose (aCons (fOp gSub (oN 0) (oE (fC (.int 1)))) (aCons (fN 4) (aNil))))) (oN 2))) (sSet 0 (fOp gSub (oN 0) (oE (fC (.int 1))))) LIM)
    (sSeq (sSet 3 (fOp gAdd (oE (fTup (aCons (fN 0) (aNil)))) (oN 3)))
    (sSet 2 (fOp gSub (oE (fOp gSub (oE (fUser m_choose (aCons (fN 0) (aCons (fN 4) (aNil))))) (oE (fC (.int 1))))) (oN 2))))))))
    (sRet (fM 3)))
def m_pick_in : List S → Rs S := hide (retF b_pick_in 5)
/-- def exchange_in(one, other); slots: 0 one, 1 other, 2 item -/
def b_exchange_in : SF :=
    sRet (fTup (aCons (fOp gIx (oE (fLc [2] (iSeq (fN 0)) (gNm 2) (bOf (fOp gNotIn (oN 2) (oN 1))) (fN 2))) (oE (fC (.int 0)))) (aCons (fOp gIx (oE (fLc [2] (iSeq (fN 1)) (gNm 2) (bOf (fOp gNotIn (oN 2) (oN 0))) (fN 2))) (oE (fC (.int 0)))) (aNil))))
def m_exchange_in : List S → Rs S := hide (retF b_exchange_in 3)
/-- def pick_at(many, size, number); slots: 0 many, 1 size, 2 number -/
def b_pick_at : SF :=
    sSeq (sExpr (fUser m_need_number (aCons (fN 0) (aCons (fN 1) (aCons (fN 2) (aCons (fC (.int 0)) (aNil)))))))
    (sRet (fUser m_pick_in (aCons (fN 0) (aCons (fN 1) (aCons (fN 2) (aNil))))))
def m_pick_at : List S → Rs S := hide (retF b_pick_at 3)
/-- def exchange_behind(many, size, number); slots: 0 many, 1 size, 2 number -/
def b_exchange_behind : SF :=
    sSeq (sExpr (fUser m_need_number (aCons (fN 0) (aCons (fN 1) (aCons (fN 2) (aCons (fC (.int 1)) (aNil)))))))
    (sRet (fUser m_exchange_in (aCons (fUser m_pick_in (aCons (fN 0) (aCons (fN 1) (aCons (fN 2) (aNil))))) (aCons (fUser m_pick_in (aCons (fN 0) (aCons (fN 1) (aCons (fOp gAdd (oN 2) (oE (fC (.int 1)))) (aNil))))) (aNil)))))
def m_exchange_behind : List S → Rs S := hide (retF b_exchange_behind 3)
/-- def pick_behind(many, pick); slots: 0 many, 1 pick, 2 number -/
def b_pick_behind : SF :=
    sSeq (sExpr (fUser m_need_pick (aCons (fN 0) (aCons (fN 1) (aNil)))))
    (sSeq (sSet 2 (fOp gAdd (oE (fUser m_number_in (aCons (fN 1) (aNil)))) (oE (fC (.int 1)))))
    (sRet (fIf (bOf (fOp gLt (oN 2) (oE (fUser m_choose (aCons (fN 0) (aCons (fCall gLen (hCons (oN 1) (hNil))) (aNil))))))) (fUser m_pick_in (aCons (fN 0) (aCons (fCall gLen (hCons (oN 1) (hNil))) (aCons (fN 2) (aNil))))) (fC .none))))
def m_pick_behind : List S → Rs S := hide (retF b_pick_behind 3)
/-- def pick_ahead(many, pick); slots: 0 many, 1 pick, 2 number -/
def b_pick_ahead : SF :=
    sSeq (sExpr (fUser m_need_pick (aCons (fN 0) (aCons (fN 1) (aNil)))))
    (sSeq (sSet 2 (fUser m_number_in (aCons (fN 1) (aNil))))
    (sRet (fIf (bOf (fOp gGt (oN 2) (oE (fC (.int 0))))) (fUser m_pick_in (aCons (fN 0) (aCons (fCall gLen (hCons (oN 1) (hNil))) (aCons (fOp gSub (oN 2) (oE (fC (.int 1)))) (aNil))))) (fC .none))))
def m_pick_ahead : List S → Rs S := hide (retF b_pick_ahead 3)
/-- def _law_cup(script); slots: 0 script, 1 cell -/
def b__law_cup : SF :=
    sSeq (sSet 1 (fCall gAbs (hCons (oE (fOp gIx (oE (fOp gAdd (oE (fListZ 0)) (oE (fLst (aCons (fC (.int 0)) (aNil)))))) (oE (fC (.int 0))))) (hNil))))
    (sRet (fLst (aCons (fIf (bOf (fOp gGe (oN 1) (oE (fOp gPow (oE (fC (.int 10))) (oE (fC (.int 18))))))) (fOp gDiv (oN 1) (oE (fC (.int 193)))) (fC (.int 0))) (aCons (fOp gAdd (oE (fOp gMod (oE (fCall gInt (hCons (oE (fOp gAdd (oE (fOp gMul (oN 1) (oE (fC (.int 701))))) (oE (fC (.int 7301))))) (hNil)))) (oE (fC (.int 2077501381))))) (oE (fC (.int 361)))) (aNil)))))
def m__law_cup : List S → Rs S := hide (retF b__law_cup 2)
/-- def _law_roll(cup, many); slots: 0 cup, 1 many, 2 found, 3 deep -/
def b__law_roll : SF :=
    sSeq (sIf (bOf (fOp gGt (oE (fOp gIx (oN 0) (oE (fC (.int 0))))) (oE (fC (.int 0))))) (sSeq (sSet 2 (fOp gMod (oE (fCall gInt (hCons (oE (fOp gIx (oN 0) (oE (fC (.int 0))))) (hNil)))) (oN 1)))
    (sSeq (sSetIx 0 (fOp gDiv (oE (fOp gIx (oN 0) (oE (fC (.int 0))))) (oN 1)) (oE (fC (.int 0))))
    (sRet (fM 2)))) (sNx))
    (sSeq (sSetIx 0 (fOp gMod (oE (fCall gInt (hCons (oE (fOp gAdd (oE (fOp gMul (oE (fOp gIx (oN 0) (oE (fC (.int 1))))) (oE (fC (.int 33319))))) (oE (fC (.int 8173))))) (hNil)))) (oE (fC (.int 2147483423)))) (oE (fC (.int 1))))
    (sSeq (sSet 3 (fOp gMod (oE (fCall gInt (hCons (oE (fOp gMul (oE (fOp gIx (oN 0) (oE (fC (.int 1))))) (oE (fOp gAdd (oE (fOp gIx (oN 0) (oE (fC (.int 1))))) (oE (fC (.int 481))))))) (hNil)))) (oE (fC (.int 2147483587)))))
    (sRet (fOp gMod (oE (fCall gInt (hCons (oE (fOp gDiv (oN 3) (oE (fC (.int 983))))) (hNil)))) (oN 1)))))
def m__law_roll : Int → Int → List S → Rs (S × Int × Int) := hide (retC b__law_roll 4)
/-- def _law_same(told, due); slots: 0 told, 1 due, 2 at; it calls itself (me) -/
def b__law_same (me : List S → Rs S) : SF :=
    sSeq (sIf (fOrB (fTruth (oE (fIsi "tuple" (oN 1)))) (fTruth (oE (fIsi "list" (oN 1))))) (sSeq (sIf (fOrB (bOf (fOp gNe (oE (fIsi "tuple" (oN 0))) (oE (fIsi "tuple" (oN 1))))) (fOrB (bOf (fOp gNe (oE (fIsi "list" (oN 0))) (oE (fIsi "list" (oN 1))))) (bOf (fOp gNe (oE (fCall gLen (hCons (oN 0) (hNil)))) (oE (fCall gLen (hCons (oN 1) (hNil)))))))) (sRet (fC (.bool false))) (sNx))
    (sRet (fOp gEq (oE (fLc [2] (iRange1 (hCons (oE (fCall gLen (hCons (oN 1) (hNil)))) (hNil))) (gNm 2) (fNotB (fTruth (oE (fUser me (aCons (fOp gIx (oN 0) (oN 2)) (aCons (fOp gIx (oN 1) (oN 2)) (aNil))))))) (fC (.int 1)))) (oE (fLst (aNil)))))) (sNx))
    (sSeq (sIf (bOf (fOp gIs (oN 1) (oE (fC .none)))) (sRet (fOp gIs (oN 0) (oE (fC .none)))) (sNx))
    (sSeq (sIf (fTruth (oE (fIsi "bool" (oN 1)))) (sRet (fIf (fTruth (oN 1)) (fOp gIs (oN 0) (oE (fC (.bool true)))) (fOp gIs (oN 0) (oE (fC (.bool false)))))) (sNx))
    (sSeq (sIf (fTruth (oE (fIsi "int" (oN 1)))) (sRet (fAndV (fIsi "int" (oN 0)) (fAndV (fNotV (oE (fIsi "bool" (oN 0)))) (fOp gEq (oE (fCall gInt (hCons (oN 0) (hNil)))) (oN 1))))) (sNx))
    (sRet (fAndV (fIsi "str" (oN 0)) (fOp gEq (oE (fCall gStr (hCons (oN 0) (hNil)))) (oN 1)))))))
def r__law_same : Nat → List S → Rs S
  | 0 => fun _ => .no
  | n + 1 => retF (b__law_same (r__law_same n)) 3
def m__law_same : List S → Rs S := hide (r__law_same 40)
/-- def _law_choose(many, size); slots: 0 many, 1 size, 2 row, 3 turn, 4 one, 5 other -/
def b__law_choose : SF :=
    sSeq (sSet 2 (fLst (aCons (fC (.int 1)) (aNil))))
    (sSeq (sFor (iRange1 (hCons (oN 0) (hNil))) (gNm 3) (kl [3] (sSet 2 (fOp gAdd (oE (fOp gAdd (oE (fLst (aCons (fC (.int 1)) (aNil)))) (oE (fLc [4, 5] (iZip' (aCons (fN 2) (aCons (fSl (oN 2) (nSome (oE (fC (.int 1)))) (nNone)) (aNil)))) (gTupT 2 (gsCons (gNm 4) (gsCons (gNm 5) (gsNil)))) (bYes) (fOp gAdd (oN 4) (oN 5)))))) (oE (fLst (aCons (fC (.int 1)) (aNil))))))))
    (sRet (fIf (bOf (fOp gLe (oN 1) (oN 0))) (fOp gIx (oN 2) (oN 1)) (fC (.int 0)))))
def m__law_choose : List S → Rs S := hide (retF b__law_choose 6)
/-- def _law_list(many, size); slots: 0 many, 1 size, 2 pick; it calls itself (me) -/
def b__law_list (me : List S → Rs S) : SF :=
    sSeq (sIf (fOrB (bOf (fOp gEq (oN 1) (oE (fC (.int 0))))) (bOf (fOp gEq (oN 1) (oN 0)))) (sRet (fLst (aCons (fRg2 true (oE (fC (.int 1))) (oE (fOp gAdd (oN 1) (oE (fC (.int 1)))))) (aNil)))) (sNx))
    (sRet (fOp gAdd (oE (fUser me (aCons (fOp gSub (oN 0) (oE (fC (.int 1)))) (aCons (fN 1) (aNil))))) (oE (fLc [2] (iSeq (fRev (oE (fUser me (aCons (fOp gSub (oN 0) (oE (fC (.int 1)))) (aCons (fOp gSub (oN 1) (oE (fC (.int 1)))) (aNil))))))) (gNm 2) (bYes) (fOp gAdd (oN 2) (oE (fTup (aCons (fN 0) (aNil)))))))))
def r__law_list : Nat → List S → Rs S
  | 0 => fun _ => .no
  | n + 1 => retF (b__law_list (r__law_list n)) 3
def m__law_list : List S → Rs S := hide (r__law_list 40)
/-- def _law_rows_right(); slots:  -/
def b__law_rows_right : SF :=
    sRet (fUser m__law_same (aCons (fTup (aCons (fUser m_exchange_behind (aCons (fC (.int 3)) (aCons (fC (.int 2)) (aCons (fC (.int 0)) (aNil))))) (aCons (fUser m_pick_ahead (aCons (fC (.int 3)) (aCons (fTup (aCons (fC (.int 2)) (aCons (fC (.int 3)) (aNil)))) (aNil)))) (aNil)))) (aCons (fTup (aCons (fTup (aCons (fC (.int 1)) (aCons (fC (.int 3)) (aNil)))) (aCons (fTup (aCons (fC (.int 1)) (aCons (fC (.int 2)) (aNil)))) (aNil)))) (aNil))))
def m__law_rows_right : List S → Rs S := hide (retF b__law_rows_right 0)
/-- def law(script); slots: 0 script, 1 cup, 2 turn, 3 many, 4 size, 5 due, 6 at, 7 out, 8 come, 9 told, 10 number, 11 one, 12 other, 13 first, 14 last, 15 item -/
def b_law : SF :=
    sSeq (sCup 1 (fUser m__law_cup (aCons (fN 0) (aNil))))
    (sSeq (sIf (fNotB (fTruth (oE (fUser0 m__law_rows_right)))) (sRet (fC (.bool false))) (sNx))
    (sSeq (sFor (iRange1 (hCons (oE (fC (.int 3))) (hNil))) (gNm 2) (kl [2, 3, 4, 5, 6, 7, 8, 9] (sSeq (sSet 3 (fOp gAdd (oE (fC (.int 1))) (oE (fUserC m__law_roll 1 (aCons (fC (.int 8)) (aNil))))))
    (sSeq (sSet 4 (fUserC m__law_roll 1 (aCons (fOp gAdd (oN 3) (oE (fC (.int 1)))) (aNil))))
    (sSeq (sSet 5 (fUser m__law_list (aCons (fN 3) (aCons (fN 4) (aNil)))))
    (sSeq (sIf (fOrB (bOf (fOp gIsNot (oE (fUser m_pick_behind (aCons (fN 3) (aCons (fOp gIx (oN 5) (oE (fNeg (oE (fC (.int 1)))))) (aNil))))) (oE (fC .none)))) (bOf (fOp gIsNot (oE (fUser m_pick_ahead (aCons (fN 3) (aCons (fOp gIx (oN 5) (oE (fC (.int 0)))) (aNil))))) (oE (fC .none))))) (sRet (fC (.bool false))) (sNx))
    (sFor (iRange1 (hCons (oE (fOp gSub (oE (fCall gLen (hCons (oN 5) (hNil)))) (oE (fC (.int 1))))) (hNil))) (gNm 6) (kl [6, 7, 8, 9] (sSeq (sSet 7 (fLc [15] (iSeq (fOp gIx (oN 5) (oN 6))) (gNm 15) (bOf (fOp gNotIn (oN 15) (oE (fOp gIx (oN 5) (oE (fOp gAdd (oN 6) (oE (fC (.int 1))))))))) (fN 15)))
    (sSeq (sSet 8 (fLc [15] (iSeq (fOp gIx (oN 5) (oE (fOp gAdd (oN 6) (oE (fC (.int 1))))))) (gNm 15) (bOf (fOp gNotIn (oN 15) (oE (fOp gIx (oN 5) (oN 6))))) (fN 15)))
    (sSeq (sIf (fOrB (bOf (fOp gNe (oE (fCall gLen (hCons (oN 7) (hNil)))) (oE (fC (.int 1))))) (bOf (fOp gNe (oE (fCall gLen (hCons (oN 8) (hNil)))) (oE (fC (.int 1)))))) (sRet (fC (.bool false))) (sNx))
    (sSeq (sSet 9 (fTup (aCons (fUser m_exchange_behind (aCons (fN 3) (aCons (fN 4) (aCons (fN 6) (aNil))))) (aCons (fUser m_pick_behind (aCons (fN 3) (aCons (fOp gIx (oN 5) (oN 6)) (aNil)))) (aCons (fUser m_pick_ahead (aCons (fN 3) (aCons (fOp gIx (oN 5) (oE (fOp gAdd (oN 6) (oE (fC (.int 1)))))) (aNil)))) (aNil))))))
    (sIf (fNotB (fTruth (oE (fUser m__law_same (aCons (fN 9) (aCons (fTup (aCons (fTup (aCons (fOp gIx (oN 7) (oE (fC (.int 0)))) (aCons (fOp gIx (oN 8) (oE (fC (.int 0)))) (aNil)))) (aCons (fOp gIx (oN 5) (oE (fOp gAdd (oN 6) (oE (fC (.int 1)))))) (aCons (fOp gIx (oN 5) (oN 6)) (aNil))))) (aNil))))))) (sRet (fC (.bool false))) (sNx))))))))))))))
    (sSeq (sFor (iRange1 (hCons (oE (fC (.int 5))) (hNil))) (gNm 2) (kl [2, 3, 4, 7, 8, 9, 10, 11, 12, 13, 14] (sSeq (sSet 3 (fOp gAdd (oE (fC (.int 9))) (oE (fUserC m__law_roll 1 (aCons (fC (.int 12)) (aNil))))))
    (sSeq (sSet 4 (fOp gAdd (oE (fC (.int 1))) (oE (fUserC m__law_roll 1 (aCons (fOp gSub (oN 3) (oE (fC (.int 1)))) (aNil))))))
    (sSeq (sSet 10 (fUserC m__law_roll 1 (aCons (fOp gSub (oE (fUser m__law_choose (aCons (fN 3) (aCons (fN 4) (aNil))))) (oE (fC (.int 1)))) (aNil))))
    (sSeq (sAsg (gTupT 2 (gsCons (gNm 11) (gsCons (gNm 12) (gsNil)))) (fTup (aCons (fUser m_pick_at (aCons (fN 3) (aCons (fN 4) (aCons (fN 10) (aNil))))) (aCons (fUser m_pick_at (aCons (fN 3) (aCons (fN 4) (aCons (fOp gAdd (oN 10) (oE (fC (.int 1)))) (aNil))))) (aNil)))))
    (sSeq (sPar 7 8 (aCons (fLc [15] (iSeq (fN 11)) (gNm 15) (bOf (fOp gNotIn (oN 15) (oN 12))) (fN 15)) (aCons (fLc [15] (iSeq (fN 12)) (gNm 15) (bOf (fOp gNotIn (oN 15) (oN 11))) (fN 15)) (aNil))))
    (sSeq (sIf (fOrB (bOf (fOp gNe (oE (fCall gLen (hCons (oN 7) (hNil)))) (oE (fC (.int 1))))) (fOrB (bOf (fOp gNe (oE (fCall gLen (hCons (oN 8) (hNil)))) (oE (fC (.int 1))))) (bOf (fOp gNe (oE (fCall gLen (hCons (oN 11) (hNil)))) (oN 4))))) (sRet (fC (.bool false))) (sNx))
    (sSeq (sSet 9 (fTup (aCons (fUser m_exchange_behind (aCons (fN 3) (aCons (fN 4) (aCons (fN 10) (aNil))))) (aCons (fUser m_pick_behind (aCons (fN 3) (aCons (fN 11) (aNil)))) (aCons (fUser m_pick_ahead (aCons (fN 3) (aCons (fN 12) (aNil)))) (aNil))))))
    (sSeq (sIf (fNotB (fTruth (oE (fUser m__law_same (aCons (fN 9) (aCons (fTup (aCons (fTup (aCons (fOp gIx (oN 7) (oE (fC (.int 0)))) (aCons (fOp gIx (oN 8) (oE (fC (.int 0)))) (aNil)))) (aCons (fN 12) (aCons (fN 11) (aNil))))) (aNil))))))) (sRet (fC (.bool false))) (sNx))
    (sSeq (sPar 13 14 (aCons (fUser m_pick_at (aCons (fN 3) (aCons (fN 4) (aCons (fC (.int 0)) (aNil))))) (aCons (fUser m_pick_at (aCons (fN 3) (aCons (fN 4) (aCons (fOp gSub (oE (fUser m__law_choose (aCons (fN 3) (aCons (fN 4) (aNil))))) (oE (fC (.int 1)))) (aNil))))) (aNil))))
    (sSeq (sIf (fNotB (fTruth (oE (fUser m__law_same (aCons (fTup (aCons (fN 13) (aCons (fN 14) (aNil)))) (aCons (fTup (aCons (fRg2 true (oE (fC (.int 1))) (oE (fOp gAdd (oN 4) (oE (fC (.int 1)))))) (aCons (fOp gAdd (oE (fRg2 true (oE (fC (.int 1))) (oN 4))) (oE (fTup (aCons (fN 3) (aNil))))) (aNil)))) (aNil))))))) (sRet (fC (.bool false))) (sNx))
    (sSeq (sSet 10 (fOp gSub (oE (fUser m__law_choose (aCons (fOp gSub (oN 3) (oE (fC (.int 1)))) (aCons (fN 4) (aNil))))) (oE (fC (.int 1)))))
    (sIf (fOrB (bOf (fOp gIn (oN 3) (oE (fUser m_pick_at (aCons (fN 3) (aCons (fN 4) (aCons (fN 10) (aNil)))))))) (bOf (fOp gNe (oE (fOp gIx (oE (fUser m_exchange_behind (aCons (fN 3) (aCons (fN 4) (aCons (fN 10) (aNil)))))) (oE (fC (.int 1))))) (oN 3)))) (sRet (fC (.bool false))) (sNx)))))))))))))))
    (sRet (fC (.bool true))))))
def m_law : List S → Rs S := hide (retF b_law 16)
end
end P
end
section
namespace Z
open PySem PySem.Spec L2
/-! ### how the functions of values compute -/
@[simp] theorem fC_ok (d : D) (ρ : List S) : fC d ρ = .ok (.sh d, ρ) := Eq.trans rfl rfl
@[simp] theorem oN_eq (i : Nat) (ρ : List S) : oN i ρ = (match ρ[i]? with
  | some (.sh _) => .ok (.ix i, ρ)
  | some (.ow _) => .ok (.ix i, ρ)
  | some (.cu _ _) => .ok (.ix i, ρ)
  | _ => .no) := Eq.trans rfl rfl
@[simp] theorem fN_eq (i : Nat) (ρ : List S) : fN i ρ = (match ρ[i]? with
  | some (.sh d) => .ok (.sh d, ρ)
  | some (.ow d) => .ok (.sh d, ρ.set i (.sh d))
  | some (.fz ns) => .ok (.fz ns, ρ)
  | _ => .no) := Eq.trans rfl rfl
@[simp] theorem fM_eq (i : Nat) (ρ : List S) : fM i ρ = (match ρ[i]? with
  | some (.sh d) => .ok (.sh d, ρ)
  | some (.ow d) => .ok (.ow d, ρ.set i .u)
  | _ => .no) := Eq.trans rfl rfl
@[simp] theorem look_dt (d : D) (ρ : List S) : look (.dt d) ρ = some d := Eq.trans rfl rfl
@[simp] theorem look_ix (i : Nat) (ρ : List S) : look (.ix i) ρ = (match ρ[i]? with
    | some (.sh d) => some d
    | some (.ow d) => some d
    | some (.cu x y) => some (.list [.int x, .int y])
    | _ => none) := Eq.trans rfl rfl
@[simp] theorem oE_eq (f : EF) (ρ : List S) : oE f ρ = (f ρ >>= fun p => match p.1 with
  | .sh d => .ok (.dt d, p.2)
  | .ow d => .ok (.dt d, p.2)
  | _ => .no) := Eq.trans rfl rfl
@[simp] theorem fOp_eq (g : D → D → Option S) (fa fb : OF) (ρ : List S) : fOp g fa fb ρ = (fa ρ >>= fun p => fb p.2 >>= fun q => Rs.of (look p.1 q.2) >>= fun d1 => Rs.of (look q.1 q.2) >>= fun d2 => Rs.of (g d1 d2) >>= fun r => .ok (r, q.2)) := Eq.trans rfl rfl
@[simp] theorem bOf_eq (f : EF) (ρ : List S) : bOf f ρ = (f ρ >>= fun p => match p.1 with
  | .sh (.bool b) => .ok (b, p.2)
  | _ => .no) := Eq.trans rfl rfl
def ifB {β : Type} (r : S) (x y : Rs β) : Rs β := match r with
  | .sh (.bool true) => x
  | .sh (.bool false) => y
  | _ => .no
@[simp] theorem ifB_bool {β : Type} (b : Bool) (x y : Rs β) : ifB (.sh (.bool b)) x y = if b = true then x else y := by cases b <;> rfl
@[simp] theorem fChain_eq (g g' : D → D → Option S) (fa fb fc : OF) (ρ : List S) : fChain g g' fa fb fc ρ = (fa ρ >>= fun p => fb p.2 >>= fun q => Rs.of (look p.1 q.2) >>= fun d1 => Rs.of (look q.1 q.2) >>= fun d2 => Rs.of (g d1 d2) >>= fun r =>
  ifB r (fc q.2 >>= fun t => Rs.of (look q.1 t.2) >>= fun d2 => Rs.of (look t.1 t.2) >>= fun d3 => Rs.of (g' d2 d3) >>= fun r => .ok (r, t.2)) (.ok (.sh (.bool false), q.2))) := Eq.trans rfl rfl
@[simp] theorem fTruth_eq (f : OF) (ρ : List S) : fTruth f ρ = (f ρ >>= fun p => Rs.of (look p.1 p.2) >>= fun d => Rs.of (truth d) >>= fun b => .ok (b, p.2)) := Eq.trans rfl rfl
@[simp] theorem fNotB_eq (f : BF) (ρ : List S) : fNotB f ρ = (f ρ >>= fun p => .ok (!p.1, p.2)) := Eq.trans rfl rfl
@[simp] theorem fAndB_eq (f g : BF) (ρ : List S) : fAndB f g ρ = (f ρ >>= fun p => if p.1 = true then g p.2 else .ok (false, p.2)) := Eq.trans rfl rfl
@[simp] theorem fOrB_eq (f g : BF) (ρ : List S) : fOrB f g ρ = (f ρ >>= fun p => if p.1 = true then .ok (true, p.2) else g p.2) := Eq.trans rfl rfl
@[simp] theorem fIf_eq (c : BF) (f g : EF) (ρ : List S) : fIf c f g ρ = (c ρ >>= fun p => if p.1 = true then f p.2 else g p.2) := Eq.trans rfl rfl
@[simp] theorem fIfO_eq (c : BF) (f g : OF) (ρ : List S) : fIfO c f g ρ = (c ρ >>= fun p => if p.1 = true then f p.2 else g p.2) := Eq.trans rfl rfl
@[simp] theorem fNotV_eq (f : OF) (ρ : List S) : fNotV f ρ = (f ρ >>= fun p => Rs.of (look p.1 p.2) >>= fun d => Rs.of (truth d) >>= fun b => .ok (.sh (.bool (!b)), p.2)) := Eq.trans rfl rfl
@[simp] theorem fAndV_eq (f g : EF) (ρ : List S) : fAndV f g ρ = (f ρ >>= fun p => match p.1 with
  | .sh d => Rs.of (truth d) >>= fun b => if b = true then g p.2 else .ok (.sh d, p.2)
  | _ => .no) := Eq.trans rfl rfl
@[simp] theorem fOrV_eq (f g : EF) (ρ : List S) : fOrV f g ρ = (f ρ >>= fun p => match p.1 with
  | .sh d => Rs.of (truth d) >>= fun b => if b = true then .ok (.sh d, p.2) else g p.2
  | _ => .no) := Eq.trans rfl rfl
@[simp] theorem fNeg_eq (f : OF) (ρ : List S) : fNeg f ρ = (f ρ >>= fun p => Rs.of (look p.1 p.2) >>= fun d => match d with
  | .int i => .ok (.sh (.int (-i)), p.2)
  | _ => .no) := Eq.trans rfl rfl
@[simp] theorem aNil_eq (ρ : List S) : aNil ρ = .ok ([], ρ) := Eq.trans rfl rfl
@[simp] theorem aCons_eq (f : EF) (g : AF) (ρ : List S) : aCons f g ρ = (f ρ >>= fun p => match p.1 with
  | .sh d => g p.2 >>= fun q => .ok (.sh d :: q.1, q.2)
  | .ow d => g p.2 >>= fun q => .ok (.sh d :: q.1, q.2)
  | .fz ns => g p.2 >>= fun q => .ok (.fz ns :: q.1, q.2)
  | _ => .no) := Eq.trans rfl rfl
@[simp] theorem hNil_eq (ρ : List S) : hNil ρ = .ok ([], ρ) := Eq.trans rfl rfl
@[simp] theorem hCons_eq (f : OF) (g : HF) (ρ : List S) : hCons f g ρ = (f ρ >>= fun p => g p.2 >>= fun q => .ok (p.1 :: q.1, q.2)) := Eq.trans rfl rfl
@[simp] theorem looks_nil (ρ : List S) : looks [] ρ = some [] := Eq.trans rfl rfl
@[simp] theorem looks_cons (h : Hd) (hs : List Hd) (ρ : List S) : looks (h :: hs) ρ = (match look h ρ, looks hs ρ with
    | some d, some ds => some (d :: ds)
    | _, _ => none) := Eq.trans rfl rfl
@[simp] theorem shs_nil : shs [] = some [] := Eq.trans rfl rfl
@[simp] theorem shs_cons (d : D) (r : List S) : shs (.sh d :: r) = (shs r).map (d :: ·) := Eq.trans rfl rfl
@[simp] theorem fTup_eq (f : AF) (ρ : List S) : fTup f ρ = (f ρ >>= fun p => Rs.of (shs p.1) >>= fun ds => if ds.length ≤ 16777216 then .ok (.sh (.tuple ds), p.2) else .no) := Eq.trans rfl rfl
@[simp] theorem fLst_eq (f : AF) (ρ : List S) : fLst f ρ = (f ρ >>= fun p => Rs.of (shs p.1) >>= fun ds => if ds.length ≤ 16777216 then .ok (.ow (.list ds), p.2) else .no) := Eq.trans rfl rfl
@[simp] theorem nNone_eq (ρ : List S) : nNone ρ = .ok (none, ρ) := Eq.trans rfl rfl
@[simp] theorem nSome_eq (f : OF) (ρ : List S) : nSome f ρ = (f ρ >>= fun p => Rs.of (look p.1 p.2) >>= fun d => match d with
  | .int i => .ok (some i, p.2)
  | _ => .no) := Eq.trans rfl rfl
@[simp] theorem fSl_eq (f : OF) (l u : NF) (ρ : List S) : fSl f l u ρ = (f ρ >>= fun p => l p.2 >>= fun q => u q.2 >>= fun t => Rs.of (look p.1 t.2) >>= fun d => Rs.of (gSl d q.1 t.1) >>= fun r => .ok (r, t.2)) := Eq.trans rfl rfl
@[simp] theorem fCall_eq (g : List D → Option S) (f : HF) (ρ : List S) : fCall g f ρ = (f ρ >>= fun p => Rs.of (looks p.1 p.2) >>= fun ds => Rs.of (g ds) >>= fun r => .ok (r, p.2)) := Eq.trans rfl rfl
@[simp] theorem fListZ_eq (i : Nat) (ρ : List S) : fListZ i ρ = (match ρ[i]? with
  | some (.fz ns) => .ok (.ow (.list (ns.map PyData.int)), ρ)
  | _ => .no) := Eq.trans rfl rfl
@[simp] theorem fIsi_eq (T : String) (f : OF) (ρ : List S) : fIsi T f ρ = (f ρ >>= fun p => Rs.of (look p.1 p.2) >>= fun d => .ok (.sh (.bool (isTy T d)), p.2)) := Eq.trans rfl rfl
def noc : S → Bool
  | .cu _ _ => false
  | _ => true
@[simp] theorem noc_u : noc .u = true := Eq.trans rfl rfl
@[simp] theorem noc_sh (d : D) : noc (.sh d) = true := Eq.trans rfl rfl
@[simp] theorem noc_ow (d : D) : noc (.ow d) = true := Eq.trans rfl rfl
@[simp] theorem noc_fz (ns : List Int) : noc (.fz ns) = true := Eq.trans rfl rfl
@[simp] theorem noc_cu (x y : Int) : noc (.cu x y) = false := Eq.trans rfl rfl
@[simp] theorem setS_eq (i : Nat) (s : S) (ρ : List S) : setS i s ρ = (match ρ[i]? with
  | some q => if noc q = true then some (ρ.set i s) else none
  | none => none) := by
  unfold setS
  cases h : ρ[i]? with
  | none => rfl
  | some q => cases q <;> rfl
@[simp] theorem gNm_eq (i : Nat) (d : D) (ρ : List S) : gNm i d ρ = setS i (.sh d) ρ := Eq.trans rfl rfl
@[simp] theorem gsNil_eq (ρ : List S) : gsNil [] ρ = some ρ := Eq.trans rfl rfl
@[simp] theorem gsCons_eq (g : GF) (gs : List D → List S → Option (List S)) (d : D) (r : List D) (ρ : List S) : gsCons g gs (d :: r) ρ = (g d ρ).bind (gs r) := Eq.trans rfl rfl
@[simp] theorem gTupT_eq (n : Nat) (gs : List D → List S → Option (List S)) (ds : List D) (ρ : List S) : gTupT n gs (.tuple ds) ρ = if ds.length = n then gs ds ρ else none := Eq.trans rfl rfl
@[simp] theorem gTupL_eq (n : Nat) (gs : List D → List S → Option (List S)) (ds : List D) (ρ : List S) : gTupT n gs (.list ds) ρ = if ds.length = n then gs ds ρ else none := Eq.trans rfl rfl
@[simp] theorem sNx_eq (ρ : List S) : sNx ρ = .ok (.nx, ρ) := Eq.trans rfl rfl
@[simp] theorem sSeq_eq (g u : SF) (ρ : List S) : sSeq g u ρ = (g ρ >>= fun p => match p.1 with
  | .nx => u p.2
  | o => .ok (o, p.2)) := Eq.trans rfl rfl
@[simp] theorem sExpr_eq (f : EF) (ρ : List S) : sExpr f ρ = (f ρ >>= fun p => match p.1 with
  | .sh _ => .ok (.nx, p.2)
  | .ow _ => .ok (.nx, p.2)
  | _ => .no) := Eq.trans rfl rfl
@[simp] theorem sSet_eq (i : Nat) (f : EF) (ρ : List S) : sSet i f ρ = (f ρ >>= fun p => match p.1 with
  | .sh d => Rs.of (setS i (.sh d) p.2) >>= fun ρ' => .ok (.nx, ρ')
  | .ow d => Rs.of (setS i (.ow d) p.2) >>= fun ρ' => .ok (.nx, ρ')
  | _ => .no) := Eq.trans rfl rfl
@[simp] theorem sAsg_eq (t : GF) (f : EF) (ρ : List S) : sAsg t f ρ = (f ρ >>= fun p => match p.1 with
  | .sh d => Rs.of (t d p.2) >>= fun ρ' => .ok (.nx, ρ')
  | .ow d => Rs.of (t d p.2) >>= fun ρ' => .ok (.nx, ρ')
  | _ => .no) := Eq.trans rfl rfl
@[simp] theorem sPar_eq (i j : Nat) (fA : AF) (ρ : List S) : sPar i j fA ρ = (fA ρ >>= fun p => match p.1 with
  | [.sh d, .sh d'] => Rs.of ((setS i (.sh d) p.2).bind (setS j (.sh d'))) >>= fun ρ' => .ok (.nx, ρ')
  | _ => .no) := Eq.trans rfl rfl
@[simp] theorem sRet_eq (f : EF) (ρ : List S) : sRet f ρ = (f ρ >>= fun p => .ok (.rt p.1, p.2)) := Eq.trans rfl rfl
@[simp] theorem sIf_eq (c : BF) (g u : SF) (ρ : List S) : sIf c g u ρ = (c ρ >>= fun p => if p.1 = true then g p.2 else u p.2) := Eq.trans rfl rfl
@[simp] theorem sFor_eq (fi : IF) (t : GF) (b : SF) (ρ : List S) : sFor fi t b ρ = (fi ρ >>= fun p => forL t b p.1 p.2) := Eq.trans rfl rfl
@[simp] theorem iSeq_eq (f : EF) (ρ : List S) : iSeq f ρ = (f ρ >>= fun p => match p.1 with
  | .sh (.list ds) => .ok (ds, p.2)
  | .ow (.list ds) => .ok (ds, p.2)
  | .sh (.tuple ds) => .ok (ds, p.2)
  | .sh (.str z) => .ok (chars z, p.2)
  | _ => .no) := Eq.trans rfl rfl
@[simp] theorem iRange1_eq (fH : HF) (ρ : List S) : iRange1 fH ρ = (fH ρ >>= fun p => Rs.of (looks p.1 p.2) >>= fun ds => match ds with
  | [.int j] => if bnd j then .ok (rangeD 0 1 j.toNat, p.2) else .no
  | _ => .no) := Eq.trans rfl rfl
@[simp] theorem iRange2_eq (fH : HF) (ρ : List S) : iRange2 fH ρ = (fH ρ >>= fun p => Rs.of (looks p.1 p.2) >>= fun ds => match ds with
  | [.int i, .int j] => if bnd i ∧ bnd j then .ok (rangeD i 1 (j - i).toNat, p.2) else .no
  | _ => .no) := Eq.trans rfl rfl
@[simp] theorem iEnum_eq (fA : AF) (ρ : List S) : iEnum' fA ρ = (fA ρ >>= fun p => match p.1 with
  | [.sh (.list ds)] => .ok (enumD ds, p.2)
  | [.sh (.tuple ds)] => .ok (enumD ds, p.2)
  | _ => .no) := Eq.trans rfl rfl
@[simp] theorem iZip_eq (fA : AF) (ρ : List S) : iZip' fA ρ = (fA ρ >>= fun p => match p.1 with
  | [.sh (.list ds), .sh (.list es)] => .ok (zipD ds es, p.2)
  | [.sh (.tuple ds), .sh (.tuple es)] => .ok (zipD ds es, p.2)
  | _ => .no) := Eq.trans rfl rfl
@[simp] theorem fLc_eq (vs : List Nat) (fi : IF) (t : GF) (c : BF) (f : EF) (ρ : List S) : fLc vs fi t c f ρ = (fi ρ >>= fun p => if clean vs p.2 then Rs.of (lcL vs t c f p.1 (wipeS p.2 vs) []) >>= fun q => .ok (.ow (.list q.1), restS p.2 q.2 vs) else .no) := Eq.trans rfl rfl
@[simp] theorem bYes_eq (ρ : List S) : bYes ρ = .ok (true, ρ) := Eq.trans rfl rfl
@[simp] theorem fUser_eq (mf : List S → Rs S) (fA : AF) (ρ : List S) : fUser mf fA ρ = (fA ρ >>= fun p => match mf p.1 with
  | .ok r => .ok (r, p.2)
  | .ex _ c fs => .ex p.2 c fs
  | .no => .no) := Eq.trans rfl rfl
@[simp] theorem fUser0_eq (mf : List S → Rs S) (ρ : List S) : fUser0 mf ρ = (match mf [] with
  | .ok r => .ok (r, ρ)
  | _ => .no) := Eq.trans rfl rfl
@[simp] theorem fUserC_eq (mf : Int → Int → List S → Rs (S × Int × Int)) (i : Nat) (fA : AF) (ρ : List S) : fUserC mf i fA ρ = (match ρ[i]? with
  | some (.cu _ _) => fA ρ >>= fun p => (match p.2[i]? with
    | some (.cu x y) => (match mf x y p.1 with
      | .ok (r, x', y') => .ok (r, p.2.set i (.cu x' y'))
      | _ => .no)
    | _ => .no)
  | _ => .no) := Eq.trans rfl rfl
@[simp] theorem fAppend_eq (i : Nat) (f : EF) (ρ : List S) : fAppend i f ρ = (match ρ[i]? with
  | some (.ow (.list _)) => f ρ >>= fun p => match p.1 with
    | .sh d => appS i d p.2
    | .ow d => appS i d p.2
    | _ => .no
  | _ => .no) := Eq.trans rfl rfl
@[simp] theorem appS_eq (i : Nat) (d : D) (ρ : List S) : appS i d ρ = (match ρ[i]? with
  | some (.ow (.list ds)) => if ds.length < 16777216 then .ok (.sh .none, ρ.set i (.ow (.list (ds ++ [d])))) else .no
  | _ => .no) := Eq.trans rfl rfl
@[simp] theorem sSetIx_eq (i : Nat) (f : EF) (fi : OF) (ρ : List S) : sSetIx i f fi ρ = (f ρ >>= fun p => match p.1 with
  | .sh d => if isOwn i p.2 = true then fi p.2 >>= fun q => Rs.of (look q.1 q.2) >>= fun k => putIx i d k q.2 else .no
  | _ => .no) := Eq.trans rfl rfl
@[simp] theorem isOwn_eq (i : Nat) (ρ : List S) : isOwn i ρ = (match ρ[i]? with
  | some (.ow _) => true
  | some (.cu _ _) => true
  | _ => false) := Eq.trans rfl rfl
@[simp] theorem putIx_eq (i : Nat) (d k : D) (ρ : List S) : putIx i d k ρ = (match ρ[i]? with
  | some (.ow (.list ds)) => (match k with
    | .int k => Rs.of (ixN ds.length k) >>= fun j => .ok (.nx, ρ.set i (.ow (.list (ds.set j d))))
    | _ => .no)
  | some (.cu x y) => (match d, k with
    | .int z, .int k => if k = 0 then .ok (.nx, ρ.set i (.cu z y)) else if k = 1 then .ok (.nx, ρ.set i (.cu x z)) else .no
    | _, _ => .no)
  | _ => .no) := Eq.trans rfl rfl
@[simp] theorem sCup_eq (i : Nat) (f : EF) (ρ : List S) : sCup i f ρ = (f ρ >>= fun p => Rs.of (cupOf p.1) >>= fun c => Rs.of (setS i (.cu c.1 c.2) p.2) >>= fun ρ' => .ok (.nx, ρ')) := Eq.trans rfl rfl
@[simp] theorem bind_ite {α β : Type} (c : Prop) [Decidable c] (a b : Rs α) (f : α → Rs β) : ((if c then a else b) >>= f) = if c then a >>= f else b >>= f := by split <;> rfl
theorem sSeq_nx {g u : SF} {ρ ρ1 : List S} (h : g ρ = .ok (.nx, ρ1)) : sSeq g u ρ = u ρ1 := by unfold sSeq; rw [h]; rfl
theorem sSeq_rt {g u : SF} {ρ ρ1 : List S} {r : S} (h : g ρ = .ok (.rt r, ρ1)) : sSeq g u ρ = .ok (.rt r, ρ1) := by unfold sSeq; rw [h]; rfl
/-- the walks: state by state -/
theorem forL_ex {t : GF} {b : SF} (P : Nat → List S → Prop) : ∀ (ds : List D) (k : Nat) (ρ : List S), P k ρ → (∀ i d ρ, ds[i]? = some d → P (k + i) ρ → ∃ ρ1 ρ2, t d ρ = some ρ1 ∧ b ρ1 = .ok (.nx, ρ2) ∧ P (k + i + 1) ρ2) → ∃ ρ', forL t b ds ρ = .ok (.nx, ρ') ∧ P (k + ds.length) ρ'
  | [], k, ρ, h0, _ => ⟨ρ, rfl, h0⟩
  | d :: ds, k, ρ, h0, h => by
    obtain ⟨ρ1, ρ2, e1, e2, h2⟩ := h 0 d ρ rfl h0
    obtain ⟨ρ', e3, h3⟩ := forL_ex P ds (k + 1) ρ2 h2 fun i d' ρ' hd hp => by
      have := h (i + 1) d' ρ' (by simpa using hd) (by rw [show k + (i + 1) = k + 1 + i by omega]; exact hp)
      rw [show k + (i + 1) + 1 = k + 1 + i + 1 by omega] at this
      exact this
    refine ⟨ρ', ?_, by rw [List.length_cons, show k + (ds.length + 1) = k + 1 + ds.length by omega]; exact h3⟩
    unfold forL
    rw [e1]
    simp only [Rs.of_some, Rs.bind_ok, e2]
    exact e3
theorem forL_st {t : GF} {b : SF} (st : Nat → List S) (ds : List D) (h : ∀ i d, ds[i]? = some d → ∃ ρ1, t d (st i) = some ρ1 ∧ b ρ1 = .ok (.nx, st (i + 1))) : forL t b ds (st 0) = .ok (.nx, st ds.length) := by
  obtain ⟨ρ', e, h2⟩ := forL_ex (t := t) (b := b) (fun i ρ => ρ = st i) ds 0 (st 0) rfl fun i d ρ hd hp => by
    subst hp
    obtain ⟨ρ1, e1, e2⟩ := h i d hd
    rw [Nat.zero_add]
    exact ⟨ρ1, _, e1, e2, rfl⟩
  rw [e, h2, Nat.zero_add]
/-- comprehensions without a test -/
theorem lcL_map {vs : List Nat} {t : GF} {f : EF} (g : D → D) (ρ : List S) : ∀ (ds acc : List D), acc.length + ds.length ≤ 16777216 → (∀ d ∈ ds, ∃ ρ1 ρ2 r, t d ρ = some ρ1 ∧ f ρ1 = .ok (r, ρ2) ∧ (r = .sh (g d) ∨ r = .ow (g d)) ∧ clean vs ρ2 = true ∧ wipeS ρ2 vs = ρ) → lcL vs t bYes f ds ρ acc = some (acc ++ ds.map g, ρ)
  | [], acc, _, _ => by simp [lcL]
  | d :: ds, acc, hl, h => by
    obtain ⟨ρ1, ρ2, r, e1, e2, e3, e4, e5⟩ := h d List.mem_cons_self
    have ih := lcL_map g ρ ds (acc ++ [g d]) (by simp at hl ⊢; omega) fun d' hd => h d' (List.mem_cons_of_mem _ hd)
    have hlt : acc.length < 16777216 := by simp at hl; omega
    unfold lcL
    rw [e1]
    simp only [Option.bind_some, bYes, toOpt, if_true]
    rw [e2]
    simp only [toOpt, Option.bind_some]
    rcases e3 with rfl | rfl <;> simp only [e4, hlt, decide_true, Bool.and_self, if_true, e5] <;> rw [ih] <;> simp
/-- .. with one -/
theorem lcL_filter {vs : List Nat} {t : GF} {c : BF} {f : EF} (p : D → Bool) (g : D → D) (ρ : List S) : ∀ (ds acc : List D), acc.length + ds.length ≤ 16777216 → (∀ d ∈ ds, ∃ ρ1 ρ2, t d ρ = some ρ1 ∧ c ρ1 = .ok (p d, ρ2) ∧ (p d = false → clean vs ρ2 = true ∧ wipeS ρ2 vs = ρ) ∧ (p d = true → ∃ ρ3 r, f ρ2 = .ok (r, ρ3) ∧ (r = .sh (g d) ∨ r = .ow (g d)) ∧ clean vs ρ3 = true ∧ wipeS ρ3 vs = ρ)) →
    lcL vs t c f ds ρ acc = some (acc ++ (ds.filter p).map g, ρ)
  | [], acc, _, _ => by simp [lcL]
  | d :: ds, acc, hl, h => by
    obtain ⟨ρ1, ρ2, e1, e2, h0, h1⟩ := h d List.mem_cons_self
    have hlt : acc.length < 16777216 := by simp at hl; omega
    have hr : ∀ d' ∈ ds, _ := fun d' hd => h d' (List.mem_cons_of_mem _ hd)
    unfold lcL
    rw [e1]
    simp only [Option.bind_some]
    rw [e2]
    simp only [toOpt, Option.bind_some]
    cases hp : p d with
    | false =>
      obtain ⟨e4, e5⟩ := h0 hp
      simp only [Bool.false_eq_true, if_false, e4, e5, if_true]
      rw [lcL_filter p g ρ ds acc (by simp at hl; omega) hr]
      simp [hp]
    | true =>
      obtain ⟨ρ3, r, e3, e6, e4, e5⟩ := h1 hp
      simp only [if_true]
      rw [e3]
      simp only [toOpt, Option.bind_some]
      have ih := lcL_filter p g ρ ds (acc ++ [g d]) (by simp at hl ⊢; omega) hr
      rcases e6 with rfl | rfl <;> simp only [e4, hlt, decide_true, Bool.and_self, if_true, e5] <;> rw [ih] <;> simp [hp]
/-- .. whose elements draw -/
theorem lcL_ex {vs : List Nat} {t : GF} {f : EF} (P : List S → Prop) (E : D → Prop) : ∀ (ds acc : List D) (ρ : List S), acc.length + ds.length ≤ 16777216 → P ρ → (∀ d ρ, P ρ → ∃ ρ1 ρ2 e, t d ρ = some ρ1 ∧ f ρ1 = .ok (.sh e, ρ2) ∧ E e ∧ clean vs ρ2 = true ∧ P (wipeS ρ2 vs)) → ∃ es ρ', lcL vs t bYes f ds ρ acc = some (acc ++ es, ρ') ∧ es.length = ds.length ∧ (∀ e ∈ es, E e) ∧ P ρ'
  | [], acc, ρ, _, h0, _ => ⟨[], ρ, by simp [lcL], rfl, by simp, h0⟩
  | d :: ds, acc, ρ, hl, h0, h => by
    obtain ⟨ρ1, ρ2, e, e1, e2, he, e4, h5⟩ := h d ρ h0
    have hlt : acc.length < 16777216 := by simp at hl; omega
    obtain ⟨es, ρ', q1, q2, q3, q4⟩ := lcL_ex P E ds (acc ++ [e]) (wipeS ρ2 vs) (by simp at hl ⊢; omega) h5 h
    refine ⟨e :: es, ρ', ?_, by simp [q2], fun x hx => ?_, q4⟩
    · unfold lcL
      rw [e1]
      simp only [Option.bind_some, bYes, toOpt, if_true]
      rw [e2]
      simp only [toOpt, Option.bind_some, e4, hlt, decide_true, Bool.and_self, if_true]
      rw [q1]; simp
    · rcases List.mem_cons.mp hx with rfl | hx
      · exact he
      · exact q3 x hx
/-! what is forgotten -/
@[simp] theorem cuS_cu (x y : Int) : cuS (.cu x y) = true := rfl
@[simp] theorem cuS_u : cuS .u = false := rfl
@[simp] theorem cuS_sh (d : D) : cuS (.sh d) = false := rfl
@[simp] theorem cuS_ow (d : D) : cuS (.ow d) = false := rfl
@[simp] theorem cuS_fz (ns : List Int) : cuS (.fz ns) = false := rfl
@[simp] theorem kill1_eq (v : Nat) (ρ : List S) : kill1 v ρ = (match ρ[v]? with
  | some s => if cuS s = true then ρ else ρ.set v .u
  | none => ρ) := Eq.trans rfl rfl
@[simp] theorem killS_nil (ρ : List S) : killS [] ρ = ρ := Eq.trans rfl rfl
@[simp] theorem killS_cons (v : Nat) (vs : List Nat) (ρ : List S) : killS (v :: vs) ρ = killS vs (kill1 v ρ) := Eq.trans rfl rfl
@[simp] theorem kl_eq (vs : List Nat) (g : SF) (ρ : List S) : kl vs g ρ = (g ρ >>= fun p => match p.1 with
  | .rt r => .ok (.rt r, p.2)
  | o => .ok (o, killS vs p.2)) := Eq.trans rfl rfl
theorem kl_nx {g : SF} {vs : List Nat} {ρ ρ1 : List S} (h : g ρ = .ok (.nx, ρ1)) : kl vs g ρ = .ok (.nx, killS vs ρ1) := by unfold kl; rw [h]; rfl
theorem kl_rt {g : SF} {vs : List Nat} {ρ ρ1 : List S} {r : S} (h : g ρ = .ok (.rt r, ρ1)) : kl vs g ρ = .ok (.rt r, ρ1) := by unfold kl; rw [h]; rfl
end Z
end
section
namespace Z
open PySem PySem.Spec L2
/-! ### more equations, readable results -/
def outS : Rs (Out × List S) → Rs S
  | .ok (.rt (.sh d), _) => .ok (.sh d)
  | .ok (.rt (.ow d), _) => .ok (.ow d)
  | .ok (.nx, _) => .ok (.sh .none)
  | .ex _ c fs => .ex [] c fs
  | _ => .no
theorem retF_eq (g : SF) (N : Nat) (args : List S) : retF g N args = outS (g (args ++ List.replicate (N - args.length) .u)) := rfl
@[simp] theorem outS_sh (d : D) (ρ : List S) : outS (.ok (.rt (.sh d), ρ)) = .ok (.sh d) := Eq.trans rfl rfl
@[simp] theorem outS_ow (d : D) (ρ : List S) : outS (.ok (.rt (.ow d), ρ)) = .ok (.ow d) := Eq.trans rfl rfl
@[simp] theorem outS_nx (ρ : List S) : outS (.ok (.nx, ρ)) = .ok (.sh .none) := Eq.trans rfl rfl
@[simp] theorem outS_no : outS .no = .no := Eq.trans rfl rfl
@[simp] theorem outS_ite (c : Prop) [Decidable c] (x y : Rs (Out × List S)) : outS (if c then x else y) = if c then outS x else outS y := by split <;> rfl
def outC : Rs (Out × List S) → Rs (S × Int × Int)
  | .ok (.rt (.sh d), .cu x y :: _) => .ok (.sh d, x, y)
  | .ok (.rt (.ow d), .cu x y :: _) => .ok (.ow d, x, y)
  | _ => .no
theorem retC_eq (g : SF) (N : Nat) (x y : Int) (args : List S) : retC g N x y args = outC (g (.cu x y :: (args ++ List.replicate (N - 1 - args.length) .u))) := by
  unfold retC outC
  cases g (.cu x y :: (args ++ List.replicate (N - 1 - args.length) .u)) with
  | no => rfl
  | ex _ _ _ => rfl
  | ok p =>
    obtain ⟨o, ρ⟩ := p
    cases o with
    | nx => rfl
    | bk => rfl
    | ct => rfl
    | rt s =>
      cases s <;> cases ρ with
      | nil => rfl
      | cons s' r => cases s' <;> rfl
@[simp] theorem outC_sh (d : D) (x y : Int) (ρ : List S) : outC (.ok (.rt (.sh d), .cu x y :: ρ)) = .ok (.sh d, x, y) := Eq.trans rfl rfl
@[simp] theorem outC_ow (d : D) (x y : Int) (ρ : List S) : outC (.ok (.rt (.ow d), .cu x y :: ρ)) = .ok (.ow d, x, y) := Eq.trans rfl rfl
@[simp] theorem outC_ite (c : Prop) [Decidable c] (x y : Rs (Out × List S)) : outC (if c then x else y) = if c then outC x else outC y := by split <;> rfl
@[simp] theorem Rs_of_ite {α : Type} (c : Prop) [Decidable c] (x y : Option α) : Rs.of (if c then x else y) = if c then Rs.of x else Rs.of y := by split <;> rfl
@[simp] theorem rs_bind_no {α β : Type} (f : α → Rs β) : ((Rs.no : Rs α) >>= f) = .no := Eq.trans rfl rfl
/-! equality -/
theorem depth_int (i : Int) : PyData.depth (.int i) = 0 := rfl
@[simp] theorem gEq_int (i j : Int) : gEq (.int i) (.int j) = some (.sh (.bool (i == j))) := by simp [gEq, PyData.depth, PyData.eqv]
@[simp] theorem gNe_int (i j : Int) : gNe (.int i) (.int j) = some (.sh (.bool (!(i == j)))) := by simp [gNe, PyData.depth, PyData.eqv]
@[simp] theorem gEq_bool (i j : Bool) : gEq (.bool i) (.bool j) = some (.sh (.bool (i == j))) := by simp [gEq, PyData.depth, PyData.eqv]
@[simp] theorem gNe_bool (i j : Bool) : gNe (.bool i) (.bool j) = some (.sh (.bool (!(i == j)))) := by simp [gNe, PyData.depth, PyData.eqv]
/-- lists and tuples of whole numbers -/
def iv (i : Int) : D := .int i
def il (ns : List Int) : List D := ns.map PyData.int
@[simp] theorem il_length (ns : List Int) : (il ns).length = ns.length := by simp [il]
@[simp] theorem il_nil : il [] = [] := Eq.trans rfl rfl
@[simp] theorem il_cons (n : Int) (ns : List Int) : il (n :: ns) = .int n :: il ns := Eq.trans rfl rfl
theorem il_get (ns : List Int) (i : Nat) : (il ns)[i]? = (ns[i]?).map PyData.int := by simp [il]
theorem depthAll_il : ∀ ns : List Int, PyData.depthAll (il ns) = 0
  | [] => rfl
  | n :: r => by simp [PyData.depthAll, PyData.depth, depthAll_il r]
theorem eqvAll_il : ∀ ns ms : List Int, PyData.eqvAll (il ns) (il ms) = decide (ns = ms)
  | [], [] => by simp [PyData.eqvAll]
  | [], _ :: _ => by simp [PyData.eqvAll]
  | _ :: _, [] => by simp [PyData.eqvAll]
  | n :: r, m :: s => by
    simp only [il_cons, PyData.eqvAll, PyData.eqv, eqvAll_il r s]
    by_cases h : n = m <;> simp [h]
theorem gEq_tup (ns ms : List Int) : gEq (.tuple (il ns)) (.tuple (il ms)) = some (.sh (.bool (decide (ns = ms)))) := by simp [gEq, PyData.depth, depthAll_il, PyData.eqv, eqvAll_il]
theorem gNe_tup (ns ms : List Int) : gNe (.tuple (il ns)) (.tuple (il ms)) = some (.sh (.bool (!decide (ns = ms)))) := by simp [gNe, PyData.depth, depthAll_il, PyData.eqv, eqvAll_il]
theorem gEq_lst (ns ms : List Int) : gEq (.list (il ns)) (.list (il ms)) = some (.sh (.bool (decide (ns = ms)))) := by simp [gEq, PyData.depth, depthAll_il, PyData.eqv, eqvAll_il]
theorem gNe_lst (ns ms : List Int) : gNe (.list (il ns)) (.list (il ms)) = some (.sh (.bool (!decide (ns = ms)))) := by simp [gNe, PyData.depth, depthAll_il, PyData.eqv, eqvAll_il]
/-- .. of numbers from 0 on -/
def nl (ns : List Nat) : List D := ns.map fun n : Nat => PyData.int (n : Int)
@[simp] theorem nl_length (ns : List Nat) : (nl ns).length = ns.length := by simp [nl]
@[simp] theorem nl_nil : nl [] = [] := Eq.trans rfl rfl
@[simp] theorem nl_cons (n : Nat) (ns : List Nat) : nl (n :: ns) = .int n :: nl ns := Eq.trans rfl rfl
theorem nl_il (ns : List Nat) : nl ns = il (ns.map fun n : Nat => (n : Int)) := by simp [nl, il]
theorem nl_get (ns : List Nat) (i : Nat) : (nl ns)[i]? = (ns[i]?).map fun n : Nat => PyData.int (n : Int) := by simp [nl]
theorem depthAll_nl (ns : List Nat) : PyData.depthAll (nl ns) = 0 := by rw [nl_il, depthAll_il]
theorem eqvAll_nl : ∀ ns ms : List Nat, PyData.eqvAll (nl ns) (nl ms) = decide (ns = ms)
  | [], [] => by simp [PyData.eqvAll]
  | [], _ :: _ => by simp [PyData.eqvAll]
  | _ :: _, [] => by simp [PyData.eqvAll]
  | n :: r, m :: s => by
    simp only [nl_cons, PyData.eqvAll, PyData.eqv, eqvAll_nl r s]
    by_cases h : n = m <;> simp [h]
    intro h2; omega
theorem nl_inj {ns ms : List Nat} (h : nl ns = nl ms) : ns = ms := by
  have := eqvAll_nl ns ms
  rw [h, eqvAll_nl] at this
  simpa using this
theorem gEq_ntup (ns ms : List Nat) : gEq (.tuple (nl ns)) (.tuple (nl ms)) = some (.sh (.bool (decide (ns = ms)))) := by simp [gEq, PyData.depth, depthAll_nl, PyData.eqv, eqvAll_nl]
theorem gNe_ntup (ns ms : List Nat) : gNe (.tuple (nl ns)) (.tuple (nl ms)) = some (.sh (.bool (!decide (ns = ms)))) := by simp [gNe, PyData.depth, depthAll_nl, PyData.eqv, eqvAll_nl]
theorem gEq_nlst (ns ms : List Nat) : gEq (.list (nl ns)) (.list (nl ms)) = some (.sh (.bool (decide (ns = ms)))) := by simp [gEq, PyData.depth, depthAll_nl, PyData.eqv, eqvAll_nl]
theorem gNe_nlst (ns ms : List Nat) : gNe (.list (nl ns)) (.list (nl ms)) = some (.sh (.bool (!decide (ns = ms)))) := by simp [gNe, PyData.depth, depthAll_nl, PyData.eqv, eqvAll_nl]
theorem gEq_lnil (ds : List D) : gEq (.list ds) (.list []) = some (.sh (.bool ds.isEmpty)) := by
  cases ds <;> simp [gEq, PyData.depth, PyData.eqv, PyData.eqvAll, PyData.depthAll]
theorem gNe_lnil (ds : List D) : gNe (.list ds) (.list []) = some (.sh (.bool (!ds.isEmpty))) := by
  cases ds <;> simp [gNe, PyData.depth, PyData.eqv, PyData.eqvAll, PyData.depthAll]
@[simp] theorem fRev_eq (fa : OF) (ρ : List S) : fRev fa ρ = (fa ρ >>= fun p => Rs.of (look p.1 p.2) >>= fun d => Rs.of (gRev d) >>= fun r => .ok (r, p.2)) := Eq.trans rfl rfl
@[simp] theorem gRev_lst (ds : List D) : gRev (.list ds) = some (.ow (.list ds.reverse)) := Eq.trans rfl rfl
@[simp] theorem gRev_tup (ds : List D) : gRev (.tuple ds) = some (.sh (.tuple ds.reverse)) := Eq.trans rfl rfl
@[simp] theorem fRg1_eq (t : Bool) (fa : OF) (ρ : List S) : fRg1 t fa ρ = (fa ρ >>= fun p => Rs.of (look p.1 p.2) >>= fun d => Rs.of (gRgD t (.int 0) d) >>= fun r => .ok (r, p.2)) := Eq.trans rfl rfl
@[simp] theorem fRg2_eq (t : Bool) (fa fb : OF) (ρ : List S) : fRg2 t fa fb ρ = (fa ρ >>= fun p => fb p.2 >>= fun q => Rs.of (look p.1 q.2) >>= fun d => Rs.of (look q.1 q.2) >>= fun d2 => Rs.of (gRgD t d d2) >>= fun r => .ok (r, q.2)) := Eq.trans rfl rfl
@[simp] theorem gRgD_int (t : Bool) (i j : Int) : gRgD t (.int i) (.int j) = gRg t i j := Eq.trans rfl rfl
@[simp] theorem sAugL_eq (i : Nat) (f : EF) (ρ : List S) : sAugL i f ρ = (match ρ[i]? with
  | some (.ow (.list _)) => f ρ >>= fun p => match p.1 with
    | .sh (.list es) => extS i es p.2
    | .ow (.list es) => extS i es p.2
    | _ => .no
  | _ => .no) := Eq.trans rfl rfl
@[simp] theorem extS_eq (i : Nat) (es : List D) (ρ : List S) : extS i es ρ = (match ρ[i]? with
  | some (.ow (.list ds)) => if ds.length + es.length ≤ 16777216 then .ok (.nx, ρ.set i (.ow (.list (ds ++ es)))) else .no
  | _ => .no) := Eq.trans rfl rfl
/-! the operations at values told -/
@[simp] theorem truth_none : truth .none = some false := Eq.trans rfl rfl
@[simp] theorem truth_bool (b : Bool) : truth (.bool b) = some b := Eq.trans rfl rfl
@[simp] theorem truth_int (i : Int) : truth (.int i) = some (i != 0) := Eq.trans rfl rfl
@[simp] theorem truth_lst (ds : List D) : truth (.list ds) = some (!ds.isEmpty) := Eq.trans rfl rfl
@[simp] theorem truth_tup (ds : List D) : truth (.tuple ds) = some (!ds.isEmpty) := Eq.trans rfl rfl
@[simp] theorem gAdd_int (i j : Int) : gAdd (.int i) (.int j) = some (.sh (.int (i + j))) := Eq.trans rfl rfl
@[simp] theorem gSub_int (i j : Int) : gSub (.int i) (.int j) = some (.sh (.int (i - j))) := Eq.trans rfl rfl
theorem gMul_int (i j : Int) (h : i.natAbs < 18446744073709551616 ∨ j.natAbs < 18446744073709551616) : gMul (.int i) (.int j) = some (.sh (.int (i * j))) := by simp [gMul, h]
theorem gDiv_int (i j : Int) (h0 : 0 < j) (h : j < 1073741824) : gDiv (.int i) (.int j) = some (.sh (.int (i / j))) := by
  have : j.toNat < 1073741824 := by omega
  simp [gDiv, h0, this]
theorem gMod_int (i j : Int) (h0 : 0 < j) : gMod (.int i) (.int j) = some (.sh (.int (i % j))) := by simp [gMod, h0]
@[simp] theorem gLt_int (i j : Int) : gLt (.int i) (.int j) = some (.sh (.bool (decide (i < j)))) := Eq.trans rfl rfl
@[simp] theorem gLe_int (i j : Int) : gLe (.int i) (.int j) = some (.sh (.bool (decide (i ≤ j)))) := Eq.trans rfl rfl
@[simp] theorem gGt_int (i j : Int) : gGt (.int i) (.int j) = some (.sh (.bool (decide (j < i)))) := Eq.trans rfl rfl
@[simp] theorem gGe_int (i j : Int) : gGe (.int i) (.int j) = some (.sh (.bool (decide (j ≤ i)))) := Eq.trans rfl rfl
@[simp] theorem gInt_int (i : Int) : gInt [.int i] = some (.sh (.int i)) := Eq.trans rfl rfl
@[simp] theorem gInt_bool (b : Bool) : gInt [.bool b] = some (.sh (.int (if b then 1 else 0))) := Eq.trans rfl rfl
@[simp] theorem gLen_lst (ds : List D) : gLen [.list ds] = some (.sh (.int ds.length)) := Eq.trans rfl rfl
@[simp] theorem gLen_tup (ds : List D) : gLen [.tuple ds] = some (.sh (.int ds.length)) := Eq.trans rfl rfl
@[simp] theorem gAbs_int (i : Int) : gAbs [.int i] = some (.sh (.int (if i < 0 then -i else i))) := Eq.trans rfl rfl
@[simp] theorem gMax2_int (i j : Int) : gMax2 [.int i, .int j] = some (.sh (.int (if j > i then j else i))) := Eq.trans rfl rfl
@[simp] theorem gMin2_int (i j : Int) : gMin2 [.int i, .int j] = some (.sh (.int (if j < i then j else i))) := Eq.trans rfl rfl
@[simp] theorem gTuple_lst (ds : List D) : gTuple [.list ds] = some (.sh (.tuple ds)) := Eq.trans rfl rfl
@[simp] theorem gTuple_tup (ds : List D) : gTuple [.tuple ds] = some (.sh (.tuple ds)) := Eq.trans rfl rfl
@[simp] theorem gList_lst (ds : List D) : gList [.list ds] = some (.ow (.list ds)) := Eq.trans rfl rfl
@[simp] theorem gList_tup (ds : List D) : gList [.tuple ds] = some (.ow (.list ds)) := Eq.trans rfl rfl
theorem gAddT (a b : List D) (h : a.length + b.length ≤ 16777216) : gAdd (.tuple a) (.tuple b) = some (.sh (.tuple (a ++ b))) := by simp [gAdd, h]
theorem gAddL (a b : List D) (h : a.length + b.length ≤ 16777216) : gAdd (.list a) (.list b) = some (.ow (.list (a ++ b))) := by simp [gAdd, h]
@[simp] theorem gSl_lst (ds : List D) (a b : Option Int) : gSl (.list ds) a b = some (.ow (.list (cutD ds a b))) := Eq.trans rfl rfl
@[simp] theorem gSl_tup (ds : List D) (a b : Option Int) : gSl (.tuple ds) a b = some (.sh (.tuple (cutD ds a b))) := Eq.trans rfl rfl
@[simp] theorem gIs_none (d : D) : gIs d .none = some (.sh (.bool (match d with | .none => true | _ => false))) := Eq.trans rfl rfl
@[simp] theorem gIs_bool (d : D) (b : Bool) : gIs d (.bool b) = some (.sh (.bool (match d with | .bool k => k == b | _ => false))) := Eq.trans rfl rfl
theorem bools_bool0 {α : Type} (p : α → Bool) : ∀ xs : List α, bools (xs.map fun x => PyData.bool (p x)) = some (xs.map p)
  | [] => rfl
  | x :: r => by simp [bools, bools_bool0 p r]
theorem gAll_bools {α : Type} (p : α → Bool) (xs : List α) : gAll [.list (xs.map fun x => PyData.bool (p x))] = some (.sh (.bool (xs.all p))) := by
  simp only [gAll, bools_bool0]
  simp
theorem gAny_bools {α : Type} (p : α → Bool) (xs : List α) : gAny [.list (xs.map fun x => PyData.bool (p x))] = some (.sh (.bool (xs.any p))) := by
  simp only [gAny, bools_bool0]
  simp
theorem intL_il : ∀ ns : List Int, intL (il ns) = some ns
  | [] => rfl
  | n :: r => by simp [intL, intL_il r]
theorem gSum_tup (ns : List Int) : gSum [.tuple (il ns)] = some (.sh (.int ns.sum)) := by simp [gSum, intL_il]
theorem gSum_lst (ns : List Int) : gSum [.list (il ns)] = some (.sh (.int ns.sum)) := by simp [gSum, intL_il]
@[simp] theorem gIsNot_none (d : D) : gIsNot d .none = some (.sh (.bool (!(match d with | .none => true | _ => false)))) := Eq.trans rfl rfl
/-! places, ranges -/
theorem ixN_nat (n i : Nat) : ixN n (i : Int) = if i < n then some i else none := by
  unfold ixN
  simp
theorem atI_nat {α : Type} (xs : List α) (i : Nat) : atI xs (i : Int) = xs[i]? := by
  unfold atI
  rw [ixN_nat]
  split
  · rfl
  · rename_i h; simp at h; simp [h]
theorem atI_zero {α : Type} (xs : List α) : atI xs 0 = xs[0]? := atI_nat xs 0
theorem gIx_tup (ds : List D) (i : Nat) : gIx (.tuple ds) (.int (i : Int)) = (ds[i]?).map S.sh := by simp [gIx, atI_nat]
theorem gIx_lst (ds : List D) (i : Nat) : gIx (.list ds) (.int (i : Int)) = (ds[i]?).map S.sh := by simp [gIx, atI_nat]
theorem rangeD_zero (lo : Int) : rangeD lo 1 0 = [] := rfl
theorem rangeD_succ (lo : Int) (n : Nat) : rangeD lo 1 (n + 1) = .int lo :: rangeD (lo + 1) 1 n := by
  unfold rangeD
  rw [List.range_succ_eq_map]
  simp
  intro a _
  omega
@[simp] theorem rangeD_len (lo c : Int) (n : Nat) : (rangeD lo c n).length = n := by simp [rangeD]
theorem rangeD_get (lo : Int) (n i : Nat) (d : D) (h : (rangeD lo 1 n)[i]? = some d) : i < n ∧ d = .int (lo + i) := by
  unfold rangeD at h
  rw [List.getElem?_map] at h
  by_cases hi : i < n
  · rw [List.getElem?_range hi] at h
    refine ⟨hi, ?_⟩
    cases h
    simp
  · rw [List.getElem?_eq_none (by simpa using hi)] at h
    cases h
theorem rangeD0 (n : Nat) : rangeD 0 1 n = (List.range n).map fun i => .int ((i : Nat) : Int) := by simp [rangeD]
theorem rangeD_nl (n : Nat) : rangeD 0 1 n = nl (List.range n) := by simp [rangeD, nl]
/-- a walk over a range -/
theorem forL_rg {t : GF} {b : SF} (P : Nat → List S → Prop) (n : Nat) (ρ : List S) (h0 : P 0 ρ) (h : ∀ i ρ, i < n → P i ρ → ∃ ρ1 ρ2, t (.int (i : Int)) ρ = some ρ1 ∧ b ρ1 = .ok (.nx, ρ2) ∧ P (i + 1) ρ2) : ∃ ρ', forL t b (rangeD 0 1 n) ρ = .ok (.nx, ρ') ∧ P n ρ' := by
  obtain ⟨ρ', e, hp⟩ := forL_ex (t := t) (b := b) P (rangeD 0 1 n) 0 ρ h0 fun i d ρ hd hp => by
    obtain ⟨hi, rfl⟩ := rangeD_get 0 n i d hd
    rw [Nat.zero_add] at hp ⊢
    rw [Int.zero_add]
    exact h i ρ hi hp
  rw [rangeD_len, Nat.zero_add] at hp
  exact ⟨ρ', e, hp⟩
/-- a comprehension over things of one kind -/
theorem lcL_m {α : Type} {vs : List Nat} {t : GF} {c : BF} {f : EF} (F : α → D) (p : α → Bool) (g : α → D) (ρ : List S) : ∀ (is : List α) (acc : List D), acc.length + is.length ≤ 16777216 → (∀ i ∈ is, ∃ ρ1 ρ2, t (F i) ρ = some ρ1 ∧ c ρ1 = .ok (p i, ρ2) ∧ (p i = false → clean vs ρ2 = true ∧ wipeS ρ2 vs = ρ) ∧ (p i = true → ∃ ρ3 r, f ρ2 = .ok (r, ρ3) ∧ (r = .sh (g i) ∨ r = .ow (g i)) ∧ clean vs ρ3 = true ∧ wipeS ρ3 vs = ρ)) →
    lcL vs t c f (is.map F) ρ acc = some (acc ++ (is.filter p).map g, ρ)
  | [], acc, _, _ => by simp [lcL]
  | i :: ds, acc, hl, h => by
    obtain ⟨ρ1, ρ2, e1, e2, h0, h1⟩ := h i List.mem_cons_self
    have hlt : acc.length < 16777216 := by simp at hl; omega
    have hr : ∀ d' ∈ ds, _ := fun d' hd => h d' (List.mem_cons_of_mem _ hd)
    rw [List.map_cons]
    unfold lcL
    rw [e1]
    simp only [Option.bind_some]
    rw [e2]
    simp only [toOpt, Option.bind_some]
    cases hp : p i with
    | false =>
      obtain ⟨e4, e5⟩ := h0 hp
      simp only [Bool.false_eq_true, if_false, e4, e5, if_true]
      rw [lcL_m F p g ρ ds acc (by simp at hl; omega) hr]
      simp [hp]
    | true =>
      obtain ⟨ρ3, r, e3, e6, e4, e5⟩ := h1 hp
      simp only [if_true]
      rw [e3]
      simp only [toOpt, Option.bind_some]
      have ih := lcL_m F p g ρ ds (acc ++ [g i]) (by simp at hl ⊢; omega) hr
      rcases e6 with rfl | rfl <;> simp only [e4, hlt, decide_true, Bool.and_self, if_true, e5] <;> rw [ih] <;> simp [hp]
/-- .. without a test -/
theorem lcL_n {α : Type} {vs : List Nat} {t : GF} {f : EF} (F g : α → D) (ρ : List S) (is : List α) (hl : is.length ≤ 16777216) (h : ∀ i ∈ is, ∃ ρ1 ρ3 r, t (F i) ρ = some ρ1 ∧ f ρ1 = .ok (r, ρ3) ∧ (r = .sh (g i) ∨ r = .ow (g i)) ∧ clean vs ρ3 = true ∧ wipeS ρ3 vs = ρ) :
    lcL vs t bYes f (is.map F) ρ [] = some (is.map g, ρ) := by
  rw [lcL_m F (fun _ => true) g ρ is [] (by simpa using hl) fun i hi => ?_]
  · rw [List.filter_eq_self.mpr (fun _ _ => rfl)]; rfl
  · obtain ⟨ρ1, ρ3, r, h1, h2, h3, h4, h5⟩ := h i hi
    exact ⟨ρ1, ρ1, h1, rfl, by simp, fun _ => ⟨ρ3, r, h2, h3, h4, h5⟩⟩
/-- a walk over things of one kind -/
theorem forL_m {α : Type} {t : GF} {b : SF} (F : α → D) (P : Nat → List S → Prop) (xs : List α) (ρ : List S) (h0 : P 0 ρ) (h : ∀ i x ρ, xs[i]? = some x → P i ρ → ∃ ρ1 ρ2, t (F x) ρ = some ρ1 ∧ b ρ1 = .ok (.nx, ρ2) ∧ P (i + 1) ρ2) : ∃ ρ', forL t b (xs.map F) ρ = .ok (.nx, ρ') ∧ P xs.length ρ' := by
  obtain ⟨ρ', e, hp⟩ := forL_ex (t := t) (b := b) P (xs.map F) 0 ρ h0 fun i d ρ hd hp => by
    rw [List.getElem?_map] at hd
    cases hx : xs[i]? with
    | none => rw [hx] at hd; cases hd
    | some x =>
      rw [hx] at hd
      cases hd
      rw [Nat.zero_add] at hp ⊢
      exact h i x ρ hx hp
  rw [List.length_map, Nat.zero_add] at hp
  exact ⟨ρ', e, hp⟩
theorem forL_step {t : GF} {b : SF} {d : D} {ds : List D} {ρ ρ1 ρ2 : List S} (h1 : t d ρ = some ρ1) (h2 : b ρ1 = .ok (.nx, ρ2)) : forL t b (d :: ds) ρ = forL t b ds ρ2 := by
  conv => lhs; unfold forL
  rw [h1]
  simp only [Rs.of_some, Rs.bind_ok, h2]
theorem cutD_to (ds : List D) (k : Nat) : cutD ds none (some (k : Int)) = ds.take k := by
  unfold cutD
  rw [HT.sIx_nat, HT.sIx_none, List.drop_zero, Nat.sub_zero]
  by_cases h : k ≤ ds.length
  · rw [Nat.min_eq_left h]
  · rw [Nat.min_eq_right (by omega), List.take_of_length_le (Nat.le_refl _), List.take_of_length_le (by omega)]
theorem cutD_from (ds : List D) (k : Nat) : cutD ds (some (k : Int)) none = ds.drop k := by
  unfold cutD
  rw [HT.sIx_nat, HT.sIx_none]
  by_cases h : k ≤ ds.length
  · rw [Nat.min_eq_left h, List.take_of_length_le (by simp)]
  · rw [Nat.min_eq_right (by omega), List.take_of_length_le (by simp)]; rw [List.drop_eq_nil_of_le (Nat.le_refl _), List.drop_eq_nil_of_le (by omega)]
/-- what a slot of a name may hold: nothing, or a value -/
def pl (s : S) : Prop := s = .u ∨ ∃ d, s = .sh d
theorem noc_pl {s : S} (h : pl s) : noc s = true := by rcases h with rfl | ⟨d, rfl⟩ <;> rfl
theorem plainS_pl {s : S} (h : pl s) : plainS s = true := by rcases h with rfl | ⟨d, rfl⟩ <;> rfl
@[simp] theorem pl_u : pl .u := .inl rfl
@[simp] theorem pl_sh (d : D) : pl (.sh d) := .inr ⟨d, rfl⟩
theorem set_u {ρ : List S} {v : Nat} (hv : ρ[v]? = some .u) (s : S) : (ρ.set v s).set v .u = ρ := by
  rw [List.set_set]
  refine List.ext_getElem? fun j => ?_
  rw [List.getElem?_set]
  have hlt : v < ρ.length := by
    by_cases h : v < ρ.length
    · exact h
    · rw [List.getElem?_eq_none (by omega)] at hv; cases hv
  split
  · rename_i e; subst e; simp [hlt]; rw [List.getElem?_eq_getElem hlt] at hv; exact (Option.some.inj hv).symm
  · rfl
theorem get_set_self {ρ : List S} {v : Nat} {s0 : S} (hv : ρ[v]? = some s0) (s : S) : (ρ.set v s)[v]? = some s := by
  have hlt : v < ρ.length := by
    by_cases h : v < ρ.length
    · exact h
    · rw [List.getElem?_eq_none (by omega)] at hv; cases hv
  rw [List.getElem?_set_self hlt]
/-- a comprehension with one name, whose parts change nothing -/
theorem lcL_v {α : Type} {v : Nat} {c : BF} {f : EF} (F : α → D) (p : α → Bool) (g : α → D) (ρ : List S) (hv : ρ[v]? = some .u) (is : List α) (hl : is.length ≤ 16777216)
    (h : ∀ i ∈ is, c (ρ.set v (.sh (F i))) = .ok (p i, ρ.set v (.sh (F i))) ∧ (p i = true → f (ρ.set v (.sh (F i))) = .ok (.sh (g i), ρ.set v (.sh (F i))) ∨ f (ρ.set v (.sh (F i))) = .ok (.ow (g i), ρ.set v (.sh (F i))))) :
    lcL [v] (gNm v) c f (is.map F) ρ [] = some ((is.filter p).map g, ρ) := by
  have ht : ∀ d, gNm v d ρ = some (ρ.set v (.sh d)) := fun d => by rw [gNm_eq, setS_eq, hv]; rfl
  have hc : ∀ d, clean [v] (ρ.set v (.sh d)) = true := fun d => by simp [clean, get_set_self hv, plainS]
  have hw : ∀ d, wipeS (ρ.set v (.sh d)) [v] = ρ := fun d => set_u hv _
  rw [lcL_m F p g ρ is [] (by simpa using hl) fun i hi => ?_]
  · simp
  · obtain ⟨h1, h2⟩ := h i hi
    refine ⟨_, _, ht _, h1, fun _ => ⟨hc _, hw _⟩, fun q => ?_⟩
    rcases h2 q with e | e
    · exact ⟨_, _, e, .inl rfl, hc _, hw _⟩
    · exact ⟨_, _, e, .inr rfl, hc _, hw _⟩
theorem lcL_vn {α : Type} {v : Nat} {f : EF} (F : α → D) (g : α → D) (ρ : List S) (hv : ρ[v]? = some .u) (is : List α) (hl : is.length ≤ 16777216)
    (h : ∀ i ∈ is, f (ρ.set v (.sh (F i))) = .ok (.sh (g i), ρ.set v (.sh (F i))) ∨ f (ρ.set v (.sh (F i))) = .ok (.ow (g i), ρ.set v (.sh (F i)))) :
    lcL [v] (gNm v) bYes f (is.map F) ρ [] = some (is.map g, ρ) := by
  rw [lcL_v F (fun _ => true) g ρ hv is hl fun i hi => ⟨rfl, fun _ => h i hi⟩]
  rw [List.filter_eq_self.mpr (fun _ _ => rfl)]
/-- .. over pairs -/
theorem lcL_e {α : Type} {a b : Nat} {c : BF} {f : EF} (F G : α → D) (p : α → Bool) (g : α → D) (ρ : List S) (hab : a ≠ b) (ha : ρ[a]? = some .u) (hb : ρ[b]? = some .u) (is : List α) (hl : is.length ≤ 16777216)
    (h : ∀ i ∈ is, c ((ρ.set a (.sh (F i))).set b (.sh (G i))) = .ok (p i, (ρ.set a (.sh (F i))).set b (.sh (G i))) ∧ (p i = true → f ((ρ.set a (.sh (F i))).set b (.sh (G i))) = .ok (.sh (g i), (ρ.set a (.sh (F i))).set b (.sh (G i))) ∨ f ((ρ.set a (.sh (F i))).set b (.sh (G i))) = .ok (.ow (g i), (ρ.set a (.sh (F i))).set b (.sh (G i))))) :
    lcL [a, b] (gTupT 2 (gsCons (gNm a) (gsCons (gNm b) gsNil))) c f (is.map fun i => PyData.tuple [F i, G i]) ρ [] = some ((is.filter p).map g, ρ) := by
  have hb' : ∀ d, (ρ.set a (.sh d))[b]? = some .u := fun d => by rw [List.getElem?_set_ne hab, hb]
  have ht : ∀ d e, gTupT 2 (gsCons (gNm a) (gsCons (gNm b) gsNil)) (.tuple [d, e]) ρ = some ((ρ.set a (.sh d)).set b (.sh e)) := fun d e => by
    simp [ha, hb']
  have hc : ∀ d e, clean [a, b] ((ρ.set a (.sh d)).set b (.sh e)) = true := fun d e => by
    have h1 : ((ρ.set a (.sh d)).set b (.sh e))[a]? = some (.sh d) := by rw [List.getElem?_set_ne (Ne.symm hab), get_set_self ha]
    have h2 : ((ρ.set a (.sh d)).set b (.sh e))[b]? = some (.sh e) := get_set_self (hb' d) _
    simp [clean, h1, h2, plainS]
  have hw : ∀ d e, wipeS ((ρ.set a (.sh d)).set b (.sh e)) [a, b] = ρ := fun d e => by
    show (((ρ.set a (.sh d)).set b (.sh e)).set b .u).set a .u = ρ
    rw [set_u (hb' d), set_u ha]
  rw [lcL_m (fun i => PyData.tuple [F i, G i]) p g ρ is [] (by simpa using hl) fun i hi => ?_]
  · simp
  · obtain ⟨h1, h2⟩ := h i hi
    refine ⟨_, _, ht _ _, h1, fun _ => ⟨hc _ _, hw _ _⟩, fun q => ?_⟩
    rcases h2 q with e | e
    · exact ⟨_, _, e, .inl rfl, hc _ _, hw _ _⟩
    · exact ⟨_, _, e, .inr rfl, hc _ _, hw _ _⟩
theorem lcL_en {α : Type} {a b : Nat} {f : EF} (F G : α → D) (g : α → D) (ρ : List S) (hab : a ≠ b) (ha : ρ[a]? = some .u) (hb : ρ[b]? = some .u) (is : List α) (hl : is.length ≤ 16777216)
    (h : ∀ i ∈ is, f ((ρ.set a (.sh (F i))).set b (.sh (G i))) = .ok (.sh (g i), (ρ.set a (.sh (F i))).set b (.sh (G i))) ∨ f ((ρ.set a (.sh (F i))).set b (.sh (G i))) = .ok (.ow (g i), (ρ.set a (.sh (F i))).set b (.sh (G i)))) :
    lcL [a, b] (gTupT 2 (gsCons (gNm a) (gsCons (gNm b) gsNil))) bYes f (is.map fun i => PyData.tuple [F i, G i]) ρ [] = some (is.map g, ρ) := by
  rw [lcL_e F G (fun _ => true) g ρ hab ha hb is hl fun i hi => ⟨rfl, fun _ => h i hi⟩]
  rw [List.filter_eq_self.mpr (fun _ _ => rfl)]
end Z
end
section
namespace Z
open PySem PySem.Spec L2
/-! ### words of signs, their numbers, the reflected list: plain laws -/
def bi (b : Bool) : Int := if b then 1 else 0
def wd (w : List Bool) : D := .tuple (il (w.map bi))
@[simp] theorem gLen_wd (w : List Bool) : gLen [wd w] = some (.sh (.int w.length)) := by simp [wd]
@[simp] theorem isTy_wd (T : String) (w : List Bool) : isTy T (wd w) = (T == "tuple") := rfl
theorem il_bi (w : List Bool) : il (w.map bi) = w.map fun b => PyData.int (bi b) := by simp [il]
@[simp] theorem gIx_wd (w : List Bool) (i : Nat) (h : i < w.length) : gIx (wd w) (.int (i : Int)) = some (.sh (.int (bi w[i]))) := by rw [wd, gIx_tup, il_get]; simp [h]
@[simp] theorem bi_eq (a b : Bool) : (bi a == bi b) = (a == b) := by cases a <;> cases b <;> rfl
/-- the word of number N, with k signs, behind a sign a of the number -/
def gr : Nat → Nat → Bool → List Bool
  | 0, _, _ => []
  | k + 1, N, a => (decide (2 ^ k ≤ N) != a) :: gr k (if 2 ^ k ≤ N then N - 2 ^ k else N) (decide (2 ^ k ≤ N))
@[simp] theorem gr_len : ∀ k N a, (gr k N a).length = k
  | 0, _, _ => rfl
  | k + 1, N, a => by simp [gr, gr_len k]
/-- .. and the number of a word -/
def dc : List Bool → Nat → Bool → Nat
  | [], f, _ => f
  | s :: w, f, a => dc w (2 * f + if (a != s) then 1 else 0) (a != s)
theorem dc_gr : ∀ k N a f, N < 2 ^ k → dc (gr k N a) f a = f * 2 ^ k + N
  | 0, N, a, f, h => by simp at h; subst h; simp [gr, dc]
  | k + 1, N, a, f, h => by
    rw [Nat.pow_succ] at h
    unfold gr dc
    by_cases hb : 2 ^ k ≤ N
    · have e : (a != (decide (2 ^ k ≤ N) != a)) = true := by simp [hb]
      rw [e]
      simp only [hb, decide_true, if_true]
      rw [dc_gr k _ true _ (by omega), Nat.pow_succ, Nat.add_mul, Nat.mul_comm 2 f, Nat.mul_assoc, Nat.mul_comm 2 (2 ^ k)]
      omega
    · have e : (a != (decide (2 ^ k ≤ N) != a)) = false := by simp [hb]
      rw [e]
      simp only [hb, decide_false, if_false, Bool.false_eq_true]
      rw [dc_gr k _ false _ (by omega), Nat.pow_succ, Nat.add_zero, Nat.mul_comm 2 f, Nat.mul_assoc, Nat.mul_comm 2 (2 ^ k)]
theorem dc_lin : ∀ w f a, dc w f a = f * 2 ^ w.length + dc w 0 a
  | [], f, a => by simp [dc]
  | s :: w, f, a => by
    unfold dc
    rw [dc_lin w, dc_lin w (2 * 0 + _), List.length_cons, Nat.pow_succ, Nat.add_mul, Nat.mul_zero, Nat.zero_add, Nat.mul_comm 2 f, Nat.mul_assoc, Nat.mul_comm 2 (2 ^ w.length), Nat.add_assoc]
theorem dc_lt : ∀ w a, dc w 0 a < 2 ^ w.length
  | [], a => by simp [dc]
  | s :: w, a => by
    unfold dc
    rw [dc_lin, List.length_cons, Nat.pow_succ, Nat.mul_zero, Nat.zero_add]
    have := dc_lt w (a != s)
    split <;> omega
theorem gr_dc : ∀ w a, gr w.length (dc w 0 a) a = w
  | [], a => rfl
  | s :: w, a => by
    have hl := dc_lt w (a != s)
    have ih := gr_dc w (a != s)
    unfold dc
    rw [dc_lin, List.length_cons, Nat.mul_zero, Nat.zero_add]
    unfold gr
    by_cases hb : (a != s) = true
    · rw [hb] at hl ih ⊢
      have e : 2 ^ w.length ≤ 1 * 2 ^ w.length + dc w 0 true := by omega
      have e2 : 1 * 2 ^ w.length + dc w 0 true - 2 ^ w.length = dc w 0 true := by omega
      simp only [if_true, e, decide_true]
      rw [e2, ih]
      cases a <;> cases s <;> simp at hb ⊢
    · simp only [Bool.not_eq_true] at hb
      rw [hb] at hl ih ⊢
      have e : ¬ 2 ^ w.length ≤ 0 * 2 ^ w.length + dc w 0 false := by omega
      have e2 : 0 * 2 ^ w.length + dc w 0 false = dc w 0 false := by omega
      simp only [Bool.false_eq_true, if_false, e, decide_false]
      rw [e2, ih]
      cases a <;> cases s <;> simp at hb ⊢
theorem gr_inj {k N M : Nat} {a : Bool} (hN : N < 2 ^ k) (hM : M < 2 ^ k) (h : gr k N a = gr k M a) : N = M := by
  have h1 := dc_gr k N a 0 hN
  have h2 := dc_gr k M a 0 hM
  rw [h] at h1
  omega
/-- the word from the other end -/
theorem gr_flip : ∀ k N a, N < 2 ^ k → gr k (2 ^ k - 1 - N) (!a) = gr k N a
  | 0, N, a, _ => rfl
  | k + 1, N, a, h => by
    rw [Nat.pow_succ] at h
    unfold gr
    rw [Nat.pow_succ]
    by_cases hb : 2 ^ k ≤ N
    · have e : ¬ 2 ^ k ≤ 2 ^ k * 2 - 1 - N := by omega
      simp only [hb, e, decide_true, decide_false, if_true, if_false]
      have := gr_flip k (N - 2 ^ k) true (by omega)
      rw [show 2 ^ k - 1 - (N - 2 ^ k) = 2 ^ k * 2 - 1 - N by omega] at this
      rw [Bool.not_true] at this
      rw [this]
      cases a <;> rfl
    · have e : 2 ^ k ≤ 2 ^ k * 2 - 1 - N := by omega
      simp only [hb, e, decide_true, decide_false, if_true, if_false]
      have := gr_flip k N false (by omega)
      rw [show 2 ^ k - 1 - N = 2 ^ k * 2 - 1 - N - 2 ^ k by omega] at this
      rw [Bool.not_false] at this
      rw [this]
      cases a <;> rfl
/-- the places, from 1, where two words are unlike -/
def un : List Bool → List Bool → List Nat
  | x :: w, y :: v => if (x != y) = true then 1 :: (un w v).map (· + 1) else (un w v).map (· + 1)
  | _, _ => []
theorem un_self : ∀ w, un w w = []
  | [] => rfl
  | x :: w => by simp [un, un_self w]
theorem un_len : ∀ w v, (un w v).length ≤ w.length
  | [], _ => by simp [un]
  | x :: w, [] => by simp [un]
  | x :: w, y :: v => by
    have := un_len w v
    unfold un
    split <;> simp <;> omega
theorem un_nil : ∀ w v, w.length = v.length → un w v = [] → w = v
  | [], [], _, _ => rfl
  | x :: w, y :: v, hl, h => by
    unfold un at h
    split at h
    · cases h
    · rename_i hx
      have : un w v = [] := by simpa using h
      rw [un_nil w v (by simpa using hl) this]
      simp at hx
      rw [hx]
/-- one sign turned -/
def fl : List Bool → Nat → List Bool
  | [], _ => []
  | x :: w, 0 => (!x) :: w
  | x :: w, i + 1 => x :: fl w i
@[simp] theorem fl_len : ∀ w i, (fl w i).length = w.length
  | [], _ => rfl
  | x :: w, 0 => rfl
  | x :: w, i + 1 => by simp [fl, fl_len w i]
theorem un_one : ∀ w v p, w.length = v.length → un w v = [p] → 1 ≤ p ∧ p ≤ w.length ∧ fl w (p - 1) = v
  | [], _, p, _, h => by simp [un] at h
  | x :: w, [], p, hl, _ => by simp at hl
  | x :: w, y :: v, p, hl, h => by
    unfold un at h
    have hl' : w.length = v.length := by simpa using hl
    split at h
    · rename_i hx
      have hp : p = 1 := by simp at h; exact h.1.symm
      have : un w v = [] := by simpa using (List.cons.inj h).2
      have := un_nil w v hl' this
      subst hp; subst this
      refine ⟨by omega, by simp, ?_⟩
      show fl (x :: w) 0 = y :: w
      unfold fl
      cases x <;> cases y <;> simp at hx ⊢
    · rename_i hx
      obtain ⟨q, hq⟩ : ∃ q, un w v = [q] ∧ q + 1 = p := by
        match h2 : un w v with
        | [] => rw [h2] at h; cases h
        | [q] => rw [h2] at h; exact ⟨q, rfl, by simpa using h⟩
        | q :: q' :: r => rw [h2] at h; simp at h
      obtain ⟨h1, h2, h3⟩ := un_one w v q hl' hq.1
      refine ⟨by omega, by simp; omega, ?_⟩
      obtain ⟨j, rfl⟩ : ∃ j, q = j + 1 := ⟨q - 1, by omega⟩
      rw [← hq.2]
      show fl (x :: w) (j + 1) = y :: v
      unfold fl
      simp at h3
      rw [h3]
      simp at hx
      rw [hx]
/-- neighbours of the list: the place by how often 2 divides -/
theorem un_step : ∀ k N a e, N + 1 < 2 ^ k → 2 ^ e ∣ N + 1 → ¬ 2 ^ (e + 1) ∣ N + 1 → un (gr k N a) (gr k (N + 1) a) = [k - e] ∧ e < k
  | 0, N, a, e, h, _, _ => by simp at h
  | k + 1, N, a, e, h, hd, hn => by
    rw [Nat.pow_succ] at h
    unfold gr un
    by_cases h1 : N + 1 < 2 ^ k
    · have n1 : ¬ 2 ^ k ≤ N := by omega
      have n2 : ¬ 2 ^ k ≤ N + 1 := by omega
      simp only [n1, n2, decide_false, if_false]
      obtain ⟨ih, he⟩ := un_step k N false e h1 hd hn
      rw [ih]
      simp
      omega
    · by_cases h2 : N + 1 = 2 ^ k
      · have n1 : ¬ 2 ^ k ≤ N := by omega
        have n2 : 2 ^ k ≤ N + 1 := by omega
        have he : e = k := by
          have a1 : e ≤ k := by
            refine Nat.le_of_not_lt fun hlt => ?_
            rw [h2] at hd
            have := Nat.le_of_dvd (Nat.two_pow_pos k) hd
            exact absurd this (Nat.not_le.mpr (Nat.pow_lt_pow_right (by omega) hlt))
          refine Nat.le_antisymm a1 (Nat.le_of_not_lt fun hlt => hn ?_)
          rw [h2]
          exact Nat.pow_dvd_pow 2 hlt
        simp only [n1, n2, decide_true, decide_false, if_true, if_false]
        have e0 : N + 1 - 2 ^ k = 0 := by omega
        have eN : N = 2 ^ k - 1 - 0 := by omega
        have := gr_flip k 0 true (Nat.two_pow_pos k)
        rw [Bool.not_true] at this
        rw [e0, eN, this, un_self, he]
        cases a <;> simp
      · have n1 : 2 ^ k ≤ N := by omega
        have n2 : 2 ^ k ≤ N + 1 := by omega
        have he : e < k := by
          refine Nat.lt_of_not_le fun hle => ?_
          have := Nat.dvd_trans (Nat.pow_dvd_pow 2 hle) hd
          obtain ⟨c, hc⟩ := this
          have hc1 : c = 1 := by
            rcases c with _ | _ | c
            · simp at hc
            · rfl
            · exfalso
              rw [Nat.mul_add, Nat.mul_add] at hc
              have := Nat.zero_le (2 ^ k * c)
              omega
          rw [hc1] at hc; omega
        simp only [n1, n2, decide_true, if_true]
        have hk : 2 ^ e ∣ 2 ^ k := Nat.pow_dvd_pow 2 (by omega)
        have hk1 : 2 ^ (e + 1) ∣ 2 ^ k := Nat.pow_dvd_pow 2 (by omega)
        have es : N + 1 - 2 ^ k = (N - 2 ^ k) + 1 := by omega
        have en : N + 1 = ((N - 2 ^ k) + 1) + 2 ^ k := by omega
        obtain ⟨ih, _⟩ := un_step k (N - 2 ^ k) true e (by omega) (by rw [en] at hd; exact (Nat.dvd_add_left hk).mp hd) (by rw [en] at hn; exact fun hh => hn (Nat.dvd_add hh hk1))
        rw [es, ih]
        simp
        omega
theorem two_odd : ∀ n : Nat, 0 < n → ∃ e, 2 ^ e ∣ n ∧ ¬ 2 ^ (e + 1) ∣ n
  | 0, h => by omega
  | n + 1, h => by
    by_cases hd : 2 ∣ n + 1
    · obtain ⟨m, hm⟩ := hd
      obtain ⟨e, h1, h2⟩ := two_odd m (by omega)
      refine ⟨e + 1, ?_, ?_⟩
      · rw [hm, Nat.pow_succ, Nat.mul_comm]; exact Nat.mul_dvd_mul (Nat.dvd_refl 2) h1
      · rw [hm, Nat.pow_succ, Nat.mul_comm]
        exact fun hh => h2 (Nat.dvd_of_mul_dvd_mul_left (by omega) hh)
    · exact ⟨0, by simp, by simpa using hd⟩
/-- distances -/
theorem un_tri : ∀ w v u, w.length = v.length → v.length = u.length → (un w u).length ≤ (un w v).length + (un v u).length ∧ (un w u).length % 2 = ((un w v).length + (un v u).length) % 2
  | [], [], [], _, _ => by simp [un]
  | x :: w, y :: v, z :: u, h1, h2 => by
    obtain ⟨a, b⟩ := un_tri w v u (by simpa using h1) (by simpa using h2)
    unfold un
    cases x <;> cases y <;> cases z <;> simp <;> omega
theorem un_far : ∀ d k N a, N + d < 2 ^ k → (un (gr k N a) (gr k (N + d) a)).length ≤ d ∧ (un (gr k N a) (gr k (N + d) a)).length % 2 = d % 2
  | 0, k, N, a, _ => by simp [un_self]
  | d + 1, k, N, a, h => by
    obtain ⟨h1, h2⟩ := un_far d k N a (by omega)
    obtain ⟨e, e1, e2⟩ := two_odd (N + d + 1) (by omega)
    obtain ⟨h3, _⟩ := un_step k (N + d) a e h e1 e2
    obtain ⟨h4, h5⟩ := un_tri (gr k N a) (gr k (N + d) a) (gr k (N + d + 1) a) (by simp) (by simp)
    rw [h3] at h4 h5
    simp at h4 h5
    rw [show N + (d + 1) = N + d + 1 by omega]
    omega
/-- dividing by 2 as often as it goes -/
def st : Nat → Nat → Int → Int
  | 0, _, p => p
  | t + 1, n, p => if n % 2 = 0 then st t (n / 2) (p - 1) else st t n p
theorem st_odd : ∀ t n p, n % 2 = 1 → st t n p = p
  | 0, n, p, _ => rfl
  | t + 1, n, p, h => by unfold st; rw [if_neg (by omega)]; exact st_odd t n p h
theorem st_val : ∀ e t n p, e ≤ t → 2 ^ e ∣ n → ¬ 2 ^ (e + 1) ∣ n → st t n p = p - e
  | 0, t, n, p, _, _, h => by rw [st_odd t n p (by simp at h; omega)]; simp
  | e + 1, 0, n, p, h, _, _ => by omega
  | e + 1, t + 1, n, p, h, h1, h2 => by
    obtain ⟨m, rfl⟩ : 2 ∣ n := Nat.dvd_trans (by rw [Nat.pow_succ]; exact Nat.dvd_mul_left 2 _) h1
    unfold st
    rw [if_pos (by omega), show 2 * m / 2 = m by omega]
    rw [st_val e t m (p - 1) (by omega) (by rw [Nat.pow_succ, Nat.mul_comm] at h1; exact Nat.dvd_of_mul_dvd_mul_left (by omega) h1) (by intro hh; apply h2; rw [Nat.pow_succ, Nat.mul_comm]; exact Nat.mul_dvd_mul (Nat.dvd_refl 2) hh)]
    omega
theorem wd_rep (b : Bool) (k : Nat) : PyData.tuple (List.replicate k [PyData.int (bi b)]).flatten = wd (List.replicate k b) := by
  unfold wd il
  congr 1
  induction k with
  | zero => rfl
  | succ k ih => rw [List.replicate_succ, List.flatten_cons, ih]; rfl
theorem gMul_wd0 (k : Nat) (h : k ≤ 1000) : gMul (.tuple [.int 0]) (.int (k : Int)) = some (.sh (wd (List.replicate k false))) := by
  rw [← wd_rep]
  have : k ≤ 1000 ∧ 1 ≤ 1000 := ⟨h, by omega⟩
  simp only [gMul, Int.natAbs_natCast, List.length_singleton, this, and_self, if_true, Int.toNat_natCast]
  rfl
theorem gMul_wd1 (k : Nat) (h : k ≤ 1000) : gMul (.tuple [.int 1]) (.int (k : Int)) = some (.sh (wd (List.replicate k true))) := by
  rw [← wd_rep]
  have : k ≤ 1000 ∧ 1 ≤ 1000 := ⟨h, by omega⟩
  simp only [gMul, Int.natAbs_natCast, List.length_singleton, this, and_self, if_true, Int.toNat_natCast]
  rfl
theorem gAdd_wd1 (w : List Bool) (h : w.length ≤ 1000) : gAdd (.tuple [.int 1]) (wd w) = some (.sh (wd (true :: w))) := by
  have := gAddT [.int 1] (il (w.map bi)) (by simp; omega)
  unfold wd; rw [this]; rfl
theorem gAdd_wd0 (w : List Bool) (h : w.length ≤ 1000) : gAdd (.tuple [.int 0]) (wd w) = some (.sh (wd (false :: w))) := by
  have := gAddT [.int 0] (il (w.map bi)) (by simp; omega)
  unfold wd; rw [this]; rfl
/-- how many signs are 1 -/
def cnt (w : List Bool) : Nat := (w.map fun b => if b then 1 else 0).sum
theorem cnt_cons (b : Bool) (w : List Bool) : cnt (b :: w) = (if b then 1 else 0) + cnt w := by simp [cnt]
theorem sum_bi : ∀ w : List Bool, (w.map bi).sum = (cnt w : Int)
  | [] => rfl
  | b :: w => by rw [List.map_cons, List.sum_cons, sum_bi w, cnt_cons]; cases b <;> simp [bi]
theorem dc_par : ∀ (w : List Bool) f a, w ≠ [] → dc w f a % 2 = (cnt w + if a then 1 else 0) % 2
  | [], _, _, h => absurd rfl h
  | [b], f, a, _ => by cases a <;> cases b <;> simp [dc, cnt] <;> omega
  | b :: c :: w, f, a, _ => by
    rw [dc, dc_par (c :: w) _ _ (by simp), cnt_cons b]
    cases a <;> cases b <;> simp <;> omega
theorem dc_neg : ∀ w : List Bool, dc w 0 true + dc w 0 false + 1 = 2 ^ w.length
  | [] => rfl
  | b :: w => by
    have ih := dc_neg w
    simp only [dc, Nat.mul_zero, Nat.zero_add]
    rw [dc_lin, dc_lin w (if (false != b) = true then 1 else 0), List.length_cons, Nat.pow_succ]
    cases b <;> simp <;> omega
/-- the number by turning about what is behind -/
def rn : List Bool → Nat
  | [] => 0
  | b :: w => if b then 2 ^ (w.length + 1) - 1 - rn w else rn w
theorem rn_dc : ∀ w, rn w = dc w 0 false
  | [] => rfl
  | b :: w => by
    have := dc_neg w
    simp only [rn, dc, Nat.mul_zero, Nat.zero_add, rn_dc w]
    rw [dc_lin w (if (false != b) = true then 1 else 0)]
    cases b <;> simp
    rw [Nat.pow_succ]; omega
end Z
end
section
namespace Z
open PySem PySem.Spec L2
/-! ### the cup: draws in their bounds -/
def Cup (x y : Int) : Prop := 0 ≤ x ∧ 0 ≤ y ∧ y < 4294967296
def cupB (K A B M C : Int) : SF :=
    sSeq (sSet 1 (fCall gAbs (hCons (oE (fOp gIx (oE (fOp gAdd (oE (fListZ 0)) (oE (fLst (aCons (fC (.int 0)) (aNil)))))) (oE (fC (.int 0))))) (hNil))))
    (sRet (fLst (aCons (fIf (bOf (fOp gGe (oN 1) (oE (fOp gPow (oE (fC (.int 10))) (oE (fC (.int 18))))))) (fOp gDiv (oN 1) (oE (fC (.int K)))) (fC (.int 0))) (aCons (fOp gAdd (oE (fOp gMod (oE (fCall gInt (hCons (oE (fOp gAdd (oE (fOp gMul (oN 1) (oE (fC (.int A))))) (oE (fC (.int B))))) (hNil)))) (oE (fC (.int M))))) (oE (fC (.int C)))) (aNil)))))
def rollB (A B M C N E : Int) : SF :=
    sSeq (sIf (bOf (fOp gGt (oE (fOp gIx (oN 0) (oE (fC (.int 0))))) (oE (fC (.int 0))))) (sSeq (sSet 2 (fOp gMod (oE (fCall gInt (hCons (oE (fOp gIx (oN 0) (oE (fC (.int 0))))) (hNil)))) (oN 1)))
    (sSeq (sSetIx 0 (fOp gDiv (oE (fOp gIx (oN 0) (oE (fC (.int 0))))) (oN 1)) (oE (fC (.int 0))))
    (sRet (fM 2)))) (sNx))
    (sSeq (sSetIx 0 (fOp gMod (oE (fCall gInt (hCons (oE (fOp gAdd (oE (fOp gMul (oE (fOp gIx (oN 0) (oE (fC (.int 1))))) (oE (fC (.int A))))) (oE (fC (.int B))))) (hNil)))) (oE (fC (.int M)))) (oE (fC (.int 1))))
    (sSeq (sSet 3 (fOp gMod (oE (fCall gInt (hCons (oE (fOp gMul (oE (fOp gIx (oN 0) (oE (fC (.int 1))))) (oE (fOp gAdd (oE (fOp gIx (oN 0) (oE (fC (.int 1))))) (oE (fC (.int C))))))) (hNil)))) (oE (fC (.int N)))))
    (sRet (fOp gMod (oE (fCall gInt (hCons (oE (fOp gDiv (oN 3) (oE (fC (.int E))))) (hNil)))) (oN 1)))))
theorem cup_val (K A B M C : Int) (h : (0 < K ∧ K < 1073741824) ∧ A.natAbs < 18446744073709551616 ∧ (0 < M ∧ M < 2147483648) ∧ (0 ≤ C ∧ C < 2147483648)) (ns : List Int) (hl : ns.length ≤ 63) : ∃ x y : Int, retF (cupB K A B M C) 2 [.fz ns] = .ok (.ow (.list [.int x, .int y])) ∧ Cup x y := by
  obtain ⟨⟨k1, k2⟩, ha', ⟨m1, m2⟩, c1, c2⟩ := h
  have core : ∀ c : Int, (il ns ++ [PyData.int 0])[0]? = some (.int c) → ∃ x y : Int, retF (cupB K A B M C) 2 [.fz ns] = .ok (.ow (.list [.int x, .int y])) ∧ Cup x y := by
    intro c hc
    obtain ⟨a, ha, ha0⟩ : ∃ a : Int, gAbs [.int c] = some (.sh (.int a)) ∧ 0 ≤ a := ⟨_, gAbs_int c, by split <;> omega⟩
    have hadd := gAddL (ns.map PyData.int) [.int 0] (by simp; omega)
    have hix : gIx (.list (ns.map PyData.int ++ [.int 0])) (.int 0) = some (.sh (.int c)) := by
      have := gIx_lst (ns.map PyData.int ++ [.int 0]) 0
      unfold il at hc
      rw [hc] at this
      exact this
    have hp : gPow (.int 10) (.int 18) = some (.sh (.int 1000000000000000000)) := by rfl
    refine ⟨if 1000000000000000000 ≤ a then a / K else 0, (a * A + B) % M + C, ?_, ?_, ?_⟩
    · unfold cupB
      rw [retF_eq]
      simp [-gAbs_int, hadd, hix, ha, hp, gDiv_int _ _ k1 k2, gMul_int a A (.inr ha'), gMod_int _ _ m1]
      by_cases hb : (1000000000000000000 : Int) ≤ a <;> simp [hb]
    · split
      · exact Int.ediv_nonneg ha0 (by omega)
      · exact Int.le_refl 0
    · have := Int.emod_nonneg (a * A + B) (show M ≠ 0 by omega)
      have := Int.emod_lt_of_pos (a * A + B) m1
      omega
  cases ns with
  | nil => exact core 0 rfl
  | cons n r => exact core n rfl
theorem roll_val (A B M C N E : Int) (h : A.natAbs < 18446744073709551616 ∧ (0 < M ∧ M < 4294967296) ∧ (0 < N) ∧ (0 < E ∧ E < 1073741824)) (x y m : Int) (hc : Cup x y) (hm : 0 < m) (hm2 : m < 1073741824) :
    ∃ r x' y' : Int, retC (rollB A B M C N E) 4 x y [.sh (.int m)] = .ok (.sh (.int r), x', y') ∧ 0 ≤ r ∧ r < m ∧ Cup x' y' := by
  obtain ⟨ha, ⟨m1, m2⟩, n1, e1, e2⟩ := h
  obtain ⟨hx, hy, hy2⟩ := hc
  by_cases h : 0 < x
  · refine ⟨x % m, x / m, y, ?_, Int.emod_nonneg _ (by omega), Int.emod_lt_of_pos _ hm, Int.ediv_nonneg hx (by omega), hy, hy2⟩
    unfold rollB
    rw [retC_eq]
    simp [gIx, atI, ixN, h, gMod_int x m hm, gDiv_int x m hm hm2]
  · let z := (y * A + B) % M
    have z1 : 0 ≤ z := Int.emod_nonneg _ (by omega)
    have z2 : z < M := Int.emod_lt_of_pos _ m1
    refine ⟨(z * (z + C)) % N / E % m, x, z, ?_, Int.emod_nonneg _ (by omega), Int.emod_lt_of_pos _ hm, hx, z1, by omega⟩
    unfold rollB
    rw [retC_eq]
    simp [gIx, atI, ixN, h, gMul_int y A (.inr ha), gMod_int _ M m1, gMod_int _ N n1, gMod_int _ m hm, gDiv_int _ E e1 e2]
    have g := gMul_int z (z + C) (.inl (by omega))
    simp [z] at g
    simp [g, z, gMod_int _ N n1, gMod_int _ m hm, gDiv_int _ E e1 e2]
end Z
end
section
namespace Z
open PySem PySem.Spec L2
/-! ### what is told is what is due -/
def sameB (me : List S → Rs S) : SF :=
    sSeq (sIf (fOrB (fTruth (oE (fIsi "tuple" (oN 1)))) (fTruth (oE (fIsi "list" (oN 1))))) (sSeq (sIf (fOrB (bOf (fOp gNe (oE (fIsi "tuple" (oN 0))) (oE (fIsi "tuple" (oN 1))))) (fOrB (bOf (fOp gNe (oE (fIsi "list" (oN 0))) (oE (fIsi "list" (oN 1))))) (bOf (fOp gNe (oE (fCall gLen (hCons (oN 0) (hNil)))) (oE (fCall gLen (hCons (oN 1) (hNil)))))))) (sRet (fC (.bool false))) (sNx))
    (sRet (fOp gEq (oE (fLc [2] (iRange1 (hCons (oE (fCall gLen (hCons (oN 1) (hNil)))) (hNil))) (gNm 2) (fNotB (fTruth (oE (fUser me (aCons (fOp gIx (oN 0) (oN 2)) (aCons (fOp gIx (oN 1) (oN 2)) (aNil))))))) (fC (.int 1)))) (oE (fLst (aNil)))))) (sNx))
    (sSeq (sIf (bOf (fOp gIs (oN 1) (oE (fC .none)))) (sRet (fOp gIs (oN 0) (oE (fC .none)))) (sNx))
    (sSeq (sIf (fTruth (oE (fIsi "bool" (oN 1)))) (sRet (fIf (fTruth (oN 1)) (fOp gIs (oN 0) (oE (fC (.bool true)))) (fOp gIs (oN 0) (oE (fC (.bool false)))))) (sNx))
    (sSeq (sIf (fTruth (oE (fIsi "int" (oN 1)))) (sRet (fAndV (fIsi "int" (oN 0)) (fAndV (fNotV (oE (fIsi "bool" (oN 0)))) (fOp gEq (oE (fCall gInt (hCons (oN 0) (hNil)))) (oN 1))))) (sNx))
    (sRet (fAndV (fIsi "str" (oN 0)) (fOp gEq (oE (fCall gStr (hCons (oN 0) (hNil)))) (oN 1)))))))
def sameR : Nat → List S → Rs S
  | 0 => fun _ => .no
  | n + 1 => retF (sameB (sameR n)) 3
mutual
def sk : D → Bool
  | .dict _ => false
  | .list ds => decide (ds.length ≤ 1000000) && skAll ds
  | .tuple ds => decide (ds.length ≤ 1000000) && skAll ds
  | .none => true
  | .bool _ => true
  | .int _ => true
  | .str _ => false
def skAll : List D → Bool
  | [] => true
  | d :: r => sk d && skAll r
end
theorem skAll_mem : ∀ {ds : List D} {d : D}, skAll ds = true → d ∈ ds → sk d = true
  | e :: r, d, h, hm => by
    simp only [skAll, Bool.and_eq_true] at h
    rcases List.mem_cons.mp hm with rfl | hm
    · exact h.1
    · exact skAll_mem h.2 hm
theorem depthAll_mem : ∀ {ds : List D} {d : D}, d ∈ ds → PyData.depth d ≤ PyData.depthAll ds
  | e :: r, d, hm => by
    simp only [PyData.depthAll]
    rcases List.mem_cons.mp hm with rfl | hm
    · omega
    · have := depthAll_mem hm; omega
theorem isTy_list (ds : List D) (T : String) : isTy T (.list ds) = (T == "list") := rfl
theorem isTy_tup (ds : List D) (T : String) : isTy T (.tuple ds) = (T == "tuple") := rfl
theorem same_seq (n : Nat) (ih : ∀ d, PyData.depth d < n → sk d = true → sameR n [.sh d, .sh d] = .ok (.sh (.bool true))) (ds : List D) (h : PyData.depthAll ds < n) (hs : skAll ds = true) (hl : ds.length ≤ 1000000) (b : D) (hb : b = .list ds ∨ b = .tuple ds) :
    lcL [2] (gNm 2) (fNotB (fTruth (oE (fUser (sameR n) (aCons (fOp gIx (oN 0) (oN 2)) (aCons (fOp gIx (oN 1) (oN 2)) (aNil))))))) (fC (.int 1)) ((List.range ds.length).map fun i => PyData.int ((i : Nat) : Int)) [.sh b, .sh b, .u] [] = some ([], [.sh b, .sh b, .u]) := by
  rw [lcL_m (fun i : Nat => PyData.int i) (fun _ => false) (fun _ => .int 1) [.sh b, .sh b, .u] (List.range ds.length) [] (by simp; omega) fun i hi => ?_]
  · simp
  · simp at hi
    have hm := List.getElem_mem hi
    have e := ih ds[i] (by have := depthAll_mem hm; omega) (skAll_mem hs hm)
    have g : gIx b (.int (i : Int)) = some (.sh ds[i]) := by rcases hb with rfl | rfl <;> simp [gIx_lst, gIx_tup, hi]
    refine ⟨[.sh b, .sh b, .sh (.int i)], [.sh b, .sh b, .sh (.int i)], by simp, ?_, fun _ => ⟨rfl, rfl⟩, fun z => by cases z⟩
    simp [g, e]
theorem same_refl : ∀ n d, PyData.depth d < n → sk d = true → sameR n [.sh d, .sh d] = .ok (.sh (.bool true))
  | 0, d, h, _ => by omega
  | n + 1, d, h, hs => by
    have ih := same_refl n
    unfold sameR sameB
    rw [retF_eq]
    cases d with
    | none => simp [isTy]
    | bool b => cases b <;> simp [isTy]
    | int i => simp [isTy]
    | str z => cases hs
    | list ds =>
      simp only [sk, Bool.and_eq_true, decide_eq_true_eq] at hs
      have e := same_seq n ih ds (by simp only [PyData.depth] at h; omega) hs.2 hs.1 _ (.inl rfl)
      have hb : bnd (ds.length : Int) := by unfold bnd; omega
      simp [isTy, hb, clean, wipeS, restS, plainS, rangeD0]
      rw [e]
      simp [gEq_lnil]
    | tuple ds =>
      simp only [sk, Bool.and_eq_true, decide_eq_true_eq] at hs
      have e := same_seq n ih ds (by simp only [PyData.depth] at h; omega) hs.2 hs.1 _ (.inr rfl)
      have hb : bnd (ds.length : Int) := by unfold bnd; omega
      simp [isTy, hb, clean, wipeS, restS, plainS, rangeD0]
      rw [e]
      simp [gEq_lnil]
    | dict _ => cases hs
theorem sk_il : ∀ ns : List Int, skAll (il ns) = true
  | [] => rfl
  | n :: r => by simp [skAll, sk, sk_il r]
theorem sk_nl (ns : List Nat) : skAll (nl ns) = true := by rw [nl_il]; exact sk_il _
end Z
end
section
namespace Z
open PySem PySem.Spec L2
/-! ### runs of statements, told by what holds behind them -/
def Wp (g : SF) (ρ : List S) (Q : Out → List S → Prop) : Prop := ∃ o ρ', g ρ = .ok (o, ρ') ∧ Q o ρ'
theorem Wp.one {g : SF} {ρ ρ1 : List S} {o : Out} {Q : Out → List S → Prop} (h : g ρ = .ok (o, ρ1)) (q : Q o ρ1) : Wp g ρ Q := ⟨o, ρ1, h, q⟩
theorem Wp.seq {g u : SF} {ρ ρ1 : List S} {Q : Out → List S → Prop} (h : g ρ = .ok (.nx, ρ1)) (q : Wp u ρ1 Q) : Wp (sSeq g u) ρ Q := by
  obtain ⟨o, ρ', e, q⟩ := q
  exact ⟨o, ρ', by rw [sSeq_nx h, e], q⟩
theorem Wp.rt {g u : SF} {ρ ρ1 : List S} {r : S} {Q : Out → List S → Prop} (h : g ρ = .ok (.rt r, ρ1)) (q : Q (.rt r) ρ1) : Wp (sSeq g u) ρ Q := ⟨_, _, sSeq_rt h, q⟩
/-- a statement behind which a list stands whose items do not matter -/
theorem Wp.seqL {g u : SF} {ρ : List S} {Q : Out → List S → Prop} (n : Nat) (st : List D → List S) (h : ∃ L, L.length ≤ n ∧ g ρ = .ok (.nx, st L)) (q : ∀ L, L.length ≤ n → Wp u (st L) Q) : Wp (sSeq g u) ρ Q := by
  obtain ⟨L, hl, e⟩ := h
  exact .seq e (q L hl)
theorem Wp.seqW {g u : SF} {ρ : List S} {Q : Out → List S → Prop} (h : Wp g ρ fun o ρ1 => o = .nx ∧ Wp u ρ1 Q) : Wp (sSeq g u) ρ Q := by
  obtain ⟨o, ρ1, e, rfl, q⟩ := h
  exact .seq e q
theorem Wp.imp {g : SF} {ρ : List S} {Q R : Out → List S → Prop} (h : Wp g ρ Q) (i : ∀ o ρ, Q o ρ → R o ρ) : Wp g ρ R := by
  obtain ⟨o, ρ1, e, q⟩ := h
  exact ⟨o, ρ1, e, i _ _ q⟩
theorem Wp.ifT {c : BF} {g u : SF} {ρ ρ1 : List S} {Q : Out → List S → Prop} (h : c ρ = .ok (true, ρ1)) (q : Wp g ρ1 Q) : Wp (sIf c g u) ρ Q := by
  obtain ⟨o, ρ', e, q⟩ := q
  exact ⟨o, ρ', by rw [sIf_eq, h]; exact e, q⟩
theorem Wp.ifF {c : BF} {g u : SF} {ρ ρ1 : List S} {Q : Out → List S → Prop} (h : c ρ = .ok (false, ρ1)) (q : Wp u ρ1 Q) : Wp (sIf c g u) ρ Q := by
  obtain ⟨o, ρ', e, q⟩ := q
  exact ⟨o, ρ', by rw [sIf_eq, h]; exact e, q⟩
/-- a test that says no, and goes on -/
theorem Wp.no {c : BF} {g u : SF} {ρ ρ1 : List S} {Q : Out → List S → Prop} (h : c ρ = .ok (false, ρ1)) (q : Wp u ρ1 Q) : Wp (sSeq (sIf c g sNx) u) ρ Q := .seq (by rw [sIf_eq, h]; rfl) q
theorem Wp.for_ {α : Type} {it : IF} {t : GF} {b : SF} {ρ ρ0 : List S} {Q : Out → List S → Prop} (F : α → D) (xs : List α) (P : Nat → List S → Prop) (hit : it ρ = .ok (xs.map F, ρ0)) (h0 : P 0 ρ0)
    (hb : ∀ i x ρ, xs[i]? = some x → P i ρ → ∃ ρ1, t (F x) ρ = some ρ1 ∧ Wp b ρ1 fun o ρ2 => o = .nx ∧ P (i + 1) ρ2) (hq : ∀ ρ', P xs.length ρ' → Q .nx ρ') : Wp (sFor it t b) ρ Q := by
  obtain ⟨ρ', e, hp⟩ := forL_m (t := t) (b := b) F P xs ρ0 h0 fun i x ρ hx hp => by
    obtain ⟨ρ1, e1, o, ρ2, e2, rfl, hp2⟩ := hb i x ρ hx hp
    exact ⟨ρ1, ρ2, e1, e2, hp2⟩
  exact ⟨.nx, ρ', by rw [sFor_eq, hit]; exact e, hq _ hp⟩
theorem Wp.range {it : IF} {t : GF} {b : SF} {ρ ρ0 : List S} {Q : Out → List S → Prop} (n : Nat) (P : Nat → List S → Prop) (hit : it ρ = .ok (rangeD 0 1 n, ρ0)) (h0 : P 0 ρ0)
    (hb : ∀ i ρ, i < n → P i ρ → ∃ ρ1, t (.int (i : Int)) ρ = some ρ1 ∧ Wp b ρ1 fun o ρ2 => o = .nx ∧ P (i + 1) ρ2) (hq : ∀ ρ', P n ρ' → Q .nx ρ') : Wp (sFor it t b) ρ Q := by
  obtain ⟨ρ', e, hp⟩ := forL_rg (t := t) (b := b) P n ρ0 h0 fun i ρ hi hp => by
    obtain ⟨ρ1, e1, o, ρ2, e2, rfl, hp2⟩ := hb i ρ hi hp
    exact ⟨ρ1, ρ2, e1, e2, hp2⟩
  exact ⟨.nx, ρ', by rw [sFor_eq, hit]; exact e, hq _ hp⟩
theorem Wp.each {it : IF} {t : GF} {b : SF} {ρ ρ0 : List S} {Q : Out → List S → Prop} {ds : List D} (P : List S → Prop) (hit : it ρ = .ok (ds, ρ0)) (h0 : P ρ0)
    (hb : ∀ d ρ, d ∈ ds → P ρ → ∃ ρ1, t d ρ = some ρ1 ∧ Wp b ρ1 fun o ρ2 => o = .nx ∧ P ρ2) (hq : ∀ ρ', P ρ' → Q .nx ρ') : Wp (sFor it t b) ρ Q := by
  obtain ⟨ρ', e, hp⟩ := forL_ex (t := t) (b := b) (fun _ ρ => P ρ) ds 0 ρ0 h0 fun i d ρ hd hp => by
    obtain ⟨ρ1, e1, o, ρ2, e2, rfl, hp2⟩ := hb d ρ (List.mem_of_getElem? hd) hp
    exact ⟨ρ1, ρ2, e1, e2, hp2⟩
  exact ⟨.nx, ρ', by rw [sFor_eq, hit]; exact e, hq _ hp⟩
theorem Wp.ret {g : SF} {N : Nat} {args : List S} {d : D} (h : Wp g (args ++ List.replicate (N - args.length) .u) fun o _ => o = .rt (.sh d)) : retF g N args = .ok (.sh d) := by
  obtain ⟨o, ρ', e, rfl⟩ := h
  rw [retF_eq, e]; rfl
theorem Wp.retO {g : SF} {N : Nat} {args : List S} {d : D} (h : Wp g (args ++ List.replicate (N - args.length) .u) fun o _ => o = .rt (.ow d)) : retF g N args = .ok (.ow d) := by
  obtain ⟨o, ρ', e, rfl⟩ := h
  rw [retF_eq, e]; rfl
theorem Wp.retS {g : SF} {N : Nat} {args : List S} {d : D} (h : Wp g (args ++ List.replicate (N - args.length) .u) fun o _ => o = .rt (.sh d) ∨ o = .rt (.ow d)) : ∃ s, retF g N args = .ok s ∧ (s = .sh d ∨ s = .ow d) := by
  obtain ⟨o, ρ', e, rfl | rfl⟩ := h
  · exact ⟨_, by rw [retF_eq, e]; rfl, .inl rfl⟩
  · exact ⟨_, by rw [retF_eq, e]; rfl, .inr rfl⟩
theorem bnd_nat {n : Nat} (h : n < 1000000000) : bnd (n : Int) := by unfold bnd; omega
theorem bnd_iff (i : Int) : bnd i ↔ i.natAbs < 4611686018427387904 := Iff.rfl
theorem iRange3_eq (fH : HF) (ρ : List S) : iRange3 fH ρ = (fH ρ >>= fun p => Rs.of (looks p.1 p.2) >>= fun ds => match ds with
  | [.int i, .int j, .int c] => if c ≠ 0 ∧ c.natAbs < 1073741824 ∧ Builtin.Range.small i j c = true ∧ 0 ≤ Builtin.Range.rangeSize i j c then .ok (rangeD i c (Builtin.Range.rangeSize i j c).toNat, p.2) else .no
  | _ => .no) := rfl
theorem rangeD_map (lo c : Int) (n : Nat) : rangeD lo c n = (List.range n).map fun k : Nat => PyData.int (lo + (k : Nat) * c) := rfl
theorem iRange3_down (n : Nat) (h : n < 1000000000) {fH : HF} {ρ ρ1 : List S} {hs : List Hd} (h1 : fH ρ = .ok (hs, ρ1)) (h2 : looks hs ρ1 = some [.int ((n : Int) - 1), .int (-1), .int (-1)]) : iRange3 fH ρ = .ok ((List.range n).map (fun k : Nat => PyData.int ((n : Int) - 1 - (k : Nat))), ρ1) := by
  rw [iRange3_eq, h1]
  simp only [Rs.bind_ok, h2, Rs.of_some]
  have hsz : Builtin.Range.rangeSize ((n : Int) - 1) (-1) (-1) = (n : Int) := by
    unfold Builtin.Range.rangeSize
    simp
    omega
  have hsm : Builtin.Range.small ((n : Int) - 1) (-1) (-1) = true := PySem.W.small_down (by omega) (by omega) (by omega) (by omega)
  rw [hsz, hsm]
  simp [rangeD_map]
  intro a _; omega
theorem forL_all {α : Type} {t : GF} {b : SF} (F : α → D) (q : α → Bool) (r : S) (P : List S → Prop)
    (h : ∀ x ρ, P ρ → ∃ ρ1, t (F x) ρ = some ρ1 ∧ (q x = true → ∃ ρ2, b ρ1 = .ok (.nx, ρ2) ∧ P ρ2) ∧ (q x = false → ∃ ρ2, b ρ1 = .ok (.rt r, ρ2))) :
    ∀ (xs : List α) (ρ : List S), P ρ → (xs.all q = true → ∃ ρ', forL t b (xs.map F) ρ = .ok (.nx, ρ') ∧ P ρ') ∧ (xs.all q = false → ∃ ρ', forL t b (xs.map F) ρ = .ok (.rt r, ρ'))
  | [], ρ, hp => ⟨fun _ => ⟨ρ, rfl, hp⟩, fun z => by cases z⟩
  | x :: xs, ρ, hp => by
    obtain ⟨ρ1, e1, h1, h2⟩ := h x ρ hp
    cases hq : q x with
    | false =>
      obtain ⟨ρ2, e2⟩ := h2 hq
      refine ⟨fun z => (by simp [hq] at z), fun _ => ⟨ρ2, ?_⟩⟩
      rw [List.map_cons]
      unfold forL
      rw [e1]
      simp only [Rs.of_some, Rs.bind_ok, e2]
    | true =>
      obtain ⟨ρ2, e2, hp2⟩ := h1 hq
      obtain ⟨a, b'⟩ := forL_all F q r P h xs ρ2 hp2
      rw [List.map_cons, forL_step e1 e2]
      exact ⟨fun z => a (by simpa [hq] using z), fun z => b' (by simpa [hq] using z)⟩
/-- a comprehension whose elements draw, each by its own item -/
theorem lcL_dr {α : Type} {vs : List Nat} {t : GF} {f : EF} (F : α → D) (R : α → D → Prop) (P : List S → Prop) : ∀ (is : List α) (acc : List D) (ρ : List S), acc.length + is.length ≤ 16777216 → P ρ → (∀ x ∈ is, ∀ ρ, P ρ → ∃ ρ1 ρ2 e, t (F x) ρ = some ρ1 ∧ f ρ1 = .ok (.sh e, ρ2) ∧ R x e ∧ clean vs ρ2 = true ∧ P (wipeS ρ2 vs)) →
    ∃ es ρ', lcL vs t bYes f (is.map F) ρ acc = some (acc ++ es, ρ') ∧ es.length = is.length ∧ (∀ p ∈ es.zip is, R p.2 p.1) ∧ P ρ'
  | [], acc, ρ, _, h0, _ => ⟨[], ρ, by simp [lcL], rfl, by simp, h0⟩
  | x :: is, acc, ρ, hl, h0, h => by
    obtain ⟨ρ1, ρ2, e, e1, e2, he, e4, h5⟩ := h x List.mem_cons_self ρ h0
    have hlt : acc.length < 16777216 := by simp at hl; omega
    obtain ⟨es, ρ', q1, q2, q3, q4⟩ := lcL_dr F R P is (acc ++ [e]) (wipeS ρ2 vs) (by simp at hl ⊢; omega) h5 fun y hy => h y (List.mem_cons_of_mem _ hy)
    refine ⟨e :: es, ρ', ?_, by simp [q2], fun p hp => ?_, q4⟩
    · rw [List.map_cons]
      unfold lcL
      rw [e1]
      simp only [Option.bind_some, bYes, toOpt, if_true]
      rw [e2]
      simp only [toOpt, Option.bind_some, e4, hlt, decide_true, Bool.and_self, if_true]
      rw [q1]; simp
    · rw [List.zip_cons_cons] at hp
      rcases List.mem_cons.mp hp with rfl | hp
      · exact he
      · exact q3 p hp
end Z
end
section
namespace Z
open PySem PySem.Spec L2
/-! ### runs whose states are told exactly -/
def kilO (o : Out) (vs : List Nat) (ρ : List S) : List S := match o with
  | .rt _ => ρ
  | _ => killS vs ρ
@[simp] theorem kilO_nx (vs : List Nat) (ρ : List S) : kilO .nx vs ρ = killS vs ρ := rfl
@[simp] theorem kilO_bk (vs : List Nat) (ρ : List S) : kilO .bk vs ρ = killS vs ρ := rfl
@[simp] theorem kilO_ct (vs : List Nat) (ρ : List S) : kilO .ct vs ρ = killS vs ρ := rfl
@[simp] theorem kilO_rt (r : S) (vs : List Nat) (ρ : List S) : kilO (.rt r) vs ρ = ρ := rfl
theorem Wp.kl {vs : List Nat} {g : SF} {ρ : List S} {Q : Out → List S → Prop} (h : Wp g ρ fun o ρ1 => Q o (kilO o vs ρ1)) : Wp (kl vs g) ρ Q := by
  obtain ⟨o, ρ1, e, q⟩ := h
  refine ⟨o, kilO o vs ρ1, ?_, q⟩
  unfold Z.kl
  rw [e]
  cases o <;> rfl
/-- behind it just this state -/
def Nx (ρ1 : List S) : Out → List S → Prop := fun o ρ => o = .nx ∧ ρ = ρ1
theorem Wp.nx {g : SF} {ρ ρ1 : List S} (h : g ρ = .ok (.nx, ρ1)) : Wp g ρ (Nx ρ1) := ⟨.nx, ρ1, h, rfl, rfl⟩
/-- the answer -/
theorem Wp.fin {g : SF} {ρ : List S} {o : Out} (h : ∃ ρ1, g ρ = .ok (o, ρ1)) : Wp g ρ fun o' _ => o' = o := by
  obtain ⟨ρ1, e⟩ := h
  exact ⟨o, ρ1, e, rfl⟩
theorem Wp.klN {vs : List Nat} {g : SF} {ρ ρ1 ρ2 : List S} (h : Wp g ρ (Nx ρ1)) (e : killS vs ρ1 = ρ2) : Wp (Z.kl vs g) ρ (Nx ρ2) := .kl (h.imp fun o ρ ⟨h1, h2⟩ => by subst h1 h2; exact ⟨rfl, e⟩)
theorem Wp.then {g u : SF} {ρ ρ1 : List S} {Q : Out → List S → Prop} (h : Wp g ρ (Nx ρ1)) (q : Wp u ρ1 Q) : Wp (sSeq g u) ρ Q := .seqW (h.imp fun o ρ ⟨h1, h2⟩ => by subst h2; exact ⟨h1, q⟩)
theorem Wp.eq {g : SF} {ρ ρ1 : List S} (h : Wp g ρ (Nx ρ1)) : g ρ = .ok (.nx, ρ1) := by
  obtain ⟨o, ρ', e, rfl, rfl⟩ := h
  exact e
theorem Wp.rangeS {it : IF} {t : GF} {b : SF} {ρ : List S} (n : Nat) (st : Nat → List S) (hit : it ρ = .ok (rangeD 0 1 n, st 0))
    (hb : ∀ i, i < n → ∃ ρ1, t (.int (i : Int)) (st i) = some ρ1 ∧ Wp b ρ1 (Nx (st (i + 1)))) : Wp (sFor it t b) ρ (Nx (st n)) :=
  .range n (fun i ρ => ρ = st i) hit rfl (fun i ρ hi e => by subst e; exact hb i hi) fun ρ' e => ⟨rfl, e⟩
theorem Wp.forS {α : Type} {it : IF} {t : GF} {b : SF} {ρ : List S} (F : α → D) (xs : List α) (st : Nat → List S) (hit : it ρ = .ok (xs.map F, st 0))
    (hb : ∀ i x, xs[i]? = some x → ∃ ρ1, t (F x) (st i) = some ρ1 ∧ Wp b ρ1 (Nx (st (i + 1)))) : Wp (sFor it t b) ρ (Nx (st xs.length)) :=
  .for_ F xs (fun i ρ => ρ = st i) hit rfl (fun i x ρ hx e => by subst e; exact hb i x hx) fun ρ' e => ⟨rfl, e⟩
/-- a walk as a fold -/
theorem Wp.fold {α β : Type} {it : IF} {t : GF} {b : SF} {ρ : List S} (F : α → D) (st : β → List S) (f : β → α → β) (P : β → Prop) (xs : List α) (z : β) (hit : it ρ = .ok (xs.map F, st z)) (h0 : P z)
    (hb : ∀ z x, x ∈ xs → P z → P (f z x) ∧ ∃ ρ1, t (F x) (st z) = some ρ1 ∧ Wp b ρ1 (Nx (st (f z x)))) : Wp (sFor it t b) ρ fun o ρ' => o = .nx ∧ ρ' = st (xs.foldl f z) ∧ P (xs.foldl f z) := by
  have key : ∀ (ys : List α), (∀ x ∈ ys, x ∈ xs) → ∀ z, P z → forL t b (ys.map F) (st z) = .ok (.nx, st (ys.foldl f z)) ∧ P (ys.foldl f z) := by
    intro ys
    induction ys with
    | nil => intro _ z hz; exact ⟨rfl, hz⟩
    | cons y ys ih =>
      intro hm z hz
      obtain ⟨h1, ρ1, e1, w⟩ := hb z y (hm y List.mem_cons_self) hz
      rw [List.map_cons, forL_step e1 w.eq, List.foldl_cons]
      exact ih (fun x hx => hm x (List.mem_cons_of_mem _ hx)) _ h1
  obtain ⟨h1, h2⟩ := key xs (fun _ h => h) z h0
  exact ⟨.nx, _, by rw [sFor_eq, hit]; exact h1, rfl, rfl, h2⟩
/-- a while of n turns -/
theorem whileL_st {c : BF} {b : SF} (st : Nat → List S) (n : Nat) (hc : ∀ i, i < n → c (st i) = .ok (true, st i)) (hb : ∀ i, i < n → Wp b (st i) (Nx (st (i + 1)))) (he : c (st n) = .ok (false, st n)) : ∀ m k, k + n + 1 ≤ m + k → whileL c b m (st 0) = .ok (.nx, st n) := by
  have key : ∀ d m k, k + d = n → d < m → whileL c b m (st k) = .ok (.nx, st n) := by
    intro d
    induction d with
    | zero =>
      intro m k e h
      obtain ⟨m, rfl⟩ : ∃ q, m = q + 1 := ⟨m - 1, by omega⟩
      have : k = n := by omega
      subst this
      unfold whileL
      rw [he]; rfl
    | succ d ih =>
      intro m k e h
      obtain ⟨m, rfl⟩ : ∃ q, m = q + 1 := ⟨m - 1, by omega⟩
      unfold whileL
      rw [hc k (by omega)]
      simp only [Rs.bind_ok, if_true]
      rw [(hb k (by omega)).eq]
      simp only [Rs.bind_ok]
      exact ih m (k + 1) (by omega) (by omega)
  intro m k h
  exact key n m 0 (by omega) (by omega)
theorem Wp.while {c : BF} {b : SF} {m : Nat} (st : Nat → List S) (n : Nat) (hm : n < m) (hc : ∀ i, i < n → c (st i) = .ok (true, st i)) (hb : ∀ i, i < n → Wp b (st i) (Nx (st (i + 1)))) (he : c (st n) = .ok (false, st n)) : Wp (whileL c b m) (st 0) (Nx (st n)) :=
  .nx (whileL_st st n hc hb he m 0 (by omega))
/-- a while by a measure -/
theorem Wp.whileI {c : BF} {b : SF} {Q : Out → List S → Prop} (P : Nat → List S → Prop) (hs : ∀ k ρ, P k ρ → (c ρ = .ok (false, ρ) ∧ Q .nx ρ) ∨ (c ρ = .ok (true, ρ) ∧ Wp b ρ fun o ρ2 => o = .nx ∧ ∃ k', k' < k ∧ P k' ρ2)) :
    ∀ k m ρ, P k ρ → k < m → Wp (whileL c b m) ρ Q := by
  intro k
  induction k using Nat.strongRecOn with
  | ind k ih =>
    intro m ρ hp hm
    obtain ⟨m, rfl⟩ : ∃ q, m = q + 1 := ⟨m - 1, by omega⟩
    rcases hs k ρ hp with ⟨e, q⟩ | ⟨e, o, ρ2, e2, rfl, k', hk, hp'⟩
    · exact ⟨.nx, ρ, by unfold whileL; rw [e]; rfl, q⟩
    · obtain ⟨o, ρ3, e3, q⟩ := ih k' hk m ρ2 hp' (by omega)
      refine ⟨o, ρ3, ?_, q⟩
      unfold whileL
      rw [e]
      simp only [Rs.bind_ok, if_true]
      rw [e2]
      simp only [Rs.bind_ok]
      exact e3
theorem iRange3_dn0 (n : Nat) (h : n < 1000000000) {fH : HF} {ρ ρ1 : List S} {hs : List Hd} (h1 : fH ρ = .ok (hs, ρ1)) (h2 : looks hs ρ1 = some [.int (n : Int), .int 0, .int (-1)]) : iRange3 fH ρ = .ok ((List.range n).map (fun k : Nat => PyData.int ((n : Int) - (k : Nat))), ρ1) := by
  rw [iRange3_eq, h1]
  simp only [Rs.bind_ok, h2, Rs.of_some]
  have hsz : Builtin.Range.rangeSize (n : Int) 0 (-1) = (n : Int) := by
    unfold Builtin.Range.rangeSize
    simp
    omega
  have hsm : Builtin.Range.small (n : Int) 0 (-1) = true := PySem.W.small_down (by omega) (by omega) (by omega) (by omega)
  rw [hsz, hsm]
  simp [rangeD_map]
  intro a _; omega
end Z
end
section
namespace Z
open PySem PySem.Spec L2
/-! ### turning signs, place by place -/
theorem fl_get : ∀ (w : List Bool) (i j : Nat), (fl w i)[j]? = (w[j]?).map fun b => if i = j then !b else b
  | [], _, _ => by simp [fl]
  | x :: w, 0, 0 => by simp [fl]
  | x :: w, 0, j + 1 => by simp [fl]
  | x :: w, i + 1, 0 => by simp [fl]
  | x :: w, i + 1, j + 1 => by simp [fl, fl_get w i j]
def turnAll (w : List Bool) (ps : List Nat) : List Bool := ps.foldl (fun h p => fl h (p - 1)) w
theorem turnAll_len : ∀ (ps : List Nat) (w : List Bool), (turnAll w ps).length = w.length
  | [], _ => rfl
  | p :: ps, w => by
    show (turnAll (fl w (p - 1)) ps).length = _
    rw [turnAll_len ps, fl_len]
theorem turnAll_get : ∀ (ps : List Nat) (w : List Bool) (j : Nat), ps.Nodup → (∀ p ∈ ps, 1 ≤ p) → (turnAll w ps)[j]? = (w[j]?).map fun b => if j + 1 ∈ ps then !b else b
  | [], w, j, _, _ => by simp [turnAll]
  | p :: ps, w, j, hn, hp => by
    obtain ⟨h1, h2⟩ := List.nodup_cons.mp hn
    show (turnAll (fl w (p - 1)) ps)[j]? = _
    rw [turnAll_get ps _ j h2 fun q hq => hp q (List.mem_cons_of_mem _ hq), fl_get, Option.map_map]
    have hp1 := hp p List.mem_cons_self
    congr 1
    funext b
    simp only [Function.comp_apply, List.mem_cons]
    by_cases e : p - 1 = j
    · have e2 : j + 1 = p := by omega
      have e3 : ¬ j + 1 ∈ ps := by rw [e2]; exact h1
      simp [e, e2, h1]
    · have e2 : ¬ j + 1 = p := by omega
      simp [e, e2]
theorem un_range : ∀ w v : List Bool, w.length = v.length → ((List.range w.length).filter fun i => w[i]? != v[i]?).map (· + 1) = un w v
  | [], [], _ => rfl
  | x :: w, y :: v, h => by
    have ih := un_range w v (by simpa using h)
    rw [List.length_cons, List.range_succ_eq_map, List.filter_cons, List.filter_map]
    have e3 : ((fun i => (x :: w)[i]? != (y :: v)[i]?) ∘ Nat.succ) = fun i => w[i]? != v[i]? := by funext i; simp
    rw [e3]
    unfold un
    rw [← ih]
    by_cases hx : (x != y) = true <;> simp [hx] <;> simp at hx <;> simp [hx]
theorem un_mem {w v : List Bool} (h : w.length = v.length) (p : Nat) : p ∈ un w v ↔ ∃ j, p = j + 1 ∧ j < w.length ∧ w[j]? ≠ v[j]? := by
  rw [← un_range w v h]
  simp only [List.mem_map, List.mem_filter, List.mem_range, bne_iff_ne]
  exact ⟨fun ⟨j, ⟨a, b⟩, c⟩ => ⟨j, c.symm, a, b⟩, fun ⟨j, c, a, b⟩ => ⟨j, ⟨a, b⟩, c.symm⟩⟩
theorem un_nodup {w v : List Bool} (h : w.length = v.length) : (un w v).Nodup := by
  rw [← un_range w v h]
  exact List.Pairwise.map (· + 1) (fun a b (h : a ≠ b) => by show a + 1 ≠ b + 1; omega) ((List.nodup_range).filter _)
/-- turning all places that are unlike, in any order -/
theorem turnAll_un {w v : List Bool} (h : w.length = v.length) {ps : List Nat} (hp : ps.Perm (un w v)) : turnAll w ps = v := by
  refine List.ext_getElem? fun j => ?_
  rw [turnAll_get ps w j (hp.nodup_iff.mpr (un_nodup h)) fun p q => by
    obtain ⟨j, rfl, _⟩ := (un_mem h p).mp (hp.mem_iff.mp q); omega]
  by_cases hj : j < w.length
  · have hj' : j < v.length := by omega
    rw [List.getElem?_eq_getElem hj, List.getElem?_eq_getElem hj']
    by_cases e : w[j] = v[j]
    · have : ¬ j + 1 ∈ ps := fun q => by
        obtain ⟨i, e1, _, e2⟩ := (un_mem h _).mp (hp.mem_iff.mp q)
        have : i = j := by omega
        subst this
        rw [List.getElem?_eq_getElem hj, List.getElem?_eq_getElem hj', e] at e2
        exact e2 rfl
      simp [this, e]
    · have : j + 1 ∈ ps := hp.mem_iff.mpr ((un_mem h _).mpr ⟨j, rfl, hj, by rw [List.getElem?_eq_getElem hj, List.getElem?_eq_getElem hj']; simpa using e⟩)
      simp [this]
      cases hw : w[j] <;> cases hv : v[j] <;> simp_all
  · rw [List.getElem?_eq_none (by omega), List.getElem?_eq_none (by omega)]; rfl
theorem cnt_fl : ∀ (w : List Bool) (i : Nat), i < w.length → (cnt (fl w i) + cnt w) % 2 = 1
  | x :: w, 0, _ => by
    rw [fl, cnt_cons, cnt_cons]
    cases x <;> simp <;> omega
  | x :: w, i + 1, h => by
    have := cnt_fl w i (by simpa using h)
    rw [fl, cnt_cons, cnt_cons]
    omega
theorem cnt_len : ∀ w : List Bool, (w.filter id).length = cnt w
  | [] => rfl
  | x :: w => by
    rw [cnt_cons, ← cnt_len w]
    cases x <;> simp
    omega
theorem fl_map (w : List Bool) (i : Nat) : fl w i = (List.range w.length).map fun j => if j = i then !(w.getD j false) else w.getD j false := by
  refine List.ext_getElem? fun j => ?_
  rw [fl_get, List.getElem?_map]
  by_cases hj : j < w.length
  · rw [List.getElem?_range hj, List.getElem?_eq_getElem hj]
    simp [hj]
    by_cases e : i = j
    · simp [e]
    · have : ¬ j = i := fun z => e z.symm
      simp [e, this]
  · rw [List.getElem?_eq_none (by omega), List.getElem?_eq_none (by simp; omega)]; rfl
theorem enumD_w (w : List Bool) : enumD (il (w.map bi)) = (List.range w.length).map fun i : Nat => PyData.tuple [.int (i : Int), .int (bi (w.getD i false))] := by
  unfold enumD
  refine List.ext_getElem (by simp) fun i h1 h2 => ?_
  simp at h1
  simp [il, h1]
theorem depth_wd (w : List Bool) : PyData.depth (wd w) = 1 := by
  show PyData.depthAll (il (w.map bi)) + 1 = 1
  rw [depthAll_il]
theorem depthAll_wds : ∀ ws : List (List Bool), PyData.depthAll (ws.map wd) ≤ 1
  | [] => by simp [PyData.depthAll]
  | w :: r => by
    have := depthAll_wds r
    simp only [List.map_cons, PyData.depthAll, depth_wd]
    omega
theorem sk_wd (w : List Bool) (h : w.length ≤ 1000000) : sk (wd w) = true := by
  show (decide ((il (w.map bi)).length ≤ 1000000) && skAll (il (w.map bi))) = true
  rw [sk_il]; simp [h]
theorem skAll_wds : ∀ ws : List (List Bool), (∀ w ∈ ws, w.length ≤ 1000000) → skAll (ws.map wd) = true
  | [], _ => rfl
  | w :: r, h => by
    simp only [List.map_cons, skAll, sk_wd w (h w List.mem_cons_self), skAll_wds r fun u hu => h u (List.mem_cons_of_mem _ hu), Bool.and_self]
theorem bi_inj {a b : Bool} (h : bi a = bi b) : a = b := by cases a <;> cases b <;> first | rfl | (simp [bi] at h)
theorem wd_inj {w v : List Bool} : w.map bi = v.map bi ↔ w = v :=
  ⟨fun h => by
    induction w generalizing v with
    | nil => cases v <;> simp at h ⊢
    | cons a w ih =>
      cases v with
      | nil => simp at h
      | cons b v => simp only [List.map_cons, List.cons.injEq] at h ⊢; exact ⟨bi_inj h.1, ih h.2⟩, fun h => by rw [h]⟩
theorem gEq_wd (w v : List Bool) : gEq (wd w) (wd v) = some (.sh (.bool (decide (w = v)))) := by
  unfold wd
  rw [gEq_tup]
  simp only [wd_inj]
theorem gNe_wd (w v : List Bool) : gNe (wd w) (wd v) = some (.sh (.bool (!decide (w = v)))) := by
  unfold wd
  rw [gNe_tup]
  simp only [wd_inj]
end Z
end
section
namespace Z
open PySem PySem.Spec L2
/-! ### picks, their numbers, the list of exchanges: plain laws -/
def ch : Nat → Nat → Nat
  | _, 0 => 1
  | 0, _ + 1 => 0
  | n + 1, k + 1 => ch n k + ch n (k + 1)
theorem ch_zero : ∀ n k, n < k → ch n k = 0
  | _, 0, h => by omega
  | 0, k + 1, _ => rfl
  | n + 1, k + 1, h => by rw [ch, ch_zero n k (by omega), ch_zero n (k + 1) (by omega)]
theorem ch_pos : ∀ n k, k ≤ n → 1 ≤ ch n k
  | 0, 0, _ => by simp [ch]
  | n + 1, 0, _ => by simp [ch]
  | 0, k + 1, h => by omega
  | n + 1, k + 1, h => by
    rw [ch]
    have := ch_pos n k (by omega)
    omega
theorem ch_self : ∀ n, ch n n = 1
  | 0 => rfl
  | n + 1 => by rw [ch, ch_self n, ch_zero n (n + 1) (by omega)]
theorem ch_up (n k : Nat) : ch n k ≤ ch (n + 1) k := by
  cases k with
  | zero => simp [ch]
  | succ k => rw [ch]; omega
theorem ch_mono {n m : Nat} (k : Nat) (h : n ≤ m) : ch n k ≤ ch m k := by
  induction h with
  | refl => exact Nat.le_refl _
  | step _ ih => exact Nat.le_trans ih (ch_up _ k)
/-- the greatest thing of the pick of number N -/
def lv : Nat → Nat → Nat → Nat
  | 0, _, _ => 0
  | m + 1, k, N => if N < ch m k then lv m k N else m + 1
theorem lv_spec : ∀ m k N, N < ch m (k + 1) → 1 ≤ lv m (k + 1) N ∧ lv m (k + 1) N ≤ m ∧ ch (lv m (k + 1) N - 1) (k + 1) ≤ N ∧ N < ch (lv m (k + 1) N) (k + 1)
  | 0, k, N, h => by rw [ch] at h; omega
  | m + 1, k, N, h => by
    rw [lv]
    by_cases hN : N < ch m (k + 1)
    · rw [if_pos hN]
      obtain ⟨a, b, c, d⟩ := lv_spec m k N hN
      exact ⟨a, by omega, c, d⟩
    · rw [if_neg hN]
      exact ⟨by omega, by omega, by rw [Nat.add_sub_cancel]; omega, h⟩
theorem lv_is {m k N e : Nat} (h1 : 1 ≤ e) (h2 : e ≤ m) (h3 : ch (e - 1) (k + 1) ≤ N) (h4 : N < ch e (k + 1)) : lv m (k + 1) N = e := by
  obtain ⟨a, b, c, d⟩ := lv_spec m k N (Nat.lt_of_lt_of_le h4 (ch_mono _ h2))
  rcases Nat.lt_trichotomy (lv m (k + 1) N) e with h | h | h
  · have := ch_mono (k + 1) (show lv m (k + 1) N ≤ e - 1 by omega)
    omega
  · exact h
  · have := ch_mono (k + 1) (show e ≤ lv m (k + 1) N - 1 by omega)
    omega
/-- the pick of number N, of l out of m -/
def pk : Nat → Nat → Nat → List Nat
  | 0, _, _ => []
  | l + 1, m, N => pk l (lv m (l + 1) N) (ch (lv m (l + 1) N) (l + 1) - 1 - N) ++ [lv m (l + 1) N]
theorem pk_down (l m N : Nat) (h : N < ch m l) : pk l (m + 1) N = pk l m N := by
  cases l with
  | zero => rfl
  | succ l => rw [pk, pk, lv, if_pos h]
/-- what is left for those below -/
theorem low_lt {m l N : Nat} (h : N < ch m (l + 1)) : ch (lv m (l + 1) N) (l + 1) - 1 - N < ch (lv m (l + 1) N - 1) l := by
  obtain ⟨a, b, c, d⟩ := lv_spec m l N h
  obtain ⟨e, he⟩ : ∃ e, lv m (l + 1) N = e + 1 := ⟨lv m (l + 1) N - 1, by omega⟩
  rw [he] at c d ⊢
  rw [Nat.add_sub_cancel] at c ⊢
  rw [ch] at d ⊢
  omega
theorem pk_ok : ∀ l m N, N < ch m l → (pk l m N).length = l ∧ (∀ p ∈ pk l m N, 1 ≤ p ∧ p ≤ m) ∧ (pk l m N).Pairwise (· < ·)
  | 0, m, N, _ => ⟨rfl, by simp [pk], by simp [pk]⟩
  | l + 1, m, N, h => by
    obtain ⟨a, b, c, d⟩ := lv_spec m l N h
    have hl := low_lt h
    obtain ⟨e, he⟩ : ∃ e, lv m (l + 1) N = e + 1 := ⟨lv m (l + 1) N - 1, by omega⟩
    rw [he] at a b c d hl
    rw [pk, he]
    rw [Nat.add_sub_cancel] at hl
    rw [pk_down l e _ hl]
    obtain ⟨i1, i2, i3⟩ := pk_ok l e _ hl
    refine ⟨by simp [i1], fun p hp => ?_, ?_⟩
    · rw [List.mem_append] at hp
      rcases hp with hp | hp
      · have := i2 p hp; omega
      · simp at hp; omega
    · rw [List.pairwise_append]
      refine ⟨i3, by simp, fun p hp q hq => ?_⟩
      simp at hq
      have := i2 p hp
      omega
/-- those below the greatest are less -/
theorem pk_lt {l e N : Nat} (h : N < ch (e - 1) l) (he : 1 ≤ e) : ∀ p ∈ pk l e N, p < e := by
  obtain ⟨f, rfl⟩ : ∃ f, e = f + 1 := ⟨e - 1, by omega⟩
  rw [Nat.add_sub_cancel] at h
  rw [pk_down l f N h]
  intro p hp
  have := (pk_ok l f N h).2.1 p hp
  omega
/-- the number of a pick -/
def rkA : List Nat → Nat → Int → Int
  | [], _, f => f
  | p :: ps, a, f => rkA ps (a + 1) ((ch p (a + 1) : Int) - 1 - f)
theorem rkA_app : ∀ (ps : List Nat) (m a : Nat) (f : Int), rkA (ps ++ [m]) a f = (ch m (a + ps.length + 1) : Int) - 1 - rkA ps a f
  | [], m, a, f => rfl
  | p :: ps, m, a, f => by
    rw [List.cons_append, rkA, rkA_app ps m, rkA, List.length_cons, show a + 1 + ps.length + 1 = a + (ps.length + 1) + 1 by omega]
theorem rk_pk : ∀ l m N, N < ch m l → rkA (pk l m N) 0 0 = N
  | 0, m, N, h => by
    have : ch m 0 = 1 := by cases m <;> rfl
    rw [this] at h
    have : N = 0 := by omega
    subst this; rfl
  | l + 1, m, N, h => by
    obtain ⟨a, b, c, d⟩ := lv_spec m l N h
    have hl := low_lt h
    have hl2 : ch (lv m (l + 1) N) (l + 1) - 1 - N < ch (lv m (l + 1) N) l := Nat.lt_of_lt_of_le hl (ch_mono _ (by omega))
    rw [pk, rkA_app, rk_pk l _ _ hl2, (pk_ok l _ _ hl2).1, Nat.zero_add]
    omega
/-- the first one, the last one -/
theorem pk_first : ∀ l m, l ≤ m → pk l m 0 = List.range' 1 l
  | 0, m, _ => rfl
  | l + 1, m, h => by
    have e : lv m (l + 1) 0 = l + 1 := lv_is (by omega) h (by rw [Nat.add_sub_cancel, ch_zero l (l + 1) (by omega)]; omega) (by rw [ch_self]; omega)
    rw [pk, e, ch_self, pk_first l (l + 1) (by omega), List.range'_concat]
    simp; omega
theorem pk_last (l m : Nat) (h : l + 1 ≤ m) : pk (l + 1) m (ch m (l + 1) - 1) = List.range' 1 l ++ [m] := by
  obtain ⟨q, rfl⟩ : ∃ q, m = q + 1 := ⟨m - 1, by omega⟩
  have h1 := ch_pos q l (by omega)
  have h2 : ch (q + 1) (l + 1) = ch q l + ch q (l + 1) := rfl
  have e : lv (q + 1) (l + 1) (ch (q + 1) (l + 1) - 1) = q + 1 := lv_is (by omega) (Nat.le_refl _) (by rw [Nat.add_sub_cancel]; omega) (by omega)
  rw [pk, e, show ch (q + 1) (l + 1) - 1 - (ch (q + 1) (l + 1) - 1) = 0 by omega, pk_first l (q + 1) (by omega)]
/-- one goes, one comes -/
def Ex (A B : List Nat) (o c : Nat) : Prop := (A.filter fun x => decide (x ∉ B)) = [o] ∧ (B.filter fun x => decide (x ∉ A)) = [c]
theorem Ex.swap {A B : List Nat} {o c : Nat} (h : Ex A B o c) : Ex B A c o := ⟨h.2, h.1⟩
theorem filt_app {A B : List Nat} {e : Nat} (hA : e ∉ A) : ((A ++ [e]).filter fun x => decide (x ∉ B ++ [e])) = A.filter fun x => decide (x ∉ B) := by
  rw [List.filter_append]
  have h1 : ([e].filter fun x => decide (x ∉ B ++ [e])) = [] := by simp
  rw [h1, List.append_nil]
  refine List.filter_congr fun x hx => ?_
  have : x ≠ e := fun z => hA (z ▸ hx)
  simp [this]
theorem Ex.app {A B : List Nat} {o c e : Nat} (h : Ex A B o c) (hA : e ∉ A) (hB : e ∉ B) : Ex (A ++ [e]) (B ++ [e]) o c := ⟨by rw [filt_app hA]; exact h.1, by rw [filt_app hB]; exact h.2⟩
theorem filt_none {A B : List Nat} (h : ∀ x ∈ A, x ∈ B) : (A.filter fun x => decide (x ∉ B)) = [] := by
  rw [List.filter_eq_nil_iff]
  intro x hx
  simp [h x hx]
theorem pk_ex : ∀ l m N, N + 1 < ch m l → ∃ o c, Ex (pk l m N) (pk l m (N + 1)) o c
  | 0, m, N, h => by
    have : ch m 0 = 1 := by cases m <;> rfl
    omega
  | l + 1, m, N, h => by
    obtain ⟨a, b, c, d⟩ := lv_spec m l N (by omega)
    have hl := low_lt (show N < ch m (l + 1) by omega)
    rw [pk, pk]
    by_cases h1 : N + 1 < ch (lv m (l + 1) N) (l + 1)
    · have e2 : lv m (l + 1) (N + 1) = lv m (l + 1) N := lv_is a b (by omega) h1
      rw [e2]
      generalize lv m (l + 1) N = e at *
      obtain ⟨X, hX⟩ : ∃ X, ch e (l + 1) - 1 - N = X + 1 := ⟨ch e (l + 1) - 1 - N - 1, by omega⟩
      rw [hX] at hl ⊢
      rw [show ch e (l + 1) - 1 - (N + 1) = X by omega]
      have hle : ch (e - 1) l ≤ ch e l := ch_mono l (by omega)
      obtain ⟨o, c', hx⟩ := pk_ex l e X (by omega)
      exact ⟨c', o, hx.swap.app (fun z => by have := pk_lt hl a e z; omega) (fun z => by have := pk_lt (show X < ch (e - 1) l by omega) a e z; omega)⟩
    · have hN : N + 1 = ch (lv m (l + 1) N) (l + 1) := by omega
      have hlt : lv m (l + 1) N < m := by
        refine Nat.lt_of_not_le fun z => ?_
        have := ch_mono (l + 1) z
        omega
      generalize lv m (l + 1) N = e at *
      have hel : l + 1 ≤ e := by
        refine Nat.le_of_not_lt fun z => ?_
        rw [ch_zero e (l + 1) z] at d
        omega
      have hch : ch (e + 1) (l + 1) = ch e l + ch e (l + 1) := rfl
      have hp := ch_pos e l (by omega)
      have e2 : lv m (l + 1) (N + 1) = e + 1 := lv_is (by omega) (by omega) (by rw [Nat.add_sub_cancel]; omega) (by omega)
      rw [e2, show ch e (l + 1) - 1 - N = 0 by omega, show ch (e + 1) (l + 1) - 1 - (N + 1) = ch e l - 1 by omega, pk_down l e _ (by omega), pk_first l e (by omega)]
      cases l with
      | zero => exact ⟨e, e + 1, by simp [Ex, pk]⟩
      | succ j =>
        rw [pk_last j e (by omega), List.range'_concat]
        have hm : ∀ x, x ∈ List.range' 1 j ↔ 1 ≤ x ∧ x ≤ j := fun x => by rw [List.mem_range'_1]; omega
        generalize hR : List.range' 1 j = R at *
        have key : ∀ A2 B2 : List Nat, ((R ++ A2).filter fun x => decide (x ∉ R ++ B2)) = A2.filter fun x => decide (x ∉ R ++ B2) := fun A2 B2 => by
          rw [List.filter_append, filt_none (fun x hx => List.mem_append_left _ hx), List.nil_append]
        have ej : 1 + 1 * j = j + 1 := by omega
        rw [ej]
        refine ⟨j + 1, e + 1, ?_, ?_⟩
        · rw [List.append_assoc, List.append_assoc, key]
          have n1 : decide (j + 1 ∉ R ++ ([e] ++ [e + 1])) = true := by
            rw [decide_eq_true_eq, List.mem_append, hm]
            simp
            omega
          have n2 : decide (e ∉ R ++ ([e] ++ [e + 1])) = false := by simp
          show ((j + 1) :: [e]).filter _ = _
          simp only [List.filter, n1, n2]
        · rw [List.append_assoc, List.append_assoc, key]
          have n1 : decide (e + 1 ∉ R ++ ([j + 1] ++ [e])) = true := by
            rw [decide_eq_true_eq, List.mem_append, hm]
            simp
            omega
          have n2 : decide (e ∉ R ++ ([j + 1] ++ [e])) = false := by simp
          show (e :: [e + 1]).filter _ = _
          simp only [List.filter, n1, n2]
/-- the list of exchanges, put together -/
def xl (m k : Nat) : List (List Nat) := (List.range (ch m k)).map fun N => pk k m N
theorem xl_step (m k : Nat) (hk : k + 1 ≤ m) : xl (m + 1) (k + 1) = xl m (k + 1) ++ (xl m k).reverse.map fun p => p ++ [m + 1] := by
  unfold xl
  have hc : ch (m + 1) (k + 1) = ch m (k + 1) + ch m k := by rw [ch]; omega
  rw [hc, List.range_add, List.map_append]
  congr 1
  · refine List.map_congr_left fun N hN => ?_
    exact pk_down (k + 1) m N (List.mem_range.mp hN)
  · rw [List.map_map, ← List.map_reverse, List.map_map]
    refine List.ext_getElem (by simp) fun i h1 h2 => ?_
    simp at h1
    simp only [List.getElem_map, List.getElem_range, Function.comp_apply, List.getElem_reverse, List.length_range]
    have e : lv (m + 1) (k + 1) (ch m (k + 1) + i) = m + 1 := lv_is (by omega) (Nat.le_refl _) (by rw [Nat.add_sub_cancel]; omega) (by omega)
    rw [pk, e, hc, show ch m (k + 1) + ch m k - 1 - (ch m (k + 1) + i) = ch m k - 1 - i by omega, pk_down k m _ (by omega)]
/-- choosing, as the program does -/
def cf (a : Int) : Nat → Int
  | 0 => 1
  | t + 1 => cf a t * (a - t) / (t + 1)
theorem cf_ch : ∀ n : Nat, n < 21 → ∀ k : Nat, k < n + 1 → cf n k = (ch n k : Int) := by decide +kernel
theorem cf_bnd : ∀ n : Nat, n < 21 → ∀ k : Nat, k < 22 → (cf n k).natAbs < 1073741824 := by decide +kernel
theorem nl_get2 (ps : List Nat) (i : Nat) (h : i < ps.length) : gIx (.tuple (nl ps)) (.int (i : Int)) = some (.sh (.int (ps.getD i 0 : Nat))) := by
  rw [gIx_tup, nl_get]; simp [h]
theorem any_eqv (ps : List Nat) (p : Nat) : ((nl ps).any fun z => PyData.eqv z (.int (p : Int))) = decide (p ∈ ps) := by
  induction ps with
  | nil => simp
  | cons q ps ih =>
    rw [nl_cons, List.any_cons, ih]
    simp only [PyData.eqv]
    by_cases h : p = q
    · subst h; simp
    · have h2 : ¬ q = p := fun z => h z.symm
      simp [h]
      omega
theorem gNotIn_nl (ps : List Nat) (p : Nat) : gInB true (.int (p : Int)) (.tuple (nl ps)) = some (.sh (.bool (decide (p ∉ ps)))) := by
  have h := any_eqv ps p
  simp only [gInB, depthAll_nl, h]
  simp [PyData.depth]
theorem gIn_nl (ps : List Nat) (p : Nat) : gInB false (.int (p : Int)) (.tuple (nl ps)) = some (.sh (.bool (decide (p ∈ ps)))) := by
  have h := any_eqv ps p
  simp only [gInB, depthAll_nl, h]
  simp [PyData.depth]
theorem enumD_nl (ps : List Nat) : enumD (nl ps) = (List.range ps.length).map fun i : Nat => PyData.tuple [.int (i : Int), .int (ps.getD i 0 : Nat)] := by
  unfold enumD
  refine List.ext_getElem (by simp) fun i h1 h2 => ?_
  simp at h1
  simp [nl, h1]
/-- a pick -/
structure Pck (m : Nat) (ps : List Nat) : Prop where
  l : ps.length ≤ m
  b : ∀ p ∈ ps, 1 ≤ p ∧ p ≤ m
  a : ps.Pairwise (· < ·)
theorem pk_Pk {l m N : Nat} (h : N < ch m l) : Pck m (pk l m N) := by
  obtain ⟨a, b, c⟩ := pk_ok l m N h
  refine ⟨?_, b, c⟩
  rw [a]
  refine Nat.le_of_not_lt fun z => ?_
  rw [ch_zero m l z] at h
  omega
theorem pw_zip : ∀ ps : List Nat, ps.Pairwise (· < ·) → ∀ p ∈ ps.zip (ps.drop 1), p.1 < p.2
  | [], _, p, h => by simp at h
  | [a], _, p, h => by simp at h
  | a :: b :: r, h, p, hp => by
    rw [List.pairwise_cons] at h
    simp only [List.drop_succ_cons, List.drop_zero, List.zip_cons_cons] at hp
    rcases List.mem_cons.mp hp with rfl | hp
    · exact h.1 b List.mem_cons_self
    · exact pw_zip (b :: r) h.2 p (by simpa using hp)
end Z
end
section
namespace Z
open PySem PySem.Spec L2
/-- neighbours all rise: all rise -/
theorem zip_pw : ∀ ps : List Nat, (ps.zip (ps.drop 1)).all (fun p => decide (p.1 < p.2)) = decide (ps.Pairwise (· < ·))
  | [] => by simp
  | [a] => by simp
  | a :: b :: r => by
    have ih := zip_pw (b :: r)
    simp only [List.drop_succ_cons, List.drop_zero, List.zip_cons_cons, List.all_cons] at ih ⊢
    rw [ih]
    by_cases h : (b :: r).Pairwise (· < ·)
    · by_cases h2 : a < b
      · have : (a :: b :: r).Pairwise (· < ·) := by
          rw [List.pairwise_cons]
          refine ⟨fun c hc => ?_, h⟩
          rcases List.mem_cons.mp hc with rfl | hc
          · exact h2
          · rw [List.pairwise_cons] at h
            exact Nat.lt_trans h2 (h.1 c hc)
        simp only [h2, h, this, decide_true, Bool.and_self]
      · have : ¬ (a :: b :: r).Pairwise (· < ·) := fun z => h2 (by rw [List.pairwise_cons] at z; exact z.1 b List.mem_cons_self)
        simp only [h2, this, decide_false, Bool.false_and]
    · have : ¬ (a :: b :: r).Pairwise (· < ·) := fun z => h (by rw [List.pairwise_cons] at z; exact z.2)
      simp only [h, this, decide_false, Bool.and_false]
def natsOf : List D → Option (List Nat)
  | [] => some []
  | .int i :: r => if 0 ≤ i then (natsOf r).map (i.toNat :: ·) else none
  | _ :: _ => none
theorem natsOf_nl : ∀ ps : List Nat, natsOf (nl ps) = some ps
  | [] => rfl
  | p :: r => by simp [natsOf, natsOf_nl r]
theorem natsOf_some : ∀ {ds : List D} {ps : List Nat}, natsOf ds = some ps → ds = nl ps
  | [], ps, h => by cases h; rfl
  | d :: r, ps, h => by
    cases d with
    | int i =>
      simp only [natsOf] at h
      split at h
      · rename_i h0
        cases q : natsOf r with
        | none => rw [q] at h; cases h
        | some qs =>
          rw [q] at h
          cases h
          rw [natsOf_some q, nl_cons, Int.toNat_of_nonneg h0]
      · cases h
    | _ => cases h
instance (m : Nat) (ps : List Nat) : Decidable (Pck m ps) := decidable_of_iff (ps.length ≤ m ∧ (∀ p ∈ ps, 1 ≤ p ∧ p ≤ m) ∧ ps.Pairwise (· < ·)) ⟨fun h => ⟨h.1, h.2.1, h.2.2⟩, fun h => ⟨h.l, h.b, h.a⟩⟩
/-- what is a pick, of any value -/
def isPk (m : Nat) : D → Bool
  | .tuple ds => match natsOf ds with
    | some ps => decide (Pck m ps)
    | none => false
  | _ => false
theorem isPk_nl (m : Nat) (ps : List Nat) : isPk m (.tuple (nl ps)) = decide (Pck m ps) := by simp [isPk, natsOf_nl]
theorem nl_drop (ps : List Nat) (n : Nat) : (nl ps).drop n = nl (ps.drop n) := by simp [nl, List.map_drop]
theorem nl_take (ps : List Nat) (n : Nat) : (nl ps).take n = nl (ps.take n) := by simp [nl, List.map_take]
theorem nl_app (ps qs : List Nat) : nl (ps ++ qs) = nl ps ++ nl qs := by simp [nl]
theorem zipD_nl (ps qs : List Nat) : zipD (nl ps) (nl qs) = (ps.zip qs).map fun p : Nat × Nat => PyData.tuple [.int (p.1 : Int), .int (p.2 : Int)] := by
  unfold zipD nl
  rw [List.zipWith_map, List.zip, List.map_zipWith]
/-- a row of numbers of choices -/
def prow (n : Nat) : List Nat := (List.range (n + 1)).map fun k => ch n k
theorem ch_z (n : Nat) : ch n 0 = 1 := by cases n <;> rfl
theorem prow_len (n : Nat) : (prow n).length = n + 1 := by simp [prow]
theorem prow_get (n k : Nat) (h : k ≤ n) : (prow n)[k]? = some (ch n k) := by
  unfold prow
  rw [List.getElem?_map, List.getElem?_range (by omega)]; rfl
theorem prow_succ (n : Nat) : prow (n + 1) = [1] ++ ((prow n).zip ((prow n).drop 1)).map (fun p => p.1 + p.2) ++ [1] := by
  refine List.ext_getElem? fun i => ?_
  have l1 := prow_len n
  have l2 : (((prow n).zip ((prow n).drop 1)).map fun p => p.1 + p.2).length = n := by simp [l1]
  by_cases h0 : i = 0
  · subst h0
    rw [prow_get _ _ (by omega), ch_z]; rfl
  · obtain ⟨j, rfl⟩ : ∃ j, i = j + 1 := ⟨i - 1, by omega⟩
    rw [List.append_assoc, List.singleton_append, List.getElem?_cons_succ]
    by_cases h1 : j < n
    · rw [prow_get _ _ (by omega), List.getElem?_append_left (by rw [l2]; exact h1), List.getElem?_map]
      have : ((prow n).zip ((prow n).drop 1))[j]? = some (ch n j, ch n (j + 1)) := by
        rw [List.getElem?_zip_eq_some]
        refine ⟨prow_get _ _ (by omega), ?_⟩
        rw [List.getElem?_drop, Nat.add_comm]
        exact prow_get _ _ (by omega)
      rw [this]; rfl
    · by_cases h2 : j = n
      · subst h2
        rw [prow_get _ _ (by omega), ch_self, List.getElem?_append_right (by omega), l2, Nat.sub_self]; rfl
      · rw [List.getElem?_eq_none (by rw [prow_len]; omega), List.getElem?_eq_none (by simp [l1]; omega)]
theorem xl_zero (m : Nat) : xl m 0 = [List.range' 1 0] := by unfold xl; rw [ch_z]; rfl
theorem xl_full (m : Nat) : xl m m = [List.range' 1 m] := by
  unfold xl
  rw [ch_self]
  show [pk m m 0] = _
  rw [pk_first m m (Nat.le_refl _)]
theorem rangeD_one (n : Nat) : rangeD 1 1 n = nl (List.range' 1 n) := by
  rw [rangeD_map, nl]
  refine List.ext_getElem (by simp) fun i h1 h2 => ?_
  simp
theorem xl_get (m k N : Nat) (h : N < ch m k) : (xl m k)[N]? = some (pk k m N) := by
  unfold xl
  rw [List.getElem?_map, List.getElem?_range h]; rfl
theorem xl_len (m k : Nat) : (xl m k).length = ch m k := by simp [xl]
theorem filt_notIn (A B : List Nat) (ρ : List S) : True := trivial
end Z
end
section
namespace P
open PySem PySem.Spec L2 Z
theorem fits_whole_int (v a b : Int) : m_fits_whole [.sh (.int v), .sh (.int a), .sh (.int b)] = .ok (.sh (.bool (decide (a ≤ v) && decide (v ≤ b)))) := by
  unfold m_fits_whole b_fits_whole
  rw [hide_eq]
  rw [retF_eq]
  simp [isTy]
  by_cases h : a ≤ v <;> simp [h]
/-- a sign -/
def okS : D → Bool
  | .int i => decide (0 ≤ i) && decide (i ≤ 1)
  | _ => false
def okW (lo hi : Int) : D → Bool
  | .int i => decide (lo ≤ i) && decide (i ≤ hi)
  | _ => false
theorem fits_whole_any (d : D) (a b : Int) : m_fits_whole [.sh d, .sh (.int a), .sh (.int b)] = .ok (.sh (.bool (okW a b d))) := by
  cases d with
  | int i => exact fits_whole_int i a b
  | _ => unfold m_fits_whole b_fits_whole; rw [hide_eq, retF_eq]; simp [isTy, okW]
theorem okW_nat {n : Nat} {d : D} (h : okW 1 n d = true) : ∃ p : Nat, d = .int p ∧ 1 ≤ p ∧ p ≤ n := by
  cases d with
  | int i =>
    simp [okW] at h
    exact ⟨i.toNat, by rw [Int.toNat_of_nonneg (by omega)], by omega, by omega⟩
  | _ => cases h
theorem okW_all {n : Nat} : ∀ {ds : List D}, ds.all (okW 1 n) = true → ∃ ps : List Nat, ds = nl ps ∧ ∀ p ∈ ps, 1 ≤ p ∧ p ≤ n
  | [], _ => ⟨[], rfl, by simp⟩
  | d :: ds, h => by
    rw [List.all_cons, Bool.and_eq_true] at h
    obtain ⟨p, rfl, h1⟩ := okW_nat h.1
    obtain ⟨ps, rfl, h2⟩ := okW_all h.2
    exact ⟨p :: ps, rfl, fun q hq => by
      rcases List.mem_cons.mp hq with rfl | hq
      · exact h1
      · exact h2 q hq⟩
theorem okW_S (d : D) : okW 0 1 d = okS d := by cases d <;> rfl
theorem is_tuple_of_not (d : D) (a b : Int) (h : isTy "tuple" d = false) : m_is_tuple_of [.sh d, .sh (.int a), .sh (.int b)] = .ok (.sh (.bool false)) := by
  unfold m_is_tuple_of b_is_tuple_of
  rw [hide_eq]
  rw [retF_eq]
  simp [h]
theorem is_tuple_of_tup (ds : List D) (a b : Int) : m_is_tuple_of [.sh (.tuple ds), .sh (.int a), .sh (.int b)] = .ok (.sh (.bool (decide (a ≤ ds.length) && decide ((ds.length : Int) ≤ b)))) := by
  unfold m_is_tuple_of b_is_tuple_of
  rw [hide_eq]
  rw [retF_eq]
  simp [isTy]
  by_cases h : a ≤ ds.length <;> simp [h]
theorem law_cup_val (ns : List Int) (hl : ns.length ≤ 63) : ∃ x y : Int, m__law_cup [.fz ns] = .ok (.ow (.list [.int x, .int y])) ∧ Cup x y := by
  have h : ∃ K A B M C, b__law_cup = cupB K A B M C ∧ ((0 < K ∧ K < 1073741824) ∧ A.natAbs < 18446744073709551616 ∧ (0 < M ∧ M < 2147483648) ∧ (0 ≤ C ∧ C < 2147483648)) := ⟨_, _, _, _, _, rfl, by decide⟩
  obtain ⟨K, A, B, M, C, e, h⟩ := h
  unfold m__law_cup
  rw [hide_eq]
  rw [e]
  exact cup_val K A B M C h ns hl
theorem law_roll_val (x y m : Int) (hc : Cup x y) (hm : 0 < m) (hm2 : m < 1073741824) : ∃ r x' y' : Int, m__law_roll x y [.sh (.int m)] = .ok (.sh (.int r), x', y') ∧ 0 ≤ r ∧ r < m ∧ Cup x' y' := by
  have h : ∃ A B M C N E, b__law_roll = rollB A B M C N E ∧ (A.natAbs < 18446744073709551616 ∧ (0 < M ∧ M < 4294967296) ∧ (0 < N) ∧ (0 < E ∧ E < 1073741824)) := ⟨_, _, _, _, _, _, rfl, by decide⟩
  obtain ⟨A, B, M, C, N, E, e, h⟩ := h
  unfold m__law_roll
  rw [hide_eq]
  rw [e]
  exact roll_val A B M C N E h x y m hc hm hm2
theorem law_same_refl (d : D) (h : PyData.depth d < 40) (hs : sk d = true) : m__law_same [.sh d, .sh d] = .ok (.sh (.bool true)) := by
  have e : ∀ n, r__law_same n = sameR n := by
    intro n
    induction n with
    | zero => rfl
    | succ n ih => show retF (b__law_same (r__law_same n)) 3 = retF (sameB (sameR n)) 3; rw [ih]; rfl
  unfold m__law_same
  rw [hide_eq]
  rw [e]
  exact same_refl 40 d h hs
theorem law_same_int (i : Int) : m__law_same [.sh (.int i), .sh (.int i)] = .ok (.sh (.bool true)) := law_same_refl _ (by show 0 < 40; omega) rfl
theorem law_same_bool (i : Bool) : m__law_same [.sh (.bool i), .sh (.bool i)] = .ok (.sh (.bool true)) := law_same_refl _ (by show 0 < 40; omega) rfl
theorem law_same_ntup (ns : List Nat) (h : ns.length ≤ 1000000) : m__law_same [.sh (.tuple (nl ns)), .sh (.tuple (nl ns))] = .ok (.sh (.bool true)) := law_same_refl _ (by simp [PyData.depth, depthAll_nl]) (by simp [sk, sk_nl, h])
theorem law_same_nlst (ns : List Nat) (h : ns.length ≤ 1000000) : m__law_same [.sh (.list (nl ns)), .sh (.list (nl ns))] = .ok (.sh (.bool true)) := law_same_refl _ (by simp [PyData.depth, depthAll_nl]) (by simp [sk, sk_nl, h])
theorem law_same_itup (ns : List Int) (h : ns.length ≤ 1000000) : m__law_same [.sh (.tuple (il ns)), .sh (.tuple (il ns))] = .ok (.sh (.bool true)) := law_same_refl _ (by simp [PyData.depth, depthAll_il]) (by simp [sk, sk_il, h])
theorem law_same_ilst (ns : List Int) (h : ns.length ≤ 1000000) : m__law_same [.sh (.list (il ns)), .sh (.list (il ns))] = .ok (.sh (.bool true)) := law_same_refl _ (by simp [PyData.depth, depthAll_il]) (by simp [sk, sk_il, h])
theorem law_same_wd (w : List Bool) (h : w.length ≤ 1000000) : m__law_same [.sh (wd w), .sh (wd w)] = .ok (.sh (.bool true)) := law_same_itup _ (by simpa using h)
theorem choose_val (n k : Nat) (hn : n < 21) (hk : k < 22) : m_choose [.sh (.int n), .sh (.int k)] = .ok (.sh (.int (ch n k : Nat))) := by
  unfold m_choose b_choose
  rw [hide_eq]
  apply Wp.ret
  refine Wp.seq (ρ1 := [.sh (.int n), .sh (.int k), .sh (.int 1), .u]) (by simp) ?_
  refine Wp.then (Wp.rangeS k (fun i => [.sh (.int n), .sh (.int k), .sh (.int (cf n i)), .u]) (by simp [bnd_nat (n := k) (by omega), cf]) ?_) ?_
  · intro i hi
    refine ⟨_, by simp; rfl, ?_⟩
    have b := cf_bnd n hn i (by omega)
    refine Wp.klN (.nx (by simp [gMul_int (cf n i) ((n : Int) - i) (.inl (by omega)), gDiv_int _ ((i : Int) + 1) (by omega) (by omega)]; rfl)) (by simp [cf])
  · by_cases h : k ≤ n
    · exact .fin (by simp [h, cf_ch n hn k (by omega)])
    · exact .fin (by simp [h, ch_zero n k (by omega)])
theorem number_in_pick {m : Nat} {ps : List Nat} (h : Pck m ps) (hm : m < 21) : m_number_in [.sh (.tuple (nl ps))] = .ok (.sh (.int (rkA ps 0 0))) := by
  unfold m_number_in b_number_in
  rw [hide_eq]
  apply Wp.ret
  refine Wp.seq (ρ1 := [.sh (.tuple (nl ps)), .sh (.int 0), .u, .u]) (by simp) ?_
  refine Wp.then (Wp.forS (fun i : Nat => PyData.tuple [.int (i : Int), .int (ps.getD i 0 : Nat)]) (List.range ps.length) (fun i => [.sh (.tuple (nl ps)), .sh (.int (rkA (ps.take i) 0 0)), .u, .u]) (by simp [enumD_nl, rkA]) ?_) ?_
  · intro i x hx
    have hl := h.l
    obtain ⟨hi, e⟩ := List.getElem?_eq_some_iff.mp hx
    simp at hi e
    subst e
    have e : ps.getD i 0 = ps[i] := by simp [hi]
    have b := h.b ps[i] (List.getElem_mem hi)
    rw [e]
    have hc := choose_val ps[i] (i + 1) (by omega) (by omega)
    rw [show ((i + 1 : Nat) : Int) = (i : Int) + 1 by omega] at hc
    refine ⟨_, by simp; rfl, Wp.klN (.nx (by simp [hc]; rfl)) ?_⟩
    rw [List.take_succ_eq_append_getElem hi, rkA_app]
    simp [Nat.min_eq_left (Nat.le_of_lt hi)]
  · exact .fin (by simp)
theorem pick_in_val (l m N : Nat) (hm : m < 21) (hN : N < ch m l) : m_pick_in [.sh (.int m), .sh (.int l), .sh (.int N)] = .ok (.sh (.tuple (nl (pk l m N)))) := by
  unfold m_pick_in b_pick_in
  rw [hide_eq]
  have hlm : l ≤ m := by
    refine Nat.le_of_not_lt fun z => ?_
    rw [ch_zero m l z] at hN
    omega
  apply Wp.ret
  refine Wp.seq (ρ1 := [.sh (.int m), .sh (.int l), .sh (.int N), .sh (.tuple []), .u]) (by simp) ?_
  refine Wp.seqW (.kl (Wp.for_ (fun k : Nat => PyData.int ((l : Int) - (k : Nat))) (List.range l) (fun i ρ => ∃ (mi Ni : Nat) (fd : List Nat), mi ≤ m ∧ Ni < ch mi (l - i) ∧ pk l m N = pk (l - i) mi Ni ++ fd ∧ ρ = [.sh (.int mi), .sh (.int l), .sh (.int Ni), .sh (.tuple (nl fd)), .u]) (iRange3_dn0 l (by omega) (by simp; exact ⟨rfl, rfl⟩) (by simp)) ⟨m, N, [], Nat.le_refl _, hN, by simp, by simp⟩ ?_ ?_))
  · rintro i x ρ hx ⟨mi, Ni, fd, h1, h2, h3, rfl⟩
    obtain ⟨hi, e⟩ := List.getElem?_eq_some_iff.mp hx
    simp at hi e
    subst e
    refine ⟨_, by simp; rfl, ?_⟩
    obtain ⟨d, hd⟩ : ∃ d, l - i = d + 1 := ⟨l - i - 1, by omega⟩
    rw [hd] at h2 h3
    obtain ⟨v1, v2, v3, v4⟩ := lv_spec mi d Ni h2
    have hlow := low_lt h2
    have hx : ((l : Int) - (i : Nat)) = ((d + 1 : Nat) : Int) := by omega
    rw [hx]
    generalize hv : lv mi (d + 1) Ni = v at v1 v2 v3 v4 hlow
    have hw : Wp (whileL (bOf (fOp gGt (oE (fUser m_choose (aCons (fOp gSub (oN 0) (oE (fC (.int 1)))) (aCons (fN 4) aNil)))) (oN 2))) (sSet 0 (fOp gSub (oN 0) (oE (fC (.int 1))))) LIM) [.sh (.int mi), .sh (.int l), .sh (.int Ni), .sh (.tuple (nl fd)), .sh (.int ((d + 1 : Nat) : Int))] (Nx [.sh (.int v), .sh (.int l), .sh (.int Ni), .sh (.tuple (nl fd)), .sh (.int ((d + 1 : Nat) : Int))]) := by
      have := Wp.while (c := bOf (fOp gGt (oE (fUser m_choose (aCons (fOp gSub (oN 0) (oE (fC (.int 1)))) (aCons (fN 4) aNil)))) (oN 2))) (b := sSet 0 (fOp gSub (oN 0) (oE (fC (.int 1))))) (m := LIM) (fun j => [.sh (.int ((mi : Int) - (j : Nat))), .sh (.int l), .sh (.int Ni), .sh (.tuple (nl fd)), .sh (.int ((d + 1 : Nat) : Int))]) (mi - v) (by rw [LIM_eq]; omega) (fun j hj => ?_) (fun j hj => ?_) ?_
      · simp only [Int.natCast_zero, Int.sub_zero] at this
        rw [show ((mi : Int) - ((mi - v : Nat) : Int)) = (v : Int) by omega] at this
        exact this
      · have hc := choose_val (mi - j - 1) (d + 1) (by omega) (by omega)
        rw [show ((mi - j - 1 : Nat) : Int) = (mi : Int) - (j : Nat) - 1 by omega] at hc
        have hle := ch_mono (d + 1) (show v ≤ mi - j - 1 by omega)
        have hlt : (Ni : Int) < (ch (mi - j - 1) (d + 1) : Nat) := by omega
        simp only [bOf_eq, fOp_eq, oE_eq, fUser_eq, aCons_eq, oN_eq, fN_eq, fC_ok, aNil_eq, Rs.bind_ok, List.getElem?_cons_zero, List.getElem?_cons_succ, look_ix, look_dt, Rs.of_some, gSub_int, hc, gGt_int]
        simp [hlt]
      · refine .nx ?_
        simp
        omega
      · have hc := choose_val (v - 1) (d + 1) (by omega) (by omega)
        rw [show ((v - 1 : Nat) : Int) = (v : Int) - 1 by omega] at hc
        rw [show ((mi : Int) - ((mi - v : Nat) : Int)) = (v : Int) by omega]
        have hlt : ¬ ((Ni : Int) < (ch (v - 1) (d + 1) : Nat)) := by omega
        simp only [bOf_eq, fOp_eq, oE_eq, fUser_eq, aCons_eq, oN_eq, fN_eq, fC_ok, aNil_eq, Rs.bind_ok, List.getElem?_cons_zero, List.getElem?_cons_succ, look_ix, look_dt, Rs.of_some, gSub_int, hc, gGt_int]
        simp [hlt]
    refine .kl (Wp.then hw ?_)
    have hc := choose_val v (d + 1) (by omega) (by omega)
    rw [show ((d + 1 : Nat) : Int) = (d : Int) + 1 by omega] at hc ⊢
    have hfl : fd.length ≤ 100 := by
      have := congrArg List.length h3
      rw [(pk_ok l m N hN).1, List.length_append] at this
      omega
    have ha := gAddT [.int (v : Int)] (nl fd) (by simp; omega)
    refine .one (by simp only [sSeq_eq, sSet_eq, fOp_eq, oE_eq, fTup_eq, aCons_eq, fN_eq, oN_eq, aNil_eq, List.getElem?_cons_zero, List.getElem?_cons_succ, Rs.bind_ok, shs_cons, shs_nil, Option.map_some, Rs.of_some, look_ix, look_dt]; simp [ha, hc]; rfl) ⟨rfl, v, ch v (d + 1) - 1 - Ni, v :: fd, by omega, ?_, ?_, ?_⟩
    · rw [show l - (i + 1) = d by omega]
      exact Nat.lt_of_lt_of_le hlow (ch_mono _ (by omega))
    · rw [h3, pk, hv, show l - (i + 1) = d by omega, List.append_assoc]; rfl
    · simp
      omega
  · rintro ρ' ⟨mi, Ni, fd, h1, h2, h3, rfl⟩
    simp only [List.length_range, Nat.sub_self, pk, List.nil_append] at h3
    exact ⟨rfl, .fin (by simp [h3])⟩
theorem fits_pick_any (m : Nat) (hm : m < 1000) (d : D) : m_fits_pick [.sh (.int m), .sh d] = .ok (.sh (.bool (isPk m d))) := by
  unfold m_fits_pick b_fits_pick
  rw [hide_eq]
  by_cases ht : isTy "tuple" d = false
  · have hw : isPk m d = false := by cases d <;> first | rfl | (simp [isTy] at ht; done)
    rw [hw, retF_eq]
    simp [is_tuple_of_not d 0 m ht]
  · cases d with
    | tuple ds =>
      rw [retF_eq]
      by_cases hl : ds.length ≤ m
      · have e := lcL_vn (v := 2) (f := fUser m_fits_whole (aCons (fN 2) (aCons (fC (.int 1)) (aCons (fN 0) (aNil))))) (fun d : D => d) (fun d => PyData.bool (okW 1 m d)) [.sh (.int m), .sh (.tuple ds), .u, .u] rfl ds (by omega) (fun d hd => .inl (by simp [fits_whole_any]))
        rw [List.map_id'] at e
        have hb := gAll_bools (okW 1 m) ds
        have g1 : decide ((0 : Int) ≤ ds.length) = true := by simp
        have g2 : decide ((ds.length : Int) ≤ m) = true := by simp [hl]
        by_cases ha : ds.all (okW 1 m) = true
        · obtain ⟨ps, rfl, hp⟩ := okW_all ha
          have e2 := lcL_en (a := 2) (b := 3) (f := fOp gLt (oN 2) (oN 3)) (fun p : Nat × Nat => PyData.int (p.1 : Int)) (fun p => PyData.int (p.2 : Int)) (fun p => PyData.bool (decide (p.1 < p.2))) [.sh (.int m), .sh (.tuple (nl ps)), .u, .u] (by decide) rfl rfl (ps.zip (ps.drop 1)) (by simp at hl ⊢; omega) (fun p hp => .inl (by simp))
          have hb2 := gAll_bools (fun p : Nat × Nat => decide (p.1 < p.2)) (ps.zip (ps.drop 1))
          rw [zip_pw] at hb2
          have hz := zipD_nl ps (ps.drop 1)
          have hc := cutD_from (nl ps) 1
          rw [nl_drop] at hc
          simp only [Int.natCast_one] at hc
          have hl' : ps.length ≤ m := by simpa using hl
          have hpk : isPk m (.tuple (nl ps)) = decide (ps.Pairwise (· < ·)) := by
            rw [isPk_nl]
            by_cases hs : ps.Pairwise (· < ·)
            · have : Pck m ps := ⟨by simpa using hl, hp, hs⟩
              simp [this, hs]
            · have : ¬ Pck m ps := fun z => hs z.a
              simp [this, hs]
          rw [hpk]
          simp [is_tuple_of_tup, hl', clean, wipeS, restS, plainS, e, hb, ha, hc, hz, e2, hb2, -List.drop_one]
        · have hpk : isPk m (.tuple ds) = false := by
            unfold isPk
            cases q : natsOf ds with
            | none => simp [q]
            | some ps =>
              have := natsOf_some q
              subst this
              simp [q]
              intro z
              refine ha ?_
              rw [List.all_eq_true]
              intro d hd
              obtain ⟨p, hp, rfl⟩ := List.mem_map.mp hd
              have := z.b p hp
              simp [okW]; omega
          rw [hpk]
          simp only [Bool.not_eq_true] at ha
          simp [is_tuple_of_tup, g2, clean, wipeS, restS, plainS, e, hb, ha]
      · have g2 : ¬ (ds.length : Int) ≤ m := by omega
        have hpk : isPk m (.tuple ds) = false := by
          unfold isPk
          cases q : natsOf ds with
          | none => simp [q]
          | some ps =>
            have := natsOf_some q
            subst this
            simp [q]
            intro z
            exact hl (by simpa using z.l)
        rw [hpk]
        simp [is_tuple_of_tup, g2]
    | _ => exact absurd rfl ht
theorem fits_pick_ok {m : Nat} {ps : List Nat} (h : Pck m ps) (hm : m < 1000) : m_fits_pick [.sh (.int m), .sh (.tuple (nl ps))] = .ok (.sh (.bool true)) := by
  rw [fits_pick_any m hm, isPk_nl]
  simp [h]
theorem need_many20 (m : Nat) (h1 : 1 ≤ m) (h2 : m ≤ 20) : m_need_many [.sh (.int m)] = .ok (.sh .none) := by
  unfold m_need_many b_need_many
  rw [hide_eq]
  rw [retF_eq]
  have g : okW 1 20 (.int (m : Int)) = true := by simp [okW]; omega
  simp [fits_whole_any, g]
theorem need_size_ok (m k : Nat) (h1 : 1 ≤ m) (h2 : m ≤ 20) (h3 : k ≤ m) : m_need_size [.sh (.int m), .sh (.int k)] = .ok (.sh .none) := by
  unfold m_need_size b_need_size
  rw [hide_eq]
  rw [retF_eq]
  have g : okW 0 m (.int (k : Int)) = true := by simp [okW]; omega
  simp [need_many20 m h1 h2, fits_whole_any, g]
theorem need_number_ok (m k N : Nat) (l : Nat) (h1 : 1 ≤ m) (h2 : m ≤ 20) (h3 : k ≤ m) (hN : N + l < ch m k) : m_need_number [.sh (.int m), .sh (.int k), .sh (.int N), .sh (.int l)] = .ok (.sh .none) := by
  unfold m_need_number b_need_number
  rw [hide_eq]
  rw [retF_eq]
  have g : okW 0 ((ch m k : Nat) - 1 - (l : Nat)) (.int (N : Int)) = true := by simp [okW]; omega
  simp [need_size_ok m k h1 h2 h3, choose_val m k (by omega) (by omega), fits_whole_any, g]
theorem need_pick_ok {m : Nat} {ps : List Nat} (h : Pck m ps) (h1 : 1 ≤ m) (h2 : m ≤ 20) : m_need_pick [.sh (.int m), .sh (.tuple (nl ps))] = .ok (.sh .none) := by
  unfold m_need_pick b_need_pick
  rw [hide_eq]
  rw [retF_eq]
  simp [need_many20 m h1 h2, fits_pick_ok h (by omega)]
theorem exchange_in_val {A B : List Nat} {o c : Nat} (h : Ex A B o c) (ha : A.length ≤ 1000) (hb : B.length ≤ 1000) : m_exchange_in [.sh (.tuple (nl A)), .sh (.tuple (nl B))] = .ok (.sh (.tuple [.int o, .int c])) := by
  unfold m_exchange_in b_exchange_in
  rw [hide_eq]
  rw [retF_eq]
  have e1 := lcL_v (v := 2) (c := bOf (fOp (gInB true) (oN 2) (oN 1))) (f := fN 2) (fun n : Nat => PyData.int (n : Int)) (fun x => decide (x ∉ B)) (fun n : Nat => PyData.int (n : Int)) [.sh (.tuple (nl A)), .sh (.tuple (nl B)), .u] rfl A (by omega) (fun i hi => ⟨by simp [gNotIn_nl], fun _ => .inl (by simp)⟩)
  have e2 := lcL_v (v := 2) (c := bOf (fOp (gInB true) (oN 2) (oN 0))) (f := fN 2) (fun n : Nat => PyData.int (n : Int)) (fun x => decide (x ∉ A)) (fun n : Nat => PyData.int (n : Int)) [.sh (.tuple (nl A)), .sh (.tuple (nl B)), .u] rfl B (by omega) (fun i hi => ⟨by simp [gNotIn_nl], fun _ => .inl (by simp)⟩)
  rw [h.1] at e1
  rw [h.2] at e2
  rw [show A.map (fun n : Nat => PyData.int (n : Int)) = nl A from rfl] at e1
  rw [show B.map (fun n : Nat => PyData.int (n : Int)) = nl B from rfl] at e2
  have i1 := gIx_lst [PyData.int (o : Int)] 0
  have i2 := gIx_lst [PyData.int (c : Int)] 0
  simp at i1 i2
  simp [gNotIn, clean, wipeS, restS, plainS, e1, e2, i1, i2]
theorem pick_at_val (m k N : Nat) (h1 : 1 ≤ m) (h2 : m ≤ 20) (h3 : k ≤ m) (hN : N < ch m k) : m_pick_at [.sh (.int m), .sh (.int k), .sh (.int N)] = .ok (.sh (.tuple (nl (pk k m N)))) := by
  unfold m_pick_at b_pick_at
  rw [hide_eq]
  rw [retF_eq]
  have := need_number_ok m k N 0 h1 h2 h3 hN
  simp at this
  simp [this, pick_in_val k m N (by omega) hN]
theorem exchange_behind_val (m k N o c : Nat) (h1 : 1 ≤ m) (h2 : m ≤ 20) (h3 : k ≤ m) (hN : N + 1 < ch m k) (hx : Ex (pk k m N) (pk k m (N + 1)) o c) : m_exchange_behind [.sh (.int m), .sh (.int k), .sh (.int N)] = .ok (.sh (.tuple [.int o, .int c])) := by
  unfold m_exchange_behind b_exchange_behind
  rw [hide_eq]
  rw [retF_eq]
  have e := need_number_ok m k N 1 h1 h2 h3 hN
  have e2 := pick_in_val k m (N + 1) (by omega) hN
  rw [show ((N + 1 : Nat) : Int) = (N : Int) + 1 by omega] at e2
  simp only [Int.natCast_one] at e
  have l1 := (pk_ok k m N (by omega)).1
  have l2 := (pk_ok k m (N + 1) (by omega)).1
  simp [e, pick_in_val k m N (by omega) (by omega), e2, exchange_in_val hx (by omega) (by omega)]
theorem pick_behind_val (m k N : Nat) (h1 : 1 ≤ m) (h2 : m ≤ 20) (hN : N < ch m k) : m_pick_behind [.sh (.int m), .sh (.tuple (nl (pk k m N)))] = .ok (.sh (if N + 1 < ch m k then .tuple (nl (pk k m (N + 1))) else .none)) := by
  unfold m_pick_behind b_pick_behind
  rw [hide_eq]
  rw [retF_eq]
  have hP := pk_Pk hN
  have hk : k ≤ m := by have := hP.l; rw [(pk_ok k m N hN).1] at this; exact this
  have e := number_in_pick hP (by omega)
  rw [rk_pk k m N hN] at e
  have l1 := (pk_ok k m N hN).1
  have c := choose_val m k (by omega) (by omega)
  by_cases h : N + 1 < ch m k
  · have e2 := pick_in_val k m (N + 1) (by omega) h
    rw [show ((N + 1 : Nat) : Int) = (N : Int) + 1 by omega] at e2
    have h' : (N : Int) + 1 < (ch m k : Nat) := by omega
    simp [need_pick_ok hP h1 h2, e, l1, c, h, h', e2]
  · have h' : ¬ (N : Int) + 1 < (ch m k : Nat) := by omega
    simp [need_pick_ok hP h1 h2, e, l1, c, h, h']
theorem pick_ahead_val (m k N : Nat) (h1 : 1 ≤ m) (h2 : m ≤ 20) (hN : N < ch m k) : m_pick_ahead [.sh (.int m), .sh (.tuple (nl (pk k m N)))] = .ok (.sh (if 0 < N then .tuple (nl (pk k m (N - 1))) else .none)) := by
  unfold m_pick_ahead b_pick_ahead
  rw [hide_eq]
  rw [retF_eq]
  have hP := pk_Pk hN
  have hk : k ≤ m := by have := hP.l; rw [(pk_ok k m N hN).1] at this; exact this
  have e := number_in_pick hP (by omega)
  rw [rk_pk k m N hN] at e
  have l1 := (pk_ok k m N hN).1
  by_cases h : 0 < N
  · have e2 := pick_in_val k m (N - 1) (by omega) (by omega)
    rw [show ((N - 1 : Nat) : Int) = (N : Int) - 1 by omega] at e2
    have h' : (0 : Int) < (N : Int) := by omega
    simp [need_pick_ok hP h1 h2, e, l1, h, h', e2]
  · have h' : ¬ (0 : Int) < (N : Int) := by omega
    simp [need_pick_ok hP h1 h2, e, l1, h, h']
theorem law_choose_size (n k : Nat) (hn : n < 1000) : m__law_choose [.sh (.int n), .sh (.int k)] = .ok (.sh (.int (ch n k : Nat))) := by
  unfold m__law_choose b__law_choose
  rw [hide_eq]
  apply Wp.ret
  refine Wp.seq (ρ1 := [.sh (.int n), .sh (.int k), .ow (.list (nl (prow 0))), .u, .u, .u]) (by simp [prow, ch]) ?_
  refine Wp.then (Wp.rangeS n (fun i => [.sh (.int n), .sh (.int k), .ow (.list (nl (prow i))), .u, .u, .u]) (by simp [bnd_nat (n := n) (by omega)]) ?_) ?_
  · intro i hi
    refine ⟨_, by simp; rfl, ?_⟩
    have hl := prow_len i
    have e := lcL_en (a := 4) (b := 5) (f := fOp gAdd (oN 4) (oN 5)) (fun p : Nat × Nat => PyData.int (p.1 : Int)) (fun p => PyData.int (p.2 : Int)) (fun p => PyData.int ((p.1 + p.2 : Nat) : Int)) [.sh (.int n), .sh (.int k), .sh (.list (nl (prow i))), .sh (.int i), .u, .u] (by decide) rfl rfl ((prow i).zip ((prow i).drop 1)) (by simp; omega) (fun p hp => .inl (by simp))
    have hz := zipD_nl (prow i) ((prow i).drop 1)
    have hc := cutD_from (nl (prow i)) 1
    rw [nl_drop] at hc
    simp only [Int.natCast_one] at hc
    have e3 : (((prow i).zip ((prow i).drop 1)).map fun p : Nat × Nat => PyData.int ((p.1 + p.2 : Nat) : Int)) = nl (((prow i).zip ((prow i).drop 1)).map fun p => p.1 + p.2) := by simp [nl]
    rw [e3] at e
    have hs := prow_succ i
    have hl2 : (((prow i).zip ((prow i).drop 1)).map fun p : Nat × Nat => p.1 + p.2).length = i := by simp [hl]
    generalize ((prow i).zip ((prow i).drop 1)).map (fun p => p.1 + p.2) = M at *
    have a1 := gAddL [.int 1] (nl M) (by simp; omega)
    have a2 := gAddL ([.int 1] ++ nl M) [.int 1] (by simp; omega)
    refine Wp.klN (.nx (by simp [hc, hz, clean, wipeS, restS, plainS, e, -List.drop_one]; simp at a1 a2; simp [a1, a2]; rfl)) ?_
    simp [hs, nl_app]
  · by_cases h : k ≤ n
    · have g := gIx_lst (nl (prow n)) k
      rw [nl_get, prow_get n k h] at g
      exact .fin (by simp [h, g])
    · exact .fin (by simp [h, ch_zero n k (by omega)])
theorem law_list_val : ∀ (f m k : Nat), m < f → k ≤ m → m ≤ 10 → r__law_list f [.sh (.int m), .sh (.int k)] = .ok (.ow (.list ((xl m k).map fun p => .tuple (nl p))))
  | 0, m, k, h, _, _ => by omega
  | f + 1, m, k, h, hk, hm => by
    show retF (b__law_list (r__law_list f)) 3 _ = _
    unfold b__law_list
    rw [retF_eq]
    have hr : ∀ q : Nat, q ≤ 10 → gRg true 1 ((q : Int) + 1) = some (.sh (.tuple (nl (List.range' 1 q)))) := fun q hq => by
      have e1 : ((q : Int) + 1 - 1).toNat = q := by omega
      have e2 : ((q : Int) + 1).natAbs < 4611686018427387904 := by omega
      simp [gRg, e1, e2, rangeD_one]; omega
    by_cases h0 : k = 0
    · subst h0
      have := hr 0 (by omega)
      simp at this
      simp [this, xl_zero]
    · by_cases h1 : k = m
      · subst h1
        have := hr k hm
        simp [this, xl_full]
      · obtain ⟨m, rfl⟩ : ∃ q, m = q + 1 := ⟨m - 1, by omega⟩
        obtain ⟨k, rfl⟩ : ∃ q, k = q + 1 := ⟨k - 1, by omega⟩
        have i1 := law_list_val f m (k + 1) (by omega) (by omega) (by omega)
        have i2 := law_list_val f m k (by omega) (by omega) (by omega)
        have b1 : (xl m (k + 1)).length ≤ 1024 := by
          rw [xl_len]
          have : ∀ n, n ≤ 10 → ∀ j, j ≤ 11 → ch n j ≤ 1024 := by decide +kernel
          exact this m (by omega) (k + 1) (by omega)
        have b2 : (xl m k).length ≤ 1024 := by
          rw [xl_len]
          have : ∀ n, n ≤ 10 → ∀ j, j ≤ 11 → ch n j ≤ 1024 := by decide +kernel
          exact this m (by omega) k (by omega)
        have hp : ∀ p ∈ xl m k, p.length ≤ 10 := fun p hp => by
          unfold xl at hp
          obtain ⟨N, hN, rfl⟩ := List.mem_map.mp hp
          rw [(pk_ok k m N (List.mem_range.mp hN)).1]; omega
        have e := lcL_vn (v := 2) (f := fOp gAdd (oN 2) (oE (fTup (aCons (fN 0) (aNil))))) (fun p : List Nat => PyData.tuple (nl p)) (fun p : List Nat => PyData.tuple (nl (p ++ [m + 1]))) [.sh (.int ((m + 1 : Nat) : Int)), .sh (.int ((k + 1 : Nat) : Int)), .u] rfl (xl m k).reverse (by simp; omega) (fun p hpm => .inl (by
          have := hp p (by simpa using hpm)
          simp [gAddT (nl p) [.int ((m : Int) + 1)] (by simp; omega), nl_app]))
        have a := gAddL ((xl m (k + 1)).map fun p => PyData.tuple (nl p)) ((xl m k).reverse.map fun p => PyData.tuple (nl (p ++ [m + 1]))) (by simp; omega)
        have hx := xl_step m k (by omega)
        have n1 : ¬ ((k : Int) + 1 = 0) := by omega
        have n2 : ¬ (k = m) := by omega
        simp only [show ((m + 1 : Nat) : Int) = (m : Int) + 1 by omega, show ((k + 1 : Nat) : Int) = (k : Int) + 1 by omega] at *
        have n3 : ¬ ((k : Int) = m) := by omega
        rw [List.map_reverse] at e
        simp [n1, n2, n3, i1, i2, clean, wipeS, restS, plainS]
        simp at e a
        simp [e, a, hx]
end P
end
section
namespace P
open PySem PySem.Spec L2 Z
theorem rr1 : m_exchange_behind [.sh (.int 3), .sh (.int 2), .sh (.int 0)] = .ok (.sh (.tuple [.int 1, .int 3])) := exchange_behind_val 3 2 0 1 3 (by decide) (by decide) (by decide) (by decide) (by unfold Ex; decide)
theorem rr2 : m_pick_ahead [.sh (.int 3), .sh (.tuple [.int 2, .int 3])] = .ok (.sh (.tuple [.int 1, .int 2])) := by
  have := pick_ahead_val 3 2 1 (by decide) (by decide) (by decide)
  have e1 : pk 2 3 1 = [2, 3] := by decide
  have e2 : pk 2 3 (1 - 1) = [1, 2] := by decide
  rw [e1, e2] at this
  exact this
theorem rows_right : m__law_rows_right [] = .ok (.sh (.bool true)) := by
  unfold m__law_rows_right b__law_rows_right
  rw [hide_eq, retF_eq]
  have r3 := law_same_refl (.tuple [.tuple [.int 1, .int 3], .tuple [.int 1, .int 2]]) (by decide) (by decide)
  simp [rr1, rr2, r3]
theorem same3 (o c : Nat) (A B : List Nat) (ha : A.length ≤ 1000) (hb : B.length ≤ 1000) : m__law_same [.sh (.tuple [.tuple [.int o, .int c], .tuple (nl A), .tuple (nl B)]), .sh (.tuple [.tuple [.int o, .int c], .tuple (nl A), .tuple (nl B)])] = .ok (.sh (.bool true)) := by
  refine law_same_refl _ ?_ ?_
  · simp [PyData.depth, PyData.depthAll, depthAll_nl]
  · simp [sk, sk_nl, skAll]; omega
theorem same2 (A B : List Nat) (ha : A.length ≤ 1000) (hb : B.length ≤ 1000) : m__law_same [.sh (.tuple [.tuple (nl A), .tuple (nl B)]), .sh (.tuple [.tuple (nl A), .tuple (nl B)])] = .ok (.sh (.bool true)) := by
  refine law_same_refl _ ?_ ?_
  · simp [PyData.depth, PyData.depthAll, depthAll_nl]
  · simp [sk, sk_nl, skAll]; omega
/-- what one has and the other has not -/
theorem notIn_lc {A B : List Nat} {o : Nat} (ρ : List S) (i : Nat) (hi : ρ[15]? = some .u) (h : (A.filter fun x => decide (x ∉ B)) = [o]) (fb : OF) (hb : ∀ a : D, fb (ρ.set 15 (.sh a)) = .ok (.dt (.tuple (nl B)), ρ.set 15 (.sh a))) (hl : A.length ≤ 1000) :
    lcL [15] (gNm 15) (bOf (fOp (gInB true) (oN 15) fb)) (fN 15) (nl A) ρ [] = some ([.int (o : Int)], ρ) := by
  have e := lcL_v (v := 15) (c := bOf (fOp (gInB true) (oN 15) fb)) (f := fN 15) (fun n : Nat => PyData.int (n : Int)) (fun x => decide (x ∉ B)) (fun n : Nat => PyData.int (n : Int)) ρ hi A (by omega) (fun i _ => ⟨by
    have g : (ρ.set 15 (S.sh (PyData.int (i : Int))))[15]? = some (S.sh (PyData.int (i : Int))) := get_set_self hi _
    simp [hb, gNotIn_nl, g], fun _ => .inl (by
    have g : (ρ.set 15 (S.sh (PyData.int (i : Int))))[15]? = some (S.sh (PyData.int (i : Int))) := get_set_self hi _
    simp [g])⟩)
  rw [h] at e
  exact e
theorem law_holds (ns : List Int) (hl : ns.length ≤ 63) : m_law [.fz ns] = .ok (.sh (.bool true)) := by
  obtain ⟨x, y, ec, hc⟩ := law_cup_val ns hl
  unfold m_law b_law
  rw [hide_eq]
  apply Wp.ret
  refine Wp.seq (ρ1 := [.fz ns, .cu x y, .u, .u, .u, .u, .u, .u, .u, .u, .u, .u, .u, .u, .u, .u]) (by simp [ec, cupOf]) ?_
  refine Wp.no (ρ1 := [.fz ns, .cu x y, .u, .u, .u, .u, .u, .u, .u, .u, .u, .u, .u, .u, .u, .u]) (by simp [rows_right]) ?_
  refine Wp.seqW (Wp.range 3 (fun _ ρ => ∃ x y, Cup x y ∧ ρ = [.fz ns, .cu x y, .u, .u, .u, .u, .u, .u, .u, .u, .u, .u, .u, .u, .u, .u]) (ρ0 := [.fz ns, .cu x y, .u, .u, .u, .u, .u, .u, .u, .u, .u, .u, .u, .u, .u, .u]) (by simp [bnd_iff]) ⟨x, y, hc, rfl⟩ ?_ ?_)
  · rintro i ρ hi ⟨x, y, hc, rfl⟩
    refine ⟨_, by simp; rfl, .kl ?_⟩
    obtain ⟨r, x1, y1, e1, r0, r1, hc⟩ := law_roll_val x y 8 hc (by omega) (by omega)
    obtain ⟨m, rfl⟩ := Int.eq_ofNat_of_zero_le r0
    obtain ⟨M, hM⟩ : ∃ M, M = m + 1 := ⟨_, rfl⟩
    have hM2 : (1 : Int) + m = M := by omega
    refine Wp.seq (by simp [e1, hM2]; rfl) ?_
    obtain ⟨r, x2, y2, e2, s0, s1, hc⟩ := law_roll_val x1 y1 ((M : Int) + 1) hc (by omega) (by omega)
    obtain ⟨k, rfl⟩ := Int.eq_ofNat_of_zero_le s0
    refine Wp.seq (by simp [e2]; rfl) ?_
    have hk : k ≤ M := by omega
    have el := law_list_val 40 M k (by omega) hk (by omega)
    have em : m__law_list [.sh (.int M), .sh (.int k)] = .ok (.ow (.list ((xl M k).map fun p => .tuple (nl p)))) := by
      unfold m__law_list
      rw [hide_eq]
      exact el
    refine Wp.seq (by simp [em]; rfl) ?_
    -- the ends
    have hp := ch_pos M k hk
    have hb : ch M k ≤ 1024 := by
      have : ∀ n, n ≤ 8 → ∀ j, j ≤ 8 → ch n j ≤ 1024 := by decide +kernel
      exact this M (by omega) k (by omega)
    have hg : ∀ N, N < ch M k → gIx (.list ((xl M k).map fun p => PyData.tuple (nl p))) (.int (N : Int)) = some (.sh (.tuple (nl (pk k M N)))) := fun N hN => by
      rw [gIx_lst, List.getElem?_map, xl_get M k N hN]; rfl
    have hg0 := hg 0 (by omega)
    simp only [Int.natCast_zero] at hg0
    have hgl : gIx (.list ((xl M k).map fun p => PyData.tuple (nl p))) (.int (-1)) = some (.sh (.tuple (nl (pk k M (ch M k - 1))))) := by
      have hlen : ((xl M k).map fun p => PyData.tuple (nl p)).length = ch M k := by simp [xl_len]
      simp only [gIx, atI, ixN]
      have h1 : ¬ ((0 : Int) ≤ -1) := by omega
      have h2 : -(((xl M k).map fun p => PyData.tuple (nl p)).length : Int) ≤ -1 := by rw [hlen]; omega
      have h3 : (-1 + (((xl M k).map fun p => PyData.tuple (nl p)).length : Int)).toNat = ch M k - 1 := by rw [hlen]; omega
      rw [if_neg h1, if_pos h2, h3]
      simp only [Option.bind_some]
      rw [List.getElem?_map, xl_get M k _ (by omega)]; rfl
    have t1 := pick_behind_val M k (ch M k - 1) (by omega) (by omega) (by omega)
    rw [if_neg (by omega)] at t1
    have t2 := pick_ahead_val M k 0 (by omega) (by omega) (by omega)
    rw [if_neg (by omega)] at t2
    have hlen : ((xl M k).map fun p => PyData.tuple (nl p)).length = ch M k := by simp [xl_len]
    generalize hX : ((xl M k).map fun p => PyData.tuple (nl p)) = X at *
    refine Wp.no (ρ1 := [.fz ns, .cu x2 y2, .sh (.int i), .sh (.int M), .sh (.int k), .ow (.list X), .u, .u, .u, .u, .u, .u, .u, .u, .u, .u]) (by simp [hgl, hg0, t1, t2]) ?_
    have hn : (ch M k : Int) - 1 = ((ch M k - 1 : Nat) : Int) := by omega
    refine (Wp.rangeS (ch M k - 1) (fun _ => [.fz ns, .cu x2 y2, .sh (.int i), .sh (.int M), .sh (.int k), .ow (.list X), .u, .u, .u, .u, .u, .u, .u, .u, .u, .u]) (by simp [hlen, hn, bnd_nat (n := ch M k - 1) (by omega)]) ?_).imp ?_
    · intro N hN
      refine ⟨_, by simp; rfl, .kl ?_⟩
      · have g1 := hg N (by omega)
        have g2 := hg (N + 1) (by omega)
        rw [show ((N + 1 : Nat) : Int) = (N : Int) + 1 by omega] at g2
        obtain ⟨o, c, hx⟩ := pk_ex k M N (by omega)
        have l1 := (pk_ok k M N (by omega)).1
        have l2 := (pk_ok k M (N + 1) (by omega)).1
        have f1 := notIn_lc [.fz ns, .cu x2 y2, .sh (.int i), .sh (.int M), .sh (.int k), .ow (.list X), .sh (.int N), .u, .u, .u, .u, .u, .u, .u, .u, .u] 0 rfl hx.1 (oE (fOp gIx (oN 5) (oE (fOp gAdd (oN 6) (oE (fC (.int 1))))))) (fun a => by simp [g2]) (by omega)
        refine Wp.seq (by simp [g1, gNotIn, clean, wipeS, restS, plainS, f1]; rfl) ?_
        have f2 := notIn_lc [.fz ns, .cu x2 y2, .sh (.int i), .sh (.int M), .sh (.int k), .ow (.list X), .sh (.int N), .ow (.list [.int o]), .u, .u, .u, .u, .u, .u, .u, .u] 0 rfl hx.2 (oE (fOp gIx (oN 5) (oN 6))) (fun a => by simp [g1]) (by omega)
        refine Wp.seq (by simp [g2, gNotIn, clean, wipeS, restS, plainS, f2]; rfl) ?_
        refine Wp.seq (by simp; rfl) ?_
        have u1 := exchange_behind_val M k N o c (by omega) (by omega) hk (by omega) hx
        have u2 := pick_behind_val M k N (by omega) (by omega) (by omega)
        rw [if_pos (by omega)] at u2
        have u3 := pick_ahead_val M k (N + 1) (by omega) (by omega) (by omega)
        rw [if_pos (by omega), Nat.add_sub_cancel] at u3
        refine Wp.seq (by simp [g1, g2, u1, u2, u3]; rfl) ?_
        have z1 := gIx_lst [PyData.int (o : Int)] 0
        have z2 := gIx_lst [PyData.int (c : Int)] 0
        simp at z1 z2
        exact .one (by simp [g1, g2, z1, z2, same3 o c _ _ (show (pk k M (N + 1)).length ≤ 1000 by omega) (show (pk k M N).length ≤ 1000 by omega)]; rfl) ⟨rfl, by simp⟩
    · rintro o ρ ⟨rfl, rfl⟩
      refine ⟨rfl, x2, y2, hc, by simp⟩
  clear hc ec x y
  rintro ρ' ⟨x, y, hc, rfl⟩
  refine ⟨rfl, ?_⟩
  refine Wp.seqW (Wp.range 5 (fun _ ρ => ∃ x y, Cup x y ∧ ρ = [.fz ns, .cu x y, .u, .u, .u, .u, .u, .u, .u, .u, .u, .u, .u, .u, .u, .u]) (ρ0 := [.fz ns, .cu x y, .u, .u, .u, .u, .u, .u, .u, .u, .u, .u, .u, .u, .u, .u]) (by simp [bnd_iff]) ⟨x, y, hc, rfl⟩ ?_ ?_)
  · rintro i ρ hi ⟨x, y, hc, rfl⟩
    refine ⟨_, by simp; rfl, .kl ?_⟩
    obtain ⟨r, x1, y1, e1, r0, r1, hc⟩ := law_roll_val x y 12 hc (by omega) (by omega)
    obtain ⟨m, rfl⟩ := Int.eq_ofNat_of_zero_le r0
    obtain ⟨M, hM⟩ : ∃ M, M = m + 9 := ⟨_, rfl⟩
    have hM2 : (9 : Int) + m = M := by omega
    refine Wp.seq (by simp [e1, hM2]; rfl) ?_
    obtain ⟨r, x2, y2, e2, s0, s1, hc⟩ := law_roll_val x1 y1 ((M : Int) - 1) hc (by omega) (by omega)
    obtain ⟨q, rfl⟩ := Int.eq_ofNat_of_zero_le s0
    obtain ⟨k, hk⟩ : ∃ k, k = q + 1 := ⟨_, rfl⟩
    have hk2 : (1 : Int) + q = k := by omega
    refine Wp.seq (by simp [e2, hk2]; rfl) ?_
    have hkM : k < M := by omega
    obtain ⟨j, hj⟩ : ∃ j, k = j + 1 := ⟨q, hk⟩
    have hb : ch M k ≤ 1000000 ∧ 2 ≤ ch M k := by
      have : ∀ n, n ≤ 20 → ∀ j, j ≤ 20 → ch n j ≤ 1000000 := by decide +kernel
      refine ⟨this M (by omega) k (by omega), ?_⟩
      obtain ⟨M', rfl⟩ : ∃ M', M = M' + 1 := ⟨M - 1, by omega⟩
      rw [hj, ch]
      have := ch_pos M' j (by omega)
      have := ch_pos M' (j + 1) (by omega)
      omega
    have c1 := law_choose_size M k (by omega)
    obtain ⟨r, x3, y3, e3, s0, s2, hc⟩ := law_roll_val x2 y2 ((ch M k : Nat) - 1) hc (by omega) (by omega)
    obtain ⟨N, rfl⟩ := Int.eq_ofNat_of_zero_le s0
    refine Wp.seq (by simp [c1, e3]; rfl) ?_
    have hN : N + 1 < ch M k := by omega
    have p1 := pick_at_val M k N (by omega) (by omega) (by omega) (by omega)
    have p2 := pick_at_val M k (N + 1) (by omega) (by omega) (by omega) hN
    rw [show ((N + 1 : Nat) : Int) = (N : Int) + 1 by omega] at p2
    refine Wp.seq (by simp [p1, p2]; rfl) ?_
    obtain ⟨o, c, hx⟩ := pk_ex k M N (by omega)
    have l1 := (pk_ok k M N (by omega)).1
    have l2 := (pk_ok k M (N + 1) (by omega)).1
    have f1 := notIn_lc [.fz ns, .cu x3 y3, .sh (.int i), .sh (.int M), .sh (.int k), .u, .u, .u, .u, .u, .sh (.int N), .sh (.tuple (nl (pk k M N))), .sh (.tuple (nl (pk k M (N + 1)))), .u, .u, .u] 0 rfl hx.1 (oN 12) 
    have f1 := lcL_v (v := 15) (c := bOf (fOp (gInB true) (oN 15) (oN 12))) (f := fN 15) (fun n : Nat => PyData.int (n : Int)) (fun x => decide (x ∉ pk k M (N + 1))) (fun n : Nat => PyData.int (n : Int)) [.fz ns, .cu x3 y3, .sh (.int i), .sh (.int M), .sh (.int k), .u, .u, .u, .u, .u, .sh (.int N), .sh (.tuple (nl (pk k M N))), .sh (.tuple (nl (pk k M (N + 1)))), .u, .u, .u] rfl (pk k M N) (by omega) (fun i hi => ⟨by simp [gNotIn_nl], fun _ => .inl (by simp)⟩)
    have f2 := lcL_v (v := 15) (c := bOf (fOp (gInB true) (oN 15) (oN 11))) (f := fN 15) (fun n : Nat => PyData.int (n : Int)) (fun x => decide (x ∉ pk k M N)) (fun n : Nat => PyData.int (n : Int)) [.fz ns, .cu x3 y3, .sh (.int i), .sh (.int M), .sh (.int k), .u, .u, .u, .u, .u, .sh (.int N), .sh (.tuple (nl (pk k M N))), .sh (.tuple (nl (pk k M (N + 1)))), .u, .u, .u] rfl (pk k M (N + 1)) (by omega) (fun i hi => ⟨by simp [gNotIn_nl], fun _ => .inl (by simp)⟩)
    rw [hx.1] at f1
    rw [hx.2] at f2
    rw [show (pk k M N).map (fun n : Nat => PyData.int (n : Int)) = nl (pk k M N) from rfl] at f1
    rw [show (pk k M (N + 1)).map (fun n : Nat => PyData.int (n : Int)) = nl (pk k M (N + 1)) from rfl] at f2
    have u1 := exchange_behind_val M k N o c (by omega) (by omega) (by omega) (by omega) hx
    have u2 := pick_behind_val M k N (by omega) (by omega) (by omega)
    rw [if_pos (by omega)] at u2
    have u3 := pick_ahead_val M k (N + 1) (by omega) (by omega) (by omega)
    rw [if_pos (by omega), Nat.add_sub_cancel] at u3
    have sm := same3 o c _ _ (show (pk k M (N + 1)).length ≤ 1000 by omega) (show (pk k M N).length ≤ 1000 by omega)
    have z1 := gIx_lst [PyData.int (o : Int)] 0
    have z2 := gIx_lst [PyData.int (c : Int)] 0
    simp at z1 z2
    generalize pk k M N = A at *
    generalize pk k M (N + 1) = B at *
    refine Wp.seq (by simp [gNotIn, clean, wipeS, restS, plainS, f1, f2]; rfl) ?_
    refine Wp.no (ρ1 := [.fz ns, .cu x3 y3, .sh (.int i), .sh (.int M), .sh (.int k), .u, .u, .sh (.list [.int o]), .sh (.list [.int c]), .u, .sh (.int N), .sh (.tuple (nl A)), .sh (.tuple (nl B)), .u, .u, .u]) (by simp [l1]) ?_
    refine Wp.seq (by simp [u1, u2, u3]; rfl) ?_
    refine Wp.no (ρ1 := [.fz ns, .cu x3 y3, .sh (.int i), .sh (.int M), .sh (.int k), .u, .u, .sh (.list [.int o]), .sh (.list [.int c]), .sh (.tuple [.tuple [.int o, .int c], .tuple (nl B), .tuple (nl A)]), .sh (.int N), .sh (.tuple (nl A)), .sh (.tuple (nl B)), .u, .u, .u]) (by simp [z1, z2, sm]) ?_
    -- the first, the last
    have q1 := pick_at_val M k 0 (by omega) (by omega) (by omega) (by omega)
    simp only [Int.natCast_zero] at q1
    rw [pk_first k M (by omega)] at q1
    have q2 := pick_at_val M k (ch M k - 1) (by omega) (by omega) (by omega) (by omega)
    rw [show ((ch M k - 1 : Nat) : Int) = (ch M k : Nat) - 1 by omega] at q2
    have hlast : pk k M (ch M k - 1) = List.range' 1 j ++ [M] := by rw [hj]; exact pk_last j M (by omega)
    rw [hlast] at q2
    refine Wp.seq (by simp [q1, q2, c1]; rfl) ?_
    have hr : ∀ q : Nat, q ≤ 100 → gRg true 1 ((q : Int) + 1) = some (.sh (.tuple (nl (List.range' 1 q)))) := fun q hq => by
      have e1 : ((q : Int) + 1 - 1).toNat = q := by omega
      have e2 : ((q : Int) + 1).natAbs < 4611686018427387904 := by omega
      simp [gRg, e1, e2, rangeD_one]; omega
    have r1 := hr k (by omega)
    have r2 := hr j (by omega)
    rw [show (j : Int) + 1 = (k : Int) by omega] at r2
    have a1 := gAddT (nl (List.range' 1 j)) [.int (M : Int)] (by simp; omega)
    rw [show nl (List.range' 1 j) ++ [PyData.int (M : Int)] = nl (List.range' 1 j ++ [M]) by simp [nl_app]] at a1
    have sm2 := same2 (List.range' 1 k) (List.range' 1 j ++ [M]) (by simp; omega) (by simp; omega)
    refine Wp.no (ρ1 := [.fz ns, .cu x3 y3, .sh (.int i), .sh (.int M), .sh (.int k), .u, .u, .sh (.list [.int o]), .sh (.list [.int c]), .sh (.tuple [.tuple [.int o, .int c], .tuple (nl B), .tuple (nl A)]), .sh (.int N), .sh (.tuple (nl A)), .sh (.tuple (nl B)), .sh (.tuple (nl (List.range' 1 k))), .sh (.tuple (nl (List.range' 1 j ++ [M]))), .u]) (by simp [r1, r2, a1, sm2]) ?_
    -- where the greatest comes in
    have c2 := law_choose_size (M - 1) k (by omega)
    rw [show ((M - 1 : Nat) : Int) = (M : Int) - 1 by omega] at c2
    have hp := ch_pos (M - 1) k (by omega)
    have hle := ch_up (M - 1) k
    rw [show M - 1 + 1 = M by omega] at hle
    have hlt : ch (M - 1) k < ch M k := by
      obtain ⟨M', rfl⟩ : ∃ M', M = M' + 1 := ⟨M - 1, by omega⟩
      rw [hj, Nat.add_sub_cancel, ch]
      have := ch_pos M' j (by omega)
      omega
    refine Wp.seq (ρ1 := [.fz ns, .cu x3 y3, .sh (.int i), .sh (.int M), .sh (.int k), .u, .u, .sh (.list [.int o]), .sh (.list [.int c]), .sh (.tuple [.tuple [.int o, .int c], .tuple (nl B), .tuple (nl A)]), .sh (.int ((ch (M - 1) k - 1 : Nat) : Int)), .sh (.tuple (nl A)), .sh (.tuple (nl B)), .sh (.tuple (nl (List.range' 1 k))), .sh (.tuple (nl (List.range' 1 j ++ [M]))), .u]) (by simp [c2]; omega) ?_
    obtain ⟨X, hX⟩ : ∃ X, X = ch (M - 1) k - 1 := ⟨_, rfl⟩
    rw [← hX]
    have p3 := pick_at_val M k X (by omega) (by omega) (by omega) (by omega)
    obtain ⟨o2, c', hx2⟩ := pk_ex k M X (by omega)
    have hlow : pk k M X = pk k (M - 1) X := by
      have := pk_down k (M - 1) X (by omega)
      rw [show M - 1 + 1 = M by omega] at this
      exact this
    have hM1 : M ∉ pk k M X := fun z => by
      rw [hlow] at z
      have := (pk_ok k (M - 1) X (by omega)).2.1 M z
      omega
    have hM3 : M ∈ pk k M (X + 1) := by
      have : lv M (j + 1) (X + 1) = M := lv_is (by omega) (Nat.le_refl _) (by rw [← hj]; omega) (by rw [← hj]; omega)
      rw [hj, pk, this]
      simp
    have hcM : c' = M := by
      have : M ∈ (pk k M (X + 1)).filter fun x => decide (x ∉ pk k M X) := by rw [List.mem_filter]; exact ⟨hM3, by simpa using hM1⟩
      rw [hx2.2] at this
      exact (List.mem_singleton.mp this).symm
    rw [hcM] at hx2
    have u4 := exchange_behind_val M k X o2 M (by omega) (by omega) (by omega) (by omega) hx2
    have gi := gIn_nl (pk k M X) M
    have g1 := gIx_tup [PyData.int (o2 : Int), .int (M : Int)] 1
    simp at g1
    refine .one (ρ1 := [.fz ns, .cu x3 y3, .sh (.int i), .sh (.int M), .sh (.int k), .u, .u, .sh (.list [.int o]), .sh (.list [.int c]), .sh (.tuple [.tuple [.int o, .int c], .tuple (nl B), .tuple (nl A)]), .sh (.int (X : Int)), .sh (.tuple (nl A)), .sh (.tuple (nl B)), .sh (.tuple (nl (List.range' 1 k))), .sh (.tuple (nl (List.range' 1 j ++ [M]))), .u]) (by simp [p3, u4, Z.gIn, gi, hM1, g1]) ⟨rfl, x3, y3, hc, by simp⟩
  · rintro ρ' ⟨x, y, hc, rfl⟩
    exact ⟨rfl, .fin (by simp)⟩
end P
end
section
namespace P
open PySem PySem.Spec L2 Z
def topS (i : Nat) : Stmt := PySem.Challenge.pw_oneturn_k22_whole_exchanges_of_the_list.main.body.getD i (.Pass ⟨0, 0, 0, 0⟩)
abbrev s_fits_whole : Stmt := topS 5
theorem sc_fits_whole : FnScope ["value", "low", "high"] ["value", "low", "high"] (defScope s_fits_whole) := ⟨rfl, rfl, rfl, by decide +kernel, rfl, by decide +kernel, by decide +kernel⟩
abbrev s_is_tuple_of : Stmt := topS 6
theorem sc_is_tuple_of : FnScope ["value", "least", "most"] ["value", "least", "most"] (defScope s_is_tuple_of) := ⟨rfl, rfl, rfl, by decide +kernel, rfl, by decide +kernel, by decide +kernel⟩
abbrev s_fits_pick : Stmt := topS 9
theorem sc_fits_pick : FnScope ["many", "value", "one", "other"] ["many", "value"] (defScope s_fits_pick) := ⟨rfl, rfl, rfl, by decide +kernel, rfl, by decide +kernel, by decide +kernel⟩
abbrev s_need_many : Stmt := topS 10
theorem sc_need_many : FnScope ["many"] ["many"] (defScope s_need_many) := ⟨rfl, rfl, rfl, by decide +kernel, rfl, by decide +kernel, by decide +kernel⟩
abbrev s_need_size : Stmt := topS 11
theorem sc_need_size : FnScope ["many", "size"] ["many", "size"] (defScope s_need_size) := ⟨rfl, rfl, rfl, by decide +kernel, rfl, by decide +kernel, by decide +kernel⟩
abbrev s_need_pick : Stmt := topS 12
theorem sc_need_pick : FnScope ["many", "pick"] ["many", "pick"] (defScope s_need_pick) := ⟨rfl, rfl, rfl, by decide +kernel, rfl, by decide +kernel, by decide +kernel⟩
abbrev s_choose : Stmt := topS 14
theorem sc_choose : FnScope ["many", "size", "found", "one"] ["many", "size"] (defScope s_choose) := ⟨rfl, rfl, rfl, by decide +kernel, rfl, by decide +kernel, by decide +kernel⟩
abbrev s_need_number : Stmt := topS 13
theorem sc_need_number : FnScope ["many", "size", "number", "less"] ["many", "size", "number", "less"] (defScope s_need_number) := ⟨rfl, rfl, rfl, by decide +kernel, rfl, by decide +kernel, by decide +kernel⟩
abbrev s_number_in : Stmt := topS 15
theorem sc_number_in : FnScope ["pick", "found", "at", "one"] ["pick"] (defScope s_number_in) := ⟨rfl, rfl, rfl, by decide +kernel, rfl, by decide +kernel, by decide +kernel⟩
abbrev s_pick_in : Stmt := topS 16
theorem sc_pick_in : FnScope ["many", "size", "number", "found", "left"] ["many", "size", "number"] (defScope s_pick_in) := ⟨rfl, rfl, rfl, by decide +kernel, rfl, by decide +kernel, by decide +kernel⟩
abbrev s_exchange_in : Stmt := topS 17
theorem sc_exchange_in : FnScope ["one", "other", "item"] ["one", "other"] (defScope s_exchange_in) := ⟨rfl, rfl, rfl, by decide +kernel, rfl, by decide +kernel, by decide +kernel⟩
abbrev s_pick_at : Stmt := topS 18
theorem sc_pick_at : FnScope ["many", "size", "number"] ["many", "size", "number"] (defScope s_pick_at) := ⟨rfl, rfl, rfl, by decide +kernel, rfl, by decide +kernel, by decide +kernel⟩
abbrev s_exchange_behind : Stmt := topS 19
theorem sc_exchange_behind : FnScope ["many", "size", "number"] ["many", "size", "number"] (defScope s_exchange_behind) := ⟨rfl, rfl, rfl, by decide +kernel, rfl, by decide +kernel, by decide +kernel⟩
abbrev s_pick_behind : Stmt := topS 20
theorem sc_pick_behind : FnScope ["many", "pick", "number"] ["many", "pick"] (defScope s_pick_behind) := ⟨rfl, rfl, rfl, by decide +kernel, rfl, by decide +kernel, by decide +kernel⟩
abbrev s_pick_ahead : Stmt := topS 21
theorem sc_pick_ahead : FnScope ["many", "pick", "number"] ["many", "pick"] (defScope s_pick_ahead) := ⟨rfl, rfl, rfl, by decide +kernel, rfl, by decide +kernel, by decide +kernel⟩
abbrev s__law_cup : Stmt := topS 23
theorem sc__law_cup : FnScope ["script", "cell"] ["script"] (defScope s__law_cup) := ⟨rfl, rfl, rfl, by decide +kernel, rfl, by decide +kernel, by decide +kernel⟩
abbrev s__law_roll : Stmt := topS 24
theorem sc__law_roll : FnScope ["cup", "many", "found", "deep"] ["cup", "many"] (defScope s__law_roll) := ⟨rfl, rfl, rfl, by decide +kernel, rfl, by decide +kernel, by decide +kernel⟩
abbrev s__law_same : Stmt := topS 26
theorem sc__law_same : FnScope ["told", "due", "at"] ["told", "due"] (defScope s__law_same) := ⟨rfl, rfl, rfl, by decide +kernel, rfl, by decide +kernel, by decide +kernel⟩
abbrev s__law_choose : Stmt := topS 27
theorem sc__law_choose : FnScope ["many", "size", "row", "turn", "one", "other"] ["many", "size"] (defScope s__law_choose) := ⟨rfl, rfl, rfl, by decide +kernel, rfl, by decide +kernel, by decide +kernel⟩
abbrev s__law_list : Stmt := topS 30
theorem sc__law_list : FnScope ["many", "size", "pick"] ["many", "size"] (defScope s__law_list) := ⟨rfl, rfl, rfl, by decide +kernel, rfl, by decide +kernel, by decide +kernel⟩
abbrev s__law_rows_right : Stmt := topS 31
theorem sc__law_rows_right : FnScope [] [] (defScope s__law_rows_right) := ⟨rfl, rfl, rfl, by decide +kernel, rfl, by decide +kernel, by decide +kernel⟩
abbrev s_law : Stmt := topS 32
theorem sc_law : FnScope ["script", "cup", "turn", "many", "size", "due", "at", "out", "come", "told", "number", "one", "other", "first", "last", "item"] ["script"] (defScope s_law) := ⟨rfl, rfl, rfl, by decide +kernel, rfl, by decide +kernel, by decide +kernel⟩
/-- what the top has left -/
structure Tx (K : PySem.W.Frag) (mg : Str → Option Value) where
  f_fits_whole : Addr
  d_fits_whole : FuncData
  D_fits_whole : Df K mg "fits_whole" s_fits_whole ["value", "low", "high"] f_fits_whole d_fits_whole
  f_is_tuple_of : Addr
  d_is_tuple_of : FuncData
  D_is_tuple_of : Df K mg "is_tuple_of" s_is_tuple_of ["value", "least", "most"] f_is_tuple_of d_is_tuple_of
  f_fits_pick : Addr
  d_fits_pick : FuncData
  D_fits_pick : Df K mg "fits_pick" s_fits_pick ["many", "value"] f_fits_pick d_fits_pick
  f_need_many : Addr
  d_need_many : FuncData
  D_need_many : Df K mg "need_many" s_need_many ["many"] f_need_many d_need_many
  f_need_size : Addr
  d_need_size : FuncData
  D_need_size : Df K mg "need_size" s_need_size ["many", "size"] f_need_size d_need_size
  f_need_pick : Addr
  d_need_pick : FuncData
  D_need_pick : Df K mg "need_pick" s_need_pick ["many", "pick"] f_need_pick d_need_pick
  f_choose : Addr
  d_choose : FuncData
  D_choose : Df K mg "choose" s_choose ["many", "size"] f_choose d_choose
  f_need_number : Addr
  d_need_number : FuncData
  D_need_number : Df K mg "need_number" s_need_number ["many", "size", "number", "less"] f_need_number d_need_number
  f_number_in : Addr
  d_number_in : FuncData
  D_number_in : Df K mg "number_in" s_number_in ["pick"] f_number_in d_number_in
  f_pick_in : Addr
  d_pick_in : FuncData
  D_pick_in : Df K mg "pick_in" s_pick_in ["many", "size", "number"] f_pick_in d_pick_in
  f_exchange_in : Addr
  d_exchange_in : FuncData
  D_exchange_in : Df K mg "exchange_in" s_exchange_in ["one", "other"] f_exchange_in d_exchange_in
  f_pick_at : Addr
  d_pick_at : FuncData
  D_pick_at : Df K mg "pick_at" s_pick_at ["many", "size", "number"] f_pick_at d_pick_at
  f_exchange_behind : Addr
  d_exchange_behind : FuncData
  D_exchange_behind : Df K mg "exchange_behind" s_exchange_behind ["many", "size", "number"] f_exchange_behind d_exchange_behind
  f_pick_behind : Addr
  d_pick_behind : FuncData
  D_pick_behind : Df K mg "pick_behind" s_pick_behind ["many", "pick"] f_pick_behind d_pick_behind
  f_pick_ahead : Addr
  d_pick_ahead : FuncData
  D_pick_ahead : Df K mg "pick_ahead" s_pick_ahead ["many", "pick"] f_pick_ahead d_pick_ahead
  f__law_cup : Addr
  d__law_cup : FuncData
  D__law_cup : Df K mg "_law_cup" s__law_cup ["script"] f__law_cup d__law_cup
  f__law_roll : Addr
  d__law_roll : FuncData
  D__law_roll : Df K mg "_law_roll" s__law_roll ["cup", "many"] f__law_roll d__law_roll
  f__law_same : Addr
  d__law_same : FuncData
  D__law_same : Df K mg "_law_same" s__law_same ["told", "due"] f__law_same d__law_same
  f__law_choose : Addr
  d__law_choose : FuncData
  D__law_choose : Df K mg "_law_choose" s__law_choose ["many", "size"] f__law_choose d__law_choose
  f__law_list : Addr
  d__law_list : FuncData
  D__law_list : Df K mg "_law_list" s__law_list ["many", "size"] f__law_list d__law_list
  f__law_rows_right : Addr
  d__law_rows_right : FuncData
  D__law_rows_right : Df K mg "_law_rows_right" s__law_rows_right [] f__law_rows_right d__law_rows_right
  f_law : Addr
  d_law : FuncData
  D_law : Df K mg "law" s_law ["script"] f_law d_law
  z_abs : mg "abs" = none
  z_all : mg "all" = none
  z_bool : mg "bool" = none
  z_enumerate : mg "enumerate" = none
  z_int : mg "int" = none
  z_isinstance : mg "isinstance" = none
  z_len : mg "len" = none
  z_list : mg "list" = none
  z_range : mg "range" = none
  z_str : mg "str" = none
  z_tuple : mg "tuple" = none
  z_zip : mg "zip" = none
  t_SOME : Tok
  g_SOME : mg "SOME" = some (.int 20 t_SOME)
section
variable {P : Program} {w : World} {K : PySem.W.Frag} {mg : Str → Option Value} {base : Heap}
theorem ok_fits_whole (T : Tx K mg) : FnOk P w K mg base (L2.CX P w) 1 T.f_fits_whole T.d_fits_whole ["value", "low", "high"] (spF K mg 3 m_fits_whole) :=
  fn_okF' (st := s_fits_whole) (N := ["value", "low", "high"]) (ps := ["value", "low", "high"]) (k := 0) (g := b_fits_whole) T.D_fits_whole.d sc_fits_whole rfl (hide_eq _) fun cdv A outer s H E c =>
      st_one (st_ret (ev_and c (ev_isi (T := "int") c (by decide) (by rfl) T.z_isinstance (by rfl) T.z_int (by decide +kernel) (op_name 0)) (ev_and c (ev_not c (op_e (ev_isi (T := "bool") c (by decide) (by rfl) T.z_isinstance (by rfl) T.z_bool (by decide +kernel) (op_name 0)))) (ev_one (ev_chain or_leZ or_leZ ok_le ok_le (op_name 1) (op_name 0) (op_name 2))))))
theorem ok_is_tuple_of (T : Tx K mg) : FnOk P w K mg base (L2.CX P w) 1 T.f_is_tuple_of T.d_is_tuple_of ["value", "least", "most"] (spF K mg 3 m_is_tuple_of) :=
  fn_okF' (st := s_is_tuple_of) (N := ["value", "least", "most"]) (ps := ["value", "least", "most"]) (k := 0) (g := b_is_tuple_of) T.D_is_tuple_of.d sc_is_tuple_of rfl (hide_eq _) fun cdv A outer s H E c =>
      st_one (st_ret (ev_and c (ev_isi (T := "tuple") c (by decide) (by rfl) T.z_isinstance (by rfl) T.z_tuple (by decide +kernel) (op_name 0)) (ev_one (ev_chain or_leZ or_leZ ok_le ok_le (op_name 1) (op_e (ev_callB c cr_lenZ ok_len (by rfl) T.z_len (by decide +kernel) (th_cons (op_name 0) (th_nil)))) (op_name 2)))))
theorem ok_fits_pick (T : Tx K mg) : FnOk P w K mg base (L2.CX P w) 2 T.f_fits_pick T.d_fits_pick ["many", "value"] (spF K mg 2 m_fits_pick) :=
  fn_okF' (st := s_fits_pick) (N := ["many", "value", "one", "other"]) (ps := ["many", "value"]) (k := 1) (g := b_fits_pick) T.D_fits_pick.d sc_fits_pick rfl (hide_eq _) fun cdv A outer s H E c =>
      st_cons (st_if (bt_bw (bw_or (bt_not (bt_truth c (op_e (ev_call c (ok_is_tuple_of T) (by decide) (by rfl) T.D_is_tuple_of.g T.D_is_tuple_of.d.kp T.D_is_tuple_of.b (ta_cons (ev_name 1) (ta_cons (ev_int) (ta_cons (ev_name 0) (ta_nil)))) (hlen := aCons_len (aCons_len (aCons_len (aNil_len)))))))) (bw_or1 (bt_not (bt_truth c (op_e (ev_callB c (cr_all c.calm) ok_all (by rfl) T.z_all (by decide +kernel) (th_cons (op_e (ev_lc (own := [("one", 2)]) c (by decide) (it_seq c (ev_name 1)) (blkOk_by (by rfl)) (fun s1 H1 C1 l1 p1 => gt_name (i := 2) (c.blk s1 H1 _ p1).nd) (fun s1 H1 C1 l1 p1 => pts_none) (fun s1 H1 C1 l1 p1 => ev_call (c.blk s1 H1 _ p1) (ok_fits_whole T) (by decide) (by rfl) T.D_fits_whole.g T.D_fits_whole.d.kp T.D_fits_whole.b (ta_cons (ev_name 2) (ta_cons (ev_int) (ta_cons (ev_name 0) (ta_nil)))) (hlen := aCons_len (aCons_len (aCons_len (aNil_len))))))) (th_nil))))))))) (st_one (st_ret (ev_bl))) (st_nil))
      (st_one (st_ret (ev_callB c (cr_all c.calm) ok_all (by rfl) T.z_all (by decide +kernel) (th_cons (op_e (ev_lc (own := [("one", 2), ("other", 3)]) c (by decide) (it_zip c (by rfl) T.z_zip (ta_cons (ev_name 1) (ta_cons (ev_slice c (op_name 1) (tn_some (op_e (ev_int))) (tn_none)) (ta_nil)))) (blkOk_by (by rfl)) (fun s1 H1 C1 l1 p1 => gt_tup (m := 2) (c.blk s1 H1 _ p1) (gts_cons (gt_name (i := 2) (c.blk s1 H1 _ p1).nd) (gts_cons (gt_name (i := 3) (c.blk s1 H1 _ p1).nd) (gts_nil)))) (fun s1 H1 C1 l1 p1 => pts_none) (fun s1 H1 C1 l1 p1 => ev_cmp or_ltZ ok_lt (op_name 2) (op_name 3) (nomark _)))) (th_nil)))))
theorem ok_need_many (T : Tx K mg) : FnOk P w K mg base (L2.CX P w) 2 T.f_need_many T.d_need_many ["many"] (spF K mg 1 m_need_many) :=
  fn_okF' (st := s_need_many) (N := ["many"]) (ps := ["many"]) (k := 1) (g := b_need_many) T.D_need_many.d sc_need_many rfl (hide_eq _) fun cdv A outer s H E c =>
      st_one (st_if (bt_not (bt_truth c (op_e (ev_call c (ok_fits_whole T) (by decide) (by rfl) T.D_fits_whole.g T.D_fits_whole.d.kp T.D_fits_whole.b (ta_cons (ev_name 0) (ta_cons (ev_int) (ta_cons (ev_glob c (by rfl) T.g_SOME) (ta_nil)))) (hlen := aCons_len (aCons_len (aCons_len (aNil_len)))))))) (st_one (st_never)) (st_nil))
theorem ok_need_size (T : Tx K mg) : FnOk P w K mg base (L2.CX P w) 3 T.f_need_size T.d_need_size ["many", "size"] (spF K mg 2 m_need_size) :=
  fn_okF' (st := s_need_size) (N := ["many", "size"]) (ps := ["many", "size"]) (k := 2) (g := b_need_size) T.D_need_size.d sc_need_size rfl (hide_eq _) fun cdv A outer s H E c =>
      st_cons (st_expr (ev_call c (ok_need_many T) (by decide) (by rfl) T.D_need_many.g T.D_need_many.d.kp T.D_need_many.b (ta_cons (ev_name 0) (ta_nil)) (hlen := aCons_len (aNil_len))))
      (st_one (st_if (bt_not (bt_truth c (op_e (ev_call c (ok_fits_whole T) (by decide) (by rfl) T.D_fits_whole.g T.D_fits_whole.d.kp T.D_fits_whole.b (ta_cons (ev_name 1) (ta_cons (ev_int) (ta_cons (ev_name 0) (ta_nil)))) (hlen := aCons_len (aCons_len (aCons_len (aNil_len)))))))) (st_one (st_never)) (st_nil)))
theorem ok_need_pick (T : Tx K mg) : FnOk P w K mg base (L2.CX P w) 3 T.f_need_pick T.d_need_pick ["many", "pick"] (spF K mg 2 m_need_pick) :=
  fn_okF' (st := s_need_pick) (N := ["many", "pick"]) (ps := ["many", "pick"]) (k := 2) (g := b_need_pick) T.D_need_pick.d sc_need_pick rfl (hide_eq _) fun cdv A outer s H E c =>
      st_cons (st_expr (ev_call c (ok_need_many T) (by decide) (by rfl) T.D_need_many.g T.D_need_many.d.kp T.D_need_many.b (ta_cons (ev_name 0) (ta_nil)) (hlen := aCons_len (aNil_len))))
      (st_one (st_if (bt_not (bt_truth c (op_e (ev_call c (ok_fits_pick T) (by decide) (by rfl) T.D_fits_pick.g T.D_fits_pick.d.kp T.D_fits_pick.b (ta_cons (ev_name 0) (ta_cons (ev_name 1) (ta_nil))) (hlen := aCons_len (aCons_len (aNil_len))))))) (st_one (st_never)) (st_nil)))
theorem ok_choose (T : Tx K mg) : FnOk P w K mg base (L2.CX P w) 1 T.f_choose T.d_choose ["many", "size"] (spF K mg 2 m_choose) :=
  fn_okF' (st := s_choose) (N := ["many", "size", "found", "one"]) (ps := ["many", "size"]) (k := 0) (g := b_choose) T.D_choose.d sc_choose rfl (hide_eq _) fun cdv A outer s H E c =>
      st_cons (st_set (i := 2) c (ev_int))
      (st_cons (st_for c (passes_of rfl) (it_range1 c (by rfl) T.z_range (th_cons (op_name 1) (th_nil))) (gt_name (i := 3) c.nd) (st_kls [3] (st_one (st_set (i := 2) c (ev_op op_fdiv ok_div (op_e (ev_op or_mulZ ok_mul (op_name 2) (op_e (ev_op op_sub ok_sub (op_name 0) (op_name 3))))) (op_e (ev_op or_addZ ok_add (op_name 3) (op_e (ev_int)))))))))
      (st_one (st_ret (ev_if (bt_cmp or_leZ ok_le (op_name 1) (op_name 0) (nomark _)) (ev_move 2) (ev_int)))))
theorem ok_need_number (T : Tx K mg) : FnOk P w K mg base (L2.CX P w) 4 T.f_need_number T.d_need_number ["many", "size", "number", "less"] (spF K mg 4 m_need_number) :=
  fn_okF' (st := s_need_number) (N := ["many", "size", "number", "less"]) (ps := ["many", "size", "number", "less"]) (k := 3) (g := b_need_number) T.D_need_number.d sc_need_number rfl (hide_eq _) fun cdv A outer s H E c =>
      st_cons (st_expr (ev_call c (ok_need_size T) (by decide) (by rfl) T.D_need_size.g T.D_need_size.d.kp T.D_need_size.b (ta_cons (ev_name 0) (ta_cons (ev_name 1) (ta_nil))) (hlen := aCons_len (aCons_len (aNil_len)))))
      (st_one (st_if (bt_not (bt_truth c (op_e (ev_call c (ok_fits_whole T) (by decide) (by rfl) T.D_fits_whole.g T.D_fits_whole.d.kp T.D_fits_whole.b (ta_cons (ev_name 2) (ta_cons (ev_int) (ta_cons (ev_op op_sub ok_sub (op_e (ev_op op_sub ok_sub (op_e (ev_call c (ok_choose T) (by decide) (by rfl) T.D_choose.g T.D_choose.d.kp T.D_choose.b (ta_cons (ev_name 0) (ta_cons (ev_name 1) (ta_nil))) (hlen := aCons_len (aCons_len (aNil_len))))) (op_e (ev_int)))) (op_name 3)) (ta_nil)))) (hlen := aCons_len (aCons_len (aCons_len (aNil_len)))))))) (st_one (st_never)) (st_nil)))
theorem ok_number_in (T : Tx K mg) : FnOk P w K mg base (L2.CX P w) 2 T.f_number_in T.d_number_in ["pick"] (spF K mg 1 m_number_in) :=
  fn_okF' (st := s_number_in) (N := ["pick", "found", "at", "one"]) (ps := ["pick"]) (k := 1) (g := b_number_in) T.D_number_in.d sc_number_in rfl (hide_eq _) fun cdv A outer s H E c =>
      st_cons (st_set (i := 1) c (ev_int))
      (st_cons (st_for c (passes_of rfl) (it_enum c (by rfl) T.z_enumerate (ta_cons (ev_name 0) (ta_nil))) (gt_tup (m := 2) c (gts_cons (gt_name (i := 2) c.nd) (gts_cons (gt_name (i := 3) c.nd) (gts_nil)))) (st_kls [2, 3] (st_one (st_set (i := 1) c (ev_op op_sub ok_sub (op_e (ev_op op_sub ok_sub (op_e (ev_call c (ok_choose T) (by decide) (by rfl) T.D_choose.g T.D_choose.d.kp T.D_choose.b (ta_cons (ev_name 3) (ta_cons (ev_op or_addZ ok_add (op_name 2) (op_e (ev_int))) (ta_nil))) (hlen := aCons_len (aCons_len (aNil_len))))) (op_e (ev_int)))) (op_name 1))))))
      (st_one (st_ret (ev_move 1))))
theorem ok_pick_in (T : Tx K mg) : FnOk P w K mg base (L2.CX P w) 2 T.f_pick_in T.d_pick_in ["many", "size", "number"] (spF K mg 3 m_pick_in) :=
  fn_okF' (st := s_pick_in) (N := ["many", "size", "number", "found", "left"]) (ps := ["many", "size", "number"]) (k := 1) (g := b_pick_in) T.D_pick_in.d sc_pick_in rfl (hide_eq _) fun cdv A outer s H E c =>
      st_cons (st_set (i := 3) c (ev_tup (ta_nil)))
      (st_cons (st_kl [0, 2] (st_for c (passes_of rfl) (it_range3 c (by rfl) T.z_range (th_cons (op_name 1) (th_cons (op_e (ev_int)) (th_cons (op_e (ev_neg (op_e (ev_int)))) (th_nil))))) (gt_name (i := 4) c.nd) (st_kls [4] (st_cons (st_while LIM (passes_of rfl) (bt_cmp or_gtZ ok_gt (op_e (ev_call c (ok_choose T) (by decide) (by rfl) T.D_choose.g T.D_choose.d.kp T.D_choose.b (ta_cons (ev_op op_sub ok_sub (op_name 0) (op_e (ev_int))) (ta_cons (ev_name 4) (ta_nil))) (hlen := aCons_len (aCons_len (aNil_len))))) (op_name 2) (nomark _)) (st_one (st_set (i := 0) c (ev_op op_sub ok_sub (op_name 0) (op_e (ev_int))))))
      (st_cons (st_set (i := 3) c (ev_op or_addZ ok_add (op_e (ev_tup (ta_cons (ev_name 0) (ta_nil)))) (op_name 3)))
      (st_one (st_set (i := 2) c (ev_op op_sub ok_sub (op_e (ev_op op_sub ok_sub (op_e (ev_call c (ok_choose T) (by decide) (by rfl) T.D_choose.g T.D_choose.d.kp T.D_choose.b (ta_cons (ev_name 0) (ta_cons (ev_name 4) (ta_nil))) (hlen := aCons_len (aCons_len (aNil_len))))) (op_e (ev_int)))) (op_name 2)))))))))
      (st_one (st_ret (ev_move 3))))
theorem ok_exchange_in (T : Tx K mg) : FnOk P w K mg base (L2.CX P w) 1 T.f_exchange_in T.d_exchange_in ["one", "other"] (spF K mg 2 m_exchange_in) :=
  fn_okF' (st := s_exchange_in) (N := ["one", "other", "item"]) (ps := ["one", "other"]) (k := 0) (g := b_exchange_in) T.D_exchange_in.d sc_exchange_in rfl (hide_eq _) fun cdv A outer s H E c =>
      st_one (st_ret (ev_tup (ta_cons (ev_ix ix_seq ok_ix (op_e (ev_lc (own := [("item", 2)]) c (by decide) (it_seq c (ev_name 0)) (blkOk_by (by rfl)) (fun s1 H1 C1 l1 p1 => gt_name (i := 2) (c.blk s1 H1 _ p1).nd) (fun s1 H1 C1 l1 p1 => pts_one (bt_cmp (or_notInP (c.blk s1 H1 _ p1).room.units) ok_inB (op_name 2) (op_name 1) (by rfl))) (fun s1 H1 C1 l1 p1 => ev_name 2))) (op_e (ev_int)) (fun _ _ => rfl)) (ta_cons (ev_ix ix_seq ok_ix (op_e (ev_lc (own := [("item", 2)]) c (by decide) (it_seq c (ev_name 1)) (blkOk_by (by rfl)) (fun s1 H1 C1 l1 p1 => gt_name (i := 2) (c.blk s1 H1 _ p1).nd) (fun s1 H1 C1 l1 p1 => pts_one (bt_cmp (or_notInP (c.blk s1 H1 _ p1).room.units) ok_inB (op_name 2) (op_name 0) (by rfl))) (fun s1 H1 C1 l1 p1 => ev_name 2))) (op_e (ev_int)) (fun _ _ => rfl)) (ta_nil)))))
theorem ok_pick_at (T : Tx K mg) : FnOk P w K mg base (L2.CX P w) 5 T.f_pick_at T.d_pick_at ["many", "size", "number"] (spF K mg 3 m_pick_at) :=
  fn_okF' (st := s_pick_at) (N := ["many", "size", "number"]) (ps := ["many", "size", "number"]) (k := 4) (g := b_pick_at) T.D_pick_at.d sc_pick_at rfl (hide_eq _) fun cdv A outer s H E c =>
      st_cons (st_expr (ev_call c (ok_need_number T) (by decide) (by rfl) T.D_need_number.g T.D_need_number.d.kp T.D_need_number.b (ta_cons (ev_name 0) (ta_cons (ev_name 1) (ta_cons (ev_name 2) (ta_cons (ev_int) (ta_nil))))) (hlen := aCons_len (aCons_len (aCons_len (aCons_len (aNil_len)))))))
      (st_one (st_ret (ev_call c (ok_pick_in T) (by decide) (by rfl) T.D_pick_in.g T.D_pick_in.d.kp T.D_pick_in.b (ta_cons (ev_name 0) (ta_cons (ev_name 1) (ta_cons (ev_name 2) (ta_nil)))) (hlen := aCons_len (aCons_len (aCons_len (aNil_len)))))))
theorem ok_exchange_behind (T : Tx K mg) : FnOk P w K mg base (L2.CX P w) 5 T.f_exchange_behind T.d_exchange_behind ["many", "size", "number"] (spF K mg 3 m_exchange_behind) :=
  fn_okF' (st := s_exchange_behind) (N := ["many", "size", "number"]) (ps := ["many", "size", "number"]) (k := 4) (g := b_exchange_behind) T.D_exchange_behind.d sc_exchange_behind rfl (hide_eq _) fun cdv A outer s H E c =>
      st_cons (st_expr (ev_call c (ok_need_number T) (by decide) (by rfl) T.D_need_number.g T.D_need_number.d.kp T.D_need_number.b (ta_cons (ev_name 0) (ta_cons (ev_name 1) (ta_cons (ev_name 2) (ta_cons (ev_int) (ta_nil))))) (hlen := aCons_len (aCons_len (aCons_len (aCons_len (aNil_len)))))))
      (st_one (st_ret (ev_call c (ok_exchange_in T) (by decide) (by rfl) T.D_exchange_in.g T.D_exchange_in.d.kp T.D_exchange_in.b (ta_cons (ev_call c (ok_pick_in T) (by decide) (by rfl) T.D_pick_in.g T.D_pick_in.d.kp T.D_pick_in.b (ta_cons (ev_name 0) (ta_cons (ev_name 1) (ta_cons (ev_name 2) (ta_nil)))) (hlen := aCons_len (aCons_len (aCons_len (aNil_len))))) (ta_cons (ev_call c (ok_pick_in T) (by decide) (by rfl) T.D_pick_in.g T.D_pick_in.d.kp T.D_pick_in.b (ta_cons (ev_name 0) (ta_cons (ev_name 1) (ta_cons (ev_op or_addZ ok_add (op_name 2) (op_e (ev_int))) (ta_nil)))) (hlen := aCons_len (aCons_len (aCons_len (aNil_len))))) (ta_nil))) (hlen := aCons_len (aCons_len (aNil_len))))))
theorem ok_pick_behind (T : Tx K mg) : FnOk P w K mg base (L2.CX P w) 4 T.f_pick_behind T.d_pick_behind ["many", "pick"] (spF K mg 2 m_pick_behind) :=
  fn_okF' (st := s_pick_behind) (N := ["many", "pick", "number"]) (ps := ["many", "pick"]) (k := 3) (g := b_pick_behind) T.D_pick_behind.d sc_pick_behind rfl (hide_eq _) fun cdv A outer s H E c =>
      st_cons (st_expr (ev_call c (ok_need_pick T) (by decide) (by rfl) T.D_need_pick.g T.D_need_pick.d.kp T.D_need_pick.b (ta_cons (ev_name 0) (ta_cons (ev_name 1) (ta_nil))) (hlen := aCons_len (aCons_len (aNil_len)))))
      (st_cons (st_set (i := 2) c (ev_op or_addZ ok_add (op_e (ev_call c (ok_number_in T) (by decide) (by rfl) T.D_number_in.g T.D_number_in.d.kp T.D_number_in.b (ta_cons (ev_name 1) (ta_nil)) (hlen := aCons_len (aNil_len)))) (op_e (ev_int))))
      (st_one (st_ret (ev_if (bt_cmp or_ltZ ok_lt (op_name 2) (op_e (ev_call c (ok_choose T) (by decide) (by rfl) T.D_choose.g T.D_choose.d.kp T.D_choose.b (ta_cons (ev_name 0) (ta_cons (ev_callB c cr_lenZ ok_len (by rfl) T.z_len (by decide +kernel) (th_cons (op_name 1) (th_nil))) (ta_nil))) (hlen := aCons_len (aCons_len (aNil_len))))) (nomark _)) (ev_call c (ok_pick_in T) (by decide) (by rfl) T.D_pick_in.g T.D_pick_in.d.kp T.D_pick_in.b (ta_cons (ev_name 0) (ta_cons (ev_callB c cr_lenZ ok_len (by rfl) T.z_len (by decide +kernel) (th_cons (op_name 1) (th_nil))) (ta_cons (ev_name 2) (ta_nil)))) (hlen := aCons_len (aCons_len (aCons_len (aNil_len))))) (ev_non)))))
theorem ok_pick_ahead (T : Tx K mg) : FnOk P w K mg base (L2.CX P w) 4 T.f_pick_ahead T.d_pick_ahead ["many", "pick"] (spF K mg 2 m_pick_ahead) :=
  fn_okF' (st := s_pick_ahead) (N := ["many", "pick", "number"]) (ps := ["many", "pick"]) (k := 3) (g := b_pick_ahead) T.D_pick_ahead.d sc_pick_ahead rfl (hide_eq _) fun cdv A outer s H E c =>
      st_cons (st_expr (ev_call c (ok_need_pick T) (by decide) (by rfl) T.D_need_pick.g T.D_need_pick.d.kp T.D_need_pick.b (ta_cons (ev_name 0) (ta_cons (ev_name 1) (ta_nil))) (hlen := aCons_len (aCons_len (aNil_len)))))
      (st_cons (st_set (i := 2) c (ev_call c (ok_number_in T) (by decide) (by rfl) T.D_number_in.g T.D_number_in.d.kp T.D_number_in.b (ta_cons (ev_name 1) (ta_nil)) (hlen := aCons_len (aNil_len))))
      (st_one (st_ret (ev_if (bt_cmp or_gtZ ok_gt (op_name 2) (op_e (ev_int)) (nomark _)) (ev_call c (ok_pick_in T) (by decide) (by rfl) T.D_pick_in.g T.D_pick_in.d.kp T.D_pick_in.b (ta_cons (ev_name 0) (ta_cons (ev_callB c cr_lenZ ok_len (by rfl) T.z_len (by decide +kernel) (th_cons (op_name 1) (th_nil))) (ta_cons (ev_op op_sub ok_sub (op_name 2) (op_e (ev_int))) (ta_nil)))) (hlen := aCons_len (aCons_len (aCons_len (aNil_len))))) (ev_non)))))
theorem ok__law_cup (T : Tx K mg) : FnOk P w K mg base (L2.CX P w) 1 T.f__law_cup T.d__law_cup ["script"] (spF K mg 1 m__law_cup) :=
  fn_okF' (st := s__law_cup) (N := ["script", "cell"]) (ps := ["script"]) (k := 0) (g := b__law_cup) T.D__law_cup.d sc__law_cup rfl (hide_eq _) fun cdv A outer s H E c =>
      st_cons (st_set (i := 1) c (ev_callB c call_abs ok_abs (by rfl) T.z_abs (by decide +kernel) (th_cons (op_e (ev_ix ix_seq ok_ix (op_e (ev_op or_addZ ok_add (op_e (ev_listZ 0 c (by rfl) T.z_list)) (op_e (ev_lst (ta_cons (ev_int) (ta_nil)))))) (op_e (ev_int)) (fun _ _ => rfl))) (th_nil))))
      (st_one (st_ret (ev_lst (ta_cons (ev_if (bt_cmp or_geZ ok_ge (op_name 1) (op_e (ev_op op_pow ok_pow (op_e (ev_int)) (op_e (ev_int)))) (nomark _)) (ev_op op_fdiv ok_div (op_name 1) (op_e (ev_int))) (ev_int)) (ta_cons (ev_op or_addZ ok_add (op_e (ev_op op_mod ok_mod (op_e (ev_callTy c call_int1 ok_int (by rfl) T.z_int (by decide +kernel) (th_cons (op_e (ev_op or_addZ ok_add (op_e (ev_op or_mulZ ok_mul (op_name 1) (op_e (ev_int)))) (op_e (ev_int)))) (th_nil)))) (op_e (ev_int)))) (op_e (ev_int))) (ta_nil))))))
theorem ok__law_roll (T : Tx K mg) : FnOk P w K mg base (L2.CX P w) 1 T.f__law_roll T.d__law_roll ["cup", "many"] (spC K mg 1 m__law_roll) :=
  fn_okC' (st := s__law_roll) (N := ["cup", "many", "found", "deep"]) (ps := ["cup", "many"]) (k := 0) (g := b__law_roll) T.D__law_roll.d sc__law_roll (by decide) rfl (hide_eq _) fun cdv A outer s H E c =>
      st_cons (st_if (bt_cmp or_gtZ ok_gt (op_e (ev_ix ix_seq ok_ix (op_name 0) (op_e (ev_int)) (fun _ _ => rfl))) (op_e (ev_int)) (nomark _)) (st_cons (st_set (i := 2) c (ev_op op_mod ok_mod (op_e (ev_callTy c call_int1 ok_int (by rfl) T.z_int (by decide +kernel) (th_cons (op_e (ev_ix ix_seq ok_ix (op_name 0) (op_e (ev_int)) (fun _ _ => rfl))) (th_nil)))) (op_name 1)))
      (st_cons (st_setIx 0 (ps_asg (ev_op op_fdiv ok_div (op_e (ev_ix ix_seq ok_ix (op_name 0) (op_e (ev_int)) (fun _ _ => rfl))) (op_name 1)) (pg_sub (pv 0) (op_e (ev_int)) set_list)))
      (st_one (st_ret (ev_move 2))))) (st_nil))
      (st_cons (st_setIx 0 (ps_asg (ev_op op_mod ok_mod (op_e (ev_callTy c call_int1 ok_int (by rfl) T.z_int (by decide +kernel) (th_cons (op_e (ev_op or_addZ ok_add (op_e (ev_op or_mulZ ok_mul (op_e (ev_ix ix_seq ok_ix (op_name 0) (op_e (ev_int)) (fun _ _ => rfl))) (op_e (ev_int)))) (op_e (ev_int)))) (th_nil)))) (op_e (ev_int))) (pg_sub (pv 0) (op_e (ev_int)) set_list)))
      (st_cons (st_set (i := 3) c (ev_op op_mod ok_mod (op_e (ev_callTy c call_int1 ok_int (by rfl) T.z_int (by decide +kernel) (th_cons (op_e (ev_op or_mulZ ok_mul (op_e (ev_ix ix_seq ok_ix (op_name 0) (op_e (ev_int)) (fun _ _ => rfl))) (op_e (ev_op or_addZ ok_add (op_e (ev_ix ix_seq ok_ix (op_name 0) (op_e (ev_int)) (fun _ _ => rfl))) (op_e (ev_int)))))) (th_nil)))) (op_e (ev_int))))
      (st_one (st_ret (ev_op op_mod ok_mod (op_e (ev_callTy c call_int1 ok_int (by rfl) T.z_int (by decide +kernel) (th_cons (op_e (ev_op op_fdiv ok_div (op_name 3) (op_e (ev_int)))) (th_nil)))) (op_name 1))))))
theorem ok_r__law_same (T : Tx K mg) : ∀ n : Nat, FnOk P w K mg base (L2.CX P w) (0 + n) T.f__law_same T.d__law_same ["told", "due"] (spF K mg 2 (r__law_same n))
  | 0 => fn_no rfl
  | n + 1 => (fn_okF' (st := s__law_same) (N := ["told", "due", "at"]) (ps := ["told", "due"]) (k := 0 + n) (g := b__law_same (r__law_same n)) T.D__law_same.d sc__law_same rfl rfl fun cdv A outer s H E c =>
      st_cons (st_if (bt_bw (bw_or (bt_truth c (op_e (ev_isi (T := "tuple") c (by decide) (by rfl) T.z_isinstance (by rfl) T.z_tuple (by decide +kernel) (op_name 1)))) (bw_or1 (bt_truth c (op_e (ev_isi (T := "list") c (by decide) (by rfl) T.z_isinstance (by rfl) T.z_list (by decide +kernel) (op_name 1))))))) (st_cons (st_if (bt_bw (bw_or (bt_cmp (or_neP c.room.units) ok_ne (op_e (ev_isi (T := "tuple") c (by decide) (by rfl) T.z_isinstance (by rfl) T.z_tuple (by decide +kernel) (op_name 0))) (op_e (ev_isi (T := "tuple") c (by decide) (by rfl) T.z_isinstance (by rfl) T.z_tuple (by decide +kernel) (op_name 1))) (nomark _)) (bw_or (bt_cmp (or_neP c.room.units) ok_ne (op_e (ev_isi (T := "list") c (by decide) (by rfl) T.z_isinstance (by rfl) T.z_list (by decide +kernel) (op_name 0))) (op_e (ev_isi (T := "list") c (by decide) (by rfl) T.z_isinstance (by rfl) T.z_list (by decide +kernel) (op_name 1))) (nomark _)) (bw_or1 (bt_cmp (or_neP c.room.units) ok_ne (op_e (ev_callB c cr_lenZ ok_len (by rfl) T.z_len (by decide +kernel) (th_cons (op_name 0) (th_nil)))) (op_e (ev_callB c cr_lenZ ok_len (by rfl) T.z_len (by decide +kernel) (th_cons (op_name 1) (th_nil)))) (nomark _)))))) (st_one (st_ret (ev_bl))) (st_nil))
      (st_one (st_ret (ev_cmp (or_eqP c.room.units) ok_eq (op_e (ev_lc (own := [("at", 2)]) c (by decide) (it_range1 c (by rfl) T.z_range (th_cons (op_e (ev_callB c cr_lenZ ok_len (by rfl) T.z_len (by decide +kernel) (th_cons (op_name 1) (th_nil)))) (th_nil))) (blkOk_by (by rfl)) (fun s1 H1 C1 l1 p1 => gt_name (i := 2) (c.blk s1 H1 _ p1).nd) (fun s1 H1 C1 l1 p1 => pts_one (bt_not (bt_truth (c.blk s1 H1 _ p1) (op_e (ev_call (c.blk s1 H1 _ p1) (ok_r__law_same T n) (by omega) (by rfl) T.D__law_same.g T.D__law_same.d.kp T.D__law_same.b (ta_cons (ev_ix ix_seq ok_ix (op_name 0) (op_name 2) (fun _ _ => rfl)) (ta_cons (ev_ix ix_seq ok_ix (op_name 1) (op_name 2) (fun _ _ => rfl)) (ta_nil))) (hlen := aCons_len (aCons_len (aNil_len)))))))) (fun s1 H1 C1 l1 p1 => ev_int))) (op_e (ev_lst (ta_nil))) (nomark _))))) (st_nil))
      (st_cons (st_if (bt_cmp or_isZ ok_is (op_name 1) (op_e (ev_non)) (nomark _)) (st_one (st_ret (ev_cmp or_isZ ok_is (op_name 0) (op_e (ev_non)) (nomark _)))) (st_nil))
      (st_cons (st_if (bt_truth c (op_e (ev_isi (T := "bool") c (by decide) (by rfl) T.z_isinstance (by rfl) T.z_bool (by decide +kernel) (op_name 1)))) (st_one (st_ret (ev_if (bt_truth c (op_name 1)) (ev_cmp or_isZ ok_is (op_name 0) (op_e (ev_bl)) (nomark _)) (ev_cmp or_isZ ok_is (op_name 0) (op_e (ev_bl)) (nomark _))))) (st_nil))
      (st_cons (st_if (bt_truth c (op_e (ev_isi (T := "int") c (by decide) (by rfl) T.z_isinstance (by rfl) T.z_int (by decide +kernel) (op_name 1)))) (st_one (st_ret (ev_and c (ev_isi (T := "int") c (by decide) (by rfl) T.z_isinstance (by rfl) T.z_int (by decide +kernel) (op_name 0)) (ev_and c (ev_not c (op_e (ev_isi (T := "bool") c (by decide) (by rfl) T.z_isinstance (by rfl) T.z_bool (by decide +kernel) (op_name 0)))) (ev_one (ev_cmp (or_eqP c.room.units) ok_eq (op_e (ev_callTy c call_int1 ok_int (by rfl) T.z_int (by decide +kernel) (th_cons (op_name 0) (th_nil)))) (op_name 1) (nomark _))))))) (st_nil))
      (st_one (st_ret (ev_and c (ev_isi (T := "str") c (by decide) (by rfl) T.z_isinstance (by rfl) T.z_str (by decide +kernel) (op_name 0)) (ev_one (ev_cmp (or_eqP c.room.units) ok_eq (op_e (ev_callTy c call_str_int ok_str (by rfl) T.z_str (by decide +kernel) (th_cons (op_name 0) (th_nil)))) (op_name 1) (nomark _))))))))))
theorem ok__law_same (T : Tx K mg) : FnOk P w K mg base (L2.CX P w) 40 T.f__law_same T.d__law_same ["told", "due"] (spF K mg 2 m__law_same) := by unfold m__law_same; rw [hide_eq]; exact (ok_r__law_same T 40)
theorem ok__law_choose (T : Tx K mg) : FnOk P w K mg base (L2.CX P w) 1 T.f__law_choose T.d__law_choose ["many", "size"] (spF K mg 2 m__law_choose) :=
  fn_okF' (st := s__law_choose) (N := ["many", "size", "row", "turn", "one", "other"]) (ps := ["many", "size"]) (k := 0) (g := b__law_choose) T.D__law_choose.d sc__law_choose rfl (hide_eq _) fun cdv A outer s H E c =>
      st_cons (st_set (i := 2) c (ev_lst (ta_cons (ev_int) (ta_nil))))
      (st_cons (st_for c (passes_of rfl) (it_range1 c (by rfl) T.z_range (th_cons (op_name 0) (th_nil))) (gt_name (i := 3) c.nd) (st_kls [3] (st_one (st_set (i := 2) c (ev_op or_addZ ok_add (op_e (ev_op or_addZ ok_add (op_e (ev_lst (ta_cons (ev_int) (ta_nil)))) (op_e (ev_lc (own := [("one", 4), ("other", 5)]) c (by decide) (it_zip c (by rfl) T.z_zip (ta_cons (ev_name 2) (ta_cons (ev_slice c (op_name 2) (tn_some (op_e (ev_int))) (tn_none)) (ta_nil)))) (blkOk_by (by rfl)) (fun s1 H1 C1 l1 p1 => gt_tup (m := 2) (c.blk s1 H1 _ p1) (gts_cons (gt_name (i := 4) (c.blk s1 H1 _ p1).nd) (gts_cons (gt_name (i := 5) (c.blk s1 H1 _ p1).nd) (gts_nil)))) (fun s1 H1 C1 l1 p1 => pts_none) (fun s1 H1 C1 l1 p1 => ev_op or_addZ ok_add (op_name 4) (op_name 5)))))) (op_e (ev_lst (ta_cons (ev_int) (ta_nil)))))))))
      (st_one (st_ret (ev_if (bt_cmp or_leZ ok_le (op_name 1) (op_name 0) (nomark _)) (ev_ix ix_seq ok_ix (op_name 2) (op_name 1) (fun _ _ => rfl)) (ev_int)))))
theorem ok_r__law_list (T : Tx K mg) : ∀ n : Nat, FnOk P w K mg base (L2.CX P w) (0 + n) T.f__law_list T.d__law_list ["many", "size"] (spF K mg 2 (r__law_list n))
  | 0 => fn_no rfl
  | n + 1 => (fn_okF' (st := s__law_list) (N := ["many", "size", "pick"]) (ps := ["many", "size"]) (k := 0 + n) (g := b__law_list (r__law_list n)) T.D__law_list.d sc__law_list rfl rfl fun cdv A outer s H E c =>
      st_cons (st_if (bt_bw (bw_or (bt_cmp (or_eqP c.room.units) ok_eq (op_name 1) (op_e (ev_int)) (nomark _)) (bw_or1 (bt_cmp (or_eqP c.room.units) ok_eq (op_name 1) (op_name 0) (nomark _))))) (st_one (st_ret (ev_lst (ta_cons (ev_tupRg2 c (by rfl) T.z_tuple (by rfl) T.z_range (op_e (ev_int)) (op_e (ev_op or_addZ ok_add (op_name 1) (op_e (ev_int))))) (ta_nil))))) (st_nil))
      (st_one (st_ret (ev_op or_addZ ok_add (op_e (ev_call c (ok_r__law_list T n) (by omega) (by rfl) T.D__law_list.g T.D__law_list.d.kp T.D__law_list.b (ta_cons (ev_op op_sub ok_sub (op_name 0) (op_e (ev_int))) (ta_cons (ev_name 1) (ta_nil))) (hlen := aCons_len (aCons_len (aNil_len))))) (op_e (ev_lc (own := [("pick", 2)]) c (by decide) (it_seq c (ev_rev c (op_e (ev_call c (ok_r__law_list T n) (by omega) (by rfl) T.D__law_list.g T.D__law_list.d.kp T.D__law_list.b (ta_cons (ev_op op_sub ok_sub (op_name 0) (op_e (ev_int))) (ta_cons (ev_op op_sub ok_sub (op_name 1) (op_e (ev_int))) (ta_nil))) (hlen := aCons_len (aCons_len (aNil_len))))))) (blkOk_by (by rfl)) (fun s1 H1 C1 l1 p1 => gt_name (i := 2) (c.blk s1 H1 _ p1).nd) (fun s1 H1 C1 l1 p1 => pts_none) (fun s1 H1 C1 l1 p1 => ev_op or_addZ ok_add (op_name 2) (op_e (ev_tup (ta_cons (ev_name 0) (ta_nil)))))))))))
theorem ok__law_list (T : Tx K mg) : FnOk P w K mg base (L2.CX P w) 40 T.f__law_list T.d__law_list ["many", "size"] (spF K mg 2 m__law_list) := by unfold m__law_list; rw [hide_eq]; exact (ok_r__law_list T 40)
theorem ok__law_rows_right (T : Tx K mg) : FnOk P w K mg base (L2.CX P w) 42 T.f__law_rows_right T.d__law_rows_right [] (spF K mg 0 m__law_rows_right) :=
  fn_okF' (st := s__law_rows_right) (N := []) (ps := []) (k := 41) (g := b__law_rows_right) T.D__law_rows_right.d sc__law_rows_right rfl (hide_eq _) fun cdv A outer s H E c =>
      st_one (st_ret (ev_call c (ok__law_same T) (by decide) (by rfl) T.D__law_same.g T.D__law_same.d.kp T.D__law_same.b (ta_cons (ev_tup (ta_cons (ev_call c (ok_exchange_behind T) (by decide) (by rfl) T.D_exchange_behind.g T.D_exchange_behind.d.kp T.D_exchange_behind.b (ta_cons (ev_int) (ta_cons (ev_int) (ta_cons (ev_int) (ta_nil)))) (hlen := aCons_len (aCons_len (aCons_len (aNil_len))))) (ta_cons (ev_call c (ok_pick_ahead T) (by decide) (by rfl) T.D_pick_ahead.g T.D_pick_ahead.d.kp T.D_pick_ahead.b (ta_cons (ev_int) (ta_cons (ev_tup (ta_cons (ev_int) (ta_cons (ev_int) (ta_nil)))) (ta_nil))) (hlen := aCons_len (aCons_len (aNil_len)))) (ta_nil)))) (ta_cons (ev_tup (ta_cons (ev_tup (ta_cons (ev_int) (ta_cons (ev_int) (ta_nil)))) (ta_cons (ev_tup (ta_cons (ev_int) (ta_cons (ev_int) (ta_nil)))) (ta_nil)))) (ta_nil))) (hlen := aCons_len (aCons_len (aNil_len)))))
theorem ok_law (T : Tx K mg) : FnOk P w K mg base (L2.CX P w) 43 T.f_law T.d_law ["script"] (spF K mg 1 m_law) :=
  fn_okF' (st := s_law) (N := ["script", "cup", "turn", "many", "size", "due", "at", "out", "come", "told", "number", "one", "other", "first", "last", "item"]) (ps := ["script"]) (k := 42) (g := b_law) T.D_law.d sc_law rfl (hide_eq _) fun cdv A outer s H E c =>
      st_cons (st_cup (ps_set (i := 1) c.nd rfl (by first | exact Or.inl rfl | exact Or.inr rfl) (ev_call c (ok__law_cup T) (by decide) (by rfl) T.D__law_cup.g T.D__law_cup.d.kp T.D__law_cup.b (ta_cons (ev_name 0) (ta_nil)) (hlen := aCons_len (aNil_len)))))
      (st_cons (st_if (bt_not (bt_truth c (op_e (ev_call0 c (ok__law_rows_right T) (by decide) (by rfl) T.D__law_rows_right.g T.D__law_rows_right.d.kp T.D__law_rows_right.b)))) (st_one (st_ret (ev_bl))) (st_nil))
      (st_cons (st_for c (passes_of rfl) (it_range1 c (by rfl) T.z_range (th_cons (op_e (ev_int)) (th_nil))) (gt_name (i := 2) c.nd) (st_kls [2, 3, 4, 5, 6, 7, 8, 9] (st_cons (st_set (i := 3) c (ev_op or_addZ ok_add (op_e (ev_int)) (op_e (ev_callC 1 c (ok__law_roll T) (by decide) (by rfl) T.D__law_roll.g T.D__law_roll.d.kp T.D__law_roll.b rfl (by first | exact Or.inl rfl | exact Or.inr (Or.inl rfl) | exact Or.inr (Or.inr rfl)) (ta_cons (ev_int) (ta_nil)) (aCons_len (aNil_len))))))
      (st_cons (st_set (i := 4) c (ev_callC 1 c (ok__law_roll T) (by decide) (by rfl) T.D__law_roll.g T.D__law_roll.d.kp T.D__law_roll.b rfl (by first | exact Or.inl rfl | exact Or.inr (Or.inl rfl) | exact Or.inr (Or.inr rfl)) (ta_cons (ev_op or_addZ ok_add (op_name 3) (op_e (ev_int))) (ta_nil)) (aCons_len (aNil_len))))
      (st_cons (st_set (i := 5) c (ev_call c (ok__law_list T) (by decide) (by rfl) T.D__law_list.g T.D__law_list.d.kp T.D__law_list.b (ta_cons (ev_name 3) (ta_cons (ev_name 4) (ta_nil))) (hlen := aCons_len (aCons_len (aNil_len)))))
      (st_cons (st_if (bt_bw (bw_or (bt_cmp or_isNotZ ok_isNot (op_e (ev_call c (ok_pick_behind T) (by decide) (by rfl) T.D_pick_behind.g T.D_pick_behind.d.kp T.D_pick_behind.b (ta_cons (ev_name 3) (ta_cons (ev_ix ix_seq ok_ix (op_name 5) (op_e (ev_neg (op_e (ev_int)))) (fun _ _ => rfl)) (ta_nil))) (hlen := aCons_len (aCons_len (aNil_len))))) (op_e (ev_non)) (nomark _)) (bw_or1 (bt_cmp or_isNotZ ok_isNot (op_e (ev_call c (ok_pick_ahead T) (by decide) (by rfl) T.D_pick_ahead.g T.D_pick_ahead.d.kp T.D_pick_ahead.b (ta_cons (ev_name 3) (ta_cons (ev_ix ix_seq ok_ix (op_name 5) (op_e (ev_int)) (fun _ _ => rfl)) (ta_nil))) (hlen := aCons_len (aCons_len (aNil_len))))) (op_e (ev_non)) (nomark _))))) (st_one (st_ret (ev_bl))) (st_nil))
      (st_one (st_for c (passes_of rfl) (it_range1 c (by rfl) T.z_range (th_cons (op_e (ev_op op_sub ok_sub (op_e (ev_callB c cr_lenZ ok_len (by rfl) T.z_len (by decide +kernel) (th_cons (op_name 5) (th_nil)))) (op_e (ev_int)))) (th_nil))) (gt_name (i := 6) c.nd) (st_kls [6, 7, 8, 9] (st_cons (st_setLc (own := [("item", 15)]) (i := 7) c (by decide) rfl rfl (sw_true rfl rfl rfl (by decide +kernel)) (it_seq c (ev_ix ix_seq ok_ix (op_name 5) (op_name 6) (fun _ _ => rfl))) (blkOk_by (by rfl)) (fun s1 H1 C1 l1 p1 => gt_name (i := 15) (c.blk s1 H1 _ p1).nd) (fun s1 H1 C1 l1 p1 => pts_one (bt_cmp (or_notInP (c.blk s1 H1 _ p1).room.units) ok_inB (op_name 15) (op_e (ev_ix ix_seq ok_ix (op_name 5) (op_e (ev_op or_addZ ok_add (op_name 6) (op_e (ev_int)))) (fun _ _ => rfl))) (by rfl))) (fun s1 H1 C1 l1 p1 => ev_name 15))
      (st_cons (st_setLc (own := [("item", 15)]) (i := 8) c (by decide) rfl rfl (sw_true rfl rfl rfl (by decide +kernel)) (it_seq c (ev_ix ix_seq ok_ix (op_name 5) (op_e (ev_op or_addZ ok_add (op_name 6) (op_e (ev_int)))) (fun _ _ => rfl))) (blkOk_by (by rfl)) (fun s1 H1 C1 l1 p1 => gt_name (i := 15) (c.blk s1 H1 _ p1).nd) (fun s1 H1 C1 l1 p1 => pts_one (bt_cmp (or_notInP (c.blk s1 H1 _ p1).room.units) ok_inB (op_name 15) (op_e (ev_ix ix_seq ok_ix (op_name 5) (op_name 6) (fun _ _ => rfl))) (by rfl))) (fun s1 H1 C1 l1 p1 => ev_name 15))
      (st_cons (st_if (bt_bw (bw_or (bt_cmp (or_neP c.room.units) ok_ne (op_e (ev_callB c cr_lenZ ok_len (by rfl) T.z_len (by decide +kernel) (th_cons (op_name 7) (th_nil)))) (op_e (ev_int)) (nomark _)) (bw_or1 (bt_cmp (or_neP c.room.units) ok_ne (op_e (ev_callB c cr_lenZ ok_len (by rfl) T.z_len (by decide +kernel) (th_cons (op_name 8) (th_nil)))) (op_e (ev_int)) (nomark _))))) (st_one (st_ret (ev_bl))) (st_nil))
      (st_cons (st_set (i := 9) c (ev_tup (ta_cons (ev_call c (ok_exchange_behind T) (by decide) (by rfl) T.D_exchange_behind.g T.D_exchange_behind.d.kp T.D_exchange_behind.b (ta_cons (ev_name 3) (ta_cons (ev_name 4) (ta_cons (ev_name 6) (ta_nil)))) (hlen := aCons_len (aCons_len (aCons_len (aNil_len))))) (ta_cons (ev_call c (ok_pick_behind T) (by decide) (by rfl) T.D_pick_behind.g T.D_pick_behind.d.kp T.D_pick_behind.b (ta_cons (ev_name 3) (ta_cons (ev_ix ix_seq ok_ix (op_name 5) (op_name 6) (fun _ _ => rfl)) (ta_nil))) (hlen := aCons_len (aCons_len (aNil_len)))) (ta_cons (ev_call c (ok_pick_ahead T) (by decide) (by rfl) T.D_pick_ahead.g T.D_pick_ahead.d.kp T.D_pick_ahead.b (ta_cons (ev_name 3) (ta_cons (ev_ix ix_seq ok_ix (op_name 5) (op_e (ev_op or_addZ ok_add (op_name 6) (op_e (ev_int)))) (fun _ _ => rfl)) (ta_nil))) (hlen := aCons_len (aCons_len (aNil_len)))) (ta_nil))))))
      (st_one (st_if (bt_not (bt_truth c (op_e (ev_call c (ok__law_same T) (by decide) (by rfl) T.D__law_same.g T.D__law_same.d.kp T.D__law_same.b (ta_cons (ev_name 9) (ta_cons (ev_tup (ta_cons (ev_tup (ta_cons (ev_ix ix_seq ok_ix (op_name 7) (op_e (ev_int)) (fun _ _ => rfl)) (ta_cons (ev_ix ix_seq ok_ix (op_name 8) (op_e (ev_int)) (fun _ _ => rfl)) (ta_nil)))) (ta_cons (ev_ix ix_seq ok_ix (op_name 5) (op_e (ev_op or_addZ ok_add (op_name 6) (op_e (ev_int)))) (fun _ _ => rfl)) (ta_cons (ev_ix ix_seq ok_ix (op_name 5) (op_name 6) (fun _ _ => rfl)) (ta_nil))))) (ta_nil))) (hlen := aCons_len (aCons_len (aNil_len))))))) (st_one (st_ret (ev_bl))) (st_nil))))))))))))))))
      (st_cons (st_for c (passes_of rfl) (it_range1 c (by rfl) T.z_range (th_cons (op_e (ev_int)) (th_nil))) (gt_name (i := 2) c.nd) (st_kls [2, 3, 4, 7, 8, 9, 10, 11, 12, 13, 14] (st_cons (st_set (i := 3) c (ev_op or_addZ ok_add (op_e (ev_int)) (op_e (ev_callC 1 c (ok__law_roll T) (by decide) (by rfl) T.D__law_roll.g T.D__law_roll.d.kp T.D__law_roll.b rfl (by first | exact Or.inl rfl | exact Or.inr (Or.inl rfl) | exact Or.inr (Or.inr rfl)) (ta_cons (ev_int) (ta_nil)) (aCons_len (aNil_len))))))
      (st_cons (st_set (i := 4) c (ev_op or_addZ ok_add (op_e (ev_int)) (op_e (ev_callC 1 c (ok__law_roll T) (by decide) (by rfl) T.D__law_roll.g T.D__law_roll.d.kp T.D__law_roll.b rfl (by first | exact Or.inl rfl | exact Or.inr (Or.inl rfl) | exact Or.inr (Or.inr rfl)) (ta_cons (ev_op op_sub ok_sub (op_name 3) (op_e (ev_int))) (ta_nil)) (aCons_len (aNil_len))))))
      (st_cons (st_set (i := 10) c (ev_callC 1 c (ok__law_roll T) (by decide) (by rfl) T.D__law_roll.g T.D__law_roll.d.kp T.D__law_roll.b rfl (by first | exact Or.inl rfl | exact Or.inr (Or.inl rfl) | exact Or.inr (Or.inr rfl)) (ta_cons (ev_op op_sub ok_sub (op_e (ev_call c (ok__law_choose T) (by decide) (by rfl) T.D__law_choose.g T.D__law_choose.d.kp T.D__law_choose.b (ta_cons (ev_name 3) (ta_cons (ev_name 4) (ta_nil))) (hlen := aCons_len (aCons_len (aNil_len))))) (op_e (ev_int))) (ta_nil)) (aCons_len (aNil_len))))
      (st_cons (st_asg (ev_tup (ta_cons (ev_call c (ok_pick_at T) (by decide) (by rfl) T.D_pick_at.g T.D_pick_at.d.kp T.D_pick_at.b (ta_cons (ev_name 3) (ta_cons (ev_name 4) (ta_cons (ev_name 10) (ta_nil)))) (hlen := aCons_len (aCons_len (aCons_len (aNil_len))))) (ta_cons (ev_call c (ok_pick_at T) (by decide) (by rfl) T.D_pick_at.g T.D_pick_at.d.kp T.D_pick_at.b (ta_cons (ev_name 3) (ta_cons (ev_name 4) (ta_cons (ev_op or_addZ ok_add (op_name 10) (op_e (ev_int))) (ta_nil)))) (hlen := aCons_len (aCons_len (aCons_len (aNil_len))))) (ta_nil)))) (gt_tup (m := 2) c (gts_cons (gt_name (i := 11) c.nd) (gts_cons (gt_name (i := 12) c.nd) (gts_nil)))))
      (st_cons (st_par (i := 7) (j := 8) c (ta_cons (ev_lc (own := [("item", 15)]) c (by decide) (it_seq c (ev_name 11)) (blkOk_by (by rfl)) (fun s1 H1 C1 l1 p1 => gt_name (i := 15) (c.blk s1 H1 _ p1).nd) (fun s1 H1 C1 l1 p1 => pts_one (bt_cmp (or_notInP (c.blk s1 H1 _ p1).room.units) ok_inB (op_name 15) (op_name 12) (by rfl))) (fun s1 H1 C1 l1 p1 => ev_name 15)) (ta_cons (ev_lc (own := [("item", 15)]) c (by decide) (it_seq c (ev_name 12)) (blkOk_by (by rfl)) (fun s1 H1 C1 l1 p1 => gt_name (i := 15) (c.blk s1 H1 _ p1).nd) (fun s1 H1 C1 l1 p1 => pts_one (bt_cmp (or_notInP (c.blk s1 H1 _ p1).room.units) ok_inB (op_name 15) (op_name 11) (by rfl))) (fun s1 H1 C1 l1 p1 => ev_name 15)) (ta_nil))))
      (st_cons (st_if (bt_bw (bw_or (bt_cmp (or_neP c.room.units) ok_ne (op_e (ev_callB c cr_lenZ ok_len (by rfl) T.z_len (by decide +kernel) (th_cons (op_name 7) (th_nil)))) (op_e (ev_int)) (nomark _)) (bw_or (bt_cmp (or_neP c.room.units) ok_ne (op_e (ev_callB c cr_lenZ ok_len (by rfl) T.z_len (by decide +kernel) (th_cons (op_name 8) (th_nil)))) (op_e (ev_int)) (nomark _)) (bw_or1 (bt_cmp (or_neP c.room.units) ok_ne (op_e (ev_callB c cr_lenZ ok_len (by rfl) T.z_len (by decide +kernel) (th_cons (op_name 11) (th_nil)))) (op_name 4) (nomark _)))))) (st_one (st_ret (ev_bl))) (st_nil))
      (st_cons (st_set (i := 9) c (ev_tup (ta_cons (ev_call c (ok_exchange_behind T) (by decide) (by rfl) T.D_exchange_behind.g T.D_exchange_behind.d.kp T.D_exchange_behind.b (ta_cons (ev_name 3) (ta_cons (ev_name 4) (ta_cons (ev_name 10) (ta_nil)))) (hlen := aCons_len (aCons_len (aCons_len (aNil_len))))) (ta_cons (ev_call c (ok_pick_behind T) (by decide) (by rfl) T.D_pick_behind.g T.D_pick_behind.d.kp T.D_pick_behind.b (ta_cons (ev_name 3) (ta_cons (ev_name 11) (ta_nil))) (hlen := aCons_len (aCons_len (aNil_len)))) (ta_cons (ev_call c (ok_pick_ahead T) (by decide) (by rfl) T.D_pick_ahead.g T.D_pick_ahead.d.kp T.D_pick_ahead.b (ta_cons (ev_name 3) (ta_cons (ev_name 12) (ta_nil))) (hlen := aCons_len (aCons_len (aNil_len)))) (ta_nil))))))
      (st_cons (st_if (bt_not (bt_truth c (op_e (ev_call c (ok__law_same T) (by decide) (by rfl) T.D__law_same.g T.D__law_same.d.kp T.D__law_same.b (ta_cons (ev_name 9) (ta_cons (ev_tup (ta_cons (ev_tup (ta_cons (ev_ix ix_seq ok_ix (op_name 7) (op_e (ev_int)) (fun _ _ => rfl)) (ta_cons (ev_ix ix_seq ok_ix (op_name 8) (op_e (ev_int)) (fun _ _ => rfl)) (ta_nil)))) (ta_cons (ev_name 12) (ta_cons (ev_name 11) (ta_nil))))) (ta_nil))) (hlen := aCons_len (aCons_len (aNil_len))))))) (st_one (st_ret (ev_bl))) (st_nil))
      (st_cons (st_par (i := 13) (j := 14) c (ta_cons (ev_call c (ok_pick_at T) (by decide) (by rfl) T.D_pick_at.g T.D_pick_at.d.kp T.D_pick_at.b (ta_cons (ev_name 3) (ta_cons (ev_name 4) (ta_cons (ev_int) (ta_nil)))) (hlen := aCons_len (aCons_len (aCons_len (aNil_len))))) (ta_cons (ev_call c (ok_pick_at T) (by decide) (by rfl) T.D_pick_at.g T.D_pick_at.d.kp T.D_pick_at.b (ta_cons (ev_name 3) (ta_cons (ev_name 4) (ta_cons (ev_op op_sub ok_sub (op_e (ev_call c (ok__law_choose T) (by decide) (by rfl) T.D__law_choose.g T.D__law_choose.d.kp T.D__law_choose.b (ta_cons (ev_name 3) (ta_cons (ev_name 4) (ta_nil))) (hlen := aCons_len (aCons_len (aNil_len))))) (op_e (ev_int))) (ta_nil)))) (hlen := aCons_len (aCons_len (aCons_len (aNil_len))))) (ta_nil))))
      (st_cons (st_if (bt_not (bt_truth c (op_e (ev_call c (ok__law_same T) (by decide) (by rfl) T.D__law_same.g T.D__law_same.d.kp T.D__law_same.b (ta_cons (ev_tup (ta_cons (ev_name 13) (ta_cons (ev_name 14) (ta_nil)))) (ta_cons (ev_tup (ta_cons (ev_tupRg2 c (by rfl) T.z_tuple (by rfl) T.z_range (op_e (ev_int)) (op_e (ev_op or_addZ ok_add (op_name 4) (op_e (ev_int))))) (ta_cons (ev_op or_addZ ok_add (op_e (ev_tupRg2 c (by rfl) T.z_tuple (by rfl) T.z_range (op_e (ev_int)) (op_name 4))) (op_e (ev_tup (ta_cons (ev_name 3) (ta_nil))))) (ta_nil)))) (ta_nil))) (hlen := aCons_len (aCons_len (aNil_len))))))) (st_one (st_ret (ev_bl))) (st_nil))
      (st_cons (st_set (i := 10) c (ev_op op_sub ok_sub (op_e (ev_call c (ok__law_choose T) (by decide) (by rfl) T.D__law_choose.g T.D__law_choose.d.kp T.D__law_choose.b (ta_cons (ev_op op_sub ok_sub (op_name 3) (op_e (ev_int))) (ta_cons (ev_name 4) (ta_nil))) (hlen := aCons_len (aCons_len (aNil_len))))) (op_e (ev_int))))
      (st_one (st_if (bt_bw (bw_or (bt_cmp (or_inP c.room.units) ok_inB (op_name 3) (op_e (ev_call c (ok_pick_at T) (by decide) (by rfl) T.D_pick_at.g T.D_pick_at.d.kp T.D_pick_at.b (ta_cons (ev_name 3) (ta_cons (ev_name 4) (ta_cons (ev_name 10) (ta_nil)))) (hlen := aCons_len (aCons_len (aCons_len (aNil_len)))))) (by rfl)) (bw_or1 (bt_cmp (or_neP c.room.units) ok_ne (op_e (ev_ix ix_seq ok_ix (op_e (ev_call c (ok_exchange_behind T) (by decide) (by rfl) T.D_exchange_behind.g T.D_exchange_behind.d.kp T.D_exchange_behind.b (ta_cons (ev_name 3) (ta_cons (ev_name 4) (ta_cons (ev_name 10) (ta_nil)))) (hlen := aCons_len (aCons_len (aCons_len (aNil_len)))))) (op_e (ev_int)) (fun _ _ => rfl))) (op_name 3) (nomark _))))) (st_one (st_ret (ev_bl))) (st_nil))))))))))))))))
      (st_one (st_ret (ev_bl))))))
end
end P
end
section
namespace P
open PySem PySem.Spec L2 Z
/-! ### the head: facts by names, the run -/
def dd_fits_whole : He.DefD := ⟨("fits_whole", none), "fits_whole", "fits_whole", defArgs s_fits_whole, defBody s_fits_whole, defScope s_fits_whole, [], []⟩
def dd_is_tuple_of : He.DefD := ⟨("is_tuple_of", none), "is_tuple_of", "is_tuple_of", defArgs s_is_tuple_of, defBody s_is_tuple_of, defScope s_is_tuple_of, [], []⟩
def dd_fits_pick : He.DefD := ⟨("fits_pick", none), "fits_pick", "fits_pick", defArgs s_fits_pick, defBody s_fits_pick, defScope s_fits_pick, [], []⟩
def dd_need_many : He.DefD := ⟨("need_many", none), "need_many", "need_many", defArgs s_need_many, defBody s_need_many, defScope s_need_many, [], []⟩
def dd_need_size : He.DefD := ⟨("need_size", none), "need_size", "need_size", defArgs s_need_size, defBody s_need_size, defScope s_need_size, [], []⟩
def dd_need_pick : He.DefD := ⟨("need_pick", none), "need_pick", "need_pick", defArgs s_need_pick, defBody s_need_pick, defScope s_need_pick, [], []⟩
def dd_choose : He.DefD := ⟨("choose", none), "choose", "choose", defArgs s_choose, defBody s_choose, defScope s_choose, [], []⟩
def dd_need_number : He.DefD := ⟨("need_number", none), "need_number", "need_number", defArgs s_need_number, defBody s_need_number, defScope s_need_number, [], []⟩
def dd_number_in : He.DefD := ⟨("number_in", none), "number_in", "number_in", defArgs s_number_in, defBody s_number_in, defScope s_number_in, [], []⟩
def dd_pick_in : He.DefD := ⟨("pick_in", none), "pick_in", "pick_in", defArgs s_pick_in, defBody s_pick_in, defScope s_pick_in, [], []⟩
def dd_exchange_in : He.DefD := ⟨("exchange_in", none), "exchange_in", "exchange_in", defArgs s_exchange_in, defBody s_exchange_in, defScope s_exchange_in, [], []⟩
def dd_pick_at : He.DefD := ⟨("pick_at", none), "pick_at", "pick_at", defArgs s_pick_at, defBody s_pick_at, defScope s_pick_at, [], []⟩
def dd_exchange_behind : He.DefD := ⟨("exchange_behind", none), "exchange_behind", "exchange_behind", defArgs s_exchange_behind, defBody s_exchange_behind, defScope s_exchange_behind, [], []⟩
def dd_pick_behind : He.DefD := ⟨("pick_behind", none), "pick_behind", "pick_behind", defArgs s_pick_behind, defBody s_pick_behind, defScope s_pick_behind, [], []⟩
def dd_pick_ahead : He.DefD := ⟨("pick_ahead", none), "pick_ahead", "pick_ahead", defArgs s_pick_ahead, defBody s_pick_ahead, defScope s_pick_ahead, [], []⟩
def dd__law_cup : He.DefD := ⟨("_law_cup", none), "_law_cup", "_law_cup", defArgs s__law_cup, defBody s__law_cup, defScope s__law_cup, [], []⟩
def dd__law_roll : He.DefD := ⟨("_law_roll", none), "_law_roll", "_law_roll", defArgs s__law_roll, defBody s__law_roll, defScope s__law_roll, [], []⟩
def dd__law_same : He.DefD := ⟨("_law_same", none), "_law_same", "_law_same", defArgs s__law_same, defBody s__law_same, defScope s__law_same, [], []⟩
def dd__law_choose : He.DefD := ⟨("_law_choose", none), "_law_choose", "_law_choose", defArgs s__law_choose, defBody s__law_choose, defScope s__law_choose, [], []⟩
def dd__law_list : He.DefD := ⟨("_law_list", none), "_law_list", "_law_list", defArgs s__law_list, defBody s__law_list, defScope s__law_list, [], []⟩
def dd__law_rows_right : He.DefD := ⟨("_law_rows_right", none), "_law_rows_right", "_law_rows_right", defArgs s__law_rows_right, defBody s__law_rows_right, defScope s__law_rows_right, [], []⟩
def dd_law : He.DefD := ⟨("law", none), "law", "law", defArgs s_law, defBody s_law, defScope s_law, [], []⟩
def fnD : List He.DefD := ([dd_fits_whole, dd_is_tuple_of, dd_fits_pick, dd_need_many, dd_need_size, dd_need_pick, dd_choose, dd_need_number, dd_number_in, dd_pick_in, dd_exchange_in, dd_pick_at, dd_exchange_behind, dd_pick_behind, dd_pick_ahead, dd__law_cup, dd__law_roll, dd__law_same, dd__law_choose, dd__law_list] : List He.DefD) ++ ([dd__law_rows_right, dd_law] : List He.DefD)
def faD : List He.Fa := ([.glo "fits_whole", .glo "is_tuple_of", .glo "fits_pick", .glo "need_many", .glo "need_size", .glo "need_pick", .glo "choose", .glo "need_number", .glo "number_in", .glo "pick_in", .glo "exchange_in", .glo "pick_at", .glo "exchange_behind", .glo "pick_behind", .glo "pick_ahead", .glo "_law_cup", .glo "_law_roll", .glo "_law_same", .glo "_law_choose", .glo "_law_list"] : List He.Fa) ++ ([.glo "_law_rows_right", .glo "law", .free "abs", .free "all", .free "bool", .free "enumerate", .free "int", .free "isinstance", .free "len", .free "list", .free "range", .free "str", .free "tuple", .free "zip", .int "SOME" 20] : List He.Fa)
abbrev R : PySem.W.OpenRow := PySem.W.OpenLaw.row PySem.Challenge.rw_oneturn_k22_whole_exchanges_of_the_list
abbrev hk : PySem.W.Hook := He.hookD 4 faD fnD
def ob (s : PySem.W.SharedT) : He.AlD := He.obsDG 4 faD fnD (HandSHeadRun.getT s)
theorem ob_eq (s : PySem.W.SharedT) : ob s = hk.obs s.abs := He.obsDG_eq (HandSHeadRun.getT_eq s)
def names : List PySem.Str := (["TurnError", "InvalidNumber", "InvalidPick", "fits_whole", "is_tuple_of", "SOME", "fits_pick", "need_many", "need_size", "need_pick", "need_number", "choose", "number_in", "pick_in", "exchange_in", "pick_at", "exchange_behind", "pick_behind", "pick_ahead", "_law_cup"] : List PySem.Str) ++ (["_law_roll", "_law_some", "_law_same", "_law_choose", "_law_pick", "_law_sized", "_law_list", "_law_rows_right"] : List PySem.Str)
theorem run (w : World) : HandSHeadRun.RunEq R (PySem.W.view R.prog [32]) hk ob 20000 names w := by
  intro os
  kernel_rfl
theorem facts (t : ∀ ns : List Int, ns.length ≤ 63 → m_law [.fz ns] = .ok (.sh (.bool true))) {P : Program} {w : World} {K : PySem.W.Frag} {h : Heap} {mg : Str → Option Value} {f : Addr} (X : K.In h) (G : h.Ns mainGlobals mg) (hfa : mg ("law" : Str) = some (.ref f)) (c : He.SaysD faD fnD K) :
    ∃ fd : FuncData, (∀ (s : Shared) (v : Value), BindsTo s fd ⟨[v], []⟩ [("script", v)]) ∧ ∀ base : Heap, K.In base → base.Ns mainGlobals mg → FnOk P w K mg base CX0 43 f fd ["script"] (spLaw K) := by
  obtain ⟨d_fits_whole, D_fits_whole⟩ := df_mk (st := s_fits_whole) (ps := ["value", "low", "high"]) X G (c.def_ 0 (d := dd_fits_whole) rfl) (c.fact 0 (f := .glo "fits_whole") rfl) (fun _ _ _ _ _ _ us hl => match us, hl with | [_, _, _], _ => rfl)
  obtain ⟨d_is_tuple_of, D_is_tuple_of⟩ := df_mk (st := s_is_tuple_of) (ps := ["value", "least", "most"]) X G (c.def_ 1 (d := dd_is_tuple_of) rfl) (c.fact 1 (f := .glo "is_tuple_of") rfl) (fun _ _ _ _ _ _ us hl => match us, hl with | [_, _, _], _ => rfl)
  obtain ⟨d_fits_pick, D_fits_pick⟩ := df_mk (st := s_fits_pick) (ps := ["many", "value"]) X G (c.def_ 2 (d := dd_fits_pick) rfl) (c.fact 2 (f := .glo "fits_pick") rfl) (fun _ _ _ _ _ _ us hl => match us, hl with | [_, _], _ => rfl)
  obtain ⟨d_need_many, D_need_many⟩ := df_mk (st := s_need_many) (ps := ["many"]) X G (c.def_ 3 (d := dd_need_many) rfl) (c.fact 3 (f := .glo "need_many") rfl) (fun _ _ _ _ _ _ us hl => match us, hl with | [_], _ => rfl)
  obtain ⟨d_need_size, D_need_size⟩ := df_mk (st := s_need_size) (ps := ["many", "size"]) X G (c.def_ 4 (d := dd_need_size) rfl) (c.fact 4 (f := .glo "need_size") rfl) (fun _ _ _ _ _ _ us hl => match us, hl with | [_, _], _ => rfl)
  obtain ⟨d_need_pick, D_need_pick⟩ := df_mk (st := s_need_pick) (ps := ["many", "pick"]) X G (c.def_ 5 (d := dd_need_pick) rfl) (c.fact 5 (f := .glo "need_pick") rfl) (fun _ _ _ _ _ _ us hl => match us, hl with | [_, _], _ => rfl)
  obtain ⟨d_choose, D_choose⟩ := df_mk (st := s_choose) (ps := ["many", "size"]) X G (c.def_ 6 (d := dd_choose) rfl) (c.fact 6 (f := .glo "choose") rfl) (fun _ _ _ _ _ _ us hl => match us, hl with | [_, _], _ => rfl)
  obtain ⟨d_need_number, D_need_number⟩ := df_mk (st := s_need_number) (ps := ["many", "size", "number", "less"]) X G (c.def_ 7 (d := dd_need_number) rfl) (c.fact 7 (f := .glo "need_number") rfl) (fun _ _ _ _ _ _ us hl => match us, hl with | [_, _, _, _], _ => rfl)
  obtain ⟨d_number_in, D_number_in⟩ := df_mk (st := s_number_in) (ps := ["pick"]) X G (c.def_ 8 (d := dd_number_in) rfl) (c.fact 8 (f := .glo "number_in") rfl) (fun _ _ _ _ _ _ us hl => match us, hl with | [_], _ => rfl)
  obtain ⟨d_pick_in, D_pick_in⟩ := df_mk (st := s_pick_in) (ps := ["many", "size", "number"]) X G (c.def_ 9 (d := dd_pick_in) rfl) (c.fact 9 (f := .glo "pick_in") rfl) (fun _ _ _ _ _ _ us hl => match us, hl with | [_, _, _], _ => rfl)
  obtain ⟨d_exchange_in, D_exchange_in⟩ := df_mk (st := s_exchange_in) (ps := ["one", "other"]) X G (c.def_ 10 (d := dd_exchange_in) rfl) (c.fact 10 (f := .glo "exchange_in") rfl) (fun _ _ _ _ _ _ us hl => match us, hl with | [_, _], _ => rfl)
  obtain ⟨d_pick_at, D_pick_at⟩ := df_mk (st := s_pick_at) (ps := ["many", "size", "number"]) X G (c.def_ 11 (d := dd_pick_at) rfl) (c.fact 11 (f := .glo "pick_at") rfl) (fun _ _ _ _ _ _ us hl => match us, hl with | [_, _, _], _ => rfl)
  obtain ⟨d_exchange_behind, D_exchange_behind⟩ := df_mk (st := s_exchange_behind) (ps := ["many", "size", "number"]) X G (c.def_ 12 (d := dd_exchange_behind) rfl) (c.fact 12 (f := .glo "exchange_behind") rfl) (fun _ _ _ _ _ _ us hl => match us, hl with | [_, _, _], _ => rfl)
  obtain ⟨d_pick_behind, D_pick_behind⟩ := df_mk (st := s_pick_behind) (ps := ["many", "pick"]) X G (c.def_ 13 (d := dd_pick_behind) rfl) (c.fact 13 (f := .glo "pick_behind") rfl) (fun _ _ _ _ _ _ us hl => match us, hl with | [_, _], _ => rfl)
  obtain ⟨d_pick_ahead, D_pick_ahead⟩ := df_mk (st := s_pick_ahead) (ps := ["many", "pick"]) X G (c.def_ 14 (d := dd_pick_ahead) rfl) (c.fact 14 (f := .glo "pick_ahead") rfl) (fun _ _ _ _ _ _ us hl => match us, hl with | [_, _], _ => rfl)
  obtain ⟨d__law_cup, D__law_cup⟩ := df_mk (st := s__law_cup) (ps := ["script"]) X G (c.def_ 15 (d := dd__law_cup) rfl) (c.fact 15 (f := .glo "_law_cup") rfl) (fun _ _ _ _ _ _ us hl => match us, hl with | [_], _ => rfl)
  obtain ⟨d__law_roll, D__law_roll⟩ := df_mk (st := s__law_roll) (ps := ["cup", "many"]) X G (c.def_ 16 (d := dd__law_roll) rfl) (c.fact 16 (f := .glo "_law_roll") rfl) (fun _ _ _ _ _ _ us hl => match us, hl with | [_, _], _ => rfl)
  obtain ⟨d__law_same, D__law_same⟩ := df_mk (st := s__law_same) (ps := ["told", "due"]) X G (c.def_ 17 (d := dd__law_same) rfl) (c.fact 17 (f := .glo "_law_same") rfl) (fun _ _ _ _ _ _ us hl => match us, hl with | [_, _], _ => rfl)
  obtain ⟨d__law_choose, D__law_choose⟩ := df_mk (st := s__law_choose) (ps := ["many", "size"]) X G (c.def_ 18 (d := dd__law_choose) rfl) (c.fact 18 (f := .glo "_law_choose") rfl) (fun _ _ _ _ _ _ us hl => match us, hl with | [_, _], _ => rfl)
  obtain ⟨d__law_list, D__law_list⟩ := df_mk (st := s__law_list) (ps := ["many", "size"]) X G (c.def_ 19 (d := dd__law_list) rfl) (c.fact 19 (f := .glo "_law_list") rfl) (fun _ _ _ _ _ _ us hl => match us, hl with | [_, _], _ => rfl)
  obtain ⟨d__law_rows_right, D__law_rows_right⟩ := df_mk (st := s__law_rows_right) (ps := []) X G (c.def_ 20 (d := dd__law_rows_right) rfl) (c.fact 20 (f := .glo "_law_rows_right") rfl) (fun _ _ _ _ _ _ us hl => match us, hl with | [], _ => rfl)
  obtain ⟨d_law, D_law⟩ := df_mk (st := s_law) (ps := ["script"]) X G (c.def_ 21 (d := dd_law) rfl) (c.fact 21 (f := .glo "law") rfl) (fun _ _ _ _ _ _ us hl => match us, hl with | [_], _ => rfl)
  obtain ⟨t_SOME, g_SOME⟩ := He.int_ok X G (c.fact 34 (f := .int "SOME" 20) rfl)
  have e := hfa.symm.trans D_law.g
  cases e
  let T : Tx K mg := { f_fits_whole := _, d_fits_whole := _, D_fits_whole := D_fits_whole, f_is_tuple_of := _, d_is_tuple_of := _, D_is_tuple_of := D_is_tuple_of, f_fits_pick := _, d_fits_pick := _, D_fits_pick := D_fits_pick, f_need_many := _, d_need_many := _, D_need_many := D_need_many, f_need_size := _, d_need_size := _, D_need_size := D_need_size, f_need_pick := _, d_need_pick := _, D_need_pick := D_need_pick, f_choose := _, d_choose := _, D_choose := D_choose, f_need_number := _, d_need_number := _, D_need_number := D_need_number, f_number_in := _, d_number_in := _, D_number_in := D_number_in, f_pick_in := _, d_pick_in := _, D_pick_in := D_pick_in, f_exchange_in := _, d_exchange_in := _, D_exchange_in := D_exchange_in, f_pick_at := _, d_pick_at := _, D_pick_at := D_pick_at, f_exchange_behind := _, d_exchange_behind := _, D_exchange_behind := D_exchange_behind, f_pick_behind := _, d_pick_behind := _, D_pick_behind := D_pick_behind, f_pick_ahead := _, d_pick_ahead := _, D_pick_ahead := D_pick_ahead, f__law_cup := _, d__law_cup := _, D__law_cup := D__law_cup, f__law_roll := _, d__law_roll := _, D__law_roll := D__law_roll, f__law_same := _, d__law_same := _, D__law_same := D__law_same, f__law_choose := _, d__law_choose := _, D__law_choose := D__law_choose, f__law_list := _, d__law_list := _, D__law_list := D__law_list, f__law_rows_right := _, d__law_rows_right := _, D__law_rows_right := D__law_rows_right, f_law := _, d_law := _, D_law := D_law, z_abs := He.free_ok X G (c.fact 22 (f := .free "abs") rfl), z_all := He.free_ok X G (c.fact 23 (f := .free "all") rfl), z_bool := He.free_ok X G (c.fact 24 (f := .free "bool") rfl), z_enumerate := He.free_ok X G (c.fact 25 (f := .free "enumerate") rfl), z_int := He.free_ok X G (c.fact 26 (f := .free "int") rfl), z_isinstance := He.free_ok X G (c.fact 27 (f := .free "isinstance") rfl), z_len := He.free_ok X G (c.fact 28 (f := .free "len") rfl), z_list := He.free_ok X G (c.fact 29 (f := .free "list") rfl), z_range := He.free_ok X G (c.fact 30 (f := .free "range") rfl), z_str := He.free_ok X G (c.fact 31 (f := .free "str") rfl), z_tuple := He.free_ok X G (c.fact 32 (f := .free "tuple") rfl), z_zip := He.free_ok X G (c.fact 33 (f := .free "zip") rfl), t_SOME := t_SOME, g_SOME := g_SOME }
  have b := D_law.d.bindsA (ps := ["script"]) fun _ _ _ _ _ _ us hl => match us, hl with | [_], _ => rfl
  exact ⟨d_law, fun s v => b s [v] rfl, fun base _ _ => fn_law (ok_law T) t⟩
end P
open PySem PySem.W PySem.Calls PyProof.Rows
set_option maxHeartbeats 0 in
theorem P.all_holds (t : ∀ ns : List Int, ns.length ≤ 63 → P.m_law [.fz ns] = .ok (.sh (.bool true))) : PySem.Challenge.rw_oneturn_k22_whole_exchanges_of_the_list.Holds := by
  w_on; o_law
  refine HandSHeadRun.head_any (r := OpenLaw.row PySem.Challenge.rw_oneturn_k22_whole_exchanges_of_the_list) (q := view (OpenLaw.row PySem.Challenge.rw_oneturn_k22_whole_exchanges_of_the_list).prog [32]) (H := P.hk) (ob := P.ob) (M := 20000) (loose := P.names) (d := HandSHeadRun.topDef (OpenLaw.row PySem.Challenge.rw_oneturn_k22_whole_exchanges_of_the_list).prog 32) (kwd := []) P.ob_eq
    (by kernel_rfl) (fun s => by kernel_rfl) P.run (by kernel_rfl) (by kernel_rfl) (by kernel_rfl) (by rfl) (by first | assumption | decide +kernel) (by decide +kernel) ⟨rfl, rfl, rfl, rfl, rfl, by decide +kernel⟩ ?hw ?hc
  case hw => w_witness2
  case hc =>
    refine L2.walk_ofE (l := PySem.Challenge.rw_oneturn_k22_whole_exchanges_of_the_list) (n := 63) (k := 43) (x := "script") (CX := L2.CX0) rfl (by decide) (by kernel_rfl) ⟨rfl, by decide, by decide⟩ ?F (fun _ _ _ _ z => z)
    intro w mg fa h Y G hmg0
    obtain ⟨K, KX, c⟩ := Y
    have hmg : mg ("law" : PySem.Str) = some (.ref fa) := by
      have e : (HandSHeadRun.topDef (OpenLaw.row PySem.Challenge.rw_oneturn_k22_whole_exchanges_of_the_list).prog 32).name = ("law" : PySem.Str) := by kernel_rfl
      rw [← e]
      exact hmg0
    obtain ⟨fd, hb, hF⟩ := P.facts t (P := (PySem.Challenge.rw_oneturn_k22_whole_exchanges_of_the_list).prog) (w := w) KX G hmg c
    exact ⟨K, fd, Z.spLaw K, KX, hb, fun H a ns hl _ hS => ⟨a, ns, rfl, hS, hl, fun _ => rfl⟩, hF⟩
end
theorem PySem.Challenge.cw_oneturn_k22_whole_exchanges_of_the_list_holds : PySem.Challenge.rw_oneturn_k22_whole_exchanges_of_the_list.Holds := by
  exact P.all_holds P.law_holds
