import PyProof.Rows.All
import Wide.All
import OpenK.AllK
import Wide.FinOn
import HandS.ForMost
import HandS.ForExc
import HandS.Walk
import HandS.TupAny
import HandS.TupLe
import HandS.TupMul
import HandS.IsInst
import HandS.Style
import HandS.Flow
import HandS.Zip
import HandS.Conv
import HandS.Wide
import HandS.Deep
import KE.DataEq
import KE.KTupSum
import KE.GoesMore
import HandS.CallSlots
import HandS.Defaults
import HandS.SortInts
import KE.SortData
import HandS.TupSets
import KE.KeyNested
import HandS.SetFor
import KE.SortLaws
import KE.KRevSl
import HandS.Dict
import HandS.DictTup
import HandS.Head0
import HandS.Head1
import HandS.Head2
import HandS.HeadEnd
import HandS.HeadHook1
import HandS.HeadHook2
import KE.KStateDown
import PySem.Challenge.RW_oneturn_k23_whole_order_of_words
set_option Elab.async false
set_option linter.all false
set_option maxRecDepth 100000
set_option maxHeartbeats 4000000
section
/-! Z: a semantics by values over the hand layer. -/
namespace Z
open PySem PySem.Spec PyProof.Rows L2

abbrev D := PyData
abbrev St := L2.St
inductive DT where
  | k (kvs : List (L2.Key × D))
  | t (kvs : List (List L2.Key × D))
/-- what a slot holds: nothing known, a value that nobody changes, a list or dict of this frame's own, the two numbers that all draws change, the script -/
inductive S where
  | u
  | sh (d : D)
  | ow (d : D)
  | cu (x y : Int)
  | fz (ns : List Int)
  | od (t : DT)
  | sd (t : DT)

inductive Rs (α : Type) where
  | ok (a : α)
  | ex (ρ : List S) (c : Str) (fs : List (Str × D))
  | no
namespace Rs
def bind {α β : Type} : Rs α → (α → Rs β) → Rs β
  | ok a, f => f a
  | ex ρ c fs, _ => ex ρ c fs
  | no, _ => no
instance : Monad Rs where
  pure := ok
  bind := bind
@[simp] theorem bind_ok {α β : Type} (a : α) (f : α → Rs β) : (Rs.ok a >>= f) = f a := Eq.trans rfl rfl
@[simp] theorem bind_no {α β : Type} (f : α → Rs β) : (Rs.no >>= f) = Rs.no := rfl
@[simp] theorem bind_ex {α β : Type} (ρ : List S) (c : Str) (fs : List (Str × D)) (f : α → Rs β) : (Rs.ex ρ c fs >>= f) = Rs.ex ρ c fs := rfl
/-- what may be stuck, but raises nothing -/
def of {α : Type} : Option α → Rs α
  | some a => ok a
  | none => no
@[simp] theorem of_some {α : Type} (a : α) : Rs.of (some a) = Rs.ok a := Eq.trans rfl rfl
@[simp] theorem of_none {α : Type} : Rs.of (none : Option α) = Rs.no := Eq.trans rfl rfl
@[simp] theorem pure_ok {α : Type} (a : α) : (pure a : Rs α) = Rs.ok a := rfl
end Rs

open Classical in
noncomputable def vw (H : Hp) (p : Addr → Prop) : Hp := fun b => if p b then none else H b
def hid (F : Addr → Prop) (A : List (Option Addr)) : Addr → Prop := fun b => F b ∨ some b ∈ A
def adj (F : Addr → Prop) (a : Addr) : Addr → Prop := fun b => F b ∨ b = a

theorem vw_neg {H : Hp} {p : Addr → Prop} {b : Addr} (h : ¬ p b) : vw H p b = H b := by unfold vw; rw [if_neg h]
theorem vw_pos {H : Hp} {p : Addr → Prop} {b : Addr} (h : p b) : vw H p b = none := by unfold vw; rw [if_pos h]
theorem vw_some {H : Hp} {p : Addr → Prop} {b : Addr} {o : HO} (h : vw H p b = some o) : ¬ p b ∧ H b = some o := by
  by_cases q : p b
  · rw [vw_pos q] at h; cases h
  · rw [vw_neg q] at h; exact ⟨q, h⟩
theorem vw_same (H : Hp) (p : Addr → Prop) : Same (vw H p) H := fun _ _ h => (vw_some h).2
theorem vw_mono {H H' : Hp} {p q : Addr → Prop} (h : ∀ b, q b → p b) (s : ∀ b o, ¬ p b → H b = some o → H' b = some o) : Same (vw H p) (vw H' q) := fun b o e => by
  obtain ⟨n, e⟩ := vw_some e
  rw [vw_neg fun z => n (h b z)]
  exact s b o n e
theorem vw_congr {H : Hp} {p q : Addr → Prop} (h : ∀ b, p b ↔ q b) : vw H p = vw H q := by
  have : p = q := funext fun b => propext (h b)
  rw [this]

/-! ### what a value is in a heap -/
mutual
inductive Rp (K : PySem.W.Frag) (H : Hp) : V → D → Prop
  | non : Rp K H .non .none
  | bl (b : Bool) : Rp K H (.bl b) (.bool b)
  | int (i : Int) : Rp K H (.int i) (.int i)
  | str (x : Str) : Rp K H (.str x) (.str x)
  | lst {a : Addr} {xs : List V} {ds : List D} : H a = some (.lst xs) → RpL K H xs ds → Rp K H (.ref a) (.list ds)
  | tup {a : Addr} {xs : List V} {ds : List D} : H a = some (.tup xs) → RpL K H xs ds → Rp K H (.ref a) (.tuple ds)
inductive RpL (K : PySem.W.Frag) (H : Hp) : List V → List D → Prop
  | nil : RpL K H [] []
  | cons {v : V} {vs : List V} {d : D} {ds : List D} : Rp K H v d → RpL K H vs ds → RpL K H (v :: vs) (d :: ds)
end
section
variable {K : PySem.W.Frag} {H H' : Hp}
mutual
theorem Rp.mono (s : Same H H') : ∀ {v : V} {d : D}, Rp K H v d → Rp K H' v d
  | _, _, .non => .non
  | _, _, .bl b => .bl b
  | _, _, .int i => .int i
  | _, _, .str x => .str x
  | _, _, .lst e r => .lst (s _ _ e) (RpL.mono s r)
  | _, _, .tup e r => .tup (s _ _ e) (RpL.mono s r)
theorem RpL.mono (s : Same H H') : ∀ {vs : List V} {ds : List D}, RpL K H vs ds → RpL K H' vs ds
  | _, _, .nil => .nil
  | _, _, .cons r t => .cons (Rp.mono s r) (RpL.mono s t)
end
mutual
theorem Rp.dp : ∀ {v : V} {d : D}, Rp K H v d → Dp K H v d
  | _, _, .non => .non
  | _, _, .bl b => .bl b
  | _, _, .int i => .int i
  | _, _, .str x => .str x
  | _, _, .lst e r => .lst (.of e) (RpL.dp r)
  | _, _, .tup e r => .tup (.of e) (RpL.dp r)
theorem RpL.dp : ∀ {vs : List V} {ds : List D}, RpL K H vs ds → DpAll K H vs ds
  | _, _, .nil => .nil
  | _, _, .cons r t => .cons (Rp.dp r) (RpL.dp t)
end
theorem RpL.len : ∀ {vs : List V} {ds : List D}, RpL K H vs ds → vs.length = ds.length
  | _, _, .nil => rfl
  | _, _, .cons _ t => by simp [RpL.len t]
theorem RpL.get : ∀ {vs : List V} {ds : List D} {i : Nat} {d : D}, RpL K H vs ds → ds[i]? = some d → ∃ v, vs[i]? = some v ∧ Rp K H v d
  | _, _, _, _, .nil, e => by simp at e
  | _, _, 0, _, .cons r _, e => by simp at e; subst e; exact ⟨_, rfl, r⟩
  | _, _, i + 1, _, .cons _ t, e => by
    obtain ⟨v, h1, h2⟩ := RpL.get (i := i) t (by simpa using e)
    exact ⟨v, by simpa using h1, h2⟩
theorem RpL.app : ∀ {vs ws : List V} {ds es : List D}, RpL K H vs ds → RpL K H ws es → RpL K H (vs ++ ws) (ds ++ es)
  | _, _, _, _, .nil, s => s
  | _, _, _, _, .cons r t, s => .cons r (RpL.app t s)
theorem RpL.take : ∀ {vs : List V} {ds : List D} (n : Nat), RpL K H vs ds → RpL K H (vs.take n) (ds.take n)
  | _, _, 0, _ => .nil
  | _, _, _ + 1, .nil => .nil
  | _, _, n + 1, .cons r t => .cons r (RpL.take n t)
theorem RpL.drop : ∀ {vs : List V} {ds : List D} (n : Nat), RpL K H vs ds → RpL K H (vs.drop n) (ds.drop n)
  | _, _, 0, r => r
  | _, _, _ + 1, .nil => .nil
  | _, _, n + 1, .cons _ t => RpL.drop n t
theorem RpL.set {v : V} {d : D} (r : Rp K H v d) : ∀ {vs : List V} {ds : List D} (i : Nat), RpL K H vs ds → RpL K H (vs.set i v) (ds.set i d)
  | _, _, _, .nil => .nil
  | _, _, 0, .cons _ t => .cons r t
  | _, _, i + 1, .cons q t => .cons q (RpL.set r i t)
theorem RpL.rev {vs : List V} {ds : List D} (h : RpL K H vs ds) : RpL K H vs.reverse ds.reverse := by
  induction vs generalizing ds with
  | nil => cases h; exact .nil
  | cons v vs ih =>
    cases h with
    | cons r t =>
      rw [List.reverse_cons, List.reverse_cons]
      exact (ih t).app (.cons r .nil)
theorem RpL.ints : ∀ (ns : List Int), RpL K H (ns.map V.int) (ns.map PyData.int)
  | [] => .nil
  | n :: r => .cons (.int n) (RpL.ints r)
theorem Rp.nomap {f : Int → D} : True := trivial
end

/-- what stands at the address of a thing of this frame's own -/
def Ow (K : PySem.W.Frag) (H W : Hp) (a : Addr) : D → Prop
  | .list ds => ∃ vs, H a = some (.lst vs) ∧ RpL K W vs ds
  | _ => False
theorem Ow.tr {K : PySem.W.Frag} {H W : Hp} {a : Addr} {d : D} (h : Ow K H W a d) : H a ≠ none := by
  cases d with
  | list ds => obtain ⟨vs, e, _⟩ := h; rw [e]; exact fun z => nomatch z
  | _ => exact h.elim
theorem Ow.mono {K : PySem.W.Frag} {H H' W W' : Hp} {a : Addr} {d : D} (h : Ow K H W a d) (e : H' a = H a) (s : Same W W') : Ow K H' W' a d := by
  cases d with
  | list ds => obtain ⟨vs, q, r⟩ := h; exact ⟨vs, e.trans q, r.mono s⟩
  | _ => exact h.elim
/-- a thing of one's own, shared from now on -/
theorem Ow.share {K : PySem.W.Frag} {H W : Hp} {a : Addr} {d : D} (h : Ow K H W a d) {W' : Hp} (s : Same W W') (e : W' a = H a) : Rp K W' (.ref a) d := by
  cases d with
  | list ds => obtain ⟨vs, q, r⟩ := h; exact .lst (e.trans q) (r.mono s)
  | _ => exact h.elim

/-- what the values of a table are -/
def KRp (K : PySem.W.Frag) (H : Hp) {κ : Type} : List (κ × V) → List (κ × D) → Prop := Paired fun p q => p.1 = q.1 ∧ Rp K H p.2 q.2
theorem KRp.mono {K : PySem.W.Frag} {H H' : Hp} {κ : Type} {vs : List (κ × V)} {ds : List (κ × D)} (r : KRp K H vs ds) (s : Same H H') : KRp K H' vs ds := Paired.mapP r fun _ _ z => ⟨z.1, z.2.mono s⟩
/-- what stands at the address of a table -/
def DO (K : PySem.W.Frag) (H W : Hp) (a : Addr) : DT → Prop
  | .k ds => ∃ vs, H a = some (.dK vs) ∧ KRp K W vs ds
  | .t ds => ∃ vs, H a = some (.dT vs) ∧ KRp K W vs ds
theorem DO.tr {K : PySem.W.Frag} {H W : Hp} {a : Addr} {t : DT} (h : DO K H W a t) : H a ≠ none := by
  cases t with
  | k ds => obtain ⟨vs, e, _⟩ := h; rw [e]; exact fun z => nomatch z
  | t ds => obtain ⟨vs, e, _⟩ := h; rw [e]; exact fun z => nomatch z
theorem DO.mono {K : PySem.W.Frag} {H H' W W' : Hp} {a : Addr} {t : DT} (h : DO K H W a t) (e : H' a = H a) (s : Same W W') : DO K H' W' a t := by
  cases t with
  | k ds => obtain ⟨vs, q, r⟩ := h; exact ⟨vs, e.trans q, r.mono s⟩
  | t ds => obtain ⟨vs, q, r⟩ := h; exact ⟨vs, e.trans q, r.mono s⟩
/-- a table that is seen: it stands the same in a later view -/
theorem DO.see {K : PySem.W.Frag} {W W' : Hp} {a : Addr} {t : DT} (h : DO K W W a t) (s : Same W W') : DO K W' W' a t := by
  cases t with
  | k ds => obtain ⟨vs, q, r⟩ := h; exact ⟨vs, s _ _ q, r.mono s⟩
  | t ds => obtain ⟨vs, q, r⟩ := h; exact ⟨vs, s _ _ q, r.mono s⟩

def SlotOk (K : PySem.W.Frag) (H W : Hp) (ov : Option (Option V)) (oa : Option (Option Addr)) : S → Prop
  | .u => oa = some none
  | .sh d => oa = some none ∧ ∃ v, ov = some (some v) ∧ Rp K W v d
  | .ow d => ∃ a, oa = some (some a) ∧ ov = some (some (.ref a)) ∧ Ow K H W a d
  | .cu x y => ∃ a, oa = some (some a) ∧ ov = some (some (.ref a)) ∧ H a = some (.lst [.int x, .int y])
  | .fz ns => oa = some none ∧ ∃ a, ov = some (some (.ref a)) ∧ SqL K W a (ns.map V.int)
  | .od t => ∃ a, oa = some (some a) ∧ ov = some (some (.ref a)) ∧ DO K H W a t
  | .sd t => oa = some none ∧ ∃ a, ov = some (some (.ref a)) ∧ DO K W W a t

structure Good (K : PySem.W.Frag) (F : Addr → Prop) (σ : St) (H : Hp) (ρ : List S) (A : List (Option Addr)) : Prop where
  l1 : σ.length = ρ.length
  l2 : A.length = ρ.length
  inj : ∀ (i j : Nat) (a : Addr), A[i]? = some (some a) → A[j]? = some (some a) → i = j
  dis : ∀ (i : Nat) (a : Addr), A[i]? = some (some a) → ¬ F a
  trk : ∀ b, F b → H b ≠ none
  slot : ∀ (i : Nat) (s : S), ρ[i]? = some s → SlotOk K H (vw H (hid F A)) (σ[i]?) (A[i]?) s

/-- from a state to a later one of the same frame -/
structure Stp (F : Addr → Prop) (H : Hp) (ρ : List S) (A : List (Option Addr)) (H' : Hp) (ρ' : List S) (A' : List (Option Addr)) : Prop where
  kf : ∀ b, F b → H' b = H b
  vs : Same (vw H (hid F A)) (vw H' (hid F A'))
  cu : ∀ (i : Nat) (x y : Int), ρ[i]? = some (S.cu x y) → A'[i]? = A[i]? ∧ ∃ x' y' : Int, ρ'[i]? = some (S.cu x' y')

section
variable {K : PySem.W.Frag} {F : Addr → Prop} {σ : St} {H H' H'' : Hp} {ρ ρ' ρ'' : List S} {A A' A'' : List (Option Addr)}
theorem Stp.refl : Stp F H ρ A H ρ A := ⟨fun _ _ => rfl, Same.refl _, fun i x y h => ⟨rfl, x, y, h⟩⟩
theorem Stp.trans (a : Stp F H ρ A H' ρ' A') (b : Stp F H' ρ' A' H'' ρ'' A'') : Stp F H ρ A H'' ρ'' A'' :=
  ⟨fun c h => (b.kf c h).trans (a.kf c h), a.vs.trans b.vs, fun i x y h => by
    obtain ⟨e, x', y', h'⟩ := a.cu i x y h
    obtain ⟨e', q⟩ := b.cu i x' y' h'
    exact ⟨e'.trans e, q⟩⟩
theorem mem_of_ix {a : Addr} {i : Nat} (h : A[i]? = some (some a)) : some a ∈ A := List.mem_of_getElem? h
theorem ix_of_mem {a : Addr} (h : some a ∈ A) : ∃ i : Nat, A[i]? = some (some a) := List.getElem?_of_mem h
theorem Good.htr (g : Good K F σ H ρ A) {b : Addr} (h : hid F A b) : H b ≠ none := by
  rcases h with h | h
  · exact g.trk b h
  · obtain ⟨i, e⟩ := ix_of_mem h
    have hi : i < A.length := (List.getElem?_eq_some_iff.mp e).1
    have hi' : i < ρ.length := by rw [← g.l2]; exact hi
    have q := g.slot i ρ[i] (List.getElem?_eq_getElem hi')
    revert q
    cases ρ[i] with
    | u => intro q; rw [show A[i]? = some none from q] at e; cases e
    | sh d => intro q; rw [q.1] at e; cases e
    | fz d => intro q; rw [q.1] at e; cases e
    | ow d => intro ⟨a, e1, _, o⟩; rw [e1] at e; cases e; exact o.tr
    | sd t => intro q; rw [q.1] at e; cases e
    | od t => intro ⟨a, e1, _, o⟩; rw [e1] at e; cases e; exact o.tr
    | cu x y => intro ⟨a, e1, _, o⟩; rw [e1] at e; cases e; rw [o]; exact fun z => nomatch z
theorem ne_z {α : Type} {f : Addr → Option α} {b p : Addr} (h1 : f b ≠ none) (h2 : f p = none) : b ≠ p := fun z => h1 (by rw [z]; exact h2)
theorem Good.new (g : Good K F σ H ρ A) {p : Addr} (h : H p = none) : ¬ hid F A p := fun z => g.htr z h
theorem SlotOk.mono {W W' : Hp} {ov : Option (Option V)} {oa : Option (Option Addr)} {s : S} (h : SlotOk K H W ov oa s) (k : ∀ a, oa = some (some a) → H' a = H a) (m : Same W W') : SlotOk K H' W' ov oa s := by
  cases s with
  | u => exact h
  | sh d => obtain ⟨e, v, e1, r⟩ := h; exact ⟨e, v, e1, r.mono m⟩
  | fz d => obtain ⟨e, v, e1, r⟩ := h; exact ⟨e, v, e1, m.seq r⟩
  | ow d => obtain ⟨a, e1, e2, o⟩ := h; exact ⟨a, e1, e2, o.mono (k a e1) m⟩
  | sd t => obtain ⟨e, v, e1, r⟩ := h; exact ⟨e, v, e1, r.see m⟩
  | od t => obtain ⟨a, e1, e2, o⟩ := h; exact ⟨a, e1, e2, o.mono (k a e1) m⟩
  | cu x y => obtain ⟨a, e1, e2, o⟩ := h; exact ⟨a, e1, e2, (k a e1).trans o⟩
/-- a new thing that the frame's view sees -/
theorem Good.upd_new (g : Good K F σ H ρ A) {p : Addr} {o : HO} (h : H p = none) : Good K F σ (upd H p o) ρ A := by
  refine ⟨g.l1, g.l2, g.inj, g.dis, fun b hb => ?_, fun i s e => (g.slot i s e).mono (fun a ha => ?_) ?_⟩
  · rw [upd_ne (ne_z (g.trk b hb) h)]; exact g.trk b hb
  · rw [upd_ne (ne_z (g.htr (.inr (mem_of_ix ha))) h)]
  · exact vw_mono (fun _ z => z) fun b u n e => by rw [upd_ne (ne_of_none e h)]; exact e
theorem Stp.upd_new (g : Good K F σ H ρ A) {p : Addr} {o : HO} (h : H p = none) : Stp F H ρ A (upd H p o) ρ A :=
  ⟨fun b hb => by rw [upd_ne (ne_z (g.trk b hb) h)], vw_mono (fun _ z => z) fun b u n e => by rw [upd_ne (ne_of_none e h)]; exact e, fun i x y h => ⟨rfl, x, y, h⟩⟩
theorem Good.vw_upd (g : Good K F σ H ρ A) {p : Addr} {o : HO} (h : H p = none) : vw (upd H p o) (hid F A) p = some o := by
  rw [vw_neg (g.new h), upd_same]
/-- a new thing that is hidden -/
theorem Good.hide_new (g : Good K F σ H ρ A) {p : Addr} {o : HO} (h : H p = none) : Good K (adj F p) σ (upd H p o) ρ A := by
  refine ⟨g.l1, g.l2, g.inj, fun i a e z => ?_, fun b hb => ?_, fun i s e => (g.slot i s e).mono (fun a ha => ?_) ?_⟩
  · rcases z with z | z
    · exact g.dis i a e z
    · subst z; exact g.htr (.inr (mem_of_ix e)) h
  · rcases hb with hb | hb
    · rw [upd_ne (ne_z (g.trk b hb) h)]; exact g.trk b hb
    · subst hb; rw [upd_same]; exact fun z => nomatch z
  · rw [upd_ne (ne_z (g.htr (.inr (mem_of_ix ha))) h)]
  · intro b u e
    obtain ⟨n, e⟩ := vw_some e
    have hb := ne_of_none e h
    rw [vw_neg, upd_ne hb]
    · exact e
    · rintro ((z | z) | z)
      · exact n (.inl z)
      · exact hb z
      · exact n (.inr z)
theorem view_hide (g : Good K F σ H ρ A) {p : Addr} {o : HO} (h : H p = none) : Same (vw H (hid F A)) (vw (upd H p o) (hid (adj F p) A)) := by
  intro b u e
  obtain ⟨n, e⟩ := vw_some e
  have hb := ne_of_none e h
  rw [vw_neg, upd_ne hb]
  · exact e
  · rintro ((z | z) | z)
    · exact n (.inl z)
    · exact hb z
    · exact n (.inr z)
/-- the hidden thing is seen again -/
theorem Good.unhide {a : Addr} (g : Good K (adj F a) σ H ρ A) : Good K F σ H ρ A :=
  ⟨g.l1, g.l2, g.inj, fun i b e z => g.dis i b e (.inl z), fun b hb => g.trk b (.inl hb), fun i s e => (g.slot i s e).mono (fun _ _ => rfl) (vw_mono (fun b z => z.elim (fun q => .inl (.inl q)) .inr) fun _ _ _ q => q)⟩
theorem view_unhide {a : Addr} : Same (vw H (hid (adj F a) A)) (vw H (hid F A)) := vw_mono (fun b z => z.elim (fun q => .inl (.inl q)) .inr) fun _ _ _ q => q
end

/-! ### what an evaluation's end is -/
section
variable (K : PySem.W.Frag) (mg : Str → Option Value) (W : WX)
/-- the value, seen from F, A -/
def Fin (F : Addr → Prop) (σ : St) (H : Hp) (ρ : List S) (A : List (Option Addr)) (r : S) (ρ' : List S) (v : V) (H' : Hp) : Prop :=
  match r with
  | .sh d => ∃ A', Good K F σ H' ρ' A' ∧ Stp F H ρ A H' ρ' A' ∧ Rp K (vw H' (hid F A')) v d
  | .ow d => ∃ A' a, v = .ref a ∧ ¬ F a ∧ Good K (adj F a) σ H' ρ' A' ∧ Stp F H ρ A H' ρ' A' ∧ Same (vw H (hid F A)) (vw H' (hid (adj F a) A')) ∧ Ow K H' (vw H' (hid (adj F a) A')) a d
  | .fz ns => ∃ A', Good K F σ H' ρ' A' ∧ Stp F H ρ A H' ρ' A' ∧ ∃ a, v = .ref a ∧ SqL K (vw H' (hid F A')) a (ns.map V.int)
  | .sd t => ∃ A', Good K F σ H' ρ' A' ∧ Stp F H ρ A H' ρ' A' ∧ ∃ a, v = .ref a ∧ DO K (vw H' (hid F A')) (vw H' (hid F A')) a t
  | .od t => ∃ A' a, v = .ref a ∧ ¬ F a ∧ Good K (adj F a) σ H' ρ' A' ∧ Stp F H ρ A H' ρ' A' ∧ Same (vw H (hid F A)) (vw H' (hid (adj F a) A')) ∧ DO K H' (vw H' (hid (adj F a) A')) a t
  | _ => False
/-- an exception that is an instance of the class of this name, with these fields -/
def ExV (c : Str) (fs : List (Str × D)) (C : Value) (d : Option Addr) (H' : Hp) : Prop := mg c = some C ∧ (∃ a, C = .ref a) ∧ fs = [] ∧ d = none
def PoX (F : Addr → Prop) (σ : St) (H : Hp) (ρ : List S) (A : List (Option Addr)) (ρ' : List S) (c : Str) (fs : List (Str × D)) : Prop :=
  ∀ C d H' A', Good K F σ H' ρ' A' → Stp F H ρ A H' ρ' A' → ExV mg c fs C d H' → W C d σ H'
def PoE (F : Addr → Prop) (σ : St) (H : Hp) (ρ : List S) (A : List (Option Addr)) (o : Rs (S × List S)) (Q : VK) : Prop :=
  match o with
  | .ok (r, ρ') => ∀ v H', Fin K F σ H ρ A r ρ' v H' → Q v H'
  | .ex ρ' c fs => PoX K mg W F σ H ρ A ρ' c fs
  | .no => False
abbrev EF := List S → Rs (S × List S)
/-- an expression's reading by values -/
def TF (f : EF) : TE := fun σ H Q => ∃ F ρ A, Good K F σ H ρ A ∧ PoE K mg W F σ H ρ A (f ρ) Q

/-! operands: a name (read where it is wanted) or a value -/
inductive Hd where
  | ix (i : Nat)
  | dt (d : D)
def look (h : Hd) (ρ : List S) : Option D :=
  match h with
  | .dt d => some d
  | .ix i => match ρ[i]? with
    | some (.sh d) => some d
    | some (.ow d) => some d
    | some (.cu x y) => some (.list [.int x, .int y])
    | _ => none
def HRep (σ : St) (W' : Hp) (v : V) : Hd → Prop
  | .ix i => σ[i]? = some (some v)
  | .dt d => Rp K W' v d
abbrev OF := List S → Rs (Hd × List S)
def PoO (F : Addr → Prop) (σ : St) (H : Hp) (ρ : List S) (A : List (Option Addr)) (o : Rs (Hd × List S)) (Q : VK) : Prop :=
  match o with
  | .ok (h, ρ') => ∀ v H' A', Good K F σ H' ρ' A' → Stp F H ρ A H' ρ' A' → HRep K σ (vw H' (hid F A')) v h → Q v H'
  | .ex ρ' c fs => PoX K mg W F σ H ρ A ρ' c fs
  | .no => False
def TO' (f : OF) : TE := fun σ H Q => ∃ F ρ A, Good K F σ H ρ A ∧ PoO K mg W F σ H ρ A (f ρ) Q
/-- a value that is read: seen from the frame, or the frame's own -/
def Pk (H W' : Hp) (v : V) (d : D) : Prop := Rp K W' v d ∨ ∃ a, v = .ref a ∧ Ow K H W' a d

/-! tests -/
abbrev BF := List S → Rs (Bool × List S)
def PoT (F : Addr → Prop) (σ : St) (H : Hp) (ρ : List S) (A : List (Option Addr)) (o : Rs (Bool × List S)) (Q : Bool → Hp → Prop) : Prop :=
  match o with
  | .ok (b, ρ') => ∀ H' A', Good K F σ H' ρ' A' → Stp F H ρ A H' ρ' A' → Q b H'
  | .ex ρ' c fs => PoX K mg W F σ H ρ A ρ' c fs
  | .no => False
def TB' (f : BF) : TT := fun σ H Q => ∃ F ρ A, Good K F σ H ρ A ∧ PoT K mg W F σ H ρ A (f ρ) Q

/-! arguments: values; operands -/
abbrev AF := List S → Rs (List S × List S)
def SRep (W' : Hp) (v : V) : S → Prop
  | .sh d => Rp K W' v d
  | .fz ns => ∃ a, v = .ref a ∧ SqL K W' a (ns.map V.int)
  | .sd t => ∃ a, v = .ref a ∧ DO K W' W' a t
  | _ => False
def SReps (W' : Hp) : List V → List S → Prop := Paired (SRep K W')
def PoA (F : Addr → Prop) (σ : St) (H : Hp) (ρ : List S) (A : List (Option Addr)) (o : Rs (List S × List S)) (Q : List V → Hp → Prop) : Prop :=
  match o with
  | .ok (rs, ρ') => ∀ vs H' A', Good K F σ H' ρ' A' → Stp F H ρ A H' ρ' A' → SReps K (vw H' (hid F A')) vs rs → Q vs H'
  | .ex ρ' c fs => PoX K mg W F σ H ρ A ρ' c fs
  | .no => False
def TAr (f : AF) : TA := fun σ H Q => ∃ F ρ A, Good K F σ H ρ A ∧ PoA K mg W F σ H ρ A (f ρ) Q
abbrev HF := List S → Rs (List Hd × List S)
def HReps (σ : St) (W' : Hp) : List V → List Hd → Prop := Paired (HRep K σ W')
def PoH (F : Addr → Prop) (σ : St) (H : Hp) (ρ : List S) (A : List (Option Addr)) (o : Rs (List Hd × List S)) (Q : List V → Hp → Prop) : Prop :=
  match o with
  | .ok (hs, ρ') => ∀ vs H' A', Good K F σ H' ρ' A' → Stp F H ρ A H' ρ' A' → HReps K σ (vw H' (hid F A')) vs hs → Q vs H'
  | .ex ρ' c fs => PoX K mg W F σ H ρ A ρ' c fs
  | .no => False
def TH (f : HF) : TA := fun σ H Q => ∃ F ρ A, Good K F σ H ρ A ∧ PoH K mg W F σ H ρ A (f ρ) Q

/-! statements -/
inductive Out where
  | nx | bk | ct
  | rt (r : S)
abbrev SF := List S → Rs (Out × List S)
def PoS (F : Addr → Prop) (σ : St) (H : Hp) (ρ : List S) (A : List (Option Addr)) (o : Rs (Out × List S)) (D' : Ends) : Prop :=
  match o with
  | .ok (.nx, ρ') => ∀ σ' H' A', Good K F σ' H' ρ' A' → Stp F H ρ A H' ρ' A' → D'.nx σ' H'
  | .ok (.bk, ρ') => ∀ σ' H' A', Good K F σ' H' ρ' A' → Stp F H ρ A H' ρ' A' → D'.bk σ' H'
  | .ok (.ct, ρ') => ∀ σ' H' A', Good K F σ' H' ρ' A' → Stp F H ρ A H' ρ' A' → D'.ct σ' H'
  | .ok (.rt r, ρ') => ∀ σ' v H', Fin K F σ' H ρ A r ρ' v H' → D'.rt v H'
  | .ex ρ' c fs => ∀ σ' C d H' A', Good K F σ' H' ρ' A' → Stp F H ρ A H' ρ' A' → ExV mg c fs C d H' → W C d σ' H'
  | .no => False
def TSt (g : SF) : TS := fun D' σ H => ∃ F ρ A, Good K F σ H ρ A ∧ PoS K mg W F σ H ρ A (g ρ) D'
end
end Z
end
section
namespace Z
open PySem PySem.Spec L2

/-- what the rules ask of the context -/
structure Ct (X : Cx) (K : PySem.W.Frag) (mg : Str → Option Value) (W : WX) (n : Nat) : Prop where
  k : X.K = K
  m : X.mg = mg
  tk : Takes X W
  calm : X.calm = true
  nd : X.N.Nodup
  room : Room n X.A

theorem pe_imp {X : Cx} {e : Expr} {t t' : TE} (h : PE X e t) (m : ∀ σ H Q, t' σ H Q → t σ H Q) : PE X e t' := ⟨fun p s σ H Q I q => h.run p s σ H Q I (m _ _ _ q)⟩
theorem pt_imp {X : Cx} {e : Expr} {t t' : TT} (h : PT X e t) (m : ∀ σ H Q, t' σ H Q → t σ H Q) : PT X e t' := ⟨fun p s σ H Q I q => h.run p s σ H Q I (m _ _ _ q)⟩
theorem pw_imp {X : Cx} {e : Expr} {t t' : TT} (h : PW X e t) (m : ∀ σ H Q, t' σ H Q → t σ H Q) : PW X e t' := ⟨fun w p s σ H Q I q => h.run w p s σ H Q I (m _ _ _ q)⟩
theorem pa_imp {X : Cx} {e : List Expr} {t t' : TA} (h : PA X e t) (m : ∀ σ H Q, t' σ H Q → t σ H Q) : PA X e t' := ⟨fun o p s σ H Q I q => h.run o p s σ H Q I (m _ _ _ q)⟩
theorem ps_imp {X : Cx} {e : Stmt} {t t' : TS} (h : PS X e t) (m : ∀ D' σ H, t' D' σ H → t D' σ H) : PS X e t' := ⟨fun p s σ H D' I q => h.run p s σ H D' I (m _ _ _ q)⟩
theorem pss_imp {X : Cx} {e : List Stmt} {t t' : TS} (h : PSs X e t) (m : ∀ D' σ H, t' D' σ H → t D' σ H) : PSs X e t' := ⟨fun p s σ H D' I q => h.run p s σ H D' I (m _ _ _ q)⟩
theorem po_imp {X : Cx} {e : Option Expr} {t t' : TO} (h : PO X e t) (m : ∀ σ H Q, t' σ H Q → t σ H Q) : PO X e t' := ⟨fun p s σ H Q I q => h.run p s σ H Q I (m _ _ _ q)⟩

section
variable {K : PySem.W.Frag} {mg : Str → Option Value} {W : WX} {F : Addr → Prop} {σ : St} {H H1 H2 : Hp} {ρ ρ1 ρ2 : List S} {A A1 A2 : List (Option Addr)}
theorem Fin.trans {r : S} {v : V} (s : Stp F H ρ A H1 ρ1 A1) (f : Fin K F σ H1 ρ1 A1 r ρ2 v H2) : Fin K F σ H ρ A r ρ2 v H2 := by
  cases r with
  | u => exact f
  | cu x y => exact f
  | sh d => obtain ⟨A', g, t, p⟩ := f; exact ⟨A', g, s.trans t, p⟩
  | fz d => obtain ⟨A', g, t, p⟩ := f; exact ⟨A', g, s.trans t, p⟩
  | sd d => obtain ⟨A', g, t, p⟩ := f; exact ⟨A', g, s.trans t, p⟩
  | od d => obtain ⟨A', a, e, n, g, t, m, p⟩ := f; exact ⟨A', a, e, n, g, s.trans t, s.vs.trans m, p⟩
  | ow d => obtain ⟨A', a, e, n, g, t, m, p⟩ := f; exact ⟨A', a, e, n, g, s.trans t, s.vs.trans m, p⟩
theorem Fin.sh {d : D} {v : V} (g : Good K F σ H1 ρ1 A1) (s : Stp F H ρ A H1 ρ1 A1) (p : Rp K (vw H1 (hid F A1)) v d) : Fin K F σ H ρ A (.sh d) ρ1 v H1 := ⟨A1, g, s, p⟩
theorem PoX.of {c : Str} {fs : List (Str × D)} (s : Stp F H ρ A H1 ρ1 A1) (x : PoX K mg W F σ H ρ A ρ2 c fs) : PoX K mg W F σ H1 ρ1 A1 ρ2 c fs := fun C d H' A' g t e => x C d H' A' g (s.trans t) e
/-- weakening: what was one's own is shared -/
theorem Fin.weak {d : D} {v : V} (f : Fin K F σ H ρ A (.ow d) ρ1 v H1) : Fin K F σ H ρ A (.sh d) ρ1 v H1 := by
  obtain ⟨A', a, rfl, n, g, t, m, p⟩ := f
  refine ⟨A', g.unhide, t, p.share view_unhide ?_⟩
  refine vw_neg ?_
  rintro (z | z)
  · exact n z
  · obtain ⟨i, e⟩ := ix_of_mem z
    exact g.dis i a e (.inr rfl)
theorem DO.share {W : Hp} {a : Addr} {d : DT} {W' : Hp} (h : DO K H W a d) (s : Same W W') (e : W' a = H a) : DO K W' W' a d := h.mono e s
theorem Fin.weakD {d : DT} {v : V} (f : Fin K F σ H ρ A (.od d) ρ1 v H1) : Fin K F σ H ρ A (.sd d) ρ1 v H1 := by
  obtain ⟨A', a, rfl, n, g, t, m, p⟩ := f
  refine ⟨A', g.unhide, t, a, rfl, p.share view_unhide ?_⟩
  refine vw_neg ?_
  rintro (z | z)
  · exact n z
  · obtain ⟨i, e⟩ := ix_of_mem z
    exact g.dis i a e (.inr rfl)
theorem Pk.mono {H' : Hp} {W1 W2 : Hp} {v : V} {d : D} (h : Pk K H W1 v d) (e : ∀ a, v = .ref a → H a ≠ none → H' a = H a) (s : Same W1 W2) : Pk K H' W2 v d := by
  rcases h with h | ⟨a, rfl, h⟩
  · exact .inl (h.mono s)
  · exact .inr ⟨a, rfl, h.mono (e a rfl h.tr) s⟩
/-- a handle read -/
theorem look_ok {h : Hd} {v : V} {d : D} (g : Good K F σ H ρ A) (r : HRep K σ (vw H (hid F A)) v h) (e : look h ρ = some d) : Pk K H (vw H (hid F A)) v d := by
  cases h with
  | dt d' => cases e; exact .inl r
  | ix i =>
    unfold look at e
    dsimp only at e
    cases q : ρ[i]? with
    | none => rw [q] at e; cases e
    | some s =>
      rw [q] at e
      have k := g.slot i s q
      have r' : σ[i]? = some (some v) := r
      cases s with
      | u => cases e
      | fz ns => cases e
      | sd t => cases e
      | od t => cases e
      | sh d' =>
        cases e
        obtain ⟨_, v', e1, p⟩ := k
        rw [r'] at e1; cases e1
        exact .inl p
      | ow d' =>
        cases e
        obtain ⟨a, _, e1, p⟩ := k
        rw [r'] at e1; cases e1
        exact .inr ⟨a, rfl, p⟩
      | cu x y =>
        cases e
        obtain ⟨a, _, e1, p⟩ := k
        rw [r'] at e1; cases e1
        exact .inr ⟨a, rfl, _, p, .cons (.int x) (.cons (.int y) .nil)⟩
theorem HRep.mono {W1 W2 : Hp} {v : V} {h : Hd} (r : HRep K σ W1 v h) (s : Same W1 W2) : HRep K σ W2 v h := by
  cases h with
  | ix i => exact r
  | dt d => exact Rp.mono s r
theorem SRep.mono {W1 W2 : Hp} {v : V} {h : S} (r : SRep K W1 v h) (s : Same W1 W2) : SRep K W2 v h := by
  cases h with
  | sh d => exact Rp.mono s r
  | fz d => obtain ⟨a, e, r⟩ := r; exact ⟨a, e, s.seq r⟩
  | sd t => obtain ⟨a, e, r⟩ := r; exact ⟨a, e, r.see s⟩
  | _ => exact r
theorem SReps.mono {W1 W2 : Hp} : ∀ {vs : List V} {hs : List S}, SReps K W1 vs hs → Same W1 W2 → SReps K W2 vs hs
  | _, _, .nil, _ => .nil
  | _, _, .cons r t, s => .cons (SRep.mono r s) (SReps.mono t s)
theorem HReps.mono {W1 W2 : Hp} : ∀ {vs : List V} {hs : List Hd}, HReps K σ W1 vs hs → Same W1 W2 → HReps K σ W2 vs hs
  | _, _, .nil, _ => .nil
  | _, _, .cons r t, s => .cons (HRep.mono r s) (HReps.mono t s)
/-! peeked things as the layer's sequences -/
theorem Pk.list {v : V} {ds : List D} (h : Pk K H (vw H (hid F A)) v (.list ds)) : ∃ a vs, v = .ref a ∧ H a = some (.lst vs) ∧ RpL K (vw H (hid F A)) vs ds := by
  rcases h with h | ⟨a, rfl, vs, e, r⟩
  · cases h with
    | lst e r => exact ⟨_, _, rfl, (vw_some e).2, r⟩
  · exact ⟨a, vs, rfl, e, r⟩
theorem Pk.tuple {v : V} {ds : List D} (h : Pk K H (vw H (hid F A)) v (.tuple ds)) : ∃ a vs, v = .ref a ∧ H a = some (.tup vs) ∧ vw H (hid F A) a = some (.tup vs) ∧ RpL K (vw H (hid F A)) vs ds := by
  rcases h with h | ⟨a, rfl, h⟩
  · cases h with
    | tup e r => exact ⟨_, _, rfl, (vw_some e).2, e, r⟩
  · exact h.elim
theorem Pk.int {W' : Hp} {v : V} {i : Int} (h : Pk K H W' v (.int i)) : v = .int i := by
  rcases h with h | ⟨a, _, h⟩
  · cases h; rfl
  · exact h.elim
theorem Pk.bool {W' : Hp} {v : V} {i : Bool} (h : Pk K H W' v (.bool i)) : v = .bl i := by
  rcases h with h | ⟨a, _, h⟩
  · cases h; rfl
  · exact h.elim
theorem Pk.str {W' : Hp} {v : V} {i : Str} (h : Pk K H W' v (.str i)) : v = .str i := by
  rcases h with h | ⟨a, _, h⟩
  · cases h; rfl
  · exact h.elim
theorem Pk.none {W' : Hp} {v : V} (h : Pk K H W' v .none) : v = .non := by
  rcases h with h | ⟨a, _, h⟩
  · cases h; rfl
  · exact h.elim
theorem Pk.dp {v : V} {d : D} (h : Pk K H (vw H (hid F A)) v d) : Dp K H v d := by
  rcases h with h | ⟨a, rfl, h⟩
  · exact (h.mono (vw_same _ _)).dp
  · cases d with
    | list ds => obtain ⟨vs, e, r⟩ := h; exact .lst (.of e) (r.mono (vw_same _ _)).dp
    | _ => exact h.elim
end

/-! ### values -/
section
variable {X : Cx} {K : PySem.W.Frag} {mg : Str → Option Value} {W : WX} {n : Nat} {pos : Pos}
def fC (d : D) : EF := fun ρ => .ok (.sh d, ρ)
theorem ev_c {v : V} {d : D} {e : Expr} (h : PE X e (tC v)) (r : ∀ H, Rp K H v d) : PE X e (TF K mg W (fC d)) :=
  pe_imp h fun σ H Q ⟨F, ρ, A, g, po⟩ => po v H ⟨A, g, Stp.refl, r _⟩
theorem ev_int {i : Int} {j} : PE X (.Constant (.int i) j pos) (TF K mg W (fC (.int i))) := ev_c pe_int fun _ => .int i
theorem ev_bl {i : Bool} {j} : PE X (.Constant (.bool i) j pos) (TF K mg W (fC (.bool i))) := ev_c pe_bl fun _ => .bl i
theorem ev_non {j} : PE X (.Constant .none j pos) (TF K mg W (fC .none)) := ev_c pe_non fun _ => .non
theorem ev_str {i : Str} {j} : PE X (.Constant (.str i) j pos) (TF K mg W (fC (.str i))) := ev_c pe_str fun _ => .str i
/-- a module's constant -/
theorem ev_glob {x : Str} {i : Int} {t : Tok} (c : Ct X K mg W n) (hg : Gl X x) (hm : mg x = some (.int i t)) (hd : (x == ("__debug__" : Str)) = false := by decide) : PE X (.Name x pos) (TF K mg W (fC (.int i))) := by
  refine ev_c (pe_glob (v := .int i) hg (by rw [c.m]; exact hm) ⟨t, rfl⟩ hd) fun _ => .int i
theorem ev_globS {x y : Str} {t : Tok} (c : Ct X K mg W n) (hg : Gl X x) (hm : mg x = some (.str y t)) (hd : (x == ("__debug__" : Str)) = false := by decide) : PE X (.Name x pos) (TF K mg W (fC (.str y))) := by
  refine ev_c (pe_glob (v := .str y) hg (by rw [c.m]; exact hm) ⟨t, rfl⟩ hd) fun _ => .str y
/-- a name's value, to be kept by others: what was the frame's own is shared from then on -/
def fN (i : Nat) : EF := fun ρ => match ρ[i]? with
  | some (.sh d) => .ok (.sh d, ρ)
  | some (.ow d) => .ok (.sh d, ρ.set i (.sh d))
  | some (.fz ns) => .ok (.fz ns, ρ)
  | some (.sd t) => .ok (.sd t, ρ)
  | some (.od t) => .ok (.sd t, ρ.set i (.sd t))
  | _ => .no
/-- a name's value, handed on for good -/
def fM (i : Nat) : EF := fun ρ => match ρ[i]? with
  | some (.sh d) => .ok (.sh d, ρ)
  | some (.ow d) => .ok (.ow d, ρ.set i .u)
  | some (.sd t) => .ok (.sd t, ρ)
  | some (.od t) => .ok (.od t, ρ.set i .u)
  | _ => .no
section
variable {F : Addr → Prop} {σ : St} {H H1 H2 : Hp} {ρ ρ1 ρ2 : List S} {A A1 A2 : List (Option Addr)}
theorem lt_of_ix {α : Type} {l : List α} {i : Nat} {x : α} (h : l[i]? = some x) : i < l.length := (List.getElem?_eq_some_iff.mp h).1
theorem mem_set_none {i : Nat} {b : Addr} (h : some b ∈ A.set i none) : some b ∈ A := by
  rcases List.mem_or_eq_of_mem_set h with z | z
  · exact z
  · cases z
theorem mem_set_ne {i : Nat} {a b : Addr} (g : Good K F σ H ρ A) (ha : A[i]? = some (some a)) (h : some b ∈ A) (ne : b ≠ a) : some b ∈ A.set i none := by
  obtain ⟨j, e⟩ := ix_of_mem h
  have hij : i ≠ j := fun z => by subst z; rw [ha] at e; cases e; exact ne rfl
  have : (A.set i none)[j]? = some (some b) := by rw [List.getElem?_set_ne hij]; exact e
  exact mem_of_ix this
/-- a slot's own thing is let go of -/
theorem Good.let {i : Nat} {a : Addr} {s : S} (g : Good K F σ H ρ A) (ha : A[i]? = some (some a)) (hs : SlotOk K H (vw H (hid F (A.set i none))) (σ[i]?) (some none) s) : Good K F σ H (ρ.set i s) (A.set i none) := by
  have hi : i < A.length := lt_of_ix ha
  refine ⟨by rw [List.length_set]; exact g.l1, by rw [List.length_set, List.length_set]; exact g.l2, fun j k b e1 e2 => ?_, fun j b e => ?_, g.trk, fun j s' e => ?_⟩
  · by_cases hj : i = j
    · subst hj; rw [List.getElem?_set_self hi] at e1; cases e1
    · rw [List.getElem?_set_ne hj] at e1
      by_cases hk : i = k
      · subst hk; rw [List.getElem?_set_self hi] at e2; cases e2
      · rw [List.getElem?_set_ne hk] at e2
        exact g.inj j k b e1 e2
  · by_cases hj : i = j
    · subst hj; rw [List.getElem?_set_self hi] at e; cases e
    · rw [List.getElem?_set_ne hj] at e
      exact g.dis j b e
  · by_cases hj : i = j
    · subst hj
      have hr : i < ρ.length := by rw [← g.l2]; exact hi
      rw [List.getElem?_set_self hr] at e; cases e
      rw [List.getElem?_set_self hi]
      exact hs
    · rw [List.getElem?_set_ne hj] at e
      rw [List.getElem?_set_ne hj]
      exact (g.slot j s' e).mono (fun _ _ => rfl) (vw_mono (fun b z => z.elim .inl fun q => .inr (mem_set_none q)) fun _ _ _ q => q)
theorem view_let {i : Nat} : Same (vw H (hid F A)) (vw H (hid F (A.set i none))) := vw_mono (fun b z => z.elim .inl fun q => .inr (mem_set_none q)) fun _ _ _ q => q
theorem Stp.let {i : Nat} {a : Addr} {s : S} (g : Good K F σ H ρ A) (ha : A[i]? = some (some a)) (hc : ∀ x y, ρ[i]? ≠ some (S.cu x y)) : Stp F H ρ A H (ρ.set i s) (A.set i none) := by
  refine ⟨fun _ _ => rfl, view_let, fun j x y e => ?_⟩
  have hj : i ≠ j := fun z => by subst z; exact hc x y e
  rw [List.getElem?_set_ne hj, List.getElem?_set_ne hj]
  exact ⟨rfl, x, y, e⟩
theorem not_hid_let {i : Nat} {a : Addr} (g : Good K F σ H ρ A) (ha : A[i]? = some (some a)) : ¬ hid F (A.set i none) a := by
  have hi : i < A.length := lt_of_ix ha
  rintro (z | z)
  · exact g.dis i a ha z
  · obtain ⟨j, e⟩ := ix_of_mem z
    by_cases hj : i = j
    · subst hj; rw [List.getElem?_set_self hi] at e; cases e
    · rw [List.getElem?_set_ne hj] at e
      exact hj (g.inj i j a ha e)
end
theorem ev_name {x : Str} (i : Nat) (hN : X.N[i]? = some x := by rfl) (hv : Vis X.env.scope x := by first | exact Or.inl rfl | exact Or.inr (Or.inl rfl) | exact Or.inr (Or.inr rfl)) (hd : (x == ("__debug__" : Str)) = false := by decide)
    (hcd : (x == ("__classdict__" : Str)) = false := by decide) : PE X (.Name x pos) (TF K mg W (fN i)) := by
  refine pe_imp (pe_var hN hv hd hcd) fun σ H Q ⟨F, ρ, A, g, po⟩ => ?_
  unfold fN at po
  cases q : ρ[i]? with
  | none => rw [q] at po; exact po.elim
  | some s =>
    have k := g.slot i s q
    rw [q] at po
    cases s with
    | u => exact po.elim
    | cu x y => exact po.elim
    | sh d => obtain ⟨e, v, e1, p⟩ := k; exact ⟨v, e1, po v H ⟨A, g, Stp.refl, p⟩⟩
    | fz d => obtain ⟨e, a, e1, p⟩ := k; exact ⟨.ref a, e1, po _ H ⟨A, g, Stp.refl, a, rfl, p⟩⟩
    | ow d =>
      obtain ⟨a, ha, e1, p⟩ := k
      refine ⟨.ref a, e1, po _ H ⟨A.set i none, g.let ha ⟨rfl, _, e1, ?_⟩, Stp.let g ha (fun x y z => by rw [q] at z; cases z), ?_⟩⟩
      · exact p.share view_let (vw_neg (not_hid_let g ha))
      · exact p.share view_let (vw_neg (not_hid_let g ha))
    | sd d => obtain ⟨e, a, e1, p⟩ := k; exact ⟨.ref a, e1, po _ H ⟨A, g, Stp.refl, a, rfl, p⟩⟩
    | od d =>
      obtain ⟨a, ha, e1, p⟩ := k
      refine ⟨.ref a, e1, po _ H ⟨A.set i none, g.let ha ⟨rfl, _, e1, ?_⟩, Stp.let g ha (fun x y z => by rw [q] at z; cases z), a, rfl, ?_⟩⟩
      · exact p.share view_let (vw_neg (not_hid_let g ha))
      · exact p.share view_let (vw_neg (not_hid_let g ha))
theorem ev_move {x : Str} (i : Nat) (hN : X.N[i]? = some x := by rfl) (hv : Vis X.env.scope x := by first | exact Or.inl rfl | exact Or.inr (Or.inl rfl) | exact Or.inr (Or.inr rfl)) (hd : (x == ("__debug__" : Str)) = false := by decide)
    (hcd : (x == ("__classdict__" : Str)) = false := by decide) : PE X (.Name x pos) (TF K mg W (fM i)) := by
  refine pe_imp (pe_var hN hv hd hcd) fun σ H Q ⟨F, ρ, A, g, po⟩ => ?_
  unfold fM at po
  cases q : ρ[i]? with
  | none => rw [q] at po; exact po.elim
  | some s =>
    have k := g.slot i s q
    rw [q] at po
    cases s with
    | u => exact po.elim
    | cu x y => exact po.elim
    | fz d => exact po.elim
    | sh d => obtain ⟨e, v, e1, p⟩ := k; exact ⟨v, e1, po v H ⟨A, g, Stp.refl, p⟩⟩
    | sd d => obtain ⟨e, a, e1, p⟩ := k; exact ⟨.ref a, e1, po _ H ⟨A, g, Stp.refl, a, rfl, p⟩⟩
    | ow d =>
      obtain ⟨a, ha, e1, p⟩ := k
      have hi := lt_of_ix ha
      have hcu : ∀ x y, ρ[i]? ≠ some (S.cu x y) := fun x y z => by rw [q] at z; cases z
      have eqv : ∀ b, hid F A b ↔ hid (adj F a) (A.set i none) b := fun b => by
        constructor
        · rintro (z | z)
          · exact .inl (.inl z)
          · by_cases hb : b = a
            · exact .inl (.inr hb)
            · exact .inr (mem_set_ne g ha z hb)
        · rintro ((z | z) | z)
          · exact .inl z
          · subst z; exact .inr (mem_of_ix ha)
          · exact .inr (mem_set_none z)
      have evw : vw H (hid F A) = vw H (hid (adj F a) (A.set i none)) := vw_congr eqv
      have gl : Good K F σ H (ρ.set i .u) (A.set i none) := g.let ha (s := .u) rfl
      refine ⟨.ref a, e1, po _ H ⟨A.set i none, a, rfl, g.dis i a ha, ?_, Stp.let g ha hcu, ?_, ?_⟩⟩
      · refine ⟨gl.l1, gl.l2, gl.inj, fun j b e z => ?_, fun b z => ?_, fun j s e => ?_⟩
        · rcases z with z | z
          · exact gl.dis j b e z
          · subst z; exact not_hid_let g ha (.inr (mem_of_ix e))
        · rcases z with z | z
          · exact g.trk b z
          · subst z; exact g.htr (.inr (mem_of_ix ha))
        · by_cases hj : i = j
          · subst hj
            rw [List.getElem?_set_self (lt_of_ix q)] at e; cases e
            rw [List.getElem?_set_self hi]
            exact rfl
          · rw [List.getElem?_set_ne hj] at e
            rw [List.getElem?_set_ne hj]
            exact (g.slot j s e).mono (fun _ _ => rfl) (by rw [← evw]; exact Same.refl _)
      · rw [← evw]; exact Same.refl _
      · rw [← evw]; exact p
    | od d =>
      obtain ⟨a, ha, e1, p⟩ := k
      have hi := lt_of_ix ha
      have hcu : ∀ x y, ρ[i]? ≠ some (S.cu x y) := fun x y z => by rw [q] at z; cases z
      have eqv : ∀ b, hid F A b ↔ hid (adj F a) (A.set i none) b := fun b => by
        constructor
        · rintro (z | z)
          · exact .inl (.inl z)
          · by_cases hb : b = a
            · exact .inl (.inr hb)
            · exact .inr (mem_set_ne g ha z hb)
        · rintro ((z | z) | z)
          · exact .inl z
          · subst z; exact .inr (mem_of_ix ha)
          · exact .inr (mem_set_none z)
      have evw : vw H (hid F A) = vw H (hid (adj F a) (A.set i none)) := vw_congr eqv
      have gl : Good K F σ H (ρ.set i .u) (A.set i none) := g.let ha (s := .u) rfl
      refine ⟨.ref a, e1, po _ H ⟨A.set i none, a, rfl, g.dis i a ha, ?_, Stp.let g ha hcu, ?_, ?_⟩⟩
      · refine ⟨gl.l1, gl.l2, gl.inj, fun j b e z => ?_, fun b z => ?_, fun j s e => ?_⟩
        · rcases z with z | z
          · exact gl.dis j b e z
          · subst z; exact not_hid_let g ha (.inr (mem_of_ix e))
        · rcases z with z | z
          · exact g.trk b z
          · subst z; exact g.htr (.inr (mem_of_ix ha))
        · by_cases hj : i = j
          · subst hj
            rw [List.getElem?_set_self (lt_of_ix q)] at e; cases e
            rw [List.getElem?_set_self hi]
            exact rfl
          · rw [List.getElem?_set_ne hj] at e
            rw [List.getElem?_set_ne hj]
            exact (g.slot j s e).mono (fun _ _ => rfl) (by rw [← evw]; exact Same.refl _)
      · rw [← evw]; exact Same.refl _
      · rw [← evw]; exact p

/-! ### operands -/
def oN (i : Nat) : OF := fun ρ => match ρ[i]? with
  | some (.sh _) => .ok (.ix i, ρ)
  | some (.ow _) => .ok (.ix i, ρ)
  | some (.cu _ _) => .ok (.ix i, ρ)
  | _ => .no
def oE (f : EF) : OF := fun ρ => f ρ >>= fun p => match p.1 with
  | .sh d => .ok (.dt d, p.2)
  | .ow d => .ok (.dt d, p.2)
  | _ => .no
theorem op_name {x : Str} (i : Nat) (hN : X.N[i]? = some x := by rfl) (hv : Vis X.env.scope x := by first | exact Or.inl rfl | exact Or.inr (Or.inl rfl) | exact Or.inr (Or.inr rfl)) (hd : (x == ("__debug__" : Str)) = false := by decide)
    (hcd : (x == ("__classdict__" : Str)) = false := by decide) : PE X (.Name x pos) (TO' K mg W (oN i)) := by
  refine pe_imp (pe_var hN hv hd hcd) fun σ H Q ⟨F, ρ, A, g, po⟩ => ?_
  unfold oN at po
  cases q : ρ[i]? with
  | none => rw [q] at po; exact po.elim
  | some s =>
    have k := g.slot i s q
    rw [q] at po
    cases s with
    | u => exact po.elim
    | fz d => exact po.elim
    | sd d => exact po.elim
    | od d => exact po.elim
    | cu x y => obtain ⟨a, ha, e1, p⟩ := k; exact ⟨.ref a, e1, po _ H A g Stp.refl e1⟩
    | sh d => obtain ⟨e, v, e1, p⟩ := k; exact ⟨v, e1, po v H A g Stp.refl e1⟩
    | ow d => obtain ⟨a, ha, e1, p⟩ := k; exact ⟨.ref a, e1, po _ H A g Stp.refl e1⟩
theorem op_e {e : Expr} {f : EF} (h : PE X e (TF K mg W f)) : PE X e (TO' K mg W (oE f)) := by
  refine pe_imp h fun σ H Q ⟨F, ρ, A, g, po⟩ => ⟨F, ρ, A, g, ?_⟩
  unfold oE at po
  cases q : f ρ with
  | no => rw [q] at po; exact po.elim
  | ex ρ' c fs => rw [q] at po; exact po
  | ok p =>
    obtain ⟨r, ρ'⟩ := p
    rw [q] at po
    cases r with
    | sh d => intro v H' ⟨A', g', s', p'⟩; exact po v H' A' g' s' p'
    | ow d => intro v H' fin; obtain ⟨A', g', s', p'⟩ := fin.weak; exact po v H' A' g' s' p'
    | _ => exact po.elim
end
end Z
end
section
namespace Z
open PySem PySem.Spec L2

/-! ### operations on values -/
def BinOk (K : PySem.W.Frag) (r : R2) (g : D → D → Option S) : Prop :=
  ∀ (F : Addr → Prop) (σ : St) (H : Hp) (ρ : List S) (A : List (Option Addr)) (x y : V) (dx dy : D) (res : S), Good K F σ H ρ A → Pk K H (vw H (hid F A)) x dx → Pk K H (vw H (hid F A)) y dy → g dx dy = some res →
    ∀ Q : VK, (∀ v H', Fin K F σ H ρ A res ρ v H' → Q v H') → r x y H Q
def CallOk (K : PySem.W.Frag) (r : List V → Hp → VK → Prop) (g : List D → Option S) : Prop :=
  ∀ (F : Addr → Prop) (σ : St) (H : Hp) (ρ : List S) (A : List (Option Addr)) (xs : List V) (ds : List D) (res : S), Good K F σ H ρ A → Paired (Pk K H (vw H (hid F A))) xs ds → g ds = some res →
    ∀ Q : VK, (∀ v H', Fin K F σ H ρ A res ρ v H' → Q v H') → r xs H Q
def fOp (g : D → D → Option S) (fa fb : OF) : EF := fun ρ => fa ρ >>= fun p => fb p.2 >>= fun q => Rs.of (look p.1 q.2) >>= fun d1 => Rs.of (look q.1 q.2) >>= fun d2 => Rs.of (g d1 d2) >>= fun r => .ok (r, q.2)

section
variable {K : PySem.W.Frag} {mg : Str → Option Value} {W : WX} {F : Addr → Prop} {σ : St} {H : Hp} {ρ : List S} {A : List (Option Addr)}
/-- an operand in front of what follows -/
theorem seqO {fa : OF} {α : Type} {k : (Hd × List S) → Rs α} (g : Good K F σ H ρ A) {po : Rs α → Prop} (hno : ¬ po .no) (hex : ∀ ρ' c fs, po (.ex ρ' c fs) → PoX K mg W F σ H ρ A ρ' c fs) (h : po (fa ρ >>= k)) {Q : VK}
    (hk : ∀ (hd : Hd) (ρ1 : List S) (v : V) (H1 : Hp) (A1 : List (Option Addr)), Good K F σ H1 ρ1 A1 → Stp F H ρ A H1 ρ1 A1 → HRep K σ (vw H1 (hid F A1)) v hd → po (k (hd, ρ1)) → Q v H1) : TO' K mg W fa σ H Q := by
  refine ⟨F, ρ, A, g, ?_⟩
  cases e : fa ρ with
  | no => rw [e] at h; exact (hno h).elim
  | ex ρ' c fs => rw [e] at h; exact hex _ _ _ h
  | ok p =>
    obtain ⟨hd, ρ1⟩ := p
    rw [e] at h
    exact fun v H1 A1 g1 s1 r1 => hk hd ρ1 v H1 A1 g1 s1 r1 h
theorem seqE {fa : EF} {α : Type} {k : (S × List S) → Rs α} (g : Good K F σ H ρ A) {po : Rs α → Prop} (hno : ¬ po .no) (hex : ∀ ρ' c fs, po (.ex ρ' c fs) → PoX K mg W F σ H ρ A ρ' c fs) (h : po (fa ρ >>= k)) {Q : VK}
    (hk : ∀ (r : S) (ρ1 : List S) (v : V) (H1 : Hp), Fin K F σ H ρ A r ρ1 v H1 → po (k (r, ρ1)) → Q v H1) : TF K mg W fa σ H Q := by
  refine ⟨F, ρ, A, g, ?_⟩
  cases e : fa ρ with
  | no => rw [e] at h; exact (hno h).elim
  | ex ρ' c fs => rw [e] at h; exact hex _ _ _ h
  | ok p =>
    obtain ⟨r, ρ1⟩ := p
    rw [e] at h
    exact fun v H1 f1 => hk r ρ1 v H1 f1 h
theorem seqB {fa : BF} {α : Type} {k : (Bool × List S) → Rs α} (g : Good K F σ H ρ A) {po : Rs α → Prop} (hno : ¬ po .no) (hex : ∀ ρ' c fs, po (.ex ρ' c fs) → PoX K mg W F σ H ρ A ρ' c fs) (h : po (fa ρ >>= k)) {Q : Bool → Hp → Prop}
    (hk : ∀ (r : Bool) (ρ1 : List S) (H1 : Hp) (A1 : List (Option Addr)), Good K F σ H1 ρ1 A1 → Stp F H ρ A H1 ρ1 A1 → po (k (r, ρ1)) → Q r H1) : TB' K mg W fa σ H Q := by
  refine ⟨F, ρ, A, g, ?_⟩
  cases e : fa ρ with
  | no => rw [e] at h; exact (hno h).elim
  | ex ρ' c fs => rw [e] at h; exact hex _ _ _ h
  | ok p =>
    obtain ⟨r, ρ1⟩ := p
    rw [e] at h
    exact fun H1 A1 g1 s1 => hk r ρ1 H1 A1 g1 s1 h
theorem seqA {fa : AF} {α : Type} {k : (List S × List S) → Rs α} (g : Good K F σ H ρ A) {po : Rs α → Prop} (hno : ¬ po .no) (hex : ∀ ρ' c fs, po (.ex ρ' c fs) → PoX K mg W F σ H ρ A ρ' c fs) (h : po (fa ρ >>= k)) {Q : List V → Hp → Prop}
    (hk : ∀ (r : List S) (ρ1 : List S) (vs : List V) (H1 : Hp) (A1 : List (Option Addr)), Good K F σ H1 ρ1 A1 → Stp F H ρ A H1 ρ1 A1 → SReps K (vw H1 (hid F A1)) vs r → po (k (r, ρ1)) → Q vs H1) : TAr K mg W fa σ H Q := by
  refine ⟨F, ρ, A, g, ?_⟩
  cases e : fa ρ with
  | no => rw [e] at h; exact (hno h).elim
  | ex ρ' c fs => rw [e] at h; exact hex _ _ _ h
  | ok p =>
    obtain ⟨r, ρ1⟩ := p
    rw [e] at h
    exact fun vs H1 A1 g1 s1 r1 => hk r ρ1 vs H1 A1 g1 s1 r1 h
theorem seqH {fa : HF} {α : Type} {k : (List Hd × List S) → Rs α} (g : Good K F σ H ρ A) {po : Rs α → Prop} (hno : ¬ po .no) (hex : ∀ ρ' c fs, po (.ex ρ' c fs) → PoX K mg W F σ H ρ A ρ' c fs) (h : po (fa ρ >>= k)) {Q : List V → Hp → Prop}
    (hk : ∀ (r : List Hd) (ρ1 : List S) (vs : List V) (H1 : Hp) (A1 : List (Option Addr)), Good K F σ H1 ρ1 A1 → Stp F H ρ A H1 ρ1 A1 → HReps K σ (vw H1 (hid F A1)) vs r → po (k (r, ρ1)) → Q vs H1) : TH K mg W fa σ H Q := by
  refine ⟨F, ρ, A, g, ?_⟩
  cases e : fa ρ with
  | no => rw [e] at h; exact (hno h).elim
  | ex ρ' c fs => rw [e] at h; exact hex _ _ _ h
  | ok p =>
    obtain ⟨r, ρ1⟩ := p
    rw [e] at h
    exact fun vs H1 A1 g1 s1 r1 => hk r ρ1 vs H1 A1 g1 s1 r1 h
/-- what may be stuck -/
theorem seqOpt {α β : Type} {o : Option α} {k : α → Rs β} {po : Rs β → Prop} (hno : ¬ po .no) (h : po (Rs.of o >>= k)) : ∃ a, o = some a ∧ po (k a) := by
  cases o with
  | none => exact (hno h).elim
  | some a => exact ⟨a, rfl, h⟩
theorem poE_no {Q : VK} : ¬ PoE K mg W F σ H ρ A .no Q := fun z => z
theorem poE_ex {Q : VK} (ρ' : List S) (c : Str) (fs : List (Str × D)) (h : PoE K mg W F σ H ρ A (.ex ρ' c fs) Q) : PoX K mg W F σ H ρ A ρ' c fs := h
theorem poE_exS {Q : VK} {H1 : Hp} {ρ1 : List S} {A1 : List (Option Addr)} (s : Stp F H ρ A H1 ρ1 A1) (ρ' : List S) (c : Str) (fs : List (Str × D)) (h : PoE K mg W F σ H ρ A (.ex ρ' c fs) Q) : PoX K mg W F σ H1 ρ1 A1 ρ' c fs := PoX.of s h
theorem poO_no {Q : VK} : ¬ PoO K mg W F σ H ρ A .no Q := fun z => z
theorem poO_exS {Q : VK} {H1 : Hp} {ρ1 : List S} {A1 : List (Option Addr)} (s : Stp F H ρ A H1 ρ1 A1) (ρ' : List S) (c : Str) (fs : List (Str × D)) (h : PoO K mg W F σ H ρ A (.ex ρ' c fs) Q) : PoX K mg W F σ H1 ρ1 A1 ρ' c fs := PoX.of s h
theorem poB_no {Q : Bool → Hp → Prop} : ¬ PoT K mg W F σ H ρ A .no Q := fun z => z
theorem poB_exS {Q : Bool → Hp → Prop} {H1 : Hp} {ρ1 : List S} {A1 : List (Option Addr)} (s : Stp F H ρ A H1 ρ1 A1) (ρ' : List S) (c : Str) (fs : List (Str × D)) (h : PoT K mg W F σ H ρ A (.ex ρ' c fs) Q) : PoX K mg W F σ H1 ρ1 A1 ρ' c fs := PoX.of s h
theorem poA_no {Q : List V → Hp → Prop} : ¬ PoA K mg W F σ H ρ A .no Q := fun z => z
theorem poA_exS {Q : List V → Hp → Prop} {H1 : Hp} {ρ1 : List S} {A1 : List (Option Addr)} (s : Stp F H ρ A H1 ρ1 A1) (ρ' : List S) (c : Str) (fs : List (Str × D)) (h : PoA K mg W F σ H ρ A (.ex ρ' c fs) Q) : PoX K mg W F σ H1 ρ1 A1 ρ' c fs := PoX.of s h
theorem poH_no {Q : List V → Hp → Prop} : ¬ PoH K mg W F σ H ρ A .no Q := fun z => z
theorem poH_exS {Q : List V → Hp → Prop} {H1 : Hp} {ρ1 : List S} {A1 : List (Option Addr)} (s : Stp F H ρ A H1 ρ1 A1) (ρ' : List S) (c : Str) (fs : List (Str × D)) (h : PoH K mg W F σ H ρ A (.ex ρ' c fs) Q) : PoX K mg W F σ H1 ρ1 A1 ρ' c fs := PoX.of s h
end

section
variable {X : Cx} {K : PySem.W.Frag} {mg : Str → Option Value} {W : WX} {n : Nat} {pos : Pos} {a b c : Expr} {fa fb fc : OF} {r : R2} {g : D → D → Option S}
theorem op2 (hr : BinOk K r g) : ∀ σ H Q, TF K mg W (fOp g fa fb) σ H Q → tOp r (TO' K mg W fa) (TO' K mg W fb) σ H Q := by
  intro σ H Q ⟨F, ρ, A, gd, po⟩
  refine seqO gd (po := fun o => PoE K mg W F σ H ρ A o Q) poE_no (poE_exS Stp.refl) po fun h1 ρ1 v1 H1 A1 g1 s1 r1 po => ?_
  refine seqO g1 (po := fun o => PoE K mg W F σ H ρ A o Q) poE_no (poE_exS s1) po fun h2 ρ2 v2 H2 A2 g2 s2 r2 po => ?_
  obtain ⟨d1, e1, po⟩ := seqOpt (po := fun o => PoE K mg W F σ H ρ A o Q) poE_no po
  obtain ⟨d2, e2, po⟩ := seqOpt (po := fun o => PoE K mg W F σ H ρ A o Q) poE_no po
  obtain ⟨res, e3, po⟩ := seqOpt (po := fun o => PoE K mg W F σ H ρ A o Q) poE_no po
  exact hr F σ H2 ρ2 A2 v1 v2 d1 d2 res g2 (look_ok g2 (r1.mono s2.vs) e1) (look_ok g2 r2 e2) e3 Q fun v H' f => po v H' (f.trans (s1.trans s2))
theorem ev_op {op : Operator} (ho : OpR X (binaryOp op) r) (hr : BinOk K r g) (ha : PE X a (TO' K mg W fa)) (hb : PE X b (TO' K mg W fb)) : PE X (.BinOp a op b pos) (TF K mg W (fOp g fa fb)) :=
  pe_imp (pe_op ho ha hb) (op2 hr)
theorem ev_cmp {op : CmpOp} (ho : OpR X (compareOp op) r) (hr : BinOk K r g) (ha : PE X a (TO' K mg W fa)) (hb : PE X b (TO' K mg W fb)) (hm : behindInMarks op b = false) : PE X (.Compare a [op] [b] pos) (TF K mg W (fOp g fa fb)) :=
  pe_imp (pe_cmpR ho ha hb hm) (op2 hr)
theorem ev_ix (ho : IxR X r) (hr : BinOk K r g) (ha : PE X a (TO' K mg W fa)) (hb : PE X b (TO' K mg W fb)) (hs : PlainIx b) : PE X (.Subscript a b pos) (TF K mg W (fOp g fa fb)) :=
  pe_imp (pe_ix ho ha hb hs) (op2 hr)
/-- a truth value of a result -/
def bOf (f : EF) : BF := fun ρ => f ρ >>= fun p => match p.1 with
  | .sh (.bool b) => .ok (b, p.2)
  | _ => .no
theorem b_of {e : Expr} {f : EF} {t : TT} {te : TE} (h : PT X e (tTest te)) (m : ∀ σ H Q, TF K mg W f σ H Q → te σ H Q) : PT X e (TB' K mg W (bOf f)) := by
  refine pt_imp h fun σ H Q ⟨F, ρ, A, gd, po⟩ => m σ H _ ?_
  refine seqE gd (po := fun o => PoT K mg W F σ H ρ A o Q) poB_no (poB_exS Stp.refl) po fun r1 ρ1 v1 H1 f1 po => ?_
  cases r1 with
  | sh d =>
    cases d with
    | bool b =>
      obtain ⟨A1, g1, s1, p⟩ := f1
      cases p
      exact ⟨b, rfl, po H1 A1 g1 s1⟩
    | _ => exact po.elim
  | _ => exact po.elim
theorem bt_cmp {op : CmpOp} (ho : OpR X (compareOp op) r) (hr : BinOk K r g) (ha : PE X a (TO' K mg W fa)) (hb : PE X b (TO' K mg W fb)) (hm : behindInMarks op b = false) : PT X (.Compare a [op] [b] pos) (TB' K mg W (bOf (fOp g fa fb))) :=
  b_of (t := tTest (tOp r (TO' K mg W fa) (TO' K mg W fb))) (pt_cmpR ho ha hb hm) (op2 hr)
/-! chains: a < b < c -/
def fChain (g g' : D → D → Option S) (fa fb fc : OF) : EF := fun ρ => fa ρ >>= fun p => fb p.2 >>= fun q => Rs.of (look p.1 q.2) >>= fun d1 => Rs.of (look q.1 q.2) >>= fun d2 => Rs.of (g d1 d2) >>= fun r =>
  match r with
  | .sh (.bool true) => fc q.2 >>= fun t => Rs.of (look q.1 t.2) >>= fun d2 => Rs.of (look t.1 t.2) >>= fun d3 => Rs.of (g' d2 d3) >>= fun r => .ok (r, t.2)
  | .sh (.bool false) => .ok (.sh (.bool false), q.2)
  | _ => .no
theorem chain2 {r' : R2} {g' : D → D → Option S} (hr : BinOk K r g) (hr' : BinOk K r' g') : ∀ σ H Q, TF K mg W (fChain g g' fa fb fc) σ H Q → tChain r r' (TO' K mg W fa) (TO' K mg W fb) (TO' K mg W fc) σ H Q := by
  intro σ H Q ⟨F, ρ, A, gd, po⟩
  refine seqO gd (po := fun o => PoE K mg W F σ H ρ A o Q) poE_no (poE_exS Stp.refl) po fun h1 ρ1 v1 H1 A1 g1 s1 r1 po => ?_
  refine seqO g1 (po := fun o => PoE K mg W F σ H ρ A o Q) poE_no (poE_exS s1) po fun h2 ρ2 v2 H2 A2 g2 s2 r2 po => ?_
  obtain ⟨d1, e1, po⟩ := seqOpt (po := fun o => PoE K mg W F σ H ρ A o Q) poE_no po
  obtain ⟨d2, e2, po⟩ := seqOpt (po := fun o => PoE K mg W F σ H ρ A o Q) poE_no po
  obtain ⟨res, e3, po⟩ := seqOpt (po := fun o => PoE K mg W F σ H ρ A o Q) poE_no po
  refine hr F σ H2 ρ2 A2 v1 v2 d1 d2 res g2 (look_ok g2 (r1.mono s2.vs) e1) (look_ok g2 r2 e2) e3 _ fun v H3 f3 => ?_
  cases res with
  | sh d =>
    cases d with
    | bool k =>
      obtain ⟨A3, g3, s3, p3⟩ := f3
      cases p3
      refine ⟨k, rfl, ?_⟩
      cases k with
      | false => exact po (.bl false) H3 ⟨A3, g3, (s1.trans s2).trans s3, .bl false⟩
      | true =>
        show TO' K mg W fc σ H3 _
        refine seqO g3 (po := fun o => PoE K mg W F σ H ρ A o Q) poE_no (poE_exS ((s1.trans s2).trans s3)) po fun h4 ρ4 v4 H4 A4 g4 s4 r4 po => ?_
        obtain ⟨d5, e5, po⟩ := seqOpt (po := fun o => PoE K mg W F σ H ρ A o Q) poE_no po
        obtain ⟨d6, e6, po⟩ := seqOpt (po := fun o => PoE K mg W F σ H ρ A o Q) poE_no po
        obtain ⟨res, e7, po⟩ := seqOpt (po := fun o => PoE K mg W F σ H ρ A o Q) poE_no po
        exact hr' F σ H4 ρ4 A4 v2 v4 d5 d6 res g4 (look_ok g4 (r2.mono (s3.trans s4).vs) e5) (look_ok g4 r4 e6) e7 Q fun v H' f => po v H' (f.trans (((s1.trans s2).trans s3).trans s4))
    | _ => exact po.elim
  | _ => exact po.elim
theorem ev_chain {op op' : CmpOp} {r' : R2} {g' : D → D → Option S} (ho : OpR X (compareOp op) r) (ho' : OpR X (compareOp op') r') (hr : BinOk K r g) (hr' : BinOk K r' g') (ha : PE X a (TO' K mg W fa)) (hb : PE X b (TO' K mg W fb)) (hc : PE X c (TO' K mg W fc))
    (hm : lastMarks [op, op'] [b, c] = false := by with_unfolding_all rfl) : PE X (.Compare a [op, op'] [b, c] pos) (TF K mg W (fChain g g' fa fb fc)) := pe_imp (pe_chain ho ho' ha hb hc hm) (chain2 hr hr')
theorem bt_chain {op op' : CmpOp} {r' : R2} {g' : D → D → Option S} (ho : OpR X (compareOp op) r) (ho' : OpR X (compareOp op') r') (hr : BinOk K r g) (hr' : BinOk K r' g') (ha : PE X a (TO' K mg W fa)) (hb : PE X b (TO' K mg W fb)) (hc : PE X c (TO' K mg W fc))
    (hm : lastMarks [op, op'] [b, c] = false := by with_unfolding_all rfl) : PT X (.Compare a [op, op'] [b, c] pos) (TB' K mg W (bOf (fChain g g' fa fb fc))) :=
  b_of (t := tTest (tChain r r' (TO' K mg W fa) (TO' K mg W fb) (TO' K mg W fc))) (pt_chain ho ho' ha hb hc hm) (chain2 hr hr')
end
end Z
end
section
namespace Z
open PySem PySem.Spec L2 PyProof.Rows
/-! ### tuple * int where nothing, or the tuple itself, comes out -/
theorem tuple_mulS (l : Addr) (items : Array Value) (n : Nat) (dd : Option Addr) (sl : Array (Option Value)) (x : Int) (u : Tok) (c0 : (decide (x < -(2 ^ 63)) || decide (x ≥ 2 ^ 63)) = false) (c1 : (items.isEmpty || x == 1) = true) :
    Meets (Builtin.«tuple.__mul__» ⟨[.ref l, .int x u], []⟩) (fun _ R s => s.heap.get? l = some { cls := .type "tuple", dict := dd, data := .seq items n, slots := sl } ∧
      R (.ok (.ret (Value.ref l))) s) :=
  .of_wp fun prog w A R s h => by
    obtain ⟨hp, g, d, tk, os⟩ := s
    obtain ⟨hl, h⟩ := h
    have f1 := AutoSeq1.idx_int
    wp_walk using wpAny_loadPart' hl
    repeat (first
      | (refine wpAny_ite_false (decide_eq_false (by rw [c0]; exact Bool.false_ne_true)) ?_; wp_walk using wpAny_loadPart' hl)
      | (refine wpAny_ite_true (decide_eq_true c1) ?_; wp_walk using wpAny_loadPart' hl))
    exact ⟨_, rfl, h⟩
theorem tuple_mulZ (l : Addr) (items : Array Value) (n : Nat) (dd : Option Addr) (sl : Array (Option Value)) (x : Int) (u : Tok) (c0 : (decide (x < -(2 ^ 63)) || decide (x ≥ 2 ^ 63)) = false) (c1 : (items.isEmpty || x == 1) = false) (c2 : (decide (x ≤ 0) || items.isEmpty) = true) :
    Meets (Builtin.«tuple.__mul__» ⟨[.ref l, .int x u], []⟩) (fun _ R s => s.heap.get? l = some { cls := .type "tuple", dict := dd, data := .seq items n, slots := sl } ∧
      R (.ok (.ret (Value.ref s.heap.objs.size))) { s with heap := s.heap.push { cls := Value.type "tuple", data := Data.seq #[] }, toks := s.toks }) :=
  .of_wp fun prog w A R s h => by
    obtain ⟨hp, g, d, tk, os⟩ := s
    obtain ⟨hl, h⟩ := h
    have f1 := AutoSeq1.idx_int
    wp_walk using wpAny_loadPart' hl
    repeat (first
      | (refine wpAny_ite_false (decide_eq_false (by rw [c0]; exact Bool.false_ne_true)) ?_; wp_walk using wpAny_loadPart' hl)
      | (refine wpAny_ite_false (decide_eq_false (by rw [c1]; exact Bool.false_ne_true)) ?_; wp_walk using wpAny_loadPart' hl)
      | (refine wpAny_ite_true (decide_eq_true c2) ?_; wp_walk using wpAny_loadPart' hl))
    exact ⟨_, rfl, h⟩
def rRepS (K : PySem.W.Frag) : R2 := fun x y H Q => ∃ l k xs, x = .ref l ∧ y = .int k ∧ SqT K H l xs ∧ (xs = [] ∨ k = 1) ∧ k.natAbs < 9223372036854775808 ∧ Q (.ref l) H
def rRepZ (K : PySem.W.Frag) : R2 := fun x y H Q => ∃ l k xs, x = .ref l ∧ y = .int k ∧ SqT K H l xs ∧ xs ≠ [] ∧ k ≤ 0 ∧ k.natAbs < 9223372036854775808 ∧ ∀ p, H p = none → Q (.ref p) (upd H p (.tup []))
def rRepTW (K : PySem.W.Frag) : R2 := fun x y H Q => ∃ l k xs, x = .ref l ∧ y = .int k ∧ SqT K H l xs ∧ xs ≠ [] ∧ 2 ≤ k ∧ k ≤ 1000000 ∧ xs.length * k.toNat ≤ 1000000 ∧ ∀ p, H p = none → Q (.ref p) (upd H p (.tup (List.replicate k.toNat xs).flatten))
theorem op_repTW {X : Cx} : OpR X (binaryOp .Mult) (rRepTW X.K) := by
  intro pins s σ H x y v u Q I rx ry h
  obtain ⟨l, k, xs, rfl, rfl, hT, hne, h1, h2, hz, q⟩ := h
  have hz2 : ((xs.length : Nat) : Int) * k ≤ 1000000 := by
    have e : k = (k.toNat : Int) := by omega
    rw [e, ← Int.natCast_mul]
    omega
  have hz3 : k.toNat * xs.length ≤ 1000000 := by rw [Nat.mul_comm]; exact hz
  cases rx
  obtain ⟨t, rfl⟩ := ry
  obtain ⟨its, r, ⟨⟨cls, dd, data, sl⟩, ho, hc, n, hd⟩, hs⟩ := I.tuple hT
  simp only at hc hd
  subst hc hd
  have hle : its.length = xs.length := r.length.symm
  have hn : its ≠ [] := fun e => hne (by
    rw [e] at hle
    exact List.eq_nil_of_length_eq_zero hle.symm)
  have hi : its.toArray.isEmpty = false := by
    cases its with
    | nil => exact absurd rfl hn
    | cons a b => rfl
  have hsz0 : its.toArray.size = xs.length := by rw [List.size_toArray, hle]
  have hm : ((its.toArray.size : Nat) : Int) * k ≤ 1000000 := by
    rw [hsz0]
    exact hz2
  have flen : (List.replicate k.toNat its).flatten.length ≤ sizeLine := by
    rw [PyProof.Rows.lm_len_rep_flat, hle, sizeLine_eq]
    omega
  have c0 : (decide (k < -(2 ^ 63)) || decide (k ≥ 2 ^ 63)) = false := by
    rw [decide_eq_false (by omega), decide_eq_false (by omega)] <;> rfl
  have c1 : (its.toArray.isEmpty || k == 1) = false := by
    rw [hi, Bool.false_or]
    exact beq_eq_false_iff_ne.mpr (by omega)
  have c2 : (decide (k ≤ 0) || its.toArray.isEmpty) = false := by
    rw [hi, Bool.or_false]
    exact decide_eq_false (by omega)
  have c4 : Builtin.Tuple.tupleTooMany (((its.toArray.size : Nat) : Int) * k) = false := by
    unfold Builtin.Tuple.tupleTooMany
    rw [sizeLine_eq]
    exact decide_eq_false (by omega)
  refine wpAny_binaryOp_repeat_ref (T := "tuple") (U := "int") (by decide) ⟨_, ho, rfl⟩ (fun s' => typeIs_int s' k t) noFill_tuple_mul F.fills_int_mul F.slot_int_rmul repeat_tuple F.slot_int_index.lookup
    (call_meets F.slot_int_rmul (typeIs_int s k t) F.entry_int_rmul (F.args_int_rmul_2 _ _) (int_rmul_tuple k t l its.toArray n dd sl)
      ⟨ho, rfl, ⟨_, ho, rfl⟩, call_meets F.slot_tuple_mul ⟨_, ho, rfl⟩ F.entry_tuple_mul (F.args_tuple_mul_2 _ _) (tuple_mulW l its.toArray n dd sl k t c0 c1 c2 (by omega) c4 (by rw [size_rep, List.size_toArray]; exact flen)) ⟨ho, ?_⟩⟩)
  rw [size_rep]
  refine ⟨.ref s.heap.objs.size, _, I.laid (t' := s.toks) (o := .tup (List.replicate k.toNat xs).flatten) (fun b ob q => Heap.get?_push_of_some _ q) (Nat.le_refl _) ?_, rfl, q _ (I.hok.fresh (Nat.le_refl _))⟩
  exact ⟨by rw [PyProof.Rows.lm_len_rep_flat, sizeLine_eq]; omega, _, r.rep k.toNat, IsTup.new _ _⟩
section
variable {X : Cx}
theorem op_repS : OpR X (binaryOp .Mult) (rRepS X.K) := by
  intro pins s σ H x y v u Q I rx ry h
  obtain ⟨l, k, xs, rfl, rfl, hT, hne, hk, q⟩ := h
  cases rx
  obtain ⟨t, rfl⟩ := ry
  obtain ⟨its, r, ⟨⟨cls, dd, data, sl⟩, ho, hc, n, hd⟩, hs⟩ := I.tuple hT
  simp only at hc hd
  subst hc hd
  have hle : its.length = xs.length := r.length.symm
  have c0 : (decide (k < -(2 ^ 63)) || decide (k ≥ 2 ^ 63)) = false := by
    rw [decide_eq_false (by omega), decide_eq_false (by omega)] <;> rfl
  have c1 : (its.toArray.isEmpty || k == 1) = true := by
    rcases hne with rfl | rfl
    · rw [List.eq_nil_of_length_eq_zero (hle.trans rfl)]; rfl
    · simp
  refine wpAny_binaryOp_repeat_ref (T := "tuple") (U := "int") (by decide) ⟨_, ho, rfl⟩ (fun s' => typeIs_int s' k t) noFill_tuple_mul F.fills_int_mul F.slot_int_rmul repeat_tuple F.slot_int_index.lookup
    (call_meets F.slot_int_rmul (typeIs_int s k t) F.entry_int_rmul (F.args_int_rmul_2 _ _) (int_rmul_tuple k t l its.toArray n dd sl)
      ⟨ho, rfl, ⟨_, ho, rfl⟩, call_meets F.slot_tuple_mul ⟨_, ho, rfl⟩ F.entry_tuple_mul (F.args_tuple_mul_2 _ _) (tuple_mulS l its.toArray n dd sl k t c0 c1) ⟨ho, ?_⟩⟩)
  exact ⟨.ref l, H, I, rfl, q⟩
theorem op_repZ : OpR X (binaryOp .Mult) (rRepZ X.K) := by
  intro pins s σ H x y v u Q I rx ry h
  obtain ⟨l, k, xs, rfl, rfl, hT, hne, h1, hk, q⟩ := h
  cases rx
  obtain ⟨t, rfl⟩ := ry
  obtain ⟨its, r, ⟨⟨cls, dd, data, sl⟩, ho, hc, n, hd⟩, hs⟩ := I.tuple hT
  simp only at hc hd
  subst hc hd
  have hle : its.length = xs.length := r.length.symm
  have hn : its ≠ [] := fun e => hne (by
    rw [e] at hle
    exact List.eq_nil_of_length_eq_zero hle.symm)
  have hi : its.toArray.isEmpty = false := by
    cases its with
    | nil => exact absurd rfl hn
    | cons a b => rfl
  have c0 : (decide (k < -(2 ^ 63)) || decide (k ≥ 2 ^ 63)) = false := by
    rw [decide_eq_false (by omega), decide_eq_false (by omega)] <;> rfl
  have c1 : (its.toArray.isEmpty || k == 1) = false := by
    rw [hi, Bool.false_or]
    exact beq_eq_false_iff_ne.mpr (by omega)
  have c2 : (decide (k ≤ 0) || its.toArray.isEmpty) = true := by
    rw [decide_eq_true h1]; rfl
  refine wpAny_binaryOp_repeat_ref (T := "tuple") (U := "int") (by decide) ⟨_, ho, rfl⟩ (fun s' => typeIs_int s' k t) noFill_tuple_mul F.fills_int_mul F.slot_int_rmul repeat_tuple F.slot_int_index.lookup
    (call_meets F.slot_int_rmul (typeIs_int s k t) F.entry_int_rmul (F.args_int_rmul_2 _ _) (int_rmul_tuple k t l its.toArray n dd sl)
      ⟨ho, rfl, ⟨_, ho, rfl⟩, call_meets F.slot_tuple_mul ⟨_, ho, rfl⟩ F.entry_tuple_mul (F.args_tuple_mul_2 _ _) (tuple_mulZ l its.toArray n dd sl k t c0 c1 c2) ⟨ho, ?_⟩⟩)
  refine ⟨.ref s.heap.objs.size, _, I.laid (t' := s.toks) (o := .tup []) (fun b ob q => Heap.get?_push_of_some _ q) (Nat.le_refl _) ?_, rfl, q _ (I.hok.fresh (Nat.le_refl _))⟩
  exact ⟨by rw [sizeLine_eq]; decide, [], .nil, IsTup.new _ _⟩
end
end Z
end
section
namespace Z
open PySem PySem.Spec L2

mutual
theorem Rp.plain {K : PySem.W.Frag} {H : Hp} : ∀ {v : V} {d : D}, Rp K H v d → d.plain = true
  | _, _, .non => rfl
  | _, _, .bl b => rfl
  | _, _, .int i => rfl
  | _, _, .str x => rfl
  | _, _, .lst e r => by simp only [PyData.plain]; exact RpL.plain r
  | _, _, .tup e r => by simp only [PyData.plain]; exact RpL.plain r
theorem RpL.plain {K : PySem.W.Frag} {H : Hp} : ∀ {vs : List V} {ds : List D}, RpL K H vs ds → PyData.plainAll ds = true
  | _, _, .nil => rfl
  | _, _, .cons r t => by simp only [PyData.plainAll, Rp.plain r, RpL.plain t, Bool.and_self]
end
theorem Pk.plain {K : PySem.W.Frag} {H W' : Hp} {v : V} {d : D} (h : Pk K H W' v d) : d.plain = true := by
  rcases h with h | ⟨a, _, h⟩
  · exact h.plain
  · cases d with
    | list ds => obtain ⟨vs, _, r⟩ := h; simp only [PyData.plain]; exact r.plain
    | _ => exact h.elim

/-! ### results without a change of the heap -/
section
variable {K : PySem.W.Frag} {F : Addr → Prop} {σ : St} {H : Hp} {ρ : List S} {A : List (Option Addr)}
theorem Fin.here (g : Good K F σ H ρ A) {v : V} {d : D} (p : Rp K (vw H (hid F A)) v d) : Fin K F σ H ρ A (.sh d) ρ v H := ⟨A, g, Stp.refl, p⟩
/-- a new tuple -/
theorem Fin.newT (g : Good K F σ H ρ A) {p : Addr} (hp : H p = none) {vs : List V} {ds : List D} (r : RpL K (vw H (hid F A)) vs ds) : Fin K F σ H ρ A (.sh (.tuple ds)) ρ (.ref p) (upd H p (.tup vs)) :=
  ⟨A, g.upd_new hp, Stp.upd_new g hp, .tup (g.vw_upd hp) (r.mono (Stp.upd_new g hp).vs)⟩
/-- a new list, one's own -/
theorem Fin.newL (g : Good K F σ H ρ A) {p : Addr} (hp : H p = none) {vs : List V} {ds : List D} (r : RpL K (vw H (hid F A)) vs ds) : Fin K F σ H ρ A (.ow (.list ds)) ρ (.ref p) (upd H p (.lst vs)) :=
  ⟨A, p, rfl, fun z => g.trk p z hp, g.hide_new hp, Stp.upd_new g hp, view_hide g hp, vs, upd_same, r.mono (view_hide g hp)⟩
end

section
variable {K : PySem.W.Frag}
theorem BinOk.or {r r' : R2} {g : D → D → Option S} (h : ∀ (F : Addr → Prop) (σ : St) (H : Hp) (ρ : List S) (A : List (Option Addr)) (x y : V) (dx dy : D) (res : S), Good K F σ H ρ A → Pk K H (vw H (hid F A)) x dx → Pk K H (vw H (hid F A)) y dy → g dx dy = some res →
    ∀ Q : VK, (∀ v H', Fin K F σ H ρ A res ρ v H' → Q v H') → r x y H Q ∨ r' x y H Q) : BinOk K (fun x y H Q => r x y H Q ∨ r' x y H Q) g := h

def S.i (i : Int) : S := .sh (.int i)
def S.b (b : Bool) : S := .sh (.bool b)
/-! arithmetic -/
def gAdd : D → D → Option S
  | .int i, .int j => some (.sh (.int (i + j)))
  | .list a, .list b => if a.length + b.length ≤ 16777216 then some (.ow (.list (a ++ b))) else none
  | .tuple a, .tuple b => if a.length + b.length ≤ 16777216 then some (.sh (.tuple (a ++ b))) else none
  | .str a, .str b => if a.length + b.length ≤ 16777216 then some (.sh (.str (a ++ b))) else none
  | _, _ => none
def rStrCat : R2 := fun x y H Q => ∃ i j, x = .str i ∧ y = .str j ∧ i.length + j.length ≤ sizeLine ∧ Q (.str (i ++ j)) H
def rAddZ (K : PySem.W.Frag) : R2 := fun x y H Q => rI0 (fun i j => .int (i + j)) x y H Q ∨ (rCat x y H Q ∨ (rCatA K x y H Q ∨ rStrCat x y H Q))
theorem or_addZ {X : Cx} : OpR X (binaryOp .Add) (rAddZ X.K) := op_add.or (op_cat.or (op_catA.or op_add_str))
theorem ok_add : BinOk K (rAddZ K) gAdd := by
  intro F σ H ρ A x y dx dy res g hx hy e Q q
  have sl := sizeLine_eq
  cases dx with
  | int i =>
    cases dy with
    | int j => cases e; exact .inl ⟨i, j, hx.int, hy.int, q _ _ (.here g (.int _))⟩
    | _ => cases e
  | list a =>
    cases dy with
    | list b =>
      simp only [gAdd] at e
      split at e
      · cases e
        obtain ⟨p, vs, rfl, e1, r1⟩ := hx.list
        obtain ⟨p2, ws, rfl, e2, r2⟩ := hy.list
        have l1 := r1.len
        have l2 := r2.len
        exact .inr (.inl ⟨p, p2, vs, ws, rfl, rfl, e1, e2, by omega, fun n hn => q _ _ (.newL g hn (r1.app r2))⟩)
      · cases e
    | _ => cases e
  | tuple a =>
    cases dy with
    | tuple b =>
      simp only [gAdd] at e
      split at e
      · cases e
        obtain ⟨p, vs, rfl, e1, v1, r1⟩ := hx.tuple
        obtain ⟨p2, ws, rfl, e2, v2, r2⟩ := hy.tuple
        have l1 := r1.len
        have l2 := r2.len
        refine .inr (.inr (.inl ⟨p, p2, vs, ws, rfl, rfl, .of e1, .of e2, by omega, fun z => ?_, fun _ z => ?_, fun _ _ n hn => q _ _ (.newT g hn (r1.app r2))⟩))
        · subst z
          cases r1
          exact q _ _ (.here g (.tup v2 r2))
        · subst z
          cases r2
          rw [List.append_nil] at q
          exact q _ _ (.here g (.tup v1 r1))
      · cases e
    | _ => cases e
  | str a =>
    cases dy with
    | str b =>
      simp only [gAdd] at e
      split at e
      · cases e
        exact .inr (.inr (.inr ⟨a, b, hx.str, hy.str, by omega, q _ _ (.here g (.str _))⟩))
      · cases e
    | _ => cases e
  | _ => cases e
def gSub : D → D → Option S
  | .int i, .int j => some (.sh (.int (i - j)))
  | _, _ => none
theorem ok_sub : BinOk K (rI0 fun i j => .int (i - j)) gSub := by
  intro F σ H ρ A x y dx dy res g hx hy e Q q
  cases dx with
  | int i =>
    cases dy with
    | int j => cases e; exact ⟨i, j, hx.int, hy.int, q _ _ (.here g (.int _))⟩
    | _ => cases e
  | _ => cases e
/-- a product of ints, one of them small; a list so many times -/
def gMul : D → D → Option S
  | .int i, .int j => if (i.natAbs < 18446744073709551616 ∨ j.natAbs < 18446744073709551616) ∨ i.natAbs.log2 + j.natAbs.log2 < 1000000 then some (.sh (.int (i * j))) else none
  | .list a, .int k => if k.natAbs < 9223372036854775808 ∧ a.length * k.toNat ≤ 16777216 then some (.ow (.list (List.replicate k.toNat a).flatten)) else none
  | .tuple a, .int k => if (k.natAbs ≤ 1000 ∧ a.length ≤ 1000) ∨ (k.natAbs ≤ 1000000 ∧ a.length * k.toNat ≤ 1000000) then some (.sh (.tuple (List.replicate k.toNat a).flatten)) else none
  | _, _ => none
def rMulZ (K : PySem.W.Frag) : R2 := fun x y H Q => rI (fun i j => CMul i j ∨ CMulW i j) (fun i j => .int (i * j)) x y H Q ∨ (rRep x y H Q ∨ (rRepTW K x y H Q ∨ (rRepS K x y H Q ∨ rRepZ K x y H Q)))
theorem op_mulZ {X : Cx} : OpR X (binaryOp .Mult) (rI (fun i j => CMul i j ∨ CMulW i j) fun i j => .int (i * j)) := opI fun _ _ _ _ _ _ _ hc q => PyProof.Rows.mul_int q (hc.elim CMul.ok CMulW.ok)
theorem or_mulZ {X : Cx} : OpR X (binaryOp .Mult) (rMulZ X.K) := op_mulZ.or (op_rep.or (op_repTW.or (op_repS.or op_repZ)))
theorem RpL.rep {H : Hp} {vs : List V} {ds : List D} (r : RpL K H vs ds) : ∀ k : Nat, RpL K H (List.replicate k vs).flatten (List.replicate k ds).flatten
  | 0 => .nil
  | k + 1 => by
    rw [List.replicate_succ, List.replicate_succ, List.flatten_cons, List.flatten_cons]
    exact r.app (RpL.rep r k)
theorem ok_mul : BinOk K (rMulZ K) gMul := by
  intro F σ H ρ A x y dx dy res g hx hy e Q q
  have sl := sizeLine_eq
  cases dx with
  | int i =>
    cases dy with
    | int j =>
      simp only [gMul] at e
      split at e
      · rename_i hc
        cases e
        refine .inl ⟨i, j, hx.int, hy.int, ?_, q _ _ (.here g (.int _))⟩
        unfold CMul
        rcases hc with (hc | hc) | hc
        · exact .inl (.inl ⟨by omega, by omega⟩)
        · exact .inl (.inr ⟨by omega, by omega⟩)
        · exact .inr hc
      · cases e
    | _ => cases e
  | list a =>
    cases dy with
    | int k =>
      simp only [gMul] at e
      split at e
      · rename_i hc
        cases e
        obtain ⟨p, vs, rfl, e1, r1⟩ := hx.list
        have l1 := r1.len
        exact .inr (.inl ⟨p, k, vs, rfl, hy.int, e1, by omega, by omega, by rw [l1]; omega, fun n hn => q _ _ (.newL g hn (r1.rep _))⟩)
      · cases e
    | _ => cases e
  | tuple a =>
    cases dy with
    | int k =>
      simp only [gMul] at e
      split at e
      · rename_i hc
        cases e
        obtain ⟨p, vs, rfl, e1, v1, r1⟩ := hx.tuple
        have l1 := r1.len
        have hk : k.natAbs ≤ 1000000 ∧ a.length * k.toNat ≤ 1000000 := by
          rcases hc with hc | hc
          · have : a.length * k.toNat ≤ 1000 * 1000 := Nat.mul_le_mul hc.2 (by omega)
            exact ⟨by omega, by omega⟩
          · exact hc
        rw [← l1] at hk
        by_cases hs : vs = [] ∨ k = 1
        · refine .inr (.inr (.inr (.inl ⟨p, k, vs, rfl, hy.int, .of e1, hs, by omega, q _ _ (.here g ?_)⟩)))
          have : (List.replicate k.toNat a).flatten = a := by
            rcases hs with rfl | rfl
            · cases r1
              exact List.flatten_eq_nil_iff.mpr fun x hx => (List.eq_of_mem_replicate hx)
            · simp
          rw [this]
          exact .tup v1 r1
        · by_cases hz : k ≤ 0
          · refine .inr (.inr (.inr (.inr ⟨p, k, vs, rfl, hy.int, .of e1, fun z => hs (.inl z), hz, by omega, fun n hn => ?_⟩)))
            have : (List.replicate k.toNat a).flatten = [] := by rw [show k.toNat = 0 by omega]; rfl
            rw [this] at q
            exact q _ _ (.newT g hn .nil)
          · exact .inr (.inr (.inl ⟨p, k, vs, rfl, hy.int, .of e1, fun z => hs (.inl z), by omega, by omega, by omega, fun n hn => q _ _ (.newT g hn (r1.rep _))⟩))
      · cases e
    | _ => cases e
  | _ => cases e
def gDiv : D → D → Option S
  | .int i, .int j => if 0 < j ∧ j.natAbs.log2 < 9000 then some (.sh (.int (i / j))) else none
  | _, _ => none
theorem ok_div : BinOk K (rI CDivW fun i j => .int (i / j)) gDiv := by
  intro F σ H ρ A x y dx dy res g hx hy e Q q
  cases dx with
  | int i =>
    cases dy with
    | int j =>
      simp only [gDiv] at e
      split at e
      · rename_i hc
        cases e
        exact ⟨i, j, hx.int, hy.int, hc, q _ _ (.here g (.int _))⟩
      · cases e
    | _ => cases e
  | _ => cases e
def gMod : D → D → Option S
  | .int i, .int j => if 0 < j then some (.sh (.int (i % j))) else none
  | _, _ => none
theorem ok_mod : BinOk K (rI (fun _ j => 0 < j) fun i j => .int (i % j)) gMod := by
  intro F σ H ρ A x y dx dy res g hx hy e Q q
  cases dx with
  | int i =>
    cases dy with
    | int j =>
      simp only [gMod] at e
      split at e
      · rename_i hc
        cases e
        exact ⟨i, j, hx.int, hy.int, hc, q _ _ (.here g (.int _))⟩
      · cases e
    | _ => cases e
  | _ => cases e
def gPow : D → D → Option S
  | .int i, .int j => if 0 ≤ j ∧ j.toNat ≤ 1000000 ∧ i.natAbs < 18446744073709551616 then some (.sh (.int (i ^ j.toNat))) else none
  | _, _ => none
theorem ok_pow : BinOk K (rI CPow fun i j => .int (i ^ j.toNat)) gPow := by
  intro F σ H ρ A x y dx dy res g hx hy e Q q
  cases dx with
  | int i =>
    cases dy with
    | int j =>
      simp only [gPow] at e
      split at e
      · rename_i hc
        cases e
        exact ⟨i, j, hx.int, hy.int, ⟨hc.1, by omega, by omega⟩, q _ _ (.here g (.int _))⟩
      · cases e
    | _ => cases e
  | _ => cases e

/-! order -/
def gLt : D → D → Option S
  | .int i, .int j => some (.sh (.bool (decide (i < j))))
  | .str i, .str j => some (.sh (.bool (decide (i.cps.toList < j.cps.toList))))
  | _, _ => none
def gLe : D → D → Option S
  | .int i, .int j => some (.sh (.bool (decide (i ≤ j))))
  | .str i, .str j => some (.sh (.bool (!decide (j.cps.toList < i.cps.toList))))
  | _, _ => none
def gGt : D → D → Option S
  | .int i, .int j => some (.sh (.bool (decide (j < i))))
  | .str i, .str j => some (.sh (.bool (decide (j.cps.toList < i.cps.toList))))
  | _, _ => none
def gGe : D → D → Option S
  | .int i, .int j => some (.sh (.bool (decide (j ≤ i))))
  | .str i, .str j => some (.sh (.bool (!decide (i.cps.toList < j.cps.toList))))
  | _, _ => none
def rCmpZ (p : Int → Int → Bool) (s : Str → Str → Bool) : R2 := fun x y H Q => rI0 (fun i j => .bl (p i j)) x y H Q ∨ (fun x y H Q => ∃ i j, x = .str i ∧ y = .str j ∧ Q (.bl (s i j)) H : R2) x y H Q
theorem or_ltZ {X : Cx} : OpR X (compareOp .Lt) (rCmpZ (fun i j => decide (i < j)) fun i j => decide (i.cps.toList < j.cps.toList)) := op_lt.or op_lt_str
theorem or_leZ {X : Cx} : OpR X (compareOp .LtE) (rCmpZ (fun i j => decide (i ≤ j)) fun i j => !decide (j.cps.toList < i.cps.toList)) := op_le.or op_le_str
theorem or_gtZ {X : Cx} : OpR X (compareOp .Gt) (rCmpZ (fun i j => decide (j < i)) fun i j => decide (j.cps.toList < i.cps.toList)) := op_gt.or op_gt_str
theorem or_geZ {X : Cx} : OpR X (compareOp .GtE) (rCmpZ (fun i j => decide (j ≤ i)) fun i j => !decide (i.cps.toList < j.cps.toList)) := op_ge.or op_ge_str
theorem ok_lt : BinOk K (rCmpZ (fun i j => decide (i < j)) fun i j => decide (i.cps.toList < j.cps.toList)) gLt := by
  intro F σ H ρ A x y dx dy res g hx hy e Q q
  cases dx <;> cases dy <;> first | (cases e; exact .inl ⟨_, _, hx.int, hy.int, q _ _ (.here g (.bl _))⟩) | (cases e; exact .inr ⟨_, _, hx.str, hy.str, q _ _ (.here g (.bl _))⟩) | cases e
theorem ok_le : BinOk K (rCmpZ (fun i j => decide (i ≤ j)) fun i j => !decide (j.cps.toList < i.cps.toList)) gLe := by
  intro F σ H ρ A x y dx dy res g hx hy e Q q
  cases dx <;> cases dy <;> first | (cases e; exact .inl ⟨_, _, hx.int, hy.int, q _ _ (.here g (.bl _))⟩) | (cases e; exact .inr ⟨_, _, hx.str, hy.str, q _ _ (.here g (.bl _))⟩) | cases e
theorem ok_gt : BinOk K (rCmpZ (fun i j => decide (j < i)) fun i j => decide (j.cps.toList < i.cps.toList)) gGt := by
  intro F σ H ρ A x y dx dy res g hx hy e Q q
  cases dx <;> cases dy <;> first | (cases e; exact .inl ⟨_, _, hx.int, hy.int, q _ _ (.here g (.bl _))⟩) | (cases e; exact .inr ⟨_, _, hx.str, hy.str, q _ _ (.here g (.bl _))⟩) | cases e
theorem ok_ge : BinOk K (rCmpZ (fun i j => decide (j ≤ i)) fun i j => !decide (i.cps.toList < j.cps.toList)) gGe := by
  intro F σ H ρ A x y dx dy res g hx hy e Q q
  cases dx <;> cases dy <;> first | (cases e; exact .inl ⟨_, _, hx.int, hy.int, q _ _ (.here g (.bl _))⟩) | (cases e; exact .inr ⟨_, _, hx.str, hy.str, q _ _ (.here g (.bl _))⟩) | cases e

/-! equality of data -/
def rEqP (K : PySem.W.Frag) (neg : Bool) : R2 := fun x y H Q => ∃ d e, Dp K H x d ∧ Dp K H y e ∧ d.plain = true ∧ e.plain = true ∧ min d.depth e.depth ≤ 60 ∧ Q (.bl (if neg then !PyData.eqv d e else PyData.eqv d e)) H
theorem or_eqP {X : Cx} (hu : X.A.units + 64 < cLine) : OpR X (compareOp .Eq) (rEqP X.K false) := by
  intro pins s σ H x y v u Q I rx ry h
  obtain ⟨d, e, hd, he, sd, se, hm, q⟩ := h
  obtain ⟨as, r1⟩ := Dp.reads I d x v hd rx
  obtain ⟨bs, r2⟩ := Dp.reads I e y u he ry
  exact SeqAt.eq_plain r1 r2 sd se (by omega) ⟨.bl _, H, I, rfl, q⟩
theorem or_neP {X : Cx} (hu : X.A.units + 64 < cLine) : OpR X (compareOp .NotEq) (rEqP X.K true) := by
  intro pins s σ H x y v u Q I rx ry h
  obtain ⟨d, e, hd, he, sd, se, hm, q⟩ := h
  obtain ⟨as, r1⟩ := Dp.reads I d x v hd rx
  obtain ⟨bs, r2⟩ := Dp.reads I e y u he ry
  exact SeqAt.ne_plain r1 r2 sd se (by omega) ⟨.bl _, H, I, rfl, q⟩
def gEq (a b : D) : Option S := if min a.depth b.depth ≤ 60 then some (.sh (.bool (PyData.eqv a b))) else none
def gNe (a b : D) : Option S := if min a.depth b.depth ≤ 60 then some (.sh (.bool (!PyData.eqv a b))) else none
theorem ok_eq : BinOk K (rEqP K false) gEq := by
  intro F σ H ρ A x y dx dy res g hx hy e Q q
  unfold gEq at e
  split at e
  · rename_i hc
    cases e
    exact ⟨dx, dy, hx.dp, hy.dp, hx.plain, hy.plain, hc, q _ _ (.here g (.bl _))⟩
  · cases e
theorem ok_ne : BinOk K (rEqP K true) gNe := by
  intro F σ H ρ A x y dx dy res g hx hy e Q q
  unfold gNe at e
  split at e
  · rename_i hc
    cases e
    exact ⟨dx, dy, hx.dp, hy.dp, hx.plain, hy.plain, hc, q _ _ (.here g (.bl _))⟩
  · cases e

/-! in: lists, tuples; one sign in a text -/
def rInP (K : PySem.W.Frag) (neg : Bool) : R2 := fun x y H Q => ∃ d ds, Dp K H x d ∧ (Dp K H y (.list ds) ∨ Dp K H y (.tuple ds)) ∧ d.plain = true ∧ PyData.plainAll ds = true ∧ min (PyData.depthAll ds) d.depth ≤ 60 ∧
  Q (.bl (if neg then !(ds.any fun z => PyData.eqv z d) else ds.any fun z => PyData.eqv z d)) H
theorem or_inP {X : Cx} (hu : X.A.units + 64 < cLine) : OpR X (compareOp .In) (rInP X.K false) := by
  intro pins s σ H x y v u Q I rx ry h
  obtain ⟨d, ds, hd, he, sd, se, hm, q⟩ := h
  obtain ⟨as, r1⟩ := Dp.reads I d x v hd rx
  rcases he with he | he
  · obtain ⟨bs, r2⟩ := Dp.reads I _ y u he ry
    exact SeqAt.in_list_data r2 r1 se sd (by omega) ⟨.bl _, H, I, rfl, q⟩
  · obtain ⟨bs, r2⟩ := Dp.reads I _ y u he ry
    exact SeqAt.in_tuple_data r2 r1 se sd (by omega) ⟨.bl _, H, I, rfl, q⟩
theorem or_notInP {X : Cx} (hu : X.A.units + 64 < cLine) : OpR X (compareOp .NotIn) (rInP X.K true) := by
  intro pins s σ H x y v u Q I rx ry h
  obtain ⟨d, ds, hd, he, sd, se, hm, q⟩ := h
  obtain ⟨as, r1⟩ := Dp.reads I d x v hd rx
  rcases he with he | he
  · obtain ⟨bs, r2⟩ := Dp.reads I _ y u he ry
    exact SeqAt.notIn_list_data r2 r1 se sd (by omega) ⟨.bl _, H, I, rfl, q⟩
  · obtain ⟨bs, r2⟩ := Dp.reads I _ y u he ry
    exact SeqAt.notIn_tuple_data r2 r1 se sd (by omega) ⟨.bl _, H, I, rfl, q⟩
def gInB (neg : Bool) (d : D) : D → Option S
  | .list ds => if min (PyData.depthAll ds) d.depth ≤ 60 then some (.sh (.bool (if neg then !(ds.any fun z => PyData.eqv z d) else ds.any fun z => PyData.eqv z d))) else none
  | .tuple ds => if min (PyData.depthAll ds) d.depth ≤ 60 then some (.sh (.bool (if neg then !(ds.any fun z => PyData.eqv z d) else ds.any fun z => PyData.eqv z d))) else none
  | _ => none
abbrev gIn : D → D → Option S := gInB false
abbrev gNotIn : D → D → Option S := gInB true
theorem ok_inB {neg : Bool} : BinOk K (rInP K neg) (gInB neg) := by
  intro F σ H ρ A x y dx dy res g hx hy e Q q
  cases dy with
  | list ds =>
    simp only [gInB] at e
    split at e
    · rename_i hc
      cases e
      have hp := hy.plain
      simp only [PyData.plain] at hp
      exact ⟨dx, ds, hx.dp, .inl hy.dp, hx.plain, hp, hc, q _ _ (.here g (.bl _))⟩
    · cases e
  | tuple ds =>
    simp only [gInB] at e
    split at e
    · rename_i hc
      cases e
      have hp := hy.plain
      simp only [PyData.plain] at hp
      exact ⟨dx, ds, hx.dp, .inr hy.dp, hx.plain, hp, hc, q _ _ (.here g (.bl _))⟩
    · cases e
  | _ => cases e

/-! is None, is True, is False -/
def rIsK (c : V) (neg : Bool) : R2 := fun x y H Q => y = c ∧ Q (.bl (if neg then !decide (x = c) else decide (x = c))) H
theorem is_const {X : Cx} {c : V} {u : Value} (hc : (c = .non ∧ u = .none) ∨ ∃ b, c = .bl b ∧ u = .bool b) {x : V} {v : Value} (rx : RelV x v) (hx : ∀ t, x ≠ .ty t) : plainIs v u = true ∧ ((v = u) ↔ x = c) := by
  rcases hc with ⟨rfl, rfl⟩ | ⟨b, rfl, rfl⟩
  all_goals (cases x with
    | ty t => exact absurd rfl (hx t)
    | non => cases rx; exact ⟨rfl, by simp⟩
    | bl b => cases rx; exact ⟨rfl, by simp⟩
    | int i => obtain ⟨t, rfl⟩ := rx; exact ⟨rfl, by simp⟩
    | str i => obtain ⟨t, rfl⟩ := rx; exact ⟨rfl, by simp⟩
    | byt i => obtain ⟨t, rfl⟩ := rx; exact ⟨rfl, by simp⟩
    | flt i => obtain ⟨t, rfl⟩ := rx; exact ⟨rfl, by simp⟩
    | ref a => cases rx; exact ⟨rfl, by simp⟩)
def isC (d c : D) : Option Bool := match c with
  | .none => some (match d with | .none => true | _ => false)
  | .bool b => some (match d with | .bool k => k == b | _ => false)
  | _ => none
def gIs (d c : D) : Option S := (isC d c).map fun b => .sh (.bool b)
def gIsNot (d c : D) : Option S := (isC d c).map fun b => .sh (.bool (!b))
def rIsZ (neg : Bool) : R2 := fun x y H Q => (∀ t, x ≠ .ty t) ∧ (y = .non ∨ ∃ b, y = .bl b) ∧ Q (.bl (if neg then !decide (x = y) else decide (x = y))) H
theorem or_isZ {X : Cx} : OpR X (compareOp .Is) (rIsZ false) := by
  intro pins s σ H x y v u Q I rx ry h
  obtain ⟨hx, hy, q⟩ := h
  have hc : (y = .non ∧ u = .none) ∨ ∃ b, y = .bl b ∧ u = .bool b := by
    rcases hy with rfl | ⟨b, rfl⟩
    · cases ry; exact .inl ⟨rfl, rfl⟩
    · cases ry; exact .inr ⟨b, rfl, rfl⟩
  obtain ⟨hp, hi⟩ := is_const (X := X) hc rx hx
  by_cases e : x = y
  · have e' := hi.mpr e
    subst e'
    exact wpAny_is_self hp ⟨.bl true, H, I, rfl, by simpa [e] using q⟩
  · exact wpAny_is_other hp (fun z => e (hi.mp z)) ⟨.bl false, H, I, rfl, by simpa [e] using q⟩
theorem or_isNotZ {X : Cx} : OpR X (compareOp .IsNot) (rIsZ true) := by
  intro pins s σ H x y v u Q I rx ry h
  obtain ⟨hx, hy, q⟩ := h
  have hc : (y = .non ∧ u = .none) ∨ ∃ b, y = .bl b ∧ u = .bool b := by
    rcases hy with rfl | ⟨b, rfl⟩
    · cases ry; exact .inl ⟨rfl, rfl⟩
    · cases ry; exact .inr ⟨b, rfl, rfl⟩
  obtain ⟨hp, hi⟩ := is_const (X := X) hc rx hx
  by_cases e : x = y
  · have e' := hi.mpr e
    subst e'
    exact wpAny_isNot_self hp ⟨.bl false, H, I, rfl, by simpa [e] using q⟩
  · exact wpAny_isNot_other hp (fun z => e (hi.mp z)) ⟨.bl true, H, I, rfl, by simpa [e] using q⟩
theorem Pk.noty {H W' : Hp} {v : V} {d : D} (h : Pk K H W' v d) : ∀ t, v ≠ .ty t := by
  intro t z
  subst z
  rcases h with h | ⟨a, z, _⟩
  · cases h
  · cases z
theorem isC_dec {H W' : Hp} {x y : V} {d c : D} {k : Bool} (hx : Pk K H W' x d) (hy : Pk K H W' y c) (e : isC d c = some k) : (y = .non ∨ ∃ b, y = .bl b) ∧ decide (x = y) = k := by
  cases c with
  | none =>
    have := hy.none
    subst this
    refine ⟨.inl rfl, ?_⟩
    cases d with
    | none => have := hx.none; subst this; cases e; rfl
    | bool b => have := hx.bool; subst this; cases e; rfl
    | int b => have := hx.int; subst this; cases e; rfl
    | str b => have := hx.str; subst this; cases e; rfl
    | list ds => rcases hx with hx | ⟨a, rfl, _⟩ <;> cases e <;> first | (cases hx <;> rfl) | rfl
    | tuple ds => rcases hx with hx | ⟨a, rfl, _⟩ <;> cases e <;> first | (cases hx <;> rfl) | rfl
    | dict ds => rcases hx with hx | ⟨a, rfl, _⟩ <;> cases e <;> first | (cases hx <;> rfl) | rfl
  | bool b =>
    have := hy.bool
    subst this
    refine ⟨.inr ⟨b, rfl⟩, ?_⟩
    cases d with
    | none => have := hx.none; subst this; cases e; rfl
    | bool k => have := hx.bool; subst this; cases e; cases k <;> cases b <;> rfl
    | int b => have := hx.int; subst this; cases e; rfl
    | str b => have := hx.str; subst this; cases e; rfl
    | list ds => rcases hx with hx | ⟨a, rfl, _⟩ <;> cases e <;> first | (cases hx <;> rfl) | rfl
    | tuple ds => rcases hx with hx | ⟨a, rfl, _⟩ <;> cases e <;> first | (cases hx <;> rfl) | rfl
    | dict ds => rcases hx with hx | ⟨a, rfl, _⟩ <;> cases e <;> first | (cases hx <;> rfl) | rfl
  | _ => cases e
theorem ok_is : BinOk K (rIsZ false) gIs := by
  intro F σ H ρ A x y dx dy res g hx hy e Q q
  unfold gIs at e
  cases h : isC dx dy with
  | none => rw [h] at e; cases e
  | some k =>
    rw [h] at e; cases e
    obtain ⟨h1, h2⟩ := isC_dec hx hy h
    refine ⟨hx.noty, h1, ?_⟩
    rw [h2]
    exact q _ _ (.here g (.bl _))
theorem ok_isNot : BinOk K (rIsZ true) gIsNot := by
  intro F σ H ρ A x y dx dy res g hx hy e Q q
  unfold gIsNot at e
  cases h : isC dx dy with
  | none => rw [h] at e; cases e
  | some k =>
    rw [h] at e; cases e
    obtain ⟨h1, h2⟩ := isC_dec hx hy h
    refine ⟨hx.noty, h1, ?_⟩
    rw [h2]
    exact q _ _ (.here g (.bl _))

/-! a subscript -/
def gIx : D → D → Option S
  | .list ds, .int i => (atI ds i).map S.sh
  | .tuple ds, .int i => (atI ds i).map S.sh
  | .str z, .int i => if z.length ≤ 16777216 then (atI z.cps.toList i).map fun c => S.sh (.str ⟨#[c]⟩) else none
  | _, _ => none
theorem at_rp {H : Hp} {vs : List V} {ds : List D} {i : Int} {d : D} (r : RpL K H vs ds) (e : atI ds i = some d) : ∃ v, atI vs i = some v ∧ Rp K H v d := by
  unfold atI at e ⊢
  rw [r.len]
  cases h : ixN ds.length i with
  | none => rw [h] at e; cases e
  | some j => rw [h] at e; exact r.get e
theorem ok_ix : BinOk K (rIx K) gIx := by
  intro F σ H ρ A x y dx dy res g hx hy e Q q
  have sl := sizeLine_eq
  cases dx with
  | list ds =>
    cases dy with
    | int i =>
      simp only [gIx] at e
      cases h : atI ds i with
      | none => rw [h] at e; cases e
      | some d =>
        rw [h] at e; cases e
        obtain ⟨p, vs, rfl, e1, r1⟩ := hx.list
        obtain ⟨v, h1, h2⟩ := at_rp r1 h
        exact .inl ⟨p, vs, i, v, rfl, hy.int, .of e1, h1, q _ _ (.here g h2)⟩
    | _ => cases e
  | tuple ds =>
    cases dy with
    | int i =>
      simp only [gIx] at e
      cases h : atI ds i with
      | none => rw [h] at e; cases e
      | some d =>
        rw [h] at e; cases e
        obtain ⟨p, vs, rfl, e1, _, r1⟩ := hx.tuple
        obtain ⟨v, h1, h2⟩ := at_rp r1 h
        exact .inr (.inl ⟨p, vs, i, v, rfl, hy.int, .of e1, h1, q _ _ (.here g h2)⟩)
    | _ => cases e
  | str z =>
    cases dy with
    | int i =>
      simp only [gIx] at e
      split at e
      · rename_i hc
        cases h : atI z.cps.toList i with
        | none => rw [h] at e; cases e
        | some d =>
          rw [h] at e; cases e
          exact .inr (.inr ⟨z, i, d, hx.str, hy.int, by omega, h, q _ _ (.here g (.str _))⟩)
      · cases e
    | _ => cases e
  | _ => cases e
end
end Z
end
section
namespace Z
open PySem PySem.Spec L2

/-! ### truth -/
def truth : D → Option Bool
  | .none => some false
  | .bool b => some b
  | .int i => some (i != 0)
  | .str y => if y.length ≤ 16777216 then some ((y.length : Int) != 0) else none
  | .list ds => some (!ds.isEmpty)
  | .tuple ds => some (!ds.isEmpty)
  | .dict _ => none
section
variable {K : PySem.W.Frag} {mg : Str → Option Value} {W : WX} {F : Addr → Prop} {σ : St} {H : Hp} {ρ : List S} {A : List (Option Addr)}
theorem truth_ok {v : V} {d : D} {b : Bool} (h : Pk K H (vw H (hid F A)) v d) (e : truth d = some b) : TruV K v H b := by
  have sl := sizeLine_eq
  cases d with
  | none => have := h.none; subst this; cases e; rfl
  | bool k => have := h.bool; subst this; cases e; rfl
  | int k => have := h.int; subst this; cases e; rfl
  | str y =>
    have := h.str; subst this
    simp only [truth] at e
    split at e
    · cases e; exact ⟨by omega, rfl⟩
    · cases e
  | list ds =>
    cases e
    obtain ⟨p, vs, rfl, e1, r1⟩ := h.list
    refine .inl ⟨vs, .of e1, ?_⟩
    cases r1 <;> rfl
  | tuple ds =>
    cases e
    obtain ⟨p, vs, rfl, e1, _, r1⟩ := h.tuple
    refine .inr (.inl ⟨vs, .of e1, ?_⟩)
    cases r1 <;> rfl
  | dict ds => cases e
end
def fTruth (f : OF) : BF := fun ρ => f ρ >>= fun p => Rs.of (look p.1 p.2) >>= fun d => Rs.of (truth d) >>= fun b => .ok (b, p.2)
def fNotB (f : BF) : BF := fun ρ => f ρ >>= fun p => .ok (!p.1, p.2)
def fAndB (f g : BF) : BF := fun ρ => f ρ >>= fun p => if p.1 = true then g p.2 else .ok (false, p.2)
def fOrB (f g : BF) : BF := fun ρ => f ρ >>= fun p => if p.1 = true then .ok (true, p.2) else g p.2
def fIf (c : BF) (f g : EF) : EF := fun ρ => c ρ >>= fun p => if p.1 = true then f p.2 else g p.2
def fIfO (c : BF) (f g : OF) : OF := fun ρ => c ρ >>= fun p => if p.1 = true then f p.2 else g p.2
/-- and, or, not as values: of operands -/
def fNotV (f : OF) : EF := fun ρ => f ρ >>= fun p => Rs.of (look p.1 p.2) >>= fun d => Rs.of (truth d) >>= fun b => .ok (.sh (.bool (!b)), p.2)
def fAndV (f g : EF) : EF := fun ρ => f ρ >>= fun p => match p.1 with
  | .sh d => Rs.of (truth d) >>= fun b => if b = true then g p.2 else .ok (.sh d, p.2)
  | _ => .no
def fOrV (f g : EF) : EF := fun ρ => f ρ >>= fun p => match p.1 with
  | .sh d => Rs.of (truth d) >>= fun b => if b = true then .ok (.sh d, p.2) else g p.2
  | _ => .no
section
variable {X : Cx} {K : PySem.W.Frag} {mg : Str → Option Value} {W : WX} {n : Nat} {pos : Pos} {a b c : Expr} {rest : List Expr} {fa fb : OF} {f g : EF} {ta tb : BF}
theorem b_no : ∀ {F σ H ρ A} {Q : Bool → Hp → Prop}, ¬ PoT K mg W F σ H ρ A .no Q := fun z => z
theorem bt_truth (ct : Ct X K mg W n) (h : PE X a (TO' K mg W fa)) (he : ∀ whole, isTrue a X.env whole = (do let v ← whole; standAt a.pos; holding [v] (truthy v)) := by intro _; rfl) : PT X a (TB' K mg W (fTruth fa)) := by
  obtain ⟨rfl, rfl, _, _, _, _⟩ := ct
  refine pt_imp (pt_truth h he) fun σ H Q ⟨F, ρ, A, gd, po⟩ => ?_
  refine seqO gd (po := fun o => PoT X.K X.mg W F σ H ρ A o Q) poB_no (poB_exS Stp.refl) po fun h1 ρ1 v1 H1 A1 g1 s1 r1 po => ?_
  obtain ⟨d1, e1, po⟩ := seqOpt (po := fun o => PoT X.K X.mg W F σ H ρ A o Q) poB_no po
  obtain ⟨b1, e2, po⟩ := seqOpt (po := fun o => PoT X.K X.mg W F σ H ρ A o Q) poB_no po
  exact ⟨b1, truth_ok (look_ok g1 r1 e1) e2, po H1 A1 g1 s1⟩
theorem bt_not (h : PT X a (TB' K mg W ta)) : PT X (.UnaryOp .Not a pos) (TB' K mg W (fNotB ta)) := by
  refine pt_imp (pt_not h) fun σ H Q ⟨F, ρ, A, gd, po⟩ => ?_
  refine seqB gd (po := fun o => PoT K mg W F σ H ρ A o Q) poB_no (poB_exS Stp.refl) po fun k ρ1 H1 A1 g1 s1 po => ?_
  exact po H1 A1 g1 s1
theorem PoT.of {F : Addr → Prop} {σ : St} {H H1 : Hp} {ρ ρ1 : List S} {A A1 : List (Option Addr)} {o : Rs (Bool × List S)} {Q : Bool → Hp → Prop} (s : Stp F H ρ A H1 ρ1 A1) (h : PoT K mg W F σ H ρ A o Q) : PoT K mg W F σ H1 ρ1 A1 o Q := by
  cases o with
  | no => exact h
  | ex ρ' c fs => exact PoX.of s h
  | ok p => obtain ⟨b, ρ2⟩ := p; exact fun H' A' g' s' => h H' A' g' (s.trans s')
theorem PoE.of {F : Addr → Prop} {σ : St} {H H1 : Hp} {ρ ρ1 : List S} {A A1 : List (Option Addr)} {o : Rs (S × List S)} {Q : VK} (s : Stp F H ρ A H1 ρ1 A1) (h : PoE K mg W F σ H ρ A o Q) : PoE K mg W F σ H1 ρ1 A1 o Q := by
  cases o with
  | no => exact h
  | ex ρ' c fs => exact PoX.of s h
  | ok p => obtain ⟨b, ρ2⟩ := p; exact fun v H' f => h v H' (f.trans s)
theorem PoO.of {F : Addr → Prop} {σ : St} {H H1 : Hp} {ρ ρ1 : List S} {A A1 : List (Option Addr)} {o : Rs (Hd × List S)} {Q : VK} (s : Stp F H ρ A H1 ρ1 A1) (h : PoO K mg W F σ H ρ A o Q) : PoO K mg W F σ H1 ρ1 A1 o Q := by
  cases o with
  | no => exact h
  | ex ρ' c fs => exact PoX.of s h
  | ok p => obtain ⟨b, ρ2⟩ := p; exact fun v H' A' g' s' r' => h v H' A' g' (s.trans s') r'
theorem bw_and1 (h : PT X a (TB' K mg W ta)) : PW X (.BoolOp .And [a] pos) (TB' K mg W ta) := pw_and1 h
theorem bw_or1 (h : PT X a (TB' K mg W ta)) : PW X (.BoolOp .Or [a] pos) (TB' K mg W ta) := pw_or1 h
theorem bw_and (h : PT X a (TB' K mg W ta)) (h2 : PW X (.BoolOp .And (b :: rest) pos) (TB' K mg W tb)) : PW X (.BoolOp .And (a :: b :: rest) pos) (TB' K mg W (fAndB ta tb)) := by
  refine pw_imp (pw_and h h2) fun σ H Q ⟨F, ρ, A, gd, po⟩ => ?_
  refine seqB gd (po := fun o => PoT K mg W F σ H ρ A o Q) poB_no (poB_exS Stp.refl) po fun k ρ1 H1 A1 g1 s1 po => ?_
  cases k with
  | true => exact ⟨F, ρ1, A1, g1, PoT.of s1 po⟩
  | false => exact po H1 A1 g1 s1
theorem bw_or (h : PT X a (TB' K mg W ta)) (h2 : PW X (.BoolOp .Or (b :: rest) pos) (TB' K mg W tb)) : PW X (.BoolOp .Or (a :: b :: rest) pos) (TB' K mg W (fOrB ta tb)) := by
  refine pw_imp (pw_or h h2) fun σ H Q ⟨F, ρ, A, gd, po⟩ => ?_
  refine seqB gd (po := fun o => PoT K mg W F σ H ρ A o Q) poB_no (poB_exS Stp.refl) po fun k ρ1 H1 A1 g1 s1 po => ?_
  cases k with
  | false => exact ⟨F, ρ1, A1, g1, PoT.of s1 po⟩
  | true => exact po H1 A1 g1 s1
theorem bt_bw (h : PW X a (TB' K mg W ta)) : PT X a (TB' K mg W ta) := h.pt
theorem ev_if (h : PT X c (TB' K mg W ta)) (hf : PE X a (TF K mg W f)) (hg : PE X b (TF K mg W g)) : PE X (.IfExp c a b pos) (TF K mg W (fIf ta f g)) := by
  refine pe_imp (pe_ifExp h hf hg) fun σ H Q ⟨F, ρ, A, gd, po⟩ => ?_
  refine seqB gd (po := fun o => PoE K mg W F σ H ρ A o Q) poE_no (poE_exS Stp.refl) po fun k ρ1 H1 A1 g1 s1 po => ?_
  cases k with
  | true => exact ⟨F, ρ1, A1, g1, PoE.of s1 po⟩
  | false => exact ⟨F, ρ1, A1, g1, PoE.of s1 po⟩
theorem op_if (h : PT X c (TB' K mg W ta)) (hf : PE X a (TO' K mg W fa)) (hg : PE X b (TO' K mg W fb)) : PE X (.IfExp c a b pos) (TO' K mg W (fIfO ta fa fb)) := by
  refine pe_imp (pe_ifExp h hf hg) fun σ H Q ⟨F, ρ, A, gd, po⟩ => ?_
  refine seqB gd (po := fun o => PoO K mg W F σ H ρ A o Q) poO_no (poO_exS Stp.refl) po fun k ρ1 H1 A1 g1 s1 po => ?_
  cases k with
  | true => exact ⟨F, ρ1, A1, g1, PoO.of s1 po⟩
  | false => exact ⟨F, ρ1, A1, g1, PoO.of s1 po⟩
theorem ev_not (ct : Ct X K mg W n) (h : PE X a (TO' K mg W fa)) : PE X (.UnaryOp .Not a pos) (TF K mg W (fNotV fa)) := by
  obtain ⟨rfl, rfl, _, _, _, _⟩ := ct
  refine pe_imp (pe_notT h) fun σ H Q ⟨F, ρ, A, gd, po⟩ => ?_
  refine seqO gd (po := fun o => PoE X.K X.mg W F σ H ρ A o Q) poE_no (poE_exS Stp.refl) po fun h1 ρ1 v1 H1 A1 g1 s1 r1 po => ?_
  obtain ⟨d1, e1, po⟩ := seqOpt (po := fun o => PoE X.K X.mg W F σ H ρ A o Q) poE_no po
  obtain ⟨b1, e2, po⟩ := seqOpt (po := fun o => PoE X.K X.mg W F σ H ρ A o Q) poE_no po
  exact ⟨b1, truth_ok (look_ok g1 r1 e1) e2, po _ H1 ⟨A1, g1, s1, .bl _⟩⟩
theorem ev_one {op} (h : PE X a (TF K mg W f)) : PE X (.BoolOp op [a] pos) (TF K mg W f) := pe_one h
theorem ev_and (ct : Ct X K mg W n) (h : PE X a (TF K mg W f)) (h2 : PE X (.BoolOp .And (b :: rest) pos) (TF K mg W g)) : PE X (.BoolOp .And (a :: b :: rest) pos) (TF K mg W (fAndV f g)) := by
  obtain ⟨rfl, rfl, _, _, _, _⟩ := ct
  refine pe_imp (pe_andT h h2) fun σ H Q ⟨F, ρ, A, gd, po⟩ => ?_
  refine seqE gd (po := fun o => PoE X.K X.mg W F σ H ρ A o Q) poE_no (poE_exS Stp.refl) po fun r ρ1 v1 H1 f1 po => ?_
  cases r with
  | sh d =>
    obtain ⟨b1, e2, po⟩ := seqOpt (po := fun o => PoE X.K X.mg W F σ H ρ A o Q) poE_no po
    obtain ⟨A1, g1, s1, p1⟩ := f1
    refine ⟨b1, truth_ok (.inl p1) e2, ?_⟩
    cases b1 with
    | true => exact ⟨F, ρ1, A1, g1, PoE.of s1 po⟩
    | false => exact po _ H1 ⟨A1, g1, s1, p1⟩
  | _ => exact po.elim
theorem ev_or (ct : Ct X K mg W n) (h : PE X a (TF K mg W f)) (h2 : PE X (.BoolOp .Or (b :: rest) pos) (TF K mg W g)) : PE X (.BoolOp .Or (a :: b :: rest) pos) (TF K mg W (fOrV f g)) := by
  obtain ⟨rfl, rfl, _, _, _, _⟩ := ct
  refine pe_imp (pe_orT h h2) fun σ H Q ⟨F, ρ, A, gd, po⟩ => ?_
  refine seqE gd (po := fun o => PoE X.K X.mg W F σ H ρ A o Q) poE_no (poE_exS Stp.refl) po fun r ρ1 v1 H1 f1 po => ?_
  cases r with
  | sh d =>
    obtain ⟨b1, e2, po⟩ := seqOpt (po := fun o => PoE X.K X.mg W F σ H ρ A o Q) poE_no po
    obtain ⟨A1, g1, s1, p1⟩ := f1
    refine ⟨b1, truth_ok (.inl p1) e2, ?_⟩
    cases b1 with
    | false => exact ⟨F, ρ1, A1, g1, PoE.of s1 po⟩
    | true => exact po _ H1 ⟨A1, g1, s1, p1⟩
  | _ => exact po.elim
/-- -x -/
def fNeg (f : OF) : EF := fun ρ => f ρ >>= fun p => Rs.of (look p.1 p.2) >>= fun d => match d with
  | .int i => .ok (.sh (.int (-i)), p.2)
  | _ => .no
theorem ev_neg (h : PE X a (TO' K mg W fa)) : PE X (.UnaryOp .USub a pos) (TF K mg W (fNeg fa)) := by
  refine pe_imp (pe_un un_neg h) fun σ H Q ⟨F, ρ, A, gd, po⟩ => ?_
  refine seqO gd (po := fun o => PoE K mg W F σ H ρ A o Q) poE_no (poE_exS Stp.refl) po fun h1 ρ1 v1 H1 A1 g1 s1 r1 po => ?_
  obtain ⟨d1, e1, po⟩ := seqOpt (po := fun o => PoE K mg W F σ H ρ A o Q) poE_no po
  cases d1 with
  | int i => exact ⟨i, (look_ok g1 r1 e1).int, po _ H1 ⟨A1, g1, s1, .int _⟩⟩
  | _ => exact po.elim

/-! ### argument lists -/
def aNil : AF := fun ρ => .ok ([], ρ)
def aCons (f : EF) (g : AF) : AF := fun ρ => f ρ >>= fun p => match p.1 with
  | .sh d => g p.2 >>= fun q => .ok (.sh d :: q.1, q.2)
  | .ow d => g p.2 >>= fun q => .ok (.sh d :: q.1, q.2)
  | .fz ns => g p.2 >>= fun q => .ok (.fz ns :: q.1, q.2)
  | .sd t => g p.2 >>= fun q => .ok (.sd t :: q.1, q.2)
  | .od t => g p.2 >>= fun q => .ok (.sd t :: q.1, q.2)
  | _ => .no
def hNil : HF := fun ρ => .ok ([], ρ)
def hCons (f : OF) (g : HF) : HF := fun ρ => f ρ >>= fun p => g p.2 >>= fun q => .ok (p.1 :: q.1, q.2)
def looks : List Hd → List S → Option (List D)
  | [], _ => some []
  | h :: hs, ρ => match look h ρ, looks hs ρ with
    | some d, some ds => some (d :: ds)
    | _, _ => none
variable {e : Expr} {es : List Expr} {fA : AF} {fH : HF}
theorem ta_nil : PA X [] (TAr K mg W aNil) := pa_imp pa_nil fun σ H Q ⟨F, ρ, A, gd, po⟩ => po [] H A gd Stp.refl .nil
theorem ta_cons (h : PE X e (TF K mg W f)) (h2 : PA X es (TAr K mg W fA)) (hs : starEach (e :: es) X.env = (false, eval e X.env) :: starEach es X.env := by rfl) : PA X (e :: es) (TAr K mg W (aCons f fA)) := by
  refine pa_imp (pa_cons h h2 hs) fun σ H Q ⟨F, ρ, A, gd, po⟩ => ?_
  refine seqE gd (po := fun o => PoA K mg W F σ H ρ A o Q) poA_no (poA_exS Stp.refl) po fun r ρ1 v1 H1 f1 po => ?_
  have key : ∀ (A1 : List (Option Addr)) (s : S), Good K F σ H1 ρ1 A1 → Stp F H ρ A H1 ρ1 A1 → SRep K (vw H1 (hid F A1)) v1 s → PoA K mg W F σ H ρ A (fA ρ1 >>= fun q => Rs.ok (s :: q.1, q.2)) Q → TAr K mg W fA σ H1 fun xs H2 => Q (v1 :: xs) H2 := by
    intro A1 s g1 s1 r1 po
    refine seqA g1 (po := fun o => PoA K mg W F σ H ρ A o Q) poA_no (poA_exS s1) po fun rs ρ2 vs H2 A2 g2 s2 r2 po => ?_
    exact po (v1 :: vs) H2 A2 g2 (s1.trans s2) (.cons (r1.mono s2.vs) r2)
  cases r with
  | sh d => obtain ⟨A1, g1, s1, p1⟩ := f1; exact key A1 (.sh d) g1 s1 p1 po
  | ow d => obtain ⟨A1, g1, s1, p1⟩ := f1.weak; exact key A1 (.sh d) g1 s1 p1 po
  | fz ns => obtain ⟨A1, g1, s1, p1⟩ := f1; exact key A1 (.fz ns) g1 s1 p1 po
  | sd t => obtain ⟨A1, g1, s1, p1⟩ := f1; exact key A1 (.sd t) g1 s1 p1 po
  | od t => obtain ⟨A1, g1, s1, p1⟩ := f1.weakD; exact key A1 (.sd t) g1 s1 p1 po
  | _ => exact po.elim
theorem th_nil : PA X [] (TH K mg W hNil) := pa_imp pa_nil fun σ H Q ⟨F, ρ, A, gd, po⟩ => po [] H A gd Stp.refl .nil
theorem th_cons (h : PE X e (TO' K mg W fa)) (h2 : PA X es (TH K mg W fH)) (hs : starEach (e :: es) X.env = (false, eval e X.env) :: starEach es X.env := by rfl) : PA X (e :: es) (TH K mg W (hCons fa fH)) := by
  refine pa_imp (pa_cons h h2 hs) fun σ H Q ⟨F, ρ, A, gd, po⟩ => ?_
  refine seqO gd (po := fun o => PoH K mg W F σ H ρ A o Q) poH_no (poH_exS Stp.refl) po fun h1 ρ1 v1 H1 A1 g1 s1 r1 po => ?_
  refine seqH g1 (po := fun o => PoH K mg W F σ H ρ A o Q) poH_no (poH_exS s1) po fun rs ρ2 vs H2 A2 g2 s2 r2 po => ?_
  exact po (v1 :: vs) H2 A2 g2 (s1.trans s2) (.cons (r1.mono s2.vs) r2)
theorem looks_ok {F : Addr → Prop} {σ : St} {H : Hp} {ρ : List S} {A : List (Option Addr)} (g : Good K F σ H ρ A) : ∀ {hs : List Hd} {vs : List V} {ds : List D}, HReps K σ (vw H (hid F A)) vs hs → looks hs ρ = some ds → Paired (Pk K H (vw H (hid F A))) vs ds
  | [], _, ds, .nil, e => by cases e; exact .nil
  | h :: hs, _, ds, .cons r t, e => by
    unfold looks at e
    cases e1 : look h ρ with
    | none => rw [e1] at e; cases e
    | some d =>
      cases e2 : looks hs ρ with
      | none => rw [e1, e2] at e; cases e
      | some ds' =>
        rw [e1, e2] at e
        cases e
        exact .cons (look_ok g r e1) (looks_ok g t e2)
/-! ### displays -/
def shs : List S → Option (List D)
  | [] => some []
  | .sh d :: r => (shs r).map (d :: ·)
  | _ :: _ => none
theorem shs_ok {W' : Hp} : ∀ {vs : List V} {rs : List S} {ds : List D}, SReps K W' vs rs → shs rs = some ds → RpL K W' vs ds
  | _, _, ds, .nil, e => by cases e; exact .nil
  | _, .sh d :: _, ds, .cons r t, e => by
    unfold shs at e
    rename_i rs _ _
    cases q : shs rs with
    | none => rw [q] at e; cases e
    | some ds' => rw [q] at e; cases e; exact .cons r (shs_ok t q)
  | _, .u :: _, _, .cons r _, e => by cases e
  | _, .ow _ :: _, _, .cons r _, e => by cases e
  | _, .cu _ _ :: _, _, .cons r _, e => by cases e
  | _, .fz _ :: _, _, .cons r _, e => by cases e
def fTup (f : AF) : EF := fun ρ => f ρ >>= fun p => Rs.of (shs p.1) >>= fun ds => if ds.length ≤ 16777216 then .ok (.sh (.tuple ds), p.2) else .no
def fLst (f : AF) : EF := fun ρ => f ρ >>= fun p => Rs.of (shs p.1) >>= fun ds => if ds.length ≤ 16777216 then .ok (.ow (.list ds), p.2) else .no
theorem ev_tup {k} (h : PA X es (TAr K mg W fA)) : PE X (.Tuple es k pos) (TF K mg W (fTup fA)) := by
  refine pe_imp (pe_tup h) fun σ H Q ⟨F, ρ, A, gd, po⟩ => ?_
  have sl := sizeLine_eq
  refine seqA gd (po := fun o => PoE K mg W F σ H ρ A o Q) poE_no (poE_exS Stp.refl) po fun rs ρ1 vs H1 A1 g1 s1 r1 po => ?_
  obtain ⟨ds, e1, po⟩ := seqOpt (po := fun o => PoE K mg W F σ H ρ A o Q) poE_no po
  have r2 := shs_ok r1 e1
  have l2 := r2.len
  split at po
  · exact ⟨by omega, fun p hp => po _ _ ((Fin.newT g1 hp r2).trans s1)⟩
  · exact po.elim
theorem ev_lst (h : PA X es (TAr K mg W fA)) : PE X (.List es pos) (TF K mg W (fLst fA)) := by
  refine pe_imp (pe_lst h) fun σ H Q ⟨F, ρ, A, gd, po⟩ => ?_
  have sl := sizeLine_eq
  refine seqA gd (po := fun o => PoE K mg W F σ H ρ A o Q) poE_no (poE_exS Stp.refl) po fun rs ρ1 vs H1 A1 g1 s1 r1 po => ?_
  obtain ⟨ds, e1, po⟩ := seqOpt (po := fun o => PoE K mg W F σ H ρ A o Q) poE_no po
  have r2 := shs_ok r1 e1
  have l2 := r2.len
  split at po
  · exact ⟨by omega, fun p hp => po _ _ ((Fin.newL g1 hp r2).trans s1)⟩
  · exact po.elim

/-! ### slices -/
abbrev NF := List S → Rs (Option Int × List S)
def PoN (F : Addr → Prop) (σ : St) (K : PySem.W.Frag) (mg : Str → Option Value) (W : WX) (H : Hp) (ρ : List S) (A : List (Option Addr)) (o : Rs (Option Int × List S)) (Q : Option Int → Hp → Prop) : Prop :=
  match o with
  | .ok (b, ρ') => ∀ H' A', Good K F σ H' ρ' A' → Stp F H ρ A H' ρ' A' → Q b H'
  | .ex ρ' c fs => PoX K mg W F σ H ρ A ρ' c fs
  | .no => False
def TN (K : PySem.W.Frag) (mg : Str → Option Value) (W : WX) (f : NF) : TO := fun σ H Q => ∃ F ρ A, Good K F σ H ρ A ∧ PoN F σ K mg W H ρ A (f ρ) Q
def nNone : NF := fun ρ => .ok (none, ρ)
def nSome (f : OF) : NF := fun ρ => f ρ >>= fun p => Rs.of (look p.1 p.2) >>= fun d => match d with
  | .int i => .ok (some i, p.2)
  | _ => .no
theorem tn_none : PO X none (TN K mg W nNone) := po_imp po_none fun σ H Q ⟨F, ρ, A, gd, po⟩ => po H A gd Stp.refl
theorem tn_some (h : PE X e (TO' K mg W fa)) : PO X (some e) (TN K mg W (nSome fa)) := by
  refine po_imp (po_some h) fun σ H Q ⟨F, ρ, A, gd, po⟩ => ?_
  refine seqO gd (po := fun o => PoN F σ K mg W H ρ A o Q) (fun z => z) (fun ρ' c fs h => h) po fun h1 ρ1 v1 H1 A1 g1 s1 r1 po => ?_
  obtain ⟨d1, e1, po⟩ := seqOpt (po := fun o => PoN F σ K mg W H ρ A o Q) (fun z => z) po
  cases d1 with
  | int i => exact ⟨i, (look_ok g1 r1 e1).int, po H1 A1 g1 s1⟩
  | _ => exact po.elim
theorem seqN {F : Addr → Prop} {σ : St} {H : Hp} {ρ : List S} {A : List (Option Addr)} {fa : NF} {α : Type} {k : (Option Int × List S) → Rs α} (g : Good K F σ H ρ A) {po : Rs α → Prop} (hno : ¬ po .no) (hex : ∀ ρ' c fs, po (.ex ρ' c fs) → PoX K mg W F σ H ρ A ρ' c fs) (h : po (fa ρ >>= k)) {Q : Option Int → Hp → Prop}
    (hk : ∀ (r : Option Int) (ρ1 : List S) (H1 : Hp) (A1 : List (Option Addr)), Good K F σ H1 ρ1 A1 → Stp F H ρ A H1 ρ1 A1 → po (k (r, ρ1)) → Q r H1) : TN K mg W fa σ H Q := by
  refine ⟨F, ρ, A, g, ?_⟩
  cases e : fa ρ with
  | no => rw [e] at h; exact (hno h).elim
  | ex ρ' c fs => rw [e] at h; exact hex _ _ _ h
  | ok p =>
    obtain ⟨r, ρ1⟩ := p
    rw [e] at h
    exact fun H1 A1 g1 s1 => hk r ρ1 H1 A1 g1 s1 h
def cutD (xs : List D) (lo hi : Option Int) : List D := (xs.drop (HT.sIx xs.length 0 lo)).take (HT.sIx xs.length xs.length hi - HT.sIx xs.length 0 lo)
theorem RpL.cut {H : Hp} {vs : List V} {ds : List D} (r : RpL K H vs ds) (lo hi : Option Int) : RpL K H (cutV vs lo hi) (cutD ds lo hi) := by
  unfold cutV cutD
  rw [r.len]
  exact (r.drop _).take _
def gSl (d : D) (lo hi : Option Int) : Option S := match d with
  | .list ds => some (.ow (.list (cutD ds lo hi)))
  | .tuple ds => some (.sh (.tuple (cutD ds lo hi)))
  | _ => none
def fSl (f : OF) (l u : NF) : EF := fun ρ => f ρ >>= fun p => l p.2 >>= fun q => u q.2 >>= fun t => Rs.of (look p.1 t.2) >>= fun d => Rs.of (gSl d q.1 t.1) >>= fun r => .ok (r, t.2)
theorem cutD_whole {ds : List D} {lo hi : Option Int} (h : HT.sIx ds.length 0 lo = 0 ∧ HT.sIx ds.length ds.length hi = ds.length) : cutD ds lo hi = ds := by
  unfold cutD
  rw [h.1, h.2]
  simp
theorem ev_slice {lo hi : Option Expr} {fl fu : NF} {p2 : Pos} (ct : Ct X K mg W n) (h : PE X e (TO' K mg W fa)) (hl : PO X lo (TN K mg W fl)) (hu : PO X hi (TN K mg W fu)) : PE X (.Subscript e (.Slice lo hi none p2) pos) (TF K mg W (fSl fa fl fu)) := by
  obtain ⟨rfl, rfl, _, _, _, _⟩ := ct
  refine pe_imp (pe_slice (sl_list.or sl_tupA) h hl hu) fun σ H Q ⟨F, ρ, A, gd, po⟩ => ?_
  refine seqO gd (po := fun o => PoE X.K X.mg W F σ H ρ A o Q) poE_no (poE_exS Stp.refl) po fun h1 ρ1 v1 H1 A1 g1 s1 r1 po => ?_
  refine seqN g1 (po := fun o => PoE X.K X.mg W F σ H ρ A o Q) poE_no (poE_exS s1) po fun l ρ2 H2 A2 g2 s2 po => ?_
  refine seqN g2 (po := fun o => PoE X.K X.mg W F σ H ρ A o Q) poE_no (poE_exS (s1.trans s2)) po fun u ρ3 H3 A3 g3 s3 po => ?_
  obtain ⟨d, e1, po⟩ := seqOpt (po := fun o => PoE X.K X.mg W F σ H ρ A o Q) poE_no po
  obtain ⟨r, e2, po⟩ := seqOpt (po := fun o => PoE X.K X.mg W F σ H ρ A o Q) poE_no po
  have hd := look_ok g3 (r1.mono (s2.trans s3).vs) e1
  have s := (s1.trans s2).trans s3
  cases d with
  | list ds =>
    cases e2
    obtain ⟨p, vs, rfl, q1, q2⟩ := hd.list
    exact .inl ⟨p, vs, rfl, .of q1, fun a ha => po _ _ ((Fin.newL g3 ha (q2.cut _ _)).trans s)⟩
  | tuple ds =>
    cases e2
    obtain ⟨p, vs, rfl, q1, q0, q2⟩ := hd.tuple
    refine .inr ⟨p, vs, rfl, .of q1, fun z => ?_, fun z a ha => po _ _ ((Fin.newT g3 ha (q2.cut _ _)).trans s)⟩
    rw [q2.len] at z
    rw [cutD_whole z] at po
    exact po _ _ ⟨A3, g3, s, .tup q0 q2⟩
  | _ => cases e2

/-! ### built-ins by name -/
def fCall (g : List D → Option S) (f : HF) : EF := fun ρ => f ρ >>= fun p => Rs.of (looks p.1 p.2) >>= fun ds => Rs.of (g ds) >>= fun r => .ok (r, p.2)
theorem call_r {r : List V → Hp → VK → Prop} {g : List D → Option S} (hr : CallOk K r g) : ∀ σ H Q, TF K mg W (fCall g fH) σ H Q → tCB r (TH K mg W fH) σ H Q := by
  intro σ H Q ⟨F, ρ, A, gd, po⟩
  refine seqH gd (po := fun o => PoE K mg W F σ H ρ A o Q) poE_no (poE_exS Stp.refl) po fun hs ρ1 vs H1 A1 g1 s1 r1 po => ?_
  obtain ⟨ds, e1, po⟩ := seqOpt (po := fun o => PoE K mg W F σ H ρ A o Q) poE_no po
  obtain ⟨res, e2, po⟩ := seqOpt (po := fun o => PoE K mg W F σ H ρ A o Q) poE_no po
  exact hr F σ H1 ρ1 A1 vs ds res g1 (looks_ok g1 r1 e1) e2 Q fun v H' f => po v H' (f.trans s1)
theorem ev_callB {x : Str} {p : Pos} {id : String} {r : List V → Hp → VK → Prop} {g : List D → Option S} (ct : Ct X K mg W n) (hc : CallR X (.builtin id) r) (hr : CallOk K r g) (hg : Gl X x) (hm : mg x = none) (hv : bootBuiltins x = some (.builtin id)) (ha : PA X (e :: es) (TH K mg W fH)) (hn : x ≠ "__name__" := by decide) (hdb : (x == ("__debug__" : Str)) = false := by decide)
    (he : starEach (e :: es) X.env = (false, eval e X.env) :: starEach es X.env := by rfl) (hpl : (backTo pos (starEach es X.env)).any (·.1) = false := by rfl) : PE X (.Call (.Name x p) (e :: es) [] pos) (TF K mg W (fCall g fH)) :=
  pe_imp (pe_callB hc hg (by rw [ct.m]; exact hm) hv ha hn hdb he hpl) (call_r hr)
theorem ev_callTy {x : Str} {p : Pos} {T : String} {r : List V → Hp → VK → Prop} {g : List D → Option S} (ct : Ct X K mg W n) (hc : CallR X (.type T) r) (hr : CallOk K r g) (hg : Gl X x) (hm : mg x = none) (hv : bootBuiltins x = some (.type T)) (ha : PA X (e :: es) (TH K mg W fH)) (hn : x ≠ "__name__" := by decide) (hdb : (x == ("__debug__" : Str)) = false := by decide)
    (he : starEach (e :: es) X.env = (false, eval e X.env) :: starEach es X.env := by rfl) (hpl : (backTo pos (starEach es X.env)).any (·.1) = false := by rfl) : PE X (.Call (.Name x p) (e :: es) [] pos) (TF K mg W (fCall g fH)) :=
  pe_imp (pe_callTy hc hg (by rw [ct.m]; exact hm) hv ha hn hdb he hpl) (call_r hr)
/-- list(x), x the script -/
def fListZ (i : Nat) : EF := fun ρ => match ρ[i]? with
  | some (.fz ns) => .ok (.ow (.list (ns.map PyData.int)), ρ)
  | _ => .no
theorem ev_listZ {x : Str} {p p2 : Pos} (i : Nat) (ct : Ct X K mg W n) (hg : Gl X "list") (hm : mg "list" = none) (hN : X.N[i]? = some x := by rfl) (hv : Vis X.env.scope x := by first | exact Or.inl rfl | exact Or.inr (Or.inl rfl) | exact Or.inr (Or.inr rfl)) (hd : (x == ("__debug__" : Str)) = false := by decide)
    (hcd : (x == ("__classdict__" : Str)) = false := by decide) (he : starEach [.Name x p2] X.env = (false, eval (.Name x p2) X.env) :: starEach [] X.env := by rfl) (hpl : (backTo pos (starEach [] X.env)).any (·.1) = false := by rfl) :
    PE X (.Call (.Name "list" p) [.Name x p2] [] pos) (TF K mg W (fListZ i)) := by
  obtain ⟨rfl, rfl, _, _, _, _⟩ := ct
  refine pe_imp (pe_callTy call_list_of hg hm (by decide +kernel) (pa_cons (pe_var hN hv hd hcd) pa_nil he) (by decide) (by decide) he hpl) fun σ H Q ⟨F, ρ, A, gd, po⟩ => ?_
  unfold fListZ at po
  cases q : ρ[i]? with
  | none => rw [q] at po; exact po.elim
  | some s =>
    have k := gd.slot i s q
    rw [q] at po
    cases s with
    | fz ns =>
      obtain ⟨e, a, e1, p⟩ := k
      exact ⟨.ref a, e1, a, _, rfl, .inl ((vw_same _ _).seq p), fun l hl => po _ _ (.newL gd hl (RpL.ints ns))⟩
    | _ => exact po.elim
end

section
variable {X : Cx} {K : PySem.W.Frag}
/-! the built-ins' values -/
theorem paired1 {α β : Type} {G : α → β → Prop} {xs : List α} {d : β} (h : Paired G xs [d]) : ∃ x, xs = [x] ∧ G x d := by
  cases h with
  | cons r t => cases t; exact ⟨_, rfl, r⟩
theorem paired2 {α β : Type} {G : α → β → Prop} {xs : List α} {d e : β} (h : Paired G xs [d, e]) : ∃ x y, xs = [x, y] ∧ G x d ∧ G y e := by
  cases h with
  | cons r t => cases t with
    | cons r2 t => cases t; exact ⟨_, _, rfl, r, r2⟩
def gLen : List D → Option S
  | [.list ds] => some (.sh (.int ds.length))
  | [.tuple ds] => some (.sh (.int ds.length))
  | [.str z] => if z.length ≤ 16777216 then some (.sh (.int z.length)) else none
  | _ => none
def rLenZ (K : PySem.W.Frag) : List V → Hp → VK → Prop := fun xs H Q => (∃ p ys, xs = [.ref p] ∧ (SqL K H p ys ∨ SqT K H p ys) ∧ Q (.int ys.length) H) ∨ ∃ z, xs = [.str z] ∧ z.length ≤ sizeLine ∧ Q (.int z.length) H
theorem cr_lenZ : CallR X (.builtin "len") (rLenZ X.K) := call_len_seq.or call_len_str
theorem ok_len : CallOk K (rLenZ K) gLen := by
  intro F σ H ρ A xs ds res g hp e Q q
  have sl := sizeLine_eq
  match ds, e with
  | [.list ds], e =>
    cases e
    obtain ⟨x, rfl, h⟩ := paired1 hp
    obtain ⟨p, vs, rfl, e1, r1⟩ := h.list
    exact .inl ⟨p, vs, rfl, .inl (.of e1), by rw [r1.len]; exact q _ _ (.here g (.int _))⟩
  | [.tuple ds], e =>
    cases e
    obtain ⟨x, rfl, h⟩ := paired1 hp
    obtain ⟨p, vs, rfl, e1, _, r1⟩ := h.tuple
    exact .inl ⟨p, vs, rfl, .inr (.of e1), by rw [r1.len]; exact q _ _ (.here g (.int _))⟩
  | [.str z], e =>
    obtain ⟨x, rfl, h⟩ := paired1 hp
    have := h.str
    subst this
    simp only [gLen] at e
    split at e
    · cases e; exact .inr ⟨z, rfl, by omega, q _ _ (.here g (.int _))⟩
    · cases e
def gInt : List D → Option S
  | [.int i] => some (.sh (.int i))
  | [.bool b] => some (.sh (.int (if b then 1 else 0)))
  | _ => none
theorem ok_int : CallOk K (fun xs H Q => (∃ i, xs = [.int i] ∧ Q (.int i) H) ∨ ∃ k, xs = [.bl k] ∧ Q (.int (if k then 1 else 0)) H) gInt := by
  intro F σ H ρ A xs ds res g hp e Q q
  match ds, e with
  | [.int i], e => cases e; obtain ⟨x, rfl, h⟩ := paired1 hp; exact .inl ⟨i, by rw [h.int], q _ _ (.here g (.int _))⟩
  | [.bool i], e => cases e; obtain ⟨x, rfl, h⟩ := paired1 hp; exact .inr ⟨i, by rw [h.bool], q _ _ (.here g (.int _))⟩
def gAbs : List D → Option S
  | [.int i] => some (.sh (.int (if i < 0 then -i else i)))
  | _ => none
theorem ok_abs : CallOk K (fun xs H Q => ∃ i, xs = [.int i] ∧ Q (.int (if i < 0 then -i else i)) H) gAbs := by
  intro F σ H ρ A xs ds res g hp e Q q
  match ds, e with
  | [.int i], e => cases e; obtain ⟨x, rfl, h⟩ := paired1 hp; exact ⟨i, by rw [h.int], q _ _ (.here g (.int _))⟩
def gMax2 : List D → Option S
  | [.int i, .int j] => some (.sh (.int (if j > i then j else i)))
  | _ => none
def gMin2 : List D → Option S
  | [.int i, .int j] => some (.sh (.int (if j < i then j else i)))
  | _ => none
theorem ok_max2 : CallOk K (fun xs H Q => ∃ i j, xs = [.int i, .int j] ∧ Q (.int (if j > i then j else i)) H) gMax2 := by
  intro F σ H ρ A xs ds res g hp e Q q
  match ds, e with
  | [.int i, .int j], e => cases e; obtain ⟨x, y, rfl, h, h'⟩ := paired2 hp; exact ⟨i, j, by rw [h.int, h'.int], q _ _ (.here g (.int _))⟩
theorem ok_min2 : CallOk K (fun xs H Q => ∃ i j, xs = [.int i, .int j] ∧ Q (.int (if j < i then j else i)) H) gMin2 := by
  intro F σ H ρ A xs ds res g hp e Q q
  match ds, e with
  | [.int i, .int j], e => cases e; obtain ⟨x, y, rfl, h, h'⟩ := paired2 hp; exact ⟨i, j, by rw [h.int, h'.int], q _ _ (.here g (.int _))⟩
/-- intL out of data -/
def intL : List D → Option (List Int)
  | [] => some []
  | .int i :: r => (intL r).map (i :: ·)
  | _ :: _ => none
theorem ints_map : ∀ {ds : List D} {ns : List Int}, intL ds = some ns → ds = ns.map PyData.int
  | [], _, e => by cases e; rfl
  | .int i :: r, ns, e => by
    unfold intL at e
    cases q : intL r with
    | none => rw [q] at e; cases e
    | some ms => rw [q] at e; cases e; rw [ints_map q]; rfl
  | .none :: _, _, e => by cases e
  | .bool _ :: _, _, e => by cases e
  | .str _ :: _, _, e => by cases e
  | .list _ :: _, _, e => by cases e
  | .tuple _ :: _, _, e => by cases e
  | .dict _ :: _, _, e => by cases e
@[simp] theorem ints_of : ∀ ns : List Int, intL (ns.map PyData.int) = some ns
  | [] => rfl
  | n :: r => by simp [intL, ints_of r]
theorem rp_ints {H : Hp} : ∀ {vs : List V} {ns : List Int}, RpL K H vs (ns.map PyData.int) → vs = ns.map V.int
  | _, [], .nil => rfl
  | _, n :: r, .cons h t => by cases h; rw [rp_ints t]; rfl
def bools : List D → Option (List Bool)
  | [] => some []
  | .bool i :: r => (bools r).map (i :: ·)
  | _ :: _ => none
theorem bools_map : ∀ {ds : List D} {ns : List Bool}, bools ds = some ns → ds = ns.map PyData.bool
  | [], _, e => by cases e; rfl
  | .bool i :: r, ns, e => by
    unfold bools at e
    cases q : bools r with
    | none => rw [q] at e; cases e
    | some ms => rw [q] at e; cases e; rw [bools_map q]; rfl
  | .none :: _, _, e => by cases e
  | .int _ :: _, _, e => by cases e
  | .str _ :: _, _, e => by cases e
  | .list _ :: _, _, e => by cases e
  | .tuple _ :: _, _, e => by cases e
  | .dict _ :: _, _, e => by cases e
@[simp] theorem bools_of : ∀ ns : List Bool, bools (ns.map PyData.bool) = some ns
  | [] => rfl
  | n :: r => by simp [bools, bools_of r]
theorem rp_bools {H : Hp} : ∀ {vs : List V} {ns : List Bool}, RpL K H vs (ns.map PyData.bool) → vs = ns.map V.bl
  | _, [], .nil => rfl
  | _, n :: r, .cons h t => by cases h; rw [rp_bools t]; rfl
/-- sum of a list or tuple of intL -/
def rSumT (K : PySem.W.Frag) : List V → Hp → VK → Prop := fun vs H Q => ∃ (a : Addr) (ns : List Int), vs = [V.ref a] ∧ SqT K H a (ns.map V.int) ∧ Q (.int ns.sum) H
theorem cr_sumT (hc : X.calm = true) : CallR X (.builtin "sum") (rSumT X.K) := by
  intro pins s σ H xs us Q I r h
  obtain ⟨a, ns, rfl, hs, q⟩ := h
  have := Vals.ref1 r
  subst this
  obtain ⟨its, rv, ⟨o, ho, hcl, n, hd⟩, hlen⟩ := I.tuple hs
  have hi := Vals.ints rv
  obtain ⟨ys, e⟩ := hi.allInts.items
  have hn : numsOf (intItems ys).toList = ns := by rw [← e]; exact hi.numsOf
  rw [nums_intItems] at hn
  refine PySem.W.ktm_sumG (I.ok.hd hc) (xs := ys) ⟨o, ho, hcl, n, by rw [hd, e]⟩ fun h' tk t' hk => ?_
  refine ⟨.int ns.sum, H, I.kept hk, ⟨t', ?_⟩, q⟩
  rw [preSum_eq, List.take_of_length_le (by simp), hn]
def gSum : List D → Option S
  | [.list ds] => (intL ds).map fun ns => .sh (.int ns.sum)
  | [.tuple ds] => (intL ds).map fun ns => .sh (.int ns.sum)
  | _ => none
def rSumZ (K : PySem.W.Frag) : List V → Hp → VK → Prop := fun vs H Q => rSum K vs H Q ∨ rSumT K vs H Q
theorem cr_sumZ (hc : X.calm = true) : CallR X (.builtin "sum") (rSumZ X.K) := (cr_sum hc).or (cr_sumT hc)
theorem ok_sum : CallOk K (rSumZ K) gSum := by
  intro F σ H ρ A xs ds res g hp e Q q
  match ds, e with
  | [.list ds], e =>
    simp only [gSum] at e
    cases h : intL ds with
    | none => rw [h] at e; cases e
    | some ns =>
      rw [h] at e; cases e
      have := ints_map h
      subst this
      obtain ⟨x, rfl, h⟩ := paired1 hp
      obtain ⟨p, vs, rfl, e1, r1⟩ := h.list
      have := rp_ints r1
      subst this
      exact .inl ⟨p, ns, rfl, .of e1, q _ _ (.here g (.int _))⟩
  | [.tuple ds], e =>
    simp only [gSum] at e
    cases h : intL ds with
    | none => rw [h] at e; cases e
    | some ns =>
      rw [h] at e; cases e
      have := ints_map h
      subst this
      obtain ⟨x, rfl, h⟩ := paired1 hp
      obtain ⟨p, vs, rfl, e1, _, r1⟩ := h.tuple
      have := rp_ints r1
      subst this
      exact .inr ⟨p, ns, rfl, .of e1, q _ _ (.here g (.int _))⟩
def gAll : List D → Option S
  | [.list ds] => (bools ds).map fun ns => .sh (.bool (ns.all id))
  | _ => none
def gAny : List D → Option S
  | [.list ds] => (bools ds).map fun ns => .sh (.bool (ns.any id))
  | _ => none
theorem ok_all : CallOk K (rAll K) gAll := by
  intro F σ H ρ A xs ds res g hp e Q q
  match ds, e with
  | [.list ds], e =>
    simp only [gAll] at e
    cases h : bools ds with
    | none => rw [h] at e; cases e
    | some ns =>
      rw [h] at e; cases e
      have := bools_map h
      subst this
      obtain ⟨x, rfl, h⟩ := paired1 hp
      obtain ⟨p, vs, rfl, e1, r1⟩ := h.list
      have := rp_bools r1
      subst this
      exact ⟨p, ns, rfl, .of e1, q _ _ (.here g (.bl _))⟩
theorem ok_any : CallOk K (rAny K) gAny := by
  intro F σ H ρ A xs ds res g hp e Q q
  match ds, e with
  | [.list ds], e =>
    simp only [gAny] at e
    cases h : bools ds with
    | none => rw [h] at e; cases e
    | some ns =>
      rw [h] at e; cases e
      have := bools_map h
      subst this
      obtain ⟨x, rfl, h⟩ := paired1 hp
      obtain ⟨p, vs, rfl, e1, r1⟩ := h.list
      have := rp_bools r1
      subst this
      exact ⟨p, ns, rfl, .of e1, q _ _ (.here g (.bl _))⟩
/-- the greatest, the least of a list of intL -/
def imax : List Int → Option Int
  | [] => none
  | n :: r => some (r.foldl (fun m x => if x > m then x else m) n)
def imin : List Int → Option Int
  | [] => none
  | n :: r => some (r.foldl (fun m x => if x < m then x else m) n)
theorem foldmax (r : List Int) : ∀ n : Int, (r.foldl (fun m x => if x > m then x else m) n = n ∨ r.foldl (fun m x => if x > m then x else m) n ∈ r) ∧ n ≤ r.foldl (fun m x => if x > m then x else m) n ∧ ∀ y ∈ r, y ≤ r.foldl (fun m x => if x > m then x else m) n := by
  induction r with
  | nil => intro n; exact ⟨.inl rfl, Int.le_refl _, fun y h => nomatch h⟩
  | cons a r ih =>
    intro n
    rw [List.foldl_cons]
    obtain ⟨h1, h2, h3⟩ := ih (if a > n then a else n)
    refine ⟨?_, ?_, fun y hy => ?_⟩
    · rcases h1 with h1 | h1
      · rw [h1]; split
        · exact .inr List.mem_cons_self
        · exact .inl rfl
      · exact .inr (List.mem_cons_of_mem _ h1)
    · refine Int.le_trans ?_ h2; split <;> omega
    · rcases List.mem_cons.mp hy with rfl | hy
      · refine Int.le_trans ?_ h2; split <;> omega
      · exact h3 y hy
theorem foldmin (r : List Int) : ∀ n : Int, (r.foldl (fun m x => if x < m then x else m) n = n ∨ r.foldl (fun m x => if x < m then x else m) n ∈ r) ∧ r.foldl (fun m x => if x < m then x else m) n ≤ n ∧ ∀ y ∈ r, r.foldl (fun m x => if x < m then x else m) n ≤ y := by
  induction r with
  | nil => intro n; exact ⟨.inl rfl, Int.le_refl _, fun y h => nomatch h⟩
  | cons a r ih =>
    intro n
    rw [List.foldl_cons]
    obtain ⟨h1, h2, h3⟩ := ih (if a < n then a else n)
    refine ⟨?_, ?_, fun y hy => ?_⟩
    · rcases h1 with h1 | h1
      · rw [h1]; split
        · exact .inr List.mem_cons_self
        · exact .inl rfl
      · exact .inr (List.mem_cons_of_mem _ h1)
    · refine Int.le_trans h2 ?_; split <;> omega
    · rcases List.mem_cons.mp hy with rfl | hy
      · refine Int.le_trans h2 ?_; split <;> omega
      · exact h3 y hy
theorem imax_is {ns : List Int} {m k : Int} (e : imax ns = some k) (h1 : m ∈ ns) (h2 : ∀ y ∈ ns, y ≤ m) : m = k := by
  cases ns with
  | nil => cases e
  | cons n r =>
    cases e
    obtain ⟨a, b, c⟩ := foldmax r n
    have h3 : r.foldl (fun m x => if x > m then x else m) n ≤ m := by
      rcases a with a | a
      · rw [a]; exact h2 n List.mem_cons_self
      · exact h2 _ (List.mem_cons_of_mem _ a)
    have h4 : m ≤ r.foldl (fun m x => if x > m then x else m) n := by
      rcases List.mem_cons.mp h1 with rfl | h1
      · exact b
      · exact c m h1
    omega
theorem imin_is {ns : List Int} {m k : Int} (e : imin ns = some k) (h1 : m ∈ ns) (h2 : ∀ y ∈ ns, m ≤ y) : m = k := by
  cases ns with
  | nil => cases e
  | cons n r =>
    cases e
    obtain ⟨a, b, c⟩ := foldmin r n
    have h3 : m ≤ r.foldl (fun m x => if x < m then x else m) n := by
      rcases a with a | a
      · rw [a]; exact h2 n List.mem_cons_self
      · exact h2 _ (List.mem_cons_of_mem _ a)
    have h4 : r.foldl (fun m x => if x < m then x else m) n ≤ m := by
      rcases List.mem_cons.mp h1 with rfl | h1
      · exact b
      · exact c m h1
    omega
def gMax1 : List D → Option S
  | [.list ds] => (intL ds).bind fun ns => (imax ns).map fun m => .sh (.int m)
  | _ => none
def gMin1 : List D → Option S
  | [.list ds] => (intL ds).bind fun ns => (imin ns).map fun m => .sh (.int m)
  | _ => none
theorem ok_max1 : CallOk K (rMax K) gMax1 := by
  intro F σ H ρ A xs ds res g hp e Q q
  match ds, e with
  | [.list ds], e =>
    simp only [gMax1] at e
    cases h : intL ds with
    | none => rw [h] at e; cases e
    | some ns =>
      rw [h] at e
      cases h2 : imax ns with
      | none => simp [h2] at e
      | some k =>
        simp only [h2, Option.bind_some, Option.map_some, Option.some.injEq] at e
        subst e
        have := ints_map h
        subst this
        obtain ⟨x, rfl, h⟩ := paired1 hp
        obtain ⟨p, vs, rfl, e1, r1⟩ := h.list
        have := rp_ints r1
        subst this
        refine ⟨p, ns, rfl, .of e1, ?_, fun m h3 h4 => ?_⟩
        · cases ns with
          | nil => cases h2
          | cons => simp
        · rw [imax_is h2 h3 h4]; exact q _ _ (.here g (.int _))
theorem ok_min1 : CallOk K (rMin K) gMin1 := by
  intro F σ H ρ A xs ds res g hp e Q q
  match ds, e with
  | [.list ds], e =>
    simp only [gMin1] at e
    cases h : intL ds with
    | none => rw [h] at e; cases e
    | some ns =>
      rw [h] at e
      cases h2 : imin ns with
      | none => simp [h2] at e
      | some k =>
        simp only [h2, Option.bind_some, Option.map_some, Option.some.injEq] at e
        subst e
        have := ints_map h
        subst this
        obtain ⟨x, rfl, h⟩ := paired1 hp
        obtain ⟨p, vs, rfl, e1, r1⟩ := h.list
        have := rp_ints r1
        subst this
        refine ⟨p, ns, rfl, .of e1, ?_, fun m h3 h4 => ?_⟩
        · cases ns with
          | nil => cases h2
          | cons => simp
        · rw [imin_is h2 h3 h4]; exact q _ _ (.here g (.int _))
def gTuple : List D → Option S
  | [.list ds] => some (.sh (.tuple ds))
  | [.tuple ds] => some (.sh (.tuple ds))
  | _ => none
theorem ok_tuple : CallOk K (fun xs H Q => ∃ p ys, xs = [.ref p] ∧ ((SqL K H p ys ∧ ∀ l, H l = none → Q (.ref l) (upd H l (.tup ys))) ∨ (SqT K H p ys ∧ Q (.ref p) H))) gTuple := by
  intro F σ H ρ A xs ds res g hp e Q q
  match ds, e with
  | [.list ds], e =>
    cases e
    obtain ⟨x, rfl, h⟩ := paired1 hp
    obtain ⟨p, vs, rfl, e1, r1⟩ := h.list
    exact ⟨p, vs, rfl, .inl ⟨.of e1, fun l hl => q _ _ (.newT g hl r1)⟩⟩
  | [.tuple ds], e =>
    cases e
    obtain ⟨x, rfl, h⟩ := paired1 hp
    obtain ⟨p, vs, rfl, e1, e0, r1⟩ := h.tuple
    exact ⟨p, vs, rfl, .inr ⟨.of e1, q _ _ (.here g (.tup e0 r1))⟩⟩
def gList : List D → Option S
  | [.list ds] => some (.ow (.list ds))
  | [.tuple ds] => some (.ow (.list ds))
  | _ => none
theorem ok_list : CallOk K (fun xs H Q => ∃ p ys, xs = [.ref p] ∧ (SqL K H p ys ∨ SqT K H p ys) ∧ ∀ l, H l = none → Q (.ref l) (upd H l (.lst ys))) gList := by
  intro F σ H ρ A xs ds res g hp e Q q
  match ds, e with
  | [.list ds], e =>
    cases e
    obtain ⟨x, rfl, h⟩ := paired1 hp
    obtain ⟨p, vs, rfl, e1, r1⟩ := h.list
    exact ⟨p, vs, rfl, .inl (.of e1), fun l hl => q _ _ (.newL g hl r1)⟩
  | [.tuple ds], e =>
    cases e
    obtain ⟨x, rfl, h⟩ := paired1 hp
    obtain ⟨p, vs, rfl, e1, e0, r1⟩ := h.tuple
    exact ⟨p, vs, rfl, .inr (.of e1), fun l hl => q _ _ (.newL g hl r1)⟩
def gStr : List D → Option S
  | [.int i] => if i.natAbs.log2 < 1920 then some (.sh (.str (toString i))) else none
  | _ => none
theorem ok_str : CallOk K (fun xs H Q => ∃ i : Int, xs = [.int i] ∧ i.natAbs.log2 < 1920 ∧ Q (.str (toString i)) H) gStr := by
  intro F σ H ρ A xs ds res g hp e Q q
  match ds, e with
  | [.int i], e =>
    simp only [gStr] at e
    split at e
    · cases e; obtain ⟨x, rfl, h⟩ := paired1 hp; exact ⟨i, by rw [h.int], by assumption, q _ _ (.here g (.str _))⟩
    · cases e
end

/-! ### isinstance(x, T), T one of int, bool, str, list, tuple -/
def isTy (T : String) : D → Bool
  | .none => false
  | .bool _ => T == "int" || T == "bool"
  | .int _ => T == "int"
  | .str _ => T == "str"
  | .list _ => T == "list"
  | .tuple _ => T == "tuple"
  | .dict _ => T == "dict"
def tyN : D → String
  | .none => "NoneType"
  | .bool _ => "bool"
  | .int _ => "int"
  | .str _ => "str"
  | .list _ => "list"
  | .tuple _ => "tuple"
  | .dict _ => "dict"
def kinds : List String := ["int", "bool", "str", "list", "tuple"]
def tyTab (n T : String) : Bool := match n with
  | "NoneType" => false
  | "bool" => T == "int" || T == "bool"
  | n => n == T
theorem kit_tab : (["NoneType", "bool", "int", "str", "list", "tuple"].all fun n => kinds.all fun T => kitB n T == some (tyTab n T)) = true := by decide +kernel
theorem kit_at {n T : String} (hn : n ∈ ["NoneType", "bool", "int", "str", "list", "tuple"]) (hT : T ∈ kinds) : kitB n T = some (tyTab n T) := by
  have h := List.all_eq_true.mp kit_tab n hn
  exact beq_iff_eq.mp (List.all_eq_true.mp h T hT)
theorem isTy_tab {T : String} {d : D} (h : d.plain = true) : tyTab (tyN d) T = isTy T d := by
  cases d with
  | none => rfl
  | bool b => rfl
  | int b => show ("int" == T) = (T == "int"); exact Bool.beq_comm
  | str b => show ("str" == T) = (T == "str"); exact Bool.beq_comm
  | list b => show ("list" == T) = (T == "list"); exact Bool.beq_comm
  | tuple b => show ("tuple" == T) = (T == "tuple"); exact Bool.beq_comm
  | dict b => cases h
section
variable {X : Cx} {K : PySem.W.Frag} {mg : Str → Option Value} {W : WX} {n : Nat} {pos : Pos} {e : Expr} {fa : OF}
theorem pk_ty {F : Addr → Prop} {H : Hp} {A : List (Option Addr)} {v : V} {d : D} (h : Pk K H (vw H (hid F A)) v d) : TyX K H v (.type (tyN d)) ∧ tyN d ∈ ["NoneType", "bool", "int", "str", "list", "tuple"] := by
  cases d with
  | none => have := h.none; subst this; exact ⟨.base .non, by simp [tyN]⟩
  | bool b => have := h.bool; subst this; exact ⟨.base (.bl b), by simp [tyN]⟩
  | int b => have := h.int; subst this; exact ⟨.base (.int b), by simp [tyN]⟩
  | str b => have := h.str; subst this; exact ⟨.base (.str b), by simp [tyN]⟩
  | list ds => obtain ⟨p, vs, rfl, e1, _⟩ := h.list; exact ⟨.base (.lst e1), by simp [tyN]⟩
  | tuple ds => obtain ⟨p, vs, rfl, e1, _⟩ := h.tuple; exact ⟨.base (.tup e1), by simp [tyN]⟩
  | dict ds => have := h.plain; cases this
def fIsi (T : String) (f : OF) : EF := fun ρ => f ρ >>= fun p => Rs.of (look p.1 p.2) >>= fun d => .ok (.sh (.bool (isTy T d)), p.2)
theorem ev_isi {T : String} {x : Str} {p p2 : Pos} (ct : Ct X K mg W n) (hT : T ∈ kinds) (hg : Gl X "isinstance") (hm : mg "isinstance" = none) (hg2 : Gl X x) (hm2 : mg x = none) (hv2 : bootBuiltins x = some (.type T)) (h : PE X e (TO' K mg W fa)) (hn : x ≠ "__name__" := by decide) (hdb : (x == ("__debug__" : Str)) = false := by decide)
    (he : starEach [e, .Name x p2] X.env = (false, eval e X.env) :: starEach [.Name x p2] X.env := by rfl) (he2 : starEach [.Name x p2] X.env = (false, eval (.Name x p2) X.env) :: starEach [] X.env := by rfl) (hpl : (backTo pos (starEach [.Name x p2] X.env)).any (·.1) = false := by rfl) :
    PE X (.Call (.Name "isinstance" p) [e, .Name x p2] [] pos) (TF K mg W (fIsi T fa)) := by
  obtain ⟨rfl, rfl, _, _, _, _⟩ := ct
  refine pe_imp (pe_callB call_isi hg hm (by decide +kernel) (pa_cons h (pa_cons (pe_bltn (v := .ty T) hg2 hm2 hv2 rfl hn hdb) pa_nil he2) he) (by decide) (by decide) he hpl) fun σ H Q ⟨F, ρ, A, gd, po⟩ => ?_
  refine seqO gd (po := fun o => PoE X.K X.mg W F σ H ρ A o Q) poE_no (poE_exS Stp.refl) po fun h1 ρ1 v1 H1 A1 g1 s1 r1 po => ?_
  obtain ⟨d1, e1, po⟩ := seqOpt (po := fun o => PoE X.K X.mg W F σ H ρ A o Q) poE_no po
  have pk := look_ok g1 r1 e1
  obtain ⟨t1, t2⟩ := pk_ty pk
  exact ⟨v1, .ty T, .type (tyN d1), .type T, isTy T d1, rfl, .ty T, t1, kit_ty (by rw [kit_at t2 hT, isTy_tab pk.plain]), po _ H1 ⟨A1, g1, s1, .bl _⟩⟩
end
end Z
end
section
namespace Z
open PySem PySem.Spec L2

/-! ### stores -/
def setS (i : Nat) (s : S) (ρ : List S) : Option (List S) := match ρ[i]? with
  | some (.cu _ _) => none
  | some _ => some (ρ.set i s)
  | none => none
section
variable {K : PySem.W.Frag} {F : Addr → Prop} {σ : St} {H H' : Hp} {ρ ρ' : List S} {A A' : List (Option Addr)}
theorem setS_some {i : Nat} {s : S} (e : setS i s ρ = some ρ') : i < ρ.length ∧ ρ' = ρ.set i s ∧ ∀ x y, ρ[i]? ≠ some (S.cu x y) := by
  unfold setS at e
  cases q : ρ[i]? with
  | none => rw [q] at e; cases e
  | some t =>
    rw [q] at e
    refine ⟨lt_of_ix q, ?_⟩
    cases t with
    | cu x y => cases e
    | _ => cases e; exact ⟨rfl, fun x y z => by cases z⟩
/-- the owner of the slot is forgotten, the view grows -/
theorem view_setNone {i : Nat} : Same (vw H (hid F A)) (vw H (hid F (A.set i none))) := vw_mono (fun b z => z.elim .inl fun q => .inr (mem_set_none q)) fun _ _ _ q => q
theorem Good.put {i : Nat} {v : V} {d : D} (g : Good K F σ H ρ A) (hi : i < ρ.length) (r : Rp K (vw H (hid F A)) v d) : Good K F (σ.set i (some v)) H (ρ.set i (.sh d)) (A.set i none) := by
  have hA : i < A.length := by rw [g.l2]; exact hi
  have hσ : i < σ.length := by rw [g.l1]; exact hi
  refine ⟨by simp [g.l1], by simp [g.l2], fun j k b e1 e2 => ?_, fun j b e => ?_, g.trk, fun j s e => ?_⟩
  · by_cases hj : i = j
    · subst hj; rw [List.getElem?_set_self hA] at e1; cases e1
    · rw [List.getElem?_set_ne hj] at e1
      by_cases hk : i = k
      · subst hk; rw [List.getElem?_set_self hA] at e2; cases e2
      · rw [List.getElem?_set_ne hk] at e2
        exact g.inj j k b e1 e2
  · by_cases hj : i = j
    · subst hj; rw [List.getElem?_set_self hA] at e; cases e
    · rw [List.getElem?_set_ne hj] at e
      exact g.dis j b e
  · by_cases hj : i = j
    · subst hj
      rw [List.getElem?_set_self hi] at e; cases e
      rw [List.getElem?_set_self hA, List.getElem?_set_self hσ]
      exact ⟨rfl, v, rfl, r.mono view_setNone⟩
    · rw [List.getElem?_set_ne hj] at e
      rw [List.getElem?_set_ne hj, List.getElem?_set_ne hj]
      exact (g.slot j s e).mono (fun _ _ => rfl) view_setNone
theorem Good.putD {i : Nat} {a : Addr} {t : DT} (g : Good K F σ H ρ A) (hi : i < ρ.length) (r : DO K (vw H (hid F A)) (vw H (hid F A)) a t) : Good K F (σ.set i (some (.ref a))) H (ρ.set i (.sd t)) (A.set i none) := by
  have hA : i < A.length := by rw [g.l2]; exact hi
  have hσ : i < σ.length := by rw [g.l1]; exact hi
  have g' := g.put (v := .non) (d := .none) hi .non
  refine ⟨by simp [g.l1], by simp [g.l2], g'.inj, g'.dis, g.trk, fun j s e => ?_⟩
  by_cases hj : i = j
  · subst hj
    rw [List.getElem?_set_self hi] at e; cases e
    rw [List.getElem?_set_self hA, List.getElem?_set_self hσ]
    exact ⟨rfl, a, rfl, r.see view_setNone⟩
  · rw [List.getElem?_set_ne hj] at e
    rw [List.getElem?_set_ne hj, List.getElem?_set_ne hj]
    exact (g.slot j s e).mono (fun _ _ => rfl) view_setNone
theorem Stp.put {i : Nat} {s : S} {oa : Option Addr} (hc : ∀ x y, ρ[i]? ≠ some (S.cu x y)) (hv : Same (vw H (hid F A)) (vw H (hid F (A.set i oa)))) : Stp F H ρ A H (ρ.set i s) (A.set i oa) :=
  ⟨fun _ _ => rfl, hv, fun j x y e => by
    have hj : i ≠ j := fun z => by subst z; exact hc x y e
    rw [List.getElem?_set_ne hj, List.getElem?_set_ne hj]
    exact ⟨rfl, x, y, e⟩⟩
/-- one's own, stored -/
theorem Good.putO {i : Nat} {a : Addr} {d : D} (g : Good K (adj F a) σ H ρ A) (na : ¬ F a) (hi : i < ρ.length) (o : Ow K H (vw H (hid (adj F a) A)) a d) : Good K F (σ.set i (some (.ref a))) H (ρ.set i (.ow d)) (A.set i (some a)) := by
  have hA : i < A.length := by rw [g.l2]; exact hi
  have hσ : i < σ.length := by rw [g.l1]; exact hi
  have hv : Same (vw H (hid (adj F a) A)) (vw H (hid F (A.set i (some a)))) := vw_mono (fun b z => by
    rcases z with z | z
    · exact .inl (.inl z)
    · rcases List.mem_or_eq_of_mem_set z with q | q
      · exact .inr q
      · cases q; exact .inl (.inr rfl)) fun _ _ _ q => q
  have nA : ∀ j b, A[j]? = some (some b) → b ≠ a := fun j b e z => g.dis j b e (.inr z)
  refine ⟨by simp [g.l1], by simp [g.l2], fun j k b e1 e2 => ?_, fun j b e => ?_, fun b hb => g.trk b (.inl hb), fun j s e => ?_⟩
  · by_cases hj : i = j
    · subst hj; rw [List.getElem?_set_self hA] at e1; cases e1
      by_cases hk : i = k
      · exact hk
      · rw [List.getElem?_set_ne hk] at e2
        exact absurd rfl (nA k _ e2)
    · rw [List.getElem?_set_ne hj] at e1
      by_cases hk : i = k
      · subst hk; rw [List.getElem?_set_self hA] at e2; cases e2
        exact absurd rfl (nA j _ e1)
      · rw [List.getElem?_set_ne hk] at e2
        exact g.inj j k b e1 e2
  · by_cases hj : i = j
    · subst hj; rw [List.getElem?_set_self hA] at e; cases e; exact na
    · rw [List.getElem?_set_ne hj] at e
      exact fun z => g.dis j b e (.inl z)
  · by_cases hj : i = j
    · subst hj
      rw [List.getElem?_set_self hi] at e; cases e
      rw [List.getElem?_set_self hA, List.getElem?_set_self hσ]
      exact ⟨a, rfl, rfl, o.mono rfl hv⟩
    · rw [List.getElem?_set_ne hj] at e
      rw [List.getElem?_set_ne hj, List.getElem?_set_ne hj]
      exact (g.slot j s e).mono (fun _ _ => rfl) hv
theorem Good.putOD {i : Nat} {a : Addr} {d : DT} (g : Good K (adj F a) σ H ρ A) (na : ¬ F a) (hi : i < ρ.length) (o : DO K H (vw H (hid (adj F a) A)) a d) : Good K F (σ.set i (some (.ref a))) H (ρ.set i (.od d)) (A.set i (some a)) := by
  have hA : i < A.length := by rw [g.l2]; exact hi
  have hσ : i < σ.length := by rw [g.l1]; exact hi
  have hv : Same (vw H (hid (adj F a) A)) (vw H (hid F (A.set i (some a)))) := vw_mono (fun b z => by
    rcases z with z | z
    · exact .inl (.inl z)
    · rcases List.mem_or_eq_of_mem_set z with q | q
      · exact .inr q
      · cases q; exact .inl (.inr rfl)) fun _ _ _ q => q
  have nA : ∀ j b, A[j]? = some (some b) → b ≠ a := fun j b e z => g.dis j b e (.inr z)
  refine ⟨by simp [g.l1], by simp [g.l2], fun j k b e1 e2 => ?_, fun j b e => ?_, fun b hb => g.trk b (.inl hb), fun j s e => ?_⟩
  · by_cases hj : i = j
    · subst hj; rw [List.getElem?_set_self hA] at e1; cases e1
      by_cases hk : i = k
      · exact hk
      · rw [List.getElem?_set_ne hk] at e2
        exact absurd rfl (nA k _ e2)
    · rw [List.getElem?_set_ne hj] at e1
      by_cases hk : i = k
      · subst hk; rw [List.getElem?_set_self hA] at e2; cases e2
        exact absurd rfl (nA j _ e1)
      · rw [List.getElem?_set_ne hk] at e2
        exact g.inj j k b e1 e2
  · by_cases hj : i = j
    · subst hj; rw [List.getElem?_set_self hA] at e; cases e; exact na
    · rw [List.getElem?_set_ne hj] at e
      exact fun z => g.dis j b e (.inl z)
  · by_cases hj : i = j
    · subst hj
      rw [List.getElem?_set_self hi] at e; cases e
      rw [List.getElem?_set_self hA, List.getElem?_set_self hσ]
      exact ⟨a, rfl, rfl, o.mono rfl hv⟩
    · rw [List.getElem?_set_ne hj] at e
      rw [List.getElem?_set_ne hj, List.getElem?_set_ne hj]
      exact (g.slot j s e).mono (fun _ _ => rfl) hv
theorem view_putO {i : Nat} {a : Addr} : Same (vw H (hid (adj F a) A)) (vw H (hid F (A.set i (some a)))) := vw_mono (fun b z => by
    rcases z with z | z
    · exact .inl (.inl z)
    · rcases List.mem_or_eq_of_mem_set z with q | q
      · exact .inr q
      · cases q; exact .inl (.inr rfl)) fun _ _ _ q => q
/-- one's own object written: its new contents d' -/
theorem Good.write {i : Nat} {a : Addr} {d' : D} {o : HO} (g : Good K F σ H ρ A) (ha : A[i]? = some (some a)) (hσ : σ[i]? = some (some (.ref a))) (h : Ow K (upd H a o) (vw H (hid F A)) a d') : Good K F σ (upd H a o) (ρ.set i (.ow d')) A := by
  have hA : i < A.length := lt_of_ix ha
  have hi : i < ρ.length := by rw [← g.l2]; exact hA
  have hv : Same (vw H (hid F A)) (vw (upd H a o) (hid F A)) := vw_mono (fun _ z => z) fun b u n e => by
    rw [upd_ne (fun z => n (by rw [z]; exact .inr (mem_of_ix ha)))]; exact e
  refine ⟨by simp [g.l1], by simp [g.l2], g.inj, g.dis, fun b hb => ?_, fun j s e => ?_⟩
  · rw [upd_ne (fun z => g.dis i a ha (by rw [← z]; exact hb))]; exact g.trk b hb
  · by_cases hj : i = j
    · subst hj
      rw [List.getElem?_set_self hi] at e; cases e
      exact ⟨a, ha, hσ, h.mono rfl hv⟩
    · rw [List.getElem?_set_ne hj] at e
      refine (g.slot j s e).mono (fun b hb => ?_) hv
      rw [upd_ne (fun z => hj (g.inj i j a ha (by rw [← z]; exact hb)))]
theorem Good.writeD {i : Nat} {a : Addr} {d' : DT} {o : HO} (g : Good K F σ H ρ A) (ha : A[i]? = some (some a)) (hσ : σ[i]? = some (some (.ref a))) (h : DO K (upd H a o) (vw H (hid F A)) a d') : Good K F σ (upd H a o) (ρ.set i (.od d')) A := by
  have hA : i < A.length := lt_of_ix ha
  have hi : i < ρ.length := by rw [← g.l2]; exact hA
  have hv : Same (vw H (hid F A)) (vw (upd H a o) (hid F A)) := vw_mono (fun _ z => z) fun b u n e => by
    rw [upd_ne (fun z => n (by rw [z]; exact .inr (mem_of_ix ha)))]; exact e
  refine ⟨by simp [g.l1], by simp [g.l2], g.inj, g.dis, fun b hb => ?_, fun j s e => ?_⟩
  · rw [upd_ne (fun z => g.dis i a ha (by rw [← z]; exact hb))]; exact g.trk b hb
  · by_cases hj : i = j
    · subst hj
      rw [List.getElem?_set_self hi] at e; cases e
      exact ⟨a, ha, hσ, h.mono rfl hv⟩
    · rw [List.getElem?_set_ne hj] at e
      refine (g.slot j s e).mono (fun b hb => ?_) hv
      rw [upd_ne (fun z => hj (g.inj i j a ha (by rw [← z]; exact hb)))]
theorem Stp.write {i : Nat} {a : Addr} {s : S} {o : HO} (g : Good K F σ H ρ A) (ha : A[i]? = some (some a)) (hc : ∀ x y, ρ[i]? = some (S.cu x y) → ∃ x' y', s = .cu x' y') : Stp F H ρ A (upd H a o) (ρ.set i s) A := by
  refine ⟨fun b hb => upd_ne (fun z => g.dis i a ha (by rw [← z]; exact hb)), vw_mono (fun _ z => z) fun b u n e => by
    rw [upd_ne (fun z => n (by rw [z]; exact .inr (mem_of_ix ha)))]; exact e, fun j x y e => ⟨rfl, ?_⟩⟩
  by_cases hj : i = j
  · subst hj
    rw [List.getElem?_set_self (lt_of_ix e)]
    obtain ⟨x', y', rfl⟩ := hc x y e
    exact ⟨x', y', rfl⟩
  · rw [List.getElem?_set_ne hj]
    exact ⟨x, y, e⟩
/-- the two numbers written -/
theorem Good.writeC {i : Nat} {a : Addr} {x y : Int} (g : Good K F σ H ρ A) (ha : A[i]? = some (some a)) (hσ : σ[i]? = some (some (.ref a))) : Good K F σ (upd H a (.lst [.int x, .int y])) (ρ.set i (.cu x y)) A := by
  have hA : i < A.length := lt_of_ix ha
  have hi : i < ρ.length := by rw [← g.l2]; exact hA
  have hv : Same (vw H (hid F A)) (vw (upd H a (.lst [.int x, .int y])) (hid F A)) := vw_mono (fun _ z => z) fun b u n e => by
    rw [upd_ne (fun z => n (by rw [z]; exact .inr (mem_of_ix ha)))]; exact e
  refine ⟨by simp [g.l1], by simp [g.l2], g.inj, g.dis, fun b hb => ?_, fun j s e => ?_⟩
  · rw [upd_ne (fun z => g.dis i a ha (by rw [← z]; exact hb))]; exact g.trk b hb
  · by_cases hj : i = j
    · subst hj
      rw [List.getElem?_set_self hi] at e; cases e
      exact ⟨a, ha, hσ, upd_same⟩
    · rw [List.getElem?_set_ne hj] at e
      refine (g.slot j s e).mono (fun b hb => ?_) hv
      rw [upd_ne (fun z => hj (g.inj i j a ha (by rw [← z]; exact hb)))]
end

/-! ### targets -/
abbrev GF := D → List S → Option (List S)
section
variable (K : PySem.W.Frag)
/-- is: the slots that it stores to -/
def TGt (is : List Nat) (g : GF) : TG := fun v σ H Q => ∃ F ρ A d ρ', Good K F σ H ρ A ∧ Rp K (vw H (hid F A)) v d ∧ g d ρ = some ρ' ∧ ∀ σ' A', Good K F σ' H ρ' A' → Stp F H ρ A H ρ' A' → σ'.length = σ.length → (∀ j, j ∉ is → σ'[j]? = σ[j]?) → Q σ' H
def TGs' (is : List Nat) (g : List D → List S → Option (List S)) : TGs := fun vs σ H Q => ∃ F ρ A ds ρ', Good K F σ H ρ A ∧ RpL K (vw H (hid F A)) vs ds ∧ g ds ρ = some ρ' ∧ ∀ σ' A', Good K F σ' H ρ' A' → Stp F H ρ A H ρ' A' → σ'.length = σ.length → (∀ j, j ∉ is → σ'[j]? = σ[j]?) → Q σ' H
end
def gNm (i : Nat) : GF := fun d ρ => setS i (.sh d) ρ
def gsNil : List D → List S → Option (List S) := fun ds ρ => match ds with
  | [] => some ρ
  | _ => none
def gsCons (g : GF) (gs : List D → List S → Option (List S)) : List D → List S → Option (List S) := fun ds ρ => match ds with
  | d :: r => (g d ρ).bind (gs r)
  | [] => none
def gTupT (n : Nat) (gs : List D → List S → Option (List S)) : GF := fun d ρ => match d with
  | .tuple ds => if ds.length = n then gs ds ρ else none
  | .list ds => if ds.length = n then gs ds ρ else none
  | _ => none
section
variable {X : Cx} {K : PySem.W.Frag} {mg : Str → Option Value} {W : WX} {n : Nat} {pos : Pos}
theorem pg_imp {e : Expr} {t t' : TG} (h : PG X e t) (m : ∀ v σ H Q, t' v σ H Q → t v σ H Q) : PG X e t' := ⟨fun p s σ H v u Q I r q => h.run p s σ H v u Q I r (m _ _ _ _ q)⟩
theorem pgs_imp {e : List Expr} {t t' : TGs} (h : PGs X e t) (m : ∀ v σ H Q, t' v σ H Q → t v σ H Q) : PGs X e t' := ⟨fun p s σ H v u Q I r q => h.run p s σ H v u Q I r (m _ _ _ _ q)⟩
theorem pg_or {e : Expr} {t t' : TG} (h : PG X e t) (h' : PG X e t') : PG X e (fun v σ H Q => t v σ H Q ∨ t' v σ H Q) := ⟨fun p s σ H v u Q I r q => q.elim (h.run p s σ H v u Q I r) (h'.run p s σ H v u Q I r)⟩
theorem gt_name {i : Nat} {x : Str} (hN : X.N.Nodup) (hi : X.N[i]? = some x := by rfl) (hx : Loc X.env.scope x := by first | exact Or.inl rfl | exact Or.inr rfl) (hf : X.fn x = true ∨ X.env.scope.names.lookup x = some .local := by first | exact .inl rfl | exact .inr rfl) : PG X (.Name x pos) (TGt K [i] (gNm i)) := by
  refine pg_imp (pg_name hN hi hx hf) fun v σ H Q ⟨F, ρ, A, d, ρ', g, r, e, q⟩ => ?_
  obtain ⟨h1, rfl, h2⟩ := setS_some e
  refine q _ _ (g.put h1 r) (Stp.put h2 view_setNone) (by simp) fun j hj => List.getElem?_set_ne (fun z => hj (by simp [z]))
theorem gts_nil : PGs X [] (TGs' K [] gsNil) := by
  refine pgs_imp pgs_nil fun v σ H Q ⟨F, ρ, A, ds, ρ', g, r, e, q⟩ => ?_
  cases ds with
  | nil => cases r; cases e; exact ⟨rfl, q σ A g Stp.refl rfl fun _ _ => rfl⟩
  | cons => cases e
theorem gts_cons {is js : List Nat} {e : Expr} {es : List Expr} {t : GF} {u : List D → List S → Option (List S)} (h1 : PG X e (TGt K is t)) (h2 : PGs X es (TGs' K js u)) (hs : (assignEach (e :: es) X.env).map (·.2) = assign e X.env :: (assignEach es X.env).map (·.2) := by rfl) : PGs X (e :: es) (TGs' K (is ++ js) (gsCons t u)) := by
  refine pgs_imp (pgs_cons h1 h2 hs) fun v σ H Q ⟨F, ρ, A, ds, ρ', g, r, e, q⟩ => ?_
  cases ds with
  | nil => cases e
  | cons d ds =>
    cases r with
    | @cons v vs _ _ r1 r2 =>
      have e' : (t d ρ).bind (u ds) = some ρ' := e
      cases h : t d ρ with
      | none => rw [h] at e'; cases e'
      | some ρ1 =>
        rw [h] at e'
        exact ⟨v, vs, rfl, F, ρ, A, d, ρ1, g, r1, h, fun σ1 A1 g1 s1 l1 k1 => ⟨F, ρ1, A1, ds, ρ', g1, r2.mono s1.vs, e', fun σ2 A2 g2 s2 l2 k2 => q σ2 A2 g2 (s1.trans s2) (l2.trans l1) fun j hj => (k2 j fun z => hj (List.mem_append_right _ z)).trans (k1 j fun z => hj (List.mem_append_left _ z))⟩⟩
theorem gt_tup {is : List Nat} {es : List Expr} {k : Nat} {gs : List D → List S → Option (List S)} {m : Nat} (ct : Ct X K mg W n) (h : PGs X es (TGs' K is gs))
    (hn : (assignEach es X.env).length = m := by rfl) (hst : (assignEach es X.env).findIdx? (·.1) = none := by rfl) : PG X (.Tuple es k pos) (TGt K is (gTupT m gs)) := by
  obtain ⟨rfl, rfl, _, hc, _, _⟩ := ct
  refine pg_imp (pg_or (pg_tup hc h hn hst) (pg_lst hc h hn hst)) fun v σ H Q ⟨F, ρ, A, d, ρ', g, r, e, q⟩ => ?_
  cases d with
  | tuple ds =>
    simp only [gTupT] at e
    split at e
    · rename_i hl
      cases r with
      | @tup a xs _ e1 r1 => exact .inl ⟨a, xs, rfl, .of (vw_some e1).2, by rw [r1.len]; exact hl, F, ρ, A, ds, ρ', g, r1, e, q⟩
    · cases e
  | list ds =>
    simp only [gTupT] at e
    split at e
    · rename_i hl
      cases r with
      | @lst a xs _ e1 r1 => exact .inr ⟨a, xs, rfl, .of (vw_some e1).2, by rw [r1.len]; exact hl, F, ρ, A, ds, ρ', g, r1, e, q⟩
    · cases e
  | _ => cases e

/-! ### statements -/
variable {e c : Expr} {es : List Expr} {f : EF} {fO : OF} {fB : BF} {fA : AF} {st : Stmt} {sts : List Stmt} {g u : SF}
theorem PoS.of {F : Addr → Prop} {H H1 : Hp} {ρ ρ1 : List S} {A A1 : List (Option Addr)} {σ : St} {o : Rs (Out × List S)} {D' : Ends} (s : Stp F H ρ A H1 ρ1 A1) (h : PoS K mg W F σ H ρ A o D') (σ1 : St) : PoS K mg W F σ1 H1 ρ1 A1 o D' := by
  cases o with
  | no => exact h
  | ex ρ' c fs => exact fun σ' C d H' A' g' s' e' => h σ' C d H' A' g' (s.trans s') e'
  | ok p =>
    obtain ⟨o, ρ2⟩ := p
    cases o with
    | nx => exact fun σ' H' A' g' s' => h σ' H' A' g' (s.trans s')
    | bk => exact fun σ' H' A' g' s' => h σ' H' A' g' (s.trans s')
    | ct => exact fun σ' H' A' g' s' => h σ' H' A' g' (s.trans s')
    | rt r => exact fun σ' v H' f => h σ' v H' (f.trans s)
theorem poS_no {F σ H ρ A} {D' : Ends} : ¬ PoS K mg W F σ H ρ A .no D' := fun z => z
theorem poS_exS {F : Addr → Prop} {H H1 : Hp} {ρ ρ1 : List S} {A A1 : List (Option Addr)} {σ : St} {D' : Ends} (s : Stp F H ρ A H1 ρ1 A1) (ρ' : List S) (c : Str) (fs : List (Str × D)) (h : PoS K mg W F σ H ρ A (.ex ρ' c fs) D') : PoX K mg W F σ H1 ρ1 A1 ρ' c fs :=
  fun C d H' A' g' s' e' => h σ C d H' A' g' (s.trans s') e'
def sNx : SF := fun ρ => .ok (.nx, ρ)
def sSeq (g u : SF) : SF := fun ρ => g ρ >>= fun p => match p.1 with
  | .nx => u p.2
  | o => .ok (o, p.2)
theorem st_nil : PSs X [] (TSt K mg W sNx) := pss_imp pss_nil fun D' σ H ⟨F, ρ, A, gd, po⟩ => po σ H A gd Stp.refl
theorem st_pass : PS X (.Pass pos) (TSt K mg W sNx) := ps_imp ps_pass fun D' σ H ⟨F, ρ, A, gd, po⟩ => po σ H A gd Stp.refl
theorem st_break : PS X (.Break pos) (TSt K mg W fun ρ => .ok (.bk, ρ)) := ps_imp ps_break fun D' σ H ⟨F, ρ, A, gd, po⟩ => po σ H A gd Stp.refl
theorem st_cont : PS X (.Continue pos) (TSt K mg W fun ρ => .ok (.ct, ρ)) := ps_imp ps_continue fun D' σ H ⟨F, ρ, A, gd, po⟩ => po σ H A gd Stp.refl
/-- what is never reached -/
theorem st_never : PS X st (TSt K mg W fun _ => .no) := ps_imp ps_never fun D' σ H ⟨F, ρ, A, gd, po⟩ => po.elim
theorem st_one (h : PS X st (TSt K mg W g)) : PSs X [st] (TSt K mg W g) := pss_one h
theorem st_cons (h : PS X st (TSt K mg W g)) (h2 : PSs X sts (TSt K mg W u)) : PSs X (st :: sts) (TSt K mg W (sSeq g u)) := by
  refine pss_imp (pss_cons h h2) fun D' σ H ⟨F, ρ, A, gd, po⟩ => ⟨F, ρ, A, gd, ?_⟩
  unfold sSeq at po
  cases q : g ρ with
  | no => rw [q] at po; exact po.elim
  | ex ρ' c fs => rw [q] at po; exact po
  | ok p =>
    obtain ⟨o, ρ1⟩ := p
    rw [q] at po
    cases o with
    | nx => exact fun σ1 H1 A1 g1 s1 => ⟨F, ρ1, A1, g1, PoS.of s1 po σ1⟩
    | bk => exact po
    | ct => exact po
    | rt r => exact po
theorem seqES {F : Addr → Prop} {σ : St} {H : Hp} {ρ : List S} {A : List (Option Addr)} {D' : Ends} {k : (S × List S) → Rs (Out × List S)} (gd : Good K F σ H ρ A) (po : PoS K mg W F σ H ρ A (f ρ >>= k) D') {Q : VK}
    (hk : ∀ (r : S) (ρ1 : List S) (v : V) (H1 : Hp), Fin K F σ H ρ A r ρ1 v H1 → PoS K mg W F σ H ρ A (k (r, ρ1)) D' → Q v H1) : TF K mg W f σ H Q :=
  seqE gd (po := fun o => PoS K mg W F σ H ρ A o D') poS_no (poS_exS Stp.refl) po hk
/-- an expression as a statement -/
def sExpr (f : EF) : SF := fun ρ => f ρ >>= fun p => match p.1 with
  | .sh _ => .ok (.nx, p.2)
  | .ow _ => .ok (.nx, p.2)
  | _ => .no
theorem st_expr (h : PE X e (TF K mg W f)) (hs : swapsWith e none pos.line X.env = pure false := by rfl) : PS X (.Expr e pos) (TSt K mg W (sExpr f)) := by
  refine ps_imp (ps_expr h hs) fun D' σ H ⟨F, ρ, A, gd, po⟩ => ?_
  refine seqES gd po fun r ρ1 v H1 f1 po => ?_
  cases r with
  | sh d => obtain ⟨A1, g1, s1, _⟩ := f1; exact po σ H1 A1 g1 s1
  | ow d => obtain ⟨A1, g1, s1, _⟩ := f1.weak; exact po σ H1 A1 g1 s1
  | _ => exact po.elim
theorem st_doc {x j pos'} : PS X (.Expr (.Constant (.str x) j pos) pos') (TSt K mg W sNx) := ps_imp ps_doc fun D' σ H ⟨F, ρ, A, gd, po⟩ => po σ H A gd Stp.refl
/-- x = e -/
def sSet (i : Nat) (f : EF) : SF := fun ρ => f ρ >>= fun p => match p.1 with
  | .sh d => Rs.of (setS i (.sh d) p.2) >>= fun ρ' => .ok (.nx, ρ')
  | .ow d => Rs.of (setS i (.ow d) p.2) >>= fun ρ' => .ok (.nx, ρ')
  | .sd d => Rs.of (setS i (.sd d) p.2) >>= fun ρ' => .ok (.nx, ρ')
  | .od d => Rs.of (setS i (.od d) p.2) >>= fun ρ' => .ok (.nx, ρ')
  | _ => .no
theorem set_r {i : Nat} : ∀ D' σ H, TSt K mg W (sSet i f) D' σ H → tAsg (TF K mg W f) (gName i) D' σ H := by
  intro D' σ H ⟨F, ρ, A, gd, po⟩
  refine seqES gd po fun r ρ1 v H1 f1 po => ?_
  cases r with
  | sh d =>
    obtain ⟨ρ', e1, po⟩ := seqOpt (po := fun o => PoS K mg W F σ H ρ A o D') poS_no po
    obtain ⟨h1, rfl, h2⟩ := setS_some e1
    obtain ⟨A1, g1, s1, p1⟩ := f1
    exact po _ H1 _ (g1.put h1 p1) (s1.trans (Stp.put h2 view_setNone))
  | ow d =>
    obtain ⟨ρ', e1, po⟩ := seqOpt (po := fun o => PoS K mg W F σ H ρ A o D') poS_no po
    obtain ⟨h1, rfl, h2⟩ := setS_some e1
    obtain ⟨A1, a, rfl, na, g1, s1, m1, o1⟩ := f1
    refine po _ H1 _ (g1.putO na h1 o1) ⟨s1.kf, m1.trans view_putO, fun j x y e => ?_⟩
    obtain ⟨q1, x', y', q2⟩ := s1.cu j x y e
    have hj : i ≠ j := fun z => by subst z; exact h2 _ _ q2
    rw [List.getElem?_set_ne hj, List.getElem?_set_ne hj]
    exact ⟨q1, x', y', q2⟩
  | sd d =>
    obtain ⟨ρ', e1, po⟩ := seqOpt (po := fun o => PoS K mg W F σ H ρ A o D') poS_no po
    obtain ⟨h1, rfl, h2⟩ := setS_some e1
    obtain ⟨A1, g1, s1, a, rfl, p1⟩ := f1
    exact po _ H1 _ (g1.putD h1 p1) (s1.trans (Stp.put h2 view_setNone))
  | od d =>
    obtain ⟨ρ', e1, po⟩ := seqOpt (po := fun o => PoS K mg W F σ H ρ A o D') poS_no po
    obtain ⟨h1, rfl, h2⟩ := setS_some e1
    obtain ⟨A1, a, rfl, na, g1, s1, m1, o1⟩ := f1
    refine po _ H1 _ (g1.putOD na h1 o1) ⟨s1.kf, m1.trans view_putO, fun j x y e => ?_⟩
    obtain ⟨q1, x', y', q2⟩ := s1.cu j x y e
    have hj : i ≠ j := fun z => by subst z; exact h2 _ _ q2
    rw [List.getElem?_set_ne hj, List.getElem?_set_ne hj]
    exact ⟨q1, x', y', q2⟩
  | _ => exact po.elim
theorem st_set {i : Nat} {x : Str} {pos' : Pos} (ct : Ct X K mg W n) (h : PE X e (TF K mg W f)) (hi : X.N[i]? = some x := by rfl) (hx : Loc X.env.scope x := by first | exact Or.inl rfl | exact Or.inr rfl) (hs : swapsWith e (some (.Name x pos')) pos.line X.env = pure false := by rfl) (hf : X.fn x = true ∨ X.env.scope.names.lookup x = some .local := by first | exact .inl rfl | exact .inr rfl) :
    PS X (.Assign [.Name x pos'] e pos) (TSt K mg W (sSet i f)) := ps_imp (ps_set ct.nd hi hx h hs hf) set_r
/-- a, b = e -/
def sAsg (t : GF) (f : EF) : SF := fun ρ => f ρ >>= fun p => match p.1 with
  | .sh d => Rs.of (t d p.2) >>= fun ρ' => .ok (.nx, ρ')
  | .ow d => Rs.of (t d p.2) >>= fun ρ' => .ok (.nx, ρ')
  | _ => .no
theorem st_asg {tg : Expr} {is : List Nat} {t : GF} (h : PE X e (TF K mg W f)) (ht : PG X tg (TGt K is t)) (hs : swapsWithSole [tg] e pos.line X.env = pure false := by rfl) (hw : swappedStores [tg] e X.env = pure none := by rfl) (h1 : (assignEach [tg] X.env).map (·.2) = [assign tg X.env] := by rfl) : PS X (.Assign [tg] e pos) (TSt K mg W (sAsg t f)) := by
  refine ps_imp (ps_asg h ht hs hw h1) fun D' σ H ⟨F, ρ, A, gd, po⟩ => ?_
  have key : ∀ d v ρ1 H1, Fin K F σ H ρ A (.sh d) ρ1 v H1 → PoS K mg W F σ H ρ A (Rs.of (t d ρ1) >>= fun ρ' => .ok (.nx, ρ')) D' → TGt K is t v σ H1 D'.nx := by
    intro d v ρ1 H1 ⟨A1, g1, s1, p1⟩ po
    obtain ⟨ρ', e1, po⟩ := seqOpt (po := fun o => PoS K mg W F σ H ρ A o D') poS_no po
    exact ⟨F, ρ1, A1, d, ρ', g1, p1, e1, fun σ' A' g' s' _ _ => po σ' H1 A' g' (s1.trans s')⟩
  refine seqES gd po fun r ρ1 v H1 f1 po => ?_
  cases r with
  | sh d => exact key d v ρ1 H1 f1 po
  | ow d => exact key d v ρ1 H1 f1.weak po
  | _ => exact po.elim
/-- a, b = e1, e2, plain names -/
def sPar (i j : Nat) (fA : AF) : SF := fun ρ => fA ρ >>= fun p => match p.1 with
  | [.sh d, .sh d'] => Rs.of ((setS i (.sh d) p.2).bind (setS j (.sh d'))) >>= fun ρ' => .ok (.nx, ρ')
  | _ => .no
theorem st_par {i j : Nat} {x y : Str} {a b : Expr} {px py pt : Pos} {kt k2 pt2} (ct : Ct X K mg W n) (ha : PA X [a, b] (TAr K mg W fA)) (hi : X.N[i]? = some x := by rfl) (hj : X.N[j]? = some y := by rfl) (hij : i ≠ j := by decide)
    (hx : X.env.scope.names.lookup x = some .local := by rfl) (hy : X.env.scope.names.lookup y = some .local := by rfl)
    (hw : swappedStores [.Tuple [.Name x px, .Name y py] kt pt] (.Tuple [a, b] k2 pt2) X.env = pure (some [x, y]) := by rfl) (hs : swapsWithSole [.Tuple [.Name x px, .Name y py] kt pt] (.Tuple [a, b] k2 pt2) pos.line X.env = pure false := by rfl) :
    PS X (.Assign [.Tuple [.Name x px, .Name y py] kt pt] (.Tuple [a, b] k2 pt2) pos) (TSt K mg W (sPar i j fA)) := by
  refine ps_imp (ps_par ct.calm ct.nd hi hj hij hx hy ha hw hs) fun D' σ H ⟨F, ρ, A, gd, po⟩ => ?_
  refine seqA gd (po := fun o => PoS K mg W F σ H ρ A o D') poS_no (poS_exS Stp.refl) po fun rs ρ1 vs H1 A1 g1 s1 r1 po => ?_
  match rs, r1, po with
  | [.sh d, .sh d'], .cons (a := v) r1 (.cons (a := w) r2 .nil), po =>
    obtain ⟨ρ', e1, po⟩ := seqOpt (po := fun o => PoS K mg W F σ H ρ A o D') poS_no po
    cases q1 : setS i (.sh d) ρ1 with
    | none => rw [q1] at e1; cases e1
    | some ρ2 =>
      rw [q1] at e1
      obtain ⟨h1, rfl, h2⟩ := setS_some q1
      obtain ⟨h3, rfl, h4⟩ := setS_some e1
      have g2 := g1.put h1 r1
      have s2 : Stp F H1 ρ1 A1 H1 (ρ1.set i (.sh d)) (A1.set i none) := Stp.put h2 view_setNone
      have g3 := g2.put h3 (r2.mono s2.vs)
      exact ⟨v, w, rfl, po _ H1 _ g3 ((s1.trans s2).trans (Stp.put h4 view_setNone))⟩
/-- return -/
def sRet (f : EF) : SF := fun ρ => f ρ >>= fun p => .ok (.rt p.1, p.2)
theorem st_ret (h : PE X e (TF K mg W f)) : PS X (.Return (some e) pos) (TSt K mg W (sRet f)) := by
  refine ps_imp (ps_ret h) fun D' σ H ⟨F, ρ, A, gd, po⟩ => ?_
  exact seqES gd po fun r ρ1 v H1 f1 po => po σ v H1 f1
theorem st_retN : PS X (.Return none pos) (TSt K mg W fun ρ => .ok (.rt (.sh .none), ρ)) := ps_imp ps_retN fun D' σ H ⟨F, ρ, A, gd, po⟩ => po σ .non H (.here gd .non)
/-- if -/
def sIf (c : BF) (g u : SF) : SF := fun ρ => c ρ >>= fun p => if p.1 = true then g p.2 else u p.2
theorem st_if {a b : List Stmt} (h : PT X c (TB' K mg W fB)) (ha : PSs X a (TSt K mg W g)) (hb : PSs X b (TSt K mg W u)) : PS X (.If c a b pos) (TSt K mg W (sIf fB g u)) := by
  refine ps_imp (ps_if h ha hb) fun D' σ H ⟨F, ρ, A, gd, po⟩ => ?_
  refine seqB gd (po := fun o => PoS K mg W F σ H ρ A o D') poS_no (poS_exS Stp.refl) po fun k ρ1 H1 A1 g1 s1 po => ?_
  cases k with
  | true => exact ⟨F, ρ1, A1, g1, PoS.of s1 po σ⟩
  | false => exact ⟨F, ρ1, A1, g1, PoS.of s1 po σ⟩
/-- while: at most so many turns -/
def whileL (c : BF) (b : SF) : Nat → List S → Rs (Out × List S)
  | 0, _ => .no
  | m + 1, ρ => c ρ >>= fun p => if p.1 = true then b p.2 >>= fun q => match q.1 with
      | .nx => whileL c b m q.2
      | .ct => whileL c b m q.2
      | .bk => .ok (.nx, q.2)
      | .rt r => .ok (.rt r, q.2)
    else .ok (.nx, p.2)
theorem st_while {body : List Stmt} (m : Nat) (hp : PassesOwn (model X.prog X.w) X.A X.env X.xe) (h : PT X c (TB' K mg W fB)) (hb : PSs X body (TSt K mg W g)) : PS X (.While c body [] pos) (TSt K mg W (whileL fB g m)) := by
  refine ps_imp (ps_while hp h hb) fun D' σ H ⟨F, ρ, A, gd, po⟩ => ?_
  refine ⟨fun k σ1 H1 => ∃ ρ1 A1, Good K F σ1 H1 ρ1 A1 ∧ Stp F H ρ A H1 ρ1 A1 ∧ PoS K mg W F σ H ρ A (whileL fB g k ρ1) D', ⟨m, ρ, A, gd, Stp.refl, po⟩, fun k σ1 H1 ⟨ρ1, A1, g1, s1, po⟩ => ?_⟩
  cases k with
  | zero => exact po.elim
  | succ k =>
    refine seqB g1 (po := fun o => PoS K mg W F σ H ρ A o D') poS_no (fun ρ' c fs h C d H' A' g' s' e' => h σ1 C d H' A' g' (s1.trans s') e') po fun t ρ2 H2 A2 g2 s2 po => ?_
    cases t with
    | false => exact po σ1 H2 A2 g2 (s1.trans s2)
    | true =>
      refine ⟨fun σ3 H3 => ∃ ρ3 A3, Good K F σ3 H3 ρ3 A3 ∧ Stp F H ρ A H3 ρ3 A3 ∧ PoS K mg W F σ H ρ A (whileL fB g k ρ3) D', fun σ3 H3 ⟨ρ3, A3, h3⟩ => ⟨k, Nat.lt_succ_self k, ρ3, A3, h3⟩, F, ρ2, A2, g2, ?_⟩
      have s12 := s1.trans s2
      rw [if_pos rfl] at po
      cases q : g ρ2 with
      | no => rw [q] at po; exact po.elim
      | ex ρ' c fs => rw [q] at po; exact PoS.of s12 po σ1
      | ok p =>
        obtain ⟨o, ρ3⟩ := p
        rw [q] at po
        cases o with
        | bk => exact PoS.of s12 po σ1
        | rt r => exact PoS.of s12 po σ1
        | nx => exact fun σ3 H3 A3 g3 s3 => ⟨ρ3, A3, g3, s12.trans s3, po⟩
        | ct => exact fun σ3 H3 A3 g3 s3 => ⟨ρ3, A3, g3, s12.trans s3, po⟩
end
end Z
end
section
namespace Z
open PySem PySem.Spec L2

/-! ### enumerate of a tuple -/
def IteT (a : Addr) : It :=
  ⟨fun i H => ∃ (xs : List V) (x : V), H a = some (.tup xs) ∧ xs[i]? = some x, fun i H v H' => ∃ T x, v = .ref T ∧ H T = none ∧ H' = upd H T (.tup [.int (i : Nat), x]) ∧ ∀ xs, H a = some (.tup xs) → xs[i]? = some x, fun i H => ∃ xs : List V, H a = some (.tup xs) ∧ xs.length ≤ i⟩
theorem turn_enumT {P : Program} {w : World} {K : PySem.W.Frag} {elts : List Expr} {kk : Nat} {tpos : Pos} (a e it : Addr) :
    Turn P w K (.Tuple elts kk tpos) (IteT a) [e, it] e (fun i h => (∃ old, IsEnum h e it ((i : Nat) : Int) old) ∧ h.IsTupleIter it a i ∧ e ≠ it) where
  mem := by simp
  obj := fun i h st b hb => by
    obtain ⟨⟨old, he⟩, ⟨o, ho, hc, hd⟩, _⟩ := st
    have e' : b = e ∨ b = it := by simpa using hb
    rcases e' with z | z
    · rw [z]; exact ⟨_, he, fun v q => nomatch q⟩
    · rw [z]; exact ⟨o, ho, fun v q => by rw [hd] at q; cases q⟩
  keep := fun i h h' st k => let ⟨⟨old, he⟩, hi, hne⟩ := st; ⟨⟨old, k e (by simp) _ he⟩, hi.at fun o q => k it (by simp) o q, hne⟩
  item := by
    intro X hP hw hK hc i pins s σ H E I hf st hg
    subst hP hw hK
    obtain ⟨⟨old, he⟩, hit, hne⟩ := st
    obtain ⟨xs, x, hq, hx⟩ := hg
    obtain ⟨its, rv, p, hz⟩ := I.tuple (SqT.of hq)
    obtain ⟨u, hu, ru⟩ := rv.get hx
    have hel : e < s.heap.objs.size := Heap.lt_size he
    have hil : it < s.heap.objs.size := by obtain ⟨_, q, _⟩ := hit; exact Heap.lt_size q
    have nae : e ≠ a := fun z => by have := (hf e (by simp)).1; rw [z, hq] at this; cases this
    have nai : a ≠ it := fun z => by have := (hf it (by simp)).1; rw [← z, hq] at this; cases this
    have hlt : i < its.toArray.size := by
      have := lt_of_ix hu
      simpa using this
    refine wpAny_pyNext_enum_itemD (n := its.toArray.size) (PySem.Draws.tuple (A := X.A.in1) (I.ok.hd hc) it a nai its.toArray) he ⟨hit, (show s.heap.IsTuple a its.toArray from p)⟩ hlt hne (by simp; exact ⟨hne, nae⟩) fun x' h' tk hP' ho hst' hT hsz hk => ?_
    have ex' : x' = u := by
      have h1 : its.toArray[i]? = some x' := hP'
      have h2 : its.toArray[i]? = some u := by simpa using hu
      rw [h1] at h2; cases h2; rfl
    subst ex'
    refine ⟨_, rfl, wpAny_letOwnedTupleGo_enum (s := { s with heap := h', toks := tk + 1 }) ho fun h'' he' sb => ?_⟩
    have hT2 : h''.get? s.heap.objs.size = some { cls := .type "tuple", data := .seq #[.int i tk, x'] } := (sb.2 _ (Nat.ne_of_gt hel)).trans hT
    have new : ObjOk X.prog X.w (upd H s.heap.objs.size (.tup [.int (i : Nat), x])) h'' s.heap.objs.size (.tup [.int (i : Nat), x]) :=
      ⟨by show 2 ≤ sizeLine; decide, [.int i tk, x'], .cons ⟨_, rfl⟩ (.cons ru .nil), ⟨_, hT2, rfl, _, rfl⟩⟩
    have I1 : Inv X pins σ (upd H s.heap.objs.size (.tup [.int (i : Nat), x])) { s with heap := h'', toks := tk + 1 } :=
      I.turnedNew (ch := [e, it]) (fun b ob hb q => (sb.2 b (fun z => hb (by simp [z]))).trans (hk b ob (fun z => hb (by simp [z])) (fun z => hb (by simp [z])) q)) hf (Nat.le_refl _) new
    refine ⟨.ref s.heap.objs.size, _, I1, rfl, ⟨_, x, rfl, I.hok.fresh (Nat.le_refl _), rfl, fun ys hy => by rw [hq] at hy; cases hy; exact hx⟩, ⟨⟨x', ?_⟩, hst'.1.at fun o q => (sb.2 it (Ne.symm hne)).trans q, hne⟩, fun b hb => ?_⟩
    · have e1 : ((i + 1 : Nat) : Int) = (i : Int) + 1 := by omega
      rw [e1]; exact he'
    · have hb' : b < s.heap.objs.size := by
        have e' : b = e ∨ b = it := by simpa using hb
        rcases e' with z | z
        · rw [z]; exact hel
        · rw [z]; exact hil
      rw [upd_ne (Nat.ne_of_lt hb')]
      exact (hf b hb).1
  done := by
    intro X hP hw hK hc i pins s σ H E I hf st hg
    subst hP hw hK
    obtain ⟨⟨old, he⟩, hit, hne⟩ := st
    obtain ⟨xs, hq, hx⟩ := hg
    obtain ⟨its, rv, p, hz⟩ := I.tuple (SqT.of hq)
    obtain ⟨f0, f1, f2, f3, f4, f5⟩ := hf it (by simp)
    have hl := rv.length
    have nai : a ≠ it := fun z => by rw [← z, hq] at f0; cases f0
    have hT : s.TypeIs (.ref e) "enumerate" := ⟨_, he, rfl⟩
    unfold pyNext
    refine wpAny_bind (wpAny_attempt (wpAny_callSpecial?_slot (name := Str.ofString "__next__") hT F.slot_enumerate_next
      (wpAny_call_entry F.slot_enumerate_next hT F.entry_enumerate_next ?_ (F.args_enumerate_next_1 _))))
    show wpAny _ _ (field (.ref e) 2 >>= _) _ _ _
    refine wpAny_bind (wpAny_field he rfl (x := .ref it) rfl ?_)
    refine wpAny_bind (wpAny_nextOf_tuple_end (A := X.A.in1) (I.ok.hd hc) hit (show s.heap.IsTuple a its.toArray from p) (by simp; omega) fun h' x he' hx' => ?_)
    obtain ⟨o, ho, hc'⟩ := hx'
    refine wpAny_bind (wpAny_isInstance (T := "StopIteration") (b := true) ⟨o, ho, hc'⟩ isSubtype_stop ?_)
    exact wpAny_pure ⟨rfl, I.turned (t' := s.toks) (fun b o hb q => he' b o hb q) f0 f1 f3 f4 f5⟩
  self := fun A i s Q E st h => let ⟨⟨_, he⟩, _⟩ := st; wpAny_pyIter_enum he h
theorem meets_enumerate_newT (l : Addr) (items : Array Value) (n : Nat) (dct : Option Addr) (sl : Array (Option Value)) :
    Meets (Builtin.«enumerate.__new__» ⟨[.type "enumerate", .ref l], []⟩) (fun _ R s => s.heap.get? l = some { cls := .type "tuple", dict := dct, data := .seq items n, slots := sl } ∧
      R (.ok (.ret (.ref (s.heap.push { cls := .type "tuple_iterator", data := .fields #[.ref l, .int 0 0] }).objs.size)))
        { s with heap := (s.heap.push { cls := .type "tuple_iterator", data := .fields #[.ref l, .int 0 0] }).push { cls := .type "enumerate", data := .fields #[.none, .bool false, .ref s.heap.objs.size, rawInt 0, .none, .none] } }) :=
  .of_wp fun prog w A R s h => by
    obtain ⟨hp, g, d, tk, os⟩ := s; obtain ⟨hl, h⟩ := h
    have hsub := sub_enumerate
    have hL : Heap.IsTuple (Shared.heap ⟨hp, g, d, tk, os⟩) l items := ⟨_, hl, rfl, n, rfl⟩
    wp_walk using AutoSeq1.wpAny_loadPart' hl
    refine wpAny_stack_any fun st => wpAny_pure ?_
    split
    · rename_i c _ _ _ _ _
      cases (c == Value.type "enumerate")
      · wp_walk using AutoSeq1.wpAny_loadPart' hl, wpAny_pyIter_tuple hL
        exact ⟨_, rfl, h⟩
      · wp_walk using AutoSeq1.wpAny_loadPart' hl, wpAny_pyIter_tuple hL
        exact ⟨_, rfl, h⟩
    · wp_walk using AutoSeq1.wpAny_loadPart' hl, wpAny_pyIter_tuple hL
      exact ⟨_, rfl, h⟩
theorem call_enumerate_tuple {prog : Program} {w : World} {A : Around} {E : Value → Shared → Prop} {s : Shared} {l : Addr} {items : Array Value} {Q : Value → Shared → Prop} (hL : s.heap.IsTuple l items)
    (h : ∀ h', IsEnum h' (s.heap.objs.size + 1) s.heap.objs.size 0 .none → h'.IsTupleIter s.heap.objs.size l 0 → h'.objs.size = s.heap.objs.size + 2 →
      (∀ b o, s.heap.get? b = some o → h'.get? b = some o) → Q (.ref (s.heap.objs.size + 1)) { s with heap := h' }) :
    wpAny (model prog w) A (call (.type "enumerate") [.ref l]) Q E s := by
  obtain ⟨⟨c, dct, dt, sl⟩, hl, hc, n, hd⟩ := hL
  replace hc : c = .type "tuple" := hc
  replace hd : dt = .seq items n := hd
  subst hc hd
  refine callType_new F.called_enumerate (by decide) (F.typeCall_enumerate_1 _) (F.newCall_enumerate_1 _) (fun obj => F.args_object_init_2 obj _) F.entry_enumerate_new
    (meets_enumerate_newT l items n dct sl) ⟨hl, ?_⟩
  have hz : (s.heap.push { cls := .type "tuple_iterator", data := .fields #[.ref l, .int 0 0] }).objs.size = s.heap.objs.size + 1 := Heap.size_push ..
  show _ ∧ _
  rw [hz]
  have he : IsEnum ((s.heap.push { cls := .type "tuple_iterator", data := .fields #[.ref l, .int 0 0] }).push
      { cls := .type "enumerate", data := .fields #[.none, .bool false, .ref s.heap.objs.size, rawInt 0, .none, .none] }) (s.heap.objs.size + 1) s.heap.objs.size 0 .none := by
    have := Heap.get?_push_size (s.heap.push { cls := .type "tuple_iterator", data := .fields #[.ref l, .int 0 0] })
      (o := { cls := .type "enumerate", data := .fields #[.none, .bool false, .ref s.heap.objs.size, rawInt 0, .none, .none] }) rfl
    rw [hz] at this; exact this
  refine ⟨⟨_, he, rfl⟩, h _ he ⟨_, Heap.get?_push_of_some _ (Heap.get?_push_size _ rfl), rfl, rfl⟩ (by rw [Heap.size_push, hz]) fun b o x => Heap.get?_push_of_some _ (Heap.get?_push_of_some _ x)⟩
/-- enumerate of a list or a tuple -/
def iEnumA (K : PySem.W.Frag) (ta : TA) : TI := fun σ H R => ta σ H fun vs H1 => ∃ a xs, vs = [.ref a] ∧ ((SqL K H1 a xs ∧ R (Ite K a) H1) ∨ (H1 a = some (.tup xs) ∧ R (IteT a) H1))
theorem pi_enumA {X : Cx} {e : Expr} {ta : TA} {p pos tpos : Pos} {elts : List Expr} {kk : Nat} (hg : Gl X "enumerate") (hm : X.mg "enumerate" = none) (ha : PA X [e] ta) (hs : starEach [e] X.env = [(false, eval e X.env)] := by rfl) :
    PI X (.Tuple elts kk tpos) (.Call (.Name "enumerate" p) [e] [] pos) (iEnumA X.K ta) := by
  refine ⟨fun pins s σ H R I h => ?_⟩
  refine PyProof.Rows.Call_ (ld_blt I hg hm (by decide +kernel) (PyProof.Rows.callWith_type1 (T := "enumerate") (thn (ha.run pos pins s σ H _ I h) fun us s1 ⟨vs, H1, I1, r1, q1⟩ => ?_) hs rfl))
  obtain ⟨a, xs, ex, q1⟩ := q1
  subst ex
  cases r1 with
  | cons r rr =>
    cases rr
    cases r
    have fp2 : ∀ b, b ∈ [s1.heap.objs.size + 1, s1.heap.objs.size] → FpOk X pins H1 b := fun b hb => by
      have e' : b = s1.heap.objs.size + 1 ∨ b = s1.heap.objs.size := by simpa using hb
      have hle : s1.heap.objs.size ≤ b := by
        rcases e' with z | z
        · rw [z]; exact Nat.le_add_right _ _
        · rw [z]; exact Nat.le_refl _
      exact I1.fpOk hle (I1.hok.fresh hle)
    rcases q1 with ⟨hq, q⟩ | ⟨hq, q⟩
    · obtain ⟨its, rv, p', hz⟩ := I1.list hq
      refine call_enumerate_list p'.isList fun h' he hit hsz hk => wpAny_pyIter_enum he ?_
      have I2 : Inv X pins σ H1 { s1 with heap := h' } := I1.kept (t' := s1.toks) hk
      exact ⟨s1.heap.objs.size + 1, [s1.heap.objs.size + 1, s1.heap.objs.size], _, _, H1, rfl, I2, turn_enum a (s1.heap.objs.size + 1) s1.heap.objs.size, ⟨⟨.none, he⟩, hit, Nat.succ_ne_self _⟩, fp2, q⟩
    · obtain ⟨its, rv, p', hz⟩ := I1.tuple (SqT.of hq)
      refine call_enumerate_tuple (show s1.heap.IsTuple a its.toArray from p') fun h' he hit hsz hk => wpAny_pyIter_enum he ?_
      have I2 : Inv X pins σ H1 { s1 with heap := h' } := I1.kept (t' := s1.toks) hk
      exact ⟨s1.heap.objs.size + 1, [s1.heap.objs.size + 1, s1.heap.objs.size], _, _, H1, rfl, I2, turn_enumT a (s1.heap.objs.size + 1) s1.heap.objs.size, ⟨⟨.none, he⟩, hit, Nat.succ_ne_self _⟩, fp2, q⟩
end Z
end
section
namespace Z
open PySem PySem.Spec L2

/-! ### what is walked -/
def YOk (K : PySem.W.Frag) (W0 H H' : Hp) (x : V) (d : D) : Prop :=
  (H' = H ∧ Rp K W0 x d) ∨ ∃ T vs ds, x = .ref T ∧ H T = none ∧ H' = upd H T (.tup vs) ∧ RpL K W0 vs ds ∧ d = .tuple ds
def WkOk (K : PySem.W.Frag) (J : It) (W0 : Hp) (ds : List D) : Prop :=
  ∀ H, Same W0 H → (∀ (i : Nat) (d : D), ds[i]? = some d → J.go i H ∧ ∀ x H', J.yld i H x H' → YOk K W0 H H' x d) ∧ J.stop ds.length H
abbrev IF := List S → Rs (List D × List S)
section
variable (K : PySem.W.Frag) (mg : Str → Option Value) (W : WX)
def PoI (F : Addr → Prop) (σ : St) (H : Hp) (ρ : List S) (A : List (Option Addr)) (o : Rs (List D × List S)) (R : It → Hp → Prop) : Prop :=
  match o with
  | .ok (ds, ρ') => ∀ J H' A', Good K F σ H' ρ' A' → Stp F H ρ A H' ρ' A' → WkOk K J (vw H' (hid F A')) ds → R J H'
  | .ex ρ' c fs => PoX K mg W F σ H ρ A ρ' c fs
  | .no => False
def TIt (f : IF) : TI := fun σ H R => ∃ F ρ A, Good K F σ H ρ A ∧ PoI K mg W F σ H ρ A (f ρ) R
end
section
variable {K : PySem.W.Frag} {W0 : Hp} {a b : Addr} {xs ys : List V} {ds es : List D}
theorem wk_list (e : W0 a = some (.lst xs)) (r : RpL K W0 xs ds) : WkOk K (Itl K a) W0 ds := fun H s => by
  have q : SqL K H a xs := .of (s _ _ e)
  refine ⟨fun i d hd => ?_, ⟨xs, q, by rw [r.len]; exact Nat.le_refl _⟩⟩
  obtain ⟨v, h1, h2⟩ := r.get hd
  exact ⟨⟨xs, v, q, h1⟩, fun x H' y => .inl ⟨y.1, by have := y.2 xs q; rw [h1] at this; cases this; exact h2⟩⟩
theorem wk_tup (e : W0 a = some (.tup xs)) (r : RpL K W0 xs ds) : WkOk K (Itt K a) W0 ds := fun H s => by
  have q : SqT K H a xs := .of (s _ _ e)
  refine ⟨fun i d hd => ?_, ⟨xs, q, by rw [r.len]; exact Nat.le_refl _⟩⟩
  obtain ⟨v, h1, h2⟩ := r.get hd
  exact ⟨⟨xs, v, q, h1⟩, fun x H' y => .inl ⟨y.1, by have := y.2 xs q; rw [h1] at this; cases this; exact h2⟩⟩
def chars (z : Str) : List D := z.cps.toList.map fun c => .str ⟨#[c]⟩
theorem wk_str {z : Str} : WkOk K (Its z) W0 (chars z) := fun H s => by
  refine ⟨fun i d hd => ?_, ?_⟩
  · unfold chars at hd
    rw [List.getElem?_map] at hd
    cases h : z.cps.toList[i]? with
    | none => rw [h] at hd; cases hd
    | some c =>
      rw [h] at hd; cases hd
      have h' : z.cps[i]? = some c := by simpa using h
      have hl := lt_of_ix h
      refine ⟨by show i < z.cps.size; simpa using hl, fun x H' ⟨e1, c', e2, e3⟩ => .inl ⟨e1, ?_⟩⟩
      rw [h'] at e2; cases e2; subst e3; exact .str _
  · show z.cps.size ≤ (chars z).length
    unfold chars
    simp
def rangeD (lo c : Int) (n : Nat) : List D := (List.range n).map fun k => .int (lo + (k : Nat) * c)
theorem wk_rangeC {lo c : Int} {n : Nat} : WkOk K (Itc lo c n) W0 (rangeD lo c n) := fun H s => by
  refine ⟨fun i d hd => ?_, ?_⟩
  · unfold rangeD at hd
    rw [List.getElem?_map] at hd
    cases h : (List.range n)[i]? with
    | none => rw [h] at hd; cases hd
    | some k =>
      rw [h] at hd; cases hd
      have hl := lt_of_ix h
      rw [List.length_range] at hl
      rw [List.getElem?_range hl] at h; cases h
      exact ⟨hl, fun x H' ⟨e1, e2⟩ => .inl ⟨e1, by rw [e2]; exact .int _⟩⟩
  · show n ≤ (rangeD lo c n).length
    unfold rangeD; simp
theorem wk_range {lo : Int} {n : Nat} : WkOk K (Itr lo n) W0 (rangeD lo 1 n) := fun H s => by
  refine ⟨fun i d hd => ?_, ?_⟩
  · unfold rangeD at hd
    rw [List.getElem?_map] at hd
    cases h : (List.range n)[i]? with
    | none => rw [h] at hd; cases hd
    | some k =>
      rw [h] at hd; cases hd
      have hl := lt_of_ix h
      rw [List.length_range] at hl
      rw [List.getElem?_range hl] at h; cases h
      exact ⟨hl, fun x H' ⟨e1, e2⟩ => .inl ⟨e1, by rw [e2]; show Rp K W0 (.int (lo + (i : Nat))) (.int (lo + (i : Nat) * 1)); rw [Int.mul_one]; exact .int _⟩⟩
  · show n ≤ (rangeD lo 1 n).length
    unfold rangeD; simp
def enumD (ds : List D) : List D := ds.mapIdx fun i d => .tuple [.int (i : Nat), d]
theorem wk_enumL (e : W0 a = some (.lst xs)) (r : RpL K W0 xs ds) : WkOk K (Ite K a) W0 (enumD ds) := fun H s => by
  have q : SqL K H a xs := .of (s _ _ e)
  refine ⟨fun i d hd => ?_, ⟨xs, q, by rw [r.len]; simp [enumD]⟩⟩
  unfold enumD at hd
  rw [List.getElem?_mapIdx] at hd
  cases h : ds[i]? with
  | none => rw [h] at hd; cases hd
  | some d' =>
    rw [h] at hd; cases hd
    obtain ⟨v, h1, h2⟩ := r.get h
    refine ⟨⟨xs, v, q, h1⟩, fun x H' ⟨T, x', e1, e2, e3, e4⟩ => .inr ⟨T, _, _, e1, e2, e3, .cons (.int _) (.cons ?_ .nil), rfl⟩⟩
    have := e4 xs q; rw [h1] at this; cases this; exact h2
theorem wk_enumT (e : W0 a = some (.tup xs)) (r : RpL K W0 xs ds) : WkOk K (IteT a) W0 (enumD ds) := fun H s => by
  have q : H a = some (.tup xs) := s _ _ e
  refine ⟨fun i d hd => ?_, ⟨xs, q, by rw [r.len]; simp [enumD]⟩⟩
  unfold enumD at hd
  rw [List.getElem?_mapIdx] at hd
  cases h : ds[i]? with
  | none => rw [h] at hd; cases hd
  | some d' =>
    rw [h] at hd; cases hd
    obtain ⟨v, h1, h2⟩ := r.get h
    refine ⟨⟨xs, v, q, h1⟩, fun x H' ⟨T, x', e1, e2, e3, e4⟩ => .inr ⟨T, _, _, e1, e2, e3, .cons (.int _) (.cons ?_ .nil), rfl⟩⟩
    have := e4 xs q; rw [h1] at this; cases this; exact h2
def zipD (ds es : List D) : List D := List.zipWith (fun d e => .tuple [d, e]) ds es
theorem zipD_get {i : Nat} {d : D} (h : (zipD ds es)[i]? = some d) : ∃ x y, ds[i]? = some x ∧ es[i]? = some y ∧ d = .tuple [x, y] := by
  unfold zipD at h
  rw [List.getElem?_zipWith] at h
  cases h1 : ds[i]? with
  | none => rw [h1] at h; simp at h
  | some x =>
    cases h2 : es[i]? with
    | none => rw [h1, h2] at h; simp at h
    | some y => rw [h1, h2] at h; simp at h; exact ⟨x, y, rfl, rfl, h.symm⟩
theorem zip_stop : ds.length ≤ (zipD ds es).length ∨ es.length ≤ (zipD ds es).length := by
  unfold zipD; rw [List.length_zipWith]; omega
theorem wk_zipL (e1 : W0 a = some (.lst xs)) (r1 : RpL K W0 xs ds) (e2 : W0 b = some (.lst ys)) (r2 : RpL K W0 ys es) : WkOk K (Itz K a b) W0 (zipD ds es) := fun H s => by
  have q1 : SqL K H a xs := .of (s _ _ e1)
  have q2 : SqL K H b ys := .of (s _ _ e2)
  refine ⟨fun i d hd => ?_, ⟨xs, ys, q1, q2, by rw [r1.len, r2.len]; exact zip_stop⟩⟩
  obtain ⟨d1, d2, h1, h2, rfl⟩ := zipD_get hd
  obtain ⟨v1, k1, p1⟩ := r1.get h1
  obtain ⟨v2, k2, p2⟩ := r2.get h2
  refine ⟨⟨xs, ys, v1, v2, q1, q2, k1, k2⟩, fun x H' ⟨T, x', y', c1, c2, c3, c4, c5⟩ => .inr ⟨T, _, _, c1, c2, c3, .cons ?_ (.cons ?_ .nil), rfl⟩⟩
  · have := c4 xs q1; rw [k1] at this; cases this; exact p1
  · have := c5 ys q2; rw [k2] at this; cases this; exact p2
theorem wk_zipT (e1 : W0 a = some (.tup xs)) (r1 : RpL K W0 xs ds) (e2 : W0 b = some (.tup ys)) (r2 : RpL K W0 ys es) : WkOk K (RZ.ItzT K a b) W0 (zipD ds es) := fun H s => by
  have q1 : SqT K H a xs := .of (s _ _ e1)
  have q2 : SqT K H b ys := .of (s _ _ e2)
  refine ⟨fun i d hd => ?_, ⟨xs, ys, q1, q2, by rw [r1.len, r2.len]; exact zip_stop⟩⟩
  obtain ⟨d1, d2, h1, h2, rfl⟩ := zipD_get hd
  obtain ⟨v1, k1, p1⟩ := r1.get h1
  obtain ⟨v2, k2, p2⟩ := r2.get h2
  refine ⟨⟨xs, ys, v1, v2, q1, q2, k1, k2⟩, fun x H' ⟨T, x', y', c1, c2, c3, c4, c5⟩ => .inr ⟨T, _, _, c1, c2, c3, .cons ?_ (.cons ?_ .nil), rfl⟩⟩
  · have := c4 xs q1; rw [k1] at this; cases this; exact p1
  · have := c5 ys q2; rw [k2] at this; cases this; exact p2
end
section
variable {X : Cx} {K : PySem.W.Frag} {mg : Str → Option Value} {W : WX} {n : Nat} {pos p : Pos} {tg e e2 : Expr} {f f2 : EF} {fA : AF} {fH : HF}
theorem pi_imp {t t' : TI} (h : PI X tg e t) (m : ∀ σ H Q, t' σ H Q → t σ H Q) : PI X tg e t' := ⟨fun p s σ H Q I q => h.run p s σ H Q I (m _ _ _ q)⟩
theorem pi_or {t t' : TI} (h : PI X tg e t) (h' : PI X tg e t') : PI X tg e (fun σ H R => t σ H R ∨ t' σ H R) := ⟨fun p s σ H Q I q => q.elim (h.run p s σ H Q I) (h'.run p s σ H Q I)⟩
theorem poI_no {F σ H ρ A} {R : It → Hp → Prop} : ¬ PoI K mg W F σ H ρ A .no R := fun z => z
theorem poI_exS {F : Addr → Prop} {σ : St} {H H1 : Hp} {ρ ρ1 : List S} {A A1 : List (Option Addr)} {R : It → Hp → Prop} (s : Stp F H ρ A H1 ρ1 A1) (ρ' : List S) (c : Str) (fs : List (Str × D)) (h : PoI K mg W F σ H ρ A (.ex ρ' c fs) R) : PoX K mg W F σ H1 ρ1 A1 ρ' c fs := PoX.of s h
/-- the items of a list, a tuple, a text -/
def iSeq (f : EF) : IF := fun ρ => f ρ >>= fun p => match p.1 with
  | .sh (.list ds) => .ok (ds, p.2)
  | .ow (.list ds) => .ok (ds, p.2)
  | .sh (.tuple ds) => .ok (ds, p.2)
  | .sh (.str z) => .ok (chars z, p.2)
  | _ => .no
theorem it_seq (ct : Ct X K mg W n) (h : PE X e (TF K mg W f)) : PI X tg e (TIt K mg W (iSeq f)) := by
  obtain ⟨rfl, rfl, _, _, _, _⟩ := ct
  refine pi_imp (pi_or (pi_list h) (pi_or (pi_tup h) (pi_str h))) fun σ H R ⟨F, ρ, A, gd, po⟩ => ?_
  unfold iSeq at po
  cases q : f ρ with
  | no => rw [q] at po; exact po.elim
  | ex ρ' c fs =>
    rw [q] at po
    exact .inl ⟨F, ρ, A, gd, by rw [q]; exact po⟩
  | ok pr =>
    obtain ⟨r, ρ1⟩ := pr
    rw [q] at po
    have asL : ∀ ds, (∀ v H1, Fin X.K F σ H ρ A r ρ1 v H1 → Fin X.K F σ H ρ A (.sh (.list ds)) ρ1 v H1) → (∀ J H' A', Good X.K F σ H' ρ1 A' → Stp F H ρ A H' ρ1 A' → WkOk X.K J (vw H' (hid F A')) ds → R J H') → iList X.K (TF X.K X.mg W f) σ H R := by
      intro ds w po
      refine ⟨F, ρ, A, gd, ?_⟩
      rw [q]
      intro v H1 f1
      obtain ⟨A1, g1, s1, p1⟩ := w v H1 f1
      cases p1 with
      | @lst a xs _ e1 r1 => exact ⟨a, rfl, ⟨xs, .of (vw_some e1).2⟩, po _ H1 A1 g1 s1 (wk_list e1 r1)⟩
    cases r with
    | sh d =>
      cases d with
      | list ds => exact .inl (asL ds (fun _ _ x => x) po)
      | tuple ds =>
        refine .inr (.inl ⟨F, ρ, A, gd, ?_⟩)
        rw [q]
        intro v H1 ⟨A1, g1, s1, p1⟩
        cases p1 with
        | @tup a xs _ e1 r1 => exact ⟨a, rfl, ⟨xs, .of (vw_some e1).2⟩, po _ H1 A1 g1 s1 (wk_tup e1 r1)⟩
      | str z =>
        refine .inr (.inr ⟨F, ρ, A, gd, ?_⟩)
        rw [q]
        intro v H1 ⟨A1, g1, s1, p1⟩
        cases p1
        exact ⟨z, rfl, po _ H1 A1 g1 s1 wk_str⟩
      | _ => exact po.elim
    | ow d =>
      cases d with
      | list ds => exact .inl (asL ds (fun _ _ x => x.weak) po)
      | _ => exact po.elim
    | _ => exact po.elim
/-- range -/
def bnd (i : Int) : Prop := i.natAbs < 4611686018427387904
instance (i : Int) : Decidable (bnd i) := by unfold bnd; infer_instance
def iRange1 (fH : HF) : IF := fun ρ => fH ρ >>= fun p => Rs.of (looks p.1 p.2) >>= fun ds => match ds with
  | [.int j] => if bnd j then .ok (rangeD 0 1 j.toNat, p.2) else .no
  | _ => .no
def iRange2 (fH : HF) : IF := fun ρ => fH ρ >>= fun p => Rs.of (looks p.1 p.2) >>= fun ds => match ds with
  | [.int i, .int j] => if bnd i ∧ bnd j then .ok (rangeD i 1 (j - i).toNat, p.2) else .no
  | _ => .no
def iRange3 (fH : HF) : IF := fun ρ => fH ρ >>= fun p => Rs.of (looks p.1 p.2) >>= fun ds => match ds with
  | [.int i, .int j, .int c] => if c ≠ 0 ∧ c.natAbs < 1073741824 ∧ Builtin.Range.small i j c = true ∧ 0 ≤ Builtin.Range.rangeSize i j c then .ok (rangeD i c (Builtin.Range.rangeSize i j c).toNat, p.2) else .no
  | _ => .no
theorem it_range1 (ct : Ct X K mg W n) (hg : Gl X "range") (hm : mg "range" = none) (h : PA X [e] (TH K mg W fH)) (hs : starEach [e] X.env = [(false, eval e X.env)] := by rfl) : PI X tg (.Call (.Name "range" p) [e] [] pos) (TIt K mg W (iRange1 fH)) := by
  obtain ⟨rfl, rfl, _, _, _, _⟩ := ct
  refine pi_imp (pi_range1 hg hm h hs) fun σ H R ⟨F, ρ, A, gd, po⟩ => ?_
  refine seqH gd (po := fun o => PoI X.K X.mg W F σ H ρ A o R) poI_no (poI_exS Stp.refl) po fun hs ρ1 vs H1 A1 g1 s1 r1 po => ?_
  obtain ⟨ds, e1, po⟩ := seqOpt (po := fun o => PoI X.K X.mg W F σ H ρ A o R) poI_no po
  have pk := looks_ok g1 r1 e1
  match ds, pk, po with
  | [.int j], pk, po =>
    obtain ⟨x, rfl, h⟩ := paired1 pk
    have := h.int; subst this
    simp only at po
    split at po
    · rename_i hb
      refine ⟨j, rfl, by unfold bnd at hb; omega, by unfold bnd at hb; omega, po _ H1 A1 g1 s1 wk_range⟩
    · exact po.elim
theorem it_range2 (ct : Ct X K mg W n) (hg : Gl X "range") (hm : mg "range" = none) (h : PA X [e, e2] (TH K mg W fH)) (hs : starEach [e, e2] X.env = [(false, eval e X.env), (false, eval e2 X.env)] := by rfl) (hs2 : starEach [e2] X.env = [(false, eval e2 X.env)] := by rfl) : PI X tg (.Call (.Name "range" p) [e, e2] [] pos) (TIt K mg W (iRange2 fH)) := by
  obtain ⟨rfl, rfl, _, _, _, _⟩ := ct
  refine pi_imp (pi_range2 hg hm h hs hs2) fun σ H R ⟨F, ρ, A, gd, po⟩ => ?_
  refine seqH gd (po := fun o => PoI X.K X.mg W F σ H ρ A o R) poI_no (poI_exS Stp.refl) po fun hs ρ1 vs H1 A1 g1 s1 r1 po => ?_
  obtain ⟨ds, e1, po⟩ := seqOpt (po := fun o => PoI X.K X.mg W F σ H ρ A o R) poI_no po
  have pk := looks_ok g1 r1 e1
  match ds, pk, po with
  | [.int i, .int j], pk, po =>
    obtain ⟨x, y, rfl, h, h'⟩ := paired2 pk
    have := h.int; subst this
    have := h'.int; subst this
    simp only at po
    split at po
    · rename_i hb
      obtain ⟨hb1, hb2⟩ := hb
      refine ⟨i, j, rfl, by unfold bnd at hb1 hb2; omega, po _ H1 A1 g1 s1 wk_range⟩
    · exact po.elim
theorem it_range3 {e3 : Expr} (ct : Ct X K mg W n) (hg : Gl X "range") (hm : mg "range" = none) (h : PA X [e, e2, e3] (TH K mg W fH)) (hs : starEach [e, e2, e3] X.env = (false, eval e X.env) :: starEach [e2, e3] X.env := by rfl) (hs2 : (backTo pos (starEach [e2, e3] X.env)).any (·.1) = false := by rfl) : PI X tg (.Call (.Name "range" p) [e, e2, e3] [] pos) (TIt K mg W (iRange3 fH)) := by
  obtain ⟨rfl, rfl, _, _, _, _⟩ := ct
  refine pi_imp (pi_range3 hg hm h hs hs2) fun σ H R ⟨F, ρ, A, gd, po⟩ => ?_
  refine seqH gd (po := fun o => PoI X.K X.mg W F σ H ρ A o R) poI_no (poI_exS Stp.refl) po fun hs ρ1 vs H1 A1 g1 s1 r1 po => ?_
  obtain ⟨ds, e1, po⟩ := seqOpt (po := fun o => PoI X.K X.mg W F σ H ρ A o R) poI_no po
  have pk := looks_ok g1 r1 e1
  match ds, pk, po with
  | [.int i, .int j, .int c], pk, po =>
    cases pk with
    | cons h1 t => cases t with
      | cons h2 t => cases t with
        | cons h3 t =>
          cases t
          have := h1.int; subst this
          have := h2.int; subst this
          have := h3.int; subst this
          simp only at po
          split at po
          · rename_i hb
            exact ⟨i, j, c, _, rfl, ⟨hb.1, hb.2.1, hb.2.2.1, (Int.toNat_of_nonneg hb.2.2.2).symm⟩, po _ H1 A1 g1 s1 wk_rangeC⟩
          · exact po.elim
/-- enumerate, zip -/
def iEnum' (fA : AF) : IF := fun ρ => fA ρ >>= fun p => match p.1 with
  | [.sh (.list ds)] => .ok (enumD ds, p.2)
  | [.sh (.tuple ds)] => .ok (enumD ds, p.2)
  | _ => .no
def iZip' (fA : AF) : IF := fun ρ => fA ρ >>= fun p => match p.1 with
  | [.sh (.list ds), .sh (.list es)] => .ok (zipD ds es, p.2)
  | [.sh (.tuple ds), .sh (.tuple es)] => .ok (zipD ds es, p.2)
  | _ => .no
theorem it_enum {elts : List Expr} {kk : Nat} {tpos : Pos} (ct : Ct X K mg W n) (hg : Gl X "enumerate") (hm : mg "enumerate" = none) (h : PA X [e] (TAr K mg W fA)) (hs : starEach [e] X.env = [(false, eval e X.env)] := by rfl) : PI X (.Tuple elts kk tpos) (.Call (.Name "enumerate" p) [e] [] pos) (TIt K mg W (iEnum' fA)) := by
  obtain ⟨rfl, rfl, _, _, _, _⟩ := ct
  refine pi_imp (pi_enumA hg hm h hs) fun σ H R ⟨F, ρ, A, gd, po⟩ => ?_
  refine seqA gd (po := fun o => PoI X.K X.mg W F σ H ρ A o R) poI_no (poI_exS Stp.refl) po fun rs ρ1 vs H1 A1 g1 s1 r1 po => ?_
  match rs, r1, po with
  | [.sh (.list ds)], .cons (a := v) r1 .nil, po =>
    cases (show Rp X.K _ v (.list ds) from r1) with
    | @lst a xs _ e1 r1 => exact ⟨a, xs, rfl, .inl ⟨.of (vw_some e1).2, po _ H1 A1 g1 s1 (wk_enumL e1 r1)⟩⟩
  | [.sh (.tuple ds)], .cons (a := v) r1 .nil, po =>
    cases (show Rp X.K _ v (.tuple ds) from r1) with
    | @tup a xs _ e1 r1 => exact ⟨a, xs, rfl, .inr ⟨(vw_some e1).2, po _ H1 A1 g1 s1 (wk_enumT e1 r1)⟩⟩
theorem it_zip {elts : List Expr} {kk : Nat} {tpos : Pos} (ct : Ct X K mg W n) (hg : Gl X "zip") (hm : mg "zip" = none) (h : PA X [e, e2] (TAr K mg W fA)) (hs : starEach [e, e2] X.env = (false, eval e X.env) :: starEach [e2] X.env := by rfl) (hpl : (backTo pos (starEach [e2] X.env)).any (·.1) = false := by rfl) : PI X (.Tuple elts kk tpos) (.Call (.Name "zip" p) [e, e2] [] pos) (TIt K mg W (iZip' fA)) := by
  obtain ⟨rfl, rfl, _, _, _, _⟩ := ct
  refine pi_imp (RZ.pi_zipA hg hm h hs hpl) fun σ H R ⟨F, ρ, A, gd, po⟩ => ?_
  refine seqA gd (po := fun o => PoI X.K X.mg W F σ H ρ A o R) poI_no (poI_exS Stp.refl) po fun rs ρ1 vs H1 A1 g1 s1 r1 po => ?_
  match rs, r1, po with
  | [.sh (.list ds), .sh (.list es)], .cons (a := v) r1 (.cons (a := w) r2 .nil), po =>
    cases (show Rp X.K _ v (.list ds) from r1) with
    | @lst a xs _ e1 r1 => cases (show Rp X.K _ w (.list es) from r2) with
      | @lst b ys _ e2 r2 => exact ⟨a, b, xs, ys, rfl, .inl ⟨.of (vw_some e1).2, .of (vw_some e2).2, po _ H1 A1 g1 s1 (wk_zipL e1 r1 e2 r2)⟩⟩
  | [.sh (.tuple ds), .sh (.tuple es)], .cons (a := v) r1 (.cons (a := w) r2 .nil), po =>
    cases (show Rp X.K _ v (.tuple ds) from r1) with
    | @tup a xs _ e1 r1 => cases (show Rp X.K _ w (.tuple es) from r2) with
      | @tup b ys _ e2 r2 => exact ⟨a, b, xs, ys, rfl, .inr ⟨.of (vw_some e1).2, .of (vw_some e2).2, po _ H1 A1 g1 s1 (wk_zipT e1 r1 e2 r2)⟩⟩

/-! ### for -/
variable {is : List Nat} {t : GF} {g : SF} {fi : IF}
def forL (t : GF) (b : SF) : List D → List S → Rs (Out × List S)
  | [], ρ => .ok (.nx, ρ)
  | d :: ds, ρ => Rs.of (t d ρ) >>= fun ρ1 => b ρ1 >>= fun q => match q.1 with
      | .nx => forL t b ds q.2
      | .ct => forL t b ds q.2
      | .bk => .ok (.nx, q.2)
      | .rt r => .ok (.rt r, q.2)
def sFor (fi : IF) (t : GF) (b : SF) : SF := fun ρ => fi ρ >>= fun p => forL t b p.1 p.2
/-- an item in a state -/
theorem yok_state {F : Addr → Prop} {σ : St} {W0 H H' : Hp} {ρ : List S} {A : List (Option Addr)} {x : V} {d : D} (g : Good K F σ H ρ A) (s : Same W0 (vw H (hid F A))) (y : YOk K W0 H H' x d) : Good K F σ H' ρ A ∧ Stp F H ρ A H' ρ A ∧ Rp K (vw H' (hid F A)) x d := by
  rcases y with ⟨rfl, r⟩ | ⟨T, vs, ds, rfl, hT, rfl, r, rfl⟩
  · exact ⟨g, Stp.refl, r.mono s⟩
  · have s2 := Stp.upd_new g hT (o := .tup vs)
    exact ⟨g.upd_new hT, s2, .tup (g.vw_upd hT) ((r.mono s).mono s2.vs)⟩
theorem st_for {body : List Stmt} (ct : Ct X K mg W n) (hp : PassesOwn (model X.prog X.w) X.A X.env X.xe) (hi : PI X tg e (TIt K mg W fi)) (hg : PG X tg (TGt K is t)) (hb : PSs X body (TSt K mg W g)) (hs : ∀ x, foldedSetIterable e X.env x = pure x := by intro _; rfl) : PS X (.For tg e body [] pos) (TSt K mg W (sFor fi t g)) := by
  refine ps_imp (ps_for hp ct.calm hi hg hb hs) fun D' σ H ⟨F, ρ, A, gd, po⟩ => ?_
  refine ⟨F, ρ, A, gd, ?_⟩
  unfold sFor at po
  cases q : fi ρ with
  | no => rw [q] at po; exact po.elim
  | ex ρ' c fs => rw [q] at po; exact poS_exS Stp.refl _ _ _ po
  | ok pr =>
    obtain ⟨ds, ρ1⟩ := pr
    rw [q] at po
    intro J H1 A1 g1 s1 wk
    refine ⟨fun i m σ2 H2 => ∃ ρ2 A2, Good K F σ2 H2 ρ2 A2 ∧ Stp F H ρ A H2 ρ2 A2 ∧ Same (vw H1 (hid F A1)) (vw H2 (hid F A2)) ∧ i ≤ ds.length ∧ m = ds.length - i ∧ PoS K mg W F σ H ρ A (forL t g (ds.drop i) ρ2) D', ⟨ds.length, ρ1, A1, g1, s1, Same.refl _, Nat.zero_le _, rfl, po⟩, ?_⟩
    rintro i m σ2 H2 ⟨ρ2, A2, g2, s2, v2, hi, rfl, po⟩
    obtain ⟨w1, w2⟩ := wk H2 (v2.trans (vw_same _ _))
    by_cases hlt : i < ds.length
    · have hd : ds[i]? = some ds[i] := List.getElem?_eq_getElem hlt
      obtain ⟨go, yl⟩ := w1 i _ hd
      rw [List.drop_eq_getElem_cons hlt] at po
      obtain ⟨ρ3, e3, po⟩ := seqOpt (po := fun o => PoS K mg W F σ H ρ A o D') poS_no po
      refine .inr ⟨go, fun σ5 H5 => ∃ ρ5 A5, Good K F σ5 H5 ρ5 A5 ∧ Stp F H ρ A H5 ρ5 A5 ∧ Same (vw H1 (hid F A1)) (vw H5 (hid F A5)) ∧ PoS K mg W F σ H ρ A (forL t g (ds.drop (i + 1)) ρ5) D', fun σ5 H5 ⟨ρ5, A5, h1, h2, h3, h4⟩ => ⟨ds.length - (i + 1), by omega, ρ5, A5, h1, h2, h3, hlt, rfl, h4⟩, fun x H3 y => ?_⟩
      obtain ⟨g3, s3, r3⟩ := yok_state g2 v2 (yl x H3 y)
      refine ⟨F, ρ2, A2, _, ρ3, g3, r3, e3, fun σ4 A4 g4 s4 _ _ => ⟨F, ρ3, A4, g4, ?_⟩⟩
      have s24 := (s2.trans s3).trans s4
      have v4 := (v2.trans s3.vs).trans s4.vs
      cases q : g ρ3 with
      | no => rw [q] at po; exact po.elim
      | ex ρ' c fs => rw [q] at po; exact PoS.of s24 po σ
      | ok pr =>
        obtain ⟨o, ρ5⟩ := pr
        rw [q] at po
        cases o with
        | bk => exact PoS.of s24 po σ
        | rt r => exact PoS.of s24 po σ
        | nx => exact fun σ5 H5 A5 g5 s5 => ⟨ρ5, A5, g5, s24.trans s5, v4.trans s5.vs, po⟩
        | ct => exact fun σ5 H5 A5 g5 s5 => ⟨ρ5, A5, g5, s24.trans s5, v4.trans s5.vs, po⟩
    · have e : i = ds.length := by omega
      subst e
      rw [List.drop_length] at po
      exact .inl ⟨w2, po σ2 H2 A2 g2 s2⟩
end
end Z
end
section
namespace Z
open PySem PySem.Spec L2

/-! ### comprehensions -/
def W0 : WX := fun _ _ _ _ => False
def toOpt {α : Type} : Rs α → Option α
  | .ok a => some a
  | _ => none
theorem toOpt_some {α : Type} {o : Rs α} {a : α} (h : toOpt o = some a) : o = .ok a := by
  cases o with
  | ok b => cases h; rfl
  | _ => cases h
def plainS : S → Bool
  | .ow _ => false
  | .cu _ _ => false
  | .od _ => false
  | _ => true
/-- the own slots hold nothing that is the frame's own -/
def clean (vs : List Nat) (ρ : List S) : Bool := vs.all fun i => match ρ[i]? with
  | some s => plainS s
  | none => false
def wipeS (ρ : List S) : List Nat → List S
  | [] => ρ
  | v :: vs => (wipeS ρ vs).set v .u
def restS (ρ0 ρ : List S) : List Nat → List S
  | [] => ρ
  | v :: vs => (restS ρ0 ρ vs).set v (ρ0.getD v .u)
theorem wipeS_len (ρ : List S) : ∀ vs, (wipeS ρ vs).length = ρ.length
  | [] => rfl
  | v :: vs => by simp [wipeS, wipeS_len ρ vs]
theorem restS_len (ρ0 ρ : List S) : ∀ vs, (restS ρ0 ρ vs).length = ρ.length
  | [] => rfl
  | v :: vs => by simp [restS, restS_len ρ0 ρ vs]
theorem wipeS_at {ρ : List S} {i : Nat} : ∀ {vs : List Nat}, i < ρ.length → (wipeS ρ vs)[i]? = if i ∈ vs then some .u else ρ[i]?
  | [], h => by simp [wipeS]
  | v :: vs, h => by
    unfold wipeS
    by_cases hv : v = i
    · subst hv; rw [List.getElem?_set_self (by rw [wipeS_len]; exact h)]; simp
    · rw [List.getElem?_set_ne hv, wipeS_at h]
      have : i ≠ v := fun z => hv z.symm
      simp [this]
theorem restS_at {ρ0 ρ : List S} {i : Nat} : ∀ {vs : List Nat}, i < ρ.length → (restS ρ0 ρ vs)[i]? = if i ∈ vs then some (ρ0.getD i .u) else ρ[i]?
  | [], h => by simp [restS]
  | v :: vs, h => by
    unfold restS
    by_cases hv : v = i
    · subst hv; rw [List.getElem?_set_self (by rw [restS_len]; exact h)]; simp
    · rw [List.getElem?_set_ne hv, restS_at h]
      have : i ≠ v := fun z => hv z.symm
      simp [this]
theorem wipe_at {σ : St} {i : Nat} : ∀ {vs : List Nat}, i < σ.length → (wipe σ vs)[i]? = if i ∈ vs then some none else σ[i]?
  | [], h => by simp [wipe]
  | v :: vs, h => by
    unfold wipe
    by_cases hv : v = i
    · subst hv; rw [List.getElem?_set_self (by rw [wipe_length]; exact h)]; simp
    · rw [List.getElem?_set_ne hv, wipe_at h]
      have : i ≠ v := fun z => hv z.symm
      simp [this]
theorem wipe_eq {σ σ' : St} {is vs : List Nat} (hl : σ'.length = σ.length) (hk : ∀ j, j ∉ is → σ'[j]? = σ[j]?) (hs : ∀ i ∈ is, i ∈ vs) : wipe σ' vs = wipe σ vs := by
  apply List.ext_getElem?
  intro i
  by_cases hi : i < σ.length
  · rw [wipe_at hi, wipe_at (by rw [hl]; exact hi)]
    by_cases hv : i ∈ vs
    · simp [hv]
    · simp only [hv, if_false]
      exact hk i fun z => hv (hs i z)
  · rw [List.getElem?_eq_none (by rw [wipe_length]; omega), List.getElem?_eq_none (by rw [wipe_length]; omega)]
theorem wipe_wipe {σ : St} {vs : List Nat} : wipe (wipe σ vs) vs = wipe σ vs := by
  apply List.ext_getElem?
  intro i
  by_cases hi : i < σ.length
  · rw [wipe_at (by rw [wipe_length]; exact hi), wipe_at hi]
    by_cases hv : i ∈ vs <;> simp [hv]
  · rw [List.getElem?_eq_none (by rw [wipe_length, wipe_length]; omega), List.getElem?_eq_none (by rw [wipe_length]; omega)]
section
variable {K : PySem.W.Frag} {F : Addr → Prop} {σ σ' : St} {H H' : Hp} {ρ ρ' ρ0 : List S} {A A' : List (Option Addr)} {vs : List Nat}
theorem clean_at (c : clean vs ρ = true) {i : Nat} (hi : i ∈ vs) : ∃ s, ρ[i]? = some s ∧ plainS s = true := by
  have h := List.all_eq_true.mp c i hi
  cases q : ρ[i]? with
  | none => simp [q] at h
  | some s => simp [q] at h; exact ⟨s, rfl, h⟩
theorem clean_none (g : Good K F σ H ρ A) (c : clean vs ρ = true) {i : Nat} (hi : i ∈ vs) : A[i]? = some none := by
  obtain ⟨s, e, p⟩ := clean_at c hi
  have k := g.slot i s e
  cases s with
  | u => exact k
  | sh d => exact k.1
  | fz d => exact k.1
  | ow d => cases p
  | cu x y => cases p
  | sd d => exact k.1
  | od d => cases p
theorem Good.wipe (g : Good K F σ H ρ A) (c : clean vs ρ = true) (hσ : ∀ j, j ∉ vs → σ'[j]? = σ[j]?) (hl : σ'.length = σ.length) : Good K F σ' H (wipeS ρ vs) A := by
  refine ⟨by rw [wipeS_len, hl]; exact g.l1, by rw [wipeS_len]; exact g.l2, g.inj, g.dis, g.trk, fun i s e => ?_⟩
  have hi : i < ρ.length := by have := lt_of_ix e; rw [wipeS_len] at this; exact this
  rw [wipeS_at hi] at e
  by_cases hv : i ∈ vs
  · simp only [hv, if_true] at e; cases e
    exact clean_none g c hv
  · simp only [hv, if_false] at e
    rw [hσ i hv]
    exact g.slot i s e
/-- the own slots as they were ahead of it -/
theorem Good.rest (g : Good K F σ' H' ρ' A') (hu : ∀ i ∈ vs, ρ'[i]? = some .u) (c : clean vs ρ0 = true) (g0 : ∀ i s, i ∈ vs → ρ0[i]? = some s → SlotOk K H' (vw H' (hid F A')) (σ[i]?) (some none) s) (hσ : ∀ j, j ∉ vs → σ[j]? = σ'[j]?) (hl : σ.length = σ'.length) : Good K F σ H' (restS ρ0 ρ' vs) A' := by
  refine ⟨by rw [restS_len, hl]; exact g.l1, by rw [restS_len]; exact g.l2, g.inj, g.dis, g.trk, fun i s e => ?_⟩
  have hi : i < ρ'.length := by have := lt_of_ix e; rw [restS_len] at this; exact this
  rw [restS_at hi] at e
  by_cases hv : i ∈ vs
  · simp only [hv, if_true] at e
    obtain ⟨s', e', p'⟩ := clean_at c hv
    have hA : A'[i]? = some none := g.slot i .u (hu i hv)
    have es : s = s' := by
      rw [List.getD_eq_getElem?_getD, e'] at e
      exact (Option.some.inj e).symm
    rw [hA]
    exact g0 i s hv (by rw [es]; exact e')
  · simp only [hv, if_false] at e
    rw [hσ i hv]
    exact g.slot i s e
theorem wipe_of {σ' σ : St} (h : wipe σ' vs = wipe σ vs) (hl : σ'.length = σ.length) : ∀ j, j ∉ vs → σ'[j]? = σ[j]? := fun j hj => by
  by_cases hi : j < σ.length
  · have := congrArg (fun l => l[j]?) h
    simp only [wipe_at hi, wipe_at (show j < σ'.length by omega), hj, if_false] at this
    exact this
  · rw [List.getElem?_eq_none (by omega), List.getElem?_eq_none (by omega)]
/-- a foreign hidden object is written -/
theorem Good.writeF {a : Addr} {o : HO} (g : Good K F σ H ρ A) (ha : F a) : Good K F σ (upd H a o) ρ A := by
  have hv : Same (vw H (hid F A)) (vw (upd H a o) (hid F A)) := vw_mono (fun _ z => z) fun b u n e => by
    rw [upd_ne (fun z => n (by rw [z]; exact .inl ha))]; exact e
  refine ⟨g.l1, g.l2, g.inj, g.dis, fun b hb => ?_, fun i s e => (g.slot i s e).mono (fun b hb => ?_) hv⟩
  · by_cases q : b = a
    · subst q; rw [upd_same]; exact fun z => nomatch z
    · rw [upd_ne q]; exact g.trk b hb
  · rw [upd_ne (fun z => g.dis i b hb (by rw [z]; exact ha))]
theorem view_writeF {a : Addr} {o : HO} (ha : F a) : Same (vw H (hid F A)) (vw (upd H a o) (hid F A)) := vw_mono (fun _ z => z) fun b u n e => by
  rw [upd_ne (fun z => n (by rw [z]; exact .inl ha))]; exact e
end
def lcL (vs : List Nat) (t : GF) (c : BF) (f : EF) : List D → List S → List D → Option (List D × List S)
  | [], ρ, acc => some (acc, ρ)
  | d :: ds, ρ, acc => (t d ρ).bind fun ρ1 => (toOpt (c ρ1)).bind fun p => if p.1 = true then (toOpt (f p.2)).bind fun q => match q.1 with
        | .sh d' => if clean vs q.2 && decide (acc.length < 16777216) then lcL vs t c f ds (wipeS q.2 vs) (acc ++ [d']) else none
        | .ow d' => if clean vs q.2 && decide (acc.length < 16777216) then lcL vs t c f ds (wipeS q.2 vs) (acc ++ [d']) else none
        | _ => none
      else if clean vs p.2 then lcL vs t c f ds (wipeS p.2 vs) acc else none
def fLc (vs : List Nat) (fi : IF) (t : GF) (c : BF) (f : EF) : EF := fun ρ => fi ρ >>= fun p => if clean vs p.2 then Rs.of (lcL vs t c f p.1 (wipeS p.2 vs) []) >>= fun q => .ok (.ow (.list q.1), restS p.2 q.2 vs) else .no
def bYes : BF := fun ρ => .ok (true, ρ)
section
variable {X : Cx} {K : PySem.W.Frag} {mg : Str → Option Value} {W : WX} {n : Nat} {pos : Pos} {is vs : List Nat} {t : GF} {c : BF} {f : EF} {fi : IF}
theorem tyes_imp : ∀ σ H Q, TB' K mg W bYes σ H Q → tYes σ H Q := fun σ H Q ⟨F, ρ, A, g, po⟩ => po H A g Stp.refl
theorem pts_none : PTs X [] (TB' K mg W bYes) := ⟨fun p s σ H Q I q => pts_nil.run p s σ H Q I (tyes_imp σ H Q q)⟩
structure LcSt (F : Addr → Prop) (H : Hp) (ρ : List S) (A : List (Option Addr)) (D' : Addr) (H' : Hp) (ρ' : List S) (A' : List (Option Addr)) : Prop where
  kf : ∀ b, F b → H' b = H b
  vs : Same (vw H (hid F A)) (vw H' (hid (adj F D') A'))
  cu : ∀ (i : Nat) (x y : Int), ρ[i]? = some (S.cu x y) → A'[i]? = A[i]? ∧ ∃ x' y' : Int, ρ'[i]? = some (S.cu x' y')
theorem LcSt.step {F : Addr → Prop} {H H1 H2 : Hp} {ρ ρ1 ρ2 : List S} {A A1 A2 : List (Option Addr)} {D' : Addr} (a : LcSt F H ρ A D' H1 ρ1 A1) (b : Stp (adj F D') H1 ρ1 A1 H2 ρ2 A2) : LcSt F H ρ A D' H2 ρ2 A2 :=
  ⟨fun c h => (b.kf c (.inl h)).trans (a.kf c h), a.vs.trans b.vs, fun i x y h => by
    obtain ⟨e, x', y', h'⟩ := a.cu i x y h
    obtain ⟨e', q⟩ := b.cu i x' y' h'
    exact ⟨e'.trans e, q⟩⟩
theorem LcSt.wipe {F : Addr → Prop} {H H1 : Hp} {ρ ρ1 : List S} {A A1 : List (Option Addr)} {D' : Addr} (a : LcSt F H ρ A D' H1 ρ1 A1) (c : clean vs ρ1 = true) : LcSt F H ρ A D' H1 (wipeS ρ1 vs) A1 :=
  ⟨a.kf, a.vs, fun i x y h => by
    obtain ⟨e, x', y', h'⟩ := a.cu i x y h
    refine ⟨e, x', y', ?_⟩
    have hv : i ∉ vs := fun hv => by obtain ⟨s, e, p⟩ := clean_at c hv; rw [h'] at e; cases e; cases p
    rw [wipeS_at (lt_of_ix h')]
    simp [hv, h']⟩
theorem LcSt.write {F : Addr → Prop} {H H1 : Hp} {ρ ρ1 : List S} {A A1 : List (Option Addr)} {D' : Addr} {o : HO} (a : LcSt F H ρ A D' H1 ρ1 A1) (n : ¬ F D') : LcSt F H ρ A D' (upd H1 D' o) ρ1 A1 :=
  ⟨fun b h => by rw [upd_ne (fun z => n (by rw [← z]; exact h))]; exact a.kf b h, a.vs.trans (view_writeF (.inr rfl)), a.cu⟩
theorem lc_r (hv : ∀ i ∈ is, i ∈ vs) : ∀ σ H Q, TF K mg W (fLc vs fi t c f) σ H Q → tLc (TIt K mg W fi) (TGt K is t) (TB' K mg W0 c) (TF K mg W0 f) vs σ H Q := by
  intro σ H Q ⟨F, ρ, A, gd, po⟩
  have sl := sizeLine_eq
  refine ⟨F, ρ, A, gd, ?_⟩
  unfold fLc at po
  cases q : fi ρ with
  | no => rw [q] at po; exact po.elim
  | ex ρ' c fs => rw [q] at po; exact po
  | ok pr =>
    obtain ⟨ds, ρ1⟩ := pr
    rw [q] at po
    simp only [Rs.bind_ok] at po
    split at po
    case isFalse => exact po.elim
    case isTrue hcl =>
    obtain ⟨⟨accF, ρF⟩, eF, po⟩ := seqOpt (po := fun o => PoE K mg W F σ H ρ A o Q) poE_no po
    intro J H1 A1 g1 s1 wk Dd hD
    have nFD : ¬ F Dd := fun z => g1.trk Dd z hD
    have gh : Good K (adj F Dd) σ (upd H1 Dd (.lst [])) ρ1 A1 := g1.hide_new hD
    have gw : Good K (adj F Dd) (L2.wipe σ vs) (upd H1 Dd (.lst [])) (wipeS ρ1 vs) A1 := gh.wipe hcl (fun j hj => by
      by_cases hi : j < σ.length
      · rw [wipe_at hi]; simp [hj]
      · rw [List.getElem?_eq_none (by rw [wipe_length]; omega), List.getElem?_eq_none (by omega)]) (wipe_length _ _)
    have L0 : LcSt F H1 ρ1 A1 Dd (upd H1 Dd (.lst [])) ρ1 A1 := ⟨fun b hb => upd_ne (ne_z (g1.trk b hb) hD), view_hide g1 hD, fun i x y h => ⟨rfl, x, y, h⟩⟩
    refine ⟨fun i m H2 => ∃ ρ2 A2 acc us, Good K (adj F Dd) (L2.wipe σ vs) H2 ρ2 A2 ∧ LcSt F H1 ρ1 A1 Dd H2 ρ2 A2 ∧ H2 Dd = some (.lst us) ∧ RpL K (vw H2 (hid (adj F Dd) A2)) us acc ∧ (∀ i ∈ vs, ρ2[i]? = some .u) ∧ i ≤ ds.length ∧ m = ds.length - i ∧ lcL vs t c f (ds.drop i) ρ2 acc = some (accF, ρF),
      ⟨ds.length, wipeS ρ1 vs, A1, [], [], gw, L0.wipe hcl, upd_same, .nil, fun i hi => by
        obtain ⟨s, e, _⟩ := clean_at hcl hi
        rw [wipeS_at (lt_of_ix e)]; simp [hi], Nat.zero_le _, rfl, eF⟩, ?_⟩
    rintro i m H2 ⟨ρ2, A2, acc, us, g2, L2', e2, r2, hu, hi, rfl, ec⟩
    have v2 : Same (vw H1 (hid F A1)) H2 := L2'.vs.trans (vw_same _ _)
    obtain ⟨w1, w2⟩ := wk H2 v2
    by_cases hlt : i < ds.length
    · have hd : ds[i]? = some ds[i] := List.getElem?_eq_getElem hlt
      obtain ⟨go, yl⟩ := w1 i _ hd
      rw [List.drop_eq_getElem_cons hlt] at ec
      unfold lcL at ec
      cases et : t ds[i] ρ2 with
      | none => rw [et] at ec; cases ec
      | some ρ3 =>
        rw [et] at ec
        simp only [Option.bind_some] at ec
        cases eb : toOpt (c ρ3) with
        | none => rw [eb] at ec; cases ec
        | some pb =>
          obtain ⟨b, ρ4⟩ := pb
          rw [eb] at ec
          simp only [Option.bind_some] at ec
          have eb' := toOpt_some eb
          refine .inr ⟨go, fun H5 => ∃ ρ5 A5 acc5 us5, Good K (adj F Dd) (L2.wipe σ vs) H5 ρ5 A5 ∧ LcSt F H1 ρ1 A1 Dd H5 ρ5 A5 ∧ H5 Dd = some (.lst us5) ∧ RpL K (vw H5 (hid (adj F Dd) A5)) us5 acc5 ∧ (∀ i ∈ vs, ρ5[i]? = some .u) ∧ lcL vs t c f (ds.drop (i + 1)) ρ5 acc5 = some (accF, ρF),
            fun H5 ⟨ρ5, A5, acc5, us5, h1, h2, h3, h4, h5, h6⟩ => ⟨ds.length - (i + 1), by omega, ρ5, A5, acc5, us5, h1, h2, h3, h4, h5, hlt, rfl, h6⟩, fun x H3 y => ?_⟩
          obtain ⟨g3, s3, r3⟩ := yok_state g2 L2'.vs (yl x H3 y)
          refine ⟨adj F Dd, ρ2, A2, _, ρ3, g3, r3, et, fun σ4 A4 g4 s4 l4 k4 => ⟨(wipe_eq l4 k4 hv).trans wipe_wipe, adj F Dd, ρ3, A4, g4, ?_⟩⟩
          have hw4 : L2.wipe σ4 vs = L2.wipe σ vs := (wipe_eq l4 k4 hv).trans wipe_wipe
          have hl4 : σ4.length = (L2.wipe σ vs).length := l4
          have kσ : ∀ j, j ∉ vs → (L2.wipe σ vs)[j]? = σ4[j]? := fun j hj => (k4 j fun z => hj (hv j z)).symm
          have L4 := (L2'.step s3).step s4
          rw [eb']
          intro H6 A6 g6 s6
          have L6 := L4.step s6
          have hD6 : H6 Dd = some (.lst us) := by rw [s6.kf Dd (.inr rfl), s3.kf Dd (.inr rfl)]; exact e2
          have r6 : RpL K (vw H6 (hid (adj F Dd) A6)) us acc := ((r2.mono s3.vs).mono s4.vs).mono s6.vs
          have nxt : ∀ (ρ7 : List S) (H7 : Hp) (A7 : List (Option Addr)) (acc7 : List D) (us7 : List V), Good K (adj F Dd) σ4 H7 ρ7 A7 → LcSt F H1 ρ1 A1 Dd H7 ρ7 A7 → H7 Dd = some (.lst us7) → RpL K (vw H7 (hid (adj F Dd) A7)) us7 acc7 → clean vs ρ7 = true → lcL vs t c f (ds.drop (i + 1)) (wipeS ρ7 vs) acc7 = some (accF, ρF) →
              ∃ ρ5 A5 acc5 us5, Good K (adj F Dd) (L2.wipe σ vs) H7 ρ5 A5 ∧ LcSt F H1 ρ1 A1 Dd H7 ρ5 A5 ∧ H7 Dd = some (.lst us5) ∧ RpL K (vw H7 (hid (adj F Dd) A5)) us5 acc5 ∧ (∀ i ∈ vs, ρ5[i]? = some .u) ∧ lcL vs t c f (ds.drop (i + 1)) ρ5 acc5 = some (accF, ρF) :=
            fun ρ7 H7 A7 acc7 us7 h1 h2 h3 h4 h5 h6 => ⟨wipeS ρ7 vs, A7, acc7, us7, h1.wipe h5 kσ hl4.symm, h2.wipe h5, h3, h4, fun j hj => by
              obtain ⟨s, e, _⟩ := clean_at h5 hj
              rw [wipeS_at (lt_of_ix e)]; simp [hj], h6⟩
          cases b with
          | false =>
            simp only [Bool.false_eq_true, if_false] at ec
            split at ec
            · rename_i hc
              exact nxt ρ4 H6 A6 acc us g6 L6 hD6 r6 hc ec
            · cases ec
          | true =>
            simp only [if_true] at ec
            cases ef : toOpt (f ρ4) with
            | none => rw [ef] at ec; cases ec
            | some pf =>
              obtain ⟨r, ρ7⟩ := pf
              rw [ef] at ec
              simp only [Option.bind_some] at ec
              have ef' := toOpt_some ef
              show TF K mg W0 f σ4 H6 _
              refine ⟨adj F Dd, ρ4, A6, g6, ?_⟩
              rw [ef']
              have fin : ∀ d' v H7, Fin K (adj F Dd) σ4 H6 ρ4 A6 (.sh d') ρ7 v H7 → (if clean vs ρ7 && decide (acc.length < 16777216) then lcL vs t c f (ds.drop (i + 1)) (wipeS ρ7 vs) (acc ++ [d']) else none) = some (accF, ρF) →
                  ∃ us1, H7 Dd = some (.lst us1) ∧ us1.length < sizeLine ∧ ∃ ρ5 A5 acc5 us5, Good K (adj F Dd) (L2.wipe σ vs) (upd H7 Dd (.lst (us1 ++ [v]))) ρ5 A5 ∧ LcSt F H1 ρ1 A1 Dd (upd H7 Dd (.lst (us1 ++ [v]))) ρ5 A5 ∧ (upd H7 Dd (.lst (us1 ++ [v]))) Dd = some (.lst us5) ∧ RpL K (vw (upd H7 Dd (.lst (us1 ++ [v]))) (hid (adj F Dd) A5)) us5 acc5 ∧ (∀ i ∈ vs, ρ5[i]? = some .u) ∧ lcL vs t c f (ds.drop (i + 1)) ρ5 acc5 = some (accF, ρF) := by
                intro d' v H7 ⟨A7, g7, s7, p7⟩ e
                split at e
                · rename_i hc
                  rw [Bool.and_eq_true] at hc
                  have hlen := of_decide_eq_true hc.2
                  have hD7 : H7 Dd = some (.lst us) := by rw [s7.kf Dd (.inr rfl)]; exact hD6
                  have r7 : RpL K (vw H7 (hid (adj F Dd) A7)) us acc := r6.mono s7.vs
                  refine ⟨us, hD7, by rw [r7.len]; omega, nxt ρ7 _ A7 (acc ++ [d']) (us ++ [v]) (g7.writeF (.inr rfl)) ((L6.step s7).write nFD) upd_same ((r7.app (.cons p7 .nil)).mono (view_writeF (.inr rfl))) hc.1 e⟩
                · cases e
              cases r with
              | sh d' => intro v H7 f7; exact fin d' v H7 f7 ec
              | ow d' => intro v H7 f7; exact fin d' v H7 f7.weak ec
              | _ => cases ec
    · have e : i = ds.length := by omega
      subst e
      rw [List.drop_length] at ec
      cases ec
      refine .inl ⟨w2, po _ H2 ⟨A2, Dd, rfl, nFD, ?_, ?_, ?_, us, e2, r2⟩⟩
      · refine g2.rest hu hcl (fun i s hi e => ?_) (fun j hj => ?_) (wipe_length _ _).symm
        · have k := g1.slot i s e
          have hn := clean_none g1 hcl hi
          rw [hn] at k
          exact k.mono (fun _ z => by cases z) L2'.vs
        · by_cases hi : j < σ.length
          · rw [wipe_at hi]; simp [hj]
          · rw [List.getElem?_eq_none (by omega), List.getElem?_eq_none (by rw [wipe_length]; omega)]
      · refine ⟨fun b hb => (L2'.kf b hb).trans (s1.kf b hb), s1.vs.trans (L2'.vs.trans view_unhide), fun j x y h => ?_⟩
        obtain ⟨q1, x', y', q2⟩ := s1.cu j x y h
        obtain ⟨q3, x2, y2, q4⟩ := L2'.cu j x' y' q2
        refine ⟨q3.trans q1, x2, y2, ?_⟩
        have hv : j ∉ vs := fun hv => by obtain ⟨s, e, p⟩ := clean_at hcl hv; rw [q2] at e; cases e; cases p
        rw [restS_at (lt_of_ix q4)]
        simp [hv, q4]
      · exact s1.vs.trans L2'.vs
variable {elt tg iter : Expr} {ifs : List Expr} {scope : Scope} {own : List (Str × Nat)}
theorem ev_lc (ct : Ct X K mg W n) (hv : ∀ i ∈ is, i ∈ own.map (·.2)) (hi : PI X tg iter (TIt K mg W fi)) (ok : BlkOk X.N X.env.scope scope own)
    (hg : ∀ (s : Shared) (H : Hp) (C : Addr) (cl : List (Str × Addr)) (fp : List Addr), PG (X.blk s H scope (compEnvC scope cl C X.env) fp) tg (TGt K is t)) (ht : ∀ (s : Shared) (H : Hp) (C : Addr) (cl : List (Str × Addr)) (fp : List Addr), PTs (X.blk s H scope (compEnvC scope cl C X.env) fp) ifs (TB' K mg W0 c))
    (he : ∀ (s : Shared) (H : Hp) (C : Addr) (cl : List (Str × Addr)) (fp : List Addr), PE (X.blk s H scope (compEnvC scope cl C X.env) fp) elt (TF K mg W0 f)) (hs : ∀ x, foldedSetIterable iter X.env x = pure x := by intro _; rfl) :
    PE X (.ListComp elt [⟨tg, iter, ifs, 0⟩] scope pos) (TF K mg W (fLc (own.map (·.2)) fi t c f)) := pe_imp (pe_lc ct.calm ct.nd hi ok hg ht he hs) (lc_r hv)
theorem st_setLc {i : Nat} {y : Str} {py spos : Pos} (ct : Ct X K mg W n) (hv : ∀ i ∈ is, i ∈ own.map (·.2)) (hy : X.N[i]? = some y) (hyl : X.env.scope.names.lookup y = some .local)
    (hsw : swapsWith (.ListComp elt [⟨tg, iter, ifs, 0⟩] scope pos) (some (.Name y py)) spos.line X.env = pure true) (hi : PI X tg iter (TIt K mg W fi)) (ok : BlkOk X.N X.env.scope scope own)
    (hg : ∀ (s : Shared) (H : Hp) (C : Addr) (cl : List (Str × Addr)) (fp : List Addr), PG (X.blk s H scope (compEnvC scope cl C X.env) fp) tg (TGt K is t)) (ht : ∀ (s : Shared) (H : Hp) (C : Addr) (cl : List (Str × Addr)) (fp : List Addr), PTs (X.blk s H scope (compEnvC scope cl C X.env) fp) ifs (TB' K mg W0 c))
    (he : ∀ (s : Shared) (H : Hp) (C : Addr) (cl : List (Str × Addr)) (fp : List Addr), PE (X.blk s H scope (compEnvC scope cl C X.env) fp) elt (TF K mg W0 f)) (hs : ∀ x, foldedSetIterable iter X.env x = pure x := by intro _; rfl) :
    PS X (.Assign [.Name y py] (.ListComp elt [⟨tg, iter, ifs, 0⟩] scope pos) spos) (TSt K mg W (sSet i (fLc (own.map (·.2)) fi t c f))) := by
  refine ps_imp (ps_setLc ct.calm ct.nd hy hyl hsw hi ok hg ht he hs) fun D' σ H h => ?_
  have h1 := set_r (f := fLc (own.map (·.2)) fi t c f) D' σ H h
  exact lc_r hv σ H _ h1
theorem Ct.blk (ct : Ct X K mg W n) (s : Shared) (H : Hp) (cenv : Env) (fp : List Addr) : Ct (X.blk s H scope cenv fp) K mg W0 n := ⟨ct.k, ct.m, takes0, ct.calm, ct.nd, ct.room⟩
end
end Z
end
section
namespace Z
open PySem PySem.Spec L2

section
variable {X : Cx} {K : PySem.W.Frag} {mg : Str → Option Value} {W : WX} {n : Nat} {pos apos cpos : Pos} {e : Expr} {f : EF} {fo : OF} {fA : AF}
/-! ### lists of one's own, changed -/
/-- x.append(e) -/
def appS (i : Nat) (d : D) (ρ : List S) : Rs (S × List S) := match ρ[i]? with
  | some (.ow (.list ds)) => if ds.length < 16777216 then .ok (.sh .none, ρ.set i (.ow (.list (ds ++ [d])))) else .no
  | _ => .no
def fAppend (i : Nat) (f : EF) : EF := fun ρ => match ρ[i]? with
  | some (.ow (.list _)) => f ρ >>= fun p => match p.1 with
    | .sh d => appS i d p.2
    | .ow d => appS i d p.2
    | _ => .no
  | _ => .no
theorem ev_append {c : Expr} (i : Nat) (h : PE X c (tBM X.K "list" rAppend (tVar i) (tCons (TF K mg W f) tNil))) : PE X c (TF K mg W (fAppend i f)) := by
  refine pe_imp h fun σ H Q ⟨F, ρ, A, gd, po⟩ => ?_
  have sl := sizeLine_eq
  unfold fAppend at po
  cases q : ρ[i]? with
  | none => rw [q] at po; exact po.elim
  | some s =>
    rw [q] at po
    cases s with
    | ow d0 =>
      cases d0 with
      | list ds0 =>
        obtain ⟨a, ha, e1, vs0, hH, _⟩ := gd.slot i _ q
        refine ⟨.ref a, e1, .inl ⟨rfl, _, .inl (.inl hH)⟩, ?_⟩
        refine seqE gd (po := fun o => PoE K mg W F σ H ρ A o Q) poE_no (poE_exS Stp.refl) po fun r ρ1 v H1 f1 po => ?_
        have key : ∀ d, Fin K F σ H ρ A (.sh d) ρ1 v H1 → PoE K mg W F σ H ρ A (appS i d ρ1) Q → tNil σ H1 fun xs H2 => rAppend (.ref a) (v :: xs) H2 Q := by
          intro d ⟨A1, g1, s1, p1⟩ po
          unfold appS at po
          cases q1 : ρ1[i]? with
          | none => rw [q1] at po; exact po.elim
          | some s' =>
            rw [q1] at po
            cases s' with
            | ow d1 =>
              cases d1 with
              | list ds =>
                simp only at po
                split at po
                · rename_i hlen
                  obtain ⟨a', ha', e1', vs, hH1, r1⟩ := g1.slot i _ q1
                  rw [e1] at e1'; cases e1'
                  have hl := r1.len
                  refine ⟨a, vs, v, rfl, rfl, hH1, by omega, po _ _ ⟨A1, g1.write ha' e1 ⟨vs ++ [v], upd_same, r1.app (.cons p1 .nil)⟩, s1.trans (Stp.write g1 ha' (fun x y z => by rw [q1] at z; cases z)), .non⟩⟩
                · exact po.elim
              | _ => exact po.elim
            | _ => exact po.elim
        cases r with
        | sh d => exact key d f1 po
        | ow d => exact key d f1.weak po
        | _ => exact po.elim
      | _ => exact po.elim
    | _ => exact po.elim
/-- x.pop() -/
def fPop (i : Nat) : EF := fun ρ => match ρ[i]? with
  | some (.ow (.list ds)) => match ds[ds.length - 1]? with
    | some d => .ok (.sh d, ρ.set i (.ow (.list ds.dropLast)))
    | none => .no
  | _ => .no
theorem RpL.dropLast {H : Hp} {vs : List V} {ds : List D} (r : RpL K H vs ds) : RpL K H vs.dropLast ds.dropLast := by
  rw [List.dropLast_eq_take, List.dropLast_eq_take, r.len]
  exact r.take _
theorem ev_pop {c : Expr} (i : Nat) (h : PE X c (tBM0 X.K "list" rPop (tVar i))) : PE X c (TF K mg W (fPop i)) := by
  refine pe_imp h fun σ H Q ⟨F, ρ, A, gd, po⟩ => ?_
  unfold fPop at po
  cases q : ρ[i]? with
  | none => rw [q] at po; exact po.elim
  | some s =>
    rw [q] at po
    cases s with
    | ow d0 =>
      cases d0 with
      | list ds =>
        obtain ⟨a, ha, e1, vs, hH, r1⟩ := gd.slot i _ q
        simp only at po
        cases e2 : ds[ds.length - 1]? with
        | none => rw [e2] at po; exact po.elim
        | some d =>
          rw [e2] at po
          obtain ⟨v, h1, h2⟩ := r1.get e2
          have st := Stp.write (s := .ow (.list ds.dropLast)) (o := .lst vs.dropLast) gd ha (fun x y z => by rw [q] at z; cases z)
          exact ⟨.ref a, e1, .inl ⟨rfl, _, .inl (.inl hH)⟩, a, vs, v, rfl, rfl, hH, by rw [r1.len]; exact h1, po _ _ ⟨A, gd.write ha e1 ⟨vs.dropLast, upd_same, r1.dropLast⟩, st, h2.mono st.vs⟩⟩
      | _ => exact po.elim
    | _ => exact po.elim
/-- x[i] = e: a list of one's own, or the two numbers -/
def putIx (i : Nat) (d k : D) (ρ : List S) : Rs (Out × List S) := match ρ[i]? with
  | some (.ow (.list ds)) => (match k with
    | .int k => Rs.of (ixN ds.length k) >>= fun j => .ok (.nx, ρ.set i (.ow (.list (ds.set j d))))
    | _ => .no)
  | some (.cu x y) => (match d, k with
    | .int z, .int k => if k = 0 then .ok (.nx, ρ.set i (.cu z y)) else if k = 1 then .ok (.nx, ρ.set i (.cu x z)) else .no
    | _, _ => .no)
  | _ => .no
def isOwn (i : Nat) (ρ : List S) : Bool := match ρ[i]? with
  | some (.ow _) => true
  | some (.cu _ _) => true
  | _ => false
def sSetIx (i : Nat) (f : EF) (fi : OF) : SF := fun ρ => f ρ >>= fun p => match p.1 with
  | .sh d => if isOwn i p.2 = true then fi p.2 >>= fun q => Rs.of (look q.1 q.2) >>= fun k => putIx i d k q.2 else .no
  | _ => .no
theorem st_setIx {st : Stmt} (i : Nat) (h : PS X st (tAsg (TF K mg W f) (L2.gSub (tVar i) (TO' K mg W fo) rSetL))) : PS X st (TSt K mg W (sSetIx i f fo)) := by
  refine ps_imp h fun D' σ H ⟨F, ρ, A, gd, po⟩ => ?_
  refine seqES gd po fun r ρ1 v H1 f1 po => ?_
  cases r with
  | sh d =>
    obtain ⟨A1, g1, s1, p1⟩ := f1
    simp only at po
    split at po
    case isFalse => exact po.elim
    case isTrue ho =>
    have hσ : ∃ a, σ[i]? = some (some (.ref a)) := by
      unfold isOwn at ho
      cases q : ρ1[i]? with
      | none => rw [q] at ho; cases ho
      | some s =>
        rw [q] at ho
        have k := g1.slot i s q
        cases s with
        | ow d => obtain ⟨a, _, e, _⟩ := k; exact ⟨a, e⟩
        | cu x y => obtain ⟨a, _, e, _⟩ := k; exact ⟨a, e⟩
        | _ => cases ho
    obtain ⟨a, ea⟩ := hσ
    refine ⟨.ref a, ea, ?_⟩
    refine seqO g1 (po := fun o => PoS K mg W F σ H ρ A o D') poS_no (poS_exS s1) po fun hk ρ2 w H2 A2 g2 s2 r2 po => ?_
    obtain ⟨k, ek, po⟩ := seqOpt (po := fun o => PoS K mg W F σ H ρ A o D') poS_no po
    have pk := look_ok g2 r2 ek
    have p2 := p1.mono s2.vs
    unfold putIx at po
    cases q : ρ2[i]? with
    | none => rw [q] at po; exact po.elim
    | some s =>
      rw [q] at po
      have ks := g2.slot i s q
      cases s with
      | ow d0 =>
        cases d0 with
        | list ds =>
          obtain ⟨a', ha, e1, vs, hH, r1⟩ := ks
          rw [ea] at e1; cases e1
          cases k with
          | int k =>
            obtain ⟨j, ej, po⟩ := seqOpt (po := fun o => PoS K mg W F σ H ρ A o D') poS_no po
            have st := Stp.write (s := .ow (.list (ds.set j d))) (o := .lst (vs.set j v)) g2 ha (fun x y z => by rw [q] at z; cases z)
            exact ⟨a, vs, k, j, rfl, pk.int, hH, by rw [r1.len]; exact ej, po _ _ _ (g2.write ha ea ⟨_, upd_same, r1.set p2 j⟩) ((s1.trans s2).trans st)⟩
          | _ => exact po.elim
        | _ => exact po.elim
      | cu x y =>
        obtain ⟨a', ha, e1, hH⟩ := ks
        rw [ea] at e1; cases e1
        cases d with
        | int z =>
          cases p2
          cases k with
          | int k =>
            simp only at po
            split at po
            · rename_i hk
              subst hk
              exact ⟨a, _, 0, 0, rfl, pk.int, hH, rfl, po _ _ _ (g2.writeC ha ea) ((s1.trans s2).trans (Stp.write g2 ha (fun x y _ => ⟨_, _, rfl⟩)))⟩
            · split at po
              · rename_i hk
                subst hk
                exact ⟨a, _, 1, 1, rfl, pk.int, hH, rfl, po _ _ _ (g2.writeC ha ea) ((s1.trans s2).trans (Stp.write g2 ha (fun x y _ => ⟨_, _, rfl⟩)))⟩
              · exact po.elim
          | _ => exact po.elim
        | _ => exact po.elim
      | _ => exact po.elim
  | _ => exact po.elim
/-- cup = [x, y]: the two numbers of all draws are made -/
def cupOf : S → Option (Int × Int)
  | .ow (.list [.int x, .int y]) => some (x, y)
  | _ => none
theorem cupOf_some : ∀ {s : S} {x y : Int}, cupOf s = some (x, y) → s = .ow (.list [.int x, .int y]) := by
  intro s x y h
  unfold cupOf at h
  split at h
  · cases h; rfl
  · cases h
def sCup (i : Nat) (f : EF) : SF := fun ρ => f ρ >>= fun p => Rs.of (cupOf p.1) >>= fun c => Rs.of (setS i (.cu c.1 c.2) p.2) >>= fun ρ' => .ok (.nx, ρ')
theorem st_cup {i : Nat} {st : Stmt} (h : PS X st (tAsg (TF K mg W f) (gName i))) : PS X st (TSt K mg W (sCup i f)) := by
  refine ps_imp h fun D' σ H ⟨F, ρ, A, gd, po⟩ => ?_
  refine seqES gd po fun r ρ1 v H1 f1 po => ?_
  obtain ⟨⟨x, y⟩, ec, po⟩ := seqOpt (po := fun o => PoS K mg W F σ H ρ A o D') poS_no po
  have := cupOf_some ec
  subst this
  · obtain ⟨ρ', e1, po⟩ := seqOpt (po := fun o => PoS K mg W F σ H ρ A o D') poS_no po
    obtain ⟨h1, rfl, h2⟩ := setS_some e1
    obtain ⟨A1, a, rfl, na, g1, s1, m1, o1⟩ := f1
    have g2 := g1.putO na h1 o1
    obtain ⟨vs, hH, rr⟩ := o1
    have hvs : vs = [.int x, .int y] := rp_ints (ns := [x, y]) rr
    subst hvs
    refine po _ H1 _ ⟨?_, ?_, g2.inj, g2.dis, g2.trk, fun j s e => ?_⟩ ⟨s1.kf, m1.trans view_putO, fun j x y e => ?_⟩
    · rw [g2.l1]; simp
    · rw [g2.l2]; simp
    · by_cases hj : i = j
      · subst hj
        rw [List.getElem?_set_self h1] at e; cases e
        obtain ⟨a', q1, q2, _⟩ := g2.slot i _ (List.getElem?_set_self h1)
        have hA : i < A1.length := by rw [g1.l2]; exact h1
        rw [List.getElem?_set_self hA] at q1 ⊢
        exact ⟨a, rfl, by rw [q2]; cases q1; rfl, hH⟩
      · rw [List.getElem?_set_ne hj] at e
        exact g2.slot j s (by rw [List.getElem?_set_ne hj]; exact e)
    · obtain ⟨q1, x', y', q2⟩ := s1.cu j x y e
      have hj : i ≠ j := fun z => by subst z; exact h2 _ _ q2
      rw [List.getElem?_set_ne hj, List.getElem?_set_ne hj]
      exact ⟨q1, x', y', q2⟩

/-! ### what a def promises -/
/-- what is known behind a call: F what the caller hides -/
def FinF (K : PySem.W.Frag) (F : Addr → Prop) (H H' : Hp) (v : V) : S → Prop
  | .sh d => Same (vw H F) (vw H' F) ∧ Rp K (vw H' F) v d
  | .ow d => ∃ a, v = .ref a ∧ ¬ F a ∧ Same (vw H F) (vw H' (adj F a)) ∧ Ow K H' (vw H' (adj F a)) a d
  | .sd t => Same (vw H F) (vw H' F) ∧ ∃ a, v = .ref a ∧ DO K (vw H' F) (vw H' F) a t
  | .od t => ∃ a, v = .ref a ∧ ¬ F a ∧ Same (vw H F) (vw H' (adj F a)) ∧ DO K H' (vw H' (adj F a)) a t
  | _ => False
/-- a def of values -/
def spF (K : PySem.W.Frag) (mg : Str → Option Value) (m : Nat) (mf : List S → Rs S) : Sp := fun vs H Q E => ∃ (F : Addr → Prop) (args : List S), SReps K (vw H F) vs args ∧ args.length = m ∧ (∀ b, F b → H b ≠ none) ∧ match mf args with
  | .ok r => ∀ v H', (∀ b, F b → H' b = H b) → FinF K F H H' v r → Q v H'
  | .ex _ c fs => ∀ C d H', (∀ b, F b → H' b = H b) → Same (vw H F) (vw H' F) → ExV mg c fs C d H' → E C d H'
  | .no => False
/-- a def that draws: the two numbers come first -/
def spC (K : PySem.W.Frag) (mg : Str → Option Value) (m : Nat) (mf : Int → Int → List S → Rs (S × Int × Int)) : Sp := fun vs H Q E => ∃ (F : Addr → Prop) (c : Addr) (x y : Int) (vs' : List V) (args : List S), vs = .ref c :: vs' ∧ ¬ F c ∧ H c = some (.lst [.int x, .int y]) ∧ SReps K (vw H (adj F c)) vs' args ∧ args.length = m ∧ (∀ b, F b → H b ≠ none) ∧ match mf x y args with
  | .ok (r, x', y') => ∀ v H', (∀ b, F b → H' b = H b) → H' c = some (.lst [.int x', .int y']) → FinF K (adj F c) H H' v r → Q v H'
  | _ => False
theorem SReps.len {W' : Hp} : ∀ {vs : List V} {rs : List S}, SReps K W' vs rs → vs.length = rs.length
  | _, _, .nil => rfl
  | _, _, .cons _ t => by simp [SReps.len t]

/-! ### calls -/
def fUser (mf : List S → Rs S) (fA : AF) : EF := fun ρ => fA ρ >>= fun p => match mf p.1 with
  | .ok r => .ok (r, p.2)
  | .ex _ c fs => .ex p.2 c fs
  | .no => .no
def fUser0 (mf : List S → Rs S) : EF := fun ρ => match mf [] with
  | .ok r => .ok (r, ρ)
  | _ => .no
def fUserC (mf : Int → Int → List S → Rs (S × Int × Int)) (i : Nat) (fA : AF) : EF := fun ρ => match ρ[i]? with
  | some (.cu _ _) => fA ρ >>= fun p => (match p.2[i]? with
    | some (.cu x y) => (match mf x y p.1 with
      | .ok (r, x', y') => .ok (r, p.2.set i (.cu x' y'))
      | _ => .no)
    | _ => .no)
  | _ => .no
/-- the caller's state behind a call that hides it all -/
theorem fin_call {F : Addr → Prop} {σ : St} {H H' : Hp} {ρ : List S} {A : List (Option Addr)} {v : V} {r : S} (g : Good K F σ H ρ A) (k : ∀ b, hid F A b → H' b = H b) (f : FinF K (hid F A) H H' v r) : Fin K F σ H ρ A r ρ v H' := by
  have kA : ∀ (i : Nat) (a : Addr), A[i]? = some (some a) → H' a = H a := fun i a e => k a (.inr (mem_of_ix e))
  have cu : ∀ (i : Nat) (x y : Int), ρ[i]? = some (S.cu x y) → A[i]? = A[i]? ∧ ∃ x' y' : Int, ρ[i]? = some (S.cu x' y') := fun i x y e => ⟨rfl, x, y, e⟩
  cases r with
  | sh d =>
    obtain ⟨s, p⟩ := f
    exact ⟨A, ⟨g.l1, g.l2, g.inj, g.dis, fun b hb => by rw [k b (.inl hb)]; exact g.trk b hb, fun i t e => (g.slot i t e).mono (kA i) s⟩, ⟨fun b hb => k b (.inl hb), s, cu⟩, p⟩
  | ow d =>
    obtain ⟨a, rfl, na, s, o⟩ := f
    have eq1 : vw H' (adj (hid F A) a) = vw H' (hid (adj F a) A) := vw_congr fun b => by
      constructor
      · rintro ((z | z) | z)
        · exact .inl (.inl z)
        · exact .inr z
        · exact .inl (.inr z)
      · rintro ((z | z) | z)
        · exact .inl (.inl z)
        · exact .inr z
        · exact .inl (.inr z)
    rw [eq1] at s o
    have ho := o.tr
    refine ⟨A, a, rfl, fun z => na (.inl z), ⟨g.l1, g.l2, g.inj, fun i b e z => ?_, fun b hb => ?_, fun i t e => (g.slot i t e).mono (kA i) s⟩, ⟨fun b hb => k b (.inl hb), s.trans view_unhide, cu⟩, s, o⟩
    · rcases z with z | z
      · exact g.dis i b e z
      · subst z; exact na (.inr (mem_of_ix e))
    · rcases hb with hb | hb
      · rw [k b (.inl hb)]; exact g.trk b hb
      · subst hb; exact ho
  | sd d =>
    obtain ⟨s, p⟩ := f
    exact ⟨A, ⟨g.l1, g.l2, g.inj, g.dis, fun b hb => by rw [k b (.inl hb)]; exact g.trk b hb, fun i t e => (g.slot i t e).mono (kA i) s⟩, ⟨fun b hb => k b (.inl hb), s, cu⟩, p⟩
  | od d =>
    obtain ⟨a, rfl, na, s, o⟩ := f
    have eq1 : vw H' (adj (hid F A) a) = vw H' (hid (adj F a) A) := vw_congr fun b => by
      constructor
      · rintro ((z | z) | z)
        · exact .inl (.inl z)
        · exact .inr z
        · exact .inl (.inr z)
      · rintro ((z | z) | z)
        · exact .inl (.inl z)
        · exact .inr z
        · exact .inl (.inr z)
    rw [eq1] at s o
    have ho := o.tr
    refine ⟨A, a, rfl, fun z => na (.inl z), ⟨g.l1, g.l2, g.inj, fun i b e z => ?_, fun b hb => ?_, fun i t e => (g.slot i t e).mono (kA i) s⟩, ⟨fun b hb => k b (.inl hb), s.trans view_unhide, cu⟩, s, o⟩
    · rcases z with z | z
      · exact g.dis i b e z
      · subst z; exact na (.inr (mem_of_ix e))
    · rcases hb with hb | hb
      · rw [k b (.inl hb)]; exact g.trk b hb
      · subst hb; exact ho
  | _ => exact f.elim
variable {x : Str} {p : Pos} {es : List Expr} {fA : AF} {k m : Nat} {fa : Addr} {fd : FuncData} {ps : List Str} {mf : List S → Rs S} {mc : Int → Int → List S → Rs (S × Int × Int)}
theorem ev_call (ct : Ct X K mg W n) (Fn : FnOk X.prog X.w X.K X.mg X.base (L2.CX X.prog X.w) k fa fd ps (spF X.K X.mg m mf)) (hn : k ≤ n) (hg : Gl X x) (hm : mg x = some (.ref fa)) (hk : PySem.W.keepIn X.K (.ref fa) = true) (hb : Binds X.K fd ps [])
    (ha : PA X (e :: es) (TAr K mg W fA)) (hl : (e :: es).length = m := by rfl) (hdb : (x == ("__debug__" : Str)) = false := by decide) (he : starEach (e :: es) X.env = (false, eval e X.env) :: starEach es X.env := by rfl) (hpl : (backTo pos (starEach es X.env)).any (·.1) = false := by rfl)
    (hlen : ∀ ρ q, fA ρ = .ok q → q.1.length = m) :
    PE X (.Call (.Name x p) (e :: es) [] pos) (TF K mg W (fUser mf fA)) := by
  obtain ⟨rfl, rfl, tk, _, _, room⟩ := ct
  refine pe_imp (pe_callS Fn (room.mono hn) hg hm hk hb (fun σ => passAt tk σ) ha hdb he hpl) fun σ H Q ⟨F, ρ, A, gd, po⟩ => ?_
  refine ⟨F, ρ, A, gd, ?_⟩
  unfold fUser at po
  cases q : fA ρ with
  | no => rw [q] at po; exact po.elim
  | ex ρ' c fs => rw [q] at po; exact po
  | ok pr =>
    obtain ⟨rs, ρ1⟩ := pr
    have hl2 := hlen ρ _ q
    rw [q] at po
    intro vs H1 A1 g1 s1 r1
    refine ⟨hid F A1, rs, r1, hl2, fun b hb => g1.htr hb, ?_⟩
    simp only [Rs.bind_ok] at po
    cases q2 : mf rs with
    | no => rw [q2] at po; exact po.elim
    | ok r => rw [q2] at po; exact fun v H' kk ff => po v H' ((fin_call g1 kk ff).trans s1)
    | ex ρ' c fs =>
      rw [q2] at po
      intro C d H' kk ss ee
      have g2 : Good X.K F σ H' ρ1 A1 := ⟨g1.l1, g1.l2, g1.inj, g1.dis, fun b hb => by rw [kk b (.inl hb)]; exact g1.trk b hb, fun i t e => (g1.slot i t e).mono (fun a ha => kk a (.inr (mem_of_ix ha))) ss⟩
      exact po C d H' A1 g2 (s1.trans ⟨fun b hb => kk b (.inl hb), ss, fun i x y e => ⟨rfl, x, y, e⟩⟩) ee
theorem ev_call0 (ct : Ct X K mg W n) (Fn : FnOk X.prog X.w X.K X.mg X.base (L2.CX X.prog X.w) k fa fd ps (spF X.K X.mg 0 mf)) (hn : k ≤ n) (hg : Gl X x) (hm : mg x = some (.ref fa)) (hk : PySem.W.keepIn X.K (.ref fa) = true) (hb : Binds X.K fd ps []) (hdb : (x == ("__debug__" : Str)) = false := by decide) :
    PE X (.Call (.Name x p) [] [] pos) (TF K mg W (fUser0 mf)) := by
  obtain ⟨rfl, rfl, tk, _, _, room⟩ := ct
  refine pe_imp (pe_call0 Fn (room.mono hn) hg hm hk hb .nil passL hdb) fun σ H Q ⟨F, ρ, A, gd, po⟩ => ?_
  unfold fUser0 at po
  refine ⟨hid F A, [], .nil, rfl, fun b hb => gd.htr hb, ?_⟩
  cases q2 : mf [] with
  | no => rw [q2] at po; exact po.elim
  | ok r => rw [q2] at po; exact fun v H' kk ff => po v H' (fin_call gd kk ff)
  | ex ρ' c fs => rw [q2] at po; exact po.elim
theorem ev_callC {y : Str} {p2 : Pos} (i : Nat) (ct : Ct X K mg W n) (Fn : FnOk X.prog X.w X.K X.mg X.base (L2.CX X.prog X.w) k fa fd ps (spC X.K X.mg m mc)) (hn : k ≤ n) (hg : Gl X x) (hm : mg x = some (.ref fa)) (hk : PySem.W.keepIn X.K (.ref fa) = true) (hb : Binds X.K fd ps [])
    (hN : X.N[i]? = some y) (hv : Vis X.env.scope y) (ha : PA X es (TAr K mg W fA)) (hlen : ∀ ρ q, fA ρ = .ok q → q.1.length = m) (hd : (y == ("__debug__" : Str)) = false := by decide) (hcd : (y == ("__classdict__" : Str)) = false := by decide)
    (hdb : (x == ("__debug__" : Str)) = false := by decide) (he : starEach (.Name y p2 :: es) X.env = (false, eval (.Name y p2) X.env) :: starEach es X.env := by rfl) (hpl : (backTo pos (starEach es X.env)).any (·.1) = false := by rfl) :
    PE X (.Call (.Name x p) (.Name y p2 :: es) [] pos) (TF K mg W (fUserC mc i fA)) := by
  obtain ⟨rfl, rfl, tk, _, _, room⟩ := ct
  refine pe_imp (pe_callS Fn (room.mono hn) hg hm hk hb (fun σ => passAt tk σ) (pa_cons (pe_var hN hv hd hcd) ha he) hdb he hpl) fun σ H Q ⟨F, ρ, A, gd, po⟩ => ?_
  unfold fUserC at po
  cases q0 : ρ[i]? with
  | none => rw [q0] at po; exact po.elim
  | some s0 =>
    rw [q0] at po
    cases s0 with
    | cu x0 y0 =>
      obtain ⟨c, ha0, e0, _⟩ := gd.slot i _ q0
      refine ⟨.ref c, e0, F, ρ, A, gd, ?_⟩
      simp only at po
      cases q : fA ρ with
      | no => rw [q] at po; exact po.elim
      | ex ρ' c fs => rw [q] at po; exact po
      | ok pr =>
        obtain ⟨rs, ρ1⟩ := pr
        have hl2 := hlen ρ _ q
        rw [q] at po
        intro vs H1 A1 g1 s1 r1
        simp only [Rs.bind_ok] at po
        cases q1 : ρ1[i]? with
        | none => rw [q1] at po; exact po.elim
        | some t1 =>
          rw [q1] at po
          cases t1 with
          | cu a b =>
            simp only at po
            obtain ⟨c', ha1, e1, hH⟩ := g1.slot i _ q1
            rw [e0] at e1; cases e1
            have nh : ¬ hid F (A1.set i none) c := not_hid_let g1 ha1
            have ev : ∀ h : Hp, vw h (adj (hid F (A1.set i none)) c) = vw h (hid F A1) := fun h => vw_congr fun b => by
              constructor
              · rintro ((z | z) | z)
                · exact .inl z
                · exact .inr (mem_set_none z)
                · subst z; exact .inr (mem_of_ix ha1)
              · rintro (z | z)
                · exact .inl (.inl z)
                · by_cases hb : b = c
                  · exact .inr hb
                  · exact .inl (.inr (mem_set_ne g1 ha1 z hb))
            refine ⟨hid F (A1.set i none), c, a, b, vs, rs, rfl, nh, hH, by rw [ev]; exact r1, hl2, fun b hb => g1.htr (hb.elim .inl fun z => .inr (mem_set_none z)), ?_⟩
            cases q2 : mc a b rs with
            | no => rw [q2] at po; exact po.elim
            | ex ρ' c fs => rw [q2] at po; exact po.elim
            | ok t =>
              obtain ⟨r, a', b'⟩ := t
              rw [q2] at po
              intro v H' kk hc ff
              have hadj : ∀ b, hid F A1 b → b ≠ c → H' b = H1 b := fun b hb hne => kk b (hb.elim .inl fun z => .inr (mem_set_ne g1 ha1 z hne))
              have kA : ∀ (j : Nat) (a : Addr), i ≠ j → A1[j]? = some (some a) → H' a = H1 a := fun j a hj e => hadj a (.inr (mem_of_ix e)) fun z => hj (g1.inj i j c ha1 (by rw [← z]; exact e))
              have hi := lt_of_ix q1
              have mkG : ∀ {G : Addr → Prop}, (∀ (j : Nat) (a : Addr), A1[j]? = some (some a) → ¬ G a) → (∀ b, G b → H' b ≠ none) → Same (vw H1 (hid F A1)) (vw H' (hid G A1)) → Good X.K G σ H' (ρ1.set i (.cu a' b')) A1 := fun {G} hd ht hs => by
                refine ⟨by simp [g1.l1], by simp [g1.l2], g1.inj, hd, ht, fun j s e => ?_⟩
                by_cases hj : i = j
                · subst hj
                  rw [List.getElem?_set_self hi] at e; cases e
                  exact ⟨c, ha1, e0, hc⟩
                · rw [List.getElem?_set_ne hj] at e
                  exact (g1.slot j s e).mono (fun b hb => kA j b hj hb) hs
              have fnc : ∀ b, F b → b ≠ c := fun b hb z => g1.dis i c ha1 (by rw [← z]; exact hb)
              have kF : ∀ b, F b → H' b = H1 b := fun b hb => kk b (.inl hb)
              have trkF : ∀ b, F b → H' b ≠ none := fun b hb => by rw [kF b hb]; exact g1.trk b hb
              have mkS : Same (vw H1 (hid F A1)) (vw H' (hid F A1)) → Stp F H1 ρ1 A1 H' (ρ1.set i (.cu a' b')) A1 := fun hs => ⟨kF, hs, fun j x y e => by
                refine ⟨rfl, ?_⟩
                by_cases hj : i = j
                · subst hj; exact ⟨a', b', List.getElem?_set_self hi⟩
                · rw [List.getElem?_set_ne hj]; exact ⟨x, y, e⟩⟩
              refine po v H' (Fin.trans s1 ?_)
              cases r with
              | sh d =>
                obtain ⟨ss, pp⟩ := ff
                rw [ev, ev] at ss
                rw [ev] at pp
                exact ⟨A1, mkG g1.dis trkF ss, mkS ss, pp⟩
              | ow d =>
                obtain ⟨l, rfl, nl, ss, oo⟩ := ff
                have ev2 : vw H' (adj (adj (hid F (A1.set i none)) c) l) = vw H' (hid (adj F l) A1) := vw_congr fun b => by
                  constructor
                  · rintro (((z | z) | z) | z)
                    · exact .inl (.inl z)
                    · exact .inr (mem_set_none z)
                    · subst z; exact .inr (mem_of_ix ha1)
                    · exact .inl (.inr z)
                  · rintro ((z | z) | z)
                    · exact .inl (.inl (.inl z))
                    · exact .inr z
                    · by_cases hb : b = c
                      · exact .inl (.inr hb)
                      · exact .inl (.inl (.inr (mem_set_ne g1 ha1 z hb)))
                rw [ev, ev2] at ss
                rw [ev2] at oo
                have nlA : ∀ (j : Nat) (b : Addr), A1[j]? = some (some b) → b ≠ l := fun j b e z => by
                  subst z
                  by_cases hb : b = c
                  · exact nl (.inr hb)
                  · exact nl (.inl (.inr (mem_set_ne g1 ha1 (mem_of_ix e) hb)))
                refine ⟨A1, l, rfl, fun z => nl (.inl (.inl z)), mkG (fun j b e z => z.elim (g1.dis j b e) (nlA j b e)) (fun b hb => hb.elim (trkF b) fun z => by rw [z]; exact oo.tr) ss, mkS (ss.trans view_unhide), ss, oo⟩
              | sd d =>
                obtain ⟨ss, l, rfl, pp⟩ := ff
                rw [ev, ev] at ss
                rw [ev] at pp
                exact ⟨A1, mkG g1.dis trkF ss, mkS ss, l, rfl, pp⟩
              | od d =>
                obtain ⟨l, rfl, nl, ss, oo⟩ := ff
                have ev2 : vw H' (adj (adj (hid F (A1.set i none)) c) l) = vw H' (hid (adj F l) A1) := vw_congr fun b => by
                  constructor
                  · rintro (((z | z) | z) | z)
                    · exact .inl (.inl z)
                    · exact .inr (mem_set_none z)
                    · subst z; exact .inr (mem_of_ix ha1)
                    · exact .inl (.inr z)
                  · rintro ((z | z) | z)
                    · exact .inl (.inl (.inl z))
                    · exact .inr z
                    · by_cases hb : b = c
                      · exact .inl (.inr hb)
                      · exact .inl (.inl (.inr (mem_set_ne g1 ha1 z hb)))
                rw [ev, ev2] at ss
                rw [ev2] at oo
                have nlA : ∀ (j : Nat) (b : Addr), A1[j]? = some (some b) → b ≠ l := fun j b e z => by
                  subst z
                  by_cases hb : b = c
                  · exact nl (.inr hb)
                  · exact nl (.inl (.inr (mem_set_ne g1 ha1 (mem_of_ix e) hb)))
                refine ⟨A1, l, rfl, fun z => nl (.inl (.inl z)), mkG (fun j b e z => z.elim (g1.dis j b e) (nlA j b e)) (fun b hb => hb.elim (trkF b) fun z => by rw [z]; exact oo.tr) ss, mkS (ss.trans view_unhide), ss, oo⟩
              | _ => exact ff.elim
          | _ => exact po.elim
    | _ => exact po.elim
end

/-! ### a def, by its body -/
def retF (g : SF) (N : Nat) (args : List S) : Rs S := match g (args ++ List.replicate (N - args.length) .u) with
  | .ok (.rt (.sh d), _) => .ok (.sh d)
  | .ok (.rt (.ow d), _) => .ok (.ow d)
  | .ok (.rt (.sd t), _) => .ok (.sd t)
  | .ok (.rt (.od t), _) => .ok (.od t)
  | .ok (.nx, _) => .ok (.sh .none)
  | .ex _ c fs => .ex [] c fs
  | _ => .no
def retC (g : SF) (N : Nat) (x y : Int) (args : List S) : Rs (S × Int × Int) := match g (.cu x y :: (args ++ List.replicate (N - 1 - args.length) .u)) with
  | .ok (.rt (.sh d), ρ) => (match (ρ[(0 : Nat)]? : Option S) with
    | some (S.cu x' y') => .ok (.sh d, x', y')
    | _ => .no)
  | .ok (.rt (.ow d), ρ) => (match (ρ[(0 : Nat)]? : Option S) with
    | some (S.cu x' y') => .ok (.ow d, x', y')
    | _ => .no)
  | _ => .no
section
variable {K : PySem.W.Frag} {mg : Str → Option Value}
theorem no_rep {N : Nat} {b : Addr} (q : some b ∈ List.replicate N (none : Option Addr)) : False := by have := List.eq_of_mem_replicate q; cases this
theorem good_start {H : Hp} {F : Addr → Prop} {vs : List V} {args : List S} (r : SReps K (vw H F) vs args) (N : Nat) (hN : args.length ≤ N) (trk : ∀ b, F b → H b ≠ none) :
    Good K F (vs.map some ++ List.replicate (N - vs.length) none) H (args ++ List.replicate (N - args.length) .u) (List.replicate N none) := by
  have hl := r.len
  have hv : vw H (hid F (List.replicate N none)) = vw H F := vw_congr fun b => ⟨fun z => z.elim id fun q => (no_rep q).elim, .inl⟩
  refine ⟨by simp [hl], by simp; omega, fun i j a e => ?_, fun i a e => ?_, trk, fun i s e => ?_⟩
  · have := List.eq_of_mem_replicate (List.mem_of_getElem? e); cases this
  · have := List.eq_of_mem_replicate (List.mem_of_getElem? e); cases this
  · have hi := lt_of_ix e
    simp only [List.length_append, List.length_replicate] at hi
    have hA : (List.replicate N (none : Option Addr))[i]? = some none := by rw [List.getElem?_replicate]; simp; omega
    rw [hA, hv]
    by_cases h : i < args.length
    · rw [List.getElem?_append_left h] at e
      have key : ∀ {vs : List V} {args : List S}, SReps K (vw H F) vs args → ∀ {i : Nat} {s : S}, args[i]? = some s → ∃ v, vs[i]? = some v ∧ SRep K (vw H F) v s := by
        intro vs args r
        induction r with
        | nil => intro i s e; simp at e
        | cons r t ih =>
          intro i s e
          cases i with
          | zero => simp at e; subst e; exact ⟨_, rfl, r⟩
          | succ i => obtain ⟨v, h1, h2⟩ := ih (i := i) (by simpa using e); exact ⟨v, by simpa using h1, h2⟩
      obtain ⟨v, h1, h2⟩ := key r e
      have hσ : (vs.map some ++ List.replicate (N - vs.length) none)[i]? = some (some v) := by
        rw [List.getElem?_append_left (by simp; omega), List.getElem?_map, h1]; rfl
      rw [hσ]
      cases s with
      | sh d => exact ⟨rfl, v, rfl, h2⟩
      | fz ns => obtain ⟨a, rfl, q⟩ := h2; exact ⟨rfl, a, rfl, q⟩
      | sd t => obtain ⟨a, rfl, q⟩ := h2; exact ⟨rfl, a, rfl, q⟩
      | _ => exact h2.elim
    · rw [List.getElem?_append_right (by omega), List.getElem?_replicate] at e
      split at e
      · cases e; exact rfl
      · cases e
variable {P : Program} {w : World} {base : Heap} {x qual : Str} {st : Stmt} {f : Addr} {fd : FuncData} {N ps : List Str} {k : Nat} {g : SF}
theorem fn_okF {dvs : List V} {kws : List (Str × V)} (Fd : FunD K x qual (defArgs st) (defBody st) (defScope st) dvs kws f fd) (Sc : FnScope N ps (defScope st))
    (hb : ∀ (cdv : Value) (A : Around) (outer : List Env) (s : Shared) (H : Hp) (E : XK), Ct (cxOf (L2.CX P w) P w K mg base N qual (defScope st) f cdv A outer s H E) K mg (fun C d _ H => E C d H) k → PSs (cxOf (L2.CX P w) P w K mg base N qual (defScope st) f cdv A outer s H E) (defBody st) (TSt K mg (fun C d _ H => E C d H) g)) :
    FnOk P w K mg base (L2.CX P w) (k + 1) f fd ps (spF K mg ps.length (retF g N.length)) := by
  have hpn : ps.length ≤ N.length := by have := congrArg List.length Sc.pre; rw [List.length_take] at this; omega
  refine Fd.ok Sc (fun vs H Q E ⟨F, args, r, hl, _⟩ => by rw [r.len, hl]) fun cdv A outer s H vs Q E hr h => ?_
  obtain ⟨F, args, r, hl, trk, po⟩ := h
  refine ⟨_, hb cdv A outer s H E ⟨rfl, rfl, takes_of rfl rfl rfl rfl, rfl, Sc.nd, hr⟩, F, _, _, good_start r N.length (by omega) trk, ?_⟩
  have hv : vw H (hid F (List.replicate N.length none)) = vw H F := vw_congr fun b => ⟨fun z => z.elim id fun q => (no_rep q).elim, .inl⟩
  have up : ∀ {H' : Hp} {A' : List (Option Addr)}, Same (vw H' (hid F A')) (vw H' F) := vw_mono (fun b z => .inl z) fun _ _ _ q => q
  unfold retF at po
  have hlv := r.len
  cases q : g (args ++ List.replicate (N.length - args.length) .u) with
  | no => rw [q] at po; exact po.elim
  | ex ρ' c fs =>
    rw [q] at po
    intro σ' C d H' A' g' s' e'
    exact po C d H' s'.kf (by have := s'.vs; rw [hv] at this; exact this.trans up) e'
  | ok pr =>
    obtain ⟨o, ρ'⟩ := pr
    rw [q] at po
    cases o with
    | nx =>
      intro σ' H' A' g' s'
      exact po .non H' s'.kf ⟨by have := s'.vs; rw [hv] at this; exact this.trans up, .non⟩
    | bk => exact po.elim
    | ct => exact po.elim
    | rt rr =>
      cases rr with
      | sh d =>
        intro σ' v H' ⟨A', g', s', p'⟩
        exact po v H' s'.kf ⟨by have := s'.vs; rw [hv] at this; exact this.trans up, p'.mono up⟩
      | ow d =>
        intro σ' v H' ⟨A', a, e, na, g', s', m', o'⟩
        have up2 : Same (vw H' (hid (adj F a) A')) (vw H' (adj F a)) := vw_mono (fun b z => .inl z) fun _ _ _ q => q
        exact po v H' s'.kf ⟨a, e, na, by rw [hv] at m'; exact m'.trans up2, o'.mono rfl up2⟩
      | sd d =>
        intro σ' v H' ⟨A', g', s', a, e, p'⟩
        exact po v H' s'.kf ⟨by have := s'.vs; rw [hv] at this; exact this.trans up, a, e, p'.see up⟩
      | od d =>
        intro σ' v H' ⟨A', a, e, na, g', s', m', o'⟩
        have up2 : Same (vw H' (hid (adj F a) A')) (vw H' (adj F a)) := vw_mono (fun b z => .inl z) fun _ _ _ q => q
        exact po v H' s'.kf ⟨a, e, na, by rw [hv] at m'; exact m'.trans up2, o'.mono rfl up2⟩
      | _ => exact po.elim
theorem fn_okF' {dvs : List V} {kws : List (Str × V)} {m : Nat} {mf : List S → Rs S} (Fd : FunD K x qual (defArgs st) (defBody st) (defScope st) dvs kws f fd) (Sc : FnScope N ps (defScope st)) (hm : m = ps.length) (hf : mf = retF g N.length)
    (hb : ∀ (cdv : Value) (A : Around) (outer : List Env) (s : Shared) (H : Hp) (E : XK), Ct (cxOf (L2.CX P w) P w K mg base N qual (defScope st) f cdv A outer s H E) K mg (fun C d _ H => E C d H) k → PSs (cxOf (L2.CX P w) P w K mg base N qual (defScope st) f cdv A outer s H E) (defBody st) (TSt K mg (fun C d _ H => E C d H) g)) :
    FnOk P w K mg base (L2.CX P w) (k + 1) f fd ps (spF K mg m mf) := by
  subst hm hf
  exact fn_okF Fd Sc hb
theorem good_startC {H : Hp} {F : Addr → Prop} {c : Addr} {x y : Int} {vs : List V} {args : List S} (r : SReps K (vw H (adj F c)) vs args) (N : Nat) (hN : args.length ≤ N) (trk : ∀ b, F b → H b ≠ none) (hc : H c = some (.lst [.int x, .int y])) (nc : ¬ F c) :
    Good K F (some (.ref c) :: (vs.map some ++ List.replicate (N - vs.length) none)) H (.cu x y :: (args ++ List.replicate (N - args.length) .u)) (some c :: List.replicate N none) := by
  have g := good_start r N hN (fun b hb => hb.elim (trk b) fun z => by rw [z, hc]; exact fun q => nomatch q)
  have hv : vw H (hid (adj F c) (List.replicate N none)) = vw H (hid F (some c :: List.replicate N none)) := vw_congr fun b => by
    constructor
    · rintro ((z | z) | z)
      · exact .inl z
      · subst z; exact .inr List.mem_cons_self
      · have := List.eq_of_mem_replicate z; cases this
    · rintro (z | z)
      · exact .inl (.inl z)
      · rcases List.mem_cons.mp z with z | z
        · cases z; exact .inl (.inr rfl)
        · have := List.eq_of_mem_replicate z; cases this
  have no : ∀ (i : Nat) (a : Addr), (List.replicate N (none : Option Addr))[i]? ≠ some (some a) := fun i a e => by have := List.eq_of_mem_replicate (List.mem_of_getElem? e); cases this
  refine ⟨by have := g.l1; simp at this ⊢; omega, by have := g.l2; simp at this ⊢; omega, fun i j a e1 e2 => ?_, fun i a e => ?_, trk, fun i s e => ?_⟩
  · cases i with
    | succ i => exact absurd e1 (by simpa using no i a)
    | zero => cases j with
      | zero => rfl
      | succ j => exact absurd e2 (by simpa using no j a)
  · cases i with
    | succ i => exact absurd e (by simpa using no i a)
    | zero => simp at e; subst e; exact nc
  · cases i with
    | zero => simp at e; subst e; exact ⟨c, rfl, rfl, hc⟩
    | succ i =>
      simp only [List.getElem?_cons_succ] at e ⊢
      rw [← hv]
      exact g.slot i s e
theorem fn_okC {dvs : List V} {kws : List (Str × V)} (Fd : FunD K x qual (defArgs st) (defBody st) (defScope st) dvs kws f fd) (Sc : FnScope N ps (defScope st)) (hp : 0 < ps.length)
    (hb : ∀ (cdv : Value) (A : Around) (outer : List Env) (s : Shared) (H : Hp) (E : XK), Ct (cxOf (L2.CX P w) P w K mg base N qual (defScope st) f cdv A outer s H E) K mg (fun C d _ H => E C d H) k → PSs (cxOf (L2.CX P w) P w K mg base N qual (defScope st) f cdv A outer s H E) (defBody st) (TSt K mg (fun C d _ H => E C d H) g)) :
    FnOk P w K mg base (L2.CX P w) (k + 1) f fd ps (spC K mg (ps.length - 1) (retC g N.length)) := by
  have hpn : ps.length ≤ N.length := by have := congrArg List.length Sc.pre; rw [List.length_take] at this; omega
  refine Fd.ok Sc (fun vs H Q E ⟨F, c, x, y, vs', args, e, _, _, r, hl, _⟩ => by rw [e, List.length_cons, r.len, hl]; omega) fun cdv A outer s H vs Q E hr h => ?_
  obtain ⟨F, c, x, y, vs', args, rfl, nc, hc, r, hl, trk, po⟩ := h
  have hlv := r.len
  have gs := good_startC r (N.length - 1) (by omega) trk hc nc
  have es : L2.start N (.ref c :: vs') = some (.ref c) :: (vs'.map some ++ List.replicate (N.length - 1 - vs'.length) none) := by
    unfold L2.start
    simp only [List.map_cons, List.length_cons, List.cons_append]
    rw [Nat.sub_sub, Nat.add_comm 1]
  refine ⟨_, hb cdv A outer s H E ⟨rfl, rfl, takes_of rfl rfl rfl rfl, rfl, Sc.nd, hr⟩, ?_⟩
  rw [es]
  refine ⟨F, _, _, gs, ?_⟩
  have hv : vw H (hid F (some c :: List.replicate (N.length - 1) none)) = vw H (adj F c) := vw_congr fun b => by
    constructor
    · rintro (z | z)
      · exact .inl z
      · rcases List.mem_cons.mp z with z | z
        · cases z; exact .inr rfl
        · have := List.eq_of_mem_replicate z; cases this
    · rintro (z | z)
      · exact .inl z
      · subst z; exact .inr List.mem_cons_self
  unfold retC at po
  have at0 : ∀ {H' : Hp} {ρ' : List S} {A' : List (Option Addr)} {σ' : St} {G : Addr → Prop} {x' y' : Int}, Good K G σ' H' ρ' A' → Stp F H (.cu x y :: (args ++ List.replicate (N.length - 1 - args.length) .u)) (some c :: List.replicate (N.length - 1) none) H' ρ' A' → ρ'[0]? = some (.cu x' y') → H' c = some (.lst [.int x', .int y']) ∧ some c ∈ A' := fun {H' ρ' A' σ' G x' y'} g' s' e' => by
    obtain ⟨q1, _⟩ := s'.cu 0 x y rfl
    have q2 : A'[0]? = some (some c) := q1
    obtain ⟨a, h1, _, h3⟩ := g'.slot 0 _ e'
    rw [q2] at h1; cases h1
    exact ⟨h3, mem_of_ix q2⟩
  cases q : g (.cu x y :: (args ++ List.replicate (N.length - 1 - args.length) .u)) with
  | no => rw [q] at po; exact po.elim
  | ex ρ' c fs => rw [q] at po; exact po.elim
  | ok pr =>
    obtain ⟨o, ρ'⟩ := pr
    rw [q] at po
    cases o with
    | nx => exact po.elim
    | bk => exact po.elim
    | ct => exact po.elim
    | rt rr =>
      cases rr with
      | sh d =>
        simp only at po
        cases q0 : ρ'[0]? with
        | none => rw [q0] at po; exact po.elim
        | some t0 =>
          rw [q0] at po
          cases t0 with
          | cu x' y' =>
            intro σ' v H' ⟨A', g', s', p'⟩
            obtain ⟨h1, h2⟩ := at0 g' s' q0
            have up : Same (vw H' (hid F A')) (vw H' (adj F c)) := vw_mono (fun b z => z.elim .inl fun z => .inr (by rw [z]; exact h2)) fun _ _ _ q => q
            exact po v H' s'.kf h1 ⟨by have := s'.vs; rw [hv] at this; exact this.trans up, p'.mono up⟩
          | _ => exact po.elim
      | ow d =>
        simp only at po
        cases q0 : ρ'[0]? with
        | none => rw [q0] at po; exact po.elim
        | some t0 =>
          rw [q0] at po
          cases t0 with
          | cu x' y' =>
            intro σ' v H' ⟨A', a, e, na, g', s', m', o'⟩
            obtain ⟨h1, h2⟩ := at0 g' s' q0
            have nac : a ≠ c := fun z => by
              obtain ⟨i, ei⟩ := ix_of_mem h2
              exact g'.dis i c ei (.inr z.symm)
            have up : Same (vw H' (hid (adj F a) A')) (vw H' (adj (adj F c) a)) := vw_mono (fun b z => by
              rcases z with (z | z) | z
              · exact .inl (.inl z)
              · rw [z]; exact .inr h2
              · exact .inl (.inr z)) fun _ _ _ q => q
            exact po v H' s'.kf h1 ⟨a, e, fun z => z.elim na nac, by rw [hv] at m'; exact m'.trans up, o'.mono rfl up⟩
          | _ => exact po.elim
      | _ => exact po.elim
theorem fn_okC' {dvs : List V} {kws : List (Str × V)} {m : Nat} {mc : Int → Int → List S → Rs (S × Int × Int)} (Fd : FunD K x qual (defArgs st) (defBody st) (defScope st) dvs kws f fd) (Sc : FnScope N ps (defScope st)) (hp : 0 < ps.length) (hm : m = ps.length - 1) (hf : mc = retC g N.length)
    (hb : ∀ (cdv : Value) (A : Around) (outer : List Env) (s : Shared) (H : Hp) (E : XK), Ct (cxOf (L2.CX P w) P w K mg base N qual (defScope st) f cdv A outer s H E) K mg (fun C d _ H => E C d H) k → PSs (cxOf (L2.CX P w) P w K mg base N qual (defScope st) f cdv A outer s H E) (defBody st) (TSt K mg (fun C d _ H => E C d H) g)) :
    FnOk P w K mg base (L2.CX P w) (k + 1) f fd ps (spC K mg m mc) := by
  subst hm hf
  exact fn_okC Fd Sc hp hb
end
end Z
end
section
namespace Z
open PySem PySem.Spec L2 HT PyProof.Rows
/-! ### xs[::-1], xs a list or a tuple -/
section
variable {prog : Program} {w : World} {A : Around} {E : Value → Shared → Prop} {s : Shared}
theorem adjust_rev (n : Nat) : Builtin.Slice.sliceAdjust none none (-1) (n : Int) = ((n : Int) - 1, -1) := by
  unfold Builtin.Slice.sliceAdjust
  simp
theorem places_rev (n : Nat) : Builtin.Slice.slicePlaces ((n : Int) - 1) (-1) (-1) = n := by
  unfold Builtin.Slice.slicePlaces
  simp
  split <;> omega
theorem sliceApplied_rev {sl : Addr} {vs : Value} {n : Nat} {Q : Int × Int × Nat → Shared → Prop} (hs : s.heap.IsSliceOf sl .none .none vs) (ps : IsPart vs (some (-1)))
    (h : Q ((n : Int) - 1, -1, n) s) : wpAny (model prog w) A (Builtin.Slice.sliceApplied (.ref sl) (pure (n : Int))) Q E s := by
  obtain ⟨os, hos, hcs, hds⟩ := id hs
  unfold Builtin.Slice.sliceApplied Builtin.Slice.sliceFields
  refine wpAny_bind (wpAny_bind (wpAny_field hos hds (x := .none) rfl (wpAny_bind (wpAny_field hos hds (x := .none) rfl (wpAny_bind (wpAny_field hos hds (x := vs) rfl (wpAny_pure ?_)))))))
  refine wpAny_bind (slicePart_ ps ?_)
  show wpAny _ _ (if ((-1 : Int) == 0) = true then _ else _) _ _ s
  rw [if_neg (by decide)]
  refine wpAny_bind (slicePart_none (wpAny_bind (slicePart_none (wpAny_bind (wpAny_pure ?_)))))
  show wpAny _ _ (match Builtin.Slice.sliceAdjust none none (-1) (n : Int) with | (lo, hi) => pure (lo, (-1 : Int), Builtin.Slice.slicePlaces lo hi (-1))) _ _ s
  rw [adjust_rev n]
  show wpAny _ _ (pure ((n : Int) - 1, (-1 : Int), Builtin.Slice.slicePlaces ((n : Int) - 1) (-1) (-1))) _ _ s
  rw [places_rev]
  exact wpAny_pure h
theorem pick_rev (xs : Array Value) : ((List.range xs.size).filterMap fun (m : Nat) => xs[((xs.size : Int) - 1 + (m : Int) * -1).toNat]?).toArray = xs.toList.reverse.toArray := by
  have e : (List.range xs.size).filterMap (fun (m : Nat) => xs[((xs.size : Int) - 1 + (m : Int) * -1).toNat]?) = ((List.range xs.size).map (fun k => xs.size - 1 - k)).filterMap (xs[·]?) := by
    rw [List.filterMap_map]
    congr 1
    funext m
    have : ((xs.size : Int) - 1 + (m : Int) * -1).toNat = xs.size - 1 - m := by omega
    simp only [Function.comp_apply, this]
  rw [e, PySem.W.krv_range, List.filterMap_reverse, PySem.W.krv_all]
theorem getItem_tuple_rev {t sl : Addr} {items : Array Value} {vs : Value} {Q : Value → Shared → Prop} (ht : IsTup s.heap t items) (hs : s.heap.IsSliceOf sl .none .none vs) (ps : IsPart vs (some (-1)))
    (h : Q (.ref s.heap.objs.size) { s with heap := s.heap.push { cls := .type "tuple", data := .seq items.toList.reverse.toArray } })
    (hsz : items.size ≤ sizeLine) : wpAny (model prog w) A (getItem (.ref t) (.ref sl)) Q E s := by
  have htake : sizeOk (.seq items.toList.reverse.toArray) := by
    show items.toList.reverse.toArray.size ≤ sizeLine
    rw [List.size_toArray, List.length_reverse, Array.length_toList]
    exact hsz
  obtain ⟨os, hos, hcs, hds⟩ := id hs
  have hTs : s.TypeIs (.ref sl) "slice" := ⟨os, hos, hcs⟩
  unfold getItem
  try with_reducible refine wpAny_holding ?_
  first | refine wpAny_bind (wpAny_pure ?_) | skip
  refine wpAny_bind (wpAny_sequenceKey ht.typeIs (by decide) ?_)
  refine wpAny_bind (wpAny_callSpecial?_slot (name := Str.ofString "__getitem__") ht.typeIs PyProof.Rows.slot_tuple_getitem
    (wpAny_call_entry PyProof.Rows.slot_tuple_getitem ht.typeIs entry_tuple_getitem ?_ (args_tuple_getitem _ _)))
  show wpAny _ _ (Builtin.Tuple.tupleItemsOf (.ref t) >>= _) _ _ s
  refine wpAny_bind (tupleItemsOf_ ht ?_)
  refine wpAny_bind (wpAny_typeOf hTs ?_)
  rw [if_pos (by decide)]
  refine wpAny_bind (sliceApplied_rev hs ps ?_)
  have hno : ¬ ((((items.size : Int) - 1) == 0 && (-1 : Int) == 1 && items.size == items.size) = true) := by simp
  show wpAny _ _ (if (((items.size : Int) - 1) == 0 && (-1 : Int) == 1 && items.size == items.size) = true then _ else _) _ _ s
  rw [if_neg hno, pick_rev]
  first
    | exact wpAny_bind (m := Builtin.Tuple.tupleExact _) (wpAny_newObj_type (wpAny_pure ⟨_, rfl, wpAny_pure h⟩) htake)
    | exact wpAny_bind (m := Builtin.Tuple.tupleExact _) (wpAny_newObj_type (wpAny_bind (wpAny_pure (wpAny_pure ⟨_, rfl, wpAny_pure h⟩))) htake)
    | exact wpAny_bind (wpAny_bind (m := Builtin.Tuple.tupleExact _) (wpAny_newObj_type (wpAny_pure (wpAny_pure ⟨_, rfl, wpAny_pure h⟩)) htake))
    | exact wpAny_bind (wpAny_bind (m := Builtin.Tuple.tupleExact _) (wpAny_newObj_type (wpAny_pure ⟨_, rfl, wpAny_pure h⟩) htake))
end
section
variable {X : Cx}
def tRevA (K : PySem.W.Frag) (te : TE) : TE := fun σ H Q => te σ H fun x H1 => ∃ a xs, x = .ref a ∧ ((SqL K H1 a xs ∧ ∀ p, H1 p = none → Q (.ref p) (upd H1 p (.lst xs.reverse))) ∨ (SqT K H1 a xs ∧ ∀ p, H1 p = none → Q (.ref p) (upd H1 p (.tup xs.reverse))))
theorem pe_revA {e : Expr} {te : TE} {k : Nat} {p1 p2 p3 pos : Pos} (he : PE X e te) : PE X (.Subscript e (.Slice none none (some (.UnaryOp .USub (.Constant (.int 1) k p1) p2)) p3) pos) (tRevA X.K te) := by
  refine ⟨fun pins s σ H Q I h => ?_⟩
  refine Subscript_ (thn (he.run pins s σ H _ I h) fun v s1 ⟨x, H1, I1, r1, q1⟩ => ?_)
  obtain ⟨a, xs, ex, q⟩ := q1
  subst ex
  cases r1
  have hst : PO X (some (.UnaryOp .USub (.Constant (.int 1) k p1) p2)) (tPart (tUn (rU fun i => .int (-i)) (tC (.int 1)))) := po_some (pe_un un_neg pe_int)
  refine wpAny_Slice (thn (po_none.run pins s1 σ H1 (fun o H2 => o = none ∧ H2 = H1) I1 ⟨rfl, rfl⟩) fun vl s2 ⟨l, H2, I2, pl, el, e2⟩ => ?_)
  subst el e2
  refine thn (po_none.run pins s2 σ H2 (fun o H3 => o = none ∧ H3 = H2) I2 ⟨rfl, rfl⟩) fun vu s3 ⟨u, H3, I3, pu, eu, e3⟩ => ?_
  subst eu e3
  refine thn (hst.run pins s3 σ H3 (fun o H4 => o = some (-1) ∧ H4 = H3) I3 ⟨1, rfl, -1, rfl, rfl, rfl⟩) fun vs s4 ⟨o, H4, I4, ps, eo, e4⟩ => ?_
  subst eo e4
  have I5 : Inv X pins σ H4 { s4 with heap := s4.heap.push { cls := .type "slice", data := .fields #[vl, vu, vs] } } := I4.kept (t' := s4.toks) fun b ob q => Heap.get?_push_of_some _ q
  show wpAny (model X.prog X.w) X.A (subscriptTail e (.Slice none none (some (.UnaryOp .USub (.Constant (.int 1) k p1) p2)) p3) (.ref a) (.ref s4.heap.objs.size)) (EP X pins σ Q) X.xe { s4 with heap := s4.heap.push { cls := .type "slice", data := .fields #[vl, vu, vs] } }
  rcases q with ⟨hx, q⟩ | ⟨hx, q⟩
  · obtain ⟨its, r, ht, hz⟩ := I5.list hx
    have hlen := r.length
    refine tail_any (ops := [.ref a, .ref s4.heap.objs.size]) ht.isList.typeIs (PySem.slot_list_getitem.lookup) ?_ (by with_unfolding_all rfl)
    refine wpAny_getItem_list_slice ht.isList (Heap.IsSliceOf.new _ vl vu vs) pl pu ps (by decide) ?_ (by rw [List.size_toArray]; omega)
    rw [PySem.W.krv_pick]
    refine ⟨.ref _, _, I5.laid (t' := s4.toks) (o := .lst xs.reverse) (fun b ob q => Heap.get?_push_of_some _ q) (Nat.le_refl _) ?_, rfl, q _ (I5.hok.fresh (Nat.le_refl _))⟩
    exact ⟨by rw [List.length_reverse]; exact hz, _, 0, r.reverse, Heap.get?_push_size _ rfl⟩
  · obtain ⟨its, r, ht, hz⟩ := I5.tuple hx
    have hlen := r.length
    cases pl
    cases pu
    refine tail_any (ops := [.ref a, .ref s4.heap.objs.size]) ht.typeIs (PyProof.Rows.slot_tuple_getitem.lookup) ?_ (by with_unfolding_all rfl)
    refine getItem_tuple_rev ht (Heap.IsSliceOf.new _ .none .none vs) ps ?_ (by rw [List.size_toArray]; omega)
    refine ⟨.ref _, _, I5.laid (t' := s4.toks) (o := .tup xs.reverse) (fun b ob q => Heap.get?_push_of_some _ q) (Nat.le_refl _) ?_, rfl, q _ (I5.hok.fresh (Nat.le_refl _))⟩
    exact ⟨by rw [List.length_reverse]; exact hz, its.reverse, r.reverse, IsTup.new _ _⟩
end
end Z
end
section
namespace Z
open PySem PySem.Spec L2
section
variable {X : Cx} {K : PySem.W.Frag} {mg : Str → Option Value} {W : WX} {n : Nat} {pos apos cpos : Pos} {e a b : Expr} {f : EF} {fa fb : OF} {fA : AF}
/-! ### xs[::-1] -/
def gRev : D → Option S
  | .list ds => some (.ow (.list ds.reverse))
  | .tuple ds => some (.sh (.tuple ds.reverse))
  | _ => none
def fRev (fa : OF) : EF := fun ρ => fa ρ >>= fun p => Rs.of (look p.1 p.2) >>= fun d => Rs.of (gRev d) >>= fun r => .ok (r, p.2)
theorem ev_rev {k : Nat} {p1 p2 p3 : Pos} (ct : Ct X K mg W n) (h : PE X e (TO' K mg W fa)) : PE X (.Subscript e (.Slice none none (some (.UnaryOp .USub (.Constant (.int 1) k p1) p2)) p3) pos) (TF K mg W (fRev fa)) := by
  obtain ⟨rfl, rfl, _, _, _, _⟩ := ct
  refine pe_imp (pe_revA h) fun σ H Q ⟨F, ρ, A, gd, po⟩ => ?_
  refine seqO gd (po := fun o => PoE X.K X.mg W F σ H ρ A o Q) poE_no (poE_exS Stp.refl) po fun h1 ρ1 v1 H1 A1 g1 s1 r1 po => ?_
  obtain ⟨d, e1, po⟩ := seqOpt (po := fun o => PoE X.K X.mg W F σ H ρ A o Q) poE_no po
  obtain ⟨r, e2, po⟩ := seqOpt (po := fun o => PoE X.K X.mg W F σ H ρ A o Q) poE_no po
  have hd := look_ok g1 r1 e1
  cases d with
  | list ds =>
    cases e2
    obtain ⟨p, vs, rfl, q1, q2⟩ := hd.list
    exact ⟨p, vs, rfl, .inl ⟨.of q1, fun a ha => po _ _ ((Fin.newL g1 ha q2.rev).trans s1)⟩⟩
  | tuple ds =>
    cases e2
    obtain ⟨p, vs, rfl, q1, q0, q2⟩ := hd.tuple
    exact ⟨p, vs, rfl, .inr ⟨.of q1, fun a ha => po _ _ ((Fin.newT g1 ha q2.rev).trans s1)⟩⟩
  | _ => cases e2
/-! ### list(range(a, b)), tuple(range(a, b)) -/
def gRg (tup : Bool) (i j : Int) : Option S := if i.natAbs < 4611686018427387904 ∧ j.natAbs < 4611686018427387904 ∧ (j - i).toNat ≤ 16777216 then some (if tup then .sh (.tuple (rangeD i 1 (j - i).toNat)) else .ow (.list (rangeD i 1 (j - i).toNat))) else none
def gRgD (tup : Bool) : D → D → Option S
  | .int i, .int j => gRg tup i j
  | _, _ => none
def fRg1 (tup : Bool) (fa : OF) : EF := fun ρ => fa ρ >>= fun p => Rs.of (look p.1 p.2) >>= fun d => Rs.of (gRgD tup (.int 0) d) >>= fun r => .ok (r, p.2)
def fRg2 (tup : Bool) (fa fb : OF) : EF := fun ρ => fa ρ >>= fun p => fb p.2 >>= fun q => Rs.of (look p.1 q.2) >>= fun d => Rs.of (look q.1 q.2) >>= fun d2 => Rs.of (gRgD tup d d2) >>= fun r => .ok (r, q.2)
theorem rg_rp (H : Hp) (i j : Int) : RpL K H (rgV i j) (rangeD i 1 (j - i).toNat) := by
  unfold rgV rangeD
  generalize (j - i).toNat = m
  generalize List.range m = l
  induction l with
  | nil => exact .nil
  | cons a r ih =>
    rw [List.map_cons, List.map_cons, Int.mul_one]
    exact .cons (.int _) ih
theorem rg_ok {tup : Bool} {i j : Int} {r : S} (e : gRg tup i j = some r) : RgOk i j ∧ r = (if tup then .sh (.tuple (rangeD i 1 (j - i).toNat)) else .ow (.list (rangeD i 1 (j - i).toNat))) := by
  unfold gRg at e
  split at e
  · rename_i h
    cases e
    exact ⟨⟨by omega, by omega, by omega, by omega, by omega⟩, rfl⟩
  · cases e
theorem prg1_of (ct : Ct X K mg W n) {p : Pos} (hg : Gl X "range") (hm : mg "range" = none) (ha : PE X a (TO' K mg W fa)) (na : starEach [a] X.env = (false, eval a X.env) :: starEach [] X.env := by rfl) : PRg X (.Call (.Name "range" p) [a] [] pos) (tRg1 (TO' K mg W fa)) := by
  obtain ⟨rfl, rfl, _, _, _, _⟩ := ct
  exact prg_1 hg hm ha na
theorem ev_listRg1 {p p2 : Pos} {q : Pos} (ct : Ct X K mg W n) (hgl : Gl X "list") (hml : mg "list" = none) (hg : Gl X "range") (hm : mg "range" = none) (ha : PE X a (TO' K mg W fa)) (na : starEach [a] X.env = (false, eval a X.env) :: starEach [] X.env := by rfl)
    (nb : starEach [Expr.Call (.Name "range" p) [a] [] q] X.env = (false, eval (Expr.Call (.Name "range" p) [a] [] q) X.env) :: starEach [] X.env := by rfl) : PE X (.Call (.Name "list" p2) [.Call (.Name "range" p) [a] [] q] [] pos) (TF K mg W (fRg1 false fa)) := by
  obtain ⟨rfl, rfl, _, _, _, _⟩ := id ct
  refine pe_imp (pe_listRg ct.calm hgl hml (prg1_of ct hg hm ha na) nb) fun σ H Q ⟨F, ρ, A, gd, po⟩ => ?_
  refine seqO gd (po := fun o => PoE X.K X.mg W F σ H ρ A o Q) poE_no (poE_exS Stp.refl) po fun h1 ρ1 v1 H1 A1 g1 s1 r1 po => ?_
  obtain ⟨d, e1, po⟩ := seqOpt (po := fun o => PoE X.K X.mg W F σ H ρ A o Q) poE_no po
  obtain ⟨r, e2, po⟩ := seqOpt (po := fun o => PoE X.K X.mg W F σ H ρ A o Q) poE_no po
  have hd := look_ok g1 r1 e1
  cases d with
  | int j =>
    obtain ⟨ok, rfl⟩ := rg_ok e2
    exact ⟨j, hd.int, ok, fun q hq => po _ _ ((Fin.newL g1 hq (rg_rp _ 0 j)).trans s1)⟩
  | _ => cases e2
theorem ev_tupRg1 {p p2 : Pos} {q : Pos} (ct : Ct X K mg W n) (hgl : Gl X "tuple") (hml : mg "tuple" = none) (hg : Gl X "range") (hm : mg "range" = none) (ha : PE X a (TO' K mg W fa)) (na : starEach [a] X.env = (false, eval a X.env) :: starEach [] X.env := by rfl)
    (nb : starEach [Expr.Call (.Name "range" p) [a] [] q] X.env = (false, eval (Expr.Call (.Name "range" p) [a] [] q) X.env) :: starEach [] X.env := by rfl) : PE X (.Call (.Name "tuple" p2) [.Call (.Name "range" p) [a] [] q] [] pos) (TF K mg W (fRg1 true fa)) := by
  obtain ⟨rfl, rfl, _, _, _, _⟩ := id ct
  refine pe_imp (pe_tupRg ct.calm hgl hml (prg1_of ct hg hm ha na) nb) fun σ H Q ⟨F, ρ, A, gd, po⟩ => ?_
  refine seqO gd (po := fun o => PoE X.K X.mg W F σ H ρ A o Q) poE_no (poE_exS Stp.refl) po fun h1 ρ1 v1 H1 A1 g1 s1 r1 po => ?_
  obtain ⟨d, e1, po⟩ := seqOpt (po := fun o => PoE X.K X.mg W F σ H ρ A o Q) poE_no po
  obtain ⟨r, e2, po⟩ := seqOpt (po := fun o => PoE X.K X.mg W F σ H ρ A o Q) poE_no po
  have hd := look_ok g1 r1 e1
  cases d with
  | int j =>
    obtain ⟨ok, rfl⟩ := rg_ok e2
    exact ⟨j, hd.int, ok, fun q hq => po _ _ ((Fin.newT g1 hq (rg_rp _ 0 j)).trans s1)⟩
  | _ => cases e2
theorem rg2_sem {tup : Bool} {σ : St} {H : Hp} {Q : VK} (h : TF K mg W (fRg2 tup fa fb) σ H Q) : tRg2 (TO' K mg W fa) (TO' K mg W fb) σ H fun i j H2 => RgOk i j ∧ ∀ q, H2 q = none → Q (.ref q) (upd H2 q (if tup then .tup (rgV i j) else .lst (rgV i j))) := by
  obtain ⟨F, ρ, A, gd, po⟩ := h
  refine seqO gd (po := fun o => PoE K mg W F σ H ρ A o Q) poE_no (poE_exS Stp.refl) po fun h1 ρ1 v1 H1 A1 g1 s1 r1 po => ?_
  refine seqO g1 (po := fun o => PoE K mg W F σ H ρ A o Q) poE_no (poE_exS s1) po fun h2 ρ2 v2 H2 A2 g2 s2 r2 po => ?_
  obtain ⟨d, e1, po⟩ := seqOpt (po := fun o => PoE K mg W F σ H ρ A o Q) poE_no po
  obtain ⟨d2, e2, po⟩ := seqOpt (po := fun o => PoE K mg W F σ H ρ A o Q) poE_no po
  obtain ⟨r, e3, po⟩ := seqOpt (po := fun o => PoE K mg W F σ H ρ A o Q) poE_no po
  have hd := look_ok g2 (r1.mono s2.vs) e1
  have hd2 := look_ok g2 r2 e2
  cases d with
  | int i =>
    cases d2 with
    | int j =>
      obtain ⟨ok, rfl⟩ := rg_ok e3
      refine ⟨i, j, hd.int, hd2.int, ok, fun q hq => ?_⟩
      cases tup with
      | true => exact po _ _ ((Fin.newT g2 hq (rg_rp _ i j)).trans (s1.trans s2))
      | false => exact po _ _ ((Fin.newL g2 hq (rg_rp _ i j)).trans (s1.trans s2))
    | _ => cases e3
  | _ => cases e3
theorem ev_listRg2 {p p2 : Pos} {q : Pos} (ct : Ct X K mg W n) (hgl : Gl X "list") (hml : mg "list" = none) (hg : Gl X "range") (hm : mg "range" = none) (ha : PE X a (TO' K mg W fa)) (hb : PE X b (TO' K mg W fb)) (na : starEach [a, b] X.env = (false, eval a X.env) :: starEach [b] X.env := by rfl) (na2 : starEach [b] X.env = (false, eval b X.env) :: starEach [] X.env := by rfl) (hp : (backTo q (starEach [b] X.env)).any (·.1) = false := by rfl)
    (nb : starEach [Expr.Call (.Name "range" p) [a, b] [] q] X.env = (false, eval (Expr.Call (.Name "range" p) [a, b] [] q) X.env) :: starEach [] X.env := by rfl) : PE X (.Call (.Name "list" p2) [.Call (.Name "range" p) [a, b] [] q] [] pos) (TF K mg W (fRg2 false fa fb)) := by
  obtain ⟨rfl, rfl, _, _, _, _⟩ := id ct
  exact pe_imp (pe_listRg ct.calm hgl hml (prg_2 hg hm ha hb na na2 hp) nb) fun σ H Q h => rg2_sem h
theorem ev_tupRg2 {p p2 : Pos} {q : Pos} (ct : Ct X K mg W n) (hgl : Gl X "tuple") (hml : mg "tuple" = none) (hg : Gl X "range") (hm : mg "range" = none) (ha : PE X a (TO' K mg W fa)) (hb : PE X b (TO' K mg W fb)) (na : starEach [a, b] X.env = (false, eval a X.env) :: starEach [b] X.env := by rfl) (na2 : starEach [b] X.env = (false, eval b X.env) :: starEach [] X.env := by rfl) (hp : (backTo q (starEach [b] X.env)).any (·.1) = false := by rfl)
    (nb : starEach [Expr.Call (.Name "range" p) [a, b] [] q] X.env = (false, eval (Expr.Call (.Name "range" p) [a, b] [] q) X.env) :: starEach [] X.env := by rfl) : PE X (.Call (.Name "tuple" p2) [.Call (.Name "range" p) [a, b] [] q] [] pos) (TF K mg W (fRg2 true fa fb)) := by
  obtain ⟨rfl, rfl, _, _, _, _⟩ := id ct
  exact pe_imp (pe_tupRg ct.calm hgl hml (prg_2 hg hm ha hb na na2 hp) nb) fun σ H Q h => rg2_sem h
/-! ### x += ys, x one's own list -/
def extS (i : Nat) (es : List D) (ρ : List S) : Rs (Out × List S) := match ρ[i]? with
  | some (.ow (.list ds)) => if ds.length + es.length ≤ 16777216 then .ok (.nx, ρ.set i (.ow (.list (ds ++ es)))) else .no
  | _ => .no
def sAugL (i : Nat) (f : EF) : SF := fun ρ => match ρ[i]? with
  | some (.ow (.list _)) => f ρ >>= fun p => match p.1 with
    | .sh (.list es) => extS i es p.2
    | .ow (.list es) => extS i es p.2
    | _ => .no
  | _ => .no
theorem st_augL {x : Str} {p : Pos} (i : Nat) (ct : Ct X K mg W n) (he : PE X e (TF K mg W f)) (hi : X.N[i]? = some x := by rfl) (hx : Loc X.env.scope x := by first | exact .inl rfl | exact .inr rfl) (hf : X.fn x = true ∨ X.env.scope.names.lookup x = some .local := by first | exact .inl rfl | exact .inr rfl) : PS X (.AugAssign (.Name x p) .Add e pos) (TSt K mg W (sAugL i f)) := by
  refine ps_imp (ps_aug ct.nd hi hx he iop_ext hf) fun D' σ H ⟨F, ρ, A, gd, po⟩ => ?_
  have sl := sizeLine_eq
  unfold sAugL at po
  cases q : ρ[i]? with
  | none => rw [q] at po; exact po.elim
  | some s =>
    rw [q] at po
    cases s with
    | ow d0 =>
      cases d0 with
      | list ds0 =>
        obtain ⟨a, ha, e1, vs0, hH, _⟩ := gd.slot i _ q
        refine ⟨.ref a, e1, ?_⟩
        refine seqES gd po fun r ρ1 v H1 f1 po => ?_
        have key : ∀ es, Fin K F σ H ρ A (.sh (.list es)) ρ1 v H1 → PoS K mg W F σ H ρ A (extS i es ρ1) D' → rExt2 (.ref a) v H1 fun z H2 => D'.nx (σ.set i (some z)) H2 := by
          intro es ⟨A1, g1, s1, p1⟩ po
          unfold extS at po
          cases q1 : ρ1[i]? with
          | none => rw [q1] at po; exact po.elim
          | some s' =>
            rw [q1] at po
            cases s' with
            | ow d1 =>
              cases d1 with
              | list ds =>
                simp only at po
                split at po
                · rename_i hlen
                  obtain ⟨a', ha', e1', vs, hH1, r1⟩ := g1.slot i _ q1
                  rw [e1] at e1'; cases e1'
                  have hl := r1.len
                  cases p1 with
                  | lst hb rb =>
                    rename_i b zs
                    have hl2 := rb.len
                    have es' : σ.set i (some (.ref a)) = σ := by
                      refine List.ext_getElem? fun j => ?_
                      rw [List.getElem?_set]
                      split
                      · rename_i hj; subst hj
                        split
                        · exact e1.symm
                        · rename_i hh; rw [List.getElem?_eq_none (by omega)] at e1; cases e1
                      · rfl
                    refine ⟨a, b, vs, zs, rfl, rfl, hH1, vw_same _ _ _ _ hb, by omega, ?_⟩
                    show D'.nx (σ.set i (some (.ref a))) _
                    rw [es']
                    exact po _ _ _ (g1.write ha' e1 ⟨vs ++ zs, upd_same, r1.app rb⟩) (s1.trans (Stp.write g1 ha' (fun x y z => by rw [q1] at z; cases z)))
                · exact po.elim
              | _ => exact po.elim
            | _ => exact po.elim
        cases r with
        | sh d =>
          cases d with
          | list es => exact key es f1 po
          | _ => exact po.elim
        | ow d =>
          cases d with
          | list es => exact key es f1.weak po
          | _ => exact po.elim
        | _ => exact po.elim
      | _ => exact po.elim
    | _ => exact po.elim
end
end Z
end
section
namespace Z
open PySem PySem.Spec L2 PyProof.Rows PySem.W
/-! ### sorted(xs), xs a list of data that can be compared -/
def rSortedD (K : PySem.W.Frag) : List V → Hp → VK → Prop := fun vs H Q => ∃ (a : Addr) (ps : List (V × PyData)), vs = [V.ref a] ∧ SqL K H a (ps.map (·.1)) ∧ (∀ p ∈ ps, Dp K H p.1 p.2) ∧ AllAlike (ps.map (·.2)) ∧ Sortable (ps.map (·.2)) ∧ (∀ p ∈ ps, p.2.depth ≤ 60) ∧
  ∀ q, H q = none → Q (.ref q) (upd H q (.lst ((ps.mergeSort (dataLe false (·.2))).map (·.1))))
theorem each_rel : ∀ {us : List Value} (ps : List (V × PyData)), Vals (ps.map (·.1)) us → EachIs (fun v p => RelV p.1 v) us ps
  | _, [], r => by cases r; exact .nil
  | _, p :: ps, r => by
    cases r with
    | cons r1 r2 => exact .cons r1 (each_rel ps r2)
theorem rel_each : ∀ {us : List Value} {ps : List (V × PyData)}, EachIs (fun v p => RelV p.1 v) us ps → Vals (ps.map (·.1)) us
  | _, _, .nil => .nil
  | _, _, .cons r1 r2 => .cons r1 (rel_each r2)
theorem each_impM {α β : Type} {R S : α → β → Prop} : ∀ {us : List α} {ps : List β}, EachIs R us ps → (∀ u p, p ∈ ps → R u p → S u p) → EachIs S us ps
  | _, _, .nil, _ => .nil
  | _, _, .cons r1 r2, h => .cons (h _ _ List.mem_cons_self r1) (each_impM r2 fun u p hp => h u p (List.mem_cons_of_mem _ hp))
theorem cr_sortedD {X : Cx} (hu : X.A.units + 64 < cLine) : CallR X (.builtin "sorted") (rSortedD X.K) := by
  intro pins s σ H vs us Q I r h
  obtain ⟨a, ps, rfl, hs, hd, hal, hk, hdep, q⟩ := h
  obtain ⟨its, rv, hl, hz⟩ := I.list hs
  rw [Vals.ref1 r]
  have e1 := each_rel ps rv
  have er : EachIs (fun v (p : V × PyData) => ∃ as, Reads s.heap v p.2 as) its ps := each_impM e1 fun v p hp rr => Dp.reads I p.2 p.1 v (hd p hp) rr
  rw [List.length_map] at hz
  refine sorted_data (R := fun v (p : V × PyData) => RelV p.1 v) (enc := (·.2)) hl.isList e1 er hal hk hz (fun p hp => by have := hdep p hp; omega) fun out ho eo => ?_
  obtain ⟨ep, he'⟩ := PyProof.Rows.sortedAll_at s.heap its out.toArray
  have hlen : ((ps.mergeSort (dataLe false (·.2))).map (·.1)).length ≤ sizeLine := by
    rw [List.length_map, List.length_mergeSort]; exact hz
  exact ⟨.ref _, upd H (s.heap.objs.size + 1) (.lst ((ps.mergeSort (dataLe false (·.2))).map (·.1))), I.laid (t' := s.toks) (fun _ _ => PyProof.Rows.sortedAll_old) (Nat.le_succ _) ⟨hlen, out, ep, rel_each eo, he'⟩, rfl, q _ (I.hok.fresh (Nat.le_succ _))⟩
end Z
end
section
namespace Z
open PySem PySem.Spec L2 PySem.W
/-! ### sorted(xs), xs a list -/
def isTupC : D → Bool
  | .tuple (_ :: _) => true
  | _ => false
def isOth : D → Bool
  | .none => false
  | .tuple _ => false
  | _ => true
def sortOk (ds : List D) : Bool := (ds.all fun d => ds.all fun e => alike d e) && (ds.all isTupC || ds.all isOth) && decide (PyData.depthAll ds ≤ 60)
def sortD (ds : List D) : List D := ds.mergeSort (dataLe false id)
def gSorted : List D → Option S
  | [.list ds] => if sortOk ds = true then some (.ow (.list (sortD ds))) else none
  | _ => none
theorem depth_mem : ∀ {ds : List D} {d : D}, d ∈ ds → PyData.depth d ≤ PyData.depthAll ds
  | e :: r, d, hm => by
    simp only [PyData.depthAll]
    rcases List.mem_cons.mp hm with rfl | hm
    · omega
    · have := depth_mem hm; omega
theorem sort_all {ds : List D} (h : sortOk ds = true) : AllAlike ds ∧ PySem.W.Sortable ds ∧ ∀ d ∈ ds, d.depth ≤ 60 := by
  unfold sortOk at h
  rw [Bool.and_eq_true, Bool.and_eq_true, Bool.or_eq_true] at h
  obtain ⟨⟨h1, h2⟩, h3⟩ := h
  have h3 := of_decide_eq_true h3
  refine ⟨fun d hd e he => List.all_eq_true.mp (List.all_eq_true.mp h1 d hd) e he, ?_, fun d hd => Nat.le_trans (depth_mem hd) h3⟩
  rcases h2 with h2 | h2
  · refine .inl fun d hd => ?_
    have := List.all_eq_true.mp h2 d hd
    unfold isTupC at this
    split at this
    · exact ⟨_, _, rfl⟩
    · cases this
  · refine .inr fun d hd => ?_
    have := List.all_eq_true.mp h2 d hd
    cases d <;> first | (cases this; done) | exact ⟨fun z => (by cases z), fun xs z => (by cases z)⟩
section
variable {K : PySem.W.Frag} {H : Hp}
theorem RpL.zips : ∀ {vs : List V} {ds : List D}, RpL K H vs ds → ∃ ps : List (V × D), ps.map (·.1) = vs ∧ ps.map (·.2) = ds ∧ ∀ p ∈ ps, Rp K H p.1 p.2
  | _, _, .nil => ⟨[], rfl, rfl, fun p z => by cases z⟩
  | _, _, .cons (v := v) (d := d) r1 r2 => by
    obtain ⟨ps, e1, e2, h⟩ := RpL.zips r2
    exact ⟨(v, d) :: ps, by simp [e1], by simp [e2], fun p hp => by
      rcases List.mem_cons.mp hp with rfl | hp
      · exact r1
      · exact h p hp⟩
theorem RpL.unzips : ∀ (ps : List (V × D)), (∀ p ∈ ps, Rp K H p.1 p.2) → RpL K H (ps.map (·.1)) (ps.map (·.2))
  | [], _ => .nil
  | p :: ps, h => .cons (h p List.mem_cons_self) (RpL.unzips ps fun q hq => h q (List.mem_cons_of_mem _ hq))
theorem ok_sorted : CallOk K (rSortedD K) gSorted := by
  intro F σ H ρ A xs ds res g hp e Q q
  match ds, e with
  | [.list ds], e =>
    simp only [gSorted] at e
    split at e
    · rename_i hc
      cases e
      obtain ⟨x, rfl, h⟩ := paired1 hp
      obtain ⟨p, vs, rfl, e1, r1⟩ := h.list
      obtain ⟨ps, rfl, rfl, hr⟩ := RpL.zips r1
      obtain ⟨a1, a2, a3⟩ := sort_all hc
      refine ⟨p, ps, rfl, .of e1, fun y hy => (Rp.dp ((hr y hy).mono (vw_same _ _))), a1, a2, fun y hy => a3 _ (List.mem_map.mpr ⟨y, hy, rfl⟩), fun n hn => ?_⟩
      have hm : (ps.mergeSort (dataLe false (·.2))).map (·.2) = sortD (ps.map (·.2)) := List.map_mergeSort fun a _ b _ => rfl
      rw [← hm] at q
      exact q _ _ (.newL g hn (RpL.unzips _ fun y hy => hr y ((List.mergeSort_perm _ _).mem_iff.mp hy)))
    · cases e
  | [.none], e => cases e
  | [.bool _], e => cases e
  | [.int _], e => cases e
  | [.str _], e => cases e
  | [.tuple _], e => cases e
  | [.dict _], e => cases e
  | [], e => cases e
  | _ :: _ :: _, e => simp [gSorted] at e
end
end Z
end
section
namespace Z
open PySem PySem.Spec L2
/-- a function that the kernel does not open -/
noncomputable def hide {α : Type} (a : α) : α := Classical.choose (⟨a, rfl⟩ : ∃ b, b = a)
theorem hide_eq {α : Type} (a : α) : hide a = a := Classical.choose_spec (⟨a, rfl⟩ : ∃ b, b = a)
/-! ### what no one reads any more is forgotten -/
def cuS : S → Bool
  | .cu _ _ => true
  | _ => false
def kill1 (v : Nat) (ρ : List S) : List S := match ρ[v]? with
  | some s => if cuS s = true then ρ else ρ.set v .u
  | none => ρ
def killS : List Nat → List S → List S
  | [], ρ => ρ
  | v :: vs, ρ => killS vs (kill1 v ρ)
/-- a statement behind which the slots vs are forgotten -/
def kl (vs : List Nat) (g : SF) : SF := fun ρ => g ρ >>= fun p => match p.1 with
  | .rt r => .ok (.rt r, p.2)
  | o => .ok (o, killS vs p.2)
section
variable {K : PySem.W.Frag} {mg : Str → Option Value} {W : WX} {F : Addr → Prop} {σ : St} {H H' : Hp} {ρ ρ0 : List S} {A A0 : List (Option Addr)}
theorem Good.kill1 {v : Nat} (g : Good K F σ H ρ A) (s : Stp F H' ρ0 A0 H ρ A) : ∃ A', Good K F σ H (kill1 v ρ) A' ∧ Stp F H' ρ0 A0 H (kill1 v ρ) A' := by
  unfold Z.kill1
  cases q : ρ[v]? with
  | none => exact ⟨A, g, s⟩
  | some t =>
    dsimp only
    by_cases hc : cuS t = true
    · rw [if_pos hc]; exact ⟨A, g, s⟩
    · rw [if_neg hc]
      have hi : v < ρ.length := lt_of_ix q
      have hA : v < A.length := by rw [g.l2]; exact hi
      refine ⟨A.set v none, ⟨by simp [g.l1], by simp [g.l2], fun i j a e1 e2 => ?_, fun i a e => ?_, g.trk, fun i u e => ?_⟩, ?_⟩
      · by_cases h1 : v = i
        · subst h1; rw [List.getElem?_set_self hA] at e1; cases e1
        · by_cases h2 : v = j
          · subst h2; rw [List.getElem?_set_self hA] at e2; cases e2
          · rw [List.getElem?_set_ne h1] at e1
            rw [List.getElem?_set_ne h2] at e2
            exact g.inj i j a e1 e2
      · by_cases h1 : v = i
        · subst h1; rw [List.getElem?_set_self hA] at e; cases e
        · rw [List.getElem?_set_ne h1] at e
          exact g.dis i a e
      · by_cases h1 : v = i
        · subst h1
          rw [List.getElem?_set_self hi] at e
          cases e
          rw [List.getElem?_set_self hA]
          exact rfl
        · rw [List.getElem?_set_ne h1] at e
          rw [List.getElem?_set_ne h1]
          exact (g.slot i u e).mono (fun _ _ => rfl) view_setNone
      · refine s.trans ⟨fun _ _ => rfl, view_setNone, fun i x y e => ?_⟩
        have h1 : v ≠ i := fun z => by
          subst z
          rw [q] at e
          cases e
          exact hc rfl
        rw [List.getElem?_set_ne h1, List.getElem?_set_ne h1]
        exact ⟨rfl, x, y, e⟩
theorem Good.kill : ∀ (vs : List Nat) {ρ : List S} {A : List (Option Addr)}, Good K F σ H ρ A → Stp F H' ρ0 A0 H ρ A → ∃ A', Good K F σ H (killS vs ρ) A' ∧ Stp F H' ρ0 A0 H (killS vs ρ) A'
  | [], _, A, g, s => ⟨A, g, s⟩
  | v :: vs, _, _, g, s => by
    obtain ⟨A1, g1, s1⟩ := g.kill1 (v := v) s
    exact Good.kill vs g1 s1
variable {X : Cx} {g : SF}
theorem kl_r (vs : List Nat) : ∀ D' σ H, TSt K mg W (kl vs g) D' σ H → TSt K mg W g D' σ H := by
  intro D' σ H ⟨F, ρ, A, gd, po⟩
  refine ⟨F, ρ, A, gd, ?_⟩
  unfold kl at po
  cases q : g ρ with
  | no => rw [q] at po; exact po.elim
  | ex ρ' c fs => rw [q] at po; exact po
  | ok p =>
    obtain ⟨o, ρ1⟩ := p
    rw [q] at po
    cases o with
    | rt r => exact po
    | nx =>
      intro σ' H1 A1 g1 s1
      obtain ⟨A2, g2, s2⟩ := Good.kill vs g1 s1
      exact po σ' H1 A2 g2 s2
    | bk =>
      intro σ' H1 A1 g1 s1
      obtain ⟨A2, g2, s2⟩ := Good.kill vs g1 s1
      exact po σ' H1 A2 g2 s2
    | ct =>
      intro σ' H1 A1 g1 s1
      obtain ⟨A2, g2, s2⟩ := Good.kill vs g1 s1
      exact po σ' H1 A2 g2 s2
theorem st_kl (vs : List Nat) {st : Stmt} (h : PS X st (TSt K mg W g)) : PS X st (TSt K mg W (kl vs g)) := ps_imp h (kl_r vs)
theorem st_kls (vs : List Nat) {st : List Stmt} (h : PSs X st (TSt K mg W g)) : PSs X st (TSt K mg W (kl vs g)) := pss_imp h (kl_r vs)
end
end Z
end
section
namespace SY
open PySem PySem.Spec PyProof.Rows L2
/-! ### the round of i -> 5 i + 1 below a power of two -/
def pw2 (n : Nat) : Prop := ∃ k, n + 1 = 2 ^ k ∧ 3 ≤ k
def ser (i : Nat) : Nat → Nat
  | 0 => i
  | n + 1 => ser i n * 5 + 1
theorem ser_add (i n : Nat) : ∀ p, ser i (n + p) = 5 ^ p * ser i n + ser 0 p
  | 0 => by simp [ser]
  | p + 1 => by
    show ser i (n + p) * 5 + 1 = _
    rw [ser_add i n p]
    show _ = 5 ^ (p + 1) * ser i n + (ser 0 p * 5 + 1)
    rw [Nat.pow_succ]
    grind
theorem two_up (k : Nat) : ∃ a b, 5 ^ 2 ^ k = 4 * 2 ^ k * a + 1 ∧ ser 0 (2 ^ k) = 2 ^ k * (2 * b + 1) := by
  induction k with
  | zero => exact ⟨1, 0, by decide, by decide⟩
  | succ k ih =>
    obtain ⟨a, b, h1, h2⟩ := ih
    have e : 2 ^ (k + 1) = 2 ^ k + 2 ^ k := by rw [Nat.pow_succ]; omega
    have h3 := ser_add 0 (2 ^ k) (2 ^ k)
    rw [← e, h1, h2] at h3
    have h4 : 5 ^ 2 ^ (k + 1) = (4 * 2 ^ k * a + 1) * (4 * 2 ^ k * a + 1) := by rw [e, Nat.pow_add, h1]
    refine ⟨2 * (2 ^ k * a * a) + a, 2 * b * (2 ^ k * a) + b + 2 ^ k * a, ?_, ?_⟩
    · rw [h4, Nat.pow_succ]
      generalize 2 ^ k = T
      grind
    · rw [h3, Nat.pow_succ]
      generalize 2 ^ k = T
      grind
theorem ser_jump (i n k : Nat) : ser i (n + 2 ^ k) % 2 ^ (k + 1) = (ser i n + 2 ^ k) % 2 ^ (k + 1) := by
  obtain ⟨a, b, h1, h2⟩ := two_up k
  rw [ser_add, h1, h2]
  have e : (4 * 2 ^ k * a + 1) * ser i n + 2 ^ k * (2 * b + 1) = ser i n + 2 ^ k + 2 ^ (k + 1) * (2 * (a * ser i n) + b) := by
    rw [Nat.pow_succ]
    generalize 2 ^ k = T
    generalize ser i n = u
    grind
  rw [e, Nat.add_mul_mod_self_left]
theorem ser_all (i : Nat) : ∀ k j, j < 2 ^ k → ∃ n, n < 2 ^ k ∧ ser i n % 2 ^ k = j
  | 0, j, h => ⟨0, by decide, by
    have : j = 0 := by simpa using h
    rw [this]; exact Nat.mod_one _⟩
  | k + 1, j, h => by
    have hp : 0 < 2 ^ k := Nat.pow_pos (by decide)
    have e : 2 ^ (k + 1) = 2 ^ k + 2 ^ k := by rw [Nat.pow_succ]; omega
    obtain ⟨n, hn, hm⟩ := ser_all i k (j % 2 ^ k) (Nat.mod_lt _ hp)
    have hmm : ser i n % 2 ^ (k + 1) % 2 ^ k = j % 2 ^ k := by rw [Nat.mod_mod_of_dvd _ ⟨2, by rw [Nat.pow_succ]⟩, hm]
    have hlt : ser i n % 2 ^ (k + 1) < 2 ^ (k + 1) := Nat.mod_lt _ (by omega)
    by_cases c : ser i n % 2 ^ (k + 1) = j
    · exact ⟨n, by omega, c⟩
    · refine ⟨n + 2 ^ k, by omega, ?_⟩
      rw [ser_jump, Nat.add_mod, Nat.mod_eq_of_lt (show 2 ^ k < 2 ^ (k + 1) by omega)]
      generalize ser i n % 2 ^ (k + 1) = x at *
      generalize 2 ^ (k + 1) = M at *
      subst e
      generalize 2 ^ k = T at *
      have d1 : x % T = if x < T then x else x - T := by
        split
        · exact Nat.mod_eq_of_lt (by assumption)
        · rw [Nat.mod_eq_sub_mod (by omega), Nat.mod_eq_of_lt (by omega)]
      have d2 : j % T = if j < T then j else j - T := by
        split
        · exact Nat.mod_eq_of_lt (by assumption)
        · rw [Nat.mod_eq_sub_mod (by omega), Nat.mod_eq_of_lt (by omega)]
      rw [d1, d2] at hmm
      by_cases hx : x < T
      · by_cases hj : j < T
        · rw [if_pos hx, if_pos hj] at hmm; omega
        · rw [if_pos hx, if_neg hj] at hmm
          rw [Nat.mod_eq_of_lt (by omega)]; omega
      · by_cases hj : j < T
        · rw [if_neg hx, if_pos hj] at hmm
          rw [Nat.mod_eq_sub_mod (by omega), Nat.mod_eq_of_lt (by omega)]; omega
        · rw [if_neg hx, if_neg hj] at hmm; omega
theorem lcg_ser (m i : Nat) (hi : i ≤ m) : ∀ n, lcgI m i n = ser i n % (m + 1)
  | 0 => (Nat.mod_eq_of_lt (Nat.lt_succ_of_le hi)).symm
  | n + 1 => by
    show (lcgI m i n * 5 + 1) % (m + 1) = (ser i n * 5 + 1) % (m + 1)
    rw [lcg_ser m i hi n, Nat.add_mod, Nat.mul_mod, Nat.mod_mod, ← Nat.mul_mod, ← Nat.add_mod]
theorem meets {m : Nat} (hm : pw2 m) (h : Int) {j : Nat} (hj : j ≤ m) : ∃ n, n ≤ m + 12 ∧ runI m (SetTable.bits h) n = j := by
  obtain ⟨k, hk, _⟩ := hm
  obtain ⟨n, hn, e⟩ := ser_all (runI m (SetTable.bits h) 12) k j (by omega)
  refine ⟨12 + n, by omega, ?_⟩
  rw [runI_tail (bits_lt h), lcg_ser m _ (runI_le _ _ _), hk]
  exact e
theorem pass {m : Nat} (hm : pw2 m) (h : Int) {j : Nat} (hj : j ≤ m) : ∃ k, k < 10 * SetTable.turns m ∧ way m h k = j := by
  obtain ⟨n, hn, e⟩ := meets hm h hj
  obtain ⟨k, hk, e2⟩ := run_nth m (SetTable.bits h) n
  refine ⟨k, by unfold SetTable.turns; omega, ?_⟩
  show (nth m _ k).j = j
  rw [e2]
  exact e
theorem way_in (m : Nat) (h : Int) (k : Nat) : way m h k ≤ m := by
  have hi : SetTable.bits h % (m + 1) ≤ m := Nat.le_of_lt_succ (Nat.mod_lt _ (Nat.succ_pos _))
  have r := runEnd_bd hi
  have q := L2.nth_in (m := m) k (runAt m (SetTable.bits h % (m + 1)) (SetTable.bits h)) (show SetTable.bits h % (m + 1) + (SetTable.runEnd m (SetTable.bits h % (m + 1)) - SetTable.bits h % (m + 1)) ≤ m by omega)
  exact Nat.le_trans (Nat.le_add_right _ _) q
/-! ### tables of any size -/
structure Tab (t : SetTable) (hs : List Int) : Prop where
  ris : Ris t.place.toList
  dm : t.dummies = #[]
  sz : t.place.size = hs.length
  pw : pw2 t.mask
  bd : ∀ x ∈ t.place.toList, x ≤ t.mask
  at_ : ∀ (i : Nat) (h : Int) (j : Nat), hs[i]? = some h → t.place.toList[i]? = some j → ∃ k, way t.mask h k = j ∧ ∀ k', k' < k → way t.mask h k' ∈ t.place.toList
theorem pw2_odd {m : Nat} (h : pw2 m) : m % 2 = 1 := by
  obtain ⟨k, e, hk⟩ := h
  obtain ⟨k, rfl⟩ : ∃ q, k = q + 1 := ⟨k - 1, by omega⟩
  rw [Nat.pow_succ] at e
  omega
theorem Tab.gap {t : SetTable} {hs : List Int} (T : Tab t hs) (hl : hs.length ≤ t.mask) (h : Int) : ∃ K, K < 10 * SetTable.turns t.mask ∧ way t.mask h K ∉ t.place.toList ∧ ∀ k, k < K → way t.mask h k ∈ t.place.toList := by
  obtain ⟨j, hj, hn⟩ := st_missing t.place.toList (t.mask + 1) (by rw [Array.length_toList, T.sz]; omega)
  obtain ⟨k, hk, e⟩ := pass T.pw h (Nat.le_of_lt_succ hj)
  obtain ⟨K, h1, h2, h3⟩ := st_least (p := fun k => way t.mask h k ∉ t.place.toList) k (by rw [e]; exact hn)
  exact ⟨K, Nat.lt_of_le_of_lt h1 hk, h2, fun k' hk' => Classical.byContradiction fun c => h3 k' hk' c⟩
theorem Tab.ahead {t : SetTable} {hs : List Int} (T : Tab t hs) {h : Int} {K i j : Nat} (hK : way t.mask h K ∉ t.place.toList) (hi : hs[i]? = some h) (hj : t.place.toList[i]? = some j) : ∃ k, k < K ∧ way t.mask h k = j := by
  obtain ⟨k, e, hb⟩ := T.at_ i h j hi hj
  refine ⟨k, Nat.lt_of_not_le fun c => ?_, e⟩
  rcases Nat.lt_or_eq_of_le c with c | c
  · exact hK (hb K c)
  · rw [c, e] at hK; exact hK (List.mem_of_getElem? hj)
theorem Tab.put {t : SetTable} {hs : List Int} (T : Tab t hs) {h : Int} {K : Nat} (hK : way t.mask h K ∉ t.place.toList) (hb : ∀ k, k < K → way t.mask h k ∈ t.place.toList) {t1 : SetTable} {p : Nat} (e : t.put (way t.mask h K) = (t1, p)) :
    p ≤ hs.length ∧ Tab t1 (hs.take p ++ h :: hs.drop p) ∧ t1.mask = t.mask ∧ t1.led = t.led ∧ t1.plain = t.plain ∧ t1.fill = hs.length + 1 := by
  have hjm : way t.mask h K ≤ t.mask := way_in _ _ _
  generalize hj : way t.mask h K = j at *
  obtain ⟨c1, _, _⟩ := below_cut T.ris j
  have hp : p = SetTable.below t.place j := (congrArg Prod.snd e).symm
  have ht : t1 = (t.put j).1 := (congrArg Prod.fst e).symm
  have hpp := put_place t j
  have hdm := put_dm T.dm j
  have hris := ris_insert T.ris (j := j) (fun z => hK (List.mem_of_getElem? (by rw [Array.getElem?_toList]; exact z)))
  rw [← hp] at hpp c1
  have hri : Ris (t.put j).1.place.toList := hris
  rw [← ht] at hpp hdm hri
  have hm : t1.mask = t.mask := by rw [ht]; rfl
  have hpl : p ≤ t.place.toList.length := by rw [Array.length_toList]; exact c1
  have hph : p ≤ hs.length := by rw [← T.sz]; exact c1
  have hsz : t.place.toList.length = hs.length := by rw [Array.length_toList]; exact T.sz
  have hz : t1.place.size = hs.length + 1 := by rw [← Array.length_toList, hpp, len_ins _ hpl, hsz]
  have up : ∀ {x : Nat}, x ∈ t.place.toList → x ∈ t1.place.toList := fun {x} hx => by rw [hpp]; exact mem_ins.2 (.inr hx)
  refine ⟨hph, ⟨hri, hdm, by rw [len_ins _ hph]; exact hz, by rw [hm]; exact T.pw, fun x hx => ?_, fun i h' j' e1 e2 => ?_⟩, hm, by rw [ht]; rfl, by rw [ht]; rfl, ?_⟩
  · rw [hm]
    rw [hpp] at hx
    rcases mem_ins.1 hx with rfl | z
    · exact hjm
    · exact T.bd x z
  · rw [tins_get hs hph] at e1
    rw [hpp, tins_get _ hpl] at e2
    rw [hm]
    by_cases c : i < p
    · rw [if_pos c] at e1 e2
      obtain ⟨k, q, z⟩ := T.at_ i h' j' e1 e2
      exact ⟨k, q, fun k' hk' => up (z k' hk')⟩
    · rw [if_neg c] at e1 e2
      by_cases d : i = p
      · rw [if_pos d] at e1 e2
        cases e1; cases e2
        exact ⟨K, hj, fun k' hk' => up (hb k' hk')⟩
      · rw [if_neg d] at e1 e2
        obtain ⟨k, q, z⟩ := T.at_ (i - 1) h' j' e1 e2
        exact ⟨k, q, fun k' hk' => up (z k' hk')⟩
  · show t1.place.size + t1.dummies.size = _
    rw [hz, hdm]; rfl
/-! ### laid anew -/
theorem spot {m : Nat} (hm : pw2 m) (owner : Array (Option Nat)) (h : Int) {j : Nat} (hj : j ≤ m) (hf : oAt owner j = none) :
    ∃ K, SetTable.layClean.free m owner (SetTable.turns m) (SetTable.bits h % (m + 1)) (SetTable.bits h) = some (way m h K) ∧ oAt owner (way m h K) = none ∧ ∀ k, k < K → oAt owner (way m h k) ≠ none := by
  obtain ⟨n, hn, e⟩ := meets hm h hj
  have hw : way m h (off m (SetTable.bits h % (m + 1)) (SetTable.bits h) n) = j := by
    show (nth m (runAt m _ _) (off m _ _ n)).j = j
    rw [nth_off, itL_run]
    exact e
  obtain ⟨K, k1, k2, k3⟩ := st_least (p := fun k => oAt owner (way m h k) = none) (off m (SetTable.bits h % (m + 1)) (SetTable.bits h) n) (by rw [hw]; exact hf)
  refine ⟨K, free_spec m owner (SetTable.turns m) n _ _ K (by unfold SetTable.turns; omega) k1 (fun k hk => ?_) ?_, k2, k3⟩
  · have q := k3 k hk
    revert q
    show oAt owner (nth m _ k).j ≠ none → _
    cases oAt owner (nth m (runAt m (SetTable.bits h % (m + 1)) (SetTable.bits h)) k).j with
    | none => exact fun q => absurd rfl q
    | some _ => exact fun _ => rfl
  · show (oAt owner (way m h K)).isNone = true
    rw [k2]; rfl
theorem own_step {m : Nat} (hm : pw2 m) {done : List Int} {owner : Array (Option Nat)} (W : Own m done owner) (hl : done.length ≤ m) (h : Int) :
    ∃ j, SetTable.layClean.free m owner (SetTable.turns m) (SetTable.bits h % (m + 1)) (SetTable.bits h) = some j ∧ Own m (done ++ [h]) (owner.setIfInBounds j (some done.length)) := by
  obtain ⟨ps, hps, hin⟩ := W.ps
  obtain ⟨j0, h0, hn0⟩ := st_missing ps (m + 1) (by omega)
  have hj0 : oAt owner j0 = none := Classical.byContradiction fun z => hn0 (hin j0 (Nat.le_of_lt_succ h0) z)
  obtain ⟨K, e1, e2, e3⟩ := spot hm owner h (Nat.le_of_lt_succ h0) hj0
  have hjm := way_in m h K
  generalize hJ : way m h K = J at *
  have self := oAt_set_self (owner := owner) (some done.length) (j := J) (by rw [W.sz]; omega)
  have up : ∀ {i : Nat}, oAt owner i ≠ none → oAt (owner.setIfInBounds J (some done.length)) i ≠ none := fun {i} hi => by
    by_cases c : i = J
    · rw [c, self]; exact fun e => nomatch e
    · rw [oAt_set_ne _ c]; exact hi
  refine ⟨J, e1, by rw [Array.size_setIfInBounds]; exact W.sz, fun j k hj e => ?_, fun k hk => ?_, J :: ps, by simp [hps], fun j hj e => ?_⟩
  · by_cases c : j = J
    · rw [c, self] at e
      cases e
      exact ⟨h, K, by simp, by rw [hJ, c], fun k' hk' => up (e3 k' hk')⟩
    · rw [oAt_set_ne _ c] at e
      obtain ⟨h', K', a1, a2, a3⟩ := W.at_ j k hj e
      exact ⟨h', K', by rw [List.getElem?_append_left (List.getElem?_eq_some_iff.mp a1).1]; exact a1, a2, fun k' hk' => up (a3 k' hk')⟩
  · rw [List.length_append, List.length_singleton] at hk
    by_cases c : k < done.length
    · obtain ⟨j, hj, e⟩ := W.all k c
      exact ⟨j, hj, by rw [oAt_set_ne _ (fun z => by rw [z, e2] at e; cases e)]; exact e⟩
    · exact ⟨J, hjm, by rw [self]; congr 1; omega⟩
  · by_cases c : j = J
    · rw [c]; exact List.mem_cons_self
    · rw [oAt_set_ne _ c] at e
      exact List.mem_cons_of_mem _ (hin j hj e)
theorem own_all {m : Nat} (hm : pw2 m) : ∀ (rest done : List Int) (owner : Array (Option Nat)), Own m done owner → done.length + rest.length ≤ m →
    ∃ owner', rest.foldl (stepF m) (some (owner, done.length)) = some (owner', (done ++ rest).length) ∧ Own m (done ++ rest) owner'
  | [], done, owner, W, _ => ⟨owner, by simp, by simpa using W⟩
  | h :: rest, done, owner, W, hl => by
    rw [List.length_cons] at hl
    obtain ⟨j, e, W'⟩ := own_step hm W (by omega) h
    obtain ⟨owner', f, W2⟩ := own_all hm rest (done ++ [h]) _ W' (by simp; omega)
    rw [List.append_assoc, List.singleton_append] at f W2
    refine ⟨owner', ?_, W2⟩
    rw [List.foldl_cons, stepF_some e]
    simpa using f
theorem anew (t : SetTable) {hs : Array Int} {wanted M : Nat} (hw : SetTable.sizeAbove wanted - 1 = M) (hM : pw2 M) (hn : hs.size ≤ M) :
    ∃ t' order, t.relaid hs wanted = some (t', order) ∧ order.toList.Perm (List.range hs.size) ∧ Tab t' (order.toList.map fun i => hs.getD i 0) ∧ t'.mask = M ∧ t'.led = t.led ∧ t'.plain = t.plain := by
  obtain ⟨owner, f, W⟩ := own_all hM hs.toList [] _ (Own.init M) (by simpa using hn)
  rw [List.nil_append] at W f
  have e : SetTable.layClean M hs = some owner := by
    rw [layClean_eq]
    have f' : hs.toList.foldl (stepF M) (some (Array.replicate (M + 1) none, 0)) = some (owner, hs.toList.length) := f
    rw [f']; rfl
  have hr : t.relaid hs wanted = some (tabOf t M owner, ((liveOf M owner).map (·.2)).toArray) := by rw [relaid_eq, hw, e]; rfl
  obtain ⟨r1, r2⟩ := ris_live (fun j => owner.getD j none) (List.range (M + 1)) (by
    unfold Ris
    first | exact List.pairwise_lt_range | exact List.pairwise_lt_range _)
  have r1 : Ris ((liveOf M owner).map (·.1)) := r1
  have r2 : ∀ x ∈ (liveOf M owner).map (·.1), x ∈ List.range (M + 1) := r2
  have hlen : (liveOf M owner).length = hs.size := by
    obtain ⟨ps, p1, p2⟩ := W.ps
    have dif : ((liveOf M owner).map (·.1)).Nodup := List.Pairwise.imp (R := (· < ·)) (fun h => Nat.ne_of_lt h) r1
    have a := nat_nodup_len ((liveOf M owner).map (·.1)) ps dif fun x hx => by
      obtain ⟨⟨y, k⟩, hq, rfl⟩ := List.mem_map.mp hx
      obtain ⟨b1, b2⟩ := (mem_live W.sz).1 hq
      exact p2 y b1 (by rw [b2]; exact fun z => nomatch z)
    have b := nat_nodup_len (List.range hs.size) ((liveOf M owner).map (·.2)) List.nodup_range fun k hk => by
      obtain ⟨j, b1, b2⟩ := W.all k (by simpa using hk)
      exact List.mem_map.mpr ⟨(j, k), (mem_live W.sz).2 ⟨b1, b2⟩, rfl⟩
    simp at a b p1
    omega
  refine ⟨_, _, hr, ?_, ⟨r1, rfl, by simp [tabOf], hM, fun x hx => Nat.le_of_lt_succ (List.mem_range.mp (r2 x hx)), fun i h j h1 h2 => ?_⟩, rfl, rfl, rfl⟩
  · refine perm_range hs.size _ (by simp [hlen]) fun k hk => ?_
    obtain ⟨j, b1, b2⟩ := W.all k (by simpa using hk)
    exact List.mem_map.mpr ⟨(j, k), (mem_live W.sz).2 ⟨b1, b2⟩, rfl⟩
  · have h1' : (((liveOf M owner).map (·.2)).map fun i => hs.getD i 0)[i]? = some h := h1
    have h2' : ((liveOf M owner).map (·.1))[i]? = some j := h2
    rw [List.getElem?_map, List.getElem?_map] at h1'
    rw [List.getElem?_map] at h2'
    cases hq : (liveOf M owner)[i]? with
    | none => rw [hq] at h2'; cases h2'
    | some q =>
      obtain ⟨y, k⟩ := q
      rw [hq] at h1' h2'
      have ej : y = j := Option.some.inj h2'
      have eh : hs.getD k 0 = h := Option.some.inj h1'
      subst ej
      obtain ⟨b1, b2⟩ := (mem_live W.sz).1 (List.mem_of_getElem? hq)
      obtain ⟨h0, K, a1, a2, a3⟩ := W.at_ y k b1 b2
      have e0 : hs.getD k 0 = h0 := by
        rw [Array.getD_eq_getD_getElem?, ← Array.getElem?_toList, a1]; rfl
      rw [eh] at e0
      subst e0
      refine ⟨K, a2, fun k' hk' => ?_⟩
      show way M h k' ∈ (liveOf M owner).map (·.1)
      cases z : oAt owner (way M h k') with
      | none => exact absurd z (a3 k' hk')
      | some k2 => exact List.mem_map.mpr ⟨(way M h k', k2), (mem_live W.sz).2 ⟨way_in _ _ _, z⟩, rfl⟩
end SY
end
section
namespace SY
open PySem PySem.Spec PyProof.Rows L2
/-! ### keys without texts -/
mutual
def num : NestedKey → Bool
  | .none => true
  | .num _ => true
  | .text _ => false
  | .tup ks => nums ks
def nums : List NestedKey → Bool
  | [] => true
  | k :: ks => num k && nums ks
end
section
variable {P : Program} {w : World}
def Ans {α : Type} (P : Program) (w : World) (s : Shared) (f : Sem α) (b : α) : Prop := ∀ (A : Around) (E : Value → Shared → Prop) (Q : α → Shared → Prop), Q b s → wpAny (model P w) A f Q E s
theorem wp_both {α : Type} {A : Around} {E : Value → Shared → Prop} {s : Shared} {Q : α → Shared → Prop} {c : Prop} [Decidable c] {f g : Sem α} (h1 : c → wpAny (model P w) A f Q E s) (h2 : ¬ c → wpAny (model P w) A g Q E s) : wpAny (model P w) A (if c then f else g) Q E s := by
  by_cases h : c
  · exact wp_if_pos h (h1 h)
  · exact wp_if_neg h (h2 h)
theorem loop_false {s : Shared} {vs : List Value} {f : Value → Sem Bool} (h : ∀ v ∈ vs, Ans P w s (f v) false) : Ans P w s (do
    for y in vs do
      if ← f y then return true
    return false) false := by
  intro A E Q hq
  refine wpAny_bind ?_
  refine wpAny_forIn_list _ (fun rest r s' => r.1 = none ∧ s' = s ∧ ∀ v ∈ rest, v ∈ vs) _ ?_ ?_ _ _ ⟨rfl, rfl, fun _ z => z⟩
  · rintro v rest r s' ⟨_, rfl, hm⟩
    refine wpAny_bind (h v (hm v List.mem_cons_self) _ _ _ ?_)
    simp only [Bool.false_eq_true, if_false]
    exact wpAny_pure ⟨rfl, rfl, fun u hu => hm u (List.mem_cons_of_mem _ hu)⟩
  · rintro ⟨r1, r2⟩ s' ⟨hr, rfl, _⟩
    simp only at hr
    subst hr
    exact wpAny_pure hq
theorem loop_true {s : Shared} {vs : List Value} {f : Value → Sem Bool} (h : ∀ v ∈ vs, Ans P w s (f v) true) : Ans P w s (do
    for y in vs do
      if !(← f y) then return false
    return true) true := by
  intro A E Q hq
  refine wpAny_bind ?_
  refine wpAny_forIn_list _ (fun rest r s' => r.1 = none ∧ s' = s ∧ ∀ v ∈ rest, v ∈ vs) _ ?_ ?_ _ _ ⟨rfl, rfl, fun _ z => z⟩
  · rintro v rest r s' ⟨_, rfl, hm⟩
    refine wpAny_bind (h v (hm v List.mem_cons_self) _ _ _ ?_)
    simp only [Bool.not_true, Bool.false_eq_true, if_false]
    exact wpAny_pure ⟨rfl, rfl, fun u hu => hm u (List.mem_cons_of_mem _ hu)⟩
  · rintro ⟨r1, r2⟩ s' ⟨hr, rfl, _⟩
    simp only at hr
    subst hr
    exact wpAny_pure hq
mutual
theorem cls_key : ∀ (k : NestedKey) (v : Value) (n : Nat) (s : Shared), NestedIs s.heap k v → k.depth ≤ n → Ans P w s (ofAClassStatement n v) false
  | .none, _, n, s, x, _ => by cases x; cases n <;> exact fun A E Q hq => wpAny_pure hq
  | .num i, _, n, s, x, _ => by cases x <;> cases n <;> exact fun A E Q hq => wpAny_pure hq
  | .text y, _, n, s, x, _ => by cases x; cases n <;> exact fun A E Q hq => wpAny_pure hq
  | .tup ks, _, n, s, x, hn => by
    cases x with
    | @tup a o vs m _ hg hc hd hk =>
      simp only [NestedKey.depth] at hn
      cases n with
      | zero => omega
      | succ n =>
        intro A E Q hq
        have hT : s.TypeIs (.ref a) "tuple" := ⟨o, hg, hc⟩
        unfold ofAClassStatement
        refine wpAny_bind (wpAny_typeOf hT ?_)
        dsimp only
        have e : (("tuple" : String) == "tuple") = true := by decide
        simp only [e, if_true, Bool.not_true, Bool.false_eq_true, if_false]
        try refine wpAny_bind (wpAny_pure ?_)
        try simp only [Bool.not_true, Bool.false_eq_true, if_false]
        refine wpAny_bind (wpAny_seqItems hg hd ?_)
        have L := loop_false (P := P) (w := w) (s := s) (f := ofAClassStatement n) (cls_keys ks vs.toList n s hk (by omega)) A E Q hq
        simpa [← Array.forIn_toList] using L
theorem cls_keys : ∀ (ks : List NestedKey) (vs : List Value) (n : Nat) (s : Shared), NestedAll s.heap ks vs → NestedKey.depthAll ks ≤ n → ∀ v ∈ vs, Ans P w s (ofAClassStatement n v) false
  | [], _, n, s, x, _, v, hv => by cases x; cases hv
  | k :: ks, _, n, s, x, hn, v, hv => by
    cases x with
    | cons x1 x2 =>
      simp only [NestedKey.depthAll] at hn
      rcases List.mem_cons.mp hv with rfl | hv
      · exact cls_key k _ n s x1 (by omega)
      · exact cls_keys ks _ n s x2 (by omega) v hv
end
mutual
theorem hbv_key : ∀ (k : NestedKey) (v : Value) (n : Nat) (s : Shared), NestedIs s.heap k v → num k = true → k.depth ≤ n → Ans P w s (hashByValue n v) true
  | .none, _, n, s, x, _, _ => by cases x; cases n <;> exact fun A E Q hq => wpAny_pure hq
  | .num i, _, n, s, x, _, _ => by cases x <;> cases n <;> exact fun A E Q hq => wpAny_pure hq
  | .text y, _, n, s, x, h, _ => by cases h
  | .tup ks, _, n, s, x, h, hn => by
    cases x with
    | @tup a o vs m _ hg hc hd hk =>
      simp only [NestedKey.depth] at hn
      cases n with
      | zero => omega
      | succ n =>
        intro A E Q hq
        have hT : s.TypeIs (.ref a) "tuple" := ⟨o, hg, hc⟩
        unfold hashByValue
        refine wpAny_bind (wpAny_specialOf hT F.slot_tuple_hash.lookup ?_)
        refine wpAny_bind (m := seqItems? (.ref a)) (wpAny_seqItems hg hd ?_)
        have L := loop_true (P := P) (w := w) (s := s) (f := hashByValue n) (hbv_keys ks vs.toList n s hk h (by omega)) A E Q hq
        simpa [← Array.forIn_toList] using L
theorem hbv_keys : ∀ (ks : List NestedKey) (vs : List Value) (n : Nat) (s : Shared), NestedAll s.heap ks vs → nums ks = true → NestedKey.depthAll ks ≤ n → ∀ v ∈ vs, Ans P w s (hashByValue n v) true
  | [], _, n, s, x, _, _, v, hv => by cases x; cases hv
  | k :: ks, _, n, s, x, h, hn, v, hv => by
    cases x with
    | cons x1 x2 =>
      simp only [nums, Bool.and_eq_true] at h
      simp only [NestedKey.depthAll] at hn
      rcases List.mem_cons.mp hv with rfl | hv
      · exact hbv_key k _ n s x1 h.1 (by omega)
      · exact hbv_keys ks _ n s x2 h.2 (by omega) v hv
end
/-- a search shows nothing -/
theorem unseen {s : Shared} {k : NestedKey} {x : Value} (hk : NestedIs s.heap k x) (hd : k.depth ≤ 8) {ys : List Value} (hy : ∀ y ∈ ys, ∃ k', NestedIs s.heap k' y ∧ k'.depth ≤ 8) : Ans P w s (searchCouldBeSeen x ys) false := by
  intro A E Q hq
  unfold searchCouldBeSeen
  refine wpAny_bind ?_
  refine wpAny_forIn_list _ (fun rest r s' => r.1 = none ∧ s' = s ∧ ∀ y ∈ rest, ∃ k', NestedIs s.heap k' y ∧ k'.depth ≤ 8) _ ?_ ?_ _ _ ⟨rfl, rfl, hy⟩
  · rintro v rest r s' ⟨hr, rfl, hall⟩
    obtain ⟨k', hv, hd'⟩ := hall v List.mem_cons_self
    have tl : ∀ y ∈ rest, ∃ k', NestedIs s'.heap k' y ∧ k'.depth ≤ 8 := fun u hu => hall u (List.mem_cons_of_mem _ hu)
    dsimp only
    refine wp_both (fun _ => wpAny_pure ⟨rfl, rfl, tl⟩) fun _ => ?_
    · skip
      refine wpAny_bind (quiet_key k x 8 s' hk hd _ _ _ ?_)
      simp only [Bool.not_true, Bool.false_eq_true, if_false]
      refine wpAny_bind (quiet_key k' v 8 s' hv hd' _ _ _ ?_)
      simp only [Bool.not_true, Bool.false_eq_true, if_false]
      refine wpAny_bind (cls_key k x 8 s' hk hd _ _ _ ?_)
      simp only [Bool.false_eq_true, if_false]
      refine wpAny_bind (cls_key k' v 8 s' hv hd' _ _ _ ?_)
      simp only [Bool.false_eq_true, if_false]
      exact wpAny_pure ⟨rfl, rfl, tl⟩
  · rintro ⟨r1, r2⟩ s' ⟨hr, rfl, _⟩
    simp only at hr
    subst hr
    exact wpAny_pure hq
end
end SY
end
section
namespace SY
open PySem PySem.Spec PyProof.Rows L2
abbrev Ent := NestedKey × Value
def hashOf (w : World) (p : Ent) : Int := p.1.hash w
def rows (w : World) (L : List Ent) : List (Int × Value) := L.map fun p => (p.1.hash w, p.2)
theorem rows_len (w : World) (L : List Ent) : (rows w L).length = L.length := by simp [rows]
/-- the masks that come -/
def MK (m : Nat) : Prop := m = 7 ∨ m = 31 ∨ m = 127 ∨ m = 511 ∨ m = 2047 ∨ m = 8191
theorem MK.pw {m : Nat} (h : MK m) : pw2 m := by
  rcases h with e | e | e | e | e | e
  · exact ⟨3, by rw [e], by decide⟩
  · exact ⟨5, by rw [e], by decide⟩
  · exact ⟨7, by rw [e], by decide⟩
  · exact ⟨9, by rw [e], by decide⟩
  · exact ⟨11, by rw [e], by decide⟩
  · exact ⟨13, by rw [e], by decide⟩
def lim (sc : Bool) : Nat := if sc then 4095 else 4910
theorem lim_le (sc : Bool) : lim sc ≤ 4910 := by cases sc <;> decide
/-- all of one kind: numbers that are looked through, or tuples that are searched -/
structure Sx (P : Program) (w : World) (sc : Bool) (h : Heap) (a : Addr) (L : List Ent) (es : Array (Int × Value)) (ep : Nat) (t : SetTable) : Prop where
  ob : ∃ o, h.get? a = some o ∧ o.ExactSet ∧ o.data = .set es ep t
  rows : es.toList = rows w L
  tab : Tab t (L.map (hashOf w))
  mok : MK t.mask
  nd : (L.map (·.1)).Nodup
  is_ : ∀ p ∈ L, NestedIs h p.1 p.2 ∧ p.1.depth ≤ 8 ∧ num p.1 = true ∧ p.2.scannable = sc ∧ ∀ y t, p.2 ≠ .str y t
  plain : t.plain = true
  led : w.params.followText "set-order" = true ∨ t.led = true
  room : L.length * 5 < t.mask * 3
  few : L.length < lim sc
section
variable {P : Program} {w : World} {A : Around} {E : Value → Shared → Prop} {s : Shared} {sc : Bool} {a : Addr} {L : List Ent} {es : Array (Int × Value)} {ep : Nat} {t : SetTable}
theorem Sx.size {h : Heap} (R : Sx P w sc h a L es ep t) : es.size = L.length := by
  have q := congrArg List.length R.rows
  rw [rows_len] at q
  simpa using q
theorem Sx.fits {h : Heap} (R : Sx P w sc h a L es ep t) : t.fits es.size = true := by
  have h1 := R.tab.sz
  have h2 := R.size
  have h3 := R.room
  simp at h1
  unfold SetTable.fits SetTable.fill
  rw [R.tab.dm, Bool.and_eq_true, beq_iff_eq, decide_eq_true_eq]
  exact ⟨by omega, by show t.place.size + 0 ≤ t.mask; omega⟩
theorem Sx.entry {h : Heap} (R : Sx P w sc h a L es ep t) {i : Nat} {p : Ent} (e : L[i]? = some p) : es[i]? = some (p.1.hash w, p.2) := by
  rw [← Array.getElem?_toList, R.rows]
  unfold SY.rows
  rw [List.getElem?_map, e]; rfl
theorem Sx.notGw {h : Heap} (R : Sx P w sc h a L es ep t) : ¬ t.gaveWay = true := by
  unfold SetTable.gaveWay
  rw [pw2_odd R.mok.pw]
  decide
theorem ref_of {h : Heap} {k : NestedKey} {v : Value} (x : NestedIs h k v) (hs : v.scannable = false) : ∃ b, v = .ref b := by
  cases x with
  | tup => exact ⟨_, rfl⟩
  | _ => cases hs
theorem nth_dummy (m : Nat) : ∀ (n : Nat) (p : SetTable.Probe), p.dummy = none → (nth m p n).dummy = none
  | 0, p, h => h
  | n + 1, p, h => by
    refine nth_dummy m n (adv m p) ?_
    unfold adv
    split <;> exact h
theorem way_shift (m : Nat) (h : Int) (c q : Nat) : (nth m (nth m (runAt m (SetTable.bits h % (m + 1)) (SetTable.bits h)) c) q).j = way m h (c + q) := by
  rw [← nth_add]
/-- the search among tuples -/
theorem srch (R : Sx P w false s.heap a L es ep t) {x : Value} {k : NestedKey} (hx : NestedIs s.heap k x) (hd : k.depth ≤ 8) (hu : A.units + 9 < cLine) {hh : Int} (hH : k.hash w = hh) {K : Nat} (hKf : K < 10 * SetTable.turns t.mask)
    (hK : way t.mask hh K ∉ t.place.toList) (hKb : ∀ c, c < K → way t.mask hh c ∈ t.place.toList) {Q : SetFound → Shared → Prop}
    (hin : k ∈ L.map (·.1) → Q (.there none) s) (hout : k ∉ L.map (·.1) → Q (.free (way t.mask hh K) false) s) :
    ∀ (f c : Nat) (stand : Option SetTable.Probe), stand.getD (t.probeStart hh) = nth t.mask (runAt t.mask (SetTable.bits hh % (t.mask + 1)) (SetTable.bits hh)) c → c ≤ K → K - c < f →
      (∀ (i : Nat) (p : Ent), L[i]? = some p → p.1 = k → ∃ c', c ≤ c' ∧ c' < K ∧ t.place.toList[i]? = some (way t.mask hh c')) →
      wpAny (model P w) A (setSearchFrom a x hh true f stand) Q E s
  | 0, c, stand, _, _, hf, _ => absurd hf (Nat.not_lt_zero _)
  | f + 1, c, stand, hst, hc, hf, hre => by
    obtain ⟨o, ho, hex, hdt⟩ := R.ob
    rw [setSearchFrom_succ]
    refine wpAny_bind (wpAny_setState_of ho hdt R.fits ?_)
    dsimp only
    refine wp_if_neg R.notGw ?_
    try refine wpAny_bind (wpAny_pure ?_)
    have spec := go_spec t R.tab.ris R.tab.dm (fun i => (es[i]?.map (·.1)).getD 0) hh (10 * SetTable.turns t.mask) (K - c) (nth t.mask (runAt t.mask (SetTable.bits hh % (t.mask + 1)) (SetTable.bits hh)) c) (nth_dummy _ _ _ rfl) (by omega)
      (fun q hq => by rw [way_shift]; exact hKb _ (by omega)) (by rw [way_shift, show c + (K - c) = K by omega]; exact hK)
    have hashAt : ∀ (i : Nat) (p : Ent), L[i]? = some p → (es[i]?.map (·.1)).getD 0 = p.1.hash w := fun i p hp => by rw [R.entry hp]; rfl
    have hpr0 : t.probe (fun i => (es[i]?.map (·.1)).getD 0) hh (stand.getD (t.probeStart hh)) = SetTable.probe.go t (fun i => (es[i]?.map (·.1)).getD 0) hh (10 * SetTable.turns t.mask) (nth t.mask (runAt t.mask (SetTable.bits hh % (t.mask + 1)) (SetTable.bits hh)) c) := by rw [hst]; rfl
    rw [hpr0]
    rcases spec with ⟨q, i, hq, hi, hhi, hno, hpr⟩ | ⟨hno, hpr⟩
    · rw [hpr]
      dsimp only
      rw [way_shift] at hi ⊢
      have hil : i < L.length := by
        have h1 : i < t.place.toList.length := (List.getElem?_eq_some_iff.mp hi).1
        have h2 := R.tab.sz
        simp at h2
        rw [Array.length_toList] at h1
        omega
      obtain ⟨p, hp⟩ : ∃ p, L[i]? = some p := ⟨_, List.getElem?_eq_getElem hil⟩
      have hmem : p ∈ L := List.mem_of_getElem? hp
      obtain ⟨pi, pd, _, _, _⟩ := R.is_ p hmem
      have rest : wpAny (model P w) A (searchRest a x hh true f es t (way t.mask hh (c + q)) i (nth t.mask (nth t.mask (runAt t.mask (SetTable.bits hh % (t.mask + 1)) (SetTable.bits hh)) c) (q + 1))) Q E s := by
        unfold searchRest
        rw [R.entry hp]
        dsimp only
        refine wpAny_bind (wpAny_holding (eqAt_key p.1 k A s _ _ pi hx (by omega) _ _ _ _ ?_))
        rw [← NestedKey.decide_eq]
        refine wpAny_bind (wpAny_setState_of ho hdt R.fits ?_)
        dsimp only
        by_cases hkk : p.1 = k
        · refine wp_if_pos (by simp [hkk]) ?_
          exact wpAny_pure (hin (List.mem_map.mpr ⟨p, hmem, hkk⟩))
        · refine wp_if_neg (by simp [hkk]) ?_
          try refine wpAny_bind (wpAny_pure ?_)
          rw [sameMem]
          dsimp only
          have hsl : t.slot (way t.mask hh (c + q)) = .live i := slot_live R.tab.ris hi
          obtain ⟨b, eb⟩ : ∃ b, p.2 = .ref b := by
            exact ref_of pi (R.is_ p hmem).2.2.2.1
          simp only [if_true, hsl, R.entry hp, eb]
          refine wpAny_bind (wpAny_isSame_ref_self (wpAny_bind (wpAny_pure ?_)))
          simp only [if_true]
          refine wp_if_neg (by simp [hkk]) ?_
          refine srch R hx hd hu hH (K := K) hKf hK hKb hin hout f (c + (q + 1)) (some _) (nth_add _ _ _ _).symm (by omega) (by omega) fun i0 p0 h0 hk0 => ?_
          obtain ⟨c', a1, a2, a3⟩ := hre i0 p0 h0 hk0
          refine ⟨c', ?_, a2, a3⟩
          have hne : c' ≠ c + q := fun z => by
            rw [z] at a3
            have s0 := slot_live R.tab.ris a3
            rw [hsl] at s0
            injection s0 with s0
            rw [← s0, hp] at h0
            exact hkk ((congrArg Prod.fst (Option.some.inj h0)).trans hk0)
          have hge : ¬ c' < c + q := fun z => by
            refine hno (c' - c) i0 (by omega) (by rw [way_shift, show c + (c' - c) = c' by omega]; exact a3) ?_
            rw [hashAt i0 p0 h0, hk0, hH]
          omega
      by_cases hl : t.led = true
      · refine wp_if_neg (by simp [hl]) ?_
        try refine wpAny_bind (wpAny_pure ?_)
        exact rest
      · refine wp_if_pos (by simp [hl]) ?_
        refine wpAny_bind (unseen hx hd (fun y hy => ?_) _ _ _ ?_)
        · obtain ⟨e, he, rfl⟩ := List.mem_map.mp hy
          have he1 : e ∈ es ∧ e.1 = hh := by simpa using he
          have he2 : e ∈ es.toList := by simpa using he1.1
          rw [R.rows] at he2
          obtain ⟨p2, hp2, rfl⟩ := List.mem_map.mp he2
          exact ⟨p2.1, (R.is_ p2 hp2).1, (R.is_ p2 hp2).2.1⟩
        · refine wp_if_neg (by decide) ?_
          try refine wpAny_bind (wpAny_pure ?_)
          exact rest
    · rw [hpr]
      dsimp only
      rw [way_shift, show c + (K - c) = K by omega]
      refine wpAny_pure (hout fun hm => ?_)
      obtain ⟨p0, h0, hk0⟩ := List.mem_map.mp hm
      obtain ⟨i0, hi0⟩ := List.getElem?_of_mem h0
      obtain ⟨c', a1, a2, a3⟩ := hre i0 p0 hi0 hk0
      refine hno (c' - c) i0 (by omega) (by rw [way_shift, show c + (c' - c) = c' by omega]; exact a3) ?_
      rw [hashAt i0 p0 hi0, hk0, hH]
theorem Sx.path {h : Heap} (R : Sx P w sc h a L es ep t) (hh : Int) : ∃ K, K < 10 * SetTable.turns t.mask ∧ K < 100000 ∧ way t.mask hh K ∉ t.place.toList ∧ ∀ c, c < K → way t.mask hh c ∈ t.place.toList := by
  have hr := R.room
  obtain ⟨K, h1, h2, h3⟩ := R.tab.gap (by rw [List.length_map]; omega) hh
  refine ⟨K, h1, ?_, h2, h3⟩
  unfold SetTable.turns at h1
  rcases R.mok with e | e | e | e | e | e <;> omega
theorem Sx.early {h : Heap} (R : Sx P w sc h a L es ep t) {hh : Int} {K : Nat} (hK : way t.mask hh K ∉ t.place.toList) {i : Nat} {p : Ent} (hp : L[i]? = some p) (he : p.1.hash w = hh) : ∃ c, c < K ∧ t.place.toList[i]? = some (way t.mask hh c) := by
  have hil : i < L.length := (List.getElem?_eq_some_iff.mp hp).1
  have h2 := R.tab.sz
  rw [List.length_map] at h2
  have hlt : i < t.place.toList.length := by rw [Array.length_toList]; omega
  have hj := List.getElem?_eq_getElem hlt
  obtain ⟨c, hc, e⟩ := R.tab.ahead hK (i := i) (h := hh) (by rw [List.getElem?_map, hp]; simp [hashOf, he]) hj
  exact ⟨c, hc, by rw [hj, e]⟩
theorem srch_at (R : Sx P w false s.heap a L es ep t) {x : Value} {k : NestedKey} (hx : NestedIs s.heap k x) (hd : k.depth ≤ 8) (hu : A.units + 9 < cLine) {Q : SetFound → Shared → Prop}
    (hin : k ∈ L.map (·.1) → Q (.there none) s)
    (hout : ∀ K, k ∉ L.map (·.1) → way t.mask (k.hash w) K ∉ t.place.toList → (∀ c, c < K → way t.mask (k.hash w) c ∈ t.place.toList) → Q (.free (way t.mask (k.hash w) K) false) s) :
    wpAny (model P w) A (setSearch a x (k.hash w) true) Q E s := by
  obtain ⟨K, hKf, hb, hK, hKb⟩ := R.path (k.hash w)
  unfold setSearch
  refine srch R hx hd hu rfl hKf hK hKb hin (fun hn => hout K hn hK hKb) 100000 0 none rfl (Nat.zero_le _) (by omega) fun i p hp hk => ?_
  obtain ⟨c, hc, e⟩ := R.early hK hp (by rw [hk])
  exact ⟨c, Nat.zero_le _, hc, e⟩
/-- numbers are looked through -/
theorem scan_from {o : Obj} (ho : s.heap.get? a = some o) (hdt : o.data = .set es ep t) (hf : t.fits es.size = true) {x : Value} {k : NestedKey} (hx : NestedIs s.heap k x) (hd : k.depth ≤ 8) (hu : A.units + 9 < cLine) {Q : ScanMet → Shared → Prop} :
    ∀ (M : List Ent) (i : Nat), (∀ p ∈ M, NestedIs s.heap p.1 p.2 ∧ p.1.depth ≤ 8) → (k ∈ M.map (·.1) → ∀ j, Q (.found j) s) → (k ∉ M.map (·.1) → Q .absent s) →
      wpAny (model P w) A (setScanFrom a x (k.hash w) true (rows w M) i) Q E s
  | [], i, _, _, h => by unfold rows setScanFrom; exact wpAny_pure (h (by simp))
  | p :: M, i, hM, h1, h2 => by
    obtain ⟨pi, pd⟩ := hM p List.mem_cons_self
    have tl : ∀ j, (k ∉ [p.1]) → wpAny (model P w) A (setScanFrom a x (k.hash w) true (rows w M) j) Q E s := fun j hne => scan_from ho hdt hf hx hd hu M j (fun q hq => hM q (List.mem_cons_of_mem _ hq)) (fun hm => h1 (by rw [List.map_cons]; exact List.mem_cons_of_mem _ hm)) fun hm => h2 (by
      rw [List.map_cons, List.mem_cons]
      rintro (z | z)
      · exact hne (by rw [z]; exact List.mem_singleton.mpr rfl)
      · exact hm z)
    show wpAny (model P w) A (setScanFrom a x (k.hash w) true ((p.1.hash w, p.2) :: rows w M) i) Q E s
    unfold setScanFrom
    refine wp_both (fun hq => ?_) fun hq => ?_
    · refine wpAny_bind (wpAny_setEpoch_of ho hdt hf ?_)
      refine wpAny_bind (eqAt_key p.1 k A s _ _ pi hx (by omega) _ _ _ _ ?_)
      rw [← NestedKey.decide_eq]
      by_cases hkk : p.1 = k
      · refine wp_if_pos (by simp [hkk]) ?_
        exact wpAny_pure (h1 (List.mem_map.mpr ⟨p, List.mem_cons_self, hkk⟩) i)
      · refine wp_if_neg (by simp [hkk]) ?_
        try refine wpAny_bind (wpAny_pure ?_)
        refine wpAny_bind (wpAny_setEpoch_of ho hdt hf ?_)
        refine wp_if_neg (by simp) ?_
        try refine wpAny_bind (wpAny_pure ?_)
        refine wp_if_neg (by simp [hkk]) ?_
        try refine wpAny_bind (wpAny_pure ?_)
        exact tl (i + 1) (by simp; exact fun z => hkk z.symm)
    · try refine wpAny_bind (wpAny_pure ?_)
      refine tl (i + 1) ?_
      simp
      intro z
      exact hq (by rw [z]; exact beq_self_eq_true _)
end
end SY
end
section
namespace SY
open PySem PySem.Spec PyProof.Rows L2
section
variable {P : Program} {w : World} {A : Around} {E : Value → Shared → Prop} {s : Shared} {sc : Bool} {a : Addr} {L : List Ent} {es : Array (Int × Value)} {ep : Nat} {t : SetTable}
theorem key_same {h h' : Heap} {k : NestedKey} {v : Value} {a : Addr} {o : Obj} (hb : NestedIs h k v) (ho : h.get? a = some o) (hd : ∃ es ep t, o.data = .set es ep t) (hs : Heap.SameBut a h h') : NestedIs h' k v := by
  refine NestedIs.at (fun b ob vs n hb hc => ?_) k v hb
  refine (hs.2 b fun z => ?_).trans hb
  subst z
  obtain ⟨es, ep, t, hd⟩ := hd
  rw [ho] at hb
  cases hb
  rw [hd] at hc
  cases hc
theorem rows_put (L : List Ent) (p : Nat) (x : Ent) : rows w (L.take p ++ x :: L.drop p) = (rows w L).take p ++ (x.1.hash w, x.2) :: (rows w L).drop p := by simp [rows]
theorem hash_put (L : List Ent) (p : Nat) (x : Ent) : (L.take p ++ x :: L.drop p).map (hashOf w) = (L.map (hashOf w)).take p ++ x.1.hash w :: (L.map (hashOf w)).drop p := by simp [hashOf]
/-- the rows in another order -/
theorem in_order (L : List Ent) (es : Array (Int × Value)) (order : Array Nat) (hr : es.toList = rows w L) (hp : order.toList.Perm (List.range L.length)) :
    ∃ L2 : List Ent, (order.filterMap (es[·]?)).toList = rows w L2 ∧ L2.Perm L ∧ L2.map (hashOf w) = order.toList.map fun i => (es.map (·.1)).getD i 0 := by
  have ent : ∀ i, es[i]? = (L[i]?).map fun p : Ent => (p.1.hash w, p.2) := fun i => by
    rw [← Array.getElem?_toList, hr]; unfold rows; rw [List.getElem?_map]
  have hlt : ∀ i ∈ order.toList, i < L.length := fun i hi => List.mem_range.mp (hp.mem_iff.mp hi)
  refine ⟨order.toList.filterMap (fun i => L[i]?), ?_, ?_, ?_⟩
  · have e1 : (order.filterMap (es[·]?)).toList = order.toList.filterMap fun i => es[i]? := by first | exact Array.toList_filterMap | simp
    rw [e1]
    unfold rows
    rw [List.map_filterMap]
    congr 1
    funext i
    exact ent i
  · refine (hp.filterMap _).trans ?_
    have e2 : (List.range L.length).filterMap (fun i => L[i]?) = L := by
      refine List.ext_getElem? fun i => ?_
      have key : ∀ n, n ≤ L.length → (List.range n).filterMap (fun i => L[i]?) = L.take n := by
        intro n
        induction n with
        | zero => intro _; rfl
        | succ n ih =>
          intro hn
          have hlt : n < L.length := hn
          rw [List.range_succ, List.filterMap_append, ih (by omega), List.take_succ, List.filterMap_cons, List.getElem?_eq_getElem hlt]
          rfl
      rw [key _ (Nat.le_refl _), List.take_length]
    rw [e2]
  · rw [List.map_filterMap]
    have : ∀ l : List Nat, (∀ i ∈ l, i < L.length) → l.filterMap (fun x => (L[x]?).map (hashOf w)) = l.map fun i => (es.map (·.1)).getD i 0 := by
      intro l
      induction l with
      | nil => intro _; rfl
      | cons i l ih =>
        intro h
        have hi := h i List.mem_cons_self
        have e5 : (es.map (·.1))[i]? = some (hashOf w L[i]) := by rw [Array.getElem?_map, ent i, List.getElem?_eq_getElem hi]; rfl
        rw [List.filterMap_cons, List.getElem?_eq_getElem hi, List.map_cons, ih fun j hj => h j (List.mem_cons_of_mem _ hj)]
        simp [Array.getD_eq_getD_getElem?, e5]
    exact this _ hlt
/-- how the table grows -/
theorem grows {m n : Nat} (hm : MK m) (h1 : n * 5 < m * 3) (h2 : (n + 1) * 5 ≥ m * 3) (h3 : n + 1 < 4911) : ∃ M, MK M ∧ SetTable.sizeAbove (SetTable.grown (n + 1)) - 1 = M ∧ SetTable.sizeAbove (SetTable.grown (n + 1)) ≤ 8192 ∧ (n + 1) * 5 < M * 3 ∧ n + 1 ≤ m := by
  have c : ∀ q M, n + 1 = q → SetTable.sizeAbove (SetTable.grown q) = M + 1 → MK M → M + 1 ≤ 8192 → q * 5 < M * 3 → q ≤ m → ∃ M, MK M ∧ SetTable.sizeAbove (SetTable.grown (n + 1)) - 1 = M ∧ SetTable.sizeAbove (SetTable.grown (n + 1)) ≤ 8192 ∧ (n + 1) * 5 < M * 3 ∧ n + 1 ≤ m := fun q M e e2 hM h5 h6 h7 => by
    subst e
    exact ⟨M, hM, by rw [e2]; rfl, by rw [e2]; exact h5, h6, h7⟩
  rcases hm with e | e | e | e | e | e
  · exact c 5 31 (by omega) (by decide +kernel) (.inr (.inl rfl)) (by decide) (by decide) (by omega)
  · exact c 19 127 (by omega) (by decide +kernel) (.inr (.inr (.inl rfl))) (by decide) (by decide) (by omega)
  · exact c 77 511 (by omega) (by decide +kernel) (.inr (.inr (.inr (.inl rfl)))) (by decide) (by decide) (by omega)
  · exact c 307 2047 (by omega) (by decide +kernel) (.inr (.inr (.inr (.inr (.inl rfl))))) (by decide) (by decide) (by omega)
  · exact c 1229 8191 (by omega) (by decide +kernel) (.inr (.inr (.inr (.inr (.inr rfl))))) (by decide) (by decide) (by omega)
  · omega
theorem keep_is {h' : Heap} {L' : List Ent} {o : Obj} (h0 : ∀ p ∈ L', NestedIs s.heap p.1 p.2 ∧ p.1.depth ≤ 8 ∧ num p.1 = true ∧ p.2.scannable = sc ∧ ∀ y t, p.2 ≠ .str y t) (ho : s.heap.get? a = some o) (hd : ∃ es ep t, o.data = .set es ep t) (hs : Heap.SameBut a s.heap h') :
    ∀ p ∈ L', NestedIs h' p.1 p.2 ∧ p.1.depth ≤ 8 ∧ num p.1 = true ∧ p.2.scannable = sc ∧ ∀ y t, p.2 ≠ .str y t := fun p hp => ⟨key_same (h0 p hp).1 ho hd hs, (h0 p hp).2⟩
/-- the table laid anew -/
theorem relay_to {o : Obj} (ho : s.heap.get? a = some o) (hex : o.ExactSet) (hd : o.data = .set es ep t) (hrows : es.toList = rows w L) (hsz : t.place.size = es.size) (hdm : t.dummies = #[]) (hfl : es.size ≤ t.mask)
    (nd : (L.map (·.1)).Nodup) (is_ : ∀ p ∈ L, NestedIs s.heap p.1 p.2 ∧ p.1.depth ≤ 8 ∧ num p.1 = true ∧ p.2.scannable = sc ∧ ∀ y t, p.2 ≠ .str y t) (pl : t.plain = true) (ld : w.params.followText "set-order" = true ∨ t.led = true) (few : L.length < lim sc) {wanted M : Nat}
    (hw : SetTable.sizeAbove wanted - 1 = M) (hM : MK M) (hw2 : SetTable.sizeAbove wanted ≤ 8192) (hn : L.length * 5 < M * 3) :
    ∃ t' order L2, t.relaid (es.map (·.1)) wanted = some (t', order) ∧ (order.filterMap (es[·]?)).size = es.size ∧ order.toList.Perm (List.range es.size) ∧ t'.fits es.size = true ∧ L2.Perm L ∧
      Sx P w sc (s.heap.update a (Obj.putSet (order.filterMap (es[·]?)) t')) a L2 (order.filterMap (es[·]?)) (ep + 1) t' := by
  have hsl : es.size = L.length := by
    have h := congrArg List.length hrows
    rw [rows_len] at h
    simpa using h
  obtain ⟨t', order, e, hp, T, em, el, epl⟩ := anew t (hs := es.map (·.1)) (wanted := wanted) hw hM.pw (by rw [Array.size_map, hsl]; omega)
  rw [Array.size_map] at hp
  obtain ⟨L2, r1, r2, r3⟩ := in_order (w := w) L es order hrows (by rw [← hsl]; exact hp)
  rw [← r3] at T
  have hs2 : (order.filterMap (es[·]?)).size = es.size := by rw [← Array.length_toList, r1, rows_len, r2.length_eq, hsl]
  have sb : Heap.SameBut a s.heap (s.heap.update a (Obj.putSet (order.filterMap (es[·]?)) t')) := Heap.SameBut.update ..
  have R : Sx P w sc (s.heap.update a (Obj.putSet (order.filterMap (es[·]?)) t')) a L2 (order.filterMap (es[·]?)) (ep + 1) t' :=
    ⟨⟨_, store_at ho hd, ⟨hex.1, hex.2.1, hex.2.2⟩, rfl⟩, r1, T, by rw [em]; exact hM, (r2.map (·.1)).nodup_iff.mpr nd, keep_is (fun p hpm => is_ p (r2.mem_iff.mp hpm)) ho ⟨_, _, _, hd⟩ sb, by rw [epl]; exact pl, by rw [el]; exact ld, by rw [r2.length_eq, em]; exact hn, by rw [r2.length_eq]; exact few⟩
  have hf := R.fits
  rw [hs2] at hf
  exact ⟨t', order, L2, e, hs2, hp, hf, r2, R⟩
/-- what is behind an adding -/
structure Fresh (P : Program) (w : World) (sc : Bool) (s : Shared) (a : Addr) (L : List Ent) (k : NestedKey) (x : Value) (h' : Heap) (L' : List Ent) : Prop where
  same : Heap.SameBut a s.heap h'
  old : k ∈ L.map (·.1) → L' = L
  new : k ∉ L.map (·.1) → L'.Perm ((k, x) :: L)
theorem coversAll_of {order : Array Nat} {n : Nat} (h : order.toList.Perm (List.range n)) : coversAll order n = true := by
  unfold coversAll
  exact List.isPerm_iff.mpr h
/-- the new row is laid -/
theorem laid (R : Sx P w sc s.heap a L es ep t) {k : NestedKey} {x : Value} (hx : NestedIs s.heap k x ∧ k.depth ≤ 8 ∧ num k = true ∧ x.scannable = sc ∧ ∀ y t, x ≠ .str y t) (hfew : L.length + 1 < lim sc) (hm : k ∉ L.map (·.1)) {K : Nat} (hK : way t.mask (k.hash w) K ∉ t.place.toList) (hb : ∀ c, c < K → way t.mask (k.hash w) c ∈ t.place.toList)
    {t1 : SetTable} {p : Nat} (e : t.put (way t.mask (k.hash w) K) = (t1, p)) :
    ∃ L1, L1.Perm ((k, x) :: L) ∧ t1.plain = true ∧ (SetTable.insertAt es p (k.hash w, x)).size = L.length + 1 ∧ t1.fits (SetTable.insertAt es p (k.hash w, x)).size = true ∧
      (t1.tooFull = false → Sx P w sc (s.heap.update a (Obj.putSet (SetTable.insertAt es p (k.hash w, x)) t1)) a L1 (SetTable.insertAt es p (k.hash w, x)) (ep + 1) t1) ∧
      (t1.tooFull = true → ∃ t' order L2, t1.relaid ((SetTable.insertAt es p (k.hash w, x)).map (·.1)) (SetTable.grown (L.length + 1)) = some (t', order) ∧ SetTable.sizeAbove (SetTable.grown (L.length + 1)) ≤ 8192 ∧ (order.filterMap ((SetTable.insertAt es p (k.hash w, x))[·]?)).size = (SetTable.insertAt es p (k.hash w, x)).size ∧ order.toList.Perm (List.range (SetTable.insertAt es p (k.hash w, x)).size) ∧ t'.fits (SetTable.insertAt es p (k.hash w, x)).size = true ∧ L2.Perm ((k, x) :: L) ∧
        Sx P w sc ((s.heap.update a (Obj.putSet (SetTable.insertAt es p (k.hash w, x)) t1)).update a (Obj.putSet (order.filterMap ((SetTable.insertAt es p (k.hash w, x))[·]?)) t')) a L2 (order.filterMap ((SetTable.insertAt es p (k.hash w, x))[·]?)) (ep + 2) t') := by
  obtain ⟨o, ho, hex, hd⟩ := R.ob
  have hroom := R.room
  obtain ⟨q2, q3, q4, q5, q6, q9⟩ := R.tab.put hK hb e
  rw [← hash_put L p (k, x)] at q3
  have pm := put_perm L p (k, x)
  have hin : (SetTable.insertAt es p (k.hash w, x)).toList = rows w (L.take p ++ (k, x) :: L.drop p) := by rw [SetTable.toList_insertAt, rows_put, R.rows]
  have hlen : (L.take p ++ (k, x) :: L.drop p).length = L.length + 1 := pm.length_eq
  have hes : (SetTable.insertAt es p (k.hash w, x)).size = L.length + 1 := by rw [← Array.length_toList, hin, rows_len, hlen]
  have nd1 : ((L.take p ++ (k, x) :: L.drop p).map (·.1)).Nodup := (pm.map (·.1)).nodup_iff.mpr (List.nodup_cons.mpr ⟨hm, R.nd⟩)
  have is1 : ∀ q ∈ L.take p ++ (k, x) :: L.drop p, NestedIs s.heap q.1 q.2 ∧ q.1.depth ≤ 8 ∧ num q.1 = true ∧ q.2.scannable = sc ∧ ∀ y t, q.2 ≠ .str y t := fun q hq => by
    rcases List.mem_cons.mp (pm.mem_iff.mp hq) with rfl | hq
    · exact hx
    · exact R.is_ q hq
  have pl1 : t1.plain = true := by rw [q6]; exact R.plain
  have ld1 : w.params.followText "set-order" = true ∨ t1.led = true := by rw [q5]; exact R.led
  generalize SetTable.insertAt es p (k.hash w, x) = es1 at hin hes ⊢
  generalize L.take p ++ (k, x) :: L.drop p = L1 at pm hlen q3 nd1 hin is1
  have hz : t1.place.size = es1.size := by
    have := q3.sz
    rw [List.length_map, hlen] at this
    rw [this, hes]
  have hfull : t1.fill = L.length + 1 := by rw [q9, List.length_map]
  have hfl : L.length + 1 ≤ t1.mask := by
    rw [q4]
    rcases R.mok with e | e | e | e | e | e <;> omega
  refine ⟨L1, pm, pl1, hes, ?_, fun hf => ?_, fun hf => ?_⟩
  · unfold SetTable.fits
    rw [hfull, Bool.and_eq_true, beq_iff_eq, decide_eq_true_eq]
    exact ⟨hz, hfl⟩
  · have sb : Heap.SameBut a s.heap (s.heap.update a (Obj.putSet es1 t1)) := Heap.SameBut.update ..
    refine ⟨⟨_, store_at ho hd, ⟨hex.1, hex.2.1, hex.2.2⟩, rfl⟩, hin, q3, by rw [q4]; exact R.mok, nd1, keep_is is1 ho ⟨_, _, _, hd⟩ sb, pl1, ld1, ?_, by rw [hlen]; exact hfew⟩
    unfold SetTable.tooFull at hf
    rw [decide_eq_false_iff_not, hfull] at hf
    rw [hlen]
    omega
  · unfold SetTable.tooFull at hf
    rw [decide_eq_true_eq, hfull, q4] at hf
    have hlim := lim_le sc
    obtain ⟨M, g1, g2, g3, g4, g5⟩ := grows R.mok hroom hf (by omega)
    have sb : Heap.SameBut a s.heap (s.heap.update a (Obj.putSet es1 t1)) := Heap.SameBut.update ..
    have ho1 := store_at (es' := es1) (t' := t1) ho hd
    have is2 := keep_is is1 ho ⟨_, _, _, hd⟩ sb
    obtain ⟨t', order, L2, e1, e2, e3, e4, e5, e6⟩ := relay_to (s := { s with heap := s.heap.update a (Obj.putSet es1 t1) }) ho1 ⟨hex.1, hex.2.1, hex.2.2⟩ rfl hin hz q3.dm (by rw [hes]; exact hfl) nd1 is2 pl1 ld1 (by rw [hlen]; exact hfew) g2 g1 g3 (by rw [hlen]; exact g4)
    exact ⟨t', order, L2, e1, g3, e2, e3, e4, e5.trans pm, e6⟩
/-- ADDING a key -/
theorem add_key (R : Sx P w sc s.heap a L es ep t) {k : NestedKey} {x : Value} (hx : NestedIs s.heap k x ∧ k.depth ≤ 8 ∧ num k = true ∧ x.scannable = sc ∧ ∀ y t, x ≠ .str y t) (hu : A.units + 9 < cLine) (hfew : L.length + 1 < lim sc) {Q : Bool → Shared → Prop}
    (hQ : ∀ b h' L' es' ep' t', Fresh P w sc s a L k x h' L' → Sx P w sc h' a L' es' ep' t' → Q b { s with heap := h' }) :
    wpAny (model P w) A (setAddHashed a x (k.hash w)) Q E s := by
  obtain ⟨o, ho, hex, hd⟩ := R.ob
  have hsl := R.size
  have hlim := lim_le sc
  unfold setAddHashed
  refine wpAny_holding ?_
  rw [show (100000 : Nat) = 99999 + 1 from rfl, setAddHashedIn_succ]
  refine wpAny_bind (wpAny_setState_of ho hd R.fits ?_)
  dsimp only
  have tail : k ∉ L.map (·.1) → ∀ h' L' es' ep' t', Heap.SameBut a s.heap h' → L'.Perm ((k, x) :: L) → Sx P w sc h' a L' es' ep' t' → Q true { s with heap := h' } := fun hm h' L' es' ep' t' sb pm R' => hQ true h' L' es' ep' t' ⟨sb, fun z => absurd z hm, fun _ => pm⟩ R'
  cases sc with
  | false =>
    refine wp_if_neg (by simp [byScan, hx.2.2.2.1]) ?_
    try refine wpAny_bind (wpAny_pure ?_)
    refine wpAny_bind (srch_at R hx.1 hx.2.1 hu (fun hm => ?_) fun K hm hK hb => ?_)
    · dsimp only
      exact wpAny_pure (hQ false s.heap L es ep t ⟨Heap.SameBut.refl a s.heap, fun _ => rfl, fun z => absurd hm z⟩ R)
    · dsimp only
      refine wpAny_bind (wpAny_setState_of ho hd R.fits ?_)
      dsimp only
      generalize hpt : t.put (way t.mask (k.hash w) K) = pt
      obtain ⟨t1, p⟩ := pt
      obtain ⟨L1, pm, pl1, hes, hfit, hno, hyes⟩ := laid R hx hfew hm hK hb hpt
      dsimp only
      first
        | (refine wpAny_bind ?_; refine wp_if_pos pl1 ?_; refine hbv_key k x 8 s hx.1 hx.2.2.1 hx.2.1 _ _ _ ?_)
        | refine wp_if_pos pl1 (wpAny_bind (hbv_key k x 8 s hx.1 hx.2.2.1 hx.2.1 _ _ _ ?_))
      simp only [if_true]
      generalize SetTable.insertAt es p (k.hash w, x) = es1 at hes hfit hno hyes ⊢
      refine wpAny_bind (wpAny_storeSet_of ho hd ?_ (by rw [hes, sizeLine_eq]; omega))
      have sb : Heap.SameBut a s.heap (s.heap.update a (Obj.putSet es1 t1)) := Heap.SameBut.update ..
      have ho1 := store_at (es' := es1) (t' := t1) ho hd
      cases hf : t1.tooFull with
      | false =>
        have R' := hno hf
        first
          | refine wp_if_neg (by simp [hf]) ?_
          | (refine wpAny_bind ?_; refine wp_if_neg (by simp [hf]) ?_; refine wpAny_pure ?_)
        exact wpAny_pure (tail hm _ L1 es1 (ep + 1) t1 sb pm R')
      | true =>
        obtain ⟨t', order, L2, e1, e2, e3, e4, e5, e6, R'⟩ := hyes hf
        first
          | (refine wpAny_bind ?_; refine wp_if_pos (by simp [hf]) ?_)
          | (refine wp_if_pos (by simp [hf]) ?_; refine wpAny_bind ?_)
        rw [hsl, setRelay_eq]
        refine wpAny_bind (wpAny_setState_of ho1 rfl hfit ?_)
        dsimp only
        refine wp_if_neg (by rw [sizeLine_eq]; omega) ?_
        try refine wpAny_bind (wpAny_pure ?_)
        rw [e1]
        dsimp only
        refine wpAny_bind ?_
        refine wp_if_neg (by rw [e3]; simp) ?_
        try refine wpAny_bind (wpAny_pure ?_)
        refine wpAny_pure ?_
        dsimp only
        refine wpAny_storeSet_of ho1 rfl ?_ (by rw [e3, hes, sizeLine_eq]; omega)
        exact wpAny_pure (tail hm _ L2 _ (ep + 2) t' (sb.trans (Heap.SameBut.update ..)) e6 R')
  | true =>
    have hall : es.all (·.2.scannable) = true := by
      rw [← Array.all_toList, R.rows, List.all_eq_true]
      intro e he
      obtain ⟨p, hp, rfl⟩ := List.mem_map.mp he
      exact (R.is_ p hp).2.2.2.1
    refine wp_if_pos (by
      unfold byScan
      rw [hx.2.2.2.1, hall, hsl]
      have : L.length < scanBound := by
        have hfew' : L.length + 1 < 4095 := hfew
        unfold scanBound; omega
      simp [this]) ?_
    refine wpAny_bind ?_
    unfold setAddByScan
    refine wpAny_bind (wpAny_rule ?_)
    have hgw : ∀ (b : Bool) {s₁ : Shared} {Q' : Unit → Shared → Prop}, Q' () s₁ → wpAny (model P w) A (match b with | true => rule "set.scan.the-table-gave-way" | false => pure ()) Q' E s₁ := fun b s₁ Q' hq => by
      cases b
      · exact wpAny_pure hq
      · exact wpAny_rule hq
    refine wpAny_bind ?_
    have hsc : wpAny (model P w) A (setScanFrom a x (k.hash w) true es.toList 0) (fun m s' => (k ∈ L.map (·.1) ∧ (∃ j, m = .found j) ∧ s' = s) ∨ (k ∉ L.map (·.1) ∧ m = .absent ∧ s' = s)) E s := by
      rw [R.rows]
      exact scan_from ho hd R.fits hx.1 hx.2.1 hu L 0 (fun p hp => ⟨(R.is_ p hp).1, (R.is_ p hp).2.1⟩) (fun hm j => .inl ⟨hm, ⟨j, rfl⟩, rfl⟩) fun hm => .inr ⟨hm, rfl, rfl⟩
    have hsc2 : setScan a x (k.hash w) true es = setScanFrom a x (k.hash w) true es.toList 0 := by
      unfold setScan
      cases x with
      | str y t => exact absurd rfl (hx.2.2.2.2 y t)
      | _ => rfl
    rw [hsc2]
    refine wpAny_mono hsc (fun m s' hm => ?_) fun _ _ z => z
    rcases hm with ⟨hm, ⟨j, rfl⟩, rfl⟩ | ⟨hm, rfl, rfl⟩
    · dsimp only
      refine wpAny_pure ?_
      dsimp only
      exact wpAny_pure (hQ false s'.heap L es ep t ⟨Heap.SameBut.refl a s'.heap, fun _ => rfl, fun z => absurd hm z⟩ R)
    · dsimp only
      obtain ⟨K, hKf, _, hK, hb⟩ := R.path (k.hash w)
      generalize hpt : t.put (way t.mask (k.hash w) K) = pt
      obtain ⟨t1, p⟩ := pt
      obtain ⟨L1, pm, pl1, hes, hfit, hno, hyes⟩ := laid R hx hfew hm hK hb hpt
      have hfree : t.freeSlot (k.hash w) = some (way t.mask (k.hash w) K, false) := by
        unfold SetTable.freeSlot
        have spec := go_spec t R.tab.ris R.tab.dm (fun _ => k.hash w + 1) (k.hash w) (10 * SetTable.turns t.mask) K (runAt t.mask (SetTable.bits (k.hash w) % (t.mask + 1)) (SetTable.bits (k.hash w))) rfl hKf hb hK
        rcases spec with ⟨_, _, _, _, h, _⟩ | ⟨_, h⟩
        · exact absurd h (by omega)
        · have h' : t.probe (fun _ => k.hash w + 1) (k.hash w) (t.probeStart (k.hash w)) = some (.empty (way t.mask (k.hash w) K) none) := h
          rw [h']; rfl
      have hlay : layNew t es (k.hash w) x = (SetTable.insertAt es p (k.hash w, x), t1, false, false) := by
        unfold layNew
        rw [hfree]
        dsimp only
        rw [hpt]
        dsimp only
        unfold SetTable.orStandIn
        rw [hfit]; rfl
      rw [hlay]
      dsimp only
      generalize SetTable.insertAt es p (k.hash w, x) = es1 at hes hfit hno hyes ⊢
      refine wpAny_bind (hgw false ?_)
      have hbv := hashByValue_scannable 8 hx.2.2.2.1
      have hpk : plainKind x = true := by
        obtain ⟨x1, _, x3, x4, x5⟩ := hx
        cases x with
        | str y t => exact absurd rfl (x5 y t)
        | none => rfl
        | bool b => rfl
        | int i t => rfl
        | _ => cases x1 <;> cases x4
      rw [hpk] at hbv
      refine wp_if_pos pl1 ?_
      rw [hbv]
      refine wpAny_bind (wpAny_pure ?_)
      simp only [if_true]
      refine wpAny_bind (wpAny_storeSet_of ho hd ?_ (by rw [hes, sizeLine_eq]; omega))
      have sb : Heap.SameBut a s'.heap (s'.heap.update a (Obj.putSet es1 t1)) := Heap.SameBut.update ..
      have ho1 := store_at (es' := es1) (t' := t1) ho hd
      cases hf : t1.tooFull with
      | false =>
        refine wp_if_neg (by simp) ?_
        refine wpAny_pure ?_
        dsimp only
        exact wpAny_pure (tail hm _ L1 es1 (ep + 1) t1 sb pm (hno hf))
      | true =>
        obtain ⟨t', order, L2, e1, e2, e3, e4, e5, e6, R'⟩ := hyes hf
        refine wp_if_pos (by simp) ?_
        have hall : relayAll t1 es1 (SetTable.grown es1.size) = (order.filterMap (es1[·]?), t', false) := by
          unfold relayAll
          rw [hes, e1]
          dsimp only
          rw [← hes, coversAll_of e4, e3, e5]; rfl
        rw [hall]
        dsimp only
        refine wpAny_bind (hgw false ?_)
        refine wpAny_bind (wpAny_storeSet_of ho1 rfl ?_ (by rw [e3, hes, sizeLine_eq]; omega))
        refine wpAny_pure ?_
        dsimp only
        exact wpAny_pure (tail hm _ L2 _ (ep + 2) t' (sb.trans (Heap.SameBut.update ..)) e6 R')
end
end SY
end
section
namespace SY
open PySem PySem.Spec PyProof.Rows L2
def GoodE (sc : Bool) (h : Heap) (p : Ent) : Prop := NestedIs h p.1 p.2 ∧ p.1.depth ≤ 8 ∧ num p.1 = true ∧ p.2.scannable = sc ∧ ∀ y t, p.2 ≠ .str y t
def so (w : World) : Obj := { cls := .type "set", dict := none, data := .set #[] 0 (.fresh 0 0 (!w.params.followText "set-order")) }
/-- the first of each key -/
def nubE (ks : List Ent) : List Ent := ks.foldl (fun acc p => if p.1 ∈ acc.map (·.1) then acc else acc ++ [p]) []
theorem nubE_app (ks : List Ent) (p : Ent) : nubE (ks ++ [p]) = if p.1 ∈ (nubE ks).map (·.1) then nubE ks else nubE ks ++ [p] := by
  unfold nubE
  rw [List.foldl_append]
  rfl
/-- what the set has met of the first i items -/
structure Met (ks : List Ent) (i : Nat) (L : List Ent) : Prop where
  pm : L.Perm (nubE (ks.take i))
theorem nubE_sub : ∀ (ks acc : List Ent) (p : Ent), p ∈ ks.foldl (fun acc p => if p.1 ∈ acc.map (·.1) then acc else acc ++ [p]) acc → p ∈ acc ∨ p ∈ ks
  | [], acc, p, h => .inl h
  | k :: ks, acc, p, h => by
    rw [List.foldl_cons] at h
    rcases nubE_sub ks _ p h with z | z
    · split at z
      · exact .inl z
      · rcases List.mem_append.mp z with z | z
        · exact .inl z
        · exact .inr (by rw [List.mem_singleton.mp z]; exact List.mem_cons_self)
    · exact .inr (List.mem_cons_of_mem _ z)
theorem Met.sub {ks L : List Ent} {i : Nat} (g : Met ks i L) : ∀ p ∈ L, p ∈ ks.take i := fun p hp => by
  rcases nubE_sub _ _ p (g.pm.mem_iff.mp hp) with z | z
  · cases z
  · exact z
theorem Met.zero (ks : List Ent) : Met ks 0 [] := ⟨by simp [nubE]⟩
theorem Met.next {ks L L' : List Ent} {i : Nat} {x : Ent} (g : Met ks i L) (h : ks[i]? = some x) (h1 : x.1 ∈ L.map (·.1) → L' = L) (h2 : x.1 ∉ L.map (·.1) → L'.Perm (x :: L)) : Met ks (i + 1) L' := by
  have e : ks.take (i + 1) = ks.take i ++ [x] := by rw [List.take_succ, h]; rfl
  refine ⟨?_⟩
  rw [e, nubE_app]
  have m : x.1 ∈ (nubE (ks.take i)).map (·.1) ↔ x.1 ∈ L.map (·.1) := (g.pm.map (·.1)).symm.mem_iff
  by_cases c : x.1 ∈ L.map (·.1)
  · rw [if_pos (m.mpr c), h1 c]; exact g.pm
  · rw [if_neg (fun z => c (m.mp z))]
    exact (h2 c).trans ((g.pm.cons x).trans (List.perm_append_singleton x _).symm)
section
variable {P : Program} {w : World} {A : Around} {E : Value → Shared → Prop} {s : Shared} {sc : Bool}
theorem GoodE.keep {h h' : Heap} {p : Ent} (g : GoodE sc h p) (k : ∀ b o, h.get? b = some o → h'.get? b = some o) : GoodE sc h' p := ⟨NestedIs.at (fun b o _ _ e _ => k b o e) _ _ g.1, g.2⟩
theorem Sx.keep {h h' : Heap} {a : Addr} {L : List Ent} {es : Array (Int × Value)} {ep : Nat} {t : SetTable} (R : Sx P w sc h a L es ep t) (ha : ∀ o, h.get? a = some o → h'.get? a = some o) (hL : ∀ p ∈ L, GoodE sc h' p) : Sx P w sc h' a L es ep t := by
  obtain ⟨o, ho, r⟩ := R.ob
  exact ⟨⟨o, ha o ho, r⟩, R.rows, R.tab, R.mok, R.nd, hL, R.plain, R.led, R.room, R.few⟩
theorem set_new {h : Heap} {a : Addr} (ho : h.get? a = some (so w)) : Sx P w sc h a [] #[] 0 (.fresh 0 0 (!w.params.followText "set-order")) where
  ob := ⟨_, ho, ⟨rfl, rfl, rfl⟩, rfl⟩
  rows := rfl
  tab := ⟨List.Pairwise.nil, rfl, rfl, MK.pw (.inl rfl), fun x hx => (by cases hx), fun i h j hi => (by simp at hi)⟩
  mok := .inl rfl
  nd := List.nodup_nil
  is_ := fun p hp => (by cases hp)
  plain := rfl
  led := by
    show _ ∨ (!w.params.followText "set-order") = true
    cases w.params.followText "set-order"
    · exact .inr rfl
    · exact .inl rfl
  room := by show 0 * 5 < 7 * 3; decide
  few := by cases sc <;> decide
/-- the loop that fills a set -/
theorem fill_set {I : Addr} {fp wr : List Addr} {G : Array GenState → Array GenState → Prop} {n : Nat} {Pv : Nat → Value → Prop} {St : Nat → Shared → Prop} {R : Result → Shared → Prop}
    (W : WalksS P w A.in1 I fp wr G n Pv St) (S : Addr) (hSf : S ∉ fp) (ks : List Ent) (hn : n = ks.length) (hfew : ∀ M : List Ent, (∀ p ∈ M, p ∈ ks) → (M.map (·.1)).Nodup → M.length + 1 < lim sc) (hval : ∀ i v, Pv i v → ∃ p, ks[i]? = some p ∧ v = p.2)
    (h0 : Heap) (hk : ∀ p ∈ ks, GoodE sc h0 p) (hS0 : h0.get? S = none) (hw0 : ∀ b ∈ wr, h0.get? b = none) (hu : A.in1.units + 9 < cLine) :
    ∀ (k i : Nat) (s : Shared), n - i = k → i ≤ n → St i s → (∀ b o, h0.get? b = some o → s.heap.get? b = some o) → (∃ L es ep t, Sx P w sc s.heap S L es ep t ∧ Met ks i L) →
      (∀ s' L es ep t, Moved (S :: wr) G s s' → Sx P w sc s'.heap S L es ep t → Met ks n L → (∀ b o, h0.get? b = some o → s'.heap.get? b = some o) → R (.ok (.ret .none)) s') →
      codeAny (model P w) A (.builtin "set.update.loop" ⟨[.ref S, .ref I], []⟩) R s := by
  have hSw : S ∉ wr := fun h => hSf (W.sub _ h)
  have hsub : ∀ b ∈ wr, b ∈ S :: wr := fun b hb => List.mem_cons_of_mem _ hb
  have keepM : ∀ {s s' : Shared}, Moved wr G s s' → (∀ b o, h0.get? b = some o → s.heap.get? b = some o) → ∀ b o, h0.get? b = some o → s'.heap.get? b = some o := fun hm hkp b o e =>
    hm.heap b o (fun hb => by rw [hw0 b hb] at e; cases e) (hkp b o e)
  have inK : ∀ {i : Nat} {L : List Ent}, Met ks i L → ∀ p ∈ L, p ∈ ks := fun g p hp => List.mem_of_mem_take (g.sub p hp)
  intro k
  induction k with
  | zero =>
    intro i s hk' hi hst hkp ⟨L, es, ep, t, hS, g⟩ hR
    have hin : i = n := by omega
    subst hin
    refine codeAny_builtin F.entry_set_update_loop ?_
    rw [Around.under_plainId F.plain_set_update_loop _]
    show wpAny _ A.in1 (pyNext (.ref I) >>= _) _ _ s
    refine wpAny_bind (W.done s _ _ hst fun s' hm => ?_)
    show wpAny _ A.in1 (ret Value.none) _ _ s'
    have hkp' := keepM hm hkp
    exact wpAny_pure (hR s' L es ep t (hm.mono hsub) (hS.keep (fun o e => hm.heap S o hSw e) fun p hp => (hk p (inK g p hp)).keep hkp') g hkp')
  | succ k ih =>
    intro i s hk' hi hst hkp ⟨L, es, ep, t, hS, g⟩ hR
    have hlt : i < n := by omega
    refine codeAny_builtin F.entry_set_update_loop ?_
    rw [Around.under_plainId F.plain_set_update_loop _]
    show wpAny _ A.in1 (pyNext (.ref I) >>= _) _ _ s
    refine wpAny_bind (W.item i s _ _ hlt hst fun v s' hP hst' hm => ?_)
    obtain ⟨p, hp, rfl⟩ := hval i v hP
    have hkp' := keepM hm hkp
    have hS' : Sx P w sc s'.heap S L es ep t := hS.keep (fun o e => hm.heap S o hSw e) fun q hq => (hk q (inK g q hq)).keep hkp'
    have hx : GoodE sc s'.heap p := (hk p (List.mem_of_getElem? hp)).keep hkp'
    show wpAny _ A.in1 (holding [p.2] (setAdd S p.2) >>= _) _ _ s'
    refine wpAny_bind (wpAny_holding ?_)
    unfold setAdd
    refine wpAny_holding ?_
    refine wpAny_bind (pyHash_key p.1 p.2 _ _ _ hx.1 (by have := hx.2.1; omega) ?_)
    refine add_key (s := { s' with toks := s'.toks + p.1.draws }) hS' hx hu (hfew L (inK g) hS.nd) fun b h' L' es' ep' t' fr hS2 => ?_
    have g' : Met ks (i + 1) L' := g.next hp fr.old fr.new
    have hsb := fr.same
    have hkp2 : ∀ b o, h0.get? b = some o → h'.get? b = some o := fun b o e => (hsb.2 b (fun z => by rw [z, hS0] at e; cases e)).trans (hkp' b o e)
    refine wpAny_pure ⟨plainId_quiet F.plain_set_update_loop _, ih (i + 1) _ (by omega) hlt (W.frame _ s' _ _ hst' (Nat.le_add_right _ _) fun b hb o e => ?_) hkp2 ⟨L', es', ep', t', hS2, g'⟩ fun s'' L2 es2 ep2 t2 hm'' hS'' g'' hkp'' => ?_⟩
    · rw [hsb.2 b (fun h : b = S => hSf (by rw [← h]; exact hb))]; exact e
    · refine hR s'' L2 es2 ep2 t2 (Moved.trans W.gtrans ((hm.mono hsub).then_heap (Nat.le_add_right _ _) fun b o hb e => ?_) hm'') hS'' g'' hkp''
      rw [hsb.2 b (fun h : b = S => hb (by rw [h]; exact List.mem_cons_self))]; exact e
set_option maxRecDepth 100000 in
set_option maxHeartbeats 3200000 in
/-- set(xs), xs a list -/
theorem set_of_list {l : Addr} {items : Array Value} (ks : List Ent) {Q : Value → Shared → Prop} (hh : A.handled = none) (hl : s.heap.IsList l items) (hit : items.toList = ks.map (·.2))
    (hk : ∀ p ∈ ks, GoodE sc s.heap p) (hfew : ∀ M : List Ent, (∀ p ∈ M, p ∈ ks) → (M.map (·.1)).Nodup → M.length + 1 < lim sc) (hu : A.units + 13 < cLine)
    (h : ∀ (h' : Heap) (tk : Nat) L es ep t, Sx P w sc h' s.heap.objs.size L es ep t → Met ks ks.length L → (∀ b o, s.heap.get? b = some o → h'.get? b = some o) → Q (.ref s.heap.objs.size) { s with heap := h', toks := tk }) :
    wpAny (model P w) A (call (.type "set") [.ref l]) Q E s := by
  have hisz : items.size = ks.length := by rw [← Array.length_toList, hit, List.length_map]
  obtain ⟨c, tl, hmro⟩ := F.called_set.mro
  have hmade := F.called_set.made
  have hsub := F.called_set.sub
  refine wpAny_call (codeAny_of_tree ?_)
  show wpAny _ _ (callAny (.type "set") _) _ _ _
  refine wpAny_pure ⟨Code.quiet_builtin _ (by decide +kernel), codeAny_builtin F.entry_type_call ?_⟩
  rw [Around.under_plain (weight_type_call_type "set" [.ref l] []) rfl]
  have h1 := F.called_set.notType
  have h2 := F.called_set.canCreate
  have hct := F.typeCall_set_1 (.ref l)
  repeat (any_goals (first | assumption | wp_step))
  refine codeAny_mono (code_set_led1 (.ref l) (E := E) (Q₁ := fun obj s₁ => obj = .ref s.heap.objs.size ∧ s₁ = { s with heap := s.heap.push (so w) }) ⟨rfl, rfl⟩) fun r s₁ hr => ?_
  cases r with
  | error e => exact hr
  | ok fl =>
    cases fl with
    | ret obj =>
      obtain ⟨rfl, rfl⟩ := hr
      have hS : (s.heap.push (so w)).get? s.heap.objs.size = some (so w) := Heap.get?_push_size _ rfl
      have hT : Shared.TypeIs { s with heap := s.heap.push (so w) } (.ref s.heap.objs.size) "set" := ⟨_, hS, rfl⟩
      have hli := F.called_set.init.lookup
      have hbi := F.called_set.init.bind (.ref s.heap.objs.size)
      repeat (any_goals (first | assumption | wp_step))
      refine codeAny_mono (codeAny_call_builtin (R := wants (fun r s₂ => r = .none ∧ ∃ h' tk L es ep t, s₂ = { s with heap := h', toks := tk } ∧ Sx P w sc h' s.heap.objs.size L es ep t ∧ Met ks ks.length L ∧
          (∀ b o, s.heap.get? b = some o → h'.get? b = some o)) E) F.called_set.init.plain F.entry_set_init (check_set_init_1 hT ?_)) fun r₂ s₂ hr₂ => ?_
      · obtain ⟨ol, hol, hcl, nl, hdl⟩ := hl
        obtain ⟨ocls, odict, odata, oslots⟩ := ol
        simp only at hcl hdl
        subst hcl; subst hdl
        have hol' : (s.heap.push (so w)).get? l = some { cls := .type "list", dict := odict, data := .seq items nl, slots := oslots } := Heap.get?_push_of_some _ hol
        have hsls := F.sub_list_set
        have hslf := F.sub_list_frozenset
        have hne : (Value.type "list" == Value.type "dict") = false := by decide
        have hl1 : (s.heap.push (so w)).IsList l items := ⟨_, hol', rfl, nl, rfl⟩
        unfold Builtin.«set.__init__» noKeywords Builtin.Frozenset.updateFrom
        generalize hPI : pyIter = PI
        wp_walk
        subst hPI
        refine wpAny_pyIter_list hl1 ?_
        refine wpAny_bind (wpAny_runValue ?_)
        have hlS : l < s.heap.objs.size := Heap.lt_size hol
        have hh3 : A.in1.in1.in1.handled = none := by simp [hh]
        have hz1 : (s.heap.push (so w)).objs.size = s.heap.objs.size + 1 := Heap.size_push ..
        have hneI : l ≠ (s.heap.push (so w)).objs.size := by rw [hz1]; exact Nat.ne_of_lt (Nat.lt_succ_of_lt hlS)
        have hSf : s.heap.objs.size ∉ [(s.heap.push (so w)).objs.size, l] := by
          rw [hz1]
          simp only [List.mem_cons, List.not_mem_nil, or_false, not_or]
          exact ⟨Nat.ne_of_lt (Nat.lt_succ_self _), Nat.ne_of_gt hlS⟩
        have hval : ∀ (i : Nat) (v : Value), items[i]? = some v → ∃ p, ks[i]? = some p ∧ v = p.2 := fun i v hv => by
          have q : items.toList[i]? = some v := by rw [Array.getElem?_toList]; exact hv
          rw [hit, List.getElem?_map] at q
          cases hq : ks[i]? with
          | none => rw [hq] at q; cases q
          | some p => rw [hq] at q; exact ⟨p, rfl, (Option.some.inj q).symm⟩
        have none_of : ∀ b, s.heap.objs.size ≤ b → s.heap.get? b = none := fun b hb => by
          cases q : s.heap.get? b with
          | none => rfl
          | some o => exact absurd (Nat.lt_of_lt_of_le (Heap.lt_size q) hb) (Nat.lt_irrefl _)
        refine fill_set ((Walks.list hh3 _ l hneI items).toS) s.heap.objs.size hSf ks hisz hfew hval s.heap hk (none_of _ (Nat.le_refl _)) (fun b hb => none_of b (by rw [List.mem_singleton.mp hb, hz1]; exact Nat.le_succ _)) (by simp only [Around.in1_units] at *; omega) (items.size - 0) 0 _ (by omega) (Nat.zero_le _)
          ⟨⟨_, Heap.get?_push_size _ rfl, rfl, rfl⟩, (hl1.push _)⟩ (fun b o e => Heap.get?_push_of_some _ (Heap.get?_push_of_some _ e)) ?hS0 ?hR
        case hS0 => exact ⟨[], #[], 0, _, set_new (Heap.get?_push_of_some _ hS), Met.zero ks⟩
        case hR =>
          intro s' L es ep t hm hS' g' hkp
          obtain ⟨h', g2, d', tk', os'⟩ := s'
          have eg : g2 = s.gens := hm.gens
          have ed : d' = s.drawn := hm.drawn
          have eo : os' = s.os := hm.os
          subst eg; subst ed; subst eo
          show wpAny _ _ _ _ _ _
          refine wpAny_pure ?_
          show wpAny _ _ (ret Value.none) _ _ _
          rw [hisz] at g'
          exact wpAny_pure ⟨rfl, h', tk', L, es, ep, t, rfl, hS', g', hkp⟩
      · cases r₂ with
        | error e => exact hr₂
        | ok fl₂ =>
          cases fl₂ with
          | ret r =>
            obtain ⟨rfl, h', tk, L, es, ep, t, rfl, hS', g', hk'⟩ := hr₂
            repeat (any_goals (first | assumption | wp_step))
            exact h _ _ _ _ _ _ hS' g' hk'
          | _ => exact hr₂.elim
    | _ => exact hr.elim
set_option maxRecDepth 100000 in
set_option maxHeartbeats 3200000 in
/-- set(xs), xs a tuple -/
theorem set_of_tuple {l : Addr} {items : Array Value} (ks : List Ent) {Q : Value → Shared → Prop} (hh : A.handled = none) (hl : s.heap.IsTuple l items) (hit : items.toList = ks.map (·.2))
    (hk : ∀ p ∈ ks, GoodE sc s.heap p) (hfew : ∀ M : List Ent, (∀ p ∈ M, p ∈ ks) → (M.map (·.1)).Nodup → M.length + 1 < lim sc) (hu : A.units + 13 < cLine)
    (h : ∀ (h' : Heap) (tk : Nat) L es ep t, Sx P w sc h' s.heap.objs.size L es ep t → Met ks ks.length L → (∀ b o, s.heap.get? b = some o → h'.get? b = some o) → Q (.ref s.heap.objs.size) { s with heap := h', toks := tk }) :
    wpAny (model P w) A (call (.type "set") [.ref l]) Q E s := by
  have hisz : items.size = ks.length := by rw [← Array.length_toList, hit, List.length_map]
  obtain ⟨c, tl, hmro⟩ := F.called_set.mro
  have hmade := F.called_set.made
  have hsub := F.called_set.sub
  refine wpAny_call (codeAny_of_tree ?_)
  show wpAny _ _ (callAny (.type "set") _) _ _ _
  refine wpAny_pure ⟨Code.quiet_builtin _ (by decide +kernel), codeAny_builtin F.entry_type_call ?_⟩
  rw [Around.under_plain (weight_type_call_type "set" [.ref l] []) rfl]
  have h1 := F.called_set.notType
  have h2 := F.called_set.canCreate
  have hct := F.typeCall_set_1 (.ref l)
  repeat (any_goals (first | assumption | wp_step))
  refine codeAny_mono (code_set_led1 (.ref l) (E := E) (Q₁ := fun obj s₁ => obj = .ref s.heap.objs.size ∧ s₁ = { s with heap := s.heap.push (so w) }) ⟨rfl, rfl⟩) fun r s₁ hr => ?_
  cases r with
  | error e => exact hr
  | ok fl =>
    cases fl with
    | ret obj =>
      obtain ⟨rfl, rfl⟩ := hr
      have hS : (s.heap.push (so w)).get? s.heap.objs.size = some (so w) := Heap.get?_push_size _ rfl
      have hT : Shared.TypeIs { s with heap := s.heap.push (so w) } (.ref s.heap.objs.size) "set" := ⟨_, hS, rfl⟩
      have hli := F.called_set.init.lookup
      have hbi := F.called_set.init.bind (.ref s.heap.objs.size)
      repeat (any_goals (first | assumption | wp_step))
      refine codeAny_mono (codeAny_call_builtin (R := wants (fun r s₂ => r = .none ∧ ∃ h' tk L es ep t, s₂ = { s with heap := h', toks := tk } ∧ Sx P w sc h' s.heap.objs.size L es ep t ∧ Met ks ks.length L ∧
          (∀ b o, s.heap.get? b = some o → h'.get? b = some o)) E) F.called_set.init.plain F.entry_set_init (check_set_init_1 hT ?_)) fun r₂ s₂ hr₂ => ?_
      · obtain ⟨ol, hol, hcl, nl, hdl⟩ := hl
        obtain ⟨ocls, odict, odata, oslots⟩ := ol
        simp only at hcl hdl
        subst hcl; subst hdl
        have hol' : (s.heap.push (so w)).get? l = some { cls := .type "tuple", dict := odict, data := .seq items nl, slots := oslots } := Heap.get?_push_of_some _ hol
        have hsls := F.sub_tuple_set
        have hslf := F.sub_tuple_frozenset
        have hne : (Value.type "tuple" == Value.type "dict") = false := by decide
        have hl1 : (s.heap.push (so w)).IsTuple l items := ⟨_, hol', rfl, nl, rfl⟩
        unfold Builtin.«set.__init__» noKeywords Builtin.Frozenset.updateFrom
        generalize hPI : pyIter = PI
        wp_walk
        subst hPI
        refine wpAny_pyIter_tuple hl1 ?_
        refine wpAny_bind (wpAny_runValue ?_)
        have hlS : l < s.heap.objs.size := Heap.lt_size hol
        have hh3 : A.in1.in1.in1.handled = none := by simp [hh]
        have hz1 : (s.heap.push (so w)).objs.size = s.heap.objs.size + 1 := Heap.size_push ..
        have hneI : l ≠ (s.heap.push (so w)).objs.size := by rw [hz1]; exact Nat.ne_of_lt (Nat.lt_succ_of_lt hlS)
        have hSf : s.heap.objs.size ∉ [(s.heap.push (so w)).objs.size, l] := by
          rw [hz1]
          simp only [List.mem_cons, List.not_mem_nil, or_false, not_or]
          exact ⟨Nat.ne_of_lt (Nat.lt_succ_self _), Nat.ne_of_gt hlS⟩
        have hval : ∀ (i : Nat) (v : Value), items[i]? = some v → ∃ p, ks[i]? = some p ∧ v = p.2 := fun i v hv => by
          have q : items.toList[i]? = some v := by rw [Array.getElem?_toList]; exact hv
          rw [hit, List.getElem?_map] at q
          cases hq : ks[i]? with
          | none => rw [hq] at q; cases q
          | some p => rw [hq] at q; exact ⟨p, rfl, (Option.some.inj q).symm⟩
        have none_of : ∀ b, s.heap.objs.size ≤ b → s.heap.get? b = none := fun b hb => by
          cases q : s.heap.get? b with
          | none => rfl
          | some o => exact absurd (Nat.lt_of_lt_of_le (Heap.lt_size q) hb) (Nat.lt_irrefl _)
        refine fill_set ((Walks.tuple hh3 _ l hneI items).toS) s.heap.objs.size hSf ks hisz hfew hval s.heap hk (none_of _ (Nat.le_refl _)) (fun b hb => none_of b (by rw [List.mem_singleton.mp hb, hz1]; exact Nat.le_succ _)) (by simp only [Around.in1_units] at *; omega) (items.size - 0) 0 _ (by omega) (Nat.zero_le _)
          ⟨⟨_, Heap.get?_push_size _ rfl, rfl, rfl⟩, (hl1.push _)⟩ (fun b o e => Heap.get?_push_of_some _ (Heap.get?_push_of_some _ e)) ?hS0 ?hR
        case hS0 => exact ⟨[], #[], 0, _, set_new (Heap.get?_push_of_some _ hS), Met.zero ks⟩
        case hR =>
          intro s' L es ep t hm hS' g' hkp
          obtain ⟨h', g2, d', tk', os'⟩ := s'
          have eg : g2 = s.gens := hm.gens
          have ed : d' = s.drawn := hm.drawn
          have eo : os' = s.os := hm.os
          subst eg; subst ed; subst eo
          show wpAny _ _ _ _ _ _
          refine wpAny_pure ?_
          show wpAny _ _ (ret Value.none) _ _ _
          rw [hisz] at g'
          exact wpAny_pure ⟨rfl, h', tk', L, es, ep, t, rfl, hS', g', hkp⟩
      · cases r₂ with
        | error e => exact hr₂
        | ok fl₂ =>
          cases fl₂ with
          | ret r =>
            obtain ⟨rfl, h', tk, L, es, ep, t, rfl, hS', g', hk'⟩ := hr₂
            repeat (any_goals (first | assumption | wp_step))
            exact h _ _ _ _ _ _ hS' g' hk'
          | _ => exact hr₂.elim
    | _ => exact hr.elim
end
end SY
end
section
namespace SY
open PySem PySem.Spec PyProof.Rows L2 PySem.W
/-! ### data as keys -/
mutual
def toKey : PyData → NestedKey
  | .none => .none
  | .bool b => .num (if b = true then 1 else 0)
  | .int i => .num i
  | .str x => .text x
  | .tuple ds => .tup (toKeys ds)
  | .list _ => .none
  | .dict _ => .none
def toKeys : List PyData → List NestedKey
  | [] => []
  | d :: ds => toKey d :: toKeys ds
end
mutual
/-- what may be a key: nothing that changes, no text -/
def hk : PyData → Bool
  | .none => true
  | .bool _ => true
  | .int _ => true
  | .str _ => false
  | .tuple ds => hks ds
  | .list _ => false
  | .dict _ => false
def hks : List PyData → Bool
  | [] => true
  | d :: ds => hk d && hks ds
end
mutual
theorem key_num : ∀ d : PyData, hk d = true → num (toKey d) = true
  | .none, _ => rfl
  | .bool _, _ => rfl
  | .int _, _ => rfl
  | .str _, h => by cases h
  | .tuple ds, h => keys_num ds h
  | .list _, h => by cases h
  | .dict _, h => by cases h
theorem keys_num : ∀ ds : List PyData, hks ds = true → nums (toKeys ds) = true
  | [], _ => rfl
  | d :: ds, h => by
    simp only [hks, Bool.and_eq_true] at h
    simp only [toKeys, nums, key_num d h.1, keys_num ds h.2, Bool.and_self]
end
mutual
theorem key_depth : ∀ d : PyData, hk d = true → (toKey d).depth ≤ d.depth
  | .none, _ => Nat.le_refl _
  | .bool _, _ => Nat.le_refl _
  | .int _, _ => Nat.le_refl _
  | .str _, h => by cases h
  | .tuple ds, h => by
    have := keys_depth ds h
    simp only [toKey, NestedKey.depth, PyData.depth]
    omega
  | .list _, h => by cases h
  | .dict _, h => by cases h
theorem keys_depth : ∀ ds : List PyData, hks ds = true → NestedKey.depthAll (toKeys ds) ≤ PyData.depthAll ds
  | [], _ => Nat.le_refl _
  | d :: ds, h => by
    simp only [hks, Bool.and_eq_true] at h
    have h1 := key_depth d h.1
    have h2 := keys_depth ds h.2
    simp only [toKeys, NestedKey.depthAll, PyData.depthAll]
    omega
end
mutual
theorem eqv_key : ∀ a b : PyData, hk a = true → hk b = true → PyData.eqv a b = decide (toKey a = toKey b)
  | .none, .none, _, _ => by simp [PyData.eqv, toKey]
  | .none, .bool _, _, _ => by simp [PyData.eqv, toKey]
  | .none, .int _, _, _ => by simp [PyData.eqv, toKey]
  | .none, .tuple _, _, _ => by simp [PyData.eqv, toKey]
  | .bool a, .none, _, _ => by simp [PyData.eqv, toKey]
  | .bool a, .bool b, _, _ => by cases a <;> cases b <;> simp [PyData.eqv, toKey]
  | .bool a, .int j, _, _ => by
    simp only [PyData.eqv, toKey, NestedKey.num.injEq]
    rfl
  | .bool a, .tuple _, _, _ => by simp [PyData.eqv, toKey]
  | .int i, .none, _, _ => by simp [PyData.eqv, toKey]
  | .int i, .bool b, _, _ => by
    simp only [PyData.eqv, toKey, NestedKey.num.injEq]
    rfl
  | .int i, .int j, _, _ => by
    simp only [PyData.eqv, toKey, NestedKey.num.injEq]
    rfl
  | .int i, .tuple _, _, _ => by simp [PyData.eqv, toKey]
  | .tuple xs, .none, _, _ => by simp [PyData.eqv, toKey]
  | .tuple xs, .bool _, _, _ => by simp [PyData.eqv, toKey]
  | .tuple xs, .int _, _, _ => by simp [PyData.eqv, toKey]
  | .tuple xs, .tuple ys, h1, h2 => by
    simp only [PyData.eqv, toKey, NestedKey.tup.injEq]
    exact eqv_keys xs ys h1 h2
  | .str _, _, h, _ => by cases h
  | .list _, _, h, _ => by cases h
  | .dict _, _, h, _ => by cases h
  | .none, .str _, _, h => by cases h
  | .none, .list _, _, h => by cases h
  | .none, .dict _, _, h => by cases h
  | .bool _, .str _, _, h => by cases h
  | .bool _, .list _, _, h => by cases h
  | .bool _, .dict _, _, h => by cases h
  | .int _, .str _, _, h => by cases h
  | .int _, .list _, _, h => by cases h
  | .int _, .dict _, _, h => by cases h
  | .tuple _, .str _, _, h => by cases h
  | .tuple _, .list _, _, h => by cases h
  | .tuple _, .dict _, _, h => by cases h
theorem eqv_keys : ∀ xs ys : List PyData, hks xs = true → hks ys = true → PyData.eqvAll xs ys = decide (toKeys xs = toKeys ys)
  | [], [], _, _ => by simp [PyData.eqvAll, toKeys]
  | [], _ :: _, _, _ => by simp [PyData.eqvAll, toKeys]
  | _ :: _, [], _, _ => by simp [PyData.eqvAll, toKeys]
  | x :: xs, y :: ys, h1, h2 => by
    simp only [hks, Bool.and_eq_true] at h1 h2
    simp only [PyData.eqvAll, toKeys, List.cons.injEq, eqv_key x y h1.1 h2.1, eqv_keys xs ys h1.2 h2.2]
    simp
end
/-! ### the first of each -/
def nubBy {α κ : Type} [DecidableEq κ] (f : α → κ) (xs : List α) : List α := xs.foldl (fun acc x => if f x ∈ acc.map f then acc else acc ++ [x]) []
theorem nubBy_app {α κ : Type} [DecidableEq κ] (f : α → κ) (xs : List α) (x : α) : nubBy f (xs ++ [x]) = if f x ∈ (nubBy f xs).map f then nubBy f xs else nubBy f xs ++ [x] := by
  unfold nubBy
  rw [List.foldl_append]
  rfl
theorem rev_ind {α : Type} {C : List α → Prop} (h0 : C []) (h1 : ∀ xs x, C xs → C (xs ++ [x])) : ∀ xs, C xs := by
  intro xs
  rw [← List.reverse_reverse xs]
  induction xs.reverse with
  | nil => exact h0
  | cons x ys ih => rw [List.reverse_cons]; exact h1 _ x ih
theorem nubBy_map {α β κ : Type} [DecidableEq κ] (f : β → κ) (g : α → β) (xs : List α) : nubBy f (xs.map g) = (nubBy (f ∘ g) xs).map g := by
  refine rev_ind (C := fun xs => nubBy f (xs.map g) = (nubBy (f ∘ g) xs).map g) rfl (fun xs x ih => ?_) xs
  rw [List.map_append, List.map_singleton, nubBy_app, nubBy_app, ih, List.map_map]
  show (if (f ∘ g) x ∈ _ then _ else _) = _
  split <;> simp
theorem nubBy_nodup {α κ : Type} [DecidableEq κ] (f : α → κ) (xs : List α) : ((nubBy f xs).map f).Nodup := by
  refine rev_ind (C := fun xs => ((nubBy f xs).map f).Nodup) List.nodup_nil (fun xs x ih => ?_) xs
  rw [nubBy_app]
  split
  · exact ih
  · rename_i h
    rw [List.map_append, List.map_singleton, List.nodup_append]
    exact ⟨ih, by simp, fun a ha b hb => by rw [List.mem_singleton.mp hb]; rintro rfl; exact h ha⟩
theorem nubBy_sub {α κ : Type} [DecidableEq κ] (f : α → κ) (xs : List α) : ∀ x ∈ nubBy f xs, x ∈ xs := by
  refine rev_ind (C := fun xs => ∀ x ∈ nubBy f xs, x ∈ xs) (fun x h => h) (fun xs x ih => ?_) xs
  rw [nubBy_app]
  split
  · exact fun y hy => List.mem_append_left _ (ih y hy)
  · intro y hy
    rcases List.mem_append.mp hy with z | z
    · exact List.mem_append_left _ (ih y z)
    · exact List.mem_append_right _ z
theorem nubBy_all {α κ : Type} [DecidableEq κ] (f : α → κ) (xs : List α) : ∀ x ∈ xs, f x ∈ (nubBy f xs).map f := by
  refine rev_ind (C := fun xs => ∀ x ∈ xs, f x ∈ (nubBy f xs).map f) (fun x h => nomatch h) (fun xs x ih => ?_) xs
  rw [nubBy_app]
  intro y hy
  split
  · rename_i h
    rcases List.mem_append.mp hy with z | z
    · exact ih y z
    · rw [List.mem_singleton.mp z]; exact h
  · rcases List.mem_append.mp hy with z | z
    · rw [List.map_append]; exact List.mem_append_left _ (ih y z)
    · rw [List.mem_singleton.mp z]; simp
theorem nubBy_most {α κ : Type} [DecidableEq κ] (f : α → κ) (xs M : List α) (hs : ∀ p ∈ M, p ∈ xs) (hn : (M.map f).Nodup) : M.length ≤ (nubBy f xs).length := by
  have key : ∀ (l D : List κ), l.Nodup → (∀ x ∈ l, x ∈ D) → l.length ≤ D.length := by
    intro l
    induction l with
    | nil => intros; exact Nat.zero_le _
    | cons x l ih =>
      intro D hn hs
      obtain ⟨h1, h2⟩ := List.nodup_cons.mp hn
      have hx : x ∈ D := hs x List.mem_cons_self
      have := ih (D.erase x) h2 fun y hy => (List.mem_erase_of_ne (fun e => h1 (by rw [← e]; exact hy))).2 (hs y (List.mem_cons_of_mem _ hy))
      have e := List.length_erase_of_mem hx
      have := List.length_pos_of_mem hx
      rw [List.length_cons]
      omega
  have := key (M.map f) ((nubBy f xs).map f) hn fun x hx => by
    obtain ⟨p, hp, rfl⟩ := List.mem_map.mp hx
    exact nubBy_all f xs p (hs p hp)
  simpa using this
/-- .. of data, by == -/
def nubD (ds : List PyData) : List PyData := ds.foldl (fun acc d => if acc.any (fun e => PyData.eqv e d) = true then acc else acc ++ [d]) []
theorem nubD_app (ds : List PyData) (d : PyData) : nubD (ds ++ [d]) = if (nubD ds).any (fun e => PyData.eqv e d) = true then nubD ds else nubD ds ++ [d] := by
  unfold nubD
  rw [List.foldl_append]
  rfl
theorem nubD_sub (ds : List PyData) : ∀ x ∈ nubD ds, x ∈ ds := by
  refine rev_ind (C := fun xs => ∀ x ∈ nubD xs, x ∈ xs) (fun x h => h) (fun xs x ih => ?_) ds
  rw [nubD_app]
  split
  · exact fun y hy => List.mem_append_left _ (ih y hy)
  · intro y hy
    rcases List.mem_append.mp hy with z | z
    · exact List.mem_append_left _ (ih y z)
    · exact List.mem_append_right _ z
theorem nubD_key (ds : List PyData) (h : ∀ d ∈ ds, hk d = true) : nubD ds = nubBy toKey ds := by
  revert h
  refine rev_ind (C := fun xs => (∀ d ∈ xs, hk d = true) → nubD xs = nubBy toKey xs) (fun _ => rfl) (fun xs x ih h => ?_) ds
  have ih := ih fun d hd => h d (List.mem_append_left _ hd)
  have hx := h x (List.mem_append_right _ (List.mem_singleton.mpr rfl))
  rw [nubD_app, nubBy_app, ← ih]
  have e : (nubD xs).any (fun e => PyData.eqv e x) = true ↔ toKey x ∈ (nubD xs).map toKey := by
    rw [List.any_eq_true, List.mem_map]
    constructor
    · rintro ⟨e, he, q⟩
      rw [eqv_key e x (h e (List.mem_append_left _ (nubD_sub xs e he))) hx] at q
      exact ⟨e, he, of_decide_eq_true q⟩
    · rintro ⟨e, he, q⟩
      refine ⟨e, he, ?_⟩
      rw [eqv_key e x (h e (List.mem_append_left _ (nubD_sub xs e he))) hx]
      exact decide_eq_true q
  by_cases c : toKey x ∈ (nubD xs).map toKey
  · rw [if_pos (e.mpr c), if_pos c]
  · rw [if_neg (fun z => c (e.mp z)), if_neg c]
/-! ### what a set of them asks -/
def isT : PyData → Bool
  | .tuple _ => true
  | _ => false
def setOk (ds : List PyData) : Bool := ds.all (fun d => hk d && decide (d.depth ≤ 8)) && ((ds.all isT && decide ((nubD ds).length + 1 < 4910)) || (ds.all (fun d => !isT d) && decide ((nubD ds).length + 1 < 4095)))
section
variable {X : Cx} {pins : List (Addr × Obj)} {σ : L2.St} {H : Hp} {s : Shared}
mutual
theorem dp_key (I : Inv X pins σ H s) : ∀ (d : PyData) (v : V) (u : Value), Dp X.K H v d → hk d = true → RelV v u → NestedIs s.heap (toKey d) u
  | .none, _, _, h, _, r => by cases h; cases r; exact .none
  | .bool b, _, _, h, _, r => by cases h; cases r; exact .bool rfl
  | .int i, _, _, h, _, r => by cases h; obtain ⟨t, rfl⟩ := r; exact .int i t
  | .tuple ds, _, _, h, hh, r => by
    cases h with
    | tup hs ha =>
      cases r
      obtain ⟨its, rv, ⟨o, ho, hc, n, hd⟩, _⟩ := I.tuple hs
      exact .tup ho hc hd (by simpa using dp_keys I ds _ _ ha hh rv)
  | .str _, _, _, _, hh, _ => by cases hh
  | .list _, _, _, _, hh, _ => by cases hh
  | .dict _, _, _, _, hh, _ => by cases hh
theorem dp_keys (I : Inv X pins σ H s) : ∀ (ds : List PyData) (vs : List V) (us : List Value), DpAll X.K H vs ds → hks ds = true → Vals vs us → NestedAll s.heap (toKeys ds) us
  | [], _, _, h, _, r => by cases h; cases r; exact .nil
  | d :: ds, _, _, h, hh, r => by
    simp only [hks, Bool.and_eq_true] at hh
    cases h with
    | cons h1 h2 =>
      cases r with
      | cons r1 r2 => exact .cons (dp_key I d _ _ h1 hh.1 r1) (dp_keys I ds _ _ h2 hh.2 r2)
end
end
end SY
end
section
namespace SY
open PySem PySem.Spec PyProof.Rows L2 PySem.W
section
variable {P : Program} {w : World} {A : Around} {E : Value → Shared → Prop} {s : Shared}
mutual
theorem reads_lt {h : Heap} : ∀ {v : Value} {d : PyData} {as : List Addr}, Reads h v d as → ∀ a ∈ as, a < h.objs.size
  | _, _, _, .none, a, hm => nomatch hm
  | _, _, _, .bool _, a, hm => nomatch hm
  | _, _, _, .int _ _, a, hm => nomatch hm
  | _, _, _, .str _ _, a, hm => nomatch hm
  | _, _, _, .list e _ _ r, a, hm => by
    rcases List.mem_cons.mp hm with rfl | hm
    · exact Heap.lt_size e
    · exact readsAll_lt r a hm
  | _, _, _, .tuple _ _ _ r, a, hm => readsAll_lt r a hm
  | _, _, _, .dict e _ _ r1 r2, a, hm => by
    rcases List.mem_append.mp hm with hm | hm
    · rcases List.mem_cons.mp hm with rfl | hm
      · exact Heap.lt_size e
      · exact readsAll_lt r1 a hm
    · exact readsAll_lt r2 a hm
theorem readsAll_lt {h : Heap} : ∀ {vs : List Value} {ds : List PyData} {as : List Addr}, ReadsAll h vs ds as → ∀ a ∈ as, a < h.objs.size
  | _, _, _, .nil, a, hm => nomatch hm
  | _, _, _, .cons r1 r2, a, hm => by
    rcases List.mem_append.mp hm with hm | hm
    · exact reads_lt r1 a hm
    · exact readsAll_lt r2 a hm
end
/-- sorted(x), by what x gives when it is collected -/
theorem sorted_from {β : Type} {x : Value} {enc : β → PyData} {val : β → Value} {G : List β → Prop} {Q : Value → Shared → Prop}
    (hcol : wpAny (model P w) A.in1 (collect x) (fun out s1 => ∃ bs : List β, out = bs.map val ∧ G bs ∧ (∀ b o, s.heap.get? b = some o → s1.heap.get? b = some o) ∧ s.heap.objs.size ≤ s1.heap.objs.size ∧ s1.gens = s.gens ∧ s1.os = s.os ∧
      (∀ b ∈ bs, ∃ as, Reads s1.heap (val b) (enc b) as) ∧ AllAlike (bs.map enc) ∧ Sortable (bs.map enc) ∧ bs.length ≤ sizeLine ∧ ∀ b ∈ bs, A.units + 2 + (enc b).depth < cLine) E s)
    (hQ : ∀ s' p bs c, G bs → (∀ b o, s.heap.get? b = some o → s'.heap.get? b = some o) → s'.gens = s.gens → s'.os = s.os → s.heap.objs.size ≤ p → s'.heap.get? p = some (seqObj "list" ((bs.mergeSort (dataLe false enc)).map val).toArray c) → Q (.ref p) s') :
    wpAny (model P w) A (call (.builtin "sorted") [x]) Q E s := by
  refine Calls.call_function_entry kind_sorted plain_sorted entry_sorted (args_sorted1 _) ?_
  unfold Builtin.«sorted»
  refine wpAny_bind (m := checkCount "sorted" 1 1 _) (wpAny_pure ?_)
  refine wpAny_bind (wpAny_mono hcol (fun out s1 hc => ?_) fun _ _ z => z)
  obtain ⟨bs, rfl, hG, k1, hz, g1, o1, hr, hal, hs, hL, hu⟩ := hc
  refine wpAny_bind (wpAny_newList ?_ (by rw [List.length_map]; exact hL))
  have hoL : (s1.heap.push (seqObj "list" (bs.map val).toArray 0)).get? s1.heap.objs.size = some (seqObj "list" (bs.map val).toArray 0) := Heap.get?_push_size _ rfl
  have e0 : ∀ l : List β, EachIs (fun v b => v = val b) (l.map val) l := fun l => by
    induction l with
    | nil => exact .nil
    | cons b l ih => exact .cons rfl ih
  have er : EachIs (fun v b => ∃ as, Reads (s1.heap.push (seqObj "list" (bs.map val).toArray 0)) v (enc b) as ∧ s1.heap.objs.size ∉ as) (bs.map val) bs := by
    have key : ∀ l : List β, (∀ b ∈ l, b ∈ bs) → EachIs (fun v b => ∃ as, Reads (s1.heap.push (seqObj "list" (bs.map val).toArray 0)) v (enc b) as ∧ s1.heap.objs.size ∉ as) (l.map val) l := fun l => by
      induction l with
      | nil => intro _; exact .nil
      | cons b l ih =>
        intro hm
        obtain ⟨as, ra⟩ := hr b (hm b List.mem_cons_self)
        exact .cons ⟨as, PyProof.Rows.Reads.keeps (fun _ _ e => Heap.get?_push_of_some _ e) ra, fun z => Nat.lt_irrefl _ (reads_lt ra _ z)⟩ (ih fun c hc => hm c (List.mem_cons_of_mem _ hc))
    exact key bs fun _ h => h
  refine wpAny_bind (wpAny_holding (list_sort_data (R := fun v b => v = val b) (enc := enc) (s := { s1 with heap := s1.heap.push (seqObj "list" (bs.map val).toArray 0) }) hoL (e0 bs) er hal hs hL (fun b hb => by have := hu b hb; simp only [Around.in1_units]; omega) fun out ho eo => ?_))
  have eout : ∀ (us : List Value) (l : List β), EachIs (fun v b => v = val b) us l → us = l.map val := by
    intro us l r
    induction r with
    | nil => rfl
    | cons r1 _ ih => rw [List.map_cons, r1, ih]
  have eo' := eout _ _ eo
  subst eo'
  obtain ⟨c, hc⟩ := sortedHeap_at (vs := bs.map val) (out := ((bs.mergeSort (dataLe false enc)).map val).toArray) hoL
  refine wpAny_pure ⟨_, rfl, hQ _ s1.heap.objs.size bs c hG (fun b u e => ?_) g1 o1 hz hc⟩
  have q := k1 b u e
  have hlt := Heap.lt_size q
  show (sortedHeap (s1.heap.push _) s1.heap.objs.size _ _).get? b = some u
  rw [sortedHeap_old (Nat.ne_of_lt hlt) (by rw [size_push']; exact Nat.lt_succ_of_lt hlt)]
  exact Heap.get?_push_of_some _ q
/-- a tuple's items -/
theorem collect_tup {l : Addr} {vs : List Value} {Q : List Value → Shared → Prop} (hl : s.heap.IsTuple l vs.toArray) (hsz : vs.length ≤ sizeLine)
    (h : ∀ s', (∀ b o, s.heap.get? b = some o → s'.heap.get? b = some o) → s.heap.objs.size ≤ s'.heap.objs.size → s'.gens = s.gens → s'.os = s.os → Q vs s') :
    wpAny (model P w) A (collect (.ref l)) Q E s := by
  obtain ⟨o, ho, hc, n, hd⟩ := id hl
  unfold collect
  refine wpAny_bind (wpAny_runValue (codeAny_builtin entry_proto_collect' ?_))
  show wpAny _ _ (do again (.builtin "list.__iadd__" ⟨[← newList [], .ref l], []⟩)) _ _ s
  refine wpAny_bind (wpAny_newList (wpAny_pure ⟨Code.quiet_builtin _ (by decide +kernel), codeAny_builtin entry_list_iadd' ?_⟩))
  show wpAny _ _ (Builtin.List.listExtendWith (.ref s.heap.objs.size) (.ref l) (.ref s.heap.objs.size)) _ _ { s with heap := s.heap.push (seqObj "list" #[] 0) }
  unfold Builtin.List.listExtendWith
  have ho' : (s.heap.push (seqObj "list" #[] 0)).get? l = some o := Heap.get?_push_of_some _ ho
  refine wpAny_bind (wpAny_typeOf (T := "tuple") ⟨o, ho', hc⟩ ?_)
  have ht : (Value.type "tuple" == Value.type "tuple") = true := by rfl
  rw [if_pos (by rw [ht]; simp)]
  refine wpAny_bind (listItems_at ho' hd ?_)
  refine wpAny_bind (listItems_at (xs := #[]) (n := 0) (Heap.get?_push_size _ rfl) rfl ?_)
  rw [if_neg (by simp)]
  refine wpAny_bind (listUpdate_at (xs := #[]) (n := 0) (Heap.get?_push_size _ rfl) rfl ?_ (Nat.zero_le _) (by show (#[] ++ vs.toArray).size ≤ sizeLine + 1; simp only [Array.size_append, List.size_toArray, List.length_nil]; omega))
  refine wpAny_pure ?_
  refine wpAny_bind (m := load s.heap.objs.size) (wpAny_load (get?_update_seq (Heap.get?_push_size _ rfl) _) ?_)
  show wpAny _ _ (pure ((#[] : Array Value) ++ vs.toArray).toList) Q E _
  rw [show ((#[] : Array Value) ++ vs.toArray).toList = vs by simp]
  refine wpAny_pure (h _ (fun b u e => ?_) ?_ rfl rfl)
  · have hlt := Heap.lt_size e
    show ((s.heap.push _).update s.heap.objs.size _).get? b = some u
    rw [Heap.get?_update_ne _ _ _ _ (Nat.ne_of_lt hlt)]
    exact Heap.get?_push_of_some _ e
  · show s.heap.objs.size ≤ ((s.heap.push _).update s.heap.objs.size _).objs.size
    rw [Heap.size_update, size_push']
    exact Nat.le_succ _
end
section
variable {X : Cx} {pins : List (Addr × Obj)} {σ : L2.St} {H : Hp} {s : Shared}
/-- one item: its data, its value -/
abbrev Tri := PyData × V × Value
theorem tris : ∀ {ds : List PyData} {xs : List V} {us : List Value} {K : PySem.W.Frag}, DpAll K H xs ds → Vals xs us → ∃ ts : List Tri, ts.map (·.1) = ds ∧ ts.map (·.2.1) = xs ∧ ts.map (·.2.2) = us ∧ ∀ t ∈ ts, Dp K H t.2.1 t.1 ∧ RelV t.2.1 t.2.2
  | _, _, _, _, .nil, .nil => ⟨[], rfl, rfl, rfl, fun t z => nomatch z⟩
  | _, _, _, _, .cons (v := v) (d := d) h1 h2, .cons (b := u) r1 r2 => by
    obtain ⟨ts, e1, e2, e3, h⟩ := tris h2 r2
    exact ⟨(d, v, u) :: ts, by simp [e1], by simp [e2], by simp [e3], fun t ht => by
      rcases List.mem_cons.mp ht with rfl | ht
      · exact ⟨h1, r1⟩
      · exact h t ht⟩
theorem val_kind {K : PySem.W.Frag} {H : Hp} {v : V} {d : PyData} {u : Value} (h : Dp K H v d) (r : RelV v u) (k : hk d = true) : u.scannable = !isT d ∧ ∀ y t, u ≠ .str y t := by
  cases d with
  | none => cases h; cases r; exact ⟨rfl, fun _ _ z => nomatch z⟩
  | bool b => cases h; cases r; exact ⟨rfl, fun _ _ z => nomatch z⟩
  | int i => cases h; obtain ⟨t, rfl⟩ := r; exact ⟨rfl, fun _ _ z => nomatch z⟩
  | tuple ds => cases h; cases r; exact ⟨rfl, fun _ _ z => nomatch z⟩
  | _ => cases k
def entT (t : Tri) : Ent := (toKey t.1, t.2.2)
/-- set(xs) -/
theorem set_call {l : Addr} {xs : List V} {ds : List PyData} {Q : Value → Shared → Prop} {E : Value → Shared → Prop} (I : Inv X pins σ H s) (hc : X.calm = true) (hu : X.A.units + 64 < cLine) (hs : SqL X.K H l xs ∨ SqT X.K H l xs) (hd : DpAll X.K H xs ds) (ok : setOk ds = true)
    (h : ∀ (ts : List Tri) (sc : Bool) (h' : Heap) (tk : Nat) L es ep t, ts.map (·.1) = ds → ts.map (·.2.1) = xs → (∀ t ∈ ts, Dp X.K H t.2.1 t.1 ∧ RelV t.2.1 t.2.2) → Sx X.prog X.w sc h' s.heap.objs.size L es ep t → L.Perm ((nubBy (fun t : Tri => toKey t.1) ts).map entT) → (∀ b o, s.heap.get? b = some o → h'.get? b = some o) → Q (.ref s.heap.objs.size) { s with heap := h', toks := tk }) :
    wpAny (model X.prog X.w) X.A (call (.type "set") [.ref l]) Q E s := by
  have main : ∀ (its : List Value), Vals xs its → (s.heap.IsList l its.toArray ∨ s.heap.IsTuple l its.toArray) → wpAny (model X.prog X.w) X.A (call (.type "set") [.ref l]) Q E s := by
    intro its rv hl
    obtain ⟨ts, e1, e2, e3, ht⟩ := tris hd rv
    unfold setOk at ok
    rw [Bool.and_eq_true, Bool.or_eq_true, Bool.and_eq_true, Bool.and_eq_true] at ok
    obtain ⟨ok1, ok2⟩ := ok
    have hkd : ∀ d ∈ ds, hk d = true ∧ d.depth ≤ 8 := fun d hm => by
      have := List.all_eq_true.mp ok1 d hm
      rw [Bool.and_eq_true, decide_eq_true_eq] at this
      exact this
    have mem : ∀ t ∈ ts, t.1 ∈ ds := fun t hm => by rw [← e1]; exact List.mem_map.mpr ⟨t, hm, rfl⟩
    have nub : (nubD ds).length = (nubBy (fun t : Tri => toKey t.1) ts).length := by
      rw [nubD_key ds fun d hm => (hkd d hm).1, ← e1, nubBy_map, List.length_map]; rfl
    have nubm : nubE (ts.map entT) = (nubBy (fun t : Tri => toKey t.1) ts).map entT := by
      have : nubE (ts.map entT) = nubBy (fun p : Ent => p.1) (ts.map entT) := rfl
      rw [this, nubBy_map]; rfl
    have good : ∀ sc, (∀ d ∈ ds, isT d = !sc) → ∀ p ∈ ts.map entT, GoodE sc s.heap p := fun sc hsc p hp => by
      obtain ⟨t, hm, rfl⟩ := List.mem_map.mp hp
      obtain ⟨h1, h2⟩ := ht t hm
      obtain ⟨k1, k2⟩ := hkd _ (mem t hm)
      have k3 := hsc _ (mem t hm)
      obtain ⟨d, v, u⟩ := t
      obtain ⟨q1, q2⟩ := val_kind h1 h2 k1
      refine ⟨dp_key I d v u h1 k1 h2, Nat.le_trans (key_depth d k1) k2, key_num d k1, ?_, q2⟩
      rw [k3, Bool.not_not] at q1
      exact q1
    have go : ∀ sc, (∀ d ∈ ds, isT d = !sc) → (nubD ds).length + 1 < lim sc → wpAny (model X.prog X.w) X.A (call (.type "set") [.ref l]) Q E s := fun sc hsc hlim => by
      have few : ∀ M : List Ent, (∀ p ∈ M, p ∈ ts.map entT) → (M.map (·.1)).Nodup → M.length + 1 < lim sc := fun M h1 h2 => by
        have := nubBy_most (fun p : Ent => p.1) (ts.map entT) M h1 h2
        have e : nubBy (fun p : Ent => p.1) (ts.map entT) = nubE (ts.map entT) := rfl
        rw [e, nubm, List.length_map, ← nub] at this
        omega
      have hit : its.toArray.toList = (ts.map entT).map (·.2) := by rw [List.map_map, ← e3]; rfl
      have fin : ∀ (h' : Heap) (tk : Nat) L es ep t, Sx X.prog X.w sc h' s.heap.objs.size L es ep t → Met (ts.map entT) (ts.map entT).length L → (∀ b o, s.heap.get? b = some o → h'.get? b = some o) → Q (.ref s.heap.objs.size) { s with heap := h', toks := tk } := fun h' tk L es ep t R g k => by
        have pm := g.pm
        rw [List.take_length, nubm] at pm
        exact h ts sc h' tk L es ep t e1 e2 ht R pm k
      rcases hl with hl | hl
      · exact set_of_list (ts.map entT) (I.ok.hd hc) hl hit (good sc hsc) few (by omega) fin
      · exact set_of_tuple (ts.map entT) (I.ok.hd hc) hl hit (good sc hsc) few (by omega) fin
    rcases ok2 with ⟨a, b⟩ | ⟨a, b⟩
    · exact go false (fun d hm => List.all_eq_true.mp a d hm) (of_decide_eq_true b)
    · exact go true (fun d hm => by have := List.all_eq_true.mp a d hm; simpa using this) (of_decide_eq_true b)
  rcases hs with hs | hs
  · obtain ⟨its, rv, hl, _⟩ := I.list hs
    exact main its rv (.inl hl.isList)
  · obtain ⟨its, rv, hl, _⟩ := I.tuple hs
    exact main its rv (.inr hl)
end
end SY
end
section
namespace SY
open PySem PySem.Spec PyProof.Rows L2 PySem.W
section
variable {X : Cx} {a : Expr} {ta : TE} {p p2 q pos : Pos}
def tLenSet (K : PySem.W.Frag) (ta : TE) : TE := fun σ H Q => ta σ H fun x H1 => ∃ (l : Addr) (xs : List V) (ds : List PyData), x = V.ref l ∧ (SqL K H1 l xs ∨ SqT K H1 l xs) ∧ DpAll K H1 xs ds ∧ setOk ds = true ∧ Q (.int (nubD ds).length) H1
theorem setOk_hk {ds : List PyData} (ok : setOk ds = true) : ∀ d ∈ ds, hk d = true := fun d hm => by
  unfold setOk at ok
  rw [Bool.and_eq_true] at ok
  have := List.all_eq_true.mp ok.1 d hm
  rw [Bool.and_eq_true] at this
  exact this.1
/-- len(set(xs)) -/
theorem pe_lenSetD (hc : X.calm = true) (hu : X.A.units + 64 < cLine) (hg : Gl X "len") (hm : X.mg "len" = none) (hg2 : Gl X "set") (hm2 : X.mg "set" = none) (ha : PE X a ta)
    (na : starEach [a] X.env = (false, eval a X.env) :: starEach [] X.env := by rfl) : PE X (.Call (.Name "len" p) [.Call (.Name "set" p2) [a] [] q] [] pos) (tLenSet X.K ta) := by
  refine ⟨fun pins s σ H Q I h => ?_⟩
  refine Call_ (ld_blt I hg hm PySem.boot_len ?_)
  refine PyProof.Rows.callWith_builtin1 (PyProof.Rows.args_cons ?_ rfl) rfl rfl
  refine Call_ (ld_blt I hg2 hm2 PyProof.Rows.boot_set ?_)
  refine PyProof.Rows.callWith_type1 (PyProof.Rows.args_cons (thn (ha.run pins s σ H _ I h) fun v s1 ⟨x, H1, I1, r1, q1⟩ => PyProof.Rows.args_nil ?_) na) na rfl
  obtain ⟨l, xs, ds, rfl, hs, hd, ok, q1⟩ := q1
  cases r1
  refine set_call I1 hc hu hs hd ok fun ts sc h' tk L es ep t e1 _ _ R pm k => ?_
  have e : es.size = (nubD ds).length := by
    rw [R.size, pm.length_eq, List.length_map, nubD_key ds (setOk_hk ok), ← e1, nubBy_map, List.length_map]; rfl
  have I2 : Inv X pins σ H1 { s1 with heap := h', toks := tk } := I1.kept fun b o e => k b o e
  obtain ⟨o, ho, hex, hdt⟩ := R.ob
  have hb : es.size < 4910 := by
    rw [R.size]
    exact Nat.lt_of_lt_of_le R.few (lim_le sc)
  refine PyProof.Rows.args_nil ?_
  refine call_len_set ho hex hdt R.fits (by omega) ⟨.int es.size, H1, I2.tok _, ⟨_, rfl⟩, ?_⟩
  rw [e]
  exact q1
def tSortSet (K : PySem.W.Frag) (ta : TE) : TE := fun σ H Q => ta σ H fun x H1 => ∃ (l : Addr) (xs : List V) (ds : List PyData), x = V.ref l ∧ (SqL K H1 l xs ∨ SqT K H1 l xs) ∧ DpAll K H1 xs ds ∧ setOk ds = true ∧ (nubD ds).length < 4096 ∧ AllAlike ds ∧ Sortable ds ∧ (∀ d ∈ ds, d.depth ≤ 60) ∧
  ∀ (ts bs : List (PyData × V)), ts.map (·.1) = ds → ts.map (·.2) = xs → bs.Perm (nubBy (fun t : PyData × V => toKey t.1) ts) → ∀ n, H1 n = none → Q (.ref n) (upd H1 n (.lst ((bs.mergeSort (dataLe false (·.1))).map (·.2))))
theorem perm_back {α β : Type} (f : α → β) : ∀ (T : List α) (vs : List β), vs.Perm (T.map f) → ∃ bs : List α, bs.Perm T ∧ bs.map f = vs := by
  intro T vs
  induction vs generalizing T with
  | nil => intro h; exact ⟨[], by
      have := h.length_eq
      simp at this
      rw [List.eq_nil_of_length_eq_zero this.symm], rfl⟩
  | cons v vs ih =>
    intro h
    have hv : v ∈ T.map f := h.mem_iff.mp List.mem_cons_self
    obtain ⟨t, ht, rfl⟩ := List.mem_map.mp hv
    obtain ⟨T1, T2, rfl⟩ := List.append_of_mem ht
    have h2 : vs.Perm ((T1 ++ T2).map f) := by
      rw [List.map_append, List.map_cons] at h
      rw [List.map_append]
      exact (List.perm_cons (f t)).mp (h.trans List.perm_middle)
    obtain ⟨bs, hb, e⟩ := ih (T1 ++ T2) h2
    exact ⟨t :: bs, (hb.cons t).trans List.perm_middle.symm, by rw [List.map_cons, e]⟩
theorem merge_map {α β : Type} (f : α → β) (le : β → β → Bool) (xs : List α) : (xs.mergeSort fun a b => le (f a) (f b)).map f = (xs.map f).mergeSort le := List.map_mergeSort fun _ _ _ _ => rfl
/-- sorted(set(xs)) -/
theorem pe_sortSetD (hc : X.calm = true) (hu : X.A.units + 64 < cLine) (hg : Gl X "sorted") (hm : X.mg "sorted" = none) (hv : bootBuiltins "sorted" = some (.builtin "sorted")) (hg2 : Gl X "set") (hm2 : X.mg "set" = none) (ha : PE X a ta)
    (na : starEach [a] X.env = (false, eval a X.env) :: starEach [] X.env := by rfl) : PE X (.Call (.Name "sorted" p) [.Call (.Name "set" p2) [a] [] q] [] pos) (tSortSet X.K ta) := by
  refine ⟨fun pins s σ H Q I h => ?_⟩
  refine Call_ (ld_blt I hg hm hv ?_)
  refine PyProof.Rows.callWith_builtin1 (PyProof.Rows.args_cons ?_ rfl) rfl rfl
  refine Call_ (ld_blt I hg2 hm2 PyProof.Rows.boot_set ?_)
  refine PyProof.Rows.callWith_type1 (PyProof.Rows.args_cons (thn (ha.run pins s σ H _ I h) fun v s1 ⟨x, H1, I1, r1, q1⟩ => PyProof.Rows.args_nil ?_) na) na rfl
  obtain ⟨l, xs, ds, rfl, hs, hd, ok, hsz, hal, hso, hdp, q1⟩ := q1
  cases r1
  refine set_call I1 hc (by omega) hs hd ok fun ts sc h' tk L es ep t e1 e2 ht R pm k => ?_
  have I2 : Inv X pins σ H1 { s1 with heap := h', toks := tk } := I1.kept fun b o e => k b o e
  obtain ⟨o, ho, hex, hdt⟩ := R.ob
  have hes : es.toList.map (·.2) = L.map (·.2) := by
    rw [R.rows]; unfold rows; rw [List.map_map]; rfl
  have hlen : es.size = (nubD ds).length := by
    rw [R.size, pm.length_eq, List.length_map, nubD_key ds (setOk_hk ok), ← e1, nubBy_map, List.length_map]; rfl
  refine PyProof.Rows.args_nil ?_
  refine sorted_from (P := X.prog) (w := X.w) (s := { s1 with heap := h', toks := tk }) (enc := fun t : Tri => t.1) (val := fun t => t.2.2) (G := fun bs => bs.Perm (nubBy (fun t : Tri => toKey t.1) ts)) ?_ ?_
  · refine collect_set (A := X.A.in1) (I.ok.hd hc) ⟨o, ho, hex.1, hdt⟩ R.fits (by rw [hlen]; exact hsz) R.tab.ris R.led fun s2 out k2 hz g2 o2 pm2 => ?_
    rw [hes] at pm2
    have pm3 := pm2.trans (pm.map (·.2))
    rw [List.map_map] at pm3
    obtain ⟨bs, hb, rfl⟩ := perm_back (fun t : Tri => t.2.2) (nubBy (fun t : Tri => toKey t.1) ts) out pm3
    have sub : ∀ b : Tri, b ∈ bs → b ∈ ts := fun b hm => nubBy_sub _ _ _ (hb.mem_iff.mp hm)
    have subd : ∀ d ∈ bs.map (·.1), d ∈ ds := fun d hm => by
      obtain ⟨b, hm, rfl⟩ := List.mem_map.mp hm
      rw [← e1]
      exact List.mem_map.mpr ⟨b, sub b ‹_›, rfl⟩
    refine ⟨bs, rfl, hb, k2, hz, g2, o2, fun b hm => ?_, fun x hx y hy => hal x (subd x hx) y (subd y hy), ?_, ?_, fun b hm => ?_⟩
    · obtain ⟨h1, h2⟩ := ht b (sub b hm)
      obtain ⟨as, ra⟩ := Dp.reads I2 b.1 b.2.1 b.2.2 h1 h2
      exact ⟨as, PyProof.Rows.Reads.keeps k2 ra⟩
    · rcases hso with z | z
      · exact .inl fun d hm => z d (subd d hm)
      · exact .inr fun d hm => z d (subd d hm)
    · have := R.few
      have := lim_le sc
      rw [hb.length_eq, ← List.length_map (f := entT), ← pm.length_eq, sizeLine_eq]
      omega
    · have := hdp b.1 (subd _ (List.mem_map.mpr ⟨b, hm, rfl⟩))
      omega
  · intro s' n bs c hb k2 g2 o2 hn hat
    have hS : s1.heap.objs.size < h'.objs.size := Heap.lt_size ho
    have hn1 : s1.heap.objs.size ≤ n := Nat.le_trans (Nat.le_of_lt hS) hn
    have k3 : ∀ b o, s1.heap.get? b = some o → s'.heap.get? b = some o := fun b o e => k2 b o (k b o e)
    have hfr : H1 n = none := I1.hok.fresh hn1
    have sub : ∀ b : Tri, b ∈ bs → b ∈ ts := fun b hm => nubBy_sub _ _ _ (hb.mem_iff.mp hm)
    have hbl : bs.length ≤ sizeLine := by
      have := R.few
      have := lim_le sc
      rw [hb.length_eq, ← List.length_map (f := entT), ← pm.length_eq, sizeLine_eq]
      omega
    have e4 : ((bs.map fun t : Tri => (t.1, t.2.1)).mergeSort (dataLe false (·.1))).map (·.2) = (bs.mergeSort (dataLe false fun t : Tri => t.1)).map (·.2.1) := by
      have := merge_map (fun t : Tri => ((t.1, t.2.1) : PyData × V)) (dataLe false (·.1)) bs
      rw [← this, List.map_map]
      rfl
    have rv : Vals ((bs.mergeSort (dataLe false fun t : Tri => t.1)).map (·.2.1)) ((bs.mergeSort (dataLe false fun t : Tri => t.1)).map (·.2.2)) := by
      have key : ∀ l : List Tri, (∀ t ∈ l, t ∈ ts) → Vals (l.map (·.2.1)) (l.map (·.2.2)) := by
        intro l
        induction l with
        | nil => intro _; exact .nil
        | cons t l ih => intro hm; exact .cons (ht t (hm t List.mem_cons_self)).2 (ih fun u hu => hm u (List.mem_cons_of_mem _ hu))
      exact key _ fun t hm => sub t ((List.mergeSort_perm _ _).mem_iff.mp hm)
    have J : Inv X pins σ (upd H1 n (.lst ((bs.mergeSort (dataLe false fun t : Tri => t.1)).map (·.2.1)))) { s1 with heap := s'.heap, gens := s'.gens, drawn := s'.drawn, toks := s'.toks } :=
      I1.call (ch := []) (Un.laid k3 hn1 hfr) (I1.hok.laid k3 hn1 ⟨by rw [List.length_map, List.length_mergeSort]; exact hbl, _, c, rv, hat⟩) (by rw [g2]; exact I1.bare) (fun _ z => nomatch z)
    have e : s' = { s1 with heap := s'.heap, gens := s'.gens, drawn := s'.drawn, toks := s'.toks } := by
      cases s'
      cases s1
      cases o2
      rfl
    rw [e]
    refine ⟨.ref n, _, J, rfl, ?_⟩
    rw [← e4]
    refine q1 (ts.map fun t => (t.1, t.2.1)) (bs.map fun t => (t.1, t.2.1)) (by rw [List.map_map]; exact e1) (by rw [List.map_map]; exact e2) ?_ n hfr
    rw [nubBy_map]
    exact hb.map _
def rSortT (K : PySem.W.Frag) : List V → Hp → VK → Prop := fun vs H Q => ∃ (a : Addr) (ps : List (V × PyData)), vs = [V.ref a] ∧ SqT K H a (ps.map (·.1)) ∧ (∀ p ∈ ps, Dp K H p.1 p.2) ∧ AllAlike (ps.map (·.2)) ∧ Sortable (ps.map (·.2)) ∧ (∀ p ∈ ps, p.2.depth ≤ 60) ∧
  ∀ q, H q = none → Q (.ref q) (upd H q (.lst ((ps.mergeSort (dataLe false (·.2))).map (·.1))))
theorem pair_vals {α : Type} (f : α → V) : ∀ (ps : List α) (us : List Value), Vals (ps.map f) us → ∃ ts : List (α × Value), ts.map (·.1) = ps ∧ ts.map (·.2) = us ∧ ∀ t ∈ ts, RelV (f t.1) t.2
  | [], _, r => by cases r; exact ⟨[], rfl, rfl, fun t z => nomatch z⟩
  | p :: ps, _, r => by
    cases r with
    | @cons _ u _ us r1 r2 =>
      obtain ⟨ts, a1, a2, a3⟩ := pair_vals f ps us r2
      exact ⟨(p, u) :: ts, by simp [a1], by simp [a2], fun t ht => by
        rcases List.mem_cons.mp ht with rfl | ht
        · exact r1
        · exact a3 t ht⟩
theorem back_vals {α : Type} (f : α → V) : ∀ ts : List (α × Value), (∀ t ∈ ts, RelV (f t.1) t.2) → Vals (ts.map fun t => f t.1) (ts.map (·.2))
  | [], _ => .nil
  | t :: ts, h => .cons (h t List.mem_cons_self) (back_vals f ts fun u hu => h u (List.mem_cons_of_mem _ hu))
/-- sorted(xs), xs a tuple -/
theorem cr_sortT (hu : X.A.units + 64 < cLine) : CallR X (.builtin "sorted") (rSortT X.K) := by
  intro pins s σ H vs us Q I r h
  obtain ⟨a, ps, rfl, hs, hd, hal, hk, hdep, q⟩ := h
  obtain ⟨its, rv, hl, hz⟩ := I.tuple hs
  rw [Vals.ref1 r]
  obtain ⟨ts, rfl, rfl, ht⟩ := pair_vals (fun p : V × PyData => p.1) ps its rv
  rw [List.length_map, List.length_map] at hz
  refine sorted_from (P := X.prog) (w := X.w) (enc := fun t : (V × PyData) × Value => t.1.2) (val := fun t => t.2) (G := fun bs => bs = ts) ?_ ?_
  · refine collect_tup hl (by rw [List.length_map]; exact hz) fun s1 k1 hz1 g1 o1 => ⟨ts, rfl, rfl, k1, hz1, g1, o1, fun b hb => ?_, ?_, ?_, hz, fun b hb => ?_⟩
    · obtain ⟨as, ra⟩ := Dp.reads I b.1.2 b.1.1 b.2 (hd b.1 (List.mem_map.mpr ⟨b, hb, rfl⟩)) (ht b hb)
      exact ⟨as, PyProof.Rows.Reads.keeps k1 ra⟩
    · rw [List.map_map] at hal; exact hal
    · rw [List.map_map] at hk; exact hk
    · have := hdep b.1 (List.mem_map.mpr ⟨b, hb, rfl⟩)
      omega
  · rintro s' n bs c rfl k2 g2 o2 hn hat
    have hfr : H n = none := I.hok.fresh hn
    have rv2 := back_vals (fun p : V × PyData => p.1) (bs.mergeSort (dataLe false fun t : (V × PyData) × Value => t.1.2)) fun t hm => ht t ((List.mergeSort_perm _ _).mem_iff.mp hm)
    have e4 : ((bs.map (·.1)).mergeSort (dataLe false (·.2))).map (·.1) = (bs.mergeSort (dataLe false fun t : (V × PyData) × Value => t.1.2)).map fun t => t.1.1 := by
      rw [← merge_map (fun t : (V × PyData) × Value => t.1) (dataLe false (·.2)) bs, List.map_map]
      rfl
    rw [e4] at q
    have J : Inv X pins σ (upd H n (.lst ((bs.mergeSort (dataLe false fun t : (V × PyData) × Value => t.1.2)).map fun t => t.1.1))) { s with heap := s'.heap, gens := s'.gens, drawn := s'.drawn, toks := s'.toks } :=
      I.call (ch := []) (Un.laid k2 hn hfr) (I.hok.laid k2 hn ⟨by rw [List.length_map, List.length_mergeSort]; exact hz, _, c, rv2, hat⟩) (by rw [g2]; exact I.bare) (fun _ z => nomatch z)
    have e : s' = { s with heap := s'.heap, gens := s'.gens, drawn := s'.drawn, toks := s'.toks } := by
      cases s'
      cases s
      cases o2
      rfl
    rw [e]
    exact ⟨.ref n, _, J, rfl, q n hfr⟩
end
end SY
end
section
namespace Z
open PySem PySem.Spec L2 PySem.W SY PyProof.Rows
/-! ### len(set(xs)), sorted(set(xs)), sorted(xs) of tuples -/
def strictD : List D → Bool
  | [] => true
  | a :: r => r.all (fun b => dataLt a b) && strictD r
theorem strict_pw : ∀ {L : List D}, strictD L = true → L.Pairwise fun a b => dataLt a b = true
  | [], _ => .nil
  | a :: r, h => by
    simp only [strictD, Bool.and_eq_true] at h
    exact .cons (fun b hb => List.all_eq_true.mp h.1 b hb) (strict_pw h.2)
theorem le_lt (a b : D) : dataLe false id a b = !dataLt b a := rfl
theorem lt_asym {a b : D} (h : dataLt a b = true) : dataLt b a = false := by
  cases q : dataLt b a with
  | false => rfl
  | true =>
    have := lex_trans _ _ _ h q
    rw [lex_irrefl] at this
    cases this
theorem sortD_pw (L : List D) : (sortD L).Pairwise fun a b => dataLe false id a b = true := sort_pairwise (sortLe_total (listOrd itemOrd) false fun b : D => keyToks b) L
/-- what rises is sorted but in one way -/
theorem sortD_one {L M : List D} (h : strictD L = true) (p : M.Perm L) : sortD M = L := by
  have hp := strict_pw h
  refine List.Perm.eq_of_pairwise (le := fun a b => dataLe false id a b = true) (fun a b ha hb h1 h2 => ?_) (sortD_pw M) (hp.imp fun h => ?_) ((List.mergeSort_perm _ _).trans p)
  · have ha : a ∈ L := p.mem_iff.mp ((List.mergeSort_perm _ _).mem_iff.mp ha)
    rw [le_lt, Bool.not_eq_true'] at h1 h2
    obtain ⟨i, hi, rfl⟩ := List.getElem_of_mem ha
    obtain ⟨j, hj, rfl⟩ := List.getElem_of_mem hb
    rcases Nat.lt_trichotomy i j with c | c | c
    · have := List.pairwise_iff_getElem.mp hp i j hi hj c
      rw [this] at h2; cases h2
    · subst c; rfl
    · have := List.pairwise_iff_getElem.mp hp j i hj hi c
      rw [this] at h1; cases h1
  · rw [le_lt, lt_asym h]; rfl
def gLenSet : D → Option S
  | .list ds => if setOk ds = true then some (.sh (.int (nubD ds).length)) else none
  | .tuple ds => if setOk ds = true then some (.sh (.int (nubD ds).length)) else none
  | _ => none
def setSortOk (ds : List D) : Bool := setOk ds && sortOk ds && decide ((nubD ds).length < 4096) && strictD (sortD (nubD ds))
def gSortSet : D → Option S
  | .list ds => if setSortOk ds = true then some (.ow (.list (sortD (nubD ds)))) else none
  | .tuple ds => if setSortOk ds = true then some (.ow (.list (sortD (nubD ds)))) else none
  | _ => none
def fUn (g : D → Option S) (fa : OF) : EF := fun ρ => fa ρ >>= fun p => Rs.of (look p.1 p.2) >>= fun d => Rs.of (g d) >>= fun r => .ok (r, p.2)
section
variable {X : Cx} {K : PySem.W.Frag} {mg : Str → Option Value} {W : WX} {n : Nat} {a : Expr} {fa : OF} {p p2 q pos : Pos}
theorem pk_seq {H : Hp} {F : Addr → Prop} {A : List (Option Addr)} {v : V} {d : D} (h : Pk K H (vw H (hid F A)) v d) {ds : List D} (e : d = .list ds ∨ d = .tuple ds) : ∃ l xs, v = .ref l ∧ (SqL K H l xs ∨ SqT K H l xs) ∧ RpL K (vw H (hid F A)) xs ds := by
  rcases e with rfl | rfl
  · obtain ⟨l, xs, rfl, e1, r⟩ := h.list
    exact ⟨l, xs, rfl, .inl (.of e1), r⟩
  · obtain ⟨l, xs, rfl, e1, _, r⟩ := h.tuple
    exact ⟨l, xs, rfl, .inr (.of e1), r⟩
theorem gLenSet_some {d : D} {r : S} (h : gLenSet d = some r) : ∃ ds, (d = .list ds ∨ d = .tuple ds) ∧ setOk ds = true ∧ r = .sh (.int (nubD ds).length) := by
  cases d with
  | list ds =>
    by_cases hc : setOk ds = true
    · simp only [gLenSet, hc, if_true] at h
      cases h
      exact ⟨ds, .inl rfl, hc, rfl⟩
    · simp only [gLenSet, hc, if_false] at h
      cases h
  | tuple ds =>
    by_cases hc : setOk ds = true
    · simp only [gLenSet, hc, if_true] at h
      cases h
      exact ⟨ds, .inr rfl, hc, rfl⟩
    · simp only [gLenSet, hc, if_false] at h
      cases h
  | _ => cases h
theorem gSortSet_some {d : D} {r : S} (h : gSortSet d = some r) : ∃ ds, (d = .list ds ∨ d = .tuple ds) ∧ setSortOk ds = true ∧ r = .ow (.list (sortD (nubD ds))) := by
  cases d with
  | list ds =>
    by_cases hc : setSortOk ds = true
    · simp only [gSortSet, hc, if_true] at h
      cases h
      exact ⟨ds, .inl rfl, hc, rfl⟩
    · simp only [gSortSet, hc, if_false] at h
      cases h
  | tuple ds =>
    by_cases hc : setSortOk ds = true
    · simp only [gSortSet, hc, if_true] at h
      cases h
      exact ⟨ds, .inr rfl, hc, rfl⟩
    · simp only [gSortSet, hc, if_false] at h
      cases h
  | _ => cases h
theorem ev_lenSet (ct : Ct X K mg W n) (hg : Gl X "len") (hm : mg "len" = none) (hg2 : Gl X "set") (hm2 : mg "set" = none) (ha : PE X a (TO' K mg W fa))
    (na : starEach [a] X.env = (false, eval a X.env) :: starEach [] X.env := by rfl) : PE X (.Call (.Name "len" p) [.Call (.Name "set" p2) [a] [] q] [] pos) (TF K mg W (fUn gLenSet fa)) := by
  have hu := ct.room.units
  obtain ⟨rfl, rfl, _, hc, _, _⟩ := ct
  refine pe_imp (pe_lenSetD hc hu hg hm hg2 hm2 ha na) fun σ H Q ⟨F, ρ, A, gd, po⟩ => ?_
  refine seqO gd (po := fun o => PoE X.K X.mg W F σ H ρ A o Q) poE_no (poE_exS Stp.refl) po fun h1 ρ1 v1 H1 A1 g1 s1 r1 po => ?_
  obtain ⟨d, e1, po⟩ := seqOpt (po := fun o => PoE X.K X.mg W F σ H ρ A o Q) poE_no po
  obtain ⟨r, e2, po⟩ := seqOpt (po := fun o => PoE X.K X.mg W F σ H ρ A o Q) poE_no po
  obtain ⟨ds, ed, ok, rfl⟩ := gLenSet_some e2
  obtain ⟨l, xs, rfl, hs, rr⟩ := pk_seq (look_ok g1 r1 e1) ed
  exact ⟨l, xs, ds, rfl, hs, (rr.mono (vw_same _ _)).dp, ok, po _ H1 ⟨A1, g1, s1, .int _⟩⟩
theorem ev_sortSet (ct : Ct X K mg W n) (hg : Gl X "sorted") (hm : mg "sorted" = none) (hv : bootBuiltins "sorted" = some (.builtin "sorted")) (hg2 : Gl X "set") (hm2 : mg "set" = none) (ha : PE X a (TO' K mg W fa))
    (na : starEach [a] X.env = (false, eval a X.env) :: starEach [] X.env := by rfl) : PE X (.Call (.Name "sorted" p) [.Call (.Name "set" p2) [a] [] q] [] pos) (TF K mg W (fUn gSortSet fa)) := by
  have hu := ct.room.units
  obtain ⟨rfl, rfl, _, hc, _, _⟩ := ct
  refine pe_imp (pe_sortSetD hc (by omega) hg hm hv hg2 hm2 ha na) fun σ H Q ⟨F, ρ, A, gd, po⟩ => ?_
  refine seqO gd (po := fun o => PoE X.K X.mg W F σ H ρ A o Q) poE_no (poE_exS Stp.refl) po fun h1 ρ1 v1 H1 A1 g1 s1 r1 po => ?_
  obtain ⟨d, e1, po⟩ := seqOpt (po := fun o => PoE X.K X.mg W F σ H ρ A o Q) poE_no po
  obtain ⟨r, e2, po⟩ := seqOpt (po := fun o => PoE X.K X.mg W F σ H ρ A o Q) poE_no po
  obtain ⟨ds, ed, ok, rfl⟩ := gSortSet_some e2
  obtain ⟨l, xs, rfl, hs, rr⟩ := pk_seq (look_ok g1 r1 e1) ed
  unfold setSortOk at ok
  simp only [Bool.and_eq_true, decide_eq_true_eq] at ok
  obtain ⟨⟨⟨k1, k2⟩, k3⟩, k4⟩ := ok
  obtain ⟨a1, a2, a3⟩ := sort_all k2
  refine ⟨l, xs, ds, rfl, hs, (rr.mono (vw_same _ _)).dp, k1, k3, a1, a2, a3, fun ts bs t1 t2 pm m hm' => ?_⟩
  have hrs : ∀ t ∈ ts, Rp X.K (vw H1 (hid F A1)) t.2 t.1 := by
    subst t1 t2
    clear e1 ed a1 a2 a3 k1 k2 k3 k4 hs pm e2 po
    induction ts with
    | nil => exact fun t z => nomatch z
    | cons t ts ih =>
      cases rr with
      | cons q1 q2 => exact fun u hu => (List.mem_cons.mp hu).elim (fun z => by rw [z]; exact q1) (ih q2 u)
  have hD : (bs.mergeSort (dataLe false (·.1))).map (·.1) = sortD (nubD ds) := by
    have e : (bs.mergeSort (dataLe false (·.1))).map (·.1) = sortD (bs.map (·.1)) := List.map_mergeSort fun a _ b _ => rfl
    rw [e]
    refine sortD_one k4 ((pm.map (·.1)).trans ?_)
    have e2 : (nubBy (fun t : PyData × V => toKey t.1) ts).map (·.1) = nubD ds := by
      rw [nubD_key ds (setOk_hk k1), ← t1, nubBy_map]; rfl
    rw [e2]
    exact (List.mergeSort_perm _ _).symm
  rw [← hD] at po
  refine po _ _ ((Fin.newL g1 hm' ?_).trans s1)
  have key : ∀ l : List (PyData × V), (∀ t ∈ l, t ∈ ts) → RpL X.K (vw H1 (hid F A1)) (l.map (·.2)) (l.map (·.1)) := by
    intro l
    induction l with
    | nil => intro _; exact .nil
    | cons t l ih => intro h; exact .cons (hrs t (h t List.mem_cons_self)) (ih fun u hu => h u (List.mem_cons_of_mem _ hu))
  exact key _ fun t ht => nubBy_sub _ _ _ (pm.mem_iff.mp ((List.mergeSort_perm _ _).mem_iff.mp ht))
/-! sorted of a list or a tuple -/
def gSortedZ : List D → Option S
  | [.list ds] => if sortOk ds = true then some (.ow (.list (sortD ds))) else none
  | [.tuple ds] => if sortOk ds = true then some (.ow (.list (sortD ds))) else none
  | _ => none
def rSortedZ (K : PySem.W.Frag) : List V → Hp → VK → Prop := fun vs H Q => rSortedD K vs H Q ∨ rSortT K vs H Q
theorem cr_sortedZ (hu : X.A.units + 64 < cLine) : CallR X (.builtin "sorted") (rSortedZ X.K) := (cr_sortedD (by omega)).or (cr_sortT hu)
theorem ok_sortedZ : CallOk K (rSortedZ K) gSortedZ := by
  intro F σ H ρ A xs ds res g hp e Q q
  match ds, e with
  | [.list ds], e => exact .inl (ok_sorted F σ H ρ A xs [.list ds] res g hp e Q q)
  | [.tuple ds], e =>
    simp only [gSortedZ] at e
    split at e
    · rename_i hc
      cases e
      obtain ⟨x, rfl, h⟩ := paired1 hp
      obtain ⟨p, vs, rfl, e1, _, r1⟩ := h.tuple
      obtain ⟨ps, rfl, rfl, hr⟩ := RpL.zips r1
      obtain ⟨a1, a2, a3⟩ := sort_all hc
      refine .inr ⟨p, ps, rfl, .of e1, fun y hy => (Rp.dp ((hr y hy).mono (vw_same _ _))), a1, a2, fun y hy => a3 _ (List.mem_map.mpr ⟨y, hy, rfl⟩), fun n hn => ?_⟩
      have hm : (ps.mergeSort (dataLe false (·.2))).map (·.2) = sortD (ps.map (·.2)) := List.map_mergeSort fun a _ b _ => rfl
      rw [← hm] at q
      exact q _ _ (.newL g hn (RpL.unzips _ fun y hy => hr y ((List.mergeSort_perm _ _).mem_iff.mp hy)))
    · cases e
  | [.none], e => cases e
  | [.bool _], e => cases e
  | [.int _], e => cases e
  | [.str _], e => cases e
  | [.dict _], e => cases e
  | [], e => cases e
  | _ :: _ :: _, e => simp [gSortedZ] at e
end
end Z
end
section
namespace Z
open PySem PySem.Spec L2 PySem.W SY PyProof.Rows
/-! ### a < b of tuples -/
def rLtP (K : PySem.W.Frag) : R2 := fun x y H Q => ∃ d e, Dp K H x d ∧ Dp K H y e ∧ alike d e = true ∧ d ≠ .none ∧ min d.depth e.depth ≤ 60 ∧ Q (.bl (dataLt d e)) H
theorem or_ltP {X : Cx} (hu : X.A.units + 64 < cLine) : OpR X (compareOp .Lt) (rLtP X.K) := by
  intro pins s σ H x y v u Q I rx ry h
  obtain ⟨d, e, hd, he, al, hn, hm, q⟩ := h
  obtain ⟨as, r1⟩ := Dp.reads I d x v hd rx
  obtain ⟨bs, r2⟩ := Dp.reads I e y u he ry
  exact rcLt_alike d e _ _ _ _ as bs r1 r2 al hn (by omega) _ _ _ _ ⟨.bl _, H, I, rfl, q⟩
def rLtZ2 (K : PySem.W.Frag) : R2 := fun x y H Q => rCmpZ (fun i j => decide (i < j)) (fun i j => decide (i.cps.toList < j.cps.toList)) x y H Q ∨ rLtP K x y H Q
theorem or_ltZ2 {X : Cx} (hu : X.A.units + 64 < cLine) : OpR X (compareOp .Lt) (rLtZ2 X.K) := or_ltZ.or (or_ltP hu)
def gLtZ : D → D → Option S
  | .int i, .int j => some (.sh (.bool (decide (i < j))))
  | .str i, .str j => some (.sh (.bool (decide (i.cps.toList < j.cps.toList))))
  | .tuple a, .tuple b => if alikeAll a b = true ∧ min (PyData.depth (.tuple a)) (PyData.depth (.tuple b)) ≤ 60 then some (.sh (.bool (dataLt (.tuple a) (.tuple b)))) else none
  | _, _ => none
theorem ok_ltZ {K : PySem.W.Frag} : BinOk K (rLtZ2 K) gLtZ := by
  intro F σ H ρ A x y dx dy res g hx hy e Q q
  by_cases ht : ∃ a b, dx = .tuple a ∧ dy = .tuple b
  · obtain ⟨a, b, rfl, rfl⟩ := ht
    simp only [gLtZ] at e
    split at e
    · rename_i hc
      cases e
      exact .inr ⟨_, _, hx.dp, hy.dp, by rw [alike]; exact hc.1, by simp, hc.2, q _ _ (.here g (.bl _))⟩
    · cases e
  · cases dx <;> cases dy <;> first | (exact absurd ⟨_, _, rfl, rfl⟩ ht) | (cases e; exact .inl (.inl ⟨_, _, hx.int, hy.int, q _ _ (.here g (.bl _))⟩)) | (cases e; exact .inl (.inr ⟨_, _, hx.str, hy.str, q _ _ (.here g (.bl _))⟩)) | cases e
end Z
end
section
namespace Z
open PySem PySem.Spec L2
section
variable {X : Cx} {K : PySem.W.Frag} {mg : Str → Option Value} {W : WX} {n : Nat} {fA : AF} {pos : Pos}
/-- a, b, c = e1, e2, e3, plain names -/
def sPar3 (i j l : Nat) (fA : AF) : SF := fun ρ => fA ρ >>= fun p => match p.1 with
  | [.sh d, .sh d', .sh d''] => Rs.of (((setS i (.sh d) p.2).bind (setS j (.sh d'))).bind (setS l (.sh d''))) >>= fun ρ' => .ok (.nx, ρ')
  | _ => .no
theorem st_par3 {i j l : Nat} {x y z : Str} {a b c : Expr} {px py pz pt : Pos} {kt k2 pt2} (ct : Ct X K mg W n) (ha : PA X [a, b, c] (TAr K mg W fA)) (hi : X.N[i]? = some x := by rfl) (hj : X.N[j]? = some y := by rfl) (hl : X.N[l]? = some z := by rfl) (hij : i ≠ j := by decide) (hil : i ≠ l := by decide) (hjl : j ≠ l := by decide)
    (hx : X.env.scope.names.lookup x = some .local := by rfl) (hy : X.env.scope.names.lookup y = some .local := by rfl) (hz : X.env.scope.names.lookup z = some .local := by rfl)
    (hw : swappedStores [.Tuple [.Name x px, .Name y py, .Name z pz] kt pt] (.Tuple [a, b, c] k2 pt2) X.env = pure (some [x, y, z]) := by rfl) (hs : swapsWithSole [.Tuple [.Name x px, .Name y py, .Name z pz] kt pt] (.Tuple [a, b, c] k2 pt2) pos.line X.env = pure false := by rfl) :
    PS X (.Assign [.Tuple [.Name x px, .Name y py, .Name z pz] kt pt] (.Tuple [a, b, c] k2 pt2) pos) (TSt K mg W (sPar3 i j l fA)) := by
  refine ps_imp (ps_par3 ct.calm ct.nd hi hj hl hij hil hjl hx hy hz ha hw hs) fun D' σ H ⟨F, ρ, A, gd, po⟩ => ?_
  refine seqA gd (po := fun o => PoS K mg W F σ H ρ A o D') poS_no (poS_exS Stp.refl) po fun rs ρ1 vs H1 A1 g1 s1 r1 po => ?_
  match rs, r1, po with
  | [.sh d, .sh d', .sh d''], .cons (a := v) r1 (.cons (a := w) r2 (.cons (a := u) r3 .nil)), po =>
    obtain ⟨ρ', e1, po⟩ := seqOpt (po := fun o => PoS K mg W F σ H ρ A o D') poS_no po
    cases q1 : setS i (.sh d) ρ1 with
    | none => rw [q1] at e1; cases e1
    | some ρ2 =>
      rw [q1] at e1
      simp only [Option.bind_some] at e1
      cases q2 : setS j (.sh d') ρ2 with
      | none => rw [q2] at e1; cases e1
      | some ρ3 =>
        rw [q2] at e1
        obtain ⟨h1, rfl, h2⟩ := setS_some q1
        obtain ⟨h3, rfl, h4⟩ := setS_some q2
        obtain ⟨h5, rfl, h6⟩ := setS_some e1
        have g2 := g1.put h1 r1
        have s2 : Stp F H1 ρ1 A1 H1 (ρ1.set i (.sh d)) (A1.set i none) := Stp.put h2 view_setNone
        have g3 := g2.put h3 (r2.mono s2.vs)
        have s3 : Stp F H1 (ρ1.set i (.sh d)) (A1.set i none) H1 ((ρ1.set i (.sh d)).set j (.sh d')) ((A1.set i none).set j none) := Stp.put h4 view_setNone
        have g4 := g3.put h5 ((r3.mono s2.vs).mono s3.vs)
        exact ⟨v, w, u, rfl, po _ H1 _ g4 (((s1.trans s2).trans s3).trans (Stp.put h6 view_setNone))⟩
end
end Z
end
section
namespace Z
open PySem PySem.Spec L2 HT PyProof.Rows
section
variable {X : Cx} {K : PySem.W.Frag} {mg : Str → Option Value} {W : WX} {n : Nat} {f : EF}
/-! ### xs.pop(i) -/
def popS (i : Nat) (k : Int) (ρ : List S) : Rs (S × List S) := match ρ[i]? with
  | some (.ow (.list ds)) => if k.natAbs < 4611686018427387904 then (match ixN ds.length k with
    | some j => match ds[j]? with
      | some d => .ok (.sh d, ρ.set i (.ow (.list (ds.eraseIdx j))))
      | none => .no
    | none => .no) else .no
  | _ => .no
def fPopI (i : Nat) (f : EF) : EF := fun ρ => match ρ[i]? with
  | some (.ow (.list _)) => f ρ >>= fun p => match p.1 with
    | .sh (.int k) => popS i k p.2
    | _ => .no
  | _ => .no
theorem RpL.erase {H : Hp} {vs : List V} {ds : List D} (r : RpL K H vs ds) (j : Nat) : RpL K H (vs.eraseIdx j) (ds.eraseIdx j) := by
  rw [List.eraseIdx_eq_take_drop_succ, List.eraseIdx_eq_take_drop_succ]
  exact (r.take _).app (r.drop _)
theorem ev_popI {c : Expr} (i : Nat) (h : PE X c (tBM X.K "list" rPopAt (tVar i) (tCons (TF K mg W f) tNil))) : PE X c (TF K mg W (fPopI i f)) := by
  refine pe_imp h fun σ H Q ⟨F, ρ, A, gd, po⟩ => ?_
  unfold fPopI at po
  cases q : ρ[i]? with
  | none => rw [q] at po; exact po.elim
  | some s =>
    rw [q] at po
    cases s with
    | ow d0 =>
      cases d0 with
      | list ds0 =>
        obtain ⟨a, ha, e1, vs0, hH, _⟩ := gd.slot i _ q
        refine ⟨.ref a, e1, .inl ⟨rfl, _, .inl (.inl hH)⟩, ?_⟩
        refine seqE gd (po := fun o => PoE K mg W F σ H ρ A o Q) poE_no (poE_exS Stp.refl) po fun r ρ1 v H1 f1 po => ?_
        cases r with
        | sh d =>
          cases d with
          | int k =>
            obtain ⟨A1, g1, s1, p1⟩ := f1
            have hv : v = .int k := by cases p1; rfl
            subst hv
            simp only at po
            unfold popS at po
            cases q1 : ρ1[i]? with
            | none => rw [q1] at po; exact po.elim
            | some s' =>
              rw [q1] at po
              cases s' with
              | ow d1 =>
                cases d1 with
                | list ds =>
                  simp only at po
                  split at po
                  · rename_i hk
                    cases q2 : ixN ds.length k with
                    | none => rw [q2] at po; exact po.elim
                    | some j =>
                      rw [q2] at po
                      simp only at po
                      cases q3 : ds[j]? with
                      | none => rw [q3] at po; exact po.elim
                      | some d =>
                        rw [q3] at po
                        obtain ⟨a', ha', e1', vs, hH1, r1⟩ := g1.slot i _ q1
                        rw [e1] at e1'; cases e1'
                        obtain ⟨y, y1, y2⟩ := r1.get q3
                        have st := Stp.write (s := .ow (.list (ds.eraseIdx j))) (o := .lst (vs.eraseIdx j)) g1 ha' (fun x y z => by rw [q1] at z; cases z)
                        refine ⟨a, vs, k, j, y, rfl, rfl, hH1, by omega, by omega, by rw [r1.len]; exact (L2.ixN_seq q2).1, y1, po _ _ ⟨A1, g1.write ha' e1 ⟨vs.eraseIdx j, upd_same, r1.erase j⟩, s1.trans st, y2.mono st.vs⟩⟩
                  · exact po.elim
                | _ => exact po.elim
              | _ => exact po.elim
          | _ => exact po.elim
        | _ => exact po.elim
      | _ => exact po.elim
    | _ => exact po.elim
/-! ### xs[lo:hi:step], xs a list -/
def pickG {α : Type} (xs : List α) (lo hi st : Option Int) : List α := (PySem.sliceRange (PySem.sliceBounds lo hi st xs.length).1 (PySem.sliceBounds lo hi st xs.length).2.1 (PySem.sliceBounds lo hi st xs.length).2.2).filterMap (xs[·]?)
theorem pickG_arr (items : Array Value) (lo hi st : Option Int) : PySem.slicePick items lo hi st = (pickG items.toList lo hi st).toArray := by
  unfold PySem.slicePick pickG
  rw [Array.length_toList]
  congr 2
  funext i
  exact (Array.getElem?_toList).symm
theorem idx_len {α β : Type} {xs : List α} {ys : List β} (h : xs.length = ys.length) : ∀ L : List Nat, (L.filterMap (xs[·]?)).length = (L.filterMap (ys[·]?)).length
  | [] => rfl
  | i :: L => by
    have ih := idx_len h L
    by_cases hi : i < xs.length
    · have hj : i < ys.length := by omega
      rw [List.filterMap_cons, List.filterMap_cons, List.getElem?_eq_getElem hi, List.getElem?_eq_getElem hj]
      simp [ih]
    · rw [List.filterMap_cons, List.filterMap_cons, List.getElem?_eq_none (by omega), List.getElem?_eq_none (by omega)]
      exact ih
theorem pickG_le {α : Type} (xs : List α) (lo hi st : Option Int) : (pickG xs lo hi st).length ≤ xs.length := by
  have h := PySem.slicePick_size_le (List.replicate xs.length Value.none).toArray lo hi st
  rw [pickG_arr] at h
  have e : (pickG (List.replicate xs.length Value.none) lo hi st).length = (pickG xs lo hi st).length := by
    unfold pickG
    rw [List.length_replicate]
    exact idx_len (by simp) _
  simp only [List.size_toArray, List.length_replicate] at h
  omega
theorem Vals_idx {xs : List V} {us : List Value} (r : Vals xs us) : ∀ L : List Nat, Vals (L.filterMap (xs[·]?)) (L.filterMap (us[·]?))
  | [] => .nil
  | i :: L => by
    have ih := Vals_idx r L
    cases h : xs[i]? with
    | none =>
      have h2 := Vals.none_of r h
      rw [List.filterMap_cons, List.filterMap_cons, h, h2]
      exact ih
    | some x =>
      obtain ⟨u, h2, h3⟩ := Vals.get r h
      rw [List.filterMap_cons, List.filterMap_cons, h, h2]
      exact .cons h3 ih
theorem Vals_pick {xs : List V} {us : List Value} (r : Vals xs us) (lo hi st : Option Int) : Vals (pickG xs lo hi st) (pickG us lo hi st) := by
  unfold pickG
  rw [r.length]
  exact Vals_idx r _
theorem RpL_idx {H : Hp} {vs : List V} {ds : List D} (r : RpL K H vs ds) : ∀ L : List Nat, RpL K H (L.filterMap (vs[·]?)) (L.filterMap (ds[·]?))
  | [] => .nil
  | i :: L => by
    have ih := RpL_idx r L
    cases h : ds[i]? with
    | none =>
      have h2 : vs[i]? = none := by
        rw [List.getElem?_eq_none_iff] at h ⊢
        rw [r.len]; exact h
      rw [List.filterMap_cons, List.filterMap_cons, h, h2]
      exact ih
    | some d =>
      obtain ⟨v, h2, h3⟩ := r.get h
      rw [List.filterMap_cons, List.filterMap_cons, h, h2]
      exact .cons h3 ih
theorem RpL_pick {H : Hp} {vs : List V} {ds : List D} (r : RpL K H vs ds) (lo hi st : Option Int) : RpL K H (pickG vs lo hi st) (pickG ds lo hi st) := by
  unfold pickG
  rw [r.len]
  exact RpL_idx r _
def tStp (K : PySem.W.Frag) (te : TE) (tl th ts : TO) : TE := fun σ H Q => te σ H fun x H1 => tl σ H1 fun l H2 => th σ H2 fun u H3 => ts σ H3 fun st H4 => ∃ a xs, x = .ref a ∧ SqL K H4 a xs ∧ st ≠ some 0 ∧ ∀ p, H4 p = none → Q (.ref p) (upd H4 p (.lst (pickG xs l u st)))
theorem pe_step {e c : Expr} {te : TE} {lo hi : Option Expr} {tl th ts : TO} {p2 pos : Pos} (he : PE X e te) (hl : PO X lo tl) (hu : PO X hi th) (hc : PO X (some c) ts) : PE X (.Subscript e (.Slice lo hi (some c) p2) pos) (tStp X.K te tl th ts) := by
  refine ⟨fun pins s σ H Q I h => ?_⟩
  refine Subscript_ (thn (he.run pins s σ H _ I h) fun v s1 ⟨x, H1, I1, r1, q1⟩ => ?_)
  refine wpAny_Slice (thn (hl.run pins s1 σ H1 _ I1 q1) fun vl s2 ⟨l, H2, I2, pl, q2⟩ => ?_)
  refine thn (hu.run pins s2 σ H2 _ I2 q2) fun vu s3 ⟨u, H3, I3, pu, q3⟩ => ?_
  refine thn (hc.run pins s3 σ H3 _ I3 q3) fun vs s4 ⟨st, H4, I4, ps, q4⟩ => ?_
  obtain ⟨a, xs, rfl, hx, h0, q⟩ := q4
  cases r1
  have I5 : Inv X pins σ H4 { s4 with heap := s4.heap.push { cls := .type "slice", data := .fields #[vl, vu, vs] } } := I4.kept (t' := s4.toks) fun b ob q => Heap.get?_push_of_some _ q
  show wpAny (model X.prog X.w) X.A (subscriptTail e (.Slice lo hi (some c) p2) (.ref a) (.ref s4.heap.objs.size)) (EP X pins σ Q) X.xe _
  obtain ⟨its, r, ht, hz⟩ := I5.list hx
  have hlen := r.length
  refine tail_any (ops := [.ref a, .ref s4.heap.objs.size]) ht.isList.typeIs (PySem.slot_list_getitem.lookup) ?_ (by with_unfolding_all rfl)
  refine PySem.wpAny_getItem_list_slice ht.isList (Heap.IsSliceOf.new _ vl vu vs) pl pu ps h0 ?_ (by rw [List.size_toArray]; omega)
  rw [pickG_arr]
  refine ⟨.ref _, _, I5.laid (t' := s4.toks) (o := .lst (pickG xs l u st)) (fun b ob q => Heap.get?_push_of_some _ q) (Nat.le_refl _) ?_, rfl, q _ (I5.hok.fresh (Nat.le_refl _))⟩
  exact ⟨Nat.le_trans (pickG_le xs l u st) hz, _, 0, Vals_pick r l u st, Heap.get?_push_size _ rfl⟩
def gStp (d : D) (lo hi st : Option Int) : Option S := match d with
  | .list ds => if st ≠ some 0 then some (.ow (.list (pickG ds lo hi st))) else none
  | _ => none
def fStp (f : OF) (l u c : NF) : EF := fun ρ => f ρ >>= fun p => l p.2 >>= fun q => u q.2 >>= fun t => c t.2 >>= fun k => Rs.of (look p.1 k.2) >>= fun d => Rs.of (gStp d q.1 t.1 k.1) >>= fun r => .ok (r, k.2)
theorem ev_step {e c : Expr} {lo hi : Option Expr} {fa : OF} {fl fu fc : NF} {p2 pos : Pos} (ct : Ct X K mg W n) (h : PE X e (TO' K mg W fa)) (hl : PO X lo (TN K mg W fl)) (hu : PO X hi (TN K mg W fu)) (hc : PO X (some c) (TN K mg W fc)) : PE X (.Subscript e (.Slice lo hi (some c) p2) pos) (TF K mg W (fStp fa fl fu fc)) := by
  obtain ⟨rfl, rfl, _, _, _, _⟩ := ct
  refine pe_imp (pe_step h hl hu hc) fun σ H Q ⟨F, ρ, A, gd, po⟩ => ?_
  refine seqO gd (po := fun o => PoE X.K X.mg W F σ H ρ A o Q) poE_no (poE_exS Stp.refl) po fun h1 ρ1 v1 H1 A1 g1 s1 r1 po => ?_
  refine seqN g1 (po := fun o => PoE X.K X.mg W F σ H ρ A o Q) poE_no (poE_exS s1) po fun l ρ2 H2 A2 g2 s2 po => ?_
  refine seqN g2 (po := fun o => PoE X.K X.mg W F σ H ρ A o Q) poE_no (poE_exS (s1.trans s2)) po fun u ρ3 H3 A3 g3 s3 po => ?_
  refine seqN g3 (po := fun o => PoE X.K X.mg W F σ H ρ A o Q) poE_no (poE_exS ((s1.trans s2).trans s3)) po fun k ρ4 H4 A4 g4 s4 po => ?_
  obtain ⟨d, e1, po⟩ := seqOpt (po := fun o => PoE X.K X.mg W F σ H ρ A o Q) poE_no po
  obtain ⟨r, e2, po⟩ := seqOpt (po := fun o => PoE X.K X.mg W F σ H ρ A o Q) poE_no po
  have hd := look_ok g4 (r1.mono ((s2.trans s3).trans s4).vs) e1
  have s := ((s1.trans s2).trans s3).trans s4
  cases d with
  | list ds =>
    simp only [gStp] at e2
    split at e2
    · rename_i h0
      cases e2
      obtain ⟨p, vs, rfl, q1, q2⟩ := hd.list
      exact ⟨p, vs, rfl, .of q1, h0, fun a ha => po _ _ ((Fin.newL g4 ha (RpL_pick q2 _ _ _)).trans s)⟩
    · cases e2
  | _ => cases e2
end
end Z
end
section
namespace Z
open PySem PySem.Spec L2
/-! ### a comprehension with two fors -/
def lcL2 (vs vs1 : List Nat) (t : GF) (c : BF) (fi1 : IF) (t1 : GF) (c1 : BF) (f : EF) : List D → List S → List D → Option (List D × List S)
  | [], ρ, acc => some (acc, ρ)
  | d :: ds, ρ, acc => (t d ρ).bind fun ρ1 => (toOpt (c ρ1)).bind fun p => if p.1 = true then (toOpt (fi1 p.2)).bind fun q => if clean vs1 q.2 then (lcL vs1 t1 c1 f q.1 (wipeS q.2 vs1) acc).bind fun r => if clean vs r.2 then lcL2 vs vs1 t c fi1 t1 c1 f ds (wipeS r.2 vs) r.1 else none else none
      else if clean vs p.2 then lcL2 vs vs1 t c fi1 t1 c1 f ds (wipeS p.2 vs) acc else none
def fLc2 (vs vs1 : List Nat) (fi : IF) (t : GF) (c : BF) (fi1 : IF) (t1 : GF) (c1 : BF) (f : EF) : EF := fun ρ => fi ρ >>= fun p => if clean vs p.2 then Rs.of (lcL2 vs vs1 t c fi1 t1 c1 f p.1 (wipeS p.2 vs) []) >>= fun q => .ok (.ow (.list q.1), restS p.2 q.2 vs) else .no
section
variable {X : Cx} {K : PySem.W.Frag} {mg : Str → Option Value} {W : WX} {n : Nat} {pos : Pos} {is is1 vs vs1 : List Nat} {t t1 : GF} {c c1 : BF} {f : EF} {fi fi1 : IF}
theorem lc2_r (hv : ∀ i ∈ is, i ∈ vs) (hv1 : ∀ i ∈ is1, i ∈ vs1) (hvv : ∀ i ∈ vs1, i ∈ vs) : ∀ σ H Q, TF K mg W (fLc2 vs vs1 fi t c fi1 t1 c1 f) σ H Q → tLc2 (TIt K mg W fi) (TGt K is t) (TB' K mg W0 c) (TIt K mg W0 fi1) (TGt K is1 t1) (TB' K mg W0 c1) (TF K mg W0 f) vs vs1 σ H Q := by
  intro σ H Q ⟨F, ρ, A, gd, po⟩
  have sl := sizeLine_eq
  refine ⟨F, ρ, A, gd, ?_⟩
  unfold fLc2 at po
  cases q : fi ρ with
  | no => rw [q] at po; exact po.elim
  | ex ρ' c fs => rw [q] at po; exact po
  | ok pr =>
    obtain ⟨ds, ρ1⟩ := pr
    rw [q] at po
    simp only [Rs.bind_ok] at po
    split at po
    case isFalse => exact po.elim
    case isTrue hcl =>
    obtain ⟨⟨accF, ρF⟩, eF, po⟩ := seqOpt (po := fun o => PoE K mg W F σ H ρ A o Q) poE_no po
    intro J H1 A1 g1 s1 wk Dd hD
    have nFD : ¬ F Dd := fun z => g1.trk Dd z hD
    have gh : Good K (adj F Dd) σ (upd H1 Dd (.lst [])) ρ1 A1 := g1.hide_new hD
    have gw : Good K (adj F Dd) (L2.wipe σ vs) (upd H1 Dd (.lst [])) (wipeS ρ1 vs) A1 := gh.wipe hcl (fun j hj => by
      by_cases hi : j < σ.length
      · rw [wipe_at hi]; simp [hj]
      · rw [List.getElem?_eq_none (by rw [wipe_length]; omega), List.getElem?_eq_none (by omega)]) (wipe_length _ _)
    have L0 : LcSt F H1 ρ1 A1 Dd (upd H1 Dd (.lst [])) ρ1 A1 := ⟨fun b hb => upd_ne (ne_z (g1.trk b hb) hD), view_hide g1 hD, fun i x y h => ⟨rfl, x, y, h⟩⟩
    refine ⟨fun i m H2 => ∃ ρ2 A2 acc us, Good K (adj F Dd) (L2.wipe σ vs) H2 ρ2 A2 ∧ LcSt F H1 ρ1 A1 Dd H2 ρ2 A2 ∧ H2 Dd = some (.lst us) ∧ RpL K (vw H2 (hid (adj F Dd) A2)) us acc ∧ (∀ i ∈ vs, ρ2[i]? = some .u) ∧ i ≤ ds.length ∧ m = ds.length - i ∧ lcL2 vs vs1 t c fi1 t1 c1 f (ds.drop i) ρ2 acc = some (accF, ρF),
      ⟨ds.length, wipeS ρ1 vs, A1, [], [], gw, L0.wipe hcl, upd_same, .nil, fun i hi => by
        obtain ⟨s, e, _⟩ := clean_at hcl hi
        rw [wipeS_at (lt_of_ix e)]; simp [hi], Nat.zero_le _, rfl, eF⟩, ?_⟩
    rintro i m H2 ⟨ρ2, A2, acc, us, g2, L2', e2, r2, hu, hi, rfl, ec⟩
    have v2 : Same (vw H1 (hid F A1)) H2 := L2'.vs.trans (vw_same _ _)
    obtain ⟨w1, w2⟩ := wk H2 v2
    by_cases hlt : i < ds.length
    · have hd : ds[i]? = some ds[i] := List.getElem?_eq_getElem hlt
      obtain ⟨go, yl⟩ := w1 i _ hd
      rw [List.drop_eq_getElem_cons hlt] at ec
      unfold lcL2 at ec
      cases et : t ds[i] ρ2 with
      | none => rw [et] at ec; cases ec
      | some ρ3 =>
        rw [et] at ec
        simp only [Option.bind_some] at ec
        cases eb : toOpt (c ρ3) with
        | none => rw [eb] at ec; cases ec
        | some pb =>
          obtain ⟨b, ρ4⟩ := pb
          rw [eb] at ec
          simp only [Option.bind_some] at ec
          have eb' := toOpt_some eb
          refine .inr ⟨go, fun H5 => ∃ ρ5 A5 acc5 us5, Good K (adj F Dd) (L2.wipe σ vs) H5 ρ5 A5 ∧ LcSt F H1 ρ1 A1 Dd H5 ρ5 A5 ∧ H5 Dd = some (.lst us5) ∧ RpL K (vw H5 (hid (adj F Dd) A5)) us5 acc5 ∧ (∀ i ∈ vs, ρ5[i]? = some .u) ∧ lcL2 vs vs1 t c fi1 t1 c1 f (ds.drop (i + 1)) ρ5 acc5 = some (accF, ρF),
            fun H5 ⟨ρ5, A5, acc5, us5, h1, h2, h3, h4, h5, h6⟩ => ⟨ds.length - (i + 1), by omega, ρ5, A5, acc5, us5, h1, h2, h3, h4, h5, hlt, rfl, h6⟩, fun x H3 y => ?_⟩
          obtain ⟨g3, s3, r3⟩ := yok_state g2 L2'.vs (yl x H3 y)
          refine ⟨adj F Dd, ρ2, A2, _, ρ3, g3, r3, et, fun σ4 A4 g4 s4 l4 k4 => ⟨(wipe_eq l4 k4 hv).trans wipe_wipe, adj F Dd, ρ3, A4, g4, ?_⟩⟩
          have hw4 : L2.wipe σ4 vs = L2.wipe σ vs := (wipe_eq l4 k4 hv).trans wipe_wipe
          have hl4 : σ4.length = (L2.wipe σ vs).length := l4
          have kσ : ∀ j, j ∉ vs → (L2.wipe σ vs)[j]? = σ4[j]? := fun j hj => (k4 j fun z => hj (hv j z)).symm
          have L4 := (L2'.step s3).step s4
          rw [eb']
          intro H6 A6 g6 s6
          have L6 := L4.step s6
          have hD6 : H6 Dd = some (.lst us) := by rw [s6.kf Dd (.inr rfl), s3.kf Dd (.inr rfl)]; exact e2
          have r6 : RpL K (vw H6 (hid (adj F Dd) A6)) us acc := ((r2.mono s3.vs).mono s4.vs).mono s6.vs
          -- on to the next turn, from any frame whose own slots are those of the block
          have nxt : ∀ (σ7 : St) (ρ7 : List S) (H7 : Hp) (A7 : List (Option Addr)) (acc7 : List D) (us7 : List V), σ7.length = σ4.length → (∀ j, j ∉ vs → σ4[j]? = σ7[j]?) → Good K (adj F Dd) σ7 H7 ρ7 A7 → LcSt F H1 ρ1 A1 Dd H7 ρ7 A7 → H7 Dd = some (.lst us7) → RpL K (vw H7 (hid (adj F Dd) A7)) us7 acc7 → clean vs ρ7 = true → lcL2 vs vs1 t c fi1 t1 c1 f (ds.drop (i + 1)) (wipeS ρ7 vs) acc7 = some (accF, ρF) →
              ∃ ρ5 A5 acc5 us5, Good K (adj F Dd) (L2.wipe σ vs) H7 ρ5 A5 ∧ LcSt F H1 ρ1 A1 Dd H7 ρ5 A5 ∧ H7 Dd = some (.lst us5) ∧ RpL K (vw H7 (hid (adj F Dd) A5)) us5 acc5 ∧ (∀ i ∈ vs, ρ5[i]? = some .u) ∧ lcL2 vs vs1 t c fi1 t1 c1 f (ds.drop (i + 1)) ρ5 acc5 = some (accF, ρF) :=
            fun σ7 ρ7 H7 A7 acc7 us7 hl7 hk7 h1 h2 h3 h4 h5 h6 => ⟨wipeS ρ7 vs, A7, acc7, us7, h1.wipe h5 (fun j hj => (kσ j hj).trans (hk7 j hj)) (by rw [hl7]; exact hl4.symm), h2.wipe h5, h3, h4, fun j hj => by
              obtain ⟨s, e, _⟩ := clean_at h5 hj
              rw [wipeS_at (lt_of_ix e)]; simp [hj], h6⟩
          cases b with
          | false =>
            simp only [Bool.false_eq_true, if_false] at ec
            split at ec
            · rename_i hc
              exact nxt σ4 ρ4 H6 A6 acc us rfl (fun _ _ => rfl) g6 L6 hD6 r6 hc ec
            · cases ec
          | true =>
            simp only [if_true] at ec
            cases ei : toOpt (fi1 ρ4) with
            | none => rw [ei] at ec; cases ec
            | some pi =>
              obtain ⟨es, ρ7⟩ := pi
              rw [ei] at ec
              simp only [Option.bind_some] at ec
              have ei' := toOpt_some ei
              split at ec
              case isFalse => cases ec
              case isTrue hc7 =>
              obtain ⟨⟨acc8, ρ8⟩, el, ec⟩ := Option.bind_eq_some_iff.mp ec
              split at ec
              case isFalse => cases ec
              case isTrue hc8 =>
              show TIt K mg W0 fi1 σ4 H6 _
              refine ⟨adj F Dd, ρ4, A6, g6, ?_⟩
              rw [ei']
              intro J1 H7 A7 g7 s7 wk1
              have L7 := L6.step s7
              have hD7 : H7 Dd = some (.lst us) := by rw [s7.kf Dd (.inr rfl)]; exact hD6
              have r7 : RpL K (vw H7 (hid (adj F Dd) A7)) us acc := r6.mono s7.vs
              have wat : ∀ j, j ∉ vs1 → (L2.wipe σ4 vs1)[j]? = σ4[j]? := fun j hj => by
                by_cases hi : j < σ4.length
                · rw [wipe_at hi]; simp [hj]
                · rw [List.getElem?_eq_none (by rw [wipe_length]; omega), List.getElem?_eq_none (by omega)]
              have gw7 : Good K (adj F Dd) (L2.wipe σ4 vs1) H7 (wipeS ρ7 vs1) A7 := g7.wipe hc7 wat (wipe_length _ _)
              refine ⟨fun j k H8 => ∃ ρ9 A9 acc9 us9, Good K (adj F Dd) (L2.wipe σ4 vs1) H8 ρ9 A9 ∧ LcSt F H1 ρ1 A1 Dd H8 ρ9 A9 ∧ Same (vw H7 (hid (adj F Dd) A7)) (vw H8 (hid (adj F Dd) A9)) ∧ H8 Dd = some (.lst us9) ∧ RpL K (vw H8 (hid (adj F Dd) A9)) us9 acc9 ∧ j ≤ es.length ∧ k = es.length - j ∧ lcL vs1 t1 c1 f (es.drop j) ρ9 acc9 = some (acc8, ρ8),
                ⟨es.length, wipeS ρ7 vs1, A7, acc, us, gw7, L7.wipe hc7, fun _ _ z => z, hD7, r7, Nat.zero_le _, rfl, el⟩, ?_⟩
              rintro j k H8 ⟨ρ9, A9, acc9, us9, g9, L9, sm9, hD9, r9, hj, rfl, el9⟩
              obtain ⟨x1, x2⟩ := wk1 H8 (sm9.trans (vw_same _ _))
              by_cases hjl : j < es.length
              · have hd9 : es[j]? = some es[j] := List.getElem?_eq_getElem hjl
                obtain ⟨go1, yl1⟩ := x1 j _ hd9
                rw [List.drop_eq_getElem_cons hjl] at el9
                unfold lcL at el9
                cases et1 : t1 es[j] ρ9 with
                | none => rw [et1] at el9; cases el9
                | some ρa =>
                  rw [et1] at el9
                  simp only [Option.bind_some] at el9
                  cases eb1 : toOpt (c1 ρa) with
                  | none => rw [eb1] at el9; cases el9
                  | some pb1 =>
                    obtain ⟨b1, ρb⟩ := pb1
                    rw [eb1] at el9
                    simp only [Option.bind_some] at el9
                    have eb1' := toOpt_some eb1
                    refine .inr ⟨go1, fun H5 => ∃ ρ5 A5 acc5 us5, Good K (adj F Dd) (L2.wipe σ4 vs1) H5 ρ5 A5 ∧ LcSt F H1 ρ1 A1 Dd H5 ρ5 A5 ∧ Same (vw H7 (hid (adj F Dd) A7)) (vw H5 (hid (adj F Dd) A5)) ∧ H5 Dd = some (.lst us5) ∧ RpL K (vw H5 (hid (adj F Dd) A5)) us5 acc5 ∧ lcL vs1 t1 c1 f (es.drop (j + 1)) ρ5 acc5 = some (acc8, ρ8),
                      fun H5 ⟨ρ5, A5, acc5, us5, h1, h2, h3, h4, h5, h6⟩ => ⟨es.length - (j + 1), by omega, ρ5, A5, acc5, us5, h1, h2, h3, h4, h5, hjl, rfl, h6⟩, fun xx Ha ya => ?_⟩
                    obtain ⟨ga, sa, ra⟩ := yok_state g9 sm9 (yl1 xx Ha ya)
                    refine ⟨adj F Dd, ρ9, A9, _, ρa, ga, ra, et1, fun σb Ab gb sb lb kb => ⟨(wipe_eq lb kb hv1).trans wipe_wipe, adj F Dd, ρa, Ab, gb, ?_⟩⟩
                    have hlb : σb.length = (L2.wipe σ4 vs1).length := lb
                    have kσb : ∀ j, j ∉ vs1 → (L2.wipe σ4 vs1)[j]? = σb[j]? := fun j hj => (kb j fun z => hj (hv1 j z)).symm
                    have Lb := (L9.step sa).step sb
                    rw [eb1']
                    intro Hc Ac gc sc
                    have Lc := Lb.step sc
                    have hDc : Hc Dd = some (.lst us9) := by rw [sc.kf Dd (.inr rfl), sa.kf Dd (.inr rfl)]; exact hD9
                    have rc : RpL K (vw Hc (hid (adj F Dd) Ac)) us9 acc9 := ((r9.mono sa.vs).mono sb.vs).mono sc.vs
                    have smc := ((sm9.trans sa.vs).trans sb.vs).trans sc.vs
                    have nx1 : ∀ (ρ0 : List S) (H0 : Hp) (A0 : List (Option Addr)) (acc0 : List D) (us0 : List V), Good K (adj F Dd) σb H0 ρ0 A0 → LcSt F H1 ρ1 A1 Dd H0 ρ0 A0 → Same (vw H7 (hid (adj F Dd) A7)) (vw H0 (hid (adj F Dd) A0)) → H0 Dd = some (.lst us0) → RpL K (vw H0 (hid (adj F Dd) A0)) us0 acc0 → clean vs1 ρ0 = true → lcL vs1 t1 c1 f (es.drop (j + 1)) (wipeS ρ0 vs1) acc0 = some (acc8, ρ8) →
                        ∃ ρ5 A5 acc5 us5, Good K (adj F Dd) (L2.wipe σ4 vs1) H0 ρ5 A5 ∧ LcSt F H1 ρ1 A1 Dd H0 ρ5 A5 ∧ Same (vw H7 (hid (adj F Dd) A7)) (vw H0 (hid (adj F Dd) A5)) ∧ H0 Dd = some (.lst us5) ∧ RpL K (vw H0 (hid (adj F Dd) A5)) us5 acc5 ∧ lcL vs1 t1 c1 f (es.drop (j + 1)) ρ5 acc5 = some (acc8, ρ8) :=
                      fun ρ0 H0 A0 acc0 us0 h1 h2 h3 h4 h5 h6 h7 => ⟨wipeS ρ0 vs1, A0, acc0, us0, h1.wipe h6 kσb hlb.symm, h2.wipe h6, h3, h4, h5, h7⟩
                    cases b1 with
                    | false =>
                      simp only [Bool.false_eq_true, if_false] at el9
                      split at el9
                      · rename_i hc
                        exact nx1 ρb Hc Ac acc9 us9 gc Lc smc hDc rc hc el9
                      · cases el9
                    | true =>
                      simp only [if_true] at el9
                      cases ef : toOpt (f ρb) with
                      | none => rw [ef] at el9; cases el9
                      | some pf =>
                        obtain ⟨r, ρe⟩ := pf
                        rw [ef] at el9
                        simp only [Option.bind_some] at el9
                        have ef' := toOpt_some ef
                        show TF K mg W0 f σb Hc _
                        refine ⟨adj F Dd, ρb, Ac, gc, ?_⟩
                        rw [ef']
                        have fin : ∀ d' v He, Fin K (adj F Dd) σb Hc ρb Ac (.sh d') ρe v He → (if clean vs1 ρe && decide (acc9.length < 16777216) then lcL vs1 t1 c1 f (es.drop (j + 1)) (wipeS ρe vs1) (acc9 ++ [d']) else none) = some (acc8, ρ8) →
                            ∃ us1, He Dd = some (.lst us1) ∧ us1.length < sizeLine ∧ ∃ ρ5 A5 acc5 us5, Good K (adj F Dd) (L2.wipe σ4 vs1) (upd He Dd (.lst (us1 ++ [v]))) ρ5 A5 ∧ LcSt F H1 ρ1 A1 Dd (upd He Dd (.lst (us1 ++ [v]))) ρ5 A5 ∧ Same (vw H7 (hid (adj F Dd) A7)) (vw (upd He Dd (.lst (us1 ++ [v]))) (hid (adj F Dd) A5)) ∧ (upd He Dd (.lst (us1 ++ [v]))) Dd = some (.lst us5) ∧ RpL K (vw (upd He Dd (.lst (us1 ++ [v]))) (hid (adj F Dd) A5)) us5 acc5 ∧ lcL vs1 t1 c1 f (es.drop (j + 1)) ρ5 acc5 = some (acc8, ρ8) := by
                          intro d' v He ⟨Ae, ge, se, pe⟩ e
                          split at e
                          · rename_i hc
                            rw [Bool.and_eq_true] at hc
                            have hlen := of_decide_eq_true hc.2
                            have hDe : He Dd = some (.lst us9) := by rw [se.kf Dd (.inr rfl)]; exact hDc
                            have re : RpL K (vw He (hid (adj F Dd) Ae)) us9 acc9 := rc.mono se.vs
                            refine ⟨us9, hDe, by rw [re.len]; omega, nx1 ρe _ Ae (acc9 ++ [d']) (us9 ++ [v]) (ge.writeF (.inr rfl)) ((Lc.step se).write nFD) ((smc.trans se.vs).trans (view_writeF (.inr rfl))) upd_same ((re.app (.cons pe .nil)).mono (view_writeF (.inr rfl))) hc.1 e⟩
                          · cases e
                        cases r with
                        | sh d' => intro v He fe; exact fin d' v He fe el9
                        | ow d' => intro v He fe; exact fin d' v He fe.weak el9
                        | _ => cases el9
              · have e : j = es.length := by omega
                subst e
                rw [List.drop_length] at el9
                cases el9
                refine .inl ⟨x2, nxt (L2.wipe σ4 vs1) ρ8 H8 A9 acc8 us9 (wipe_length _ _) (fun j hj => (wat j fun z => hj (hvv j z)).symm) g9 L9 hD9 r9 hc8 ec⟩
    · have e : i = ds.length := by omega
      subst e
      rw [List.drop_length] at ec
      cases ec
      refine .inl ⟨w2, po _ H2 ⟨A2, Dd, rfl, nFD, ?_, ?_, ?_, us, e2, r2⟩⟩
      · refine g2.rest hu hcl (fun i s hi e => ?_) (fun j hj => ?_) (wipe_length _ _).symm
        · have k := g1.slot i s e
          have hn := clean_none g1 hcl hi
          rw [hn] at k
          exact k.mono (fun _ z => by cases z) L2'.vs
        · by_cases hi : j < σ.length
          · rw [wipe_at hi]; simp [hj]
          · rw [List.getElem?_eq_none (by omega), List.getElem?_eq_none (by rw [wipe_length]; omega)]
      · refine ⟨fun b hb => (L2'.kf b hb).trans (s1.kf b hb), s1.vs.trans (L2'.vs.trans view_unhide), fun j x y h => ?_⟩
        obtain ⟨q1, x', y', q2⟩ := s1.cu j x y h
        obtain ⟨q3, x2, y2, q4⟩ := L2'.cu j x' y' q2
        refine ⟨q3.trans q1, x2, y2, ?_⟩
        have hv : j ∉ vs := fun hv => by obtain ⟨s, e, p⟩ := clean_at hcl hv; rw [q2] at e; cases e; cases p
        rw [restS_at (lt_of_ix q4)]
        simp [hv, q4]
      · exact s1.vs.trans L2'.vs
variable {elt tg iter tg1 iter1 : Expr} {ifs ifs1 : List Expr} {scope : Scope} {own : List (Str × Nat)}
theorem ev_lc2 (ct : Ct X K mg W n) (hv : ∀ i ∈ is, i ∈ own.map (·.2)) (hv1 : ∀ i ∈ is1, i ∈ vs1) (hvv : ∀ i ∈ vs1, i ∈ own.map (·.2)) (hi : PI X tg iter (TIt K mg W fi)) (ok : BlkOk X.N X.env.scope scope own)
    (hg : ∀ (s : Shared) (H : Hp) (C : Addr) (cl : List (Str × Addr)) (fp : List Addr), PG (X.blk s H scope (compEnvC scope cl C X.env) fp) tg (TGt K is t)) (ht : ∀ (s : Shared) (H : Hp) (C : Addr) (cl : List (Str × Addr)) (fp : List Addr), PTs (X.blk s H scope (compEnvC scope cl C X.env) fp) ifs (TB' K mg W0 c))
    (hi1 : ∀ (s : Shared) (H : Hp) (C : Addr) (cl : List (Str × Addr)) (fp : List Addr), PI (X.blk s H scope (compEnvC scope cl C X.env) fp) tg1 iter1 (TIt K mg W0 fi1))
    (hg1 : ∀ (s : Shared) (H : Hp) (C : Addr) (cl : List (Str × Addr)) (fp : List Addr), PG (X.blk s H scope (compEnvC scope cl C X.env) fp) tg1 (TGt K is1 t1)) (ht1 : ∀ (s : Shared) (H : Hp) (C : Addr) (cl : List (Str × Addr)) (fp : List Addr), PTs (X.blk s H scope (compEnvC scope cl C X.env) fp) ifs1 (TB' K mg W0 c1))
    (he : ∀ (s : Shared) (H : Hp) (C : Addr) (cl : List (Str × Addr)) (fp : List Addr), PE (X.blk s H scope (compEnvC scope cl C X.env) fp) elt (TF K mg W0 f)) (hs : ∀ x, foldedSetIterable iter X.env x = pure x := by intro _; rfl) (hs1 : ∀ env x, foldedSetIterable iter1 env x = pure x := by intro _ _; rfl) :
    PE X (.ListComp elt [⟨tg, iter, ifs, 0⟩, ⟨tg1, iter1, ifs1, 0⟩] scope pos) (TF K mg W (fLc2 (own.map (·.2)) vs1 fi t c fi1 t1 c1 f)) := pe_imp (pe_lc2 ct.calm ct.nd hi ok hvv hg ht hi1 hg1 ht1 he hs hs1) (lc2_r hv hv1 hvv)
theorem st_setLc2 {i : Nat} {y : Str} {py spos : Pos} (ct : Ct X K mg W n) (hv : ∀ i ∈ is, i ∈ own.map (·.2)) (hv1 : ∀ i ∈ is1, i ∈ vs1) (hvv : ∀ i ∈ vs1, i ∈ own.map (·.2)) (hy : X.N[i]? = some y) (hyl : X.env.scope.names.lookup y = some .local)
    (hsw : swapsWith (.ListComp elt [⟨tg, iter, ifs, 0⟩, ⟨tg1, iter1, ifs1, 0⟩] scope pos) (some (.Name y py)) spos.line X.env = pure true) (hi : PI X tg iter (TIt K mg W fi)) (ok : BlkOk X.N X.env.scope scope own)
    (hg : ∀ (s : Shared) (H : Hp) (C : Addr) (cl : List (Str × Addr)) (fp : List Addr), PG (X.blk s H scope (compEnvC scope cl C X.env) fp) tg (TGt K is t)) (ht : ∀ (s : Shared) (H : Hp) (C : Addr) (cl : List (Str × Addr)) (fp : List Addr), PTs (X.blk s H scope (compEnvC scope cl C X.env) fp) ifs (TB' K mg W0 c))
    (hi1 : ∀ (s : Shared) (H : Hp) (C : Addr) (cl : List (Str × Addr)) (fp : List Addr), PI (X.blk s H scope (compEnvC scope cl C X.env) fp) tg1 iter1 (TIt K mg W0 fi1))
    (hg1 : ∀ (s : Shared) (H : Hp) (C : Addr) (cl : List (Str × Addr)) (fp : List Addr), PG (X.blk s H scope (compEnvC scope cl C X.env) fp) tg1 (TGt K is1 t1)) (ht1 : ∀ (s : Shared) (H : Hp) (C : Addr) (cl : List (Str × Addr)) (fp : List Addr), PTs (X.blk s H scope (compEnvC scope cl C X.env) fp) ifs1 (TB' K mg W0 c1))
    (he : ∀ (s : Shared) (H : Hp) (C : Addr) (cl : List (Str × Addr)) (fp : List Addr), PE (X.blk s H scope (compEnvC scope cl C X.env) fp) elt (TF K mg W0 f)) (hs : ∀ x, foldedSetIterable iter X.env x = pure x := by intro _; rfl) (hs1 : ∀ env x, foldedSetIterable iter1 env x = pure x := by intro _ _; rfl) :
    PS X (.Assign [.Name y py] (.ListComp elt [⟨tg, iter, ifs, 0⟩, ⟨tg1, iter1, ifs1, 0⟩] scope pos) spos) (TSt K mg W (sSet i (fLc2 (own.map (·.2)) vs1 fi t c fi1 t1 c1 f))) := by
  refine ps_imp (ps_setLc2 ct.calm ct.nd hy hyl hsw hi ok hvv hg ht hi1 hg1 ht1 he hs hs1) fun D' σ H h => ?_
  have h1 := set_r (f := fLc2 (own.map (·.2)) vs1 fi t c fi1 t1 c1 f) D' σ H h
  exact lc2_r hv hv1 hvv σ H _ h1
end
end Z
end
section
namespace Z
open PySem PySem.Spec L2
section
variable {X : Cx} {K : PySem.W.Frag} {mg : Str → Option Value} {W : WX} {n : Nat} {f : EF}
/-! ### xs.remove(k), xs a list of whole numbers -/
def remS (i : Nat) (k : Int) (ρ : List S) : Rs (S × List S) := match ρ[i]? with
  | some (.ow (.list ds)) => match intL ds with
    | some ns => if ns.idxOf k < ns.length then .ok (.sh .none, ρ.set i (.ow (.list ((ns.eraseIdx (ns.idxOf k)).map PyData.int)))) else .no
    | none => .no
  | _ => .no
def fRem (i : Nat) (f : EF) : EF := fun ρ => match ρ[i]? with
  | some (.ow (.list _)) => f ρ >>= fun p => match p.1 with
    | .sh (.int k) => remS i k p.2
    | _ => .no
  | _ => .no
theorem RpL.intsOf {H : Hp} : ∀ {vs : List V} {ns : List Int}, RpL K H vs (ns.map PyData.int) → vs = ns.map V.int
  | _, [], .nil => rfl
  | _, n :: ns, .cons r t => by
    cases r
    rw [List.map_cons, RpL.intsOf t]
theorem idx_first : ∀ (ns : List Int) (k : Int) (m : Nat), m < ns.idxOf k → ns[m]? ≠ some k
  | [], k, m, h => by simp at h
  | a :: ns, k, m, h => by
    rw [List.idxOf_cons] at h
    by_cases e : a = k
    · subst e
      simp at h
    · have e' : (a == k) = false := by simpa using e
      simp only [e', cond_false] at h
      cases m with
      | zero => simp [e]
      | succ m =>
        rw [List.getElem?_cons_succ]
        exact idx_first ns k m (by omega)
theorem ev_remove {c : Expr} (i : Nat) (h : PE X c (tBM X.K "list" rRemI (tVar i) (tCons (TF K mg W f) tNil))) : PE X c (TF K mg W (fRem i f)) := by
  refine pe_imp h fun σ H Q ⟨F, ρ, A, gd, po⟩ => ?_
  unfold fRem at po
  cases q : ρ[i]? with
  | none => rw [q] at po; exact po.elim
  | some s =>
    rw [q] at po
    cases s with
    | ow d0 =>
      cases d0 with
      | list ds0 =>
        obtain ⟨a, ha, e1, vs0, hH, _⟩ := gd.slot i _ q
        refine ⟨.ref a, e1, .inl ⟨rfl, _, .inl (.inl hH)⟩, ?_⟩
        refine seqE gd (po := fun o => PoE K mg W F σ H ρ A o Q) poE_no (poE_exS Stp.refl) po fun r ρ1 v H1 f1 po => ?_
        cases r with
        | sh d =>
          cases d with
          | int k =>
            obtain ⟨A1, g1, s1, p1⟩ := f1
            have hv : v = .int k := by cases p1; rfl
            subst hv
            simp only at po
            unfold remS at po
            cases q1 : ρ1[i]? with
            | none => rw [q1] at po; exact po.elim
            | some s' =>
              rw [q1] at po
              cases s' with
              | ow d1 =>
                cases d1 with
                | list ds =>
                  simp only at po
                  cases q2 : intL ds with
                  | none => rw [q2] at po; exact po.elim
                  | some ns =>
                    rw [q2] at po
                    simp only at po
                    split at po
                    · rename_i hk
                      have hds := ints_map q2
                      subst hds
                      obtain ⟨a', ha', e1', vs, hH1, r1⟩ := g1.slot i _ q1
                      rw [e1] at e1'; cases e1'
                      have hvs := RpL.intsOf r1
                      subst hvs
                      have st := Stp.write (s := .ow (.list ((ns.eraseIdx (ns.idxOf k)).map PyData.int))) (o := .lst ((ns.eraseIdx (ns.idxOf k)).map V.int)) g1 ha' (fun x y z => by rw [q1] at z; cases z)
                      refine ⟨a, ns, k, ns.idxOf k, rfl, rfl, hH1, ?_, idx_first ns k, po _ _ ⟨A1, g1.write ha' e1 ⟨(ns.eraseIdx (ns.idxOf k)).map V.int, upd_same, RpL.ints _⟩, s1.trans st, .non⟩⟩
                      rw [List.getElem?_eq_getElem hk, List.getElem_idxOf]
                    · exact po.elim
                | _ => exact po.elim
              | _ => exact po.elim
          | _ => exact po.elim
        | _ => exact po.elim
      | _ => exact po.elim
    | _ => exact po.elim
end
end Z
end
section
namespace Z
open PySem PySem.Spec L2
section
variable {X : Cx} {K : PySem.W.Frag} {mg : Str → Option Value} {W : WX} {n : Nat} {f : EF} {fa : OF}
/-! ### xs.index(k), xs a list of whole numbers -/
def gIdx (k : Int) : D → Option S
  | .list ds => match intL ds with
    | some ns => if ns.idxOf k < ns.length then some (.sh (.int (ns.idxOf k : Nat))) else none
    | none => none
  | _ => none
def isLst : D → Bool
  | .list _ => true
  | _ => false
def fIdx (fa : OF) (f : EF) : EF := fun ρ => fa ρ >>= fun p => Rs.of (look p.1 p.2) >>= fun d0 => if isLst d0 = true then f p.2 >>= fun q => match q.1 with
    | .sh (.int k) => Rs.of (look p.1 q.2) >>= fun d => Rs.of (gIdx k d) >>= fun r => .ok (r, q.2)
    | _ => .no
  else .no
theorem flat_ints (ns : List Int) : (ns.map V.int).all flatV = true := List.all_eq_true.mpr fun v hv => by
  obtain ⟨i, _, rfl⟩ := List.mem_map.mp hv
  rfl
theorem ev_index {c : Expr} (h : PE X c (tBM X.K "list" (rIndex X.K) (TO' X.K mg W fa) (tCons (TF X.K mg W f) tNil))) (hK : K = X.K) : PE X c (TF K mg W (fIdx fa f)) := by
  subst hK
  refine pe_imp h fun σ H Q ⟨F, ρ, A, gd, po⟩ => ?_
  unfold fIdx at po
  refine seqO gd (po := fun o => PoE X.K mg W F σ H ρ A o Q) poE_no (poE_exS Stp.refl) po fun h1 ρ1 v1 H1 A1 g1 s1 r1 po => ?_
  obtain ⟨d0, e0, po⟩ := seqOpt (po := fun o => PoE X.K mg W F σ H ρ A o Q) poE_no po
  have hd0 := look_ok g1 r1 e0
  split at po
  case isFalse => exact po.elim
  case isTrue hl =>
  cases d0 with
  | list ds0 =>
    obtain ⟨p0, vs0, rfl, q0, _⟩ := hd0.list
    refine ⟨.inl ⟨rfl, _, .inl (.inl q0)⟩, ?_⟩
    refine seqE g1 (po := fun o => PoE X.K mg W F σ H ρ A o Q) poE_no (poE_exS s1) po fun r ρ2 v H2 f2 po => ?_
    cases r with
    | sh d =>
      cases d with
      | int k =>
        obtain ⟨A2, g2, s2, p2⟩ := f2
        have hv : v = .int k := by cases p2; rfl
        subst hv
        simp only at po
        obtain ⟨d, e1, po⟩ := seqOpt (po := fun o => PoE X.K mg W F σ H ρ A o Q) poE_no po
        obtain ⟨rr, e2, po2⟩ := seqOpt (po := fun o => PoE X.K mg W F σ H ρ A o Q) poE_no po
        have hd := look_ok g2 (r1.mono s2.vs) e1
        cases d with
        | list ds =>
          simp only [gIdx] at e2
          cases q2 : intL ds with
          | none => rw [q2] at e2; cases e2
          | some ns =>
            rw [q2] at e2
            simp only at e2
            split at e2
            · rename_i hk
              cases e2
              have hds := ints_map q2
              subst hds
              obtain ⟨p, vs, ep, q1, q3⟩ := hd.list
              cases ep
              have hvs := RpL.intsOf q3
              subst hvs
              refine ⟨p0, ns.map V.int, .int k, ns.idxOf k, .int k, rfl, rfl, .of q1, rfl, flat_ints ns, ?_, ?_, fun m z' hm hz => ?_, po2 _ _ ⟨A2, g2, s1.trans s2, .int _⟩⟩
              · rw [List.getElem?_map, List.getElem?_eq_getElem hk, List.getElem_idxOf]
                rfl
              · simp [eqV]
              · rw [List.getElem?_map, Option.map_eq_some_iff] at hz
                obtain ⟨i, hi, rfl⟩ := hz
                have := idx_first ns k m hm
                rw [hi] at this
                simpa [eqV] using fun z => this (by rw [z])
            · cases e2
        | _ => cases e2
      | _ => exact po.elim
    | _ => exact po.elim
  | _ => cases hl
end
end Z
end
section
namespace Z
open PySem PySem.Spec L2
section
variable {X : Cx} {K : PySem.W.Frag} {mg : Str → Option Value} {W : WX} {n : Nat} {f1 f2 : EF} {pos : Pos}
/-- a, b = e1, e2, plain names; e1 a fresh list, which stays the frame's own -/
def parO (i j : Nat) (d d' : D) (ρ : List S) : Rs (Out × List S) := Rs.of ((setS j (.sh d') ρ).bind (setS i (.ow d))) >>= fun ρ' => .ok (.nx, ρ')
def sParO (i j : Nat) (f1 f2 : EF) : SF := fun ρ => f1 ρ >>= fun p => match p.1 with
  | .ow d => f2 p.2 >>= fun q => match q.1 with
    | .sh d' => parO i j d d' q.2
    | .ow d' => parO i j d d' q.2
    | _ => .no
  | _ => .no
theorem st_parO {i j : Nat} {x y : Str} {a b : Expr} {px py pt : Pos} {kt k2 pt2} (ct : Ct X K mg W n) (h1 : PE X a (TF K mg W f1)) (h2 : PE X b (TF K mg W f2)) (hi : X.N[i]? = some x := by rfl) (hj : X.N[j]? = some y := by rfl) (hij : i ≠ j := by decide)
    (hx : X.env.scope.names.lookup x = some .local := by rfl) (hy : X.env.scope.names.lookup y = some .local := by rfl)
    (hs1 : starEach (a :: [b]) X.env = (false, eval a X.env) :: starEach [b] X.env := by rfl) (hs2 : starEach (b :: []) X.env = (false, eval b X.env) :: starEach [] X.env := by rfl)
    (hw : swappedStores [.Tuple [.Name x px, .Name y py] kt pt] (.Tuple [a, b] k2 pt2) X.env = pure (some [x, y]) := by rfl) (hs : swapsWithSole [.Tuple [.Name x px, .Name y py] kt pt] (.Tuple [a, b] k2 pt2) pos.line X.env = pure false := by rfl) :
    PS X (.Assign [.Tuple [.Name x px, .Name y py] kt pt] (.Tuple [a, b] k2 pt2) pos) (TSt K mg W (sParO i j f1 f2)) := by
  refine ps_imp (ps_par ct.calm ct.nd hi hj hij hx hy (pa_cons h1 (pa_cons h2 pa_nil hs2) hs1) hw hs) fun D' σ H ⟨F, ρ, A, gd, po⟩ => ?_
  refine seqES gd po fun r ρ1 v H1 fi po => ?_
  cases r with
  | ow d =>
    obtain ⟨A1, c, rfl, na, g1, s1, m1, o1⟩ := fi
    simp only at po
    have stp : ∀ (H2 : Hp) (ρ2 : List S) (A2 : List (Option Addr)), Stp (adj F c) H1 ρ1 A1 H2 ρ2 A2 → Stp F H ρ A H2 ρ2 A2 := fun H2 ρ2 A2 s2 => ⟨fun b hb => (s2.kf b (.inl hb)).trans (s1.kf b hb), (m1.trans s2.vs).trans view_unhide, fun k x y e => by
      obtain ⟨q1, x1, y1, q2⟩ := s1.cu k x y e
      obtain ⟨q3, q4⟩ := s2.cu k x1 y1 q2
      exact ⟨q3.trans q1, q4⟩⟩
    have last : ∀ d' v H2 ρ2, Fin K (adj F c) σ H1 ρ1 A1 (.sh d') ρ2 v H2 → PoS K mg W F σ H ρ A (parO i j d d' ρ2) D' → ∃ u w, [V.ref c, v] = [u, w] ∧ D'.nx ((σ.set i (some u)).set j (some w)) H2 := by
      intro d' v H2 ρ2 ⟨A2, g2, s2, p2⟩ po
      unfold parO at po
      obtain ⟨ρ', e1, po⟩ := seqOpt (po := fun o => PoS K mg W F σ H ρ A o D') poS_no po
      obtain ⟨ρ3, q1, e1⟩ := Option.bind_eq_some_iff.mp e1
      obtain ⟨k1, rfl, k2⟩ := setS_some q1
      obtain ⟨k3, rfl, k4⟩ := setS_some e1
      have o3' : ∃ ds us, d = .list ds ∧ H1 c = some (.lst us) ∧ RpL K (vw H1 (hid (adj F c) A1)) us ds := by
        cases d with
        | list ds => obtain ⟨us, oe, orr⟩ := o1; exact ⟨ds, us, rfl, oe, orr⟩
        | _ => exact o1.elim
      obtain ⟨ds, us, rfl, oe, orr⟩ := o3'
      have g3 := g2.put k1 p2
      have o3 : Ow K H2 (vw H2 (hid (adj F c) (A2.set j none))) c (.list ds) := ⟨us, by rw [s2.kf c (.inr rfl)]; exact oe, (orr.mono s2.vs).mono view_setNone⟩
      have g4 := g3.putO na k3 o3
      have sA := stp H2 ρ2 A2 s2
      refine ⟨_, _, rfl, ?_⟩
      rw [List.set_comm _ _ hij]
      refine po _ H2 _ g4 ⟨sA.kf, ((m1.trans s2.vs).trans view_setNone).trans view_putO, fun k x y e => ?_⟩
      obtain ⟨q1, x', y', q2⟩ := sA.cu k x y e
      have hk1 : j ≠ k := fun z => by subst z; exact k2 _ _ q2
      have hk2 : i ≠ k := fun z => by
        subst z
        refine k4 x' y' ?_
        rw [List.getElem?_set_ne hk1]; exact q2
      rw [List.getElem?_set_ne hk2, List.getElem?_set_ne hk1, List.getElem?_set_ne hk2, List.getElem?_set_ne hk1]
      exact ⟨q1, x', y', q2⟩
    show TF K mg W f2 σ H1 _
    refine ⟨adj F c, ρ1, A1, g1, ?_⟩
    cases e : f2 ρ1 with
    | no => rw [e] at po; exact po.elim
    | ex ρ' cc fs =>
      rw [e] at po
      exact fun C dd H' A' g s ev => po σ C dd H' A' g.unhide (stp _ _ _ s) ev
    | ok p =>
      obtain ⟨r, ρ2⟩ := p
      rw [e] at po
      simp only [Rs.bind_ok] at po
      cases r with
      | sh d' => exact fun v H2 f => last d' v H2 ρ2 f po
      | ow d' => exact fun v H2 f => last d' v H2 ρ2 f.weak po
      | _ => exact po.elim
  | _ => exact po.elim
end
end Z
end
section
/-! dict(l) of a list of pairs whose keys are tuples of ints and texts; len of such a dict -/
namespace L2
open PySem PySem.Spec PyProof.Rows
abbrev TKnd (prog : Program) (w : World) := tupleKind (mixKind prog w)
abbrev EntH := List Key × Addr × Value
def mergedH (xs more : List EntH) : List EntH := more.foldl (fun acc e => storedH acc e.1 e.2.1 e.2.2) xs
theorem storedH_len (xs : List EntH) (k : List Key) (a : Addr) (v : Value) : (storedH xs k a v).length ≤ xs.length + 1 := by
  unfold storedH
  split
  · rw [List.length_map]; omega
  · rw [List.length_append, List.length_cons, List.length_nil]; omega
theorem isKey_at {prog : Program} {w : World} {h h' : Heap} {ks : List Key} {a : Addr} (x : (TKnd prog w).is h ks a) (e : ∀ o, h.get? a = some o → h'.get? a = some o) : (TKnd prog w).is h' ks a := by
  obtain ⟨o, its, n, ho, r⟩ := (show IsTupleKey (mixKind prog w) h ks a from x)
  exact ⟨o, its, n, e o ho, r⟩
theorem isKey_ne {prog : Program} {w : World} {h : Heap} {ks : List Key} {a b : Addr} {ob : Obj} (x : (TKnd prog w).is h ks a) (hb : h.get? b = some ob) (hc : ob.cls ≠ .type "tuple") : a ≠ b := by
  obtain ⟨o, its, n, ho, hcl, _⟩ := (show IsTupleKey (mixKind prog w) h ks a from x)
  rintro rfl
  rw [ho] at hb
  cases hb
  exact hc hcl
theorem dictH_at {prog : Program} {w : World} {h h' : Heap} {d : Addr} {xs : List EntH} (x : h.DictOfH (TKnd prog w) d xs) (e : ∀ b o, h.get? b = some o → (b = d ∨ ∃ z ∈ xs, b = z.2.1) → h'.get? b = some o) : h'.DictOfH (TKnd prog w) d xs := by
  obtain ⟨o, es, ep, ho, hx, hd, he, hi, hn⟩ := x
  refine ⟨o, es, ep, e d o ho (.inl rfl), hx, hd, he, fun z hz => isKey_at (hi z hz) fun q hq => e _ _ hq (.inr ⟨z, hz, rfl⟩), hn⟩
theorem dictH_but {prog : Program} {w : World} {h h' : Heap} {d I : Addr} {oi : Obj} {xs : List EntH} (x : h.DictOfH (TKnd prog w) d xs) (hI : h.get? I = some oi) (hc : oi.cls ≠ .type "tuple") (hd : d ≠ I) (e : ∀ b o, b ≠ I → h.get? b = some o → h'.get? b = some o) : h'.DictOfH (TKnd prog w) d xs := by
  have hi := x
  obtain ⟨_, _, _, _, _, _, _, hi, _⟩ := hi
  refine dictH_at x fun b o hb z => ?_
  rcases z with rfl | ⟨z, hz, rfl⟩
  · exact e _ _ hd hb
  · exact e _ _ (isKey_ne (hi z hz) hI hc) hb

section
variable {prog : Program} {w : World} {A : Around} {E : Value → Shared → Prop}
theorem upd_loopT {R : Result → Shared → Prop} {S I l : Addr} {items : Array Value} {res : Value} (hu : A.units + 1 < cLine) (hh : A.handled = none) (hlI : l ≠ I) (hSI : S ≠ I) (hSl : S ≠ l) :
    ∀ (rest : List EntH) (i : Nat) (acc : List EntH) (ix : Int) (t : Tok) (s : Shared), items.size = i + rest.length → acc.length + rest.length ≤ sizeLine →
      (∀ (j : Nat) (q : EntH), rest[j]? = some q → ∃ b : Addr, items[i + j]? = some (.ref b) ∧ b ≠ S ∧ b ≠ I ∧ IsTup s.heap b #[.ref q.2.1, q.2.2] ∧ (TKnd prog w).is s.heap q.1 q.2.1) →
      s.heap.IsListIter I l i → s.heap.IsList l items → s.heap.DictOfH (TKnd prog w) S acc →
      (∀ h' tk, h'.DictOfH (TKnd prog w) S (mergedH acc rest) → (∀ b o, b ≠ S → b ≠ I → s.heap.get? b = some o → h'.get? b = some o) → R (.ok (.ret res)) { s with heap := h', toks := tk }) →
      codeAny (model prog w) A (.builtin "dict.update.loop" ⟨[.ref S, .ref I, .int ix t, res], []⟩) R s
  | [], i, acc, ix, t, s, hsz, hln, ht, hit, hl, hm, hR => by
    refine codeAny_builtin ud_entry ?_
    rw [Around.under_plainId ud_plain _]
    show wpAny _ A.in1 (pyNext (.ref I) >>= _) _ _ s
    obtain ⟨oi, ho1, ho2, ho3⟩ := hit
    refine wpAny_bind (wpAny_pyNext_list_end (A := A.in1) hh ⟨oi, ho1, ho2, ho3⟩ hl (by first | exact Array.getElem?_eq_none (Nat.le_of_eq hsz) | (simp at hsz; simp; omega)) fun h' he => ?_)
    show wpAny _ A.in1 (Builtin.Dict.addKeywords S [] >>= _) _ _ _
    refine wpAny_bind (wpAny_pure (wpAny_pure ?_))
    refine hR h' s.toks (dictH_but hm ho1 (by rw [ho2]; simp) hSI fun b o hb e => he b o hb e) fun b o _ hb e => he b o hb e
  | q :: rest, i, acc, ix, t, s, hsz, hln, ht, hit, hl, hm, hR => by
    obtain ⟨b, hb, hbS, hbI, htup, hk⟩ := ht 0 q rfl
    rw [List.length_cons] at hsz hln
    refine codeAny_builtin ud_entry ?_
    rw [Around.under_plainId ud_plain _]
    obtain ⟨oi, ho1, ho2, ho3⟩ := hit
    have hnt : oi.cls ≠ .type "tuple" := by rw [ho2]; simp
    show wpAny _ A.in1 (pyNext (.ref I) >>= _) _ _ s
    refine wpAny_bind (wpAny_pyNext_list_item (x := .ref b) ⟨oi, ho1, ho2, ho3⟩ hl (by simpa using hb) fun h1 hit1 hs1 => ?_)
    have ht1 : IsTup h1 b #[.ref q.2.1, q.2.2] := htup.extBut hs1.extBut hbI
    have hl1 : h1.IsList l items := hl.extBut hs1.extBut hlI
    have hm1 : h1.DictOfH (TKnd prog w) S acc := dictH_but hm ho1 hnt hSI fun b o hb e => hs1.extBut b o hb e
    have hk1 : (TKnd prog w).is h1 q.1 q.2.1 := isKey_at hk fun o e => hs1.extBut _ o (isKey_ne hk ho1 hnt) e
    obtain ⟨o, ho, hc, n, hd⟩ := id ht1
    show wpAny _ A.in1 (holding [Value.ref b] _ >>= _) _ _ _
    refine wpAny_bind (wpAny_holding ?_)
    refine wpAny_bind (wpAny_tryCatch ?_)
    unfold Builtin.Dict.pairItems
    refine wpAny_bind (wpAny_typeOf (T := "tuple") ⟨o, ho, hc⟩ ?_)
    rw [if_pos (by first | decide | rfl | simp)]
    refine wpAny_bind (wpAny_seqItems ho hd (wpAny_pure ?_))
    show wpAny _ A.in1 (holding [.ref q.2.1, q.2.2] (dictSet S (.ref q.2.1) q.2.2)) _ _ _
    obtain ⟨od, _, _, hod1, hod2, _⟩ := id hm1
    refine wpAny_holding (wpAny_dictSet_heap (knd := TKnd prog w) (k := q.1) hu hk1 hm1 (fun h2 hm2 hs2 => ?_) (by omega))
    have hdn : ∀ ks a, (TKnd prog w).is h1 ks a → a ≠ S := fun ks a x => by
      exact isKey_ne x hod1 (by rw [hod2.1]; simp)
    refine wpAny_pure ⟨plainId_quiet ud_plain _, upd_loopT (items := items) hu hh hlI hSI hSl rest (i + 1) (storedH acc q.1 q.2.1 q.2.2) (ix + 1) 0 _ (show items.size = i + 1 + rest.length by omega) ?_ (fun j q' e => ?_) ?_ ?_ hm2 fun h' tk hd' k => ?_⟩
    · have z := storedH_len acc q.1 q.2.1 q.2.2
      omega
    · obtain ⟨b', hb', hbS', hbI', htup', hk'⟩ := ht (j + 1) q' (by simpa using e)
      have hk'1 : (TKnd prog w).is h1 q'.1 q'.2.1 := isKey_at hk' fun o e => hs1.extBut _ o (isKey_ne hk' ho1 hnt) e
      refine ⟨b', ?_, hbS', hbI', (htup'.extBut hs1.extBut hbI').extBut hs2.extBut hbS', isKey_at hk'1 fun o e => hs2.extBut _ o (hdn _ _ hk'1) e⟩
      rw [show i + 1 + j = i + (j + 1) by omega]
      exact hb'
    · exact hit1.at fun o' e => hs2.extBut I o' (Ne.symm hSI) e
    · exact hl1.extBut hs2.extBut (Ne.symm hSl)
    · exact hR h' tk hd' fun c oc h3 h4 e => k c oc h3 h4 (hs2.extBut c oc h3 (hs1.extBut c oc h4 e))
/-- dict(l) of a list of pairs, the keys tuples -/
theorem call_dict_pairsT {s : Shared} {l : Addr} {ol : Obj} {items : Array Value} {n : Nat} {prs : List EntH} {Q : Value → Shared → Prop} (hu : A.units + 2 < cLine) (hh : A.handled = none) (hl : s.heap.get? l = some ol) (hc : ol.cls = .type "list") (hd : ol.dict = none)
    (hdat : ol.data = .seq items n) (hsz : items.size = prs.length) (hln : prs.length ≤ sizeLine)
    (ht : ∀ (j : Nat) (q : EntH), prs[j]? = some q → ∃ b : Addr, items[j]? = some (.ref b) ∧ IsTup s.heap b #[.ref q.2.1, q.2.2] ∧ (TKnd prog w).is s.heap q.1 q.2.1)
    (h : ∀ h' tk, h'.DictOfH (TKnd prog w) s.heap.objs.size (mergedH [] prs) → (∀ b o, s.heap.get? b = some o → h'.get? b = some o) → Q (.ref s.heap.objs.size) { s with heap := h', toks := tk }) :
    wpAny (model prog w) A (call (.type "dict") [.ref l]) Q E s := by
  refine callType_codes (Q₁ := fun obj s₁ => obj = .ref s.heap.objs.size ∧ s₁ = { s with heap := s.heap.push { cls := .type "dict", data := .dict #[] } }) PySem.F.kt_called_dict (PySem.F.kt_typeCall_dict_1 _) PySem.F.entry_dict_init (kt_code_dict_new _ ⟨rfl, rfl⟩) ?_
  rintro obj s₁ ⟨rfl, rfl⟩
  have hnew : (s.heap.push { cls := .type "dict", data := .dict #[] }).DictOfH (TKnd prog w) s.heap.objs.size [] := Heap.DictOfH.new s.heap
  have k0 : ∀ b o, s.heap.get? b = some o → (s.heap.push { cls := .type "dict", data := .dict #[] }).get? b = some o := fun b o e => Heap.get?_push_of_some _ e
  refine ⟨(Heap.DictOf.new (knd := mixKind prog w) s.heap).typeIs, PySem.F.args_dict_init_2 _ _, ?_⟩
  unfold Builtin.«dict.__init__»
  refine wpAny_bind ?_
  unfold Builtin.Dict.selfAndRest
  refine wpAny_bind (wpAny_notOrdered_dict (Heap.DictOf.new (knd := mixKind prog w) s.heap).typeIs ?_)
  show wpAny _ _ (pure (s.heap.objs.size, [Value.ref l])) _ _ _
  refine wpAny_pure ?_
  show wpAny _ _ (Builtin.Dict.updateFrom "dict.__init__" s.heap.objs.size (.ref l) [] .none) _ _ _
  unfold Builtin.Dict.updateFrom
  refine wpAny_bind (wpAny_typeOf (T := "list") ⟨ol, k0 _ _ hl, hc⟩ ?_)
  rw [if_pos (by first | decide | rfl | simp)]
  refine wpAny_bind (miss_list (k0 _ _ hl) hc hdat hd hh fun h1 tk1 hk1 => ?_)
  rw [if_pos (show (none : Option Value).isNone = true from rfl)]
  refine wpAny_bind (wpAny_rule ?_)
  have hl1 : h1.IsList l items := ⟨ol, hk1 _ _ (k0 _ _ hl), hc, n, hdat⟩
  have hS1 : s.heap.objs.size < h1.objs.size := by
    have e : (s.heap.push { cls := .type "dict", data := .dict #[] }).get? s.heap.objs.size = some { cls := .type "dict", data := .dict #[] } := Heap.get?_push_size _ rfl
    exact Heap.lt_size (hk1 _ _ e)
  refine wpAny_bind (wpAny_pyIter_list hl1 ?_)
  have k2 : ∀ b o, h1.get? b = some o → (h1.push { cls := .type "list_iterator", data := .fields #[.ref l, .int 0 0] }).get? b = some o := fun b o e => Heap.get?_push_of_some _ e
  have hlt : l < s.heap.objs.size := Heap.lt_size hl
  have key := upd_loopT (prog := prog) (w := w) (A := A.in1) (R := wants (fun r s₂ => r = .none ∧ Q (.ref s.heap.objs.size) s₂) E) (S := s.heap.objs.size) (I := h1.objs.size) (l := l) (items := items) (res := Value.none) hu hh
    (Nat.ne_of_lt (Nat.lt_trans hlt hS1)) (Nat.ne_of_lt hS1) (Nat.ne_of_gt hlt) prs 0 [] 0 0
    { s with heap := h1.push { cls := .type "list_iterator", data := .fields #[.ref l, .int 0 0] }, toks := tk1 } (by rw [hsz, Nat.zero_add]) (by rw [List.length_nil, Nat.zero_add]; exact hln)
    (fun j q e => by
      obtain ⟨b, e1, e2, e3⟩ := ht j q e
      have hb : b < s.heap.objs.size := e2.lt
      exact ⟨b, by rw [Nat.zero_add]; exact e1, Nat.ne_of_lt hb, Nat.ne_of_lt (Nat.lt_trans hb hS1), e2.keeps fun c o z => k2 _ _ (hk1 _ _ (k0 _ _ z)), isKey_at e3 fun o z => k2 _ _ (hk1 _ _ (k0 _ _ z))⟩)
    ⟨_, Heap.get?_push_size _ rfl, rfl, rfl⟩ (hl1.at fun o e => k2 _ _ e) (dictH_at hnew fun b o e _ => k2 _ _ (hk1 _ _ e))
    (fun h' tk hd' k => ⟨rfl, h h' tk hd' fun b o e => k b o (Nat.ne_of_lt (Heap.lt_size e)) (Nat.ne_of_lt (Nat.lt_trans (Heap.lt_size e) hS1)) (k2 _ _ (hk1 _ _ (k0 _ _ e)))⟩)
  first
    | exact wpAny_pure ⟨plainId_quiet ud_plain _, key⟩
    | exact wpAny_bind (wpAny_pure (wpAny_pure ⟨plainId_quiet ud_plain _, key⟩))
end
def mergeT (kvs more : List (List Key × V)) : List (List Key × V) := more.foldl (fun acc kv => putK acc kv.1 kv.2) kvs
theorem mergeT_len : ∀ (more kvs : List (List Key × V)), (mergeT kvs more).length ≤ kvs.length + more.length
  | [], kvs => Nat.le_refl _
  | m :: r, kvs => by
    have h1 := mergeT_len r (putK kvs m.1 m.2)
    have h2 := length_putK kvs m.1 m.2
    show (mergeT (putK kvs m.1 m.2) r).length ≤ _
    rw [List.length_cons]
    omega
theorem KT.mergeH {H : Hp} : ∀ {more : List (List Key × V)} {rs : List EntH} {kvs : List (List Key × V)} {vs : List EntH}, KT H more rs → KT H kvs vs → KT H (mergeT kvs more) (mergedH vs rs)
  | _, _, _, _, .nil, r => r
  | _, _, _, _, .cons (a := p) (b := q) h t, r => by
    obtain ⟨h1, h2, h3⟩ := h
    have := r.put p.1 h2 h3
    rw [h1] at this
    have z := KT.mergeH t this
    show KT H (mergeT (putK _ p.1 p.2) _) (mergedH (storedH _ q.1 q.2.1 q.2.2) _)
    rw [h1]
    exact z
section
variable {X : Cx}
theorem pairsT_of {pins : List (Addr × Obj)} {σ : St} {H : Hp} {s : Shared} (I : Inv X pins σ H s) : ∀ {ps : List Addr} {kvs : List (List Key × V)}, Paired (fun p kv => ∃ b, SqT X.K H p [.ref b, kv.2] ∧ H b = some (.tup (kv.1.map kV))) ps kvs →
    ∃ prs : List EntH, KT H kvs prs ∧ prs.length = ps.length ∧ ∀ (j : Nat) (q : EntH), prs[j]? = some q → ∃ b : Addr, ps[j]? = some b ∧ IsTup s.heap b #[.ref q.2.1, q.2.2] ∧ (TKnd X.prog X.w).is s.heap q.1 q.2.1
  | _, _, .nil => ⟨[], .nil, rfl, fun j q e => by simp at e⟩
  | _, _, .cons (a := p) (b := kv) h t => by
    obtain ⟨prs, r, hl, hp⟩ := pairsT_of I t
    obtain ⟨kb, h, hkb⟩ := h
    obtain ⟨its, rv, ht, _⟩ := I.tuple h
    obtain ⟨u, y, ei, ru, ry⟩ := vals2 rv
    subst ei
    cases (show u = Value.ref kb from ru)
    refine ⟨(kv.1, kb, y) :: prs, .cons ⟨rfl, hkb, ry⟩ r, by rw [List.length_cons, List.length_cons, hl], fun j q e => ?_⟩
    cases j with
    | zero =>
      have e' : (kv.1, kb, y) = q := Option.some.inj e
      subst e'
      exact ⟨p, rfl, ht, key_of I.hok hkb⟩
    | succ j =>
      obtain ⟨b, e1, e2, e3⟩ := hp j q (by simpa using e)
      exact ⟨b, by simpa using e1, e2, e3⟩
/-- dict(xs) of a list of pairs (tuple, value) -/
theorem call_dictPT (hcalm : X.calm = true) (hu : X.A.units + 64 < cLine) : CallR X (.type "dict") (fun xs H Q => ∃ (a : Addr) (ps : List Addr) (kvs : List (List Key × V)), xs = [.ref a] ∧ SqL X.K H a (ps.map V.ref) ∧ Paired (fun p kv => ∃ b, SqT X.K H p [.ref b, kv.2] ∧ H b = some (.tup (kv.1.map kV))) ps kvs ∧
    ∀ p, H p = none → Q (.ref p) (upd H p (.dT (mergeT [] kvs)))) := by
  intro pins s σ H xs us Q I r q
  obtain ⟨a, ps, kvs, ex, hq, hp, q⟩ := q
  subst ex
  obtain ⟨u, eu, rx⟩ := vals1 r
  subst eu
  cases rx
  obtain ⟨its, rv, pl, hz⟩ := I.list hq
  have ei := refs_at rv
  subst ei
  rw [List.length_map] at hz
  obtain ⟨prs, rel, hl, hpr⟩ := pairsT_of I hp
  obtain ⟨o, n, ho, hc, hd, hdat⟩ := pl
  refine call_dict_pairsT (prs := prs) (by omega) (I.ok.hd hcalm) ho hc hd hdat (by simp [hl]) (by rw [hl]; exact hz) (fun j q' e => ?_) fun h' tk hd' k => ?_
  · obtain ⟨b, e1, e2, e3⟩ := hpr j q' e
    exact ⟨b, by simp [e1], e2, e3⟩
  · have hm : (s.heap.objs.size == sysModules) = false := beq_eq_false_iff_ne.mpr (Nat.ne_of_gt I.big)
    have hlen : (mergeT [] kvs).length ≤ sizeLine := by
      refine Nat.le_trans (mergeT_len kvs []) ?_
      rw [List.length_nil, Nat.zero_add, Paired.length rel, hl]
      exact hz
    have hnp : H s.heap.objs.size = none := I.hok.fresh (Nat.le_refl _)
    have kt : KT (upd H s.heap.objs.size (.dT (mergeT [] kvs))) (mergeT [] kvs) (mergedH [] prs) := (KT.mergeH rel .nil).keeps fun b ys e => by rw [upd_ne (ne_of_none e hnp)]; exact e
    obtain ⟨od, es, ep, h1, h2, h3, h4, _, h5⟩ := hd'
    exact ⟨.ref s.heap.objs.size, upd H s.heap.objs.size (.dT (mergeT [] kvs)), I.laid (t' := tk) k (Nat.le_refl _) (show ObjOk X.prog X.w _ _ _ (.dT (mergeT [] kvs)) from ⟨hlen, hm, _, kt, od, es, ep, h1, h2, h3, h4, h5⟩), rfl, q _ hnp⟩
end
section
variable {prog : Program} {w : World} {A : Around} {E : Value → Shared → Prop} {s : Shared}
theorem meets_len_dictH (d : Addr) (hd : (d == sysModules) = false) :
    MeetsIn prog w (Builtin.«dict.__len__» ⟨[.ref d], []⟩) (fun _ R s => ∃ xs, s.heap.DictOfH (TKnd prog w) d xs ∧ R (.ok (.ret (.int xs.length s.toks))) { s with toks := s.toks + 1 }) :=
  .of_wp fun A R s ⟨kvs, hm, h⟩ => by
    obtain ⟨o, es, ep, ho, hc, hdat, hk, hp, hn⟩ := hm
    show wpAny _ _ (dictSize d >>= _) _ _ s
    unfold dictSize
    refine wpAny_bind (wpAny_bind (wpAny_dictEntries ho hdat (wpAny_pure ?_)))
    show wpAny _ _ (Builtin.Dict.pendingCount d >>= _) _ _ s
    refine wpAny_bind (wpAny_pendingCount_other hd ?_)
    refine wpAny_ret_mkInt ?_
    have : es.size = kvs.length := size_of_entries hk
    rw [Nat.add_zero, this]; exact h
theorem call_len_dictH {d : Addr} {kvs : List EntH} {Q : Value → Shared → Prop} (hd : (d == sysModules) = false) (hm : s.heap.DictOfH (TKnd prog w) d kvs) (hfit : (kvs.length : Int) < 2 ^ 63)
    (h : Q (.int kvs.length (s.toks + 1)) { s with toks := s.toks + 1 + 1 }) : wpAny (model prog w) A (call (.builtin "len") [.ref d]) Q E s := by
  refine Calls.call_function_entry kind_len plain_len entry_len (args_len1 _) ?_
  unfold Builtin.«len»
  refine wpAny_bind (m := oneArg "len" _) (wpAny_pure ?_)
  refine wpAny_bind (m := callSpecial? (.ref d) (Str.ofString "__len__")) (wpAny_callSpecial?_slot (name := Str.ofString "__len__") hm.typeIs F.slot_dict_len
    (call_meetsIn F.slot_dict_len hm.typeIs F.entry_dict_len (F.args_dict_len_1 _) (meets_len_dictH d hd) ⟨kvs, hm, ?_⟩))
  show wpAny _ _ _ _ _ { s with toks := s.toks + 1 }
  refine wpAny_bind (wpAny_holding (wpAny_pure ?_))
  refine wpAny_bind (wpAny_letGo ?_)
  show wpAny _ _ (if ((kvs.length : Nat) : Int) < 0 then _ else _) _ _ _
  rw [if_neg (by omega)]
  show wpAny _ _ (if ((kvs.length : Nat) : Int) ≥ 2 ^ 63 then _ else _) _ _ _
  rw [if_neg (by omega)]
  exact wpAny_bind (wpAny_mkInt (wpAny_pure ⟨_, rfl, h⟩))
end
/-- len of a dict, whatever its keys -/
theorem cr_lenD {X : Cx} : CallR X (.builtin "len") (fun xs H Q => ∃ a, xs = [.ref a] ∧ ((∃ kvs, H a = some (.dK kvs) ∧ Q (.int kvs.length) H) ∨ ∃ kvs, H a = some (.dT kvs) ∧ Q (.int kvs.length) H)) := by
  intro pins s σ H xs us Q I r q
  obtain ⟨a, rfl, q⟩ := q
  obtain ⟨u, rfl, rx⟩ := vals1 r
  cases rx
  rcases q with ⟨kvs, e, q⟩ | ⟨kvs, e, q⟩
  · exact d_len I (.inl e) fun t s1 I1 => ⟨.int kvs.length, H, I1, ⟨t, rfl⟩, q⟩
  · obtain ⟨z, hd, xs, rel, dd⟩ := dt_rd I.hok (.inl e)
    have l : kvs.length = xs.length := Paired.length rel
    refine call_len_dictH hd dd (by rw [sizeLine_eq] at z; omega) ?_
    rw [← l]
    exact ⟨.int kvs.length, H, I.tok _, ⟨_, rfl⟩, q⟩
end L2
end
section
namespace Z
open PySem PySem.Spec L2
/-! ### tables: keys, what is there, what is put -/
def kyOf : D → Option L2.Key
  | .int i => some (.inl i)
  | .str s => some (.inr s)
  | _ => none
def kysOf : List D → Option (List L2.Key)
  | [] => some []
  | d :: ds => match kyOf d, kysOf ds with
    | some k, some ks => some (k :: ks)
    | _, _ => none
def dGet {κ : Type} [DecidableEq κ] (kvs : List (κ × D)) (k : κ) : Option D := (kvs.find? fun kv => decide (kv.1 = k)).map (·.2)
def dPut {κ : Type} [DecidableEq κ] (kvs : List (κ × D)) (k : κ) (v : D) : List (κ × D) :=
  if (kvs.any fun kv => decide (kv.1 = k)) = true then kvs.map (fun kv => if kv.1 = k then (kv.1, v) else kv) else kvs ++ [(k, v)]
def dtGet : DT → D → Option (Option D)
  | .k kvs, d => (kyOf d).map (dGet kvs)
  | .t kvs, .tuple ds => (kysOf ds).map (dGet kvs)
  | .t _, _ => none
def dtPut : DT → D → D → Option DT
  | .k kvs, d, v => if kvs.length < 16777216 then (kyOf d).map fun k => .k (dPut kvs k v) else none
  | .t kvs, .tuple ds, v => if kvs.length < 16777216 then (kysOf ds).map fun k => .t (dPut kvs k v) else none
  | .t _, _, _ => none
def lookT (i : Nat) (ρ : List S) : Option DT := match ρ[i]? with
  | some (.od t) => some t
  | some (.sd t) => some t
  | _ => none
section
variable {K : PySem.W.Frag} {H W : Hp}
theorem ky_ok {v : V} {d : D} {k : L2.Key} (r : Rp K W v d) (e : kyOf d = some k) : v = kV k := by
  cases r with
  | int i => cases e; rfl
  | str x => cases e; rfl
  | _ => cases e
theorem kys_ok : ∀ {vs : List V} {ds : List D} {ks : List L2.Key}, RpL K W vs ds → kysOf ds = some ks → vs = ks.map kV
  | _, _, ks, .nil, e => by cases e; rfl
  | _, d :: ds, ks, .cons r t, e => by
    unfold kysOf at e
    cases q : kyOf d with
    | none => rw [q] at e; cases e
    | some k =>
      cases q2 : kysOf ds with
      | none => rw [q, q2] at e; cases e
      | some ks' =>
        rw [q, q2] at e
        cases e
        rw [ky_ok r q, kys_ok t q2]
        rfl
theorem KRp.get {κ : Type} [DecidableEq κ] {vs : List (κ × V)} {ds : List (κ × D)} (r : KRp K W vs ds) (k : κ) : (dGet ds k = none ∧ valV vs k = none) ∨ ∃ v d, dGet ds k = some d ∧ valV vs k = some v ∧ Rp K W v d := by
  unfold KRp at r
  induction r with
  | nil => exact .inl ⟨rfl, rfl⟩
  | @cons p q ps qs h t ih =>
    obtain ⟨h1, h2⟩ := h
    by_cases e : p.1 = k
    · have e' : q.1 = k := h1.symm.trans e
      refine .inr ⟨p.2, q.2, ?_, valV_pos e, h2⟩
      simp [dGet, List.find?_cons, e']
    · have e' : ¬ q.1 = k := fun z => e (h1.trans z)
      rw [valV_neg e]
      have : dGet (q :: qs) k = dGet qs k := by simp [dGet, List.find?_cons, e']
      rw [this]
      exact ih
theorem KRp.any {κ : Type} [DecidableEq κ] {vs : List (κ × V)} {ds : List (κ × D)} (r : KRp K W vs ds) (k : κ) : (vs.any fun kv => decide (kv.1 = k)) = ds.any fun kv => decide (kv.1 = k) := by
  unfold KRp at r
  induction r with
  | nil => rfl
  | cons h t ih => rw [List.any_cons, List.any_cons, ih, h.1]
theorem KRp.put {κ : Type} [DecidableEq κ] {vs : List (κ × V)} {ds : List (κ × D)} (r : KRp K W vs ds) (k : κ) {v : V} {d : D} (hv : Rp K W v d) : KRp K W (putK vs k v) (dPut ds k d) := by
  unfold putK dPut
  rw [r.any k]
  by_cases e : (ds.any fun kv => decide (kv.1 = k)) = true
  · rw [if_pos e, if_pos e]
    clear e
    unfold KRp at r ⊢
    induction r with
    | nil => exact .nil
    | @cons p q ps qs h t ih =>
      obtain ⟨h1, h2⟩ := h
      rw [List.map_cons, List.map_cons]
      refine .cons ?_ ih
      by_cases e : p.1 = k
      · rw [if_pos e, if_pos (h1.symm.trans e)]; exact ⟨h1, hv⟩
      · rw [if_neg e, if_neg (fun z => e (h1.trans z))]; exact ⟨h1, h2⟩
  · rw [if_neg e, if_neg e]; exact Paired.snoc r ⟨rfl, hv⟩
theorem KRp.length {κ : Type} {vs : List (κ × V)} {ds : List (κ × D)} (r : KRp K W vs ds) : vs.length = ds.length := Paired.length r
/-- what a table has at a key -/
theorem dget_ok {a : Addr} {t : DT} {y : V} {d : D} {o : Option D} (h : DO K H W a t) (s : Same W H) (r : Rp K W y d) (e : dtGet t d = some o) :
    ∃ ov, DGet H a y ov ∧ ((o = none ∧ ov = none) ∨ ∃ v dd, o = some dd ∧ ov = some v ∧ Rp K W v dd) := by
  cases t with
  | k kvs =>
    obtain ⟨vs, e1, r1⟩ := h
    simp only [dtGet] at e
    cases q : kyOf d with
    | none => rw [q] at e; cases e
    | some k =>
      rw [q] at e; cases e
      obtain rfl := ky_ok r q
      refine ⟨_, DGet.k e1, ?_⟩
      rcases r1.get k with ⟨h1, h2⟩ | ⟨v, dd, h1, h2, h3⟩
      · exact .inl ⟨h1, h2⟩
      · exact .inr ⟨v, dd, h1, h2, h3⟩
  | t kvs =>
    obtain ⟨vs, e1, r1⟩ := h
    cases r with
    | tup eb rb =>
      rename_i b xs ds
      simp only [dtGet] at e
      cases q : kysOf ds with
      | none => rw [q] at e; cases e
      | some k =>
        rw [q] at e; cases e
        obtain rfl := kys_ok rb q
        refine ⟨_, DGet.t e1 (s _ _ eb), ?_⟩
        rcases r1.get k with ⟨h1, h2⟩ | ⟨v, dd, h1, h2, h3⟩
        · exact .inl ⟨h1, h2⟩
        · exact .inr ⟨v, dd, h1, h2, h3⟩
    | _ => simp [dtGet] at e
theorem dput_ok {a : Addr} {t t' : DT} {y v : V} {d dv : D} (h : DO K H W a t) (s : Same W H) (r : Rp K W y d) (rv : Rp K W v dv) (e : dtPut t d dv = some t') :
    ∃ o, DPut H a y v (upd H a o) ∧ DO K (upd H a o) W a t' := by
  have sl := sizeLine_eq
  cases t with
  | k kvs =>
    obtain ⟨vs, e1, r1⟩ := h
    have l1 := r1.length
    simp only [dtPut] at e
    split at e
    · cases q : kyOf d with
      | none => rw [q] at e; cases e
      | some k =>
        rw [q] at e; cases e
        obtain rfl := ky_ok r q
        exact ⟨_, DPut.k e1 (by omega), _, upd_same, r1.put k rv⟩
    · cases e
  | t kvs =>
    obtain ⟨vs, e1, r1⟩ := h
    have l1 := r1.length
    cases r with
    | tup eb rb =>
      rename_i b xs ds
      simp only [dtPut] at e
      split at e
      · cases q : kysOf ds with
        | none => rw [q] at e; cases e
        | some k =>
          rw [q] at e; cases e
          obtain rfl := kys_ok rb q
          exact ⟨_, DPut.t e1 (s _ _ eb) (by omega), _, upd_same, r1.put k rv⟩
      · cases e
    | _ => simp [dtPut] at e
theorem DO.isD {a : Addr} {t : DT} (h : DO K H W a t) : IsD H a := by
  cases t with
  | k kvs => obtain ⟨vs, e, _⟩ := h; exact .inl ⟨vs, .inl e⟩
  | t kvs => obtain ⟨vs, e, _⟩ := h; exact .inr ⟨vs, .inl e⟩
end
section
variable {K : PySem.W.Frag} {F : Addr → Prop} {σ : St} {H : Hp} {ρ : List S} {A : List (Option Addr)}
theorem slotT {i : Nat} {t : DT} (g : Good K F σ H ρ A) (e : lookT i ρ = some t) : ∃ a, σ[i]? = some (some (.ref a)) ∧ DO K H (vw H (hid F A)) a t := by
  unfold lookT at e
  cases q : ρ[i]? with
  | none => rw [q] at e; cases e
  | some s =>
    rw [q] at e
    have k := g.slot i s q
    cases s with
    | od t' => cases e; obtain ⟨a, _, h2, h3⟩ := k; exact ⟨a, h2, h3⟩
    | sd t' =>
      cases e
      obtain ⟨_, a, h2, h3⟩ := k
      refine ⟨a, h2, ?_⟩
      cases t with
      | k kvs => obtain ⟨vs, e1, r1⟩ := h3; exact ⟨vs, (vw_some e1).2, r1⟩
      | t kvs => obtain ⟨vs, e1, r1⟩ := h3; exact ⟨vs, (vw_some e1).2, r1⟩
    | _ => cases e
/-- a key or value, read: it is no list of the frame's own where it is a key -/
theorem look_key {h : Hd} {v : V} {d : D} (g : Good K F σ H ρ A) (r : HRep K σ (vw H (hid F A)) v h) (e : look h ρ = some d) (hd : ∀ ds, d ≠ .list ds) : Rp K (vw H (hid F A)) v d := by
  rcases look_ok g r e with h | ⟨a, rfl, h⟩
  · exact h
  · cases d with
    | list ds => exact absurd rfl (hd ds)
    | _ => exact h.elim
theorem dtGet_nl {t : DT} {d : D} {o : Option D} (e : dtGet t d = some o) : ∀ ds, d ≠ .list ds := by
  rintro ds rfl
  cases t <;> simp [dtGet, kyOf] at e
theorem dtPut_nl {t t' : DT} {d v : D} (e : dtPut t d v = some t') : ∀ ds, d ≠ .list ds := by
  rintro ds rfl
  cases t <;> simp [dtPut, kyOf] at e
end
section
variable {X : Cx} {K : PySem.W.Frag} {mg : Str → Option Value} {W : WX} {n : Nat} {a b : Expr} {fk : OF} {f fd : EF} {pos : Pos}
/-- k in d, d a name -/
def fDIn (neg : Bool) (fk : OF) (i : Nat) : EF := fun ρ => fk ρ >>= fun p => Rs.of (lookT i p.2) >>= fun t => Rs.of (look p.1 p.2) >>= fun d => Rs.of (dtGet t d) >>= fun o => .ok (.sh (.bool (o.isSome != neg)), p.2)
theorem isSome_rel {o : Option D} {ov : Option V} {R : V → D → Prop} (h : (o = none ∧ ov = none) ∨ ∃ v dd, o = some dd ∧ ov = some v ∧ R v dd) : ov.isSome = o.isSome := by
  rcases h with ⟨rfl, rfl⟩ | ⟨v, dd, rfl, rfl, _⟩ <;> rfl
theorem din_core (neg : Bool) {i : Nat} : ∀ σ H Q, TF K mg W (fDIn neg fk i) σ H Q → TO' K mg W fk σ H fun y H1 => ∃ v, σ[i]? = some (some v) ∧ ∃ a o, v = .ref a ∧ DGet H1 a y o ∧ Q (.bl (o.isSome != neg)) H1 := by
  intro σ H Q ⟨F, ρ, A, gd, po⟩
  unfold fDIn at po
  refine seqO gd (po := fun o => PoE K mg W F σ H ρ A o Q) poE_no (poE_exS Stp.refl) po fun h1 ρ1 v1 H1 A1 g1 s1 r1 po => ?_
  obtain ⟨t, e1, po⟩ := seqOpt (po := fun o => PoE K mg W F σ H ρ A o Q) poE_no po
  obtain ⟨d, e2, po⟩ := seqOpt (po := fun o => PoE K mg W F σ H ρ A o Q) poE_no po
  obtain ⟨o, e3, po⟩ := seqOpt (po := fun o => PoE K mg W F σ H ρ A o Q) poE_no po
  obtain ⟨ad, q1, q2⟩ := slotT g1 e1
  obtain ⟨ov, q3, q4⟩ := dget_ok q2 (vw_same _ _) (look_key g1 r1 e2 (dtGet_nl e3)) e3
  refine ⟨_, q1, ad, ov, rfl, q3, ?_⟩
  rw [isSome_rel q4]
  exact po _ H1 ⟨A1, g1, s1, .bl _⟩
theorem din_r {i : Nat} : ∀ σ H Q, TF K mg W (fDIn false fk i) σ H Q → tDIn (TO' K mg W fk) (tVar i) σ H Q := fun σ H Q h => by
  have := din_core false σ H Q h
  simp only [Bool.bne_false] at this
  exact this
theorem dnotin_r {i : Nat} : ∀ σ H Q, TF K mg W (fDIn true fk i) σ H Q → tDNotIn (TO' K mg W fk) (tVar i) σ H Q := fun σ H Q h => by
  have := din_core true σ H Q h
  simp only [Bool.bne_true] at this
  exact this
theorem ev_din {i : Nat} {x : Str} {p : Pos} (ct : Ct X K mg W n) (hk : PE X a (TO' K mg W fk)) (hN : X.N[i]? = some x := by rfl) (hv : Vis X.env.scope x := by first | exact Or.inl rfl | exact Or.inr (Or.inl rfl) | exact Or.inr (Or.inr rfl)) (hd : (x == ("__debug__" : Str)) = false := by decide)
    (hcd : (x == ("__classdict__" : Str)) = false := by decide) (hm : behindInMarks .In (.Name x p) = false := by rfl) : PE X (.Compare a [.In] [.Name x p] pos) (TF K mg W (fDIn false fk i)) := pe_imp (pe_cmp (pc_din (by have := ct.room.units; omega) hk (pe_var hN hv hd hcd)) hm) din_r
theorem bt_din {i : Nat} {x : Str} {p : Pos} (ct : Ct X K mg W n) (hk : PE X a (TO' K mg W fk)) (hN : X.N[i]? = some x := by rfl) (hv : Vis X.env.scope x := by first | exact Or.inl rfl | exact Or.inr (Or.inl rfl) | exact Or.inr (Or.inr rfl)) (hd : (x == ("__debug__" : Str)) = false := by decide)
    (hcd : (x == ("__classdict__" : Str)) = false := by decide) (hm : behindInMarks .In (.Name x p) = false := by rfl) : PT X (.Compare a [.In] [.Name x p] pos) (TB' K mg W (bOf (fDIn false fk i))) := b_of (t := fun _ _ _ => True) (pt_cmp (pc_din (by have := ct.room.units; omega) hk (pe_var hN hv hd hcd)) hm) din_r
theorem ev_dnotin {i : Nat} {x : Str} {p : Pos} (ct : Ct X K mg W n) (hk : PE X a (TO' K mg W fk)) (hN : X.N[i]? = some x := by rfl) (hv : Vis X.env.scope x := by first | exact Or.inl rfl | exact Or.inr (Or.inl rfl) | exact Or.inr (Or.inr rfl)) (hd : (x == ("__debug__" : Str)) = false := by decide)
    (hcd : (x == ("__classdict__" : Str)) = false := by decide) (hm : behindInMarks .NotIn (.Name x p) = false := by rfl) : PE X (.Compare a [.NotIn] [.Name x p] pos) (TF K mg W (fDIn true fk i)) := pe_imp (pe_cmp (pc_dnotin (by have := ct.room.units; omega) hk (pe_var hN hv hd hcd)) hm) dnotin_r
theorem bt_dnotin {i : Nat} {x : Str} {p : Pos} (ct : Ct X K mg W n) (hk : PE X a (TO' K mg W fk)) (hN : X.N[i]? = some x := by rfl) (hv : Vis X.env.scope x := by first | exact Or.inl rfl | exact Or.inr (Or.inl rfl) | exact Or.inr (Or.inr rfl)) (hd : (x == ("__debug__" : Str)) = false := by decide)
    (hcd : (x == ("__classdict__" : Str)) = false := by decide) (hm : behindInMarks .NotIn (.Name x p) = false := by rfl) : PT X (.Compare a [.NotIn] [.Name x p] pos) (TB' K mg W (bOf (fDIn true fk i))) := b_of (t := fun _ _ _ => True) (pt_cmp (pc_dnotin (by have := ct.room.units; omega) hk (pe_var hN hv hd hcd)) hm) dnotin_r
/-- a value to be kept -/
def shOf : S → Option D
  | .sh d => some d
  | .ow d => some d
  | _ => none
theorem fin_sh {F : Addr → Prop} {σ : St} {H H1 : Hp} {ρ ρ1 : List S} {A : List (Option Addr)} {r : S} {v : V} {d : D} (f : Fin K F σ H ρ A r ρ1 v H1) (e : shOf r = some d) : Fin K F σ H ρ A (.sh d) ρ1 v H1 := by
  cases r with
  | sh d' => cases e; exact f
  | ow d' => cases e; exact f.weak
  | _ => cases e
/-- d[k] -/
def fDGet (i : Nat) (fk : OF) : EF := fun ρ => Rs.of (lookT i ρ) >>= fun _ => fk ρ >>= fun p => Rs.of (lookT i p.2) >>= fun t => Rs.of (look p.1 p.2) >>= fun d => Rs.of (dtGet t d) >>= fun o => Rs.of o >>= fun r => .ok (.sh r, p.2)
theorem ev_dget {i : Nat} {x : Str} {p : Pos} (ct : Ct X K mg W n) (hk : PE X a (TO' K mg W fk)) (hN : X.N[i]? = some x := by rfl) (hv : Vis X.env.scope x := by first | exact Or.inl rfl | exact Or.inr (Or.inl rfl) | exact Or.inr (Or.inr rfl)) (hd : (x == ("__debug__" : Str)) = false := by decide)
    (hcd : (x == ("__classdict__" : Str)) = false := by decide) (hs : NoSl a := by exact fun _ _ => rfl) : PE X (.Subscript (.Name x p) a pos) (TF K mg W (fDGet i fk)) := by
  have hu : X.A.units + 1 < cLine := by have := ct.room.units; omega
  refine pe_imp (pe_dget hu (pe_var hN hv hd hcd) hk hs) fun σ H Q ⟨F, ρ, A, gd, po⟩ => ?_
  unfold fDGet at po
  obtain ⟨t0, e0, po⟩ := seqOpt (po := fun o => PoE K mg W F σ H ρ A o Q) poE_no po
  obtain ⟨a0, q0, _⟩ := slotT gd e0
  refine ⟨_, q0, ?_⟩
  refine seqO gd (po := fun o => PoE K mg W F σ H ρ A o Q) poE_no (poE_exS Stp.refl) po fun h1 ρ1 v1 H1 A1 g1 s1 r1 po => ?_
  obtain ⟨t, e1, po⟩ := seqOpt (po := fun o => PoE K mg W F σ H ρ A o Q) poE_no po
  obtain ⟨d, e2, po⟩ := seqOpt (po := fun o => PoE K mg W F σ H ρ A o Q) poE_no po
  obtain ⟨o, e3, po⟩ := seqOpt (po := fun o => PoE K mg W F σ H ρ A o Q) poE_no po
  obtain ⟨r, rfl, po⟩ := seqOpt (po := fun o => PoE K mg W F σ H ρ A o Q) poE_no po
  obtain ⟨ad, q1, q2⟩ := slotT g1 e1
  obtain ⟨ov, q3, q4⟩ := dget_ok q2 (vw_same _ _) (look_key g1 r1 e2 (dtGet_nl e3)) e3
  rw [q0] at q1
  cases q1
  rcases q4 with ⟨z, _⟩ | ⟨v, dd, z, rfl, q5⟩
  · cases z
  · cases z
    exact ⟨a0, v, rfl, q3, po _ H1 ⟨A1, g1, s1, q5⟩⟩
/-- d.get(k, x) -/
def fDGet2 (i : Nat) (fk : OF) (fd : EF) : EF := fun ρ => Rs.of (lookT i ρ) >>= fun _ => fk ρ >>= fun p => fd p.2 >>= fun q => Rs.of (shOf q.1) >>= fun z => Rs.of (lookT i q.2) >>= fun t => Rs.of (look p.1 q.2) >>= fun d => Rs.of (dtGet t d) >>= fun o => .ok (.sh (o.getD z), q.2)
theorem ev_dget2 {i : Nat} {x : Str} {p apos : Pos} (ct : Ct X K mg W n) (hk : PE X a (TO' K mg W fk)) (hf : PE X b (TF K mg W fd)) (m : M2 X (.Name x p) "get" apos a b pos := by exact ⟨rfl, rfl, rfl, rfl⟩) (hN : X.N[i]? = some x := by rfl) (hv : Vis X.env.scope x := by first | exact Or.inl rfl | exact Or.inr (Or.inl rfl) | exact Or.inr (Or.inr rfl)) (hd : (x == ("__debug__" : Str)) = false := by decide)
    (hcd : (x == ("__classdict__" : Str)) = false := by decide) : PE X (.Call (.Attribute (.Name x p) "get" apos) [a, b] [] pos) (TF K mg W (fDGet2 i fk fd)) := by
  have hu : X.A.units + 1 < cLine := by have := ct.room.units; omega
  refine pe_imp (pe_dget2 hu (pe_var hN hv hd hcd) hk hf m) fun σ H Q ⟨F, ρ, A, gd, po⟩ => ?_
  unfold fDGet2 at po
  obtain ⟨t0, e0, po⟩ := seqOpt (po := fun o => PoE K mg W F σ H ρ A o Q) poE_no po
  obtain ⟨a0, q0, d0⟩ := slotT gd e0
  refine ⟨_, q0, a0, rfl, d0.isD, ?_⟩
  refine seqO gd (po := fun o => PoE K mg W F σ H ρ A o Q) poE_no (poE_exS Stp.refl) po fun h1 ρ1 v1 H1 A1 g1 s1 r1 po => ?_
  refine seqE g1 (po := fun o => PoE K mg W F σ H ρ A o Q) poE_no (poE_exS s1) po fun r ρ2 v2 H2 f2 po => ?_
  obtain ⟨z, ez, po⟩ := seqOpt (po := fun o => PoE K mg W F σ H ρ A o Q) poE_no po
  obtain ⟨A2, g2, s2, p2⟩ := fin_sh f2 ez
  obtain ⟨t, e1, po⟩ := seqOpt (po := fun o => PoE K mg W F σ H ρ A o Q) poE_no po
  obtain ⟨d, e2, po⟩ := seqOpt (po := fun o => PoE K mg W F σ H ρ A o Q) poE_no po
  obtain ⟨o, e3, po⟩ := seqOpt (po := fun o => PoE K mg W F σ H ρ A o Q) poE_no po
  obtain ⟨ad, q1, q2⟩ := slotT g2 e1
  obtain ⟨ov, q3, q4⟩ := dget_ok q2 (vw_same _ _) (look_key g2 (r1.mono s2.vs) e2 (dtGet_nl e3)) e3
  rw [q0] at q1
  cases q1
  refine ⟨ov, q3, ?_⟩
  rcases q4 with ⟨rfl, rfl⟩ | ⟨v, dd, rfl, rfl, q5⟩
  · exact po _ H2 ⟨A2, g2, s1.trans s2, p2⟩
  · exact po _ H2 ⟨A2, g2, s1.trans s2, q5⟩
/-- d.get(k) -/
def fDGet1 (i : Nat) (fk : OF) : EF := fun ρ => Rs.of (lookT i ρ) >>= fun _ => fk ρ >>= fun p => Rs.of (lookT i p.2) >>= fun t => Rs.of (look p.1 p.2) >>= fun d => Rs.of (dtGet t d) >>= fun o => .ok (.sh (o.getD .none), p.2)
theorem ev_dget1 {i : Nat} {x : Str} {p apos : Pos} (ct : Ct X K mg W n) (hk : PE X a (TO' K mg W fk)) (m : L2.M1 X (.Name x p) "get" apos a pos := by exact ⟨rfl, rfl, rfl, rfl⟩) (hN : X.N[i]? = some x := by rfl) (hv : Vis X.env.scope x := by first | exact Or.inl rfl | exact Or.inr (Or.inl rfl) | exact Or.inr (Or.inr rfl)) (hd : (x == ("__debug__" : Str)) = false := by decide)
    (hcd : (x == ("__classdict__" : Str)) = false := by decide) : PE X (.Call (.Attribute (.Name x p) "get" apos) [a] [] pos) (TF K mg W (fDGet1 i fk)) := by
  have hu : X.A.units + 1 < cLine := by have := ct.room.units; omega
  refine pe_imp (pe_dget1 hu (pe_var hN hv hd hcd) hk m) fun σ H Q ⟨F, ρ, A, gd, po⟩ => ?_
  unfold fDGet1 at po
  obtain ⟨t0, e0, po⟩ := seqOpt (po := fun o => PoE K mg W F σ H ρ A o Q) poE_no po
  obtain ⟨a0, q0, d0⟩ := slotT gd e0
  refine ⟨_, q0, a0, rfl, d0.isD, ?_⟩
  refine seqO gd (po := fun o => PoE K mg W F σ H ρ A o Q) poE_no (poE_exS Stp.refl) po fun h1 ρ1 v1 H1 A1 g1 s1 r1 po => ?_
  obtain ⟨t, e1, po⟩ := seqOpt (po := fun o => PoE K mg W F σ H ρ A o Q) poE_no po
  obtain ⟨d, e2, po⟩ := seqOpt (po := fun o => PoE K mg W F σ H ρ A o Q) poE_no po
  obtain ⟨o, e3, po⟩ := seqOpt (po := fun o => PoE K mg W F σ H ρ A o Q) poE_no po
  obtain ⟨ad, q1, q2⟩ := slotT g1 e1
  obtain ⟨ov, q3, q4⟩ := dget_ok q2 (vw_same _ _) (look_key g1 r1 e2 (dtGet_nl e3)) e3
  rw [q0] at q1
  cases q1
  refine ⟨ov, q3, ?_⟩
  rcases q4 with ⟨rfl, rfl⟩ | ⟨v, dd, rfl, rfl, q5⟩
  · exact po _ H1 ⟨A1, g1, s1, .non⟩
  · exact po _ H1 ⟨A1, g1, s1, q5⟩
/-- a table of the frame's own -/
def ownT (i : Nat) (ρ : List S) : Option DT := match ρ[i]? with
  | some (.od t) => some t
  | _ => none
theorem ownT_eq {i : Nat} {ρ : List S} {t : DT} (e : ownT i ρ = some t) : ρ[i]? = some (.od t) := by
  unfold ownT at e
  cases q : ρ[i]? with
  | none => rw [q] at e; cases e
  | some s => rw [q] at e; cases s <;> first | (cases e; rfl) | cases e
/-- d[k] = v -/
def sDPut (i : Nat) (fk : OF) (f : EF) : SF := fun ρ => f ρ >>= fun p => Rs.of (shOf p.1) >>= fun z => Rs.of (lookT i p.2) >>= fun _ => fk p.2 >>= fun q => Rs.of (ownT i q.2) >>= fun t => Rs.of (look q.1 q.2) >>= fun d => Rs.of (dtPut t d z) >>= fun t' => .ok (.nx, q.2.set i (.od t'))
theorem st_dput {i : Nat} {x : Str} {p pos' : Pos} (ct : Ct X K mg W n) (hk : PE X a (TO' K mg W fk)) (hf : PE X b (TF K mg W f)) (hN : X.N[i]? = some x := by rfl) (hv : Vis X.env.scope x := by first | exact Or.inl rfl | exact Or.inr (Or.inl rfl) | exact Or.inr (Or.inr rfl)) (hd : (x == ("__debug__" : Str)) = false := by decide)
    (hcd : (x == ("__classdict__" : Str)) = false := by decide) (hs : swapsWith b (some (.Subscript (.Name x p) a pos')) pos.line X.env = pure false := by rfl) : PS X (.Assign [.Subscript (.Name x p) a pos'] b pos) (TSt K mg W (sDPut i fk f)) := by
  have hu : X.A.units + 1 < cLine := by have := ct.room.units; omega
  refine ps_imp (ps_dput hu (pe_var hN hv hd hcd) hk hf hs) fun D' σ H ⟨F, ρ, A, gd, po⟩ => ?_
  unfold sDPut at po
  refine seqES gd po fun r ρ1 v H1 f1 po => ?_
  obtain ⟨z, ez, po⟩ := seqOpt (po := fun o => PoS K mg W F σ H ρ A o D') poS_no po
  obtain ⟨A1, g1, s1, p1⟩ := fin_sh f1 ez
  obtain ⟨t0, e0, po⟩ := seqOpt (po := fun o => PoS K mg W F σ H ρ A o D') poS_no po
  obtain ⟨a0, q0, _⟩ := slotT g1 e0
  refine ⟨_, q0, ?_⟩
  refine seqO g1 (po := fun o => PoS K mg W F σ H ρ A o D') poS_no (poS_exS s1) po fun h2 ρ2 v2 H2 A2 g2 s2 r2 po => ?_
  obtain ⟨t, e1, po⟩ := seqOpt (po := fun o => PoS K mg W F σ H ρ A o D') poS_no po
  obtain ⟨d, e2, po⟩ := seqOpt (po := fun o => PoS K mg W F σ H ρ A o D') poS_no po
  obtain ⟨t', e3, po⟩ := seqOpt (po := fun o => PoS K mg W F σ H ρ A o D') poS_no po
  have e1' := ownT_eq e1
  obtain ⟨ad, w1, w2, w3⟩ := g2.slot i _ e1'
  obtain ⟨o, q3, q4⟩ := dput_ok w3 (vw_same _ _) (look_key g2 r2 e2 (dtPut_nl e3)) (p1.mono s2.vs) e3
  rw [q0] at w2
  cases w2
  refine ⟨a0, _, rfl, q3, ?_⟩
  exact po σ _ A2 (g2.writeD w1 q0 q4) ((s1.trans s2).trans (Stp.write g2 w1 fun x y z => by rw [e1'] at z; cases z))
/-- {} -/
def fDNew (tt : Bool) : EF := fun ρ => .ok (.od (if tt then .t [] else .k []), ρ)
theorem ev_dnew (tt : Bool) : PE X (.Dict [] [] pos) (TF K mg W (fDNew tt)) := by
  cases tt with
  | true => exact pe_imp pe_dnewT fun σ H Q ⟨F, ρ, A, gd, po⟩ p hp => po _ _ ⟨A, p, rfl, fun z => gd.trk p z hp, gd.hide_new hp, Stp.upd_new gd hp, view_hide gd hp, [], upd_same, .nil⟩
  | false => exact pe_imp pe_dnewK fun σ H Q ⟨F, ρ, A, gd, po⟩ p hp => po _ _ ⟨A, p, rfl, fun z => gd.trk p z hp, gd.hide_new hp, Stp.upd_new gd hp, view_hide gd hp, [], upd_same, .nil⟩
/-- len(d) -/
def dtLen : DT → Nat
  | .k kvs => kvs.length
  | .t kvs => kvs.length
def fDLen (i : Nat) : EF := fun ρ => Rs.of (lookT i ρ) >>= fun t => .ok (.sh (.int (dtLen t : Nat)), ρ)
theorem ev_dlen {i : Nat} {x : Str} {p p2 : Pos} (ct : Ct X K mg W n) (hg : Gl X "len") (hm : mg "len" = none) (hN : X.N[i]? = some x := by rfl) (hv : Vis X.env.scope x := by first | exact Or.inl rfl | exact Or.inr (Or.inl rfl) | exact Or.inr (Or.inr rfl)) (hd : (x == ("__debug__" : Str)) = false := by decide)
    (hcd : (x == ("__classdict__" : Str)) = false := by decide) (he : starEach [.Name x p2] X.env = (false, eval (.Name x p2) X.env) :: starEach [] X.env := by rfl) (hpl : (backTo pos (starEach [] X.env)).any (·.1) = false := by rfl) : PE X (.Call (.Name "len" p) [.Name x p2] [] pos) (TF K mg W (fDLen i)) := by
  refine pe_imp (pe_callB cr_lenD hg (by rw [ct.m]; exact hm) (by decide +kernel) (pa_cons (pe_var hN hv hd hcd) pa_nil he) (by decide) (by decide) he hpl) fun σ H Q ⟨F, ρ, A, gd, po⟩ => ?_
  unfold fDLen at po
  obtain ⟨t, e1, po⟩ := seqOpt (po := fun o => PoE K mg W F σ H ρ A o Q) poE_no po
  obtain ⟨ad, q1, q2⟩ := slotT gd e1
  refine ⟨_, q1, ad, rfl, ?_⟩
  cases t with
  | k kvs =>
    obtain ⟨vs, q3, q4⟩ := q2
    have l := q4.length
    refine .inl ⟨vs, q3, ?_⟩
    rw [l]
    exact po _ H ⟨A, gd, Stp.refl, .int _⟩
  | t kvs =>
    obtain ⟨vs, q3, q4⟩ := q2
    have l := q4.length
    refine .inr ⟨vs, q3, ?_⟩
    rw [l]
    exact po _ H ⟨A, gd, Stp.refl, .int _⟩
end
end Z
end
section
namespace Z
open PySem PySem.Spec L2
/-! ### dict(l), l a list of pairs -/
def pairsT : List D → Option (List (List L2.Key × D))
  | [] => some []
  | .tuple [.tuple ks, v] :: r => match kysOf ks, pairsT r with
    | some k, some ps => some ((k, v) :: ps)
    | _, _ => none
  | _ => none
def pairsK : List D → Option (List (L2.Key × D))
  | [] => some []
  | .tuple [k, v] :: r => match kyOf k, pairsK r with
    | some k, some ps => some ((k, v) :: ps)
    | _, _ => none
  | _ => none
def mrg {κ : Type} [DecidableEq κ] (kvs more : List (κ × D)) : List (κ × D) := more.foldl (fun acc kv => dPut acc kv.1 kv.2) kvs
def gDict (tt : Bool) : List D → Option S
  | [.list ds] => if tt then (pairsT ds).map fun ps => .od (.t (mrg [] ps)) else (pairsK ds).map fun ps => .od (.k (mrg [] ps))
  | _ => none
section
variable {K : PySem.W.Frag} {H W : Hp}
theorem mergeT_ok : ∀ {ms : List (List L2.Key × V)} {ds : List (List L2.Key × D)} {vs : List (List L2.Key × V)} {es : List (List L2.Key × D)}, KRp K W ms ds → KRp K W vs es → KRp K W (mergeT vs ms) (mrg es ds)
  | _, _, _, _, .nil, r => r
  | _, _, _, _, .cons (a := p) (b := q) h t, r => by
    have := r.put p.1 h.2
    rw [h.1] at this
    have z := mergeT_ok t this
    show KRp K W (mergeT (putK _ p.1 p.2) _) (mrg (dPut _ q.1 q.2) _)
    rw [h.1]
    exact z
theorem mergeK_ok : ∀ {ms : List (L2.Key × V)} {ds : List (L2.Key × D)} {vs : List (L2.Key × V)} {es : List (L2.Key × D)}, KRp K W ms ds → KRp K W vs es → KRp K W (mergeK vs ms) (mrg es ds)
  | _, _, _, _, .nil, r => r
  | _, _, _, _, .cons (a := p) (b := q) h t, r => by
    have := r.put p.1 h.2
    rw [h.1] at this
    have z := mergeK_ok t this
    show KRp K W (mergeK (putK _ p.1 p.2) _) (mrg (dPut _ q.1 q.2) _)
    rw [h.1]
    exact z
theorem pairsT_ok (s : Same W H) : ∀ {vs : List V} {ds : List D} {ps : List (List L2.Key × D)}, RpL K W vs ds → pairsT ds = some ps →
    ∃ as kvs, vs = as.map V.ref ∧ Paired (fun p (kv : List L2.Key × V) => ∃ b, SqT K H p [.ref b, kv.2] ∧ H b = some (.tup (kv.1.map kV))) as kvs ∧ KRp K W kvs ps := by
  intro vs ds
  induction ds generalizing vs with
  | nil =>
    intro ps r e
    cases r; cases e
    exact ⟨[], [], rfl, .nil, .nil⟩
  | cons d ds ih =>
    intro ps r e
    cases r with
    | cons r t =>
      unfold pairsT at e
      split at e
      · rename_i h; cases h
      · rename_i ks v r' h
        cases h
        cases q : kysOf ks with
        | none => rw [q] at e; cases e
        | some k =>
          cases q2 : pairsT ds with
          | none => rw [q, q2] at e; cases e
          | some ps' =>
            rw [q, q2] at e
            cases e
            obtain ⟨as, kvs, rfl, h1, h2⟩ := ih t q2
            cases r with
            | tup ea ra =>
              cases ra with
              | cons r1 r2 =>
                cases r2 with
                | cons r2 r3 =>
                  cases r3
                  cases r1 with
                  | tup eb rb =>
                    obtain rfl := kys_ok rb q
                    exact ⟨_ :: as, (k, _) :: kvs, rfl, .cons ⟨_, .of (s _ _ ea), s _ _ eb⟩ h1, .cons ⟨rfl, r2⟩ h2⟩
      · cases e
theorem pairsK_ok (s : Same W H) : ∀ {vs : List V} {ds : List D} {ps : List (L2.Key × D)}, RpL K W vs ds → pairsK ds = some ps →
    ∃ as kvs, vs = as.map V.ref ∧ Paired (fun p (kv : L2.Key × V) => SqT K H p [kV kv.1, kv.2]) as kvs ∧ KRp K W kvs ps := by
  intro vs ds
  induction ds generalizing vs with
  | nil =>
    intro ps r e
    cases r; cases e
    exact ⟨[], [], rfl, .nil, .nil⟩
  | cons d ds ih =>
    intro ps r e
    cases r with
    | cons r t =>
      unfold pairsK at e
      split at e
      · rename_i h; cases h
      · rename_i ks v r' h
        cases h
        cases q : kyOf ks with
        | none => rw [q] at e; cases e
        | some k =>
          cases q2 : pairsK ds with
          | none => rw [q, q2] at e; cases e
          | some ps' =>
            rw [q, q2] at e
            cases e
            obtain ⟨as, kvs, rfl, h1, h2⟩ := ih t q2
            cases r with
            | tup ea ra =>
              cases ra with
              | cons r1 r2 =>
                cases r2 with
                | cons r2 r3 =>
                  cases r3
                  obtain rfl := ky_ok r1 q
                  exact ⟨_ :: as, (k, _) :: kvs, rfl, .cons (.of (s _ _ ea)) h1, .cons ⟨rfl, r2⟩ h2⟩
      · cases e
theorem Fin.newD {F : Addr → Prop} {σ : St} {H : Hp} {ρ : List S} {A : List (Option Addr)} (g : Good K F σ H ρ A) {p : Addr} (hp : H p = none) {o : HO} {t : DT} (h : ∀ W', Same (vw H (hid F A)) W' → DO K (upd H p o) W' p t) : Fin K F σ H ρ A (.od t) ρ (.ref p) (upd H p o) :=
  ⟨A, p, rfl, fun z => g.trk p z hp, g.hide_new hp, Stp.upd_new g hp, view_hide g hp, h _ (view_hide g hp)⟩
theorem ok_dictT : CallOk K (fun xs H Q => ∃ (a : Addr) (ps : List Addr) (kvs : List (List L2.Key × V)), xs = [.ref a] ∧ SqL K H a (ps.map V.ref) ∧ Paired (fun p kv => ∃ b, SqT K H p [.ref b, kv.2] ∧ H b = some (.tup (kv.1.map kV))) ps kvs ∧
    ∀ p, H p = none → Q (.ref p) (upd H p (.dT (mergeT [] kvs)))) (gDict true) := by
  intro F σ H ρ A xs ds res g hp e Q q
  match ds, e with
  | [.list ds], e =>
    obtain ⟨x, rfl, h⟩ := paired1 hp
    obtain ⟨p, vs, rfl, e1, r1⟩ := h.list
    simp only [gDict, if_true] at e
    cases q1 : pairsT ds with
    | none => rw [q1] at e; cases e
    | some ps =>
      rw [q1] at e; cases e
      obtain ⟨as, kvs, rfl, h1, h2⟩ := pairsT_ok (H := H) (vw_same _ _) r1 q1
      exact ⟨p, as, kvs, rfl, .of e1, h1, fun l hl => q _ _ (.newD g hl fun W' s => ⟨_, upd_same, mergeT_ok (h2.mono s) .nil⟩)⟩
theorem ok_dictK : CallOk K (fun xs H Q => ∃ (a : Addr) (ps : List Addr) (kvs : List (L2.Key × V)), xs = [.ref a] ∧ SqL K H a (ps.map V.ref) ∧ Paired (fun p kv => SqT K H p [kV kv.1, kv.2]) ps kvs ∧
    ∀ p, H p = none → Q (.ref p) (upd H p (.dK (mergeK [] kvs)))) (gDict false) := by
  intro F σ H ρ A xs ds res g hp e Q q
  match ds, e with
  | [.list ds], e =>
    obtain ⟨x, rfl, h⟩ := paired1 hp
    obtain ⟨p, vs, rfl, e1, r1⟩ := h.list
    simp only [gDict, if_false, Bool.false_eq_true] at e
    cases q1 : pairsK ds with
    | none => rw [q1] at e; cases e
    | some ps =>
      rw [q1] at e; cases e
      obtain ⟨as, kvs, rfl, h1, h2⟩ := pairsK_ok (H := H) (vw_same _ _) r1 q1
      exact ⟨p, as, kvs, rfl, .of e1, h1, fun l hl => q _ _ (.newD g hl fun W' s => ⟨_, upd_same, mergeK_ok (h2.mono s) .nil⟩)⟩
end
theorem cr_dictT {X : Cx} {K : PySem.W.Frag} {mg : Str → Option Value} {W : WX} {n : Nat} (ct : Ct X K mg W n) : CallR X (.type "dict") (fun xs H Q => ∃ (a : Addr) (ps : List Addr) (kvs : List (List L2.Key × V)), xs = [.ref a] ∧ SqL K H a (ps.map V.ref) ∧ Paired (fun p kv => ∃ b, SqT K H p [.ref b, kv.2] ∧ H b = some (.tup (kv.1.map kV))) ps kvs ∧
    ∀ p, H p = none → Q (.ref p) (upd H p (.dT (mergeT [] kvs)))) := by
  rw [← ct.k]
  exact call_dictPT ct.calm ct.room.units
theorem cr_dictK {X : Cx} {K : PySem.W.Frag} {mg : Str → Option Value} {W : WX} {n : Nat} (ct : Ct X K mg W n) : CallR X (.type "dict") (fun xs H Q => ∃ (a : Addr) (ps : List Addr) (kvs : List (L2.Key × V)), xs = [.ref a] ∧ SqL K H a (ps.map V.ref) ∧ Paired (fun p kv => SqT K H p [kV kv.1, kv.2]) ps kvs ∧
    ∀ p, H p = none → Q (.ref p) (upd H p (.dK (mergeK [] kvs)))) := by
  rw [← ct.k]
  exact call_dictP ct.calm
/-! ### a, b, .. = e1, e2, ..: what is fresh stays the frame's own -/
def okV : S → Bool
  | .fz _ => false
  | _ => true
def evL : List EF → List S → Rs (List S × List S)
  | [], ρ => .ok ([], ρ)
  | f :: fs, ρ => f ρ >>= fun p => if okV p.1 = true then evL fs p.2 >>= fun q => .ok (p.1 :: q.1, q.2) else .no
def OwA (L : List Addr) (F : Addr → Prop) : Addr → Prop := fun b => F b ∨ b ∈ L
inductive VR (K : PySem.W.Frag) (H W : Hp) : List Addr → List V → List S → Prop
  | nil : VR K H W [] [] []
  | sh {v : V} {d : D} {L vs rs} : Rp K W v d → VR K H W L vs rs → VR K H W L (v :: vs) (.sh d :: rs)
  | sd {a : Addr} {t : DT} {L vs rs} : DO K W W a t → VR K H W L vs rs → VR K H W L (.ref a :: vs) (.sd t :: rs)
  | ow {a : Addr} {d : D} {L vs rs} : a ∉ L → Ow K H W a d → VR K H W L vs rs → VR K H W (a :: L) (.ref a :: vs) (.ow d :: rs)
  | od {a : Addr} {t : DT} {L vs rs} : a ∉ L → DO K H W a t → VR K H W L vs rs → VR K H W (a :: L) (.ref a :: vs) (.od t :: rs)
theorem VR.mono {K : PySem.W.Frag} {H W W' : Hp} {L : List Addr} {vs : List V} {rs : List S} (h : VR K H W L vs rs) (s : Same W W') : VR K H W' L vs rs := by
  induction h with
  | nil => exact .nil
  | sh r _ ih => exact .sh (r.mono s) ih
  | sd r _ ih => exact .sd (r.see s) ih
  | ow n r _ ih => exact .ow n (r.mono rfl s) ih
  | od n r _ ih => exact .od n (r.mono rfl s) ih
def FinV (K : PySem.W.Frag) (F : Addr → Prop) (σ : St) (H : Hp) (ρ : List S) (A : List (Option Addr)) (rs ρ' : List S) (vs : List V) (H' : Hp) : Prop :=
  ∃ L A', Good K (OwA L F) σ H' ρ' A' ∧ Stp F H ρ A H' ρ' A' ∧ (∀ b ∈ L, ¬ F b) ∧ Same (vw H (hid F A)) (vw H' (hid (OwA L F) A')) ∧ VR K H' (vw H' (hid (OwA L F) A')) L vs rs
def PoV (K : PySem.W.Frag) (mg : Str → Option Value) (W : WX) (F : Addr → Prop) (σ : St) (H : Hp) (ρ : List S) (A : List (Option Addr)) (o : Rs (List S × List S)) (Q : List V → Hp → Prop) : Prop := match o with
  | .ok (rs, ρ') => ∀ vs H', FinV K F σ H ρ A rs ρ' vs H' → Q vs H'
  | .ex ρ' c fs => PoX K mg W F σ H ρ A ρ' c fs
  | .no => False
def TPv (K : PySem.W.Frag) (mg : Str → Option Value) (W : WX) (fs : List EF) : TA := fun σ H Q => ∃ F ρ A, Good K F σ H ρ A ∧ PoV K mg W F σ H ρ A (evL fs ρ) Q
theorem OwA_nil (F : Addr → Prop) : OwA [] F = F := funext fun b => propext ⟨fun z => z.elim id fun q => (List.not_mem_nil q).elim, .inl⟩
theorem OwA_cons (a : Addr) (L : List Addr) (F : Addr → Prop) : OwA (a :: L) F = OwA L (adj F a) := funext fun b => propext ⟨fun z => z.elim (fun q => .inl (.inl q)) fun q => (List.mem_cons.mp q).elim (fun q => .inl (.inr q)) .inr, fun z => z.elim (fun q => q.elim .inl fun q => .inr (by rw [q]; exact List.mem_cons_self)) fun q => .inr (List.mem_cons_of_mem _ q)⟩
theorem OwA_cons' (a : Addr) (L : List Addr) (F : Addr → Prop) : OwA (a :: L) F = adj (OwA L F) a := funext fun b => propext ⟨fun z => z.elim (fun q => .inl (.inl q)) fun q => (List.mem_cons.mp q).elim .inr fun q => .inl (.inr q), fun z => z.elim (fun q => q.elim .inl fun q => .inr (List.mem_cons_of_mem _ q)) fun q => .inr (by rw [q]; exact List.mem_cons_self)⟩
section
variable {X : Cx} {K : PySem.W.Frag} {mg : Str → Option Value} {W : WX} {n : Nat} {f : EF} {fs : List EF} {e : Expr} {es : List Expr} {pos : Pos}
theorem tpv_nil : PA X [] (TPv K mg W []) := pa_imp pa_nil fun σ H Q ⟨F, ρ, A, gd, po⟩ => po [] H ⟨[], A, by rw [OwA_nil]; exact gd, Stp.refl, fun _ q => (List.not_mem_nil q).elim, by rw [OwA_nil]; exact Same.refl _, .nil⟩
theorem tpv_cons (h : PE X e (TF K mg W f)) (h2 : PA X es (TPv K mg W fs)) (hs : starEach (e :: es) X.env = (false, eval e X.env) :: starEach es X.env := by rfl) : PA X (e :: es) (TPv K mg W (f :: fs)) := by
  refine pa_imp (pa_cons h h2 hs) fun σ H Q ⟨F, ρ, A, gd, po⟩ => ?_
  have noV : ¬ PoV K mg W F σ H ρ A .no Q := fun z => z
  unfold evL at po
  refine seqE gd (po := fun o => PoV K mg W F σ H ρ A o Q) noV (fun _ _ _ h => h) po fun r ρ1 v H1 f1 po => ?_
  by_cases hok : okV r = true
  case neg => simp only at po; rw [if_neg hok] at po; exact po.elim
  simp only at po
  rw [if_pos hok] at po
  have key : ∀ (F1 : Addr → Prop) (A1 : List (Option Addr)), Good K F1 σ H1 ρ1 A1 → (∀ H2 ρ2 A2, Good K F1 σ H2 ρ2 A2 → Stp F1 H1 ρ1 A1 H2 ρ2 A2 → ∃ A3, Good K F σ H2 ρ2 A3 ∧ Stp F H ρ A H2 ρ2 A3) → (∀ rs ρ2 vs H2, FinV K F1 σ H1 ρ1 A1 rs ρ2 vs H2 → FinV K F σ H ρ A (r :: rs) ρ2 (v :: vs) H2) → TPv K mg W fs σ H1 fun vs H2 => Q (v :: vs) H2 := by
    intro F1 A1 g1 hx hk
    refine ⟨F1, ρ1, A1, g1, ?_⟩
    cases q : evL fs ρ1 with
    | no => rw [q] at po; exact po.elim
    | ex ρ' c ff =>
      rw [q] at po
      intro C d H' A' g' s' e'
      obtain ⟨A3, g3, s3⟩ := hx _ _ _ g' s'
      exact po C d H' A3 g3 s3 e'
    | ok p =>
      obtain ⟨rs, ρ2⟩ := p
      rw [q] at po
      exact fun vs H2 fv => po (v :: vs) H2 (hk rs ρ2 vs H2 fv)
  have stp : ∀ {a : Addr} {A1 : List (Option Addr)}, Stp F H ρ A H1 ρ1 A1 → Same (vw H (hid F A)) (vw H1 (hid (adj F a) A1)) → ∀ {H2 : Hp} {ρ2 : List S} {A2 : List (Option Addr)}, Stp (adj F a) H1 ρ1 A1 H2 ρ2 A2 → Stp F H ρ A H2 ρ2 A2 := fun {a A1} s1 m1 {H2 ρ2 A2} s2 => ⟨fun b hb => (s2.kf b (.inl hb)).trans (s1.kf b hb), (m1.trans s2.vs).trans view_unhide, fun k x y e => by
    obtain ⟨q1, x1, y1, q2⟩ := s1.cu k x y e
    obtain ⟨q3, q4⟩ := s2.cu k x1 y1 q2
    exact ⟨q3.trans q1, q4⟩⟩
  cases r with
  | u => exact f1.elim
  | cu x y => exact f1.elim
  | fz ns => cases hok
  | sh d =>
    obtain ⟨A1, g1, s1, p1⟩ := f1
    refine key F A1 g1 (fun H2 ρ2 A2 g2 s2 => ⟨A2, g2, s1.trans s2⟩) fun rs ρ2 vs H2 ⟨L, A2, g2, s2, nL, m2, vr⟩ => ?_
    exact ⟨L, A2, g2, s1.trans s2, nL, s1.vs.trans m2, .sh (p1.mono m2) vr⟩
  | sd d =>
    obtain ⟨A1, g1, s1, a, rfl, p1⟩ := f1
    refine key F A1 g1 (fun H2 ρ2 A2 g2 s2 => ⟨A2, g2, s1.trans s2⟩) fun rs ρ2 vs H2 ⟨L, A2, g2, s2, nL, m2, vr⟩ => ?_
    exact ⟨L, A2, g2, s1.trans s2, nL, s1.vs.trans m2, .sd (p1.see m2) vr⟩
  | ow d =>
    obtain ⟨A1, a, rfl, na, g1, s1, m1, o1⟩ := f1
    refine key (adj F a) A1 g1 (fun H2 ρ2 A2 g2 s2 => ⟨A2, g2.unhide, stp s1 m1 s2⟩) fun rs ρ2 vs H2 ⟨L, A2, g2, s2, nL, m2, vr⟩ => ?_
    rw [← OwA_cons] at g2 m2 vr
    exact ⟨a :: L, A2, g2, stp s1 m1 s2, fun b hb => (List.mem_cons.mp hb).elim (fun q => by rw [q]; exact na) fun q z => nL b q (.inl z), m1.trans m2, .ow (fun z => nL a z (.inr rfl)) (o1.mono (s2.kf a (.inr rfl)) m2) vr⟩
  | od d =>
    obtain ⟨A1, a, rfl, na, g1, s1, m1, o1⟩ := f1
    refine key (adj F a) A1 g1 (fun H2 ρ2 A2 g2 s2 => ⟨A2, g2.unhide, stp s1 m1 s2⟩) fun rs ρ2 vs H2 ⟨L, A2, g2, s2, nL, m2, vr⟩ => ?_
    rw [← OwA_cons] at g2 m2 vr
    exact ⟨a :: L, A2, g2, stp s1 m1 s2, fun b hb => (List.mem_cons.mp hb).elim (fun q => by rw [q]; exact na) fun q z => nL b q (.inl z), m1.trans m2, .od (fun z => nL a z (.inr rfl)) (o1.mono (s2.kf a (.inr rfl)) m2) vr⟩
end
/-! the stores -/
def putsS : List Nat → List S → List S → Option (List S)
  | [], [], ρ => some ρ
  | i :: is, r :: rs, ρ => (setS i r ρ).bind (putsS is rs)
  | _, _, _ => none
def putsV : List Nat → List V → St → St
  | i :: is, v :: vs, σ => putsV is vs (σ.set i (some v))
  | _, _, σ => σ
theorem storeV {K : PySem.W.Frag} {F : Addr → Prop} {H : Hp} : ∀ (is : List Nat) {vs : List V} {rs : List S} {L : List Addr} {σ : St} {ρ ρ' : List S} {A : List (Option Addr)}, Good K (OwA L F) σ H ρ A → VR K H (vw H (hid (OwA L F) A)) L vs rs → (∀ b ∈ L, ¬ F b) → putsS is rs ρ = some ρ' →
    vs.length = is.length ∧ ∃ A', Good K F (putsV is vs σ) H ρ' A' ∧ Same (vw H (hid (OwA L F) A)) (vw H (hid F A')) ∧ ∀ (i : Nat) (x y : Int), ρ[i]? = some (S.cu x y) → A'[i]? = A[i]? ∧ ρ'[i]? = some (S.cu x y)
  | [], vs, rs, L, σ, ρ, ρ', A, g, vr, nL, e => by
    cases vr with
    | nil =>
      cases e
      rw [OwA_nil] at g ⊢
      exact ⟨rfl, A, g, Same.refl _, fun i x y h => ⟨rfl, h⟩⟩
    | _ => cases e
  | i :: is, vs, rs, L, σ, ρ, ρ', A, g, vr, nL, e => by
    have fin : ∀ {ρ1 : List S} {r : S} {oa : Option Addr}, ρ1 = ρ.set i r → (∀ x y, ρ[i]? ≠ some (S.cu x y)) → ∀ {A' : List (Option Addr)}, (∀ (j : Nat) (x y : Int), ρ1[j]? = some (S.cu x y) → A'[j]? = (A.set i oa)[j]? ∧ ρ'[j]? = some (S.cu x y)) → ∀ (j : Nat) (x y : Int), ρ[j]? = some (S.cu x y) → A'[j]? = A[j]? ∧ ρ'[j]? = some (S.cu x y) := by
      rintro ρ1 r oa rfl hc A' h j x y e
      have hj : i ≠ j := fun z => by subst z; exact hc x y e
      have := h j x y (by rw [List.getElem?_set_ne hj]; exact e)
      rw [List.getElem?_set_ne hj] at this
      exact this
    cases vr with
    | nil => cases e
    | sh r t =>
      obtain ⟨ρ1, e1, e2⟩ := Option.bind_eq_some_iff.mp e
      obtain ⟨h1, e3, h2⟩ := setS_some e1
      have g1 := g.put h1 r
      rw [← e3] at g1
      obtain ⟨l, A', g2, s2, c2⟩ := storeV is g1 (t.mono view_setNone) nL e2
      exact ⟨by simp [l], A', g2, view_setNone.trans s2, fin e3 h2 c2⟩
    | sd r t =>
      obtain ⟨ρ1, e1, e2⟩ := Option.bind_eq_some_iff.mp e
      obtain ⟨h1, e3, h2⟩ := setS_some e1
      have g1 := g.putD h1 r
      rw [← e3] at g1
      obtain ⟨l, A', g2, s2, c2⟩ := storeV is g1 (t.mono view_setNone) nL e2
      exact ⟨by simp [l], A', g2, view_setNone.trans s2, fin e3 h2 c2⟩
    | ow na r t =>
      obtain ⟨ρ1, e1, e2⟩ := Option.bind_eq_some_iff.mp e
      obtain ⟨h1, e3, h2⟩ := setS_some e1
      rw [OwA_cons'] at g r t ⊢
      have g1 := g.putO (fun z => z.elim (nL _ List.mem_cons_self) na) h1 r
      rw [← e3] at g1
      obtain ⟨l, A', g2, s2, c2⟩ := storeV is g1 (t.mono view_putO) (fun b hb => nL b (List.mem_cons_of_mem _ hb)) e2
      exact ⟨by simp [l], A', g2, view_putO.trans s2, fin e3 h2 c2⟩
    | od na r t =>
      obtain ⟨ρ1, e1, e2⟩ := Option.bind_eq_some_iff.mp e
      obtain ⟨h1, e3, h2⟩ := setS_some e1
      rw [OwA_cons'] at g r t ⊢
      have g1 := g.putOD (fun z => z.elim (nL _ List.mem_cons_self) na) h1 r
      rw [← e3] at g1
      obtain ⟨l, A', g2, s2, c2⟩ := storeV is g1 (t.mono view_putO) (fun b hb => nL b (List.mem_cons_of_mem _ hb)) e2
      exact ⟨by simp [l], A', g2, view_putO.trans s2, fin e3 h2 c2⟩
def sParG (is : List Nat) (fs : List EF) : SF := fun ρ => evL fs ρ >>= fun p => Rs.of (putsS is p.1 p.2) >>= fun ρ' => .ok (.nx, ρ')
section
variable {X : Cx} {K : PySem.W.Frag} {mg : Str → Option Value} {W : WX} {n : Nat} {fs : List EF} {pos : Pos}
theorem parG_core {is : List Nat} {D' : Ends} {σ : St} {H : Hp} {Q : List V → Hp → Prop} (h : TSt K mg W (sParG is fs) D' σ H) (hq : ∀ vs H', vs.length = is.length → D'.nx (putsV is vs σ) H' → Q vs H') : TPv K mg W fs σ H Q := by
  obtain ⟨F, ρ, A, gd, po⟩ := h
  refine ⟨F, ρ, A, gd, ?_⟩
  unfold sParG at po
  cases q : evL fs ρ with
  | no => rw [q] at po; exact po.elim
  | ex ρ' c ff =>
    rw [q] at po
    exact fun C d H' A' g s e => po σ C d H' A' g s e
  | ok p =>
    obtain ⟨rs, ρ1⟩ := p
    rw [q] at po
    intro vs H1 ⟨L, A1, g1, s1, nL, m1, vr⟩
    obtain ⟨ρ', e1, po⟩ := seqOpt (po := fun o => PoS K mg W F σ H ρ A o D') poS_no po
    obtain ⟨l, A2, g2, s2, c2⟩ := storeV is g1 vr nL e1
    refine hq vs H1 l (po _ H1 A2 g2 ⟨s1.kf, m1.trans s2, fun i x y e => ?_⟩)
    obtain ⟨q1, x', y', q2⟩ := s1.cu i x y e
    obtain ⟨q3, q4⟩ := c2 i x' y' q2
    exact ⟨q3.trans q1, x', y', q4⟩
theorem st_parG {i j : Nat} {x y : Str} {a b : Expr} {px py pt : Pos} {kt k2 pt2} (ct : Ct X K mg W n) (ha : PA X [a, b] (TPv K mg W fs)) (hi : X.N[i]? = some x := by rfl) (hj : X.N[j]? = some y := by rfl) (hij : i ≠ j := by decide)
    (hx : X.env.scope.names.lookup x = some .local := by rfl) (hy : X.env.scope.names.lookup y = some .local := by rfl)
    (hw : swappedStores [.Tuple [.Name x px, .Name y py] kt pt] (.Tuple [a, b] k2 pt2) X.env = pure (some [x, y]) := by rfl) (hs : swapsWithSole [.Tuple [.Name x px, .Name y py] kt pt] (.Tuple [a, b] k2 pt2) pos.line X.env = pure false := by rfl) :
    PS X (.Assign [.Tuple [.Name x px, .Name y py] kt pt] (.Tuple [a, b] k2 pt2) pos) (TSt K mg W (sParG [i, j] fs)) := by
  refine ps_imp (ps_par ct.calm ct.nd hi hj hij hx hy ha hw hs) fun D' σ H h => parG_core h fun vs H' hl q => ?_
  match vs, hl, q with
  | [v, w], _, q => exact ⟨v, w, rfl, q⟩
theorem st_parG3 {i j l : Nat} {x y z : Str} {a b c : Expr} {px py pz pt : Pos} {kt k2 pt2} (ct : Ct X K mg W n) (ha : PA X [a, b, c] (TPv K mg W fs)) (hi : X.N[i]? = some x := by rfl) (hj : X.N[j]? = some y := by rfl) (hl : X.N[l]? = some z := by rfl) (hij : i ≠ j := by decide) (hil : i ≠ l := by decide) (hjl : j ≠ l := by decide)
    (hx : X.env.scope.names.lookup x = some .local := by rfl) (hy : X.env.scope.names.lookup y = some .local := by rfl) (hz : X.env.scope.names.lookup z = some .local := by rfl)
    (hw : swappedStores [.Tuple [.Name x px, .Name y py, .Name z pz] kt pt] (.Tuple [a, b, c] k2 pt2) X.env = pure (some [x, y, z]) := by rfl) (hs : swapsWithSole [.Tuple [.Name x px, .Name y py, .Name z pz] kt pt] (.Tuple [a, b, c] k2 pt2) pos.line X.env = pure false := by rfl) :
    PS X (.Assign [.Tuple [.Name x px, .Name y py, .Name z pz] kt pt] (.Tuple [a, b, c] k2 pt2) pos) (TSt K mg W (sParG [i, j, l] fs)) := by
  refine ps_imp (ps_par3 ct.calm ct.nd hi hj hl hij hil hjl hx hy hz ha hw hs) fun D' σ H h => parG_core h fun vs H' hl q => ?_
  match vs, hl, q with
  | [v, w, u], _, q => exact ⟨v, w, u, rfl, q⟩
end
/-! the same where a name is a cell: by a tuple -/
section
variable {X : Cx} {K : PySem.W.Frag} {mg : Str → Option Value} {W : WX} {n : Nat} {fs : List EF} {pos : Pos}
theorem parT_core {is : List Nat} {D' : Ends} {σ : St} {H : Hp} {Q : List V → Hp → Prop} (h : TSt K mg W (sParG is fs) D' σ H) (hq : ∀ vs H', vs.length = is.length → (∀ p o, H' p = none → D'.nx (putsV is vs σ) (upd H' p o)) → Q vs H') : TPv K mg W fs σ H Q := by
  obtain ⟨F, ρ, A, gd, po⟩ := h
  refine ⟨F, ρ, A, gd, ?_⟩
  unfold sParG at po
  cases q : evL fs ρ with
  | no => rw [q] at po; exact po.elim
  | ex ρ' c ff =>
    rw [q] at po
    exact fun C d H' A' g s e => po σ C d H' A' g s e
  | ok p =>
    obtain ⟨rs, ρ1⟩ := p
    rw [q] at po
    intro vs H1 ⟨L, A1, g1, s1, nL, m1, vr⟩
    obtain ⟨ρ', e1, po⟩ := seqOpt (po := fun o => PoS K mg W F σ H ρ A o D') poS_no po
    obtain ⟨l, A2, g2, s2, c2⟩ := storeV is g1 vr nL e1
    refine hq vs H1 l fun p o hp => po _ _ A2 (g2.upd_new hp) (Stp.trans ⟨s1.kf, m1.trans s2, fun i x y e => ?_⟩ (Stp.upd_new g2 hp))
    obtain ⟨q1, x', y', q2⟩ := s1.cu i x y e
    obtain ⟨q3, q4⟩ := c2 i x' y' q2
    exact ⟨q3.trans q1, x', y', q4⟩
theorem st_parT {i j : Nat} {x y : Str} {a b : Expr} {px py pt : Pos} {kt k2 pt2} (ct : Ct X K mg W n) (ha : PA X [a, b] (TPv K mg W fs)) (hi : X.N[i]? = some x := by rfl) (hj : X.N[j]? = some y := by rfl)
    (hx : Loc X.env.scope x := by first | exact Or.inl rfl | exact Or.inr rfl) (hy : Loc X.env.scope y := by first | exact Or.inl rfl | exact Or.inr rfl) (fx : X.fn x = true ∨ X.env.scope.names.lookup x = some .local := by first | exact .inl rfl | exact .inr rfl) (fy : X.fn y = true ∨ X.env.scope.names.lookup y = some .local := by first | exact .inl rfl | exact .inr rfl)
    (hw : swappedStores [.Tuple [.Name x px, .Name y py] kt pt] (.Tuple [a, b] k2 pt2) X.env = pure none := by rfl) (hs : swapsWithSole [.Tuple [.Name x px, .Name y py] kt pt] (.Tuple [a, b] k2 pt2) pos.line X.env = pure false := by rfl) (h1 : (assignEach [.Tuple [.Name x px, .Name y py] kt pt] X.env).map (·.2) = [assign (.Tuple [.Name x px, .Name y py] kt pt) X.env] := by rfl)
    (a2 : (assignEach [.Name x px, .Name y py] X.env).map (·.2) = assign (.Name x px) X.env :: (assignEach [.Name y py] X.env).map (·.2) := by rfl) (a1 : (assignEach [.Name y py] X.env).map (·.2) = assign (.Name y py) X.env :: (assignEach [] X.env).map (·.2) := by rfl)
    (hn : (assignEach [.Name x px, .Name y py] X.env).length = 2 := by rfl) (hst : (assignEach [.Name x px, .Name y py] X.env).findIdx? (·.1) = none := by rfl) :
    PS X (.Assign [.Tuple [.Name x px, .Name y py] kt pt] (.Tuple [a, b] k2 pt2) pos) (TSt K mg W (sParG [i, j] fs)) := by
  have sl := sizeLine_eq
  refine ps_imp (ps_asg (pe_tup ha) (pg_tup ct.calm (pgs_cons (pg_name ct.nd hi hx fx) (pgs_cons (pg_name ct.nd hj hy fy) pgs_nil a1) a2) hn hst) hs hw h1) fun D' σ H h => parT_core h fun vs H' hl q => ?_
  match vs, hl, q with
  | [v, w], _, q => exact ⟨by simp; omega, fun p hp => ⟨p, [v, w], rfl, .of upd_same, rfl, v, [w], rfl, w, [], rfl, rfl, q p _ hp⟩⟩
theorem st_parT3 {i j l : Nat} {x y z : Str} {a b c : Expr} {px py pz pt : Pos} {kt k2 pt2} (ct : Ct X K mg W n) (ha : PA X [a, b, c] (TPv K mg W fs)) (hi : X.N[i]? = some x := by rfl) (hj : X.N[j]? = some y := by rfl) (hl : X.N[l]? = some z := by rfl)
    (hx : Loc X.env.scope x := by first | exact Or.inl rfl | exact Or.inr rfl) (hy : Loc X.env.scope y := by first | exact Or.inl rfl | exact Or.inr rfl) (hz : Loc X.env.scope z := by first | exact Or.inl rfl | exact Or.inr rfl) (fx : X.fn x = true ∨ X.env.scope.names.lookup x = some .local := by first | exact .inl rfl | exact .inr rfl) (fy : X.fn y = true ∨ X.env.scope.names.lookup y = some .local := by first | exact .inl rfl | exact .inr rfl) (fz : X.fn z = true ∨ X.env.scope.names.lookup z = some .local := by first | exact .inl rfl | exact .inr rfl)
    (hw : swappedStores [.Tuple [.Name x px, .Name y py, .Name z pz] kt pt] (.Tuple [a, b, c] k2 pt2) X.env = pure none := by rfl) (hs : swapsWithSole [.Tuple [.Name x px, .Name y py, .Name z pz] kt pt] (.Tuple [a, b, c] k2 pt2) pos.line X.env = pure false := by rfl) (h1 : (assignEach [.Tuple [.Name x px, .Name y py, .Name z pz] kt pt] X.env).map (·.2) = [assign (.Tuple [.Name x px, .Name y py, .Name z pz] kt pt) X.env] := by rfl)
    (a3 : (assignEach [.Name x px, .Name y py, .Name z pz] X.env).map (·.2) = assign (.Name x px) X.env :: (assignEach [.Name y py, .Name z pz] X.env).map (·.2) := by rfl) (a2 : (assignEach [.Name y py, .Name z pz] X.env).map (·.2) = assign (.Name y py) X.env :: (assignEach [.Name z pz] X.env).map (·.2) := by rfl) (a1 : (assignEach [.Name z pz] X.env).map (·.2) = assign (.Name z pz) X.env :: (assignEach [] X.env).map (·.2) := by rfl)
    (hn : (assignEach [.Name x px, .Name y py, .Name z pz] X.env).length = 3 := by rfl) (hst : (assignEach [.Name x px, .Name y py, .Name z pz] X.env).findIdx? (·.1) = none := by rfl) :
    PS X (.Assign [.Tuple [.Name x px, .Name y py, .Name z pz] kt pt] (.Tuple [a, b, c] k2 pt2) pos) (TSt K mg W (sParG [i, j, l] fs)) := by
  have sl := sizeLine_eq
  refine ps_imp (ps_asg (pe_tup ha) (pg_tup ct.calm (pgs_cons (pg_name ct.nd hi hx fx) (pgs_cons (pg_name ct.nd hj hy fy) (pgs_cons (pg_name ct.nd hl hz fz) pgs_nil a1) a2) a3) hn hst) hs hw h1) fun D' σ H h => parT_core h fun vs H' hl q => ?_
  match vs, hl, q with
  | [v, w, u], _, q => exact ⟨by simp; omega, fun p hp => ⟨p, [v, w, u], rfl, .of upd_same, rfl, v, [w, u], rfl, w, [u], rfl, u, [], rfl, rfl, q p _ hp⟩⟩
end
end Z
end
section
namespace Z
open PySem PySem.Spec L2
def AL (f : AF) (m : Nat) : Prop := ∀ ρ q, f ρ = .ok q → q.1.length = m
theorem aNil_len : AL aNil 0 := fun ρ q h => by cases h; rfl
theorem aCons_len {f : EF} {g : AF} {m : Nat} (h : AL g m) : AL (aCons f g) (m + 1) := fun ρ q e => by
  unfold aCons at e
  cases q1 : f ρ with
  | no => rw [q1] at e; cases e
  | ex ρ' c fs => rw [q1] at e; cases e
  | ok p =>
    obtain ⟨r, ρ1⟩ := p
    rw [q1] at e
    simp only [Rs.bind_ok] at e
    cases q2 : g ρ1 with
    | no => cases r <;> simp [q2] at e
    | ex ρ' c fs => cases r <;> simp [q2] at e
    | ok t =>
      have := h ρ1 t q2
      cases r <;> simp [q2] at e <;> (subst e; simp [this])
section
variable {P : Program} {w : World} {K : PySem.W.Frag} {mg : Str → Option Value} {base : Heap} {k m : Nat} {f : Addr} {fd : FuncData} {ps : List Str}
/-- nothing is promised -/
theorem fn_no (h : m = ps.length) : FnOk P w K mg base (L2.CX P w) k f fd ps (spF K mg m fun _ => .no) :=
  ⟨fun vs H Q E ⟨F, args, r, hl, _⟩ => by rw [r.len, hl, h], fun A outer s H args us vs Q E _ _ _ _ ⟨F, a, _, _, _, z⟩ => z.elim⟩
/-- the law's promise -/
def spLaw (K : PySem.W.Frag) : Sp := fun vs H Q _ => ∃ (a : Addr) (ns : List Int), vs = [.ref a] ∧ SqL K H a (ns.map V.int) ∧ ns.length ≤ 63 ∧ ∀ H', Q (.bl true) H'
theorem vw_none (H : Hp) : vw H (fun _ => False) = H := by funext b; exact vw_neg id
theorem fn_law {mf : List S → Rs S} (h : FnOk P w K mg base (L2.CX P w) k f fd ps (spF K mg 1 mf)) (t : ∀ ns : List Int, ns.length ≤ 63 → mf [.fz ns] = .ok (.sh (.bool true))) : FnOk P w K mg base CX0 k f fd ps (spLaw K) := by
  have h2 : FnOk P w K mg base (L2.CX P w) k f fd ps (spLaw K) := by
    refine h.imp fun vs H Q E ⟨a, ns, e, hs, hl, q⟩ => ?_
    refine ⟨fun _ => False, [.fz ns], ?_, rfl, fun b z => z.elim, ?_⟩
    · rw [e, vw_none]
      exact .cons ⟨a, rfl, hs⟩ .nil
    · rw [t ns hl]
      intro v H' _ ff
      cases ff.2
      exact q H'
  refine ⟨h2.len, fun A outer s H args us vs Q E hr he hb hv hs => codeAny_mono (h2.run A outer s H args us vs Q E0 hr he hb hv hs) fun r s' q => ?_⟩
  cases r with
  | ok fl => cases fl <;> exact q
  | error e =>
    obtain ⟨_, _, _, _, _, _, _, _, _, _, _, _, z⟩ := q
    exact z.elim
end
/-- a def of the text: it stands there, and how its arguments bind -/
structure Df (K : PySem.W.Frag) (mg : Str → Option Value) (x y : Str) (st : Stmt) (ps : List Str) (f : Addr) (fd : FuncData) : Prop where
  d : FunD K y y (defArgs st) (defBody st) (defScope st) [] [] f fd
  g : mg x = some (.ref f)
  b : Binds K fd ps []
theorem df_mk {K : PySem.W.Frag} {mg : Str → Option Value} {h : Heap} (X : K.In h) (G : h.Ns mainGlobals mg) {x y : Str} {st : Stmt} {ps : List Str} (hd : ∃ fd, FunD K y y (defArgs st) (defBody st) (defScope st) [] [] (He.fAd K (x, none)) fd) (hg : (He.Fa.glo x).ok K = true)
    (hb : ∀ (kV doc pm : Value) (an : Option Addr) (cdv ct : Value) (us : List Value), us.length = ps.length → bindArgs (PySem.W.fnOf y y (defArgs st) (defBody st) (defScope st) .none kV doc pm an cdv ct) ⟨us, []⟩ = pure (ps.zip us)) :
    ∃ fd, Df K mg x y st ps (He.ga K x) fd := by
  obtain ⟨fd, F⟩ := hd
  exact ⟨fd, F, He.glo_ok X G hg, F.bindsN hb⟩
end Z
end
section
namespace P
open PySem Z
noncomputable section
def LIM : Nat := hide 100000000
theorem LIM_eq : LIM = 100000000 := hide_eq _
/-- def fits_whole(value, low, high); slots: 0 value, 1 low, 2 high -/
def b_fits_whole : SF :=
    sRet (fAndV (fIsi "int" (oN 0)) (fAndV (fNotV (oE (fIsi "bool" (oN 0)))) (fChain gLe gLe (oN 1) (oN 0) (oN 2))))
def m_fits_whole : List S → Rs S := hide (retF b_fits_whole 3)
/-- def is_tuple_of(value, least, most); slots: 0 value, 1 least, 2 most -/
def b_is_tuple_of : SF :=
    sRet (fAndV (fIsi "tuple" (oN 0)) (fChain gLe gLe (oN 1) (oE (fCall gLen (hCons (oN 0) (hNil)))) (oN 2)))
def m_is_tuple_of : List S → Rs S := hide (retF b_is_tuple_of 3)
/-- def fits_word(value); slots: 0 value, 1 sign -/
def b_fits_word : SF :=
    sRet (fAndV (fUser m_is_tuple_of (aCons (fN 0) (aCons (fC (.int 1)) (aCons (fC (.int 16)) (aNil))))) (fCall gAll (hCons (oE (fLc [1] (iSeq (fN 0)) (gNm 1) (bYes) (fUser m_fits_whole (aCons (fN 1) (aCons (fC (.int 0)) (aCons (fC (.int 1)) (aNil))))))) (hNil))))
def m_fits_word : List S → Rs S := hide (retF b_fits_word 2)
/-- def choose(many, size); slots: 0 many, 1 size, 2 found, 3 one -/
def b_choose : SF :=
    sSeq (sSet 2 (fC (.int 1)))
    (sSeq (sFor (iRange1 (hCons (oN 1) (hNil))) (gNm 3) (kl [3] (sSet 2 (fOp gDiv (oE (fOp gMul (oN 2) (oE (fOp gSub (oN 0) (oN 3))))) (oE (fOp gAdd (oN 3) (oE (fC (.int 1)))))))))
    (sRet (fIf (bOf (fOp gLe (oN 1) (oN 0))) (fM 2) (fC (.int 0)))))
def m_choose : List S → Rs S := hide (retF b_choose 4)
/-- def number_in_signs(word); slots: 0 word, 1 found, 2 bit, 3 sign -/
def b_number_in_signs : SF :=
    sSeq (sAsg (gTupT 2 (gsCons (gNm 1) (gsCons (gNm 2) (gsNil)))) (fTup (aCons (fC (.int 0)) (aCons (fC (.int 0)) (aNil)))))
    (sSeq (sFor (iSeq (fN 0)) (gNm 3) (sSeq (sSet 2 (fCall gInt (hCons (oE (fOp gNe (oN 2) (oN 3))) (hNil))))
    (sSet 1 (fOp gAdd (oE (fOp gMul (oE (fC (.int 2))) (oN 1))) (oN 2)))))
    (sRet (fM 1)))
def m_number_in_signs : List S → Rs S := hide (retF b_number_in_signs 4)
/-- def need_word(word); slots: 0 word -/
def b_need_word : SF :=
    sIf (fNotB (fTruth (oE (fUser m_fits_word (aCons (fN 0) (aNil)))))) ((fun _ => .no)) (sNx)
def m_need_word : List S → Rs S := hide (retF b_need_word 1)
/-- def number_of(word); slots: 0 word -/
def b_number_of : SF :=
    sSeq (sExpr (fUser m_need_word (aCons (fN 0) (aNil))))
    (sRet (fUser m_number_in_signs (aCons (fN 0) (aNil))))
def m_number_of : List S → Rs S := hide (retF b_number_of 1)
/-- def fits_pick(many, value); slots: 0 many, 1 value, 2 one, 3 other -/
def b_fits_pick : SF :=
    sSeq (sIf (fOrB (fNotB (fTruth (oE (fUser m_is_tuple_of (aCons (fN 1) (aCons (fC (.int 0)) (aCons (fN 0) (aNil)))))))) (fNotB (fTruth (oE (fCall gAll (hCons (oE (fLc [2] (iSeq (fN 1)) (gNm 2) (bYes) (fUser m_fits_whole (aCons (fN 2) (aCons (fC (.int 1)) (aCons (fN 0) (aNil))))))) (hNil))))))) (sRet (fC (.bool false))) (sNx))
    (sRet (fCall gAll (hCons (oE (fLc [2, 3] (iZip' (aCons (fN 1) (aCons (fSl (oN 1) (nSome (oE (fC (.int 1)))) (nNone)) (aNil)))) (gTupT 2 (gsCons (gNm 2) (gsCons (gNm 3) (gsNil)))) (bYes) (fOp gLtZ (oN 2) (oN 3)))) (hNil))))
def m_fits_pick : List S → Rs S := hide (retF b_fits_pick 4)
/-- def need_many(many); slots: 0 many -/
def b_need_many : SF :=
    sIf (fNotB (fTruth (oE (fUser m_fits_whole (aCons (fN 0) (aCons (fC (.int 1)) (aCons (fC (.int 20)) (aNil)))))))) ((fun _ => .no)) (sNx)
def m_need_many : List S → Rs S := hide (retF b_need_many 1)
/-- def need_pick(many, pick); slots: 0 many, 1 pick -/
def b_need_pick : SF :=
    sSeq (sExpr (fUser m_need_many (aCons (fN 0) (aNil))))
    (sIf (fNotB (fTruth (oE (fUser m_fits_pick (aCons (fN 0) (aCons (fN 1) (aNil))))))) ((fun _ => .no)) (sNx))
def m_need_pick : List S → Rs S := hide (retF b_need_pick 2)
/-- def number_in_picks(pick); slots: 0 pick, 1 found, 2 at, 3 one -/
def b_number_in_picks : SF :=
    sSeq (sSet 1 (fC (.int 0)))
    (sSeq (sFor (iEnum' (aCons (fN 0) (aNil))) (gTupT 2 (gsCons (gNm 2) (gsCons (gNm 3) (gsNil)))) (kl [2, 3] (sSet 1 (fOp gSub (oE (fOp gSub (oE (fUser m_choose (aCons (fN 3) (aCons (fOp gAdd (oN 2) (oE (fC (.int 1)))) (aNil))))) (oE (fC (.int 1))))) (oN 1)))))
    (sRet (fM 1)))
def m_number_in_picks : List S → Rs S := hide (retF b_number_in_picks 4)
/-- def number_of_pick(many, pick); slots: 0 many, 1 pick -/
def b_number_of_pick : SF :=
    sSeq (sExpr (fUser m_need_pick (aCons (fN 0) (aCons (fN 1) (aNil)))))
    (sRet (fUser m_number_in_picks (aCons (fN 1) (aNil))))
def m_number_of_pick : List S → Rs S := hide (retF b_number_of_pick 2)
/-- def word_of_pick(many, pick); slots: 0 many, 1 pick, 2 one -/
def b_word_of_pick : SF :=
    sSeq (sExpr (fUser m_need_pick (aCons (fN 0) (aCons (fN 1) (aNil)))))
    (sRet (fCall gTuple (hCons (oE (fLc [2] (iRange3 (hCons (oN 0) (hCons (oE (fC (.int 0))) (hCons (oE (fNeg (oE (fC (.int 1))))) (hNil))))) (gNm 2) (bYes) (fCall gInt (hCons (oE (fOp gIn (oN 2) (oN 1))) (hNil))))) (hNil))))
def m_word_of_pick : List S → Rs S := hide (retF b_word_of_pick 3)
/-- def pick_of_word(word); slots: 0 word, 1 at, 2 sign -/
def b_pick_of_word : SF :=
    sSeq (sIf (fNotB (fTruth (oE (fUser m_fits_word (aCons (fN 0) (aNil)))))) ((fun _ => .no)) (sNx))
    (sRet (fCall gTuple (hCons (oE (fLc [1, 2] (iEnum' (aCons (fRev (oN 0)) (aNil))) (gTupT 2 (gsCons (gNm 1) (gsCons (gNm 2) (gsNil)))) (bOf (fOp gEq (oN 2) (oE (fC (.int 1))))) (fOp gAdd (oN 1) (oE (fC (.int 1)))))) (hNil))))
def m_pick_of_word : List S → Rs S := hide (retF b_pick_of_word 3)
/-- def _law_cup(script); slots: 0 script, 1 cell -/
def b__law_cup : SF :=
    sSeq (sSet 1 (fCall gAbs (hCons (oE (fOp gIx (oE (fOp gAdd (oE (fListZ 0)) (oE (fLst (aCons (fC (.int 0)) (aNil)))))) (oE (fC (.int 0))))) (hNil))))
    (sRet (fLst (aCons (fIf (bOf (fOp gGe (oN 1) (oE (fOp gPow (oE (fC (.int 10))) (oE (fC (.int 18))))))) (fOp gDiv (oN 1) (oE (fC (.int 197)))) (fC (.int 0))) (aCons (fOp gAdd (oE (fOp gMod (oE (fCall gInt (hCons (oE (fOp gAdd (oE (fOp gMul (oN 1) (oE (fC (.int 711))))) (oE (fC (.int 7323))))) (hNil)))) (oE (fC (.int 2077501423))))) (oE (fC (.int 367)))) (aNil)))))
def m__law_cup : List S → Rs S := hide (retF b__law_cup 2)
/-- def _law_roll(cup, many); slots: 0 cup, 1 many, 2 found, 3 deep -/
def b__law_roll : SF :=
    sSeq (sIf (bOf (fOp gGt (oE (fOp gIx (oN 0) (oE (fC (.int 0))))) (oE (fC (.int 0))))) (sSeq (sSet 2 (fOp gMod (oE (fCall gInt (hCons (oE (fOp gIx (oN 0) (oE (fC (.int 0))))) (hNil)))) (oN 1)))
    (sSeq (sSetIx 0 (fOp gDiv (oE (fOp gIx (oN 0) (oE (fC (.int 0))))) (oN 1)) (oE (fC (.int 0))))
    (sRet (fM 2)))) (sNx))
    (sSeq (sSetIx 0 (fOp gMod (oE (fCall gInt (hCons (oE (fOp gAdd (oE (fOp gMul (oE (fOp gIx (oN 0) (oE (fC (.int 1))))) (oE (fC (.int 33353))))) (oE (fC (.int 8191))))) (hNil)))) (oE (fC (.int 2147483423)))) (oE (fC (.int 1))))
    (sSeq (sSet 3 (fOp gMod (oE (fCall gInt (hCons (oE (fOp gMul (oE (fOp gIx (oN 0) (oE (fC (.int 1))))) (oE (fOp gAdd (oE (fOp gIx (oN 0) (oE (fC (.int 1))))) (oE (fC (.int 489))))))) (hNil)))) (oE (fC (.int 2147483587)))))
    (sRet (fOp gMod (oE (fCall gInt (hCons (oE (fOp gDiv (oN 3) (oE (fC (.int 997))))) (hNil)))) (oN 1)))))
def m__law_roll : Int → Int → List S → Rs (S × Int × Int) := hide (retC b__law_roll 4)
/-- def _law_same(told, due); slots: 0 told, 1 due, 2 at; it calls itself (me) -/
def b__law_same (me : List S → Rs S) : SF :=
    sSeq (sIf (fOrB (fTruth (oE (fIsi "tuple" (oN 1)))) (fTruth (oE (fIsi "list" (oN 1))))) (sSeq (sIf (fOrB (bOf (fOp gNe (oE (fIsi "tuple" (oN 0))) (oE (fIsi "tuple" (oN 1))))) (fOrB (bOf (fOp gNe (oE (fIsi "list" (oN 0))) (oE (fIsi "list" (oN 1))))) (bOf (fOp gNe (oE (fCall gLen (hCons (oN 0) (hNil)))) (oE (fCall gLen (hCons (oN 1) (hNil)))))))) (sRet (fC (.bool false))) (sNx))
    (sRet (fOp gEq (oE (fLc [2] (iRange1 (hCons (oE (fCall gLen (hCons (oN 1) (hNil)))) (hNil))) (gNm 2) (fNotB (fTruth (oE (fUser me (aCons (fOp gIx (oN 0) (oN 2)) (aCons (fOp gIx (oN 1) (oN 2)) (aNil))))))) (fC (.int 1)))) (oE (fLst (aNil)))))) (sNx))
    (sSeq (sIf (bOf (fOp gIs (oN 1) (oE (fC .none)))) (sRet (fOp gIs (oN 0) (oE (fC .none)))) (sNx))
    (sSeq (sIf (fTruth (oE (fIsi "bool" (oN 1)))) (sRet (fIf (fTruth (oN 1)) (fOp gIs (oN 0) (oE (fC (.bool true)))) (fOp gIs (oN 0) (oE (fC (.bool false)))))) (sNx))
    (sSeq (sIf (fTruth (oE (fIsi "int" (oN 1)))) (sRet (fAndV (fIsi "int" (oN 0)) (fAndV (fNotV (oE (fIsi "bool" (oN 0)))) (fOp gEq (oE (fCall gInt (hCons (oN 0) (hNil)))) (oN 1))))) (sNx))
    (sRet (fAndV (fIsi "str" (oN 0)) (fOp gEq (oE (fCall gStr (hCons (oN 0) (hNil)))) (oN 1)))))))
def r__law_same : Nat → List S → Rs S
  | 0 => fun _ => .no
  | n + 1 => retF (b__law_same (r__law_same n)) 3
def m__law_same : List S → Rs S := hide (r__law_same 40)
/-- def _law_twos(many); slots: 0 many, 1 found, 2 turn -/
def b__law_twos : SF :=
    sSeq (sSet 1 (fC (.int 1)))
    (sSeq (sFor (iRange1 (hCons (oN 0) (hNil))) (gNm 2) (sSet 1 (fOp gMul (oN 1) (oE (fC (.int 2))))))
    (sRet (fM 1)))
def m__law_twos : List S → Rs S := hide (retF b__law_twos 3)
/-- def _law_number(word); slots: 0 word, 1 found, 2 at -/
def b__law_number : SF :=
    sSeq (sSet 1 (fC (.int 0)))
    (sSeq (sFor (iRange3 (hCons (oE (fOp gSub (oE (fCall gLen (hCons (oN 0) (hNil)))) (oE (fC (.int 1))))) (hCons (oE (fNeg (oE (fC (.int 1))))) (hCons (oE (fNeg (oE (fC (.int 1))))) (hNil))))) (gNm 2) (sIf (bOf (fOp gEq (oE (fOp gIx (oN 0) (oN 2))) (oE (fC (.int 1))))) (sSet 1 (fOp gSub (oE (fOp gSub (oE (fUser m__law_twos (aCons (fOp gSub (oE (fCall gLen (hCons (oN 0) (hNil)))) (oN 2)) (aNil)))) (oE (fC (.int 1))))) (oN 1))) (sNx)))
    (sRet (fM 1)))
def m__law_number : List S → Rs S := hide (retF b__law_number 3)
/-- def _law_reflected(signs); slots: 0 signs, 1 found, 2 turn, 3 word -/
def b__law_reflected : SF :=
    sSeq (sSet 1 (fLst (aCons (fTup (aNil)) (aNil))))
    (sSeq (sFor (iRange1 (hCons (oN 0) (hNil))) (gNm 2) (kl [2] (sSet 1 (fOp gAdd (oE (fLc [3] (iSeq (fN 1)) (gNm 3) (bYes) (fOp gAdd (oE (fTup (aCons (fC (.int 0)) (aNil)))) (oN 3)))) (oE (fLc [3] (iSeq (fRev (oN 1))) (gNm 3) (bYes) (fOp gAdd (oE (fTup (aCons (fC (.int 1)) (aNil)))) (oN 3))))))))
    (sRet (fM 1)))
def m__law_reflected : List S → Rs S := hide (retF b__law_reflected 4)
/-- def _law_choose(many, size); slots: 0 many, 1 size, 2 row, 3 turn, 4 one, 5 other -/
def b__law_choose : SF :=
    sSeq (sSet 2 (fLst (aCons (fC (.int 1)) (aNil))))
    (sSeq (sFor (iRange1 (hCons (oN 0) (hNil))) (gNm 3) (kl [3] (sSet 2 (fOp gAdd (oE (fOp gAdd (oE (fLst (aCons (fC (.int 1)) (aNil)))) (oE (fLc [4, 5] (iZip' (aCons (fN 2) (aCons (fSl (oN 2) (nSome (oE (fC (.int 1)))) (nNone)) (aNil)))) (gTupT 2 (gsCons (gNm 4) (gsCons (gNm 5) (gsNil)))) (bYes) (fOp gAdd (oN 4) (oN 5)))))) (oE (fLst (aCons (fC (.int 1)) (aNil))))))))
    (sRet (fIf (bOf (fOp gLe (oN 1) (oN 0))) (fOp gIx (oN 2) (oN 1)) (fC (.int 0)))))
def m__law_choose : List S → Rs S := hide (retF b__law_choose 6)
/-- def _law_pick(cup, many); slots: 0 cup, 1 many, 2 way, 3 one -/
def b__law_pick : SF :=
    sSeq (sSet 2 (fUserC m__law_roll 0 (aCons (fC (.int 4)) (aNil))))
    (sRet (fCall gTuple (hCons (oE (fLc [3] (iRange2 (hCons (oE (fC (.int 1))) (hCons (oE (fOp gAdd (oN 1) (oE (fC (.int 1))))) (hNil)))) (gNm 3) (fOrB (bOf (fOp gEq (oN 2) (oE (fC (.int 1))))) (fAndB (bOf (fOp gGt (oN 2) (oE (fC (.int 1))))) (bOf (fOp gGt (oE (fUserC m__law_roll 0 (aCons (fN 2) (aNil)))) (oE (fC (.int 0))))))) (fN 3))) (hNil))))
def m__law_pick : Int → Int → List S → Rs (S × Int × Int) := hide (retC b__law_pick 4)
/-- def _law_sized(cup, many, size); slots: 0 cup, 1 many, 2 size, 3 left -/
def b__law_sized : SF :=
    sSeq (sSet 3 (fRg2 false (oE (fC (.int 1))) (oE (fOp gAdd (oN 1) (oE (fC (.int 1)))))))
    (sSeq (whileL (bOf (fOp gGt (oE (fCall gLen (hCons (oN 3) (hNil)))) (oN 2))) (sExpr (fPopI 3 (fUserC m__law_roll 0 (aCons (fCall gLen (hCons (oN 3) (hNil))) (aNil))))) LIM)
    (sRet (fCall gTuple (hCons (oN 3) (hNil)))))
def m__law_sized : Int → Int → List S → Rs (S × Int × Int) := hide (retC b__law_sized 4)
/-- def _law_rows_right(); slots:  -/
def b__law_rows_right : SF :=
    sRet (fUser m__law_same (aCons (fUser m_pick_of_word (aCons (fTup (aCons (fC (.int 1)) (aCons (fC (.int 0)) (aNil)))) (aNil))) (aCons (fTup (aCons (fC (.int 2)) (aNil))) (aNil))))
def m__law_rows_right : List S → Rs S := hide (retF b__law_rows_right 0)
/-- def law(script); slots: 0 script, 1 cup, 2 signs, 3 counts, 4 word, 5 pick, 6 due, 7 turn, 8 many, 9 one, 10 other, 11 numbers, 12 told, 13 place, 14 size, 15 item -/
def b_law : SF :=
    sSeq (sCup 1 (fUser m__law_cup (aCons (fN 0) (aNil))))
    (sSeq (sIf (fNotB (fTruth (oE (fUser0 m__law_rows_right)))) (sRet (fC (.bool false))) (sNx))
    (sSeq (sSet 2 (fOp gAdd (oE (fC (.int 1))) (oE (fUserC m__law_roll 1 (aCons (fC (.int 7)) (aNil))))))
    (sSeq (sSet 3 (fDNew false))
    (sSeq (sFor (iSeq (fUser m__law_reflected (aCons (fN 2) (aNil)))) (gNm 4) (kl [4, 6] (sSeq (sSet 5 (fCall gTuple (hCons (oE (fLc [13] (iRange2 (hCons (oE (fC (.int 1))) (hCons (oE (fOp gAdd (oN 2) (oE (fC (.int 1))))) (hNil)))) (gNm 13) (bOf (fOp gEq (oE (fOp gIx (oN 4) (oE (fOp gSub (oN 2) (oN 13))))) (oE (fC (.int 1))))) (fN 13))) (hNil))))
    (sSeq (sSet 6 (fDGet2 3 (oE (fCall gLen (hCons (oN 5) (hNil)))) (fC (.int 0))))
    (sSeq (sIf (fNotB (fTruth (oE (fUser m__law_same (aCons (fTup (aCons (fUser m_pick_of_word (aCons (fN 4) (aNil))) (aCons (fUser m_number_of_pick (aCons (fN 2) (aCons (fN 5) (aNil)))) (aCons (fUser m_word_of_pick (aCons (fN 2) (aCons (fN 5) (aNil)))) (aNil))))) (aCons (fTup (aCons (fN 5) (aCons (fN 6) (aCons (fN 4) (aNil))))) (aNil))))))) (sRet (fC (.bool false))) (sNx))
    (sDPut 3 (oE (fCall gLen (hCons (oN 5) (hNil)))) (fOp gAdd (oN 6) (oE (fC (.int 1))))))))))
    (sSeq (sIf (bOf (fOp gNe (oE (fLc [14] (iRange1 (hCons (oE (fOp gAdd (oN 2) (oE (fC (.int 1))))) (hNil))) (gNm 14) (bOf (fOp gNe (oE (fDGet 3 (oN 14))) (oE (fUser m__law_choose (aCons (fN 2) (aCons (fN 14) (aNil))))))) (fN 14))) (oE (fLst (aNil))))) (sRet (fC (.bool false))) (sNx))
    (sSeq (sFor (iRange1 (hCons (oE (fC (.int 8))) (hNil))) (gNm 7) (kl [7, 8, 9, 10, 11, 12] (sSeq (sSet 8 (fOp gAdd (oE (fC (.int 1))) (oE (fUserC m__law_roll 1 (aCons (fC (.int 16)) (aNil))))))
    (sSeq (sSet 9 (fUserC m__law_pick 1 (aCons (fN 8) (aNil))))
    (sSeq (sSet 10 (fUserC m__law_sized 1 (aCons (fN 8) (aCons (fCall gLen (hCons (oN 9) (hNil))) (aNil)))))
    (sSeq (sSet 11 (fLc [5] (iSeq (fTup (aCons (fN 9) (aCons (fN 10) (aNil))))) (gNm 5) (bYes) (fUser m__law_number (aCons (fCall gTuple (hCons (oE (fLc [15] (iRange3 (hCons (oN 8) (hCons (oE (fC (.int 0))) (hCons (oE (fNeg (oE (fC (.int 1))))) (hNil))))) (gNm 15) (bYes) (fIf (bOf (fOp gIn (oN 15) (oN 5))) (fC (.int 1)) (fC (.int 0))))) (hNil))) (aNil)))))
    (sSeq (sIf (fNotB (fTruth (oE (fUser m__law_same (aCons (fLc [5] (iSeq (fTup (aCons (fN 9) (aCons (fN 10) (aNil))))) (gNm 5) (bYes) (fUser m_number_of (aCons (fUser m_word_of_pick (aCons (fN 8) (aCons (fN 5) (aNil)))) (aNil)))) (aCons (fN 11) (aNil))))))) (sRet (fC (.bool false))) (sNx))
    (sSeq (sSet 12 (fLc [5] (iSeq (fTup (aCons (fN 9) (aCons (fN 10) (aNil))))) (gNm 5) (bYes) (fUser m_number_of_pick (aCons (fN 8) (aCons (fN 5) (aNil))))))
    (sIf (fOrB (bOf (fOp gNe (oE (fOp gLtZ (oE (fOp gIx (oN 12) (oE (fC (.int 0))))) (oE (fOp gIx (oN 12) (oE (fC (.int 1))))))) (oE (fOp gLtZ (oE (fOp gIx (oN 11) (oE (fC (.int 0))))) (oE (fOp gIx (oN 11) (oE (fC (.int 1))))))))) (bOf (fOp gNe (oE (fOp gEq (oE (fOp gIx (oN 12) (oE (fC (.int 0))))) (oE (fOp gIx (oN 12) (oE (fC (.int 1))))))) (oE (fOp gEq (oN 9) (oN 10)))))) (sRet (fC (.bool false))) (sNx))))))))))
    (sRet (fC (.bool true)))))))))
def m_law : List S → Rs S := hide (retF b_law 16)
end
end P
end
section
namespace Z
open PySem PySem.Spec L2
/-! ### how the functions of values compute -/
@[simp] theorem fC_ok (d : D) (ρ : List S) : fC d ρ = .ok (.sh d, ρ) := Eq.trans rfl rfl
@[simp] theorem oN_eq (i : Nat) (ρ : List S) : oN i ρ = (match ρ[i]? with
  | some (.sh _) => .ok (.ix i, ρ)
  | some (.ow _) => .ok (.ix i, ρ)
  | some (.cu _ _) => .ok (.ix i, ρ)
  | _ => .no) := Eq.trans rfl rfl
@[simp] theorem fN_eq (i : Nat) (ρ : List S) : fN i ρ = (match ρ[i]? with
  | some (.sh d) => .ok (.sh d, ρ)
  | some (.ow d) => .ok (.sh d, ρ.set i (.sh d))
  | some (.fz ns) => .ok (.fz ns, ρ)
  | some (.sd t) => .ok (.sd t, ρ)
  | some (.od t) => .ok (.sd t, ρ.set i (.sd t))
  | _ => .no) := Eq.trans rfl rfl
@[simp] theorem fM_eq (i : Nat) (ρ : List S) : fM i ρ = (match ρ[i]? with
  | some (.sh d) => .ok (.sh d, ρ)
  | some (.ow d) => .ok (.ow d, ρ.set i .u)
  | some (.sd t) => .ok (.sd t, ρ)
  | some (.od t) => .ok (.od t, ρ.set i .u)
  | _ => .no) := Eq.trans rfl rfl
@[simp] theorem look_dt (d : D) (ρ : List S) : look (.dt d) ρ = some d := Eq.trans rfl rfl
@[simp] theorem look_ix (i : Nat) (ρ : List S) : look (.ix i) ρ = (match ρ[i]? with
    | some (.sh d) => some d
    | some (.ow d) => some d
    | some (.cu x y) => some (.list [.int x, .int y])
    | _ => none) := Eq.trans rfl rfl
@[simp] theorem oE_eq (f : EF) (ρ : List S) : oE f ρ = (f ρ >>= fun p => match p.1 with
  | .sh d => .ok (.dt d, p.2)
  | .ow d => .ok (.dt d, p.2)
  | _ => .no) := Eq.trans rfl rfl
@[simp] theorem fOp_eq (g : D → D → Option S) (fa fb : OF) (ρ : List S) : fOp g fa fb ρ = (fa ρ >>= fun p => fb p.2 >>= fun q => Rs.of (look p.1 q.2) >>= fun d1 => Rs.of (look q.1 q.2) >>= fun d2 => Rs.of (g d1 d2) >>= fun r => .ok (r, q.2)) := Eq.trans rfl rfl
@[simp] theorem bOf_eq (f : EF) (ρ : List S) : bOf f ρ = (f ρ >>= fun p => match p.1 with
  | .sh (.bool b) => .ok (b, p.2)
  | _ => .no) := Eq.trans rfl rfl
def ifB {β : Type} (r : S) (x y : Rs β) : Rs β := match r with
  | .sh (.bool true) => x
  | .sh (.bool false) => y
  | _ => .no
@[simp] theorem ifB_bool {β : Type} (b : Bool) (x y : Rs β) : ifB (.sh (.bool b)) x y = if b = true then x else y := by cases b <;> rfl
@[simp] theorem fChain_eq (g g' : D → D → Option S) (fa fb fc : OF) (ρ : List S) : fChain g g' fa fb fc ρ = (fa ρ >>= fun p => fb p.2 >>= fun q => Rs.of (look p.1 q.2) >>= fun d1 => Rs.of (look q.1 q.2) >>= fun d2 => Rs.of (g d1 d2) >>= fun r =>
  ifB r (fc q.2 >>= fun t => Rs.of (look q.1 t.2) >>= fun d2 => Rs.of (look t.1 t.2) >>= fun d3 => Rs.of (g' d2 d3) >>= fun r => .ok (r, t.2)) (.ok (.sh (.bool false), q.2))) := Eq.trans rfl rfl
@[simp] theorem fTruth_eq (f : OF) (ρ : List S) : fTruth f ρ = (f ρ >>= fun p => Rs.of (look p.1 p.2) >>= fun d => Rs.of (truth d) >>= fun b => .ok (b, p.2)) := Eq.trans rfl rfl
@[simp] theorem fNotB_eq (f : BF) (ρ : List S) : fNotB f ρ = (f ρ >>= fun p => .ok (!p.1, p.2)) := Eq.trans rfl rfl
@[simp] theorem fAndB_eq (f g : BF) (ρ : List S) : fAndB f g ρ = (f ρ >>= fun p => if p.1 = true then g p.2 else .ok (false, p.2)) := Eq.trans rfl rfl
@[simp] theorem fOrB_eq (f g : BF) (ρ : List S) : fOrB f g ρ = (f ρ >>= fun p => if p.1 = true then .ok (true, p.2) else g p.2) := Eq.trans rfl rfl
@[simp] theorem fIf_eq (c : BF) (f g : EF) (ρ : List S) : fIf c f g ρ = (c ρ >>= fun p => if p.1 = true then f p.2 else g p.2) := Eq.trans rfl rfl
@[simp] theorem fIfO_eq (c : BF) (f g : OF) (ρ : List S) : fIfO c f g ρ = (c ρ >>= fun p => if p.1 = true then f p.2 else g p.2) := Eq.trans rfl rfl
@[simp] theorem fNotV_eq (f : OF) (ρ : List S) : fNotV f ρ = (f ρ >>= fun p => Rs.of (look p.1 p.2) >>= fun d => Rs.of (truth d) >>= fun b => .ok (.sh (.bool (!b)), p.2)) := Eq.trans rfl rfl
@[simp] theorem fAndV_eq (f g : EF) (ρ : List S) : fAndV f g ρ = (f ρ >>= fun p => match p.1 with
  | .sh d => Rs.of (truth d) >>= fun b => if b = true then g p.2 else .ok (.sh d, p.2)
  | _ => .no) := Eq.trans rfl rfl
@[simp] theorem fOrV_eq (f g : EF) (ρ : List S) : fOrV f g ρ = (f ρ >>= fun p => match p.1 with
  | .sh d => Rs.of (truth d) >>= fun b => if b = true then .ok (.sh d, p.2) else g p.2
  | _ => .no) := Eq.trans rfl rfl
@[simp] theorem fNeg_eq (f : OF) (ρ : List S) : fNeg f ρ = (f ρ >>= fun p => Rs.of (look p.1 p.2) >>= fun d => match d with
  | .int i => .ok (.sh (.int (-i)), p.2)
  | _ => .no) := Eq.trans rfl rfl
@[simp] theorem aNil_eq (ρ : List S) : aNil ρ = .ok ([], ρ) := Eq.trans rfl rfl
@[simp] theorem aCons_eq (f : EF) (g : AF) (ρ : List S) : aCons f g ρ = (f ρ >>= fun p => match p.1 with
  | .sh d => g p.2 >>= fun q => .ok (.sh d :: q.1, q.2)
  | .ow d => g p.2 >>= fun q => .ok (.sh d :: q.1, q.2)
  | .fz ns => g p.2 >>= fun q => .ok (.fz ns :: q.1, q.2)
  | .sd t => g p.2 >>= fun q => .ok (.sd t :: q.1, q.2)
  | .od t => g p.2 >>= fun q => .ok (.sd t :: q.1, q.2)
  | _ => .no) := Eq.trans rfl rfl
@[simp] theorem hNil_eq (ρ : List S) : hNil ρ = .ok ([], ρ) := Eq.trans rfl rfl
@[simp] theorem hCons_eq (f : OF) (g : HF) (ρ : List S) : hCons f g ρ = (f ρ >>= fun p => g p.2 >>= fun q => .ok (p.1 :: q.1, q.2)) := Eq.trans rfl rfl
@[simp] theorem looks_nil (ρ : List S) : looks [] ρ = some [] := Eq.trans rfl rfl
@[simp] theorem looks_cons (h : Hd) (hs : List Hd) (ρ : List S) : looks (h :: hs) ρ = (match look h ρ, looks hs ρ with
    | some d, some ds => some (d :: ds)
    | _, _ => none) := Eq.trans rfl rfl
@[simp] theorem shs_nil : shs [] = some [] := Eq.trans rfl rfl
@[simp] theorem shs_cons (d : D) (r : List S) : shs (.sh d :: r) = (shs r).map (d :: ·) := Eq.trans rfl rfl
@[simp] theorem fTup_eq (f : AF) (ρ : List S) : fTup f ρ = (f ρ >>= fun p => Rs.of (shs p.1) >>= fun ds => if ds.length ≤ 16777216 then .ok (.sh (.tuple ds), p.2) else .no) := Eq.trans rfl rfl
@[simp] theorem fLst_eq (f : AF) (ρ : List S) : fLst f ρ = (f ρ >>= fun p => Rs.of (shs p.1) >>= fun ds => if ds.length ≤ 16777216 then .ok (.ow (.list ds), p.2) else .no) := Eq.trans rfl rfl
@[simp] theorem nNone_eq (ρ : List S) : nNone ρ = .ok (none, ρ) := Eq.trans rfl rfl
@[simp] theorem nSome_eq (f : OF) (ρ : List S) : nSome f ρ = (f ρ >>= fun p => Rs.of (look p.1 p.2) >>= fun d => match d with
  | .int i => .ok (some i, p.2)
  | _ => .no) := Eq.trans rfl rfl
@[simp] theorem fSl_eq (f : OF) (l u : NF) (ρ : List S) : fSl f l u ρ = (f ρ >>= fun p => l p.2 >>= fun q => u q.2 >>= fun t => Rs.of (look p.1 t.2) >>= fun d => Rs.of (gSl d q.1 t.1) >>= fun r => .ok (r, t.2)) := Eq.trans rfl rfl
@[simp] theorem fCall_eq (g : List D → Option S) (f : HF) (ρ : List S) : fCall g f ρ = (f ρ >>= fun p => Rs.of (looks p.1 p.2) >>= fun ds => Rs.of (g ds) >>= fun r => .ok (r, p.2)) := Eq.trans rfl rfl
@[simp] theorem fListZ_eq (i : Nat) (ρ : List S) : fListZ i ρ = (match ρ[i]? with
  | some (.fz ns) => .ok (.ow (.list (ns.map PyData.int)), ρ)
  | _ => .no) := Eq.trans rfl rfl
@[simp] theorem fIsi_eq (T : String) (f : OF) (ρ : List S) : fIsi T f ρ = (f ρ >>= fun p => Rs.of (look p.1 p.2) >>= fun d => .ok (.sh (.bool (isTy T d)), p.2)) := Eq.trans rfl rfl
def noc : S → Bool
  | .cu _ _ => false
  | _ => true
@[simp] theorem noc_u : noc .u = true := Eq.trans rfl rfl
@[simp] theorem noc_sh (d : D) : noc (.sh d) = true := Eq.trans rfl rfl
@[simp] theorem noc_ow (d : D) : noc (.ow d) = true := Eq.trans rfl rfl
@[simp] theorem noc_fz (ns : List Int) : noc (.fz ns) = true := Eq.trans rfl rfl
@[simp] theorem noc_cu (x y : Int) : noc (.cu x y) = false := Eq.trans rfl rfl
@[simp] theorem setS_eq (i : Nat) (s : S) (ρ : List S) : setS i s ρ = (match ρ[i]? with
  | some q => if noc q = true then some (ρ.set i s) else none
  | none => none) := by
  unfold setS
  cases h : ρ[i]? with
  | none => rfl
  | some q => cases q <;> rfl
@[simp] theorem gNm_eq (i : Nat) (d : D) (ρ : List S) : gNm i d ρ = setS i (.sh d) ρ := Eq.trans rfl rfl
@[simp] theorem gsNil_eq (ρ : List S) : gsNil [] ρ = some ρ := Eq.trans rfl rfl
@[simp] theorem gsCons_eq (g : GF) (gs : List D → List S → Option (List S)) (d : D) (r : List D) (ρ : List S) : gsCons g gs (d :: r) ρ = (g d ρ).bind (gs r) := Eq.trans rfl rfl
@[simp] theorem gTupT_eq (n : Nat) (gs : List D → List S → Option (List S)) (ds : List D) (ρ : List S) : gTupT n gs (.tuple ds) ρ = if ds.length = n then gs ds ρ else none := Eq.trans rfl rfl
@[simp] theorem gTupL_eq (n : Nat) (gs : List D → List S → Option (List S)) (ds : List D) (ρ : List S) : gTupT n gs (.list ds) ρ = if ds.length = n then gs ds ρ else none := Eq.trans rfl rfl
@[simp] theorem sNx_eq (ρ : List S) : sNx ρ = .ok (.nx, ρ) := Eq.trans rfl rfl
@[simp] theorem sSeq_eq (g u : SF) (ρ : List S) : sSeq g u ρ = (g ρ >>= fun p => match p.1 with
  | .nx => u p.2
  | o => .ok (o, p.2)) := Eq.trans rfl rfl
@[simp] theorem sExpr_eq (f : EF) (ρ : List S) : sExpr f ρ = (f ρ >>= fun p => match p.1 with
  | .sh _ => .ok (.nx, p.2)
  | .ow _ => .ok (.nx, p.2)
  | _ => .no) := Eq.trans rfl rfl
@[simp] theorem sSet_eq (i : Nat) (f : EF) (ρ : List S) : sSet i f ρ = (f ρ >>= fun p => match p.1 with
  | .sh d => Rs.of (setS i (.sh d) p.2) >>= fun ρ' => .ok (.nx, ρ')
  | .ow d => Rs.of (setS i (.ow d) p.2) >>= fun ρ' => .ok (.nx, ρ')
  | .sd d => Rs.of (setS i (.sd d) p.2) >>= fun ρ' => .ok (.nx, ρ')
  | .od d => Rs.of (setS i (.od d) p.2) >>= fun ρ' => .ok (.nx, ρ')
  | _ => .no) := Eq.trans rfl rfl
@[simp] theorem sAsg_eq (t : GF) (f : EF) (ρ : List S) : sAsg t f ρ = (f ρ >>= fun p => match p.1 with
  | .sh d => Rs.of (t d p.2) >>= fun ρ' => .ok (.nx, ρ')
  | .ow d => Rs.of (t d p.2) >>= fun ρ' => .ok (.nx, ρ')
  | _ => .no) := Eq.trans rfl rfl
@[simp] theorem sPar_eq (i j : Nat) (fA : AF) (ρ : List S) : sPar i j fA ρ = (fA ρ >>= fun p => match p.1 with
  | [.sh d, .sh d'] => Rs.of ((setS i (.sh d) p.2).bind (setS j (.sh d'))) >>= fun ρ' => .ok (.nx, ρ')
  | _ => .no) := Eq.trans rfl rfl
@[simp] theorem fLc2_eq (vs vs1 : List Nat) (fi : IF) (t : GF) (c : BF) (fi1 : IF) (t1 : GF) (c1 : BF) (f : EF) (ρ : List S) : fLc2 vs vs1 fi t c fi1 t1 c1 f ρ = (fi ρ >>= fun p => if clean vs p.2 then Rs.of (lcL2 vs vs1 t c fi1 t1 c1 f p.1 (wipeS p.2 vs) []) >>= fun q => .ok (.ow (.list q.1), restS p.2 q.2 vs) else .no) := Eq.trans rfl rfl
@[simp] theorem remS_eq (i : Nat) (k : Int) (ρ : List S) : remS i k ρ = (match ρ[i]? with
  | some (.ow (.list ds)) => match intL ds with
    | some ns => if ns.idxOf k < ns.length then .ok (.sh .none, ρ.set i (.ow (.list ((ns.eraseIdx (ns.idxOf k)).map PyData.int)))) else .no
    | none => .no
  | _ => .no) := Eq.trans rfl rfl
@[simp] theorem fRem_eq (i : Nat) (f : EF) (ρ : List S) : fRem i f ρ = (match ρ[i]? with
  | some (.ow (.list _)) => f ρ >>= fun p => match p.1 with
    | .sh (.int k) => remS i k p.2
    | _ => .no
  | _ => .no) := Eq.trans rfl rfl
@[simp] theorem isLst_list (ds : List D) : isLst (.list ds) = true := Eq.trans rfl rfl
@[simp] theorem fIdx_eq (fa : OF) (f : EF) (ρ : List S) : fIdx fa f ρ = (fa ρ >>= fun p => Rs.of (look p.1 p.2) >>= fun d0 => if isLst d0 = true then f p.2 >>= fun q => match q.1 with
    | .sh (.int k) => Rs.of (look p.1 q.2) >>= fun d => Rs.of (gIdx k d) >>= fun r => .ok (r, q.2)
    | _ => .no
  else .no) := Eq.trans rfl rfl
@[simp] theorem parO_eq (i j : Nat) (d d' : D) (ρ : List S) : parO i j d d' ρ = (Rs.of ((setS j (.sh d') ρ).bind (setS i (.ow d))) >>= fun ρ' => .ok (.nx, ρ')) := Eq.trans rfl rfl
@[simp] theorem sParO_eq (i j : Nat) (f1 f2 : EF) (ρ : List S) : sParO i j f1 f2 ρ = (f1 ρ >>= fun p => match p.1 with
  | .ow d => f2 p.2 >>= fun q => match q.1 with
    | .sh d' => parO i j d d' q.2
    | .ow d' => parO i j d d' q.2
    | _ => .no
  | _ => .no) := Eq.trans rfl rfl
@[simp] theorem popS_eq (i : Nat) (k : Int) (ρ : List S) : popS i k ρ = (match ρ[i]? with
  | some (.ow (.list ds)) => if k.natAbs < 4611686018427387904 then (match ixN ds.length k with
    | some j => match ds[j]? with
      | some d => .ok (.sh d, ρ.set i (.ow (.list (ds.eraseIdx j))))
      | none => .no
    | none => .no) else .no
  | _ => .no) := Eq.trans rfl rfl
@[simp] theorem fPopI_eq (i : Nat) (f : EF) (ρ : List S) : fPopI i f ρ = (match ρ[i]? with
  | some (.ow (.list _)) => f ρ >>= fun p => match p.1 with
    | .sh (.int k) => popS i k p.2
    | _ => .no
  | _ => .no) := Eq.trans rfl rfl
@[simp] theorem fStp_eq (f : OF) (l u c : NF) (ρ : List S) : fStp f l u c ρ = (f ρ >>= fun p => l p.2 >>= fun q => u q.2 >>= fun t => c t.2 >>= fun k => Rs.of (look p.1 k.2) >>= fun d => Rs.of (gStp d q.1 t.1 k.1) >>= fun r => .ok (r, k.2)) := Eq.trans rfl rfl
@[simp] theorem sPar3_eq (i j l : Nat) (fA : AF) (ρ : List S) : sPar3 i j l fA ρ = (fA ρ >>= fun p => match p.1 with
  | [.sh d, .sh d', .sh d''] => Rs.of (((setS i (.sh d) p.2).bind (setS j (.sh d'))).bind (setS l (.sh d''))) >>= fun ρ' => .ok (.nx, ρ')
  | _ => .no) := Eq.trans rfl rfl
@[simp] theorem sRet_eq (f : EF) (ρ : List S) : sRet f ρ = (f ρ >>= fun p => .ok (.rt p.1, p.2)) := Eq.trans rfl rfl
@[simp] theorem sIf_eq (c : BF) (g u : SF) (ρ : List S) : sIf c g u ρ = (c ρ >>= fun p => if p.1 = true then g p.2 else u p.2) := Eq.trans rfl rfl
@[simp] theorem sFor_eq (fi : IF) (t : GF) (b : SF) (ρ : List S) : sFor fi t b ρ = (fi ρ >>= fun p => forL t b p.1 p.2) := Eq.trans rfl rfl
@[simp] theorem iSeq_eq (f : EF) (ρ : List S) : iSeq f ρ = (f ρ >>= fun p => match p.1 with
  | .sh (.list ds) => .ok (ds, p.2)
  | .ow (.list ds) => .ok (ds, p.2)
  | .sh (.tuple ds) => .ok (ds, p.2)
  | .sh (.str z) => .ok (chars z, p.2)
  | _ => .no) := Eq.trans rfl rfl
@[simp] theorem iRange1_eq (fH : HF) (ρ : List S) : iRange1 fH ρ = (fH ρ >>= fun p => Rs.of (looks p.1 p.2) >>= fun ds => match ds with
  | [.int j] => if bnd j then .ok (rangeD 0 1 j.toNat, p.2) else .no
  | _ => .no) := Eq.trans rfl rfl
@[simp] theorem iRange2_eq (fH : HF) (ρ : List S) : iRange2 fH ρ = (fH ρ >>= fun p => Rs.of (looks p.1 p.2) >>= fun ds => match ds with
  | [.int i, .int j] => if bnd i ∧ bnd j then .ok (rangeD i 1 (j - i).toNat, p.2) else .no
  | _ => .no) := Eq.trans rfl rfl
@[simp] theorem iEnum_eq (fA : AF) (ρ : List S) : iEnum' fA ρ = (fA ρ >>= fun p => match p.1 with
  | [.sh (.list ds)] => .ok (enumD ds, p.2)
  | [.sh (.tuple ds)] => .ok (enumD ds, p.2)
  | _ => .no) := Eq.trans rfl rfl
@[simp] theorem iZip_eq (fA : AF) (ρ : List S) : iZip' fA ρ = (fA ρ >>= fun p => match p.1 with
  | [.sh (.list ds), .sh (.list es)] => .ok (zipD ds es, p.2)
  | [.sh (.tuple ds), .sh (.tuple es)] => .ok (zipD ds es, p.2)
  | _ => .no) := Eq.trans rfl rfl
@[simp] theorem fLc_eq (vs : List Nat) (fi : IF) (t : GF) (c : BF) (f : EF) (ρ : List S) : fLc vs fi t c f ρ = (fi ρ >>= fun p => if clean vs p.2 then Rs.of (lcL vs t c f p.1 (wipeS p.2 vs) []) >>= fun q => .ok (.ow (.list q.1), restS p.2 q.2 vs) else .no) := Eq.trans rfl rfl
@[simp] theorem bYes_eq (ρ : List S) : bYes ρ = .ok (true, ρ) := Eq.trans rfl rfl
@[simp] theorem fUser_eq (mf : List S → Rs S) (fA : AF) (ρ : List S) : fUser mf fA ρ = (fA ρ >>= fun p => match mf p.1 with
  | .ok r => .ok (r, p.2)
  | .ex _ c fs => .ex p.2 c fs
  | .no => .no) := Eq.trans rfl rfl
@[simp] theorem fUser0_eq (mf : List S → Rs S) (ρ : List S) : fUser0 mf ρ = (match mf [] with
  | .ok r => .ok (r, ρ)
  | _ => .no) := Eq.trans rfl rfl
@[simp] theorem fUserC_eq (mf : Int → Int → List S → Rs (S × Int × Int)) (i : Nat) (fA : AF) (ρ : List S) : fUserC mf i fA ρ = (match ρ[i]? with
  | some (.cu _ _) => fA ρ >>= fun p => (match p.2[i]? with
    | some (.cu x y) => (match mf x y p.1 with
      | .ok (r, x', y') => .ok (r, p.2.set i (.cu x' y'))
      | _ => .no)
    | _ => .no)
  | _ => .no) := Eq.trans rfl rfl
@[simp] theorem fAppend_eq (i : Nat) (f : EF) (ρ : List S) : fAppend i f ρ = (match ρ[i]? with
  | some (.ow (.list _)) => f ρ >>= fun p => match p.1 with
    | .sh d => appS i d p.2
    | .ow d => appS i d p.2
    | _ => .no
  | _ => .no) := Eq.trans rfl rfl
@[simp] theorem appS_eq (i : Nat) (d : D) (ρ : List S) : appS i d ρ = (match ρ[i]? with
  | some (.ow (.list ds)) => if ds.length < 16777216 then .ok (.sh .none, ρ.set i (.ow (.list (ds ++ [d])))) else .no
  | _ => .no) := Eq.trans rfl rfl
@[simp] theorem sSetIx_eq (i : Nat) (f : EF) (fi : OF) (ρ : List S) : sSetIx i f fi ρ = (f ρ >>= fun p => match p.1 with
  | .sh d => if isOwn i p.2 = true then fi p.2 >>= fun q => Rs.of (look q.1 q.2) >>= fun k => putIx i d k q.2 else .no
  | _ => .no) := Eq.trans rfl rfl
@[simp] theorem isOwn_eq (i : Nat) (ρ : List S) : isOwn i ρ = (match ρ[i]? with
  | some (.ow _) => true
  | some (.cu _ _) => true
  | _ => false) := Eq.trans rfl rfl
@[simp] theorem putIx_eq (i : Nat) (d k : D) (ρ : List S) : putIx i d k ρ = (match ρ[i]? with
  | some (.ow (.list ds)) => (match k with
    | .int k => Rs.of (ixN ds.length k) >>= fun j => .ok (.nx, ρ.set i (.ow (.list (ds.set j d))))
    | _ => .no)
  | some (.cu x y) => (match d, k with
    | .int z, .int k => if k = 0 then .ok (.nx, ρ.set i (.cu z y)) else if k = 1 then .ok (.nx, ρ.set i (.cu x z)) else .no
    | _, _ => .no)
  | _ => .no) := Eq.trans rfl rfl
@[simp] theorem sCup_eq (i : Nat) (f : EF) (ρ : List S) : sCup i f ρ = (f ρ >>= fun p => Rs.of (cupOf p.1) >>= fun c => Rs.of (setS i (.cu c.1 c.2) p.2) >>= fun ρ' => .ok (.nx, ρ')) := Eq.trans rfl rfl
@[simp] theorem bind_ite {α β : Type} (c : Prop) [Decidable c] (a b : Rs α) (f : α → Rs β) : ((if c then a else b) >>= f) = if c then a >>= f else b >>= f := by split <;> rfl
theorem sSeq_nx {g u : SF} {ρ ρ1 : List S} (h : g ρ = .ok (.nx, ρ1)) : sSeq g u ρ = u ρ1 := by unfold sSeq; rw [h]; rfl
theorem sSeq_rt {g u : SF} {ρ ρ1 : List S} {r : S} (h : g ρ = .ok (.rt r, ρ1)) : sSeq g u ρ = .ok (.rt r, ρ1) := by unfold sSeq; rw [h]; rfl
/-- the walks: state by state -/
theorem forL_ex {t : GF} {b : SF} (P : Nat → List S → Prop) : ∀ (ds : List D) (k : Nat) (ρ : List S), P k ρ → (∀ i d ρ, ds[i]? = some d → P (k + i) ρ → ∃ ρ1 ρ2, t d ρ = some ρ1 ∧ b ρ1 = .ok (.nx, ρ2) ∧ P (k + i + 1) ρ2) → ∃ ρ', forL t b ds ρ = .ok (.nx, ρ') ∧ P (k + ds.length) ρ'
  | [], k, ρ, h0, _ => ⟨ρ, rfl, h0⟩
  | d :: ds, k, ρ, h0, h => by
    obtain ⟨ρ1, ρ2, e1, e2, h2⟩ := h 0 d ρ rfl h0
    obtain ⟨ρ', e3, h3⟩ := forL_ex P ds (k + 1) ρ2 h2 fun i d' ρ' hd hp => by
      have := h (i + 1) d' ρ' (by simpa using hd) (by rw [show k + (i + 1) = k + 1 + i by omega]; exact hp)
      rw [show k + (i + 1) + 1 = k + 1 + i + 1 by omega] at this
      exact this
    refine ⟨ρ', ?_, by rw [List.length_cons, show k + (ds.length + 1) = k + 1 + ds.length by omega]; exact h3⟩
    unfold forL
    rw [e1]
    simp only [Rs.of_some, Rs.bind_ok, e2]
    exact e3
theorem forL_st {t : GF} {b : SF} (st : Nat → List S) (ds : List D) (h : ∀ i d, ds[i]? = some d → ∃ ρ1, t d (st i) = some ρ1 ∧ b ρ1 = .ok (.nx, st (i + 1))) : forL t b ds (st 0) = .ok (.nx, st ds.length) := by
  obtain ⟨ρ', e, h2⟩ := forL_ex (t := t) (b := b) (fun i ρ => ρ = st i) ds 0 (st 0) rfl fun i d ρ hd hp => by
    subst hp
    obtain ⟨ρ1, e1, e2⟩ := h i d hd
    rw [Nat.zero_add]
    exact ⟨ρ1, _, e1, e2, rfl⟩
  rw [e, h2, Nat.zero_add]
/-- comprehensions without a test -/
theorem lcL_map {vs : List Nat} {t : GF} {f : EF} (g : D → D) (ρ : List S) : ∀ (ds acc : List D), acc.length + ds.length ≤ 16777216 → (∀ d ∈ ds, ∃ ρ1 ρ2 r, t d ρ = some ρ1 ∧ f ρ1 = .ok (r, ρ2) ∧ (r = .sh (g d) ∨ r = .ow (g d)) ∧ clean vs ρ2 = true ∧ wipeS ρ2 vs = ρ) → lcL vs t bYes f ds ρ acc = some (acc ++ ds.map g, ρ)
  | [], acc, _, _ => by simp [lcL]
  | d :: ds, acc, hl, h => by
    obtain ⟨ρ1, ρ2, r, e1, e2, e3, e4, e5⟩ := h d List.mem_cons_self
    have ih := lcL_map g ρ ds (acc ++ [g d]) (by simp at hl ⊢; omega) fun d' hd => h d' (List.mem_cons_of_mem _ hd)
    have hlt : acc.length < 16777216 := by simp at hl; omega
    unfold lcL
    rw [e1]
    simp only [Option.bind_some, bYes, toOpt, if_true]
    rw [e2]
    simp only [toOpt, Option.bind_some]
    rcases e3 with rfl | rfl <;> simp only [e4, hlt, decide_true, Bool.and_self, if_true, e5] <;> rw [ih] <;> simp
/-- .. with one -/
theorem lcL_filter {vs : List Nat} {t : GF} {c : BF} {f : EF} (p : D → Bool) (g : D → D) (ρ : List S) : ∀ (ds acc : List D), acc.length + ds.length ≤ 16777216 → (∀ d ∈ ds, ∃ ρ1 ρ2, t d ρ = some ρ1 ∧ c ρ1 = .ok (p d, ρ2) ∧ (p d = false → clean vs ρ2 = true ∧ wipeS ρ2 vs = ρ) ∧ (p d = true → ∃ ρ3 r, f ρ2 = .ok (r, ρ3) ∧ (r = .sh (g d) ∨ r = .ow (g d)) ∧ clean vs ρ3 = true ∧ wipeS ρ3 vs = ρ)) →
    lcL vs t c f ds ρ acc = some (acc ++ (ds.filter p).map g, ρ)
  | [], acc, _, _ => by simp [lcL]
  | d :: ds, acc, hl, h => by
    obtain ⟨ρ1, ρ2, e1, e2, h0, h1⟩ := h d List.mem_cons_self
    have hlt : acc.length < 16777216 := by simp at hl; omega
    have hr : ∀ d' ∈ ds, _ := fun d' hd => h d' (List.mem_cons_of_mem _ hd)
    unfold lcL
    rw [e1]
    simp only [Option.bind_some]
    rw [e2]
    simp only [toOpt, Option.bind_some]
    cases hp : p d with
    | false =>
      obtain ⟨e4, e5⟩ := h0 hp
      simp only [Bool.false_eq_true, if_false, e4, e5, if_true]
      rw [lcL_filter p g ρ ds acc (by simp at hl; omega) hr]
      simp [hp]
    | true =>
      obtain ⟨ρ3, r, e3, e6, e4, e5⟩ := h1 hp
      simp only [if_true]
      rw [e3]
      simp only [toOpt, Option.bind_some]
      have ih := lcL_filter p g ρ ds (acc ++ [g d]) (by simp at hl ⊢; omega) hr
      rcases e6 with rfl | rfl <;> simp only [e4, hlt, decide_true, Bool.and_self, if_true, e5] <;> rw [ih] <;> simp [hp]
/-- .. whose elements draw -/
theorem lcL_ex {vs : List Nat} {t : GF} {f : EF} (P : List S → Prop) (E : D → Prop) : ∀ (ds acc : List D) (ρ : List S), acc.length + ds.length ≤ 16777216 → P ρ → (∀ d ρ, P ρ → ∃ ρ1 ρ2 e, t d ρ = some ρ1 ∧ f ρ1 = .ok (.sh e, ρ2) ∧ E e ∧ clean vs ρ2 = true ∧ P (wipeS ρ2 vs)) → ∃ es ρ', lcL vs t bYes f ds ρ acc = some (acc ++ es, ρ') ∧ es.length = ds.length ∧ (∀ e ∈ es, E e) ∧ P ρ'
  | [], acc, ρ, _, h0, _ => ⟨[], ρ, by simp [lcL], rfl, by simp, h0⟩
  | d :: ds, acc, ρ, hl, h0, h => by
    obtain ⟨ρ1, ρ2, e, e1, e2, he, e4, h5⟩ := h d ρ h0
    have hlt : acc.length < 16777216 := by simp at hl; omega
    obtain ⟨es, ρ', q1, q2, q3, q4⟩ := lcL_ex P E ds (acc ++ [e]) (wipeS ρ2 vs) (by simp at hl ⊢; omega) h5 h
    refine ⟨e :: es, ρ', ?_, by simp [q2], fun x hx => ?_, q4⟩
    · unfold lcL
      rw [e1]
      simp only [Option.bind_some, bYes, toOpt, if_true]
      rw [e2]
      simp only [toOpt, Option.bind_some, e4, hlt, decide_true, Bool.and_self, if_true]
      rw [q1]; simp
    · rcases List.mem_cons.mp hx with rfl | hx
      · exact he
      · exact q3 x hx
/-! what is forgotten -/
@[simp] theorem cuS_cu (x y : Int) : cuS (.cu x y) = true := rfl
@[simp] theorem cuS_u : cuS .u = false := rfl
@[simp] theorem cuS_sh (d : D) : cuS (.sh d) = false := rfl
@[simp] theorem cuS_ow (d : D) : cuS (.ow d) = false := rfl
@[simp] theorem cuS_fz (ns : List Int) : cuS (.fz ns) = false := rfl
@[simp] theorem kill1_eq (v : Nat) (ρ : List S) : kill1 v ρ = (match ρ[v]? with
  | some s => if cuS s = true then ρ else ρ.set v .u
  | none => ρ) := Eq.trans rfl rfl
@[simp] theorem killS_nil (ρ : List S) : killS [] ρ = ρ := Eq.trans rfl rfl
@[simp] theorem killS_cons (v : Nat) (vs : List Nat) (ρ : List S) : killS (v :: vs) ρ = killS vs (kill1 v ρ) := Eq.trans rfl rfl
@[simp] theorem kl_eq (vs : List Nat) (g : SF) (ρ : List S) : kl vs g ρ = (g ρ >>= fun p => match p.1 with
  | .rt r => .ok (.rt r, p.2)
  | o => .ok (o, killS vs p.2)) := Eq.trans rfl rfl
theorem kl_nx {g : SF} {vs : List Nat} {ρ ρ1 : List S} (h : g ρ = .ok (.nx, ρ1)) : kl vs g ρ = .ok (.nx, killS vs ρ1) := by unfold kl; rw [h]; rfl
theorem kl_rt {g : SF} {vs : List Nat} {ρ ρ1 : List S} {r : S} (h : g ρ = .ok (.rt r, ρ1)) : kl vs g ρ = .ok (.rt r, ρ1) := by unfold kl; rw [h]; rfl
end Z
end
section
namespace Z
open PySem PySem.Spec L2
/-! ### more equations, readable results -/
def outS : Rs (Out × List S) → Rs S
  | .ok (.rt (.sh d), _) => .ok (.sh d)
  | .ok (.rt (.ow d), _) => .ok (.ow d)
  | .ok (.rt (.sd t), _) => .ok (.sd t)
  | .ok (.rt (.od t), _) => .ok (.od t)
  | .ok (.nx, _) => .ok (.sh .none)
  | .ex _ c fs => .ex [] c fs
  | _ => .no
theorem retF_eq (g : SF) (N : Nat) (args : List S) : retF g N args = outS (g (args ++ List.replicate (N - args.length) .u)) := rfl
@[simp] theorem outS_sh (d : D) (ρ : List S) : outS (.ok (.rt (.sh d), ρ)) = .ok (.sh d) := Eq.trans rfl rfl
@[simp] theorem outS_ow (d : D) (ρ : List S) : outS (.ok (.rt (.ow d), ρ)) = .ok (.ow d) := Eq.trans rfl rfl
@[simp] theorem outS_sd (t : DT) (ρ : List S) : outS (.ok (.rt (.sd t), ρ)) = .ok (.sd t) := Eq.trans rfl rfl
@[simp] theorem outS_od (t : DT) (ρ : List S) : outS (.ok (.rt (.od t), ρ)) = .ok (.od t) := Eq.trans rfl rfl
@[simp] theorem outS_nx (ρ : List S) : outS (.ok (.nx, ρ)) = .ok (.sh .none) := Eq.trans rfl rfl
@[simp] theorem outS_no : outS .no = .no := Eq.trans rfl rfl
@[simp] theorem outS_ite (c : Prop) [Decidable c] (x y : Rs (Out × List S)) : outS (if c then x else y) = if c then outS x else outS y := by split <;> rfl
def outC : Rs (Out × List S) → Rs (S × Int × Int)
  | .ok (.rt (.sh d), .cu x y :: _) => .ok (.sh d, x, y)
  | .ok (.rt (.ow d), .cu x y :: _) => .ok (.ow d, x, y)
  | _ => .no
theorem retC_eq (g : SF) (N : Nat) (x y : Int) (args : List S) : retC g N x y args = outC (g (.cu x y :: (args ++ List.replicate (N - 1 - args.length) .u))) := by
  unfold retC outC
  cases g (.cu x y :: (args ++ List.replicate (N - 1 - args.length) .u)) with
  | no => rfl
  | ex _ _ _ => rfl
  | ok p =>
    obtain ⟨o, ρ⟩ := p
    cases o with
    | nx => rfl
    | bk => rfl
    | ct => rfl
    | rt s =>
      cases s <;> cases ρ with
      | nil => rfl
      | cons s' r => cases s' <;> rfl
@[simp] theorem outC_sh (d : D) (x y : Int) (ρ : List S) : outC (.ok (.rt (.sh d), .cu x y :: ρ)) = .ok (.sh d, x, y) := Eq.trans rfl rfl
@[simp] theorem outC_ow (d : D) (x y : Int) (ρ : List S) : outC (.ok (.rt (.ow d), .cu x y :: ρ)) = .ok (.ow d, x, y) := Eq.trans rfl rfl
@[simp] theorem outC_ite (c : Prop) [Decidable c] (x y : Rs (Out × List S)) : outC (if c then x else y) = if c then outC x else outC y := by split <;> rfl
@[simp] theorem Rs_of_ite {α : Type} (c : Prop) [Decidable c] (x y : Option α) : Rs.of (if c then x else y) = if c then Rs.of x else Rs.of y := by split <;> rfl
@[simp] theorem rs_bind_no {α β : Type} (f : α → Rs β) : ((Rs.no : Rs α) >>= f) = .no := Eq.trans rfl rfl
/-! equality -/
theorem depth_int (i : Int) : PyData.depth (.int i) = 0 := rfl
@[simp] theorem gEq_int (i j : Int) : gEq (.int i) (.int j) = some (.sh (.bool (i == j))) := by simp [gEq, PyData.depth, PyData.eqv]
@[simp] theorem gNe_int (i j : Int) : gNe (.int i) (.int j) = some (.sh (.bool (!(i == j)))) := by simp [gNe, PyData.depth, PyData.eqv]
@[simp] theorem gEq_bool (i j : Bool) : gEq (.bool i) (.bool j) = some (.sh (.bool (i == j))) := by simp [gEq, PyData.depth, PyData.eqv]
@[simp] theorem gNe_bool (i j : Bool) : gNe (.bool i) (.bool j) = some (.sh (.bool (!(i == j)))) := by simp [gNe, PyData.depth, PyData.eqv]
/-- lists and tuples of whole numbers -/
def iv (i : Int) : D := .int i
def il (ns : List Int) : List D := ns.map PyData.int
@[simp] theorem il_length (ns : List Int) : (il ns).length = ns.length := by simp [il]
@[simp] theorem il_nil : il [] = [] := Eq.trans rfl rfl
@[simp] theorem il_cons (n : Int) (ns : List Int) : il (n :: ns) = .int n :: il ns := Eq.trans rfl rfl
theorem il_get (ns : List Int) (i : Nat) : (il ns)[i]? = (ns[i]?).map PyData.int := by simp [il]
theorem depthAll_il : ∀ ns : List Int, PyData.depthAll (il ns) = 0
  | [] => rfl
  | n :: r => by simp [PyData.depthAll, PyData.depth, depthAll_il r]
theorem eqvAll_il : ∀ ns ms : List Int, PyData.eqvAll (il ns) (il ms) = decide (ns = ms)
  | [], [] => by simp [PyData.eqvAll]
  | [], _ :: _ => by simp [PyData.eqvAll]
  | _ :: _, [] => by simp [PyData.eqvAll]
  | n :: r, m :: s => by
    simp only [il_cons, PyData.eqvAll, PyData.eqv, eqvAll_il r s]
    by_cases h : n = m <;> simp [h]
theorem gEq_tup (ns ms : List Int) : gEq (.tuple (il ns)) (.tuple (il ms)) = some (.sh (.bool (decide (ns = ms)))) := by simp [gEq, PyData.depth, depthAll_il, PyData.eqv, eqvAll_il]
theorem gNe_tup (ns ms : List Int) : gNe (.tuple (il ns)) (.tuple (il ms)) = some (.sh (.bool (!decide (ns = ms)))) := by simp [gNe, PyData.depth, depthAll_il, PyData.eqv, eqvAll_il]
theorem gEq_lst (ns ms : List Int) : gEq (.list (il ns)) (.list (il ms)) = some (.sh (.bool (decide (ns = ms)))) := by simp [gEq, PyData.depth, depthAll_il, PyData.eqv, eqvAll_il]
theorem gNe_lst (ns ms : List Int) : gNe (.list (il ns)) (.list (il ms)) = some (.sh (.bool (!decide (ns = ms)))) := by simp [gNe, PyData.depth, depthAll_il, PyData.eqv, eqvAll_il]
/-- .. of numbers from 0 on -/
def nl (ns : List Nat) : List D := ns.map fun n : Nat => PyData.int (n : Int)
@[simp] theorem nl_length (ns : List Nat) : (nl ns).length = ns.length := by simp [nl]
@[simp] theorem nl_nil : nl [] = [] := Eq.trans rfl rfl
@[simp] theorem nl_cons (n : Nat) (ns : List Nat) : nl (n :: ns) = .int n :: nl ns := Eq.trans rfl rfl
theorem nl_il (ns : List Nat) : nl ns = il (ns.map fun n : Nat => (n : Int)) := by simp [nl, il]
theorem nl_get (ns : List Nat) (i : Nat) : (nl ns)[i]? = (ns[i]?).map fun n : Nat => PyData.int (n : Int) := by simp [nl]
theorem depthAll_nl (ns : List Nat) : PyData.depthAll (nl ns) = 0 := by rw [nl_il, depthAll_il]
theorem eqvAll_nl : ∀ ns ms : List Nat, PyData.eqvAll (nl ns) (nl ms) = decide (ns = ms)
  | [], [] => by simp [PyData.eqvAll]
  | [], _ :: _ => by simp [PyData.eqvAll]
  | _ :: _, [] => by simp [PyData.eqvAll]
  | n :: r, m :: s => by
    simp only [nl_cons, PyData.eqvAll, PyData.eqv, eqvAll_nl r s]
    by_cases h : n = m <;> simp [h]
    intro h2; omega
theorem nl_inj {ns ms : List Nat} (h : nl ns = nl ms) : ns = ms := by
  have := eqvAll_nl ns ms
  rw [h, eqvAll_nl] at this
  simpa using this
theorem gEq_ntup (ns ms : List Nat) : gEq (.tuple (nl ns)) (.tuple (nl ms)) = some (.sh (.bool (decide (ns = ms)))) := by simp [gEq, PyData.depth, depthAll_nl, PyData.eqv, eqvAll_nl]
theorem gNe_ntup (ns ms : List Nat) : gNe (.tuple (nl ns)) (.tuple (nl ms)) = some (.sh (.bool (!decide (ns = ms)))) := by simp [gNe, PyData.depth, depthAll_nl, PyData.eqv, eqvAll_nl]
theorem gEq_nlst (ns ms : List Nat) : gEq (.list (nl ns)) (.list (nl ms)) = some (.sh (.bool (decide (ns = ms)))) := by simp [gEq, PyData.depth, depthAll_nl, PyData.eqv, eqvAll_nl]
theorem gNe_nlst (ns ms : List Nat) : gNe (.list (nl ns)) (.list (nl ms)) = some (.sh (.bool (!decide (ns = ms)))) := by simp [gNe, PyData.depth, depthAll_nl, PyData.eqv, eqvAll_nl]
theorem gEq_lnil (ds : List D) : gEq (.list ds) (.list []) = some (.sh (.bool ds.isEmpty)) := by
  cases ds <;> simp [gEq, PyData.depth, PyData.eqv, PyData.eqvAll, PyData.depthAll]
theorem gNe_lnil (ds : List D) : gNe (.list ds) (.list []) = some (.sh (.bool (!ds.isEmpty))) := by
  cases ds <;> simp [gNe, PyData.depth, PyData.eqv, PyData.eqvAll, PyData.depthAll]
@[simp] theorem fRev_eq (fa : OF) (ρ : List S) : fRev fa ρ = (fa ρ >>= fun p => Rs.of (look p.1 p.2) >>= fun d => Rs.of (gRev d) >>= fun r => .ok (r, p.2)) := Eq.trans rfl rfl
@[simp] theorem gRev_lst (ds : List D) : gRev (.list ds) = some (.ow (.list ds.reverse)) := Eq.trans rfl rfl
@[simp] theorem gRev_tup (ds : List D) : gRev (.tuple ds) = some (.sh (.tuple ds.reverse)) := Eq.trans rfl rfl
@[simp] theorem fRg1_eq (t : Bool) (fa : OF) (ρ : List S) : fRg1 t fa ρ = (fa ρ >>= fun p => Rs.of (look p.1 p.2) >>= fun d => Rs.of (gRgD t (.int 0) d) >>= fun r => .ok (r, p.2)) := Eq.trans rfl rfl
@[simp] theorem fRg2_eq (t : Bool) (fa fb : OF) (ρ : List S) : fRg2 t fa fb ρ = (fa ρ >>= fun p => fb p.2 >>= fun q => Rs.of (look p.1 q.2) >>= fun d => Rs.of (look q.1 q.2) >>= fun d2 => Rs.of (gRgD t d d2) >>= fun r => .ok (r, q.2)) := Eq.trans rfl rfl
@[simp] theorem gRgD_int (t : Bool) (i j : Int) : gRgD t (.int i) (.int j) = gRg t i j := Eq.trans rfl rfl
@[simp] theorem sAugL_eq (i : Nat) (f : EF) (ρ : List S) : sAugL i f ρ = (match ρ[i]? with
  | some (.ow (.list _)) => f ρ >>= fun p => match p.1 with
    | .sh (.list es) => extS i es p.2
    | .ow (.list es) => extS i es p.2
    | _ => .no
  | _ => .no) := Eq.trans rfl rfl
@[simp] theorem extS_eq (i : Nat) (es : List D) (ρ : List S) : extS i es ρ = (match ρ[i]? with
  | some (.ow (.list ds)) => if ds.length + es.length ≤ 16777216 then .ok (.nx, ρ.set i (.ow (.list (ds ++ es)))) else .no
  | _ => .no) := Eq.trans rfl rfl
/-! the operations at values told -/
@[simp] theorem truth_none : truth .none = some false := Eq.trans rfl rfl
@[simp] theorem truth_bool (b : Bool) : truth (.bool b) = some b := Eq.trans rfl rfl
@[simp] theorem truth_int (i : Int) : truth (.int i) = some (i != 0) := Eq.trans rfl rfl
@[simp] theorem truth_lst (ds : List D) : truth (.list ds) = some (!ds.isEmpty) := Eq.trans rfl rfl
@[simp] theorem truth_tup (ds : List D) : truth (.tuple ds) = some (!ds.isEmpty) := Eq.trans rfl rfl
@[simp] theorem gAdd_int (i j : Int) : gAdd (.int i) (.int j) = some (.sh (.int (i + j))) := Eq.trans rfl rfl
@[simp] theorem gSub_int (i j : Int) : gSub (.int i) (.int j) = some (.sh (.int (i - j))) := Eq.trans rfl rfl
theorem gMul_int (i j : Int) (h : i.natAbs < 18446744073709551616 ∨ j.natAbs < 18446744073709551616) : gMul (.int i) (.int j) = some (.sh (.int (i * j))) := if_pos (.inl h)
theorem gMul_tupW (ds : List D) (k : Nat) (h1 : k ≤ 1000000) (h2 : ds.length * k ≤ 1000000) : gMul (.tuple ds) (.int (k : Int)) = some (.sh (.tuple (List.replicate k ds).flatten)) := by
  have g : gMul (.tuple ds) (.int (k : Int)) = if ((k : Int).natAbs ≤ 1000 ∧ ds.length ≤ 1000) ∨ ((k : Int).natAbs ≤ 1000000 ∧ ds.length * (k : Int).toNat ≤ 1000000) then some (.sh (.tuple (List.replicate (k : Int).toNat ds).flatten)) else none := Eq.trans rfl rfl
  rw [g, if_pos (.inr ⟨by omega, by simpa using h2⟩), Int.toNat_natCast]
theorem gMul_wide (i j : Int) (h : i.natAbs.log2 + j.natAbs.log2 < 1000000) : gMul (.int i) (.int j) = some (.sh (.int (i * j))) := if_pos (.inr h)
theorem gDiv_wide (i j : Int) (h0 : 0 < j) (h : j.natAbs.log2 < 9000) : gDiv (.int i) (.int j) = some (.sh (.int (i / j))) := if_pos ⟨h0, h⟩
theorem gDiv_64 (i j : Int) (h0 : 0 < j) (h : j < 18446744073709551616) : gDiv (.int i) (.int j) = some (.sh (.int (i / j))) := by
  refine gDiv_wide i j h0 (Nat.lt_of_lt_of_le (PySem.Flt.log2_lt_of (k := 64) (by decide) ?_) (by decide))
  have : (2:Nat) ^ 64 = 18446744073709551616 := rfl
  omega
theorem gDiv_int (i j : Int) (h0 : 0 < j) (h : j < 1073741824) : gDiv (.int i) (.int j) = some (.sh (.int (i / j))) := by
  refine gDiv_wide i j h0 (Nat.lt_of_lt_of_le (PySem.Flt.log2_lt_of (k := 30) (by decide) ?_) (by decide))
  have : (2:Nat) ^ 30 = 1073741824 := rfl
  omega
theorem gMod_int (i j : Int) (h0 : 0 < j) : gMod (.int i) (.int j) = some (.sh (.int (i % j))) := by simp [gMod, h0]
@[simp] theorem gLt_int (i j : Int) : gLt (.int i) (.int j) = some (.sh (.bool (decide (i < j)))) := Eq.trans rfl rfl
@[simp] theorem gLtZ_int (i j : Int) : gLtZ (.int i) (.int j) = some (.sh (.bool (decide (i < j)))) := Eq.trans rfl rfl
@[simp] theorem gLe_int (i j : Int) : gLe (.int i) (.int j) = some (.sh (.bool (decide (i ≤ j)))) := Eq.trans rfl rfl
@[simp] theorem gGt_int (i j : Int) : gGt (.int i) (.int j) = some (.sh (.bool (decide (j < i)))) := Eq.trans rfl rfl
@[simp] theorem gGe_int (i j : Int) : gGe (.int i) (.int j) = some (.sh (.bool (decide (j ≤ i)))) := Eq.trans rfl rfl
@[simp] theorem gInt_int (i : Int) : gInt [.int i] = some (.sh (.int i)) := Eq.trans rfl rfl
@[simp] theorem gInt_bool (b : Bool) : gInt [.bool b] = some (.sh (.int (if b then 1 else 0))) := Eq.trans rfl rfl
@[simp] theorem gLen_lst (ds : List D) : gLen [.list ds] = some (.sh (.int ds.length)) := Eq.trans rfl rfl
@[simp] theorem gLen_tup (ds : List D) : gLen [.tuple ds] = some (.sh (.int ds.length)) := Eq.trans rfl rfl
@[simp] theorem gAbs_int (i : Int) : gAbs [.int i] = some (.sh (.int (if i < 0 then -i else i))) := Eq.trans rfl rfl
@[simp] theorem gMax2_int (i j : Int) : gMax2 [.int i, .int j] = some (.sh (.int (if j > i then j else i))) := Eq.trans rfl rfl
@[simp] theorem gMin2_int (i j : Int) : gMin2 [.int i, .int j] = some (.sh (.int (if j < i then j else i))) := Eq.trans rfl rfl
@[simp] theorem gTuple_lst (ds : List D) : gTuple [.list ds] = some (.sh (.tuple ds)) := Eq.trans rfl rfl
@[simp] theorem gTuple_tup (ds : List D) : gTuple [.tuple ds] = some (.sh (.tuple ds)) := Eq.trans rfl rfl
@[simp] theorem gList_lst (ds : List D) : gList [.list ds] = some (.ow (.list ds)) := Eq.trans rfl rfl
@[simp] theorem gList_tup (ds : List D) : gList [.tuple ds] = some (.ow (.list ds)) := Eq.trans rfl rfl
theorem gAddT (a b : List D) (h : a.length + b.length ≤ 16777216) : gAdd (.tuple a) (.tuple b) = some (.sh (.tuple (a ++ b))) := by simp [gAdd, h]
theorem gAddL (a b : List D) (h : a.length + b.length ≤ 16777216) : gAdd (.list a) (.list b) = some (.ow (.list (a ++ b))) := by simp [gAdd, h]
@[simp] theorem gSl_lst (ds : List D) (a b : Option Int) : gSl (.list ds) a b = some (.ow (.list (cutD ds a b))) := Eq.trans rfl rfl
@[simp] theorem gSl_tup (ds : List D) (a b : Option Int) : gSl (.tuple ds) a b = some (.sh (.tuple (cutD ds a b))) := Eq.trans rfl rfl
@[simp] theorem gIs_none (d : D) : gIs d .none = some (.sh (.bool (match d with | .none => true | _ => false))) := Eq.trans rfl rfl
@[simp] theorem gIs_bool (d : D) (b : Bool) : gIs d (.bool b) = some (.sh (.bool (match d with | .bool k => k == b | _ => false))) := Eq.trans rfl rfl
theorem bools_bool0 {α : Type} (p : α → Bool) : ∀ xs : List α, bools (xs.map fun x => PyData.bool (p x)) = some (xs.map p)
  | [] => rfl
  | x :: r => by simp [bools, bools_bool0 p r]
theorem gAll_bools {α : Type} (p : α → Bool) (xs : List α) : gAll [.list (xs.map fun x => PyData.bool (p x))] = some (.sh (.bool (xs.all p))) := by
  simp only [gAll, bools_bool0]
  simp
theorem gAny_bools {α : Type} (p : α → Bool) (xs : List α) : gAny [.list (xs.map fun x => PyData.bool (p x))] = some (.sh (.bool (xs.any p))) := by
  simp only [gAny, bools_bool0]
  simp
theorem intL_il : ∀ ns : List Int, intL (il ns) = some ns
  | [] => rfl
  | n :: r => by simp [intL, intL_il r]
theorem gSum_tup (ns : List Int) : gSum [.tuple (il ns)] = some (.sh (.int ns.sum)) := by simp [gSum, intL_il]
theorem gSum_lst (ns : List Int) : gSum [.list (il ns)] = some (.sh (.int ns.sum)) := by simp [gSum, intL_il]
@[simp] theorem gIsNot_none (d : D) : gIsNot d .none = some (.sh (.bool (!(match d with | .none => true | _ => false)))) := Eq.trans rfl rfl
/-! places, ranges -/
theorem ixN_nat (n i : Nat) : ixN n (i : Int) = if i < n then some i else none := by
  unfold ixN
  simp
theorem atI_nat {α : Type} (xs : List α) (i : Nat) : atI xs (i : Int) = xs[i]? := by
  unfold atI
  rw [ixN_nat]
  split
  · rfl
  · rename_i h; simp at h; simp [h]
theorem atI_zero {α : Type} (xs : List α) : atI xs 0 = xs[0]? := atI_nat xs 0
theorem gIx_tup (ds : List D) (i : Nat) : gIx (.tuple ds) (.int (i : Int)) = (ds[i]?).map S.sh := by simp [gIx, atI_nat]
theorem gIx_lst (ds : List D) (i : Nat) : gIx (.list ds) (.int (i : Int)) = (ds[i]?).map S.sh := by simp [gIx, atI_nat]
theorem rangeD_zero (lo : Int) : rangeD lo 1 0 = [] := rfl
theorem rangeD_succ (lo : Int) (n : Nat) : rangeD lo 1 (n + 1) = .int lo :: rangeD (lo + 1) 1 n := by
  unfold rangeD
  rw [List.range_succ_eq_map]
  simp
  intro a _
  omega
@[simp] theorem rangeD_len (lo c : Int) (n : Nat) : (rangeD lo c n).length = n := by simp [rangeD]
theorem rangeD_get (lo : Int) (n i : Nat) (d : D) (h : (rangeD lo 1 n)[i]? = some d) : i < n ∧ d = .int (lo + i) := by
  unfold rangeD at h
  rw [List.getElem?_map] at h
  by_cases hi : i < n
  · rw [List.getElem?_range hi] at h
    refine ⟨hi, ?_⟩
    cases h
    simp
  · rw [List.getElem?_eq_none (by simpa using hi)] at h
    cases h
theorem rangeD0 (n : Nat) : rangeD 0 1 n = (List.range n).map fun i => .int ((i : Nat) : Int) := by simp [rangeD]
theorem rangeD_nl (n : Nat) : rangeD 0 1 n = nl (List.range n) := by simp [rangeD, nl]
/-- a walk over a range -/
theorem forL_rg {t : GF} {b : SF} (P : Nat → List S → Prop) (n : Nat) (ρ : List S) (h0 : P 0 ρ) (h : ∀ i ρ, i < n → P i ρ → ∃ ρ1 ρ2, t (.int (i : Int)) ρ = some ρ1 ∧ b ρ1 = .ok (.nx, ρ2) ∧ P (i + 1) ρ2) : ∃ ρ', forL t b (rangeD 0 1 n) ρ = .ok (.nx, ρ') ∧ P n ρ' := by
  obtain ⟨ρ', e, hp⟩ := forL_ex (t := t) (b := b) P (rangeD 0 1 n) 0 ρ h0 fun i d ρ hd hp => by
    obtain ⟨hi, rfl⟩ := rangeD_get 0 n i d hd
    rw [Nat.zero_add] at hp ⊢
    rw [Int.zero_add]
    exact h i ρ hi hp
  rw [rangeD_len, Nat.zero_add] at hp
  exact ⟨ρ', e, hp⟩
/-- a comprehension over things of one kind -/
theorem lcL_m {α : Type} {vs : List Nat} {t : GF} {c : BF} {f : EF} (F : α → D) (p : α → Bool) (g : α → D) (ρ : List S) : ∀ (is : List α) (acc : List D), acc.length + is.length ≤ 16777216 → (∀ i ∈ is, ∃ ρ1 ρ2, t (F i) ρ = some ρ1 ∧ c ρ1 = .ok (p i, ρ2) ∧ (p i = false → clean vs ρ2 = true ∧ wipeS ρ2 vs = ρ) ∧ (p i = true → ∃ ρ3 r, f ρ2 = .ok (r, ρ3) ∧ (r = .sh (g i) ∨ r = .ow (g i)) ∧ clean vs ρ3 = true ∧ wipeS ρ3 vs = ρ)) →
    lcL vs t c f (is.map F) ρ acc = some (acc ++ (is.filter p).map g, ρ)
  | [], acc, _, _ => by simp [lcL]
  | i :: ds, acc, hl, h => by
    obtain ⟨ρ1, ρ2, e1, e2, h0, h1⟩ := h i List.mem_cons_self
    have hlt : acc.length < 16777216 := by simp at hl; omega
    have hr : ∀ d' ∈ ds, _ := fun d' hd => h d' (List.mem_cons_of_mem _ hd)
    rw [List.map_cons]
    unfold lcL
    rw [e1]
    simp only [Option.bind_some]
    rw [e2]
    simp only [toOpt, Option.bind_some]
    cases hp : p i with
    | false =>
      obtain ⟨e4, e5⟩ := h0 hp
      simp only [Bool.false_eq_true, if_false, e4, e5, if_true]
      rw [lcL_m F p g ρ ds acc (by simp at hl; omega) hr]
      simp [hp]
    | true =>
      obtain ⟨ρ3, r, e3, e6, e4, e5⟩ := h1 hp
      simp only [if_true]
      rw [e3]
      simp only [toOpt, Option.bind_some]
      have ih := lcL_m F p g ρ ds (acc ++ [g i]) (by simp at hl ⊢; omega) hr
      rcases e6 with rfl | rfl <;> simp only [e4, hlt, decide_true, Bool.and_self, if_true, e5] <;> rw [ih] <;> simp [hp]
/-- .. without a test -/
theorem lcL_n {α : Type} {vs : List Nat} {t : GF} {f : EF} (F g : α → D) (ρ : List S) (is : List α) (hl : is.length ≤ 16777216) (h : ∀ i ∈ is, ∃ ρ1 ρ3 r, t (F i) ρ = some ρ1 ∧ f ρ1 = .ok (r, ρ3) ∧ (r = .sh (g i) ∨ r = .ow (g i)) ∧ clean vs ρ3 = true ∧ wipeS ρ3 vs = ρ) :
    lcL vs t bYes f (is.map F) ρ [] = some (is.map g, ρ) := by
  rw [lcL_m F (fun _ => true) g ρ is [] (by simpa using hl) fun i hi => ?_]
  · rw [List.filter_eq_self.mpr (fun _ _ => rfl)]; rfl
  · obtain ⟨ρ1, ρ3, r, h1, h2, h3, h4, h5⟩ := h i hi
    exact ⟨ρ1, ρ1, h1, rfl, by simp, fun _ => ⟨ρ3, r, h2, h3, h4, h5⟩⟩
/-- a walk over things of one kind -/
theorem forL_m {α : Type} {t : GF} {b : SF} (F : α → D) (P : Nat → List S → Prop) (xs : List α) (ρ : List S) (h0 : P 0 ρ) (h : ∀ i x ρ, xs[i]? = some x → P i ρ → ∃ ρ1 ρ2, t (F x) ρ = some ρ1 ∧ b ρ1 = .ok (.nx, ρ2) ∧ P (i + 1) ρ2) : ∃ ρ', forL t b (xs.map F) ρ = .ok (.nx, ρ') ∧ P xs.length ρ' := by
  obtain ⟨ρ', e, hp⟩ := forL_ex (t := t) (b := b) P (xs.map F) 0 ρ h0 fun i d ρ hd hp => by
    rw [List.getElem?_map] at hd
    cases hx : xs[i]? with
    | none => rw [hx] at hd; cases hd
    | some x =>
      rw [hx] at hd
      cases hd
      rw [Nat.zero_add] at hp ⊢
      exact h i x ρ hx hp
  rw [List.length_map, Nat.zero_add] at hp
  exact ⟨ρ', e, hp⟩
theorem forL_step {t : GF} {b : SF} {d : D} {ds : List D} {ρ ρ1 ρ2 : List S} (h1 : t d ρ = some ρ1) (h2 : b ρ1 = .ok (.nx, ρ2)) : forL t b (d :: ds) ρ = forL t b ds ρ2 := by
  conv => lhs; unfold forL
  rw [h1]
  simp only [Rs.of_some, Rs.bind_ok, h2]
theorem cutD_to (ds : List D) (k : Nat) : cutD ds none (some (k : Int)) = ds.take k := by
  unfold cutD
  rw [HT.sIx_nat, HT.sIx_none, List.drop_zero, Nat.sub_zero]
  by_cases h : k ≤ ds.length
  · rw [Nat.min_eq_left h]
  · rw [Nat.min_eq_right (by omega), List.take_of_length_le (Nat.le_refl _), List.take_of_length_le (by omega)]
theorem cutD_from (ds : List D) (k : Nat) : cutD ds (some (k : Int)) none = ds.drop k := by
  unfold cutD
  rw [HT.sIx_nat, HT.sIx_none]
  by_cases h : k ≤ ds.length
  · rw [Nat.min_eq_left h, List.take_of_length_le (by simp)]
  · rw [Nat.min_eq_right (by omega), List.take_of_length_le (by simp)]; rw [List.drop_eq_nil_of_le (Nat.le_refl _), List.drop_eq_nil_of_le (by omega)]
/-- what a slot of a name may hold: nothing, or a value -/
def pl (s : S) : Prop := s = .u ∨ ∃ d, s = .sh d
theorem noc_pl {s : S} (h : pl s) : noc s = true := by rcases h with rfl | ⟨d, rfl⟩ <;> rfl
theorem plainS_pl {s : S} (h : pl s) : plainS s = true := by rcases h with rfl | ⟨d, rfl⟩ <;> rfl
@[simp] theorem pl_u : pl .u := .inl rfl
@[simp] theorem pl_sh (d : D) : pl (.sh d) := .inr ⟨d, rfl⟩
theorem set_u {ρ : List S} {v : Nat} (hv : ρ[v]? = some .u) (s : S) : (ρ.set v s).set v .u = ρ := by
  rw [List.set_set]
  refine List.ext_getElem? fun j => ?_
  rw [List.getElem?_set]
  have hlt : v < ρ.length := by
    by_cases h : v < ρ.length
    · exact h
    · rw [List.getElem?_eq_none (by omega)] at hv; cases hv
  split
  · rename_i e; subst e; simp [hlt]; rw [List.getElem?_eq_getElem hlt] at hv; exact (Option.some.inj hv).symm
  · rfl
theorem get_set_self {ρ : List S} {v : Nat} {s0 : S} (hv : ρ[v]? = some s0) (s : S) : (ρ.set v s)[v]? = some s := by
  have hlt : v < ρ.length := by
    by_cases h : v < ρ.length
    · exact h
    · rw [List.getElem?_eq_none (by omega)] at hv; cases hv
  rw [List.getElem?_set_self hlt]
/-- a comprehension with one name, whose parts change nothing -/
theorem lcL_v {α : Type} {v : Nat} {c : BF} {f : EF} (F : α → D) (p : α → Bool) (g : α → D) (ρ : List S) (hv : ρ[v]? = some .u) (is : List α) (hl : is.length ≤ 16777216)
    (h : ∀ i ∈ is, c (ρ.set v (.sh (F i))) = .ok (p i, ρ.set v (.sh (F i))) ∧ (p i = true → f (ρ.set v (.sh (F i))) = .ok (.sh (g i), ρ.set v (.sh (F i))) ∨ f (ρ.set v (.sh (F i))) = .ok (.ow (g i), ρ.set v (.sh (F i))))) :
    lcL [v] (gNm v) c f (is.map F) ρ [] = some ((is.filter p).map g, ρ) := by
  have ht : ∀ d, gNm v d ρ = some (ρ.set v (.sh d)) := fun d => by rw [gNm_eq, setS_eq, hv]; rfl
  have hc : ∀ d, clean [v] (ρ.set v (.sh d)) = true := fun d => by simp [clean, get_set_self hv, plainS]
  have hw : ∀ d, wipeS (ρ.set v (.sh d)) [v] = ρ := fun d => set_u hv _
  rw [lcL_m F p g ρ is [] (by simpa using hl) fun i hi => ?_]
  · simp
  · obtain ⟨h1, h2⟩ := h i hi
    refine ⟨_, _, ht _, h1, fun _ => ⟨hc _, hw _⟩, fun q => ?_⟩
    rcases h2 q with e | e
    · exact ⟨_, _, e, .inl rfl, hc _, hw _⟩
    · exact ⟨_, _, e, .inr rfl, hc _, hw _⟩
theorem lcL_vn {α : Type} {v : Nat} {f : EF} (F : α → D) (g : α → D) (ρ : List S) (hv : ρ[v]? = some .u) (is : List α) (hl : is.length ≤ 16777216)
    (h : ∀ i ∈ is, f (ρ.set v (.sh (F i))) = .ok (.sh (g i), ρ.set v (.sh (F i))) ∨ f (ρ.set v (.sh (F i))) = .ok (.ow (g i), ρ.set v (.sh (F i)))) :
    lcL [v] (gNm v) bYes f (is.map F) ρ [] = some (is.map g, ρ) := by
  rw [lcL_v F (fun _ => true) g ρ hv is hl fun i hi => ⟨rfl, fun _ => h i hi⟩]
  rw [List.filter_eq_self.mpr (fun _ _ => rfl)]
/-- .. over pairs -/
theorem lcL_e {α : Type} {a b : Nat} {c : BF} {f : EF} (F G : α → D) (p : α → Bool) (g : α → D) (ρ : List S) (hab : a ≠ b) (ha : ρ[a]? = some .u) (hb : ρ[b]? = some .u) (is : List α) (hl : is.length ≤ 16777216)
    (h : ∀ i ∈ is, c ((ρ.set a (.sh (F i))).set b (.sh (G i))) = .ok (p i, (ρ.set a (.sh (F i))).set b (.sh (G i))) ∧ (p i = true → f ((ρ.set a (.sh (F i))).set b (.sh (G i))) = .ok (.sh (g i), (ρ.set a (.sh (F i))).set b (.sh (G i))) ∨ f ((ρ.set a (.sh (F i))).set b (.sh (G i))) = .ok (.ow (g i), (ρ.set a (.sh (F i))).set b (.sh (G i))))) :
    lcL [a, b] (gTupT 2 (gsCons (gNm a) (gsCons (gNm b) gsNil))) c f (is.map fun i => PyData.tuple [F i, G i]) ρ [] = some ((is.filter p).map g, ρ) := by
  have hb' : ∀ d, (ρ.set a (.sh d))[b]? = some .u := fun d => by rw [List.getElem?_set_ne hab, hb]
  have ht : ∀ d e, gTupT 2 (gsCons (gNm a) (gsCons (gNm b) gsNil)) (.tuple [d, e]) ρ = some ((ρ.set a (.sh d)).set b (.sh e)) := fun d e => by
    simp [ha, hb']
  have hc : ∀ d e, clean [a, b] ((ρ.set a (.sh d)).set b (.sh e)) = true := fun d e => by
    have h1 : ((ρ.set a (.sh d)).set b (.sh e))[a]? = some (.sh d) := by rw [List.getElem?_set_ne (Ne.symm hab), get_set_self ha]
    have h2 : ((ρ.set a (.sh d)).set b (.sh e))[b]? = some (.sh e) := get_set_self (hb' d) _
    simp [clean, h1, h2, plainS]
  have hw : ∀ d e, wipeS ((ρ.set a (.sh d)).set b (.sh e)) [a, b] = ρ := fun d e => by
    show (((ρ.set a (.sh d)).set b (.sh e)).set b .u).set a .u = ρ
    rw [set_u (hb' d), set_u ha]
  rw [lcL_m (fun i => PyData.tuple [F i, G i]) p g ρ is [] (by simpa using hl) fun i hi => ?_]
  · simp
  · obtain ⟨h1, h2⟩ := h i hi
    refine ⟨_, _, ht _ _, h1, fun _ => ⟨hc _ _, hw _ _⟩, fun q => ?_⟩
    rcases h2 q with e | e
    · exact ⟨_, _, e, .inl rfl, hc _ _, hw _ _⟩
    · exact ⟨_, _, e, .inr rfl, hc _ _, hw _ _⟩
theorem lcL_en {α : Type} {a b : Nat} {f : EF} (F G : α → D) (g : α → D) (ρ : List S) (hab : a ≠ b) (ha : ρ[a]? = some .u) (hb : ρ[b]? = some .u) (is : List α) (hl : is.length ≤ 16777216)
    (h : ∀ i ∈ is, f ((ρ.set a (.sh (F i))).set b (.sh (G i))) = .ok (.sh (g i), (ρ.set a (.sh (F i))).set b (.sh (G i))) ∨ f ((ρ.set a (.sh (F i))).set b (.sh (G i))) = .ok (.ow (g i), (ρ.set a (.sh (F i))).set b (.sh (G i)))) :
    lcL [a, b] (gTupT 2 (gsCons (gNm a) (gsCons (gNm b) gsNil))) bYes f (is.map fun i => PyData.tuple [F i, G i]) ρ [] = some (is.map g, ρ) := by
  rw [lcL_e F G (fun _ => true) g ρ hab ha hb is hl fun i hi => ⟨rfl, fun _ => h i hi⟩]
  rw [List.filter_eq_self.mpr (fun _ _ => rfl)]
end Z
end
section
namespace Z
open PySem PySem.Spec L2
/-! ### words of signs, their numbers, the reflected list: plain laws -/
def bi (b : Bool) : Int := if b then 1 else 0
def wd (w : List Bool) : D := .tuple (il (w.map bi))
@[simp] theorem gLen_wd (w : List Bool) : gLen [wd w] = some (.sh (.int w.length)) := by simp [wd]
@[simp] theorem isTy_wd (T : String) (w : List Bool) : isTy T (wd w) = (T == "tuple") := rfl
theorem il_bi (w : List Bool) : il (w.map bi) = w.map fun b => PyData.int (bi b) := by simp [il]
@[simp] theorem gIx_wd (w : List Bool) (i : Nat) (h : i < w.length) : gIx (wd w) (.int (i : Int)) = some (.sh (.int (bi w[i]))) := by rw [wd, gIx_tup, il_get]; simp [h]
@[simp] theorem bi_eq (a b : Bool) : (bi a == bi b) = (a == b) := by cases a <;> cases b <;> rfl
/-- the word of number N, with k signs, behind a sign a of the number -/
def gr : Nat → Nat → Bool → List Bool
  | 0, _, _ => []
  | k + 1, N, a => (decide (2 ^ k ≤ N) != a) :: gr k (if 2 ^ k ≤ N then N - 2 ^ k else N) (decide (2 ^ k ≤ N))
@[simp] theorem gr_len : ∀ k N a, (gr k N a).length = k
  | 0, _, _ => rfl
  | k + 1, N, a => by simp [gr, gr_len k]
/-- .. and the number of a word -/
def dc : List Bool → Nat → Bool → Nat
  | [], f, _ => f
  | s :: w, f, a => dc w (2 * f + if (a != s) then 1 else 0) (a != s)
theorem dc_gr : ∀ k N a f, N < 2 ^ k → dc (gr k N a) f a = f * 2 ^ k + N
  | 0, N, a, f, h => by simp at h; subst h; simp [gr, dc]
  | k + 1, N, a, f, h => by
    rw [Nat.pow_succ] at h
    unfold gr dc
    by_cases hb : 2 ^ k ≤ N
    · have e : (a != (decide (2 ^ k ≤ N) != a)) = true := by simp [hb]
      rw [e]
      simp only [hb, decide_true, if_true]
      rw [dc_gr k _ true _ (by omega), Nat.pow_succ, Nat.add_mul, Nat.mul_comm 2 f, Nat.mul_assoc, Nat.mul_comm 2 (2 ^ k)]
      omega
    · have e : (a != (decide (2 ^ k ≤ N) != a)) = false := by simp [hb]
      rw [e]
      simp only [hb, decide_false, if_false, Bool.false_eq_true]
      rw [dc_gr k _ false _ (by omega), Nat.pow_succ, Nat.add_zero, Nat.mul_comm 2 f, Nat.mul_assoc, Nat.mul_comm 2 (2 ^ k)]
theorem dc_lin : ∀ w f a, dc w f a = f * 2 ^ w.length + dc w 0 a
  | [], f, a => by simp [dc]
  | s :: w, f, a => by
    unfold dc
    rw [dc_lin w, dc_lin w (2 * 0 + _), List.length_cons, Nat.pow_succ, Nat.add_mul, Nat.mul_zero, Nat.zero_add, Nat.mul_comm 2 f, Nat.mul_assoc, Nat.mul_comm 2 (2 ^ w.length), Nat.add_assoc]
theorem dc_lt : ∀ w a, dc w 0 a < 2 ^ w.length
  | [], a => by simp [dc]
  | s :: w, a => by
    unfold dc
    rw [dc_lin, List.length_cons, Nat.pow_succ, Nat.mul_zero, Nat.zero_add]
    have := dc_lt w (a != s)
    split <;> omega
theorem gr_dc : ∀ w a, gr w.length (dc w 0 a) a = w
  | [], a => rfl
  | s :: w, a => by
    have hl := dc_lt w (a != s)
    have ih := gr_dc w (a != s)
    unfold dc
    rw [dc_lin, List.length_cons, Nat.mul_zero, Nat.zero_add]
    unfold gr
    by_cases hb : (a != s) = true
    · rw [hb] at hl ih ⊢
      have e : 2 ^ w.length ≤ 1 * 2 ^ w.length + dc w 0 true := by omega
      have e2 : 1 * 2 ^ w.length + dc w 0 true - 2 ^ w.length = dc w 0 true := by omega
      simp only [if_true, e, decide_true]
      rw [e2, ih]
      cases a <;> cases s <;> simp at hb ⊢
    · simp only [Bool.not_eq_true] at hb
      rw [hb] at hl ih ⊢
      have e : ¬ 2 ^ w.length ≤ 0 * 2 ^ w.length + dc w 0 false := by omega
      have e2 : 0 * 2 ^ w.length + dc w 0 false = dc w 0 false := by omega
      simp only [Bool.false_eq_true, if_false, e, decide_false]
      rw [e2, ih]
      cases a <;> cases s <;> simp at hb ⊢
theorem gr_inj {k N M : Nat} {a : Bool} (hN : N < 2 ^ k) (hM : M < 2 ^ k) (h : gr k N a = gr k M a) : N = M := by
  have h1 := dc_gr k N a 0 hN
  have h2 := dc_gr k M a 0 hM
  rw [h] at h1
  omega
/-- the word from the other end -/
theorem gr_flip : ∀ k N a, N < 2 ^ k → gr k (2 ^ k - 1 - N) (!a) = gr k N a
  | 0, N, a, _ => rfl
  | k + 1, N, a, h => by
    rw [Nat.pow_succ] at h
    unfold gr
    rw [Nat.pow_succ]
    by_cases hb : 2 ^ k ≤ N
    · have e : ¬ 2 ^ k ≤ 2 ^ k * 2 - 1 - N := by omega
      simp only [hb, e, decide_true, decide_false, if_true, if_false]
      have := gr_flip k (N - 2 ^ k) true (by omega)
      rw [show 2 ^ k - 1 - (N - 2 ^ k) = 2 ^ k * 2 - 1 - N by omega] at this
      rw [Bool.not_true] at this
      rw [this]
      cases a <;> rfl
    · have e : 2 ^ k ≤ 2 ^ k * 2 - 1 - N := by omega
      simp only [hb, e, decide_true, decide_false, if_true, if_false]
      have := gr_flip k N false (by omega)
      rw [show 2 ^ k - 1 - N = 2 ^ k * 2 - 1 - N - 2 ^ k by omega] at this
      rw [Bool.not_false] at this
      rw [this]
      cases a <;> rfl
/-- the places, from 1, where two words are unlike -/
def un : List Bool → List Bool → List Nat
  | x :: w, y :: v => if (x != y) = true then 1 :: (un w v).map (· + 1) else (un w v).map (· + 1)
  | _, _ => []
theorem un_self : ∀ w, un w w = []
  | [] => rfl
  | x :: w => by simp [un, un_self w]
theorem un_len : ∀ w v, (un w v).length ≤ w.length
  | [], _ => by simp [un]
  | x :: w, [] => by simp [un]
  | x :: w, y :: v => by
    have := un_len w v
    unfold un
    split <;> simp <;> omega
theorem un_nil : ∀ w v, w.length = v.length → un w v = [] → w = v
  | [], [], _, _ => rfl
  | x :: w, y :: v, hl, h => by
    unfold un at h
    split at h
    · cases h
    · rename_i hx
      have : un w v = [] := by simpa using h
      rw [un_nil w v (by simpa using hl) this]
      simp at hx
      rw [hx]
/-- one sign turned -/
def fl : List Bool → Nat → List Bool
  | [], _ => []
  | x :: w, 0 => (!x) :: w
  | x :: w, i + 1 => x :: fl w i
@[simp] theorem fl_len : ∀ w i, (fl w i).length = w.length
  | [], _ => rfl
  | x :: w, 0 => rfl
  | x :: w, i + 1 => by simp [fl, fl_len w i]
theorem un_one : ∀ w v p, w.length = v.length → un w v = [p] → 1 ≤ p ∧ p ≤ w.length ∧ fl w (p - 1) = v
  | [], _, p, _, h => by simp [un] at h
  | x :: w, [], p, hl, _ => by simp at hl
  | x :: w, y :: v, p, hl, h => by
    unfold un at h
    have hl' : w.length = v.length := by simpa using hl
    split at h
    · rename_i hx
      have hp : p = 1 := by simp at h; exact h.1.symm
      have : un w v = [] := by simpa using (List.cons.inj h).2
      have := un_nil w v hl' this
      subst hp; subst this
      refine ⟨by omega, by simp, ?_⟩
      show fl (x :: w) 0 = y :: w
      unfold fl
      cases x <;> cases y <;> simp at hx ⊢
    · rename_i hx
      obtain ⟨q, hq⟩ : ∃ q, un w v = [q] ∧ q + 1 = p := by
        match h2 : un w v with
        | [] => rw [h2] at h; cases h
        | [q] => rw [h2] at h; exact ⟨q, rfl, by simpa using h⟩
        | q :: q' :: r => rw [h2] at h; simp at h
      obtain ⟨h1, h2, h3⟩ := un_one w v q hl' hq.1
      refine ⟨by omega, by simp; omega, ?_⟩
      obtain ⟨j, rfl⟩ : ∃ j, q = j + 1 := ⟨q - 1, by omega⟩
      rw [← hq.2]
      show fl (x :: w) (j + 1) = y :: v
      unfold fl
      simp at h3
      rw [h3]
      simp at hx
      rw [hx]
/-- neighbours of the list: the place by how often 2 divides -/
theorem un_step : ∀ k N a e, N + 1 < 2 ^ k → 2 ^ e ∣ N + 1 → ¬ 2 ^ (e + 1) ∣ N + 1 → un (gr k N a) (gr k (N + 1) a) = [k - e] ∧ e < k
  | 0, N, a, e, h, _, _ => by simp at h
  | k + 1, N, a, e, h, hd, hn => by
    rw [Nat.pow_succ] at h
    unfold gr un
    by_cases h1 : N + 1 < 2 ^ k
    · have n1 : ¬ 2 ^ k ≤ N := by omega
      have n2 : ¬ 2 ^ k ≤ N + 1 := by omega
      simp only [n1, n2, decide_false, if_false]
      obtain ⟨ih, he⟩ := un_step k N false e h1 hd hn
      rw [ih]
      simp
      omega
    · by_cases h2 : N + 1 = 2 ^ k
      · have n1 : ¬ 2 ^ k ≤ N := by omega
        have n2 : 2 ^ k ≤ N + 1 := by omega
        have he : e = k := by
          have a1 : e ≤ k := by
            refine Nat.le_of_not_lt fun hlt => ?_
            rw [h2] at hd
            have := Nat.le_of_dvd (Nat.two_pow_pos k) hd
            exact absurd this (Nat.not_le.mpr (Nat.pow_lt_pow_right (by omega) hlt))
          refine Nat.le_antisymm a1 (Nat.le_of_not_lt fun hlt => hn ?_)
          rw [h2]
          exact Nat.pow_dvd_pow 2 hlt
        simp only [n1, n2, decide_true, decide_false, if_true, if_false]
        have e0 : N + 1 - 2 ^ k = 0 := by omega
        have eN : N = 2 ^ k - 1 - 0 := by omega
        have := gr_flip k 0 true (Nat.two_pow_pos k)
        rw [Bool.not_true] at this
        rw [e0, eN, this, un_self, he]
        cases a <;> simp
      · have n1 : 2 ^ k ≤ N := by omega
        have n2 : 2 ^ k ≤ N + 1 := by omega
        have he : e < k := by
          refine Nat.lt_of_not_le fun hle => ?_
          have := Nat.dvd_trans (Nat.pow_dvd_pow 2 hle) hd
          obtain ⟨c, hc⟩ := this
          have hc1 : c = 1 := by
            rcases c with _ | _ | c
            · simp at hc
            · rfl
            · exfalso
              rw [Nat.mul_add, Nat.mul_add] at hc
              have := Nat.zero_le (2 ^ k * c)
              omega
          rw [hc1] at hc; omega
        simp only [n1, n2, decide_true, if_true]
        have hk : 2 ^ e ∣ 2 ^ k := Nat.pow_dvd_pow 2 (by omega)
        have hk1 : 2 ^ (e + 1) ∣ 2 ^ k := Nat.pow_dvd_pow 2 (by omega)
        have es : N + 1 - 2 ^ k = (N - 2 ^ k) + 1 := by omega
        have en : N + 1 = ((N - 2 ^ k) + 1) + 2 ^ k := by omega
        obtain ⟨ih, _⟩ := un_step k (N - 2 ^ k) true e (by omega) (by rw [en] at hd; exact (Nat.dvd_add_left hk).mp hd) (by rw [en] at hn; exact fun hh => hn (Nat.dvd_add hh hk1))
        rw [es, ih]
        simp
        omega
theorem two_odd : ∀ n : Nat, 0 < n → ∃ e, 2 ^ e ∣ n ∧ ¬ 2 ^ (e + 1) ∣ n
  | 0, h => by omega
  | n + 1, h => by
    by_cases hd : 2 ∣ n + 1
    · obtain ⟨m, hm⟩ := hd
      obtain ⟨e, h1, h2⟩ := two_odd m (by omega)
      refine ⟨e + 1, ?_, ?_⟩
      · rw [hm, Nat.pow_succ, Nat.mul_comm]; exact Nat.mul_dvd_mul (Nat.dvd_refl 2) h1
      · rw [hm, Nat.pow_succ, Nat.mul_comm]
        exact fun hh => h2 (Nat.dvd_of_mul_dvd_mul_left (by omega) hh)
    · exact ⟨0, by simp, by simpa using hd⟩
/-- distances -/
theorem un_tri : ∀ w v u, w.length = v.length → v.length = u.length → (un w u).length ≤ (un w v).length + (un v u).length ∧ (un w u).length % 2 = ((un w v).length + (un v u).length) % 2
  | [], [], [], _, _ => by simp [un]
  | x :: w, y :: v, z :: u, h1, h2 => by
    obtain ⟨a, b⟩ := un_tri w v u (by simpa using h1) (by simpa using h2)
    unfold un
    cases x <;> cases y <;> cases z <;> simp <;> omega
theorem un_far : ∀ d k N a, N + d < 2 ^ k → (un (gr k N a) (gr k (N + d) a)).length ≤ d ∧ (un (gr k N a) (gr k (N + d) a)).length % 2 = d % 2
  | 0, k, N, a, _ => by simp [un_self]
  | d + 1, k, N, a, h => by
    obtain ⟨h1, h2⟩ := un_far d k N a (by omega)
    obtain ⟨e, e1, e2⟩ := two_odd (N + d + 1) (by omega)
    obtain ⟨h3, _⟩ := un_step k (N + d) a e h e1 e2
    obtain ⟨h4, h5⟩ := un_tri (gr k N a) (gr k (N + d) a) (gr k (N + d + 1) a) (by simp) (by simp)
    rw [h3] at h4 h5
    simp at h4 h5
    rw [show N + (d + 1) = N + d + 1 by omega]
    omega
/-- dividing by 2 as often as it goes -/
def st : Nat → Nat → Int → Int
  | 0, _, p => p
  | t + 1, n, p => if n % 2 = 0 then st t (n / 2) (p - 1) else st t n p
theorem st_odd : ∀ t n p, n % 2 = 1 → st t n p = p
  | 0, n, p, _ => rfl
  | t + 1, n, p, h => by unfold st; rw [if_neg (by omega)]; exact st_odd t n p h
theorem st_val : ∀ e t n p, e ≤ t → 2 ^ e ∣ n → ¬ 2 ^ (e + 1) ∣ n → st t n p = p - e
  | 0, t, n, p, _, _, h => by rw [st_odd t n p (by simp at h; omega)]; simp
  | e + 1, 0, n, p, h, _, _ => by omega
  | e + 1, t + 1, n, p, h, h1, h2 => by
    obtain ⟨m, rfl⟩ : 2 ∣ n := Nat.dvd_trans (by rw [Nat.pow_succ]; exact Nat.dvd_mul_left 2 _) h1
    unfold st
    rw [if_pos (by omega), show 2 * m / 2 = m by omega]
    rw [st_val e t m (p - 1) (by omega) (by rw [Nat.pow_succ, Nat.mul_comm] at h1; exact Nat.dvd_of_mul_dvd_mul_left (by omega) h1) (by intro hh; apply h2; rw [Nat.pow_succ, Nat.mul_comm]; exact Nat.mul_dvd_mul (Nat.dvd_refl 2) hh)]
    omega
theorem wd_rep (b : Bool) (k : Nat) : PyData.tuple (List.replicate k [PyData.int (bi b)]).flatten = wd (List.replicate k b) := by
  unfold wd il
  congr 1
  induction k with
  | zero => rfl
  | succ k ih => rw [List.replicate_succ, List.flatten_cons, ih]; rfl
theorem gMul_wd0 (k : Nat) (h : k ≤ 1000) : gMul (.tuple [.int 0]) (.int (k : Int)) = some (.sh (wd (List.replicate k false))) := by
  rw [← wd_rep]
  have : k ≤ 1000 ∧ 1 ≤ 1000 := ⟨h, by omega⟩
  simp only [gMul, Int.natAbs_natCast, List.length_singleton, this, and_self, if_true, Int.toNat_natCast]
  rfl
theorem gMul_wd1 (k : Nat) (h : k ≤ 1000) : gMul (.tuple [.int 1]) (.int (k : Int)) = some (.sh (wd (List.replicate k true))) := by
  rw [← wd_rep]
  have : k ≤ 1000 ∧ 1 ≤ 1000 := ⟨h, by omega⟩
  simp only [gMul, Int.natAbs_natCast, List.length_singleton, this, and_self, if_true, Int.toNat_natCast]
  rfl
theorem gAdd_wd1 (w : List Bool) (h : w.length ≤ 1000) : gAdd (.tuple [.int 1]) (wd w) = some (.sh (wd (true :: w))) := by
  have := gAddT [.int 1] (il (w.map bi)) (by simp; omega)
  unfold wd; rw [this]; rfl
theorem gAdd_wd0 (w : List Bool) (h : w.length ≤ 1000) : gAdd (.tuple [.int 0]) (wd w) = some (.sh (wd (false :: w))) := by
  have := gAddT [.int 0] (il (w.map bi)) (by simp; omega)
  unfold wd; rw [this]; rfl
/-- how many signs are 1 -/
def cnt (w : List Bool) : Nat := (w.map fun b => if b then 1 else 0).sum
theorem cnt_cons (b : Bool) (w : List Bool) : cnt (b :: w) = (if b then 1 else 0) + cnt w := by simp [cnt]
theorem sum_bi : ∀ w : List Bool, (w.map bi).sum = (cnt w : Int)
  | [] => rfl
  | b :: w => by rw [List.map_cons, List.sum_cons, sum_bi w, cnt_cons]; cases b <;> simp [bi]
theorem dc_par : ∀ (w : List Bool) f a, w ≠ [] → dc w f a % 2 = (cnt w + if a then 1 else 0) % 2
  | [], _, _, h => absurd rfl h
  | [b], f, a, _ => by cases a <;> cases b <;> simp [dc, cnt] <;> omega
  | b :: c :: w, f, a, _ => by
    rw [dc, dc_par (c :: w) _ _ (by simp), cnt_cons b]
    cases a <;> cases b <;> simp <;> omega
theorem dc_neg : ∀ w : List Bool, dc w 0 true + dc w 0 false + 1 = 2 ^ w.length
  | [] => rfl
  | b :: w => by
    have ih := dc_neg w
    simp only [dc, Nat.mul_zero, Nat.zero_add]
    rw [dc_lin, dc_lin w (if (false != b) = true then 1 else 0), List.length_cons, Nat.pow_succ]
    cases b <;> simp <;> omega
/-- the number by turning about what is behind -/
def rn : List Bool → Nat
  | [] => 0
  | b :: w => if b then 2 ^ (w.length + 1) - 1 - rn w else rn w
theorem rn_dc : ∀ w, rn w = dc w 0 false
  | [] => rfl
  | b :: w => by
    have := dc_neg w
    simp only [rn, dc, Nat.mul_zero, Nat.zero_add, rn_dc w]
    rw [dc_lin w (if (false != b) = true then 1 else 0)]
    cases b <;> simp
    rw [Nat.pow_succ]; omega
end Z
end
section
namespace Z
open PySem PySem.Spec L2
/-! ### the cup: draws in their bounds -/
def Cup (x y : Int) : Prop := 0 ≤ x ∧ 0 ≤ y ∧ y < 4294967296
def cupB (K A B M C : Int) : SF :=
    sSeq (sSet 1 (fCall gAbs (hCons (oE (fOp gIx (oE (fOp gAdd (oE (fListZ 0)) (oE (fLst (aCons (fC (.int 0)) (aNil)))))) (oE (fC (.int 0))))) (hNil))))
    (sRet (fLst (aCons (fIf (bOf (fOp gGe (oN 1) (oE (fOp gPow (oE (fC (.int 10))) (oE (fC (.int 18))))))) (fOp gDiv (oN 1) (oE (fC (.int K)))) (fC (.int 0))) (aCons (fOp gAdd (oE (fOp gMod (oE (fCall gInt (hCons (oE (fOp gAdd (oE (fOp gMul (oN 1) (oE (fC (.int A))))) (oE (fC (.int B))))) (hNil)))) (oE (fC (.int M))))) (oE (fC (.int C)))) (aNil)))))
def rollB (A B M C N E : Int) : SF :=
    sSeq (sIf (bOf (fOp gGt (oE (fOp gIx (oN 0) (oE (fC (.int 0))))) (oE (fC (.int 0))))) (sSeq (sSet 2 (fOp gMod (oE (fCall gInt (hCons (oE (fOp gIx (oN 0) (oE (fC (.int 0))))) (hNil)))) (oN 1)))
    (sSeq (sSetIx 0 (fOp gDiv (oE (fOp gIx (oN 0) (oE (fC (.int 0))))) (oN 1)) (oE (fC (.int 0))))
    (sRet (fM 2)))) (sNx))
    (sSeq (sSetIx 0 (fOp gMod (oE (fCall gInt (hCons (oE (fOp gAdd (oE (fOp gMul (oE (fOp gIx (oN 0) (oE (fC (.int 1))))) (oE (fC (.int A))))) (oE (fC (.int B))))) (hNil)))) (oE (fC (.int M)))) (oE (fC (.int 1))))
    (sSeq (sSet 3 (fOp gMod (oE (fCall gInt (hCons (oE (fOp gMul (oE (fOp gIx (oN 0) (oE (fC (.int 1))))) (oE (fOp gAdd (oE (fOp gIx (oN 0) (oE (fC (.int 1))))) (oE (fC (.int C))))))) (hNil)))) (oE (fC (.int N)))))
    (sRet (fOp gMod (oE (fCall gInt (hCons (oE (fOp gDiv (oN 3) (oE (fC (.int E))))) (hNil)))) (oN 1)))))
theorem cup_val (K A B M C : Int) (h : (0 < K ∧ K < 1073741824) ∧ A.natAbs < 18446744073709551616 ∧ (0 < M ∧ M < 2147483648) ∧ (0 ≤ C ∧ C < 2147483648)) (ns : List Int) (hl : ns.length ≤ 63) : ∃ x y : Int, retF (cupB K A B M C) 2 [.fz ns] = .ok (.ow (.list [.int x, .int y])) ∧ Cup x y := by
  obtain ⟨⟨k1, k2⟩, ha', ⟨m1, m2⟩, c1, c2⟩ := h
  have core : ∀ c : Int, (il ns ++ [PyData.int 0])[0]? = some (.int c) → ∃ x y : Int, retF (cupB K A B M C) 2 [.fz ns] = .ok (.ow (.list [.int x, .int y])) ∧ Cup x y := by
    intro c hc
    obtain ⟨a, ha, ha0⟩ : ∃ a : Int, gAbs [.int c] = some (.sh (.int a)) ∧ 0 ≤ a := ⟨_, gAbs_int c, by split <;> omega⟩
    have hadd := gAddL (ns.map PyData.int) [.int 0] (by simp; omega)
    have hix : gIx (.list (ns.map PyData.int ++ [.int 0])) (.int 0) = some (.sh (.int c)) := by
      have := gIx_lst (ns.map PyData.int ++ [.int 0]) 0
      unfold il at hc
      rw [hc] at this
      exact this
    have hp : gPow (.int 10) (.int 18) = some (.sh (.int 1000000000000000000)) := by rfl
    refine ⟨if 1000000000000000000 ≤ a then a / K else 0, (a * A + B) % M + C, ?_, ?_, ?_⟩
    · unfold cupB
      rw [retF_eq]
      simp [-gAbs_int, hadd, hix, ha, hp, gDiv_int _ _ k1 k2, gMul_int a A (.inr ha'), gMod_int _ _ m1]
      by_cases hb : (1000000000000000000 : Int) ≤ a <;> simp [hb]
    · split
      · exact Int.ediv_nonneg ha0 (by omega)
      · exact Int.le_refl 0
    · have := Int.emod_nonneg (a * A + B) (show M ≠ 0 by omega)
      have := Int.emod_lt_of_pos (a * A + B) m1
      omega
  cases ns with
  | nil => exact core 0 rfl
  | cons n r => exact core n rfl
theorem roll_wide (A B M C N E : Int) (h : A.natAbs < 18446744073709551616 ∧ (0 < M ∧ M < 4294967296) ∧ (0 < N) ∧ (0 < E ∧ E < 1073741824)) (x y m : Int) (hc : Cup x y) (hm : 0 < m) (hm2 : m < 18446744073709551616) :
    ∃ r x' y' : Int, retC (rollB A B M C N E) 4 x y [.sh (.int m)] = .ok (.sh (.int r), x', y') ∧ 0 ≤ r ∧ r < m ∧ Cup x' y' := by
  obtain ⟨ha, ⟨m1, m2⟩, n1, e1, e2⟩ := h
  obtain ⟨hx, hy, hy2⟩ := hc
  by_cases h : 0 < x
  · refine ⟨x % m, x / m, y, ?_, Int.emod_nonneg _ (by omega), Int.emod_lt_of_pos _ hm, Int.ediv_nonneg hx (by omega), hy, hy2⟩
    unfold rollB
    rw [retC_eq]
    simp [gIx, atI, ixN, h, gMod_int x m hm, gDiv_64 x m hm hm2]
  · let z := (y * A + B) % M
    have z1 : 0 ≤ z := Int.emod_nonneg _ (by omega)
    have z2 : z < M := Int.emod_lt_of_pos _ m1
    refine ⟨(z * (z + C)) % N / E % m, x, z, ?_, Int.emod_nonneg _ (by omega), Int.emod_lt_of_pos _ hm, hx, z1, by omega⟩
    unfold rollB
    rw [retC_eq]
    simp [gIx, atI, ixN, h, gMul_int y A (.inr ha), gMod_int _ M m1, gMod_int _ N n1, gMod_int _ m hm, gDiv_int _ E e1 e2]
    have g := gMul_int z (z + C) (.inl (by omega))
    simp [z] at g
    simp [g, z, gMod_int _ N n1, gMod_int _ m hm, gDiv_int _ E e1 e2]
theorem roll_val (A B M C N E : Int) (h : A.natAbs < 18446744073709551616 ∧ (0 < M ∧ M < 4294967296) ∧ (0 < N) ∧ (0 < E ∧ E < 1073741824)) (x y m : Int) (hc : Cup x y) (hm : 0 < m) (hm2 : m < 1073741824) :
    ∃ r x' y' : Int, retC (rollB A B M C N E) 4 x y [.sh (.int m)] = .ok (.sh (.int r), x', y') ∧ 0 ≤ r ∧ r < m ∧ Cup x' y' :=
  roll_wide A B M C N E h x y m hc hm (by omega)
end Z
end
section
namespace Z
open PySem PySem.Spec L2
/-! ### what is told is what is due -/
def sameB (me : List S → Rs S) : SF :=
    sSeq (sIf (fOrB (fTruth (oE (fIsi "tuple" (oN 1)))) (fTruth (oE (fIsi "list" (oN 1))))) (sSeq (sIf (fOrB (bOf (fOp gNe (oE (fIsi "tuple" (oN 0))) (oE (fIsi "tuple" (oN 1))))) (fOrB (bOf (fOp gNe (oE (fIsi "list" (oN 0))) (oE (fIsi "list" (oN 1))))) (bOf (fOp gNe (oE (fCall gLen (hCons (oN 0) (hNil)))) (oE (fCall gLen (hCons (oN 1) (hNil)))))))) (sRet (fC (.bool false))) (sNx))
    (sRet (fOp gEq (oE (fLc [2] (iRange1 (hCons (oE (fCall gLen (hCons (oN 1) (hNil)))) (hNil))) (gNm 2) (fNotB (fTruth (oE (fUser me (aCons (fOp gIx (oN 0) (oN 2)) (aCons (fOp gIx (oN 1) (oN 2)) (aNil))))))) (fC (.int 1)))) (oE (fLst (aNil)))))) (sNx))
    (sSeq (sIf (bOf (fOp gIs (oN 1) (oE (fC .none)))) (sRet (fOp gIs (oN 0) (oE (fC .none)))) (sNx))
    (sSeq (sIf (fTruth (oE (fIsi "bool" (oN 1)))) (sRet (fIf (fTruth (oN 1)) (fOp gIs (oN 0) (oE (fC (.bool true)))) (fOp gIs (oN 0) (oE (fC (.bool false)))))) (sNx))
    (sSeq (sIf (fTruth (oE (fIsi "int" (oN 1)))) (sRet (fAndV (fIsi "int" (oN 0)) (fAndV (fNotV (oE (fIsi "bool" (oN 0)))) (fOp gEq (oE (fCall gInt (hCons (oN 0) (hNil)))) (oN 1))))) (sNx))
    (sRet (fAndV (fIsi "str" (oN 0)) (fOp gEq (oE (fCall gStr (hCons (oN 0) (hNil)))) (oN 1)))))))
def sameR : Nat → List S → Rs S
  | 0 => fun _ => .no
  | n + 1 => retF (sameB (sameR n)) 3
mutual
def sk : D → Bool
  | .dict _ => false
  | .list ds => decide (ds.length ≤ 1000000) && skAll ds
  | .tuple ds => decide (ds.length ≤ 1000000) && skAll ds
  | .none => true
  | .bool _ => true
  | .int _ => true
  | .str _ => false
def skAll : List D → Bool
  | [] => true
  | d :: r => sk d && skAll r
end
theorem skAll_mem : ∀ {ds : List D} {d : D}, skAll ds = true → d ∈ ds → sk d = true
  | e :: r, d, h, hm => by
    simp only [skAll, Bool.and_eq_true] at h
    rcases List.mem_cons.mp hm with rfl | hm
    · exact h.1
    · exact skAll_mem h.2 hm
theorem depthAll_mem : ∀ {ds : List D} {d : D}, d ∈ ds → PyData.depth d ≤ PyData.depthAll ds
  | e :: r, d, hm => by
    simp only [PyData.depthAll]
    rcases List.mem_cons.mp hm with rfl | hm
    · omega
    · have := depthAll_mem hm; omega
theorem isTy_list (ds : List D) (T : String) : isTy T (.list ds) = (T == "list") := rfl
theorem isTy_tup (ds : List D) (T : String) : isTy T (.tuple ds) = (T == "tuple") := rfl
theorem same_seq (n : Nat) (ih : ∀ d, PyData.depth d < n → sk d = true → sameR n [.sh d, .sh d] = .ok (.sh (.bool true))) (ds : List D) (h : PyData.depthAll ds < n) (hs : skAll ds = true) (hl : ds.length ≤ 1000000) (b : D) (hb : b = .list ds ∨ b = .tuple ds) :
    lcL [2] (gNm 2) (fNotB (fTruth (oE (fUser (sameR n) (aCons (fOp gIx (oN 0) (oN 2)) (aCons (fOp gIx (oN 1) (oN 2)) (aNil))))))) (fC (.int 1)) ((List.range ds.length).map fun i => PyData.int ((i : Nat) : Int)) [.sh b, .sh b, .u] [] = some ([], [.sh b, .sh b, .u]) := by
  rw [lcL_m (fun i : Nat => PyData.int i) (fun _ => false) (fun _ => .int 1) [.sh b, .sh b, .u] (List.range ds.length) [] (by simp; omega) fun i hi => ?_]
  · simp
  · simp at hi
    have hm := List.getElem_mem hi
    have e := ih ds[i] (by have := depthAll_mem hm; omega) (skAll_mem hs hm)
    have g : gIx b (.int (i : Int)) = some (.sh ds[i]) := by rcases hb with rfl | rfl <;> simp [gIx_lst, gIx_tup, hi]
    refine ⟨[.sh b, .sh b, .sh (.int i)], [.sh b, .sh b, .sh (.int i)], by simp, ?_, fun _ => ⟨rfl, rfl⟩, fun z => by cases z⟩
    simp [g, e]
theorem same_refl : ∀ n d, PyData.depth d < n → sk d = true → sameR n [.sh d, .sh d] = .ok (.sh (.bool true))
  | 0, d, h, _ => by omega
  | n + 1, d, h, hs => by
    have ih := same_refl n
    unfold sameR sameB
    rw [retF_eq]
    cases d with
    | none => simp [isTy]
    | bool b => cases b <;> simp [isTy]
    | int i => simp [isTy]
    | str z => cases hs
    | list ds =>
      simp only [sk, Bool.and_eq_true, decide_eq_true_eq] at hs
      have e := same_seq n ih ds (by simp only [PyData.depth] at h; omega) hs.2 hs.1 _ (.inl rfl)
      have hb : bnd (ds.length : Int) := by unfold bnd; omega
      simp [isTy, hb, clean, wipeS, restS, plainS, rangeD0]
      rw [e]
      simp [gEq_lnil]
    | tuple ds =>
      simp only [sk, Bool.and_eq_true, decide_eq_true_eq] at hs
      have e := same_seq n ih ds (by simp only [PyData.depth] at h; omega) hs.2 hs.1 _ (.inr rfl)
      have hb : bnd (ds.length : Int) := by unfold bnd; omega
      simp [isTy, hb, clean, wipeS, restS, plainS, rangeD0]
      rw [e]
      simp [gEq_lnil]
    | dict _ => cases hs
theorem sk_il : ∀ ns : List Int, skAll (il ns) = true
  | [] => rfl
  | n :: r => by simp [skAll, sk, sk_il r]
theorem sk_nl (ns : List Nat) : skAll (nl ns) = true := by rw [nl_il]; exact sk_il _
end Z
end
section
namespace Z
open PySem PySem.Spec L2
/-! ### runs of statements, told by what holds behind them -/
def Wp (g : SF) (ρ : List S) (Q : Out → List S → Prop) : Prop := ∃ o ρ', g ρ = .ok (o, ρ') ∧ Q o ρ'
theorem Wp.one {g : SF} {ρ ρ1 : List S} {o : Out} {Q : Out → List S → Prop} (h : g ρ = .ok (o, ρ1)) (q : Q o ρ1) : Wp g ρ Q := ⟨o, ρ1, h, q⟩
theorem Wp.seq {g u : SF} {ρ ρ1 : List S} {Q : Out → List S → Prop} (h : g ρ = .ok (.nx, ρ1)) (q : Wp u ρ1 Q) : Wp (sSeq g u) ρ Q := by
  obtain ⟨o, ρ', e, q⟩ := q
  exact ⟨o, ρ', by rw [sSeq_nx h, e], q⟩
theorem Wp.rt {g u : SF} {ρ ρ1 : List S} {r : S} {Q : Out → List S → Prop} (h : g ρ = .ok (.rt r, ρ1)) (q : Q (.rt r) ρ1) : Wp (sSeq g u) ρ Q := ⟨_, _, sSeq_rt h, q⟩
/-- a statement behind which a list stands whose items do not matter -/
theorem Wp.seqL {g u : SF} {ρ : List S} {Q : Out → List S → Prop} (n : Nat) (st : List D → List S) (h : ∃ L, L.length ≤ n ∧ g ρ = .ok (.nx, st L)) (q : ∀ L, L.length ≤ n → Wp u (st L) Q) : Wp (sSeq g u) ρ Q := by
  obtain ⟨L, hl, e⟩ := h
  exact .seq e (q L hl)
theorem Wp.seqW {g u : SF} {ρ : List S} {Q : Out → List S → Prop} (h : Wp g ρ fun o ρ1 => o = .nx ∧ Wp u ρ1 Q) : Wp (sSeq g u) ρ Q := by
  obtain ⟨o, ρ1, e, rfl, q⟩ := h
  exact .seq e q
theorem Wp.imp {g : SF} {ρ : List S} {Q R : Out → List S → Prop} (h : Wp g ρ Q) (i : ∀ o ρ, Q o ρ → R o ρ) : Wp g ρ R := by
  obtain ⟨o, ρ1, e, q⟩ := h
  exact ⟨o, ρ1, e, i _ _ q⟩
theorem Wp.ifT {c : BF} {g u : SF} {ρ ρ1 : List S} {Q : Out → List S → Prop} (h : c ρ = .ok (true, ρ1)) (q : Wp g ρ1 Q) : Wp (sIf c g u) ρ Q := by
  obtain ⟨o, ρ', e, q⟩ := q
  exact ⟨o, ρ', by rw [sIf_eq, h]; exact e, q⟩
theorem Wp.ifF {c : BF} {g u : SF} {ρ ρ1 : List S} {Q : Out → List S → Prop} (h : c ρ = .ok (false, ρ1)) (q : Wp u ρ1 Q) : Wp (sIf c g u) ρ Q := by
  obtain ⟨o, ρ', e, q⟩ := q
  exact ⟨o, ρ', by rw [sIf_eq, h]; exact e, q⟩
/-- a test that says no, and goes on -/
theorem Wp.no {c : BF} {g u : SF} {ρ ρ1 : List S} {Q : Out → List S → Prop} (h : c ρ = .ok (false, ρ1)) (q : Wp u ρ1 Q) : Wp (sSeq (sIf c g sNx) u) ρ Q := .seq (by rw [sIf_eq, h]; rfl) q
theorem Wp.for_ {α : Type} {it : IF} {t : GF} {b : SF} {ρ ρ0 : List S} {Q : Out → List S → Prop} (F : α → D) (xs : List α) (P : Nat → List S → Prop) (hit : it ρ = .ok (xs.map F, ρ0)) (h0 : P 0 ρ0)
    (hb : ∀ i x ρ, xs[i]? = some x → P i ρ → ∃ ρ1, t (F x) ρ = some ρ1 ∧ Wp b ρ1 fun o ρ2 => o = .nx ∧ P (i + 1) ρ2) (hq : ∀ ρ', P xs.length ρ' → Q .nx ρ') : Wp (sFor it t b) ρ Q := by
  obtain ⟨ρ', e, hp⟩ := forL_m (t := t) (b := b) F P xs ρ0 h0 fun i x ρ hx hp => by
    obtain ⟨ρ1, e1, o, ρ2, e2, rfl, hp2⟩ := hb i x ρ hx hp
    exact ⟨ρ1, ρ2, e1, e2, hp2⟩
  exact ⟨.nx, ρ', by rw [sFor_eq, hit]; exact e, hq _ hp⟩
theorem Wp.range {it : IF} {t : GF} {b : SF} {ρ ρ0 : List S} {Q : Out → List S → Prop} (n : Nat) (P : Nat → List S → Prop) (hit : it ρ = .ok (rangeD 0 1 n, ρ0)) (h0 : P 0 ρ0)
    (hb : ∀ i ρ, i < n → P i ρ → ∃ ρ1, t (.int (i : Int)) ρ = some ρ1 ∧ Wp b ρ1 fun o ρ2 => o = .nx ∧ P (i + 1) ρ2) (hq : ∀ ρ', P n ρ' → Q .nx ρ') : Wp (sFor it t b) ρ Q := by
  obtain ⟨ρ', e, hp⟩ := forL_rg (t := t) (b := b) P n ρ0 h0 fun i ρ hi hp => by
    obtain ⟨ρ1, e1, o, ρ2, e2, rfl, hp2⟩ := hb i ρ hi hp
    exact ⟨ρ1, ρ2, e1, e2, hp2⟩
  exact ⟨.nx, ρ', by rw [sFor_eq, hit]; exact e, hq _ hp⟩
theorem Wp.each {it : IF} {t : GF} {b : SF} {ρ ρ0 : List S} {Q : Out → List S → Prop} {ds : List D} (P : List S → Prop) (hit : it ρ = .ok (ds, ρ0)) (h0 : P ρ0)
    (hb : ∀ d ρ, d ∈ ds → P ρ → ∃ ρ1, t d ρ = some ρ1 ∧ Wp b ρ1 fun o ρ2 => o = .nx ∧ P ρ2) (hq : ∀ ρ', P ρ' → Q .nx ρ') : Wp (sFor it t b) ρ Q := by
  obtain ⟨ρ', e, hp⟩ := forL_ex (t := t) (b := b) (fun _ ρ => P ρ) ds 0 ρ0 h0 fun i d ρ hd hp => by
    obtain ⟨ρ1, e1, o, ρ2, e2, rfl, hp2⟩ := hb d ρ (List.mem_of_getElem? hd) hp
    exact ⟨ρ1, ρ2, e1, e2, hp2⟩
  exact ⟨.nx, ρ', by rw [sFor_eq, hit]; exact e, hq _ hp⟩
theorem Wp.ret {g : SF} {N : Nat} {args : List S} {d : D} (h : Wp g (args ++ List.replicate (N - args.length) .u) fun o _ => o = .rt (.sh d)) : retF g N args = .ok (.sh d) := by
  obtain ⟨o, ρ', e, rfl⟩ := h
  rw [retF_eq, e]; rfl
theorem Wp.retO {g : SF} {N : Nat} {args : List S} {d : D} (h : Wp g (args ++ List.replicate (N - args.length) .u) fun o _ => o = .rt (.ow d)) : retF g N args = .ok (.ow d) := by
  obtain ⟨o, ρ', e, rfl⟩ := h
  rw [retF_eq, e]; rfl
theorem Wp.retS {g : SF} {N : Nat} {args : List S} {d : D} (h : Wp g (args ++ List.replicate (N - args.length) .u) fun o _ => o = .rt (.sh d) ∨ o = .rt (.ow d)) : ∃ s, retF g N args = .ok s ∧ (s = .sh d ∨ s = .ow d) := by
  obtain ⟨o, ρ', e, rfl | rfl⟩ := h
  · exact ⟨_, by rw [retF_eq, e]; rfl, .inl rfl⟩
  · exact ⟨_, by rw [retF_eq, e]; rfl, .inr rfl⟩
theorem bnd_nat {n : Nat} (h : n < 1000000000) : bnd (n : Int) := by unfold bnd; omega
theorem bnd_iff (i : Int) : bnd i ↔ i.natAbs < 4611686018427387904 := Iff.rfl
theorem iRange3_eq (fH : HF) (ρ : List S) : iRange3 fH ρ = (fH ρ >>= fun p => Rs.of (looks p.1 p.2) >>= fun ds => match ds with
  | [.int i, .int j, .int c] => if c ≠ 0 ∧ c.natAbs < 1073741824 ∧ Builtin.Range.small i j c = true ∧ 0 ≤ Builtin.Range.rangeSize i j c then .ok (rangeD i c (Builtin.Range.rangeSize i j c).toNat, p.2) else .no
  | _ => .no) := rfl
theorem rangeD_map (lo c : Int) (n : Nat) : rangeD lo c n = (List.range n).map fun k : Nat => PyData.int (lo + (k : Nat) * c) := rfl
theorem iRange3_down (n : Nat) (h : n < 1000000000) {fH : HF} {ρ ρ1 : List S} {hs : List Hd} (h1 : fH ρ = .ok (hs, ρ1)) (h2 : looks hs ρ1 = some [.int ((n : Int) - 1), .int (-1), .int (-1)]) : iRange3 fH ρ = .ok ((List.range n).map (fun k : Nat => PyData.int ((n : Int) - 1 - (k : Nat))), ρ1) := by
  rw [iRange3_eq, h1]
  simp only [Rs.bind_ok, h2, Rs.of_some]
  have hsz : Builtin.Range.rangeSize ((n : Int) - 1) (-1) (-1) = (n : Int) := by
    unfold Builtin.Range.rangeSize
    simp
    omega
  have hsm : Builtin.Range.small ((n : Int) - 1) (-1) (-1) = true := PySem.W.small_down (by omega) (by omega) (by omega) (by omega)
  rw [hsz, hsm]
  simp [rangeD_map]
  intro a _; omega
theorem forL_all {α : Type} {t : GF} {b : SF} (F : α → D) (q : α → Bool) (r : S) (P : List S → Prop)
    (h : ∀ x ρ, P ρ → ∃ ρ1, t (F x) ρ = some ρ1 ∧ (q x = true → ∃ ρ2, b ρ1 = .ok (.nx, ρ2) ∧ P ρ2) ∧ (q x = false → ∃ ρ2, b ρ1 = .ok (.rt r, ρ2))) :
    ∀ (xs : List α) (ρ : List S), P ρ → (xs.all q = true → ∃ ρ', forL t b (xs.map F) ρ = .ok (.nx, ρ') ∧ P ρ') ∧ (xs.all q = false → ∃ ρ', forL t b (xs.map F) ρ = .ok (.rt r, ρ'))
  | [], ρ, hp => ⟨fun _ => ⟨ρ, rfl, hp⟩, fun z => by cases z⟩
  | x :: xs, ρ, hp => by
    obtain ⟨ρ1, e1, h1, h2⟩ := h x ρ hp
    cases hq : q x with
    | false =>
      obtain ⟨ρ2, e2⟩ := h2 hq
      refine ⟨fun z => (by simp [hq] at z), fun _ => ⟨ρ2, ?_⟩⟩
      rw [List.map_cons]
      unfold forL
      rw [e1]
      simp only [Rs.of_some, Rs.bind_ok, e2]
    | true =>
      obtain ⟨ρ2, e2, hp2⟩ := h1 hq
      obtain ⟨a, b'⟩ := forL_all F q r P h xs ρ2 hp2
      rw [List.map_cons, forL_step e1 e2]
      exact ⟨fun z => a (by simpa [hq] using z), fun z => b' (by simpa [hq] using z)⟩
/-- a comprehension whose elements draw, each by its own item -/
theorem lcL_dr {α : Type} {vs : List Nat} {t : GF} {f : EF} (F : α → D) (R : α → D → Prop) (P : List S → Prop) : ∀ (is : List α) (acc : List D) (ρ : List S), acc.length + is.length ≤ 16777216 → P ρ → (∀ x ∈ is, ∀ ρ, P ρ → ∃ ρ1 ρ2 e, t (F x) ρ = some ρ1 ∧ f ρ1 = .ok (.sh e, ρ2) ∧ R x e ∧ clean vs ρ2 = true ∧ P (wipeS ρ2 vs)) →
    ∃ es ρ', lcL vs t bYes f (is.map F) ρ acc = some (acc ++ es, ρ') ∧ es.length = is.length ∧ (∀ p ∈ es.zip is, R p.2 p.1) ∧ P ρ'
  | [], acc, ρ, _, h0, _ => ⟨[], ρ, by simp [lcL], rfl, by simp, h0⟩
  | x :: is, acc, ρ, hl, h0, h => by
    obtain ⟨ρ1, ρ2, e, e1, e2, he, e4, h5⟩ := h x List.mem_cons_self ρ h0
    have hlt : acc.length < 16777216 := by simp at hl; omega
    obtain ⟨es, ρ', q1, q2, q3, q4⟩ := lcL_dr F R P is (acc ++ [e]) (wipeS ρ2 vs) (by simp at hl ⊢; omega) h5 fun y hy => h y (List.mem_cons_of_mem _ hy)
    refine ⟨e :: es, ρ', ?_, by simp [q2], fun p hp => ?_, q4⟩
    · rw [List.map_cons]
      unfold lcL
      rw [e1]
      simp only [Option.bind_some, bYes, toOpt, if_true]
      rw [e2]
      simp only [toOpt, Option.bind_some, e4, hlt, decide_true, Bool.and_self, if_true]
      rw [q1]; simp
    · rw [List.zip_cons_cons] at hp
      rcases List.mem_cons.mp hp with rfl | hp
      · exact he
      · exact q3 p hp
end Z
end
section
namespace Z
open PySem PySem.Spec L2
/-! ### equations of tables -/
@[simp] theorem lookT_eq (i : Nat) (ρ : List S) : lookT i ρ = (match ρ[i]? with
  | some (.od t) => some t
  | some (.sd t) => some t
  | _ => none) := Eq.trans rfl rfl
@[simp] theorem ownT_def (i : Nat) (ρ : List S) : ownT i ρ = (match ρ[i]? with
  | some (.od t) => some t
  | _ => none) := Eq.trans rfl rfl
@[simp] theorem shOf_sh (d : D) : shOf (.sh d) = some d := Eq.trans rfl rfl
@[simp] theorem shOf_ow (d : D) : shOf (.ow d) = some d := Eq.trans rfl rfl
@[simp] theorem okV_sh (d : D) : okV (.sh d) = true := Eq.trans rfl rfl
@[simp] theorem okV_ow (d : D) : okV (.ow d) = true := Eq.trans rfl rfl
@[simp] theorem okV_sd (d : DT) : okV (.sd d) = true := Eq.trans rfl rfl
@[simp] theorem okV_od (d : DT) : okV (.od d) = true := Eq.trans rfl rfl
@[simp] theorem fDIn_eq (neg : Bool) (fk : OF) (i : Nat) (ρ : List S) : fDIn neg fk i ρ = (fk ρ >>= fun p => Rs.of (lookT i p.2) >>= fun t => Rs.of (look p.1 p.2) >>= fun d => Rs.of (dtGet t d) >>= fun o => .ok (.sh (.bool (o.isSome != neg)), p.2)) := Eq.trans rfl rfl
@[simp] theorem fDGet_eq (i : Nat) (fk : OF) (ρ : List S) : fDGet i fk ρ = (Rs.of (lookT i ρ) >>= fun _ => fk ρ >>= fun p => Rs.of (lookT i p.2) >>= fun t => Rs.of (look p.1 p.2) >>= fun d => Rs.of (dtGet t d) >>= fun o => Rs.of o >>= fun r => .ok (.sh r, p.2)) := Eq.trans rfl rfl
@[simp] theorem fDGet1_eq (i : Nat) (fk : OF) (ρ : List S) : fDGet1 i fk ρ = (Rs.of (lookT i ρ) >>= fun _ => fk ρ >>= fun p => Rs.of (lookT i p.2) >>= fun t => Rs.of (look p.1 p.2) >>= fun d => Rs.of (dtGet t d) >>= fun o => .ok (.sh (o.getD .none), p.2)) := Eq.trans rfl rfl
@[simp] theorem fDGet2_eq (i : Nat) (fk : OF) (fd : EF) (ρ : List S) : fDGet2 i fk fd ρ = (Rs.of (lookT i ρ) >>= fun _ => fk ρ >>= fun p => fd p.2 >>= fun q => Rs.of (shOf q.1) >>= fun z => Rs.of (lookT i q.2) >>= fun t => Rs.of (look p.1 q.2) >>= fun d => Rs.of (dtGet t d) >>= fun o => .ok (.sh (o.getD z), q.2)) := Eq.trans rfl rfl
@[simp] theorem sDPut_eq (i : Nat) (fk : OF) (f : EF) (ρ : List S) : sDPut i fk f ρ = (f ρ >>= fun p => Rs.of (shOf p.1) >>= fun z => Rs.of (lookT i p.2) >>= fun _ => fk p.2 >>= fun q => Rs.of (ownT i q.2) >>= fun t => Rs.of (look q.1 q.2) >>= fun d => Rs.of (dtPut t d z) >>= fun t' => .ok (.nx, q.2.set i (.od t'))) := Eq.trans rfl rfl
@[simp] theorem fDNew_eq (tt : Bool) (ρ : List S) : fDNew tt ρ = .ok (.od (if tt then .t [] else .k []), ρ) := Eq.trans rfl rfl
@[simp] theorem fDLen_eq (i : Nat) (ρ : List S) : fDLen i ρ = (Rs.of (lookT i ρ) >>= fun t => .ok (.sh (.int (dtLen t : Nat)), ρ)) := Eq.trans rfl rfl
@[simp] theorem dtLen_k (kvs : List (L2.Key × D)) : dtLen (.k kvs) = kvs.length := Eq.trans rfl rfl
@[simp] theorem dtLen_t (kvs : List (List L2.Key × D)) : dtLen (.t kvs) = kvs.length := Eq.trans rfl rfl
@[simp] theorem evL_nil (ρ : List S) : evL [] ρ = .ok ([], ρ) := Eq.trans rfl rfl
@[simp] theorem evL_cons (f : EF) (fs : List EF) (ρ : List S) : evL (f :: fs) ρ = (f ρ >>= fun p => if okV p.1 = true then evL fs p.2 >>= fun q => .ok (p.1 :: q.1, q.2) else .no) := Eq.trans rfl rfl
@[simp] theorem putsS_nil (ρ : List S) : putsS [] [] ρ = some ρ := Eq.trans rfl rfl
@[simp] theorem putsS_cons (i : Nat) (is : List Nat) (r : S) (rs : List S) (ρ : List S) : putsS (i :: is) (r :: rs) ρ = (setS i r ρ).bind (putsS is rs) := Eq.trans rfl rfl
@[simp] theorem sParG_eq (is : List Nat) (fs : List EF) (ρ : List S) : sParG is fs ρ = (evL fs ρ >>= fun p => Rs.of (putsS is p.1 p.2) >>= fun ρ' => .ok (.nx, ρ')) := Eq.trans rfl rfl
@[simp] theorem gDict_t (ds : List D) : gDict true [.list ds] = (pairsT ds).map fun ps => .od (.t (mrg [] ps)) := Eq.trans rfl rfl
@[simp] theorem gDict_k (ds : List D) : gDict false [.list ds] = (pairsK ds).map fun ps => .od (.k (mrg [] ps)) := Eq.trans rfl rfl
/-! ### keys -/
def kI (ns : List Int) : List L2.Key := ns.map Sum.inl
theorem kysOf_il : ∀ ns : List Int, kysOf (il ns) = some (kI ns)
  | [] => rfl
  | n :: ns => by
    have := kysOf_il ns
    rw [il_cons]
    show (match some (Sum.inl n), kysOf (il ns) with
      | some k, some ks => some (k :: ks)
      | _, _ => none) = _
    rw [this]; rfl
theorem kI_inj : ∀ {a b : List Int}, kI a = kI b → a = b
  | [], [], _ => rfl
  | [], _ :: _, h => by cases h
  | _ :: _, [], h => by cases h
  | x :: a, y :: b, h => by
    injection h with h1 h2
    injection h1 with h1
    rw [h1, kI_inj h2]
theorem dtGet_t (kvs : List (List L2.Key × D)) (ns : List Int) : dtGet (.t kvs) (.tuple (il ns)) = some (dGet kvs (kI ns)) := by
  show (kysOf (il ns)).map (dGet kvs) = _
  rw [kysOf_il]; rfl
theorem dtPut_t (kvs : List (List L2.Key × D)) (ns : List Int) (v : D) (h : kvs.length < 16777216) : dtPut (.t kvs) (.tuple (il ns)) v = some (.t (dPut kvs (kI ns) v)) := by
  show (if kvs.length < 16777216 then (kysOf (il ns)).map fun k => DT.t (dPut kvs k v) else none) = _
  rw [if_pos h, kysOf_il]; rfl
theorem dtGet_k (kvs : List (L2.Key × D)) (i : Int) : dtGet (.k kvs) (.int i) = some (dGet kvs (Sum.inl i)) := rfl
theorem dtPut_k (kvs : List (L2.Key × D)) (i : Int) (v : D) (h : kvs.length < 16777216) : dtPut (.k kvs) (.int i) v = some (.k (dPut kvs (Sum.inl i) v)) := by
  show (if kvs.length < 16777216 then (kyOf (.int i)).map fun k => DT.k (dPut kvs k v) else none) = _
  rw [if_pos h]; rfl
section
variable {κ : Type} [DecidableEq κ]
theorem dGet_nil (k : κ) : dGet ([] : List (κ × D)) k = none := rfl
theorem dGet_cons (p : κ × D) (r : List (κ × D)) (k : κ) : dGet (p :: r) k = if p.1 = k then some p.2 else dGet r k := by
  unfold dGet
  rw [List.find?_cons]
  by_cases h : p.1 = k <;> simp [h]
theorem dGet_any (kvs : List (κ × D)) (k : κ) : (kvs.any fun kv => decide (kv.1 = k)) = (dGet kvs k).isSome := by
  induction kvs with
  | nil => rfl
  | cons p r ih =>
    rw [List.any_cons, dGet_cons, ih]
    by_cases h : p.1 = k <;> simp [h]
theorem dGet_snoc (kvs : List (κ × D)) (k j : κ) (v : D) : dGet (kvs ++ [(k, v)]) j = match dGet kvs j with
    | some x => some x
    | none => if k = j then some v else none := by
  induction kvs with
  | nil => simp [dGet_cons, dGet_nil]
  | cons p r ih =>
    rw [List.cons_append, dGet_cons, dGet_cons, ih]
    by_cases h : p.1 = j <;> simp [h]
theorem dGet_put (kvs : List (κ × D)) (k j : κ) (v : D) : dGet (dPut kvs k v) j = if k = j then some v else dGet kvs j := by
  unfold dPut
  split
  · rename_i h
    rw [dGet_any] at h
    have key : ∀ r : List (κ × D), dGet (r.map fun kv => if kv.1 = k then (kv.1, v) else kv) j = (dGet r j).map fun x => if k = j then v else x := by
      intro r
      induction r with
      | nil => rfl
      | cons p r ih =>
        rw [List.map_cons, dGet_cons, dGet_cons, ih]
        by_cases h1 : p.1 = k
        · subst h1
          by_cases h2 : p.1 = j <;> simp [h2]
        · by_cases h2 : p.1 = j
          · have : ¬ k = j := fun z => h1 (by rw [h2, z])
            have h3 : ¬ j = k := fun z => this z.symm
            simp [h1, h2, this, h3]
          · simp [h1, h2]
    rw [key]
    by_cases h2 : k = j
    · subst h2
      obtain ⟨x, hx⟩ := Option.isSome_iff_exists.mp h
      simp [hx]
    · simp [h2]
  · rename_i h
    rw [dGet_any] at h
    rw [dGet_snoc]
    by_cases h2 : k = j
    · subst h2
      have : dGet kvs k = none := by simpa using h
      simp [this]
    · simp [h2]
      cases dGet kvs j <;> rfl
theorem dPut_len (kvs : List (κ × D)) (k : κ) (v : D) : (dPut kvs k v).length = if (dGet kvs k).isSome then kvs.length else kvs.length + 1 := by
  unfold dPut
  rw [dGet_any]
  split <;> simp
theorem dPut_le (kvs : List (κ × D)) (k : κ) (v : D) : (dPut kvs k v).length ≤ kvs.length + 1 := by
  rw [dPut_len]; split <;> omega
theorem mrg_nil (kvs : List (κ × D)) : mrg kvs [] = kvs := rfl
theorem mrg_cons (kvs : List (κ × D)) (p : κ × D) (r : List (κ × D)) : mrg kvs (p :: r) = mrg (dPut kvs p.1 p.2) r := rfl
theorem mrg_some (ps : List (κ × D)) : ∀ (kvs : List (κ × D)) (k : κ), (dGet (mrg kvs ps) k).isSome = ((dGet kvs k).isSome || ps.any fun kv => decide (kv.1 = k)) := by
  induction ps with
  | nil => intro kvs k; simp [mrg_nil]
  | cons p r ih =>
    intro kvs k
    rw [mrg_cons, ih, dGet_put, List.any_cons]
    by_cases h : p.1 = k <;> simp [h]
theorem mrg_len (ps : List (κ × D)) : ∀ kvs : List (κ × D), (mrg kvs ps).length ≤ kvs.length + ps.length := by
  induction ps with
  | nil => intro kvs; simp [mrg_nil]
  | cons p r ih =>
    intro kvs
    rw [mrg_cons]
    have h1 := ih (dPut kvs p.1 p.2)
    have h2 := dPut_le kvs p.1 p.2
    rw [List.length_cons]
    omega
/-- keys that are all unlike: the pairs themselves -/
theorem mrg_new (ps : List (κ × D)) : ∀ kvs : List (κ × D), ((kvs ++ ps).map (·.1)).Nodup → mrg kvs ps = kvs ++ ps := by
  induction ps with
  | nil => intro kvs _; simp [mrg_nil]
  | cons p r ih =>
    intro kvs h
    have hn : dGet kvs p.1 = none := by
      cases q : dGet kvs p.1 with
      | none => rfl
      | some x =>
        exfalso
        have : (kvs.any fun kv => decide (kv.1 = p.1)) = true := by rw [dGet_any, q]; rfl
        obtain ⟨z, hz, hz2⟩ := List.any_eq_true.mp this
        rw [List.map_append, List.map_cons] at h
        have := (List.nodup_append.mp h).2.2 z.1 (List.mem_map.mpr ⟨z, hz, rfl⟩) p.1 List.mem_cons_self
        exact this (by simpa using hz2)
    rw [mrg_cons]
    have e : dPut kvs p.1 p.2 = kvs ++ [p] := by
      unfold dPut
      rw [dGet_any, hn]
      rfl
    rw [e, ih (kvs ++ [p]) (by simpa using h)]
    simp
end
end Z
end
section
namespace Z
open PySem PySem.Spec L2
/-! ### runs whose states are told exactly -/
def kilO (o : Out) (vs : List Nat) (ρ : List S) : List S := match o with
  | .rt _ => ρ
  | _ => killS vs ρ
@[simp] theorem kilO_nx (vs : List Nat) (ρ : List S) : kilO .nx vs ρ = killS vs ρ := rfl
@[simp] theorem kilO_bk (vs : List Nat) (ρ : List S) : kilO .bk vs ρ = killS vs ρ := rfl
@[simp] theorem kilO_ct (vs : List Nat) (ρ : List S) : kilO .ct vs ρ = killS vs ρ := rfl
@[simp] theorem kilO_rt (r : S) (vs : List Nat) (ρ : List S) : kilO (.rt r) vs ρ = ρ := rfl
theorem Wp.kl {vs : List Nat} {g : SF} {ρ : List S} {Q : Out → List S → Prop} (h : Wp g ρ fun o ρ1 => Q o (kilO o vs ρ1)) : Wp (kl vs g) ρ Q := by
  obtain ⟨o, ρ1, e, q⟩ := h
  refine ⟨o, kilO o vs ρ1, ?_, q⟩
  unfold Z.kl
  rw [e]
  cases o <;> rfl
/-- behind it just this state -/
def Nx (ρ1 : List S) : Out → List S → Prop := fun o ρ => o = .nx ∧ ρ = ρ1
theorem Wp.nx {g : SF} {ρ ρ1 : List S} (h : g ρ = .ok (.nx, ρ1)) : Wp g ρ (Nx ρ1) := ⟨.nx, ρ1, h, rfl, rfl⟩
/-- the answer -/
theorem Wp.fin {g : SF} {ρ : List S} {o : Out} (h : ∃ ρ1, g ρ = .ok (o, ρ1)) : Wp g ρ fun o' _ => o' = o := by
  obtain ⟨ρ1, e⟩ := h
  exact ⟨o, ρ1, e, rfl⟩
theorem Wp.klN {vs : List Nat} {g : SF} {ρ ρ1 ρ2 : List S} (h : Wp g ρ (Nx ρ1)) (e : killS vs ρ1 = ρ2) : Wp (Z.kl vs g) ρ (Nx ρ2) := .kl (h.imp fun o ρ ⟨h1, h2⟩ => by subst h1 h2; exact ⟨rfl, e⟩)
theorem Wp.then {g u : SF} {ρ ρ1 : List S} {Q : Out → List S → Prop} (h : Wp g ρ (Nx ρ1)) (q : Wp u ρ1 Q) : Wp (sSeq g u) ρ Q := .seqW (h.imp fun o ρ ⟨h1, h2⟩ => by subst h2; exact ⟨h1, q⟩)
theorem Wp.eq {g : SF} {ρ ρ1 : List S} (h : Wp g ρ (Nx ρ1)) : g ρ = .ok (.nx, ρ1) := by
  obtain ⟨o, ρ', e, rfl, rfl⟩ := h
  exact e
theorem Wp.rangeS {it : IF} {t : GF} {b : SF} {ρ : List S} (n : Nat) (st : Nat → List S) (hit : it ρ = .ok (rangeD 0 1 n, st 0))
    (hb : ∀ i, i < n → ∃ ρ1, t (.int (i : Int)) (st i) = some ρ1 ∧ Wp b ρ1 (Nx (st (i + 1)))) : Wp (sFor it t b) ρ (Nx (st n)) :=
  .range n (fun i ρ => ρ = st i) hit rfl (fun i ρ hi e => by subst e; exact hb i hi) fun ρ' e => ⟨rfl, e⟩
theorem Wp.forS {α : Type} {it : IF} {t : GF} {b : SF} {ρ : List S} (F : α → D) (xs : List α) (st : Nat → List S) (hit : it ρ = .ok (xs.map F, st 0))
    (hb : ∀ i x, xs[i]? = some x → ∃ ρ1, t (F x) (st i) = some ρ1 ∧ Wp b ρ1 (Nx (st (i + 1)))) : Wp (sFor it t b) ρ (Nx (st xs.length)) :=
  .for_ F xs (fun i ρ => ρ = st i) hit rfl (fun i x ρ hx e => by subst e; exact hb i x hx) fun ρ' e => ⟨rfl, e⟩
/-- a walk as a fold -/
theorem Wp.fold {α β : Type} {it : IF} {t : GF} {b : SF} {ρ : List S} (F : α → D) (st : β → List S) (f : β → α → β) (P : β → Prop) (xs : List α) (z : β) (hit : it ρ = .ok (xs.map F, st z)) (h0 : P z)
    (hb : ∀ z x, x ∈ xs → P z → P (f z x) ∧ ∃ ρ1, t (F x) (st z) = some ρ1 ∧ Wp b ρ1 (Nx (st (f z x)))) : Wp (sFor it t b) ρ fun o ρ' => o = .nx ∧ ρ' = st (xs.foldl f z) ∧ P (xs.foldl f z) := by
  have key : ∀ (ys : List α), (∀ x ∈ ys, x ∈ xs) → ∀ z, P z → forL t b (ys.map F) (st z) = .ok (.nx, st (ys.foldl f z)) ∧ P (ys.foldl f z) := by
    intro ys
    induction ys with
    | nil => intro _ z hz; exact ⟨rfl, hz⟩
    | cons y ys ih =>
      intro hm z hz
      obtain ⟨h1, ρ1, e1, w⟩ := hb z y (hm y List.mem_cons_self) hz
      rw [List.map_cons, forL_step e1 w.eq, List.foldl_cons]
      exact ih (fun x hx => hm x (List.mem_cons_of_mem _ hx)) _ h1
  obtain ⟨h1, h2⟩ := key xs (fun _ h => h) z h0
  exact ⟨.nx, _, by rw [sFor_eq, hit]; exact h1, rfl, rfl, h2⟩
/-- a while of n turns -/
theorem whileL_st {c : BF} {b : SF} (st : Nat → List S) (n : Nat) (hc : ∀ i, i < n → c (st i) = .ok (true, st i)) (hb : ∀ i, i < n → Wp b (st i) (Nx (st (i + 1)))) (he : c (st n) = .ok (false, st n)) : ∀ m k, k + n + 1 ≤ m + k → whileL c b m (st 0) = .ok (.nx, st n) := by
  have key : ∀ d m k, k + d = n → d < m → whileL c b m (st k) = .ok (.nx, st n) := by
    intro d
    induction d with
    | zero =>
      intro m k e h
      obtain ⟨m, rfl⟩ : ∃ q, m = q + 1 := ⟨m - 1, by omega⟩
      have : k = n := by omega
      subst this
      unfold whileL
      rw [he]; rfl
    | succ d ih =>
      intro m k e h
      obtain ⟨m, rfl⟩ : ∃ q, m = q + 1 := ⟨m - 1, by omega⟩
      unfold whileL
      rw [hc k (by omega)]
      simp only [Rs.bind_ok, if_true]
      rw [(hb k (by omega)).eq]
      simp only [Rs.bind_ok]
      exact ih m (k + 1) (by omega) (by omega)
  intro m k h
  exact key n m 0 (by omega) (by omega)
theorem Wp.while {c : BF} {b : SF} {m : Nat} (st : Nat → List S) (n : Nat) (hm : n < m) (hc : ∀ i, i < n → c (st i) = .ok (true, st i)) (hb : ∀ i, i < n → Wp b (st i) (Nx (st (i + 1)))) (he : c (st n) = .ok (false, st n)) : Wp (whileL c b m) (st 0) (Nx (st n)) :=
  .nx (whileL_st st n hc hb he m 0 (by omega))
/-- a while by a measure -/
theorem Wp.whileI {c : BF} {b : SF} {Q : Out → List S → Prop} (P : Nat → List S → Prop) (hs : ∀ k ρ, P k ρ → (c ρ = .ok (false, ρ) ∧ Q .nx ρ) ∨ (c ρ = .ok (true, ρ) ∧ Wp b ρ fun o ρ2 => o = .nx ∧ ∃ k', k' < k ∧ P k' ρ2)) :
    ∀ k m ρ, P k ρ → k < m → Wp (whileL c b m) ρ Q := by
  intro k
  induction k using Nat.strongRecOn with
  | ind k ih =>
    intro m ρ hp hm
    obtain ⟨m, rfl⟩ : ∃ q, m = q + 1 := ⟨m - 1, by omega⟩
    rcases hs k ρ hp with ⟨e, q⟩ | ⟨e, o, ρ2, e2, rfl, k', hk, hp'⟩
    · exact ⟨.nx, ρ, by unfold whileL; rw [e]; rfl, q⟩
    · obtain ⟨o, ρ3, e3, q⟩ := ih k' hk m ρ2 hp' (by omega)
      refine ⟨o, ρ3, ?_, q⟩
      unfold whileL
      rw [e]
      simp only [Rs.bind_ok, if_true]
      rw [e2]
      simp only [Rs.bind_ok]
      exact e3
theorem iRange3_dn0 (n : Nat) (h : n < 1000000000) {fH : HF} {ρ ρ1 : List S} {hs : List Hd} (h1 : fH ρ = .ok (hs, ρ1)) (h2 : looks hs ρ1 = some [.int (n : Int), .int 0, .int (-1)]) : iRange3 fH ρ = .ok ((List.range n).map (fun k : Nat => PyData.int ((n : Int) - (k : Nat))), ρ1) := by
  rw [iRange3_eq, h1]
  simp only [Rs.bind_ok, h2, Rs.of_some]
  have hsz : Builtin.Range.rangeSize (n : Int) 0 (-1) = (n : Int) := by
    unfold Builtin.Range.rangeSize
    simp
    omega
  have hsm : Builtin.Range.small (n : Int) 0 (-1) = true := PySem.W.small_down (by omega) (by omega) (by omega) (by omega)
  rw [hsz, hsm]
  simp [rangeD_map]
  intro a _; omega
end Z
end
section
namespace Z
open PySem PySem.Spec L2
/-! ### turning signs, place by place -/
theorem fl_get : ∀ (w : List Bool) (i j : Nat), (fl w i)[j]? = (w[j]?).map fun b => if i = j then !b else b
  | [], _, _ => by simp [fl]
  | x :: w, 0, 0 => by simp [fl]
  | x :: w, 0, j + 1 => by simp [fl]
  | x :: w, i + 1, 0 => by simp [fl]
  | x :: w, i + 1, j + 1 => by simp [fl, fl_get w i j]
def turnAll (w : List Bool) (ps : List Nat) : List Bool := ps.foldl (fun h p => fl h (p - 1)) w
theorem turnAll_len : ∀ (ps : List Nat) (w : List Bool), (turnAll w ps).length = w.length
  | [], _ => rfl
  | p :: ps, w => by
    show (turnAll (fl w (p - 1)) ps).length = _
    rw [turnAll_len ps, fl_len]
theorem turnAll_get : ∀ (ps : List Nat) (w : List Bool) (j : Nat), ps.Nodup → (∀ p ∈ ps, 1 ≤ p) → (turnAll w ps)[j]? = (w[j]?).map fun b => if j + 1 ∈ ps then !b else b
  | [], w, j, _, _ => by simp [turnAll]
  | p :: ps, w, j, hn, hp => by
    obtain ⟨h1, h2⟩ := List.nodup_cons.mp hn
    show (turnAll (fl w (p - 1)) ps)[j]? = _
    rw [turnAll_get ps _ j h2 fun q hq => hp q (List.mem_cons_of_mem _ hq), fl_get, Option.map_map]
    have hp1 := hp p List.mem_cons_self
    congr 1
    funext b
    simp only [Function.comp_apply, List.mem_cons]
    by_cases e : p - 1 = j
    · have e2 : j + 1 = p := by omega
      have e3 : ¬ j + 1 ∈ ps := by rw [e2]; exact h1
      simp [e, e2, h1]
    · have e2 : ¬ j + 1 = p := by omega
      simp [e, e2]
theorem un_range : ∀ w v : List Bool, w.length = v.length → ((List.range w.length).filter fun i => w[i]? != v[i]?).map (· + 1) = un w v
  | [], [], _ => rfl
  | x :: w, y :: v, h => by
    have ih := un_range w v (by simpa using h)
    rw [List.length_cons, List.range_succ_eq_map, List.filter_cons, List.filter_map]
    have e3 : ((fun i => (x :: w)[i]? != (y :: v)[i]?) ∘ Nat.succ) = fun i => w[i]? != v[i]? := by funext i; simp
    rw [e3]
    unfold un
    rw [← ih]
    by_cases hx : (x != y) = true <;> simp [hx] <;> simp at hx <;> simp [hx]
theorem un_mem {w v : List Bool} (h : w.length = v.length) (p : Nat) : p ∈ un w v ↔ ∃ j, p = j + 1 ∧ j < w.length ∧ w[j]? ≠ v[j]? := by
  rw [← un_range w v h]
  simp only [List.mem_map, List.mem_filter, List.mem_range, bne_iff_ne]
  exact ⟨fun ⟨j, ⟨a, b⟩, c⟩ => ⟨j, c.symm, a, b⟩, fun ⟨j, c, a, b⟩ => ⟨j, ⟨a, b⟩, c.symm⟩⟩
theorem un_nodup {w v : List Bool} (h : w.length = v.length) : (un w v).Nodup := by
  rw [← un_range w v h]
  exact List.Pairwise.map (· + 1) (fun a b (h : a ≠ b) => by show a + 1 ≠ b + 1; omega) ((List.nodup_range).filter _)
/-- turning all places that are unlike, in any order -/
theorem turnAll_un {w v : List Bool} (h : w.length = v.length) {ps : List Nat} (hp : ps.Perm (un w v)) : turnAll w ps = v := by
  refine List.ext_getElem? fun j => ?_
  rw [turnAll_get ps w j (hp.nodup_iff.mpr (un_nodup h)) fun p q => by
    obtain ⟨j, rfl, _⟩ := (un_mem h p).mp (hp.mem_iff.mp q); omega]
  by_cases hj : j < w.length
  · have hj' : j < v.length := by omega
    rw [List.getElem?_eq_getElem hj, List.getElem?_eq_getElem hj']
    by_cases e : w[j] = v[j]
    · have : ¬ j + 1 ∈ ps := fun q => by
        obtain ⟨i, e1, _, e2⟩ := (un_mem h _).mp (hp.mem_iff.mp q)
        have : i = j := by omega
        subst this
        rw [List.getElem?_eq_getElem hj, List.getElem?_eq_getElem hj', e] at e2
        exact e2 rfl
      simp [this, e]
    · have : j + 1 ∈ ps := hp.mem_iff.mpr ((un_mem h _).mpr ⟨j, rfl, hj, by rw [List.getElem?_eq_getElem hj, List.getElem?_eq_getElem hj']; simpa using e⟩)
      simp [this]
      cases hw : w[j] <;> cases hv : v[j] <;> simp_all
  · rw [List.getElem?_eq_none (by omega), List.getElem?_eq_none (by omega)]; rfl
theorem cnt_fl : ∀ (w : List Bool) (i : Nat), i < w.length → (cnt (fl w i) + cnt w) % 2 = 1
  | x :: w, 0, _ => by
    rw [fl, cnt_cons, cnt_cons]
    cases x <;> simp <;> omega
  | x :: w, i + 1, h => by
    have := cnt_fl w i (by simpa using h)
    rw [fl, cnt_cons, cnt_cons]
    omega
theorem cnt_len : ∀ w : List Bool, (w.filter id).length = cnt w
  | [] => rfl
  | x :: w => by
    rw [cnt_cons, ← cnt_len w]
    cases x <;> simp
    omega
theorem fl_map (w : List Bool) (i : Nat) : fl w i = (List.range w.length).map fun j => if j = i then !(w.getD j false) else w.getD j false := by
  refine List.ext_getElem? fun j => ?_
  rw [fl_get, List.getElem?_map]
  by_cases hj : j < w.length
  · rw [List.getElem?_range hj, List.getElem?_eq_getElem hj]
    simp [hj]
    by_cases e : i = j
    · simp [e]
    · have : ¬ j = i := fun z => e z.symm
      simp [e, this]
  · rw [List.getElem?_eq_none (by omega), List.getElem?_eq_none (by simp; omega)]; rfl
theorem enumD_w (w : List Bool) : enumD (il (w.map bi)) = (List.range w.length).map fun i : Nat => PyData.tuple [.int (i : Int), .int (bi (w.getD i false))] := by
  unfold enumD
  refine List.ext_getElem (by simp) fun i h1 h2 => ?_
  simp at h1
  simp [il, h1]
theorem depth_wd (w : List Bool) : PyData.depth (wd w) = 1 := by
  show PyData.depthAll (il (w.map bi)) + 1 = 1
  rw [depthAll_il]
theorem depthAll_wds : ∀ ws : List (List Bool), PyData.depthAll (ws.map wd) ≤ 1
  | [] => by simp [PyData.depthAll]
  | w :: r => by
    have := depthAll_wds r
    simp only [List.map_cons, PyData.depthAll, depth_wd]
    omega
theorem sk_wd (w : List Bool) (h : w.length ≤ 1000000) : sk (wd w) = true := by
  show (decide ((il (w.map bi)).length ≤ 1000000) && skAll (il (w.map bi))) = true
  rw [sk_il]; simp [h]
theorem skAll_wds : ∀ ws : List (List Bool), (∀ w ∈ ws, w.length ≤ 1000000) → skAll (ws.map wd) = true
  | [], _ => rfl
  | w :: r, h => by
    simp only [List.map_cons, skAll, sk_wd w (h w List.mem_cons_self), skAll_wds r fun u hu => h u (List.mem_cons_of_mem _ hu), Bool.and_self]
theorem bi_inj {a b : Bool} (h : bi a = bi b) : a = b := by cases a <;> cases b <;> first | rfl | (simp [bi] at h)
theorem wd_inj {w v : List Bool} : w.map bi = v.map bi ↔ w = v :=
  ⟨fun h => by
    induction w generalizing v with
    | nil => cases v <;> simp at h ⊢
    | cons a w ih =>
      cases v with
      | nil => simp at h
      | cons b v => simp only [List.map_cons, List.cons.injEq] at h ⊢; exact ⟨bi_inj h.1, ih h.2⟩, fun h => by rw [h]⟩
theorem gEq_wd (w v : List Bool) : gEq (wd w) (wd v) = some (.sh (.bool (decide (w = v)))) := by
  unfold wd
  rw [gEq_tup]
  simp only [wd_inj]
theorem gNe_wd (w v : List Bool) : gNe (wd w) (wd v) = some (.sh (.bool (!decide (w = v)))) := by
  unfold wd
  rw [gNe_tup]
  simp only [wd_inj]
end Z
end
section
namespace Z
open PySem PySem.Spec L2
/-! ### picks, their numbers, the list of exchanges: plain laws -/
def ch : Nat → Nat → Nat
  | _, 0 => 1
  | 0, _ + 1 => 0
  | n + 1, k + 1 => ch n k + ch n (k + 1)
theorem ch_zero : ∀ n k, n < k → ch n k = 0
  | _, 0, h => by omega
  | 0, k + 1, _ => rfl
  | n + 1, k + 1, h => by rw [ch, ch_zero n k (by omega), ch_zero n (k + 1) (by omega)]
theorem ch_pos : ∀ n k, k ≤ n → 1 ≤ ch n k
  | 0, 0, _ => by simp [ch]
  | n + 1, 0, _ => by simp [ch]
  | 0, k + 1, h => by omega
  | n + 1, k + 1, h => by
    rw [ch]
    have := ch_pos n k (by omega)
    omega
theorem ch_self : ∀ n, ch n n = 1
  | 0 => rfl
  | n + 1 => by rw [ch, ch_self n, ch_zero n (n + 1) (by omega)]
theorem ch_up (n k : Nat) : ch n k ≤ ch (n + 1) k := by
  cases k with
  | zero => simp [ch]
  | succ k => rw [ch]; omega
theorem ch_mono {n m : Nat} (k : Nat) (h : n ≤ m) : ch n k ≤ ch m k := by
  induction h with
  | refl => exact Nat.le_refl _
  | step _ ih => exact Nat.le_trans ih (ch_up _ k)
/-- the greatest thing of the pick of number N -/
def lv : Nat → Nat → Nat → Nat
  | 0, _, _ => 0
  | m + 1, k, N => if N < ch m k then lv m k N else m + 1
theorem lv_spec : ∀ m k N, N < ch m (k + 1) → 1 ≤ lv m (k + 1) N ∧ lv m (k + 1) N ≤ m ∧ ch (lv m (k + 1) N - 1) (k + 1) ≤ N ∧ N < ch (lv m (k + 1) N) (k + 1)
  | 0, k, N, h => by rw [ch] at h; omega
  | m + 1, k, N, h => by
    rw [lv]
    by_cases hN : N < ch m (k + 1)
    · rw [if_pos hN]
      obtain ⟨a, b, c, d⟩ := lv_spec m k N hN
      exact ⟨a, by omega, c, d⟩
    · rw [if_neg hN]
      exact ⟨by omega, by omega, by rw [Nat.add_sub_cancel]; omega, h⟩
theorem lv_is {m k N e : Nat} (h1 : 1 ≤ e) (h2 : e ≤ m) (h3 : ch (e - 1) (k + 1) ≤ N) (h4 : N < ch e (k + 1)) : lv m (k + 1) N = e := by
  obtain ⟨a, b, c, d⟩ := lv_spec m k N (Nat.lt_of_lt_of_le h4 (ch_mono _ h2))
  rcases Nat.lt_trichotomy (lv m (k + 1) N) e with h | h | h
  · have := ch_mono (k + 1) (show lv m (k + 1) N ≤ e - 1 by omega)
    omega
  · exact h
  · have := ch_mono (k + 1) (show e ≤ lv m (k + 1) N - 1 by omega)
    omega
/-- the pick of number N, of l out of m -/
def pk : Nat → Nat → Nat → List Nat
  | 0, _, _ => []
  | l + 1, m, N => pk l (lv m (l + 1) N) (ch (lv m (l + 1) N) (l + 1) - 1 - N) ++ [lv m (l + 1) N]
theorem pk_down (l m N : Nat) (h : N < ch m l) : pk l (m + 1) N = pk l m N := by
  cases l with
  | zero => rfl
  | succ l => rw [pk, pk, lv, if_pos h]
/-- what is left for those below -/
theorem low_lt {m l N : Nat} (h : N < ch m (l + 1)) : ch (lv m (l + 1) N) (l + 1) - 1 - N < ch (lv m (l + 1) N - 1) l := by
  obtain ⟨a, b, c, d⟩ := lv_spec m l N h
  obtain ⟨e, he⟩ : ∃ e, lv m (l + 1) N = e + 1 := ⟨lv m (l + 1) N - 1, by omega⟩
  rw [he] at c d ⊢
  rw [Nat.add_sub_cancel] at c ⊢
  rw [ch] at d ⊢
  omega
theorem pk_ok : ∀ l m N, N < ch m l → (pk l m N).length = l ∧ (∀ p ∈ pk l m N, 1 ≤ p ∧ p ≤ m) ∧ (pk l m N).Pairwise (· < ·)
  | 0, m, N, _ => ⟨rfl, by simp [pk], by simp [pk]⟩
  | l + 1, m, N, h => by
    obtain ⟨a, b, c, d⟩ := lv_spec m l N h
    have hl := low_lt h
    obtain ⟨e, he⟩ : ∃ e, lv m (l + 1) N = e + 1 := ⟨lv m (l + 1) N - 1, by omega⟩
    rw [he] at a b c d hl
    rw [pk, he]
    rw [Nat.add_sub_cancel] at hl
    rw [pk_down l e _ hl]
    obtain ⟨i1, i2, i3⟩ := pk_ok l e _ hl
    refine ⟨by simp [i1], fun p hp => ?_, ?_⟩
    · rw [List.mem_append] at hp
      rcases hp with hp | hp
      · have := i2 p hp; omega
      · simp at hp; omega
    · rw [List.pairwise_append]
      refine ⟨i3, by simp, fun p hp q hq => ?_⟩
      simp at hq
      have := i2 p hp
      omega
/-- those below the greatest are less -/
theorem pk_lt {l e N : Nat} (h : N < ch (e - 1) l) (he : 1 ≤ e) : ∀ p ∈ pk l e N, p < e := by
  obtain ⟨f, rfl⟩ : ∃ f, e = f + 1 := ⟨e - 1, by omega⟩
  rw [Nat.add_sub_cancel] at h
  rw [pk_down l f N h]
  intro p hp
  have := (pk_ok l f N h).2.1 p hp
  omega
/-- the number of a pick -/
def rkA : List Nat → Nat → Int → Int
  | [], _, f => f
  | p :: ps, a, f => rkA ps (a + 1) ((ch p (a + 1) : Int) - 1 - f)
theorem rkA_app : ∀ (ps : List Nat) (m a : Nat) (f : Int), rkA (ps ++ [m]) a f = (ch m (a + ps.length + 1) : Int) - 1 - rkA ps a f
  | [], m, a, f => rfl
  | p :: ps, m, a, f => by
    rw [List.cons_append, rkA, rkA_app ps m, rkA, List.length_cons, show a + 1 + ps.length + 1 = a + (ps.length + 1) + 1 by omega]
theorem rk_pk : ∀ l m N, N < ch m l → rkA (pk l m N) 0 0 = N
  | 0, m, N, h => by
    have : ch m 0 = 1 := by cases m <;> rfl
    rw [this] at h
    have : N = 0 := by omega
    subst this; rfl
  | l + 1, m, N, h => by
    obtain ⟨a, b, c, d⟩ := lv_spec m l N h
    have hl := low_lt h
    have hl2 : ch (lv m (l + 1) N) (l + 1) - 1 - N < ch (lv m (l + 1) N) l := Nat.lt_of_lt_of_le hl (ch_mono _ (by omega))
    rw [pk, rkA_app, rk_pk l _ _ hl2, (pk_ok l _ _ hl2).1, Nat.zero_add]
    omega
/-- the first one, the last one -/
theorem pk_first : ∀ l m, l ≤ m → pk l m 0 = List.range' 1 l
  | 0, m, _ => rfl
  | l + 1, m, h => by
    have e : lv m (l + 1) 0 = l + 1 := lv_is (by omega) h (by rw [Nat.add_sub_cancel, ch_zero l (l + 1) (by omega)]; omega) (by rw [ch_self]; omega)
    rw [pk, e, ch_self, pk_first l (l + 1) (by omega), List.range'_concat]
    simp; omega
theorem pk_last (l m : Nat) (h : l + 1 ≤ m) : pk (l + 1) m (ch m (l + 1) - 1) = List.range' 1 l ++ [m] := by
  obtain ⟨q, rfl⟩ : ∃ q, m = q + 1 := ⟨m - 1, by omega⟩
  have h1 := ch_pos q l (by omega)
  have h2 : ch (q + 1) (l + 1) = ch q l + ch q (l + 1) := rfl
  have e : lv (q + 1) (l + 1) (ch (q + 1) (l + 1) - 1) = q + 1 := lv_is (by omega) (Nat.le_refl _) (by rw [Nat.add_sub_cancel]; omega) (by omega)
  rw [pk, e, show ch (q + 1) (l + 1) - 1 - (ch (q + 1) (l + 1) - 1) = 0 by omega, pk_first l (q + 1) (by omega)]
/-- one goes, one comes -/
def Ex (A B : List Nat) (o c : Nat) : Prop := (A.filter fun x => decide (x ∉ B)) = [o] ∧ (B.filter fun x => decide (x ∉ A)) = [c]
theorem Ex.swap {A B : List Nat} {o c : Nat} (h : Ex A B o c) : Ex B A c o := ⟨h.2, h.1⟩
theorem filt_app {A B : List Nat} {e : Nat} (hA : e ∉ A) : ((A ++ [e]).filter fun x => decide (x ∉ B ++ [e])) = A.filter fun x => decide (x ∉ B) := by
  rw [List.filter_append]
  have h1 : ([e].filter fun x => decide (x ∉ B ++ [e])) = [] := by simp
  rw [h1, List.append_nil]
  refine List.filter_congr fun x hx => ?_
  have : x ≠ e := fun z => hA (z ▸ hx)
  simp [this]
theorem Ex.app {A B : List Nat} {o c e : Nat} (h : Ex A B o c) (hA : e ∉ A) (hB : e ∉ B) : Ex (A ++ [e]) (B ++ [e]) o c := ⟨by rw [filt_app hA]; exact h.1, by rw [filt_app hB]; exact h.2⟩
theorem filt_none {A B : List Nat} (h : ∀ x ∈ A, x ∈ B) : (A.filter fun x => decide (x ∉ B)) = [] := by
  rw [List.filter_eq_nil_iff]
  intro x hx
  simp [h x hx]
theorem pk_ex : ∀ l m N, N + 1 < ch m l → ∃ o c, Ex (pk l m N) (pk l m (N + 1)) o c
  | 0, m, N, h => by
    have : ch m 0 = 1 := by cases m <;> rfl
    omega
  | l + 1, m, N, h => by
    obtain ⟨a, b, c, d⟩ := lv_spec m l N (by omega)
    have hl := low_lt (show N < ch m (l + 1) by omega)
    rw [pk, pk]
    by_cases h1 : N + 1 < ch (lv m (l + 1) N) (l + 1)
    · have e2 : lv m (l + 1) (N + 1) = lv m (l + 1) N := lv_is a b (by omega) h1
      rw [e2]
      generalize lv m (l + 1) N = e at *
      obtain ⟨X, hX⟩ : ∃ X, ch e (l + 1) - 1 - N = X + 1 := ⟨ch e (l + 1) - 1 - N - 1, by omega⟩
      rw [hX] at hl ⊢
      rw [show ch e (l + 1) - 1 - (N + 1) = X by omega]
      have hle : ch (e - 1) l ≤ ch e l := ch_mono l (by omega)
      obtain ⟨o, c', hx⟩ := pk_ex l e X (by omega)
      exact ⟨c', o, hx.swap.app (fun z => by have := pk_lt hl a e z; omega) (fun z => by have := pk_lt (show X < ch (e - 1) l by omega) a e z; omega)⟩
    · have hN : N + 1 = ch (lv m (l + 1) N) (l + 1) := by omega
      have hlt : lv m (l + 1) N < m := by
        refine Nat.lt_of_not_le fun z => ?_
        have := ch_mono (l + 1) z
        omega
      generalize lv m (l + 1) N = e at *
      have hel : l + 1 ≤ e := by
        refine Nat.le_of_not_lt fun z => ?_
        rw [ch_zero e (l + 1) z] at d
        omega
      have hch : ch (e + 1) (l + 1) = ch e l + ch e (l + 1) := rfl
      have hp := ch_pos e l (by omega)
      have e2 : lv m (l + 1) (N + 1) = e + 1 := lv_is (by omega) (by omega) (by rw [Nat.add_sub_cancel]; omega) (by omega)
      rw [e2, show ch e (l + 1) - 1 - N = 0 by omega, show ch (e + 1) (l + 1) - 1 - (N + 1) = ch e l - 1 by omega, pk_down l e _ (by omega), pk_first l e (by omega)]
      cases l with
      | zero => exact ⟨e, e + 1, by simp [Ex, pk]⟩
      | succ j =>
        rw [pk_last j e (by omega), List.range'_concat]
        have hm : ∀ x, x ∈ List.range' 1 j ↔ 1 ≤ x ∧ x ≤ j := fun x => by rw [List.mem_range'_1]; omega
        generalize hR : List.range' 1 j = R at *
        have key : ∀ A2 B2 : List Nat, ((R ++ A2).filter fun x => decide (x ∉ R ++ B2)) = A2.filter fun x => decide (x ∉ R ++ B2) := fun A2 B2 => by
          rw [List.filter_append, filt_none (fun x hx => List.mem_append_left _ hx), List.nil_append]
        have ej : 1 + 1 * j = j + 1 := by omega
        rw [ej]
        refine ⟨j + 1, e + 1, ?_, ?_⟩
        · rw [List.append_assoc, List.append_assoc, key]
          have n1 : decide (j + 1 ∉ R ++ ([e] ++ [e + 1])) = true := by
            rw [decide_eq_true_eq, List.mem_append, hm]
            simp
            omega
          have n2 : decide (e ∉ R ++ ([e] ++ [e + 1])) = false := by simp
          show ((j + 1) :: [e]).filter _ = _
          simp only [List.filter, n1, n2]
        · rw [List.append_assoc, List.append_assoc, key]
          have n1 : decide (e + 1 ∉ R ++ ([j + 1] ++ [e])) = true := by
            rw [decide_eq_true_eq, List.mem_append, hm]
            simp
            omega
          have n2 : decide (e ∉ R ++ ([j + 1] ++ [e])) = false := by simp
          show (e :: [e + 1]).filter _ = _
          simp only [List.filter, n1, n2]
/-- the list of exchanges, put together -/
def xl (m k : Nat) : List (List Nat) := (List.range (ch m k)).map fun N => pk k m N
theorem xl_step (m k : Nat) (hk : k + 1 ≤ m) : xl (m + 1) (k + 1) = xl m (k + 1) ++ (xl m k).reverse.map fun p => p ++ [m + 1] := by
  unfold xl
  have hc : ch (m + 1) (k + 1) = ch m (k + 1) + ch m k := by rw [ch]; omega
  rw [hc, List.range_add, List.map_append]
  congr 1
  · refine List.map_congr_left fun N hN => ?_
    exact pk_down (k + 1) m N (List.mem_range.mp hN)
  · rw [List.map_map, ← List.map_reverse, List.map_map]
    refine List.ext_getElem (by simp) fun i h1 h2 => ?_
    simp at h1
    simp only [List.getElem_map, List.getElem_range, Function.comp_apply, List.getElem_reverse, List.length_range]
    have e : lv (m + 1) (k + 1) (ch m (k + 1) + i) = m + 1 := lv_is (by omega) (Nat.le_refl _) (by rw [Nat.add_sub_cancel]; omega) (by omega)
    rw [pk, e, hc, show ch m (k + 1) + ch m k - 1 - (ch m (k + 1) + i) = ch m k - 1 - i by omega, pk_down k m _ (by omega)]
/-- choosing, as the program does -/
def cf (a : Int) : Nat → Int
  | 0 => 1
  | t + 1 => cf a t * (a - t) / (t + 1)
theorem cf_ch : ∀ n : Nat, n < 21 → ∀ k : Nat, k < n + 1 → cf n k = (ch n k : Int) := by decide +kernel
theorem cf_bnd : ∀ n : Nat, n < 21 → ∀ k : Nat, k < 22 → (cf n k).natAbs < 1073741824 := by decide +kernel
theorem nl_get2 (ps : List Nat) (i : Nat) (h : i < ps.length) : gIx (.tuple (nl ps)) (.int (i : Int)) = some (.sh (.int (ps.getD i 0 : Nat))) := by
  rw [gIx_tup, nl_get]; simp [h]
theorem any_eqv (ps : List Nat) (p : Nat) : ((nl ps).any fun z => PyData.eqv z (.int (p : Int))) = decide (p ∈ ps) := by
  induction ps with
  | nil => simp
  | cons q ps ih =>
    rw [nl_cons, List.any_cons, ih]
    simp only [PyData.eqv]
    by_cases h : p = q
    · subst h; simp
    · have h2 : ¬ q = p := fun z => h z.symm
      simp [h]
      omega
theorem gNotIn_nl (ps : List Nat) (p : Nat) : gInB true (.int (p : Int)) (.tuple (nl ps)) = some (.sh (.bool (decide (p ∉ ps)))) := by
  have h := any_eqv ps p
  simp only [gInB, depthAll_nl, h]
  simp [PyData.depth]
theorem gIn_nl (ps : List Nat) (p : Nat) : gInB false (.int (p : Int)) (.tuple (nl ps)) = some (.sh (.bool (decide (p ∈ ps)))) := by
  have h := any_eqv ps p
  simp only [gInB, depthAll_nl, h]
  simp [PyData.depth]
theorem enumD_nl (ps : List Nat) : enumD (nl ps) = (List.range ps.length).map fun i : Nat => PyData.tuple [.int (i : Int), .int (ps.getD i 0 : Nat)] := by
  unfold enumD
  refine List.ext_getElem (by simp) fun i h1 h2 => ?_
  simp at h1
  simp [nl, h1]
/-- a pick -/
structure Pck (m : Nat) (ps : List Nat) : Prop where
  l : ps.length ≤ m
  b : ∀ p ∈ ps, 1 ≤ p ∧ p ≤ m
  a : ps.Pairwise (· < ·)
theorem pk_Pk {l m N : Nat} (h : N < ch m l) : Pck m (pk l m N) := by
  obtain ⟨a, b, c⟩ := pk_ok l m N h
  refine ⟨?_, b, c⟩
  rw [a]
  refine Nat.le_of_not_lt fun z => ?_
  rw [ch_zero m l z] at h
  omega
theorem pw_zip : ∀ ps : List Nat, ps.Pairwise (· < ·) → ∀ p ∈ ps.zip (ps.drop 1), p.1 < p.2
  | [], _, p, h => by simp at h
  | [a], _, p, h => by simp at h
  | a :: b :: r, h, p, hp => by
    rw [List.pairwise_cons] at h
    simp only [List.drop_succ_cons, List.drop_zero, List.zip_cons_cons] at hp
    rcases List.mem_cons.mp hp with rfl | hp
    · exact h.1 b List.mem_cons_self
    · exact pw_zip (b :: r) h.2 p (by simpa using hp)
end Z
end
section
namespace Z
open PySem PySem.Spec L2
/-- neighbours all rise: all rise -/
theorem zip_pw : ∀ ps : List Nat, (ps.zip (ps.drop 1)).all (fun p => decide (p.1 < p.2)) = decide (ps.Pairwise (· < ·))
  | [] => by simp
  | [a] => by simp
  | a :: b :: r => by
    have ih := zip_pw (b :: r)
    simp only [List.drop_succ_cons, List.drop_zero, List.zip_cons_cons, List.all_cons] at ih ⊢
    rw [ih]
    by_cases h : (b :: r).Pairwise (· < ·)
    · by_cases h2 : a < b
      · have : (a :: b :: r).Pairwise (· < ·) := by
          rw [List.pairwise_cons]
          refine ⟨fun c hc => ?_, h⟩
          rcases List.mem_cons.mp hc with rfl | hc
          · exact h2
          · rw [List.pairwise_cons] at h
            exact Nat.lt_trans h2 (h.1 c hc)
        simp only [h2, h, this, decide_true, Bool.and_self]
      · have : ¬ (a :: b :: r).Pairwise (· < ·) := fun z => h2 (by rw [List.pairwise_cons] at z; exact z.1 b List.mem_cons_self)
        simp only [h2, this, decide_false, Bool.false_and]
    · have : ¬ (a :: b :: r).Pairwise (· < ·) := fun z => h (by rw [List.pairwise_cons] at z; exact z.2)
      simp only [h, this, decide_false, Bool.and_false]
def natsOf : List D → Option (List Nat)
  | [] => some []
  | .int i :: r => if 0 ≤ i then (natsOf r).map (i.toNat :: ·) else none
  | _ :: _ => none
theorem natsOf_nl : ∀ ps : List Nat, natsOf (nl ps) = some ps
  | [] => rfl
  | p :: r => by simp [natsOf, natsOf_nl r]
theorem natsOf_some : ∀ {ds : List D} {ps : List Nat}, natsOf ds = some ps → ds = nl ps
  | [], ps, h => by cases h; rfl
  | d :: r, ps, h => by
    cases d with
    | int i =>
      simp only [natsOf] at h
      split at h
      · rename_i h0
        cases q : natsOf r with
        | none => rw [q] at h; cases h
        | some qs =>
          rw [q] at h
          cases h
          rw [natsOf_some q, nl_cons, Int.toNat_of_nonneg h0]
      · cases h
    | _ => cases h
instance (m : Nat) (ps : List Nat) : Decidable (Pck m ps) := decidable_of_iff (ps.length ≤ m ∧ (∀ p ∈ ps, 1 ≤ p ∧ p ≤ m) ∧ ps.Pairwise (· < ·)) ⟨fun h => ⟨h.1, h.2.1, h.2.2⟩, fun h => ⟨h.l, h.b, h.a⟩⟩
/-- what is a pick, of any value -/
def isPk (m : Nat) : D → Bool
  | .tuple ds => match natsOf ds with
    | some ps => decide (Pck m ps)
    | none => false
  | _ => false
theorem isPk_nl (m : Nat) (ps : List Nat) : isPk m (.tuple (nl ps)) = decide (Pck m ps) := by simp [isPk, natsOf_nl]
theorem nl_drop (ps : List Nat) (n : Nat) : (nl ps).drop n = nl (ps.drop n) := by simp [nl, List.map_drop]
theorem nl_take (ps : List Nat) (n : Nat) : (nl ps).take n = nl (ps.take n) := by simp [nl, List.map_take]
theorem nl_app (ps qs : List Nat) : nl (ps ++ qs) = nl ps ++ nl qs := by simp [nl]
theorem zipD_nl (ps qs : List Nat) : zipD (nl ps) (nl qs) = (ps.zip qs).map fun p : Nat × Nat => PyData.tuple [.int (p.1 : Int), .int (p.2 : Int)] := by
  unfold zipD nl
  rw [List.zipWith_map, List.zip, List.map_zipWith]
/-- a row of numbers of choices -/
def prow (n : Nat) : List Nat := (List.range (n + 1)).map fun k => ch n k
theorem ch_z (n : Nat) : ch n 0 = 1 := by cases n <;> rfl
theorem prow_len (n : Nat) : (prow n).length = n + 1 := by simp [prow]
theorem prow_get (n k : Nat) (h : k ≤ n) : (prow n)[k]? = some (ch n k) := by
  unfold prow
  rw [List.getElem?_map, List.getElem?_range (by omega)]; rfl
theorem prow_succ (n : Nat) : prow (n + 1) = [1] ++ ((prow n).zip ((prow n).drop 1)).map (fun p => p.1 + p.2) ++ [1] := by
  refine List.ext_getElem? fun i => ?_
  have l1 := prow_len n
  have l2 : (((prow n).zip ((prow n).drop 1)).map fun p => p.1 + p.2).length = n := by simp [l1]
  by_cases h0 : i = 0
  · subst h0
    rw [prow_get _ _ (by omega), ch_z]; rfl
  · obtain ⟨j, rfl⟩ : ∃ j, i = j + 1 := ⟨i - 1, by omega⟩
    rw [List.append_assoc, List.singleton_append, List.getElem?_cons_succ]
    by_cases h1 : j < n
    · rw [prow_get _ _ (by omega), List.getElem?_append_left (by rw [l2]; exact h1), List.getElem?_map]
      have : ((prow n).zip ((prow n).drop 1))[j]? = some (ch n j, ch n (j + 1)) := by
        rw [List.getElem?_zip_eq_some]
        refine ⟨prow_get _ _ (by omega), ?_⟩
        rw [List.getElem?_drop, Nat.add_comm]
        exact prow_get _ _ (by omega)
      rw [this]; rfl
    · by_cases h2 : j = n
      · subst h2
        rw [prow_get _ _ (by omega), ch_self, List.getElem?_append_right (by omega), l2, Nat.sub_self]; rfl
      · rw [List.getElem?_eq_none (by rw [prow_len]; omega), List.getElem?_eq_none (by simp [l1]; omega)]
theorem xl_zero (m : Nat) : xl m 0 = [List.range' 1 0] := by unfold xl; rw [ch_z]; rfl
theorem xl_full (m : Nat) : xl m m = [List.range' 1 m] := by
  unfold xl
  rw [ch_self]
  show [pk m m 0] = _
  rw [pk_first m m (Nat.le_refl _)]
theorem rangeD_one (n : Nat) : rangeD 1 1 n = nl (List.range' 1 n) := by
  rw [rangeD_map, nl]
  refine List.ext_getElem (by simp) fun i h1 h2 => ?_
  simp
theorem xl_get (m k N : Nat) (h : N < ch m k) : (xl m k)[N]? = some (pk k m N) := by
  unfold xl
  rw [List.getElem?_map, List.getElem?_range h]; rfl
theorem xl_len (m k : Nat) : (xl m k).length = ch m k := by simp [xl]
theorem filt_notIn (A B : List Nat) (ρ : List S) : True := trivial
end Z
end
section
namespace Z
open PySem PySem.Spec L2 SY
/-! ### lists of words -/
def wds (ws : List (List Bool)) : List D := ws.map wd
@[simp] theorem wds_len (ws : List (List Bool)) : (wds ws).length = ws.length := by simp [wds]
theorem wds_app (a b : List (List Bool)) : wds (a ++ b) = wds a ++ wds b := by simp [wds]
theorem wds_drop (a : List (List Bool)) (n : Nat) : (wds a).drop n = wds (a.drop n) := by simp [wds]
theorem wds_take (a : List (List Bool)) (n : Nat) : (wds a).take n = wds (a.take n) := by simp [wds]
theorem wds_rev (a : List (List Bool)) : (wds a).reverse = wds a.reverse := by simp [wds]
theorem wds_get (a : List (List Bool)) (i : Nat) : (wds a)[i]? = (a[i]?).map wd := by simp [wds]
theorem map_bi {a b : List Bool} : a.map bi = b.map bi ↔ a = b := ⟨fun h => (List.map_inj_right fun _ _ => bi_inj).mp h, fun h => by rw [h]⟩
theorem eqv_wd (a b : List Bool) : PyData.eqv (wd a) (wd b) = decide (a = b) := by
  unfold wd
  simp [PyData.eqv, eqvAll_il, map_bi]
theorem eqvAll_map {α : Type} [DecidableEq α] (F : α → D) (he : ∀ a b, PyData.eqv (F a) (F b) = decide (a = b)) : ∀ xs ys : List α, PyData.eqvAll (xs.map F) (ys.map F) = decide (xs = ys)
  | [], [] => rfl
  | [], _ :: _ => by simp [PyData.eqvAll]
  | _ :: _, [] => by simp [PyData.eqvAll]
  | a :: xs, b :: ys => by
    simp only [List.map_cons, PyData.eqvAll, he, eqvAll_map F he xs ys]
    by_cases h1 : a = b <;> by_cases h2 : xs = ys <;> simp [h1, h2]
theorem eqvAll_wds (a b : List (List Bool)) : PyData.eqvAll (wds a) (wds b) = decide (a = b) := eqvAll_map wd eqv_wd a b
theorem depthAll_le {n : Nat} : ∀ {ds : List D}, (∀ d ∈ ds, PyData.depth d ≤ n) → PyData.depthAll ds ≤ n
  | [], _ => by simp [PyData.depthAll]
  | d :: ds, h => by
    simp only [PyData.depthAll]
    exact Nat.max_le.mpr ⟨h d List.mem_cons_self, depthAll_le fun e he => h e (List.mem_cons_of_mem _ he)⟩
theorem skAll_of : ∀ {ds : List D}, (∀ d ∈ ds, sk d = true) → skAll ds = true
  | [], _ => rfl
  | d :: ds, h => by simp only [skAll, h d List.mem_cons_self, skAll_of fun e he => h e (List.mem_cons_of_mem _ he), Bool.and_self]
theorem zipD_map {α β : Type} (F : α → D) (G : β → D) (a : List α) (b : List β) : zipD (a.map F) (b.map G) = (a.zip b).map fun p : α × β => PyData.tuple [F p.1, G p.2] := by
  unfold zipD
  rw [List.zipWith_map, List.zip, List.map_zipWith]
theorem zipD_wds (a b : List (List Bool)) : zipD (wds a) (wds b) = (a.zip b).map fun p : List Bool × List Bool => PyData.tuple [wd p.1, wd p.2] := zipD_map wd wd a b
/-! the different ones -/
theorem nubD_inj {α : Type} [DecidableEq α] (F : α → D) (he : ∀ a b, PyData.eqv (F a) (F b) = decide (a = b)) (xs : List α) : nubD (xs.map F) = (nubBy id xs).map F := by
  refine rev_ind (C := fun xs => nubD (xs.map F) = (nubBy id xs).map F) rfl (fun xs x ih => ?_) xs
  rw [List.map_append, List.map_cons, List.map_nil, nubD_app, nubBy_app, ih]
  have e : ((nubBy id xs).map F).any (fun e => PyData.eqv e (F x)) = decide (id x ∈ (nubBy id xs).map id) := by
    rw [List.map_id, Bool.eq_iff_iff, List.any_eq_true, decide_eq_true_iff]
    constructor
    · rintro ⟨d, hd, h⟩
      obtain ⟨y, hy, rfl⟩ := List.mem_map.mp hd
      rw [he, decide_eq_true_iff] at h
      exact h ▸ hy
    · intro h
      exact ⟨F x, List.mem_map.mpr ⟨x, h, rfl⟩, by rw [he]; simp⟩
  rw [e]
  by_cases h : id x ∈ (nubBy id xs).map id
  · rw [if_pos (decide_eq_true h), if_pos h]
  · rw [if_neg (by simpa using h), if_neg h, List.map_append]; rfl
theorem nubBy_subl {α : Type} [DecidableEq α] (xs : List α) : (nubBy id xs).Sublist xs := by
  refine rev_ind (C := fun xs => (nubBy id xs).Sublist xs) .slnil (fun xs x ih => ?_) xs
  rw [nubBy_app]
  split
  · exact ih.trans (List.sublist_append_left _ _)
  · exact ih.append (List.Sublist.refl _)
theorem nub_nd {α : Type} [DecidableEq α] (xs : List α) : (nubBy id xs).Nodup := by
  have := nubBy_nodup id xs
  rwa [List.map_id] at this
theorem nub_len {α : Type} [DecidableEq α] (xs : List α) : (nubBy id xs).length = xs.length ↔ xs.Nodup := by
  constructor
  · intro h
    have := (nubBy_subl xs).eq_of_length h
    rw [← this]
    exact nub_nd xs
  · intro h
    refine Nat.le_antisymm (nubBy_subl xs).length_le ?_
    exact nubBy_most id xs xs (fun _ h => h) (by rwa [List.map_id])
theorem nub_mem {α : Type} [DecidableEq α] (xs : List α) (x : α) : x ∈ nubBy id xs ↔ x ∈ xs := by
  constructor
  · exact nubBy_sub id xs x
  · intro h
    have := nubBy_all id xs x h
    rwa [List.map_id] at this
theorem setOk_tup {α : Type} [DecidableEq α] (F : α → D) (he : ∀ a b, PyData.eqv (F a) (F b) = decide (a = b)) (xs : List α) (h : ∀ a ∈ xs, hk (F a) = true ∧ (F a).depth ≤ 8 ∧ isT (F a) = true) (hl : (nubBy id xs).length < 4909) : setOk (xs.map F) = true := by
  unfold setOk
  rw [nubD_inj F he, List.length_map, Bool.and_eq_true, Bool.or_eq_true, Bool.and_eq_true]
  refine ⟨?_, .inl ⟨?_, ?_⟩⟩
  · rw [List.all_eq_true]
    intro d hd
    obtain ⟨a, ha, rfl⟩ := List.mem_map.mp hd
    obtain ⟨h1, h2, _⟩ := h a ha
    simp [h1, h2]
  · rw [List.all_eq_true]
    intro d hd
    obtain ⟨a, ha, rfl⟩ := List.mem_map.mp hd
    exact (h a ha).2.2
  · rw [decide_eq_true_iff]; omega
theorem hks_il : ∀ ns : List Int, hks (il ns) = true
  | [] => rfl
  | n :: r => by simp [hks, hk, hks_il r]
theorem hk_wd (w : List Bool) : hk (wd w) = true := hks_il _
theorem gLenSet_wds (ws : List (List Bool)) (hl : ws.length < 4909) : gLenSet (.tuple (wds ws)) = some (.sh (.int ((nubBy id ws).length : Nat))) := by
  have h := setOk_tup wd eqv_wd ws (fun a _ => ⟨hk_wd a, by rw [depth_wd]; omega, rfl⟩) (Nat.lt_of_le_of_lt (nubBy_subl ws).length_le hl)
  have e := nubD_inj wd eqv_wd ws
  unfold wds
  have g : gLenSet (.tuple (ws.map wd)) = if setOk (ws.map wd) = true then some (.sh (.int (nubD (ws.map wd)).length)) else none := Eq.trans rfl rfl
  rw [g, if_pos h, e, List.length_map]
theorem gIx_tlast (ds : List D) (d : D) (h : ds[ds.length - 1]? = some d) : gIx (.tuple ds) (.int (-1)) = some (.sh d) := by
  have hl : 0 < ds.length := by
    cases ds with
    | nil => cases h
    | cons a b => simp
  have e : ixN ds.length (-1) = some (ds.length - 1) := by
    unfold ixN
    have h1 : ¬ (0 : Int) ≤ -1 := by omega
    split <;> first | omega | skip
    all_goals first | (congr 1; omega) | (simp; omega)
  simp [gIx, atI, e, h]
/-! the reflected list -/
def rfw (k : Nat) : List (List Bool) := (List.range (2 ^ k)).map fun N => gr k N false
@[simp] theorem rfw_len (k : Nat) : (rfw k).length = 2 ^ k := by simp [rfw]
theorem rfw_get (k n : Nat) (h : n < 2 ^ k) : (rfw k)[n]? = some (gr k n false) := by simp [rfw, h]
theorem rfw_mem {k : Nat} {w : List Bool} (h : w ∈ rfw k) : w.length = k := by
  obtain ⟨N, _, rfl⟩ := List.mem_map.mp h
  exact gr_len _ _ _
theorem rfw_nodup (k : Nat) : (rfw k).Nodup := by
  unfold rfw
  refine List.pairwise_map.mpr ((List.nodup_range).imp_of_mem fun {a b} ha hb h e => h ?_)
  exact gr_inj (List.mem_range.mp ha) (List.mem_range.mp hb) e
theorem rfw_zero : rfw 0 = [[]] := rfl
theorem rfw_succ (k : Nat) : rfw (k + 1) = (rfw k).map (false :: ·) ++ (rfw k).reverse.map (true :: ·) := by
  refine List.ext_getElem? fun n => ?_
  by_cases h : n < 2 ^ (k + 1)
  · rw [rfw_get _ _ h]
    rw [Nat.pow_succ] at h
    by_cases h1 : n < 2 ^ k
    · rw [List.getElem?_append_left (by simpa using h1), List.getElem?_map, rfw_get _ _ h1]
      simp [gr, Nat.not_le.mpr h1]
    · rw [List.getElem?_append_right (by simpa using Nat.le_of_not_lt h1), List.getElem?_map, List.getElem?_reverse (by simp; omega)]
      simp only [List.length_map, rfw_len]
      rw [rfw_get _ _ (by omega)]
      have e := gr_flip k (n - 2 ^ k) true (by omega)
      rw [Bool.not_true] at e
      simp only [gr, Nat.le_of_not_lt h1, decide_true, if_true, Option.map_some]
      rw [← e, show 2 ^ k - 1 - (n - 2 ^ k) = 2 ^ k - 1 - (n - 2 ^ k) from rfl]
      rfl
  · rw [List.getElem?_eq_none (by simpa using Nat.le_of_not_lt h), List.getElem?_eq_none]
    simp
    rw [Nat.pow_succ] at h
    omega
/-- the place of step N -/
def stp (k N : Nat) : Nat := (un (gr k N false) (gr k (N + 1) false)).headD 0
theorem un_stp {k N : Nat} (h : N + 1 < 2 ^ k) : un (gr k N false) (gr k (N + 1) false) = [stp k N] := by
  obtain ⟨e, h1, h2⟩ := two_odd (N + 1) (by omega)
  have := (un_step k N false e h h1 h2).1
  unfold stp
  rw [this]
  rfl
theorem stp_half {k i : Nat} (h : i + 1 < 2 ^ k) : stp (k + 1) (2 ^ k + i) = stp (k + 1) i := by
  obtain ⟨e, h1, h2⟩ := two_odd (i + 1) (by omega)
  have he := (un_step k i false e h h1 h2).2
  have hk : 2 ^ e ∣ 2 ^ k := Nat.pow_dvd_pow 2 (by omega)
  have hk1 : 2 ^ (e + 1) ∣ 2 ^ k := Nat.pow_dvd_pow 2 (by omega)
  have p : 2 ^ (k + 1) = 2 ^ k + 2 ^ k := by rw [Nat.pow_succ]; omega
  have a := (un_step (k + 1) i false e (by omega) h1 h2).1
  have b := (un_step (k + 1) (2 ^ k + i) false e (by omega) (by rw [Nat.add_assoc]; exact Nat.dvd_add hk h1) (fun z => h2 (by rw [Nat.add_assoc] at z; exact (Nat.dvd_add_right hk1).mp z))).1
  unfold stp
  rw [a, b]
theorem stp_mid (k : Nat) : stp (k + 1) (2 ^ k - 1) = 1 := by
  have p : 2 ^ (k + 1) = 2 ^ k + 2 ^ k := by rw [Nat.pow_succ]; omega
  have q : 0 < 2 ^ k := Nat.two_pow_pos k
  have e : 2 ^ k - 1 + 1 = 2 ^ k := by omega
  have a := (un_step (k + 1) (2 ^ k - 1) false k (by omega) (by rw [e]; exact Nat.dvd_refl _) (fun z => by
    rw [e] at z
    have := Nat.le_of_dvd q z
    omega)).1
  unfold stp
  rw [a]
  show k + 1 - k = 1
  omega
theorem stp_all (k : Nat) : (List.range (2 ^ (k + 1) - 1)).map (stp (k + 1)) = (List.range (2 ^ k - 1)).map (stp (k + 1)) ++ [1] ++ (List.range (2 ^ k - 1)).map (stp (k + 1)) := by
  have p : 2 ^ (k + 1) = 2 ^ k + 2 ^ k := by rw [Nat.pow_succ]; omega
  have q : 0 < 2 ^ k := Nat.two_pow_pos k
  have e : 2 ^ (k + 1) - 1 = (2 ^ k - 1 + 1) + (2 ^ k - 1) := by omega
  rw [e, List.range_add, List.map_append, List.range_succ, List.map_append, List.map_cons, List.map_nil, stp_mid, List.map_map]
  congr 1
  refine List.map_congr_left fun i hi => ?_
  have := List.mem_range.mp hi
  show stp (k + 1) (2 ^ k - 1 + 1 + i) = _
  rw [show 2 ^ k - 1 + 1 + i = 2 ^ k + i by omega]
  exact stp_half (by omega)
theorem rng_zip (n : Nat) : (List.range n).zip ((List.range n).drop 1) = (List.range (n - 1)).map fun i => (i, i + 1) := by
  refine List.ext_getElem? fun i => ?_
  by_cases h : i < n - 1
  · rw [List.getElem?_eq_getElem (by simp; omega), List.getElem?_eq_getElem (by simpa using h)]
    simp
    omega
  · rw [List.getElem?_eq_none (by simp; omega), List.getElem?_eq_none (by simpa using h)]
theorem rfw_zip (k m : Nat) (h : m ≤ 2 ^ k) : ((rfw k).take m).zip (((rfw k).take m).drop 1) = (List.range (m - 1)).map fun i => (gr k i false, gr k (i + 1) false) := by
  have e : (rfw k).take m = (List.range m).map fun N => gr k N false := by
    unfold rfw
    rw [← List.map_take, List.take_range, Nat.min_eq_left h]
  rw [e, ← List.map_drop, List.zip_map, rng_zip, List.map_map]
  rfl
theorem gr_top (k : Nat) : gr (k + 1) (2 ^ (k + 1) - 1) false = true :: List.replicate k false := by
  have p : 2 ^ (k + 1) = 2 ^ k + 2 ^ k := by rw [Nat.pow_succ]; omega
  have q : 0 < 2 ^ k := Nat.two_pow_pos k
  have h : 2 ^ k ≤ 2 ^ (k + 1) - 1 := by omega
  have z : ∀ k, gr k 0 false = List.replicate k false := by
    intro k
    induction k with
    | zero => rfl
    | succ k ih => simp [gr, ih, List.replicate_succ]
  have e := gr_flip k 0 true q
  rw [Bool.not_true] at e
  have f : gr k (2 ^ k - 1) true = gr k 0 false := by
    have := gr_flip k 0 false q
    rw [Bool.not_false] at this
    rw [show 2 ^ k - 1 - 0 = 2 ^ k - 1 by omega] at this
    exact this
  simp only [gr, h, decide_true, if_true]
  rw [show 2 ^ (k + 1) - 1 - 2 ^ k = 2 ^ k - 1 by omega, f, z]
  rfl
theorem gr_zero : ∀ k, gr k 0 false = List.replicate k false
  | 0 => rfl
  | k + 1 => by simp [gr, gr_zero k, List.replicate_succ]
theorem un_top (k : Nat) : un (gr (k + 1) 0 false) (gr (k + 1) (2 ^ (k + 1) - 1) false) = [1] := by
  rw [gr_top, gr_zero, List.replicate_succ]
  unfold un
  rw [un_self]
  rfl
end Z
end
section
namespace Z
open PySem PySem.Spec L2 SY PySem.W PyProof.Rows
/-! ### sorted(set(xs)): what rises strictly -/
theorem toks_ne {a b : D} (h : alike a b = true) (e : PyData.eqv a b = false) : keyToks a ≠ keyToks b := fun q => by
  have k := (toks_eqv a b h).2 e [] [.inl 0]
  rw [q, List.append_nil, lex_irrefl] at k
  have : ∀ t : List (Int ⊕ List Nat), PyProof.Rows.lexLt itemOrd t (t ++ [.inl 0]) = true := by
    intro t
    have := lex_pre t [] [.inl 0]
    rw [List.append_nil] at this
    rw [this]; rfl
  rw [this] at k
  cases k
theorem lt_of_ne {a b : D} (h : keyToks a ≠ keyToks b) (n : dataLt b a = false) : dataLt a b = true := by
  cases q : dataLt a b with
  | true => rfl
  | false => exact absurd (lex_total _ _ q n) h
theorem nubD_pw (ds : List D) (al : ∀ a ∈ ds, ∀ b ∈ ds, alike a b = true) : (nubD ds).Pairwise fun a b => keyToks a ≠ keyToks b := by
  revert al
  refine rev_ind (C := fun ds => (∀ a ∈ ds, ∀ b ∈ ds, alike a b = true) → (nubD ds).Pairwise fun a b => keyToks a ≠ keyToks b) (fun _ => .nil) (fun ds d ih al => ?_) ds
  have ih := ih fun a ha b hb => al a (by simp [ha]) b (by simp [hb])
  rw [nubD_app]
  split
  · exact ih
  · rename_i h
    rw [List.pairwise_append]
    refine ⟨ih, List.pairwise_singleton _ _, fun a ha b hb => ?_⟩
    rw [List.mem_singleton] at hb
    subst hb
    refine toks_ne (al a (by simp [nubD_sub ds a ha]) b (by simp)) ?_
    cases q : PyData.eqv a b with
    | false => rfl
    | true => exact absurd (List.any_eq_true.mpr ⟨a, ha, q⟩) h
theorem pw_strict : ∀ {L : List D}, (L.Pairwise fun a b => dataLt a b = true) → strictD L = true
  | [], _ => rfl
  | a :: r, h => by
    rw [List.pairwise_cons] at h
    simp only [strictD, Bool.and_eq_true]
    exact ⟨List.all_eq_true.mpr h.1, pw_strict h.2⟩
theorem strict_iff {L : List D} : strictD L = true ↔ L.Pairwise fun a b => dataLt a b = true := ⟨strict_pw, pw_strict⟩
theorem sortD_perm (L : List D) : (sortD L).Perm L := List.mergeSort_perm _ _
theorem strict_sort {L : List D} (h : L.Pairwise fun a b => keyToks a ≠ keyToks b) : strictD (sortD L) = true := by
  refine pw_strict ?_
  have h2 : (sortD L).Pairwise fun a b => keyToks a ≠ keyToks b := (sortD_perm L).symm.pairwise h (fun h q => h q.symm)
  exact (h2.and (sortD_pw L)).imp fun {a b} ⟨h1, h2⟩ => lt_of_ne h1 (by rw [le_lt] at h2; simpa using h2)
theorem sortOk_alike {ds : List D} (h : sortOk ds = true) : ∀ a ∈ ds, ∀ b ∈ ds, alike a b = true := by
  unfold sortOk at h
  simp only [Bool.and_eq_true] at h
  intro a ha b hb
  exact List.all_eq_true.mp (List.all_eq_true.mp h.1.1 a ha) b hb
theorem setSortOk_of {ds : List D} (h1 : setOk ds = true) (h2 : sortOk ds = true) (h3 : (nubD ds).length < 4096) : setSortOk ds = true := by
  unfold setSortOk
  rw [h1, h2, decide_eq_true h3, strict_sort (nubD_pw ds (sortOk_alike h2))]
  rfl
theorem nubD_strict {ds : List D} (al : ∀ a ∈ ds, ∀ b ∈ ds, alike a b = true) (h : strictD ds = true) : nubD ds = ds := by
  revert al h
  refine rev_ind (C := fun ds => (∀ a ∈ ds, ∀ b ∈ ds, alike a b = true) → strictD ds = true → nubD ds = ds) (fun _ _ => rfl) (fun ds d ih al h => ?_) ds
  rw [strict_iff, List.pairwise_append] at h
  rw [nubD_app, ih (fun a ha b hb => al a (by simp [ha]) b (by simp [hb])) (strict_iff.mpr h.1), if_neg]
  intro z
  obtain ⟨a, ha, q⟩ := List.any_eq_true.mp z
  have e := (toks_eqv a d (al a (by simp [ha]) d (by simp))).1 q
  have l := h.2.2 a ha d (by simp)
  unfold dataLt at l
  rw [e, lex_irrefl] at l
  cases l
theorem toks_all : ∀ {xs ys : List D}, (∀ a ∈ xs, ∀ b ∈ ys, alike a b = true) → PyData.eqvAll xs ys = true → xs.map keyToks = ys.map keyToks
  | [], [], _, _ => rfl
  | [], _ :: _, _, h => by simp [PyData.eqvAll] at h
  | _ :: _, [], _, h => by simp [PyData.eqvAll] at h
  | a :: xs, b :: ys, al, h => by
    rw [eqv_all_cons, Bool.and_eq_true] at h
    rw [List.map_cons, List.map_cons, (toks_eqv a b (al a List.mem_cons_self b List.mem_cons_self)).1 h.1, toks_all (fun a ha b hb => al a (List.mem_cons_of_mem _ ha) b (List.mem_cons_of_mem _ hb)) h.2]
theorem strict_toks {xs ys : List D} (h : xs.map keyToks = ys.map keyToks) : strictD xs = strictD ys := by
  have key : ∀ xs ys : List D, xs.map keyToks = ys.map keyToks → strictD xs = true → strictD ys = true := fun xs ys h k => by
    rw [strict_iff] at k ⊢
    have k2 : (xs.map keyToks).Pairwise fun a b => PyProof.Rows.lexLt itemOrd a b = true := List.pairwise_map.mpr k
    rw [h] at k2
    exact List.pairwise_map.mp k2
  rw [Bool.eq_iff_iff]
  exact ⟨key _ _ h, key _ _ h.symm⟩
theorem eqvAll_refl : ∀ ds : List D, (∀ d ∈ ds, PyData.eqv d d = true) → PyData.eqvAll ds ds = true
  | [], _ => rfl
  | d :: ds, h => by rw [eqv_all_cons, h d List.mem_cons_self, eqvAll_refl ds fun e he => h e (List.mem_cons_of_mem _ he)]; rfl
/-- list(xs) == sorted(set(xs)) -/
theorem sorted_iff {ds : List D} (al : ∀ a ∈ ds, ∀ b ∈ ds, alike a b = true) (rf : ∀ d ∈ ds, PyData.eqv d d = true) : PyData.eqvAll ds (sortD (nubD ds)) = strictD ds := by
  cases q : strictD ds with
  | true =>
    rw [nubD_strict al q, sortD_one q (.refl _)]
    exact eqvAll_refl ds rf
  | false =>
    cases e : PyData.eqvAll ds (sortD (nubD ds)) with
    | false => rfl
    | true =>
      have t := strict_toks (toks_all (fun a ha b hb => al a ha b (nubD_sub ds b ((sortD_perm _).mem_iff.mp hb))) e)
      rw [strict_sort (nubD_pw ds al), q] at t
      cases t
/-! whole numbers -/
theorem alike_il (ns : List Int) : ∀ a ∈ il ns, ∀ b ∈ il ns, alike a b = true := fun a ha b hb => by
  obtain ⟨i, _, rfl⟩ := List.mem_map.mp ha
  obtain ⟨j, _, rfl⟩ := List.mem_map.mp hb
  rfl
theorem sortOk_il (ns : List Int) : sortOk (il ns) = true := by
  unfold sortOk
  have h1 : ((il ns).all fun d => (il ns).all fun e => alike d e) = true := List.all_eq_true.mpr fun a ha => List.all_eq_true.mpr fun b hb => alike_il ns a ha b hb
  have h2 : (il ns).all isOth = true := List.all_eq_true.mpr fun a ha => by
    obtain ⟨i, _, rfl⟩ := List.mem_map.mp ha
    rfl
  rw [h1, h2, Bool.or_true, depthAll_il]
  rfl
theorem eqv_int (a b : Int) : PyData.eqv (.int a) (.int b) = decide (a = b) := by simp only [PyData.eqv]; by_cases h : a = b <;> simp [h]
theorem nubD_il (ns : List Int) : nubD (il ns) = il (nubBy id ns) := nubD_inj PyData.int eqv_int ns
theorem setOk_il (ns : List Int) (hl : ns.length < 4094) : setOk (il ns) = true := by
  unfold setOk
  rw [nubD_il, il_length, Bool.and_eq_true, Bool.or_eq_true, Bool.and_eq_true, Bool.and_eq_true]
  refine ⟨?_, .inr ⟨?_, ?_⟩⟩
  · rw [List.all_eq_true]
    intro d hd
    obtain ⟨a, _, rfl⟩ := List.mem_map.mp hd
    rfl
  · rw [List.all_eq_true]
    intro d hd
    obtain ⟨a, _, rfl⟩ := List.mem_map.mp hd
    rfl
  · rw [decide_eq_true_iff]
    have := (nubBy_subl ns).length_le
    omega
theorem dataLt_i (a b : Int) : dataLt (.int a) (.int b) = decide (a < b) := by
  by_cases h : a < b <;> simp [dataLt, keyToks, PyProof.Rows.lexLt, itemLt, h]
theorem strict_il (ns : List Int) : strictD (il ns) = decide (ns.Pairwise (· < ·)) := by
  rw [Bool.eq_iff_iff, strict_iff, decide_eq_true_iff]
  unfold il
  rw [List.pairwise_map]
  simp only [dataLt_i, decide_eq_true_iff]
theorem gSortSet_il (ns : List Int) (hl : ns.length < 4094) : gSortSet (.tuple (il ns)) = some (.ow (.list (sortD (nubD (il ns))))) := by
  have h := setSortOk_of (setOk_il ns hl) (sortOk_il ns) (by rw [nubD_il, il_length]; have := (nubBy_subl ns).length_le; omega)
  have g : gSortSet (.tuple (il ns)) = if setSortOk (il ns) = true then some (.ow (.list (sortD (nubD (il ns))))) else none := Eq.trans rfl rfl
  rw [g, if_pos h]
theorem gSortSet_ill (ns : List Int) (hl : ns.length < 4094) : gSortSet (.list (il ns)) = some (.ow (.list (sortD (nubD (il ns))))) := by
  have h := setSortOk_of (setOk_il ns hl) (sortOk_il ns) (by rw [nubD_il, il_length]; have := (nubBy_subl ns).length_le; omega)
  have g : gSortSet (.list (il ns)) = if setSortOk (il ns) = true then some (.ow (.list (sortD (nubD (il ns))))) else none := Eq.trans rfl rfl
  rw [g, if_pos h]
theorem sortD_map {α : Type} (F : α → D) (le : α → α → Bool) (h : ∀ a b, dataLe false id (F a) (F b) = le a b) (xs : List α) : sortD (xs.map F) = (xs.mergeSort le).map F := by
  unfold sortD
  rw [← List.map_mergeSort (r := le)]
  intro a _ b _
  exact (h a b).symm
theorem sortD_il (ns : List Int) : sortD (il ns) = il (ns.mergeSort fun a b => decide (a ≤ b)) := sortD_map PyData.int _ (fun a b => by
  rw [le_lt, dataLt_i, Bool.eq_iff_iff, Bool.not_eq_true', decide_eq_false_iff_not, decide_eq_true_iff]
  omega) ns
theorem gSortedZ_il (ns : List Int) : gSortedZ [.tuple (il ns)] = some (.ow (.list (il (ns.mergeSort fun a b => decide (a ≤ b))))) := by
  have g : gSortedZ [.tuple (il ns)] = if sortOk (il ns) = true then some (.ow (.list (sortD (il ns)))) else none := Eq.trans rfl rfl
  rw [g, if_pos (sortOk_il ns), sortD_il]
theorem gSortedZ_ill (ns : List Int) : gSortedZ [.list (il ns)] = some (.ow (.list (il (ns.mergeSort fun a b => decide (a ≤ b))))) := by
  have g : gSortedZ [.list (il ns)] = if sortOk (il ns) = true then some (.ow (.list (sortD (il ns)))) else none := Eq.trans rfl rfl
  rw [g, if_pos (sortOk_il ns), sortD_il]
/-- sorted(set(xs)) of whole numbers -/
def srt (ns : List Int) : List Int := (nubBy id ns).mergeSort fun a b => decide (a ≤ b)
theorem sortD_nub (ns : List Int) : sortD (nubD (il ns)) = il (srt ns) := by rw [nubD_il, sortD_il]; rfl
theorem srt_iff (ns : List Int) : decide (ns = srt ns) = decide (ns.Pairwise (· < ·)) := by
  have h := sorted_iff (alike_il ns) (fun d hd => by
    obtain ⟨a, _, rfl⟩ := List.mem_map.mp hd
    rw [eqv_int]; simp)
  rw [sortD_nub, eqvAll_il, strict_il] at h
  exact h
theorem srt_pw (ns : List Int) : (srt ns).Pairwise (· < ·) := by
  have h := strict_sort (nubD_pw (il ns) (alike_il ns))
  rw [sortD_nub, strict_il] at h
  exact of_decide_eq_true h
theorem srt_mem (ns : List Int) (x : Int) : x ∈ srt ns ↔ x ∈ ns := by
  unfold srt
  rw [(List.mergeSort_perm _ _).mem_iff, nub_mem]
theorem srt_len (ns : List Int) : (srt ns).length ≤ ns.length := by
  unfold srt
  rw [(List.mergeSort_perm _ _).length_eq]
  exact (nubBy_subl ns).length_le
end Z
end
section
namespace Z
open PySem PySem.Spec L2 SY
/-! ### picks and words -/
theorem lcL_sub {α : Type} {vs : List Nat} {t : GF} {c : BF} {f : EF} (F : α → D) (P : List S → Prop) : ∀ (is : List α) (acc : List D) (ρ : List S), acc.length + is.length ≤ 16777216 → P ρ → (∀ x ∈ is, ∀ ρ, P ρ → ∃ ρ1 b ρ2, t (F x) ρ = some ρ1 ∧ c ρ1 = .ok (b, ρ2) ∧ (b = false → clean vs ρ2 = true ∧ P (wipeS ρ2 vs)) ∧ (b = true → ∃ ρ3, f ρ2 = .ok (.sh (F x), ρ3) ∧ clean vs ρ3 = true ∧ P (wipeS ρ3 vs))) →
    ∃ (js : List α) (ρ' : List S), js.Sublist is ∧ lcL vs t c f (is.map F) ρ acc = some (acc ++ js.map F, ρ') ∧ P ρ'
  | [], acc, ρ, _, h0, _ => ⟨[], ρ, .slnil, by simp [lcL], h0⟩
  | x :: is, acc, ρ, hl, h0, h => by
    obtain ⟨ρ1, b, ρ2, e1, e2, hf, ht⟩ := h x List.mem_cons_self ρ h0
    have hr : ∀ y ∈ is, _ := fun y hy => h y (List.mem_cons_of_mem _ hy)
    have hlt : acc.length < 16777216 := by simp at hl; omega
    cases b with
    | false =>
      obtain ⟨k1, k2⟩ := hf rfl
      obtain ⟨js, ρ', s, e, p⟩ := lcL_sub F P is acc (wipeS ρ2 vs) (by simp at hl; omega) k2 hr
      refine ⟨js, ρ', s.cons x, ?_, p⟩
      rw [List.map_cons, lcL, e1]
      simp [e2, toOpt, k1, e]
    | true =>
      obtain ⟨ρ3, e3, k1, k2⟩ := ht rfl
      obtain ⟨js, ρ', s, e, p⟩ := lcL_sub F P is (acc ++ [F x]) (wipeS ρ3 vs) (by simp at hl ⊢; omega) k2 hr
      refine ⟨x :: js, ρ', s.cons_cons x, ?_, p⟩
      rw [List.map_cons, lcL, e1]
      simp [e2, e3, toOpt, k1, hlt, e]
theorem pw_eq {a b : List Nat} (ha : a.Pairwise (· < ·)) (hb : b.Pairwise (· < ·)) (h : ∀ x, x ∈ a ↔ x ∈ b) : a = b := by
  have p : a.Perm b := (List.perm_ext_iff_of_nodup (ha.imp fun h => Nat.ne_of_lt h) (hb.imp fun h => Nat.ne_of_lt h)).mpr h
  refine p.eq_of_pairwise (le := (· < ·)) (fun x y _ _ h1 h2 => ?_) ha hb
  exact absurd h1 (Nat.lt_asymm h2)
theorem rg_pw (m : Nat) : (List.range' 1 m).Pairwise (· < ·) := List.pairwise_lt_range'
theorem pw_most : ∀ (ps : List Nat) (a m : Nat), ps.Pairwise (· < ·) → (∀ p ∈ ps, a ≤ p ∧ p ≤ m) → a ≤ m + 1 → ps.length ≤ m + 1 - a
  | [], a, m, _, _, _ => by simp
  | p :: ps, a, m, h, hb, hm => by
    rw [List.pairwise_cons] at h
    have hp := hb p List.mem_cons_self
    have := pw_most ps (p + 1) m h.2 (fun q hq => ⟨h.1 q hq, (hb q (List.mem_cons_of_mem _ hq)).2⟩) (by omega)
    simp only [List.length_cons]
    omega
theorem pck_of {m : Nat} {ps : List Nat} (h1 : ∀ p ∈ ps, 1 ≤ p ∧ p ≤ m) (h2 : ps.Pairwise (· < ·)) : Pck m ps := ⟨by have := pw_most ps 1 m h2 h1 (by omega); omega, h1, h2⟩
theorem pck_sub {m : Nat} {ps : List Nat} (h : ps.Sublist (List.range' 1 m)) : Pck m ps := pck_of (fun p hp => by
  have := h.subset hp
  rw [List.mem_range'_1] at this
  omega) ((rg_pw m).sublist h)
def rst (m : Nat) (ps : List Nat) : List Nat := (List.range' 1 m).filter fun x => decide (x ∉ ps)
theorem rst_ok (m : Nat) (ps : List Nat) : Pck m (rst m ps) := pck_sub List.filter_sublist
theorem rst_rst {m : Nat} {ps : List Nat} (h : Pck m ps) : rst m (rst m ps) = ps := by
  refine pw_eq (rst_ok m _).a h.a fun x => ?_
  unfold rst
  simp only [List.mem_filter, List.mem_range'_1, decide_eq_true_eq]
  constructor
  · rintro ⟨h1, h2⟩
    by_cases hx : x ∈ ps
    · exact hx
    · exact absurd ⟨h1, hx⟩ h2
  · intro hx
    have := h.b x hx
    exact ⟨by omega, fun z => z.2 hx⟩
def wpk (m : Nat) (ps : List Nat) : List Bool := (List.range m).map fun k => decide (m - k ∈ ps)
@[simp] theorem wpk_len (m : Nat) (ps : List Nat) : (wpk m ps).length = m := by simp [wpk]
def pkw (w : List Bool) : List Nat := ((List.range w.length).filter fun i => w.reverse.getD i false).map (· + 1)
theorem pkw_mem (w : List Bool) (x : Nat) : x ∈ pkw w ↔ 1 ≤ x ∧ x ≤ w.length ∧ w[w.length - x]? = some true := by
  unfold pkw
  simp only [List.mem_map, List.mem_filter, List.mem_range]
  constructor
  · rintro ⟨i, ⟨h1, h2⟩, rfl⟩
    refine ⟨by omega, by omega, ?_⟩
    rw [List.getD_eq_getElem?_getD, List.getElem?_reverse h1] at h2
    rw [show w.length - (i + 1) = w.length - 1 - i by omega]
    rw [List.getElem?_eq_getElem (by omega)] at h2 ⊢
    simp at h2
    simp [h2]
  · rintro ⟨h1, h2, h3⟩
    refine ⟨x - 1, ⟨by omega, ?_⟩, by omega⟩
    rw [List.getD_eq_getElem?_getD, List.getElem?_reverse (by omega), show w.length - 1 - (x - 1) = w.length - x by omega, h3]
    rfl
theorem pkw_ok (w : List Bool) : Pck w.length (pkw w) := by
  refine pck_of (fun p hp => ?_) ?_
  · have := (pkw_mem w p).mp hp
    exact ⟨this.1, this.2.1⟩
  · unfold pkw
    rw [List.pairwise_map]
    exact (List.pairwise_lt_range.sublist List.filter_sublist).imp fun h => by omega
theorem wpk_pkw (w : List Bool) : wpk w.length (pkw w) = w := by
  refine List.ext_getElem? fun i => ?_
  by_cases h : i < w.length
  · rw [List.getElem?_eq_getElem (by simpa using h), List.getElem?_eq_getElem h]
    simp only [wpk, List.getElem_map, List.getElem_range, Option.some.injEq]
    rw [Bool.eq_iff_iff, decide_eq_true_iff, pkw_mem, show w.length - (w.length - i) = i by omega, List.getElem?_eq_getElem h]
    simp
    omega
  · rw [List.getElem?_eq_none (by simpa using h), List.getElem?_eq_none (by simpa using h)]
theorem enumD_wr (w : List Bool) : enumD (il (w.map bi)).reverse = (List.range w.length).map fun i : Nat => PyData.tuple [.int (i : Int), .int (bi (w.reverse.getD i false))] := by
  have := enumD_w w.reverse
  rw [List.length_reverse] at this
  rw [← this]
  simp [il, List.map_reverse]
theorem ch_symm : ∀ {n k : Nat}, k ≤ n → ch n (n - k) = ch n k
  | n, 0, _ => by rw [Nat.sub_zero, ch_self, ch_z]
  | 0, k + 1, h => by omega
  | n + 1, k + 1, h => by
    rcases Nat.eq_or_lt_of_le h with e | h2
    · rw [← e, Nat.sub_self, ch_self, ch_z]
    · have i1 := ch_symm (n := n) (k := k) (by omega)
      have i2 := ch_symm (n := n) (k := k + 1) (by omega)
      rw [show n + 1 - (k + 1) = (n - (k + 1)) + 1 by omega, ch, ch]
      rw [i2, show n - (k + 1) + 1 = n - k by omega, i1]
      omega
/-! whole numbers as a pick -/
theorem natsOf_il : ∀ ns : List Int, (∀ n ∈ ns, 0 ≤ n) → natsOf (il ns) = some (ns.map Int.toNat)
  | [], _ => rfl
  | n :: r, h => by
    have h0 := h n List.mem_cons_self
    simp [natsOf, natsOf_il r fun m hm => h m (List.mem_cons_of_mem _ hm), h0]
theorem isPk_il (m : Nat) (ns : List Int) : isPk m (.tuple (il ns)) = (decide (ns.Pairwise (· < ·)) && ns.all fun n => decide (1 ≤ n) && decide (n ≤ m)) := by
  rw [Bool.eq_iff_iff, Bool.and_eq_true, decide_eq_true_iff, List.all_eq_true]
  constructor
  · intro h
    cases q : natsOf (il ns) with
    | none => simp [isPk, q] at h
    | some ps =>
      have e := natsOf_some q
      rw [e, isPk_nl] at h
      have hp := of_decide_eq_true h
      rw [nl_il] at e
      have e2 : ns = ps.map fun n : Nat => (n : Int) := (List.map_inj_right fun _ _ h => by cases h; rfl).mp e
      rw [e2]
      refine ⟨List.pairwise_map.mpr (hp.a.imp fun h => by omega), fun n hn => ?_⟩
      obtain ⟨p, hq, rfl⟩ := List.mem_map.mp hn
      have := hp.b p hq
      simp; omega
  · rintro ⟨h1, h2⟩
    have hb : ∀ n ∈ ns, 1 ≤ n ∧ n ≤ m := fun n hn => by have := h2 n hn; simpa using this
    have hn := natsOf_il ns fun n hn => by have := hb n hn; omega
    simp only [isPk, hn, decide_eq_true_eq]
    refine pck_of (fun p hp => ?_) ?_
    · obtain ⟨n, hn, rfl⟩ := List.mem_map.mp hp
      have := hb n hn
      omega
    · rw [List.pairwise_map]
      refine h1.imp_of_mem fun {a b} ha hb' h => ?_
      have := hb a ha
      have := hb b hb'
      omega
/-- neither a truth value nor anything but a whole number -/
def isI : D → Bool
  | .int _ => true
  | _ => false
theorem isI_all : ∀ {ds : List D}, ds.all isI = true → ∃ ns, ds = il ns
  | [], _ => ⟨[], rfl⟩
  | d :: ds, h => by
    rw [List.all_cons, Bool.and_eq_true] at h
    obtain ⟨ns, rfl⟩ := isI_all h.2
    cases d with
    | int i => exact ⟨i :: ns, rfl⟩
    | _ => exact absurd h.1 (by simp [isI])
theorem isPk_not (m : Nat) {ds : List D} (h : ds.all isI = false) : isPk m (.tuple ds) = false := by
  cases q : natsOf ds with
  | none => simp [isPk, q]
  | some ps =>
    have e := natsOf_some q
    subst e
    have : (nl ps).all isI = true := List.all_eq_true.mpr fun d hd => by
      obtain ⟨p, _, rfl⟩ := List.mem_map.mp hd
      rfl
    rw [this] at h
    cases h
end Z
end
section
namespace Z
open PySem PySem.Spec L2 SY
/-! ### the order of picks is that of their words (k23) -/
theorem dc_zeros (w : List Bool) : ∀ j, dc (List.replicate j false ++ w) 0 false = dc w 0 false
  | 0 => rfl
  | j + 1 => by
    rw [List.replicate_succ, List.cons_append, dc]
    exact dc_zeros w j
theorem dc_true (w : List Bool) : dc (true :: w) 0 false + dc w 0 false + 1 = 2 ^ (w.length + 1) := by
  have h1 : dc (true :: w) 0 false = dc w 1 true := rfl
  have h2 := dc_lin w 1 true
  have h3 := dc_neg w
  rw [h1, h2, Nat.pow_succ]
  omega
theorem wpk_split {m e : Nat} {p : List Nat} (h : e ≤ m) (hp : ∀ x ∈ p, x ≤ e) : wpk m p = List.replicate (m - e) false ++ wpk e p := by
  apply List.ext_getElem?
  intro i
  unfold wpk
  by_cases h1 : i < m - e
  · rw [List.getElem?_append_left (by simpa using h1), List.getElem?_replicate, if_pos h1, List.getElem?_map, List.getElem?_range (by omega)]
    have : ¬ (m - i ∈ p) := fun z => by have := hp _ z; omega
    simp [this]
  · rw [List.getElem?_append_right (by simpa using h1), List.length_replicate]
    by_cases h2 : i < m
    · rw [List.getElem?_map, List.getElem?_map, List.getElem?_range h2, List.getElem?_range (by omega)]
      simp only [Option.map_some]
      rw [show e - (i - (m - e)) = m - i by omega]
    · rw [List.getElem?_eq_none (by simpa using h2), List.getElem?_eq_none (by simp; omega)]
theorem wpk_top {e : Nat} {p : List Nat} (he : 1 ≤ e) (hp : ∀ x ∈ p, x < e) : wpk e (p ++ [e]) = true :: wpk (e - 1) p := by
  obtain ⟨n, rfl⟩ : ∃ n, e = n + 1 := ⟨e - 1, by omega⟩
  unfold wpk
  rw [List.range_succ_eq_map, List.map_cons, List.map_map]
  congr 1
  · simp
  · refine List.map_congr_left fun k hk => ?_
    have hk : k < n := by simpa using hk
    simp only [Function.comp, Nat.succ_eq_add_one, Nat.add_sub_cancel]
    rw [show n + 1 - (k + 1) = n - k by omega]
    congr 1
    have : ¬ n - k = n + 1 := by omega
    simp [this]
def gW (m : Nat) (p : List Nat) : Nat := dc (wpk m p) 0 false
theorem gW_lt {m e : Nat} {p : List Nat} (h : e ≤ m) (hp : ∀ x ∈ p, x ≤ e) : gW m p < 2 ^ e := by
  unfold gW
  rw [wpk_split h hp, dc_zeros]
  have := dc_lt (wpk e p) false
  rwa [wpk_len] at this
theorem gW_snoc {m e : Nat} {p : List Nat} (he : 1 ≤ e) (h : e ≤ m) (hp : ∀ x ∈ p, x < e) : gW m (p ++ [e]) + gW m p + 1 = 2 ^ e := by
  have e1 : gW m (p ++ [e]) = dc (true :: wpk (e - 1) p) 0 false := by
    unfold gW
    rw [wpk_split h (p := p ++ [e]) (fun x hx => by
      rcases List.mem_append.mp hx with hx | hx
      · have := hp x hx; omega
      · rw [List.mem_singleton] at hx; omega), dc_zeros, wpk_top he hp]
  have e2 : gW m p = dc (wpk (e - 1) p) 0 false := by
    unfold gW
    rw [wpk_split (e := e - 1) (by omega) (fun x hx => by have := hp x hx; omega), dc_zeros]
  have := dc_true (wpk (e - 1) p)
  rw [wpk_len, show e - 1 + 1 = e by omega] at this
  rw [e1, e2]
  exact this
theorem snoc_ex {n : Nat} {p : List Nat} (h : p.length = n + 1) : ∃ r e, p = r ++ [e] ∧ r.length = n := by
  rcases List.eq_nil_or_concat p with rfl | ⟨r, e, h2⟩
  · simp at h
  · rw [List.concat_eq_append] at h2
    subst h2
    exact ⟨r, e, rfl, by simpa using h⟩
theorem pair_snoc {r : List Nat} {e : Nat} (h : (r ++ [e]).Pairwise (· < ·)) : r.Pairwise (· < ·) ∧ ∀ x ∈ r, x < e := by
  rw [List.pairwise_append] at h
  exact ⟨h.1, fun x hx => h.2.2 x hx e (by simp)⟩
theorem rk_bd : ∀ (n : Nat) (p : List Nat) (e : Nat), p.length = n → p.Pairwise (· < ·) → (∀ x ∈ p, 1 ≤ x ∧ x ≤ e) → 0 ≤ rkA p 0 0 ∧ rkA p 0 0 + 1 ≤ (ch e n : Int)
  | 0, p, e, hl, _, _ => by
    rw [List.length_eq_zero_iff] at hl
    subst hl
    rw [ch_z]
    exact ⟨by simp [rkA], by simp [rkA]⟩
  | n + 1, p, e, hl, hp, hb => by
    obtain ⟨r, t, rfl, hr⟩ := snoc_ex hl
    obtain ⟨h1, h2⟩ := pair_snoc hp
    have ht := hb t (by simp)
    have ih := rk_bd n r (t - 1) hr h1 fun x hx => ⟨(hb x (by simp [hx])).1, by have := h2 x hx; omega⟩
    have e1 := rkA_app r t 0 0
    rw [hr, Nat.zero_add] at e1
    have hc : ch t (n + 1) = ch (t - 1) n + ch (t - 1) (n + 1) := by
      obtain ⟨u, rfl⟩ : ∃ u, t = u + 1 := ⟨t - 1, by omega⟩
      rfl
    have hm := ch_mono (n + 1) ht.2
    rw [e1]
    omega
theorem ord_pick : ∀ (n m : Nat) (p q : List Nat), p.length = n → q.length = n → p.Pairwise (· < ·) → q.Pairwise (· < ·) → (∀ x ∈ p, 1 ≤ x ∧ x ≤ m) → (∀ x ∈ q, 1 ≤ x ∧ x ≤ m) →
    (rkA p 0 0 < rkA q 0 0 ↔ gW m p < gW m q) ∧ (rkA p 0 0 = rkA q 0 0 ↔ p = q)
  | 0, m, p, q, hl, hl2, _, _, _, _ => by
    rw [List.length_eq_zero_iff] at hl hl2
    subst hl hl2
    simp
  | n + 1, m, p, q, hl, hl2, hp, hq, bp, bq => by
    obtain ⟨r, t, rfl, hr⟩ := snoc_ex hl
    obtain ⟨s, u, rfl, hs⟩ := snoc_ex hl2
    obtain ⟨p1, p2⟩ := pair_snoc hp
    obtain ⟨q1, q2⟩ := pair_snoc hq
    have ht := bp t (by simp)
    have hu := bq u (by simp)
    have br : ∀ x ∈ r, 1 ≤ x ∧ x ≤ m := fun x hx => bp x (by simp [hx])
    have bs : ∀ x ∈ s, 1 ≤ x ∧ x ≤ m := fun x hx => bq x (by simp [hx])
    have ih := ord_pick n m s r hs hr q1 p1 bs br
    have ih2 := ord_pick n m r s hr hs p1 q1 br bs
    have e1 := rkA_app r t 0 0
    have e2 := rkA_app s u 0 0
    rw [hr, Nat.zero_add] at e1
    rw [hs, Nat.zero_add] at e2
    have b1 := rk_bd n r (t - 1) hr p1 fun x hx => ⟨(br x hx).1, by have := p2 x hx; omega⟩
    have b2 := rk_bd n s (u - 1) hs q1 fun x hx => ⟨(bs x hx).1, by have := q2 x hx; omega⟩
    have g1 := gW_snoc ht.1 ht.2 p2
    have g2 := gW_snoc hu.1 hu.2 q2
    have l1 := gW_lt (m := m) (e := t - 1) (p := r) (by omega) fun x hx => by have := p2 x hx; omega
    have l2 := gW_lt (m := m) (e := u - 1) (p := s) (by omega) fun x hx => by have := q2 x hx; omega
    have hc1 : ch t (n + 1) = ch (t - 1) n + ch (t - 1) (n + 1) := by
      obtain ⟨z, rfl⟩ : ∃ z, t = z + 1 := ⟨t - 1, by omega⟩
      rfl
    have hc2 : ch u (n + 1) = ch (u - 1) n + ch (u - 1) (n + 1) := by
      obtain ⟨z, rfl⟩ : ∃ z, u = z + 1 := ⟨u - 1, by omega⟩
      rfl
    have pt : 2 ^ t = 2 ^ (t - 1) * 2 := by rw [← Nat.pow_succ]; congr 1; omega
    have pu : 2 ^ u = 2 ^ (u - 1) * 2 := by rw [← Nat.pow_succ]; congr 1; omega
    rw [e1, e2]
    rcases Nat.lt_trichotomy t u with h | h | h
    · have hm := ch_mono (n + 1) (show t ≤ u - 1 by omega)
      have hp2 : 2 ^ t ≤ 2 ^ (u - 1) := Nat.pow_le_pow_right (by omega) (by omega)
      constructor
      · constructor
        · intro _; omega
        · intro _; omega
      · constructor
        · intro _; omega
        · intro e
          have := List.append_inj_right' e rfl
          simp at this
          omega
    · subst h
      constructor
      · constructor
        · intro z
          have := ih.1.mp (by omega)
          omega
        · intro z
          have := ih.1.mpr (by omega)
          omega
      · constructor
        · intro z
          rw [ih2.2.mp (by omega)]
        · intro e
          have := List.append_inj_left' e rfl
          subst this
          rfl
    · have hm := ch_mono (n + 1) (show u ≤ t - 1 by omega)
      have hp2 : 2 ^ u ≤ 2 ^ (t - 1) := Nat.pow_le_pow_right (by omega) (by omega)
      constructor
      · constructor
        · intro _; omega
        · intro _; omega
      · constructor
        · intro _; omega
        · intro e
          have := List.append_inj_right' e rfl
          simp at this
          omega
/-! all words of few signs, by going through -/
def pkL (k : Nat) : List (List Nat) := (List.range (2 ^ k)).map fun N => pkw (gr k N false)
def cnL (L : List (List Nat)) (s : Nat) : Nat := (L.filter fun p => decide (p.length = s)).length
def okL : List (List Nat) → List Nat → Bool
  | [], _ => true
  | p :: L, seen => decide (rkA p 0 0 = ((seen.filter fun s => decide (s = p.length)).length : Nat)) && okL L (p.length :: seen)
theorem okL_all : ∀ k, k < 8 → okL (pkL k) [] = true := by decide +kernel
theorem cnL_all : ∀ k, k < 8 → ∀ s, s < k + 1 → cnL (pkL k) s = ch k s := by decide +kernel
theorem okL_at : ∀ (L : List (List Nat)) (seen : List Nat), okL L seen = true → ∀ N p, L[N]? = some p → rkA p 0 0 = (((seen.filter fun s => decide (s = p.length)).length + cnL (L.take N) p.length : Nat) : Int)
  | [], _, _, N, p, h => by simp at h
  | q :: L, seen, ok, 0, p, h => by
    have : q = p := by simpa using h
    subst this
    rw [okL, Bool.and_eq_true, decide_eq_true_eq] at ok
    rw [ok.1]
    simp [cnL]
  | q :: L, seen, ok, N + 1, p, h => by
    rw [okL, Bool.and_eq_true] at ok
    have := okL_at L (q.length :: seen) ok.2 N p (by simpa using h)
    rw [this]
    unfold cnL
    rw [List.take_succ_cons, List.filter_cons, List.filter_cons]
    by_cases e : q.length = p.length <;> simp [e] <;> omega
end Z
end
section
namespace P
open PySem PySem.Spec Z
open L2 hiding bi
theorem fits_whole_int (v a b : Int) : m_fits_whole [.sh (.int v), .sh (.int a), .sh (.int b)] = .ok (.sh (.bool (decide (a ≤ v) && decide (v ≤ b)))) := by
  unfold m_fits_whole b_fits_whole
  rw [hide_eq]
  rw [retF_eq]
  simp [isTy]
  by_cases h : a ≤ v <;> simp [h]
/-- a sign -/
def okS : D → Bool
  | .int i => decide (0 ≤ i) && decide (i ≤ 1)
  | _ => false
def okW (lo hi : Int) : D → Bool
  | .int i => decide (lo ≤ i) && decide (i ≤ hi)
  | _ => false
theorem fits_whole_any (d : D) (a b : Int) : m_fits_whole [.sh d, .sh (.int a), .sh (.int b)] = .ok (.sh (.bool (okW a b d))) := by
  cases d with
  | int i => exact fits_whole_int i a b
  | _ => unfold m_fits_whole b_fits_whole; rw [hide_eq, retF_eq]; simp [isTy, okW]
theorem okW_nat {n : Nat} {d : D} (h : okW 1 n d = true) : ∃ p : Nat, d = .int p ∧ 1 ≤ p ∧ p ≤ n := by
  cases d with
  | int i =>
    simp [okW] at h
    exact ⟨i.toNat, by rw [Int.toNat_of_nonneg (by omega)], by omega, by omega⟩
  | _ => cases h
theorem okW_all {n : Nat} : ∀ {ds : List D}, ds.all (okW 1 n) = true → ∃ ps : List Nat, ds = nl ps ∧ ∀ p ∈ ps, 1 ≤ p ∧ p ≤ n
  | [], _ => ⟨[], rfl, by simp⟩
  | d :: ds, h => by
    rw [List.all_cons, Bool.and_eq_true] at h
    obtain ⟨p, rfl, h1⟩ := okW_nat h.1
    obtain ⟨ps, rfl, h2⟩ := okW_all h.2
    exact ⟨p :: ps, rfl, fun q hq => by
      rcases List.mem_cons.mp hq with rfl | hq
      · exact h1
      · exact h2 q hq⟩
theorem okW_S (d : D) : okW 0 1 d = okS d := by cases d <;> rfl
theorem is_tuple_of_not (d : D) (a b : Int) (h : isTy "tuple" d = false) : m_is_tuple_of [.sh d, .sh (.int a), .sh (.int b)] = .ok (.sh (.bool false)) := by
  unfold m_is_tuple_of b_is_tuple_of
  rw [hide_eq]
  rw [retF_eq]
  simp [h]
theorem is_tuple_of_tup (ds : List D) (a b : Int) : m_is_tuple_of [.sh (.tuple ds), .sh (.int a), .sh (.int b)] = .ok (.sh (.bool (decide (a ≤ ds.length) && decide ((ds.length : Int) ≤ b)))) := by
  unfold m_is_tuple_of b_is_tuple_of
  rw [hide_eq]
  rw [retF_eq]
  simp [isTy]
  by_cases h : a ≤ ds.length <;> simp [h]
theorem fits_word_wd (w : List Bool) (h1 : 1 ≤ w.length) (h2 : w.length ≤ 16) : m_fits_word [.sh (wd w)] = .ok (.sh (.bool true)) := by
  unfold m_fits_word b_fits_word
  rw [hide_eq]
  rw [retF_eq]
  have e := lcL_n (vs := [1]) (t := gNm 1) (f := fUser m_fits_whole (aCons (fN 1) (aCons (fC (.int 0)) (aCons (fC (.int 1)) (aNil))))) (fun b => PyData.int (bi b)) (fun _ => PyData.bool true) [.sh (wd w), .u] w (by omega) (by
      intro b _
      refine ⟨[.sh (wd w), .sh (.int (bi b))], [.sh (wd w), .sh (.int (bi b))], .sh (.bool true), by simp, ?_, .inl rfl, rfl, rfl⟩
      simp [fits_whole_int]
      cases b <;> simp [bi])
  have hb := gAll_bools (fun _ => true) w
  have g1 : decide ((1 : Int) ≤ w.length) = true := by simp; omega
  have g2 : decide ((w.length : Int) ≤ 16) = true := by simp; omega
  unfold wd at e
  rw [il_bi] at e
  simp [wd, il_bi, is_tuple_of_tup, clean, wipeS, restS, g1, g2, plainS]
  rw [e]
  simp [hb]
/-- a word, of any value -/
def isW : D → Bool
  | .tuple ds => decide (1 ≤ ds.length) && decide (ds.length ≤ 16) && ds.all okS
  | _ => false
theorem fits_word_any (d : D) : m_fits_word [.sh d] = .ok (.sh (.bool (isW d))) := by
  have hnot : isTy "tuple" d = false → m_fits_word [.sh d] = .ok (.sh (.bool (isW d))) := by
    intro h
    have t := is_tuple_of_not d 1 16 h
    have hw : isW d = false := by cases d <;> first | rfl | (simp [isTy] at h; done)
    rw [hw]
    unfold m_fits_word b_fits_word
    rw [hide_eq]
    rw [retF_eq]
    simp [t]
  cases d with
  | tuple ds =>
    unfold m_fits_word b_fits_word
    rw [hide_eq]
    rw [retF_eq]
    have e := lcL_n (vs := [1]) (t := gNm 1) (f := fUser m_fits_whole (aCons (fN 1) (aCons (fC (.int 0)) (aCons (fC (.int 1)) (aNil))))) (fun d : D => d) (fun d => PyData.bool (okS d)) [.sh (.tuple ds), .u] ds
    by_cases h1 : 1 ≤ ds.length
    · by_cases h2 : ds.length ≤ 16
      · have e := e (by omega) (by
          intro d _
          refine ⟨[.sh (.tuple ds), .sh d], [.sh (.tuple ds), .sh d], .sh (.bool (okS d)), by simp, ?_, .inl rfl, rfl, rfl⟩
          simp [fits_whole_any, okW_S])
        have hb := gAll_bools okS ds
        have g1 : (1 : Int) ≤ ds.length := by omega
        have g2 : (ds.length : Int) ≤ 16 := by omega
        rw [List.map_id'] at e
        simp [is_tuple_of_tup, clean, wipeS, restS, g1, g2, plainS, isW, h1, h2]
        rw [e]
        simp [hb]
      · have g2 : ¬ (ds.length : Int) ≤ 16 := by omega
        simp [is_tuple_of_tup, g2, isW, h2]
    · have g1 : ¬ (1 : Int) ≤ ds.length := by omega
      simp [is_tuple_of_tup, g1, isW, h1]
  | _ => exact hnot rfl
theorem need_word_wd (w : List Bool) (h1 : 1 ≤ w.length) (h2 : w.length ≤ 16) : m_need_word [.sh (wd w)] = .ok (.sh .none) := by
  unfold m_need_word b_need_word
  rw [hide_eq]
  rw [retF_eq]
  simp [fits_word_wd w h1 h2]
theorem number_in_val (w : List Bool) (h : w.length ≤ 60) : m_number_in_signs [.sh (wd w)] = .ok (.sh (.int (dc w 0 false))) := by
  unfold m_number_in_signs b_number_in_signs
  rw [hide_eq]
  rw [retF_eq]
  have key : ∀ (v : List Bool) (f : Nat) (a : Bool) (s3 : S), pl s3 → ∃ a' r3, forL (gNm 3) (sSeq (sSet 2 (fCall gInt (hCons (oE (fOp gNe (oN 2) (oN 3))) (hNil)))) (sSet 1 (fOp gAdd (oE (fOp gMul (oE (fC (.int 2))) (oN 1))) (oN 2)))) (v.map fun b => PyData.int (bi b)) [.sh (wd w), .sh (.int f), .sh (.int (bi a)), s3] = .ok (.nx, [.sh (wd w), .sh (.int (dc v f a)), a', r3]) := by
    intro v
    induction v with
    | nil => intro f a s3 _; exact ⟨_, _, rfl⟩
    | cons b v ih =>
      intro f a s3 h3
      obtain ⟨a', s3', ih⟩ := ih (2 * f + if (a != b) then 1 else 0) (a != b) (.sh (.int (bi b))) (pl_sh _)
      refine ⟨a', s3', ?_⟩
      rw [List.map_cons, forL_step (ρ1 := [.sh (wd w), .sh (.int f), .sh (.int (bi a)), .sh (.int (bi b))]) (ρ2 := [.sh (wd w), .sh (.int ((2 * f + (if (a != b) then 1 else 0) : Nat) : Int)), .sh (.int (bi (a != b))), .sh (.int (bi b))]) ?h1 ?h2, ih]
      · rfl
      · rcases h3 with rfl | ⟨d, rfl⟩ <;> simp
      · have ea : (if bi a = bi b then (0 : Int) else 1) = bi (a != b) := by cases b <;> cases a <;> rfl
        have m1 := gMul_int 2 (f : Int) (.inl (by decide))
        simp [ea, m1, -bi_eq]
        cases a <;> cases b <;> simp [bi]
  obtain ⟨a', s3, e⟩ := key w 0 false .u pl_u
  have e1 : bi false = 0 := rfl
  rw [e1] at e
  simp at e
  unfold wd at e ⊢
  simp
  rw [il_bi] at e ⊢
  simp [e]
theorem number_of_wd (w : List Bool) (h1 : 1 ≤ w.length) (h2 : w.length ≤ 16) : m_number_of [.sh (wd w)] = .ok (.sh (.int (dc w 0 false))) := by
  unfold m_number_of b_number_of
  rw [hide_eq]
  rw [retF_eq]
  simp [need_word_wd w h1 h2, number_in_val w (by omega)]
theorem law_twos_val (n : Nat) (h : n < 1000000) : m__law_twos [.sh (.int n)] = .ok (.sh (.int ((2 ^ n : Nat) : Int))) := by
  unfold m__law_twos b__law_twos
  rw [hide_eq]
  rw [retF_eq]
  obtain ⟨ρ', e, s, hs, rfl⟩ := forL_rg (t := gNm 2) (b := sSet 1 (fOp gMul (oN 1) (oE (fC (.int 2))))) (fun i ρ => ∃ s, pl s ∧ ρ = [.sh (.int n), .sh (.int ((2 ^ i : Nat) : Int)), s]) n [.sh (.int n), .sh (.int 1), .u] ⟨.u, by simp, by simp⟩ (by
    rintro i ρ hi ⟨s, hs, rfl⟩
    refine ⟨[.sh (.int n), .sh (.int ((2 ^ i : Nat) : Int)), .sh (.int i)], [.sh (.int n), .sh (.int ((2 ^ (i + 1) : Nat) : Int)), .sh (.int i)], ?_, ?_, ⟨_, pl_sh _, rfl⟩⟩
    · rcases hs with rfl | ⟨d, rfl⟩ <;> simp
    · have := gMul_int ((2 ^ i : Nat) : Int) 2 (.inr (by decide))
      simp at this
      simp [this, Nat.pow_succ, Int.mul_comm])
  have hb : bnd (n : Int) := by unfold bnd; omega
  simp at e
  simp [hb, e]
theorem law_cup_val (ns : List Int) (hl : ns.length ≤ 63) : ∃ x y : Int, m__law_cup [.fz ns] = .ok (.ow (.list [.int x, .int y])) ∧ Cup x y := by
  have h : ∃ K A B M C, b__law_cup = cupB K A B M C ∧ ((0 < K ∧ K < 1073741824) ∧ A.natAbs < 18446744073709551616 ∧ (0 < M ∧ M < 2147483648) ∧ (0 ≤ C ∧ C < 2147483648)) := ⟨_, _, _, _, _, rfl, by decide⟩
  obtain ⟨K, A, B, M, C, e, h⟩ := h
  unfold m__law_cup
  rw [hide_eq]
  rw [e]
  exact cup_val K A B M C h ns hl
theorem law_roll_wide (x y m : Int) (hc : Cup x y) (hm : 0 < m) (hm2 : m < 18446744073709551616) : ∃ r x' y' : Int, m__law_roll x y [.sh (.int m)] = .ok (.sh (.int r), x', y') ∧ 0 ≤ r ∧ r < m ∧ Cup x' y' := by
  have h : ∃ A B M C N E, b__law_roll = rollB A B M C N E ∧ (A.natAbs < 18446744073709551616 ∧ (0 < M ∧ M < 4294967296) ∧ (0 < N) ∧ (0 < E ∧ E < 1073741824)) := ⟨_, _, _, _, _, _, rfl, by decide⟩
  obtain ⟨A, B, M, C, N, E, e, h⟩ := h
  unfold m__law_roll
  rw [hide_eq]
  rw [e]
  exact roll_wide A B M C N E h x y m hc hm hm2
theorem law_roll_val (x y m : Int) (hc : Cup x y) (hm : 0 < m) (hm2 : m < 1073741824) : ∃ r x' y' : Int, m__law_roll x y [.sh (.int m)] = .ok (.sh (.int r), x', y') ∧ 0 ≤ r ∧ r < m ∧ Cup x' y' :=
  law_roll_wide x y m hc hm (by omega)
theorem law_same_refl (d : D) (h : PyData.depth d < 40) (hs : sk d = true) : m__law_same [.sh d, .sh d] = .ok (.sh (.bool true)) := by
  have e : ∀ n, r__law_same n = sameR n := by
    intro n
    induction n with
    | zero => rfl
    | succ n ih => show retF (b__law_same (r__law_same n)) 3 = retF (sameB (sameR n)) 3; rw [ih]; rfl
  unfold m__law_same
  rw [hide_eq]
  rw [e]
  exact same_refl 40 d h hs
theorem law_same_int (i : Int) : m__law_same [.sh (.int i), .sh (.int i)] = .ok (.sh (.bool true)) := law_same_refl _ (by show 0 < 40; omega) rfl
theorem law_same_bool (i : Bool) : m__law_same [.sh (.bool i), .sh (.bool i)] = .ok (.sh (.bool true)) := law_same_refl _ (by show 0 < 40; omega) rfl
theorem law_same_ntup (ns : List Nat) (h : ns.length ≤ 1000000) : m__law_same [.sh (.tuple (nl ns)), .sh (.tuple (nl ns))] = .ok (.sh (.bool true)) := law_same_refl _ (by simp [PyData.depth, depthAll_nl]) (by simp [sk, sk_nl, h])
theorem law_same_nlst (ns : List Nat) (h : ns.length ≤ 1000000) : m__law_same [.sh (.list (nl ns)), .sh (.list (nl ns))] = .ok (.sh (.bool true)) := law_same_refl _ (by simp [PyData.depth, depthAll_nl]) (by simp [sk, sk_nl, h])
theorem law_same_itup (ns : List Int) (h : ns.length ≤ 1000000) : m__law_same [.sh (.tuple (il ns)), .sh (.tuple (il ns))] = .ok (.sh (.bool true)) := law_same_refl _ (by simp [PyData.depth, depthAll_il]) (by simp [sk, sk_il, h])
theorem law_same_ilst (ns : List Int) (h : ns.length ≤ 1000000) : m__law_same [.sh (.list (il ns)), .sh (.list (il ns))] = .ok (.sh (.bool true)) := law_same_refl _ (by simp [PyData.depth, depthAll_il]) (by simp [sk, sk_il, h])
theorem law_same_wd (w : List Bool) (h : w.length ≤ 1000000) : m__law_same [.sh (wd w), .sh (wd w)] = .ok (.sh (.bool true)) := law_same_itup _ (by simpa using h)
theorem law_number_val (w : List Bool) (h : w.length ≤ 1000) : m__law_number [.sh (wd w)] = .ok (.sh (.int (rn w))) := by
  unfold m__law_number b__law_number
  rw [hide_eq]
  apply Wp.ret
  refine Wp.seq (ρ1 := [.sh (wd w), .sh (.int 0), .u]) (by simp) ?_
  have hr : iRange3 (hCons (oE (fOp Z.gSub (oE (fCall gLen (hCons (oN 0) (hNil)))) (oE (fC (.int 1))))) (hCons (oE (fNeg (oE (fC (.int 1))))) (hCons (oE (fNeg (oE (fC (.int 1))))) (hNil)))) [.sh (wd w), .sh (.int 0), .u] = .ok ((List.range w.length).map fun i => .int ((w.length : Int) - 1 - (i : Nat)), [.sh (wd w), .sh (.int 0), .u]) := by
    exact iRange3_down w.length (by omega) (hs := [.dt (.int ((w.length : Int) - 1)), .dt (.int (-1)), .dt (.int (-1))]) (by simp) (by simp)
  refine Wp.seqW (Wp.for_ (fun i : Nat => PyData.int ((w.length : Int) - 1 - i)) (List.range w.length) (fun i ρ => ∃ s, pl s ∧ ρ = [.sh (wd w), .sh (.int (rn (w.drop (w.length - i)))), s]) hr ⟨.u, by simp [rn]⟩ ?_ ?_)
  · rintro i k ρ hi ⟨s, hs, rfl⟩
    have n1 := noc_pl hs
    obtain ⟨hk, rfl⟩ : i < w.length ∧ k = i := by
      rw [List.getElem?_eq_some_iff] at hi
      obtain ⟨h1, h2⟩ := hi
      simp at h1 h2
      exact ⟨h1, h2.symm⟩
    refine ⟨_, by simp [n1]; rfl, ?_⟩
    have hj : w.length - 1 - k < w.length := by omega
    have ei : ((w.length : Int) - 1 - k) = ((w.length - 1 - k : Nat) : Int) := by omega
    have gx := gIx_wd w (w.length - 1 - k) hj
    have t := law_twos_val (k + 1) (by omega)
    have et : ((w.length : Int) - ((w.length - 1 - k : Nat) : Int)) = ((k + 1 : Nat) : Int) := by omega
    have hd : w.drop (w.length - (k + 1)) = w[w.length - 1 - k] :: w.drop (w.length - k) := by
      rw [show w.length - (k + 1) = w.length - 1 - k by omega, List.drop_eq_getElem_cons hj, show w.length - 1 - k + 1 = w.length - k by omega]
    rw [hd, rn, show (w.drop (w.length - k)).length = k by simp; omega]
    have rb : rn (w.drop (w.length - k)) < 2 ^ (k + 1) := by
      rw [rn_dc]
      have := dc_lt (w.drop (w.length - k)) false
      rw [show (w.drop (w.length - k)).length = k by simp; omega] at this
      have := Nat.pow_le_pow_right (n := 2) (by omega) (show k ≤ k + 1 by omega)
      omega
    generalize hR : rn (w.drop (w.length - k)) = R at *
    generalize hP : 2 ^ (k + 1) = P at *
    cases hb : w[w.length - 1 - k] with
    | false =>
      rw [hb] at gx
      refine ⟨.nx, _, (by simp [ei, gx, bi]; rfl), rfl, ?_⟩
      exact ⟨_, pl_sh _, rfl⟩
    | true =>
      rw [hb] at gx
      simp only [Int.natCast_add, Int.cast_ofNat_Int] at t et
      refine ⟨.nx, _, (by simp [ei, gx, bi, et, t]; rfl), rfl, ?_⟩
      have e9 : ((if true = true then P - 1 - R else R : Nat) : Int) = (P : Int) - 1 - R := by rw [if_pos rfl]; omega
      rw [e9]
      exact ⟨_, pl_sh _, rfl⟩
  · rintro ρ' ⟨s, hs, rfl⟩
    simp only [List.length_range, Nat.sub_self, List.drop_zero]
    exact ⟨trivial, .one (ρ1 := [.sh (wd w), .sh (.int (rn w)), s]) (by simp) rfl⟩
theorem choose_val (n k : Nat) (hn : n < 21) (hk : k < 22) : m_choose [.sh (.int n), .sh (.int k)] = .ok (.sh (.int (ch n k : Nat))) := by
  unfold m_choose b_choose
  rw [hide_eq]
  apply Wp.ret
  refine Wp.seq (ρ1 := [.sh (.int n), .sh (.int k), .sh (.int 1), .u]) (by simp) ?_
  refine Wp.then (Wp.rangeS k (fun i => [.sh (.int n), .sh (.int k), .sh (.int (cf n i)), .u]) (by simp [bnd_nat (n := k) (by omega), cf]) ?_) ?_
  · intro i hi
    refine ⟨_, by simp; rfl, ?_⟩
    have b := cf_bnd n hn i (by omega)
    refine Wp.klN (.nx (by simp [gMul_int (cf n i) ((n : Int) - i) (.inl (by omega)), gDiv_int _ ((i : Int) + 1) (by omega) (by omega)]; rfl)) (by simp [cf])
  · by_cases h : k ≤ n
    · exact .fin (by simp [h, cf_ch n hn k (by omega)])
    · exact .fin (by simp [h, ch_zero n k (by omega)])
theorem number_in_pick {m : Nat} {ps : List Nat} (h : Pck m ps) (hm : m < 21) : m_number_in_picks [.sh (.tuple (nl ps))] = .ok (.sh (.int (rkA ps 0 0))) := by
  unfold m_number_in_picks b_number_in_picks
  rw [hide_eq]
  apply Wp.ret
  refine Wp.seq (ρ1 := [.sh (.tuple (nl ps)), .sh (.int 0), .u, .u]) (by simp) ?_
  refine Wp.then (Wp.forS (fun i : Nat => PyData.tuple [.int (i : Int), .int (ps.getD i 0 : Nat)]) (List.range ps.length) (fun i => [.sh (.tuple (nl ps)), .sh (.int (rkA (ps.take i) 0 0)), .u, .u]) (by simp [enumD_nl, rkA]) ?_) ?_
  · intro i x hx
    have hl := h.l
    obtain ⟨hi, e⟩ := List.getElem?_eq_some_iff.mp hx
    simp at hi e
    subst e
    have e : ps.getD i 0 = ps[i] := by simp [hi]
    have b := h.b ps[i] (List.getElem_mem hi)
    rw [e]
    have hc := choose_val ps[i] (i + 1) (by omega) (by omega)
    rw [show ((i + 1 : Nat) : Int) = (i : Int) + 1 by omega] at hc
    refine ⟨_, by simp; rfl, Wp.klN (.nx (by simp [hc]; rfl)) ?_⟩
    rw [List.take_succ_eq_append_getElem hi, rkA_app]
    simp [Nat.min_eq_left (Nat.le_of_lt hi)]
  · exact .fin (by simp)
theorem fits_pick_any (m : Nat) (hm : m < 1000) (d : D) : m_fits_pick [.sh (.int m), .sh d] = .ok (.sh (.bool (isPk m d))) := by
  unfold m_fits_pick b_fits_pick
  rw [hide_eq]
  by_cases ht : isTy "tuple" d = false
  · have hw : isPk m d = false := by cases d <;> first | rfl | (simp [isTy] at ht; done)
    rw [hw, retF_eq]
    simp [is_tuple_of_not d 0 m ht]
  · cases d with
    | tuple ds =>
      rw [retF_eq]
      by_cases hl : ds.length ≤ m
      · have e := lcL_vn (v := 2) (f := fUser m_fits_whole (aCons (fN 2) (aCons (fC (.int 1)) (aCons (fN 0) (aNil))))) (fun d : D => d) (fun d => PyData.bool (okW 1 m d)) [.sh (.int m), .sh (.tuple ds), .u, .u] rfl ds (by omega) (fun d hd => .inl (by simp [fits_whole_any]))
        rw [List.map_id'] at e
        have hb := gAll_bools (okW 1 m) ds
        have g1 : decide ((0 : Int) ≤ ds.length) = true := by simp
        have g2 : decide ((ds.length : Int) ≤ m) = true := by simp [hl]
        by_cases ha : ds.all (okW 1 m) = true
        · obtain ⟨ps, rfl, hp⟩ := okW_all ha
          have e2 := lcL_en (a := 2) (b := 3) (f := fOp gLtZ (oN 2) (oN 3)) (fun p : Nat × Nat => PyData.int (p.1 : Int)) (fun p => PyData.int (p.2 : Int)) (fun p => PyData.bool (decide (p.1 < p.2))) [.sh (.int m), .sh (.tuple (nl ps)), .u, .u] (by decide) rfl rfl (ps.zip (ps.drop 1)) (by simp at hl ⊢; omega) (fun p hp => .inl (by simp))
          have hb2 := gAll_bools (fun p : Nat × Nat => decide (p.1 < p.2)) (ps.zip (ps.drop 1))
          rw [zip_pw] at hb2
          have hz := zipD_nl ps (ps.drop 1)
          have hc := cutD_from (nl ps) 1
          rw [nl_drop] at hc
          simp only [Int.natCast_one] at hc
          have hl' : ps.length ≤ m := by simpa using hl
          have hpk : isPk m (.tuple (nl ps)) = decide (ps.Pairwise (· < ·)) := by
            rw [isPk_nl]
            by_cases hs : ps.Pairwise (· < ·)
            · have : Pck m ps := ⟨by simpa using hl, hp, hs⟩
              simp [this, hs]
            · have : ¬ Pck m ps := fun z => hs z.a
              simp [this, hs]
          rw [hpk]
          simp [is_tuple_of_tup, hl', clean, wipeS, restS, plainS, e, hb, ha, hc, hz, e2, hb2, -List.drop_one]
        · have hpk : isPk m (.tuple ds) = false := by
            unfold isPk
            cases q : natsOf ds with
            | none => simp [q]
            | some ps =>
              have := natsOf_some q
              subst this
              simp [q]
              intro z
              refine ha ?_
              rw [List.all_eq_true]
              intro d hd
              obtain ⟨p, hp, rfl⟩ := List.mem_map.mp hd
              have := z.b p hp
              simp [okW]; omega
          rw [hpk]
          simp only [Bool.not_eq_true] at ha
          simp [is_tuple_of_tup, g2, clean, wipeS, restS, plainS, e, hb, ha]
      · have g2 : ¬ (ds.length : Int) ≤ m := by omega
        have hpk : isPk m (.tuple ds) = false := by
          unfold isPk
          cases q : natsOf ds with
          | none => simp [q]
          | some ps =>
            have := natsOf_some q
            subst this
            simp [q]
            intro z
            exact hl (by simpa using z.l)
        rw [hpk]
        simp [is_tuple_of_tup, g2]
    | _ => exact absurd rfl ht
theorem fits_pick_ok {m : Nat} {ps : List Nat} (h : Pck m ps) (hm : m < 1000) : m_fits_pick [.sh (.int m), .sh (.tuple (nl ps))] = .ok (.sh (.bool true)) := by
  rw [fits_pick_any m hm, isPk_nl]
  simp [h]
theorem need_many20 (m : Nat) (h1 : 1 ≤ m) (h2 : m ≤ 20) : m_need_many [.sh (.int m)] = .ok (.sh .none) := by
  unfold m_need_many b_need_many
  rw [hide_eq]
  rw [retF_eq]
  have g : okW 1 20 (.int (m : Int)) = true := by simp [okW]; omega
  simp [fits_whole_any, g]
theorem need_pick_ok {m : Nat} {ps : List Nat} (h : Pck m ps) (h1 : 1 ≤ m) (h2 : m ≤ 20) : m_need_pick [.sh (.int m), .sh (.tuple (nl ps))] = .ok (.sh .none) := by
  unfold m_need_pick b_need_pick
  rw [hide_eq]
  rw [retF_eq]
  simp [need_many20 m h1 h2, fits_pick_ok h (by omega)]
theorem law_choose_size (n k : Nat) (hn : n < 1000) : m__law_choose [.sh (.int n), .sh (.int k)] = .ok (.sh (.int (ch n k : Nat))) := by
  unfold m__law_choose b__law_choose
  rw [hide_eq]
  apply Wp.ret
  refine Wp.seq (ρ1 := [.sh (.int n), .sh (.int k), .ow (.list (nl (prow 0))), .u, .u, .u]) (by simp [prow, ch]) ?_
  refine Wp.then (Wp.rangeS n (fun i => [.sh (.int n), .sh (.int k), .ow (.list (nl (prow i))), .u, .u, .u]) (by simp [bnd_nat (n := n) (by omega)]) ?_) ?_
  · intro i hi
    refine ⟨_, by simp; rfl, ?_⟩
    have hl := prow_len i
    have e := lcL_en (a := 4) (b := 5) (f := fOp gAdd (oN 4) (oN 5)) (fun p : Nat × Nat => PyData.int (p.1 : Int)) (fun p => PyData.int (p.2 : Int)) (fun p => PyData.int ((p.1 + p.2 : Nat) : Int)) [.sh (.int n), .sh (.int k), .sh (.list (nl (prow i))), .sh (.int i), .u, .u] (by decide) rfl rfl ((prow i).zip ((prow i).drop 1)) (by simp; omega) (fun p hp => .inl (by simp))
    have hz := zipD_nl (prow i) ((prow i).drop 1)
    have hc := cutD_from (nl (prow i)) 1
    rw [nl_drop] at hc
    simp only [Int.natCast_one] at hc
    have e3 : (((prow i).zip ((prow i).drop 1)).map fun p : Nat × Nat => PyData.int ((p.1 + p.2 : Nat) : Int)) = nl (((prow i).zip ((prow i).drop 1)).map fun p => p.1 + p.2) := by simp [nl]
    rw [e3] at e
    have hs := prow_succ i
    have hl2 : (((prow i).zip ((prow i).drop 1)).map fun p : Nat × Nat => p.1 + p.2).length = i := by simp [hl]
    generalize ((prow i).zip ((prow i).drop 1)).map (fun p => p.1 + p.2) = M at *
    have a1 := gAddL [.int 1] (nl M) (by simp; omega)
    have a2 := gAddL ([.int 1] ++ nl M) [.int 1] (by simp; omega)
    refine Wp.klN (.nx (by simp [hc, hz, clean, wipeS, restS, plainS, e, -List.drop_one]; simp at a1 a2; simp [a1, a2]; rfl)) ?_
    simp [hs, nl_app]
  · by_cases h : k ≤ n
    · have g := gIx_lst (nl (prow n)) k
      rw [nl_get, prow_get n k h] at g
      exact .fin (by simp [h, g])
    · exact .fin (by simp [h, ch_zero n k (by omega)])
theorem law_reflected_val (k : Nat) (k2 : k ≤ 12) : m__law_reflected [.sh (.int (k : Nat))] = .ok (.ow (.list (wds (rfw k)))) := by
  unfold m__law_reflected b__law_reflected
  rw [hide_eq]
  apply Wp.retO
  refine Wp.seq (ρ1 := [.sh (.int k), .ow (.list (wds (rfw 0))), .u, .u]) (by simp [rfw_zero, wds, wd]) ?_
  refine Wp.then (Wp.rangeS k (fun i => [.sh (.int k), .ow (.list (wds (rfw i))), .u, .u]) (by simp [bnd_nat (n := k) (by omega)]) ?_) (.fin (by simp))
  intro i hi
  have p : 2 ^ i ≤ 2 ^ 12 := Nat.pow_le_pow_right (by omega) (by omega)
  have l : ∀ w ∈ rfw i, w.length ≤ 1000 := fun w hw => by rw [rfw_mem hw]; omega
  have e1 := lcL_vn (v := 3) (f := fOp gAdd (oE (fTup (aCons (fC (.int 0)) (aNil)))) (oN 3)) wd (fun w => wd (false :: w)) [.sh (.int k), .sh (.list (wds (rfw i))), .sh (.int i), .u] rfl (rfw i) (by simp; omega) (fun w hw => .inl (by simp [gAdd_wd0 w (l w hw)]))
  have e2 := lcL_vn (v := 3) (f := fOp gAdd (oE (fTup (aCons (fC (.int 1)) (aNil)))) (oN 3)) wd (fun w => wd (true :: w)) [.sh (.int k), .sh (.list (wds (rfw i))), .sh (.int i), .u] rfl (rfw i).reverse (by simp; omega) (fun w hw => .inl (by simp [gAdd_wd1 w (l w (List.mem_reverse.mp hw))]))
  rw [show (rfw i).map wd = wds (rfw i) from rfl] at e1
  rw [show (rfw i).reverse.map wd = wds (rfw i).reverse from rfl, ← wds_rev] at e2
  have a := gAddL ((rfw i).map fun w => wd (false :: w)) ((rfw i).reverse.map fun w => wd (true :: w)) (by simp; omega)
  have s : ((rfw i).map fun w => wd (false :: w)) ++ ((rfw i).reverse.map fun w => wd (true :: w)) = wds (rfw (i + 1)) := by rw [rfw_succ, wds_app]; unfold wds; rw [List.map_map, List.map_map]; rfl
  rw [s] at a
  generalize (rfw i).map (fun w => wd (false :: w)) = A1 at *
  generalize (rfw i).reverse.map (fun w => wd (true :: w)) = A2 at *
  refine ⟨_, by simp; rfl, Wp.klN (.nx (by simp [clean, wipeS, restS, plainS, e1, e2, a]; rfl)) ?_⟩
  simp
theorem word_of_pick_val {m : Nat} {ps : List Nat} (h : Pck m ps) (h1 : 1 ≤ m) (h2 : m ≤ 20) : m_word_of_pick [.sh (.int m), .sh (.tuple (nl ps))] = .ok (.sh (wd (wpk m ps))) := by
  unfold m_word_of_pick b_word_of_pick
  rw [hide_eq]
  rw [retF_eq]
  have r := iRange3_dn0 m (by omega) (fH := hCons (oN 0) (hCons (oE (fC (.int 0))) (hCons (oE (fNeg (oE (fC (.int 1))))) hNil))) (ρ := [.sh (.int m), .sh (.tuple (nl ps)), .u]) (ρ1 := [.sh (.int m), .sh (.tuple (nl ps)), .u]) (by simp; rfl) (by simp)
  have e := lcL_vn (v := 2) (f := fCall gInt (hCons (oE (fOp gIn (oN 2) (oN 1))) (hNil))) (fun k : Nat => PyData.int ((m : Int) - (k : Nat))) (fun k => PyData.int (bi (decide (m - k ∈ ps)))) [.sh (.int m), .sh (.tuple (nl ps)), .u] rfl (List.range m) (by simp; omega) (fun k hk => .inl (by
    have := List.mem_range.mp hk
    have g := gIn_nl ps (m - k)
    rw [show ((m - k : Nat) : Int) = (m : Int) - k by omega] at g
    simp [gIn, g, Z.bi]))
  have e2 : ((List.range m).map fun k => PyData.int (bi (decide (m - k ∈ ps)))) = il ((wpk m ps).map bi) := by simp [wpk, il]
  rw [e2] at e
  simp [need_pick_ok h h1 h2, gIn, clean, wipeS, restS, plainS, r, e, wd]
theorem pick_of_word_wd (w : List Bool) (h1 : 1 ≤ w.length) (h2 : w.length ≤ 16) : m_pick_of_word [.sh (wd w)] = .ok (.sh (.tuple (nl (pkw w)))) := by
  unfold m_pick_of_word b_pick_of_word
  rw [hide_eq]
  rw [retF_eq]
  have e := lcL_e (a := 1) (b := 2) (c := bOf (fOp gEq (oN 2) (oE (fC (.int 1))))) (f := fOp gAdd (oN 1) (oE (fC (.int 1)))) (fun i : Nat => PyData.int (i : Int)) (fun i => PyData.int (bi (w.reverse.getD i false))) (fun i => w.reverse.getD i false) (fun i => PyData.int ((i + 1 : Nat) : Int)) [.sh (wd w), .u, .u] (by decide) rfl rfl (List.range w.length) (by simp; omega) (fun i hi => ⟨by cases hb : w.reverse.getD i false <;> simp [Z.bi, -List.getD_eq_getElem?_getD, hb], fun _ => .inl (by simp)⟩)
  rw [← enumD_wr w] at e
  have e2 : ((List.range w.length).filter fun i => w.reverse.getD i false).map (fun i : Nat => PyData.int ((i + 1 : Nat) : Int)) = nl (pkw w) := by simp [pkw, nl]
  rw [e2] at e
  have f := fits_word_wd w h1 h2
  have g : gRev (wd w) = some (.sh (.tuple (il (w.map bi)).reverse)) := gRev_tup _
  generalize hX : wd w = X at *
  simp [f, g, e, clean, wipeS, restS, plainS]
theorem law_pick_ex (x y : Int) (m : Nat) (hc : Cup x y) (hm : m ≤ 1000) : ∃ (ps : List Nat) (x' y' : Int), m__law_pick x y [.sh (.int m)] = .ok (.sh (.tuple (nl ps)), x', y') ∧ Pck m ps ∧ Cup x' y' := by
  obtain ⟨r, x1, y1, e1, r0, r1, hc⟩ := law_roll_val x y 4 hc (by omega) (by omega)
  obtain ⟨js, ρ', sb, e, x2, y2, hc2, rfl⟩ := lcL_sub (vs := [3]) (t := gNm 3) (c := fOrB (bOf (fOp gEq (oN 2) (oE (fC (.int 1))))) (fAndB (bOf (fOp gGt (oN 2) (oE (fC (.int 1))))) (bOf (fOp gGt (oE (fUserC m__law_roll 0 (aCons (fN 2) (aNil)))) (oE (fC (.int 0))))))) (f := fN 3) (fun n : Nat => PyData.int (n : Int)) (fun ρ => ∃ x y, Cup x y ∧ ρ = [.cu x y, .sh (.int m), .sh (.int r), .u]) (List.range' 1 m) [] [.cu x1 y1, .sh (.int m), .sh (.int r), .u] (by simp; omega) ⟨x1, y1, hc, rfl⟩ (by
    rintro n - ρ ⟨x, y, hc, rfl⟩
    by_cases h1 : r = 1
    · exact ⟨_, true, _, by simp; rfl, by simp [h1]; rfl, by simp, fun _ => ⟨_, by simp; rfl, rfl, x, y, hc, by simp [wipeS, h1]⟩⟩
    · by_cases h2 : 1 < r
      · obtain ⟨q, x3, y3, e3, q0, q1, hc⟩ := law_roll_val x y r hc (by omega) (by omega)
        exact ⟨_, decide (0 < q), _, by simp; rfl, by simp [h1, h2, e3]; rfl, fun _ => ⟨rfl, x3, y3, hc, by simp [wipeS]⟩, fun _ => ⟨_, by simp; rfl, rfl, x3, y3, hc, by simp [wipeS]⟩⟩
      · exact ⟨_, false, _, by simp; rfl, by simp [h1, h2]; rfl, fun _ => ⟨rfl, x, y, hc, by simp [wipeS]⟩, by simp⟩)
  have er : (List.range' 1 m).map (fun n : Nat => PyData.int (n : Int)) = rangeD 1 1 m := by rw [rangeD_one]; rfl
  rw [er] at e
  refine ⟨js, x2, y2, ?_, pck_sub sb, hc2⟩
  unfold m__law_pick b__law_pick
  rw [hide_eq]
  rw [retC_eq]
  have hz : ((m : Int) + 1 - 1).toNat = m := by omega
  have hb : ((m : Int) + 1).natAbs < 4611686018427387904 := by omega
  simp [e1, clean, wipeS, plainS, hz, bnd_iff, hb]
  rw [e]
  simp [restS, nl]
theorem number_of_pick_val {m : Nat} {ps : List Nat} (h : Pck m ps) (h1 : 1 ≤ m) (h2 : m ≤ 20) : m_number_of_pick [.sh (.int m), .sh (.tuple (nl ps))] = .ok (.sh (.int (rkA ps 0 0))) := by
  have np := need_pick_ok h h1 h2
  have ni := number_in_pick h (by omega)
  unfold m_number_of_pick b_number_of_pick
  rw [hide_eq]
  rw [retF_eq]
  simp [np, ni]
theorem law_sized_ex (x y : Int) (m n : Nat) (hc : Cup x y) (hm : m ≤ 1000) (hn : n ≤ m) : ∃ (ps : List Nat) (x' y' : Int), m__law_sized x y [.sh (.int m), .sh (.int n)] = .ok (.sh (.tuple (nl ps)), x', y') ∧ Pck m ps ∧ ps.length = n ∧ Cup x' y' := by
  have hq : Wp b__law_sized [.cu x y, .sh (.int m), .sh (.int n), .u] fun o ρ' => ∃ (ps : List Nat) (x' y' : Int) (ρ2 : List S), o = .rt (.sh (.tuple (nl ps))) ∧ ρ' = .cu x' y' :: ρ2 ∧ Pck m ps ∧ ps.length = n ∧ Cup x' y' := by
    unfold b__law_sized
    have hr : gRg false 1 ((m : Int) + 1) = some (.ow (.list (nl (List.range' 1 m)))) := by
      have rg := rangeD_one m
      simp [gRg, rg]
      omega
    refine Wp.seq (ρ1 := [.cu x y, .sh (.int m), .sh (.int n), .ow (.list (nl (List.range' 1 m)))]) (by simp [hr]) ?_
    refine Wp.seqW (Wp.whileI (fun k ρ => ∃ (x y : Int) (L : List Nat), Cup x y ∧ L.length = k ∧ n ≤ L.length ∧ L.Sublist (List.range' 1 m) ∧ ρ = [.cu x y, .sh (.int m), .sh (.int n), .ow (.list (nl L))]) ?_ m LIM _ ⟨x, y, List.range' 1 m, hc, by simp, by simpa using hn, .refl _, rfl⟩ (by rw [LIM_eq]; omega))
    rintro k ρ ⟨x, y, L, hc, hk, hL, hs, rfl⟩
    have hlen := hs.length_le
    rw [List.length_range'] at hlen
    have ll : ((nl L).length : Int) = L.length := by simp
    by_cases h : n < L.length
    · right
      have h' : (n : Int) < (L.length : Int) := by omega
      obtain ⟨r, x1, y1, e1, r0, r1, hc⟩ := law_roll_val x y L.length hc (by omega) (by omega)
      obtain ⟨j, rfl⟩ := Int.eq_ofNat_of_zero_le r0
      have hj : j < L.length := by omega
      have ix : ixN (nl L).length (j : Int) = some j := by rw [ixN_nat, nl_length, if_pos hj]
      have ge : (nl L)[j]? = some (.int (L[j] : Nat)) := by rw [nl_get, List.getElem?_eq_getElem hj]; rfl
      have er : (nl L).eraseIdx j = nl (L.eraseIdx j) := by
        unfold nl
        rw [List.eraseIdx_eq_take_drop_succ, List.eraseIdx_eq_take_drop_succ, List.map_append, List.map_take, List.map_drop]
      have hb : j < 4611686018427387904 := by omega
      have el : (L.eraseIdx j).length = L.length - 1 := List.length_eraseIdx_of_lt hj
      have hs2 : (L.eraseIdx j).Sublist (List.range' 1 m) := (List.eraseIdx_sublist _ _).trans hs
      generalize L.eraseIdx j = L2 at *
      generalize nl L = N at *
      refine ⟨by simp [ll, h'], ?_⟩
      exact .one (o := .nx) (ρ1 := [.cu x1 y1, .sh (.int m), .sh (.int n), .ow (.list (nl L2))]) (by simp [ll, e1, hb, ix, ge, er]) ⟨rfl, L2.length, by omega, x1, y1, L2, hc, rfl, by omega, hs2, rfl⟩
    · left
      have h' : ¬ (n : Int) < (L.length : Int) := by omega
      refine ⟨by
        generalize nl L = N at *
        simp [ll, h'], rfl, ?_⟩
      exact .one (o := .rt (.sh (.tuple (nl L)))) (ρ1 := [.cu x y, .sh (.int m), .sh (.int n), .ow (.list (nl L))]) (by simp) ⟨L, x, y, _, rfl, rfl, pck_sub hs, by omega, hc⟩
  obtain ⟨o, ρ', eq, ps, x', y', ρ2, rfl, rfl, hp, hpl, hc'⟩ := hq
  refine ⟨ps, x', y', ?_, hp, hpl, hc'⟩
  unfold m__law_sized
  rw [hide_eq]
  rw [retC_eq]
  show outC (b__law_sized [.cu x y, .sh (.int m), .sh (.int n), .u]) = _
  rw [eq]
  rfl
end P
end
section
namespace P
open PySem PySem.Spec Z
open L2 hiding bi
theorem rows_right : m__law_rows_right [] = .ok (.sh (.bool true)) := by
  have h : m_pick_of_word [.sh (.tuple [.int 1, .int 0])] = .ok (.sh (.tuple [.int 2])) := by
    have := pick_of_word_wd [true, false] (by decide) (by decide)
    rw [show pkw [true, false] = [2] by decide] at this
    exact this
  have r3 := law_same_refl (.tuple [.int 2]) (by decide) (by decide)
  unfold m__law_rows_right b__law_rows_right
  rw [hide_eq, retF_eq]
  simp [h, r3]
theorem pick_filter (w : List Bool) : (List.range' 1 w.length).filter (fun p => w[w.length - p]? == some true) = pkw w := by
  refine pw_eq ?_ (pkw_ok w).a fun x => ?_
  · exact (List.pairwise_lt_range' (s := 1) (n := w.length) (step := 1)).filter _
  · rw [List.mem_filter, List.mem_range'_1, pkw_mem]
    constructor
    · rintro ⟨⟨h1, h2⟩, h3⟩
      exact ⟨h1, by omega, by simpa using h3⟩
    · rintro ⟨h1, h2, h3⟩
      exact ⟨⟨h1, by omega⟩, by simpa using h3⟩
theorem wpk_lc (m : Nat) (ps : List Nat) (ρ : List S) (hi : ρ[15]? = some .u) (hm : m ≤ 1000) (h5 : ∀ a : D, oN 5 (ρ.set 15 (.sh a)) = .ok (.ix 5, ρ.set 15 (.sh a))) (h5' : ∀ a : D, look (.ix 5) (ρ.set 15 (.sh a)) = some (.tuple (nl ps))) :
    lcL [15] (gNm 15) bYes (fIf (bOf (fOp gIn (oN 15) (oN 5))) (fC (.int 1)) (fC (.int 0))) ((List.range m).map fun k : Nat => PyData.int ((m : Int) - (k : Nat))) ρ [] = some (il ((wpk m ps).map bi), ρ) := by
  have e := lcL_vn (v := 15) (f := fIf (bOf (fOp gIn (oN 15) (oN 5))) (fC (.int 1)) (fC (.int 0))) (fun k : Nat => PyData.int ((m : Int) - (k : Nat))) (fun k => PyData.int (bi (decide (m - k ∈ ps)))) ρ hi (List.range m) (by simp; omega) (fun k hk => .inl (by
    have hk : k < m := by simpa using hk
    have g : (ρ.set 15 (S.sh (PyData.int ((m : Int) - (k : Nat)))))[15]? = some (S.sh (PyData.int ((m : Int) - (k : Nat)))) := get_set_self hi _
    have gi := gIn_nl ps (m - k)
    rw [show ((m - k : Nat) : Int) = (m : Int) - (k : Nat) by omega] at gi
    have h5 := h5 (PyData.int ((m : Int) - (k : Nat)))
    have h5' := h5' (PyData.int ((m : Int) - (k : Nat)))
    have o15 : oN 15 (ρ.set 15 (S.sh (PyData.int ((m : Int) - (k : Nat))))) = .ok (.ix 15, ρ.set 15 (S.sh (PyData.int ((m : Int) - (k : Nat))))) := by rw [oN_eq, g]
    have l15 : look (.ix 15) (ρ.set 15 (S.sh (PyData.int ((m : Int) - (k : Nat))))) = some (PyData.int ((m : Int) - (k : Nat))) := by rw [look_ix, g]
    generalize ρ.set 15 (S.sh (PyData.int ((m : Int) - (k : Nat)))) = ρ' at *
    generalize PyData.int ((m : Int) - (k : Nat)) = dd at *
    by_cases q : m - k ∈ ps
    · rw [decide_eq_true q] at gi ⊢
      simp [-oN_eq, -look_ix, o15, l15, h5, h5', gi, bi]
    · rw [decide_eq_false q] at gi ⊢
      simp [-oN_eq, -look_ix, o15, l15, h5, h5', gi, bi]))
  rw [e]
  simp [wpk, il]
theorem law_holds (ns : List Int) (hl : ns.length ≤ 63) : m_law [.fz ns] = .ok (.sh (.bool true)) := by
  obtain ⟨x, y, ec, hc⟩ := law_cup_val ns hl
  unfold m_law b_law
  rw [hide_eq]
  apply Wp.ret
  refine Wp.seq (ρ1 := [.fz ns, .cu x y, .u, .u, .u, .u, .u, .u, .u, .u, .u, .u, .u, .u, .u, .u]) (by simp [ec, cupOf]) ?_
  refine Wp.no (ρ1 := [.fz ns, .cu x y, .u, .u, .u, .u, .u, .u, .u, .u, .u, .u, .u, .u, .u, .u]) (by simp [rows_right]) ?_
  obtain ⟨r, x1, y1, e1, r0, r1, hc⟩ := law_roll_val x y 7 hc (by omega) (by omega)
  obtain ⟨k0, rfl⟩ := Int.eq_ofNat_of_zero_le r0
  obtain ⟨k, hk⟩ : ∃ k, k = 1 + k0 := ⟨_, rfl⟩
  have hk' : (1 : Int) + k0 = k := by omega
  have k1 : 1 ≤ k := by omega
  have k7 : k ≤ 7 := by omega
  clear r0 r1 hk
  refine Wp.seq (ρ1 := [.fz ns, .cu x1 y1, .sh (.int k), .u, .u, .u, .u, .u, .u, .u, .u, .u, .u, .u, .u, .u]) (by simp [e1, hk']) ?_
  refine Wp.seq (ρ1 := [.fz ns, .cu x1 y1, .sh (.int k), .od (.k []), .u, .u, .u, .u, .u, .u, .u, .u, .u, .u, .u, .u]) (by simp) ?_
  have lrf := law_reflected_val k (by omega)
  have P1 : 2 ^ k ≤ 2 ^ 7 := Nat.pow_le_pow_right (by omega) k7
  have okk := okL_all k (by omega)
  have pkl : (pkL k).length = 2 ^ k := by simp [pkL]
  refine Wp.seqW (Wp.for_ wd (rfw k) (fun N ρ => ∃ (kvs : List (L2.Key × D)) (s5 : S), pl s5 ∧ (∀ s : Nat, dGet kvs (Sum.inl (s : Int)) = if cnL ((pkL k).take N) s = 0 then none else some (.int (cnL ((pkL k).take N) s : Nat))) ∧ kvs.length ≤ N ∧ ρ = [.fz ns, .cu x1 y1, .sh (.int k), .od (.k kvs), .u, s5, .u, .u, .u, .u, .u, .u, .u, .u, .u, .u]) (ρ0 := [.fz ns, .cu x1 y1, .sh (.int k), .od (.k []), .u, .u, .u, .u, .u, .u, .u, .u, .u, .u, .u, .u]) (by simp [lrf, wds]) ⟨[], .u, .inl rfl, fun s => by simp [cnL, dGet_nil], by simp, rfl⟩ ?_ ?_)
  · rintro N w ρ hw ⟨kvs, s5, h5, hd, hkl, rfl⟩
    have n5 := noc_pl h5
    have hN : N < 2 ^ k := by
      have := (List.getElem?_eq_some_iff.mp hw).1
      simpa using this
    rw [rfw_get k N hN] at hw
    cases hw
    have wl : (gr k N false).length = k := by simp
    have hp : (pkL k)[N]? = some (pkw (gr k N false)) := by simp [pkL, hN]
    have rk := okL_at (pkL k) [] okk N _ hp
    simp only [List.filter_nil, List.length_nil, Nat.zero_add] at rk
    have pk := pkw_ok (gr k N false)
    have pf := pick_filter (gr k N false)
    have wp := wpk_pkw (gr k N false)
    rw [wl] at pk pf wp
    have pw := pick_of_word_wd (gr k N false) (by omega) (by omega)
    have np := number_of_pick_val pk k1 (by omega)
    have wo := word_of_pick_val pk k1 (by omega)
    rw [wp] at wo
    rw [rk] at np
    have pll := pk.l
    have cs : ∀ s : Nat, cnL ((pkL k).take (N + 1)) s = cnL ((pkL k).take N) s + if (pkw (gr k N false)).length = s then 1 else 0 := fun s => by
      unfold cnL
      rw [List.take_add_one, hp, Option.toList_some, List.filter_append, List.length_append]
      by_cases q : (pkw (gr k N false)).length = s <;> simp [q]
    have ge := dtGet_k kvs (((pkw (gr k N false)).length : Nat) : Int)
    rw [hd] at ge
    have pu := dtPut_k kvs (((pkw (gr k N false)).length : Nat) : Int) (.int ((cnL ((pkL k).take N) (pkw (gr k N false)).length : Nat) + 1)) (by omega)
    have pl2 := dPut_le kvs (Sum.inl (((pkw (gr k N false)).length : Nat) : Int)) (.int ((cnL ((pkL k).take N) (pkw (gr k N false)).length : Nat) + 1))
    have gp := fun s : Nat => dGet_put kvs (Sum.inl (((pkw (gr k N false)).length : Nat) : Int)) (Sum.inl (s : Int)) (.int ((cnL ((pkL k).take N) (pkw (gr k N false)).length : Nat) + 1))
    have gd : (if cnL ((pkL k).take N) (pkw (gr k N false)).length = 0 then none else some (PyData.int (cnL ((pkL k).take N) (pkw (gr k N false)).length : Nat))).getD (.int 0) = .int (cnL ((pkL k).take N) (pkw (gr k N false)).length : Nat) := by
      by_cases q : cnL ((pkL k).take N) (pkw (gr k N false)).length = 0 <;> simp [q]
    have e2 := lcL_v (v := 13) (c := bOf (fOp gEq (oE (fOp gIx (oN 4) (oE (fOp gSub (oN 2) (oN 13))))) (oE (fC (.int 1))))) (f := fN 13) (fun p : Nat => PyData.int (p : Int)) (fun p => (gr k N false)[k - p]? == some true) (fun p : Nat => PyData.int (p : Int)) [.fz ns, .cu x1 y1, .sh (.int k), .od (.k kvs), .sh (wd (gr k N false)), s5, .u, .u, .u, .u, .u, .u, .u, .u, .u, .u] rfl (List.range' 1 k) (by simp; omega) (fun p hp => ⟨by
      have hp := List.mem_range'_1.mp hp
      have hlt : k - p < (gr k N false).length := by omega
      have gx := gIx_wd (gr k N false) (k - p) hlt
      rw [show ((k - p : Nat) : Int) = (k : Int) - (p : Int) by omega] at gx
      rw [List.getElem?_eq_getElem hlt]
      generalize (gr k N false)[k - p] = b at *
      generalize wd (gr k N false) = ww at *
      cases b <;> simp [gx, bi], fun _ => .inl (by simp)⟩)
    rw [pf, show (pkw (gr k N false)).map (fun p : Nat => PyData.int (p : Int)) = nl (pkw (gr k N false)) by simp [nl, il], show (List.range' 1 k).map (fun p : Nat => PyData.int (p : Int)) = nl (List.range' 1 k) by simp [nl, il], ← rangeD_one] at e2
    have sm := law_same_refl (.tuple [.tuple (nl (pkw (gr k N false))), .int (cnL ((pkL k).take N) (pkw (gr k N false)).length : Nat), wd (gr k N false)]) (by simp [PyData.depth, PyData.depthAll, depthAll_nl, wd, depthAll_il]) (by simp [sk, skAll, sk_nl, wd, sk_il]; omega)
    have b1 : bnd ((k : Int) + 1) := by unfold bnd; omega
    have t1 : ((k : Int) + 1 - 1).toNat = k := by omega
    have lp : ((nl (pkw (gr k N false))).length : Int) = ((pkw (gr k N false)).length : Nat) := by simp
    generalize pkw (gr k N false) = pp at *
    generalize wd (gr k N false) = ww at *
    generalize hcn : cnL ((pkL k).take N) pp.length = cn at *
    generalize hNP : nl pp = NP at *
    refine ⟨[.fz ns, .cu x1 y1, .sh (.int k), .od (.k kvs), .sh ww, s5, .u, .u, .u, .u, .u, .u, .u, .u, .u, .u], by simp, .kl ?_⟩
    refine Wp.seq (ρ1 := [.fz ns, .cu x1 y1, .sh (.int k), .od (.k kvs), .sh ww, .sh (.tuple NP), .u, .u, .u, .u, .u, .u, .u, .u, .u, .u]) (by
      simp [bnd_iff 1, b1, clean, wipeS, restS, plainS]
      rw [e2]
      simp [restS, n5]) ?_
    refine Wp.seq (ρ1 := [.fz ns, .cu x1 y1, .sh (.int k), .od (.k kvs), .sh ww, .sh (.tuple NP), .sh (.int cn), .u, .u, .u, .u, .u, .u, .u, .u, .u]) (by simp [lp, ge, gd]) ?_
    refine Wp.no (ρ1 := [.fz ns, .cu x1 y1, .sh (.int k), .od (.k kvs), .sh ww, .sh (.tuple NP), .sh (.int cn), .u, .u, .u, .u, .u, .u, .u, .u, .u]) (by simp [pw, np, wo, sm]) ?_
    refine .one (o := .nx) (ρ1 := [.fz ns, .cu x1 y1, .sh (.int k), .od (.k (dPut kvs (Sum.inl ((pp.length : Nat) : Int)) (.int ((cn : Nat) + 1)))), .sh ww, .sh (.tuple NP), .sh (.int cn), .u, .u, .u, .u, .u, .u, .u, .u, .u]) (by simp [lp, pu]) ⟨rfl, dPut kvs (Sum.inl ((pp.length : Nat) : Int)) (.int ((cn : Nat) + 1)), .sh (.tuple NP), pl_sh _, fun s => ?_, by omega, by simp⟩
    rw [gp, cs]
    by_cases q : pp.length = s
    · subst q
      rw [if_pos rfl, if_pos rfl, hcn, if_neg (by omega)]
      congr 2
    · have : ¬ ((Sum.inl ((pp.length : Nat) : Int) : L2.Key) = Sum.inl (s : Int)) := fun z => q (by injection z with z; omega)
      rw [if_neg this, if_neg q, hd]
      simp
  · rintro ρ ⟨kvs, s5, h5, hd, hkl, rfl⟩
    have n5 := noc_pl h5
    have p5 := plainS_pl h5
    refine ⟨rfl, ?_⟩
    rw [rfw_len, List.take_of_length_le (by omega)] at hd
    have e3 := lcL_v (v := 14) (c := bOf (fOp gNe (oE (fDGet 3 (oN 14))) (oE (fUser m__law_choose (aCons (fN 2) (aCons (fN 14) (aNil))))))) (f := fN 14) (fun s : Nat => PyData.int (s : Int)) (fun _ => false) (fun s : Nat => PyData.int (s : Int)) [.fz ns, .cu x1 y1, .sh (.int k), .od (.k kvs), .u, s5, .u, .u, .u, .u, .u, .u, .u, .u, .u, .u] rfl (List.range (k + 1)) (by simp; omega) (fun s hs => ⟨by
      have hs : s < k + 1 := by simpa using hs
      have ge := dtGet_k kvs (s : Int)
      have h1 := cnL_all k (by omega) s hs
      have h2 := ch_pos k s (by omega)
      have h3 := hd s
      rw [h1, if_neg (by omega)] at h3
      rw [h3] at ge
      have lc := law_choose_size k s (by omega)
      simp [ge, lc], fun h => by cases h⟩)
    rw [← rangeD0] at e3
    have f3 : ((List.range (k + 1)).filter (fun _ => false)).map (fun s : Nat => PyData.int (s : Int)) = [] := by simp
    rw [f3] at e3
    have gn := gNe_lnil []
    have hb : bnd ((k : Int) + 1) := by unfold bnd; omega
    have t1 : ((k : Int) + 1).toNat = k + 1 := by omega
    refine Wp.no (ρ1 := [.fz ns, .cu x1 y1, .sh (.int k), .od (.k kvs), .u, s5, .u, .u, .u, .u, .u, .u, .u, .u, .u, .u]) (by
      simp [bnd_iff 0, hb, t1, clean, wipeS, restS, plainS]
      rw [e3]
      simp [restS, gn]) ?_
    refine Wp.seqW (Wp.range 8 (fun _ ρ => ∃ x y, Cup x y ∧ ρ = [.fz ns, .cu x y, .sh (.int k), .od (.k kvs), .u, s5, .u, .u, .u, .u, .u, .u, .u, .u, .u, .u]) (ρ0 := [.fz ns, .cu x1 y1, .sh (.int k), .od (.k kvs), .u, s5, .u, .u, .u, .u, .u, .u, .u, .u, .u, .u]) (by simp [bnd_iff]) ⟨x1, y1, hc, rfl⟩ ?_ ?_)
    · rintro i ρ hi ⟨x, y, hc, rfl⟩
      refine ⟨_, by simp; rfl, .kl ?_⟩
      obtain ⟨r, x2, y2, e2, r0, r1, hc⟩ := law_roll_val x y 16 hc (by omega) (by omega)
      obtain ⟨m0, rfl⟩ := Int.eq_ofNat_of_zero_le r0
      obtain ⟨m, hm⟩ : ∃ m, m = 1 + m0 := ⟨_, rfl⟩
      have hm' : (1 : Int) + m0 = m := by omega
      have m1 : 1 ≤ m := by omega
      have m16 : m ≤ 16 := by omega
      clear r0 r1 hm
      refine Wp.seq (ρ1 := [.fz ns, .cu x2 y2, .sh (.int k), .od (.k kvs), .u, s5, .u, .sh (.int i), .sh (.int m), .u, .u, .u, .u, .u, .u, .u]) (by simp [e2, hm']) ?_
      obtain ⟨p, x3, y3, e3, pp, hc⟩ := law_pick_ex x2 y2 m hc (by omega)
      refine Wp.seq (by simp [e3]; rfl) ?_
      obtain ⟨q, x4, y4, e4, pq, ql, hc⟩ := law_sized_ex x3 y3 m p.length hc (by omega) pp.l
      have lp : ((nl p).length : Int) = (p.length : Nat) := by simp
      refine Wp.seq (ρ1 := [.fz ns, .cu x4 y4, .sh (.int k), .od (.k kvs), .u, s5, .u, .sh (.int i), .sh (.int m), .sh (.tuple (nl p)), .sh (.tuple (nl q)), .u, .u, .u, .u, .u]) (by
        generalize nl p = NP at *
        simp [lp, e4]) ?_
      have ord := ord_pick p.length m p q rfl ql pp.a pq.a pp.b pq.b
      have nval : ∀ z : List Nat, Pck m z → m__law_number [.sh (wd (wpk m z))] = .ok (.sh (.int (gW m z : Nat))) ∧ m_word_of_pick [.sh (.int m), .sh (.tuple (nl z))] = .ok (.sh (wd (wpk m z))) ∧ m_number_of [.sh (wd (wpk m z))] = .ok (.sh (.int (gW m z : Nat))) ∧ m_number_of_pick [.sh (.int m), .sh (.tuple (nl z))] = .ok (.sh (.int (rkA z 0 0))) := fun z hz => by
        have h1 := law_number_val (wpk m z) (by simp; omega)
        rw [rn_dc] at h1
        have h2 := number_of_wd (wpk m z) (by simp; omega) (by simp; omega)
        exact ⟨h1, word_of_pick_val hz m1 (by omega), h2, number_of_pick_val hz m1 (by omega)⟩
      obtain ⟨a1, a2, a3, a4⟩ := nval p pp
      obtain ⟨b1, b2, b3, b4⟩ := nval q pq
      -- numbers
      have ir : iRange3 (hCons (oN 8) (hCons (oE (fC (.int 0))) (hCons (oE (fNeg (oE (fC (.int 1))))) (hNil)))) = iRange3 (hCons (oN 8) (hCons (oE (fC (.int 0))) (hCons (oE (fNeg (oE (fC (.int 1))))) (hNil)))) := rfl
      have en := lcL_vn (v := 5) (f := fUser m__law_number (aCons (fCall gTuple (hCons (oE (fLc [15] (iRange3 (hCons (oN 8) (hCons (oE (fC (.int 0))) (hCons (oE (fNeg (oE (fC (.int 1))))) (hNil))))) (gNm 15) (bYes) (fIf (bOf (fOp gIn (oN 15) (oN 5))) (fC (.int 1)) (fC (.int 0))))) (hNil))) (aNil))) (fun z : List Nat => PyData.tuple (nl z)) (fun z => .int (gW m z : Nat)) [.fz ns, .cu x4 y4, .sh (.int k), .od (.k kvs), .u, .u, .u, .sh (.int i), .sh (.int m), .sh (.tuple (nl p)), .sh (.tuple (nl q)), .u, .u, .u, .u, .u] rfl [p, q] (by simp) (fun z hz => .inl (by
        have hzp : Pck m z := by
          simp at hz
          rcases hz with rfl | rfl <;> assumption
        obtain ⟨c1, _, _, _⟩ := nval z hzp
        have e := wpk_lc m z [.fz ns, .cu x4 y4, .sh (.int k), .od (.k kvs), .u, .sh (.tuple (nl z)), .u, .sh (.int i), .sh (.int m), .sh (.tuple (nl p)), .sh (.tuple (nl q)), .u, .u, .u, .u, .u] rfl (by omega) (fun a => rfl) (fun a => rfl)
        have hit := iRange3_dn0 m (by omega) (fH := hCons (oN 8) (hCons (oE (fC (.int 0))) (hCons (oE (fNeg (oE (fC (.int 1))))) (hNil)))) (ρ := [.fz ns, .cu x4 y4, .sh (.int k), .od (.k kvs), .u, .sh (.tuple (nl z)), .u, .sh (.int i), .sh (.int m), .sh (.tuple (nl p)), .sh (.tuple (nl q)), .u, .u, .u, .u, .u]) (ρ1 := [.fz ns, .cu x4 y4, .sh (.int k), .od (.k kvs), .u, .sh (.tuple (nl z)), .u, .sh (.int i), .sh (.int m), .sh (.tuple (nl p)), .sh (.tuple (nl q)), .u, .u, .u, .u, .u]) (by simp; rfl) (by simp)
        have w1 : wd (wpk m z) = .tuple (il ((wpk m z).map bi)) := rfl
        rw [w1] at c1
        generalize il ((wpk m z).map bi) = WL at *
        generalize (List.range m).map (fun k : Nat => PyData.int ((m : Int) - (k : Nat))) = RL at *
        simp [hit, clean, wipeS, restS, plainS]
        rw [e]
        simp [restS, c1]))
      simp only [List.map_cons, List.map_nil] at en
      refine Wp.seq (ρ1 := [.fz ns, .cu x4 y4, .sh (.int k), .od (.k kvs), .u, s5, .u, .sh (.int i), .sh (.int m), .sh (.tuple (nl p)), .sh (.tuple (nl q)), .ow (.list [.int (gW m p : Nat), .int (gW m q : Nat)]), .u, .u, .u, .u]) (by
        simp [clean, wipeS, restS, p5]
        rw [en]
        simp [restS]) ?_
      have eo := lcL_vn (v := 5) (f := fUser m_number_of (aCons (fUser m_word_of_pick (aCons (fN 8) (aCons (fN 5) (aNil)))) (aNil))) (fun z : List Nat => PyData.tuple (nl z)) (fun z => .int (gW m z : Nat)) [.fz ns, .cu x4 y4, .sh (.int k), .od (.k kvs), .u, .u, .u, .sh (.int i), .sh (.int m), .sh (.tuple (nl p)), .sh (.tuple (nl q)), .ow (.list [.int (gW m p : Nat), .int (gW m q : Nat)]), .u, .u, .u, .u] rfl [p, q] (by simp) (fun z hz => .inl (by
        simp at hz
        rcases hz with rfl | rfl
        · simp [a2, a3]
        · simp [b2, b3]))
      simp only [List.map_cons, List.map_nil] at eo
      have sm := law_same_refl (.list [.int (gW m p : Nat), .int (gW m q : Nat)]) (by simp [PyData.depth, PyData.depthAll]) (by simp [sk, skAll])
      refine Wp.no (ρ1 := [.fz ns, .cu x4 y4, .sh (.int k), .od (.k kvs), .u, s5, .u, .sh (.int i), .sh (.int m), .sh (.tuple (nl p)), .sh (.tuple (nl q)), .sh (.list [.int (gW m p : Nat), .int (gW m q : Nat)]), .u, .u, .u, .u]) (by
        simp [clean, wipeS, restS, p5]
        rw [eo]
        simp [restS, sm]) ?_
      have et := lcL_vn (v := 5) (f := fUser m_number_of_pick (aCons (fN 8) (aCons (fN 5) (aNil)))) (fun z : List Nat => PyData.tuple (nl z)) (fun z => .int (rkA z 0 0)) [.fz ns, .cu x4 y4, .sh (.int k), .od (.k kvs), .u, .u, .u, .sh (.int i), .sh (.int m), .sh (.tuple (nl p)), .sh (.tuple (nl q)), .sh (.list [.int (gW m p : Nat), .int (gW m q : Nat)]), .u, .u, .u, .u] rfl [p, q] (by simp) (fun z hz => .inl (by
        simp at hz
        rcases hz with rfl | rfl
        · simp [a4]
        · simp [b4]))
      simp only [List.map_cons, List.map_nil] at et
      refine Wp.seq (ρ1 := [.fz ns, .cu x4 y4, .sh (.int k), .od (.k kvs), .u, s5, .u, .sh (.int i), .sh (.int m), .sh (.tuple (nl p)), .sh (.tuple (nl q)), .sh (.list [.int (gW m p : Nat), .int (gW m q : Nat)]), .ow (.list [.int (rkA p 0 0), .int (rkA q 0 0)]), .u, .u, .u]) (by
        simp [clean, wipeS, restS, p5]
        rw [et]
        simp [restS]) ?_
      have g0 : ∀ a b : D, gIx (.list [a, b]) (.int 0) = some (.sh a) := fun a b => rfl
      have g1 : ∀ a b : D, gIx (.list [a, b]) (.int 1) = some (.sh b) := fun a b => rfl
      have nb : ∀ b : Bool, gNe (.bool b) (.bool b) = some (.sh (.bool false)) := fun b => by cases b <;> rfl
      have c1 : decide (rkA p 0 0 < rkA q 0 0) = decide ((gW m p : Int) < (gW m q : Int)) := by
        by_cases z : rkA p 0 0 < rkA q 0 0
        · have := ord.1.mp z
          have h2 : (gW m p : Int) < (gW m q : Int) := by omega
          simp [z, h2]
        · have h2 : ¬ (gW m p : Int) < (gW m q : Int) := fun h => z (ord.1.mpr (by omega))
          simp [z, h2]
      have c2 : (rkA p 0 0 == rkA q 0 0) = decide (p = q) := by
        by_cases z : rkA p 0 0 = rkA q 0 0
        · have := ord.2.mp z
          simp [z, this]
        · have h2 : ¬ p = q := fun h => z (ord.2.mpr h)
          simp [z, h2]
      have ge := gEq_ntup p q
      refine .one (o := .nx) (ρ1 := [.fz ns, .cu x4 y4, .sh (.int k), .od (.k kvs), .u, s5, .u, .sh (.int i), .sh (.int m), .sh (.tuple (nl p)), .sh (.tuple (nl q)), .sh (.list [.int (gW m p : Nat), .int (gW m q : Nat)]), .ow (.list [.int (rkA p 0 0), .int (rkA q 0 0)]), .u, .u, .u]) (by
        generalize rkA p 0 0 = ra at *
        generalize rkA q 0 0 = rb at *
        generalize (gW m p : Int) = ga at *
        generalize (gW m q : Int) = gb at *
        generalize nl p = NP at *
        generalize nl q = NQ at *
        generalize hD : decide (p = q) = dd at *
        simp [g0, g1, c1, c2, ge, nb]) ⟨rfl, x4, y4, hc, by simp⟩
    · rintro ρ ⟨x, y, hc, rfl⟩
      exact ⟨rfl, .fin (by simp)⟩
end P
end
section
namespace P
open PySem PySem.Spec Z
open L2 hiding bi
def topS (i : Nat) : Stmt := PySem.Challenge.pw_oneturn_k23_whole_order_of_words.main.body.getD i (.Pass ⟨0, 0, 0, 0⟩)
abbrev s_fits_whole : Stmt := topS 7
theorem sc_fits_whole : FnScope ["value", "low", "high"] ["value", "low", "high"] (defScope s_fits_whole) := ⟨rfl, rfl, rfl, by decide +kernel, rfl, by decide +kernel, by decide +kernel⟩
abbrev s_is_tuple_of : Stmt := topS 8
theorem sc_is_tuple_of : FnScope ["value", "least", "most"] ["value", "least", "most"] (defScope s_is_tuple_of) := ⟨rfl, rfl, rfl, by decide +kernel, rfl, by decide +kernel, by decide +kernel⟩
abbrev s_fits_word : Stmt := topS 9
theorem sc_fits_word : FnScope ["value", "sign"] ["value"] (defScope s_fits_word) := ⟨rfl, rfl, rfl, by decide +kernel, rfl, by decide +kernel, by decide +kernel⟩
abbrev s_choose : Stmt := topS 19
theorem sc_choose : FnScope ["many", "size", "found", "one"] ["many", "size"] (defScope s_choose) := ⟨rfl, rfl, rfl, by decide +kernel, rfl, by decide +kernel, by decide +kernel⟩
abbrev s_number_in_signs : Stmt := topS 10
theorem sc_number_in_signs : FnScope ["word", "found", "bit", "sign"] ["word"] (defScope s_number_in_signs) := ⟨rfl, rfl, rfl, by decide +kernel, rfl, by decide +kernel, by decide +kernel⟩
abbrev s_need_word : Stmt := topS 12
theorem sc_need_word : FnScope ["word"] ["word"] (defScope s_need_word) := ⟨rfl, rfl, rfl, by decide +kernel, rfl, by decide +kernel, by decide +kernel⟩
abbrev s_number_of : Stmt := topS 13
theorem sc_number_of : FnScope ["word"] ["word"] (defScope s_number_of) := ⟨rfl, rfl, rfl, by decide +kernel, rfl, by decide +kernel, by decide +kernel⟩
abbrev s_fits_pick : Stmt := topS 16
theorem sc_fits_pick : FnScope ["many", "value", "one", "other"] ["many", "value"] (defScope s_fits_pick) := ⟨rfl, rfl, rfl, by decide +kernel, rfl, by decide +kernel, by decide +kernel⟩
abbrev s_need_many : Stmt := topS 17
theorem sc_need_many : FnScope ["many"] ["many"] (defScope s_need_many) := ⟨rfl, rfl, rfl, by decide +kernel, rfl, by decide +kernel, by decide +kernel⟩
abbrev s_need_pick : Stmt := topS 18
theorem sc_need_pick : FnScope ["many", "pick"] ["many", "pick"] (defScope s_need_pick) := ⟨rfl, rfl, rfl, by decide +kernel, rfl, by decide +kernel, by decide +kernel⟩
abbrev s_number_in_picks : Stmt := topS 20
theorem sc_number_in_picks : FnScope ["pick", "found", "at", "one"] ["pick"] (defScope s_number_in_picks) := ⟨rfl, rfl, rfl, by decide +kernel, rfl, by decide +kernel, by decide +kernel⟩
abbrev s_number_of_pick : Stmt := topS 22
theorem sc_number_of_pick : FnScope ["many", "pick"] ["many", "pick"] (defScope s_number_of_pick) := ⟨rfl, rfl, rfl, by decide +kernel, rfl, by decide +kernel, by decide +kernel⟩
abbrev s_word_of_pick : Stmt := topS 23
theorem sc_word_of_pick : FnScope ["many", "pick", "one"] ["many", "pick"] (defScope s_word_of_pick) := ⟨rfl, rfl, rfl, by decide +kernel, rfl, by decide +kernel, by decide +kernel⟩
abbrev s_pick_of_word : Stmt := topS 24
theorem sc_pick_of_word : FnScope ["word", "at", "sign"] ["word"] (defScope s_pick_of_word) := ⟨rfl, rfl, rfl, by decide +kernel, rfl, by decide +kernel, by decide +kernel⟩
abbrev s__law_cup : Stmt := topS 26
theorem sc__law_cup : FnScope ["script", "cell"] ["script"] (defScope s__law_cup) := ⟨rfl, rfl, rfl, by decide +kernel, rfl, by decide +kernel, by decide +kernel⟩
abbrev s__law_roll : Stmt := topS 27
theorem sc__law_roll : FnScope ["cup", "many", "found", "deep"] ["cup", "many"] (defScope s__law_roll) := ⟨rfl, rfl, rfl, by decide +kernel, rfl, by decide +kernel, by decide +kernel⟩
abbrev s__law_same : Stmt := topS 29
theorem sc__law_same : FnScope ["told", "due", "at"] ["told", "due"] (defScope s__law_same) := ⟨rfl, rfl, rfl, by decide +kernel, rfl, by decide +kernel, by decide +kernel⟩
abbrev s__law_twos : Stmt := topS 30
theorem sc__law_twos : FnScope ["many", "found", "turn"] ["many"] (defScope s__law_twos) := ⟨rfl, rfl, rfl, by decide +kernel, rfl, by decide +kernel, by decide +kernel⟩
abbrev s__law_number : Stmt := topS 31
theorem sc__law_number : FnScope ["word", "found", "at"] ["word"] (defScope s__law_number) := ⟨rfl, rfl, rfl, by decide +kernel, rfl, by decide +kernel, by decide +kernel⟩
abbrev s__law_reflected : Stmt := topS 32
theorem sc__law_reflected : FnScope ["signs", "found", "turn", "word"] ["signs"] (defScope s__law_reflected) := ⟨rfl, rfl, rfl, by decide +kernel, rfl, by decide +kernel, by decide +kernel⟩
abbrev s__law_choose : Stmt := topS 34
theorem sc__law_choose : FnScope ["many", "size", "row", "turn", "one", "other"] ["many", "size"] (defScope s__law_choose) := ⟨rfl, rfl, rfl, by decide +kernel, rfl, by decide +kernel, by decide +kernel⟩
abbrev s__law_pick : Stmt := topS 35
theorem sc__law_pick : FnScope ["cup", "many", "way", "one"] ["cup", "many"] (defScope s__law_pick) := ⟨rfl, rfl, rfl, by decide +kernel, rfl, by decide +kernel, by decide +kernel⟩
abbrev s__law_sized : Stmt := topS 36
theorem sc__law_sized : FnScope ["cup", "many", "size", "left"] ["cup", "many", "size"] (defScope s__law_sized) := ⟨rfl, rfl, rfl, by decide +kernel, rfl, by decide +kernel, by decide +kernel⟩
abbrev s__law_rows_right : Stmt := topS 37
theorem sc__law_rows_right : FnScope [] [] (defScope s__law_rows_right) := ⟨rfl, rfl, rfl, by decide +kernel, rfl, by decide +kernel, by decide +kernel⟩
abbrev s_law : Stmt := topS 38
theorem sc_law : FnScope ["script", "cup", "signs", "counts", "word", "pick", "due", "turn", "many", "one", "other", "numbers", "told", "place", "size", "item"] ["script"] (defScope s_law) := ⟨rfl, rfl, rfl, by decide +kernel, rfl, by decide +kernel, by decide +kernel⟩
/-- what the top has left -/
structure Tx (K : PySem.W.Frag) (mg : Str → Option Value) where
  f_fits_whole : Addr
  d_fits_whole : FuncData
  D_fits_whole : Df K mg "fits_whole" "fits_whole" s_fits_whole ["value", "low", "high"] f_fits_whole d_fits_whole
  f_is_tuple_of : Addr
  d_is_tuple_of : FuncData
  D_is_tuple_of : Df K mg "is_tuple_of" "is_tuple_of" s_is_tuple_of ["value", "least", "most"] f_is_tuple_of d_is_tuple_of
  f_fits_word : Addr
  d_fits_word : FuncData
  D_fits_word : Df K mg "fits_word" "fits_word" s_fits_word ["value"] f_fits_word d_fits_word
  f_choose : Addr
  d_choose : FuncData
  D_choose : Df K mg "choose" "choose" s_choose ["many", "size"] f_choose d_choose
  f_number_in_signs : Addr
  d_number_in_signs : FuncData
  D_number_in_signs : Df K mg "number_in_signs" "number_in" s_number_in_signs ["word"] f_number_in_signs d_number_in_signs
  f_need_word : Addr
  d_need_word : FuncData
  D_need_word : Df K mg "need_word" "need_word" s_need_word ["word"] f_need_word d_need_word
  f_number_of : Addr
  d_number_of : FuncData
  D_number_of : Df K mg "number_of" "number_of" s_number_of ["word"] f_number_of d_number_of
  f_fits_pick : Addr
  d_fits_pick : FuncData
  D_fits_pick : Df K mg "fits_pick" "fits_pick" s_fits_pick ["many", "value"] f_fits_pick d_fits_pick
  f_need_many : Addr
  d_need_many : FuncData
  D_need_many : Df K mg "need_many" "need_many" s_need_many ["many"] f_need_many d_need_many
  f_need_pick : Addr
  d_need_pick : FuncData
  D_need_pick : Df K mg "need_pick" "need_pick" s_need_pick ["many", "pick"] f_need_pick d_need_pick
  f_number_in_picks : Addr
  d_number_in_picks : FuncData
  D_number_in_picks : Df K mg "number_in_picks" "number_in" s_number_in_picks ["pick"] f_number_in_picks d_number_in_picks
  f_number_of_pick : Addr
  d_number_of_pick : FuncData
  D_number_of_pick : Df K mg "number_of_pick" "number_of_pick" s_number_of_pick ["many", "pick"] f_number_of_pick d_number_of_pick
  f_word_of_pick : Addr
  d_word_of_pick : FuncData
  D_word_of_pick : Df K mg "word_of_pick" "word_of_pick" s_word_of_pick ["many", "pick"] f_word_of_pick d_word_of_pick
  f_pick_of_word : Addr
  d_pick_of_word : FuncData
  D_pick_of_word : Df K mg "pick_of_word" "pick_of_word" s_pick_of_word ["word"] f_pick_of_word d_pick_of_word
  f__law_cup : Addr
  d__law_cup : FuncData
  D__law_cup : Df K mg "_law_cup" "_law_cup" s__law_cup ["script"] f__law_cup d__law_cup
  f__law_roll : Addr
  d__law_roll : FuncData
  D__law_roll : Df K mg "_law_roll" "_law_roll" s__law_roll ["cup", "many"] f__law_roll d__law_roll
  f__law_same : Addr
  d__law_same : FuncData
  D__law_same : Df K mg "_law_same" "_law_same" s__law_same ["told", "due"] f__law_same d__law_same
  f__law_twos : Addr
  d__law_twos : FuncData
  D__law_twos : Df K mg "_law_twos" "_law_twos" s__law_twos ["many"] f__law_twos d__law_twos
  f__law_number : Addr
  d__law_number : FuncData
  D__law_number : Df K mg "_law_number" "_law_number" s__law_number ["word"] f__law_number d__law_number
  f__law_reflected : Addr
  d__law_reflected : FuncData
  D__law_reflected : Df K mg "_law_reflected" "_law_reflected" s__law_reflected ["signs"] f__law_reflected d__law_reflected
  f__law_choose : Addr
  d__law_choose : FuncData
  D__law_choose : Df K mg "_law_choose" "_law_choose" s__law_choose ["many", "size"] f__law_choose d__law_choose
  f__law_pick : Addr
  d__law_pick : FuncData
  D__law_pick : Df K mg "_law_pick" "_law_pick" s__law_pick ["cup", "many"] f__law_pick d__law_pick
  f__law_sized : Addr
  d__law_sized : FuncData
  D__law_sized : Df K mg "_law_sized" "_law_sized" s__law_sized ["cup", "many", "size"] f__law_sized d__law_sized
  f__law_rows_right : Addr
  d__law_rows_right : FuncData
  D__law_rows_right : Df K mg "_law_rows_right" "_law_rows_right" s__law_rows_right [] f__law_rows_right d__law_rows_right
  f_law : Addr
  d_law : FuncData
  D_law : Df K mg "law" "law" s_law ["script"] f_law d_law
  z_abs : mg "abs" = none
  z_all : mg "all" = none
  z_bool : mg "bool" = none
  z_enumerate : mg "enumerate" = none
  z_int : mg "int" = none
  z_isinstance : mg "isinstance" = none
  z_len : mg "len" = none
  z_list : mg "list" = none
  z_range : mg "range" = none
  z_str : mg "str" = none
  z_tuple : mg "tuple" = none
  z_zip : mg "zip" = none
  t_SIGNS : Tok
  g_SIGNS : mg "SIGNS" = some (.int 16 t_SIGNS)
  t_SOME : Tok
  g_SOME : mg "SOME" = some (.int 20 t_SOME)
section
variable {P : Program} {w : World} {K : PySem.W.Frag} {mg : Str → Option Value} {base : Heap}
theorem ok_fits_whole (T : Tx K mg) : FnOk P w K mg base (L2.CX P w) 1 T.f_fits_whole T.d_fits_whole ["value", "low", "high"] (spF K mg 3 m_fits_whole) :=
  fn_okF' (st := s_fits_whole) (N := ["value", "low", "high"]) (ps := ["value", "low", "high"]) (k := 0) (g := b_fits_whole) T.D_fits_whole.d sc_fits_whole rfl (hide_eq _) fun cdv A outer s H E c =>
      st_one (st_ret (ev_and c (ev_isi (T := "int") c (by decide) (by rfl) T.z_isinstance (by rfl) T.z_int (by decide +kernel) (op_name 0)) (ev_and c (ev_not c (op_e (ev_isi (T := "bool") c (by decide) (by rfl) T.z_isinstance (by rfl) T.z_bool (by decide +kernel) (op_name 0)))) (ev_one (ev_chain or_leZ or_leZ ok_le ok_le (op_name 1) (op_name 0) (op_name 2))))))
theorem ok_is_tuple_of (T : Tx K mg) : FnOk P w K mg base (L2.CX P w) 1 T.f_is_tuple_of T.d_is_tuple_of ["value", "least", "most"] (spF K mg 3 m_is_tuple_of) :=
  fn_okF' (st := s_is_tuple_of) (N := ["value", "least", "most"]) (ps := ["value", "least", "most"]) (k := 0) (g := b_is_tuple_of) T.D_is_tuple_of.d sc_is_tuple_of rfl (hide_eq _) fun cdv A outer s H E c =>
      st_one (st_ret (ev_and c (ev_isi (T := "tuple") c (by decide) (by rfl) T.z_isinstance (by rfl) T.z_tuple (by decide +kernel) (op_name 0)) (ev_one (ev_chain or_leZ or_leZ ok_le ok_le (op_name 1) (op_e (ev_callB c cr_lenZ ok_len (by rfl) T.z_len (by decide +kernel) (th_cons (op_name 0) (th_nil)))) (op_name 2)))))
theorem ok_fits_word (T : Tx K mg) : FnOk P w K mg base (L2.CX P w) 2 T.f_fits_word T.d_fits_word ["value"] (spF K mg 1 m_fits_word) :=
  fn_okF' (st := s_fits_word) (N := ["value", "sign"]) (ps := ["value"]) (k := 1) (g := b_fits_word) T.D_fits_word.d sc_fits_word rfl (hide_eq _) fun cdv A outer s H E c =>
      st_one (st_ret (ev_and c (ev_call c (ok_is_tuple_of T) (by decide) (by rfl) T.D_is_tuple_of.g T.D_is_tuple_of.d.kp T.D_is_tuple_of.b (ta_cons (ev_name 0) (ta_cons (ev_int) (ta_cons (ev_glob c (by rfl) T.g_SIGNS) (ta_nil)))) (hlen := aCons_len (aCons_len (aCons_len (aNil_len))))) (ev_one (ev_callB c (cr_all c.calm) ok_all (by rfl) T.z_all (by decide +kernel) (th_cons (op_e (ev_lc (own := [("sign", 1)]) c (by decide) (it_seq c (ev_name 0)) (blkOk_by (by rfl)) (fun s1 H1 C1 l1 p1 => gt_name (i := 1) (c.blk s1 H1 _ p1).nd) (fun s1 H1 C1 l1 p1 => pts_none) (fun s1 H1 C1 l1 p1 => ev_call (c.blk s1 H1 _ p1) (ok_fits_whole T) (by decide) (by rfl) T.D_fits_whole.g T.D_fits_whole.d.kp T.D_fits_whole.b (ta_cons (ev_name 1) (ta_cons (ev_int) (ta_cons (ev_int) (ta_nil)))) (hlen := aCons_len (aCons_len (aCons_len (aNil_len))))))) (th_nil))))))
theorem ok_choose (T : Tx K mg) : FnOk P w K mg base (L2.CX P w) 1 T.f_choose T.d_choose ["many", "size"] (spF K mg 2 m_choose) :=
  fn_okF' (st := s_choose) (N := ["many", "size", "found", "one"]) (ps := ["many", "size"]) (k := 0) (g := b_choose) T.D_choose.d sc_choose rfl (hide_eq _) fun cdv A outer s H E c =>
      st_cons (st_set (i := 2) c (ev_int))
      (st_cons (st_for c (passes_of rfl) (it_range1 c (by rfl) T.z_range (th_cons (op_name 1) (th_nil))) (gt_name (i := 3) c.nd) (st_kls [3] (st_one (st_set (i := 2) c (ev_op op_fdivW ok_div (op_e (ev_op or_mulZ ok_mul (op_name 2) (op_e (ev_op op_sub ok_sub (op_name 0) (op_name 3))))) (op_e (ev_op or_addZ ok_add (op_name 3) (op_e (ev_int)))))))))
      (st_one (st_ret (ev_if (bt_cmp or_leZ ok_le (op_name 1) (op_name 0) (nomark _)) (ev_move 2) (ev_int)))))
theorem ok_number_in_signs (T : Tx K mg) : FnOk P w K mg base (L2.CX P w) 1 T.f_number_in_signs T.d_number_in_signs ["word"] (spF K mg 1 m_number_in_signs) :=
  fn_okF' (st := s_number_in_signs) (N := ["word", "found", "bit", "sign"]) (ps := ["word"]) (k := 0) (g := b_number_in_signs) T.D_number_in_signs.d sc_number_in_signs rfl (hide_eq _) fun cdv A outer s H E c =>
      st_cons (st_asg (ev_tup (ta_cons (ev_int) (ta_cons (ev_int) (ta_nil)))) (gt_tup (m := 2) c (gts_cons (gt_name (i := 1) c.nd) (gts_cons (gt_name (i := 2) c.nd) (gts_nil)))))
      (st_cons (st_for c (passes_of rfl) (it_seq c (ev_name 0)) (gt_name (i := 3) c.nd) (st_cons (st_set (i := 2) c (ev_callTy c call_int1 ok_int (by rfl) T.z_int (by decide +kernel) (th_cons (op_e (ev_cmp (or_neP c.room.units) ok_ne (op_name 2) (op_name 3) (nomark _))) (th_nil))))
      (st_one (st_set (i := 1) c (ev_op or_addZ ok_add (op_e (ev_op or_mulZ ok_mul (op_e (ev_int)) (op_name 1))) (op_name 2))))))
      (st_one (st_ret (ev_move 1))))
theorem ok_need_word (T : Tx K mg) : FnOk P w K mg base (L2.CX P w) 3 T.f_need_word T.d_need_word ["word"] (spF K mg 1 m_need_word) :=
  fn_okF' (st := s_need_word) (N := ["word"]) (ps := ["word"]) (k := 2) (g := b_need_word) T.D_need_word.d sc_need_word rfl (hide_eq _) fun cdv A outer s H E c =>
      st_one (st_if (bt_not (bt_truth c (op_e (ev_call c (ok_fits_word T) (by decide) (by rfl) T.D_fits_word.g T.D_fits_word.d.kp T.D_fits_word.b (ta_cons (ev_name 0) (ta_nil)) (hlen := aCons_len (aNil_len)))))) (st_one (st_never)) (st_nil))
theorem ok_number_of (T : Tx K mg) : FnOk P w K mg base (L2.CX P w) 4 T.f_number_of T.d_number_of ["word"] (spF K mg 1 m_number_of) :=
  fn_okF' (st := s_number_of) (N := ["word"]) (ps := ["word"]) (k := 3) (g := b_number_of) T.D_number_of.d sc_number_of rfl (hide_eq _) fun cdv A outer s H E c =>
      st_cons (st_expr (ev_call c (ok_need_word T) (by decide) (by rfl) T.D_need_word.g T.D_need_word.d.kp T.D_need_word.b (ta_cons (ev_name 0) (ta_nil)) (hlen := aCons_len (aNil_len))))
      (st_one (st_ret (ev_call c (ok_number_in_signs T) (by decide) (by rfl) T.D_number_in_signs.g T.D_number_in_signs.d.kp T.D_number_in_signs.b (ta_cons (ev_name 0) (ta_nil)) (hlen := aCons_len (aNil_len)))))
theorem ok_fits_pick (T : Tx K mg) : FnOk P w K mg base (L2.CX P w) 2 T.f_fits_pick T.d_fits_pick ["many", "value"] (spF K mg 2 m_fits_pick) :=
  fn_okF' (st := s_fits_pick) (N := ["many", "value", "one", "other"]) (ps := ["many", "value"]) (k := 1) (g := b_fits_pick) T.D_fits_pick.d sc_fits_pick rfl (hide_eq _) fun cdv A outer s H E c =>
      st_cons (st_if (bt_bw (bw_or (bt_not (bt_truth c (op_e (ev_call c (ok_is_tuple_of T) (by decide) (by rfl) T.D_is_tuple_of.g T.D_is_tuple_of.d.kp T.D_is_tuple_of.b (ta_cons (ev_name 1) (ta_cons (ev_int) (ta_cons (ev_name 0) (ta_nil)))) (hlen := aCons_len (aCons_len (aCons_len (aNil_len)))))))) (bw_or1 (bt_not (bt_truth c (op_e (ev_callB c (cr_all c.calm) ok_all (by rfl) T.z_all (by decide +kernel) (th_cons (op_e (ev_lc (own := [("one", 2)]) c (by decide) (it_seq c (ev_name 1)) (blkOk_by (by rfl)) (fun s1 H1 C1 l1 p1 => gt_name (i := 2) (c.blk s1 H1 _ p1).nd) (fun s1 H1 C1 l1 p1 => pts_none) (fun s1 H1 C1 l1 p1 => ev_call (c.blk s1 H1 _ p1) (ok_fits_whole T) (by decide) (by rfl) T.D_fits_whole.g T.D_fits_whole.d.kp T.D_fits_whole.b (ta_cons (ev_name 2) (ta_cons (ev_int) (ta_cons (ev_name 0) (ta_nil)))) (hlen := aCons_len (aCons_len (aCons_len (aNil_len))))))) (th_nil))))))))) (st_one (st_ret (ev_bl))) (st_nil))
      (st_one (st_ret (ev_callB c (cr_all c.calm) ok_all (by rfl) T.z_all (by decide +kernel) (th_cons (op_e (ev_lc (own := [("one", 2), ("other", 3)]) c (by decide) (it_zip c (by rfl) T.z_zip (ta_cons (ev_name 1) (ta_cons (ev_slice c (op_name 1) (tn_some (op_e (ev_int))) (tn_none)) (ta_nil)))) (blkOk_by (by rfl)) (fun s1 H1 C1 l1 p1 => gt_tup (m := 2) (c.blk s1 H1 _ p1) (gts_cons (gt_name (i := 2) (c.blk s1 H1 _ p1).nd) (gts_cons (gt_name (i := 3) (c.blk s1 H1 _ p1).nd) (gts_nil)))) (fun s1 H1 C1 l1 p1 => pts_none) (fun s1 H1 C1 l1 p1 => ev_cmp (or_ltZ2 (c.blk s1 H1 _ p1).room.units) ok_ltZ (op_name 2) (op_name 3) (nomark _)))) (th_nil)))))
theorem ok_need_many (T : Tx K mg) : FnOk P w K mg base (L2.CX P w) 2 T.f_need_many T.d_need_many ["many"] (spF K mg 1 m_need_many) :=
  fn_okF' (st := s_need_many) (N := ["many"]) (ps := ["many"]) (k := 1) (g := b_need_many) T.D_need_many.d sc_need_many rfl (hide_eq _) fun cdv A outer s H E c =>
      st_one (st_if (bt_not (bt_truth c (op_e (ev_call c (ok_fits_whole T) (by decide) (by rfl) T.D_fits_whole.g T.D_fits_whole.d.kp T.D_fits_whole.b (ta_cons (ev_name 0) (ta_cons (ev_int) (ta_cons (ev_glob c (by rfl) T.g_SOME) (ta_nil)))) (hlen := aCons_len (aCons_len (aCons_len (aNil_len)))))))) (st_one (st_never)) (st_nil))
theorem ok_need_pick (T : Tx K mg) : FnOk P w K mg base (L2.CX P w) 3 T.f_need_pick T.d_need_pick ["many", "pick"] (spF K mg 2 m_need_pick) :=
  fn_okF' (st := s_need_pick) (N := ["many", "pick"]) (ps := ["many", "pick"]) (k := 2) (g := b_need_pick) T.D_need_pick.d sc_need_pick rfl (hide_eq _) fun cdv A outer s H E c =>
      st_cons (st_expr (ev_call c (ok_need_many T) (by decide) (by rfl) T.D_need_many.g T.D_need_many.d.kp T.D_need_many.b (ta_cons (ev_name 0) (ta_nil)) (hlen := aCons_len (aNil_len))))
      (st_one (st_if (bt_not (bt_truth c (op_e (ev_call c (ok_fits_pick T) (by decide) (by rfl) T.D_fits_pick.g T.D_fits_pick.d.kp T.D_fits_pick.b (ta_cons (ev_name 0) (ta_cons (ev_name 1) (ta_nil))) (hlen := aCons_len (aCons_len (aNil_len))))))) (st_one (st_never)) (st_nil)))
theorem ok_number_in_picks (T : Tx K mg) : FnOk P w K mg base (L2.CX P w) 2 T.f_number_in_picks T.d_number_in_picks ["pick"] (spF K mg 1 m_number_in_picks) :=
  fn_okF' (st := s_number_in_picks) (N := ["pick", "found", "at", "one"]) (ps := ["pick"]) (k := 1) (g := b_number_in_picks) T.D_number_in_picks.d sc_number_in_picks rfl (hide_eq _) fun cdv A outer s H E c =>
      st_cons (st_set (i := 1) c (ev_int))
      (st_cons (st_for c (passes_of rfl) (it_enum c (by rfl) T.z_enumerate (ta_cons (ev_name 0) (ta_nil))) (gt_tup (m := 2) c (gts_cons (gt_name (i := 2) c.nd) (gts_cons (gt_name (i := 3) c.nd) (gts_nil)))) (st_kls [2, 3] (st_one (st_set (i := 1) c (ev_op op_sub ok_sub (op_e (ev_op op_sub ok_sub (op_e (ev_call c (ok_choose T) (by decide) (by rfl) T.D_choose.g T.D_choose.d.kp T.D_choose.b (ta_cons (ev_name 3) (ta_cons (ev_op or_addZ ok_add (op_name 2) (op_e (ev_int))) (ta_nil))) (hlen := aCons_len (aCons_len (aNil_len))))) (op_e (ev_int)))) (op_name 1))))))
      (st_one (st_ret (ev_move 1))))
theorem ok_number_of_pick (T : Tx K mg) : FnOk P w K mg base (L2.CX P w) 4 T.f_number_of_pick T.d_number_of_pick ["many", "pick"] (spF K mg 2 m_number_of_pick) :=
  fn_okF' (st := s_number_of_pick) (N := ["many", "pick"]) (ps := ["many", "pick"]) (k := 3) (g := b_number_of_pick) T.D_number_of_pick.d sc_number_of_pick rfl (hide_eq _) fun cdv A outer s H E c =>
      st_cons (st_expr (ev_call c (ok_need_pick T) (by decide) (by rfl) T.D_need_pick.g T.D_need_pick.d.kp T.D_need_pick.b (ta_cons (ev_name 0) (ta_cons (ev_name 1) (ta_nil))) (hlen := aCons_len (aCons_len (aNil_len)))))
      (st_one (st_ret (ev_call c (ok_number_in_picks T) (by decide) (by rfl) T.D_number_in_picks.g T.D_number_in_picks.d.kp T.D_number_in_picks.b (ta_cons (ev_name 1) (ta_nil)) (hlen := aCons_len (aNil_len)))))
theorem ok_word_of_pick (T : Tx K mg) : FnOk P w K mg base (L2.CX P w) 4 T.f_word_of_pick T.d_word_of_pick ["many", "pick"] (spF K mg 2 m_word_of_pick) :=
  fn_okF' (st := s_word_of_pick) (N := ["many", "pick", "one"]) (ps := ["many", "pick"]) (k := 3) (g := b_word_of_pick) T.D_word_of_pick.d sc_word_of_pick rfl (hide_eq _) fun cdv A outer s H E c =>
      st_cons (st_expr (ev_call c (ok_need_pick T) (by decide) (by rfl) T.D_need_pick.g T.D_need_pick.d.kp T.D_need_pick.b (ta_cons (ev_name 0) (ta_cons (ev_name 1) (ta_nil))) (hlen := aCons_len (aCons_len (aNil_len)))))
      (st_one (st_ret (ev_callTy c call_tuple_of ok_tuple (by rfl) T.z_tuple (by decide +kernel) (th_cons (op_e (ev_lc (own := [("one", 2)]) c (by decide) (it_range3 c (by rfl) T.z_range (th_cons (op_name 0) (th_cons (op_e (ev_int)) (th_cons (op_e (ev_neg (op_e (ev_int)))) (th_nil))))) (blkOk_by (by rfl)) (fun s1 H1 C1 l1 p1 => gt_name (i := 2) (c.blk s1 H1 _ p1).nd) (fun s1 H1 C1 l1 p1 => pts_none) (fun s1 H1 C1 l1 p1 => ev_callTy (c.blk s1 H1 _ p1) call_int1 ok_int (by rfl) T.z_int (by decide +kernel) (th_cons (op_e (ev_cmp (or_inP (c.blk s1 H1 _ p1).room.units) ok_inB (op_name 2) (op_name 1) (by rfl))) (th_nil))))) (th_nil)))))
theorem ok_pick_of_word (T : Tx K mg) : FnOk P w K mg base (L2.CX P w) 3 T.f_pick_of_word T.d_pick_of_word ["word"] (spF K mg 1 m_pick_of_word) :=
  fn_okF' (st := s_pick_of_word) (N := ["word", "at", "sign"]) (ps := ["word"]) (k := 2) (g := b_pick_of_word) T.D_pick_of_word.d sc_pick_of_word rfl (hide_eq _) fun cdv A outer s H E c =>
      st_cons (st_if (bt_not (bt_truth c (op_e (ev_call c (ok_fits_word T) (by decide) (by rfl) T.D_fits_word.g T.D_fits_word.d.kp T.D_fits_word.b (ta_cons (ev_name 0) (ta_nil)) (hlen := aCons_len (aNil_len)))))) (st_one (st_never)) (st_nil))
      (st_one (st_ret (ev_callTy c call_tuple_of ok_tuple (by rfl) T.z_tuple (by decide +kernel) (th_cons (op_e (ev_lc (own := [("at", 1), ("sign", 2)]) c (by decide) (it_enum c (by rfl) T.z_enumerate (ta_cons (ev_rev c (op_name 0)) (ta_nil))) (blkOk_by (by rfl)) (fun s1 H1 C1 l1 p1 => gt_tup (m := 2) (c.blk s1 H1 _ p1) (gts_cons (gt_name (i := 1) (c.blk s1 H1 _ p1).nd) (gts_cons (gt_name (i := 2) (c.blk s1 H1 _ p1).nd) (gts_nil)))) (fun s1 H1 C1 l1 p1 => pts_one (bt_cmp (or_eqP (c.blk s1 H1 _ p1).room.units) ok_eq (op_name 2) (op_e (ev_int)) (nomark _))) (fun s1 H1 C1 l1 p1 => ev_op or_addZ ok_add (op_name 1) (op_e (ev_int))))) (th_nil)))))
theorem ok__law_cup (T : Tx K mg) : FnOk P w K mg base (L2.CX P w) 1 T.f__law_cup T.d__law_cup ["script"] (spF K mg 1 m__law_cup) :=
  fn_okF' (st := s__law_cup) (N := ["script", "cell"]) (ps := ["script"]) (k := 0) (g := b__law_cup) T.D__law_cup.d sc__law_cup rfl (hide_eq _) fun cdv A outer s H E c =>
      st_cons (st_set (i := 1) c (ev_callB c call_abs ok_abs (by rfl) T.z_abs (by decide +kernel) (th_cons (op_e (ev_ix ix_seq ok_ix (op_e (ev_op or_addZ ok_add (op_e (ev_listZ 0 c (by rfl) T.z_list)) (op_e (ev_lst (ta_cons (ev_int) (ta_nil)))))) (op_e (ev_int)) (fun _ _ => rfl))) (th_nil))))
      (st_one (st_ret (ev_lst (ta_cons (ev_if (bt_cmp or_geZ ok_ge (op_name 1) (op_e (ev_op op_pow ok_pow (op_e (ev_int)) (op_e (ev_int)))) (nomark _)) (ev_op op_fdivW ok_div (op_name 1) (op_e (ev_int))) (ev_int)) (ta_cons (ev_op or_addZ ok_add (op_e (ev_op op_mod ok_mod (op_e (ev_callTy c call_int1 ok_int (by rfl) T.z_int (by decide +kernel) (th_cons (op_e (ev_op or_addZ ok_add (op_e (ev_op or_mulZ ok_mul (op_name 1) (op_e (ev_int)))) (op_e (ev_int)))) (th_nil)))) (op_e (ev_int)))) (op_e (ev_int))) (ta_nil))))))
theorem ok__law_roll (T : Tx K mg) : FnOk P w K mg base (L2.CX P w) 1 T.f__law_roll T.d__law_roll ["cup", "many"] (spC K mg 1 m__law_roll) :=
  fn_okC' (st := s__law_roll) (N := ["cup", "many", "found", "deep"]) (ps := ["cup", "many"]) (k := 0) (g := b__law_roll) T.D__law_roll.d sc__law_roll (by decide) rfl (hide_eq _) fun cdv A outer s H E c =>
      st_cons (st_if (bt_cmp or_gtZ ok_gt (op_e (ev_ix ix_seq ok_ix (op_name 0) (op_e (ev_int)) (fun _ _ => rfl))) (op_e (ev_int)) (nomark _)) (st_cons (st_set (i := 2) c (ev_op op_mod ok_mod (op_e (ev_callTy c call_int1 ok_int (by rfl) T.z_int (by decide +kernel) (th_cons (op_e (ev_ix ix_seq ok_ix (op_name 0) (op_e (ev_int)) (fun _ _ => rfl))) (th_nil)))) (op_name 1)))
      (st_cons (st_setIx 0 (ps_asg (ev_op op_fdivW ok_div (op_e (ev_ix ix_seq ok_ix (op_name 0) (op_e (ev_int)) (fun _ _ => rfl))) (op_name 1)) (pg_sub (pv 0) (op_e (ev_int)) set_list)))
      (st_one (st_ret (ev_move 2))))) (st_nil))
      (st_cons (st_setIx 0 (ps_asg (ev_op op_mod ok_mod (op_e (ev_callTy c call_int1 ok_int (by rfl) T.z_int (by decide +kernel) (th_cons (op_e (ev_op or_addZ ok_add (op_e (ev_op or_mulZ ok_mul (op_e (ev_ix ix_seq ok_ix (op_name 0) (op_e (ev_int)) (fun _ _ => rfl))) (op_e (ev_int)))) (op_e (ev_int)))) (th_nil)))) (op_e (ev_int))) (pg_sub (pv 0) (op_e (ev_int)) set_list)))
      (st_cons (st_set (i := 3) c (ev_op op_mod ok_mod (op_e (ev_callTy c call_int1 ok_int (by rfl) T.z_int (by decide +kernel) (th_cons (op_e (ev_op or_mulZ ok_mul (op_e (ev_ix ix_seq ok_ix (op_name 0) (op_e (ev_int)) (fun _ _ => rfl))) (op_e (ev_op or_addZ ok_add (op_e (ev_ix ix_seq ok_ix (op_name 0) (op_e (ev_int)) (fun _ _ => rfl))) (op_e (ev_int)))))) (th_nil)))) (op_e (ev_int))))
      (st_one (st_ret (ev_op op_mod ok_mod (op_e (ev_callTy c call_int1 ok_int (by rfl) T.z_int (by decide +kernel) (th_cons (op_e (ev_op op_fdivW ok_div (op_name 3) (op_e (ev_int)))) (th_nil)))) (op_name 1))))))
theorem ok_r__law_same (T : Tx K mg) : ∀ n : Nat, FnOk P w K mg base (L2.CX P w) (0 + n) T.f__law_same T.d__law_same ["told", "due"] (spF K mg 2 (r__law_same n))
  | 0 => fn_no rfl
  | n + 1 => (fn_okF' (st := s__law_same) (N := ["told", "due", "at"]) (ps := ["told", "due"]) (k := 0 + n) (g := b__law_same (r__law_same n)) T.D__law_same.d sc__law_same rfl rfl fun cdv A outer s H E c =>
      st_cons (st_if (bt_bw (bw_or (bt_truth c (op_e (ev_isi (T := "tuple") c (by decide) (by rfl) T.z_isinstance (by rfl) T.z_tuple (by decide +kernel) (op_name 1)))) (bw_or1 (bt_truth c (op_e (ev_isi (T := "list") c (by decide) (by rfl) T.z_isinstance (by rfl) T.z_list (by decide +kernel) (op_name 1))))))) (st_cons (st_if (bt_bw (bw_or (bt_cmp (or_neP c.room.units) ok_ne (op_e (ev_isi (T := "tuple") c (by decide) (by rfl) T.z_isinstance (by rfl) T.z_tuple (by decide +kernel) (op_name 0))) (op_e (ev_isi (T := "tuple") c (by decide) (by rfl) T.z_isinstance (by rfl) T.z_tuple (by decide +kernel) (op_name 1))) (nomark _)) (bw_or (bt_cmp (or_neP c.room.units) ok_ne (op_e (ev_isi (T := "list") c (by decide) (by rfl) T.z_isinstance (by rfl) T.z_list (by decide +kernel) (op_name 0))) (op_e (ev_isi (T := "list") c (by decide) (by rfl) T.z_isinstance (by rfl) T.z_list (by decide +kernel) (op_name 1))) (nomark _)) (bw_or1 (bt_cmp (or_neP c.room.units) ok_ne (op_e (ev_callB c cr_lenZ ok_len (by rfl) T.z_len (by decide +kernel) (th_cons (op_name 0) (th_nil)))) (op_e (ev_callB c cr_lenZ ok_len (by rfl) T.z_len (by decide +kernel) (th_cons (op_name 1) (th_nil)))) (nomark _)))))) (st_one (st_ret (ev_bl))) (st_nil))
      (st_one (st_ret (ev_cmp (or_eqP c.room.units) ok_eq (op_e (ev_lc (own := [("at", 2)]) c (by decide) (it_range1 c (by rfl) T.z_range (th_cons (op_e (ev_callB c cr_lenZ ok_len (by rfl) T.z_len (by decide +kernel) (th_cons (op_name 1) (th_nil)))) (th_nil))) (blkOk_by (by rfl)) (fun s1 H1 C1 l1 p1 => gt_name (i := 2) (c.blk s1 H1 _ p1).nd) (fun s1 H1 C1 l1 p1 => pts_one (bt_not (bt_truth (c.blk s1 H1 _ p1) (op_e (ev_call (c.blk s1 H1 _ p1) (ok_r__law_same T n) (by omega) (by rfl) T.D__law_same.g T.D__law_same.d.kp T.D__law_same.b (ta_cons (ev_ix ix_seq ok_ix (op_name 0) (op_name 2) (fun _ _ => rfl)) (ta_cons (ev_ix ix_seq ok_ix (op_name 1) (op_name 2) (fun _ _ => rfl)) (ta_nil))) (hlen := aCons_len (aCons_len (aNil_len)))))))) (fun s1 H1 C1 l1 p1 => ev_int))) (op_e (ev_lst (ta_nil))) (nomark _))))) (st_nil))
      (st_cons (st_if (bt_cmp or_isZ ok_is (op_name 1) (op_e (ev_non)) (nomark _)) (st_one (st_ret (ev_cmp or_isZ ok_is (op_name 0) (op_e (ev_non)) (nomark _)))) (st_nil))
      (st_cons (st_if (bt_truth c (op_e (ev_isi (T := "bool") c (by decide) (by rfl) T.z_isinstance (by rfl) T.z_bool (by decide +kernel) (op_name 1)))) (st_one (st_ret (ev_if (bt_truth c (op_name 1)) (ev_cmp or_isZ ok_is (op_name 0) (op_e (ev_bl)) (nomark _)) (ev_cmp or_isZ ok_is (op_name 0) (op_e (ev_bl)) (nomark _))))) (st_nil))
      (st_cons (st_if (bt_truth c (op_e (ev_isi (T := "int") c (by decide) (by rfl) T.z_isinstance (by rfl) T.z_int (by decide +kernel) (op_name 1)))) (st_one (st_ret (ev_and c (ev_isi (T := "int") c (by decide) (by rfl) T.z_isinstance (by rfl) T.z_int (by decide +kernel) (op_name 0)) (ev_and c (ev_not c (op_e (ev_isi (T := "bool") c (by decide) (by rfl) T.z_isinstance (by rfl) T.z_bool (by decide +kernel) (op_name 0)))) (ev_one (ev_cmp (or_eqP c.room.units) ok_eq (op_e (ev_callTy c call_int1 ok_int (by rfl) T.z_int (by decide +kernel) (th_cons (op_name 0) (th_nil)))) (op_name 1) (nomark _))))))) (st_nil))
      (st_one (st_ret (ev_and c (ev_isi (T := "str") c (by decide) (by rfl) T.z_isinstance (by rfl) T.z_str (by decide +kernel) (op_name 0)) (ev_one (ev_cmp (or_eqP c.room.units) ok_eq (op_e (ev_callTy c call_str_int ok_str (by rfl) T.z_str (by decide +kernel) (th_cons (op_name 0) (th_nil)))) (op_name 1) (nomark _))))))))))
theorem ok__law_same (T : Tx K mg) : FnOk P w K mg base (L2.CX P w) 40 T.f__law_same T.d__law_same ["told", "due"] (spF K mg 2 m__law_same) := by unfold m__law_same; rw [hide_eq]; exact (ok_r__law_same T 40)
theorem ok__law_twos (T : Tx K mg) : FnOk P w K mg base (L2.CX P w) 1 T.f__law_twos T.d__law_twos ["many"] (spF K mg 1 m__law_twos) :=
  fn_okF' (st := s__law_twos) (N := ["many", "found", "turn"]) (ps := ["many"]) (k := 0) (g := b__law_twos) T.D__law_twos.d sc__law_twos rfl (hide_eq _) fun cdv A outer s H E c =>
      st_cons (st_set (i := 1) c (ev_int))
      (st_cons (st_for c (passes_of rfl) (it_range1 c (by rfl) T.z_range (th_cons (op_name 0) (th_nil))) (gt_name (i := 2) c.nd) (st_one (st_set (i := 1) c (ev_op or_mulZ ok_mul (op_name 1) (op_e (ev_int))))))
      (st_one (st_ret (ev_move 1))))
theorem ok__law_number (T : Tx K mg) : FnOk P w K mg base (L2.CX P w) 2 T.f__law_number T.d__law_number ["word"] (spF K mg 1 m__law_number) :=
  fn_okF' (st := s__law_number) (N := ["word", "found", "at"]) (ps := ["word"]) (k := 1) (g := b__law_number) T.D__law_number.d sc__law_number rfl (hide_eq _) fun cdv A outer s H E c =>
      st_cons (st_set (i := 1) c (ev_int))
      (st_cons (st_for c (passes_of rfl) (it_range3 c (by rfl) T.z_range (th_cons (op_e (ev_op op_sub ok_sub (op_e (ev_callB c cr_lenZ ok_len (by rfl) T.z_len (by decide +kernel) (th_cons (op_name 0) (th_nil)))) (op_e (ev_int)))) (th_cons (op_e (ev_neg (op_e (ev_int)))) (th_cons (op_e (ev_neg (op_e (ev_int)))) (th_nil))))) (gt_name (i := 2) c.nd) (st_one (st_if (bt_cmp (or_eqP c.room.units) ok_eq (op_e (ev_ix ix_seq ok_ix (op_name 0) (op_name 2) (fun _ _ => rfl))) (op_e (ev_int)) (nomark _)) (st_one (st_set (i := 1) c (ev_op op_sub ok_sub (op_e (ev_op op_sub ok_sub (op_e (ev_call c (ok__law_twos T) (by decide) (by rfl) T.D__law_twos.g T.D__law_twos.d.kp T.D__law_twos.b (ta_cons (ev_op op_sub ok_sub (op_e (ev_callB c cr_lenZ ok_len (by rfl) T.z_len (by decide +kernel) (th_cons (op_name 0) (th_nil)))) (op_name 2)) (ta_nil)) (hlen := aCons_len (aNil_len)))) (op_e (ev_int)))) (op_name 1)))) (st_nil))))
      (st_one (st_ret (ev_move 1))))
theorem ok__law_reflected (T : Tx K mg) : FnOk P w K mg base (L2.CX P w) 1 T.f__law_reflected T.d__law_reflected ["signs"] (spF K mg 1 m__law_reflected) :=
  fn_okF' (st := s__law_reflected) (N := ["signs", "found", "turn", "word"]) (ps := ["signs"]) (k := 0) (g := b__law_reflected) T.D__law_reflected.d sc__law_reflected rfl (hide_eq _) fun cdv A outer s H E c =>
      st_cons (st_set (i := 1) c (ev_lst (ta_cons (ev_tup (ta_nil)) (ta_nil))))
      (st_cons (st_for c (passes_of rfl) (it_range1 c (by rfl) T.z_range (th_cons (op_name 0) (th_nil))) (gt_name (i := 2) c.nd) (st_kls [2] (st_one (st_set (i := 1) c (ev_op or_addZ ok_add (op_e (ev_lc (own := [("word", 3)]) c (by decide) (it_seq c (ev_name 1)) (blkOk_by (by rfl)) (fun s1 H1 C1 l1 p1 => gt_name (i := 3) (c.blk s1 H1 _ p1).nd) (fun s1 H1 C1 l1 p1 => pts_none) (fun s1 H1 C1 l1 p1 => ev_op or_addZ ok_add (op_e (ev_tup (ta_cons (ev_int) (ta_nil)))) (op_name 3)))) (op_e (ev_lc (own := [("word", 3)]) c (by decide) (it_seq c (ev_rev c (op_name 1))) (blkOk_by (by rfl)) (fun s1 H1 C1 l1 p1 => gt_name (i := 3) (c.blk s1 H1 _ p1).nd) (fun s1 H1 C1 l1 p1 => pts_none) (fun s1 H1 C1 l1 p1 => ev_op or_addZ ok_add (op_e (ev_tup (ta_cons (ev_int) (ta_nil)))) (op_name 3)))))))))
      (st_one (st_ret (ev_move 1))))
theorem ok__law_choose (T : Tx K mg) : FnOk P w K mg base (L2.CX P w) 1 T.f__law_choose T.d__law_choose ["many", "size"] (spF K mg 2 m__law_choose) :=
  fn_okF' (st := s__law_choose) (N := ["many", "size", "row", "turn", "one", "other"]) (ps := ["many", "size"]) (k := 0) (g := b__law_choose) T.D__law_choose.d sc__law_choose rfl (hide_eq _) fun cdv A outer s H E c =>
      st_cons (st_set (i := 2) c (ev_lst (ta_cons (ev_int) (ta_nil))))
      (st_cons (st_for c (passes_of rfl) (it_range1 c (by rfl) T.z_range (th_cons (op_name 0) (th_nil))) (gt_name (i := 3) c.nd) (st_kls [3] (st_one (st_set (i := 2) c (ev_op or_addZ ok_add (op_e (ev_op or_addZ ok_add (op_e (ev_lst (ta_cons (ev_int) (ta_nil)))) (op_e (ev_lc (own := [("one", 4), ("other", 5)]) c (by decide) (it_zip c (by rfl) T.z_zip (ta_cons (ev_name 2) (ta_cons (ev_slice c (op_name 2) (tn_some (op_e (ev_int))) (tn_none)) (ta_nil)))) (blkOk_by (by rfl)) (fun s1 H1 C1 l1 p1 => gt_tup (m := 2) (c.blk s1 H1 _ p1) (gts_cons (gt_name (i := 4) (c.blk s1 H1 _ p1).nd) (gts_cons (gt_name (i := 5) (c.blk s1 H1 _ p1).nd) (gts_nil)))) (fun s1 H1 C1 l1 p1 => pts_none) (fun s1 H1 C1 l1 p1 => ev_op or_addZ ok_add (op_name 4) (op_name 5)))))) (op_e (ev_lst (ta_cons (ev_int) (ta_nil)))))))))
      (st_one (st_ret (ev_if (bt_cmp or_leZ ok_le (op_name 1) (op_name 0) (nomark _)) (ev_ix ix_seq ok_ix (op_name 2) (op_name 1) (fun _ _ => rfl)) (ev_int)))))
theorem ok__law_pick (T : Tx K mg) : FnOk P w K mg base (L2.CX P w) 2 T.f__law_pick T.d__law_pick ["cup", "many"] (spC K mg 1 m__law_pick) :=
  fn_okC' (st := s__law_pick) (N := ["cup", "many", "way", "one"]) (ps := ["cup", "many"]) (k := 1) (g := b__law_pick) T.D__law_pick.d sc__law_pick (by decide) rfl (hide_eq _) fun cdv A outer s H E c =>
      st_cons (st_set (i := 2) c (ev_callC 0 c (ok__law_roll T) (by decide) (by rfl) T.D__law_roll.g T.D__law_roll.d.kp T.D__law_roll.b rfl (by first | exact Or.inl rfl | exact Or.inr (Or.inl rfl) | exact Or.inr (Or.inr rfl)) (ta_cons (ev_int) (ta_nil)) (aCons_len (aNil_len))))
      (st_one (st_ret (ev_callTy c call_tuple_of ok_tuple (by rfl) T.z_tuple (by decide +kernel) (th_cons (op_e (ev_lc (own := [("one", 3)]) c (by decide) (it_range2 c (by rfl) T.z_range (th_cons (op_e (ev_int)) (th_cons (op_e (ev_op or_addZ ok_add (op_name 1) (op_e (ev_int)))) (th_nil)))) (blkOk_by (by rfl)) (fun s1 H1 C1 l1 p1 => gt_name (i := 3) (c.blk s1 H1 _ p1).nd) (fun s1 H1 C1 l1 p1 => pts_one (bt_bw (bw_or (bt_cmp (or_eqP (c.blk s1 H1 _ p1).room.units) ok_eq (op_name 2) (op_e (ev_int)) (nomark _)) (bw_or1 (bt_bw (bw_and (bt_cmp or_gtZ ok_gt (op_name 2) (op_e (ev_int)) (nomark _)) (bw_and1 (bt_cmp or_gtZ ok_gt (op_e (ev_callC 0 (c.blk s1 H1 _ p1) (ok__law_roll T) (by decide) (by rfl) T.D__law_roll.g T.D__law_roll.d.kp T.D__law_roll.b rfl (by first | exact Or.inl rfl | exact Or.inr (Or.inl rfl) | exact Or.inr (Or.inr rfl)) (ta_cons (ev_name 2) (ta_nil)) (aCons_len (aNil_len)))) (op_e (ev_int)) (nomark _))))))))) (fun s1 H1 C1 l1 p1 => ev_name 3))) (th_nil)))))
theorem ok__law_sized (T : Tx K mg) : FnOk P w K mg base (L2.CX P w) 2 T.f__law_sized T.d__law_sized ["cup", "many", "size"] (spC K mg 2 m__law_sized) :=
  fn_okC' (st := s__law_sized) (N := ["cup", "many", "size", "left"]) (ps := ["cup", "many", "size"]) (k := 1) (g := b__law_sized) T.D__law_sized.d sc__law_sized (by decide) rfl (hide_eq _) fun cdv A outer s H E c =>
      st_cons (st_set (i := 3) c (ev_listRg2 c (by rfl) T.z_list (by rfl) T.z_range (op_e (ev_int)) (op_e (ev_op or_addZ ok_add (op_name 1) (op_e (ev_int))))))
      (st_cons (st_while LIM (passes_of rfl) (bt_cmp or_gtZ ok_gt (op_e (ev_callB c cr_lenZ ok_len (by rfl) T.z_len (by decide +kernel) (th_cons (op_name 3) (th_nil)))) (op_name 2) (nomark _)) (st_one (st_expr (ev_popI 3 (pe_bm PySem.F.plainAttrs_list PySem.F.slot_list_pop PySem.F.type_list_pop mt_popAt (pv 3) (pa_cons (ev_callC 0 c (ok__law_roll T) (by decide) (by rfl) T.D__law_roll.g T.D__law_roll.d.kp T.D__law_roll.b rfl (by first | exact Or.inl rfl | exact Or.inr (Or.inl rfl) | exact Or.inr (Or.inr rfl)) (ta_cons (ev_callB c cr_lenZ ok_len (by rfl) T.z_len (by decide +kernel) (th_cons (op_name 3) (th_nil))) (ta_nil)) (aCons_len (aNil_len))) pa_nil))))))
      (st_one (st_ret (ev_callTy c call_tuple_of ok_tuple (by rfl) T.z_tuple (by decide +kernel) (th_cons (op_name 3) (th_nil))))))
theorem ok__law_rows_right (T : Tx K mg) : FnOk P w K mg base (L2.CX P w) 42 T.f__law_rows_right T.d__law_rows_right [] (spF K mg 0 m__law_rows_right) :=
  fn_okF' (st := s__law_rows_right) (N := []) (ps := []) (k := 41) (g := b__law_rows_right) T.D__law_rows_right.d sc__law_rows_right rfl (hide_eq _) fun cdv A outer s H E c =>
      st_one (st_ret (ev_call c (ok__law_same T) (by decide) (by rfl) T.D__law_same.g T.D__law_same.d.kp T.D__law_same.b (ta_cons (ev_call c (ok_pick_of_word T) (by decide) (by rfl) T.D_pick_of_word.g T.D_pick_of_word.d.kp T.D_pick_of_word.b (ta_cons (ev_tup (ta_cons (ev_int) (ta_cons (ev_int) (ta_nil)))) (ta_nil)) (hlen := aCons_len (aNil_len))) (ta_cons (ev_tup (ta_cons (ev_int) (ta_nil))) (ta_nil))) (hlen := aCons_len (aCons_len (aNil_len)))))
theorem ok_law (T : Tx K mg) : FnOk P w K mg base (L2.CX P w) 43 T.f_law T.d_law ["script"] (spF K mg 1 m_law) :=
  fn_okF' (st := s_law) (N := ["script", "cup", "signs", "counts", "word", "pick", "due", "turn", "many", "one", "other", "numbers", "told", "place", "size", "item"]) (ps := ["script"]) (k := 42) (g := b_law) T.D_law.d sc_law rfl (hide_eq _) fun cdv A outer s H E c =>
      st_cons (st_cup (ps_set (i := 1) c.nd rfl (by first | exact Or.inl rfl | exact Or.inr rfl) (ev_call c (ok__law_cup T) (by decide) (by rfl) T.D__law_cup.g T.D__law_cup.d.kp T.D__law_cup.b (ta_cons (ev_name 0) (ta_nil)) (hlen := aCons_len (aNil_len)))))
      (st_cons (st_if (bt_not (bt_truth c (op_e (ev_call0 c (ok__law_rows_right T) (by decide) (by rfl) T.D__law_rows_right.g T.D__law_rows_right.d.kp T.D__law_rows_right.b)))) (st_one (st_ret (ev_bl))) (st_nil))
      (st_cons (st_set (i := 2) c (ev_op or_addZ ok_add (op_e (ev_int)) (op_e (ev_callC 1 c (ok__law_roll T) (by decide) (by rfl) T.D__law_roll.g T.D__law_roll.d.kp T.D__law_roll.b rfl (by first | exact Or.inl rfl | exact Or.inr (Or.inl rfl) | exact Or.inr (Or.inr rfl)) (ta_cons (ev_int) (ta_nil)) (aCons_len (aNil_len))))))
      (st_cons (st_set (i := 3) c (ev_dnew false))
      (st_cons (st_for c (passes_of rfl) (it_seq c (ev_call c (ok__law_reflected T) (by decide) (by rfl) T.D__law_reflected.g T.D__law_reflected.d.kp T.D__law_reflected.b (ta_cons (ev_name 2) (ta_nil)) (hlen := aCons_len (aNil_len)))) (gt_name (i := 4) c.nd) (st_kls [4, 6] (st_cons (st_set (i := 5) c (ev_callTy c call_tuple_of ok_tuple (by rfl) T.z_tuple (by decide +kernel) (th_cons (op_e (ev_lc (own := [("place", 13)]) c (by decide) (it_range2 c (by rfl) T.z_range (th_cons (op_e (ev_int)) (th_cons (op_e (ev_op or_addZ ok_add (op_name 2) (op_e (ev_int)))) (th_nil)))) (blkOk_by (by rfl)) (fun s1 H1 C1 l1 p1 => gt_name (i := 13) (c.blk s1 H1 _ p1).nd) (fun s1 H1 C1 l1 p1 => pts_one (bt_cmp (or_eqP (c.blk s1 H1 _ p1).room.units) ok_eq (op_e (ev_ix ix_seq ok_ix (op_name 4) (op_e (ev_op op_sub ok_sub (op_name 2) (op_name 13))) (fun _ _ => rfl))) (op_e (ev_int)) (nomark _))) (fun s1 H1 C1 l1 p1 => ev_name 13))) (th_nil))))
      (st_cons (st_set (i := 6) c (ev_dget2 (i := 3) c (op_e (ev_callB c cr_lenZ ok_len (by rfl) T.z_len (by decide +kernel) (th_cons (op_name 5) (th_nil)))) (ev_int)))
      (st_cons (st_if (bt_not (bt_truth c (op_e (ev_call c (ok__law_same T) (by decide) (by rfl) T.D__law_same.g T.D__law_same.d.kp T.D__law_same.b (ta_cons (ev_tup (ta_cons (ev_call c (ok_pick_of_word T) (by decide) (by rfl) T.D_pick_of_word.g T.D_pick_of_word.d.kp T.D_pick_of_word.b (ta_cons (ev_name 4) (ta_nil)) (hlen := aCons_len (aNil_len))) (ta_cons (ev_call c (ok_number_of_pick T) (by decide) (by rfl) T.D_number_of_pick.g T.D_number_of_pick.d.kp T.D_number_of_pick.b (ta_cons (ev_name 2) (ta_cons (ev_name 5) (ta_nil))) (hlen := aCons_len (aCons_len (aNil_len)))) (ta_cons (ev_call c (ok_word_of_pick T) (by decide) (by rfl) T.D_word_of_pick.g T.D_word_of_pick.d.kp T.D_word_of_pick.b (ta_cons (ev_name 2) (ta_cons (ev_name 5) (ta_nil))) (hlen := aCons_len (aCons_len (aNil_len)))) (ta_nil))))) (ta_cons (ev_tup (ta_cons (ev_name 5) (ta_cons (ev_name 6) (ta_cons (ev_name 4) (ta_nil))))) (ta_nil))) (hlen := aCons_len (aCons_len (aNil_len))))))) (st_one (st_ret (ev_bl))) (st_nil))
      (st_one (st_dput (i := 3) c (op_e (ev_callB c cr_lenZ ok_len (by rfl) T.z_len (by decide +kernel) (th_cons (op_name 5) (th_nil)))) (ev_op or_addZ ok_add (op_name 6) (op_e (ev_int))))))))))
      (st_cons (st_if (bt_cmp (or_neP c.room.units) ok_ne (op_e (ev_lc (own := [("size", 14)]) c (by decide) (it_range1 c (by rfl) T.z_range (th_cons (op_e (ev_op or_addZ ok_add (op_name 2) (op_e (ev_int)))) (th_nil))) (blkOk_by (by rfl)) (fun s1 H1 C1 l1 p1 => gt_name (i := 14) (c.blk s1 H1 _ p1).nd) (fun s1 H1 C1 l1 p1 => pts_one (bt_cmp (or_neP (c.blk s1 H1 _ p1).room.units) ok_ne (op_e (ev_dget (i := 3) (c.blk s1 H1 _ p1) (op_name 14))) (op_e (ev_call (c.blk s1 H1 _ p1) (ok__law_choose T) (by decide) (by rfl) T.D__law_choose.g T.D__law_choose.d.kp T.D__law_choose.b (ta_cons (ev_name 2) (ta_cons (ev_name 14) (ta_nil))) (hlen := aCons_len (aCons_len (aNil_len))))) (nomark _))) (fun s1 H1 C1 l1 p1 => ev_name 14))) (op_e (ev_lst (ta_nil))) (nomark _)) (st_one (st_ret (ev_bl))) (st_nil))
      (st_cons (st_for c (passes_of rfl) (it_range1 c (by rfl) T.z_range (th_cons (op_e (ev_int)) (th_nil))) (gt_name (i := 7) c.nd) (st_kls [7, 8, 9, 10, 11, 12] (st_cons (st_set (i := 8) c (ev_op or_addZ ok_add (op_e (ev_int)) (op_e (ev_callC 1 c (ok__law_roll T) (by decide) (by rfl) T.D__law_roll.g T.D__law_roll.d.kp T.D__law_roll.b rfl (by first | exact Or.inl rfl | exact Or.inr (Or.inl rfl) | exact Or.inr (Or.inr rfl)) (ta_cons (ev_int) (ta_nil)) (aCons_len (aNil_len))))))
      (st_cons (st_set (i := 9) c (ev_callC 1 c (ok__law_pick T) (by decide) (by rfl) T.D__law_pick.g T.D__law_pick.d.kp T.D__law_pick.b rfl (by first | exact Or.inl rfl | exact Or.inr (Or.inl rfl) | exact Or.inr (Or.inr rfl)) (ta_cons (ev_name 8) (ta_nil)) (aCons_len (aNil_len))))
      (st_cons (st_set (i := 10) c (ev_callC 1 c (ok__law_sized T) (by decide) (by rfl) T.D__law_sized.g T.D__law_sized.d.kp T.D__law_sized.b rfl (by first | exact Or.inl rfl | exact Or.inr (Or.inl rfl) | exact Or.inr (Or.inr rfl)) (ta_cons (ev_name 8) (ta_cons (ev_callB c cr_lenZ ok_len (by rfl) T.z_len (by decide +kernel) (th_cons (op_name 9) (th_nil))) (ta_nil))) (aCons_len (aCons_len (aNil_len)))))
      (st_cons (st_setLc (own := [("pick", 5)]) (i := 11) c (by decide) rfl rfl (sw_true rfl rfl rfl (by decide +kernel)) (it_seq c (ev_tup (ta_cons (ev_name 9) (ta_cons (ev_name 10) (ta_nil))))) (blkOk_by (by rfl)) (fun s1 H1 C1 l1 p1 => gt_name (i := 5) (c.blk s1 H1 _ p1).nd) (fun s1 H1 C1 l1 p1 => pts_none) (fun s1 H1 C1 l1 p1 => ev_call (c.blk s1 H1 _ p1) (ok__law_number T) (by decide) (by rfl) T.D__law_number.g T.D__law_number.d.kp T.D__law_number.b (ta_cons (ev_callTy (c.blk s1 H1 _ p1) call_tuple_of ok_tuple (by rfl) T.z_tuple (by decide +kernel) (th_cons (op_e (ev_lc (own := [("item", 15)]) (c.blk s1 H1 _ p1) (by decide) (it_range3 (c.blk s1 H1 _ p1) (by rfl) T.z_range (th_cons (op_name 8) (th_cons (op_e (ev_int)) (th_cons (op_e (ev_neg (op_e (ev_int)))) (th_nil))))) (blkOk_by (by rfl)) (fun s2 H2 C2 l2 p2 => gt_name (i := 15) ((c.blk s1 H1 _ p1).blk s2 H2 _ p2).nd) (fun s2 H2 C2 l2 p2 => pts_none) (fun s2 H2 C2 l2 p2 => ev_if (bt_cmp (or_inP ((c.blk s1 H1 _ p1).blk s2 H2 _ p2).room.units) ok_inB (op_name 15) (op_name 5) (by rfl)) (ev_int) (ev_int)))) (th_nil))) (ta_nil)) (hlen := aCons_len (aNil_len))))
      (st_cons (st_if (bt_not (bt_truth c (op_e (ev_call c (ok__law_same T) (by decide) (by rfl) T.D__law_same.g T.D__law_same.d.kp T.D__law_same.b (ta_cons (ev_lc (own := [("pick", 5)]) c (by decide) (it_seq c (ev_tup (ta_cons (ev_name 9) (ta_cons (ev_name 10) (ta_nil))))) (blkOk_by (by rfl)) (fun s1 H1 C1 l1 p1 => gt_name (i := 5) (c.blk s1 H1 _ p1).nd) (fun s1 H1 C1 l1 p1 => pts_none) (fun s1 H1 C1 l1 p1 => ev_call (c.blk s1 H1 _ p1) (ok_number_of T) (by decide) (by rfl) T.D_number_of.g T.D_number_of.d.kp T.D_number_of.b (ta_cons (ev_call (c.blk s1 H1 _ p1) (ok_word_of_pick T) (by decide) (by rfl) T.D_word_of_pick.g T.D_word_of_pick.d.kp T.D_word_of_pick.b (ta_cons (ev_name 8) (ta_cons (ev_name 5) (ta_nil))) (hlen := aCons_len (aCons_len (aNil_len)))) (ta_nil)) (hlen := aCons_len (aNil_len)))) (ta_cons (ev_name 11) (ta_nil))) (hlen := aCons_len (aCons_len (aNil_len))))))) (st_one (st_ret (ev_bl))) (st_nil))
      (st_cons (st_setLc (own := [("pick", 5)]) (i := 12) c (by decide) rfl rfl (sw_true rfl rfl rfl (by decide +kernel)) (it_seq c (ev_tup (ta_cons (ev_name 9) (ta_cons (ev_name 10) (ta_nil))))) (blkOk_by (by rfl)) (fun s1 H1 C1 l1 p1 => gt_name (i := 5) (c.blk s1 H1 _ p1).nd) (fun s1 H1 C1 l1 p1 => pts_none) (fun s1 H1 C1 l1 p1 => ev_call (c.blk s1 H1 _ p1) (ok_number_of_pick T) (by decide) (by rfl) T.D_number_of_pick.g T.D_number_of_pick.d.kp T.D_number_of_pick.b (ta_cons (ev_name 8) (ta_cons (ev_name 5) (ta_nil))) (hlen := aCons_len (aCons_len (aNil_len)))))
      (st_one (st_if (bt_bw (bw_or (bt_cmp (or_neP c.room.units) ok_ne (op_e (ev_cmp (or_ltZ2 c.room.units) ok_ltZ (op_e (ev_ix ix_seq ok_ix (op_name 12) (op_e (ev_int)) (fun _ _ => rfl))) (op_e (ev_ix ix_seq ok_ix (op_name 12) (op_e (ev_int)) (fun _ _ => rfl))) (nomark _))) (op_e (ev_cmp (or_ltZ2 c.room.units) ok_ltZ (op_e (ev_ix ix_seq ok_ix (op_name 11) (op_e (ev_int)) (fun _ _ => rfl))) (op_e (ev_ix ix_seq ok_ix (op_name 11) (op_e (ev_int)) (fun _ _ => rfl))) (nomark _))) (nomark _)) (bw_or1 (bt_cmp (or_neP c.room.units) ok_ne (op_e (ev_cmp (or_eqP c.room.units) ok_eq (op_e (ev_ix ix_seq ok_ix (op_name 12) (op_e (ev_int)) (fun _ _ => rfl))) (op_e (ev_ix ix_seq ok_ix (op_name 12) (op_e (ev_int)) (fun _ _ => rfl))) (nomark _))) (op_e (ev_cmp (or_eqP c.room.units) ok_eq (op_name 9) (op_name 10) (nomark _))) (nomark _))))) (st_one (st_ret (ev_bl))) (st_nil)))))))))))
      (st_one (st_ret (ev_bl)))))))))
end
end P
end
section
namespace P
open PySem PySem.Spec Z
open L2 hiding bi
/-! ### the head: facts by names, the run -/
def dd_fits_whole : He.DefD := ⟨("fits_whole", none), "fits_whole", "fits_whole", defArgs s_fits_whole, defBody s_fits_whole, defScope s_fits_whole, [], []⟩
def dd_is_tuple_of : He.DefD := ⟨("is_tuple_of", none), "is_tuple_of", "is_tuple_of", defArgs s_is_tuple_of, defBody s_is_tuple_of, defScope s_is_tuple_of, [], []⟩
def dd_fits_word : He.DefD := ⟨("fits_word", none), "fits_word", "fits_word", defArgs s_fits_word, defBody s_fits_word, defScope s_fits_word, [], []⟩
def dd_choose : He.DefD := ⟨("choose", none), "choose", "choose", defArgs s_choose, defBody s_choose, defScope s_choose, [], []⟩
def dd_number_in_signs : He.DefD := ⟨("number_in_signs", none), "number_in", "number_in", defArgs s_number_in_signs, defBody s_number_in_signs, defScope s_number_in_signs, [], []⟩
def dd_need_word : He.DefD := ⟨("need_word", none), "need_word", "need_word", defArgs s_need_word, defBody s_need_word, defScope s_need_word, [], []⟩
def dd_number_of : He.DefD := ⟨("number_of", none), "number_of", "number_of", defArgs s_number_of, defBody s_number_of, defScope s_number_of, [], []⟩
def dd_fits_pick : He.DefD := ⟨("fits_pick", none), "fits_pick", "fits_pick", defArgs s_fits_pick, defBody s_fits_pick, defScope s_fits_pick, [], []⟩
def dd_need_many : He.DefD := ⟨("need_many", none), "need_many", "need_many", defArgs s_need_many, defBody s_need_many, defScope s_need_many, [], []⟩
def dd_need_pick : He.DefD := ⟨("need_pick", none), "need_pick", "need_pick", defArgs s_need_pick, defBody s_need_pick, defScope s_need_pick, [], []⟩
def dd_number_in_picks : He.DefD := ⟨("number_in_picks", none), "number_in", "number_in", defArgs s_number_in_picks, defBody s_number_in_picks, defScope s_number_in_picks, [], []⟩
def dd_number_of_pick : He.DefD := ⟨("number_of_pick", none), "number_of_pick", "number_of_pick", defArgs s_number_of_pick, defBody s_number_of_pick, defScope s_number_of_pick, [], []⟩
def dd_word_of_pick : He.DefD := ⟨("word_of_pick", none), "word_of_pick", "word_of_pick", defArgs s_word_of_pick, defBody s_word_of_pick, defScope s_word_of_pick, [], []⟩
def dd_pick_of_word : He.DefD := ⟨("pick_of_word", none), "pick_of_word", "pick_of_word", defArgs s_pick_of_word, defBody s_pick_of_word, defScope s_pick_of_word, [], []⟩
def dd__law_cup : He.DefD := ⟨("_law_cup", none), "_law_cup", "_law_cup", defArgs s__law_cup, defBody s__law_cup, defScope s__law_cup, [], []⟩
def dd__law_roll : He.DefD := ⟨("_law_roll", none), "_law_roll", "_law_roll", defArgs s__law_roll, defBody s__law_roll, defScope s__law_roll, [], []⟩
def dd__law_same : He.DefD := ⟨("_law_same", none), "_law_same", "_law_same", defArgs s__law_same, defBody s__law_same, defScope s__law_same, [], []⟩
def dd__law_twos : He.DefD := ⟨("_law_twos", none), "_law_twos", "_law_twos", defArgs s__law_twos, defBody s__law_twos, defScope s__law_twos, [], []⟩
def dd__law_number : He.DefD := ⟨("_law_number", none), "_law_number", "_law_number", defArgs s__law_number, defBody s__law_number, defScope s__law_number, [], []⟩
def dd__law_reflected : He.DefD := ⟨("_law_reflected", none), "_law_reflected", "_law_reflected", defArgs s__law_reflected, defBody s__law_reflected, defScope s__law_reflected, [], []⟩
def dd__law_choose : He.DefD := ⟨("_law_choose", none), "_law_choose", "_law_choose", defArgs s__law_choose, defBody s__law_choose, defScope s__law_choose, [], []⟩
def dd__law_pick : He.DefD := ⟨("_law_pick", none), "_law_pick", "_law_pick", defArgs s__law_pick, defBody s__law_pick, defScope s__law_pick, [], []⟩
def dd__law_sized : He.DefD := ⟨("_law_sized", none), "_law_sized", "_law_sized", defArgs s__law_sized, defBody s__law_sized, defScope s__law_sized, [], []⟩
def dd__law_rows_right : He.DefD := ⟨("_law_rows_right", none), "_law_rows_right", "_law_rows_right", defArgs s__law_rows_right, defBody s__law_rows_right, defScope s__law_rows_right, [], []⟩
def dd_law : He.DefD := ⟨("law", none), "law", "law", defArgs s_law, defBody s_law, defScope s_law, [], []⟩
def fnD : List He.DefD := ([dd_fits_whole, dd_is_tuple_of, dd_fits_word, dd_choose, dd_number_in_signs, dd_need_word, dd_number_of, dd_fits_pick, dd_need_many, dd_need_pick, dd_number_in_picks, dd_number_of_pick, dd_word_of_pick, dd_pick_of_word, dd__law_cup, dd__law_roll, dd__law_same, dd__law_twos, dd__law_number, dd__law_reflected] : List He.DefD) ++ ([dd__law_choose, dd__law_pick, dd__law_sized, dd__law_rows_right, dd_law] : List He.DefD)
def faD : List He.Fa := ([.glo "fits_whole", .glo "is_tuple_of", .glo "fits_word", .glo "choose", .glo "number_in_signs", .glo "need_word", .glo "number_of", .glo "fits_pick", .glo "need_many", .glo "need_pick", .glo "number_in_picks", .glo "number_of_pick", .glo "word_of_pick", .glo "pick_of_word", .glo "_law_cup", .glo "_law_roll", .glo "_law_same", .glo "_law_twos", .glo "_law_number", .glo "_law_reflected"] : List He.Fa) ++ ([.glo "_law_choose", .glo "_law_pick", .glo "_law_sized", .glo "_law_rows_right", .glo "law", .free "abs", .free "all", .free "bool", .free "enumerate", .free "int", .free "isinstance", .free "len", .free "list", .free "range", .free "str", .free "tuple", .free "zip", .int "SIGNS" 16, .int "SOME" 20] : List He.Fa)
abbrev R : PySem.W.OpenRow := PySem.W.OpenLaw.row PySem.Challenge.rw_oneturn_k23_whole_order_of_words
abbrev hk : PySem.W.Hook := He.hookD 4 faD fnD
def ob (s : PySem.W.SharedT) : He.AlD := He.obsDG 4 faD fnD (HandSHeadRun.getT s)
theorem ob_eq (s : PySem.W.SharedT) : ob s = hk.obs s.abs := He.obsDG_eq (HandSHeadRun.getT_eq s)
def names : List PySem.Str := (["TurnError", "InvalidWord", "InvalidNumber", "InvalidPick", "SIGNS", "fits_whole", "is_tuple_of", "fits_word", "number_in", "number_in_signs", "need_word", "number_of", "SOME", "fits_pick", "need_many", "need_pick", "choose", "number_in_picks", "number_of_pick", "word_of_pick"] : List PySem.Str) ++ (["pick_of_word", "_law_cup", "_law_roll", "_law_some", "_law_same", "_law_twos", "_law_number", "_law_reflected", "_law_word", "_law_choose", "_law_pick", "_law_sized", "_law_rows_right"] : List PySem.Str)
theorem run (w : World) : HandSHeadRun.RunEq R (PySem.W.view R.prog [38]) hk ob 20000 names w := by
  intro os
  kernel_rfl
theorem facts (t : ∀ ns : List Int, ns.length ≤ 63 → m_law [.fz ns] = .ok (.sh (.bool true))) {P : Program} {w : World} {K : PySem.W.Frag} {h : Heap} {mg : Str → Option Value} {f : Addr} (X : K.In h) (G : h.Ns mainGlobals mg) (hfa : mg ("law" : Str) = some (.ref f)) (c : He.SaysD faD fnD K) :
    ∃ fd : FuncData, (∀ (s : Shared) (v : Value), BindsTo s fd ⟨[v], []⟩ [("script", v)]) ∧ ∀ base : Heap, K.In base → base.Ns mainGlobals mg → FnOk P w K mg base CX0 43 f fd ["script"] (spLaw K) := by
  obtain ⟨d_fits_whole, D_fits_whole⟩ := df_mk (st := s_fits_whole) (ps := ["value", "low", "high"]) X G (c.def_ 0 (d := dd_fits_whole) rfl) (c.fact 0 (f := .glo "fits_whole") rfl) (fun _ _ _ _ _ _ us hl => match us, hl with | [_, _, _], _ => rfl)
  obtain ⟨d_is_tuple_of, D_is_tuple_of⟩ := df_mk (st := s_is_tuple_of) (ps := ["value", "least", "most"]) X G (c.def_ 1 (d := dd_is_tuple_of) rfl) (c.fact 1 (f := .glo "is_tuple_of") rfl) (fun _ _ _ _ _ _ us hl => match us, hl with | [_, _, _], _ => rfl)
  obtain ⟨d_fits_word, D_fits_word⟩ := df_mk (st := s_fits_word) (ps := ["value"]) X G (c.def_ 2 (d := dd_fits_word) rfl) (c.fact 2 (f := .glo "fits_word") rfl) (fun _ _ _ _ _ _ us hl => match us, hl with | [_], _ => rfl)
  obtain ⟨d_choose, D_choose⟩ := df_mk (st := s_choose) (ps := ["many", "size"]) X G (c.def_ 3 (d := dd_choose) rfl) (c.fact 3 (f := .glo "choose") rfl) (fun _ _ _ _ _ _ us hl => match us, hl with | [_, _], _ => rfl)
  obtain ⟨d_number_in_signs, D_number_in_signs⟩ := df_mk (st := s_number_in_signs) (ps := ["word"]) X G (c.def_ 4 (d := dd_number_in_signs) rfl) (c.fact 4 (f := .glo "number_in_signs") rfl) (fun _ _ _ _ _ _ us hl => match us, hl with | [_], _ => rfl)
  obtain ⟨d_need_word, D_need_word⟩ := df_mk (st := s_need_word) (ps := ["word"]) X G (c.def_ 5 (d := dd_need_word) rfl) (c.fact 5 (f := .glo "need_word") rfl) (fun _ _ _ _ _ _ us hl => match us, hl with | [_], _ => rfl)
  obtain ⟨d_number_of, D_number_of⟩ := df_mk (st := s_number_of) (ps := ["word"]) X G (c.def_ 6 (d := dd_number_of) rfl) (c.fact 6 (f := .glo "number_of") rfl) (fun _ _ _ _ _ _ us hl => match us, hl with | [_], _ => rfl)
  obtain ⟨d_fits_pick, D_fits_pick⟩ := df_mk (st := s_fits_pick) (ps := ["many", "value"]) X G (c.def_ 7 (d := dd_fits_pick) rfl) (c.fact 7 (f := .glo "fits_pick") rfl) (fun _ _ _ _ _ _ us hl => match us, hl with | [_, _], _ => rfl)
  obtain ⟨d_need_many, D_need_many⟩ := df_mk (st := s_need_many) (ps := ["many"]) X G (c.def_ 8 (d := dd_need_many) rfl) (c.fact 8 (f := .glo "need_many") rfl) (fun _ _ _ _ _ _ us hl => match us, hl with | [_], _ => rfl)
  obtain ⟨d_need_pick, D_need_pick⟩ := df_mk (st := s_need_pick) (ps := ["many", "pick"]) X G (c.def_ 9 (d := dd_need_pick) rfl) (c.fact 9 (f := .glo "need_pick") rfl) (fun _ _ _ _ _ _ us hl => match us, hl with | [_, _], _ => rfl)
  obtain ⟨d_number_in_picks, D_number_in_picks⟩ := df_mk (st := s_number_in_picks) (ps := ["pick"]) X G (c.def_ 10 (d := dd_number_in_picks) rfl) (c.fact 10 (f := .glo "number_in_picks") rfl) (fun _ _ _ _ _ _ us hl => match us, hl with | [_], _ => rfl)
  obtain ⟨d_number_of_pick, D_number_of_pick⟩ := df_mk (st := s_number_of_pick) (ps := ["many", "pick"]) X G (c.def_ 11 (d := dd_number_of_pick) rfl) (c.fact 11 (f := .glo "number_of_pick") rfl) (fun _ _ _ _ _ _ us hl => match us, hl with | [_, _], _ => rfl)
  obtain ⟨d_word_of_pick, D_word_of_pick⟩ := df_mk (st := s_word_of_pick) (ps := ["many", "pick"]) X G (c.def_ 12 (d := dd_word_of_pick) rfl) (c.fact 12 (f := .glo "word_of_pick") rfl) (fun _ _ _ _ _ _ us hl => match us, hl with | [_, _], _ => rfl)
  obtain ⟨d_pick_of_word, D_pick_of_word⟩ := df_mk (st := s_pick_of_word) (ps := ["word"]) X G (c.def_ 13 (d := dd_pick_of_word) rfl) (c.fact 13 (f := .glo "pick_of_word") rfl) (fun _ _ _ _ _ _ us hl => match us, hl with | [_], _ => rfl)
  obtain ⟨d__law_cup, D__law_cup⟩ := df_mk (st := s__law_cup) (ps := ["script"]) X G (c.def_ 14 (d := dd__law_cup) rfl) (c.fact 14 (f := .glo "_law_cup") rfl) (fun _ _ _ _ _ _ us hl => match us, hl with | [_], _ => rfl)
  obtain ⟨d__law_roll, D__law_roll⟩ := df_mk (st := s__law_roll) (ps := ["cup", "many"]) X G (c.def_ 15 (d := dd__law_roll) rfl) (c.fact 15 (f := .glo "_law_roll") rfl) (fun _ _ _ _ _ _ us hl => match us, hl with | [_, _], _ => rfl)
  obtain ⟨d__law_same, D__law_same⟩ := df_mk (st := s__law_same) (ps := ["told", "due"]) X G (c.def_ 16 (d := dd__law_same) rfl) (c.fact 16 (f := .glo "_law_same") rfl) (fun _ _ _ _ _ _ us hl => match us, hl with | [_, _], _ => rfl)
  obtain ⟨d__law_twos, D__law_twos⟩ := df_mk (st := s__law_twos) (ps := ["many"]) X G (c.def_ 17 (d := dd__law_twos) rfl) (c.fact 17 (f := .glo "_law_twos") rfl) (fun _ _ _ _ _ _ us hl => match us, hl with | [_], _ => rfl)
  obtain ⟨d__law_number, D__law_number⟩ := df_mk (st := s__law_number) (ps := ["word"]) X G (c.def_ 18 (d := dd__law_number) rfl) (c.fact 18 (f := .glo "_law_number") rfl) (fun _ _ _ _ _ _ us hl => match us, hl with | [_], _ => rfl)
  obtain ⟨d__law_reflected, D__law_reflected⟩ := df_mk (st := s__law_reflected) (ps := ["signs"]) X G (c.def_ 19 (d := dd__law_reflected) rfl) (c.fact 19 (f := .glo "_law_reflected") rfl) (fun _ _ _ _ _ _ us hl => match us, hl with | [_], _ => rfl)
  obtain ⟨d__law_choose, D__law_choose⟩ := df_mk (st := s__law_choose) (ps := ["many", "size"]) X G (c.def_ 20 (d := dd__law_choose) rfl) (c.fact 20 (f := .glo "_law_choose") rfl) (fun _ _ _ _ _ _ us hl => match us, hl with | [_, _], _ => rfl)
  obtain ⟨d__law_pick, D__law_pick⟩ := df_mk (st := s__law_pick) (ps := ["cup", "many"]) X G (c.def_ 21 (d := dd__law_pick) rfl) (c.fact 21 (f := .glo "_law_pick") rfl) (fun _ _ _ _ _ _ us hl => match us, hl with | [_, _], _ => rfl)
  obtain ⟨d__law_sized, D__law_sized⟩ := df_mk (st := s__law_sized) (ps := ["cup", "many", "size"]) X G (c.def_ 22 (d := dd__law_sized) rfl) (c.fact 22 (f := .glo "_law_sized") rfl) (fun _ _ _ _ _ _ us hl => match us, hl with | [_, _, _], _ => rfl)
  obtain ⟨d__law_rows_right, D__law_rows_right⟩ := df_mk (st := s__law_rows_right) (ps := []) X G (c.def_ 23 (d := dd__law_rows_right) rfl) (c.fact 23 (f := .glo "_law_rows_right") rfl) (fun _ _ _ _ _ _ us hl => match us, hl with | [], _ => rfl)
  obtain ⟨d_law, D_law⟩ := df_mk (st := s_law) (ps := ["script"]) X G (c.def_ 24 (d := dd_law) rfl) (c.fact 24 (f := .glo "law") rfl) (fun _ _ _ _ _ _ us hl => match us, hl with | [_], _ => rfl)
  obtain ⟨t_SIGNS, g_SIGNS⟩ := He.int_ok X G (c.fact 37 (f := .int "SIGNS" 16) rfl)
  obtain ⟨t_SOME, g_SOME⟩ := He.int_ok X G (c.fact 38 (f := .int "SOME" 20) rfl)
  have e := hfa.symm.trans D_law.g
  cases e
  let T : Tx K mg := { f_fits_whole := _, d_fits_whole := _, D_fits_whole := D_fits_whole, f_is_tuple_of := _, d_is_tuple_of := _, D_is_tuple_of := D_is_tuple_of, f_fits_word := _, d_fits_word := _, D_fits_word := D_fits_word, f_choose := _, d_choose := _, D_choose := D_choose, f_number_in_signs := _, d_number_in_signs := _, D_number_in_signs := D_number_in_signs, f_need_word := _, d_need_word := _, D_need_word := D_need_word, f_number_of := _, d_number_of := _, D_number_of := D_number_of, f_fits_pick := _, d_fits_pick := _, D_fits_pick := D_fits_pick, f_need_many := _, d_need_many := _, D_need_many := D_need_many, f_need_pick := _, d_need_pick := _, D_need_pick := D_need_pick, f_number_in_picks := _, d_number_in_picks := _, D_number_in_picks := D_number_in_picks, f_number_of_pick := _, d_number_of_pick := _, D_number_of_pick := D_number_of_pick, f_word_of_pick := _, d_word_of_pick := _, D_word_of_pick := D_word_of_pick, f_pick_of_word := _, d_pick_of_word := _, D_pick_of_word := D_pick_of_word, f__law_cup := _, d__law_cup := _, D__law_cup := D__law_cup, f__law_roll := _, d__law_roll := _, D__law_roll := D__law_roll, f__law_same := _, d__law_same := _, D__law_same := D__law_same, f__law_twos := _, d__law_twos := _, D__law_twos := D__law_twos, f__law_number := _, d__law_number := _, D__law_number := D__law_number, f__law_reflected := _, d__law_reflected := _, D__law_reflected := D__law_reflected, f__law_choose := _, d__law_choose := _, D__law_choose := D__law_choose, f__law_pick := _, d__law_pick := _, D__law_pick := D__law_pick, f__law_sized := _, d__law_sized := _, D__law_sized := D__law_sized, f__law_rows_right := _, d__law_rows_right := _, D__law_rows_right := D__law_rows_right, f_law := _, d_law := _, D_law := D_law, z_abs := He.free_ok X G (c.fact 25 (f := .free "abs") rfl), z_all := He.free_ok X G (c.fact 26 (f := .free "all") rfl), z_bool := He.free_ok X G (c.fact 27 (f := .free "bool") rfl), z_enumerate := He.free_ok X G (c.fact 28 (f := .free "enumerate") rfl), z_int := He.free_ok X G (c.fact 29 (f := .free "int") rfl), z_isinstance := He.free_ok X G (c.fact 30 (f := .free "isinstance") rfl), z_len := He.free_ok X G (c.fact 31 (f := .free "len") rfl), z_list := He.free_ok X G (c.fact 32 (f := .free "list") rfl), z_range := He.free_ok X G (c.fact 33 (f := .free "range") rfl), z_str := He.free_ok X G (c.fact 34 (f := .free "str") rfl), z_tuple := He.free_ok X G (c.fact 35 (f := .free "tuple") rfl), z_zip := He.free_ok X G (c.fact 36 (f := .free "zip") rfl), t_SIGNS := t_SIGNS, g_SIGNS := g_SIGNS, t_SOME := t_SOME, g_SOME := g_SOME }
  have b := D_law.d.bindsA (ps := ["script"]) fun _ _ _ _ _ _ us hl => match us, hl with | [_], _ => rfl
  exact ⟨d_law, fun s v => b s [v] rfl, fun base _ _ => fn_law (ok_law T) t⟩
end P
open PySem PySem.W PySem.Calls PyProof.Rows
set_option maxHeartbeats 0 in
theorem P.all_holds (t : ∀ ns : List Int, ns.length ≤ 63 → P.m_law [.fz ns] = .ok (.sh (.bool true))) : PySem.Challenge.rw_oneturn_k23_whole_order_of_words.Holds := by
  w_on; o_law
  refine HandSHeadRun.head_any (r := OpenLaw.row PySem.Challenge.rw_oneturn_k23_whole_order_of_words) (q := view (OpenLaw.row PySem.Challenge.rw_oneturn_k23_whole_order_of_words).prog [38]) (H := P.hk) (ob := P.ob) (M := 20000) (loose := P.names) (d := HandSHeadRun.topDef (OpenLaw.row PySem.Challenge.rw_oneturn_k23_whole_order_of_words).prog 38) (kwd := []) P.ob_eq
    (by kernel_rfl) (fun s => by kernel_rfl) P.run (by kernel_rfl) (by kernel_rfl) (by kernel_rfl) (by rfl) (by first | assumption | decide +kernel) (by decide +kernel) ⟨rfl, rfl, rfl, rfl, rfl, by decide +kernel⟩ ?hw ?hc
  case hw => w_witness2
  case hc =>
    refine L2.walk_ofE (l := PySem.Challenge.rw_oneturn_k23_whole_order_of_words) (n := 63) (k := 43) (x := "script") (CX := L2.CX0) rfl (by decide) (by kernel_rfl) ⟨rfl, by decide, by decide⟩ ?F (fun _ _ _ _ z => z)
    intro w mg fa h Y G hmg0
    obtain ⟨K, KX, c⟩ := Y
    have hmg : mg ("law" : PySem.Str) = some (.ref fa) := by
      have e : (HandSHeadRun.topDef (OpenLaw.row PySem.Challenge.rw_oneturn_k23_whole_order_of_words).prog 38).name = ("law" : PySem.Str) := by kernel_rfl
      rw [← e]
      exact hmg0
    obtain ⟨fd, hb, hF⟩ := P.facts t (P := (PySem.Challenge.rw_oneturn_k23_whole_order_of_words).prog) (w := w) KX G hmg c
    exact ⟨K, fd, Z.spLaw K, KX, hb, fun H a ns hl _ hS => ⟨a, ns, rfl, hS, hl, fun _ => rfl⟩, hF⟩
end
theorem PySem.Challenge.cw_oneturn_k23_whole_order_of_words_holds : PySem.Challenge.rw_oneturn_k23_whole_order_of_words.Holds := by
  exact P.all_holds P.law_holds
