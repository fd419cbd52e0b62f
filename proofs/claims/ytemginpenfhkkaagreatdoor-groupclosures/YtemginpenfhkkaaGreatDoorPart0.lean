/-
  Part 0: symbolic states for walks, contracts of functions, plain laws; no condition.
-/
import Derived.WalkKit
import Derived.OwnWalk
import Derived.Orders
import Derived.OrdersIn
import Derived.ControlIn
import Derived.RangeFuncLeaves
import Derived.RangeFuncRecord
import Derived.IntWalk
import Derived.KernelRfl
import Derived.Shelf.Abstract
import Derived.Test.YtemginpenfhkkaaGreatDoorProg
import Derived.Maps.AppendAt
import Derived.Laws.BytesArg
/-
 Symbolic states for walks: known slots, memory that is only read, blocks of one's own. A region is run operation by operation, whatever order it draws.
-/
namespace Go.Tal
open Go.RowKit
/-! short names -/
theorem MH {α : Type} {a : α} (l : List α) : a ∈ a :: l := List.Mem.head l
theorem MT {α : Type} {a b : α} {l : List α} (h : a ∈ l) : a ∈ b :: l := List.Mem.tail b h
theorem NS {α : Type} (l : List α) : [].Sublist l := List.nil_sublist l
theorem SR {α : Type} (l : List α) : l.Sublist l := List.Sublist.refl l
theorem SCC {α : Type} {a : α} {l m : List α} (h : l.Sublist m) : (a :: l).Sublist (a :: m) := h.cons_cons a
theorem SC {α : Type} {a : α} {l m : List α} (h : l.Sublist m) : l.Sublist (a :: m) := h.cons a

/-- Memory that is only read. -/
abbrev H := Nat → Option Obj
/-- What may be written: a block, or a slice's row (nil, or its block from the head on). -/
inductive Own where
 | obj (b : Nat) (o : Obj)
 | row (v : Value) (e : TypeId) (sz n : Nat) (xs : List Value)
def Own.blk : Own → Option Nat
 | .obj b _ => some b
 | .row v _ _ _ _ => v.ownBlock
def Own.In (w : World) : Own → Prop
 | .obj b o => w.heap[b]? = some o
 | .row v e sz n xs => w.ownsRow 0 e sz v n xs
structure Sat (h : H) (L : List Own) (w : World) : Prop where
 imm : ∀ b o, h b = some o → w.heap[b]? = some o
 own : ∀ x ∈ L, x.In w
 off : ∀ x ∈ L, ∀ b, x.blk = some b → h b = none
 nd : L.Pairwise fun x y => ∀ b, x.blk = some b → y.blk ≠ some b
/-- What a call keeps: all but the blocks of I. -/
structure Kp (w0 : World) (I : List Nat) (w : World) : Prop where
 os : w.os = w0.os
 tape : w.tape = w0.tape
 output : w.output = w0.output
 size : w0.heap.size ≤ w.heap.size
 drawn : w0.drawn ≤ w.drawn
 block : ∀ b, b < w0.heap.size → b ∉ I → w.heap[b]? = w0.heap[b]?
structure Ctx where
 P : Program
 w0 : World
 h0 : H
 I : List Nat
 n : Nat
 G : Option Nat → List Own → Prop
structure Mem (C : Ctx) (h : H) (L : List Own) (w : World) : Prop where
 sat : Sat h L w
 new : ∀ x ∈ L, ∀ b, x.blk = some b → C.w0.heap.size ≤ b ∨ b ∈ C.I
 old : ∀ b, b < C.w0.heap.size → h b = C.h0 b
 kp : Kp C.w0 C.I w
structure S where
 F : List (Nat × Value)
 h : H
 L : List Own
structure Frm (C : Ctx) (F : List (Nat × Value)) (a : Act) : Prop where
 size : a.tmps.size = C.n
 slots : ∀ t v, F.lookup t = some v → a.tmps[t]? = some v
/-- What a range over a function leaves to be done at a call's end. -/
def mark (D : Nat) : Deferred := { target := .collected D, args := #[] }
def shut (D : Nat) : Own := .obj D (.deferred (some []))
/-- A state, marks aside, and what is held beside it. -/
def St (C : Ctx) (M : List Own) (s : S) (a : Act) (w : World) : Prop := ∃ Ds : List Nat, (Frm C s.F a ∧ a.defers = Ds.map mark) ∧ Mem C s.h (s.L ++ (Ds.map shut ++ M)) w
/-- Within a round of a range over a function its record is held. -/
def RoOk (ro : Option Nat) (M : List Own) : Prop := ∀ l, ro = some l → ∃ r, Own.obj l (.loop r) ∈ M

theorem Mem.drew {C : Ctx} {h : H} {L : List Own} {w : World} (m : Mem C h L w) : Mem C h L { w with drawn := w.drawn + 1 } :=
 ⟨⟨m.sat.imm, fun x hx => by have := m.sat.own x hx; cases x <;> exact this, m.sat.off, m.sat.nd⟩, m.new, m.old, ⟨m.kp.os, m.kp.tape, m.kp.output, m.kp.size, Nat.le_succ_of_le m.kp.drawn, m.kp.block⟩⟩

theorem sub_len {α : Type} : ∀ {xs ys : List α}, xs.Nodup → (∀ x ∈ xs, x ∈ ys) → xs.length ≤ ys.length
 | [], _, _, _ => Nat.zero_le _
 | x :: xs, ys, hn, hs => by
  obtain ⟨s, t, rfl⟩ := List.append_of_mem (hs x List.mem_cons_self)
  have hn' := List.nodup_cons.1 hn
  have h := sub_len (xs := xs) (ys := s ++ t) hn'.2 (fun y hy => by
   have h1 := hs y (List.mem_cons_of_mem _ hy)
   simp only [List.mem_append, List.mem_cons] at h1 ⊢
   rcases h1 with h1 | rfl | h1
   ·exact .inl h1
   ·exact absurd hy hn'.1
   ·exact .inr h1)
  simp only [List.length_append, List.length_cons] at h ⊢
  omega
theorem dup_of {l : List Nat} (h : ¬ l.Nodup) : ∃ x p q r, l = p ++ x :: (q ++ x :: r) := by
 induction l with
 | nil => exact absurd List.nodup_nil h
 | cons y l ih =>
  by_cases hy : y ∈ l
  ·obtain ⟨q, r, rfl⟩ := List.append_of_mem hy
   exact ⟨y, [], q, r, rfl⟩
  ·obtain ⟨x, p, q, r, rfl⟩ := ih (fun hn => h (List.nodup_cons.2 ⟨hy, hn⟩))
   exact ⟨x, y :: p, q, r, rfl⟩

/-! ### slots -/
def putF (d : Option Nat) (v : Value) (F : List (Nat × Value)) : List (Nat × Value) :=
 match d with
 | some t => (t, v) :: F
 | none => F
def evF (F : List (Nat × Value)) : Operand → Option Value
 | .tmp t => F.lookup t
 | .const v => some v
 | .global g => some (.pointer (some ⟨g, 0, none⟩))
 | .func f => some (.func (.func f) #[] #[])
/-- Slots alike. -/
def EqF (F G : List (Nat × Value)) : Prop := ∀ t, F.lookup t = G.lookup t
theorem EqF.refl (F : List (Nat × Value)) : EqF F F := fun _ => rfl
theorem lookup_cons' (t u : Nat) (v : Value) (F : List (Nat × Value)) : ((u, v) :: F).lookup t = if t = u then some v else F.lookup t := by
 rw [List.lookup_cons]
 by_cases h : t = u
 ·simp [h]
 ·rw [if_neg h, show (t == u) = false from by simpa using h]
theorem EqF.put {F G : List (Nat × Value)} (h : EqF F G) (d : Option Nat) (v : Value) : EqF (putF d v F) (putF d v G) := by
 cases d with
 | none => exact h
 | some d => intro t; simp only [putF, lookup_cons']; rw [h t]
theorem EqF.swap (F : List (Nat × Value)) {x y : Option Nat} (v u : Value) (h : ∀ d, x = some d → y ≠ some d) : EqF (putF x v (putF y u F)) (putF y u (putF x v F)) := by
 cases x with
 | none => exact EqF.refl _
 | some x =>
  cases y with
  | none => exact EqF.refl _
  | some y =>
   intro t
   have hxy : x ≠ y := fun e => h x rfl (by rw [e])
   simp only [putF, lookup_cons']
   by_cases h1 : t = x
   ·subst h1; rw [if_pos rfl, if_neg hxy, if_pos rfl]
   ·rw [if_neg h1, if_neg h1]
theorem Frm.congr {C : Ctx} {F G : List (Nat × Value)} {a : Act} (h : EqF F G) (f : Frm C F a) : Frm C G a := ⟨f.size, fun t v hv => f.slots t v (by rw [h t]; exact hv)⟩
theorem Frm.put {C : Ctx} {F : List (Nat × Value)} {a : Act} (f : Frm C F a) (d : Option Nat) (v : Value) (hd : ∀ t, d = some t → t < C.n) : Frm C (putF d v F) (a.put d v) := by
 cases d with
 | none => exact f
 | some d =>
  have hlt : d < a.tmps.size := by rw [f.size]; exact hd d rfl
  refine ⟨by simp [Act.put, f.size], fun t u hu => ?_⟩
  simp only [putF, lookup_cons'] at hu
  simp only [Act.put]
  by_cases h : t = d
  ·subst h
   rw [if_pos rfl] at hu
   rw [Array.getElem?_setIfInBounds_self_of_lt hlt]
   exact hu
  ·rw [if_neg h] at hu
   rw [Array.getElem?_setIfInBounds_ne (Ne.symm h)]
   exact f.slots t u hu
/-- The operands that are known are so. -/
def Agree (F : List (Nat × Value)) (o : Oper) (a : Act) : Prop := ∀ x ∈ o.op.operands.toList, ∀ u, evF F x = some u → a.eval x = u
theorem Frm.eval {C : Ctx} {F : List (Nat × Value)} {a : Act} (f : Frm C F a) (x : Operand) (u : Value) (h : evF F x = some u) : a.eval x = u := by
 cases x with
 | tmp t => simp only [evF] at h; simp [Act.eval, f.slots t u h]
 | const v => simpa [evF, Act.eval] using h
 | global g => simpa [evF, Act.eval] using h
 | func g => simpa [evF, Act.eval] using h
theorem Frm.agree {C : Ctx} {F : List (Nat × Value)} {a : Act} (f : Frm C F a) (o : Oper) : Agree F o a := fun x _ u h => f.eval x u h

/-! ### one operation -/
/-- 0: slots alone; 1: memory is read; 2: memory is made, a call; 3: memory is written. -/
def cls (o : Oper) : Nat :=
 match o.op with
 | .move _ | .assign _ | .pick _ _ _ | .binOp _ _ _ _ _ | .unOp _ _ _ | .fieldAddr _ _ _ | .indexAddr _ _ _ | .extract _ _ | .build _ _ | .makeFunc _ _ _ | .nilCheck _ | .slice _ _ _ _ _ | .field _ _ _ | .index _ _ _ => 0
 | .load _ _ | .lookup _ _ _ _ | .entry _ | .convert _ _ _ => 1
 | .alloc _ | .box _ _ | .buildSlice _ _ _ | .makeMap _ _ | .makeSlice _ _ _ | .range _ _ => 2
 | .call c => match c.callee with
  | .builtin .len => 1
  | .builtin .min => 0
  | .builtin .max => 0
  | .builtin _ => 3
  | _ => 2
 | _ => 3
/-- Its value, out of slots and memory. -/
def SoftOk (P : Program) (o : Oper) (F : List (Nat × Value)) (h : H) (L : List Own) (v : Value) : Prop :=
 ∀ a w, Agree F o a → (cls o = 0 ∨ Sat h L w) → (execOp a.eval o).run P w = .ok (.value v) w
/-- What may come of it: a value, memory that is read from now on, blocks of one's own. -/
def HardW (C : Ctx) (o : Oper) (F : List (Nat × Value)) (h : H) (L : List Own) (Out : Value → H → List Own → Prop) : Prop :=
 ∀ a w, Agree F o a → a.tmps.size = C.n → True → Mem C h L w →
  o.wp C.P a w (fun a' w' => ∃ v h' L', Out v h' L' ∧ a' = a.put o.dst v ∧ Mem C h' L' w') (fun _ _ _ => False)
theorem HardW.imp {C : Ctx} {o : Oper} {F : List (Nat × Value)} {h : H} {L : List Own} {Out Out' : Value → H → List Own → Prop} (hi : ∀ v h' L', Out v h' L' → Out' v h' L') (hs : HardW C o F h L Out) : HardW C o F h L Out' :=
 fun a w h1 h2 h3 h4 => Oper.wp_mono (fun _ _ ⟨v, h', L', ho, hr⟩ => ⟨v, h', L', hi v h' L' ho, hr⟩) (hs a w h1 h2 h3 h4)
/-- .. whatever else is held. -/
def lift (M : List Own) (Out : Value → H → List Own → Prop) : Value → H → List Own → Prop := fun v h' L2 => ∃ L', Out v h' L' ∧ L2 = L' ++ M
def HardOk (C : Ctx) (o : Oper) (F : List (Nat × Value)) (h : H) (L : List Own) (Out : Value → H → List Own → Prop) : Prop :=
 ∀ M : List Own, HardW C o F h (L ++ M) (lift M Out)
def guardF (ops : Array Oper) (o : Oper) (F : List (Nat × Value)) : Option Bool :=
 match o.guard with
 | none => some true
 | some (g, want) => match ((ops[g]?).bind (·.dst)).bind (fun t => F.lookup t) with
  | some (.bool c) => some (c == want)
  | _ => none
def Grow (h h' : H) (L L' : List Own) : Prop := (∀ b o, h b = some o → h' b = some o) ∧ L.Sublist L'
def dstOk (C : Ctx) (o : Oper) : Prop := ∀ t, o.dst = some t → t < C.n
def Node (dr : Bool) (C : Ctx) (ops : Array Oper) (o : Oper) (X : S → Prop) (s : S) : Prop :=
 dstOk C o ∧ match guardF ops o s.F with
 | none => False
 | some false => X ⟨putF o.dst undef s.F, s.h, s.L⟩
 | some true =>
  if cls o ≤ 1 then ∃ v, SoftOk C.P o s.F s.h s.L v ∧ X ⟨putF o.dst v s.F, s.h, s.L⟩
  else ∃ Out, HardOk C o s.F s.h s.L Out ∧ ∀ v h' L', Out v h' L' → (dr = true → cls o = 2 → Grow s.h h' s.L L') ∧ X ⟨putF o.dst v s.F, h', L'⟩
def Run (dr : Bool) (C : Ctx) (ops : Array Oper) (K : S → Prop) : List Nat → S → Prop
 | [], s => ∃ F, EqF F s.F ∧ K ⟨F, s.h, s.L⟩
 | i :: r, s => ∃ o, ops[i]? = some o ∧ Node dr C ops o (Run dr C ops K r) s

theorem Sat.less {h h' : H} {L L' : List Own} {w : World} (g : Grow h h' L L') (s : Sat h' L' w) : Sat h L w where
 imm b o hb := s.imm b o (g.1 b o hb)
 own x hx := s.own x (g.2.subset hx)
 off x hx b hb := by
  have h1 := s.off x (g.2.subset hx) b hb
  cases h2 : h b with
  | none => rfl
  | some o => rw [g.1 b o h2] at h1; cases h1
 nd := s.nd.sublist g.2
theorem SoftOk.congr {P : Program} {o : Oper} {F G : List (Nat × Value)} {h h' : H} {L L' : List Own} {v : Value} (hs : SoftOk P o F h L v) (he : ∀ x ∈ o.op.operands.toList, evF F x = evF G x)
 (hm : cls o = 0 ∨ Grow h h' L L') : SoftOk P o G h' L' v := by
 intro a w ha hw
 refine hs a w (fun x hx u hu => ha x hx u (by rw [← he x hx]; exact hu)) ?_
 rcases hm with hm | hm
 ·exact .inl hm
 ·rcases hw with hw | hw
  ·exact .inl hw
  ·exact .inr (hw.less hm)
theorem HardOk.congr {C : Ctx} {o : Oper} {F G : List (Nat × Value)} {h : H} {L : List Own} {Out : Value → H → List Own → Prop} (hs : HardOk C o F h L Out) (he : ∀ x ∈ o.op.operands.toList, evF F x = evF G x) : HardOk C o G h L Out :=
 fun M a w ha => hs M a w (fun x hx u hu => ha x hx u (by rw [← he x hx]; exact hu))
theorem evF_congr {F G : List (Nat × Value)} (h : EqF F G) (x : Operand) : evF F x = evF G x := by
 cases x <;> simp only [evF]
 exact h _
theorem guardF_congr {ops : Array Oper} {o : Oper} {F G : List (Nat × Value)} (h : EqF F G) : guardF ops o F = guardF ops o G := by
 unfold guardF
 cases o.guard with
 | none => rfl
 | some g =>
  obtain ⟨g, want⟩ := g
  have e : (fun t => F.lookup t) = (fun t => G.lookup t) := funext h
  simp only [e]
theorem Node.congr {dr : Bool} {C : Ctx} {ops : Array Oper} {o : Oper} {X : S → Prop} (hX : ∀ F G h L, EqF F G → X ⟨F, h, L⟩ → X ⟨G, h, L⟩) {F G : List (Nat × Value)} {h : H} {L : List Own} (he : EqF F G)
 (hn : Node dr C ops o X ⟨F, h, L⟩) : Node dr C ops o X ⟨G, h, L⟩ := by
 obtain ⟨hd, hn⟩ := hn
 refine ⟨hd, ?_⟩
 dsimp only at hn ⊢
 rw [← guardF_congr he]
 cases hg : guardF ops o F with
 | none => rw [hg] at hn; exact hn
 | some b =>
  rw [hg] at hn
  cases b with
  | false => exact hX _ _ _ _ (he.put _ _) hn
  | true =>
   simp only at hn ⊢
   split
   ·rename_i hc
    rw [if_pos hc] at hn
    obtain ⟨v, h1, h2⟩ := hn
    exact ⟨v, h1.congr (fun x _ => evF_congr he x) (.inr ⟨fun _ _ hb => hb, List.Sublist.refl _⟩), hX _ _ _ _ (he.put _ _) h2⟩
   ·rename_i hc
    rw [if_neg hc] at hn
    obtain ⟨Out, h1, h2⟩ := hn
    refine ⟨Out, h1.congr (fun x _ => evF_congr he x), fun v h' L' ho => ?_⟩
    obtain ⟨h3, h4⟩ := h2 v h' L' ho
    exact ⟨h3, hX _ _ _ _ (he.put _ _) h4⟩
theorem Run.congr {dr : Bool} {C : Ctx} {ops : Array Oper} {K : S → Prop} : ∀ (l : List Nat) {F G : List (Nat × Value)} {h : H} {L : List Own}, EqF F G → Run dr C ops K l ⟨F, h, L⟩ → Run dr C ops K l ⟨G, h, L⟩
 | [], F, G, h, L, he, hr => by
  obtain ⟨F0, h0, hk⟩ := hr
  exact ⟨F0, fun t => (h0 t).trans (he t), hk⟩
 | i :: r, F, G, h, L, he, hr => by
  obtain ⟨o, ho, hn⟩ := hr
  exact ⟨o, ho, hn.congr (fun F G h L he hr => Run.congr r he hr) he⟩

/-! ### a soft operation moves back -/
theorem put_looks {ops : Array Oper} {x y : Oper} (h : x.apart ops y = true) (v : Value) (F : List (Nat × Value)) :
 (∀ z ∈ y.op.operands.toList, evF (putF x.dst v F) z = evF F z) ∧ guardF ops y (putF x.dst v F) = guardF ops y F := by
 obtain ⟨h1, _, _⟩ := Oper.apart_spec h
 cases hx : x.dst with
 | none => exact ⟨fun _ _ => rfl, rfl⟩
 | some d =>
  have hd := h1 d hx
  simp only [Oper.looksAt, List.mem_append, not_or] at hd
  refine ⟨fun z hz => ?_, ?_⟩
  ·cases z with
   | tmp t =>
    have hne : t ≠ d := by
     rintro rfl
     exact hd.1 (List.mem_filterMap.2 ⟨.tmp t, hz, rfl⟩)
    simp only [evF, putF, lookup_cons', if_neg hne]
   | _ => rfl
  ·unfold guardF
   cases hg : y.guard with
   | none => rfl
   | some g =>
    obtain ⟨g, want⟩ := g
    have h2 := hd.2
    rw [hg] at h2
    simp only at h2 ⊢
    cases ht : (ops[g]?).bind (·.dst) with
    | none => rfl
    | some t =>
     rw [ht] at h2
     have hne : t ≠ d := by rintro rfl; simp at h2
     simp only [Option.bind_some, putF, lookup_cons', if_neg hne]
theorem apart_symm {ops : Array Oper} {x y : Oper} (h : x.apart ops y = true) : y.apart ops x = true := by
 obtain ⟨h1, h2, h3⟩ := Oper.apart_spec h
 unfold Oper.apart
 rw [Bool.and_eq_true]
 constructor
 ·cases hy : y.dst with
  | none => rfl
  | some d =>
   simp only [Bool.and_eq_true, Bool.not_eq_true', bne_iff_ne, ne_eq]
   refine ⟨by simpa using h3 d hy, fun e => ?_⟩
   exact h2 d e hy
 ·cases hx : x.dst with
  | none => rfl
  | some d => simpa using h1 d hx
/-- x, a soft one, may come behind y. -/
def okPair (ops : Array Oper) (x y : Oper) : Bool := decide (cls x ≤ 1) && x.apart ops y && (decide (cls y ≤ 2) || decide (cls x = 0))
theorem Node.swap {C : Ctx} {ops : Array Oper} {x y : Oper} {X : S → Prop} (hX : ∀ F G h L, EqF F G → X ⟨F, h, L⟩ → X ⟨G, h, L⟩) (hp : okPair ops x y = true) {s : S}
 (hn : Node true C ops x (Node true C ops y X) s) : Node true C ops y (Node true C ops x X) s := by
 simp only [okPair, Bool.and_eq_true, Bool.or_eq_true, decide_eq_true_eq] at hp
 obtain ⟨⟨hx, hap⟩, hy⟩ := hp
 have hap' := apart_symm hap
 obtain ⟨_, hdd, _⟩ := Oper.apart_spec hap
 -- x's value, at s and behind y
 obtain ⟨hdx, hn⟩ := hn
 have key : ∃ v, (∀ (u : Value) (h' : H) (L' : List Own), (cls x = 0 ∨ Grow s.h h' s.L L') → ∀ Y : S → Prop, Y ⟨putF x.dst v (putF y.dst u s.F), h', L'⟩ → Node true C ops x Y ⟨putF y.dst u s.F, h', L'⟩) ∧
  Node true C ops y X ⟨putF x.dst v s.F, s.h, s.L⟩ := by
  cases hg : guardF ops x s.F with
  | none => rw [hg] at hn; exact hn.elim
  | some b =>
   rw [hg] at hn
   cases b with
   | false =>
    refine ⟨undef, fun u h' L' _ Y hY => ⟨hdx, ?_⟩, hn⟩
    dsimp only
    rw [(put_looks hap' u s.F).2, hg]
    exact hY
   | true =>
    simp only [if_pos hx] at hn
    obtain ⟨v, h1, h2⟩ := hn
    refine ⟨v, fun u h' L' hgr Y hY => ⟨hdx, ?_⟩, h2⟩
    dsimp only
    rw [(put_looks hap' u s.F).2, hg]
    simp only [if_pos hx]
    exact ⟨v, h1.congr (fun z hz => ((put_looks hap' u s.F).1 z hz).symm) hgr, hY⟩
 obtain ⟨v, hkey, hdy, hny⟩ := key
 refine ⟨hdy, ?_⟩
 have hgl := (put_looks hap v s.F).2
 simp only at hny
 rw [hgl] at hny
 have gr : Grow s.h s.h s.L s.L := ⟨fun _ _ h => h, List.Sublist.refl _⟩
 have fin : ∀ (u : Value) (h' : H) (L' : List Own), (cls x = 0 ∨ Grow s.h h' s.L L') → X ⟨putF y.dst u (putF x.dst v s.F), h', L'⟩ → Node true C ops x X ⟨putF y.dst u s.F, h', L'⟩ := fun u h' L' hgr hX' =>
  hkey u h' L' hgr X (hX _ _ _ _ (EqF.swap _ _ _ (fun d hd e => hdd d e hd)) hX')
 cases hg : guardF ops y s.F with
 | none => rw [hg] at hny; exact hny.elim
 | some b =>
  rw [hg] at hny
  cases b with
  | false => exact fin _ _ _ (.inr gr) hny
  | true =>
   simp only at hny ⊢
   split
   ·rename_i hc
    rw [if_pos hc] at hny
    obtain ⟨u, h1, h2⟩ := hny
    exact ⟨u, h1.congr (fun z hz => (put_looks hap v s.F).1 z hz) (.inr gr), fin _ _ _ (.inr gr) h2⟩
   ·rename_i hc
    rw [if_neg hc] at hny
    obtain ⟨Out, h1, h2⟩ := hny
    refine ⟨Out, h1.congr (fun z hz => (put_looks hap v s.F).1 z hz), fun u h' L' ho => ?_⟩
    obtain ⟨h3, h4⟩ := h2 u h' L' ho
    refine ⟨h3, fin u h' L' ?_ h4⟩
    rcases hy with hy | hy
    ·exact .inr (h3 trivial (by omega))
    ·exact .inl hy
theorem Run.swap {C : Ctx} {ops : Array Oper} {K : S → Prop} {i j : Nat} {r : List Nat} {x y : Oper} (hx : ops[i]? = some x) (hy : ops[j]? = some y) (hp : okPair ops x y = true) {s : S} (h : Run true C ops K (i :: j :: r) s) : Run true C ops K (j :: i :: r) s := by
 obtain ⟨x', hx', h⟩ := h
 rw [hx] at hx'
 cases hx'
 refine ⟨y, hy, ?_⟩
 have h1 : Node true C ops x (Node true C ops y (Run true C ops K r)) s := by
  obtain ⟨hd, h⟩ := h
  refine ⟨hd, ?_⟩
  have conv : ∀ s, Run true C ops K (j :: r) s → Node true C ops y (Run true C ops K r) s := fun s ⟨y', hy', hn⟩ => by
   rw [hy] at hy'; cases hy'; exact hn
  split
  ·rename_i e; rw [e] at h; exact h
  ·rename_i e; rw [e] at h; exact conv _ h
  ·rename_i e
   rw [e] at h
   simp only at h
   split
   ·rename_i hc; rw [if_pos hc] at h; obtain ⟨v, a, b⟩ := h; exact ⟨v, a, conv _ b⟩
   ·rename_i hc; rw [if_neg hc] at h; obtain ⟨Out, a, b⟩ := h; exact ⟨Out, a, fun v h' L' ho => ⟨fun _ => (b v h' L' ho).1 trivial, conv _ (b v h' L' ho).2⟩⟩
 have h2 := h1.swap (fun F G h L he hr => Run.congr r he hr) hp
 obtain ⟨hd, h2⟩ := h2
 refine ⟨hd, ?_⟩
 have conv : ∀ s, Node true C ops x (Run true C ops K r) s → Run true C ops K (i :: r) s := fun s hn => ⟨x, hx, hn⟩
 split
 ·rename_i e; rw [e] at h2; exact h2
 ·rename_i e; rw [e] at h2; exact conv _ h2
 ·rename_i e
  rw [e] at h2
  simp only at h2
  split
  ·rename_i hc; rw [if_pos hc] at h2; obtain ⟨v, a, b⟩ := h2; exact ⟨v, a, conv _ b⟩
  ·rename_i hc; rw [if_neg hc] at h2; obtain ⟨Out, a, b⟩ := h2; exact ⟨Out, a, fun v h' L' ho => ⟨fun _ => (b v h' L' ho).1 trivial, conv _ (b v h' L' ho).2⟩⟩

/-- Operation i, whose turn may be now, comes to the front. -/
theorem Run.front {C : Ctx} {ops : Array Oper} {K : S → Prop} {i : Nat} {o : Oper} (ho : ops[i]? = some o) : ∀ (p q : List Nat) {s : S}, (∀ j ∈ p, ∃ x, ops[j]? = some x ∧ okPair ops x o = true) → Run true C ops K (p ++ i :: q) s → Run true C ops K (i :: (p ++ q)) s
 | [], q, s, _, h => h
 | j :: p, q, s, hp, h => by
  obtain ⟨x, hx, hj⟩ := hp j List.mem_cons_self
  have mono : ∀ s, Run true C ops K (p ++ i :: q) s → Run true C ops K (i :: (p ++ q)) s := fun s => Run.front ho p q (fun k hk => hp k (List.mem_cons_of_mem _ hk))
  refine Run.swap hx ho hj ?_
  obtain ⟨x', hx', h⟩ := h
  refine ⟨x', hx', ?_⟩
  obtain ⟨hd, h⟩ := h
  refine ⟨hd, ?_⟩
  split
  ·rename_i e; rw [e] at h; exact h
  ·rename_i e; rw [e] at h; exact mono _ h
  ·rename_i e
   rw [e] at h
   simp only at h
   split
   ·rename_i hc; rw [if_pos hc] at h; obtain ⟨v, a, b⟩ := h; exact ⟨v, a, mono _ b⟩
   ·rename_i hc; rw [if_neg hc] at h; obtain ⟨Out, a, b⟩ := h; exact ⟨Out, a, fun v h' L' ho => ⟨fun _ => (b v h' L' ho).1 trivial, mono _ (b v h' L' ho).2⟩⟩

/-! ### one step of the machine -/
theorem guard_wanted {C : Ctx} {ops : Array Oper} {o : Oper} {F : List (Nat × Value)} {a : Act} (f : Frm C F a) {b : Bool} (h : guardF ops o F = some b) : Region.wanted o (yielded ops a.tmps) = b := by
 unfold guardF at h
 unfold Region.wanted
 cases hg : o.guard with
 | none => rw [hg] at h; simp at h; simp [h]
 | some g =>
  obtain ⟨g, want⟩ := g
  rw [hg] at h
  simp only at h ⊢
  unfold yielded
  cases ht : (ops[g]?).bind (·.dst) with
  | none => rw [ht] at h; simp at h
  | some t =>
   rw [ht] at h
   simp only [Option.bind_some] at h ⊢
   cases hv : F.lookup t with
   | none => rw [hv] at h; simp at h
   | some v =>
    rw [hv] at h
    rw [f.slots t v hv]
    cases v with
    | bool c =>
     simp only [Option.some.injEq] at h
     subst h
     cases c <;> cases want <;> rfl
    | _ => simp at h
/-! ### everywhere: in a function's own frame, in a round of a range over a function -/
def wr : Option Nat → Fence
 | none => Fence.wide
 | some l => Fence.wide.inRound l
theorem wr_round : ∀ ro, (wr ro).round = ro
 | none => rfl
 | some _ => rfl
theorem wr_fn (ro : Option Nat) (f : FuncId) : (wr ro).fn f := by cases ro <;> exact trivial
theorem wr_room (ro : Option Nat) (n : Nat) : (wr ro).room n := by cases ro <;> exact room_wide n
theorem wr_depth (ro : Option Nat) : (wr ro).depth = none := by cases ro <;> rfl
theorem wr_fenced (P : Program) : ∀ ro, Machine.fenced P (wr ro) = Machine.fenced P Fence.wide
 | none => rfl
 | some _ => rfl
theorem wr_calls {ro : Option Nat} {n : Nat} {P : Program} {f : FuncId} {args : Array Value} {w : World} {R : Ending → World → Prop} (h : Calls P f args w R) : CallsIn (wr ro) n P f args w R := by
 have h' := (callsIn_wide (n := n)).2 h
 refine ⟨wr_fn ro f, fun cs _ => ?_⟩
 obtain ⟨e, w', fr, r, s, x⟩ := h'.2 cs (room_wide _)
 exact ⟨e, w', fr, r, by rw [wr_fenced]; exact s, x⟩
theorem wr_rows {ro : Option Nat} {n : Nat} {P : Program} {row : String} {args : Array Value} {w : World} {R : Value → World → Prop} (h : Rows P row args w R) : RowsIn (wr ro) n P row args w R := fun c cs _ => by
 obtain ⟨v, w', r, s⟩ := h c cs
 exact ⟨v, w', r, by rw [wr_fenced]; exact stepsIn_wide.2 s⟩
theorem Oper.toIn {o : Oper} {ro : Option Nat} {n : Nat} {P : Program} {a : Act} {w : World} {K : Act → World → Prop} {Q : Exit → Act → World → Prop} (hd : ∀ c, o.op ≠ .defer c) (h : o.wp P a w K Q) : o.wpIn (wr ro) n P a w K Q := by
 refine ⟨fun f _ => wr_fn ro f, ?_⟩
 rw [wr_round, Oper.semAt_eq ro a.eval o hd]
 unfold Oper.wp at h
 generalize (execOp a.eval o).run P w = r at *
 have hdp : (wr ro).depth.isSome = true → 1 ≤ n := fun hh => by rw [wr_depth] at hh; cases hh
 cases r with
 | ok x w' =>
  cases x <;> simp only [Oper.upon] at h <;> first
   | exact h
   | exact h.elim
   | exact ⟨hdp, wr_calls h⟩
   | exact ⟨hdp, wr_rows h⟩
 | halt x w' => cases x <;> simp only [Oper.upon] at h <;> first
  | exact h
  | exact h.elim
def notDefer (o : Oper) : Prop := ∀ c, o.op ≠ .defer c
theorem put_defers (a : Act) (d : Option Nat) (v : Value) : (a.put d v).defers = a.defers := by cases d <;> rfl
/-- What is done by HardOk is no defer. -/
theorem HardW.notDefer {C : Ctx} {o : Oper} {F : List (Nat × Value)} {h : H} {L : List Own} {Out : Value → H → List Own → Prop} (hs : HardW C o F h L Out) {a : Act} {w : World} (h1 : Agree F o a) (h2 : a.tmps.size = C.n) (h4 : Mem C h L w) : Tal.notDefer o := fun c hc => by
 have hw := hs a w h1 h2 trivial h4
 unfold Oper.wp at hw
 simp only [execOp, hc] at hw
 rw [Sem.run_bind] at hw
 generalize (resolve a.eval c o.type).run C.P w = r at hw
 cases r with
 | ok d w' =>
  simp only [Result.andThen_ok, Sem.run_pure, Oper.upon] at hw
  obtain ⟨v, h', L', _, e, _⟩ := hw
  have := congrArg (fun a => a.defers.length) e
  simp [put_defers] at this
 | halt x w' => cases x <;> simp only [Result.andThen, Oper.upon] at hw
theorem Node.step {dr : Bool} {C : Ctx} {M : List Own} {ops : Array Oper} {i : Nat} {o : Oper} (ho : ops[i]? = some o) {X : S → Prop} {s : S} (hn : Node dr C ops o X s) {a : Act} {w : World} (hs : St C M s a w) {Q : Exit → Act → World → Prop} {ro : Option Nat} {n : Nat} :
 wpOpIn (wr ro) n C.P ops Q i (fun a' w' => ∃ s', St C M s' a' w' ∧ X s') a w := by
 obtain ⟨hd, hn⟩ := hn
 obtain ⟨Ds, ⟨hf, hdf⟩, hm⟩ := hs
 unfold wpOpIn
 rw [ho]
 simp only
 cases hg : guardF ops o s.F with
 | none => rw [hg] at hn; exact hn.elim
 | some b =>
  rw [hg] at hn
  rw [guard_wanted hf hg]
  cases b with
  | false =>
   simp only at hn
   rw [if_neg (by simp)]
   exact ⟨fun f _ => wr_fn ro f, (⟨putF o.dst undef s.F, s.h, s.L⟩ : S), ⟨Ds, ⟨hf.put _ _ hd, by rw [put_defers]; exact hdf⟩, hm⟩, hn⟩
  | true =>
   rw [if_pos rfl]
   simp only at hn
   by_cases hc : cls o ≤ 1
   ·rw [if_pos hc] at hn
    obtain ⟨v, h1, h2⟩ := hn
    refine Oper.toIn (fun c e => by simp [cls, e] at hc) ?_
    unfold Oper.wp
    rw [h1 a w (hf.agree o) (.inr (hm.sat.less ⟨fun _ _ hb => hb, List.sublist_append_left _ _⟩))]
    exact ⟨(⟨putF o.dst v s.F, s.h, s.L⟩ : S), ⟨Ds, ⟨hf.put _ _ hd, by rw [put_defers]; exact hdf⟩, hm⟩, h2⟩
   ·rw [if_neg hc] at hn
    obtain ⟨Out, h1, h2⟩ := hn
    have hw := h1 (Ds.map shut ++ M) a w (hf.agree o) hf.size trivial hm
    have h3 : o.wp C.P a w (fun a' w' => ∃ s', St C M s' a' w' ∧ X s') (fun _ _ _ => False) := Oper.wp_mono (fun a' w' ⟨v, h', L2, ⟨L', hv, hL⟩, ha, hm'⟩ => by
     subst ha hL
     exact ⟨_, ⟨Ds, ⟨hf.put _ _ hd, by rw [put_defers]; exact hdf⟩, hm'⟩, (h2 v h' L' hv).2⟩) hw
    refine Oper.toIn ((h1 (Ds.map shut ++ M)).notDefer (hf.agree o) hf.size hm) ?_
    -- no way out but the one
    unfold Oper.wp at h3 ⊢
    generalize (execOp a.eval o).run C.P w = r at *
    cases r with
    | ok n w' =>
     cases n <;> simp only [Oper.upon] at h3 ⊢ <;> first | exact h3 | exact h3.elim | skip
     exact Calls.mono h3 (fun e w'' he => by cases e <;> first | exact he | exact he.elim | (obtain ⟨_, _, h⟩ := he; exact h.elim))
    | halt x w' => cases x <;> simp only [Oper.upon] at h3 ⊢ <;> exact h3.elim
theorem St.eqF {C : Ctx} {M : List Own} {s : S} {F : List (Nat × Value)} {a : Act} {w : World} (he : EqF F s.F) (hs : St C M s a w) : St C M ⟨F, s.h, s.L⟩ a w := by
 obtain ⟨Ds, ⟨hf, hdf⟩, hm⟩ := hs
 exact ⟨Ds, ⟨hf.congr (fun t => (he t).symm), hdf⟩, hm⟩
theorem St.ev {C : Ctx} {M : List Own} {s : S} {a : Act} {w : World} (hs : St C M s a w) (x : Operand) (u : Value) (h : evF s.F x = some u) : a.eval x = u := by
 obtain ⟨Ds, ⟨hf, _⟩, _⟩ := hs
 exact hf.eval x u h
theorem St.map {C : Ctx} {M : List Own} {s t : S} {a : Act} {w w' : World} (hF : ∀ u v, t.F.lookup u = some v → s.F.lookup u = some v) (hM : ∀ N, Mem C s.h (s.L ++ N) w → Mem C t.h (t.L ++ N) w') (hs : St C M s a w) : St C M t a w' := by
 obtain ⟨Ds, ⟨hf, hdf⟩, hm⟩ := hs
 exact ⟨Ds, ⟨⟨hf.size, fun u v hv => hf.slots u v (hF u v hv)⟩, hdf⟩, hM _ hm⟩
theorem St.drew {C : Ctx} {M : List Own} {s : S} {a : Act} {w : World} (hs : St C M s a w) : St C M s a { w with drawn := w.drawn + 1 } := by
 obtain ⟨Ds, hf, hm⟩ := hs
 exact ⟨Ds, hf, hm.drew⟩

/-! ### a region that draws its order -/
def edges (o : Oper) : List Nat := (o.after.toList.filter (Region.binds .any)).map (·.on)
/-- All that an operation waits for, as bits. -/
def bitsOf (ops : Array Oper) : List Nat := ops.toList.foldl (fun acc o => acc ++ [(edges o).foldl (fun s e => s ||| 2 ^ e ||| acc.getD e 0) 0]) []
def bitsOk (ops : Array Oper) (B : List Nat) : Bool :=
 (List.range ops.size).all fun i => match ops[i]? with
  | none => false
  | some o => (edges o).all (fun e => decide (e < i)) && (List.range ops.size).all fun j => !(B.getD i 0).testBit j || (edges o).any fun e => e == j || (B.getD e 0).testBit j
def before (ops : Array Oper) (B : List Nat) (j i : Nat) : Bool :=
 match ops[j]?, ops[i]? with
 | some x, some y => (okPair ops x y || (B.getD i 0).testBit j) && !(edges x).contains i
 | _, _ => false
def ordOk (ops : Array Oper) (B : List Nat) : List Nat → Bool
 | [] => true
 | j :: r => r.all (fun i => before ops B j i) && ordOk ops B r
def drawOk (ops : Array Oper) (ord : List Nat) : Bool :=
 bitsOk ops (bitsOf ops) && ordOk ops (bitsOf ops) ord && decide (ord.length = ops.size) && (List.range ops.size).all fun i => ord.contains i
theorem ordOk_pair {ops : Array Oper} {B : List Nat} : ∀ {l : List Nat}, ordOk ops B l = true → l.Pairwise fun j i => before ops B j i = true
 | [], _ => List.Pairwise.nil
 | j :: r, h => by
  simp only [ordOk, Bool.and_eq_true, List.all_eq_true] at h
  exact List.pairwise_cons.2 ⟨h.1, ordOk_pair h.2⟩
/-- On the way: l is what is left, in the text's chosen order. -/
structure Left (ops : Array Oper) (B : List Nat) (l : List Nat) (listed : Array Bool) : Prop where
 size : listed.size = ops.size
 mem : ∀ i, i < ops.size → (listed.getD i true = false ↔ i ∈ l)
 lt : ∀ i ∈ l, i < ops.size
 nd : l.Nodup
 pair : l.Pairwise fun j i => before ops B j i = true
 closed : ∀ k o, ops[k]? = some o → k ∉ l → ∀ e ∈ edges o, e ∉ l
theorem Left.no_bit {ops : Array Oper} {B : List Nat} (hB : bitsOk ops B = true) {l : List Nat} {listed : Array Bool} (L : Left ops B l listed) : ∀ (n i : Nat), i ≤ n → ∀ o, ops[i]? = some o → (∀ e ∈ edges o, e ∉ l) → ∀ j, j < ops.size → (B.getD i 0).testBit j = true → j ∉ l := by
 intro n
 induction n with
 | zero =>
  intro i hi o ho he j hj hb
  have hil : i < ops.size := (Array.getElem?_eq_some_iff.1 ho).1
  have h1 := List.all_eq_true.1 hB i (List.mem_range.2 hil)
  rw [ho] at h1
  simp only [Bool.and_eq_true, List.all_eq_true] at h1
  have h2 := h1.2 j (List.mem_range.2 hj)
  rw [hb] at h2
  simp only [Bool.not_true, Bool.false_or, List.any_eq_true] at h2
  obtain ⟨e, hee, _⟩ := h2
  have := h1.1 e hee
  simp at this
  omega
 | succ n ih =>
  intro i hi o ho he j hj hb
  have hil : i < ops.size := (Array.getElem?_eq_some_iff.1 ho).1
  have h1 := List.all_eq_true.1 hB i (List.mem_range.2 hil)
  rw [ho] at h1
  simp only [Bool.and_eq_true, List.all_eq_true] at h1
  have h2 := h1.2 j (List.mem_range.2 hj)
  rw [hb] at h2
  simp only [Bool.not_true, Bool.false_or, List.any_eq_true] at h2
  obtain ⟨e, hee, h3⟩ := h2
  have h4 := h1.1 e hee
  simp only [decide_eq_true_eq] at h4
  simp only [Bool.or_eq_true, beq_iff_eq] at h3
  rcases h3 with rfl | h3
  ·exact he _ hee
  ·have hel : e < ops.size := by omega
   exact ih e (by omega) _ (Array.getElem?_eq_getElem hel) (L.closed e _ (Array.getElem?_eq_getElem hel) (he e hee)) j hj h3
theorem mem_ready {ops : Array Oper} {listed : Array Bool} {i : Nat} (h : i ∈ Region.ready .any ops listed) : ∃ o, ops[i]? = some o ∧ listed.getD i true = false ∧ ∀ e ∈ edges o, listed.getD e false = true := by
 unfold Region.ready at h
 obtain ⟨h1, h2⟩ := List.mem_filter.1 h
 simp only [Bool.and_eq_true, Bool.not_eq_true'] at h2
 obtain ⟨h2, h3⟩ := h2
 have hi := List.mem_range.1 h1
 refine ⟨ops[i], Array.getElem?_eq_getElem hi, h2, fun e he => ?_⟩
 rw [Array.getElem?_eq_getElem hi] at h3
 simp only [Option.map_some, Option.getD_some] at h3
 rw [Array.all_eq_true'] at h3
 obtain ⟨x, hx, rfl⟩ := List.mem_map.1 he
 obtain ⟨hx1, hx2⟩ := List.mem_filter.1 hx
 have := h3 x (by simpa using hx1)
 rw [hx2] at this
 simpa using this
theorem ready_mem {ops : Array Oper} {listed : Array Bool} {i : Nat} {o : Oper} (ho : ops[i]? = some o) (h1 : listed.getD i true = false) (h2 : ∀ e ∈ edges o, listed.getD e false = true) : i ∈ Region.ready .any ops listed := by
 have hi : i < ops.size := (Array.getElem?_eq_some_iff.1 ho).1
 unfold Region.ready
 refine List.mem_filter.2 ⟨List.mem_range.2 hi, ?_⟩
 rw [h1, ho]
 simp only [Bool.not_false, Option.map_some, Option.getD_some, Bool.true_and]
 rw [Array.all_eq_true']
 intro x hx
 cases hb : Region.binds .any x with
 | false => rfl
 | true => simpa using h2 x.on (List.mem_map.2 ⟨x, List.mem_filter.2 ⟨by simpa using hx, hb⟩, rfl⟩)
theorem getD_other {listed : Array Bool} {i : Nat} (d d' : Bool) (h : i < listed.size) : listed.getD i d = listed.getD i d' := by
 simp [Array.getD, h]
theorem Run.any {C : Ctx} {M : List Own} {ro : Option Nat} {m : Nat} {ops : Array Oper} {K : S → Prop} {Q : Exit → Act → World → Prop} (hK : ∀ s a w, St C M s a w → K s → Q .normal a w) {B : List Nat} (hB : bitsOk ops B = true) : ∀ (n : Nat) (l : List Nat) (listed : Array Bool) {s : S} {a : Act} {w : World}, l.length = n → Left ops B l listed → Run true C ops K l s → St C M s a w → wpAnyIn (wr ro) m C.P .any ops Q n listed a w := by
 intro n
 induction n with
 | zero =>
  intro l listed s a w hl L hr hs
  obtain rfl : l = [] := List.eq_nil_of_length_eq_zero hl
  obtain ⟨F, he, hk⟩ := hr
  refine ⟨List.eq_nil_iff_forall_not_mem.2 fun i hi => ?_, hK (⟨F, s.h, s.L⟩ : S) a w (hs.eqF he) hk⟩
  obtain ⟨o, ho, h1, _⟩ := mem_ready hi
  have := (L.mem i (Array.getElem?_eq_some_iff.1 ho).1).1 h1
  cases this
 | succ n ih =>
  intro l listed s a w hl L hr hs
  refine ⟨fun hnil => ?_, fun i hi => ?_⟩
  ·exfalso
   cases l with
   | nil => simp at hl
   | cons j r =>
    have hj := L.lt j List.mem_cons_self
    have : j ∈ Region.ready .any ops listed := by
     refine ready_mem (Array.getElem?_eq_getElem hj) ((L.mem j hj).2 List.mem_cons_self) fun e he => ?_
     have hlt : e < ops.size := by
      have h1 := List.all_eq_true.1 hB j (List.mem_range.2 hj)
      rw [Array.getElem?_eq_getElem hj] at h1
      simp only [Bool.and_eq_true, List.all_eq_true] at h1
      have := h1.1 e he
      simp at this
      omega
     have hne : e ∉ j :: r := by
      intro hm
      rcases List.mem_cons.1 hm with rfl | hm
      ·have h1 := List.all_eq_true.1 hB e (List.mem_range.2 hj)
       rw [Array.getElem?_eq_getElem hj] at h1
       simp only [Bool.and_eq_true, List.all_eq_true] at h1
       have := h1.1 e he
       simp at this
      ·have h2 := (List.pairwise_cons.1 L.pair).1 e hm
       unfold before at h2
       rw [Array.getElem?_eq_getElem hj, Array.getElem?_eq_getElem hlt] at h2
       simp only [Bool.and_eq_true, Bool.not_eq_true'] at h2
       have h3 := h2.2
       simp at h3
       exact h3 he
     have h4 : listed.getD e true ≠ false := fun h5 => hne ((L.mem e hlt).1 h5)
     rw [getD_other false true (by rw [L.size]; exact hlt)]
     simpa using h4
    rw [hnil] at this
    cases this
  ·obtain ⟨o, ho, h1, h2⟩ := mem_ready hi
   have hil : i < ops.size := (Array.getElem?_eq_some_iff.1 ho).1
   have him : i ∈ l := (L.mem i hil).1 h1
   obtain ⟨p, q, rfl⟩ := List.append_of_mem him
   have hedge : ∀ e ∈ edges o, e ∉ p ++ i :: q := fun e he hm => by
    have hlt := L.lt e hm
    have h3 := (L.mem e hlt).2 hm
    rw [getD_other true false (by rw [L.size]; exact hlt), h2 e he] at h3
    cases h3
   have hp : ∀ j ∈ p, ∃ x, ops[j]? = some x ∧ okPair ops x o = true := fun j hj => by
    have hjl := L.lt j (List.mem_append_left _ hj)
    have h3 := (List.pairwise_append.1 L.pair).2.2 j hj i List.mem_cons_self
    unfold before at h3
    rw [Array.getElem?_eq_getElem hjl, ho] at h3
    simp only [Bool.and_eq_true, Bool.or_eq_true] at h3
    refine ⟨_, Array.getElem?_eq_getElem hjl, ?_⟩
    rcases h3.1 with h4 | h4
    ·exact h4
    ·exact absurd (List.mem_append_left _ hj) (L.no_bit hB i i (Nat.le_refl _) o ho hedge j hjl h4)
   obtain ⟨o', ho', hn⟩ := Run.front ho p q hp hr
   rw [ho] at ho'
   cases ho'
   have hsub : (p ++ q).Sublist (p ++ i :: q) := (List.Sublist.refl p).append (List.sublist_cons_self i q)
   have hnd := L.nd
   rw [List.nodup_append] at hnd
   have hnot : i ∉ p ++ q := fun hm => by
    rcases List.mem_append.1 hm with hm | hm
    ·exact hnd.2.2 i hm i List.mem_cons_self rfl
    ·exact (List.nodup_cons.1 hnd.2.1).1 hm
   refine wpOpIn_mono (fun a' w' ⟨s', hs', hr'⟩ => ih (p ++ q) _ (by simp at hl ⊢; omega) ?_ hr' hs') (hn.step ho hs)
   refine ⟨by simp [L.size], fun k hk => ?_, fun k hk => L.lt k (hsub.subset hk), L.nd.sublist hsub, L.pair.sublist hsub, fun k x hx hk e he hm => ?_⟩
   ·by_cases hki : k = i
    ·subst hki
     have : (listed.setIfInBounds k true).getD k true = true := by simp [Array.getD, L.size, hk]
     rw [this]
     exact ⟨fun h => (by cases h), fun h => absurd h hnot⟩
    ·have : (listed.setIfInBounds i true).getD k true = listed.getD k true := by
      simp [Array.getD, L.size, hk, Ne.symm hki]
     rw [this, L.mem k hk]
     simp [hki]
   ·by_cases hki : k = i
    ·subst hki
     rw [ho] at hx
     cases hx
     exact hedge e he (hsub.subset hm)
    ·exact L.closed k x hx (fun h => hk (by simp [hki] at h ⊢; exact h)) e he (hsub.subset hm)
theorem wp_draw {C : Ctx} {M : List Own} {ro : Option Nat} {m : Nat} {id : Nat} {ops : Array Oper} {K : S → Prop} {Q : Exit → Act → World → Prop} (hm : C.P.follows .mixedOrders = true) (ord : List Nat) (hc : drawOk ops ord = true) (hK : ∀ s a w, St C M s a w → K s → Q .normal a w)
 {s : S} (hr : Run true C ops K ord s) {a : Act} {w : World} (hs : St C M s a w) : (Code.region id ops true).wpIn (wr ro) m C.P Q a w := by
 simp only [drawOk, Bool.and_eq_true, decide_eq_true_eq, List.all_eq_true] at hc
 obtain ⟨⟨⟨hB, ho⟩, hl⟩, hall⟩ := hc
 have hall' : ∀ i, i < ops.size → i ∈ ord := fun i hi => by simpa using hall i (List.mem_range.2 hi)
 have hnd : (List.range ops.size).Nodup := List.nodup_range
 -- the order lists each number once
 have hmem : ∀ i ∈ ord, i < ops.size := by
  intro i hi
  refine Classical.byContradiction fun hn => ?_
  obtain ⟨p, q, rfl⟩ := List.append_of_mem hi
  have := sub_len hnd (ys := p ++ q) (fun x hx => by
   have h1 := hall' x (List.mem_range.1 hx)
   simp only [List.mem_append, List.mem_cons] at h1 ⊢
   rcases h1 with h1 | rfl | h1
   ·exact .inl h1
   ·exact absurd (List.mem_range.1 hx) hn
   ·exact .inr h1)
  simp at this hl
  omega
 have hndo : ord.Nodup := by
  refine Classical.byContradiction fun hn => ?_
  obtain ⟨x, p, q, r, rfl⟩ := dup_of hn
  have := sub_len hnd (ys := p ++ q ++ x :: r) (fun y hy => by
   have h1 := hall' y (List.mem_range.1 hy)
   simp only [List.mem_append, List.mem_cons] at h1 ⊢
   rcases h1 with h1 | rfl | h1 | rfl | h1 <;> simp [*])
  simp at this hl
  omega
 refine wpIn_region_any hm ?_
 refine Run.any hK hB _ ord _ hl ⟨by simp, fun i hi => ?_, hmem, hndo, ordOk_pair ho, fun k x hx hk => ?_⟩ hr hs.drew
 ·simp [Array.getD, hi, hall' i hi]
 ·exact absurd (hall' k (Array.getElem?_eq_some_iff.1 hx).1) hk

/-! ### a region in the order of the text -/
theorem Run.ops {C : Ctx} {M : List Own} {ro : Option Nat} {m : Nat} {ops : Array Oper} {K : S → Prop} {Q : Exit → Act → World → Prop} (hK : ∀ s a w, St C M s a w → K s → Q .normal a w) : ∀ (l : List Nat) {s : S} {a : Act} {w : World}, Run false C ops K l s → St C M s a w → wpOpsIn (wr ro) m C.P ops Q l a w
 | [], s, a, w, h, hs => by
  obtain ⟨F, he, hk⟩ := h
  exact hK (⟨F, s.h, s.L⟩ : S) a w (hs.eqF he) hk
 | i :: r, s, a, w, h, hs => by
  obtain ⟨o, ho, hn⟩ := h
  rw [wpOpsIn_cons]
  exact wpOpIn_mono (fun a' w' ⟨s', hs', hr⟩ => Run.ops hK r hr hs') (hn.step ho hs)

end Go.Tal

/-
 Symbolic states: the rules of the structured code, entry and return, the operations.
-/
namespace Go.Tal
open Go.RowKit

/-! ### code -/
def WP (C : Ctx) (c : Code) (Q : Exit → S → Prop) (s : S) : Prop :=
 ∀ (ro : Option Nat) (m : Nat) (M : List Own), C.G ro M → ∀ (a : Act) (w : World), St C M s a w → c.wpIn (wr ro) m C.P (fun e a' w' => ∃ s', St C M s' a' w' ∧ Q e s') a w
def thenS (K : S → Prop) (Q : Exit → S → Prop) : Exit → S → Prop
 | .normal, s => K s
 | e, s => Q e s
def blockS (id : Nat) (Q : Exit → S → Prop) : Exit → S → Prop
 | .exit id', s => bif Nat.beq id' id then Q .normal s else Q (.exit id') s
 | e, s => Q e s
section
variable {C : Ctx} {Q : Exit → S → Prop} {s : S}
theorem WP.mono {c : Code} {Q' : Exit → S → Prop} (h : WP C c Q s) (hq : ∀ e s, Q e s → Q' e s) : WP C c Q' s :=
 fun ro m M hG a w hs => Go.wpIn_mono (h ro m M hG a w hs) fun e _ _ ⟨s', h1, h2⟩ => ⟨s', h1, hq e s' h2⟩
theorem wp_seq' {x y : Code} (h : WP C x (thenS (WP C y Q) Q) s) : WP C (.seq x y) Q s := by
 intro ro m M hG a w hs
 refine Go.wpIn_seq (Go.wpIn_mono (h ro m M hG a w hs) fun e a' w' ⟨s', h1, h2⟩ => ?_)
 cases e with
 | normal => exact h2 ro m M hG a' w' h1
 | _ => exact ⟨s', h1, h2⟩
theorem wp_skip' (h : Q .normal s) : WP C .skip Q s := fun _ _ _ _ _ _ hs => Go.wpIn_skip ⟨s, hs, h⟩
theorem wp_exit' {id : Nat} (h : Q (.exit id) s) : WP C (.exit id) Q s := fun _ _ _ _ _ _ hs => Go.wpIn_exit ⟨s, hs, h⟩
theorem wp_ret' (h : Q .ret s) : WP C .ret Q s := fun _ _ _ _ _ _ hs => Go.wpIn_ret ⟨s, hs, h⟩
theorem wp_block' {id : Nat} {c : Code} (h : WP C c (blockS id Q) s) : WP C (.block id c) Q s := by
 intro ro m M hG a w hs
 refine Go.wpIn_block (Go.wpIn_mono (h ro m M hG a w hs) fun e a' w' ⟨s', h1, h2⟩ => ?_)
 cases e with
 | exit id' =>
  simp only [blockS] at h2
  simp only [Exit.inBlock]
  split
  ·rename_i e; rw [show Nat.beq id' id = true from by rw [e]; exact Nat.beq_refl id] at h2; exact ⟨s', h1, h2⟩
  ·rename_i e; rw [show Nat.beq id' id = false from by cases h : Nat.beq id' id with | false => rfl | true => exact absurd (Nat.eq_of_beq_eq_true h) e] at h2; exact ⟨s', h1, h2⟩
 | _ => exact ⟨s', h1, h2⟩
theorem wp_cond' {c : Operand} {x y : Code} {b : Bool} (hc : evF s.F c = some (.bool b)) (ht : b = true → WP C x Q s) (hf : b = false → WP C y Q s) : WP C (.cond c x y) Q s :=
 fun ro m M hG a w hs => wpIn_cond_split (hs.ev c _ hc) (fun h => ht h ro m M hG a w hs) (fun h => hf h ro m M hG a w hs)
theorem wp_if' {c : Operand} {x y : Code} {p : Prop} [Decidable p] (hc : evF s.F c = some (.bool (decide p))) (ht : p → WP C x Q s) (hf : ¬ p → WP C y Q s) : WP C (.cond c x y) Q s :=
 wp_cond' hc (fun h => ht (by simpa using h)) (fun h => hf (by simpa using h))
theorem wp_text {id : Nat} {ops : Array Oper} {l : List Nat} (hl : List.range ops.size = l) (h : Run false C ops (Q .normal) l s) : WP C (.region id ops false) Q s := by
 subst hl
 exact fun _ _ _ _ _ _ hs => Go.wpIn_region (Run.ops (fun s _ _ h1 h2 => ⟨s, h1, h2⟩) _ h hs)
theorem wp_any {id : Nat} {ops : Array Oper} (ord : List Nat) (hm : C.P.follows .mixedOrders = true) (hc : drawOk ops ord = true) (h : Run true C ops (Q .normal) ord s) : WP C (.region id ops true) Q s :=
 fun _ _ _ _ _ _ hs => wp_draw hm ord hc (fun s _ _ h1 h2 => ⟨s, h1, h2⟩) h hs
theorem run_end {dr : Bool} {ops : Array Oper} {K : S → Prop} (h : K s) : Run dr C ops K [] s := ⟨s.F, EqF.refl _, h⟩
/-- Slots that are known so. -/
def Kn (F : List (Nat × Value)) : List (Nat × Value) → Prop
 | [] => True
 | (t, v) :: r => F.lookup t = some v ∧ Kn F r
theorem Kn.at_ {F : List (Nat × Value)} : ∀ {G : List (Nat × Value)}, Kn F G → ∀ p ∈ G, F.lookup p.1 = some p.2
 | [], _, p, hp => by cases hp
 | (t, v) :: r, h, p, hp => by
  rcases List.mem_cons.1 hp with rfl | hp
  ·exact h.1
  ·exact h.2.at_ p hp
/-- Fewer slots known, fewer blocks held. -/
structure Wk (s t : S) : Prop where
 F : Kn s.F t.F
 h : t.h = s.h
 L : t.L.Sublist s.L
theorem lookup_mem {t : Nat} {v : Value} : ∀ {F : List (Nat × Value)}, F.lookup t = some v → (t, v) ∈ F
 | [], h => by simp at h
 | (u, x) :: F, h => by
  rw [lookup_cons'] at h
  split at h
  ·rename_i e; cases h; subst e; exact List.mem_cons_self
  ·exact List.mem_cons_of_mem _ (lookup_mem h)
theorem Kn.sub {F G : List (Nat × Value)} (k : Kn F G) (u : Nat) (v : Value) (hv : G.lookup u = some v) : F.lookup u = some v := k.at_ (u, v) (lookup_mem hv)
theorem St.wk {M : List Own} {t : S} {a : Act} {w : World} (k : Wk s t) (hs : St C M s a w) : St C M t a w :=
 hs.map k.F.sub fun N m => ⟨m.sat.less ⟨fun b o hb => (by rw [k.h] at hb; exact hb), k.L.append (List.Sublist.refl N)⟩, fun x hx => m.new x ((k.L.append (List.Sublist.refl N)).subset hx), fun b hb => by rw [k.h]; exact m.old b hb, m.kp⟩
theorem WP.wk {c : Code} {t : S} (h : WP C c Q t) (k : Wk s t) : WP C c Q s := fun ro m M hG a w hs => h ro m M hG a w (hs.wk k)
/-- A loop: J says what a round's head is like; each round goes on to a lesser one. -/
theorem wp_loop0 {c : Code} {ι : Type} (J : ι → Prop) (T : ι → S) (μ : ι → Nat) (i0 : ι) (h0 : J i0) (k0 : ∀ M a w, St C M s a w → St C M (T i0) a w)
 (round : ∀ i, J i → WP C c (thenS (fun s' => ∃ j, J j ∧ μ j < μ i ∧ ∀ M a w, St C M s' a w → St C M (T j) a w) Q) (T i)) : WP C (.loop c) Q s := by
 intro ro m M hG a w hs b k cs hro hb hr
 have key : ∀ n i, μ i = n → J i → ∀ a w, St C M (T i) a w →
  ∃ e a' w', (∃ s', St C M s' a' w' ∧ Q e s') ∧ ArrivesIn (Machine.fenced C.P (wr ro)) C.P (lone (b.atR a (.code c :: .inLoop c :: k)) cs w) b k cs e a' w' := by
  intro n
  induction n using Nat.strongRecOn with
  | _ n ih =>
   intro i hn hJ a w hst
   obtain ⟨e, a₁, w₁, ⟨s', hs', hq⟩, harr⟩ := round i hJ ro m M hG a w hst b (.inLoop c :: k) cs hro hb hr
   cases e with
   | normal =>
    obtain ⟨j, hj, hlt, hk⟩ := hq
    obtain ⟨e₂, a₂, w₂, hq₂, harr₂⟩ := ih (μ j) (hn ▸ hlt) j rfl hj a₁ w₁ (hk _ _ _ hs')
    exact ⟨e₂, a₂, w₂, hq₂, .of_steps (StepsIn.trans harr (.one (fenced_calm hb hr rfl) stepR_inLoop)) harr₂⟩
   | exit id => exact ⟨_, a₁, w₁, ⟨s', hs', hq⟩, .pass (x := .inLoop c) rfl (fun _ _ => .inl (by simp)) harr⟩
   | goto l => exact ⟨_, a₁, w₁, ⟨s', hs', hq⟩, .pass (x := .inLoop c) rfl (fun _ _ => .inl (by simp)) harr⟩
   | ret => exact ⟨_, a₁, w₁, ⟨s', hs', hq⟩, .pass (x := .inLoop c) rfl (fun _ _ => .inl (by simp)) harr⟩
   | panic ch => exact ⟨_, a₁, w₁, ⟨s', hs', hq⟩, .pass (x := .inLoop c) rfl (fun _ _ => .inl (by simp)) harr⟩
   | outgrown => exact ⟨_, a₁, w₁, ⟨s', hs', hq⟩, .pass (x := .inLoop c) rfl (fun _ _ => .inl (by simp)) harr⟩
 obtain ⟨e, a', w', hq, harr⟩ := key _ i0 rfl h0 a w (k0 _ _ _ hs)
 exact ⟨e, a', w', hq, .of_steps (.one (fenced_calm hb hr rfl) stepR_loop) harr⟩
theorem wp_loop' {c : Code} {ι : Type} (J : ι → Prop) (T : ι → S) (μ : ι → Nat) (i0 : ι) (h0 : J i0) (k0 : Wk s (T i0))
 (round : ∀ i, J i → WP C c (thenS (fun s' => ∃ j, J j ∧ μ j < μ i ∧ Wk s' (T j)) Q) (T i)) : WP C (.loop c) Q s :=
 wp_loop0 J T μ i0 h0 (fun _ _ _ hs => hs.wk k0) fun i hi => (round i hi).mono fun e s' h => by
  cases e with
  | normal => obtain ⟨j, hj, hlt, hk⟩ := h; exact ⟨j, hj, hlt, fun _ _ _ hs => hs.wk hk⟩
  | _ => exact h
end

/-! ### memory that is read -/
inductive Cell (h : H) (L : List Own) (b o : Nat) (v : Value) : Prop
 | imm (arr : Array Value) (t : TypeId) (fz : Nat × Nat) (hb : h b = some (.cells arr t fz)) (ho : arr[o]? = some v)
 | own (arr : Array Value) (t : TypeId) (fz : Nat × Nat) (hb : Own.obj b (.cells arr t fz) ∈ L) (ho : arr[o]? = some v)
 | row (e : TypeId) (sz n c : Nat) (xs : List Value) (hb : Own.row (.slice (some ⟨b, 0, none⟩) n c) e sz n xs ∈ L) (ho : xs[o]? = some v)
theorem Cell.o_ {h : H} {L : List Own} {b o : Nat} {v : Value} {arr : Array Value} {t : TypeId} {fz : Nat × Nat} (ho : arr[o]? = some v) (hb : Own.obj b (.cells arr t fz) ∈ L := by repeat (first | exact MH _ | apply MT)) : Cell h L b o v := .own arr t fz hb ho
theorem Cell.at_ {h : H} {L : List Own} {b o : Nat} {v : Value} (c : Cell h L b o v) {w : World} (s : Sat h L w) : w.cell? ⟨b, o, none⟩ = some v := by
 cases c with
 | imm arr t fz hb ho => simp [World.cell?, s.imm b _ hb, ho]
 | own arr t fz hb ho =>
  have : w.heap[b]? = some (.cells arr t fz) := s.own _ hb
  simp [World.cell?, this, ho]
 | row e sz n c xs hb ho =>
  have hr : w.ownsRow 0 e sz (.slice (some ⟨b, 0, none⟩) n c) n xs := s.own _ hb
  obtain ⟨_, h2⟩ := hr
  rcases h2 with ⟨h2, _⟩ | ⟨g, cap, cur, h2, _, hg, _, _, _, ht⟩
  ·cases h2
  ·cases h2
   simp only [World.cell?, hg, Option.isSome_none, Bool.false_eq_true, if_false]
   rw [← ht] at ho
   rw [List.getElem?_take] at ho
   split at ho
   ·simpa using ho
   ·cases ho

/-! ### making and changing memory -/
theorem Mem.alloc {C : Ctx} {h : H} {L : List Own} {w : World} (m : Mem C h L w) (o : Obj) : Mem C h (.obj w.heap.size o :: L) (w.alloc o) := by
 have hlt : ∀ b o', w.heap[b]? = some o' → b < w.heap.size := fun b o' hb => (Array.getElem?_eq_some_iff.1 hb).1
 have hold : ∀ b, b < w.heap.size → (w.alloc o).heap[b]? = w.heap[b]? := fun b hb => Below.heap_alloc w o b hb
 have hblk : ∀ x ∈ L, ∀ b, x.blk = some b → b < w.heap.size := by
  intro x hx b hb
  have := m.sat.own x hx
  cases x with
  | obj b' o' => cases hb; exact hlt _ _ this
  | row v e sz n xs =>
   rcases this.2 with ⟨h1, _⟩ | ⟨g, cap, cur, h1, _, hg, _⟩
   ·rw [h1] at hb; cases hb
   ·rw [h1] at hb; cases hb; exact hlt _ _ hg
 refine ⟨⟨fun b o' hb => ?_, fun x hx => ?_, fun x hx b hb => ?_, ?_⟩, fun x hx b hb => ?_, m.old, ⟨m.kp.os, m.kp.tape, m.kp.output, ?_, m.kp.drawn, fun b hb hI => ?_⟩⟩
 ·have := m.sat.imm b o' hb
  rw [hold b (hlt _ _ this)]; exact this
 ·rcases List.mem_cons.1 hx with rfl | hx
  ·show (w.heap.push o)[w.heap.size]? = some o
   simp
  ·have h1 := m.sat.own x hx
   cases x with
   | obj b' o' => show (w.alloc o).heap[b']? = some o'; rw [hold b' (hlt _ _ h1)]; exact h1
   | row v e sz n xs =>
    obtain ⟨h2, h3⟩ := h1
    refine ⟨h2, ?_⟩
    rcases h3 with h3 | ⟨g, cap, cur, h1, hb0, hg, r⟩
    ·exact .inl h3
    ·exact .inr ⟨g, cap, cur, h1, hb0, by rw [hold g (hlt _ _ hg)]; exact hg, r⟩
 ·rcases List.mem_cons.1 hx with rfl | hx
  ·cases hb
   cases h1 : h w.heap.size with
   | none => rfl
   | some o' => have := hlt _ _ (m.sat.imm _ _ h1); omega
  ·exact m.sat.off x hx b hb
 ·refine List.pairwise_cons.2 ⟨fun y hy b hb hy2 => ?_, m.sat.nd⟩
  cases hb
  have := hblk y hy _ hy2
  omega
 ·rcases List.mem_cons.1 hx with rfl | hx
  ·cases hb; exact .inl m.kp.size
  ·exact m.new x hx b hb
 ·have := m.kp.size; simp; omega
 ·rw [hold b (Nat.lt_of_lt_of_le hb m.kp.size)]; exact m.kp.block b hb hI
theorem drewN_alloc_size (w : World) (o : Obj) : (w.alloc o).heap.size = w.heap.size + 1 := by simp

end Go.Tal

/-
 Symbolic states: the operations.
-/
namespace Go.Tal
open Go.RowKit

section
variable {dr : Bool} {C : Ctx} {ops : Array Oper} {K : S → Prop} {i d : Nat} {r : List Nat} {F : List (Nat × Value)} {h : H} {L : List Own} {o : Oper}

theorem run_soft (ho : ops[i]? = some o) (hg : o.guard = none) (hd : o.dst = some d) (hn : Nat.blt d C.n = true) (hc : Nat.ble (cls o) 1 = true) {v : Value} (hs : SoftOk C.P o F h L v) (k : Run dr C ops K r ⟨(d, v) :: F, h, L⟩) : Run dr C ops K (i :: r) ⟨F, h, L⟩ := by
 refine ⟨o, ho, fun t ht => ?_, ?_⟩
 ·rw [hd] at ht; cases ht; exact Nat.le_of_ble_eq_true hn
 ·have : guardF ops o F = some true := by unfold guardF; rw [hg]
  simp only [this]
  rw [if_pos (Nat.le_of_ble_eq_true hc)]
  exact ⟨v, hs, by rw [hd]; exact k⟩
theorem run_hard (ho : ops[i]? = some o) (hg : o.guard = none) (hd : ∀ t, o.dst = some t → t < C.n) (hc : Nat.ble 2 (cls o) = true) (Out : Value → H → List Own → Prop) (hs : HardOk C o F h L Out)
 (k : ∀ v h' L', Out v h' L' → (dr = true → cls o = 2 → Grow h h' L L') ∧ Run dr C ops K r ⟨putF o.dst v F, h', L'⟩) : Run dr C ops K (i :: r) ⟨F, h, L⟩ := by
 refine ⟨o, ho, hd, ?_⟩
 have : guardF ops o F = some true := by unfold guardF; rw [hg]
 simp only [this]
 rw [if_neg (by have := Nat.le_of_ble_eq_true hc; omega)]
 exact ⟨Out, hs, k⟩
/-- A guarded operation: its guard is known. -/
theorem run_skip {g : Nat} {want c : Bool} {t : Nat} (ho : ops[i]? = some o) (hg : o.guard = some (g, want)) (ht : (ops[g]?).bind (·.dst) = some t) (hv : F.lookup t = some (.bool c)) (hcw : c = !want) (hd : o.dst = some d) (hn : Nat.blt d C.n = true)
 (k : Run dr C ops K r ⟨(d, undef) :: F, h, L⟩) : Run dr C ops K (i :: r) ⟨F, h, L⟩ := by
 refine ⟨o, ho, fun t' ht' => ?_, ?_⟩
 ·rw [hd] at ht'; cases ht'; exact Nat.le_of_ble_eq_true hn
 ·have : guardF ops o F = some false := by
   unfold guardF; rw [hg]; simp only [ht, Option.bind_some, hv, hcw]; cases want <;> rfl
  simp only [this]
  rw [hd]; exact k
theorem run_softg {g : Nat} {want : Bool} {t : Nat} (ho : ops[i]? = some o) (hg : o.guard = some (g, want)) (ht : (ops[g]?).bind (·.dst) = some t) (hv : F.lookup t = some (.bool want)) (hd : o.dst = some d) (hn : Nat.blt d C.n = true) (hc : Nat.ble (cls o) 1 = true) {v : Value} (hs : SoftOk C.P o F h L v)
 (k : Run dr C ops K r ⟨(d, v) :: F, h, L⟩) : Run dr C ops K (i :: r) ⟨F, h, L⟩ := by
 refine ⟨o, ho, fun t' ht' => ?_, ?_⟩
 ·rw [hd] at ht'; cases ht'; exact Nat.le_of_ble_eq_true hn
 ·have : guardF ops o F = some true := by
   unfold guardF; rw [hg]; simp only [ht, Option.bind_some, hv]; cases want <;> rfl
  simp only [this]
  rw [if_pos (Nat.le_of_ble_eq_true hc)]
  exact ⟨v, hs, by rw [hd]; exact k⟩
/-- An operation that is soft and not guarded: itself and its slot. -/
def softAt (ops : Array Oper) (i n : Nat) : Option (Oper × Nat) := (ops[i]?).bind fun o => o.dst.bind fun d => bif o.guard.isNone && Nat.blt d n && Nat.ble (cls o) 1 then some (o, d) else none
theorem rs (h5 : softAt ops i C.n = some (o, d)) {v : Value} (hs : SoftOk C.P o F h L v) (k : Run dr C ops K r ⟨(d, v) :: F, h, L⟩) : Run dr C ops K (i :: r) ⟨F, h, L⟩ := by
 simp only [softAt, Option.bind_eq_some_iff] at h5
 obtain ⟨o', h1, d', h2, h3⟩ := h5
 cases hb : o'.guard.isNone && Nat.blt d' C.n && Nat.ble (cls o') 1 with
 | false => rw [hb] at h3; cases h3
 | true =>
  rw [hb] at h3
  cases h3
  rw [Bool.and_eq_true, Bool.and_eq_true] at hb
  exact run_soft h1 (by simpa using hb.1.1) h2 hb.1.2 hb.2 hs k
def softAtG (ops : Array Oper) (i n : Nat) : Option (Oper × Nat × Nat × Bool) := (ops[i]?).bind fun o => o.dst.bind fun d => o.guard.bind fun g => bif Nat.blt d n && Nat.ble (cls o) 1 then some (o, d, g.1, g.2) else none
theorem rsg {g : Nat} {want : Bool} (h5 : softAtG ops i C.n = some (o, d, g, want)) (hv : ((ops[g]?).bind (·.dst)).bind (fun t => F.lookup t) = some (.bool want)) {v : Value} (hs : SoftOk C.P o F h L v) (k : Run dr C ops K r ⟨(d, v) :: F, h, L⟩) : Run dr C ops K (i :: r) ⟨F, h, L⟩ := by
 simp only [softAtG, Option.bind_eq_some_iff] at h5
 obtain ⟨o', h1, d', h2, g', h4, h3⟩ := h5
 cases hb : Nat.blt d' C.n && Nat.ble (cls o') 1 with
 | false => rw [hb] at h3; cases h3
 | true =>
  rw [hb] at h3
  cases h3
  rw [Bool.and_eq_true] at hb
  obtain ⟨t, ht, hv⟩ := Option.bind_eq_some_iff.1 hv
  exact run_softg h1 (by rw [h4]) ht hv h2 hb.1 hb.2 hs k
end

/-! ### operations that read -/
section
variable {P : Program} {o : Oper} {F : List (Nat × Value)} {h : H} {L : List Own} {v u : Value} {x y z : Operand}
theorem ag (ha : ∀ {a}, Agree F o a → a.eval x = v) : ∀ {a}, Agree F o a → a.eval x = v := ha
theorem agree_of {a : Act} (ha : Agree F o a) (hm : x ∈ o.op.operands.toList) (hx : evF F x = some v) : a.eval x = v := ha x hm v hx

theorem s_move (ho : o.op = .move x) (hx : evF F x = some v) : SoftOk P o F h L v := fun a w ha _ => by
 have := agree_of ha (by rw [ho]; simp [Op.operands]) hx
 simp only [execOp, ho, this]; rfl
theorem s_assign (ho : o.op = .assign x) (hx : evF F x = some v) : SoftOk P o F h L v := fun a w ha _ => by
 have := agree_of ha (by rw [ho]; simp [Op.operands]) hx
 simp only [execOp, ho, this]; rfl
theorem s_pick {c : Bool} (ho : o.op = .pick x y z) (hx : evF F x = some (.bool c)) (hy : c = true → evF F y = some v) (hz : c = false → evF F z = some v) : SoftOk P o F h L v := fun a w ha _ => by
 have h1 := agree_of ha (by rw [ho]; simp [Op.operands]) hx
 cases c with
 | true =>
  have h2 := agree_of ha (x := y) (by rw [ho]; simp [Op.operands]) (hy rfl)
  simp only [execOp, ho, h1, h2, asBool]; rfl
 | false =>
  have h2 := agree_of ha (x := z) (by rw [ho]; simp [Op.operands]) (hz rfl)
  simp only [execOp, ho, h1, h2, asBool]; rfl
theorem s_extract {vs : Array Value} {j : Nat} (ho : o.op = .extract x j) (hx : evF F x = some (.tuple vs)) (hj : vs[j]? = some v) : SoftOk P o F h L v := fun a w ha _ => by
 have h1 := agree_of ha (by rw [ho]; simp [Op.operands]) hx
 simp only [execOp, ho, h1, Instr.extract, hj]; rfl
theorem run_v {s : Sem Value} {w w' : World} {q : Value} (hq : s.run P w = .ok q w') : Sem.run P (s >>= fun v => pure (Next.value v)) w = .ok (.value q) w' := by
 rw [Sem.run_bind, hq]; rfl
/-- An operation on two values that reads nothing else. -/
theorem s_bin {op : BinOp} {t t' : TypeId} (ho : o.op = .binOp op t x y t') (hx : evF F x = some v) (hy : evF F y = some u) {q : Value} (hg : ∀ w, (eqGuard op t x y v u).run P w = .ok () w) (hq : ∀ w, (binOp op t v u).run P w = .ok q w) : SoftOk P o F h L q := fun a w ha _ => by
 have h1 := agree_of ha (by rw [ho]; simp [Op.operands]) hx
 have h2 := agree_of ha (x := y) (by rw [ho]; simp [Op.operands]) hy
 simp only [execOp, ho, h1, h2]
 exact run_v (by rw [Sem.run_bind, hg w]; exact hq w)
theorem s_un {op : UnOp} {t : TypeId} (ho : o.op = .unOp op t x) (hx : evF F x = some v) {q : Value} (hq : ∀ w, (Op.unary op v).run P w = .ok q w) : SoftOk P o F h L q := fun a w ha _ => by
 have h1 := agree_of ha (by rw [ho]; simp [Op.operands]) hx
 simp only [execOp, ho, h1]
 exact run_v (hq w)

/-! #### numbers -/
theorem eg_int (op : BinOp) (t : TypeId) (k k' : IntKind) (m n : Int) (w : World) : (eqGuard op t x y (.int k m) (.int k' n)).run P w = .ok () w := by
 cases op <;> simp [eqGuard]
theorem eg_bool (op : BinOp) (t : TypeId) (m n : Bool) (w : World) : (eqGuard op t x y (.bool m) (.bool n)).run P w = .ok () w := by
 cases op <;> simp [eqGuard]
theorem eg_str (op : BinOp) (t : TypeId) (m n : ByteArray) (w : World) : (eqGuard op t x y (.string m) (.string n)).run P w = .ok () w := by
 cases op <;> simp [eqGuard]
section
variable {k : IntKind} {m n : Int} {t t' : TypeId}
theorem s_lt (ho : o.op = .binOp .lss t x y t') (hx : evF F x = some (.int k m)) (hy : evF F y = some (.int k n)) : SoftOk P o F h L (.bool (decide (m < n))) :=
 s_bin ho hx hy (eg_int _ _ _ _ _ _) fun w => by simp [binOp, Op.intCmp]
theorem s_le (ho : o.op = .binOp .leq t x y t') (hx : evF F x = some (.int k m)) (hy : evF F y = some (.int k n)) : SoftOk P o F h L (.bool (decide (m ≤ n))) :=
 s_bin ho hx hy (eg_int _ _ _ _ _ _) fun w => by simp [binOp, Op.intCmp]
theorem s_gt (ho : o.op = .binOp .gtr t x y t') (hx : evF F x = some (.int k m)) (hy : evF F y = some (.int k n)) : SoftOk P o F h L (.bool (decide (n < m))) :=
 s_bin ho hx hy (eg_int _ _ _ _ _ _) fun w => by simp [binOp, Op.intCmp]
theorem s_ge (ho : o.op = .binOp .geq t x y t') (hx : evF F x = some (.int k m)) (hy : evF F y = some (.int k n)) : SoftOk P o F h L (.bool (decide (n ≤ m))) :=
 s_bin ho hx hy (eg_int _ _ _ _ _ _) fun w => by simp [binOp, Op.intCmp]
theorem s_eq (ho : o.op = .binOp .eql t x y t') (hx : evF F x = some (.int k m)) (hy : evF F y = some (.int k n)) : SoftOk P o F h L (.bool (decide (m = n))) :=
 s_bin ho hx hy (eg_int _ _ _ _ _ _) fun w => by simp [binOp, Op.intCmp]; rfl
theorem s_ne (ho : o.op = .binOp .neq t x y t') (hx : evF F x = some (.int k m)) (hy : evF F y = some (.int k n)) : SoftOk P o F h L (.bool (decide (m ≠ n))) :=
 s_bin ho hx hy (eg_int _ _ _ _ _ _) fun w => by simp [binOp, Op.intCmp]; by_cases e : m = n <;> simp [e]
theorem s_add {q : Int} (ho : o.op = .binOp .add t x y t') (hx : evF F x = some (.int k m)) (hy : evF F y = some (.int k n)) (hq : k.wrap (m + n) = q) : SoftOk P o F h L (.int k q) :=
 s_bin ho hx hy (eg_int _ _ _ _ _ _) fun w => by simp [binOp, Op.intArith, hq]
theorem s_sub {q : Int} (ho : o.op = .binOp .sub t x y t') (hx : evF F x = some (.int k m)) (hy : evF F y = some (.int k n)) (hq : k.wrap (m - n) = q) : SoftOk P o F h L (.int k q) :=
 s_bin ho hx hy (eg_int _ _ _ _ _ _) fun w => by simp [binOp, Op.intArith, hq]
theorem s_mul {q : Int} (ho : o.op = .binOp .mul t x y t') (hx : evF F x = some (.int k m)) (hy : evF F y = some (.int k n)) (hq : k.wrap (m * n) = q) : SoftOk P o F h L (.int k q) :=
 s_bin ho hx hy (eg_int _ _ _ _ _ _) fun w => by simp [binOp, Op.intArith, hq]
theorem s_quo {q : Int} (ho : o.op = .binOp .quo t x y t') (hx : evF F x = some (.int k m)) (hy : evF F y = some (.int k n)) (h0 : n ≠ 0) (hq : k.wrap (m.tdiv n) = q) : SoftOk P o F h L (.int k q) :=
 s_bin ho hx hy (eg_int _ _ _ _ _ _) fun w => by simp [binOp, Op.intDiv, hq, h0]
theorem s_rem {q : Int} (ho : o.op = .binOp .rem t x y t') (hx : evF F x = some (.int k m)) (hy : evF F y = some (.int k n)) (h0 : n ≠ 0) (hq : m.tmod n = q) : SoftOk P o F h L (.int k q) :=
 s_bin ho hx hy (eg_int _ _ _ _ _ _) fun w => by simp [binOp, Op.intDiv, hq, h0]
theorem s_beq {a b : Bool} (ho : o.op = .binOp .eql t x y t') (hx : evF F x = some (.bool a)) (hy : evF F y = some (.bool b)) (ht : P.underlying t = some .bool) : SoftOk P o F h L (.bool (a == b)) :=
 s_bin ho hx hy (fun w => eg_bool _ _ _ _ w) fun w => run_eql_bool w t a b ht
theorem s_bne {a b : Bool} (ho : o.op = .binOp .neq t x y t') (hx : evF F x = some (.bool a)) (hy : evF F y = some (.bool b)) (ht : P.underlying t = some .bool) : SoftOk P o F h L (.bool (a != b)) :=
 s_bin ho hx hy (fun w => eg_bool _ _ _ _ w) fun w => run_neq_bool w t a b ht
theorem s_not {b : Bool} (ho : o.op = .unOp .not t x) (hx : evF F x = some (.bool b)) : SoftOk P o F h L (.bool (!b)) :=
 s_un ho hx fun w => by simp [Op.unary]
theorem s_neg {q : Int} (ho : o.op = .unOp .neg t x) (hx : evF F x = some (.int k m)) (hq : k.wrap (0 - m) = q) : SoftOk P o F h L (.int k q) :=
 s_un ho hx fun w => by simp [Op.unary, Op.intArith] at hq ⊢; exact hq
end
/-! #### places and memory -/
theorem s_fa {t : TypeId} {f b o' : Nat} {fs : Array Field} {fd : Field} {n : Nat} (ho : o.op = .fieldAddr t x f) (hx : evF F x = some (.pointer (some ⟨b, o', none⟩))) (ht : P.underlying t = some (.struct fs)) (hf : fs[f]? = some fd)
 (hs : ∀ w, (sizeOf fd.type).run P w = .ok (n + 1) w) {off : Nat} (hoff : o' + fd.offset = off) : SoftOk P o F h L (.pointer (some ⟨b, off, none⟩)) := fun a w ha _ => by
 subst hoff
 have h1 := agree_of ha (by rw [ho]; simp [Op.operands]) hx
 simp only [execOp, ho, h1]
 refine run_v ?_
 have hadd : (⟨b, o', none⟩ : Addr).add fd.offset = ⟨b, o' + fd.offset, none⟩ := by unfold Addr.add; split <;> simp_all
 simp [Instr.fieldAt, run_underlying ht, hf, Instr.sureAddr, fieldPlace, hs w, hadd]
theorem s_ia {t e : TypeId} {b o' n c sz : Nat} {k : IntKind} {m : Int} (ho : o.op = .indexAddr t x y) (hx : evF F x = some (.slice (some ⟨b, o', none⟩) n c)) (hy : evF F y = some (.int k m)) (ht : P.underlying t = some (.slice e))
 (hs : ∀ w, (sizeOf e).run P w = .ok sz w) (h0 : 0 ≤ m) (h1 : m < n) : SoftOk P o F h L (.pointer (some ⟨b, o' + m.toNat * sz, none⟩)) := fun a w ha _ => by
 have h2 := agree_of ha (by rw [ho]; simp [Op.operands]) hx
 have h3 := agree_of ha (x := y) (by rw [ho]; simp [Op.operands]) hy
 simp only [execOp, ho, h2, h3]
 refine run_v ?_
 have hadd : ∀ j, (⟨b, o', none⟩ : Addr).add j = ⟨b, o' + j, none⟩ := fun j => by unfold Addr.add; split <;> simp_all
 simp [Instr.indexAt, asIntOf, run_underlying ht, hs w, h0, h1, hadd]
/-- The place of an element. -/
def elemPtr (sz : Nat) (v : Value) (m : Int) : Value := match v with
 | .slice (some a) _ _ => .pointer (some (a.add (m.toNat * sz)))
 | _ => undef
theorem s_iav {t e : TypeId} {A : Option Addr} {n c sz : Nat} {k : IntKind} {m : Int} (ho : o.op = .indexAddr t x y) (hx : evF F x = some v) (hv : v = .slice A n c) (hA : A.isSome = true) (hy : evF F y = some (.int k m)) (ht : P.underlying t = some (.slice e))
 (hs : ∀ w, (sizeOf e).run P w = .ok sz w) (h0 : 0 ≤ m) (h1 : m < n) : SoftOk P o F h L (elemPtr sz v m) := fun a w ha _ => by
 have h2 := agree_of ha (by rw [ho]; simp [Op.operands]) hx
 have h3 := agree_of ha (x := y) (by rw [ho]; simp [Op.operands]) hy
 subst hv
 cases A with
 | none => cases hA
 | some ad =>
  simp only [execOp, ho, h2, h3]
  refine run_v ?_
  simp [Instr.indexAt, asIntOf, run_underlying ht, hs w, h0, h1, elemPtr]
theorem s_ld {t : TypeId} {b o' : Nat} (ho : o.op = .load t x) (hx : evF F x = some (.pointer (some ⟨b, o', none⟩))) (hg : ∀ w, (isAgg t).run P w = .ok false w) (hc : Cell h L b o' v) : SoftOk P o F h L v := fun a w ha hm => by
 have h1 := agree_of ha (by rw [ho]; simp [Op.operands]) hx
 have hw : Sat h L w := by
  rcases hm with hm | hm
  ·simp [cls, ho] at hm
  ·exact hm
 simp only [execOp, ho, h1]
 refine run_v ?_
 simp [Instr.loadAt, Instr.sureAddr, loadVar, hg w, load, Sem.run, hc.at_ hw]
theorem run_cells {w : World} {b o' : Nat} {vs : List Value} (hc : ∀ j v, vs[j]? = some v → w.cell? ⟨b, o' + j, none⟩ = some v) : ∀ (n i : Nat) (acc : Array Value), acc.toList = vs.take i → i + n = vs.length → (loadCellsFrom ⟨b, o', none⟩ i n acc).run P w = .ok vs.toArray w
 | 0, i, acc, ha, hn => by
  have : acc = vs.toArray := by rw [List.take_of_length_le (by omega)] at ha; rw [← ha]
  simp [loadCellsFrom, this]
 | n + 1, i, acc, ha, hn => by
  have hlt : i < vs.length := by omega
  have h1 := hc i _ (List.getElem?_eq_getElem hlt)
  have hadd : (⟨b, o', none⟩ : Addr).add i = ⟨b, o' + i, none⟩ := by unfold Addr.add; split <;> simp_all
  have := run_cells hc n (i + 1) (acc.push vs[i]) (by rw [Array.toList_push, ha, List.take_succ_eq_append_getElem hlt]) (by omega)
  simp only [loadCellsFrom, hadd, bind, Sem.bind, load, Sem.run, h1]
  exact this
theorem s_lda {t : TypeId} {b o' n : Nat} {vs : List Value} (ho : o.op = .load t x) (hx : evF F x = some (.pointer (some ⟨b, o', none⟩))) (hg : ∀ w, (isAgg t).run P w = .ok true w) (hs : ∀ w, (sizeOf t).run P w = .ok n w) (hn : vs.length = n)
 (hc : ∀ j v, vs[j]? = some v → Cell h L b (o' + j) v) : SoftOk P o F h L (.agg vs.toArray) := fun a w ha hm => by
 have h1 := agree_of ha (by rw [ho]; simp [Op.operands]) hx
 have hw : Sat h L w := by
  rcases hm with hm | hm
  ·simp [cls, ho] at hm
  ·exact hm
 simp only [execOp, ho, h1]
 refine run_v ?_
 have := run_cells (P := P) (w := w) (b := b) (o' := o') (vs := vs) (fun j v hj => (hc j v hj).at_ hw) n 0 #[] (by simp) (by omega)
 simp [Instr.loadAt, Instr.sureAddr, loadVar, hg w, hs w, loadCells, this]
theorem s_len {a : Option Addr} {n c : Nat} {t e : TypeId} (ho : o.op = .call { callee := .builtin .len, args := #[x], argTypes := #[t] }) (hx : evF F x = some (.slice a n c)) (ht : P.underlying t = some (.slice e)) : SoftOk P o F h L (.int .i64 n) := fun a w ha _ => by
 have h1 := agree_of ha (by rw [ho]; simp [Op.operands, Call.operands]) hx
 simp [execOp, ho, resolve, h1, invoke, builtin, Builtin.len_, run_underlying ht, goInt]
theorem s_build2 {t : TypeId} {i j : Nat} {q : Value} (ho : o.op = .build t #[(i, x), (j, y)]) (hx : evF F x = some v) (hy : evF F y = some u) (hq : ∀ w, (Instr.build t #[(i, v), (j, u)]).run P w = .ok q w) : SoftOk P o F h L q := fun a w ha _ => by
 have h1 := agree_of ha (by rw [ho]; simp [Op.operands]) hx
 have h2 := agree_of ha (x := y) (by rw [ho]; simp [Op.operands]) hy
 simp only [execOp, ho, List.map_toArray, List.map_cons, List.map_nil, h1, h2]
 exact run_v (hq w)
theorem s_build1 {t : TypeId} {i : Nat} {q : Value} (ho : o.op = .build t #[(i, x)]) (hx : evF F x = some v) (hq : ∀ w, (Instr.build t #[(i, v)]).run P w = .ok q w) : SoftOk P o F h L q := fun a w ha _ => by
 have h1 := agree_of ha (by rw [ho]; simp [Op.operands]) hx
 simp only [execOp, ho, List.map_toArray, List.map_cons, List.map_nil, h1]
 exact run_v (hq w)
end

/-! ### operations that make or write memory -/
section
variable {C : Ctx} {o : Oper} {F : List (Nat × Value)} {h : H} {L : List Own} {v u : Value} {x y z : Operand}
theorem upon_val {a : Act} {w w' : World} {K : Act → World → Prop} {Q : Exit → Act → World → Prop} {q : Value} (hr : (execOp a.eval o).run C.P w = .ok (.value q) w') (hk : K (a.put o.dst q) w') : o.wp C.P a w K Q := by
 unfold Oper.wp; rw [hr]; exact hk
theorem upon_skip {a : Act} {w w' : World} {K : Act → World → Prop} {Q : Exit → Act → World → Prop} (hr : (execOp a.eval o).run C.P w = .ok .skip w') (hk : K (a.put o.dst undef) w') : o.wp C.P a w K Q := by
 unfold Oper.wp; rw [hr]; exact hk
def OutNew (h : H) (L : List Own) (f : Nat → Own) (g : Nat → Value) : Value → H → List Own → Prop := fun v h' L' => ∃ b, v = g b ∧ h' = h ∧ L' = f b :: L
theorem h_box {t : TypeId} {cs : Array Value} (ho : o.op = .box t x) (hx : evF F x = some v) (hcs : v.cells = cs) : HardW C o F h L (OutNew h L (fun b => .obj b (.cells cs t (0, 0))) fun b => .pointer (some ⟨b, 0, none⟩)) := fun a w ha _ _ hm => by
 have h1 := agree_of ha (by rw [ho]; simp [Op.operands]) hx
 refine upon_val (q := .pointer (some ⟨w.heap.size, 0, none⟩)) (w' := w.alloc (.cells v.cells t (0, 0))) ?_ ⟨_, h, _, ⟨w.heap.size, rfl, rfl, rfl⟩, rfl, ?_⟩
 ·simp only [execOp, ho, h1]
  refine run_v ?_
  simp [Instr.box, newVar, newRow]
 ·rw [hcs]; exact hm.alloc _
theorem h_alloc {t : TypeId} {cs : Array Value} (ho : o.op = .alloc t) {z : Value} (hz : ∀ w, (zeroValue t).run C.P w = .ok z w) (hcs : z.cells = cs) : HardW C o F h L (OutNew h L (fun b => .obj b (.cells cs t (0, 0))) fun b => .pointer (some ⟨b, 0, none⟩)) := fun a w _ _ _ hm => by
 refine upon_val (q := .pointer (some ⟨w.heap.size, 0, none⟩)) (w' := w.alloc (.cells z.cells t (0, 0))) ?_ ⟨_, h, _, ⟨w.heap.size, rfl, rfl, rfl⟩, rfl, ?_⟩
 ·simp only [execOp, ho]
  refine run_v ?_
  simp [Instr.alloc, hz w, newVar, newRow]
 ·rw [hcs]; exact hm.alloc _
theorem h_mkmap {t : TypeId} (ho : o.op = .makeMap t none) : HardW C o F h L (OutNew h L (fun b => .obj b (.map #[] 0)) fun b => .map (some b)) := fun a w _ _ _ hm => by
 refine upon_val (q := .map (some w.heap.size)) (w' := w.alloc (.map #[] 0)) ?_ ⟨_, h, _, ⟨w.heap.size, rfl, rfl, rfl⟩, rfl, hm.alloc _⟩
 simp only [execOp, ho]
 refine run_v ?_
 simp [Instr.makeMap]
/-- An owned block told as a row. -/
theorem Mem.asRow {L1 : List Own} {b n cap : Nat} {cur : Array Value} {e : TypeId} {sz : Nat} {w : World} (m : Mem C h (.obj b (.cells cur e (0, 0)) :: L1) w) (hc : n ≤ cap) (hm : cap ≤ maxLen) (hs : cur.size = cap * sz) : Mem C h (.row (.slice (some ⟨b, 0, none⟩) n cap) e sz n (cur.toList.take (n * sz)) :: L1) w := by
 have hb : w.heap[b]? = some (.cells cur e (0, 0)) := m.sat.own _ List.mem_cons_self
 refine ⟨⟨m.sat.imm, fun x hx => ?_, fun x hx b' hb' => ?_, ?_⟩, fun x hx b' hb' => ?_, m.old, m.kp⟩
 ·rcases List.mem_cons.1 hx with rfl | hx
  ·refine ⟨?_, .inr ⟨b, cap, cur, rfl, Nat.zero_le _, hb, hc, hm, hs, rfl⟩⟩
   rw [List.length_take, Array.length_toList, hs]
   exact Nat.min_eq_left (Nat.mul_le_mul_right _ hc)
  ·exact m.sat.own x (List.mem_cons_of_mem _ hx)
 ·rcases List.mem_cons.1 hx with rfl | hx
  ·exact m.sat.off _ List.mem_cons_self b' hb'
  ·exact m.sat.off x (List.mem_cons_of_mem _ hx) b' hb'
 ·have h1 := List.pairwise_cons.1 m.sat.nd
  exact List.pairwise_cons.2 ⟨fun y hy b' hb' => h1.1 y hy b' hb', h1.2⟩
 ·rcases List.mem_cons.1 hx with rfl | hx
  ·exact m.new _ List.mem_cons_self b' hb'
  ·exact m.new x (List.mem_cons_of_mem _ hx) b' hb'
theorem madeCells_one (z : Value) (n : Nat) (hz : z.cells = #[z]) : (madeCells z.cells (n * 1)).toList = List.replicate n z := by
 rw [hz]
 apply List.ext_getElem
 ·simp [madeCells]
 ·intro j h1 h2
  simp [madeCells, Nat.mod_one]
theorem h_mksl {t e : TypeId} {z : Value} {by_ : Nat} {n : Nat} (ho : o.op = .makeSlice t x y) (hx : evF F x = some (.int .i64 n)) (hy : evF F y = some (.int .i64 n)) (ht : C.P.underlying t = some (.slice e)) (hi : (C.P.info? e).map (fun i => (i.zero, i.size, i.bytes)) = some (some z, 1, by_)) (hz : z.cells = #[z])
 (hb : by_ * n ≤ 281474976710656) (hm : n ≤ 9223372036854775807) : HardW C o F h L (OutNew h L (fun b => .row (.slice (some ⟨b, 0, none⟩) n n) e 1 n (List.replicate n z)) fun b => .slice (some ⟨b, 0, none⟩) n n) := fun a w ha _ _ hmem => by
 have h1 := agree_of ha (by rw [ho]; simp [Op.operands]) hx
 have h2 := agree_of ha (x := y) (by rw [ho]; simp [Op.operands]) hy
 obtain ⟨i, hi1, hi2⟩ := Option.map_eq_some_iff.1 hi
 simp only [Prod.mk.injEq] at hi2
 have hr := run_make (P := C.P) w t e i z ht hi1 hi2.1 .i64 .i64 n n (by omega) (by omega) (by rw [hi2.2.2]; omega) (by omega)
 refine upon_val (q := .slice (some ⟨w.heap.size, 0, none⟩) n n) (w' := w.alloc (.cells (madeCells z.cells (n * i.size)) e)) ?_ ⟨.slice (some ⟨w.heap.size, 0, none⟩) n n, h, _, ⟨w.heap.size, rfl, rfl, rfl⟩, rfl, ?_⟩
 ·simp only [execOp, ho, h1, h2]
  exact run_v (by simpa using hr)
 ·have := (hmem.alloc (.cells (madeCells z.cells (n * i.size)) e)).asRow (n := n) (cap := n) (sz := 1) (Nat.le_refl _) (by unfold maxLen; omega) (by rw [size_madeCells, hi2.2.1])
  rw [hi2.2.1, madeCells_one z n hz] at this
  rw [hi2.2.1]
  simpa using this
end
/-- A value that is moved or assigned, not guarded: the value and its slot. -/
def moveAt (ops : Array Oper) (i n : Nat) (F : List (Nat × Value)) : Option (Value × Nat) := (ops[i]?).bind fun o => o.dst.bind fun d => bif o.guard.isNone && Nat.blt d n then (match o.op with | .move x => (evF F x).map (·, d) | .assign x => (evF F x).map (·, d) | _ => none) else none
theorem rm {dr : Bool} {C : Ctx} {ops : Array Oper} {K : S → Prop} {i d : Nat} {r : List Nat} {F : List (Nat × Value)} {h : H} {L : List Own} {v : Value} (h5 : moveAt ops i C.n F = some (v, d)) (k : Run dr C ops K r ⟨(d, v) :: F, h, L⟩) : Run dr C ops K (i :: r) ⟨F, h, L⟩ := by
 simp only [moveAt, Option.bind_eq_some_iff] at h5
 obtain ⟨o', h1, d', h2, h3⟩ := h5
 cases hb : o'.guard.isNone && Nat.blt d' C.n with
 | false => rw [hb] at h3; cases h3
 | true =>
  rw [hb] at h3
  rw [Bool.and_eq_true] at hb
  have hg : o'.guard = none := by simpa using hb.1
  simp only [cond_true] at h3
  split at h3
  ·rename_i x hop
   obtain ⟨u, hu, e⟩ := Option.map_eq_some_iff.1 h3
   cases e
   exact run_soft h1 hg h2 hb.2 (by simp [cls, hop]) (s_move hop hu) k
  ·rename_i x hop
   obtain ⟨u, hu, e⟩ := Option.map_eq_some_iff.1 h3
   cases e
   exact run_soft h1 hg h2 hb.2 (by simp [cls, hop]) (s_assign hop hu) k
  ·cases h3
end Go.Tal

/-
 Symbolic states: stores, append, calls; entry and return.
-/
namespace Go.Tal
open Go.RowKit

section
variable {C : Ctx} {o : Oper} {F : List (Nat × Value)} {h : H} {L : List Own} {v u : Value} {x y z : Operand}

/-! ### a block is changed -/
/-- Block b, the first thing held, is another now; nothing else. -/
theorem Mem.change {X Y : Own} {L1 : List Own} {w w' : World} {b : Nat} (m : Mem C h (X :: L1) w) (hX : X.blk = some b) (hY : ∀ c, Y.blk = some c → c = b ∨ w.heap.size ≤ c) (hin : Y.In w')
 (hos : w'.os = w.os) (htape : w'.tape = w.tape) (hout : w'.output = w.output) (hsize : w.heap.size ≤ w'.heap.size) (hdr : w.drawn ≤ w'.drawn) (hk : ∀ k, k < w.heap.size → k ≠ b → w'.heap[k]? = w.heap[k]?) : Mem C h (Y :: L1) w' := by
 have hlt : ∀ k o', w.heap[k]? = some o' → k < w.heap.size := fun k o' hb => (Array.getElem?_eq_some_iff.1 hb).1
 have hblk : ∀ x ∈ L1, ∀ k, x.blk = some k → k < w.heap.size ∧ k ≠ b := by
  intro x hx k hk1
  refine ⟨?_, fun e => ?_⟩
  ·have := m.sat.own x (List.mem_cons_of_mem _ hx)
   cases x with
   | obj b' o' => cases hk1; exact hlt _ _ this
   | row v e sz n xs =>
    rcases this.2 with ⟨h1, _⟩ | ⟨g, cap, cur, h1, _, hg, _⟩
    ·rw [h1] at hk1; cases hk1
    ·rw [h1] at hk1; cases hk1; exact hlt _ _ hg
  ·exact (List.pairwise_cons.1 m.sat.nd).1 x hx b hX (by rw [← e]; exact hk1)
 have hhb : h b = none := m.sat.off X List.mem_cons_self b hX
 refine ⟨⟨fun k o' hb => ?_, fun x hx => ?_, fun x hx k hk1 => ?_, ?_⟩, fun x hx k hk1 => ?_, m.old, ⟨hos.trans m.kp.os, htape.trans m.kp.tape, hout.trans m.kp.output, Nat.le_trans m.kp.size hsize, Nat.le_trans m.kp.drawn hdr, fun k hk1 hI => ?_⟩⟩
 ·have h1 := m.sat.imm k o' hb
  rw [hk k (hlt _ _ h1) (fun e => by rw [e, hhb] at hb; cases hb)]; exact h1
 ·rcases List.mem_cons.1 hx with rfl | hx
  ·exact hin
  ·have h1 := m.sat.own x (List.mem_cons_of_mem _ hx)
   cases x with
   | obj b' o' =>
    have := hblk _ hx b' rfl
    show w'.heap[b']? = some o'
    rw [hk b' this.1 this.2]; exact h1
   | row v e sz n xs =>
    obtain ⟨h2, h3⟩ := h1
    refine ⟨h2, ?_⟩
    rcases h3 with h3 | ⟨g, cap, cur, h1, hb0, hg, r⟩
    ·exact .inl h3
    ·have := hblk _ hx g (by rw [h1]; rfl)
     exact .inr ⟨g, cap, cur, h1, hb0, by rw [hk g this.1 this.2]; exact hg, r⟩
 ·rcases List.mem_cons.1 hx with rfl | hx
  ·rcases hY k hk1 with rfl | h1
   ·exact hhb
   ·cases h2 : h k with
    | none => rfl
    | some o' => have := hlt _ _ (m.sat.imm k o' h2); omega
  ·exact m.sat.off x (List.mem_cons_of_mem _ hx) k hk1
 ·refine List.pairwise_cons.2 ⟨fun y hy k hk1 hk2 => ?_, (List.pairwise_cons.1 m.sat.nd).2⟩
  have h1 := hblk y hy k hk2
  rcases hY k hk1 with rfl | h2
  ·exact h1.2 rfl
  ·omega
 ·rcases List.mem_cons.1 hx with rfl | hx
  ·rcases hY k hk1 with rfl | h1
   ·exact m.new X List.mem_cons_self k hX
   ·have := m.kp.size; exact .inl (by omega)
  ·exact m.new x (List.mem_cons_of_mem _ hx) k hk1
 ·by_cases hkb : k = b
  ·subst hkb
   rcases m.new X List.mem_cons_self k hX with h1 | h1
   ·omega
   ·exact absurd h1 hI
  ·rw [hk k (Nat.lt_of_lt_of_le hk1 m.kp.size) hkb]; exact m.kp.block k hk1 hI
/-- Held things in another order. -/
theorem Mem.perm {L' : List Own} {w : World} (m : Mem C h L w) (hp : L.Perm L') : Mem C h L' w :=
 ⟨⟨m.sat.imm, fun x hx => m.sat.own x (hp.mem_iff.2 hx), fun x hx => m.sat.off x (hp.mem_iff.2 hx), hp.pairwise m.sat.nd fun hab b h1 h2 => hab b h2 h1⟩, fun x hx => m.new x (hp.mem_iff.2 hx), m.old, m.kp⟩
/-- Out of a list: one thing, and what is beside it. -/
inductive Pick : Own → List Own → List Own → Prop
 | here {X : Own} {L : List Own} : Pick X (X :: L) L
 | there {X Y : Own} {L L' : List Own} (p : Pick X L L') : Pick X (Y :: L) (Y :: L')
theorem Pick.perm {X : Own} {L L' : List Own} (p : Pick X L L') : L.Perm (X :: L') := by
 induction p with
 | here => exact List.Perm.refl _
 | there p ih => exact (List.Perm.cons _ ih).trans (List.Perm.swap _ _ _)
/-- .. and put back changed, at its place. -/
inductive Swap : Own → Own → List Own → List Own → Prop
 | here {X Y : Own} {L : List Own} : Swap X Y (X :: L) (Y :: L)
 | there {X Y Z : Own} {L L' : List Own} (p : Swap X Y L L') : Swap X Y (Z :: L) (Z :: L')
theorem Swap.pick {X Y : Own} {L L' : List Own} (p : Swap X Y L L') : ∃ L0, Pick X L L0 ∧ Pick Y L' L0 := by
 induction p with
 | here => exact ⟨_, .here, .here⟩
 | there p ih => obtain ⟨L0, h1, h2⟩ := ih; exact ⟨_, .there h1, .there h2⟩
theorem Mem.swap {X Y : Own} {L L' : List Own} (p : Swap X Y L L') {w w' : World} {b : Nat} (m : Mem C h L w) (hX : X.blk = some b) (hY : ∀ c, Y.blk = some c → c = b ∨ w.heap.size ≤ c) (hin : Y.In w')
 (hos : w'.os = w.os) (htape : w'.tape = w.tape) (hout : w'.output = w.output) (hsize : w.heap.size ≤ w'.heap.size) (hdr : w.drawn ≤ w'.drawn) (hk : ∀ k, k < w.heap.size → k ≠ b → w'.heap[k]? = w.heap[k]?) : Mem C h L' w' := by
 obtain ⟨L0, h1, h2⟩ := p.pick
 exact ((m.perm h1.perm).change hX hY hin hos htape hout hsize hdr hk).perm h2.perm.symm

/-! ### stores -/
theorem setCell_heap {w : World} {b o' : Nat} {arr : Array Value} {t : TypeId} {fz : Nat × Nat} (hb : w.heap[b]? = some (.cells arr t fz)) (v : Value) : (w.setCell ⟨b, o', none⟩ v).heap[b]? = some (.cells (arr.setIfInBounds o' v) t fz) := by
 have hlt := (Array.getElem?_eq_some_iff.1 hb).1
 simp only [World.setCell, Array.getElem?_modify, if_true, hb, Option.map_some]
 simp
theorem run_st1 {w : World} {b o' : Nat} {arr : Array Value} {t e : TypeId} (hb : w.heap[b]? = some (.cells arr t (0, 0))) (ho : o' < arr.size) (h1 : v.oneCell' = true) (hc : v.cells = #[v]) {P : Program} (hs : ∀ w, (sizeOf e).run P w = .ok 1 w) :
 (Instr.storeAt e (.pointer (some ⟨b, o', none⟩)) v).run P w = .ok () (w.setCell ⟨b, o', none⟩ v) := by
 have hcell : w.cell? ⟨b, o', none⟩ = some arr[o'] := by simp [World.cell?, hb, ho]
 have hfr : w.frozen? ⟨b, o', none⟩ = false := by simp [World.frozen?, hb]
 have hadd : (⟨b, o', none⟩ : Addr).add 0 = ⟨b, o', none⟩ := by simp [Addr.add]
 simp [Instr.storeAt, Instr.sureAddr, storeVar, hs w, hc, storeCells, hadd, run_store P w _ v .plain h1, hcell, hfr]
/-- x = v, one cell of a block of one's own. -/
theorem h_st {t e : TypeId} {b o' : Nat} {arr : Array Value} {L' : List Own} (ho : o.op = .store e x y) (hx : evF F x = some (.pointer (some ⟨b, o', none⟩))) (hy : evF F y = some v) (h1 : v.oneCell' = true) (hc : v.cells = #[v]) (hs : ∀ w, (sizeOf e).run C.P w = .ok 1 w) (hlt : Nat.blt o' arr.size = true)
 (p : Swap (.obj b (.cells arr t (0, 0))) (.obj b (.cells (arr.setIfInBounds o' v) t (0, 0))) L L') : HardW C o F h L (fun v' h' L'' => v' = undef ∧ h' = h ∧ L'' = L') := fun a w ha _ _ hm => by
 have e1 := agree_of ha (by rw [ho]; simp [Op.operands]) hx
 have e2 := agree_of ha (x := y) (by rw [ho]; simp [Op.operands]) hy
 obtain ⟨L0, p1, _⟩ := p.pick
 have hb : w.heap[b]? = some (.cells arr t (0, 0)) := hm.sat.own _ (p1.perm.mem_iff.2 List.mem_cons_self)
 refine upon_skip (w' := w.setCell ⟨b, o', none⟩ v) ?_ ⟨undef, h, L', ⟨rfl, rfl, rfl⟩, rfl, ?_⟩
 ·simp only [execOp, ho, e1, e2]
  rw [Sem.run_bind, run_st1 hb (Nat.le_of_ble_eq_true hlt) h1 hc hs]; rfl
 ·exact hm.swap p rfl (fun c hc => .inl (by cases hc; rfl)) (setCell_heap hb v) rfl rfl rfl (by simp) (Nat.le_refl _) (fun k _ hk => Below.heap_setCell w _ v k hk)
/-- xs[i] = v, a row of one's own whose elements have one cell. -/
theorem h_strow {e t : TypeId} {b o' n c : Nat} {xs : List Value} {L' : List Own} (ho : o.op = .store e x y) (hx : evF F x = some (.pointer (some ⟨b, o', none⟩))) (hy : evF F y = some v) (h1 : v.oneCell' = true) (hc : v.cells = #[v]) (hs : ∀ w, (sizeOf e).run C.P w = .ok 1 w) (hlt : o' < n)
 (p : Swap (.row (.slice (some ⟨b, 0, none⟩) n c) t 1 n xs) (.row (.slice (some ⟨b, 0, none⟩) n c) t 1 n (xs.set o' v)) L L') : HardW C o F h L (fun v' h' L'' => v' = undef ∧ h' = h ∧ L'' = L') := fun a w ha _ _ hm => by
 have e1 := agree_of ha (by rw [ho]; simp [Op.operands]) hx
 have e2 := agree_of ha (x := y) (by rw [ho]; simp [Op.operands]) hy
 obtain ⟨L0, p1, _⟩ := p.pick
 have hr : w.ownsRow 0 t 1 (.slice (some ⟨b, 0, none⟩) n c) n xs := hm.sat.own _ (p1.perm.mem_iff.2 List.mem_cons_self)
 obtain ⟨hl, hr⟩ := hr
 rcases hr with ⟨hr, _⟩ | ⟨g, cap, cur, hr, hb0, hg, hnc, hcm, hsz, htk⟩
 ·cases hr
 cases hr
 refine upon_skip (w' := w.setCell ⟨b, o', none⟩ v) ?_ ⟨undef, h, L', ⟨rfl, rfl, rfl⟩, rfl, ?_⟩
 ·simp only [execOp, ho, e1, e2]
  rw [Sem.run_bind, run_st1 hg (by omega) h1 hc hs]; rfl
 ·refine hm.swap p rfl (fun c hc => .inl (by cases hc; rfl)) ?_ rfl rfl rfl (by simp) (Nat.le_refl _) (fun k _ hk => Below.heap_setCell w _ v k hk)
  refine ⟨by simpa using hl, .inr ⟨b, c, _, rfl, hb0, setCell_heap hg v, hnc, hcm, by simp [hsz], ?_⟩⟩
  rw [Array.toList_setIfInBounds, List.take_set, htk]

/-! ### calls -/
/-- What a call does that writes nothing that was there: out of memory that is read comes a value and more memory that is read. -/
def Fn (P : Program) (f : FuncId) (args : Array Value) (h : H) (R : Value → H → Prop) : Prop :=
 ∀ w, (∀ b o, h b = some o → w.heap[b]? = some o) → Calls P f args w fun e w' => ∃ v h', e = .returned v ∧ R v h' ∧ (∀ b o, h' b = some o → w'.heap[b]? = some o) ∧ (∀ b, b < w.heap.size → h' b = h b) ∧ Kp w [] w'
theorem Fn.mono {P : Program} {f : FuncId} {args : Array Value} {h : H} {R R' : Value → H → Prop} (hf : Fn P f args h R) (hr : ∀ v h', (∀ b o, h b = some o → h' b = some o) → R v h' → R' v h') : Fn P f args h R' :=
 fun w hw => (hf w hw).mono fun _ _ ⟨v, h', he, hR, h1, h2, h3⟩ => ⟨v, h', he, hr v h' (fun b o hb => by rw [h2 b (Array.getElem?_eq_some_iff.1 (hw b o hb)).1]; exact hb) hR, h1, h2, h3⟩
theorem Mem.call {w w' : World} {h' : H} (m : Mem C h L w) (h1 : ∀ b o, h' b = some o → w'.heap[b]? = some o) (h2 : ∀ b, b < w.heap.size → h' b = h b) (h3 : Kp w [] w') : Mem C h' L w' := by
 have hlt : ∀ k o', w.heap[k]? = some o' → k < w.heap.size := fun k o' hb => (Array.getElem?_eq_some_iff.1 hb).1
 have hk : ∀ k, k < w.heap.size → w'.heap[k]? = w.heap[k]? := fun k hk => h3.block k hk (by simp)
 refine ⟨⟨h1, fun x hx => ?_, fun x hx b hb => ?_, m.sat.nd⟩, m.new, fun b hb => ?_, ⟨h3.os.trans m.kp.os, h3.tape.trans m.kp.tape, h3.output.trans m.kp.output, Nat.le_trans m.kp.size h3.size, Nat.le_trans m.kp.drawn h3.drawn, fun b hb hI => ?_⟩⟩
 ·have h4 := m.sat.own x hx
  cases x with
  | obj b o' => show w'.heap[b]? = some o'; rw [hk b (hlt _ _ h4)]; exact h4
  | row v e sz n xs =>
   obtain ⟨h5, h6⟩ := h4
   refine ⟨h5, ?_⟩
   rcases h6 with h6 | ⟨g, cap, cur, e1, hb0, hg, r⟩
   ·exact .inl h6
   ·exact .inr ⟨g, cap, cur, e1, hb0, by rw [hk g (hlt _ _ hg)]; exact hg, r⟩
 ·have hbl : b < w.heap.size := by
   have h4 := m.sat.own x hx
   cases x with
   | obj b' o' => cases hb; exact hlt _ _ h4
   | row v e sz n xs =>
    rcases h4.2 with ⟨e1, _⟩ | ⟨g, cap, cur, e1, _, hg, _⟩
    ·rw [e1] at hb; cases hb
    ·rw [e1] at hb; cases hb; exact hlt _ _ hg
  rw [h2 b hbl]; exact m.sat.off x hx b hb
 ·rw [h2 b (Nat.lt_of_lt_of_le hb m.kp.size)]; exact m.old b hb
 ·rw [hk b (Nat.lt_of_lt_of_le hb m.kp.size)]; exact m.kp.block b hb hI
theorem h_call {f : FuncId} {args : Array Operand} {ts : Array TypeId} {vs : List Value} {R : Value → H → Prop} (ho : o.op = .call { callee := .value (.func f), args := args, argTypes := ts }) (hx : args.toList.map (evF F) = vs.map some)
 (hen : ∀ args w, (callFunc f args).run C.P w = .ok (.enter f args) w) (hf : Fn C.P f vs.toArray h R) : HardW C o F h L (fun v h' L' => R v h' ∧ (∀ b o, h b = some o → h' b = some o) ∧ L' = L) := fun a w ha _ _ hm => by
 have hargs : args.map a.eval = vs.toArray := by
  apply Array.ext'
  rw [Array.toList_map]
  apply List.ext_getElem?
  intro j
  have h3 := congrArg (fun l => l[j]?) hx
  simp only [List.getElem?_map] at h3 ⊢
  cases hp : args.toList[j]? with
  | none => rw [hp] at h3; cases hv : vs[j]? with
   | none => rfl
   | some v => rw [hv] at h3; simp at h3
  | some p => rw [hp] at h3; cases hv : vs[j]? with
   | none => rw [hv] at h3; simp at h3
   | some v =>
    rw [hv] at h3
    simp only [Option.map_some, Option.some.injEq] at h3 ⊢
    exact ha p (by
     rw [ho]
     simp only [Op.operands, Call.operands, Array.toList_append, List.mem_append]
     exact .inr (List.mem_of_getElem? hp)) v h3
 unfold Oper.wp
 have hr : (execOp a.eval o).run C.P w = .ok (.enter f vs.toArray) w := by
  simp only [execOp, ho, resolve, hargs]
  simp [Act.eval, Deferred.ofValue, invoke, hen]
 rw [hr]
 refine Calls.mono (hf w hm.sat.imm) fun e w' ⟨v, h', he, hR, h1, h2, h3⟩ => ?_
 subst he
 exact ⟨v, h', L, ⟨hR, fun b o hb => by rw [h2 b (Array.getElem?_eq_some_iff.1 (hm.sat.imm b o hb)).1]; exact hb, rfl⟩, rfl, hm.call h1 h2 h3⟩
end

/-! ### a function -/
def ctx (P : Program) (w : World) (h : H) (n : Nat) : Ctx := { P := P, w0 := w, h0 := h, I := [], n := n, G := RoOk }
/-- The results, as they stand at the end. -/
def ResOk (P : Program) (fn : Func) (s : S) (v : Value) : Prop := ∀ (a : Act) (w : World), (∀ t v, s.F.lookup t = some v → a.tmps[t]? = some v) → Sat s.h s.L w → (results fn a.tmps).run P w = .ok v w
/-- How a call ends. -/
def Fin (P : Program) (fn : Func) (R : Value → H → Prop) (e : Exit) (s : S) : Prop := (e = .normal ∨ e = .ret) ∧ ∃ v, ResOk P fn s v ∧ R v s.h
theorem fin_ret {P : Program} {fn : Func} {R : Value → H → Prop} {s : S} {v : Value} (hv : ResOk P fn s v) (hR : R v s.h) : Fin P fn R .ret s := ⟨.inr rfl, v, hv, hR⟩
theorem fin_end {P : Program} {fn : Func} {R : Value → H → Prop} {s : S} {v : Value} (hv : ResOk P fn s v) (hR : R v s.h) : Fin P fn R .normal s := ⟨.inl rfl, v, hv, hR⟩
theorem res_tmp {P : Program} {fn : Func} {s : S} {t : Nat} {v : Value} (h : fn.results = #[.tmp t]) (hv : s.F.lookup t = some v) : ResOk P fn s v := fun a w hs _ => by
 rw [results_tmp h]
 have := hs t v hv
 simp [this]
theorem res_cella {P : Program} {fn : Func} {s : S} {t n b : Nat} {e : TypeId} {vs : List Value} (h : fn.results = #[.cell t e]) (hv : s.F.lookup t = some (.pointer (some ⟨b, 0, none⟩))) (hg : ∀ w, (isAgg e).run P w = .ok true w) (hs : ∀ w, (sizeOf e).run P w = .ok n w) (hn : vs.length = n)
 (hc : ∀ j v, vs[j]? = some v → Cell s.h s.L b (0 + j) v) : ResOk P fn s (.agg vs.toArray) := fun a w hsl hsat => by
 have h1 := hsl t _ hv
 have := run_cells (P := P) (w := w) (b := b) (o' := 0) (vs := vs) (fun j v hj => (hc j v hj).at_ hsat) n 0 #[] (by simp) (by omega)
 have ha : (asAddr (.pointer (some ⟨b, 0, none⟩))).run P w = .ok ⟨b, 0, none⟩ w := rfl
 simp [results, h, h1, ha, loadVar, hg w, hs w, loadCells, this]
def argsF : Nat → List Value → List (Nat × Value)
 | _, [] => []
 | i, v :: r => (i, v) :: argsF (i + 1) r
theorem argsF_lookup : ∀ (i : Nat) (vs : List Value) (t : Nat) (v : Value), (argsF i vs).lookup t = some v → ∃ j, t = i + j ∧ vs[j]? = some v
 | i, [], t, v, h => by simp [argsF] at h
 | i, u :: r, t, v, h => by
  simp only [argsF, lookup_cons'] at h
  split at h
  ·rename_i e; cases h; exact ⟨0, by omega, rfl⟩
  ·obtain ⟨j, h1, h2⟩ := argsF_lookup (i + 1) r t v h
   exact ⟨j + 1, by omega, h2⟩
theorem Mem.unshut {C : Ctx} {h : H} {L L1 : List Own} {D : Nat} {w : World} (m : Mem C h (L ++ shut D :: L1) w) : Mem C h (L ++ L1) (w.putObj D (.deferred none)) := by
 have m1 : Mem C h (shut D :: (L ++ L1)) w := m.perm List.perm_middle
 have hb : w.heap[D]? = some (.deferred (some [])) := m1.sat.own _ List.mem_cons_self
 have hlt := (Array.getElem?_eq_some_iff.1 hb).1
 have m2 : Mem C h (.obj D (.deferred none) :: (L ++ L1)) (w.putObj D (.deferred none)) := m1.change (b := D) rfl (fun c hc => .inl (by cases hc; rfl)) (World.putObj_heap_same hlt) rfl rfl rfl (by simp [World.putObj]) (Nat.le_refl _) (fun k _ hk => World.putObj_heap_other hk)
 exact ⟨⟨m2.sat.imm, fun x hx => m2.sat.own x (List.mem_cons_of_mem _ hx), fun x hx => m2.sat.off x (List.mem_cons_of_mem _ hx), (List.pairwise_cons.1 m2.sat.nd).2⟩, fun x hx => m2.new x (List.mem_cons_of_mem _ hx), m2.old, m2.kp⟩
theorem leaves_marks {P : Program} {C : Ctx} {h : H} {L : List Own} {fn : Func} {tmps : Array Value} {R : Ending → World → Prop} {n : Nat} (hR : ∀ w, Mem C h L w → ∃ v, (results fn tmps).run P w = .ok v w ∧ R (.returned v) w) : ∀ (Ds : List Nat) (w : World), Mem C h (L ++ Ds.map shut) w → LeavesInM Fence.wide n P fn tmps R (Ds.map mark) .returning w
 | [], w, m => by
  simp only [List.map_nil, List.append_nil] at m
  exact hR w m
 | D :: Ds, w, m => by
  have hb : w.heap[D]? = some (.deferred (some [])) := m.sat.own (shut D) (by simp)
  exact ⟨by simp, .inl ⟨D, _, rfl, run_takeDeferred hb, leaves_marks hR Ds _ m.unshut⟩⟩
theorem fn_of {P : Program} {f : FuncId} {fn : Func} {c : Code} {vs : List Value} {h : H} {R : Value → H → Prop} {n : Nat} (hf : P.funcs[f]? = some fn) (hb : fn.body = some c) (hn : fn.ntmps = n) (hl : vs.length ≤ n)
 (hwp : ∀ w, (∀ b o, h b = some o → w.heap[b]? = some o) → WP (ctx P w h n) c (Fin P fn R) ⟨argsF 0 vs, h, []⟩) : Fn P f vs.toArray h R := by
 intro w hw
 refine callsIn_wide.1 (callsIn_of_wp_marks (F := Fence.wide) (n := 0) hf hb trivial ?_)
 have hst : St (ctx P w h n) [] ⟨argsF 0 vs, h, []⟩ { tmps := vs.toArray ++ Array.replicate (fn.ntmps - vs.toArray.size) undef, defers := [] } w := by
  refine ⟨[], ⟨⟨by simp [ctx, hn]; omega, fun t v ht => ?_⟩, rfl⟩, ⟨⟨hw, by simp, by simp, List.Pairwise.nil⟩, by simp, fun _ _ => rfl, ⟨rfl, rfl, rfl, Nat.le_refl _, Nat.le_refl _, fun _ _ _ => rfl⟩⟩⟩
  obtain ⟨j, h1, h2⟩ := argsF_lookup 0 vs t v ht
  have hj : j < vs.length := (List.getElem?_eq_some_iff.1 h2).1
  obtain rfl : t = j := by omega
  rw [Array.getElem?_append_left (by simpa using hj)]
  simpa using h2
 refine Go.wpIn_mono (hwp w hw none 0 [] (fun _ hc => by cases hc) _ _ hst) fun e a' w' ⟨s', ⟨Ds, ⟨hf', hdf⟩, hm⟩, he, v, hv, hR⟩ => ?_
 rw [List.append_nil] at hm
 have fin : LeavesInM Fence.wide 0 P fn a'.tmps (fun e w' => ∃ v h', e = Ending.returned v ∧ R v h' ∧ (∀ b o, h' b = some o → w'.heap[b]? = some o) ∧ (∀ b, b < w.heap.size → h' b = h b) ∧ Kp w [] w') a'.defers .returning w' := by
  rw [hdf]
  exact leaves_marks (C := ctx P w h n) (h := s'.h) (L := s'.L) (fun w'' m => ⟨v, hv a' w'' hf'.slots m.sat, v, s'.h, rfl, hR, m.sat.imm, m.old, m.kp⟩) Ds w' hm
 rcases he with rfl | rfl
 ·exact fin
 ·exact fin
attribute [irreducible] Fin
theorem Pick.append {X : Own} {L L' : List Own} (p : Pick X L L') (M : List Own) : Pick X (L ++ M) (L' ++ M) := by
 induction p with
 | here => exact .here
 | there p ih => exact .there ih
theorem Swap.append {X Y : Own} {L L' : List Own} (p : Swap X Y L L') (M : List Own) : Swap X Y (L ++ M) (L' ++ M) := by
 induction p with
 | here => exact .here
 | there p ih => exact .there ih
section
variable {C : Ctx} {o : Oper} {F : List (Nat × Value)} {h : H} {L L' : List Own}
theorem frm_new {f : Nat → Own} {g : Nat → Value} (hs : ∀ M, HardW C o F h (L ++ M) (OutNew h (L ++ M) f g)) : HardOk C o F h L (OutNew h L f g) :=
 fun M => (hs M).imp fun _ _ _ ⟨b, e1, e2, e3⟩ => ⟨f b :: L, ⟨b, e1, e2, rfl⟩, e3⟩
theorem frm_st (hs : ∀ M, HardW C o F h (L ++ M) (fun v' h' L'' => v' = undef ∧ h' = h ∧ L'' = L' ++ M)) : HardOk C o F h L (fun v' h' L'' => v' = undef ∧ h' = h ∧ L'' = L') :=
 fun M => (hs M).imp fun _ _ _ ⟨e1, e2, e3⟩ => ⟨L', ⟨e1, e2, rfl⟩, e3⟩
theorem frm_call {R Z : Value → H → Prop} (hs : ∀ M, HardW C o F h (L ++ M) (fun v h' L'' => R v h' ∧ Z v h' ∧ L'' = L ++ M)) : HardOk C o F h L (fun v h' L'' => R v h' ∧ Z v h' ∧ L'' = L) :=
 fun M => (hs M).imp fun _ _ _ ⟨e1, e2, e3⟩ => ⟨L, ⟨e1, e2, rfl⟩, e3⟩
end
end Go.Tal

/-
 Symbolic states: a region in which several operations that make or write memory may come in either order: each of their orders is run.
-/
namespace Go.Tal
open Go.RowKit
def hardB (ops : Array Oper) (i : Nat) : Bool := match ops[i]? with
 | some o => decide (2 ≤ cls o)
 | none => true
/-- j before i: a soft one may come behind it, or i waits for it; two hard ones: nothing is asked. -/
def before2 (ops : Array Oper) (B : List Nat) (j i : Nat) : Bool :=
 match ops[j]?, ops[i]? with
 | some x, some y => (okPair ops x y || (B.getD i 0).testBit j || (decide (2 ≤ cls x) && decide (2 ≤ cls y))) && !(edges x).contains i
 | _, _ => false
def ordOk2 (ops : Array Oper) (B : List Nat) : List Nat → Bool
 | [] => true
 | j :: r => r.all (fun i => before2 ops B j i || (hardB ops j && r.any fun k => hardB ops k && (B.getD i 0).testBit k)) && ordOk2 ops B r
def inserts (x : Nat) : List Nat → List (List Nat)
 | [] => [[x]]
 | y :: ys => (x :: y :: ys) :: (inserts x ys).map (y :: ·)
def perms : List Nat → List (List Nat)
 | [] => [[]]
 | x :: xs => (perms xs).flatMap (inserts x)
def waits (B : List Nat) : List Nat → Bool
 | [] => true
 | j :: r => r.all (fun i => !(B.getD j 0).testBit i) && waits B r
def drawsOk (ops : Array Oper) (ords : List (List Nat)) : Bool :=
 let B := bitsOf ops
 bitsOk ops B && ords.all (fun l => ordOk2 ops B l && decide (l.length = ops.size) && (List.range ops.size).all fun i => l.contains i) &&
 (perms ((List.range ops.size).filter (hardB ops))).all fun p => !waits B p || ords.any fun l => l.filter (hardB ops) == p

theorem mem_inserts (x : Nat) : ∀ (p q : List Nat), p ++ x :: q ∈ inserts x (p ++ q)
 | [], [] => by simp [inserts]
 | [], y :: q => by simp [inserts]
 | y :: p, q => by
  simp only [List.cons_append, inserts, List.mem_cons, List.mem_map]
  exact .inr ⟨_, mem_inserts x p q, rfl⟩
theorem mem_perms : ∀ {l l' : List Nat}, l.Perm l' → l' ∈ perms l
 | [], l', h => by simp [perms, List.nil_perm.1 h]
 | x :: xs, l', h => by
  obtain ⟨p, q, rfl⟩ := List.append_of_mem (h.subset List.mem_cons_self)
  have h1 : xs.Perm (p ++ q) := List.Perm.cons_inv (h.trans List.perm_middle)
  exact List.mem_flatMap.2 ⟨_, mem_perms h1, mem_inserts x p q⟩
theorem waits_of {B : List Nat} : ∀ {l : List Nat}, l.Pairwise (fun j i => (B.getD j 0).testBit i = false) → waits B l = true
 | [], _ => rfl
 | j :: r, h => by
  have h' := List.pairwise_cons.1 h
  simp only [waits, Bool.and_eq_true, List.all_eq_true]
  exact ⟨fun i hi => by rw [h'.1 i hi]; rfl, waits_of h'.2⟩

/-- What is listed, and what is left (as a set). -/
structure Rest (ops : Array Oper) (l : List Nat) (listed : Array Bool) : Prop where
 size : listed.size = ops.size
 mem : ∀ i, i < ops.size → (listed.getD i true = false ↔ i ∈ l)
 lt : ∀ i ∈ l, i < ops.size
 nd : l.Nodup
 closed : ∀ k o, ops[k]? = some o → k ∉ l → ∀ e ∈ edges o, e ∉ l
theorem Rest.no_bit {ops : Array Oper} {B : List Nat} (hB : bitsOk ops B = true) {l : List Nat} {listed : Array Bool} (L : Rest ops l listed) : ∀ (n i : Nat), i ≤ n → ∀ o, ops[i]? = some o → (∀ e ∈ edges o, e ∉ l) → ∀ j, j < ops.size → (B.getD i 0).testBit j = true → j ∉ l := by
 intro n
 induction n with
 | zero =>
  intro i hi o ho he j hj hb
  have hil : i < ops.size := (Array.getElem?_eq_some_iff.1 ho).1
  have h1 := List.all_eq_true.1 hB i (List.mem_range.2 hil)
  rw [ho] at h1
  simp only [Bool.and_eq_true, List.all_eq_true] at h1
  have h2 := h1.2 j (List.mem_range.2 hj)
  rw [hb] at h2
  simp only [Bool.not_true, Bool.false_or, List.any_eq_true] at h2
  obtain ⟨e, hee, _⟩ := h2
  have := h1.1 e hee
  simp at this
  omega
 | succ n ih =>
  intro i hi o ho he j hj hb
  have hil : i < ops.size := (Array.getElem?_eq_some_iff.1 ho).1
  have h1 := List.all_eq_true.1 hB i (List.mem_range.2 hil)
  rw [ho] at h1
  simp only [Bool.and_eq_true, List.all_eq_true] at h1
  have h2 := h1.2 j (List.mem_range.2 hj)
  rw [hb] at h2
  simp only [Bool.not_true, Bool.false_or, List.any_eq_true] at h2
  obtain ⟨e, hee, h3⟩ := h2
  have h4 := h1.1 e hee
  simp only [decide_eq_true_eq] at h4
  simp only [Bool.or_eq_true, beq_iff_eq] at h3
  rcases h3 with rfl | h3
  ·exact he _ hee
  ·have hel : e < ops.size := by omega
   exact ih e (by omega) _ (Array.getElem?_eq_getElem hel) (L.closed e _ (Array.getElem?_eq_getElem hel) (he e hee)) j hj h3
theorem edge_lt {ops : Array Oper} {B : List Nat} (hB : bitsOk ops B = true) {j : Nat} {o : Oper} (ho : ops[j]? = some o) {e : Nat} (he : e ∈ edges o) : e < j := by
 have hj : j < ops.size := (Array.getElem?_eq_some_iff.1 ho).1
 have h1 := List.all_eq_true.1 hB j (List.mem_range.2 hj)
 rw [ho] at h1
 simp only [Bool.and_eq_true, List.all_eq_true] at h1
 have := h1.1 e he
 simpa using this
theorem Rest.ready {ops : Array Oper} {B : List Nat} (hB : bitsOk ops B = true) {l : List Nat} {listed : Array Bool} (L : Rest ops l listed) (hne : l ≠ []) : Region.ready .any ops listed ≠ [] := by
 -- the least number left waits for nothing
 have key : ∀ n, ∀ j ∈ l, j ≤ n → ∃ k ∈ l, ∀ i ∈ l, k ≤ i := by
  intro n
  induction n with
  | zero => intro j hj h0; exact ⟨j, hj, fun i _ => by omega⟩
  | succ n ih =>
   intro j hj hjn
   by_cases h : ∃ i ∈ l, i < j
   ·obtain ⟨i, hi, hij⟩ := h
    exact ih i hi (by omega)
   ·exact ⟨j, hj, fun i hi => Nat.le_of_not_lt fun h' => h ⟨i, hi, h'⟩⟩
 obtain ⟨j0, hj0⟩ := List.exists_mem_of_ne_nil l hne
 obtain ⟨k, hk, hmin⟩ := key j0 j0 hj0 (Nat.le_refl _)
 have hkl := L.lt k hk
 have : k ∈ Region.ready .any ops listed := by
  refine ready_mem (Array.getElem?_eq_getElem hkl) ((L.mem k hkl).2 hk) fun e he => ?_
  have hek := edge_lt hB (Array.getElem?_eq_getElem hkl) he
  have hel : e < ops.size := by omega
  have h4 : listed.getD e true ≠ false := fun h5 => by have := hmin e ((L.mem e hel).1 h5); omega
  rw [getD_other false true (by rw [L.size]; exact hel)]
  simpa using h4
 intro h
 rw [h] at this
 cases this
theorem Rest.step {ops : Array Oper} {p q : List Nat} {i : Nat} {listed : Array Bool} (L : Rest ops (p ++ i :: q) listed) {o : Oper} (ho : ops[i]? = some o) (hedge : ∀ e ∈ edges o, e ∉ p ++ i :: q) : Rest ops (p ++ q) (listed.setIfInBounds i true) := by
 have hsub : (p ++ q).Sublist (p ++ i :: q) := (List.Sublist.refl p).append (List.sublist_cons_self i q)
 have hnd := L.nd
 rw [List.nodup_append] at hnd
 have hnot : i ∉ p ++ q := fun hm => by
  rcases List.mem_append.1 hm with hm | hm
  ·exact hnd.2.2 i hm i List.mem_cons_self rfl
  ·exact (List.nodup_cons.1 hnd.2.1).1 hm
 refine ⟨by simp [L.size], fun k hk => ?_, fun k hk => L.lt k (hsub.subset hk), L.nd.sublist hsub, fun k x hx hk e he hm => ?_⟩
 ·by_cases hki : k = i
  ·subst hki
   have : (listed.setIfInBounds k true).getD k true = true := by simp [Array.getD, L.size, hk]
   rw [this]
   exact ⟨fun h => (by cases h), fun h => absurd h hnot⟩
  ·have : (listed.setIfInBounds i true).getD k true = listed.getD k true := by
    simp [Array.getD, L.size, hk, Ne.symm hki]
   rw [this, L.mem k hk]
   simp [hki]
 ·by_cases hki : k = i
  ·subst hki
   rw [ho] at hx
   cases hx
   exact hedge e he (hsub.subset hm)
  ·exact L.closed k x hx (fun h => hk (by simp [hki] at h ⊢; exact h)) e he (hsub.subset hm)
theorem Rest.at_ {ops : Array Oper} {l : List Nat} {listed : Array Bool} (L : Rest ops l listed) {i : Nat} (hi : i ∈ Region.ready .any ops listed) : ∃ o p q, ops[i]? = some o ∧ l = p ++ i :: q ∧ ∀ e ∈ edges o, e ∉ l := by
 obtain ⟨o, ho, h1, h2⟩ := mem_ready hi
 have hil : i < ops.size := (Array.getElem?_eq_some_iff.1 ho).1
 obtain ⟨p, q, e⟩ := List.append_of_mem ((L.mem i hil).1 h1)
 refine ⟨o, p, q, ho, e, fun e he hm => ?_⟩
 have hlt := L.lt e hm
 have h3 := (L.mem e hlt).2 hm
 rw [getD_other true false (by rw [L.size]; exact hlt), h2 e he] at h3
 cases h3
/-- What a drawn order is like. -/
theorem lin_props {ops : Array Oper} {B : List Nat} (hB : bitsOk ops B = true) : ∀ (n t : Nat) (l : List Nat) (listed : Array Bool), l.length = n → Rest ops l listed →
 (Region.linearise.go .any ops n t listed []).Perm l ∧ (Region.linearise.go .any ops n t listed []).Pairwise fun j i => (B.getD j 0).testBit i = false := by
 intro n
 induction n with
 | zero =>
  intro t l listed hl L
  obtain rfl : l = [] := List.eq_nil_of_length_eq_zero hl
  simp [Region.linearise.go]
 | succ n ih =>
  intro t l listed hl L
  have hne := L.ready hB (by intro h; simp [h] at hl)
  simp only [Region.linearise.go]
  change (match (Region.ready .any ops listed)[t % (Region.ready .any ops listed).length]? with
   | some i => Region.linearise.go .any ops n (t / (Region.ready .any ops listed).length) (listed.setIfInBounds i true) [i]
   | none => [].reverse).Perm l ∧ (match (Region.ready .any ops listed)[t % (Region.ready .any ops listed).length]? with
   | some i => Region.linearise.go .any ops n (t / (Region.ready .any ops listed).length) (listed.setIfInBounds i true) [i]
   | none => [].reverse).Pairwise _
  have hpos : 0 < (Region.ready .any ops listed).length := List.length_pos_iff.2 hne
  have hlt := Nat.mod_lt t hpos
  rw [List.getElem?_eq_getElem hlt]
  simp only []
  rw [linearise_go_acc, List.reverse_singleton, List.singleton_append]
  obtain ⟨o, p, q, ho, rfl, hedge⟩ := L.at_ (List.getElem_mem hlt)
  obtain ⟨h1, h2⟩ := ih (t / (Region.ready .any ops listed).length) (p ++ q) _ (by simp at hl ⊢; omega) (L.step ho hedge)
  refine ⟨(List.Perm.cons _ h1).trans List.perm_middle.symm, List.pairwise_cons.2 ⟨fun i hi => ?_, h2⟩⟩
  have him : i ∈ p ++ q := h1.mem_iff.1 hi
  have hil := L.lt i (((List.Sublist.refl p).append (List.sublist_cons_self _ q)).subset him)
  cases hb : (B.getD _ 0).testBit i with
  | false => rfl
  | true => exact absurd (((List.Sublist.refl p).append (List.sublist_cons_self _ q)).subset him) (L.no_bit hB _ _ (Nat.le_refl _) o ho hedge i hil hb)
/-- What is asked of an order. -/
def OrdP (ops : Array Oper) (B : List Nat) : List Nat → Prop
 | [] => True
 | j :: r => (∀ i ∈ r, before2 ops B j i = true ∨ (hardB ops j = true ∧ ∃ k ∈ r, hardB ops k = true ∧ (B.getD i 0).testBit k = true)) ∧ OrdP ops B r
theorem ordOk2_pair {ops : Array Oper} {B : List Nat} : ∀ {l : List Nat}, ordOk2 ops B l = true → OrdP ops B l
 | [], _ => trivial
 | j :: r, h => by
  simp only [ordOk2, Bool.and_eq_true, List.all_eq_true, Bool.or_eq_true, List.any_eq_true] at h
  exact ⟨h.1, ordOk2_pair h.2⟩
theorem OrdP.mem {ops : Array Oper} {B : List Nat} {i : Nat} {q : List Nat} : ∀ {p : List Nat}, OrdP ops B (p ++ i :: q) → ∀ j ∈ p, before2 ops B j i = true ∨ ∃ k ∈ p ++ i :: q, (B.getD i 0).testBit k = true
 | [], _, j, hj => by cases hj
 | x :: p, h, j, hj => by
  rcases List.mem_cons.1 hj with rfl | hj
  ·rcases h.1 i (by simp) with h1 | ⟨_, k, hk, _, h2⟩
   ·exact .inl h1
   ·exact .inr ⟨k, List.mem_cons_of_mem _ hk, h2⟩
  ·rcases OrdP.mem h.2 j hj with h1 | ⟨k, hk, h2⟩
   ·exact .inl h1
   ·exact .inr ⟨k, List.mem_cons_of_mem _ hk, h2⟩
theorem OrdP.del {ops : Array Oper} {B : List Nat} {i : Nat} {q : List Nat} : ∀ {p : List Nat}, OrdP ops B (p ++ i :: q) → (∀ j ∈ p, hardB ops j = true → hardB ops i = true → False) → OrdP ops B (p ++ q)
 | [], h, _ => h.2
 | x :: p, h, hh => by
  refine ⟨fun y hy => ?_, OrdP.del h.2 fun j hj => hh j (List.mem_cons_of_mem _ hj)⟩
  have hy' : y ∈ p ++ i :: q := ((List.Sublist.refl p).append (List.sublist_cons_self i q)).subset hy
  rcases h.1 y hy' with h1 | ⟨h1, k, hk, h2, h3⟩
  ·exact .inl h1
  ·refine .inr ⟨h1, k, ?_, h2, h3⟩
   rcases List.mem_append.1 hk with hk | hk
   ·exact List.mem_append_left _ hk
   ·rcases List.mem_cons.1 hk with rfl | hk
    ·exact (hh x List.mem_cons_self h1 h2).elim
    ·exact List.mem_append_right _ hk
/-- A drawn order out of the run of an order with the same order of what is hard. -/
theorem Run.lin {M : List Own} {ro : Option Nat} {m : Nat} {C : Ctx} {ops : Array Oper} {K : S → Prop} {Q : Exit → Act → World → Prop} (hK : ∀ s a w, St C M s a w → K s → Q .normal a w) {B : List Nat} (hB : bitsOk ops B = true) : ∀ (n t : Nat) (l : List Nat) (listed : Array Bool) {s : S} {a : Act} {w : World}, l.length = n → Rest ops l listed →
 OrdP ops B l → (Region.linearise.go .any ops n t listed []).filter (hardB ops) = l.filter (hardB ops) → Run true C ops K l s → St C M s a w → wpOpsIn (wr ro) m C.P ops Q (Region.linearise.go .any ops n t listed []) a w := by
 intro n
 induction n with
 | zero =>
  intro t l listed s a w hl L _ _ hr hs
  obtain rfl : l = [] := List.eq_nil_of_length_eq_zero hl
  obtain ⟨F, he, hk⟩ := hr
  exact hK (⟨F, s.h, s.L⟩ : S) a w (hs.eqF he) hk
 | succ n ih =>
  intro t l listed s a w hl L hpw heq hr hs
  have hne := L.ready hB (by intro h; simp [h] at hl)
  have hpos : 0 < (Region.ready .any ops listed).length := List.length_pos_iff.2 hne
  have hlt := Nat.mod_lt t hpos
  obtain ⟨i, hi⟩ : ∃ i, (Region.ready .any ops listed)[t % (Region.ready .any ops listed).length] = i := ⟨_, rfl⟩
  have hgo : Region.linearise.go .any ops (n + 1) t listed [] = i :: Region.linearise.go .any ops n (t / (Region.ready .any ops listed).length) (listed.setIfInBounds i true) [] := by
   simp only [Region.linearise.go]
   change (match (Region.ready .any ops listed)[t % (Region.ready .any ops listed).length]? with
    | some i => Region.linearise.go .any ops n (t / (Region.ready .any ops listed).length) (listed.setIfInBounds i true) [i]
    | none => [].reverse) = _
   rw [List.getElem?_eq_getElem hlt, hi]
   simp only []
   rw [linearise_go_acc, List.reverse_singleton, List.singleton_append]
  rw [hgo] at heq ⊢
  rw [wpOpsIn_cons]
  obtain ⟨o, p, q, ho, rfl, hedge⟩ := L.at_ (i := i) (by rw [← hi]; exact List.getElem_mem hlt)
  have hhard : ∀ j ∈ p, hardB ops j = true → hardB ops i = true → False := by
   intro j hj h1 h2
   have hnd := L.nd
   rw [List.nodup_append] at hnd
   rw [List.filter_cons, if_pos h2, List.filter_append] at heq
   cases hp : p.filter (hardB ops) with
   | nil => have : j ∈ p.filter (hardB ops) := List.mem_filter.2 ⟨hj, h1⟩; rw [hp] at this; cases this
   | cons x xs =>
    rw [hp] at heq
    simp only [List.cons_append, List.cons.injEq] at heq
    have hx : x ∈ p := (List.mem_filter.1 (by rw [hp]; exact List.mem_cons_self)).1
    exact hnd.2.2 x hx i List.mem_cons_self heq.1.symm
  have hp : ∀ j ∈ p, ∃ x, ops[j]? = some x ∧ okPair ops x o = true := fun j hj => by
   have hjl := L.lt j (List.mem_append_left _ hj)
   have h3 : before2 ops B j i = true := by
    rcases hpw.mem j hj with h3 | ⟨k, hk, h3⟩
    ·exact h3
    ·exact (L.no_bit hB i i (Nat.le_refl _) o ho hedge k (L.lt k hk) h3).elim hk
   unfold before2 at h3
   rw [Array.getElem?_eq_getElem hjl, ho] at h3
   simp only [Bool.and_eq_true, Bool.or_eq_true] at h3
   refine ⟨_, Array.getElem?_eq_getElem hjl, ?_⟩
   rcases h3.1 with (h4 | h4) | h4
   ·exact h4
   ·exact absurd (List.mem_append_left _ hj) (L.no_bit hB i i (Nat.le_refl _) o ho hedge j hjl h4)
   ·exact (hhard j hj (by unfold hardB; rw [Array.getElem?_eq_getElem hjl]; exact h4.1) (by unfold hardB; rw [ho]; exact h4.2)).elim
  obtain ⟨o', ho', hn⟩ := Run.front ho p q hp hr
  rw [ho] at ho'
  cases ho'
  have hsub : (p ++ q).Sublist (p ++ i :: q) := (List.Sublist.refl p).append (List.sublist_cons_self i q)
  refine wpOpIn_mono (fun a' w' ⟨s', hs', hr'⟩ => ih _ (p ++ q) _ (by simp at hl ⊢; omega) (L.step ho hedge) (hpw.del hhard) ?_ hr' hs') (hn.step ho hs)
  rw [List.filter_cons, List.filter_append, List.filter_cons] at heq
  rw [List.filter_append]
  by_cases h2 : hardB ops i = true
  ·rw [if_pos h2, if_pos h2] at heq
   have : p.filter (hardB ops) = [] := List.filter_eq_nil_iff.2 fun j hj h1 => hhard j hj h1 h2
   rw [this] at heq ⊢
   simpa using heq
  ·rw [if_neg h2, if_neg h2] at heq
   exact heq
theorem wp_anys {C : Ctx} {id : Nat} {ops : Array Oper} {Q : Exit → S → Prop} {s : S} (ords : List (List Nat)) (hm : C.P.follows .mixedOrders = true) (hc : drawsOk ops ords = true) (hr : ∀ l ∈ ords, Run true C ops (Q .normal) l s) : WP C (.region id ops true) Q s := by
 intro ro m M hG a w hs
 simp only [drawsOk, Bool.and_eq_true, decide_eq_true_eq, List.all_eq_true] at hc
 obtain ⟨⟨hB, hords⟩, hcov⟩ := hc
 refine wpIn_region_draw fun t => ?_
 simp only [Region.schedule, hm, Bool.true_or, if_true]
 have hall : ∀ i, i < ops.size → (Array.replicate ops.size false).getD i true = false := fun i hi => by simp [Array.getD, hi]
 have R0 : Rest ops (List.range ops.size) (Array.replicate ops.size false) := ⟨by simp, fun i hi => by simp [hall i hi, hi], fun i hi => List.mem_range.1 hi, List.nodup_range, fun k o hk hn => absurd (List.mem_range.2 (Array.getElem?_eq_some_iff.1 hk).1) hn⟩
 obtain ⟨hp1, hp2⟩ := lin_props hB ops.size t (List.range ops.size) _ (by simp) R0
 have hpf := hp1.filter (hardB ops)
 have hmem := hcov _ (mem_perms hpf.symm)
 rw [waits_of (hp2.filter _)] at hmem
 simp only [Bool.not_true, Bool.false_or, List.any_eq_true, beq_iff_eq] at hmem
 obtain ⟨l, hl, heq⟩ := hmem
 obtain ⟨⟨ho, hlen⟩, hin⟩ := hords l hl
 have hin' : ∀ i, i < ops.size → i ∈ l := fun i hi => by simpa using hin i (List.mem_range.2 hi)
 have hnd : (List.range ops.size).Nodup := List.nodup_range
 have hlt : ∀ i ∈ l, i < ops.size := by
  intro i hi
  refine Classical.byContradiction fun hn => ?_
  obtain ⟨p, q, rfl⟩ := List.append_of_mem hi
  have := sub_len hnd (ys := p ++ q) (fun x hx => by
   have h1 := hin' x (List.mem_range.1 hx)
   simp only [List.mem_append, List.mem_cons] at h1 ⊢
   rcases h1 with h1 | rfl | h1
   ·exact .inl h1
   ·exact absurd (List.mem_range.1 hx) hn
   ·exact .inr h1)
  simp at this hlen
  omega
 have hndo : l.Nodup := by
  refine Classical.byContradiction fun hn => ?_
  obtain ⟨x, p, q, r, rfl⟩ := dup_of hn
  have := sub_len hnd (ys := p ++ q ++ x :: r) (fun y hy => by
   have h1 := hin' y (List.mem_range.1 hy)
   simp only [List.mem_append, List.mem_cons] at h1 ⊢
   rcases h1 with h1 | rfl | h1 | rfl | h1 <;> simp [*])
  simp at this hlen
  omega
 exact Run.lin (fun s a w h1 h2 => ⟨s, h1, h2⟩) hB ops.size t l _ hlen ⟨by simp, fun i hi => by simp [hall i hi, hin' i hi], hlt, hndo, fun k o hk hn => absurd (hin' k (Array.getElem?_eq_some_iff.1 hk).1) hn⟩ (ordOk2_pair ho) heq.symm (hr l hl) hs.drew
end Go.Tal

/-
 What is read: lists of integers, symmetries, lists of such.
-/
namespace Go.Tal
open Go.RowKit
/-- A slice of integers that is read; nil, empty and other slices alike. -/
def RdI (h : H) (v : Value) (xs : List Int) : Prop :=
 ∃ A c, v = .slice A xs.length c ∧ xs.length ≤ 4294967296 ∧ (0 < xs.length → ∃ b o, A = some ⟨b, o, none⟩ ∧ ∃ arr t fz, h b = some (.cells arr t fz) ∧ ∀ j, j < xs.length → arr[o + j]? = some (.int .i64 (xs.getD j 0)))
theorem RdI.mono {h h' : H} {v : Value} {xs : List Int} (r : RdI h v xs) (hh : ∀ b o, h b = some o → h' b = some o) : RdI h' v xs := by
 obtain ⟨A, c, e, hm, hr⟩ := r
 exact ⟨A, c, e, hm, fun hp => by obtain ⟨b, o, e1, arr, t, fz, h1, h2⟩ := hr hp; exact ⟨b, o, e1, arr, t, fz, hh _ _ h1, h2⟩⟩
theorem RdI.cell {h : H} {L : List Own} {b o c n : Nat} {xs : List Int} (r : RdI h (.slice (some ⟨b, o, none⟩) n c) xs) {j : Nat} (hj : j < xs.length) : Cell h L b (o + j * 1) (.int .i64 (xs.getD j 0)) := by
 obtain ⟨A, c', e, hm, hr⟩ := r
 cases e
 obtain ⟨b', o', e1, arr, t, fz, h1, h2⟩ := hr (by omega)
 cases e1
 exact .imm arr t fz h1 (by rw [Nat.mul_one]; exact h2 j hj)
theorem RdI.slice {h : H} {v : Value} {xs : List Int} (r : RdI h v xs) : ∃ A c, v = .slice A xs.length c := by
 obtain ⟨A, c, e, _⟩ := r
 exact ⟨A, c, e⟩
section
variable {P : Program} {o : Oper} {F : List (Nat × Value)} {h : H} {L : List Own} {v : Value} {x y : Operand} {xs : List Int} {m : Int} {k : IntKind}
theorem s_lenI {t e : TypeId} (r : RdI h v xs) (ho : o.op = .call { callee := .builtin .len, args := #[x], argTypes := #[t] }) (hx : evF F x = some v) (ht : P.underlying t = some (.slice e)) : SoftOk P o F h L (.int .i64 xs.length) := by
 obtain ⟨A, c, e1, _⟩ := r
 subst e1
 exact s_len ho hx ht
theorem s_iaI {t e : TypeId} (r : RdI h v xs) (h0 : 0 ≤ m) (h1 : m < xs.length) (ho : o.op = .indexAddr t x y) (hx : evF F x = some v) (hy : evF F y = some (.int k m)) (ht : P.underlying t = some (.slice e)) (hs : ∀ w, (sizeOf e).run P w = .ok 1 w) : SoftOk P o F h L (elemPtr 1 v m) := by
 obtain ⟨A, c, e1, _, hr⟩ := r
 obtain ⟨b, o', e2, _⟩ := hr (by omega)
 exact s_iav ho hx e1 (by rw [e2]; rfl) hy ht hs h0 h1
theorem s_ldI {t : TypeId} (r : RdI h v xs) (h0 : 0 ≤ m) (h1 : m < xs.length) (ho : o.op = .load t x) (hx : evF F x = some (elemPtr 1 v m)) (hg : ∀ w, (isAgg t).run P w = .ok false w) : SoftOk P o F h L (.int .i64 (xs.getD m.toNat 0)) := by
 obtain ⟨A, c, e1, hm, hr⟩ := r
 have hr' := hr
 obtain ⟨b, o', e2, _⟩ := hr (by omega)
 subst e2
 have hadd : (⟨b, o', none⟩ : Addr).add (m.toNat * 1) = ⟨b, o' + m.toNat * 1, none⟩ := by unfold Addr.add; split <;> simp_all
 subst e1
 simp only [elemPtr, hadd] at hx
 exact s_ld ho hx hg (RdI.cell (n := xs.length) (c := c) ⟨some ⟨b, o', none⟩, c, rfl, hm, hr'⟩ (by omega))
end
/-- A row of integers that is let go. -/
theorem rowI_read {h : H} {b n c : Nat} {xs : List Int} {w : World} {e : TypeId} (hl : xs.length = n) (hn : n ≤ 4294967296) (hr : w.ownsRow 0 e 1 (.slice (some ⟨b, 0, none⟩) n c) n (xs.map (Value.int .i64))) (hb : h b = w.heap[b]?) : RdI h (.slice (some ⟨b, 0, none⟩) n c) xs := by
 obtain ⟨_, hr⟩ := hr
 rcases hr with ⟨hr, _⟩ | ⟨g, cap, cur, hr, _, hg, hnc, _, hsz, htk⟩
 ·cases hr
 cases hr
 refine ⟨some ⟨b, 0, none⟩, c, by rw [hl], by omega, fun _ => ⟨b, 0, rfl, cur, e, (0, 0), by rw [hb]; exact hg, fun j hj => ?_⟩⟩
 have h1 : (cur.toList.take (n * 1))[j]? = some (.int .i64 (xs.getD j 0)) := by
  rw [htk, List.getElem?_map, List.getElem?_eq_getElem hj]
  simp [List.getD_eq_getElem?_getD, List.getElem?_eq_getElem hj]
 rw [List.getElem?_take] at h1
 split at h1
 ·rw [Nat.zero_add]; simpa using h1
 ·cases h1
/-- What is held is only read from now on. -/
def updH (h : H) (b : Nat) (o : Option Obj) : H := fun k => if k = b then o else h k
theorem Mem.let_ {C : Ctx} {h : H} {X : Own} {L L' : List Own} {w : World} (m : Mem C h L w) (p : Pick X L L') {b : Nat} (hX : X.blk = some b) (hI : C.I = []) : Mem C (updH h b w.heap[b]?) L' w := by
 have m1 := m.perm p.perm
 have hhb : h b = none := m1.sat.off X List.mem_cons_self b hX
 have hge : C.w0.heap.size ≤ b := by
  rcases m1.new X List.mem_cons_self b hX with h1 | h1
  ·exact h1
  ·rw [hI] at h1; cases h1
 refine ⟨⟨fun k o hk => ?_, fun x hx => m1.sat.own x (List.mem_cons_of_mem _ hx), fun x hx k hk => ?_, (List.pairwise_cons.1 m1.sat.nd).2⟩, fun x hx => m1.new x (List.mem_cons_of_mem _ hx), fun k hk => ?_, m1.kp⟩
 ·unfold updH at hk
  split at hk
  ·rename_i e; rw [e]; exact hk
  ·exact m1.sat.imm k o hk
 ·unfold updH
  rw [if_neg]
  ·exact m1.sat.off x (List.mem_cons_of_mem _ hx) k hk
  ·rintro rfl
   exact (List.pairwise_cons.1 m1.sat.nd).1 x hx k hX hk
 ·unfold updH
  rw [if_neg (by omega)]
  exact m1.old k hk
theorem upd_mono {h : H} {b : Nat} {o : Option Obj} (hb : h b = none) : ∀ k x, h k = some x → updH h b o k = some x := fun k x hk => by
 unfold updH
 rw [if_neg (fun e => by rw [e, hb] at hk; cases hk)]
 exact hk
/-- Letting go a row of integers, at any point. -/
theorem WP.letI {C : Ctx} {Q : Exit → S → Prop} {c : Code} {F : List (Nat × Value)} {h : H} {L L' : List Own} {b n cap : Nat} {e : TypeId} {xs : List Int} (hI : C.I = []) (p : Pick (.row (.slice (some ⟨b, 0, none⟩) n cap) e 1 n (xs.map (Value.int .i64))) L L') (hl : xs.length = n) (hn : n ≤ 4294967296)
 (k : ∀ h', (∀ b o, h b = some o → h' b = some o) → RdI h' (.slice (some ⟨b, 0, none⟩) n cap) xs → WP C c Q ⟨F, h', L'⟩) : WP C c Q ⟨F, h, L⟩ := by
 intro ro n' M hG a w ⟨Ds, hf, m⟩
 have p := p.append (Ds.map shut ++ M)
 have hhb : h b = none := (m.perm p.perm).sat.off _ List.mem_cons_self b rfl
 refine k (updH h b w.heap[b]?) (upd_mono hhb) ?_ ro n' M hG a w ⟨Ds, hf, m.let_ p rfl hI⟩
 exact rowI_read hl hn ((m.perm p.perm).sat.own _ List.mem_cons_self) (by simp [updH])
end Go.Tal

/-
 Symbolic states: the rules as they are used, one a line.
-/
namespace Go.Tal
open Go.RowKit
section
variable {dr : Bool} {C : Ctx} {ops : Array Oper} {K : S → Prop} {i d : Nat} {r : List Nat} {F : List (Nat × Value)} {h : H} {L L' : List Own} {o : Oper} {v u : Value} {x y z : Operand}
theorem dst_lt (hd : o.dst = some d) (hn : Nat.blt d C.n = true) : ∀ t, o.dst = some t → t < C.n := fun t ht => by rw [hd] at ht; cases ht; exact Nat.le_of_ble_eq_true hn
theorem dst_no (hd : o.dst = none) : ∀ t, o.dst = some t → t < C.n := fun t ht => by rw [hd] at ht; cases ht
theorem grow_new (X : Own) : Grow h h L (X :: L) := ⟨fun _ _ hb => hb, List.sublist_cons_self _ _⟩
theorem run_box {t : TypeId} {cs : Array Value} (ho : ops[i]? = some o) (hop : o.op = .box t x) (hg : o.guard = none) (hd : o.dst = some d) (hn : Nat.blt d C.n = true) (hx : evF F x = some v) (hcs : v.cells = cs)
 (k : ∀ b, Run dr C ops K r ⟨(d, .pointer (some ⟨b, 0, none⟩)) :: F, h, .obj b (.cells cs t (0, 0)) :: L⟩) : Run dr C ops K (i :: r) ⟨F, h, L⟩ :=
 run_hard ho hg (dst_lt hd hn) (by simp [cls, hop]) _ (frm_new fun _ => h_box hop hx hcs) fun _ _ _ ⟨b, e1, e2, e3⟩ => by subst e1 e2 e3; rw [hd]; exact ⟨fun _ _ => grow_new _, k b⟩
theorem run_alloc {t : TypeId} {cs : Array Value} (ho : ops[i]? = some o) (hop : o.op = .alloc t) (hg : o.guard = none) (hd : o.dst = some d) (hn : Nat.blt d C.n = true) {zv : Value} (hz : ∀ w, (zeroValue t).run C.P w = .ok zv w) (hcs : zv.cells = cs)
 (k : ∀ b, Run dr C ops K r ⟨(d, .pointer (some ⟨b, 0, none⟩)) :: F, h, .obj b (.cells cs t (0, 0)) :: L⟩) : Run dr C ops K (i :: r) ⟨F, h, L⟩ :=
 run_hard ho hg (dst_lt hd hn) (by simp [cls, hop]) _ (frm_new fun _ => h_alloc hop hz hcs) fun _ _ _ ⟨b, e1, e2, e3⟩ => by subst e1 e2 e3; rw [hd]; exact ⟨fun _ _ => grow_new _, k b⟩
theorem run_mkmap {t : TypeId} (ho : ops[i]? = some o) (hop : o.op = .makeMap t none) (hg : o.guard = none) (hd : o.dst = some d) (hn : Nat.blt d C.n = true)
 (k : ∀ b, Run dr C ops K r ⟨(d, .map (some b)) :: F, h, .obj b (.map #[] 0) :: L⟩) : Run dr C ops K (i :: r) ⟨F, h, L⟩ :=
 run_hard ho hg (dst_lt hd hn) (by simp [cls, hop]) _ (frm_new fun _ => h_mkmap hop) fun _ _ _ ⟨b, e1, e2, e3⟩ => by subst e1 e2 e3; rw [hd]; exact ⟨fun _ _ => grow_new _, k b⟩
theorem run_mksl {t e : TypeId} {zv : Value} {by_ n : Nat} (ho : ops[i]? = some o) (hop : o.op = .makeSlice t x y) (hg : o.guard = none) (hd : o.dst = some d) (hn : Nat.blt d C.n = true) (hx : evF F x = some (.int .i64 n)) (hy : evF F y = some (.int .i64 n)) (ht : C.P.underlying t = some (.slice e))
 (hi : (C.P.info? e).map (fun i => (i.zero, i.size, i.bytes)) = some (some zv, 1, by_)) (hz : zv.cells = #[zv]) (hb : by_ * n ≤ 281474976710656) (hm : n ≤ 9223372036854775807)
 (k : ∀ b, Run dr C ops K r ⟨(d, .slice (some ⟨b, 0, none⟩) n n) :: F, h, .row (.slice (some ⟨b, 0, none⟩) n n) e 1 n (List.replicate n zv) :: L⟩) : Run dr C ops K (i :: r) ⟨F, h, L⟩ :=
 run_hard ho hg (dst_lt hd hn) (by simp [cls, hop]) _ (frm_new fun _ => h_mksl hop hx hy ht hi hz hb hm) fun _ _ _ ⟨b, e1, e2, e3⟩ => by subst e1 e2 e3; rw [hd]; exact ⟨fun _ _ => grow_new _, k b⟩
theorem run_st {t e : TypeId} {b o' : Nat} {arr : Array Value} (ho : ops[i]? = some o) (hop : o.op = .store e x y) (hg : o.guard = none) (hd : o.dst = none) (hx : evF F x = some (.pointer (some ⟨b, o', none⟩))) (hy : evF F y = some v) (h1 : v.oneCell' = true) (hc : v.cells = #[v]) (hs : ∀ w, (sizeOf e).run C.P w = .ok 1 w)
 (p : Swap (.obj b (.cells arr t (0, 0))) (.obj b (.cells (arr.setIfInBounds o' v) t (0, 0))) L L') (hlt : Nat.blt o' arr.size = true) (k : Run dr C ops K r ⟨F, h, L'⟩) : Run dr C ops K (i :: r) ⟨F, h, L⟩ :=
 run_hard ho hg (dst_no hd) (by simp [cls, hop]) _ (frm_st fun M => h_st hop hx hy h1 hc hs hlt (p.append M)) fun _ _ _ ⟨e1, e2, e3⟩ => by subst e1 e2 e3; rw [hd]; exact ⟨fun _ hc => by simp [cls, hop] at hc, k⟩
theorem run_strow {t e : TypeId} {b o' n c : Nat} {xs : List Value} (ho : ops[i]? = some o) (hop : o.op = .store e x y) (hg : o.guard = none) (hd : o.dst = none) (hx : evF F x = some (.pointer (some ⟨b, o', none⟩))) (hy : evF F y = some v) (h1 : v.oneCell' = true) (hc : v.cells = #[v]) (hs : ∀ w, (sizeOf e).run C.P w = .ok 1 w)
 (p : Swap (.row (.slice (some ⟨b, 0, none⟩) n c) t 1 n xs) (.row (.slice (some ⟨b, 0, none⟩) n c) t 1 n (xs.set o' v)) L L') (hlt : o' < n) (k : Run dr C ops K r ⟨F, h, L'⟩) : Run dr C ops K (i :: r) ⟨F, h, L⟩ :=
 run_hard ho hg (dst_no hd) (by simp [cls, hop]) _ (frm_st fun M => h_strow hop hx hy h1 hc hs hlt (p.append M)) fun _ _ _ ⟨e1, e2, e3⟩ => by subst e1 e2 e3; rw [hd]; exact ⟨fun _ hc => by simp [cls, hop] at hc, k⟩
theorem run_call {f : FuncId} {args : Array Operand} {ts : Array TypeId} {vs : List Value} {R : Value → H → Prop} (ho : ops[i]? = some o) (hop : o.op = .call { callee := .value (.func f), args := args, argTypes := ts }) (hg : o.guard = none) (hd : o.dst = some d) (hn : Nat.blt d C.n = true)
 (hx : args.toList.map (evF F) = vs.map some) (hen : ∀ args w, (callFunc f args).run C.P w = .ok (.enter f args) w) (hf : Fn C.P f vs.toArray h R) (k : ∀ v h', R v h' → (∀ b o, h b = some o → h' b = some o) → Run dr C ops K r ⟨(d, v) :: F, h', L⟩) : Run dr C ops K (i :: r) ⟨F, h, L⟩ :=
 run_hard ho hg (dst_lt hd hn) (by simp [cls, hop]) _ (frm_call fun _ => h_call hop hx hen hf) fun v h' _ ⟨e1, e2, e3⟩ => by subst e3; rw [hd]; exact ⟨fun _ _ => ⟨e2, List.Sublist.refl _⟩, k v h' e1 e2⟩
end
section
variable {P : Program} {o : Oper} {F : List (Nat × Value)} {h : H} {L : List Own} {v0 v1 : Value} {x : Operand}
/-- Two cells loaded as one value. -/
theorem s_ld2 {t : TypeId} {b o' : Nat} (ho : o.op = .load t x) (hx : evF F x = some (.pointer (some ⟨b, o', none⟩))) (hg : ∀ w, (isAgg t).run P w = .ok true w) (hs : ∀ w, (sizeOf t).run P w = .ok 2 w) (h0 : Cell h L b o' v0) (h1 : Cell h L b (o' + 1) v1) : SoftOk P o F h L (.agg #[v0, v1]) :=
 s_lda (vs := [v0, v1]) ho hx hg hs rfl fun j v hj => by
  match j, hj with
  | 0, hj => cases hj; exact h0
  | 1, hj => cases hj; exact h1
end
/-- Two cells stored. -/
theorem h_st2 {C : Ctx} {o : Oper} {F : List (Nat × Value)} {h : H} {L L' : List Own} {x y : Operand} {v0 v1 : Value} {t e : TypeId} {b : Nat} {arr : Array Value} (ho : o.op = .store e x y) (hx : evF F x = some (.pointer (some ⟨b, 0, none⟩))) (hy : evF F y = some (.agg #[v0, v1])) (h0 : v0.oneCell' = true) (h1 : v1.oneCell' = true) (hs : ∀ w, (sizeOf e).run C.P w = .ok 2 w)
 (hlt : arr.size = 2) (p : Swap (.obj b (.cells arr t (0, 0))) (.obj b (.cells #[v0, v1] t (0, 0))) L L') : HardW C o F h L (fun v' h' L'' => v' = undef ∧ h' = h ∧ L'' = L') := fun a w ha _ _ hm => by
 have e1 := agree_of ha (by rw [ho]; simp [Op.operands]) hx
 have e2 := agree_of ha (x := y) (by rw [ho]; simp [Op.operands]) hy
 obtain ⟨L0, p1, _⟩ := p.pick
 have hb : w.heap[b]? = some (.cells arr t (0, 0)) := hm.sat.own _ (p1.perm.mem_iff.2 List.mem_cons_self)
 have hb2 := setCell_heap (o' := 0) hb v0
 have hb3 := setCell_heap (o' := 1) hb2 v1
 have c0 : w.cell? ⟨b, 0, none⟩ = some (arr[0]'(by omega)) := by simp [World.cell?, hb, hlt]
 have c1 : (w.setCell ⟨b, 0, none⟩ v0).cell? ⟨b, 1, none⟩ = some (arr[1]'(by omega)) := by simp [World.cell?, hb2, hlt]
 have f0 : w.frozen? ⟨b, 0, none⟩ = false := by simp [World.frozen?, hb]
 have f1 : (w.setCell ⟨b, 0, none⟩ v0).frozen? ⟨b, 1, none⟩ = false := by simp only [World.frozen?, hb2]; simp
 have hadd : (⟨b, 0, none⟩ : Addr).add 1 = ⟨b, 1, none⟩ := by simp [Addr.add]
 have hadd0 : (⟨b, 0, none⟩ : Addr).add 0 = ⟨b, 0, none⟩ := by simp [Addr.add]
 refine upon_skip (w' := (w.setCell ⟨b, 0, none⟩ v0).setCell ⟨b, 1, none⟩ v1) ?_ ⟨undef, h, L', ⟨rfl, rfl, rfl⟩, rfl, ?_⟩
 ·simp only [execOp, ho, e1, e2]
  have : (Instr.storeAt e (.pointer (some ⟨b, 0, none⟩)) (.agg #[v0, v1])).run C.P w = .ok () ((w.setCell ⟨b, 0, none⟩ v0).setCell ⟨b, 1, none⟩ v1) := by
   simp [Instr.storeAt, Instr.sureAddr, storeVar, hs w, Value.cells, storeCells, hadd, hadd0, run_store C.P _ _ v0 .plain h0, run_store C.P _ _ v1 .plain h1, c0, c1, f0, f1]
  rw [Sem.run_bind, this]; rfl
 ·refine hm.swap p rfl (fun c hc => .inl (by cases hc; rfl)) ?_ rfl rfl rfl (by simp) (Nat.le_refl _) (fun k _ hk => by rw [Below.heap_setCell _ _ _ k hk, Below.heap_setCell _ _ _ k hk])
  have : (arr.setIfInBounds 0 v0).setIfInBounds 1 v1 = #[v0, v1] := by
   cases arr with
   | mk l => match l, hlt with
    | [_, _], _ => rfl
  rw [this] at hb3
  exact hb3
theorem run_st2 {dr : Bool} {C : Ctx} {ops : Array Oper} {K : S → Prop} {i : Nat} {r : List Nat} {F : List (Nat × Value)} {h : H} {L L' : List Own} {o : Oper} {x y : Operand} {v0 v1 : Value} {t e : TypeId} {b : Nat} {arr : Array Value} (ho : ops[i]? = some o) (hop : o.op = .store e x y) (hg : o.guard = none) (hd : o.dst = none)
 (hx : evF F x = some (.pointer (some ⟨b, 0, none⟩))) (hy : evF F y = some (.agg #[v0, v1])) (h0 : v0.oneCell' = true) (h1 : v1.oneCell' = true) (hs : ∀ w, (sizeOf e).run C.P w = .ok 2 w) (p : Swap (.obj b (.cells arr t (0, 0))) (.obj b (.cells #[v0, v1] t (0, 0))) L L') (hlt : arr.size = 2)
 (k : Run dr C ops K r ⟨F, h, L'⟩) : Run dr C ops K (i :: r) ⟨F, h, L⟩ :=
 run_hard ho hg (dst_no hd) (by simp [cls, hop]) _ (frm_st fun M => h_st2 hop hx hy h0 h1 hs hlt (p.append M)) fun _ _ _ ⟨e1, e2, e3⟩ => by subst e1 e2 e3; rw [hd]; exact ⟨fun _ hc => by simp [cls, hop] at hc, k⟩
end Go.Tal
namespace Go.Tal
theorem res_cell2 {P : Program} {fn : Func} {s : S} {t b : Nat} {e : TypeId} {v0 v1 : Value} (h : fn.results = #[.cell t e]) (hv : s.F.lookup t = some (.pointer (some ⟨b, 0, none⟩))) (hg : ∀ w, (isAgg e).run P w = .ok true w) (hs : ∀ w, (sizeOf e).run P w = .ok 2 w) (h0 : Cell s.h s.L b 0 v0) (h1 : Cell s.h s.L b 1 v1) : ResOk P fn s (.agg #[v0, v1]) :=
 res_cella (vs := [v0, v1]) h hv hg hs rfl fun j v hj => by
  match j, hj with
  | 0, hj => cases hj; exact h0
  | 1, hj => cases hj; exact h1
end Go.Tal

/-
 Symbolic states: guards decided, calls that hand back a plain value, slices written out.
-/
namespace Go.Tal
open Go.RowKit
theorem Node.mono {dr : Bool} {C : Ctx} {ops : Array Oper} {o : Oper} {X Y : S → Prop} {s : S} (h : Node dr C ops o X s) (hXY : ∀ s, X s → Y s) : Node dr C ops o Y s := by
 obtain ⟨hd, h⟩ := h
 refine ⟨hd, ?_⟩
 split
 ·rename_i e; rw [e] at h; exact h
 ·rename_i e; rw [e] at h; exact hXY _ h
 ·rename_i e
  rw [e] at h
  simp only at h
  split
  ·rename_i hc; rw [if_pos hc] at h; obtain ⟨v, a, b⟩ := h; exact ⟨v, a, hXY _ b⟩
  ·rename_i hc; rw [if_neg hc] at h; obtain ⟨Out, a, b⟩ := h; exact ⟨Out, a, fun v h' L' ho => ⟨(b v h' L' ho).1, hXY _ (b v h' L' ho).2⟩⟩
theorem eqF_dup {F : List (Nat × Value)} {t : Nat} {v : Value} (h : F.lookup t = some v) : EqF ((t, v) :: F) F := fun u => by
 rw [lookup_cons']
 split
 ·rename_i e; rw [e, h]
 ·rfl
section
variable {dr : Bool} {C : Ctx} {ops : Array Oper} {K : S → Prop} {i d t : Nat} {r : List Nat} {F : List (Nat × Value)} {h : H} {L L' : List Own} {o : Oper}
theorem run_cb {c : Bool} (hv : F.lookup t = some (.bool c)) (k1 : c = true → Run dr C ops K r ⟨(t, .bool true) :: F, h, L⟩) (k2 : c = false → Run dr C ops K r ⟨(t, .bool false) :: F, h, L⟩) : Run dr C ops K r ⟨F, h, L⟩ := by
 cases c with
 | true => exact Run.congr r (eqF_dup hv) (k1 rfl)
 | false => exact Run.congr r (eqF_dup hv) (k2 rfl)
theorem run_cases {p : Prop} [Decidable p] (hv : F.lookup t = some (.bool (decide p))) (k1 : p → Run dr C ops K r ⟨(t, .bool true) :: F, h, L⟩) (k2 : ¬ p → Run dr C ops K r ⟨(t, .bool false) :: F, h, L⟩) : Run dr C ops K r ⟨F, h, L⟩ :=
 run_cb hv (fun e => k1 (by simpa using e)) (fun e => k2 (by simpa using e))
/-- A call that hands back a plain value. -/
def FnV (P : Program) (f : FuncId) (args : Array Value) (h : H) (v : Value) : Prop := Fn P f args h fun v' _ => v' = v
theorem run_callv {f : FuncId} {args : Array Operand} {ts : Array TypeId} {vs : List Value} {v : Value} (ho : ops[i]? = some o) (hop : o.op = .call { callee := .value (.func f), args := args, argTypes := ts }) (hg : o.guard = none) (hd : o.dst = some d) (hn : Nat.blt d C.n = true)
 (hx : args.toList.map (evF F) = vs.map some) (hen : ∀ args w, (callFunc f args).run C.P w = .ok (.enter f args) w) (hf : FnV C.P f vs.toArray h v) (k : Run dr C ops K r ⟨(d, v) :: F, h, L⟩) : Run dr C ops K (i :: r) ⟨F, h, L⟩ := by
 refine run_hard ho hg (dst_lt hd hn) (by simp [cls, hop]) (fun v' h' L' => v' = v ∧ h' = h ∧ L' = L) (frm_call fun M a w ha h1 h2 hm => ?_) fun _ _ _ ⟨e1, e2, e3⟩ => by subst e1 e2 e3; rw [hd]; exact ⟨fun _ _ => ⟨fun _ _ hb => hb, List.Sublist.refl _⟩, k⟩
 refine Oper.wp_mono (fun a' w' ⟨v', h', L', ⟨e1, e2, e3⟩, ha', hm'⟩ => ?_) (h_call hop hx hen hf a w ha h1 h2 hm)
 subst e1 e3
 exact ⟨v', h, _, ⟨rfl, rfl, rfl⟩, ha', ⟨hm'.sat.less ⟨e2, List.Sublist.refl _⟩, hm'.new, hm.old, hm'.kp⟩⟩
/-- A slice that is written out, of elements of one cell, and only read. -/
theorem h_bsl {t e : TypeId} {len : Nat} {parts : List (Nat × Operand)} {vs : List Value} {arr : Array Value} (ho : o.op = .buildSlice t len parts.toArray) (hx : (parts.map (·.2)).map (evF F) = vs.map some)
 (hq : ∀ w, (Instr.buildSlice t len ((parts.map (·.1)).zip vs).toArray).run C.P w = .ok (.slice (some ⟨w.heap.size, 0, none⟩) len len) (w.alloc (.cells arr e))) : HardW C o F h L (fun v' h' L' => ∃ b, v' = .slice (some ⟨b, 0, none⟩) len len ∧ (∀ b o, h b = some o → h' b = some o) ∧ h' b = some (.cells arr e (0, 0)) ∧ L' = L) := fun a w ha _ _ hm => by
 have h1 : parts.map (fun p => (p.1, a.eval p.2)) = (parts.map (·.1)).zip vs := by
  have h2 : ∀ (ps : List (Nat × Operand)) (vs : List Value), (∀ p ∈ ps, p ∈ parts) → (ps.map (·.2)).map (evF F) = vs.map some → ps.map (fun p => (p.1, a.eval p.2)) = (ps.map (·.1)).zip vs := by
   intro ps
   induction ps with
   | nil => intro vs _ _; simp
   | cons p ps ih =>
    intro vs hsub hx
    cases vs with
    | nil => simp at hx
    | cons v vs =>
     simp only [List.map_cons, List.cons.injEq] at hx
     have he : a.eval p.2 = v := ha p.2 (by
      rw [ho]
      simp only [Op.operands]
      exact List.mem_map.2 ⟨p, hsub p List.mem_cons_self, rfl⟩) v hx.1
     simp only [List.map_cons, List.zip_cons_cons, List.cons.injEq]
     exact ⟨by rw [he], ih vs (fun q hq => hsub q (List.mem_cons_of_mem _ hq)) hx.2⟩
  exact h2 parts vs (fun _ hp => hp) hx
 have hr : (execOp a.eval o).run C.P w = .ok (.value (.slice (some ⟨w.heap.size, 0, none⟩) len len)) (w.alloc (.cells arr e)) := by
  simp only [execOp, ho]
  refine run_v ?_
  have := hq w
  rw [← h1] at this
  simpa using this
 have m1 := hm.alloc (.cells arr e)
 refine upon_val hr ⟨_, updH h w.heap.size (some (.cells arr e (0, 0))), L, ⟨w.heap.size, rfl, ?_, by simp [updH], rfl⟩, rfl, ?_⟩
 ·exact upd_mono (m1.sat.off _ List.mem_cons_self _ rfl)
 ·have hblk : (w.alloc (.cells arr e)).heap[w.heap.size]? = some (.cells arr e (0, 0)) := m1.sat.own _ List.mem_cons_self
  refine ⟨⟨fun k x hk => ?_, fun x hx => m1.sat.own x (List.mem_cons_of_mem _ hx), fun x hx k hk => ?_, hm.sat.nd⟩, hm.new, fun k hk => ?_, m1.kp⟩
  ·unfold updH at hk
   split at hk
   ·rename_i e; rw [e, hblk]; exact hk
   ·exact m1.sat.imm k x hk
  ·unfold updH
   rw [if_neg]
   ·exact hm.sat.off x hx k hk
   ·rintro rfl
    exact (List.pairwise_cons.1 m1.sat.nd).1 x hx _ rfl hk
  ·unfold updH
   rw [if_neg (by have := hm.kp.size; omega)]
   exact hm.old k hk
theorem run_bsl {t e : TypeId} {len : Nat} {parts : List (Nat × Operand)} {vs : List Value} {arr : Array Value} (ho : ops[i]? = some o) (hop : o.op = .buildSlice t len parts.toArray) (hg : o.guard = none) (hd : o.dst = some d) (hn : Nat.blt d C.n = true) (hx : (parts.map (·.2)).map (evF F) = vs.map some)
 (hq : ∀ w, (Instr.buildSlice t len ((parts.map (·.1)).zip vs).toArray).run C.P w = .ok (.slice (some ⟨w.heap.size, 0, none⟩) len len) (w.alloc (.cells arr e)))
 (k : ∀ b h', (∀ b o, h b = some o → h' b = some o) → h' b = some (.cells arr e (0, 0)) → Run dr C ops K r ⟨(d, .slice (some ⟨b, 0, none⟩) len len) :: F, h', L⟩) : Run dr C ops K (i :: r) ⟨F, h, L⟩ :=
 run_hard ho hg (dst_lt hd hn) (by simp [cls, hop]) (fun v' h' L' => ∃ b, v' = .slice (some ⟨b, 0, none⟩) len len ∧ (∀ b o, h b = some o → h' b = some o) ∧ h' b = some (.cells arr e (0, 0)) ∧ L' = L) (fun M => (h_bsl hop hx hq).imp fun _ _ _ ⟨b, e1, e2, e3, e4⟩ => ⟨L, ⟨b, e1, e2, e3, rfl⟩, e4⟩) fun _ h' _ ⟨b, e1, e2, e3, e4⟩ => by subst e1 e4; rw [hd]; exact ⟨fun _ _ => ⟨e2, List.Sublist.refl _⟩, k b h' e2 e3⟩
end
/-- The integers of a block that is read. -/
theorem rdI_of {h : H} {b : Nat} {arr : Array Value} {e : TypeId} {xs : List Int} {n : Nat} (hb : h b = some (.cells arr e (0, 0))) (ha : arr.toList = xs.map (Value.int .i64)) (hn : n = xs.length) (hl : xs.length ≤ 4294967296) : RdI h (.slice (some ⟨b, 0, none⟩) n n) xs := by
 subst hn
 refine ⟨_, _, rfl, hl, fun _ => ⟨b, 0, rfl, arr, e, (0, 0), hb, fun j hj => ?_⟩⟩
 have : arr.toList[j]? = some (.int .i64 (xs.getD j 0)) := by
  rw [ha, List.getElem?_map, List.getElem?_eq_getElem hj]
  simp [List.getD_eq_getElem?_getD, List.getElem?_eq_getElem hj]
 rw [Nat.zero_add]
 simpa using this
end Go.Tal

/-
 Symbolic states: rows of one's own, told by a list of plain things.
-/
namespace Go.Tal
open Go.RowKit
theorem Cell.rowM {α : Type} (f : α → Value) (d : α) {h : H} {L : List Own} {b o n c : Nat} {e : TypeId} {sz : Nat} {xs : List α} (hb : Own.row (.slice (some ⟨b, 0, none⟩) n c) e sz n (xs.map f) ∈ L) (ho : o < xs.length) : Cell h L b o (f (xs.getD o d)) :=
 .row e sz n c _ hb (by rw [List.getElem?_map, List.getElem?_eq_getElem ho]; simp [List.getD_eq_getElem?_getD, List.getElem?_eq_getElem ho])
section
variable {P : Program} {o : Oper} {F : List (Nat × Value)} {h : H} {L : List Own} {x y : Operand}
theorem s_ia1 {t e : TypeId} {b n c : Nat} {k : IntKind} {m : Int} (ho : o.op = .indexAddr t x y) (hx : evF F x = some (.slice (some ⟨b, 0, none⟩) n c)) (hy : evF F y = some (.int k m)) (ht : P.underlying t = some (.slice e))
 (hs : ∀ w, (sizeOf e).run P w = .ok 1 w) (h0 : 0 ≤ m) (h1 : m < n) : SoftOk P o F h L (.pointer (some ⟨b, m.toNat, none⟩)) := by
 have := s_ia (h := h) (L := L) ho hx hy ht hs h0 h1
 simpa using this
end
section
variable {α : Type} {dr : Bool} {C : Ctx} {ops : Array Oper} {K : S → Prop} {i : Nat} {r : List Nat} {F : List (Nat × Value)} {h : H} {L L' : List Own} {o : Oper} {x y : Operand}
theorem run_strowM (f : α → Value) {u : α} {t e : TypeId} {b o' n c : Nat} {xs : List α} (ho : ops[i]? = some o) (hop : o.op = .store e x y) (hg : o.guard = none) (hd : o.dst = none) (hx : evF F x = some (.pointer (some ⟨b, o', none⟩))) (hy : evF F y = some (f u)) (h1 : (f u).oneCell' = true) (hc : (f u).cells = #[f u]) (hs : ∀ w, (sizeOf e).run C.P w = .ok 1 w)
 (p : Swap (.row (.slice (some ⟨b, 0, none⟩) n c) t 1 n (xs.map f)) (.row (.slice (some ⟨b, 0, none⟩) n c) t 1 n ((xs.set o' u).map f)) L L') (hlt : o' < n) (k : Run dr C ops K r ⟨F, h, L'⟩) : Run dr C ops K (i :: r) ⟨F, h, L⟩ :=
 run_strow ho hop hg hd hx hy h1 hc hs (by rw [List.map_set] at p; exact p) hlt k
end
end Go.Tal

/-
 Facts of the program's tables.
-/
namespace Go.Tal
open Go.RowKit Go.Proofs Go.Shelf
theorem info3 : (Tryz.prog.info? 3).map (fun i => (i.zero, i.size, i.bytes)) = some (some (.int .i64 0), 1, 8) := by kernel_rfl
theorem info4 : (Tryz.prog.info? 4).map (fun i => (i.zero, i.size, i.bytes)) = some (some (.bool false), 1, 1) := by kernel_rfl
theorem info35 : (Tryz.prog.info? 35).map (fun i => (i.zero, i.size, i.bytes)) = some (some (.slice none 0 0), 1, 24) := by kernel_rfl
theorem info112 : (Tryz.prog.info? 112).map (fun i => (i.zero, i.size, i.bytes)) = some (some (.agg #[.slice none 0 0, .bool false]), 2, 32) := by kernel_rfl
theorem b112_0 (A : Option Addr) (n c : Nat) : ∀ w, (Instr.build 112 #[(0, .slice A n c)]).run Tryz.prog w = .ok (.agg #[.slice A n c, .bool false]) w := fun _ => by kernel_rfl
theorem b112_01 (A : Option Addr) (n c : Nat) (b : Bool) : ∀ w, (Instr.build 112 #[(0, .slice A n c), (1, .bool b)]).run Tryz.prog w = .ok (.agg #[.slice A n c, .bool b]) w := fun _ => by kernel_rfl
theorem bs178_2 (x y : Int) : ∀ w, (Instr.buildSlice 178 2 #[(0, .int .i64 x), (1, .int .i64 y)]).run Tryz.prog w = .ok (.slice (some ⟨w.heap.size, 0, none⟩) 2 2) (w.alloc (.cells #[.int .i64 x, .int .i64 y] 27)) := fun _ => by kernel_rfl
theorem bs178_3 (x y z : Int) : ∀ w, (Instr.buildSlice 178 3 #[(0, .int .i64 x), (1, .int .i64 y), (2, .int .i64 z)]).run Tryz.prog w = .ok (.slice (some ⟨w.heap.size, 0, none⟩) 3 3) (w.alloc (.cells #[.int .i64 x, .int .i64 y, .int .i64 z] 27)) := fun _ => by kernel_rfl
theorem en18 : ∀ args w, (callFunc 18 args).run Tryz.prog w = .ok (.enter 18 args) w := enters_of Tryz.func18 (by kernel_rfl) rfl
theorem en19 : ∀ args w, (callFunc 19 args).run Tryz.prog w = .ok (.enter 19 args) w := enters_of Tryz.func19 (by kernel_rfl) rfl
theorem en20 : ∀ args w, (callFunc 20 args).run Tryz.prog w = .ok (.enter 20 args) w := enters_of Tryz.func20 (by kernel_rfl) rfl
theorem en21 : ∀ args w, (callFunc 21 args).run Tryz.prog w = .ok (.enter 21 args) w := enters_of Tryz.func21 (by kernel_rfl) rfl
theorem en22 : ∀ args w, (callFunc 22 args).run Tryz.prog w = .ok (.enter 22 args) w := enters_of Tryz.func22 (by kernel_rfl) rfl
theorem en23 : ∀ args w, (callFunc 23 args).run Tryz.prog w = .ok (.enter 23 args) w := enters_of Tryz.func23 (by kernel_rfl) rfl
theorem en24 : ∀ args w, (callFunc 24 args).run Tryz.prog w = .ok (.enter 24 args) w := enters_of Tryz.func24 (by kernel_rfl) rfl
theorem en25 : ∀ args w, (callFunc 25 args).run Tryz.prog w = .ok (.enter 25 args) w := enters_of Tryz.func25 (by kernel_rfl) rfl
theorem en26 : ∀ args w, (callFunc 26 args).run Tryz.prog w = .ok (.enter 26 args) w := enters_of Tryz.func26 (by kernel_rfl) rfl
theorem en27 : ∀ args w, (callFunc 27 args).run Tryz.prog w = .ok (.enter 27 args) w := enters_of Tryz.func27 (by kernel_rfl) rfl
theorem en28 : ∀ args w, (callFunc 28 args).run Tryz.prog w = .ok (.enter 28 args) w := enters_of Tryz.func28 (by kernel_rfl) rfl
theorem en29 : ∀ args w, (callFunc 29 args).run Tryz.prog w = .ok (.enter 29 args) w := enters_of Tryz.func29 (by kernel_rfl) rfl
theorem en30 : ∀ args w, (callFunc 30 args).run Tryz.prog w = .ok (.enter 30 args) w := enters_of Tryz.func30 (by kernel_rfl) rfl
theorem en31 : ∀ args w, (callFunc 31 args).run Tryz.prog w = .ok (.enter 31 args) w := enters_of Tryz.func31 (by kernel_rfl) rfl
theorem en32 : ∀ args w, (callFunc 32 args).run Tryz.prog w = .ok (.enter 32 args) w := enters_of Tryz.func32 (by kernel_rfl) rfl
theorem en33 : ∀ args w, (callFunc 33 args).run Tryz.prog w = .ok (.enter 33 args) w := enters_of Tryz.func33 (by kernel_rfl) rfl
theorem en34 : ∀ args w, (callFunc 34 args).run Tryz.prog w = .ok (.enter 34 args) w := enters_of Tryz.func34 (by kernel_rfl) rfl
theorem en35 : ∀ args w, (callFunc 35 args).run Tryz.prog w = .ok (.enter 35 args) w := enters_of Tryz.func35 (by kernel_rfl) rfl
theorem en36 : ∀ args w, (callFunc 36 args).run Tryz.prog w = .ok (.enter 36 args) w := enters_of Tryz.func36 (by kernel_rfl) rfl
theorem en37 : ∀ args w, (callFunc 37 args).run Tryz.prog w = .ok (.enter 37 args) w := enters_of Tryz.func37 (by kernel_rfl) rfl
theorem en38 : ∀ args w, (callFunc 38 args).run Tryz.prog w = .ok (.enter 38 args) w := enters_of Tryz.func38 (by kernel_rfl) rfl
theorem en39 : ∀ args w, (callFunc 39 args).run Tryz.prog w = .ok (.enter 39 args) w := enters_of Tryz.func39 (by kernel_rfl) rfl
theorem en40 : ∀ args w, (callFunc 40 args).run Tryz.prog w = .ok (.enter 40 args) w := enters_of Tryz.func40 (by kernel_rfl) rfl
theorem en41 : ∀ args w, (callFunc 41 args).run Tryz.prog w = .ok (.enter 41 args) w := enters_of Tryz.func41 (by kernel_rfl) rfl
theorem en42 : ∀ args w, (callFunc 42 args).run Tryz.prog w = .ok (.enter 42 args) w := enters_of Tryz.func42 (by kernel_rfl) rfl
theorem en43 : ∀ args w, (callFunc 43 args).run Tryz.prog w = .ok (.enter 43 args) w := enters_of Tryz.func43 (by kernel_rfl) rfl
theorem en44 : ∀ args w, (callFunc 44 args).run Tryz.prog w = .ok (.enter 44 args) w := enters_of Tryz.func44 (by kernel_rfl) rfl
theorem en45 : ∀ args w, (callFunc 45 args).run Tryz.prog w = .ok (.enter 45 args) w := enters_of Tryz.func45 (by kernel_rfl) rfl
theorem en46 : ∀ args w, (callFunc 46 args).run Tryz.prog w = .ok (.enter 46 args) w := enters_of Tryz.func46 (by kernel_rfl) rfl
theorem en47 : ∀ args w, (callFunc 47 args).run Tryz.prog w = .ok (.enter 47 args) w := enters_of Tryz.func47 (by kernel_rfl) rfl
theorem en48 : ∀ args w, (callFunc 48 args).run Tryz.prog w = .ok (.enter 48 args) w := enters_of Tryz.func48 (by kernel_rfl) rfl
theorem en49 : ∀ args w, (callFunc 49 args).run Tryz.prog w = .ok (.enter 49 args) w := enters_of Tryz.func49 (by kernel_rfl) rfl
theorem en50 : ∀ args w, (callFunc 50 args).run Tryz.prog w = .ok (.enter 50 args) w := enters_of Tryz.func50 (by kernel_rfl) rfl
theorem en51 : ∀ args w, (callFunc 51 args).run Tryz.prog w = .ok (.enter 51 args) w := enters_of Tryz.func51 (by kernel_rfl) rfl
theorem en52 : ∀ args w, (callFunc 52 args).run Tryz.prog w = .ok (.enter 52 args) w := enters_of Tryz.func52 (by kernel_rfl) rfl
theorem en53 : ∀ args w, (callFunc 53 args).run Tryz.prog w = .ok (.enter 53 args) w := enters_of Tryz.func53 (by kernel_rfl) rfl
theorem en54 : ∀ args w, (callFunc 54 args).run Tryz.prog w = .ok (.enter 54 args) w := enters_of Tryz.func54 (by kernel_rfl) rfl
theorem en55 : ∀ args w, (callFunc 55 args).run Tryz.prog w = .ok (.enter 55 args) w := enters_of Tryz.func55 (by kernel_rfl) rfl
theorem en56 : ∀ args w, (callFunc 56 args).run Tryz.prog w = .ok (.enter 56 args) w := enters_of Tryz.func56 (by kernel_rfl) rfl
theorem en57 : ∀ args w, (callFunc 57 args).run Tryz.prog w = .ok (.enter 57 args) w := enters_of Tryz.func57 (by kernel_rfl) rfl
theorem en58 : ∀ args w, (callFunc 58 args).run Tryz.prog w = .ok (.enter 58 args) w := enters_of Tryz.func58 (by kernel_rfl) rfl
theorem en59 : ∀ args w, (callFunc 59 args).run Tryz.prog w = .ok (.enter 59 args) w := enters_of Tryz.func59 (by kernel_rfl) rfl
theorem en60 : ∀ args w, (callFunc 60 args).run Tryz.prog w = .ok (.enter 60 args) w := enters_of Tryz.func60 (by kernel_rfl) rfl
theorem en61 : ∀ args w, (callFunc 61 args).run Tryz.prog w = .ok (.enter 61 args) w := enters_of Tryz.func61 (by kernel_rfl) rfl
theorem en62 : ∀ args w, (callFunc 62 args).run Tryz.prog w = .ok (.enter 62 args) w := enters_of Tryz.func62 (by kernel_rfl) rfl
theorem en63 : ∀ args w, (callFunc 63 args).run Tryz.prog w = .ok (.enter 63 args) w := enters_of Tryz.func63 (by kernel_rfl) rfl
theorem en64 : ∀ args w, (callFunc 64 args).run Tryz.prog w = .ok (.enter 64 args) w := enters_of Tryz.func64 (by kernel_rfl) rfl
theorem en65 : ∀ args w, (callFunc 65 args).run Tryz.prog w = .ok (.enter 65 args) w := enters_of Tryz.func65 (by kernel_rfl) rfl
theorem en66 : ∀ args w, (callFunc 66 args).run Tryz.prog w = .ok (.enter 66 args) w := enters_of Tryz.func66 (by kernel_rfl) rfl
theorem en67 : ∀ args w, (callFunc 67 args).run Tryz.prog w = .ok (.enter 67 args) w := enters_of Tryz.func67 (by kernel_rfl) rfl
theorem en68 : ∀ args w, (callFunc 68 args).run Tryz.prog w = .ok (.enter 68 args) w := enters_of Tryz.func68 (by kernel_rfl) rfl
theorem en69 : ∀ args w, (callFunc 69 args).run Tryz.prog w = .ok (.enter 69 args) w := enters_of Tryz.func69 (by kernel_rfl) rfl
theorem en70 : ∀ args w, (callFunc 70 args).run Tryz.prog w = .ok (.enter 70 args) w := enters_of Tryz.func70 (by kernel_rfl) rfl
theorem en71 : ∀ args w, (callFunc 71 args).run Tryz.prog w = .ok (.enter 71 args) w := enters_of Tryz.func71 (by kernel_rfl) rfl
theorem en72 : ∀ args w, (callFunc 72 args).run Tryz.prog w = .ok (.enter 72 args) w := enters_of Tryz.func72 (by kernel_rfl) rfl
theorem en73 : ∀ args w, (callFunc 73 args).run Tryz.prog w = .ok (.enter 73 args) w := enters_of Tryz.func73 (by kernel_rfl) rfl
theorem en74 : ∀ args w, (callFunc 74 args).run Tryz.prog w = .ok (.enter 74 args) w := enters_of Tryz.func74 (by kernel_rfl) rfl
theorem en75 : ∀ args w, (callFunc 75 args).run Tryz.prog w = .ok (.enter 75 args) w := enters_of Tryz.func75 (by kernel_rfl) rfl
theorem en76 : ∀ args w, (callFunc 76 args).run Tryz.prog w = .ok (.enter 76 args) w := enters_of Tryz.func76 (by kernel_rfl) rfl
theorem en77 : ∀ args w, (callFunc 77 args).run Tryz.prog w = .ok (.enter 77 args) w := enters_of Tryz.func77 (by kernel_rfl) rfl
theorem en78 : ∀ args w, (callFunc 78 args).run Tryz.prog w = .ok (.enter 78 args) w := enters_of Tryz.func78 (by kernel_rfl) rfl
theorem en79 : ∀ args w, (callFunc 79 args).run Tryz.prog w = .ok (.enter 79 args) w := enters_of Tryz.func79 (by kernel_rfl) rfl
theorem en80 : ∀ args w, (callFunc 80 args).run Tryz.prog w = .ok (.enter 80 args) w := enters_of Tryz.func80 (by kernel_rfl) rfl
theorem en81 : ∀ args w, (callFunc 81 args).run Tryz.prog w = .ok (.enter 81 args) w := enters_of Tryz.func81 (by kernel_rfl) rfl
theorem en82 : ∀ args w, (callFunc 82 args).run Tryz.prog w = .ok (.enter 82 args) w := enters_of Tryz.func82 (by kernel_rfl) rfl
theorem en83 : ∀ args w, (callFunc 83 args).run Tryz.prog w = .ok (.enter 83 args) w := enters_of Tryz.func83 (by kernel_rfl) rfl
theorem en84 : ∀ args w, (callFunc 84 args).run Tryz.prog w = .ok (.enter 84 args) w := enters_of Tryz.func84 (by kernel_rfl) rfl
theorem en85 : ∀ args w, (callFunc 85 args).run Tryz.prog w = .ok (.enter 85 args) w := enters_of Tryz.func85 (by kernel_rfl) rfl
theorem en86 : ∀ args w, (callFunc 86 args).run Tryz.prog w = .ok (.enter 86 args) w := enters_of Tryz.func86 (by kernel_rfl) rfl
theorem en87 : ∀ args w, (callFunc 87 args).run Tryz.prog w = .ok (.enter 87 args) w := enters_of Tryz.func87 (by kernel_rfl) rfl
theorem en88 : ∀ args w, (callFunc 88 args).run Tryz.prog w = .ok (.enter 88 args) w := enters_of Tryz.func88 (by kernel_rfl) rfl
theorem en89 : ∀ args w, (callFunc 89 args).run Tryz.prog w = .ok (.enter 89 args) w := enters_of Tryz.func89 (by kernel_rfl) rfl
theorem en90 : ∀ args w, (callFunc 90 args).run Tryz.prog w = .ok (.enter 90 args) w := enters_of Tryz.func90 (by kernel_rfl) rfl
theorem en91 : ∀ args w, (callFunc 91 args).run Tryz.prog w = .ok (.enter 91 args) w := enters_of Tryz.func91 (by kernel_rfl) rfl
theorem en92 : ∀ args w, (callFunc 92 args).run Tryz.prog w = .ok (.enter 92 args) w := enters_of Tryz.func92 (by kernel_rfl) rfl
theorem en93 : ∀ args w, (callFunc 93 args).run Tryz.prog w = .ok (.enter 93 args) w := enters_of Tryz.func93 (by kernel_rfl) rfl
theorem en94 : ∀ args w, (callFunc 94 args).run Tryz.prog w = .ok (.enter 94 args) w := enters_of Tryz.func94 (by kernel_rfl) rfl
theorem en95 : ∀ args w, (callFunc 95 args).run Tryz.prog w = .ok (.enter 95 args) w := enters_of Tryz.func95 (by kernel_rfl) rfl
theorem en96 : ∀ args w, (callFunc 96 args).run Tryz.prog w = .ok (.enter 96 args) w := enters_of Tryz.func96 (by kernel_rfl) rfl
theorem en97 : ∀ args w, (callFunc 97 args).run Tryz.prog w = .ok (.enter 97 args) w := enters_of Tryz.func97 (by kernel_rfl) rfl
theorem en98 : ∀ args w, (callFunc 98 args).run Tryz.prog w = .ok (.enter 98 args) w := enters_of Tryz.func98 (by kernel_rfl) rfl
theorem en99 : ∀ args w, (callFunc 99 args).run Tryz.prog w = .ok (.enter 99 args) w := enters_of Tryz.func99 (by kernel_rfl) rfl
theorem en100 : ∀ args w, (callFunc 100 args).run Tryz.prog w = .ok (.enter 100 args) w := enters_of Tryz.func100 (by kernel_rfl) rfl
theorem en101 : ∀ args w, (callFunc 101 args).run Tryz.prog w = .ok (.enter 101 args) w := enters_of Tryz.func101 (by kernel_rfl) rfl
theorem en102 : ∀ args w, (callFunc 102 args).run Tryz.prog w = .ok (.enter 102 args) w := enters_of Tryz.func102 (by kernel_rfl) rfl
theorem en103 : ∀ args w, (callFunc 103 args).run Tryz.prog w = .ok (.enter 103 args) w := enters_of Tryz.func103 (by kernel_rfl) rfl
theorem en104 : ∀ args w, (callFunc 104 args).run Tryz.prog w = .ok (.enter 104 args) w := enters_of Tryz.func104 (by kernel_rfl) rfl
theorem en105 : ∀ args w, (callFunc 105 args).run Tryz.prog w = .ok (.enter 105 args) w := enters_of Tryz.func105 (by kernel_rfl) rfl
theorem en106 : ∀ args w, (callFunc 106 args).run Tryz.prog w = .ok (.enter 106 args) w := enters_of Tryz.func106 (by kernel_rfl) rfl
theorem en107 : ∀ args w, (callFunc 107 args).run Tryz.prog w = .ok (.enter 107 args) w := enters_of Tryz.func107 (by kernel_rfl) rfl
theorem en108 : ∀ args w, (callFunc 108 args).run Tryz.prog w = .ok (.enter 108 args) w := enters_of Tryz.func108 (by kernel_rfl) rfl
theorem en109 : ∀ args w, (callFunc 109 args).run Tryz.prog w = .ok (.enter 109 args) w := enters_of Tryz.func109 (by kernel_rfl) rfl
theorem en110 : ∀ args w, (callFunc 110 args).run Tryz.prog w = .ok (.enter 110 args) w := enters_of Tryz.func110 (by kernel_rfl) rfl
theorem en111 : ∀ args w, (callFunc 111 args).run Tryz.prog w = .ok (.enter 111 args) w := enters_of Tryz.func111 (by kernel_rfl) rfl
theorem en112 : ∀ args w, (callFunc 112 args).run Tryz.prog w = .ok (.enter 112 args) w := enters_of Tryz.func112 (by kernel_rfl) rfl
theorem en113 : ∀ args w, (callFunc 113 args).run Tryz.prog w = .ok (.enter 113 args) w := enters_of Tryz.func113 (by kernel_rfl) rfl
theorem en114 : ∀ args w, (callFunc 114 args).run Tryz.prog w = .ok (.enter 114 args) w := enters_of Tryz.func114 (by kernel_rfl) rfl
theorem en115 : ∀ args w, (callFunc 115 args).run Tryz.prog w = .ok (.enter 115 args) w := enters_of Tryz.func115 (by kernel_rfl) rfl
theorem en116 : ∀ args w, (callFunc 116 args).run Tryz.prog w = .ok (.enter 116 args) w := enters_of Tryz.func116 (by kernel_rfl) rfl
theorem en117 : ∀ args w, (callFunc 117 args).run Tryz.prog w = .ok (.enter 117 args) w := enters_of Tryz.func117 (by kernel_rfl) rfl
theorem en118 : ∀ args w, (callFunc 118 args).run Tryz.prog w = .ok (.enter 118 args) w := enters_of Tryz.func118 (by kernel_rfl) rfl
theorem en119 : ∀ args w, (callFunc 119 args).run Tryz.prog w = .ok (.enter 119 args) w := enters_of Tryz.func119 (by kernel_rfl) rfl
theorem en120 : ∀ args w, (callFunc 120 args).run Tryz.prog w = .ok (.enter 120 args) w := enters_of Tryz.func120 (by kernel_rfl) rfl
theorem en121 : ∀ args w, (callFunc 121 args).run Tryz.prog w = .ok (.enter 121 args) w := enters_of Tryz.func121 (by kernel_rfl) rfl
theorem en122 : ∀ args w, (callFunc 122 args).run Tryz.prog w = .ok (.enter 122 args) w := enters_of Tryz.func122 (by kernel_rfl) rfl
theorem en123 : ∀ args w, (callFunc 123 args).run Tryz.prog w = .ok (.enter 123 args) w := enters_of Tryz.func123 (by kernel_rfl) rfl
theorem en124 : ∀ args w, (callFunc 124 args).run Tryz.prog w = .ok (.enter 124 args) w := enters_of Tryz.func124 (by kernel_rfl) rfl
theorem en125 : ∀ args w, (callFunc 125 args).run Tryz.prog w = .ok (.enter 125 args) w := enters_of Tryz.func125 (by kernel_rfl) rfl
theorem en126 : ∀ args w, (callFunc 126 args).run Tryz.prog w = .ok (.enter 126 args) w := enters_of Tryz.func126 (by kernel_rfl) rfl
theorem en127 : ∀ args w, (callFunc 127 args).run Tryz.prog w = .ok (.enter 127 args) w := enters_of Tryz.func127 (by kernel_rfl) rfl
theorem en128 : ∀ args w, (callFunc 128 args).run Tryz.prog w = .ok (.enter 128 args) w := enters_of Tryz.func128 (by kernel_rfl) rfl
theorem en129 : ∀ args w, (callFunc 129 args).run Tryz.prog w = .ok (.enter 129 args) w := enters_of Tryz.func129 (by kernel_rfl) rfl
theorem en130 : ∀ args w, (callFunc 130 args).run Tryz.prog w = .ok (.enter 130 args) w := enters_of Tryz.func130 (by kernel_rfl) rfl
theorem en131 : ∀ args w, (callFunc 131 args).run Tryz.prog w = .ok (.enter 131 args) w := enters_of Tryz.func131 (by kernel_rfl) rfl
theorem en132 : ∀ args w, (callFunc 132 args).run Tryz.prog w = .ok (.enter 132 args) w := enters_of Tryz.func132 (by kernel_rfl) rfl
theorem en133 : ∀ args w, (callFunc 133 args).run Tryz.prog w = .ok (.enter 133 args) w := enters_of Tryz.func133 (by kernel_rfl) rfl
theorem en134 : ∀ args w, (callFunc 134 args).run Tryz.prog w = .ok (.enter 134 args) w := enters_of Tryz.func134 (by kernel_rfl) rfl
theorem en135 : ∀ args w, (callFunc 135 args).run Tryz.prog w = .ok (.enter 135 args) w := enters_of Tryz.func135 (by kernel_rfl) rfl
theorem en136 : ∀ args w, (callFunc 136 args).run Tryz.prog w = .ok (.enter 136 args) w := enters_of Tryz.func136 (by kernel_rfl) rfl
theorem en137 : ∀ args w, (callFunc 137 args).run Tryz.prog w = .ok (.enter 137 args) w := enters_of Tryz.func137 (by kernel_rfl) rfl
theorem en138 : ∀ args w, (callFunc 138 args).run Tryz.prog w = .ok (.enter 138 args) w := enters_of Tryz.func138 (by kernel_rfl) rfl
theorem en139 : ∀ args w, (callFunc 139 args).run Tryz.prog w = .ok (.enter 139 args) w := enters_of Tryz.func139 (by kernel_rfl) rfl
theorem en140 : ∀ args w, (callFunc 140 args).run Tryz.prog w = .ok (.enter 140 args) w := enters_of Tryz.func140 (by kernel_rfl) rfl
theorem en141 : ∀ args w, (callFunc 141 args).run Tryz.prog w = .ok (.enter 141 args) w := enters_of Tryz.func141 (by kernel_rfl) rfl
theorem en142 : ∀ args w, (callFunc 142 args).run Tryz.prog w = .ok (.enter 142 args) w := enters_of Tryz.func142 (by kernel_rfl) rfl
theorem en143 : ∀ args w, (callFunc 143 args).run Tryz.prog w = .ok (.enter 143 args) w := enters_of Tryz.func143 (by kernel_rfl) rfl
theorem en144 : ∀ args w, (callFunc 144 args).run Tryz.prog w = .ok (.enter 144 args) w := enters_of Tryz.func144 (by kernel_rfl) rfl
theorem en145 : ∀ args w, (callFunc 145 args).run Tryz.prog w = .ok (.enter 145 args) w := enters_of Tryz.func145 (by kernel_rfl) rfl
theorem en146 : ∀ args w, (callFunc 146 args).run Tryz.prog w = .ok (.enter 146 args) w := enters_of Tryz.func146 (by kernel_rfl) rfl
theorem en147 : ∀ args w, (callFunc 147 args).run Tryz.prog w = .ok (.enter 147 args) w := enters_of Tryz.func147 (by kernel_rfl) rfl
theorem en148 : ∀ args w, (callFunc 148 args).run Tryz.prog w = .ok (.enter 148 args) w := enters_of Tryz.func148 (by kernel_rfl) rfl
theorem en149 : ∀ args w, (callFunc 149 args).run Tryz.prog w = .ok (.enter 149 args) w := enters_of Tryz.func149 (by kernel_rfl) rfl
theorem en150 : ∀ args w, (callFunc 150 args).run Tryz.prog w = .ok (.enter 150 args) w := enters_of Tryz.func150 (by kernel_rfl) rfl
theorem en151 : ∀ args w, (callFunc 151 args).run Tryz.prog w = .ok (.enter 151 args) w := enters_of Tryz.func151 (by kernel_rfl) rfl
theorem en152 : ∀ args w, (callFunc 152 args).run Tryz.prog w = .ok (.enter 152 args) w := enters_of Tryz.func152 (by kernel_rfl) rfl
theorem en153 : ∀ args w, (callFunc 153 args).run Tryz.prog w = .ok (.enter 153 args) w := enters_of Tryz.func153 (by kernel_rfl) rfl
theorem en154 : ∀ args w, (callFunc 154 args).run Tryz.prog w = .ok (.enter 154 args) w := enters_of Tryz.func154 (by kernel_rfl) rfl
theorem en155 : ∀ args w, (callFunc 155 args).run Tryz.prog w = .ok (.enter 155 args) w := enters_of Tryz.func155 (by kernel_rfl) rfl
theorem en156 : ∀ args w, (callFunc 156 args).run Tryz.prog w = .ok (.enter 156 args) w := enters_of Tryz.func156 (by kernel_rfl) rfl
theorem en157 : ∀ args w, (callFunc 157 args).run Tryz.prog w = .ok (.enter 157 args) w := enters_of Tryz.func157 (by kernel_rfl) rfl
theorem en158 : ∀ args w, (callFunc 158 args).run Tryz.prog w = .ok (.enter 158 args) w := enters_of Tryz.func158 (by kernel_rfl) rfl
theorem en159 : ∀ args w, (callFunc 159 args).run Tryz.prog w = .ok (.enter 159 args) w := enters_of Tryz.func159 (by kernel_rfl) rfl
theorem en160 : ∀ args w, (callFunc 160 args).run Tryz.prog w = .ok (.enter 160 args) w := enters_of Tryz.func160 (by kernel_rfl) rfl
theorem en161 : ∀ args w, (callFunc 161 args).run Tryz.prog w = .ok (.enter 161 args) w := enters_of Tryz.func161 (by kernel_rfl) rfl
theorem en162 : ∀ args w, (callFunc 162 args).run Tryz.prog w = .ok (.enter 162 args) w := enters_of Tryz.func162 (by kernel_rfl) rfl
theorem en163 : ∀ args w, (callFunc 163 args).run Tryz.prog w = .ok (.enter 163 args) w := enters_of Tryz.func163 (by kernel_rfl) rfl
theorem en164 : ∀ args w, (callFunc 164 args).run Tryz.prog w = .ok (.enter 164 args) w := enters_of Tryz.func164 (by kernel_rfl) rfl
theorem en165 : ∀ args w, (callFunc 165 args).run Tryz.prog w = .ok (.enter 165 args) w := enters_of Tryz.func165 (by kernel_rfl) rfl
theorem en166 : ∀ args w, (callFunc 166 args).run Tryz.prog w = .ok (.enter 166 args) w := enters_of Tryz.func166 (by kernel_rfl) rfl
theorem en167 : ∀ args w, (callFunc 167 args).run Tryz.prog w = .ok (.enter 167 args) w := enters_of Tryz.func167 (by kernel_rfl) rfl
theorem en168 : ∀ args w, (callFunc 168 args).run Tryz.prog w = .ok (.enter 168 args) w := enters_of Tryz.func168 (by kernel_rfl) rfl
theorem en169 : ∀ args w, (callFunc 169 args).run Tryz.prog w = .ok (.enter 169 args) w := enters_of Tryz.func169 (by kernel_rfl) rfl
theorem en170 : ∀ args w, (callFunc 170 args).run Tryz.prog w = .ok (.enter 170 args) w := enters_of Tryz.func170 (by kernel_rfl) rfl
theorem en171 : ∀ args w, (callFunc 171 args).run Tryz.prog w = .ok (.enter 171 args) w := enters_of Tryz.func171 (by kernel_rfl) rfl
theorem en172 : ∀ args w, (callFunc 172 args).run Tryz.prog w = .ok (.enter 172 args) w := enters_of Tryz.func172 (by kernel_rfl) rfl
theorem en173 : ∀ args w, (callFunc 173 args).run Tryz.prog w = .ok (.enter 173 args) w := enters_of Tryz.func173 (by kernel_rfl) rfl
theorem en174 : ∀ args w, (callFunc 174 args).run Tryz.prog w = .ok (.enter 174 args) w := enters_of Tryz.func174 (by kernel_rfl) rfl
theorem en175 : ∀ args w, (callFunc 175 args).run Tryz.prog w = .ok (.enter 175 args) w := enters_of Tryz.func175 (by kernel_rfl) rfl
theorem en176 : ∀ args w, (callFunc 176 args).run Tryz.prog w = .ok (.enter 176 args) w := enters_of Tryz.func176 (by kernel_rfl) rfl
theorem en177 : ∀ args w, (callFunc 177 args).run Tryz.prog w = .ok (.enter 177 args) w := enters_of Tryz.func177 (by kernel_rfl) rfl
theorem en178 : ∀ args w, (callFunc 178 args).run Tryz.prog w = .ok (.enter 178 args) w := enters_of Tryz.func178 (by kernel_rfl) rfl
theorem en179 : ∀ args w, (callFunc 179 args).run Tryz.prog w = .ok (.enter 179 args) w := enters_of Tryz.func179 (by kernel_rfl) rfl
theorem en180 : ∀ args w, (callFunc 180 args).run Tryz.prog w = .ok (.enter 180 args) w := enters_of Tryz.func180 (by kernel_rfl) rfl
theorem en181 : ∀ args w, (callFunc 181 args).run Tryz.prog w = .ok (.enter 181 args) w := enters_of Tryz.func181 (by kernel_rfl) rfl
theorem en182 : ∀ args w, (callFunc 182 args).run Tryz.prog w = .ok (.enter 182 args) w := enters_of Tryz.func182 (by kernel_rfl) rfl
theorem en183 : ∀ args w, (callFunc 183 args).run Tryz.prog w = .ok (.enter 183 args) w := enters_of Tryz.func183 (by kernel_rfl) rfl
theorem en184 : ∀ args w, (callFunc 184 args).run Tryz.prog w = .ok (.enter 184 args) w := enters_of Tryz.func184 (by kernel_rfl) rfl
theorem en185 : ∀ args w, (callFunc 185 args).run Tryz.prog w = .ok (.enter 185 args) w := enters_of Tryz.func185 (by kernel_rfl) rfl
theorem en186 : ∀ args w, (callFunc 186 args).run Tryz.prog w = .ok (.enter 186 args) w := enters_of Tryz.func186 (by kernel_rfl) rfl
theorem en187 : ∀ args w, (callFunc 187 args).run Tryz.prog w = .ok (.enter 187 args) w := enters_of Tryz.func187 (by kernel_rfl) rfl
theorem en188 : ∀ args w, (callFunc 188 args).run Tryz.prog w = .ok (.enter 188 args) w := enters_of Tryz.func188 (by kernel_rfl) rfl
theorem en189 : ∀ args w, (callFunc 189 args).run Tryz.prog w = .ok (.enter 189 args) w := enters_of Tryz.func189 (by kernel_rfl) rfl
theorem en190 : ∀ args w, (callFunc 190 args).run Tryz.prog w = .ok (.enter 190 args) w := enters_of Tryz.func190 (by kernel_rfl) rfl
theorem en191 : ∀ args w, (callFunc 191 args).run Tryz.prog w = .ok (.enter 191 args) w := enters_of Tryz.func191 (by kernel_rfl) rfl
theorem en192 : ∀ args w, (callFunc 192 args).run Tryz.prog w = .ok (.enter 192 args) w := enters_of Tryz.func192 (by kernel_rfl) rfl
theorem en193 : ∀ args w, (callFunc 193 args).run Tryz.prog w = .ok (.enter 193 args) w := enters_of Tryz.func193 (by kernel_rfl) rfl
theorem en194 : ∀ args w, (callFunc 194 args).run Tryz.prog w = .ok (.enter 194 args) w := enters_of Tryz.func194 (by kernel_rfl) rfl
theorem en195 : ∀ args w, (callFunc 195 args).run Tryz.prog w = .ok (.enter 195 args) w := enters_of Tryz.func195 (by kernel_rfl) rfl
theorem en196 : ∀ args w, (callFunc 196 args).run Tryz.prog w = .ok (.enter 196 args) w := enters_of Tryz.func196 (by kernel_rfl) rfl
theorem en197 : ∀ args w, (callFunc 197 args).run Tryz.prog w = .ok (.enter 197 args) w := enters_of Tryz.func197 (by kernel_rfl) rfl
theorem en198 : ∀ args w, (callFunc 198 args).run Tryz.prog w = .ok (.enter 198 args) w := enters_of Tryz.func198 (by kernel_rfl) rfl
theorem en199 : ∀ args w, (callFunc 199 args).run Tryz.prog w = .ok (.enter 199 args) w := enters_of Tryz.func199 (by kernel_rfl) rfl
theorem en200 : ∀ args w, (callFunc 200 args).run Tryz.prog w = .ok (.enter 200 args) w := enters_of Tryz.func200 (by kernel_rfl) rfl
theorem en201 : ∀ args w, (callFunc 201 args).run Tryz.prog w = .ok (.enter 201 args) w := enters_of Tryz.func201 (by kernel_rfl) rfl
theorem en202 : ∀ args w, (callFunc 202 args).run Tryz.prog w = .ok (.enter 202 args) w := enters_of Tryz.func202 (by kernel_rfl) rfl
theorem en244 : ∀ args w, (callFunc 244 args).run Tryz.prog w = .ok (.enter 244 args) w := enters_of Tryz.func244 (by kernel_rfl) rfl
theorem en250 : ∀ args w, (callFunc 250 args).run Tryz.prog w = .ok (.enter 250 args) w := enters_of Tryz.func250 (by kernel_rfl) rfl
theorem en259 : ∀ args w, (callFunc 259 args).run Tryz.prog w = .ok (.enter 259 args) w := enters_of Tryz.func259 (by kernel_rfl) rfl
theorem en230 : ∀ args w, (callFunc 230 args).run Tryz.prog w = .ok (.enter 230 args) w := enters_of Tryz.func230 (by kernel_rfl) rfl
theorem en265 : ∀ args w, (callFunc 265 args).run Tryz.prog w = .ok (.enter 265 args) w := enters_of Tryz.func265 (by kernel_rfl) rfl
theorem en286 : ∀ args w, (callFunc 286 args).run Tryz.prog w = .ok (.enter 286 args) w := enters_of Tryz.func286 (by kernel_rfl) rfl
theorem en287 : ∀ args w, (callFunc 287 args).run Tryz.prog w = .ok (.enter 287 args) w := enters_of Tryz.func287 (by kernel_rfl) rfl
theorem en220 : ∀ args w, (callFunc 220 args).run Tryz.prog w = .ok (.enter 220 args) w := enters_of Tryz.func220 (by kernel_rfl) rfl
theorem en222 : ∀ args w, (callFunc 222 args).run Tryz.prog w = .ok (.enter 222 args) w := enters_of Tryz.func222 (by kernel_rfl) rfl
theorem en212 : ∀ args w, (callFunc 212 args).run Tryz.prog w = .ok (.enter 212 args) w := enters_of Tryz.func212 (by kernel_rfl) rfl
theorem en213 : ∀ args w, (callFunc 213 args).run Tryz.prog w = .ok (.enter 213 args) w := enters_of Tryz.func213 (by kernel_rfl) rfl
end Go.Tal

namespace Go.Tal
open Go.RowKit Go.Proofs
def whenI (b : Bool) (e : Int) : Int := bif b then e else 0
theorem when_fn (b : Bool) (e : Int) (h : H) : FnV Tryz.prog 96 #[.bool b, .int .i64 e] h (.int .i64 (whenI b e)) := by
 refine fn_of (vs := [.bool b, .int .i64 e]) Tryz.func96 rfl Tryz.ntmps96 (Nat.le_of_ble_eq_true rfl) fun w hw => ?_
 refine wp_seq' (wp_text rfl ?_)
 refine rm rfl ?_
 apply run_end
 refine wp_seq' (wp_seq' (wp_text rfl ?_))
 refine rm rfl ?_
 apply run_end
 refine (wp_cond' rfl (fun hb => ?_) (fun hb => ?_))
 ·refine wp_seq' (wp_text rfl ?_)
  refine rm rfl ?_
  refine rm rfl ?_
  apply run_end
  apply wp_ret'
  exact fin_ret (res_tmp rfl rfl) (by subst hb; rfl)
 ·apply wp_skip'
  refine wp_seq' (wp_text rfl ?_)
  refine rm rfl ?_
  apply run_end
  apply wp_ret'
  exact fin_ret (res_tmp rfl rfl) (by subst hb; rfl)
def cellsI (c : Int) : Int := whenI (decide (c < 0) || decide (256 < c)) 3
theorem checkCells_fn (c : Int) (h : H) : FnV Tryz.prog 95 #[.int .i64 c] h (.int .i64 (cellsI c)) := by
 refine fn_of (vs := [.int .i64 c]) Tryz.func95 rfl Tryz.ntmps95 (Nat.le_of_ble_eq_true rfl) fun w hw => ?_
 apply wp_seq'
 refine wp_text rfl ?_
 refine rm rfl ?_
 apply run_end
 apply wp_seq'
 refine wp_text rfl ?_
 refine rm rfl ?_
 refine rs rfl (s_lt rfl rfl rfl) ?_
 refine rm rfl ?_
 refine run_cases (t := 5) rfl (fun hg => ?_) (fun hg => ?_)
 ·skip
  refine run_skip rfl rfl rfl rfl rfl rfl rfl ?_
  refine run_skip rfl rfl rfl rfl rfl rfl rfl ?_
  refine rs rfl (s_pick rfl rfl (fun _ => rfl) (fun h => by cases h)) ?_
  refine run_callv (vs := [_, _]) rfl rfl rfl rfl rfl rfl en96 (when_fn _ _ _) ?_
  refine rm rfl ?_
  apply run_end
  apply wp_ret'
  exact fin_ret (res_tmp rfl rfl) (by simp [cellsI, hg])
 ·skip
  refine rsg rfl rfl (s_move rfl rfl) ?_
  refine rsg rfl rfl (s_gt rfl rfl rfl) ?_
  refine rs rfl (s_pick rfl rfl (fun h => by cases h) (fun _ => rfl)) ?_
  refine run_callv (vs := [_, _]) rfl rfl rfl rfl rfl rfl en96 (when_fn _ _ _) ?_
  refine rm rfl ?_
  apply run_end
  apply wp_ret'
  exact fin_ret (res_tmp rfl rfl) (by simp [cellsI, hg])
def firstI (l : List Int) : Int := (l.find? (· != 0)).getD 0
theorem firstI_drop {l : List Int} {i : Nat} (hi : i < l.length) : firstI (l.drop i) = if l.getD i 0 = 0 then firstI (l.drop (i + 1)) else l.getD i 0 := by
 rw [List.drop_eq_getElem_cons hi]
 simp only [firstI, List.find?_cons, List.getD_eq_getElem?_getD, List.getElem?_eq_getElem hi, Option.getD_some]
 by_cases e : l[i] = 0
 ·simp [e]
 ·rw [if_neg e, show (l[i] != 0) = true from by simpa using e]; rfl
set_option maxRecDepth 4000 in
theorem first_fn (l : List Int) (v : Value) (h : H) (hl : RdI h v l) : FnV Tryz.prog 94 #[v] h (.int .i64 (firstI l)) := by
 have hlm : l.length ≤ 4294967296 := by obtain ⟨_, _, _, h1, _⟩ := hl; exact h1
 refine fn_of (vs := [v]) Tryz.func94 rfl Tryz.ntmps94 (Nat.le_of_ble_eq_true rfl) fun w hw => ?_
 apply wp_seq'
 refine wp_text rfl ?_
 refine rm rfl ?_
 apply run_end
 apply wp_seq'
 apply wp_seq'
 refine wp_text rfl ?_
 refine rm rfl ?_
 refine rs rfl (s_lenI hl rfl rfl Tryz.underlying178) ?_
 refine rm rfl ?_
 apply run_end
 apply wp_block'
 refine wp_loop' (fun i : Nat => i ≤ l.length ∧ firstI (l.drop i) = firstI l) (fun i => ⟨[(7, .int .i64 i), (6, .int .i64 l.length), (5, v)], h, []⟩) (fun i => l.length - i) 0 ⟨Nat.zero_le _, by simp⟩ ⟨by repeat (first|exact True.intro|refine And.intro rfl ?_), rfl, List.Sublist.refl _⟩ fun i hi => ?_
 apply wp_seq'
 refine wp_text rfl ?_
 refine rs rfl (s_lt rfl rfl rfl) ?_
 apply run_end
 apply wp_seq'
 refine wp_if' rfl (fun hc => ?_) (fun hc => ?_)
 ·skip
  apply wp_skip'
  apply wp_seq'
  apply wp_block'
  apply wp_seq'
  refine wp_text rfl ?_
  refine rs rfl (s_iaI hl (by omega) (by omega) rfl rfl rfl Tryz.underlying178 Tryz.sizeOf27) ?_
  refine rs rfl (s_ldI hl (by omega) (by omega) rfl rfl Tryz.isAgg27) ?_
  refine rm rfl ?_
  apply run_end
  apply wp_seq'
  refine wp_text rfl ?_
  refine rm rfl ?_
  refine rs rfl (s_ne rfl rfl rfl) ?_
  apply run_end
  have hf := firstI_drop (l := l) (i := i) (by omega)
  simp only [Int.toNat_natCast] at hf ⊢
  refine wp_if' rfl (fun hd => ?_) (fun hd => ?_)
  ·skip
   apply wp_seq'
   refine wp_text rfl ?_
   refine rm rfl ?_
   refine rm rfl ?_
   apply run_end
   apply wp_ret'
   exact fin_ret (res_tmp rfl rfl) (by rw [if_neg hd] at hf; rw [← hi.2, hf])
  ·skip
   apply wp_skip'
   refine wp_text rfl ?_
   refine rs rfl (s_add rfl rfl rfl (IntWalk.i64_in _ (by omega))) ?_
   refine rm rfl ?_
   apply run_end
   exact ⟨i + 1, ⟨by omega, by rw [if_pos (Decidable.not_not.1 hd)] at hf; rw [← hf]; exact hi.2⟩, by omega, ⟨by repeat (first|exact True.intro|refine And.intro rfl ?_), rfl, List.Sublist.refl _⟩⟩
 ·skip
  apply wp_exit'
  apply wp_seq'
  refine wp_text rfl ?_
  refine rm rfl ?_
  apply run_end
  apply wp_ret'
  exact fin_ret (res_tmp rfl rfl) (by rw [← hi.2, List.drop_eq_nil_of_le (by omega)]; rfl)
end Go.Tal

namespace Tal

abbrev Sym := List Int × Bool

def comp (a b : Sym) : Sym := (b.1.map fun c => a.1.getD c.toNat 0, a.2 != b.2)
def ident (n : Nat) : Sym := ((List.range n).map fun (i : Nat) => (i : Int), false)
/-- A permutation of n cells. -/
def PermL (n : Nat) (p : List Int) : Prop := p.length = n ∧ p.Nodup ∧ ∀ x ∈ p, 0 ≤ x ∧ x < n
def Ok (n : Nat) (a : Sym) : Prop := PermL n a.1

/-! ### lists without repetition -/
theorem nodup_sub_len {α : Type} : ∀ {xs ys : List α}, xs.Nodup → (∀ x ∈ xs, x ∈ ys) → xs.length ≤ ys.length
 | [], _, _, _ => Nat.zero_le _
 | x :: xs, ys, hn, hs => by
  obtain ⟨s, t, rfl⟩ := List.append_of_mem (hs x List.mem_cons_self)
  have hn' := List.nodup_cons.1 hn
  have h := nodup_sub_len (xs := xs) (ys := s ++ t) hn'.2 (fun y hy => by
   have h1 := hs y (List.mem_cons_of_mem _ hy)
   simp only [List.mem_append, List.mem_cons] at h1 ⊢
   rcases h1 with h1 | rfl | h1
   ·exact .inl h1
   ·exact absurd hy hn'.1
   ·exact .inr h1)
  simp only [List.length_append, List.length_cons] at h ⊢
  omega
theorem nodup_sub_eq {α : Type} {xs ys : List α} (hn : xs.Nodup) (hs : ∀ x ∈ xs, x ∈ ys) (hl : ys.length ≤ xs.length) : ∀ y ∈ ys, y ∈ xs := by
 classical
 intro y hy
 refine Classical.byContradiction fun hc => ?_
 have h := nodup_sub_len (xs := y :: xs) (ys := ys) (List.nodup_cons.2 ⟨hc, hn⟩) (fun z hz => by
  rcases List.mem_cons.1 hz with rfl | hz
  ·exact hy
  ·exact hs z hz)
 simp only [List.length_cons] at h
 omega
theorem nodup_map_on {α β : Type} {f : α → β} : ∀ {xs : List α}, (∀ x ∈ xs, ∀ y ∈ xs, f x = f y → x = y) → xs.Nodup → (xs.map f).Nodup
 | [], _, _ => by simp
 | x :: xs, hf, hn => by
  have hn' := List.nodup_cons.1 hn
  rw [List.map_cons, List.nodup_cons]
  refine ⟨fun hm => ?_, nodup_map_on (fun y hy z hz => hf y (List.mem_cons_of_mem _ hy) z (List.mem_cons_of_mem _ hz)) hn'.2⟩
  obtain ⟨y, hy, he⟩ := List.mem_map.1 hm
  have := hf y (List.mem_cons_of_mem _ hy) x List.mem_cons_self he
  subst this
  exact hn'.1 hy

/-! ### permutations -/
theorem getD_mem {p : List Int} {i : Nat} (h : i < p.length) : p.getD i 0 ∈ p := by
 rw [List.getD_eq_getElem?_getD, List.getElem?_eq_getElem h]; exact List.getElem_mem h
theorem nodup_getD_inj {p : List Int} (hn : p.Nodup) {i j : Nat} (hi : i < p.length) (hj : j < p.length) (h : p.getD i 0 = p.getD j 0) : i = j := by
 rw [List.getD_eq_getElem?_getD, List.getD_eq_getElem?_getD, List.getElem?_eq_getElem hi, List.getElem?_eq_getElem hj] at h
 exact (List.getElem?_inj hi hn).1 (by rw [List.getElem?_eq_getElem hi, List.getElem?_eq_getElem hj]; simpa using h)
theorem PermL.getD_range {n : Nat} {p : List Int} (h : PermL n p) {i : Nat} (hi : i < n) : 0 ≤ p.getD i 0 ∧ p.getD i 0 < n := h.2.2 _ (getD_mem (by rw [h.1]; exact hi))
/-- Every cell is met. -/
theorem PermL.onto {n : Nat} {p : List Int} (h : PermL n p) {c : Int} (h0 : 0 ≤ c) (h1 : c < n) : c ∈ p := by
 refine nodup_sub_eq (xs := p) (ys := (List.range n).map fun (i : Nat) => (i : Int)) h.2.1 (fun x hx => ?_) (by simp [h.1]) c ?_
 ·have := h.2.2 x hx
  exact List.mem_map.2 ⟨x.toNat, by simp; omega, by omega⟩
 ·exact List.mem_map.2 ⟨c.toNat, by simp; omega, by omega⟩
theorem Ok.ident (n : Nat) : Ok n (ident n) := by
 refine ⟨by simp [Tal.ident], ?_, ?_⟩
 ·exact nodup_map_on (fun x _ y _ h => by omega) List.nodup_range
 ·intro x hx
  obtain ⟨i, hi, rfl⟩ := List.mem_map.1 hx
  have := List.mem_range.1 hi
  omega
theorem Ok.comp {n : Nat} {a b : Sym} (ha : Ok n a) (hb : Ok n b) : Ok n (comp a b) := by
 refine ⟨by simp [Tal.comp, hb.1], ?_, ?_⟩
 ·refine nodup_map_on (fun x hx y hy h => ?_) hb.2.1
  have h1 := hb.2.2 x hx
  have h2 := hb.2.2 y hy
  have := nodup_getD_inj ha.2.1 (by rw [ha.1]; omega) (by rw [ha.1]; omega) h
  omega
 ·intro x hx
  obtain ⟨c, hc, rfl⟩ := List.mem_map.1 hx
  have := hb.2.2 c hc
  exact ha.getD_range (by omega)
theorem comp_getD {n : Nat} {a b : Sym} (hb : Ok n b) {i : Nat} (hi : i < n) : (comp a b).1.getD i 0 = a.1.getD (b.1.getD i 0).toNat 0 := by
 have : i < b.1.length := by rw [hb.1]; exact hi
 simp [comp, List.getD_eq_getElem?_getD, List.getElem?_eq_getElem this]
theorem ext_getD {n : Nat} {p q : List Int} (hp : p.length = n) (hq : q.length = n) (h : ∀ i, i < n → p.getD i 0 = q.getD i 0) : p = q := by
 refine List.ext_getElem (by omega) fun i h1 h2 => ?_
 have := h i (by omega)
 rwa [List.getD_eq_getElem?_getD, List.getD_eq_getElem?_getD, List.getElem?_eq_getElem h1, List.getElem?_eq_getElem h2] at this
theorem comp_assoc {n : Nat} {a b c : Sym} (hb : Ok n b) (hc : Ok n c) : comp (comp a b) c = comp a (comp b c) := by
 refine Prod.ext ?_ (by simp [comp])
 refine ext_getD (n := n) (by simp [comp, hc.1]) (by simp [comp, hc.1]) fun i hi => ?_
 have h1 := hc.getD_range hi
 rw [comp_getD hc hi, comp_getD hb (by omega), comp_getD (hb.comp hc) hi, comp_getD hc hi]
theorem ident_getD {n i : Nat} (hi : i < n) : (ident n).1.getD i 0 = (i : Int) := by
 simp [ident, List.getD_eq_getElem?_getD, hi]
theorem ident_comp {n : Nat} {a : Sym} (ha : Ok n a) : comp (ident n) a = a := by
 refine Prod.ext ?_ (by simp [comp, ident])
 refine ext_getD (n := n) (by simp [comp, ha.1]) ha.1 fun i hi => ?_
 have := ha.getD_range hi
 rw [comp_getD ha hi, ident_getD (by omega)]
 omega
theorem comp_ident {n : Nat} {a : Sym} (ha : Ok n a) : comp a (ident n) = a := by
 refine Prod.ext ?_ (by simp [comp, ident])
 refine ext_getD (n := n) (by simp [comp, ident]) ha.1 fun i hi => ?_
 rw [comp_getD (Ok.ident n) hi, ident_getD hi]
 rfl
theorem comp_left_cancel {n : Nat} {a x y : Sym} (ha : Ok n a) (hx : Ok n x) (hy : Ok n y) (h : comp a x = comp a y) : x = y := by
 refine Prod.ext ?_ ?_
 ·refine ext_getD (n := n) hx.1 hy.1 fun i hi => ?_
  have h1 := congrArg (fun s : Sym => s.1.getD i 0) h
  simp only [comp_getD hx hi, comp_getD hy hi] at h1
  have r1 := hx.getD_range hi
  have r2 := hy.getD_range hi
  have := nodup_getD_inj ha.2.1 (by rw [ha.1]; omega) (by rw [ha.1]; omega) h1
  omega
 ·have h2 := congrArg (·.2) h
  simp only [comp] at h2
  revert h2
  cases a.2 <;> cases x.2 <;> cases y.2 <;> simp
/-- The inverse. -/
def inv (a : Sym) : Sym := ((List.range a.1.length).map fun (i : Nat) => ((a.1.idxOf (i : Int) : Nat) : Int), a.2)
theorem idxOf_getD {p : List Int} {c : Int} (h : c ∈ p) : p.getD (p.idxOf c) 0 = c := by
 have hl := List.idxOf_lt_length_iff.2 h
 rw [List.getD_eq_getElem?_getD, List.getElem?_eq_getElem hl]
 exact List.getElem_idxOf hl
theorem inv_getD {n : Nat} {a : Sym} (ha : Ok n a) {i : Nat} (hi : i < n) : (inv a).1.getD i 0 = (a.1.idxOf (i : Int) : Nat) := by
 have : i < a.1.length := by rw [ha.1]; exact hi
 simp [inv, List.getD_eq_getElem?_getD, this]
theorem Ok.inv {n : Nat} {a : Sym} (ha : Ok n a) : Ok n (inv a) := by
 refine ⟨by simp [Tal.inv, ha.1], ?_, ?_⟩
 ·refine nodup_map_on (fun x hx y hy h => ?_) List.nodup_range
  have h1 := List.mem_range.1 hx
  have h2 := List.mem_range.1 hy
  rw [ha.1] at h1 h2
  have e1 := idxOf_getD (ha.onto (c := (x : Int)) (by omega) (by omega))
  have e2 := idxOf_getD (ha.onto (c := (y : Int)) (by omega) (by omega))
  have : a.1.idxOf (x : Int) = a.1.idxOf (y : Int) := by omega
  rw [this, e2] at e1
  omega
 ·intro x hx
  obtain ⟨i, hi, rfl⟩ := List.mem_map.1 hx
  have h1 := List.mem_range.1 hi
  rw [ha.1] at h1
  have := List.idxOf_lt_length_iff.2 (ha.onto (c := (i : Int)) (by omega) (by omega))
  rw [ha.1] at this
  omega
theorem comp_inv {n : Nat} {a : Sym} (ha : Ok n a) : comp a (inv a) = ident n := by
 refine Prod.ext ?_ (by simp [comp, inv, ident])
 refine ext_getD (n := n) (by simp [comp, inv, ha.1]) (by simp [ident]) fun i hi => ?_
 rw [comp_getD ha.inv hi, inv_getD ha hi, ident_getD hi]
 exact idxOf_getD (ha.onto (by omega) (by omega))
theorem inv_comp {n : Nat} {a : Sym} (ha : Ok n a) : comp (inv a) a = ident n := by
 refine comp_left_cancel ha (ha.inv.comp ha) (Ok.ident n) ?_
 rw [← comp_assoc ha.inv ha, comp_inv ha, ident_comp ha, comp_ident ha]
theorem comp_right_cancel {n : Nat} {a x y : Sym} (ha : Ok n a) (hx : Ok n x) (hy : Ok n y) (h : comp x a = comp y a) : x = y := by
 have h1 := congrArg (fun s => comp s (inv a)) h
 rwa [comp_assoc ha ha.inv, comp_assoc ha ha.inv, comp_inv ha, comp_ident hx, comp_ident hy] at h1

/-! ### what symmetries generate -/
inductive Gen (n : Nat) (S : Sym → Prop) : Sym → Prop
 | one : Gen n S (ident n)
 | mul {b x : Sym} : S b → Gen n S x → Gen n S (comp b x)
theorem Gen.ok {n : Nat} {S : Sym → Prop} (hS : ∀ b, S b → Ok n b) {x : Sym} (h : Gen n S x) : Ok n x := by
 induction h with
 | one => exact Ok.ident n
 | mul hb _ ih => exact (hS _ hb).comp ih
theorem Gen.mono {n : Nat} {S S' : Sym → Prop} (hS : ∀ b, S b → S' b) {x : Sym} (h : Gen n S x) : Gen n S' x := by
 induction h with
 | one => exact .one
 | mul hb _ ih => exact .mul (hS _ hb) ih
theorem Gen.base {n : Nat} {S : Sym → Prop} {b : Sym} (hb : S b) (ho : Ok n b) : Gen n S b := by
 have := Gen.mul (n := n) hb .one
 rwa [comp_ident ho] at this
theorem Gen.comp {n : Nat} {S : Sym → Prop} (hS : ∀ b, S b → Ok n b) {x y : Sym} (hx : Gen n S x) (hy : Gen n S y) : Gen n S (comp x y) := by
 induction hx with
 | one => rw [ident_comp (hy.ok hS)]; exact hy
 | mul hb h ih => rw [comp_assoc (h.ok hS) (hy.ok hS)]; exact .mul hb ih
/-- What lies in a set that left products keep. -/
theorem Gen.sub {n : Nat} {S : Sym → Prop} {T : Sym → Prop} (h1 : T (ident n)) (hm : ∀ b x, S b → T x → T (Tal.comp b x)) {x : Sym} (h : Gen n S x) : T x := by
 induction h with
 | one => exact h1
 | mul hb _ ih => exact hm _ _ hb ih
theorem Gen.gen {n : Nat} {S S' : Sym → Prop} (hS' : ∀ b, S' b → Ok n b) (h : ∀ b, S b → Gen n S' b) {x : Sym} (hx : Gen n S x) : Gen n S' x :=
 hx.sub .one fun _ _ hb hx => Gen.comp hS' (h _ hb) hx

/-- A list that is closed, and not empty, has the identity. -/
theorem closed_ident {n : Nat} {l : List Sym} (hok : ∀ a ∈ l, Ok n a) (hn : l.Nodup) (hne : l ≠ []) (hc : ∀ a ∈ l, ∀ b ∈ l, comp a b ∈ l) : ident n ∈ l := by
 obtain ⟨a, ha⟩ : ∃ a, a ∈ l := List.exists_mem_of_ne_nil l hne
 have hnd : (l.map (comp a)).Nodup := nodup_map_on (fun x hx y hy h => comp_left_cancel (hok a ha) (hok x hx) (hok y hy) h) hn
 have h := nodup_sub_eq (xs := l.map (comp a)) (ys := l) hnd (fun x hx => by
  obtain ⟨b, hb, rfl⟩ := List.mem_map.1 hx
  exact hc a ha b hb) (by simp) a ha
 obtain ⟨e, he, hae⟩ := List.mem_map.1 h
 have : e = ident n := comp_left_cancel (hok a ha) (hok e he) (Ok.ident n) (by rw [hae, comp_ident (hok a ha)])
 rwa [← this]
theorem closed_gen {n : Nat} {l : List Sym} (hok : ∀ a ∈ l, Ok n a) (hn : l.Nodup) (hne : l ≠ []) (hc : ∀ a ∈ l, ∀ b ∈ l, comp a b ∈ l) {x : Sym} (hx : Gen n (· ∈ l) x) : x ∈ l :=
 hx.sub (closed_ident hok hn hne hc) fun b y hb hy => hc b hb y hy
theorem closed_inv {n : Nat} {l : List Sym} (hok : ∀ a ∈ l, Ok n a) (hn : l.Nodup) (hc : ∀ a ∈ l, ∀ b ∈ l, comp a b ∈ l) {a : Sym} (ha : a ∈ l) : inv a ∈ l := by
 have hne : l ≠ [] := by intro h; rw [h] at ha; cases ha
 have hnd : (l.map (comp a)).Nodup := nodup_map_on (fun x hx y hy h => comp_left_cancel (hok a ha) (hok x hx) (hok y hy) h) hn
 have h := nodup_sub_eq (xs := l.map (comp a)) (ys := l) hnd (fun x hx => by
  obtain ⟨b, hb, rfl⟩ := List.mem_map.1 hx
  exact hc a ha b hb) (by simp) _ (closed_ident hok hn hne hc)
 obtain ⟨e, he, hae⟩ := List.mem_map.1 h
 have : e = inv a := comp_left_cancel (hok a ha) (hok e he) (hok a ha).inv (by rw [hae, comp_inv (hok a ha)])
 rwa [← this]

/-! ### the search for all products -/
/-- One element q, multiplied by what generates. -/
def inner (limit : Nat) (q : Sym) : List Sym → List Sym → Option (List Sym)
 | [], g => some g
 | b :: used, g => if comp b q ∈ g then inner limit q used g else if g.length = limit then none else inner limit q used (g ++ [comp b q])
def bfs (limit : Nat) (used : List Sym) : Nat → List Sym → Nat → Option (List Sym)
 | 0, g, _ => some g
 | k + 1, g, i => if i < g.length then (inner limit (g.getD i ([], false)) used g).bind fun g' => bfs limit used k g' (i + 1) else some g
def clos (n limit : Nat) : List Sym → List Sym → List Sym → Option (List Sym × List Sym)
 | [], g, used => some (g, used)
 | a :: l, g, used => if a ∈ g then clos n limit l g used else (bfs limit (used ++ [a]) (limit + 1) [ident n] 0).bind fun g' => clos n limit l g' (used ++ [a])

/-- What is known of a list on the way: no element twice, all of them products. -/
def Way (n : Nat) (S : Sym → Prop) (limit : Nat) (g : List Sym) : Prop := g.Nodup ∧ (∀ x ∈ g, Gen n S x) ∧ ident n ∈ g ∧ g.length ≤ limit
/-- There are more products than limit. -/
def More (n : Nat) (S : Sym → Prop) (limit : Nat) : Prop := ∃ g : List Sym, g.Nodup ∧ (∀ x ∈ g, Gen n S x) ∧ limit < g.length
theorem nodup_snoc {α : Type} {g : List α} {x : α} (h : g.Nodup) (hx : x ∉ g) : (g ++ [x]).Nodup := by
 rw [List.nodup_append]
 refine ⟨h, by simp, fun a ha b hb => ?_⟩
 rintro rfl
 simp at hb
 subst hb
 exact hx ha

theorem inner_some {n limit : Nat} {S : Sym → Prop} {q : Sym} (hq : Gen n S q) : ∀ (used : List Sym) (g g' : List Sym), (∀ b ∈ used, S b) → Way n S limit g → inner limit q used g = some g' →
 Way n S limit g' ∧ (∃ t, g' = g ++ t) ∧ ∀ b ∈ used, comp b q ∈ g'
 | [], g, g', _, hw, h => by
  simp only [inner, Option.some.injEq] at h
  subst h
  exact ⟨hw, ⟨[], by simp⟩, by simp⟩
 | b :: used, g, g', hu, hw, h => by
  simp only [inner] at h
  by_cases hm : comp b q ∈ g
  ·rw [if_pos hm] at h
   obtain ⟨h1, ⟨t, rfl⟩, h3⟩ := inner_some hq used g g' (fun c hc => hu c (List.mem_cons_of_mem _ hc)) hw h
   refine ⟨h1, ⟨t, rfl⟩, fun c hc => ?_⟩
   rcases List.mem_cons.1 hc with rfl | hc
   ·exact List.mem_append_left _ hm
   ·exact h3 c hc
  ·rw [if_neg hm] at h
   by_cases hl : g.length = limit
   ·rw [if_pos hl] at h; cases h
   ·rw [if_neg hl] at h
    have hw' : Way n S limit (g ++ [comp b q]) := by
     refine ⟨nodup_snoc hw.1 hm, fun x hx => ?_, List.mem_append_left _ hw.2.2.1, by have := hw.2.2.2; simp; omega⟩
     rcases List.mem_append.1 hx with hx | hx
     ·exact hw.2.1 x hx
     ·simp at hx
      subst hx
      exact .mul (hu b List.mem_cons_self) hq
    obtain ⟨h1, ⟨t, rfl⟩, h3⟩ := inner_some hq used _ g' (fun c hc => hu c (List.mem_cons_of_mem _ hc)) hw' h
    refine ⟨h1, ⟨[comp b q] ++ t, by simp⟩, fun c hc => ?_⟩
    rcases List.mem_cons.1 hc with rfl | hc
    ·simp
    ·exact h3 c hc
theorem inner_none {n limit : Nat} {S : Sym → Prop} {q : Sym} (hq : Gen n S q) : ∀ (used : List Sym) (g : List Sym), (∀ b ∈ used, S b) → Way n S limit g → inner limit q used g = none → More n S limit
 | [], g, _, _, h => by simp [inner] at h
 | b :: used, g, hu, hw, h => by
  simp only [inner] at h
  by_cases hm : comp b q ∈ g
  ·rw [if_pos hm] at h
   exact inner_none hq used g (fun c hc => hu c (List.mem_cons_of_mem _ hc)) hw h
  ·rw [if_neg hm] at h
   have hg : ∀ x ∈ g ++ [comp b q], Gen n S x := fun x hx => by
    rcases List.mem_append.1 hx with hx | hx
    ·exact hw.2.1 x hx
    ·simp at hx
     subst hx
     exact .mul (hu b List.mem_cons_self) hq
   by_cases hl : g.length = limit
   ·exact ⟨g ++ [comp b q], nodup_snoc hw.1 hm, hg, by simp; omega⟩
   ·rw [if_neg hl] at h
    refine inner_none hq used _ (fun c hc => hu c (List.mem_cons_of_mem _ hc)) ⟨nodup_snoc hw.1 hm, hg, List.mem_append_left _ hw.2.2.1, by have := hw.2.2.2; simp; omega⟩ h

theorem bfs_some {n limit : Nat} {S : Sym → Prop} {used : List Sym} (hu : ∀ b ∈ used, S b) : ∀ (k : Nat) (g : List Sym) (i : Nat) (g' : List Sym), limit < k + i → Way n S limit g → i ≤ g.length →
 (∀ j, j < i → ∀ b ∈ used, comp b (g.getD j ([], false)) ∈ g) → bfs limit used k g i = some g' → Way n S limit g' ∧ ∀ x ∈ g', ∀ b ∈ used, comp b x ∈ g'
 | 0, g, i, g', hk, hw, hi, _, _ => by have := hw.2.2.2; omega
 | k + 1, g, i, g', hk, hw, hi, hc, h => by
  simp only [bfs] at h
  by_cases hlt : i < g.length
  ·rw [if_pos hlt] at h
   have hmem : g.getD i ([], false) ∈ g := by rw [List.getD_eq_getElem?_getD, List.getElem?_eq_getElem hlt]; exact List.getElem_mem hlt
   obtain ⟨g1, h1, h2⟩ := Option.bind_eq_some_iff.1 h
   obtain ⟨w1, ⟨t, rfl⟩, c1⟩ := inner_some (hw.2.1 _ hmem) used g g1 hu hw h1
   refine bfs_some hu k _ (i + 1) g' (by omega) w1 (by simp; omega) (fun j hj b hb => ?_) h2
   have hjl : j < g.length := by omega
   have e : (g ++ t).getD j ([], false) = g.getD j ([], false) := by simp [List.getD_eq_getElem?_getD, List.getElem?_append_left hjl]
   rw [e]
   rcases Nat.lt_or_ge j i with h3 | h3
   ·exact List.mem_append_left _ (hc j h3 b hb)
   ·obtain rfl : j = i := by omega
    exact c1 b hb
  ·rw [if_neg hlt] at h
   injection h with h
   subst h
   refine ⟨hw, fun x hx b hb => ?_⟩
   obtain ⟨j, hj, rfl⟩ := List.mem_iff_getElem.1 hx
   have := hc j (by omega) b hb
   rwa [List.getD_eq_getElem?_getD, List.getElem?_eq_getElem hj] at this
theorem bfs_none {n limit : Nat} {S : Sym → Prop} {used : List Sym} (hu : ∀ b ∈ used, S b) : ∀ (k : Nat) (g : List Sym) (i : Nat), Way n S limit g → bfs limit used k g i = none → More n S limit
 | 0, g, i, _, h => by simp [bfs] at h
 | k + 1, g, i, hw, h => by
  simp only [bfs] at h
  by_cases hlt : i < g.length
  ·rw [if_pos hlt] at h
   have hmem : g.getD i ([], false) ∈ g := by rw [List.getD_eq_getElem?_getD, List.getElem?_eq_getElem hlt]; exact List.getElem_mem hlt
   cases h1 : inner limit (g.getD i ([], false)) used g with
   | none => exact inner_none (hw.2.1 _ hmem) used g hu hw h1
   | some g1 =>
    rw [h1] at h
    exact bfs_none hu k g1 (i + 1) (inner_some (hw.2.1 _ hmem) used g g1 hu hw h1).1 h
  ·rw [if_neg hlt] at h; cases h
theorem way_one {n limit : Nat} {S : Sym → Prop} (h : 1 ≤ limit) : Way n S limit [ident n] := ⟨by simp, fun x hx => by simp at hx; subst hx; exact .one, by simp, by simpa using h⟩

/-- What is known between two elements of the list. -/
def Full (n : Nat) (limit : Nat) (g used : List Sym) : Prop := Way n (· ∈ used) limit g ∧ ∀ x ∈ g, ∀ b ∈ used, comp b x ∈ g
theorem Full.all {n limit : Nat} {g used : List Sym} (h : Full n limit g used) {x : Sym} : x ∈ g ↔ Gen n (· ∈ used) x :=
 ⟨h.1.2.1 x, fun hx => hx.sub h.1.2.2.1 fun b y hb hy => h.2 y hy b hb⟩
theorem clos_some {n limit : Nat} (h1 : 1 ≤ limit) : ∀ (l g used g' used' : List Sym), (∀ a ∈ l, Ok n a) → (∀ a ∈ used, Ok n a) → Full n limit g used → clos n limit l g used = some (g', used') →
 Full n limit g' used' ∧ (∃ t, used' = used ++ t ∧ ∀ a ∈ t, a ∈ l) ∧ (∀ x ∈ g, x ∈ g') ∧ ∀ a ∈ l, a ∈ g'
 | [], g, used, g', used', _, _, hf, h => by
  simp only [clos, Option.some.injEq, Prod.mk.injEq] at h
  obtain ⟨rfl, rfl⟩ := h
  exact ⟨hf, ⟨[], by simp, by simp⟩, fun _ hx => hx, by simp⟩
 | a :: l, g, used, g', used', hl, hu, hf, h => by
  simp only [clos] at h
  by_cases hm : a ∈ g
  ·rw [if_pos hm] at h
   obtain ⟨r1, ⟨t, rfl, ht⟩, r3, r4⟩ := clos_some h1 l g used g' used' (fun b hb => hl b (List.mem_cons_of_mem _ hb)) hu hf h
   refine ⟨r1, ⟨t, rfl, fun b hb => List.mem_cons_of_mem _ (ht b hb)⟩, r3, fun b hb => ?_⟩
   rcases List.mem_cons.1 hb with rfl | hb
   ·exact r3 _ hm
   ·exact r4 b hb
  ·rw [if_neg hm] at h
   obtain ⟨g1, e1, e2⟩ := Option.bind_eq_some_iff.1 h
   have hu' : ∀ b ∈ used ++ [a], Ok n b := fun b hb => by
    rcases List.mem_append.1 hb with hb | hb
    ·exact hu b hb
    ·simp at hb; subst hb; exact hl _ List.mem_cons_self
   have hf1 : Full n limit g1 (used ++ [a]) := bfs_some (n := n) (S := (· ∈ used ++ [a])) (fun b hb => hb) (limit + 1) [ident n] 0 g1 (by omega) (way_one h1) (by simp) (fun j hj => by omega) e1
   obtain ⟨r1, ⟨t, rfl, ht⟩, r3, r4⟩ := clos_some h1 l g1 (used ++ [a]) g' used' (fun b hb => hl b (List.mem_cons_of_mem _ hb)) hu' hf1 e2
   have ha1 : a ∈ g1 := hf1.all.2 (.base (by simp) (hl a List.mem_cons_self))
   refine ⟨r1, ⟨[a] ++ t, by simp, fun b hb => ?_⟩, fun x hx => ?_, fun b hb => ?_⟩
   ·rcases List.mem_append.1 hb with hb | hb
    ·simp at hb; subst hb; exact List.mem_cons_self
    ·exact List.mem_cons_of_mem _ (ht b hb)
   ·exact r3 x (hf1.all.2 ((hf.all.1 hx).mono fun b hb => List.mem_append_left _ hb))
   ·rcases List.mem_cons.1 hb with rfl | hb
    ·exact r3 _ ha1
    ·exact r4 b hb
theorem clos_none {n limit : Nat} (h1 : 1 ≤ limit) : ∀ (l g used : List Sym), (∀ a ∈ l, Ok n a) → (∀ a ∈ used, Ok n a) → Full n limit g used → clos n limit l g used = none →
 More n (fun x => x ∈ used ∨ x ∈ l) limit
 | [], g, used, _, _, _, h => by simp [clos] at h
 | a :: l, g, used, hl, hu, hf, h => by
  simp only [clos] at h
  have sub : ∀ {S : Sym → Prop}, (∀ x, S x → x ∈ used ∨ x ∈ a :: l) → More n S limit → More n (fun x => x ∈ used ∨ x ∈ a :: l) limit :=
   fun hS ⟨m, m1, m2, m3⟩ => ⟨m, m1, fun x hx => (m2 x hx).mono hS, m3⟩
  by_cases hm : a ∈ g
  ·rw [if_pos hm] at h
   exact sub (fun x hx => hx.imp id (List.mem_cons_of_mem _)) (clos_none h1 l g used (fun b hb => hl b (List.mem_cons_of_mem _ hb)) hu hf h)
  ·rw [if_neg hm] at h
   have hu' : ∀ b ∈ used ++ [a], Ok n b := fun b hb => by
    rcases List.mem_append.1 hb with hb | hb
    ·exact hu b hb
    ·simp at hb; subst hb; exact hl _ List.mem_cons_self
   have hS : ∀ x, x ∈ used ++ [a] → x ∈ used ∨ x ∈ a :: l := fun x hx => by
    rcases List.mem_append.1 hx with hx | hx
    ·exact .inl hx
    ·simp at hx; subst hx; exact .inr List.mem_cons_self
   cases e1 : bfs limit (used ++ [a]) (limit + 1) [ident n] 0 with
   | none => exact sub hS (bfs_none (n := n) (S := (· ∈ used ++ [a])) (fun b hb => hb) _ _ _ (way_one h1) e1)
   | some g1 =>
    rw [e1] at h
    have hf1 : Full n limit g1 (used ++ [a]) := bfs_some (n := n) (S := (· ∈ used ++ [a])) (fun b hb => hb) (limit + 1) [ident n] 0 g1 (by omega) (way_one h1) (by simp) (fun j hj => by omega) e1
    refine sub ?_ (clos_none h1 l g1 (used ++ [a]) (fun b hb => hl b (List.mem_cons_of_mem _ hb)) hu' hf1 h)
    intro x hx
    rcases hx with hx | hx
    ·exact hS x hx
    ·exact .inr (List.mem_cons_of_mem _ hx)
/-- The whole search. -/
def closure (n limit : Nat) (l : List Sym) : Option (List Sym × List Sym) := clos n limit l [ident n] []
theorem full_one {n limit : Nat} (h : 1 ≤ limit) : Full n limit [ident n] [] := ⟨way_one h, by simp⟩
theorem closure_some {n limit : Nat} {l g used : List Sym} (h1 : 1 ≤ limit) (hl : ∀ a ∈ l, Ok n a) (h : closure n limit l = some (g, used)) :
 g.Nodup ∧ g.length ≤ limit ∧ (∀ x, x ∈ g ↔ Gen n (· ∈ l) x) ∧ (∀ x, x ∈ g ↔ Gen n (· ∈ used) x) ∧ (∀ a ∈ used, a ∈ l) ∧ ∀ a ∈ l, a ∈ g := by
 obtain ⟨hf, ⟨t, rfl, ht⟩, _, h4⟩ := clos_some h1 l [ident n] [] g used hl (by simp) (full_one h1) h
 refine ⟨hf.1.1, hf.1.2.2.2, fun x => ⟨fun hx => (hf.all.1 hx).mono ht, fun hx => hf.all.2 ?_⟩, fun x => hf.all, ht, h4⟩
 exact hx.gen (fun b hb => hl b (ht b hb)) (fun b hb => hf.all.1 (h4 b hb))
theorem closure_none {n limit : Nat} {l : List Sym} (h1 : 1 ≤ limit) (hl : ∀ a ∈ l, Ok n a) (h : closure n limit l = none) : More n (· ∈ l) limit := by
 obtain ⟨m, m1, m2, m3⟩ := clos_none h1 l [ident n] [] hl (by simp) (full_one h1) h
 exact ⟨m, m1, fun x hx => (m2 x hx).mono (by simp), m3⟩

/-- How the program asks whether a list is a group. -/
theorem closure_group {n : Nat} {l : List Sym} (hl : ∀ a ∈ l, Ok n a) (hn : l.Nodup) (hne : l ≠ []) :
 (∃ g used, closure n l.length l = some (g, used) ∧ g.length = l.length) ↔ ∀ a ∈ l, ∀ b ∈ l, comp a b ∈ l := by
 have h1 : 1 ≤ l.length := by cases l with | nil => exact absurd rfl hne | cons a l => simp
 constructor
 ·rintro ⟨g, used, h, hlen⟩ a ha b hb
  obtain ⟨g1, _, g3, _, _, g6⟩ := closure_some h1 hl h
  refine nodup_sub_eq (xs := l) (ys := g) hn g6 (by omega) _ ?_
  exact (g3 _).2 (Gen.comp hl ((g3 a).1 (g6 a ha)) ((g3 b).1 (g6 b hb)))
 ·intro hc
  cases h : closure n l.length l with
  | none =>
   obtain ⟨m, m1, m2, m3⟩ := closure_none h1 hl h
   have := nodup_sub_len m1 (ys := l) (fun x hx => closed_gen hl hn hne hc (m2 x hx))
   omega
  | some r =>
   obtain ⟨g, used⟩ := r
   obtain ⟨g1, g2, g3, _, _, g6⟩ := closure_some h1 hl h
   refine ⟨g, used, rfl, Nat.le_antisymm g2 (nodup_sub_len hn g6)⟩

end Tal

namespace Tal
def permLoop (n : Nat) : List Int → List Bool → Bool
 | [], _ => true
 | x :: p, seen => if x < 0 ∨ (n : Int) ≤ x ∨ seen.getD x.toNat false = true then false else permLoop n p (seen.set x.toNat true)
theorem permLoop_iff (n : Nat) : ∀ (p : List Int) (seen : List Bool), seen.length = n →
 (permLoop n p seen = true ↔ p.Nodup ∧ ∀ x ∈ p, 0 ≤ x ∧ x < n ∧ seen.getD x.toNat false = false)
 | [], _, _ => by simp [permLoop]
 | x :: p, seen, hs => by
  simp only [permLoop]
  by_cases h : x < 0 ∨ (n : Int) ≤ x ∨ seen.getD x.toNat false = true
  ·rw [if_pos h]
   refine ⟨fun h => (by cases h), fun hh => ?_⟩
   have h2 := hh.2
   have := h2 x List.mem_cons_self
   rcases h with h | h | h
   ·omega
   ·omega
   ·rw [this.2.2] at h; cases h
  ·rw [if_neg h, permLoop_iff n p _ (by rw [List.length_set]; exact hs)]
   have h0 : 0 ≤ x := by
    rcases Int.lt_or_le x 0 with h1 | h1
    ·exact absurd (.inl h1) h
    ·exact h1
   have h1 : x < n := by
    rcases Int.lt_or_le x n with h1 | h1
    ·exact h1
    ·exact absurd (.inr (.inl h1)) h
   have h2 : seen.getD x.toNat false = false := by
    cases h3 : seen.getD x.toNat false with
    | false => rfl
    | true => exact absurd (.inr (.inr h3)) h
   have key : ∀ y : Int, 0 ≤ y → ((seen.set x.toNat true).getD y.toNat false = false ↔ y ≠ x ∧ seen.getD y.toNat false = false) := by
    intro y hy
    simp only [List.getD_eq_getElem?_getD]
    by_cases e : y = x
    ·subst e
     rw [List.getElem?_set_self (by omega)]
     simp
    ·rw [List.getElem?_set_ne (by omega)]
     simp [e]
   rw [List.nodup_cons]
   constructor
   ·rintro ⟨hn, ha⟩
    refine ⟨⟨fun hx => ?_, hn⟩, fun y hy => ?_⟩
    ·have := ha x hx
     exact ((key x this.1).1 this.2.2).1 rfl
    ·rcases List.mem_cons.1 hy with rfl | hy
     ·exact ⟨h0, h1, h2⟩
     ·have := ha y hy
      exact ⟨this.1, this.2.1, ((key y this.1).1 this.2.2).2⟩
   ·rintro ⟨⟨hx, hn⟩, ha⟩
    refine ⟨hn, fun y hy => ?_⟩
    have := ha y (List.mem_cons_of_mem _ hy)
    exact ⟨this.1, this.2.1, (key y this.1).2 ⟨fun e => hx (e ▸ hy), this.2.2⟩⟩
def isPerm (p : List Int) : Bool := decide (p.length ≤ 256) && permLoop p.length p (List.replicate p.length false)
theorem isPerm_iff (p : List Int) : isPerm p = true ↔ p.length ≤ 256 ∧ PermL p.length p := by
 unfold isPerm PermL
 rw [Bool.and_eq_true, decide_eq_true_iff, permLoop_iff _ _ _ (by simp)]
 refine and_congr_right fun _ => ⟨fun ⟨h1, h2⟩ => ⟨rfl, h1, fun x hx => ⟨(h2 x hx).1, (h2 x hx).2.1⟩⟩, fun ⟨_, h1, h2⟩ => ⟨h1, fun x hx => ⟨(h2 x hx).1, (h2 x hx).2, ?_⟩⟩⟩
 simp [List.getD_eq_getElem?_getD, List.getElem?_replicate]
 split <;> rfl
end Tal

namespace Go.Tal
open Go.RowKit Go.Proofs Go.Proofs.Tryz _root_.Tal
def permI (l : List Int) : Int := bif decide (256 < l.length) then 5 else bif permLoop l.length l (List.replicate l.length false) then 0 else 14
theorem permI_eq (l : List Int) : decide (permI l = 0) = isPerm l := by
 unfold permI isPerm
 by_cases h : 256 < l.length
 ·simp [h]; omega
 ·simp [h, Nat.le_of_not_lt h]
  cases permLoop l.length l (List.replicate l.length false) <;> simp
theorem permLoop_step {n i : Nat} {l : List Int} {s : List Bool} (hi : i < l.length) : permLoop n (l.drop i) s = if l.getD i 0 < 0 ∨ (n : Int) ≤ l.getD i 0 ∨ s.getD (l.getD i 0).toNat false = true then false else permLoop n (l.drop (i + 1)) (s.set (l.getD i 0).toNat true) := by
 rw [List.drop_eq_getElem_cons hi, permLoop]
 simp only [List.getD_eq_getElem?_getD, List.getElem?_eq_getElem hi, Option.getD_some]
def symI (a : List Int) (c : Int) : Int := firstI [cellsI c, whenI (decide ((a.length : Int) ≠ c)) 2, whenI (!isPerm a) 14]
set_option maxRecDepth 8000 in
theorem checkPerm_fn (l : List Int) (v : Value) (h : H) (hl : RdI h v l) : FnV Tryz.prog 198 #[v] h (.int .i64 (permI l)) := by
 have hlm : l.length ≤ 4294967296 := by obtain ⟨_, _, _, h1, _⟩ := hl; exact h1
 refine fn_of (vs := [v]) func198 rfl ntmps198 (Nat.le_of_ble_eq_true rfl) fun w hw => ?_
 apply wp_seq'
 refine wp_text rfl ?_
 refine rm rfl ?_
 apply run_end
 apply wp_seq'
 apply wp_seq'
 refine wp_text rfl ?_
 refine rm rfl ?_
 refine rs rfl (s_lenI hl rfl rfl underlying35) ?_
 refine rs rfl (s_gt rfl rfl rfl) ?_
 apply run_end
 refine wp_if' rfl (fun hc8 => ?_) (fun hc8 => ?_)
 ·skip
  have e8 : decide (256 < l.length) = true := by simp; omega
  apply wp_seq'
  refine wp_text rfl ?_
  refine rm rfl ?_
  apply run_end
  apply wp_ret'
  exact fin_ret (res_tmp rfl rfl) (by simp [permI, e8])
 ·skip
  have e8 : decide (256 < l.length) = false := by simp; omega
  apply wp_skip'
  apply wp_seq'
  refine wp_text rfl ?_
  refine rm rfl ?_
  refine rs rfl (s_lenI hl rfl rfl underlying35) ?_
  refine run_mksl rfl rfl rfl rfl rfl rfl rfl underlying108 info4 rfl (by omega) (by omega) fun b1 => ?_
  refine rm rfl ?_
  apply run_end
  apply wp_seq'
  apply wp_seq'
  refine wp_text rfl ?_
  refine rm rfl ?_
  refine rs rfl (s_lenI hl rfl rfl underlying35) ?_
  refine rm rfl ?_
  apply run_end
  apply wp_block'
  rw [← List.map_replicate (f := Value.bool)]
  refine wp_loop' (fun i : Nat × List Bool => i.1 ≤ l.length ∧ i.2.length = l.length ∧ permLoop l.length (l.drop i.1) i.2 = permLoop l.length l (List.replicate l.length false)) (fun i => ⟨[(14, .int .i64 i.1), (13, .int .i64 l.length), (12, v), (3, .slice (some ⟨b1, 0, none⟩) l.length l.length), (0, v)], h, [.row (.slice (some ⟨b1, 0, none⟩) l.length l.length) 4 1 l.length (i.2.map Value.bool)]⟩) (fun i => l.length - i.1) (0, List.replicate l.length false) ⟨Nat.zero_le _, by simp, by simp⟩ ⟨by repeat (first|exact True.intro|refine And.intro rfl ?_), rfl, by repeat (first|exact NS _|exact SR _|apply SCC|apply SC)⟩ fun i hi => ?_
  obtain ⟨i, sn⟩ := i
  obtain ⟨hi, hs, hp⟩ := hi
  dsimp only at hi hs hp ⊢
  apply wp_seq'
  refine wp_text rfl ?_
  refine rs rfl (s_lt rfl rfl rfl) ?_
  apply run_end
  apply wp_seq'
  refine wp_if' rfl (fun hc15 => ?_) (fun hc15 => ?_)
  ·skip
   apply wp_skip'
   apply wp_seq'
   apply wp_block'
   apply wp_seq'
   refine wp_text rfl ?_
   refine rs rfl (s_iaI hl (by omega) (by omega) rfl rfl rfl underlying35 sizeOf3) ?_
   refine rs rfl (s_ldI hl (by omega) (by omega) rfl rfl isAgg3) ?_
   try simp only [Int.toNat_natCast]
   refine rm rfl ?_
   apply run_end
   try simp only [Int.toNat_natCast]
   apply wp_seq'
   apply wp_seq'
   refine wp_text rfl ?_
   refine rm rfl ?_
   refine rs rfl (s_lt rfl rfl rfl) ?_
   refine rm rfl ?_
   refine run_cases (t := 20) rfl (fun hg20 => ?_) (fun hg20 => ?_)
   ·skip
    refine run_skip rfl rfl rfl rfl rfl rfl rfl ?_
    refine run_skip rfl rfl rfl rfl rfl rfl rfl ?_
    refine run_skip rfl rfl rfl rfl rfl rfl rfl ?_
    refine run_skip rfl rfl rfl rfl rfl rfl rfl ?_
    refine rs rfl (s_pick rfl rfl (fun _ => rfl) (fun h => by cases h)) ?_
    refine rm rfl ?_
    refine run_skip rfl rfl rfl rfl rfl rfl rfl ?_
    refine run_skip rfl rfl rfl rfl rfl rfl rfl ?_
    refine run_skip rfl rfl rfl rfl rfl rfl rfl ?_
    refine run_skip rfl rfl rfl rfl rfl rfl rfl ?_
    refine rs rfl (s_pick rfl rfl (fun _ => rfl) (fun h => by cases h)) ?_
    apply run_end
    refine wp_cond' (b := true) rfl (fun _ => ?_) (fun h => by cases h)
    apply wp_seq'
    refine wp_text rfl ?_
    refine rm rfl ?_
    apply run_end
    apply wp_ret'
    exact fin_ret (res_tmp rfl rfl) (by rw [permI, ← hp, permLoop_step (l := l) (i := i) (by omega), if_pos (by simp_all)]; simp [e8])
   ·skip
    refine rsg rfl rfl (s_move rfl rfl) ?_
    refine rsg rfl rfl (s_move rfl rfl) ?_
    refine rsg rfl rfl (s_lenI hl rfl rfl underlying35) ?_
    refine rsg rfl rfl (s_ge rfl rfl rfl) ?_
    refine rs rfl (s_pick rfl rfl (fun h => by cases h) (fun _ => rfl)) ?_
    refine rm rfl ?_
    refine run_cases (t := 26) rfl (fun hg26 => ?_) (fun hg26 => ?_)
    ·skip
     refine run_skip rfl rfl rfl rfl rfl rfl rfl ?_
     refine run_skip rfl rfl rfl rfl rfl rfl rfl ?_
     refine run_skip rfl rfl rfl rfl rfl rfl rfl ?_
     refine run_skip rfl rfl rfl rfl rfl rfl rfl ?_
     refine rs rfl (s_pick rfl rfl (fun _ => rfl) (fun h => by cases h)) ?_
     apply run_end
     refine wp_cond' (b := true) rfl (fun _ => ?_) (fun h => by cases h)
     apply wp_seq'
     refine wp_text rfl ?_
     refine rm rfl ?_
     apply run_end
     apply wp_ret'
     exact fin_ret (res_tmp rfl rfl) (by rw [permI, ← hp, permLoop_step (l := l) (i := i) (by omega), if_pos (by simp_all)]; simp [e8])
    ·skip
     refine rsg rfl rfl (s_move rfl rfl) ?_
     refine rsg rfl rfl (s_move rfl rfl) ?_
     refine rsg rfl rfl (s_ia1 rfl rfl rfl underlying108 sizeOf4 (by omega) (by omega)) ?_
     refine rsg rfl rfl (s_ld rfl rfl isAgg4 (.rowM (e := 4) (sz := 1) Value.bool false (by repeat first|exact MH _|apply MT) (by first | omega | (simp; omega)))) ?_
     refine rs rfl (s_pick rfl rfl (fun h => by cases h) (fun _ => rfl)) ?_
     apply run_end
     refine wp_cond' rfl (fun hc31 => ?_) (fun hc31 => ?_)
     ·skip
      apply wp_seq'
      refine wp_text rfl ?_
      refine rm rfl ?_
      apply run_end
      apply wp_ret'
      exact fin_ret (res_tmp rfl rfl) (by rw [permI, ← hp, permLoop_step (l := l) (i := i) (by omega), if_pos (by simp_all)]; simp [e8])
     ·skip
      apply wp_skip'
      refine wp_text rfl ?_
      refine rm rfl ?_
      refine rm rfl ?_
      refine rs rfl (s_ia1 rfl rfl rfl underlying108 sizeOf4 (by omega) (by omega)) ?_
      refine run_strowM Value.bool rfl rfl rfl rfl rfl rfl rfl rfl sizeOf4 (by repeat first|exact Swap.here|apply Swap.there) (by omega) ?_
      apply run_end
      refine wp_text rfl ?_
      refine rs rfl (s_add rfl rfl rfl (IntWalk.i64_in _ (by omega))) ?_
      refine rm rfl ?_
      apply run_end
      exact ⟨(i + 1, sn.set (l.getD i 0).toNat true), ⟨by dsimp only; omega, by simpa using hs, by rw [← hp, permLoop_step (l := l) (i := i) (by omega), if_neg (by rintro (h1 | h1 | h1) <;> first | omega | simp_all)]⟩, by dsimp only; omega, ⟨by repeat (first|exact True.intro|refine And.intro rfl ?_), rfl, by repeat (first|exact NS _|exact SR _|apply SCC|apply SC)⟩⟩
  ·skip
   apply wp_exit'
   apply wp_seq'
   refine wp_text rfl ?_
   refine rm rfl ?_
   apply run_end
   apply wp_ret'
   exact fin_ret (res_tmp rfl rfl) (by rw [permI, ← hp, List.drop_eq_nil_of_le (by omega)]; simp [permLoop, e8])
set_option maxRecDepth 8000 in
theorem isPerm_fn (l : List Int) (v : Value) (h : H) (hl : RdI h v l) : FnV Tryz.prog 140 #[v] h (.bool (isPerm l)) := by
 refine fn_of (vs := [v]) func140 rfl ntmps140 (Nat.le_of_ble_eq_true rfl) fun w hw => ?_
 apply wp_seq'
 refine wp_text rfl ?_
 refine rm rfl ?_
 apply run_end
 apply wp_seq'
 refine wp_text rfl ?_
 refine rm rfl ?_
 refine run_callv (vs := [_]) rfl rfl rfl rfl rfl rfl en198 (checkPerm_fn _ _ _ hl) ?_
 refine rs rfl (s_eq rfl rfl rfl) ?_
 refine rm rfl ?_
 apply run_end
 apply wp_ret'
 exact fin_ret (res_tmp rfl rfl) (by rw [← permI_eq])
set_option maxRecDepth 8000 in
theorem checkSym_fn (a : List Int) (cm : Bool) (c : Int) (va : Value) (h : H) (hl : RdI h va a) : FnV Tryz.prog 56 #[.agg #[va, .bool cm], .int .i64 c] h (.int .i64 (symI a c)) := by
 refine fn_of (vs := [.agg #[va, .bool cm], .int .i64 c]) func56 rfl ntmps56 (Nat.le_of_ble_eq_true rfl) fun w hw => ?_
 apply wp_seq'
 refine wp_text rfl ?_
 refine run_box rfl rfl rfl rfl rfl rfl rfl fun b1 => ?_
 refine rm rfl ?_
 apply run_end
 apply wp_seq'
 refine wp_any [0, 2, 3, 4, 5, 6, 8, 9, 1, 7, 10, 11, 12, 13, 14, 15] rfl (by kernel_rfl) ?_
 refine rm rfl ?_
 refine rs rfl (s_fa (off := 0) rfl rfl underlying37 rfl sizeOf35 rfl) ?_
 refine rs rfl (s_ld rfl rfl isAgg35 (.o_ rfl)) ?_
 refine rs rfl (s_lenI hl rfl rfl underlying35) ?_
 refine rm rfl ?_
 refine rs rfl (s_ne rfl rfl rfl) ?_
 refine rs rfl (s_fa (off := 0) rfl rfl underlying37 rfl sizeOf35 rfl) ?_
 refine rs rfl (s_ld rfl rfl isAgg35 (.o_ rfl)) ?_
 refine run_callv (vs := [_]) rfl rfl rfl rfl rfl rfl en95 (checkCells_fn _ _) ?_
 refine run_callv (vs := [_, _]) rfl rfl rfl rfl rfl rfl en96 (when_fn _ _ _) ?_
 refine run_callv (vs := [_]) rfl rfl rfl rfl rfl rfl en140 (isPerm_fn _ _ _ hl) ?_
 refine rs rfl (s_not rfl rfl) ?_
 refine run_callv (vs := [_, _]) rfl rfl rfl rfl rfl rfl en96 (when_fn _ _ _) ?_
 refine run_bsl (parts := [_, _, _]) (vs := [_, _, _]) rfl rfl rfl rfl rfl rfl (bs178_3 _ _ _) fun b2 h2 hh2 hb2 => ?_
 have hr2 := rdI_of (xs := [_, _, _]) hb2 rfl rfl (Nat.le_of_ble_eq_true rfl)
 have hl := hl.mono hh2
 refine run_callv (vs := [_]) rfl rfl rfl rfl rfl rfl en94 (first_fn _ _ _ hr2) ?_
 refine rm rfl ?_
 apply run_end
 apply wp_ret'
 exact fin_ret (res_tmp rfl rfl) (rfl)
end Go.Tal

/-
 What is read: lists of symmetries, lists of lists of integers.
-/
namespace Go.Tal
open Go.RowKit
abbrev Sy := List Int × Bool
def RdS (h : H) (v : Value) (l : List Sy) : Prop :=
 ∃ A c, v = .slice A l.length c ∧ l.length ≤ 4294967296 ∧ (0 < l.length → ∃ b o, A = some ⟨b, o, none⟩ ∧ ∃ arr t fz, h b = some (.cells arr t fz) ∧
  ∀ j, j < l.length → ∃ sv, arr[o + j * 2]? = some sv ∧ arr[o + j * 2 + 1]? = some (.bool (l.getD j ([], false)).2) ∧ RdI h sv (l.getD j ([], false)).1)
theorem RdS.mono {h h' : H} {v : Value} {l : List Sy} (r : RdS h v l) (hh : ∀ b o, h b = some o → h' b = some o) : RdS h' v l := by
 obtain ⟨A, c, e, hm, hr⟩ := r
 refine ⟨A, c, e, hm, fun hp => ?_⟩
 obtain ⟨b, o, e1, arr, t, fz, h1, h2⟩ := hr hp
 exact ⟨b, o, e1, arr, t, fz, hh _ _ h1, fun j hj => by obtain ⟨sv, h3, h4, h5⟩ := h2 j hj; exact ⟨sv, h3, h4, h5.mono hh⟩⟩
theorem RdS.len {h : H} {v : Value} {l : List Sy} (r : RdS h v l) : l.length ≤ 4294967296 := by obtain ⟨_, _, _, h1, _⟩ := r; exact h1
theorem RdI.len {h : H} {v : Value} {l : List Int} (r : RdI h v l) : l.length ≤ 4294967296 := by obtain ⟨_, _, _, h1, _⟩ := r; exact h1
theorem RdI.one {h : H} {v : Value} {l : List Int} (r : RdI h v l) : v.oneCell' = true := by obtain ⟨_, _, e, _⟩ := r; subst e; rfl
/-- The cells of element j. -/
structure SyAt (h : H) (v : Value) (j : Nat) (sv : Value) (cm : Bool) : Prop where
 at_ : ∃ b o n c arr t fz, v = .slice (some ⟨b, o, none⟩) n c ∧ h b = some (.cells arr t fz) ∧ arr[o + j * 2]? = some sv ∧ arr[o + j * 2 + 1]? = some (.bool cm)
theorem RdS.get {h : H} {v : Value} {l : List Sy} (r : RdS h v l) {j : Nat} (hj : j < l.length) : ∃ sv, RdI h sv (l.getD j ([], false)).1 ∧ SyAt h v j sv (l.getD j ([], false)).2 := by
 obtain ⟨A, c, e, hm, hr⟩ := r
 obtain ⟨b, o, e1, arr, t, fz, h1, h2⟩ := hr (by omega)
 obtain ⟨sv, h3, h4, h5⟩ := h2 j hj
 exact ⟨sv, h5, ⟨⟨b, o, _, c, arr, t, fz, by rw [e, e1], h1, h3, h4⟩⟩⟩
section
variable {P : Program} {o : Oper} {F : List (Nat × Value)} {h : H} {L : List Own} {v : Value} {x y : Operand} {l : List Sy} {m : Int} {k : IntKind}
theorem s_lenS {t e : TypeId} (r : RdS h v l) (ho : o.op = .call { callee := .builtin .len, args := #[x], argTypes := #[t] }) (hx : evF F x = some v) (ht : P.underlying t = some (.slice e)) : SoftOk P o F h L (.int .i64 l.length) := by
 obtain ⟨A, c, e1, _⟩ := r
 subst e1
 exact s_len ho hx ht
theorem s_iaS {t e : TypeId} (r : RdS h v l) (h0 : 0 ≤ m) (h1 : m < l.length) (ho : o.op = .indexAddr t x y) (hx : evF F x = some v) (hy : evF F y = some (.int k m)) (ht : P.underlying t = some (.slice e)) (hs : ∀ w, (sizeOf e).run P w = .ok 2 w) : SoftOk P o F h L (elemPtr 2 v m) := by
 obtain ⟨A, c, e1, _, hr⟩ := r
 obtain ⟨b, o', e2, _⟩ := hr (by omega)
 exact s_iav ho hx e1 (by rw [e2]; rfl) hy ht hs h0 h1
theorem s_ldS {t : TypeId} {j : Nat} {sv : Value} {cm : Bool} (r : SyAt h v j sv cm) (hj : m.toNat = j) (ho : o.op = .load t x) (hx : evF F x = some (elemPtr 2 v m)) (hg : ∀ w, (isAgg t).run P w = .ok true w) (hs : ∀ w, (sizeOf t).run P w = .ok 2 w) : SoftOk P o F h L (.agg #[sv, .bool cm]) := by
 obtain ⟨b, o', n, c, arr, t', fz, e1, e2, e3, e4⟩ := r.at_
 have hadd : (⟨b, o', none⟩ : Addr).add (m.toNat * 2) = ⟨b, o' + m.toNat * 2, none⟩ := by unfold Addr.add; split <;> simp_all
 subst e1 hj
 simp only [elemPtr, hadd] at hx
 exact s_ld2 ho hx hg hs (.imm arr t' fz e2 e3) (.imm arr t' fz e2 e4)
end
/-- A list of lists of integers. -/
def RdT (h : H) (v : Value) (l : List (List Int)) : Prop :=
 ∃ A c, v = .slice A l.length c ∧ l.length ≤ 4294967296 ∧ (0 < l.length → ∃ b o, A = some ⟨b, o, none⟩ ∧ ∃ arr t fz, h b = some (.cells arr t fz) ∧
  ∀ j, j < l.length → ∃ sv, arr[o + j]? = some sv ∧ RdI h sv (l.getD j []))
theorem RdT.mono {h h' : H} {v : Value} {l : List (List Int)} (r : RdT h v l) (hh : ∀ b o, h b = some o → h' b = some o) : RdT h' v l := by
 obtain ⟨A, c, e, hm, hr⟩ := r
 refine ⟨A, c, e, hm, fun hp => ?_⟩
 obtain ⟨b, o, e1, arr, t, fz, h1, h2⟩ := hr hp
 exact ⟨b, o, e1, arr, t, fz, hh _ _ h1, fun j hj => by obtain ⟨sv, h3, h5⟩ := h2 j hj; exact ⟨sv, h3, h5.mono hh⟩⟩
theorem RdT.len {h : H} {v : Value} {l : List (List Int)} (r : RdT h v l) : l.length ≤ 4294967296 := by obtain ⟨_, _, _, h1, _⟩ := r; exact h1
structure LsAt (h : H) (v : Value) (j : Nat) (sv : Value) : Prop where
 at_ : ∃ b o n c arr t fz, v = .slice (some ⟨b, o, none⟩) n c ∧ h b = some (.cells arr t fz) ∧ arr[o + j]? = some sv
theorem RdT.get {h : H} {v : Value} {l : List (List Int)} (r : RdT h v l) {j : Nat} (hj : j < l.length) : ∃ sv, RdI h sv (l.getD j []) ∧ LsAt h v j sv := by
 obtain ⟨A, c, e, hm, hr⟩ := r
 obtain ⟨b, o, e1, arr, t, fz, h1, h2⟩ := hr (by omega)
 obtain ⟨sv, h3, h5⟩ := h2 j hj
 exact ⟨sv, h5, ⟨⟨b, o, _, c, arr, t, fz, by rw [e, e1], h1, h3⟩⟩⟩
section
variable {P : Program} {o : Oper} {F : List (Nat × Value)} {h : H} {L : List Own} {v : Value} {x y : Operand} {l : List (List Int)} {m : Int} {k : IntKind}
theorem s_lenT {t e : TypeId} (r : RdT h v l) (ho : o.op = .call { callee := .builtin .len, args := #[x], argTypes := #[t] }) (hx : evF F x = some v) (ht : P.underlying t = some (.slice e)) : SoftOk P o F h L (.int .i64 l.length) := by
 obtain ⟨A, c, e1, _⟩ := r
 subst e1
 exact s_len ho hx ht
theorem s_iaT {t e : TypeId} (r : RdT h v l) (h0 : 0 ≤ m) (h1 : m < l.length) (ho : o.op = .indexAddr t x y) (hx : evF F x = some v) (hy : evF F y = some (.int k m)) (ht : P.underlying t = some (.slice e)) (hs : ∀ w, (sizeOf e).run P w = .ok 1 w) : SoftOk P o F h L (elemPtr 1 v m) := by
 obtain ⟨A, c, e1, _, hr⟩ := r
 obtain ⟨b, o', e2, _⟩ := hr (by omega)
 exact s_iav ho hx e1 (by rw [e2]; rfl) hy ht hs h0 h1
theorem s_ldT {t : TypeId} {j : Nat} {sv : Value} (r : LsAt h v j sv) (hj : m.toNat = j) (ho : o.op = .load t x) (hx : evF F x = some (elemPtr 1 v m)) (hg : ∀ w, (isAgg t).run P w = .ok false w) : SoftOk P o F h L sv := by
 obtain ⟨b, o', n, c, arr, t', fz, e1, e2, e3⟩ := r.at_
 have hadd : (⟨b, o', none⟩ : Addr).add (m.toNat * 1) = ⟨b, o' + m.toNat * 1, none⟩ := by unfold Addr.add; split <;> simp_all
 subst e1 hj
 simp only [elemPtr, hadd] at hx
 exact s_ld ho hx hg (.imm arr t' fz e2 (by rw [Nat.mul_one]; exact e3))
end
end Go.Tal

/-! The order of symmetries: lexicographic; sorted lists. -/
namespace Tal

/-- slices.Compare of integers. -/
def lexCmp : List Int → List Int → Int
 | [], [] => 0
 | [], _ :: _ => -1
 | _ :: _, [] => 1
 | x :: xs, y :: ys => if x < y then -1 else if y < x then 1 else lexCmp xs ys

theorem lexCmp_refl : ∀ xs, lexCmp xs xs = 0
 | [] => rfl
 | x :: xs => by simp [lexCmp, lexCmp_refl xs]
theorem lexCmp_eq : ∀ {xs ys}, lexCmp xs ys = 0 → xs = ys
 | [], [], _ => rfl
 | [], _ :: _, h => by simp [lexCmp] at h
 | _ :: _, [], h => by simp [lexCmp] at h
 | x :: xs, y :: ys, h => by
  simp only [lexCmp] at h
  split at h
  ·omega
  ·split at h
   ·omega
   ·rw [lexCmp_eq h, show x = y by omega]
theorem lexCmp_anti : ∀ xs ys, lexCmp xs ys = - lexCmp ys xs
 | [], [] => rfl
 | [], _ :: _ => rfl
 | _ :: _, [] => rfl
 | x :: xs, y :: ys => by
  simp only [lexCmp]
  rw [lexCmp_anti xs ys]
  repeat' split
  all_goals omega
theorem lexCmp_trans : ∀ {xs ys zs}, lexCmp xs ys < 0 → lexCmp ys zs < 0 → lexCmp xs zs < 0
 | [], [], _, h, _ => by simp [lexCmp] at h
 | _ :: _, [], _, h, _ => by simp [lexCmp] at h
 | _, _ :: _, [], _, h => by simp [lexCmp] at h
 | [], _ :: _, _ :: _, _, _ => by simp [lexCmp]
 | x :: xs, y :: ys, z :: zs, h, k => by
  simp only [lexCmp] at h k ⊢
  split at h <;> split at k
  ·rw [if_pos (by omega)]; omega
  ·split at k
   ·omega
   ·rw [if_pos (by omega)]; omega
  ·split at h
   ·omega
   ·rw [if_pos (by omega)]; omega
  ·split at h
   ·omega
   ·split at k
    ·omega
    ·rw [if_neg (by omega), if_neg (by omega)]
     exact lexCmp_trans h k
theorem lexCmp_cases (xs ys : List Int) : lexCmp xs ys = -1 ∨ lexCmp xs ys = 0 ∨ lexCmp xs ys = 1 := by
 induction xs generalizing ys with
 | nil => cases ys <;> simp [lexCmp]
 | cons x xs ih =>
  cases ys with
  | nil => simp [lexCmp]
  | cons y ys =>
   simp only [lexCmp]
   repeat' split
   ·exact .inl rfl
   ·exact .inr (.inr rfl)
   ·exact ih ys

/-! ### a strict order on any type, and lists sorted by it -/
section
variable {α : Type} {lt : α → α → Bool}
structure SLin (lt : α → α → Bool) : Prop where
 irrefl : ∀ x, lt x x = false
 trans : ∀ {x y z}, lt x y = true → lt y z = true → lt x z = true
 total : ∀ {x y}, lt x y = false → lt y x = false → x = y
theorem SLin.asymm (h : SLin lt) {x y : α} (hx : lt x y = true) : lt y x = false := by
 cases hy : lt y x with
 | false => rfl
 | true => have := h.trans hx hy; rw [h.irrefl] at this; cases this
/-- Strictly ascending. -/
def Asc (lt : α → α → Bool) (l : List α) : Prop := l.Pairwise fun x y => lt x y = true
theorem Asc.nodup (h : SLin lt) {l : List α} (ha : Asc lt l) : l.Nodup := ha.imp fun {a b} hab => by rintro rfl; rw [h.irrefl] at hab; cases hab
/-- One set has one ascending list. -/
theorem Asc.ext (h : SLin lt) : ∀ {xs ys : List α}, Asc lt xs → Asc lt ys → (∀ x, x ∈ xs ↔ x ∈ ys) → xs = ys
 | [], [], _, _, _ => rfl
 | [], y :: ys, _, _, hm => by have := (hm y).2 List.mem_cons_self; cases this
 | x :: xs, [], _, _, hm => by have := (hm x).1 List.mem_cons_self; cases this
 | x :: xs, y :: ys, hx, hy, hm => by
  have hx' := List.pairwise_cons.1 hx
  have hy' := List.pairwise_cons.1 hy
  have e : x = y := by
   rcases List.mem_cons.1 ((hm x).1 List.mem_cons_self) with e | h1
   ·exact e
   ·rcases List.mem_cons.1 ((hm y).2 List.mem_cons_self) with e | h2
    ·exact e.symm
    ·have a1 := hy'.1 x h1
     have a2 := hx'.1 y h2
     rw [h.asymm a1] at a2
     cases a2
  subst e
  refine congrArg (x :: ·) (Asc.ext h hx'.2 hy'.2 fun z => ⟨fun hz => ?_, fun hz => ?_⟩)
  ·rcases List.mem_cons.1 ((hm z).1 (List.mem_cons_of_mem _ hz)) with rfl | h1
   ·have := hx'.1 z hz; rw [h.irrefl] at this; cases this
   ·exact h1
  ·rcases List.mem_cons.1 ((hm z).2 (List.mem_cons_of_mem _ hz)) with rfl | h1
   ·have := hy'.1 z hz; rw [h.irrefl] at this; cases this
   ·exact h1
/-- Insertion into an ascending list, if it is not there. -/
def ins (lt : α → α → Bool) (x : α) : List α → List α
 | [] => [x]
 | y :: ys => if lt x y then x :: y :: ys else if lt y x then y :: ins lt x ys else y :: ys
theorem mem_ins (h : SLin lt) {x z : α} : ∀ {l : List α}, z ∈ ins lt x l ↔ z = x ∨ z ∈ l
 | [] => by simp [ins]
 | y :: ys => by
  simp only [ins]
  split
  ·simp
  ·split
   ·rw [List.mem_cons, mem_ins h, List.mem_cons]
    exact ⟨fun h => by rcases h with h | h | h <;> simp [h], fun h => by rcases h with h | h | h <;> simp [h]⟩
   ·have : x = y := h.total (by simpa using ‹¬lt x y = true›) (by simpa using ‹¬lt y x = true›)
    subst this
    simp
theorem asc_ins (h : SLin lt) {x : α} : ∀ {l : List α}, Asc lt l → Asc lt (ins lt x l)
 | [], _ => by simp [ins, Asc]
 | y :: ys, ha => by
  have ha' := List.pairwise_cons.1 ha
  simp only [ins]
  split
  ·rename_i hxy
   refine List.pairwise_cons.2 ⟨fun z hz => ?_, ha⟩
   rcases List.mem_cons.1 hz with rfl | hz
   ·exact hxy
   ·exact h.trans hxy (ha'.1 z hz)
  ·split
   ·rename_i hyx
    refine List.pairwise_cons.2 ⟨fun z hz => ?_, asc_ins h ha'.2⟩
    rcases (mem_ins h).1 hz with rfl | hz
    ·exact hyx
    ·exact ha'.1 z hz
   ·exact ha
/-- The ascending list of a list's elements. -/
def sorted (lt : α → α → Bool) (l : List α) : List α := l.foldl (fun acc x => ins lt x acc) []
theorem foldl_ins (h : SLin lt) : ∀ (l acc : List α), Asc lt acc → Asc lt (l.foldl (fun acc x => ins lt x acc) acc) ∧ ∀ z, z ∈ l.foldl (fun acc x => ins lt x acc) acc ↔ z ∈ acc ∨ z ∈ l
 | [], acc, ha => ⟨ha, by simp⟩
 | x :: l, acc, ha => by
  obtain ⟨h1, h2⟩ := foldl_ins h l (ins lt x acc) (asc_ins h ha)
  refine ⟨h1, fun z => ?_⟩
  rw [List.foldl_cons, h2, mem_ins h, List.mem_cons]
  exact ⟨fun h => by rcases h with (h | h) | h <;> simp [h], fun h => by rcases h with h | h | h <;> simp [h]⟩
theorem asc_sorted (h : SLin lt) (l : List α) : Asc lt (sorted lt l) := (foldl_ins h l [] (by simp [Asc])).1
theorem mem_sorted (h : SLin lt) {l : List α} {z : α} : z ∈ sorted lt l ↔ z ∈ l := by
 have := (foldl_ins h l [] (by simp [Asc])).2 z
 simpa [sorted] using this
theorem sorted_asc (h : SLin lt) {l : List α} (ha : Asc lt l) : sorted lt l = l := Asc.ext h (asc_sorted h l) ha fun _ => mem_sorted h
end

theorem sLin_lex : SLin fun x y : List Int => decide (lexCmp x y < 0) where
 irrefl x := by simp [lexCmp_refl]
 trans h k := by simp only [decide_eq_true_eq] at h k ⊢; exact lexCmp_trans h k
 total {x y} h k := by
  simp only [decide_eq_false_iff_not] at h k
  have := lexCmp_anti x y
  exact lexCmp_eq (by omega)

/-! ### symmetries -/
/-- symmetry.compare -/
def symCmp (a b : List Int × Bool) : Int := if lexCmp a.1 b.1 ≠ 0 ∨ a.2 = b.2 then lexCmp a.1 b.1 else if a.2 then 1 else -1
def symLt (a b : List Int × Bool) : Bool := decide (symCmp a b < 0)
theorem symCmp_def (a b : List Int × Bool) : symCmp a b < 0 ↔ lexCmp a.1 b.1 < 0 ∨ a.1 = b.1 ∧ a.2 = false ∧ b.2 = true := by
 unfold symCmp
 split
 ·rename_i h
  refine ⟨fun h1 => .inl h1, fun h1 => ?_⟩
  rcases h1 with h1 | ⟨e, h2, h3⟩
  ·exact h1
  ·rcases h with h | h
   ·rw [e, lexCmp_refl] at h; exact absurd rfl h
   ·rw [h2, h3] at h; cases h
 ·rename_i h
  obtain ⟨h0, h1⟩ : lexCmp a.1 b.1 = 0 ∧ a.2 ≠ b.2 := by
   refine ⟨Classical.byContradiction fun hc => h (.inl hc), fun hc => h (.inr hc)⟩
  have e := lexCmp_eq h0
  cases ha : a.2 <;> cases hb : b.2 <;> simp_all
theorem sLin_sym : SLin symLt where
 irrefl x := by
  simp only [symLt, decide_eq_false_iff_not, symCmp_def, lexCmp_refl]
  intro h
  rcases h with h | ⟨_, h1, h2⟩
  ·omega
  ·rw [h1] at h2; cases h2
 trans {x y z} h k := by
  simp only [symLt, decide_eq_true_eq, symCmp_def] at h k ⊢
  rcases h with h | ⟨e, h1, h2⟩ <;> rcases k with k | ⟨e', k1, k2⟩
  ·exact .inl (lexCmp_trans h k)
  ·exact .inl (by rw [← e']; exact h)
  ·exact .inl (by rw [e]; exact k)
  ·rw [h2] at k1; cases k1
 total {x y} h k := by
  simp only [symLt, decide_eq_false_iff_not, symCmp_def] at h k
  have h1 := lexCmp_anti x.1 y.1
  have e : x.1 = y.1 := lexCmp_eq (by
   have : ¬ lexCmp x.1 y.1 < 0 := fun hc => h (.inl hc)
   have : ¬ lexCmp y.1 x.1 < 0 := fun hc => k (.inl hc)
   omega)
  refine Prod.ext e ?_
  cases hx : x.2 <;> cases hy : y.2
  ·rfl
  ·exact absurd (.inr ⟨e, hx, hy⟩) h
  ·exact absurd (.inr ⟨e.symm, hy, hx⟩) k
  ·rfl
end Tal

namespace Go.Tal
open Go.RowKit Go.Proofs Go.Proofs.Tryz _root_.Tal
def cmpI (a b : Int) : Int := if a < b then -1 else if b < a then 1 else 0
theorem lexCmp_drop {xs ys : List Int} {i : Nat} (hx : i < xs.length) (hy : i < ys.length) : lexCmp (xs.drop i) (ys.drop i) = if cmpI (xs.getD i 0) (ys.getD i 0) ≠ 0 then cmpI (xs.getD i 0) (ys.getD i 0) else lexCmp (xs.drop (i + 1)) (ys.drop (i + 1)) := by
 rw [List.drop_eq_getElem_cons hx, List.drop_eq_getElem_cons hy, lexCmp]
 simp only [List.getD_eq_getElem?_getD, List.getElem?_eq_getElem hx, List.getElem?_eq_getElem hy, Option.getD_some, cmpI]
 by_cases h1 : xs[i] < ys[i]
 ·simp [h1]
 ·by_cases h2 : ys[i] < xs[i] <;> simp [h1, h2]
theorem lexCmp_nil_cons {xs ys : List Int} {i : Nat} (hx : xs.length ≤ i) (hy : i < ys.length) : lexCmp (xs.drop i) (ys.drop i) = -1 := by
 rw [List.drop_eq_nil_of_le hx, List.drop_eq_getElem_cons hy]; simp [lexCmp]
theorem lexCmp_cons_nil {xs ys : List Int} {i : Nat} (hx : i < xs.length) (hy : ys.length ≤ i) : lexCmp (xs.drop i) (ys.drop i) = 1 := by
 rw [List.drop_eq_nil_of_le hy, List.drop_eq_getElem_cons hx]; simp [lexCmp]
theorem lexCmp_nil_nil {xs ys : List Int} {i : Nat} (hx : xs.length ≤ i) (hy : ys.length ≤ i) : lexCmp (xs.drop i) (ys.drop i) = 0 := by
 rw [List.drop_eq_nil_of_le hy, List.drop_eq_nil_of_le hx]; simp [lexCmp]
def allI (l : List Sy) (c : Int) : Int := firstI (l.map fun a => symI a.1 c)
theorem allI_drop {l : List Sy} {c : Int} {i : Nat} (hi : i < l.length) : allI (l.drop i) c = if symI (l.getD i ([], false)).1 c = 0 then allI (l.drop (i + 1)) c else symI (l.getD i ([], false)).1 c := by
 have := firstI_drop (l := l.map fun a => symI a.1 c) (i := i) (by simpa using hi)
 simp only [← List.map_drop] at this
 rw [show (l.map fun a => symI a.1 c).getD i 0 = symI (l.getD i ([], false)).1 c from by simp [List.getD_eq_getElem?_getD, List.getElem?_eq_getElem hi]] at this
 exact this
set_option maxRecDepth 8000 in
theorem isNaN_fn (a : Int) (h : H) : FnV Tryz.prog 250 #[.int .i64 a] h (.bool false) := by
 refine fn_of (vs := [.int .i64 a]) func250 rfl ntmps250 (Nat.le_of_ble_eq_true rfl) fun w hw => ?_
 apply wp_seq'
 refine wp_text rfl ?_
 refine rm rfl ?_
 apply run_end
 apply wp_seq'
 refine wp_text rfl ?_
 refine rm rfl ?_
 refine rm rfl ?_
 refine rs rfl (s_ne rfl rfl rfl) ?_
 refine rm rfl ?_
 apply run_end
 apply wp_ret'
 exact fin_ret (res_tmp rfl rfl) (by simp)
set_option maxRecDepth 8000 in
theorem cmp_fn (a b : Int) (h : H) : FnV Tryz.prog 244 #[.int .i64 a, .int .i64 b] h (.int .i64 (cmpI a b)) := by
 refine fn_of (vs := [.int .i64 a, .int .i64 b]) func244 rfl ntmps244 (Nat.le_of_ble_eq_true rfl) fun w hw => ?_
 apply wp_seq'
 refine wp_text rfl ?_
 refine rm rfl ?_
 apply run_end
 apply wp_seq'
 refine wp_text rfl ?_
 refine rm rfl ?_
 refine run_callv (vs := [_]) rfl rfl rfl rfl rfl rfl en250 (isNaN_fn _ _) ?_
 refine rm rfl ?_
 apply run_end
 apply wp_seq'
 refine wp_text rfl ?_
 refine rm rfl ?_
 refine run_callv (vs := [_]) rfl rfl rfl rfl rfl rfl en250 (isNaN_fn _ _) ?_
 refine rm rfl ?_
 apply run_end
 apply wp_seq'
 apply wp_seq'
 refine wp_text rfl ?_
 refine rm rfl ?_
 apply run_end
 refine wp_cond' (b := false) rfl (fun h => by cases h) (fun _ => ?_)
 apply wp_skip'
 apply wp_seq'
 apply wp_seq'
 refine wp_text rfl ?_
 refine rm rfl ?_
 apply run_end
 refine wp_cond' (b := false) rfl (fun h => by cases h) (fun _ => ?_)
 apply wp_skip'
 apply wp_seq'
 apply wp_seq'
 refine wp_text rfl ?_
 refine rm rfl ?_
 refine rm rfl ?_
 refine rs rfl (s_lt rfl rfl rfl) ?_
 apply run_end
 refine wp_if' rfl (fun hc16 => ?_) (fun hc16 => ?_)
 ·skip
  apply wp_seq'
  refine wp_text rfl ?_
  refine rm rfl ?_
  apply run_end
  apply wp_ret'
  exact fin_ret (res_tmp rfl rfl) (by simp [cmpI, *])
 ·skip
  apply wp_skip'
  apply wp_seq'
  apply wp_seq'
  refine wp_text rfl ?_
  refine rm rfl ?_
  refine rm rfl ?_
  refine rs rfl (s_gt rfl rfl rfl) ?_
  apply run_end
  refine wp_if' rfl (fun hc19 => ?_) (fun hc19 => ?_)
  ·skip
   apply wp_seq'
   refine wp_text rfl ?_
   refine rm rfl ?_
   apply run_end
   apply wp_ret'
   exact fin_ret (res_tmp rfl rfl) (by simp [cmpI, *])
  ·skip
   apply wp_skip'
   apply wp_seq'
   refine wp_text rfl ?_
   refine rm rfl ?_
   apply run_end
   apply wp_ret'
   exact fin_ret (res_tmp rfl rfl) (by simp [cmpI, *])
set_option maxRecDepth 8000 in
theorem lexCmp_fn (xs ys : List Int) (v u : Value) (h : H) (hx : RdI h v xs) (hy : RdI h u ys) : FnV Tryz.prog 201 #[v, u] h (.int .i64 (lexCmp xs ys)) := by
 have hxm := hx.len
 refine fn_of (vs := [v, u]) func201 rfl ntmps201 (Nat.le_of_ble_eq_true rfl) fun w hw => ?_
 apply wp_seq'
 refine wp_text rfl ?_
 refine rm rfl ?_
 apply run_end
 apply wp_seq'
 apply wp_seq'
 refine wp_text rfl ?_
 refine rm rfl ?_
 refine rs rfl (s_lenI hx rfl rfl underlying35) ?_
 refine rm rfl ?_
 apply run_end
 apply wp_block'
 refine wp_loop' (fun i : Nat => i ≤ xs.length ∧ i ≤ ys.length ∧ lexCmp (xs.drop i) (ys.drop i) = lexCmp xs ys) (fun i => ⟨[(11, .int .i64 i), (10, .int .i64 xs.length), (9, v), (1, u), (0, v)], h, []⟩) (fun i => xs.length - i) 0 ⟨Nat.zero_le _, Nat.zero_le _, by simp⟩ ⟨by repeat (first|exact True.intro|refine And.intro rfl ?_), rfl, by repeat (first|exact NS _|exact SR _|apply SCC|apply SC)⟩ fun i hi => ?_
 obtain ⟨hi, hj, hp⟩ := hi
 apply wp_seq'
 refine wp_text rfl ?_
 refine rs rfl (s_lt rfl rfl rfl) ?_
 apply run_end
 apply wp_seq'
 refine wp_if' rfl (fun hc12 => ?_) (fun hc12 => ?_)
 ·skip
  apply wp_skip'
  apply wp_seq'
  apply wp_block'
  apply wp_seq'
  refine wp_text rfl ?_
  refine rm rfl ?_
  refine rs rfl (s_iaI hx (by omega) (by omega) rfl rfl rfl underlying35 sizeOf3) ?_
  refine rs rfl (s_ldI hx (by omega) (by omega) rfl rfl isAgg3) ?_
  try simp only [Int.toNat_natCast]
  refine rm rfl ?_
  refine rm rfl ?_
  apply run_end
  apply wp_seq'
  apply wp_seq'
  refine wp_text rfl ?_
  refine rm rfl ?_
  refine rm rfl ?_
  refine rs rfl (s_lenI hy rfl rfl underlying35) ?_
  refine rs rfl (s_ge rfl rfl rfl) ?_
  apply run_end
  refine wp_if' rfl (fun hc19 => ?_) (fun hc19 => ?_)
  ·skip
   apply wp_seq'
   refine wp_text rfl ?_
   refine rm rfl ?_
   apply run_end
   apply wp_ret'
   exact fin_ret (res_tmp rfl rfl) (by rw [← hp, lexCmp_cons_nil (by omega) (by omega)])
  ·skip
   apply wp_skip'
   apply wp_seq'
   refine wp_text rfl ?_
   refine rm rfl ?_
   refine rm rfl ?_
   refine rs rfl (s_iaI hy (by omega) (by omega) rfl rfl rfl underlying35 sizeOf3) ?_
   refine rs rfl (s_ldI hy (by omega) (by omega) rfl rfl isAgg3) ?_
   try simp only [Int.toNat_natCast]
   refine rm rfl ?_
   apply run_end
   apply wp_seq'
   refine wp_text rfl ?_
   refine rm rfl ?_
   refine rm rfl ?_
   refine run_callv (vs := [_, _]) rfl rfl rfl rfl rfl rfl en244 (cmp_fn _ _ _) ?_
   refine rm rfl ?_
   apply run_end
   try simp only [Int.toNat_natCast]
   apply wp_seq'
   refine wp_text rfl ?_
   refine rm rfl ?_
   refine rs rfl (s_ne rfl rfl rfl) ?_
   apply run_end
   refine wp_if' rfl (fun hc28 => ?_) (fun hc28 => ?_)
   ·skip
    apply wp_seq'
    refine wp_text rfl ?_
    refine rm rfl ?_
    refine rm rfl ?_
    apply run_end
    apply wp_ret'
    exact fin_ret (res_tmp rfl rfl) (by rw [← hp, lexCmp_drop (i := i) (by omega) (by omega), if_pos hc28])
   ·skip
    apply wp_skip'
    refine wp_text rfl ?_
    refine rs rfl (s_add rfl rfl rfl (IntWalk.i64_in _ (by omega))) ?_
    refine rm rfl ?_
    apply run_end
    exact ⟨i + 1, ⟨by omega, by omega, by rw [← hp, lexCmp_drop (i := i) (by omega) (by omega), if_neg (by simpa using hc28)]⟩, by omega, ⟨by repeat (first|exact True.intro|refine And.intro rfl ?_), rfl, by repeat (first|exact NS _|exact SR _|apply SCC|apply SC)⟩⟩
 ·skip
  apply wp_exit'
  apply wp_seq'
  apply wp_seq'
  refine wp_text rfl ?_
  refine rm rfl ?_
  refine rs rfl (s_lenI hx rfl rfl underlying35) ?_
  refine rm rfl ?_
  refine rs rfl (s_lenI hy rfl rfl underlying35) ?_
  refine rs rfl (s_lt rfl rfl rfl) ?_
  apply run_end
  refine wp_if' rfl (fun hc35 => ?_) (fun hc35 => ?_)
  ·skip
   apply wp_seq'
   refine wp_text rfl ?_
   refine rm rfl ?_
   apply run_end
   apply wp_ret'
   exact fin_ret (res_tmp rfl rfl) (by rw [← hp, lexCmp_nil_cons (by omega) (by omega)])
  ·skip
   apply wp_skip'
   apply wp_seq'
   refine wp_text rfl ?_
   refine rm rfl ?_
   apply run_end
   apply wp_ret'
   exact fin_ret (res_tmp rfl rfl) (by rw [← hp, lexCmp_nil_nil (by omega) (by omega)])
set_option maxRecDepth 8000 in
theorem symCmp_fn (xs ys : List Int) (b c : Bool) (v u : Value) (h : H) (hx : RdI h v xs) (hy : RdI h u ys) : FnV Tryz.prog 162 #[.agg #[v, .bool b], .agg #[u, .bool c]] h (.int .i64 (symCmp (xs, b) (ys, c))) := by
 refine fn_of (vs := [.agg #[v, .bool b], .agg #[u, .bool c]]) func162 rfl ntmps162 (Nat.le_of_ble_eq_true rfl) fun w hw => ?_
 apply wp_seq'
 refine wp_text rfl ?_
 refine run_box rfl rfl rfl rfl rfl rfl rfl fun b1 => ?_
 refine run_box rfl rfl rfl rfl rfl rfl rfl fun b2 => ?_
 refine rm rfl ?_
 apply run_end
 apply wp_seq'
 apply wp_seq'
 refine wp_text rfl ?_
 refine rs rfl (s_fa (off := 0) rfl rfl underlying112 rfl sizeOf35 rfl) ?_
 refine rs rfl (s_ld rfl rfl isAgg35 (.o_ rfl)) ?_
 refine rs rfl (s_fa (off := 0) rfl rfl underlying112 rfl sizeOf35 rfl) ?_
 refine rs rfl (s_ld rfl rfl isAgg35 (.o_ rfl)) ?_
 refine run_callv (vs := [_, _]) rfl rfl rfl rfl rfl rfl en201 (lexCmp_fn _ _ _ _ _ hx hy) ?_
 refine rm rfl ?_
 apply run_end
 apply wp_seq'
 refine wp_text rfl ?_
 refine rm rfl ?_
 refine rs rfl (s_ne rfl rfl rfl) ?_
 refine rm rfl ?_
 refine run_cases (t := 13) rfl (fun hg13 => ?_) (fun hg13 => ?_)
 ·skip
  refine run_skip rfl rfl rfl rfl rfl rfl rfl ?_
  refine run_skip rfl rfl rfl rfl rfl rfl rfl ?_
  refine run_skip rfl rfl rfl rfl rfl rfl rfl ?_
  refine run_skip rfl rfl rfl rfl rfl rfl rfl ?_
  refine run_skip rfl rfl rfl rfl rfl rfl rfl ?_
  refine rs rfl (s_pick rfl rfl (fun _ => rfl) (fun h => by cases h)) ?_
  apply run_end
  refine wp_cond' (b := true) rfl (fun _ => ?_) (fun h => by cases h)
  apply wp_seq'
  refine wp_text rfl ?_
  refine rm rfl ?_
  refine rm rfl ?_
  apply run_end
  apply wp_ret'
  exact fin_ret (res_tmp rfl rfl) (by simp [symCmp, *])
 ·skip
  refine rsg rfl rfl (s_fa (off := 1) rfl rfl underlying112 rfl sizeOf4 rfl) ?_
  refine rsg rfl rfl (s_ld rfl rfl isAgg4 (.o_ rfl)) ?_
  refine rsg rfl rfl (s_fa (off := 1) rfl rfl underlying112 rfl sizeOf4 rfl) ?_
  refine rsg rfl rfl (s_ld rfl rfl isAgg4 (.o_ rfl)) ?_
  refine rsg rfl rfl (s_beq rfl rfl rfl underlying4) ?_
  refine rs rfl (s_pick rfl rfl (fun h => by cases h) (fun _ => rfl)) ?_
  apply run_end
  refine wp_cond' rfl (fun hc19 => ?_) (fun hc19 => ?_)
  ·skip
   apply wp_seq'
   refine wp_text rfl ?_
   refine rm rfl ?_
   refine rm rfl ?_
   apply run_end
   apply wp_ret'
   exact fin_ret (res_tmp rfl rfl) (by simp_all [symCmp])
  ·skip
   apply wp_skip'
   apply wp_seq'
   apply wp_seq'
   refine wp_text rfl ?_
   refine rs rfl (s_fa (off := 1) rfl rfl underlying112 rfl sizeOf4 rfl) ?_
   refine rs rfl (s_ld rfl rfl isAgg4 (.o_ rfl)) ?_
   apply run_end
   refine wp_cond' rfl (fun hc22 => ?_) (fun hc22 => ?_)
   ·skip
    apply wp_seq'
    refine wp_text rfl ?_
    refine rm rfl ?_
    apply run_end
    apply wp_ret'
    exact fin_ret (res_tmp rfl rfl) (by simp_all [symCmp])
   ·skip
    apply wp_skip'
    apply wp_seq'
    refine wp_text rfl ?_
    refine rm rfl ?_
    apply run_end
    apply wp_ret'
    exact fin_ret (res_tmp rfl rfl) (by simp_all [symCmp])
set_option maxRecDepth 8000 in
theorem checkAll_fn (l : List Sy) (c : Int) (v : Value) (h : H) (hl : RdS h v l) : FnV Tryz.prog 97 #[v, .int .i64 c] h (.int .i64 (allI l c)) := by
 have hlm := hl.len
 refine fn_of (vs := [v, .int .i64 c]) func97 rfl ntmps97 (Nat.le_of_ble_eq_true rfl) fun w hw => ?_
 apply wp_seq'
 refine wp_text rfl ?_
 refine rm rfl ?_
 apply run_end
 apply wp_seq'
 apply wp_seq'
 refine wp_text rfl ?_
 refine rm rfl ?_
 refine rs rfl (s_lenS hl rfl rfl underlying22) ?_
 refine rm rfl ?_
 apply run_end
 apply wp_block'
 refine wp_loop' (fun i : Nat => i ≤ l.length ∧ allI (l.drop i) c = allI l c) (fun i => ⟨[(10, .int .i64 i), (9, .int .i64 l.length), (8, v), (1, .int .i64 c)], h, []⟩) (fun i => l.length - i) 0 ⟨Nat.zero_le _, by simp⟩ ⟨by repeat (first|exact True.intro|refine And.intro rfl ?_), rfl, by repeat (first|exact NS _|exact SR _|apply SCC|apply SC)⟩ fun i hi => ?_
 obtain ⟨hi, hp⟩ := hi
 apply wp_seq'
 refine wp_text rfl ?_
 refine rs rfl (s_lt rfl rfl rfl) ?_
 apply run_end
 apply wp_seq'
 refine wp_if' rfl (fun hc11 => ?_) (fun hc11 => ?_)
 ·skip
  apply wp_skip'
  apply wp_seq'
  apply wp_block'
  apply wp_seq'
  refine wp_text rfl ?_
  refine rs rfl (s_iaS hl (by omega) (by omega) rfl rfl rfl underlying22 sizeOf37) ?_
  obtain ⟨sv13, hsv13, hat13⟩ := hl.get (j := i) (by omega)
  refine rs rfl (s_ldS hat13 (by omega) rfl rfl isAgg37 sizeOf37) ?_
  refine run_alloc rfl rfl rfl rfl rfl zeroValue37 rfl fun b1 => ?_
  refine run_st2 rfl rfl rfl rfl rfl rfl (by first | rfl | assumption | exact RdI.one (by assumption)) rfl sizeOf37 (by repeat first|exact Swap.here|apply Swap.there) rfl ?_
  apply run_end
  apply wp_seq'
  refine wp_text rfl ?_
  refine rs rfl (s_ld2 rfl rfl isAgg37 sizeOf37 (.o_ rfl) (.o_ rfl)) ?_
  refine rm rfl ?_
  refine run_callv (vs := [_, _]) rfl rfl rfl rfl rfl rfl en56 (checkSym_fn _ _ _ _ _ hsv13) ?_
  refine rm rfl ?_
  apply run_end
  apply wp_seq'
  refine wp_text rfl ?_
  refine rm rfl ?_
  refine rs rfl (s_ne rfl rfl rfl) ?_
  apply run_end
  refine wp_if' rfl (fun hc18 => ?_) (fun hc18 => ?_)
  ·skip
   apply wp_seq'
   refine wp_text rfl ?_
   refine rm rfl ?_
   refine rm rfl ?_
   apply run_end
   apply wp_ret'
   exact fin_ret (res_tmp rfl rfl) (by rw [← hp, allI_drop (i := i) (by omega), if_neg hc18])
  ·skip
   apply wp_skip'
   refine wp_text rfl ?_
   refine rs rfl (s_add rfl rfl rfl (IntWalk.i64_in _ (by omega))) ?_
   refine rm rfl ?_
   apply run_end
   exact ⟨i + 1, ⟨by omega, by rw [← hp, allI_drop (i := i) (by omega), if_pos (by simpa using hc18)]⟩, by omega, ⟨by repeat (first|exact True.intro|refine And.intro rfl ?_), rfl, by repeat (first|exact NS _|exact SR _|apply SCC|apply SC)⟩⟩
 ·skip
  apply wp_exit'
  apply wp_seq'
  refine wp_text rfl ?_
  refine rm rfl ?_
  apply run_end
  apply wp_ret'
  exact fin_ret (res_tmp rfl rfl) (by rw [← hp, List.drop_eq_nil_of_le (by omega)]; rfl)
end Go.Tal

/-
 Symbolic states: append on a row of one's own; slices written out that stay one's own; loops under which what is read grows.
-/
namespace Go.Tal
open Go.RowKit
section
variable {C : Ctx} {h : H}
/-- Mem.change, where the block may be none. -/
theorem Mem.change2 {X Y : Own} {L1 : List Own} {w w' : World} (m : Mem C h (X :: L1) w) (hY : ∀ c, Y.blk = some c → X.blk = some c ∨ w.heap.size ≤ c) (hin : Y.In w')
 (hos : w'.os = w.os) (htape : w'.tape = w.tape) (hout : w'.output = w.output) (hsize : w.heap.size ≤ w'.heap.size) (hdr : w.drawn ≤ w'.drawn) (hk : ∀ k, k < w.heap.size → some k ≠ X.blk → w'.heap[k]? = w.heap[k]?) : Mem C h (Y :: L1) w' := by
 cases hX : X.blk with
 | some b =>
  exact m.change hX (fun c hc => (hY c hc).elim (fun h1 => by rw [hX] at h1; cases h1; exact .inl rfl) .inr) hin hos htape hout hsize hdr (fun k hk1 hk2 => hk k hk1 (by rw [hX]; intro e; cases e; exact hk2 rfl))
 | none =>
  have hk' : ∀ k, k < w.heap.size → w'.heap[k]? = w.heap[k]? := fun k hk1 => hk k hk1 (by rw [hX]; simp)
  have hlt : ∀ k o', w.heap[k]? = some o' → k < w.heap.size := fun k o' hb => (Array.getElem?_eq_some_iff.1 hb).1
  have hY' : ∀ c, Y.blk = some c → w.heap.size ≤ c := fun c hc => (hY c hc).elim (fun h1 => by rw [hX] at h1; cases h1) id
  have hblk : ∀ x ∈ L1, ∀ k, x.blk = some k → k < w.heap.size := by
   intro x hx k hk1
   have := m.sat.own x (List.mem_cons_of_mem _ hx)
   cases x with
   | obj b' o' => cases hk1; exact hlt _ _ this
   | row v e sz n xs =>
    rcases this.2 with ⟨h1, _⟩ | ⟨g, cap, cur, h1, _, hg, _⟩
    ·rw [h1] at hk1; cases hk1
    ·rw [h1] at hk1; cases hk1; exact hlt _ _ hg
  refine ⟨⟨fun k o' hb => ?_, fun x hx => ?_, fun x hx k hk1 => ?_, ?_⟩, fun x hx k hk1 => ?_, m.old, ⟨hos.trans m.kp.os, htape.trans m.kp.tape, hout.trans m.kp.output, Nat.le_trans m.kp.size hsize, Nat.le_trans m.kp.drawn hdr, fun k hk1 hI => ?_⟩⟩
  ·have h1 := m.sat.imm k o' hb
   rw [hk' k (hlt _ _ h1)]; exact h1
  ·rcases List.mem_cons.1 hx with rfl | hx
   ·exact hin
   ·have h1 := m.sat.own x (List.mem_cons_of_mem _ hx)
    cases x with
    | obj b' o' =>
     show w'.heap[b']? = some o'
     rw [hk' b' (hblk _ hx b' rfl)]; exact h1
    | row v e sz n xs =>
     obtain ⟨h2, h3⟩ := h1
     refine ⟨h2, ?_⟩
     rcases h3 with h3 | ⟨g, cap, cur, h1, hb0, hg, r⟩
     ·exact .inl h3
     ·exact .inr ⟨g, cap, cur, h1, hb0, by rw [hk' g (hlt _ _ hg)]; exact hg, r⟩
  ·rcases List.mem_cons.1 hx with rfl | hx
   ·cases h2 : h k with
    | none => rfl
    | some o' => have := hlt _ _ (m.sat.imm k o' h2); have := hY' k hk1; omega
   ·exact m.sat.off x (List.mem_cons_of_mem _ hx) k hk1
  ·refine List.pairwise_cons.2 ⟨fun y hy k hk1 hk2 => ?_, (List.pairwise_cons.1 m.sat.nd).2⟩
   have h1 := hblk y hy k hk2
   have := hY' k hk1
   omega
  ·rcases List.mem_cons.1 hx with rfl | hx
   ·have := m.kp.size; have := hY' k hk1; exact .inl (by omega)
   ·exact m.new x (List.mem_cons_of_mem _ hx) k hk1
  ·rw [hk' k (Nat.lt_of_lt_of_le hk1 m.kp.size)]; exact m.kp.block k hk1 hI
theorem Mem.swap2 {X Y : Own} {L L' : List Own} (p : Swap X Y L L') {w w' : World} (m : Mem C h L w) (hY : ∀ c, Y.blk = some c → X.blk = some c ∨ w.heap.size ≤ c) (hin : Y.In w')
 (hos : w'.os = w.os) (htape : w'.tape = w.tape) (hout : w'.output = w.output) (hsize : w.heap.size ≤ w'.heap.size) (hdr : w.drawn ≤ w'.drawn) (hk : ∀ k, k < w.heap.size → some k ≠ X.blk → w'.heap[k]? = w.heap[k]?) : Mem C h L' w' := by
 obtain ⟨L0, h1, h2⟩ := p.pick
 exact ((m.perm h1.perm).change2 hY hin hos htape hout hsize hdr hk).perm h2.perm.symm
/-- An append never takes back draws. -/
theorem app_drawn {P : Program} (w : World) (t ty e : TypeId) (i : TypeInfo) (z : Value) (size bytes : Nat) (ht : P.underlying t = some (.slice e)) (hi : P.info? e = some i) (hz : i.zero = some z)
 (hsize : i.size = size) (hby : i.bytes = bytes) (hzs : z.cells.size = size) (hsz : 0 < size) (v : Value) (n : Nat) (xs : List Value) (hown : w.ownsRow 0 e size v n xs)
 (a : Addr) (m c : Nat) (news : List Value) (hl : news.length = m * size) (hnews : ∀ j u, news[j]? = some u → w.cell? (a.add j) = some u) (h1 : ∀ u ∈ news, u.oneCell' = true) (hm : 0 < m)
 (h63 : n + m ≤ maxLen) (hbytes : (n + m) * bytes ≤ 140737488355328) {v' : Value} {w' : World} (hr : (Builtin.append_ #[t, t] ty #[v, .slice (some a) m c]).run P w = .ok v' w') : w.drawn ≤ w'.drawn := by
 subst hsize
 subst hby
 have hsmall : n + m ≤ 9223372036854775807 := by simp only [maxLen] at h63; omega
 rcases hown.2 with ⟨rfl, rfl⟩ | ⟨g, cap, cur, rfl, hbg, hg, hnc, hcm, hcs, htake⟩
 ·have hx : xs = [] := List.eq_nil_of_length_eq_zero (by simpa using hown.1)
  subst hx
  have hr2 := run_append_nil (P := P) w t ty e i z ht hi hz a m c news hl hnews (by omega) (by omega) (by have hb := hbytes; simp only [Nat.zero_add] at hb; omega)
  rw [hr2] at hr
  cases hr
  exact Nat.le_succ _
 ·by_cases hroom : n + m ≤ cap
  ·have hfit : n * i.size + news.length ≤ cur.size := by rw [hl, hcs, ← Nat.add_mul]; exact Nat.mul_le_mul_right _ hroom
   have hr2 := run_append_room (P := P) w t ty e i ht hi g n cap cur hg a m c news hl hnews h1 hroom hfit
   rw [hr2] at hr
   cases hr
   exact Nat.le_refl _
  ·have holds : ∀ j u, xs[j]? = some u → w.cell? ((⟨g, 0, none⟩ : Addr).add j) = some u := hown.cells (g := g) rfl
   have hr2 := run_append_grow (P := P) w t ty e i z ht hi hz ⟨g, 0, none⟩ n cap xs hown.1 holds a m c news hl hnews (by omega) (by omega) (growslice_fits (by omega) hbytes)
   rw [hr2] at hr
   cases hr
   exact Nat.le_succ _
variable {o : Oper} {F : List (Nat × Value)} {L : List Own} {v u : Value} {x y z : Operand}
/-- xs = append(xs, news..), xs of one's own. -/
theorem h_app {t e : TypeId} {zv : Value} {sz by_ n m c b o' : Nat} {xs news : List Value} {L' : Value → List Own} (ho : o.op = .call { callee := .builtin .append, args := #[x, y], argTypes := #[t, t] }) (hx : evF F x = some v) (hy : evF F y = some (.slice (some ⟨b, o', none⟩) m c))
 (ht : C.P.underlying t = some (.slice e)) (hi : (C.P.info? e).map (fun i => (i.zero, i.size, i.bytes)) = some (some zv, sz, by_)) (hzs : zv.cells.size = sz) (hsz : 0 < sz) (hl : news.length = m * sz) (hnews : ∀ j u, news[j]? = some u → Cell h L b (o' + j) u) (h1 : ∀ u ∈ news, u.oneCell' = true) (hm : 0 < m)
 (h63 : n + m ≤ 8796093022208) (hbytes : (n + m) * by_ ≤ 140737488355328)
 (p : ∀ v', Swap (.row v e sz n xs) (.row v' e sz (n + m) (xs ++ news)) L (L' v')) : HardW C o F h L (fun v' h' L'' => (∃ A c, v' = .slice A (n + m) c) ∧ h' = h ∧ L'' = L' v') := fun a w ha _ _ hmem => by
 have e1 := agree_of ha (by rw [ho]; simp [Op.operands, Call.operands]) hx
 have e2 := agree_of ha (x := y) (by rw [ho]; simp [Op.operands, Call.operands]) hy
 obtain ⟨i, hi1, hi2⟩ := Option.map_eq_some_iff.1 hi
 simp only [Prod.mk.injEq] at hi2
 obtain ⟨L0, p1, _⟩ := (p v).pick
 have hown : w.ownsRow 0 e sz v n xs := hmem.sat.own _ (p1.perm.mem_iff.2 List.mem_cons_self)
 have hn : ∀ j u, news[j]? = some u → w.cell? ((⟨b, o', none⟩ : Addr).add j) = some u := fun j u hj => by
  have hadd : (⟨b, o', none⟩ : Addr).add j = ⟨b, o' + j, none⟩ := by unfold Addr.add; split <;> simp_all
  rw [hadd]; exact (hnews j u hj).at_ hmem.sat
 have h63' : n + m ≤ maxLen := by simp only [maxLen]; omega
 obtain ⟨v', w', hr, r1, r2, _, r4⟩ := run_append_own_at (P := C.P) w 0 t o.type e i zv sz by_ ht hi1 hi2.1 hi2.2.1 hi2.2.2 hzs hsz v n xs hown ⟨b, o', none⟩ m c news hl hn h1 h63' hbytes (Nat.zero_le _)
 have hdr := app_drawn (P := C.P) w t o.type e i zv sz by_ ht hi1 hi2.1 hi2.2.1 hi2.2.2 hzs hsz v n xs hown ⟨b, o', none⟩ m c news hl hn h1 hm h63' hbytes hr
 refine upon_val (q := v') (w' := w') ?_ ⟨v', h, L' v', ⟨?_, rfl, rfl⟩, rfl, ?_⟩
 ·simp only [execOp, ho, resolve, invoke, builtin, Sem.run_bind, Sem.run_pure, Result.andThen_ok, List.map_toArray, List.map_cons, List.map_nil, e1, e2, hr]
 ·rcases r1.2 with ⟨h2, h3⟩ | ⟨g, cap, cur, h2, _⟩
  ·exact ⟨none, 0, by rw [h2, h3]⟩
  ·exact ⟨_, _, h2⟩
 ·refine hmem.swap2 (p v') (fun k hk => ?_) r1 r2.os r2.tape r2.output r2.size hdr r2.block
  rcases r4 with h2 | h2
  ·exact .inl (by rw [← hk]; exact h2.symm)
  ·right
   rw [show Own.blk (.row v' e sz (n + m) (xs ++ news)) = v'.ownBlock from rfl, h2] at hk
   cases hk; exact Nat.le_refl _
/-- A slice that is written out, kept. -/
theorem h_bso {t e : TypeId} {len : Nat} {parts : List (Nat × Operand)} {vs : List Value} {arr : Array Value} (ho : o.op = .buildSlice t len parts.toArray) (hx : (parts.map (·.2)).map (evF F) = vs.map some)
 (hq : ∀ w, (Instr.buildSlice t len ((parts.map (·.1)).zip vs).toArray).run C.P w = .ok (.slice (some ⟨w.heap.size, 0, none⟩) len len) (w.alloc (.cells arr e))) : HardW C o F h L (OutNew h L (fun b => .obj b (.cells arr e (0, 0))) fun b => .slice (some ⟨b, 0, none⟩) len len) := fun a w ha _ _ hm => by
 have h1 : parts.map (fun p => (p.1, a.eval p.2)) = (parts.map (·.1)).zip vs := by
  have h2 : ∀ (ps : List (Nat × Operand)) (vs : List Value), (∀ p ∈ ps, p ∈ parts) → (ps.map (·.2)).map (evF F) = vs.map some → ps.map (fun p => (p.1, a.eval p.2)) = (ps.map (·.1)).zip vs := by
   intro ps
   induction ps with
   | nil => intro vs _ _; simp
   | cons p ps ih =>
    intro vs hsub hx
    cases vs with
    | nil => simp at hx
    | cons v vs =>
     simp only [List.map_cons, List.cons.injEq] at hx
     have he : a.eval p.2 = v := ha p.2 (by
      rw [ho]
      simp only [Op.operands]
      exact List.mem_map.2 ⟨p, hsub p List.mem_cons_self, rfl⟩) v hx.1
     simp only [List.map_cons, List.zip_cons_cons, List.cons.injEq]
     exact ⟨by rw [he], ih vs (fun q hq => hsub q (List.mem_cons_of_mem _ hq)) hx.2⟩
  exact h2 parts vs (fun _ hp => hp) hx
 have hr : (execOp a.eval o).run C.P w = .ok (.value (.slice (some ⟨w.heap.size, 0, none⟩) len len)) (w.alloc (.cells arr e)) := by
  simp only [execOp, ho]
  refine run_v ?_
  have := hq w
  rw [← h1] at this
  simpa using this
 exact upon_val hr ⟨_, h, _, ⟨w.heap.size, rfl, rfl, rfl⟩, rfl, hm.alloc _⟩
end
section
variable {dr : Bool} {C : Ctx} {ops : Array Oper} {K : S → Prop} {i d : Nat} {r : List Nat} {F : List (Nat × Value)} {h : H} {L : List Own} {o : Oper} {x y : Operand} {v : Value}
theorem Cell.app {h : H} {L : List Own} {b o : Nat} {v : Value} (c : Cell h L b o v) (M : List Own) : Cell h (L ++ M) b o v := by
 cases c with
 | imm arr t fz hb ho => exact .imm arr t fz hb ho
 | own arr t fz hb ho => exact .own arr t fz (List.mem_append_left _ hb) ho
 | row e sz n c xs hb ho => exact .row e sz n c xs (List.mem_append_left _ hb) ho
theorem run_app {t e : TypeId} {zv : Value} {sz by_ n m c b o' : Nat} {xs news : List Value} {L' : Value → List Own} (ho : ops[i]? = some o) (hop : o.op = .call { callee := .builtin .append, args := #[x, y], argTypes := #[t, t] }) (hg : o.guard = none) (hd : o.dst = some d) (hn : Nat.blt d C.n = true)
 (hx : evF F x = some v) (hy : evF F y = some (.slice (some ⟨b, o', none⟩) m c))
 (ht : C.P.underlying t = some (.slice e)) (hi : (C.P.info? e).map (fun i => (i.zero, i.size, i.bytes)) = some (some zv, sz, by_)) (hzs : zv.cells.size = sz) (hsz : 0 < sz)
 (p : ∀ v', Swap (.row v e sz n xs) (.row v' e sz (n + m) (xs ++ news)) L (L' v')) (hl : news.length = m * sz) (hnews : ∀ j u, news[j]? = some u → Cell h L b (o' + j) u) (h1 : ∀ u ∈ news, u.oneCell' = true) (hm : 0 < m)
 (h63 : n + m ≤ 8796093022208) (hbytes : (n + m) * by_ ≤ 140737488355328)
 (k : ∀ v', (∃ A c, v' = .slice A (n + m) c) → Run dr C ops K r ⟨(d, v') :: F, h, L' v'⟩) : Run dr C ops K (i :: r) ⟨F, h, L⟩ :=
 run_hard ho hg (dst_lt hd hn) (by simp [cls, hop]) (fun v' h' L'' => (∃ A c, v' = .slice A (n + m) c) ∧ h' = h ∧ L'' = L' v') (fun M => (h_app (L' := fun v' => L' v' ++ M) hop hx hy ht hi hzs hsz hl (fun j u hj => (hnews j u hj).app M) h1 hm h63 hbytes fun v' => (p v').append M).imp fun v' _ _ ⟨e1, e2, e3⟩ => ⟨L' v', ⟨e1, e2, rfl⟩, e3⟩) fun v' _ _ ⟨e1, e2, e3⟩ => by subst e2 e3; rw [hd]; exact ⟨fun _ hc => by simp [cls, hop] at hc, k v' e1⟩
theorem run_bso {t e : TypeId} {len : Nat} {parts : List (Nat × Operand)} {vs : List Value} {arr : Array Value} (ho : ops[i]? = some o) (hop : o.op = .buildSlice t len parts.toArray) (hg : o.guard = none) (hd : o.dst = some d) (hn : Nat.blt d C.n = true) (hx : (parts.map (·.2)).map (evF F) = vs.map some)
 (hq : ∀ w, (Instr.buildSlice t len ((parts.map (·.1)).zip vs).toArray).run C.P w = .ok (.slice (some ⟨w.heap.size, 0, none⟩) len len) (w.alloc (.cells arr e)))
 (k : ∀ b, Run dr C ops K r ⟨(d, .slice (some ⟨b, 0, none⟩) len len) :: F, h, .obj b (.cells arr e (0, 0)) :: L⟩) : Run dr C ops K (i :: r) ⟨F, h, L⟩ :=
 run_hard ho hg (dst_lt hd hn) (by simp [cls, hop]) _ (frm_new fun _ => h_bso hop hx hq) fun _ _ _ ⟨b, e1, e2, e3⟩ => by subst e1 e2 e3; rw [hd]; exact ⟨fun _ _ => grow_new _, k b⟩
end
/-! ### nil rows, loops, letting go -/
theorem Mem.nilrow {C : Ctx} {h : H} {L : List Own} {w : World} (m : Mem C h L w) (e : TypeId) (sz : Nat) : Mem C h (.row (.slice none 0 0) e sz 0 [] :: L) w :=
 ⟨⟨m.sat.imm, fun x hx => by
  rcases List.mem_cons.1 hx with rfl | hx
  ·exact ⟨by simp, .inl ⟨rfl, rfl⟩⟩
  ·exact m.sat.own x hx, fun x hx b hb => by
  rcases List.mem_cons.1 hx with rfl | hx
  ·cases hb
  ·exact m.sat.off x hx b hb, List.pairwise_cons.2 ⟨fun _ _ _ hb => (by cases hb), m.sat.nd⟩⟩, fun x hx b hb => by
  rcases List.mem_cons.1 hx with rfl | hx
  ·cases hb
  ·exact m.new x hx b hb, m.old, m.kp⟩
/-- A nil slice is a row of one's own. -/
theorem WP.nilrow {C : Ctx} {Q : Exit → S → Prop} {c : Code} {F : List (Nat × Value)} {h : H} {L : List Own} (e : TypeId) (sz : Nat) (k : WP C c Q ⟨F, h, .row (.slice none 0 0) e sz 0 [] :: L⟩) : WP C c Q ⟨F, h, L⟩ :=
 fun ro m M hG a w hs => k ro m M hG a w (St.map (s := ⟨F, h, L⟩) (t := ⟨F, h, .row (.slice none 0 0) e sz 0 [] :: L⟩) (fun _ _ hv => hv) (fun N m => Mem.nilrow (L := L ++ N) m e sz) hs)
/-- What is read may have grown meanwhile. -/
structure Wg (s t : S) : Prop where
 F : Kn s.F t.F
 h : ∀ b o, t.h b = some o → s.h b = some o
 L : t.L.Sublist s.L
theorem St.wg {C : Ctx} {M : List Own} {s t : S} {a : Act} {w : World} (k : Wg s t) (ho : ∀ b, b < C.w0.heap.size → t.h b = C.h0 b) (hs : St C M s a w) : St C M t a w :=
 hs.map k.F.sub fun N m => ⟨m.sat.less ⟨k.h, k.L.append (List.Sublist.refl N)⟩, fun x hx => m.new x ((k.L.append (List.Sublist.refl N)).subset hx), ho, m.kp⟩
/-- A loop under which what is read does not change, but more may be made. -/
theorem wp_loopg {C : Ctx} {Q : Exit → S → Prop} {c : Code} {s : S} {ι : Type} (J : ι → Prop) (T : ι → List (Nat × Value) × List Own) (μ : ι → Nat) (i0 : ι) (h0 : J i0) (k0 : Wg s ⟨(T i0).1, s.h, (T i0).2⟩)
 (round : ∀ i, J i → WP C c (thenS (fun s' => ∃ j, J j ∧ μ j < μ i ∧ Wg s' ⟨(T j).1, s.h, (T j).2⟩) Q) ⟨(T i).1, s.h, (T i).2⟩) : WP C (.loop c) Q s := by
 intro ro m M hG a w hs
 have ho : ∀ b, b < C.w0.heap.size → s.h b = C.h0 b := by obtain ⟨_, _, m0⟩ := hs; exact m0.old
 refine wp_loop0 (C := C) (Q := Q) (c := c) J (fun i => ⟨(T i).1, s.h, (T i).2⟩) μ i0 h0 (fun _ a w hs => hs.wg k0 ho) (fun i hi => ?_) ro m M hG a w hs
 refine (round i hi).mono fun e s' h => ?_
 cases e with
 | normal =>
  obtain ⟨j, hj, hlt, hk⟩ := h
  exact ⟨j, hj, hlt, fun _ a w hs => hs.wg hk ho⟩
 | _ => exact h
end Go.Tal

/-
 Symbolic states: append of one element to rows told by plain lists; conversions; rows let go.
-/
namespace Go.Tal
open Go.RowKit
theorem cell1 {h : H} {L : List Own} {b : Nat} {x : Value} {t : TypeId} (hm : Own.obj b (.cells #[x] t (0, 0)) ∈ L) : ∀ j u, [x][j]? = some u → Cell h L b (0 + j) u := fun j u hj => by
 match j, hj with
 | 0, hj => cases hj; exact .own _ _ _ hm rfl
theorem cell2 {h : H} {L : List Own} {b : Nat} {x y : Value} {t : TypeId} (hm : Own.obj b (.cells #[x, y] t (0, 0)) ∈ L) : ∀ j u, [x, y][j]? = some u → Cell h L b (0 + j) u := fun j u hj => by
 match j, hj with
 | 0, hj => cases hj; exact .own _ _ _ hm rfl
 | 1, hj => cases hj; exact .own _ _ _ hm rfl
theorem one1 {x : Value} (h : x.oneCell' = true) : ∀ u ∈ [x], u.oneCell' = true := fun u hu => by rw [List.mem_singleton.1 hu]; exact h
theorem one2 {x y : Value} (h : x.oneCell' = true) (h' : y.oneCell' = true) : ∀ u ∈ [x, y], u.oneCell' = true := fun u hu => by
 rcases List.mem_cons.1 hu with rfl | hu
 ·exact h
 ·rw [List.mem_singleton.1 hu]; exact h'
section
variable {α : Type} {dr : Bool} {C : Ctx} {ops : Array Oper} {K : S → Prop} {i d : Nat} {r : List Nat} {F : List (Nat × Value)} {h : H} {L : List Own} {o : Oper} {x y : Operand} {v : Value}
/-- xs = append(xs, u), one cell an element. -/
theorem run_app1 (f : α → Value) (u : α) {t e tb : TypeId} {zv : Value} {by_ n c b : Nat} {xs : List α} {L' : Value → List Own} (ho : ops[i]? = some o) (hop : o.op = .call { callee := .builtin .append, args := #[x, y], argTypes := #[t, t] }) (hg : o.guard = none) (hd : o.dst = some d) (hn : Nat.blt d C.n = true)
 (hx : evF F x = some v) (hy : evF F y = some (.slice (some ⟨b, 0, none⟩) 1 c))
 (ht : C.P.underlying t = some (.slice e)) (hi : (C.P.info? e).map (fun i => (i.zero, i.size, i.bytes)) = some (some zv, 1, by_)) (hzs : zv.cells.size = 1)
 (p : ∀ v', Swap (.row v e 1 n (xs.map f)) (.row v' e 1 (n + 1) ((xs ++ [u]).map f)) L (L' v')) (hm : Own.obj b (.cells #[f u] tb (0, 0)) ∈ L) (h1 : (f u).oneCell' = true)
 (h63 : n + 1 ≤ 1099511627776) (hb : by_ ≤ 64)
 (k : ∀ v', (∃ A c, v' = .slice A (n + 1) c) → Run dr C ops K r ⟨(d, v') :: F, h, L' v'⟩) : Run dr C ops K (i :: r) ⟨F, h, L⟩ :=
 run_app (news := [f u]) ho hop hg hd hn hx hy ht hi hzs (Nat.zero_lt_one) (by simpa [List.map_append] using p) rfl (cell1 hm) (one1 h1) (Nat.zero_lt_one) (by omega) (by
  have : (n + 1) * by_ ≤ (n + 1) * 64 := Nat.mul_le_mul_left _ hb
  omega) k
/-- .. two cells an element. -/
theorem run_app2 (f g : α → Value) (u : α) {t e tb : TypeId} {zv : Value} {by_ n c b : Nat} {xs : List α} {L' : Value → List Own} (ho : ops[i]? = some o) (hop : o.op = .call { callee := .builtin .append, args := #[x, y], argTypes := #[t, t] }) (hg : o.guard = none) (hd : o.dst = some d) (hn : Nat.blt d C.n = true)
 (hx : evF F x = some v) (hy : evF F y = some (.slice (some ⟨b, 0, none⟩) 1 c))
 (ht : C.P.underlying t = some (.slice e)) (hi : (C.P.info? e).map (fun i => (i.zero, i.size, i.bytes)) = some (some zv, 2, by_)) (hzs : zv.cells.size = 2)
 (p : ∀ v', Swap (.row v e 2 n (xs.flatMap fun a => [f a, g a])) (.row v' e 2 (n + 1) ((xs ++ [u]).flatMap fun a => [f a, g a])) L (L' v')) (hm : Own.obj b (.cells #[f u, g u] tb (0, 0)) ∈ L) (h1 : (f u).oneCell' = true) (h2 : (g u).oneCell' = true)
 (h63 : n + 1 ≤ 1099511627776) (hb : by_ ≤ 64)
 (k : ∀ v', (∃ A c, v' = .slice A (n + 1) c) → Run dr C ops K r ⟨(d, v') :: F, h, L' v'⟩) : Run dr C ops K (i :: r) ⟨F, h, L⟩ :=
 run_app (news := [f u, g u]) ho hop hg hd hn hx hy ht hi hzs (by decide) (by simpa [List.flatMap_append] using p) rfl (cell2 hm) (one2 h1 h2) (Nat.zero_lt_one) (by omega) (by
  have : (n + 1) * by_ ≤ (n + 1) * 64 := Nat.mul_le_mul_left _ hb
  omega) k
end
section
variable {P : Program} {o : Oper} {F : List (Nat × Value)} {h : H} {L : List Own} {x : Operand}
theorem s_cvi {s d : TypeId} {k k' : IntKind} {m : Int} (ho : o.op = .convert s d x) (hx : evF F x = some (.int k m)) (hs : (P.underlying s).isSome = true) (hd : P.underlying d = some (.int k')) (hk : P.intKind d = k') : SoftOk P o F h L (.int k' (k'.wrap m)) := fun a w ha _ => by
 have h1 := agree_of ha (by rw [ho]; simp [Op.operands]) hx
 simp only [execOp, ho, h1]
 refine run_v ?_
 have := run_convert_int (P := P) w s d k m hs (by rw [hk]; exact hd)
 rw [hk] at this
 exact this
/-- string(bytes), a row of one's own. -/
theorem s_cvs {s d e : TypeId} {b n c : Nat} {xs : List Int} (ho : o.op = .convert s d x) (hx : evF F x = some (.slice (some ⟨b, 0, none⟩) n c)) (hs : P.underlying s = some (.slice e)) (he : P.underlying e = some (.int .u8)) (hd : P.underlying d = some .string) {t : TypeId} (hm : Own.row (.slice (some ⟨b, 0, none⟩) n c) t 1 n (xs.map (Value.int .u8)) ∈ L) (hl : xs.length = n) :
 SoftOk P o F h L (.string (strOfNums xs)) := fun a w ha hw => by
 have h1 := agree_of ha (by rw [ho]; simp [Op.operands]) hx
 have hw : Sat h L w := by
  rcases hw with hw | hw
  ·simp [cls, ho] at hw
  ·exact hw
 simp only [execOp, ho, h1]
 refine run_v ?_
 refine run_convert_bytes_arg (P := P) w s e hs he b 0 n c xs hl (fun j hj => ?_) d hd
 have := (Cell.rowM (h := h) (Value.int .u8) 0 hm (o := j) (by omega)).at_ hw
 rw [Nat.zero_add]; exact this
end
/-- Room for more than there is. -/
theorem run_mksl2 {dr : Bool} {C : Ctx} {ops : Array Oper} {K : S → Prop} {i d : Nat} {r : List Nat} {F : List (Nat × Value)} {h : H} {L : List Own} {o : Oper} {x y : Operand} {t e : TypeId} {zv : Value} {by_ c : Nat} (ho : ops[i]? = some o) (hop : o.op = .makeSlice t x y) (hg : o.guard = none) (hd : o.dst = some d) (hn : Nat.blt d C.n = true) (hx : evF F x = some (.int .i64 0)) (hy : evF F y = some (.int .i64 c)) (ht : C.P.underlying t = some (.slice e))
 (hi : (C.P.info? e).map (fun i => (i.zero, i.size, i.bytes)) = some (some zv, 1, by_)) (_ : zv.cells = #[zv]) (hb : by_ * c ≤ 281474976710656) (hm : c ≤ 1099511627776)
 (k : ∀ b, Run dr C ops K r ⟨(d, .slice (some ⟨b, 0, none⟩) 0 c) :: F, h, .row (.slice (some ⟨b, 0, none⟩) 0 c) e 1 0 [] :: L⟩) : Run dr C ops K (i :: r) ⟨F, h, L⟩ := by
 refine run_hard ho hg (dst_lt hd hn) (by simp [cls, hop]) (OutNew h L (fun b => .row (.slice (some ⟨b, 0, none⟩) 0 c) e 1 0 []) fun b => .slice (some ⟨b, 0, none⟩) 0 c) (frm_new fun M a w ha _ _ hmem => ?_) fun _ _ _ ⟨b, e1, e2, e3⟩ => by subst e1 e2 e3; rw [hd]; exact ⟨fun _ _ => grow_new _, k b⟩
 have h1 := agree_of ha (by rw [hop]; simp [Op.operands]) hx
 have h2 := agree_of ha (x := y) (by rw [hop]; simp [Op.operands]) hy
 obtain ⟨inf, hi1, hi2⟩ := Option.map_eq_some_iff.1 hi
 simp only [Prod.mk.injEq] at hi2
 have hr := run_make (P := C.P) w t e inf zv ht hi1 hi2.1 .i64 .i64 0 c (by omega) (by omega) (by rw [hi2.2.2]; omega) (by omega)
 refine upon_val (q := .slice (some ⟨w.heap.size, 0, none⟩) 0 c) (w' := w.alloc (.cells (madeCells zv.cells (c * inf.size)) e)) ?_ ⟨.slice (some ⟨w.heap.size, 0, none⟩) 0 c, h, _, ⟨w.heap.size, rfl, rfl, rfl⟩, rfl, ?_⟩
 ·simp only [execOp, hop, h1, h2]
  exact run_v (by simpa using hr)
 ·have := (hmem.alloc (.cells (madeCells zv.cells (c * inf.size)) e)).asRow (n := 0) (cap := c) (sz := 1) (Nat.zero_le _) (by unfold maxLen; omega) (by rw [size_madeCells, hi2.2.1])
  rw [hi2.2.1] at this ⊢
  simpa using this
/-! ### rows let go -/
theorem Mem.drop_ {C : Ctx} {h : H} {X : Own} {L L' : List Own} {w : World} (m : Mem C h L w) (p : Pick X L L') : Mem C h L' w := by
 have m1 := m.perm p.perm
 exact ⟨⟨m1.sat.imm, fun x hx => m1.sat.own x (List.mem_cons_of_mem _ hx), fun x hx => m1.sat.off x (List.mem_cons_of_mem _ hx), (List.pairwise_cons.1 m1.sat.nd).2⟩, fun x hx => m1.new x (List.mem_cons_of_mem _ hx), m1.old, m1.kp⟩
/-- A row, whatever its value, is read from now on. -/
theorem WP.letRow {C : Ctx} {Q : Exit → S → Prop} {c : Code} {F : List (Nat × Value)} {h : H} {L L' : List Own} {v : Value} {n sz : Nat} {e : TypeId} {xs : List Value} (hI : C.I = []) (p : Pick (.row v e sz n xs) L L')
 (k : ∀ h', (∀ b o, h b = some o → h' b = some o) → xs.length = n * sz → (v = .slice none 0 0 ∧ n = 0 ∨ ∃ b cap arr, v = .slice (some ⟨b, 0, none⟩) n cap ∧ h' b = some (.cells arr e (0, 0)) ∧ ∀ j, j < n * sz → arr[j]? = xs[j]?) → WP C c Q ⟨F, h', L'⟩) : WP C c Q ⟨F, h, L⟩ := by
 intro ro n' M hG a w ⟨Ds, hf, m⟩
 have p := p.append (Ds.map shut ++ M)
 have hin : w.ownsRow 0 e sz v n xs := (m.perm p.perm).sat.own _ List.mem_cons_self
 rcases hin.2 with ⟨h1, h2⟩ | ⟨g, cap, cur, h1, _, hg, _, _, hsz, htk⟩
 ·exact k h (fun _ _ hb => hb) hin.1 (.inl ⟨h1, h2⟩) ro n' M hG a w ⟨Ds, hf, m.drop_ p⟩
 ·have hhb : h g = none := (m.perm p.perm).sat.off _ List.mem_cons_self g (by subst h1; rfl)
  refine k (updH h g w.heap[g]?) (upd_mono hhb) hin.1 (.inr ⟨g, cap, cur, h1, by simp [updH, hg], fun j hj => ?_⟩) ro n' M hG a w ⟨Ds, hf, m.let_ p (by subst h1; rfl) hI⟩
  rw [← htk, List.getElem?_take, if_pos hj]
  simp
theorem WP.letO {C : Ctx} {Q : Exit → S → Prop} {c : Code} {F : List (Nat × Value)} {h : H} {L L' : List Own} {v : Value} {n : Nat} {e : TypeId} {xs : List Int} (hI : C.I = []) (p : Pick (.row v e 1 n (xs.map (Value.int .i64))) L L') (hn : n ≤ 4294967296)
 (k : ∀ h', (∀ b o, h b = some o → h' b = some o) → RdI h' v xs → WP C c Q ⟨F, h', L'⟩) : WP C c Q ⟨F, h, L⟩ := by
 refine WP.letRow hI p fun h' hh hl hv => k h' hh ?_
 rw [List.length_map, Nat.mul_one] at hl
 rcases hv with ⟨h1, h2⟩ | ⟨b, cap, arr, h1, h2, h3⟩
 ·exact ⟨none, 0, by rw [hl, h2]; exact h1, by omega, fun hp => by omega⟩
 ·refine ⟨some ⟨b, 0, none⟩, cap, by rw [hl]; exact h1, by omega, fun hp => ⟨b, 0, rfl, arr, e, (0, 0), h2, fun j hj => ?_⟩⟩
  rw [Nat.zero_add, h3 j (by omega), List.getElem?_map, List.getElem?_eq_getElem hj]
  simp [List.getD_eq_getElem?_getD, List.getElem?_eq_getElem hj]
/-- A row of symmetries. -/
theorem WP.letS {C : Ctx} {Q : Exit → S → Prop} {c : Code} {F : List (Nat × Value)} {h : H} {L L' : List Own} {v : Value} {n : Nat} {e : TypeId} {xs : List (Value × Bool)} (ls : List Sy) (hI : C.I = []) (p : Pick (.row v e 2 n (xs.flatMap fun a => [a.1, .bool a.2])) L L') (hn : n ≤ 4294967296)
 (hx : ls.length = xs.length) (hr : ∀ j, j < xs.length → ∃ sv, xs[j]? = some (sv, (ls.getD j ([], false)).2) ∧ RdI h sv (ls.getD j ([], false)).1)
 (k : ∀ h', (∀ b o, h b = some o → h' b = some o) → RdS h' v ls → WP C c Q ⟨F, h', L'⟩) : WP C c Q ⟨F, h, L⟩ := by
 refine WP.letRow hI p fun h' hh hl hv => k h' hh ?_
 have hfl : ∀ (xs : List (Value × Bool)), (xs.flatMap fun a => [a.1, Value.bool a.2]).length = xs.length * 2 := fun xs => by
  induction xs with
  | nil => rfl
  | cons a xs ih => rw [List.flatMap_cons, List.length_append, ih]; simp; omega
 have hfg : ∀ (xs : List (Value × Bool)) (j : Nat) sv cm, xs[j]? = some (sv, cm) → (xs.flatMap fun a => [a.1, Value.bool a.2])[j * 2]? = some sv ∧ (xs.flatMap fun a => [a.1, Value.bool a.2])[j * 2 + 1]? = some (.bool cm) := fun xs => by
  induction xs with
  | nil => intro j sv cm hj; simp at hj
  | cons a xs ih =>
   intro j sv cm hj
   match j, hj with
   | 0, hj => simp at hj; subst hj; simp
   | j + 1, hj =>
    have := ih j sv cm (by simpa using hj)
    rw [List.flatMap_cons]
    rw [show (j + 1) * 2 = j * 2 + 2 from by omega, show j * 2 + 2 + 1 = j * 2 + 1 + 2 from by omega]
    simpa using this
 rw [hfl] at hl
 have hl : xs.length = n := by omega
 rcases hv with ⟨h1, h2⟩ | ⟨b, cap, arr, h1, h2, h3⟩
 ·exact ⟨none, 0, by rw [hx, hl, h2]; exact h1, by omega, fun hp => by omega⟩
 ·refine ⟨some ⟨b, 0, none⟩, cap, by rw [hx, hl]; exact h1, by omega, fun hp => ⟨b, 0, rfl, arr, e, (0, 0), h2, fun j hj => ?_⟩⟩
  obtain ⟨sv, h4, h5⟩ := hr j (by omega)
  have h6 := hfg xs j sv _ h4
  refine ⟨sv, ?_, ?_, h5.mono hh⟩
  ·rw [Nat.zero_add, h3 _ (by omega)]; exact h6.1
  ·rw [Nat.zero_add, h3 _ (by omega)]; exact h6.2
/-- A row of lists. -/
theorem WP.letT {C : Ctx} {Q : Exit → S → Prop} {c : Code} {F : List (Nat × Value)} {h : H} {L L' : List Own} {v : Value} {n : Nat} {e : TypeId} {xs : List Value} (ls : List (List Int)) (hI : C.I = []) (p : Pick (.row v e 1 n xs) L L') (hn : n ≤ 4294967296)
 (hx : ls.length = xs.length) (hr : ∀ j, j < xs.length → ∃ sv, xs[j]? = some sv ∧ RdI h sv (ls.getD j []))
 (k : ∀ h', (∀ b o, h b = some o → h' b = some o) → RdT h' v ls → WP C c Q ⟨F, h', L'⟩) : WP C c Q ⟨F, h, L⟩ := by
 refine WP.letRow hI p fun h' hh hl hv => k h' hh ?_
 have hl : xs.length = n := by omega
 rcases hv with ⟨h1, h2⟩ | ⟨b, cap, arr, h1, h2, h3⟩
 ·exact ⟨none, 0, by rw [hx, hl, h2]; exact h1, by omega, fun hp => by omega⟩
 ·refine ⟨some ⟨b, 0, none⟩, cap, by rw [hx, hl]; exact h1, by omega, fun hp => ⟨b, 0, rfl, arr, e, (0, 0), h2, fun j hj => ?_⟩⟩
  obtain ⟨sv, h4, h5⟩ := hr j (by omega)
  exact ⟨sv, by rw [Nat.zero_add, h3 _ (by omega)]; exact h4, h5.mono hh⟩
end Go.Tal

/-
 Symbolic states: calls of function values.
-/
namespace Go.Tal
open Go.RowKit
section
variable {C : Ctx} {o : Oper} {F : List (Nat × Value)} {h : H} {L : List Own} {v u : Value} {x y z : Operand}
theorem h_callw {cb : Array Value} {g : Operand} {f : FuncId} {args : Array Operand} {ts : Array TypeId} {vs : List Value} {R : Value → H → Prop} (ho : o.op = .call { callee := .value g, args := args, argTypes := ts }) (hx : args.toList.map (evF F) = vs.map some)
 (hgf : evF F g = some (.func (.func f) #[] cb)) (hen : ∀ args w, (callFunc f args).run C.P w = .ok (.enter f args) w) (hf : Fn C.P f (vs.toArray ++ cb) h R) : HardW C o F h L (fun v h' L' => R v h' ∧ (∀ b o, h b = some o → h' b = some o) ∧ L' = L) := fun a w ha _ _ hm => by
 have hargs : args.map a.eval = vs.toArray := by
  apply Array.ext'
  rw [Array.toList_map]
  apply List.ext_getElem?
  intro j
  have h3 := congrArg (fun l => l[j]?) hx
  simp only [List.getElem?_map] at h3 ⊢
  cases hp : args.toList[j]? with
  | none => rw [hp] at h3; cases hv : vs[j]? with
   | none => rfl
   | some v => rw [hv] at h3; simp at h3
  | some p => rw [hp] at h3; cases hv : vs[j]? with
   | none => rw [hv] at h3; simp at h3
   | some v =>
    rw [hv] at h3
    simp only [Option.map_some, Option.some.injEq] at h3 ⊢
    exact ha p (by
     rw [ho]
     simp only [Op.operands, Call.operands, Array.toList_append, List.mem_append]
     exact .inr (List.mem_of_getElem? hp)) v h3
 unfold Oper.wp
 have hgv : a.eval g = .func (.func f) #[] cb := ha g (by
  rw [ho]
  simp only [Op.operands, Call.operands, Array.toList_append, List.mem_append]
  exact .inl (by simp)) _ hgf
 have hr : (execOp a.eval o).run C.P w = .ok (.enter f (vs.toArray ++ cb)) w := by
  simp only [execOp, ho, resolve, hargs, hgv]
  simp [Deferred.ofValue, invoke, hen]
 rw [hr]
 refine Calls.mono (hf w hm.sat.imm) fun e w' ⟨v, h', he, hR, h1, h2, h3⟩ => ?_
 subst he
 exact ⟨v, h', L, ⟨hR, fun b o hb => by rw [h2 b (Array.getElem?_eq_some_iff.1 (hm.sat.imm b o hb)).1]; exact hb, rfl⟩, rfl, hm.call h1 h2 h3⟩
end
section
variable {dr : Bool} {C : Ctx} {ops : Array Oper} {K : S → Prop} {i d : Nat} {r : List Nat} {F : List (Nat × Value)} {h : H} {L : List Own} {o : Oper} {v : Value}
theorem run_callw {cb : Array Value} {g : Operand} {f : FuncId} {args : Array Operand} {ts : Array TypeId} {vs : List Value} {R : Value → H → Prop} (ho : ops[i]? = some o) (hop : o.op = .call { callee := .value g, args := args, argTypes := ts }) (hg : o.guard = none) (hd : o.dst = some d) (hn : Nat.blt d C.n = true)
 (hx : args.toList.map (evF F) = vs.map some) (hgf : evF F g = some (.func (.func f) #[] cb)) (hen : ∀ args w, (callFunc f args).run C.P w = .ok (.enter f args) w) (hf : Fn C.P f (vs.toArray ++ cb) h R) (k : ∀ v h', R v h' → (∀ b o, h b = some o → h' b = some o) → Run dr C ops K r ⟨(d, v) :: F, h', L⟩) : Run dr C ops K (i :: r) ⟨F, h, L⟩ :=
 run_hard ho hg (dst_lt hd hn) (by simp [cls, hop]) _ (frm_call fun _ => h_callw hop hx hgf hen hf) fun v h' _ ⟨e1, e2, e3⟩ => by subst e3; rw [hd]; exact ⟨fun _ _ => ⟨e2, List.Sublist.refl _⟩, k v h' e1 e2⟩
theorem run_callwv {cb : Array Value} {g : Operand} {f : FuncId} {args : Array Operand} {ts : Array TypeId} {vs : List Value} (ho : ops[i]? = some o) (hop : o.op = .call { callee := .value g, args := args, argTypes := ts }) (hg : o.guard = none) (hd : o.dst = some d) (hn : Nat.blt d C.n = true)
 (hx : args.toList.map (evF F) = vs.map some) (hgf : evF F g = some (.func (.func f) #[] cb)) (hen : ∀ args w, (callFunc f args).run C.P w = .ok (.enter f args) w) (hf : FnV C.P f (vs.toArray ++ cb) h v) (k : Run dr C ops K r ⟨(d, v) :: F, h, L⟩) : Run dr C ops K (i :: r) ⟨F, h, L⟩ := by
 refine run_hard ho hg (dst_lt hd hn) (by simp [cls, hop]) (fun v' h' L' => v' = v ∧ h' = h ∧ L' = L) (frm_call fun M a w ha h1 h2 hm => ?_) fun _ _ _ ⟨e1, e2, e3⟩ => by subst e1 e2 e3; rw [hd]; exact ⟨fun _ _ => ⟨fun _ _ hb => hb, List.Sublist.refl _⟩, k⟩
 refine Oper.wp_mono (fun a' w' ⟨v', h', L', ⟨e1, e2, e3⟩, ha', hm'⟩ => ?_) (h_callw hop hx hgf hen hf a w ha h1 h2 hm)
 subst e1 e3
 exact ⟨v', h, _, ⟨rfl, rfl, rfl⟩, ha', ⟨hm'.sat.less ⟨e2, List.Sublist.refl _⟩, hm'.new, hm.old, hm'.kp⟩⟩
end
end Go.Tal

namespace Go.Tal
open Go.RowKit Go.Proofs Go.Proofs.Tryz _root_.Tal
theorem info5 : (Tryz.prog.info? 5).map (fun i => (i.zero, i.size, i.bytes)) = some (some (.int .u8 0), 1, 1) := by kernel_rfl
theorem bs35_1 (x : Int) : ∀ w, (Instr.buildSlice 35 1 #[(0, .int .i64 x)]).run Tryz.prog w = .ok (.slice (some ⟨w.heap.size, 0, none⟩) 1 1) (w.alloc (.cells #[.int .i64 x] 3)) := fun _ => by kernel_rfl
theorem bs204_1 (x : Int) : ∀ w, (Instr.buildSlice 204 1 #[(0, .int .u8 x)]).run Tryz.prog w = .ok (.slice (some ⟨w.heap.size, 0, none⟩) 1 1) (w.alloc (.cells #[.int .u8 x] 5)) := fun _ => by kernel_rfl
def farI (x : Int) : Bool := decide (x < -999999999) || decide (999999999 < x)
def idxF (p : Int → Bool) (l : List Int) : Int := if l.any p then (l.findIdx p : Int) else -1
theorem idxF_some {p : Int → Bool} {l : List Int} {i : Nat} (hi : i < l.length) (hp : p (l.getD i 0) = true) (hn : ∀ j, j < i → p (l.getD j 0) = false) : idxF p l = i := by
 simp only [List.getD_eq_getElem?_getD, List.getElem?_eq_getElem hi, Option.getD_some] at hp
 have h1 : l.any p = true := List.any_eq_true.2 ⟨_, List.getElem_mem hi, hp⟩
 rw [idxF, if_pos h1, (List.findIdx_eq hi).2 ⟨hp, fun j hj => by have := hn j hj; simpa [List.getD_eq_getElem?_getD, List.getElem?_eq_getElem (show j < l.length by omega)] using this⟩]
theorem idxF_none {p : Int → Bool} {l : List Int} (hn : ∀ j, j < l.length → p (l.getD j 0) = false) : idxF p l = -1 := by
 rw [idxF, if_neg]
 rw [List.any_eq_true]
 rintro ⟨x, hx, hp⟩
 obtain ⟨j, hj, rfl⟩ := List.getElem_of_mem hx
 have := hn j hj
 simp only [List.getD_eq_getElem?_getD, List.getElem?_eq_getElem hj, Option.getD_some] at this
 rw [hp] at this; cases this
theorem idxF_any (p : Int → Bool) (l : List Int) : decide (0 ≤ idxF p l) = l.any p := by
 unfold idxF
 cases l.any p with
 | true => simp
 | false => simp
def fillI (f : List Int) : Int := firstI [whenI (decide (256 < (f.length : Int))) 5, whenI (f.any farI) 3]
def gcdI (a b : Int) : Int := if _h : b = 0 then a else gcdI b (a.tmod b)
termination_by b.natAbs
decreasing_by
 have := Int.natAbs_tmod a b
 have h2 : 0 < b.natAbs := Int.natAbs_pos.2 _h
 rw [this]
 exact Nat.mod_lt _ h2
set_option maxRecDepth 8000 in
theorem far_fn (x : Int) (h : H) : FnV Tryz.prog 137 #[.int .i64 x] h (.bool (farI x)) := by
 refine fn_of (vs := [.int .i64 x]) func137 rfl ntmps137 (Nat.le_of_ble_eq_true rfl) fun w hw => ?_
 apply wp_seq'
 refine wp_text rfl ?_
 refine rm rfl ?_
 apply run_end
 apply wp_seq'
 refine wp_text rfl ?_
 refine rm rfl ?_
 refine rs rfl (s_lt rfl rfl rfl) ?_
 refine rm rfl ?_
 refine run_cases (t := 5) rfl (fun hg5 => ?_) (fun hg5 => ?_)
 ·skip
  refine run_skip rfl rfl rfl rfl rfl rfl rfl ?_
  refine run_skip rfl rfl rfl rfl rfl rfl rfl ?_
  refine rs rfl (s_pick rfl rfl (fun _ => rfl) (fun h => by cases h)) ?_
  refine rm rfl ?_
  apply run_end
  apply wp_ret'
  exact fin_ret (res_tmp rfl rfl) (by simp [farI, *])
 ·skip
  refine rsg rfl rfl (s_move rfl rfl) ?_
  refine rsg rfl rfl (s_gt rfl rfl rfl) ?_
  refine rs rfl (s_pick rfl rfl (fun h => by cases h) (fun _ => rfl)) ?_
  refine rm rfl ?_
  apply run_end
  apply wp_ret'
  exact fin_ret (res_tmp rfl rfl) (by simp [farI, *])
set_option maxRecDepth 8000 in
theorem idx_fn (p : Int → Bool) (l : List Int) (v : Value) (g : Nat) (h : H) (hl : RdI h v l) (hen : ∀ args w, (callFunc g args).run Tryz.prog w = .ok (.enter g args) w) (hp : ∀ x, FnV Tryz.prog g #[.int .i64 x] h (.bool (p x))) : FnV Tryz.prog 197 #[v, .func (.func g) #[] #[]] h (.int .i64 (idxF p l)) := by
 have hlm := hl.len
 refine fn_of (vs := [v, .func (.func g) #[] #[]]) func197 rfl ntmps197 (Nat.le_of_ble_eq_true rfl) fun w hw => ?_
 apply wp_seq'
 refine wp_text rfl ?_
 refine rm rfl ?_
 apply run_end
 apply wp_seq'
 apply wp_seq'
 refine wp_text rfl ?_
 refine rm rfl ?_
 refine rs rfl (s_lenI hl rfl rfl underlying35) ?_
 refine rm rfl ?_
 apply run_end
 apply wp_block'
 refine wp_loop' (fun i : Nat => i ≤ l.length ∧ ∀ j, j < i → p (l.getD j 0) = false) (fun i => ⟨[(8, .int .i64 i), (7, .int .i64 l.length), (1, .func (.func g) #[] #[]), (0, v)], h, []⟩) (fun i => l.length - i) 0 ⟨Nat.zero_le _, fun _ h => by omega⟩ ⟨by repeat (first|exact True.intro|refine And.intro rfl ?_), rfl, by repeat (first|exact NS _|exact SR _|apply SCC|apply SC)⟩ fun i hi => ?_
 obtain ⟨hi, hn⟩ := hi
 apply wp_seq'
 refine wp_text rfl ?_
 refine rs rfl (s_lt rfl rfl rfl) ?_
 apply run_end
 apply wp_seq'
 refine wp_if' rfl (fun hc9 => ?_) (fun hc9 => ?_)
 ·skip
  apply wp_skip'
  apply wp_seq'
  apply wp_block'
  apply wp_seq'
  refine wp_text rfl ?_
  refine rm rfl ?_
  refine rm rfl ?_
  apply run_end
  apply wp_seq'
  refine wp_text rfl ?_
  refine rm rfl ?_
  refine rm rfl ?_
  refine rm rfl ?_
  refine rs rfl (s_iaI hl (by omega) (by omega) rfl rfl rfl underlying35 sizeOf3) ?_
  refine rs rfl (s_ldI hl (by omega) (by omega) rfl rfl isAgg3) ?_
  try simp only [Int.toNat_natCast]
  refine run_callwv (vs := [_]) rfl rfl rfl rfl rfl rfl rfl hen (hp _) ?_
  apply run_end
  refine wp_cond' rfl (fun hc16 => ?_) (fun hc16 => ?_)
  ·skip
   apply wp_seq'
   refine wp_text rfl ?_
   refine rm rfl ?_
   refine rm rfl ?_
   apply run_end
   apply wp_ret'
   exact fin_ret (res_tmp rfl rfl) (by rw [idxF_some (i := i) (by omega) hc16 hn])
  ·skip
   apply wp_skip'
   refine wp_text rfl ?_
   refine rs rfl (s_add rfl rfl rfl (IntWalk.i64_in _ (by omega))) ?_
   refine rm rfl ?_
   apply run_end
   exact ⟨i + 1, ⟨by omega, fun j hj => (Nat.lt_succ_iff_lt_or_eq.1 hj).elim (hn j) (fun e => by rw [e]; exact hc16)⟩, by omega, ⟨by repeat (first|exact True.intro|refine And.intro rfl ?_), rfl, by repeat (first|exact NS _|exact SR _|apply SCC|apply SC)⟩⟩
 ·skip
  apply wp_exit'
  apply wp_seq'
  refine wp_text rfl ?_
  refine rm rfl ?_
  apply run_end
  apply wp_ret'
  exact fin_ret (res_tmp rfl rfl) (by rw [idxF_none (fun j hj => hn j (by omega))])
set_option maxRecDepth 8000 in
theorem contains_fn (p : Int → Bool) (l : List Int) (v : Value) (g : Nat) (h : H) (hl : RdI h v l) (hen : ∀ args w, (callFunc g args).run Tryz.prog w = .ok (.enter g args) w) (hp : ∀ x, FnV Tryz.prog g #[.int .i64 x] h (.bool (p x))) : FnV Tryz.prog 136 #[v, .func (.func g) #[] #[]] h (.bool (l.any p)) := by
 refine fn_of (vs := [v, .func (.func g) #[] #[]]) func136 rfl ntmps136 (Nat.le_of_ble_eq_true rfl) fun w hw => ?_
 apply wp_seq'
 refine wp_text rfl ?_
 refine rm rfl ?_
 apply run_end
 apply wp_seq'
 refine wp_text rfl ?_
 refine rm rfl ?_
 refine rm rfl ?_
 refine run_callv (vs := [_, _]) rfl rfl rfl rfl rfl rfl en197 (idx_fn _ _ _ _ _ hl (by assumption) (by assumption)) ?_
 refine rs rfl (s_ge rfl rfl rfl) ?_
 refine rm rfl ?_
 apply run_end
 apply wp_ret'
 exact fin_ret (res_tmp rfl rfl) (by rw [idxF_any])
set_option maxRecDepth 8000 in
theorem fill_fn (f : List Int) (v : Value) (h : H) (hl : RdI h v f) : FnV Tryz.prog 134 #[v] h (.int .i64 (fillI f)) := by
 refine fn_of (vs := [v]) func134 rfl ntmps134 (Nat.le_of_ble_eq_true rfl) fun w hw => ?_
 apply wp_seq'
 refine wp_text rfl ?_
 refine rm rfl ?_
 apply run_end
 apply wp_seq'
 refine wp_text rfl ?_
 refine rm rfl ?_
 refine rs rfl (s_lenI hl rfl rfl underlying35) ?_
 refine rs rfl (s_gt rfl rfl rfl) ?_
 refine run_callv (vs := [_, _]) rfl rfl rfl rfl rfl rfl en96 (when_fn _ _ _) ?_
 refine rm rfl ?_
 refine run_callv (vs := [_, _]) rfl rfl rfl rfl rfl rfl en136 (contains_fn farI _ _ 137 _ hl en137 (fun x => far_fn x _)) ?_
 refine run_callv (vs := [_, _]) rfl rfl rfl rfl rfl rfl en96 (when_fn _ _ _) ?_
 refine run_bsl (parts := [_, _]) (vs := [_, _]) rfl rfl rfl rfl rfl rfl (bs178_2 _ _) fun b1 h1 hh1 hb1 => ?_
 have hr1 := rdI_of (xs := [_, _]) hb1 rfl rfl (Nat.le_of_ble_eq_true rfl)
 have hl := hl.mono hh1
 refine run_callv (vs := [_]) rfl rfl rfl rfl rfl rfl en94 (first_fn _ _ _ hr1) ?_
 refine rm rfl ?_
 apply run_end
 apply wp_ret'
 exact fin_ret (res_tmp rfl rfl) (rfl)
set_option maxRecDepth 8000 in
theorem gcd_fn (a b : Int) (h : H) : FnV Tryz.prog 139 #[.int .i64 a, .int .i64 b] h (.int .i64 (gcdI a b)) := by
 refine fn_of (vs := [.int .i64 a, .int .i64 b]) func139 rfl ntmps139 (Nat.le_of_ble_eq_true rfl) fun w hw => ?_
 apply wp_seq'
 refine wp_text rfl ?_
 refine rm rfl ?_
 apply run_end
 apply wp_seq'
 apply wp_block'
 refine wp_loop' (fun i : Int × Int => gcdI i.1 i.2 = gcdI a b) (fun i => ⟨[(1, .int .i64 i.2), (0, .int .i64 i.1)], h, []⟩) (fun i => i.2.natAbs) (a, b) rfl ⟨by repeat (first|exact True.intro|refine And.intro rfl ?_), rfl, by repeat (first|exact NS _|exact SR _|apply SCC|apply SC)⟩ fun i hi => ?_
 obtain ⟨x, y⟩ := i
 dsimp only at hi ⊢
 apply wp_seq'
 apply wp_seq'
 refine wp_text rfl ?_
 refine rm rfl ?_
 refine rs rfl (s_ne rfl rfl rfl) ?_
 apply run_end
 refine wp_if' rfl (fun hc6 => ?_) (fun hc6 => ?_)
 ·skip
  apply wp_skip'
  apply wp_block'
  refine wp_any [0, 1, 2, 3, 4, 5] rfl (by kernel_rfl) ?_
  refine rm rfl ?_
  refine rm rfl ?_
  refine rm rfl ?_
  refine rs rfl (s_rem rfl rfl rfl (by omega) rfl) ?_
  refine rm rfl ?_
  refine rm rfl ?_
  apply run_end
  exact ⟨(y, x.tmod y), by rw [← hi]; conv => { rhs; rw [gcdI, dif_neg hc6] }, by have := Int.natAbs_tmod x y; have h2 : 0 < y.natAbs := Int.natAbs_pos.2 hc6; dsimp only; rw [this]; exact Nat.mod_lt _ h2, ⟨by repeat (first|exact True.intro|refine And.intro rfl ?_), rfl, by repeat (first|exact NS _|exact SR _|apply SCC|apply SC)⟩⟩
 ·skip
  apply wp_exit'
  apply wp_seq'
  refine wp_text rfl ?_
  refine rm rfl ?_
  refine rm rfl ?_
  apply run_end
  apply wp_ret'
  exact fin_ret (res_tmp rfl rfl) (by rw [← hi, show y = 0 from by omega, gcdI, dif_pos rfl])
end Go.Tal
