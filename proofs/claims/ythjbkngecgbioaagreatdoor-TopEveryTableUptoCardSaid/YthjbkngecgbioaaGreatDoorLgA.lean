/- The logic of blocks in which the walks are done is sound for the model (no condition). -/
import Derived.Deep.LoopGhost
import Derived.Laws.World
import Derived.WalkKit
import Derived.KernelRfl
import Derived.Below
import Derived.Laws.AppendOwn
import Derived.Laws.AppendOwnNone
import Derived.Laws.Cells
import Derived.Laws.IdiomCopy
import Derived.Laws.OwnMore
import Derived.OrdersHeld
set_option linter.unusedVariables false
set_option linter.unusedSimpArgs false
set_option linter.deprecated false
/- A logic of blocks for the walks: what is owned (F), what is only read (R), and what a piece of code turns. Definitions, the frame, the code's rules. -/
namespace Go.Proofs.YthjbkngecgbioaaGreatDoor.Sl
open Go

abbrev Foot := Nat → Prop
def Same (w w' : World) (S : Foot) : Prop := ∀ b, S b → w'.heap[b]? = w.heap[b]?

/-- What is told of memory: R is only read, F is owned. -/
structure HP where
  h : World → Foot → Foot → Prop
  monoR : ∀ {w R R' F}, (∀ b, R b → R' b) → h w R F → h w R' F
  monoF : ∀ {w R F F'}, (∀ b, F b → F' b) → h w R F → h w R F'
  loc : ∀ {w w' R F}, Same w w' (fun b => R b ∨ F b) → h w R F → h w' R F

def Star : List HP → World → Foot → Foot → Prop
  | [], _, _, _ => True
  | p :: l, w, R, F => ∃ F1 F2 : Foot, (∀ b, F1 b → F b) ∧ (∀ b, F2 b → F b) ∧ (∀ b, F1 b → ¬ F2 b) ∧ p.h w R F1 ∧ Star l w R F2

structure Ok (w : World) (R F : Foot) : Prop where
  r : ∀ b, R b → b < w.heap.size
  f : ∀ b, F b → b < w.heap.size
  d : ∀ b, R b → ¬ F b

structure Step (w : World) (R F : Foot) (w' : World) (R' F' : Foot) : Prop where
  os : w'.os = w.os
  tape : w'.tape = w.tape
  output : w'.output = w.output
  size : w.heap.size ≤ w'.heap.size
  same : ∀ b, b < w.heap.size → ¬ F b → w'.heap[b]? = w.heap[b]?
  rr : ∀ b, R b → R' b
  rn : ∀ b, R' b → R b ∨ F b ∨ w.heap.size ≤ b
  fn : ∀ b, F' b → F b ∨ w.heap.size ≤ b

theorem Step.refl {w : World} {R F : Foot} : Step w R F w R F :=
  ⟨rfl, rfl, rfl, Nat.le_refl _, fun _ _ _ => rfl, fun _ h => h, fun _ h => .inl h, fun _ h => .inl h⟩
theorem Step.trans {w w1 w2 : World} {R F R1 F1 R2 F2 : Foot} (h : Step w R F w1 R1 F1) (g : Step w1 R1 F1 w2 R2 F2) : Step w R F w2 R2 F2 where
  os := g.os.trans h.os
  tape := g.tape.trans h.tape
  output := g.output.trans h.output
  size := Nat.le_trans h.size g.size
  same := fun b hb hF => by
    rw [g.same b (Nat.lt_of_lt_of_le hb h.size) (fun hF1 => (h.fn b hF1).elim hF (fun h1 => absurd hb (by omega)))]
    exact h.same b hb hF
  rr := fun b hb => g.rr b (h.rr b hb)
  rn := fun b hb => by
    rcases g.rn b hb with h1 | h1 | h1
    · exact h.rn b h1
    · rcases h.fn b h1 with h2 | h2
      · exact .inr (.inl h2)
      · exact .inr (.inr h2)
    · exact .inr (.inr (Nat.le_trans h.size h1))
  fn := fun b hb => by
    rcases g.fn b hb with h1 | h1
    · exact h.fn b h1
    · exact .inr (Nat.le_trans h.size h1)

theorem Star.monoR : ∀ {l : List HP} {w : World} {R R' F : Foot}, (∀ b, R b → R' b) → Star l w R F → Star l w R' F
  | [], _, _, _, _, _, _ => trivial
  | _ :: _, _, _, _, _, hr, ⟨F1, F2, a, b, c, d, e⟩ => ⟨F1, F2, a, b, c, HP.monoR _ hr d, Star.monoR hr e⟩
theorem Star.monoF : ∀ {l : List HP} {w : World} {R F F' : Foot}, (∀ b, F b → F' b) → Star l w R F → Star l w R F'
  | [], _, _, _, _, _, _ => trivial
  | _ :: _, _, _, _, _, hf, ⟨F1, F2, a, b, c, d, e⟩ => ⟨F1, F2, fun x h => hf x (a x h), fun x h => hf x (b x h), c, d, e⟩
theorem Star.loc : ∀ {l : List HP} {w w' : World} {R F : Foot}, Same w w' (fun b => R b ∨ F b) → Star l w R F → Star l w' R F
  | [], _, _, _, _, _, _ => trivial
  | _ :: _, _, _, _, _, hs, ⟨F1, F2, a, b, c, d, e⟩ =>
    ⟨F1, F2, a, b, c, HP.loc _ (fun x h => hs x (h.imp id (a x))) d, Star.loc (fun x h => hs x (h.imp id (b x))) e⟩
theorem Star.append {w : World} {R : Foot} : ∀ {l m : List HP} {F1 F2 : Foot}, (∀ b, F1 b → ¬ F2 b) → Star l w R F1 → Star m w R F2 → Star (l ++ m) w R (fun b => F1 b ∨ F2 b)
  | [], _, _, _, _, _, h2 => Star.monoF (fun _ h => .inr h) h2
  | _ :: _, _, _, F2, hd, ⟨G1, G2, a, b, c, d, e⟩, h2 =>
    ⟨G1, fun x => G2 x ∨ F2 x, fun x h => .inl (a x h), fun x h => h.imp (b x) id, fun x h k => k.elim (c x h) (hd x (a x h)), d, Star.append (fun x h => hd x (b x h)) e h2⟩
theorem Star.split {w : World} {R : Foot} : ∀ {l m : List HP} {F : Foot}, Star (l ++ m) w R F → ∃ F1 F2 : Foot, (∀ b, F1 b → F b) ∧ (∀ b, F2 b → F b) ∧ (∀ b, F1 b → ¬ F2 b) ∧ Star l w R F1 ∧ Star m w R F2
  | [], _, _, h => ⟨fun _ => False, _, fun _ h => h.elim, fun _ h => h, fun _ h => h.elim, trivial, h⟩
  | p :: l, _, _, ⟨G1, G2, a, b, c, d, e⟩ => by
    obtain ⟨H1, H2, a', b', c', d', e'⟩ := Star.split e
    refine ⟨fun x => G1 x ∨ H1 x, H2, fun x h => h.elim (a x) (fun k => b x (a' x k)), fun x h => b x (b' x h), fun x h k => h.elim (fun g => c x g (b' x k)) (fun g => c' x g k), ?_, e'⟩
    exact ⟨G1, H1, fun x h => .inl h, fun x h => .inr h, fun x h k => c x h (a' x k), d, d'⟩

/-- One of a list, and the others. -/
def take1 : Nat → List HP → Option (HP × List HP)
  | _, [] => none
  | 0, p :: l => some (p, l)
  | i + 1, p :: l => match take1 i l with
    | some (q, m) => some (q, p :: m)
    | none => none
theorem take1_star {w : World} {R : Foot} : ∀ {i : Nat} {l m : List HP} {p : HP} {F : Foot}, take1 i l = some (p, m) → Star l w R F → Star (p :: m) w R F
  | _, [], _, _, _, h, _ => by simp [take1] at h
  | 0, _ :: _, _, _, _, h, hs => by simp only [take1, Option.some.injEq, Prod.mk.injEq] at h; obtain ⟨rfl, rfl⟩ := h; exact hs
  | i + 1, q :: l, m, p, F, h, ⟨F1, F2, a, b, c, d, e⟩ => by
    simp only [take1] at h
    split at h
    · rename_i q' m' hq
      simp only [Option.some.injEq, Prod.mk.injEq] at h
      obtain ⟨rfl, rfl⟩ := h
      obtain ⟨G1, G2, a', b', c', d', e'⟩ := take1_star hq e
      exact ⟨G1, fun x => F1 x ∨ G2 x, fun x h => b x (a' x h), fun x h => h.elim (a x) (fun k => b x (b' x k)), fun x h k => k.elim (fun g => c x g (a' x h)) (c' x h), d',
        F1, G2, fun x h => .inl h, fun x h => .inr h, fun x h k => c x h (b' x k), d, e'⟩
    · simp at h
/-- Some of a list, in an order (each number counts in what is left), and the others. -/
def takes : List Nat → List HP → Option (List HP × List HP)
  | [], l => some ([], l)
  | i :: is, l => match take1 i l with
    | some (p, m) => match takes is m with
      | some (ps, r) => some (p :: ps, r)
      | none => none
    | none => none
theorem takes_star {w : World} {R : Foot} : ∀ {is : List Nat} {l ps r : List HP} {F : Foot}, takes is l = some (ps, r) → Star l w R F → Star (ps ++ r) w R F
  | [], _, _, _, _, h, hs => by simp only [takes, Option.some.injEq, Prod.mk.injEq] at h; obtain ⟨rfl, rfl⟩ := h; exact hs
  | i :: is, l, ps, r, F, h, hs => by
    simp only [takes] at h
    split at h
    · rename_i p m h1
      split at h
      · rename_i ps' r' h2
        simp only [Option.some.injEq, Prod.mk.injEq] at h
        obtain ⟨rfl, rfl⟩ := h
        obtain ⟨F1, F2, a, b, c, d, e⟩ := take1_star h1 hs
        exact ⟨F1, F2, a, b, c, d, takes_star h2 e⟩
      · simp at h
    · simp at h

/-! ### Slots -/
abbrev Env := List (Nat × Value)
def get : Env → Nat → Option Value
  | [], _ => none
  | (k, v) :: l, t => if Nat.beq k t then some v else get l t
def ev (l : Env) : Operand → Option Value
  | .tmp t => get l t
  | .const v => some v
  | .func f => some (.func (.func f) #[] #[])
  | .global g => some (.pointer (some ⟨g, 0, none⟩))
def evs (l : Env) : List Operand → Option (List Value)
  | [] => some []
  | x :: xs => match ev l x with
    | some v => match evs l xs with
      | some vs => some (v :: vs)
      | none => none
    | none => none
def Holds (a : Act) (l : Env) : Prop := ∀ t v, get l t = some v → a.tmps.getD t undef = v
theorem Holds.ev {a : Act} {l : Env} (h : Holds a l) {x : Operand} {v : Value} (hx : ev l x = some v) : a.eval x = v := by
  cases x with
  | tmp t => exact h t v hx
  | const u => simpa [Sl.ev, Act.eval] using hx
  | global g => simpa [Sl.ev, Act.eval] using hx
  | func f => simpa [Sl.ev, Act.eval] using hx
theorem Holds.evs {a : Act} {l : Env} (h : Holds a l) : ∀ {xs : List Operand} {vs : List Value}, evs l xs = some vs → xs.map a.eval = vs
  | [], vs, hx => by simp only [Sl.evs, Option.some.injEq] at hx; subst hx; rfl
  | x :: xs, vs, hx => by
    simp only [Sl.evs] at hx
    split at hx
    · rename_i v hv
      split at hx
      · rename_i us hu
        simp only [Option.some.injEq] at hx
        subst hx
        rw [List.map_cons, h.ev hv, h.evs hu]
      · simp at hx
    · simp at hx
theorem Holds.put {a : Act} {l : Env} (h : Holds a l) {d : Nat} {v : Value} (hd : d < a.tmps.size) : Holds (a.put (some d) v) ((d, v) :: l) := by
  intro t u ht
  simp only [get] at ht
  by_cases e : d = t
  · subst e
    simp only [Nat.beq_refl, if_true, Option.some.injEq] at ht
    subst ht
    simp [Act.put, hd]
  · rw [if_neg (by simpa [Nat.beq_eq] using e)] at ht
    have := h t u ht
    simp only [Act.put, Array.getD_eq_getD_getElem?] at this ⊢
    rw [Array.getElem?_setIfInBounds_ne e]
    exact this
theorem size_put (a : Act) (d : Option Tmp) (v : Value) : (a.put d v).tmps.size = a.tmps.size := by cases d <;> simp [Act.put]
theorem defers_put (a : Act) (d : Option Tmp) (v : Value) : (a.put d v).defers = a.defers := by cases d <;> rfl
/-- Slots that are still wanted. -/
def keep (ks : List Nat) (l : Env) : Env := ks.filterMap fun k => match get l k with | some v => some (k, v) | none => none
theorem keep_get {l : Env} : ∀ {ks : List Nat} {t : Nat} {v : Value}, get (keep ks l) t = some v → get l t = some v
  | [], _, _, h => by simp [keep, get] at h
  | k :: ks, t, v, h => by
    simp only [keep, List.filterMap_cons] at h
    split at h
    · exact keep_get (ks := ks) h
    · rename_i b hb
      split at hb
      · rename_i u hu
        simp only [Option.some.injEq] at hb
        subst hb
        simp only [get] at h
        by_cases e : Nat.beq k t = true
        · rw [if_pos e] at h
          have e' := Nat.eq_of_beq_eq_true e
          subst e'
          rw [hu]; exact h
        · rw [if_neg e] at h
          exact keep_get (ks := ks) h
      · simp at hb
theorem Holds.keep {a : Act} {l : Env} (h : Holds a l) (ks : List Nat) : Holds a (keep ks l) := fun t v ht => h t v (keep_get ht)

/-! ### Judgements -/
/-- Where the function began. -/
structure Ctx where
  w : World
  R : Foot
  F : Foot
structure Inv (n : Nat) (C : Ctx) (l : Env) (A : List HP) (a : Act) (w : World) : Prop where
  size : a.tmps.size = n
  defers : a.defers = []
  holds : Holds a l
  mem : ∃ R F, Step C.w C.R C.F w R F ∧ Ok w R F ∧ Star A w R F
abbrev Pst := Exit → Act → World → Prop
def J (P : Program) (n : Nat) (C : Ctx) (c : Code) (Q : Pst) (l : Env) (A : List HP) : Prop := ∀ a w, Inv n C l A a w → c.wp P Q a w
def JL (P : Program) (n : Nat) (C : Ctx) (ops : Array Oper) (Q : Pst) (r : List Oper) (l : Env) (A : List HP) : Prop := ∀ a w, Inv n C l A a w → wpList P ops Q r a w
def JN (n : Nat) (C : Ctx) (K : Act → World → Prop) (l : Env) (A : List HP) : Prop := ∀ a w, Inv n C l A a w → K a w

section
variable {P : Program} {n : Nat} {C : Ctx} {Q : Pst} {l : Env} {A : List HP} {x y : Code} {ops : Array Oper} {r : List Oper}
theorem J.seq (h : J P n C x (Exit.then (y.wp P Q) Q) l A) : J P n C (.seq x y) Q l A := fun a w i => wp_seq (h a w i)
theorem J.block {id : Nat} (h : J P n C x (Exit.inBlock id Q) l A) : J P n C (.block id x) Q l A := fun a w i => wp_block (h a w i)
theorem J.region {id : Nat} {ops : List Oper} (h : JL P n C ops.toArray Q ops l A) : J P n C (.region id ops.toArray false) Q l A := fun a w i => wp_region_lit (h a w i)
theorem J.skip (h : JN n C (Q .normal) l A) : J P n C .skip Q l A := fun a w i => wp_skip (h a w i)
theorem JL.nil (h : JN n C (Q .normal) l A) : JL P n C ops Q [] l A := fun a w i => h a w i
theorem JN.code (h : J P n C y Q l A) : JN n C (y.wp P Q) l A := h
theorem J.exit {id : Nat} (h : JN n C (Q (.exit id)) l A) : J P n C (.exit id) Q l A := fun a w i => wp_exit (h a w i)
theorem J.ret (h : JN n C (Q .ret) l A) : J P n C .ret Q l A := fun a w i => wp_ret (h a w i)
theorem J.cond {c : Operand} {b : Bool} (hc : ev l c = some (.bool b)) (ht : b = true → J P n C x Q l A) (hf : b = false → J P n C y Q l A) : J P n C (.cond c x y) Q l A :=
  fun a w i => wp_cond_split (i.holds.ev hc) (fun h => ht h a w i) (fun h => hf h a w i)
theorem J.cond_true {c : Operand} (hc : ev l c = some (.bool true)) (ht : J P n C x Q l A) : J P n C (.cond c x y) Q l A := fun a w i => wp_cond_true (i.holds.ev hc) (ht a w i)
theorem J.cond_false {c : Operand} (hc : ev l c = some (.bool false)) (hf : J P n C y Q l A) : J P n C (.cond c x y) Q l A := fun a w i => wp_cond_false (i.holds.ev hc) (hf a w i)
/-- Ways meet: what stands then is told once. -/
theorem J.meet {ι : Type} (lf : ι → Env) (Af : ι → List HP) (hx : J P n C x (Exit.then (fun a w => ∃ i, Inv n C (lf i) (Af i) a w) Q) l A) (hy : ∀ i, J P n C y Q (lf i) (Af i)) : J P n C (.seq x y) Q l A :=
  fun a w i => wp_seq (wp_mono (hx a w i) fun e a' w' hq => by
    cases e with
    | normal => obtain ⟨j, hj⟩ := hq; exact hy j a' w' hj
    | exit id => exact hq
    | goto g => exact hq
    | ret => exact hq
    | panic ch => exact hq
    | outgrown => exact hq)
theorem JN.met {ι : Type} {lf : ι → Env} {Af : ι → List HP} (i : ι) (hl : ∀ t v, get (lf i) t = some v → get l t = some v) (hA : ∀ w R F, Star A w R F → Star (Af i) w R F) : JN n C (fun a w => ∃ i, Inv n C (lf i) (Af i) a w) l A :=
  fun _ _ h => ⟨i, h.size, h.defers, fun t v ht => h.holds t v (hl t v ht), let ⟨R, F, s, o, st⟩ := h.mem; ⟨R, F, s, o, hA _ _ _ st⟩⟩
/-- A loop: ι tells what stands at its head, μ falls. -/
theorem J.loop {ι : Type} (lf : ι → Env) (Af : ι → List HP) (pf : ι → Prop) (μ : ι → Nat) (i0 : ι) (hp0 : pf i0) (hl : ∀ t v, get (lf i0) t = some v → get l t = some v) (hA : ∀ w R F, Star A w R F → Star (Af i0) w R F)
    (round : ∀ i, pf i → J P n C x (Exit.then (fun a w => ∃ j, μ j < μ i ∧ pf j ∧ Inv n C (lf j) (Af j) a w) Q) (lf i) (Af i)) : J P n C (.loop x) Q l A := by
  intro a w h
  refine wp_loop_ghost (fun m a w => ∃ i, μ i = m ∧ pf i ∧ Inv n C (lf i) (Af i) a w) (μ i0)
    ⟨i0, rfl, hp0, h.size, h.defers, fun t v ht => h.holds t v (hl t v ht), let ⟨R, F, s, o, st⟩ := h.mem; ⟨R, F, s, o, hA _ _ _ st⟩⟩ ?_
  rintro m a w ⟨i, rfl, hp, hi⟩
  refine wp_mono (round i hp a w hi) fun e a' w' hq => ?_
  cases e with
  | normal => obtain ⟨j, h1, h2, h3⟩ := hq; exact ⟨μ j, h1, j, rfl, h2, h3⟩
  | exit id => exact hq
  | goto g => exact hq
  | ret => exact hq
  | panic ch => exact hq
  | outgrown => exact hq
theorem JN.round {ι : Type} {lf : ι → Env} {Af : ι → List HP} {pf : ι → Prop} {μ : ι → Nat} {i : ι} (j : ι) (hμ : μ j < μ i) (hp : pf j) (hl : ∀ t v, get (lf j) t = some v → get l t = some v) (hA : ∀ w R F, Star A w R F → Star (Af j) w R F) :
    JN n C (fun a w => ∃ j, μ j < μ i ∧ pf j ∧ Inv n C (lf j) (Af j) a w) l A :=
  fun _ _ h => ⟨j, hμ, hp, h.size, h.defers, fun t v ht => h.holds t v (hl t v ht), let ⟨R, F, s, o, st⟩ := h.mem; ⟨R, F, s, o, hA _ _ _ st⟩⟩
theorem J.keep (ks : List Nat) {l' : Env} (hk : Sl.keep ks l = l') (h : J P n C x Q l' A) : J P n C x Q l A := fun a w i => h a w ⟨i.size, i.defers, hk ▸ i.holds.keep ks, i.mem⟩
theorem JL.keep (ks : List Nat) {l' : Env} (hk : Sl.keep ks l = l') (h : JL P n C ops Q r l' A) : JL P n C ops Q r l A := fun a w i => h a w ⟨i.size, i.defers, hk ▸ i.holds.keep ks, i.mem⟩
end

/-! ### What an operation, or a call, turns: told of what it touches alone -/
/-- From atoms L the world goes to w', with v and atoms L' of which q speaks. -/
def Turns (w : World) (R F : Foot) (w' : World) (L' : List HP) : Prop := ∃ R' F', Step w R F w' R' F' ∧ Ok w' R' F' ∧ Star L' w' R' F'
theorem Turns.frame {w w' : World} {R F F1 F2 : Foot} {L' M : List HP} (ho : Ok w R F) (h1 : ∀ b, F1 b → F b) (h2 : ∀ b, F2 b → F b) (hd : ∀ b, F1 b → ¬ F2 b)
    (ht : Turns w R F1 w' L') (hm : Star M w R F2) : Turns w R F w' (L' ++ M) := by
  obtain ⟨R', F', s, o, st⟩ := ht
  have hs : Same w w' (fun b => R b ∨ F2 b) := fun b hb => s.same b (hb.elim (ho.r b) (fun h => ho.f b (h2 b h))) (fun hF => hb.elim (fun h => ho.d b h (h1 b hF)) (fun h => hd b hF h))
  refine ⟨R', fun b => F' b ∨ F2 b, ⟨s.os, s.tape, s.output, s.size, fun b hb hF => s.same b hb (fun h => hF (h1 b h)), s.rr, fun b hb => (s.rn b hb).imp id (Or.imp (h1 b) id), fun b hb => ?_⟩, ⟨o.r, fun b hb => ?_, fun b hb hF => ?_⟩, ?_⟩
  · rcases hb with hb | hb
    · exact (s.fn b hb).imp (h1 b) id
    · exact .inl (h2 b hb)
  · rcases hb with hb | hb
    · exact o.f b hb
    · exact Nat.lt_of_lt_of_le (ho.f b (h2 b hb)) s.size
  · rcases hF with hF | hF
    · exact o.d b hb hF
    · rcases s.rn b hb with h | h | h
      · exact ho.d b h (h2 b hF)
      · exact hd b h hF
      · exact absurd (ho.f b (h2 b hF)) (by omega)
  · refine Star.append (fun b hb hF => ?_) st (Star.monoR s.rr (Star.loc hs hm))
    rcases s.fn b hb with h | h
    · exact hd b h hF
    · exact absurd (ho.f b (h2 b hF)) (by omega)

def Spec (P : Program) (f : FuncId) (args : Array Value) (L : List HP) (q : Value → List HP → Prop) : Prop :=
  ∀ w R F, Ok w R F → Star L w R F → Calls P f args w fun e w' => ∃ v L', q v L' ∧ e = .returned v ∧ Turns w R F w' L'

section
variable {P : Program} {n : Nat} {C : Ctx} {Q : Pst} {l : Env} {A : List HP} {x : Code} {ops : Array Oper} {r : List Oper}
/-- A change of the view alone: the world stands. -/
def Upd (L L' : List HP) : Prop := ∀ w R F, Ok w R F → Star L w R F → Turns w R F w L'
theorem Upd.of_imp {L L' : List HP} (h : ∀ w R F, Star L w R F → Star L' w R F) : Upd L L' := fun w R F o s => ⟨R, F, .refl, o, h w R F s⟩
theorem Inv.upd {a : Act} {w : World} (is : List Nat) {L L' A' : List HP} (ht : takes is A = some (L, A')) (hu : Upd L L') (h : Inv n C l A a w) : Inv n C l (L' ++ A') a w := by
  obtain ⟨R, F, s, o, st⟩ := h.mem
  obtain ⟨F1, F2, h1, h2, hd, s1, s2⟩ := Star.split (takes_star ht st)
  obtain ⟨R', F', s', o', st'⟩ := Turns.frame o h1 h2 hd (hu w R F1 ⟨o.r, fun b hb => o.f b (h1 b hb), fun b hb hF => o.d b hb (h1 b hF)⟩ s1) s2
  exact ⟨h.size, h.defers, h.holds, R', F', s.trans s', o', st'⟩
theorem J.upd (is : List Nat) {L L' A' : List HP} (ht : takes is A = some (L, A')) (hu : Upd L L') (h : J P n C x Q l (L' ++ A')) : J P n C x Q l A := fun a w i => h a w (i.upd is ht hu)
theorem JL.upd (is : List Nat) {L L' A' : List HP} (ht : takes is A = some (L, A')) (hu : Upd L L') (h : JL P n C ops Q r l (L' ++ A')) : JL P n C ops Q r l A := fun a w i => h a w (i.upd is ht hu)
/-- An atom is laid open: what is told of it holds for some z. -/
theorem Inv.unf {a : Act} {w : World} {ι : Type} (i : Nat) {p : HP} {A' : List HP} (ht : take1 i A = some (p, A')) (Lf : ι → List HP) (pf : ι → Prop) (hu : ∀ w R F, p.h w R F → ∃ z, pf z ∧ Star (Lf z) w R F) (h : Inv n C l A a w) : ∃ z, pf z ∧ Inv n C l (Lf z ++ A') a w := by
  obtain ⟨R, F, s, o, st⟩ := h.mem
  obtain ⟨F1, F2, h1, h2, hd, hp, s2⟩ := take1_star ht st
  obtain ⟨z, hz, sz⟩ := hu _ _ _ hp
  refine ⟨z, hz, h.size, h.defers, h.holds, R, F, s, o, Star.monoF (fun b hb => hb.elim (h1 b) (h2 b)) (Star.append hd sz s2)⟩
theorem J.unf {ι : Type} (i : Nat) {p : HP} {A' : List HP} (ht : take1 i A = some (p, A')) (Lf : ι → List HP) (pf : ι → Prop) (hu : ∀ w R F, p.h w R F → ∃ z, pf z ∧ Star (Lf z) w R F) (h : ∀ z, pf z → J P n C x Q l (Lf z ++ A')) : J P n C x Q l A :=
  fun a w v => let ⟨z, hz, hi⟩ := v.unf i ht Lf pf hu; h z hz a w hi
theorem JL.unf {ι : Type} (i : Nat) {p : HP} {A' : List HP} (ht : take1 i A = some (p, A')) (Lf : ι → List HP) (pf : ι → Prop) (hu : ∀ w R F, p.h w R F → ∃ z, pf z ∧ Star (Lf z) w R F) (h : ∀ z, pf z → JL P n C ops Q r l (Lf z ++ A')) : JL P n C ops Q r l A :=
  fun a w v => let ⟨z, hz, hi⟩ := v.unf i ht Lf pf hu; h z hz a w hi

/-- A fact that an atom tells, kept. -/
theorem Inv.tell {a : Act} {w : World} (i : Nat) {p : HP} {A' : List HP} (ht : take1 i A = some (p, A')) {φ : Prop} (hu : ∀ w R F, p.h w R F → φ) (h : Inv n C l A a w) : φ := by
  obtain ⟨R, F, _, _, st⟩ := h.mem
  obtain ⟨F1, _, _, _, _, hp, _⟩ := take1_star ht st
  exact hu _ _ _ hp
theorem J.tell (i : Nat) {p : HP} {A' : List HP} (ht : take1 i A = some (p, A')) {φ : Prop} (hu : ∀ w R F, p.h w R F → φ) (h : φ → J P n C x Q l A) : J P n C x Q l A := fun a w v => h (v.tell i ht hu) a w v
theorem JL.tell (i : Nat) {p : HP} {A' : List HP} (ht : take1 i A = some (p, A')) {φ : Prop} (hu : ∀ w R F, p.h w R F → φ) (h : φ → JL P n C ops Q r l A) : JL P n C ops Q r l A := fun a w v => h (v.tell i ht hu) a w v
end

/-! ### The function -/
theorem Spec.intro {P : Program} {f : FuncId} {fn : Func} {c : Code} {args : Array Value} {L : List HP} {q : Value → List HP → Prop} {n : Nat} {l : Env}
    (hf : P.funcs[f]? = some fn) (hb : fn.body = some c) (hn : fn.ntmps = n) (hs : args.size ≤ n)
    (hl : ∀ t v, get l t = some v → args.getD t undef = v ∧ t < args.size)
    (h : ∀ w R F, J P n ⟨w, R, F⟩ c (bodyPost P fn fun e w' => ∃ v L', q v L' ∧ e = .returned v ∧ Turns w R F w' L') l L) : Spec P f args L q := by
  intro w R F o s
  refine calls_of_wp hf hb (h w R F _ _ ⟨?_, rfl, ?_, R, F, .refl, o, s⟩)
  · simp [hn]; omega
  · intro t v ht
    obtain ⟨h1, h2⟩ := hl t v ht
    rw [← h1]
    simp [Array.getD_eq_getD_getElem?, Array.getElem?_append, h2]
def mkEnv : Nat → List Value → Env
  | _, [] => []
  | k, v :: vs => (k, v) :: mkEnv (k + 1) vs
theorem mkEnv_get : ∀ {k : Nat} {vs : List Value} {t : Nat} {v : Value}, get (mkEnv k vs) t = some v → k ≤ t ∧ vs[t - k]? = some v
  | _, [], _, _, h => by simp [mkEnv, get] at h
  | k, u :: vs, t, v, h => by
    simp only [mkEnv, get] at h
    by_cases e : Nat.beq k t = true
    · rw [if_pos e] at h
      have := Nat.eq_of_beq_eq_true e
      subst this
      simpa using h
    · rw [if_neg e] at h
      obtain ⟨h1, h2⟩ := mkEnv_get h
      refine ⟨by omega, ?_⟩
      rw [show t - k = (t - (k + 1)) + 1 by omega]
      simpa using h2
theorem Spec.enter {P : Program} {f : FuncId} {fn : Func} {c : Code} {args : List Value} {L : List HP} {q : Value → List HP → Prop} {n : Nat} {l : Env}
    (hf : P.funcs[f]? = some fn) (hb : fn.body = some c) (hn : fn.ntmps = n) (hs : Nat.ble args.length n = true) (hl : mkEnv 0 args = l)
    (h : ∀ w R F, J P n ⟨w, R, F⟩ c (bodyPost P fn fun e w' => ∃ v L', q v L' ∧ e = .returned v ∧ Turns w R F w' L') l L) : Spec P f args.toArray L q := by
  subst hl
  refine Spec.intro hf hb hn (by simpa using Nat.le_of_ble_eq_true hs) (fun t v ht => ?_) h
  obtain ⟨_, h2⟩ := mkEnv_get ht
  rw [Nat.sub_zero] at h2
  have := (List.getElem?_eq_some_iff.1 h2).1
  exact ⟨by simp [Array.getD_eq_getD_getElem?, h2], by simpa using this⟩
/-- It returns: one slot, or none. -/
theorem JN.returns1 {P : Program} {n : Nat} {C : Ctx} {fn : Func} {q : Value → List HP → Prop} {l : Env} {A A' L' : List HP} {t : Nat} {v : Value} (is : List Nat) (hr : fn.results = #[.tmp t]) (hv : get l t = some v)
    (ht : takes is A = some (L', A')) (hq : q v L') : JN n C (bodyPost P fn (fun e w' => ∃ v L', q v L' ∧ e = .returned v ∧ Turns C.w C.R C.F w' L') .ret) l A := by
  intro a w i
  refine ⟨i.defers, v, ?_, v, L', hq, rfl, ?_⟩
  · have := i.holds t v hv
    simp [results, hr, Sem.run, pure]
    simpa using this
  · obtain ⟨R, F, s, o, st⟩ := i.mem
    obtain ⟨F1, F2, h1, h2, hd, s1, _⟩ := Star.split (takes_star ht st)
    exact ⟨R, F, s, o, Star.monoF h1 s1⟩
end Go.Proofs.YthjbkngecgbioaaGreatDoor.Sl

/- The logic of blocks: what each operation turns. -/
namespace Go.Proofs.YthjbkngecgbioaaGreatDoor.Sl
open Go

/-! ### Tables' facts, asked once a type -/
def plainTy (P : Program) (t : TypeId) : Bool := match P.underlying t with
  | some (.struct _) | some (.array _ _) | none => false
  | some _ => true
def aggTy (P : Program) (t : TypeId) : Bool := match P.underlying t with
  | some (.struct _) | some (.array _ _) => true
  | _ => false
def szTy (P : Program) (t : TypeId) : Option Nat := (P.info? t).map (·.size)
def byTy (P : Program) (t : TypeId) : Option Nat := (P.info? t).map (·.bytes)
def zeroTy (P : Program) (t : TypeId) : Option (List Value) := match P.info? t with
  | some i => i.zero.map (·.cells.toList)
  | none => none
def sliceTy (P : Program) (t : TypeId) : Option TypeId := match P.underlying t with
  | some (.slice e) => some e
  | _ => none
def fldOff (P : Program) (s : TypeId) (i : Nat) : Option Nat := match P.underlying s with
  | some (.struct fs) => match fs[i]? with
    | some f => match P.info? f.type with
      | some inf => if inf.size = 0 then none else some f.offset
      | none => none
    | none => none
  | _ => none

section
variable {P : Program} {w : World}
theorem run_underlying {t : TypeId} {d : TypeDesc} (h : P.underlying t = some d) : (underlying t).run P w = .ok d w := by
  simp [underlying, program, Sem.run, h, pure]
theorem run_sizeOf {t n : Nat} (h : szTy P t = some n) : (sizeOf t).run P w = .ok n w := by
  unfold szTy at h
  cases hi : P.info? t with
  | none => simp [hi] at h
  | some i => simp [hi] at h; simp [sizeOf, typeInfo, program, Sem.run, hi, pure, h]
theorem run_isAgg_plain {t : TypeId} (h : plainTy P t = true) : (isAgg t).run P w = .ok false w := by
  unfold plainTy at h
  cases hu : P.underlying t with
  | none => simp [hu] at h
  | some d => cases d <;> simp [hu] at h <;> simp [isAgg, run_underlying hu, Sem.run, pure]
theorem run_isAgg_agg {t : TypeId} (h : aggTy P t = true) : (isAgg t).run P w = .ok true w := by
  unfold aggTy at h
  cases hu : P.underlying t with
  | none => simp [hu] at h
  | some d => cases d <;> simp [hu] at h <;> simp [isAgg, run_underlying hu, Sem.run, pure]
theorem run_zero {t : TypeId} {z : List Value} (h : zeroTy P t = some z) : ∃ v, v.cells.toList = z ∧ (zeroValue t).run P w = .ok v w := by
  unfold zeroTy at h
  cases hi : P.info? t with
  | none => simp [hi] at h
  | some i =>
    cases hz : i.zero with
    | none => simp [hi, hz] at h
    | some v => simp [hi, hz] at h; exact ⟨v, h, by simp [zeroValue, typeInfo, program, Sem.run, hi, pure, hz]⟩
end

/-! ### A block that is owned, whole -/
def Fz (fz : Nat × Nat) (n : Nat) : Prop := ∀ i, i < n → ¬ (fz.1 ≤ i ∧ i < fz.2)
def HasBlk (w : World) (b T : Nat) (cs : List Value) : Prop := ∃ fz, w.heap[b]? = some (.cells cs.toArray T fz) ∧ Fz fz cs.length
def blk (b T : Nat) (cs : List Value) : HP where
  h w _ F := F b ∧ HasBlk w b T cs
  monoR := fun _ h => h
  monoF := fun hf h => ⟨hf _ h.1, h.2⟩
  loc := fun hs h => ⟨h.1, by obtain ⟨fz, h1, h2⟩ := h.2; exact ⟨fz, (hs _ (.inr h.1)).trans h1, h2⟩⟩

theorem HasBlk.cell {w : World} {b T : Nat} {cs : List Value} (h : HasBlk w b T cs) (i : Nat) : w.cell? ⟨b, i, none⟩ = cs[i]? := by
  obtain ⟨fz, h, _⟩ := h
  simp [World.cell?, h]
theorem HasBlk.free {w : World} {b T : Nat} {cs : List Value} (h : HasBlk w b T cs) {i : Nat} (hi : i < cs.length) : w.frozen? ⟨b, i, none⟩ = false := by
  obtain ⟨fz, h, hf⟩ := h
  have := hf i hi
  simp only [World.frozen?, h]
  simp only [Bool.and_eq_false_iff, decide_eq_false_iff_not]
  by_cases h1 : fz.1 ≤ i
  · exact .inr (fun h2 => this ⟨h1, h2⟩)
  · exact .inl h1
theorem HasBlk.lt {w : World} {b T : Nat} {cs : List Value} (h : HasBlk w b T cs) : b < w.heap.size := by
  obtain ⟨fz, h, _⟩ := h
  exact (Array.getElem?_eq_some_iff.1 h).1
theorem HasBlk.set {w : World} {b T : Nat} {cs : List Value} (h : HasBlk w b T cs) (i : Nat) (v : Value) : HasBlk (w.setCell ⟨b, i, none⟩ v) b T (cs.set i v) := by
  obtain ⟨fz, h, hf⟩ := h
  refine ⟨fz, ?_, by simpa using hf⟩
  simp [World.setCell, Array.getElem?_modify, h]
theorem heap_set_ne (w : World) {a : Addr} {v : Value} {b : Nat} (h : b ≠ a.block) : (w.setCell a v).heap[b]? = w.heap[b]? := by
  simp [World.setCell, Array.getElem?_modify, Ne.symm h]
def putL (cs : List Value) (o : Nat) : List Value → List Value
  | [] => cs
  | v :: vs => putL (cs.set o v) (o + 1) vs
theorem putL_length : ∀ {vs cs : List Value} {o : Nat}, (putL cs o vs).length = cs.length
  | [], _, _ => rfl
  | _ :: vs, cs, o => by simp [putL, putL_length (vs := vs)]
/-- A value of one cell. -/
def one (v : Value) : Bool := match v with
  | .agg _ | .tuple _ => false
  | _ => true
theorem one_cells {v : Value} (h : one v = true) : v.cells = #[v] := by cases v <;> simp [one] at h <;> rfl

theorem Turns.set {w w' : World} {R F : Foot} {b T : Nat} {cs : List Value} (o : Ok w R F) (hF : F b) (hs : w'.heap.size = w.heap.size) (h1 : w'.os = w.os) (h2 : w'.tape = w.tape) (h3 : w'.output = w.output)
    (hb : ∀ k, k ≠ b → w'.heap[k]? = w.heap[k]?) (hc : HasBlk w' b T cs) : Turns w R F w' [blk b T cs] :=
  ⟨R, F, ⟨h1, h2, h3, by omega, fun k _ hk => hb k (fun e => hk (e ▸ hF)), fun _ h => h, fun _ h => .inl h, fun _ h => .inl h⟩, ⟨fun k hk => by rw [hs]; exact o.r k hk, fun k hk => by rw [hs]; exact o.f k hk, o.d⟩,
    F, fun _ => False, fun _ h => h, fun _ h => h.elim, fun _ _ h => h, ⟨hF, hc⟩, trivial⟩
theorem Turns.new {w : World} {R F : Foot} (T : Nat) (cs : List Value) (fz : Nat × Nat) (o : Ok w R F) (hf : Fz fz cs.length) : Turns w R F (w.alloc (.cells cs.toArray T fz)) [blk w.heap.size T cs] := by
  refine ⟨R, fun b => b = w.heap.size, ⟨rfl, rfl, rfl, by simp, fun k hk _ => ?_, fun _ h => h, fun _ h => .inl h, fun k hk => .inr (by omega)⟩, ⟨fun k hk => ?_, fun k hk => ?_, fun k hk e => ?_⟩,
    fun b => b = w.heap.size, fun _ => False, fun _ h => h, fun _ h => h.elim, fun _ _ h => h, ⟨rfl, fz, ?_, hf⟩, trivial⟩
  · show (w.heap.push _)[k]? = _
    simp [Array.getElem?_push, show k ≠ w.heap.size by omega]
  · have := o.r k hk; simp; omega
  · simp; omega
  · have := o.r k hk; omega
  · show (w.heap.push _)[w.heap.size]? = _
    simp

/-! ### One operation -/
/-- It gives v and turns nothing, in every world that A tells of. -/
def Qt (P : Program) (l : Env) (A : List HP) (o : Oper) (v : Value) : Prop := ∀ a w R F, Holds a l → Ok w R F → Star A w R F → (execOp a.eval o).run P w = .ok (.value v) w
/-- It gives some v and leaves B, of which q speaks. -/
def O1 (P : Program) (n : Nat) (C : Ctx) (l : Env) (A : List HP) (o : Oper) (q : Value → List HP → Prop) : Prop :=
  ∀ a w, Inv n C l A a w → ∀ (K : Act → World → Prop) (Q : Pst), (∀ v B w', q v B → (∀ d, o.dst = some d → Nat.blt d n = true → Inv n C ((d, v) :: l) B (a.put o.dst v) w') → (o.dst = none → Inv n C l B (a.put o.dst v) w') → K (a.put o.dst v) w') → o.wp P a w K Q
theorem Inv.put {n : Nat} {C : Ctx} {l : Env} {A : List HP} {a : Act} {w : World} (i : Inv n C l A a w) {d : Nat} (hd : Nat.blt d n = true) (v : Value) : Inv n C ((d, v) :: l) A (a.put (some d) v) w :=
  ⟨by rw [size_put]; exact i.size, by rw [defers_put]; exact i.defers, i.holds.put (by rw [i.size]; exact Nat.le_of_ble_eq_true hd), i.mem⟩
section
variable {P : Program} {n : Nat} {C : Ctx} {Q : Pst} {l : Env} {A A' B : List HP} {ops : Array Oper} {r : List Oper} {op : Op} {ty : TypeId} {pos : String} {af : Array Edge} {d : Nat} {v : Value} {q : Value → List HP → Prop}
theorem JL.qt (hq : Qt P l A ⟨some d, op, ty, pos, af, none⟩ v) (hd : Nat.blt d n = true) (h : JL P n C ops Q r ((d, v) :: l) A) : JL P n C ops Q (⟨some d, op, ty, pos, af, none⟩ :: r) l A := by
  intro a w i
  obtain ⟨R, F, s, o, st⟩ := i.mem
  refine wpList_plain rfl fun K hK => ?_
  unfold Oper.wp
  rw [hq a w R F i.holds o st]
  exact hK _ _ (h _ _ (i.put hd v))
theorem JL.ef (ho : O1 P n C l A ⟨some d, op, ty, pos, af, none⟩ q) (hd : Nat.blt d n = true) (h : ∀ v B, q v B → JL P n C ops Q r ((d, v) :: l) B) : JL P n C ops Q (⟨some d, op, ty, pos, af, none⟩ :: r) l A := by
  intro a w i
  refine wpList_plain rfl fun K hK => ?_
  exact ho a w i K Q fun v B w' hq h1 _ => hK _ _ (h v B hq _ _ (h1 d rfl hd))
theorem JL.sk (ho : O1 P n C l A ⟨none, op, ty, pos, af, none⟩ (fun _ B' => B' = B)) (h : JL P n C ops Q r l B) : JL P n C ops Q (⟨none, op, ty, pos, af, none⟩ :: r) l A := by
  intro a w i
  refine wpList_plain rfl fun K hK => ?_
  exact ho a w i K Q fun v B' w' hq _ h2 => hK _ _ (h _ _ (hq ▸ h2 rfl))
theorem O1.loc {o : Oper} (is : List Nat) {L : List HP} (ht : takes is A = some (L, A')) (q0 : Value → List HP → Prop)
    (hop : ∀ a w R F, Holds a l → Ok w R F → Star L w R F → ∃ v L' w', q0 v L' ∧ ((execOp a.eval o).run P w = .ok (.value v) w' ∨ (execOp a.eval o).run P w = .ok .skip w' ∧ v = undef) ∧ Turns w R F w' L')
    (hq : ∀ v L', q0 v L' → q v (L' ++ A')) : O1 P n C l A o q := by
  intro a w i K Q hK
  obtain ⟨R, F, s, ok, st⟩ := i.mem
  obtain ⟨F1, F2, h1, h2, hdj, s1, s2⟩ := Star.split (takes_star ht st)
  obtain ⟨v, L', w', hq0, hrun, htu⟩ := hop a w R F1 i.holds ⟨ok.r, fun b hb => ok.f b (h1 b hb), fun b hb hF => ok.d b hb (h1 b hF)⟩ s1
  obtain ⟨R', F', s', o', st'⟩ := Turns.frame ok h1 h2 hdj htu s2
  have key : K (a.put o.dst v) w' := by
    refine hK v _ w' (hq v L' hq0) (fun d hd hdn => ?_) (fun hd => ?_)
    · rw [hd]
      exact (Inv.put (A := L' ++ A') (w := w') ⟨i.size, i.defers, i.holds, R', F', s.trans s', o', st'⟩ hdn v)
    · rw [hd]
      exact ⟨i.size, i.defers, i.holds, R', F', s.trans s', o', st'⟩
  unfold Oper.wp
  rcases hrun with hrun | ⟨hrun, rfl⟩
  · rw [hrun]; exact key
  · rw [hrun]; exact key
end
section
variable {P : Program} {n : Nat} {C : Ctx} {Q : Pst} {l : Env} {A A' : List HP} {ops : Array Oper} {r : List Oper} {ty ty' : TypeId} {pos : String} {af : Array Edge} {dst : Option Tmp} {g : Option (Nat × Bool)} {x y z : Operand}
theorem Qt.move {v : Value} (hx : ev l x = some v) : Qt P l A ⟨dst, .move x, ty, pos, af, g⟩ v := fun a w _ _ hl _ _ => by simp [execOp, hl.ev hx, Pure.pure]
theorem Qt.assign {v : Value} (hx : ev l x = some v) : Qt P l A ⟨dst, .assign x, ty, pos, af, g⟩ v := fun a w _ _ hl _ _ => by simp [execOp, hl.ev hx, Pure.pure]
theorem Qt.pick_t {v : Value} (hx : ev l x = some (.bool true)) (hy : ev l y = some v) : Qt P l A ⟨dst, .pick x y z, ty, pos, af, g⟩ v := fun a w _ _ hl _ _ => by simp [execOp, hl.ev hx, hl.ev hy, asBool, Sem.run, Pure.pure]
theorem Qt.pick_f {v : Value} (hx : ev l x = some (.bool false)) (hz : ev l z = some v) : Qt P l A ⟨dst, .pick x y z, ty, pos, af, g⟩ v := fun a w _ _ hl _ _ => by simp [execOp, hl.ev hx, hl.ev hz, asBool, Sem.run, Pure.pure]
theorem Qt.extract {vs : Array Value} {k : Nat} {v : Value} (hx : ev l x = some (.tuple vs)) (hv : vs[k]? = some v) : Qt P l A ⟨dst, .extract x k, ty, pos, af, g⟩ v := fun a w _ _ hl _ _ => by simp [execOp, hl.ev hx, Instr.extract, hv, Sem.run, Pure.pure]
theorem Qt.nck {p : Addr} (hx : ev l x = some (.pointer (some p))) : Qt P l A ⟨dst, .nilCheck x, ty, pos, af, g⟩ (.pointer (some p)) := fun a w _ _ hl _ _ => by simp [execOp, hl.ev hx, Pure.pure]
theorem Qt.fa {s k b o off o' : Nat} (hf : fldOff P s k = some off) (hx : ev l x = some (.pointer (some ⟨b, o, none⟩))) (ho : o + off = o') : Qt P l A ⟨dst, .fieldAddr s x k, ty, pos, af, g⟩ (.pointer (some ⟨b, o', none⟩)) := by
  intro a w _ _ hl _ _
  unfold fldOff at hf
  split at hf
  · rename_i fs hu
    split at hf
    · rename_i f hfs
      split at hf
      · rename_i inf hi
        split at hf
        · simp at hf
        · rename_i hne
          simp only [Option.some.injEq] at hf
          subst hf ho
          have hz : (sizeOf f.type).run P w = .ok inf.size w := run_sizeOf (by simp [szTy, hi])
          simp [execOp, hl.ev hx, Instr.fieldAt, run_underlying hu, hfs, Instr.sureAddr, fieldPlace, hz, hne, Sem.run, Pure.pure, Addr.add]
          try (split <;> simp_all)
      · simp at hf
    · simp at hf
  · simp at hf
theorem Star.has {i : Nat} {A A' : List HP} {p : HP} {w : World} {R F : Foot} (ht : take1 i A = some (p, A')) (h : Star A w R F) : ∃ F1 : Foot, (∀ b, F1 b → F b) ∧ p.h w R F1 := by
  obtain ⟨F1, _, h1, _, _, h2, _⟩ := take1_star ht h
  exact ⟨F1, h1, h2⟩
theorem Qt.ld {b T o : Nat} {cs : List Value} {v : Value} (i : Nat) (hp : plainTy P ty = true) (hx : ev l x = some (.pointer (some ⟨b, o, none⟩))) (hA : take1 i A = some (blk b T cs, A')) (hv : cs[o]? = some v) : Qt P l A ⟨dst, .load ty x, ty', pos, af, g⟩ v := by
  intro a w R F hl _ hs
  obtain ⟨F1, _, h4⟩ := hs.has hA
  have hc := h4.2.cell o
  rw [hv] at hc
  simp [execOp, hl.ev hx, Instr.loadAt, Instr.sureAddr, loadVar, run_isAgg_plain hp, load, Sem.run, Pure.pure, hc]
theorem O1.st {b T o : Nat} {cs cs' : List Value} {v : Value} (i : Nat) (hz : szTy P ty = some 1) (hx : ev l x = some (.pointer (some ⟨b, o, none⟩))) (hy : ev l y = some v) (hv : one v = true) (hA : take1 i A = some (blk b T cs, A')) (ho : Nat.blt o cs.length = true) (hcs : cs.set o v = cs') :
    O1 P n C l A ⟨none, .store ty x y, ty', pos, af, g⟩ (fun _ B => B = blk b T cs' :: A') := by
  subst hcs
  refine O1.loc [i] (L := [blk b T cs]) (A' := A') (by simp [takes, hA]) (fun v' L' => L' = [blk b T (cs.set o v)]) (fun a w R F hl ok hs => ?_) (by rintro _ _ rfl; rfl)
  obtain ⟨F1, F2, h1, h2, h3, h4, h5⟩ := hs
  refine ⟨undef, _, w.setCell ⟨b, o, none⟩ v, rfl, .inr ⟨?_, rfl⟩, Turns.set ok (h1 _ h4.1) (by simp) rfl rfl rfl (fun k hk => heap_set_ne w hk) (h4.2.set o v)⟩
  have ho' : o < cs.length := Nat.le_of_ble_eq_true ho
  have hc : w.cell? ⟨b, o, none⟩ = some cs[o] := by rw [h4.2.cell o]; simp [ho']
  have hf := h4.2.free ho'
  simp only [execOp, hl.ev hx, hl.ev hy, Instr.storeAt, Instr.sureAddr, storeVar, one_cells hv]
  cases v <;> simp [one] at hv <;> simp [run_sizeOf hz, storeCells, store, Addr.add, Sem.run, Pure.pure, hc, hf]
theorem O1.box {v : Value} {T : TypeId} {cs : List Value} (hx : ev l x = some v) (hcs : v.cells.toList = cs) : O1 P n C l A ⟨dst, .box T x, ty, pos, af, g⟩ (fun v' B => ∃ b, v' = .pointer (some ⟨b, 0, none⟩) ∧ B = blk b T cs :: A) := by
  subst hcs
  refine O1.loc [] rfl (fun v' L' => ∃ b, v' = .pointer (some ⟨b, 0, none⟩) ∧ L' = [blk b T v.cells.toList]) (fun a w R F hl ok _ => ?_) (by rintro _ _ ⟨b, rfl, rfl⟩; exact ⟨b, rfl, rfl⟩)
  refine ⟨_, _, _, ⟨w.heap.size, rfl, rfl⟩, .inl ?_, Turns.new T v.cells.toList (0, 0) ok (fun i _ h => by simp at h)⟩
  simp [execOp, hl.ev hx, Instr.box, newVar, newRow, newObj, Sem.run, Pure.pure]
theorem O1.alloc {T : TypeId} {cs : List Value} (hz : zeroTy P T = some cs) : O1 P n C l A ⟨dst, .alloc T, ty, pos, af, g⟩ (fun v' B => ∃ b, v' = .pointer (some ⟨b, 0, none⟩) ∧ B = blk b T cs :: A) := by
  refine O1.loc [] rfl (fun v' L' => ∃ b, v' = .pointer (some ⟨b, 0, none⟩) ∧ L' = [blk b T cs]) (fun a w R F hl ok _ => ?_) (by rintro _ _ ⟨b, rfl, rfl⟩; exact ⟨b, rfl, rfl⟩)
  refine ⟨_, _, _, ⟨w.heap.size, rfl, rfl⟩, .inl ?_, Turns.new T cs (0, 0) ok (fun i _ h => by simp at h)⟩
  obtain ⟨v, rfl, hv⟩ := run_zero (w := w) hz
  simp [execOp, Instr.alloc, hv, newVar, newRow, newObj, Sem.run, Pure.pure]
/-- A call of a function with a body. -/
theorem O1.call {f : FuncId} {fn : Func} {xs : List Operand} {tys : Array TypeId} {vs : List Value} (hf : P.funcs[f]? = some fn) (hb : fn.body.isSome = true) (hne : (fn.name == "runtime.NumGoroutine") = false)
    (hx : evs l xs = some vs) (is : List Nat) {L : List HP} (ht : takes is A = some (L, A')) {q0 : Value → List HP → Prop} (hs : Spec P f vs.toArray L q0) :
    O1 P n C l A ⟨dst, .call { callee := .value (.func f), args := xs.toArray, argTypes := tys }, ty, pos, af, g⟩ (fun v B => ∃ L', q0 v L' ∧ B = L' ++ A') := by
  intro a w i K Q hK
  obtain ⟨R, F, s, o, st⟩ := i.mem
  obtain ⟨F1, F2, h1, h2, hdj, s1, s2⟩ := Star.split (takes_star ht st)
  have hargs := i.holds.evs hx
  have hbn : ¬ fn.body = none := by intro e; simp [e] at hb
  have hne' : ¬ fn.name = "runtime.NumGoroutine" := by simpa using hne
  have hrun : (execOp a.eval ⟨dst, .call { callee := .value (.func f), args := xs.toArray, argTypes := tys }, ty, pos, af, g⟩).run P w = .ok (.enter f vs.toArray) w := by
    simp [execOp, resolve, Act.eval, Deferred.ofValue, invoke, callFunc, program, Sem.run, Pure.pure, hf, hne', hbn, hargs]
  unfold Oper.wp
  rw [hrun]
  show Calls P f vs.toArray w _
  refine Calls.mono (hs w R F1 ⟨o.r, fun b hb => o.f b (h1 b hb), fun b hb hF => o.d b hb (h1 b hF)⟩ s1) ?_
  rintro e w' ⟨v, L', hq, rfl, htu⟩
  obtain ⟨R', F', s', o', st'⟩ := Turns.frame o h1 h2 hdj htu s2
  refine hK v _ w' ⟨L', hq, rfl⟩ (fun d hd hdn => ?_) (fun hd => ?_)
  · subst hd
    exact Inv.put (A := L' ++ A') (w := w') ⟨i.size, i.defers, i.holds, R', F', s.trans s', o', st'⟩ hdn v
  · subst hd
    exact ⟨i.size, i.defers, i.holds, R', F', s.trans s', o', st'⟩
theorem JL.call {op : Op} {d : Nat} {q0 : Value → List HP → Prop} (ho : O1 P n C l A ⟨some d, op, ty, pos, af, none⟩ (fun v B => ∃ L', q0 v L' ∧ B = L' ++ A')) (hd : Nat.blt d n = true) (h : ∀ v L', q0 v L' → JL P n C ops Q r ((d, v) :: l) (L' ++ A')) : JL P n C ops Q (⟨some d, op, ty, pos, af, none⟩ :: r) l A :=
  JL.ef ho hd (by rintro v _ ⟨L', hq, rfl⟩; exact h v L' hq)
theorem JL.new {op : Op} {d T : Nat} {cs : List Value} (ho : O1 P n C l A ⟨some d, op, ty, pos, af, none⟩ (fun v' B => ∃ b, v' = .pointer (some ⟨b, 0, none⟩) ∧ B = blk b T cs :: A)) (hd : Nat.blt d n = true) (h : ∀ b, JL P n C ops Q r ((d, .pointer (some ⟨b, 0, none⟩)) :: l) (blk b T cs :: A)) : JL P n C ops Q (⟨some d, op, ty, pos, af, none⟩ :: r) l A :=
  JL.ef ho hd (by rintro _ _ ⟨b, rfl, rfl⟩; exact h b)
/-- A value that is known otherwise, too. -/
theorem JL.upd_env {t : Nat} {v v' : Value} (hv : get l t = some v) (he : v = v') (h : JL P n C ops Q r ((t, v') :: l) A) : JL P n C ops Q r l A := by
  subst he
  intro a w i
  refine h a w ⟨i.size, i.defers, fun s u hs => ?_, i.mem⟩
  simp only [get] at hs
  by_cases e : Nat.beq t s = true
  · rw [if_pos e] at hs
    have e' := Nat.eq_of_beq_eq_true e
    subst e'
    exact i.holds _ _ (hv.trans hs)
  · rw [if_neg e] at hs
    exact i.holds _ _ hs
theorem JL.cases {t : Nat} {b : Bool} (hv : get l t = some (.bool b)) (ht : b = true → JL P n C ops Q r ((t, .bool true) :: l) A) (hf : b = false → JL P n C ops Q r ((t, .bool false) :: l) A) : JL P n C ops Q r l A := by
  cases b
  · exact JL.upd_env hv rfl (hf rfl)
  · exact JL.upd_env hv rfl (ht rfl)
end
end Go.Proofs.YthjbkngecgbioaaGreatDoor.Sl

/- The logic of blocks: numbers, tests, lengths, strings. -/
namespace Go.Proofs.YthjbkngecgbioaaGreatDoor.Sl
open Go

def quietEq (x y : Value) : Bool := match x, y with
  | .nilIface, .nilIface => false
  | .agg _, .agg _ => false
  | _, _ => true
theorem run_eqGuard {P : Program} {w : World} {op : BinOp} {t : TypeId} {x y : Operand} {a b : Value} (h : quietEq a b = true) : (eqGuard op t x y a b).run P w = .ok () w := by
  unfold eqGuard
  cases op <;> first | rfl | (cases a <;> cases b <;> first | (simp [quietEq] at h; done) | rfl)
section
variable {P : Program} {n : Nat} {C : Ctx} {Q : Pst} {l : Env} {A A' : List HP} {ops : Array Oper} {r : List Oper} {ty ty' xT yT : TypeId} {pos : String} {af : Array Edge} {dst : Option Tmp} {g : Option (Nat × Bool)} {x y z : Operand}
theorem Qt.bin {op : BinOp} {a b v : Value} (hv : ∀ w, (binOp op xT a b).run P w = .ok v w) (hx : ev l x = some a) (hy : ev l y = some b) (hg : quietEq a b = true) : Qt P l A ⟨dst, .binOp op xT x y yT, ty, pos, af, g⟩ v :=
  fun a w _ _ hl _ _ => by simp [execOp, hl.ev hx, hl.ev hy, run_eqGuard hg, hv, Sem.run, Pure.pure]
theorem Qt.un {op : UnOp} {a v : Value} (hv : ∀ w, (Op.unary op a).run P w = .ok v w) (hx : ev l x = some a) : Qt P l A ⟨dst, .unOp op xT x, ty, pos, af, g⟩ v :=
  fun a w _ _ hl _ _ => by simp [execOp, hl.ev hx, hv, Sem.run, Pure.pure]
theorem Qt.conv {a v : Value} {s t : TypeId} (hv : ∀ w, (convert s t a).run P w = .ok v w) (hx : ev l x = some a) : Qt P l A ⟨dst, .convert s t x, ty, pos, af, g⟩ v :=
  fun a w _ _ hl _ _ => by simp [execOp, hl.ev hx, hv, Sem.run, Pure.pure]
/-- A builtin that looks at no memory. -/
theorem Qt.bi {b : Builtin} {xs : List Operand} {tys : Array TypeId} {vs : List Value} {v : Value} (hv : ∀ w c, (builtin b tys ty c vs.toArray).run P w = .ok (.value v) w)
    (hx : evs l xs = some vs) : Qt P l A ⟨dst, .call { callee := .builtin b, args := xs.toArray, argTypes := tys }, ty, pos, af, g⟩ v :=
  fun a w _ _ hl _ _ => by
    have e := hl.evs hx
    have e2 : (xs.toArray.map a.eval) = vs.toArray := by simp [e]
    simp only [execOp, resolve, e2, Sem.run_bind, Sem.run_pure, Result.andThen_ok, invoke]
    exact hv w _
theorem yields {ops : Array Oper} {tmps : Array Value} {j t : Nat} {b : Bool} (hj : (ops[j]?).bind (·.dst) = some t) (h : tmps.getD t undef = .bool b) : yielded ops tmps j = some b := by
  unfold yielded
  rw [hj]
  simp only [Option.bind_some]
  cases hc : tmps[t]? with
  | none => simp [Array.getD_eq_getD_getElem?, hc, undef] at h
  | some v => simp [Array.getD_eq_getD_getElem?, hc] at h; subst h; rfl
/-- A guard that lets by. -/
theorem JL.g_yes {o : Oper} {j t : Nat} {b : Bool} (hj : (ops[j]?).bind (·.dst) = some t) (ht : get l t = some (.bool b)) (hg : o.guard = some (j, b)) (h : JL P n C ops Q ({ o with guard := none } :: r) l A) : JL P n C ops Q (o :: r) l A := by
  intro a w i
  have h1 := h a w i
  have hy : yielded ops a.tmps j = some b := by
    exact yields hj (i.holds t _ ht)
  unfold wpList at h1 ⊢
  rw [if_pos (by simp [Region.wanted])] at h1
  rw [if_pos (by simp [Region.wanted, hg, hy])]
  exact h1
end

/-! ### What the operators give -/
section
variable {P : Program} {w : World} {t : TypeId} {k : IntKind} {a b : Int}
theorem add_run : (binOp .add t (.int k a) (.int k b)).run P w = .ok (.int k (k.wrap (a + b))) w := by simp [binOp, Op.intArith, Pure.pure]
theorem sub_run : (binOp .sub t (.int k a) (.int k b)).run P w = .ok (.int k (k.wrap (a - b))) w := by simp [binOp, Op.intArith, Pure.pure]
theorem mul_run : (binOp .mul t (.int k a) (.int k b)).run P w = .ok (.int k (k.wrap (a * b))) w := by simp [binOp, Op.intArith, Pure.pure]
theorem wrap_i64 {n : Int} (h1 : -9223372036854775808 ≤ n) (h2 : n ≤ 9223372036854775807) : IntKind.i64.wrap n = n := IntWalk.i64_in n ⟨by omega, by omega⟩
theorem addN_run {c : Int} (hc : a + b = c) (h1 : -9223372036854775808 ≤ c) (h2 : c ≤ 9223372036854775807) : (binOp .add t (.int .i64 a) (.int .i64 b)).run P w = .ok (.int .i64 c) w := by rw [add_run, hc, wrap_i64 h1 h2]
theorem subN_run {c : Int} (hc : a - b = c) (h1 : -9223372036854775808 ≤ c) (h2 : c ≤ 9223372036854775807) : (binOp .sub t (.int .i64 a) (.int .i64 b)).run P w = .ok (.int .i64 c) w := by rw [sub_run, hc, wrap_i64 h1 h2]
theorem mulN_run {c : Int} (hc : a * b = c) (h1 : -9223372036854775808 ≤ c) (h2 : c ≤ 9223372036854775807) : (binOp .mul t (.int .i64 a) (.int .i64 b)).run P w = .ok (.int .i64 c) w := by rw [mul_run, hc, wrap_i64 h1 h2]
theorem eql_run : (binOp .eql t (.int k a) (.int k b)).run P w = .ok (.bool (a == b)) w := by simp [binOp, Op.intCmp, Pure.pure]
theorem neq_run : (binOp .neq t (.int k a) (.int k b)).run P w = .ok (.bool (a != b)) w := by simp [binOp, Op.intCmp, Pure.pure]
theorem lss_run : (binOp .lss t (.int k a) (.int k b)).run P w = .ok (.bool (decide (a < b))) w := by simp [binOp, Op.intCmp, Pure.pure]
theorem leq_run : (binOp .leq t (.int k a) (.int k b)).run P w = .ok (.bool (decide (a ≤ b))) w := by simp [binOp, Op.intCmp, Pure.pure]
theorem gtr_run : (binOp .gtr t (.int k a) (.int k b)).run P w = .ok (.bool (decide (a > b))) w := by simp [binOp, Op.intCmp, Pure.pure]
theorem geq_run : (binOp .geq t (.int k a) (.int k b)).run P w = .ok (.bool (decide (a ≥ b))) w := by simp [binOp, Op.intCmp, Pure.pure]
theorem quo_run (h : b ≠ 0) : (binOp .quo t (.int k a) (.int k b)).run P w = .ok (.int k (k.wrap (a.tdiv b))) w := by simp [binOp, Op.intDiv, Pure.pure, h]
theorem rem_run (h : b ≠ 0) : (binOp .rem t (.int k a) (.int k b)).run P w = .ok (.int k (a.tmod b)) w := by simp [binOp, Op.intDiv, Pure.pure, h]
theorem not_run {c : Bool} : (Op.unary .not (.bool c)).run P w = .ok (.bool (!c)) w := by simp [Op.unary, Pure.pure]
theorem equalIn_nil {e : TypeId} {p : Addr} (n : Nat) (hu : P.underlying t = some (.pointer e)) : (Op.equalIn (n + 1) t (.pointer (some p)) (.pointer none)).run P w = .ok false w := by
  simp [Op.equalIn, run_underlying hu, Pure.pure]
theorem nil_eql_run {e : TypeId} {p : Addr} (hu : P.underlying t = some (.pointer e)) : (binOp .eql t (.pointer (some p)) (.pointer none)).run P w = .ok (.bool false) w := by
  have := equalIn_nil (P := P) (w := w) (p := p) 9999 hu
  unfold binOp
  simp only [Sem.run_bind, Op.equal, Op.maxDepth, this, Result.andThen_ok]
  rfl
theorem nil_neq_run {e : TypeId} {p : Addr} (hu : P.underlying t = some (.pointer e)) : (binOp .neq t (.pointer (some p)) (.pointer none)).run P w = .ok (.bool true) w := by
  have := equalIn_nil (P := P) (w := w) (p := p) 9999 hu
  unfold binOp
  simp only [Sem.run_bind, Op.equal, Op.maxDepth, this, Result.andThen_ok]
  rfl
theorem len_slice_run {e : TypeId} {c : Array Bool} {A : Option Addr} {n m : Nat} (hu : P.underlying t = some (.slice e)) {ty : TypeId} : (builtin .len #[t] ty c #[.slice A n m]).run P w = .ok (.value (.int .i64 n)) w := by
  simp [builtin, Builtin.len_, run_underlying hu, goInt, Sem.run, Pure.pure]
theorem len_str_run {c : Array Bool} {s : ByteArray} (hu : P.underlying t = some .string) {ty : TypeId} : (builtin .len #[t] ty c #[.string s]).run P w = .ok (.value (.int .i64 s.size)) w := by
  simp [builtin, Builtin.len_, run_underlying hu, goInt, Sem.run, Pure.pure]
end
end Go.Proofs.YthjbkngecgbioaaGreatDoor.Sl

/- The logic of blocks: kinds of data, slices that are read, rows that are owned. -/
namespace Go.Proofs.YthjbkngecgbioaaGreatDoor.Sl
open Go

/-- What a value's cells say. -/
structure Kd (α : Type) where
  sz : Nat
  rel : World → Foot → α → List Value → Prop
  len : ∀ {w R x cs}, rel w R x cs → cs.length = sz
  one : ∀ {w R x cs}, rel w R x cs → ∀ u ∈ cs, one u = true
  mono : ∀ {w R R' x cs}, (∀ b, R b → R' b) → rel w R x cs → rel w R' x cs
  loc : ∀ {w w' R x cs}, Same w w' R → rel w R x cs → rel w' R x cs
abbrev big : Nat := 1099511627776
def inK : IntKind → Int → Prop
  | .i64, x => -9223372036854775808 ≤ x ∧ x ≤ 9223372036854775807
  | .u8, x => 0 ≤ x ∧ x ≤ 255
  | .i32, x => -2147483648 ≤ x ∧ x ≤ 2147483647
  | _, x => 0 ≤ x
def Kd.int (k : IntKind) : Kd Int where
  sz := 1
  rel _ _ x cs := cs = [.int k x] ∧ inK k x
  len := fun h => by rw [h.1]; rfl
  one := fun h u hu => by rw [h.1] at hu; simp at hu; subst hu; rfl
  mono := fun _ h => h
  loc := fun _ h => h
def Kd.bool : Kd Bool where
  sz := 1
  rel _ _ x cs := cs = [.bool x]
  len := fun h => by rw [h]; rfl
  one := fun h u hu => by rw [h] at hu; simp at hu; subst hu; rfl
  mono := fun _ h => h
  loc := fun _ h => h
def Kd.str : Kd ByteArray where
  sz := 1
  rel _ _ x cs := cs = [.string x] ∧ x.size ≤ big
  len := fun h => by rw [h.1]; rfl
  one := fun h u hu => by rw [h.1] at hu; simp at hu; subst hu; rfl
  mono := fun _ h => h
  loc := fun _ h => h
/-- Cells at an address that is only read. -/
def RoCells (w : World) (R : Foot) (b o : Nat) (cs : List Value) : Prop := R b ∧ ∀ j u, cs[j]? = some u → w.cell? ⟨b, o + j, none⟩ = some u
theorem RoCells.mono {w : World} {R R' : Foot} {b o : Nat} {cs : List Value} (hr : ∀ b, R b → R' b) (h : RoCells w R b o cs) : RoCells w R' b o cs := ⟨hr _ h.1, h.2⟩
theorem RoCells.loc {w w' : World} {R : Foot} {b o : Nat} {cs : List Value} (hs : Same w w' R) (h : RoCells w R b o cs) : RoCells w' R b o cs :=
  ⟨h.1, fun j u hj => by rw [World.cell?_of_block (a := ⟨b, o + j, none⟩) (hs _ h.1)]; exact h.2 j u hj⟩
/-- A slice that is only read: n elements. -/
def Rd {α : Type} (d : Kd α) (w : World) (R : Foot) (A : Option Addr) (c : Nat) (xs : List α) : Prop :=
  xs.length ≤ c ∧ xs.length ≤ big ∧ ∀ i x, xs[i]? = some x → ∃ b o cs, A = some ⟨b, o, none⟩ ∧ d.rel w R x cs ∧ RoCells w R b (o + i * d.sz) cs
theorem Rd.mono {α : Type} {d : Kd α} {w : World} {R R' : Foot} {A : Option Addr} {c : Nat} {xs : List α} (hr : ∀ b, R b → R' b) (h : Rd d w R A c xs) : Rd d w R' A c xs :=
  ⟨h.1, h.2.1, fun i x hx => let ⟨b, o, cs, h1, h2, h3⟩ := h.2.2 i x hx; ⟨b, o, cs, h1, d.mono hr h2, h3.mono hr⟩⟩
theorem Rd.loc {α : Type} {d : Kd α} {w w' : World} {R : Foot} {A : Option Addr} {c : Nat} {xs : List α} (hs : Same w w' R) (h : Rd d w R A c xs) : Rd d w' R A c xs :=
  ⟨h.1, h.2.1, fun i x hx => let ⟨b, o, cs, h1, h2, h3⟩ := h.2.2 i x hx; ⟨b, o, cs, h1, d.loc hs h2, h3.loc hs⟩⟩
def Kd.sl {α : Type} (d : Kd α) : Kd (List α) where
  sz := 1
  rel w R xs cs := ∃ A c, cs = [.slice A xs.length c] ∧ Rd d w R A c xs
  len := fun ⟨_, _, h, _⟩ => by rw [h]; rfl
  one := fun ⟨_, _, h, _⟩ u hu => by rw [h] at hu; simp at hu; subst hu; rfl
  mono := fun hr ⟨A, c, h, k⟩ => ⟨A, c, h, k.mono hr⟩
  loc := fun hs ⟨A, c, h, k⟩ => ⟨A, c, h, k.loc hs⟩
def Kd.pair {α β : Type} (d : Kd α) (e : Kd β) : Kd (α × β) where
  sz := d.sz + e.sz
  rel w R x cs := ∃ c1 c2, cs = c1 ++ c2 ∧ d.rel w R x.1 c1 ∧ e.rel w R x.2 c2
  len := fun ⟨_, _, h, h1, h2⟩ => by rw [h, List.length_append, d.len h1, e.len h2]
  one := fun ⟨_, _, h, h1, h2⟩ u hu => by rw [h, List.mem_append] at hu; exact hu.elim (d.one h1 u) (e.one h2 u)
  mono := fun hr ⟨c1, c2, h, h1, h2⟩ => ⟨c1, c2, h, d.mono hr h1, e.mono hr h2⟩
  loc := fun hs ⟨c1, c2, h, h1, h2⟩ => ⟨c1, c2, h, d.loc hs h1, e.loc hs h2⟩
def Kd.iso {α β : Type} (d : Kd α) (f : β → α) : Kd β where
  sz := d.sz
  rel w R x cs := d.rel w R (f x) cs
  len := d.len
  one := d.one
  mono := d.mono
  loc := d.loc

/-! ### Atoms -/
def kd {α : Type} (d : Kd α) (x : α) (cs : List Value) : HP where
  h w R _ := d.rel w R x cs
  monoR := fun hr h => d.mono hr h
  monoF := fun _ h => h
  loc := fun hs h => d.loc (fun b hb => hs b (.inl hb)) h
def rd {α : Type} (d : Kd α) (A : Option Addr) (c : Nat) (xs : List α) : HP where
  h w R _ := Rd d w R A c xs
  monoR := fun hr h => h.mono hr
  monoF := fun _ h => h
  loc := fun hs h => h.loc (fun b hb => hs b (.inl hb))
def roc (b o : Nat) (cs : List Value) : HP where
  h w R _ := RoCells w R b o cs
  monoR := fun hr h => h.mono hr
  monoF := fun _ h => h
  loc := fun hs h => h.loc (fun b hb => hs b (.inl hb))
/-- It owns nothing: it may be told twice. -/
def Pers (p : HP) : Prop := ∀ w R F F', p.h w R F → p.h w R F'
theorem kd_pers {α : Type} {d : Kd α} {x : α} {cs : List Value} : Pers (kd d x cs) := fun _ _ _ _ h => h
theorem rd_pers {α : Type} {d : Kd α} {A : Option Addr} {c : Nat} {xs : List α} : Pers (rd d A c xs) := fun _ _ _ _ h => h
theorem roc_pers {b o : Nat} {cs : List Value} : Pers (roc b o cs) := fun _ _ _ _ h => h
section
variable {P : Program} {n : Nat} {C : Ctx} {Q : Pst} {l : Env} {A A' : List HP} {ops : Array Oper} {r : List Oper} {x : Code}
theorem Inv.dup {a : Act} {w : World} (i : Nat) {p : HP} (ht : take1 i A = some (p, A')) (hp : Pers p) (h : Inv n C l A a w) : Inv n C l (p :: A) a w := by
  obtain ⟨R, F, s, o, st⟩ := h.mem
  obtain ⟨F1, F2, h1, h2, hd, h3, h4⟩ := take1_star ht st
  exact ⟨h.size, h.defers, h.holds, R, F, s, o, fun _ => False, F, fun _ h => h.elim, fun _ h => h, fun _ h => h.elim, hp _ _ _ _ h3, st⟩
theorem J.dup (i : Nat) {p : HP} (ht : take1 i A = some (p, A')) (hp : Pers p) (h : J P n C x Q l (p :: A)) : J P n C x Q l A := fun a w v => h a w (v.dup i ht hp)
theorem JL.dup (i : Nat) {p : HP} (ht : take1 i A = some (p, A')) (hp : Pers p) (h : JL P n C ops Q r l (p :: A)) : JL P n C ops Q r l A := fun a w v => h a w (v.dup i ht hp)
/-- A fact that needs no memory becomes an atom. -/
theorem JL.intro_pers {p : HP} (hp : ∀ w R, p.h w R (fun _ => False)) (h : JL P n C ops Q r l (p :: A)) : JL P n C ops Q r l A := fun a w v => h a w
  ⟨v.size, v.defers, v.holds, let ⟨R, F, s, o, st⟩ := v.mem; ⟨R, F, s, o, fun _ => False, F, fun _ h => h.elim, fun _ h => h, fun _ h => h.elim, hp _ _, st⟩⟩
end

/-! ### Rows that are owned -/
def Elems {α : Type} (d : Kd α) (w : World) (R : Foot) : List α → List Value → Prop
  | [], cs => cs = []
  | x :: xs, cs => ∃ c1 c2, cs = c1 ++ c2 ∧ d.rel w R x c1 ∧ Elems d w R xs c2
section
variable {α : Type} {d : Kd α} {w w' : World} {R R' : Foot}
theorem Elems.mono (hr : ∀ b, R b → R' b) : ∀ {xs : List α} {cs : List Value}, Elems d w R xs cs → Elems d w R' xs cs
  | [], _, h => h
  | _ :: _, _, ⟨c1, c2, h, h1, h2⟩ => ⟨c1, c2, h, d.mono hr h1, Elems.mono hr h2⟩
theorem Elems.loc (hs : Same w w' R) : ∀ {xs : List α} {cs : List Value}, Elems d w R xs cs → Elems d w' R xs cs
  | [], _, h => h
  | _ :: _, _, ⟨c1, c2, h, h1, h2⟩ => ⟨c1, c2, h, d.loc hs h1, Elems.loc hs h2⟩
theorem Elems.len : ∀ {xs : List α} {cs : List Value}, Elems d w R xs cs → cs.length = xs.length * d.sz
  | [], _, h => by rw [show _ = [] from h]; simp
  | _ :: xs, _, ⟨c1, c2, h, h1, h2⟩ => by rw [h, List.length_append, d.len h1, Elems.len h2, List.length_cons, Nat.add_mul, Nat.one_mul, Nat.add_comm]
theorem Elems.one : ∀ {xs : List α} {cs : List Value}, Elems d w R xs cs → ∀ u ∈ cs, Sl.one u = true
  | [], _, h, u, hu => by rw [show _ = [] from h] at hu; simp at hu
  | _ :: xs, _, ⟨c1, c2, h, h1, h2⟩, u, hu => by rw [h, List.mem_append] at hu; exact hu.elim (d.one h1 u) (Elems.one h2 u)
theorem Elems.append : ∀ {xs ys : List α} {cs es : List Value}, Elems d w R xs cs → Elems d w R ys es → Elems d w R (xs ++ ys) (cs ++ es)
  | [], _, cs, _, h, h2 => by rw [show cs = [] from h]; exact h2
  | _ :: xs, _, _, _, ⟨c1, c2, h, h1, h2⟩, h3 => ⟨c1, _, by rw [h, List.append_assoc], h1, Elems.append h2 h3⟩
theorem Elems.one_elem {x : α} {cs : List Value} (h : d.rel w R x cs) : Elems d w R [x] cs := ⟨cs, [], by simp, h, rfl⟩
theorem Elems.at : ∀ {xs : List α} {cs : List Value} {i : Nat} {x : α}, Elems d w R xs cs → xs[i]? = some x → ∃ e, d.rel w R x e ∧ ∀ j u, e[j]? = some u → cs[i * d.sz + j]? = some u
  | [], _, _, _, _, h => by simp at h
  | y :: xs, _, 0, x, ⟨c1, c2, h, h1, h2⟩, hx => by
    simp at hx; subst hx
    refine ⟨c1, h1, fun j u hj => ?_⟩
    rw [h, Nat.zero_mul, Nat.zero_add, List.getElem?_append_left (List.getElem?_eq_some_iff.1 hj).1]
    exact hj
  | y :: xs, _, i + 1, x, ⟨c1, c2, h, h1, h2⟩, hx => by
    obtain ⟨e, he, hj⟩ := Elems.at (i := i) h2 (by simpa using hx)
    refine ⟨e, he, fun j u hu => ?_⟩
    have h3 := hj j u hu
    have h4 := d.len h1
    rw [h, List.getElem?_append_right (by rw [h4, Nat.add_mul]; omega), h4, show (i + 1) * d.sz + j - d.sz = i * d.sz + j by rw [Nat.add_mul]; omega]
    exact h3
end
theorem own_loc {w w' : World} {F : Foot} {base e size n : Nat} {v : Value} {xs : List Value} (hs : ∀ b, v.ownBlock = some b → w'.heap[b]? = w.heap[b]?) (h : w.ownsRow base e size v n xs) : w'.ownsRow base e size v n xs := by
  obtain ⟨h1, h2⟩ := h
  refine ⟨h1, ?_⟩
  rcases h2 with h2 | ⟨g, cap, cur, rfl, hg, hh, r⟩
  · exact .inl h2
  · exact .inr ⟨g, cap, cur, rfl, hg, (hs g rfl).trans hh, r⟩
/-- A row of elements (type T) that is owned, of a slice A, c. -/
def row {α : Type} (d : Kd α) (T : Nat) (A : Option Addr) (c : Nat) (xs : List α) : HP where
  h w R F := ∃ inner, w.ownsRow 0 T d.sz (.slice A xs.length c) xs.length inner ∧ (∀ b, (Value.slice A xs.length c).ownBlock = some b → F b) ∧ Elems d w R xs inner
  monoR := fun hr ⟨i, h1, h2, h3⟩ => ⟨i, h1, h2, h3.mono hr⟩
  monoF := fun hf ⟨i, h1, h2, h3⟩ => ⟨i, h1, fun b hb => hf b (h2 b hb), h3⟩
  loc := fun {w w' R F} hs ⟨i, h1, h2, h3⟩ => ⟨i, own_loc (F := F) (fun b hb => hs b (.inr (h2 b hb))) h1, h2, h3.loc (fun b hb => hs b (.inl hb))⟩
theorem row_nil {α : Type} (d : Kd α) (T : Nat) (w : World) (R : Foot) : (row d T none 0 []).h w R (fun _ => False) := ⟨[], World.ownsRow_nil w 0 T d.sz, fun _ h => by simp [Value.ownBlock] at h, rfl⟩
/-- It will not be written any more. -/
theorem row_freeze {α : Type} {d : Kd α} {T : Nat} {A : Option Addr} {c : Nat} {xs : List α} (hb : xs.length ≤ big) : Upd [row d T A c xs] [rd d A c xs] := by
  intro w R F ok hs
  obtain ⟨F1, F2, h1, h2, h3, ⟨inner, ho, hF, he⟩, _⟩ := hs
  have key : Rd d w (fun b => R b ∨ F1 b) A c xs := by
    refine ⟨?_, hb, fun i x hx => ?_⟩
    · rcases ho.2 with ⟨h, h'⟩ | ⟨g, cap, cur, h, _, _, hn, _⟩
      · omega
      · simp at h; omega
    · rcases ho.2 with ⟨h, h'⟩ | ⟨g, cap, cur, h, _, hh, hn, _, hcs, htk⟩
      · have := (List.getElem?_eq_some_iff.1 hx).1; omega
      · simp only [Value.slice.injEq, true_and] at h
        obtain ⟨rfl, rfl⟩ := h
        obtain ⟨e, hr, hj⟩ := he.at hx
        refine ⟨g, 0, e, rfl, d.mono (fun b h => .inl h) hr, .inr (hF g rfl), fun j u hu => ?_⟩
        have h5 := hj j u hu
        rw [← htk] at h5
        rw [List.getElem?_take] at h5
        split at h5
        · simp only [World.cell?, hh]
          simpa using h5
        · simp at h5
  refine ⟨fun b => R b ∨ F1 b, fun _ => False, ⟨rfl, rfl, rfl, Nat.le_refl _, fun _ _ _ => rfl, fun b h => .inl h, fun b h => h.elim .inl (fun h => .inr (.inl (h1 b h))), fun _ h => h.elim⟩,
    ⟨fun b h => h.elim (ok.r b) (fun h => ok.f b (h1 b h)), fun _ h => h.elim, fun _ _ h => h⟩, fun _ => False, fun _ => False, fun _ h => h, fun _ h => h, fun _ h => h.elim, key, trivial⟩
end Go.Proofs.YthjbkngecgbioaaGreatDoor.Sl

/- The logic of blocks: elements, values of several cells, literals, append. -/
namespace Go.Proofs.YthjbkngecgbioaaGreatDoor.Sl
open Go

theorem one_old {v : Value} (h : one v = true) : v.oneCell' = true := by cases v <;> simp [one] at h <;> rfl
theorem add_none (b o n : Nat) : (⟨b, o, none⟩ : Addr).add n = ⟨b, o + n, none⟩ := by unfold Addr.add; split <;> simp_all
theorem HasBlk.setL {T b : Nat} : ∀ {vs cs : List Value} {o : Nat} {w : World}, HasBlk w b T cs → HasBlk (w.setCells b o vs) b T (putL cs o vs)
  | [], _, _, _, h => h
  | v :: vs, _, o, _, h => HasBlk.setL (vs := vs) (h.set o v)
theorem setCells_same {b : Nat} : ∀ {vs : List Value} {o : Nat} {w : World}, (w.setCells b o vs).heap.size = w.heap.size ∧ (w.setCells b o vs).os = w.os ∧ (w.setCells b o vs).tape = w.tape ∧ (w.setCells b o vs).output = w.output ∧ ∀ k, k ≠ b → (w.setCells b o vs).heap[k]? = w.heap[k]?
  | [], _, _ => ⟨rfl, rfl, rfl, rfl, fun _ _ => rfl⟩
  | v :: vs, o, w => by
    obtain ⟨h1, h2, h3, h4, h5⟩ := setCells_same (b := b) (vs := vs) (o := o + 1) (w := w.setCell ⟨b, o, none⟩ v)
    exact ⟨by rw [show w.setCells b o (v :: vs) = (w.setCell ⟨b, o, none⟩ v).setCells b (o + 1) vs from rfl, h1]; simp, h2, h3, h4, fun k hk => (h5 k hk).trans (heap_set_ne w hk)⟩
def ones (vs : List Value) : Bool := vs.all one
section
variable {P : Program} {n : Nat} {C : Ctx} {Q : Pst} {l : Env} {A A' : List HP} {ops : Array Oper} {r : List Oper} {ty ty' : TypeId} {pos : String} {af : Array Edge} {dst : Option Tmp} {g : Option (Nat × Bool)} {x y z : Operand}
/-- A value of several cells, out of a block. -/
theorem Qt.ldA {b T o k : Nat} {cs vs : List Value} (i : Nat) (hp : aggTy P ty = true) (hz : szTy P ty = some k) (hx : ev l x = some (.pointer (some ⟨b, o, none⟩))) (hA : take1 i A = some (blk b T cs, A')) (hv : (cs.drop o).take k = vs) (hk : vs.length = k) :
    Qt P l A ⟨dst, .load ty x, ty', pos, af, g⟩ (.agg vs.toArray) := by
  intro a w R F hl _ hs
  obtain ⟨F1, _, h4⟩ := hs.has hA
  have hl2 : (loadCells ⟨b, o, none⟩ k).run P w = .ok vs.toArray w := by
    rw [← hk]
    refine run_loadCells_list w _ vs (fun j v hj => ?_)
    rw [add_none, h4.2.cell (o + j)]
    rw [← hv, List.getElem?_take] at hj
    split at hj
    · simpa using hj
    · simp at hj
  simp [execOp, hl.ev hx, Instr.loadAt, Instr.sureAddr, loadVar, run_isAgg_agg hp, run_sizeOf hz, hl2, Pure.pure, Sem.run]
theorem Qt.ld_ro {b o o' j : Nat} {cs : List Value} {v : Value} (i : Nat) (hp : plainTy P ty = true) (hx : ev l x = some (.pointer (some ⟨b, o', none⟩))) (hA : take1 i A = some (roc b o cs, A')) (ho : o' = o + j) (hv : cs[j]? = some v) : Qt P l A ⟨dst, .load ty x, ty', pos, af, g⟩ v := by
  intro a w R F hl _ hs
  obtain ⟨F1, _, h4⟩ := hs.has hA
  have hc := h4.2 j v hv
  subst ho
  simp [execOp, hl.ev hx, Instr.loadAt, Instr.sureAddr, loadVar, run_isAgg_plain hp, load, Sem.run, Pure.pure, hc]
theorem Qt.ldA_ro {b o o' j k : Nat} {cs vs : List Value} (i : Nat) (hp : aggTy P ty = true) (hz : szTy P ty = some k) (hx : ev l x = some (.pointer (some ⟨b, o', none⟩))) (hA : take1 i A = some (roc b o cs, A')) (ho : o' = o + j) (hv : (cs.drop j).take k = vs) (hk : vs.length = k) :
    Qt P l A ⟨dst, .load ty x, ty', pos, af, g⟩ (.agg vs.toArray) := by
  intro a w R F hl _ hs
  obtain ⟨F1, _, h4⟩ := hs.has hA
  subst ho
  have hl2 : (loadCells ⟨b, o + j, none⟩ k).run P w = .ok vs.toArray w := by
    rw [← hk]
    refine run_loadCells_list w _ vs (fun i v hi => ?_)
    rw [add_none]
    rw [← hv, List.getElem?_take] at hi
    split at hi
    · have := h4.2 (j + i) v (by simpa using hi)
      rw [Nat.add_assoc]; exact this
    · simp at hi
  simp [execOp, hl.ev hx, Instr.loadAt, Instr.sureAddr, loadVar, run_isAgg_agg hp, run_sizeOf hz, hl2, Pure.pure, Sem.run]
/-- A value of several cells (or one) into a block. -/
theorem O1.stA {b T o k : Nat} {cs vs cs' : List Value} {v : Value} (i : Nat) (hz : szTy P ty = some k) (hx : ev l x = some (.pointer (some ⟨b, o, none⟩))) (hy : ev l y = some v) (hvs : v.cells.toList = vs) (hk : vs.length = k) (h1 : ones vs = true) (hA : take1 i A = some (blk b T cs, A')) (ho : Nat.ble (o + k) cs.length = true) (hcs : putL cs o vs = cs') :
    O1 P n C l A ⟨none, .store ty x y, ty', pos, af, g⟩ (fun _ B => B = blk b T cs' :: A') := by
  subst hcs
  refine O1.loc [i] (L := [blk b T cs]) (A' := A') (by simp [takes, hA]) (fun v' L' => L' = [blk b T (putL cs o vs)]) (fun a w R F hl ok hs => ?_) (by rintro _ _ rfl; rfl)
  obtain ⟨F1, F2, g1, g2, g3, g4, g5⟩ := hs
  obtain ⟨e1, e2, e3, e4, e5⟩ := setCells_same (b := b) (vs := vs) (o := o) (w := w)
  refine ⟨undef, _, w.setCells b o vs, rfl, .inr ⟨?_, rfl⟩, Turns.set ok (g1 _ g4.1) e1 e2 e3 e4 e5 (g4.2.setL)⟩
  have ho' : o + k ≤ cs.length := Nat.le_of_ble_eq_true ho
  have hrun := run_storeCells_cells (P := P) b o vs 0 w (fun j hj => by rw [Nat.add_zero, g4.2.cell, List.getElem?_eq_getElem (by omega)]; rfl) (fun j hj => g4.2.free (by omega))
    (fun u hu => one_old (by have := List.all_eq_true.1 h1 u hu; exact this))
  have hsz : v.cells.size = k := by rw [← hk, ← hvs]; simp
  simp only [execOp, hl.ev hx, hl.ev hy, Instr.storeAt, Instr.sureAddr, storeVar]
  simp [run_sizeOf hz, hsz, hvs, hrun, Pure.pure, Sem.run]
/-- An element of a slice that is read. -/
theorem O1.idx_rd {α : Type} {D : Kd α} {Ad : Option Addr} {c e T : Nat} {xs : List α} {m : Int} {u : α} {k : IntKind} (i : Nat) (hT : P.underlying T = some (.slice e)) (hz : szTy P e = some D.sz) (hx : ev l x = some (.slice Ad xs.length c)) (hy : ev l y = some (.int k m)) (hA : take1 i A = some (rd D Ad c xs, A'))
    (h0 : 0 ≤ m) (hu : xs[m.toNat]? = some u) : O1 P n C l A ⟨dst, .indexAddr T x y, ty, pos, af, g⟩ (fun v B => ∃ b o cs, v = .pointer (some ⟨b, o, none⟩) ∧ B = roc b o cs :: kd D u cs :: rd D Ad c xs :: A') := by
  refine O1.loc [i] (L := [rd D Ad c xs]) (A' := A') (by simp [takes, hA]) (fun v' L' => ∃ b o cs, v' = .pointer (some ⟨b, o, none⟩) ∧ L' = [roc b o cs, kd D u cs, rd D Ad c xs]) (fun a w R F hl ok hs => ?_) (by rintro _ _ ⟨b, o, cs, rfl, rfl⟩; exact ⟨b, o, cs, rfl, rfl⟩)
  obtain ⟨F1, F2, g1, g2, g3, g4, g5⟩ := hs
  obtain ⟨b, o, cs, rfl, hr, hro⟩ := g4.2.2 _ _ hu
  have hlt : m.toNat < xs.length := (List.getElem?_eq_some_iff.1 hu).1
  refine ⟨_, _, w, ⟨b, o + m.toNat * D.sz, cs, rfl, rfl⟩, .inl ?_, R, F, .refl, ok, fun _ => False, F, fun _ h => h.elim, fun _ h => h, fun _ h => h.elim, hro, fun _ => False, F, fun _ h => h.elim, fun _ h => h, fun _ h => h.elim, hr, F1, F2, g1, g2, g3, g4, g5⟩
  have hc : 0 ≤ m ∧ m < (xs.length : Int) := ⟨h0, by omega⟩
  simp [execOp, hl.ev hx, hl.ev hy, Instr.indexAt, asIntOf, run_underlying hT, run_sizeOf hz, hc, add_none, Pure.pure, Sem.run]
theorem JL.idx_rd {α : Type} {D : Kd α} {Ad : Option Addr} {c d : Nat} {xs : List α} {u : α} {op : Op} (ho : O1 P n C l A ⟨some d, op, ty, pos, af, none⟩ (fun v B => ∃ b o cs, v = .pointer (some ⟨b, o, none⟩) ∧ B = roc b o cs :: kd D u cs :: rd D Ad c xs :: A')) (hd : Nat.blt d n = true)
    (h : ∀ b o cs, JL P n C ops Q r ((d, .pointer (some ⟨b, o, none⟩)) :: l) (roc b o cs :: kd D u cs :: rd D Ad c xs :: A')) : JL P n C ops Q (⟨some d, op, ty, pos, af, none⟩ :: r) l A :=
  JL.ef ho hd (by rintro _ _ ⟨b, o, cs, rfl, rfl⟩; exact h b o cs)
/-- An element's place, where the slice's own is known. -/
theorem Qt.ia {b o c e T s len : Nat} {m : Int} {k : IntKind} (hT : P.underlying T = some (.slice e)) (hz : szTy P e = some s) (hx : ev l x = some (.slice (some ⟨b, o, none⟩) len c)) (hy : ev l y = some (.int k m))
    (h0 : 0 ≤ m) (hm : m < len) : Qt P l A ⟨dst, .indexAddr T x y, ty, pos, af, g⟩ (.pointer (some ⟨b, o + m.toNat * s, none⟩)) :=
  fun a w _ _ hl _ _ => by simp [execOp, hl.ev hx, hl.ev hy, Instr.indexAt, asIntOf, run_underlying hT, run_sizeOf hz, h0, hm, add_none, Pure.pure, Sem.run]
theorem Qt.ia_arr {b o e T s len : Nat} {m : Int} {k : IntKind} (hT : P.underlying T = some (.array len e)) (hz : szTy P e = some s) (hx : ev l x = some (.pointer (some ⟨b, o, none⟩))) (hy : ev l y = some (.int k m))
    (h0 : 0 ≤ m) (hm : m < len) : Qt P l A ⟨dst, .indexAddr T x y, ty, pos, af, g⟩ (.pointer (some ⟨b, o + m.toNat * s, none⟩)) :=
  fun a w _ _ hl _ _ => by simp [execOp, hl.ev hx, hl.ev hy, Instr.indexAt, asIntOf, run_underlying hT, run_sizeOf hz, h0, hm, Instr.sureAddr, add_none, Pure.pure, Sem.run]
end

/-! ### Literals -/
/-- Parts into their places. -/
def fillL (place : Nat → Option (Nat × Nat)) (cs : List Value) : List (Nat × Value) → Option (List Value)
  | [] => some cs
  | (i, v) :: rest => match place i with
    | none => none
    | some (off, size) => if Nat.beq v.cells.toList.length size && Nat.ble (off + v.cells.toList.length) cs.length then fillL place (putL cs off v.cells.toList) rest else none
theorem foldl_set : ∀ (vs : List Value) (off k : Nat) (cs : Array Value), (List.zipIdx vs k).foldl (fun (cs : Array Value) (p : Value × Nat) => cs.setIfInBounds (off + p.2) p.1) cs = (putL cs.toList (off + k) vs).toArray
  | [], _, _, _ => by simp [putL]
  | v :: vs, off, k, cs => by
    rw [List.zipIdx_cons, List.foldl_cons, foldl_set vs off (k + 1)]
    simp only [putL, Array.toList_setIfInBounds]
    rw [show off + (k + 1) = off + k + 1 by omega]
theorem fill_eq {place : Nat → Option (Nat × Nat)} : ∀ {ps : List (Nat × Value)} {cs vs : List Value}, fillL place cs ps = some vs → Instr.fill place cs.toArray ps = some vs.toArray
  | [], cs, vs, h => by simp only [fillL, Option.some.injEq] at h; subst h; rfl
  | (i, v) :: rest, cs, vs, h => by
    simp only [fillL] at h
    split at h
    · simp at h
    · rename_i off size hp
      split at h
      · rename_i hc
        simp only [Bool.and_eq_true] at hc
        have h1 := Nat.eq_of_beq_eq_true hc.1
        have h2 := Nat.le_of_ble_eq_true hc.2
        simp only [Array.length_toList] at h1 h2
        have h3 := fill_eq h
        simp only [Instr.fill, hp]
        rw [if_neg (by simp; exact ⟨h1, by omega⟩)]
        rw [← h3]
        congr 1
        rw [← Array.foldl_toList]
        have h4 := foldl_set v.cells.toList off 0 cs.toArray
        rw [Nat.add_zero] at h4
        rw [← h4]
        simp
      · simp at h
def structPl (P : Program) (t : TypeId) : Option (List (Nat × Nat)) := match P.underlying t with
  | some (.struct fs) => fs.toList.mapM fun f => (szTy P f.type).map fun s => (f.offset, s)
  | _ => none
def placeOf (f : Field) : Sem (Nat × Nat) := do pure (f.offset, ← sizeOf f.type)
theorem run_places {P : Program} {w : World} : ∀ {fs : List Field} {pl : List (Nat × Nat)}, (fs.mapM fun f => (szTy P f.type).map fun s => (f.offset, s)) = some pl → (fs.mapM placeOf).run P w = .ok pl w
  | [], pl, h => by simp at h; subst h; rfl
  | f :: fs, pl, h => by
    rw [List.mapM_cons] at h ⊢
    cases hs : szTy P f.type with
    | none => simp [hs] at h
    | some s =>
      cases hr : (fs.mapM fun f => (szTy P f.type).map fun s => (f.offset, s)) with
      | none => simp [hs, hr] at h
      | some pr =>
        simp [hs, hr] at h
        subst h
        have := run_places (w := w) hr
        simp [placeOf, run_sizeOf hs, this, Pure.pure, Sem.run]
section
variable {P : Program} {n : Nat} {C : Ctx} {Q : Pst} {l : Env} {A A' : List HP} {ops : Array Oper} {r : List Oper} {ty ty' : TypeId} {pos : String} {af : Array Edge} {dst : Option Tmp} {g : Option (Nat × Bool)} {x y z : Operand}
def evps (l : Env) : List (Nat × Operand) → Option (List (Nat × Value))
  | [] => some []
  | (i, x) :: xs => match ev l x with
    | some v => match evps l xs with
      | some vs => some ((i, v) :: vs)
      | none => none
    | none => none
theorem Holds.evps {a : Act} {l : Env} (h : Holds a l) : ∀ {xs : List (Nat × Operand)} {vs : List (Nat × Value)}, evps l xs = some vs → xs.map (fun (p : Nat × Operand) => (p.1, a.eval p.2)) = vs
  | [], vs, hx => by simp only [Sl.evps, Option.some.injEq] at hx; subst hx; rfl
  | (i, x) :: xs, vs, hx => by
    simp only [Sl.evps] at hx
    split at hx
    · rename_i v hv
      split at hx
      · rename_i us hu
        simp only [Option.some.injEq] at hx
        subst hx
        rw [List.map_cons, h.evps hu]
        simp [h.ev hv]
      · simp at hx
    · simp at hx
theorem Qt.build {ps : List (Nat × Operand)} {vs : List (Nat × Value)} {zs cs : List Value} {pl : List (Nat × Nat)} (hpl : structPl P ty' = some pl) (hz : zeroTy P ty' = some zs) (hx : evps l ps = some vs) (hf : fillL (fun i => pl[i]?) zs vs = some cs) : Qt P l A ⟨dst, .build ty' ps.toArray, ty, pos, af, g⟩ (.agg cs.toArray) :=
  fun a w _ _ hl _ _ => by
    have e : (ps.toArray.map fun (i, x) => (i, a.eval x)) = vs.toArray := by rw [← hl.evps hx]; simp
    unfold structPl at hpl
    split at hpl
    · rename_i fs hu
      obtain ⟨v, hv1, hv2⟩ := run_zero (w := w) hz
      have h1 : (fs.mapM placeOf).run P w = .ok pl.toArray w := by
        rw [← Array.toArray_toList (xs := fs), List.mapM_toArray]
        have := run_places (w := w) hpl
        simp [this]
      have h2 := fill_eq hf
      have h3 : v.cells = zs.toArray := by rw [← hv1]
      have h4 : (fs.mapM fun f => do Pure.pure (f.offset, ← sizeOf f.type)) = fs.mapM placeOf := rfl
      simp only [execOp, e, Instr.build, Sem.run_bind, hv2, Result.andThen_ok, run_underlying hu, h3]
      erw [h1]
      simp [h2, Pure.pure]
    · simp at hpl
end
end Go.Proofs.YthjbkngecgbioaaGreatDoor.Sl

/- The logic of blocks: literals of slices, append, cuts, making. -/
namespace Go.Proofs.YthjbkngecgbioaaGreatDoor.Sl
open Go

/-- What a slice type's elements are: their type, cells, bytes. -/
def ElTy (P : Program) (t e sz by_ : Nat) : Prop := P.underlying t = some (.slice e) ∧ ∃ i z, P.info? e = some i ∧ i.zero = some z ∧ i.size = sz ∧ i.bytes = by_ ∧ z.cells.size = sz
def elTy (P : Program) (t e sz by_ : Nat) : Bool :=
  (match P.underlying t with | some (.slice e') => Nat.beq e' e | _ => false) &&
  (match P.info? e with | some i => (match i.zero with | some z => Nat.beq i.size sz && Nat.beq i.bytes by_ && Nat.beq z.cells.size sz | none => false) | none => false)
theorem ElTy.of {P : Program} {t e sz by_ : Nat} (h : elTy P t e sz by_ = true) : ElTy P t e sz by_ := by
  unfold elTy at h
  simp only [Bool.and_eq_true] at h
  obtain ⟨h1, h2⟩ := h
  split at h1
  · rename_i e' hu
    have := Nat.eq_of_beq_eq_true h1
    subst this
    split at h2
    · rename_i i hi
      split at h2
      · rename_i z hz
        simp only [Bool.and_eq_true] at h2
        exact ⟨hu, i, z, hi, hz, Nat.eq_of_beq_eq_true h2.1.1, Nat.eq_of_beq_eq_true h2.1.2, Nat.eq_of_beq_eq_true h2.2⟩
      · simp at h2
    · simp at h2
  · simp at h1
theorem ElTy.sz {P : Program} {t e sz by_ : Nat} (h : ElTy P t e sz by_) : szTy P e = some sz := by
  obtain ⟨_, i, z, h1, _, h2, _⟩ := h
  simp [szTy, h1, h2]
theorem own_block {w : World} {base e size n : Nat} {v : Value} {xs : List Value} (h : w.ownsRow base e size v n xs) : ∀ b, v.ownBlock = some b → b < w.heap.size := fun b hb => (h.lt b hb).2
/-- The world behind an append to a row of one's own. -/
theorem Turns.grown {α : Type} {D : Kd α} {w w' : World} {R F : Foot} {T : Nat} {A A' : Option Addr} {c c' : Nat} {xs ys : List α} {inner inner' : List Value} (ok : Ok w R F) (hF : ∀ b, (Value.slice A xs.length c).ownBlock = some b → F b)
    (hg : w.grownBy w' (Value.slice A xs.length c).ownBlock) (ho : w'.ownsRow 0 T D.sz (.slice A' ys.length c') ys.length inner') (hnew : ∀ b, (Value.slice A' ys.length c').ownBlock = some b → (Value.slice A xs.length c).ownBlock = some b ∨ w.heap.size ≤ b)
    (he : Elems D w' R ys inner') : Turns w R F w' [row D T A' c' ys] := by
  have _ := inner
  refine ⟨R, fun b => (Value.slice A' ys.length c').ownBlock = some b, ⟨hg.os, hg.tape, hg.output, hg.size, fun b hb hn => hg.block b hb (fun e => hn (hF b e.symm)), fun _ h => h, fun _ h => .inl h, fun b hb => (hnew b hb).imp (hF b) id⟩,
    ⟨fun b hb => Nat.lt_of_lt_of_le (ok.r b hb) hg.size, fun b hb => own_block ho b hb, fun b hb hb2 => ?_⟩, fun b => (Value.slice A' ys.length c').ownBlock = some b, fun _ => False, fun _ h => h, fun _ h => h.elim, fun _ _ h => h, ⟨inner', ho, fun _ h => h, he⟩, trivial⟩
  rcases hnew b hb2 with h | h
  · exact ok.d b hb (hF b h)
  · have := ok.r b hb; omega
theorem grown_same {w w' : World} {R F : Foot} {v : Value} (ok : Ok w R F) (hF : ∀ b, v.ownBlock = some b → F b) (hg : w.grownBy w' v.ownBlock) : Same w w' R :=
  fun b hb => hg.block b (ok.r b hb) (fun e => ok.d b hb (hF b e.symm))
/-- append, and that the new row is the elder one, or new. -/
theorem append_new {P : Program} {w : World} {t ty e : TypeId} {i : TypeInfo} {z : Value} (ht : P.underlying t = some (.slice e)) (hi : P.info? e = some i) (hz : i.zero = some z) (hzs : z.cells.size = i.size) (hsz : 0 < i.size)
    {v : Value} {n : Nat} {xs : List Value} (hown : w.ownsRow 0 e i.size v n xs)
    (a : Addr) (m c : Nat) (news : List Value) (hl : news.length = m * i.size) (hnews : ∀ j u, news[j]? = some u → w.cell? (a.add j) = some u) (h1 : ∀ u ∈ news, u.oneCell' = true)
    (h63 : n + m ≤ maxLen) (hbytes : (n + m) * i.bytes ≤ 140737488355328) :
    ∃ A' c' w', (Builtin.append_ #[t, t] ty #[v, .slice (some a) m c]).run P w = .ok (.slice A' (n + m) c') w' ∧ w'.ownsRow 0 e i.size (.slice A' (n + m) c') (n + m) (xs ++ news) ∧ w.grownBy w' v.ownBlock ∧
      ∀ b, (Value.slice A' (n + m) c').ownBlock = some b → v.ownBlock = some b ∨ w.heap.size ≤ b := by
  have hsmall : n + m ≤ 9223372036854775807 := by simp only [maxLen] at h63; omega
  have hlen : (xs ++ news).length = (n + m) * i.size := by rw [List.length_append, hown.1, hl, Nat.add_mul]
  have grown : ∀ (old : Nat), old < n + m → ∀ (row : Option Nat),
      (w.drew.alloc (.cells (xs.toArray ++ news.toArray ++ Builtin.zeroCells z.cells (grownCap w (n + m) old e - (n + m))) e)).ownsRow 0 e i.size
        (.slice (some ⟨w.heap.size, 0, none⟩) (n + m) (grownCap w (n + m) old e)) (n + m) (xs ++ news) ∧
      w.grownBy (w.drew.alloc (.cells (xs.toArray ++ news.toArray ++ Builtin.zeroCells z.cells (grownCap w (n + m) old e - (n + m))) e)) row := by
    intro old ho row
    have hge := grownCap_ge w (n + m) old e
    have hcm : grownCap w (n + m) old e ≤ maxLen := grownCap_le_maxLen w (n + m) old e h63
    refine ⟨⟨hlen, .inr ⟨w.heap.size, _, _, rfl, Nat.zero_le _, heap_alloc_new w.drew _, hge, hcm, ?_, ?_⟩⟩, ⟨rfl, rfl, rfl, by simp, fun k hk _ => (show (w.drew.heap.push _)[k]? = _ by rw [Array.getElem?_push_lt (show k < w.drew.heap.size from hk)]; exact (Array.getElem?_eq_getElem (show k < w.drew.heap.size from hk)).symm)⟩⟩
    · simp only [Array.size_append, List.size_toArray, size_zeroCells, hzs, hown.1, hl, ← Nat.add_mul]
      congr 1
      omega
    · simp only [Array.toList_append, List.append_assoc]
      rw [← List.append_assoc, ← hlen]
      exact List.take_left
  rcases hown.2 with ⟨rfl, rfl⟩ | ⟨g, cap, cur, rfl, hbg, hg, hnc, hcm, hcs, htake⟩
  · have hx : xs = [] := List.eq_nil_of_length_eq_zero (by simpa using hown.1)
    subst hx
    by_cases hm : m = 0
    · subst hm
      have hn : news = [] := List.eq_nil_of_length_eq_zero (by simpa using hl)
      subst hn
      refine ⟨none, 0, w, ?_, World.ownsRow_nil w 0 e i.size, ⟨rfl, rfl, rfl, Nat.le_refl _, fun _ _ _ => rfl⟩, by simp [Value.ownBlock]⟩
      simp [Builtin.append_, run_underlying ht, sizeOf, typeInfo, hi, Builtin.lenOf, Builtin.firstCells, loadCells, loadCellsFrom]
    · have hr := run_append_nil (P := P) w t ty e i z ht hi hz a m c news hl hnews (by omega) (by omega) (by have hb := hbytes; simp only [Nat.zero_add] at hb; omega)
      have hgr := grown 0 (by omega) (Value.ownBlock (.slice none 0 0))
      simp only [Nat.zero_add, List.nil_append, Array.empty_append] at hgr ⊢
      exact ⟨_, _, _, hr, hgr.1, hgr.2, fun b hb => .inr (by simp [Value.ownBlock] at hb; omega)⟩
  · by_cases hroom : n + m ≤ cap
    · obtain ⟨w', hr, ho, hgr⟩ := run_append_fits (P := P) w 0 t ty e i i.size ht hi rfl g n cap xs hown a m c news hl hnews h1 hroom
      exact ⟨_, _, w', hr, ho, hgr, fun b hb => .inl (by simpa [Value.ownBlock] using hb)⟩
    · have holds : ∀ j u, xs[j]? = some u → w.cell? ((⟨g, 0, none⟩ : Addr).add j) = some u := hown.cells (g := g) rfl
      have hr := run_append_grow (P := P) w t ty e i z ht hi hz ⟨g, 0, none⟩ n cap xs hown.1 holds a m c news hl hnews (by omega) (by omega) (growslice_fits (by omega) hbytes)
      have hgr := grown cap (by omega) (Value.ownBlock (.slice (some ⟨g, 0, none⟩) n cap))
      exact ⟨_, _, _, hr, hgr.1, hgr.2, fun b hb => .inr (by simp [Value.ownBlock] at hb; omega)⟩
section
variable {P : Program} {n : Nat} {C : Ctx} {Q : Pst} {l : Env} {A A' : List HP} {ops : Array Oper} {r : List Oper} {ty ty' : TypeId} {pos : String} {af : Array Edge} {dst : Option Tmp} {g : Option (Nat × Bool)} {x y z : Operand}
/-- append(v, u): u's cells stand in a block of their own (a literal of one element, or more: ys). -/
theorem O1.append {α : Type} {D : Kd α} {T t b by_ m c c2 : Nat} {Ad : Option Addr} {xs ys : List α} {cs : List Value} (i : Nat) (hE : elTy P t T D.sz by_ = true) (hpos : Nat.blt 0 D.sz = true) (hx : ev l x = some (.slice Ad xs.length c)) (hy : ev l y = some (.slice (some ⟨b, 0, none⟩) m c2))
    (hA : takes [i, 0] A = some ([row D T Ad c xs, blk b T cs], A')) (hm : ys.length = m) (he : ∀ w R, Ok w R (fun _ => False) → Star A' w R (fun _ => True) → Elems D w R ys cs) (hb : (xs.length + m) * by_ ≤ 140737488355328 ∧ xs.length + m ≤ 140737488355328) :
    O1 P n C l A ⟨dst, .call { callee := .builtin .append, args := #[x, y], argTypes := #[t, t] }, ty, pos, af, g⟩ (fun v B => ∃ Ad' c', v = .slice Ad' (xs ++ ys).length c' ∧ B = row D T Ad' c' (xs ++ ys) :: A') := by
  obtain ⟨hu, inf, zz, hi, hz, hs1, hs2, hs3⟩ := ElTy.of hE
  intro a w iv K Q hK
  obtain ⟨R, F, s, o, st⟩ := iv.mem
  obtain ⟨F1, F2, g1, g2, gd, s1, s2⟩ := Star.split (takes_star hA st)
  obtain ⟨G1, G2, e1, e2, e3, ⟨inner, ho, hF, hel⟩, ⟨H1, H2, f1, f2, f3, hblk, _⟩⟩ := s1
  have ho1 : Ok w R F1 := ⟨o.r, fun b hb => o.f b (g1 b hb), fun b hb hF => o.d b hb (g1 b hF)⟩
  have hel2 : Elems D w R ys cs := he w R ⟨o.r, fun _ h => h.elim, fun _ _ h => h⟩ (Star.monoF (fun _ _ => trivial) s2)
  have hsz : 0 < inf.size := by rw [hs1]; exact Nat.le_of_ble_eq_true hpos
  rw [← hs1] at ho
  obtain ⟨Ad', c', w', hrun, ho', hg, hnew⟩ := append_new (ty := ty) hu hi hz (by rw [hs3, hs1]) hsz ho ⟨b, 0, none⟩ m c2 cs (by rw [hel2.len, hm, hs1]) (fun j u hj => by rw [add_none, Nat.zero_add, hblk.2.cell j]; exact hj)
    (fun u hu => one_old (hel2.one u hu)) (by have := hb.2; unfold maxLen; omega) (by rw [hs2]; exact hb.1)
  have hlen : (xs ++ ys).length = xs.length + m := by rw [List.length_append, hm]
  have hFw : ∀ k, (Value.slice Ad xs.length c).ownBlock = some k → F1 k := fun k hk => e1 k (hF k hk)
  have hsame : Same w w' R := grown_same ho1 hFw hg
  have htu : Turns w R F1 w' [row D T Ad' c' (xs ++ ys)] := by
    refine Turns.grown (inner := inner) (inner' := inner ++ cs) ho1 hFw hg ?_ ?_ (Elems.append (hel.loc hsame) (hel2.loc hsame))
    · rw [hlen, ← hs1]; exact ho'
    · rw [hlen]; exact hnew
  obtain ⟨R', F', s', o', st'⟩ := Turns.frame o g1 g2 gd htu s2
  unfold Oper.wp execOp
  simp only [resolve, invoke, builtin, Sem.run_bind, Sem.run_pure, Result.andThen_ok, List.map_toArray, List.map_cons, List.map_nil, iv.holds.ev hx, iv.holds.ev hy, hrun]
  have hi2 : Inv n C l (row D T Ad' c' (xs ++ ys) :: A') a w' := ⟨iv.size, iv.defers, iv.holds, R', F', s.trans s', o', st'⟩
  rw [← hlen]
  refine hK _ _ w' ⟨Ad', c', rfl, rfl⟩ (fun d hd hdn => ?_) (fun hd => ?_)
  · subst hd; exact hi2.put hdn _
  · subst hd; exact hi2
theorem JL.append {α : Type} {D : Kd α} {T d : Nat} {zs : List α} {op : Op} (ho : O1 P n C l A ⟨some d, op, ty, pos, af, none⟩ (fun v B => ∃ Ad' c', v = .slice Ad' zs.length c' ∧ B = row D T Ad' c' zs :: A')) (hd : Nat.blt d n = true)
    (h : ∀ Ad' c', JL P n C ops Q r ((d, .slice Ad' zs.length c') :: l) (row D T Ad' c' zs :: A')) : JL P n C ops Q (⟨some d, op, ty, pos, af, none⟩ :: r) l A :=
  JL.ef ho hd (by rintro _ _ ⟨Ad', c', rfl, rfl⟩; exact h Ad' c')
end
end Go.Proofs.YthjbkngecgbioaaGreatDoor.Sl

/- The logic of blocks: loops and meetings with several letters; what a function hands back. -/
namespace Go.Proofs.YthjbkngecgbioaaGreatDoor.Sl
open Go

def Sub : Env → Env → Prop
  | [], _ => True
  | (k, v) :: m, l => get l k = some v ∧ Sub m l
theorem Sub.get : ∀ {m l : Env}, Sub m l → ∀ t v, Sl.get m t = some v → Sl.get l t = some v
  | [], _, _, _, _, h => by simp [Sl.get] at h
  | (k, u) :: m, l, ⟨h1, h2⟩, t, v, h => by
    simp only [Sl.get] at h
    by_cases e : Nat.beq k t = true
    · rw [if_pos e] at h
      have e' := Nat.eq_of_beq_eq_true e
      subst e'
      rw [h1]; exact h
    · rw [if_neg e] at h
      exact Sub.get h2 t v h
theorem takes_sub {is : List Nat} {A L r : List HP} (h : takes is A = some (L, r)) : ∀ w R F, Star A w R F → Star L w R F := fun _ _ _ s => by
  obtain ⟨F1, _, h1, _, _, h2, _⟩ := Star.split (takes_star h s)
  exact Star.monoF h1 h2
theorem Star.cast {A B : List HP} (h : A = B) {w : World} {R F : Foot} (s : Star A w R F) : Star B w R F := h ▸ s

section
variable {P : Program} {n : Nat} {C : Ctx} {Q : Pst} {l : Env} {A L0 r0 : List HP} {x y : Code}
/-- Ways meet, 0 letters. -/
theorem J.meet0 (lf : Env) (Af : List HP) (pf : Prop) (hx : J P n C x (Exit.then (fun a w => pf ∧ Inv n C lf Af a w) Q) l A) (hy : pf → J P n C y Q lf Af) : J P n C (.seq x y) Q l A :=
  fun a w i => wp_seq (wp_mono (hx a w i) fun e a' w' hq => by
    cases e with
    | normal => obtain ⟨hp, hj⟩ := hq; exact hy  hp a' w' hj
    | exit id => exact hq
    | goto g => exact hq
    | ret => exact hq
    | panic ch => exact hq
    | outgrown => exact hq)
theorem JN.met0 {lf : Env} {Af : List HP} {pf : Prop}  (hp : pf) (hl : Sub lf l) (is : List Nat) (hA : takes is A = some (Af, r0)) : JN n C (fun a w => pf ∧ Inv n C lf Af a w) l A :=
  fun _ _ h => ⟨hp, h.size, h.defers, fun t v ht => h.holds t v (hl.get t v ht), let ⟨R, F, s, o, st⟩ := h.mem; ⟨R, F, s, o, takes_sub hA _ _ _ st⟩⟩
/-- A loop, 0 letters. -/
theorem J.loop0 (lf : Env) (Af : List HP) (pf : Prop) (μ : Nat)  (hp : pf) (hl : Sub lf l) (is : List Nat) (hA : takes is A = some (Af, r0))
    (round : pf → J P n C x (Exit.then (fun a w => μ < μ ∧ pf ∧ Inv n C lf Af a w) Q) lf Af) : J P n C (.loop x) Q l A := by
  intro a w h
  refine wp_loop_ghost (fun m a w => μ = m ∧ pf ∧ Inv n C lf Af a w) μ ⟨rfl, hp, h.size, h.defers, fun t v ht => h.holds t v (hl.get t v ht), let ⟨R, F, s, o, st⟩ := h.mem; ⟨R, F, s, o, takes_sub hA _ _ _ st⟩⟩ ?_
  rintro m a w ⟨rfl, hp, hi⟩
  refine wp_mono (round  hp a w hi) fun e a' w' hq => ?_
  cases e with
  | normal => obtain ⟨h1, h2, h3⟩ := hq; exact ⟨_, h1, rfl, h2, h3⟩
  | exit id => exact hq
  | goto g => exact hq
  | ret => exact hq
  | panic ch => exact hq
  | outgrown => exact hq
theorem JN.round0 {lf : Env} {Af : List HP} {pf : Prop} {μ : Nat}   (hμ : μ < μ) (hp : pf) (hl : Sub lf l) (is : List Nat) (hA : takes is A = some (Af, r0)) :
    JN n C (fun a w => μ < μ ∧ pf ∧ Inv n C lf Af a w) l A :=
  fun _ _ h => ⟨hμ, hp, h.size, h.defers, fun t v ht => h.holds t v (hl.get t v ht), let ⟨R, F, s, o, st⟩ := h.mem; ⟨R, F, s, o, takes_sub hA _ _ _ st⟩⟩
/-- Ways meet, 1 letters. -/
theorem J.meet1 {α0 : Type} (lf : α0 → Env) (Af : α0 → List HP) (pf : α0 → Prop) (hx : J P n C x (Exit.then (fun a w => ∃ x0, (pf x0) ∧ Inv n C (lf x0) (Af x0) a w) Q) l A) (hy : ∀ x0, (pf x0) → J P n C y Q (lf x0) (Af x0)) : J P n C (.seq x y) Q l A :=
  fun a w i => wp_seq (wp_mono (hx a w i) fun e a' w' hq => by
    cases e with
    | normal => obtain ⟨x0, hp, hj⟩ := hq; exact hy x0 hp a' w' hj
    | exit id => exact hq
    | goto g => exact hq
    | ret => exact hq
    | panic ch => exact hq
    | outgrown => exact hq)
theorem JN.met1 {α0 : Type} {lf : α0 → Env} {Af : α0 → List HP} {pf : α0 → Prop} (x0 : α0) (hp : (pf x0)) (hl : Sub (lf x0) l) (is : List Nat) (hA : takes is A = some ((Af x0), r0)) : JN n C (fun a w => ∃ y0, (pf y0) ∧ Inv n C (lf y0) (Af y0) a w) l A :=
  fun _ _ h => ⟨x0, hp, h.size, h.defers, fun t v ht => h.holds t v (hl.get t v ht), let ⟨R, F, s, o, st⟩ := h.mem; ⟨R, F, s, o, takes_sub hA _ _ _ st⟩⟩
/-- A loop, 1 letters. -/
theorem J.loop1 {α0 : Type} (lf : α0 → Env) (Af : α0 → List HP) (pf : α0 → Prop) (μ : α0 → Nat) (x0 : α0) (hp : (pf x0)) (hl : Sub (lf x0) l) (is : List Nat) (hA : takes is A = some ((Af x0), r0))
    (round : ∀ x0, (pf x0) → J P n C x (Exit.then (fun a w => ∃ y0, (μ y0) < (μ x0) ∧ (pf y0) ∧ Inv n C (lf y0) (Af y0) a w) Q) (lf x0) (Af x0)) : J P n C (.loop x) Q l A := by
  intro a w h
  refine wp_loop_ghost (fun m a w => ∃ y0, (μ y0) = m ∧ (pf y0) ∧ Inv n C (lf y0) (Af y0) a w) (μ x0) ⟨x0, rfl, hp, h.size, h.defers, fun t v ht => h.holds t v (hl.get t v ht), let ⟨R, F, s, o, st⟩ := h.mem; ⟨R, F, s, o, takes_sub hA _ _ _ st⟩⟩ ?_
  rintro m a w ⟨z0, rfl, hp, hi⟩
  refine wp_mono (round z0 hp a w hi) fun e a' w' hq => ?_
  cases e with
  | normal => obtain ⟨y0, h1, h2, h3⟩ := hq; exact ⟨_, h1, y0, rfl, h2, h3⟩
  | exit id => exact hq
  | goto g => exact hq
  | ret => exact hq
  | panic ch => exact hq
  | outgrown => exact hq
theorem JN.round1 {α0 : Type} {lf : α0 → Env} {Af : α0 → List HP} {pf : α0 → Prop} {μ : α0 → Nat} {z0 : α0} (x0 : α0) (hμ : (μ x0) < (μ z0)) (hp : (pf x0)) (hl : Sub (lf x0) l) (is : List Nat) (hA : takes is A = some ((Af x0), r0)) :
    JN n C (fun a w => ∃ y0, (μ y0) < (μ z0) ∧ (pf y0) ∧ Inv n C (lf y0) (Af y0) a w) l A :=
  fun _ _ h => ⟨x0, hμ, hp, h.size, h.defers, fun t v ht => h.holds t v (hl.get t v ht), let ⟨R, F, s, o, st⟩ := h.mem; ⟨R, F, s, o, takes_sub hA _ _ _ st⟩⟩
/-- Ways meet, 2 letters. -/
theorem J.meet2 {α0 α1 : Type} (lf : α0 → α1 → Env) (Af : α0 → α1 → List HP) (pf : α0 → α1 → Prop) (hx : J P n C x (Exit.then (fun a w => ∃ x0 x1, (pf x0 x1) ∧ Inv n C (lf x0 x1) (Af x0 x1) a w) Q) l A) (hy : ∀ x0 x1, (pf x0 x1) → J P n C y Q (lf x0 x1) (Af x0 x1)) : J P n C (.seq x y) Q l A :=
  fun a w i => wp_seq (wp_mono (hx a w i) fun e a' w' hq => by
    cases e with
    | normal => obtain ⟨x0, x1, hp, hj⟩ := hq; exact hy x0 x1 hp a' w' hj
    | exit id => exact hq
    | goto g => exact hq
    | ret => exact hq
    | panic ch => exact hq
    | outgrown => exact hq)
theorem JN.met2 {α0 α1 : Type} {lf : α0 → α1 → Env} {Af : α0 → α1 → List HP} {pf : α0 → α1 → Prop} (x0 : α0) (x1 : α1) (hp : (pf x0 x1)) (hl : Sub (lf x0 x1) l) (is : List Nat) (hA : takes is A = some ((Af x0 x1), r0)) : JN n C (fun a w => ∃ y0 y1, (pf y0 y1) ∧ Inv n C (lf y0 y1) (Af y0 y1) a w) l A :=
  fun _ _ h => ⟨x0, x1, hp, h.size, h.defers, fun t v ht => h.holds t v (hl.get t v ht), let ⟨R, F, s, o, st⟩ := h.mem; ⟨R, F, s, o, takes_sub hA _ _ _ st⟩⟩
/-- A loop, 2 letters. -/
theorem J.loop2 {α0 α1 : Type} (lf : α0 → α1 → Env) (Af : α0 → α1 → List HP) (pf : α0 → α1 → Prop) (μ : α0 → α1 → Nat) (x0 : α0) (x1 : α1) (hp : (pf x0 x1)) (hl : Sub (lf x0 x1) l) (is : List Nat) (hA : takes is A = some ((Af x0 x1), r0))
    (round : ∀ x0 x1, (pf x0 x1) → J P n C x (Exit.then (fun a w => ∃ y0 y1, (μ y0 y1) < (μ x0 x1) ∧ (pf y0 y1) ∧ Inv n C (lf y0 y1) (Af y0 y1) a w) Q) (lf x0 x1) (Af x0 x1)) : J P n C (.loop x) Q l A := by
  intro a w h
  refine wp_loop_ghost (fun m a w => ∃ y0 y1, (μ y0 y1) = m ∧ (pf y0 y1) ∧ Inv n C (lf y0 y1) (Af y0 y1) a w) (μ x0 x1) ⟨x0, x1, rfl, hp, h.size, h.defers, fun t v ht => h.holds t v (hl.get t v ht), let ⟨R, F, s, o, st⟩ := h.mem; ⟨R, F, s, o, takes_sub hA _ _ _ st⟩⟩ ?_
  rintro m a w ⟨z0, z1, rfl, hp, hi⟩
  refine wp_mono (round z0 z1 hp a w hi) fun e a' w' hq => ?_
  cases e with
  | normal => obtain ⟨y0, y1, h1, h2, h3⟩ := hq; exact ⟨_, h1, y0, y1, rfl, h2, h3⟩
  | exit id => exact hq
  | goto g => exact hq
  | ret => exact hq
  | panic ch => exact hq
  | outgrown => exact hq
theorem JN.round2 {α0 α1 : Type} {lf : α0 → α1 → Env} {Af : α0 → α1 → List HP} {pf : α0 → α1 → Prop} {μ : α0 → α1 → Nat} {z0 : α0} {z1 : α1} (x0 : α0) (x1 : α1) (hμ : (μ x0 x1) < (μ z0 z1)) (hp : (pf x0 x1)) (hl : Sub (lf x0 x1) l) (is : List Nat) (hA : takes is A = some ((Af x0 x1), r0)) :
    JN n C (fun a w => ∃ y0 y1, (μ y0 y1) < (μ z0 z1) ∧ (pf y0 y1) ∧ Inv n C (lf y0 y1) (Af y0 y1) a w) l A :=
  fun _ _ h => ⟨x0, x1, hμ, hp, h.size, h.defers, fun t v ht => h.holds t v (hl.get t v ht), let ⟨R, F, s, o, st⟩ := h.mem; ⟨R, F, s, o, takes_sub hA _ _ _ st⟩⟩
/-- Ways meet, 3 letters. -/
theorem J.meet3 {α0 α1 α2 : Type} (lf : α0 → α1 → α2 → Env) (Af : α0 → α1 → α2 → List HP) (pf : α0 → α1 → α2 → Prop) (hx : J P n C x (Exit.then (fun a w => ∃ x0 x1 x2, (pf x0 x1 x2) ∧ Inv n C (lf x0 x1 x2) (Af x0 x1 x2) a w) Q) l A) (hy : ∀ x0 x1 x2, (pf x0 x1 x2) → J P n C y Q (lf x0 x1 x2) (Af x0 x1 x2)) : J P n C (.seq x y) Q l A :=
  fun a w i => wp_seq (wp_mono (hx a w i) fun e a' w' hq => by
    cases e with
    | normal => obtain ⟨x0, x1, x2, hp, hj⟩ := hq; exact hy x0 x1 x2 hp a' w' hj
    | exit id => exact hq
    | goto g => exact hq
    | ret => exact hq
    | panic ch => exact hq
    | outgrown => exact hq)
theorem JN.met3 {α0 α1 α2 : Type} {lf : α0 → α1 → α2 → Env} {Af : α0 → α1 → α2 → List HP} {pf : α0 → α1 → α2 → Prop} (x0 : α0) (x1 : α1) (x2 : α2) (hp : (pf x0 x1 x2)) (hl : Sub (lf x0 x1 x2) l) (is : List Nat) (hA : takes is A = some ((Af x0 x1 x2), r0)) : JN n C (fun a w => ∃ y0 y1 y2, (pf y0 y1 y2) ∧ Inv n C (lf y0 y1 y2) (Af y0 y1 y2) a w) l A :=
  fun _ _ h => ⟨x0, x1, x2, hp, h.size, h.defers, fun t v ht => h.holds t v (hl.get t v ht), let ⟨R, F, s, o, st⟩ := h.mem; ⟨R, F, s, o, takes_sub hA _ _ _ st⟩⟩
/-- A loop, 3 letters. -/
theorem J.loop3 {α0 α1 α2 : Type} (lf : α0 → α1 → α2 → Env) (Af : α0 → α1 → α2 → List HP) (pf : α0 → α1 → α2 → Prop) (μ : α0 → α1 → α2 → Nat) (x0 : α0) (x1 : α1) (x2 : α2) (hp : (pf x0 x1 x2)) (hl : Sub (lf x0 x1 x2) l) (is : List Nat) (hA : takes is A = some ((Af x0 x1 x2), r0))
    (round : ∀ x0 x1 x2, (pf x0 x1 x2) → J P n C x (Exit.then (fun a w => ∃ y0 y1 y2, (μ y0 y1 y2) < (μ x0 x1 x2) ∧ (pf y0 y1 y2) ∧ Inv n C (lf y0 y1 y2) (Af y0 y1 y2) a w) Q) (lf x0 x1 x2) (Af x0 x1 x2)) : J P n C (.loop x) Q l A := by
  intro a w h
  refine wp_loop_ghost (fun m a w => ∃ y0 y1 y2, (μ y0 y1 y2) = m ∧ (pf y0 y1 y2) ∧ Inv n C (lf y0 y1 y2) (Af y0 y1 y2) a w) (μ x0 x1 x2) ⟨x0, x1, x2, rfl, hp, h.size, h.defers, fun t v ht => h.holds t v (hl.get t v ht), let ⟨R, F, s, o, st⟩ := h.mem; ⟨R, F, s, o, takes_sub hA _ _ _ st⟩⟩ ?_
  rintro m a w ⟨z0, z1, z2, rfl, hp, hi⟩
  refine wp_mono (round z0 z1 z2 hp a w hi) fun e a' w' hq => ?_
  cases e with
  | normal => obtain ⟨y0, y1, y2, h1, h2, h3⟩ := hq; exact ⟨_, h1, y0, y1, y2, rfl, h2, h3⟩
  | exit id => exact hq
  | goto g => exact hq
  | ret => exact hq
  | panic ch => exact hq
  | outgrown => exact hq
theorem JN.round3 {α0 α1 α2 : Type} {lf : α0 → α1 → α2 → Env} {Af : α0 → α1 → α2 → List HP} {pf : α0 → α1 → α2 → Prop} {μ : α0 → α1 → α2 → Nat} {z0 : α0} {z1 : α1} {z2 : α2} (x0 : α0) (x1 : α1) (x2 : α2) (hμ : (μ x0 x1 x2) < (μ z0 z1 z2)) (hp : (pf x0 x1 x2)) (hl : Sub (lf x0 x1 x2) l) (is : List Nat) (hA : takes is A = some ((Af x0 x1 x2), r0)) :
    JN n C (fun a w => ∃ y0 y1 y2, (μ y0 y1 y2) < (μ z0 z1 z2) ∧ (pf y0 y1 y2) ∧ Inv n C (lf y0 y1 y2) (Af y0 y1 y2) a w) l A :=
  fun _ _ h => ⟨x0, x1, x2, hμ, hp, h.size, h.defers, fun t v ht => h.holds t v (hl.get t v ht), let ⟨R, F, s, o, st⟩ := h.mem; ⟨R, F, s, o, takes_sub hA _ _ _ st⟩⟩
/-- Ways meet, 4 letters. -/
theorem J.meet4 {α0 α1 α2 α3 : Type} (lf : α0 → α1 → α2 → α3 → Env) (Af : α0 → α1 → α2 → α3 → List HP) (pf : α0 → α1 → α2 → α3 → Prop) (hx : J P n C x (Exit.then (fun a w => ∃ x0 x1 x2 x3, (pf x0 x1 x2 x3) ∧ Inv n C (lf x0 x1 x2 x3) (Af x0 x1 x2 x3) a w) Q) l A) (hy : ∀ x0 x1 x2 x3, (pf x0 x1 x2 x3) → J P n C y Q (lf x0 x1 x2 x3) (Af x0 x1 x2 x3)) : J P n C (.seq x y) Q l A :=
  fun a w i => wp_seq (wp_mono (hx a w i) fun e a' w' hq => by
    cases e with
    | normal => obtain ⟨x0, x1, x2, x3, hp, hj⟩ := hq; exact hy x0 x1 x2 x3 hp a' w' hj
    | exit id => exact hq
    | goto g => exact hq
    | ret => exact hq
    | panic ch => exact hq
    | outgrown => exact hq)
theorem JN.met4 {α0 α1 α2 α3 : Type} {lf : α0 → α1 → α2 → α3 → Env} {Af : α0 → α1 → α2 → α3 → List HP} {pf : α0 → α1 → α2 → α3 → Prop} (x0 : α0) (x1 : α1) (x2 : α2) (x3 : α3) (hp : (pf x0 x1 x2 x3)) (hl : Sub (lf x0 x1 x2 x3) l) (is : List Nat) (hA : takes is A = some ((Af x0 x1 x2 x3), r0)) : JN n C (fun a w => ∃ y0 y1 y2 y3, (pf y0 y1 y2 y3) ∧ Inv n C (lf y0 y1 y2 y3) (Af y0 y1 y2 y3) a w) l A :=
  fun _ _ h => ⟨x0, x1, x2, x3, hp, h.size, h.defers, fun t v ht => h.holds t v (hl.get t v ht), let ⟨R, F, s, o, st⟩ := h.mem; ⟨R, F, s, o, takes_sub hA _ _ _ st⟩⟩
/-- A loop, 4 letters. -/
theorem J.loop4 {α0 α1 α2 α3 : Type} (lf : α0 → α1 → α2 → α3 → Env) (Af : α0 → α1 → α2 → α3 → List HP) (pf : α0 → α1 → α2 → α3 → Prop) (μ : α0 → α1 → α2 → α3 → Nat) (x0 : α0) (x1 : α1) (x2 : α2) (x3 : α3) (hp : (pf x0 x1 x2 x3)) (hl : Sub (lf x0 x1 x2 x3) l) (is : List Nat) (hA : takes is A = some ((Af x0 x1 x2 x3), r0))
    (round : ∀ x0 x1 x2 x3, (pf x0 x1 x2 x3) → J P n C x (Exit.then (fun a w => ∃ y0 y1 y2 y3, (μ y0 y1 y2 y3) < (μ x0 x1 x2 x3) ∧ (pf y0 y1 y2 y3) ∧ Inv n C (lf y0 y1 y2 y3) (Af y0 y1 y2 y3) a w) Q) (lf x0 x1 x2 x3) (Af x0 x1 x2 x3)) : J P n C (.loop x) Q l A := by
  intro a w h
  refine wp_loop_ghost (fun m a w => ∃ y0 y1 y2 y3, (μ y0 y1 y2 y3) = m ∧ (pf y0 y1 y2 y3) ∧ Inv n C (lf y0 y1 y2 y3) (Af y0 y1 y2 y3) a w) (μ x0 x1 x2 x3) ⟨x0, x1, x2, x3, rfl, hp, h.size, h.defers, fun t v ht => h.holds t v (hl.get t v ht), let ⟨R, F, s, o, st⟩ := h.mem; ⟨R, F, s, o, takes_sub hA _ _ _ st⟩⟩ ?_
  rintro m a w ⟨z0, z1, z2, z3, rfl, hp, hi⟩
  refine wp_mono (round z0 z1 z2 z3 hp a w hi) fun e a' w' hq => ?_
  cases e with
  | normal => obtain ⟨y0, y1, y2, y3, h1, h2, h3⟩ := hq; exact ⟨_, h1, y0, y1, y2, y3, rfl, h2, h3⟩
  | exit id => exact hq
  | goto g => exact hq
  | ret => exact hq
  | panic ch => exact hq
  | outgrown => exact hq
theorem JN.round4 {α0 α1 α2 α3 : Type} {lf : α0 → α1 → α2 → α3 → Env} {Af : α0 → α1 → α2 → α3 → List HP} {pf : α0 → α1 → α2 → α3 → Prop} {μ : α0 → α1 → α2 → α3 → Nat} {z0 : α0} {z1 : α1} {z2 : α2} {z3 : α3} (x0 : α0) (x1 : α1) (x2 : α2) (x3 : α3) (hμ : (μ x0 x1 x2 x3) < (μ z0 z1 z2 z3)) (hp : (pf x0 x1 x2 x3)) (hl : Sub (lf x0 x1 x2 x3) l) (is : List Nat) (hA : takes is A = some ((Af x0 x1 x2 x3), r0)) :
    JN n C (fun a w => ∃ y0 y1 y2 y3, (μ y0 y1 y2 y3) < (μ z0 z1 z2 z3) ∧ (pf y0 y1 y2 y3) ∧ Inv n C (lf y0 y1 y2 y3) (Af y0 y1 y2 y3) a w) l A :=
  fun _ _ h => ⟨x0, x1, x2, x3, hμ, hp, h.size, h.defers, fun t v ht => h.holds t v (hl.get t v ht), let ⟨R, F, s, o, st⟩ := h.mem; ⟨R, F, s, o, takes_sub hA _ _ _ st⟩⟩
/-- Ways meet, 5 letters. -/
theorem J.meet5 {α0 α1 α2 α3 α4 : Type} (lf : α0 → α1 → α2 → α3 → α4 → Env) (Af : α0 → α1 → α2 → α3 → α4 → List HP) (pf : α0 → α1 → α2 → α3 → α4 → Prop) (hx : J P n C x (Exit.then (fun a w => ∃ x0 x1 x2 x3 x4, (pf x0 x1 x2 x3 x4) ∧ Inv n C (lf x0 x1 x2 x3 x4) (Af x0 x1 x2 x3 x4) a w) Q) l A) (hy : ∀ x0 x1 x2 x3 x4, (pf x0 x1 x2 x3 x4) → J P n C y Q (lf x0 x1 x2 x3 x4) (Af x0 x1 x2 x3 x4)) : J P n C (.seq x y) Q l A :=
  fun a w i => wp_seq (wp_mono (hx a w i) fun e a' w' hq => by
    cases e with
    | normal => obtain ⟨x0, x1, x2, x3, x4, hp, hj⟩ := hq; exact hy x0 x1 x2 x3 x4 hp a' w' hj
    | exit id => exact hq
    | goto g => exact hq
    | ret => exact hq
    | panic ch => exact hq
    | outgrown => exact hq)
theorem JN.met5 {α0 α1 α2 α3 α4 : Type} {lf : α0 → α1 → α2 → α3 → α4 → Env} {Af : α0 → α1 → α2 → α3 → α4 → List HP} {pf : α0 → α1 → α2 → α3 → α4 → Prop} (x0 : α0) (x1 : α1) (x2 : α2) (x3 : α3) (x4 : α4) (hp : (pf x0 x1 x2 x3 x4)) (hl : Sub (lf x0 x1 x2 x3 x4) l) (is : List Nat) (hA : takes is A = some ((Af x0 x1 x2 x3 x4), r0)) : JN n C (fun a w => ∃ y0 y1 y2 y3 y4, (pf y0 y1 y2 y3 y4) ∧ Inv n C (lf y0 y1 y2 y3 y4) (Af y0 y1 y2 y3 y4) a w) l A :=
  fun _ _ h => ⟨x0, x1, x2, x3, x4, hp, h.size, h.defers, fun t v ht => h.holds t v (hl.get t v ht), let ⟨R, F, s, o, st⟩ := h.mem; ⟨R, F, s, o, takes_sub hA _ _ _ st⟩⟩
/-- A loop, 5 letters. -/
theorem J.loop5 {α0 α1 α2 α3 α4 : Type} (lf : α0 → α1 → α2 → α3 → α4 → Env) (Af : α0 → α1 → α2 → α3 → α4 → List HP) (pf : α0 → α1 → α2 → α3 → α4 → Prop) (μ : α0 → α1 → α2 → α3 → α4 → Nat) (x0 : α0) (x1 : α1) (x2 : α2) (x3 : α3) (x4 : α4) (hp : (pf x0 x1 x2 x3 x4)) (hl : Sub (lf x0 x1 x2 x3 x4) l) (is : List Nat) (hA : takes is A = some ((Af x0 x1 x2 x3 x4), r0))
    (round : ∀ x0 x1 x2 x3 x4, (pf x0 x1 x2 x3 x4) → J P n C x (Exit.then (fun a w => ∃ y0 y1 y2 y3 y4, (μ y0 y1 y2 y3 y4) < (μ x0 x1 x2 x3 x4) ∧ (pf y0 y1 y2 y3 y4) ∧ Inv n C (lf y0 y1 y2 y3 y4) (Af y0 y1 y2 y3 y4) a w) Q) (lf x0 x1 x2 x3 x4) (Af x0 x1 x2 x3 x4)) : J P n C (.loop x) Q l A := by
  intro a w h
  refine wp_loop_ghost (fun m a w => ∃ y0 y1 y2 y3 y4, (μ y0 y1 y2 y3 y4) = m ∧ (pf y0 y1 y2 y3 y4) ∧ Inv n C (lf y0 y1 y2 y3 y4) (Af y0 y1 y2 y3 y4) a w) (μ x0 x1 x2 x3 x4) ⟨x0, x1, x2, x3, x4, rfl, hp, h.size, h.defers, fun t v ht => h.holds t v (hl.get t v ht), let ⟨R, F, s, o, st⟩ := h.mem; ⟨R, F, s, o, takes_sub hA _ _ _ st⟩⟩ ?_
  rintro m a w ⟨z0, z1, z2, z3, z4, rfl, hp, hi⟩
  refine wp_mono (round z0 z1 z2 z3 z4 hp a w hi) fun e a' w' hq => ?_
  cases e with
  | normal => obtain ⟨y0, y1, y2, y3, y4, h1, h2, h3⟩ := hq; exact ⟨_, h1, y0, y1, y2, y3, y4, rfl, h2, h3⟩
  | exit id => exact hq
  | goto g => exact hq
  | ret => exact hq
  | panic ch => exact hq
  | outgrown => exact hq
theorem JN.round5 {α0 α1 α2 α3 α4 : Type} {lf : α0 → α1 → α2 → α3 → α4 → Env} {Af : α0 → α1 → α2 → α3 → α4 → List HP} {pf : α0 → α1 → α2 → α3 → α4 → Prop} {μ : α0 → α1 → α2 → α3 → α4 → Nat} {z0 : α0} {z1 : α1} {z2 : α2} {z3 : α3} {z4 : α4} (x0 : α0) (x1 : α1) (x2 : α2) (x3 : α3) (x4 : α4) (hμ : (μ x0 x1 x2 x3 x4) < (μ z0 z1 z2 z3 z4)) (hp : (pf x0 x1 x2 x3 x4)) (hl : Sub (lf x0 x1 x2 x3 x4) l) (is : List Nat) (hA : takes is A = some ((Af x0 x1 x2 x3 x4), r0)) :
    JN n C (fun a w => ∃ y0 y1 y2 y3 y4, (μ y0 y1 y2 y3 y4) < (μ z0 z1 z2 z3 z4) ∧ (pf y0 y1 y2 y3 y4) ∧ Inv n C (lf y0 y1 y2 y3 y4) (Af y0 y1 y2 y3 y4) a w) l A :=
  fun _ _ h => ⟨x0, x1, x2, x3, x4, hμ, hp, h.size, h.defers, fun t v ht => h.holds t v (hl.get t v ht), let ⟨R, F, s, o, st⟩ := h.mem; ⟨R, F, s, o, takes_sub hA _ _ _ st⟩⟩
/-- Ways meet, 6 letters. -/
theorem J.meet6 {α0 α1 α2 α3 α4 α5 : Type} (lf : α0 → α1 → α2 → α3 → α4 → α5 → Env) (Af : α0 → α1 → α2 → α3 → α4 → α5 → List HP) (pf : α0 → α1 → α2 → α3 → α4 → α5 → Prop) (hx : J P n C x (Exit.then (fun a w => ∃ x0 x1 x2 x3 x4 x5, (pf x0 x1 x2 x3 x4 x5) ∧ Inv n C (lf x0 x1 x2 x3 x4 x5) (Af x0 x1 x2 x3 x4 x5) a w) Q) l A) (hy : ∀ x0 x1 x2 x3 x4 x5, (pf x0 x1 x2 x3 x4 x5) → J P n C y Q (lf x0 x1 x2 x3 x4 x5) (Af x0 x1 x2 x3 x4 x5)) : J P n C (.seq x y) Q l A :=
  fun a w i => wp_seq (wp_mono (hx a w i) fun e a' w' hq => by
    cases e with
    | normal => obtain ⟨x0, x1, x2, x3, x4, x5, hp, hj⟩ := hq; exact hy x0 x1 x2 x3 x4 x5 hp a' w' hj
    | exit id => exact hq
    | goto g => exact hq
    | ret => exact hq
    | panic ch => exact hq
    | outgrown => exact hq)
theorem JN.met6 {α0 α1 α2 α3 α4 α5 : Type} {lf : α0 → α1 → α2 → α3 → α4 → α5 → Env} {Af : α0 → α1 → α2 → α3 → α4 → α5 → List HP} {pf : α0 → α1 → α2 → α3 → α4 → α5 → Prop} (x0 : α0) (x1 : α1) (x2 : α2) (x3 : α3) (x4 : α4) (x5 : α5) (hp : (pf x0 x1 x2 x3 x4 x5)) (hl : Sub (lf x0 x1 x2 x3 x4 x5) l) (is : List Nat) (hA : takes is A = some ((Af x0 x1 x2 x3 x4 x5), r0)) : JN n C (fun a w => ∃ y0 y1 y2 y3 y4 y5, (pf y0 y1 y2 y3 y4 y5) ∧ Inv n C (lf y0 y1 y2 y3 y4 y5) (Af y0 y1 y2 y3 y4 y5) a w) l A :=
  fun _ _ h => ⟨x0, x1, x2, x3, x4, x5, hp, h.size, h.defers, fun t v ht => h.holds t v (hl.get t v ht), let ⟨R, F, s, o, st⟩ := h.mem; ⟨R, F, s, o, takes_sub hA _ _ _ st⟩⟩
/-- A loop, 6 letters. -/
theorem J.loop6 {α0 α1 α2 α3 α4 α5 : Type} (lf : α0 → α1 → α2 → α3 → α4 → α5 → Env) (Af : α0 → α1 → α2 → α3 → α4 → α5 → List HP) (pf : α0 → α1 → α2 → α3 → α4 → α5 → Prop) (μ : α0 → α1 → α2 → α3 → α4 → α5 → Nat) (x0 : α0) (x1 : α1) (x2 : α2) (x3 : α3) (x4 : α4) (x5 : α5) (hp : (pf x0 x1 x2 x3 x4 x5)) (hl : Sub (lf x0 x1 x2 x3 x4 x5) l) (is : List Nat) (hA : takes is A = some ((Af x0 x1 x2 x3 x4 x5), r0))
    (round : ∀ x0 x1 x2 x3 x4 x5, (pf x0 x1 x2 x3 x4 x5) → J P n C x (Exit.then (fun a w => ∃ y0 y1 y2 y3 y4 y5, (μ y0 y1 y2 y3 y4 y5) < (μ x0 x1 x2 x3 x4 x5) ∧ (pf y0 y1 y2 y3 y4 y5) ∧ Inv n C (lf y0 y1 y2 y3 y4 y5) (Af y0 y1 y2 y3 y4 y5) a w) Q) (lf x0 x1 x2 x3 x4 x5) (Af x0 x1 x2 x3 x4 x5)) : J P n C (.loop x) Q l A := by
  intro a w h
  refine wp_loop_ghost (fun m a w => ∃ y0 y1 y2 y3 y4 y5, (μ y0 y1 y2 y3 y4 y5) = m ∧ (pf y0 y1 y2 y3 y4 y5) ∧ Inv n C (lf y0 y1 y2 y3 y4 y5) (Af y0 y1 y2 y3 y4 y5) a w) (μ x0 x1 x2 x3 x4 x5) ⟨x0, x1, x2, x3, x4, x5, rfl, hp, h.size, h.defers, fun t v ht => h.holds t v (hl.get t v ht), let ⟨R, F, s, o, st⟩ := h.mem; ⟨R, F, s, o, takes_sub hA _ _ _ st⟩⟩ ?_
  rintro m a w ⟨z0, z1, z2, z3, z4, z5, rfl, hp, hi⟩
  refine wp_mono (round z0 z1 z2 z3 z4 z5 hp a w hi) fun e a' w' hq => ?_
  cases e with
  | normal => obtain ⟨y0, y1, y2, y3, y4, y5, h1, h2, h3⟩ := hq; exact ⟨_, h1, y0, y1, y2, y3, y4, y5, rfl, h2, h3⟩
  | exit id => exact hq
  | goto g => exact hq
  | ret => exact hq
  | panic ch => exact hq
  | outgrown => exact hq
theorem JN.round6 {α0 α1 α2 α3 α4 α5 : Type} {lf : α0 → α1 → α2 → α3 → α4 → α5 → Env} {Af : α0 → α1 → α2 → α3 → α4 → α5 → List HP} {pf : α0 → α1 → α2 → α3 → α4 → α5 → Prop} {μ : α0 → α1 → α2 → α3 → α4 → α5 → Nat} {z0 : α0} {z1 : α1} {z2 : α2} {z3 : α3} {z4 : α4} {z5 : α5} (x0 : α0) (x1 : α1) (x2 : α2) (x3 : α3) (x4 : α4) (x5 : α5) (hμ : (μ x0 x1 x2 x3 x4 x5) < (μ z0 z1 z2 z3 z4 z5)) (hp : (pf x0 x1 x2 x3 x4 x5)) (hl : Sub (lf x0 x1 x2 x3 x4 x5) l) (is : List Nat) (hA : takes is A = some ((Af x0 x1 x2 x3 x4 x5), r0)) :
    JN n C (fun a w => ∃ y0 y1 y2 y3 y4 y5, (μ y0 y1 y2 y3 y4 y5) < (μ z0 z1 z2 z3 z4 z5) ∧ (pf y0 y1 y2 y3 y4 y5) ∧ Inv n C (lf y0 y1 y2 y3 y4 y5) (Af y0 y1 y2 y3 y4 y5) a w) l A :=
  fun _ _ h => ⟨x0, x1, x2, x3, x4, x5, hμ, hp, h.size, h.defers, fun t v ht => h.holds t v (hl.get t v ht), let ⟨R, F, s, o, st⟩ := h.mem; ⟨R, F, s, o, takes_sub hA _ _ _ st⟩⟩
/-- Ways meet, 7 letters. -/
theorem J.meet7 {α0 α1 α2 α3 α4 α5 α6 : Type} (lf : α0 → α1 → α2 → α3 → α4 → α5 → α6 → Env) (Af : α0 → α1 → α2 → α3 → α4 → α5 → α6 → List HP) (pf : α0 → α1 → α2 → α3 → α4 → α5 → α6 → Prop) (hx : J P n C x (Exit.then (fun a w => ∃ x0 x1 x2 x3 x4 x5 x6, (pf x0 x1 x2 x3 x4 x5 x6) ∧ Inv n C (lf x0 x1 x2 x3 x4 x5 x6) (Af x0 x1 x2 x3 x4 x5 x6) a w) Q) l A) (hy : ∀ x0 x1 x2 x3 x4 x5 x6, (pf x0 x1 x2 x3 x4 x5 x6) → J P n C y Q (lf x0 x1 x2 x3 x4 x5 x6) (Af x0 x1 x2 x3 x4 x5 x6)) : J P n C (.seq x y) Q l A :=
  fun a w i => wp_seq (wp_mono (hx a w i) fun e a' w' hq => by
    cases e with
    | normal => obtain ⟨x0, x1, x2, x3, x4, x5, x6, hp, hj⟩ := hq; exact hy x0 x1 x2 x3 x4 x5 x6 hp a' w' hj
    | exit id => exact hq
    | goto g => exact hq
    | ret => exact hq
    | panic ch => exact hq
    | outgrown => exact hq)
theorem JN.met7 {α0 α1 α2 α3 α4 α5 α6 : Type} {lf : α0 → α1 → α2 → α3 → α4 → α5 → α6 → Env} {Af : α0 → α1 → α2 → α3 → α4 → α5 → α6 → List HP} {pf : α0 → α1 → α2 → α3 → α4 → α5 → α6 → Prop} (x0 : α0) (x1 : α1) (x2 : α2) (x3 : α3) (x4 : α4) (x5 : α5) (x6 : α6) (hp : (pf x0 x1 x2 x3 x4 x5 x6)) (hl : Sub (lf x0 x1 x2 x3 x4 x5 x6) l) (is : List Nat) (hA : takes is A = some ((Af x0 x1 x2 x3 x4 x5 x6), r0)) : JN n C (fun a w => ∃ y0 y1 y2 y3 y4 y5 y6, (pf y0 y1 y2 y3 y4 y5 y6) ∧ Inv n C (lf y0 y1 y2 y3 y4 y5 y6) (Af y0 y1 y2 y3 y4 y5 y6) a w) l A :=
  fun _ _ h => ⟨x0, x1, x2, x3, x4, x5, x6, hp, h.size, h.defers, fun t v ht => h.holds t v (hl.get t v ht), let ⟨R, F, s, o, st⟩ := h.mem; ⟨R, F, s, o, takes_sub hA _ _ _ st⟩⟩
/-- A loop, 7 letters. -/
theorem J.loop7 {α0 α1 α2 α3 α4 α5 α6 : Type} (lf : α0 → α1 → α2 → α3 → α4 → α5 → α6 → Env) (Af : α0 → α1 → α2 → α3 → α4 → α5 → α6 → List HP) (pf : α0 → α1 → α2 → α3 → α4 → α5 → α6 → Prop) (μ : α0 → α1 → α2 → α3 → α4 → α5 → α6 → Nat) (x0 : α0) (x1 : α1) (x2 : α2) (x3 : α3) (x4 : α4) (x5 : α5) (x6 : α6) (hp : (pf x0 x1 x2 x3 x4 x5 x6)) (hl : Sub (lf x0 x1 x2 x3 x4 x5 x6) l) (is : List Nat) (hA : takes is A = some ((Af x0 x1 x2 x3 x4 x5 x6), r0))
    (round : ∀ x0 x1 x2 x3 x4 x5 x6, (pf x0 x1 x2 x3 x4 x5 x6) → J P n C x (Exit.then (fun a w => ∃ y0 y1 y2 y3 y4 y5 y6, (μ y0 y1 y2 y3 y4 y5 y6) < (μ x0 x1 x2 x3 x4 x5 x6) ∧ (pf y0 y1 y2 y3 y4 y5 y6) ∧ Inv n C (lf y0 y1 y2 y3 y4 y5 y6) (Af y0 y1 y2 y3 y4 y5 y6) a w) Q) (lf x0 x1 x2 x3 x4 x5 x6) (Af x0 x1 x2 x3 x4 x5 x6)) : J P n C (.loop x) Q l A := by
  intro a w h
  refine wp_loop_ghost (fun m a w => ∃ y0 y1 y2 y3 y4 y5 y6, (μ y0 y1 y2 y3 y4 y5 y6) = m ∧ (pf y0 y1 y2 y3 y4 y5 y6) ∧ Inv n C (lf y0 y1 y2 y3 y4 y5 y6) (Af y0 y1 y2 y3 y4 y5 y6) a w) (μ x0 x1 x2 x3 x4 x5 x6) ⟨x0, x1, x2, x3, x4, x5, x6, rfl, hp, h.size, h.defers, fun t v ht => h.holds t v (hl.get t v ht), let ⟨R, F, s, o, st⟩ := h.mem; ⟨R, F, s, o, takes_sub hA _ _ _ st⟩⟩ ?_
  rintro m a w ⟨z0, z1, z2, z3, z4, z5, z6, rfl, hp, hi⟩
  refine wp_mono (round z0 z1 z2 z3 z4 z5 z6 hp a w hi) fun e a' w' hq => ?_
  cases e with
  | normal => obtain ⟨y0, y1, y2, y3, y4, y5, y6, h1, h2, h3⟩ := hq; exact ⟨_, h1, y0, y1, y2, y3, y4, y5, y6, rfl, h2, h3⟩
  | exit id => exact hq
  | goto g => exact hq
  | ret => exact hq
  | panic ch => exact hq
  | outgrown => exact hq
theorem JN.round7 {α0 α1 α2 α3 α4 α5 α6 : Type} {lf : α0 → α1 → α2 → α3 → α4 → α5 → α6 → Env} {Af : α0 → α1 → α2 → α3 → α4 → α5 → α6 → List HP} {pf : α0 → α1 → α2 → α3 → α4 → α5 → α6 → Prop} {μ : α0 → α1 → α2 → α3 → α4 → α5 → α6 → Nat} {z0 : α0} {z1 : α1} {z2 : α2} {z3 : α3} {z4 : α4} {z5 : α5} {z6 : α6} (x0 : α0) (x1 : α1) (x2 : α2) (x3 : α3) (x4 : α4) (x5 : α5) (x6 : α6) (hμ : (μ x0 x1 x2 x3 x4 x5 x6) < (μ z0 z1 z2 z3 z4 z5 z6)) (hp : (pf x0 x1 x2 x3 x4 x5 x6)) (hl : Sub (lf x0 x1 x2 x3 x4 x5 x6) l) (is : List Nat) (hA : takes is A = some ((Af x0 x1 x2 x3 x4 x5 x6), r0)) :
    JN n C (fun a w => ∃ y0 y1 y2 y3 y4 y5 y6, (μ y0 y1 y2 y3 y4 y5 y6) < (μ z0 z1 z2 z3 z4 z5 z6) ∧ (pf y0 y1 y2 y3 y4 y5 y6) ∧ Inv n C (lf y0 y1 y2 y3 y4 y5 y6) (Af y0 y1 y2 y3 y4 y5 y6) a w) l A :=
  fun _ _ h => ⟨x0, x1, x2, x3, x4, x5, x6, hμ, hp, h.size, h.defers, fun t v ht => h.holds t v (hl.get t v ht), let ⟨R, F, s, o, st⟩ := h.mem; ⟨R, F, s, o, takes_sub hA _ _ _ st⟩⟩
/-- Ways meet, 8 letters. -/
theorem J.meet8 {α0 α1 α2 α3 α4 α5 α6 α7 : Type} (lf : α0 → α1 → α2 → α3 → α4 → α5 → α6 → α7 → Env) (Af : α0 → α1 → α2 → α3 → α4 → α5 → α6 → α7 → List HP) (pf : α0 → α1 → α2 → α3 → α4 → α5 → α6 → α7 → Prop) (hx : J P n C x (Exit.then (fun a w => ∃ x0 x1 x2 x3 x4 x5 x6 x7, (pf x0 x1 x2 x3 x4 x5 x6 x7) ∧ Inv n C (lf x0 x1 x2 x3 x4 x5 x6 x7) (Af x0 x1 x2 x3 x4 x5 x6 x7) a w) Q) l A) (hy : ∀ x0 x1 x2 x3 x4 x5 x6 x7, (pf x0 x1 x2 x3 x4 x5 x6 x7) → J P n C y Q (lf x0 x1 x2 x3 x4 x5 x6 x7) (Af x0 x1 x2 x3 x4 x5 x6 x7)) : J P n C (.seq x y) Q l A :=
  fun a w i => wp_seq (wp_mono (hx a w i) fun e a' w' hq => by
    cases e with
    | normal => obtain ⟨x0, x1, x2, x3, x4, x5, x6, x7, hp, hj⟩ := hq; exact hy x0 x1 x2 x3 x4 x5 x6 x7 hp a' w' hj
    | exit id => exact hq
    | goto g => exact hq
    | ret => exact hq
    | panic ch => exact hq
    | outgrown => exact hq)
theorem JN.met8 {α0 α1 α2 α3 α4 α5 α6 α7 : Type} {lf : α0 → α1 → α2 → α3 → α4 → α5 → α6 → α7 → Env} {Af : α0 → α1 → α2 → α3 → α4 → α5 → α6 → α7 → List HP} {pf : α0 → α1 → α2 → α3 → α4 → α5 → α6 → α7 → Prop} (x0 : α0) (x1 : α1) (x2 : α2) (x3 : α3) (x4 : α4) (x5 : α5) (x6 : α6) (x7 : α7) (hp : (pf x0 x1 x2 x3 x4 x5 x6 x7)) (hl : Sub (lf x0 x1 x2 x3 x4 x5 x6 x7) l) (is : List Nat) (hA : takes is A = some ((Af x0 x1 x2 x3 x4 x5 x6 x7), r0)) : JN n C (fun a w => ∃ y0 y1 y2 y3 y4 y5 y6 y7, (pf y0 y1 y2 y3 y4 y5 y6 y7) ∧ Inv n C (lf y0 y1 y2 y3 y4 y5 y6 y7) (Af y0 y1 y2 y3 y4 y5 y6 y7) a w) l A :=
  fun _ _ h => ⟨x0, x1, x2, x3, x4, x5, x6, x7, hp, h.size, h.defers, fun t v ht => h.holds t v (hl.get t v ht), let ⟨R, F, s, o, st⟩ := h.mem; ⟨R, F, s, o, takes_sub hA _ _ _ st⟩⟩
/-- A loop, 8 letters. -/
theorem J.loop8 {α0 α1 α2 α3 α4 α5 α6 α7 : Type} (lf : α0 → α1 → α2 → α3 → α4 → α5 → α6 → α7 → Env) (Af : α0 → α1 → α2 → α3 → α4 → α5 → α6 → α7 → List HP) (pf : α0 → α1 → α2 → α3 → α4 → α5 → α6 → α7 → Prop) (μ : α0 → α1 → α2 → α3 → α4 → α5 → α6 → α7 → Nat) (x0 : α0) (x1 : α1) (x2 : α2) (x3 : α3) (x4 : α4) (x5 : α5) (x6 : α6) (x7 : α7) (hp : (pf x0 x1 x2 x3 x4 x5 x6 x7)) (hl : Sub (lf x0 x1 x2 x3 x4 x5 x6 x7) l) (is : List Nat) (hA : takes is A = some ((Af x0 x1 x2 x3 x4 x5 x6 x7), r0))
    (round : ∀ x0 x1 x2 x3 x4 x5 x6 x7, (pf x0 x1 x2 x3 x4 x5 x6 x7) → J P n C x (Exit.then (fun a w => ∃ y0 y1 y2 y3 y4 y5 y6 y7, (μ y0 y1 y2 y3 y4 y5 y6 y7) < (μ x0 x1 x2 x3 x4 x5 x6 x7) ∧ (pf y0 y1 y2 y3 y4 y5 y6 y7) ∧ Inv n C (lf y0 y1 y2 y3 y4 y5 y6 y7) (Af y0 y1 y2 y3 y4 y5 y6 y7) a w) Q) (lf x0 x1 x2 x3 x4 x5 x6 x7) (Af x0 x1 x2 x3 x4 x5 x6 x7)) : J P n C (.loop x) Q l A := by
  intro a w h
  refine wp_loop_ghost (fun m a w => ∃ y0 y1 y2 y3 y4 y5 y6 y7, (μ y0 y1 y2 y3 y4 y5 y6 y7) = m ∧ (pf y0 y1 y2 y3 y4 y5 y6 y7) ∧ Inv n C (lf y0 y1 y2 y3 y4 y5 y6 y7) (Af y0 y1 y2 y3 y4 y5 y6 y7) a w) (μ x0 x1 x2 x3 x4 x5 x6 x7) ⟨x0, x1, x2, x3, x4, x5, x6, x7, rfl, hp, h.size, h.defers, fun t v ht => h.holds t v (hl.get t v ht), let ⟨R, F, s, o, st⟩ := h.mem; ⟨R, F, s, o, takes_sub hA _ _ _ st⟩⟩ ?_
  rintro m a w ⟨z0, z1, z2, z3, z4, z5, z6, z7, rfl, hp, hi⟩
  refine wp_mono (round z0 z1 z2 z3 z4 z5 z6 z7 hp a w hi) fun e a' w' hq => ?_
  cases e with
  | normal => obtain ⟨y0, y1, y2, y3, y4, y5, y6, y7, h1, h2, h3⟩ := hq; exact ⟨_, h1, y0, y1, y2, y3, y4, y5, y6, y7, rfl, h2, h3⟩
  | exit id => exact hq
  | goto g => exact hq
  | ret => exact hq
  | panic ch => exact hq
  | outgrown => exact hq
theorem JN.round8 {α0 α1 α2 α3 α4 α5 α6 α7 : Type} {lf : α0 → α1 → α2 → α3 → α4 → α5 → α6 → α7 → Env} {Af : α0 → α1 → α2 → α3 → α4 → α5 → α6 → α7 → List HP} {pf : α0 → α1 → α2 → α3 → α4 → α5 → α6 → α7 → Prop} {μ : α0 → α1 → α2 → α3 → α4 → α5 → α6 → α7 → Nat} {z0 : α0} {z1 : α1} {z2 : α2} {z3 : α3} {z4 : α4} {z5 : α5} {z6 : α6} {z7 : α7} (x0 : α0) (x1 : α1) (x2 : α2) (x3 : α3) (x4 : α4) (x5 : α5) (x6 : α6) (x7 : α7) (hμ : (μ x0 x1 x2 x3 x4 x5 x6 x7) < (μ z0 z1 z2 z3 z4 z5 z6 z7)) (hp : (pf x0 x1 x2 x3 x4 x5 x6 x7)) (hl : Sub (lf x0 x1 x2 x3 x4 x5 x6 x7) l) (is : List Nat) (hA : takes is A = some ((Af x0 x1 x2 x3 x4 x5 x6 x7), r0)) :
    JN n C (fun a w => ∃ y0 y1 y2 y3 y4 y5 y6 y7, (μ y0 y1 y2 y3 y4 y5 y6 y7) < (μ z0 z1 z2 z3 z4 z5 z6 z7) ∧ (pf y0 y1 y2 y3 y4 y5 y6 y7) ∧ Inv n C (lf y0 y1 y2 y3 y4 y5 y6 y7) (Af y0 y1 y2 y3 y4 y5 y6 y7) a w) l A :=
  fun _ _ h => ⟨x0, x1, x2, x3, x4, x5, x6, x7, hμ, hp, h.size, h.defers, fun t v ht => h.holds t v (hl.get t v ht), let ⟨R, F, s, o, st⟩ := h.mem; ⟨R, F, s, o, takes_sub hA _ _ _ st⟩⟩
end

/-! ### Tests -/
section
variable {P : Program} {n : Nat} {C : Ctx} {Q : Pst} {l : Env} {A : List HP} {x y : Code} {ops : Array Oper} {r : List Oper} {c : Operand}
theorem J.cond_dec {p : Prop} {i : Decidable p} (hc : ev l c = some (.bool (@decide p i))) (ht : p → J P n C x Q l A) (hf : ¬ p → J P n C y Q l A) : J P n C (.cond c x y) Q l A :=
  J.cond hc (fun h => ht (of_decide_eq_true h)) (fun h => hf (of_decide_eq_false h))
theorem J.cond_eq {a b : Int} (hc : ev l c = some (.bool (a == b))) (ht : a = b → J P n C x Q l A) (hf : a ≠ b → J P n C y Q l A) : J P n C (.cond c x y) Q l A :=
  J.cond hc (fun h => ht (eq_of_beq h)) (fun h => hf (ne_of_beq_false h))
theorem J.cond_ne {a b : Int} (hc : ev l c = some (.bool (a != b))) (ht : a ≠ b → J P n C x Q l A) (hf : a = b → J P n C y Q l A) : J P n C (.cond c x y) Q l A :=
  J.cond hc (fun h => ht (bne_iff_ne.1 h)) (fun h => hf (by simpa using h))
theorem J.cond_not {b : Bool} (hc : ev l c = some (.bool (!b))) (ht : b = false → J P n C x Q l A) (hf : b = true → J P n C y Q l A) : J P n C (.cond c x y) Q l A :=
  J.cond hc (fun h => ht (by simpa using h)) (fun h => hf (by simpa using h))
theorem JL.cases_dec {t : Nat} {p : Prop} {i : Decidable p} (hv : get l t = some (.bool (@decide p i))) (ht : p → JL P n C ops Q r ((t, .bool true) :: l) A) (hf : ¬ p → JL P n C ops Q r ((t, .bool false) :: l) A) : JL P n C ops Q r l A :=
  JL.cases hv (fun h => ht (of_decide_eq_true h)) (fun h => hf (of_decide_eq_false h))
theorem JL.cases_eq {t : Nat} {a b : Int} (hv : get l t = some (.bool (a == b))) (ht : a = b → JL P n C ops Q r ((t, .bool true) :: l) A) (hf : a ≠ b → JL P n C ops Q r ((t, .bool false) :: l) A) : JL P n C ops Q r l A :=
  JL.cases hv (fun h => ht (eq_of_beq h)) (fun h => hf (ne_of_beq_false h))
theorem JL.cases_ne {t : Nat} {a b : Int} (hv : get l t = some (.bool (a != b))) (ht : a ≠ b → JL P n C ops Q r ((t, .bool true) :: l) A) (hf : a = b → JL P n C ops Q r ((t, .bool false) :: l) A) : JL P n C ops Q r l A :=
  JL.cases hv (fun h => ht (bne_iff_ne.1 h)) (fun h => hf (by simpa using h))
theorem JL.cases_not {t : Nat} {b : Bool} (hv : get l t = some (.bool (!b))) (ht : b = false → JL P n C ops Q r ((t, .bool true) :: l) A) (hf : b = true → JL P n C ops Q r ((t, .bool false) :: l) A) : JL P n C ops Q r l A :=
  JL.cases hv (fun h => ht (by simpa using h)) (fun h => hf (by simpa using h))
/-- A guard that shuts out: the slot stays unknown. -/
theorem JL.g_out {op : Op} {ty : TypeId} {pos : String} {af : Array Edge} {j t d : Nat} {b b' : Bool} (hj : (ops[j]?).bind (·.dst) = some t) (ht : get l t = some (.bool b)) (hbb : (b == b') = false) (hn : get l d = none) (h : JL P n C ops Q r l A) : JL P n C ops Q (⟨some d, op, ty, pos, af, some (j, b')⟩ :: r) l A := by
  intro a w i
  have hy : yielded ops a.tmps j = some b := yields hj (i.holds t _ ht)
  unfold wpList
  rw [if_neg (by simp [Region.wanted, hy]; intro e; subst e; simp at hbb)]
  refine h _ _ ⟨by rw [size_put]; exact i.size, by rw [defers_put]; exact i.defers, fun s u hs => ?_, i.mem⟩
  have hne : s ≠ d := fun e => by rw [e, hn] at hs; simp at hs
  have h2 := i.holds s u hs
  simp only [Act.put, Array.getD_eq_getD_getElem?] at h2 ⊢
  rw [Array.getElem?_setIfInBounds_ne (Ne.symm hne)]
  exact h2
theorem JL.g_in {dst : Option Tmp} {op : Op} {ty : TypeId} {pos : String} {af : Array Edge} {j t : Nat} {b : Bool} (hj : (ops[j]?).bind (·.dst) = some t) (ht : get l t = some (.bool b)) (h : JL P n C ops Q (⟨dst, op, ty, pos, af, none⟩ :: r) l A) : JL P n C ops Q (⟨dst, op, ty, pos, af, some (j, b)⟩ :: r) l A :=
  JL.g_yes hj ht rfl h
end

/-! ### What is handed back -/
def Back (P : Program) (fn : Func) (C : Ctx) (q : Value → List HP → Prop) : Act → World → Prop := bodyPost P fn (fun e w' => ∃ v L', q v L' ∧ e = .returned v ∧ Turns C.w C.R C.F w' L') .ret
theorem JN.back {P : Program} {n : Nat} {C : Ctx} {fn : Func} {q : Value → List HP → Prop} {l : Env} {A A' L' : List HP} {v : Value} (hr : ∀ a w, Holds a l → (results fn a.tmps).run P w = .ok v w)
    (is : List Nat) (ht : takes is A = some (L', A')) (hq : q v L') : JN n C (bodyPost P fn (fun e w' => ∃ v L', q v L' ∧ e = .returned v ∧ Turns C.w C.R C.F w' L') .ret) l A := by
  intro a w i
  refine ⟨i.defers, v, hr a w i.holds, v, L', hq, rfl, ?_⟩
  obtain ⟨R, F, s, o, st⟩ := i.mem
  obtain ⟨F1, F2, h1, h2, hd, s1, _⟩ := Star.split (takes_star ht st)
  exact ⟨R, F, s, o, Star.monoF h1 s1⟩
theorem res0 {P : Program} {fn : Func} {l : Env} (hr : fn.results = #[]) : ∀ (a : Act) (w : World), Holds a l → (results fn a.tmps).run P w = .ok (.tuple #[]) w := fun a w _ => by simp [results, hr, Sem.run, pure]
theorem res1 {P : Program} {fn : Func} {l : Env} {t : Nat} {v : Value} (hr : fn.results = #[.tmp t]) (h : get l t = some v) : ∀ (a : Act) (w : World), Holds a l → (results fn a.tmps).run P w = .ok v w := fun a w i => by
  have := i t v h
  simp [results, hr, Sem.run, pure]
  simpa using this
theorem res2 {P : Program} {fn : Func} {l : Env} {t u : Nat} {v z : Value} (hr : fn.results = #[.tmp t, .tmp u]) (h : get l t = some v) (h2 : get l u = some z) : ∀ (a : Act) (w : World), Holds a l → (results fn a.tmps).run P w = .ok (.tuple #[v, z]) w := fun a w i => by
  have e1 := i t v h
  have e2 := i u z h2
  simp [results, hr, Sem.run, pure]
  exact ⟨by simpa using e1, by simpa using e2⟩
theorem res3 {P : Program} {fn : Func} {l : Env} {t u s : Nat} {v z y : Value} (hr : fn.results = #[.tmp t, .tmp u, .tmp s]) (h : get l t = some v) (h2 : get l u = some z) (h3 : get l s = some y) : ∀ (a : Act) (w : World), Holds a l → (results fn a.tmps).run P w = .ok (.tuple #[v, z, y]) w := fun a w i => by
  have e1 := i t v h
  have e2 := i u z h2
  have e3 := i s y h3
  simp [results, hr, Sem.run, pure]
  exact ⟨by simpa using e1, by simpa using e2, by simpa using e3⟩

end Go.Proofs.YthjbkngecgbioaaGreatDoor.Sl

/- The logic of blocks: atoms laid open, literals of slices, more operators. -/
namespace Go.Proofs.YthjbkngecgbioaaGreatDoor.Sl
open Go
section
variable {P : Program} {n : Nat} {C : Ctx} {Q : Pst} {l : Env} {A A' : List HP} {x : Code} {ops : Array Oper} {r : List Oper}
theorem J.unf0 (i : Nat) {p : HP} {A' : List HP} (ht : take1 i A = some (p, A')) {pf : Prop} {Lf : List HP} (hu : ∀ w R F, p.h w R F → pf ∧ Star Lf w R F) (h : pf → J P n C x Q l (Lf ++ A')) : J P n C x Q l A := by
  intro a w v
  obtain ⟨R, F, s, o, st⟩ := v.mem
  obtain ⟨F1, F2, h1, h2, hd, hp, s2⟩ := take1_star ht st
  obtain ⟨hz, sz⟩ := hu _ _ _ hp
  exact h  hz a w ⟨v.size, v.defers, v.holds, R, F, s, o, Star.monoF (fun b hb => hb.elim (h1 b) (h2 b)) (Star.append hd sz s2)⟩
theorem JL.unf0 (i : Nat) {p : HP} {A' : List HP} (ht : take1 i A = some (p, A')) {pf : Prop} {Lf : List HP} (hu : ∀ w R F, p.h w R F → pf ∧ Star Lf w R F) (h : pf → JL P n C ops Q r l (Lf ++ A')) : JL P n C ops Q r l A := by
  intro a w v
  obtain ⟨R, F, s, o, st⟩ := v.mem
  obtain ⟨F1, F2, h1, h2, hd, hp, s2⟩ := take1_star ht st
  obtain ⟨hz, sz⟩ := hu _ _ _ hp
  exact h  hz a w ⟨v.size, v.defers, v.holds, R, F, s, o, Star.monoF (fun b hb => hb.elim (h1 b) (h2 b)) (Star.append hd sz s2)⟩
theorem J.unf1 {α0 : Type} (i : Nat) {p : HP} {A' : List HP} (ht : take1 i A = some (p, A')) {pf : α0 → Prop} {Lf : α0 → List HP} (hu : ∀ w R F, p.h w R F → ∃ x0, (pf x0) ∧ Star (Lf x0) w R F) (h : ∀ x0, (pf x0) → J P n C x Q l ((Lf x0) ++ A')) : J P n C x Q l A := by
  intro a w v
  obtain ⟨R, F, s, o, st⟩ := v.mem
  obtain ⟨F1, F2, h1, h2, hd, hp, s2⟩ := take1_star ht st
  obtain ⟨x0, hz, sz⟩ := hu _ _ _ hp
  exact h x0 hz a w ⟨v.size, v.defers, v.holds, R, F, s, o, Star.monoF (fun b hb => hb.elim (h1 b) (h2 b)) (Star.append hd sz s2)⟩
theorem JL.unf1 {α0 : Type} (i : Nat) {p : HP} {A' : List HP} (ht : take1 i A = some (p, A')) {pf : α0 → Prop} {Lf : α0 → List HP} (hu : ∀ w R F, p.h w R F → ∃ x0, (pf x0) ∧ Star (Lf x0) w R F) (h : ∀ x0, (pf x0) → JL P n C ops Q r l ((Lf x0) ++ A')) : JL P n C ops Q r l A := by
  intro a w v
  obtain ⟨R, F, s, o, st⟩ := v.mem
  obtain ⟨F1, F2, h1, h2, hd, hp, s2⟩ := take1_star ht st
  obtain ⟨x0, hz, sz⟩ := hu _ _ _ hp
  exact h x0 hz a w ⟨v.size, v.defers, v.holds, R, F, s, o, Star.monoF (fun b hb => hb.elim (h1 b) (h2 b)) (Star.append hd sz s2)⟩
theorem J.unf2 {α0 α1 : Type} (i : Nat) {p : HP} {A' : List HP} (ht : take1 i A = some (p, A')) {pf : α0 → α1 → Prop} {Lf : α0 → α1 → List HP} (hu : ∀ w R F, p.h w R F → ∃ x0 x1, (pf x0 x1) ∧ Star (Lf x0 x1) w R F) (h : ∀ x0 x1, (pf x0 x1) → J P n C x Q l ((Lf x0 x1) ++ A')) : J P n C x Q l A := by
  intro a w v
  obtain ⟨R, F, s, o, st⟩ := v.mem
  obtain ⟨F1, F2, h1, h2, hd, hp, s2⟩ := take1_star ht st
  obtain ⟨x0, x1, hz, sz⟩ := hu _ _ _ hp
  exact h x0 x1 hz a w ⟨v.size, v.defers, v.holds, R, F, s, o, Star.monoF (fun b hb => hb.elim (h1 b) (h2 b)) (Star.append hd sz s2)⟩
theorem JL.unf2 {α0 α1 : Type} (i : Nat) {p : HP} {A' : List HP} (ht : take1 i A = some (p, A')) {pf : α0 → α1 → Prop} {Lf : α0 → α1 → List HP} (hu : ∀ w R F, p.h w R F → ∃ x0 x1, (pf x0 x1) ∧ Star (Lf x0 x1) w R F) (h : ∀ x0 x1, (pf x0 x1) → JL P n C ops Q r l ((Lf x0 x1) ++ A')) : JL P n C ops Q r l A := by
  intro a w v
  obtain ⟨R, F, s, o, st⟩ := v.mem
  obtain ⟨F1, F2, h1, h2, hd, hp, s2⟩ := take1_star ht st
  obtain ⟨x0, x1, hz, sz⟩ := hu _ _ _ hp
  exact h x0 x1 hz a w ⟨v.size, v.defers, v.holds, R, F, s, o, Star.monoF (fun b hb => hb.elim (h1 b) (h2 b)) (Star.append hd sz s2)⟩
theorem J.unf3 {α0 α1 α2 : Type} (i : Nat) {p : HP} {A' : List HP} (ht : take1 i A = some (p, A')) {pf : α0 → α1 → α2 → Prop} {Lf : α0 → α1 → α2 → List HP} (hu : ∀ w R F, p.h w R F → ∃ x0 x1 x2, (pf x0 x1 x2) ∧ Star (Lf x0 x1 x2) w R F) (h : ∀ x0 x1 x2, (pf x0 x1 x2) → J P n C x Q l ((Lf x0 x1 x2) ++ A')) : J P n C x Q l A := by
  intro a w v
  obtain ⟨R, F, s, o, st⟩ := v.mem
  obtain ⟨F1, F2, h1, h2, hd, hp, s2⟩ := take1_star ht st
  obtain ⟨x0, x1, x2, hz, sz⟩ := hu _ _ _ hp
  exact h x0 x1 x2 hz a w ⟨v.size, v.defers, v.holds, R, F, s, o, Star.monoF (fun b hb => hb.elim (h1 b) (h2 b)) (Star.append hd sz s2)⟩
theorem JL.unf3 {α0 α1 α2 : Type} (i : Nat) {p : HP} {A' : List HP} (ht : take1 i A = some (p, A')) {pf : α0 → α1 → α2 → Prop} {Lf : α0 → α1 → α2 → List HP} (hu : ∀ w R F, p.h w R F → ∃ x0 x1 x2, (pf x0 x1 x2) ∧ Star (Lf x0 x1 x2) w R F) (h : ∀ x0 x1 x2, (pf x0 x1 x2) → JL P n C ops Q r l ((Lf x0 x1 x2) ++ A')) : JL P n C ops Q r l A := by
  intro a w v
  obtain ⟨R, F, s, o, st⟩ := v.mem
  obtain ⟨F1, F2, h1, h2, hd, hp, s2⟩ := take1_star ht st
  obtain ⟨x0, x1, x2, hz, sz⟩ := hu _ _ _ hp
  exact h x0 x1 x2 hz a w ⟨v.size, v.defers, v.holds, R, F, s, o, Star.monoF (fun b hb => hb.elim (h1 b) (h2 b)) (Star.append hd sz s2)⟩
theorem J.unf4 {α0 α1 α2 α3 : Type} (i : Nat) {p : HP} {A' : List HP} (ht : take1 i A = some (p, A')) {pf : α0 → α1 → α2 → α3 → Prop} {Lf : α0 → α1 → α2 → α3 → List HP} (hu : ∀ w R F, p.h w R F → ∃ x0 x1 x2 x3, (pf x0 x1 x2 x3) ∧ Star (Lf x0 x1 x2 x3) w R F) (h : ∀ x0 x1 x2 x3, (pf x0 x1 x2 x3) → J P n C x Q l ((Lf x0 x1 x2 x3) ++ A')) : J P n C x Q l A := by
  intro a w v
  obtain ⟨R, F, s, o, st⟩ := v.mem
  obtain ⟨F1, F2, h1, h2, hd, hp, s2⟩ := take1_star ht st
  obtain ⟨x0, x1, x2, x3, hz, sz⟩ := hu _ _ _ hp
  exact h x0 x1 x2 x3 hz a w ⟨v.size, v.defers, v.holds, R, F, s, o, Star.monoF (fun b hb => hb.elim (h1 b) (h2 b)) (Star.append hd sz s2)⟩
theorem JL.unf4 {α0 α1 α2 α3 : Type} (i : Nat) {p : HP} {A' : List HP} (ht : take1 i A = some (p, A')) {pf : α0 → α1 → α2 → α3 → Prop} {Lf : α0 → α1 → α2 → α3 → List HP} (hu : ∀ w R F, p.h w R F → ∃ x0 x1 x2 x3, (pf x0 x1 x2 x3) ∧ Star (Lf x0 x1 x2 x3) w R F) (h : ∀ x0 x1 x2 x3, (pf x0 x1 x2 x3) → JL P n C ops Q r l ((Lf x0 x1 x2 x3) ++ A')) : JL P n C ops Q r l A := by
  intro a w v
  obtain ⟨R, F, s, o, st⟩ := v.mem
  obtain ⟨F1, F2, h1, h2, hd, hp, s2⟩ := take1_star ht st
  obtain ⟨x0, x1, x2, x3, hz, sz⟩ := hu _ _ _ hp
  exact h x0 x1 x2 x3 hz a w ⟨v.size, v.defers, v.holds, R, F, s, o, Star.monoF (fun b hb => hb.elim (h1 b) (h2 b)) (Star.append hd sz s2)⟩
theorem J.unf5 {α0 α1 α2 α3 α4 : Type} (i : Nat) {p : HP} {A' : List HP} (ht : take1 i A = some (p, A')) {pf : α0 → α1 → α2 → α3 → α4 → Prop} {Lf : α0 → α1 → α2 → α3 → α4 → List HP} (hu : ∀ w R F, p.h w R F → ∃ x0 x1 x2 x3 x4, (pf x0 x1 x2 x3 x4) ∧ Star (Lf x0 x1 x2 x3 x4) w R F) (h : ∀ x0 x1 x2 x3 x4, (pf x0 x1 x2 x3 x4) → J P n C x Q l ((Lf x0 x1 x2 x3 x4) ++ A')) : J P n C x Q l A := by
  intro a w v
  obtain ⟨R, F, s, o, st⟩ := v.mem
  obtain ⟨F1, F2, h1, h2, hd, hp, s2⟩ := take1_star ht st
  obtain ⟨x0, x1, x2, x3, x4, hz, sz⟩ := hu _ _ _ hp
  exact h x0 x1 x2 x3 x4 hz a w ⟨v.size, v.defers, v.holds, R, F, s, o, Star.monoF (fun b hb => hb.elim (h1 b) (h2 b)) (Star.append hd sz s2)⟩
theorem JL.unf5 {α0 α1 α2 α3 α4 : Type} (i : Nat) {p : HP} {A' : List HP} (ht : take1 i A = some (p, A')) {pf : α0 → α1 → α2 → α3 → α4 → Prop} {Lf : α0 → α1 → α2 → α3 → α4 → List HP} (hu : ∀ w R F, p.h w R F → ∃ x0 x1 x2 x3 x4, (pf x0 x1 x2 x3 x4) ∧ Star (Lf x0 x1 x2 x3 x4) w R F) (h : ∀ x0 x1 x2 x3 x4, (pf x0 x1 x2 x3 x4) → JL P n C ops Q r l ((Lf x0 x1 x2 x3 x4) ++ A')) : JL P n C ops Q r l A := by
  intro a w v
  obtain ⟨R, F, s, o, st⟩ := v.mem
  obtain ⟨F1, F2, h1, h2, hd, hp, s2⟩ := take1_star ht st
  obtain ⟨x0, x1, x2, x3, x4, hz, sz⟩ := hu _ _ _ hp
  exact h x0 x1 x2 x3 x4 hz a w ⟨v.size, v.defers, v.holds, R, F, s, o, Star.monoF (fun b hb => hb.elim (h1 b) (h2 b)) (Star.append hd sz s2)⟩
theorem J.unf6 {α0 α1 α2 α3 α4 α5 : Type} (i : Nat) {p : HP} {A' : List HP} (ht : take1 i A = some (p, A')) {pf : α0 → α1 → α2 → α3 → α4 → α5 → Prop} {Lf : α0 → α1 → α2 → α3 → α4 → α5 → List HP} (hu : ∀ w R F, p.h w R F → ∃ x0 x1 x2 x3 x4 x5, (pf x0 x1 x2 x3 x4 x5) ∧ Star (Lf x0 x1 x2 x3 x4 x5) w R F) (h : ∀ x0 x1 x2 x3 x4 x5, (pf x0 x1 x2 x3 x4 x5) → J P n C x Q l ((Lf x0 x1 x2 x3 x4 x5) ++ A')) : J P n C x Q l A := by
  intro a w v
  obtain ⟨R, F, s, o, st⟩ := v.mem
  obtain ⟨F1, F2, h1, h2, hd, hp, s2⟩ := take1_star ht st
  obtain ⟨x0, x1, x2, x3, x4, x5, hz, sz⟩ := hu _ _ _ hp
  exact h x0 x1 x2 x3 x4 x5 hz a w ⟨v.size, v.defers, v.holds, R, F, s, o, Star.monoF (fun b hb => hb.elim (h1 b) (h2 b)) (Star.append hd sz s2)⟩
theorem JL.unf6 {α0 α1 α2 α3 α4 α5 : Type} (i : Nat) {p : HP} {A' : List HP} (ht : take1 i A = some (p, A')) {pf : α0 → α1 → α2 → α3 → α4 → α5 → Prop} {Lf : α0 → α1 → α2 → α3 → α4 → α5 → List HP} (hu : ∀ w R F, p.h w R F → ∃ x0 x1 x2 x3 x4 x5, (pf x0 x1 x2 x3 x4 x5) ∧ Star (Lf x0 x1 x2 x3 x4 x5) w R F) (h : ∀ x0 x1 x2 x3 x4 x5, (pf x0 x1 x2 x3 x4 x5) → JL P n C ops Q r l ((Lf x0 x1 x2 x3 x4 x5) ++ A')) : JL P n C ops Q r l A := by
  intro a w v
  obtain ⟨R, F, s, o, st⟩ := v.mem
  obtain ⟨F1, F2, h1, h2, hd, hp, s2⟩ := take1_star ht st
  obtain ⟨x0, x1, x2, x3, x4, x5, hz, sz⟩ := hu _ _ _ hp
  exact h x0 x1 x2 x3 x4 x5 hz a w ⟨v.size, v.defers, v.holds, R, F, s, o, Star.monoF (fun b hb => hb.elim (h1 b) (h2 b)) (Star.append hd sz s2)⟩
theorem J.unf7 {α0 α1 α2 α3 α4 α5 α6 : Type} (i : Nat) {p : HP} {A' : List HP} (ht : take1 i A = some (p, A')) {pf : α0 → α1 → α2 → α3 → α4 → α5 → α6 → Prop} {Lf : α0 → α1 → α2 → α3 → α4 → α5 → α6 → List HP} (hu : ∀ w R F, p.h w R F → ∃ x0 x1 x2 x3 x4 x5 x6, (pf x0 x1 x2 x3 x4 x5 x6) ∧ Star (Lf x0 x1 x2 x3 x4 x5 x6) w R F) (h : ∀ x0 x1 x2 x3 x4 x5 x6, (pf x0 x1 x2 x3 x4 x5 x6) → J P n C x Q l ((Lf x0 x1 x2 x3 x4 x5 x6) ++ A')) : J P n C x Q l A := by
  intro a w v
  obtain ⟨R, F, s, o, st⟩ := v.mem
  obtain ⟨F1, F2, h1, h2, hd, hp, s2⟩ := take1_star ht st
  obtain ⟨x0, x1, x2, x3, x4, x5, x6, hz, sz⟩ := hu _ _ _ hp
  exact h x0 x1 x2 x3 x4 x5 x6 hz a w ⟨v.size, v.defers, v.holds, R, F, s, o, Star.monoF (fun b hb => hb.elim (h1 b) (h2 b)) (Star.append hd sz s2)⟩
theorem JL.unf7 {α0 α1 α2 α3 α4 α5 α6 : Type} (i : Nat) {p : HP} {A' : List HP} (ht : take1 i A = some (p, A')) {pf : α0 → α1 → α2 → α3 → α4 → α5 → α6 → Prop} {Lf : α0 → α1 → α2 → α3 → α4 → α5 → α6 → List HP} (hu : ∀ w R F, p.h w R F → ∃ x0 x1 x2 x3 x4 x5 x6, (pf x0 x1 x2 x3 x4 x5 x6) ∧ Star (Lf x0 x1 x2 x3 x4 x5 x6) w R F) (h : ∀ x0 x1 x2 x3 x4 x5 x6, (pf x0 x1 x2 x3 x4 x5 x6) → JL P n C ops Q r l ((Lf x0 x1 x2 x3 x4 x5 x6) ++ A')) : JL P n C ops Q r l A := by
  intro a w v
  obtain ⟨R, F, s, o, st⟩ := v.mem
  obtain ⟨F1, F2, h1, h2, hd, hp, s2⟩ := take1_star ht st
  obtain ⟨x0, x1, x2, x3, x4, x5, x6, hz, sz⟩ := hu _ _ _ hp
  exact h x0 x1 x2 x3 x4 x5 x6 hz a w ⟨v.size, v.defers, v.holds, R, F, s, o, Star.monoF (fun b hb => hb.elim (h1 b) (h2 b)) (Star.append hd sz s2)⟩
theorem J.unf8 {α0 α1 α2 α3 α4 α5 α6 α7 : Type} (i : Nat) {p : HP} {A' : List HP} (ht : take1 i A = some (p, A')) {pf : α0 → α1 → α2 → α3 → α4 → α5 → α6 → α7 → Prop} {Lf : α0 → α1 → α2 → α3 → α4 → α5 → α6 → α7 → List HP} (hu : ∀ w R F, p.h w R F → ∃ x0 x1 x2 x3 x4 x5 x6 x7, (pf x0 x1 x2 x3 x4 x5 x6 x7) ∧ Star (Lf x0 x1 x2 x3 x4 x5 x6 x7) w R F) (h : ∀ x0 x1 x2 x3 x4 x5 x6 x7, (pf x0 x1 x2 x3 x4 x5 x6 x7) → J P n C x Q l ((Lf x0 x1 x2 x3 x4 x5 x6 x7) ++ A')) : J P n C x Q l A := by
  intro a w v
  obtain ⟨R, F, s, o, st⟩ := v.mem
  obtain ⟨F1, F2, h1, h2, hd, hp, s2⟩ := take1_star ht st
  obtain ⟨x0, x1, x2, x3, x4, x5, x6, x7, hz, sz⟩ := hu _ _ _ hp
  exact h x0 x1 x2 x3 x4 x5 x6 x7 hz a w ⟨v.size, v.defers, v.holds, R, F, s, o, Star.monoF (fun b hb => hb.elim (h1 b) (h2 b)) (Star.append hd sz s2)⟩
theorem JL.unf8 {α0 α1 α2 α3 α4 α5 α6 α7 : Type} (i : Nat) {p : HP} {A' : List HP} (ht : take1 i A = some (p, A')) {pf : α0 → α1 → α2 → α3 → α4 → α5 → α6 → α7 → Prop} {Lf : α0 → α1 → α2 → α3 → α4 → α5 → α6 → α7 → List HP} (hu : ∀ w R F, p.h w R F → ∃ x0 x1 x2 x3 x4 x5 x6 x7, (pf x0 x1 x2 x3 x4 x5 x6 x7) ∧ Star (Lf x0 x1 x2 x3 x4 x5 x6 x7) w R F) (h : ∀ x0 x1 x2 x3 x4 x5 x6 x7, (pf x0 x1 x2 x3 x4 x5 x6 x7) → JL P n C ops Q r l ((Lf x0 x1 x2 x3 x4 x5 x6 x7) ++ A')) : JL P n C ops Q r l A := by
  intro a w v
  obtain ⟨R, F, s, o, st⟩ := v.mem
  obtain ⟨F1, F2, h1, h2, hd, hp, s2⟩ := take1_star ht st
  obtain ⟨x0, x1, x2, x3, x4, x5, x6, x7, hz, sz⟩ := hu _ _ _ hp
  exact h x0 x1 x2 x3 x4 x5 x6 x7 hz a w ⟨v.size, v.defers, v.holds, R, F, s, o, Star.monoF (fun b hb => hb.elim (h1 b) (h2 b)) (Star.append hd sz s2)⟩
theorem J.unf9 {α0 α1 α2 α3 α4 α5 α6 α7 α8 : Type} (i : Nat) {p : HP} {A' : List HP} (ht : take1 i A = some (p, A')) {pf : α0 → α1 → α2 → α3 → α4 → α5 → α6 → α7 → α8 → Prop} {Lf : α0 → α1 → α2 → α3 → α4 → α5 → α6 → α7 → α8 → List HP} (hu : ∀ w R F, p.h w R F → ∃ x0 x1 x2 x3 x4 x5 x6 x7 x8, (pf x0 x1 x2 x3 x4 x5 x6 x7 x8) ∧ Star (Lf x0 x1 x2 x3 x4 x5 x6 x7 x8) w R F) (h : ∀ x0 x1 x2 x3 x4 x5 x6 x7 x8, (pf x0 x1 x2 x3 x4 x5 x6 x7 x8) → J P n C x Q l ((Lf x0 x1 x2 x3 x4 x5 x6 x7 x8) ++ A')) : J P n C x Q l A := by
  intro a w v
  obtain ⟨R, F, s, o, st⟩ := v.mem
  obtain ⟨F1, F2, h1, h2, hd, hp, s2⟩ := take1_star ht st
  obtain ⟨x0, x1, x2, x3, x4, x5, x6, x7, x8, hz, sz⟩ := hu _ _ _ hp
  exact h x0 x1 x2 x3 x4 x5 x6 x7 x8 hz a w ⟨v.size, v.defers, v.holds, R, F, s, o, Star.monoF (fun b hb => hb.elim (h1 b) (h2 b)) (Star.append hd sz s2)⟩
theorem JL.unf9 {α0 α1 α2 α3 α4 α5 α6 α7 α8 : Type} (i : Nat) {p : HP} {A' : List HP} (ht : take1 i A = some (p, A')) {pf : α0 → α1 → α2 → α3 → α4 → α5 → α6 → α7 → α8 → Prop} {Lf : α0 → α1 → α2 → α3 → α4 → α5 → α6 → α7 → α8 → List HP} (hu : ∀ w R F, p.h w R F → ∃ x0 x1 x2 x3 x4 x5 x6 x7 x8, (pf x0 x1 x2 x3 x4 x5 x6 x7 x8) ∧ Star (Lf x0 x1 x2 x3 x4 x5 x6 x7 x8) w R F) (h : ∀ x0 x1 x2 x3 x4 x5 x6 x7 x8, (pf x0 x1 x2 x3 x4 x5 x6 x7 x8) → JL P n C ops Q r l ((Lf x0 x1 x2 x3 x4 x5 x6 x7 x8) ++ A')) : JL P n C ops Q r l A := by
  intro a w v
  obtain ⟨R, F, s, o, st⟩ := v.mem
  obtain ⟨F1, F2, h1, h2, hd, hp, s2⟩ := take1_star ht st
  obtain ⟨x0, x1, x2, x3, x4, x5, x6, x7, x8, hz, sz⟩ := hu _ _ _ hp
  exact h x0 x1 x2 x3 x4 x5 x6 x7 x8 hz a w ⟨v.size, v.defers, v.holds, R, F, s, o, Star.monoF (fun b hb => hb.elim (h1 b) (h2 b)) (Star.append hd sz s2)⟩
theorem J.unf10 {α0 α1 α2 α3 α4 α5 α6 α7 α8 α9 : Type} (i : Nat) {p : HP} {A' : List HP} (ht : take1 i A = some (p, A')) {pf : α0 → α1 → α2 → α3 → α4 → α5 → α6 → α7 → α8 → α9 → Prop} {Lf : α0 → α1 → α2 → α3 → α4 → α5 → α6 → α7 → α8 → α9 → List HP} (hu : ∀ w R F, p.h w R F → ∃ x0 x1 x2 x3 x4 x5 x6 x7 x8 x9, (pf x0 x1 x2 x3 x4 x5 x6 x7 x8 x9) ∧ Star (Lf x0 x1 x2 x3 x4 x5 x6 x7 x8 x9) w R F) (h : ∀ x0 x1 x2 x3 x4 x5 x6 x7 x8 x9, (pf x0 x1 x2 x3 x4 x5 x6 x7 x8 x9) → J P n C x Q l ((Lf x0 x1 x2 x3 x4 x5 x6 x7 x8 x9) ++ A')) : J P n C x Q l A := by
  intro a w v
  obtain ⟨R, F, s, o, st⟩ := v.mem
  obtain ⟨F1, F2, h1, h2, hd, hp, s2⟩ := take1_star ht st
  obtain ⟨x0, x1, x2, x3, x4, x5, x6, x7, x8, x9, hz, sz⟩ := hu _ _ _ hp
  exact h x0 x1 x2 x3 x4 x5 x6 x7 x8 x9 hz a w ⟨v.size, v.defers, v.holds, R, F, s, o, Star.monoF (fun b hb => hb.elim (h1 b) (h2 b)) (Star.append hd sz s2)⟩
theorem JL.unf10 {α0 α1 α2 α3 α4 α5 α6 α7 α8 α9 : Type} (i : Nat) {p : HP} {A' : List HP} (ht : take1 i A = some (p, A')) {pf : α0 → α1 → α2 → α3 → α4 → α5 → α6 → α7 → α8 → α9 → Prop} {Lf : α0 → α1 → α2 → α3 → α4 → α5 → α6 → α7 → α8 → α9 → List HP} (hu : ∀ w R F, p.h w R F → ∃ x0 x1 x2 x3 x4 x5 x6 x7 x8 x9, (pf x0 x1 x2 x3 x4 x5 x6 x7 x8 x9) ∧ Star (Lf x0 x1 x2 x3 x4 x5 x6 x7 x8 x9) w R F) (h : ∀ x0 x1 x2 x3 x4 x5 x6 x7 x8 x9, (pf x0 x1 x2 x3 x4 x5 x6 x7 x8 x9) → JL P n C ops Q r l ((Lf x0 x1 x2 x3 x4 x5 x6 x7 x8 x9) ++ A')) : JL P n C ops Q r l A := by
  intro a w v
  obtain ⟨R, F, s, o, st⟩ := v.mem
  obtain ⟨F1, F2, h1, h2, hd, hp, s2⟩ := take1_star ht st
  obtain ⟨x0, x1, x2, x3, x4, x5, x6, x7, x8, x9, hz, sz⟩ := hu _ _ _ hp
  exact h x0 x1 x2 x3 x4 x5 x6 x7 x8 x9 hz a w ⟨v.size, v.defers, v.holds, R, F, s, o, Star.monoF (fun b hb => hb.elim (h1 b) (h2 b)) (Star.append hd sz s2)⟩
theorem J.unf11 {α0 α1 α2 α3 α4 α5 α6 α7 α8 α9 α10 : Type} (i : Nat) {p : HP} {A' : List HP} (ht : take1 i A = some (p, A')) {pf : α0 → α1 → α2 → α3 → α4 → α5 → α6 → α7 → α8 → α9 → α10 → Prop} {Lf : α0 → α1 → α2 → α3 → α4 → α5 → α6 → α7 → α8 → α9 → α10 → List HP} (hu : ∀ w R F, p.h w R F → ∃ x0 x1 x2 x3 x4 x5 x6 x7 x8 x9 x10, (pf x0 x1 x2 x3 x4 x5 x6 x7 x8 x9 x10) ∧ Star (Lf x0 x1 x2 x3 x4 x5 x6 x7 x8 x9 x10) w R F) (h : ∀ x0 x1 x2 x3 x4 x5 x6 x7 x8 x9 x10, (pf x0 x1 x2 x3 x4 x5 x6 x7 x8 x9 x10) → J P n C x Q l ((Lf x0 x1 x2 x3 x4 x5 x6 x7 x8 x9 x10) ++ A')) : J P n C x Q l A := by
  intro a w v
  obtain ⟨R, F, s, o, st⟩ := v.mem
  obtain ⟨F1, F2, h1, h2, hd, hp, s2⟩ := take1_star ht st
  obtain ⟨x0, x1, x2, x3, x4, x5, x6, x7, x8, x9, x10, hz, sz⟩ := hu _ _ _ hp
  exact h x0 x1 x2 x3 x4 x5 x6 x7 x8 x9 x10 hz a w ⟨v.size, v.defers, v.holds, R, F, s, o, Star.monoF (fun b hb => hb.elim (h1 b) (h2 b)) (Star.append hd sz s2)⟩
theorem JL.unf11 {α0 α1 α2 α3 α4 α5 α6 α7 α8 α9 α10 : Type} (i : Nat) {p : HP} {A' : List HP} (ht : take1 i A = some (p, A')) {pf : α0 → α1 → α2 → α3 → α4 → α5 → α6 → α7 → α8 → α9 → α10 → Prop} {Lf : α0 → α1 → α2 → α3 → α4 → α5 → α6 → α7 → α8 → α9 → α10 → List HP} (hu : ∀ w R F, p.h w R F → ∃ x0 x1 x2 x3 x4 x5 x6 x7 x8 x9 x10, (pf x0 x1 x2 x3 x4 x5 x6 x7 x8 x9 x10) ∧ Star (Lf x0 x1 x2 x3 x4 x5 x6 x7 x8 x9 x10) w R F) (h : ∀ x0 x1 x2 x3 x4 x5 x6 x7 x8 x9 x10, (pf x0 x1 x2 x3 x4 x5 x6 x7 x8 x9 x10) → JL P n C ops Q r l ((Lf x0 x1 x2 x3 x4 x5 x6 x7 x8 x9 x10) ++ A')) : JL P n C ops Q r l A := by
  intro a w v
  obtain ⟨R, F, s, o, st⟩ := v.mem
  obtain ⟨F1, F2, h1, h2, hd, hp, s2⟩ := take1_star ht st
  obtain ⟨x0, x1, x2, x3, x4, x5, x6, x7, x8, x9, x10, hz, sz⟩ := hu _ _ _ hp
  exact h x0 x1 x2 x3 x4 x5 x6 x7 x8 x9 x10 hz a w ⟨v.size, v.defers, v.holds, R, F, s, o, Star.monoF (fun b hb => hb.elim (h1 b) (h2 b)) (Star.append hd sz s2)⟩
theorem J.unf12 {α0 α1 α2 α3 α4 α5 α6 α7 α8 α9 α10 α11 : Type} (i : Nat) {p : HP} {A' : List HP} (ht : take1 i A = some (p, A')) {pf : α0 → α1 → α2 → α3 → α4 → α5 → α6 → α7 → α8 → α9 → α10 → α11 → Prop} {Lf : α0 → α1 → α2 → α3 → α4 → α5 → α6 → α7 → α8 → α9 → α10 → α11 → List HP} (hu : ∀ w R F, p.h w R F → ∃ x0 x1 x2 x3 x4 x5 x6 x7 x8 x9 x10 x11, (pf x0 x1 x2 x3 x4 x5 x6 x7 x8 x9 x10 x11) ∧ Star (Lf x0 x1 x2 x3 x4 x5 x6 x7 x8 x9 x10 x11) w R F) (h : ∀ x0 x1 x2 x3 x4 x5 x6 x7 x8 x9 x10 x11, (pf x0 x1 x2 x3 x4 x5 x6 x7 x8 x9 x10 x11) → J P n C x Q l ((Lf x0 x1 x2 x3 x4 x5 x6 x7 x8 x9 x10 x11) ++ A')) : J P n C x Q l A := by
  intro a w v
  obtain ⟨R, F, s, o, st⟩ := v.mem
  obtain ⟨F1, F2, h1, h2, hd, hp, s2⟩ := take1_star ht st
  obtain ⟨x0, x1, x2, x3, x4, x5, x6, x7, x8, x9, x10, x11, hz, sz⟩ := hu _ _ _ hp
  exact h x0 x1 x2 x3 x4 x5 x6 x7 x8 x9 x10 x11 hz a w ⟨v.size, v.defers, v.holds, R, F, s, o, Star.monoF (fun b hb => hb.elim (h1 b) (h2 b)) (Star.append hd sz s2)⟩
theorem JL.unf12 {α0 α1 α2 α3 α4 α5 α6 α7 α8 α9 α10 α11 : Type} (i : Nat) {p : HP} {A' : List HP} (ht : take1 i A = some (p, A')) {pf : α0 → α1 → α2 → α3 → α4 → α5 → α6 → α7 → α8 → α9 → α10 → α11 → Prop} {Lf : α0 → α1 → α2 → α3 → α4 → α5 → α6 → α7 → α8 → α9 → α10 → α11 → List HP} (hu : ∀ w R F, p.h w R F → ∃ x0 x1 x2 x3 x4 x5 x6 x7 x8 x9 x10 x11, (pf x0 x1 x2 x3 x4 x5 x6 x7 x8 x9 x10 x11) ∧ Star (Lf x0 x1 x2 x3 x4 x5 x6 x7 x8 x9 x10 x11) w R F) (h : ∀ x0 x1 x2 x3 x4 x5 x6 x7 x8 x9 x10 x11, (pf x0 x1 x2 x3 x4 x5 x6 x7 x8 x9 x10 x11) → JL P n C ops Q r l ((Lf x0 x1 x2 x3 x4 x5 x6 x7 x8 x9 x10 x11) ++ A')) : JL P n C ops Q r l A := by
  intro a w v
  obtain ⟨R, F, s, o, st⟩ := v.mem
  obtain ⟨F1, F2, h1, h2, hd, hp, s2⟩ := take1_star ht st
  obtain ⟨x0, x1, x2, x3, x4, x5, x6, x7, x8, x9, x10, x11, hz, sz⟩ := hu _ _ _ hp
  exact h x0 x1 x2 x3 x4 x5 x6 x7 x8 x9 x10 x11 hz a w ⟨v.size, v.defers, v.holds, R, F, s, o, Star.monoF (fun b hb => hb.elim (h1 b) (h2 b)) (Star.append hd sz s2)⟩
end

theorem unInt {k : IntKind} {x : Int} {cs : List Value} : ∀ w R F, (kd (Kd.int k) x cs).h w R F → (cs = [.int k x] ∧ inK k x) ∧ Star [] w R F := fun _ _ _ h => ⟨h, trivial⟩
theorem unBool {x : Bool} {cs : List Value} : ∀ w R F, (kd Kd.bool x cs).h w R F → (cs = [.bool x]) ∧ Star [] w R F := fun _ _ _ h => ⟨h, trivial⟩
theorem unStr {x : ByteArray} {cs : List Value} : ∀ w R F, (kd Kd.str x cs).h w R F → (cs = [.string x] ∧ x.size ≤ big) ∧ Star [] w R F := fun _ _ _ h => ⟨h, trivial⟩
theorem unSl {α : Type} {d : Kd α} {x : List α} {cs : List Value} : ∀ w R F, (kd (Kd.sl d) x cs).h w R F → ∃ (A : Option Addr) (c : Nat), (cs = [.slice A x.length c]) ∧ Star [rd d A c x] w R F := fun _ _ _ ⟨A, c, h, k⟩ => ⟨A, c, h, fun _ => False, fun _ => False, fun _ h => h.elim, fun _ h => h.elim, fun _ h => h.elim, k, trivial⟩
section
variable {P : Program} {w : World} {t : TypeId} {k : IntKind} {a b : Int}
theorem negN_run {c : Int} (hc : -a = c) (h1 : -9223372036854775808 ≤ c) (h2 : c ≤ 9223372036854775807) : (Op.unary .neg (.int .i64 a)).run P w = .ok (.int .i64 c) w := by
  have e : (0 - a : Int) = c := by omega
  simp only [Op.unary, Op.intArith, e, wrap_i64 h1 h2]; rfl
theorem quoN_run (h0 : 0 ≤ a) (h : 0 < b ∧ a ≤ 9223372036854775807) : (binOp .quo t (.int .i64 a) (.int .i64 b)).run P w = .ok (.int .i64 (a / b)) w := by
  have h1 := Int.ediv_nonneg h0 (Int.le_of_lt h.1)
  have h2 := Int.ediv_le_self b h0
  rw [quo_run (by omega), Int.tdiv_eq_ediv_of_nonneg h0, wrap_i64 (by omega) (by omega)]
theorem remN_run (h0 : 0 ≤ a) (h : 0 < b) : (binOp .rem t (.int k a) (.int k b)).run P w = .ok (.int k (a % b)) w := by
  rw [rem_run (by omega), Int.tmod_eq_emod_of_nonneg h0]
theorem nilnil_in (n : Nat) {e : TypeId} (hu : P.underlying t = some (.pointer e)) : (Op.equalIn (n + 1) t (.pointer none) (.pointer none)).run P w = .ok true w := by simp [Op.equalIn, run_underlying hu, Pure.pure]
theorem bool_in (n : Nat) {x y : Bool} (hu : P.underlying t = some .bool) : (Op.equalIn (n + 1) t (.bool x) (.bool y)).run P w = .ok (x == y) w := by simp [Op.equalIn, run_underlying hu, Pure.pure]
theorem nilnil_eql_run {e : TypeId} (hu : P.underlying t = some (.pointer e)) : (binOp .eql t (.pointer none) (.pointer none)).run P w = .ok (.bool true) w := by
  have := nilnil_in (P := P) (w := w) 9999 hu
  unfold binOp
  simp only [Sem.run_bind, Op.equal, Op.maxDepth, this, Result.andThen_ok]
  rfl
theorem nilnil_neq_run {e : TypeId} (hu : P.underlying t = some (.pointer e)) : (binOp .neq t (.pointer none) (.pointer none)).run P w = .ok (.bool false) w := by
  have := nilnil_in (P := P) (w := w) 9999 hu
  unfold binOp
  simp only [Sem.run_bind, Op.equal, Op.maxDepth, this, Result.andThen_ok]
  rfl
theorem slnil_run (n : Nat) {e : TypeId} {m c : Nat} (hu : P.underlying t = some (.slice e)) : (Op.equalIn (n + 1) t (.slice none m c) (.slice none 0 0)).run P w = .ok true w := by
  simp [Op.equalIn, run_underlying hu, Pure.pure]
theorem slnil_eql_run {e : TypeId} {m c : Nat} (hu : P.underlying t = some (.slice e)) : (binOp .eql t (.slice none m c) (.slice none 0 0)).run P w = .ok (.bool true) w := by
  have := slnil_run (P := P) (w := w) (m := m) (c := c) 9999 hu
  unfold binOp
  simp only [Sem.run_bind, Op.equal, Op.maxDepth, this, Result.andThen_ok]
  rfl
theorem slnil_neq_run {e : TypeId} {m c : Nat} (hu : P.underlying t = some (.slice e)) : (binOp .neq t (.slice none m c) (.slice none 0 0)).run P w = .ok (.bool false) w := by
  have := slnil_run (P := P) (w := w) (m := m) (c := c) 9999 hu
  unfold binOp
  simp only [Sem.run_bind, Op.equal, Op.maxDepth, this, Result.andThen_ok]
  rfl
theorem seql_run {x y : ByteArray} : (binOp .eql t (.string x) (.string y)).run P w = .ok (.bool (x.toList == y.toList)) w := by simp [binOp, Op.stringOp, Pure.pure]
theorem sneq_run {x y : ByteArray} : (binOp .neq t (.string x) (.string y)).run P w = .ok (.bool (!(x.toList == y.toList))) w := by simp [binOp, Op.stringOp, Pure.pure]
theorem sadd_run {x y : ByteArray} (h : x.size + y.size ≤ 9223372036854775807) : (binOp .add t (.string x) (.string y)).run P w = .ok (.string (x ++ y)) w := by
  simp only [binOp, Op.stringOp]
  rw [if_neg (by simp [IntKind.max, IntKind.bits, IntKind.signed]; omega)]
  rfl
theorem beql_run {x y : Bool} (hu : P.underlying t = some .bool) : (binOp .eql t (.bool x) (.bool y)).run P w = .ok (.bool (x == y)) w := by
  have := bool_in (P := P) (w := w) (x := x) (y := y) 9999 hu
  unfold binOp
  simp only [Sem.run_bind, Op.equal, Op.maxDepth, this, Result.andThen_ok]
  rfl
theorem bneq_run {x y : Bool} (hu : P.underlying t = some .bool) : (binOp .neq t (.bool x) (.bool y)).run P w = .ok (.bool (!(x == y))) w := by
  have := bool_in (P := P) (w := w) (x := x) (y := y) 9999 hu
  unfold binOp
  simp only [Sem.run_bind, Op.equal, Op.maxDepth, this, Result.andThen_ok]
  rfl
theorem conv_run {s d : TypeId} {sk dk : IntKind} (hs : P.underlying s = some (.int sk)) (hd : P.underlying d = some (.int dk)) : (convert s d (.int k a)).run P w = .ok (.int dk (dk.wrap a)) w := by
  simp [convert, run_underlying hs, run_underlying hd, Conv.intToInt, Pure.pure]
theorem convN_run {s d : TypeId} {sk dk : IntKind} (hs : P.underlying s = some (.int sk)) (hd : P.underlying d = some (.int dk)) (h : dk.wrap a = a) : (convert s d (.int k a)).run P w = .ok (.int dk a) w := by
  rw [conv_run hs hd, h]
theorem max_run {c : Array Bool} {tys : Array TypeId} {ty : TypeId} : (builtin .max tys ty c #[.int k a, .int k b]).run P w = .ok (.value (.int k (max a b))) w := by
  simp only [builtin, Builtin.max_, List.foldlM_cons, List.foldlM_nil, Builtin.max2, Sem.run_bind, Sem.run_pure, Result.andThen_ok]
  congr 3
  simp only [Int.max_def]; split <;> split <;> omega
theorem min_run {c : Array Bool} {tys : Array TypeId} {ty : TypeId} : (builtin .min tys ty c #[.int k a, .int k b]).run P w = .ok (.value (.int k (min a b))) w := by
  simp only [builtin, Builtin.min_, List.foldlM_cons, List.foldlM_nil, Builtin.min2, Sem.run_bind, Sem.run_pure, Result.andThen_ok]
  congr 3
  simp only [Int.min_def]; split <;> split <;> omega
def bits2 (k : IntKind) (f : BitVec k.bits → BitVec k.bits → BitVec k.bits) (a b : Int) : Int := k.wrap (f (BitVec.ofInt k.bits a) (BitVec.ofInt k.bits b)).toNat
def band (k : IntKind) (a b : Int) : Int := bits2 k (· &&& ·) a b
def bor (k : IntKind) (a b : Int) : Int := bits2 k (· ||| ·) a b
def bxor (k : IntKind) (a b : Int) : Int := bits2 k (· ^^^ ·) a b
def bandNot (k : IntKind) (a b : Int) : Int := bits2 k (fun x y => x &&& ~~~y) a b
def shl (k : IntKind) (a b : Int) : Int := k.wrap (a * 2 ^ (min b.toNat k.bits))
def shr (k : IntKind) (a b : Int) : Int := a.fdiv (2 ^ (min b.toNat k.bits))
theorem and_run : (binOp .and t (.int k a) (.int k b)).run P w = .ok (.int k (band k a b)) w := by simp [binOp, Op.intBits, Pure.pure, band, bits2]
theorem or_run : (binOp .or t (.int k a) (.int k b)).run P w = .ok (.int k (bor k a b)) w := by simp [binOp, Op.intBits, Pure.pure, bor, bits2]
theorem xor_run : (binOp .xor t (.int k a) (.int k b)).run P w = .ok (.int k (bxor k a b)) w := by simp [binOp, Op.intBits, Pure.pure, bxor, bits2]
theorem andNot_run : (binOp .andNot t (.int k a) (.int k b)).run P w = .ok (.int k (bandNot k a b)) w := by simp [binOp, Op.intBits, Pure.pure, bandNot, bits2]
theorem shl_run {k' : IntKind} (h : 0 ≤ b) : (binOp .shl t (.int k a) (.int k' b)).run P w = .ok (.int k (shl k a b)) w := by
  simp [binOp, Op.shift, show ¬ b < 0 by omega, Pure.pure, shl]
theorem shr_run {k' : IntKind} (h : 0 ≤ b) : (binOp .shr t (.int k a) (.int k' b)).run P w = .ok (.int k (shr k a b)) w := by
  simp [binOp, Op.shift, show ¬ b < 0 by omega, Pure.pure, shr]
end
theorem pow_le_62 {m : Nat} (h : m ≤ 62) : (1 : Int) ≤ 2 ^ m ∧ (2 : Int) ^ m ≤ 4611686018427387904 := by
  have h1 : (2 : Nat) ^ m ≤ 2 ^ 62 := Nat.pow_le_pow_right (by omega) h
  have h2 : (1 : Nat) ≤ 2 ^ m := Nat.one_le_two_pow
  have h3 : ((2 ^ m : Nat) : Int) = (2 : Int) ^ m := by norm_cast
  have h4 : (2 : Nat) ^ 62 = 4611686018427387904 := by decide
  omega
theorem shl1_run {P : Program} {w : World} {t : TypeId} {b : Int} {k' : IntKind} (h : 0 ≤ b) (h2 : b ≤ 62) : (binOp .shl t (.int .i64 1) (.int k' b)).run P w = .ok (.int .i64 (2 ^ b.toNat)) w := by
  rw [shl_run h]
  have h3 : min b.toNat IntKind.i64.bits = b.toNat := by simp [IntKind.bits]; omega
  have h4 := pow_le_62 (m := b.toNat) (by omega)
  unfold shl
  rw [h3, Int.one_mul, wrap_i64 (by omega) (by omega)]
/-- A byte of a string. -/
def byteAt (s : ByteArray) (i : Int) : Int := (s[i.toNat]?.getD 0).toNat
section
variable {P : Program} {n : Nat} {C : Ctx} {Q : Pst} {l : Env} {A A' : List HP} {ops : Array Oper} {r : List Oper} {ty ty' xT yT : TypeId} {pos : String} {af : Array Edge} {dst : Option Tmp} {g : Option (Nat × Bool)} {x y z : Operand}
theorem Qt.binA {op : BinOp} {a b v : Value} (hv : ∀ w, (do eqGuard op xT x y a b; binOp op xT a b : Sem Value).run P w = .ok v w) (hx : ev l x = some a) (hy : ev l y = some b) : Qt P l A ⟨dst, .binOp op xT x y yT, ty, pos, af, g⟩ v :=
  fun a' w _ _ hl _ _ => by
    have := hv w
    simp only [execOp, hl.ev hx, hl.ev hy]
    rw [Sem.run_bind, this]
    rfl
theorem Qt.idx_str {T : TypeId} {s : ByteArray} {k : IntKind} {m : Int} (hT : P.underlying T = some .string) (h0 : 0 ≤ m) (hm : m < s.size) (hx : ev l x = some (.string s)) (hy : ev l y = some (.int k m)) : Qt P l A ⟨dst, .index T x y, ty, pos, af, g⟩ (.int .u8 (byteAt s m)) :=
  fun a w _ _ hl _ _ => by
    have hlt : m.toNat < s.size := by omega
    simp [execOp, hl.ev hx, hl.ev hy, Instr.index, asIntOf, run_underlying hT, h0, hlt, byteAt, Pure.pure, Sem.run]
/-- A slice written out: its elements stand in a new block. -/
theorem O1.bsl {T e m sz_ by_ : Nat} {ps : List (Nat × Operand)} {vs : List (Nat × Value)} {cs zs : List Value} (hE : elTy P T e sz_ by_ = true) (hz : zeroTy P e = some zs) (hx : evps l ps = some vs) (hf : fillL (fun i => some (i * sz_, sz_)) (List.flatten (List.replicate m zs)) vs = some cs) (hm : Nat.ble (m * sz_) 16777216 = true) :
    O1 P n C l A ⟨dst, .buildSlice T m ps.toArray, ty, pos, af, g⟩ (fun v B => ∃ b, v = .slice (some ⟨b, 0, none⟩) m m ∧ B = blk b e cs :: A) := by
  obtain ⟨hu, inf, zz, hi, hzz, hs1, hs2, hs3⟩ := ElTy.of hE
  refine O1.loc [] rfl (fun v' L' => ∃ b, v' = .slice (some ⟨b, 0, none⟩) m m ∧ L' = [blk b e cs]) (fun a w R F hl ok _ => ?_) (by rintro _ _ ⟨b, rfl, rfl⟩; exact ⟨b, rfl, rfl⟩)
  refine ⟨_, _, _, ⟨w.heap.size, rfl, rfl⟩, .inl ?_, Turns.new e cs (0, 0) ok (fun i _ h => by simp at h)⟩
  have e1 : (ps.toArray.map fun (i, x) => (i, a.eval x)) = vs.toArray := by rw [← hl.evps hx]; simp
  have hsz : (sizeOf e).run P w = .ok sz_ w := run_sizeOf (by simp [szTy, hi, hs1])
  have hz2 : zz.cells.toList = zs := by simp [zeroTy, hi, hzz] at hz; exact hz
  have hzr : (zeroValue e).run P w = .ok zz w := by simp [zeroValue, typeInfo, program, Sem.run, hi, hzz, Pure.pure]
  have hle : ¬ (m * sz_ > 2 ^ 24) := by have := Nat.le_of_ble_eq_true hm; omega
  have hfill := fill_eq hf
  have hcells : ∀ (zc : Array Value), (m * sz_ = 0 → zc = #[]) → (m * sz_ ≠ 0 → zc = zz.cells) → ((Array.range (m * sz_)).map (zc[· % zc.size]!)) = (List.flatten (List.replicate m zs)).toArray := by
    intro zc h0 h1
    by_cases hm0 : m * sz_ = 0
    · have : (List.flatten (List.replicate m zs)) = [] := by
        apply List.eq_nil_of_length_eq_zero
        have hzl : zs.length = sz_ := by rw [← hz2]; simp [hs3]
        simp [hzl, hm0]
      rw [this, hm0]; simp
    · rw [h1 hm0]
      have hzl : zs.length = sz_ := by rw [← hz2]; simp [hs3]
      apply Array.ext'
      simp only [Array.toList_map, Array.toList_range, hs3]
      apply List.ext_getElem?
      intro i
      rw [List.getElem?_map]
      by_cases hi2 : i < m * sz_
      · rw [List.getElem?_range hi2]
        simp only [Option.map_some]
        have hpos : 0 < sz_ := Nat.pos_of_ne_zero (fun e => hm0 (by rw [e]; simp))
        have key : ∀ (m i : Nat), i < m * sz_ → (List.flatten (List.replicate m zs))[i]? = zs[i % sz_]? := by
          intro m
          induction m with
          | zero => intro i h; simp at h
          | succ m ih =>
            intro i h
            rw [List.replicate_succ, List.flatten_cons]
            by_cases hlt : i < sz_
            · rw [List.getElem?_append_left (by omega), Nat.mod_eq_of_lt hlt]
            · have e2 : i % sz_ = (i - sz_) % sz_ := Nat.mod_eq_sub_mod (by omega)
              rw [List.getElem?_append_right (by omega), hzl, ih (i - sz_) (by rw [Nat.add_mul] at h; omega), e2]
        rw [key m i hi2]
        have hmod : i % sz_ < zz.cells.size := by rw [hs3]; exact Nat.mod_lt _ hpos
        rw [← hz2]
        simp [hmod]
      · rw [List.getElem?_eq_none (by simpa using hi2), List.getElem?_eq_none (by simp [hzl]; omega)]
        rfl
  simp only [execOp, e1, Instr.buildSlice, Sem.run_bind, run_underlying hu, Result.andThen_ok, hsz]
  rw [if_neg hle]
  by_cases hm0 : m * sz_ = 0
  · simp only [Sem.run_bind, Sem.run_pure, Result.andThen_ok, hm0, if_true]
    have := hcells #[] (fun _ => rfl) (fun h => absurd hm0 h)
    rw [hm0] at this
    rw [this]
    simp [hfill, newRow, newObj, Sem.run, Pure.pure]
  · simp only [Sem.run_bind, Sem.run_pure, Result.andThen_ok, hm0, if_false, hzr]
    rw [hcells zz.cells (fun h => absurd h hm0) (fun _ => rfl)]
    simp [hfill, newRow, newObj, Sem.run, Pure.pure]
theorem JL.bsl {op : Op} {d e m : Nat} {cs : List Value} (ho : O1 P n C l A ⟨some d, op, ty, pos, af, none⟩ (fun v B => ∃ b, v = .slice (some ⟨b, 0, none⟩) m m ∧ B = blk b e cs :: A)) (hd : Nat.blt d n = true)
    (h : ∀ b, JL P n C ops Q r ((d, .slice (some ⟨b, 0, none⟩) m m) :: l) (blk b e cs :: A)) : JL P n C ops Q (⟨some d, op, ty, pos, af, none⟩ :: r) l A := JL.ef ho hd (by rintro _ _ ⟨b, rfl, rfl⟩; exact h b)
end
end Go.Proofs.YthjbkngecgbioaaGreatDoor.Sl

/- The logic of blocks: regions whose order is open. -/
namespace Go.Proofs.YthjbkngecgbioaaGreatDoor.Sl
open Go

section
variable {P : Program} {ops : Array Oper} {Q : Pst} {md : Region.Mode} {S : Nat → World → Prop}
/-- As 'wpAny'; behind operation j the world meets S j. -/
def wpAnyJ (P : Program) (md : Region.Mode) (ops : Array Oper) (Q : Pst) (S : Nat → World → Prop) : Nat → Array Bool → Act → World → Prop
  | 0, listed, a, w => Region.ready md ops listed = [] ∧ Q .normal a w
  | fuel + 1, listed, a, w => (Region.ready md ops listed = [] → Q .normal a w) ∧
    ∀ i ∈ Region.ready md ops listed, wpOp P ops Q i (fun a' w' => S i w' ∧ wpAnyJ P md ops Q S fuel (listed.setIfInBounds i true) a' w') a w
theorem wpAny_of_J : ∀ (fuel : Nat) (listed : Array Bool) (a : Act) (w : World), wpAnyJ P md ops Q S fuel listed a w → wpAny P md ops Q fuel listed a w
  | 0, _, _, _, h => h
  | fuel + 1, _, _, _, h => ⟨h.1, fun i hi => wpOp_mono (fun a' w' h' => wpAny_of_J fuel _ a' w' h'.2) (h.2 i hi)⟩
/-- Does j wait for i, through others too? -/
def waits (md : Region.Mode) (ops : Array Oper) : Nat → Nat → Nat → Bool
  | 0, _, _ => false
  | f + 1, j, i => match ops[j]? with
    | some o => o.after.any fun e => Region.binds md e && (Nat.beq e.on i || waits md ops f e.on i)
    | none => false
/-- What is listed waits for nothing that isn't. -/
def Down (md : Region.Mode) (ops : Array Oper) (listed : Array Bool) : Prop := ∀ j o, ops[j]? = some o → listed.getD j false = true → ∀ e ∈ o.after, Region.binds md e = true → listed.getD e.on false = true
theorem Down.set {listed : Array Bool} (h : Down md ops listed) {i : Nat} (hi : i ∈ Region.ready md ops listed) : Down md ops (listed.setIfInBounds i true) := by
  intro j o ho hj e he hb
  by_cases hji : j = i
  · subst hji
    obtain ⟨_, oj, hoj, hall⟩ := mem_ready.1 hi
    rw [ho] at hoj
    injection hoj with hoj
    subst hoj
    exact getD_set_true (hall e he hb)
  · rw [getD_set_ne false (Ne.symm hji)] at hj
    exact getD_set_true (h j o ho hj e he hb)
theorem Down.waits {listed : Array Bool} (h : Down md ops listed) : ∀ (f j i : Nat), Sl.waits md ops f j i = true → (∀ o, ops[j]? = some o → ∀ e ∈ o.after, Region.binds md e = true → listed.getD e.on false = true) → listed.getD i false = true
  | 0, _, _, hw, _ => by simp [Sl.waits] at hw
  | f + 1, j, i, hw, hall => by
    simp only [Sl.waits] at hw
    split at hw
    · rename_i o ho
      obtain ⟨e, he, hb⟩ := Array.any_eq_true'.1 hw
      simp only [Bool.and_eq_true, Bool.or_eq_true] at hb
      have h1 := hall o ho e he hb.1
      rcases hb.2 with h2 | h2
      · rw [← Nat.eq_of_beq_eq_true h2]; exact h1
      · exact Down.waits h f e.on i h2 (fun o' ho' e' he' hb' => h e.on o' ho' h1 e' he' hb')
    · simp at hw
/-- i may come up first, if it yields v in every world of its class, and whatever may come up before it leaves the world there. -/
theorem wpAnyJ_first {Ci : World → Prop} {i : Nat} {oi : Oper} {v : Value} (hi : ops[i]? = some oi) (hsel : ∀ (j : Nat) (o : Oper) cs b, ops[j]? = some o → o.op ≠ .select cs b)
    (hQ : ∀ c a w, Q (.panic c) (a.put oi.dst v) w → Q (.panic c) a w) (hC : ∀ j w, j < ops.size → (∃ f, waits md ops f j i = true) ∨ (S j w → Ci w)) (hbase : i < ops.size) :
    ∀ (fuel : Nat) (listed : Array Bool) (a : Act) (w : World), Down md ops listed → listed.size = ops.size →
      (∀ j oj, ops[j]? = some oj → j ≠ i → listed.getD j true = false → (∀ e ∈ oj.after, Region.binds md e = true → e.on ≠ i) → oi.apart ops oj = true) →
      i ∈ Region.ready md ops listed → YieldsIf P ops Ci oi v a → Ci w → S i w → (∀ a' w', YieldsIf P ops Ci oi v a' → Ci w' → S i w') →
      wpAnyJ P md ops Q S fuel (listed.setIfInBounds i true) (a.put oi.dst v) w → wpAnyJ P md ops Q S (fuel + 1) listed a w := by
  intro fuel
  induction fuel with
  | zero =>
    intro listed a w hD hsz _ hr hy hCi hSi _ H
    refine ⟨fun h => (by rw [h] at hr; cases hr), fun j hj => ?_⟩
    by_cases hji : j = i
    · subst hji; exact hy.wpOp hi hCi ⟨hSi, H⟩
    · have := ready_mono hj hji
      rw [H.1] at this
      cases this
  | succ fuel ih =>
    intro listed a w hD hsz hfree hr hy hCi hSi hSS H
    refine ⟨fun h => (by rw [h] at hr; cases hr), fun j hj => ?_⟩
    by_cases hji : j = i
    · subst hji; exact hy.wpOp hi hCi ⟨hSi, H⟩
    · have h1 := H.2 j (ready_mono hj hji)
      obtain ⟨hjun, oj, hoj, hall⟩ := mem_ready.1 hj
      have hiun : listed.getD i false = false := by
        have h0 := (mem_ready.1 hr).1
        have hlt : i < listed.size := by rw [hsz]; exact hbase
        simp [hlt] at h0 ⊢
        exact h0
      have hnot : ∀ e ∈ oj.after, Region.binds md e = true → e.on ≠ i := fun e he hb heq => by
        have h1 := hall e he hb
        rw [heq, hiun] at h1
        cases h1
      have hjlt : j < ops.size := (Array.getElem?_eq_some_iff.1 hoj).1
      have hCj : ∀ w, S j w → Ci w := by
        intro w'
        rcases hC j w' hjlt with ⟨f, hf⟩ | h
        · have := hD.waits f j i hf (fun o ho e he hb => by rw [hoj] at ho; injection ho with ho; subst ho; exact hall e he hb)
          rw [hiun] at this
          cases this
        · exact h
      have h2 := wpOp_putIf hoj (hfree j oj hoj hji hjun hnot) (fun cs b => hsel i oi cs b hi) (fun cs b => hsel j oj cs b hoj) hQ hy h1
      have hfree' : ∀ k ok, ops[k]? = some ok → k ≠ i → (listed.setIfInBounds j true).getD k true = false →
          (∀ e ∈ ok.after, Region.binds md e = true → e.on ≠ i) → oi.apart ops ok = true := fun k ok hk hki hun hno => by
        refine hfree k ok hk hki ?_ hno
        by_cases hjk : j = k
        · subst hjk; exact hjun
        · rw [getD_set_ne true hjk] at hun; exact hun
      refine wpOp_mono (fun a' w' h3 => ⟨h3.2.1, ih (listed.setIfInBounds j true) a' w' (hD.set hj) (by simpa using hsz) hfree' (ready_mono hr (Ne.symm hji)) h3.1 (hCj w' h3.2.1) (hSS a' w' h3.1 (hCj w' h3.2.1)) hSS ?_⟩) h2
      rw [Array.setIfInBounds_comm _ _ hji]
      exact h3.2.2
end
/-! ### The judgement -/
def SS (AS : List HP) (w : World) : Prop := ∃ R F, Ok w R F ∧ Star AS w R F
/-- Behind operation j: AS stands, but behind those of T. -/
def Sj (AS : List HP) (T : List Nat) (j : Nat) (w : World) : Prop := T.contains j = true ∨ SS AS w
def JA (P : Program) (n : Nat) (C : Ctx) (ops : Array Oper) (Q : Pst) (AS : List HP) (T : List Nat) (k : Nat) (L : Array Bool) (l : Env) (A : List HP) : Prop :=
  ∀ a w, Down .any ops L → L.size = ops.size → Inv n C l A a w → wpAnyJ P .any ops Q (Sj AS T) k L a w
/-- Operation i comes up now. -/
def JO (P : Program) (n : Nat) (C : Ctx) (ops : Array Oper) (Q : Pst) (AS : List HP) (T : List Nat) (k : Nat) (L : Array Bool) (i : Nat) (l : Env) (A : List HP) : Prop :=
  ∀ a w, Down .any ops L → L.size = ops.size → i ∈ Region.ready .any ops L → Inv n C l A a w → wpOp P ops Q i (fun a' w' => Sj AS T i w' ∧ wpAnyJ P .any ops Q (Sj AS T) k (L.setIfInBounds i true) a' w') a w
section
variable {P : Program} {n : Nat} {C : Ctx} {ops : Array Oper} {Q : Pst} {AS : List HP} {T : List Nat} {k : Nat} {L : Array Bool} {l : Env} {A B r0 : List HP} {i : Nat} {d : Nat} {op : Op} {ty : TypeId} {pos : String} {af : Array Edge} {v : Value}
theorem SS.of {is : List Nat} (h : takes is A = some (AS, r0)) {a : Act} {w : World} (iv : Inv n C l A a w) : SS AS w := by
  obtain ⟨R, F, _, o, st⟩ := iv.mem
  obtain ⟨F1, _, h1, _, _, h2, _⟩ := Star.split (takes_star h st)
  exact ⟨R, F1, ⟨o.r, fun b hb => o.f b (h1 b hb), fun b hb hF => o.d b hb (h1 b hF)⟩, h2⟩
theorem J.any {id : Nat} {ops : List Oper} (hm : P.follows .mixedOrders = true) (AS : List HP) (T : List Nat) (k : Nat) (hk : ops.length = k) (h : JA P n C ops.toArray Q AS T k (Array.replicate k false) l A) : J P n C (.region id ops.toArray true) Q l A := by
  subst hk
  intro a w iv
  refine wp_region_any hm ?_
  have hsz : ops.toArray.size = ops.length := by simp
  rw [hsz]
  refine wpAny_of_J _ _ _ _ (h a _ (fun j o _ hj => by simp [Array.getD_eq_getD_getElem?, Array.getElem?_replicate] at hj; split at hj <;> simp at hj) (by simp) ⟨iv.size, iv.defers, iv.holds, ?_⟩)
  obtain ⟨R, F, s, o, st⟩ := iv.mem
  exact ⟨R, F, s.trans ⟨rfl, rfl, rfl, Nat.le_refl _, fun _ _ _ => rfl, fun _ h => h, fun _ h => .inl h, fun _ h => .inl h⟩, ⟨o.r, o.f, o.d⟩, Star.loc (w := w) (fun _ _ => rfl) st⟩
theorem JA.take {oi : Oper} (is : List Nat) (hi : ops[i]? = some oi) (hs : Region.noSelect ops = true) (hf : Region.free .any ops L i = true) (hr : (Region.ready .any ops L).contains i = true) (hT : (T.all fun t => waits .any ops 64 t i) = true)
    (hQ : ∀ c a w, Q (.panic c) (a.put oi.dst v) w → Q (.panic c) a w) (hA : takes is A = some (AS, r0)) (hy : ∀ a w, Inv n C l A a w → YieldsIf P ops (SS AS) oi v a) (h : ∀ a w, Inv n C l A a w → Down .any ops (L.setIfInBounds i true) → (L.setIfInBounds i true).size = ops.size → wpAnyJ P .any ops Q (Sj AS T) k (L.setIfInBounds i true) (a.put oi.dst v) w) :
    JA P n C ops Q AS T (k + 1) L l A := by
  intro a w hD hsz iv
  have hmem : i ∈ Region.ready .any ops L := by simpa using hr
  refine wpAnyJ_first (Ci := SS AS) hi (Region.noSelect_spec hs) hQ (fun j w _ => ?_) (Array.getElem?_eq_some_iff.1 hi).1 k L a w hD hsz (Region.free_spec hi hf) hmem (hy a w iv) (SS.of hA iv) (.inr (SS.of hA iv)) (fun _ _ _ hc => .inr hc) (h a w iv (hD.set hmem) (by simpa using hsz))
  by_cases hj : T.contains j = true
  · exact .inl ⟨64, List.all_eq_true.1 hT j (by simpa using hj)⟩
  · exact .inr fun hs => hs.resolve_left hj
theorem JA.qt (i : Nat) (is : List Nat) (hi : ops[i]? = some ⟨some d, op, ty, pos, af, none⟩) (hs : Region.noSelect ops = true) (hf : Region.free .any ops L i = true) (hr : (Region.ready .any ops L).contains i = true) (hT : (T.all fun t => waits .any ops 64 t i) = true)
    (hQ : ∀ c a w, Q (.panic c) (a.put (some d) v) w → Q (.panic c) a w) (hA : takes is A = some (AS, r0)) (hq : Qt P l AS ⟨some d, op, ty, pos, af, none⟩ v) (hd : Nat.blt d n = true) {L' : Array Bool} (hL : L.setIfInBounds i true = L') (h : JA P n C ops Q AS T k L' ((d, v) :: l) A) : JA P n C ops Q AS T (k + 1) L l A := by
  subst hL
  refine JA.take is hi hs hf hr hT hQ hA (fun a w iv => .inl ⟨by simp [Region.wanted], fun w' ⟨R, F, o, st⟩ => hq a w' R F iv.holds o st⟩) (fun a w iv hD hsz => h _ _ hD hsz (iv.put hd v))
theorem JA.qt_in (i : Nat) (is : List Nat) {j t : Nat} {b : Bool} (hj : (ops[j]?).bind (·.dst) = some t) (ht : get l t = some (.bool b)) (hi : ops[i]? = some ⟨some d, op, ty, pos, af, some (j, b)⟩) (hs : Region.noSelect ops = true) (hf : Region.free .any ops L i = true) (hr : (Region.ready .any ops L).contains i = true) (hT : (T.all fun t => waits .any ops 64 t i) = true)
    (hQ : ∀ c a w, Q (.panic c) (a.put (some d) v) w → Q (.panic c) a w) (hA : takes is A = some (AS, r0)) (hq : Qt P l AS ⟨some d, op, ty, pos, af, some (j, b)⟩ v) (hd : Nat.blt d n = true) {L' : Array Bool} (hL : L.setIfInBounds i true = L') (h : JA P n C ops Q AS T k L' ((d, v) :: l) A) : JA P n C ops Q AS T (k + 1) L l A := by
  subst hL
  refine JA.take is hi hs hf hr hT hQ hA (fun a w iv => .inl ⟨by simp [Region.wanted, yields hj (iv.holds t _ ht)], fun w' ⟨R, F, o, st⟩ => hq a w' R F iv.holds o st⟩) (fun a w iv hD hsz => h _ _ hD hsz (iv.put hd v))
theorem Inv.put_out {a : Act} {w : World} (iv : Inv n C l A a w) (hn : get l d = none) : Inv n C l A (a.put (some d) undef) w := by
  refine ⟨by rw [size_put]; exact iv.size, by rw [defers_put]; exact iv.defers, fun s u hs => ?_, iv.mem⟩
  have hne : s ≠ d := fun e => by rw [e, hn] at hs; simp at hs
  have h2 := iv.holds s u hs
  simp only [Act.put, Array.getD_eq_getD_getElem?] at h2 ⊢
  rw [Array.getElem?_setIfInBounds_ne (Ne.symm hne)]
  exact h2
theorem JA.qt_out (i : Nat) (is : List Nat) {j t : Nat} {b b' : Bool} (hj : (ops[j]?).bind (·.dst) = some t) (ht : get l t = some (.bool b)) (hbb : (b == b') = false) (hi : ops[i]? = some ⟨some d, op, ty, pos, af, some (j, b')⟩) (hs : Region.noSelect ops = true) (hf : Region.free .any ops L i = true) (hr : (Region.ready .any ops L).contains i = true) (hT : (T.all fun t => waits .any ops 64 t i) = true)
    (hQ : ∀ c a w, Q (.panic c) (a.put (some d) undef) w → Q (.panic c) a w) (hA : takes is A = some (AS, r0)) (hn : get l d = none) {L' : Array Bool} (hL : L.setIfInBounds i true = L') (h : JA P n C ops Q AS T k L' l A) : JA P n C ops Q AS T (k + 1) L l A := by
  subst hL
  refine JA.take (v := undef) is hi hs hf hr hT hQ hA (fun a w iv => .inr ⟨by simp [Region.wanted, yields hj (iv.holds t _ ht)]; intro e; subst e; simp at hbb, rfl⟩) (fun a w iv hD hsz => h _ _ hD hsz (iv.put_out hn))
theorem JA.all1 (hr : Region.ready .any ops L = [i]) (h : JO P n C ops Q AS T k L i l A) : JA P n C ops Q AS T (k + 1) L l A := fun a w hD hsz iv =>
  ⟨fun e => by (rw [hr] at e; cases e), fun j hj => by
    rw [hr] at hj
    simp at hj
    subst hj
    exact h a w hD hsz (by rw [hr]; simp) iv⟩
theorem JA.all2 {j : Nat} (hr : Region.ready .any ops L = [i, j]) (h1 : JO P n C ops Q AS T k L i l A) (h2 : JO P n C ops Q AS T k L j l A) : JA P n C ops Q AS T (k + 1) L l A := fun a w hD hsz iv =>
  ⟨fun e => by (rw [hr] at e; cases e), fun z hz => by
    rw [hr] at hz
    simp at hz
    rcases hz with rfl | rfl
    · exact h1 a w hD hsz (by rw [hr]; simp) iv
    · exact h2 a w hD hsz (by rw [hr]; simp) iv⟩
theorem JA.done (hr : Region.ready .any ops L = []) (h : JN n C (Q .normal) l A) : JA P n C ops Q AS T k L l A := fun a w _ _ iv => by
  cases k with
  | zero => exact ⟨hr, h a w iv⟩
  | succ k => exact ⟨fun _ => h a w iv, by rw [hr]; simp⟩
theorem JO.ef {q : Value → List HP → Prop} (hi : ops[i]? = some ⟨some d, op, ty, pos, af, none⟩) (ho : O1 P n C l A ⟨some d, op, ty, pos, af, none⟩ q) (hd : Nat.blt d n = true) {L' : Array Bool} (hL : L.setIfInBounds i true = L')
    (h : ∀ v B, q v B → (T.contains i = true ∨ ∃ is r0, takes is B = some (AS, r0)) ∧ JA P n C ops Q AS T k L' ((d, v) :: l) B) : JO P n C ops Q AS T k L i l A := by
  subst hL
  intro a w hD hsz hm iv
  unfold wpOp
  simp only [hi]
  rw [if_pos (by simp [Region.wanted])]
  refine .inl (ho a w iv _ Q fun v B w' hq h1 _ => ?_)
  obtain ⟨hS, hJ⟩ := h v B hq
  have iv' := h1 d rfl hd
  exact ⟨hS.imp id (fun ⟨is, r0, ht⟩ => SS.of ht iv'), hJ _ _ (hD.set hm) (by simpa using hsz) iv'⟩
theorem JO.sk (hi : ops[i]? = some ⟨none, op, ty, pos, af, none⟩) (ho : O1 P n C l A ⟨none, op, ty, pos, af, none⟩ (fun _ B' => B' = B)) {L' : Array Bool} (hL : L.setIfInBounds i true = L')
    (hS : T.contains i = true ∨ ∃ is r0, takes is B = some (AS, r0)) (h : JA P n C ops Q AS T k L' l B) : JO P n C ops Q AS T k L i l A := by
  subst hL
  intro a w hD hsz hm iv
  unfold wpOp
  simp only [hi]
  rw [if_pos (by simp [Region.wanted])]
  refine .inl (ho a w iv _ Q fun v B' w' hq _ h2 => ?_)
  subst hq
  have iv' := h2 rfl
  exact ⟨hS.imp id (fun ⟨is, r0, ht⟩ => SS.of ht iv'), h _ _ (hD.set hm) (by simpa using hsz) iv'⟩
theorem JO.qt (hi : ops[i]? = some ⟨some d, op, ty, pos, af, none⟩) (hq : Qt P l A ⟨some d, op, ty, pos, af, none⟩ v) (hd : Nat.blt d n = true) {L' : Array Bool} (hL : L.setIfInBounds i true = L')
    (hS : T.contains i = true ∨ ∃ is r0, takes is A = some (AS, r0)) (h : JA P n C ops Q AS T k L' ((d, v) :: l) A) : JO P n C ops Q AS T k L i l A := by
  subst hL
  intro a w hD hsz hm iv
  unfold wpOp
  simp only [hi]
  rw [if_pos (by simp [Region.wanted])]
  obtain ⟨R, F, _, o, st⟩ := iv.mem
  refine .inl ?_
  unfold Oper.wp
  rw [hq a w R F iv.holds o st]
  have iv' := iv.put hd v
  exact ⟨hS.imp id (fun ⟨is, r0, ht⟩ => SS.of ht iv'), h _ _ (hD.set hm) (by simpa using hsz) iv'⟩
end
end Go.Proofs.YthjbkngecgbioaaGreatDoor.Sl

/- The logic of blocks: regions whose order is open, gone through in one order; what was read stands till somebody may write it. -/
namespace Go.Proofs.YthjbkngecgbioaaGreatDoor.Sl
open Go

section
variable {P : Program} {ops : Array Oper} {Q : Pst} {md : Region.Mode} {S : Array Bool → World → Prop}
/-- As 'wpAny'; behind each operation the world meets S of what is listed then. -/
def wpAnyK (P : Program) (md : Region.Mode) (ops : Array Oper) (Q : Pst) (S : Array Bool → World → Prop) : Nat → Array Bool → Act → World → Prop
  | 0, listed, a, w => Region.ready md ops listed = [] ∧ Q .normal a w
  | fuel + 1, listed, a, w => (Region.ready md ops listed = [] → Q .normal a w) ∧
    ∀ i ∈ Region.ready md ops listed, wpOp P ops Q i (fun a' w' => S (listed.setIfInBounds i true) w' ∧ wpAnyK P md ops Q S fuel (listed.setIfInBounds i true) a' w') a w
theorem wpAny_of_K : ∀ (fuel : Nat) (listed : Array Bool) (a : Act) (w : World), wpAnyK P md ops Q S fuel listed a w → wpAny P md ops Q fuel listed a w
  | 0, _, _, _, h => h
  | fuel + 1, _, _, _, h => ⟨h.1, fun i hi => wpOp_mono (fun a' w' h' => wpAny_of_K fuel _ a' w' h'.2) (h.2 i hi)⟩
theorem wpAnyK_mono {S' : Array Bool → World → Prop} (hs : ∀ L w, S L w → S' L w) : ∀ (fuel : Nat) (listed : Array Bool) (a : Act) (w : World), wpAnyK P md ops Q S fuel listed a w → wpAnyK P md ops Q S' fuel listed a w
  | 0, _, _, _, h => h
  | fuel + 1, _, _, _, h => ⟨h.1, fun i hi => wpOp_mono (fun a' w' h' => ⟨hs _ _ h'.1, wpAnyK_mono hs fuel _ a' w' h'.2⟩) (h.2 i hi)⟩
/-- i may come up first, if it yields v in every world of its class, and whatever may come up before it leaves the world there. -/
theorem wpAnyK_first {Ci : World → Prop} {i : Nat} {oi : Oper} {v : Value} (hi : ops[i]? = some oi) (hsel : ∀ (j : Nat) (o : Oper) cs b, ops[j]? = some o → o.op ≠ .select cs b)
    (hQ : ∀ c a w, Q (.panic c) (a.put oi.dst v) w → Q (.panic c) a w) (hbase : i < ops.size)
    (hS : ∀ (L : Array Bool) (j : Nat) w, Down md ops L → L.size = ops.size → L.getD i false = false → j ∈ Region.ready md ops L → j ≠ i → S ((L.setIfInBounds i true).setIfInBounds j true) w → S (L.setIfInBounds j true) w ∧ Ci w) :
    ∀ (fuel : Nat) (listed : Array Bool) (a : Act) (w : World), Down md ops listed → listed.size = ops.size →
      (∀ j oj, ops[j]? = some oj → j ≠ i → listed.getD j true = false → (∀ e ∈ oj.after, Region.binds md e = true → e.on ≠ i) → oi.apart ops oj = true) →
      i ∈ Region.ready md ops listed → YieldsIf P ops Ci oi v a → Ci w → S (listed.setIfInBounds i true) w →
      wpAnyK P md ops Q S fuel (listed.setIfInBounds i true) (a.put oi.dst v) w → wpAnyK P md ops Q S (fuel + 1) listed a w := by
  intro fuel
  induction fuel with
  | zero =>
    intro listed a w hD hsz _ hr hy hCi hSi H
    refine ⟨fun h => (by rw [h] at hr; cases hr), fun j hj => ?_⟩
    by_cases hji : j = i
    · subst hji; exact hy.wpOp hi hCi ⟨hSi, H⟩
    · have := ready_mono hj hji
      rw [H.1] at this
      cases this
  | succ fuel ih =>
    intro listed a w hD hsz hfree hr hy hCi hSi H
    refine ⟨fun h => (by rw [h] at hr; cases hr), fun j hj => ?_⟩
    by_cases hji : j = i
    · subst hji; exact hy.wpOp hi hCi ⟨hSi, H⟩
    · have h1 := H.2 j (ready_mono hj hji)
      obtain ⟨hjun, oj, hoj, hall⟩ := mem_ready.1 hj
      have hiun : listed.getD i false = false := by
        have h0 := (mem_ready.1 hr).1
        have hlt : i < listed.size := by rw [hsz]; exact hbase
        simp [hlt] at h0 ⊢
        exact h0
      have hnot : ∀ e ∈ oj.after, Region.binds md e = true → e.on ≠ i := fun e he hb heq => by
        have h1 := hall e he hb
        rw [heq, hiun] at h1
        cases h1
      have h2 := wpOp_putIf hoj (hfree j oj hoj hji hjun hnot) (fun cs b => hsel i oi cs b hi) (fun cs b => hsel j oj cs b hoj) hQ hy h1
      have hfree' : ∀ k ok, ops[k]? = some ok → k ≠ i → (listed.setIfInBounds j true).getD k true = false →
          (∀ e ∈ ok.after, Region.binds md e = true → e.on ≠ i) → oi.apart ops ok = true := fun k ok hk hki hun hno => by
        refine hfree k ok hk hki ?_ hno
        by_cases hjk : j = k
        · subst hjk; exact hjun
        · rw [getD_set_ne true hjk] at hun; exact hun
      refine wpOp_mono (fun a' w' h3 => ?_) h2
      obtain ⟨hy', hSij, hK⟩ := h3
      obtain ⟨hSj, hCi'⟩ := hS listed j w' hD hsz hiun hj hji hSij
      refine ⟨hSj, ih (listed.setIfInBounds j true) a' w' (hD.set hj) (by simpa using hsz) hfree' (ready_mono hr (Ne.symm hji)) hy' hCi' ?_ ?_⟩
      · rw [Array.setIfInBounds_comm _ _ hji]
        exact hSij
      · rw [Array.setIfInBounds_comm _ _ hji]
        exact hK
end
end Go.Proofs.YthjbkngecgbioaaGreatDoor.Sl
