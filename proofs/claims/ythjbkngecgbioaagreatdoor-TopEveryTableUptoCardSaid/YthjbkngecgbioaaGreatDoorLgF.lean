/- Further rules of the logic of blocks (no condition). -/
import Derived.Test.YthjbkngecgbioaaGreatDoorLgC
import Derived.Laws.IdiomStrings
import Derived.ChangeKeysEq
set_option linter.unusedVariables false
set_option linter.unusedSimpArgs false
set_option linter.deprecated false
/- The logic of blocks: open orders by a schedule; results that lie in memory; loops that are unrolled. -/
namespace Go.Proofs.YthjbkngecgbioaaGreatDoor.Sl
open Go
open Go.Proofs.YthjbkngecgbioaaGreatDoor.Xe (Sch Dn SO KI schOk regOk stepsX isLoad isQuiet chkOk hasN NoLook)

/-! ### A schedule -/
def Kept (chk : List Nat) : List (Nat × HP) → List HP → Prop
  | [], _ => True
  | y :: obs, B => (hasN chk y.1 = false ∨ ∃ j B', take1 j B = some (y.2, B')) ∧ Kept chk obs B
theorem Kept.of {chk : List Nat} : ∀ {obs : List (Nat × HP)} {B : List HP}, Kept chk obs B → ∀ y ∈ obs, hasN chk y.1 = false ∨ ∃ j B', take1 j B = some (y.2, B')
  | [], _, _, y, hy => by simp at hy
  | _ :: _, _, ⟨h1, h2⟩, y, hy => by
    rcases List.mem_cons.1 hy with rfl | hy
    · exact h1
    · exact h2.of y hy
/-- What is left of a region is gone through by s. -/
def JS (P : Program) (n : Nat) (C : Ctx) (ops : Array Oper) (Q : Pst) (s : Sch) (L : Array Bool) (T : List Nat) (obs : List (Nat × HP)) (l : Env) (A : List HP) : Prop :=
  ∀ fuel, Region.noSelect ops = true → NoLook Q → schOk ops s L T = true → stepsX s ≤ fuel → (∀ y ∈ obs, y.1 ∈ T) → ∀ a w, Down .any ops L → L.size = ops.size → KI ops L obs A → Inv n C l A a w → wpAnyK P .any ops Q (SO ops obs) fuel L a w
/-- Operation i comes up now, and may write. -/
def JE (P : Program) (n : Nat) (C : Ctx) (ops : Array Oper) (Q : Pst) (i : Nat) (chk : List Nat) (s : Sch) (L : Array Bool) (T : List Nat) (obs : List (Nat × HP)) (l : Env) (A : List HP) : Prop :=
  ∀ fuel, Region.noSelect ops = true → NoLook Q → chkOk ops i chk T = true → (∀ o, ops[i]? = some o → isQuiet o.op = false) → schOk ops s (L.setIfInBounds i true) T = true → stepsX s ≤ fuel → (∀ y ∈ obs, y.1 ∈ T) → i ∈ Region.ready .any ops L →
    ∀ a w, Down .any ops L → L.size = ops.size → KI ops L obs A → Inv n C l A a w → wpOp P ops Q i (fun a' w' => SO ops obs (L.setIfInBounds i true) w' ∧ wpAnyK P .any ops Q (SO ops obs) fuel (L.setIfInBounds i true) a' w') a w
section
variable {P : Program} {n : Nat} {C : Ctx} {ops : Array Oper} {Q : Pst} {s s1 s2 : Sch} {L : Array Bool} {T : List Nat} {obs : List (Nat × HP)} {l : Env} {A A' B : List HP} {i j : Nat} {d t : Nat} {op : Op} {ty : TypeId} {pos : String} {af : Array Edge} {v : Value}
theorem J.sch {id : Nat} {ops : List Oper} (s : Sch) (hm : P.follows .mixedOrders = true) (hQ : NoLook Q) (hok : regOk ops.toArray s = true) (h : JS P n C ops.toArray Q s (Array.replicate ops.length false) [] [] l A) : J P n C (.region id ops.toArray true) Q l A := by
  simp only [regOk, Bool.and_eq_true] at hok
  obtain ⟨⟨h1, h2⟩, h3⟩ := hok
  intro a w iv
  refine wp_region_any hm (wpAny_of_K (S := SO ops.toArray []) _ _ _ _ ?_)
  have hsz : ops.toArray.size = ops.length := by simp
  rw [hsz] at h3 ⊢
  refine h _ h1 hQ h3 (by rw [← hsz]; exact Nat.le_of_ble_eq_true h2) (fun y hy => by simp at hy) a _ (fun j o _ hj => by simp [Array.getD_eq_getD_getElem?, Array.getElem?_replicate] at hj; split at hj <;> simp at hj) (by simp) (fun y hy => by simp at hy) ⟨iv.size, iv.defers, iv.holds, ?_⟩
  obtain ⟨R, F, st, o, sa⟩ := iv.mem
  exact ⟨R, F, st.trans ⟨rfl, rfl, rfl, Nat.le_refl _, fun _ _ _ => rfl, fun _ h => h, fun _ h => .inl h, fun _ h => .inl h⟩, ⟨o.r, o.f, o.d⟩, Star.loc (w := w) (fun _ _ => rfl) sa⟩
theorem JS.done (h : JN n C (Q .normal) l A) : JS P n C ops Q .done L T obs l A := by
  intro fuel _ _ hs _ _ a w _ _ _ iv
  simp only [schOk, List.isEmpty_iff] at hs
  cases fuel with
  | zero => exact ⟨hs, h a w iv⟩
  | succ f => exact ⟨fun _ => h a w iv, by rw [hs]; simp⟩
theorem JS.quiet {o : Oper} (hi : ops[i]? = some o) (p : Option HP) (hp : ∀ q, p = some q → isLoad o.op = true ∧ ∃ j A', take1 j A = some (q, A')) (hy : ∀ a w, Inv n C l A a w → YieldsIf P ops (fun w => ∀ q, p = some q → SS [q] w) o v a)
    {l' : Env} (hput : ∀ a w, Inv n C l A a w → Inv n C l' A (a.put o.dst v) w) (h : JS P n C ops Q s (L.setIfInBounds i true) (bif isLoad o.op then i :: T else T) ((match p with | some q => [(i, q)] | none => []) ++ obs) l' A) : JS P n C ops Q (.qt i s) L T obs l A := by
  intro fuel hsel hQ hs hfu hTo a w hD hsz hki iv
  simp only [schOk, hi, Bool.and_eq_true] at hs
  obtain ⟨⟨⟨h1, h2⟩, h3⟩, h4⟩ := hs
  simp only [stepsX] at hfu
  obtain ⟨f, rfl⟩ : ∃ f, fuel = f + 1 := ⟨fuel - 1, by omega⟩
  have hlt : i < ops.size := (Array.getElem?_eq_some_iff.1 hi).1
  have hsz' : (L.setIfInBounds i true).size = ops.size := by simpa using hsz
  have hrd : i ∈ Region.ready .any ops L := by simpa using h3
  have hTsub : ∀ y ∈ T, y ∈ (bif isLoad o.op then i :: T else T) := fun y hy => by
    cases isLoad o.op
    · exact hy
    · exact List.mem_cons_of_mem _ hy
  have hjlt : ∀ {L : Array Bool} {j : Nat}, j ∈ Region.ready .any ops L → j < ops.size := fun {L j} hj => by
    obtain ⟨_, oj, hoj, _⟩ := mem_ready.1 hj
    exact (Array.getElem?_eq_some_iff.1 hoj).1
  cases p with
  | none =>
    have hki' : KI ops (L.setIfInBounds i true) obs A := Xe.KI.mono hki
    refine wpAnyK_first (Ci := fun _ => True) (v := v) hi (Region.noSelect_spec hsel) (fun c a w => hQ c a w _ _) hlt (fun L' j w' _ hsz'' _ hj _ h => ⟨Xe.first_S hi h1 L' j w' hsz'' (hjlt hj) h, trivial⟩) f L a w hD hsz (Region.free_spec hi h2) hrd ?_ trivial (Xe.KI.so hki' iv) ?_
    · exact (hy a w iv).imp (fun ⟨g1, g2⟩ => ⟨g1, fun w' _ => g2 w' (fun q hq => by cases hq)⟩) id
    · exact h f hsel hQ h4 (by omega) (fun y hy => hTsub _ (hTo y (by simpa using hy))) _ _ (hD.set hrd) hsz' (by simpa using hki') (hput a w iv)
  | some p =>
    obtain ⟨hld, jt, At, t1⟩ := hp p rfl
    have hki' : KI ops (L.setIfInBounds i true) ((i, p) :: obs) A := fun y hy => by
      rcases List.mem_cons.1 hy with rfl | hy
      · exact .inr ⟨jt, At, t1⟩
      · exact Xe.KI.mono hki y hy
    have hci : SS [p] w := by
      obtain ⟨R, F, _, ok, st⟩ := iv.mem
      exact ⟨R, F, ok, Xe.star_of t1 st⟩
    refine wpAnyK_mono (S := SO ops ((i, p) :: obs)) (fun L w h y hy => h y (List.mem_cons_of_mem _ hy)) _ _ _ _ ?_
    refine wpAnyK_first (Ci := SS [p]) (v := v) hi (Region.noSelect_spec hsel) (fun c a w => hQ c a w _ _) hlt (fun L' j w' hD' hsz'' hun hj _ h => ⟨Xe.first_S hi h1 L' j w' hsz'' (hjlt hj) h, Xe.first_C hi h1 L' j w' hD' hun hj h⟩) f L a w hD hsz (Region.free_spec hi h2) hrd ?_ hci (Xe.KI.so hki' iv) ?_
    · exact (hy a w iv).imp (fun ⟨g1, g2⟩ => ⟨g1, fun w' hw' => g2 w' (fun q hq => by cases hq; exact hw')⟩) id
    · refine h f hsel hQ h4 (by omega) (fun y hy => ?_) _ _ (hD.set hrd) hsz' hki' (hput a w iv)
      rcases List.mem_cons.1 hy with rfl | hy
      · simp [hld]
      · exact hTsub _ (hTo y hy)
theorem JS.q0 (hi : ops[i]? = some ⟨some d, op, ty, pos, af, none⟩) (hq : Qt P l [] ⟨some d, op, ty, pos, af, none⟩ v) (hd : Nat.blt d n = true) (h : JS P n C ops Q s (L.setIfInBounds i true) (bif isLoad op then i :: T else T) obs ((d, v) :: l) A) : JS P n C ops Q (.qt i s) L T obs l A :=
  JS.quiet hi none (fun _ h => by cases h) (fun a w iv => .inl ⟨by simp [Region.wanted], fun w' _ => hq a w' (fun _ => False) (fun _ => False) iv.holds ⟨fun _ h => h.elim, fun _ h => h.elim, fun _ h => h.elim⟩ trivial⟩) (fun a w iv => iv.put hd v) h
theorem JS.q1 {p : HP} (hi : ops[i]? = some ⟨some d, op, ty, pos, af, none⟩) (hl : isLoad op = true) (ht : take1 j A = some (p, A')) (hq : Qt P l [p] ⟨some d, op, ty, pos, af, none⟩ v) (hd : Nat.blt d n = true) (h : JS P n C ops Q s (L.setIfInBounds i true) (bif isLoad op then i :: T else T) ((i, p) :: obs) ((d, v) :: l) A) : JS P n C ops Q (.qt i s) L T obs l A :=
  JS.quiet hi (some p) (fun q h => by cases h; exact ⟨hl, j, A', ht⟩) (fun a w iv => .inl ⟨by simp [Region.wanted], fun w' hS => by obtain ⟨R, F, ok, st⟩ := hS p rfl; exact hq a w' R F iv.holds ok st⟩) (fun a w iv => iv.put hd v) h
theorem JS.q0g {k : Nat} {b : Bool} (hi : ops[i]? = some ⟨some d, op, ty, pos, af, some (k, b)⟩) (hj : (ops[k]?).bind (·.dst) = some t) (hg : get l t = some (.bool b)) (hq : Qt P l [] ⟨some d, op, ty, pos, af, some (k, b)⟩ v) (hd : Nat.blt d n = true) (h : JS P n C ops Q s (L.setIfInBounds i true) (bif isLoad op then i :: T else T) obs ((d, v) :: l) A) : JS P n C ops Q (.qt i s) L T obs l A :=
  JS.quiet hi none (fun _ h => by cases h) (fun a w iv => .inl ⟨by simp [Region.wanted, yields hj (iv.holds t _ hg)], fun w' _ => hq a w' (fun _ => False) (fun _ => False) iv.holds ⟨fun _ h => h.elim, fun _ h => h.elim, fun _ h => h.elim⟩ trivial⟩) (fun a w iv => iv.put hd v) h
theorem JS.out {k : Nat} {b c : Bool} (hi : ops[i]? = some ⟨some d, op, ty, pos, af, some (k, b)⟩) (hj : (ops[k]?).bind (·.dst) = some t) (hg : get l t = some (.bool c)) (hcb : (c == b) = false) (hd : Nat.blt d n = true) (h : JS P n C ops Q s (L.setIfInBounds i true) (bif isLoad op then i :: T else T) obs ((d, undef) :: l) A) : JS P n C ops Q (.qt i s) L T obs l A :=
  JS.quiet hi none (fun _ h => by cases h) (fun a w iv => .inr ⟨by simp [Region.wanted, yields hj (iv.holds t _ hg)]; intro e; subst e; simp at hcb, rfl⟩) (fun a w iv => iv.put hd undef) h
theorem JE.post (hki : KI ops L obs A) {chk : List Nat} (hk : Kept chk obs B) (hck : chkOk ops i chk T = true) {o : Oper} (hi : ops[i]? = some o) (he : isQuiet o.op = false) (hsz : L.size = ops.size) (hTo : ∀ y ∈ obs, y.1 ∈ T) : KI ops (L.setIfInBounds i true) obs B := fun y hy => by
  have h3 := List.all_eq_true.1 hck y.1 (hTo y hy)
  simp only [Bool.or_eq_true] at h3
  rcases h3 with h3 | h3
  · rcases hk.of y hy with h4 | h4
    · rw [h4] at h3; cases h3
    · exact .inr h4
  · exact .inl ⟨i, _, hi, Xe.getD_set_self (by rw [hsz]; exact (Array.getElem?_eq_some_iff.1 hi).1), he, h3⟩
theorem JE.ef {chk : List Nat} {q : Value → List HP → Prop} (hi : ops[i]? = some ⟨some d, op, ty, pos, af, none⟩) (ho : O1 P n C l A ⟨some d, op, ty, pos, af, none⟩ q) (hd : Nat.blt d n = true) (h : ∀ v B, q v B → Kept chk obs B ∧ JS P n C ops Q s (L.setIfInBounds i true) T obs ((d, v) :: l) B) : JE P n C ops Q i chk s L T obs l A := by
  intro fuel hsel hQ hck heff hs hfu hTo hrd a w hD hsz hki iv
  rw [Xe.wpOp_some hi, if_pos (by simp [Region.wanted])]
  refine .inl (ho a w iv _ Q fun v B w' hq h1 _ => ?_)
  obtain ⟨hk, hj⟩ := h v B hq
  have iv' := h1 d rfl hd
  have hki' := JE.post hki hk hck hi (heff _ hi) hsz hTo
  exact ⟨Xe.KI.so hki' iv', hj fuel hsel hQ hs hfu hTo _ _ (hD.set hrd) (by simpa using hsz) hki' iv'⟩
theorem JE.sk {chk : List Nat} (hi : ops[i]? = some ⟨none, op, ty, pos, af, none⟩) (ho : O1 P n C l A ⟨none, op, ty, pos, af, none⟩ (fun _ B' => B' = B)) (hk : Kept chk obs B) (h : JS P n C ops Q s (L.setIfInBounds i true) T obs l B) : JE P n C ops Q i chk s L T obs l A := by
  intro fuel hsel hQ hck heff hs hfu hTo hrd a w hD hsz hki iv
  rw [Xe.wpOp_some hi, if_pos (by simp [Region.wanted])]
  refine .inl (ho a w iv _ Q fun v B' w' hq _ h2 => ?_)
  subst hq
  have iv' := h2 rfl
  have hki' := JE.post hki hk hck hi (heff _ hi) hsz hTo
  exact ⟨Xe.KI.so hki' iv', h fuel hsel hQ hs hfu hTo _ _ (hD.set hrd) (by simpa using hsz) hki' iv'⟩
theorem JS.e1 {chk : List Nat} (h : JE P n C ops Q i chk s L T obs l A) : JS P n C ops Q (.ef i chk s) L T obs l A := by
  intro fuel hsel hQ hs hfu hTo a w hD hsz hki iv
  simp only [schOk] at hs
  split at hs
  · rename_i o ho
    simp only [Bool.and_eq_true, Bool.not_eq_true', beq_iff_eq] at hs
    obtain ⟨⟨⟨h1, h2⟩, h3⟩, h4⟩ := hs
    simp only [stepsX] at hfu
    obtain ⟨f, rfl⟩ : ∃ f, fuel = f + 1 := ⟨fuel - 1, by omega⟩
    refine ⟨fun e => (by rw [h2] at e; cases e), fun i' hi' => ?_⟩
    rw [h2] at hi'
    simp only [List.mem_singleton] at hi'
    subst hi'
    exact h f hsel hQ h3 (fun o' ho' => by rw [ho] at ho'; injection ho' with ho'; subst ho'; exact h1) h4 (by omega) hTo (by rw [h2]; simp) a w hD hsz hki iv
  · simp at hs
theorem JS.e2 {ci cj : List Nat} (h1 : JE P n C ops Q i ci s1 L T obs l A) (h2 : JE P n C ops Q j cj s2 L T obs l A) : JS P n C ops Q (.fork i ci s1 j cj s2) L T obs l A := by
  intro fuel hsel hQ hs hfu hTo a w hD hsz hki iv
  simp only [schOk, Bool.and_eq_true, beq_iff_eq] at hs
  obtain ⟨⟨hs1, hs2⟩, hrdy⟩ := hs
  split at hs1
  · rename_i oi hoi
    split at hs2
    · rename_i oj hoj
      simp only [Bool.and_eq_true, Bool.not_eq_true'] at hs1 hs2
      obtain ⟨⟨a1, a2⟩, a3⟩ := hs1
      obtain ⟨⟨b1, b2⟩, b3⟩ := hs2
      simp only [stepsX] at hfu
      obtain ⟨f, rfl⟩ : ∃ f, fuel = f + 1 := ⟨fuel - 1, by omega⟩
      have m1 : stepsX s1 ≤ f := by have := Nat.le_max_left (stepsX s1) (stepsX s2); simp only [Nat.max_def] at hfu this; split at hfu <;> simp_all <;> omega
      have m2 : stepsX s2 ≤ f := by have := Nat.le_max_right (stepsX s1) (stepsX s2); simp only [Nat.max_def] at hfu this; split at hfu <;> simp_all <;> omega
      refine ⟨fun e => (by rw [hrdy] at e; cases e), fun z hz => ?_⟩
      rw [hrdy] at hz
      simp only [List.mem_cons, List.not_mem_nil, or_false] at hz
      rcases hz with rfl | rfl
      · exact h1 f hsel hQ a2 (fun o' ho' => by rw [hoi] at ho'; injection ho' with ho'; subst ho'; exact a1) a3 m1 hTo (by rw [hrdy]; simp) a w hD hsz hki iv
      · exact h2 f hsel hQ b2 (fun o' ho' => by rw [hoj] at ho'; injection ho' with ho'; subst ho'; exact b1) b3 m2 hTo (by rw [hrdy]; simp) a w hD hsz hki iv
    · simp at hs2
  · simp at hs1
end

/-! ### Results that lie in memory -/
inductive RS (P : Program) (l : Env) (A : List HP) : List ResultVar → List Value → Prop
  | nil : RS P l A [] []
  | tmp {t : Nat} {v : Value} {rs : List ResultVar} {vs : List Value} : get l t = some v → RS P l A rs vs → RS P l A (.tmp t :: rs) (v :: vs)
  | cell {x t b o : Nat} {v : Value} {rs : List ResultVar} {vs : List Value} : get l x = some (.pointer (some ⟨b, o, none⟩)) → Qt P l A ⟨none, .load t (.tmp x), 0, "", #[], none⟩ v → RS P l A rs vs → RS P l A (.cell x t :: rs) (v :: vs)
def hand (vs : List Value) : Value := match vs with
  | [v] => v
  | vs => .tuple vs.toArray
section
variable {P : Program} {n : Nat} {C : Ctx} {Q : Pst} {l : Env} {A A' L' : List HP} {x : Code}
theorem RS.run {rs : List ResultVar} {vs : List Value} (h : RS P l A rs vs) : ∀ (a : Act) w R F, Holds a l → Ok w R F → Star A w R F → (rs.mapM (Xe.resF a.tmps)).run P w = .ok vs w := by
  induction h with
  | nil => intro a w R F _ _ _; simp [pure]
  | @tmp t v rs vs h1 _ ih =>
    intro a w R F ha ok hs
    rw [List.mapM_cons]
    simp only [Sem.run_bind, Xe.resF, ha t v h1, Sem.run_pure, Result.andThen_ok, ih a w R F ha ok hs]
  | @cell x t b o v rs vs h1 h2 _ ih =>
    intro a w R F ha ok hs
    have h8 := h2 a w R F ha ok hs
    have h9 : (loadVar t ⟨b, o, none⟩).run P w = .ok v w := by
      have h1' : a.eval (.tmp x) = .pointer (some ⟨b, o, none⟩) := ha x _ h1
      simp only [execOp, h1', Instr.loadAt, Instr.sureAddr, Sem.run_bind, Sem.run_pure, Result.andThen_ok] at h8
      cases hr : (loadVar t ⟨b, o, none⟩).run P w with
      | ok v' w' => rw [hr] at h8; simp only [Result.andThen_ok, Result.ok.injEq, Next.value.injEq] at h8; rw [h8.1, h8.2]
      | halt e w' => rw [hr] at h8; simp [Result.andThen] at h8
    rw [List.mapM_cons]
    simp only [Sem.run_bind, Xe.resF, ha x _ h1, asAddr, Sem.run_pure, Result.andThen_ok, h9, ih a w R F ha ok hs]
theorem JN.backR {fn : Func} {q : Value → List HP → Prop} {rs : List ResultVar} {vs : List Value} (hr : fn.results = rs.toArray) (hs : RS P l A rs vs) (is : List Nat) (ht : takes is A = some (L', A')) (hq : q (hand vs) L') :
    JN n C (bodyPost P fn (fun e w' => ∃ v L', q v L' ∧ e = .returned v ∧ Turns C.w C.R C.F w' L') .ret) l A := by
  intro a w i
  obtain ⟨R, F, s, o, st⟩ := i.mem
  obtain ⟨F1, F2, h1, h2, hd, s1, _⟩ := Star.split (takes_star ht st)
  refine ⟨i.defers, hand vs, ?_, hand vs, L', hq, rfl, R, F, s, o, Star.monoF h1 s1⟩
  have h6 : (fn.results.mapM (Xe.resF a.tmps)).run P w = .ok vs.toArray w := by
    rw [hr, List.mapM_toArray]
    simp [hs.run a w R F i.holds o st]
  show (do
    let vs ← fn.results.mapM (Xe.resF a.tmps)
    pure (if h : vs.size = 1 then vs[0] else .tuple vs) : Sem Value).run P w = _
  simp only [Sem.run_bind, h6, Result.andThen_ok, Sem.run_pure]
  match vs with
  | [] => rfl
  | [v] => simp [hand]
  | u :: v :: vs => simp [hand]
/-! ### Loops, round by round -/
theorem J.unroll (k : Nat) (h : J P n C x (Exit.then (Code.rounds P x Q k) Q) l A) : J P n C (.loop x) Q l A := fun a w i => wp_loop_rounds (k + 1) (h a w i)
theorem JN.again {k : Nat} (h : J P n C x (Exit.then (Code.rounds P x Q k) Q) l A) : JN n C (Code.rounds P x Q (k + 1)) l A := h
end
end Go.Proofs.YthjbkngecgbioaaGreatDoor.Sl

/- The logic of blocks: append of slices, making, copying, cuts, bytes and texts. -/
namespace Go.Proofs.YthjbkngecgbioaaGreatDoor.Sl
open Go

/-! ### A slice's cells -/
theorem rd_cells {α : Type} {D : Kd α} {w : World} {R : Foot} {b : Nat} : ∀ {ys : List α} {o : Nat}, (∀ i x, ys[i]? = some x → ∃ cs, D.rel w R x cs ∧ RoCells w R b (o + i * D.sz) cs) →
    ∃ cs, Elems D w R ys cs ∧ ∀ j u, cs[j]? = some u → w.cell? ⟨b, o + j, none⟩ = some u
  | [], _, _ => ⟨[], rfl, fun j u h => by simp at h⟩
  | y :: ys, o, h => by
    obtain ⟨c1, h1, h2⟩ := h 0 y rfl
    obtain ⟨c2, h3, h4⟩ := rd_cells (ys := ys) (o := o + D.sz) (fun i x hx => by
      obtain ⟨cs, g1, g2⟩ := h (i + 1) x (by simpa using hx)
      refine ⟨cs, g1, ?_⟩
      rw [Nat.add_mul, Nat.one_mul] at g2
      rw [show o + D.sz + i * D.sz = o + (i * D.sz + D.sz) by omega]
      exact g2)
    have hl := D.len h1
    refine ⟨c1 ++ c2, ⟨c1, c2, rfl, h1, h3⟩, fun j u hj => ?_⟩
    by_cases hlt : j < c1.length
    · rw [List.getElem?_append_left hlt] at hj
      have := h2.2 j u hj
      simpa using this
    · rw [List.getElem?_append_right (by omega)] at hj
      have := h4 _ u hj
      rw [show o + j = o + D.sz + (j - c1.length) by omega]
      exact this
theorem Rd.src {α : Type} {D : Kd α} {w : World} {R : Foot} {A : Option Addr} {c : Nat} {ys : List α} (h : Rd D w R A c ys) (hne : ys ≠ []) : ∃ b o cs, A = some ⟨b, o, none⟩ ∧ Elems D w R ys cs ∧ ∀ j u, cs[j]? = some u → w.cell? ⟨b, o + j, none⟩ = some u := by
  cases ys with
  | nil => exact absurd rfl hne
  | cons y ys =>
    obtain ⟨b, o, _, rfl, _, _⟩ := h.2.2 0 y rfl
    obtain ⟨cs, h1, h2⟩ := rd_cells (D := D) (w := w) (R := R) (b := b) (o := o) (ys := y :: ys) (fun i x hx => by
      obtain ⟨b', o', cs, h1, h2, h3⟩ := h.2.2 i x hx
      simp only [Option.some.injEq, Addr.mk.injEq, and_true] at h1
      obtain ⟨rfl, rfl⟩ := h1
      exact ⟨cs, h2, h3⟩)
    exact ⟨b, o, cs, rfl, h1, h2⟩
/-- The first cells of a slice that is read. -/
theorem Rd.first {α : Type} {P : Program} {D : Kd α} {w : World} {R : Foot} {A : Option Addr} {c : Nat} {ys : List α} (h : Rd D w R A c ys) : ∃ cs, Elems D w R ys cs ∧ (Builtin.firstCells D.sz ys.length (.slice A ys.length c)).run P w = .ok cs.toArray w := by
  cases ys with
  | nil =>
    refine ⟨[], rfl, ?_⟩
    cases A <;> simp [Builtin.firstCells, loadCells, loadCellsFrom, Pure.pure]
  | cons y ys =>
    obtain ⟨b, o, cs, rfl, h1, h2⟩ := h.src (by simp)
    refine ⟨cs, h1, ?_⟩
    have hl : cs.length = (y :: ys).length * D.sz := h1.len
    simp only [Builtin.firstCells]
    rw [← hl]
    exact run_loadCells_list w _ cs (fun j v hj => by rw [add_none]; exact h2 j v hj)
section
variable {P : Program} {n : Nat} {C : Ctx} {Q : Pst} {l : Env} {A A' : List HP} {ops : Array Oper} {r : List Oper} {ty ty' : TypeId} {pos : String} {af : Array Edge} {dst : Option Tmp} {g : Option (Nat × Bool)} {x y z : Operand}
theorem row_le {α : Type} {D : Kd α} {T c : Nat} {Ad : Option Addr} {xs : List α} {w : World} {R F : Foot} (h : (row D T Ad c xs).h w R F) : xs.length ≤ c := by
  obtain ⟨inner, ho, _, _⟩ := h
  rcases ho.2 with ⟨h, h0⟩ | ⟨g, cap, cur, h, _, _, hn, _⟩
  · omega
  · simp at h; omega
/-- append(v, u...), u is only read. -/
theorem O1.appendRd {α : Type} {D : Kd α} {T t by_ c c2 : Nat} {Ad A2 : Option Addr} {xs ys : List α} (i j : Nat) (hE : elTy P t T D.sz by_ = true) (hpos : Nat.blt 0 D.sz = true) (hx : ev l x = some (.slice Ad xs.length c)) (hy : ev l y = some (.slice A2 ys.length c2))
    (hA : takes [i, j] A = some ([row D T Ad c xs, rd D A2 c2 ys], A')) (hb : (xs.length + ys.length) * by_ ≤ 140737488355328 ∧ xs.length + ys.length ≤ 140737488355328) :
    O1 P n C l A ⟨dst, .call { callee := .builtin .append, args := #[x, y], argTypes := #[t, t] }, ty, pos, af, g⟩ (fun v B => ∃ Ad' c', v = .slice Ad' (xs ++ ys).length c' ∧ B = row D T Ad' c' (xs ++ ys) :: rd D A2 c2 ys :: A') := by
  obtain ⟨hu, inf, zz, hi, hz, hs1, hs2, hs3⟩ := ElTy.of hE
  refine O1.loc [i, j] (L := [row D T Ad c xs, rd D A2 c2 ys]) (A' := A') hA (fun v L' => ∃ Ad' c', v = .slice Ad' (xs ++ ys).length c' ∧ L' = [row D T Ad' c' (xs ++ ys), rd D A2 c2 ys]) (fun a w R F hl ok hs => ?_) (by rintro _ _ ⟨Ad', c', rfl, rfl⟩; exact ⟨Ad', c', rfl, rfl⟩)
  obtain ⟨G1, G2, e1, e2, e3, hrow, ⟨H1, H2, f1, f2, f3, hrd, _⟩⟩ := hs
  have hle := row_le hrow
  have hsz : 0 < D.sz := Nat.le_of_ble_eq_true hpos
  have hszT : szTy P T = some D.sz := by simp [szTy, hi, hs1]
  by_cases hne : ys = []
  · subst hne
    obtain ⟨cs, hcs, hf⟩ := Rd.first (P := P) hrd
    have hcs0 : cs = [] := hcs
    subst hcs0
    refine ⟨.slice Ad xs.length c, _, w, ⟨Ad, c, by simp, rfl⟩, .inl ?_, R, F, .refl, ok, G1, G2, e1, e2, e3, by simpa using hrow, H1, H2, f1, f2, f3, hrd, trivial⟩
    simp only [execOp, resolve, invoke, builtin, Sem.run_bind, Sem.run_pure, Result.andThen_ok, List.map_toArray, List.map_cons, List.map_nil, hl.ev hx, hl.ev hy]
    cases Ad <;> cases A2 <;> simp [Builtin.append_, run_underlying hu, run_sizeOf hszT, Builtin.lenOf, Builtin.firstCells, loadCells, loadCellsFrom, hle, storeCells, Pure.pure, Sem.run]
  · obtain ⟨b, o, cs, rfl, hel2, hcell⟩ := Rd.src hrd hne
    obtain ⟨inner, ho, hF, hel⟩ := hrow
    rw [← hs1] at ho
    have ok1 : Ok w R F := ok
    have hFw : ∀ k, (Value.slice Ad xs.length c).ownBlock = some k → F k := fun k hk => e1 k (hF k hk)
    obtain ⟨Ad', c', w', hrun, ho', hg, hnew⟩ := append_new (P := P) (ty := ty) hu hi hz (by rw [hs3, hs1]) (by omega) ho ⟨b, o, none⟩ ys.length c2 cs (by rw [hel2.len, hs1]) (fun j u hj => by rw [add_none]; exact hcell j u hj)
      (fun u hu => one_old (hel2.one u hu)) (by have := hb.2; unfold maxLen; omega) (by rw [hs2]; exact hb.1)
    have hlen : (xs ++ ys).length = xs.length + ys.length := by rw [List.length_append]
    have hsame : Same w w' R := grown_same ok1 hFw hg
    refine ⟨.slice Ad' (xs ++ ys).length c', _, w', ⟨Ad', c', rfl, rfl⟩, .inl ?_, ?_⟩
    · rw [hlen]
      simp only [execOp, resolve, invoke, builtin, Sem.run_bind, Sem.run_pure, Result.andThen_ok, List.map_toArray, List.map_cons, List.map_nil, hl.ev hx, hl.ev hy, hrun]
    · have htu : Turns w R F w' [row D T Ad' c' (xs ++ ys)] := by
        refine Turns.grown (inner := inner) (inner' := inner ++ cs) ok1 hFw hg ?_ ?_ (Elems.append (hel.loc hsame) (hel2.loc hsame))
        · rw [hlen, ← hs1]; exact ho'
        · rw [hlen]; exact hnew
      obtain ⟨R', F', s', o', st'⟩ := htu
      obtain ⟨K1, K2, k1, k2, k3, k4, k5⟩ := st'
      exact ⟨R', F', s', o', K1, K2, k1, k2, k3, k4, fun _ => False, fun _ => False, fun _ h => h.elim, fun _ h => h.elim, fun _ h => h.elim, (hrd.loc hsame).mono s'.rr, trivial⟩
theorem JL.append2 {α : Type} {D : Kd α} {T d : Nat} {zs : List α} {op : Op} {B0 : List HP} (ho : O1 P n C l A ⟨some d, op, ty, pos, af, none⟩ (fun v B => ∃ Ad' c', v = .slice Ad' zs.length c' ∧ B = row D T Ad' c' zs :: B0)) (hd : Nat.blt d n = true)
    (h : ∀ Ad' c', JL P n C ops Q r ((d, .slice Ad' zs.length c') :: l) (row D T Ad' c' zs :: B0)) : JL P n C ops Q (⟨some d, op, ty, pos, af, none⟩ :: r) l A :=
  JL.ef ho hd (by rintro _ _ ⟨Ad', c', rfl, rfl⟩; exact h Ad' c')
/-- make([]T, n, c): zeros. -/
theorem O1.mk {α : Type} {D : Kd α} {T t by_ : Nat} {k1 k2 : IntKind} {m c : Nat} {zs : List α} {zc : List Value} (hE : elTy P t T D.sz by_ = true) (hzc : zeroTy P T = some zc) (hx : ev l x = some (.int k1 (m : Int))) (hy : ev l y = some (.int k2 (c : Int))) (hmc : m ≤ c) (hb : by_ * c ≤ 281474976710656 ∧ c ≤ 281474976710656)
    (hzs : zs.length = m ∧ ∀ w R, Elems D w R zs (List.replicate m zc).flatten) : O1 P n C l A ⟨dst, .makeSlice t x y, ty, pos, af, g⟩ (fun v B => ∃ Ad' c', v = .slice Ad' zs.length c' ∧ B = row D T Ad' c' zs :: A) := by
  obtain ⟨hu, inf, zz, hi, hz, hs1, hs2, hs3⟩ := ElTy.of hE
  refine O1.loc [] rfl (fun v' L' => ∃ Ad' c', v' = .slice Ad' zs.length c' ∧ L' = [row D T Ad' c' zs]) (fun a w R F hl ok _ => ?_) (by rintro _ _ ⟨Ad', c', rfl, rfl⟩; exact ⟨Ad', c', rfl, rfl⟩)
  have hzz : zz.cells.toList = zc := by simp [zeroTy, hi, hz] at hzc; exact hzc
  have hb1 : ((by_ * c : Nat) : Int) ≤ 281474976710656 := by omega
  rw [Int.natCast_mul] at hb1
  have hrun := run_make (P := P) w t T inf zz hu hi hz k1 k2 (m : Int) (c : Int) (by omega) (by omega) (by rw [hs2]; exact hb1) (by omega)
  simp only [Int.toNat_natCast] at hrun
  have hmade : (madeCells zz.cells (c * inf.size)) = (List.replicate c zc).flatten.toArray := by
    have := Xe.made_eq (sz := inf.size) (by rw [hs3, hs1]) c zz.cells (fun _ => rfl)
    unfold madeCells
    rw [this, hzz]
  have hzl : zc.length = D.sz := by rw [← hzz]; simp [hs3]
  have htk : (List.replicate c zc).flatten.take (m * D.sz) = (List.replicate m zc).flatten := by
    rw [show c = m + (c - m) by omega, ← List.replicate_append_replicate, List.flatten_append]
    rw [List.take_left' (by rw [Xe.rep_eq, hzl])]
  refine ⟨_, _, w.alloc (.cells (madeCells zz.cells (c * inf.size)) T), ⟨some ⟨w.heap.size, 0, none⟩, c, rfl, rfl⟩, .inl ?_, ?_⟩
  · rw [hzs.1]
    simp only [execOp, hl.ev hx, hl.ev hy, Sem.run_bind, hrun, Result.andThen_ok, Sem.run_pure]
  · rw [hmade]
    refine ⟨R, fun b => b = w.heap.size, ⟨rfl, rfl, rfl, by simp, fun k hk _ => ?_, fun _ h => h, fun _ h => .inl h, fun k hk => .inr (by omega)⟩, ⟨fun k hk => ?_, fun k hk => ?_, fun k hk e => ?_⟩,
      fun b => b = w.heap.size, fun _ => False, fun _ h => h, fun _ h => h.elim, fun _ _ h => h, ⟨(List.replicate m zc).flatten, ⟨?_, .inr ⟨w.heap.size, c, (List.replicate c zc).flatten.toArray, rfl, Nat.zero_le _, ?_, by rw [hzs.1]; exact hmc, by unfold maxLen; omega, ?_, ?_⟩⟩, fun b hb => by simp [Value.ownBlock] at hb; exact hb.symm, hzs.2 _ _⟩, trivial⟩
    · show (w.heap.push _)[k]? = _
      simp [Array.getElem?_push, show k ≠ w.heap.size by omega]
    · have := ok.r k hk; simp; omega
    · simp; omega
    · have := ok.r k hk; omega
    · rw [Xe.rep_eq, hzl, hzs.1]
    · show (w.heap.push _)[w.heap.size]? = _
      simp
    · simp only [List.size_toArray]; rw [Xe.rep_eq, hzl]
    · rw [hzs.1]; exact htk
/-- copy(v, u): v's row is written over whole; u is a row of its own. -/
theorem O1.copyRow {α : Type} {D : Kd α} {T t by_ c c2 : Nat} {Ad A2 : Option Addr} {xs ys : List α} {tys : Array TypeId} (i j : Nat) (htys : tys = #[t, t]) (hE : elTy P t T D.sz by_ = true) (hx : ev l x = some (.slice Ad xs.length c)) (hy : ev l y = some (.slice A2 ys.length c2))
    (hA : takes [i, j] A = some ([row D T Ad c xs, row D T A2 c2 ys], A')) (hlen : ys.length = xs.length) :
    O1 P n C l A ⟨dst, .call { callee := .builtin .copy, args := #[x, y], argTypes := tys }, ty, pos, af, g⟩ (fun v B => v = .int .i64 xs.length ∧ B = row D T Ad c ys :: row D T A2 c2 ys :: A') := by
  subst htys
  obtain ⟨hu, inf, zz, hi, hz, hs1, hs2, hs3⟩ := ElTy.of hE
  refine O1.loc [i, j] (L := [row D T Ad c xs, row D T A2 c2 ys]) (A' := A') hA (fun v L' => v = .int .i64 xs.length ∧ L' = [row D T Ad c ys, row D T A2 c2 ys]) (fun a w R F hl ok hs => ?_) (by rintro _ _ ⟨rfl, rfl⟩; exact ⟨rfl, rfl⟩)
  obtain ⟨G1, G2, e1, e2, e3, hrow, ⟨H1, H2, f1, f2, f3, hrow2, _⟩⟩ := hs
  have hszT : szTy P T = some D.sz := by simp [szTy, hi, hs1]
  obtain ⟨in1, ho1, hF1, hel1⟩ := hrow
  obtain ⟨in2, ho2, hF2, hel2⟩ := hrow2
  have hl2 := hel2.len
  have hl1 := hel1.len
  have hfirst : (Builtin.firstCells D.sz ys.length (.slice A2 ys.length c2)).run P w = .ok in2.toArray w := by
    rcases ho2.2 with ⟨h, h0⟩ | ⟨g, cap, cur, h, _⟩
    · have : in2 = [] := List.eq_nil_of_length_eq_zero (by rw [hl2, h0]; simp)
      subst this
      rw [h]
      simp [Builtin.firstCells, Pure.pure]
    · simp only [Value.slice.injEq] at h
      obtain ⟨rfl, _, rfl⟩ := h
      simp only [Builtin.firstCells]
      rw [← hl2]
      exact run_loadCells_list w _ in2 (fun j v hj => by
        rw [add_none, Nat.zero_add]
        have hlt : j < ys.length * D.sz := by rw [← hl2]; exact (List.getElem?_eq_some_iff.1 hj).1
        rw [World.ownsRow.cellAt ho2 j hlt]; exact hj)
  have hmin : Nat.min ys.length xs.length = ys.length := by rw [hlen]; exact Nat.min_self _
  rcases ho1.2 with ⟨h, h0⟩ | ⟨g, cap, cur, h, _, hg, hnc, hcm, hcs, htk⟩
  · have hx0 : xs = [] := List.eq_nil_of_length_eq_zero h0
    subst hx0
    have hy0 : ys = [] := List.eq_nil_of_length_eq_zero (by simpa using hlen)
    subst hy0
    simp only [List.length_nil] at h
    simp only [Value.slice.injEq] at h
    obtain ⟨rfl, _, rfl⟩ := h
    have : in2 = [] := List.eq_nil_of_length_eq_zero (by rw [hl2]; simp)
    subst this
    refine ⟨_, _, w, ⟨rfl, rfl⟩, .inl ?_, R, F, .refl, ok, G1, G2, e1, e2, e3, ⟨in1, ho1, hF1, hel1⟩, H1, H2, f1, f2, f3, ⟨[], ho2, hF2, hel2⟩, trivial⟩
    simp only [execOp, resolve, invoke, builtin, Sem.run_bind, Sem.run_pure, Result.andThen_ok, List.map_toArray, List.map_cons, List.map_nil, hl.ev hx, hl.ev hy, Builtin.copy_]
    simp only [List.length_nil] at hfirst
    simp [run_underlying hu, Builtin.lenOf, run_sizeOf hszT, hfirst, goInt, Pure.pure, Sem.run]
  · simp only [Value.slice.injEq, true_and] at h
    obtain ⟨rfl, rfl⟩ := h
    have hE1 : (Xe.EntH g c T D.sz in1).h w R G1 := ⟨hF1 g rfl, cur, hg, hcs, by rw [hl1, hcs]; exact Nat.mul_le_mul_right _ hnc, by rw [hl1]; exact htk, hcm⟩
    have hst := run_storeCells_cells (P := P) g 0 in2 0 w (fun j hj => by
        rw [Nat.add_zero, Nat.zero_add, World.ownsRow.cellAt ho1 j (by rw [hl2, hlen] at hj; exact hj), List.getElem?_eq_getElem (by rw [hl1, ← hlen, ← hl2]; exact hj)]; rfl) (fun j hj => World.ownsRow.frozenAt ho1 _)
      (fun u hu => one_old (hel2.one u hu))
    have hput : putL in1 0 in2 = in2 := by
      have key : ∀ (us pre mid : List Value), mid.length = us.length → putL (pre ++ mid) pre.length us = pre ++ us := by
        intro us
        induction us with
        | nil => intro pre mid h; have : mid = [] := List.eq_nil_of_length_eq_zero h; subst this; rfl
        | cons u us ih =>
          intro pre mid h
          cases mid with
          | nil => simp at h
          | cons m mid =>
            simp only [putL]
            have := ih (pre ++ [u]) mid (by simpa using h)
            simp only [List.length_append, List.length_cons, List.length_nil, Nat.zero_add, List.append_assoc, List.cons_append, List.nil_append] at this
            rw [← this]
            congr 1
            simp
      have := key in2 [] in1 (by rw [hl1, hl2, hlen])
      simpa using this
    have ok1 : Ok w R G1 := ⟨ok.r, fun b hb => ok.f b (e1 b hb), fun b hb hF => ok.d b hb (e1 b hF)⟩
    have htu := Xe.Turns.setE (us := in2) (o := 0) ok1 hE1 (by rw [hl1, hl2, hlen]; omega)
    rw [hput] at htu
    have htu2 := Turns.frame ok e1 e2 e3 htu (M := [row D T A2 c2 ys]) ⟨H1, H2, f1, f2, f3, ⟨in2, ho2, hF2, hel2⟩, trivial⟩
    refine ⟨_, _, w.setCells g 0 in2, ⟨rfl, rfl⟩, .inl ?_, ?_⟩
    · simp only [execOp, resolve, invoke, builtin, Sem.run_bind, Sem.run_pure, Result.andThen_ok, List.map_toArray, List.map_cons, List.map_nil, hl.ev hx, hl.ev hy, Builtin.copy_]
      simp [run_underlying hu, Builtin.lenOf, run_sizeOf hszT, hlen, goInt, Pure.pure, Sem.run]
      rw [← hlen, hfirst]
      simp [hst, hlen]
    · obtain ⟨R', F', s', o', K1, K2, k1, k2, k3, k4, k5⟩ := htu2
      refine ⟨R', F', s', o', K1, K2, k1, k2, k3, ?_, k5⟩
      have hown := Xe.EntH.own (m := ys.length) k4 (by rw [hl2]; exact Nat.le_refl _) (by rw [hlen]; exact hnc)
      rw [List.take_of_length_le (by rw [hl2]; exact Nat.le_refl _)] at hown
      refine ⟨in2, hown, fun b hb => by simp [Value.ownBlock] at hb; subst hb; exact k4.1, ?_⟩
      have hsame : Same w (w.setCells g 0 in2) R := fun b hb => (setCells_same (b := g) (vs := in2) (o := 0) (w := w)).2.2.2.2 b (fun e => by subst e; exact ok1.d _ hb (hF1 _ rfl))
      exact (hel2.loc hsame).mono s'.rr
/-! ### Cuts -/
def cutA (A : Option Addr) (c lo sz : Nat) : Option Addr := if c = lo then A else A.map (·.add (lo * sz))
/-- A cut's bounds: from lo to hi. -/
def Bnd (P : Program) (l : Env) (xl xh : Option Operand) (len c lo hi : Nat) : Prop := ∀ (a : Act) w, Holds a l → (Instr.sliceBounds true len c (xl.map a.eval) (xh.map a.eval) none).run P w = .ok (lo, hi, c) w
theorem bnd_run {P : Program} {w : World} {n m : Nat} {k : IntKind} (c : BoundsCode) (h : n ≤ m) : (Instr.sliceBound (.int k (n : Int)) m c).run P w = .ok n w := by
  unfold Instr.sliceBound
  have h0 : (0 : Int) ≤ (n : Int) ∧ (n : Int) ≤ (m : Int) := ⟨by omega, by omega⟩
  simp [asIntOf, h0, Sem.run, Pure.pure]
theorem Bnd.nn {len c : Nat} : Bnd P l none none len c 0 len := fun a w _ => by simp [Instr.sliceBounds, Sem.run, Pure.pure]
theorem Bnd.ln {len c lo : Nat} {k : IntKind} (h : ev l x = some (.int k (lo : Int))) (hle : lo ≤ len) : Bnd P l (some x) none len c lo len := fun a w ha => by
  simp [Instr.sliceBounds, ha.ev h, bnd_run _ hle, Sem.run, Pure.pure]
theorem Bnd.nh {len c hi : Nat} {k : IntKind} (h : ev l x = some (.int k (hi : Int))) (hle : hi ≤ c) : Bnd P l none (some x) len c 0 hi := fun a w ha => by
  simp [Instr.sliceBounds, ha.ev h, bnd_run _ hle, Sem.run, Pure.pure]
theorem Bnd.lh {len c lo hi : Nat} {k k' : IntKind} (h : ev l x = some (.int k (lo : Int))) (h' : ev l y = some (.int k' (hi : Int))) (hle : lo ≤ hi) (hle2 : hi ≤ c) : Bnd P l (some x) (some y) len c lo hi := fun a w ha => by
  simp [Instr.sliceBounds, ha.ev h, ha.ev h', bnd_run _ hle, bnd_run _ hle2, Sem.run, Pure.pure]
theorem Qt.cut {T e s len c lo hi : Nat} {Ad : Option Addr} {xl xh : Option Operand} (hT : P.underlying T = some (.slice e)) (hz : szTy P e = some s) (hx : ev l x = some (.slice Ad len c)) (hb : Bnd P l xl xh len c lo hi) : Qt P l A ⟨dst, .slice T x xl xh none, ty, pos, af, g⟩ (.slice (cutA Ad c lo s) (hi - lo) (c - lo)) :=
  fun a w _ _ hl _ _ => by
    have h1 := hb a w hl
    simp only [execOp, hl.ev hx, Instr.sliceAt, Instr.slice, Sem.run_bind, run_underlying hT, Result.andThen_ok, Option.map_none, h1, run_sizeOf hz, Sem.run_pure, cutA]
/-- A slice of a slice that is read. -/
theorem rd_cut {α : Type} {D : Kd α} {Ad : Option Addr} {c lo hi : Nat} {xs : List α} (h1 : lo ≤ hi) (h2 : hi ≤ xs.length) : ∀ w R F, Star [rd D Ad c xs] w R F → Star [rd D (cutA Ad c lo D.sz) (c - lo) ((xs.take hi).drop lo), rd D Ad c xs] w R F := by
  intro w R F hs
  obtain ⟨F1, F2, f1, f2, f3, hrd, _⟩ := hs
  refine ⟨fun _ => False, F, fun _ h => h.elim, fun _ h => h, fun _ h => h.elim, ?_, F1, F2, f1, f2, f3, hrd, trivial⟩
  obtain ⟨g1, g2, g3⟩ := hrd
  have hlen : ((xs.take hi).drop lo).length = hi - lo := by rw [List.length_drop, List.length_take]; omega
  refine ⟨by rw [hlen]; omega, by rw [hlen]; omega, fun i v hv => ?_⟩
  have hi2 : i < hi - lo := by rw [← hlen]; exact (List.getElem?_eq_some_iff.1 hv).1
  have hv2 : xs[lo + i]? = some v := by
    rw [List.getElem?_drop, List.getElem?_take] at hv
    split at hv
    · exact hv
    · simp at hv
  obtain ⟨b, o, cs, rfl, k1, k2⟩ := g3 _ _ hv2
  refine ⟨b, o + lo * D.sz, cs, ?_, k1, ?_⟩
  · unfold cutA
    rw [if_neg (by omega)]
    simp [add_none]
  · rw [Nat.add_assoc, ← Nat.add_mul]; exact k2
/-! ### Bytes and texts -/
abbrev kB : Kd Int := Kd.int .u8
def bytesOf (s : ByteArray) : List Int := s.data.toList.map fun b => (b.toNat : Int)
def textOf (l : List Int) : ByteArray := ⟨(l.map fun i => UInt8.ofNat i.toNat).toArray⟩
theorem bytesOf_length (s : ByteArray) : (bytesOf s).length = s.size := by
  rw [bytesOf, List.length_map, Array.length_toList]
  rfl
theorem bytesOf_in (s : ByteArray) : ∀ i ∈ bytesOf s, 0 ≤ i ∧ i ≤ 255 := by
  intro i hi
  simp only [bytesOf, List.mem_map] at hi
  obtain ⟨b, _, rfl⟩ := hi
  have := b.toNat_lt
  omega
/-- []byte(s). -/
theorem O1.toBytes {S T e : Nat} {s : ByteArray} (hS : P.underlying S = some .string) (hT : P.underlying T = some (.slice e)) (he : P.underlying e = some (.int .u8)) (hx : ev l x = some (.string s)) (hb : s.size ≤ big) :
    O1 P n C l A ⟨dst, .convert S T x, ty, pos, af, g⟩ (fun v B => ∃ Ad c, v = .slice Ad (bytesOf s).length c ∧ B = rd kB Ad c (bytesOf s) :: A) := by
  refine O1.loc [] rfl (fun v' L' => ∃ Ad c, v' = .slice Ad (bytesOf s).length c ∧ L' = [rd kB Ad c (bytesOf s)]) (fun a w R F hl ok _ => ?_) (by rintro _ _ ⟨Ad', c', rfl, rfl⟩; exact ⟨Ad', c', rfl, rfl⟩)
  have hrun := run_bytes_of_string (P := P) w S T e s hS hT he
  have hge := grownCap_ge w s.size 0 e
  refine ⟨_, _, _, ⟨some ⟨w.heap.size, 0, none⟩, grownCap w s.size 0 e, rfl, rfl⟩, .inl (by rw [bytesOf_length]; simp only [execOp, hl.ev hx, Sem.run_bind, hrun, Result.andThen_ok, Sem.run_pure]; rfl), ?_⟩
  refine ⟨fun b => R b ∨ b = w.heap.size, fun _ => False, ⟨rfl, rfl, rfl, by simp, fun k hk _ => ?_, fun _ h => .inl h, fun k hk => hk.elim .inl (fun h => .inr (.inr (by omega))), fun k hk => hk.elim⟩, ⟨fun k hk => ?_, fun k hk => hk.elim, fun k hk e => e⟩,
      fun _ => False, fun _ => False, fun _ h => h, fun _ h => h, fun _ h => h.elim, ⟨by rw [bytesOf_length]; exact hge, by rw [bytesOf_length]; exact hb, fun i v hv => ⟨w.heap.size, 0, [.int .u8 v], rfl, ⟨rfl, ?_⟩, .inr rfl, fun j u hj => ?_⟩⟩, trivial⟩
  · show (w.drew.heap.push _)[k]? = _
    rw [Array.getElem?_push, if_neg (by show k ≠ w.heap.size; omega)]
    rfl
  · rcases hk with hk | hk
    · have := ok.r k hk; simp; omega
    · simp; omega
  · exact bytesOf_in s v (List.mem_of_getElem? hv)
  · cases j with
    | zero =>
      simp only [List.getElem?_cons_zero, Option.some.injEq] at hj
      subst hj
      have hi : i < s.data.size := by have := (List.getElem?_eq_some_iff.1 hv).1; rw [bytesOf_length] at this; exact this
      have := World.cell?_alloc_mark w.drew (bytesRow s (grownCap w s.size 0 e)) e ((bytesRow s (grownCap w s.size 0 e)).size, (bytesRow s (grownCap w s.size 0 e)).size + 1) i
      have h2 := bytesRow_at s (grownCap w s.size 0 e) i hi
      simp only [show kB.sz = 1 from rfl, Nat.zero_add, Nat.mul_one, Nat.add_zero]
      rw [show w.drew.heap.size = w.heap.size from rfl] at this
      rw [this, h2]
      have h3 : (bytesOf s)[i]? = some ((s.data[i]).toNat : Int) := by
        simp only [bytesOf, List.getElem?_map]
        rw [show s.data.toList[i]? = some s.data[i] by simp]
        rfl
      rw [h3] at hv
      simp only [Option.some.injEq] at hv
      rw [hv]
    | succ j => simp at hj
/-- string(b). -/
theorem Qt.toText {S T e c : Nat} {Ad : Option Addr} {xs : List Int} (i : Nat) (hS : P.underlying S = some (.slice e)) (he : P.underlying e = some (.int .u8)) (hT : P.underlying T = some .string) (hx : ev l x = some (.slice Ad xs.length c)) (hA : take1 i A = some (rd kB Ad c xs, A')) :
    Qt P l A ⟨dst, .convert S T x, ty, pos, af, g⟩ (.string (textOf xs)) := by
  intro a w R F hl _ hs
  obtain ⟨F1, _, hrd⟩ := hs.has hA
  obtain ⟨cs, h1, h2⟩ := Rd.first (P := P) hrd
  have hcs : cs = xs.map (Value.int .u8) := by
    have key : ∀ (xs : List Int) (cs : List Value), Elems kB w R xs cs → cs = xs.map (Value.int .u8) := by
      intro xs
      induction xs with
      | nil => intro cs h; exact h
      | cons x xs ih =>
        intro cs h
        obtain ⟨c1, c2, rfl, ⟨rfl, _⟩, g2⟩ := h
        rw [ih c2 g2]
        rfl
    exact key xs cs h1
  subst hcs
  have hfold : ∀ (ns : List Int) (acc : ByteArray), ns.foldl (fun r n => r.push (UInt8.ofNat n.toNat)) acc = ⟨acc.data ++ (ns.map fun i => UInt8.ofNat i.toNat).toArray⟩ := by
    intro ns
    induction ns with
    | nil => intro acc; simp
    | cons m ns ih => intro acc; rw [List.foldl_cons, ih]; simp [ByteArray.push]
  have hb : (Conv.bytesToString (.slice Ad xs.length c)).run P w = .ok (.string (textOf xs)) w := by
    cases Ad with
    | none =>
      have hx0 : xs = [] := by
        cases xs with
        | nil => rfl
        | cons y ys => obtain ⟨b, o, _, h, _⟩ := hrd.2.2 0 y rfl; cases h
      subst hx0
      simp [Conv.bytesToString, textOf, Pure.pure]
      rfl
    | some ad =>
      have h3 : (loadCells ad xs.length).run P w = .ok (xs.map (Value.int .u8)).toArray w := by
        have := h2
        simp only [Builtin.firstCells] at this
        simpa [kB, Kd.int] using this
      rw [run_bytesToString w ad xs.length c xs h3, hfold]
      have e0 : ByteArray.empty.data = #[] := rfl
      rw [e0]
      simp [textOf]
  simp only [execOp, hl.ev hx, Sem.run_bind]
  rw [run_convert_bytes_string w S T e _ _ _ hS he hT, hb]
  rfl
end
end Go.Proofs.YthjbkngecgbioaaGreatDoor.Sl

/- The logic of blocks: elements of slices that are read; fields and elements of values; results that nobody takes. -/
namespace Go.Proofs.YthjbkngecgbioaaGreatDoor.Sl
open Go

section
variable {P : Program} {n : Nat} {C : Ctx} {Q : Pst} {l : Env} {A A' : List HP} {ops : Array Oper} {r : List Oper} {cc : Code} {ty ty' : TypeId} {pos : String} {af : Array Edge} {dst : Option Tmp} {g : Option (Nat × Bool)} {x y z : Operand}
theorem Inv.elem {α : Type} {D : Kd α} {Ad : Option Addr} {c k : Nat} {xs : List α} {u : α} {a : Act} {w : World} (i : Nat) (hA : take1 i A = some (rd D Ad c xs, A')) (hu : xs[k]? = some u) (iv : Inv n C l A a w) :
    ∃ b o cs, Ad = some ⟨b, o, none⟩ ∧ Inv n C l (roc b (o + k * D.sz) cs :: kd D u cs :: A) a w := by
  obtain ⟨R, F, s, ok, st⟩ := iv.mem
  obtain ⟨F1, _, hrd⟩ := st.has hA
  obtain ⟨b, o, cs, h1, h2, h3⟩ := hrd.2.2 k u hu
  exact ⟨b, o, cs, h1, iv.size, iv.defers, iv.holds, R, F, s, ok, fun _ => False, F, fun _ h => h.elim, fun _ h => h, fun _ h => h.elim, h3, fun _ => False, F, fun _ h => h.elim, fun _ h => h, fun _ h => h.elim, h2, st⟩
theorem J.elem {α : Type} {D : Kd α} {Ad : Option Addr} {c k : Nat} {xs : List α} {u : α} (i : Nat) (hA : take1 i A = some (rd D Ad c xs, A')) (hu : xs[k]? = some u) (h : ∀ b o cs, Ad = some ⟨b, o, none⟩ → J P n C cc Q l (roc b (o + k * D.sz) cs :: kd D u cs :: A)) : J P n C cc Q l A :=
  fun a w iv => let ⟨b, o, cs, h1, h2⟩ := iv.elem i hA hu; h b o cs h1 a w h2
theorem JL.elem {α : Type} {D : Kd α} {Ad : Option Addr} {c k : Nat} {xs : List α} {u : α} (i : Nat) (hA : take1 i A = some (rd D Ad c xs, A')) (hu : xs[k]? = some u) (h : ∀ b o cs, Ad = some ⟨b, o, none⟩ → JL P n C ops Q r l (roc b (o + k * D.sz) cs :: kd D u cs :: A)) : JL P n C ops Q r l A :=
  fun a w iv => let ⟨b, o, cs, h1, h2⟩ := iv.elem i hA hu; h b o cs h1 a w h2
theorem J.elemS {α : Type} {D : Kd α} {b o c k : Nat} {xs : List α} {u : α} (i : Nat) (hA : take1 i A = some (rd D (some ⟨b, o, none⟩) c xs, A')) (hu : xs[k]? = some u) (h : ∀ cs, J P n C cc Q l (roc b (o + k * D.sz) cs :: kd D u cs :: A)) : J P n C cc Q l A :=
  J.elem i hA hu (fun _ _ cs e => by simp only [Option.some.injEq, Addr.mk.injEq, and_true] at e; obtain ⟨rfl, rfl⟩ := e; exact h cs)
theorem JL.elemS {α : Type} {D : Kd α} {b o c k : Nat} {xs : List α} {u : α} (i : Nat) (hA : take1 i A = some (rd D (some ⟨b, o, none⟩) c xs, A')) (hu : xs[k]? = some u) (h : ∀ cs, JL P n C ops Q r l (roc b (o + k * D.sz) cs :: kd D u cs :: A)) : JL P n C ops Q r l A :=
  JL.elem i hA hu (fun _ _ cs e => by simp only [Option.some.injEq, Addr.mk.injEq, and_true] at e; obtain ⟨rfl, rfl⟩ := e; exact h cs)
/-- What an operation gives and nobody takes. -/
theorem JL.en {op : Op} {q : Value → List HP → Prop} (ho : O1 P n C l A ⟨none, op, ty, pos, af, none⟩ q) (h : ∀ v B, q v B → JL P n C ops Q r l B) : JL P n C ops Q (⟨none, op, ty, pos, af, none⟩ :: r) l A := by
  intro a w i
  refine wpList_plain rfl fun K hK => ?_
  exact ho a w i K Q fun v B w' hq _ h2 => hK _ _ (h v B hq _ _ (h2 rfl))
theorem JL.calln {op : Op} {q0 : Value → List HP → Prop} (ho : O1 P n C l A ⟨none, op, ty, pos, af, none⟩ (fun v B => ∃ L', q0 v L' ∧ B = L' ++ A')) (h : ∀ v L', q0 v L' → JL P n C ops Q r l (L' ++ A')) : JL P n C ops Q (⟨none, op, ty, pos, af, none⟩ :: r) l A :=
  JL.en ho (by rintro v _ ⟨L', hq, rfl⟩; exact h v L' hq)
/-- A field's type and place. -/
def fldTy (P : Program) (s i : Nat) : Option (Nat × Nat) := match P.underlying s with
  | some (.struct fs) => (fs[i]?).map fun f => (f.type, f.offset)
  | _ => none
theorem Qt.fld {s i t off : Nat} {cs : Array Value} {v : Value} (hf : fldTy P s i = some (t, off)) (hp : plainTy P t = true) (hx : ev l x = some (.agg cs)) (hv : cs[off]? = some v) (_ : off = off) : Qt P l A ⟨dst, .field s x i, ty, pos, af, g⟩ v := by
  intro a w _ _ hl _ _
  unfold fldTy at hf
  split at hf
  · rename_i fs hu
    cases hfs : fs[i]? with
    | none => simp [hfs] at hf
    | some f =>
      simp only [hfs, Option.map_some, Option.some.injEq, Prod.mk.injEq] at hf
      obtain ⟨rfl, rfl⟩ := hf
      have hpt := Xe.run_part (P := P) (w := w) hp hv
      simp [execOp, hl.ev hx, Instr.field, run_underlying hu, hfs, asAgg, hpt, Pure.pure, Sem.run]
  · simp at hf
/-- An element of an array that is a value. -/
theorem Qt.idx_arr {T e s len : Nat} {k : IntKind} {m : Int} {cs : Array Value} {v : Value} (hT : P.underlying T = some (.array len e)) (hz : szTy P e = some s) (hp : plainTy P e = true) (hx : ev l x = some (.agg cs)) (hy : ev l y = some (.int k m)) (h0 : 0 ≤ m) (hm : m < len) (hv : cs[m.toNat * s]? = some v) :
    Qt P l A ⟨dst, .index T x y, ty, pos, af, g⟩ v := by
  intro a w _ _ hl _ _
  have hpt := Xe.run_part (P := P) (w := w) hp hv
  simp [execOp, hl.ev hx, hl.ev hy, Instr.index, asIntOf, run_underlying hT, h0, hm, run_sizeOf hz, hpt, Pure.pure, Sem.run]
theorem Qt.idx_arrA {T e s len : Nat} {k : IntKind} {m : Int} {cs : Array Value} {vs : List Value} (hT : P.underlying T = some (.array len e)) (hz : szTy P e = some s) (hp : aggTy P e = true) (hx : ev l x = some (.agg cs)) (hy : ev l y = some (.int k m)) (h0 : 0 ≤ m) (hm : m < len) (hv : (cs.extract (m.toNat * s) (m.toNat * s + s)) = vs.toArray) :
    Qt P l A ⟨dst, .index T x y, ty, pos, af, g⟩ (.agg vs.toArray) := by
  intro a w _ _ hl _ _
  have hpt : (part e cs (m.toNat * s)).run P w = .ok (.agg vs.toArray) w := by
    unfold part
    simp [run_isAgg_agg hp, run_sizeOf hz, hv, Pure.pure, Sem.run]
  simp [execOp, hl.ev hx, hl.ev hy, Instr.index, asIntOf, run_underlying hT, h0, hm, run_sizeOf hz, hpt, Pure.pure, Sem.run]
end
theorem JN.intro_pers {n : Nat} {C : Ctx} {K : Act → World → Prop} {l : Env} {A : List HP} {p : HP} (hp : ∀ w R, p.h w R (fun _ => False)) (h : JN n C K l (p :: A)) : JN n C K l A := fun a w v => h a w
  ⟨v.size, v.defers, v.holds, let ⟨R, F, s, o, st⟩ := v.mem; ⟨R, F, s, o, fun _ => False, F, fun _ h => h.elim, fun _ h => h, fun _ h => h.elim, hp _ _, st⟩⟩
theorem rd_tell {α : Type} {D : Kd α} {A : Option Addr} {c : Nat} {xs : List α} : ∀ w R F, (rd D A c xs).h w R F → xs.length ≤ c ∧ xs.length ≤ 1099511627776 := fun _ _ _ h => ⟨h.1, h.2.1⟩
theorem row_tell {α : Type} {D : Kd α} {T c : Nat} {A : Option Addr} {xs : List α} : ∀ w R F, (row D T A c xs).h w R F → xs.length ≤ c := fun _ _ _ h => row_le h
theorem getk {α : Type} (xs : List α) (k : Nat) (h : k < xs.length) : ∃ u, xs[k]? = some u := ⟨_, List.getElem?_eq_getElem h⟩
theorem elems_zero {k : IntKind} {w : World} {R : Foot} (hk : inK k 0) : ∀ n, Elems (Kd.int k) w R (List.replicate n 0) (List.replicate n [Value.int k 0]).flatten
  | 0 => rfl
  | n + 1 => ⟨[.int k 0], _, by simp [List.replicate_succ], ⟨rfl, hk⟩, elems_zero hk n⟩
/-- A row as a thing that is read. -/
theorem row_bound {α : Type} {D : Kd α} {T c : Nat} {Ad : Option Addr} {xs : List α} {w : World} {R F : Foot} (h : (row D T Ad c xs).h w R F) : xs.length ≤ c := row_le h
theorem J.intro_pers {P : Program} {n : Nat} {C : Ctx} {Q : Pst} {x : Code} {l : Env} {A : List HP} {p : HP} (hp : ∀ w R, p.h w R (fun _ => False)) (h : J P n C x Q l (p :: A)) : J P n C x Q l A := fun a w v => h a w
  ⟨v.size, v.defers, v.holds, let ⟨R, F, s, o, st⟩ := v.mem; ⟨R, F, s, o, fun _ => False, F, fun _ h => h.elim, fun _ h => h, fun _ h => h.elim, hp _ _, st⟩⟩
theorem drop_at {α : Type} {l : List α} {i : Nat} {u : α} (h : l[i]? = some u) : l.drop i = u :: l.drop (i + 1) := by
  obtain ⟨h1, h2⟩ := List.getElem?_eq_some_iff.1 h
  rw [List.drop_eq_getElem_cons h1, h2]
theorem drop_end {α : Type} {l : List α} {i : Nat} (h : l.length ≤ i) : l.drop i = [] := List.drop_eq_nil_of_le h
end Go.Proofs.YthjbkngecgbioaaGreatDoor.Sl

/- The logic of blocks: a literal slice as a row of its own; a slice that is nil or not. -/
namespace Go.Proofs.YthjbkngecgbioaaGreatDoor.Sl
open Go

section
variable {P : Program} {n : Nat} {C : Ctx} {Q : Pst} {l : Env} {A A' : List HP} {ops : Array Oper} {r : List Oper} {cc : Code} {ty ty' : TypeId} {pos : String} {af : Array Edge} {dst : Option Tmp} {g : Option (Nat × Bool)} {x y z : Operand}
theorem run_bsl {T e m sz_ by_ : Nat} {ps : List (Nat × Operand)} {vs : List (Nat × Value)} {cs zs : List Value} {a : Act} {w : World} (hE : elTy P T e sz_ by_ = true) (hz : zeroTy P e = some zs) (hx : evps l ps = some vs) (hf : fillL (fun i => some (i * sz_, sz_)) (List.flatten (List.replicate m zs)) vs = some cs) (hm : Nat.ble (m * sz_) 16777216 = true) (hl : Holds a l) :
    (execOp a.eval ⟨dst, .buildSlice T m ps.toArray, ty, pos, af, g⟩).run P w = .ok (.value (.slice (some ⟨w.heap.size, 0, none⟩) m m)) (w.alloc (.cells cs.toArray e (0, 0))) := by
  obtain ⟨hu, inf, zz, hi, hzz, hs1, hs2, hs3⟩ := ElTy.of hE
  have e1 : (ps.toArray.map fun (i, x) => (i, a.eval x)) = vs.toArray := by rw [← hl.evps hx]; simp
  have hsz : (sizeOf e).run P w = .ok sz_ w := run_sizeOf (by simp [szTy, hi, hs1])
  have hz2 : zz.cells.toList = zs := by simp [zeroTy, hi, hzz] at hz; exact hz
  have hzr : (zeroValue e).run P w = .ok zz w := by simp [zeroValue, typeInfo, program, Sem.run, hi, hzz, Pure.pure]
  have hle : ¬ (m * sz_ > 2 ^ 24) := by have := Nat.le_of_ble_eq_true hm; omega
  have hfill := fill_eq hf
  have hcells : ∀ (zc : Array Value), (m * sz_ = 0 → zc = #[]) → (m * sz_ ≠ 0 → zc = zz.cells) → ((Array.range (m * sz_)).map (zc[· % zc.size]!)) = (List.flatten (List.replicate m zs)).toArray := by
    intro zc h0 h1
    by_cases hm0 : m * sz_ = 0
    · have : (List.flatten (List.replicate m zs)) = [] := by
        apply List.eq_nil_of_length_eq_zero
        have hzl : zs.length = sz_ := by rw [← hz2]; simp [hs3]
        simp [hzl, hm0]
      rw [this, hm0]; simp
    · rw [h1 hm0]
      have hzl : zs.length = sz_ := by rw [← hz2]; simp [hs3]
      apply Array.ext'
      simp only [Array.toList_map, Array.toList_range, hs3]
      apply List.ext_getElem?
      intro i
      rw [List.getElem?_map]
      by_cases hi2 : i < m * sz_
      · rw [List.getElem?_range hi2]
        simp only [Option.map_some]
        have hpos : 0 < sz_ := Nat.pos_of_ne_zero (fun e => hm0 (by rw [e]; simp))
        have key : ∀ (m i : Nat), i < m * sz_ → (List.flatten (List.replicate m zs))[i]? = zs[i % sz_]? := by
          intro m
          induction m with
          | zero => intro i h; simp at h
          | succ m ih =>
            intro i h
            rw [List.replicate_succ, List.flatten_cons]
            by_cases hlt : i < sz_
            · rw [List.getElem?_append_left (by omega), Nat.mod_eq_of_lt hlt]
            · have e2 : i % sz_ = (i - sz_) % sz_ := Nat.mod_eq_sub_mod (by omega)
              rw [List.getElem?_append_right (by omega), hzl, ih (i - sz_) (by rw [Nat.add_mul] at h; omega), e2]
        rw [key m i hi2]
        have hmod : i % sz_ < zz.cells.size := by rw [hs3]; exact Nat.mod_lt _ hpos
        rw [← hz2]
        simp [hmod]
      · rw [List.getElem?_eq_none (by simpa using hi2), List.getElem?_eq_none (by simp [hzl]; omega)]
        rfl
  simp only [execOp, e1, Instr.buildSlice, Sem.run_bind, run_underlying hu, Result.andThen_ok, hsz]
  rw [if_neg hle]
  by_cases hm0 : m * sz_ = 0
  · simp only [Sem.run_bind, Sem.run_pure, Result.andThen_ok, hm0, if_true]
    have := hcells #[] (fun _ => rfl) (fun h => absurd hm0 h)
    rw [hm0] at this
    rw [this]
    simp [hfill, newRow, newObj, Sem.run, Pure.pure]
  · simp only [Sem.run_bind, Sem.run_pure, Result.andThen_ok, hm0, if_false, hzr]
    rw [hcells zz.cells (fun h => absurd h hm0) (fun _ => rfl)]
    simp [hfill, newRow, newObj, Sem.run, Pure.pure]
/-- A literal slice as a row of its own. -/
theorem O1.bslR {α : Type} {D : Kd α} {T e by_ m : Nat} {ps : List (Nat × Operand)} {vs : List (Nat × Value)} {cs zs : List Value} {xs : List α} (hE : elTy P T e D.sz by_ = true) (hz : zeroTy P e = some zs) (hx : evps l ps = some vs) (hf : fillL (fun i => some (i * D.sz, D.sz)) (List.flatten (List.replicate m zs)) vs = some cs) (hm : Nat.ble (m * D.sz) 16777216 = true)
    (hm2 : Nat.ble m 16777216 = true) (hxs : xs.length = m) (hel : ∀ w R, Elems D w R xs cs) :
    O1 P n C l A ⟨dst, .buildSlice T m ps.toArray, ty, pos, af, g⟩ (fun v B => ∃ b, v = .slice (some ⟨b, 0, none⟩) xs.length xs.length ∧ B = row D e (some ⟨b, 0, none⟩) xs.length xs :: A) := by
  refine O1.loc [] rfl (fun v' L' => ∃ b, v' = .slice (some ⟨b, 0, none⟩) xs.length xs.length ∧ L' = [row D e (some ⟨b, 0, none⟩) xs.length xs]) (fun a w R F hl ok _ => ?_) (by rintro _ _ ⟨b, rfl, rfl⟩; exact ⟨b, rfl, rfl⟩)
  refine ⟨_, _, w.alloc (.cells cs.toArray e (0, 0)), ⟨w.heap.size, rfl, rfl⟩, .inl (by rw [hxs]; exact run_bsl hE hz hx hf hm hl), ?_⟩
  have hlen : cs.length = xs.length * D.sz := (hel w R).len
  refine ⟨R, fun b => b = w.heap.size, ⟨rfl, rfl, rfl, by simp, fun k hk _ => ?_, fun _ h => h, fun _ h => .inl h, fun k hk => .inr (by omega)⟩, ⟨fun k hk => ?_, fun k hk => ?_, fun k hk e => ?_⟩,
    fun b => b = w.heap.size, fun _ => False, fun _ h => h, fun _ h => h.elim, fun _ _ h => h, ⟨cs, ⟨hlen, .inr ⟨w.heap.size, xs.length, cs.toArray, rfl, Nat.zero_le _, ?_, Nat.le_refl _, ?_, by simp only [List.size_toArray]; exact hlen, ?_⟩⟩, fun b hb => by simp [Value.ownBlock] at hb; exact hb.symm, hel _ _⟩, trivial⟩
  · show (w.heap.push _)[k]? = _
    simp [Array.getElem?_push, show k ≠ w.heap.size by omega]
  · have := ok.r k hk; simp; omega
  · simp; omega
  · have := ok.r k hk; omega
  · show (w.heap.push _)[w.heap.size]? = _
    simp
  · have := Nat.le_of_ble_eq_true hm2; unfold maxLen; omega
  · rw [List.take_of_length_le (by simp only [List.toList_toArray]; omega)]
end
theorem Spec.tell {P : Program} {f : FuncId} {args : Array Value} {L L' : List HP} {q : Value → List HP → Prop} {p : HP} {φ : Prop} (i : Nat) (ht : take1 i L = some (p, L')) (hu : ∀ w R F, p.h w R F → φ) (h : φ → Spec P f args L q) : Spec P f args L q := fun w R F o s =>
  h (by obtain ⟨F1, _, hp⟩ := s.has ht; exact hu _ _ _ hp) w R F o s
theorem JN.upd {n : Nat} {C : Ctx} {K : Act → World → Prop} {l : Env} {A : List HP} (is : List Nat) {L L' A' : List HP} (ht : takes is A = some (L, A')) (hu : Upd L L') (h : JN n C K l (L' ++ A')) : JN n C K l A := fun a w i => h a w (i.upd is ht hu)
theorem JN.tell {n : Nat} {C : Ctx} {K : Act → World → Prop} {l : Env} {A : List HP} (i : Nat) {p : HP} {A' : List HP} (ht : take1 i A = some (p, A')) {φ : Prop} (hu : ∀ w R F, p.h w R F → φ) (h : φ → JN n C K l A) : JN n C K l A := fun a w v => h (v.tell i ht hu) a w v
theorem rd_drop {α : Type} {D : Kd α} {Ad : Option Addr} {c lo : Nat} {xs : List α} (h1 : lo ≤ xs.length) : Upd [rd D Ad c xs] [rd D (cutA Ad c lo D.sz) (c - lo) (xs.drop lo), rd D Ad c xs] :=
  Upd.of_imp (fun w R F h => by have := rd_cut (lo := lo) (hi := xs.length) h1 (Nat.le_refl _) w R F h; rwa [List.take_length] at this)
theorem rd_take {α : Type} {D : Kd α} {Ad : Option Addr} {c hi : Nat} {xs : List α} (h1 : hi ≤ xs.length) : Upd [rd D Ad c xs] [rd D (cutA Ad c 0 D.sz) (c - 0) (xs.take hi), rd D Ad c xs] :=
  Upd.of_imp (fun w R F h => rd_cut (lo := 0) (hi := hi) (Nat.zero_le _) h1 w R F h)
theorem take_getD {xs : List Int} {k c : Nat} (h : c < k) (h2 : k ≤ xs.length) : (xs.take k)[c]? = some (xs.getD c 0) := by
  rw [List.getElem?_take, if_pos h, List.getD_eq_getElem?_getD, List.getElem?_eq_getElem (by omega)]
  rfl
theorem Bnd.nhI {P : Program} {l : Env} {x : Operand} {len c : Nat} {m : Int} {k : IntKind} (h : ev l x = some (.int k m)) (h0 : 0 ≤ m) (hle : m.toNat ≤ c) : Bnd P l none (some x) len c 0 m.toNat :=
  Bnd.nh (k := k) (by rw [h, Int.toNat_of_nonneg h0]) hle
open Go.Proofs.YthjbkngecgbioaaGreatDoor.Xe (NoLook) in
theorem noLook_then {K : Act → World → Prop} {Q : Pst} (h : NoLook Q) : NoLook (Exit.then K Q) := fun c a w d v hh => h c a w d v hh
open Go.Proofs.YthjbkngecgbioaaGreatDoor.Xe (NoLook) in
theorem noLook_block {id : Nat} {Q : Pst} (h : NoLook Q) : NoLook (Exit.inBlock id Q) := fun c a w d v hh => h c a w d v hh
theorem rd_none {α : Type} {D : Kd α} {c : Nat} {xs : List α} : ∀ w R F, (rd D none c xs).h w R F → xs = [] := fun w R F h => by
  cases xs with
  | nil => rfl
  | cons y ys => obtain ⟨b, o, _, h, _⟩ := h.2.2 0 y rfl; cases h
theorem rd_nil' {α : Type} {D : Kd α} (w : World) (R : Foot) : (rd D none 0 []).h w R (fun _ => False) := ⟨Nat.le_refl _, Nat.zero_le _, fun i x h => by simp at h⟩
end Go.Proofs.YthjbkngecgbioaaGreatDoor.Sl

/- The logic of blocks: == of values of several cells. -/
namespace Go.Proofs.YthjbkngecgbioaaGreatDoor.Sl
open Go
section
variable {P : Program} {d : Nat} {xs ys : Array Value} {f : Field} {fs : List Field} {a b : Value} {r s : Bool} {w : World} {t : TypeId} {x y : Operand}
theorem eqf_last (hn : (f.name == "_") = false) (ha : (part f.type xs f.offset).run P w = .ok a w) (hb : (part f.type ys f.offset).run P w = .ok b w) (he : (Op.equalIn d f.type a b).run P w = .ok r w) : (Op.eqFields d xs ys [f]).run P w = .ok r w := by
  have hn' : f.name ≠ "_" := by simpa using hn
  simp only [Op.eqFields, if_pos hn', Sem.run_bind, ha, hb, he, Result.andThen_ok]
  cases r <;> simp
theorem eqf_cons (hn : (f.name == "_") = false) (ha : (part f.type xs f.offset).run P w = .ok a w) (hb : (part f.type ys f.offset).run P w = .ok b w) (he : (Op.equalIn d f.type a b).run P w = .ok r w) (hr : (Op.eqFields d xs ys fs).run P w = .ok s w) : (Op.eqFields d xs ys (f :: fs)).run P w = .ok (r && s) w := by
  have hn' : f.name ≠ "_" := by simpa using hn
  rw [Op.eqFields]
  simp only [if_pos hn', Sem.run_bind, ha, hb, he, Result.andThen_ok]
  cases r
  · simp
  · simpa using hr
theorem eqf_skip (hn : (f.name == "_") = true) (hr : (Op.eqFields d xs ys fs).run P w = .ok s w) : (Op.eqFields d xs ys (f :: fs)).run P w = .ok s w := by
  have hn' : ¬ (f.name ≠ "_") := by simpa using hn
  rw [Op.eqFields, if_neg hn']
  exact hr
theorem aggEq_eql {gs : Array Field} (hu : P.underlying t = some (.struct gs)) (hp : P.stoodInHeld t = false) (hg : P.eqGuardType P.depth t = false) (h : (Op.eqFields 9999 xs ys gs.toList).run P w = .ok r w) :
    (do eqGuard .eql t x y (.agg xs) (.agg ys); binOp .eql t (.agg xs) (.agg ys) : Sem Value).run P w = .ok (.bool r) w := by
  have hf : P.fieldsOf t = gs := by simp [Program.fieldsOf, hu]
  simp only [Sem.run_bind, run_eqGuard_agg w .eql t x y xs ys hg, Result.andThen_ok, run_eql_struct, run_equalIn_struct (P := P) w 9999 t xs ys (by rw [hf]; exact hu) hp, hf, h]
theorem aggEq_neq {gs : Array Field} (hu : P.underlying t = some (.struct gs)) (hp : P.stoodInHeld t = false) (hg : P.eqGuardType P.depth t = false) (h : (Op.eqFields 9999 xs ys gs.toList).run P w = .ok r w) :
    (do eqGuard .neq t x y (.agg xs) (.agg ys); binOp .neq t (.agg xs) (.agg ys) : Sem Value).run P w = .ok (.bool (!r)) w := by
  have hf : P.fieldsOf t = gs := by simp [Program.fieldsOf, hu]
  simp only [Sem.run_bind, run_eqGuard_agg w .neq t x y xs ys hg, Result.andThen_ok, run_neq_struct, run_equalIn_struct (P := P) w 9999 t xs ys (by rw [hf]; exact hu) hp, hf, h]
/-- Two rows of whole numbers. -/
def eqInts : List Int → List Int → Bool
  | a :: la, b :: lb => a == b && eqInts la lb
  | _, _ => true
theorem eqItems_ints {e : TypeId} {k k' : IntKind} (he : P.underlying e = some (.int k')) (hp : plainTy P e = true) : ∀ (la lb : List Int) (o : Nat), la.length = lb.length → (∀ j v, la[j]? = some v → xs[o + j]? = some (.int k v)) → (∀ j v, lb[j]? = some v → ys[o + j]? = some (.int k v)) →
    (Op.eqItems (d + 1) e 1 xs ys (List.range' o la.length)).run P w = .ok (eqInts la lb) w
  | [], _, _, _, _, _ => by simp [Op.eqItems, eqInts]
  | a :: la, [], _, h, _, _ => by simp at h
  | a :: la, b :: lb, o, h, h1, h2 => by
    have ih := eqItems_ints he hp la lb (o + 1) (by simpa using h) (fun j v hj => by have := h1 (j + 1) v (by simpa using hj); rw [show o + (j + 1) = o + 1 + j by omega] at this; exact this) (fun j v hj => by have := h2 (j + 1) v (by simpa using hj); rw [show o + (j + 1) = o + 1 + j by omega] at this; exact this)
    have e1 := Xe.run_part (P := P) (w := w) hp (show xs[o * 1]? = some (.int k a) by have := h1 0 a rfl; simpa using this)
    have e2 := Xe.run_part (P := P) (w := w) hp (show ys[o * 1]? = some (.int k b) by have := h2 0 b rfl; simpa using this)
    rw [List.length_cons, List.range'_succ]
    simp only [Op.eqItems, Sem.run_bind, e1, e2, run_equalIn_int w d e k k' a b he, Result.andThen_ok, eqInts]
    cases hab : a == b
    · simp
    · simpa using ih
theorem arrEq_eql {e n : Nat} {k k' : IntKind} {la lb : List Int} (hu : P.underlying t = some (.array n e)) (he : P.underlying e = some (.int k')) (hz : szTy P e = some 1) (hp : plainTy P e = true) (hg : P.eqGuardType P.depth t = false) (hl : la.length = n) (hl2 : lb.length = n) :
    (do eqGuard .eql t x y (.agg (la.map (.int k)).toArray) (.agg (lb.map (.int k)).toArray); binOp .eql t (.agg (la.map (.int k)).toArray) (.agg (lb.map (.int k)).toArray) : Sem Value).run P w = .ok (.bool (eqInts la lb)) w := by
  subst hl
  cases hi : P.info? e with
  | none => simp [szTy, hi] at hz
  | some i =>
    have hc : P.cellsOf e = 1 := by simp [szTy, hi] at hz; simp [Program.cellsOf, hi, hz]
    have key := eqItems_ints (P := P) (w := w) (d := 9998) (k := k) (xs := (la.map (Value.int k)).toArray) (ys := (lb.map (Value.int k)).toArray) he hp la lb 0 hl2.symm (fun j v hj => by simp [hj]) (fun j v hj => by simp [hj])
    simp only [Sem.run_bind, run_eqGuard_agg w .eql t x y _ _ hg, Result.andThen_ok, run_eql_struct, run_equalIn_array w 9999 _ _ hu hi, hc, List.range_eq_range', key]
end
section
variable {P : Program} {n : Nat} {C : Ctx} {Q : Pst} {l : Env} {A : List HP} {ops : Array Oper} {r : List Oper}
theorem J.at {x : Code} (A' : List HP) (e : A = A') (h : J P n C x Q l A') : J P n C x Q l A := e ▸ h
theorem JL.at (A' : List HP) (e : A = A') (h : JL P n C ops Q r l A') : JL P n C ops Q r l A := e ▸ h
theorem JL.g_outU {op : Op} {ty : TypeId} {pos : String} {af : Array Edge} {j t d : Nat} {b b' : Bool} (hj : (ops[j]?).bind (·.dst) = some t) (ht : get l t = some (.bool b)) (hbb : (b == b') = false) (hd : Nat.blt d n = true) (h : JL P n C ops Q r ((d, undef) :: l) A) : JL P n C ops Q (⟨some d, op, ty, pos, af, some (j, b')⟩ :: r) l A := by
  intro a w i
  have hy : yielded ops a.tmps j = some b := yields hj (i.holds t _ ht)
  unfold wpList
  rw [if_neg (by simp [Region.wanted, hy]; intro e; subst e; simp at hbb)]
  exact h _ _ (i.put hd undef)
theorem JL.g_un {op : Op} {ty : TypeId} {pos : String} {af : Array Edge} {j t d : Nat} {b' : Bool} (hj : (ops[j]?).bind (·.dst) = some t) (ht : get l t = some undef) (hd : Nat.blt d n = true) (h : JL P n C ops Q r ((d, undef) :: l) A) : JL P n C ops Q (⟨some d, op, ty, pos, af, some (j, b')⟩ :: r) l A := by
  intro a w i
  have hy : yielded ops a.tmps j = none := by
    unfold yielded
    rw [hj]
    simp only [Option.bind_some]
    have := i.holds t _ ht
    cases hc : a.tmps[t]? with
    | none => rfl
    | some v =>
      rw [Array.getD_eq_getD_getElem?, hc] at this
      simp only [Option.getD_some] at this
      subst this
      rfl
  unfold wpList
  rw [if_neg (by simp [Region.wanted, hy])]
  exact h _ _ (i.put hd undef)
end
end Go.Proofs.YthjbkngecgbioaaGreatDoor.Sl

/- The logic of blocks: what is read of a row that is owned; a row of which the front is deleted. -/
namespace Go.Proofs.YthjbkngecgbioaaGreatDoor.Sl
open Go
section
variable {P : Program} {n : Nat} {C : Ctx} {Q : Pst} {l : Env} {A A' : List HP} {ops : Array Oper} {r : List Oper} {cc : Code} {ty ty' : TypeId} {pos : String} {af : Array Edge} {dst : Option Tmp} {g : Option (Nat × Bool)} {x y z : Operand} {w : World} {R F : Foot}
theorem Elems.drop {α : Type} {d : Kd α} : ∀ {xs : List α} {cs : List Value} (j : Nat), j ≤ xs.length → Elems d w R xs cs → Elems d w R (xs.drop j) (cs.drop (j * d.sz))
  | xs, cs, 0, _, h => by simpa using h
  | [], _, j + 1, hj, _ => by simp at hj
  | x :: xs, cs, j + 1, hj, h => by
    obtain ⟨c1, c2, rfl, h1, h2⟩ := h
    have := Elems.drop (xs := xs) j (by simpa using hj) h2
    rw [List.drop_succ_cons, Nat.succ_mul, Nat.add_comm, ← List.drop_drop, List.drop_left' (d.len h1)]
    exact this
theorem row_at {α : Type} {d : Kd α} {T c : Nat} {Ad : Option Addr} {xs : List α} (hne : xs ≠ []) : ∀ w R F, (row d T Ad c xs).h w R F → ∃ b, Ad = some ⟨b, 0, none⟩ := by
  intro w R F h
  obtain ⟨inner, ho, _, _⟩ := h
  rcases ho.2 with ⟨_, h0⟩ | ⟨b, cap, cur, h, _⟩
  · exact absurd (List.eq_nil_of_length_eq_zero h0) hne
  · simp only [Value.slice.injEq] at h
    exact ⟨b, h.1⟩
theorem row_cells {α : Type} {d : Kd α} {T c b : Nat} {xs : List α} (h : (row d T (some ⟨b, 0, none⟩) c xs).h w R F) : ∃ cs, (Xe.EntH b c T d.sz cs).h w R F ∧ cs.length = c * d.sz ∧ xs.length ≤ c ∧ Elems d w R xs (cs.take (xs.length * d.sz)) := by
  obtain ⟨inner, ho, hF, hel⟩ := h
  rcases ho.2 with ⟨h, h0⟩ | ⟨b', cap, cur, h, _, hg, hnc, hcm, hcs, htk⟩
  · simp at h
  · simp only [Value.slice.injEq, Option.some.injEq, Addr.mk.injEq, and_true, true_and] at h
    obtain ⟨rfl, rfl⟩ := h
    refine ⟨cur.toList, ⟨hF b rfl, cur, hg, hcs, by simp, List.take_of_length_le (Nat.le_refl _), hcm⟩, by simp [hcs], hnc, ?_⟩
    rw [htk]
    exact hel
theorem row_of {α : Type} {d : Kd α} {T c b : Nat} {xs : List α} {cs : List Value} (h : (Xe.EntH b c T d.sz cs).h w R F) (h1 : xs.length * d.sz ≤ cs.length) (h2 : xs.length ≤ c) (he : Elems d w R xs (cs.take (xs.length * d.sz))) : (row d T (some ⟨b, 0, none⟩) c xs).h w R F :=
  ⟨_, Xe.EntH.own h h1 h2, fun k hk => by simp [Value.ownBlock] at hk; subst hk; exact h.1, he⟩
theorem putL_take : ∀ {us cs : List Value} {o m : Nat}, m ≤ o → (putL cs o us).take m = cs.take m
  | [], _, _, _, _ => rfl
  | u :: us, cs, o, m, h => by
    rw [putL, putL_take (us := us) (o := o + 1) (by omega), List.take_set_of_le h]
theorem putL_front : ∀ {us cs : List Value} {o : Nat}, o + us.length ≤ cs.length → ((putL cs o us).drop o).take us.length = us
  | [], cs, o, _ => by simp
  | u :: us, cs, o, h => by
    simp only [List.length_cons] at h
    rw [putL, List.length_cons]
    have h2 := putL_front (us := us) (cs := cs.set o u) (o := o + 1) (by simp; omega)
    have hlt : o < (putL (cs.set o u) (o + 1) us).length := by rw [putL_length]; simp; omega
    rw [List.drop_eq_getElem_cons hlt, List.take_succ_cons, h2]
    congr 1
    have h3 := putL_take (us := us) (cs := cs.set o u) (o := o + 1) (m := o + 1) (Nat.le_refl _)
    have h4 : (putL (cs.set o u) (o + 1) us)[o]? = (cs.set o u)[o]? := by
      have a1 : ((putL (cs.set o u) (o + 1) us).take (o + 1))[o]? = ((cs.set o u).take (o + 1))[o]? := by rw [h3]
      rw [List.getElem?_take, List.getElem?_take, if_pos (by omega), if_pos (by omega)] at a1
      exact a1
    rw [List.getElem?_eq_getElem hlt, List.getElem?_set_self (by omega)] at h4
    simpa using h4
/-- append(s[:0], s[j:]...) in s's own row. -/
theorem O1.appendSelf {α : Type} {D : Kd α} {T t by_ c j b : Nat} {xs : List α} (i : Nat) (hE : elTy P t T D.sz by_ = true) (hx : ev l x = some (.slice (some ⟨b, 0, none⟩) 0 c)) (hy : ev l y = some (.slice (cutA (some ⟨b, 0, none⟩) c j D.sz) (xs.length - j) (c - j)))
    (hA : takes [i] A = some ([row D T (some ⟨b, 0, none⟩) c xs], A')) (hj : j ≤ xs.length) :
    O1 P n C l A ⟨dst, .call { callee := .builtin .append, args := #[x, y], argTypes := #[t, t] }, ty, pos, af, g⟩ (fun v B => v = .slice (some ⟨b, 0, none⟩) (xs.drop j).length c ∧ B = row D T (some ⟨b, 0, none⟩) c (xs.drop j) :: A') := by
  obtain ⟨hu, inf, zz, hi, hz, hs1, hs2, hs3⟩ := ElTy.of hE
  refine O1.loc [i] (L := [row D T (some ⟨b, 0, none⟩) c xs]) (A' := A') hA (fun v L' => v = .slice (some ⟨b, 0, none⟩) (xs.drop j).length c ∧ L' = [row D T (some ⟨b, 0, none⟩) c (xs.drop j)]) (fun a w R F hl ok hs => ?_) (by rintro _ _ ⟨rfl, rfl⟩; exact ⟨rfl, rfl⟩)
  obtain ⟨G1, G2, e1, e2, e3, hrow, _⟩ := hs
  obtain ⟨cs, hEn, hlen, hnc, hel⟩ := row_cells hrow
  have hszT : szTy P T = some D.sz := by simp [szTy, hi, hs1]
  have ok1 : Ok w R G1 := ⟨ok.r, fun b hb => ok.f b (e1 b hb), fun b hb hF => ok.d b hb (e1 b hF)⟩
  have hle0 : xs.length * D.sz ≤ c * D.sz := Nat.mul_le_mul_right _ hnc
  have hjle : j * D.sz ≤ xs.length * D.sz := Nat.mul_le_mul_right _ hj
  have hsub : (xs.length - j) * D.sz = xs.length * D.sz - j * D.sz := Nat.sub_mul _ _ _
  generalize hus : (cs.drop (j * D.sz)).take ((xs.length - j) * D.sz) = us
  have husl : us.length = (xs.length - j) * D.sz := by rw [← hus, List.length_take, List.length_drop]; omega
  have hdrop := Elems.drop j hj hel
  have hus2 : (cs.take (xs.length * D.sz)).drop (j * D.sz) = us := by rw [← hus, List.drop_take, hsub]
  rw [hus2] at hdrop
  have hone : ∀ u ∈ us, one u = true := hdrop.one
  have hfirst : (Builtin.firstCells D.sz (xs.length - j) (.slice (cutA (some ⟨b, 0, none⟩) c j D.sz) (xs.length - j) (c - j))).run P w = .ok us.toArray w := by
    unfold cutA
    split
    · have h0 : xs.length - j = 0 := by omega
      have : us = [] := List.eq_nil_of_length_eq_zero (by rw [husl, h0]; simp)
      rw [h0, this]
      simp [Builtin.firstCells, loadCells, loadCellsFrom, Pure.pure]
    · simp only [Option.map_some, Builtin.firstCells, add_none, Nat.zero_add]
      rw [Xe.cells_run hEn (by omega), hus]
  have hst := run_storeCells_cells (P := P) b 0 us 0 w (fun k hk => by
      rw [Nat.add_zero, Nat.zero_add, Xe.EntH.cell hEn (v := cs[k]'(by omega)) (List.getElem?_eq_getElem (by omega))]; rfl) (fun k hk => Xe.EntH.free hEn _) (fun u hu => one_old (hone u hu))
  have htu := Xe.Turns.setE (us := us) (o := 0) ok1 hEn (by omega)
  have hsame : Same w (w.setCells b 0 us) R := fun k hk => (setCells_same (b := b) (vs := us) (o := 0) (w := w)).2.2.2.2 k (fun e => by subst e; exact ok1.d _ hk hEn.1)
  have hlen2 : (xs.drop j).length = xs.length - j := List.length_drop
  refine ⟨_, _, w.setCells b 0 us, ⟨rfl, rfl⟩, .inl ?_, ?_⟩
  · rw [hlen2]
    simp only [execOp, resolve, invoke, builtin, Sem.run_bind, Sem.run_pure, Result.andThen_ok, List.map_toArray, List.map_cons, List.map_nil, hl.ev hx, hl.ev hy, Builtin.append_]
    have hle : 0 + (xs.length - j) ≤ c := by omega
    have h3 : (storeCells ({ block := b, off := 0 } : Addr) us).run P w = .ok () (w.setCells b 0 us) := hst
    simp [run_underlying hu, run_sizeOf hszT, Builtin.lenOf, hfirst, hle, add_none, h3, Pure.pure, Sem.run]
    intro h
    omega
  · obtain ⟨R', F', s', o', K1, K2, k1, k2, k3, k4, k5⟩ := Turns.frame ok e1 e2 e3 htu (M := []) trivial
    have htk : (putL cs 0 us).take ((xs.drop j).length * D.sz) = us := by
      have := putL_front (us := us) (cs := cs) (o := 0) (by omega)
      rw [List.drop_zero, husl] at this
      rw [hlen2]
      exact this
    refine ⟨R', F', s', o', K1, K2, k1, k2, k3, row_of k4 (by rw [putL_length, hlen2, hsub]; omega) (by omega) ?_, k5⟩
    rw [htk]
    exact (hdrop.loc hsame).mono s'.rr
/-- clear(s[lo:hi]) behind s's own end. -/
theorem O1.clearTail {α : Type} {D : Kd α} {T t by_ c lo m k b : Nat} {xs : List α} {zc : List Value} (i : Nat) (hE : elTy P t T D.sz by_ = true) (hzc : zeroTy P T = some zc) (hones : ones zc = true) (hx : ev l x = some (.slice (cutA (some ⟨b, 0, none⟩) c lo D.sz) m k))
    (hA : takes [i] A = some ([row D T (some ⟨b, 0, none⟩) c xs], A')) (h1 : xs.length ≤ lo) (h2 : lo + m ≤ c) :
    O1 P n C l A ⟨dst, .call { callee := .builtin .clear, args := #[x], argTypes := #[t] }, ty, pos, af, g⟩ (fun v B => v = .tuple #[] ∧ B = row D T (some ⟨b, 0, none⟩) c xs :: A') := by
  obtain ⟨hu, inf, zz, hi, hz, hs1, hs2, hs3⟩ := ElTy.of hE
  refine O1.loc [i] (L := [row D T (some ⟨b, 0, none⟩) c xs]) (A' := A') hA (fun v L' => v = .tuple #[] ∧ L' = [row D T (some ⟨b, 0, none⟩) c xs]) (fun a w R F hl ok hs => ?_) (by rintro _ _ ⟨rfl, rfl⟩; exact ⟨rfl, rfl⟩)
  obtain ⟨G1, G2, e1, e2, e3, hrow, _⟩ := hs
  by_cases hm : m = 0
  · subst hm
    refine ⟨_, _, w, ⟨rfl, rfl⟩, .inl ?_, R, F, .refl, ok, G1, G2, e1, e2, e3, hrow, trivial⟩
    simp only [execOp, resolve, invoke, builtin, Sem.run_bind, Sem.run_pure, Result.andThen_ok, List.map_toArray, List.map_cons, List.map_nil, hl.ev hx, Builtin.clear_]
    cases cutA (some ⟨b, 0, none⟩) c lo D.sz <;> simp [run_underlying hu, Pure.pure, Sem.run]
  · obtain ⟨cs, hEn, hlen, hnc, hel⟩ := row_cells hrow
    have hcut : cutA (some ⟨b, 0, none⟩) c lo D.sz = some ⟨b, lo * D.sz, none⟩ := by
      unfold cutA
      rw [if_neg (by omega)]
      simp [add_none]
    rw [hcut] at hx
    have ok1 : Ok w R G1 := ⟨ok.r, fun b hb => ok.f b (e1 b hb), fun b hb hF => ok.d b hb (e1 b hF)⟩
    have hzz : zz.cells.toList = zc := by simp [zeroTy, hi, hz] at hzc; exact hzc
    have hzl : zc.length = D.sz := by rw [← hzz]; simp [hs3]
    have hzero : (Builtin.zeroCells zz.cells m).toList = (List.replicate m zc).flatten := by
      have := Xe.made_eq (sz := zz.cells.size) rfl m zz.cells (fun _ => rfl)
      unfold Builtin.zeroCells
      rw [this, hzz]
    generalize hus : (List.replicate m zc).flatten = us at hzero
    have husl : us.length = m * D.sz := by rw [← hus, Xe.rep_eq, hzl]
    have hone : ∀ u ∈ us, one u = true := by
      intro u hu
      rw [← hus] at hu
      simp only [List.mem_flatten, List.mem_replicate] at hu
      obtain ⟨l, ⟨_, rfl⟩, hu⟩ := hu
      exact List.all_eq_true.1 hones u hu
    have hle : lo * D.sz + m * D.sz ≤ c * D.sz := by rw [← Nat.add_mul]; exact Nat.mul_le_mul_right _ h2
    have hle2 : xs.length * D.sz ≤ lo * D.sz := Nat.mul_le_mul_right _ h1
    have hst := run_storeCells_cells (P := P) b (lo * D.sz) us 0 w (fun k hk => by
        rw [Nat.add_zero, Xe.EntH.cell hEn (v := cs[lo * D.sz + k]'(by omega)) (List.getElem?_eq_getElem (by omega))]; rfl) (fun k hk => Xe.EntH.free hEn _) (fun u hu => one_old (hone u hu))
    have htu := Xe.Turns.setE (us := us) (o := lo * D.sz) ok1 hEn (by omega)
    have hsame : Same w (w.setCells b (lo * D.sz) us) R := fun k hk => (setCells_same (b := b) (vs := us) (o := lo * D.sz) (w := w)).2.2.2.2 k (fun e => by subst e; exact ok1.d _ hk hEn.1)
    refine ⟨_, _, w.setCells b (lo * D.sz) us, ⟨rfl, rfl⟩, .inl ?_, ?_⟩
    · simp only [execOp, resolve, invoke, builtin, Sem.run_bind, Sem.run_pure, Result.andThen_ok, List.map_toArray, List.map_cons, List.map_nil, hl.ev hx, Builtin.clear_]
      have hzr : (zeroValue T).run P w = .ok zz w := by simp [zeroValue, typeInfo, program, Sem.run, hi, hz, Pure.pure]
      have h3 : (storeCells ({ block := b, off := lo * D.sz } : Addr) us).run P w = .ok () (w.setCells b (lo * D.sz) us) := hst
      cases m with
      | zero => exact absurd rfl hm
      | succ m => simp [run_underlying hu, hzr, hzero, h3, Pure.pure, Sem.run]
    · obtain ⟨R', F', s', o', K1, K2, k1, k2, k3, k4, k5⟩ := Turns.frame ok e1 e2 e3 htu (M := []) trivial
      refine ⟨R', F', s', o', K1, K2, k1, k2, k3, row_of k4 (by rw [putL_length]; omega) hnc ?_, k5⟩
      rw [putL_take (by omega)]
      exact (hel.loc hsame).mono s'.rr
theorem Qt.cut3 {T e s len c lo hi mx : Nat} {Ad : Option Addr} {k1 k2 k3 : IntKind} {u : Operand} (hT : P.underlying T = some (.slice e)) (hz : szTy P e = some s) (hx : ev l x = some (.slice Ad len c)) (h1 : ev l y = some (.int k1 (lo : Int))) (h2 : ev l z = some (.int k2 (hi : Int))) (h3 : ev l u = some (.int k3 (mx : Int)))
    (hlo : lo ≤ hi) (hhi : hi ≤ mx) (hmx : mx ≤ c) : Qt P l A ⟨dst, .slice T x (some y) (some z) (some u), ty, pos, af, g⟩ (.slice (cutA Ad mx lo s) (hi - lo) (mx - lo)) :=
  fun a w _ _ hl _ _ => by
    have hb : (Instr.sliceBounds true len c (some (a.eval y)) (some (a.eval z)) (some (a.eval u))).run P w = .ok (lo, hi, mx) w := by
      simp [Instr.sliceBounds, hl.ev h1, hl.ev h2, hl.ev h3, bnd_run _ hlo, bnd_run _ hhi, bnd_run _ hmx, Sem.run, Pure.pure]
    simp only [execOp, hl.ev hx, Instr.sliceAt, Instr.slice, Sem.run_bind, run_underlying hT, Result.andThen_ok, Option.map_some, hb, run_sizeOf hz, Sem.run_pure, cutA]
theorem Qt.cut0 {T e s len c hi b : Nat} {xl xh : Option Operand} (hT : P.underlying T = some (.slice e)) (hz : szTy P e = some s) (hx : ev l x = some (.slice (some ⟨b, 0, none⟩) len c)) (hb : Bnd P l xl xh len c 0 hi) : Qt P l A ⟨dst, .slice T x xl xh none, ty, pos, af, g⟩ (.slice (some ⟨b, 0, none⟩) hi c) := by
  have h := Qt.cut (A := A) (dst := dst) (ty := ty) (pos := pos) (af := af) (g := g) hT hz hx hb
  have e : cutA (some ⟨b, 0, none⟩) c 0 s = some ⟨b, 0, none⟩ := by
    unfold cutA
    split
    · rfl
    · simp [add_none]
  rw [e] at h
  exact h
theorem row_tell2 {α : Type} {D : Kd α} {T c : Nat} {Ad : Option Addr} {xs : List α} : ∀ w R F, (row D T Ad c xs).h w R F → xs.length ≤ c ∧ c ≤ 9223372036854775807 := fun _ _ _ h => ⟨row_le h, by
  obtain ⟨inner, ho, _, _⟩ := h
  rcases ho.2 with ⟨h, _⟩ | ⟨_, _, _, h, _, _, _, hm, _⟩
  · simp only [Value.slice.injEq] at h; omega
  · simp only [Value.slice.injEq] at h
    unfold maxLen at hm
    omega⟩
theorem getkD {α : Type} {xs : List α} {k : Nat} (d : α) (h : k < xs.length) : xs[k]? = some ((xs[k]?).getD d) := by rw [List.getElem?_eq_getElem h]; rfl
theorem ext2 {l : List ByteArray} {d : ByteArray} {a : Nat} (h : a + 2 ≤ l.length) : ((l.map Value.string).toArray.extract a (a + 2)) = [Value.string (l.getD a d), Value.string (l.getD (a + 1) d)].toArray := by
  apply Array.ext'
  simp only [List.extract_toArray, List.extract_eq_drop_take, Nat.add_sub_cancel_left]
  rw [List.drop_eq_getElem_cons (by simp; omega), List.take_succ_cons, List.drop_eq_getElem_cons (by simp; omega), List.take_succ_cons, List.take_zero]
  simp only [List.getElem_map]
  rw [List.getD_eq_getElem?_getD, List.getD_eq_getElem?_getD, List.getElem?_eq_getElem (by omega), List.getElem?_eq_getElem (by omega)]
  rfl
theorem ext1 {l : List ByteArray} {d : ByteArray} {a : Nat} (h : a < l.length) : ((l.map Value.string).toArray)[a]? = some (Value.string (l.getD a d)) := by
  rw [List.getD_eq_getElem?_getD, List.getElem?_eq_getElem h]
  simp [List.getElem?_eq_getElem h]
/-- An element of a row that is owned. -/
theorem Qt.ldA_row {α : Type} {D : Kd α} {T c b o k m : Nat} {xs : List α} {e : α} {vs : List Value} (i : Nat) (hp : aggTy P ty = true) (hz : szTy P ty = some m) (hx : ev l x = some (.pointer (some ⟨b, o, none⟩))) (hA : take1 i A = some (row D T (some ⟨b, 0, none⟩) c xs, A')) (hu : xs[k]? = some e) (ho : o = k * m) (hm : D.sz = m)
    (hv : ∀ w R cs, D.rel w R e cs → cs = vs) : Qt P l A ⟨dst, .load ty x, ty', pos, af, g⟩ (.agg vs.toArray) := by
  intro a w R F hl ok hs
  obtain ⟨F1, _, hrow⟩ := hs.has hA
  obtain ⟨cs, hEn, hlen, hnc, hel⟩ := row_cells hrow
  obtain ⟨es, h1, h2⟩ := hel.at hu
  have h3 := hv _ _ _ h1
  subst h3
  have hl2 : es.length = m := by rw [D.len h1, hm]
  have hk : k < xs.length := (List.getElem?_eq_some_iff.1 hu).1
  have hkm : k * m + m ≤ cs.length := by
    rw [hlen, hm]
    have : (k + 1) * m ≤ c * m := Nat.mul_le_mul_right _ (by omega)
    rw [Nat.add_mul] at this
    omega
  have h4 : (cs.drop o).take m = es := by
    apply List.ext_getElem?
    intro j
    rw [List.getElem?_take]
    split
    · rename_i hj
      rw [List.getElem?_drop]
      have := h2 j _ (List.getElem?_eq_getElem (by omega))
      rw [List.getElem?_take] at this
      split at this
      · rw [ho, ← hm, this, List.getElem?_eq_getElem (by omega)]
      · simp at this
    · rw [List.getElem?_eq_none (by omega)]
  have h5 := Xe.cells_run (P := P) hEn (o := o) (m := m) (by omega)
  rw [h4] at h5
  have h6 : (loadVar ty ⟨b, o, none⟩).run P w = .ok (.agg es.toArray) w := by
    unfold loadVar
    simp [run_isAgg_agg hp, run_sizeOf hz, h5, Pure.pure, Sem.run]
  simp [execOp, hl.ev hx, Instr.loadAt, Instr.sureAddr, h6, Pure.pure, Sem.run]
end
end Go.Proofs.YthjbkngecgbioaaGreatDoor.Sl

/- The logic of blocks: cells of an owned row that are read and written one by one; the book's block. -/
namespace Go.Proofs.YthjbkngecgbioaaGreatDoor.Sl
open Go
section
variable {P : Program} {n : Nat} {C : Ctx} {Q : Pst} {l : Env} {A A' : List HP} {ops : Array Oper} {r : List Oper} {cc : Code} {ty ty' : TypeId} {pos : String} {af : Array Edge} {dst : Option Tmp} {g : Option (Nat × Bool)} {x y z : Operand} {w : World} {R F : Foot}
/-- An element of one cell of a row that is owned. -/
theorem Qt.ld_row {α : Type} {D : Kd α} {T c b o k : Nat} {xs : List α} {e : α} {v : Value} (i : Nat) (hp : plainTy P ty = true) (hx : ev l x = some (.pointer (some ⟨b, o, none⟩))) (hA : take1 i A = some (row D T (some ⟨b, 0, none⟩) c xs, A')) (hu : xs[k]? = some e) (ho : o = k * 1) (hm : D.sz = 1)
    (hv : ∀ w R cs, D.rel w R e cs → cs = [v]) : Qt P l A ⟨dst, .load ty x, ty', pos, af, g⟩ v := by
  intro a w R F hl ok hs
  obtain ⟨F1, _, hrow⟩ := hs.has hA
  obtain ⟨cs, hEn, hlen, hnc, hel⟩ := row_cells hrow
  obtain ⟨es, h1, h2⟩ := hel.at hu
  have h3 := hv _ _ _ h1
  subst h3
  have h4 := h2 0 v rfl
  rw [List.getElem?_take] at h4
  split at h4
  · rw [hm, Nat.add_zero, ← ho] at h4
    have h5 := Xe.EntH.cell hEn h4
    have h6 : (loadVar ty ⟨b, o, none⟩).run P w = .ok v w := by
      unfold loadVar
      simp [run_isAgg_plain hp, load, h5, Pure.pure, Sem.run]
    simp [execOp, hl.ev hx, Instr.loadAt, Instr.sureAddr, h6, Pure.pure, Sem.run]
  · simp at h4
theorem Elems.set1 {α : Type} {d : Kd α} {e : α} {v : Value} (hd : d.sz = 1) (he : d.rel w R e [v]) : ∀ {xs : List α} {cs : List Value} (k : Nat), Elems d w R xs cs → Elems d w R (xs.set k e) (cs.set k v)
  | [], cs, k, h => by have h' : cs = [] := h; subst h'; simpa using h
  | x :: xs, cs, k, h => by
    obtain ⟨c1, c2, rfl, h1, h2⟩ := h
    have hl := d.len h1
    rw [hd] at hl
    obtain ⟨u, rfl⟩ : ∃ u, c1 = [u] := by
      cases c1 with
      | nil => simp at hl
      | cons u c1 => cases c1 with
        | nil => exact ⟨u, rfl⟩
        | cons _ _ => simp at hl
    cases k with
    | zero => exact ⟨[v], c2, rfl, he, h2⟩
    | succ k => exact ⟨[u], c2.set k v, rfl, h1, Elems.set1 hd he k h2⟩
theorem O1.st_row {α : Type} {D : Kd α} {T c b o k : Nat} {xs : List α} {e : α} {v : Value} (i : Nat) (hz : szTy P ty = some 1) (hx : ev l x = some (.pointer (some ⟨b, o, none⟩))) (hy : ev l y = some v) (hv : one v = true) (hA : takes [i] A = some ([row D T (some ⟨b, 0, none⟩) c xs], A')) (ho : o = k * 1) (hk : k < xs.length) (hm : D.sz = 1)
    (he : ∀ w R, D.rel w R e [v]) : O1 P n C l A ⟨none, .store ty x y, ty', pos, af, g⟩ (fun _ B => B = row D T (some ⟨b, 0, none⟩) c (xs.set k e) :: A') := by
  refine O1.loc [i] (L := [row D T (some ⟨b, 0, none⟩) c xs]) (A' := A') hA (fun v' L' => v' = undef ∧ L' = [row D T (some ⟨b, 0, none⟩) c (xs.set k e)]) (fun a w R F hl ok hs => ?_) (by rintro _ _ ⟨_, rfl⟩; rfl)
  obtain ⟨G1, G2, e1, e2, e3, hrow, _⟩ := hs
  obtain ⟨cs, hEn, hlen, hnc, hel⟩ := row_cells hrow
  rw [hm, Nat.mul_one] at hlen hel
  have ok1 : Ok w R G1 := ⟨ok.r, fun b hb => ok.f b (e1 b hb), fun b hb hF => ok.d b hb (e1 b hF)⟩
  have hok : o < cs.length := by omega
  have hst := run_storeCells_cells (P := P) b o [v] 0 w (fun j hj => by
      simp at hj; subst hj
      show (w.cell? ⟨b, o, none⟩).isSome = true
      rw [Xe.EntH.cell hEn (v := cs[o]'hok) (List.getElem?_eq_getElem hok)]; rfl) (fun j hj => Xe.EntH.free hEn _) (fun u hu => by simp at hu; subst hu; exact one_old hv)
  have htu := Xe.Turns.setE (us := [v]) (o := o) ok1 hEn (by simp; omega)
  have hsame : Same w (w.setCells b o [v]) R := fun k hk => (setCells_same (b := b) (vs := [v]) (o := o) (w := w)).2.2.2.2 k (fun e => by subst e; exact ok1.d _ hk hEn.1)
  refine ⟨undef, _, w.setCells b o [v], ⟨rfl, rfl⟩, .inr ⟨?_, rfl⟩, ?_⟩
  · have h3 : (storeCells ({ block := b, off := o } : Addr) [v]).run P w = .ok () (w.setCells b o [v]) := hst
    simp [execOp, hl.ev hx, hl.ev hy, Instr.storeAt, Instr.sureAddr, storeVar, one_cells hv, run_sizeOf hz, h3, Pure.pure, Sem.run]
  · obtain ⟨R', F', s', o', K1, K2, k1, k2, k3, k4, k5⟩ := Turns.frame ok e1 e2 e3 htu (M := []) trivial
    refine ⟨R', F', s', o', K1, K2, k1, k2, k3, row_of k4 (by rw [putL_length, List.length_set, hm]; omega) (by simpa using hnc) ?_, k5⟩
    have h5 : (putL cs o [v]).take ((xs.set k e).length * D.sz) = (cs.take xs.length).set k v := by
      simp only [putL, List.length_set, hm, Nat.mul_one]
      rw [ho, Nat.mul_one, List.take_set]
    rw [h5]
    exact ((Elems.set1 hm (he _ _) k hel).loc hsame).mono s'.rr
end
theorem O1.qt {P : Program} {n : Nat} {C : Ctx} {l : Env} {A : List HP} {o : Oper} {v : Value} (hq : Qt P l A o v) : O1 P n C l A o (fun v' B => v' = v ∧ B = A) := by
  intro a w i K Q hK
  obtain ⟨R, F, s, ok, st⟩ := i.mem
  have hrun := hq a w R F i.holds ok st
  have key : K (a.put o.dst v) w := hK v A w ⟨rfl, rfl⟩ (fun d hd hdn => by rw [hd]; exact i.put hdn v) (fun hd => by rw [hd]; exact i)
  unfold Oper.wp
  rw [hrun]
  exact key
theorem JN.at {n : Nat} {C : Ctx} {K : Act → World → Prop} {l : Env} {A : List HP} (A' : List HP) (e : A = A') (h : JN n C K l A') : JN n C K l A := e ▸ h
/-! ### The book's block -/
abbrev cI (i : Int) : Value := .int .i64 i
def bookC (codes fi co ba : List Int) (A : Option Addr) (n c : Nat) : List Value := .bool true :: (codes.map cI ++ (.slice A n c :: (fi.map cI ++ (co.map cI ++ ba.map cI))))
theorem app_at {l : List Int} {r : List Value} {k : Nat} (h : k < l.length) : (l.map cI ++ r)[k]? = some (cI (l.getD k 0)) := by
  rw [List.getElem?_append_left (by simpa using h), List.getElem?_map, List.getElem?_eq_getElem h, List.getD_eq_getElem?_getD, List.getElem?_eq_getElem h]
  rfl
theorem app_past {l : List Int} {r : List Value} {k m : Nat} (h : l.length = m) : (l.map cI ++ r)[m + k]? = r[k]? := by
  rw [List.getElem?_append_right (by simp [h]), List.length_map, h, Nat.add_sub_cancel_left]
theorem app_set {l : List Int} {r : List Value} {k : Nat} {v : Int} (h : k < l.length) : (l.map cI ++ r).set k (cI v) = (l.set k v).map cI ++ r := by
  rw [List.set_append_left _ _ (by simpa using h), List.map_set]
theorem app_setp {l : List Int} {r : List Value} {k m : Nat} {v : Value} (h : l.length = m) : (l.map cI ++ r).set (m + k) v = l.map cI ++ r.set k v := by
  rw [List.set_append_right _ _ (by simp [h]), List.length_map, h, Nat.add_sub_cancel_left]
section
variable {codes fi co ba : List Int} {Ad : Option Addr} {n c k : Nat} {v : Int}
theorem bookC_len (h1 : codes.length = 257) (h2 : fi.length = 31) (h3 : co.length = 31) (h4 : ba.length = 31) : (bookC codes fi co ba Ad n c).length = 352 := by simp [bookC, h1, h2, h3, h4]
theorem bookC_codes (h1 : codes.length = 257) (hk : k < 257) : (bookC codes fi co ba Ad n c)[1 + k * 1]? = some (cI (codes.getD k 0)) := by
  rw [bookC, Nat.mul_one, Nat.add_comm, List.getElem?_cons_succ, app_at (by omega)]
theorem bookC_setcodes (h1 : codes.length = 257) (hk : k < 257) : (bookC codes fi co ba Ad n c).set (1 + k * 1) (cI v) = bookC (codes.set k v) fi co ba Ad n c := by
  rw [bookC, Nat.mul_one, Nat.add_comm, List.set_cons_succ, app_set (by omega)]
  rfl
theorem bookC_order (h1 : codes.length = 257) : (bookC codes fi co ba Ad n c)[258]? = some (.slice Ad n c) := by
  rw [bookC, List.getElem?_cons_succ, show (257 : Nat) = 257 + 0 from rfl, app_past h1]
  rfl
theorem bookC_setorder {Ad' : Option Addr} {n' c' : Nat} (h1 : codes.length = 257) : (bookC codes fi co ba Ad n c).set 258 (.slice Ad' n' c') = bookC codes fi co ba Ad' n' c' := by
  rw [bookC, List.set_cons_succ, show (257 : Nat) = 257 + 0 from rfl, app_setp h1]
  rfl
theorem bookC_setfirst (h1 : codes.length = 257) (h2 : fi.length = 31) (hk : k < 31) : (bookC codes fi co ba Ad n c).set (259 + k * 1) (cI v) = bookC codes (fi.set k v) co ba Ad n c := by
  rw [bookC, Nat.mul_one, show 259 + k = (257 + (k + 1)) + 1 by omega, List.set_cons_succ, app_setp h1, List.set_cons_succ, app_set (by omega)]
  rfl
theorem bookC_count (h1 : codes.length = 257) (h2 : fi.length = 31) (h3 : co.length = 31) (hk : k < 31) : (bookC codes fi co ba Ad n c)[290 + k * 1]? = some (cI (co.getD k 0)) := by
  rw [bookC, Nat.mul_one, show 290 + k = (257 + (31 + k + 1)) + 1 by omega, List.getElem?_cons_succ, app_past h1, List.getElem?_cons_succ, app_past h2, app_at (by omega)]
theorem bookC_setcount (h1 : codes.length = 257) (h2 : fi.length = 31) (h3 : co.length = 31) (hk : k < 31) : (bookC codes fi co ba Ad n c).set (290 + k * 1) (cI v) = bookC codes fi (co.set k v) ba Ad n c := by
  rw [bookC, Nat.mul_one, show 290 + k = (257 + (31 + k + 1)) + 1 by omega, List.set_cons_succ, app_setp h1, List.set_cons_succ, app_setp h2, app_set (by omega)]
  rfl
theorem bookC_setbase (h1 : codes.length = 257) (h2 : fi.length = 31) (h3 : co.length = 31) (h4 : ba.length = 31) (hk : k < 31) : (bookC codes fi co ba Ad n c).set (321 + k * 1) (cI v) = bookC codes fi co (ba.set k v) Ad n c := by
  have e : (ba.map cI).set k (cI v) = (ba.set k v).map cI := by rw [List.map_set]
  rw [bookC, Nat.mul_one, show 321 + k = (257 + (31 + (31 + k) + 1)) + 1 by omega, List.set_cons_succ, app_setp h1, List.set_cons_succ, app_setp h2, app_setp h3, e]
  rfl
end
theorem blt_of {o m : Nat} (h : o < m) : Nat.blt o m = true := Nat.ble_eq_true_of_le h
end Go.Proofs.YthjbkngecgbioaaGreatDoor.Sl

/- The logic of blocks: a literal slice of things that hold slices; what is let fall. -/
namespace Go.Proofs.YthjbkngecgbioaaGreatDoor.Sl
open Go
theorem O1.bslRA {P : Program} {n : Nat} {C : Ctx} {l : Env} {A : List HP} {ty : TypeId} {pos : String} {af : Array Edge} {dst : Option Tmp} {g : Option (Nat × Bool)} {α : Type} {D : Kd α} {T e by_ m : Nat} {ps : List (Nat × Operand)} {vs : List (Nat × Value)} {cs zs : List Value} {xs : List α} (hE : elTy P T e D.sz by_ = true) (hz : zeroTy P e = some zs) (hx : evps l ps = some vs) (hf : fillL (fun i => some (i * D.sz, D.sz)) (List.flatten (List.replicate m zs)) vs = some cs) (hm : Nat.ble (m * D.sz) 16777216 = true)
    (hm2 : Nat.ble m 16777216 = true) (hxs : xs.length = m) (hel : ∀ w R F, Ok w R F → Star A w R F → Elems D w R xs cs) :
    O1 P n C l A ⟨dst, .buildSlice T m ps.toArray, ty, pos, af, g⟩ (fun v B => ∃ b, v = .slice (some ⟨b, 0, none⟩) xs.length xs.length ∧ B = row D e (some ⟨b, 0, none⟩) xs.length xs :: A) := by
  refine Xe.O1.locA (A' := A) [] rfl (fun v' L' => ∃ b, v' = .slice (some ⟨b, 0, none⟩) xs.length xs.length ∧ L' = [row D e (some ⟨b, 0, none⟩) xs.length xs]) (fun a w R F F1 hl ok0 hs ok _ => ?_) (by rintro _ _ ⟨b, rfl, rfl⟩; exact ⟨b, rfl, rfl⟩)
  have hel0 : Elems D w R xs cs := hel w R F ok0 hs
  have hsame : Same w (w.alloc (.cells cs.toArray e (0, 0))) R := fun b hb => by
    have := ok.r b hb
    show (w.heap.push _)[b]? = _
    simp [Array.getElem?_push, show b ≠ w.heap.size by omega]
  refine ⟨_, _, w.alloc (.cells cs.toArray e (0, 0)), ⟨w.heap.size, rfl, rfl⟩, .inl (by rw [hxs]; exact run_bsl hE hz hx hf hm hl), ?_⟩
  have hlen : cs.length = xs.length * D.sz := hel0.len
  refine ⟨R, fun b => b = w.heap.size, ⟨rfl, rfl, rfl, by simp, fun k hk _ => ?_, fun _ h => h, fun _ h => .inl h, fun k hk => .inr (by omega)⟩, ⟨fun k hk => ?_, fun k hk => ?_, fun k hk e => ?_⟩,
    fun b => b = w.heap.size, fun _ => False, fun _ h => h, fun _ h => h.elim, fun _ _ h => h, ⟨cs, ⟨hlen, .inr ⟨w.heap.size, xs.length, cs.toArray, rfl, Nat.zero_le _, ?_, Nat.le_refl _, ?_, by simp only [List.size_toArray]; exact hlen, ?_⟩⟩, fun b hb => by simp [Value.ownBlock] at hb; exact hb.symm, hel0.loc hsame⟩, trivial⟩
  · show (w.heap.push _)[k]? = _
    simp [Array.getElem?_push, show k ≠ w.heap.size by omega]
  · have := ok.r k hk; simp; omega
  · simp; omega
  · have := ok.r k hk; omega
  · show (w.heap.push _)[w.heap.size]? = _
    simp
  · have := Nat.le_of_ble_eq_true hm2; unfold maxLen; omega
  · rw [List.take_of_length_le (by simp only [List.toList_toArray]; omega)]
theorem Spec.drop {P : Program} {f : FuncId} {args : Array Value} {L : List HP} {p : Value → Prop} (h : Spec P f args L (fun v _ => p v)) : Spec P f args L (fun v L' => p v ∧ L' = []) := by
  intro w R F ok st
  refine Calls.mono (h w R F ok st) ?_
  rintro e w' ⟨v, L', hp, he, R', F', s', o', _⟩
  exact ⟨v, [], ⟨hp, rfl⟩, he, R', F', s', o', trivial⟩
end Go.Proofs.YthjbkngecgbioaaGreatDoor.Sl
