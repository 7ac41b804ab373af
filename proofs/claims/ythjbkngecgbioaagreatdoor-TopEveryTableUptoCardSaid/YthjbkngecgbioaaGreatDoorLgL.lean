/- The arguments of the row are opened as lists; the law contract holds in any world that fits. -/
import Derived.Test.YthjbkngecgbioaaGreatDoorLgK
import Derived.Test.YthjbkngecgbioaaGreatDoorRows
import Derived.ChangeArms
import Derived.Test.YthjbkngecgbioaaGreatDoorCards
import Derived.Test.YthjbkngecgbioaaGreatDoorTie
import Derived.WalkKit
import Derived.ProofKit
import Derived.OpenShut
import Derived.Deep.DeepHandedRow
import Derived.Lib.LaidTab
set_option linter.unusedVariables false
set_option linter.unusedSimpArgs false
set_option linter.deprecated false
/- The arguments are opened: what a reading says, as a kind. -/
namespace Go.Proofs.YthjbkngecgbioaaGreatDoor.Sl
open Go
abbrev bulk {H : Type} (d : DataW H) : Nat := Go.Proofs.YthjbkngecgbioaaGreatDoor.Rows.uptoBulk d
abbrev bulkAll {H : Type} (d : List (DataW H)) : Nat := Go.Proofs.YthjbkngecgbioaaGreatDoor.Rows.uptoBulkAll d
theorem bulk_pos {H : Type} (d : DataW H) : 1 ≤ bulk d := by
  cases d with
  | lit l => cases l <;> simp [bulk, Go.Proofs.YthjbkngecgbioaaGreatDoor.Rows.uptoBulk]
  | _ => simp [bulk, Go.Proofs.YthjbkngecgbioaaGreatDoor.Rows.uptoBulk]
theorem bulkAll_cons {H : Type} (d : DataW H) (l : List (DataW H)) : bulkAll (d :: l) = bulk d + bulkAll l := by simp [bulkAll, bulk, Go.Proofs.YthjbkngecgbioaaGreatDoor.Rows.uptoBulkAll]
theorem bulkAll_nil {H : Type} : bulkAll ([] : List (DataW H)) = 0 := by simp [bulkAll, Go.Proofs.YthjbkngecgbioaaGreatDoor.Rows.uptoBulkAll]
theorem bulk_agg {H : Type} (l : List (DataW H)) : bulk (.agg l) = bulkAll l + 1 := by simp [bulkAll, bulk, Go.Proofs.YthjbkngecgbioaaGreatDoor.Rows.uptoBulk]
theorem bulk_slice {H : Type} (l s : List (DataW H)) : bulk (.slice l s) = bulkAll l + bulkAll s + 1 := by simp [bulkAll, bulk, Go.Proofs.YthjbkngecgbioaaGreatDoor.Rows.uptoBulk]
theorem bulk_string {H : Type} (l : List UInt8) : bulk (DataW.lit (H := H) (.string l)) = l.length + 1 := by simp [bulk, Go.Proofs.YthjbkngecgbioaaGreatDoor.Rows.uptoBulk]
theorem bulk_len {H : Type} : ∀ (l : List (DataW H)), l.length ≤ bulkAll l
  | [] => Nat.zero_le _
  | d :: l => by have := bulk_len l; have := bulk_pos d; rw [bulkAll_cons, List.length_cons]; omega
def Opens (P : Program) (t : Nat) {α : Type} (D : Kd α) (K : α → Nat) : Prop :=
  ∀ (H : Type) (enc : TypeId × Value → H) (w : World) (R : Foot) (sp : Nat → Bool) (held : Bool) (fuel : Nat) (cs : List Value) (d : DataW H) (ps : List MemPlace), (∀ b, b < w.heap.size → R b) →
    DataW.trod enc P w 0 sp held fuel t cs = some (d, ps) → bulk d ≤ 1048576 → ∃ x, D.rel w R x cs ∧ K x ≤ 512 * bulk d
section
variable {P : Program} {t : Nat}
theorem opens_int (ht : P.underlying t = some (.int .i64)) : Opens P t (Kd.int .i64) (fun _ => 512) := by
  intro H enc w R sp held fuel cs d ps hR h hb
  obtain ⟨n, rfl, e, hw⟩ := DataW.trod_int ht h
  simp only [Prod.mk.injEq] at e
  obtain ⟨rfl, rfl⟩ := e
  refine ⟨n, ⟨rfl, ?_⟩, by have := bulk_pos (DataW.lit (H := H) (.int .i64 n)); dsimp only; omega⟩
  simp only [Lit.wf, Bool.and_eq_true, decide_eq_true_eq] at hw
  exact ⟨hw.1, hw.2⟩
theorem opens_u8 (ht : P.underlying t = some (.int .u8)) : Opens P t (Kd.int .u8) (fun _ => 512) := by
  intro H enc w R sp held fuel cs d ps hR h hb
  obtain ⟨n, rfl, e, hw⟩ := DataW.trod_int ht h
  simp only [Prod.mk.injEq] at e
  obtain ⟨rfl, rfl⟩ := e
  refine ⟨n, ⟨rfl, ?_⟩, by have := bulk_pos (DataW.lit (H := H) (.int .u8 n)); dsimp only; omega⟩
  simp only [Lit.wf, Bool.and_eq_true, decide_eq_true_eq] at hw
  exact ⟨hw.1, hw.2⟩
theorem opens_bool (ht : P.underlying t = some .bool) : Opens P t Kd.bool (fun _ => 0) := by
  intro H enc w R sp held fuel cs d ps hR h hb
  obtain ⟨b, rfl, e⟩ := DataW.trod_bool ht h
  exact ⟨b, rfl, Nat.zero_le _⟩
theorem opens_str (ht : P.underlying t = some .string) : Opens P t Kd.str (fun s => 4 * s.size) := by
  intro H enc w R sp held fuel cs d ps hR h hb
  obtain ⟨s, rfl, e, _⟩ := DataW.trod_string ht h
  simp only [Prod.mk.injEq] at e
  obtain ⟨rfl, rfl⟩ := e
  have hs : s.data.toList.length = s.size := by rw [Array.length_toList]; rfl
  rw [bulk_string, hs] at hb ⊢
  exact ⟨s, ⟨rfl, by show _ ≤ 1099511627776; omega⟩, by dsimp only; omega⟩
theorem sum_le {α β : Type} (f : α → Nat) (g : β → Nat) : ∀ (xs : List α) (ys : List β), xs.length = ys.length → (∀ (i : Nat) (x : α) (y : β), xs[i]? = some x → ys[i]? = some y → f x ≤ g y) → (xs.map f).sum ≤ (ys.map g).sum
  | [], [], _, _ => Nat.le_refl _
  | x :: xs, y :: ys, hl, h => by
    have h1 := h 0 x y rfl rfl
    have h2 := sum_le f g xs ys (by simpa using hl) (fun i x y hx hy => h (i + 1) x y (by simpa using hx) (by simpa using hy))
    simp only [List.map_cons, List.sum_cons]
    omega
theorem bulkAll_sum {H : Type} : ∀ (l : List (DataW H × List MemPlace)), bulkAll (l.map (·.1)) = (l.map fun y => bulk y.1).sum
  | [] => bulkAll_nil
  | y :: l => by rw [List.map_cons, bulkAll_cons, bulkAll_sum l]; simp
theorem mul_sum {β : Type} (g : β → Nat) : ∀ (ys : List β), (ys.map fun y => 512 * g y).sum = 512 * (ys.map g).sum
  | [] => rfl
  | y :: ys => by simp only [List.map_cons, List.sum_cons, mul_sum g ys]; omega
theorem bulk_mem {H : Type} {y : DataW H × List MemPlace} : ∀ {l : List (DataW H × List MemPlace)}, y ∈ l → bulk y.1 ≤ bulkAll (l.map (·.1))
  | z :: l, h => by
    rw [List.map_cons, bulkAll_cons]
    rcases List.mem_cons.1 h with rfl | h
    · omega
    · have := bulk_mem h; omega
theorem exists_list {α : Type} (p : Nat → α → Prop) : ∀ (n : Nat), (∀ i, i < n → ∃ x, p i x) → ∃ xs : List α, xs.length = n ∧ ∀ i x, xs[i]? = some x → p i x
  | 0, _ => ⟨[], rfl, fun i x h => by simp at h⟩
  | n + 1, h => by
    obtain ⟨xs, h1, h2⟩ := exists_list p n (fun i hi => h i (by omega))
    obtain ⟨x, hx⟩ := h n (by omega)
    refine ⟨xs ++ [x], by simp [h1], fun i y hy => ?_⟩
    by_cases hi : i < n
    · rw [List.getElem?_append_left (by omega)] at hy; exact h2 i y hy
    · have hlt := (List.getElem?_eq_some_iff.1 hy).1
      simp at hlt
      obtain rfl : i = n := by omega
      rw [List.getElem?_append_right (by omega), h1, Nat.sub_self] at hy
      simp at hy
      subst hy
      exact hx
theorem opens_sl {e : Nat} {α : Type} {D : Kd α} {K : α → Nat} (ht : P.underlying t = some (.slice e)) (hc : P.cellsOf e = D.sz) (hpos : 0 < D.sz) (he : Opens P e D K) : Opens P t (Kd.sl D) (fun xs => (xs.map K).sum) := by
  intro H enc w R sp held fuel cs d ps hR h hb
  rcases DataW.trod_slice ht h with ⟨rfl, e1⟩ | ⟨a, len, cap, elems, rest, n, _, rfl, e1, _, hlc, _, hlen, hel, _, _⟩
  · exact ⟨[], ⟨none, 0, rfl, Nat.le_refl _, Nat.zero_le _, fun i x hx => by simp at hx⟩, Nat.zero_le _⟩
  · simp only [Prod.mk.injEq] at e1
    obtain ⟨rfl, rfl⟩ := e1
    rw [bulk_slice] at hb ⊢
    have hl2 : elems.length ≤ bulkAll (elems.map (·.1)) := by have := bulk_len (elems.map (·.1)); simpa using this
    have hs0 : 0 < len → a.spot = none := fun h0 => by
      have h1 := hel 0 h0
      obtain ⟨y, hy⟩ : ∃ y, elems[0]? = some y := ⟨_, List.getElem?_eq_getElem (by omega)⟩
      rw [hy, Option.bind_eq_some_iff] at h1
      obtain ⟨es, hes, _⟩ := h1
      have hcs := World.cells?_some hes
      rw [hc, Nat.zero_mul] at hcs
      have h3 := hcs.2.2 0 hpos
      have e0 : (a.add 0).add 0 = a := by simp [Addr.add]
      rw [e0, List.getElem?_eq_getElem (by rw [hcs.2.1]; exact hpos)] at h3
      unfold World.cell? at h3
      split at h3
      · split at h3
        · cases h3
        · rename_i hn
          cases hsp : a.spot with
          | none => rfl
          | some s => rw [hsp] at hn; simp at hn
      · cases h3
    have each : ∀ i, i < len → ∃ x : α, ∃ y b o es, elems[i]? = some y ∧ a = ⟨b, o, none⟩ ∧ D.rel w R x es ∧ RoCells w R b (o + i * D.sz) es ∧ K x ≤ 512 * bulk y.1 := by
      intro i hi
      have h1 := hel i hi
      obtain ⟨y, hy⟩ : ∃ y, elems[i]? = some y := ⟨_, List.getElem?_eq_getElem (by omega)⟩
      rw [hy, Option.bind_eq_some_iff] at h1
      obtain ⟨es, hes, htr⟩ := h1
      have hym := bulk_mem (List.mem_of_getElem? hy)
      obtain ⟨x, hx, hk⟩ := he H enc w R sp held n es y.1 y.2 hR htr (by omega)
      have hcs := World.cells?_some hes
      rw [hc] at hcs
      have hlt0 : 0 < es.length := by rw [hcs.2.1]; exact hpos
      obtain ⟨b, o, spt⟩ := a
      cases spt with
      | none =>
        have h2 : ∀ j u, es[j]? = some u → w.cell? ⟨b, o + i * D.sz + j, none⟩ = some u := fun j u hu => by
          have hj : j < D.sz := by rw [← hcs.2.1]; exact (List.getElem?_eq_some_iff.1 hu).1
          have h3 := hcs.2.2 j hj
          rw [add_none, add_none, hu] at h3
          exact h3
        have hRb : R b := by
          have h3 := h2 0 _ (List.getElem?_eq_getElem hlt0)
          refine hR b ?_
          unfold World.cell? at h3
          split at h3
          · rename_i hb'; exact (Array.getElem?_eq_some_iff.1 hb').1
          · cases h3
        exact ⟨x, y, b, o, es, hy, rfl, hx, ⟨hRb, h2⟩, hk⟩
      | some s =>
        have := hs0 (by omega)
        cases this
    obtain ⟨xs, hxl, hxs⟩ := exists_list _ len each
    refine ⟨xs, ⟨some a, cap, by rw [hxl], by omega, by show _ ≤ 1099511627776; omega, fun i x hx => ?_⟩, ?_⟩
    · obtain ⟨y, b, o, es, _, ha, h2, h3, _⟩ := hxs i x hx
      exact ⟨b, o, es, by rw [ha], h2, h3⟩
    · have := sum_le K (fun y : DataW H × List MemPlace => 512 * bulk y.1) xs elems (by omega) (fun i x y hx hy => by
        obtain ⟨y', b, o, es, hy', _, _, _, h5⟩ := hxs i x hx
        rw [hy] at hy'
        simp only [Option.some.injEq] at hy'
        subst hy'
        exact h5)
      rw [mul_sum, ← bulkAll_sum] at this
      dsimp only
      omega
def OpensF (P : Program) (fs : List Field) (off : Nat) {α : Type} (D : Kd α) (K : α → Nat) : Prop :=
  ∀ (H : Type) (enc : TypeId × Value → H) (w : World) (R : Foot) (sp : Nat → Bool) (held : Bool) (fuel : Nat) (cs : List Value) (xs : List (DataW H × List MemPlace)), (∀ b, b < w.heap.size → R b) →
    xs.length = fs.length → (∀ (i : Nat) (f : Field), fs[i]? = some f → DataW.trod enc P w 0 sp held fuel f.type ((cs.drop f.offset).take (P.cellsOf f.type)) = xs[i]?) → cs.length = off + D.sz → bulkAll (xs.map (·.1)) ≤ 1048576 →
    ∃ x, D.rel w R x (cs.drop off) ∧ K x ≤ 512 * bulkAll (xs.map (·.1))
theorem OpensF.one {f : Field} {off : Nat} {α : Type} {D : Kd α} {K : α → Nat} (ho : f.offset = off) (hc : P.cellsOf f.type = D.sz) (h : Opens P f.type D K) : OpensF P [f] off D K := by
  intro H enc w R sp held fuel cs xs hR hl hf hlen hb
  match xs, hl with
  | [y], _ =>
    have h1 := hf 0 f rfl
    rw [ho, hc, List.take_of_length_le (by rw [List.length_drop]; omega)] at h1
    rw [List.map_cons, List.map_nil, bulkAll_cons, bulkAll_nil] at hb ⊢
    exact h H enc w R sp held fuel _ y.1 y.2 hR h1 (by omega)
theorem OpensF.cons {f : Field} {fs : List Field} {off : Nat} {α β : Type} {D : Kd α} {E : Kd β} {K : α → Nat} {K2 : β → Nat} (ho : f.offset = off) (hc : P.cellsOf f.type = D.sz) (h : Opens P f.type D K) (hs : OpensF P fs (off + D.sz) E K2) : OpensF P (f :: fs) off (Kd.pair D E) (fun x => K x.1 + K2 x.2) := by
  intro H enc w R sp held fuel cs xs hR hl hf hlen hb
  match xs, hl with
  | y :: ys, hl =>
    have h1 := hf 0 f rfl
    rw [ho, hc] at h1
    have hlen' : cs.length = off + (D.sz + E.sz) := hlen
    rw [List.map_cons, bulkAll_cons] at hb ⊢
    obtain ⟨a, ha, hka⟩ := h H enc w R sp held fuel _ y.1 y.2 hR h1 (by omega)
    obtain ⟨b, hbr, hkb⟩ := hs H enc w R sp held fuel cs ys hR (by simpa using hl) (fun i g hg => by simpa using hf (i + 1) g (by simpa using hg)) (by omega) (by omega)
    refine ⟨(a, b), ⟨_, _, ?_, ha, hbr⟩, by dsimp only; omega⟩
    rw [← List.drop_drop, List.take_append_drop]
theorem opens_struct {fs : Array Field} {α β : Type} {D : Kd α} {K : α → Nat} {g : β → α} (inv : α → β) (hinv : ∀ y, g (inv y) = y) (ht : P.underlying t = some (.struct fs)) (hc : P.cellsOf t = D.sz) (h : OpensF P fs.toList 0 D K) : Opens P t (Kd.iso D g) (fun x => K (g x) + 512) := by
  intro H enc w R sp held fuel cs d ps hR htr hb
  obtain ⟨xs, n, _, e, hlen, hxl, hf⟩ := DataW.trod_struct ht htr
  simp only [Prod.mk.injEq] at e
  obtain ⟨rfl, rfl⟩ := e
  rw [bulk_agg] at hb ⊢
  obtain ⟨x, hx, hk⟩ := h H enc w R sp held n cs xs hR (by simpa using hxl) (fun i f hi => hf i f (by simpa using hi)) (by rw [hlen, hc]; omega) (by omega)
  refine ⟨inv x, ?_, ?_⟩
  · show D.rel w R (g (inv x)) cs
    rw [hinv]
    simpa using hx
  · dsimp only
    rw [hinv]
    omega
end
end Go.Proofs.YthjbkngecgbioaaGreatDoor.Sl

/- The law's arguments are opened. -/
set_option maxRecDepth 100000
namespace Go.Proofs.YthjbkngecgbioaaGreatDoor.Sl
open Go
theorem Opens.mono {P : Program} {t : Nat} {α : Type} {D : Kd α} {K K2 : α → Nat} (h : Opens P t D K) (hk : ∀ x, K2 x ≤ K x) : Opens P t D K2 := fun H enc w R sp held fuel cs d ps hR ht hb =>
  let ⟨x, h1, h2⟩ := h H enc w R sp held fuel cs d ps hR ht hb; ⟨x, h1, Nat.le_trans (hk x) h2⟩
theorem sum_const {α : Type} (c : Nat) : ∀ (xs : List α), (xs.map fun _ => c).sum = c * xs.length
  | [] => rfl
  | x :: xs => by rw [List.map_cons, List.sum_cons, sum_const c xs, List.length_cons, Nat.mul_succ]; omega
theorem fcost_sum : ∀ (l : List ApiField), fcost l = (l.map fun f => 40 + 4 * (f.Name.size + f.Value.size)).sum
  | [] => rfl
  | f :: l => by rw [fcost, fcost_sum l, List.map_cons, List.sum_cons]
theorem icost_sum : ∀ (l : List Sticklerref52Item), icost (l.map toW) = (l.map fun x => fcost x.Fields + 512 * x.F.Settings.length + x.F.Data.length + 1).sum
  | [] => rfl
  | x :: l => by rw [List.map_cons, icost, icost_sum l, List.map_cons, List.sum_cons]; rfl
theorem op3 : Opens Tryz.prog 3 (Kd.int .i64) (fun _ => 512) := opens_int Tryz.underlying3
theorem op5 : Opens Tryz.prog 5 (Kd.int .u8) (fun _ => 512) := opens_u8 Tryz.underlying5
theorem op4 : Opens Tryz.prog 4 Kd.bool (fun _ => 0) := opens_bool Tryz.underlying4
theorem op9 : Opens Tryz.prog 9 Kd.str (fun s => 4 * s.size) := opens_str Tryz.underlying9
theorem op37 : Opens Tryz.prog 37 (Kd.sl (Kd.int .u8)) (fun xs => xs.length) := Opens.mono (opens_sl Tryz.underlying37 (by kernel_rfl) (by decide) op5) (fun xs => by rw [sum_const]; omega)
theorem op198 : Opens Tryz.prog 198 kApiSetting (fun _ => 512) := Opens.mono (opens_struct (fun y => (⟨y.1, y.2⟩ : ApiSetting)) (fun _ => rfl) Tryz.underlying198 (by kernel_rfl) (OpensF.cons rfl (by kernel_rfl) (op3) (OpensF.one rfl (by kernel_rfl) (op3)))) (fun x => by (try dsimp only); omega)
theorem op38 : Opens Tryz.prog 38 (Kd.sl kApiSetting) (fun xs => 512 * xs.length) := Opens.mono (opens_sl Tryz.underlying38 (by kernel_rfl) (by decide) op198) (fun xs => by rw [sum_const]; omega)
theorem op146 : Opens Tryz.prog 146 kApiField (fun f => 40 + 4 * (f.Name.size + f.Value.size)) := Opens.mono (opens_struct (fun y => (⟨y.1, y.2.1, y.2.2⟩ : ApiField)) (fun _ => rfl) Tryz.underlying146 (by kernel_rfl) (OpensF.cons rfl (by kernel_rfl) (op9) (OpensF.cons rfl (by kernel_rfl) (op9) (OpensF.one rfl (by kernel_rfl) (op4))))) (fun x => by (try dsimp only); omega)
theorem op41 : Opens Tryz.prog 41 (Kd.sl kApiField) (fcost) := Opens.mono (opens_sl Tryz.underlying41 (by kernel_rfl) (by decide) op146) (fun xs => by rw [fcost_sum]; exact Nat.le_refl _)
theorem op40 : Opens Tryz.prog 40 kApiFrame (fun f => f.Data.length + 512 * f.Settings.length) := Opens.mono (opens_struct (fun y => (⟨y.1, y.2.1, y.2.2.1, y.2.2.2.1, y.2.2.2.2.1, y.2.2.2.2.2.1, y.2.2.2.2.2.2.1, y.2.2.2.2.2.2.2.1, y.2.2.2.2.2.2.2.2.1, y.2.2.2.2.2.2.2.2.2.1, y.2.2.2.2.2.2.2.2.2.2.1, y.2.2.2.2.2.2.2.2.2.2.2.1, y.2.2.2.2.2.2.2.2.2.2.2.2⟩ : ApiFrame)) (fun _ => rfl) Tryz.underlying40 (by kernel_rfl) (OpensF.cons rfl (by kernel_rfl) (op3) (OpensF.cons rfl (by kernel_rfl) (op3) (OpensF.cons rfl (by kernel_rfl) (op3) (OpensF.cons rfl (by kernel_rfl) (op3) (OpensF.cons rfl (by kernel_rfl) (op37) (OpensF.cons rfl (by kernel_rfl) (op38) (OpensF.cons rfl (by kernel_rfl) (op3) (OpensF.cons rfl (by kernel_rfl) (op3) (OpensF.cons rfl (by kernel_rfl) (op4) (OpensF.cons rfl (by kernel_rfl) (op3) (OpensF.cons rfl (by kernel_rfl) (op3) (OpensF.cons rfl (by kernel_rfl) (op3) (OpensF.one rfl (by kernel_rfl) (op3))))))))))))))) (fun x => by (try dsimp only); omega)
theorem op43 : Opens Tryz.prog 43 kSticklerref52Item (fun x => fcost x.Fields + 512 * x.F.Settings.length + x.F.Data.length + 1) := Opens.mono (opens_struct (fun y => (⟨y.1, y.2.1, y.2.2.1, y.2.2.2⟩ : Sticklerref52Item)) (fun _ => rfl) Tryz.underlying43 (by kernel_rfl) (OpensF.cons rfl (by kernel_rfl) (op3) (OpensF.cons rfl (by kernel_rfl) (op40) (OpensF.cons rfl (by kernel_rfl) (op4) (OpensF.one rfl (by kernel_rfl) (op41)))))) (fun x => by (try dsimp only); omega)
theorem op22 : Opens Tryz.prog 22 (Kd.sl kSticklerref52Item) (fun l => icost (l.map toW)) := Opens.mono (opens_sl Tryz.underlying22 (by kernel_rfl) (by decide) op43) (fun xs => by rw [icost_sum]; exact Nat.le_refl _)
theorem op50 : Opens Tryz.prog 50 kSticklerref24Option (fun _ => 512) := Opens.mono (opens_struct (fun y => (⟨y.1, y.2.1, y.2.2.1, y.2.2.2⟩ : Sticklerref24Option)) (fun _ => rfl) Tryz.underlying50 (by kernel_rfl) (OpensF.cons rfl (by kernel_rfl) (op3) (OpensF.cons rfl (by kernel_rfl) (op4) (OpensF.cons rfl (by kernel_rfl) (op4) (OpensF.one rfl (by kernel_rfl) (op4)))))) (fun x => by (try dsimp only); omega)
theorem op23 : Opens Tryz.prog 23 (Kd.sl kSticklerref24Option) (fun xs => xs.length) := Opens.mono (opens_sl Tryz.underlying23 (by kernel_rfl) (by decide) op50) (fun xs => by rw [sum_const]; omega)
end Go.Proofs.YthjbkngecgbioaaGreatDoor.Sl

/- The law's row: what its variables hold; the world at the call. -/
set_option maxRecDepth 100000
namespace Go.Proofs.YthjbkngecgbioaaGreatDoor.Sl
open Go Go.ChangeShapes Go.WideShapes Go.ChangeAt Go.RowKit
theorem pairAt {H : Type} {enc : TypeId × Value → H} {w : World} {sp : Nat → Bool} {held : Bool} {m : Nat} {cs : List Value} {y : DataW H × List MemPlace} {a b : Int} (h : DataW.trod enc Tryz.prog w 0 sp held m 181 cs = some y) (hy : y.1 = .agg [.lit (.int .i64 a), .lit (.int .i64 b)]) : cs = [.int .i64 a, .int .i64 b] := by
  obtain ⟨y0, y1, n, rfl, hl, h0, h1⟩ := trod_struct2 Tryz.underlying181 h
  have hc : Tryz.prog.cellsOf 181 = 2 := by kernel_rfl
  have hc3 : Tryz.prog.cellsOf 3 = 1 := by kernel_rfl
  rw [hc] at hl
  simp only [DataW.agg.injEq, List.cons.injEq, and_true] at hy
  match cs, hl with
  | [u, v], _ =>
    obtain ⟨n0, e0, e1, _⟩ := DataW.trod_int Tryz.underlying3 h0
    obtain ⟨n1, f0, f1, _⟩ := DataW.trod_int Tryz.underlying3 h1
    rw [show Tryz.prog.cellsOf _ = 1 from hc3] at e0 f0
    simp at e0 f0
    subst e0 f0
    rw [e1] at hy
    rw [f1] at hy
    simp only [DataW.lit.injEq, Lit.int.injEq, true_and] at hy
    rw [hy.1, hy.2]
theorem formsAt {W : World} (h : laidMetH Tryz.prog Go.Proofs.YthjbkngecgbioaaGreatDoor.Rows.topEveryTableUptoRow.laid W) : ∀ j u, [(Value.int .i64 0), .int .i64 0, .int .i64 128, .int .i64 7, .int .i64 64, .int .i64 6, .int .i64 0, .int .i64 4, .int .i64 16, .int .i64 4, .int .i64 32, .int .i64 5][j]? = some u → W.cell? ⟨0, 0 + j, none⟩ = some u := by
  have h' : laidMet Tryz.prog Go.Proofs.YthjbkngecgbioaaGreatDoor.Rows.topEveryTableUptoRow.laid W := h
  obtain ⟨ps, hv, _⟩ := h'
  obtain ⟨_, _, _, _, _, _, _, _, _, _, hv2, _⟩ := hv
  obtain ⟨g, t, cs, fuel, p, q, hg, ht, hvar, hd, _, _⟩ := hv2
  have hg0 : Tryz.prog.globalNamed "stickler/repr.forms" = some 0 := by kernel_rfl
  obtain rfl := Option.some.inj (hg0.symm.trans hg)
  have ht0 : (Tryz.prog.globals[0]?).map (·.type) = some 182 := by kernel_rfl
  obtain rfl := Option.some.inj (ht0.symm.trans ht)
  obtain ⟨xs, m, _, hx, hl, hxl, hi⟩ := DataW.trod_array Tryz.underlying182 hd
  have hc : Tryz.prog.cellsOf 181 = 2 := by kernel_rfl
  have hc2 : Tryz.prog.cellsOf 182 = 12 := by kernel_rfl
  rw [hc2] at hl
  rw [hc] at hi
  simp only [Prod.mk.injEq] at hx
  have hx1 := hx.1
  unfold Go.Proofs.YthjbkngecgbioaaGreatDoor.Rows.laid_stickler_repr_forms at hx1
  simp only [DataW.agg.injEq] at hx1
  match xs, hxl with
  | [y0, y1, y2, y3, y4, y5], _ =>
    simp only [List.map_cons, List.map_nil, List.cons.injEq, and_true] at hx1
    obtain ⟨e0, e1, e2, e3, e4, e5⟩ := hx1
    have k0 := pairAt (hi 0 (by decide)) e0.symm
    have k1 := pairAt (hi 1 (by decide)) e1.symm
    have k2 := pairAt (hi 2 (by decide)) e2.symm
    have k3 := pairAt (hi 3 (by decide)) e3.symm
    have k4 := pairAt (hi 4 (by decide)) e4.symm
    have k5 := pairAt (hi 5 (by decide)) e5.symm
    generalize hcs : cs.toList = l at hl k0 k1 k2 k3 k4 k5
    match l, hl with
    | [c0, c1, c2, c3, c4, c5, c6, c7, c8, c9, c10, c11], _ =>
      simp at k0 k1 k2 k3 k4 k5
      obtain ⟨rfl, rfl⟩ := k0
      obtain ⟨rfl, rfl⟩ := k1
      obtain ⟨rfl, rfl⟩ := k2
      obtain ⟨rfl, rfl⟩ := k3
      obtain ⟨rfl, rfl⟩ := k4
      obtain ⟨rfl, rfl⟩ := k5
      intro j u hu
      rw [Nat.zero_add, World.var?_cell hg0 hvar j, ← hu, ← hcs]
      simp
end Go.Proofs.YthjbkngecgbioaaGreatDoor.Sl

/- The law's contract, at any world that fits. -/
set_option maxRecDepth 100000
namespace Go.Proofs.YthjbkngecgbioaaGreatDoor.Sl
open Go Go.ChangeShapes Go.WideShapes Go.ChangeAt Go.RowKit
theorem laidOut : laidOutB Tryz.prog = true := by kernel_rfl
theorem law_contract (H : Type) (enc : TypeId × Value → H) (W : World) (base : Nat) (args : Array Value) (ds gs : List (DataW H)) (before : List MemPlace)
    (hval : ∀ (j : Nat) t v, Tryz.f3.params[j]? = some t → args[j]? = some v → Value.okWide Tryz.prog W .any base t v)
    (hW : DataW.Whole enc Tryz.prog Tryz.f3.params.toList Go.Proofs.YthjbkngecgbioaaGreatDoor.Rows.topEveryTableSpec.vars false W args.toList ds gs before) (hL : laidMetH Tryz.prog Go.Proofs.YthjbkngecgbioaaGreatDoor.Rows.topEveryTableUptoRow.laid W)
    (hk : Go.Proofs.YthjbkngecgbioaaGreatDoor.Rows.uptoSmall H (ds ++ gs) = true) (hso : 0 < W.heap.size) :
    Calls Tryz.prog 3 args W fun e W' => ∃ v, e = .returned v ∧ Go.Proofs.YthjbkngecgbioaaGreatDoor.Rows.topEveryTableSpec.post enc Tryz.prog Tryz.f3 false true false false W args v W' := by
  have hW' := hW
  obtain ⟨p, q, hA0, hV, rfl, hfz, hnd⟩ := hW
  have hA : DataW.TrodAll enc Tryz.prog W 0 (fun _ => true) true Tryz.f3.params.toList args.toList ds p := hA0
  rw [Tryz.params3] at hA hval
  obtain ⟨v0, v1, d0, d1, p0, p1, rfl, rfl, rfl, h0, h1⟩ := trodAll_two hA
  obtain ⟨rfl, rfl⟩ := trodVars_none hV
  obtain ⟨a0, n0, c0, rfl⟩ := WideShapes.okWide_slice Tryz.underlying22 (hval 0 22 v0 rfl rfl)
  obtain ⟨a1, n1, c1, rfl⟩ := WideShapes.okWide_slice Tryz.underlying23 (hval 1 23 v1 rfl rfl)
  have hk' : bulkAll ([d0, d1] ++ []) ≤ 1048576 := of_decide_eq_true hk
  rw [List.append_nil, bulkAll_cons, bulkAll_cons, bulkAll_nil] at hk'
  have h0k := h0
  have h1k := h1
  obtain ⟨f0, t0⟩ := h0
  obtain ⟨f1, t1⟩ := h1
  obtain ⟨l, ⟨A0, k0, e0, r0⟩, b0⟩ := op22 H enc W (fun b => b < W.heap.size) _ _ f0 _ d0 p0 (fun _ h => h) t0 (by omega)
  obtain ⟨how, ⟨A1, k1, e1, r1⟩, b1⟩ := op23 H enc W (fun b => b < W.heap.size) _ _ f1 _ d1 p1 (fun _ h => h) t1 (by omega)
  have e0' : [Value.slice a0 n0 c0] = [.slice A0 l.length k0] := e0
  have e1' : [Value.slice a1 n1 c1] = [.slice A1 how.length k1] := e1
  simp only [List.cons.injEq, Value.slice.injEq, and_true] at e0' e1'
  obtain ⟨rfl, rfl, rfl⟩ := e0'
  obtain ⟨rfl, rfl, rfl⟩ := e1'
  have hlt : ∀ x ∈ p0 ++ p1, x.block < W.heap.size := fun x hx => by
    have := hW'.lt x (by simpa using hx)
    simpa using this
  have spec := s_law a0 c0 l a1 c1 how (by dsimp only at b0; omega) (by dsimp only at b1; omega)
  have run := spec W (fun b => b < W.heap.size) (fun _ => False) ⟨fun _ h => h, fun _ h => h.elim, fun _ _ h => h⟩
    ⟨fun _ => False, fun _ => False, fun _ h => h, fun _ h => h, fun _ h => h.elim, r0, fun _ => False, fun _ => False, fun _ h => h, fun _ h => h, fun _ h => h.elim, r1, fun _ => False, fun _ => False, fun _ h => h, fun _ h => h, fun _ h => h.elim, ⟨hso, formsAt hL⟩, trivial⟩
  refine Calls.mono run ?_
  rintro e W' ⟨v, L', ⟨rfl, _⟩, rfl, R', F', s, _, _⟩
  have hbe : Below W.heap.size W W' := ⟨s.os, s.tape, s.output, s.size, fun k hk => s.same k hk (fun h => h)⟩
  refine ⟨_, rfl, [d0, d1], [], p0 ++ p1 ++ [], [], p0 ++ p1, [], hW', ?_, ?_, rfl, hbe.frame _, fun h => by cases h⟩
  · exact trodAll_cons_mk (p := []) (p' := []) (shut_bool Tryz.underlying4 true) trodAll_mk0
  · rw [Tryz.params3]
    exact trodAll_mk2 (Below.trod laidOut (by kernel_rfl) (of_decide_eq_true (by kernel_rfl)) h0k hbe (fun x hx => hlt x (List.mem_append_left _ hx))) (Below.trod laidOut (by kernel_rfl) (of_decide_eq_true (by kernel_rfl)) h1k hbe (fun x hx => hlt x (List.mem_append_right _ hx)))
end Go.Proofs.YthjbkngecgbioaaGreatDoor.Sl
