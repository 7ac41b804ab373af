/- The tables, the codes and the field blocks are written as told (each theorem names its bounds). -/
import Derived.Test.YthjbkngecgbioaaGreatDoorLgH
import Derived.Test.YthjbkngecgbioaaGreatDoorLgF
set_option linter.unusedVariables false
set_option linter.unusedSimpArgs false
set_option linter.deprecated false
/- Walks: the table. -/
set_option maxRecDepth 100000
set_option linter.unusedSimpArgs false
set_option linter.unusedVariables false
namespace Go.Proofs.YthjbkngecgbioaaGreatDoor.Sl
open Go
theorem pl9 : plainTy Tryz.prog 9 = true := by kernel_rfl
theorem fo146_0 : fldOff Tryz.prog 146 0 = some 0 := by kernel_rfl
theorem fo146_1 : fldOff Tryz.prog 146 1 = some 1 := by kernel_rfl
theorem sz146 : szTy Tryz.prog 146 = some 3 := by kernel_rfl
theorem el41 : elTy Tryz.prog 41 146 3 40 = true := by kernel_rfl
theorem ze146 : zeroTy Tryz.prog 146 = some [.string ⟨#[]⟩, .string ⟨#[]⟩, .bool false] := by kernel_rfl
theorem fo108_0 : fldOff Tryz.prog 108 0 = some 0 := by kernel_rfl
theorem fo108_1 : fldOff Tryz.prog 108 1 = some 1 := by kernel_rfl
theorem ag146 : aggTy Tryz.prog 146 = true := by kernel_rfl
theorem sz41 : szTy Tryz.prog 41 = some 1 := by kernel_rfl
def fld0 : ApiField := ⟨⟨#[]⟩, ⟨#[]⟩, false⟩
def f_dyntab_Weight (f : ApiField) : Int := (IntKind.i64.wrap ((IntKind.i64.wrap (((f.Name.size : Nat) : Int) + ((f.Value.size : Nat) : Int))) + 32))
def f_shrink_l0 (xs : List ApiField) (sz : Int) (most : Int) : Nat → Nat → Int → List ApiField × Int
  | 0, _, _ => ([], 0)
  | m0 + 1, g, s => if (g : Int) < ((xs.length : Nat) : Int) then if s > most then f_shrink_l0 xs sz most m0 (g + 1) (IntKind.i64.wrap (s - (f_dyntab_Weight ((xs[g]?).getD fld0)))) else (xs.drop g, s) else (xs.drop g, s)
def f_shrink (xs : List ApiField) (sz : Int) (most : Int) : List ApiField × Int := f_shrink_l0 xs sz most ((xs.length - 0) + 1) 0 sz
theorem s_dyntab_Weight (f : ApiField) :
    Spec Tryz.prog 119 [.agg #[.string f.Name, .string f.Value, .bool f.Never]].toArray [] (fun v L => v = .int .i64 (f_dyntab_Weight f) ∧ L = []) := by
  refine Spec.enter Tryz.func119 rfl Tryz.ntmps119 rfl rfl (fun w0 R0 F0 => ?_)
  refine J.seq ?_
  refine J.region ?_
  refine JL.ef (O1.box rfl rfl) rfl ?_
  rintro _ _ ⟨b_1, rfl, rfl⟩
  refine JL.qt (Qt.assign rfl) rfl ?_
  refine JL.nil ?_
  refine JN.code ?_
  refine J.seq ?_
  refine J.region ?_
  refine JL.qt (Qt.fa (o' := 0) fo146_0 rfl rfl) rfl ?_
  refine JL.qt (Qt.ld 0 pl9 rfl rfl rfl) rfl ?_
  refine JL.qt (Qt.bi (fun _ _ => len_str_run Tryz.underlying9) rfl) rfl ?_
  refine JL.qt (Qt.fa (o' := 1) fo146_1 rfl rfl) rfl ?_
  refine JL.qt (Qt.ld 0 pl9 rfl rfl rfl) rfl ?_
  refine JL.qt (Qt.bi (fun _ _ => len_str_run Tryz.underlying9) rfl) rfl ?_
  refine JL.qt (Qt.bin (fun _ => add_run) rfl rfl rfl) rfl ?_
  refine JL.qt (Qt.bin (fun _ => add_run) rfl rfl rfl) rfl ?_
  refine JL.qt (Qt.assign rfl) rfl ?_
  refine JL.nil ?_
  refine JN.code ?_
  refine J.ret ?_
  refine JN.back (res1 rfl rfl) [] rfl ?_
  exact ⟨by unfold f_dyntab_Weight; rfl, rfl⟩
theorem s_del (A1 : Option Addr) (c1 : Nat) (xs : List ApiField) (j : Nat) (hj : j ≤ xs.length) :
    Spec Tryz.prog 120 [.slice A1 xs.length c1, .int .i64 0, .int .i64 (j : Int)].toArray [row kApiField 146 A1 c1 xs] (fun v L => v = .slice A1 ((xs.drop j).length) c1 ∧ L = [row kApiField 146 A1 c1 (xs.drop j)]) := by
  refine Spec.enter Tryz.func120 rfl Tryz.ntmps120 rfl rfl (fun w0 R0 F0 => ?_)
  refine J.seq ?_
  refine J.region ?_
  refine JL.qt (Qt.assign rfl) rfl ?_
  refine JL.nil ?_
  refine JN.code ?_
  refine J.seq ?_
  refine J.tell 0 rfl row_tell2 (fun ⟨ht, ht2⟩ => ?_)
  refine J.region ?_
  refine JL.qt (Qt.move rfl) rfl ?_
  refine JL.qt (Qt.move rfl) rfl ?_
  refine JL.qt (Qt.move rfl) rfl ?_
  refine JL.qt (Qt.move rfl) rfl ?_
  refine JL.qt (Qt.bi (fun _ _ => len_slice_run Tryz.underlying41) rfl) rfl ?_
  refine JL.qt (Qt.cut3 (lo := 0) (hi := j) (mx := xs.length) Tryz.underlying41 sz146 rfl rfl rfl rfl (Nat.zero_le _) hj ht) rfl ?_
  refine JL.nil ?_
  refine JN.code ?_
  refine J.seq ?_
  refine J.seq ?_
  refine J.region ?_
  refine JL.qt (Qt.move rfl) rfl ?_
  refine JL.qt (Qt.move rfl) rfl ?_
  refine JL.qt (Qt.bin (fun _ => eql_run) rfl rfl rfl) rfl ?_
  refine JL.nil ?_
  refine JN.code ?_
  refine J.cond_eq rfl (fun h1 => ?_) (fun h1 => ?_)
  · refine J.seq ?_
    refine J.region ?_
    refine JL.qt (Qt.move rfl) rfl ?_
    refine JL.qt (Qt.assign rfl) rfl ?_
    refine JL.nil ?_
    refine JN.code ?_
    refine J.ret ?_
    refine JN.back (res1 rfl rfl) [0] rfl ?_
    obtain rfl : j = 0 := by omega
    exact ⟨rfl, rfl⟩
  refine J.tell 0 rfl (row_at (fun e => h1 (by rw [e] at hj; simp at hj; omega))) (fun hb_2 => ?_); obtain ⟨b_1, hb_2⟩ := hb_2; subst hb_2
  refine J.skip ?_
  refine JN.code ?_
  refine J.seq ?_
  refine J.region ?_
  refine JL.qt (Qt.move rfl) rfl ?_
  refine JL.qt (Qt.bi (fun _ _ => len_slice_run Tryz.underlying41) rfl) rfl ?_
  refine JL.qt (Qt.assign rfl) rfl ?_
  refine JL.nil ?_
  refine JN.code ?_
  refine J.seq ?_
  refine J.sch (.qt 0 (.qt 1 (.qt 2 (.qt 3 (.qt 4 (.qt 5 (.ef 6 [] (.qt 7 (.done))))))))) mixed (by repeat (first | exact Xe.noLook_body | refine noLook_then ?_ | refine noLook_block ?_)) (by kernel_rfl) ?_
  refine JS.q0 rfl (Qt.move rfl) rfl ?_
  refine JS.q0 rfl (Qt.move rfl) rfl ?_
  refine JS.q0 rfl (Qt.cut0 (hi := 0) Tryz.underlying41 sz146 rfl (Bnd.nh (hi := 0) rfl (Nat.zero_le _))) rfl ?_
  refine JS.q0 rfl (Qt.move rfl) rfl ?_
  refine JS.q0 rfl (Qt.move rfl) rfl ?_
  refine JS.q0 rfl (Qt.cut Tryz.underlying41 sz146 rfl (Bnd.ln (lo := j) rfl (by omega))) rfl ?_
  refine JS.e1 ?_
  refine JE.ef rfl (O1.appendSelf (j := j) 0 el41 rfl rfl rfl hj) rfl ?_
  rintro _ _ ⟨rfl, rfl⟩
  refine ⟨trivial, ?_⟩
  refine JS.q0 rfl (Qt.assign rfl) rfl ?_
  refine JS.done ?_
  refine JN.code ?_
  refine J.seq ?_
  refine J.region ?_
  refine JL.qt (Qt.move rfl) rfl ?_
  refine JL.qt (Qt.move rfl) rfl ?_
  refine JL.qt (Qt.bi (fun _ _ => len_slice_run Tryz.underlying41) rfl) rfl ?_
  refine JL.qt (Qt.move rfl) rfl ?_
  refine JL.qt (Qt.cut Tryz.underlying41 sz146 rfl (Bnd.lh (lo := ((xs.drop j).length)) (hi := xs.length) rfl rfl (by rw [List.length_drop]; omega) ht)) rfl ?_
  refine JL.en (O1.clearTail (lo := (xs.drop j).length) 0 el41 ze146 rfl rfl rfl (Nat.le_refl _) (by rw [List.length_drop]; omega)) ?_
  rintro _ _ ⟨rfl, rfl⟩
  refine JL.nil ?_
  refine JN.code ?_
  refine J.seq ?_
  refine J.keep [0, 6] rfl ?_
  refine J.region ?_
  refine JL.qt (Qt.move rfl) rfl ?_
  refine JL.qt (Qt.assign rfl) rfl ?_
  refine JL.nil ?_
  refine JN.code ?_
  refine J.ret ?_
  refine JN.back (res1 rfl rfl) [0] rfl ?_
  exact ⟨rfl, rfl⟩
theorem s_shrink (t : Nat) (A1 : Option Addr) (c1 : Nat) (xs : List ApiField) (sz : Int) (mx : Int) (most : Int) :
    Spec Tryz.prog 81 [.pointer (some ⟨t, 0, none⟩), .int .i64 most].toArray [blk t 108 [.slice A1 xs.length c1, .int .i64 sz, .int .i64 mx], row kApiField 146 A1 c1 xs] (fun v L => v = .tuple #[] ∧ L = [blk t 108 [.slice A1 (((f_shrink xs sz most).1).length) c1, .int .i64 ((f_shrink xs sz most).2), .int .i64 mx], row kApiField 146 A1 c1 ((f_shrink xs sz most).1)]) := by
  refine Spec.enter Tryz.func81 rfl Tryz.ntmps81 rfl rfl (fun w0 R0 F0 => ?_)
  refine J.seq ?_
  refine J.region ?_
  refine JL.qt (Qt.assign rfl) rfl ?_
  refine JL.nil ?_
  refine JN.code ?_
  refine J.seq ?_
  refine J.block ?_
  have hT0 : f_shrink xs sz most = f_shrink_l0 xs sz most ((xs.length - 0) + 1) 0 sz := by unfold f_shrink; rfl
  refine J.tell 1 rfl row_tell2 (fun ⟨ht, ht2⟩ => ?_)
  refine J.loop3 (fun (g : Nat) (s : Int) (m0 : Nat) => [(0, .pointer (some ⟨t, 0, none⟩)), (1, .int .i64 most), (4, .int .i64 (g : Int))]) (fun (g : Nat) (s : Int) (m0 : Nat) => [blk t 108 [.slice A1 xs.length c1, .int .i64 s, .int .i64 mx], row kApiField 146 A1 c1 xs]) (fun (g : Nat) (s : Int) (m0 : Nat) => (g ≤ xs.length) ∧ (xs.length - g) < m0 ∧ f_shrink_l0 xs sz most m0 g s = f_shrink_l0 xs sz most ((xs.length - 0) + 1) 0 sz) (fun (g : Nat) (s : Int) (m0 : Nat) => xs.length - g) 0 sz ((xs.length - 0) + 1) ⟨Nat.zero_le _, by omega, rfl⟩ ⟨rfl, rfl, rfl, trivial⟩ [0, 0] rfl ?_
  rintro g s m0 ⟨hg, hm0, hI0⟩
  obtain ⟨m0, rfl⟩ : ∃ z, m0 = z + 1 := ⟨m0 - 1, by omega⟩
  refine J.seq ?_
  refine J.seq ?_
  refine J.region ?_
  refine JL.qt (Qt.move rfl) rfl ?_
  refine JL.qt (Qt.move rfl) rfl ?_
  refine JL.qt (Qt.nck rfl) rfl ?_
  refine JL.qt (Qt.fa (o' := 0) fo108_0 rfl rfl) rfl ?_
  refine JL.qt (Qt.ld 0 pl41 rfl rfl rfl) rfl ?_
  refine JL.qt (Qt.bi (fun _ _ => len_slice_run Tryz.underlying41) rfl) rfl ?_
  refine JL.qt (Qt.bin (fun _ => lss_run) rfl rfl rfl) rfl ?_
  refine JL.qt (Qt.move rfl) rfl ?_
  refine JL.cases_dec (t := 12) rfl (fun h1 => ?_) (fun h1 => ?_)
  · refine JL.g_in rfl rfl ?_
    refine JL.qt (Qt.move rfl) rfl ?_
    refine JL.g_in rfl rfl ?_
    refine JL.qt (Qt.nck rfl) rfl ?_
    refine JL.g_in rfl rfl ?_
    refine JL.qt (Qt.fa (o' := 1) fo108_1 rfl rfl) rfl ?_
    refine JL.g_in rfl rfl ?_
    refine JL.qt (Qt.ld 0 pl3 rfl rfl rfl) rfl ?_
    refine JL.g_in rfl rfl ?_
    refine JL.qt (Qt.move rfl) rfl ?_
    refine JL.g_in rfl rfl ?_
    refine JL.qt (Qt.bin (fun _ => gtr_run) rfl rfl rfl) rfl ?_
    refine JL.qt (Qt.pick_t rfl rfl) rfl ?_
    refine JL.nil ?_
    refine JN.code ?_
    refine J.cond_dec rfl (fun h2 => ?_) (fun h2 => ?_)
    · refine J.skip ?_
      refine JN.code ?_
      refine J.block ?_
      refine J.seq ?_
      have hu := getkD (xs := xs) (k := g) fld0 (by omega)
      refine J.tell 1 rfl (row_at (fun e => by simp [e] at hu)) (fun hb_2 => ?_); obtain ⟨b_1, hb_2⟩ := hb_2; subst hb_2
      refine J.sch (.qt 0 (.qt 1 (.qt 2 (.qt 3 (.qt 4 (.qt 5 (.qt 6 (.qt 7 (.qt 8 (.qt 9 (.qt 10 (.ef 11 [3] (.qt 12 (.qt 13 (.qt 14 (.ef 15 [] (.done))))))))))))))))) mixed (by repeat (first | exact Xe.noLook_body | refine noLook_then ?_ | refine noLook_block ?_)) (by kernel_rfl) ?_
      refine JS.q0 rfl (Qt.move rfl) rfl ?_
      refine JS.q0 rfl (Qt.nck rfl) rfl ?_
      refine JS.q0 rfl (Qt.fa (o' := 1) fo108_1 rfl rfl) rfl ?_
      refine JS.q1 (j := 0) rfl rfl rfl (Qt.ld 0 pl3 rfl rfl rfl) rfl ?_
      refine JS.q0 rfl (Qt.move rfl) rfl ?_
      refine JS.q0 rfl (Qt.nck rfl) rfl ?_
      refine JS.q0 rfl (Qt.fa (o' := 0) fo108_0 rfl rfl) rfl ?_
      refine JS.q1 (j := 0) rfl rfl rfl (Qt.ld 0 pl41 rfl rfl rfl) rfl ?_
      refine JS.q0 rfl (Qt.move rfl) rfl ?_
      refine JS.q0 rfl (Qt.ia Tryz.underlying41 sz146 rfl rfl (by omega) (by omega)) rfl ?_
      refine JS.q1 (j := 1) rfl rfl rfl (Qt.ldA_row (D := kApiField) (k := g) (e := ((xs[g]?).getD fld0)) 0 ag146 sz146 rfl rfl hu (Nat.zero_add _) rfl (fun w R cs h => (unApiField (x := ((xs[g]?).getD fld0)) (cs := cs) w R (fun _ => False) h).1.1)) rfl ?_
      refine JS.e1 ?_
      refine JE.ef rfl (O1.call Tryz.func119 rfl rfl rfl [] rfl (s_dyntab_Weight _)) rfl ?_
      rintro _ _ ⟨_, ⟨rfl, rfl⟩, rfl⟩
      refine ⟨⟨.inl rfl, ⟨.inl rfl, ⟨.inr ⟨0, _, rfl⟩, trivial⟩⟩⟩, ?_⟩
      refine JS.q0 rfl (Qt.bin (fun _ => sub_run) rfl rfl rfl) rfl ?_
      refine JS.q0 rfl (Qt.nck rfl) rfl ?_
      refine JS.q0 rfl (Qt.fa (o' := 1) fo108_1 rfl rfl) rfl ?_
      refine JS.e1 ?_
      refine JE.sk rfl (O1.st 0 sz3 rfl rfl rfl rfl rfl rfl) ⟨.inl rfl, ⟨.inl rfl, ⟨.inl rfl, trivial⟩⟩⟩ ?_
      refine JS.done ?_
      refine JN.code ?_
      refine J.keep [0, 1, 4] rfl ?_
      refine J.region ?_
      refine JL.qt (Qt.move rfl) rfl ?_
      refine JL.qt (Qt.bin (fun _ => addN_run rfl (by omega) (by omega)) rfl rfl rfl) rfl ?_
      refine JL.qt (Qt.assign rfl) rfl ?_
      refine JL.nil ?_
      refine JN.round3 (z0 := g) (z1 := s) (z2 := (m0 + 1)) (g + 1) (IntKind.i64.wrap (s - (f_dyntab_Weight ((xs[g]?).getD fld0)))) m0 (by omega) ⟨by omega, by omega, by rw [← hI0, f_shrink_l0]; rw [if_pos h1, if_pos h2] <;> rfl⟩ ⟨rfl, rfl, rfl, trivial⟩ [0, 0] rfl
    refine J.exit ?_
    refine JN.code ?_
    refine J.region ?_
    refine JL.qt (Qt.move rfl) rfl ?_
    refine JL.qt (Qt.move rfl) rfl ?_
    refine JL.qt (Qt.nck rfl) rfl ?_
    refine JL.qt (Qt.fa (o' := 0) fo108_0 rfl rfl) rfl ?_
    refine JL.qt (Qt.ld 0 pl41 rfl rfl rfl) rfl ?_
    refine JL.qt (Qt.move rfl) rfl ?_
    refine JL.call (O1.call Tryz.func120 rfl rfl rfl [1] rfl (s_del A1 c1 xs g (by omega))) rfl ?_
    rintro _ _ ⟨rfl, rfl⟩
    refine JL.qt (Qt.nck rfl) rfl ?_
    refine JL.qt (Qt.fa (o' := 0) fo108_0 rfl rfl) rfl ?_
    refine JL.sk (O1.st 1 sz41 rfl rfl rfl rfl rfl rfl) ?_
    refine JL.nil ?_
    refine JN.back (res0 rfl) [0, 0] rfl ?_
    exact ⟨rfl, by rw [hT0, ← hI0, f_shrink_l0]; rw [if_pos h1, if_neg h2] <;> rfl⟩
  refine JL.g_outU rfl rfl rfl rfl ?_
  refine JL.g_outU rfl rfl rfl rfl ?_
  refine JL.g_outU rfl rfl rfl rfl ?_
  refine JL.g_outU rfl rfl rfl rfl ?_
  refine JL.g_outU rfl rfl rfl rfl ?_
  refine JL.g_outU rfl rfl rfl rfl ?_
  refine JL.qt (Qt.pick_f rfl rfl) rfl ?_
  refine JL.nil ?_
  refine JN.code ?_
  refine J.cond_false rfl ?_
  refine J.exit ?_
  refine JN.code ?_
  refine J.region ?_
  refine JL.qt (Qt.move rfl) rfl ?_
  refine JL.qt (Qt.move rfl) rfl ?_
  refine JL.qt (Qt.nck rfl) rfl ?_
  refine JL.qt (Qt.fa (o' := 0) fo108_0 rfl rfl) rfl ?_
  refine JL.qt (Qt.ld 0 pl41 rfl rfl rfl) rfl ?_
  refine JL.qt (Qt.move rfl) rfl ?_
  refine JL.call (O1.call Tryz.func120 rfl rfl rfl [1] rfl (s_del A1 c1 xs g (by omega))) rfl ?_
  rintro _ _ ⟨rfl, rfl⟩
  refine JL.qt (Qt.nck rfl) rfl ?_
  refine JL.qt (Qt.fa (o' := 0) fo108_0 rfl rfl) rfl ?_
  refine JL.sk (O1.st 1 sz41 rfl rfl rfl rfl rfl rfl) ?_
  refine JL.nil ?_
  refine JN.back (res0 rfl) [0, 0] rfl ?_
  exact ⟨rfl, by rw [hT0, ← hI0, f_shrink_l0]; rw [if_neg h1] <;> rfl⟩
end Go.Proofs.YthjbkngecgbioaaGreatDoor.Sl

/- Walks: the table is read, a field is added. -/
set_option maxRecDepth 100000
set_option linter.unusedSimpArgs false
set_option linter.unusedVariables false
namespace Go.Proofs.YthjbkngecgbioaaGreatDoor.Sl
open Go
theorem fo108_2 : fldOff Tryz.prog 108 2 = some 2 := by kernel_rfl
theorem sp146 : structPl Tryz.prog 146 = some [(0, 1), (1, 1), (2, 1)] := by kernel_rfl
def f_tat (xs : List ApiField) (i : Nat) : ApiField := (xs[xs.length - i]?).getD fld0
theorem f_shrink_l0_len (xs : List ApiField) (sz most : Int) : ∀ (m g : Nat) (s : Int), (f_shrink_l0 xs sz most m g s).1.length ≤ xs.length
  | 0, _, _ => Nat.zero_le _
  | m + 1, g, s => by
    rw [f_shrink_l0]
    split
    · split
      · exact f_shrink_l0_len xs sz most m _ _
      · simp
    · simp
theorem f_shrink_len (xs : List ApiField) (sz most : Int) : (f_shrink xs sz most).1.length ≤ xs.length := f_shrink_l0_len _ _ _ _ _ _
def f_tfind_l0 (xs : List ApiField) (nm : ByteArray) (vl : ByteArray) : Nat → Nat → Int → Int × Bool
  | 0, _, _ => (0, false)
  | m0 + 1, i, fst => if (i : Int) ≤ ((xs.length : Nat) : Int) then if (((f_tat xs i).Name).toList == nm.toList) = true then if (((f_tat xs i).Value).toList == vl.toList) = true then ((i : Int), true) else if fst = 0 then f_tfind_l0 xs nm vl m0 (i + 1) (i : Int) else f_tfind_l0 xs nm vl m0 (i + 1) fst else f_tfind_l0 xs nm vl m0 (i + 1) fst else (fst, false)
def f_tfind (xs : List ApiField) (nm : ByteArray) (vl : ByteArray) : Int × Bool := f_tfind_l0 xs nm vl ((xs.length + 1 - 1) + 1) 1 0
def f_tadd (xs : List ApiField) (sz : Int) (mx : Int) (f : ApiField) : List ApiField × Int := if (f_dyntab_Weight f) > mx then ((f_shrink xs sz (max (IntKind.i64.wrap (mx - (f_dyntab_Weight f))) 0)).1, (f_shrink xs sz (max (IntKind.i64.wrap (mx - (f_dyntab_Weight f))) 0)).2) else ((((f_shrink xs sz (max (IntKind.i64.wrap (mx - (f_dyntab_Weight f))) 0)).1) ++ [(⟨f.Name, f.Value, false⟩ : ApiField)]), IntKind.i64.wrap (((f_shrink xs sz (max (IntKind.i64.wrap (mx - (f_dyntab_Weight f))) 0)).2) + (f_dyntab_Weight f)))
theorem s_tlen (t : Nat) (A1 : Option Addr) (c1 : Nat) (xs : List ApiField) (sz : Int) (mx : Int) :
    Spec Tryz.prog 124 [.pointer (some ⟨t, 0, none⟩)].toArray [blk t 108 [.slice A1 xs.length c1, .int .i64 sz, .int .i64 mx], row kApiField 146 A1 c1 xs] (fun v L => v = .int .i64 ((xs.length : Nat) : Int) ∧ L = [blk t 108 [.slice A1 xs.length c1, .int .i64 sz, .int .i64 mx], row kApiField 146 A1 c1 xs]) := by
  refine Spec.enter Tryz.func124 rfl Tryz.ntmps124 rfl rfl (fun w0 R0 F0 => ?_)
  refine J.seq ?_
  refine J.region ?_
  refine JL.qt (Qt.assign rfl) rfl ?_
  refine JL.nil ?_
  refine JN.code ?_
  refine J.seq ?_
  refine J.seq ?_
  refine J.region ?_
  refine JL.qt (Qt.move rfl) rfl ?_
  refine JL.qt (Qt.bin (fun _ => nil_eql_run Tryz.underlying81) rfl rfl rfl) rfl ?_
  refine JL.nil ?_
  refine JN.code ?_
  refine J.cond_false rfl ?_
  refine J.skip ?_
  refine JN.code ?_
  refine J.seq ?_
  refine J.region ?_
  refine JL.qt (Qt.move rfl) rfl ?_
  refine JL.qt (Qt.nck rfl) rfl ?_
  refine JL.qt (Qt.fa (o' := 0) fo108_0 rfl rfl) rfl ?_
  refine JL.qt (Qt.ld 0 pl41 rfl rfl rfl) rfl ?_
  refine JL.qt (Qt.bi (fun _ _ => len_slice_run Tryz.underlying41) rfl) rfl ?_
  refine JL.qt (Qt.assign rfl) rfl ?_
  refine JL.nil ?_
  refine JN.code ?_
  refine J.ret ?_
  refine JN.back (res1 rfl rfl) [0, 0] rfl ?_
  exact ⟨rfl, rfl⟩
theorem s_tat (t : Nat) (A1 : Option Addr) (c1 : Nat) (xs : List ApiField) (sz : Int) (mx : Int) (i : Nat) (h1i : 1 ≤ i) (hi : i ≤ xs.length) :
    Spec Tryz.prog 125 [.pointer (some ⟨t, 0, none⟩), .int .i64 (i : Int)].toArray [blk t 108 [.slice A1 xs.length c1, .int .i64 sz, .int .i64 mx], row kApiField 146 A1 c1 xs] (fun v L => v = .tuple #[.agg #[.string ((f_tat xs i).Name), .string ((f_tat xs i).Value), .bool ((f_tat xs i).Never)], .bool true] ∧ L = [blk t 108 [.slice A1 xs.length c1, .int .i64 sz, .int .i64 mx], row kApiField 146 A1 c1 xs]) := by
  refine Spec.enter Tryz.func125 rfl Tryz.ntmps125 rfl rfl (fun w0 R0 F0 => ?_)
  refine J.seq ?_
  refine J.region ?_
  refine JL.ef (O1.alloc ze146) rfl ?_
  rintro _ _ ⟨b_1, rfl, rfl⟩
  refine JL.qt (Qt.assign rfl) rfl ?_
  refine JL.nil ?_
  refine JN.code ?_
  refine J.seq ?_
  refine J.seq ?_
  refine J.region ?_
  refine JL.qt (Qt.move rfl) rfl ?_
  refine JL.qt (Qt.bin (fun _ => lss_run) rfl rfl rfl) rfl ?_
  refine JL.qt (Qt.move rfl) rfl ?_
  refine JL.cases_dec (t := 8) rfl (fun h1 => ?_) (fun h1 => ?_)
  · omega
  refine JL.g_in rfl rfl ?_
  refine JL.qt (Qt.move rfl) rfl ?_
  refine JL.g_in rfl rfl ?_
  refine JL.qt (Qt.move rfl) rfl ?_
  refine JL.g_in rfl rfl ?_
  refine JL.call (O1.call Tryz.func124 rfl rfl rfl [1, 1] rfl (s_tlen t A1 c1 xs sz mx)) rfl ?_
  rintro _ _ ⟨rfl, rfl⟩
  refine JL.g_in rfl rfl ?_
  refine JL.qt (Qt.bin (fun _ => gtr_run) rfl rfl rfl) rfl ?_
  refine JL.qt (Qt.pick_f rfl rfl) rfl ?_
  refine JL.nil ?_
  refine JN.code ?_
  refine J.cond_dec rfl (fun h2 => ?_) (fun h2 => ?_)
  · omega
  refine J.skip ?_
  refine JN.code ?_
  refine J.seq ?_
  have hu := getkD (xs := xs) (k := xs.length - i) fld0 (by omega)
  refine J.tell 1 rfl row_tell2 (fun ⟨ht, ht2⟩ => ?_)
  refine J.tell 1 rfl (row_at (fun e => by rw [e] at hi; simp at hi; omega)) (fun hb_3 => ?_); obtain ⟨b_2, hb_3⟩ := hb_3; subst hb_3
  refine J.sch (.qt 0 (.qt 1 (.qt 2 (.qt 3 (.qt 4 (.qt 5 (.qt 6 (.qt 7 (.qt 8 (.qt 9 (.qt 10 (.qt 11 (.qt 12 (.ef 13 [] (.qt 14 (.done)))))))))))))))) mixed (by repeat (first | exact Xe.noLook_body | refine noLook_then ?_ | refine noLook_block ?_)) (by kernel_rfl) ?_
  refine JS.q0 rfl (Qt.move rfl) rfl ?_
  refine JS.q0 rfl (Qt.nck rfl) rfl ?_
  refine JS.q0 rfl (Qt.fa (o' := 0) fo108_0 rfl rfl) rfl ?_
  refine JS.q1 (j := 0) rfl rfl rfl (Qt.ld 0 pl41 rfl rfl rfl) rfl ?_
  refine JS.q0 rfl (Qt.move rfl) rfl ?_
  refine JS.q0 rfl (Qt.nck rfl) rfl ?_
  refine JS.q0 rfl (Qt.fa (o' := 0) fo108_0 rfl rfl) rfl ?_
  refine JS.q1 (j := 0) rfl rfl rfl (Qt.ld 0 pl41 rfl rfl rfl) rfl ?_
  refine JS.q0 rfl (Qt.bi (fun _ _ => len_slice_run Tryz.underlying41) rfl) rfl ?_
  refine JS.q0 rfl (Qt.move rfl) rfl ?_
  refine JS.q0 rfl (Qt.bin (fun _ => subN_run (c := ((xs.length - i : Nat) : Int)) (by omega) (by omega) (by omega)) rfl rfl rfl) rfl ?_
  refine JS.q0 rfl (Qt.ia Tryz.underlying41 sz146 rfl rfl (by omega) (by omega)) rfl ?_
  refine JS.q1 (j := 1) rfl rfl rfl (Qt.ldA_row (D := kApiField) (k := (xs.length - i)) (e := ((xs[xs.length - i]?).getD fld0)) 0 ag146 sz146 rfl rfl hu (Nat.zero_add _) rfl (fun w R cs h => (unApiField (x := ((xs[xs.length - i]?).getD fld0)) (cs := cs) w R (fun _ => False) h).1.1)) rfl ?_
  refine JS.e1 ?_
  refine JE.sk rfl (O1.stA 2 sz146 rfl rfl rfl rfl rfl rfl rfl rfl) ⟨.inl rfl, ⟨.inl rfl, ⟨.inl rfl, trivial⟩⟩⟩ ?_
  refine JS.q0 rfl (Qt.assign rfl) rfl ?_
  refine JS.done ?_
  refine JN.code ?_
  refine J.ret ?_
  refine JN.backR (rs := [.cell 4 146, .tmp 5]) (vs := [.agg #[.string (((xs[xs.length - i]?).getD fld0).Name), .string (((xs[xs.length - i]?).getD fld0).Value), .bool (((xs[xs.length - i]?).getD fld0).Never)], .bool true]) rfl ?_ [1, 1] rfl ?_
  · exact .cell (x := 4) (t := 146) (b := b_1) (o := 0) rfl (Qt.ldA (cs := [.string (((xs[xs.length - i]?).getD fld0).Name), .string (((xs[xs.length - i]?).getD fld0).Value), .bool (((xs[xs.length - i]?).getD fld0).Never)]) 0 ag146 sz146 rfl rfl rfl rfl) (.tmp rfl .nil)
  exact ⟨rfl, rfl⟩
theorem s_tfind (t : Nat) (A1 : Option Addr) (c1 : Nat) (xs : List ApiField) (sz : Int) (mx : Int) (nm : ByteArray) (vl : ByteArray) (hn : xs.length ≤ 1073741824) :
    Spec Tryz.prog 122 [.pointer (some ⟨t, 0, none⟩), .string nm, .string vl].toArray [blk t 108 [.slice A1 xs.length c1, .int .i64 sz, .int .i64 mx], row kApiField 146 A1 c1 xs] (fun v L => v = .tuple #[.int .i64 ((f_tfind xs nm vl).1), .bool ((f_tfind xs nm vl).2)] ∧ L = [blk t 108 [.slice A1 xs.length c1, .int .i64 sz, .int .i64 mx], row kApiField 146 A1 c1 xs]) := by
  refine Spec.enter Tryz.func122 rfl Tryz.ntmps122 rfl rfl (fun w0 R0 F0 => ?_)
  refine J.seq ?_
  refine J.region ?_
  refine JL.qt (Qt.assign rfl) rfl ?_
  refine JL.qt (Qt.assign rfl) rfl ?_
  refine JL.nil ?_
  refine JN.code ?_
  refine J.seq ?_
  refine J.region ?_
  refine JL.qt (Qt.assign rfl) rfl ?_
  refine JL.nil ?_
  refine JN.code ?_
  refine J.seq ?_
  refine J.seq ?_
  refine J.region ?_
  refine JL.qt (Qt.assign rfl) rfl ?_
  refine JL.nil ?_
  refine JN.code ?_
  refine J.block ?_
  have hT0 : f_tfind xs nm vl = f_tfind_l0 xs nm vl ((xs.length + 1 - 1) + 1) 1 0 := by unfold f_tfind; rfl
  refine J.loop3 (fun (i : Nat) (fst : Int) (m0 : Nat) => [(0, .pointer (some ⟨t, 0, none⟩)), (1, .string nm), (2, .string vl), (6, .int .i64 0), (7, .bool false), (8, .int .i64 fst), (9, .int .i64 (i : Int))]) (fun (i : Nat) (fst : Int) (m0 : Nat) => [blk t 108 [.slice A1 xs.length c1, .int .i64 sz, .int .i64 mx], row kApiField 146 A1 c1 xs]) (fun (i : Nat) (fst : Int) (m0 : Nat) => (1 ≤ i ∧ i ≤ xs.length + 1) ∧ (xs.length + 1 - i) < m0 ∧ f_tfind_l0 xs nm vl m0 i fst = f_tfind_l0 xs nm vl ((xs.length + 1 - 1) + 1) 1 0) (fun (i : Nat) (fst : Int) (m0 : Nat) => xs.length + 1 - i) 1 0 ((xs.length + 1 - 1) + 1) ⟨⟨Nat.le_refl _, by omega⟩, by omega, rfl⟩ ⟨rfl, rfl, rfl, rfl, rfl, rfl, rfl, trivial⟩ [0, 0] rfl ?_
  rintro i fst m0 ⟨⟨hi1, hi2⟩, hm0, hI0⟩
  obtain ⟨m0, rfl⟩ : ∃ z, m0 = z + 1 := ⟨m0 - 1, by omega⟩
  refine J.seq ?_
  refine J.seq ?_
  refine J.region ?_
  refine JL.qt (Qt.move rfl) rfl ?_
  refine JL.qt (Qt.move rfl) rfl ?_
  refine JL.call (O1.call Tryz.func124 rfl rfl rfl [0, 0] rfl (s_tlen t A1 c1 xs sz mx)) rfl ?_
  rintro _ _ ⟨rfl, rfl⟩
  refine JL.qt (Qt.bin (fun _ => leq_run) rfl rfl rfl) rfl ?_
  refine JL.nil ?_
  refine JN.code ?_
  refine J.cond_dec rfl (fun h1 => ?_) (fun h1 => ?_)
  · refine J.skip ?_
    refine JN.code ?_
    refine J.seq ?_
    refine J.block ?_
    refine J.seq ?_
    refine J.region ?_
    refine JL.qt (Qt.move rfl) rfl ?_
    refine JL.qt (Qt.move rfl) rfl ?_
    refine JL.call (O1.call Tryz.func125 rfl rfl rfl [0, 0] rfl (s_tat t A1 c1 xs sz mx i (by omega) (by omega))) rfl ?_
    rintro _ _ ⟨rfl, rfl⟩
    refine JL.qt (Qt.move rfl) rfl ?_
    refine JL.qt (Qt.extract rfl rfl) rfl ?_
    refine JL.qt (Qt.extract rfl rfl) rfl ?_
    refine JL.ef (O1.alloc ze146) rfl ?_
    rintro _ _ ⟨b_1, rfl, rfl⟩
    refine JL.sk (O1.stA 0 sz146 rfl rfl rfl rfl rfl rfl rfl rfl) ?_
    refine JL.qt (Qt.assign rfl) rfl ?_
    refine JL.nil ?_
    refine JN.code ?_
    refine J.block ?_
    refine J.seq ?_
    refine J.region ?_
    refine JL.qt (Qt.fa (o' := 0) fo146_0 rfl rfl) rfl ?_
    refine JL.qt (Qt.ld 0 pl9 rfl rfl rfl) rfl ?_
    refine JL.qt (Qt.move rfl) rfl ?_
    refine JL.qt (Qt.bin (fun _ => sneq_run) rfl rfl rfl) rfl ?_
    refine JL.qt (Qt.assign rfl) rfl ?_
    refine JL.nil ?_
    refine JN.code ?_
    refine J.cond_not rfl (fun h2 => ?_) (fun h2 => ?_)
    · refine J.skip ?_
      refine JN.code ?_
      refine J.region ?_
      refine JL.qt (Qt.move rfl) rfl ?_
      refine JL.qt (Qt.bin (fun _ => addN_run rfl (by omega) (by omega)) rfl rfl rfl) rfl ?_
      refine JL.qt (Qt.assign rfl) rfl ?_
      refine JL.nil ?_
      refine JN.round3 (z0 := i) (z1 := fst) (z2 := (m0 + 1)) (i + 1) fst m0 (by omega) ⟨⟨by omega, by omega⟩, by omega, by rw [← hI0, f_tfind_l0]; rw [if_pos h1, if_neg (Bool.eq_false_iff.1 h2)] <;> rfl⟩ ⟨rfl, rfl, rfl, rfl, rfl, rfl, rfl, trivial⟩ [1, 1] rfl
    refine J.seq ?_
    refine J.region ?_
    refine JL.qt (Qt.fa (o' := 1) fo146_1 rfl rfl) rfl ?_
    refine JL.qt (Qt.ld 0 pl9 rfl rfl rfl) rfl ?_
    refine JL.qt (Qt.move rfl) rfl ?_
    refine JL.qt (Qt.bin (fun _ => seql_run) rfl rfl rfl) rfl ?_
    refine JL.qt (Qt.assign rfl) rfl ?_
    refine JL.nil ?_
    refine JN.code ?_
    refine J.cond rfl (fun h3 => ?_) (fun h3 => ?_)
    · refine J.seq ?_
      refine J.keep [0, 1, 2, 6, 7, 8, 9] rfl ?_
      refine J.region ?_
      refine JL.qt (Qt.move rfl) rfl ?_
      refine JL.qt (Qt.assign rfl) rfl ?_
      refine JL.qt (Qt.assign rfl) rfl ?_
      refine JL.nil ?_
      refine JN.code ?_
      refine J.ret ?_
      refine JN.back (res2 rfl rfl rfl) [1, 1] rfl ?_
      exact ⟨by rw [hT0, ← hI0, f_tfind_l0]; rw [if_pos h1, if_pos h2, if_pos h3] <;> rfl, rfl⟩
    refine J.seq ?_
    refine J.keep [0, 1, 2, 6, 7, 8, 9] rfl ?_
    refine J.region ?_
    refine JL.qt (Qt.move rfl) rfl ?_
    refine JL.qt (Qt.bin (fun _ => eql_run) rfl rfl rfl) rfl ?_
    refine JL.qt (Qt.assign rfl) rfl ?_
    refine JL.nil ?_
    refine JN.code ?_
    refine J.cond_eq rfl (fun h4 => ?_) (fun h4 => ?_)
    · refine J.region ?_
      refine JL.qt (Qt.move rfl) rfl ?_
      refine JL.qt (Qt.assign rfl) rfl ?_
      refine JL.nil ?_
      refine JN.code ?_
      refine J.region ?_
      refine JL.qt (Qt.move rfl) rfl ?_
      refine JL.qt (Qt.bin (fun _ => addN_run rfl (by omega) (by omega)) rfl rfl rfl) rfl ?_
      refine JL.qt (Qt.assign rfl) rfl ?_
      refine JL.nil ?_
      refine JN.round3 (z0 := i) (z1 := fst) (z2 := (m0 + 1)) (i + 1) (i : Int) m0 (by omega) ⟨⟨by omega, by omega⟩, by omega, by rw [← hI0, f_tfind_l0]; rw [if_pos h1, if_pos h2, if_neg (Bool.eq_false_iff.1 h3), if_pos h4] <;> rfl⟩ ⟨rfl, rfl, rfl, rfl, rfl, rfl, rfl, trivial⟩ [1, 1] rfl
    refine J.skip ?_
    refine JN.code ?_
    refine J.region ?_
    refine JL.qt (Qt.move rfl) rfl ?_
    refine JL.qt (Qt.bin (fun _ => addN_run rfl (by omega) (by omega)) rfl rfl rfl) rfl ?_
    refine JL.qt (Qt.assign rfl) rfl ?_
    refine JL.nil ?_
    refine JN.round3 (z0 := i) (z1 := fst) (z2 := (m0 + 1)) (i + 1) fst m0 (by omega) ⟨⟨by omega, by omega⟩, by omega, by rw [← hI0, f_tfind_l0]; rw [if_pos h1, if_pos h2, if_neg (Bool.eq_false_iff.1 h3), if_neg h4] <;> rfl⟩ ⟨rfl, rfl, rfl, rfl, rfl, rfl, rfl, trivial⟩ [1, 1] rfl
  refine J.exit ?_
  refine JN.code ?_
  refine J.seq ?_
  refine J.region ?_
  refine JL.qt (Qt.move rfl) rfl ?_
  refine JL.qt (Qt.assign rfl) rfl ?_
  refine JL.qt (Qt.assign rfl) rfl ?_
  refine JL.nil ?_
  refine JN.code ?_
  refine J.ret ?_
  refine JN.back (res2 rfl rfl rfl) [0, 0] rfl ?_
  exact ⟨by rw [hT0, ← hI0, f_tfind_l0]; rw [if_neg h1] <;> rfl, rfl⟩
theorem s_tadd (t : Nat) (A1 : Option Addr) (c1 : Nat) (xs : List ApiField) (sz : Int) (mx : Int) (f : ApiField) (hn : xs.length ≤ 1073741824) (hf1 : f.Name.size ≤ big) (hf2 : f.Value.size ≤ big) :
    Spec Tryz.prog 85 [.pointer (some ⟨t, 0, none⟩), .agg #[.string f.Name, .string f.Value, .bool f.Never]].toArray [blk t 108 [.slice A1 xs.length c1, .int .i64 sz, .int .i64 mx], row kApiField 146 A1 c1 xs] (fun v L => ∃ (A2 : Option Addr), ∃ (c2 : Nat), v = .tuple #[] ∧ L = [blk t 108 [.slice A2 (((f_tadd xs sz mx f).1).length) c2, .int .i64 ((f_tadd xs sz mx f).2), .int .i64 mx], row kApiField 146 A2 c2 ((f_tadd xs sz mx f).1)]) := by
  refine Spec.enter Tryz.func85 rfl Tryz.ntmps85 rfl rfl (fun w0 R0 F0 => ?_)
  refine J.seq ?_
  refine J.region ?_
  refine JL.ef (O1.box rfl rfl) rfl ?_
  rintro _ _ ⟨b_1, rfl, rfl⟩
  refine JL.nil ?_
  refine JN.code ?_
  refine J.seq ?_
  refine J.seq ?_
  refine J.region ?_
  refine JL.qt (Qt.move rfl) rfl ?_
  refine JL.qt (Qt.bin (fun _ => nil_eql_run Tryz.underlying81) rfl rfl rfl) rfl ?_
  refine JL.nil ?_
  refine JN.code ?_
  refine J.cond_false rfl ?_
  refine J.skip ?_
  refine JN.code ?_
  refine J.seq ?_
  refine J.region ?_
  refine JL.qt (Qt.ldA 0 ag146 sz146 rfl rfl rfl rfl) rfl ?_
  refine JL.call (O1.call Tryz.func119 rfl rfl rfl [] rfl (s_dyntab_Weight f)) rfl ?_
  rintro _ _ ⟨rfl, rfl⟩
  refine JL.qt (Qt.assign rfl) rfl ?_
  refine JL.nil ?_
  refine JN.code ?_
  refine J.seq ?_
  refine J.region ?_
  refine JL.qt (Qt.move rfl) rfl ?_
  refine JL.qt (Qt.move rfl) rfl ?_
  refine JL.qt (Qt.nck rfl) rfl ?_
  refine JL.qt (Qt.fa (o' := 2) fo108_2 rfl rfl) rfl ?_
  refine JL.qt (Qt.ld 1 pl3 rfl rfl rfl) rfl ?_
  refine JL.qt (Qt.move rfl) rfl ?_
  refine JL.qt (Qt.bin (fun _ => sub_run) rfl rfl rfl) rfl ?_
  refine JL.qt (Qt.bi (fun _ _ => max_run) rfl) rfl ?_
  refine JL.call (O1.call Tryz.func81 rfl rfl rfl [1, 1] rfl (s_shrink t A1 c1 xs sz mx (max (IntKind.i64.wrap (mx - (f_dyntab_Weight f))) 0))) rfl ?_
  rintro _ _ ⟨rfl, rfl⟩
  refine JL.nil ?_
  refine JN.code ?_
  refine J.seq ?_
  refine J.seq ?_
  refine J.region ?_
  refine JL.qt (Qt.move rfl) rfl ?_
  refine JL.qt (Qt.move rfl) rfl ?_
  refine JL.qt (Qt.nck rfl) rfl ?_
  refine JL.qt (Qt.fa (o' := 2) fo108_2 rfl rfl) rfl ?_
  refine JL.qt (Qt.ld 0 pl3 rfl rfl rfl) rfl ?_
  refine JL.qt (Qt.bin (fun _ => gtr_run) rfl rfl rfl) rfl ?_
  refine JL.nil ?_
  refine JN.code ?_
  refine J.cond_dec rfl (fun h1 => ?_) (fun h1 => ?_)
  · refine J.ret ?_
    refine JN.back (res0 rfl) [0, 0] rfl ?_
    exact ⟨A1, c1, rfl, by unfold f_tadd; rw [if_pos h1] <;> rfl⟩
  refine J.skip ?_
  refine JN.code ?_
  refine J.seq ?_
  refine J.sch (.qt 0 (.qt 1 (.qt 2 (.qt 3 (.qt 4 (.qt 5 (.qt 6 (.qt 7 (.qt 8 (.qt 9 (.ef 10 [4] (.ef 11 [] (.qt 12 (.qt 13 (.ef 14 [] (.done)))))))))))))))) mixed (by repeat (first | exact Xe.noLook_body | refine noLook_then ?_ | refine noLook_block ?_)) (by kernel_rfl) ?_
  refine JS.q0 rfl (Qt.move rfl) rfl ?_
  refine JS.q0 rfl (Qt.move rfl) rfl ?_
  refine JS.q0 rfl (Qt.nck rfl) rfl ?_
  refine JS.q0 rfl (Qt.fa (o' := 0) fo108_0 rfl rfl) rfl ?_
  refine JS.q1 (j := 0) rfl rfl rfl (Qt.ld 0 pl41 rfl rfl rfl) rfl ?_
  refine JS.q0 rfl (Qt.fa (o' := 0) fo146_0 rfl rfl) rfl ?_
  refine JS.q1 (j := 2) rfl rfl rfl (Qt.ld 0 pl9 rfl rfl rfl) rfl ?_
  refine JS.q0 rfl (Qt.fa (o' := 1) fo146_1 rfl rfl) rfl ?_
  refine JS.q1 (j := 2) rfl rfl rfl (Qt.ld 0 pl9 rfl rfl rfl) rfl ?_
  refine JS.q0 rfl (Qt.build sp146 ze146 rfl rfl) rfl ?_
  refine JS.e1 ?_
  refine JE.ef rfl (O1.bsl el41 ze146 rfl rfl rfl) rfl ?_
  rintro _ _ ⟨b_2, rfl, rfl⟩
  refine ⟨⟨.inl rfl, ⟨.inl rfl, ⟨.inr ⟨1, _, rfl⟩, trivial⟩⟩⟩, ?_⟩
  refine JS.e1 ?_
  refine JE.ef rfl (O1.append (D := kApiField) (xs := ((f_shrink xs sz (max (IntKind.i64.wrap (mx - (f_dyntab_Weight f))) 0)).1)) (ys := [(⟨f.Name, f.Value, false⟩ : ApiField)]) 2 el41 rfl rfl rfl rfl rfl (fun w R o s => Elems.one_elem (mkApiField hf1 hf2)) (by have := f_shrink_len xs sz (max (IntKind.i64.wrap (mx - f_dyntab_Weight f)) 0); omega)) rfl ?_
  rintro _ _ ⟨A_3, c_4, rfl, rfl⟩
  refine ⟨⟨.inl rfl, ⟨.inl rfl, ⟨.inl rfl, trivial⟩⟩⟩, ?_⟩
  refine JS.q0 rfl (Qt.nck rfl) rfl ?_
  refine JS.q0 rfl (Qt.fa (o' := 0) fo108_0 rfl rfl) rfl ?_
  refine JS.e1 ?_
  refine JE.sk rfl (O1.st 1 sz41 rfl rfl rfl rfl rfl rfl) ⟨.inl rfl, ⟨.inl rfl, ⟨.inl rfl, trivial⟩⟩⟩ ?_
  refine JS.done ?_
  refine JN.code ?_
  refine J.keep [0, 4] rfl ?_
  refine J.region ?_
  refine JL.qt (Qt.move rfl) rfl ?_
  refine JL.qt (Qt.nck rfl) rfl ?_
  refine JL.qt (Qt.fa (o' := 1) fo108_1 rfl rfl) rfl ?_
  refine JL.qt (Qt.ld 0 pl3 rfl rfl rfl) rfl ?_
  refine JL.qt (Qt.move rfl) rfl ?_
  refine JL.qt (Qt.bin (fun _ => add_run) rfl rfl rfl) rfl ?_
  refine JL.qt (Qt.nck rfl) rfl ?_
  refine JL.qt (Qt.fa (o' := 1) fo108_1 rfl rfl) rfl ?_
  refine JL.sk (O1.st 0 sz3 rfl rfl rfl rfl rfl rfl) ?_
  refine JL.nil ?_
  refine JN.back (res0 rfl) [0, 0] rfl ?_
  exact ⟨A_3, c_4, rfl, by unfold f_tadd; rw [if_neg h1] <;> rfl⟩
end Go.Proofs.YthjbkngecgbioaaGreatDoor.Sl

/- Walks: the fixed table. -/
set_option maxRecDepth 100000
set_option linter.unusedSimpArgs false
set_option linter.unusedVariables false
namespace Go.Proofs.YthjbkngecgbioaaGreatDoor.Sl
open Go
theorem ze336 : zeroTy Tryz.prog 336 = some [.string ⟨#[]⟩, .string ⟨#[]⟩, .string ⟨#[]⟩, .string ⟨#[]⟩, .string ⟨#[]⟩, .string ⟨#[]⟩, .string ⟨#[]⟩, .string ⟨#[]⟩, .string ⟨#[]⟩, .string ⟨#[]⟩, .string ⟨#[]⟩, .string ⟨#[]⟩, .string ⟨#[]⟩, .string ⟨#[]⟩, .string ⟨#[]⟩, .string ⟨#[]⟩, .string ⟨#[]⟩, .string ⟨#[]⟩, .string ⟨#[]⟩, .string ⟨#[]⟩, .string ⟨#[]⟩, .string ⟨#[]⟩, .string ⟨#[]⟩, .string ⟨#[]⟩, .string ⟨#[]⟩, .string ⟨#[]⟩, .string ⟨#[]⟩, .string ⟨#[]⟩] := by kernel_rfl
theorem sz9 : szTy Tryz.prog 9 = some 1 := by kernel_rfl
theorem ze335 : zeroTy Tryz.prog 335 = some [.string ⟨#[]⟩, .string ⟨#[]⟩] := by kernel_rfl
theorem sz335 : szTy Tryz.prog 335 = some 2 := by kernel_rfl
theorem sz336 : szTy Tryz.prog 336 = some 28 := by kernel_rfl
theorem ag336 : aggTy Tryz.prog 336 = true := by kernel_rfl
theorem ze338 : zeroTy Tryz.prog 338 = some [.string ⟨#[]⟩, .string ⟨#[]⟩, .string ⟨#[]⟩, .string ⟨#[]⟩, .string ⟨#[]⟩, .string ⟨#[]⟩, .string ⟨#[]⟩, .string ⟨#[]⟩, .string ⟨#[]⟩, .string ⟨#[]⟩, .string ⟨#[]⟩, .string ⟨#[]⟩, .string ⟨#[]⟩, .string ⟨#[]⟩, .string ⟨#[]⟩, .string ⟨#[]⟩, .string ⟨#[]⟩, .string ⟨#[]⟩, .string ⟨#[]⟩, .string ⟨#[]⟩, .string ⟨#[]⟩, .string ⟨#[]⟩, .string ⟨#[]⟩, .string ⟨#[]⟩, .string ⟨#[]⟩, .string ⟨#[]⟩, .string ⟨#[]⟩, .string ⟨#[]⟩, .string ⟨#[]⟩, .string ⟨#[]⟩, .string ⟨#[]⟩, .string ⟨#[]⟩, .string ⟨#[]⟩, .string ⟨#[]⟩, .string ⟨#[]⟩, .string ⟨#[]⟩, .string ⟨#[]⟩, .string ⟨#[]⟩, .string ⟨#[]⟩, .string ⟨#[]⟩, .string ⟨#[]⟩, .string ⟨#[]⟩, .string ⟨#[]⟩, .string ⟨#[]⟩, .string ⟨#[]⟩, .string ⟨#[]⟩, .string ⟨#[]⟩] := by kernel_rfl
theorem sz338 : szTy Tryz.prog 338 = some 47 := by kernel_rfl
theorem ag338 : aggTy Tryz.prog 338 = true := by kernel_rfl
theorem ag335 : aggTy Tryz.prog 335 = true := by kernel_rfl
def stC : List ByteArray := [(ByteArray.mk #[58, 97, 117, 116, 104, 111, 114, 105, 116, 121]), (ByteArray.mk #[]), (ByteArray.mk #[58, 109, 101, 116, 104, 111, 100]), (ByteArray.mk #[71, 69, 84]), (ByteArray.mk #[58, 109, 101, 116, 104, 111, 100]), (ByteArray.mk #[80, 79, 83, 84]), (ByteArray.mk #[58, 112, 97, 116, 104]), (ByteArray.mk #[47]), (ByteArray.mk #[58, 112, 97, 116, 104]), (ByteArray.mk #[47, 105, 110, 100, 101, 120, 46, 104, 116, 109, 108]), (ByteArray.mk #[58, 115, 99, 104, 101, 109, 101]), (ByteArray.mk #[104, 116, 116, 112]), (ByteArray.mk #[58, 115, 99, 104, 101, 109, 101]), (ByteArray.mk #[104, 116, 116, 112, 115]), (ByteArray.mk #[58, 115, 116, 97, 116, 117, 115]), (ByteArray.mk #[50, 48, 48]), (ByteArray.mk #[58, 115, 116, 97, 116, 117, 115]), (ByteArray.mk #[50, 48, 52]), (ByteArray.mk #[58, 115, 116, 97, 116, 117, 115]), (ByteArray.mk #[50, 48, 54]), (ByteArray.mk #[58, 115, 116, 97, 116, 117, 115]), (ByteArray.mk #[51, 48, 52]), (ByteArray.mk #[58, 115, 116, 97, 116, 117, 115]), (ByteArray.mk #[52, 48, 48]), (ByteArray.mk #[58, 115, 116, 97, 116, 117, 115]), (ByteArray.mk #[52, 48, 52]), (ByteArray.mk #[58, 115, 116, 97, 116, 117, 115]), (ByteArray.mk #[53, 48, 48])]
def stP : List ByteArray := [(ByteArray.mk #[97, 99, 99, 101, 112, 116, 45, 99, 104, 97, 114, 115, 101, 116]), (ByteArray.mk #[97, 99, 99, 101, 112, 116, 45, 101, 110, 99, 111, 100, 105, 110, 103]), (ByteArray.mk #[97, 99, 99, 101, 112, 116, 45, 108, 97, 110, 103, 117, 97, 103, 101]), (ByteArray.mk #[97, 99, 99, 101, 112, 116, 45, 114, 97, 110, 103, 101, 115]), (ByteArray.mk #[97, 99, 99, 101, 112, 116]), (ByteArray.mk #[97, 99, 99, 101, 115, 115, 45, 99, 111, 110, 116, 114, 111, 108, 45, 97, 108, 108, 111, 119, 45, 111, 114, 105, 103, 105, 110]), (ByteArray.mk #[97, 103, 101]), (ByteArray.mk #[97, 108, 108, 111, 119]), (ByteArray.mk #[97, 117, 116, 104, 111, 114, 105, 122, 97, 116, 105, 111, 110]), (ByteArray.mk #[99, 97, 99, 104, 101, 45, 99, 111, 110, 116, 114, 111, 108]), (ByteArray.mk #[99, 111, 110, 116, 101, 110, 116, 45, 100, 105, 115, 112, 111, 115, 105, 116, 105, 111, 110]), (ByteArray.mk #[99, 111, 110, 116, 101, 110, 116, 45, 101, 110, 99, 111, 100, 105, 110, 103]), (ByteArray.mk #[99, 111, 110, 116, 101, 110, 116, 45, 108, 97, 110, 103, 117, 97, 103, 101]), (ByteArray.mk #[99, 111, 110, 116, 101, 110, 116, 45, 108, 101, 110, 103, 116, 104]), (ByteArray.mk #[99, 111, 110, 116, 101, 110, 116, 45, 108, 111, 99, 97, 116, 105, 111, 110]), (ByteArray.mk #[99, 111, 110, 116, 101, 110, 116, 45, 114, 97, 110, 103, 101]), (ByteArray.mk #[99, 111, 110, 116, 101, 110, 116, 45, 116, 121, 112, 101]), (ByteArray.mk #[99, 111, 111, 107, 105, 101]), (ByteArray.mk #[100, 97, 116, 101]), (ByteArray.mk #[101, 116, 97, 103]), (ByteArray.mk #[101, 120, 112, 101, 99, 116]), (ByteArray.mk #[101, 120, 112, 105, 114, 101, 115]), (ByteArray.mk #[102, 114, 111, 109]), (ByteArray.mk #[104, 111, 115, 116]), (ByteArray.mk #[105, 102, 45, 109, 97, 116, 99, 104]), (ByteArray.mk #[105, 102, 45, 109, 111, 100, 105, 102, 105, 101, 100, 45, 115, 105, 110, 99, 101]), (ByteArray.mk #[105, 102, 45, 110, 111, 110, 101, 45, 109, 97, 116, 99, 104]), (ByteArray.mk #[105, 102, 45, 114, 97, 110, 103, 101]), (ByteArray.mk #[105, 102, 45, 117, 110, 109, 111, 100, 105, 102, 105, 101, 100, 45, 115, 105, 110, 99, 101]), (ByteArray.mk #[108, 97, 115, 116, 45, 109, 111, 100, 105, 102, 105, 101, 100]), (ByteArray.mk #[108, 105, 110, 107]), (ByteArray.mk #[108, 111, 99, 97, 116, 105, 111, 110]), (ByteArray.mk #[109, 97, 120, 45, 102, 111, 114, 119, 97, 114, 100, 115]), (ByteArray.mk #[112, 114, 111, 120, 121, 45, 97, 117, 116, 104, 101, 110, 116, 105, 99, 97, 116, 101]), (ByteArray.mk #[112, 114, 111, 120, 121, 45, 97, 117, 116, 104, 111, 114, 105, 122, 97, 116, 105, 111, 110]), (ByteArray.mk #[114, 97, 110, 103, 101]), (ByteArray.mk #[114, 101, 102, 101, 114, 101, 114]), (ByteArray.mk #[114, 101, 102, 114, 101, 115, 104]), (ByteArray.mk #[114, 101, 116, 114, 121, 45, 97, 102, 116, 101, 114]), (ByteArray.mk #[115, 101, 114, 118, 101, 114]), (ByteArray.mk #[115, 101, 116, 45, 99, 111, 111, 107, 105, 101]), (ByteArray.mk #[115, 116, 114, 105, 99, 116, 45, 116, 114, 97, 110, 115, 112, 111, 114, 116, 45, 115, 101, 99, 117, 114, 105, 116, 121]), (ByteArray.mk #[116, 114, 97, 110, 115, 102, 101, 114, 45, 101, 110, 99, 111, 100, 105, 110, 103]), (ByteArray.mk #[117, 115, 101, 114, 45, 97, 103, 101, 110, 116]), (ByteArray.mk #[118, 97, 114, 121]), (ByteArray.mk #[118, 105, 97]), (ByteArray.mk #[119, 119, 119, 45, 97, 117, 116, 104, 101, 110, 116, 105, 99, 97, 116, 101])]
def f_satx (i : Nat) : ApiField × Bool := if (i : Int) ≤ 14 then ((⟨stC.getD ((i - 1) * 2) ⟨#[]⟩, stC.getD ((i - 1) * 2 + 1) ⟨#[]⟩, false⟩ : ApiField), true) else if ((stP.getD ((i - 15) * 1) ⟨#[]⟩).toList == (ByteArray.mk #[97, 99, 99, 101, 112, 116, 45, 101, 110, 99, 111, 100, 105, 110, 103]).toList) = true then ((⟨stP.getD ((i - 15) * 1) ⟨#[]⟩, ByteArray.mk #[103, 122, 105, 112, 44, 32, 100, 101, 102, 108, 97, 116, 101], false⟩ : ApiField), true) else ((⟨stP.getD ((i - 15) * 1) ⟨#[]⟩, ByteArray.mk #[], false⟩ : ApiField), true)
theorem s_common :
    Spec Tryz.prog 191 [].toArray [] (fun v L => v = (.agg (stC.map Value.string).toArray) ∧ L = []) := by
  refine Spec.enter Tryz.func191 rfl Tryz.ntmps191 rfl rfl (fun w0 R0 F0 => ?_)
  refine J.seq ?_
  refine J.region ?_
  refine JL.ef (O1.alloc ze336) rfl ?_
  rintro _ _ ⟨b_1, rfl, rfl⟩
  refine JL.nil ?_
  refine JN.code ?_
  refine J.seq ?_
  refine J.region ?_
  refine JL.qt (Xe.Qt.buildA Tryz.underlying335 sz9 ze335 rfl rfl) rfl ?_
  refine JL.qt (Xe.Qt.buildA Tryz.underlying335 sz9 ze335 rfl rfl) rfl ?_
  refine JL.qt (Xe.Qt.buildA Tryz.underlying335 sz9 ze335 rfl rfl) rfl ?_
  refine JL.qt (Xe.Qt.buildA Tryz.underlying335 sz9 ze335 rfl rfl) rfl ?_
  refine JL.qt (Xe.Qt.buildA Tryz.underlying335 sz9 ze335 rfl rfl) rfl ?_
  refine JL.qt (Xe.Qt.buildA Tryz.underlying335 sz9 ze335 rfl rfl) rfl ?_
  refine JL.qt (Xe.Qt.buildA Tryz.underlying335 sz9 ze335 rfl rfl) rfl ?_
  refine JL.qt (Xe.Qt.buildA Tryz.underlying335 sz9 ze335 rfl rfl) rfl ?_
  refine JL.qt (Xe.Qt.buildA Tryz.underlying335 sz9 ze335 rfl rfl) rfl ?_
  refine JL.qt (Xe.Qt.buildA Tryz.underlying335 sz9 ze335 rfl rfl) rfl ?_
  refine JL.qt (Xe.Qt.buildA Tryz.underlying335 sz9 ze335 rfl rfl) rfl ?_
  refine JL.qt (Xe.Qt.buildA Tryz.underlying335 sz9 ze335 rfl rfl) rfl ?_
  refine JL.qt (Xe.Qt.buildA Tryz.underlying335 sz9 ze335 rfl rfl) rfl ?_
  refine JL.qt (Xe.Qt.buildA Tryz.underlying335 sz9 ze335 rfl rfl) rfl ?_
  refine JL.qt (Xe.Qt.buildA Tryz.underlying336 sz335 ze336 rfl rfl) rfl ?_
  refine JL.sk (O1.stA 0 sz336 rfl rfl rfl rfl rfl rfl rfl rfl) ?_
  refine JL.nil ?_
  refine JN.code ?_
  refine J.ret ?_
  refine JN.backR (rs := [.cell 0 336]) (vs := [.agg #[.string (ByteArray.mk #[58, 97, 117, 116, 104, 111, 114, 105, 116, 121]), .string (ByteArray.mk #[]), .string (ByteArray.mk #[58, 109, 101, 116, 104, 111, 100]), .string (ByteArray.mk #[71, 69, 84]), .string (ByteArray.mk #[58, 109, 101, 116, 104, 111, 100]), .string (ByteArray.mk #[80, 79, 83, 84]), .string (ByteArray.mk #[58, 112, 97, 116, 104]), .string (ByteArray.mk #[47]), .string (ByteArray.mk #[58, 112, 97, 116, 104]), .string (ByteArray.mk #[47, 105, 110, 100, 101, 120, 46, 104, 116, 109, 108]), .string (ByteArray.mk #[58, 115, 99, 104, 101, 109, 101]), .string (ByteArray.mk #[104, 116, 116, 112]), .string (ByteArray.mk #[58, 115, 99, 104, 101, 109, 101]), .string (ByteArray.mk #[104, 116, 116, 112, 115]), .string (ByteArray.mk #[58, 115, 116, 97, 116, 117, 115]), .string (ByteArray.mk #[50, 48, 48]), .string (ByteArray.mk #[58, 115, 116, 97, 116, 117, 115]), .string (ByteArray.mk #[50, 48, 52]), .string (ByteArray.mk #[58, 115, 116, 97, 116, 117, 115]), .string (ByteArray.mk #[50, 48, 54]), .string (ByteArray.mk #[58, 115, 116, 97, 116, 117, 115]), .string (ByteArray.mk #[51, 48, 52]), .string (ByteArray.mk #[58, 115, 116, 97, 116, 117, 115]), .string (ByteArray.mk #[52, 48, 48]), .string (ByteArray.mk #[58, 115, 116, 97, 116, 117, 115]), .string (ByteArray.mk #[52, 48, 52]), .string (ByteArray.mk #[58, 115, 116, 97, 116, 117, 115]), .string (ByteArray.mk #[53, 48, 48])]]) rfl ?_ [] rfl ?_
  · exact .cell (x := 0) (t := 336) (b := b_1) (o := 0) rfl (Qt.ldA (cs := [.string (ByteArray.mk #[58, 97, 117, 116, 104, 111, 114, 105, 116, 121]), .string (ByteArray.mk #[]), .string (ByteArray.mk #[58, 109, 101, 116, 104, 111, 100]), .string (ByteArray.mk #[71, 69, 84]), .string (ByteArray.mk #[58, 109, 101, 116, 104, 111, 100]), .string (ByteArray.mk #[80, 79, 83, 84]), .string (ByteArray.mk #[58, 112, 97, 116, 104]), .string (ByteArray.mk #[47]), .string (ByteArray.mk #[58, 112, 97, 116, 104]), .string (ByteArray.mk #[47, 105, 110, 100, 101, 120, 46, 104, 116, 109, 108]), .string (ByteArray.mk #[58, 115, 99, 104, 101, 109, 101]), .string (ByteArray.mk #[104, 116, 116, 112]), .string (ByteArray.mk #[58, 115, 99, 104, 101, 109, 101]), .string (ByteArray.mk #[104, 116, 116, 112, 115]), .string (ByteArray.mk #[58, 115, 116, 97, 116, 117, 115]), .string (ByteArray.mk #[50, 48, 48]), .string (ByteArray.mk #[58, 115, 116, 97, 116, 117, 115]), .string (ByteArray.mk #[50, 48, 52]), .string (ByteArray.mk #[58, 115, 116, 97, 116, 117, 115]), .string (ByteArray.mk #[50, 48, 54]), .string (ByteArray.mk #[58, 115, 116, 97, 116, 117, 115]), .string (ByteArray.mk #[51, 48, 52]), .string (ByteArray.mk #[58, 115, 116, 97, 116, 117, 115]), .string (ByteArray.mk #[52, 48, 48]), .string (ByteArray.mk #[58, 115, 116, 97, 116, 117, 115]), .string (ByteArray.mk #[52, 48, 52]), .string (ByteArray.mk #[58, 115, 116, 97, 116, 117, 115]), .string (ByteArray.mk #[53, 48, 48])]) 0 ag336 sz336 rfl rfl rfl rfl) .nil
  exact ⟨rfl, rfl⟩
theorem s_plain :
    Spec Tryz.prog 192 [].toArray [] (fun v L => v = (.agg (stP.map Value.string).toArray) ∧ L = []) := by
  refine Spec.enter Tryz.func192 rfl Tryz.ntmps192 rfl rfl (fun w0 R0 F0 => ?_)
  refine J.seq ?_
  refine J.region ?_
  refine JL.ef (O1.alloc ze338) rfl ?_
  rintro _ _ ⟨b_1, rfl, rfl⟩
  refine JL.nil ?_
  refine JN.code ?_
  refine J.seq ?_
  refine J.region ?_
  refine JL.qt (Xe.Qt.buildA Tryz.underlying338 sz9 ze338 rfl rfl) rfl ?_
  refine JL.sk (O1.stA 0 sz338 rfl rfl rfl rfl rfl rfl rfl rfl) ?_
  refine JL.nil ?_
  refine JN.code ?_
  refine J.ret ?_
  refine JN.backR (rs := [.cell 0 338]) (vs := [.agg #[.string (ByteArray.mk #[97, 99, 99, 101, 112, 116, 45, 99, 104, 97, 114, 115, 101, 116]), .string (ByteArray.mk #[97, 99, 99, 101, 112, 116, 45, 101, 110, 99, 111, 100, 105, 110, 103]), .string (ByteArray.mk #[97, 99, 99, 101, 112, 116, 45, 108, 97, 110, 103, 117, 97, 103, 101]), .string (ByteArray.mk #[97, 99, 99, 101, 112, 116, 45, 114, 97, 110, 103, 101, 115]), .string (ByteArray.mk #[97, 99, 99, 101, 112, 116]), .string (ByteArray.mk #[97, 99, 99, 101, 115, 115, 45, 99, 111, 110, 116, 114, 111, 108, 45, 97, 108, 108, 111, 119, 45, 111, 114, 105, 103, 105, 110]), .string (ByteArray.mk #[97, 103, 101]), .string (ByteArray.mk #[97, 108, 108, 111, 119]), .string (ByteArray.mk #[97, 117, 116, 104, 111, 114, 105, 122, 97, 116, 105, 111, 110]), .string (ByteArray.mk #[99, 97, 99, 104, 101, 45, 99, 111, 110, 116, 114, 111, 108]), .string (ByteArray.mk #[99, 111, 110, 116, 101, 110, 116, 45, 100, 105, 115, 112, 111, 115, 105, 116, 105, 111, 110]), .string (ByteArray.mk #[99, 111, 110, 116, 101, 110, 116, 45, 101, 110, 99, 111, 100, 105, 110, 103]), .string (ByteArray.mk #[99, 111, 110, 116, 101, 110, 116, 45, 108, 97, 110, 103, 117, 97, 103, 101]), .string (ByteArray.mk #[99, 111, 110, 116, 101, 110, 116, 45, 108, 101, 110, 103, 116, 104]), .string (ByteArray.mk #[99, 111, 110, 116, 101, 110, 116, 45, 108, 111, 99, 97, 116, 105, 111, 110]), .string (ByteArray.mk #[99, 111, 110, 116, 101, 110, 116, 45, 114, 97, 110, 103, 101]), .string (ByteArray.mk #[99, 111, 110, 116, 101, 110, 116, 45, 116, 121, 112, 101]), .string (ByteArray.mk #[99, 111, 111, 107, 105, 101]), .string (ByteArray.mk #[100, 97, 116, 101]), .string (ByteArray.mk #[101, 116, 97, 103]), .string (ByteArray.mk #[101, 120, 112, 101, 99, 116]), .string (ByteArray.mk #[101, 120, 112, 105, 114, 101, 115]), .string (ByteArray.mk #[102, 114, 111, 109]), .string (ByteArray.mk #[104, 111, 115, 116]), .string (ByteArray.mk #[105, 102, 45, 109, 97, 116, 99, 104]), .string (ByteArray.mk #[105, 102, 45, 109, 111, 100, 105, 102, 105, 101, 100, 45, 115, 105, 110, 99, 101]), .string (ByteArray.mk #[105, 102, 45, 110, 111, 110, 101, 45, 109, 97, 116, 99, 104]), .string (ByteArray.mk #[105, 102, 45, 114, 97, 110, 103, 101]), .string (ByteArray.mk #[105, 102, 45, 117, 110, 109, 111, 100, 105, 102, 105, 101, 100, 45, 115, 105, 110, 99, 101]), .string (ByteArray.mk #[108, 97, 115, 116, 45, 109, 111, 100, 105, 102, 105, 101, 100]), .string (ByteArray.mk #[108, 105, 110, 107]), .string (ByteArray.mk #[108, 111, 99, 97, 116, 105, 111, 110]), .string (ByteArray.mk #[109, 97, 120, 45, 102, 111, 114, 119, 97, 114, 100, 115]), .string (ByteArray.mk #[112, 114, 111, 120, 121, 45, 97, 117, 116, 104, 101, 110, 116, 105, 99, 97, 116, 101]), .string (ByteArray.mk #[112, 114, 111, 120, 121, 45, 97, 117, 116, 104, 111, 114, 105, 122, 97, 116, 105, 111, 110]), .string (ByteArray.mk #[114, 97, 110, 103, 101]), .string (ByteArray.mk #[114, 101, 102, 101, 114, 101, 114]), .string (ByteArray.mk #[114, 101, 102, 114, 101, 115, 104]), .string (ByteArray.mk #[114, 101, 116, 114, 121, 45, 97, 102, 116, 101, 114]), .string (ByteArray.mk #[115, 101, 114, 118, 101, 114]), .string (ByteArray.mk #[115, 101, 116, 45, 99, 111, 111, 107, 105, 101]), .string (ByteArray.mk #[115, 116, 114, 105, 99, 116, 45, 116, 114, 97, 110, 115, 112, 111, 114, 116, 45, 115, 101, 99, 117, 114, 105, 116, 121]), .string (ByteArray.mk #[116, 114, 97, 110, 115, 102, 101, 114, 45, 101, 110, 99, 111, 100, 105, 110, 103]), .string (ByteArray.mk #[117, 115, 101, 114, 45, 97, 103, 101, 110, 116]), .string (ByteArray.mk #[118, 97, 114, 121]), .string (ByteArray.mk #[118, 105, 97]), .string (ByteArray.mk #[119, 119, 119, 45, 97, 117, 116, 104, 101, 110, 116, 105, 99, 97, 116, 101])]]) rfl ?_ [] rfl ?_
  · exact .cell (x := 0) (t := 338) (b := b_1) (o := 0) rfl (Qt.ldA (cs := [.string (ByteArray.mk #[97, 99, 99, 101, 112, 116, 45, 99, 104, 97, 114, 115, 101, 116]), .string (ByteArray.mk #[97, 99, 99, 101, 112, 116, 45, 101, 110, 99, 111, 100, 105, 110, 103]), .string (ByteArray.mk #[97, 99, 99, 101, 112, 116, 45, 108, 97, 110, 103, 117, 97, 103, 101]), .string (ByteArray.mk #[97, 99, 99, 101, 112, 116, 45, 114, 97, 110, 103, 101, 115]), .string (ByteArray.mk #[97, 99, 99, 101, 112, 116]), .string (ByteArray.mk #[97, 99, 99, 101, 115, 115, 45, 99, 111, 110, 116, 114, 111, 108, 45, 97, 108, 108, 111, 119, 45, 111, 114, 105, 103, 105, 110]), .string (ByteArray.mk #[97, 103, 101]), .string (ByteArray.mk #[97, 108, 108, 111, 119]), .string (ByteArray.mk #[97, 117, 116, 104, 111, 114, 105, 122, 97, 116, 105, 111, 110]), .string (ByteArray.mk #[99, 97, 99, 104, 101, 45, 99, 111, 110, 116, 114, 111, 108]), .string (ByteArray.mk #[99, 111, 110, 116, 101, 110, 116, 45, 100, 105, 115, 112, 111, 115, 105, 116, 105, 111, 110]), .string (ByteArray.mk #[99, 111, 110, 116, 101, 110, 116, 45, 101, 110, 99, 111, 100, 105, 110, 103]), .string (ByteArray.mk #[99, 111, 110, 116, 101, 110, 116, 45, 108, 97, 110, 103, 117, 97, 103, 101]), .string (ByteArray.mk #[99, 111, 110, 116, 101, 110, 116, 45, 108, 101, 110, 103, 116, 104]), .string (ByteArray.mk #[99, 111, 110, 116, 101, 110, 116, 45, 108, 111, 99, 97, 116, 105, 111, 110]), .string (ByteArray.mk #[99, 111, 110, 116, 101, 110, 116, 45, 114, 97, 110, 103, 101]), .string (ByteArray.mk #[99, 111, 110, 116, 101, 110, 116, 45, 116, 121, 112, 101]), .string (ByteArray.mk #[99, 111, 111, 107, 105, 101]), .string (ByteArray.mk #[100, 97, 116, 101]), .string (ByteArray.mk #[101, 116, 97, 103]), .string (ByteArray.mk #[101, 120, 112, 101, 99, 116]), .string (ByteArray.mk #[101, 120, 112, 105, 114, 101, 115]), .string (ByteArray.mk #[102, 114, 111, 109]), .string (ByteArray.mk #[104, 111, 115, 116]), .string (ByteArray.mk #[105, 102, 45, 109, 97, 116, 99, 104]), .string (ByteArray.mk #[105, 102, 45, 109, 111, 100, 105, 102, 105, 101, 100, 45, 115, 105, 110, 99, 101]), .string (ByteArray.mk #[105, 102, 45, 110, 111, 110, 101, 45, 109, 97, 116, 99, 104]), .string (ByteArray.mk #[105, 102, 45, 114, 97, 110, 103, 101]), .string (ByteArray.mk #[105, 102, 45, 117, 110, 109, 111, 100, 105, 102, 105, 101, 100, 45, 115, 105, 110, 99, 101]), .string (ByteArray.mk #[108, 97, 115, 116, 45, 109, 111, 100, 105, 102, 105, 101, 100]), .string (ByteArray.mk #[108, 105, 110, 107]), .string (ByteArray.mk #[108, 111, 99, 97, 116, 105, 111, 110]), .string (ByteArray.mk #[109, 97, 120, 45, 102, 111, 114, 119, 97, 114, 100, 115]), .string (ByteArray.mk #[112, 114, 111, 120, 121, 45, 97, 117, 116, 104, 101, 110, 116, 105, 99, 97, 116, 101]), .string (ByteArray.mk #[112, 114, 111, 120, 121, 45, 97, 117, 116, 104, 111, 114, 105, 122, 97, 116, 105, 111, 110]), .string (ByteArray.mk #[114, 97, 110, 103, 101]), .string (ByteArray.mk #[114, 101, 102, 101, 114, 101, 114]), .string (ByteArray.mk #[114, 101, 102, 114, 101, 115, 104]), .string (ByteArray.mk #[114, 101, 116, 114, 121, 45, 97, 102, 116, 101, 114]), .string (ByteArray.mk #[115, 101, 114, 118, 101, 114]), .string (ByteArray.mk #[115, 101, 116, 45, 99, 111, 111, 107, 105, 101]), .string (ByteArray.mk #[115, 116, 114, 105, 99, 116, 45, 116, 114, 97, 110, 115, 112, 111, 114, 116, 45, 115, 101, 99, 117, 114, 105, 116, 121]), .string (ByteArray.mk #[116, 114, 97, 110, 115, 102, 101, 114, 45, 101, 110, 99, 111, 100, 105, 110, 103]), .string (ByteArray.mk #[117, 115, 101, 114, 45, 97, 103, 101, 110, 116]), .string (ByteArray.mk #[118, 97, 114, 121]), .string (ByteArray.mk #[118, 105, 97]), .string (ByteArray.mk #[119, 119, 119, 45, 97, 117, 116, 104, 101, 110, 116, 105, 99, 97, 116, 101])]) 0 ag338 sz338 rfl rfl rfl rfl) .nil
  exact ⟨rfl, rfl⟩
theorem s_satx (i : Nat) (h1i : 1 ≤ i) (hi : i ≤ 61) :
    Spec Tryz.prog 159 [.int .i64 (i : Int)].toArray [] (fun v L => v = .tuple #[.agg #[.string (((f_satx i).1).Name), .string (((f_satx i).1).Value), .bool (((f_satx i).1).Never)], .bool ((f_satx i).2)] ∧ L = []) := by
  refine Spec.enter Tryz.func159 rfl Tryz.ntmps159 rfl rfl (fun w0 R0 F0 => ?_)
  refine J.seq ?_
  refine J.region ?_
  refine JL.ef (O1.alloc ze146) rfl ?_
  rintro _ _ ⟨b_1, rfl, rfl⟩
  refine JL.qt (Qt.assign rfl) rfl ?_
  refine JL.nil ?_
  refine JN.code ?_
  refine J.seq ?_
  refine J.block ?_
  refine J.seq ?_
  refine J.region ?_
  refine JL.qt (Qt.move rfl) rfl ?_
  refine JL.qt (Qt.bin (fun _ => lss_run) rfl rfl rfl) rfl ?_
  refine JL.qt (Qt.move rfl) rfl ?_
  refine JL.cases_dec (t := 9) rfl (fun h1 => ?_) (fun h1 => ?_)
  · omega
  refine JL.g_in rfl rfl ?_
  refine JL.qt (Qt.move rfl) rfl ?_
  refine JL.g_in rfl rfl ?_
  refine JL.qt (Qt.bin (fun _ => gtr_run) rfl rfl rfl) rfl ?_
  refine JL.qt (Qt.pick_f rfl rfl) rfl ?_
  refine JL.qt (Qt.assign rfl) rfl ?_
  refine JL.nil ?_
  refine JN.code ?_
  refine J.cond_dec rfl (fun h2 => ?_) (fun h2 => ?_)
  · omega
  refine J.seq ?_
  refine J.region ?_
  refine JL.qt (Qt.move rfl) rfl ?_
  refine JL.call (O1.call Tryz.func191 rfl rfl rfl [] rfl s_common) rfl ?_
  rintro _ _ ⟨rfl, rfl⟩
  refine JL.qt (Qt.move rfl) rfl ?_
  refine JL.qt (Qt.bin (fun _ => leq_run) rfl rfl rfl) rfl ?_
  refine JL.qt (Qt.assign rfl) rfl ?_
  refine JL.nil ?_
  refine JN.code ?_
  refine J.cond_dec rfl (fun h3 => ?_) (fun h3 => ?_)
  · refine J.seq ?_
    refine J.region ?_
    refine JL.call (O1.call Tryz.func191 rfl rfl rfl [] rfl s_common) rfl ?_
    rintro _ _ ⟨rfl, rfl⟩
    refine JL.qt (Qt.move rfl) rfl ?_
    refine JL.qt (Qt.bin (fun _ => subN_run (c := ((i - 1 : Nat) : Int)) (by omega) (by omega) (by omega)) rfl rfl rfl) rfl ?_
    refine JL.qt (Qt.idx_arrA Tryz.underlying336 sz335 ag335 rfl rfl (by omega) (by omega) (ext2 (l := stC) (d := ⟨#[]⟩) (a := (i - 1) * 2) (by show _ ≤ 28; omega))) rfl ?_
    refine JL.ef (O1.alloc ze335) rfl ?_
    rintro _ _ ⟨b_2, rfl, rfl⟩
    refine JL.sk (O1.stA 0 sz335 rfl rfl rfl rfl rfl rfl rfl rfl) ?_
    refine JL.nil ?_
    refine JN.code ?_
    refine J.seq ?_
    refine J.region ?_
    refine JL.qt (Qt.ia_arr Tryz.underlying335 sz9 rfl rfl (by decide) (by decide)) rfl ?_
    refine JL.qt (Qt.ld 0 pl9 rfl rfl rfl) rfl ?_
    refine JL.qt (Qt.ia_arr Tryz.underlying335 sz9 rfl rfl (by decide) (by decide)) rfl ?_
    refine JL.qt (Qt.ld 0 pl9 rfl rfl rfl) rfl ?_
    refine JL.qt (Qt.build sp146 ze146 rfl rfl) rfl ?_
    refine JL.sk (O1.stA 1 sz146 rfl rfl rfl rfl rfl rfl rfl rfl) ?_
    refine JL.qt (Qt.assign rfl) rfl ?_
    refine JL.nil ?_
    refine JN.code ?_
    refine J.ret ?_
    refine JN.backR (rs := [.cell 2 146, .tmp 3]) (vs := [.agg #[.string (stC.getD ((i - 1) * 2) ⟨#[]⟩), .string (stC.getD ((i - 1) * 2 + 1) ⟨#[]⟩), .bool false], .bool true]) rfl ?_ [] rfl ?_
    · exact .cell (x := 2) (t := 146) (b := b_1) (o := 0) rfl (Qt.ldA (cs := [.string (stC.getD ((i - 1) * 2) ⟨#[]⟩), .string (stC.getD ((i - 1) * 2 + 1) ⟨#[]⟩), .bool false]) 0 ag146 sz146 rfl rfl rfl rfl) (.tmp rfl .nil)
    exact ⟨by unfold f_satx; rw [if_pos h3] <;> rfl, rfl⟩
  refine J.skip ?_
  refine JN.code ?_
  refine J.seq ?_
  refine J.region ?_
  refine JL.call (O1.call Tryz.func192 rfl rfl rfl [] rfl s_plain) rfl ?_
  rintro _ _ ⟨rfl, rfl⟩
  refine JL.qt (Qt.move rfl) rfl ?_
  refine JL.qt (Qt.bin (fun _ => subN_run (c := ((i - 1 : Nat) : Int)) (by omega) (by omega) (by omega)) rfl rfl rfl) rfl ?_
  refine JL.call (O1.call Tryz.func191 rfl rfl rfl [] rfl s_common) rfl ?_
  rintro _ _ ⟨rfl, rfl⟩
  refine JL.qt (Qt.move rfl) rfl ?_
  refine JL.qt (Qt.bin (fun _ => subN_run (c := ((i - 15 : Nat) : Int)) (by omega) (by omega) (by omega)) rfl rfl rfl) rfl ?_
  refine JL.qt (Qt.idx_arr Tryz.underlying338 sz9 pl9 rfl rfl (by omega) (by omega) (ext1 (l := stP) (d := ⟨#[]⟩) (a := (i - 15) * 1) (by show _ < 47; omega))) rfl ?_
  refine JL.qt (Qt.build sp146 ze146 rfl rfl) rfl ?_
  refine JL.ef (O1.alloc ze146) rfl ?_
  rintro _ _ ⟨b_3, rfl, rfl⟩
  refine JL.sk (O1.stA 0 sz146 rfl rfl rfl rfl rfl rfl rfl rfl) ?_
  refine JL.nil ?_
  refine JN.code ?_
  refine J.seq ?_
  refine J.seq ?_
  refine J.region ?_
  refine JL.qt (Qt.fa (o' := 0) fo146_0 rfl rfl) rfl ?_
  refine JL.qt (Qt.ld 0 pl9 rfl rfl rfl) rfl ?_
  refine JL.qt (Qt.bin (fun _ => seql_run) rfl rfl rfl) rfl ?_
  refine JL.nil ?_
  refine JN.code ?_
  refine J.cond rfl (fun h4 => ?_) (fun h4 => ?_)
  · refine J.keep [2, 3, 5] rfl ?_
    refine J.region ?_
    refine JL.qt (Qt.fa (o' := 1) fo146_1 rfl rfl) rfl ?_
    refine JL.sk (O1.st 0 sz9 rfl rfl rfl rfl rfl rfl) ?_
    refine JL.nil ?_
    refine JN.code ?_
    refine J.seq ?_
    refine J.region ?_
    refine JL.qt (Qt.ldA 0 ag146 sz146 rfl rfl rfl rfl) rfl ?_
    refine JL.sk (O1.stA 1 sz146 rfl rfl rfl rfl rfl rfl rfl rfl) ?_
    refine JL.qt (Qt.assign rfl) rfl ?_
    refine JL.nil ?_
    refine JN.code ?_
    refine J.ret ?_
    refine JN.backR (rs := [.cell 2 146, .tmp 3]) (vs := [.agg #[.string (stP.getD ((i - 15) * 1) ⟨#[]⟩), .string (ByteArray.mk #[103, 122, 105, 112, 44, 32, 100, 101, 102, 108, 97, 116, 101]), .bool false], .bool true]) rfl ?_ [] rfl ?_
    · exact .cell (x := 2) (t := 146) (b := b_1) (o := 0) rfl (Qt.ldA (cs := [.string (stP.getD ((i - 15) * 1) ⟨#[]⟩), .string (ByteArray.mk #[103, 122, 105, 112, 44, 32, 100, 101, 102, 108, 97, 116, 101]), .bool false]) 0 ag146 sz146 rfl rfl rfl rfl) (.tmp rfl .nil)
    exact ⟨by unfold f_satx; rw [if_neg h3, if_pos h4] <;> rfl, rfl⟩
  refine J.skip ?_
  refine JN.code ?_
  refine J.seq ?_
  refine J.keep [2, 3, 5] rfl ?_
  refine J.region ?_
  refine JL.qt (Qt.ldA 0 ag146 sz146 rfl rfl rfl rfl) rfl ?_
  refine JL.sk (O1.stA 1 sz146 rfl rfl rfl rfl rfl rfl rfl rfl) ?_
  refine JL.qt (Qt.assign rfl) rfl ?_
  refine JL.nil ?_
  refine JN.code ?_
  refine J.ret ?_
  refine JN.backR (rs := [.cell 2 146, .tmp 3]) (vs := [.agg #[.string (stP.getD ((i - 15) * 1) ⟨#[]⟩), .string (ByteArray.mk #[]), .bool false], .bool true]) rfl ?_ [] rfl ?_
  · exact .cell (x := 2) (t := 146) (b := b_1) (o := 0) rfl (Qt.ldA (cs := [.string (stP.getD ((i - 15) * 1) ⟨#[]⟩), .string (ByteArray.mk #[]), .bool false]) 0 ag146 sz146 rfl rfl rfl rfl) (.tmp rfl .nil)
  exact ⟨by unfold f_satx; rw [if_neg h3, if_neg (Bool.eq_false_iff.1 h4)] <;> rfl, rfl⟩
end Go.Proofs.YthjbkngecgbioaaGreatDoor.Sl

/- Walks: where a field stands. -/
set_option maxRecDepth 100000
set_option linter.unusedSimpArgs false
set_option linter.unusedVariables false
namespace Go.Proofs.YthjbkngecgbioaaGreatDoor.Sl
open Go
theorem fo146_2 : fldOff Tryz.prog 146 2 = some 2 := by kernel_rfl
theorem fo51_0 : fldOff Tryz.prog 51 0 = some 0 := by kernel_rfl
structure EncoderOption where
  Way : Int
  NewName : Bool
  ShortName : Bool
  ShortValue : Bool
def kEncoderOption : Kd EncoderOption := Kd.iso (Kd.pair (Kd.int .i64) (Kd.pair Kd.bool (Kd.pair Kd.bool Kd.bool))) (fun x => (x.Way, (x.NewName, (x.ShortName, x.ShortValue))))
theorem unEncoderOption {x : EncoderOption} {cs : List Value} : ∀ w R F, (kd kEncoderOption x cs).h w R F → (cs = [.int .i64 x.Way, .bool x.NewName, .bool x.ShortName, .bool x.ShortValue] ∧ inK .i64 x.Way) ∧ Star [] w R F := by
  intro w R F h
  simp only [kd, kEncoderOption, Kd.iso, Kd.pair, Kd.int, Kd.bool, Kd.str, Kd.sl] at h
  obtain ⟨_, _, rfl, ⟨rfl, h0⟩, ⟨_, _, rfl, rfl, ⟨_, _, rfl, rfl, rfl⟩⟩⟩ := h
  exact ⟨⟨rfl, h0⟩, trivial⟩
theorem mkEncoderOption {x : EncoderOption} {w : World} {R : Foot}  (h0 : inK .i64 x.Way) : kEncoderOption.rel w R x [.int .i64 x.Way, .bool x.NewName, .bool x.ShortName, .bool x.ShortValue] := by
  simp only [kEncoderOption, Kd.iso, Kd.pair, Kd.int, Kd.bool, Kd.str, Kd.sl]
  exact ⟨_, _, rfl, ⟨rfl, h0⟩, ⟨_, _, rfl, rfl, ⟨_, _, rfl, rfl, rfl⟩⟩⟩
def f_sfind_l0 (nm : ByteArray) (vl : ByteArray) : Nat → Nat → Nat → Nat × Bool
  | 0, _, _ => (0, false)
  | m0 + 1, i, fst => if (i : Int) ≤ 61 then if ((((f_satx i).1).Name).toList == nm.toList) = true then if ((((f_satx i).1).Value).toList == vl.toList) = true then (i, true) else if (fst : Int) = 0 then f_sfind_l0 nm vl m0 (i + 1) i else f_sfind_l0 nm vl m0 (i + 1) fst else f_sfind_l0 nm vl m0 (i + 1) fst else (fst, false)
def f_sfind (nm : ByteArray) (vl : ByteArray) : Nat × Bool := f_sfind_l0 nm vl ((62 - 1) + 1) 1 0
def f_place (xs : List ApiField) (f : ApiField) : Int × Bool := if ((f_sfind f.Name f.Value).2) = true then ((((f_sfind f.Name f.Value).1) : Int), true) else if ((f_tfind xs f.Name f.Value).2) = true then (IntKind.i64.wrap (61 + ((f_tfind xs f.Name f.Value).1)), true) else if (((f_sfind f.Name f.Value).1) : Int) = 0 then if ((f_tfind xs f.Name f.Value).1) > 0 then (IntKind.i64.wrap (61 + ((f_tfind xs f.Name f.Value).1)), false) else ((((f_sfind f.Name f.Value).1) : Int), false) else ((((f_sfind f.Name f.Value).1) : Int), false)
def f_encoder_kind (f : ApiField) (o : EncoderOption) : Int := if f.Never = true then 4 else if o.Way = 2 then 3 else 2
def f_ename_l0 (xs : List ApiField) (s : ByteArray) : Nat → Nat → Int
  | 0, _ => 0
  | m0 + 1, k => if (k : Int) > 1 then if (((f_satx (k - 1)).1.Name).toList == s.toList) = true then f_ename_l0 xs s m0 (k - 1) else (k : Int) else (k : Int)
def f_ename_l1 (xs : List ApiField) (s : ByteArray) : Nat → Nat → Int
  | 0, _ => 0
  | m1 + 1, i => if (i : Int) ≤ ((xs.length : Nat) : Int) then if (((f_tat xs i).Name).toList == s.toList) = true then (IntKind.i64.wrap (61 + (i : Int))) else f_ename_l1 xs s m1 (i + 1) else 0
def f_ename (xs : List ApiField) (s : ByteArray) : Int := if (((f_sfind s (ByteArray.mk #[])).1) : Int) > 0 then f_ename_l0 xs s (((f_sfind s ⟨#[]⟩).1) + 1) ((f_sfind s ⟨#[]⟩).1) else f_ename_l1 xs s ((xs.length + 1 - 1) + 1) 1
theorem f_sfind_l0_le (nm vl : ByteArray) : ∀ (m i fst : Nat), fst ≤ 61 → (f_sfind_l0 nm vl m i fst).1 ≤ 61
  | 0, _, _, _ => Nat.zero_le _
  | m + 1, i, fst, h => by
    rw [f_sfind_l0]
    repeat' split
    all_goals first | exact f_sfind_l0_le nm vl m _ _ (by omega) | (dsimp only; omega)
theorem f_sfind_le (nm vl : ByteArray) : (f_sfind nm vl).1 ≤ 61 := f_sfind_l0_le _ _ _ _ _ (Nat.zero_le _)
theorem s_sfind (nm : ByteArray) (vl : ByteArray) :
    Spec Tryz.prog 121 [.string nm, .string vl].toArray [] (fun v L => v = .tuple #[.int .i64 (((f_sfind nm vl).1) : Int), .bool ((f_sfind nm vl).2)] ∧ L = []) := by
  refine Spec.enter Tryz.func121 rfl Tryz.ntmps121 rfl rfl (fun w0 R0 F0 => ?_)
  refine J.seq ?_
  refine J.region ?_
  refine JL.qt (Qt.assign rfl) rfl ?_
  refine JL.qt (Qt.assign rfl) rfl ?_
  refine JL.nil ?_
  refine JN.code ?_
  refine J.seq ?_
  refine J.region ?_
  refine JL.qt (Qt.assign rfl) rfl ?_
  refine JL.nil ?_
  refine JN.code ?_
  refine J.seq ?_
  refine J.seq ?_
  refine J.region ?_
  refine JL.qt (Qt.assign rfl) rfl ?_
  refine JL.nil ?_
  refine JN.code ?_
  refine J.block ?_
  have hT0 : f_sfind nm vl = f_sfind_l0 nm vl ((62 - 1) + 1) 1 0 := by unfold f_sfind; rfl
  refine J.loop3 (fun (i : Nat) (fst : Nat) (m0 : Nat) => [(0, .string nm), (1, .string vl), (4, .int .i64 0), (5, .bool false), (6, .int .i64 (fst : Int)), (7, .int .i64 (i : Int))]) (fun (i : Nat) (fst : Nat) (m0 : Nat) => []) (fun (i : Nat) (fst : Nat) (m0 : Nat) => (1 ≤ i ∧ i ≤ 62) ∧ (62 - i) < m0 ∧ f_sfind_l0 nm vl m0 i fst = f_sfind_l0 nm vl ((62 - 1) + 1) 1 0) (fun (i : Nat) (fst : Nat) (m0 : Nat) => 62 - i) 1 0 ((62 - 1) + 1) ⟨⟨Nat.le_refl _, by omega⟩, by omega, rfl⟩ ⟨rfl, rfl, rfl, rfl, rfl, rfl, trivial⟩ [] rfl ?_
  rintro i fst m0 ⟨⟨hi1, hi2⟩, hm0, hI0⟩
  obtain ⟨m0, rfl⟩ : ∃ z, m0 = z + 1 := ⟨m0 - 1, by omega⟩
  refine J.seq ?_
  refine J.seq ?_
  refine J.region ?_
  refine JL.qt (Qt.move rfl) rfl ?_
  refine JL.qt (Qt.bin (fun _ => leq_run) rfl rfl rfl) rfl ?_
  refine JL.nil ?_
  refine JN.code ?_
  refine J.cond_dec rfl (fun h1 => ?_) (fun h1 => ?_)
  · refine J.skip ?_
    refine JN.code ?_
    refine J.seq ?_
    refine J.block ?_
    refine J.seq ?_
    refine J.region ?_
    refine JL.qt (Qt.move rfl) rfl ?_
    refine JL.call (O1.call Tryz.func159 rfl rfl rfl [] rfl (s_satx i (by omega) (by omega))) rfl ?_
    rintro _ _ ⟨rfl, rfl⟩
    refine JL.qt (Qt.move rfl) rfl ?_
    refine JL.qt (Qt.extract rfl rfl) rfl ?_
    refine JL.qt (Qt.extract rfl rfl) rfl ?_
    refine JL.ef (O1.alloc ze146) rfl ?_
    rintro _ _ ⟨b_1, rfl, rfl⟩
    refine JL.sk (O1.stA 0 sz146 rfl rfl rfl rfl rfl rfl rfl rfl) ?_
    refine JL.qt (Qt.assign rfl) rfl ?_
    refine JL.nil ?_
    refine JN.code ?_
    refine J.seq ?_
    refine J.seq ?_
    refine J.region ?_
    refine JL.qt (Qt.fa (o' := 0) fo146_0 rfl rfl) rfl ?_
    refine JL.qt (Qt.ld 0 pl9 rfl rfl rfl) rfl ?_
    refine JL.qt (Qt.move rfl) rfl ?_
    refine JL.qt (Qt.bin (fun _ => sneq_run) rfl rfl rfl) rfl ?_
    refine JL.nil ?_
    refine JN.code ?_
    refine J.cond_not rfl (fun h2 => ?_) (fun h2 => ?_)
    · refine J.exit ?_
      refine JN.code ?_
      refine J.region ?_
      refine JL.qt (Qt.move rfl) rfl ?_
      refine JL.qt (Qt.bin (fun _ => addN_run rfl (by omega) (by omega)) rfl rfl rfl) rfl ?_
      refine JL.qt (Qt.assign rfl) rfl ?_
      refine JL.nil ?_
      refine JN.round3 (z0 := i) (z1 := fst) (z2 := (m0 + 1)) (i + 1) fst m0 (by omega) ⟨⟨by omega, by omega⟩, by omega, by rw [← hI0, f_sfind_l0]; rw [if_pos h1, if_neg (Bool.eq_false_iff.1 h2)] <;> rfl⟩ ⟨rfl, rfl, rfl, rfl, rfl, rfl, trivial⟩ [] rfl
    refine J.skip ?_
    refine JN.code ?_
    refine J.seq ?_
    refine J.seq ?_
    refine J.region ?_
    refine JL.qt (Qt.fa (o' := 1) fo146_1 rfl rfl) rfl ?_
    refine JL.qt (Qt.ld 0 pl9 rfl rfl rfl) rfl ?_
    refine JL.qt (Qt.move rfl) rfl ?_
    refine JL.qt (Qt.bin (fun _ => seql_run) rfl rfl rfl) rfl ?_
    refine JL.nil ?_
    refine JN.code ?_
    refine J.cond rfl (fun h3 => ?_) (fun h3 => ?_)
    · refine J.seq ?_
      refine J.region ?_
      refine JL.qt (Qt.move rfl) rfl ?_
      refine JL.qt (Qt.assign rfl) rfl ?_
      refine JL.qt (Qt.assign rfl) rfl ?_
      refine JL.nil ?_
      refine JN.code ?_
      refine J.ret ?_
      refine JN.back (res2 rfl rfl rfl) [] rfl ?_
      exact ⟨by rw [hT0, ← hI0, f_sfind_l0]; rw [if_pos h1, if_pos h2, if_pos h3] <;> rfl, rfl⟩
    refine J.skip ?_
    refine JN.code ?_
    refine J.seq ?_
    refine J.region ?_
    refine JL.qt (Qt.move rfl) rfl ?_
    refine JL.qt (Qt.bin (fun _ => eql_run) rfl rfl rfl) rfl ?_
    refine JL.nil ?_
    refine JN.code ?_
    refine J.cond_eq rfl (fun h4 => ?_) (fun h4 => ?_)
    · refine J.keep [0, 1, 4, 5, 6, 7] rfl ?_
      refine J.region ?_
      refine JL.qt (Qt.move rfl) rfl ?_
      refine JL.qt (Qt.assign rfl) rfl ?_
      refine JL.nil ?_
      refine JN.code ?_
      refine J.region ?_
      refine JL.qt (Qt.move rfl) rfl ?_
      refine JL.qt (Qt.bin (fun _ => addN_run rfl (by omega) (by omega)) rfl rfl rfl) rfl ?_
      refine JL.qt (Qt.assign rfl) rfl ?_
      refine JL.nil ?_
      refine JN.round3 (z0 := i) (z1 := fst) (z2 := (m0 + 1)) (i + 1) i m0 (by omega) ⟨⟨by omega, by omega⟩, by omega, by rw [← hI0, f_sfind_l0]; rw [if_pos h1, if_pos h2, if_neg (Bool.eq_false_iff.1 h3), if_pos h4] <;> rfl⟩ ⟨rfl, rfl, rfl, rfl, rfl, rfl, trivial⟩ [] rfl
    refine J.skip ?_
    refine JN.code ?_
    refine J.keep [0, 1, 4, 5, 6, 7] rfl ?_
    refine J.region ?_
    refine JL.qt (Qt.move rfl) rfl ?_
    refine JL.qt (Qt.bin (fun _ => addN_run rfl (by omega) (by omega)) rfl rfl rfl) rfl ?_
    refine JL.qt (Qt.assign rfl) rfl ?_
    refine JL.nil ?_
    refine JN.round3 (z0 := i) (z1 := fst) (z2 := (m0 + 1)) (i + 1) fst m0 (by omega) ⟨⟨by omega, by omega⟩, by omega, by rw [← hI0, f_sfind_l0]; rw [if_pos h1, if_pos h2, if_neg (Bool.eq_false_iff.1 h3), if_neg h4] <;> rfl⟩ ⟨rfl, rfl, rfl, rfl, rfl, rfl, trivial⟩ [] rfl
  refine J.exit ?_
  refine JN.code ?_
  refine J.seq ?_
  refine J.region ?_
  refine JL.qt (Qt.move rfl) rfl ?_
  refine JL.qt (Qt.assign rfl) rfl ?_
  refine JL.qt (Qt.assign rfl) rfl ?_
  refine JL.nil ?_
  refine JN.code ?_
  refine J.ret ?_
  refine JN.back (res2 rfl rfl rfl) [] rfl ?_
  exact ⟨by rw [hT0, ← hI0, f_sfind_l0]; rw [if_neg h1] <;> rfl, rfl⟩
theorem s_eat (i : Nat) (h1i : 1 ≤ i) (hi : i ≤ 61) :
    Spec Tryz.prog 123 [.int .i64 (i : Int)].toArray [] (fun v L => v = .string ((f_satx i).1.Name) ∧ L = []) := by
  refine Spec.enter Tryz.func123 rfl Tryz.ntmps123 rfl rfl (fun w0 R0 F0 => ?_)
  refine J.seq ?_
  refine J.region ?_
  refine JL.qt (Qt.assign rfl) rfl ?_
  refine JL.nil ?_
  refine JN.code ?_
  refine J.seq ?_
  refine J.region ?_
  refine JL.qt (Qt.move rfl) rfl ?_
  refine JL.call (O1.call Tryz.func159 rfl rfl rfl [] rfl (s_satx i h1i hi)) rfl ?_
  rintro _ _ ⟨rfl, rfl⟩
  refine JL.qt (Qt.move rfl) rfl ?_
  refine JL.qt (Qt.extract rfl rfl) rfl ?_
  refine JL.qt (Qt.extract rfl rfl) rfl ?_
  refine JL.ef (O1.alloc ze146) rfl ?_
  rintro _ _ ⟨b_1, rfl, rfl⟩
  refine JL.sk (O1.stA 0 sz146 rfl rfl rfl rfl rfl rfl rfl rfl) ?_
  refine JL.qt (Qt.assign rfl) rfl ?_
  refine JL.nil ?_
  refine JN.code ?_
  refine J.seq ?_
  refine J.region ?_
  refine JL.qt (Qt.fa (o' := 0) fo146_0 rfl rfl) rfl ?_
  refine JL.qt (Qt.ld 0 pl9 rfl rfl rfl) rfl ?_
  refine JL.qt (Qt.assign rfl) rfl ?_
  refine JL.nil ?_
  refine JN.code ?_
  refine J.ret ?_
  refine JN.back (res1 rfl rfl) [] rfl ?_
  exact ⟨rfl, rfl⟩
theorem s_place (t : Nat) (A1 : Option Addr) (c1 : Nat) (xs : List ApiField) (sz : Int) (mx : Int) (f : ApiField) (hn : xs.length ≤ 1073741824) :
    Spec Tryz.prog 82 [.pointer (some ⟨t, 0, none⟩), .agg #[.string f.Name, .string f.Value, .bool f.Never]].toArray [blk t 108 [.slice A1 xs.length c1, .int .i64 sz, .int .i64 mx], row kApiField 146 A1 c1 xs] (fun v L => v = .tuple #[.int .i64 ((f_place xs f).1), .bool ((f_place xs f).2)] ∧ L = [blk t 108 [.slice A1 xs.length c1, .int .i64 sz, .int .i64 mx], row kApiField 146 A1 c1 xs]) := by
  refine Spec.enter Tryz.func82 rfl Tryz.ntmps82 rfl rfl (fun w0 R0 F0 => ?_)
  refine J.seq ?_
  refine J.region ?_
  refine JL.ef (O1.box rfl rfl) rfl ?_
  rintro _ _ ⟨b_1, rfl, rfl⟩
  refine JL.qt (Qt.assign rfl) rfl ?_
  refine JL.qt (Qt.assign rfl) rfl ?_
  refine JL.nil ?_
  refine JN.code ?_
  refine J.seq ?_
  refine J.region ?_
  refine JL.qt (Qt.fa (o' := 0) fo146_0 rfl rfl) rfl ?_
  refine JL.qt (Qt.ld 0 pl9 rfl rfl rfl) rfl ?_
  refine JL.qt (Qt.fa (o' := 1) fo146_1 rfl rfl) rfl ?_
  refine JL.qt (Qt.ld 0 pl9 rfl rfl rfl) rfl ?_
  refine JL.call (O1.call Tryz.func121 rfl rfl rfl [] rfl (s_sfind f.Name f.Value)) rfl ?_
  rintro _ _ ⟨rfl, rfl⟩
  refine JL.qt (Qt.move rfl) rfl ?_
  refine JL.qt (Qt.extract rfl rfl) rfl ?_
  refine JL.qt (Qt.extract rfl rfl) rfl ?_
  refine JL.qt (Qt.assign rfl) rfl ?_
  refine JL.qt (Qt.assign rfl) rfl ?_
  refine JL.nil ?_
  refine JN.code ?_
  refine J.seq ?_
  refine J.seq ?_
  refine J.region ?_
  refine JL.qt (Qt.move rfl) rfl ?_
  refine JL.nil ?_
  refine JN.code ?_
  refine J.cond rfl (fun h1 => ?_) (fun h1 => ?_)
  · refine J.seq ?_
    refine J.region ?_
    refine JL.qt (Qt.move rfl) rfl ?_
    refine JL.qt (Qt.assign rfl) rfl ?_
    refine JL.qt (Qt.assign rfl) rfl ?_
    refine JL.nil ?_
    refine JN.code ?_
    refine J.ret ?_
    refine JN.back (res2 rfl rfl rfl) [1, 1] rfl ?_
    exact ⟨by unfold f_place; rw [if_pos h1] <;> rfl, rfl⟩
  refine J.skip ?_
  refine JN.code ?_
  refine J.seq ?_
  refine J.region ?_
  refine JL.qt (Qt.move rfl) rfl ?_
  refine JL.qt (Qt.fa (o' := 0) fo146_0 rfl rfl) rfl ?_
  refine JL.qt (Qt.ld 0 pl9 rfl rfl rfl) rfl ?_
  refine JL.qt (Qt.fa (o' := 1) fo146_1 rfl rfl) rfl ?_
  refine JL.qt (Qt.ld 0 pl9 rfl rfl rfl) rfl ?_
  refine JL.call (O1.call Tryz.func122 rfl rfl rfl [1, 1] rfl (s_tfind t A1 c1 xs sz mx f.Name f.Value hn)) rfl ?_
  rintro _ _ ⟨rfl, rfl⟩
  refine JL.qt (Qt.move rfl) rfl ?_
  refine JL.qt (Qt.extract rfl rfl) rfl ?_
  refine JL.qt (Qt.extract rfl rfl) rfl ?_
  refine JL.qt (Qt.assign rfl) rfl ?_
  refine JL.qt (Qt.assign rfl) rfl ?_
  refine JL.nil ?_
  refine JN.code ?_
  refine J.seq ?_
  refine J.block ?_
  refine J.seq ?_
  refine J.keep [4, 5, 6, 8, 9] rfl ?_
  refine J.region ?_
  refine JL.qt (Qt.move rfl) rfl ?_
  refine JL.qt (Qt.assign rfl) rfl ?_
  refine JL.nil ?_
  refine JN.code ?_
  refine J.cond rfl (fun h2 => ?_) (fun h2 => ?_)
  · refine J.seq ?_
    refine J.region ?_
    refine JL.qt (Qt.move rfl) rfl ?_
    refine JL.qt (Qt.bin (fun _ => add_run) rfl rfl rfl) rfl ?_
    refine JL.qt (Qt.assign rfl) rfl ?_
    refine JL.qt (Qt.assign rfl) rfl ?_
    refine JL.nil ?_
    refine JN.code ?_
    refine J.ret ?_
    refine JN.back (res2 rfl rfl rfl) [0, 0] rfl ?_
    exact ⟨by unfold f_place; rw [if_neg (Bool.eq_false_iff.1 h1), if_pos h2] <;> rfl, rfl⟩
  refine J.seq ?_
  refine J.region ?_
  refine JL.qt (Qt.move rfl) rfl ?_
  refine JL.qt (Qt.bin (fun _ => eql_run) rfl rfl rfl) rfl ?_
  refine JL.qt (Qt.move rfl) rfl ?_
  refine JL.cases_eq (t := 36) rfl (fun h3 => ?_) (fun h3 => ?_)
  · refine JL.g_in rfl rfl ?_
    refine JL.qt (Qt.move rfl) rfl ?_
    refine JL.g_in rfl rfl ?_
    refine JL.qt (Qt.bin (fun _ => gtr_run) rfl rfl rfl) rfl ?_
    refine JL.qt (Qt.pick_t rfl rfl) rfl ?_
    refine JL.qt (Qt.assign rfl) rfl ?_
    refine JL.nil ?_
    refine JN.code ?_
    refine J.cond_dec rfl (fun h4 => ?_) (fun h4 => ?_)
    · refine J.seq ?_
      refine J.region ?_
      refine JL.qt (Qt.move rfl) rfl ?_
      refine JL.qt (Qt.bin (fun _ => add_run) rfl rfl rfl) rfl ?_
      refine JL.qt (Qt.assign rfl) rfl ?_
      refine JL.qt (Qt.assign rfl) rfl ?_
      refine JL.nil ?_
      refine JN.code ?_
      refine J.ret ?_
      refine JN.back (res2 rfl rfl rfl) [0, 0] rfl ?_
      exact ⟨by unfold f_place; rw [if_neg (Bool.eq_false_iff.1 h1), if_neg (Bool.eq_false_iff.1 h2), if_pos h3, if_pos h4] <;> rfl, rfl⟩
    refine J.skip ?_
    refine JN.code ?_
    refine J.seq ?_
    refine J.region ?_
    refine JL.qt (Qt.move rfl) rfl ?_
    refine JL.qt (Qt.assign rfl) rfl ?_
    refine JL.qt (Qt.assign rfl) rfl ?_
    refine JL.nil ?_
    refine JN.code ?_
    refine J.ret ?_
    refine JN.back (res2 rfl rfl rfl) [0, 0] rfl ?_
    exact ⟨by unfold f_place; rw [if_neg (Bool.eq_false_iff.1 h1), if_neg (Bool.eq_false_iff.1 h2), if_pos h3, if_neg h4] <;> rfl, rfl⟩
  refine JL.g_outU rfl rfl rfl rfl ?_
  refine JL.g_outU rfl rfl rfl rfl ?_
  refine JL.qt (Qt.pick_f rfl rfl) rfl ?_
  refine JL.qt (Qt.assign rfl) rfl ?_
  refine JL.nil ?_
  refine JN.code ?_
  refine J.cond_false rfl ?_
  refine J.skip ?_
  refine JN.code ?_
  refine J.seq ?_
  refine J.region ?_
  refine JL.qt (Qt.move rfl) rfl ?_
  refine JL.qt (Qt.assign rfl) rfl ?_
  refine JL.qt (Qt.assign rfl) rfl ?_
  refine JL.nil ?_
  refine JN.code ?_
  refine J.ret ?_
  refine JN.back (res2 rfl rfl rfl) [0, 0] rfl ?_
  exact ⟨by unfold f_place; rw [if_neg (Bool.eq_false_iff.1 h1), if_neg (Bool.eq_false_iff.1 h2), if_neg h3] <;> rfl, rfl⟩
theorem s_encoder_kind (f : ApiField) (o : EncoderOption) :
    Spec Tryz.prog 83 [.agg #[.string f.Name, .string f.Value, .bool f.Never], .agg #[.int .i64 o.Way, .bool o.NewName, .bool o.ShortName, .bool o.ShortValue]].toArray [] (fun v L => v = .int .i64 (f_encoder_kind f o) ∧ L = []) := by
  refine Spec.enter Tryz.func83 rfl Tryz.ntmps83 rfl rfl (fun w0 R0 F0 => ?_)
  refine J.seq ?_
  refine J.region ?_
  refine JL.ef (O1.box rfl rfl) rfl ?_
  rintro _ _ ⟨b_1, rfl, rfl⟩
  refine JL.ef (O1.box rfl rfl) rfl ?_
  rintro _ _ ⟨b_2, rfl, rfl⟩
  refine JL.qt (Qt.assign rfl) rfl ?_
  refine JL.nil ?_
  refine JN.code ?_
  refine J.seq ?_
  refine J.block ?_
  refine J.seq ?_
  refine J.region ?_
  refine JL.qt (Qt.fa (o' := 2) fo146_2 rfl rfl) rfl ?_
  refine JL.qt (Qt.ld 1 pl4 rfl rfl rfl) rfl ?_
  refine JL.qt (Qt.assign rfl) rfl ?_
  refine JL.nil ?_
  refine JN.code ?_
  refine J.cond rfl (fun h1 => ?_) (fun h1 => ?_)
  · refine J.seq ?_
    refine J.region ?_
    refine JL.qt (Qt.assign rfl) rfl ?_
    refine JL.nil ?_
    refine JN.code ?_
    refine J.ret ?_
    refine JN.back (res1 rfl rfl) [] rfl ?_
    exact ⟨by unfold f_encoder_kind; rw [if_pos h1] <;> rfl, rfl⟩
  refine J.seq ?_
  refine J.region ?_
  refine JL.qt (Qt.fa (o' := 0) fo51_0 rfl rfl) rfl ?_
  refine JL.qt (Qt.ld 0 pl3 rfl rfl rfl) rfl ?_
  refine JL.qt (Qt.bin (fun _ => eql_run) rfl rfl rfl) rfl ?_
  refine JL.qt (Qt.assign rfl) rfl ?_
  refine JL.nil ?_
  refine JN.code ?_
  refine J.cond_eq rfl (fun h2 => ?_) (fun h2 => ?_)
  · refine J.seq ?_
    refine J.region ?_
    refine JL.qt (Qt.assign rfl) rfl ?_
    refine JL.nil ?_
    refine JN.code ?_
    refine J.ret ?_
    refine JN.back (res1 rfl rfl) [] rfl ?_
    exact ⟨by unfold f_encoder_kind; rw [if_neg (Bool.eq_false_iff.1 h1), if_pos h2] <;> rfl, rfl⟩
  refine J.skip ?_
  refine JN.code ?_
  refine J.seq ?_
  refine J.region ?_
  refine JL.qt (Qt.assign rfl) rfl ?_
  refine JL.nil ?_
  refine JN.code ?_
  refine J.ret ?_
  refine JN.back (res1 rfl rfl) [] rfl ?_
  exact ⟨by unfold f_encoder_kind; rw [if_neg (Bool.eq_false_iff.1 h1), if_neg h2] <;> rfl, rfl⟩
theorem s_ename (t : Nat) (A1 : Option Addr) (c1 : Nat) (xs : List ApiField) (sz : Int) (mx : Int) (s : ByteArray) (hn : xs.length ≤ 1073741824) :
    Spec Tryz.prog 84 [.pointer (some ⟨t, 0, none⟩), .string s].toArray [blk t 108 [.slice A1 xs.length c1, .int .i64 sz, .int .i64 mx], row kApiField 146 A1 c1 xs] (fun v L => v = .int .i64 (f_ename xs s) ∧ L = [blk t 108 [.slice A1 xs.length c1, .int .i64 sz, .int .i64 mx], row kApiField 146 A1 c1 xs]) := by
  refine Spec.enter Tryz.func84 rfl Tryz.ntmps84 rfl rfl (fun w0 R0 F0 => ?_)
  refine J.seq ?_
  refine J.region ?_
  refine JL.qt (Qt.assign rfl) rfl ?_
  refine JL.nil ?_
  refine JN.code ?_
  refine J.seq ?_
  refine J.seq ?_
  refine J.region ?_
  refine JL.qt (Qt.move rfl) rfl ?_
  refine JL.call (O1.call Tryz.func121 rfl rfl rfl [] rfl (s_sfind s (ByteArray.mk #[]))) rfl ?_
  rintro _ _ ⟨rfl, rfl⟩
  refine JL.qt (Qt.move rfl) rfl ?_
  refine JL.qt (Qt.extract rfl rfl) rfl ?_
  refine JL.qt (Qt.extract rfl rfl) rfl ?_
  refine JL.qt (Qt.assign rfl) rfl ?_
  refine JL.qt (Qt.assign rfl) rfl ?_
  refine JL.nil ?_
  refine JN.code ?_
  refine J.seq ?_
  refine J.region ?_
  refine JL.qt (Qt.move rfl) rfl ?_
  refine JL.qt (Qt.bin (fun _ => gtr_run) rfl rfl rfl) rfl ?_
  refine JL.nil ?_
  refine JN.code ?_
  refine J.cond_dec rfl (fun h1 => ?_) (fun h1 => ?_)
  · refine J.seq ?_
    refine J.block ?_
    have hT0 : f_ename xs s = f_ename_l0 xs s (((f_sfind s ⟨#[]⟩).1) + 1) ((f_sfind s ⟨#[]⟩).1) := by unfold f_ename; rw [if_pos h1] <;> rfl
    refine J.loop2 (fun (k : Nat) (m0 : Nat) => [(0, .pointer (some ⟨t, 0, none⟩)), (1, .string s), (4, .int .i64 0), (5, .int .i64 (k : Int))]) (fun (k : Nat) (m0 : Nat) => [blk t 108 [.slice A1 xs.length c1, .int .i64 sz, .int .i64 mx], row kApiField 146 A1 c1 xs]) (fun (k : Nat) (m0 : Nat) => (k ≤ 61) ∧ (k) < m0 ∧ f_ename_l0 xs s m0 k = f_ename_l0 xs s (((f_sfind s ⟨#[]⟩).1) + 1) ((f_sfind s ⟨#[]⟩).1)) (fun (k : Nat) (m0 : Nat) => k) ((f_sfind s ⟨#[]⟩).1) (((f_sfind s ⟨#[]⟩).1) + 1) ⟨f_sfind_le _ _, by omega, rfl⟩ ⟨rfl, rfl, rfl, rfl, trivial⟩ [0, 0] rfl ?_
    rintro k m0 ⟨hk, hm0, hI0⟩
    obtain ⟨m0, rfl⟩ : ∃ z, m0 = z + 1 := ⟨m0 - 1, by omega⟩
    refine J.seq ?_
    refine J.seq ?_
    refine J.region ?_
    refine JL.qt (Qt.move rfl) rfl ?_
    refine JL.qt (Qt.bin (fun _ => gtr_run) rfl rfl rfl) rfl ?_
    refine JL.qt (Qt.move rfl) rfl ?_
    refine JL.cases_dec (t := 19) rfl (fun h2 => ?_) (fun h2 => ?_)
    · refine JL.g_in rfl rfl ?_
      refine JL.qt (Qt.move rfl) rfl ?_
      refine JL.g_in rfl rfl ?_
      refine JL.qt (Qt.bin (fun _ => subN_run (c := ((k - 1 : Nat) : Int)) (by omega) (by omega) (by omega)) rfl rfl rfl) rfl ?_
      refine JL.g_in rfl rfl ?_
      refine JL.call (O1.call Tryz.func123 rfl rfl rfl [] rfl (s_eat (k - 1) (by omega) (by omega))) rfl ?_
      rintro _ _ ⟨rfl, rfl⟩
      refine JL.g_in rfl rfl ?_
      refine JL.qt (Qt.move rfl) rfl ?_
      refine JL.g_in rfl rfl ?_
      refine JL.qt (Qt.bin (fun _ => seql_run) rfl rfl rfl) rfl ?_
      refine JL.qt (Qt.pick_t rfl rfl) rfl ?_
      refine JL.nil ?_
      refine JN.code ?_
      refine J.cond rfl (fun h3 => ?_) (fun h3 => ?_)
      · refine J.skip ?_
        refine JN.code ?_
        refine J.block ?_
        refine J.region ?_
        refine JL.qt (Qt.move rfl) rfl ?_
        refine JL.qt (Qt.bin (fun _ => subN_run (c := ((k - 1 : Nat) : Int)) (by omega) (by omega) (by omega)) rfl rfl rfl) rfl ?_
        refine JL.qt (Qt.assign rfl) rfl ?_
        refine JL.nil ?_
        refine JN.round2 (z0 := k) (z1 := (m0 + 1)) (k - 1) m0 (by omega) ⟨by omega, by omega, by rw [← hI0, f_ename_l0]; rw [if_pos h2, if_pos h3] <;> rfl⟩ ⟨rfl, rfl, rfl, rfl, trivial⟩ [0, 0] rfl
      refine J.exit ?_
      refine JN.code ?_
      refine J.seq ?_
      refine J.region ?_
      refine JL.qt (Qt.move rfl) rfl ?_
      refine JL.qt (Qt.assign rfl) rfl ?_
      refine JL.nil ?_
      refine JN.code ?_
      refine J.ret ?_
      refine JN.back (res1 rfl rfl) [0, 0] rfl ?_
      exact ⟨by rw [hT0, ← hI0, f_ename_l0]; rw [if_pos h2, if_neg (Bool.eq_false_iff.1 h3)] <;> rfl, rfl⟩
    refine JL.g_outU rfl rfl rfl rfl ?_
    refine JL.g_outU rfl rfl rfl rfl ?_
    refine JL.g_outU rfl rfl rfl rfl ?_
    refine JL.g_outU rfl rfl rfl rfl ?_
    refine JL.g_outU rfl rfl rfl rfl ?_
    refine JL.qt (Qt.pick_f rfl rfl) rfl ?_
    refine JL.nil ?_
    refine JN.code ?_
    refine J.cond_false rfl ?_
    refine J.exit ?_
    refine JN.code ?_
    refine J.seq ?_
    refine J.region ?_
    refine JL.qt (Qt.move rfl) rfl ?_
    refine JL.qt (Qt.assign rfl) rfl ?_
    refine JL.nil ?_
    refine JN.code ?_
    refine J.ret ?_
    refine JN.back (res1 rfl rfl) [0, 0] rfl ?_
    exact ⟨by rw [hT0, ← hI0, f_ename_l0]; rw [if_neg h2] <;> rfl, rfl⟩
  refine J.skip ?_
  refine JN.code ?_
  refine J.seq ?_
  refine J.seq ?_
  refine J.region ?_
  refine JL.qt (Qt.assign rfl) rfl ?_
  refine JL.nil ?_
  refine JN.code ?_
  refine J.block ?_
  have hT1 : f_ename xs s = f_ename_l1 xs s ((xs.length + 1 - 1) + 1) 1 := by unfold f_ename; rw [if_neg h1] <;> rfl
  refine J.loop2 (fun (i : Nat) (m1 : Nat) => [(0, .pointer (some ⟨t, 0, none⟩)), (1, .string s), (4, .int .i64 0), (7, .int .i64 (i : Int))]) (fun (i : Nat) (m1 : Nat) => [blk t 108 [.slice A1 xs.length c1, .int .i64 sz, .int .i64 mx], row kApiField 146 A1 c1 xs]) (fun (i : Nat) (m1 : Nat) => (1 ≤ i ∧ i ≤ xs.length + 1) ∧ (xs.length + 1 - i) < m1 ∧ f_ename_l1 xs s m1 i = f_ename_l1 xs s ((xs.length + 1 - 1) + 1) 1) (fun (i : Nat) (m1 : Nat) => xs.length + 1 - i) 1 ((xs.length + 1 - 1) + 1) ⟨⟨Nat.le_refl _, by omega⟩, by omega, rfl⟩ ⟨rfl, rfl, rfl, rfl, trivial⟩ [0, 0] rfl ?_
  rintro i m1 ⟨⟨hi1, hi2⟩, hm1, hI1⟩
  obtain ⟨m1, rfl⟩ : ∃ z, m1 = z + 1 := ⟨m1 - 1, by omega⟩
  refine J.seq ?_
  refine J.seq ?_
  refine J.region ?_
  refine JL.qt (Qt.move rfl) rfl ?_
  refine JL.qt (Qt.move rfl) rfl ?_
  refine JL.call (O1.call Tryz.func124 rfl rfl rfl [0, 0] rfl (s_tlen t A1 c1 xs sz mx)) rfl ?_
  rintro _ _ ⟨rfl, rfl⟩
  refine JL.qt (Qt.bin (fun _ => leq_run) rfl rfl rfl) rfl ?_
  refine JL.nil ?_
  refine JN.code ?_
  refine J.cond_dec rfl (fun h4 => ?_) (fun h4 => ?_)
  · refine J.skip ?_
    refine JN.code ?_
    refine J.seq ?_
    refine J.block ?_
    refine J.seq ?_
    refine J.region ?_
    refine JL.qt (Qt.move rfl) rfl ?_
    refine JL.qt (Qt.move rfl) rfl ?_
    refine JL.call (O1.call Tryz.func125 rfl rfl rfl [0, 0] rfl (s_tat t A1 c1 xs sz mx i (by omega) (by omega))) rfl ?_
    rintro _ _ ⟨rfl, rfl⟩
    refine JL.qt (Qt.move rfl) rfl ?_
    refine JL.qt (Qt.extract rfl rfl) rfl ?_
    refine JL.qt (Qt.extract rfl rfl) rfl ?_
    refine JL.ef (O1.alloc ze146) rfl ?_
    rintro _ _ ⟨b_1, rfl, rfl⟩
    refine JL.sk (O1.stA 0 sz146 rfl rfl rfl rfl rfl rfl rfl rfl) ?_
    refine JL.qt (Qt.assign rfl) rfl ?_
    refine JL.nil ?_
    refine JN.code ?_
    refine J.seq ?_
    refine J.region ?_
    refine JL.qt (Qt.fa (o' := 0) fo146_0 rfl rfl) rfl ?_
    refine JL.qt (Qt.ld 0 pl9 rfl rfl rfl) rfl ?_
    refine JL.qt (Qt.move rfl) rfl ?_
    refine JL.qt (Qt.bin (fun _ => seql_run) rfl rfl rfl) rfl ?_
    refine JL.nil ?_
    refine JN.code ?_
    refine J.cond rfl (fun h5 => ?_) (fun h5 => ?_)
    · refine J.seq ?_
      refine J.region ?_
      refine JL.qt (Qt.move rfl) rfl ?_
      refine JL.qt (Qt.bin (fun _ => add_run) rfl rfl rfl) rfl ?_
      refine JL.qt (Qt.assign rfl) rfl ?_
      refine JL.nil ?_
      refine JN.code ?_
      refine J.ret ?_
      refine JN.back (res1 rfl rfl) [1, 1] rfl ?_
      exact ⟨by rw [hT1, ← hI1, f_ename_l1]; rw [if_pos h4, if_pos h5] <;> rfl, rfl⟩
    refine J.skip ?_
    refine JN.code ?_
    refine J.region ?_
    refine JL.qt (Qt.move rfl) rfl ?_
    refine JL.qt (Qt.bin (fun _ => addN_run rfl (by omega) (by omega)) rfl rfl rfl) rfl ?_
    refine JL.qt (Qt.assign rfl) rfl ?_
    refine JL.nil ?_
    refine JN.round2 (z0 := i) (z1 := (m1 + 1)) (i + 1) m1 (by omega) ⟨⟨by omega, by omega⟩, by omega, by rw [← hI1, f_ename_l1]; rw [if_pos h4, if_neg (Bool.eq_false_iff.1 h5)] <;> rfl⟩ ⟨rfl, rfl, rfl, rfl, trivial⟩ [1, 1] rfl
  refine J.exit ?_
  refine JN.code ?_
  refine J.seq ?_
  refine J.region ?_
  refine JL.qt (Qt.assign rfl) rfl ?_
  refine JL.nil ?_
  refine JN.code ?_
  refine J.ret ?_
  refine JN.back (res1 rfl rfl) [0, 0] rfl ?_
  exact ⟨by rw [hT1, ← hI1, f_ename_l1]; rw [if_neg h4] <;> rfl, rfl⟩
end Go.Proofs.YthjbkngecgbioaaGreatDoor.Sl

/- Walks: how a field is told. -/
set_option maxRecDepth 100000
set_option linter.unusedSimpArgs false
set_option linter.unusedVariables false
namespace Go.Proofs.YthjbkngecgbioaaGreatDoor.Sl
open Go
theorem ze143 : zeroTy Tryz.prog 143 = some [.int .i64 0, .int .i64 0, .string ⟨#[]⟩, .bool false, .string ⟨#[]⟩, .bool false, .int .i64 0] := by kernel_rfl
theorem sp143 : structPl Tryz.prog 143 = some [(0, 1), (1, 1), (2, 2), (4, 2), (6, 1)] := by kernel_rfl
theorem sz143 : szTy Tryz.prog 143 = some 7 := by kernel_rfl
theorem ag143 : aggTy Tryz.prog 143 = true := by kernel_rfl
theorem ag51 : aggTy Tryz.prog 51 = true := by kernel_rfl
theorem sz51 : szTy Tryz.prog 51 = some 4 := by kernel_rfl
theorem fo51_3 : fldOff Tryz.prog 51 3 = some 3 := by kernel_rfl
theorem sp141 : structPl Tryz.prog 141 = some [(0, 1), (1, 1)] := by kernel_rfl
theorem ze141 : zeroTy Tryz.prog 141 = some [.string ⟨#[]⟩, .bool false] := by kernel_rfl
theorem fo51_1 : fldOff Tryz.prog 51 1 = some 1 := by kernel_rfl
theorem fo143_1 : fldOff Tryz.prog 143 1 = some 1 := by kernel_rfl
theorem fo51_2 : fldOff Tryz.prog 51 2 = some 2 := by kernel_rfl
theorem fo143_2 : fldOff Tryz.prog 143 2 = some 2 := by kernel_rfl
theorem sz141 : szTy Tryz.prog 141 = some 2 := by kernel_rfl
theorem fo143_0 : fldOff Tryz.prog 143 0 = some 0 := by kernel_rfl
structure StrlitText where
  S : ByteArray
  Short : Bool
def kStrlitText : Kd StrlitText := Kd.iso (Kd.pair Kd.str Kd.bool) (fun x => (x.S, x.Short))
theorem unStrlitText {x : StrlitText} {cs : List Value} : ∀ w R F, (kd kStrlitText x cs).h w R F → (cs = [.string x.S, .bool x.Short] ∧ x.S.size ≤ big) ∧ Star [] w R F := by
  intro w R F h
  simp only [kd, kStrlitText, Kd.iso, Kd.pair, Kd.int, Kd.bool, Kd.str, Kd.sl] at h
  obtain ⟨_, _, rfl, ⟨rfl, h0⟩, rfl⟩ := h
  exact ⟨⟨rfl, h0⟩, trivial⟩
theorem mkStrlitText {x : StrlitText} {w : World} {R : Foot}  (h0 : x.S.size ≤ big) : kStrlitText.rel w R x [.string x.S, .bool x.Short] := by
  simp only [kStrlitText, Kd.iso, Kd.pair, Kd.int, Kd.bool, Kd.str, Kd.sl]
  exact ⟨_, _, rfl, ⟨rfl, h0⟩, rfl⟩
structure ReprRepr where
  Kind : Int
  Index : Int
  Name : StrlitText
  Value : StrlitText
  Size : Int
def kReprRepr : Kd ReprRepr := Kd.iso (Kd.pair (Kd.int .i64) (Kd.pair (Kd.int .i64) (Kd.pair kStrlitText (Kd.pair kStrlitText (Kd.int .i64))))) (fun x => (x.Kind, (x.Index, (x.Name, (x.Value, x.Size)))))
theorem unReprRepr {x : ReprRepr} {cs : List Value} : ∀ w R F, (kd kReprRepr x cs).h w R F → (cs = [.int .i64 x.Kind, .int .i64 x.Index, .string x.Name.S, .bool x.Name.Short, .string x.Value.S, .bool x.Value.Short, .int .i64 x.Size] ∧ inK .i64 x.Kind ∧ inK .i64 x.Index ∧ x.Name.S.size ≤ big ∧ x.Value.S.size ≤ big ∧ inK .i64 x.Size) ∧ Star [] w R F := by
  intro w R F h
  simp only [kd, kReprRepr, kStrlitText, Kd.iso, Kd.pair, Kd.int, Kd.bool, Kd.str, Kd.sl] at h
  obtain ⟨_, _, rfl, ⟨rfl, h0⟩, ⟨_, _, rfl, ⟨rfl, h1⟩, ⟨_, _, rfl, ⟨_, _, rfl, ⟨rfl, h2⟩, rfl⟩, ⟨_, _, rfl, ⟨_, _, rfl, ⟨rfl, h4⟩, rfl⟩, ⟨rfl, h6⟩⟩⟩⟩⟩ := h
  exact ⟨⟨rfl, h0, h1, h2, h4, h6⟩, trivial⟩
theorem mkReprRepr {x : ReprRepr} {w : World} {R : Foot}  (h0 : inK .i64 x.Kind) (h1 : inK .i64 x.Index) (h2 : x.Name.S.size ≤ big) (h4 : x.Value.S.size ≤ big) (h6 : inK .i64 x.Size) : kReprRepr.rel w R x [.int .i64 x.Kind, .int .i64 x.Index, .string x.Name.S, .bool x.Name.Short, .string x.Value.S, .bool x.Value.Short, .int .i64 x.Size] := by
  simp only [kReprRepr, kStrlitText, Kd.iso, Kd.pair, Kd.int, Kd.bool, Kd.str, Kd.sl]
  exact ⟨_, _, rfl, ⟨rfl, h0⟩, ⟨_, _, rfl, ⟨rfl, h1⟩, ⟨_, _, rfl, ⟨_, _, rfl, ⟨rfl, h2⟩, rfl⟩, ⟨_, _, rfl, ⟨_, _, rfl, ⟨rfl, h4⟩, rfl⟩, ⟨rfl, h6⟩⟩⟩⟩⟩
def f_one_j3 (xs : List ApiField) (sz : Int) (mx : Int) (f : ApiField) (o : EncoderOption) (ix : Int) (nm : ByteArray) (sh : Bool) : ReprRepr × List ApiField × Int := if (f_encoder_kind f o) = 2 then ((⟨f_encoder_kind f o, ix, (⟨nm, sh⟩ : StrlitText), (⟨f.Value, o.ShortValue⟩ : StrlitText), 0⟩ : ReprRepr), (f_tadd xs sz mx f).1, (f_tadd xs sz mx f).2) else ((⟨f_encoder_kind f o, ix, (⟨nm, sh⟩ : StrlitText), (⟨f.Value, o.ShortValue⟩ : StrlitText), 0⟩ : ReprRepr), xs, sz)
def f_one_j2 (xs : List ApiField) (sz : Int) (mx : Int) (f : ApiField) (o : EncoderOption) (ix : Int) : ReprRepr × List ApiField × Int := if ix = 0 then f_one_j3 xs sz mx f o ix f.Name o.ShortName else f_one_j3 xs sz mx f o ix (ByteArray.mk #[]) false
def f_one_j1 (xs : List ApiField) (sz : Int) (mx : Int) (f : ApiField) (o : EncoderOption) : ReprRepr × List ApiField × Int := if o.NewName = true then f_one_j2 xs sz mx f o 0 else f_one_j2 xs sz mx f o (f_ename xs f.Name)
def f_one_j0 (xs : List ApiField) (sz : Int) (mx : Int) (f : ApiField) (o : EncoderOption) : ReprRepr × List ApiField × Int := f_one_j1 xs sz mx f o
def f_one (xs : List ApiField) (sz : Int) (mx : Int) (f : ApiField) (o : EncoderOption) : ReprRepr × List ApiField × Int := if ((f_place xs f).2) = true then if f.Never = true then f_one_j0 xs sz mx f o else if o.Way = 1 then f_one_j0 xs sz mx f o else if o.Way = 2 then f_one_j0 xs sz mx f o else ((⟨1, (f_place xs f).1, (⟨ByteArray.mk #[], false⟩ : StrlitText), (⟨ByteArray.mk #[], false⟩ : StrlitText), 0⟩ : ReprRepr), xs, sz) else f_one_j0 xs sz mx f o
theorem s_one (t : Nat) (A1 : Option Addr) (c1 : Nat) (xs : List ApiField) (sz : Int) (mx : Int) (f : ApiField) (o : EncoderOption) (hn : xs.length ≤ 1073741824) (hf1 : f.Name.size ≤ big) (hf2 : f.Value.size ≤ big) :
    Spec Tryz.prog 62 [.pointer (some ⟨t, 0, none⟩), .agg #[.string f.Name, .string f.Value, .bool f.Never], .agg #[.int .i64 o.Way, .bool o.NewName, .bool o.ShortName, .bool o.ShortValue]].toArray [blk t 108 [.slice A1 xs.length c1, .int .i64 sz, .int .i64 mx], row kApiField 146 A1 c1 xs] (fun v L => ∃ (A2 : Option Addr), ∃ (c2 : Nat), v = .agg #[.int .i64 (((f_one xs sz mx f o).1).Kind), .int .i64 (((f_one xs sz mx f o).1).Index), .string (((f_one xs sz mx f o).1).Name.S), .bool (((f_one xs sz mx f o).1).Name.Short), .string (((f_one xs sz mx f o).1).Value.S), .bool (((f_one xs sz mx f o).1).Value.Short), .int .i64 (((f_one xs sz mx f o).1).Size)] ∧ L = [blk t 108 [.slice A2 (((f_one xs sz mx f o).2.1).length) c2, .int .i64 ((f_one xs sz mx f o).2.2), .int .i64 mx], row kApiField 146 A2 c2 ((f_one xs sz mx f o).2.1)]) := by
  refine Spec.enter Tryz.func62 rfl Tryz.ntmps62 rfl rfl (fun w0 R0 F0 => ?_)
  refine J.seq ?_
  refine J.region ?_
  refine JL.ef (O1.box rfl rfl) rfl ?_
  rintro _ _ ⟨b_1, rfl, rfl⟩
  refine JL.ef (O1.box rfl rfl) rfl ?_
  rintro _ _ ⟨b_2, rfl, rfl⟩
  refine JL.ef (O1.alloc ze143) rfl ?_
  rintro _ _ ⟨b_3, rfl, rfl⟩
  refine JL.nil ?_
  refine JN.code ?_
  refine J.seq ?_
  refine J.region ?_
  refine JL.qt (Qt.move rfl) rfl ?_
  refine JL.qt (Qt.ldA 2 ag146 sz146 rfl rfl rfl rfl) rfl ?_
  refine JL.call (O1.call Tryz.func82 rfl rfl rfl [3, 3] rfl (s_place t A1 c1 xs sz mx f hn)) rfl ?_
  rintro _ _ ⟨rfl, rfl⟩
  refine JL.qt (Qt.move rfl) rfl ?_
  refine JL.qt (Qt.extract rfl rfl) rfl ?_
  refine JL.qt (Qt.extract rfl rfl) rfl ?_
  refine JL.qt (Qt.assign rfl) rfl ?_
  refine JL.qt (Qt.assign rfl) rfl ?_
  refine JL.nil ?_
  refine JN.code ?_
  refine J.meet0 ([(0, .pointer (some ⟨t, 0, none⟩)), (4, .pointer (some ⟨b_1, 0, none⟩)), (5, .pointer (some ⟨b_2, 0, none⟩)), (6, .pointer (some ⟨b_3, 0, none⟩))]) ([blk t 108 [.slice A1 xs.length c1, .int .i64 sz, .int .i64 mx], row kApiField 146 A1 c1 xs, blk b_3 143 [.int .i64 0, .int .i64 0, .string (ByteArray.mk #[]), .bool false, .string (ByteArray.mk #[]), .bool false, .int .i64 0], blk b_2 51 [.int .i64 o.Way, .bool o.NewName, .bool o.ShortName, .bool o.ShortValue], blk b_1 146 [.string f.Name, .string f.Value, .bool f.Never]]) ((True) ∧ f_one xs sz mx f o = f_one_j0 xs sz mx f o) ?_ ?_
  · refine J.seq ?_
    refine J.region ?_
    refine JL.qt (Qt.move rfl) rfl ?_
    refine JL.qt (Qt.move rfl) rfl ?_
    refine JL.cases (t := 17) rfl (fun h1 => ?_) (fun h1 => ?_)
    · refine JL.g_in rfl rfl ?_
      refine JL.qt (Qt.fa (o' := 2) fo146_2 rfl rfl) rfl ?_
      refine JL.g_in rfl rfl ?_
      refine JL.qt (Qt.ld 4 pl4 rfl rfl rfl) rfl ?_
      refine JL.g_in rfl rfl ?_
      refine JL.qt (Qt.un (fun _ => not_run) rfl) rfl ?_
      refine JL.qt (Qt.pick_t rfl rfl) rfl ?_
      refine JL.qt (Qt.move rfl) rfl ?_
      refine JL.cases_not (t := 22) rfl (fun h2 => ?_) (fun h2 => ?_)
      · refine JL.g_in rfl rfl ?_
        refine JL.qt (Qt.fa (o' := 0) fo51_0 rfl rfl) rfl ?_
        refine JL.g_in rfl rfl ?_
        refine JL.qt (Qt.ld 3 pl3 rfl rfl rfl) rfl ?_
        refine JL.g_in rfl rfl ?_
        refine JL.qt (Qt.bin (fun _ => neq_run) rfl rfl rfl) rfl ?_
        refine JL.qt (Qt.pick_t rfl rfl) rfl ?_
        refine JL.qt (Qt.move rfl) rfl ?_
        refine JL.cases_ne (t := 27) rfl (fun h3 => ?_) (fun h3 => ?_)
        · refine JL.g_in rfl rfl ?_
          refine JL.qt (Qt.fa (o' := 0) fo51_0 rfl rfl) rfl ?_
          refine JL.g_in rfl rfl ?_
          refine JL.qt (Qt.ld 3 pl3 rfl rfl rfl) rfl ?_
          refine JL.g_in rfl rfl ?_
          refine JL.qt (Qt.bin (fun _ => neq_run) rfl rfl rfl) rfl ?_
          refine JL.qt (Qt.pick_t rfl rfl) rfl ?_
          refine JL.nil ?_
          refine JN.code ?_
          refine J.cond_ne rfl (fun h4 => ?_) (fun h4 => ?_)
          · refine J.seq ?_
            refine J.keep [0, 4, 5, 6, 7] rfl ?_
            refine J.region ?_
            refine JL.qt (Qt.move rfl) rfl ?_
            refine JL.qt (Qt.build sp143 ze143 rfl rfl) rfl ?_
            refine JL.sk (O1.stA 2 sz143 rfl rfl rfl rfl rfl rfl rfl rfl) ?_
            refine JL.nil ?_
            refine JN.code ?_
            refine J.ret ?_
            refine JN.backR (rs := [.cell 6 143]) (vs := [.agg #[.int .i64 1, .int .i64 ((f_place xs f).1), .string (ByteArray.mk #[]), .bool false, .string (ByteArray.mk #[]), .bool false, .int .i64 0]]) rfl ?_ [1, 1] rfl ?_
            · exact .cell (x := 6) (t := 143) (b := b_3) (o := 0) rfl (Qt.ldA (cs := [.int .i64 1, .int .i64 ((f_place xs f).1), .string (ByteArray.mk #[]), .bool false, .string (ByteArray.mk #[]), .bool false, .int .i64 0]) 0 ag143 sz143 rfl rfl rfl rfl) .nil
            exact ⟨A1, c1, by unfold f_one; rw [if_pos h1, if_neg (Bool.eq_false_iff.1 h2), if_neg h3, if_neg h4] <;> rfl, by unfold f_one; rw [if_pos h1, if_neg (Bool.eq_false_iff.1 h2), if_neg h3, if_neg h4] <;> rfl⟩
          refine J.skip ?_
          exact JN.met0  ⟨trivial, by unfold f_one; rw [if_pos h1, if_neg (Bool.eq_false_iff.1 h2), if_neg h3, if_pos h4] <;> rfl⟩ ⟨rfl, rfl, rfl, rfl, trivial⟩ [0, 0, 0, 0, 0] rfl
        refine JL.g_outU rfl rfl rfl rfl ?_
        refine JL.g_outU rfl rfl rfl rfl ?_
        refine JL.g_outU rfl rfl rfl rfl ?_
        refine JL.qt (Qt.pick_f rfl rfl) rfl ?_
        refine JL.nil ?_
        refine JN.code ?_
        refine J.cond_false rfl ?_
        refine J.skip ?_
        exact JN.met0  ⟨trivial, by unfold f_one; rw [if_pos h1, if_neg (Bool.eq_false_iff.1 h2), if_pos h3] <;> rfl⟩ ⟨rfl, rfl, rfl, rfl, trivial⟩ [0, 0, 0, 0, 0] rfl
      refine JL.g_outU rfl rfl rfl rfl ?_
      refine JL.g_outU rfl rfl rfl rfl ?_
      refine JL.g_outU rfl rfl rfl rfl ?_
      refine JL.qt (Qt.pick_f rfl rfl) rfl ?_
      refine JL.qt (Qt.move rfl) rfl ?_
      refine JL.g_outU rfl rfl rfl rfl ?_
      refine JL.g_outU rfl rfl rfl rfl ?_
      refine JL.g_outU rfl rfl rfl rfl ?_
      refine JL.qt (Qt.pick_f rfl rfl) rfl ?_
      refine JL.nil ?_
      refine JN.code ?_
      refine J.cond_false rfl ?_
      refine J.skip ?_
      exact JN.met0  ⟨trivial, by unfold f_one; rw [if_pos h1, if_pos h2] <;> rfl⟩ ⟨rfl, rfl, rfl, rfl, trivial⟩ [0, 0, 0, 0, 0] rfl
    refine JL.g_outU rfl rfl rfl rfl ?_
    refine JL.g_outU rfl rfl rfl rfl ?_
    refine JL.g_outU rfl rfl rfl rfl ?_
    refine JL.qt (Qt.pick_f rfl rfl) rfl ?_
    refine JL.qt (Qt.move rfl) rfl ?_
    refine JL.g_outU rfl rfl rfl rfl ?_
    refine JL.g_outU rfl rfl rfl rfl ?_
    refine JL.g_outU rfl rfl rfl rfl ?_
    refine JL.qt (Qt.pick_f rfl rfl) rfl ?_
    refine JL.qt (Qt.move rfl) rfl ?_
    refine JL.g_outU rfl rfl rfl rfl ?_
    refine JL.g_outU rfl rfl rfl rfl ?_
    refine JL.g_outU rfl rfl rfl rfl ?_
    refine JL.qt (Qt.pick_f rfl rfl) rfl ?_
    refine JL.nil ?_
    refine JN.code ?_
    refine J.cond_false rfl ?_
    refine J.skip ?_
    exact JN.met0  ⟨trivial, by unfold f_one; rw [if_neg (Bool.eq_false_iff.1 h1)] <;> rfl⟩ ⟨rfl, rfl, rfl, rfl, trivial⟩ [0, 0, 0, 0, 0] rfl
  rintro ⟨-, hTj0⟩
  refine J.meet1 (fun (b : Nat) => [(0, .pointer (some ⟨t, 0, none⟩)), (4, .pointer (some ⟨b_1, 0, none⟩)), (5, .pointer (some ⟨b_2, 0, none⟩)), (6, .pointer (some ⟨b_3, 0, none⟩)), (9, .pointer (some ⟨b, 0, none⟩))]) (fun (b : Nat) => [blk b 143 [.int .i64 (f_encoder_kind f o), .int .i64 0, .string (ByteArray.mk #[]), .bool false, .string f.Value, .bool o.ShortValue, .int .i64 0], blk t 108 [.slice A1 xs.length c1, .int .i64 sz, .int .i64 mx], row kApiField 146 A1 c1 xs, blk b_3 143 [.int .i64 0, .int .i64 0, .string (ByteArray.mk #[]), .bool false, .string (ByteArray.mk #[]), .bool false, .int .i64 0], blk b_2 51 [.int .i64 o.Way, .bool o.NewName, .bool o.ShortName, .bool o.ShortValue], blk b_1 146 [.string f.Name, .string f.Value, .bool f.Never]]) (fun (b : Nat) => (True) ∧ f_one xs sz mx f o = f_one_j1 xs sz mx f o) ?_ ?_
  · refine J.sch (.qt 0 (.qt 1 (.qt 3 (.qt 4 (.qt 5 (.qt 6 (.qt 7 (.fork 2 [4, 6] (.qt 8 (.ef 9 [0, 1, 4, 6] (.ef 10 [] (.done)))) 9 [0, 1, 4, 6] (.ef 2 [4, 6] (.qt 8 (.ef 10 [] (.done)))))))))))) mixed (by repeat (first | exact Xe.noLook_body | refine noLook_then ?_ | refine noLook_block ?_)) (by kernel_rfl) ?_
    refine JS.q1 (j := 4) rfl rfl rfl (Qt.ldA 0 ag146 sz146 rfl rfl rfl rfl) rfl ?_
    refine JS.q1 (j := 3) rfl rfl rfl (Qt.ldA 0 ag51 sz51 rfl rfl rfl rfl) rfl ?_
    refine JS.q0 rfl (Qt.fa (o' := 1) fo146_1 rfl rfl) rfl ?_
    refine JS.q1 (j := 4) rfl rfl rfl (Qt.ld 0 pl9 rfl rfl rfl) rfl ?_
    refine JS.q0 rfl (Qt.fa (o' := 3) fo51_3 rfl rfl) rfl ?_
    refine JS.q1 (j := 3) rfl rfl rfl (Qt.ld 0 pl4 rfl rfl rfl) rfl ?_
    refine JS.q0 rfl (Qt.build sp141 ze141 rfl rfl) rfl ?_
    refine JS.e2 ?_ ?_
    · refine JE.ef rfl (O1.call Tryz.func83 rfl rfl rfl [] rfl (s_encoder_kind f o)) rfl ?_
      rintro _ _ ⟨_, ⟨rfl, rfl⟩, rfl⟩
      refine ⟨⟨.inr ⟨3, _, rfl⟩, ⟨.inr ⟨4, _, rfl⟩, ⟨.inl rfl, ⟨.inl rfl, trivial⟩⟩⟩⟩, ?_⟩
      refine JS.q0 rfl (Qt.build sp143 ze143 rfl rfl) rfl ?_
      refine JS.e1 ?_
      refine JE.ef rfl (O1.alloc ze143) rfl ?_
      rintro _ _ ⟨b_4, rfl, rfl⟩
      refine ⟨⟨.inr ⟨4, _, rfl⟩, ⟨.inr ⟨5, _, rfl⟩, ⟨.inr ⟨4, _, rfl⟩, ⟨.inr ⟨5, _, rfl⟩, trivial⟩⟩⟩⟩, ?_⟩
      refine JS.e1 ?_
      refine JE.sk rfl (O1.stA 0 sz143 rfl rfl rfl rfl rfl rfl rfl rfl) ⟨.inl rfl, ⟨.inl rfl, ⟨.inl rfl, ⟨.inl rfl, trivial⟩⟩⟩⟩ ?_
      refine JS.done ?_
      exact JN.met1 b_4 ⟨trivial, by rw [hTj0, f_one_j0] <;> rfl⟩ ⟨rfl, rfl, rfl, rfl, rfl, trivial⟩ [0, 0, 0, 0, 0, 0] rfl
    · refine JE.ef rfl (O1.alloc ze143) rfl ?_
      rintro _ _ ⟨b_5, rfl, rfl⟩
      refine ⟨⟨.inr ⟨4, _, rfl⟩, ⟨.inr ⟨5, _, rfl⟩, ⟨.inr ⟨4, _, rfl⟩, ⟨.inr ⟨5, _, rfl⟩, trivial⟩⟩⟩⟩, ?_⟩
      refine JS.e1 ?_
      refine JE.ef rfl (O1.call Tryz.func83 rfl rfl rfl [] rfl (s_encoder_kind f o)) rfl ?_
      rintro _ _ ⟨_, ⟨rfl, rfl⟩, rfl⟩
      refine ⟨⟨.inr ⟨4, _, rfl⟩, ⟨.inr ⟨5, _, rfl⟩, ⟨.inl rfl, ⟨.inl rfl, trivial⟩⟩⟩⟩, ?_⟩
      refine JS.q0 rfl (Qt.build sp143 ze143 rfl rfl) rfl ?_
      refine JS.e1 ?_
      refine JE.sk rfl (O1.stA 0 sz143 rfl rfl rfl rfl rfl rfl rfl rfl) ⟨.inl rfl, ⟨.inl rfl, ⟨.inl rfl, ⟨.inl rfl, trivial⟩⟩⟩⟩ ?_
      refine JS.done ?_
      exact JN.met1 b_5 ⟨trivial, by rw [hTj0, f_one_j0] <;> rfl⟩ ⟨rfl, rfl, rfl, rfl, rfl, trivial⟩ [0, 0, 0, 0, 0, 0] rfl
  rintro b ⟨-, hTj1⟩
  refine J.meet1 (fun (ix : Int) => [(0, .pointer (some ⟨t, 0, none⟩)), (4, .pointer (some ⟨b_1, 0, none⟩)), (5, .pointer (some ⟨b_2, 0, none⟩)), (6, .pointer (some ⟨b_3, 0, none⟩)), (9, .pointer (some ⟨b, 0, none⟩))]) (fun (ix : Int) => [blk b 143 [.int .i64 (f_encoder_kind f o), .int .i64 ix, .string (ByteArray.mk #[]), .bool false, .string f.Value, .bool o.ShortValue, .int .i64 0], blk t 108 [.slice A1 xs.length c1, .int .i64 sz, .int .i64 mx], row kApiField 146 A1 c1 xs, blk b_3 143 [.int .i64 0, .int .i64 0, .string (ByteArray.mk #[]), .bool false, .string (ByteArray.mk #[]), .bool false, .int .i64 0], blk b_2 51 [.int .i64 o.Way, .bool o.NewName, .bool o.ShortName, .bool o.ShortValue], blk b_1 146 [.string f.Name, .string f.Value, .bool f.Never]]) (fun (ix : Int) => (True) ∧ f_one xs sz mx f o = f_one_j2 xs sz mx f o ix) ?_ ?_
  · refine J.seq ?_
    refine J.region ?_
    refine JL.qt (Qt.fa (o' := 1) fo51_1 rfl rfl) rfl ?_
    refine JL.qt (Qt.ld 4 pl4 rfl rfl rfl) rfl ?_
    refine JL.qt (Qt.un (fun _ => not_run) rfl) rfl ?_
    refine JL.nil ?_
    refine JN.code ?_
    refine J.cond_not rfl (fun h5 => ?_) (fun h5 => ?_)
    · refine J.region ?_
      refine JL.qt (Qt.move rfl) rfl ?_
      refine JL.qt (Qt.fa (o' := 0) fo146_0 rfl rfl) rfl ?_
      refine JL.qt (Qt.ld 5 pl9 rfl rfl rfl) rfl ?_
      refine JL.call (O1.call Tryz.func84 rfl rfl rfl [1, 1] rfl (s_ename t A1 c1 xs sz mx f.Name hn)) rfl ?_
      rintro _ _ ⟨rfl, rfl⟩
      refine JL.qt (Qt.fa (o' := 1) fo143_1 rfl rfl) rfl ?_
      refine JL.sk (O1.st 2 sz3 rfl rfl rfl rfl rfl rfl) ?_
      refine JL.nil ?_
      exact JN.met1 (f_ename xs f.Name) ⟨trivial, by rw [hTj1, f_one_j1]; rw [if_neg (Bool.eq_false_iff.1 h5)] <;> rfl⟩ ⟨rfl, rfl, rfl, rfl, rfl, trivial⟩ [0, 0, 0, 0, 0, 0] rfl
    refine J.skip ?_
    exact JN.met1 0 ⟨trivial, by rw [hTj1, f_one_j1]; rw [if_pos h5] <;> rfl⟩ ⟨rfl, rfl, rfl, rfl, rfl, trivial⟩ [0, 0, 0, 0, 0, 0] rfl
  rintro ix ⟨-, hTj2⟩
  refine J.meet2 (fun (nm : ByteArray) (sh : Bool) => [(0, .pointer (some ⟨t, 0, none⟩)), (4, .pointer (some ⟨b_1, 0, none⟩)), (6, .pointer (some ⟨b_3, 0, none⟩)), (9, .pointer (some ⟨b, 0, none⟩))]) (fun (nm : ByteArray) (sh : Bool) => [blk b 143 [.int .i64 (f_encoder_kind f o), .int .i64 ix, .string nm, .bool sh, .string f.Value, .bool o.ShortValue, .int .i64 0], blk t 108 [.slice A1 xs.length c1, .int .i64 sz, .int .i64 mx], row kApiField 146 A1 c1 xs, blk b_3 143 [.int .i64 0, .int .i64 0, .string (ByteArray.mk #[]), .bool false, .string (ByteArray.mk #[]), .bool false, .int .i64 0], blk b_2 51 [.int .i64 o.Way, .bool o.NewName, .bool o.ShortName, .bool o.ShortValue], blk b_1 146 [.string f.Name, .string f.Value, .bool f.Never]]) (fun (nm : ByteArray) (sh : Bool) => (True) ∧ f_one xs sz mx f o = f_one_j3 xs sz mx f o ix nm sh) ?_ ?_
  · refine J.seq ?_
    refine J.region ?_
    refine JL.qt (Qt.fa (o' := 1) fo143_1 rfl rfl) rfl ?_
    refine JL.qt (Qt.ld 0 pl3 rfl rfl rfl) rfl ?_
    refine JL.qt (Qt.bin (fun _ => eql_run) rfl rfl rfl) rfl ?_
    refine JL.nil ?_
    refine JN.code ?_
    refine J.cond_eq rfl (fun h6 => ?_) (fun h6 => ?_)
    · refine J.region ?_
      refine JL.qt (Qt.fa (o' := 0) fo146_0 rfl rfl) rfl ?_
      refine JL.qt (Qt.ld 5 pl9 rfl rfl rfl) rfl ?_
      refine JL.qt (Qt.fa (o' := 2) fo51_2 rfl rfl) rfl ?_
      refine JL.qt (Qt.ld 4 pl4 rfl rfl rfl) rfl ?_
      refine JL.qt (Qt.build sp141 ze141 rfl rfl) rfl ?_
      refine JL.qt (Qt.fa (o' := 2) fo143_2 rfl rfl) rfl ?_
      refine JL.sk (O1.stA 0 sz141 rfl rfl rfl rfl rfl rfl rfl rfl) ?_
      refine JL.nil ?_
      exact JN.met2 f.Name o.ShortName ⟨trivial, by rw [hTj2, f_one_j2]; rw [if_pos h6] <;> rfl⟩ ⟨rfl, rfl, rfl, rfl, trivial⟩ [0, 0, 0, 0, 0, 0] rfl
    refine J.skip ?_
    exact JN.met2 (ByteArray.mk #[]) false ⟨trivial, by rw [hTj2, f_one_j2]; rw [if_neg h6] <;> rfl⟩ ⟨rfl, rfl, rfl, rfl, trivial⟩ [0, 0, 0, 0, 0, 0] rfl
  rintro nm sh ⟨-, hTj3⟩
  refine J.seq ?_
  refine J.seq ?_
  refine J.region ?_
  refine JL.qt (Qt.fa (o' := 0) fo143_0 rfl rfl) rfl ?_
  refine JL.qt (Qt.ld 0 pl3 rfl rfl rfl) rfl ?_
  refine JL.qt (Qt.bin (fun _ => eql_run) rfl rfl rfl) rfl ?_
  refine JL.nil ?_
  refine JN.code ?_
  refine J.cond_eq rfl (fun h7 => ?_) (fun h7 => ?_)
  · refine J.region ?_
    refine JL.qt (Qt.move rfl) rfl ?_
    refine JL.qt (Qt.ldA 5 ag146 sz146 rfl rfl rfl rfl) rfl ?_
    refine JL.call (O1.call Tryz.func85 rfl rfl rfl [1, 1] rfl (s_tadd t A1 c1 xs sz mx f hn hf1 hf2)) rfl ?_
    rintro _ _ ⟨A2_6, c2_7, rfl, rfl⟩
    refine JL.nil ?_
    refine JN.code ?_
    refine J.seq ?_
    refine J.region ?_
    refine JL.qt (Qt.ldA 2 ag143 sz143 rfl rfl rfl rfl) rfl ?_
    refine JL.sk (O1.stA 3 sz143 rfl rfl rfl rfl rfl rfl rfl rfl) ?_
    refine JL.nil ?_
    refine JN.code ?_
    refine J.ret ?_
    refine JN.backR (rs := [.cell 6 143]) (vs := [.agg #[.int .i64 (f_encoder_kind f o), .int .i64 ix, .string nm, .bool sh, .string f.Value, .bool o.ShortValue, .int .i64 0]]) rfl ?_ [1, 1] rfl ?_
    · exact .cell (x := 6) (t := 143) (b := b_3) (o := 0) rfl (Qt.ldA (cs := [.int .i64 (f_encoder_kind f o), .int .i64 ix, .string nm, .bool sh, .string f.Value, .bool o.ShortValue, .int .i64 0]) 0 ag143 sz143 rfl rfl rfl rfl) .nil
    exact ⟨A2_6, c2_7, by rw [hTj3, f_one_j3]; rw [if_pos h7] <;> rfl, by rw [hTj3, f_one_j3]; rw [if_pos h7] <;> rfl⟩
  refine J.skip ?_
  refine JN.code ?_
  refine J.seq ?_
  refine J.region ?_
  refine JL.qt (Qt.ldA 0 ag143 sz143 rfl rfl rfl rfl) rfl ?_
  refine JL.sk (O1.stA 3 sz143 rfl rfl rfl rfl rfl rfl rfl rfl) ?_
  refine JL.nil ?_
  refine JN.code ?_
  refine J.ret ?_
  refine JN.backR (rs := [.cell 6 143]) (vs := [.agg #[.int .i64 (f_encoder_kind f o), .int .i64 ix, .string nm, .bool sh, .string f.Value, .bool o.ShortValue, .int .i64 0]]) rfl ?_ [2, 2] rfl ?_
  · exact .cell (x := 6) (t := 143) (b := b_3) (o := 0) rfl (Qt.ldA (cs := [.int .i64 (f_encoder_kind f o), .int .i64 ix, .string nm, .bool sh, .string f.Value, .bool o.ShortValue, .int .i64 0]) 0 ag143 sz143 rfl rfl rfl rfl) .nil
  exact ⟨A1, c1, by rw [hTj3, f_one_j3]; rw [if_neg h7] <;> rfl, by rw [hTj3, f_one_j3]; rw [if_neg h7] <;> rfl⟩
end Go.Proofs.YthjbkngecgbioaaGreatDoor.Sl

/- Walks: a number behind a prefix. -/
set_option maxRecDepth 100000
set_option linter.unusedSimpArgs false
set_option linter.unusedVariables false
namespace Go.Proofs.YthjbkngecgbioaaGreatDoor.Sl
open Go
theorem shr7_run {P : Program} {w : World} {t : TypeId} {n : Int} : (binOp .shr t (.int .i64 n) (.int .u64 7)).run P w = .ok (.int .i64 (n / 128)) w := by
  rw [shr_run (by decide)]
  have : shr .i64 n 7 = n / 128 := by
    show n.fdiv 128 = n / 128
    exact Int.fdiv_eq_ediv_of_nonneg n (by decide)
  rw [this]
def f_prefix_full (b : Int) : Int × Bool := if b < 1 then (0, false) else if b > 8 then (0, false) else ((IntKind.i64.wrap ((Sl.shl .i64 1 b) - 1)), true)
def f_pput_l0 (first : Int) (b : Int) (n : Int) : Nat → Int → (List Int) → List Int × Int
  | 0, _, _ => ([], 0)
  | m0 + 1, q, out => if q ≥ 128 then f_pput_l0 first b n m0 (q / 128) (out ++ [IntKind.u8.wrap (Sl.bor .i64 (Sl.band .i64 q 127) 128)]) else (out ++ [IntKind.u8.wrap q], 0)
def f_pput (first : Int) (b : Int) (n : Int) : List Int × Int := if ((f_prefix_full b).2) = true then if first < 0 then ([], 1) else if first > 255 then ([], 1) else if (Sl.band .i64 first ((f_prefix_full b).1)) = 0 then if n < 0 then ([], 5) else if n > 2147483647 then ([], 5) else if n < ((f_prefix_full b).1) then ([IntKind.u8.wrap (Sl.bor .i64 first n)], 0) else f_pput_l0 first b n (((n - ((f_prefix_full b).1)).toNat) + 1) (n - ((f_prefix_full b).1)) [IntKind.u8.wrap (Sl.bor .i64 first ((f_prefix_full b).1))] else ([], 1) else ([], 1)
theorem f_full_b (b : Int) : 0 ≤ (f_prefix_full b).1 ∧ (f_prefix_full b).1 ≤ 255 := by
  unfold f_prefix_full
  split
  · exact ⟨by decide, by decide⟩
  · split
    · exact ⟨by decide, by decide⟩
    · rename_i h1 h2
      have h3 : b = 1 ∨ b = 2 ∨ b = 3 ∨ b = 4 ∨ b = 5 ∨ b = 6 ∨ b = 7 ∨ b = 8 := by omega
      rcases h3 with rfl | rfl | rfl | rfl | rfl | rfl | rfl | rfl <;> exact ⟨by decide, by decide⟩
theorem s_prefix_full (b : Int) :
    Spec Tryz.prog 117 [.int .i64 b].toArray [] (fun v L => v = .tuple #[.int .i64 ((f_prefix_full b).1), .bool ((f_prefix_full b).2)] ∧ L = []) := by
  refine Spec.enter Tryz.func117 rfl Tryz.ntmps117 rfl rfl (fun w0 R0 F0 => ?_)
  refine J.seq ?_
  refine J.region ?_
  refine JL.qt (Qt.assign rfl) rfl ?_
  refine JL.qt (Qt.assign rfl) rfl ?_
  refine JL.nil ?_
  refine JN.code ?_
  refine J.seq ?_
  refine J.seq ?_
  refine J.region ?_
  refine JL.qt (Qt.move rfl) rfl ?_
  refine JL.qt (Qt.bin (fun _ => lss_run) rfl rfl rfl) rfl ?_
  refine JL.qt (Qt.move rfl) rfl ?_
  refine JL.cases_dec (t := 6) rfl (fun h1 => ?_) (fun h1 => ?_)
  · refine JL.g_outU rfl rfl rfl rfl ?_
    refine JL.g_outU rfl rfl rfl rfl ?_
    refine JL.qt (Qt.pick_t rfl rfl) rfl ?_
    refine JL.nil ?_
    refine JN.code ?_
    refine J.cond_true rfl ?_
    refine J.seq ?_
    refine J.region ?_
    refine JL.qt (Qt.assign rfl) rfl ?_
    refine JL.qt (Qt.assign rfl) rfl ?_
    refine JL.nil ?_
    refine JN.code ?_
    refine J.ret ?_
    refine JN.back (res2 rfl rfl rfl) [] rfl ?_
    exact ⟨by unfold f_prefix_full; rw [if_pos h1] <;> rfl, rfl⟩
  refine JL.g_in rfl rfl ?_
  refine JL.qt (Qt.move rfl) rfl ?_
  refine JL.g_in rfl rfl ?_
  refine JL.qt (Qt.bin (fun _ => gtr_run) rfl rfl rfl) rfl ?_
  refine JL.qt (Qt.pick_f rfl rfl) rfl ?_
  refine JL.nil ?_
  refine JN.code ?_
  refine J.cond_dec rfl (fun h2 => ?_) (fun h2 => ?_)
  · refine J.seq ?_
    refine J.region ?_
    refine JL.qt (Qt.assign rfl) rfl ?_
    refine JL.qt (Qt.assign rfl) rfl ?_
    refine JL.nil ?_
    refine JN.code ?_
    refine J.ret ?_
    refine JN.back (res2 rfl rfl rfl) [] rfl ?_
    exact ⟨by unfold f_prefix_full; rw [if_neg h1, if_pos h2] <;> rfl, rfl⟩
  refine J.skip ?_
  refine JN.code ?_
  refine J.seq ?_
  refine J.region ?_
  refine JL.qt (Qt.move rfl) rfl ?_
  refine JL.qt (Qt.conv (fun _ => convN_run Tryz.underlying3 Tryz.underlying156 (by unfold IntKind.wrap; simp [IntKind.bits, IntKind.signed]; omega)) rfl) rfl ?_
  refine JL.qt (Qt.bin (fun _ => shl_run (by omega)) rfl rfl rfl) rfl ?_
  refine JL.qt (Qt.bin (fun _ => sub_run) rfl rfl rfl) rfl ?_
  refine JL.qt (Qt.assign rfl) rfl ?_
  refine JL.qt (Qt.assign rfl) rfl ?_
  refine JL.nil ?_
  refine JN.code ?_
  refine J.ret ?_
  refine JN.back (res2 rfl rfl rfl) [] rfl ?_
  exact ⟨by unfold f_prefix_full; rw [if_neg h1, if_neg h2] <;> rfl, rfl⟩
theorem s_pput (first : Int) (b : Int) (n : Int) :
    Spec Tryz.prog 78 [.int .i64 first, .int .i64 b, .int .i64 n].toArray [] (fun v L => ∃ (A2 : Option Addr), ∃ (c2 : Nat), v = .tuple #[.slice A2 (((f_pput first b n).1).length) c2, .int .i64 ((f_pput first b n).2)] ∧ L = [row (Kd.int .u8) 5 A2 c2 ((f_pput first b n).1)]) := by
  refine Spec.enter Tryz.func78 rfl Tryz.ntmps78 rfl rfl (fun w0 R0 F0 => ?_)
  refine J.seq ?_
  refine J.region ?_
  refine JL.qt (Qt.assign rfl) rfl ?_
  refine JL.qt (Qt.assign rfl) rfl ?_
  refine JL.nil ?_
  refine JN.code ?_
  refine J.seq ?_
  refine J.region ?_
  refine JL.qt (Qt.move rfl) rfl ?_
  refine JL.call (O1.call Tryz.func117 rfl rfl rfl [] rfl (s_prefix_full b)) rfl ?_
  rintro _ _ ⟨rfl, rfl⟩
  refine JL.qt (Qt.move rfl) rfl ?_
  refine JL.qt (Qt.extract rfl rfl) rfl ?_
  refine JL.qt (Qt.extract rfl rfl) rfl ?_
  refine JL.qt (Qt.assign rfl) rfl ?_
  refine JL.qt (Qt.assign rfl) rfl ?_
  refine JL.nil ?_
  refine JN.code ?_
  refine J.seq ?_
  refine J.block ?_
  refine J.seq ?_
  refine J.region ?_
  refine JL.qt (Qt.move rfl) rfl ?_
  refine JL.qt (Qt.un (fun _ => not_run) rfl) rfl ?_
  refine JL.qt (Qt.move rfl) rfl ?_
  refine JL.cases_not (t := 19) rfl (fun h1 => ?_) (fun h1 => ?_)
  · refine JL.g_outU rfl rfl rfl rfl ?_
    refine JL.g_outU rfl rfl rfl rfl ?_
    refine JL.qt (Qt.pick_t rfl rfl) rfl ?_
    refine JL.qt (Qt.move rfl) rfl ?_
    refine JL.g_outU rfl rfl rfl rfl ?_
    refine JL.g_outU rfl rfl rfl rfl ?_
    refine JL.qt (Qt.pick_t rfl rfl) rfl ?_
    refine JL.qt (Qt.move rfl) rfl ?_
    refine JL.g_outU rfl rfl rfl rfl ?_
    refine JL.g_outU rfl rfl rfl rfl ?_
    refine JL.g_outU rfl rfl rfl rfl ?_
    refine JL.g_outU rfl rfl rfl rfl ?_
    refine JL.qt (Qt.pick_t rfl rfl) rfl ?_
    refine JL.qt (Qt.assign rfl) rfl ?_
    refine JL.nil ?_
    refine JN.code ?_
    refine J.cond_true rfl ?_
    refine J.seq ?_
    refine J.keep [0, 2, 6, 7, 8] rfl ?_
    refine J.region ?_
    refine JL.qt (Qt.assign rfl) rfl ?_
    refine JL.qt (Qt.assign rfl) rfl ?_
    refine JL.nil ?_
    refine JN.code ?_
    refine J.ret ?_
    refine JN.intro_pers (p := row (Kd.int .u8) 5 none 0 []) (fun w R => row_nil _ _ w R) ?_
    refine JN.back (res2 rfl rfl rfl) [0] rfl ?_
    exact ⟨none, 0, by unfold f_pput; rw [if_neg (Bool.eq_false_iff.1 h1)] <;> rfl, by unfold f_pput; rw [if_neg (Bool.eq_false_iff.1 h1)] <;> rfl⟩
  refine JL.g_in rfl rfl ?_
  refine JL.qt (Qt.move rfl) rfl ?_
  refine JL.g_in rfl rfl ?_
  refine JL.qt (Qt.bin (fun _ => lss_run) rfl rfl rfl) rfl ?_
  refine JL.qt (Qt.pick_f rfl rfl) rfl ?_
  refine JL.qt (Qt.move rfl) rfl ?_
  refine JL.cases_dec (t := 23) rfl (fun h2 => ?_) (fun h2 => ?_)
  · refine JL.g_outU rfl rfl rfl rfl ?_
    refine JL.g_outU rfl rfl rfl rfl ?_
    refine JL.qt (Qt.pick_t rfl rfl) rfl ?_
    refine JL.qt (Qt.move rfl) rfl ?_
    refine JL.g_outU rfl rfl rfl rfl ?_
    refine JL.g_outU rfl rfl rfl rfl ?_
    refine JL.g_outU rfl rfl rfl rfl ?_
    refine JL.g_outU rfl rfl rfl rfl ?_
    refine JL.qt (Qt.pick_t rfl rfl) rfl ?_
    refine JL.qt (Qt.assign rfl) rfl ?_
    refine JL.nil ?_
    refine JN.code ?_
    refine J.cond_true rfl ?_
    refine J.seq ?_
    refine J.keep [0, 2, 6, 7, 8] rfl ?_
    refine J.region ?_
    refine JL.qt (Qt.assign rfl) rfl ?_
    refine JL.qt (Qt.assign rfl) rfl ?_
    refine JL.nil ?_
    refine JN.code ?_
    refine J.ret ?_
    refine JN.intro_pers (p := row (Kd.int .u8) 5 none 0 []) (fun w R => row_nil _ _ w R) ?_
    refine JN.back (res2 rfl rfl rfl) [0] rfl ?_
    exact ⟨none, 0, by unfold f_pput; rw [if_pos h1, if_pos h2] <;> rfl, by unfold f_pput; rw [if_pos h1, if_pos h2] <;> rfl⟩
  refine JL.g_in rfl rfl ?_
  refine JL.qt (Qt.move rfl) rfl ?_
  refine JL.g_in rfl rfl ?_
  refine JL.qt (Qt.bin (fun _ => gtr_run) rfl rfl rfl) rfl ?_
  refine JL.qt (Qt.pick_f rfl rfl) rfl ?_
  refine JL.qt (Qt.move rfl) rfl ?_
  refine JL.cases_dec (t := 27) rfl (fun h3 => ?_) (fun h3 => ?_)
  · refine JL.g_outU rfl rfl rfl rfl ?_
    refine JL.g_outU rfl rfl rfl rfl ?_
    refine JL.g_outU rfl rfl rfl rfl ?_
    refine JL.g_outU rfl rfl rfl rfl ?_
    refine JL.qt (Qt.pick_t rfl rfl) rfl ?_
    refine JL.qt (Qt.assign rfl) rfl ?_
    refine JL.nil ?_
    refine JN.code ?_
    refine J.cond_true rfl ?_
    refine J.seq ?_
    refine J.keep [0, 2, 6, 7, 8] rfl ?_
    refine J.region ?_
    refine JL.qt (Qt.assign rfl) rfl ?_
    refine JL.qt (Qt.assign rfl) rfl ?_
    refine JL.nil ?_
    refine JN.code ?_
    refine J.ret ?_
    refine JN.intro_pers (p := row (Kd.int .u8) 5 none 0 []) (fun w R => row_nil _ _ w R) ?_
    refine JN.back (res2 rfl rfl rfl) [0] rfl ?_
    exact ⟨none, 0, by unfold f_pput; rw [if_pos h1, if_neg h2, if_pos h3] <;> rfl, by unfold f_pput; rw [if_pos h1, if_neg h2, if_pos h3] <;> rfl⟩
  refine JL.g_in rfl rfl ?_
  refine JL.qt (Qt.move rfl) rfl ?_
  refine JL.g_in rfl rfl ?_
  refine JL.qt (Qt.move rfl) rfl ?_
  refine JL.g_in rfl rfl ?_
  refine JL.qt (Qt.bin (fun _ => and_run) rfl rfl rfl) rfl ?_
  refine JL.g_in rfl rfl ?_
  refine JL.qt (Qt.bin (fun _ => neq_run) rfl rfl rfl) rfl ?_
  refine JL.qt (Qt.pick_f rfl rfl) rfl ?_
  refine JL.qt (Qt.assign rfl) rfl ?_
  refine JL.nil ?_
  refine JN.code ?_
  refine J.cond_ne rfl (fun h4 => ?_) (fun h4 => ?_)
  · refine J.seq ?_
    refine J.keep [0, 2, 6, 7, 8] rfl ?_
    refine J.region ?_
    refine JL.qt (Qt.assign rfl) rfl ?_
    refine JL.qt (Qt.assign rfl) rfl ?_
    refine JL.nil ?_
    refine JN.code ?_
    refine J.ret ?_
    refine JN.intro_pers (p := row (Kd.int .u8) 5 none 0 []) (fun w R => row_nil _ _ w R) ?_
    refine JN.back (res2 rfl rfl rfl) [0] rfl ?_
    exact ⟨none, 0, by unfold f_pput; rw [if_pos h1, if_neg h2, if_neg h3, if_neg h4] <;> rfl, by unfold f_pput; rw [if_pos h1, if_neg h2, if_neg h3, if_neg h4] <;> rfl⟩
  refine J.seq ?_
  refine J.keep [0, 2, 6, 7, 8] rfl ?_
  refine J.region ?_
  refine JL.qt (Qt.move rfl) rfl ?_
  refine JL.qt (Qt.bin (fun _ => lss_run) rfl rfl rfl) rfl ?_
  refine JL.qt (Qt.move rfl) rfl ?_
  refine JL.cases_dec (t := 36) rfl (fun h5 => ?_) (fun h5 => ?_)
  · refine JL.g_outU rfl rfl rfl rfl ?_
    refine JL.g_outU rfl rfl rfl rfl ?_
    refine JL.qt (Qt.pick_t rfl rfl) rfl ?_
    refine JL.qt (Qt.assign rfl) rfl ?_
    refine JL.nil ?_
    refine JN.code ?_
    refine J.cond_true rfl ?_
    refine J.seq ?_
    refine J.region ?_
    refine JL.qt (Qt.assign rfl) rfl ?_
    refine JL.qt (Qt.assign rfl) rfl ?_
    refine JL.nil ?_
    refine JN.code ?_
    refine J.ret ?_
    refine JN.intro_pers (p := row (Kd.int .u8) 5 none 0 []) (fun w R => row_nil _ _ w R) ?_
    refine JN.back (res2 rfl rfl rfl) [0] rfl ?_
    exact ⟨none, 0, by unfold f_pput; rw [if_pos h1, if_neg h2, if_neg h3, if_pos h4, if_pos h5] <;> rfl, by unfold f_pput; rw [if_pos h1, if_neg h2, if_neg h3, if_pos h4, if_pos h5] <;> rfl⟩
  refine JL.g_in rfl rfl ?_
  refine JL.qt (Qt.move rfl) rfl ?_
  refine JL.g_in rfl rfl ?_
  refine JL.qt (Qt.bin (fun _ => gtr_run) rfl rfl rfl) rfl ?_
  refine JL.qt (Qt.pick_f rfl rfl) rfl ?_
  refine JL.qt (Qt.assign rfl) rfl ?_
  refine JL.nil ?_
  refine JN.code ?_
  refine J.cond_dec rfl (fun h6 => ?_) (fun h6 => ?_)
  · refine J.seq ?_
    refine J.region ?_
    refine JL.qt (Qt.assign rfl) rfl ?_
    refine JL.qt (Qt.assign rfl) rfl ?_
    refine JL.nil ?_
    refine JN.code ?_
    refine J.ret ?_
    refine JN.intro_pers (p := row (Kd.int .u8) 5 none 0 []) (fun w R => row_nil _ _ w R) ?_
    refine JN.back (res2 rfl rfl rfl) [0] rfl ?_
    exact ⟨none, 0, by unfold f_pput; rw [if_pos h1, if_neg h2, if_neg h3, if_pos h4, if_neg h5, if_pos h6] <;> rfl, by unfold f_pput; rw [if_pos h1, if_neg h2, if_neg h3, if_pos h4, if_neg h5, if_pos h6] <;> rfl⟩
  refine J.seq ?_
  refine J.region ?_
  refine JL.qt (Qt.move rfl) rfl ?_
  refine JL.qt (Qt.move rfl) rfl ?_
  refine JL.qt (Qt.bin (fun _ => lss_run) rfl rfl rfl) rfl ?_
  refine JL.qt (Qt.assign rfl) rfl ?_
  refine JL.nil ?_
  refine JN.code ?_
  refine J.cond_dec rfl (fun h7 => ?_) (fun h7 => ?_)
  · refine J.seq ?_
    refine J.region ?_
    refine JL.qt (Qt.move rfl) rfl ?_
    refine JL.qt (Qt.move rfl) rfl ?_
    refine JL.qt (Qt.bin (fun _ => or_run) rfl rfl rfl) rfl ?_
    refine JL.qt (Qt.conv (fun _ => conv_run Tryz.underlying3 Tryz.underlying5) rfl) rfl ?_
    refine JL.ef (O1.bslR (D := (Kd.int .u8)) (xs := [IntKind.u8.wrap (Sl.bor .i64 first n)]) el37 ze5 rfl rfl rfl rfl rfl (fun _ _ => Elems.one_elem ⟨rfl, u8_in _⟩)) rfl ?_
    rintro _ _ ⟨b_1, rfl, rfl⟩
    refine JL.qt (Qt.assign rfl) rfl ?_
    refine JL.qt (Qt.assign rfl) rfl ?_
    refine JL.nil ?_
    refine JN.code ?_
    refine J.ret ?_
    refine JN.back (res2 rfl rfl rfl) [0] rfl ?_
    exact ⟨(some ⟨b_1, 0, none⟩), ([IntKind.u8.wrap (Sl.bor .i64 first n)].length), by unfold f_pput; rw [if_pos h1, if_neg h2, if_neg h3, if_pos h4, if_neg h5, if_neg h6, if_pos h7] <;> rfl, by unfold f_pput; rw [if_pos h1, if_neg h2, if_neg h3, if_pos h4, if_neg h5, if_neg h6, if_pos h7] <;> rfl⟩
  refine J.skip ?_
  refine JN.code ?_
  refine J.seq ?_
  refine J.region ?_
  refine JL.qt (Qt.move rfl) rfl ?_
  refine JL.qt (Qt.move rfl) rfl ?_
  refine JL.qt (Qt.bin (fun _ => or_run) rfl rfl rfl) rfl ?_
  refine JL.qt (Qt.conv (fun _ => conv_run Tryz.underlying3 Tryz.underlying5) rfl) rfl ?_
  refine JL.ef (O1.bslR (D := (Kd.int .u8)) (xs := [IntKind.u8.wrap (Sl.bor .i64 first ((f_prefix_full b).1))]) el37 ze5 rfl rfl rfl rfl rfl (fun _ _ => Elems.one_elem ⟨rfl, u8_in _⟩)) rfl ?_
  rintro _ _ ⟨b_2, rfl, rfl⟩
  refine JL.qt (Qt.assign rfl) rfl ?_
  refine JL.nil ?_
  refine JN.code ?_
  refine J.seq ?_
  have hf := f_full_b b
  refine J.region ?_
  refine JL.qt (Qt.move rfl) rfl ?_
  refine JL.qt (Qt.move rfl) rfl ?_
  refine JL.qt (Qt.bin (fun _ => subN_run rfl (by omega) (by omega)) rfl rfl rfl) rfl ?_
  refine JL.qt (Qt.assign rfl) rfl ?_
  refine JL.nil ?_
  refine JN.code ?_
  refine J.seq ?_
  refine J.block ?_
  have hT0 : f_pput first b n = f_pput_l0 first b n (((n - ((f_prefix_full b).1)).toNat) + 1) (n - ((f_prefix_full b).1)) [IntKind.u8.wrap (Sl.bor .i64 first ((f_prefix_full b).1))] := by unfold f_pput; rw [if_pos h1, if_neg h2, if_neg h3, if_pos h4, if_neg h5, if_neg h6, if_neg h7] <;> rfl
  refine J.loop5 (fun (q : Int) (out : List Int) (A : Option Addr) (c : Nat) (m0 : Nat) => [(2, .int .i64 q), (6, .slice none 0 0), (7, .int .i64 0), (10, .slice A out.length c)]) (fun (q : Int) (out : List Int) (A : Option Addr) (c : Nat) (m0 : Nat) => [row (Kd.int .u8) 5 A c out]) (fun (q : Int) (out : List Int) (A : Option Addr) (c : Nat) (m0 : Nat) => (0 ≤ q ∧ q ≤ 2147483647 ∧ out.length + q.toNat ≤ 4294967296) ∧ (q.toNat) < m0 ∧ f_pput_l0 first b n m0 q out = f_pput_l0 first b n (((n - ((f_prefix_full b).1)).toNat) + 1) (n - ((f_prefix_full b).1)) [IntKind.u8.wrap (Sl.bor .i64 first ((f_prefix_full b).1))]) (fun (q : Int) (out : List Int) (A : Option Addr) (c : Nat) (m0 : Nat) => q.toNat) (n - ((f_prefix_full b).1)) [IntKind.u8.wrap (Sl.bor .i64 first ((f_prefix_full b).1))] (some ⟨b_2, 0, none⟩) ([IntKind.u8.wrap (Sl.bor .i64 first ((f_prefix_full b).1))].length) (((n - ((f_prefix_full b).1)).toNat) + 1) ⟨⟨by omega, by omega, by simp; omega⟩, by omega, rfl⟩ ⟨rfl, rfl, rfl, rfl, trivial⟩ [0] rfl ?_
  rintro q out A c m0 ⟨⟨hq0, hq1, ho⟩, hm0, hI0⟩
  obtain ⟨m0, rfl⟩ : ∃ z, m0 = z + 1 := ⟨m0 - 1, by omega⟩
  refine J.seq ?_
  refine J.seq ?_
  refine J.region ?_
  refine JL.qt (Qt.move rfl) rfl ?_
  refine JL.qt (Qt.bin (fun _ => geq_run) rfl rfl rfl) rfl ?_
  refine JL.nil ?_
  refine JN.code ?_
  refine J.cond_dec rfl (fun h8 => ?_) (fun h8 => ?_)
  · refine J.skip ?_
    refine JN.code ?_
    refine J.block ?_
    refine J.seq ?_
    refine J.region ?_
    refine JL.qt (Qt.move rfl) rfl ?_
    refine JL.qt (Qt.move rfl) rfl ?_
    refine JL.qt (Qt.bin (fun _ => and_run) rfl rfl rfl) rfl ?_
    refine JL.qt (Qt.bin (fun _ => or_run) rfl rfl rfl) rfl ?_
    refine JL.qt (Qt.conv (fun _ => conv_run Tryz.underlying3 Tryz.underlying5) rfl) rfl ?_
    refine JL.ef (O1.bsl el37 ze5 rfl rfl rfl) rfl ?_
    rintro _ _ ⟨b_3, rfl, rfl⟩
    refine JL.ef (O1.append (D := (Kd.int .u8)) (xs := out) (ys := [IntKind.u8.wrap (Sl.bor .i64 (Sl.band .i64 q 127) 128)]) 1 el37 rfl rfl rfl rfl rfl (fun w R o s => Elems.one_elem ⟨rfl, u8_in _⟩) (by simp; omega)) rfl ?_
    rintro _ _ ⟨A_4, c_5, rfl, rfl⟩
    refine JL.qt (Qt.assign rfl) rfl ?_
    refine JL.nil ?_
    refine JN.code ?_
    refine J.region ?_
    refine JL.qt (Qt.move rfl) rfl ?_
    refine JL.qt (Qt.bin (fun _ => shr7_run) rfl rfl rfl) rfl ?_
    refine JL.qt (Qt.assign rfl) rfl ?_
    refine JL.nil ?_
    refine JN.round5 (z0 := q) (z1 := out) (z2 := A) (z3 := c) (z4 := (m0 + 1)) (q / 128) (out ++ [IntKind.u8.wrap (Sl.bor .i64 (Sl.band .i64 q 127) 128)]) A_4 c_5 m0 (by omega) ⟨⟨by omega, by omega, by simp; omega⟩, by omega, by rw [← hI0, f_pput_l0]; rw [if_pos h8] <;> rfl⟩ ⟨rfl, rfl, rfl, rfl, trivial⟩ [0] rfl
  refine J.exit ?_
  refine JN.code ?_
  refine J.seq ?_
  refine J.region ?_
  refine JL.qt (Qt.move rfl) rfl ?_
  refine JL.qt (Qt.move rfl) rfl ?_
  refine JL.qt (Qt.conv (fun _ => conv_run Tryz.underlying3 Tryz.underlying5) rfl) rfl ?_
  refine JL.ef (O1.bsl el37 ze5 rfl rfl rfl) rfl ?_
  rintro _ _ ⟨b_6, rfl, rfl⟩
  refine JL.ef (O1.append (D := (Kd.int .u8)) (xs := out) (ys := [IntKind.u8.wrap q]) 1 el37 rfl rfl rfl rfl rfl (fun w R o s => Elems.one_elem ⟨rfl, u8_in _⟩) (by simp; omega)) rfl ?_
  rintro _ _ ⟨A_7, c_8, rfl, rfl⟩
  refine JL.qt (Qt.assign rfl) rfl ?_
  refine JL.qt (Qt.assign rfl) rfl ?_
  refine JL.nil ?_
  refine JN.code ?_
  refine J.ret ?_
  refine JN.back (res2 rfl rfl rfl) [0] rfl ?_
  exact ⟨A_7, c_8, by rw [hT0, ← hI0, f_pput_l0]; rw [if_neg h8] <;> rfl, by rw [hT0, ← hI0, f_pput_l0]; rw [if_neg h8] <;> rfl⟩
end Go.Proofs.YthjbkngecgbioaaGreatDoor.Sl

/- Walks: a row of bits. -/
set_option maxRecDepth 100000
set_option linter.unusedSimpArgs false
set_option linter.unusedVariables false
namespace Go.Proofs.YthjbkngecgbioaaGreatDoor.Sl
open Go
theorem fo299_1 : fldOff Tryz.prog 299 1 = some 1 := by kernel_rfl
theorem fo299_0 : fldOff Tryz.prog 299 0 = some 0 := by kernel_rfl
theorem f_many_b {n : Int} (h : f_bitrow_many n = true) : 0 ≤ n ∧ n ≤ 32 := by
  unfold f_bitrow_many at h
  split at h
  · rename_i h1; exact ⟨h1, by simpa using h⟩
  · cases h
theorem u8_in2 (f : BitVec 8 → BitVec 8 → BitVec 8) (a b : Int) : inK .u8 (bits2 .u8 f a b) := u8_in _
def f_rput_l0 (xs : List Int) (k : Nat) (vv : Int) (n : Int) : Nat → Int → (List Int) → Nat → List Int × Nat × Int
  | 0, _, _, _ => ([], 0, 0)
  | m0 + 1, q, ys, j => if q > 0 then if ((j : Int) % 8) = 0 then if (Sl.band .i64 (Sl.shr .i64 vv (q - 1)) 1) = 0 then f_rput_l0 xs k vv n m0 (q - 1) ((ys ++ [(255 : Int)]).set (j / 8) (Sl.bandNot .u8 (((ys ++ [(255 : Int)])[j / 8]?).getD 0) (Sl.shr .u8 128 ((j : Int) % 8)))) (j + 1) else f_rput_l0 xs k vv n m0 (q - 1) (ys ++ [(255 : Int)]) (j + 1) else if (Sl.band .i64 (Sl.shr .i64 vv (q - 1)) 1) = 0 then f_rput_l0 xs k vv n m0 (q - 1) (ys.set (j / 8) (Sl.bandNot .u8 ((ys[j / 8]?).getD 0) (Sl.shr .u8 128 ((j : Int) % 8)))) (j + 1) else f_rput_l0 xs k vv n m0 (q - 1) ys (j + 1) else (ys, j, 0)
def f_rput (xs : List Int) (k : Nat) (vv : Int) (n : Int) : List Int × Nat × Int := if (f_bitrow_many n) = true then if vv < 0 then (xs, k, 5) else if vv ≥ (Sl.shl .i64 1 n) then (xs, k, 5) else f_rput_l0 xs k vv n (n.toNat + 1) n xs k else (xs, k, 1)
theorem s_rput (w : Nat) (A1 : Option Addr) (c1 : Nat) (xs : List Int) (k : Nat) (vv : Int) (n : Int) (hx : xs.length = (k + 7) / 8) (hk : k ≤ 140737488355328) :
    Spec Tryz.prog 156 [.pointer (some ⟨w, 0, none⟩), .int .i64 vv, .int .i64 n].toArray [blk w 299 [.slice A1 xs.length c1, .int .i64 (k : Int)], row (Kd.int .u8) 5 A1 c1 xs] (fun v L => ∃ (A2 : Option Addr), ∃ (c2 : Nat), v = .int .i64 ((f_rput xs k vv n).2.2) ∧ L = [blk w 299 [.slice A2 (((f_rput xs k vv n).1).length) c2, .int .i64 (((f_rput xs k vv n).2.1) : Int)], row (Kd.int .u8) 5 A2 c2 ((f_rput xs k vv n).1)]) := by
  refine Spec.enter Tryz.func156 rfl Tryz.ntmps156 rfl rfl (fun w0 R0 F0 => ?_)
  refine J.seq ?_
  refine J.region ?_
  refine JL.qt (Qt.assign rfl) rfl ?_
  refine JL.nil ?_
  refine JN.code ?_
  refine J.seq ?_
  refine J.block ?_
  refine J.seq ?_
  refine J.region ?_
  refine JL.qt (Qt.move rfl) rfl ?_
  refine JL.qt (Qt.bin (fun _ => nil_eql_run Tryz.underlying334) rfl rfl rfl) rfl ?_
  refine JL.qt (Qt.assign rfl) rfl ?_
  refine JL.nil ?_
  refine JN.code ?_
  refine J.cond_false rfl ?_
  refine J.seq ?_
  refine J.region ?_
  refine JL.qt (Qt.move rfl) rfl ?_
  refine JL.call (O1.call Tryz.func189 rfl rfl rfl [] rfl (s_bitrow_many n)) rfl ?_
  rintro _ _ ⟨rfl, rfl⟩
  refine JL.qt (Qt.un (fun _ => not_run) rfl) rfl ?_
  refine JL.qt (Qt.assign rfl) rfl ?_
  refine JL.nil ?_
  refine JN.code ?_
  refine J.cond_not rfl (fun h1 => ?_) (fun h1 => ?_)
  · refine J.seq ?_
    refine J.region ?_
    refine JL.qt (Qt.assign rfl) rfl ?_
    refine JL.nil ?_
    refine JN.code ?_
    refine J.ret ?_
    refine JN.back (res1 rfl rfl) [0, 0] rfl ?_
    exact ⟨A1, c1, by unfold f_rput; rw [if_neg (Bool.eq_false_iff.1 h1)] <;> rfl, by unfold f_rput; rw [if_neg (Bool.eq_false_iff.1 h1)] <;> rfl⟩
  have hm := f_many_b h1
  refine J.seq ?_
  refine J.region ?_
  refine JL.qt (Qt.move rfl) rfl ?_
  refine JL.qt (Qt.bin (fun _ => lss_run) rfl rfl rfl) rfl ?_
  refine JL.qt (Qt.move rfl) rfl ?_
  refine JL.cases_dec (t := 17) rfl (fun h2 => ?_) (fun h2 => ?_)
  · refine JL.g_outU rfl rfl rfl rfl ?_
    refine JL.g_outU rfl rfl rfl rfl ?_
    refine JL.g_outU rfl rfl rfl rfl ?_
    refine JL.g_outU rfl rfl rfl rfl ?_
    refine JL.g_outU rfl rfl rfl rfl ?_
    refine JL.qt (Qt.pick_t rfl rfl) rfl ?_
    refine JL.qt (Qt.assign rfl) rfl ?_
    refine JL.nil ?_
    refine JN.code ?_
    refine J.cond_true rfl ?_
    refine J.seq ?_
    refine J.region ?_
    refine JL.qt (Qt.assign rfl) rfl ?_
    refine JL.nil ?_
    refine JN.code ?_
    refine J.ret ?_
    refine JN.back (res1 rfl rfl) [0, 0] rfl ?_
    exact ⟨A1, c1, by unfold f_rput; rw [if_pos h1, if_pos h2] <;> rfl, by unfold f_rput; rw [if_pos h1, if_pos h2] <;> rfl⟩
  refine JL.g_in rfl rfl ?_
  refine JL.qt (Qt.move rfl) rfl ?_
  refine JL.g_in rfl rfl ?_
  refine JL.qt (Qt.move rfl) rfl ?_
  refine JL.g_in rfl rfl ?_
  refine JL.qt (Qt.conv (fun _ => convN_run Tryz.underlying3 Tryz.underlying156 (by unfold IntKind.wrap; simp [IntKind.bits, IntKind.signed]; omega)) rfl) rfl ?_
  refine JL.g_in rfl rfl ?_
  refine JL.qt (Qt.bin (fun _ => shl_run (by omega)) rfl rfl rfl) rfl ?_
  refine JL.g_in rfl rfl ?_
  refine JL.qt (Qt.bin (fun _ => geq_run) rfl rfl rfl) rfl ?_
  refine JL.qt (Qt.pick_f rfl rfl) rfl ?_
  refine JL.qt (Qt.assign rfl) rfl ?_
  refine JL.nil ?_
  refine JN.code ?_
  refine J.cond_dec rfl (fun h3 => ?_) (fun h3 => ?_)
  · refine J.seq ?_
    refine J.region ?_
    refine JL.qt (Qt.assign rfl) rfl ?_
    refine JL.nil ?_
    refine JN.code ?_
    refine J.ret ?_
    refine JN.back (res1 rfl rfl) [0, 0] rfl ?_
    exact ⟨A1, c1, by unfold f_rput; rw [if_pos h1, if_neg h2, if_pos h3] <;> rfl, by unfold f_rput; rw [if_pos h1, if_neg h2, if_pos h3] <;> rfl⟩
  refine J.skip ?_
  refine JN.code ?_
  refine J.seq ?_
  refine J.block ?_
  have hT0 : f_rput xs k vv n = f_rput_l0 xs k vv n (n.toNat + 1) n xs k := by unfold f_rput; rw [if_pos h1, if_neg h2, if_neg h3] <;> rfl
  refine J.loop6 (fun (q : Int) (ys : List Int) (j : Nat) (A : Option Addr) (c : Nat) (m0 : Nat) => [(0, .pointer (some ⟨w, 0, none⟩)), (1, .int .i64 vv), (2, .int .i64 q), (6, .int .i64 0)]) (fun (q : Int) (ys : List Int) (j : Nat) (A : Option Addr) (c : Nat) (m0 : Nat) => [blk w 299 [.slice A ys.length c, .int .i64 (j : Int)], row (Kd.int .u8) 5 A c ys]) (fun (q : Int) (ys : List Int) (j : Nat) (A : Option Addr) (c : Nat) (m0 : Nat) => (0 ≤ q ∧ j + q.toNat ≤ k + 32 ∧ ys.length = (j + 7) / 8) ∧ (q.toNat) < m0 ∧ f_rput_l0 xs k vv n m0 q ys j = f_rput_l0 xs k vv n (n.toNat + 1) n xs k) (fun (q : Int) (ys : List Int) (j : Nat) (A : Option Addr) (c : Nat) (m0 : Nat) => q.toNat) n xs k A1 c1 (n.toNat + 1) ⟨⟨by omega, by omega, hx⟩, by omega, rfl⟩ ⟨rfl, rfl, rfl, rfl, trivial⟩ [0, 0] rfl ?_
  rintro q ys j A c m0 ⟨⟨hq0, hq1, hy⟩, hm0, hI0⟩
  obtain ⟨m0, rfl⟩ : ∃ z, m0 = z + 1 := ⟨m0 - 1, by omega⟩
  refine J.seq ?_
  refine J.seq ?_
  refine J.region ?_
  refine JL.qt (Qt.move rfl) rfl ?_
  refine JL.qt (Qt.bin (fun _ => gtr_run) rfl rfl rfl) rfl ?_
  refine JL.nil ?_
  refine JN.code ?_
  refine J.cond_dec rfl (fun h4 => ?_) (fun h4 => ?_)
  · refine J.skip ?_
    refine JN.code ?_
    refine J.block ?_
    refine J.seq ?_
    refine J.region ?_
    refine JL.qt (Qt.move rfl) rfl ?_
    refine JL.qt (Qt.bin (fun _ => subN_run rfl (by omega) (by omega)) rfl rfl rfl) rfl ?_
    refine JL.qt (Qt.assign rfl) rfl ?_
    refine JL.nil ?_
    refine JN.code ?_
    refine J.seq ?_
    refine J.seq ?_
    refine J.region ?_
    refine JL.qt (Qt.move rfl) rfl ?_
    refine JL.qt (Qt.nck rfl) rfl ?_
    refine JL.qt (Qt.fa (o' := 1) fo299_1 rfl rfl) rfl ?_
    refine JL.qt (Qt.ld 0 pl3 rfl rfl rfl) rfl ?_
    refine JL.qt (Qt.bin (fun _ => remN_run (by omega) (by omega)) rfl rfl rfl) rfl ?_
    refine JL.qt (Qt.bin (fun _ => eql_run) rfl rfl rfl) rfl ?_
    refine JL.nil ?_
    refine JN.code ?_
    refine J.cond_eq rfl (fun h5 => ?_) (fun h5 => ?_)
    · refine J.region ?_
      refine JL.qt (Qt.move rfl) rfl ?_
      refine JL.qt (Qt.move rfl) rfl ?_
      refine JL.qt (Qt.nck rfl) rfl ?_
      refine JL.qt (Qt.fa (o' := 0) fo299_0 rfl rfl) rfl ?_
      refine JL.qt (Qt.ld 0 pl37 rfl rfl rfl) rfl ?_
      refine JL.ef (O1.bsl el37 ze5 rfl rfl rfl) rfl ?_
      rintro _ _ ⟨b_1, rfl, rfl⟩
      refine JL.ef (O1.append (D := (Kd.int .u8)) (xs := ys) (ys := [(255 : Int)]) 2 el37 rfl rfl rfl rfl rfl (fun w R o s => Elems.one_elem ⟨rfl, ⟨by decide, by decide⟩⟩) (by simp; omega)) rfl ?_
      rintro _ _ ⟨A_2, c_3, rfl, rfl⟩
      refine JL.qt (Qt.nck rfl) rfl ?_
      refine JL.qt (Qt.fa (o' := 0) fo299_0 rfl rfl) rfl ?_
      refine JL.sk (O1.st 1 sz37 rfl rfl rfl rfl rfl rfl) ?_
      refine JL.nil ?_
      refine JN.code ?_
      refine J.seq ?_
      refine J.seq ?_
      refine J.region ?_
      refine JL.qt (Qt.move rfl) rfl ?_
      refine JL.qt (Qt.move rfl) rfl ?_
      refine JL.qt (Qt.conv (fun _ => convN_run Tryz.underlying3 Tryz.underlying156 (by unfold IntKind.wrap; simp [IntKind.bits, IntKind.signed]; omega)) rfl) rfl ?_
      refine JL.qt (Qt.bin (fun _ => shr_run (by omega)) rfl rfl rfl) rfl ?_
      refine JL.qt (Qt.bin (fun _ => and_run) rfl rfl rfl) rfl ?_
      refine JL.qt (Qt.bin (fun _ => eql_run) rfl rfl rfl) rfl ?_
      refine JL.nil ?_
      refine JN.code ?_
      refine J.cond_eq rfl (fun h6 => ?_) (fun h6 => ?_)
      · refine J.keep [0, 1, 2, 6] rfl ?_
        refine J.tell 1 rfl (row_at (fun e => by have := congrArg List.length e; (try simp only [List.length_append, List.length_cons, List.length_nil] at this) <;> omega)) (fun hb_5 => ?_); obtain ⟨b_4, hb_5⟩ := hb_5; subst hb_5
        have hu := getkD (xs := (ys ++ [(255 : Int)])) (k := j / 8) 0 (by (try simp only [List.length_append, List.length_cons, List.length_nil, List.length_set]); omega)
        refine J.sch (.qt 0 (.qt 1 (.qt 2 (.qt 3 (.qt 4 (.qt 5 (.qt 6 (.qt 7 (.qt 8 (.qt 9 (.qt 10 (.qt 11 (.qt 12 (.qt 13 (.qt 14 (.qt 15 (.ef 16 [3, 7, 10] (.qt 17 (.qt 18 (.qt 19 (.ef 20 [] (.done)))))))))))))))))))))) mixed (by repeat (first | exact Xe.noLook_body | refine noLook_then ?_ | refine noLook_block ?_)) (by kernel_rfl) ?_
        refine JS.q0 rfl (Qt.move rfl) rfl ?_
        refine JS.q0 rfl (Qt.nck rfl) rfl ?_
        refine JS.q0 rfl (Qt.fa (o' := 0) fo299_0 rfl rfl) rfl ?_
        refine JS.q1 (j := 0) rfl rfl rfl (Qt.ld 0 pl37 rfl rfl rfl) rfl ?_
        refine JS.q0 rfl (Qt.move rfl) rfl ?_
        refine JS.q0 rfl (Qt.nck rfl) rfl ?_
        refine JS.q0 rfl (Qt.fa (o' := 1) fo299_1 rfl rfl) rfl ?_
        refine JS.q1 (j := 0) rfl rfl rfl (Qt.ld 0 pl3 rfl rfl rfl) rfl ?_
        refine JS.q0 rfl (Qt.bin (v := .int .i64 ((j / 8 : Nat) : Int)) (fun _ => by rw [quoN_run (by omega) (by omega)]; congr 2 <;> omega) rfl rfl rfl) rfl ?_
        refine JS.q0 rfl (Qt.ia Tryz.underlying37 sz5 rfl rfl (by omega) (by (try simp only [List.length_append, List.length_cons, List.length_nil, List.length_set]); omega)) rfl ?_
        refine JS.q1 (j := 1) rfl rfl rfl (Qt.ld_row (D := (Kd.int .u8)) (k := (j / 8)) (e := (((ys ++ [(255 : Int)])[j / 8]?).getD 0)) 0 pl5 rfl rfl hu (Nat.zero_add _) rfl (fun w R cs h => h.1)) rfl ?_
        refine JS.q0 rfl (Qt.move rfl) rfl ?_
        refine JS.q0 rfl (Qt.nck rfl) rfl ?_
        refine JS.q0 rfl (Qt.fa (o' := 1) fo299_1 rfl rfl) rfl ?_
        refine JS.q1 (j := 0) rfl rfl rfl (Qt.ld 0 pl3 rfl rfl rfl) rfl ?_
        refine JS.q0 rfl (Qt.bin (fun _ => remN_run (by omega) (by omega)) rfl rfl rfl) rfl ?_
        refine JS.e1 ?_
        refine JE.ef rfl (O1.qt (Qt.conv (fun _ => convN_run Tryz.underlying3 Tryz.underlying156 (by unfold IntKind.wrap; simp [IntKind.bits, IntKind.signed]; omega)) rfl)) rfl ?_
        rintro _ _ ⟨rfl, rfl⟩
        refine ⟨⟨.inl rfl, ⟨.inr ⟨1, _, rfl⟩, ⟨.inr ⟨0, _, rfl⟩, ⟨.inr ⟨0, _, rfl⟩, trivial⟩⟩⟩⟩, ?_⟩
        refine JS.q0 rfl (Qt.bin (fun _ => shr_run (by omega)) rfl rfl rfl) rfl ?_
        refine JS.q0 rfl (Qt.bin (fun _ => andNot_run) rfl rfl rfl) rfl ?_
        refine JS.q0 rfl (Qt.ia Tryz.underlying37 sz5 rfl rfl (by omega) (by (try simp only [List.length_append, List.length_cons, List.length_nil, List.length_set]); omega)) rfl ?_
        refine JS.e1 ?_
        refine JE.sk rfl (O1.st_row (D := (Kd.int .u8)) (k := (j / 8)) (e := (Sl.bandNot .u8 (((ys ++ [(255 : Int)])[j / 8]?).getD 0) (Sl.shr .u8 128 ((j : Int) % 8)))) 1 sz5 rfl rfl rfl rfl (Nat.zero_add _) (by (try simp only [List.length_append, List.length_cons, List.length_nil, List.length_set]); omega) rfl (fun w R => ⟨rfl, u8_in2 _ _ _⟩)) ⟨.inl rfl, ⟨.inl rfl, ⟨.inl rfl, ⟨.inl rfl, trivial⟩⟩⟩⟩ ?_
        refine JS.done ?_
        refine JN.code ?_
        refine J.region ?_
        refine JL.qt (Qt.move rfl) rfl ?_
        refine JL.qt (Qt.nck rfl) rfl ?_
        refine JL.qt (Qt.fa (o' := 1) fo299_1 rfl rfl) rfl ?_
        refine JL.qt (Qt.ld 1 pl3 rfl rfl rfl) rfl ?_
        refine JL.qt (Qt.bin (fun _ => addN_run rfl (by omega) (by omega)) rfl rfl rfl) rfl ?_
        refine JL.qt (Qt.nck rfl) rfl ?_
        refine JL.qt (Qt.fa (o' := 1) fo299_1 rfl rfl) rfl ?_
        refine JL.sk (O1.st 1 sz3 rfl rfl rfl rfl rfl rfl) ?_
        refine JL.nil ?_
        refine JN.at [blk w 299 [.slice (some ⟨b_4, 0, none⟩) (((ys ++ [(255 : Int)]).set (j / 8) (Sl.bandNot .u8 (((ys ++ [(255 : Int)])[j / 8]?).getD 0) (Sl.shr .u8 128 ((j : Int) % 8)))).length) c_3, .int .i64 ((j : Int) + 1)], row (Kd.int .u8) 5 (some ⟨b_4, 0, none⟩) c_3 ((ys ++ [(255 : Int)]).set (j / 8) (Sl.bandNot .u8 (((ys ++ [(255 : Int)])[j / 8]?).getD 0) (Sl.shr .u8 128 ((j : Int) % 8))))] (by simp only [List.length_set] <;> rfl) ?_
        refine JN.round6 (z0 := q) (z1 := ys) (z2 := j) (z3 := A) (z4 := c) (z5 := (m0 + 1)) (q - 1) ((ys ++ [(255 : Int)]).set (j / 8) (Sl.bandNot .u8 (((ys ++ [(255 : Int)])[j / 8]?).getD 0) (Sl.shr .u8 128 ((j : Int) % 8)))) (j + 1) (some ⟨b_4, 0, none⟩) c_3 m0 (by omega) ⟨⟨by omega, by omega, by (try simp only [List.length_append, List.length_cons, List.length_nil, List.length_set]); omega⟩, by omega, by rw [← hI0, f_rput_l0]; rw [if_pos h4, if_pos h5, if_pos h6] <;> rfl⟩ ⟨rfl, rfl, rfl, rfl, trivial⟩ [0, 0] rfl
      refine J.skip ?_
      refine JN.code ?_
      refine J.keep [0, 1, 2, 6] rfl ?_
      refine J.region ?_
      refine JL.qt (Qt.move rfl) rfl ?_
      refine JL.qt (Qt.nck rfl) rfl ?_
      refine JL.qt (Qt.fa (o' := 1) fo299_1 rfl rfl) rfl ?_
      refine JL.qt (Qt.ld 0 pl3 rfl rfl rfl) rfl ?_
      refine JL.qt (Qt.bin (fun _ => addN_run rfl (by omega) (by omega)) rfl rfl rfl) rfl ?_
      refine JL.qt (Qt.nck rfl) rfl ?_
      refine JL.qt (Qt.fa (o' := 1) fo299_1 rfl rfl) rfl ?_
      refine JL.sk (O1.st 0 sz3 rfl rfl rfl rfl rfl rfl) ?_
      refine JL.nil ?_
      refine JN.round6 (z0 := q) (z1 := ys) (z2 := j) (z3 := A) (z4 := c) (z5 := (m0 + 1)) (q - 1) (ys ++ [(255 : Int)]) (j + 1) A_2 c_3 m0 (by omega) ⟨⟨by omega, by omega, by (try simp only [List.length_append, List.length_cons, List.length_nil, List.length_set]); omega⟩, by omega, by rw [← hI0, f_rput_l0]; rw [if_pos h4, if_pos h5, if_neg h6] <;> rfl⟩ ⟨rfl, rfl, rfl, rfl, trivial⟩ [0, 0] rfl
    refine J.skip ?_
    refine JN.code ?_
    refine J.seq ?_
    refine J.seq ?_
    refine J.region ?_
    refine JL.qt (Qt.move rfl) rfl ?_
    refine JL.qt (Qt.move rfl) rfl ?_
    refine JL.qt (Qt.conv (fun _ => convN_run Tryz.underlying3 Tryz.underlying156 (by unfold IntKind.wrap; simp [IntKind.bits, IntKind.signed]; omega)) rfl) rfl ?_
    refine JL.qt (Qt.bin (fun _ => shr_run (by omega)) rfl rfl rfl) rfl ?_
    refine JL.qt (Qt.bin (fun _ => and_run) rfl rfl rfl) rfl ?_
    refine JL.qt (Qt.bin (fun _ => eql_run) rfl rfl rfl) rfl ?_
    refine JL.nil ?_
    refine JN.code ?_
    refine J.cond_eq rfl (fun h7 => ?_) (fun h7 => ?_)
    · refine J.tell 1 rfl (row_at (fun e => by have := congrArg List.length e; (try simp only [List.length_append, List.length_cons, List.length_nil] at this) <;> omega)) (fun hb_7 => ?_); obtain ⟨b_6, hb_7⟩ := hb_7; subst hb_7
      have hu := getkD (xs := ys) (k := j / 8) 0 (by (try simp only [List.length_append, List.length_cons, List.length_nil, List.length_set]); omega)
      refine J.sch (.qt 0 (.qt 1 (.qt 2 (.qt 3 (.qt 4 (.qt 5 (.qt 6 (.qt 7 (.qt 8 (.qt 9 (.qt 10 (.qt 11 (.qt 12 (.qt 13 (.qt 14 (.qt 15 (.ef 16 [3, 7, 10] (.qt 17 (.qt 18 (.qt 19 (.ef 20 [] (.done)))))))))))))))))))))) mixed (by repeat (first | exact Xe.noLook_body | refine noLook_then ?_ | refine noLook_block ?_)) (by kernel_rfl) ?_
      refine JS.q0 rfl (Qt.move rfl) rfl ?_
      refine JS.q0 rfl (Qt.nck rfl) rfl ?_
      refine JS.q0 rfl (Qt.fa (o' := 0) fo299_0 rfl rfl) rfl ?_
      refine JS.q1 (j := 0) rfl rfl rfl (Qt.ld 0 pl37 rfl rfl rfl) rfl ?_
      refine JS.q0 rfl (Qt.move rfl) rfl ?_
      refine JS.q0 rfl (Qt.nck rfl) rfl ?_
      refine JS.q0 rfl (Qt.fa (o' := 1) fo299_1 rfl rfl) rfl ?_
      refine JS.q1 (j := 0) rfl rfl rfl (Qt.ld 0 pl3 rfl rfl rfl) rfl ?_
      refine JS.q0 rfl (Qt.bin (v := .int .i64 ((j / 8 : Nat) : Int)) (fun _ => by rw [quoN_run (by omega) (by omega)]; congr 2 <;> omega) rfl rfl rfl) rfl ?_
      refine JS.q0 rfl (Qt.ia Tryz.underlying37 sz5 rfl rfl (by omega) (by (try simp only [List.length_append, List.length_cons, List.length_nil, List.length_set]); omega)) rfl ?_
      refine JS.q1 (j := 1) rfl rfl rfl (Qt.ld_row (D := (Kd.int .u8)) (k := (j / 8)) (e := ((ys[j / 8]?).getD 0)) 0 pl5 rfl rfl hu (Nat.zero_add _) rfl (fun w R cs h => h.1)) rfl ?_
      refine JS.q0 rfl (Qt.move rfl) rfl ?_
      refine JS.q0 rfl (Qt.nck rfl) rfl ?_
      refine JS.q0 rfl (Qt.fa (o' := 1) fo299_1 rfl rfl) rfl ?_
      refine JS.q1 (j := 0) rfl rfl rfl (Qt.ld 0 pl3 rfl rfl rfl) rfl ?_
      refine JS.q0 rfl (Qt.bin (fun _ => remN_run (by omega) (by omega)) rfl rfl rfl) rfl ?_
      refine JS.e1 ?_
      refine JE.ef rfl (O1.qt (Qt.conv (fun _ => convN_run Tryz.underlying3 Tryz.underlying156 (by unfold IntKind.wrap; simp [IntKind.bits, IntKind.signed]; omega)) rfl)) rfl ?_
      rintro _ _ ⟨rfl, rfl⟩
      refine ⟨⟨.inl rfl, ⟨.inr ⟨1, _, rfl⟩, ⟨.inr ⟨0, _, rfl⟩, ⟨.inr ⟨0, _, rfl⟩, trivial⟩⟩⟩⟩, ?_⟩
      refine JS.q0 rfl (Qt.bin (fun _ => shr_run (by omega)) rfl rfl rfl) rfl ?_
      refine JS.q0 rfl (Qt.bin (fun _ => andNot_run) rfl rfl rfl) rfl ?_
      refine JS.q0 rfl (Qt.ia Tryz.underlying37 sz5 rfl rfl (by omega) (by (try simp only [List.length_append, List.length_cons, List.length_nil, List.length_set]); omega)) rfl ?_
      refine JS.e1 ?_
      refine JE.sk rfl (O1.st_row (D := (Kd.int .u8)) (k := (j / 8)) (e := (Sl.bandNot .u8 ((ys[j / 8]?).getD 0) (Sl.shr .u8 128 ((j : Int) % 8)))) 1 sz5 rfl rfl rfl rfl (Nat.zero_add _) (by (try simp only [List.length_append, List.length_cons, List.length_nil, List.length_set]); omega) rfl (fun w R => ⟨rfl, u8_in2 _ _ _⟩)) ⟨.inl rfl, ⟨.inl rfl, ⟨.inl rfl, ⟨.inl rfl, trivial⟩⟩⟩⟩ ?_
      refine JS.done ?_
      refine JN.code ?_
      refine J.keep [0, 1, 2, 6] rfl ?_
      refine J.region ?_
      refine JL.qt (Qt.move rfl) rfl ?_
      refine JL.qt (Qt.nck rfl) rfl ?_
      refine JL.qt (Qt.fa (o' := 1) fo299_1 rfl rfl) rfl ?_
      refine JL.qt (Qt.ld 1 pl3 rfl rfl rfl) rfl ?_
      refine JL.qt (Qt.bin (fun _ => addN_run rfl (by omega) (by omega)) rfl rfl rfl) rfl ?_
      refine JL.qt (Qt.nck rfl) rfl ?_
      refine JL.qt (Qt.fa (o' := 1) fo299_1 rfl rfl) rfl ?_
      refine JL.sk (O1.st 1 sz3 rfl rfl rfl rfl rfl rfl) ?_
      refine JL.nil ?_
      refine JN.at [blk w 299 [.slice (some ⟨b_6, 0, none⟩) ((ys.set (j / 8) (Sl.bandNot .u8 ((ys[j / 8]?).getD 0) (Sl.shr .u8 128 ((j : Int) % 8)))).length) c, .int .i64 ((j : Int) + 1)], row (Kd.int .u8) 5 (some ⟨b_6, 0, none⟩) c (ys.set (j / 8) (Sl.bandNot .u8 ((ys[j / 8]?).getD 0) (Sl.shr .u8 128 ((j : Int) % 8))))] (by simp only [List.length_set] <;> rfl) ?_
      refine JN.round6 (z0 := q) (z1 := ys) (z2 := j) (z3 := (some ⟨b_6, 0, none⟩)) (z4 := c) (z5 := (m0 + 1)) (q - 1) (ys.set (j / 8) (Sl.bandNot .u8 ((ys[j / 8]?).getD 0) (Sl.shr .u8 128 ((j : Int) % 8)))) (j + 1) (some ⟨b_6, 0, none⟩) c m0 (by omega) ⟨⟨by omega, by omega, by (try simp only [List.length_append, List.length_cons, List.length_nil, List.length_set]); omega⟩, by omega, by rw [← hI0, f_rput_l0]; rw [if_pos h4, if_neg h5, if_pos h7] <;> rfl⟩ ⟨rfl, rfl, rfl, rfl, trivial⟩ [0, 0] rfl
    refine J.skip ?_
    refine JN.code ?_
    refine J.region ?_
    refine JL.qt (Qt.move rfl) rfl ?_
    refine JL.qt (Qt.nck rfl) rfl ?_
    refine JL.qt (Qt.fa (o' := 1) fo299_1 rfl rfl) rfl ?_
    refine JL.qt (Qt.ld 0 pl3 rfl rfl rfl) rfl ?_
    refine JL.qt (Qt.bin (fun _ => addN_run rfl (by omega) (by omega)) rfl rfl rfl) rfl ?_
    refine JL.qt (Qt.nck rfl) rfl ?_
    refine JL.qt (Qt.fa (o' := 1) fo299_1 rfl rfl) rfl ?_
    refine JL.sk (O1.st 0 sz3 rfl rfl rfl rfl rfl rfl) ?_
    refine JL.nil ?_
    refine JN.round6 (z0 := q) (z1 := ys) (z2 := j) (z3 := A) (z4 := c) (z5 := (m0 + 1)) (q - 1) ys (j + 1) A c m0 (by omega) ⟨⟨by omega, by omega, by (try simp only [List.length_append, List.length_cons, List.length_nil, List.length_set]); omega⟩, by omega, by rw [← hI0, f_rput_l0]; rw [if_pos h4, if_neg h5, if_neg h7] <;> rfl⟩ ⟨rfl, rfl, rfl, rfl, trivial⟩ [0, 0] rfl
  refine J.exit ?_
  refine JN.code ?_
  refine J.seq ?_
  refine J.region ?_
  refine JL.qt (Qt.assign rfl) rfl ?_
  refine JL.nil ?_
  refine JN.code ?_
  refine J.ret ?_
  refine JN.back (res1 rfl rfl) [0, 0] rfl ?_
  exact ⟨A, c, by rw [hT0, ← hI0, f_rput_l0]; rw [if_neg h4] <;> rfl, by rw [hT0, ← hI0, f_rput_l0]; rw [if_neg h4] <;> rfl⟩
theorem s_rbytes (w : Nat) (A1 : Option Addr) (c1 : Nat) (xs : List Int) (k : Nat) (hx : xs.length ≤ 1099511627776) :
    Spec Tryz.prog 158 [.pointer (some ⟨w, 0, none⟩)].toArray [blk w 299 [.slice A1 xs.length c1, .int .i64 (k : Int)], row (Kd.int .u8) 5 A1 c1 xs] (fun v L => ∃ (A2 : Option Addr), ∃ (c2 : Nat), v = .slice A2 xs.length c2 ∧ L = [rd (Kd.int .u8) A2 c2 xs]) := by
  refine Spec.enter Tryz.func158 rfl Tryz.ntmps158 rfl rfl (fun w0 R0 F0 => ?_)
  refine J.seq ?_
  refine J.region ?_
  refine JL.qt (Qt.assign rfl) rfl ?_
  refine JL.nil ?_
  refine JN.code ?_
  refine J.seq ?_
  refine J.seq ?_
  refine J.region ?_
  refine JL.qt (Qt.move rfl) rfl ?_
  refine JL.qt (Qt.bin (fun _ => nil_eql_run Tryz.underlying334) rfl rfl rfl) rfl ?_
  refine JL.nil ?_
  refine JN.code ?_
  refine J.cond_false rfl ?_
  refine J.skip ?_
  refine JN.code ?_
  refine J.seq ?_
  refine J.region ?_
  refine JL.qt (Qt.move rfl) rfl ?_
  refine JL.qt (Qt.nck rfl) rfl ?_
  refine JL.qt (Qt.fa (o' := 0) fo299_0 rfl rfl) rfl ?_
  refine JL.qt (Qt.ld 0 pl37 rfl rfl rfl) rfl ?_
  refine JL.upd [1] rfl (row_freeze hx) ?_
  refine JL.call (O1.call Tryz.func23 rfl rfl rfl [0] rfl (s_cloneB A1 c1 xs)) rfl ?_
  rintro _ _ ⟨A2_1, c2_2, rfl, rfl⟩
  refine JL.qt (Qt.assign rfl) rfl ?_
  refine JL.nil ?_
  refine JN.code ?_
  refine J.ret ?_
  refine JN.back (res1 rfl rfl) [0] rfl ?_
  exact ⟨_, _, rfl, rfl⟩
end Go.Proofs.YthjbkngecgbioaaGreatDoor.Sl

/- Walks: the book is read. -/
set_option maxRecDepth 100000
set_option linter.unusedSimpArgs false
set_option linter.unusedVariables false
namespace Go.Proofs.YthjbkngecgbioaaGreatDoor.Sl
open Go
theorem fo333_0 : fldOff Tryz.prog 333 0 = some 0 := by kernel_rfl
theorem fo333_1 : fldOff Tryz.prog 333 1 = some 1 := by kernel_rfl
def lenS : ByteArray := ByteArray.mk #[73, 83, 88, 88, 88, 88, 88, 88, 88, 84, 90, 88, 88, 90, 88, 88, 88, 88, 88, 88, 88, 88, 90, 88, 88, 88, 88, 88, 88, 88, 88, 88, 66, 70, 70, 72, 73, 66, 68, 71, 70, 70, 68, 71, 68, 66, 66, 66, 65, 65, 65, 66, 66, 66, 66, 66, 66, 66, 67, 68, 75, 66, 72, 70, 73, 66, 67, 67, 67, 67, 67, 67, 67, 67, 67, 67, 67, 67, 67, 67, 67, 67, 67, 67, 67, 67, 67, 67, 68, 67, 68, 73, 79, 73, 74, 66, 75, 65, 66, 65, 66, 65, 66, 66, 66, 65, 67, 67, 66, 66, 66, 65, 66, 67, 66, 65, 65, 66, 67, 67, 67, 67, 67, 75, 71, 74, 73, 88, 80, 82, 80, 80, 82, 82, 82, 83, 82, 83, 83, 83, 83, 83, 84, 83, 84, 84, 82, 83, 84, 83, 83, 83, 83, 81, 82, 83, 82, 83, 83, 84, 82, 81, 80, 82, 82, 83, 83, 81, 83, 82, 82, 84, 81, 82, 83, 83, 81, 81, 82, 81, 83, 82, 83, 83, 80, 82, 82, 82, 83, 82, 82, 83, 86, 86, 80, 79, 82, 83, 82, 85, 86, 86, 86, 87, 87, 86, 84, 85, 79, 81, 86, 87, 87, 86, 87, 84, 81, 81, 86, 86, 88, 87, 87, 87, 80, 84, 80, 81, 82, 81, 81, 83, 82, 82, 85, 85, 84, 84, 86, 83, 86, 87, 86, 86, 87, 87, 87, 87, 87, 88, 87, 87, 87, 87, 87, 86, 90]
theorem lenS_size : lenS.size = 257 := by kernel_rfl
def f_size (n : Int) : Int := IntKind.i64.wrap ((IntKind.i64.wrap (IntKind.u8.wrap ((byteAt lenS n) - 65))) + 5)
theorem f_size_all : (List.range 257).all (fun i => decide (0 ≤ f_size (i : Int) ∧ f_size (i : Int) ≤ 30)) = true := by kernel_rfl
theorem f_size_b {n : Int} (h0 : 0 ≤ n) (h1 : n ≤ 256) : 0 ≤ f_size n ∧ f_size n ≤ 30 := by
  have := List.all_eq_true.1 f_size_all n.toNat (List.mem_range.2 (by omega))
  rw [Int.toNat_of_nonneg h0] at this
  exact of_decide_eq_true this
def f_bhas (n : Int) : Bool := if n ≥ 0 then (decide (n ≤ 256)) else false
def f_bcode (codes : List Int) (n : Int) : Int × Int := if (f_bhas n) = true then (codes.getD n.toNat 0, f_size n) else (0, 0)
theorem s_size (n : Int) (h0 : 0 ≤ n) (h1 : n ≤ 256) :
    Spec Tryz.prog 188 [.int .i64 n].toArray [] (fun v L => v = .int .i64 (f_size n) ∧ L = []) := by
  refine Spec.enter Tryz.func188 rfl Tryz.ntmps188 rfl rfl (fun w0 R0 F0 => ?_)
  refine J.seq ?_
  refine J.region ?_
  refine JL.qt (Qt.assign rfl) rfl ?_
  refine JL.nil ?_
  refine JN.code ?_
  refine J.seq ?_
  refine J.region ?_
  refine JL.qt (Qt.move rfl) rfl ?_
  refine JL.qt (Qt.idx_str Tryz.underlying9 (by omega) (by have := lenS_size; show n < ((lenS.size : Nat) : Int); omega) rfl rfl) rfl ?_
  refine JL.qt (Qt.bin (fun _ => sub_run) rfl rfl rfl) rfl ?_
  refine JL.qt (Qt.conv (fun _ => conv_run Tryz.underlying5 Tryz.underlying3) rfl) rfl ?_
  refine JL.qt (Qt.bin (fun _ => add_run) rfl rfl rfl) rfl ?_
  refine JL.qt (Qt.assign rfl) rfl ?_
  refine JL.nil ?_
  refine JN.code ?_
  refine J.ret ?_
  refine JN.back (res1 rfl rfl) [] rfl ?_
  exact ⟨rfl, rfl⟩
theorem s_bhas (p : Nat) (codes : List Int) (fi : List Int) (co : List Int) (ba : List Int) (A1 : Option Addr) (m : Nat) (c1 : Nat) (n : Int) :
    Spec Tryz.prog 190 [.pointer (some ⟨p, 0, none⟩), .int .i64 n].toArray [blk p 333 (bookC codes fi co ba A1 m c1)] (fun v L => v = .bool (f_bhas n) ∧ L = [blk p 333 (bookC codes fi co ba A1 m c1)]) := by
  refine Spec.enter Tryz.func190 rfl Tryz.ntmps190 rfl rfl (fun w0 R0 F0 => ?_)
  refine J.seq ?_
  refine J.region ?_
  refine JL.qt (Qt.assign rfl) rfl ?_
  refine JL.nil ?_
  refine JN.code ?_
  refine J.seq ?_
  refine J.region ?_
  refine JL.qt (Qt.move rfl) rfl ?_
  refine JL.qt (Qt.bin (fun _ => nil_neq_run Tryz.underlying296) rfl rfl rfl) rfl ?_
  refine JL.qt (Qt.move rfl) rfl ?_
  refine JL.g_in rfl rfl ?_
  refine JL.qt (Qt.move rfl) rfl ?_
  refine JL.g_in rfl rfl ?_
  refine JL.qt (Qt.nck rfl) rfl ?_
  refine JL.g_in rfl rfl ?_
  refine JL.qt (Qt.fa (o' := 0) fo333_0 rfl rfl) rfl ?_
  refine JL.g_in rfl rfl ?_
  refine JL.qt (Qt.ld 0 pl4 rfl rfl rfl) rfl ?_
  refine JL.qt (Qt.pick_t rfl rfl) rfl ?_
  refine JL.qt (Qt.move rfl) rfl ?_
  refine JL.g_in rfl rfl ?_
  refine JL.qt (Qt.move rfl) rfl ?_
  refine JL.g_in rfl rfl ?_
  refine JL.qt (Qt.bin (fun _ => geq_run) rfl rfl rfl) rfl ?_
  refine JL.qt (Qt.pick_t rfl rfl) rfl ?_
  refine JL.qt (Qt.move rfl) rfl ?_
  refine JL.cases_dec (t := 17) rfl (fun h1 => ?_) (fun h1 => ?_)
  · refine JL.g_in rfl rfl ?_
    refine JL.qt (Qt.move rfl) rfl ?_
    refine JL.g_in rfl rfl ?_
    refine JL.qt (Qt.bin (fun _ => leq_run) rfl rfl rfl) rfl ?_
    refine JL.qt (Qt.pick_t rfl rfl) rfl ?_
    refine JL.qt (Qt.assign rfl) rfl ?_
    refine JL.nil ?_
    refine JN.code ?_
    refine J.ret ?_
    refine JN.back (res1 rfl rfl) [0] rfl ?_
    exact ⟨by unfold f_bhas; rw [if_pos h1] <;> rfl, rfl⟩
  refine JL.g_outU rfl rfl rfl rfl ?_
  refine JL.g_outU rfl rfl rfl rfl ?_
  refine JL.qt (Qt.pick_f rfl rfl) rfl ?_
  refine JL.qt (Qt.assign rfl) rfl ?_
  refine JL.nil ?_
  refine JN.code ?_
  refine J.ret ?_
  refine JN.back (res1 rfl rfl) [0] rfl ?_
  exact ⟨by unfold f_bhas; rw [if_neg h1] <;> rfl, rfl⟩
theorem s_bcode (p : Nat) (codes : List Int) (fi : List Int) (co : List Int) (ba : List Int) (A1 : Option Addr) (m : Nat) (c1 : Nat) (n : Int) (hc : codes.length = 257) (g0 : 0 ≤ n) (g1 : n ≤ 256) :
    Spec Tryz.prog 157 [.pointer (some ⟨p, 0, none⟩), .int .i64 n].toArray [blk p 333 (bookC codes fi co ba A1 m c1)] (fun v L => v = .tuple #[.int .i64 ((f_bcode codes n).1), .int .i64 ((f_bcode codes n).2)] ∧ L = [blk p 333 (bookC codes fi co ba A1 m c1)]) := by
  refine Spec.enter Tryz.func157 rfl Tryz.ntmps157 rfl rfl (fun w0 R0 F0 => ?_)
  refine J.seq ?_
  refine J.region ?_
  refine JL.qt (Qt.assign rfl) rfl ?_
  refine JL.qt (Qt.assign rfl) rfl ?_
  refine JL.nil ?_
  refine JN.code ?_
  refine J.seq ?_
  refine J.seq ?_
  refine J.region ?_
  refine JL.qt (Qt.move rfl) rfl ?_
  refine JL.qt (Qt.move rfl) rfl ?_
  refine JL.call (O1.call Tryz.func190 rfl rfl rfl [0] rfl (s_bhas p codes fi co ba A1 m c1 n)) rfl ?_
  rintro _ _ ⟨rfl, rfl⟩
  refine JL.qt (Qt.un (fun _ => not_run) rfl) rfl ?_
  refine JL.nil ?_
  refine JN.code ?_
  refine J.cond_not rfl (fun h1 => ?_) (fun h1 => ?_)
  · refine J.seq ?_
    refine J.region ?_
    refine JL.qt (Qt.assign rfl) rfl ?_
    refine JL.qt (Qt.assign rfl) rfl ?_
    refine JL.nil ?_
    refine JN.code ?_
    refine J.ret ?_
    refine JN.back (res2 rfl rfl rfl) [0] rfl ?_
    exact ⟨by unfold f_bcode; rw [if_neg (Bool.eq_false_iff.1 h1)] <;> rfl, rfl⟩
  refine J.skip ?_
  refine JN.code ?_
  refine J.seq ?_
  refine J.sch (.qt 0 (.qt 1 (.qt 2 (.qt 3 (.qt 4 (.qt 5 (.qt 6 (.ef 7 [5] (.qt 8 (.qt 9 (.done))))))))))) mixed (by repeat (first | exact Xe.noLook_body | refine noLook_then ?_ | refine noLook_block ?_)) (by kernel_rfl) ?_
  refine JS.q0 rfl (Qt.move rfl) rfl ?_
  refine JS.q0 rfl (Qt.move rfl) rfl ?_
  refine JS.q0 rfl (Qt.nck rfl) rfl ?_
  refine JS.q0 rfl (Qt.fa (o' := 1) fo333_1 rfl rfl) rfl ?_
  refine JS.q0 rfl (Qt.ia_arr Tryz.underlying330 sz3 rfl rfl (by omega) (by omega)) rfl ?_
  refine JS.q1 (j := 0) rfl rfl rfl (Qt.ld 0 pl3 rfl rfl (bookC_codes hc (by omega))) rfl ?_
  refine JS.q0 rfl (Qt.move rfl) rfl ?_
  refine JS.e1 ?_
  refine JE.ef rfl (O1.call Tryz.func188 rfl rfl rfl [] rfl (s_size n g0 g1)) rfl ?_
  rintro _ _ ⟨_, ⟨rfl, rfl⟩, rfl⟩
  refine ⟨⟨.inr ⟨0, _, rfl⟩, trivial⟩, ?_⟩
  refine JS.q0 rfl (Qt.assign rfl) rfl ?_
  refine JS.q0 rfl (Qt.assign rfl) rfl ?_
  refine JS.done ?_
  refine JN.code ?_
  refine J.ret ?_
  refine JN.back (res2 rfl rfl rfl) [0] rfl ?_
  exact ⟨by unfold f_bcode; rw [if_pos h1] <;> rfl, rfl⟩
end Go.Proofs.YthjbkngecgbioaaGreatDoor.Sl

/- Walks: the book is made. -/
set_option maxRecDepth 100000
set_option linter.unusedSimpArgs false
set_option linter.unusedVariables false
namespace Go.Proofs.YthjbkngecgbioaaGreatDoor.Sl
open Go
theorem sp333 : structPl Tryz.prog 333 = some [(0, 1), (1, 257), (258, 1), (259, 31), (290, 31), (321, 31)] := by kernel_rfl
theorem ze333 : zeroTy Tryz.prog 333 = some [.bool false, .int .i64 0, .int .i64 0, .int .i64 0, .int .i64 0, .int .i64 0, .int .i64 0, .int .i64 0, .int .i64 0, .int .i64 0, .int .i64 0, .int .i64 0, .int .i64 0, .int .i64 0, .int .i64 0, .int .i64 0, .int .i64 0, .int .i64 0, .int .i64 0, .int .i64 0, .int .i64 0, .int .i64 0, .int .i64 0, .int .i64 0, .int .i64 0, .int .i64 0, .int .i64 0, .int .i64 0, .int .i64 0, .int .i64 0, .int .i64 0, .int .i64 0, .int .i64 0, .int .i64 0, .int .i64 0, .int .i64 0, .int .i64 0, .int .i64 0, .int .i64 0, .int .i64 0, .int .i64 0, .int .i64 0, .int .i64 0, .int .i64 0, .int .i64 0, .int .i64 0, .int .i64 0, .int .i64 0, .int .i64 0, .int .i64 0, .int .i64 0, .int .i64 0, .int .i64 0, .int .i64 0, .int .i64 0, .int .i64 0, .int .i64 0, .int .i64 0, .int .i64 0, .int .i64 0, .int .i64 0, .int .i64 0, .int .i64 0, .int .i64 0, .int .i64 0, .int .i64 0, .int .i64 0, .int .i64 0, .int .i64 0, .int .i64 0, .int .i64 0, .int .i64 0, .int .i64 0, .int .i64 0, .int .i64 0, .int .i64 0, .int .i64 0, .int .i64 0, .int .i64 0, .int .i64 0, .int .i64 0, .int .i64 0, .int .i64 0, .int .i64 0, .int .i64 0, .int .i64 0, .int .i64 0, .int .i64 0, .int .i64 0, .int .i64 0, .int .i64 0, .int .i64 0, .int .i64 0, .int .i64 0, .int .i64 0, .int .i64 0, .int .i64 0, .int .i64 0, .int .i64 0, .int .i64 0, .int .i64 0, .int .i64 0, .int .i64 0, .int .i64 0, .int .i64 0, .int .i64 0, .int .i64 0, .int .i64 0, .int .i64 0, .int .i64 0, .int .i64 0, .int .i64 0, .int .i64 0, .int .i64 0, .int .i64 0, .int .i64 0, .int .i64 0, .int .i64 0, .int .i64 0, .int .i64 0, .int .i64 0, .int .i64 0, .int .i64 0, .int .i64 0, .int .i64 0, .int .i64 0, .int .i64 0, .int .i64 0, .int .i64 0, .int .i64 0, .int .i64 0, .int .i64 0, .int .i64 0, .int .i64 0, .int .i64 0, .int .i64 0, .int .i64 0, .int .i64 0, .int .i64 0, .int .i64 0, .int .i64 0, .int .i64 0, .int .i64 0, .int .i64 0, .int .i64 0, .int .i64 0, .int .i64 0, .int .i64 0, .int .i64 0, .int .i64 0, .int .i64 0, .int .i64 0, .int .i64 0, .int .i64 0, .int .i64 0, .int .i64 0, .int .i64 0, .int .i64 0, .int .i64 0, .int .i64 0, .int .i64 0, .int .i64 0, .int .i64 0, .int .i64 0, .int .i64 0, .int .i64 0, .int .i64 0, .int .i64 0, .int .i64 0, .int .i64 0, .int .i64 0, .int .i64 0, .int .i64 0, .int .i64 0, .int .i64 0, .int .i64 0, .int .i64 0, .int .i64 0, .int .i64 0, .int .i64 0, .int .i64 0, .int .i64 0, .int .i64 0, .int .i64 0, .int .i64 0, .int .i64 0, .int .i64 0, .int .i64 0, .int .i64 0, .int .i64 0, .int .i64 0, .int .i64 0, .int .i64 0, .int .i64 0, .int .i64 0, .int .i64 0, .int .i64 0, .int .i64 0, .int .i64 0, .int .i64 0, .int .i64 0, .int .i64 0, .int .i64 0, .int .i64 0, .int .i64 0, .int .i64 0, .int .i64 0, .int .i64 0, .int .i64 0, .int .i64 0, .int .i64 0, .int .i64 0, .int .i64 0, .int .i64 0, .int .i64 0, .int .i64 0, .int .i64 0, .int .i64 0, .int .i64 0, .int .i64 0, .int .i64 0, .int .i64 0, .int .i64 0, .int .i64 0, .int .i64 0, .int .i64 0, .int .i64 0, .int .i64 0, .int .i64 0, .int .i64 0, .int .i64 0, .int .i64 0, .int .i64 0, .int .i64 0, .int .i64 0, .int .i64 0, .int .i64 0, .int .i64 0, .int .i64 0, .int .i64 0, .int .i64 0, .int .i64 0, .int .i64 0, .int .i64 0, .int .i64 0, .int .i64 0, .int .i64 0, .int .i64 0, .int .i64 0, .int .i64 0, .int .i64 0, .int .i64 0, .int .i64 0, .int .i64 0, .int .i64 0, .int .i64 0, .int .i64 0, .int .i64 0, .slice none 0 0, .int .i64 0, .int .i64 0, .int .i64 0, .int .i64 0, .int .i64 0, .int .i64 0, .int .i64 0, .int .i64 0, .int .i64 0, .int .i64 0, .int .i64 0, .int .i64 0, .int .i64 0, .int .i64 0, .int .i64 0, .int .i64 0, .int .i64 0, .int .i64 0, .int .i64 0, .int .i64 0, .int .i64 0, .int .i64 0, .int .i64 0, .int .i64 0, .int .i64 0, .int .i64 0, .int .i64 0, .int .i64 0, .int .i64 0, .int .i64 0, .int .i64 0, .int .i64 0, .int .i64 0, .int .i64 0, .int .i64 0, .int .i64 0, .int .i64 0, .int .i64 0, .int .i64 0, .int .i64 0, .int .i64 0, .int .i64 0, .int .i64 0, .int .i64 0, .int .i64 0, .int .i64 0, .int .i64 0, .int .i64 0, .int .i64 0, .int .i64 0, .int .i64 0, .int .i64 0, .int .i64 0, .int .i64 0, .int .i64 0, .int .i64 0, .int .i64 0, .int .i64 0, .int .i64 0, .int .i64 0, .int .i64 0, .int .i64 0, .int .i64 0, .int .i64 0, .int .i64 0, .int .i64 0, .int .i64 0, .int .i64 0, .int .i64 0, .int .i64 0, .int .i64 0, .int .i64 0, .int .i64 0, .int .i64 0, .int .i64 0, .int .i64 0, .int .i64 0, .int .i64 0, .int .i64 0, .int .i64 0, .int .i64 0, .int .i64 0, .int .i64 0, .int .i64 0, .int .i64 0, .int .i64 0, .int .i64 0, .int .i64 0, .int .i64 0, .int .i64 0, .int .i64 0, .int .i64 0, .int .i64 0] := by kernel_rfl
theorem fo333_4 : fldOff Tryz.prog 333 4 = some 290 := by kernel_rfl
theorem fo333_3 : fldOff Tryz.prog 333 3 = some 259 := by kernel_rfl
theorem pl26 : plainTy Tryz.prog 26 = true := by kernel_rfl
theorem fo333_2 : fldOff Tryz.prog 333 2 = some 258 := by kernel_rfl
theorem fo333_5 : fldOff Tryz.prog 333 5 = some 321 := by kernel_rfl
theorem el26 : elTy Tryz.prog 26 3 1 8 = true := by kernel_rfl
theorem ze3 : zeroTy Tryz.prog 3 = some [.int .i64 0] := by kernel_rfl
theorem sz26 : szTy Tryz.prog 26 = some 1 := by kernel_rfl
def f_cbIn (n : Nat) : Nat → Nat → Int → List Int → Int × List Int
  | 0, _, code, codes => (code, codes)
  | m + 1, s, code, codes => if f_size (s : Int) = (n : Int) then f_cbIn n m (s + 1) (IntKind.i64.wrap (code + 1)) (codes.set ((s : Int).toNat) code) else f_cbIn n m (s + 1) code codes
def f_cbOut : Nat → Nat → Int → List Int → List Int
  | 0, _, _, codes => codes
  | m + 1, n, code, codes => f_cbOut m (n + 1) (f_cbIn n 257 0 (Sl.shl .i64 code 1) codes).1 (f_cbIn n 257 0 (Sl.shl .i64 code 1) codes).2
def mkCodes : List Int := f_cbOut 30 1 0 (List.replicate 257 0)
theorem f_cbIn_len (n : Nat) : ∀ (m s : Nat) (code : Int) (codes : List Int), (f_cbIn n m s code codes).2.length = codes.length
  | 0, _, _, _ => rfl
  | m + 1, s, code, codes => by
    rw [f_cbIn]
    split
    · rw [f_cbIn_len n m]; simp
    · exact f_cbIn_len n m _ _ _
theorem f_cbOut_len : ∀ (m n : Nat) (code : Int) (codes : List Int), (f_cbOut m n code codes).length = codes.length
  | 0, _, _, _ => rfl
  | m + 1, n, code, codes => by rw [f_cbOut, f_cbOut_len m, f_cbIn_len]
theorem mkCodes_len : mkCodes.length = 257 := by rw [mkCodes, f_cbOut_len]; exact List.length_replicate
theorem s_make :
    Spec Tryz.prog 155 [].toArray [] (fun v L => ∃ (q : Nat), ∃ (fi : List Int), ∃ (co : List Int), ∃ (ba : List Int), ∃ (A2 : Option Addr), ∃ (m : Nat), ∃ (c2 : Nat), v = .pointer (some ⟨q, 0, none⟩) ∧ L = [blk q 333 (bookC mkCodes fi co ba A2 m c2)]) := by
  refine Spec.enter Tryz.func155 rfl Tryz.ntmps155 rfl rfl (fun w0 R0 F0 => ?_)
  refine J.seq ?_
  refine J.region ?_
  refine JL.qt (Qt.assign rfl) rfl ?_
  refine JL.nil ?_
  refine JN.code ?_
  refine J.seq ?_
  refine J.region ?_
  refine JL.qt (Qt.build sp333 ze333 rfl rfl) rfl ?_
  refine JL.ef (O1.box rfl rfl) rfl ?_
  rintro _ _ ⟨b_1, rfl, rfl⟩
  refine JL.qt (Qt.assign rfl) rfl ?_
  refine JL.nil ?_
  refine JN.code ?_
  refine J.seq ?_
  refine J.seq ?_
  refine J.at [blk b_1 333 (bookC (List.replicate 257 0) (List.replicate 31 0) (List.replicate 31 0) (List.replicate 31 0) none 0 0)] rfl ?_
  refine J.region ?_
  refine JL.qt (Qt.move rfl) rfl ?_
  refine JL.nil ?_
  refine JN.code ?_
  refine J.block ?_
  refine J.loop2 (fun (i : Nat) (co : List Int) => [(0, .pointer none), (1, .pointer (some ⟨b_1, 0, none⟩)), (8, .int .i64 (i : Int))]) (fun (i : Nat) (co : List Int) => [blk b_1 333 (bookC (List.replicate 257 0) (List.replicate 31 0) co (List.replicate 31 0) none 0 0)]) (fun (i : Nat) (co : List Int) => i ≤ 257 ∧ co.length = 31) (fun (i : Nat) (co : List Int) => 257 - i) 0 (List.replicate 31 0) ⟨Nat.zero_le _, List.length_replicate⟩ ⟨rfl, rfl, rfl, trivial⟩ [0] rfl ?_
  rintro i co ⟨hi, hco⟩
  refine J.seq ?_
  refine J.region ?_
  refine JL.qt (Qt.bin (fun _ => lss_run) rfl rfl rfl) rfl ?_
  refine JL.nil ?_
  refine JN.code ?_
  refine J.seq ?_
  refine J.cond_dec rfl (fun h1 => ?_) (fun h1 => ?_)
  · refine J.skip ?_
    refine JN.code ?_
    refine J.seq ?_
    refine J.block ?_
    refine J.seq ?_
    refine J.region ?_
    refine JL.qt (Qt.move rfl) rfl ?_
    refine JL.qt (Qt.assign rfl) rfl ?_
    refine JL.nil ?_
    refine JN.code ?_
    have hz := f_size_b (n := (i : Int)) (by omega) (by omega)
    refine J.sch (.qt 0 (.qt 1 (.qt 3 (.qt 4 (.qt 8 (.qt 9 (.ef 2 [] (.qt 5 (.qt 6 (.qt 7 (.qt 10 (.ef 11 [] (.done))))))))))))) mixed (by repeat (first | exact Xe.noLook_body | refine noLook_then ?_ | refine noLook_block ?_)) (by kernel_rfl) ?_
    refine JS.q0 rfl (Qt.move rfl) rfl ?_
    refine JS.q0 rfl (Qt.move rfl) rfl ?_
    refine JS.q0 rfl (Qt.nck rfl) rfl ?_
    refine JS.q0 rfl (Qt.fa (o' := 290) fo333_4 rfl rfl) rfl ?_
    refine JS.q0 rfl (Qt.nck rfl) rfl ?_
    refine JS.q0 rfl (Qt.fa (o' := 290) fo333_4 rfl rfl) rfl ?_
    refine JS.e1 ?_
    refine JE.ef rfl (O1.call Tryz.func188 rfl rfl rfl [] rfl (s_size (i : Int) (by omega) (by omega))) rfl ?_
    rintro _ _ ⟨_, ⟨rfl, rfl⟩, rfl⟩
    refine ⟨trivial, ?_⟩
    refine JS.q0 rfl (Qt.ia_arr Tryz.underlying331 sz3 rfl rfl (by omega) (by omega)) rfl ?_
    refine JS.q1 (j := 0) rfl rfl rfl (Qt.ld 0 pl3 rfl rfl (bookC_count List.length_replicate List.length_replicate hco (by omega))) rfl ?_
    refine JS.q0 rfl (Qt.bin (fun _ => add_run) rfl rfl rfl) rfl ?_
    refine JS.q0 rfl (Qt.ia_arr Tryz.underlying331 sz3 rfl rfl (by omega) (by omega)) rfl ?_
    refine JS.e1 ?_
    refine JE.sk rfl (O1.st 0 sz3 rfl rfl rfl rfl (blt_of (by rw [bookC_len List.length_replicate List.length_replicate hco List.length_replicate]; omega)) (bookC_setcount List.length_replicate List.length_replicate hco (by omega))) ⟨.inl rfl, trivial⟩ ?_
    refine JS.done ?_
    refine JN.code ?_
    refine J.region ?_
    refine JL.qt (Qt.bin (fun _ => addN_run rfl (by omega) (by omega)) rfl rfl rfl) rfl ?_
    refine JL.qt (Qt.move rfl) rfl ?_
    refine JL.nil ?_
    refine JN.round2 (z0 := i) (z1 := co) (i + 1) (co.set (f_size (i : Int)).toNat (IntKind.i64.wrap ((co.getD (f_size (i : Int)).toNat 0) + 1))) (by omega) ⟨by omega, by simpa using hco⟩ ⟨rfl, rfl, rfl, trivial⟩ [0] rfl
  refine J.exit ?_
  refine JN.code ?_
  refine J.seq ?_
  refine J.region ?_
  refine JL.qt (Qt.assign rfl) rfl ?_
  refine JL.nil ?_
  refine JN.code ?_
  refine J.seq ?_
  refine J.seq ?_
  refine J.region ?_
  refine JL.qt (Qt.assign rfl) rfl ?_
  refine JL.nil ?_
  refine JN.code ?_
  refine J.block ?_
  refine J.intro_pers (p := row (Kd.int .i64) 3 none 0 []) (fun w R => row_nil _ _ w R) ?_
  refine J.loop8 (fun (n : Nat) (code : Int) (codes : List Int) (fi : List Int) (ba : List Int) (ord : List Int) (A : Option Addr) (c : Nat) => [(0, .pointer none), (1, .pointer (some ⟨b_1, 0, none⟩)), (3, .int .i64 code), (4, .int .i64 (n : Int))]) (fun (n : Nat) (code : Int) (codes : List Int) (fi : List Int) (ba : List Int) (ord : List Int) (A : Option Addr) (c : Nat) => [blk b_1 333 (bookC codes fi co ba A ord.length c), row (Kd.int .i64) 3 A c ord]) (fun (n : Nat) (code : Int) (codes : List Int) (fi : List Int) (ba : List Int) (ord : List Int) (A : Option Addr) (c : Nat) => 1 ≤ n ∧ n ≤ 31 ∧ codes.length = 257 ∧ fi.length = 31 ∧ ba.length = 31 ∧ ord.length ≤ 257 * n ∧ f_cbOut (31 - n) n code codes = mkCodes) (fun (n : Nat) (code : Int) (codes : List Int) (fi : List Int) (ba : List Int) (ord : List Int) (A : Option Addr) (c : Nat) => 31 - n) 1 0 (List.replicate 257 0) (List.replicate 31 0) (List.replicate 31 0) [] none 0 ⟨Nat.le_refl _, by omega, List.length_replicate, List.length_replicate, List.length_replicate, Nat.zero_le _, rfl⟩ ⟨rfl, rfl, rfl, rfl, trivial⟩ [1, 0] rfl ?_
  rintro n code codes fi ba ord A c ⟨hn1, hn2, hco2, hfi, hba, ho, hI⟩
  refine J.seq ?_
  refine J.seq ?_
  refine J.region ?_
  refine JL.qt (Qt.move rfl) rfl ?_
  refine JL.qt (Qt.bin (fun _ => leq_run) rfl rfl rfl) rfl ?_
  refine JL.nil ?_
  refine JN.code ?_
  refine J.cond_dec rfl (fun h2 => ?_) (fun h2 => ?_)
  · refine J.skip ?_
    refine JN.code ?_
    refine J.seq ?_
    refine J.block ?_
    refine J.seq ?_
    refine J.region ?_
    refine JL.qt (Qt.move rfl) rfl ?_
    refine JL.qt (Qt.bin (fun _ => shl_run (by omega)) rfl rfl rfl) rfl ?_
    refine JL.qt (Qt.assign rfl) rfl ?_
    refine JL.nil ?_
    refine JN.code ?_
    refine J.seq ?_
    refine J.region ?_
    refine JL.qt (Qt.move rfl) rfl ?_
    refine JL.qt (Qt.move rfl) rfl ?_
    refine JL.qt (Qt.move rfl) rfl ?_
    refine JL.qt (Qt.nck rfl) rfl ?_
    refine JL.qt (Qt.fa (o' := 259) fo333_3 rfl rfl) rfl ?_
    refine JL.qt (Qt.ia_arr Tryz.underlying331 sz3 rfl rfl (by omega) (by omega)) rfl ?_
    refine JL.sk (O1.st 0 sz3 rfl rfl rfl rfl (blt_of (by rw [bookC_len hco2 hfi hco hba]; omega)) (bookC_setfirst hco2 hfi (by omega))) ?_
    refine JL.nil ?_
    refine JN.code ?_
    refine J.seq ?_
    refine J.sch (.qt 0 (.qt 1 (.qt 2 (.qt 3 (.qt 4 (.qt 5 (.qt 6 (.qt 7 (.qt 8 (.qt 9 (.ef 10 [] (.done)))))))))))) mixed (by repeat (first | exact Xe.noLook_body | refine noLook_then ?_ | refine noLook_block ?_)) (by kernel_rfl) ?_
    refine JS.q0 rfl (Qt.move rfl) rfl ?_
    refine JS.q0 rfl (Qt.move rfl) rfl ?_
    refine JS.q0 rfl (Qt.move rfl) rfl ?_
    refine JS.q0 rfl (Qt.nck rfl) rfl ?_
    refine JS.q0 rfl (Qt.fa (o' := 258) fo333_2 rfl rfl) rfl ?_
    refine JS.q1 (j := 0) rfl rfl rfl (Qt.ld 0 pl26 rfl rfl (bookC_order hco2)) rfl ?_
    refine JS.q0 rfl (Qt.bi (fun _ _ => len_slice_run Tryz.underlying26) rfl) rfl ?_
    refine JS.q0 rfl (Qt.nck rfl) rfl ?_
    refine JS.q0 rfl (Qt.fa (o' := 321) fo333_5 rfl rfl) rfl ?_
    refine JS.q0 rfl (Qt.ia_arr Tryz.underlying331 sz3 rfl rfl (by omega) (by omega)) rfl ?_
    refine JS.e1 ?_
    refine JE.sk rfl (O1.st 0 sz3 rfl rfl rfl rfl (blt_of (by rw [bookC_len hco2 (by simp only [List.length_set]; exact hfi) hco hba]; omega)) (bookC_setbase hco2 (by simp only [List.length_set]; exact hfi) hco hba (by omega))) ⟨.inl rfl, trivial⟩ ?_
    refine JS.done ?_
    refine JN.code ?_
    refine J.seq ?_
    refine J.region ?_
    refine JL.qt (Qt.move rfl) rfl ?_
    refine JL.nil ?_
    refine JN.code ?_
    refine J.block ?_
    refine J.loop6 (fun (s : Nat) (code2 : Int) (codes2 : List Int) (ord2 : List Int) (A3 : Option Addr) (c3 : Nat) => [(0, .pointer none), (1, .pointer (some ⟨b_1, 0, none⟩)), (3, .int .i64 code2), (4, .int .i64 (n : Int)), (45, .int .i64 (s : Int))]) (fun (s : Nat) (code2 : Int) (codes2 : List Int) (ord2 : List Int) (A3 : Option Addr) (c3 : Nat) => [blk b_1 333 (bookC codes2 (fi.set (n : Int).toNat (Sl.shl .i64 code 1)) co (ba.set (n : Int).toNat ((ord.length : Nat) : Int)) A3 ord2.length c3), row (Kd.int .i64) 3 A3 c3 ord2]) (fun (s : Nat) (code2 : Int) (codes2 : List Int) (ord2 : List Int) (A3 : Option Addr) (c3 : Nat) => s ≤ 257 ∧ codes2.length = 257 ∧ ord2.length ≤ 257 * n + s ∧ f_cbIn n (257 - s) s code2 codes2 = f_cbIn n 257 0 (Sl.shl .i64 code 1) codes) (fun (s : Nat) (code2 : Int) (codes2 : List Int) (ord2 : List Int) (A3 : Option Addr) (c3 : Nat) => 257 - s) 0 (Sl.shl .i64 code 1) codes ord A c ⟨Nat.zero_le _, hco2, by omega, rfl⟩ ⟨rfl, rfl, rfl, rfl, rfl, trivial⟩ [0, 0] rfl ?_
    rintro s code2 codes2 ord2 A3 c3 ⟨hs, hcs, ho2, hJ⟩
    refine J.seq ?_
    refine J.region ?_
    refine JL.qt (Qt.bin (fun _ => lss_run) rfl rfl rfl) rfl ?_
    refine JL.nil ?_
    refine JN.code ?_
    refine J.seq ?_
    refine J.cond_dec rfl (fun h3 => ?_) (fun h3 => ?_)
    · refine J.skip ?_
      refine JN.code ?_
      refine J.seq ?_
      refine J.block ?_
      refine J.seq ?_
      refine J.region ?_
      refine JL.qt (Qt.move rfl) rfl ?_
      refine JL.qt (Qt.assign rfl) rfl ?_
      refine JL.nil ?_
      refine JN.code ?_
      refine J.seq ?_
      refine J.region ?_
      refine JL.qt (Qt.move rfl) rfl ?_
      refine JL.call (O1.call Tryz.func188 rfl rfl rfl [] rfl (s_size (s : Int) (by omega) (by omega))) rfl ?_
      rintro _ _ ⟨rfl, rfl⟩
      refine JL.qt (Qt.move rfl) rfl ?_
      refine JL.qt (Qt.bin (fun _ => eql_run) rfl rfl rfl) rfl ?_
      refine JL.nil ?_
      refine JN.code ?_
      refine J.cond_eq rfl (fun h4 => ?_) (fun h4 => ?_)
      · refine J.seq ?_
        refine J.region ?_
        refine JL.qt (Qt.move rfl) rfl ?_
        refine JL.qt (Qt.move rfl) rfl ?_
        refine JL.qt (Qt.nck rfl) rfl ?_
        refine JL.qt (Qt.fa (o' := 258) fo333_2 rfl rfl) rfl ?_
        refine JL.qt (Qt.ld 0 pl26 rfl rfl (bookC_order hcs)) rfl ?_
        refine JL.qt (Qt.move rfl) rfl ?_
        refine JL.ef (O1.bsl el26 ze3 rfl rfl rfl) rfl ?_
        rintro _ _ ⟨b_2, rfl, rfl⟩
        refine JL.ef (O1.append (D := (Kd.int .i64)) (xs := ord2) (ys := [(s : Int)]) 2 el26 rfl rfl rfl rfl rfl (fun w R o s => Elems.one_elem ⟨rfl, ⟨by omega, by omega⟩⟩) (by omega)) rfl ?_
        rintro _ _ ⟨A_3, c_4, rfl, rfl⟩
        refine JL.qt (Qt.nck rfl) rfl ?_
        refine JL.qt (Qt.fa (o' := 258) fo333_2 rfl rfl) rfl ?_
        refine JL.sk (O1.st 1 sz26 rfl rfl rfl rfl (blt_of (by rw [bookC_len hcs (by simp only [List.length_set]; exact hfi) hco (by simp only [List.length_set]; exact hba)]; omega)) (bookC_setorder hcs)) ?_
        refine JL.nil ?_
        refine JN.code ?_
        refine J.seq ?_
        refine J.region ?_
        refine JL.qt (Qt.move rfl) rfl ?_
        refine JL.qt (Qt.move rfl) rfl ?_
        refine JL.qt (Qt.move rfl) rfl ?_
        refine JL.qt (Qt.nck rfl) rfl ?_
        refine JL.qt (Qt.fa (o' := 1) fo333_1 rfl rfl) rfl ?_
        refine JL.qt (Qt.ia_arr Tryz.underlying330 sz3 rfl rfl (by omega) (by omega)) rfl ?_
        refine JL.sk (O1.st 0 sz3 rfl rfl rfl rfl (blt_of (by rw [bookC_len hcs (by simp only [List.length_set]; exact hfi) hco (by simp only [List.length_set]; exact hba)]; omega)) (bookC_setcodes hcs (by omega))) ?_
        refine JL.nil ?_
        refine JN.code ?_
        refine J.keep [0, 1, 3, 4, 45] rfl ?_
        refine J.region ?_
        refine JL.qt (Qt.move rfl) rfl ?_
        refine JL.qt (Qt.bin (fun _ => add_run) rfl rfl rfl) rfl ?_
        refine JL.qt (Qt.assign rfl) rfl ?_
        refine JL.nil ?_
        refine JN.code ?_
        refine J.region ?_
        refine JL.qt (Qt.bin (fun _ => addN_run rfl (by omega) (by omega)) rfl rfl rfl) rfl ?_
        refine JL.qt (Qt.move rfl) rfl ?_
        refine JL.nil ?_
        refine JN.round6 (z0 := s) (z1 := code2) (z2 := codes2) (z3 := ord2) (z4 := A3) (z5 := c3) (s + 1) (IntKind.i64.wrap (code2 + 1)) (codes2.set (s : Int).toNat code2) (ord2 ++ [(s : Int)]) A_3 c_4 (by omega) ⟨by omega, by simpa using hcs, by (try simp only [List.length_append, List.length_cons, List.length_nil]); omega, by rw [← hJ, show 257 - s = (257 - (s + 1)) + 1 by omega, f_cbIn, if_pos h4]⟩ ⟨rfl, rfl, rfl, rfl, rfl, trivial⟩ [0, 0] rfl
      refine J.skip ?_
      refine JN.code ?_
      refine J.region ?_
      refine JL.qt (Qt.bin (fun _ => addN_run rfl (by omega) (by omega)) rfl rfl rfl) rfl ?_
      refine JL.qt (Qt.move rfl) rfl ?_
      refine JL.nil ?_
      refine JN.round6 (z0 := s) (z1 := code2) (z2 := codes2) (z3 := ord2) (z4 := A3) (z5 := c3) (s + 1) code2 codes2 ord2 A3 c3 (by omega) ⟨by omega, by simpa using hcs, by (try simp only [List.length_append, List.length_cons, List.length_nil]); omega, by rw [← hJ, show 257 - s = (257 - (s + 1)) + 1 by omega, f_cbIn, if_neg h4]⟩ ⟨rfl, rfl, rfl, rfl, rfl, trivial⟩ [0, 0] rfl
    have hs2 : s = 257 := by omega
    subst hs2
    have hJ2 : (code2, codes2) = f_cbIn n 257 0 (Sl.shl .i64 code 1) codes := hJ
    refine J.exit ?_
    refine JN.code ?_
    refine J.region ?_
    refine JL.qt (Qt.move rfl) rfl ?_
    refine JL.qt (Qt.bin (fun _ => addN_run rfl (by omega) (by omega)) rfl rfl rfl) rfl ?_
    refine JL.qt (Qt.assign rfl) rfl ?_
    refine JL.nil ?_
    refine JN.round8 (z0 := n) (z1 := code) (z2 := codes) (z3 := fi) (z4 := ba) (z5 := ord) (z6 := A) (z7 := c) (n + 1) code2 codes2 (fi.set (n : Int).toNat (Sl.shl .i64 code 1)) (ba.set (n : Int).toNat ((ord.length : Nat) : Int)) ord2 A3 c3 (by omega) ⟨by omega, by omega, hcs, by simpa using hfi, by simpa using hba, by omega, by rw [← hI, show 31 - n = (31 - (n + 1)) + 1 by omega, f_cbOut, ← hJ2]⟩ ⟨rfl, rfl, rfl, rfl, trivial⟩ [0, 0] rfl
  have hn : n = 31 := by omega
  subst hn
  have hI2 : codes = mkCodes := hI
  refine J.exit ?_
  refine JN.code ?_
  refine J.seq ?_
  refine J.region ?_
  refine JL.qt (Qt.move rfl) rfl ?_
  refine JL.qt (Qt.assign rfl) rfl ?_
  refine JL.nil ?_
  refine JN.code ?_
  refine J.ret ?_
  subst hI2
  refine JN.back (res1 rfl rfl) [0] rfl ?_
  exact ⟨_, _, _, _, _, _, _, rfl, rfl⟩
end Go.Proofs.YthjbkngecgbioaaGreatDoor.Sl

/- Walks: bytes are made short. -/
set_option maxRecDepth 100000
set_option linter.unusedSimpArgs false
set_option linter.unusedVariables false
namespace Go.Proofs.YthjbkngecgbioaaGreatDoor.Sl
open Go
theorem ze299 : zeroTy Tryz.prog 299 = some [.slice none 0 0, .int .i64 0] := by kernel_rfl
theorem f_rput_l0_ok (xs : List Int) (k : Nat) (vv n : Int) : ∀ (m : Nat) (q : Int) (ys : List Int) (j : Nat), 0 ≤ q → ys.length = (j + 7) / 8 → (f_rput_l0 xs k vv n m q ys j).1.length = ((f_rput_l0 xs k vv n m q ys j).2.1 + 7) / 8 ∧ (f_rput_l0 xs k vv n m q ys j).2.1 ≤ j + q.toNat
  | 0, _, _, _, _, _ => by rw [f_rput_l0]; exact ⟨rfl, Nat.zero_le _⟩
  | m + 1, q, ys, j, hq, h => by
    rw [f_rput_l0]
    repeat' split
    all_goals first
      | (dsimp only; exact ⟨h, by omega⟩)
      | (refine ⟨(f_rput_l0_ok xs k vv n m _ _ _ (by omega) ?_).1, Nat.le_trans (f_rput_l0_ok xs k vv n m _ _ _ (by omega) ?_).2 (by omega)⟩ <;> (try simp only [List.length_set, List.length_append, List.length_cons, List.length_nil]) <;> omega)
theorem f_rput_ok {xs : List Int} {k : Nat} {v n : Int} (h : xs.length = (k + 7) / 8) : (f_rput xs k v n).1.length = ((f_rput xs k v n).2.1 + 7) / 8 ∧ (f_rput xs k v n).2.1 ≤ k + 32 := by
  unfold f_rput
  repeat' split
  all_goals first
    | exact ⟨h, by dsimp only; omega⟩
    | (rename_i hm _ _
       have hb := f_many_b hm
       have := f_rput_l0_ok xs k v n (n.toNat + 1) n xs k (by omega) h
       exact ⟨this.1, by omega⟩)
    | (have hb := f_many_b (by assumption)
       have := f_rput_l0_ok xs k v n (n.toNat + 1) n xs k (by omega) h
       exact ⟨this.1, by omega⟩)
def f_huff_l0 (xs : List Int) : Nat → Nat → (List Int) → Nat → List Int
  | 0, _, _, _ => []
  | m0 + 1, i, ys, k => if (i : Int) < ((xs.length : Nat) : Int) then f_huff_l0 xs m0 (i + 1) ((f_rput ys k ((f_bcode mkCodes ((xs[i]?).getD 0)).1) ((f_bcode mkCodes ((xs[i]?).getD 0)).2)).1) ((f_rput ys k ((f_bcode mkCodes ((xs[i]?).getD 0)).1) ((f_bcode mkCodes ((xs[i]?).getD 0)).2)).2.1) else ys
def f_huff (xs : List Int) : List Int := f_huff_l0 xs ((xs.length - 0) + 1) 0 [] 0
theorem s_huff (A1 : Option Addr) (c1 : Nat) (xs : List Int) (hl : xs.length ≤ 1073741824) :
    Spec Tryz.prog 118 [.slice A1 xs.length c1].toArray [rd (Kd.int .u8) A1 c1 xs] (fun v L => ∃ (A2 : Option Addr), ∃ (c2 : Nat), v = .slice A2 ((f_huff xs).length) c2 ∧ L = [rd (Kd.int .u8) A2 c2 (f_huff xs), rd (Kd.int .u8) A1 c1 xs]) := by
  refine Spec.enter Tryz.func118 rfl Tryz.ntmps118 rfl rfl (fun w0 R0 F0 => ?_)
  refine J.seq ?_
  refine J.region ?_
  refine JL.qt (Qt.assign rfl) rfl ?_
  refine JL.nil ?_
  refine JN.code ?_
  refine J.seq ?_
  refine J.region ?_
  refine JL.call (O1.call Tryz.func155 rfl rfl rfl [] rfl s_make) rfl ?_
  rintro _ _ ⟨q_1, fi_2, co_3, ba_4, A2_5, m_6, c2_7, rfl, rfl⟩
  refine JL.qt (Qt.assign rfl) rfl ?_
  refine JL.nil ?_
  refine JN.code ?_
  refine J.seq ?_
  refine J.region ?_
  refine JL.ef (O1.alloc ze299) rfl ?_
  rintro _ _ ⟨b_8, rfl, rfl⟩
  refine JL.nil ?_
  refine JN.code ?_
  refine J.seq ?_
  refine J.seq ?_
  refine J.region ?_
  refine JL.qt (Qt.move rfl) rfl ?_
  refine JL.qt (Qt.bi (fun _ _ => len_slice_run Tryz.underlying37) rfl) rfl ?_
  refine JL.qt (Qt.move rfl) rfl ?_
  refine JL.nil ?_
  refine JN.code ?_
  refine J.block ?_
  have hT0 : f_huff xs = f_huff_l0 xs ((xs.length - 0) + 1) 0 [] 0 := by unfold f_huff; rfl
  refine J.intro_pers (p := row (Kd.int .u8) 5 none 0 []) (fun w R => row_nil _ _ w R) ?_
  refine J.loop6 (fun (i : Nat) (ys : List Int) (k : Nat) (A : Option Addr) (c : Nat) (m0 : Nat) => [(2, .slice none 0 0), (3, .pointer (some ⟨q_1, 0, none⟩)), (4, .pointer (some ⟨b_8, 0, none⟩)), (8, .slice A1 xs.length c1), (9, .int .i64 ((xs.length : Nat) : Int)), (10, .int .i64 (i : Int))]) (fun (i : Nat) (ys : List Int) (k : Nat) (A : Option Addr) (c : Nat) (m0 : Nat) => [blk b_8 299 [.slice A ys.length c, .int .i64 (k : Int)], row (Kd.int .u8) 5 A c ys, blk q_1 333 (bookC mkCodes fi_2 co_3 ba_4 A2_5 m_6 c2_7), rd (Kd.int .u8) A1 c1 xs]) (fun (i : Nat) (ys : List Int) (k : Nat) (A : Option Addr) (c : Nat) (m0 : Nat) => (i ≤ xs.length ∧ k ≤ 32 * i ∧ ys.length = (k + 7) / 8) ∧ (xs.length - i) < m0 ∧ f_huff_l0 xs m0 i ys k = f_huff_l0 xs ((xs.length - 0) + 1) 0 [] 0) (fun (i : Nat) (ys : List Int) (k : Nat) (A : Option Addr) (c : Nat) (m0 : Nat) => xs.length - i) 0 [] 0 none 0 ((xs.length - 0) + 1) ⟨⟨Nat.zero_le _, Nat.le_refl _, rfl⟩, by omega, rfl⟩ ⟨rfl, rfl, rfl, rfl, rfl, rfl, trivial⟩ [1, 0, 0, 0] rfl ?_
  rintro i ys k A c m0 ⟨⟨hi, hk, hy⟩, hm0, hI0⟩
  obtain ⟨m0, rfl⟩ : ∃ z, m0 = z + 1 := ⟨m0 - 1, by omega⟩
  refine J.seq ?_
  refine J.region ?_
  refine JL.qt (Qt.bin (fun _ => lss_run) rfl rfl rfl) rfl ?_
  refine JL.nil ?_
  refine JN.code ?_
  refine J.seq ?_
  refine J.cond_dec rfl (fun h1 => ?_) (fun h1 => ?_)
  · refine J.skip ?_
    refine JN.code ?_
    refine J.seq ?_
    refine J.block ?_
    refine J.seq ?_
    have hu := getkD (xs := xs) (k := i) 0 (by omega)
    refine J.elem (k := i) (u := ((xs[i]?).getD 0)) 3 rfl hu (fun b_9 o_10 cs_11 hA_12 => ?_); subst hA_12
    refine J.unf0 1 rfl unInt ?_; rintro ⟨rfl, e_13⟩
    refine J.region ?_
    refine JL.qt (Qt.ia Tryz.underlying37 sz5 rfl rfl (by omega) (by omega)) rfl ?_
    refine JL.qt (Qt.ld_ro (j := 0) 0 pl5 rfl rfl rfl rfl) rfl ?_
    refine JL.qt (Qt.assign rfl) rfl ?_
    refine JL.nil ?_
    refine JN.code ?_
    refine J.region ?_
    refine JL.qt (Qt.move rfl) rfl ?_
    refine JL.qt (Qt.move rfl) rfl ?_
    have hx0 : 0 ≤ ((xs[i]?).getD 0) ∧ ((xs[i]?).getD 0) ≤ 255 := e_13
    refine JL.qt (Qt.conv (fun _ => convN_run Tryz.underlying5 Tryz.underlying3 (by unfold IntKind.wrap; simp [IntKind.bits, IntKind.signed]; omega)) rfl) rfl ?_
    refine JL.call (O1.call Tryz.func157 rfl rfl rfl [3] rfl (s_bcode q_1 mkCodes fi_2 co_3 ba_4 A2_5 m_6 c2_7 _ mkCodes_len (by omega) (by omega))) rfl ?_
    rintro _ _ ⟨rfl, rfl⟩
    refine JL.qt (Qt.extract rfl rfl) rfl ?_
    refine JL.qt (Qt.extract rfl rfl) rfl ?_
    refine JL.call (O1.call Tryz.func156 rfl rfl rfl [2, 2] rfl (s_rput b_8 A c ys k _ _ hy (by omega))) rfl ?_
    rintro _ _ ⟨A2_14, c2_15, rfl, rfl⟩
    refine JL.nil ?_
    refine JN.code ?_
    refine J.region ?_
    refine JL.qt (Qt.bin (fun _ => addN_run rfl (by omega) (by omega)) rfl rfl rfl) rfl ?_
    refine JL.qt (Qt.move rfl) rfl ?_
    refine JL.nil ?_
    refine JN.round6 (z0 := i) (z1 := ys) (z2 := k) (z3 := A) (z4 := c) (z5 := (m0 + 1)) (i + 1) ((f_rput ys k ((f_bcode mkCodes ((xs[i]?).getD 0)).1) ((f_bcode mkCodes ((xs[i]?).getD 0)).2)).1) ((f_rput ys k ((f_bcode mkCodes ((xs[i]?).getD 0)).1) ((f_bcode mkCodes ((xs[i]?).getD 0)).2)).2.1) A2_14 c2_15 m0 (by omega) ⟨⟨by omega, by have := f_rput_ok (v := ((f_bcode mkCodes ((xs[i]?).getD 0)).1)) (n := ((f_bcode mkCodes ((xs[i]?).getD 0)).2)) hy; omega, (f_rput_ok hy).1⟩, by omega, by rw [← hI0, f_huff_l0]; rw [if_pos h1] <;> rfl⟩ ⟨rfl, rfl, rfl, rfl, rfl, rfl, trivial⟩ [0, 0, 0, 1] rfl
  refine J.exit ?_
  refine JN.code ?_
  refine J.seq ?_
  refine J.region ?_
  refine JL.call (O1.call Tryz.func158 rfl rfl rfl [0, 0] rfl (s_rbytes b_8 A c ys k (by omega))) rfl ?_
  rintro _ _ ⟨A2_16, c2_17, rfl, rfl⟩
  refine JL.qt (Qt.assign rfl) rfl ?_
  refine JL.nil ?_
  refine JN.code ?_
  refine J.ret ?_
  refine JN.back (res1 rfl rfl) [0, 1] rfl ?_
  exact ⟨A2_16, c2_17, by rw [hT0, ← hI0, f_huff_l0]; rw [if_neg h1] <;> rfl, by rw [hT0, ← hI0, f_huff_l0]; rw [if_neg h1] <;> rfl⟩
end Go.Proofs.YthjbkngecgbioaaGreatDoor.Sl

/- Walks: a representation is written. -/
set_option maxRecDepth 100000
set_option linter.unusedSimpArgs false
set_option linter.unusedVariables false
namespace Go.Proofs.YthjbkngecgbioaaGreatDoor.Sl
open Go
theorem fo143_4 : fldOff Tryz.prog 143 4 = some 6 := by kernel_rfl
theorem ag141 : aggTy Tryz.prog 141 = true := by kernel_rfl
theorem fo143_3 : fldOff Tryz.prog 143 3 = some 4 := by kernel_rfl
theorem sz181 : szTy Tryz.prog 181 = some 2 := by kernel_rfl
theorem fo181_0 : fldOff Tryz.prog 181 0 = some 0 := by kernel_rfl
theorem fo181_1 : fldOff Tryz.prog 181 1 = some 1 := by kernel_rfl
theorem fo141_0 : fldOff Tryz.prog 141 0 = some 0 := by kernel_rfl
theorem fo141_1 : fldOff Tryz.prog 141 1 = some 1 := by kernel_rfl
theorem q141_eql {a0 b0 : ByteArray} {a1 b1 : Bool} {x y : Operand} (w : World) : (do eqGuard .eql 141 x y (.agg #[.string a0, .bool a1]) (.agg #[.string b0, .bool b1]); binOp .eql 141 (.agg #[.string a0, .bool a1]) (.agg #[.string b0, .bool b1]) : Sem Value).run Tryz.prog w = .ok (.bool ((a0.toList == b0.toList) && ((a1 == b1)))) w := aggEq_eql Tryz.underlying141 (by kernel_rfl) (by kernel_rfl) (eqf_cons rfl (Xe.run_part pl9 rfl) (Xe.run_part pl9 rfl) (run_equalIn_string w _ _ _ _ Tryz.underlying9) (eqf_last rfl (Xe.run_part pl4 rfl) (Xe.run_part pl4 rfl) (run_equalIn_bool' w _ _ _ _ Tryz.underlying4)))
theorem q141_neq {a0 b0 : ByteArray} {a1 b1 : Bool} {x y : Operand} (w : World) : (do eqGuard .neq 141 x y (.agg #[.string a0, .bool a1]) (.agg #[.string b0, .bool b1]); binOp .neq 141 (.agg #[.string a0, .bool a1]) (.agg #[.string b0, .bool b1]) : Sem Value).run Tryz.prog w = .ok (.bool (!((a0.toList == b0.toList) && ((a1 == b1))))) w := aggEq_neq Tryz.underlying141 (by kernel_rfl) (by kernel_rfl) (eqf_cons rfl (Xe.run_part pl9 rfl) (Xe.run_part pl9 rfl) (run_equalIn_string w _ _ _ _ Tryz.underlying9) (eqf_last rfl (Xe.run_part pl4 rfl) (Xe.run_part pl4 rfl) (run_equalIn_bool' w _ _ _ _ Tryz.underlying4)))
theorem f_pput_l0_len (first b n : Int) : ∀ (j m : Nat) (q : Int) (out : List Int), q < 128 ^ (j + 1) → (f_pput_l0 first b n m q out).1.length ≤ out.length + (j + 1)
  | _, 0, _, _, _ => by rw [f_pput_l0]; exact Nat.zero_le _
  | 0, m + 1, q, out, h => by
    rw [f_pput_l0, if_neg (by simp at h; omega)]
    simp
  | j + 1, m + 1, q, out, h => by
    rw [f_pput_l0]
    split
    · have h2 : q / 128 < 128 ^ (j + 1) := Int.ediv_lt_of_lt_mul (by decide) (by rw [Int.pow_succ] at h; exact h)
      have := f_pput_l0_len first b n j m (q / 128) (out ++ [IntKind.u8.wrap (Sl.bor .i64 (Sl.band .i64 q 127) 128)]) h2
      simp only [List.length_append, List.length_cons, List.length_nil] at this
      omega
    · simp
theorem f_pput_len (first b n : Int) : (f_pput first b n).1.length ≤ 6 := by
  unfold f_pput
  repeat' split
  all_goals first
    | exact Nat.zero_le _
    | (have := f_pput_l0_len first b n 4 ((n - (f_prefix_full b).1).toNat + 1) (n - (f_prefix_full b).1) [IntKind.u8.wrap (Sl.bor .i64 first (f_prefix_full b).1)] (by have := f_full_b b; show _ < (34359738368 : Int); omega)
       simp only [List.length_cons, List.length_nil] at this
       omega)
    | simp
theorem f_huff_l0_len (xs : List Int) : ∀ (m i : Nat) (ys : List Int) (k : Nat), i + m = xs.length + 1 → k ≤ 32 * i → ys.length = (k + 7) / 8 → (f_huff_l0 xs m i ys k).length ≤ 4 * xs.length + 4
  | 0, _, _, _, _, _, _ => by rw [f_huff_l0]; exact Nat.zero_le _
  | m + 1, i, ys, k, h1, h2, h3 => by
    rw [f_huff_l0]
    split
    · have h4 := f_rput_ok (v := (f_bcode mkCodes ((xs[i]?).getD 0)).1) (n := (f_bcode mkCodes ((xs[i]?).getD 0)).2) h3
      exact f_huff_l0_len xs m _ _ _ (by omega) (by omega) h4.1
    · omega
theorem f_huff_len (xs : List Int) : (f_huff xs).length ≤ 4 * xs.length + 4 := f_huff_l0_len xs _ 0 [] 0 (by omega) (Nat.le_refl _) rfl
def formL : List Int := [0, 0, 128, 7, 64, 6, 0, 4, 16, 4, 32, 5]
theorem formL_at {k : Nat} (h : k < 12) : [(Value.int .i64 0), .int .i64 0, .int .i64 128, .int .i64 7, .int .i64 64, .int .i64 6, .int .i64 0, .int .i64 4, .int .i64 16, .int .i64 4, .int .i64 32, .int .i64 5][k]? = some (.int .i64 (formL.getD k 0)) := by
  have := app_at (l := formL) (r := []) (k := k) h
  rw [List.append_nil] at this
  exact this
def f_strlit (s : ByteArray) (sh : Bool) : List Int := if sh = true then (((f_pput 128 7 (((f_huff (bytesOf s)).length : Nat) : Int)).1) ++ (f_huff (bytesOf s))) else (((f_pput 0 7 (((bytesOf s).length : Nat) : Int)).1) ++ (bytesOf s))
def f_rright (r : ReprRepr) : Bool := if r.Kind < 1 then false else if r.Kind > 5 then false else if (f_repr_within r.Index) = true then if (f_repr_within r.Size) = true then if r.Kind = 5 then if r.Index = 0 then if ((r.Name.S.toList == (ByteArray.mk #[]).toList) && ((r.Name.Short == false))) = true then ((r.Value.S.toList == (ByteArray.mk #[]).toList) && ((r.Value.Short == false))) else false else false else if r.Size = 0 then if r.Kind = 1 then if r.Index > 0 then if ((r.Name.S.toList == (ByteArray.mk #[]).toList) && ((r.Name.Short == false))) = true then ((r.Value.S.toList == (ByteArray.mk #[]).toList) && ((r.Value.Short == false))) else false else false else if r.Index = 0 then true else ((r.Name.S.toList == (ByteArray.mk #[]).toList) && ((r.Name.Short == false))) else false else false else false
def f_reprPut (r : ReprRepr) : List Int × Int := if (f_rright r) = true then if r.Kind = 5 then if ((f_pput (formL.getD (r.Kind.toNat * 2 + 0) 0) (formL.getD (r.Kind.toNat * 2 + 1) 0) r.Size).2) = 0 then if (f_repr_texts r.Kind) = true then if r.Index = 0 then ((((f_pput (formL.getD (r.Kind.toNat * 2 + 0) 0) (formL.getD (r.Kind.toNat * 2 + 1) 0) r.Size).1) ++ (f_strlit r.Name.S r.Name.Short)) ++ (f_strlit r.Value.S r.Value.Short), 0) else (((f_pput (formL.getD (r.Kind.toNat * 2 + 0) 0) (formL.getD (r.Kind.toNat * 2 + 1) 0) r.Size).1) ++ (f_strlit r.Value.S r.Value.Short), 0) else ((f_pput (formL.getD (r.Kind.toNat * 2 + 0) 0) (formL.getD (r.Kind.toNat * 2 + 1) 0) r.Size).1, (f_pput (formL.getD (r.Kind.toNat * 2 + 0) 0) (formL.getD (r.Kind.toNat * 2 + 1) 0) r.Size).2) else ((f_pput (formL.getD (r.Kind.toNat * 2 + 0) 0) (formL.getD (r.Kind.toNat * 2 + 1) 0) r.Size).1, (f_pput (formL.getD (r.Kind.toNat * 2 + 0) 0) (formL.getD (r.Kind.toNat * 2 + 1) 0) r.Size).2) else if ((f_pput (formL.getD (r.Kind.toNat * 2 + 0) 0) (formL.getD (r.Kind.toNat * 2 + 1) 0) r.Index).2) = 0 then if (f_repr_texts r.Kind) = true then if r.Index = 0 then ((((f_pput (formL.getD (r.Kind.toNat * 2 + 0) 0) (formL.getD (r.Kind.toNat * 2 + 1) 0) r.Index).1) ++ (f_strlit r.Name.S r.Name.Short)) ++ (f_strlit r.Value.S r.Value.Short), 0) else (((f_pput (formL.getD (r.Kind.toNat * 2 + 0) 0) (formL.getD (r.Kind.toNat * 2 + 1) 0) r.Index).1) ++ (f_strlit r.Value.S r.Value.Short), 0) else ((f_pput (formL.getD (r.Kind.toNat * 2 + 0) 0) (formL.getD (r.Kind.toNat * 2 + 1) 0) r.Index).1, (f_pput (formL.getD (r.Kind.toNat * 2 + 0) 0) (formL.getD (r.Kind.toNat * 2 + 1) 0) r.Index).2) else ((f_pput (formL.getD (r.Kind.toNat * 2 + 0) 0) (formL.getD (r.Kind.toNat * 2 + 1) 0) r.Index).1, (f_pput (formL.getD (r.Kind.toNat * 2 + 0) 0) (formL.getD (r.Kind.toNat * 2 + 1) 0) r.Index).2) else ([], 1)
theorem f_strlit_len (s : ByteArray) (sh : Bool) : (f_strlit s sh).length ≤ 4 * s.size + 10 := by
  unfold f_strlit
  have h1 := bytesOf_length s
  have h2 := f_huff_len (bytesOf s)
  split
  · have := f_pput_len 128 7 (((f_huff (bytesOf s)).length : Nat) : Int)
    simp only [List.length_append]
    omega
  · have := f_pput_len 0 7 (((bytesOf s).length : Nat) : Int)
    simp only [List.length_append]
    omega
theorem f_rright_kind {r : ReprRepr} (h : f_rright r = true) : 1 ≤ r.Kind ∧ r.Kind ≤ 5 := by
  unfold f_rright at h
  split at h
  · cases h
  · split at h
    · cases h
    · omega
theorem s_strlit (s : ByteArray) (sh : Bool) (hs : s.size ≤ 134217728) :
    Spec Tryz.prog 80 [.string s, .bool sh].toArray [] (fun v L => ∃ (A2 : Option Addr), ∃ (c2 : Nat), v = .slice A2 ((f_strlit s sh).length) c2 ∧ L = [row (Kd.int .u8) 5 A2 c2 (f_strlit s sh)]) := by
  refine Spec.enter Tryz.func80 rfl Tryz.ntmps80 rfl rfl (fun w0 R0 F0 => ?_)
  refine J.seq ?_
  refine J.region ?_
  refine JL.qt (Qt.assign rfl) rfl ?_
  refine JL.nil ?_
  refine JN.code ?_
  refine J.seq ?_
  refine J.region ?_
  refine JL.qt (Qt.move rfl) rfl ?_
  refine JL.ef (O1.toBytes Tryz.underlying9 Tryz.underlying37 Tryz.underlying5 rfl (by show _ ≤ 1099511627776; omega)) rfl ?_
  rintro _ _ ⟨A_1, c_2, rfl, rfl⟩
  refine JL.qt (Qt.assign rfl) rfl ?_
  refine JL.nil ?_
  refine JN.code ?_
  refine J.seq ?_
  refine J.region ?_
  refine JL.qt (Qt.assign rfl) rfl ?_
  refine JL.nil ?_
  refine JN.code ?_
  refine J.seq ?_
  refine J.seq ?_
  refine J.region ?_
  refine JL.qt (Qt.move rfl) rfl ?_
  refine JL.nil ?_
  refine JN.code ?_
  refine J.cond rfl (fun h1 => ?_) (fun h1 => ?_)
  · refine J.seq ?_
    refine J.region ?_
    refine JL.qt (Qt.move rfl) rfl ?_
    refine JL.call (O1.call Tryz.func118 rfl rfl rfl [0] rfl (s_huff A_1 c_2 (bytesOf s) (by rw [bytesOf_length]; omega))) rfl ?_
    rintro _ _ ⟨A2_3, c2_4, rfl, rfl⟩
    refine JL.qt (Qt.assign rfl) rfl ?_
    refine JL.nil ?_
    refine JN.code ?_
    refine J.region ?_
    refine JL.qt (Qt.assign rfl) rfl ?_
    refine JL.nil ?_
    refine JN.code ?_
    refine J.seq ?_
    refine J.region ?_
    refine JL.qt (Qt.move rfl) rfl ?_
    refine JL.qt (Qt.move rfl) rfl ?_
    refine JL.qt (Qt.bi (fun _ _ => len_slice_run Tryz.underlying37) rfl) rfl ?_
    refine JL.call (O1.call Tryz.func78 rfl rfl rfl [] rfl (s_pput 128 7 (((f_huff (bytesOf s)).length : Nat) : Int))) rfl ?_
    rintro _ _ ⟨A2_5, c2_6, rfl, rfl⟩
    refine JL.qt (Qt.move rfl) rfl ?_
    refine JL.qt (Qt.extract rfl rfl) rfl ?_
    refine JL.qt (Qt.extract rfl rfl) rfl ?_
    refine JL.qt (Qt.assign rfl) rfl ?_
    refine JL.qt (Qt.assign rfl) rfl ?_
    refine JL.nil ?_
    refine JN.code ?_
    refine J.seq ?_
    refine J.region ?_
    refine JL.qt (Qt.move rfl) rfl ?_
    refine JL.qt (Qt.move rfl) rfl ?_
    refine JL.ef (O1.appendRd (D := (Kd.int .u8)) (xs := ((f_pput 128 7 (((f_huff (bytesOf s)).length : Nat) : Int)).1)) (ys := (f_huff (bytesOf s))) 0 0 el37 rfl rfl rfl rfl (by have := bytesOf_length s; have := f_huff_len (bytesOf s); have := f_pput_len 128 7 (((f_huff (bytesOf s)).length : Nat) : Int); have := f_pput_len 0 7 (((f_huff (bytesOf s)).length : Nat) : Int); omega)) rfl ?_
    rintro _ _ ⟨A_7, c_8, rfl, rfl⟩
    refine JL.qt (Qt.assign rfl) rfl ?_
    refine JL.nil ?_
    refine JN.code ?_
    refine J.ret ?_
    refine JN.back (res1 rfl rfl) [0] rfl ?_
    exact ⟨A_7, c_8, by unfold f_strlit; rw [if_pos h1] <;> rfl, by unfold f_strlit; rw [if_pos h1] <;> rfl⟩
  refine J.skip ?_
  refine JN.code ?_
  refine J.seq ?_
  refine J.region ?_
  refine JL.qt (Qt.move rfl) rfl ?_
  refine JL.qt (Qt.move rfl) rfl ?_
  refine JL.qt (Qt.bi (fun _ _ => len_slice_run Tryz.underlying37) rfl) rfl ?_
  refine JL.call (O1.call Tryz.func78 rfl rfl rfl [] rfl (s_pput 0 7 (((bytesOf s).length : Nat) : Int))) rfl ?_
  rintro _ _ ⟨A2_9, c2_10, rfl, rfl⟩
  refine JL.qt (Qt.move rfl) rfl ?_
  refine JL.qt (Qt.extract rfl rfl) rfl ?_
  refine JL.qt (Qt.extract rfl rfl) rfl ?_
  refine JL.qt (Qt.assign rfl) rfl ?_
  refine JL.qt (Qt.assign rfl) rfl ?_
  refine JL.nil ?_
  refine JN.code ?_
  refine J.seq ?_
  refine J.region ?_
  refine JL.qt (Qt.move rfl) rfl ?_
  refine JL.qt (Qt.move rfl) rfl ?_
  refine JL.ef (O1.appendRd (D := (Kd.int .u8)) (xs := ((f_pput 0 7 (((bytesOf s).length : Nat) : Int)).1)) (ys := (bytesOf s)) 0 0 el37 rfl rfl rfl rfl (by have := bytesOf_length s; have := f_huff_len (bytesOf s); have := f_pput_len 128 7 (((bytesOf s).length : Nat) : Int); have := f_pput_len 0 7 (((bytesOf s).length : Nat) : Int); omega)) rfl ?_
  rintro _ _ ⟨A_11, c_12, rfl, rfl⟩
  refine JL.qt (Qt.assign rfl) rfl ?_
  refine JL.nil ?_
  refine JN.code ?_
  refine J.ret ?_
  refine JN.back (res1 rfl rfl) [0] rfl ?_
  exact ⟨A_11, c_12, by unfold f_strlit; rw [if_neg (Bool.eq_false_iff.1 h1)] <;> rfl, by unfold f_strlit; rw [if_neg (Bool.eq_false_iff.1 h1)] <;> rfl⟩
theorem s_rright (r : ReprRepr) :
    Spec Tryz.prog 77 [.agg #[.int .i64 r.Kind, .int .i64 r.Index, .string r.Name.S, .bool r.Name.Short, .string r.Value.S, .bool r.Value.Short, .int .i64 r.Size]].toArray [] (fun v L => v = .bool (f_rright r) ∧ L = []) := by
  refine Spec.enter Tryz.func77 rfl Tryz.ntmps77 rfl rfl (fun w0 R0 F0 => ?_)
  refine J.seq ?_
  refine J.region ?_
  refine JL.ef (O1.box rfl rfl) rfl ?_
  rintro _ _ ⟨b_1, rfl, rfl⟩
  refine JL.qt (Qt.assign rfl) rfl ?_
  refine JL.nil ?_
  refine JN.code ?_
  refine J.seq ?_
  refine J.region ?_
  refine JL.ef (O1.alloc ze141) rfl ?_
  rintro _ _ ⟨b_2, rfl, rfl⟩
  refine JL.nil ?_
  refine JN.code ?_
  refine J.seq ?_
  refine J.seq ?_
  refine J.region ?_
  refine JL.qt (Qt.fa (o' := 0) fo143_0 rfl rfl) rfl ?_
  refine JL.qt (Qt.ld 1 pl3 rfl rfl rfl) rfl ?_
  refine JL.qt (Qt.bin (fun _ => lss_run) rfl rfl rfl) rfl ?_
  refine JL.qt (Qt.move rfl) rfl ?_
  refine JL.cases_dec (t := 7) rfl (fun h1 => ?_) (fun h1 => ?_)
  · refine JL.g_outU rfl rfl rfl rfl ?_
    refine JL.g_outU rfl rfl rfl rfl ?_
    refine JL.g_outU rfl rfl rfl rfl ?_
    refine JL.qt (Qt.pick_t rfl rfl) rfl ?_
    refine JL.qt (Qt.move rfl) rfl ?_
    refine JL.g_outU rfl rfl rfl rfl ?_
    refine JL.g_outU rfl rfl rfl rfl ?_
    refine JL.g_outU rfl rfl rfl rfl ?_
    refine JL.g_outU rfl rfl rfl rfl ?_
    refine JL.qt (Qt.pick_t rfl rfl) rfl ?_
    refine JL.qt (Qt.move rfl) rfl ?_
    refine JL.g_outU rfl rfl rfl rfl ?_
    refine JL.g_outU rfl rfl rfl rfl ?_
    refine JL.g_outU rfl rfl rfl rfl ?_
    refine JL.g_outU rfl rfl rfl rfl ?_
    refine JL.qt (Qt.pick_t rfl rfl) rfl ?_
    refine JL.nil ?_
    refine JN.code ?_
    refine J.cond_true rfl ?_
    refine J.seq ?_
    refine J.region ?_
    refine JL.qt (Qt.assign rfl) rfl ?_
    refine JL.nil ?_
    refine JN.code ?_
    refine J.ret ?_
    refine JN.back (res1 rfl rfl) [] rfl ?_
    exact ⟨by unfold f_rright; rw [if_pos h1] <;> rfl, rfl⟩
  refine JL.g_in rfl rfl ?_
  refine JL.qt (Qt.fa (o' := 0) fo143_0 rfl rfl) rfl ?_
  refine JL.g_in rfl rfl ?_
  refine JL.qt (Qt.ld 1 pl3 rfl rfl rfl) rfl ?_
  refine JL.g_in rfl rfl ?_
  refine JL.qt (Qt.bin (fun _ => gtr_run) rfl rfl rfl) rfl ?_
  refine JL.qt (Qt.pick_f rfl rfl) rfl ?_
  refine JL.qt (Qt.move rfl) rfl ?_
  refine JL.cases_dec (t := 12) rfl (fun h2 => ?_) (fun h2 => ?_)
  · refine JL.g_outU rfl rfl rfl rfl ?_
    refine JL.g_outU rfl rfl rfl rfl ?_
    refine JL.g_outU rfl rfl rfl rfl ?_
    refine JL.g_outU rfl rfl rfl rfl ?_
    refine JL.qt (Qt.pick_t rfl rfl) rfl ?_
    refine JL.qt (Qt.move rfl) rfl ?_
    refine JL.g_outU rfl rfl rfl rfl ?_
    refine JL.g_outU rfl rfl rfl rfl ?_
    refine JL.g_outU rfl rfl rfl rfl ?_
    refine JL.g_outU rfl rfl rfl rfl ?_
    refine JL.qt (Qt.pick_t rfl rfl) rfl ?_
    refine JL.nil ?_
    refine JN.code ?_
    refine J.cond_true rfl ?_
    refine J.seq ?_
    refine J.region ?_
    refine JL.qt (Qt.assign rfl) rfl ?_
    refine JL.nil ?_
    refine JN.code ?_
    refine J.ret ?_
    refine JN.back (res1 rfl rfl) [] rfl ?_
    exact ⟨by unfold f_rright; rw [if_neg h1, if_pos h2] <;> rfl, rfl⟩
  refine JL.g_in rfl rfl ?_
  refine JL.qt (Qt.fa (o' := 1) fo143_1 rfl rfl) rfl ?_
  refine JL.g_in rfl rfl ?_
  refine JL.qt (Qt.ld 1 pl3 rfl rfl rfl) rfl ?_
  refine JL.g_in rfl rfl ?_
  refine JL.call (O1.call Tryz.func116 rfl rfl rfl [] rfl (s_repr_within r.Index)) rfl ?_
  rintro _ _ ⟨rfl, rfl⟩
  refine JL.g_in rfl rfl ?_
  refine JL.qt (Qt.un (fun _ => not_run) rfl) rfl ?_
  refine JL.qt (Qt.pick_f rfl rfl) rfl ?_
  refine JL.qt (Qt.move rfl) rfl ?_
  refine JL.cases_not (t := 18) rfl (fun h3 => ?_) (fun h3 => ?_)
  · refine JL.g_outU rfl rfl rfl rfl ?_
    refine JL.g_outU rfl rfl rfl rfl ?_
    refine JL.g_outU rfl rfl rfl rfl ?_
    refine JL.g_outU rfl rfl rfl rfl ?_
    refine JL.qt (Qt.pick_t rfl rfl) rfl ?_
    refine JL.nil ?_
    refine JN.code ?_
    refine J.cond_true rfl ?_
    refine J.seq ?_
    refine J.region ?_
    refine JL.qt (Qt.assign rfl) rfl ?_
    refine JL.nil ?_
    refine JN.code ?_
    refine J.ret ?_
    refine JN.back (res1 rfl rfl) [] rfl ?_
    exact ⟨by unfold f_rright; rw [if_neg h1, if_neg h2, if_neg (Bool.eq_false_iff.1 h3)] <;> rfl, rfl⟩
  refine JL.g_in rfl rfl ?_
  refine JL.qt (Qt.fa (o' := 6) fo143_4 rfl rfl) rfl ?_
  refine JL.g_in rfl rfl ?_
  refine JL.qt (Qt.ld 1 pl3 rfl rfl rfl) rfl ?_
  refine JL.g_in rfl rfl ?_
  refine JL.call (O1.call Tryz.func116 rfl rfl rfl [] rfl (s_repr_within r.Size)) rfl ?_
  rintro _ _ ⟨rfl, rfl⟩
  refine JL.g_in rfl rfl ?_
  refine JL.qt (Qt.un (fun _ => not_run) rfl) rfl ?_
  refine JL.qt (Qt.pick_f rfl rfl) rfl ?_
  refine JL.nil ?_
  refine JN.code ?_
  refine J.cond_not rfl (fun h4 => ?_) (fun h4 => ?_)
  · refine J.seq ?_
    refine J.region ?_
    refine JL.qt (Qt.assign rfl) rfl ?_
    refine JL.nil ?_
    refine JN.code ?_
    refine J.ret ?_
    refine JN.back (res1 rfl rfl) [] rfl ?_
    exact ⟨by unfold f_rright; rw [if_neg h1, if_neg h2, if_pos h3, if_neg (Bool.eq_false_iff.1 h4)] <;> rfl, rfl⟩
  refine J.skip ?_
  refine JN.code ?_
  refine J.seq ?_
  refine J.block ?_
  refine J.seq ?_
  refine J.region ?_
  refine JL.qt (Qt.fa (o' := 0) fo143_0 rfl rfl) rfl ?_
  refine JL.qt (Qt.ld 1 pl3 rfl rfl rfl) rfl ?_
  refine JL.qt (Qt.bin (fun _ => eql_run) rfl rfl rfl) rfl ?_
  refine JL.qt (Qt.assign rfl) rfl ?_
  refine JL.nil ?_
  refine JN.code ?_
  refine J.cond_eq rfl (fun h5 => ?_) (fun h5 => ?_)
  · refine J.seq ?_
    refine J.keep [1, 2, 3] rfl ?_
    refine J.region ?_
    refine JL.qt (Qt.fa (o' := 1) fo143_1 rfl rfl) rfl ?_
    refine JL.qt (Qt.ld 1 pl3 rfl rfl rfl) rfl ?_
    refine JL.qt (Qt.bin (fun _ => eql_run) rfl rfl rfl) rfl ?_
    refine JL.qt (Qt.move rfl) rfl ?_
    refine JL.cases_eq (t := 31) rfl (fun h6 => ?_) (fun h6 => ?_)
    · refine JL.g_in rfl rfl ?_
      refine JL.qt (Qt.fa (o' := 2) fo143_2 rfl rfl) rfl ?_
      refine JL.g_in rfl rfl ?_
      refine JL.qt (Qt.ldA 1 ag141 sz141 rfl rfl rfl rfl) rfl ?_
      refine JL.g_in rfl rfl ?_
      refine JL.qt (Qt.ldA 0 ag141 sz141 rfl rfl rfl rfl) rfl ?_
      refine JL.g_in rfl rfl ?_
      refine JL.qt (Qt.binA (fun w => q141_eql w) rfl rfl) rfl ?_
      refine JL.qt (Qt.pick_t rfl rfl) rfl ?_
      refine JL.qt (Qt.move rfl) rfl ?_
      refine JL.cases (t := 37) rfl (fun h7 => ?_) (fun h7 => ?_)
      · refine JL.g_in rfl rfl ?_
        refine JL.qt (Qt.fa (o' := 4) fo143_3 rfl rfl) rfl ?_
        refine JL.g_in rfl rfl ?_
        refine JL.qt (Qt.ldA 1 ag141 sz141 rfl rfl rfl rfl) rfl ?_
        refine JL.g_in rfl rfl ?_
        refine JL.qt (Qt.ldA 0 ag141 sz141 rfl rfl rfl rfl) rfl ?_
        refine JL.g_in rfl rfl ?_
        refine JL.qt (Qt.binA (fun w => q141_eql w) rfl rfl) rfl ?_
        refine JL.qt (Qt.pick_t rfl rfl) rfl ?_
        refine JL.qt (Qt.assign rfl) rfl ?_
        refine JL.nil ?_
        refine JN.code ?_
        refine J.ret ?_
        refine JN.back (res1 rfl rfl) [] rfl ?_
        exact ⟨by unfold f_rright; rw [if_neg h1, if_neg h2, if_pos h3, if_pos h4, if_pos h5, if_pos h6, if_pos h7] <;> rfl, rfl⟩
      refine JL.g_outU rfl rfl rfl rfl ?_
      refine JL.g_outU rfl rfl rfl rfl ?_
      refine JL.g_outU rfl rfl rfl rfl ?_
      refine JL.g_outU rfl rfl rfl rfl ?_
      refine JL.qt (Qt.pick_f rfl rfl) rfl ?_
      refine JL.qt (Qt.assign rfl) rfl ?_
      refine JL.nil ?_
      refine JN.code ?_
      refine J.ret ?_
      refine JN.back (res1 rfl rfl) [] rfl ?_
      exact ⟨by unfold f_rright; rw [if_neg h1, if_neg h2, if_pos h3, if_pos h4, if_pos h5, if_pos h6, if_neg (Bool.eq_false_iff.1 h7)] <;> rfl, rfl⟩
    refine JL.g_outU rfl rfl rfl rfl ?_
    refine JL.g_outU rfl rfl rfl rfl ?_
    refine JL.g_outU rfl rfl rfl rfl ?_
    refine JL.g_outU rfl rfl rfl rfl ?_
    refine JL.qt (Qt.pick_f rfl rfl) rfl ?_
    refine JL.qt (Qt.move rfl) rfl ?_
    refine JL.g_outU rfl rfl rfl rfl ?_
    refine JL.g_outU rfl rfl rfl rfl ?_
    refine JL.g_outU rfl rfl rfl rfl ?_
    refine JL.g_outU rfl rfl rfl rfl ?_
    refine JL.qt (Qt.pick_f rfl rfl) rfl ?_
    refine JL.qt (Qt.assign rfl) rfl ?_
    refine JL.nil ?_
    refine JN.code ?_
    refine J.ret ?_
    refine JN.back (res1 rfl rfl) [] rfl ?_
    exact ⟨by unfold f_rright; rw [if_neg h1, if_neg h2, if_pos h3, if_pos h4, if_pos h5, if_neg h6] <;> rfl, rfl⟩
  refine J.seq ?_
  refine J.keep [1, 2, 3] rfl ?_
  refine J.region ?_
  refine JL.qt (Qt.fa (o' := 6) fo143_4 rfl rfl) rfl ?_
  refine JL.qt (Qt.ld 1 pl3 rfl rfl rfl) rfl ?_
  refine JL.qt (Qt.bin (fun _ => neq_run) rfl rfl rfl) rfl ?_
  refine JL.qt (Qt.assign rfl) rfl ?_
  refine JL.nil ?_
  refine JN.code ?_
  refine J.cond_ne rfl (fun h8 => ?_) (fun h8 => ?_)
  · refine J.seq ?_
    refine J.region ?_
    refine JL.qt (Qt.assign rfl) rfl ?_
    refine JL.nil ?_
    refine JN.code ?_
    refine J.ret ?_
    refine JN.back (res1 rfl rfl) [] rfl ?_
    exact ⟨by unfold f_rright; rw [if_neg h1, if_neg h2, if_pos h3, if_pos h4, if_neg h5, if_neg h8] <;> rfl, rfl⟩
  refine J.seq ?_
  refine J.region ?_
  refine JL.qt (Qt.fa (o' := 0) fo143_0 rfl rfl) rfl ?_
  refine JL.qt (Qt.ld 1 pl3 rfl rfl rfl) rfl ?_
  refine JL.qt (Qt.bin (fun _ => eql_run) rfl rfl rfl) rfl ?_
  refine JL.qt (Qt.assign rfl) rfl ?_
  refine JL.nil ?_
  refine JN.code ?_
  refine J.cond_eq rfl (fun h9 => ?_) (fun h9 => ?_)
  · refine J.seq ?_
    refine J.region ?_
    refine JL.qt (Qt.fa (o' := 1) fo143_1 rfl rfl) rfl ?_
    refine JL.qt (Qt.ld 1 pl3 rfl rfl rfl) rfl ?_
    refine JL.qt (Qt.bin (fun _ => gtr_run) rfl rfl rfl) rfl ?_
    refine JL.qt (Qt.move rfl) rfl ?_
    refine JL.cases_dec (t := 54) rfl (fun h10 => ?_) (fun h10 => ?_)
    · refine JL.g_in rfl rfl ?_
      refine JL.qt (Qt.fa (o' := 2) fo143_2 rfl rfl) rfl ?_
      refine JL.g_in rfl rfl ?_
      refine JL.qt (Qt.ldA 1 ag141 sz141 rfl rfl rfl rfl) rfl ?_
      refine JL.g_in rfl rfl ?_
      refine JL.qt (Qt.ldA 0 ag141 sz141 rfl rfl rfl rfl) rfl ?_
      refine JL.g_in rfl rfl ?_
      refine JL.qt (Qt.binA (fun w => q141_eql w) rfl rfl) rfl ?_
      refine JL.qt (Qt.pick_t rfl rfl) rfl ?_
      refine JL.qt (Qt.move rfl) rfl ?_
      refine JL.cases (t := 60) rfl (fun h11 => ?_) (fun h11 => ?_)
      · refine JL.g_in rfl rfl ?_
        refine JL.qt (Qt.fa (o' := 4) fo143_3 rfl rfl) rfl ?_
        refine JL.g_in rfl rfl ?_
        refine JL.qt (Qt.ldA 1 ag141 sz141 rfl rfl rfl rfl) rfl ?_
        refine JL.g_in rfl rfl ?_
        refine JL.qt (Qt.ldA 0 ag141 sz141 rfl rfl rfl rfl) rfl ?_
        refine JL.g_in rfl rfl ?_
        refine JL.qt (Qt.binA (fun w => q141_eql w) rfl rfl) rfl ?_
        refine JL.qt (Qt.pick_t rfl rfl) rfl ?_
        refine JL.qt (Qt.assign rfl) rfl ?_
        refine JL.nil ?_
        refine JN.code ?_
        refine J.ret ?_
        refine JN.back (res1 rfl rfl) [] rfl ?_
        exact ⟨by unfold f_rright; rw [if_neg h1, if_neg h2, if_pos h3, if_pos h4, if_neg h5, if_pos h8, if_pos h9, if_pos h10, if_pos h11] <;> rfl, rfl⟩
      refine JL.g_outU rfl rfl rfl rfl ?_
      refine JL.g_outU rfl rfl rfl rfl ?_
      refine JL.g_outU rfl rfl rfl rfl ?_
      refine JL.g_outU rfl rfl rfl rfl ?_
      refine JL.qt (Qt.pick_f rfl rfl) rfl ?_
      refine JL.qt (Qt.assign rfl) rfl ?_
      refine JL.nil ?_
      refine JN.code ?_
      refine J.ret ?_
      refine JN.back (res1 rfl rfl) [] rfl ?_
      exact ⟨by unfold f_rright; rw [if_neg h1, if_neg h2, if_pos h3, if_pos h4, if_neg h5, if_pos h8, if_pos h9, if_pos h10, if_neg (Bool.eq_false_iff.1 h11)] <;> rfl, rfl⟩
    refine JL.g_outU rfl rfl rfl rfl ?_
    refine JL.g_outU rfl rfl rfl rfl ?_
    refine JL.g_outU rfl rfl rfl rfl ?_
    refine JL.g_outU rfl rfl rfl rfl ?_
    refine JL.qt (Qt.pick_f rfl rfl) rfl ?_
    refine JL.qt (Qt.move rfl) rfl ?_
    refine JL.g_outU rfl rfl rfl rfl ?_
    refine JL.g_outU rfl rfl rfl rfl ?_
    refine JL.g_outU rfl rfl rfl rfl ?_
    refine JL.g_outU rfl rfl rfl rfl ?_
    refine JL.qt (Qt.pick_f rfl rfl) rfl ?_
    refine JL.qt (Qt.assign rfl) rfl ?_
    refine JL.nil ?_
    refine JN.code ?_
    refine J.ret ?_
    refine JN.back (res1 rfl rfl) [] rfl ?_
    exact ⟨by unfold f_rright; rw [if_neg h1, if_neg h2, if_pos h3, if_pos h4, if_neg h5, if_pos h8, if_pos h9, if_neg h10] <;> rfl, rfl⟩
  refine J.skip ?_
  refine JN.code ?_
  refine J.seq ?_
  refine J.region ?_
  refine JL.qt (Qt.fa (o' := 1) fo143_1 rfl rfl) rfl ?_
  refine JL.qt (Qt.ld 1 pl3 rfl rfl rfl) rfl ?_
  refine JL.qt (Qt.bin (fun _ => eql_run) rfl rfl rfl) rfl ?_
  refine JL.qt (Qt.move rfl) rfl ?_
  refine JL.cases_eq (t := 69) rfl (fun h12 => ?_) (fun h12 => ?_)
  · refine JL.g_outU rfl rfl rfl rfl ?_
    refine JL.g_outU rfl rfl rfl rfl ?_
    refine JL.g_outU rfl rfl rfl rfl ?_
    refine JL.g_outU rfl rfl rfl rfl ?_
    refine JL.qt (Qt.pick_t rfl rfl) rfl ?_
    refine JL.qt (Qt.assign rfl) rfl ?_
    refine JL.nil ?_
    refine JN.code ?_
    refine J.ret ?_
    refine JN.back (res1 rfl rfl) [] rfl ?_
    exact ⟨by unfold f_rright; rw [if_neg h1, if_neg h2, if_pos h3, if_pos h4, if_neg h5, if_pos h8, if_neg h9, if_pos h12] <;> rfl, rfl⟩
  refine JL.g_in rfl rfl ?_
  refine JL.qt (Qt.fa (o' := 2) fo143_2 rfl rfl) rfl ?_
  refine JL.g_in rfl rfl ?_
  refine JL.qt (Qt.ldA 1 ag141 sz141 rfl rfl rfl rfl) rfl ?_
  refine JL.g_in rfl rfl ?_
  refine JL.qt (Qt.ldA 0 ag141 sz141 rfl rfl rfl rfl) rfl ?_
  refine JL.g_in rfl rfl ?_
  refine JL.qt (Qt.binA (fun w => q141_eql w) rfl rfl) rfl ?_
  refine JL.qt (Qt.pick_f rfl rfl) rfl ?_
  refine JL.qt (Qt.assign rfl) rfl ?_
  refine JL.nil ?_
  refine JN.code ?_
  refine J.ret ?_
  refine JN.back (res1 rfl rfl) [] rfl ?_
  exact ⟨by unfold f_rright; rw [if_neg h1, if_neg h2, if_pos h3, if_pos h4, if_neg h5, if_pos h8, if_neg h9, if_neg h12] <;> rfl, rfl⟩
theorem s_reprPut (r : ReprRepr) (hs1 : r.Name.S.size ≤ 134217728) (hs2 : r.Value.S.size ≤ 134217728) :
    Spec Tryz.prog 60 [.agg #[.int .i64 r.Kind, .int .i64 r.Index, .string r.Name.S, .bool r.Name.Short, .string r.Value.S, .bool r.Value.Short, .int .i64 r.Size]].toArray [roc 0 0 [.int .i64 0, .int .i64 0, .int .i64 128, .int .i64 7, .int .i64 64, .int .i64 6, .int .i64 0, .int .i64 4, .int .i64 16, .int .i64 4, .int .i64 32, .int .i64 5]] (fun v L => ∃ (A2 : Option Addr), ∃ (c2 : Nat), v = .tuple #[.slice A2 (((f_reprPut r).1).length) c2, .int .i64 ((f_reprPut r).2)] ∧ L = [row (Kd.int .u8) 5 A2 c2 ((f_reprPut r).1), roc 0 0 [.int .i64 0, .int .i64 0, .int .i64 128, .int .i64 7, .int .i64 64, .int .i64 6, .int .i64 0, .int .i64 4, .int .i64 16, .int .i64 4, .int .i64 32, .int .i64 5]]) := by
  refine Spec.enter Tryz.func60 rfl Tryz.ntmps60 rfl rfl (fun w0 R0 F0 => ?_)
  refine J.seq ?_
  refine J.region ?_
  refine JL.ef (O1.box rfl rfl) rfl ?_
  rintro _ _ ⟨b_1, rfl, rfl⟩
  refine JL.qt (Qt.assign rfl) rfl ?_
  refine JL.qt (Qt.assign rfl) rfl ?_
  refine JL.nil ?_
  refine JN.code ?_
  refine J.seq ?_
  refine J.seq ?_
  refine J.region ?_
  refine JL.qt (Qt.ldA 0 ag143 sz143 rfl rfl rfl rfl) rfl ?_
  refine JL.call (O1.call Tryz.func77 rfl rfl rfl [] rfl (s_rright r)) rfl ?_
  rintro _ _ ⟨rfl, rfl⟩
  refine JL.qt (Qt.un (fun _ => not_run) rfl) rfl ?_
  refine JL.nil ?_
  refine JN.code ?_
  refine J.cond_not rfl (fun h1 => ?_) (fun h1 => ?_)
  · refine J.seq ?_
    refine J.region ?_
    refine JL.qt (Qt.assign rfl) rfl ?_
    refine JL.qt (Qt.assign rfl) rfl ?_
    refine JL.nil ?_
    refine JN.code ?_
    refine J.ret ?_
    refine JN.intro_pers (p := row (Kd.int .u8) 5 none 0 []) (fun w R => row_nil _ _ w R) ?_
    refine JN.back (res2 rfl rfl rfl) [0, 1] rfl ?_
    exact ⟨none, 0, by unfold f_reprPut; rw [if_neg (Bool.eq_false_iff.1 h1)] <;> rfl, by unfold f_reprPut; rw [if_neg (Bool.eq_false_iff.1 h1)] <;> rfl⟩
  have hk := f_rright_kind h1
  refine J.skip ?_
  refine JN.code ?_
  refine J.seq ?_
  refine J.region ?_
  refine JL.qt (Qt.fa (o' := 1) fo143_1 rfl rfl) rfl ?_
  refine JL.qt (Qt.ld 0 pl3 rfl rfl rfl) rfl ?_
  refine JL.qt (Qt.assign rfl) rfl ?_
  refine JL.nil ?_
  refine JN.code ?_
  refine J.seq ?_
  refine J.seq ?_
  refine J.region ?_
  refine JL.qt (Qt.fa (o' := 0) fo143_0 rfl rfl) rfl ?_
  refine JL.qt (Qt.ld 0 pl3 rfl rfl rfl) rfl ?_
  refine JL.qt (Qt.bin (fun _ => eql_run) rfl rfl rfl) rfl ?_
  refine JL.nil ?_
  refine JN.code ?_
  refine J.cond_eq rfl (fun h2 => ?_) (fun h2 => ?_)
  · refine J.region ?_
    refine JL.qt (Qt.fa (o' := 6) fo143_4 rfl rfl) rfl ?_
    refine JL.qt (Qt.ld 0 pl3 rfl rfl rfl) rfl ?_
    refine JL.qt (Qt.assign rfl) rfl ?_
    refine JL.nil ?_
    refine JN.code ?_
    refine J.seq ?_
    refine J.sch (.qt 0 (.qt 1 (.qt 2 (.qt 3 (.qt 4 (.qt 5 (.qt 6 (.qt 7 (.qt 8 (.qt 9 (.qt 10 (.ef 11 [] (.qt 12 (.qt 13 (.qt 14 (.qt 15 (.qt 16 (.done)))))))))))))))))) mixed (by repeat (first | exact Xe.noLook_body | refine noLook_then ?_ | refine noLook_block ?_)) (by kernel_rfl) ?_
    refine JS.q0 rfl (Qt.fa (o' := 0) fo143_0 rfl rfl) rfl ?_
    refine JS.q1 (j := 0) rfl rfl rfl (Qt.ld 0 pl3 rfl rfl rfl) rfl ?_
    refine JS.q0 rfl (Qt.ia_arr Tryz.underlying182 sz181 rfl rfl (by omega) (by omega)) rfl ?_
    refine JS.q0 rfl (Qt.fa (o' := 0 + r.Kind.toNat * 2 + 0) fo181_0 rfl rfl) rfl ?_
    refine JS.q1 (j := 1) rfl rfl rfl (Qt.ld_ro (j := r.Kind.toNat * 2 + 0) 0 pl3 rfl rfl rfl (formL_at (k := r.Kind.toNat * 2 + 0) (by omega))) rfl ?_
    refine JS.q0 rfl (Qt.fa (o' := 0) fo143_0 rfl rfl) rfl ?_
    refine JS.q1 (j := 0) rfl rfl rfl (Qt.ld 0 pl3 rfl rfl rfl) rfl ?_
    refine JS.q0 rfl (Qt.ia_arr Tryz.underlying182 sz181 rfl rfl (by omega) (by omega)) rfl ?_
    refine JS.q0 rfl (Qt.fa (o' := 0 + r.Kind.toNat * 2 + 1) fo181_1 rfl rfl) rfl ?_
    refine JS.q1 (j := 1) rfl rfl rfl (Qt.ld_ro (j := r.Kind.toNat * 2 + 1) 0 pl3 rfl rfl rfl (formL_at (k := r.Kind.toNat * 2 + 1) (by omega))) rfl ?_
    refine JS.q0 rfl (Qt.move rfl) rfl ?_
    refine JS.e1 ?_
    refine JE.ef rfl (O1.call Tryz.func78 rfl rfl rfl [] rfl (s_pput (formL.getD (r.Kind.toNat * 2 + 0) 0) (formL.getD (r.Kind.toNat * 2 + 1) 0) r.Size)) rfl ?_
    rintro _ _ ⟨_, ⟨A2_2, c2_3, rfl, rfl⟩, rfl⟩
    refine ⟨⟨.inl rfl, ⟨.inl rfl, ⟨.inl rfl, ⟨.inl rfl, trivial⟩⟩⟩⟩, ?_⟩
    refine JS.q0 rfl (Qt.move rfl) rfl ?_
    refine JS.q0 rfl (Qt.extract rfl rfl) rfl ?_
    refine JS.q0 rfl (Qt.extract rfl rfl) rfl ?_
    refine JS.q0 rfl (Qt.assign rfl) rfl ?_
    refine JS.q0 rfl (Qt.assign rfl) rfl ?_
    refine JS.done ?_
    refine JN.code ?_
    refine J.seq ?_
    refine J.seq ?_
    refine J.keep [1, 2, 3, 5, 6] rfl ?_
    refine J.region ?_
    refine JL.qt (Qt.move rfl) rfl ?_
    refine JL.qt (Qt.bin (fun _ => neq_run) rfl rfl rfl) rfl ?_
    refine JL.qt (Qt.move rfl) rfl ?_
    refine JL.cases_ne (t := 34) rfl (fun h3 => ?_) (fun h3 => ?_)
    · refine JL.g_outU rfl rfl rfl rfl ?_
      refine JL.g_outU rfl rfl rfl rfl ?_
      refine JL.g_outU rfl rfl rfl rfl ?_
      refine JL.g_outU rfl rfl rfl rfl ?_
      refine JL.qt (Qt.pick_t rfl rfl) rfl ?_
      refine JL.nil ?_
      refine JN.code ?_
      refine J.cond_true rfl ?_
      refine J.seq ?_
      refine J.region ?_
      refine JL.qt (Qt.move rfl) rfl ?_
      refine JL.qt (Qt.move rfl) rfl ?_
      refine JL.qt (Qt.assign rfl) rfl ?_
      refine JL.qt (Qt.assign rfl) rfl ?_
      refine JL.nil ?_
      refine JN.code ?_
      refine J.ret ?_
      refine JN.back (res2 rfl rfl rfl) [0, 1] rfl ?_
      exact ⟨A2_2, c2_3, by unfold f_reprPut; rw [if_pos h1, if_pos h2, if_neg h3] <;> rfl, by unfold f_reprPut; rw [if_pos h1, if_pos h2, if_neg h3] <;> rfl⟩
    refine JL.g_in rfl rfl ?_
    refine JL.qt (Qt.fa (o' := 0) fo143_0 rfl rfl) rfl ?_
    refine JL.g_in rfl rfl ?_
    refine JL.qt (Qt.ld 1 pl3 rfl rfl rfl) rfl ?_
    refine JL.g_in rfl rfl ?_
    refine JL.call (O1.call Tryz.func79 rfl rfl rfl [] rfl (s_repr_texts r.Kind)) rfl ?_
    rintro _ _ ⟨rfl, rfl⟩
    refine JL.g_in rfl rfl ?_
    refine JL.qt (Qt.un (fun _ => not_run) rfl) rfl ?_
    refine JL.qt (Qt.pick_f rfl rfl) rfl ?_
    refine JL.nil ?_
    refine JN.code ?_
    refine J.cond_not rfl (fun h4 => ?_) (fun h4 => ?_)
    · refine J.seq ?_
      refine J.region ?_
      refine JL.qt (Qt.move rfl) rfl ?_
      refine JL.qt (Qt.move rfl) rfl ?_
      refine JL.qt (Qt.assign rfl) rfl ?_
      refine JL.qt (Qt.assign rfl) rfl ?_
      refine JL.nil ?_
      refine JN.code ?_
      refine J.ret ?_
      refine JN.back (res2 rfl rfl rfl) [0, 1] rfl ?_
      exact ⟨A2_2, c2_3, by unfold f_reprPut; rw [if_pos h1, if_pos h2, if_pos h3, if_neg (Bool.eq_false_iff.1 h4)] <;> rfl, by unfold f_reprPut; rw [if_pos h1, if_pos h2, if_pos h3, if_neg (Bool.eq_false_iff.1 h4)] <;> rfl⟩
    refine J.skip ?_
    refine JN.code ?_
    refine J.seq ?_
    refine J.seq ?_
    refine J.region ?_
    refine JL.qt (Qt.fa (o' := 1) fo143_1 rfl rfl) rfl ?_
    refine JL.qt (Qt.ld 1 pl3 rfl rfl rfl) rfl ?_
    refine JL.qt (Qt.bin (fun _ => eql_run) rfl rfl rfl) rfl ?_
    refine JL.nil ?_
    refine JN.code ?_
    refine J.cond_eq rfl (fun h5 => ?_) (fun h5 => ?_)
    · refine J.region ?_
      refine JL.qt (Qt.move rfl) rfl ?_
      refine JL.qt (Qt.fa (o' := 2) fo143_2 rfl rfl) rfl ?_
      refine JL.qt (Qt.fa (o' := 2) fo141_0 rfl rfl) rfl ?_
      refine JL.qt (Qt.ld 1 pl9 rfl rfl rfl) rfl ?_
      refine JL.qt (Qt.fa (o' := 2) fo143_2 rfl rfl) rfl ?_
      refine JL.qt (Qt.fa (o' := 3) fo141_1 rfl rfl) rfl ?_
      refine JL.qt (Qt.ld 1 pl4 rfl rfl rfl) rfl ?_
      refine JL.call (O1.call Tryz.func80 rfl rfl rfl [] rfl (s_strlit r.Name.S r.Name.Short hs1)) rfl ?_
      rintro _ _ ⟨A2_4, c2_5, rfl, rfl⟩
      refine JL.upd [0] rfl (row_freeze (by have := f_strlit_len r.Name.S r.Name.Short; show _ ≤ 1099511627776; omega)) ?_
      refine JL.ef (O1.appendRd (D := (Kd.int .u8)) (xs := ((f_pput (formL.getD (r.Kind.toNat * 2 + 0) 0) (formL.getD (r.Kind.toNat * 2 + 1) 0) r.Size).1)) (ys := (f_strlit r.Name.S r.Name.Short)) 1 0 el37 rfl rfl rfl rfl (by have := f_strlit_len r.Name.S r.Name.Short; have := f_pput_len (formL.getD (r.Kind.toNat * 2 + 0) 0) (formL.getD (r.Kind.toNat * 2 + 1) 0) r.Index; have := f_pput_len (formL.getD (r.Kind.toNat * 2 + 0) 0) (formL.getD (r.Kind.toNat * 2 + 1) 0) r.Size; omega)) rfl ?_
      rintro _ _ ⟨A_6, c_7, rfl, rfl⟩
      refine JL.qt (Qt.assign rfl) rfl ?_
      refine JL.nil ?_
      refine JN.code ?_
      refine J.seq ?_
      refine J.keep [1, 2, 3, 5] rfl ?_
      refine J.region ?_
      refine JL.qt (Qt.move rfl) rfl ?_
      refine JL.qt (Qt.fa (o' := 4) fo143_3 rfl rfl) rfl ?_
      refine JL.qt (Qt.fa (o' := 4) fo141_0 rfl rfl) rfl ?_
      refine JL.qt (Qt.ld 2 pl9 rfl rfl rfl) rfl ?_
      refine JL.qt (Qt.fa (o' := 4) fo143_3 rfl rfl) rfl ?_
      refine JL.qt (Qt.fa (o' := 5) fo141_1 rfl rfl) rfl ?_
      refine JL.qt (Qt.ld 2 pl4 rfl rfl rfl) rfl ?_
      refine JL.call (O1.call Tryz.func80 rfl rfl rfl [] rfl (s_strlit r.Value.S r.Value.Short hs2)) rfl ?_
      rintro _ _ ⟨A2_8, c2_9, rfl, rfl⟩
      refine JL.upd [0] rfl (row_freeze (by have := f_strlit_len r.Value.S r.Value.Short; show _ ≤ 1099511627776; omega)) ?_
      refine JL.ef (O1.appendRd (D := (Kd.int .u8)) (xs := (((f_pput (formL.getD (r.Kind.toNat * 2 + 0) 0) (formL.getD (r.Kind.toNat * 2 + 1) 0) r.Size).1) ++ (f_strlit r.Name.S r.Name.Short))) (ys := (f_strlit r.Value.S r.Value.Short)) 1 0 el37 rfl rfl rfl rfl (by have := f_strlit_len r.Name.S r.Name.Short; have := f_strlit_len r.Value.S r.Value.Short; have := f_pput_len (formL.getD (r.Kind.toNat * 2 + 0) 0) (formL.getD (r.Kind.toNat * 2 + 1) 0) r.Index; have := f_pput_len (formL.getD (r.Kind.toNat * 2 + 0) 0) (formL.getD (r.Kind.toNat * 2 + 1) 0) r.Size; (try simp only [List.length_append]); omega)) rfl ?_
      rintro _ _ ⟨A_10, c_11, rfl, rfl⟩
      refine JL.qt (Qt.assign rfl) rfl ?_
      refine JL.qt (Qt.assign rfl) rfl ?_
      refine JL.nil ?_
      refine JN.code ?_
      refine J.ret ?_
      refine JN.back (res2 rfl rfl rfl) [0, 3] rfl ?_
      exact ⟨A_10, c_11, by unfold f_reprPut; rw [if_pos h1, if_pos h2, if_pos h3, if_pos h4, if_pos h5] <;> rfl, by unfold f_reprPut; rw [if_pos h1, if_pos h2, if_pos h3, if_pos h4, if_pos h5] <;> rfl⟩
    refine J.skip ?_
    refine JN.code ?_
    refine J.seq ?_
    refine J.region ?_
    refine JL.qt (Qt.move rfl) rfl ?_
    refine JL.qt (Qt.fa (o' := 4) fo143_3 rfl rfl) rfl ?_
    refine JL.qt (Qt.fa (o' := 4) fo141_0 rfl rfl) rfl ?_
    refine JL.qt (Qt.ld 1 pl9 rfl rfl rfl) rfl ?_
    refine JL.qt (Qt.fa (o' := 4) fo143_3 rfl rfl) rfl ?_
    refine JL.qt (Qt.fa (o' := 5) fo141_1 rfl rfl) rfl ?_
    refine JL.qt (Qt.ld 1 pl4 rfl rfl rfl) rfl ?_
    refine JL.call (O1.call Tryz.func80 rfl rfl rfl [] rfl (s_strlit r.Value.S r.Value.Short hs2)) rfl ?_
    rintro _ _ ⟨A2_12, c2_13, rfl, rfl⟩
    refine JL.upd [0] rfl (row_freeze (by have := f_strlit_len r.Value.S r.Value.Short; show _ ≤ 1099511627776; omega)) ?_
    refine JL.ef (O1.appendRd (D := (Kd.int .u8)) (xs := ((f_pput (formL.getD (r.Kind.toNat * 2 + 0) 0) (formL.getD (r.Kind.toNat * 2 + 1) 0) r.Size).1)) (ys := (f_strlit r.Value.S r.Value.Short)) 1 0 el37 rfl rfl rfl rfl (by have := f_strlit_len r.Name.S r.Name.Short; have := f_strlit_len r.Value.S r.Value.Short; have := f_pput_len (formL.getD (r.Kind.toNat * 2 + 0) 0) (formL.getD (r.Kind.toNat * 2 + 1) 0) r.Index; have := f_pput_len (formL.getD (r.Kind.toNat * 2 + 0) 0) (formL.getD (r.Kind.toNat * 2 + 1) 0) r.Size; (try simp only [List.length_append]); omega)) rfl ?_
    rintro _ _ ⟨A_14, c_15, rfl, rfl⟩
    refine JL.qt (Qt.assign rfl) rfl ?_
    refine JL.qt (Qt.assign rfl) rfl ?_
    refine JL.nil ?_
    refine JN.code ?_
    refine J.ret ?_
    refine JN.back (res2 rfl rfl rfl) [0, 2] rfl ?_
    exact ⟨A_14, c_15, by unfold f_reprPut; rw [if_pos h1, if_pos h2, if_pos h3, if_pos h4, if_neg h5] <;> rfl, by unfold f_reprPut; rw [if_pos h1, if_pos h2, if_pos h3, if_pos h4, if_neg h5] <;> rfl⟩
  refine J.skip ?_
  refine JN.code ?_
  refine J.seq ?_
  refine J.sch (.qt 0 (.qt 1 (.qt 2 (.qt 3 (.qt 4 (.qt 5 (.qt 6 (.qt 7 (.qt 8 (.qt 9 (.qt 10 (.ef 11 [] (.qt 12 (.qt 13 (.qt 14 (.qt 15 (.qt 16 (.done)))))))))))))))))) mixed (by repeat (first | exact Xe.noLook_body | refine noLook_then ?_ | refine noLook_block ?_)) (by kernel_rfl) ?_
  refine JS.q0 rfl (Qt.fa (o' := 0) fo143_0 rfl rfl) rfl ?_
  refine JS.q1 (j := 0) rfl rfl rfl (Qt.ld 0 pl3 rfl rfl rfl) rfl ?_
  refine JS.q0 rfl (Qt.ia_arr Tryz.underlying182 sz181 rfl rfl (by omega) (by omega)) rfl ?_
  refine JS.q0 rfl (Qt.fa (o' := 0 + r.Kind.toNat * 2 + 0) fo181_0 rfl rfl) rfl ?_
  refine JS.q1 (j := 1) rfl rfl rfl (Qt.ld_ro (j := r.Kind.toNat * 2 + 0) 0 pl3 rfl rfl rfl (formL_at (k := r.Kind.toNat * 2 + 0) (by omega))) rfl ?_
  refine JS.q0 rfl (Qt.fa (o' := 0) fo143_0 rfl rfl) rfl ?_
  refine JS.q1 (j := 0) rfl rfl rfl (Qt.ld 0 pl3 rfl rfl rfl) rfl ?_
  refine JS.q0 rfl (Qt.ia_arr Tryz.underlying182 sz181 rfl rfl (by omega) (by omega)) rfl ?_
  refine JS.q0 rfl (Qt.fa (o' := 0 + r.Kind.toNat * 2 + 1) fo181_1 rfl rfl) rfl ?_
  refine JS.q1 (j := 1) rfl rfl rfl (Qt.ld_ro (j := r.Kind.toNat * 2 + 1) 0 pl3 rfl rfl rfl (formL_at (k := r.Kind.toNat * 2 + 1) (by omega))) rfl ?_
  refine JS.q0 rfl (Qt.move rfl) rfl ?_
  refine JS.e1 ?_
  refine JE.ef rfl (O1.call Tryz.func78 rfl rfl rfl [] rfl (s_pput (formL.getD (r.Kind.toNat * 2 + 0) 0) (formL.getD (r.Kind.toNat * 2 + 1) 0) r.Index)) rfl ?_
  rintro _ _ ⟨_, ⟨A2_16, c2_17, rfl, rfl⟩, rfl⟩
  refine ⟨⟨.inl rfl, ⟨.inl rfl, ⟨.inl rfl, ⟨.inl rfl, trivial⟩⟩⟩⟩, ?_⟩
  refine JS.q0 rfl (Qt.move rfl) rfl ?_
  refine JS.q0 rfl (Qt.extract rfl rfl) rfl ?_
  refine JS.q0 rfl (Qt.extract rfl rfl) rfl ?_
  refine JS.q0 rfl (Qt.assign rfl) rfl ?_
  refine JS.q0 rfl (Qt.assign rfl) rfl ?_
  refine JS.done ?_
  refine JN.code ?_
  refine J.seq ?_
  refine J.seq ?_
  refine J.keep [1, 2, 3, 5, 6] rfl ?_
  refine J.region ?_
  refine JL.qt (Qt.move rfl) rfl ?_
  refine JL.qt (Qt.bin (fun _ => neq_run) rfl rfl rfl) rfl ?_
  refine JL.qt (Qt.move rfl) rfl ?_
  refine JL.cases_ne (t := 34) rfl (fun h6 => ?_) (fun h6 => ?_)
  · refine JL.g_outU rfl rfl rfl rfl ?_
    refine JL.g_outU rfl rfl rfl rfl ?_
    refine JL.g_outU rfl rfl rfl rfl ?_
    refine JL.g_outU rfl rfl rfl rfl ?_
    refine JL.qt (Qt.pick_t rfl rfl) rfl ?_
    refine JL.nil ?_
    refine JN.code ?_
    refine J.cond_true rfl ?_
    refine J.seq ?_
    refine J.region ?_
    refine JL.qt (Qt.move rfl) rfl ?_
    refine JL.qt (Qt.move rfl) rfl ?_
    refine JL.qt (Qt.assign rfl) rfl ?_
    refine JL.qt (Qt.assign rfl) rfl ?_
    refine JL.nil ?_
    refine JN.code ?_
    refine J.ret ?_
    refine JN.back (res2 rfl rfl rfl) [0, 1] rfl ?_
    exact ⟨A2_16, c2_17, by unfold f_reprPut; rw [if_pos h1, if_neg h2, if_neg h6] <;> rfl, by unfold f_reprPut; rw [if_pos h1, if_neg h2, if_neg h6] <;> rfl⟩
  refine JL.g_in rfl rfl ?_
  refine JL.qt (Qt.fa (o' := 0) fo143_0 rfl rfl) rfl ?_
  refine JL.g_in rfl rfl ?_
  refine JL.qt (Qt.ld 1 pl3 rfl rfl rfl) rfl ?_
  refine JL.g_in rfl rfl ?_
  refine JL.call (O1.call Tryz.func79 rfl rfl rfl [] rfl (s_repr_texts r.Kind)) rfl ?_
  rintro _ _ ⟨rfl, rfl⟩
  refine JL.g_in rfl rfl ?_
  refine JL.qt (Qt.un (fun _ => not_run) rfl) rfl ?_
  refine JL.qt (Qt.pick_f rfl rfl) rfl ?_
  refine JL.nil ?_
  refine JN.code ?_
  refine J.cond_not rfl (fun h7 => ?_) (fun h7 => ?_)
  · refine J.seq ?_
    refine J.region ?_
    refine JL.qt (Qt.move rfl) rfl ?_
    refine JL.qt (Qt.move rfl) rfl ?_
    refine JL.qt (Qt.assign rfl) rfl ?_
    refine JL.qt (Qt.assign rfl) rfl ?_
    refine JL.nil ?_
    refine JN.code ?_
    refine J.ret ?_
    refine JN.back (res2 rfl rfl rfl) [0, 1] rfl ?_
    exact ⟨A2_16, c2_17, by unfold f_reprPut; rw [if_pos h1, if_neg h2, if_pos h6, if_neg (Bool.eq_false_iff.1 h7)] <;> rfl, by unfold f_reprPut; rw [if_pos h1, if_neg h2, if_pos h6, if_neg (Bool.eq_false_iff.1 h7)] <;> rfl⟩
  refine J.skip ?_
  refine JN.code ?_
  refine J.seq ?_
  refine J.seq ?_
  refine J.region ?_
  refine JL.qt (Qt.fa (o' := 1) fo143_1 rfl rfl) rfl ?_
  refine JL.qt (Qt.ld 1 pl3 rfl rfl rfl) rfl ?_
  refine JL.qt (Qt.bin (fun _ => eql_run) rfl rfl rfl) rfl ?_
  refine JL.nil ?_
  refine JN.code ?_
  refine J.cond_eq rfl (fun h8 => ?_) (fun h8 => ?_)
  · refine J.region ?_
    refine JL.qt (Qt.move rfl) rfl ?_
    refine JL.qt (Qt.fa (o' := 2) fo143_2 rfl rfl) rfl ?_
    refine JL.qt (Qt.fa (o' := 2) fo141_0 rfl rfl) rfl ?_
    refine JL.qt (Qt.ld 1 pl9 rfl rfl rfl) rfl ?_
    refine JL.qt (Qt.fa (o' := 2) fo143_2 rfl rfl) rfl ?_
    refine JL.qt (Qt.fa (o' := 3) fo141_1 rfl rfl) rfl ?_
    refine JL.qt (Qt.ld 1 pl4 rfl rfl rfl) rfl ?_
    refine JL.call (O1.call Tryz.func80 rfl rfl rfl [] rfl (s_strlit r.Name.S r.Name.Short hs1)) rfl ?_
    rintro _ _ ⟨A2_18, c2_19, rfl, rfl⟩
    refine JL.upd [0] rfl (row_freeze (by have := f_strlit_len r.Name.S r.Name.Short; show _ ≤ 1099511627776; omega)) ?_
    refine JL.ef (O1.appendRd (D := (Kd.int .u8)) (xs := ((f_pput (formL.getD (r.Kind.toNat * 2 + 0) 0) (formL.getD (r.Kind.toNat * 2 + 1) 0) r.Index).1)) (ys := (f_strlit r.Name.S r.Name.Short)) 1 0 el37 rfl rfl rfl rfl (by have := f_strlit_len r.Name.S r.Name.Short; have := f_pput_len (formL.getD (r.Kind.toNat * 2 + 0) 0) (formL.getD (r.Kind.toNat * 2 + 1) 0) r.Index; have := f_pput_len (formL.getD (r.Kind.toNat * 2 + 0) 0) (formL.getD (r.Kind.toNat * 2 + 1) 0) r.Size; omega)) rfl ?_
    rintro _ _ ⟨A_20, c_21, rfl, rfl⟩
    refine JL.qt (Qt.assign rfl) rfl ?_
    refine JL.nil ?_
    refine JN.code ?_
    refine J.seq ?_
    refine J.keep [1, 2, 3, 5] rfl ?_
    refine J.region ?_
    refine JL.qt (Qt.move rfl) rfl ?_
    refine JL.qt (Qt.fa (o' := 4) fo143_3 rfl rfl) rfl ?_
    refine JL.qt (Qt.fa (o' := 4) fo141_0 rfl rfl) rfl ?_
    refine JL.qt (Qt.ld 2 pl9 rfl rfl rfl) rfl ?_
    refine JL.qt (Qt.fa (o' := 4) fo143_3 rfl rfl) rfl ?_
    refine JL.qt (Qt.fa (o' := 5) fo141_1 rfl rfl) rfl ?_
    refine JL.qt (Qt.ld 2 pl4 rfl rfl rfl) rfl ?_
    refine JL.call (O1.call Tryz.func80 rfl rfl rfl [] rfl (s_strlit r.Value.S r.Value.Short hs2)) rfl ?_
    rintro _ _ ⟨A2_22, c2_23, rfl, rfl⟩
    refine JL.upd [0] rfl (row_freeze (by have := f_strlit_len r.Value.S r.Value.Short; show _ ≤ 1099511627776; omega)) ?_
    refine JL.ef (O1.appendRd (D := (Kd.int .u8)) (xs := (((f_pput (formL.getD (r.Kind.toNat * 2 + 0) 0) (formL.getD (r.Kind.toNat * 2 + 1) 0) r.Index).1) ++ (f_strlit r.Name.S r.Name.Short))) (ys := (f_strlit r.Value.S r.Value.Short)) 1 0 el37 rfl rfl rfl rfl (by have := f_strlit_len r.Name.S r.Name.Short; have := f_strlit_len r.Value.S r.Value.Short; have := f_pput_len (formL.getD (r.Kind.toNat * 2 + 0) 0) (formL.getD (r.Kind.toNat * 2 + 1) 0) r.Index; have := f_pput_len (formL.getD (r.Kind.toNat * 2 + 0) 0) (formL.getD (r.Kind.toNat * 2 + 1) 0) r.Size; (try simp only [List.length_append]); omega)) rfl ?_
    rintro _ _ ⟨A_24, c_25, rfl, rfl⟩
    refine JL.qt (Qt.assign rfl) rfl ?_
    refine JL.qt (Qt.assign rfl) rfl ?_
    refine JL.nil ?_
    refine JN.code ?_
    refine J.ret ?_
    refine JN.back (res2 rfl rfl rfl) [0, 3] rfl ?_
    exact ⟨A_24, c_25, by unfold f_reprPut; rw [if_pos h1, if_neg h2, if_pos h6, if_pos h7, if_pos h8] <;> rfl, by unfold f_reprPut; rw [if_pos h1, if_neg h2, if_pos h6, if_pos h7, if_pos h8] <;> rfl⟩
  refine J.skip ?_
  refine JN.code ?_
  refine J.seq ?_
  refine J.region ?_
  refine JL.qt (Qt.move rfl) rfl ?_
  refine JL.qt (Qt.fa (o' := 4) fo143_3 rfl rfl) rfl ?_
  refine JL.qt (Qt.fa (o' := 4) fo141_0 rfl rfl) rfl ?_
  refine JL.qt (Qt.ld 1 pl9 rfl rfl rfl) rfl ?_
  refine JL.qt (Qt.fa (o' := 4) fo143_3 rfl rfl) rfl ?_
  refine JL.qt (Qt.fa (o' := 5) fo141_1 rfl rfl) rfl ?_
  refine JL.qt (Qt.ld 1 pl4 rfl rfl rfl) rfl ?_
  refine JL.call (O1.call Tryz.func80 rfl rfl rfl [] rfl (s_strlit r.Value.S r.Value.Short hs2)) rfl ?_
  rintro _ _ ⟨A2_26, c2_27, rfl, rfl⟩
  refine JL.upd [0] rfl (row_freeze (by have := f_strlit_len r.Value.S r.Value.Short; show _ ≤ 1099511627776; omega)) ?_
  refine JL.ef (O1.appendRd (D := (Kd.int .u8)) (xs := ((f_pput (formL.getD (r.Kind.toNat * 2 + 0) 0) (formL.getD (r.Kind.toNat * 2 + 1) 0) r.Index).1)) (ys := (f_strlit r.Value.S r.Value.Short)) 1 0 el37 rfl rfl rfl rfl (by have := f_strlit_len r.Name.S r.Name.Short; have := f_strlit_len r.Value.S r.Value.Short; have := f_pput_len (formL.getD (r.Kind.toNat * 2 + 0) 0) (formL.getD (r.Kind.toNat * 2 + 1) 0) r.Index; have := f_pput_len (formL.getD (r.Kind.toNat * 2 + 0) 0) (formL.getD (r.Kind.toNat * 2 + 1) 0) r.Size; (try simp only [List.length_append]); omega)) rfl ?_
  rintro _ _ ⟨A_28, c_29, rfl, rfl⟩
  refine JL.qt (Qt.assign rfl) rfl ?_
  refine JL.qt (Qt.assign rfl) rfl ?_
  refine JL.nil ?_
  refine JN.code ?_
  refine J.ret ?_
  refine JN.back (res2 rfl rfl rfl) [0, 2] rfl ?_
  exact ⟨A_28, c_29, by unfold f_reprPut; rw [if_pos h1, if_neg h2, if_pos h6, if_pos h7, if_neg h8] <;> rfl, by unfold f_reprPut; rw [if_pos h1, if_neg h2, if_pos h6, if_pos h7, if_neg h8] <;> rfl⟩
end Go.Proofs.YthjbkngecgbioaaGreatDoor.Sl

/- Walks: a block of fields is written. -/
set_option maxRecDepth 100000
set_option linter.unusedSimpArgs false
set_option linter.unusedVariables false
namespace Go.Proofs.YthjbkngecgbioaaGreatDoor.Sl
open Go
theorem sp108 : structPl Tryz.prog 108 = some [(0, 1), (1, 1), (2, 1)] := by kernel_rfl
theorem ze108 : zeroTy Tryz.prog 108 = some [.slice none 0 0, .int .i64 0, .int .i64 0] := by kernel_rfl
theorem sp85 : structPl Tryz.prog 85 = some [(0, 1)] := by kernel_rfl
theorem ze85 : zeroTy Tryz.prog 85 = some [.pointer none] := by kernel_rfl
theorem pl81 : plainTy Tryz.prog 81 = true := by kernel_rfl
theorem fo85_0 : fldOff Tryz.prog 85 0 = some 0 := by kernel_rfl
theorem ze51 : zeroTy Tryz.prog 51 = some [.int .i64 0, .bool false, .bool false, .bool false] := by kernel_rfl
def opt0 : EncoderOption := ⟨0, false, false, false⟩
def fcost : List ApiField → Nat
  | [] => 0
  | f :: l => 40 + 4 * (f.Name.size + f.Value.size) + fcost l
theorem f_tadd_len (xs : List ApiField) (sz mx : Int) (f : ApiField) : (f_tadd xs sz mx f).1.length ≤ xs.length + 1 := by
  unfold f_tadd
  have := f_shrink_len xs sz (max (IntKind.i64.wrap (mx - (f_dyntab_Weight f))) 0)
  split
  · dsimp only; omega
  · simp only [List.length_append, List.length_cons, List.length_nil]; omega
theorem f_one_sz (xs : List ApiField) (sz mx : Int) (f : ApiField) (o : EncoderOption) : (f_one xs sz mx f o).1.Name.S.size ≤ f.Name.size ∧ (f_one xs sz mx f o).1.Value.S.size ≤ f.Value.size ∧ (f_one xs sz mx f o).2.1.length ≤ xs.length + 1 := by
  have h0 : (ByteArray.mk #[]).size = 0 := rfl
  have h3 := f_tadd_len xs sz mx f
  have hj3 : ∀ (ix : Int) (nm : ByteArray) (sh : Bool), nm.size ≤ f.Name.size → (f_one_j3 xs sz mx f o ix nm sh).1.Name.S.size ≤ f.Name.size ∧ (f_one_j3 xs sz mx f o ix nm sh).1.Value.S.size ≤ f.Value.size ∧ (f_one_j3 xs sz mx f o ix nm sh).2.1.length ≤ xs.length + 1 := by
    intro ix nm sh h
    unfold f_one_j3
    repeat' split
    all_goals exact ⟨h, Nat.le_refl _, by dsimp only; omega⟩
  have hj2 : ∀ (ix : Int), (f_one_j2 xs sz mx f o ix).1.Name.S.size ≤ f.Name.size ∧ (f_one_j2 xs sz mx f o ix).1.Value.S.size ≤ f.Value.size ∧ (f_one_j2 xs sz mx f o ix).2.1.length ≤ xs.length + 1 := by
    intro ix
    unfold f_one_j2
    repeat' split
    all_goals first | exact hj3 _ _ _ (Nat.le_refl _) | exact hj3 _ _ _ (by rw [h0]; exact Nat.zero_le _)
  have hj1 : (f_one_j1 xs sz mx f o).1.Name.S.size ≤ f.Name.size ∧ (f_one_j1 xs sz mx f o).1.Value.S.size ≤ f.Value.size ∧ (f_one_j1 xs sz mx f o).2.1.length ≤ xs.length + 1 := by
    unfold f_one_j1
    repeat' split
    all_goals exact hj2 _
  have hj0 : (f_one_j0 xs sz mx f o).1.Name.S.size ≤ f.Name.size ∧ (f_one_j0 xs sz mx f o).1.Value.S.size ≤ f.Value.size ∧ (f_one_j0 xs sz mx f o).2.1.length ≤ xs.length + 1 := by
    unfold f_one_j0
    repeat' split
    all_goals first | exact hj1 | exact ⟨by rw [h0]; exact Nat.zero_le _, by rw [h0]; exact Nat.zero_le _, by dsimp only; omega⟩
  unfold f_one
  repeat' split
  all_goals first | exact hj0 | exact ⟨by rw [h0]; exact Nat.zero_le _, by rw [h0]; exact Nat.zero_le _, by dsimp only; omega⟩
theorem f_reprPut_len (r : ReprRepr) : (f_reprPut r).1.length ≤ 40 + 4 * (r.Name.S.size + r.Value.S.size) := by
  have h1 := f_strlit_len r.Name.S r.Name.Short
  have h2 := f_strlit_len r.Value.S r.Value.Short
  have h3 := f_pput_len (formL.getD (r.Kind.toNat * 2 + 0) 0) (formL.getD (r.Kind.toNat * 2 + 1) 0) r.Index
  have h4 := f_pput_len (formL.getD (r.Kind.toNat * 2 + 0) 0) (formL.getD (r.Kind.toNat * 2 + 1) 0) r.Size
  unfold f_reprPut
  repeat' split
  all_goals (try simp only [List.length_append, List.length_nil]); (try dsimp only); omega
def f_enc_l1 (xs : List ApiField) (sz : Int) (mx : Int) (l : List ApiField) (how : List EncoderOption) : Nat → Nat → (List Int) → (List ApiField) → Int → List Int × List ApiField × Int
  | 0, _, _, _, _ => ([], [], 0)
  | m1 + 1, i, out, ys, s => if (i : Int) < ((l.length : Nat) : Int) then if ((how.length : Nat) : Int) > 0 then f_enc_l1 xs sz mx l how m1 (i + 1) (out ++ ((f_reprPut ((f_one ys s mx ((l[i]?).getD fld0) ((how[i % how.length]?).getD opt0)).1)).1)) ((f_one ys s mx ((l[i]?).getD fld0) ((how[i % how.length]?).getD opt0)).2.1) ((f_one ys s mx ((l[i]?).getD fld0) ((how[i % how.length]?).getD opt0)).2.2) else f_enc_l1 xs sz mx l how m1 (i + 1) (out ++ ((f_reprPut ((f_one ys s mx ((l[i]?).getD fld0) (⟨0, false, false, false⟩ : EncoderOption)).1)).1)) ((f_one ys s mx ((l[i]?).getD fld0) (⟨0, false, false, false⟩ : EncoderOption)).2.1) ((f_one ys s mx ((l[i]?).getD fld0) (⟨0, false, false, false⟩ : EncoderOption)).2.2) else (out, ys, s)
def f_enc (xs : List ApiField) (sz : Int) (mx : Int) (l : List ApiField) (how : List EncoderOption) : List Int × List ApiField × Int := f_enc_l1 xs sz mx l how ((l.length - 0) + 1) 0 [] xs sz
theorem s_ixf (As : Option Addr) (cs : Nat) :
    Spec Tryz.prog 76 [.slice As 0 cs, .func (.func 59) #[] #[]].toArray [] (fun v L => v = .int .i64 (-1) ∧ L = []) := by
  refine Spec.enter Tryz.func76 rfl Tryz.ntmps76 rfl rfl (fun w0 R0 F0 => ?_)
  refine J.seq ?_
  refine J.region ?_
  refine JL.qt (Qt.assign rfl) rfl ?_
  refine JL.nil ?_
  refine JN.code ?_
  refine J.seq ?_
  refine J.seq ?_
  refine J.region ?_
  refine JL.qt (Qt.move rfl) rfl ?_
  refine JL.qt (Qt.bi (fun _ _ => len_slice_run Tryz.underlying26) rfl) rfl ?_
  refine JL.qt (Qt.move rfl) rfl ?_
  refine JL.nil ?_
  refine JN.code ?_
  refine J.block ?_
  refine J.unroll 1 ?_
  refine J.seq ?_
  refine J.region ?_
  refine JL.qt (Qt.bin (v := .bool false) (fun _ => lss_run) rfl rfl rfl) rfl ?_
  refine JL.nil ?_
  refine JN.code ?_
  refine J.seq ?_
  refine J.cond_false rfl ?_
  refine J.exit ?_
  refine JN.code ?_
  refine J.seq ?_
  refine J.region ?_
  refine JL.qt (Qt.assign rfl) rfl ?_
  refine JL.nil ?_
  refine JN.code ?_
  refine J.ret ?_
  refine JN.back (res1 rfl rfl) [] rfl ?_
  exact ⟨rfl, rfl⟩
theorem s_cof (As : Option Addr) (cs : Nat) :
    Spec Tryz.prog 58 [.slice As 0 cs, .func (.func 59) #[] #[]].toArray [] (fun v L => v = .bool false ∧ L = []) := by
  refine Spec.enter Tryz.func58 rfl Tryz.ntmps58 rfl rfl (fun w0 R0 F0 => ?_)
  refine J.seq ?_
  refine J.region ?_
  refine JL.qt (Qt.assign rfl) rfl ?_
  refine JL.nil ?_
  refine JN.code ?_
  refine J.seq ?_
  refine J.region ?_
  refine JL.qt (Qt.move rfl) rfl ?_
  refine JL.qt (Qt.move rfl) rfl ?_
  refine JL.call (O1.call Tryz.func76 rfl rfl rfl [] rfl (s_ixf As cs)) rfl ?_
  rintro _ _ ⟨rfl, rfl⟩
  refine JL.qt (Qt.bin (v := .bool false) (fun _ => geq_run) rfl rfl rfl) rfl ?_
  refine JL.qt (Qt.assign rfl) rfl ?_
  refine JL.nil ?_
  refine JN.code ?_
  refine J.ret ?_
  refine JN.back (res1 rfl rfl) [] rfl ?_
  exact ⟨rfl, rfl⟩
theorem s_tnew :
    Spec Tryz.prog 17 [.int .i64 4096].toArray [] (fun v L => ∃ (q : Nat), v = .tuple #[.pointer (some ⟨q, 0, none⟩), .int .i64 0] ∧ L = [blk q 108 [.slice none 0 0, .int .i64 0, .int .i64 4096]]) := by
  refine Spec.enter Tryz.func17 rfl Tryz.ntmps17 rfl rfl (fun w0 R0 F0 => ?_)
  refine J.seq ?_
  refine J.region ?_
  refine JL.qt (Qt.assign rfl) rfl ?_
  refine JL.qt (Qt.assign rfl) rfl ?_
  refine JL.nil ?_
  refine JN.code ?_
  refine J.seq ?_
  refine J.seq ?_
  refine J.region ?_
  refine JL.qt (Qt.move rfl) rfl ?_
  refine JL.call (O1.call Tryz.func33 rfl rfl rfl [] rfl (s_dyntab_may 4096)) rfl ?_
  rintro _ _ ⟨rfl, rfl⟩
  refine JL.qt (Qt.un (fun _ => not_run) rfl) rfl ?_
  refine JL.nil ?_
  refine JN.code ?_
  refine J.cond_not rfl (fun h1 => ?_) (fun h1 => ?_)
  · exact absurd h1 (by decide)
  refine J.skip ?_
  refine JN.code ?_
  refine J.seq ?_
  refine J.region ?_
  refine JL.qt (Qt.move rfl) rfl ?_
  refine JL.qt (Qt.build sp108 ze108 rfl rfl) rfl ?_
  refine JL.ef (O1.box rfl rfl) rfl ?_
  rintro _ _ ⟨b_1, rfl, rfl⟩
  refine JL.qt (Qt.assign rfl) rfl ?_
  refine JL.qt (Qt.assign rfl) rfl ?_
  refine JL.nil ?_
  refine JN.code ?_
  refine J.ret ?_
  refine JN.back (res2 rfl rfl rfl) [0] rfl ?_
  exact ⟨_, rfl, rfl⟩
theorem s_enew :
    Spec Tryz.prog 9 [.int .i64 4096].toArray [] (fun v L => ∃ (e : Nat), ∃ (q : Nat), v = .tuple #[.pointer (some ⟨e, 0, none⟩), .int .i64 0] ∧ L = [blk e 85 [.pointer (some ⟨q, 0, none⟩)], blk q 108 [.slice none 0 0, .int .i64 0, .int .i64 4096]]) := by
  refine Spec.enter Tryz.func9 rfl Tryz.ntmps9 rfl rfl (fun w0 R0 F0 => ?_)
  refine J.seq ?_
  refine J.region ?_
  refine JL.qt (Qt.assign rfl) rfl ?_
  refine JL.qt (Qt.assign rfl) rfl ?_
  refine JL.nil ?_
  refine JN.code ?_
  refine J.seq ?_
  refine J.region ?_
  refine JL.qt (Qt.move rfl) rfl ?_
  refine JL.call (O1.call Tryz.func17 rfl rfl rfl [] rfl s_tnew) rfl ?_
  rintro _ _ ⟨q_1, rfl, rfl⟩
  refine JL.qt (Qt.move rfl) rfl ?_
  refine JL.qt (Qt.extract rfl rfl) rfl ?_
  refine JL.qt (Qt.extract rfl rfl) rfl ?_
  refine JL.qt (Qt.assign rfl) rfl ?_
  refine JL.qt (Qt.assign rfl) rfl ?_
  refine JL.nil ?_
  refine JN.code ?_
  refine J.seq ?_
  refine J.seq ?_
  refine J.region ?_
  refine JL.qt (Qt.move rfl) rfl ?_
  refine JL.qt (Qt.bin (v := .bool false) (fun _ => neq_run) rfl rfl rfl) rfl ?_
  refine JL.nil ?_
  refine JN.code ?_
  refine J.cond_false rfl ?_
  refine J.skip ?_
  refine JN.code ?_
  refine J.seq ?_
  refine J.region ?_
  refine JL.qt (Qt.move rfl) rfl ?_
  refine JL.qt (Qt.build sp85 ze85 rfl rfl) rfl ?_
  refine JL.ef (O1.box rfl rfl) rfl ?_
  rintro _ _ ⟨b_2, rfl, rfl⟩
  refine JL.qt (Qt.assign rfl) rfl ?_
  refine JL.qt (Qt.assign rfl) rfl ?_
  refine JL.nil ?_
  refine JN.code ?_
  refine J.ret ?_
  refine JN.back (res2 rfl rfl rfl) [0, 0] rfl ?_
  exact ⟨_, _, rfl, rfl⟩
theorem s_enc (e : Nat) (t : Nat) (A1 : Option Addr) (c1 : Nat) (xs : List ApiField) (sz : Int) (mx : Int) (Al : Option Addr) (cl : Nat) (l : List ApiField) (Ah : Option Addr) (ch : Nat) (how : List EncoderOption) (As : Option Addr) (cs : Nat) (hx : xs.length + l.length ≤ 1073741824) (hc : fcost l ≤ 536870912) :
    Spec Tryz.prog 38 [.pointer (some ⟨e, 0, none⟩), .slice As 0 cs, .slice Al l.length cl, .slice Ah how.length ch].toArray [blk e 85 [.pointer (some ⟨t, 0, none⟩)], blk t 108 [.slice A1 xs.length c1, .int .i64 sz, .int .i64 mx], row kApiField 146 A1 c1 xs, rd kApiField Al cl l, rd kEncoderOption Ah ch how, roc 0 0 [.int .i64 0, .int .i64 0, .int .i64 128, .int .i64 7, .int .i64 64, .int .i64 6, .int .i64 0, .int .i64 4, .int .i64 16, .int .i64 4, .int .i64 32, .int .i64 5]] (fun v L => ∃ (A2 : Option Addr), ∃ (c2 : Nat), ∃ (A3 : Option Addr), ∃ (c3 : Nat), v = .tuple #[.slice A3 (((f_enc xs sz mx l how).1).length) c3, .int .i64 0] ∧ L = [blk e 85 [.pointer (some ⟨t, 0, none⟩)], blk t 108 [.slice A2 (((f_enc xs sz mx l how).2.1).length) c2, .int .i64 ((f_enc xs sz mx l how).2.2), .int .i64 mx], row kApiField 146 A2 c2 ((f_enc xs sz mx l how).2.1), row (Kd.int .u8) 5 A3 c3 ((f_enc xs sz mx l how).1), rd kApiField Al cl l, rd kEncoderOption Ah ch how, roc 0 0 [.int .i64 0, .int .i64 0, .int .i64 128, .int .i64 7, .int .i64 64, .int .i64 6, .int .i64 0, .int .i64 4, .int .i64 16, .int .i64 4, .int .i64 32, .int .i64 5]]) := by
  refine Spec.enter Tryz.func38 rfl Tryz.ntmps38 rfl rfl (fun w0 R0 F0 => ?_)
  refine J.seq ?_
  refine J.region ?_
  refine JL.qt (Qt.assign rfl) rfl ?_
  refine JL.qt (Qt.assign rfl) rfl ?_
  refine JL.nil ?_
  refine JN.code ?_
  refine J.seq ?_
  refine J.block ?_
  refine J.seq ?_
  refine J.region ?_
  refine JL.qt (Qt.move rfl) rfl ?_
  refine JL.qt (Qt.bin (fun _ => nil_eql_run Tryz.underlying55) rfl rfl rfl) rfl ?_
  refine JL.qt (Qt.assign rfl) rfl ?_
  refine JL.nil ?_
  refine JN.code ?_
  refine J.cond_false rfl ?_
  refine J.seq ?_
  refine J.region ?_
  refine JL.qt (Qt.move rfl) rfl ?_
  refine JL.call (O1.call Tryz.func58 rfl rfl rfl [] rfl (s_cof As cs)) rfl ?_
  rintro _ _ ⟨rfl, rfl⟩
  refine JL.qt (Qt.assign rfl) rfl ?_
  refine JL.nil ?_
  refine JN.code ?_
  refine J.cond_false rfl ?_
  refine J.skip ?_
  refine JN.code ?_
  refine J.seq ?_
  refine J.seq ?_
  refine J.region ?_
  refine JL.qt (Qt.move rfl) rfl ?_
  refine JL.qt (Qt.nck rfl) rfl ?_
  refine JL.qt (Qt.fa (o' := 0) fo85_0 rfl rfl) rfl ?_
  refine JL.qt (Qt.ld 0 pl81 rfl rfl rfl) rfl ?_
  refine JL.qt (Qt.bin (fun _ => nil_eql_run Tryz.underlying81) rfl rfl rfl) rfl ?_
  refine JL.nil ?_
  refine JN.code ?_
  refine J.cond_false rfl ?_
  refine J.skip ?_
  refine JN.code ?_
  refine J.seq ?_
  refine J.region ?_
  refine JL.qt (Qt.assign rfl) rfl ?_
  refine JL.nil ?_
  refine JN.code ?_
  refine J.seq ?_
  refine J.seq ?_
  refine J.region ?_
  refine JL.qt (Qt.move rfl) rfl ?_
  refine JL.qt (Qt.bi (fun _ _ => len_slice_run Tryz.underlying26) rfl) rfl ?_
  refine JL.qt (Qt.move rfl) rfl ?_
  refine JL.nil ?_
  refine JN.code ?_
  refine J.block ?_
  refine J.unroll 1 ?_
  refine J.seq ?_
  refine J.region ?_
  refine JL.qt (Qt.bin (v := .bool false) (fun _ => lss_run) rfl rfl rfl) rfl ?_
  refine JL.nil ?_
  refine JN.code ?_
  refine J.seq ?_
  refine J.cond_false rfl ?_
  refine J.exit ?_
  refine JN.code ?_
  refine J.seq ?_
  refine J.seq ?_
  refine J.region ?_
  refine JL.qt (Qt.move rfl) rfl ?_
  refine JL.qt (Qt.bi (fun _ _ => len_slice_run Tryz.underlying41) rfl) rfl ?_
  refine JL.qt (Qt.move rfl) rfl ?_
  refine JL.nil ?_
  refine JN.code ?_
  refine J.block ?_
  have hT1 : f_enc xs sz mx l how = f_enc_l1 xs sz mx l how ((l.length - 0) + 1) 0 [] xs sz := by unfold f_enc; rfl
  refine J.intro_pers (p := row (Kd.int .u8) 5 none 0 []) (fun w R => row_nil _ _ w R) ?_
  refine J.loop6 (fun (i : Nat) (out : List Int) (ys : List ApiField) (s : Int) (ad : Option Addr × Nat × Option Addr × Nat) (m1 : Nat) => [(0, .pointer (some ⟨e, 0, none⟩)), (3, .slice Ah how.length ch), (8, .slice none 0 0), (9, .int .i64 0), (10, .slice ad.1 out.length ad.2.1), (58, .slice Al l.length cl), (59, .int .i64 ((l.length : Nat) : Int)), (60, .int .i64 (i : Int))]) (fun (i : Nat) (out : List Int) (ys : List ApiField) (s : Int) (ad : Option Addr × Nat × Option Addr × Nat) (m1 : Nat) => [blk e 85 [.pointer (some ⟨t, 0, none⟩)], blk t 108 [.slice ad.2.2.1 ys.length ad.2.2.2, .int .i64 s, .int .i64 mx], row kApiField 146 ad.2.2.1 ad.2.2.2 ys, row (Kd.int .u8) 5 ad.1 ad.2.1 out, rd kApiField Al cl l, rd kEncoderOption Ah ch how, roc 0 0 [.int .i64 0, .int .i64 0, .int .i64 128, .int .i64 7, .int .i64 64, .int .i64 6, .int .i64 0, .int .i64 4, .int .i64 16, .int .i64 4, .int .i64 32, .int .i64 5]]) (fun (i : Nat) (out : List Int) (ys : List ApiField) (s : Int) (ad : Option Addr × Nat × Option Addr × Nat) (m1 : Nat) => (i ≤ l.length ∧ ys.length ≤ xs.length + i ∧ out.length + fcost (l.drop i) ≤ fcost l) ∧ (l.length - i) < m1 ∧ f_enc_l1 xs sz mx l how m1 i out ys s = f_enc_l1 xs sz mx l how ((l.length - 0) + 1) 0 [] xs sz) (fun (i : Nat) (out : List Int) (ys : List ApiField) (s : Int) (ad : Option Addr × Nat × Option Addr × Nat) (m1 : Nat) => l.length - i) 0 [] xs sz (none, 0, A1, c1) ((l.length - 0) + 1) ⟨⟨Nat.zero_le _, Nat.le_refl _, by simp⟩, by omega, rfl⟩ ⟨rfl, rfl, rfl, rfl, rfl, rfl, rfl, rfl, trivial⟩ [1, 1, 1, 0, 0, 0, 0] rfl ?_
  rintro i out ys s ad m1 ⟨⟨hi, hys, hout⟩, hm1, hI1⟩
  obtain ⟨m1, rfl⟩ : ∃ z, m1 = z + 1 := ⟨m1 - 1, by omega⟩
  refine J.seq ?_
  refine J.region ?_
  refine JL.qt (Qt.bin (fun _ => lss_run) rfl rfl rfl) rfl ?_
  refine JL.nil ?_
  refine JN.code ?_
  refine J.seq ?_
  refine J.cond_dec rfl (fun h1 => ?_) (fun h1 => ?_)
  · refine J.skip ?_
    refine JN.code ?_
    refine J.seq ?_
    refine J.block ?_
    refine J.seq ?_
    have hu := getkD (xs := l) (k := i) fld0 (by omega)
    have hd := congrArg fcost (drop_at hu)
    rw [fcost] at hd
    refine J.elem (k := i) (u := ((l[i]?).getD fld0)) 4 rfl hu (fun b_1 o_2 cs_3 hA_4 => ?_); subst hA_4
    refine J.unf0 1 rfl unApiField ?_; rintro ⟨rfl, e_5, e_6⟩
    refine J.region ?_
    refine JL.qt (Qt.move rfl) rfl ?_
    refine JL.qt (Qt.ia Tryz.underlying41 sz146 rfl rfl (by omega) (by omega)) rfl ?_
    refine JL.qt (Qt.ldA_ro (j := 0) 0 ag146 sz146 rfl rfl rfl rfl rfl) rfl ?_
    refine JL.ef (O1.alloc ze146) rfl ?_
    rintro _ _ ⟨b_7, rfl, rfl⟩
    refine JL.qt (Qt.assign rfl) rfl ?_
    refine JL.sk (O1.stA 0 sz146 rfl rfl rfl rfl rfl rfl rfl rfl) ?_
    refine JL.nil ?_
    refine JN.code ?_
    refine J.seq ?_
    refine J.region ?_
    refine JL.ef (O1.alloc ze51) rfl ?_
    rintro _ _ ⟨b_8, rfl, rfl⟩
    refine JL.nil ?_
    refine JN.code ?_
    refine J.seq ?_
    refine J.seq ?_
    refine J.region ?_
    refine JL.qt (Qt.move rfl) rfl ?_
    refine JL.qt (Qt.bi (fun _ _ => len_slice_run Tryz.underlying48) rfl) rfl ?_
    refine JL.qt (Qt.bin (fun _ => gtr_run) rfl rfl rfl) rfl ?_
    refine JL.nil ?_
    refine JN.code ?_
    refine J.cond_dec rfl (fun h2 => ?_) (fun h2 => ?_)
    · have hv := getkD (xs := how) (k := i % how.length) opt0 (Nat.mod_lt _ (by omega))
      refine J.elem (k := (i % how.length)) (u := ((how[i % how.length]?).getD opt0)) 8 rfl hv (fun b_9 o_10 cs_11 hA_12 => ?_); subst hA_12
      refine J.unf0 1 rfl unEncoderOption ?_; rintro ⟨rfl, e_13⟩
      refine J.region ?_
      refine JL.qt (Qt.move rfl) rfl ?_
      refine JL.qt (Qt.move rfl) rfl ?_
      refine JL.qt (Qt.move rfl) rfl ?_
      refine JL.qt (Qt.bi (fun _ _ => len_slice_run Tryz.underlying48) rfl) rfl ?_
      refine JL.qt (Qt.bin (v := .int .i64 ((i % how.length : Nat) : Int)) (fun _ => by rw [remN_run (by omega) (by omega)]; rfl) rfl rfl rfl) rfl ?_
      refine JL.qt (Qt.ia Tryz.underlying48 sz51 rfl rfl (by omega) (by have := Nat.mod_lt i (y := how.length) (by omega); omega)) rfl ?_
      refine JL.qt (Qt.ldA_ro (j := 0) 0 ag51 sz51 rfl rfl rfl rfl rfl) rfl ?_
      refine JL.sk (O1.stA 1 sz51 rfl rfl rfl rfl rfl rfl rfl rfl) ?_
      refine JL.nil ?_
      refine JN.code ?_
      refine J.seq ?_
      refine J.keep [0, 3, 8, 9, 10, 58, 59, 60, 16, 17] rfl ?_
      refine J.sch (.qt 0 (.qt 1 (.qt 2 (.qt 3 (.qt 4 (.qt 5 (.ef 6 [] (.ef 7 [] (.qt 8 (.qt 9 (.qt 10 (.qt 11 (.qt 12 (.done)))))))))))))) mixed (by repeat (first | exact Xe.noLook_body | refine noLook_then ?_ | refine noLook_block ?_)) (by kernel_rfl) ?_
      refine JS.q0 rfl (Qt.move rfl) rfl ?_
      refine JS.q0 rfl (Qt.nck rfl) rfl ?_
      refine JS.q0 rfl (Qt.fa (o' := 0) fo85_0 rfl rfl) rfl ?_
      refine JS.q1 (j := 4) rfl rfl rfl (Qt.ld 0 pl81 rfl rfl rfl) rfl ?_
      refine JS.q1 (j := 2) rfl rfl rfl (Qt.ldA 0 ag146 sz146 rfl rfl rfl rfl) rfl ?_
      refine JS.q1 (j := 0) rfl rfl rfl (Qt.ldA 0 ag51 sz51 rfl rfl rfl rfl) rfl ?_
      refine JS.e1 ?_
      refine JE.ef rfl (O1.call Tryz.func62 rfl rfl rfl [5, 5] rfl (s_one t ad.2.2.1 ad.2.2.2 ys s mx _ _ (by omega) (by show _ ≤ 1099511627776; omega) (by show _ ≤ 1099511627776; omega))) rfl ?_
      rintro _ _ ⟨_, ⟨A2_14, c2_15, rfl, rfl⟩, rfl⟩
      refine ⟨⟨.inl rfl, ⟨.inl rfl, ⟨.inl rfl, trivial⟩⟩⟩, ?_⟩
      refine JS.e1 ?_
      refine JE.ef rfl (O1.call Tryz.func60 rfl rfl rfl [10] rfl (s_reprPut _ (by have := f_one_sz ys s mx ((l[i]?).getD fld0) ((how[i % how.length]?).getD opt0); omega) (by have := f_one_sz ys s mx ((l[i]?).getD fld0) ((how[i % how.length]?).getD opt0); omega))) rfl ?_
      rintro _ _ ⟨_, ⟨A2_16, c2_17, rfl, rfl⟩, rfl⟩
      refine ⟨⟨.inl rfl, ⟨.inl rfl, ⟨.inl rfl, trivial⟩⟩⟩, ?_⟩
      refine JS.q0 rfl (Qt.move rfl) rfl ?_
      refine JS.q0 rfl (Qt.extract rfl rfl) rfl ?_
      refine JS.q0 rfl (Qt.extract rfl rfl) rfl ?_
      refine JS.q0 rfl (Qt.assign rfl) rfl ?_
      refine JS.q0 rfl (Qt.assign rfl) rfl ?_
      refine JS.done ?_
      refine JN.code ?_
      refine J.region ?_
      refine JL.qt (Qt.move rfl) rfl ?_
      refine JL.qt (Qt.move rfl) rfl ?_
      refine JL.upd [0] rfl (row_freeze (by have := f_one_sz ys s mx ((l[i]?).getD fld0) ((how[i % how.length]?).getD opt0); have := f_reprPut_len (f_one ys s mx ((l[i]?).getD fld0) ((how[i % how.length]?).getD opt0)).1; show _ ≤ 1099511627776; omega)) ?_
      refine JL.ef (O1.appendRd (D := (Kd.int .u8)) (xs := out) (ys := ((f_reprPut ((f_one ys s mx ((l[i]?).getD fld0) ((how[i % how.length]?).getD opt0)).1)).1)) 9 0 el37 rfl rfl rfl rfl (by have := f_one_sz ys s mx ((l[i]?).getD fld0) ((how[i % how.length]?).getD opt0); have := f_reprPut_len (f_one ys s mx ((l[i]?).getD fld0) ((how[i % how.length]?).getD opt0)).1; omega)) rfl ?_
      rintro _ _ ⟨A_18, c_19, rfl, rfl⟩
      refine JL.qt (Qt.assign rfl) rfl ?_
      refine JL.nil ?_
      refine JN.code ?_
      refine J.keep [0, 3, 8, 9, 10, 58, 59, 60] rfl ?_
      refine J.region ?_
      refine JL.qt (Qt.bin (fun _ => addN_run rfl (by omega) (by omega)) rfl rfl rfl) rfl ?_
      refine JL.qt (Qt.move rfl) rfl ?_
      refine JL.nil ?_
      refine JN.round6 (z0 := i) (z1 := out) (z2 := ys) (z3 := s) (z4 := ad) (z5 := (m1 + 1)) (i + 1) (out ++ ((f_reprPut ((f_one ys s mx ((l[i]?).getD fld0) ((how[i % how.length]?).getD opt0)).1)).1)) ((f_one ys s mx ((l[i]?).getD fld0) ((how[i % how.length]?).getD opt0)).2.1) ((f_one ys s mx ((l[i]?).getD fld0) ((how[i % how.length]?).getD opt0)).2.2) (A_18, c_19, A2_14, c2_15) m1 (by omega) ⟨⟨by omega, by have := f_one_sz ys s mx ((l[i]?).getD fld0) ((how[i % how.length]?).getD opt0); omega, by have := f_one_sz ys s mx ((l[i]?).getD fld0) ((how[i % how.length]?).getD opt0); have := f_reprPut_len (f_one ys s mx ((l[i]?).getD fld0) ((how[i % how.length]?).getD opt0)).1; simp only [List.length_append]; omega⟩, by omega, by rw [← hI1, f_enc_l1]; rw [if_pos h1, if_pos h2] <;> rfl⟩ ⟨rfl, rfl, rfl, rfl, rfl, rfl, rfl, rfl, trivial⟩ [9, 3, 3, 0, 6, 6, 1] rfl
    refine J.skip ?_
    refine JN.code ?_
    refine J.seq ?_
    refine J.sch (.qt 0 (.qt 1 (.qt 2 (.qt 3 (.qt 4 (.qt 5 (.ef 6 [] (.ef 7 [] (.qt 8 (.qt 9 (.qt 10 (.qt 11 (.qt 12 (.done)))))))))))))) mixed (by repeat (first | exact Xe.noLook_body | refine noLook_then ?_ | refine noLook_block ?_)) (by kernel_rfl) ?_
    refine JS.q0 rfl (Qt.move rfl) rfl ?_
    refine JS.q0 rfl (Qt.nck rfl) rfl ?_
    refine JS.q0 rfl (Qt.fa (o' := 0) fo85_0 rfl rfl) rfl ?_
    refine JS.q1 (j := 3) rfl rfl rfl (Qt.ld 0 pl81 rfl rfl rfl) rfl ?_
    refine JS.q1 (j := 1) rfl rfl rfl (Qt.ldA 0 ag146 sz146 rfl rfl rfl rfl) rfl ?_
    refine JS.q1 (j := 0) rfl rfl rfl (Qt.ldA 0 ag51 sz51 rfl rfl rfl rfl) rfl ?_
    refine JS.e1 ?_
    refine JE.ef rfl (O1.call Tryz.func62 rfl rfl rfl [4, 4] rfl (s_one t ad.2.2.1 ad.2.2.2 ys s mx _ (⟨0, false, false, false⟩ : EncoderOption) (by omega) (by show _ ≤ 1099511627776; omega) (by show _ ≤ 1099511627776; omega))) rfl ?_
    rintro _ _ ⟨_, ⟨A2_20, c2_21, rfl, rfl⟩, rfl⟩
    refine ⟨⟨.inl rfl, ⟨.inl rfl, ⟨.inl rfl, trivial⟩⟩⟩, ?_⟩
    refine JS.e1 ?_
    refine JE.ef rfl (O1.call Tryz.func60 rfl rfl rfl [9] rfl (s_reprPut _ (by have := f_one_sz ys s mx ((l[i]?).getD fld0) (⟨0, false, false, false⟩ : EncoderOption); omega) (by have := f_one_sz ys s mx ((l[i]?).getD fld0) (⟨0, false, false, false⟩ : EncoderOption); omega))) rfl ?_
    rintro _ _ ⟨_, ⟨A2_22, c2_23, rfl, rfl⟩, rfl⟩
    refine ⟨⟨.inl rfl, ⟨.inl rfl, ⟨.inl rfl, trivial⟩⟩⟩, ?_⟩
    refine JS.q0 rfl (Qt.move rfl) rfl ?_
    refine JS.q0 rfl (Qt.extract rfl rfl) rfl ?_
    refine JS.q0 rfl (Qt.extract rfl rfl) rfl ?_
    refine JS.q0 rfl (Qt.assign rfl) rfl ?_
    refine JS.q0 rfl (Qt.assign rfl) rfl ?_
    refine JS.done ?_
    refine JN.code ?_
    refine J.keep [0, 3, 8, 9, 10, 58, 59, 60, 18] rfl ?_
    refine J.region ?_
    refine JL.qt (Qt.move rfl) rfl ?_
    refine JL.qt (Qt.move rfl) rfl ?_
    refine JL.upd [0] rfl (row_freeze (by have := f_one_sz ys s mx ((l[i]?).getD fld0) (⟨0, false, false, false⟩ : EncoderOption); have := f_reprPut_len (f_one ys s mx ((l[i]?).getD fld0) (⟨0, false, false, false⟩ : EncoderOption)).1; show _ ≤ 1099511627776; omega)) ?_
    refine JL.ef (O1.appendRd (D := (Kd.int .u8)) (xs := out) (ys := ((f_reprPut ((f_one ys s mx ((l[i]?).getD fld0) (⟨0, false, false, false⟩ : EncoderOption)).1)).1)) 8 0 el37 rfl rfl rfl rfl (by have := f_one_sz ys s mx ((l[i]?).getD fld0) (⟨0, false, false, false⟩ : EncoderOption); have := f_reprPut_len (f_one ys s mx ((l[i]?).getD fld0) (⟨0, false, false, false⟩ : EncoderOption)).1; omega)) rfl ?_
    rintro _ _ ⟨A_24, c_25, rfl, rfl⟩
    refine JL.qt (Qt.assign rfl) rfl ?_
    refine JL.nil ?_
    refine JN.code ?_
    refine J.region ?_
    refine JL.qt (Qt.bin (fun _ => addN_run rfl (by omega) (by omega)) rfl rfl rfl) rfl ?_
    refine JL.qt (Qt.move rfl) rfl ?_
    refine JL.nil ?_
    refine JN.round6 (z0 := i) (z1 := out) (z2 := ys) (z3 := s) (z4 := ad) (z5 := (m1 + 1)) (i + 1) (out ++ ((f_reprPut ((f_one ys s mx ((l[i]?).getD fld0) (⟨0, false, false, false⟩ : EncoderOption)).1)).1)) ((f_one ys s mx ((l[i]?).getD fld0) (⟨0, false, false, false⟩ : EncoderOption)).2.1) ((f_one ys s mx ((l[i]?).getD fld0) (⟨0, false, false, false⟩ : EncoderOption)).2.2) (A_24, c_25, A2_20, c2_21) m1 (by omega) ⟨⟨by omega, by have := f_one_sz ys s mx ((l[i]?).getD fld0) (⟨0, false, false, false⟩ : EncoderOption); omega, by have := f_one_sz ys s mx ((l[i]?).getD fld0) (⟨0, false, false, false⟩ : EncoderOption); have := f_reprPut_len (f_one ys s mx ((l[i]?).getD fld0) (⟨0, false, false, false⟩ : EncoderOption)).1; simp only [List.length_append]; omega⟩, by omega, by rw [← hI1, f_enc_l1]; rw [if_pos h1, if_neg h2] <;> rfl⟩ ⟨rfl, rfl, rfl, rfl, rfl, rfl, rfl, rfl, trivial⟩ [8, 3, 3, 0, 5, 5, 1] rfl
  refine J.exit ?_
  refine JN.code ?_
  refine J.seq ?_
  refine J.region ?_
  refine JL.qt (Qt.move rfl) rfl ?_
  refine JL.qt (Qt.assign rfl) rfl ?_
  refine JL.qt (Qt.assign rfl) rfl ?_
  refine JL.nil ?_
  refine JN.code ?_
  refine J.ret ?_
  refine JN.back (res2 rfl rfl rfl) [0, 0, 0, 0, 0, 0, 0] rfl ?_
  exact ⟨ad.2.2.1, ad.2.2.2, ad.1, ad.2.1, by rw [hT1, ← hI1, f_enc_l1]; rw [if_neg h1] <;> rfl, by rw [hT1, ← hI1, f_enc_l1]; rw [if_neg h1] <;> rfl⟩
end Go.Proofs.YthjbkngecgbioaaGreatDoor.Sl
