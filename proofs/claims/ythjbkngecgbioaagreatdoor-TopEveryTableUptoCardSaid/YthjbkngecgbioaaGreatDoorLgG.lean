/- Numbers, octets, frames are written as told (each theorem names its bounds). -/
import Derived.Test.YthjbkngecgbioaaGreatDoorLgF
import Derived.Test.YthjbkngecgbioaaGreatDoorProg
set_option linter.unusedVariables false
set_option linter.unusedSimpArgs false
set_option linter.deprecated false
/- Walks: functions of numbers. -/
set_option maxRecDepth 100000
set_option linter.unusedSimpArgs false
set_option linter.unusedVariables false
namespace Go.Proofs.YthjbkngecgbioaaGreatDoor.Sl
open Go
theorem ze104 : zeroTy Tryz.prog 104 = some [.int .i64 0, .int .i64 0] := by kernel_rfl
theorem sp104 : structPl Tryz.prog 104 = some [(0, 1), (1, 1)] := by kernel_rfl
theorem sz104 : szTy Tryz.prog 104 = some 2 := by kernel_rfl
theorem ag104 : aggTy Tryz.prog 104 = true := by kernel_rfl
structure ApiFault where
  Scope : Int
  Code : Int
def kApiFault : Kd ApiFault := Kd.iso (Kd.pair (Kd.int .i64) (Kd.int .i64)) (fun x => (x.Scope, x.Code))
theorem unApiFault {x : ApiFault} {cs : List Value} : ∀ w R F, (kd kApiFault x cs).h w R F → (cs = [.int .i64 x.Scope, .int .i64 x.Code] ∧ inK .i64 x.Scope ∧ inK .i64 x.Code) ∧ Star [] w R F := by
  intro w R F h
  simp only [kd, kApiFault, Kd.iso, Kd.pair, Kd.int, Kd.bool, Kd.str, Kd.sl] at h
  obtain ⟨_, _, rfl, ⟨rfl, h0⟩, ⟨rfl, h1⟩⟩ := h
  exact ⟨⟨rfl, h0, h1⟩, trivial⟩
theorem mkApiFault {x : ApiFault} {w : World} {R : Foot}  (h0 : inK .i64 x.Scope) (h1 : inK .i64 x.Code) : kApiFault.rel w R x [.int .i64 x.Scope, .int .i64 x.Code] := by
  simp only [kApiFault, Kd.iso, Kd.pair, Kd.int, Kd.bool, Kd.str, Kd.sl]
  exact ⟨_, _, rfl, ⟨rfl, h0⟩, ⟨rfl, h1⟩⟩
theorem mixed : Tryz.prog.follows .mixedOrders = true := by kernel_rfl
def f_dyntab_may (n : Int) : Bool := if n ≥ 0 then (decide (n ≤ 2147483647)) else false
def f_weave_sided (n : Int) : Bool := if n = 0 then true else (n == 1)
def f_kinds_Used (t : Int) : Int := if t = 0 then 9 else if t = 1 then 45 else if t = 4 then 1 else if t = 6 then 1 else if t = 5 then 12 else if t = 9 then 4 else 0
def f_octet_With (n : Int) (b : Bool) : Int × Int := if n < 0 then (0, 5) else if n ≥ 2147483648 then (0, 5) else if b = true then ((Sl.bor .i64 n 2147483648), 0) else (n, 0)
def f_head_within (n : Int) (most : Int) : Bool := if n ≥ 0 then (decide (n ≤ most)) else false
def f_kinds_Streams (t : Int) : Int := if t = 4 then 0 else if t = 6 then 0 else if t = 7 then 0 else if t = 0 then 1 else if t = 1 then 1 else if t = 2 then 1 else if t = 3 then 1 else if t = 5 then 1 else if t = 9 then 1 else 2
def f_frame_fault (a : Int) (b : Int) : ApiFault := (⟨a, b⟩ : ApiFault)
def f_frame_scope (t : Int) : Int := if t = 0 then 1 else if t = 2 then 1 else 2
def f_octet_Low (n : Int) : Int × Bool := if n < 0 then (0, false) else if n ≥ 4294967296 then (0, false) else ((Sl.bandNot .i64 n 2147483648), ((Sl.band .i64 n 2147483648) != 0))
def f_weave_starts (t : Int) : Bool := if t = 1 then true else (t == 5)
def f_encoder_wrong (n : Int) : Bool := if n < 0 then true else (decide (n > 2147483647))
def f_repr_within (n : Int) : Bool := if n ≥ 0 then (decide (n ≤ 2147483647)) else false
def f_repr_texts (k : Int) : Bool := if k = 2 then true else if k = 3 then true else (k == 4)
def f_bitrow_many (n : Int) : Bool := if n ≥ 0 then (decide (n ≤ 32)) else false
def f_kinds_Has (t : Int) (flags : Int) (flag : Int) : Bool := if flag = 1 then if flags ≥ 0 then ((Sl.band .i64 (Sl.band .i64 (f_kinds_Used t) flags) flag) != 0) else false else if flag = 4 then if flags ≥ 0 then ((Sl.band .i64 (Sl.band .i64 (f_kinds_Used t) flags) flag) != 0) else false else if flag = 8 then if flags ≥ 0 then ((Sl.band .i64 (Sl.band .i64 (f_kinds_Used t) flags) flag) != 0) else false else if flag = 32 then if flags ≥ 0 then ((Sl.band .i64 (Sl.band .i64 (f_kinds_Used t) flags) flag) != 0) else false else false
theorem s_dyntab_may (n : Int) :
    Spec Tryz.prog 33 [.int .i64 n].toArray [] (fun v L => v = .bool (f_dyntab_may n) ∧ L = []) := by
  refine Spec.enter Tryz.func33 rfl Tryz.ntmps33 rfl rfl (fun w0 R0 F0 => ?_)
  refine J.seq ?_
  refine J.region ?_
  refine JL.qt (Qt.assign rfl) rfl ?_
  refine JL.nil ?_
  refine JN.code ?_
  refine J.seq ?_
  refine J.region ?_
  refine JL.qt (Qt.move rfl) rfl ?_
  refine JL.qt (Qt.bin (fun _ => geq_run) rfl rfl rfl) rfl ?_
  refine JL.qt (Qt.move rfl) rfl ?_
  refine JL.cases_dec (t := 5) rfl (fun h1 => ?_) (fun h1 => ?_)
  · refine JL.g_in rfl rfl ?_
    refine JL.qt (Qt.move rfl) rfl ?_
    refine JL.g_in rfl rfl ?_
    refine JL.qt (Qt.bin (fun _ => leq_run) rfl rfl rfl) rfl ?_
    refine JL.qt (Qt.pick_t rfl rfl) rfl ?_
    refine JL.qt (Qt.assign rfl) rfl ?_
    refine JL.nil ?_
    refine JN.code ?_
    refine J.ret ?_
    refine JN.back (res1 rfl rfl) [] rfl ?_
    exact ⟨by unfold f_dyntab_may; rw [if_pos h1] <;> rfl, rfl⟩
  refine JL.g_outU rfl rfl rfl rfl ?_
  refine JL.g_outU rfl rfl rfl rfl ?_
  refine JL.qt (Qt.pick_f rfl rfl) rfl ?_
  refine JL.qt (Qt.assign rfl) rfl ?_
  refine JL.nil ?_
  refine JN.code ?_
  refine J.ret ?_
  refine JN.back (res1 rfl rfl) [] rfl ?_
  exact ⟨by unfold f_dyntab_may; rw [if_neg h1] <;> rfl, rfl⟩
theorem s_weave_sided (n : Int) :
    Spec Tryz.prog 34 [.int .i64 n].toArray [] (fun v L => v = .bool (f_weave_sided n) ∧ L = []) := by
  refine Spec.enter Tryz.func34 rfl Tryz.ntmps34 rfl rfl (fun w0 R0 F0 => ?_)
  refine J.seq ?_
  refine J.region ?_
  refine JL.qt (Qt.assign rfl) rfl ?_
  refine JL.nil ?_
  refine JN.code ?_
  refine J.seq ?_
  refine J.region ?_
  refine JL.qt (Qt.move rfl) rfl ?_
  refine JL.qt (Qt.bin (fun _ => eql_run) rfl rfl rfl) rfl ?_
  refine JL.qt (Qt.move rfl) rfl ?_
  refine JL.cases_eq (t := 5) rfl (fun h1 => ?_) (fun h1 => ?_)
  · refine JL.g_outU rfl rfl rfl rfl ?_
    refine JL.g_outU rfl rfl rfl rfl ?_
    refine JL.qt (Qt.pick_t rfl rfl) rfl ?_
    refine JL.qt (Qt.assign rfl) rfl ?_
    refine JL.nil ?_
    refine JN.code ?_
    refine J.ret ?_
    refine JN.back (res1 rfl rfl) [] rfl ?_
    exact ⟨by unfold f_weave_sided; rw [if_pos h1] <;> rfl, rfl⟩
  refine JL.g_in rfl rfl ?_
  refine JL.qt (Qt.move rfl) rfl ?_
  refine JL.g_in rfl rfl ?_
  refine JL.qt (Qt.bin (fun _ => eql_run) rfl rfl rfl) rfl ?_
  refine JL.qt (Qt.pick_f rfl rfl) rfl ?_
  refine JL.qt (Qt.assign rfl) rfl ?_
  refine JL.nil ?_
  refine JN.code ?_
  refine J.ret ?_
  refine JN.back (res1 rfl rfl) [] rfl ?_
  exact ⟨by unfold f_weave_sided; rw [if_neg h1] <;> rfl, rfl⟩
theorem s_kinds_Used (t : Int) :
    Spec Tryz.prog 57 [.int .i64 t].toArray [] (fun v L => v = .int .i64 (f_kinds_Used t) ∧ L = []) := by
  refine Spec.enter Tryz.func57 rfl Tryz.ntmps57 rfl rfl (fun w0 R0 F0 => ?_)
  refine J.seq ?_
  refine J.region ?_
  refine JL.qt (Qt.assign rfl) rfl ?_
  refine JL.nil ?_
  refine JN.code ?_
  refine J.seq ?_
  refine J.seq ?_
  refine J.region ?_
  refine JL.qt (Qt.move rfl) rfl ?_
  refine JL.nil ?_
  refine JN.code ?_
  refine J.block ?_
  refine J.seq ?_
  refine J.region ?_
  refine JL.qt (Qt.bin (fun _ => eql_run) rfl rfl rfl) rfl ?_
  refine JL.qt (Qt.assign rfl) rfl ?_
  refine JL.nil ?_
  refine JN.code ?_
  refine J.cond_eq rfl (fun h1 => ?_) (fun h1 => ?_)
  · refine J.seq ?_
    refine J.region ?_
    refine JL.qt (Qt.assign rfl) rfl ?_
    refine JL.nil ?_
    refine JN.code ?_
    refine J.ret ?_
    refine JN.back (res1 rfl rfl) [] rfl ?_
    exact ⟨by unfold f_kinds_Used; rw [if_pos h1] <;> rfl, rfl⟩
  refine J.seq ?_
  refine J.region ?_
  refine JL.qt (Qt.bin (fun _ => eql_run) rfl rfl rfl) rfl ?_
  refine JL.qt (Qt.assign rfl) rfl ?_
  refine JL.nil ?_
  refine JN.code ?_
  refine J.cond_eq rfl (fun h2 => ?_) (fun h2 => ?_)
  · refine J.seq ?_
    refine J.region ?_
    refine JL.qt (Qt.assign rfl) rfl ?_
    refine JL.nil ?_
    refine JN.code ?_
    refine J.ret ?_
    refine JN.back (res1 rfl rfl) [] rfl ?_
    exact ⟨by unfold f_kinds_Used; rw [if_neg h1, if_pos h2] <;> rfl, rfl⟩
  refine J.seq ?_
  refine J.seq ?_
  refine J.region ?_
  refine JL.qt (Qt.bin (fun _ => eql_run) rfl rfl rfl) rfl ?_
  refine JL.qt (Qt.assign rfl) rfl ?_
  refine JL.nil ?_
  refine JN.code ?_
  refine J.cond_eq rfl (fun h3 => ?_) (fun h3 => ?_)
  · refine J.skip ?_
    refine JN.code ?_
    refine J.cond_eq rfl (fun h => ?_) (fun h => absurd h3 h)
    refine J.seq ?_
    refine J.region ?_
    refine JL.qt (Qt.assign rfl) rfl ?_
    refine JL.nil ?_
    refine JN.code ?_
    refine J.ret ?_
    refine JN.back (res1 rfl rfl) [] rfl ?_
    exact ⟨by unfold f_kinds_Used; rw [if_neg h1, if_neg h2, if_pos h3] <;> rfl, rfl⟩
  refine J.region ?_
  refine JL.qt (Qt.bin (fun _ => eql_run) rfl rfl rfl) rfl ?_
  refine JL.qt (Qt.assign rfl) rfl ?_
  refine JL.nil ?_
  refine JN.code ?_
  refine J.cond_eq rfl (fun h4 => ?_) (fun h4 => ?_)
  · refine J.seq ?_
    refine J.region ?_
    refine JL.qt (Qt.assign rfl) rfl ?_
    refine JL.nil ?_
    refine JN.code ?_
    refine J.ret ?_
    refine JN.back (res1 rfl rfl) [] rfl ?_
    exact ⟨by unfold f_kinds_Used; rw [if_neg h1, if_neg h2, if_neg h3, if_pos h4] <;> rfl, rfl⟩
  refine J.seq ?_
  refine J.region ?_
  refine JL.qt (Qt.bin (fun _ => eql_run) rfl rfl rfl) rfl ?_
  refine JL.qt (Qt.assign rfl) rfl ?_
  refine JL.nil ?_
  refine JN.code ?_
  refine J.cond_eq rfl (fun h5 => ?_) (fun h5 => ?_)
  · refine J.seq ?_
    refine J.region ?_
    refine JL.qt (Qt.assign rfl) rfl ?_
    refine JL.nil ?_
    refine JN.code ?_
    refine J.ret ?_
    refine JN.back (res1 rfl rfl) [] rfl ?_
    exact ⟨by unfold f_kinds_Used; rw [if_neg h1, if_neg h2, if_neg h3, if_neg h4, if_pos h5] <;> rfl, rfl⟩
  refine J.seq ?_
  refine J.region ?_
  refine JL.qt (Qt.bin (fun _ => eql_run) rfl rfl rfl) rfl ?_
  refine JL.qt (Qt.assign rfl) rfl ?_
  refine JL.nil ?_
  refine JN.code ?_
  refine J.cond_eq rfl (fun h6 => ?_) (fun h6 => ?_)
  · refine J.seq ?_
    refine J.region ?_
    refine JL.qt (Qt.assign rfl) rfl ?_
    refine JL.nil ?_
    refine JN.code ?_
    refine J.ret ?_
    refine JN.back (res1 rfl rfl) [] rfl ?_
    exact ⟨by unfold f_kinds_Used; rw [if_neg h1, if_neg h2, if_neg h3, if_neg h4, if_neg h5, if_pos h6] <;> rfl, rfl⟩
  refine J.skip ?_
  refine JN.code ?_
  refine J.seq ?_
  refine J.region ?_
  refine JL.qt (Qt.assign rfl) rfl ?_
  refine JL.nil ?_
  refine JN.code ?_
  refine J.ret ?_
  refine JN.back (res1 rfl rfl) [] rfl ?_
  exact ⟨by unfold f_kinds_Used; rw [if_neg h1, if_neg h2, if_neg h3, if_neg h4, if_neg h5, if_neg h6] <;> rfl, rfl⟩
theorem s_octet_With (n : Int) (b : Bool) :
    Spec Tryz.prog 41 [.int .i64 n, .bool b].toArray [] (fun v L => v = .tuple #[.int .i64 ((f_octet_With n b).1), .int .i64 ((f_octet_With n b).2)] ∧ L = []) := by
  refine Spec.enter Tryz.func41 rfl Tryz.ntmps41 rfl rfl (fun w0 R0 F0 => ?_)
  refine J.seq ?_
  refine J.region ?_
  refine JL.qt (Qt.assign rfl) rfl ?_
  refine JL.qt (Qt.assign rfl) rfl ?_
  refine JL.nil ?_
  refine JN.code ?_
  refine J.seq ?_
  refine J.block ?_
  refine J.seq ?_
  refine J.region ?_
  refine JL.qt (Qt.move rfl) rfl ?_
  refine JL.qt (Qt.bin (fun _ => lss_run) rfl rfl rfl) rfl ?_
  refine JL.qt (Qt.move rfl) rfl ?_
  refine JL.cases_dec (t := 9) rfl (fun h1 => ?_) (fun h1 => ?_)
  · refine JL.g_outU rfl rfl rfl rfl ?_
    refine JL.g_outU rfl rfl rfl rfl ?_
    refine JL.qt (Qt.pick_t rfl rfl) rfl ?_
    refine JL.qt (Qt.assign rfl) rfl ?_
    refine JL.nil ?_
    refine JN.code ?_
    refine J.cond_true rfl ?_
    refine J.seq ?_
    refine J.region ?_
    refine JL.qt (Qt.assign rfl) rfl ?_
    refine JL.qt (Qt.assign rfl) rfl ?_
    refine JL.nil ?_
    refine JN.code ?_
    refine J.ret ?_
    refine JN.back (res2 rfl rfl rfl) [] rfl ?_
    exact ⟨by unfold f_octet_With; rw [if_pos h1] <;> rfl, rfl⟩
  refine JL.g_in rfl rfl ?_
  refine JL.qt (Qt.move rfl) rfl ?_
  refine JL.g_in rfl rfl ?_
  refine JL.qt (Qt.bin (fun _ => geq_run) rfl rfl rfl) rfl ?_
  refine JL.qt (Qt.pick_f rfl rfl) rfl ?_
  refine JL.qt (Qt.assign rfl) rfl ?_
  refine JL.nil ?_
  refine JN.code ?_
  refine J.cond_dec rfl (fun h2 => ?_) (fun h2 => ?_)
  · refine J.seq ?_
    refine J.region ?_
    refine JL.qt (Qt.assign rfl) rfl ?_
    refine JL.qt (Qt.assign rfl) rfl ?_
    refine JL.nil ?_
    refine JN.code ?_
    refine J.ret ?_
    refine JN.back (res2 rfl rfl rfl) [] rfl ?_
    exact ⟨by unfold f_octet_With; rw [if_neg h1, if_pos h2] <;> rfl, rfl⟩
  refine J.seq ?_
  refine J.region ?_
  refine JL.qt (Qt.move rfl) rfl ?_
  refine JL.qt (Qt.assign rfl) rfl ?_
  refine JL.nil ?_
  refine JN.code ?_
  refine J.cond rfl (fun h3 => ?_) (fun h3 => ?_)
  · refine J.seq ?_
    refine J.region ?_
    refine JL.qt (Qt.move rfl) rfl ?_
    refine JL.qt (Qt.bin (fun _ => or_run) rfl rfl rfl) rfl ?_
    refine JL.qt (Qt.assign rfl) rfl ?_
    refine JL.qt (Qt.assign rfl) rfl ?_
    refine JL.nil ?_
    refine JN.code ?_
    refine J.ret ?_
    refine JN.back (res2 rfl rfl rfl) [] rfl ?_
    exact ⟨by unfold f_octet_With; rw [if_neg h1, if_neg h2, if_pos h3] <;> rfl, rfl⟩
  refine J.skip ?_
  refine JN.code ?_
  refine J.seq ?_
  refine J.region ?_
  refine JL.qt (Qt.move rfl) rfl ?_
  refine JL.qt (Qt.assign rfl) rfl ?_
  refine JL.qt (Qt.assign rfl) rfl ?_
  refine JL.nil ?_
  refine JN.code ?_
  refine J.ret ?_
  refine JN.back (res2 rfl rfl rfl) [] rfl ?_
  exact ⟨by unfold f_octet_With; rw [if_neg h1, if_neg h2, if_neg (Bool.eq_false_iff.1 h3)] <;> rfl, rfl⟩
theorem s_head_within (n : Int) (most : Int) :
    Spec Tryz.prog 66 [.int .i64 n, .int .i64 most].toArray [] (fun v L => v = .bool (f_head_within n most) ∧ L = []) := by
  refine Spec.enter Tryz.func66 rfl Tryz.ntmps66 rfl rfl (fun w0 R0 F0 => ?_)
  refine J.seq ?_
  refine J.region ?_
  refine JL.qt (Qt.assign rfl) rfl ?_
  refine JL.nil ?_
  refine JN.code ?_
  refine J.seq ?_
  refine J.region ?_
  refine JL.qt (Qt.move rfl) rfl ?_
  refine JL.qt (Qt.bin (fun _ => geq_run) rfl rfl rfl) rfl ?_
  refine JL.qt (Qt.move rfl) rfl ?_
  refine JL.cases_dec (t := 7) rfl (fun h1 => ?_) (fun h1 => ?_)
  · refine JL.g_in rfl rfl ?_
    refine JL.qt (Qt.move rfl) rfl ?_
    refine JL.g_in rfl rfl ?_
    refine JL.qt (Qt.move rfl) rfl ?_
    refine JL.g_in rfl rfl ?_
    refine JL.qt (Qt.bin (fun _ => leq_run) rfl rfl rfl) rfl ?_
    refine JL.qt (Qt.pick_t rfl rfl) rfl ?_
    refine JL.qt (Qt.assign rfl) rfl ?_
    refine JL.nil ?_
    refine JN.code ?_
    refine J.ret ?_
    refine JN.back (res1 rfl rfl) [] rfl ?_
    exact ⟨by unfold f_head_within; rw [if_pos h1] <;> rfl, rfl⟩
  refine JL.g_outU rfl rfl rfl rfl ?_
  refine JL.g_outU rfl rfl rfl rfl ?_
  refine JL.g_outU rfl rfl rfl rfl ?_
  refine JL.qt (Qt.pick_f rfl rfl) rfl ?_
  refine JL.qt (Qt.assign rfl) rfl ?_
  refine JL.nil ?_
  refine JN.code ?_
  refine J.ret ?_
  refine JN.back (res1 rfl rfl) [] rfl ?_
  exact ⟨by unfold f_head_within; rw [if_neg h1] <;> rfl, rfl⟩
theorem s_kinds_Streams (t : Int) :
    Spec Tryz.prog 129 [.int .i64 t].toArray [] (fun v L => v = .int .i64 (f_kinds_Streams t) ∧ L = []) := by
  refine Spec.enter Tryz.func129 rfl Tryz.ntmps129 rfl rfl (fun w0 R0 F0 => ?_)
  refine J.seq ?_
  refine J.region ?_
  refine JL.qt (Qt.assign rfl) rfl ?_
  refine JL.nil ?_
  refine JN.code ?_
  refine J.seq ?_
  refine J.seq ?_
  refine J.region ?_
  refine JL.qt (Qt.move rfl) rfl ?_
  refine JL.nil ?_
  refine JN.code ?_
  refine J.block ?_
  refine J.seq ?_
  refine J.seq ?_
  refine J.region ?_
  refine JL.qt (Qt.bin (fun _ => eql_run) rfl rfl rfl) rfl ?_
  refine JL.qt (Qt.assign rfl) rfl ?_
  refine JL.nil ?_
  refine JN.code ?_
  refine J.cond_eq rfl (fun h1 => ?_) (fun h1 => ?_)
  · refine J.skip ?_
    refine JN.code ?_
    refine J.cond_eq rfl (fun h => ?_) (fun h => absurd h1 h)
    refine J.seq ?_
    refine J.region ?_
    refine JL.qt (Qt.assign rfl) rfl ?_
    refine JL.nil ?_
    refine JN.code ?_
    refine J.ret ?_
    refine JN.back (res1 rfl rfl) [] rfl ?_
    exact ⟨by unfold f_kinds_Streams; rw [if_pos h1] <;> rfl, rfl⟩
  refine J.seq ?_
  refine J.region ?_
  refine JL.qt (Qt.bin (fun _ => eql_run) rfl rfl rfl) rfl ?_
  refine JL.qt (Qt.assign rfl) rfl ?_
  refine JL.nil ?_
  refine JN.code ?_
  refine J.cond_eq rfl (fun h2 => ?_) (fun h2 => ?_)
  · refine J.skip ?_
    refine JN.code ?_
    refine J.cond_eq rfl (fun h => ?_) (fun h => absurd h2 h)
    refine J.seq ?_
    refine J.region ?_
    refine JL.qt (Qt.assign rfl) rfl ?_
    refine JL.nil ?_
    refine JN.code ?_
    refine J.ret ?_
    refine JN.back (res1 rfl rfl) [] rfl ?_
    exact ⟨by unfold f_kinds_Streams; rw [if_neg h1, if_pos h2] <;> rfl, rfl⟩
  refine J.region ?_
  refine JL.qt (Qt.bin (fun _ => eql_run) rfl rfl rfl) rfl ?_
  refine JL.qt (Qt.assign rfl) rfl ?_
  refine JL.nil ?_
  refine JN.code ?_
  refine J.cond_eq rfl (fun h3 => ?_) (fun h3 => ?_)
  · refine J.seq ?_
    refine J.region ?_
    refine JL.qt (Qt.assign rfl) rfl ?_
    refine JL.nil ?_
    refine JN.code ?_
    refine J.ret ?_
    refine JN.back (res1 rfl rfl) [] rfl ?_
    exact ⟨by unfold f_kinds_Streams; rw [if_neg h1, if_neg h2, if_pos h3] <;> rfl, rfl⟩
  refine J.seq ?_
  refine J.seq ?_
  refine J.region ?_
  refine JL.qt (Qt.bin (fun _ => eql_run) rfl rfl rfl) rfl ?_
  refine JL.qt (Qt.assign rfl) rfl ?_
  refine JL.nil ?_
  refine JN.code ?_
  refine J.cond_eq rfl (fun h4 => ?_) (fun h4 => ?_)
  · refine J.skip ?_
    refine JN.code ?_
    refine J.cond_eq rfl (fun h => ?_) (fun h => absurd h4 h)
    refine J.seq ?_
    refine J.region ?_
    refine JL.qt (Qt.assign rfl) rfl ?_
    refine JL.nil ?_
    refine JN.code ?_
    refine J.ret ?_
    refine JN.back (res1 rfl rfl) [] rfl ?_
    exact ⟨by unfold f_kinds_Streams; rw [if_neg h1, if_neg h2, if_neg h3, if_pos h4] <;> rfl, rfl⟩
  refine J.seq ?_
  refine J.region ?_
  refine JL.qt (Qt.bin (fun _ => eql_run) rfl rfl rfl) rfl ?_
  refine JL.qt (Qt.assign rfl) rfl ?_
  refine JL.nil ?_
  refine JN.code ?_
  refine J.cond_eq rfl (fun h5 => ?_) (fun h5 => ?_)
  · refine J.skip ?_
    refine JN.code ?_
    refine J.cond_eq rfl (fun h => ?_) (fun h => absurd h5 h)
    refine J.seq ?_
    refine J.region ?_
    refine JL.qt (Qt.assign rfl) rfl ?_
    refine JL.nil ?_
    refine JN.code ?_
    refine J.ret ?_
    refine JN.back (res1 rfl rfl) [] rfl ?_
    exact ⟨by unfold f_kinds_Streams; rw [if_neg h1, if_neg h2, if_neg h3, if_neg h4, if_pos h5] <;> rfl, rfl⟩
  refine J.seq ?_
  refine J.region ?_
  refine JL.qt (Qt.bin (fun _ => eql_run) rfl rfl rfl) rfl ?_
  refine JL.qt (Qt.assign rfl) rfl ?_
  refine JL.nil ?_
  refine JN.code ?_
  refine J.cond_eq rfl (fun h6 => ?_) (fun h6 => ?_)
  · refine J.skip ?_
    refine JN.code ?_
    refine J.cond_eq rfl (fun h => ?_) (fun h => absurd h6 h)
    refine J.seq ?_
    refine J.region ?_
    refine JL.qt (Qt.assign rfl) rfl ?_
    refine JL.nil ?_
    refine JN.code ?_
    refine J.ret ?_
    refine JN.back (res1 rfl rfl) [] rfl ?_
    exact ⟨by unfold f_kinds_Streams; rw [if_neg h1, if_neg h2, if_neg h3, if_neg h4, if_neg h5, if_pos h6] <;> rfl, rfl⟩
  refine J.seq ?_
  refine J.region ?_
  refine JL.qt (Qt.bin (fun _ => eql_run) rfl rfl rfl) rfl ?_
  refine JL.qt (Qt.assign rfl) rfl ?_
  refine JL.nil ?_
  refine JN.code ?_
  refine J.cond_eq rfl (fun h7 => ?_) (fun h7 => ?_)
  · refine J.skip ?_
    refine JN.code ?_
    refine J.cond_eq rfl (fun h => ?_) (fun h => absurd h7 h)
    refine J.seq ?_
    refine J.region ?_
    refine JL.qt (Qt.assign rfl) rfl ?_
    refine JL.nil ?_
    refine JN.code ?_
    refine J.ret ?_
    refine JN.back (res1 rfl rfl) [] rfl ?_
    exact ⟨by unfold f_kinds_Streams; rw [if_neg h1, if_neg h2, if_neg h3, if_neg h4, if_neg h5, if_neg h6, if_pos h7] <;> rfl, rfl⟩
  refine J.seq ?_
  refine J.region ?_
  refine JL.qt (Qt.bin (fun _ => eql_run) rfl rfl rfl) rfl ?_
  refine JL.qt (Qt.assign rfl) rfl ?_
  refine JL.nil ?_
  refine JN.code ?_
  refine J.cond_eq rfl (fun h8 => ?_) (fun h8 => ?_)
  · refine J.skip ?_
    refine JN.code ?_
    refine J.cond_eq rfl (fun h => ?_) (fun h => absurd h8 h)
    refine J.seq ?_
    refine J.region ?_
    refine JL.qt (Qt.assign rfl) rfl ?_
    refine JL.nil ?_
    refine JN.code ?_
    refine J.ret ?_
    refine JN.back (res1 rfl rfl) [] rfl ?_
    exact ⟨by unfold f_kinds_Streams; rw [if_neg h1, if_neg h2, if_neg h3, if_neg h4, if_neg h5, if_neg h6, if_neg h7, if_pos h8] <;> rfl, rfl⟩
  refine J.region ?_
  refine JL.qt (Qt.bin (fun _ => eql_run) rfl rfl rfl) rfl ?_
  refine JL.qt (Qt.assign rfl) rfl ?_
  refine JL.nil ?_
  refine JN.code ?_
  refine J.cond_eq rfl (fun h9 => ?_) (fun h9 => ?_)
  · refine J.seq ?_
    refine J.region ?_
    refine JL.qt (Qt.assign rfl) rfl ?_
    refine JL.nil ?_
    refine JN.code ?_
    refine J.ret ?_
    refine JN.back (res1 rfl rfl) [] rfl ?_
    exact ⟨by unfold f_kinds_Streams; rw [if_neg h1, if_neg h2, if_neg h3, if_neg h4, if_neg h5, if_neg h6, if_neg h7, if_neg h8, if_pos h9] <;> rfl, rfl⟩
  refine J.skip ?_
  refine JN.code ?_
  refine J.seq ?_
  refine J.region ?_
  refine JL.qt (Qt.assign rfl) rfl ?_
  refine JL.nil ?_
  refine JN.code ?_
  refine J.ret ?_
  refine JN.back (res1 rfl rfl) [] rfl ?_
  exact ⟨by unfold f_kinds_Streams; rw [if_neg h1, if_neg h2, if_neg h3, if_neg h4, if_neg h5, if_neg h6, if_neg h7, if_neg h8, if_neg h9] <;> rfl, rfl⟩
theorem s_frame_fault (a : Int) (b : Int) :
    Spec Tryz.prog 89 [.int .i64 a, .int .i64 b].toArray [] (fun v L => v = .agg #[.int .i64 ((f_frame_fault a b).Scope), .int .i64 ((f_frame_fault a b).Code)] ∧ L = []) := by
  refine Spec.enter Tryz.func89 rfl Tryz.ntmps89 rfl rfl (fun w0 R0 F0 => ?_)
  refine J.seq ?_
  refine J.region ?_
  refine JL.ef (O1.alloc ze104) rfl ?_
  rintro _ _ ⟨b_1, rfl, rfl⟩
  refine JL.nil ?_
  refine JN.code ?_
  refine J.seq ?_
  refine J.region ?_
  refine JL.qt (Qt.move rfl) rfl ?_
  refine JL.qt (Qt.move rfl) rfl ?_
  refine JL.qt (Qt.build sp104 ze104 rfl rfl) rfl ?_
  refine JL.sk (O1.stA 0 sz104 rfl rfl rfl rfl rfl rfl rfl rfl) ?_
  refine JL.nil ?_
  refine JN.code ?_
  refine J.ret ?_
  refine JN.backR (rs := [.cell 4 104]) (vs := [.agg #[.int .i64 a, .int .i64 b]]) rfl ?_ [] rfl ?_
  · exact .cell (x := 4) (t := 104) (b := b_1) (o := 0) rfl (Qt.ldA (cs := [.int .i64 a, .int .i64 b]) 0 ag104 sz104 rfl rfl rfl rfl) .nil
  exact ⟨by unfold f_frame_fault; rfl, rfl⟩
theorem s_frame_scope (t : Int) :
    Spec Tryz.prog 91 [.int .i64 t].toArray [] (fun v L => v = .int .i64 (f_frame_scope t) ∧ L = []) := by
  refine Spec.enter Tryz.func91 rfl Tryz.ntmps91 rfl rfl (fun w0 R0 F0 => ?_)
  refine J.seq ?_
  refine J.region ?_
  refine JL.qt (Qt.assign rfl) rfl ?_
  refine JL.nil ?_
  refine JN.code ?_
  refine J.seq ?_
  refine J.seq ?_
  refine J.region ?_
  refine JL.qt (Qt.move rfl) rfl ?_
  refine JL.qt (Qt.bin (fun _ => eql_run) rfl rfl rfl) rfl ?_
  refine JL.qt (Qt.move rfl) rfl ?_
  refine JL.cases_eq (t := 5) rfl (fun h1 => ?_) (fun h1 => ?_)
  · refine JL.g_outU rfl rfl rfl rfl ?_
    refine JL.g_outU rfl rfl rfl rfl ?_
    refine JL.qt (Qt.pick_t rfl rfl) rfl ?_
    refine JL.nil ?_
    refine JN.code ?_
    refine J.cond_true rfl ?_
    refine J.seq ?_
    refine J.region ?_
    refine JL.qt (Qt.assign rfl) rfl ?_
    refine JL.nil ?_
    refine JN.code ?_
    refine J.ret ?_
    refine JN.back (res1 rfl rfl) [] rfl ?_
    exact ⟨by unfold f_frame_scope; rw [if_pos h1] <;> rfl, rfl⟩
  refine JL.g_in rfl rfl ?_
  refine JL.qt (Qt.move rfl) rfl ?_
  refine JL.g_in rfl rfl ?_
  refine JL.qt (Qt.bin (fun _ => eql_run) rfl rfl rfl) rfl ?_
  refine JL.qt (Qt.pick_f rfl rfl) rfl ?_
  refine JL.nil ?_
  refine JN.code ?_
  refine J.cond_eq rfl (fun h2 => ?_) (fun h2 => ?_)
  · refine J.seq ?_
    refine J.region ?_
    refine JL.qt (Qt.assign rfl) rfl ?_
    refine JL.nil ?_
    refine JN.code ?_
    refine J.ret ?_
    refine JN.back (res1 rfl rfl) [] rfl ?_
    exact ⟨by unfold f_frame_scope; rw [if_neg h1, if_pos h2] <;> rfl, rfl⟩
  refine J.skip ?_
  refine JN.code ?_
  refine J.seq ?_
  refine J.region ?_
  refine JL.qt (Qt.assign rfl) rfl ?_
  refine JL.nil ?_
  refine JN.code ?_
  refine J.ret ?_
  refine JN.back (res1 rfl rfl) [] rfl ?_
  exact ⟨by unfold f_frame_scope; rw [if_neg h1, if_neg h2] <;> rfl, rfl⟩
theorem s_octet_Low (n : Int) :
    Spec Tryz.prog 138 [.int .i64 n].toArray [] (fun v L => v = .tuple #[.int .i64 ((f_octet_Low n).1), .bool ((f_octet_Low n).2)] ∧ L = []) := by
  refine Spec.enter Tryz.func138 rfl Tryz.ntmps138 rfl rfl (fun w0 R0 F0 => ?_)
  refine J.seq ?_
  refine J.region ?_
  refine JL.qt (Qt.assign rfl) rfl ?_
  refine JL.qt (Qt.assign rfl) rfl ?_
  refine JL.nil ?_
  refine JN.code ?_
  refine J.seq ?_
  refine J.seq ?_
  refine J.region ?_
  refine JL.qt (Qt.move rfl) rfl ?_
  refine JL.qt (Qt.bin (fun _ => lss_run) rfl rfl rfl) rfl ?_
  refine JL.qt (Qt.move rfl) rfl ?_
  refine JL.cases_dec (t := 6) rfl (fun h1 => ?_) (fun h1 => ?_)
  · refine JL.g_outU rfl rfl rfl rfl ?_
    refine JL.g_outU rfl rfl rfl rfl ?_
    refine JL.qt (Qt.pick_t rfl rfl) rfl ?_
    refine JL.nil ?_
    refine JN.code ?_
    refine J.cond_true rfl ?_
    refine J.seq ?_
    refine J.region ?_
    refine JL.qt (Qt.assign rfl) rfl ?_
    refine JL.qt (Qt.assign rfl) rfl ?_
    refine JL.nil ?_
    refine JN.code ?_
    refine J.ret ?_
    refine JN.back (res2 rfl rfl rfl) [] rfl ?_
    exact ⟨by unfold f_octet_Low; rw [if_pos h1] <;> rfl, rfl⟩
  refine JL.g_in rfl rfl ?_
  refine JL.qt (Qt.move rfl) rfl ?_
  refine JL.g_in rfl rfl ?_
  refine JL.qt (Qt.bin (fun _ => geq_run) rfl rfl rfl) rfl ?_
  refine JL.qt (Qt.pick_f rfl rfl) rfl ?_
  refine JL.nil ?_
  refine JN.code ?_
  refine J.cond_dec rfl (fun h2 => ?_) (fun h2 => ?_)
  · refine J.seq ?_
    refine J.region ?_
    refine JL.qt (Qt.assign rfl) rfl ?_
    refine JL.qt (Qt.assign rfl) rfl ?_
    refine JL.nil ?_
    refine JN.code ?_
    refine J.ret ?_
    refine JN.back (res2 rfl rfl rfl) [] rfl ?_
    exact ⟨by unfold f_octet_Low; rw [if_neg h1, if_pos h2] <;> rfl, rfl⟩
  refine J.skip ?_
  refine JN.code ?_
  refine J.seq ?_
  refine J.region ?_
  refine JL.qt (Qt.move rfl) rfl ?_
  refine JL.qt (Qt.bin (fun _ => andNot_run) rfl rfl rfl) rfl ?_
  refine JL.qt (Qt.move rfl) rfl ?_
  refine JL.qt (Qt.bin (fun _ => and_run) rfl rfl rfl) rfl ?_
  refine JL.qt (Qt.bin (fun _ => neq_run) rfl rfl rfl) rfl ?_
  refine JL.qt (Qt.assign rfl) rfl ?_
  refine JL.qt (Qt.assign rfl) rfl ?_
  refine JL.nil ?_
  refine JN.code ?_
  refine J.ret ?_
  refine JN.back (res2 rfl rfl rfl) [] rfl ?_
  exact ⟨by unfold f_octet_Low; rw [if_neg h1, if_neg h2] <;> rfl, rfl⟩
theorem s_weave_starts (t : Int) :
    Spec Tryz.prog 36 [.int .i64 t].toArray [] (fun v L => v = .bool (f_weave_starts t) ∧ L = []) := by
  refine Spec.enter Tryz.func36 rfl Tryz.ntmps36 rfl rfl (fun w0 R0 F0 => ?_)
  refine J.seq ?_
  refine J.region ?_
  refine JL.qt (Qt.assign rfl) rfl ?_
  refine JL.nil ?_
  refine JN.code ?_
  refine J.seq ?_
  refine J.region ?_
  refine JL.qt (Qt.move rfl) rfl ?_
  refine JL.qt (Qt.bin (fun _ => eql_run) rfl rfl rfl) rfl ?_
  refine JL.qt (Qt.move rfl) rfl ?_
  refine JL.cases_eq (t := 5) rfl (fun h1 => ?_) (fun h1 => ?_)
  · refine JL.g_outU rfl rfl rfl rfl ?_
    refine JL.g_outU rfl rfl rfl rfl ?_
    refine JL.qt (Qt.pick_t rfl rfl) rfl ?_
    refine JL.qt (Qt.assign rfl) rfl ?_
    refine JL.nil ?_
    refine JN.code ?_
    refine J.ret ?_
    refine JN.back (res1 rfl rfl) [] rfl ?_
    exact ⟨by unfold f_weave_starts; rw [if_pos h1] <;> rfl, rfl⟩
  refine JL.g_in rfl rfl ?_
  refine JL.qt (Qt.move rfl) rfl ?_
  refine JL.g_in rfl rfl ?_
  refine JL.qt (Qt.bin (fun _ => eql_run) rfl rfl rfl) rfl ?_
  refine JL.qt (Qt.pick_f rfl rfl) rfl ?_
  refine JL.qt (Qt.assign rfl) rfl ?_
  refine JL.nil ?_
  refine JN.code ?_
  refine J.ret ?_
  refine JN.back (res1 rfl rfl) [] rfl ?_
  exact ⟨by unfold f_weave_starts; rw [if_neg h1] <;> rfl, rfl⟩
theorem s_encoder_wrong (n : Int) :
    Spec Tryz.prog 59 [.int .i64 n].toArray [] (fun v L => v = .bool (f_encoder_wrong n) ∧ L = []) := by
  refine Spec.enter Tryz.func59 rfl Tryz.ntmps59 rfl rfl (fun w0 R0 F0 => ?_)
  refine J.seq ?_
  refine J.region ?_
  refine JL.qt (Qt.assign rfl) rfl ?_
  refine JL.nil ?_
  refine JN.code ?_
  refine J.seq ?_
  refine J.region ?_
  refine JL.qt (Qt.move rfl) rfl ?_
  refine JL.qt (Qt.bin (fun _ => lss_run) rfl rfl rfl) rfl ?_
  refine JL.qt (Qt.move rfl) rfl ?_
  refine JL.cases_dec (t := 5) rfl (fun h1 => ?_) (fun h1 => ?_)
  · refine JL.g_outU rfl rfl rfl rfl ?_
    refine JL.g_outU rfl rfl rfl rfl ?_
    refine JL.qt (Qt.pick_t rfl rfl) rfl ?_
    refine JL.qt (Qt.assign rfl) rfl ?_
    refine JL.nil ?_
    refine JN.code ?_
    refine J.ret ?_
    refine JN.back (res1 rfl rfl) [] rfl ?_
    exact ⟨by unfold f_encoder_wrong; rw [if_pos h1] <;> rfl, rfl⟩
  refine JL.g_in rfl rfl ?_
  refine JL.qt (Qt.move rfl) rfl ?_
  refine JL.g_in rfl rfl ?_
  refine JL.qt (Qt.bin (fun _ => gtr_run) rfl rfl rfl) rfl ?_
  refine JL.qt (Qt.pick_f rfl rfl) rfl ?_
  refine JL.qt (Qt.assign rfl) rfl ?_
  refine JL.nil ?_
  refine JN.code ?_
  refine J.ret ?_
  refine JN.back (res1 rfl rfl) [] rfl ?_
  exact ⟨by unfold f_encoder_wrong; rw [if_neg h1] <;> rfl, rfl⟩
theorem s_repr_within (n : Int) :
    Spec Tryz.prog 116 [.int .i64 n].toArray [] (fun v L => v = .bool (f_repr_within n) ∧ L = []) := by
  refine Spec.enter Tryz.func116 rfl Tryz.ntmps116 rfl rfl (fun w0 R0 F0 => ?_)
  refine J.seq ?_
  refine J.region ?_
  refine JL.qt (Qt.assign rfl) rfl ?_
  refine JL.nil ?_
  refine JN.code ?_
  refine J.seq ?_
  refine J.region ?_
  refine JL.qt (Qt.move rfl) rfl ?_
  refine JL.qt (Qt.bin (fun _ => geq_run) rfl rfl rfl) rfl ?_
  refine JL.qt (Qt.move rfl) rfl ?_
  refine JL.cases_dec (t := 5) rfl (fun h1 => ?_) (fun h1 => ?_)
  · refine JL.g_in rfl rfl ?_
    refine JL.qt (Qt.move rfl) rfl ?_
    refine JL.g_in rfl rfl ?_
    refine JL.qt (Qt.bin (fun _ => leq_run) rfl rfl rfl) rfl ?_
    refine JL.qt (Qt.pick_t rfl rfl) rfl ?_
    refine JL.qt (Qt.assign rfl) rfl ?_
    refine JL.nil ?_
    refine JN.code ?_
    refine J.ret ?_
    refine JN.back (res1 rfl rfl) [] rfl ?_
    exact ⟨by unfold f_repr_within; rw [if_pos h1] <;> rfl, rfl⟩
  refine JL.g_outU rfl rfl rfl rfl ?_
  refine JL.g_outU rfl rfl rfl rfl ?_
  refine JL.qt (Qt.pick_f rfl rfl) rfl ?_
  refine JL.qt (Qt.assign rfl) rfl ?_
  refine JL.nil ?_
  refine JN.code ?_
  refine J.ret ?_
  refine JN.back (res1 rfl rfl) [] rfl ?_
  exact ⟨by unfold f_repr_within; rw [if_neg h1] <;> rfl, rfl⟩
theorem s_repr_texts (k : Int) :
    Spec Tryz.prog 79 [.int .i64 k].toArray [] (fun v L => v = .bool (f_repr_texts k) ∧ L = []) := by
  refine Spec.enter Tryz.func79 rfl Tryz.ntmps79 rfl rfl (fun w0 R0 F0 => ?_)
  refine J.seq ?_
  refine J.region ?_
  refine JL.qt (Qt.assign rfl) rfl ?_
  refine JL.nil ?_
  refine JN.code ?_
  refine J.seq ?_
  refine J.region ?_
  refine JL.qt (Qt.move rfl) rfl ?_
  refine JL.qt (Qt.bin (fun _ => eql_run) rfl rfl rfl) rfl ?_
  refine JL.qt (Qt.move rfl) rfl ?_
  refine JL.cases_eq (t := 5) rfl (fun h1 => ?_) (fun h1 => ?_)
  · refine JL.g_outU rfl rfl rfl rfl ?_
    refine JL.g_outU rfl rfl rfl rfl ?_
    refine JL.qt (Qt.pick_t rfl rfl) rfl ?_
    refine JL.qt (Qt.move rfl) rfl ?_
    refine JL.g_outU rfl rfl rfl rfl ?_
    refine JL.g_outU rfl rfl rfl rfl ?_
    refine JL.qt (Qt.pick_t rfl rfl) rfl ?_
    refine JL.qt (Qt.assign rfl) rfl ?_
    refine JL.nil ?_
    refine JN.code ?_
    refine J.ret ?_
    refine JN.back (res1 rfl rfl) [] rfl ?_
    exact ⟨by unfold f_repr_texts; rw [if_pos h1] <;> rfl, rfl⟩
  refine JL.g_in rfl rfl ?_
  refine JL.qt (Qt.move rfl) rfl ?_
  refine JL.g_in rfl rfl ?_
  refine JL.qt (Qt.bin (fun _ => eql_run) rfl rfl rfl) rfl ?_
  refine JL.qt (Qt.pick_f rfl rfl) rfl ?_
  refine JL.qt (Qt.move rfl) rfl ?_
  refine JL.cases_eq (t := 9) rfl (fun h2 => ?_) (fun h2 => ?_)
  · refine JL.g_outU rfl rfl rfl rfl ?_
    refine JL.g_outU rfl rfl rfl rfl ?_
    refine JL.qt (Qt.pick_t rfl rfl) rfl ?_
    refine JL.qt (Qt.assign rfl) rfl ?_
    refine JL.nil ?_
    refine JN.code ?_
    refine J.ret ?_
    refine JN.back (res1 rfl rfl) [] rfl ?_
    exact ⟨by unfold f_repr_texts; rw [if_neg h1, if_pos h2] <;> rfl, rfl⟩
  refine JL.g_in rfl rfl ?_
  refine JL.qt (Qt.move rfl) rfl ?_
  refine JL.g_in rfl rfl ?_
  refine JL.qt (Qt.bin (fun _ => eql_run) rfl rfl rfl) rfl ?_
  refine JL.qt (Qt.pick_f rfl rfl) rfl ?_
  refine JL.qt (Qt.assign rfl) rfl ?_
  refine JL.nil ?_
  refine JN.code ?_
  refine J.ret ?_
  refine JN.back (res1 rfl rfl) [] rfl ?_
  exact ⟨by unfold f_repr_texts; rw [if_neg h1, if_neg h2] <;> rfl, rfl⟩
theorem s_bitrow_many (n : Int) :
    Spec Tryz.prog 189 [.int .i64 n].toArray [] (fun v L => v = .bool (f_bitrow_many n) ∧ L = []) := by
  refine Spec.enter Tryz.func189 rfl Tryz.ntmps189 rfl rfl (fun w0 R0 F0 => ?_)
  refine J.seq ?_
  refine J.region ?_
  refine JL.qt (Qt.assign rfl) rfl ?_
  refine JL.nil ?_
  refine JN.code ?_
  refine J.seq ?_
  refine J.region ?_
  refine JL.qt (Qt.move rfl) rfl ?_
  refine JL.qt (Qt.bin (fun _ => geq_run) rfl rfl rfl) rfl ?_
  refine JL.qt (Qt.move rfl) rfl ?_
  refine JL.cases_dec (t := 5) rfl (fun h1 => ?_) (fun h1 => ?_)
  · refine JL.g_in rfl rfl ?_
    refine JL.qt (Qt.move rfl) rfl ?_
    refine JL.g_in rfl rfl ?_
    refine JL.qt (Qt.bin (fun _ => leq_run) rfl rfl rfl) rfl ?_
    refine JL.qt (Qt.pick_t rfl rfl) rfl ?_
    refine JL.qt (Qt.assign rfl) rfl ?_
    refine JL.nil ?_
    refine JN.code ?_
    refine J.ret ?_
    refine JN.back (res1 rfl rfl) [] rfl ?_
    exact ⟨by unfold f_bitrow_many; rw [if_pos h1] <;> rfl, rfl⟩
  refine JL.g_outU rfl rfl rfl rfl ?_
  refine JL.g_outU rfl rfl rfl rfl ?_
  refine JL.qt (Qt.pick_f rfl rfl) rfl ?_
  refine JL.qt (Qt.assign rfl) rfl ?_
  refine JL.nil ?_
  refine JN.code ?_
  refine J.ret ?_
  refine JN.back (res1 rfl rfl) [] rfl ?_
  exact ⟨by unfold f_bitrow_many; rw [if_neg h1] <;> rfl, rfl⟩
theorem s_kinds_Has (t : Int) (flags : Int) (flag : Int) :
    Spec Tryz.prog 37 [.int .i64 t, .int .i64 flags, .int .i64 flag].toArray [] (fun v L => v = .bool (f_kinds_Has t flags flag) ∧ L = []) := by
  refine Spec.enter Tryz.func37 rfl Tryz.ntmps37 rfl rfl (fun w0 R0 F0 => ?_)
  refine J.seq ?_
  refine J.region ?_
  refine JL.qt (Qt.assign rfl) rfl ?_
  refine JL.nil ?_
  refine JN.code ?_
  refine J.seq ?_
  refine J.seq ?_
  refine J.region ?_
  refine JL.qt (Qt.move rfl) rfl ?_
  refine JL.nil ?_
  refine JN.code ?_
  refine J.block ?_
  refine J.seq ?_
  refine J.seq ?_
  refine J.region ?_
  refine JL.qt (Qt.bin (fun _ => eql_run) rfl rfl rfl) rfl ?_
  refine JL.qt (Qt.assign rfl) rfl ?_
  refine JL.nil ?_
  refine JN.code ?_
  refine J.cond_eq rfl (fun h1 => ?_) (fun h1 => ?_)
  · refine J.skip ?_
    refine JN.code ?_
    refine J.cond_eq rfl (fun h => ?_) (fun h => absurd h1 h)
    refine J.seq ?_
    refine J.region ?_
    refine JL.qt (Qt.move rfl) rfl ?_
    refine JL.qt (Qt.bin (fun _ => geq_run) rfl rfl rfl) rfl ?_
    refine JL.qt (Qt.move rfl) rfl ?_
    refine JL.cases_dec (t := 15) rfl (fun h2 => ?_) (fun h2 => ?_)
    · refine JL.g_in rfl rfl ?_
      refine JL.qt (Qt.move rfl) rfl ?_
      refine JL.g_in rfl rfl ?_
      refine JL.call (O1.call Tryz.func57 rfl rfl rfl [] rfl (s_kinds_Used t)) rfl ?_
      rintro _ _ ⟨rfl, rfl⟩
      refine JL.g_in rfl rfl ?_
      refine JL.qt (Qt.move rfl) rfl ?_
      refine JL.g_in rfl rfl ?_
      refine JL.qt (Qt.bin (fun _ => and_run) rfl rfl rfl) rfl ?_
      refine JL.g_in rfl rfl ?_
      refine JL.qt (Qt.move rfl) rfl ?_
      refine JL.g_in rfl rfl ?_
      refine JL.qt (Qt.bin (fun _ => and_run) rfl rfl rfl) rfl ?_
      refine JL.g_in rfl rfl ?_
      refine JL.qt (Qt.bin (fun _ => neq_run) rfl rfl rfl) rfl ?_
      refine JL.qt (Qt.pick_t rfl rfl) rfl ?_
      refine JL.qt (Qt.assign rfl) rfl ?_
      refine JL.nil ?_
      refine JN.code ?_
      refine J.ret ?_
      refine JN.back (res1 rfl rfl) [] rfl ?_
      exact ⟨by unfold f_kinds_Has; rw [if_pos h1, if_pos h2] <;> rfl, rfl⟩
    refine JL.g_outU rfl rfl rfl rfl ?_
    refine JL.g_outU rfl rfl rfl rfl ?_
    refine JL.g_outU rfl rfl rfl rfl ?_
    refine JL.g_outU rfl rfl rfl rfl ?_
    refine JL.g_outU rfl rfl rfl rfl ?_
    refine JL.g_outU rfl rfl rfl rfl ?_
    refine JL.g_outU rfl rfl rfl rfl ?_
    refine JL.qt (Qt.pick_f rfl rfl) rfl ?_
    refine JL.qt (Qt.assign rfl) rfl ?_
    refine JL.nil ?_
    refine JN.code ?_
    refine J.ret ?_
    refine JN.back (res1 rfl rfl) [] rfl ?_
    exact ⟨by unfold f_kinds_Has; rw [if_pos h1, if_neg h2] <;> rfl, rfl⟩
  refine J.seq ?_
  refine J.region ?_
  refine JL.qt (Qt.bin (fun _ => eql_run) rfl rfl rfl) rfl ?_
  refine JL.qt (Qt.assign rfl) rfl ?_
  refine JL.nil ?_
  refine JN.code ?_
  refine J.cond_eq rfl (fun h3 => ?_) (fun h3 => ?_)
  · refine J.skip ?_
    refine JN.code ?_
    refine J.cond_eq rfl (fun h => ?_) (fun h => absurd h3 h)
    refine J.seq ?_
    refine J.region ?_
    refine JL.qt (Qt.move rfl) rfl ?_
    refine JL.qt (Qt.bin (fun _ => geq_run) rfl rfl rfl) rfl ?_
    refine JL.qt (Qt.move rfl) rfl ?_
    refine JL.cases_dec (t := 15) rfl (fun h4 => ?_) (fun h4 => ?_)
    · refine JL.g_in rfl rfl ?_
      refine JL.qt (Qt.move rfl) rfl ?_
      refine JL.g_in rfl rfl ?_
      refine JL.call (O1.call Tryz.func57 rfl rfl rfl [] rfl (s_kinds_Used t)) rfl ?_
      rintro _ _ ⟨rfl, rfl⟩
      refine JL.g_in rfl rfl ?_
      refine JL.qt (Qt.move rfl) rfl ?_
      refine JL.g_in rfl rfl ?_
      refine JL.qt (Qt.bin (fun _ => and_run) rfl rfl rfl) rfl ?_
      refine JL.g_in rfl rfl ?_
      refine JL.qt (Qt.move rfl) rfl ?_
      refine JL.g_in rfl rfl ?_
      refine JL.qt (Qt.bin (fun _ => and_run) rfl rfl rfl) rfl ?_
      refine JL.g_in rfl rfl ?_
      refine JL.qt (Qt.bin (fun _ => neq_run) rfl rfl rfl) rfl ?_
      refine JL.qt (Qt.pick_t rfl rfl) rfl ?_
      refine JL.qt (Qt.assign rfl) rfl ?_
      refine JL.nil ?_
      refine JN.code ?_
      refine J.ret ?_
      refine JN.back (res1 rfl rfl) [] rfl ?_
      exact ⟨by unfold f_kinds_Has; rw [if_neg h1, if_pos h3, if_pos h4] <;> rfl, rfl⟩
    refine JL.g_outU rfl rfl rfl rfl ?_
    refine JL.g_outU rfl rfl rfl rfl ?_
    refine JL.g_outU rfl rfl rfl rfl ?_
    refine JL.g_outU rfl rfl rfl rfl ?_
    refine JL.g_outU rfl rfl rfl rfl ?_
    refine JL.g_outU rfl rfl rfl rfl ?_
    refine JL.g_outU rfl rfl rfl rfl ?_
    refine JL.qt (Qt.pick_f rfl rfl) rfl ?_
    refine JL.qt (Qt.assign rfl) rfl ?_
    refine JL.nil ?_
    refine JN.code ?_
    refine J.ret ?_
    refine JN.back (res1 rfl rfl) [] rfl ?_
    exact ⟨by unfold f_kinds_Has; rw [if_neg h1, if_pos h3, if_neg h4] <;> rfl, rfl⟩
  refine J.seq ?_
  refine J.region ?_
  refine JL.qt (Qt.bin (fun _ => eql_run) rfl rfl rfl) rfl ?_
  refine JL.qt (Qt.assign rfl) rfl ?_
  refine JL.nil ?_
  refine JN.code ?_
  refine J.cond_eq rfl (fun h5 => ?_) (fun h5 => ?_)
  · refine J.skip ?_
    refine JN.code ?_
    refine J.cond_eq rfl (fun h => ?_) (fun h => absurd h5 h)
    refine J.seq ?_
    refine J.region ?_
    refine JL.qt (Qt.move rfl) rfl ?_
    refine JL.qt (Qt.bin (fun _ => geq_run) rfl rfl rfl) rfl ?_
    refine JL.qt (Qt.move rfl) rfl ?_
    refine JL.cases_dec (t := 15) rfl (fun h6 => ?_) (fun h6 => ?_)
    · refine JL.g_in rfl rfl ?_
      refine JL.qt (Qt.move rfl) rfl ?_
      refine JL.g_in rfl rfl ?_
      refine JL.call (O1.call Tryz.func57 rfl rfl rfl [] rfl (s_kinds_Used t)) rfl ?_
      rintro _ _ ⟨rfl, rfl⟩
      refine JL.g_in rfl rfl ?_
      refine JL.qt (Qt.move rfl) rfl ?_
      refine JL.g_in rfl rfl ?_
      refine JL.qt (Qt.bin (fun _ => and_run) rfl rfl rfl) rfl ?_
      refine JL.g_in rfl rfl ?_
      refine JL.qt (Qt.move rfl) rfl ?_
      refine JL.g_in rfl rfl ?_
      refine JL.qt (Qt.bin (fun _ => and_run) rfl rfl rfl) rfl ?_
      refine JL.g_in rfl rfl ?_
      refine JL.qt (Qt.bin (fun _ => neq_run) rfl rfl rfl) rfl ?_
      refine JL.qt (Qt.pick_t rfl rfl) rfl ?_
      refine JL.qt (Qt.assign rfl) rfl ?_
      refine JL.nil ?_
      refine JN.code ?_
      refine J.ret ?_
      refine JN.back (res1 rfl rfl) [] rfl ?_
      exact ⟨by unfold f_kinds_Has; rw [if_neg h1, if_neg h3, if_pos h5, if_pos h6] <;> rfl, rfl⟩
    refine JL.g_outU rfl rfl rfl rfl ?_
    refine JL.g_outU rfl rfl rfl rfl ?_
    refine JL.g_outU rfl rfl rfl rfl ?_
    refine JL.g_outU rfl rfl rfl rfl ?_
    refine JL.g_outU rfl rfl rfl rfl ?_
    refine JL.g_outU rfl rfl rfl rfl ?_
    refine JL.g_outU rfl rfl rfl rfl ?_
    refine JL.qt (Qt.pick_f rfl rfl) rfl ?_
    refine JL.qt (Qt.assign rfl) rfl ?_
    refine JL.nil ?_
    refine JN.code ?_
    refine J.ret ?_
    refine JN.back (res1 rfl rfl) [] rfl ?_
    exact ⟨by unfold f_kinds_Has; rw [if_neg h1, if_neg h3, if_pos h5, if_neg h6] <;> rfl, rfl⟩
  refine J.region ?_
  refine JL.qt (Qt.bin (fun _ => eql_run) rfl rfl rfl) rfl ?_
  refine JL.qt (Qt.assign rfl) rfl ?_
  refine JL.nil ?_
  refine JN.code ?_
  refine J.cond_eq rfl (fun h7 => ?_) (fun h7 => ?_)
  · refine J.seq ?_
    refine J.region ?_
    refine JL.qt (Qt.move rfl) rfl ?_
    refine JL.qt (Qt.bin (fun _ => geq_run) rfl rfl rfl) rfl ?_
    refine JL.qt (Qt.move rfl) rfl ?_
    refine JL.cases_dec (t := 15) rfl (fun h8 => ?_) (fun h8 => ?_)
    · refine JL.g_in rfl rfl ?_
      refine JL.qt (Qt.move rfl) rfl ?_
      refine JL.g_in rfl rfl ?_
      refine JL.call (O1.call Tryz.func57 rfl rfl rfl [] rfl (s_kinds_Used t)) rfl ?_
      rintro _ _ ⟨rfl, rfl⟩
      refine JL.g_in rfl rfl ?_
      refine JL.qt (Qt.move rfl) rfl ?_
      refine JL.g_in rfl rfl ?_
      refine JL.qt (Qt.bin (fun _ => and_run) rfl rfl rfl) rfl ?_
      refine JL.g_in rfl rfl ?_
      refine JL.qt (Qt.move rfl) rfl ?_
      refine JL.g_in rfl rfl ?_
      refine JL.qt (Qt.bin (fun _ => and_run) rfl rfl rfl) rfl ?_
      refine JL.g_in rfl rfl ?_
      refine JL.qt (Qt.bin (fun _ => neq_run) rfl rfl rfl) rfl ?_
      refine JL.qt (Qt.pick_t rfl rfl) rfl ?_
      refine JL.qt (Qt.assign rfl) rfl ?_
      refine JL.nil ?_
      refine JN.code ?_
      refine J.ret ?_
      refine JN.back (res1 rfl rfl) [] rfl ?_
      exact ⟨by unfold f_kinds_Has; rw [if_neg h1, if_neg h3, if_neg h5, if_pos h7, if_pos h8] <;> rfl, rfl⟩
    refine JL.g_outU rfl rfl rfl rfl ?_
    refine JL.g_outU rfl rfl rfl rfl ?_
    refine JL.g_outU rfl rfl rfl rfl ?_
    refine JL.g_outU rfl rfl rfl rfl ?_
    refine JL.g_outU rfl rfl rfl rfl ?_
    refine JL.g_outU rfl rfl rfl rfl ?_
    refine JL.g_outU rfl rfl rfl rfl ?_
    refine JL.qt (Qt.pick_f rfl rfl) rfl ?_
    refine JL.qt (Qt.assign rfl) rfl ?_
    refine JL.nil ?_
    refine JN.code ?_
    refine J.ret ?_
    refine JN.back (res1 rfl rfl) [] rfl ?_
    exact ⟨by unfold f_kinds_Has; rw [if_neg h1, if_neg h3, if_neg h5, if_pos h7, if_neg h8] <;> rfl, rfl⟩
  refine J.skip ?_
  refine JN.code ?_
  refine J.seq ?_
  refine J.region ?_
  refine JL.qt (Qt.assign rfl) rfl ?_
  refine JL.nil ?_
  refine JN.code ?_
  refine J.ret ?_
  refine JN.back (res1 rfl rfl) [] rfl ?_
  exact ⟨by unfold f_kinds_Has; rw [if_neg h1, if_neg h3, if_neg h5, if_neg h7] <;> rfl, rfl⟩
end Go.Proofs.YthjbkngecgbioaaGreatDoor.Sl

/- Walks: octets. -/
set_option maxRecDepth 100000
set_option linter.unusedSimpArgs false
set_option linter.unusedVariables false
namespace Go.Proofs.YthjbkngecgbioaaGreatDoor.Sl
open Go
theorem el37 : elTy Tryz.prog 37 5 1 1 = true := by kernel_rfl
theorem ze5 : zeroTy Tryz.prog 5 = some [.int .u8 0] := by kernel_rfl
theorem u8_in (n : Int) : inK .u8 (IntKind.u8.wrap n) := by
  rw [Xe.wrap_u8]
  exact ⟨by omega, by omega⟩
def f_put1 (xs : List Int) (n : Int) : List Int × Int := if n < 0 then ([], 5) else if n > 255 then ([], 5) else (xs ++ [(IntKind.u8.wrap (Sl.shr .i64 n 0))], 0)
def f_put2 (xs : List Int) (n : Int) : List Int × Int := if n < 0 then ([], 5) else if n > 65535 then ([], 5) else ((xs ++ [(IntKind.u8.wrap (Sl.shr .i64 n 8))]) ++ [(IntKind.u8.wrap (Sl.shr .i64 n 0))], 0)
def f_put4 (xs : List Int) (n : Int) : List Int × Int := if n < 0 then ([], 5) else if n > 4294967295 then ([], 5) else ((((xs ++ [(IntKind.u8.wrap (Sl.shr .i64 n 24))]) ++ [(IntKind.u8.wrap (Sl.shr .i64 n 16))]) ++ [(IntKind.u8.wrap (Sl.shr .i64 n 8))]) ++ [(IntKind.u8.wrap (Sl.shr .i64 n 0))], 0)
theorem s_top1 :
    Spec Tryz.prog 67 [.int .i64 1].toArray [] (fun v L => v = .tuple #[.int .i64 255, .bool true] ∧ L = []) := by
  refine Spec.enter Tryz.func67 rfl Tryz.ntmps67 rfl rfl (fun w0 R0 F0 => ?_)
  refine J.seq ?_
  refine J.region ?_
  refine JL.qt (Qt.assign rfl) rfl ?_
  refine JL.qt (Qt.assign rfl) rfl ?_
  refine JL.nil ?_
  refine JN.code ?_
  refine J.seq ?_
  refine J.seq ?_
  refine J.region ?_
  refine JL.qt (Qt.move rfl) rfl ?_
  refine JL.qt (Qt.bin (v := .bool false) (fun _ => lss_run) rfl rfl rfl) rfl ?_
  refine JL.qt (Qt.move rfl) rfl ?_
  refine JL.g_in rfl rfl ?_
  refine JL.qt (Qt.move rfl) rfl ?_
  refine JL.g_in rfl rfl ?_
  refine JL.qt (Qt.bin (v := .bool false) (fun _ => gtr_run) rfl rfl rfl) rfl ?_
  refine JL.qt (Qt.pick_f rfl rfl) rfl ?_
  refine JL.nil ?_
  refine JN.code ?_
  refine J.cond_false rfl ?_
  refine J.skip ?_
  refine JN.code ?_
  refine J.seq ?_
  refine J.region ?_
  refine JL.qt (Qt.move rfl) rfl ?_
  refine JL.qt (Qt.bin (fun _ => mulN_run (c := 8) (by decide) (by decide) (by decide)) rfl rfl rfl) rfl ?_
  refine JL.qt (Qt.conv (fun _ => convN_run Tryz.underlying3 Tryz.underlying156 (by rfl)) rfl) rfl ?_
  refine JL.qt (Qt.bin (v := .int .i64 256) (fun _ => by rw [shl_run (by decide)]; rfl) rfl rfl rfl) rfl ?_
  refine JL.qt (Qt.bin (fun _ => subN_run (c := 255) (by decide) (by decide) (by decide)) rfl rfl rfl) rfl ?_
  refine JL.qt (Qt.assign rfl) rfl ?_
  refine JL.qt (Qt.assign rfl) rfl ?_
  refine JL.nil ?_
  refine JN.code ?_
  refine J.ret ?_
  refine JN.back (res2 rfl rfl rfl) [] rfl ?_
  exact ⟨rfl, rfl⟩
theorem s_top2 :
    Spec Tryz.prog 67 [.int .i64 2].toArray [] (fun v L => v = .tuple #[.int .i64 65535, .bool true] ∧ L = []) := by
  refine Spec.enter Tryz.func67 rfl Tryz.ntmps67 rfl rfl (fun w0 R0 F0 => ?_)
  refine J.seq ?_
  refine J.region ?_
  refine JL.qt (Qt.assign rfl) rfl ?_
  refine JL.qt (Qt.assign rfl) rfl ?_
  refine JL.nil ?_
  refine JN.code ?_
  refine J.seq ?_
  refine J.seq ?_
  refine J.region ?_
  refine JL.qt (Qt.move rfl) rfl ?_
  refine JL.qt (Qt.bin (v := .bool false) (fun _ => lss_run) rfl rfl rfl) rfl ?_
  refine JL.qt (Qt.move rfl) rfl ?_
  refine JL.g_in rfl rfl ?_
  refine JL.qt (Qt.move rfl) rfl ?_
  refine JL.g_in rfl rfl ?_
  refine JL.qt (Qt.bin (v := .bool false) (fun _ => gtr_run) rfl rfl rfl) rfl ?_
  refine JL.qt (Qt.pick_f rfl rfl) rfl ?_
  refine JL.nil ?_
  refine JN.code ?_
  refine J.cond_false rfl ?_
  refine J.skip ?_
  refine JN.code ?_
  refine J.seq ?_
  refine J.region ?_
  refine JL.qt (Qt.move rfl) rfl ?_
  refine JL.qt (Qt.bin (fun _ => mulN_run (c := 16) (by decide) (by decide) (by decide)) rfl rfl rfl) rfl ?_
  refine JL.qt (Qt.conv (fun _ => convN_run Tryz.underlying3 Tryz.underlying156 (by rfl)) rfl) rfl ?_
  refine JL.qt (Qt.bin (v := .int .i64 65536) (fun _ => by rw [shl_run (by decide)]; rfl) rfl rfl rfl) rfl ?_
  refine JL.qt (Qt.bin (fun _ => subN_run (c := 65535) (by decide) (by decide) (by decide)) rfl rfl rfl) rfl ?_
  refine JL.qt (Qt.assign rfl) rfl ?_
  refine JL.qt (Qt.assign rfl) rfl ?_
  refine JL.nil ?_
  refine JN.code ?_
  refine J.ret ?_
  refine JN.back (res2 rfl rfl rfl) [] rfl ?_
  exact ⟨rfl, rfl⟩
theorem s_top4 :
    Spec Tryz.prog 67 [.int .i64 4].toArray [] (fun v L => v = .tuple #[.int .i64 4294967295, .bool true] ∧ L = []) := by
  refine Spec.enter Tryz.func67 rfl Tryz.ntmps67 rfl rfl (fun w0 R0 F0 => ?_)
  refine J.seq ?_
  refine J.region ?_
  refine JL.qt (Qt.assign rfl) rfl ?_
  refine JL.qt (Qt.assign rfl) rfl ?_
  refine JL.nil ?_
  refine JN.code ?_
  refine J.seq ?_
  refine J.seq ?_
  refine J.region ?_
  refine JL.qt (Qt.move rfl) rfl ?_
  refine JL.qt (Qt.bin (v := .bool false) (fun _ => lss_run) rfl rfl rfl) rfl ?_
  refine JL.qt (Qt.move rfl) rfl ?_
  refine JL.g_in rfl rfl ?_
  refine JL.qt (Qt.move rfl) rfl ?_
  refine JL.g_in rfl rfl ?_
  refine JL.qt (Qt.bin (v := .bool false) (fun _ => gtr_run) rfl rfl rfl) rfl ?_
  refine JL.qt (Qt.pick_f rfl rfl) rfl ?_
  refine JL.nil ?_
  refine JN.code ?_
  refine J.cond_false rfl ?_
  refine J.skip ?_
  refine JN.code ?_
  refine J.seq ?_
  refine J.region ?_
  refine JL.qt (Qt.move rfl) rfl ?_
  refine JL.qt (Qt.bin (fun _ => mulN_run (c := 32) (by decide) (by decide) (by decide)) rfl rfl rfl) rfl ?_
  refine JL.qt (Qt.conv (fun _ => convN_run Tryz.underlying3 Tryz.underlying156 (by rfl)) rfl) rfl ?_
  refine JL.qt (Qt.bin (v := .int .i64 4294967296) (fun _ => by rw [shl_run (by decide)]; rfl) rfl rfl rfl) rfl ?_
  refine JL.qt (Qt.bin (fun _ => subN_run (c := 4294967295) (by decide) (by decide) (by decide)) rfl rfl rfl) rfl ?_
  refine JL.qt (Qt.assign rfl) rfl ?_
  refine JL.qt (Qt.assign rfl) rfl ?_
  refine JL.nil ?_
  refine JN.code ?_
  refine J.ret ?_
  refine JN.back (res2 rfl rfl rfl) [] rfl ?_
  exact ⟨rfl, rfl⟩
theorem s_put1 (A1 : Option Addr) (c1 : Nat) (xs : List Int) (n : Int) (hx : xs.length ≤ 1099511627776) :
    Spec Tryz.prog 42 [.slice A1 xs.length c1, .int .i64 n, .int .i64 1].toArray [row (Kd.int .u8) 5 A1 c1 xs] (fun v L => ∃ (A2 : Option Addr), ∃ (c2 : Nat), v = .tuple #[.slice A2 (((f_put1 xs n).1).length) c2, .int .i64 ((f_put1 xs n).2)] ∧ L = [row (Kd.int .u8) 5 A1 c1 xs, row (Kd.int .u8) 5 A2 c2 ((f_put1 xs n).1)]) := by
  refine Spec.enter Tryz.func42 rfl Tryz.ntmps42 rfl rfl (fun w0 R0 F0 => ?_)
  refine J.seq ?_
  refine J.region ?_
  refine JL.qt (Qt.assign rfl) rfl ?_
  refine JL.qt (Qt.assign rfl) rfl ?_
  refine JL.nil ?_
  refine JN.code ?_
  refine J.seq ?_
  refine J.region ?_
  refine JL.qt (Qt.move rfl) rfl ?_
  refine JL.call (O1.call Tryz.func67 rfl rfl rfl [] rfl s_top1) rfl ?_
  rintro _ _ ⟨rfl, rfl⟩
  refine JL.qt (Qt.move rfl) rfl ?_
  refine JL.qt (Qt.extract rfl rfl) rfl ?_
  refine JL.qt (Qt.extract rfl rfl) rfl ?_
  refine JL.qt (Qt.assign rfl) rfl ?_
  refine JL.qt (Qt.assign rfl) rfl ?_
  refine JL.nil ?_
  refine JN.code ?_
  refine J.seq ?_
  refine J.block ?_
  refine J.seq ?_
  refine J.region ?_
  refine JL.qt (Qt.move rfl) rfl ?_
  refine JL.qt (Qt.un (v := .bool false) (fun _ => not_run) rfl) rfl ?_
  refine JL.qt (Qt.assign rfl) rfl ?_
  refine JL.nil ?_
  refine JN.code ?_
  refine J.cond_false rfl ?_
  refine J.seq ?_
  refine J.region ?_
  refine JL.qt (Qt.move rfl) rfl ?_
  refine JL.qt (Qt.bin (fun _ => lss_run) rfl rfl rfl) rfl ?_
  refine JL.qt (Qt.move rfl) rfl ?_
  refine JL.cases_dec (t := 23) rfl (fun h1 => ?_) (fun h1 => ?_)
  · refine JL.g_outU rfl rfl rfl rfl ?_
    refine JL.g_outU rfl rfl rfl rfl ?_
    refine JL.g_outU rfl rfl rfl rfl ?_
    refine JL.qt (Qt.pick_t rfl rfl) rfl ?_
    refine JL.qt (Qt.assign rfl) rfl ?_
    refine JL.nil ?_
    refine JN.code ?_
    refine J.cond_true rfl ?_
    refine J.seq ?_
    refine J.region ?_
    refine JL.qt (Qt.assign rfl) rfl ?_
    refine JL.qt (Qt.assign rfl) rfl ?_
    refine JL.nil ?_
    refine JN.code ?_
    refine J.ret ?_
    refine JN.intro_pers (p := row (Kd.int .u8) 5 none 0 []) (fun w R => row_nil _ _ w R) ?_
    refine JN.back (res2 rfl rfl rfl) [1, 0] rfl ?_
    exact ⟨none, 0, by unfold f_put1; rw [if_pos h1] <;> rfl, by unfold f_put1; rw [if_pos h1] <;> rfl⟩
  refine JL.g_in rfl rfl ?_
  refine JL.qt (Qt.move rfl) rfl ?_
  refine JL.g_in rfl rfl ?_
  refine JL.qt (Qt.move rfl) rfl ?_
  refine JL.g_in rfl rfl ?_
  refine JL.qt (Qt.bin (fun _ => gtr_run) rfl rfl rfl) rfl ?_
  refine JL.qt (Qt.pick_f rfl rfl) rfl ?_
  refine JL.qt (Qt.assign rfl) rfl ?_
  refine JL.nil ?_
  refine JN.code ?_
  refine J.cond_dec rfl (fun h2 => ?_) (fun h2 => ?_)
  · refine J.seq ?_
    refine J.region ?_
    refine JL.qt (Qt.assign rfl) rfl ?_
    refine JL.qt (Qt.assign rfl) rfl ?_
    refine JL.nil ?_
    refine JN.code ?_
    refine J.ret ?_
    refine JN.intro_pers (p := row (Kd.int .u8) 5 none 0 []) (fun w R => row_nil _ _ w R) ?_
    refine JN.back (res2 rfl rfl rfl) [1, 0] rfl ?_
    exact ⟨none, 0, by unfold f_put1; rw [if_neg h1, if_pos h2] <;> rfl, by unfold f_put1; rw [if_neg h1, if_pos h2] <;> rfl⟩
  refine J.skip ?_
  refine JN.code ?_
  refine J.seq ?_
  refine J.region ?_
  refine JL.qt (Qt.move rfl) rfl ?_
  refine JL.qt (Qt.bi (fun _ _ => len_slice_run Tryz.underlying37) rfl) rfl ?_
  refine JL.qt (Qt.move rfl) rfl ?_
  refine JL.qt (Qt.bi (fun _ _ => len_slice_run Tryz.underlying37) rfl) rfl ?_
  refine JL.qt (Qt.move rfl) rfl ?_
  refine JL.qt (Qt.bin (fun _ => addN_run rfl (by omega) (by omega)) rfl rfl rfl) rfl ?_
  refine JL.ef (O1.mk (D := (Kd.int .u8)) (m := xs.length) (c := (((xs.length : Nat) : Int) + 1).toNat) (zs := (List.replicate xs.length 0)) el37 ze5 rfl rfl (by omega) (by omega) ⟨by simp, fun _ _ => elems_zero (k := .u8) ⟨by decide, by decide⟩ _⟩) rfl ?_
  rintro _ _ ⟨A_1, c_2, rfl, rfl⟩
  refine JL.qt (Qt.assign rfl) rfl ?_
  refine JL.nil ?_
  refine JN.code ?_
  refine J.seq ?_
  refine J.keep [0, 1, 2, 6, 7, 10] rfl ?_
  refine J.region ?_
  refine JL.qt (Qt.move rfl) rfl ?_
  refine JL.qt (Qt.move rfl) rfl ?_
  refine JL.ef (O1.copyRow (D := (Kd.int .u8)) 0 0 rfl el37 rfl rfl rfl (by simp)) rfl ?_
  rintro _ _ ⟨rfl, rfl⟩
  refine JL.upd_env (t := 10) (v' := .slice A_1 xs.length c_2) rfl (by simp) ?_
  refine JL.upd_env (t := 35) (v' := .slice A_1 xs.length c_2) rfl (by simp) ?_
  refine JL.nil ?_
  refine JN.code ?_
  refine J.seq ?_
  refine J.seq ?_
  refine J.region ?_
  refine JL.qt (Qt.move rfl) rfl ?_
  refine JL.qt (Qt.bin (fun _ => mulN_run (c := 8) (by decide) (by decide) (by decide)) rfl rfl rfl) rfl ?_
  refine JL.qt (Qt.assign rfl) rfl ?_
  refine JL.nil ?_
  refine JN.code ?_
  refine J.block ?_
  refine J.unroll 1 ?_
  refine J.seq ?_
  refine J.seq ?_
  refine J.region ?_
  refine JL.qt (Qt.move rfl) rfl ?_
  refine JL.qt (Qt.bin (v := .bool true) (fun _ => gtr_run) rfl rfl rfl) rfl ?_
  refine JL.nil ?_
  refine JN.code ?_
  refine J.cond_true rfl ?_
  refine J.skip ?_
  refine JN.code ?_
  refine J.block ?_
  refine J.seq ?_
  refine J.region ?_
  refine JL.qt (Qt.move rfl) rfl ?_
  refine JL.qt (Qt.bin (fun _ => subN_run (c := 0) (by decide) (by decide) (by decide)) rfl rfl rfl) rfl ?_
  refine JL.qt (Qt.assign rfl) rfl ?_
  refine JL.nil ?_
  refine JN.code ?_
  refine J.region ?_
  refine JL.qt (Qt.move rfl) rfl ?_
  refine JL.qt (Qt.move rfl) rfl ?_
  refine JL.qt (Qt.move rfl) rfl ?_
  refine JL.qt (Qt.conv (fun _ => convN_run Tryz.underlying3 Tryz.underlying156 (by first | rfl | (unfold IntKind.wrap; simp; omega))) rfl) rfl ?_
  refine JL.qt (Qt.bin (fun _ => shr_run (by omega)) rfl rfl rfl) rfl ?_
  refine JL.qt (Qt.conv (fun _ => conv_run Tryz.underlying3 Tryz.underlying5) rfl) rfl ?_
  refine JL.ef (O1.bsl el37 ze5 rfl rfl rfl) rfl ?_
  rintro _ _ ⟨b_3, rfl, rfl⟩
  refine JL.ef (O1.append (D := (Kd.int .u8)) (xs := xs) (ys := [(IntKind.u8.wrap (Sl.shr .i64 n 0))]) 1 el37 rfl rfl rfl rfl rfl (fun w R o s => Elems.one_elem ⟨rfl, u8_in _⟩) (by simp; omega)) rfl ?_
  rintro _ _ ⟨A_4, c_5, rfl, rfl⟩
  refine JL.qt (Qt.assign rfl) rfl ?_
  refine JL.nil ?_
  refine JN.again ?_
  refine J.seq ?_
  refine J.seq ?_
  refine J.region ?_
  refine JL.qt (Qt.move rfl) rfl ?_
  refine JL.qt (Qt.bin (v := .bool false) (fun _ => gtr_run) rfl rfl rfl) rfl ?_
  refine JL.nil ?_
  refine JN.code ?_
  refine J.cond_false rfl ?_
  refine J.exit ?_
  refine JN.code ?_
  refine J.seq ?_
  refine J.region ?_
  refine JL.qt (Qt.move rfl) rfl ?_
  refine JL.qt (Qt.assign rfl) rfl ?_
  refine JL.qt (Qt.assign rfl) rfl ?_
  refine JL.nil ?_
  refine JN.code ?_
  refine J.ret ?_
  refine JN.back (res2 rfl rfl rfl) [1, 0] rfl ?_
  exact ⟨A_4, c_5, by unfold f_put1; rw [if_neg h1, if_neg h2] <;> rfl, by unfold f_put1; rw [if_neg h1, if_neg h2] <;> rfl⟩
theorem s_put2 (A1 : Option Addr) (c1 : Nat) (xs : List Int) (n : Int) (hx : xs.length ≤ 1099511627776) :
    Spec Tryz.prog 42 [.slice A1 xs.length c1, .int .i64 n, .int .i64 2].toArray [row (Kd.int .u8) 5 A1 c1 xs] (fun v L => ∃ (A2 : Option Addr), ∃ (c2 : Nat), v = .tuple #[.slice A2 (((f_put2 xs n).1).length) c2, .int .i64 ((f_put2 xs n).2)] ∧ L = [row (Kd.int .u8) 5 A1 c1 xs, row (Kd.int .u8) 5 A2 c2 ((f_put2 xs n).1)]) := by
  refine Spec.enter Tryz.func42 rfl Tryz.ntmps42 rfl rfl (fun w0 R0 F0 => ?_)
  refine J.seq ?_
  refine J.region ?_
  refine JL.qt (Qt.assign rfl) rfl ?_
  refine JL.qt (Qt.assign rfl) rfl ?_
  refine JL.nil ?_
  refine JN.code ?_
  refine J.seq ?_
  refine J.region ?_
  refine JL.qt (Qt.move rfl) rfl ?_
  refine JL.call (O1.call Tryz.func67 rfl rfl rfl [] rfl s_top2) rfl ?_
  rintro _ _ ⟨rfl, rfl⟩
  refine JL.qt (Qt.move rfl) rfl ?_
  refine JL.qt (Qt.extract rfl rfl) rfl ?_
  refine JL.qt (Qt.extract rfl rfl) rfl ?_
  refine JL.qt (Qt.assign rfl) rfl ?_
  refine JL.qt (Qt.assign rfl) rfl ?_
  refine JL.nil ?_
  refine JN.code ?_
  refine J.seq ?_
  refine J.block ?_
  refine J.seq ?_
  refine J.region ?_
  refine JL.qt (Qt.move rfl) rfl ?_
  refine JL.qt (Qt.un (v := .bool false) (fun _ => not_run) rfl) rfl ?_
  refine JL.qt (Qt.assign rfl) rfl ?_
  refine JL.nil ?_
  refine JN.code ?_
  refine J.cond_false rfl ?_
  refine J.seq ?_
  refine J.region ?_
  refine JL.qt (Qt.move rfl) rfl ?_
  refine JL.qt (Qt.bin (fun _ => lss_run) rfl rfl rfl) rfl ?_
  refine JL.qt (Qt.move rfl) rfl ?_
  refine JL.cases_dec (t := 23) rfl (fun h1 => ?_) (fun h1 => ?_)
  · refine JL.g_outU rfl rfl rfl rfl ?_
    refine JL.g_outU rfl rfl rfl rfl ?_
    refine JL.g_outU rfl rfl rfl rfl ?_
    refine JL.qt (Qt.pick_t rfl rfl) rfl ?_
    refine JL.qt (Qt.assign rfl) rfl ?_
    refine JL.nil ?_
    refine JN.code ?_
    refine J.cond_true rfl ?_
    refine J.seq ?_
    refine J.region ?_
    refine JL.qt (Qt.assign rfl) rfl ?_
    refine JL.qt (Qt.assign rfl) rfl ?_
    refine JL.nil ?_
    refine JN.code ?_
    refine J.ret ?_
    refine JN.intro_pers (p := row (Kd.int .u8) 5 none 0 []) (fun w R => row_nil _ _ w R) ?_
    refine JN.back (res2 rfl rfl rfl) [1, 0] rfl ?_
    exact ⟨none, 0, by unfold f_put2; rw [if_pos h1] <;> rfl, by unfold f_put2; rw [if_pos h1] <;> rfl⟩
  refine JL.g_in rfl rfl ?_
  refine JL.qt (Qt.move rfl) rfl ?_
  refine JL.g_in rfl rfl ?_
  refine JL.qt (Qt.move rfl) rfl ?_
  refine JL.g_in rfl rfl ?_
  refine JL.qt (Qt.bin (fun _ => gtr_run) rfl rfl rfl) rfl ?_
  refine JL.qt (Qt.pick_f rfl rfl) rfl ?_
  refine JL.qt (Qt.assign rfl) rfl ?_
  refine JL.nil ?_
  refine JN.code ?_
  refine J.cond_dec rfl (fun h2 => ?_) (fun h2 => ?_)
  · refine J.seq ?_
    refine J.region ?_
    refine JL.qt (Qt.assign rfl) rfl ?_
    refine JL.qt (Qt.assign rfl) rfl ?_
    refine JL.nil ?_
    refine JN.code ?_
    refine J.ret ?_
    refine JN.intro_pers (p := row (Kd.int .u8) 5 none 0 []) (fun w R => row_nil _ _ w R) ?_
    refine JN.back (res2 rfl rfl rfl) [1, 0] rfl ?_
    exact ⟨none, 0, by unfold f_put2; rw [if_neg h1, if_pos h2] <;> rfl, by unfold f_put2; rw [if_neg h1, if_pos h2] <;> rfl⟩
  refine J.skip ?_
  refine JN.code ?_
  refine J.seq ?_
  refine J.region ?_
  refine JL.qt (Qt.move rfl) rfl ?_
  refine JL.qt (Qt.bi (fun _ _ => len_slice_run Tryz.underlying37) rfl) rfl ?_
  refine JL.qt (Qt.move rfl) rfl ?_
  refine JL.qt (Qt.bi (fun _ _ => len_slice_run Tryz.underlying37) rfl) rfl ?_
  refine JL.qt (Qt.move rfl) rfl ?_
  refine JL.qt (Qt.bin (fun _ => addN_run rfl (by omega) (by omega)) rfl rfl rfl) rfl ?_
  refine JL.ef (O1.mk (D := (Kd.int .u8)) (m := xs.length) (c := (((xs.length : Nat) : Int) + 2).toNat) (zs := (List.replicate xs.length 0)) el37 ze5 rfl rfl (by omega) (by omega) ⟨by simp, fun _ _ => elems_zero (k := .u8) ⟨by decide, by decide⟩ _⟩) rfl ?_
  rintro _ _ ⟨A_1, c_2, rfl, rfl⟩
  refine JL.qt (Qt.assign rfl) rfl ?_
  refine JL.nil ?_
  refine JN.code ?_
  refine J.seq ?_
  refine J.keep [0, 1, 2, 6, 7, 10] rfl ?_
  refine J.region ?_
  refine JL.qt (Qt.move rfl) rfl ?_
  refine JL.qt (Qt.move rfl) rfl ?_
  refine JL.ef (O1.copyRow (D := (Kd.int .u8)) 0 0 rfl el37 rfl rfl rfl (by simp)) rfl ?_
  rintro _ _ ⟨rfl, rfl⟩
  refine JL.upd_env (t := 10) (v' := .slice A_1 xs.length c_2) rfl (by simp) ?_
  refine JL.upd_env (t := 35) (v' := .slice A_1 xs.length c_2) rfl (by simp) ?_
  refine JL.nil ?_
  refine JN.code ?_
  refine J.seq ?_
  refine J.seq ?_
  refine J.region ?_
  refine JL.qt (Qt.move rfl) rfl ?_
  refine JL.qt (Qt.bin (fun _ => mulN_run (c := 16) (by decide) (by decide) (by decide)) rfl rfl rfl) rfl ?_
  refine JL.qt (Qt.assign rfl) rfl ?_
  refine JL.nil ?_
  refine JN.code ?_
  refine J.block ?_
  refine J.unroll 2 ?_
  refine J.seq ?_
  refine J.seq ?_
  refine J.region ?_
  refine JL.qt (Qt.move rfl) rfl ?_
  refine JL.qt (Qt.bin (v := .bool true) (fun _ => gtr_run) rfl rfl rfl) rfl ?_
  refine JL.nil ?_
  refine JN.code ?_
  refine J.cond_true rfl ?_
  refine J.skip ?_
  refine JN.code ?_
  refine J.block ?_
  refine J.seq ?_
  refine J.region ?_
  refine JL.qt (Qt.move rfl) rfl ?_
  refine JL.qt (Qt.bin (fun _ => subN_run (c := 8) (by decide) (by decide) (by decide)) rfl rfl rfl) rfl ?_
  refine JL.qt (Qt.assign rfl) rfl ?_
  refine JL.nil ?_
  refine JN.code ?_
  refine J.region ?_
  refine JL.qt (Qt.move rfl) rfl ?_
  refine JL.qt (Qt.move rfl) rfl ?_
  refine JL.qt (Qt.move rfl) rfl ?_
  refine JL.qt (Qt.conv (fun _ => convN_run Tryz.underlying3 Tryz.underlying156 (by first | rfl | (unfold IntKind.wrap; simp; omega))) rfl) rfl ?_
  refine JL.qt (Qt.bin (fun _ => shr_run (by omega)) rfl rfl rfl) rfl ?_
  refine JL.qt (Qt.conv (fun _ => conv_run Tryz.underlying3 Tryz.underlying5) rfl) rfl ?_
  refine JL.ef (O1.bsl el37 ze5 rfl rfl rfl) rfl ?_
  rintro _ _ ⟨b_3, rfl, rfl⟩
  refine JL.ef (O1.append (D := (Kd.int .u8)) (xs := xs) (ys := [(IntKind.u8.wrap (Sl.shr .i64 n 8))]) 1 el37 rfl rfl rfl rfl rfl (fun w R o s => Elems.one_elem ⟨rfl, u8_in _⟩) (by simp; omega)) rfl ?_
  rintro _ _ ⟨A_4, c_5, rfl, rfl⟩
  refine JL.qt (Qt.assign rfl) rfl ?_
  refine JL.nil ?_
  refine JN.again ?_
  refine J.seq ?_
  refine J.seq ?_
  refine J.region ?_
  refine JL.qt (Qt.move rfl) rfl ?_
  refine JL.qt (Qt.bin (v := .bool true) (fun _ => gtr_run) rfl rfl rfl) rfl ?_
  refine JL.nil ?_
  refine JN.code ?_
  refine J.cond_true rfl ?_
  refine J.skip ?_
  refine JN.code ?_
  refine J.block ?_
  refine J.seq ?_
  refine J.region ?_
  refine JL.qt (Qt.move rfl) rfl ?_
  refine JL.qt (Qt.bin (fun _ => subN_run (c := 0) (by decide) (by decide) (by decide)) rfl rfl rfl) rfl ?_
  refine JL.qt (Qt.assign rfl) rfl ?_
  refine JL.nil ?_
  refine JN.code ?_
  refine J.region ?_
  refine JL.qt (Qt.move rfl) rfl ?_
  refine JL.qt (Qt.move rfl) rfl ?_
  refine JL.qt (Qt.move rfl) rfl ?_
  refine JL.qt (Qt.conv (fun _ => convN_run Tryz.underlying3 Tryz.underlying156 (by first | rfl | (unfold IntKind.wrap; simp; omega))) rfl) rfl ?_
  refine JL.qt (Qt.bin (fun _ => shr_run (by omega)) rfl rfl rfl) rfl ?_
  refine JL.qt (Qt.conv (fun _ => conv_run Tryz.underlying3 Tryz.underlying5) rfl) rfl ?_
  refine JL.ef (O1.bsl el37 ze5 rfl rfl rfl) rfl ?_
  rintro _ _ ⟨b_6, rfl, rfl⟩
  refine JL.ef (O1.append (D := (Kd.int .u8)) (xs := (xs ++ [(IntKind.u8.wrap (Sl.shr .i64 n 8))])) (ys := [(IntKind.u8.wrap (Sl.shr .i64 n 0))]) 1 el37 rfl rfl rfl rfl rfl (fun w R o s => Elems.one_elem ⟨rfl, u8_in _⟩) (by simp; omega)) rfl ?_
  rintro _ _ ⟨A_7, c_8, rfl, rfl⟩
  refine JL.qt (Qt.assign rfl) rfl ?_
  refine JL.nil ?_
  refine JN.again ?_
  refine J.seq ?_
  refine J.seq ?_
  refine J.region ?_
  refine JL.qt (Qt.move rfl) rfl ?_
  refine JL.qt (Qt.bin (v := .bool false) (fun _ => gtr_run) rfl rfl rfl) rfl ?_
  refine JL.nil ?_
  refine JN.code ?_
  refine J.cond_false rfl ?_
  refine J.exit ?_
  refine JN.code ?_
  refine J.seq ?_
  refine J.region ?_
  refine JL.qt (Qt.move rfl) rfl ?_
  refine JL.qt (Qt.assign rfl) rfl ?_
  refine JL.qt (Qt.assign rfl) rfl ?_
  refine JL.nil ?_
  refine JN.code ?_
  refine J.ret ?_
  refine JN.back (res2 rfl rfl rfl) [1, 0] rfl ?_
  exact ⟨A_7, c_8, by unfold f_put2; rw [if_neg h1, if_neg h2] <;> rfl, by unfold f_put2; rw [if_neg h1, if_neg h2] <;> rfl⟩
theorem s_put4 (A1 : Option Addr) (c1 : Nat) (xs : List Int) (n : Int) (hx : xs.length ≤ 1099511627776) :
    Spec Tryz.prog 42 [.slice A1 xs.length c1, .int .i64 n, .int .i64 4].toArray [row (Kd.int .u8) 5 A1 c1 xs] (fun v L => ∃ (A2 : Option Addr), ∃ (c2 : Nat), v = .tuple #[.slice A2 (((f_put4 xs n).1).length) c2, .int .i64 ((f_put4 xs n).2)] ∧ L = [row (Kd.int .u8) 5 A1 c1 xs, row (Kd.int .u8) 5 A2 c2 ((f_put4 xs n).1)]) := by
  refine Spec.enter Tryz.func42 rfl Tryz.ntmps42 rfl rfl (fun w0 R0 F0 => ?_)
  refine J.seq ?_
  refine J.region ?_
  refine JL.qt (Qt.assign rfl) rfl ?_
  refine JL.qt (Qt.assign rfl) rfl ?_
  refine JL.nil ?_
  refine JN.code ?_
  refine J.seq ?_
  refine J.region ?_
  refine JL.qt (Qt.move rfl) rfl ?_
  refine JL.call (O1.call Tryz.func67 rfl rfl rfl [] rfl s_top4) rfl ?_
  rintro _ _ ⟨rfl, rfl⟩
  refine JL.qt (Qt.move rfl) rfl ?_
  refine JL.qt (Qt.extract rfl rfl) rfl ?_
  refine JL.qt (Qt.extract rfl rfl) rfl ?_
  refine JL.qt (Qt.assign rfl) rfl ?_
  refine JL.qt (Qt.assign rfl) rfl ?_
  refine JL.nil ?_
  refine JN.code ?_
  refine J.seq ?_
  refine J.block ?_
  refine J.seq ?_
  refine J.region ?_
  refine JL.qt (Qt.move rfl) rfl ?_
  refine JL.qt (Qt.un (v := .bool false) (fun _ => not_run) rfl) rfl ?_
  refine JL.qt (Qt.assign rfl) rfl ?_
  refine JL.nil ?_
  refine JN.code ?_
  refine J.cond_false rfl ?_
  refine J.seq ?_
  refine J.region ?_
  refine JL.qt (Qt.move rfl) rfl ?_
  refine JL.qt (Qt.bin (fun _ => lss_run) rfl rfl rfl) rfl ?_
  refine JL.qt (Qt.move rfl) rfl ?_
  refine JL.cases_dec (t := 23) rfl (fun h1 => ?_) (fun h1 => ?_)
  · refine JL.g_outU rfl rfl rfl rfl ?_
    refine JL.g_outU rfl rfl rfl rfl ?_
    refine JL.g_outU rfl rfl rfl rfl ?_
    refine JL.qt (Qt.pick_t rfl rfl) rfl ?_
    refine JL.qt (Qt.assign rfl) rfl ?_
    refine JL.nil ?_
    refine JN.code ?_
    refine J.cond_true rfl ?_
    refine J.seq ?_
    refine J.region ?_
    refine JL.qt (Qt.assign rfl) rfl ?_
    refine JL.qt (Qt.assign rfl) rfl ?_
    refine JL.nil ?_
    refine JN.code ?_
    refine J.ret ?_
    refine JN.intro_pers (p := row (Kd.int .u8) 5 none 0 []) (fun w R => row_nil _ _ w R) ?_
    refine JN.back (res2 rfl rfl rfl) [1, 0] rfl ?_
    exact ⟨none, 0, by unfold f_put4; rw [if_pos h1] <;> rfl, by unfold f_put4; rw [if_pos h1] <;> rfl⟩
  refine JL.g_in rfl rfl ?_
  refine JL.qt (Qt.move rfl) rfl ?_
  refine JL.g_in rfl rfl ?_
  refine JL.qt (Qt.move rfl) rfl ?_
  refine JL.g_in rfl rfl ?_
  refine JL.qt (Qt.bin (fun _ => gtr_run) rfl rfl rfl) rfl ?_
  refine JL.qt (Qt.pick_f rfl rfl) rfl ?_
  refine JL.qt (Qt.assign rfl) rfl ?_
  refine JL.nil ?_
  refine JN.code ?_
  refine J.cond_dec rfl (fun h2 => ?_) (fun h2 => ?_)
  · refine J.seq ?_
    refine J.region ?_
    refine JL.qt (Qt.assign rfl) rfl ?_
    refine JL.qt (Qt.assign rfl) rfl ?_
    refine JL.nil ?_
    refine JN.code ?_
    refine J.ret ?_
    refine JN.intro_pers (p := row (Kd.int .u8) 5 none 0 []) (fun w R => row_nil _ _ w R) ?_
    refine JN.back (res2 rfl rfl rfl) [1, 0] rfl ?_
    exact ⟨none, 0, by unfold f_put4; rw [if_neg h1, if_pos h2] <;> rfl, by unfold f_put4; rw [if_neg h1, if_pos h2] <;> rfl⟩
  refine J.skip ?_
  refine JN.code ?_
  refine J.seq ?_
  refine J.region ?_
  refine JL.qt (Qt.move rfl) rfl ?_
  refine JL.qt (Qt.bi (fun _ _ => len_slice_run Tryz.underlying37) rfl) rfl ?_
  refine JL.qt (Qt.move rfl) rfl ?_
  refine JL.qt (Qt.bi (fun _ _ => len_slice_run Tryz.underlying37) rfl) rfl ?_
  refine JL.qt (Qt.move rfl) rfl ?_
  refine JL.qt (Qt.bin (fun _ => addN_run rfl (by omega) (by omega)) rfl rfl rfl) rfl ?_
  refine JL.ef (O1.mk (D := (Kd.int .u8)) (m := xs.length) (c := (((xs.length : Nat) : Int) + 4).toNat) (zs := (List.replicate xs.length 0)) el37 ze5 rfl rfl (by omega) (by omega) ⟨by simp, fun _ _ => elems_zero (k := .u8) ⟨by decide, by decide⟩ _⟩) rfl ?_
  rintro _ _ ⟨A_1, c_2, rfl, rfl⟩
  refine JL.qt (Qt.assign rfl) rfl ?_
  refine JL.nil ?_
  refine JN.code ?_
  refine J.seq ?_
  refine J.keep [0, 1, 2, 6, 7, 10] rfl ?_
  refine J.region ?_
  refine JL.qt (Qt.move rfl) rfl ?_
  refine JL.qt (Qt.move rfl) rfl ?_
  refine JL.ef (O1.copyRow (D := (Kd.int .u8)) 0 0 rfl el37 rfl rfl rfl (by simp)) rfl ?_
  rintro _ _ ⟨rfl, rfl⟩
  refine JL.upd_env (t := 10) (v' := .slice A_1 xs.length c_2) rfl (by simp) ?_
  refine JL.upd_env (t := 35) (v' := .slice A_1 xs.length c_2) rfl (by simp) ?_
  refine JL.nil ?_
  refine JN.code ?_
  refine J.seq ?_
  refine J.seq ?_
  refine J.region ?_
  refine JL.qt (Qt.move rfl) rfl ?_
  refine JL.qt (Qt.bin (fun _ => mulN_run (c := 32) (by decide) (by decide) (by decide)) rfl rfl rfl) rfl ?_
  refine JL.qt (Qt.assign rfl) rfl ?_
  refine JL.nil ?_
  refine JN.code ?_
  refine J.block ?_
  refine J.unroll 4 ?_
  refine J.seq ?_
  refine J.seq ?_
  refine J.region ?_
  refine JL.qt (Qt.move rfl) rfl ?_
  refine JL.qt (Qt.bin (v := .bool true) (fun _ => gtr_run) rfl rfl rfl) rfl ?_
  refine JL.nil ?_
  refine JN.code ?_
  refine J.cond_true rfl ?_
  refine J.skip ?_
  refine JN.code ?_
  refine J.block ?_
  refine J.seq ?_
  refine J.region ?_
  refine JL.qt (Qt.move rfl) rfl ?_
  refine JL.qt (Qt.bin (fun _ => subN_run (c := 24) (by decide) (by decide) (by decide)) rfl rfl rfl) rfl ?_
  refine JL.qt (Qt.assign rfl) rfl ?_
  refine JL.nil ?_
  refine JN.code ?_
  refine J.region ?_
  refine JL.qt (Qt.move rfl) rfl ?_
  refine JL.qt (Qt.move rfl) rfl ?_
  refine JL.qt (Qt.move rfl) rfl ?_
  refine JL.qt (Qt.conv (fun _ => convN_run Tryz.underlying3 Tryz.underlying156 (by first | rfl | (unfold IntKind.wrap; simp; omega))) rfl) rfl ?_
  refine JL.qt (Qt.bin (fun _ => shr_run (by omega)) rfl rfl rfl) rfl ?_
  refine JL.qt (Qt.conv (fun _ => conv_run Tryz.underlying3 Tryz.underlying5) rfl) rfl ?_
  refine JL.ef (O1.bsl el37 ze5 rfl rfl rfl) rfl ?_
  rintro _ _ ⟨b_3, rfl, rfl⟩
  refine JL.ef (O1.append (D := (Kd.int .u8)) (xs := xs) (ys := [(IntKind.u8.wrap (Sl.shr .i64 n 24))]) 1 el37 rfl rfl rfl rfl rfl (fun w R o s => Elems.one_elem ⟨rfl, u8_in _⟩) (by simp; omega)) rfl ?_
  rintro _ _ ⟨A_4, c_5, rfl, rfl⟩
  refine JL.qt (Qt.assign rfl) rfl ?_
  refine JL.nil ?_
  refine JN.again ?_
  refine J.seq ?_
  refine J.seq ?_
  refine J.region ?_
  refine JL.qt (Qt.move rfl) rfl ?_
  refine JL.qt (Qt.bin (v := .bool true) (fun _ => gtr_run) rfl rfl rfl) rfl ?_
  refine JL.nil ?_
  refine JN.code ?_
  refine J.cond_true rfl ?_
  refine J.skip ?_
  refine JN.code ?_
  refine J.block ?_
  refine J.seq ?_
  refine J.region ?_
  refine JL.qt (Qt.move rfl) rfl ?_
  refine JL.qt (Qt.bin (fun _ => subN_run (c := 16) (by decide) (by decide) (by decide)) rfl rfl rfl) rfl ?_
  refine JL.qt (Qt.assign rfl) rfl ?_
  refine JL.nil ?_
  refine JN.code ?_
  refine J.region ?_
  refine JL.qt (Qt.move rfl) rfl ?_
  refine JL.qt (Qt.move rfl) rfl ?_
  refine JL.qt (Qt.move rfl) rfl ?_
  refine JL.qt (Qt.conv (fun _ => convN_run Tryz.underlying3 Tryz.underlying156 (by first | rfl | (unfold IntKind.wrap; simp; omega))) rfl) rfl ?_
  refine JL.qt (Qt.bin (fun _ => shr_run (by omega)) rfl rfl rfl) rfl ?_
  refine JL.qt (Qt.conv (fun _ => conv_run Tryz.underlying3 Tryz.underlying5) rfl) rfl ?_
  refine JL.ef (O1.bsl el37 ze5 rfl rfl rfl) rfl ?_
  rintro _ _ ⟨b_6, rfl, rfl⟩
  refine JL.ef (O1.append (D := (Kd.int .u8)) (xs := (xs ++ [(IntKind.u8.wrap (Sl.shr .i64 n 24))])) (ys := [(IntKind.u8.wrap (Sl.shr .i64 n 16))]) 1 el37 rfl rfl rfl rfl rfl (fun w R o s => Elems.one_elem ⟨rfl, u8_in _⟩) (by simp; omega)) rfl ?_
  rintro _ _ ⟨A_7, c_8, rfl, rfl⟩
  refine JL.qt (Qt.assign rfl) rfl ?_
  refine JL.nil ?_
  refine JN.again ?_
  refine J.seq ?_
  refine J.seq ?_
  refine J.region ?_
  refine JL.qt (Qt.move rfl) rfl ?_
  refine JL.qt (Qt.bin (v := .bool true) (fun _ => gtr_run) rfl rfl rfl) rfl ?_
  refine JL.nil ?_
  refine JN.code ?_
  refine J.cond_true rfl ?_
  refine J.skip ?_
  refine JN.code ?_
  refine J.block ?_
  refine J.seq ?_
  refine J.region ?_
  refine JL.qt (Qt.move rfl) rfl ?_
  refine JL.qt (Qt.bin (fun _ => subN_run (c := 8) (by decide) (by decide) (by decide)) rfl rfl rfl) rfl ?_
  refine JL.qt (Qt.assign rfl) rfl ?_
  refine JL.nil ?_
  refine JN.code ?_
  refine J.region ?_
  refine JL.qt (Qt.move rfl) rfl ?_
  refine JL.qt (Qt.move rfl) rfl ?_
  refine JL.qt (Qt.move rfl) rfl ?_
  refine JL.qt (Qt.conv (fun _ => convN_run Tryz.underlying3 Tryz.underlying156 (by first | rfl | (unfold IntKind.wrap; simp; omega))) rfl) rfl ?_
  refine JL.qt (Qt.bin (fun _ => shr_run (by omega)) rfl rfl rfl) rfl ?_
  refine JL.qt (Qt.conv (fun _ => conv_run Tryz.underlying3 Tryz.underlying5) rfl) rfl ?_
  refine JL.ef (O1.bsl el37 ze5 rfl rfl rfl) rfl ?_
  rintro _ _ ⟨b_9, rfl, rfl⟩
  refine JL.ef (O1.append (D := (Kd.int .u8)) (xs := ((xs ++ [(IntKind.u8.wrap (Sl.shr .i64 n 24))]) ++ [(IntKind.u8.wrap (Sl.shr .i64 n 16))])) (ys := [(IntKind.u8.wrap (Sl.shr .i64 n 8))]) 1 el37 rfl rfl rfl rfl rfl (fun w R o s => Elems.one_elem ⟨rfl, u8_in _⟩) (by simp; omega)) rfl ?_
  rintro _ _ ⟨A_10, c_11, rfl, rfl⟩
  refine JL.qt (Qt.assign rfl) rfl ?_
  refine JL.nil ?_
  refine JN.again ?_
  refine J.seq ?_
  refine J.seq ?_
  refine J.region ?_
  refine JL.qt (Qt.move rfl) rfl ?_
  refine JL.qt (Qt.bin (v := .bool true) (fun _ => gtr_run) rfl rfl rfl) rfl ?_
  refine JL.nil ?_
  refine JN.code ?_
  refine J.cond_true rfl ?_
  refine J.skip ?_
  refine JN.code ?_
  refine J.block ?_
  refine J.seq ?_
  refine J.region ?_
  refine JL.qt (Qt.move rfl) rfl ?_
  refine JL.qt (Qt.bin (fun _ => subN_run (c := 0) (by decide) (by decide) (by decide)) rfl rfl rfl) rfl ?_
  refine JL.qt (Qt.assign rfl) rfl ?_
  refine JL.nil ?_
  refine JN.code ?_
  refine J.region ?_
  refine JL.qt (Qt.move rfl) rfl ?_
  refine JL.qt (Qt.move rfl) rfl ?_
  refine JL.qt (Qt.move rfl) rfl ?_
  refine JL.qt (Qt.conv (fun _ => convN_run Tryz.underlying3 Tryz.underlying156 (by first | rfl | (unfold IntKind.wrap; simp; omega))) rfl) rfl ?_
  refine JL.qt (Qt.bin (fun _ => shr_run (by omega)) rfl rfl rfl) rfl ?_
  refine JL.qt (Qt.conv (fun _ => conv_run Tryz.underlying3 Tryz.underlying5) rfl) rfl ?_
  refine JL.ef (O1.bsl el37 ze5 rfl rfl rfl) rfl ?_
  rintro _ _ ⟨b_12, rfl, rfl⟩
  refine JL.ef (O1.append (D := (Kd.int .u8)) (xs := (((xs ++ [(IntKind.u8.wrap (Sl.shr .i64 n 24))]) ++ [(IntKind.u8.wrap (Sl.shr .i64 n 16))]) ++ [(IntKind.u8.wrap (Sl.shr .i64 n 8))])) (ys := [(IntKind.u8.wrap (Sl.shr .i64 n 0))]) 1 el37 rfl rfl rfl rfl rfl (fun w R o s => Elems.one_elem ⟨rfl, u8_in _⟩) (by simp; omega)) rfl ?_
  rintro _ _ ⟨A_13, c_14, rfl, rfl⟩
  refine JL.qt (Qt.assign rfl) rfl ?_
  refine JL.nil ?_
  refine JN.again ?_
  refine J.seq ?_
  refine J.seq ?_
  refine J.region ?_
  refine JL.qt (Qt.move rfl) rfl ?_
  refine JL.qt (Qt.bin (v := .bool false) (fun _ => gtr_run) rfl rfl rfl) rfl ?_
  refine JL.nil ?_
  refine JN.code ?_
  refine J.cond_false rfl ?_
  refine J.exit ?_
  refine JN.code ?_
  refine J.seq ?_
  refine J.region ?_
  refine JL.qt (Qt.move rfl) rfl ?_
  refine JL.qt (Qt.assign rfl) rfl ?_
  refine JL.qt (Qt.assign rfl) rfl ?_
  refine JL.nil ?_
  refine JN.code ?_
  refine J.ret ?_
  refine JN.back (res2 rfl rfl rfl) [1, 0] rfl ?_
  exact ⟨A_13, c_14, by unfold f_put4; rw [if_neg h1, if_neg h2] <;> rfl, by unfold f_put4; rw [if_neg h1, if_neg h2] <;> rfl⟩
end Go.Proofs.YthjbkngecgbioaaGreatDoor.Sl

/- Walks: the pen. -/
set_option maxRecDepth 100000
set_option linter.unusedSimpArgs false
set_option linter.unusedVariables false
namespace Go.Proofs.YthjbkngecgbioaaGreatDoor.Sl
open Go
theorem pl37 : plainTy Tryz.prog 37 = true := by kernel_rfl
theorem fo190_0 : fldOff Tryz.prog 190 0 = some 0 := by kernel_rfl
theorem fo190_1 : fldOff Tryz.prog 190 1 = some 1 := by kernel_rfl
theorem sz4 : szTy Tryz.prog 4 = some 1 := by kernel_rfl
theorem sz37 : szTy Tryz.prog 37 = some 1 := by kernel_rfl
theorem pl4 : plainTy Tryz.prog 4 = true := by kernel_rfl
structure ApiSetting where
  Id : Int
  Value : Int
def kApiSetting : Kd ApiSetting := Kd.iso (Kd.pair (Kd.int .i64) (Kd.int .i64)) (fun x => (x.Id, x.Value))
theorem unApiSetting {x : ApiSetting} {cs : List Value} : ∀ w R F, (kd kApiSetting x cs).h w R F → (cs = [.int .i64 x.Id, .int .i64 x.Value] ∧ inK .i64 x.Id ∧ inK .i64 x.Value) ∧ Star [] w R F := by
  intro w R F h
  simp only [kd, kApiSetting, Kd.iso, Kd.pair, Kd.int, Kd.bool, Kd.str, Kd.sl] at h
  obtain ⟨_, _, rfl, ⟨rfl, h0⟩, ⟨rfl, h1⟩⟩ := h
  exact ⟨⟨rfl, h0, h1⟩, trivial⟩
theorem mkApiSetting {x : ApiSetting} {w : World} {R : Foot}  (h0 : inK .i64 x.Id) (h1 : inK .i64 x.Value) : kApiSetting.rel w R x [.int .i64 x.Id, .int .i64 x.Value] := by
  simp only [kApiSetting, Kd.iso, Kd.pair, Kd.int, Kd.bool, Kd.str, Kd.sl]
  exact ⟨_, _, rfl, ⟨rfl, h0⟩, ⟨rfl, h1⟩⟩
structure ApiFrame where
  Type_ : Int
  Flags : Int
  Stream : Int
  Pad : Int
  Data : (List Int)
  Settings : (List ApiSetting)
  Weight : Int
  Parent : Int
  Alone : Bool
  Promised : Int
  Last : Int
  Code : Int
  Step : Int
def kApiFrame : Kd ApiFrame := Kd.iso (Kd.pair (Kd.int .i64) (Kd.pair (Kd.int .i64) (Kd.pair (Kd.int .i64) (Kd.pair (Kd.int .i64) (Kd.pair (Kd.sl (Kd.int .u8)) (Kd.pair (Kd.sl kApiSetting) (Kd.pair (Kd.int .i64) (Kd.pair (Kd.int .i64) (Kd.pair Kd.bool (Kd.pair (Kd.int .i64) (Kd.pair (Kd.int .i64) (Kd.pair (Kd.int .i64) (Kd.int .i64))))))))))))) (fun x => (x.Type_, (x.Flags, (x.Stream, (x.Pad, (x.Data, (x.Settings, (x.Weight, (x.Parent, (x.Alone, (x.Promised, (x.Last, (x.Code, x.Step)))))))))))))
theorem unApiFrame {x : ApiFrame} {cs : List Value} : ∀ w R F, (kd kApiFrame x cs).h w R F → ∃ (A4 : Option Addr) (c4 : Nat), ∃ (A5 : Option Addr) (c5 : Nat), (cs = [.int .i64 x.Type_, .int .i64 x.Flags, .int .i64 x.Stream, .int .i64 x.Pad, .slice A4 x.Data.length c4, .slice A5 x.Settings.length c5, .int .i64 x.Weight, .int .i64 x.Parent, .bool x.Alone, .int .i64 x.Promised, .int .i64 x.Last, .int .i64 x.Code, .int .i64 x.Step] ∧ inK .i64 x.Type_ ∧ inK .i64 x.Flags ∧ inK .i64 x.Stream ∧ inK .i64 x.Pad ∧ inK .i64 x.Weight ∧ inK .i64 x.Parent ∧ inK .i64 x.Promised ∧ inK .i64 x.Last ∧ inK .i64 x.Code ∧ inK .i64 x.Step) ∧ Star [rd (Kd.int .u8) A4 c4 x.Data, rd kApiSetting A5 c5 x.Settings] w R F := by
  intro w R F h
  simp only [kd, kApiFrame, Kd.iso, Kd.pair, Kd.int, Kd.bool, Kd.str, Kd.sl] at h
  obtain ⟨_, _, rfl, ⟨rfl, h0⟩, ⟨_, _, rfl, ⟨rfl, h1⟩, ⟨_, _, rfl, ⟨rfl, h2⟩, ⟨_, _, rfl, ⟨rfl, h3⟩, ⟨_, _, rfl, ⟨A4, c4, rfl, h4⟩, ⟨_, _, rfl, ⟨A5, c5, rfl, h5⟩, ⟨_, _, rfl, ⟨rfl, h6⟩, ⟨_, _, rfl, ⟨rfl, h7⟩, ⟨_, _, rfl, rfl, ⟨_, _, rfl, ⟨rfl, h9⟩, ⟨_, _, rfl, ⟨rfl, h10⟩, ⟨_, _, rfl, ⟨rfl, h11⟩, ⟨rfl, h12⟩⟩⟩⟩⟩⟩⟩⟩⟩⟩⟩⟩⟩ := h
  exact ⟨A4, c4, A5, c5, ⟨rfl, h0, h1, h2, h3, h6, h7, h9, h10, h11, h12⟩, ⟨fun _ => False, fun _ => False, fun _ h => h.elim, fun _ h => h.elim, fun _ h => h.elim, h4, fun _ => False, fun _ => False, fun _ h => h.elim, fun _ h => h.elim, fun _ h => h.elim, h5, trivial⟩⟩
theorem mkApiFrame {x : ApiFrame} {w : World} {R : Foot} {A4 : Option Addr} {c4 : Nat} {A5 : Option Addr} {c5 : Nat} (h0 : inK .i64 x.Type_) (h1 : inK .i64 x.Flags) (h2 : inK .i64 x.Stream) (h3 : inK .i64 x.Pad) (h4 : Rd (Kd.int .u8) w R A4 c4 x.Data) (h5 : Rd kApiSetting w R A5 c5 x.Settings) (h6 : inK .i64 x.Weight) (h7 : inK .i64 x.Parent) (h9 : inK .i64 x.Promised) (h10 : inK .i64 x.Last) (h11 : inK .i64 x.Code) (h12 : inK .i64 x.Step) : kApiFrame.rel w R x [.int .i64 x.Type_, .int .i64 x.Flags, .int .i64 x.Stream, .int .i64 x.Pad, .slice A4 x.Data.length c4, .slice A5 x.Settings.length c5, .int .i64 x.Weight, .int .i64 x.Parent, .bool x.Alone, .int .i64 x.Promised, .int .i64 x.Last, .int .i64 x.Code, .int .i64 x.Step] := by
  simp only [kApiFrame, Kd.iso, Kd.pair, Kd.int, Kd.bool, Kd.str, Kd.sl]
  exact ⟨_, _, rfl, ⟨rfl, h0⟩, ⟨_, _, rfl, ⟨rfl, h1⟩, ⟨_, _, rfl, ⟨rfl, h2⟩, ⟨_, _, rfl, ⟨rfl, h3⟩, ⟨_, _, rfl, ⟨A4, c4, rfl, h4⟩, ⟨_, _, rfl, ⟨A5, c5, rfl, h5⟩, ⟨_, _, rfl, ⟨rfl, h6⟩, ⟨_, _, rfl, ⟨rfl, h7⟩, ⟨_, _, rfl, rfl, ⟨_, _, rfl, ⟨rfl, h9⟩, ⟨_, _, rfl, ⟨rfl, h10⟩, ⟨_, _, rfl, ⟨rfl, h11⟩, ⟨rfl, h12⟩⟩⟩⟩⟩⟩⟩⟩⟩⟩⟩⟩⟩
structure ApiRaw where
  From : Int
  Type_ : Int
  Flags : Int
  Stream : Int
  Res : Bool
  Body : (List Int)
def kApiRaw : Kd ApiRaw := Kd.iso (Kd.pair (Kd.int .i64) (Kd.pair (Kd.int .i64) (Kd.pair (Kd.int .i64) (Kd.pair (Kd.int .i64) (Kd.pair Kd.bool (Kd.sl (Kd.int .u8))))))) (fun x => (x.From, (x.Type_, (x.Flags, (x.Stream, (x.Res, x.Body))))))
theorem unApiRaw {x : ApiRaw} {cs : List Value} : ∀ w R F, (kd kApiRaw x cs).h w R F → ∃ (A5 : Option Addr) (c5 : Nat), (cs = [.int .i64 x.From, .int .i64 x.Type_, .int .i64 x.Flags, .int .i64 x.Stream, .bool x.Res, .slice A5 x.Body.length c5] ∧ inK .i64 x.From ∧ inK .i64 x.Type_ ∧ inK .i64 x.Flags ∧ inK .i64 x.Stream) ∧ Star [rd (Kd.int .u8) A5 c5 x.Body] w R F := by
  intro w R F h
  simp only [kd, kApiRaw, Kd.iso, Kd.pair, Kd.int, Kd.bool, Kd.str, Kd.sl] at h
  obtain ⟨_, _, rfl, ⟨rfl, h0⟩, ⟨_, _, rfl, ⟨rfl, h1⟩, ⟨_, _, rfl, ⟨rfl, h2⟩, ⟨_, _, rfl, ⟨rfl, h3⟩, ⟨_, _, rfl, rfl, ⟨A5, c5, rfl, h5⟩⟩⟩⟩⟩⟩ := h
  exact ⟨A5, c5, ⟨rfl, h0, h1, h2, h3⟩, ⟨fun _ => False, fun _ => False, fun _ h => h.elim, fun _ h => h.elim, fun _ h => h.elim, h5, trivial⟩⟩
theorem mkApiRaw {x : ApiRaw} {w : World} {R : Foot} {A5 : Option Addr} {c5 : Nat} (h0 : inK .i64 x.From) (h1 : inK .i64 x.Type_) (h2 : inK .i64 x.Flags) (h3 : inK .i64 x.Stream) (h5 : Rd (Kd.int .u8) w R A5 c5 x.Body) : kApiRaw.rel w R x [.int .i64 x.From, .int .i64 x.Type_, .int .i64 x.Flags, .int .i64 x.Stream, .bool x.Res, .slice A5 x.Body.length c5] := by
  simp only [kApiRaw, Kd.iso, Kd.pair, Kd.int, Kd.bool, Kd.str, Kd.sl]
  exact ⟨_, _, rfl, ⟨rfl, h0⟩, ⟨_, _, rfl, ⟨rfl, h1⟩, ⟨_, _, rfl, ⟨rfl, h2⟩, ⟨_, _, rfl, ⟨rfl, h3⟩, ⟨_, _, rfl, rfl, ⟨A5, c5, rfl, h5⟩⟩⟩⟩⟩⟩
theorem f_put1_len (xs : List Int) (n : Int) : (f_put1 xs n).1.length ≤ xs.length + 1 := by
  unfold f_put1; split <;> (try split) <;> simp
theorem f_put2_len (xs : List Int) (n : Int) : (f_put2 xs n).1.length ≤ xs.length + 2 := by
  unfold f_put2; split <;> (try split) <;> simp
theorem f_put4_len (xs : List Int) (n : Int) : (f_put4 xs n).1.length ≤ xs.length + 4 := by
  unfold f_put4; split <;> (try split) <;> simp
def f_pen1 (xs : List Int) (wr : Bool) (n : Int) : List Int × Bool := if ((f_put1 xs n).2) = 0 then ((f_put1 xs n).1, wr) else (xs, true)
def f_pen4 (xs : List Int) (wr : Bool) (n : Int) : List Int × Bool := if ((f_put4 xs n).2) = 0 then ((f_put4 xs n).1, wr) else (xs, true)
def f_penlow (xs : List Int) (wr : Bool) (n : Int) (hi : Bool) : List Int × Bool := if wr = true then ((f_pen4 xs true ((f_octet_With n hi).1)).1, (f_pen4 xs true ((f_octet_With n hi).1)).2) else ((f_pen4 xs (((f_octet_With n hi).2) != 0) ((f_octet_With n hi).1)).1, (f_pen4 xs (((f_octet_With n hi).2) != 0) ((f_octet_With n hi).1)).2)
theorem s_pen1 (p : Nat) (A1 : Option Addr) (c1 : Nat) (xs : List Int) (wr : Bool) (n : Int) (hx : xs.length ≤ 1099511620000) :
    Spec Tryz.prog 86 [.pointer (some ⟨p, 0, none⟩), .int .i64 n, .int .i64 1].toArray [blk p 190 [.slice A1 xs.length c1, .bool wr], row (Kd.int .u8) 5 A1 c1 xs] (fun v L => ∃ (A2 : Option Addr), ∃ (c2 : Nat), v = .tuple #[] ∧ L = [blk p 190 [.slice A2 (((f_pen1 xs wr n).1).length) c2, .bool ((f_pen1 xs wr n).2)], row (Kd.int .u8) 5 A2 c2 ((f_pen1 xs wr n).1)]) := by
  refine Spec.enter Tryz.func86 rfl Tryz.ntmps86 rfl rfl (fun w0 R0 F0 => ?_)
  refine J.seq ?_
  refine J.region ?_
  refine JL.qt (Qt.move rfl) rfl ?_
  refine JL.qt (Qt.nck rfl) rfl ?_
  refine JL.qt (Qt.fa (o' := 0) fo190_0 rfl rfl) rfl ?_
  refine JL.qt (Qt.ld 0 pl37 rfl rfl rfl) rfl ?_
  refine JL.qt (Qt.move rfl) rfl ?_
  refine JL.qt (Qt.move rfl) rfl ?_
  refine JL.call (O1.call Tryz.func42 rfl rfl rfl [1] rfl (s_put1 A1 c1 xs n (by omega))) rfl ?_
  rintro _ _ ⟨A2_1, c2_2, rfl, rfl⟩
  refine JL.qt (Qt.move rfl) rfl ?_
  refine JL.qt (Qt.extract rfl rfl) rfl ?_
  refine JL.qt (Qt.extract rfl rfl) rfl ?_
  refine JL.qt (Qt.assign rfl) rfl ?_
  refine JL.qt (Qt.assign rfl) rfl ?_
  refine JL.nil ?_
  refine JN.code ?_
  refine J.seq ?_
  refine J.seq ?_
  refine J.region ?_
  refine JL.qt (Qt.move rfl) rfl ?_
  refine JL.qt (Qt.bin (fun _ => neq_run) rfl rfl rfl) rfl ?_
  refine JL.nil ?_
  refine JN.code ?_
  refine J.cond_ne rfl (fun h1 => ?_) (fun h1 => ?_)
  · refine J.seq ?_
    refine J.region ?_
    refine JL.qt (Qt.move rfl) rfl ?_
    refine JL.qt (Qt.nck rfl) rfl ?_
    refine JL.qt (Qt.fa (o' := 1) fo190_1 rfl rfl) rfl ?_
    refine JL.sk (O1.st 2 sz4 rfl rfl rfl rfl rfl rfl) ?_
    refine JL.nil ?_
    refine JN.code ?_
    refine J.ret ?_
    refine JN.back (res0 rfl) [0, 0] rfl ?_
    exact ⟨A1, c1, rfl, by unfold f_pen1; rw [if_neg h1] <;> rfl⟩
  refine J.skip ?_
  refine JN.code ?_
  refine J.region ?_
  refine JL.qt (Qt.move rfl) rfl ?_
  refine JL.qt (Qt.move rfl) rfl ?_
  refine JL.qt (Qt.nck rfl) rfl ?_
  refine JL.qt (Qt.fa (o' := 0) fo190_0 rfl rfl) rfl ?_
  refine JL.sk (O1.st 2 sz37 rfl rfl rfl rfl rfl rfl) ?_
  refine JL.nil ?_
  refine JN.back (res0 rfl) [0, 1] rfl ?_
  exact ⟨A2_1, c2_2, rfl, by unfold f_pen1; rw [if_pos h1] <;> rfl⟩
theorem s_pen4 (p : Nat) (A1 : Option Addr) (c1 : Nat) (xs : List Int) (wr : Bool) (n : Int) (hx : xs.length ≤ 1099511620000) :
    Spec Tryz.prog 86 [.pointer (some ⟨p, 0, none⟩), .int .i64 n, .int .i64 4].toArray [blk p 190 [.slice A1 xs.length c1, .bool wr], row (Kd.int .u8) 5 A1 c1 xs] (fun v L => ∃ (A2 : Option Addr), ∃ (c2 : Nat), v = .tuple #[] ∧ L = [blk p 190 [.slice A2 (((f_pen4 xs wr n).1).length) c2, .bool ((f_pen4 xs wr n).2)], row (Kd.int .u8) 5 A2 c2 ((f_pen4 xs wr n).1)]) := by
  refine Spec.enter Tryz.func86 rfl Tryz.ntmps86 rfl rfl (fun w0 R0 F0 => ?_)
  refine J.seq ?_
  refine J.region ?_
  refine JL.qt (Qt.move rfl) rfl ?_
  refine JL.qt (Qt.nck rfl) rfl ?_
  refine JL.qt (Qt.fa (o' := 0) fo190_0 rfl rfl) rfl ?_
  refine JL.qt (Qt.ld 0 pl37 rfl rfl rfl) rfl ?_
  refine JL.qt (Qt.move rfl) rfl ?_
  refine JL.qt (Qt.move rfl) rfl ?_
  refine JL.call (O1.call Tryz.func42 rfl rfl rfl [1] rfl (s_put4 A1 c1 xs n (by omega))) rfl ?_
  rintro _ _ ⟨A2_1, c2_2, rfl, rfl⟩
  refine JL.qt (Qt.move rfl) rfl ?_
  refine JL.qt (Qt.extract rfl rfl) rfl ?_
  refine JL.qt (Qt.extract rfl rfl) rfl ?_
  refine JL.qt (Qt.assign rfl) rfl ?_
  refine JL.qt (Qt.assign rfl) rfl ?_
  refine JL.nil ?_
  refine JN.code ?_
  refine J.seq ?_
  refine J.seq ?_
  refine J.region ?_
  refine JL.qt (Qt.move rfl) rfl ?_
  refine JL.qt (Qt.bin (fun _ => neq_run) rfl rfl rfl) rfl ?_
  refine JL.nil ?_
  refine JN.code ?_
  refine J.cond_ne rfl (fun h1 => ?_) (fun h1 => ?_)
  · refine J.seq ?_
    refine J.region ?_
    refine JL.qt (Qt.move rfl) rfl ?_
    refine JL.qt (Qt.nck rfl) rfl ?_
    refine JL.qt (Qt.fa (o' := 1) fo190_1 rfl rfl) rfl ?_
    refine JL.sk (O1.st 2 sz4 rfl rfl rfl rfl rfl rfl) ?_
    refine JL.nil ?_
    refine JN.code ?_
    refine J.ret ?_
    refine JN.back (res0 rfl) [0, 0] rfl ?_
    exact ⟨A1, c1, rfl, by unfold f_pen4; rw [if_neg h1] <;> rfl⟩
  refine J.skip ?_
  refine JN.code ?_
  refine J.region ?_
  refine JL.qt (Qt.move rfl) rfl ?_
  refine JL.qt (Qt.move rfl) rfl ?_
  refine JL.qt (Qt.nck rfl) rfl ?_
  refine JL.qt (Qt.fa (o' := 0) fo190_0 rfl rfl) rfl ?_
  refine JL.sk (O1.st 2 sz37 rfl rfl rfl rfl rfl rfl) ?_
  refine JL.nil ?_
  refine JN.back (res0 rfl) [0, 1] rfl ?_
  exact ⟨A2_1, c2_2, rfl, by unfold f_pen4; rw [if_pos h1] <;> rfl⟩
theorem s_penlow (p : Nat) (A1 : Option Addr) (c1 : Nat) (xs : List Int) (wr : Bool) (n : Int) (hi : Bool) (hx : xs.length ≤ 1099511620000) :
    Spec Tryz.prog 127 [.pointer (some ⟨p, 0, none⟩), .int .i64 n, .bool hi].toArray [blk p 190 [.slice A1 xs.length c1, .bool wr], row (Kd.int .u8) 5 A1 c1 xs] (fun v L => ∃ (A2 : Option Addr), ∃ (c2 : Nat), v = .tuple #[] ∧ L = [blk p 190 [.slice A2 (((f_penlow xs wr n hi).1).length) c2, .bool ((f_penlow xs wr n hi).2)], row (Kd.int .u8) 5 A2 c2 ((f_penlow xs wr n hi).1)]) := by
  refine Spec.enter Tryz.func127 rfl Tryz.ntmps127 rfl rfl (fun w0 R0 F0 => ?_)
  refine J.seq ?_
  refine J.region ?_
  refine JL.qt (Qt.move rfl) rfl ?_
  refine JL.qt (Qt.move rfl) rfl ?_
  refine JL.call (O1.call Tryz.func41 rfl rfl rfl [] rfl (s_octet_With n hi)) rfl ?_
  rintro _ _ ⟨rfl, rfl⟩
  refine JL.qt (Qt.move rfl) rfl ?_
  refine JL.qt (Qt.extract rfl rfl) rfl ?_
  refine JL.qt (Qt.extract rfl rfl) rfl ?_
  refine JL.qt (Qt.assign rfl) rfl ?_
  refine JL.qt (Qt.assign rfl) rfl ?_
  refine JL.nil ?_
  refine JN.code ?_
  refine J.seq ?_
  refine J.region ?_
  refine JL.qt (Qt.move rfl) rfl ?_
  refine JL.qt (Qt.move rfl) rfl ?_
  refine JL.qt (Qt.nck rfl) rfl ?_
  refine JL.qt (Qt.fa (o' := 1) fo190_1 rfl rfl) rfl ?_
  refine JL.qt (Qt.ld 0 pl4 rfl rfl rfl) rfl ?_
  refine JL.qt (Qt.move rfl) rfl ?_
  refine JL.cases (t := 19) rfl (fun h1 => ?_) (fun h1 => ?_)
  · refine JL.g_outU rfl rfl rfl rfl ?_
    refine JL.g_outU rfl rfl rfl rfl ?_
    refine JL.qt (Qt.pick_t rfl rfl) rfl ?_
    refine JL.qt (Qt.nck rfl) rfl ?_
    refine JL.qt (Qt.fa (o' := 1) fo190_1 rfl rfl) rfl ?_
    refine JL.sk (O1.st 0 sz4 rfl rfl rfl rfl rfl rfl) ?_
    refine JL.nil ?_
    refine JN.code ?_
    refine J.region ?_
    refine JL.qt (Qt.move rfl) rfl ?_
    refine JL.qt (Qt.move rfl) rfl ?_
    refine JL.call (O1.call Tryz.func86 rfl rfl rfl [0, 0] rfl (s_pen4 p A1 c1 xs true ((f_octet_With n hi).1) (by omega))) rfl ?_
    rintro _ _ ⟨A2_1, c2_2, rfl, rfl⟩
    refine JL.nil ?_
    refine JN.back (res0 rfl) [0, 0] rfl ?_
    exact ⟨A2_1, c2_2, rfl, by unfold f_penlow; rw [if_pos h1] <;> rfl⟩
  refine JL.g_in rfl rfl ?_
  refine JL.qt (Qt.move rfl) rfl ?_
  refine JL.g_in rfl rfl ?_
  refine JL.qt (Qt.bin (fun _ => neq_run) rfl rfl rfl) rfl ?_
  refine JL.qt (Qt.pick_f rfl rfl) rfl ?_
  refine JL.qt (Qt.nck rfl) rfl ?_
  refine JL.qt (Qt.fa (o' := 1) fo190_1 rfl rfl) rfl ?_
  refine JL.sk (O1.st 0 sz4 rfl rfl rfl rfl rfl rfl) ?_
  refine JL.nil ?_
  refine JN.code ?_
  refine J.region ?_
  refine JL.qt (Qt.move rfl) rfl ?_
  refine JL.qt (Qt.move rfl) rfl ?_
  refine JL.call (O1.call Tryz.func86 rfl rfl rfl [0, 0] rfl (s_pen4 p A1 c1 xs (((f_octet_With n hi).2) != 0) ((f_octet_With n hi).1) (by omega))) rfl ?_
  rintro _ _ ⟨A2_3, c2_4, rfl, rfl⟩
  refine JL.nil ?_
  refine JN.back (res0 rfl) [0, 0] rfl ?_
  exact ⟨A2_3, c2_4, rfl, by unfold f_penlow; rw [if_neg (Bool.eq_false_iff.1 h1)] <;> rfl⟩
end Go.Proofs.YthjbkngecgbioaaGreatDoor.Sl

/- Walks: settings are written. -/
set_option maxRecDepth 100000
set_option linter.unusedSimpArgs false
set_option linter.unusedVariables false
namespace Go.Proofs.YthjbkngecgbioaaGreatDoor.Sl
open Go
theorem pl3 : plainTy Tryz.prog 3 = true := by kernel_rfl
theorem fo40_7 : fldOff Tryz.prog 40 7 = some 7 := by kernel_rfl
theorem fo40_8 : fldOff Tryz.prog 40 8 = some 8 := by kernel_rfl
theorem fo40_6 : fldOff Tryz.prog 40 6 = some 6 := by kernel_rfl
theorem sz198 : szTy Tryz.prog 198 = some 2 := by kernel_rfl
theorem ag198 : aggTy Tryz.prog 198 = true := by kernel_rfl
theorem ze198 : zeroTy Tryz.prog 198 = some [.int .i64 0, .int .i64 0] := by kernel_rfl
theorem fo198_0 : fldOff Tryz.prog 198 0 = some 0 := by kernel_rfl
theorem fo198_1 : fldOff Tryz.prog 198 1 = some 1 := by kernel_rfl
theorem f_pen1_len (xs : List Int) (w : Bool) (n : Int) : (f_pen1 xs w n).1.length ≤ xs.length + 1 := by
  unfold f_pen1; have := f_put1_len xs n; split <;> simp_all
theorem f_pen4_len (xs : List Int) (w : Bool) (n : Int) : (f_pen4 xs w n).1.length ≤ xs.length + 4 := by
  unfold f_pen4; have := f_put4_len xs n; split <;> simp_all
theorem f_penlow_len (xs : List Int) (w : Bool) (n : Int) (h : Bool) : (f_penlow xs w n h).1.length ≤ xs.length + 4 := by
  unfold f_penlow; split <;> exact f_pen4_len _ _ _
/-- The settings are written behind out. -/
def f_puts : List ApiSetting → List Int → List Int × Int
  | [], out => (out, 0)
  | x :: l, out =>
    if (f_put2 out x.Id).2 = 0 then
      (if (f_put4 (f_put2 out x.Id).1 x.Value).2 = 0 then f_puts l (f_put4 (f_put2 out x.Id).1 x.Value).1 else ([], (f_put4 (f_put2 out x.Id).1 x.Value).2))
    else ([], (f_put2 out x.Id).2)
theorem f_puts_ok {x : ApiSetting} {out : List Int} (l : List ApiSetting) (h1 : (f_put2 out x.Id).2 = 0) (h2 : (f_put4 (f_put2 out x.Id).1 x.Value).2 = 0) : f_puts (x :: l) out = f_puts l (f_put4 (f_put2 out x.Id).1 x.Value).1 := by rw [f_puts, if_pos h1, if_pos h2]
theorem f_puts_e1 {x : ApiSetting} {out : List Int} (l : List ApiSetting) (h1 : (f_put2 out x.Id).2 ≠ 0) : f_puts (x :: l) out = ([], (f_put2 out x.Id).2) := by rw [f_puts, if_neg h1]
theorem f_puts_e2 {x : ApiSetting} {out : List Int} (l : List ApiSetting) (h1 : (f_put2 out x.Id).2 = 0) (h2 : (f_put4 (f_put2 out x.Id).1 x.Value).2 ≠ 0) : f_puts (x :: l) out = ([], (f_put4 (f_put2 out x.Id).1 x.Value).2) := by rw [f_puts, if_pos h1, if_neg h2]
def f_penw (xs : List Int) (wr : Bool) (f : ApiFrame) : List Int × Bool := ((f_pen1 ((f_penlow xs wr f.Parent f.Alone).1) ((f_penlow xs wr f.Parent f.Alone).2) f.Weight).1, (f_pen1 ((f_penlow xs wr f.Parent f.Alone).1) ((f_penlow xs wr f.Parent f.Alone).2) f.Weight).2)
theorem s_penw (p : Nat) (A1 : Option Addr) (c1 : Nat) (xs : List Int) (wr : Bool) (f : ApiFrame) (Af4 : Option Addr) (cf4 : Nat) (Af5 : Option Addr) (cf5 : Nat) (hx : xs.length ≤ 1099511610000) :
    Spec Tryz.prog 126 [.pointer (some ⟨p, 0, none⟩), .agg #[.int .i64 f.Type_, .int .i64 f.Flags, .int .i64 f.Stream, .int .i64 f.Pad, .slice Af4 f.Data.length cf4, .slice Af5 f.Settings.length cf5, .int .i64 f.Weight, .int .i64 f.Parent, .bool f.Alone, .int .i64 f.Promised, .int .i64 f.Last, .int .i64 f.Code, .int .i64 f.Step]].toArray [blk p 190 [.slice A1 xs.length c1, .bool wr], row (Kd.int .u8) 5 A1 c1 xs, rd (Kd.int .u8) Af4 cf4 f.Data, rd kApiSetting Af5 cf5 f.Settings] (fun v L => ∃ (A2 : Option Addr), ∃ (c2 : Nat), v = .tuple #[] ∧ L = [blk p 190 [.slice A2 (((f_penw xs wr f).1).length) c2, .bool ((f_penw xs wr f).2)], row (Kd.int .u8) 5 A2 c2 ((f_penw xs wr f).1), rd (Kd.int .u8) Af4 cf4 f.Data, rd kApiSetting Af5 cf5 f.Settings]) := by
  refine Spec.enter Tryz.func126 rfl Tryz.ntmps126 rfl rfl (fun w0 R0 F0 => ?_)
  refine J.seq ?_
  refine J.region ?_
  refine JL.ef (O1.box rfl rfl) rfl ?_
  rintro _ _ ⟨b_1, rfl, rfl⟩
  refine JL.nil ?_
  refine JN.code ?_
  refine J.seq ?_
  refine J.region ?_
  refine JL.qt (Qt.move rfl) rfl ?_
  refine JL.qt (Qt.fa (o' := 7) fo40_7 rfl rfl) rfl ?_
  refine JL.qt (Qt.ld 0 pl3 rfl rfl rfl) rfl ?_
  refine JL.qt (Qt.fa (o' := 8) fo40_8 rfl rfl) rfl ?_
  refine JL.qt (Qt.ld 0 pl4 rfl rfl rfl) rfl ?_
  refine JL.call (O1.call Tryz.func127 rfl rfl rfl [1, 1] rfl (s_penlow p A1 c1 xs wr f.Parent f.Alone (by omega))) rfl ?_
  rintro _ _ ⟨A2_2, c2_3, rfl, rfl⟩
  refine JL.nil ?_
  refine JN.code ?_
  refine J.region ?_
  refine JL.qt (Qt.move rfl) rfl ?_
  refine JL.qt (Qt.fa (o' := 6) fo40_6 rfl rfl) rfl ?_
  refine JL.qt (Qt.ld 2 pl3 rfl rfl rfl) rfl ?_
  refine JL.call (O1.call Tryz.func86 rfl rfl rfl [0, 0] rfl (s_pen1 p A2_2 c2_3 ((f_penlow xs wr f.Parent f.Alone).1) ((f_penlow xs wr f.Parent f.Alone).2) f.Weight (by have := f_penlow_len xs wr f.Parent f.Alone; omega))) rfl ?_
  rintro _ _ ⟨A2_4, c2_5, rfl, rfl⟩
  refine JL.nil ?_
  refine JN.back (res0 rfl) [0, 0, 1, 1] rfl ?_
  exact ⟨A2_4, c2_5, rfl, by unfold f_penw; rfl⟩
theorem s_puts (A1 : Option Addr) (c1 : Nat) (l : List ApiSetting) (hl : l.length ≤ 1048576) :
    Spec Tryz.prog 128 [.slice A1 l.length c1].toArray [rd kApiSetting A1 c1 l] (fun v L => ∃ (A2 : Option Addr), ∃ (c2 : Nat), v = .tuple #[.slice A2 ((f_puts l []).1.length) c2, .int .i64 ((f_puts l []).2)] ∧ L = [row (Kd.int .u8) 5 A2 c2 ((f_puts l []).1), rd kApiSetting A1 c1 l]) := by
  refine Spec.enter Tryz.func128 rfl Tryz.ntmps128 rfl rfl (fun w0 R0 F0 => ?_)
  refine J.seq ?_
  refine J.region ?_
  refine JL.qt (Qt.assign rfl) rfl ?_
  refine JL.qt (Qt.assign rfl) rfl ?_
  refine JL.nil ?_
  refine JN.code ?_
  refine J.seq ?_
  refine J.region ?_
  refine JL.qt (Qt.assign rfl) rfl ?_
  refine JL.nil ?_
  refine JN.code ?_
  refine J.seq ?_
  refine J.seq ?_
  refine J.region ?_
  refine JL.qt (Qt.move rfl) rfl ?_
  refine JL.qt (Qt.bi (fun _ _ => len_slice_run Tryz.underlying38) rfl) rfl ?_
  refine JL.qt (Qt.move rfl) rfl ?_
  refine JL.nil ?_
  refine JN.code ?_
  refine J.block ?_
  refine J.intro_pers (p := row (Kd.int .u8) 5 none 0 []) (fun w R => row_nil _ _ w R) ?_
  refine J.loop4 (fun (i : Nat) (A : Option Addr) (c : Nat) (out : List Int) => [(2, .slice none 0 0), (3, .int .i64 0), (4, .slice A out.length c), (9, .slice A1 l.length c1), (10, .int .i64 ((l.length : Nat) : Int)), (11, .int .i64 (i : Int))]) (fun (i : Nat) (A : Option Addr) (c : Nat) (out : List Int) => [row (Kd.int .u8) 5 A c out, rd kApiSetting A1 c1 l]) (fun (i : Nat) (A : Option Addr) (c : Nat) (out : List Int) => i ≤ l.length ∧ out.length ≤ 6 * i ∧ f_puts (l.drop i) out = f_puts l []) (fun (i : Nat) (A : Option Addr) (c : Nat) (out : List Int) => l.length - i) 0 none 0 [] ⟨Nat.zero_le _, by simp, rfl⟩ ⟨rfl, rfl, rfl, rfl, rfl, rfl, trivial⟩ [0, 0] rfl ?_
  rintro i A c out ⟨hi, ho, hI⟩
  refine J.seq ?_
  refine J.region ?_
  refine JL.qt (Qt.bin (fun _ => lss_run) rfl rfl rfl) rfl ?_
  refine JL.nil ?_
  refine JN.code ?_
  refine J.seq ?_
  refine J.cond_dec rfl (fun h1 => ?_) (fun h1 => ?_)
  · refine J.skip ?_
    refine JN.code ?_
    refine J.seq ?_
    refine J.block ?_
    refine J.seq ?_
    obtain ⟨u, hu⟩ := getk l i (by omega)
    refine J.elem (k := i) (u := u) 1 rfl hu (fun b_1 o_2 cs_3 hA_4 => ?_); subst hA_4
    refine J.unf0 1 rfl unApiSetting ?_; rintro ⟨rfl, e_5, e_6⟩
    refine J.region ?_
    refine JL.qt (Qt.ia Tryz.underlying38 sz198 rfl rfl (by omega) (by omega)) rfl ?_
    refine JL.qt (Qt.ldA_ro (j := 0) 0 ag198 sz198 rfl rfl rfl rfl rfl) rfl ?_
    refine JL.ef (O1.alloc ze198) rfl ?_
    rintro _ _ ⟨b_7, rfl, rfl⟩
    refine JL.sk (O1.stA 0 sz198 rfl rfl rfl rfl rfl rfl rfl rfl) ?_
    refine JL.nil ?_
    refine JN.code ?_
    refine J.seq ?_
    refine J.region ?_
    refine JL.qt (Qt.move rfl) rfl ?_
    refine JL.qt (Qt.fa (o' := 0) fo198_0 rfl rfl) rfl ?_
    refine JL.qt (Qt.ld 0 pl3 rfl rfl rfl) rfl ?_
    refine JL.call (O1.call Tryz.func42 rfl rfl rfl [2] rfl (s_put2 A c out u.Id (by omega))) rfl ?_
    rintro _ _ ⟨A2_8, c2_9, rfl, rfl⟩
    refine JL.qt (Qt.move rfl) rfl ?_
    refine JL.qt (Qt.extract rfl rfl) rfl ?_
    refine JL.qt (Qt.extract rfl rfl) rfl ?_
    refine JL.qt (Qt.assign rfl) rfl ?_
    refine JL.qt (Qt.assign rfl) rfl ?_
    refine JL.nil ?_
    refine JN.code ?_
    refine J.seq ?_
    refine J.seq ?_
    refine J.region ?_
    refine JL.qt (Qt.move rfl) rfl ?_
    refine JL.qt (Qt.bin (fun _ => neq_run) rfl rfl rfl) rfl ?_
    refine JL.nil ?_
    refine JN.code ?_
    refine J.cond_ne rfl (fun h2 => ?_) (fun h2 => ?_)
    · refine J.seq ?_
      refine J.region ?_
      refine JL.qt (Qt.move rfl) rfl ?_
      refine JL.qt (Qt.assign rfl) rfl ?_
      refine JL.qt (Qt.assign rfl) rfl ?_
      refine JL.nil ?_
      refine JN.code ?_
      refine J.ret ?_
      refine JN.intro_pers (p := row (Kd.int .u8) 5 none 0 []) (fun w R => row_nil _ _ w R) ?_
      refine JN.back (res2 rfl rfl rfl) [0, 4] rfl ?_
      have e : f_puts l [] = ([], (f_put2 out u.Id).2) := by rw [← hI, drop_at hu, f_puts_e1 _ h2]
      exact ⟨_, _, by rw [e]; rfl, by rw [e]⟩
    refine J.skip ?_
    refine JN.code ?_
    refine J.seq ?_
    refine J.region ?_
    refine JL.qt (Qt.move rfl) rfl ?_
    refine JL.qt (Qt.fa (o' := 1) fo198_1 rfl rfl) rfl ?_
    refine JL.qt (Qt.ld 2 pl3 rfl rfl rfl) rfl ?_
    refine JL.call (O1.call Tryz.func42 rfl rfl rfl [1] rfl (s_put4 A2_8 c2_9 ((f_put2 out u.Id).1) u.Value (by have := f_put2_len out u.Id; omega))) rfl ?_
    rintro _ _ ⟨A2_10, c2_11, rfl, rfl⟩
    refine JL.qt (Qt.move rfl) rfl ?_
    refine JL.qt (Qt.extract rfl rfl) rfl ?_
    refine JL.qt (Qt.extract rfl rfl) rfl ?_
    refine JL.qt (Qt.assign rfl) rfl ?_
    refine JL.qt (Qt.assign rfl) rfl ?_
    refine JL.nil ?_
    refine JN.code ?_
    refine J.seq ?_
    refine J.keep [2, 3, 4, 9, 10, 11, 8] rfl ?_
    refine J.region ?_
    refine JL.qt (Qt.move rfl) rfl ?_
    refine JL.qt (Qt.bin (fun _ => neq_run) rfl rfl rfl) rfl ?_
    refine JL.nil ?_
    refine JN.code ?_
    refine J.cond_ne rfl (fun h3 => ?_) (fun h3 => ?_)
    · refine J.seq ?_
      refine J.region ?_
      refine JL.qt (Qt.move rfl) rfl ?_
      refine JL.qt (Qt.assign rfl) rfl ?_
      refine JL.qt (Qt.assign rfl) rfl ?_
      refine JL.nil ?_
      refine JN.code ?_
      refine J.ret ?_
      refine JN.intro_pers (p := row (Kd.int .u8) 5 none 0 []) (fun w R => row_nil _ _ w R) ?_
      refine JN.back (res2 rfl rfl rfl) [0, 5] rfl ?_
      have e : f_puts l [] = ([], (f_put4 (f_put2 out u.Id).1 u.Value).2) := by rw [← hI, drop_at hu, f_puts_e2 _ h2 h3]
      exact ⟨_, _, by rw [e]; rfl, by rw [e]⟩
    refine J.skip ?_
    refine JN.code ?_
    refine J.region ?_
    refine JL.qt (Qt.bin (fun _ => addN_run rfl (by omega) (by omega)) rfl rfl rfl) rfl ?_
    refine JL.qt (Qt.move rfl) rfl ?_
    refine JL.nil ?_
    refine JN.round4 (z0 := i) (z1 := A) (z2 := c) (z3 := out) (i + 1) A2_10 c2_11 ((f_put4 ((f_put2 out u.Id).1) u.Value).1) (by omega) ⟨by omega, by have := f_put2_len out u.Id; have := f_put4_len (f_put2 out u.Id).1 u.Value; omega, by rw [← hI, drop_at hu, f_puts_ok _ h2 h3]⟩ ⟨rfl, rfl, rfl, rfl, rfl, rfl, trivial⟩ [1, 4] rfl
  refine J.exit ?_
  refine JN.code ?_
  refine J.seq ?_
  refine J.region ?_
  refine JL.qt (Qt.move rfl) rfl ?_
  refine JL.qt (Qt.assign rfl) rfl ?_
  refine JL.qt (Qt.assign rfl) rfl ?_
  refine JL.nil ?_
  refine JN.code ?_
  refine J.ret ?_
  refine JN.back (res2 rfl rfl rfl) [0, 0] rfl ?_
  have e : f_puts l [] = (out, 0) := by rw [← hI, drop_end (by omega)]; rfl
  exact ⟨_, _, by rw [e], by rw [e]⟩
end Go.Proofs.YthjbkngecgbioaaGreatDoor.Sl

/- Walks: the pen numbers. -/
set_option maxRecDepth 100000
set_option linter.unusedSimpArgs false
set_option linter.unusedVariables false
namespace Go.Proofs.YthjbkngecgbioaaGreatDoor.Sl
open Go
theorem fo40_0 : fldOff Tryz.prog 40 0 = some 0 := by kernel_rfl
theorem fo40_1 : fldOff Tryz.prog 40 1 = some 1 := by kernel_rfl
theorem ag40 : aggTy Tryz.prog 40 = true := by kernel_rfl
theorem sz40 : szTy Tryz.prog 40 = some 13 := by kernel_rfl
theorem fo40_11 : fldOff Tryz.prog 40 11 = some 11 := by kernel_rfl
theorem fo40_9 : fldOff Tryz.prog 40 9 = some 9 := by kernel_rfl
theorem fo40_10 : fldOff Tryz.prog 40 10 = some 10 := by kernel_rfl
theorem fo40_12 : fldOff Tryz.prog 40 12 = some 12 := by kernel_rfl
theorem pl38 : plainTy Tryz.prog 38 = true := by kernel_rfl
theorem fo40_5 : fldOff Tryz.prog 40 5 = some 5 := by kernel_rfl
theorem f_penw_len (xs : List Int) (w : Bool) (f : ApiFrame) : (f_penw xs w f).1.length ≤ xs.length + 5 := by
  unfold f_penw; have := f_penlow_len xs w f.Parent f.Alone; have := f_pen1_len (f_penlow xs w f.Parent f.Alone).1 (f_penlow xs w f.Parent f.Alone).2 f.Weight; dsimp only; omega
theorem f_puts_len : ∀ (l : List ApiSetting) (out : List Int), (f_puts l out).1.length ≤ out.length + 6 * l.length
  | [], out => by simp [f_puts]
  | x :: l, out => by
    rw [f_puts]
    have h1 := f_put2_len out x.Id
    have h2 := f_put4_len (f_put2 out x.Id).1 x.Value
    have h3 := f_puts_len l (f_put4 (f_put2 out x.Id).1 x.Value).1
    split
    · split
      · simp only [List.length_cons]; omega
      · simp
    · simp
def f_penn (xs : List Int) (wr : Bool) (f : ApiFrame) : List Int × Bool := if f.Type_ = 1 then if (f_kinds_Has f.Type_ f.Flags 32) = true then ((f_penw xs wr f).1, (f_penw xs wr f).2) else (xs, wr) else if f.Type_ = 2 then ((f_penw xs wr f).1, (f_penw xs wr f).2) else if f.Type_ = 3 then ((f_pen4 xs wr f.Code).1, (f_pen4 xs wr f.Code).2) else if f.Type_ = 5 then ((f_penlow xs wr f.Promised false).1, (f_penlow xs wr f.Promised false).2) else if f.Type_ = 7 then ((f_pen4 ((f_penlow xs wr f.Last false).1) ((f_penlow xs wr f.Last false).2) f.Code).1, (f_pen4 ((f_penlow xs wr f.Last false).1) ((f_penlow xs wr f.Last false).2) f.Code).2) else if f.Type_ = 8 then ((f_penlow xs wr f.Step false).1, (f_penlow xs wr f.Step false).2) else if f.Type_ = 4 then if wr = true then (xs ++ ((f_puts f.Settings []).1), true) else (xs ++ ((f_puts f.Settings []).1), ((f_puts f.Settings []).2) != 0) else (xs, wr)
theorem s_penn (p : Nat) (A1 : Option Addr) (c1 : Nat) (xs : List Int) (wr : Bool) (f : ApiFrame) (Af4 : Option Addr) (cf4 : Nat) (Af5 : Option Addr) (cf5 : Nat) (hx : xs.length ≤ 1000) (hs : f.Settings.length ≤ 1048576) :
    Spec Tryz.prog 87 [.pointer (some ⟨p, 0, none⟩), .agg #[.int .i64 f.Type_, .int .i64 f.Flags, .int .i64 f.Stream, .int .i64 f.Pad, .slice Af4 f.Data.length cf4, .slice Af5 f.Settings.length cf5, .int .i64 f.Weight, .int .i64 f.Parent, .bool f.Alone, .int .i64 f.Promised, .int .i64 f.Last, .int .i64 f.Code, .int .i64 f.Step]].toArray [blk p 190 [.slice A1 xs.length c1, .bool wr], row (Kd.int .u8) 5 A1 c1 xs, rd (Kd.int .u8) Af4 cf4 f.Data, rd kApiSetting Af5 cf5 f.Settings] (fun v L => ∃ (A2 : Option Addr), ∃ (c2 : Nat), v = .tuple #[] ∧ L = [blk p 190 [.slice A2 (((f_penn xs wr f).1).length) c2, .bool ((f_penn xs wr f).2)], row (Kd.int .u8) 5 A2 c2 ((f_penn xs wr f).1), rd (Kd.int .u8) Af4 cf4 f.Data, rd kApiSetting Af5 cf5 f.Settings]) := by
  refine Spec.enter Tryz.func87 rfl Tryz.ntmps87 rfl rfl (fun w0 R0 F0 => ?_)
  refine J.seq ?_
  refine J.region ?_
  refine JL.ef (O1.box rfl rfl) rfl ?_
  rintro _ _ ⟨b_1, rfl, rfl⟩
  refine JL.nil ?_
  refine JN.code ?_
  refine J.seq ?_
  refine J.region ?_
  refine JL.qt (Qt.fa (o' := 0) fo40_0 rfl rfl) rfl ?_
  refine JL.qt (Qt.ld 0 pl3 rfl rfl rfl) rfl ?_
  refine JL.nil ?_
  refine JN.code ?_
  refine J.block ?_
  refine J.seq ?_
  refine J.region ?_
  refine JL.qt (Qt.bin (fun _ => eql_run) rfl rfl rfl) rfl ?_
  refine JL.qt (Qt.assign rfl) rfl ?_
  refine JL.nil ?_
  refine JN.code ?_
  refine J.cond_eq rfl (fun h1 => ?_) (fun h1 => ?_)
  · refine J.seq ?_
    refine J.region ?_
    refine JL.qt (Qt.fa (o' := 0) fo40_0 rfl rfl) rfl ?_
    refine JL.qt (Qt.ld 0 pl3 rfl rfl rfl) rfl ?_
    refine JL.qt (Qt.fa (o' := 1) fo40_1 rfl rfl) rfl ?_
    refine JL.qt (Qt.ld 0 pl3 rfl rfl rfl) rfl ?_
    refine JL.call (O1.call Tryz.func37 rfl rfl rfl [] rfl (s_kinds_Has f.Type_ f.Flags 32)) rfl ?_
    rintro _ _ ⟨rfl, rfl⟩
    refine JL.nil ?_
    refine JN.code ?_
    refine J.cond rfl (fun h2 => ?_) (fun h2 => ?_)
    · refine J.region ?_
      refine JL.qt (Qt.move rfl) rfl ?_
      refine JL.qt (Qt.ldA 0 ag40 sz40 rfl rfl rfl rfl) rfl ?_
      refine JL.call (O1.call Tryz.func126 rfl rfl rfl [1, 1, 1, 1] rfl (s_penw p A1 c1 xs wr f Af4 cf4 Af5 cf5 (by omega))) rfl ?_
      rintro _ _ ⟨A2_2, c2_3, rfl, rfl⟩
      refine JL.nil ?_
      refine JN.back (res0 rfl) [0, 0, 0, 0] rfl ?_
      exact ⟨A2_2, c2_3, rfl, by unfold f_penn; rw [if_pos h1, if_pos h2] <;> rfl⟩
    refine J.skip ?_
    refine JN.back (res0 rfl) [1, 1, 1, 1] rfl ?_
    exact ⟨A1, c1, rfl, by unfold f_penn; rw [if_pos h1, if_neg (Bool.eq_false_iff.1 h2)] <;> rfl⟩
  refine J.seq ?_
  refine J.region ?_
  refine JL.qt (Qt.bin (fun _ => eql_run) rfl rfl rfl) rfl ?_
  refine JL.qt (Qt.assign rfl) rfl ?_
  refine JL.nil ?_
  refine JN.code ?_
  refine J.cond_eq rfl (fun h3 => ?_) (fun h3 => ?_)
  · refine J.region ?_
    refine JL.qt (Qt.move rfl) rfl ?_
    refine JL.qt (Qt.ldA 0 ag40 sz40 rfl rfl rfl rfl) rfl ?_
    refine JL.call (O1.call Tryz.func126 rfl rfl rfl [1, 1, 1, 1] rfl (s_penw p A1 c1 xs wr f Af4 cf4 Af5 cf5 (by omega))) rfl ?_
    rintro _ _ ⟨A2_4, c2_5, rfl, rfl⟩
    refine JL.nil ?_
    refine JN.back (res0 rfl) [0, 0, 0, 0] rfl ?_
    exact ⟨A2_4, c2_5, rfl, by unfold f_penn; rw [if_neg h1, if_pos h3] <;> rfl⟩
  refine J.seq ?_
  refine J.region ?_
  refine JL.qt (Qt.bin (fun _ => eql_run) rfl rfl rfl) rfl ?_
  refine JL.qt (Qt.assign rfl) rfl ?_
  refine JL.nil ?_
  refine JN.code ?_
  refine J.cond_eq rfl (fun h4 => ?_) (fun h4 => ?_)
  · refine J.region ?_
    refine JL.qt (Qt.move rfl) rfl ?_
    refine JL.qt (Qt.fa (o' := 11) fo40_11 rfl rfl) rfl ?_
    refine JL.qt (Qt.ld 0 pl3 rfl rfl rfl) rfl ?_
    refine JL.call (O1.call Tryz.func86 rfl rfl rfl [1, 1] rfl (s_pen4 p A1 c1 xs wr f.Code (by omega))) rfl ?_
    rintro _ _ ⟨A2_6, c2_7, rfl, rfl⟩
    refine JL.nil ?_
    refine JN.back (res0 rfl) [0, 0, 1, 1] rfl ?_
    exact ⟨A2_6, c2_7, rfl, by unfold f_penn; rw [if_neg h1, if_neg h3, if_pos h4] <;> rfl⟩
  refine J.seq ?_
  refine J.region ?_
  refine JL.qt (Qt.bin (fun _ => eql_run) rfl rfl rfl) rfl ?_
  refine JL.qt (Qt.assign rfl) rfl ?_
  refine JL.nil ?_
  refine JN.code ?_
  refine J.cond_eq rfl (fun h5 => ?_) (fun h5 => ?_)
  · refine J.region ?_
    refine JL.qt (Qt.move rfl) rfl ?_
    refine JL.qt (Qt.fa (o' := 9) fo40_9 rfl rfl) rfl ?_
    refine JL.qt (Qt.ld 0 pl3 rfl rfl rfl) rfl ?_
    refine JL.call (O1.call Tryz.func127 rfl rfl rfl [1, 1] rfl (s_penlow p A1 c1 xs wr f.Promised false (by omega))) rfl ?_
    rintro _ _ ⟨A2_8, c2_9, rfl, rfl⟩
    refine JL.nil ?_
    refine JN.back (res0 rfl) [0, 0, 1, 1] rfl ?_
    exact ⟨A2_8, c2_9, rfl, by unfold f_penn; rw [if_neg h1, if_neg h3, if_neg h4, if_pos h5] <;> rfl⟩
  refine J.seq ?_
  refine J.region ?_
  refine JL.qt (Qt.bin (fun _ => eql_run) rfl rfl rfl) rfl ?_
  refine JL.qt (Qt.assign rfl) rfl ?_
  refine JL.nil ?_
  refine JN.code ?_
  refine J.cond_eq rfl (fun h6 => ?_) (fun h6 => ?_)
  · refine J.seq ?_
    refine J.region ?_
    refine JL.qt (Qt.move rfl) rfl ?_
    refine JL.qt (Qt.fa (o' := 10) fo40_10 rfl rfl) rfl ?_
    refine JL.qt (Qt.ld 0 pl3 rfl rfl rfl) rfl ?_
    refine JL.call (O1.call Tryz.func127 rfl rfl rfl [1, 1] rfl (s_penlow p A1 c1 xs wr f.Last false (by omega))) rfl ?_
    rintro _ _ ⟨A2_10, c2_11, rfl, rfl⟩
    refine JL.nil ?_
    refine JN.code ?_
    refine J.region ?_
    refine JL.qt (Qt.move rfl) rfl ?_
    refine JL.qt (Qt.fa (o' := 11) fo40_11 rfl rfl) rfl ?_
    refine JL.qt (Qt.ld 2 pl3 rfl rfl rfl) rfl ?_
    refine JL.call (O1.call Tryz.func86 rfl rfl rfl [0, 0] rfl (s_pen4 p A2_10 c2_11 ((f_penlow xs wr f.Last false).1) ((f_penlow xs wr f.Last false).2) f.Code (by have := f_penlow_len xs wr f.Last false; omega))) rfl ?_
    rintro _ _ ⟨A2_12, c2_13, rfl, rfl⟩
    refine JL.nil ?_
    refine JN.back (res0 rfl) [0, 0, 1, 1] rfl ?_
    exact ⟨A2_12, c2_13, rfl, by unfold f_penn; rw [if_neg h1, if_neg h3, if_neg h4, if_neg h5, if_pos h6] <;> rfl⟩
  refine J.seq ?_
  refine J.region ?_
  refine JL.qt (Qt.bin (fun _ => eql_run) rfl rfl rfl) rfl ?_
  refine JL.qt (Qt.assign rfl) rfl ?_
  refine JL.nil ?_
  refine JN.code ?_
  refine J.cond_eq rfl (fun h7 => ?_) (fun h7 => ?_)
  · refine J.region ?_
    refine JL.qt (Qt.move rfl) rfl ?_
    refine JL.qt (Qt.fa (o' := 12) fo40_12 rfl rfl) rfl ?_
    refine JL.qt (Qt.ld 0 pl3 rfl rfl rfl) rfl ?_
    refine JL.call (O1.call Tryz.func127 rfl rfl rfl [1, 1] rfl (s_penlow p A1 c1 xs wr f.Step false (by omega))) rfl ?_
    rintro _ _ ⟨A2_14, c2_15, rfl, rfl⟩
    refine JL.nil ?_
    refine JN.back (res0 rfl) [0, 0, 1, 1] rfl ?_
    exact ⟨A2_14, c2_15, rfl, by unfold f_penn; rw [if_neg h1, if_neg h3, if_neg h4, if_neg h5, if_neg h6, if_pos h7] <;> rfl⟩
  refine J.seq ?_
  refine J.region ?_
  refine JL.qt (Qt.bin (fun _ => eql_run) rfl rfl rfl) rfl ?_
  refine JL.qt (Qt.assign rfl) rfl ?_
  refine JL.nil ?_
  refine JN.code ?_
  refine J.cond_eq rfl (fun h8 => ?_) (fun h8 => ?_)
  · refine J.seq ?_
    refine J.region ?_
    refine JL.qt (Qt.fa (o' := 5) fo40_5 rfl rfl) rfl ?_
    refine JL.qt (Qt.ld 0 pl38 rfl rfl rfl) rfl ?_
    refine JL.call (O1.call Tryz.func128 rfl rfl rfl [4] rfl (s_puts Af5 cf5 f.Settings (by omega))) rfl ?_
    rintro _ _ ⟨A2_16, c2_17, rfl, rfl⟩
    refine JL.qt (Qt.move rfl) rfl ?_
    refine JL.qt (Qt.extract rfl rfl) rfl ?_
    refine JL.qt (Qt.extract rfl rfl) rfl ?_
    refine JL.qt (Qt.assign rfl) rfl ?_
    refine JL.qt (Qt.assign rfl) rfl ?_
    refine JL.nil ?_
    refine JN.code ?_
    refine J.seq ?_
    refine J.keep [0, 4, 5] rfl ?_
    refine J.region ?_
    refine JL.qt (Qt.move rfl) rfl ?_
    refine JL.qt (Qt.move rfl) rfl ?_
    refine JL.qt (Qt.nck rfl) rfl ?_
    refine JL.qt (Qt.fa (o' := 1) fo190_1 rfl rfl) rfl ?_
    refine JL.qt (Qt.ld 3 pl4 rfl rfl rfl) rfl ?_
    refine JL.qt (Qt.move rfl) rfl ?_
    refine JL.cases (t := 64) rfl (fun h9 => ?_) (fun h9 => ?_)
    · refine JL.g_outU rfl rfl rfl rfl ?_
      refine JL.g_outU rfl rfl rfl rfl ?_
      refine JL.qt (Qt.pick_t rfl rfl) rfl ?_
      refine JL.qt (Qt.nck rfl) rfl ?_
      refine JL.qt (Qt.fa (o' := 1) fo190_1 rfl rfl) rfl ?_
      refine JL.sk (O1.st 3 sz4 rfl rfl rfl rfl rfl rfl) ?_
      refine JL.nil ?_
      refine JN.code ?_
      refine J.region ?_
      refine JL.qt (Qt.move rfl) rfl ?_
      refine JL.qt (Qt.move rfl) rfl ?_
      refine JL.qt (Qt.nck rfl) rfl ?_
      refine JL.qt (Qt.fa (o' := 0) fo190_0 rfl rfl) rfl ?_
      refine JL.qt (Qt.ld 0 pl37 rfl rfl rfl) rfl ?_
      refine JL.qt (Qt.move rfl) rfl ?_
      refine JL.upd [1] rfl (row_freeze (by have := f_puts_len f.Settings []; simp at this; show _ ≤ 1099511627776; omega)) ?_
      refine JL.ef (O1.appendRd (D := (Kd.int .u8)) (xs := xs) (ys := (f_puts f.Settings []).1) 4 0 el37 rfl rfl rfl rfl (by have := f_puts_len f.Settings []; simp at this; omega)) rfl ?_
      rintro _ _ ⟨A_18, c_19, rfl, rfl⟩
      refine JL.qt (Qt.nck rfl) rfl ?_
      refine JL.qt (Qt.fa (o' := 0) fo190_0 rfl rfl) rfl ?_
      refine JL.sk (O1.st 2 sz37 rfl rfl rfl rfl rfl rfl) ?_
      refine JL.nil ?_
      refine JN.back (res0 rfl) [0, 0, 3, 1] rfl ?_
      exact ⟨A_18, c_19, rfl, by unfold f_penn; rw [if_neg h1, if_neg h3, if_neg h4, if_neg h5, if_neg h6, if_neg h7, if_pos h8, if_pos h9] <;> rfl⟩
    refine JL.g_in rfl rfl ?_
    refine JL.qt (Qt.move rfl) rfl ?_
    refine JL.g_in rfl rfl ?_
    refine JL.qt (Qt.bin (fun _ => neq_run) rfl rfl rfl) rfl ?_
    refine JL.qt (Qt.pick_f rfl rfl) rfl ?_
    refine JL.qt (Qt.nck rfl) rfl ?_
    refine JL.qt (Qt.fa (o' := 1) fo190_1 rfl rfl) rfl ?_
    refine JL.sk (O1.st 3 sz4 rfl rfl rfl rfl rfl rfl) ?_
    refine JL.nil ?_
    refine JN.code ?_
    refine J.region ?_
    refine JL.qt (Qt.move rfl) rfl ?_
    refine JL.qt (Qt.move rfl) rfl ?_
    refine JL.qt (Qt.nck rfl) rfl ?_
    refine JL.qt (Qt.fa (o' := 0) fo190_0 rfl rfl) rfl ?_
    refine JL.qt (Qt.ld 0 pl37 rfl rfl rfl) rfl ?_
    refine JL.qt (Qt.move rfl) rfl ?_
    refine JL.upd [1] rfl (row_freeze (by have := f_puts_len f.Settings []; simp at this; show _ ≤ 1099511627776; omega)) ?_
    refine JL.ef (O1.appendRd (D := (Kd.int .u8)) (xs := xs) (ys := (f_puts f.Settings []).1) 4 0 el37 rfl rfl rfl rfl (by have := f_puts_len f.Settings []; simp at this; omega)) rfl ?_
    rintro _ _ ⟨A_20, c_21, rfl, rfl⟩
    refine JL.qt (Qt.nck rfl) rfl ?_
    refine JL.qt (Qt.fa (o' := 0) fo190_0 rfl rfl) rfl ?_
    refine JL.sk (O1.st 2 sz37 rfl rfl rfl rfl rfl rfl) ?_
    refine JL.nil ?_
    refine JN.back (res0 rfl) [0, 0, 3, 1] rfl ?_
    exact ⟨A_20, c_21, rfl, by unfold f_penn; rw [if_neg h1, if_neg h3, if_neg h4, if_neg h5, if_neg h6, if_neg h7, if_pos h8, if_neg (Bool.eq_false_iff.1 h9)] <;> rfl⟩
  refine J.skip ?_
  refine JN.back (res0 rfl) [1, 1, 1, 1] rfl ?_
  exact ⟨A1, c1, rfl, by unfold f_penn; rw [if_neg h1, if_neg h3, if_neg h4, if_neg h5, if_neg h6, if_neg h7, if_neg h8] <;> rfl⟩
end Go.Proofs.YthjbkngecgbioaaGreatDoor.Sl

/- Walks: a frame is written. -/
set_option maxRecDepth 100000
set_option linter.unusedSimpArgs false
set_option linter.unusedVariables false
namespace Go.Proofs.YthjbkngecgbioaaGreatDoor.Sl
open Go
theorem ze45 : zeroTy Tryz.prog 45 = some [.int .i64 0, .int .i64 0, .int .i64 0, .int .i64 0, .bool false, .slice none 0 0] := by kernel_rfl
theorem ze190 : zeroTy Tryz.prog 190 = some [.slice none 0 0, .bool false] := by kernel_rfl
theorem fo40_3 : fldOff Tryz.prog 40 3 = some 3 := by kernel_rfl
theorem fo40_4 : fldOff Tryz.prog 40 4 = some 4 := by kernel_rfl
theorem sp45 : structPl Tryz.prog 45 = some [(0, 1), (1, 1), (2, 1), (3, 1), (4, 1), (5, 1)] := by kernel_rfl
theorem sz45 : szTy Tryz.prog 45 = some 6 := by kernel_rfl
theorem ag45 : aggTy Tryz.prog 45 = true := by kernel_rfl
theorem fo40_2 : fldOff Tryz.prog 40 2 = some 2 := by kernel_rfl
theorem f_pen1_neg (xs : List Int) : (f_pen1 xs false (-1)).2 = true := rfl
theorem f_pen1_true (xs : List Int) (n : Int) : (f_pen1 xs true n).2 = true := by unfold f_pen1; split <;> rfl
theorem f_pen4_true (xs : List Int) (n : Int) : (f_pen4 xs true n).2 = true := by unfold f_pen4; split <;> rfl
theorem f_penlow_true (xs : List Int) (n : Int) (h : Bool) : (f_penlow xs true n h).2 = true := by unfold f_penlow; split <;> first | exact f_pen4_true _ _ | simp_all
theorem f_penw_true (xs : List Int) (f : ApiFrame) : (f_penw xs true f).2 = true := by unfold f_penw; rw [f_penlow_true]; exact f_pen1_true _ _
theorem f_penn_true' (xs : List Int) (f : ApiFrame) : (f_penn xs true f).2 = true := by
  unfold f_penn
  repeat' split
  all_goals first | rfl | exact f_penw_true _ _ | exact f_pen4_true _ _ | exact f_penlow_true _ _ _ | (dsimp only; rw [f_penlow_true]; exact f_pen4_true _ _) | simp_all
theorem f_penn_true {xs : List Int} {w : Bool} {f : ApiFrame} (h : w = true) : (f_penn xs w f).2 = true := by subst h; exact f_penn_true' xs f
theorem f_penn_len (xs : List Int) (w : Bool) (f : ApiFrame) : (f_penn xs w f).1.length ≤ xs.length + 6 * f.Settings.length + 8 := by
  unfold f_penn
  have h1 := f_penw_len xs w f
  have h2 := f_pen4_len xs w f.Code
  have h3 := f_penlow_len xs w f.Promised false
  have h4 := f_penlow_len xs w f.Last false
  have h5 := f_penlow_len xs w f.Step false
  have h6 := f_puts_len f.Settings []
  have h7 := f_pen4_len (f_penlow xs w f.Last false).1 (f_penlow xs w f.Last false).2 f.Code
  repeat' split
  all_goals (try dsimp only); (try simp only [List.length_append, List.length_nil] at *); omega
def f_written (f : ApiFrame) (n : Int) : ApiRaw × Bool := if (f_kinds_Has f.Type_ f.Flags 8) = true then ((⟨0, 0, 0, 0, false, []⟩ : ApiRaw), false) else if ((f_penn [] false f).2) = true then ((⟨0, 0, 0, 0, false, []⟩ : ApiRaw), false) else ((⟨n, f.Type_, f.Flags, f.Stream, false, ((f_penn [] false f).1) ++ f.Data⟩ : ApiRaw), true)
theorem s_written (f : ApiFrame) (n : Int) (Af4 : Option Addr) (cf4 : Nat) (Af5 : Option Addr) (cf5 : Nat) (hs : f.Settings.length ≤ 1048576) (hd : f.Data.length ≤ 1073741824) (hp : f.Pad = -1) :
    Spec Tryz.prog 63 [.agg #[.int .i64 f.Type_, .int .i64 f.Flags, .int .i64 f.Stream, .int .i64 f.Pad, .slice Af4 f.Data.length cf4, .slice Af5 f.Settings.length cf5, .int .i64 f.Weight, .int .i64 f.Parent, .bool f.Alone, .int .i64 f.Promised, .int .i64 f.Last, .int .i64 f.Code, .int .i64 f.Step], .int .i64 n].toArray [rd (Kd.int .u8) Af4 cf4 f.Data, rd kApiSetting Af5 cf5 f.Settings] (fun v L => ∃ (A2 : Option Addr), ∃ (c2 : Nat), v = .tuple #[.agg #[.int .i64 (((f_written f n).1).From), .int .i64 (((f_written f n).1).Type_), .int .i64 (((f_written f n).1).Flags), .int .i64 (((f_written f n).1).Stream), .bool (((f_written f n).1).Res), .slice A2 (((f_written f n).1).Body.length) c2], .bool ((f_written f n).2)] ∧ L = [row (Kd.int .u8) 5 A2 c2 (((f_written f n).1).Body), rd (Kd.int .u8) Af4 cf4 f.Data, rd kApiSetting Af5 cf5 f.Settings]) := by
  refine Spec.enter Tryz.func63 rfl Tryz.ntmps63 rfl rfl (fun w0 R0 F0 => ?_)
  refine J.seq ?_
  refine J.region ?_
  refine JL.ef (O1.box rfl rfl) rfl ?_
  rintro _ _ ⟨b_1, rfl, rfl⟩
  refine JL.ef (O1.alloc ze45) rfl ?_
  rintro _ _ ⟨b_2, rfl, rfl⟩
  refine JL.qt (Qt.assign rfl) rfl ?_
  refine JL.nil ?_
  refine JN.code ?_
  refine J.seq ?_
  refine J.region ?_
  refine JL.ef (O1.alloc ze190) rfl ?_
  rintro _ _ ⟨b_3, rfl, rfl⟩
  refine JL.nil ?_
  refine JN.code ?_
  refine J.seq ?_
  refine J.region ?_
  refine JL.qt (Qt.fa (o' := 0) fo40_0 rfl rfl) rfl ?_
  refine JL.qt (Qt.ld 2 pl3 rfl rfl rfl) rfl ?_
  refine JL.qt (Qt.fa (o' := 1) fo40_1 rfl rfl) rfl ?_
  refine JL.qt (Qt.ld 2 pl3 rfl rfl rfl) rfl ?_
  refine JL.call (O1.call Tryz.func37 rfl rfl rfl [] rfl (s_kinds_Has f.Type_ f.Flags 8)) rfl ?_
  rintro _ _ ⟨rfl, rfl⟩
  refine JL.qt (Qt.assign rfl) rfl ?_
  refine JL.nil ?_
  refine JN.code ?_
  refine J.seq ?_
  refine J.seq ?_
  refine J.region ?_
  refine JL.qt (Qt.move rfl) rfl ?_
  refine JL.nil ?_
  refine JN.code ?_
  refine J.cond rfl (fun h1 => ?_) (fun h1 => ?_)
  · have hw : ∀ ys, (f_penn (f_pen1 ys false f.Pad).1 (f_pen1 ys false f.Pad).2 f).2 = true := fun ys => by rw [hp]; exact f_penn_true (f_pen1_neg ys)
    refine J.region ?_
    refine JL.qt (Qt.fa (o' := 3) fo40_3 rfl rfl) rfl ?_
    refine JL.qt (Qt.ld 2 pl3 rfl rfl rfl) rfl ?_
    refine JL.intro_pers (p := row (Kd.int .u8) 5 none 0 []) (fun w R => row_nil _ _ w R) ?_
    refine JL.call (O1.call Tryz.func86 rfl rfl rfl [1, 0] rfl (s_pen1 b_3 none 0 [] false f.Pad (by simp))) rfl ?_
    rintro _ _ ⟨A2_4, c2_5, rfl, rfl⟩
    refine JL.nil ?_
    refine JN.code ?_
    refine J.seq ?_
    refine J.region ?_
    refine JL.qt (Qt.ldA 3 ag40 sz40 rfl rfl rfl rfl) rfl ?_
    refine JL.call (O1.call Tryz.func87 rfl rfl rfl [0, 0, 2, 2] rfl (s_penn b_3 A2_4 c2_5 ((f_pen1 [] false f.Pad).1) ((f_pen1 [] false f.Pad).2) f Af4 cf4 Af5 cf5 (by have := f_pen1_len [] false f.Pad; simp at *; try omega) hs)) rfl ?_
    rintro _ _ ⟨A2_6, c2_7, rfl, rfl⟩
    refine JL.nil ?_
    refine JN.code ?_
    refine J.seq ?_
    refine J.region ?_
    refine JL.qt (Qt.fa (o' := 0) fo190_0 rfl rfl) rfl ?_
    refine JL.qt (Qt.ld 0 pl37 rfl rfl rfl) rfl ?_
    refine JL.qt (Qt.fa (o' := 4) fo40_4 rfl rfl) rfl ?_
    refine JL.qt (Qt.ld 5 pl37 rfl rfl rfl) rfl ?_
    refine JL.ef (O1.appendRd (D := (Kd.int .u8)) (xs := ((f_penn ((f_pen1 [] false f.Pad).1) ((f_pen1 [] false f.Pad).2) f).1)) (ys := f.Data) 1 1 el37 rfl rfl rfl rfl (by have := f_penn_len (f_pen1 [] false f.Pad).1 (f_pen1 [] false f.Pad).2 f; have := f_pen1_len [] false f.Pad; have := f_penn_len [] false f; simp at *; omega)) rfl ?_
    rintro _ _ ⟨A_8, c_9, rfl, rfl⟩
    refine JL.qt (Qt.fa (o' := 0) fo190_0 rfl rfl) rfl ?_
    refine JL.sk (O1.st 2 sz37 rfl rfl rfl rfl rfl rfl) ?_
    refine JL.nil ?_
    refine JN.code ?_
    refine J.seq ?_
    refine J.seq ?_
    refine J.region ?_
    refine JL.qt (Qt.fa (o' := 1) fo190_1 rfl rfl) rfl ?_
    refine JL.qt (Qt.ld 0 pl4 rfl rfl rfl) rfl ?_
    refine JL.nil ?_
    refine JN.code ?_
    refine J.cond rfl (fun h2 => ?_) (fun h2 => ?_)
    · refine J.seq ?_
      refine J.keep [1, 2, 4, 5, 6, 7] rfl ?_
      refine J.region ?_
      refine JL.qt (Qt.build sp45 ze45 rfl rfl) rfl ?_
      refine JL.sk (O1.stA 4 sz45 rfl rfl rfl rfl rfl rfl rfl rfl) ?_
      refine JL.qt (Qt.assign rfl) rfl ?_
      refine JL.nil ?_
      refine JN.code ?_
      refine J.ret ?_
      refine JN.intro_pers (p := row (Kd.int .u8) 5 none 0 []) (fun w R => row_nil _ _ w R) ?_
      refine JN.backR (rs := [.cell 4 45, .tmp 5]) (vs := [.agg #[.int .i64 0, .int .i64 0, .int .i64 0, .int .i64 0, .bool false, .slice none 0 0], .bool false]) rfl ?_ [0, 3, 3] rfl ?_
      · exact .cell (x := 4) (t := 45) (b := b_2) (o := 0) rfl (Qt.ldA (cs := [.int .i64 0, .int .i64 0, .int .i64 0, .int .i64 0, .bool false, .slice none 0 0]) 1 ag45 sz45 rfl rfl rfl rfl) (.tmp rfl .nil)
      exact ⟨none, 0, by unfold f_written; rw [if_pos h1] <;> rfl, by unfold f_written; rw [if_pos h1] <;> rfl⟩
    rw [hw] at h2; cases h2
  refine J.skip ?_
  refine JN.code ?_
  refine J.seq ?_
  refine J.region ?_
  refine JL.qt (Qt.ldA 2 ag40 sz40 rfl rfl rfl rfl) rfl ?_
  refine JL.intro_pers (p := row (Kd.int .u8) 5 none 0 []) (fun w R => row_nil _ _ w R) ?_
  refine JL.call (O1.call Tryz.func87 rfl rfl rfl [1, 0, 2, 2] rfl (s_penn b_3 none 0 [] false f Af4 cf4 Af5 cf5 (by have := f_pen1_len [] false f.Pad; simp at *; try omega) hs)) rfl ?_
  rintro _ _ ⟨A2_10, c2_11, rfl, rfl⟩
  refine JL.nil ?_
  refine JN.code ?_
  refine J.seq ?_
  refine J.region ?_
  refine JL.qt (Qt.fa (o' := 0) fo190_0 rfl rfl) rfl ?_
  refine JL.qt (Qt.ld 0 pl37 rfl rfl rfl) rfl ?_
  refine JL.qt (Qt.fa (o' := 4) fo40_4 rfl rfl) rfl ?_
  refine JL.qt (Qt.ld 5 pl37 rfl rfl rfl) rfl ?_
  refine JL.ef (O1.appendRd (D := (Kd.int .u8)) (xs := ((f_penn [] false f).1)) (ys := f.Data) 1 1 el37 rfl rfl rfl rfl (by have := f_penn_len (f_pen1 [] false f.Pad).1 (f_pen1 [] false f.Pad).2 f; have := f_pen1_len [] false f.Pad; have := f_penn_len [] false f; simp at *; omega)) rfl ?_
  rintro _ _ ⟨A_12, c_13, rfl, rfl⟩
  refine JL.qt (Qt.fa (o' := 0) fo190_0 rfl rfl) rfl ?_
  refine JL.sk (O1.st 2 sz37 rfl rfl rfl rfl rfl rfl) ?_
  refine JL.nil ?_
  refine JN.code ?_
  refine J.seq ?_
  refine J.seq ?_
  refine J.region ?_
  refine JL.qt (Qt.fa (o' := 1) fo190_1 rfl rfl) rfl ?_
  refine JL.qt (Qt.ld 0 pl4 rfl rfl rfl) rfl ?_
  refine JL.nil ?_
  refine JN.code ?_
  refine J.cond rfl (fun h3 => ?_) (fun h3 => ?_)
  · refine J.seq ?_
    refine J.region ?_
    refine JL.qt (Qt.build sp45 ze45 rfl rfl) rfl ?_
    refine JL.sk (O1.stA 4 sz45 rfl rfl rfl rfl rfl rfl rfl rfl) ?_
    refine JL.qt (Qt.assign rfl) rfl ?_
    refine JL.nil ?_
    refine JN.code ?_
    refine J.ret ?_
    refine JN.intro_pers (p := row (Kd.int .u8) 5 none 0 []) (fun w R => row_nil _ _ w R) ?_
    refine JN.backR (rs := [.cell 4 45, .tmp 5]) (vs := [.agg #[.int .i64 0, .int .i64 0, .int .i64 0, .int .i64 0, .bool false, .slice none 0 0], .bool false]) rfl ?_ [0, 3, 3] rfl ?_
    · exact .cell (x := 4) (t := 45) (b := b_2) (o := 0) rfl (Qt.ldA (cs := [.int .i64 0, .int .i64 0, .int .i64 0, .int .i64 0, .bool false, .slice none 0 0]) 1 ag45 sz45 rfl rfl rfl rfl) (.tmp rfl .nil)
    exact ⟨none, 0, by unfold f_written; rw [if_neg (Bool.eq_false_iff.1 h1), if_pos h3] <;> rfl, by unfold f_written; rw [if_neg (Bool.eq_false_iff.1 h1), if_pos h3] <;> rfl⟩
  refine J.skip ?_
  refine JN.code ?_
  refine J.seq ?_
  refine J.seq ?_
  refine J.region ?_
  refine JL.qt (Qt.move rfl) rfl ?_
  refine JL.nil ?_
  refine JN.code ?_
  refine J.cond rfl (fun h => nomatch (h1.symm.trans h)) (fun h => ?_)
  refine J.skip ?_
  refine JN.code ?_
  refine J.seq ?_
  refine J.region ?_
  refine JL.qt (Qt.move rfl) rfl ?_
  refine JL.qt (Qt.fa (o' := 0) fo40_0 rfl rfl) rfl ?_
  refine JL.qt (Qt.ld 5 pl3 rfl rfl rfl) rfl ?_
  refine JL.qt (Qt.fa (o' := 1) fo40_1 rfl rfl) rfl ?_
  refine JL.qt (Qt.ld 5 pl3 rfl rfl rfl) rfl ?_
  refine JL.qt (Qt.fa (o' := 2) fo40_2 rfl rfl) rfl ?_
  refine JL.qt (Qt.ld 5 pl3 rfl rfl rfl) rfl ?_
  refine JL.qt (Qt.fa (o' := 0) fo190_0 rfl rfl) rfl ?_
  refine JL.qt (Qt.ld 0 pl37 rfl rfl rfl) rfl ?_
  refine JL.qt (Qt.build sp45 ze45 rfl rfl) rfl ?_
  refine JL.sk (O1.stA 4 sz45 rfl rfl rfl rfl rfl rfl rfl rfl) ?_
  refine JL.qt (Qt.assign rfl) rfl ?_
  refine JL.nil ?_
  refine JN.code ?_
  refine J.ret ?_
  refine JN.backR (rs := [.cell 4 45, .tmp 5]) (vs := [.agg #[.int .i64 n, .int .i64 f.Type_, .int .i64 f.Flags, .int .i64 f.Stream, .bool false, .slice A_12 ((((f_penn [] false f).1) ++ f.Data).length) c_13], .bool true]) rfl ?_ [2, 2, 2] rfl ?_
  · exact .cell (x := 4) (t := 45) (b := b_2) (o := 0) rfl (Qt.ldA (cs := [.int .i64 n, .int .i64 f.Type_, .int .i64 f.Flags, .int .i64 f.Stream, .bool false, .slice A_12 ((((f_penn [] false f).1) ++ f.Data).length) c_13]) 0 ag45 sz45 rfl rfl rfl rfl) (.tmp rfl .nil)
  exact ⟨A_12, c_13, by unfold f_written; rw [if_neg (Bool.eq_false_iff.1 h1), if_neg (Bool.eq_false_iff.1 h3)] <;> rfl, by unfold f_written; rw [if_neg (Bool.eq_false_iff.1 h1), if_neg (Bool.eq_false_iff.1 h3)] <;> rfl⟩
end Go.Proofs.YthjbkngecgbioaaGreatDoor.Sl

/- Walks: octets are read. -/
set_option maxRecDepth 100000
set_option linter.unusedSimpArgs false
set_option linter.unusedVariables false
namespace Go.Proofs.YthjbkngecgbioaaGreatDoor.Sl
open Go
theorem sz5 : szTy Tryz.prog 5 = some 1 := by kernel_rfl
theorem pl5 : plainTy Tryz.prog 5 = true := by kernel_rfl
def f_get1 (xs : List Int) : Int × Int := if ((xs.length : Nat) : Int) < 1 then (0, 3) else (Sl.bor .i64 0 (IntKind.i64.wrap (xs.getD 0 0)), 0)
def f_get2 (xs : List Int) : Int × Int := if ((xs.length : Nat) : Int) < 2 then (0, 3) else (Sl.bor .i64 (Sl.shl .i64 (Sl.bor .i64 0 (IntKind.i64.wrap (xs.getD 0 0))) 8) (IntKind.i64.wrap (xs.getD 1 0)), 0)
def f_get4 (xs : List Int) : Int × Int := if ((xs.length : Nat) : Int) < 4 then (0, 3) else (Sl.bor .i64 (Sl.shl .i64 (Sl.bor .i64 (Sl.shl .i64 (Sl.bor .i64 (Sl.shl .i64 (Sl.bor .i64 0 (IntKind.i64.wrap (xs.getD 0 0))) 8) (IntKind.i64.wrap (xs.getD 1 0))) 8) (IntKind.i64.wrap (xs.getD 2 0))) 8) (IntKind.i64.wrap (xs.getD 3 0)), 0)
theorem s_cloneB_n (c1 : Nat) :
    Spec Tryz.prog 23 [.slice none 0 c1].toArray [rd (Kd.int .u8) none c1 []] (fun v L => ∃ (A2 : Option Addr), ∃ (c2 : Nat), v = .slice A2 (([] : List Int).length) c2 ∧ L = [rd (Kd.int .u8) A2 c2 [], rd (Kd.int .u8) none c1 []]) := by
  refine Spec.enter Tryz.func23 rfl Tryz.ntmps23 rfl rfl (fun w0 R0 F0 => ?_)
  refine J.seq ?_
  refine J.region ?_
  refine JL.qt (Qt.assign rfl) rfl ?_
  refine JL.nil ?_
  refine JN.code ?_
  refine J.seq ?_
  refine J.seq ?_
  refine J.region ?_
  refine JL.qt (Qt.move rfl) rfl ?_
  refine JL.qt (Qt.bin (fun _ => slnil_eql_run Tryz.underlying37) rfl rfl rfl) rfl ?_
  refine JL.nil ?_
  refine JN.code ?_
  refine J.cond_true rfl ?_
  refine J.seq ?_
  refine J.region ?_
  refine JL.qt (Qt.assign rfl) rfl ?_
  refine JL.nil ?_
  refine JN.code ?_
  refine J.ret ?_
  refine JN.intro_pers (p := rd (Kd.int .u8) none 0 []) (fun w R => rd_nil' w R) ?_
  refine JN.back (res1 rfl rfl) [0, 0] rfl ?_
  exact ⟨_, _, rfl, rfl⟩
theorem s_cloneB_s (a : Addr) (c1 : Nat) (xs : List Int) :
    Spec Tryz.prog 23 [.slice (some a) xs.length c1].toArray [rd (Kd.int .u8) (some a) c1 xs] (fun v L => ∃ (A2 : Option Addr), ∃ (c2 : Nat), v = .slice A2 xs.length c2 ∧ L = [rd (Kd.int .u8) A2 c2 xs, rd (Kd.int .u8) (some a) c1 xs]) := by
  refine Spec.enter Tryz.func23 rfl Tryz.ntmps23 rfl rfl (fun w0 R0 F0 => ?_)
  refine J.seq ?_
  refine J.region ?_
  refine JL.qt (Qt.assign rfl) rfl ?_
  refine JL.nil ?_
  refine JN.code ?_
  refine J.seq ?_
  refine J.seq ?_
  refine J.region ?_
  refine JL.qt (Qt.move rfl) rfl ?_
  refine JL.qt (Qt.bin (fun _ => Xe.slice_eql_run Tryz.underlying37) rfl rfl rfl) rfl ?_
  refine JL.nil ?_
  refine JN.code ?_
  refine J.cond_false rfl ?_
  refine J.skip ?_
  refine JN.code ?_
  refine J.seq ?_
  refine J.tell 0 rfl rd_tell (fun ⟨ht1, ht2⟩ => ?_)
  refine J.region ?_
  refine JL.ef (O1.bslR (D := (Kd.int .u8)) (xs := []) el37 ze5 rfl rfl rfl rfl rfl (fun _ _ => rfl)) rfl ?_
  rintro _ _ ⟨b_1, rfl, rfl⟩
  refine JL.qt (Qt.move rfl) rfl ?_
  refine JL.ef (O1.appendRd (D := (Kd.int .u8)) (xs := []) (ys := xs) 0 0 el37 rfl rfl rfl rfl (by simp; omega)) rfl ?_
  rintro _ _ ⟨A_2, c_3, rfl, rfl⟩
  refine JL.upd [0] rfl (row_freeze (by show _ ≤ 1099511627776; simp; omega)) ?_
  refine JL.qt (Qt.assign rfl) rfl ?_
  refine JL.nil ?_
  refine JN.code ?_
  refine J.ret ?_
  refine JN.back (res1 rfl rfl) [0, 0] rfl ?_
  exact ⟨_, _, rfl, rfl⟩
theorem s_cloneB (A1 : Option Addr) (c1 : Nat) (xs : List Int) :
    Spec Tryz.prog 23 [.slice A1 xs.length c1].toArray [rd (Kd.int .u8) A1 c1 xs] (fun v L => ∃ (A2 : Option Addr), ∃ (c2 : Nat), v = .slice A2 xs.length c2 ∧ L = [rd (Kd.int .u8) A2 c2 xs, rd (Kd.int .u8) A1 c1 xs]) := by
  cases A1 with
  | none => exact Spec.tell 0 rfl rd_none (fun h => by subst h; exact s_cloneB_n c1)
  | some a => exact s_cloneB_s a c1 xs
theorem s_get1 (A1 : Option Addr) (c1 : Nat) (xs : List Int) :
    Spec Tryz.prog 164 [.slice A1 xs.length c1, .int .i64 1].toArray [rd (Kd.int .u8) A1 c1 xs] (fun v L => v = .tuple #[.int .i64 ((f_get1 xs).1), .int .i64 ((f_get1 xs).2)] ∧ L = [rd (Kd.int .u8) A1 c1 xs]) := by
  refine Spec.enter Tryz.func164 rfl Tryz.ntmps164 rfl rfl (fun w0 R0 F0 => ?_)
  refine J.seq ?_
  refine J.region ?_
  refine JL.qt (Qt.assign rfl) rfl ?_
  refine JL.qt (Qt.assign rfl) rfl ?_
  refine JL.nil ?_
  refine JN.code ?_
  refine J.seq ?_
  refine J.seq ?_
  refine J.region ?_
  refine JL.qt (Qt.move rfl) rfl ?_
  refine JL.call (O1.call Tryz.func67 rfl rfl rfl [] rfl s_top1) rfl ?_
  rintro _ _ ⟨rfl, rfl⟩
  refine JL.qt (Qt.move rfl) rfl ?_
  refine JL.qt (Qt.extract rfl rfl) rfl ?_
  refine JL.qt (Qt.extract rfl rfl) rfl ?_
  refine JL.qt (Qt.assign rfl) rfl ?_
  refine JL.qt (Qt.assign rfl) rfl ?_
  refine JL.nil ?_
  refine JN.code ?_
  refine J.seq ?_
  refine J.region ?_
  refine JL.qt (Qt.move rfl) rfl ?_
  refine JL.qt (Qt.un (v := .bool false) (fun _ => not_run) rfl) rfl ?_
  refine JL.nil ?_
  refine JN.code ?_
  refine J.cond_false rfl ?_
  refine J.skip ?_
  refine JN.code ?_
  refine J.seq ?_
  refine J.seq ?_
  refine J.region ?_
  refine JL.qt (Qt.move rfl) rfl ?_
  refine JL.qt (Qt.bi (fun _ _ => len_slice_run Tryz.underlying37) rfl) rfl ?_
  refine JL.qt (Qt.move rfl) rfl ?_
  refine JL.qt (Qt.bin (fun _ => lss_run) rfl rfl rfl) rfl ?_
  refine JL.nil ?_
  refine JN.code ?_
  refine J.cond_dec rfl (fun h1 => ?_) (fun h1 => ?_)
  · refine J.seq ?_
    refine J.region ?_
    refine JL.qt (Qt.assign rfl) rfl ?_
    refine JL.qt (Qt.assign rfl) rfl ?_
    refine JL.nil ?_
    refine JN.code ?_
    refine J.ret ?_
    refine JN.back (res2 rfl rfl rfl) [0] rfl ?_
    exact ⟨by unfold f_get1; rw [if_pos h1] <;> rfl, rfl⟩
  refine J.skip ?_
  refine JN.code ?_
  refine J.seq ?_
  refine J.region ?_
  refine JL.qt (Qt.assign rfl) rfl ?_
  refine JL.nil ?_
  refine JN.code ?_
  refine J.seq ?_
  refine J.seq ?_
  refine J.region ?_
  refine JL.qt (Qt.move rfl) rfl ?_
  refine JL.qt (Qt.move rfl) rfl ?_
  refine JL.tell 0 rfl rd_tell (fun ⟨ht1, ht2⟩ => ?_)
  refine JL.qt (Qt.cut Tryz.underlying37 sz5 rfl (Bnd.nh (hi := 1) rfl (by omega))) rfl ?_
  refine JL.upd [0] (L' := [rd (Kd.int .u8) (cutA A1 c1 0 1) (c1 - 0) (xs.take 1), rd (Kd.int .u8) A1 c1 xs]) rfl (rd_take (hi := 1) (by omega)) ?_
  refine JL.upd_env (t := 24) (v' := .slice (cutA A1 c1 0 1) ((xs.take 1).length) (c1 - 0)) rfl (by congr 1; simp only [List.length_take, List.length_drop] at *; omega) ?_
  refine JL.qt (Qt.bi (fun _ _ => len_slice_run Tryz.underlying37) rfl) rfl ?_
  refine JL.qt (Qt.move rfl) rfl ?_
  refine JL.nil ?_
  refine JN.code ?_
  refine J.block ?_
  refine J.unroll 1 ?_
  refine J.seq ?_
  refine J.region ?_
  refine JL.qt (Qt.bin (v := .bool true) (fun _ => by rw [lss_run]; congr 2; simp; omega) rfl rfl rfl) rfl ?_
  refine JL.nil ?_
  refine JN.code ?_
  refine J.seq ?_
  refine J.cond_true rfl ?_
  refine J.skip ?_
  refine JN.code ?_
  refine J.seq ?_
  refine J.block ?_
  refine J.seq ?_
  refine J.elem (k := 0) (u := xs.getD 0 0) 0 rfl (take_getD (by omega) (by omega)) (fun b_1 o_2 cs_3 hA_4 => ?_); rw [hA_4]
  refine J.unf0 1 rfl unInt ?_; rintro ⟨rfl, e_5⟩
  refine J.region ?_
  refine JL.qt (Qt.ia Tryz.underlying37 sz5 rfl rfl (by decide) (by rw [List.length_take]; omega)) rfl ?_
  refine JL.qt (Qt.ld_ro (j := 0) 0 pl5 rfl rfl rfl rfl) rfl ?_
  refine JL.qt (Qt.assign rfl) rfl ?_
  refine JL.nil ?_
  refine JN.code ?_
  refine J.keep [4, 5, 8, 24, 25, 26, 27, 28, 29, 10] rfl ?_
  refine J.region ?_
  refine JL.qt (Qt.move rfl) rfl ?_
  refine JL.qt (Qt.bin (v := .int .i64 0) (fun _ => by rw [shl_run (by decide)]; rfl) rfl rfl rfl) rfl ?_
  refine JL.qt (Qt.move rfl) rfl ?_
  refine JL.qt (Qt.conv (fun _ => conv_run Tryz.underlying5 Tryz.underlying3) rfl) rfl ?_
  refine JL.qt (Qt.bin (fun _ => or_run) rfl rfl rfl) rfl ?_
  refine JL.qt (Qt.assign rfl) rfl ?_
  refine JL.nil ?_
  refine JN.code ?_
  refine J.region ?_
  refine JL.qt (Qt.bin (fun _ => addN_run (c := 1) (by decide) (by decide) (by decide)) rfl rfl rfl) rfl ?_
  refine JL.qt (Qt.move rfl) rfl ?_
  refine JL.nil ?_
  refine JN.again ?_
  refine J.seq ?_
  refine J.region ?_
  refine JL.qt (Qt.bin (v := .bool false) (fun _ => by rw [lss_run]; congr 2; simp; omega) rfl rfl rfl) rfl ?_
  refine JL.nil ?_
  refine JN.code ?_
  refine J.seq ?_
  refine J.cond_false rfl ?_
  refine J.exit ?_
  refine JN.code ?_
  refine J.seq ?_
  refine J.region ?_
  refine JL.qt (Qt.move rfl) rfl ?_
  refine JL.qt (Qt.assign rfl) rfl ?_
  refine JL.qt (Qt.assign rfl) rfl ?_
  refine JL.nil ?_
  refine JN.code ?_
  refine J.ret ?_
  refine JN.back (res2 rfl rfl rfl) [2] rfl ?_
  exact ⟨by unfold f_get1; rw [if_neg h1] <;> rfl, rfl⟩
theorem s_get2 (A1 : Option Addr) (c1 : Nat) (xs : List Int) :
    Spec Tryz.prog 164 [.slice A1 xs.length c1, .int .i64 2].toArray [rd (Kd.int .u8) A1 c1 xs] (fun v L => v = .tuple #[.int .i64 ((f_get2 xs).1), .int .i64 ((f_get2 xs).2)] ∧ L = [rd (Kd.int .u8) A1 c1 xs]) := by
  refine Spec.enter Tryz.func164 rfl Tryz.ntmps164 rfl rfl (fun w0 R0 F0 => ?_)
  refine J.seq ?_
  refine J.region ?_
  refine JL.qt (Qt.assign rfl) rfl ?_
  refine JL.qt (Qt.assign rfl) rfl ?_
  refine JL.nil ?_
  refine JN.code ?_
  refine J.seq ?_
  refine J.seq ?_
  refine J.region ?_
  refine JL.qt (Qt.move rfl) rfl ?_
  refine JL.call (O1.call Tryz.func67 rfl rfl rfl [] rfl s_top2) rfl ?_
  rintro _ _ ⟨rfl, rfl⟩
  refine JL.qt (Qt.move rfl) rfl ?_
  refine JL.qt (Qt.extract rfl rfl) rfl ?_
  refine JL.qt (Qt.extract rfl rfl) rfl ?_
  refine JL.qt (Qt.assign rfl) rfl ?_
  refine JL.qt (Qt.assign rfl) rfl ?_
  refine JL.nil ?_
  refine JN.code ?_
  refine J.seq ?_
  refine J.region ?_
  refine JL.qt (Qt.move rfl) rfl ?_
  refine JL.qt (Qt.un (v := .bool false) (fun _ => not_run) rfl) rfl ?_
  refine JL.nil ?_
  refine JN.code ?_
  refine J.cond_false rfl ?_
  refine J.skip ?_
  refine JN.code ?_
  refine J.seq ?_
  refine J.seq ?_
  refine J.region ?_
  refine JL.qt (Qt.move rfl) rfl ?_
  refine JL.qt (Qt.bi (fun _ _ => len_slice_run Tryz.underlying37) rfl) rfl ?_
  refine JL.qt (Qt.move rfl) rfl ?_
  refine JL.qt (Qt.bin (fun _ => lss_run) rfl rfl rfl) rfl ?_
  refine JL.nil ?_
  refine JN.code ?_
  refine J.cond_dec rfl (fun h1 => ?_) (fun h1 => ?_)
  · refine J.seq ?_
    refine J.region ?_
    refine JL.qt (Qt.assign rfl) rfl ?_
    refine JL.qt (Qt.assign rfl) rfl ?_
    refine JL.nil ?_
    refine JN.code ?_
    refine J.ret ?_
    refine JN.back (res2 rfl rfl rfl) [0] rfl ?_
    exact ⟨by unfold f_get2; rw [if_pos h1] <;> rfl, rfl⟩
  refine J.skip ?_
  refine JN.code ?_
  refine J.seq ?_
  refine J.region ?_
  refine JL.qt (Qt.assign rfl) rfl ?_
  refine JL.nil ?_
  refine JN.code ?_
  refine J.seq ?_
  refine J.seq ?_
  refine J.region ?_
  refine JL.qt (Qt.move rfl) rfl ?_
  refine JL.qt (Qt.move rfl) rfl ?_
  refine JL.tell 0 rfl rd_tell (fun ⟨ht1, ht2⟩ => ?_)
  refine JL.qt (Qt.cut Tryz.underlying37 sz5 rfl (Bnd.nh (hi := 2) rfl (by omega))) rfl ?_
  refine JL.upd [0] (L' := [rd (Kd.int .u8) (cutA A1 c1 0 1) (c1 - 0) (xs.take 2), rd (Kd.int .u8) A1 c1 xs]) rfl (rd_take (hi := 2) (by omega)) ?_
  refine JL.upd_env (t := 24) (v' := .slice (cutA A1 c1 0 1) ((xs.take 2).length) (c1 - 0)) rfl (by congr 1; simp only [List.length_take, List.length_drop] at *; omega) ?_
  refine JL.qt (Qt.bi (fun _ _ => len_slice_run Tryz.underlying37) rfl) rfl ?_
  refine JL.qt (Qt.move rfl) rfl ?_
  refine JL.nil ?_
  refine JN.code ?_
  refine J.block ?_
  refine J.unroll 2 ?_
  refine J.seq ?_
  refine J.region ?_
  refine JL.qt (Qt.bin (v := .bool true) (fun _ => by rw [lss_run]; congr 2; simp; omega) rfl rfl rfl) rfl ?_
  refine JL.nil ?_
  refine JN.code ?_
  refine J.seq ?_
  refine J.cond_true rfl ?_
  refine J.skip ?_
  refine JN.code ?_
  refine J.seq ?_
  refine J.block ?_
  refine J.seq ?_
  refine J.elem (k := 0) (u := xs.getD 0 0) 0 rfl (take_getD (by omega) (by omega)) (fun b_1 o_2 cs_3 hA_4 => ?_); rw [hA_4]
  refine J.unf0 1 rfl unInt ?_; rintro ⟨rfl, e_5⟩
  refine J.region ?_
  refine JL.qt (Qt.ia Tryz.underlying37 sz5 rfl rfl (by decide) (by rw [List.length_take]; omega)) rfl ?_
  refine JL.qt (Qt.ld_ro (j := 0) 0 pl5 rfl rfl rfl rfl) rfl ?_
  refine JL.qt (Qt.assign rfl) rfl ?_
  refine JL.nil ?_
  refine JN.code ?_
  refine J.keep [4, 5, 8, 24, 25, 26, 27, 28, 29, 10] rfl ?_
  refine J.region ?_
  refine JL.qt (Qt.move rfl) rfl ?_
  refine JL.qt (Qt.bin (v := .int .i64 0) (fun _ => by rw [shl_run (by decide)]; rfl) rfl rfl rfl) rfl ?_
  refine JL.qt (Qt.move rfl) rfl ?_
  refine JL.qt (Qt.conv (fun _ => conv_run Tryz.underlying5 Tryz.underlying3) rfl) rfl ?_
  refine JL.qt (Qt.bin (fun _ => or_run) rfl rfl rfl) rfl ?_
  refine JL.qt (Qt.assign rfl) rfl ?_
  refine JL.nil ?_
  refine JN.code ?_
  refine J.region ?_
  refine JL.qt (Qt.bin (fun _ => addN_run (c := 1) (by decide) (by decide) (by decide)) rfl rfl rfl) rfl ?_
  refine JL.qt (Qt.move rfl) rfl ?_
  refine JL.nil ?_
  refine JN.again ?_
  refine J.seq ?_
  refine J.region ?_
  refine JL.qt (Qt.bin (v := .bool true) (fun _ => by rw [lss_run]; congr 2; simp; omega) rfl rfl rfl) rfl ?_
  refine JL.nil ?_
  refine JN.code ?_
  refine J.seq ?_
  refine J.cond_true rfl ?_
  refine J.skip ?_
  refine JN.code ?_
  refine J.seq ?_
  refine J.block ?_
  refine J.seq ?_
  refine J.elemS (k := 1) (u := xs.getD 1 0) 1 rfl (take_getD (by omega) (by omega)) (fun cs_8 => ?_)
  refine J.unf0 1 rfl unInt ?_; rintro ⟨rfl, e_10⟩
  refine J.region ?_
  refine JL.qt (Qt.ia Tryz.underlying37 sz5 rfl rfl (by decide) (by rw [List.length_take]; omega)) rfl ?_
  refine JL.qt (Qt.ld_ro (j := 0) 0 pl5 rfl rfl rfl rfl) rfl ?_
  refine JL.qt (Qt.assign rfl) rfl ?_
  refine JL.nil ?_
  refine JN.code ?_
  refine J.region ?_
  refine JL.qt (Qt.move rfl) rfl ?_
  refine JL.qt (Qt.bin (fun _ => shl_run (by omega)) rfl rfl rfl) rfl ?_
  refine JL.qt (Qt.move rfl) rfl ?_
  refine JL.qt (Qt.conv (fun _ => conv_run Tryz.underlying5 Tryz.underlying3) rfl) rfl ?_
  refine JL.qt (Qt.bin (fun _ => or_run) rfl rfl rfl) rfl ?_
  refine JL.qt (Qt.assign rfl) rfl ?_
  refine JL.nil ?_
  refine JN.code ?_
  refine J.region ?_
  refine JL.qt (Qt.bin (fun _ => addN_run (c := 2) (by decide) (by decide) (by decide)) rfl rfl rfl) rfl ?_
  refine JL.qt (Qt.move rfl) rfl ?_
  refine JL.nil ?_
  refine JN.again ?_
  refine J.seq ?_
  refine J.region ?_
  refine JL.qt (Qt.bin (v := .bool false) (fun _ => by rw [lss_run]; congr 2; simp; omega) rfl rfl rfl) rfl ?_
  refine JL.nil ?_
  refine JN.code ?_
  refine J.seq ?_
  refine J.cond_false rfl ?_
  refine J.exit ?_
  refine JN.code ?_
  refine J.seq ?_
  refine J.region ?_
  refine JL.qt (Qt.move rfl) rfl ?_
  refine JL.qt (Qt.assign rfl) rfl ?_
  refine JL.qt (Qt.assign rfl) rfl ?_
  refine JL.nil ?_
  refine JN.code ?_
  refine J.ret ?_
  refine JN.back (res2 rfl rfl rfl) [3] rfl ?_
  exact ⟨by unfold f_get2; rw [if_neg h1] <;> rfl, rfl⟩
theorem s_get4 (A1 : Option Addr) (c1 : Nat) (xs : List Int) :
    Spec Tryz.prog 164 [.slice A1 xs.length c1, .int .i64 4].toArray [rd (Kd.int .u8) A1 c1 xs] (fun v L => v = .tuple #[.int .i64 ((f_get4 xs).1), .int .i64 ((f_get4 xs).2)] ∧ L = [rd (Kd.int .u8) A1 c1 xs]) := by
  refine Spec.enter Tryz.func164 rfl Tryz.ntmps164 rfl rfl (fun w0 R0 F0 => ?_)
  refine J.seq ?_
  refine J.region ?_
  refine JL.qt (Qt.assign rfl) rfl ?_
  refine JL.qt (Qt.assign rfl) rfl ?_
  refine JL.nil ?_
  refine JN.code ?_
  refine J.seq ?_
  refine J.seq ?_
  refine J.region ?_
  refine JL.qt (Qt.move rfl) rfl ?_
  refine JL.call (O1.call Tryz.func67 rfl rfl rfl [] rfl s_top4) rfl ?_
  rintro _ _ ⟨rfl, rfl⟩
  refine JL.qt (Qt.move rfl) rfl ?_
  refine JL.qt (Qt.extract rfl rfl) rfl ?_
  refine JL.qt (Qt.extract rfl rfl) rfl ?_
  refine JL.qt (Qt.assign rfl) rfl ?_
  refine JL.qt (Qt.assign rfl) rfl ?_
  refine JL.nil ?_
  refine JN.code ?_
  refine J.seq ?_
  refine J.region ?_
  refine JL.qt (Qt.move rfl) rfl ?_
  refine JL.qt (Qt.un (v := .bool false) (fun _ => not_run) rfl) rfl ?_
  refine JL.nil ?_
  refine JN.code ?_
  refine J.cond_false rfl ?_
  refine J.skip ?_
  refine JN.code ?_
  refine J.seq ?_
  refine J.seq ?_
  refine J.region ?_
  refine JL.qt (Qt.move rfl) rfl ?_
  refine JL.qt (Qt.bi (fun _ _ => len_slice_run Tryz.underlying37) rfl) rfl ?_
  refine JL.qt (Qt.move rfl) rfl ?_
  refine JL.qt (Qt.bin (fun _ => lss_run) rfl rfl rfl) rfl ?_
  refine JL.nil ?_
  refine JN.code ?_
  refine J.cond_dec rfl (fun h1 => ?_) (fun h1 => ?_)
  · refine J.seq ?_
    refine J.region ?_
    refine JL.qt (Qt.assign rfl) rfl ?_
    refine JL.qt (Qt.assign rfl) rfl ?_
    refine JL.nil ?_
    refine JN.code ?_
    refine J.ret ?_
    refine JN.back (res2 rfl rfl rfl) [0] rfl ?_
    exact ⟨by unfold f_get4; rw [if_pos h1] <;> rfl, rfl⟩
  refine J.skip ?_
  refine JN.code ?_
  refine J.seq ?_
  refine J.region ?_
  refine JL.qt (Qt.assign rfl) rfl ?_
  refine JL.nil ?_
  refine JN.code ?_
  refine J.seq ?_
  refine J.seq ?_
  refine J.region ?_
  refine JL.qt (Qt.move rfl) rfl ?_
  refine JL.qt (Qt.move rfl) rfl ?_
  refine JL.tell 0 rfl rd_tell (fun ⟨ht1, ht2⟩ => ?_)
  refine JL.qt (Qt.cut Tryz.underlying37 sz5 rfl (Bnd.nh (hi := 4) rfl (by omega))) rfl ?_
  refine JL.upd [0] (L' := [rd (Kd.int .u8) (cutA A1 c1 0 1) (c1 - 0) (xs.take 4), rd (Kd.int .u8) A1 c1 xs]) rfl (rd_take (hi := 4) (by omega)) ?_
  refine JL.upd_env (t := 24) (v' := .slice (cutA A1 c1 0 1) ((xs.take 4).length) (c1 - 0)) rfl (by congr 1; simp only [List.length_take, List.length_drop] at *; omega) ?_
  refine JL.qt (Qt.bi (fun _ _ => len_slice_run Tryz.underlying37) rfl) rfl ?_
  refine JL.qt (Qt.move rfl) rfl ?_
  refine JL.nil ?_
  refine JN.code ?_
  refine J.block ?_
  refine J.unroll 4 ?_
  refine J.seq ?_
  refine J.region ?_
  refine JL.qt (Qt.bin (v := .bool true) (fun _ => by rw [lss_run]; congr 2; simp; omega) rfl rfl rfl) rfl ?_
  refine JL.nil ?_
  refine JN.code ?_
  refine J.seq ?_
  refine J.cond_true rfl ?_
  refine J.skip ?_
  refine JN.code ?_
  refine J.seq ?_
  refine J.block ?_
  refine J.seq ?_
  refine J.elem (k := 0) (u := xs.getD 0 0) 0 rfl (take_getD (by omega) (by omega)) (fun b_1 o_2 cs_3 hA_4 => ?_); rw [hA_4]
  refine J.unf0 1 rfl unInt ?_; rintro ⟨rfl, e_5⟩
  refine J.region ?_
  refine JL.qt (Qt.ia Tryz.underlying37 sz5 rfl rfl (by decide) (by rw [List.length_take]; omega)) rfl ?_
  refine JL.qt (Qt.ld_ro (j := 0) 0 pl5 rfl rfl rfl rfl) rfl ?_
  refine JL.qt (Qt.assign rfl) rfl ?_
  refine JL.nil ?_
  refine JN.code ?_
  refine J.keep [4, 5, 8, 24, 25, 26, 27, 28, 29, 10] rfl ?_
  refine J.region ?_
  refine JL.qt (Qt.move rfl) rfl ?_
  refine JL.qt (Qt.bin (v := .int .i64 0) (fun _ => by rw [shl_run (by decide)]; rfl) rfl rfl rfl) rfl ?_
  refine JL.qt (Qt.move rfl) rfl ?_
  refine JL.qt (Qt.conv (fun _ => conv_run Tryz.underlying5 Tryz.underlying3) rfl) rfl ?_
  refine JL.qt (Qt.bin (fun _ => or_run) rfl rfl rfl) rfl ?_
  refine JL.qt (Qt.assign rfl) rfl ?_
  refine JL.nil ?_
  refine JN.code ?_
  refine J.region ?_
  refine JL.qt (Qt.bin (fun _ => addN_run (c := 1) (by decide) (by decide) (by decide)) rfl rfl rfl) rfl ?_
  refine JL.qt (Qt.move rfl) rfl ?_
  refine JL.nil ?_
  refine JN.again ?_
  refine J.seq ?_
  refine J.region ?_
  refine JL.qt (Qt.bin (v := .bool true) (fun _ => by rw [lss_run]; congr 2; simp; omega) rfl rfl rfl) rfl ?_
  refine JL.nil ?_
  refine JN.code ?_
  refine J.seq ?_
  refine J.cond_true rfl ?_
  refine J.skip ?_
  refine JN.code ?_
  refine J.seq ?_
  refine J.block ?_
  refine J.seq ?_
  refine J.elemS (k := 1) (u := xs.getD 1 0) 1 rfl (take_getD (by omega) (by omega)) (fun cs_8 => ?_)
  refine J.unf0 1 rfl unInt ?_; rintro ⟨rfl, e_10⟩
  refine J.region ?_
  refine JL.qt (Qt.ia Tryz.underlying37 sz5 rfl rfl (by decide) (by rw [List.length_take]; omega)) rfl ?_
  refine JL.qt (Qt.ld_ro (j := 0) 0 pl5 rfl rfl rfl rfl) rfl ?_
  refine JL.qt (Qt.assign rfl) rfl ?_
  refine JL.nil ?_
  refine JN.code ?_
  refine J.region ?_
  refine JL.qt (Qt.move rfl) rfl ?_
  refine JL.qt (Qt.bin (fun _ => shl_run (by omega)) rfl rfl rfl) rfl ?_
  refine JL.qt (Qt.move rfl) rfl ?_
  refine JL.qt (Qt.conv (fun _ => conv_run Tryz.underlying5 Tryz.underlying3) rfl) rfl ?_
  refine JL.qt (Qt.bin (fun _ => or_run) rfl rfl rfl) rfl ?_
  refine JL.qt (Qt.assign rfl) rfl ?_
  refine JL.nil ?_
  refine JN.code ?_
  refine J.region ?_
  refine JL.qt (Qt.bin (fun _ => addN_run (c := 2) (by decide) (by decide) (by decide)) rfl rfl rfl) rfl ?_
  refine JL.qt (Qt.move rfl) rfl ?_
  refine JL.nil ?_
  refine JN.again ?_
  refine J.seq ?_
  refine J.region ?_
  refine JL.qt (Qt.bin (v := .bool true) (fun _ => by rw [lss_run]; congr 2; simp; omega) rfl rfl rfl) rfl ?_
  refine JL.nil ?_
  refine JN.code ?_
  refine J.seq ?_
  refine J.cond_true rfl ?_
  refine J.skip ?_
  refine JN.code ?_
  refine J.seq ?_
  refine J.block ?_
  refine J.seq ?_
  refine J.elemS (k := 2) (u := xs.getD 2 0) 2 rfl (take_getD (by omega) (by omega)) (fun cs_13 => ?_)
  refine J.unf0 1 rfl unInt ?_; rintro ⟨rfl, e_15⟩
  refine J.region ?_
  refine JL.qt (Qt.ia Tryz.underlying37 sz5 rfl rfl (by decide) (by rw [List.length_take]; omega)) rfl ?_
  refine JL.qt (Qt.ld_ro (j := 0) 0 pl5 rfl rfl rfl rfl) rfl ?_
  refine JL.qt (Qt.assign rfl) rfl ?_
  refine JL.nil ?_
  refine JN.code ?_
  refine J.region ?_
  refine JL.qt (Qt.move rfl) rfl ?_
  refine JL.qt (Qt.bin (fun _ => shl_run (by omega)) rfl rfl rfl) rfl ?_
  refine JL.qt (Qt.move rfl) rfl ?_
  refine JL.qt (Qt.conv (fun _ => conv_run Tryz.underlying5 Tryz.underlying3) rfl) rfl ?_
  refine JL.qt (Qt.bin (fun _ => or_run) rfl rfl rfl) rfl ?_
  refine JL.qt (Qt.assign rfl) rfl ?_
  refine JL.nil ?_
  refine JN.code ?_
  refine J.region ?_
  refine JL.qt (Qt.bin (fun _ => addN_run (c := 3) (by decide) (by decide) (by decide)) rfl rfl rfl) rfl ?_
  refine JL.qt (Qt.move rfl) rfl ?_
  refine JL.nil ?_
  refine JN.again ?_
  refine J.seq ?_
  refine J.region ?_
  refine JL.qt (Qt.bin (v := .bool true) (fun _ => by rw [lss_run]; congr 2; simp; omega) rfl rfl rfl) rfl ?_
  refine JL.nil ?_
  refine JN.code ?_
  refine J.seq ?_
  refine J.cond_true rfl ?_
  refine J.skip ?_
  refine JN.code ?_
  refine J.seq ?_
  refine J.block ?_
  refine J.seq ?_
  refine J.elemS (k := 3) (u := xs.getD 3 0) 3 rfl (take_getD (by omega) (by omega)) (fun cs_18 => ?_)
  refine J.unf0 1 rfl unInt ?_; rintro ⟨rfl, e_20⟩
  refine J.region ?_
  refine JL.qt (Qt.ia Tryz.underlying37 sz5 rfl rfl (by decide) (by rw [List.length_take]; omega)) rfl ?_
  refine JL.qt (Qt.ld_ro (j := 0) 0 pl5 rfl rfl rfl rfl) rfl ?_
  refine JL.qt (Qt.assign rfl) rfl ?_
  refine JL.nil ?_
  refine JN.code ?_
  refine J.region ?_
  refine JL.qt (Qt.move rfl) rfl ?_
  refine JL.qt (Qt.bin (fun _ => shl_run (by omega)) rfl rfl rfl) rfl ?_
  refine JL.qt (Qt.move rfl) rfl ?_
  refine JL.qt (Qt.conv (fun _ => conv_run Tryz.underlying5 Tryz.underlying3) rfl) rfl ?_
  refine JL.qt (Qt.bin (fun _ => or_run) rfl rfl rfl) rfl ?_
  refine JL.qt (Qt.assign rfl) rfl ?_
  refine JL.nil ?_
  refine JN.code ?_
  refine J.region ?_
  refine JL.qt (Qt.bin (fun _ => addN_run (c := 4) (by decide) (by decide) (by decide)) rfl rfl rfl) rfl ?_
  refine JL.qt (Qt.move rfl) rfl ?_
  refine JL.nil ?_
  refine JN.again ?_
  refine J.seq ?_
  refine J.region ?_
  refine JL.qt (Qt.bin (v := .bool false) (fun _ => by rw [lss_run]; congr 2; simp; omega) rfl rfl rfl) rfl ?_
  refine JL.nil ?_
  refine JN.code ?_
  refine J.seq ?_
  refine J.cond_false rfl ?_
  refine J.exit ?_
  refine JN.code ?_
  refine J.seq ?_
  refine J.region ?_
  refine JL.qt (Qt.move rfl) rfl ?_
  refine JL.qt (Qt.assign rfl) rfl ?_
  refine JL.qt (Qt.assign rfl) rfl ?_
  refine JL.nil ?_
  refine JN.code ?_
  refine J.ret ?_
  refine JN.back (res2 rfl rfl rfl) [5] rfl ?_
  exact ⟨by unfold f_get4; rw [if_neg h1] <;> rfl, rfl⟩
end Go.Proofs.YthjbkngecgbioaaGreatDoor.Sl

/- Walks: the cursor. -/
set_option maxRecDepth 100000
set_option linter.unusedSimpArgs false
set_option linter.unusedVariables false
namespace Go.Proofs.YthjbkngecgbioaaGreatDoor.Sl
open Go
theorem sp304 : structPl Tryz.prog 304 = some [(0, 1), (1, 1)] := by kernel_rfl
theorem ze304 : zeroTy Tryz.prog 304 = some [.slice none 0 0, .int .i64 0] := by kernel_rfl
theorem fo304_0 : fldOff Tryz.prog 304 0 = some 0 := by kernel_rfl
theorem fo304_1 : fldOff Tryz.prog 304 1 = some 1 := by kernel_rfl
theorem sz3 : szTy Tryz.prog 3 = some 1 := by kernel_rfl
theorem f_get1_ok {xs : List Int} (h : (f_get1 xs).2 = 0) : 1 ≤ xs.length := by
  unfold f_get1 at h
  split at h
  · cases h
  · omega
theorem f_get2_ok {xs : List Int} (h : (f_get2 xs).2 = 0) : 2 ≤ xs.length := by
  unfold f_get2 at h
  split at h
  · cases h
  · omega
theorem f_get4_ok {xs : List Int} (h : (f_get4 xs).2 = 0) : 4 ≤ xs.length := by
  unfold f_get4 at h
  split at h
  · cases h
  · omega
def f_num1 (xs : List Int) (k : Nat) : Int × Int × Nat := if ((f_get1 (xs.drop k)).2) = 0 then ((f_get1 (xs.drop k)).1, (f_get1 (xs.drop k)).2, k + 1) else ((f_get1 (xs.drop k)).1, (f_get1 (xs.drop k)).2, k)
def f_num2 (xs : List Int) (k : Nat) : Int × Int × Nat := if ((f_get2 (xs.drop k)).2) = 0 then ((f_get2 (xs.drop k)).1, (f_get2 (xs.drop k)).2, k + 2) else ((f_get2 (xs.drop k)).1, (f_get2 (xs.drop k)).2, k)
def f_num4 (xs : List Int) (k : Nat) : Int × Int × Nat := if ((f_get4 (xs.drop k)).2) = 0 then ((f_get4 (xs.drop k)).1, (f_get4 (xs.drop k)).2, k + 4) else ((f_get4 (xs.drop k)).1, (f_get4 (xs.drop k)).2, k)
def f_bytes (xs : List Int) (k : Nat) (n : Int) : List Int × Int × Nat := if n < 0 then ([], 1, k) else if n > (((xs.drop k).length : Nat) : Int) then ([], 3, k) else ((xs.drop k).take n.toNat, 0, k + n.toNat)
theorem s_curNew (A1 : Option Addr) (c1 : Nat) (xs : List Int) :
    Spec Tryz.prog 130 [.slice A1 xs.length c1].toArray [rd (Kd.int .u8) A1 c1 xs] (fun v L => ∃ (q : Nat), ∃ (A2 : Option Addr), ∃ (c2 : Nat), v = .pointer (some ⟨q, 0, none⟩) ∧ L = [blk q 304 [.slice A2 xs.length c2, .int .i64 ((0 : Nat) : Int)], rd (Kd.int .u8) A2 c2 xs, rd (Kd.int .u8) A1 c1 xs]) := by
  refine Spec.enter Tryz.func130 rfl Tryz.ntmps130 rfl rfl (fun w0 R0 F0 => ?_)
  refine J.seq ?_
  refine J.region ?_
  refine JL.qt (Qt.assign rfl) rfl ?_
  refine JL.nil ?_
  refine JN.code ?_
  refine J.seq ?_
  refine J.region ?_
  refine JL.qt (Qt.move rfl) rfl ?_
  refine JL.call (O1.call Tryz.func23 rfl rfl rfl [0] rfl (s_cloneB A1 c1 xs)) rfl ?_
  rintro _ _ ⟨A2_1, c2_2, rfl, rfl⟩
  refine JL.qt (Qt.build sp304 ze304 rfl rfl) rfl ?_
  refine JL.ef (O1.box rfl rfl) rfl ?_
  rintro _ _ ⟨b_3, rfl, rfl⟩
  refine JL.qt (Qt.assign rfl) rfl ?_
  refine JL.nil ?_
  refine JN.code ?_
  refine J.ret ?_
  refine JN.back (res1 rfl rfl) [0, 0, 0] rfl ?_
  exact ⟨_, _, _, rfl, rfl⟩
theorem s_rest (p : Nat) (A1 : Option Addr) (c1 : Nat) (xs : List Int) (k : Nat) (hk : k ≤ xs.length) :
    Spec Tryz.prog 162 [.pointer (some ⟨p, 0, none⟩)].toArray [blk p 304 [.slice A1 xs.length c1, .int .i64 (k : Int)], rd (Kd.int .u8) A1 c1 xs] (fun v L => v = .slice (cutA A1 c1 k 1) ((xs.drop k).length) (c1 - k) ∧ L = [blk p 304 [.slice A1 xs.length c1, .int .i64 (k : Int)], rd (Kd.int .u8) (cutA A1 c1 k 1) (c1 - k) (xs.drop k), rd (Kd.int .u8) A1 c1 xs]) := by
  refine Spec.enter Tryz.func162 rfl Tryz.ntmps162 rfl rfl (fun w0 R0 F0 => ?_)
  refine J.seq ?_
  refine J.region ?_
  refine JL.qt (Qt.assign rfl) rfl ?_
  refine JL.nil ?_
  refine JN.code ?_
  refine J.seq ?_
  refine J.seq ?_
  refine J.region ?_
  refine JL.qt (Qt.move rfl) rfl ?_
  refine JL.qt (Qt.bin (fun _ => nil_eql_run Tryz.underlying249) rfl rfl rfl) rfl ?_
  refine JL.nil ?_
  refine JN.code ?_
  refine J.cond_false rfl ?_
  refine J.skip ?_
  refine JN.code ?_
  refine J.seq ?_
  refine J.sch (.qt 0 (.qt 1 (.qt 2 (.qt 3 (.qt 4 (.qt 5 (.qt 6 (.qt 7 (.qt 8 (.qt 9 (.done))))))))))) mixed (by repeat (first | exact Xe.noLook_body | refine noLook_then ?_ | refine noLook_block ?_)) (by kernel_rfl) ?_
  refine JS.q0 rfl (Qt.move rfl) rfl ?_
  refine JS.q0 rfl (Qt.nck rfl) rfl ?_
  refine JS.q0 rfl (Qt.fa (o' := 0) fo304_0 rfl rfl) rfl ?_
  refine JS.q1 (j := 0) rfl rfl rfl (Qt.ld 0 pl37 rfl rfl rfl) rfl ?_
  refine JS.q0 rfl (Qt.move rfl) rfl ?_
  refine JS.q0 rfl (Qt.nck rfl) rfl ?_
  refine JS.q0 rfl (Qt.fa (o' := 1) fo304_1 rfl rfl) rfl ?_
  refine JS.q1 (j := 0) rfl rfl rfl (Qt.ld 0 pl3 rfl rfl rfl) rfl ?_
  refine JS.q0 rfl (Qt.cut Tryz.underlying37 sz5 rfl (Bnd.ln (lo := k) rfl (by omega))) rfl ?_
  refine JS.q0 rfl (Qt.assign rfl) rfl ?_
  refine JS.done ?_
  refine JN.code ?_
  refine J.ret ?_
  refine JN.upd [1] (L' := [rd (Kd.int .u8) (cutA A1 c1 k 1) (c1 - k) (xs.drop k), rd (Kd.int .u8) A1 c1 xs]) rfl (rd_drop hk) ?_
  refine JN.back (res1 rfl rfl) [2, 0, 0] rfl ?_
  exact ⟨by rw [List.length_drop], rfl⟩
theorem s_pass (p : Nat) (A1 : Option Addr) (c1 : Nat) (xs : List Int) (k : Nat) (n : Nat) (hk : k + n ≤ xs.length) :
    Spec Tryz.prog 163 [.pointer (some ⟨p, 0, none⟩), .int .i64 (n : Int)].toArray [blk p 304 [.slice A1 xs.length c1, .int .i64 (k : Int)], rd (Kd.int .u8) A1 c1 xs] (fun v L => v = .tuple #[] ∧ L = [blk p 304 [.slice A1 xs.length c1, .int .i64 ((k + n : Nat) : Int)], rd (Kd.int .u8) A1 c1 xs]) := by
  refine Spec.enter Tryz.func163 rfl Tryz.ntmps163 rfl rfl (fun w0 R0 F0 => ?_)
  refine J.seq ?_
  refine J.region ?_
  refine JL.qt (Qt.move rfl) rfl ?_
  refine JL.qt (Qt.bin (fun _ => nil_neq_run Tryz.underlying249) rfl rfl rfl) rfl ?_
  refine JL.nil ?_
  refine JN.code ?_
  refine J.cond_true rfl ?_
  refine J.region ?_
  refine JL.qt (Qt.move rfl) rfl ?_
  refine JL.qt (Qt.nck rfl) rfl ?_
  refine JL.qt (Qt.fa (o' := 1) fo304_1 rfl rfl) rfl ?_
  refine JL.qt (Qt.ld 0 pl3 rfl rfl rfl) rfl ?_
  refine JL.qt (Qt.move rfl) rfl ?_
  refine JL.tell 1 rfl rd_tell (fun ⟨ht1, ht2⟩ => ?_)
  refine JL.qt (Qt.bin (fun _ => addN_run rfl (by omega) (by omega)) rfl rfl rfl) rfl ?_
  refine JL.qt (Qt.nck rfl) rfl ?_
  refine JL.qt (Qt.fa (o' := 1) fo304_1 rfl rfl) rfl ?_
  refine JL.sk (O1.st 0 sz3 rfl rfl rfl rfl rfl rfl) ?_
  refine JL.nil ?_
  refine JN.back (res0 rfl) [0, 0] rfl ?_
  exact ⟨rfl, rfl⟩
theorem s_passI (p : Nat) (A1 : Option Addr) (c1 : Nat) (xs : List Int) (k : Nat) (n : Int) (h0 : 0 ≤ n) (hk : k + n.toNat ≤ xs.length) :
    Spec Tryz.prog 163 [.pointer (some ⟨p, 0, none⟩), .int .i64 n].toArray [blk p 304 [.slice A1 xs.length c1, .int .i64 (k : Int)], rd (Kd.int .u8) A1 c1 xs] (fun v L => v = .tuple #[] ∧ L = [blk p 304 [.slice A1 xs.length c1, .int .i64 ((k + n.toNat : Nat) : Int)], rd (Kd.int .u8) A1 c1 xs]) := by
  have := s_pass p A1 c1 xs k n.toNat hk
  rwa [Int.toNat_of_nonneg h0] at this
theorem s_left (p : Nat) (A1 : Option Addr) (c1 : Nat) (xs : List Int) (k : Nat) (hk : k ≤ xs.length) :
    Spec Tryz.prog 133 [.pointer (some ⟨p, 0, none⟩)].toArray [blk p 304 [.slice A1 xs.length c1, .int .i64 (k : Int)], rd (Kd.int .u8) A1 c1 xs] (fun v L => v = .int .i64 (((xs.drop k).length : Nat) : Int) ∧ L = [blk p 304 [.slice A1 xs.length c1, .int .i64 (k : Int)], rd (Kd.int .u8) A1 c1 xs]) := by
  refine Spec.enter Tryz.func133 rfl Tryz.ntmps133 rfl rfl (fun w0 R0 F0 => ?_)
  refine J.seq ?_
  refine J.region ?_
  refine JL.qt (Qt.assign rfl) rfl ?_
  refine JL.nil ?_
  refine JN.code ?_
  refine J.seq ?_
  refine J.region ?_
  refine JL.qt (Qt.move rfl) rfl ?_
  refine JL.call (O1.call Tryz.func162 rfl rfl rfl [0, 0] rfl (s_rest p A1 c1 xs k (by omega))) rfl ?_
  rintro _ _ ⟨rfl, rfl⟩
  refine JL.qt (Qt.bi (fun _ _ => len_slice_run Tryz.underlying37) rfl) rfl ?_
  refine JL.qt (Qt.assign rfl) rfl ?_
  refine JL.nil ?_
  refine JN.code ?_
  refine J.ret ?_
  refine JN.back (res1 rfl rfl) [0, 1] rfl ?_
  exact ⟨rfl, rfl⟩
theorem s_num1 (p : Nat) (A1 : Option Addr) (c1 : Nat) (xs : List Int) (k : Nat) (hk : k ≤ xs.length) :
    Spec Tryz.prog 137 [.pointer (some ⟨p, 0, none⟩), .int .i64 1].toArray [blk p 304 [.slice A1 xs.length c1, .int .i64 (k : Int)], rd (Kd.int .u8) A1 c1 xs] (fun v L => v = .tuple #[.int .i64 ((f_num1 xs k).1), .int .i64 ((f_num1 xs k).2.1)] ∧ L = [blk p 304 [.slice A1 xs.length c1, .int .i64 (((f_num1 xs k).2.2) : Int)], rd (Kd.int .u8) A1 c1 xs]) := by
  refine Spec.enter Tryz.func137 rfl Tryz.ntmps137 rfl rfl (fun w0 R0 F0 => ?_)
  refine J.seq ?_
  refine J.region ?_
  refine JL.qt (Qt.assign rfl) rfl ?_
  refine JL.qt (Qt.assign rfl) rfl ?_
  refine JL.nil ?_
  refine JN.code ?_
  refine J.seq ?_
  refine J.region ?_
  refine JL.qt (Qt.move rfl) rfl ?_
  refine JL.call (O1.call Tryz.func162 rfl rfl rfl [0, 0] rfl (s_rest p A1 c1 xs k (by omega))) rfl ?_
  rintro _ _ ⟨rfl, rfl⟩
  refine JL.qt (Qt.move rfl) rfl ?_
  refine JL.call (O1.call Tryz.func164 rfl rfl rfl [1] rfl (s_get1 (cutA A1 c1 k 1) (c1 - k) (xs.drop k))) rfl ?_
  rintro _ _ ⟨rfl, rfl⟩
  refine JL.qt (Qt.move rfl) rfl ?_
  refine JL.qt (Qt.extract rfl rfl) rfl ?_
  refine JL.qt (Qt.extract rfl rfl) rfl ?_
  refine JL.qt (Qt.assign rfl) rfl ?_
  refine JL.qt (Qt.assign rfl) rfl ?_
  refine JL.nil ?_
  refine JN.code ?_
  refine J.seq ?_
  refine J.seq ?_
  refine J.region ?_
  refine JL.qt (Qt.move rfl) rfl ?_
  refine JL.qt (Qt.bin (fun _ => eql_run) rfl rfl rfl) rfl ?_
  refine JL.nil ?_
  refine JN.code ?_
  refine J.cond_eq rfl (fun h1 => ?_) (fun h1 => ?_)
  · refine J.region ?_
    refine JL.qt (Qt.move rfl) rfl ?_
    refine JL.qt (Qt.move rfl) rfl ?_
    refine JL.call (O1.call Tryz.func163 rfl rfl rfl [1, 1] rfl (s_pass p A1 c1 xs k 1 (by have := f_get1_ok h1; rw [List.length_drop] at this; omega))) rfl ?_
    rintro _ _ ⟨rfl, rfl⟩
    refine JL.nil ?_
    refine JN.code ?_
    refine J.seq ?_
    refine J.region ?_
    refine JL.qt (Qt.move rfl) rfl ?_
    refine JL.qt (Qt.move rfl) rfl ?_
    refine JL.qt (Qt.assign rfl) rfl ?_
    refine JL.qt (Qt.assign rfl) rfl ?_
    refine JL.nil ?_
    refine JN.code ?_
    refine J.ret ?_
    refine JN.back (res2 rfl rfl rfl) [0, 0] rfl ?_
    exact ⟨by unfold f_num1; rw [if_pos h1] <;> rfl, by unfold f_num1; rw [if_pos h1] <;> rfl⟩
  refine J.skip ?_
  refine JN.code ?_
  refine J.seq ?_
  refine J.region ?_
  refine JL.qt (Qt.move rfl) rfl ?_
  refine JL.qt (Qt.move rfl) rfl ?_
  refine JL.qt (Qt.assign rfl) rfl ?_
  refine JL.qt (Qt.assign rfl) rfl ?_
  refine JL.nil ?_
  refine JN.code ?_
  refine J.ret ?_
  refine JN.back (res2 rfl rfl rfl) [1, 1] rfl ?_
  exact ⟨by unfold f_num1; rw [if_neg h1] <;> rfl, by unfold f_num1; rw [if_neg h1] <;> rfl⟩
theorem s_num2 (p : Nat) (A1 : Option Addr) (c1 : Nat) (xs : List Int) (k : Nat) (hk : k ≤ xs.length) :
    Spec Tryz.prog 137 [.pointer (some ⟨p, 0, none⟩), .int .i64 2].toArray [blk p 304 [.slice A1 xs.length c1, .int .i64 (k : Int)], rd (Kd.int .u8) A1 c1 xs] (fun v L => v = .tuple #[.int .i64 ((f_num2 xs k).1), .int .i64 ((f_num2 xs k).2.1)] ∧ L = [blk p 304 [.slice A1 xs.length c1, .int .i64 (((f_num2 xs k).2.2) : Int)], rd (Kd.int .u8) A1 c1 xs]) := by
  refine Spec.enter Tryz.func137 rfl Tryz.ntmps137 rfl rfl (fun w0 R0 F0 => ?_)
  refine J.seq ?_
  refine J.region ?_
  refine JL.qt (Qt.assign rfl) rfl ?_
  refine JL.qt (Qt.assign rfl) rfl ?_
  refine JL.nil ?_
  refine JN.code ?_
  refine J.seq ?_
  refine J.region ?_
  refine JL.qt (Qt.move rfl) rfl ?_
  refine JL.call (O1.call Tryz.func162 rfl rfl rfl [0, 0] rfl (s_rest p A1 c1 xs k (by omega))) rfl ?_
  rintro _ _ ⟨rfl, rfl⟩
  refine JL.qt (Qt.move rfl) rfl ?_
  refine JL.call (O1.call Tryz.func164 rfl rfl rfl [1] rfl (s_get2 (cutA A1 c1 k 1) (c1 - k) (xs.drop k))) rfl ?_
  rintro _ _ ⟨rfl, rfl⟩
  refine JL.qt (Qt.move rfl) rfl ?_
  refine JL.qt (Qt.extract rfl rfl) rfl ?_
  refine JL.qt (Qt.extract rfl rfl) rfl ?_
  refine JL.qt (Qt.assign rfl) rfl ?_
  refine JL.qt (Qt.assign rfl) rfl ?_
  refine JL.nil ?_
  refine JN.code ?_
  refine J.seq ?_
  refine J.seq ?_
  refine J.region ?_
  refine JL.qt (Qt.move rfl) rfl ?_
  refine JL.qt (Qt.bin (fun _ => eql_run) rfl rfl rfl) rfl ?_
  refine JL.nil ?_
  refine JN.code ?_
  refine J.cond_eq rfl (fun h1 => ?_) (fun h1 => ?_)
  · refine J.region ?_
    refine JL.qt (Qt.move rfl) rfl ?_
    refine JL.qt (Qt.move rfl) rfl ?_
    refine JL.call (O1.call Tryz.func163 rfl rfl rfl [1, 1] rfl (s_pass p A1 c1 xs k 2 (by have := f_get2_ok h1; rw [List.length_drop] at this; omega))) rfl ?_
    rintro _ _ ⟨rfl, rfl⟩
    refine JL.nil ?_
    refine JN.code ?_
    refine J.seq ?_
    refine J.region ?_
    refine JL.qt (Qt.move rfl) rfl ?_
    refine JL.qt (Qt.move rfl) rfl ?_
    refine JL.qt (Qt.assign rfl) rfl ?_
    refine JL.qt (Qt.assign rfl) rfl ?_
    refine JL.nil ?_
    refine JN.code ?_
    refine J.ret ?_
    refine JN.back (res2 rfl rfl rfl) [0, 0] rfl ?_
    exact ⟨by unfold f_num2; rw [if_pos h1] <;> rfl, by unfold f_num2; rw [if_pos h1] <;> rfl⟩
  refine J.skip ?_
  refine JN.code ?_
  refine J.seq ?_
  refine J.region ?_
  refine JL.qt (Qt.move rfl) rfl ?_
  refine JL.qt (Qt.move rfl) rfl ?_
  refine JL.qt (Qt.assign rfl) rfl ?_
  refine JL.qt (Qt.assign rfl) rfl ?_
  refine JL.nil ?_
  refine JN.code ?_
  refine J.ret ?_
  refine JN.back (res2 rfl rfl rfl) [1, 1] rfl ?_
  exact ⟨by unfold f_num2; rw [if_neg h1] <;> rfl, by unfold f_num2; rw [if_neg h1] <;> rfl⟩
theorem s_num4 (p : Nat) (A1 : Option Addr) (c1 : Nat) (xs : List Int) (k : Nat) (hk : k ≤ xs.length) :
    Spec Tryz.prog 137 [.pointer (some ⟨p, 0, none⟩), .int .i64 4].toArray [blk p 304 [.slice A1 xs.length c1, .int .i64 (k : Int)], rd (Kd.int .u8) A1 c1 xs] (fun v L => v = .tuple #[.int .i64 ((f_num4 xs k).1), .int .i64 ((f_num4 xs k).2.1)] ∧ L = [blk p 304 [.slice A1 xs.length c1, .int .i64 (((f_num4 xs k).2.2) : Int)], rd (Kd.int .u8) A1 c1 xs]) := by
  refine Spec.enter Tryz.func137 rfl Tryz.ntmps137 rfl rfl (fun w0 R0 F0 => ?_)
  refine J.seq ?_
  refine J.region ?_
  refine JL.qt (Qt.assign rfl) rfl ?_
  refine JL.qt (Qt.assign rfl) rfl ?_
  refine JL.nil ?_
  refine JN.code ?_
  refine J.seq ?_
  refine J.region ?_
  refine JL.qt (Qt.move rfl) rfl ?_
  refine JL.call (O1.call Tryz.func162 rfl rfl rfl [0, 0] rfl (s_rest p A1 c1 xs k (by omega))) rfl ?_
  rintro _ _ ⟨rfl, rfl⟩
  refine JL.qt (Qt.move rfl) rfl ?_
  refine JL.call (O1.call Tryz.func164 rfl rfl rfl [1] rfl (s_get4 (cutA A1 c1 k 1) (c1 - k) (xs.drop k))) rfl ?_
  rintro _ _ ⟨rfl, rfl⟩
  refine JL.qt (Qt.move rfl) rfl ?_
  refine JL.qt (Qt.extract rfl rfl) rfl ?_
  refine JL.qt (Qt.extract rfl rfl) rfl ?_
  refine JL.qt (Qt.assign rfl) rfl ?_
  refine JL.qt (Qt.assign rfl) rfl ?_
  refine JL.nil ?_
  refine JN.code ?_
  refine J.seq ?_
  refine J.seq ?_
  refine J.region ?_
  refine JL.qt (Qt.move rfl) rfl ?_
  refine JL.qt (Qt.bin (fun _ => eql_run) rfl rfl rfl) rfl ?_
  refine JL.nil ?_
  refine JN.code ?_
  refine J.cond_eq rfl (fun h1 => ?_) (fun h1 => ?_)
  · refine J.region ?_
    refine JL.qt (Qt.move rfl) rfl ?_
    refine JL.qt (Qt.move rfl) rfl ?_
    refine JL.call (O1.call Tryz.func163 rfl rfl rfl [1, 1] rfl (s_pass p A1 c1 xs k 4 (by have := f_get4_ok h1; rw [List.length_drop] at this; omega))) rfl ?_
    rintro _ _ ⟨rfl, rfl⟩
    refine JL.nil ?_
    refine JN.code ?_
    refine J.seq ?_
    refine J.region ?_
    refine JL.qt (Qt.move rfl) rfl ?_
    refine JL.qt (Qt.move rfl) rfl ?_
    refine JL.qt (Qt.assign rfl) rfl ?_
    refine JL.qt (Qt.assign rfl) rfl ?_
    refine JL.nil ?_
    refine JN.code ?_
    refine J.ret ?_
    refine JN.back (res2 rfl rfl rfl) [0, 0] rfl ?_
    exact ⟨by unfold f_num4; rw [if_pos h1] <;> rfl, by unfold f_num4; rw [if_pos h1] <;> rfl⟩
  refine J.skip ?_
  refine JN.code ?_
  refine J.seq ?_
  refine J.region ?_
  refine JL.qt (Qt.move rfl) rfl ?_
  refine JL.qt (Qt.move rfl) rfl ?_
  refine JL.qt (Qt.assign rfl) rfl ?_
  refine JL.qt (Qt.assign rfl) rfl ?_
  refine JL.nil ?_
  refine JN.code ?_
  refine J.ret ?_
  refine JN.back (res2 rfl rfl rfl) [1, 1] rfl ?_
  exact ⟨by unfold f_num4; rw [if_neg h1] <;> rfl, by unfold f_num4; rw [if_neg h1] <;> rfl⟩
theorem s_bytes (p : Nat) (A1 : Option Addr) (c1 : Nat) (xs : List Int) (k : Nat) (n : Int) (hk : k ≤ xs.length) :
    Spec Tryz.prog 135 [.pointer (some ⟨p, 0, none⟩), .int .i64 n].toArray [blk p 304 [.slice A1 xs.length c1, .int .i64 (k : Int)], rd (Kd.int .u8) A1 c1 xs] (fun v L => ∃ (A2 : Option Addr), ∃ (c2 : Nat), v = .tuple #[.slice A2 (((f_bytes xs k n).1).length) c2, .int .i64 ((f_bytes xs k n).2.1)] ∧ L = [blk p 304 [.slice A1 xs.length c1, .int .i64 (((f_bytes xs k n).2.2) : Int)], rd (Kd.int .u8) A2 c2 ((f_bytes xs k n).1), rd (Kd.int .u8) A1 c1 xs]) := by
  refine Spec.enter Tryz.func135 rfl Tryz.ntmps135 rfl rfl (fun w0 R0 F0 => ?_)
  refine J.seq ?_
  refine J.region ?_
  refine JL.qt (Qt.assign rfl) rfl ?_
  refine JL.qt (Qt.assign rfl) rfl ?_
  refine JL.nil ?_
  refine JN.code ?_
  refine J.seq ?_
  refine J.block ?_
  refine J.seq ?_
  refine J.region ?_
  refine JL.qt (Qt.move rfl) rfl ?_
  refine JL.qt (Qt.bin (fun _ => lss_run) rfl rfl rfl) rfl ?_
  refine JL.qt (Qt.assign rfl) rfl ?_
  refine JL.nil ?_
  refine JN.code ?_
  refine J.cond_dec rfl (fun h1 => ?_) (fun h1 => ?_)
  · refine J.seq ?_
    refine J.region ?_
    refine JL.qt (Qt.assign rfl) rfl ?_
    refine JL.qt (Qt.assign rfl) rfl ?_
    refine JL.nil ?_
    refine JN.code ?_
    refine J.ret ?_
    refine JN.intro_pers (p := rd (Kd.int .u8) none 0 []) (fun w R => rd_nil' w R) ?_
    refine JN.back (res2 rfl rfl rfl) [1, 0, 0] rfl ?_
    exact ⟨none, 0, by unfold f_bytes; rw [if_pos h1] <;> rfl, by unfold f_bytes; rw [if_pos h1] <;> rfl⟩
  refine J.seq ?_
  refine J.region ?_
  refine JL.qt (Qt.move rfl) rfl ?_
  refine JL.qt (Qt.move rfl) rfl ?_
  refine JL.call (O1.call Tryz.func133 rfl rfl rfl [0, 0] rfl (s_left p A1 c1 xs k (by omega))) rfl ?_
  rintro _ _ ⟨rfl, rfl⟩
  refine JL.qt (Qt.bin (fun _ => gtr_run) rfl rfl rfl) rfl ?_
  refine JL.qt (Qt.assign rfl) rfl ?_
  refine JL.nil ?_
  refine JN.code ?_
  refine J.cond_dec rfl (fun h2 => ?_) (fun h2 => ?_)
  · refine J.seq ?_
    refine J.region ?_
    refine JL.qt (Qt.assign rfl) rfl ?_
    refine JL.qt (Qt.assign rfl) rfl ?_
    refine JL.nil ?_
    refine JN.code ?_
    refine J.ret ?_
    refine JN.intro_pers (p := rd (Kd.int .u8) none 0 []) (fun w R => rd_nil' w R) ?_
    refine JN.back (res2 rfl rfl rfl) [1, 0, 0] rfl ?_
    exact ⟨none, 0, by unfold f_bytes; rw [if_neg h1, if_pos h2] <;> rfl, by unfold f_bytes; rw [if_neg h1, if_pos h2] <;> rfl⟩
  refine J.skip ?_
  refine JN.code ?_
  refine J.seq ?_
  refine J.region ?_
  refine JL.qt (Qt.move rfl) rfl ?_
  refine JL.call (O1.call Tryz.func162 rfl rfl rfl [0, 0] rfl (s_rest p A1 c1 xs k (by omega))) rfl ?_
  rintro _ _ ⟨rfl, rfl⟩
  refine JL.qt (Qt.move rfl) rfl ?_
  refine JL.tell 1 rfl rd_tell (fun ⟨ht1, ht2⟩ => ?_)
  refine JL.qt (Qt.cut Tryz.underlying37 sz5 rfl (Bnd.nhI rfl (by omega) (by omega))) rfl ?_
  refine JL.upd [1] (L' := [rd (Kd.int .u8) (cutA (cutA A1 c1 k 1) (c1 - k) 0 1) ((c1 - k) - 0) ((xs.drop k).take n.toNat), rd (Kd.int .u8) (cutA A1 c1 k 1) (c1 - k) (xs.drop k)]) rfl (rd_take (hi := n.toNat) (by omega)) ?_
  refine JL.upd_env (t := 18) (v' := .slice (cutA (cutA A1 c1 k 1) (c1 - k) 0 1) (((xs.drop k).take n.toNat).length) ((c1 - k) - 0)) rfl (by congr 1; simp only [List.length_take, List.length_drop] at *; omega) ?_
  refine JL.call (O1.call Tryz.func23 rfl rfl rfl [0] rfl (s_cloneB (cutA (cutA A1 c1 k 1) (c1 - k) 0 1) ((c1 - k) - 0) ((xs.drop k).take n.toNat))) rfl ?_
  rintro _ _ ⟨A2_1, c2_2, rfl, rfl⟩
  refine JL.qt (Qt.assign rfl) rfl ?_
  refine JL.nil ?_
  refine JN.code ?_
  refine J.seq ?_
  refine J.region ?_
  refine JL.qt (Qt.move rfl) rfl ?_
  refine JL.qt (Qt.move rfl) rfl ?_
  refine JL.call (O1.call Tryz.func163 rfl rfl rfl [3, 3] rfl (s_passI p A1 c1 xs k n (by omega) (by rw [List.length_drop] at *; omega))) rfl ?_
  rintro _ _ ⟨rfl, rfl⟩
  refine JL.nil ?_
  refine JN.code ?_
  refine J.seq ?_
  refine J.region ?_
  refine JL.qt (Qt.move rfl) rfl ?_
  refine JL.qt (Qt.assign rfl) rfl ?_
  refine JL.qt (Qt.assign rfl) rfl ?_
  refine JL.nil ?_
  refine JN.code ?_
  refine J.ret ?_
  refine JN.back (res2 rfl rfl rfl) [0, 1, 0] rfl ?_
  exact ⟨A2_1, c2_2, by unfold f_bytes; rw [if_neg h1, if_neg h2] <;> rfl, by unfold f_bytes; rw [if_neg h1, if_neg h2] <;> rfl⟩
end Go.Proofs.YthjbkngecgbioaaGreatDoor.Sl

/- Walks: the reader. -/
set_option maxRecDepth 100000
set_option linter.unusedSimpArgs false
set_option linter.unusedVariables false
namespace Go.Proofs.YthjbkngecgbioaaGreatDoor.Sl
open Go
theorem pl249 : plainTy Tryz.prog 249 = true := by kernel_rfl
theorem fo252_0 : fldOff Tryz.prog 252 0 = some 0 := by kernel_rfl
theorem fo252_1 : fldOff Tryz.prog 252 1 = some 1 := by kernel_rfl
def f_rn1 (xs : List Int) (k : Nat) (sh : Bool) : Int × Bool × Nat := if sh = true then ((f_num1 xs k).1, true, (f_num1 xs k).2.2) else ((f_num1 xs k).1, ((f_num1 xs k).2.1) != 0, (f_num1 xs k).2.2)
def f_rn4 (xs : List Int) (k : Nat) (sh : Bool) : Int × Bool × Nat := if sh = true then ((f_num4 xs k).1, true, (f_num4 xs k).2.2) else ((f_num4 xs k).1, ((f_num4 xs k).2.1) != 0, (f_num4 xs k).2.2)
def f_rlow (xs : List Int) (k : Nat) (sh : Bool) : Int × Bool × Bool × Nat := ((f_octet_Low ((f_rn4 xs k sh).1)).1, (f_octet_Low ((f_rn4 xs k sh).1)).2, (f_rn4 xs k sh).2.1, (f_rn4 xs k sh).2.2)
def f_rw (xs : List Int) (k : Nat) (sh : Bool) (fr : ApiFrame) : ApiFrame × Bool × Nat := ((⟨fr.Type_, fr.Flags, fr.Stream, fr.Pad, [], [], (f_rn1 xs ((f_rlow xs k sh).2.2.2) ((f_rlow xs k sh).2.2.1)).1, (f_rlow xs k sh).1, (f_rlow xs k sh).2.1, fr.Promised, fr.Last, fr.Code, fr.Step⟩ : ApiFrame), (f_rn1 xs ((f_rlow xs k sh).2.2.2) ((f_rlow xs k sh).2.2.1)).2.1, (f_rn1 xs ((f_rlow xs k sh).2.2.2) ((f_rlow xs k sh).2.2.1)).2.2)
def f_rns (xs : List Int) (k : Nat) (sh : Bool) (fr : ApiFrame) : ApiFrame × Bool × Nat := if fr.Type_ = 1 then if (f_kinds_Has fr.Type_ fr.Flags 32) = true then ((⟨(((f_rw xs k sh (⟨fr.Type_, fr.Flags, fr.Stream, fr.Pad, [], [], fr.Weight, fr.Parent, fr.Alone, fr.Promised, fr.Last, fr.Code, fr.Step⟩ : ApiFrame)).1).Type_), (((f_rw xs k sh (⟨fr.Type_, fr.Flags, fr.Stream, fr.Pad, [], [], fr.Weight, fr.Parent, fr.Alone, fr.Promised, fr.Last, fr.Code, fr.Step⟩ : ApiFrame)).1).Flags), (((f_rw xs k sh (⟨fr.Type_, fr.Flags, fr.Stream, fr.Pad, [], [], fr.Weight, fr.Parent, fr.Alone, fr.Promised, fr.Last, fr.Code, fr.Step⟩ : ApiFrame)).1).Stream), (((f_rw xs k sh (⟨fr.Type_, fr.Flags, fr.Stream, fr.Pad, [], [], fr.Weight, fr.Parent, fr.Alone, fr.Promised, fr.Last, fr.Code, fr.Step⟩ : ApiFrame)).1).Pad), [], [], (((f_rw xs k sh (⟨fr.Type_, fr.Flags, fr.Stream, fr.Pad, [], [], fr.Weight, fr.Parent, fr.Alone, fr.Promised, fr.Last, fr.Code, fr.Step⟩ : ApiFrame)).1).Weight), (((f_rw xs k sh (⟨fr.Type_, fr.Flags, fr.Stream, fr.Pad, [], [], fr.Weight, fr.Parent, fr.Alone, fr.Promised, fr.Last, fr.Code, fr.Step⟩ : ApiFrame)).1).Parent), (((f_rw xs k sh (⟨fr.Type_, fr.Flags, fr.Stream, fr.Pad, [], [], fr.Weight, fr.Parent, fr.Alone, fr.Promised, fr.Last, fr.Code, fr.Step⟩ : ApiFrame)).1).Alone), (((f_rw xs k sh (⟨fr.Type_, fr.Flags, fr.Stream, fr.Pad, [], [], fr.Weight, fr.Parent, fr.Alone, fr.Promised, fr.Last, fr.Code, fr.Step⟩ : ApiFrame)).1).Promised), (((f_rw xs k sh (⟨fr.Type_, fr.Flags, fr.Stream, fr.Pad, [], [], fr.Weight, fr.Parent, fr.Alone, fr.Promised, fr.Last, fr.Code, fr.Step⟩ : ApiFrame)).1).Last), (((f_rw xs k sh (⟨fr.Type_, fr.Flags, fr.Stream, fr.Pad, [], [], fr.Weight, fr.Parent, fr.Alone, fr.Promised, fr.Last, fr.Code, fr.Step⟩ : ApiFrame)).1).Code), (((f_rw xs k sh (⟨fr.Type_, fr.Flags, fr.Stream, fr.Pad, [], [], fr.Weight, fr.Parent, fr.Alone, fr.Promised, fr.Last, fr.Code, fr.Step⟩ : ApiFrame)).1).Step)⟩ : ApiFrame), ((f_rw xs k sh (⟨fr.Type_, fr.Flags, fr.Stream, fr.Pad, [], [], fr.Weight, fr.Parent, fr.Alone, fr.Promised, fr.Last, fr.Code, fr.Step⟩ : ApiFrame)).2.1), ((f_rw xs k sh (⟨fr.Type_, fr.Flags, fr.Stream, fr.Pad, [], [], fr.Weight, fr.Parent, fr.Alone, fr.Promised, fr.Last, fr.Code, fr.Step⟩ : ApiFrame)).2.2)) else ((⟨fr.Type_, fr.Flags, fr.Stream, fr.Pad, [], [], fr.Weight, fr.Parent, fr.Alone, fr.Promised, fr.Last, fr.Code, fr.Step⟩ : ApiFrame), sh, k) else if fr.Type_ = 2 then ((⟨(((f_rw xs k sh (⟨fr.Type_, fr.Flags, fr.Stream, fr.Pad, [], [], fr.Weight, fr.Parent, fr.Alone, fr.Promised, fr.Last, fr.Code, fr.Step⟩ : ApiFrame)).1).Type_), (((f_rw xs k sh (⟨fr.Type_, fr.Flags, fr.Stream, fr.Pad, [], [], fr.Weight, fr.Parent, fr.Alone, fr.Promised, fr.Last, fr.Code, fr.Step⟩ : ApiFrame)).1).Flags), (((f_rw xs k sh (⟨fr.Type_, fr.Flags, fr.Stream, fr.Pad, [], [], fr.Weight, fr.Parent, fr.Alone, fr.Promised, fr.Last, fr.Code, fr.Step⟩ : ApiFrame)).1).Stream), (((f_rw xs k sh (⟨fr.Type_, fr.Flags, fr.Stream, fr.Pad, [], [], fr.Weight, fr.Parent, fr.Alone, fr.Promised, fr.Last, fr.Code, fr.Step⟩ : ApiFrame)).1).Pad), [], [], (((f_rw xs k sh (⟨fr.Type_, fr.Flags, fr.Stream, fr.Pad, [], [], fr.Weight, fr.Parent, fr.Alone, fr.Promised, fr.Last, fr.Code, fr.Step⟩ : ApiFrame)).1).Weight), (((f_rw xs k sh (⟨fr.Type_, fr.Flags, fr.Stream, fr.Pad, [], [], fr.Weight, fr.Parent, fr.Alone, fr.Promised, fr.Last, fr.Code, fr.Step⟩ : ApiFrame)).1).Parent), (((f_rw xs k sh (⟨fr.Type_, fr.Flags, fr.Stream, fr.Pad, [], [], fr.Weight, fr.Parent, fr.Alone, fr.Promised, fr.Last, fr.Code, fr.Step⟩ : ApiFrame)).1).Alone), (((f_rw xs k sh (⟨fr.Type_, fr.Flags, fr.Stream, fr.Pad, [], [], fr.Weight, fr.Parent, fr.Alone, fr.Promised, fr.Last, fr.Code, fr.Step⟩ : ApiFrame)).1).Promised), (((f_rw xs k sh (⟨fr.Type_, fr.Flags, fr.Stream, fr.Pad, [], [], fr.Weight, fr.Parent, fr.Alone, fr.Promised, fr.Last, fr.Code, fr.Step⟩ : ApiFrame)).1).Last), (((f_rw xs k sh (⟨fr.Type_, fr.Flags, fr.Stream, fr.Pad, [], [], fr.Weight, fr.Parent, fr.Alone, fr.Promised, fr.Last, fr.Code, fr.Step⟩ : ApiFrame)).1).Code), (((f_rw xs k sh (⟨fr.Type_, fr.Flags, fr.Stream, fr.Pad, [], [], fr.Weight, fr.Parent, fr.Alone, fr.Promised, fr.Last, fr.Code, fr.Step⟩ : ApiFrame)).1).Step)⟩ : ApiFrame), ((f_rw xs k sh (⟨fr.Type_, fr.Flags, fr.Stream, fr.Pad, [], [], fr.Weight, fr.Parent, fr.Alone, fr.Promised, fr.Last, fr.Code, fr.Step⟩ : ApiFrame)).2.1), ((f_rw xs k sh (⟨fr.Type_, fr.Flags, fr.Stream, fr.Pad, [], [], fr.Weight, fr.Parent, fr.Alone, fr.Promised, fr.Last, fr.Code, fr.Step⟩ : ApiFrame)).2.2)) else if fr.Type_ = 3 then ((⟨fr.Type_, fr.Flags, fr.Stream, fr.Pad, [], [], fr.Weight, fr.Parent, fr.Alone, fr.Promised, fr.Last, (f_rn4 xs k sh).1, fr.Step⟩ : ApiFrame), (f_rn4 xs k sh).2.1, (f_rn4 xs k sh).2.2) else if fr.Type_ = 5 then ((⟨fr.Type_, fr.Flags, fr.Stream, fr.Pad, [], [], fr.Weight, fr.Parent, fr.Alone, (f_rlow xs k sh).1, fr.Last, fr.Code, fr.Step⟩ : ApiFrame), (f_rlow xs k sh).2.2.1, (f_rlow xs k sh).2.2.2) else if fr.Type_ = 7 then ((⟨fr.Type_, fr.Flags, fr.Stream, fr.Pad, [], [], fr.Weight, fr.Parent, fr.Alone, fr.Promised, (f_rlow xs k sh).1, (f_rn4 xs ((f_rlow xs k sh).2.2.2) ((f_rlow xs k sh).2.2.1)).1, fr.Step⟩ : ApiFrame), (f_rn4 xs ((f_rlow xs k sh).2.2.2) ((f_rlow xs k sh).2.2.1)).2.1, (f_rn4 xs ((f_rlow xs k sh).2.2.2) ((f_rlow xs k sh).2.2.1)).2.2) else if fr.Type_ = 8 then ((⟨fr.Type_, fr.Flags, fr.Stream, fr.Pad, [], [], fr.Weight, fr.Parent, fr.Alone, fr.Promised, fr.Last, fr.Code, (f_rlow xs k sh).1⟩ : ApiFrame), (f_rlow xs k sh).2.2.1, (f_rlow xs k sh).2.2.2) else ((⟨fr.Type_, fr.Flags, fr.Stream, fr.Pad, [], [], fr.Weight, fr.Parent, fr.Alone, fr.Promised, fr.Last, fr.Code, fr.Step⟩ : ApiFrame), sh, k)
theorem f_num1_le {xs : List Int} {k : Nat} (h : k ≤ xs.length) : (f_num1 xs k).2.2 ≤ xs.length := by
  unfold f_num1
  split
  · rename_i h1; have := f_get1_ok h1; rw [List.length_drop] at this; dsimp only; omega
  · exact h
theorem f_num2_le {xs : List Int} {k : Nat} (h : k ≤ xs.length) : (f_num2 xs k).2.2 ≤ xs.length := by
  unfold f_num2
  split
  · rename_i h1; have := f_get2_ok h1; rw [List.length_drop] at this; dsimp only; omega
  · exact h
theorem f_num4_le {xs : List Int} {k : Nat} (h : k ≤ xs.length) : (f_num4 xs k).2.2 ≤ xs.length := by
  unfold f_num4
  split
  · rename_i h1; have := f_get4_ok h1; rw [List.length_drop] at this; dsimp only; omega
  · exact h
theorem f_rn1_le {xs : List Int} {k : Nat} {sh : Bool} (h : k ≤ xs.length) : (f_rn1 xs k sh).2.2 ≤ xs.length := by
  unfold f_rn1; split <;> exact f_num1_le h
theorem f_rn4_le {xs : List Int} {k : Nat} {sh : Bool} (h : k ≤ xs.length) : (f_rn4 xs k sh).2.2 ≤ xs.length := by
  unfold f_rn4; split <;> exact f_num4_le h
theorem f_rlow_le {xs : List Int} {k : Nat} {sh : Bool} (h : k ≤ xs.length) : (f_rlow xs k sh).2.2.2 ≤ xs.length := by
  unfold f_rlow; exact f_rn4_le h
theorem s_rn1 (q : Nat) (p : Nat) (A1 : Option Addr) (c1 : Nat) (xs : List Int) (k : Nat) (sh : Bool) (hk : k ≤ xs.length) :
    Spec Tryz.prog 131 [.pointer (some ⟨q, 0, none⟩), .int .i64 1].toArray [blk q 252 [.pointer (some ⟨p, 0, none⟩), .bool sh], blk p 304 [.slice A1 xs.length c1, .int .i64 (k : Int)], rd (Kd.int .u8) A1 c1 xs] (fun v L => v = .int .i64 ((f_rn1 xs k sh).1) ∧ L = [blk q 252 [.pointer (some ⟨p, 0, none⟩), .bool ((f_rn1 xs k sh).2.1)], blk p 304 [.slice A1 xs.length c1, .int .i64 (((f_rn1 xs k sh).2.2) : Int)], rd (Kd.int .u8) A1 c1 xs]) := by
  refine Spec.enter Tryz.func131 rfl Tryz.ntmps131 rfl rfl (fun w0 R0 F0 => ?_)
  refine J.seq ?_
  refine J.region ?_
  refine JL.qt (Qt.assign rfl) rfl ?_
  refine JL.nil ?_
  refine JN.code ?_
  refine J.seq ?_
  refine J.region ?_
  refine JL.qt (Qt.move rfl) rfl ?_
  refine JL.qt (Qt.nck rfl) rfl ?_
  refine JL.qt (Qt.fa (o' := 0) fo252_0 rfl rfl) rfl ?_
  refine JL.qt (Qt.ld 0 pl249 rfl rfl rfl) rfl ?_
  refine JL.qt (Qt.move rfl) rfl ?_
  refine JL.call (O1.call Tryz.func137 rfl rfl rfl [1, 1] rfl (s_num1 p A1 c1 xs k (by omega))) rfl ?_
  rintro _ _ ⟨rfl, rfl⟩
  refine JL.qt (Qt.move rfl) rfl ?_
  refine JL.qt (Qt.extract rfl rfl) rfl ?_
  refine JL.qt (Qt.extract rfl rfl) rfl ?_
  refine JL.qt (Qt.assign rfl) rfl ?_
  refine JL.qt (Qt.assign rfl) rfl ?_
  refine JL.nil ?_
  refine JN.code ?_
  refine J.seq ?_
  refine J.region ?_
  refine JL.qt (Qt.move rfl) rfl ?_
  refine JL.qt (Qt.move rfl) rfl ?_
  refine JL.qt (Qt.nck rfl) rfl ?_
  refine JL.qt (Qt.fa (o' := 1) fo252_1 rfl rfl) rfl ?_
  refine JL.qt (Qt.ld 2 pl4 rfl rfl rfl) rfl ?_
  refine JL.qt (Qt.move rfl) rfl ?_
  refine JL.cases (t := 21) rfl (fun h1 => ?_) (fun h1 => ?_)
  · refine JL.g_outU rfl rfl rfl rfl ?_
    refine JL.g_outU rfl rfl rfl rfl ?_
    refine JL.qt (Qt.pick_t rfl rfl) rfl ?_
    refine JL.qt (Qt.nck rfl) rfl ?_
    refine JL.qt (Qt.fa (o' := 1) fo252_1 rfl rfl) rfl ?_
    refine JL.sk (O1.st 2 sz4 rfl rfl rfl rfl rfl rfl) ?_
    refine JL.nil ?_
    refine JN.code ?_
    refine J.seq ?_
    refine J.keep [4, 5] rfl ?_
    refine J.region ?_
    refine JL.qt (Qt.move rfl) rfl ?_
    refine JL.qt (Qt.assign rfl) rfl ?_
    refine JL.nil ?_
    refine JN.code ?_
    refine J.ret ?_
    refine JN.back (res1 rfl rfl) [0, 0, 0] rfl ?_
    exact ⟨by unfold f_rn1; rw [if_pos h1] <;> rfl, by unfold f_rn1; rw [if_pos h1] <;> rfl⟩
  refine JL.g_in rfl rfl ?_
  refine JL.qt (Qt.move rfl) rfl ?_
  refine JL.g_in rfl rfl ?_
  refine JL.qt (Qt.bin (fun _ => neq_run) rfl rfl rfl) rfl ?_
  refine JL.qt (Qt.pick_f rfl rfl) rfl ?_
  refine JL.qt (Qt.nck rfl) rfl ?_
  refine JL.qt (Qt.fa (o' := 1) fo252_1 rfl rfl) rfl ?_
  refine JL.sk (O1.st 2 sz4 rfl rfl rfl rfl rfl rfl) ?_
  refine JL.nil ?_
  refine JN.code ?_
  refine J.seq ?_
  refine J.keep [4, 5] rfl ?_
  refine J.region ?_
  refine JL.qt (Qt.move rfl) rfl ?_
  refine JL.qt (Qt.assign rfl) rfl ?_
  refine JL.nil ?_
  refine JN.code ?_
  refine J.ret ?_
  refine JN.back (res1 rfl rfl) [0, 0, 0] rfl ?_
  exact ⟨by unfold f_rn1; rw [if_neg (Bool.eq_false_iff.1 h1)] <;> rfl, by unfold f_rn1; rw [if_neg (Bool.eq_false_iff.1 h1)] <;> rfl⟩
theorem s_rn4 (q : Nat) (p : Nat) (A1 : Option Addr) (c1 : Nat) (xs : List Int) (k : Nat) (sh : Bool) (hk : k ≤ xs.length) :
    Spec Tryz.prog 131 [.pointer (some ⟨q, 0, none⟩), .int .i64 4].toArray [blk q 252 [.pointer (some ⟨p, 0, none⟩), .bool sh], blk p 304 [.slice A1 xs.length c1, .int .i64 (k : Int)], rd (Kd.int .u8) A1 c1 xs] (fun v L => v = .int .i64 ((f_rn4 xs k sh).1) ∧ L = [blk q 252 [.pointer (some ⟨p, 0, none⟩), .bool ((f_rn4 xs k sh).2.1)], blk p 304 [.slice A1 xs.length c1, .int .i64 (((f_rn4 xs k sh).2.2) : Int)], rd (Kd.int .u8) A1 c1 xs]) := by
  refine Spec.enter Tryz.func131 rfl Tryz.ntmps131 rfl rfl (fun w0 R0 F0 => ?_)
  refine J.seq ?_
  refine J.region ?_
  refine JL.qt (Qt.assign rfl) rfl ?_
  refine JL.nil ?_
  refine JN.code ?_
  refine J.seq ?_
  refine J.region ?_
  refine JL.qt (Qt.move rfl) rfl ?_
  refine JL.qt (Qt.nck rfl) rfl ?_
  refine JL.qt (Qt.fa (o' := 0) fo252_0 rfl rfl) rfl ?_
  refine JL.qt (Qt.ld 0 pl249 rfl rfl rfl) rfl ?_
  refine JL.qt (Qt.move rfl) rfl ?_
  refine JL.call (O1.call Tryz.func137 rfl rfl rfl [1, 1] rfl (s_num4 p A1 c1 xs k (by omega))) rfl ?_
  rintro _ _ ⟨rfl, rfl⟩
  refine JL.qt (Qt.move rfl) rfl ?_
  refine JL.qt (Qt.extract rfl rfl) rfl ?_
  refine JL.qt (Qt.extract rfl rfl) rfl ?_
  refine JL.qt (Qt.assign rfl) rfl ?_
  refine JL.qt (Qt.assign rfl) rfl ?_
  refine JL.nil ?_
  refine JN.code ?_
  refine J.seq ?_
  refine J.region ?_
  refine JL.qt (Qt.move rfl) rfl ?_
  refine JL.qt (Qt.move rfl) rfl ?_
  refine JL.qt (Qt.nck rfl) rfl ?_
  refine JL.qt (Qt.fa (o' := 1) fo252_1 rfl rfl) rfl ?_
  refine JL.qt (Qt.ld 2 pl4 rfl rfl rfl) rfl ?_
  refine JL.qt (Qt.move rfl) rfl ?_
  refine JL.cases (t := 21) rfl (fun h1 => ?_) (fun h1 => ?_)
  · refine JL.g_outU rfl rfl rfl rfl ?_
    refine JL.g_outU rfl rfl rfl rfl ?_
    refine JL.qt (Qt.pick_t rfl rfl) rfl ?_
    refine JL.qt (Qt.nck rfl) rfl ?_
    refine JL.qt (Qt.fa (o' := 1) fo252_1 rfl rfl) rfl ?_
    refine JL.sk (O1.st 2 sz4 rfl rfl rfl rfl rfl rfl) ?_
    refine JL.nil ?_
    refine JN.code ?_
    refine J.seq ?_
    refine J.keep [4, 5] rfl ?_
    refine J.region ?_
    refine JL.qt (Qt.move rfl) rfl ?_
    refine JL.qt (Qt.assign rfl) rfl ?_
    refine JL.nil ?_
    refine JN.code ?_
    refine J.ret ?_
    refine JN.back (res1 rfl rfl) [0, 0, 0] rfl ?_
    exact ⟨by unfold f_rn4; rw [if_pos h1] <;> rfl, by unfold f_rn4; rw [if_pos h1] <;> rfl⟩
  refine JL.g_in rfl rfl ?_
  refine JL.qt (Qt.move rfl) rfl ?_
  refine JL.g_in rfl rfl ?_
  refine JL.qt (Qt.bin (fun _ => neq_run) rfl rfl rfl) rfl ?_
  refine JL.qt (Qt.pick_f rfl rfl) rfl ?_
  refine JL.qt (Qt.nck rfl) rfl ?_
  refine JL.qt (Qt.fa (o' := 1) fo252_1 rfl rfl) rfl ?_
  refine JL.sk (O1.st 2 sz4 rfl rfl rfl rfl rfl rfl) ?_
  refine JL.nil ?_
  refine JN.code ?_
  refine J.seq ?_
  refine J.keep [4, 5] rfl ?_
  refine J.region ?_
  refine JL.qt (Qt.move rfl) rfl ?_
  refine JL.qt (Qt.assign rfl) rfl ?_
  refine JL.nil ?_
  refine JN.code ?_
  refine J.ret ?_
  refine JN.back (res1 rfl rfl) [0, 0, 0] rfl ?_
  exact ⟨by unfold f_rn4; rw [if_neg (Bool.eq_false_iff.1 h1)] <;> rfl, by unfold f_rn4; rw [if_neg (Bool.eq_false_iff.1 h1)] <;> rfl⟩
theorem s_rlow (q : Nat) (p : Nat) (A1 : Option Addr) (c1 : Nat) (xs : List Int) (k : Nat) (sh : Bool) (hk : k ≤ xs.length) :
    Spec Tryz.prog 161 [.pointer (some ⟨q, 0, none⟩)].toArray [blk q 252 [.pointer (some ⟨p, 0, none⟩), .bool sh], blk p 304 [.slice A1 xs.length c1, .int .i64 (k : Int)], rd (Kd.int .u8) A1 c1 xs] (fun v L => v = .tuple #[.int .i64 ((f_rlow xs k sh).1), .bool ((f_rlow xs k sh).2.1)] ∧ L = [blk q 252 [.pointer (some ⟨p, 0, none⟩), .bool ((f_rlow xs k sh).2.2.1)], blk p 304 [.slice A1 xs.length c1, .int .i64 (((f_rlow xs k sh).2.2.2) : Int)], rd (Kd.int .u8) A1 c1 xs]) := by
  refine Spec.enter Tryz.func161 rfl Tryz.ntmps161 rfl rfl (fun w0 R0 F0 => ?_)
  refine J.seq ?_
  refine J.region ?_
  refine JL.qt (Qt.assign rfl) rfl ?_
  refine JL.qt (Qt.assign rfl) rfl ?_
  refine JL.nil ?_
  refine JN.code ?_
  refine J.seq ?_
  refine J.region ?_
  refine JL.qt (Qt.move rfl) rfl ?_
  refine JL.call (O1.call Tryz.func131 rfl rfl rfl [0, 0, 0] rfl (s_rn4 q p A1 c1 xs k sh (by omega))) rfl ?_
  rintro _ _ ⟨rfl, rfl⟩
  refine JL.call (O1.call Tryz.func138 rfl rfl rfl [] rfl (s_octet_Low ((f_rn4 xs k sh).1))) rfl ?_
  rintro _ _ ⟨rfl, rfl⟩
  refine JL.qt (Qt.extract rfl rfl) rfl ?_
  refine JL.qt (Qt.extract rfl rfl) rfl ?_
  refine JL.qt (Qt.assign rfl) rfl ?_
  refine JL.qt (Qt.assign rfl) rfl ?_
  refine JL.nil ?_
  refine JN.code ?_
  refine J.ret ?_
  refine JN.back (res2 rfl rfl rfl) [0, 0, 0] rfl ?_
  exact ⟨by unfold f_rlow; rfl, by unfold f_rlow; rfl⟩
theorem s_rw (q : Nat) (p : Nat) (A1 : Option Addr) (c1 : Nat) (xs : List Int) (k : Nat) (sh : Bool) (z : Nat) (fr : ApiFrame) (hk : k ≤ xs.length) :
    Spec Tryz.prog 160 [.pointer (some ⟨q, 0, none⟩), .pointer (some ⟨z, 0, none⟩)].toArray [blk q 252 [.pointer (some ⟨p, 0, none⟩), .bool sh], blk p 304 [.slice A1 xs.length c1, .int .i64 (k : Int)], rd (Kd.int .u8) A1 c1 xs, blk z 40 [.int .i64 fr.Type_, .int .i64 fr.Flags, .int .i64 fr.Stream, .int .i64 fr.Pad, .slice none 0 0, .slice none 0 0, .int .i64 fr.Weight, .int .i64 fr.Parent, .bool fr.Alone, .int .i64 fr.Promised, .int .i64 fr.Last, .int .i64 fr.Code, .int .i64 fr.Step]] (fun v L => v = .tuple #[] ∧ L = [blk q 252 [.pointer (some ⟨p, 0, none⟩), .bool ((f_rw xs k sh fr).2.1)], blk p 304 [.slice A1 xs.length c1, .int .i64 (((f_rw xs k sh fr).2.2) : Int)], blk z 40 [.int .i64 (((f_rw xs k sh fr).1).Type_), .int .i64 (((f_rw xs k sh fr).1).Flags), .int .i64 (((f_rw xs k sh fr).1).Stream), .int .i64 (((f_rw xs k sh fr).1).Pad), .slice none 0 0, .slice none 0 0, .int .i64 (((f_rw xs k sh fr).1).Weight), .int .i64 (((f_rw xs k sh fr).1).Parent), .bool (((f_rw xs k sh fr).1).Alone), .int .i64 (((f_rw xs k sh fr).1).Promised), .int .i64 (((f_rw xs k sh fr).1).Last), .int .i64 (((f_rw xs k sh fr).1).Code), .int .i64 (((f_rw xs k sh fr).1).Step)], rd (Kd.int .u8) A1 c1 xs]) := by
  refine Spec.enter Tryz.func160 rfl Tryz.ntmps160 rfl rfl (fun w0 R0 F0 => ?_)
  refine J.seq ?_
  refine J.region ?_
  refine JL.qt (Qt.move rfl) rfl ?_
  refine JL.qt (Qt.move rfl) rfl ?_
  refine JL.qt (Qt.move rfl) rfl ?_
  refine JL.call (O1.call Tryz.func161 rfl rfl rfl [0, 0, 0] rfl (s_rlow q p A1 c1 xs k sh (by omega))) rfl ?_
  rintro _ _ ⟨rfl, rfl⟩
  refine JL.qt (Qt.move rfl) rfl ?_
  refine JL.qt (Qt.extract rfl rfl) rfl ?_
  refine JL.qt (Qt.extract rfl rfl) rfl ?_
  refine JL.qt (Qt.nck rfl) rfl ?_
  refine JL.qt (Qt.fa (o' := 7) fo40_7 rfl rfl) rfl ?_
  refine JL.sk (O1.st 3 sz3 rfl rfl rfl rfl rfl rfl) ?_
  refine JL.qt (Qt.nck rfl) rfl ?_
  refine JL.qt (Qt.fa (o' := 8) fo40_8 rfl rfl) rfl ?_
  refine JL.sk (O1.st 0 sz4 rfl rfl rfl rfl rfl rfl) ?_
  refine JL.nil ?_
  refine JN.code ?_
  refine J.region ?_
  refine JL.qt (Qt.move rfl) rfl ?_
  refine JL.qt (Qt.move rfl) rfl ?_
  refine JL.call (O1.call Tryz.func131 rfl rfl rfl [1, 1, 1] rfl (s_rn1 q p A1 c1 xs ((f_rlow xs k sh).2.2.2) ((f_rlow xs k sh).2.2.1) (f_rlow_le hk))) rfl ?_
  rintro _ _ ⟨rfl, rfl⟩
  refine JL.qt (Qt.nck rfl) rfl ?_
  refine JL.qt (Qt.fa (o' := 6) fo40_6 rfl rfl) rfl ?_
  refine JL.sk (O1.st 3 sz3 rfl rfl rfl rfl rfl rfl) ?_
  refine JL.nil ?_
  refine JN.back (res0 rfl) [1, 1, 0, 0] rfl ?_
  exact ⟨rfl, by unfold f_rw; rfl⟩
theorem s_rns (q : Nat) (p : Nat) (A1 : Option Addr) (c1 : Nat) (xs : List Int) (k : Nat) (sh : Bool) (z : Nat) (fr : ApiFrame) (hk : k ≤ xs.length) :
    Spec Tryz.prog 132 [.pointer (some ⟨q, 0, none⟩), .pointer (some ⟨z, 0, none⟩)].toArray [blk q 252 [.pointer (some ⟨p, 0, none⟩), .bool sh], blk p 304 [.slice A1 xs.length c1, .int .i64 (k : Int)], rd (Kd.int .u8) A1 c1 xs, blk z 40 [.int .i64 fr.Type_, .int .i64 fr.Flags, .int .i64 fr.Stream, .int .i64 fr.Pad, .slice none 0 0, .slice none 0 0, .int .i64 fr.Weight, .int .i64 fr.Parent, .bool fr.Alone, .int .i64 fr.Promised, .int .i64 fr.Last, .int .i64 fr.Code, .int .i64 fr.Step]] (fun v L => v = .tuple #[] ∧ L = [blk q 252 [.pointer (some ⟨p, 0, none⟩), .bool ((f_rns xs k sh fr).2.1)], blk p 304 [.slice A1 xs.length c1, .int .i64 (((f_rns xs k sh fr).2.2) : Int)], blk z 40 [.int .i64 (((f_rns xs k sh fr).1).Type_), .int .i64 (((f_rns xs k sh fr).1).Flags), .int .i64 (((f_rns xs k sh fr).1).Stream), .int .i64 (((f_rns xs k sh fr).1).Pad), .slice none 0 0, .slice none 0 0, .int .i64 (((f_rns xs k sh fr).1).Weight), .int .i64 (((f_rns xs k sh fr).1).Parent), .bool (((f_rns xs k sh fr).1).Alone), .int .i64 (((f_rns xs k sh fr).1).Promised), .int .i64 (((f_rns xs k sh fr).1).Last), .int .i64 (((f_rns xs k sh fr).1).Code), .int .i64 (((f_rns xs k sh fr).1).Step)], rd (Kd.int .u8) A1 c1 xs]) := by
  refine Spec.enter Tryz.func132 rfl Tryz.ntmps132 rfl rfl (fun w0 R0 F0 => ?_)
  refine J.seq ?_
  refine J.region ?_
  refine JL.qt (Qt.move rfl) rfl ?_
  refine JL.qt (Qt.nck rfl) rfl ?_
  refine JL.qt (Qt.fa (o' := 0) fo40_0 rfl rfl) rfl ?_
  refine JL.qt (Qt.ld 3 pl3 rfl rfl rfl) rfl ?_
  refine JL.nil ?_
  refine JN.code ?_
  refine J.block ?_
  refine J.seq ?_
  refine J.region ?_
  refine JL.qt (Qt.bin (fun _ => eql_run) rfl rfl rfl) rfl ?_
  refine JL.qt (Qt.assign rfl) rfl ?_
  refine JL.nil ?_
  refine JN.code ?_
  refine J.cond_eq rfl (fun h1 => ?_) (fun h1 => ?_)
  · refine J.seq ?_
    refine J.sch (.qt 0 (.qt 1 (.qt 2 (.qt 3 (.qt 4 (.qt 5 (.qt 6 (.qt 7 (.ef 8 [] (.done)))))))))) mixed (by repeat (first | exact Xe.noLook_body | refine noLook_then ?_ | refine noLook_block ?_)) (by kernel_rfl) ?_
    refine JS.q0 rfl (Qt.move rfl) rfl ?_
    refine JS.q0 rfl (Qt.nck rfl) rfl ?_
    refine JS.q0 rfl (Qt.fa (o' := 0) fo40_0 rfl rfl) rfl ?_
    refine JS.q1 (j := 3) rfl rfl rfl (Qt.ld 0 pl3 rfl rfl rfl) rfl ?_
    refine JS.q0 rfl (Qt.move rfl) rfl ?_
    refine JS.q0 rfl (Qt.nck rfl) rfl ?_
    refine JS.q0 rfl (Qt.fa (o' := 1) fo40_1 rfl rfl) rfl ?_
    refine JS.q1 (j := 3) rfl rfl rfl (Qt.ld 0 pl3 rfl rfl rfl) rfl ?_
    refine JS.e1 ?_
    refine JE.ef rfl (O1.call Tryz.func37 rfl rfl rfl [] rfl (s_kinds_Has fr.Type_ fr.Flags 32)) rfl ?_
    rintro _ _ ⟨_, ⟨rfl, rfl⟩, rfl⟩
    refine ⟨⟨.inl rfl, ⟨.inl rfl, trivial⟩⟩, ?_⟩
    refine JS.done ?_
    refine JN.code ?_
    refine J.cond rfl (fun h2 => ?_) (fun h2 => ?_)
    · refine J.region ?_
      refine JL.qt (Qt.move rfl) rfl ?_
      refine JL.qt (Qt.move rfl) rfl ?_
      refine JL.call (O1.call Tryz.func160 rfl rfl rfl [0, 0, 0, 0] rfl (s_rw q p A1 c1 xs k sh z (⟨fr.Type_, fr.Flags, fr.Stream, fr.Pad, [], [], fr.Weight, fr.Parent, fr.Alone, fr.Promised, fr.Last, fr.Code, fr.Step⟩ : ApiFrame) (by omega))) rfl ?_
      rintro _ _ ⟨rfl, rfl⟩
      refine JL.nil ?_
      refine JN.back (res0 rfl) [0, 0, 0, 0] rfl ?_
      exact ⟨rfl, by unfold f_rns; rw [if_pos h1, if_pos h2] <;> rfl⟩
    refine J.skip ?_
    refine JN.back (res0 rfl) [0, 0, 1, 0] rfl ?_
    exact ⟨rfl, by unfold f_rns; rw [if_pos h1, if_neg (Bool.eq_false_iff.1 h2)] <;> rfl⟩
  refine J.seq ?_
  refine J.region ?_
  refine JL.qt (Qt.bin (fun _ => eql_run) rfl rfl rfl) rfl ?_
  refine JL.qt (Qt.assign rfl) rfl ?_
  refine JL.nil ?_
  refine JN.code ?_
  refine J.cond_eq rfl (fun h3 => ?_) (fun h3 => ?_)
  · refine J.region ?_
    refine JL.qt (Qt.move rfl) rfl ?_
    refine JL.qt (Qt.move rfl) rfl ?_
    refine JL.call (O1.call Tryz.func160 rfl rfl rfl [0, 0, 0, 0] rfl (s_rw q p A1 c1 xs k sh z (⟨fr.Type_, fr.Flags, fr.Stream, fr.Pad, [], [], fr.Weight, fr.Parent, fr.Alone, fr.Promised, fr.Last, fr.Code, fr.Step⟩ : ApiFrame) (by omega))) rfl ?_
    rintro _ _ ⟨rfl, rfl⟩
    refine JL.nil ?_
    refine JN.back (res0 rfl) [0, 0, 0, 0] rfl ?_
    exact ⟨rfl, by unfold f_rns; rw [if_neg h1, if_pos h3] <;> rfl⟩
  refine J.seq ?_
  refine J.region ?_
  refine JL.qt (Qt.bin (fun _ => eql_run) rfl rfl rfl) rfl ?_
  refine JL.qt (Qt.assign rfl) rfl ?_
  refine JL.nil ?_
  refine JN.code ?_
  refine J.cond_eq rfl (fun h4 => ?_) (fun h4 => ?_)
  · refine J.region ?_
    refine JL.qt (Qt.move rfl) rfl ?_
    refine JL.qt (Qt.move rfl) rfl ?_
    refine JL.call (O1.call Tryz.func131 rfl rfl rfl [0, 0, 0] rfl (s_rn4 q p A1 c1 xs k sh (by omega))) rfl ?_
    rintro _ _ ⟨rfl, rfl⟩
    refine JL.qt (Qt.nck rfl) rfl ?_
    refine JL.qt (Qt.fa (o' := 11) fo40_11 rfl rfl) rfl ?_
    refine JL.sk (O1.st 3 sz3 rfl rfl rfl rfl rfl rfl) ?_
    refine JL.nil ?_
    refine JN.back (res0 rfl) [1, 1, 0, 0] rfl ?_
    exact ⟨rfl, by unfold f_rns; rw [if_neg h1, if_neg h3, if_pos h4] <;> rfl⟩
  refine J.seq ?_
  refine J.region ?_
  refine JL.qt (Qt.bin (fun _ => eql_run) rfl rfl rfl) rfl ?_
  refine JL.qt (Qt.assign rfl) rfl ?_
  refine JL.nil ?_
  refine JN.code ?_
  refine J.cond_eq rfl (fun h5 => ?_) (fun h5 => ?_)
  · refine J.region ?_
    refine JL.qt (Qt.move rfl) rfl ?_
    refine JL.qt (Qt.move rfl) rfl ?_
    refine JL.call (O1.call Tryz.func161 rfl rfl rfl [0, 0, 0] rfl (s_rlow q p A1 c1 xs k sh (by omega))) rfl ?_
    rintro _ _ ⟨rfl, rfl⟩
    refine JL.qt (Qt.move rfl) rfl ?_
    refine JL.qt (Qt.extract rfl rfl) rfl ?_
    refine JL.qt (Qt.extract rfl rfl) rfl ?_
    refine JL.qt (Qt.nck rfl) rfl ?_
    refine JL.qt (Qt.fa (o' := 9) fo40_9 rfl rfl) rfl ?_
    refine JL.sk (O1.st 3 sz3 rfl rfl rfl rfl rfl rfl) ?_
    refine JL.nil ?_
    refine JN.back (res0 rfl) [1, 1, 0, 0] rfl ?_
    exact ⟨rfl, by unfold f_rns; rw [if_neg h1, if_neg h3, if_neg h4, if_pos h5] <;> rfl⟩
  refine J.seq ?_
  refine J.region ?_
  refine JL.qt (Qt.bin (fun _ => eql_run) rfl rfl rfl) rfl ?_
  refine JL.qt (Qt.assign rfl) rfl ?_
  refine JL.nil ?_
  refine JN.code ?_
  refine J.cond_eq rfl (fun h6 => ?_) (fun h6 => ?_)
  · refine J.seq ?_
    refine J.region ?_
    refine JL.qt (Qt.move rfl) rfl ?_
    refine JL.qt (Qt.move rfl) rfl ?_
    refine JL.call (O1.call Tryz.func161 rfl rfl rfl [0, 0, 0] rfl (s_rlow q p A1 c1 xs k sh (by omega))) rfl ?_
    rintro _ _ ⟨rfl, rfl⟩
    refine JL.qt (Qt.move rfl) rfl ?_
    refine JL.qt (Qt.extract rfl rfl) rfl ?_
    refine JL.qt (Qt.extract rfl rfl) rfl ?_
    refine JL.qt (Qt.nck rfl) rfl ?_
    refine JL.qt (Qt.fa (o' := 10) fo40_10 rfl rfl) rfl ?_
    refine JL.sk (O1.st 3 sz3 rfl rfl rfl rfl rfl rfl) ?_
    refine JL.nil ?_
    refine JN.code ?_
    refine J.region ?_
    refine JL.qt (Qt.move rfl) rfl ?_
    refine JL.qt (Qt.move rfl) rfl ?_
    refine JL.call (O1.call Tryz.func131 rfl rfl rfl [1, 1, 1] rfl (s_rn4 q p A1 c1 xs ((f_rlow xs k sh).2.2.2) ((f_rlow xs k sh).2.2.1) (f_rlow_le hk))) rfl ?_
    rintro _ _ ⟨rfl, rfl⟩
    refine JL.qt (Qt.nck rfl) rfl ?_
    refine JL.qt (Qt.fa (o' := 11) fo40_11 rfl rfl) rfl ?_
    refine JL.sk (O1.st 3 sz3 rfl rfl rfl rfl rfl rfl) ?_
    refine JL.nil ?_
    refine JN.back (res0 rfl) [1, 1, 0, 0] rfl ?_
    exact ⟨rfl, by unfold f_rns; rw [if_neg h1, if_neg h3, if_neg h4, if_neg h5, if_pos h6] <;> rfl⟩
  refine J.seq ?_
  refine J.region ?_
  refine JL.qt (Qt.bin (fun _ => eql_run) rfl rfl rfl) rfl ?_
  refine JL.qt (Qt.assign rfl) rfl ?_
  refine JL.nil ?_
  refine JN.code ?_
  refine J.cond_eq rfl (fun h7 => ?_) (fun h7 => ?_)
  · refine J.region ?_
    refine JL.qt (Qt.move rfl) rfl ?_
    refine JL.qt (Qt.move rfl) rfl ?_
    refine JL.call (O1.call Tryz.func161 rfl rfl rfl [0, 0, 0] rfl (s_rlow q p A1 c1 xs k sh (by omega))) rfl ?_
    rintro _ _ ⟨rfl, rfl⟩
    refine JL.qt (Qt.move rfl) rfl ?_
    refine JL.qt (Qt.extract rfl rfl) rfl ?_
    refine JL.qt (Qt.extract rfl rfl) rfl ?_
    refine JL.qt (Qt.nck rfl) rfl ?_
    refine JL.qt (Qt.fa (o' := 12) fo40_12 rfl rfl) rfl ?_
    refine JL.sk (O1.st 3 sz3 rfl rfl rfl rfl rfl rfl) ?_
    refine JL.nil ?_
    refine JN.back (res0 rfl) [1, 1, 0, 0] rfl ?_
    exact ⟨rfl, by unfold f_rns; rw [if_neg h1, if_neg h3, if_neg h4, if_neg h5, if_neg h6, if_pos h7] <;> rfl⟩
  refine J.skip ?_
  refine JN.back (res0 rfl) [0, 0, 1, 0] rfl ?_
  exact ⟨rfl, by unfold f_rns; rw [if_neg h1, if_neg h3, if_neg h4, if_neg h5, if_neg h6, if_neg h7] <;> rfl⟩
end Go.Proofs.YthjbkngecgbioaaGreatDoor.Sl

/- Walks: settings are read. -/
set_option maxRecDepth 100000
set_option linter.unusedSimpArgs false
set_option linter.unusedVariables false
namespace Go.Proofs.YthjbkngecgbioaaGreatDoor.Sl
open Go
theorem sp198 : structPl Tryz.prog 198 = some [(0, 1), (1, 1)] := by kernel_rfl
theorem el38 : elTy Tryz.prog 38 198 2 16 = true := by kernel_rfl
theorem wrap64_in (n : Int) : inK .i64 (IntKind.i64.wrap n) := by
  unfold IntKind.wrap
  simp only [IntKind.bits, IntKind.signed, inK, Bool.true_and]
  split
  · rename_i h; simp at h; omega
  · rename_i h; simp at h; omega
theorem bits64_in (f : BitVec 64 → BitVec 64 → BitVec 64) (a b : Int) : inK .i64 (bits2 .i64 f a b) := wrap64_in _
theorem f_get1_in (xs : List Int) : inK .i64 (f_get1 xs).1 := by
  unfold f_get1
  split
  · exact ⟨by decide, by decide⟩
  · exact wrap64_in _
theorem f_num1_in (xs : List Int) (k : Nat) : inK .i64 (f_num1 xs k).1 := by
  unfold f_num1
  split <;> exact f_get1_in _
theorem f_num1_go {xs : List Int} {k : Nat} (h : k + 1 ≤ xs.length) : (f_num1 xs k).2.2 = k + 1 := by
  have hd : (xs.drop k).length = xs.length - k := List.length_drop
  have : (f_get1 (xs.drop k)).2 = 0 := by unfold f_get1; rw [if_neg (by omega)]
  unfold f_num1
  rw [if_pos this]
theorem f_get2_in (xs : List Int) : inK .i64 (f_get2 xs).1 := by
  unfold f_get2
  split
  · exact ⟨by decide, by decide⟩
  · exact wrap64_in _
theorem f_num2_in (xs : List Int) (k : Nat) : inK .i64 (f_num2 xs k).1 := by
  unfold f_num2
  split <;> exact f_get2_in _
theorem f_num2_go {xs : List Int} {k : Nat} (h : k + 2 ≤ xs.length) : (f_num2 xs k).2.2 = k + 2 := by
  have hd : (xs.drop k).length = xs.length - k := List.length_drop
  have : (f_get2 (xs.drop k)).2 = 0 := by unfold f_get2; rw [if_neg (by omega)]
  unfold f_num2
  rw [if_pos this]
theorem f_get4_in (xs : List Int) : inK .i64 (f_get4 xs).1 := by
  unfold f_get4
  split
  · exact ⟨by decide, by decide⟩
  · exact wrap64_in _
theorem f_num4_in (xs : List Int) (k : Nat) : inK .i64 (f_num4 xs k).1 := by
  unfold f_num4
  split <;> exact f_get4_in _
theorem f_num4_go {xs : List Int} {k : Nat} (h : k + 4 ≤ xs.length) : (f_num4 xs k).2.2 = k + 4 := by
  have hd : (xs.drop k).length = xs.length - k := List.length_drop
  have : (f_get4 (xs.drop k)).2 = 0 := by unfold f_get4; rw [if_neg (by omega)]
  unfold f_num4
  rw [if_pos this]
/-- The settings from k on. -/
def f_sets (b : List Int) : Nat → Nat → List ApiSetting → List ApiSetting
  | 0, _, out => out
  | m + 1, k, out => if (((b.drop k).length : Nat) : Int) > 0 then f_sets b m (f_num4 b (f_num2 b k).2.2).2.2 (out ++ [⟨(f_num2 b k).1, (f_num4 b (f_num2 b k).2.2).1⟩]) else out
def f_setsOf (xs : List Int) : List ApiSetting × Int := if ((xs.length : Nat) : Int) % 6 = 0 then (f_sets xs (xs.length + 1) 0 [], 0) else ([], 4)
theorem s_sets (A1 : Option Addr) (c1 : Nat) (xs : List Int) :
    Spec Tryz.prog 134 [.slice A1 xs.length c1].toArray [rd (Kd.int .u8) A1 c1 xs] (fun v L => ∃ (A2 : Option Addr), ∃ (c2 : Nat), v = .tuple #[.slice A2 ((f_setsOf xs).1.length) c2, .int .i64 ((f_setsOf xs).2)] ∧ L = [row kApiSetting 198 A2 c2 ((f_setsOf xs).1), rd (Kd.int .u8) A1 c1 xs]) := by
  refine Spec.enter Tryz.func134 rfl Tryz.ntmps134 rfl rfl (fun w0 R0 F0 => ?_)
  refine J.seq ?_
  refine J.region ?_
  refine JL.qt (Qt.assign rfl) rfl ?_
  refine JL.qt (Qt.assign rfl) rfl ?_
  refine JL.nil ?_
  refine JN.code ?_
  refine J.seq ?_
  refine J.seq ?_
  refine J.tell 0 rfl rd_tell (fun ⟨ht1, ht2⟩ => ?_)
  refine J.region ?_
  refine JL.qt (Qt.move rfl) rfl ?_
  refine JL.qt (Qt.bi (fun _ _ => len_slice_run Tryz.underlying37) rfl) rfl ?_
  refine JL.qt (Qt.bin (fun _ => remN_run (by omega) (by omega)) rfl rfl rfl) rfl ?_
  refine JL.qt (Qt.bin (fun _ => neq_run) rfl rfl rfl) rfl ?_
  refine JL.nil ?_
  refine JN.code ?_
  refine J.cond_ne rfl (fun h1 => ?_) (fun h1 => ?_)
  · have e : f_setsOf xs = ([], 4) := if_neg h1
    refine J.seq ?_
    refine J.region ?_
    refine JL.qt (Qt.assign rfl) rfl ?_
    refine JL.qt (Qt.assign rfl) rfl ?_
    refine JL.nil ?_
    refine JN.code ?_
    refine J.ret ?_
    refine JN.intro_pers (p := row kApiSetting 198 none 0 []) (fun w R => row_nil _ _ w R) ?_
    refine JN.back (res2 rfl rfl rfl) [0, 0] rfl ?_
    exact ⟨_, _, by rw [e]; rfl, by rw [e]⟩
  have e : f_setsOf xs = (f_sets xs (xs.length + 1) 0 [], 0) := if_pos h1
  refine J.skip ?_
  refine JN.code ?_
  refine J.seq ?_
  refine J.region ?_
  refine JL.qt (Qt.move rfl) rfl ?_
  refine JL.call (O1.call Tryz.func130 rfl rfl rfl [0] rfl (s_curNew A1 c1 xs)) rfl ?_
  rintro _ _ ⟨q_1, A2_2, c2_3, rfl, rfl⟩
  refine JL.qt (Qt.assign rfl) rfl ?_
  refine JL.nil ?_
  refine JN.code ?_
  refine J.seq ?_
  refine J.region ?_
  refine JL.qt (Qt.assign rfl) rfl ?_
  refine JL.nil ?_
  refine JN.code ?_
  refine J.seq ?_
  refine J.block ?_
  refine J.intro_pers (p := row kApiSetting 198 none 0 []) (fun w R => row_nil _ _ w R) ?_
  refine J.loop5 (fun (k : Nat) (m : Nat) (A : Option Addr) (c : Nat) (out : List ApiSetting) => [(2, .slice none 0 0), (3, .int .i64 0), (4, .pointer (some ⟨q_1, 0, none⟩)), (5, .slice A out.length c)]) (fun (k : Nat) (m : Nat) (A : Option Addr) (c : Nat) (out : List ApiSetting) => [blk q_1 304 [.slice A2_2 xs.length c2_3, .int .i64 (k : Int)], rd (Kd.int .u8) A2_2 c2_3 xs, row kApiSetting 198 A c out, rd (Kd.int .u8) A1 c1 xs]) (fun (k : Nat) (m : Nat) (A : Option Addr) (c : Nat) (out : List ApiSetting) => k ≤ xs.length ∧ (xs.length - k) % 6 = 0 ∧ xs.length < m + k ∧ out.length ≤ k ∧ f_sets xs m k out = f_sets xs (xs.length + 1) 0 []) (fun (k : Nat) (m : Nat) (A : Option Addr) (c : Nat) (out : List ApiSetting) => xs.length - k) 0 (xs.length + 1) none 0 [] ⟨Nat.zero_le _, by omega, by omega, by simp, rfl⟩ ⟨rfl, rfl, rfl, rfl, trivial⟩ [1, 1, 0, 0] rfl ?_
  rintro k m A c out ⟨hk, h6, hm, ho, hI⟩
  refine J.seq ?_
  refine J.seq ?_
  refine J.region ?_
  refine JL.qt (Qt.move rfl) rfl ?_
  refine JL.call (O1.call Tryz.func133 rfl rfl rfl [0, 0] rfl (s_left q_1 A2_2 c2_3 xs k hk)) rfl ?_
  rintro _ _ ⟨rfl, rfl⟩
  refine JL.qt (Qt.bin (fun _ => gtr_run) rfl rfl rfl) rfl ?_
  refine JL.nil ?_
  refine JN.code ?_
  refine J.cond_dec rfl (fun h2 => ?_) (fun h2 => ?_)
  · have hd : (xs.drop k).length = xs.length - k := List.length_drop
    obtain ⟨m, rfl⟩ : ∃ z, m = z + 1 := ⟨m - 1, by omega⟩
    have g2 := f_num2_go (xs := xs) (k := k) (by omega)
    have g4 := f_num4_go (xs := xs) (k := (f_num2 xs k).2.2) (by omega)
    refine J.skip ?_
    refine JN.code ?_
    refine J.block ?_
    refine J.seq ?_
    refine J.region ?_
    refine JL.qt (Qt.move rfl) rfl ?_
    refine JL.call (O1.call Tryz.func137 rfl rfl rfl [0, 0] rfl (s_num2 q_1 A2_2 c2_3 xs k hk)) rfl ?_
    rintro _ _ ⟨rfl, rfl⟩
    refine JL.qt (Qt.move rfl) rfl ?_
    refine JL.qt (Qt.extract rfl rfl) rfl ?_
    refine JL.qt (Qt.extract rfl rfl) rfl ?_
    refine JL.qt (Qt.assign rfl) rfl ?_
    refine JL.qt (Qt.assign rfl) rfl ?_
    refine JL.nil ?_
    refine JN.code ?_
    refine J.seq ?_
    refine J.region ?_
    refine JL.qt (Qt.move rfl) rfl ?_
    refine JL.call (O1.call Tryz.func137 rfl rfl rfl [0, 0] rfl (s_num4 q_1 A2_2 c2_3 xs ((f_num2 xs k).2.2) (by omega))) rfl ?_
    rintro _ _ ⟨rfl, rfl⟩
    refine JL.qt (Qt.move rfl) rfl ?_
    refine JL.qt (Qt.extract rfl rfl) rfl ?_
    refine JL.qt (Qt.extract rfl rfl) rfl ?_
    refine JL.qt (Qt.assign rfl) rfl ?_
    refine JL.qt (Qt.assign rfl) rfl ?_
    refine JL.nil ?_
    refine JN.code ?_
    refine J.region ?_
    refine JL.qt (Qt.move rfl) rfl ?_
    refine JL.qt (Qt.move rfl) rfl ?_
    refine JL.qt (Qt.move rfl) rfl ?_
    refine JL.qt (Qt.build sp198 ze198 rfl rfl) rfl ?_
    refine JL.ef (O1.bsl el38 ze198 rfl rfl rfl) rfl ?_
    rintro _ _ ⟨b_4, rfl, rfl⟩
    refine JL.ef (O1.append (D := kApiSetting) (xs := out) (ys := [(⟨(f_num2 xs k).1, (f_num4 xs (f_num2 xs k).2.2).1⟩ : ApiSetting)]) 3 el38 rfl rfl rfl rfl rfl (fun w R o s => Elems.one_elem (mkApiSetting (f_num2_in _ _) (f_num4_in _ _))) (by simp; omega)) rfl ?_
    rintro _ _ ⟨A_5, c_6, rfl, rfl⟩
    refine JL.qt (Qt.assign rfl) rfl ?_
    refine JL.nil ?_
    refine JN.round5 (z0 := k) (z1 := (m + 1)) (z2 := A) (z3 := c) (z4 := out) ((f_num4 xs (f_num2 xs k).2.2).2.2) m A_5 c_6 (out ++ [(⟨(f_num2 xs k).1, (f_num4 xs (f_num2 xs k).2.2).1⟩ : ApiSetting)]) (by omega) ⟨by omega, by omega, by omega, by simp; omega, by rw [← hI, f_sets, if_pos h2]⟩ ⟨rfl, rfl, rfl, rfl, trivial⟩ [1, 1, 0, 0] rfl
  have hd : (xs.drop k).length = xs.length - k := List.length_drop
  refine J.exit ?_
  refine JN.code ?_
  refine J.seq ?_
  refine J.region ?_
  refine JL.qt (Qt.move rfl) rfl ?_
  refine JL.qt (Qt.assign rfl) rfl ?_
  refine JL.qt (Qt.assign rfl) rfl ?_
  refine JL.nil ?_
  refine JN.code ?_
  refine J.ret ?_
  refine JN.back (res2 rfl rfl rfl) [2, 2] rfl ?_
  have e2 : f_sets xs (xs.length + 1) 0 [] = out := by
    rw [← hI]
    cases m with
    | zero => rfl
    | succ m => rw [f_sets, if_neg (by omega)]
  exact ⟨_, _, by rw [e, e2], by rw [e, e2]⟩
end Go.Proofs.YthjbkngecgbioaaGreatDoor.Sl
