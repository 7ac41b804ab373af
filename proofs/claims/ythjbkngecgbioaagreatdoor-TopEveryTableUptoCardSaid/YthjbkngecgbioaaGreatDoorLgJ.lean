/- Items are woven as told (each theorem names its bounds). -/
import Derived.Test.YthjbkngecgbioaaGreatDoorLgI
set_option linter.unusedVariables false
set_option linter.unusedSimpArgs false
set_option linter.deprecated false
/- Walks: an item is woven. -/
set_option maxRecDepth 100000
set_option linter.unusedSimpArgs false
set_option linter.unusedVariables false
namespace Go.Proofs.YthjbkngecgbioaaGreatDoor.Sl
open Go
theorem pl48 : plainTy Tryz.prog 48 = true := by kernel_rfl
theorem fo58_0 : fldOff Tryz.prog 58 0 = some 0 := by kernel_rfl
theorem sz55 : szTy Tryz.prog 55 = some 1 := by kernel_rfl
theorem pl55 : plainTy Tryz.prog 55 = true := by kernel_rfl
theorem fo53_0 : fldOff Tryz.prog 53 0 = some 0 := by kernel_rfl
theorem fo53_1 : fldOff Tryz.prog 53 1 = some 1 := by kernel_rfl
theorem fo53_3 : fldOff Tryz.prog 53 3 = some 3 := by kernel_rfl
theorem fo53_2 : fldOff Tryz.prog 53 2 = some 2 := by kernel_rfl
theorem ag61 : aggTy Tryz.prog 61 = true := by kernel_rfl
theorem sz61 : szTy Tryz.prog 61 = some 16 := by kernel_rfl
theorem ag53 : aggTy Tryz.prog 53 = true := by kernel_rfl
theorem sz53 : szTy Tryz.prog 53 = some 4 := by kernel_rfl
theorem f_enc_l1_le (xs : List ApiField) (sz mx : Int) (l : List ApiField) (how : List EncoderOption) : ∀ (m i : Nat) (out : List Int) (ys : List ApiField) (s : Int), (f_enc_l1 xs sz mx l how m i out ys s).1.length ≤ out.length + fcost (l.drop i) ∧ (f_enc_l1 xs sz mx l how m i out ys s).2.1.length ≤ ys.length + (l.length - i)
  | 0, _, _, _, _ => by rw [f_enc_l1]; exact ⟨Nat.zero_le _, Nat.zero_le _⟩
  | m + 1, i, out, ys, s => by
    rw [f_enc_l1]
    split
    · have hu := getkD (xs := l) (k := i) fld0 (by omega)
      have hd := congrArg fcost (drop_at hu)
      rw [fcost] at hd
      split
      · have h1 := f_one_sz ys s mx ((l[i]?).getD fld0) ((how[i % how.length]?).getD opt0)
        have h2 := f_reprPut_len (f_one ys s mx ((l[i]?).getD fld0) ((how[i % how.length]?).getD opt0)).1
        have h3 := f_enc_l1_le xs sz mx l how m (i + 1) (out ++ (f_reprPut (f_one ys s mx ((l[i]?).getD fld0) ((how[i % how.length]?).getD opt0)).1).1) (f_one ys s mx ((l[i]?).getD fld0) ((how[i % how.length]?).getD opt0)).2.1 (f_one ys s mx ((l[i]?).getD fld0) ((how[i % how.length]?).getD opt0)).2.2
        simp only [List.length_append] at h3
        exact ⟨Nat.le_trans h3.1 (by omega), Nat.le_trans h3.2 (by omega)⟩
      · have h1 := f_one_sz ys s mx ((l[i]?).getD fld0) (⟨0, false, false, false⟩ : EncoderOption)
        have h2 := f_reprPut_len (f_one ys s mx ((l[i]?).getD fld0) (⟨0, false, false, false⟩ : EncoderOption)).1
        have h3 := f_enc_l1_le xs sz mx l how m (i + 1) (out ++ (f_reprPut (f_one ys s mx ((l[i]?).getD fld0) (⟨0, false, false, false⟩ : EncoderOption)).1).1) (f_one ys s mx ((l[i]?).getD fld0) (⟨0, false, false, false⟩ : EncoderOption)).2.1 (f_one ys s mx ((l[i]?).getD fld0) (⟨0, false, false, false⟩ : EncoderOption)).2.2
        simp only [List.length_append] at h3
        exact ⟨Nat.le_trans h3.1 (by omega), Nat.le_trans h3.2 (by omega)⟩
    · exact ⟨Nat.le_add_right _ _, Nat.le_add_right _ _⟩
theorem f_enc_len (xs : List ApiField) (sz mx : Int) (l : List ApiField) (how : List EncoderOption) : (f_enc xs sz mx l how).1.length ≤ fcost l ∧ (f_enc xs sz mx l how).2.1.length ≤ xs.length + l.length := by
  unfold f_enc
  have h := f_enc_l1_le xs sz mx l how (l.length - 0 + 1) 0 [] xs sz
  simpa using h
theorem f_enc_le {xs : List ApiField} {sz mx : Int} {l : List ApiField} {how : List EncoderOption} (h : fcost l ≤ 536870912) : (f_enc xs sz mx l how).1.length ≤ 1073741824 := Nat.le_trans (f_enc_len xs sz mx l how).1 (by omega)
theorem f_wright_b {x : WeaveItem} (h : f_wright x = true) : (x.From = 0 ∨ x.From = 1) ∧ x.F.Pad = -1 := by
  unfold f_wright at h
  split at h
  · rename_i h1
    split at h
    · rename_i h2
      refine ⟨?_, h2⟩
      unfold f_weave_sided at h1
      split at h1 <;> first | exact .inl (by assumption) | (simp at h1; exact .inr h1) | simp_all
    · cases h
  · cases h
def f_wblock (out : List ApiRaw) (xs0 : List ApiField) (sz0 : Int) (xs1 : List ApiField) (sz1 : Int) (x : WeaveItem) (how : List EncoderOption) : Bool × List ApiRaw × List ApiField × Int × List ApiField × Int := if x.From = 0 then (((f_lput out (⟨x.F.Type_, Sl.bor .i64 x.F.Flags 4, x.F.Stream, x.F.Pad, (f_enc xs0 sz0 4096 x.Fields how).1, x.F.Settings, x.F.Weight, x.F.Parent, x.F.Alone, x.F.Promised, x.F.Last, x.F.Code, x.F.Step⟩ : ApiFrame) 0).1), ((f_lput out (⟨x.F.Type_, Sl.bor .i64 x.F.Flags 4, x.F.Stream, x.F.Pad, (f_enc xs0 sz0 4096 x.Fields how).1, x.F.Settings, x.F.Weight, x.F.Parent, x.F.Alone, x.F.Promised, x.F.Last, x.F.Code, x.F.Step⟩ : ApiFrame) 0).2), (f_enc xs0 sz0 4096 x.Fields how).2.1, (f_enc xs0 sz0 4096 x.Fields how).2.2, xs1, sz1) else (((f_lput out (⟨x.F.Type_, Sl.bor .i64 x.F.Flags 4, x.F.Stream, x.F.Pad, (f_enc xs1 sz1 4096 x.Fields how).1, x.F.Settings, x.F.Weight, x.F.Parent, x.F.Alone, x.F.Promised, x.F.Last, x.F.Code, x.F.Step⟩ : ApiFrame) 1).1), ((f_lput out (⟨x.F.Type_, Sl.bor .i64 x.F.Flags 4, x.F.Stream, x.F.Pad, (f_enc xs1 sz1 4096 x.Fields how).1, x.F.Settings, x.F.Weight, x.F.Parent, x.F.Alone, x.F.Promised, x.F.Last, x.F.Code, x.F.Step⟩ : ApiFrame) 1).2), xs0, sz0, (f_enc xs1 sz1 4096 x.Fields how).2.1, (f_enc xs1 sz1 4096 x.Fields how).2.2)
def f_witem (out : List ApiRaw) (xs0 : List ApiField) (sz0 : Int) (xs1 : List ApiField) (sz1 : Int) (x : WeaveItem) (how : List EncoderOption) : Bool × List ApiRaw × List ApiField × Int × List ApiField × Int := if (f_wright x) = true then if x.Block = true then ((f_wblock out xs0 sz0 xs1 sz1 x how).1, (f_wblock out xs0 sz0 xs1 sz1 x how).2.1, (f_wblock out xs0 sz0 xs1 sz1 x how).2.2.1, (f_wblock out xs0 sz0 xs1 sz1 x how).2.2.2.1, (f_wblock out xs0 sz0 xs1 sz1 x how).2.2.2.2.1, (f_wblock out xs0 sz0 xs1 sz1 x how).2.2.2.2.2) else if x.F.Type_ = 0 then ((f_lput out x.F x.From).1, (f_lput out x.F x.From).2, xs0, sz0, xs1, sz1) else ((f_lput out x.F x.From).1, (f_lput out x.F x.From).2, xs0, sz0, xs1, sz1) else (false, out, xs0, sz0, xs1, sz1)
theorem s_wblock (w : Nat) (e0 : Nat) (t0 : Nat) (e1 : Nat) (t1 : Nat) (Ao : Option Addr) (co : Nat) (out : List ApiRaw) (A0 : Option Addr) (c0 : Nat) (xs0 : List ApiField) (sz0 : Int) (A1 : Option Addr) (c1 : Nat) (xs1 : List ApiField) (sz1 : Int) (x : WeaveItem) (Ax5 : Option Addr) (cx5 : Nat) (Ax6 : Option Addr) (cx6 : Nat) (Ax15 : Option Addr) (cx15 : Nat) (Ah : Option Addr) (ch : Nat) (how : List EncoderOption) (As : Option Addr) (cs : Nat) (Ap : Option Addr) (cp : Nat) (hs : x.F.Settings.length ≤ 1048576) (hd : x.F.Data.length ≤ 1073741824) (hc : fcost x.Fields ≤ 536870912) (hx0 : xs0.length + x.Fields.length ≤ 1073741824) (hx1 : xs1.length + x.Fields.length ≤ 1073741824) (ho : out.length ≤ 1073741824) (i1 : inK .i64 x.F.Type_) (i2 : inK .i64 x.F.Flags) (i3 : inK .i64 x.F.Stream) (hf : x.From = 0 ∨ x.From = 1) (hp : x.F.Pad = -1) :
    Spec Tryz.prog 19 [.pointer (some ⟨w, 0, none⟩), .agg #[.int .i64 x.From, .int .i64 x.F.Type_, .int .i64 x.F.Flags, .int .i64 x.F.Stream, .int .i64 x.F.Pad, .slice Ax5 x.F.Data.length cx5, .slice Ax6 x.F.Settings.length cx6, .int .i64 x.F.Weight, .int .i64 x.F.Parent, .bool x.F.Alone, .int .i64 x.F.Promised, .int .i64 x.F.Last, .int .i64 x.F.Code, .int .i64 x.F.Step, .bool x.Block, .slice Ax15 x.Fields.length cx15], .agg #[.slice As 0 cs, .slice Ah how.length ch, .slice Ap 0 cp, .int .i64 (-1)]].toArray [blk w 58 [.pointer (some ⟨e0, 0, none⟩), .pointer (some ⟨e1, 0, none⟩), .slice Ao out.length co], row kApiRaw 45 Ao co out, blk e0 85 [.pointer (some ⟨t0, 0, none⟩)], blk t0 108 [.slice A0 xs0.length c0, .int .i64 sz0, .int .i64 4096], row kApiField 146 A0 c0 xs0, blk e1 85 [.pointer (some ⟨t1, 0, none⟩)], blk t1 108 [.slice A1 xs1.length c1, .int .i64 sz1, .int .i64 4096], row kApiField 146 A1 c1 xs1, rd (Kd.int .u8) Ax5 cx5 x.F.Data, rd kApiSetting Ax6 cx6 x.F.Settings, rd kApiField Ax15 cx15 x.Fields, rd kEncoderOption Ah ch how, roc 0 0 [.int .i64 0, .int .i64 0, .int .i64 128, .int .i64 7, .int .i64 64, .int .i64 6, .int .i64 0, .int .i64 4, .int .i64 16, .int .i64 4, .int .i64 32, .int .i64 5]] (fun v L => ∃ (Bo : Option Addr), ∃ (do_ : Nat), ∃ (B0 : Option Addr), ∃ (d0 : Nat), ∃ (B1 : Option Addr), ∃ (d1 : Nat), v = .bool ((f_wblock out xs0 sz0 xs1 sz1 x how).1) ∧ L = [blk w 58 [.pointer (some ⟨e0, 0, none⟩), .pointer (some ⟨e1, 0, none⟩), .slice Bo (((f_wblock out xs0 sz0 xs1 sz1 x how).2.1).length) do_], row kApiRaw 45 Bo do_ ((f_wblock out xs0 sz0 xs1 sz1 x how).2.1), blk e0 85 [.pointer (some ⟨t0, 0, none⟩)], blk t0 108 [.slice B0 (((f_wblock out xs0 sz0 xs1 sz1 x how).2.2.1).length) d0, .int .i64 ((f_wblock out xs0 sz0 xs1 sz1 x how).2.2.2.1), .int .i64 4096], row kApiField 146 B0 d0 ((f_wblock out xs0 sz0 xs1 sz1 x how).2.2.1), blk e1 85 [.pointer (some ⟨t1, 0, none⟩)], blk t1 108 [.slice B1 (((f_wblock out xs0 sz0 xs1 sz1 x how).2.2.2.2.1).length) d1, .int .i64 ((f_wblock out xs0 sz0 xs1 sz1 x how).2.2.2.2.2), .int .i64 4096], row kApiField 146 B1 d1 ((f_wblock out xs0 sz0 xs1 sz1 x how).2.2.2.2.1), rd (Kd.int .u8) Ax5 cx5 x.F.Data, rd kApiSetting Ax6 cx6 x.F.Settings, rd kApiField Ax15 cx15 x.Fields, rd kEncoderOption Ah ch how, roc 0 0 [.int .i64 0, .int .i64 0, .int .i64 128, .int .i64 7, .int .i64 64, .int .i64 6, .int .i64 0, .int .i64 4, .int .i64 16, .int .i64 4, .int .i64 32, .int .i64 5]]) := by
  refine Spec.enter Tryz.func19 rfl Tryz.ntmps19 rfl rfl (fun w0 R0 F0 => ?_)
  refine J.seq ?_
  refine J.region ?_
  refine JL.ef (O1.box rfl rfl) rfl ?_
  rintro _ _ ⟨b_1, rfl, rfl⟩
  refine JL.ef (O1.box rfl rfl) rfl ?_
  rintro _ _ ⟨b_2, rfl, rfl⟩
  refine JL.qt (Qt.assign rfl) rfl ?_
  refine JL.nil ?_
  refine JN.code ?_
  refine J.seq ?_
  by_cases h1 : x.From = 0
  · refine J.at [blk b_2 53 [.slice As 0 cs, .slice Ah how.length ch, .slice Ap 0 cp, .int .i64 (-1)], blk b_1 61 [.int .i64 0, .int .i64 x.F.Type_, .int .i64 x.F.Flags, .int .i64 x.F.Stream, .int .i64 x.F.Pad, .slice Ax5 x.F.Data.length cx5, .slice Ax6 x.F.Settings.length cx6, .int .i64 x.F.Weight, .int .i64 x.F.Parent, .bool x.F.Alone, .int .i64 x.F.Promised, .int .i64 x.F.Last, .int .i64 x.F.Code, .int .i64 x.F.Step, .bool x.Block, .slice Ax15 x.Fields.length cx15], blk w 58 [.pointer (some ⟨e0, 0, none⟩), .pointer (some ⟨e1, 0, none⟩), .slice Ao out.length co], row kApiRaw 45 Ao co out, blk e0 85 [.pointer (some ⟨t0, 0, none⟩)], blk t0 108 [.slice A0 xs0.length c0, .int .i64 sz0, .int .i64 4096], row kApiField 146 A0 c0 xs0, blk e1 85 [.pointer (some ⟨t1, 0, none⟩)], blk t1 108 [.slice A1 xs1.length c1, .int .i64 sz1, .int .i64 4096], row kApiField 146 A1 c1 xs1, rd (Kd.int .u8) Ax5 cx5 x.F.Data, rd kApiSetting Ax6 cx6 x.F.Settings, rd kApiField Ax15 cx15 x.Fields, rd kEncoderOption Ah ch how, roc 0 0 [.int .i64 0, .int .i64 0, .int .i64 128, .int .i64 7, .int .i64 64, .int .i64 6, .int .i64 0, .int .i64 4, .int .i64 16, .int .i64 4, .int .i64 32, .int .i64 5]] (by rw [h1]; rfl) ?_
    refine J.sch (.qt 0 (.qt 1 (.qt 2 (.qt 3 (.qt 4 (.qt 5 (.qt 6 (.qt 7 (.qt 8 (.qt 9 (.qt 10 (.qt 11 (.qt 12 (.ef 13 [] (.qt 14 (.qt 15 (.qt 16 (.qt 17 (.qt 18 (.done)))))))))))))))))))) mixed (by repeat (first | exact Xe.noLook_body | refine noLook_then ?_ | refine noLook_block ?_)) (by kernel_rfl) ?_
    refine JS.q0 rfl (Qt.move rfl) rfl ?_
    refine JS.q0 rfl (Qt.fa (o' := 0) fo61_0 rfl rfl) rfl ?_
    refine JS.q1 (j := 1) rfl rfl rfl (Qt.ld 0 pl3 rfl rfl rfl) rfl ?_
    refine JS.q0 rfl (Qt.nck rfl) rfl ?_
    refine JS.q0 rfl (Qt.fa (o' := 0) fo58_0 rfl rfl) rfl ?_
    refine JS.q0 rfl (Qt.ia_arr Tryz.underlying56 sz55 rfl rfl (by decide) (by decide)) rfl ?_
    refine JS.q1 (j := 2) rfl rfl rfl (Qt.ld 0 pl55 rfl rfl rfl) rfl ?_
    refine JS.q0 rfl (Qt.fa (o' := 0) fo53_0 rfl rfl) rfl ?_
    refine JS.q1 (j := 0) rfl rfl rfl (Qt.ld 0 pl26 rfl rfl rfl) rfl ?_
    refine JS.q0 rfl (Qt.fa (o' := 15) fo61_3 rfl rfl) rfl ?_
    refine JS.q1 (j := 1) rfl rfl rfl (Qt.ld 0 pl41 rfl rfl rfl) rfl ?_
    refine JS.q0 rfl (Qt.fa (o' := 1) fo53_1 rfl rfl) rfl ?_
    refine JS.q1 (j := 0) rfl rfl rfl (Qt.ld 0 pl48 rfl rfl rfl) rfl ?_
    refine JS.e1 ?_
    refine JE.ef rfl (O1.call Tryz.func38 rfl rfl rfl [4, 4, 4, 9, 9, 9] rfl (s_enc e0 t0 A0 c0 xs0 sz0 4096 Ax15 cx15 x.Fields Ah ch how As cs (by omega) hc)) rfl ?_
    rintro _ _ ⟨_, ⟨A2_3, c2_4, A3_5, c3_6, rfl, rfl⟩, rfl⟩
    refine ⟨⟨.inl rfl, ⟨.inl rfl, ⟨.inl rfl, ⟨.inl rfl, ⟨.inl rfl, trivial⟩⟩⟩⟩⟩, ?_⟩
    refine JS.q0 rfl (Qt.move rfl) rfl ?_
    refine JS.q0 rfl (Qt.extract rfl rfl) rfl ?_
    refine JS.q0 rfl (Qt.extract rfl rfl) rfl ?_
    refine JS.q0 rfl (Qt.assign rfl) rfl ?_
    refine JS.q0 rfl (Qt.assign rfl) rfl ?_
    refine JS.done ?_
    refine JN.code ?_
    refine J.seq ?_
    refine J.seq ?_
    refine J.keep [0, 4, 5, 6, 7, 8] rfl ?_
    refine J.region ?_
    refine JL.qt (Qt.move rfl) rfl ?_
    refine JL.qt (Qt.bin (v := .bool false) (fun _ => neq_run) rfl rfl rfl) rfl ?_
    refine JL.nil ?_
    refine JN.code ?_
    refine J.cond_false rfl ?_
    refine J.skip ?_
    refine JN.code ?_
    refine J.seq ?_
    refine J.region ?_
    refine JL.qt (Qt.fa (o' := 1) fo61_1 rfl rfl) rfl ?_
    refine JL.qt (Qt.ldA 8 ag40 sz40 rfl rfl rfl rfl) rfl ?_
    refine JL.qt (Qt.fa (o' := 3) fo53_3 rfl rfl) rfl ?_
    refine JL.qt (Qt.ld 7 pl3 rfl rfl rfl) rfl ?_
    refine JL.call (O1.call Tryz.func21 rfl rfl rfl [14, 14] rfl (s_pad x.F Ax5 cx5 Ax6 cx6)) rfl ?_
    rintro _ _ ⟨rfl, rfl⟩
    refine JL.ef (O1.alloc ze40) rfl ?_
    rintro _ _ ⟨b_7, rfl, rfl⟩
    refine JL.sk (O1.stA 0 sz40 rfl rfl rfl rfl rfl rfl rfl rfl) ?_
    refine JL.nil ?_
    refine JN.code ?_
    refine J.seq ?_
    refine J.seq ?_
    refine J.at [blk b_7 40 [.int .i64 x.F.Type_, .int .i64 x.F.Flags, .int .i64 x.F.Stream, .int .i64 x.F.Pad, .slice Ax5 x.F.Data.length cx5, .slice Ax6 x.F.Settings.length cx6, .int .i64 x.F.Weight, .int .i64 x.F.Parent, .bool x.F.Alone, .int .i64 x.F.Promised, .int .i64 x.F.Last, .int .i64 x.F.Code, .int .i64 x.F.Step], rd (Kd.int .u8) Ax5 cx5 x.F.Data, rd kApiSetting Ax6 cx6 x.F.Settings, blk e0 85 [.pointer (some ⟨t0, 0, none⟩)], blk t0 108 [.slice A2_3 (((f_enc xs0 sz0 4096 x.Fields how).2.1).length) c2_4, .int .i64 ((f_enc xs0 sz0 4096 x.Fields how).2.2), .int .i64 4096], row kApiField 146 A2_3 c2_4 ((f_enc xs0 sz0 4096 x.Fields how).2.1), row (Kd.int .u8) 5 A3_5 c3_6 ((f_enc xs0 sz0 4096 x.Fields how).1), rd kApiField Ax15 cx15 x.Fields, rd kEncoderOption Ah ch how, roc 0 0 [.int .i64 0, .int .i64 0, .int .i64 128, .int .i64 7, .int .i64 64, .int .i64 6, .int .i64 0, .int .i64 4, .int .i64 16, .int .i64 4, .int .i64 32, .int .i64 5], blk b_2 53 [.slice As 0 cs, .slice Ah how.length ch, .slice Ap 0 cp, .int .i64 (-1)], blk b_1 61 [.int .i64 0, .int .i64 x.F.Type_, .int .i64 x.F.Flags, .int .i64 x.F.Stream, .int .i64 x.F.Pad, .slice Ax5 x.F.Data.length cx5, .slice Ax6 x.F.Settings.length cx6, .int .i64 x.F.Weight, .int .i64 x.F.Parent, .bool x.F.Alone, .int .i64 x.F.Promised, .int .i64 x.F.Last, .int .i64 x.F.Code, .int .i64 x.F.Step, .bool x.Block, .slice Ax15 x.Fields.length cx15], blk w 58 [.pointer (some ⟨e0, 0, none⟩), .pointer (some ⟨e1, 0, none⟩), .slice Ao out.length co], row kApiRaw 45 Ao co out, blk e1 85 [.pointer (some ⟨t1, 0, none⟩)], blk t1 108 [.slice A1 xs1.length c1, .int .i64 sz1, .int .i64 4096], row kApiField 146 A1 c1 xs1] rfl ?_
    refine J.region ?_
    refine JL.qt (Qt.fa (o' := 2) fo53_2 rfl rfl) rfl ?_
    refine JL.qt (Qt.ld 10 pl26 rfl rfl rfl) rfl ?_
    refine JL.qt (Qt.bi (fun _ _ => len_slice_run Tryz.underlying26) rfl) rfl ?_
    refine JL.qt (Qt.move rfl) rfl ?_
    refine JL.nil ?_
    refine JN.code ?_
    refine J.block ?_
    refine J.unroll 1 ?_
    refine J.seq ?_
    refine J.region ?_
    refine JL.qt (Qt.bin (v := .bool false) (fun _ => lss_run) rfl rfl rfl) rfl ?_
    refine JL.nil ?_
    refine JN.code ?_
    refine J.seq ?_
    refine J.cond_false rfl ?_
    refine J.exit ?_
    refine JN.code ?_
    refine J.seq ?_
    refine J.at [blk b_7 40 [.int .i64 x.F.Type_, .int .i64 x.F.Flags, .int .i64 x.F.Stream, .int .i64 x.F.Pad, .slice Ax5 x.F.Data.length cx5, .slice Ax6 x.F.Settings.length cx6, .int .i64 x.F.Weight, .int .i64 x.F.Parent, .bool x.F.Alone, .int .i64 x.F.Promised, .int .i64 x.F.Last, .int .i64 x.F.Code, .int .i64 x.F.Step], rd (Kd.int .u8) Ax5 cx5 x.F.Data, rd kApiSetting Ax6 cx6 x.F.Settings, blk e0 85 [.pointer (some ⟨t0, 0, none⟩)], blk t0 108 [.slice A2_3 (((f_enc xs0 sz0 4096 x.Fields how).2.1).length) c2_4, .int .i64 ((f_enc xs0 sz0 4096 x.Fields how).2.2), .int .i64 4096], row kApiField 146 A2_3 c2_4 ((f_enc xs0 sz0 4096 x.Fields how).2.1), row (Kd.int .u8) 5 A3_5 c3_6 ((f_enc xs0 sz0 4096 x.Fields how).1), rd kApiField Ax15 cx15 x.Fields, rd kEncoderOption Ah ch how, roc 0 0 [.int .i64 0, .int .i64 0, .int .i64 128, .int .i64 7, .int .i64 64, .int .i64 6, .int .i64 0, .int .i64 4, .int .i64 16, .int .i64 4, .int .i64 32, .int .i64 5], blk b_2 53 [.slice As 0 cs, .slice Ah how.length ch, .slice Ap 0 cp, .int .i64 (-1)], blk b_1 61 [.int .i64 0, .int .i64 x.F.Type_, .int .i64 x.F.Flags, .int .i64 x.F.Stream, .int .i64 x.F.Pad, .slice Ax5 x.F.Data.length cx5, .slice Ax6 x.F.Settings.length cx6, .int .i64 x.F.Weight, .int .i64 x.F.Parent, .bool x.F.Alone, .int .i64 x.F.Promised, .int .i64 x.F.Last, .int .i64 x.F.Code, .int .i64 x.F.Step, .bool x.Block, .slice Ax15 x.Fields.length cx15], blk w 58 [.pointer (some ⟨e0, 0, none⟩), .pointer (some ⟨e1, 0, none⟩), .slice Ao out.length co], row kApiRaw 45 Ao co out, blk e1 85 [.pointer (some ⟨t1, 0, none⟩)], blk t1 108 [.slice A1 xs1.length c1, .int .i64 sz1, .int .i64 4096], row kApiField 146 A1 c1 xs1] rfl ?_
    refine J.region ?_
    refine JL.qt (Qt.move rfl) rfl ?_
    refine JL.qt (Qt.fa (o' := 4) fo40_4 rfl rfl) rfl ?_
    refine JL.sk (O1.st 0 sz37 rfl rfl rfl rfl rfl rfl) ?_
    refine JL.nil ?_
    refine JN.code ?_
    refine J.seq ?_
    refine J.at [blk b_7 40 [.int .i64 x.F.Type_, .int .i64 x.F.Flags, .int .i64 x.F.Stream, .int .i64 x.F.Pad, .slice A3_5 (((f_enc xs0 sz0 4096 x.Fields how).1).length) c3_6, .slice Ax6 x.F.Settings.length cx6, .int .i64 x.F.Weight, .int .i64 x.F.Parent, .bool x.F.Alone, .int .i64 x.F.Promised, .int .i64 x.F.Last, .int .i64 x.F.Code, .int .i64 x.F.Step], rd (Kd.int .u8) Ax5 cx5 x.F.Data, rd kApiSetting Ax6 cx6 x.F.Settings, blk e0 85 [.pointer (some ⟨t0, 0, none⟩)], blk t0 108 [.slice A2_3 (((f_enc xs0 sz0 4096 x.Fields how).2.1).length) c2_4, .int .i64 ((f_enc xs0 sz0 4096 x.Fields how).2.2), .int .i64 4096], row kApiField 146 A2_3 c2_4 ((f_enc xs0 sz0 4096 x.Fields how).2.1), row (Kd.int .u8) 5 A3_5 c3_6 ((f_enc xs0 sz0 4096 x.Fields how).1), rd kApiField Ax15 cx15 x.Fields, rd kEncoderOption Ah ch how, roc 0 0 [.int .i64 0, .int .i64 0, .int .i64 128, .int .i64 7, .int .i64 64, .int .i64 6, .int .i64 0, .int .i64 4, .int .i64 16, .int .i64 4, .int .i64 32, .int .i64 5], blk b_2 53 [.slice As 0 cs, .slice Ah how.length ch, .slice Ap 0 cp, .int .i64 (-1)], blk b_1 61 [.int .i64 0, .int .i64 x.F.Type_, .int .i64 x.F.Flags, .int .i64 x.F.Stream, .int .i64 x.F.Pad, .slice Ax5 x.F.Data.length cx5, .slice Ax6 x.F.Settings.length cx6, .int .i64 x.F.Weight, .int .i64 x.F.Parent, .bool x.F.Alone, .int .i64 x.F.Promised, .int .i64 x.F.Last, .int .i64 x.F.Code, .int .i64 x.F.Step, .bool x.Block, .slice Ax15 x.Fields.length cx15], blk w 58 [.pointer (some ⟨e0, 0, none⟩), .pointer (some ⟨e1, 0, none⟩), .slice Ao out.length co], row kApiRaw 45 Ao co out, blk e1 85 [.pointer (some ⟨t1, 0, none⟩)], blk t1 108 [.slice A1 xs1.length c1, .int .i64 sz1, .int .i64 4096], row kApiField 146 A1 c1 xs1] rfl ?_
    refine J.region ?_
    refine JL.qt (Qt.fa (o' := 1) fo40_1 rfl rfl) rfl ?_
    refine JL.qt (Qt.ld 0 pl3 rfl rfl rfl) rfl ?_
    refine JL.qt (Qt.bin (fun _ => or_run) rfl rfl rfl) rfl ?_
    refine JL.qt (Qt.fa (o' := 1) fo40_1 rfl rfl) rfl ?_
    refine JL.sk (O1.st 0 sz3 rfl rfl rfl rfl rfl rfl) ?_
    refine JL.nil ?_
    refine JN.code ?_
    refine J.seq ?_
    refine J.keep [0, 4, 6, 9] rfl ?_
    refine J.at [blk b_7 40 [.int .i64 x.F.Type_, .int .i64 (Sl.bor .i64 x.F.Flags 4), .int .i64 x.F.Stream, .int .i64 x.F.Pad, .slice A3_5 (((f_enc xs0 sz0 4096 x.Fields how).1).length) c3_6, .slice Ax6 x.F.Settings.length cx6, .int .i64 x.F.Weight, .int .i64 x.F.Parent, .bool x.F.Alone, .int .i64 x.F.Promised, .int .i64 x.F.Last, .int .i64 x.F.Code, .int .i64 x.F.Step], rd (Kd.int .u8) Ax5 cx5 x.F.Data, rd kApiSetting Ax6 cx6 x.F.Settings, blk e0 85 [.pointer (some ⟨t0, 0, none⟩)], blk t0 108 [.slice A2_3 (((f_enc xs0 sz0 4096 x.Fields how).2.1).length) c2_4, .int .i64 ((f_enc xs0 sz0 4096 x.Fields how).2.2), .int .i64 4096], row kApiField 146 A2_3 c2_4 ((f_enc xs0 sz0 4096 x.Fields how).2.1), row (Kd.int .u8) 5 A3_5 c3_6 ((f_enc xs0 sz0 4096 x.Fields how).1), rd kApiField Ax15 cx15 x.Fields, rd kEncoderOption Ah ch how, roc 0 0 [.int .i64 0, .int .i64 0, .int .i64 128, .int .i64 7, .int .i64 64, .int .i64 6, .int .i64 0, .int .i64 4, .int .i64 16, .int .i64 4, .int .i64 32, .int .i64 5], blk b_2 53 [.slice As 0 cs, .slice Ah how.length ch, .slice Ap 0 cp, .int .i64 (-1)], blk b_1 61 [.int .i64 0, .int .i64 x.F.Type_, .int .i64 x.F.Flags, .int .i64 x.F.Stream, .int .i64 x.F.Pad, .slice Ax5 x.F.Data.length cx5, .slice Ax6 x.F.Settings.length cx6, .int .i64 x.F.Weight, .int .i64 x.F.Parent, .bool x.F.Alone, .int .i64 x.F.Promised, .int .i64 x.F.Last, .int .i64 x.F.Code, .int .i64 x.F.Step, .bool x.Block, .slice Ax15 x.Fields.length cx15], blk w 58 [.pointer (some ⟨e0, 0, none⟩), .pointer (some ⟨e1, 0, none⟩), .slice Ao out.length co], row kApiRaw 45 Ao co out, blk e1 85 [.pointer (some ⟨t1, 0, none⟩)], blk t1 108 [.slice A1 xs1.length c1, .int .i64 sz1, .int .i64 4096], row kApiField 146 A1 c1 xs1] rfl ?_
    refine J.region ?_
    refine JL.qt (Qt.move rfl) rfl ?_
    refine JL.qt (Qt.ldA 0 ag40 sz40 rfl rfl rfl rfl) rfl ?_
    refine JL.qt (Qt.fa (o' := 0) fo61_0 rfl rfl) rfl ?_
    refine JL.qt (Qt.ld 11 pl3 rfl rfl rfl) rfl ?_
    refine JL.upd [6] rfl (row_freeze (by have := f_enc_le (xs := xs0) (sz := sz0) (mx := 4096) (how := how) hc; have := f_enc_le (xs := xs1) (sz := sz1) (mx := 4096) (how := how) hc; show _ ≤ 1099511627776; omega)) ?_
    refine JL.call (O1.call Tryz.func20 rfl rfl rfl [12, 12, 0, 2] rfl (s_lput w (.pointer (some ⟨e0, 0, none⟩)) (.pointer (some ⟨e1, 0, none⟩)) Ao co out (⟨x.F.Type_, Sl.bor .i64 x.F.Flags 4, x.F.Stream, x.F.Pad, (f_enc xs0 sz0 4096 x.Fields how).1, x.F.Settings, x.F.Weight, x.F.Parent, x.F.Alone, x.F.Promised, x.F.Last, x.F.Code, x.F.Step⟩ : ApiFrame) 0 A3_5 c3_6 Ax6 cx6 hs (f_enc_le hc) hp ho i1 (wrap64_in _) i3 ⟨by decide, by decide⟩)) rfl ?_
    rintro _ _ ⟨A2_8, c2_9, rfl, rfl⟩
    refine JL.qt (Qt.assign rfl) rfl ?_
    refine JL.nil ?_
    refine JN.code ?_
    refine J.ret ?_
    refine JN.back (res1 rfl rfl) [0, 0, 4, 4, 4, 9, 9, 9, 3, 1, 2, 2, 2] rfl ?_
    exact ⟨A2_8, c2_9, A2_3, c2_4, A1, c1, by unfold f_wblock; rw [if_pos h1] <;> rfl, by unfold f_wblock; rw [if_pos h1] <;> rfl⟩
  · have hf1 : x.From = 1 := by omega
    refine J.at [blk b_2 53 [.slice As 0 cs, .slice Ah how.length ch, .slice Ap 0 cp, .int .i64 (-1)], blk b_1 61 [.int .i64 1, .int .i64 x.F.Type_, .int .i64 x.F.Flags, .int .i64 x.F.Stream, .int .i64 x.F.Pad, .slice Ax5 x.F.Data.length cx5, .slice Ax6 x.F.Settings.length cx6, .int .i64 x.F.Weight, .int .i64 x.F.Parent, .bool x.F.Alone, .int .i64 x.F.Promised, .int .i64 x.F.Last, .int .i64 x.F.Code, .int .i64 x.F.Step, .bool x.Block, .slice Ax15 x.Fields.length cx15], blk w 58 [.pointer (some ⟨e0, 0, none⟩), .pointer (some ⟨e1, 0, none⟩), .slice Ao out.length co], row kApiRaw 45 Ao co out, blk e0 85 [.pointer (some ⟨t0, 0, none⟩)], blk t0 108 [.slice A0 xs0.length c0, .int .i64 sz0, .int .i64 4096], row kApiField 146 A0 c0 xs0, blk e1 85 [.pointer (some ⟨t1, 0, none⟩)], blk t1 108 [.slice A1 xs1.length c1, .int .i64 sz1, .int .i64 4096], row kApiField 146 A1 c1 xs1, rd (Kd.int .u8) Ax5 cx5 x.F.Data, rd kApiSetting Ax6 cx6 x.F.Settings, rd kApiField Ax15 cx15 x.Fields, rd kEncoderOption Ah ch how, roc 0 0 [.int .i64 0, .int .i64 0, .int .i64 128, .int .i64 7, .int .i64 64, .int .i64 6, .int .i64 0, .int .i64 4, .int .i64 16, .int .i64 4, .int .i64 32, .int .i64 5]] (by rw [hf1]; rfl) ?_
    refine J.sch (.qt 0 (.qt 1 (.qt 2 (.qt 3 (.qt 4 (.qt 5 (.qt 6 (.qt 7 (.qt 8 (.qt 9 (.qt 10 (.qt 11 (.qt 12 (.ef 13 [] (.qt 14 (.qt 15 (.qt 16 (.qt 17 (.qt 18 (.done)))))))))))))))))))) mixed (by repeat (first | exact Xe.noLook_body | refine noLook_then ?_ | refine noLook_block ?_)) (by kernel_rfl) ?_
    refine JS.q0 rfl (Qt.move rfl) rfl ?_
    refine JS.q0 rfl (Qt.fa (o' := 0) fo61_0 rfl rfl) rfl ?_
    refine JS.q1 (j := 1) rfl rfl rfl (Qt.ld 0 pl3 rfl rfl rfl) rfl ?_
    refine JS.q0 rfl (Qt.nck rfl) rfl ?_
    refine JS.q0 rfl (Qt.fa (o' := 0) fo58_0 rfl rfl) rfl ?_
    refine JS.q0 rfl (Qt.ia_arr Tryz.underlying56 sz55 rfl rfl (by decide) (by decide)) rfl ?_
    refine JS.q1 (j := 2) rfl rfl rfl (Qt.ld 0 pl55 rfl rfl rfl) rfl ?_
    refine JS.q0 rfl (Qt.fa (o' := 0) fo53_0 rfl rfl) rfl ?_
    refine JS.q1 (j := 0) rfl rfl rfl (Qt.ld 0 pl26 rfl rfl rfl) rfl ?_
    refine JS.q0 rfl (Qt.fa (o' := 15) fo61_3 rfl rfl) rfl ?_
    refine JS.q1 (j := 1) rfl rfl rfl (Qt.ld 0 pl41 rfl rfl rfl) rfl ?_
    refine JS.q0 rfl (Qt.fa (o' := 1) fo53_1 rfl rfl) rfl ?_
    refine JS.q1 (j := 0) rfl rfl rfl (Qt.ld 0 pl48 rfl rfl rfl) rfl ?_
    refine JS.e1 ?_
    refine JE.ef rfl (O1.call Tryz.func38 rfl rfl rfl [7, 7, 7, 9, 9, 9] rfl (s_enc e1 t1 A1 c1 xs1 sz1 4096 Ax15 cx15 x.Fields Ah ch how As cs (by omega) hc)) rfl ?_
    rintro _ _ ⟨_, ⟨A2_10, c2_11, A3_12, c3_13, rfl, rfl⟩, rfl⟩
    refine ⟨⟨.inl rfl, ⟨.inl rfl, ⟨.inl rfl, ⟨.inl rfl, ⟨.inl rfl, trivial⟩⟩⟩⟩⟩, ?_⟩
    refine JS.q0 rfl (Qt.move rfl) rfl ?_
    refine JS.q0 rfl (Qt.extract rfl rfl) rfl ?_
    refine JS.q0 rfl (Qt.extract rfl rfl) rfl ?_
    refine JS.q0 rfl (Qt.assign rfl) rfl ?_
    refine JS.q0 rfl (Qt.assign rfl) rfl ?_
    refine JS.done ?_
    refine JN.code ?_
    refine J.seq ?_
    refine J.seq ?_
    refine J.keep [0, 4, 5, 6, 7, 8] rfl ?_
    refine J.region ?_
    refine JL.qt (Qt.move rfl) rfl ?_
    refine JL.qt (Qt.bin (v := .bool false) (fun _ => neq_run) rfl rfl rfl) rfl ?_
    refine JL.nil ?_
    refine JN.code ?_
    refine J.cond_false rfl ?_
    refine J.skip ?_
    refine JN.code ?_
    refine J.seq ?_
    refine J.region ?_
    refine JL.qt (Qt.fa (o' := 1) fo61_1 rfl rfl) rfl ?_
    refine JL.qt (Qt.ldA 8 ag40 sz40 rfl rfl rfl rfl) rfl ?_
    refine JL.qt (Qt.fa (o' := 3) fo53_3 rfl rfl) rfl ?_
    refine JL.qt (Qt.ld 7 pl3 rfl rfl rfl) rfl ?_
    refine JL.call (O1.call Tryz.func21 rfl rfl rfl [14, 14] rfl (s_pad x.F Ax5 cx5 Ax6 cx6)) rfl ?_
    rintro _ _ ⟨rfl, rfl⟩
    refine JL.ef (O1.alloc ze40) rfl ?_
    rintro _ _ ⟨b_14, rfl, rfl⟩
    refine JL.sk (O1.stA 0 sz40 rfl rfl rfl rfl rfl rfl rfl rfl) ?_
    refine JL.nil ?_
    refine JN.code ?_
    refine J.seq ?_
    refine J.seq ?_
    refine J.at [blk b_14 40 [.int .i64 x.F.Type_, .int .i64 x.F.Flags, .int .i64 x.F.Stream, .int .i64 x.F.Pad, .slice Ax5 x.F.Data.length cx5, .slice Ax6 x.F.Settings.length cx6, .int .i64 x.F.Weight, .int .i64 x.F.Parent, .bool x.F.Alone, .int .i64 x.F.Promised, .int .i64 x.F.Last, .int .i64 x.F.Code, .int .i64 x.F.Step], rd (Kd.int .u8) Ax5 cx5 x.F.Data, rd kApiSetting Ax6 cx6 x.F.Settings, blk e1 85 [.pointer (some ⟨t1, 0, none⟩)], blk t1 108 [.slice A2_10 (((f_enc xs1 sz1 4096 x.Fields how).2.1).length) c2_11, .int .i64 ((f_enc xs1 sz1 4096 x.Fields how).2.2), .int .i64 4096], row kApiField 146 A2_10 c2_11 ((f_enc xs1 sz1 4096 x.Fields how).2.1), row (Kd.int .u8) 5 A3_12 c3_13 ((f_enc xs1 sz1 4096 x.Fields how).1), rd kApiField Ax15 cx15 x.Fields, rd kEncoderOption Ah ch how, roc 0 0 [.int .i64 0, .int .i64 0, .int .i64 128, .int .i64 7, .int .i64 64, .int .i64 6, .int .i64 0, .int .i64 4, .int .i64 16, .int .i64 4, .int .i64 32, .int .i64 5], blk b_2 53 [.slice As 0 cs, .slice Ah how.length ch, .slice Ap 0 cp, .int .i64 (-1)], blk b_1 61 [.int .i64 1, .int .i64 x.F.Type_, .int .i64 x.F.Flags, .int .i64 x.F.Stream, .int .i64 x.F.Pad, .slice Ax5 x.F.Data.length cx5, .slice Ax6 x.F.Settings.length cx6, .int .i64 x.F.Weight, .int .i64 x.F.Parent, .bool x.F.Alone, .int .i64 x.F.Promised, .int .i64 x.F.Last, .int .i64 x.F.Code, .int .i64 x.F.Step, .bool x.Block, .slice Ax15 x.Fields.length cx15], blk w 58 [.pointer (some ⟨e0, 0, none⟩), .pointer (some ⟨e1, 0, none⟩), .slice Ao out.length co], row kApiRaw 45 Ao co out, blk e0 85 [.pointer (some ⟨t0, 0, none⟩)], blk t0 108 [.slice A0 xs0.length c0, .int .i64 sz0, .int .i64 4096], row kApiField 146 A0 c0 xs0] rfl ?_
    refine J.region ?_
    refine JL.qt (Qt.fa (o' := 2) fo53_2 rfl rfl) rfl ?_
    refine JL.qt (Qt.ld 10 pl26 rfl rfl rfl) rfl ?_
    refine JL.qt (Qt.bi (fun _ _ => len_slice_run Tryz.underlying26) rfl) rfl ?_
    refine JL.qt (Qt.move rfl) rfl ?_
    refine JL.nil ?_
    refine JN.code ?_
    refine J.block ?_
    refine J.unroll 1 ?_
    refine J.seq ?_
    refine J.region ?_
    refine JL.qt (Qt.bin (v := .bool false) (fun _ => lss_run) rfl rfl rfl) rfl ?_
    refine JL.nil ?_
    refine JN.code ?_
    refine J.seq ?_
    refine J.cond_false rfl ?_
    refine J.exit ?_
    refine JN.code ?_
    refine J.seq ?_
    refine J.at [blk b_14 40 [.int .i64 x.F.Type_, .int .i64 x.F.Flags, .int .i64 x.F.Stream, .int .i64 x.F.Pad, .slice Ax5 x.F.Data.length cx5, .slice Ax6 x.F.Settings.length cx6, .int .i64 x.F.Weight, .int .i64 x.F.Parent, .bool x.F.Alone, .int .i64 x.F.Promised, .int .i64 x.F.Last, .int .i64 x.F.Code, .int .i64 x.F.Step], rd (Kd.int .u8) Ax5 cx5 x.F.Data, rd kApiSetting Ax6 cx6 x.F.Settings, blk e1 85 [.pointer (some ⟨t1, 0, none⟩)], blk t1 108 [.slice A2_10 (((f_enc xs1 sz1 4096 x.Fields how).2.1).length) c2_11, .int .i64 ((f_enc xs1 sz1 4096 x.Fields how).2.2), .int .i64 4096], row kApiField 146 A2_10 c2_11 ((f_enc xs1 sz1 4096 x.Fields how).2.1), row (Kd.int .u8) 5 A3_12 c3_13 ((f_enc xs1 sz1 4096 x.Fields how).1), rd kApiField Ax15 cx15 x.Fields, rd kEncoderOption Ah ch how, roc 0 0 [.int .i64 0, .int .i64 0, .int .i64 128, .int .i64 7, .int .i64 64, .int .i64 6, .int .i64 0, .int .i64 4, .int .i64 16, .int .i64 4, .int .i64 32, .int .i64 5], blk b_2 53 [.slice As 0 cs, .slice Ah how.length ch, .slice Ap 0 cp, .int .i64 (-1)], blk b_1 61 [.int .i64 1, .int .i64 x.F.Type_, .int .i64 x.F.Flags, .int .i64 x.F.Stream, .int .i64 x.F.Pad, .slice Ax5 x.F.Data.length cx5, .slice Ax6 x.F.Settings.length cx6, .int .i64 x.F.Weight, .int .i64 x.F.Parent, .bool x.F.Alone, .int .i64 x.F.Promised, .int .i64 x.F.Last, .int .i64 x.F.Code, .int .i64 x.F.Step, .bool x.Block, .slice Ax15 x.Fields.length cx15], blk w 58 [.pointer (some ⟨e0, 0, none⟩), .pointer (some ⟨e1, 0, none⟩), .slice Ao out.length co], row kApiRaw 45 Ao co out, blk e0 85 [.pointer (some ⟨t0, 0, none⟩)], blk t0 108 [.slice A0 xs0.length c0, .int .i64 sz0, .int .i64 4096], row kApiField 146 A0 c0 xs0] rfl ?_
    refine J.region ?_
    refine JL.qt (Qt.move rfl) rfl ?_
    refine JL.qt (Qt.fa (o' := 4) fo40_4 rfl rfl) rfl ?_
    refine JL.sk (O1.st 0 sz37 rfl rfl rfl rfl rfl rfl) ?_
    refine JL.nil ?_
    refine JN.code ?_
    refine J.seq ?_
    refine J.at [blk b_14 40 [.int .i64 x.F.Type_, .int .i64 x.F.Flags, .int .i64 x.F.Stream, .int .i64 x.F.Pad, .slice A3_12 (((f_enc xs1 sz1 4096 x.Fields how).1).length) c3_13, .slice Ax6 x.F.Settings.length cx6, .int .i64 x.F.Weight, .int .i64 x.F.Parent, .bool x.F.Alone, .int .i64 x.F.Promised, .int .i64 x.F.Last, .int .i64 x.F.Code, .int .i64 x.F.Step], rd (Kd.int .u8) Ax5 cx5 x.F.Data, rd kApiSetting Ax6 cx6 x.F.Settings, blk e1 85 [.pointer (some ⟨t1, 0, none⟩)], blk t1 108 [.slice A2_10 (((f_enc xs1 sz1 4096 x.Fields how).2.1).length) c2_11, .int .i64 ((f_enc xs1 sz1 4096 x.Fields how).2.2), .int .i64 4096], row kApiField 146 A2_10 c2_11 ((f_enc xs1 sz1 4096 x.Fields how).2.1), row (Kd.int .u8) 5 A3_12 c3_13 ((f_enc xs1 sz1 4096 x.Fields how).1), rd kApiField Ax15 cx15 x.Fields, rd kEncoderOption Ah ch how, roc 0 0 [.int .i64 0, .int .i64 0, .int .i64 128, .int .i64 7, .int .i64 64, .int .i64 6, .int .i64 0, .int .i64 4, .int .i64 16, .int .i64 4, .int .i64 32, .int .i64 5], blk b_2 53 [.slice As 0 cs, .slice Ah how.length ch, .slice Ap 0 cp, .int .i64 (-1)], blk b_1 61 [.int .i64 1, .int .i64 x.F.Type_, .int .i64 x.F.Flags, .int .i64 x.F.Stream, .int .i64 x.F.Pad, .slice Ax5 x.F.Data.length cx5, .slice Ax6 x.F.Settings.length cx6, .int .i64 x.F.Weight, .int .i64 x.F.Parent, .bool x.F.Alone, .int .i64 x.F.Promised, .int .i64 x.F.Last, .int .i64 x.F.Code, .int .i64 x.F.Step, .bool x.Block, .slice Ax15 x.Fields.length cx15], blk w 58 [.pointer (some ⟨e0, 0, none⟩), .pointer (some ⟨e1, 0, none⟩), .slice Ao out.length co], row kApiRaw 45 Ao co out, blk e0 85 [.pointer (some ⟨t0, 0, none⟩)], blk t0 108 [.slice A0 xs0.length c0, .int .i64 sz0, .int .i64 4096], row kApiField 146 A0 c0 xs0] rfl ?_
    refine J.region ?_
    refine JL.qt (Qt.fa (o' := 1) fo40_1 rfl rfl) rfl ?_
    refine JL.qt (Qt.ld 0 pl3 rfl rfl rfl) rfl ?_
    refine JL.qt (Qt.bin (fun _ => or_run) rfl rfl rfl) rfl ?_
    refine JL.qt (Qt.fa (o' := 1) fo40_1 rfl rfl) rfl ?_
    refine JL.sk (O1.st 0 sz3 rfl rfl rfl rfl rfl rfl) ?_
    refine JL.nil ?_
    refine JN.code ?_
    refine J.seq ?_
    refine J.keep [0, 4, 6, 9] rfl ?_
    refine J.at [blk b_14 40 [.int .i64 x.F.Type_, .int .i64 (Sl.bor .i64 x.F.Flags 4), .int .i64 x.F.Stream, .int .i64 x.F.Pad, .slice A3_12 (((f_enc xs1 sz1 4096 x.Fields how).1).length) c3_13, .slice Ax6 x.F.Settings.length cx6, .int .i64 x.F.Weight, .int .i64 x.F.Parent, .bool x.F.Alone, .int .i64 x.F.Promised, .int .i64 x.F.Last, .int .i64 x.F.Code, .int .i64 x.F.Step], rd (Kd.int .u8) Ax5 cx5 x.F.Data, rd kApiSetting Ax6 cx6 x.F.Settings, blk e1 85 [.pointer (some ⟨t1, 0, none⟩)], blk t1 108 [.slice A2_10 (((f_enc xs1 sz1 4096 x.Fields how).2.1).length) c2_11, .int .i64 ((f_enc xs1 sz1 4096 x.Fields how).2.2), .int .i64 4096], row kApiField 146 A2_10 c2_11 ((f_enc xs1 sz1 4096 x.Fields how).2.1), row (Kd.int .u8) 5 A3_12 c3_13 ((f_enc xs1 sz1 4096 x.Fields how).1), rd kApiField Ax15 cx15 x.Fields, rd kEncoderOption Ah ch how, roc 0 0 [.int .i64 0, .int .i64 0, .int .i64 128, .int .i64 7, .int .i64 64, .int .i64 6, .int .i64 0, .int .i64 4, .int .i64 16, .int .i64 4, .int .i64 32, .int .i64 5], blk b_2 53 [.slice As 0 cs, .slice Ah how.length ch, .slice Ap 0 cp, .int .i64 (-1)], blk b_1 61 [.int .i64 1, .int .i64 x.F.Type_, .int .i64 x.F.Flags, .int .i64 x.F.Stream, .int .i64 x.F.Pad, .slice Ax5 x.F.Data.length cx5, .slice Ax6 x.F.Settings.length cx6, .int .i64 x.F.Weight, .int .i64 x.F.Parent, .bool x.F.Alone, .int .i64 x.F.Promised, .int .i64 x.F.Last, .int .i64 x.F.Code, .int .i64 x.F.Step, .bool x.Block, .slice Ax15 x.Fields.length cx15], blk w 58 [.pointer (some ⟨e0, 0, none⟩), .pointer (some ⟨e1, 0, none⟩), .slice Ao out.length co], row kApiRaw 45 Ao co out, blk e0 85 [.pointer (some ⟨t0, 0, none⟩)], blk t0 108 [.slice A0 xs0.length c0, .int .i64 sz0, .int .i64 4096], row kApiField 146 A0 c0 xs0] rfl ?_
    refine J.region ?_
    refine JL.qt (Qt.move rfl) rfl ?_
    refine JL.qt (Qt.ldA 0 ag40 sz40 rfl rfl rfl rfl) rfl ?_
    refine JL.qt (Qt.fa (o' := 0) fo61_0 rfl rfl) rfl ?_
    refine JL.qt (Qt.ld 11 pl3 rfl rfl rfl) rfl ?_
    refine JL.upd [6] rfl (row_freeze (by have := f_enc_le (xs := xs0) (sz := sz0) (mx := 4096) (how := how) hc; have := f_enc_le (xs := xs1) (sz := sz1) (mx := 4096) (how := how) hc; show _ ≤ 1099511627776; omega)) ?_
    refine JL.call (O1.call Tryz.func20 rfl rfl rfl [12, 12, 0, 2] rfl (s_lput w (.pointer (some ⟨e0, 0, none⟩)) (.pointer (some ⟨e1, 0, none⟩)) Ao co out (⟨x.F.Type_, Sl.bor .i64 x.F.Flags 4, x.F.Stream, x.F.Pad, (f_enc xs1 sz1 4096 x.Fields how).1, x.F.Settings, x.F.Weight, x.F.Parent, x.F.Alone, x.F.Promised, x.F.Last, x.F.Code, x.F.Step⟩ : ApiFrame) 1 A3_12 c3_13 Ax6 cx6 hs (f_enc_le hc) hp ho i1 (wrap64_in _) i3 ⟨by decide, by decide⟩)) rfl ?_
    rintro _ _ ⟨A2_15, c2_16, rfl, rfl⟩
    refine JL.qt (Qt.assign rfl) rfl ?_
    refine JL.nil ?_
    refine JN.code ?_
    refine J.ret ?_
    refine JN.back (res1 rfl rfl) [0, 0, 12, 12, 12, 4, 4, 4, 3, 1, 2, 2, 2] rfl ?_
    exact ⟨A2_15, c2_16, A0, c0, A2_10, c2_11, by unfold f_wblock; rw [if_neg h1] <;> rfl, by unfold f_wblock; rw [if_neg h1] <;> rfl⟩
theorem s_witem (w : Nat) (e0 : Nat) (t0 : Nat) (e1 : Nat) (t1 : Nat) (Ao : Option Addr) (co : Nat) (out : List ApiRaw) (A0 : Option Addr) (c0 : Nat) (xs0 : List ApiField) (sz0 : Int) (A1 : Option Addr) (c1 : Nat) (xs1 : List ApiField) (sz1 : Int) (x : WeaveItem) (Ax5 : Option Addr) (cx5 : Nat) (Ax6 : Option Addr) (cx6 : Nat) (Ax15 : Option Addr) (cx15 : Nat) (Ah : Option Addr) (ch : Nat) (how : List EncoderOption) (As : Option Addr) (cs : Nat) (Ap : Option Addr) (cp : Nat) (hs : x.F.Settings.length ≤ 1048576) (hd : x.F.Data.length ≤ 1073741824) (hc : fcost x.Fields ≤ 536870912) (hx0 : xs0.length + x.Fields.length ≤ 1073741824) (hx1 : xs1.length + x.Fields.length ≤ 1073741824) (ho : out.length ≤ 1073741824) (i1 : inK .i64 x.F.Type_) (i2 : inK .i64 x.F.Flags) (i3 : inK .i64 x.F.Stream) :
    Spec Tryz.prog 10 [.pointer (some ⟨w, 0, none⟩), .agg #[.int .i64 x.From, .int .i64 x.F.Type_, .int .i64 x.F.Flags, .int .i64 x.F.Stream, .int .i64 x.F.Pad, .slice Ax5 x.F.Data.length cx5, .slice Ax6 x.F.Settings.length cx6, .int .i64 x.F.Weight, .int .i64 x.F.Parent, .bool x.F.Alone, .int .i64 x.F.Promised, .int .i64 x.F.Last, .int .i64 x.F.Code, .int .i64 x.F.Step, .bool x.Block, .slice Ax15 x.Fields.length cx15], .agg #[.slice As 0 cs, .slice Ah how.length ch, .slice Ap 0 cp, .int .i64 (-1)]].toArray [blk w 58 [.pointer (some ⟨e0, 0, none⟩), .pointer (some ⟨e1, 0, none⟩), .slice Ao out.length co], row kApiRaw 45 Ao co out, blk e0 85 [.pointer (some ⟨t0, 0, none⟩)], blk t0 108 [.slice A0 xs0.length c0, .int .i64 sz0, .int .i64 4096], row kApiField 146 A0 c0 xs0, blk e1 85 [.pointer (some ⟨t1, 0, none⟩)], blk t1 108 [.slice A1 xs1.length c1, .int .i64 sz1, .int .i64 4096], row kApiField 146 A1 c1 xs1, rd (Kd.int .u8) Ax5 cx5 x.F.Data, rd kApiSetting Ax6 cx6 x.F.Settings, rd kApiField Ax15 cx15 x.Fields, rd kEncoderOption Ah ch how, roc 0 0 [.int .i64 0, .int .i64 0, .int .i64 128, .int .i64 7, .int .i64 64, .int .i64 6, .int .i64 0, .int .i64 4, .int .i64 16, .int .i64 4, .int .i64 32, .int .i64 5]] (fun v L => ∃ (Bo : Option Addr), ∃ (do_ : Nat), ∃ (B0 : Option Addr), ∃ (d0 : Nat), ∃ (B1 : Option Addr), ∃ (d1 : Nat), v = .bool ((f_witem out xs0 sz0 xs1 sz1 x how).1) ∧ L = [blk w 58 [.pointer (some ⟨e0, 0, none⟩), .pointer (some ⟨e1, 0, none⟩), .slice Bo (((f_witem out xs0 sz0 xs1 sz1 x how).2.1).length) do_], row kApiRaw 45 Bo do_ ((f_witem out xs0 sz0 xs1 sz1 x how).2.1), blk e0 85 [.pointer (some ⟨t0, 0, none⟩)], blk t0 108 [.slice B0 (((f_witem out xs0 sz0 xs1 sz1 x how).2.2.1).length) d0, .int .i64 ((f_witem out xs0 sz0 xs1 sz1 x how).2.2.2.1), .int .i64 4096], row kApiField 146 B0 d0 ((f_witem out xs0 sz0 xs1 sz1 x how).2.2.1), blk e1 85 [.pointer (some ⟨t1, 0, none⟩)], blk t1 108 [.slice B1 (((f_witem out xs0 sz0 xs1 sz1 x how).2.2.2.2.1).length) d1, .int .i64 ((f_witem out xs0 sz0 xs1 sz1 x how).2.2.2.2.2), .int .i64 4096], row kApiField 146 B1 d1 ((f_witem out xs0 sz0 xs1 sz1 x how).2.2.2.2.1), rd (Kd.int .u8) Ax5 cx5 x.F.Data, rd kApiSetting Ax6 cx6 x.F.Settings, rd kApiField Ax15 cx15 x.Fields, rd kEncoderOption Ah ch how, roc 0 0 [.int .i64 0, .int .i64 0, .int .i64 128, .int .i64 7, .int .i64 64, .int .i64 6, .int .i64 0, .int .i64 4, .int .i64 16, .int .i64 4, .int .i64 32, .int .i64 5]]) := by
  refine Spec.enter Tryz.func10 rfl Tryz.ntmps10 rfl rfl (fun w0 R0 F0 => ?_)
  refine J.seq ?_
  refine J.region ?_
  refine JL.ef (O1.box rfl rfl) rfl ?_
  rintro _ _ ⟨b_1, rfl, rfl⟩
  refine JL.ef (O1.box rfl rfl) rfl ?_
  rintro _ _ ⟨b_2, rfl, rfl⟩
  refine JL.qt (Qt.assign rfl) rfl ?_
  refine JL.nil ?_
  refine JN.code ?_
  refine J.seq ?_
  refine J.block ?_
  refine J.seq ?_
  refine J.region ?_
  refine JL.qt (Qt.ldA 1 ag61 sz61 rfl rfl rfl rfl) rfl ?_
  refine JL.call (O1.call Tryz.func18 rfl rfl rfl [10, 10, 10] rfl (s_wright x Ax5 cx5 Ax6 cx6 Ax15 cx15 hs hd)) rfl ?_
  rintro _ _ ⟨rfl, rfl⟩
  refine JL.qt (Qt.un (fun _ => not_run) rfl) rfl ?_
  refine JL.qt (Qt.move rfl) rfl ?_
  refine JL.cases_not (t := 11) rfl (fun h1 => ?_) (fun h1 => ?_)
  · refine JL.g_outU rfl rfl rfl rfl ?_
    refine JL.g_outU rfl rfl rfl rfl ?_
    refine JL.g_outU rfl rfl rfl rfl ?_
    refine JL.qt (Qt.pick_t rfl rfl) rfl ?_
    refine JL.qt (Qt.assign rfl) rfl ?_
    refine JL.nil ?_
    refine JN.code ?_
    refine J.cond_true rfl ?_
    refine J.seq ?_
    refine J.region ?_
    refine JL.qt (Qt.assign rfl) rfl ?_
    refine JL.nil ?_
    refine JN.code ?_
    refine J.ret ?_
    refine JN.back (res1 rfl rfl) [5, 5, 5, 5, 5, 5, 5, 5, 0, 0, 0, 2, 2] rfl ?_
    exact ⟨Ao, co, A0, c0, A1, c1, by unfold f_witem; rw [if_neg (Bool.eq_false_iff.1 h1)] <;> rfl, by unfold f_witem; rw [if_neg (Bool.eq_false_iff.1 h1)] <;> rfl⟩
  have hw := f_wright_b h1
  refine JL.g_in rfl rfl ?_
  refine JL.qt (Qt.fa (o' := 3) fo53_3 rfl rfl) rfl ?_
  refine JL.g_in rfl rfl ?_
  refine JL.qt (Qt.ld 3 pl3 rfl rfl rfl) rfl ?_
  refine JL.g_in rfl rfl ?_
  refine JL.qt (Qt.bin (v := .bool false) (fun _ => gtr_run) rfl rfl rfl) rfl ?_
  refine JL.qt (Qt.pick_f rfl rfl) rfl ?_
  refine JL.qt (Qt.assign rfl) rfl ?_
  refine JL.nil ?_
  refine JN.code ?_
  refine J.cond_false rfl ?_
  refine J.seq ?_
  refine J.region ?_
  refine JL.qt (Qt.fa (o' := 14) fo61_2 rfl rfl) rfl ?_
  refine JL.qt (Qt.ld 4 pl4 rfl rfl rfl) rfl ?_
  refine JL.qt (Qt.assign rfl) rfl ?_
  refine JL.nil ?_
  refine JN.code ?_
  refine J.cond rfl (fun h2 => ?_) (fun h2 => ?_)
  · refine J.seq ?_
    refine J.region ?_
    refine JL.qt (Qt.move rfl) rfl ?_
    refine JL.qt (Qt.ldA 4 ag61 sz61 rfl rfl rfl rfl) rfl ?_
    refine JL.qt (Qt.ldA 3 ag53 sz53 rfl rfl rfl rfl) rfl ?_
    refine JL.call (O1.call Tryz.func19 rfl rfl rfl [5, 5, 5, 5, 5, 5, 5, 5, 0, 0, 0, 2, 2] rfl (s_wblock w e0 t0 e1 t1 Ao co out A0 c0 xs0 sz0 A1 c1 xs1 sz1 x Ax5 cx5 Ax6 cx6 Ax15 cx15 Ah ch how As cs Ap cp hs hd hc hx0 hx1 ho i1 i2 i3 hw.1 hw.2)) rfl ?_
    rintro _ _ ⟨Bo_3, do__4, B0_5, d0_6, B1_7, d1_8, rfl, rfl⟩
    refine JL.qt (Qt.assign rfl) rfl ?_
    refine JL.nil ?_
    refine JN.code ?_
    refine J.ret ?_
    refine JN.back (res1 rfl rfl) [0, 0, 0, 0, 0, 0, 0, 0, 0, 0, 0, 0, 0] rfl ?_
    exact ⟨Bo_3, do__4, B0_5, d0_6, B1_7, d1_8, by unfold f_witem; rw [if_pos h1, if_pos h2] <;> rfl, by unfold f_witem; rw [if_pos h1, if_pos h2] <;> rfl⟩
  refine J.seq ?_
  refine J.region ?_
  refine JL.qt (Qt.fa (o' := 1) fo61_1 rfl rfl) rfl ?_
  refine JL.qt (Qt.fa (o' := 1) fo40_0 rfl rfl) rfl ?_
  refine JL.qt (Qt.ld 4 pl3 rfl rfl rfl) rfl ?_
  refine JL.qt (Qt.bin (fun _ => eql_run) rfl rfl rfl) rfl ?_
  refine JL.qt (Qt.assign rfl) rfl ?_
  refine JL.nil ?_
  refine JN.code ?_
  refine J.cond_eq rfl (fun h3 => ?_) (fun h3 => ?_)
  · refine J.seq ?_
    refine J.sch (.qt 0 (.qt 1 (.qt 2 (.qt 3 (.qt 4 (.qt 6 (.qt 7 (.ef 5 [7] (.ef 8 [] (.qt 9 (.done))))))))))) mixed (by repeat (first | exact Xe.noLook_body | refine noLook_then ?_ | refine noLook_block ?_)) (by kernel_rfl) ?_
    refine JS.q0 rfl (Qt.move rfl) rfl ?_
    refine JS.q0 rfl (Qt.fa (o' := 1) fo61_1 rfl rfl) rfl ?_
    refine JS.q1 (j := 4) rfl rfl rfl (Qt.ldA 0 ag40 sz40 rfl rfl rfl rfl) rfl ?_
    refine JS.q0 rfl (Qt.fa (o' := 3) fo53_3 rfl rfl) rfl ?_
    refine JS.q1 (j := 3) rfl rfl rfl (Qt.ld 0 pl3 rfl rfl rfl) rfl ?_
    refine JS.q0 rfl (Qt.fa (o' := 0) fo61_0 rfl rfl) rfl ?_
    refine JS.q1 (j := 4) rfl rfl rfl (Qt.ld 0 pl3 rfl rfl rfl) rfl ?_
    refine JS.e1 ?_
    refine JE.ef rfl (O1.call Tryz.func21 rfl rfl rfl [0, 0] rfl (s_pad x.F Ax5 cx5 Ax6 cx6)) rfl ?_
    rintro _ _ ⟨_, ⟨rfl, rfl⟩, rfl⟩
    refine ⟨⟨.inr ⟨4, _, rfl⟩, ⟨.inl rfl, ⟨.inl rfl, trivial⟩⟩⟩, ?_⟩
    refine JS.e1 ?_
    refine JE.ef rfl (O1.call Tryz.func20 rfl rfl rfl [5, 5, 0, 0] rfl (s_lput w (.pointer (some ⟨e0, 0, none⟩)) (.pointer (some ⟨e1, 0, none⟩)) Ao co out x.F x.From Ax5 cx5 Ax6 cx6 hs hd hw.2 ho i1 i2 i3 ⟨by omega, by omega⟩)) rfl ?_
    rintro _ _ ⟨_, ⟨A2_9, c2_10, rfl, rfl⟩, rfl⟩
    refine ⟨⟨.inl rfl, ⟨.inl rfl, ⟨.inl rfl, trivial⟩⟩⟩, ?_⟩
    refine JS.q0 rfl (Qt.assign rfl) rfl ?_
    refine JS.done ?_
    refine JN.code ?_
    refine J.ret ?_
    refine JN.back (res1 rfl rfl) [0, 0, 5, 5, 5, 5, 5, 5, 0, 0, 0, 2, 2] rfl ?_
    exact ⟨A2_9, c2_10, A0, c0, A1, c1, by unfold f_witem; rw [if_pos h1, if_neg (Bool.eq_false_iff.1 h2), if_pos h3] <;> rfl, by unfold f_witem; rw [if_pos h1, if_neg (Bool.eq_false_iff.1 h2), if_pos h3] <;> rfl⟩
  refine J.skip ?_
  refine JN.code ?_
  refine J.seq ?_
  refine J.region ?_
  refine JL.qt (Qt.move rfl) rfl ?_
  refine JL.qt (Qt.fa (o' := 1) fo61_1 rfl rfl) rfl ?_
  refine JL.qt (Qt.ldA 4 ag40 sz40 rfl rfl rfl rfl) rfl ?_
  refine JL.qt (Qt.fa (o' := 0) fo61_0 rfl rfl) rfl ?_
  refine JL.qt (Qt.ld 4 pl3 rfl rfl rfl) rfl ?_
  refine JL.call (O1.call Tryz.func20 rfl rfl rfl [5, 5, 0, 0] rfl (s_lput w (.pointer (some ⟨e0, 0, none⟩)) (.pointer (some ⟨e1, 0, none⟩)) Ao co out x.F x.From Ax5 cx5 Ax6 cx6 hs hd hw.2 ho i1 i2 i3 ⟨by omega, by omega⟩)) rfl ?_
  rintro _ _ ⟨A2_11, c2_12, rfl, rfl⟩
  refine JL.qt (Qt.assign rfl) rfl ?_
  refine JL.nil ?_
  refine JN.code ?_
  refine J.ret ?_
  refine JN.back (res1 rfl rfl) [0, 0, 5, 5, 5, 5, 5, 5, 0, 0, 0, 2, 2] rfl ?_
  exact ⟨A2_11, c2_12, A0, c0, A1, c1, by unfold f_witem; rw [if_pos h1, if_neg (Bool.eq_false_iff.1 h2), if_neg h3] <;> rfl, by unfold f_witem; rw [if_pos h1, if_neg (Bool.eq_false_iff.1 h2), if_neg h3] <;> rfl⟩
end Go.Proofs.YthjbkngecgbioaaGreatDoor.Sl

/- Walks: all items are woven. -/
set_option maxRecDepth 100000
set_option linter.unusedSimpArgs false
set_option linter.unusedVariables false
namespace Go.Proofs.YthjbkngecgbioaaGreatDoor.Sl
open Go
theorem sp58 : structPl Tryz.prog 58 = some [(0, 2), (2, 1)] := by kernel_rfl
theorem ze58 : zeroTy Tryz.prog 58 = some [.pointer none, .pointer none, .slice none 0 0] := by kernel_rfl
theorem ze61 : zeroTy Tryz.prog 61 = some [.int .i64 0, .int .i64 0, .int .i64 0, .int .i64 0, .int .i64 0, .slice none 0 0, .slice none 0 0, .int .i64 0, .int .i64 0, .bool false, .int .i64 0, .int .i64 0, .int .i64 0, .int .i64 0, .bool false, .slice none 0 0] := by kernel_rfl
structure WeaveWay where
  Sizes : (List Int)
  How : (List EncoderOption)
  Parts : (List Int)
  Pad : Int
def kWeaveWay : Kd WeaveWay := Kd.iso (Kd.pair (Kd.sl (Kd.int .i64)) (Kd.pair (Kd.sl kEncoderOption) (Kd.pair (Kd.sl (Kd.int .i64)) (Kd.int .i64)))) (fun x => (x.Sizes, (x.How, (x.Parts, x.Pad))))
theorem unWeaveWay {x : WeaveWay} {cs : List Value} : ∀ w R F, (kd kWeaveWay x cs).h w R F → ∃ (A0 : Option Addr) (c0 : Nat), ∃ (A1 : Option Addr) (c1 : Nat), ∃ (A2 : Option Addr) (c2 : Nat), (cs = [.slice A0 x.Sizes.length c0, .slice A1 x.How.length c1, .slice A2 x.Parts.length c2, .int .i64 x.Pad] ∧ inK .i64 x.Pad) ∧ Star [rd (Kd.int .i64) A0 c0 x.Sizes, rd kEncoderOption A1 c1 x.How, rd (Kd.int .i64) A2 c2 x.Parts] w R F := by
  intro w R F h
  simp only [kd, kWeaveWay, Kd.iso, Kd.pair, Kd.int, Kd.bool, Kd.str, Kd.sl] at h
  obtain ⟨_, _, rfl, ⟨A0, c0, rfl, h0⟩, ⟨_, _, rfl, ⟨A1, c1, rfl, h1⟩, ⟨_, _, rfl, ⟨A2, c2, rfl, h2⟩, ⟨rfl, h3⟩⟩⟩⟩ := h
  exact ⟨A0, c0, A1, c1, A2, c2, ⟨rfl, h3⟩, ⟨fun _ => False, fun _ => False, fun _ h => h.elim, fun _ h => h.elim, fun _ h => h.elim, h0, fun _ => False, fun _ => False, fun _ h => h.elim, fun _ h => h.elim, fun _ h => h.elim, h1, fun _ => False, fun _ => False, fun _ h => h.elim, fun _ h => h.elim, fun _ h => h.elim, h2, trivial⟩⟩
theorem mkWeaveWay {x : WeaveWay} {w : World} {R : Foot} {A0 : Option Addr} {c0 : Nat} {A1 : Option Addr} {c1 : Nat} {A2 : Option Addr} {c2 : Nat} (h0 : Rd (Kd.int .i64) w R A0 c0 x.Sizes) (h1 : Rd kEncoderOption w R A1 c1 x.How) (h2 : Rd (Kd.int .i64) w R A2 c2 x.Parts) (h3 : inK .i64 x.Pad) : kWeaveWay.rel w R x [.slice A0 x.Sizes.length c0, .slice A1 x.How.length c1, .slice A2 x.Parts.length c2, .int .i64 x.Pad] := by
  simp only [kWeaveWay, Kd.iso, Kd.pair, Kd.int, Kd.bool, Kd.str, Kd.sl]
  exact ⟨_, _, rfl, ⟨A0, c0, rfl, h0⟩, ⟨_, _, rfl, ⟨A1, c1, rfl, h1⟩, ⟨_, _, rfl, ⟨A2, c2, rfl, h2⟩, ⟨rfl, h3⟩⟩⟩⟩
def item0 : WeaveItem := ⟨0, ⟨0, 0, 0, 0, [], [], 0, 0, false, 0, 0, 0, 0⟩, false, []⟩
def icost : List WeaveItem → Nat
  | [] => 0
  | x :: l => fcost x.Fields + 512 * x.F.Settings.length + x.F.Data.length + 1 + icost l
theorem fcost_len : ∀ (l : List ApiField), l.length ≤ fcost l
  | [] => Nat.zero_le _
  | f :: l => by have := fcost_len l; rw [fcost, List.length_cons]; omega
theorem f_lput_len (xs : List ApiRaw) (f : ApiFrame) (n : Int) : (f_lput xs f n).2.length ≤ xs.length + 1 := by
  unfold f_lput
  repeat' split
  all_goals (try simp only [List.length_append, List.length_cons, List.length_nil]); (try dsimp only); omega
theorem f_wblock_len (out : List ApiRaw) (x0 : List ApiField) (s0 : Int) (x1 : List ApiField) (s1 : Int) (x : WeaveItem) (how : List EncoderOption) : (f_wblock out x0 s0 x1 s1 x how).2.1.length ≤ out.length + 1 ∧ (f_wblock out x0 s0 x1 s1 x how).2.2.1.length ≤ x0.length + x.Fields.length ∧ (f_wblock out x0 s0 x1 s1 x how).2.2.2.2.1.length ≤ x1.length + x.Fields.length := by
  have h0 := (f_enc_len x0 s0 4096 x.Fields how).2
  have h1 := (f_enc_len x1 s1 4096 x.Fields how).2
  unfold f_wblock
  split
  · exact ⟨f_lput_len _ _ _, h0, by dsimp only; omega⟩
  · exact ⟨f_lput_len _ _ _, by dsimp only; omega, h1⟩
theorem f_witem_len (out : List ApiRaw) (x0 : List ApiField) (s0 : Int) (x1 : List ApiField) (s1 : Int) (x : WeaveItem) (how : List EncoderOption) : (f_witem out x0 s0 x1 s1 x how).2.1.length ≤ out.length + 1 ∧ (f_witem out x0 s0 x1 s1 x how).2.2.1.length ≤ x0.length + x.Fields.length ∧ (f_witem out x0 s0 x1 s1 x how).2.2.2.2.1.length ≤ x1.length + x.Fields.length := by
  unfold f_witem
  repeat' split
  all_goals first | exact f_wblock_len _ _ _ _ _ _ _ | exact ⟨f_lput_len _ _ _, by dsimp only; omega, by dsimp only; omega⟩ | exact ⟨by dsimp only; omega, by dsimp only; omega, by dsimp only; omega⟩
def f_weave_l1 (l : List WeaveItem) (how : List EncoderOption) : Nat → Nat → (List ApiRaw) → (List ApiField) → Int → (List ApiField) → Int → List ApiRaw × Int
  | 0, _, _, _, _, _, _ => ([], 0)
  | m1 + 1, i, out, x0, s0, x1, s1 => if (i : Int) < ((l.length : Nat) : Int) then if ((f_witem out x0 s0 x1 s1 ((l[i]?).getD item0) how).1) = true then f_weave_l1 l how m1 (i + 1) ((f_witem out x0 s0 x1 s1 ((l[i]?).getD item0) how).2.1) ((f_witem out x0 s0 x1 s1 ((l[i]?).getD item0) how).2.2.1) ((f_witem out x0 s0 x1 s1 ((l[i]?).getD item0) how).2.2.2.1) ((f_witem out x0 s0 x1 s1 ((l[i]?).getD item0) how).2.2.2.2.1) ((f_witem out x0 s0 x1 s1 ((l[i]?).getD item0) how).2.2.2.2.2) else ([], 1) else (out, 0)
def f_weave (l : List WeaveItem) (how : List EncoderOption) : List ApiRaw × Int := f_weave_l1 l how ((l.length - 0) + 1) 0 [] [] 0 [] 0
theorem s_weave (Al : Option Addr) (cl : Nat) (l : List WeaveItem) (Aw : Option Addr) (cw : Nat) (how : List EncoderOption) (hc : icost l ≤ 536870912) :
    Spec Tryz.prog 5 [.slice Al l.length cl, .slice Aw 1 cw].toArray [rd kWeaveItem Al cl l, rd kWeaveWay Aw cw [(⟨[], how, [], (-1)⟩ : WeaveWay)], roc 0 0 [.int .i64 0, .int .i64 0, .int .i64 128, .int .i64 7, .int .i64 64, .int .i64 6, .int .i64 0, .int .i64 4, .int .i64 16, .int .i64 4, .int .i64 32, .int .i64 5]] (fun v L => ∃ (A2 : Option Addr), ∃ (c2 : Nat), v = .tuple #[.slice A2 (((f_weave l how).1).length) c2, .int .i64 ((f_weave l how).2)] ∧ L = [row kApiRaw 45 A2 c2 ((f_weave l how).1), rd kWeaveItem Al cl l, rd kWeaveWay Aw cw [(⟨[], how, [], (-1)⟩ : WeaveWay)], roc 0 0 [.int .i64 0, .int .i64 0, .int .i64 128, .int .i64 7, .int .i64 64, .int .i64 6, .int .i64 0, .int .i64 4, .int .i64 16, .int .i64 4, .int .i64 32, .int .i64 5]]) := by
  refine Spec.enter Tryz.func5 rfl Tryz.ntmps5 rfl rfl (fun w0 R0 F0 => ?_)
  refine J.seq ?_
  refine J.region ?_
  refine JL.qt (Qt.assign rfl) rfl ?_
  refine JL.qt (Qt.assign rfl) rfl ?_
  refine JL.nil ?_
  refine JN.code ?_
  refine J.seq ?_
  refine J.region ?_
  refine JL.qt (Qt.build sp58 ze58 rfl rfl) rfl ?_
  refine JL.ef (O1.box rfl rfl) rfl ?_
  rintro _ _ ⟨b_1, rfl, rfl⟩
  refine JL.qt (Qt.assign rfl) rfl ?_
  refine JL.nil ?_
  refine JN.code ?_
  refine J.seq ?_
  refine J.seq ?_
  refine J.region ?_
  refine JL.qt (Qt.move rfl) rfl ?_
  refine JL.nil ?_
  refine JN.code ?_
  refine J.block ?_
  refine J.unroll 2 ?_
  refine J.seq ?_
  refine J.region ?_
  refine JL.qt (Qt.bin (v := .bool true) (fun _ => lss_run) rfl rfl rfl) rfl ?_
  refine JL.nil ?_
  refine JN.code ?_
  refine J.seq ?_
  refine J.cond_true rfl ?_
  refine J.skip ?_
  refine JN.code ?_
  refine J.seq ?_
  refine J.block ?_
  refine J.seq ?_
  refine J.region ?_
  refine JL.qt (Qt.move rfl) rfl ?_
  refine JL.qt (Qt.assign rfl) rfl ?_
  refine JL.nil ?_
  refine JN.code ?_
  refine J.sch (.qt 0 (.qt 1 (.qt 6 (.qt 7 (.ef 2 [] (.qt 3 (.qt 4 (.qt 5 (.qt 8 (.ef 9 [] (.done))))))))))) mixed (by repeat (first | exact Xe.noLook_body | refine noLook_then ?_ | refine noLook_block ?_)) (by kernel_rfl) ?_
  refine JS.q0 rfl (Qt.move rfl) rfl ?_
  refine JS.q0 rfl (Qt.move rfl) rfl ?_
  refine JS.q0 rfl (Qt.nck rfl) rfl ?_
  refine JS.q0 rfl (Qt.fa (o' := 0) fo58_0 rfl rfl) rfl ?_
  refine JS.e1 ?_
  refine JE.ef rfl (O1.call Tryz.func9 rfl rfl rfl [] rfl s_enew) rfl ?_
  rintro _ _ ⟨_, ⟨e_2, q_3, rfl, rfl⟩, rfl⟩
  refine ⟨trivial, ?_⟩
  refine JS.q0 rfl (Qt.move rfl) rfl ?_
  refine JS.q0 rfl (Qt.extract rfl rfl) rfl ?_
  refine JS.q0 rfl (Qt.extract rfl rfl) rfl ?_
  refine JS.q0 rfl (Qt.ia_arr Tryz.underlying56 sz55 rfl rfl (by decide) (by decide)) rfl ?_
  refine JS.e1 ?_
  refine JE.sk rfl (O1.st 2 sz55 rfl rfl rfl rfl rfl rfl) trivial ?_
  refine JS.done ?_
  refine JN.code ?_
  refine J.region ?_
  refine JL.qt (Qt.bin (fun _ => addN_run (c := 1) (by decide) (by decide) (by decide)) rfl rfl rfl) rfl ?_
  refine JL.qt (Qt.move rfl) rfl ?_
  refine JL.nil ?_
  refine JN.again ?_
  refine J.seq ?_
  refine J.region ?_
  refine JL.qt (Qt.bin (v := .bool true) (fun _ => lss_run) rfl rfl rfl) rfl ?_
  refine JL.nil ?_
  refine JN.code ?_
  refine J.seq ?_
  refine J.cond_true rfl ?_
  refine J.skip ?_
  refine JN.code ?_
  refine J.seq ?_
  refine J.block ?_
  refine J.seq ?_
  refine J.region ?_
  refine JL.qt (Qt.move rfl) rfl ?_
  refine JL.qt (Qt.assign rfl) rfl ?_
  refine JL.nil ?_
  refine JN.code ?_
  refine J.sch (.qt 0 (.qt 1 (.qt 6 (.qt 7 (.ef 2 [] (.qt 3 (.qt 4 (.qt 5 (.qt 8 (.ef 9 [] (.done))))))))))) mixed (by repeat (first | exact Xe.noLook_body | refine noLook_then ?_ | refine noLook_block ?_)) (by kernel_rfl) ?_
  refine JS.q0 rfl (Qt.move rfl) rfl ?_
  refine JS.q0 rfl (Qt.move rfl) rfl ?_
  refine JS.q0 rfl (Qt.nck rfl) rfl ?_
  refine JS.q0 rfl (Qt.fa (o' := 0) fo58_0 rfl rfl) rfl ?_
  refine JS.e1 ?_
  refine JE.ef rfl (O1.call Tryz.func9 rfl rfl rfl [] rfl s_enew) rfl ?_
  rintro _ _ ⟨_, ⟨e_4, q_5, rfl, rfl⟩, rfl⟩
  refine ⟨trivial, ?_⟩
  refine JS.q0 rfl (Qt.move rfl) rfl ?_
  refine JS.q0 rfl (Qt.extract rfl rfl) rfl ?_
  refine JS.q0 rfl (Qt.extract rfl rfl) rfl ?_
  refine JS.q0 rfl (Qt.ia_arr Tryz.underlying56 sz55 rfl rfl (by decide) (by decide)) rfl ?_
  refine JS.e1 ?_
  refine JE.sk rfl (O1.st 2 sz55 rfl rfl rfl rfl rfl rfl) trivial ?_
  refine JS.done ?_
  refine JN.code ?_
  refine J.region ?_
  refine JL.qt (Qt.bin (fun _ => addN_run (c := 2) (by decide) (by decide) (by decide)) rfl rfl rfl) rfl ?_
  refine JL.qt (Qt.move rfl) rfl ?_
  refine JL.nil ?_
  refine JN.again ?_
  refine J.seq ?_
  refine J.region ?_
  refine JL.qt (Qt.bin (v := .bool false) (fun _ => lss_run) rfl rfl rfl) rfl ?_
  refine JL.nil ?_
  refine JN.code ?_
  refine J.seq ?_
  refine J.cond_false rfl ?_
  refine J.exit ?_
  refine JN.code ?_
  refine J.seq ?_
  refine J.seq ?_
  refine J.region ?_
  refine JL.qt (Qt.move rfl) rfl ?_
  refine JL.qt (Qt.bi (fun _ _ => len_slice_run Tryz.underlying24) rfl) rfl ?_
  refine JL.qt (Qt.bin (v := .bool false) (fun _ => eql_run) rfl rfl rfl) rfl ?_
  refine JL.nil ?_
  refine JN.code ?_
  refine J.cond_false rfl ?_
  refine J.skip ?_
  refine JN.code ?_
  refine J.seq ?_
  refine J.seq ?_
  refine J.region ?_
  refine JL.qt (Qt.move rfl) rfl ?_
  refine JL.qt (Qt.bi (fun _ _ => len_slice_run Tryz.underlying34) rfl) rfl ?_
  refine JL.qt (Qt.move rfl) rfl ?_
  refine JL.nil ?_
  refine JN.code ?_
  refine J.block ?_
  have hT1 : f_weave l how = f_weave_l1 l how ((l.length - 0) + 1) 0 [] [] 0 [] 0 := by unfold f_weave; rfl
  refine J.tell 5 rfl rd_tell (fun ⟨hl1, hl2⟩ => ?_)
  refine J.intro_pers (p := row kApiRaw 45 none 0 []) (fun w R => row_nil _ _ w R) ?_
  refine J.intro_pers (p := row kApiField 146 none 0 []) (fun w R => row_nil _ _ w R) ?_
  refine J.intro_pers (p := row kApiField 146 none 0 []) (fun w R => row_nil _ _ w R) ?_
  refine J.loop8 (fun (i : Nat) (out : List ApiRaw) (x0 : List ApiField) (s0 : Int) (x1 : List ApiField) (s1 : Int) (ad : Option Addr × Nat × Option Addr × Nat × Option Addr × Nat) (m1 : Nat) => [(1, .slice Aw 1 cw), (4, .slice none 0 0), (5, .int .i64 0), (6, .pointer (some ⟨b_1, 0, none⟩)), (30, .slice Al l.length cl), (31, .int .i64 ((l.length : Nat) : Int)), (32, .int .i64 (i : Int))]) (fun (i : Nat) (out : List ApiRaw) (x0 : List ApiField) (s0 : Int) (x1 : List ApiField) (s1 : Int) (ad : Option Addr × Nat × Option Addr × Nat × Option Addr × Nat) (m1 : Nat) => [blk b_1 58 [.pointer (some ⟨e_2, 0, none⟩), .pointer (some ⟨e_4, 0, none⟩), .slice ad.1 out.length ad.2.1], row kApiRaw 45 ad.1 ad.2.1 out, blk e_2 85 [.pointer (some ⟨q_3, 0, none⟩)], blk q_3 108 [.slice ad.2.2.1 x0.length ad.2.2.2.1, .int .i64 s0, .int .i64 4096], row kApiField 146 ad.2.2.1 ad.2.2.2.1 x0, blk e_4 85 [.pointer (some ⟨q_5, 0, none⟩)], blk q_5 108 [.slice ad.2.2.2.2.1 x1.length ad.2.2.2.2.2, .int .i64 s1, .int .i64 4096], row kApiField 146 ad.2.2.2.2.1 ad.2.2.2.2.2 x1, rd kWeaveItem Al cl l, rd kWeaveWay Aw cw [(⟨[], how, [], (-1)⟩ : WeaveWay)], roc 0 0 [.int .i64 0, .int .i64 0, .int .i64 128, .int .i64 7, .int .i64 64, .int .i64 6, .int .i64 0, .int .i64 4, .int .i64 16, .int .i64 4, .int .i64 32, .int .i64 5]]) (fun (i : Nat) (out : List ApiRaw) (x0 : List ApiField) (s0 : Int) (x1 : List ApiField) (s1 : Int) (ad : Option Addr × Nat × Option Addr × Nat × Option Addr × Nat) (m1 : Nat) => (i ≤ l.length ∧ out.length + icost (l.drop i) ≤ 536870912 ∧ x0.length + icost (l.drop i) ≤ 536870912 ∧ x1.length + icost (l.drop i) ≤ 536870912) ∧ (l.length - i) < m1 ∧ f_weave_l1 l how m1 i out x0 s0 x1 s1 = f_weave_l1 l how ((l.length - 0) + 1) 0 [] [] 0 [] 0) (fun (i : Nat) (out : List ApiRaw) (x0 : List ApiField) (s0 : Int) (x1 : List ApiField) (s1 : Int) (ad : Option Addr × Nat × Option Addr × Nat × Option Addr × Nat) (m1 : Nat) => l.length - i) 0 [] [] 0 [] 0 (none, 0, none, 0, none, 0) ((l.length - 0) + 1) ⟨⟨Nat.zero_le _, by simpa using hc, by simpa using hc, by simpa using hc⟩, by omega, rfl⟩ ⟨rfl, rfl, rfl, rfl, rfl, rfl, rfl, trivial⟩ [3, 2, 4, 4, 0, 1, 1, 0, 0, 0, 0] rfl ?_
  rintro i out x0 s0 x1 s1 ad m1 ⟨⟨hi, hout, hx0, hx1⟩, hm1, hI1⟩
  obtain ⟨m1, rfl⟩ : ∃ z, m1 = z + 1 := ⟨m1 - 1, by omega⟩
  refine J.seq ?_
  refine J.region ?_
  refine JL.qt (Qt.bin (fun _ => lss_run) rfl rfl rfl) rfl ?_
  refine JL.nil ?_
  refine JN.code ?_
  refine J.seq ?_
  refine J.cond_dec rfl (fun h1 => ?_) (fun h1 => ?_)
  · refine J.skip ?_
    refine JN.code ?_
    refine J.seq ?_
    refine J.block ?_
    refine J.seq ?_
    have hu := getkD (xs := l) (k := i) item0 (by omega)
    have hd := congrArg icost (drop_at hu)
    rw [icost] at hd
    have hfl := fcost_len ((l[i]?).getD item0).Fields
    refine J.elem (k := i) (u := ((l[i]?).getD item0)) 8 rfl hu (fun b_6 o_7 cs_8 hA_9 => ?_); subst hA_9
    refine J.unf6 1 rfl unWeaveItem ?_; rintro A_15 c_16 A_17 c_18 A_25 c_26 ⟨rfl, e_10, e_11, e_12, e_13, e_14, e_19, e_20, e_21, e_22, e_23, e_24⟩
    refine J.region ?_
    refine JL.qt (Qt.move rfl) rfl ?_
    refine JL.qt (Qt.ia Tryz.underlying34 sz61 rfl rfl (by omega) (by omega)) rfl ?_
    refine JL.qt (Qt.ldA_ro (j := 0) 3 ag61 sz61 rfl rfl rfl rfl rfl) rfl ?_
    refine JL.ef (O1.alloc ze61) rfl ?_
    rintro _ _ ⟨b_27, rfl, rfl⟩
    refine JL.qt (Qt.assign rfl) rfl ?_
    refine JL.sk (O1.stA 0 sz61 rfl rfl rfl rfl rfl rfl rfl rfl) ?_
    refine JL.nil ?_
    refine JN.code ?_
    refine J.seq ?_
    refine J.at [blk b_27 61 [.int .i64 (((l[i]?).getD item0).From), .int .i64 (((l[i]?).getD item0).F.Type_), .int .i64 (((l[i]?).getD item0).F.Flags), .int .i64 (((l[i]?).getD item0).F.Stream), .int .i64 (((l[i]?).getD item0).F.Pad), .slice A_15 ((((l[i]?).getD item0).F.Data).length) c_16, .slice A_17 ((((l[i]?).getD item0).F.Settings).length) c_18, .int .i64 (((l[i]?).getD item0).F.Weight), .int .i64 (((l[i]?).getD item0).F.Parent), .bool (((l[i]?).getD item0).F.Alone), .int .i64 (((l[i]?).getD item0).F.Promised), .int .i64 (((l[i]?).getD item0).F.Last), .int .i64 (((l[i]?).getD item0).F.Code), .int .i64 (((l[i]?).getD item0).F.Step), .bool (((l[i]?).getD item0).Block), .slice A_25 ((((l[i]?).getD item0).Fields).length) c_26], rd (Kd.int .u8) A_15 c_16 (((l[i]?).getD item0).F.Data), rd kApiSetting A_17 c_18 (((l[i]?).getD item0).F.Settings), rd kApiField A_25 c_26 (((l[i]?).getD item0).Fields), roc b_6 (o_7 + i * 16) [.int .i64 (((l[i]?).getD item0).From), .int .i64 (((l[i]?).getD item0).F.Type_), .int .i64 (((l[i]?).getD item0).F.Flags), .int .i64 (((l[i]?).getD item0).F.Stream), .int .i64 (((l[i]?).getD item0).F.Pad), .slice A_15 ((((l[i]?).getD item0).F.Data).length) c_16, .slice A_17 ((((l[i]?).getD item0).F.Settings).length) c_18, .int .i64 (((l[i]?).getD item0).F.Weight), .int .i64 (((l[i]?).getD item0).F.Parent), .bool (((l[i]?).getD item0).F.Alone), .int .i64 (((l[i]?).getD item0).F.Promised), .int .i64 (((l[i]?).getD item0).F.Last), .int .i64 (((l[i]?).getD item0).F.Code), .int .i64 (((l[i]?).getD item0).F.Step), .bool (((l[i]?).getD item0).Block), .slice A_25 ((((l[i]?).getD item0).Fields).length) c_26], blk b_1 58 [.pointer (some ⟨e_2, 0, none⟩), .pointer (some ⟨e_4, 0, none⟩), .slice ad.1 out.length ad.2.1], row kApiRaw 45 ad.1 ad.2.1 out, blk e_2 85 [.pointer (some ⟨q_3, 0, none⟩)], blk q_3 108 [.slice ad.2.2.1 x0.length ad.2.2.2.1, .int .i64 s0, .int .i64 4096], row kApiField 146 ad.2.2.1 ad.2.2.2.1 x0, blk e_4 85 [.pointer (some ⟨q_5, 0, none⟩)], blk q_5 108 [.slice ad.2.2.2.2.1 x1.length ad.2.2.2.2.2, .int .i64 s1, .int .i64 4096], row kApiField 146 ad.2.2.2.2.1 ad.2.2.2.2.2 x1, rd kWeaveItem (some ⟨b_6, o_7, none⟩) cl l, rd kWeaveWay Aw cw [(⟨[], how, [], (-1)⟩ : WeaveWay)], roc 0 0 [.int .i64 0, .int .i64 0, .int .i64 128, .int .i64 7, .int .i64 64, .int .i64 6, .int .i64 0, .int .i64 4, .int .i64 16, .int .i64 4, .int .i64 32, .int .i64 5]] rfl ?_
    refine J.elem (k := 0) (u := (⟨[], how, [], (-1)⟩ : WeaveWay)) 14 rfl rfl (fun b_28 o_29 cs_30 hA_31 => ?_); subst hA_31
    refine J.unf6 1 rfl unWeaveWay ?_; rintro A_32 c_33 A_34 c_35 A_36 c_37 ⟨rfl, e_38⟩
    refine J.sch (.qt 0 (.qt 1 (.qt 2 (.qt 3 (.qt 4 (.qt 5 (.qt 6 (.qt 7 (.qt 8 (.ef 9 [] (.qt 10 (.done)))))))))))) mixed (by repeat (first | exact Xe.noLook_body | refine noLook_then ?_ | refine noLook_block ?_)) (by kernel_rfl) ?_
    refine JS.q0 rfl (Qt.move rfl) rfl ?_
    refine JS.q1 (j := 4) rfl rfl rfl (Qt.ldA 0 ag61 sz61 rfl rfl rfl rfl) rfl ?_
    refine JS.q0 rfl (Qt.move rfl) rfl ?_
    refine JS.q0 rfl (Qt.move rfl) rfl ?_
    refine JS.q0 rfl (Qt.move rfl) rfl ?_
    refine JS.q0 rfl (Qt.bi (fun _ _ => len_slice_run Tryz.underlying24) rfl) rfl ?_
    refine JS.q0 rfl (Qt.bin (v := .int .i64 0) (fun _ => by rw [remN_run (by omega) (by omega)]; congr 2 <;> omega) rfl rfl rfl) rfl ?_
    refine JS.q0 rfl (Qt.ia Tryz.underlying24 sz53 rfl rfl (by decide) (by decide)) rfl ?_
    refine JS.q1 (j := 3) rfl rfl rfl (Qt.ldA_ro (j := 0) 0 ag53 sz53 rfl rfl rfl rfl rfl) rfl ?_
    refine JS.e1 ?_
    refine JE.ef rfl (O1.call Tryz.func10 rfl rfl rfl [9, 9, 9, 9, 9, 9, 9, 9, 5, 5, 5, 1, 7] rfl (s_witem b_1 e_2 q_3 e_4 q_5 ad.1 ad.2.1 out ad.2.2.1 ad.2.2.2.1 x0 s0 ad.2.2.2.2.1 ad.2.2.2.2.2 x1 s1 _ A_15 c_16 A_17 c_18 A_25 c_26 A_34 c_35 how A_32 c_33 A_36 c_37 (by omega) (by omega) (by omega) (by omega) (by omega) (by omega) e_11 e_12 e_13)) rfl ?_
    rintro _ _ ⟨_, ⟨Bo_39, do__40, B0_41, d0_42, B1_43, d1_44, rfl, rfl⟩, rfl⟩
    refine ⟨⟨.inl rfl, ⟨.inl rfl, trivial⟩⟩, ?_⟩
    refine JS.q0 rfl (Qt.un (fun _ => not_run) rfl) rfl ?_
    refine JS.done ?_
    refine JN.code ?_
    refine J.cond_not rfl (fun h2 => ?_) (fun h2 => ?_)
    · refine J.seq ?_
      refine J.region ?_
      refine JL.qt (Qt.assign rfl) rfl ?_
      refine JL.qt (Qt.assign rfl) rfl ?_
      refine JL.nil ?_
      refine JN.code ?_
      refine J.ret ?_
      refine JN.intro_pers (p := row kApiRaw 45 none 0 []) (fun w R => row_nil _ _ w R) ?_
      refine JN.back (res2 rfl rfl rfl) [0, 18, 18, 12] rfl ?_
      exact ⟨none, 0, by rw [hT1, ← hI1, f_weave_l1]; rw [if_pos h1, if_neg (Bool.eq_false_iff.1 h2)] <;> rfl, by rw [hT1, ← hI1, f_weave_l1]; rw [if_pos h1, if_neg (Bool.eq_false_iff.1 h2)] <;> rfl⟩
    refine J.skip ?_
    refine JN.code ?_
    refine J.region ?_
    refine JL.qt (Qt.bin (fun _ => addN_run rfl (by omega) (by omega)) rfl rfl rfl) rfl ?_
    refine JL.qt (Qt.move rfl) rfl ?_
    refine JL.nil ?_
    refine JN.round8 (z0 := i) (z1 := out) (z2 := x0) (z3 := s0) (z4 := x1) (z5 := s1) (z6 := ad) (z7 := (m1 + 1)) (i + 1) ((f_witem out x0 s0 x1 s1 ((l[i]?).getD item0) how).2.1) ((f_witem out x0 s0 x1 s1 ((l[i]?).getD item0) how).2.2.1) ((f_witem out x0 s0 x1 s1 ((l[i]?).getD item0) how).2.2.2.1) ((f_witem out x0 s0 x1 s1 ((l[i]?).getD item0) how).2.2.2.2.1) ((f_witem out x0 s0 x1 s1 ((l[i]?).getD item0) how).2.2.2.2.2) (Bo_39, do__40, B0_41, d0_42, B1_43, d1_44) m1 (by omega) ⟨⟨by omega, by have := f_witem_len out x0 s0 x1 s1 ((l[i]?).getD item0) how; omega, by have := f_witem_len out x0 s0 x1 s1 ((l[i]?).getD item0) how; omega, by have := f_witem_len out x0 s0 x1 s1 ((l[i]?).getD item0) how; omega⟩, by omega, by rw [← hI1, f_weave_l1]; rw [if_pos h1, if_pos h2] <;> rfl⟩ ⟨rfl, rfl, rfl, rfl, rfl, rfl, rfl, trivial⟩ [0, 0, 0, 0, 0, 0, 0, 0, 10, 10, 4] rfl
  refine J.exit ?_
  refine JN.code ?_
  refine J.seq ?_
  refine J.region ?_
  refine JL.qt (Qt.move rfl) rfl ?_
  refine JL.qt (Qt.nck rfl) rfl ?_
  refine JL.qt (Qt.fa (o' := 2) fo58_1 rfl rfl) rfl ?_
  refine JL.qt (Qt.ld 0 pl30 rfl rfl rfl) rfl ?_
  refine JL.qt (Qt.assign rfl) rfl ?_
  refine JL.qt (Qt.assign rfl) rfl ?_
  refine JL.nil ?_
  refine JN.code ?_
  refine J.ret ?_
  refine JN.back (res2 rfl rfl rfl) [1, 7, 7, 7] rfl ?_
  exact ⟨ad.1, ad.2.1, by rw [hT1, ← hI1, f_weave_l1]; rw [if_neg h1] <;> rfl, by rw [hT1, ← hI1, f_weave_l1]; rw [if_neg h1] <;> rfl⟩
end Go.Proofs.YthjbkngecgbioaaGreatDoor.Sl

/- Walks: what the law calls. -/
set_option maxRecDepth 100000
set_option linter.unusedSimpArgs false
set_option linter.unusedVariables false
namespace Go.Proofs.YthjbkngecgbioaaGreatDoor.Sl
open Go
theorem fo45_0 : fldOff Tryz.prog 45 0 = some 0 := by kernel_rfl
theorem sz43 : szTy Tryz.prog 43 = some 16 := by kernel_rfl
theorem ag43 : aggTy Tryz.prog 43 = true := by kernel_rfl
theorem ze43 : zeroTy Tryz.prog 43 = some [.int .i64 0, .int .i64 0, .int .i64 0, .int .i64 0, .int .i64 0, .slice none 0 0, .slice none 0 0, .int .i64 0, .int .i64 0, .bool false, .int .i64 0, .int .i64 0, .int .i64 0, .int .i64 0, .bool false, .slice none 0 0] := by kernel_rfl
theorem fo43_0 : fldOff Tryz.prog 43 0 = some 0 := by kernel_rfl
theorem fo43_1 : fldOff Tryz.prog 43 1 = some 1 := by kernel_rfl
theorem fo43_2 : fldOff Tryz.prog 43 2 = some 14 := by kernel_rfl
theorem fo43_3 : fldOff Tryz.prog 43 3 = some 15 := by kernel_rfl
theorem sp61 : structPl Tryz.prog 61 = some [(0, 1), (1, 13), (14, 1), (15, 1)] := by kernel_rfl
theorem el34 : elTy Tryz.prog 34 61 16 176 = true := by kernel_rfl
structure Sticklerref52Item where
  From : Int
  F : ApiFrame
  Block : Bool
  Fields : (List ApiField)
def kSticklerref52Item : Kd Sticklerref52Item := Kd.iso (Kd.pair (Kd.int .i64) (Kd.pair kApiFrame (Kd.pair Kd.bool (Kd.sl kApiField)))) (fun x => (x.From, (x.F, (x.Block, x.Fields))))
theorem unSticklerref52Item {x : Sticklerref52Item} {cs : List Value} : ∀ w R F, (kd kSticklerref52Item x cs).h w R F → ∃ (A5 : Option Addr) (c5 : Nat), ∃ (A6 : Option Addr) (c6 : Nat), ∃ (A15 : Option Addr) (c15 : Nat), (cs = [.int .i64 x.From, .int .i64 x.F.Type_, .int .i64 x.F.Flags, .int .i64 x.F.Stream, .int .i64 x.F.Pad, .slice A5 x.F.Data.length c5, .slice A6 x.F.Settings.length c6, .int .i64 x.F.Weight, .int .i64 x.F.Parent, .bool x.F.Alone, .int .i64 x.F.Promised, .int .i64 x.F.Last, .int .i64 x.F.Code, .int .i64 x.F.Step, .bool x.Block, .slice A15 x.Fields.length c15] ∧ inK .i64 x.From ∧ inK .i64 x.F.Type_ ∧ inK .i64 x.F.Flags ∧ inK .i64 x.F.Stream ∧ inK .i64 x.F.Pad ∧ inK .i64 x.F.Weight ∧ inK .i64 x.F.Parent ∧ inK .i64 x.F.Promised ∧ inK .i64 x.F.Last ∧ inK .i64 x.F.Code ∧ inK .i64 x.F.Step) ∧ Star [rd (Kd.int .u8) A5 c5 x.F.Data, rd kApiSetting A6 c6 x.F.Settings, rd kApiField A15 c15 x.Fields] w R F := by
  intro w R F h
  simp only [kd, kSticklerref52Item, kApiFrame, Kd.iso, Kd.pair, Kd.int, Kd.bool, Kd.str, Kd.sl] at h
  obtain ⟨_, _, rfl, ⟨rfl, h0⟩, ⟨_, _, rfl, ⟨_, _, rfl, ⟨rfl, h1⟩, ⟨_, _, rfl, ⟨rfl, h2⟩, ⟨_, _, rfl, ⟨rfl, h3⟩, ⟨_, _, rfl, ⟨rfl, h4⟩, ⟨_, _, rfl, ⟨A5, c5, rfl, h5⟩, ⟨_, _, rfl, ⟨A6, c6, rfl, h6⟩, ⟨_, _, rfl, ⟨rfl, h7⟩, ⟨_, _, rfl, ⟨rfl, h8⟩, ⟨_, _, rfl, rfl, ⟨_, _, rfl, ⟨rfl, h10⟩, ⟨_, _, rfl, ⟨rfl, h11⟩, ⟨_, _, rfl, ⟨rfl, h12⟩, ⟨rfl, h13⟩⟩⟩⟩⟩⟩⟩⟩⟩⟩⟩⟩⟩, ⟨_, _, rfl, rfl, ⟨A15, c15, rfl, h15⟩⟩⟩⟩ := h
  exact ⟨A5, c5, A6, c6, A15, c15, ⟨rfl, h0, h1, h2, h3, h4, h7, h8, h10, h11, h12, h13⟩, ⟨fun _ => False, fun _ => False, fun _ h => h.elim, fun _ h => h.elim, fun _ h => h.elim, h5, fun _ => False, fun _ => False, fun _ h => h.elim, fun _ h => h.elim, fun _ h => h.elim, h6, fun _ => False, fun _ => False, fun _ h => h.elim, fun _ h => h.elim, fun _ h => h.elim, h15, trivial⟩⟩
theorem mkSticklerref52Item {x : Sticklerref52Item} {w : World} {R : Foot} {A5 : Option Addr} {c5 : Nat} {A6 : Option Addr} {c6 : Nat} {A15 : Option Addr} {c15 : Nat} (h0 : inK .i64 x.From) (h1 : inK .i64 x.F.Type_) (h2 : inK .i64 x.F.Flags) (h3 : inK .i64 x.F.Stream) (h4 : inK .i64 x.F.Pad) (h5 : Rd (Kd.int .u8) w R A5 c5 x.F.Data) (h6 : Rd kApiSetting w R A6 c6 x.F.Settings) (h7 : inK .i64 x.F.Weight) (h8 : inK .i64 x.F.Parent) (h10 : inK .i64 x.F.Promised) (h11 : inK .i64 x.F.Last) (h12 : inK .i64 x.F.Code) (h13 : inK .i64 x.F.Step) (h15 : Rd kApiField w R A15 c15 x.Fields) : kSticklerref52Item.rel w R x [.int .i64 x.From, .int .i64 x.F.Type_, .int .i64 x.F.Flags, .int .i64 x.F.Stream, .int .i64 x.F.Pad, .slice A5 x.F.Data.length c5, .slice A6 x.F.Settings.length c6, .int .i64 x.F.Weight, .int .i64 x.F.Parent, .bool x.F.Alone, .int .i64 x.F.Promised, .int .i64 x.F.Last, .int .i64 x.F.Code, .int .i64 x.F.Step, .bool x.Block, .slice A15 x.Fields.length c15] := by
  simp only [kSticklerref52Item, kApiFrame, Kd.iso, Kd.pair, Kd.int, Kd.bool, Kd.str, Kd.sl]
  exact ⟨_, _, rfl, ⟨rfl, h0⟩, ⟨_, _, rfl, ⟨_, _, rfl, ⟨rfl, h1⟩, ⟨_, _, rfl, ⟨rfl, h2⟩, ⟨_, _, rfl, ⟨rfl, h3⟩, ⟨_, _, rfl, ⟨rfl, h4⟩, ⟨_, _, rfl, ⟨A5, c5, rfl, h5⟩, ⟨_, _, rfl, ⟨A6, c6, rfl, h6⟩, ⟨_, _, rfl, ⟨rfl, h7⟩, ⟨_, _, rfl, ⟨rfl, h8⟩, ⟨_, _, rfl, rfl, ⟨_, _, rfl, ⟨rfl, h10⟩, ⟨_, _, rfl, ⟨rfl, h11⟩, ⟨_, _, rfl, ⟨rfl, h12⟩, ⟨rfl, h13⟩⟩⟩⟩⟩⟩⟩⟩⟩⟩⟩⟩⟩, ⟨_, _, rfl, rfl, ⟨A15, c15, rfl, h15⟩⟩⟩⟩
structure Sticklerref24Option where
  Way : Int
  NewName : Bool
  ShortName : Bool
  ShortValue : Bool
def kSticklerref24Option : Kd Sticklerref24Option := Kd.iso (Kd.pair (Kd.int .i64) (Kd.pair Kd.bool (Kd.pair Kd.bool Kd.bool))) (fun x => (x.Way, (x.NewName, (x.ShortName, x.ShortValue))))
theorem unSticklerref24Option {x : Sticklerref24Option} {cs : List Value} : ∀ w R F, (kd kSticklerref24Option x cs).h w R F → (cs = [.int .i64 x.Way, .bool x.NewName, .bool x.ShortName, .bool x.ShortValue] ∧ inK .i64 x.Way) ∧ Star [] w R F := by
  intro w R F h
  simp only [kd, kSticklerref24Option, Kd.iso, Kd.pair, Kd.int, Kd.bool, Kd.str, Kd.sl] at h
  obtain ⟨_, _, rfl, ⟨rfl, h0⟩, ⟨_, _, rfl, rfl, ⟨_, _, rfl, rfl, rfl⟩⟩⟩ := h
  exact ⟨⟨rfl, h0⟩, trivial⟩
theorem mkSticklerref24Option {x : Sticklerref24Option} {w : World} {R : Foot}  (h0 : inK .i64 x.Way) : kSticklerref24Option.rel w R x [.int .i64 x.Way, .bool x.NewName, .bool x.ShortName, .bool x.ShortValue] := by
  simp only [kSticklerref24Option, Kd.iso, Kd.pair, Kd.int, Kd.bool, Kd.str, Kd.sl]
  exact ⟨_, _, rfl, ⟨rfl, h0⟩, ⟨_, _, rfl, rfl, ⟨_, _, rfl, rfl, rfl⟩⟩⟩
structure Sticklerref52Way where
  Sizes : (List Int)
  How : (List Sticklerref24Option)
  Parts : (List Int)
  Pad : Int
def kSticklerref52Way : Kd Sticklerref52Way := Kd.iso (Kd.pair (Kd.sl (Kd.int .i64)) (Kd.pair (Kd.sl kSticklerref24Option) (Kd.pair (Kd.sl (Kd.int .i64)) (Kd.int .i64)))) (fun x => (x.Sizes, (x.How, (x.Parts, x.Pad))))
theorem unSticklerref52Way {x : Sticklerref52Way} {cs : List Value} : ∀ w R F, (kd kSticklerref52Way x cs).h w R F → ∃ (A0 : Option Addr) (c0 : Nat), ∃ (A1 : Option Addr) (c1 : Nat), ∃ (A2 : Option Addr) (c2 : Nat), (cs = [.slice A0 x.Sizes.length c0, .slice A1 x.How.length c1, .slice A2 x.Parts.length c2, .int .i64 x.Pad] ∧ inK .i64 x.Pad) ∧ Star [rd (Kd.int .i64) A0 c0 x.Sizes, rd kSticklerref24Option A1 c1 x.How, rd (Kd.int .i64) A2 c2 x.Parts] w R F := by
  intro w R F h
  simp only [kd, kSticklerref52Way, Kd.iso, Kd.pair, Kd.int, Kd.bool, Kd.str, Kd.sl] at h
  obtain ⟨_, _, rfl, ⟨A0, c0, rfl, h0⟩, ⟨_, _, rfl, ⟨A1, c1, rfl, h1⟩, ⟨_, _, rfl, ⟨A2, c2, rfl, h2⟩, ⟨rfl, h3⟩⟩⟩⟩ := h
  exact ⟨A0, c0, A1, c1, A2, c2, ⟨rfl, h3⟩, ⟨fun _ => False, fun _ => False, fun _ h => h.elim, fun _ h => h.elim, fun _ h => h.elim, h0, fun _ => False, fun _ => False, fun _ h => h.elim, fun _ h => h.elim, fun _ h => h.elim, h1, fun _ => False, fun _ => False, fun _ h => h.elim, fun _ h => h.elim, fun _ h => h.elim, h2, trivial⟩⟩
theorem mkSticklerref52Way {x : Sticklerref52Way} {w : World} {R : Foot} {A0 : Option Addr} {c0 : Nat} {A1 : Option Addr} {c1 : Nat} {A2 : Option Addr} {c2 : Nat} (h0 : Rd (Kd.int .i64) w R A0 c0 x.Sizes) (h1 : Rd kSticklerref24Option w R A1 c1 x.How) (h2 : Rd (Kd.int .i64) w R A2 c2 x.Parts) (h3 : inK .i64 x.Pad) : kSticklerref52Way.rel w R x [.slice A0 x.Sizes.length c0, .slice A1 x.How.length c1, .slice A2 x.Parts.length c2, .int .i64 x.Pad] := by
  simp only [kSticklerref52Way, Kd.iso, Kd.pair, Kd.int, Kd.bool, Kd.str, Kd.sl]
  exact ⟨_, _, rfl, ⟨A0, c0, rfl, h0⟩, ⟨_, _, rfl, ⟨A1, c1, rfl, h1⟩, ⟨_, _, rfl, ⟨A2, c2, rfl, h2⟩, ⟨rfl, h3⟩⟩⟩⟩
def raw0 : ApiRaw := ⟨0, 0, 0, 0, false, []⟩
def toW (u : Sticklerref52Item) : WeaveItem := ⟨u.From, u.F, u.Block, u.Fields⟩
theorem take_next {α : Type} {l : List α} {i : Nat} {u : α} (h : l[i]? = some u) : l.take (i + 1) = l.take i ++ [u] := by rw [List.take_add_one, h]; rfl
def f_bsame_l0 (xs : List Int) (ys : List Int) : Nat → Nat → Bool
  | 0, _ => false
  | m0 + 1, i => if (i : Int) < ((xs.length : Nat) : Int) then if ((xs[i]?).getD 0) = ((ys[i]?).getD 0) then f_bsame_l0 xs ys m0 (i + 1) else false else true
def f_bsame (xs : List Int) (ys : List Int) : Bool := if ((xs.length : Nat) : Int) = ((ys.length : Nat) : Int) then f_bsame_l0 xs ys ((xs.length - 0) + 1) 0 else false
def f_rsame (a : ApiRaw) (b : ApiRaw) : Bool := if a.From = b.From then if a.Type_ = b.Type_ then if a.Flags = b.Flags then if a.Stream = b.Stream then if (a.Res == b.Res) = true then (f_bsame a.Body b.Body) else false else false else false else false else false
def f_rall_l0 (xs : List ApiRaw) (ys : List ApiRaw) : Nat → Nat → Bool
  | 0, _ => false
  | m0 + 1, i => if (i : Int) < ((xs.length : Nat) : Int) then if (f_rsame ((xs[i]?).getD raw0) ((ys[i]?).getD raw0)) = true then f_rall_l0 xs ys m0 (i + 1) else false else true
def f_rall (xs : List ApiRaw) (ys : List ApiRaw) : Bool := if ((xs.length : Nat) : Int) = ((ys.length : Nat) : Int) then f_rall_l0 xs ys ((xs.length - 0) + 1) 0 else false
theorem s_bsame (A1 : Option Addr) (c1 : Nat) (xs : List Int) (A2 : Option Addr) (c2 : Nat) (ys : List Int) :
    Spec Tryz.prog 32 [.slice A1 xs.length c1, .slice A2 ys.length c2].toArray [rd (Kd.int .u8) A1 c1 xs, rd (Kd.int .u8) A2 c2 ys] (fun v L => v = .bool (f_bsame xs ys) ∧ L = [rd (Kd.int .u8) A1 c1 xs, rd (Kd.int .u8) A2 c2 ys]) := by
  refine Spec.enter Tryz.func32 rfl Tryz.ntmps32 rfl rfl (fun w0 R0 F0 => ?_)
  refine J.seq ?_
  refine J.region ?_
  refine JL.qt (Qt.assign rfl) rfl ?_
  refine JL.nil ?_
  refine JN.code ?_
  refine J.seq ?_
  refine J.seq ?_
  refine J.region ?_
  refine JL.qt (Qt.move rfl) rfl ?_
  refine JL.qt (Qt.bi (fun _ _ => len_slice_run Tryz.underlying37) rfl) rfl ?_
  refine JL.qt (Qt.move rfl) rfl ?_
  refine JL.qt (Qt.bi (fun _ _ => len_slice_run Tryz.underlying37) rfl) rfl ?_
  refine JL.qt (Qt.bin (fun _ => neq_run) rfl rfl rfl) rfl ?_
  refine JL.nil ?_
  refine JN.code ?_
  refine J.cond_ne rfl (fun h1 => ?_) (fun h1 => ?_)
  · refine J.seq ?_
    refine J.region ?_
    refine JL.qt (Qt.assign rfl) rfl ?_
    refine JL.nil ?_
    refine JN.code ?_
    refine J.ret ?_
    refine JN.back (res1 rfl rfl) [0, 0] rfl ?_
    exact ⟨by unfold f_bsame; rw [if_neg h1] <;> rfl, rfl⟩
  refine J.skip ?_
  refine JN.code ?_
  refine J.seq ?_
  refine J.seq ?_
  refine J.region ?_
  refine JL.qt (Qt.assign rfl) rfl ?_
  refine JL.nil ?_
  refine JN.code ?_
  refine J.block ?_
  have hT0 : f_bsame xs ys = f_bsame_l0 xs ys ((xs.length - 0) + 1) 0 := by unfold f_bsame; rw [if_pos h1] <;> rfl
  refine J.tell 0 rfl rd_tell (fun ⟨ht1, ht2⟩ => ?_)
  refine J.loop2 (fun (i : Nat) (m0 : Nat) => [(0, .slice A1 xs.length c1), (1, .slice A2 ys.length c2), (4, .bool false), (5, .int .i64 (i : Int))]) (fun (i : Nat) (m0 : Nat) => [rd (Kd.int .u8) A1 c1 xs, rd (Kd.int .u8) A2 c2 ys]) (fun (i : Nat) (m0 : Nat) => (i ≤ xs.length) ∧ (xs.length - i) < m0 ∧ f_bsame_l0 xs ys m0 i = f_bsame_l0 xs ys ((xs.length - 0) + 1) 0) (fun (i : Nat) (m0 : Nat) => xs.length - i) 0 ((xs.length - 0) + 1) ⟨Nat.zero_le _, by omega, rfl⟩ ⟨rfl, rfl, rfl, rfl, trivial⟩ [0, 0] rfl ?_
  rintro i m0 ⟨hi, hm0, hI0⟩
  obtain ⟨m0, rfl⟩ : ∃ z, m0 = z + 1 := ⟨m0 - 1, by omega⟩
  refine J.seq ?_
  refine J.seq ?_
  refine J.region ?_
  refine JL.qt (Qt.move rfl) rfl ?_
  refine JL.qt (Qt.move rfl) rfl ?_
  refine JL.qt (Qt.bi (fun _ _ => len_slice_run Tryz.underlying37) rfl) rfl ?_
  refine JL.qt (Qt.bin (fun _ => lss_run) rfl rfl rfl) rfl ?_
  refine JL.nil ?_
  refine JN.code ?_
  refine J.cond_dec rfl (fun h2 => ?_) (fun h2 => ?_)
  · refine J.skip ?_
    refine JN.code ?_
    refine J.seq ?_
    refine J.block ?_
    refine J.seq ?_
    have hu1 := getkD (xs := xs) (k := i) 0 (by omega)
    have hu2 := getkD (xs := ys) (k := i) 0 (by omega)
    refine J.elem (k := i) (u := ((xs[i]?).getD 0)) 0 rfl hu1 (fun b_1 o_2 cs_3 hA_4 => ?_); subst hA_4
    refine J.unf0 1 rfl unInt ?_; rintro ⟨rfl, e_5⟩
    refine J.elem (k := i) (u := ((ys[i]?).getD 0)) 2 rfl hu2 (fun b_6 o_7 cs_8 hA_9 => ?_); subst hA_9
    refine J.unf0 1 rfl unInt ?_; rintro ⟨rfl, e_10⟩
    refine J.sch (.qt 0 (.qt 1 (.qt 2 (.qt 3 (.qt 4 (.qt 5 (.qt 6 (.qt 7 (.qt 8 (.done)))))))))) mixed (by repeat (first | exact Xe.noLook_body | refine noLook_then ?_ | refine noLook_block ?_)) (by kernel_rfl) ?_
    refine JS.q0 rfl (Qt.move rfl) rfl ?_
    refine JS.q0 rfl (Qt.move rfl) rfl ?_
    refine JS.q0 rfl (Qt.ia Tryz.underlying37 sz5 rfl rfl (by omega) (by omega)) rfl ?_
    refine JS.q1 (j := 1) rfl rfl rfl (Qt.ld_ro (j := 0) 0 pl5 rfl rfl rfl rfl) rfl ?_
    refine JS.q0 rfl (Qt.move rfl) rfl ?_
    refine JS.q0 rfl (Qt.move rfl) rfl ?_
    refine JS.q0 rfl (Qt.ia Tryz.underlying37 sz5 rfl rfl (by omega) (by omega)) rfl ?_
    refine JS.q1 (j := 0) rfl rfl rfl (Qt.ld_ro (j := 0) 0 pl5 rfl rfl rfl rfl) rfl ?_
    refine JS.q0 rfl (Qt.bin (fun _ => neq_run) rfl rfl rfl) rfl ?_
    refine JS.done ?_
    refine JN.code ?_
    refine J.cond_ne rfl (fun h3 => ?_) (fun h3 => ?_)
    · refine J.seq ?_
      refine J.region ?_
      refine JL.qt (Qt.assign rfl) rfl ?_
      refine JL.nil ?_
      refine JN.code ?_
      refine J.ret ?_
      refine JN.back (res1 rfl rfl) [2, 2] rfl ?_
      exact ⟨by rw [hT0, ← hI0, f_bsame_l0]; rw [if_pos h2, if_neg h3] <;> rfl, rfl⟩
    refine J.skip ?_
    refine JN.code ?_
    refine J.region ?_
    refine JL.qt (Qt.move rfl) rfl ?_
    refine JL.qt (Qt.bin (fun _ => addN_run rfl (by omega) (by omega)) rfl rfl rfl) rfl ?_
    refine JL.qt (Qt.assign rfl) rfl ?_
    refine JL.nil ?_
    refine JN.round2 (z0 := i) (z1 := (m0 + 1)) (i + 1) m0 (by omega) ⟨by omega, by omega, by rw [← hI0, f_bsame_l0]; rw [if_pos h2, if_pos h3] <;> rfl⟩ ⟨rfl, rfl, rfl, rfl, trivial⟩ [2, 2] rfl
  refine J.exit ?_
  refine JN.code ?_
  refine J.seq ?_
  refine J.region ?_
  refine JL.qt (Qt.assign rfl) rfl ?_
  refine JL.nil ?_
  refine JN.code ?_
  refine J.ret ?_
  refine JN.back (res1 rfl rfl) [0, 0] rfl ?_
  exact ⟨by rw [hT0, ← hI0, f_bsame_l0]; rw [if_neg h2] <;> rfl, rfl⟩
theorem s_rsame (a : ApiRaw) (b : ApiRaw) (Aa5 : Option Addr) (ca5 : Nat) (Ab5 : Option Addr) (cb5 : Nat) :
    Spec Tryz.prog 16 [.agg #[.int .i64 a.From, .int .i64 a.Type_, .int .i64 a.Flags, .int .i64 a.Stream, .bool a.Res, .slice Aa5 a.Body.length ca5], .agg #[.int .i64 b.From, .int .i64 b.Type_, .int .i64 b.Flags, .int .i64 b.Stream, .bool b.Res, .slice Ab5 b.Body.length cb5]].toArray [rd (Kd.int .u8) Aa5 ca5 a.Body, rd (Kd.int .u8) Ab5 cb5 b.Body] (fun v L => v = .bool (f_rsame a b) ∧ L = [rd (Kd.int .u8) Aa5 ca5 a.Body, rd (Kd.int .u8) Ab5 cb5 b.Body]) := by
  refine Spec.enter Tryz.func16 rfl Tryz.ntmps16 rfl rfl (fun w0 R0 F0 => ?_)
  refine J.seq ?_
  refine J.region ?_
  refine JL.ef (O1.box rfl rfl) rfl ?_
  rintro _ _ ⟨b_1, rfl, rfl⟩
  refine JL.ef (O1.box rfl rfl) rfl ?_
  rintro _ _ ⟨b_2, rfl, rfl⟩
  refine JL.qt (Qt.assign rfl) rfl ?_
  refine JL.nil ?_
  refine JN.code ?_
  refine J.seq ?_
  refine J.region ?_
  refine JL.qt (Qt.fa (o' := 0) fo45_0 rfl rfl) rfl ?_
  refine JL.qt (Qt.ld 1 pl3 rfl rfl rfl) rfl ?_
  refine JL.qt (Qt.fa (o' := 0) fo45_0 rfl rfl) rfl ?_
  refine JL.qt (Qt.ld 0 pl3 rfl rfl rfl) rfl ?_
  refine JL.qt (Qt.bin (fun _ => eql_run) rfl rfl rfl) rfl ?_
  refine JL.qt (Qt.move rfl) rfl ?_
  refine JL.cases_eq (t := 10) rfl (fun h1 => ?_) (fun h1 => ?_)
  · refine JL.g_in rfl rfl ?_
    refine JL.qt (Qt.fa (o' := 1) fo45_1 rfl rfl) rfl ?_
    refine JL.g_in rfl rfl ?_
    refine JL.qt (Qt.ld 1 pl3 rfl rfl rfl) rfl ?_
    refine JL.g_in rfl rfl ?_
    refine JL.qt (Qt.fa (o' := 1) fo45_1 rfl rfl) rfl ?_
    refine JL.g_in rfl rfl ?_
    refine JL.qt (Qt.ld 0 pl3 rfl rfl rfl) rfl ?_
    refine JL.g_in rfl rfl ?_
    refine JL.qt (Qt.bin (fun _ => eql_run) rfl rfl rfl) rfl ?_
    refine JL.qt (Qt.pick_t rfl rfl) rfl ?_
    refine JL.qt (Qt.move rfl) rfl ?_
    refine JL.cases_eq (t := 17) rfl (fun h2 => ?_) (fun h2 => ?_)
    · refine JL.g_in rfl rfl ?_
      refine JL.qt (Qt.fa (o' := 2) fo45_2 rfl rfl) rfl ?_
      refine JL.g_in rfl rfl ?_
      refine JL.qt (Qt.ld 1 pl3 rfl rfl rfl) rfl ?_
      refine JL.g_in rfl rfl ?_
      refine JL.qt (Qt.fa (o' := 2) fo45_2 rfl rfl) rfl ?_
      refine JL.g_in rfl rfl ?_
      refine JL.qt (Qt.ld 0 pl3 rfl rfl rfl) rfl ?_
      refine JL.g_in rfl rfl ?_
      refine JL.qt (Qt.bin (fun _ => eql_run) rfl rfl rfl) rfl ?_
      refine JL.qt (Qt.pick_t rfl rfl) rfl ?_
      refine JL.qt (Qt.move rfl) rfl ?_
      refine JL.cases_eq (t := 24) rfl (fun h3 => ?_) (fun h3 => ?_)
      · refine JL.g_in rfl rfl ?_
        refine JL.qt (Qt.fa (o' := 3) fo45_3 rfl rfl) rfl ?_
        refine JL.g_in rfl rfl ?_
        refine JL.qt (Qt.ld 1 pl3 rfl rfl rfl) rfl ?_
        refine JL.g_in rfl rfl ?_
        refine JL.qt (Qt.fa (o' := 3) fo45_3 rfl rfl) rfl ?_
        refine JL.g_in rfl rfl ?_
        refine JL.qt (Qt.ld 0 pl3 rfl rfl rfl) rfl ?_
        refine JL.g_in rfl rfl ?_
        refine JL.qt (Qt.bin (fun _ => eql_run) rfl rfl rfl) rfl ?_
        refine JL.qt (Qt.pick_t rfl rfl) rfl ?_
        refine JL.qt (Qt.move rfl) rfl ?_
        refine JL.cases_eq (t := 31) rfl (fun h4 => ?_) (fun h4 => ?_)
        · refine JL.g_in rfl rfl ?_
          refine JL.qt (Qt.fa (o' := 4) fo45_4 rfl rfl) rfl ?_
          refine JL.g_in rfl rfl ?_
          refine JL.qt (Qt.ld 1 pl4 rfl rfl rfl) rfl ?_
          refine JL.g_in rfl rfl ?_
          refine JL.qt (Qt.fa (o' := 4) fo45_4 rfl rfl) rfl ?_
          refine JL.g_in rfl rfl ?_
          refine JL.qt (Qt.ld 0 pl4 rfl rfl rfl) rfl ?_
          refine JL.g_in rfl rfl ?_
          refine JL.qt (Qt.bin (fun _ => beql_run Tryz.underlying4) rfl rfl rfl) rfl ?_
          refine JL.qt (Qt.pick_t rfl rfl) rfl ?_
          refine JL.qt (Qt.move rfl) rfl ?_
          refine JL.cases (t := 38) rfl (fun h5 => ?_) (fun h5 => ?_)
          · refine JL.g_in rfl rfl ?_
            refine JL.qt (Qt.fa (o' := 5) fo45_5 rfl rfl) rfl ?_
            refine JL.g_in rfl rfl ?_
            refine JL.qt (Qt.ld 1 pl37 rfl rfl rfl) rfl ?_
            refine JL.g_in rfl rfl ?_
            refine JL.qt (Qt.fa (o' := 5) fo45_5 rfl rfl) rfl ?_
            refine JL.g_in rfl rfl ?_
            refine JL.qt (Qt.ld 0 pl37 rfl rfl rfl) rfl ?_
            refine JL.g_in rfl rfl ?_
            refine JL.call (O1.call Tryz.func32 rfl rfl rfl [2, 2] rfl (s_bsame Aa5 ca5 a.Body Ab5 cb5 b.Body)) rfl ?_
            rintro _ _ ⟨rfl, rfl⟩
            refine JL.qt (Qt.pick_t rfl rfl) rfl ?_
            refine JL.qt (Qt.assign rfl) rfl ?_
            refine JL.nil ?_
            refine JN.code ?_
            refine J.ret ?_
            refine JN.back (res1 rfl rfl) [0, 0] rfl ?_
            exact ⟨by unfold f_rsame; rw [if_pos h1, if_pos h2, if_pos h3, if_pos h4, if_pos h5] <;> rfl, rfl⟩
          refine JL.g_outU rfl rfl rfl rfl ?_
          refine JL.g_outU rfl rfl rfl rfl ?_
          refine JL.g_outU rfl rfl rfl rfl ?_
          refine JL.g_outU rfl rfl rfl rfl ?_
          refine JL.g_outU rfl rfl rfl rfl ?_
          refine JL.qt (Qt.pick_f rfl rfl) rfl ?_
          refine JL.qt (Qt.assign rfl) rfl ?_
          refine JL.nil ?_
          refine JN.code ?_
          refine J.ret ?_
          refine JN.back (res1 rfl rfl) [2, 2] rfl ?_
          exact ⟨by unfold f_rsame; rw [if_pos h1, if_pos h2, if_pos h3, if_pos h4, if_neg (Bool.eq_false_iff.1 h5)] <;> rfl, rfl⟩
        refine JL.g_outU rfl rfl rfl rfl ?_
        refine JL.g_outU rfl rfl rfl rfl ?_
        refine JL.g_outU rfl rfl rfl rfl ?_
        refine JL.g_outU rfl rfl rfl rfl ?_
        refine JL.g_outU rfl rfl rfl rfl ?_
        refine JL.qt (Qt.pick_f rfl rfl) rfl ?_
        refine JL.qt (Qt.move rfl) rfl ?_
        refine JL.g_outU rfl rfl rfl rfl ?_
        refine JL.g_outU rfl rfl rfl rfl ?_
        refine JL.g_outU rfl rfl rfl rfl ?_
        refine JL.g_outU rfl rfl rfl rfl ?_
        refine JL.g_outU rfl rfl rfl rfl ?_
        refine JL.qt (Qt.pick_f rfl rfl) rfl ?_
        refine JL.qt (Qt.assign rfl) rfl ?_
        refine JL.nil ?_
        refine JN.code ?_
        refine J.ret ?_
        refine JN.back (res1 rfl rfl) [2, 2] rfl ?_
        exact ⟨by unfold f_rsame; rw [if_pos h1, if_pos h2, if_pos h3, if_neg h4] <;> rfl, rfl⟩
      refine JL.g_outU rfl rfl rfl rfl ?_
      refine JL.g_outU rfl rfl rfl rfl ?_
      refine JL.g_outU rfl rfl rfl rfl ?_
      refine JL.g_outU rfl rfl rfl rfl ?_
      refine JL.g_outU rfl rfl rfl rfl ?_
      refine JL.qt (Qt.pick_f rfl rfl) rfl ?_
      refine JL.qt (Qt.move rfl) rfl ?_
      refine JL.g_outU rfl rfl rfl rfl ?_
      refine JL.g_outU rfl rfl rfl rfl ?_
      refine JL.g_outU rfl rfl rfl rfl ?_
      refine JL.g_outU rfl rfl rfl rfl ?_
      refine JL.g_outU rfl rfl rfl rfl ?_
      refine JL.qt (Qt.pick_f rfl rfl) rfl ?_
      refine JL.qt (Qt.move rfl) rfl ?_
      refine JL.g_outU rfl rfl rfl rfl ?_
      refine JL.g_outU rfl rfl rfl rfl ?_
      refine JL.g_outU rfl rfl rfl rfl ?_
      refine JL.g_outU rfl rfl rfl rfl ?_
      refine JL.g_outU rfl rfl rfl rfl ?_
      refine JL.qt (Qt.pick_f rfl rfl) rfl ?_
      refine JL.qt (Qt.assign rfl) rfl ?_
      refine JL.nil ?_
      refine JN.code ?_
      refine J.ret ?_
      refine JN.back (res1 rfl rfl) [2, 2] rfl ?_
      exact ⟨by unfold f_rsame; rw [if_pos h1, if_pos h2, if_neg h3] <;> rfl, rfl⟩
    refine JL.g_outU rfl rfl rfl rfl ?_
    refine JL.g_outU rfl rfl rfl rfl ?_
    refine JL.g_outU rfl rfl rfl rfl ?_
    refine JL.g_outU rfl rfl rfl rfl ?_
    refine JL.g_outU rfl rfl rfl rfl ?_
    refine JL.qt (Qt.pick_f rfl rfl) rfl ?_
    refine JL.qt (Qt.move rfl) rfl ?_
    refine JL.g_outU rfl rfl rfl rfl ?_
    refine JL.g_outU rfl rfl rfl rfl ?_
    refine JL.g_outU rfl rfl rfl rfl ?_
    refine JL.g_outU rfl rfl rfl rfl ?_
    refine JL.g_outU rfl rfl rfl rfl ?_
    refine JL.qt (Qt.pick_f rfl rfl) rfl ?_
    refine JL.qt (Qt.move rfl) rfl ?_
    refine JL.g_outU rfl rfl rfl rfl ?_
    refine JL.g_outU rfl rfl rfl rfl ?_
    refine JL.g_outU rfl rfl rfl rfl ?_
    refine JL.g_outU rfl rfl rfl rfl ?_
    refine JL.g_outU rfl rfl rfl rfl ?_
    refine JL.qt (Qt.pick_f rfl rfl) rfl ?_
    refine JL.qt (Qt.move rfl) rfl ?_
    refine JL.g_outU rfl rfl rfl rfl ?_
    refine JL.g_outU rfl rfl rfl rfl ?_
    refine JL.g_outU rfl rfl rfl rfl ?_
    refine JL.g_outU rfl rfl rfl rfl ?_
    refine JL.g_outU rfl rfl rfl rfl ?_
    refine JL.qt (Qt.pick_f rfl rfl) rfl ?_
    refine JL.qt (Qt.assign rfl) rfl ?_
    refine JL.nil ?_
    refine JN.code ?_
    refine J.ret ?_
    refine JN.back (res1 rfl rfl) [2, 2] rfl ?_
    exact ⟨by unfold f_rsame; rw [if_pos h1, if_neg h2] <;> rfl, rfl⟩
  refine JL.g_outU rfl rfl rfl rfl ?_
  refine JL.g_outU rfl rfl rfl rfl ?_
  refine JL.g_outU rfl rfl rfl rfl ?_
  refine JL.g_outU rfl rfl rfl rfl ?_
  refine JL.g_outU rfl rfl rfl rfl ?_
  refine JL.qt (Qt.pick_f rfl rfl) rfl ?_
  refine JL.qt (Qt.move rfl) rfl ?_
  refine JL.g_outU rfl rfl rfl rfl ?_
  refine JL.g_outU rfl rfl rfl rfl ?_
  refine JL.g_outU rfl rfl rfl rfl ?_
  refine JL.g_outU rfl rfl rfl rfl ?_
  refine JL.g_outU rfl rfl rfl rfl ?_
  refine JL.qt (Qt.pick_f rfl rfl) rfl ?_
  refine JL.qt (Qt.move rfl) rfl ?_
  refine JL.g_outU rfl rfl rfl rfl ?_
  refine JL.g_outU rfl rfl rfl rfl ?_
  refine JL.g_outU rfl rfl rfl rfl ?_
  refine JL.g_outU rfl rfl rfl rfl ?_
  refine JL.g_outU rfl rfl rfl rfl ?_
  refine JL.qt (Qt.pick_f rfl rfl) rfl ?_
  refine JL.qt (Qt.move rfl) rfl ?_
  refine JL.g_outU rfl rfl rfl rfl ?_
  refine JL.g_outU rfl rfl rfl rfl ?_
  refine JL.g_outU rfl rfl rfl rfl ?_
  refine JL.g_outU rfl rfl rfl rfl ?_
  refine JL.g_outU rfl rfl rfl rfl ?_
  refine JL.qt (Qt.pick_f rfl rfl) rfl ?_
  refine JL.qt (Qt.move rfl) rfl ?_
  refine JL.g_outU rfl rfl rfl rfl ?_
  refine JL.g_outU rfl rfl rfl rfl ?_
  refine JL.g_outU rfl rfl rfl rfl ?_
  refine JL.g_outU rfl rfl rfl rfl ?_
  refine JL.g_outU rfl rfl rfl rfl ?_
  refine JL.qt (Qt.pick_f rfl rfl) rfl ?_
  refine JL.qt (Qt.assign rfl) rfl ?_
  refine JL.nil ?_
  refine JN.code ?_
  refine J.ret ?_
  refine JN.back (res1 rfl rfl) [2, 2] rfl ?_
  exact ⟨by unfold f_rsame; rw [if_neg h1] <;> rfl, rfl⟩
theorem s_rall (A1 : Option Addr) (c1 : Nat) (xs : List ApiRaw) (A2 : Option Addr) (c2 : Nat) (ys : List ApiRaw) :
    Spec Tryz.prog 8 [.slice A1 xs.length c1, .slice A2 ys.length c2].toArray [rd kApiRaw A1 c1 xs, rd kApiRaw A2 c2 ys] (fun v L => v = .bool (f_rall xs ys) ∧ L = [rd kApiRaw A1 c1 xs, rd kApiRaw A2 c2 ys]) := by
  refine Spec.enter Tryz.func8 rfl Tryz.ntmps8 rfl rfl (fun w0 R0 F0 => ?_)
  refine J.seq ?_
  refine J.region ?_
  refine JL.qt (Qt.assign rfl) rfl ?_
  refine JL.nil ?_
  refine JN.code ?_
  refine J.seq ?_
  refine J.seq ?_
  refine J.region ?_
  refine JL.qt (Qt.move rfl) rfl ?_
  refine JL.qt (Qt.bi (fun _ _ => len_slice_run Tryz.underlying30) rfl) rfl ?_
  refine JL.qt (Qt.move rfl) rfl ?_
  refine JL.qt (Qt.bi (fun _ _ => len_slice_run Tryz.underlying30) rfl) rfl ?_
  refine JL.qt (Qt.bin (fun _ => neq_run) rfl rfl rfl) rfl ?_
  refine JL.nil ?_
  refine JN.code ?_
  refine J.cond_ne rfl (fun h1 => ?_) (fun h1 => ?_)
  · refine J.seq ?_
    refine J.region ?_
    refine JL.qt (Qt.assign rfl) rfl ?_
    refine JL.nil ?_
    refine JN.code ?_
    refine J.ret ?_
    refine JN.back (res1 rfl rfl) [0, 0] rfl ?_
    exact ⟨by unfold f_rall; rw [if_neg h1] <;> rfl, rfl⟩
  refine J.skip ?_
  refine JN.code ?_
  refine J.seq ?_
  refine J.seq ?_
  refine J.region ?_
  refine JL.qt (Qt.assign rfl) rfl ?_
  refine JL.nil ?_
  refine JN.code ?_
  refine J.block ?_
  have hT0 : f_rall xs ys = f_rall_l0 xs ys ((xs.length - 0) + 1) 0 := by unfold f_rall; rw [if_pos h1] <;> rfl
  refine J.tell 0 rfl rd_tell (fun ⟨ht1, ht2⟩ => ?_)
  refine J.loop2 (fun (i : Nat) (m0 : Nat) => [(0, .slice A1 xs.length c1), (1, .slice A2 ys.length c2), (4, .bool false), (5, .int .i64 (i : Int))]) (fun (i : Nat) (m0 : Nat) => [rd kApiRaw A1 c1 xs, rd kApiRaw A2 c2 ys]) (fun (i : Nat) (m0 : Nat) => (i ≤ xs.length) ∧ (xs.length - i) < m0 ∧ f_rall_l0 xs ys m0 i = f_rall_l0 xs ys ((xs.length - 0) + 1) 0) (fun (i : Nat) (m0 : Nat) => xs.length - i) 0 ((xs.length - 0) + 1) ⟨Nat.zero_le _, by omega, rfl⟩ ⟨rfl, rfl, rfl, rfl, trivial⟩ [0, 0] rfl ?_
  rintro i m0 ⟨hi, hm0, hI0⟩
  obtain ⟨m0, rfl⟩ : ∃ z, m0 = z + 1 := ⟨m0 - 1, by omega⟩
  refine J.seq ?_
  refine J.seq ?_
  refine J.region ?_
  refine JL.qt (Qt.move rfl) rfl ?_
  refine JL.qt (Qt.move rfl) rfl ?_
  refine JL.qt (Qt.bi (fun _ _ => len_slice_run Tryz.underlying30) rfl) rfl ?_
  refine JL.qt (Qt.bin (fun _ => lss_run) rfl rfl rfl) rfl ?_
  refine JL.nil ?_
  refine JN.code ?_
  refine J.cond_dec rfl (fun h2 => ?_) (fun h2 => ?_)
  · refine J.skip ?_
    refine JN.code ?_
    refine J.seq ?_
    refine J.block ?_
    refine J.seq ?_
    have hu1 := getkD (xs := xs) (k := i) raw0 (by omega)
    have hu2 := getkD (xs := ys) (k := i) raw0 (by omega)
    refine J.elem (k := i) (u := ((xs[i]?).getD raw0)) 0 rfl hu1 (fun b_1 o_2 cs_3 hA_4 => ?_); subst hA_4
    refine J.unf2 1 rfl unApiRaw ?_; rintro A_9 c_10 ⟨rfl, e_5, e_6, e_7, e_8⟩
    refine J.elem (k := i) (u := ((ys[i]?).getD raw0)) 3 rfl hu2 (fun b_11 o_12 cs_13 hA_14 => ?_); subst hA_14
    refine J.unf2 1 rfl unApiRaw ?_; rintro A_19 c_20 ⟨rfl, e_15, e_16, e_17, e_18⟩
    refine J.sch (.qt 0 (.qt 1 (.qt 2 (.qt 3 (.qt 4 (.qt 5 (.qt 6 (.qt 7 (.ef 8 [] (.qt 9 (.done))))))))))) mixed (by repeat (first | exact Xe.noLook_body | refine noLook_then ?_ | refine noLook_block ?_)) (by kernel_rfl) ?_
    refine JS.q0 rfl (Qt.move rfl) rfl ?_
    refine JS.q0 rfl (Qt.move rfl) rfl ?_
    refine JS.q0 rfl (Qt.ia Tryz.underlying30 sz45 rfl rfl (by omega) (by omega)) rfl ?_
    refine JS.q1 (j := 3) rfl rfl rfl (Qt.ldA_ro (j := 0) 0 ag45 sz45 rfl rfl rfl rfl rfl) rfl ?_
    refine JS.q0 rfl (Qt.move rfl) rfl ?_
    refine JS.q0 rfl (Qt.move rfl) rfl ?_
    refine JS.q0 rfl (Qt.ia Tryz.underlying30 sz45 rfl rfl (by omega) (by omega)) rfl ?_
    refine JS.q1 (j := 1) rfl rfl rfl (Qt.ldA_ro (j := 0) 0 ag45 sz45 rfl rfl rfl rfl rfl) rfl ?_
    refine JS.e1 ?_
    refine JE.ef rfl (O1.call Tryz.func16 rfl rfl rfl [2, 0] rfl (s_rsame _ _ A_9 c_10 A_19 c_20)) rfl ?_
    rintro _ _ ⟨_, ⟨rfl, rfl⟩, rfl⟩
    refine ⟨⟨.inl rfl, ⟨.inl rfl, trivial⟩⟩, ?_⟩
    refine JS.q0 rfl (Qt.un (fun _ => not_run) rfl) rfl ?_
    refine JS.done ?_
    refine JN.code ?_
    refine J.cond_not rfl (fun h3 => ?_) (fun h3 => ?_)
    · refine J.seq ?_
      refine J.region ?_
      refine JL.qt (Qt.assign rfl) rfl ?_
      refine JL.nil ?_
      refine JN.code ?_
      refine J.ret ?_
      refine JN.back (res1 rfl rfl) [4, 4] rfl ?_
      exact ⟨by rw [hT0, ← hI0, f_rall_l0]; rw [if_pos h2, if_neg (Bool.eq_false_iff.1 h3)] <;> rfl, rfl⟩
    refine J.skip ?_
    refine JN.code ?_
    refine J.region ?_
    refine JL.qt (Qt.move rfl) rfl ?_
    refine JL.qt (Qt.bin (fun _ => addN_run rfl (by omega) (by omega)) rfl rfl rfl) rfl ?_
    refine JL.qt (Qt.assign rfl) rfl ?_
    refine JL.nil ?_
    refine JN.round2 (z0 := i) (z1 := (m0 + 1)) (i + 1) m0 (by omega) ⟨by omega, by omega, by rw [← hI0, f_rall_l0]; rw [if_pos h2, if_pos h3] <;> rfl⟩ ⟨rfl, rfl, rfl, rfl, trivial⟩ [4, 4] rfl
  refine J.exit ?_
  refine JN.code ?_
  refine J.seq ?_
  refine J.region ?_
  refine JL.qt (Qt.assign rfl) rfl ?_
  refine JL.nil ?_
  refine JN.code ?_
  refine J.ret ?_
  refine JN.back (res1 rfl rfl) [0, 0] rfl ?_
  exact ⟨by rw [hT0, ← hI0, f_rall_l0]; rw [if_neg h2] <;> rfl, rfl⟩
theorem s_own (A1 : Option Addr) (c1 : Nat) (l : List Sticklerref52Item) (hl : l.length ≤ 1073741824) :
    Spec Tryz.prog 6 [.slice A1 l.length c1].toArray [rd kSticklerref52Item A1 c1 l] (fun v L => ∃ (A2 : Option Addr), ∃ (c2 : Nat), v = .slice A2 ((l.map toW).length) c2 ∧ L = [row kWeaveItem 61 A2 c2 (l.map toW), rd kSticklerref52Item A1 c1 l]) := by
  refine Spec.enter Tryz.func6 rfl Tryz.ntmps6 rfl rfl (fun w0 R0 F0 => ?_)
  refine J.seq ?_
  refine J.region ?_
  refine JL.qt (Qt.assign rfl) rfl ?_
  refine JL.nil ?_
  refine JN.code ?_
  refine J.seq ?_
  refine J.region ?_
  refine JL.qt (Qt.assign rfl) rfl ?_
  refine JL.nil ?_
  refine JN.code ?_
  refine J.seq ?_
  refine J.seq ?_
  refine J.region ?_
  refine JL.qt (Qt.move rfl) rfl ?_
  refine JL.qt (Qt.bi (fun _ _ => len_slice_run Tryz.underlying22) rfl) rfl ?_
  refine JL.qt (Qt.move rfl) rfl ?_
  refine JL.nil ?_
  refine JN.code ?_
  refine J.block ?_
  refine J.intro_pers (p := row kWeaveItem 61 none 0 []) (fun w R => row_nil _ _ w R) ?_
  refine J.loop3 (fun (i : Nat) (out : List WeaveItem) (ad : Option Addr × Nat) => [(2, .slice none 0 0), (3, .slice ad.1 out.length ad.2), (6, .slice A1 l.length c1), (7, .int .i64 ((l.length : Nat) : Int)), (8, .int .i64 (i : Int))]) (fun (i : Nat) (out : List WeaveItem) (ad : Option Addr × Nat) => [row kWeaveItem 61 ad.1 ad.2 out, rd kSticklerref52Item A1 c1 l]) (fun (i : Nat) (out : List WeaveItem) (ad : Option Addr × Nat) => i ≤ l.length ∧ out = (l.take i).map toW) (fun (i : Nat) (out : List WeaveItem) (ad : Option Addr × Nat) => l.length - i) 0 [] (none, 0) ⟨Nat.zero_le _, rfl⟩ ⟨rfl, rfl, rfl, rfl, rfl, trivial⟩ [0, 0] rfl ?_
  rintro i out ad ⟨hi, ho⟩
  have hol : out.length ≤ i := by rw [ho, List.length_map, List.length_take]; omega
  refine J.seq ?_
  refine J.region ?_
  refine JL.qt (Qt.bin (fun _ => lss_run) rfl rfl rfl) rfl ?_
  refine JL.nil ?_
  refine JN.code ?_
  refine J.seq ?_
  refine J.cond_dec rfl (fun h1 => ?_) (fun h1 => ?_)
  · refine J.skip ?_
    refine JN.code ?_
    refine J.seq ?_
    refine J.block ?_
    refine J.seq ?_
    obtain ⟨u, hu⟩ := getk l i (by omega)
    refine J.elem (k := i) (u := u) 1 rfl hu (fun b_1 o_2 cs_3 hA_4 => ?_); subst hA_4
    refine J.unf6 1 rfl unSticklerref52Item ?_; rintro A_10 c_11 A_12 c_13 A_20 c_21 ⟨rfl, e_5, e_6, e_7, e_8, e_9, e_14, e_15, e_16, e_17, e_18, e_19⟩
    refine J.region ?_
    refine JL.qt (Qt.ia Tryz.underlying22 sz43 rfl rfl (by omega) (by omega)) rfl ?_
    refine JL.qt (Qt.ldA_ro (j := 0) 3 ag43 sz43 rfl rfl rfl rfl rfl) rfl ?_
    refine JL.ef (O1.alloc ze43) rfl ?_
    rintro _ _ ⟨b_22, rfl, rfl⟩
    refine JL.sk (O1.stA 0 sz43 rfl rfl rfl rfl rfl rfl rfl rfl) ?_
    refine JL.nil ?_
    refine JN.code ?_
    refine J.at [blk b_22 43 [.int .i64 u.From, .int .i64 u.F.Type_, .int .i64 u.F.Flags, .int .i64 u.F.Stream, .int .i64 u.F.Pad, .slice A_10 u.F.Data.length c_11, .slice A_12 u.F.Settings.length c_13, .int .i64 u.F.Weight, .int .i64 u.F.Parent, .bool u.F.Alone, .int .i64 u.F.Promised, .int .i64 u.F.Last, .int .i64 u.F.Code, .int .i64 u.F.Step, .bool u.Block, .slice A_20 u.Fields.length c_21], rd (Kd.int .u8) A_10 c_11 u.F.Data, rd kApiSetting A_12 c_13 u.F.Settings, rd kApiField A_20 c_21 u.Fields, roc b_1 (o_2 + i * 16) [.int .i64 u.From, .int .i64 u.F.Type_, .int .i64 u.F.Flags, .int .i64 u.F.Stream, .int .i64 u.F.Pad, .slice A_10 u.F.Data.length c_11, .slice A_12 u.F.Settings.length c_13, .int .i64 u.F.Weight, .int .i64 u.F.Parent, .bool u.F.Alone, .int .i64 u.F.Promised, .int .i64 u.F.Last, .int .i64 u.F.Code, .int .i64 u.F.Step, .bool u.Block, .slice A_20 u.Fields.length c_21], row kWeaveItem 61 ad.1 ad.2 out, rd kSticklerref52Item (some ⟨b_1, o_2, none⟩) c1 l] rfl ?_
    refine J.region ?_
    refine JL.qt (Qt.move rfl) rfl ?_
    refine JL.qt (Qt.fa (o' := 0) fo43_0 rfl rfl) rfl ?_
    refine JL.qt (Qt.ld 0 pl3 rfl rfl rfl) rfl ?_
    refine JL.qt (Qt.fa (o' := 1) fo43_1 rfl rfl) rfl ?_
    refine JL.qt (Qt.ldA 0 ag40 sz40 rfl rfl rfl rfl) rfl ?_
    refine JL.qt (Qt.fa (o' := 14) fo43_2 rfl rfl) rfl ?_
    refine JL.qt (Qt.ld 0 pl4 rfl rfl rfl) rfl ?_
    refine JL.qt (Qt.fa (o' := 15) fo43_3 rfl rfl) rfl ?_
    refine JL.qt (Qt.ld 0 pl41 rfl rfl rfl) rfl ?_
    refine JL.qt (Qt.build (cs := [.int .i64 u.From, .int .i64 u.F.Type_, .int .i64 u.F.Flags, .int .i64 u.F.Stream, .int .i64 u.F.Pad, .slice A_10 u.F.Data.length c_11, .slice A_12 u.F.Settings.length c_13, .int .i64 u.F.Weight, .int .i64 u.F.Parent, .bool u.F.Alone, .int .i64 u.F.Promised, .int .i64 u.F.Last, .int .i64 u.F.Code, .int .i64 u.F.Step, .bool u.Block, .slice A_20 u.Fields.length c_21]) sp61 ze61 rfl (by kernel_rfl)) rfl ?_
    refine JL.ef (O1.bsl el34 ze61 rfl rfl rfl) rfl ?_
    rintro _ _ ⟨b_23, rfl, rfl⟩
    refine JL.at [blk b_23 61 [.int .i64 u.From, .int .i64 u.F.Type_, .int .i64 u.F.Flags, .int .i64 u.F.Stream, .int .i64 u.F.Pad, .slice A_10 u.F.Data.length c_11, .slice A_12 u.F.Settings.length c_13, .int .i64 u.F.Weight, .int .i64 u.F.Parent, .bool u.F.Alone, .int .i64 u.F.Promised, .int .i64 u.F.Last, .int .i64 u.F.Code, .int .i64 u.F.Step, .bool u.Block, .slice A_20 u.Fields.length c_21], blk b_22 43 [.int .i64 u.From, .int .i64 u.F.Type_, .int .i64 u.F.Flags, .int .i64 u.F.Stream, .int .i64 u.F.Pad, .slice A_10 u.F.Data.length c_11, .slice A_12 u.F.Settings.length c_13, .int .i64 u.F.Weight, .int .i64 u.F.Parent, .bool u.F.Alone, .int .i64 u.F.Promised, .int .i64 u.F.Last, .int .i64 u.F.Code, .int .i64 u.F.Step, .bool u.Block, .slice A_20 u.Fields.length c_21], rd (Kd.int .u8) A_10 c_11 u.F.Data, rd kApiSetting A_12 c_13 u.F.Settings, rd kApiField A_20 c_21 u.Fields, roc b_1 (o_2 + i * 16) [.int .i64 u.From, .int .i64 u.F.Type_, .int .i64 u.F.Flags, .int .i64 u.F.Stream, .int .i64 u.F.Pad, .slice A_10 u.F.Data.length c_11, .slice A_12 u.F.Settings.length c_13, .int .i64 u.F.Weight, .int .i64 u.F.Parent, .bool u.F.Alone, .int .i64 u.F.Promised, .int .i64 u.F.Last, .int .i64 u.F.Code, .int .i64 u.F.Step, .bool u.Block, .slice A_20 u.Fields.length c_21], row kWeaveItem 61 ad.1 ad.2 out, rd kSticklerref52Item (some ⟨b_1, o_2, none⟩) c1 l] (by kernel_rfl) ?_
    refine JL.ef (O1.append (D := kWeaveItem) (xs := out) (ys := [toW u]) 6 el34 rfl rfl rfl rfl rfl (fun w R o s => (by obtain ⟨_, _, hr0⟩ := s.has (i := 1) rfl; obtain ⟨_, _, hr1⟩ := s.has (i := 2) rfl; obtain ⟨_, _, hr2⟩ := s.has (i := 3) rfl; exact Elems.one_elem (mkWeaveItem e_5 e_6 e_7 e_8 e_9 hr0 hr1 e_14 e_15 e_16 e_17 e_18 e_19 hr2))) (by simp; omega)) rfl ?_
    rintro _ _ ⟨A_24, c_25, rfl, rfl⟩
    refine JL.qt (Qt.assign rfl) rfl ?_
    refine JL.nil ?_
    refine JN.code ?_
    refine J.region ?_
    refine JL.qt (Qt.bin (fun _ => addN_run rfl (by omega) (by omega)) rfl rfl rfl) rfl ?_
    refine JL.qt (Qt.move rfl) rfl ?_
    refine JL.nil ?_
    refine JN.round3 (z0 := i) (z1 := out) (z2 := ad) (i + 1) (out ++ [toW u]) (A_24, c_25) (by omega) ⟨by omega, by rw [ho, take_next hu, List.map_append]; rfl⟩ ⟨rfl, rfl, rfl, rfl, rfl, trivial⟩ [0, 5] rfl
  refine J.exit ?_
  refine JN.code ?_
  refine J.seq ?_
  refine J.region ?_
  refine JL.qt (Qt.move rfl) rfl ?_
  refine JL.qt (Qt.assign rfl) rfl ?_
  refine JL.nil ?_
  refine JN.code ?_
  refine J.ret ?_
  refine JN.back (res1 rfl rfl) [0, 0] rfl ?_
  have e : out = l.map toW := by rw [ho, List.take_of_length_le (by omega)]
  subst e
  exact ⟨_, _, rfl, rfl⟩
end Go.Proofs.YthjbkngecgbioaaGreatDoor.Sl
