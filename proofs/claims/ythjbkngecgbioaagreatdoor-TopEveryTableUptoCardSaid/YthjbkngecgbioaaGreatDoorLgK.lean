/- The law TopEveryTable returns true of all lists within bounds. -/
import Derived.Test.YthjbkngecgbioaaGreatDoorLgJ
import Derived.Test.YthjbkngecgbioaaGreatDoorLgF
import Derived.Test.YthjbkngecgbioaaGreatDoorLgE
set_option linter.unusedVariables false
set_option linter.unusedSimpArgs false
set_option linter.deprecated false
/- Walks: the ways. -/
set_option maxRecDepth 100000
set_option linter.unusedSimpArgs false
set_option linter.unusedVariables false
namespace Go.Proofs.YthjbkngecgbioaaGreatDoor.Sl
open Go
theorem sz28 : szTy Tryz.prog 28 = some 4 := by kernel_rfl
theorem ag28 : aggTy Tryz.prog 28 = true := by kernel_rfl
theorem ze28 : zeroTy Tryz.prog 28 = some [.slice none 0 0, .slice none 0 0, .slice none 0 0, .int .i64 0] := by kernel_rfl
theorem pl23 : plainTy Tryz.prog 23 = true := by kernel_rfl
theorem fo28_1 : fldOff Tryz.prog 28 1 = some 1 := by kernel_rfl
theorem sz50 : szTy Tryz.prog 50 = some 4 := by kernel_rfl
theorem ag50 : aggTy Tryz.prog 50 = true := by kernel_rfl
theorem ze50 : zeroTy Tryz.prog 50 = some [.int .i64 0, .bool false, .bool false, .bool false] := by kernel_rfl
theorem fo50_0 : fldOff Tryz.prog 50 0 = some 0 := by kernel_rfl
theorem fo50_1 : fldOff Tryz.prog 50 1 = some 1 := by kernel_rfl
theorem fo50_2 : fldOff Tryz.prog 50 2 = some 2 := by kernel_rfl
theorem fo50_3 : fldOff Tryz.prog 50 3 = some 3 := by kernel_rfl
theorem sp51 : structPl Tryz.prog 51 = some [(0, 1), (1, 1), (2, 1), (3, 1)] := by kernel_rfl
theorem el48 : elTy Tryz.prog 48 51 4 16 = true := by kernel_rfl
theorem fo28_0 : fldOff Tryz.prog 28 0 = some 0 := by kernel_rfl
theorem fo28_2 : fldOff Tryz.prog 28 2 = some 2 := by kernel_rfl
theorem fo28_3 : fldOff Tryz.prog 28 3 = some 3 := by kernel_rfl
theorem sp53 : structPl Tryz.prog 53 = some [(0, 1), (1, 1), (2, 1), (3, 1)] := by kernel_rfl
theorem ze53 : zeroTy Tryz.prog 53 = some [.slice none 0 0, .slice none 0 0, .slice none 0 0, .int .i64 0] := by kernel_rfl
theorem el24 : elTy Tryz.prog 24 53 4 80 = true := by kernel_rfl
def convO (u : Sticklerref24Option) : EncoderOption := ⟨u.Way, u.NewName, u.ShortName, u.ShortValue⟩
theorem s_ways (A1 : Option Addr) (c1 : Nat) (hw : List Sticklerref24Option) (hl : hw.length ≤ 1073741824) :
    Spec Tryz.prog 4 [.slice A1 1 c1].toArray [rd kSticklerref52Way A1 c1 [(⟨[], hw, [], (-1)⟩ : Sticklerref52Way)]] (fun v L => ∃ (A2 : Option Addr), ∃ (c2 : Nat), v = .slice A2 1 c2 ∧ L = [row kWeaveWay 53 A2 c2 [(⟨[], hw.map convO, [], (-1)⟩ : WeaveWay)], rd kSticklerref52Way A1 c1 [(⟨[], hw, [], (-1)⟩ : Sticklerref52Way)]]) := by
  refine Spec.enter Tryz.func4 rfl Tryz.ntmps4 rfl rfl (fun w0 R0 F0 => ?_)
  refine J.seq ?_
  refine J.region ?_
  refine JL.qt (Qt.assign rfl) rfl ?_
  refine JL.nil ?_
  refine JN.code ?_
  refine J.seq ?_
  refine J.region ?_
  refine JL.qt (Qt.assign rfl) rfl ?_
  refine JL.nil ?_
  refine JN.code ?_
  refine J.seq ?_
  refine J.seq ?_
  refine J.region ?_
  refine JL.qt (Qt.move rfl) rfl ?_
  refine JL.qt (Qt.bi (fun _ _ => len_slice_run Tryz.underlying29) rfl) rfl ?_
  refine JL.qt (Qt.move rfl) rfl ?_
  refine JL.nil ?_
  refine JN.code ?_
  refine J.block ?_
  refine J.unroll 1 ?_
  refine J.seq ?_
  refine J.region ?_
  refine JL.qt (Qt.bin (v := .bool true) (fun _ => lss_run) rfl rfl rfl) rfl ?_
  refine JL.nil ?_
  refine JN.code ?_
  refine J.seq ?_
  refine J.cond_true rfl ?_
  refine J.skip ?_
  refine JN.code ?_
  refine J.seq ?_
  refine J.block ?_
  refine J.seq ?_
  refine J.elem (k := 0) (u := (⟨[], hw, [], (-1)⟩ : Sticklerref52Way)) 0 rfl rfl (fun b_1 o_2 cs_3 hA_4 => ?_); subst hA_4
  refine J.unf6 1 rfl unSticklerref52Way ?_; rintro A_5 c_6 A_7 c_8 A_9 c_10 ⟨rfl, e_11⟩
  refine J.region ?_
  refine JL.qt (Qt.ia Tryz.underlying29 sz28 rfl rfl (by decide) (by decide)) rfl ?_
  refine JL.qt (Qt.ldA_ro (j := 0) 3 ag28 sz28 rfl rfl rfl rfl rfl) rfl ?_
  refine JL.ef (O1.alloc ze28) rfl ?_
  rintro _ _ ⟨b_12, rfl, rfl⟩
  refine JL.sk (O1.stA 0 sz28 rfl rfl rfl rfl rfl rfl rfl rfl) ?_
  refine JL.nil ?_
  refine JN.code ?_
  refine J.seq ?_
  refine J.region ?_
  refine JL.qt (Qt.assign rfl) rfl ?_
  refine JL.nil ?_
  refine JN.code ?_
  refine J.seq ?_
  refine J.seq ?_
  refine J.region ?_
  refine JL.qt (Qt.fa (o' := 1) fo28_1 rfl rfl) rfl ?_
  refine JL.qt (Qt.ld 0 pl23 rfl rfl rfl) rfl ?_
  refine JL.qt (Qt.bi (fun _ _ => len_slice_run Tryz.underlying23) rfl) rfl ?_
  refine JL.qt (Qt.move rfl) rfl ?_
  refine JL.nil ?_
  refine JN.code ?_
  refine J.block ?_
  refine J.intro_pers (p := row kEncoderOption 51 none 0 []) (fun w R => row_nil _ _ w R) ?_
  refine J.loop3 (fun (j : Nat) (hs : List EncoderOption) (ad : Option Addr × Nat) => [(2, .slice none 0 0), (3, .slice none 0 0), (9, .slice (some ⟨b_1, o_2, none⟩) 1 c1), (10, .int .i64 1), (11, .int .i64 0), (13, .pointer (some ⟨b_1, o_2 + 0 * 4, none⟩)), (14, .agg #[.slice A_5 0 c_6, .slice A_7 hw.length c_8, .slice A_9 0 c_10, .int .i64 (-1)]), (5, .pointer (some ⟨b_12, 0, none⟩)), (6, .slice ad.1 hs.length ad.2), (15, .pointer (some ⟨b_12, 1, none⟩)), (16, .slice A_7 hw.length c_8), (17, .int .i64 ((hw.length : Nat) : Int)), (18, .int .i64 (j : Int))]) (fun (j : Nat) (hs : List EncoderOption) (ad : Option Addr × Nat) => [row kEncoderOption 51 ad.1 ad.2 hs, blk b_12 28 [.slice A_5 0 c_6, .slice A_7 hw.length c_8, .slice A_9 0 c_10, .int .i64 (-1)], rd (Kd.int .i64) A_5 c_6 [], rd kSticklerref24Option A_7 c_8 hw, rd (Kd.int .i64) A_9 c_10 [], roc b_1 (o_2 + 0 * 4) [.slice A_5 0 c_6, .slice A_7 hw.length c_8, .slice A_9 0 c_10, .int .i64 (-1)], rd kSticklerref52Way (some ⟨b_1, o_2, none⟩) c1 [(⟨[], hw, [], (-1)⟩ : Sticklerref52Way)]]) (fun (j : Nat) (hs : List EncoderOption) (ad : Option Addr × Nat) => j ≤ hw.length ∧ hs = (hw.take j).map convO) (fun (j : Nat) (hs : List EncoderOption) (ad : Option Addr × Nat) => hw.length - j) 0 [] (none, 0) ⟨Nat.zero_le _, rfl⟩ ⟨rfl, rfl, rfl, rfl, rfl, rfl, rfl, rfl, rfl, rfl, rfl, rfl, rfl, trivial⟩ [0, 0, 0, 0, 0, 0, 0] rfl ?_
  rintro j hs ad ⟨hj, ho⟩
  have hol : hs.length ≤ j := by rw [ho, List.length_map, List.length_take]; omega
  refine J.seq ?_
  refine J.region ?_
  refine JL.qt (Qt.bin (fun _ => lss_run) rfl rfl rfl) rfl ?_
  refine JL.nil ?_
  refine JN.code ?_
  refine J.seq ?_
  refine J.cond_dec rfl (fun h1 => ?_) (fun h1 => ?_)
  · refine J.skip ?_
    refine JN.code ?_
    refine J.seq ?_
    refine J.block ?_
    refine J.seq ?_
    obtain ⟨u, hu⟩ := getk hw j (by omega)
    refine J.elem (k := j) (u := u) 3 rfl hu (fun b_13 o_14 cs_15 hA_16 => ?_); subst hA_16
    refine J.unf0 1 rfl unSticklerref24Option ?_; rintro ⟨rfl, e_17⟩
    refine J.region ?_
    refine JL.qt (Qt.ia Tryz.underlying23 sz50 rfl rfl (by omega) (by omega)) rfl ?_
    refine JL.qt (Qt.ldA_ro (j := 0) 0 ag50 sz50 rfl rfl rfl rfl rfl) rfl ?_
    refine JL.ef (O1.alloc ze50) rfl ?_
    rintro _ _ ⟨b_18, rfl, rfl⟩
    refine JL.sk (O1.stA 0 sz50 rfl rfl rfl rfl rfl rfl rfl rfl) ?_
    refine JL.nil ?_
    refine JN.code ?_
    refine J.region ?_
    refine JL.qt (Qt.move rfl) rfl ?_
    refine JL.qt (Qt.fa (o' := 0) fo50_0 rfl rfl) rfl ?_
    refine JL.qt (Qt.ld 0 pl3 rfl rfl rfl) rfl ?_
    refine JL.qt (Qt.fa (o' := 1) fo50_1 rfl rfl) rfl ?_
    refine JL.qt (Qt.ld 0 pl4 rfl rfl rfl) rfl ?_
    refine JL.qt (Qt.fa (o' := 2) fo50_2 rfl rfl) rfl ?_
    refine JL.qt (Qt.ld 0 pl4 rfl rfl rfl) rfl ?_
    refine JL.qt (Qt.fa (o' := 3) fo50_3 rfl rfl) rfl ?_
    refine JL.qt (Qt.ld 0 pl4 rfl rfl rfl) rfl ?_
    refine JL.qt (Qt.build sp51 ze51 rfl rfl) rfl ?_
    refine JL.ef (O1.bsl el48 ze51 rfl rfl rfl) rfl ?_
    rintro _ _ ⟨b_19, rfl, rfl⟩
    refine JL.ef (O1.append (D := kEncoderOption) (xs := hs) (ys := [convO u]) 3 el48 rfl rfl rfl rfl rfl (fun w R o s => Elems.one_elem (mkEncoderOption e_17)) (by simp; omega)) rfl ?_
    rintro _ _ ⟨A_20, c_21, rfl, rfl⟩
    refine JL.qt (Qt.assign rfl) rfl ?_
    refine JL.nil ?_
    refine JN.code ?_
    refine J.keep [2, 3, 9, 10, 11, 13, 14, 5, 6, 15, 16, 17, 18] rfl ?_
    refine J.region ?_
    refine JL.qt (Qt.bin (fun _ => addN_run rfl (by omega) (by omega)) rfl rfl rfl) rfl ?_
    refine JL.qt (Qt.move rfl) rfl ?_
    refine JL.nil ?_
    refine JN.round3 (z0 := j) (z1 := hs) (z2 := ad) (j + 1) (hs ++ [convO u]) (A_20, c_21) (by omega) ⟨by omega, by rw [ho, take_next hu, List.map_append]; rfl⟩ ⟨rfl, rfl, rfl, rfl, rfl, rfl, rfl, rfl, rfl, rfl, rfl, rfl, rfl, trivial⟩ [0, 2, 2, 2, 2, 2, 2] rfl
  have ehs : hs = hw.map convO := by rw [ho, List.take_of_length_le (by omega)]
  subst ehs
  refine J.exit ?_
  refine JN.code ?_
  refine J.upd [0] rfl (row_freeze (by rw [List.length_map]; show _ ≤ 1099511627776; omega)) ?_
  refine J.at [rd kEncoderOption ad.1 ad.2 (hw.map convO), blk b_12 28 [.slice A_5 0 c_6, .slice A_7 hw.length c_8, .slice A_9 0 c_10, .int .i64 (-1)], rd (Kd.int .i64) A_5 c_6 [], rd kSticklerref24Option A_7 c_8 hw, rd (Kd.int .i64) A_9 c_10 [], roc b_1 (o_2 + 0 * 4) [.slice A_5 0 c_6, .slice A_7 hw.length c_8, .slice A_9 0 c_10, .int .i64 (-1)], rd kSticklerref52Way (some ⟨b_1, o_2, none⟩) c1 [(⟨[], hw, [], (-1)⟩ : Sticklerref52Way)]] rfl ?_
  refine J.region ?_
  refine JL.qt (Qt.move rfl) rfl ?_
  refine JL.qt (Qt.fa (o' := 0) fo28_0 rfl rfl) rfl ?_
  refine JL.qt (Qt.ld 1 pl26 rfl rfl rfl) rfl ?_
  refine JL.qt (Qt.move rfl) rfl ?_
  refine JL.qt (Qt.fa (o' := 2) fo28_2 rfl rfl) rfl ?_
  refine JL.qt (Qt.ld 1 pl26 rfl rfl rfl) rfl ?_
  refine JL.qt (Qt.fa (o' := 3) fo28_3 rfl rfl) rfl ?_
  refine JL.qt (Qt.ld 1 pl3 rfl rfl rfl) rfl ?_
  refine JL.qt (Qt.build sp53 ze53 rfl rfl) rfl ?_
  refine JL.ef (O1.bsl el24 ze53 rfl rfl rfl) rfl ?_
  rintro _ _ ⟨b_22, rfl, rfl⟩
  refine JL.intro_pers (p := row kWeaveWay 53 none 0 []) (fun w R => row_nil _ _ w R) ?_
  refine JL.ef (O1.append (D := kWeaveWay) (xs := []) (ys := [(⟨[], hw.map convO, [], (-1)⟩ : WeaveWay)]) 0 el24 rfl rfl rfl rfl rfl (fun w R o s => (by obtain ⟨_, _, hr0⟩ := s.has (i := 2) rfl; obtain ⟨_, _, hr1⟩ := s.has (i := 0) rfl; obtain ⟨_, _, hr2⟩ := s.has (i := 4) rfl; exact Elems.one_elem (mkWeaveWay hr0 hr1 hr2 ⟨by show (-9223372036854775808 : Int) ≤ -1; decide, by show (-1 : Int) ≤ 9223372036854775807; decide⟩))) (by decide)) rfl ?_
  rintro _ _ ⟨A_23, c_24, rfl, rfl⟩
  refine JL.qt (Qt.assign rfl) rfl ?_
  refine JL.nil ?_
  refine JN.code ?_
  refine J.region ?_
  refine JL.qt (Qt.bin (fun _ => addN_run (c := 1) (by decide) (by decide) (by decide)) rfl rfl rfl) rfl ?_
  refine JL.qt (Qt.move rfl) rfl ?_
  refine JL.nil ?_
  refine JN.again ?_
  refine J.seq ?_
  refine J.region ?_
  refine JL.qt (Qt.bin (v := .bool false) (fun _ => lss_run) rfl rfl rfl) rfl ?_
  refine JL.nil ?_
  refine JN.code ?_
  refine J.seq ?_
  refine J.cond_false rfl ?_
  refine J.exit ?_
  refine JN.code ?_
  refine J.seq ?_
  refine J.keep [2, 3] rfl ?_
  refine J.region ?_
  refine JL.qt (Qt.move rfl) rfl ?_
  refine JL.qt (Qt.assign rfl) rfl ?_
  refine JL.nil ?_
  refine JN.code ?_
  refine J.ret ?_
  refine JN.back (res1 rfl rfl) [0, 6] rfl ?_
  exact ⟨_, _, rfl, rfl⟩
end Go.Proofs.YthjbkngecgbioaaGreatDoor.Sl

/- The plain law: what is written of one side does not hang on the other side. -/
set_option maxRecDepth 100000
namespace Go.Proofs.YthjbkngecgbioaaGreatDoor.Sl
open Go
theorem icost_len : ∀ (l : List Sticklerref52Item), l.length ≤ icost (l.map toW)
  | [] => Nat.zero_le _
  | x :: l => by have := icost_len l; rw [List.map_cons, icost, List.length_cons]; omega
theorem icost_filter (p : Sticklerref52Item → Bool) : ∀ (l : List Sticklerref52Item), icost ((l.filter p).map toW) ≤ icost (l.map toW)
  | [] => Nat.le_refl _
  | x :: l => by
    have := icost_filter p l
    rw [List.filter_cons]
    split
    · simp only [List.map_cons, icost]; omega
    · simp only [List.map_cons, icost]; omega
theorem f_weave_l1_len (l : List WeaveItem) (how : List EncoderOption) : ∀ (m i : Nat) (out : List ApiRaw) (x0 : List ApiField) (s0 : Int) (x1 : List ApiField) (s1 : Int), (f_weave_l1 l how m i out x0 s0 x1 s1).1.length ≤ out.length + (l.length - i)
  | 0, _, _, _, _, _, _ => by rw [f_weave_l1]; exact Nat.zero_le _
  | m + 1, i, out, x0, s0, x1, s1 => by
    rw [f_weave_l1]
    split
    · split
      · have h1 := f_witem_len out x0 s0 x1 s1 ((l[i]?).getD item0) how
        exact Nat.le_trans (f_weave_l1_len l how m _ _ _ _ _ _) (by omega)
      · exact Nat.zero_le _
    · exact Nat.le_add_right _ _
theorem f_weave_len (l : List WeaveItem) (how : List EncoderOption) : (f_weave l how).1.length ≤ l.length := by
  unfold f_weave
  have := f_weave_l1_len l how (l.length - 0 + 1) 0 [] [] 0 [] 0
  simpa using this
theorem f_weave_filter_len (p : Sticklerref52Item → Bool) (l : List Sticklerref52Item) (how : List EncoderOption) : (f_weave ((l.filter p).map toW) how).1.length ≤ l.length :=
  Nat.le_trans (f_weave_len _ _) (by rw [List.length_map]; exact List.length_filter_le _ _)
theorem f_bsame_l0_refl (xs : List Int) : ∀ (m i : Nat), i ≤ xs.length → xs.length < m + i → f_bsame_l0 xs xs m i = true
  | 0, i, h, hm => by omega
  | m + 1, i, h, hm => by
    rw [f_bsame_l0]
    split
    · rw [if_pos rfl]
      exact f_bsame_l0_refl xs m (i + 1) (by omega) (by omega)
    · rfl
theorem f_bsame_refl (xs : List Int) : f_bsame xs xs = true := by
  unfold f_bsame
  rw [if_pos rfl]
  exact f_bsame_l0_refl xs _ 0 (Nat.zero_le _) (by omega)
theorem f_rsame_refl (a : ApiRaw) : f_rsame a a = true := by
  unfold f_rsame
  rw [if_pos rfl, if_pos rfl, if_pos rfl, if_pos rfl, if_pos (by simp), f_bsame_refl]
theorem f_rall_l0_refl (xs : List ApiRaw) : ∀ (m i : Nat), i ≤ xs.length → xs.length < m + i → f_rall_l0 xs xs m i = true
  | 0, i, h, hm => by omega
  | m + 1, i, h, hm => by
    rw [f_rall_l0]
    split
    · rw [if_pos (f_rsame_refl _)]
      exact f_rall_l0_refl xs m (i + 1) (by omega) (by omega)
    · rfl
theorem f_rall_refl (xs : List ApiRaw) : f_rall xs xs = true := by
  unfold f_rall
  rw [if_pos rfl]
  exact f_rall_l0_refl xs _ 0 (Nat.zero_le _) (by omega)
/-! ### One side's step -/
def fr1 (x : WeaveItem) (d : List Int) : ApiFrame := ⟨x.F.Type_, Sl.bor .i64 x.F.Flags 4, x.F.Stream, x.F.Pad, d, x.F.Settings, x.F.Weight, x.F.Parent, x.F.Alone, x.F.Promised, x.F.Last, x.F.Code, x.F.Step⟩
def gs (how : List EncoderOption) (n : Int) (x : WeaveItem) (xs : List ApiField) (sz : Int) : Bool × ApiRaw × List ApiField × Int :=
  if f_wright x = true then
    if x.Block = true then (decide ((f_raw (fr1 x (f_enc xs sz 4096 x.Fields how).1) n).2 = 0), (f_raw (fr1 x (f_enc xs sz 4096 x.Fields how).1) n).1, (f_enc xs sz 4096 x.Fields how).2.1, (f_enc xs sz 4096 x.Fields how).2.2)
    else (decide ((f_raw x.F n).2 = 0), (f_raw x.F n).1, xs, sz)
  else (false, raw0, xs, sz)
section
variable {how : List EncoderOption} {out : List ApiRaw} {x0 x1 : List ApiField} {s0 s1 : Int} {x : WeaveItem}
theorem witem0 (h : x.From = 0) : f_witem out x0 s0 x1 s1 x how = ((gs how 0 x x0 s0).1, (if (gs how 0 x x0 s0).1 = true then out ++ [(gs how 0 x x0 s0).2.1] else out), (gs how 0 x x0 s0).2.2.1, (gs how 0 x x0 s0).2.2.2, x1, s1) := by
  unfold f_witem gs
  by_cases hr : f_wright x = true
  · rw [if_pos hr, if_pos hr]
    by_cases hb : x.Block = true
    · rw [if_pos hb, if_pos hb]
      unfold f_wblock
      rw [if_pos h]
      unfold f_lput
      show _ = _
      by_cases hz : (f_raw (fr1 x (f_enc x0 s0 4096 x.Fields how).1) 0).2 = 0
      · have hz' := hz
        unfold fr1 at hz'
        simp only [hz, hz', if_true, decide_true]
        rfl
      · have hz' := hz
        unfold fr1 at hz'
        simp only [hz, hz', if_false, decide_false]
        rfl
    · rw [if_neg hb, if_neg hb, h]
      unfold f_lput
      by_cases hz : (f_raw x.F 0).2 = 0 <;> simp [hz]
  · rw [if_neg hr, if_neg hr]
    simp
theorem witem1 (h : x.From = 1) : f_witem out x0 s0 x1 s1 x how = ((gs how 1 x x1 s1).1, (if (gs how 1 x x1 s1).1 = true then out ++ [(gs how 1 x x1 s1).2.1] else out), x0, s0, (gs how 1 x x1 s1).2.2.1, (gs how 1 x x1 s1).2.2.2) := by
  unfold f_witem gs
  by_cases hr : f_wright x = true
  · rw [if_pos hr, if_pos hr]
    by_cases hb : x.Block = true
    · rw [if_pos hb, if_pos hb]
      unfold f_wblock
      rw [if_neg (by omega)]
      unfold f_lput
      show _ = _
      by_cases hz : (f_raw (fr1 x (f_enc x1 s1 4096 x.Fields how).1) 1).2 = 0
      · have hz' := hz
        unfold fr1 at hz'
        simp only [hz, hz', if_true, decide_true]
        rfl
      · have hz' := hz
        unfold fr1 at hz'
        simp only [hz, hz', if_false, decide_false]
        rfl
    · rw [if_neg hb, if_neg hb, h]
      unfold f_lput
      by_cases hz : (f_raw x.F 1).2 = 0 <;> simp [hz]
  · rw [if_neg hr, if_neg hr]
    simp
theorem witemN (h0 : x.From ≠ 0) (h1 : x.From ≠ 1) : (f_witem out x0 s0 x1 s1 x how).1 = false := by
  have hr : ¬ f_wright x = true := fun hr => by rcases (f_wright_b hr).1 with h | h <;> contradiction
  unfold f_witem
  rw [if_neg hr]
end
theorem f_raw_from {f : ApiFrame} {n : Int} : (f_raw f n).2 = 0 → (f_raw f n).1.From = n := by
  have hw : (f_written f n).2 = true → (f_written f n).1.From = n := by
    unfold f_written
    repeat' split
    all_goals (intro h'; first | rfl | (cases h'; done))
  unfold f_raw
  repeat' split
  all_goals (intro h'; first | exact hw (by assumption) | exact absurd h' (by decide))
theorem gs_from {how : List EncoderOption} {n : Int} {x : WeaveItem} {xs : List ApiField} {sz : Int} (h : (gs how n x xs sz).1 = true) : (gs how n x xs sz).2.1.From = n := by
  unfold gs at h ⊢
  split at h
  · rename_i hr
    rw [if_pos hr]
    split at h
    · rename_i hb
      rw [if_pos hb]
      exact f_raw_from (of_decide_eq_true h)
    · rename_i hb
      rw [if_neg hb]
      exact f_raw_from (of_decide_eq_true h)
  · cases h
/-! ### All items -/
def wv (how : List EncoderOption) : List WeaveItem → List ApiRaw → List ApiField → Int → List ApiField → Int → List ApiRaw × Int
  | [], out, _, _, _, _ => (out, 0)
  | x :: l, out, x0, s0, x1, s1 =>
    if (f_witem out x0 s0 x1 s1 x how).1 = true then wv how l (f_witem out x0 s0 x1 s1 x how).2.1 (f_witem out x0 s0 x1 s1 x how).2.2.1 (f_witem out x0 s0 x1 s1 x how).2.2.2.1 (f_witem out x0 s0 x1 s1 x how).2.2.2.2.1 (f_witem out x0 s0 x1 s1 x how).2.2.2.2.2
    else ([], 1)
theorem l1_wv (l : List WeaveItem) (how : List EncoderOption) : ∀ (m i : Nat) (out : List ApiRaw) (x0 : List ApiField) (s0 : Int) (x1 : List ApiField) (s1 : Int), i ≤ l.length → l.length < m + i → f_weave_l1 l how m i out x0 s0 x1 s1 = wv how (l.drop i) out x0 s0 x1 s1
  | 0, i, _, _, _, _, _, h, hm => by omega
  | m + 1, i, out, x0, s0, x1, s1, h, hm => by
    rw [f_weave_l1]
    split
    · have hu := getkD (xs := l) (k := i) item0 (by omega)
      rw [drop_at hu, wv]
      split
      · exact l1_wv l how m (i + 1) _ _ _ _ _ (by omega) (by omega)
      · rfl
    · rw [drop_end (by omega), wv]
theorem weave_wv (l : List WeaveItem) (how : List EncoderOption) : f_weave l how = wv how l [] [] 0 [] 0 := by
  unfold f_weave
  rw [l1_wv l how _ 0 _ _ _ _ _ (Nat.zero_le _) (by omega), List.drop_zero]
theorem side0 (how : List EncoderOption) : ∀ (l : List WeaveItem) (out : List ApiRaw) (x0 : List ApiField) (s0 : Int) (x1 : List ApiField) (s1 : Int) (y1 : List ApiField) (t1 : Int), (wv how l out x0 s0 x1 s1).2 = 0 →
    wv how (l.filter fun x => x.From == 0) (out.filter fun r => r.From == 0) x0 s0 y1 t1 = ((wv how l out x0 s0 x1 s1).1.filter (fun r => r.From == 0), 0)
  | [], out, _, _, _, _, _, _, _ => rfl
  | x :: l, out, x0, s0, x1, s1, y1, t1, h => by
    by_cases h0 : x.From = 0
    · have e := witem0 (how := how) (out := out) (x0 := x0) (s0 := s0) (x1 := x1) (s1 := s1) h0
      have e2 := witem0 (how := how) (out := out.filter fun r => r.From == 0) (x0 := x0) (s0 := s0) (x1 := y1) (s1 := t1) h0
      rw [List.filter_cons, if_pos (by simp [h0]), wv, e2]
      rw [wv, e] at h ⊢
      by_cases ok : (gs how 0 x x0 s0).1 = true
      · have hf := gs_from ok
        simp only [ok, if_true] at h ⊢
        have ih := side0 how l (out ++ [(gs how 0 x x0 s0).2.1]) (gs how 0 x x0 s0).2.2.1 (gs how 0 x x0 s0).2.2.2 x1 s1 y1 t1 h
        rw [← ih, List.filter_append]
        simp [hf]
      · simp [ok] at h
    · by_cases h1 : x.From = 1
      · have e := witem1 (how := how) (out := out) (x0 := x0) (s0 := s0) (x1 := x1) (s1 := s1) h1
        rw [List.filter_cons, if_neg (by simp [h0])]
        rw [wv, e] at h ⊢
        by_cases ok : (gs how 1 x x1 s1).1 = true
        · have hf := gs_from ok
          simp only [ok, if_true] at h ⊢
          have ih := side0 how l (out ++ [(gs how 1 x x1 s1).2.1]) x0 s0 (gs how 1 x x1 s1).2.2.1 (gs how 1 x x1 s1).2.2.2 y1 t1 h
          rw [← ih, List.filter_append]
          simp [hf]
        · simp [ok] at h
      · rw [wv, witemN h0 h1] at h
        simp at h
theorem side1 (how : List EncoderOption) : ∀ (l : List WeaveItem) (out : List ApiRaw) (x0 : List ApiField) (s0 : Int) (x1 : List ApiField) (s1 : Int) (y0 : List ApiField) (t0 : Int), (wv how l out x0 s0 x1 s1).2 = 0 →
    wv how (l.filter fun x => x.From == 1) (out.filter fun r => r.From == 1) y0 t0 x1 s1 = ((wv how l out x0 s0 x1 s1).1.filter (fun r => r.From == 1), 0)
  | [], out, _, _, _, _, _, _, _ => rfl
  | x :: l, out, x0, s0, x1, s1, y0, t0, h => by
    by_cases h1 : x.From = 1
    · have e := witem1 (how := how) (out := out) (x0 := x0) (s0 := s0) (x1 := x1) (s1 := s1) h1
      have e2 := witem1 (how := how) (out := out.filter fun r => r.From == 1) (x0 := y0) (s0 := t0) (x1 := x1) (s1 := s1) h1
      rw [List.filter_cons, if_pos (by simp [h1]), wv, e2]
      rw [wv, e] at h ⊢
      by_cases ok : (gs how 1 x x1 s1).1 = true
      · have hf := gs_from ok
        simp only [ok, if_true] at h ⊢
        have ih := side1 how l (out ++ [(gs how 1 x x1 s1).2.1]) x0 s0 (gs how 1 x x1 s1).2.2.1 (gs how 1 x x1 s1).2.2.2 y0 t0 h
        rw [← ih, List.filter_append]
        simp [hf]
      · simp [ok] at h
    · by_cases h0 : x.From = 0
      · have e := witem0 (how := how) (out := out) (x0 := x0) (s0 := s0) (x1 := x1) (s1 := s1) h0
        rw [List.filter_cons, if_neg (by simp [h1])]
        rw [wv, e] at h ⊢
        by_cases ok : (gs how 0 x x0 s0).1 = true
        · have hf := gs_from ok
          simp only [ok, if_true] at h ⊢
          have ih := side1 how l (out ++ [(gs how 0 x x0 s0).2.1]) (gs how 0 x x0 s0).2.2.1 (gs how 0 x x0 s0).2.2.2 x1 s1 y0 t0 h
          rw [← ih, List.filter_append]
          simp [hf]
        · simp [ok] at h
      · rw [wv, witemN h0 h1] at h
        simp at h
theorem filter_toW (s : Int) : ∀ (l : List Sticklerref52Item), (l.filter (fun y => y.From == s)).map toW = (l.map toW).filter (fun x => x.From == s)
  | [] => rfl
  | y :: l => by
    rw [List.map_cons, List.filter_cons, List.filter_cons, ← filter_toW s l]
    show _ = if (y.From == s) = true then _ else _
    split <;> simp
theorem plain_side {l : List Sticklerref52Item} {how : List EncoderOption} (h : (f_weave (l.map toW) how).2 = 0) (s : Int) (hs : s = 0 ∨ s = 1) : f_weave ((l.filter (fun y => y.From == s)).map toW) how = ((f_weave (l.map toW) how).1.filter (fun y => y.From == s), 0) := by
  rw [weave_wv] at h
  rw [filter_toW, weave_wv, weave_wv]
  rcases hs with rfl | rfl
  · exact side0 how (l.map toW) [] [] 0 [] 0 [] 0 h
  · exact side1 how (l.map toW) [] [] 0 [] 0 [] 0 h
end Go.Proofs.YthjbkngecgbioaaGreatDoor.Sl

/- The law, walked. -/
set_option maxRecDepth 100000
set_option maxHeartbeats 4000000
set_option linter.unusedSimpArgs false
set_option linter.unusedVariables false
namespace Go.Proofs.YthjbkngecgbioaaGreatDoor.Sl
open Go
theorem sp28 : structPl Tryz.prog 28 = some [(0, 1), (1, 1), (2, 1), (3, 1)] := by kernel_rfl
theorem el29 : elTy Tryz.prog 29 28 4 80 = true := by kernel_rfl
theorem el22 : elTy Tryz.prog 22 43 16 176 = true := by kernel_rfl
theorem s_alive :
    Spec Tryz.prog 7 [].toArray [] (fun v L => v = .bool true ∧ L = []) := Spec.drop Xe.alive_ok
theorem s_law (Al : Option Addr) (cl : Nat) (l : List Sticklerref52Item) (Ah : Option Addr) (ch : Nat) (how : List Sticklerref24Option) (hc : icost (l.map toW) ≤ 536870912) (hh : how.length ≤ 1073741824) :
    Spec Tryz.prog 3 [.slice Al l.length cl, .slice Ah how.length ch].toArray [rd kSticklerref52Item Al cl l, rd kSticklerref24Option Ah ch how, roc 0 0 [.int .i64 0, .int .i64 0, .int .i64 128, .int .i64 7, .int .i64 64, .int .i64 6, .int .i64 0, .int .i64 4, .int .i64 16, .int .i64 4, .int .i64 32, .int .i64 5]] (fun v L => v = .bool true ∧ L = [rd kSticklerref52Item Al cl l, rd kSticklerref24Option Ah ch how, roc 0 0 [.int .i64 0, .int .i64 0, .int .i64 128, .int .i64 7, .int .i64 64, .int .i64 6, .int .i64 0, .int .i64 4, .int .i64 16, .int .i64 4, .int .i64 32, .int .i64 5]]) := by
  refine Spec.enter Tryz.func3 rfl Tryz.ntmps3 rfl rfl (fun w0 R0 F0 => ?_)
  refine J.seq ?_
  refine J.region ?_
  refine JL.qt (Qt.assign rfl) rfl ?_
  refine JL.nil ?_
  refine JN.code ?_
  refine J.seq ?_
  have hll := icost_len l
  refine J.region ?_
  refine JL.qt (Qt.move rfl) rfl ?_
  refine JL.qt (Qt.build sp28 ze28 rfl rfl) rfl ?_
  refine JL.ef (O1.bslRA (D := kSticklerref52Way) (xs := [(⟨[], how, [], (-1)⟩ : Sticklerref52Way)]) el29 ze28 rfl rfl rfl rfl rfl (fun w R F o s => by obtain ⟨_, _, hr⟩ := s.has (i := 1) rfl; exact Elems.one_elem (mkSticklerref52Way (rd_nil' w R) hr (rd_nil' w R) ⟨by show (-9223372036854775808 : Int) ≤ -1; decide, by show (-1 : Int) ≤ 9223372036854775807; decide⟩))) rfl ?_
  rintro _ _ ⟨b_1, rfl, rfl⟩
  refine JL.upd [0] rfl (row_freeze (by show 1 ≤ 1099511627776; decide)) ?_
  refine JL.call (O1.call Tryz.func4 rfl rfl rfl [0] rfl (s_ways (some ⟨b_1, 0, none⟩) ([(⟨[], how, [], (-1)⟩ : Sticklerref52Way)].length) how hh)) rfl ?_
  rintro _ _ ⟨A2_2, c2_3, rfl, rfl⟩
  refine JL.qt (Qt.assign rfl) rfl ?_
  refine JL.nil ?_
  refine JN.code ?_
  refine J.seq ?_
  refine J.region ?_
  refine JL.qt (Qt.move rfl) rfl ?_
  refine JL.call (O1.call Tryz.func6 rfl rfl rfl [2] rfl (s_own Al cl l (by omega))) rfl ?_
  rintro _ _ ⟨A2_4, c2_5, rfl, rfl⟩
  refine JL.qt (Qt.move rfl) rfl ?_
  refine JL.upd [0] rfl (row_freeze (by rw [List.length_map]; show _ ≤ 1099511627776; omega)) ?_
  refine JL.upd [2] rfl (row_freeze (by show 1 ≤ 1099511627776; decide)) ?_
  refine JL.call (O1.call Tryz.func5 rfl rfl rfl [1, 0, 3] rfl (s_weave A2_4 c2_5 (l.map toW) A2_2 c2_3 (how.map convO) hc)) rfl ?_
  rintro _ _ ⟨A2_6, c2_7, rfl, rfl⟩
  refine JL.qt (Qt.move rfl) rfl ?_
  refine JL.qt (Qt.extract rfl rfl) rfl ?_
  refine JL.qt (Qt.extract rfl rfl) rfl ?_
  refine JL.qt (Qt.assign rfl) rfl ?_
  refine JL.qt (Qt.assign rfl) rfl ?_
  refine JL.nil ?_
  refine JN.code ?_
  refine J.seq ?_
  refine J.seq ?_
  refine J.region ?_
  refine JL.qt (Qt.move rfl) rfl ?_
  refine JL.qt (Qt.bin (fun _ => neq_run) rfl rfl rfl) rfl ?_
  refine JL.nil ?_
  refine JN.code ?_
  refine J.cond_ne rfl (fun h1 => ?_) (fun h1 => ?_)
  · refine J.seq ?_
    refine J.region ?_
    refine JL.call (O1.call Tryz.func7 rfl rfl rfl [] rfl s_alive) rfl ?_
    rintro _ _ ⟨rfl, rfl⟩
    refine JL.qt (Qt.assign rfl) rfl ?_
    refine JL.nil ?_
    refine JN.code ?_
    refine J.ret ?_
    refine JN.back (res1 rfl rfl) [4, 5, 3] rfl ?_
    exact ⟨rfl, rfl⟩
  refine J.skip ?_
  refine JN.code ?_
  refine J.seq ?_
  refine J.seq ?_
  refine J.upd [0] rfl (row_freeze (by have := f_weave_len (l.map toW) (how.map convO); rw [List.length_map] at this; show _ ≤ 1099511627776; omega)) ?_
  have hlx : (f_weave (l.map toW) (how.map convO)).1.length ≤ (l.map toW).length := f_weave_len _ _
  rw [List.length_map] at hlx
  have hW0 := plain_side (l := l) (how := how.map convO) h1 0 (.inl rfl)
  have hW1 := plain_side (l := l) (how := how.map convO) h1 1 (.inr rfl)
  refine J.region ?_
  refine JL.qt (Qt.assign rfl) rfl ?_
  refine JL.nil ?_
  refine JN.code ?_
  refine J.block ?_
  refine J.unroll 2 ?_
  refine J.seq ?_
  refine J.seq ?_
  refine J.region ?_
  refine JL.qt (Qt.move rfl) rfl ?_
  refine JL.qt (Qt.bin (v := .bool true) (fun _ => lss_run) rfl rfl rfl) rfl ?_
  refine JL.nil ?_
  refine JN.code ?_
  refine J.cond_true rfl ?_
  refine J.skip ?_
  refine JN.code ?_
  refine J.seq ?_
  refine J.block ?_
  refine J.seq ?_
  refine J.region ?_
  refine JL.qt (Qt.assign rfl) rfl ?_
  refine JL.nil ?_
  refine JN.code ?_
  refine J.seq ?_
  refine J.region ?_
  refine JL.qt (Qt.assign rfl) rfl ?_
  refine JL.nil ?_
  refine JN.code ?_
  refine J.seq ?_
  refine J.seq ?_
  refine J.region ?_
  refine JL.qt (Qt.move rfl) rfl ?_
  refine JL.qt (Qt.bi (fun _ _ => len_slice_run Tryz.underlying22) rfl) rfl ?_
  refine JL.qt (Qt.move rfl) rfl ?_
  refine JL.nil ?_
  refine JN.code ?_
  refine J.block ?_
  refine J.intro_pers (p := row kSticklerref52Item 43 none 0 []) (fun w R => row_nil _ _ w R) ?_
  refine J.loop3 (fun (i1 : Nat) (so1 : List Sticklerref52Item) (ad1 : Option Addr × Nat) => [(0, .slice Al l.length cl), (4, .bool false), (5, .slice A2_2 1 c2_3), (6, .slice A2_6 (((f_weave (l.map toW) (how.map convO)).1).length) c2_7), (8, .int .i64 0), (31, .int .i64 0), (32, .bool true), (9, .slice ad1.1 so1.length ad1.2), (10, .slice none 0 0), (35, .slice Al l.length cl), (36, .int .i64 ((l.length : Nat) : Int)), (37, .int .i64 (i1 : Int))]) (fun (i1 : Nat) (so1 : List Sticklerref52Item) (ad1 : Option Addr × Nat) => [row kSticklerref52Item 43 ad1.1 ad1.2 so1, rd kApiRaw A2_6 c2_7 ((f_weave (l.map toW) (how.map convO)).1), rd kWeaveItem A2_4 c2_5 (l.map toW), rd kWeaveWay A2_2 c2_3 [(⟨[], (how.map convO), [], (-1)⟩ : WeaveWay)], roc 0 0 [.int .i64 0, .int .i64 0, .int .i64 128, .int .i64 7, .int .i64 64, .int .i64 6, .int .i64 0, .int .i64 4, .int .i64 16, .int .i64 4, .int .i64 32, .int .i64 5], rd kSticklerref52Item Al cl l, rd kSticklerref52Way (some ⟨b_1, 0, none⟩) ([(⟨[], how, [], (-1)⟩ : Sticklerref52Way)].length) [(⟨[], how, [], (-1)⟩ : Sticklerref52Way)], rd kSticklerref24Option Ah ch how]) (fun (i1 : Nat) (so1 : List Sticklerref52Item) (ad1 : Option Addr × Nat) => i1 ≤ l.length ∧ so1 = (l.take i1).filter (fun y => y.From == 0)) (fun (i1 : Nat) (so1 : List Sticklerref52Item) (ad1 : Option Addr × Nat) => l.length - i1) 0 [] (none, 0) ⟨Nat.zero_le _, rfl⟩ ⟨rfl, rfl, rfl, rfl, rfl, rfl, rfl, rfl, rfl, rfl, rfl, rfl, trivial⟩ [0, 0, 0, 0, 0, 0, 0, 0] rfl ?_
  rintro i1 so1 ad1 ⟨hi, ho⟩
  have hol : so1.length ≤ i1 := by rw [ho]; exact Nat.le_trans (List.length_filter_le _ _) (by rw [List.length_take]; omega)
  refine J.seq ?_
  refine J.region ?_
  refine JL.qt (Qt.bin (fun _ => lss_run) rfl rfl rfl) rfl ?_
  refine JL.nil ?_
  refine JN.code ?_
  refine J.seq ?_
  refine J.cond_dec rfl (fun h2 => ?_) (fun h2 => ?_)
  · refine J.skip ?_
    refine JN.code ?_
    refine J.seq ?_
    refine J.block ?_
    refine J.seq ?_
    obtain ⟨u, hu⟩ := getk l i1 (by omega)
    refine J.elem (k := i1) (u := u) 5 rfl hu (fun b_8 o_9 cs_10 hA_11 => ?_); subst hA_11
    refine J.unf6 1 rfl unSticklerref52Item ?_; rintro A_17 c_18 A_19 c_20 A_27 c_28 ⟨rfl, e_12, e_13, e_14, e_15, e_16, e_21, e_22, e_23, e_24, e_25, e_26⟩
    refine J.region ?_
    refine JL.qt (Qt.ia Tryz.underlying22 sz43 rfl rfl (by omega) (by omega)) rfl ?_
    refine JL.qt (Qt.ldA_ro (j := 0) 3 ag43 sz43 rfl rfl rfl rfl rfl) rfl ?_
    refine JL.ef (O1.alloc ze43) rfl ?_
    rintro _ _ ⟨b_29, rfl, rfl⟩
    refine JL.sk (O1.stA 0 sz43 rfl rfl rfl rfl rfl rfl rfl rfl) ?_
    refine JL.nil ?_
    refine JN.code ?_
    refine J.seq ?_
    refine J.at [blk b_29 43 [.int .i64 u.From, .int .i64 u.F.Type_, .int .i64 u.F.Flags, .int .i64 u.F.Stream, .int .i64 u.F.Pad, .slice A_17 u.F.Data.length c_18, .slice A_19 u.F.Settings.length c_20, .int .i64 u.F.Weight, .int .i64 u.F.Parent, .bool u.F.Alone, .int .i64 u.F.Promised, .int .i64 u.F.Last, .int .i64 u.F.Code, .int .i64 u.F.Step, .bool u.Block, .slice A_27 u.Fields.length c_28], rd (Kd.int .u8) A_17 c_18 u.F.Data, rd kApiSetting A_19 c_20 u.F.Settings, rd kApiField A_27 c_28 u.Fields, roc b_8 (o_9 + i1 * 16) [.int .i64 u.From, .int .i64 u.F.Type_, .int .i64 u.F.Flags, .int .i64 u.F.Stream, .int .i64 u.F.Pad, .slice A_17 u.F.Data.length c_18, .slice A_19 u.F.Settings.length c_20, .int .i64 u.F.Weight, .int .i64 u.F.Parent, .bool u.F.Alone, .int .i64 u.F.Promised, .int .i64 u.F.Last, .int .i64 u.F.Code, .int .i64 u.F.Step, .bool u.Block, .slice A_27 u.Fields.length c_28], row kSticklerref52Item 43 ad1.1 ad1.2 so1, rd kApiRaw A2_6 c2_7 ((f_weave (l.map toW) (how.map convO)).1), rd kWeaveItem A2_4 c2_5 (l.map toW), rd kWeaveWay A2_2 c2_3 [(⟨[], (how.map convO), [], (-1)⟩ : WeaveWay)], roc 0 0 [.int .i64 0, .int .i64 0, .int .i64 128, .int .i64 7, .int .i64 64, .int .i64 6, .int .i64 0, .int .i64 4, .int .i64 16, .int .i64 4, .int .i64 32, .int .i64 5], rd kSticklerref52Item (some ⟨b_8, o_9, none⟩) cl l, rd kSticklerref52Way (some ⟨b_1, 0, none⟩) ([(⟨[], how, [], (-1)⟩ : Sticklerref52Way)].length) [(⟨[], how, [], (-1)⟩ : Sticklerref52Way)], rd kSticklerref24Option Ah ch how] rfl ?_
    refine J.region ?_
    refine JL.qt (Qt.fa (o' := 0) fo43_0 rfl rfl) rfl ?_
    refine JL.qt (Qt.ld 0 pl3 rfl rfl rfl) rfl ?_
    refine JL.qt (Qt.move rfl) rfl ?_
    refine JL.qt (Qt.bin (fun _ => eql_run) rfl rfl rfl) rfl ?_
    refine JL.nil ?_
    refine JN.code ?_
    refine J.cond_eq rfl (fun h3 => ?_) (fun h3 => ?_)
    · refine J.region ?_
      refine JL.qt (Qt.move rfl) rfl ?_
      refine JL.qt (Qt.ldA 0 ag43 sz43 rfl rfl rfl rfl) rfl ?_
      refine JL.ef (O1.bsl el22 ze43 rfl rfl rfl) rfl ?_
      rintro _ _ ⟨b_30, rfl, rfl⟩
      refine JL.at [blk b_30 43 [.int .i64 u.From, .int .i64 u.F.Type_, .int .i64 u.F.Flags, .int .i64 u.F.Stream, .int .i64 u.F.Pad, .slice A_17 u.F.Data.length c_18, .slice A_19 u.F.Settings.length c_20, .int .i64 u.F.Weight, .int .i64 u.F.Parent, .bool u.F.Alone, .int .i64 u.F.Promised, .int .i64 u.F.Last, .int .i64 u.F.Code, .int .i64 u.F.Step, .bool u.Block, .slice A_27 u.Fields.length c_28], blk b_29 43 [.int .i64 u.From, .int .i64 u.F.Type_, .int .i64 u.F.Flags, .int .i64 u.F.Stream, .int .i64 u.F.Pad, .slice A_17 u.F.Data.length c_18, .slice A_19 u.F.Settings.length c_20, .int .i64 u.F.Weight, .int .i64 u.F.Parent, .bool u.F.Alone, .int .i64 u.F.Promised, .int .i64 u.F.Last, .int .i64 u.F.Code, .int .i64 u.F.Step, .bool u.Block, .slice A_27 u.Fields.length c_28], rd (Kd.int .u8) A_17 c_18 u.F.Data, rd kApiSetting A_19 c_20 u.F.Settings, rd kApiField A_27 c_28 u.Fields, roc b_8 (o_9 + i1 * 16) [.int .i64 u.From, .int .i64 u.F.Type_, .int .i64 u.F.Flags, .int .i64 u.F.Stream, .int .i64 u.F.Pad, .slice A_17 u.F.Data.length c_18, .slice A_19 u.F.Settings.length c_20, .int .i64 u.F.Weight, .int .i64 u.F.Parent, .bool u.F.Alone, .int .i64 u.F.Promised, .int .i64 u.F.Last, .int .i64 u.F.Code, .int .i64 u.F.Step, .bool u.Block, .slice A_27 u.Fields.length c_28], row kSticklerref52Item 43 ad1.1 ad1.2 so1, rd kApiRaw A2_6 c2_7 ((f_weave (l.map toW) (how.map convO)).1), rd kWeaveItem A2_4 c2_5 (l.map toW), rd kWeaveWay A2_2 c2_3 [(⟨[], (how.map convO), [], (-1)⟩ : WeaveWay)], roc 0 0 [.int .i64 0, .int .i64 0, .int .i64 128, .int .i64 7, .int .i64 64, .int .i64 6, .int .i64 0, .int .i64 4, .int .i64 16, .int .i64 4, .int .i64 32, .int .i64 5], rd kSticklerref52Item (some ⟨b_8, o_9, none⟩) cl l, rd kSticklerref52Way (some ⟨b_1, 0, none⟩) ([(⟨[], how, [], (-1)⟩ : Sticklerref52Way)].length) [(⟨[], how, [], (-1)⟩ : Sticklerref52Way)], rd kSticklerref24Option Ah ch how] (by kernel_rfl) ?_
      refine JL.ef (O1.append (D := kSticklerref52Item) (xs := so1) (ys := [u]) 6 el22 rfl rfl rfl rfl rfl (fun w R o s => (by obtain ⟨_, _, hr0⟩ := s.has (i := 1) rfl; obtain ⟨_, _, hr1⟩ := s.has (i := 2) rfl; obtain ⟨_, _, hr2⟩ := s.has (i := 3) rfl; exact Elems.one_elem (mkSticklerref52Item e_12 e_13 e_14 e_15 e_16 hr0 hr1 e_21 e_22 e_23 e_24 e_25 e_26 hr2))) (by simp; omega)) rfl ?_
      rintro _ _ ⟨A_31, c_32, rfl, rfl⟩
      refine JL.qt (Qt.assign rfl) rfl ?_
      refine JL.nil ?_
      refine JN.code ?_
      refine J.region ?_
      refine JL.qt (Qt.bin (fun _ => addN_run rfl (by omega) (by omega)) rfl rfl rfl) rfl ?_
      refine JL.qt (Qt.move rfl) rfl ?_
      refine JL.nil ?_
      refine JN.round3 (z0 := i1) (z1 := so1) (z2 := ad1) (i1 + 1) (so1 ++ [u]) (A_31, c_32) (by omega) ⟨by omega, by rw [ho, take_next hu, List.filter_append]; simp [h3]⟩ ⟨rfl, rfl, rfl, rfl, rfl, rfl, rfl, rfl, rfl, rfl, rfl, rfl, trivial⟩ [0, 5, 5, 5, 5, 5, 5, 5] rfl
    refine J.skip ?_
    refine JN.code ?_
    refine J.region ?_
    refine JL.qt (Qt.bin (fun _ => addN_run rfl (by omega) (by omega)) rfl rfl rfl) rfl ?_
    refine JL.qt (Qt.move rfl) rfl ?_
    refine JL.nil ?_
    refine JN.round3 (z0 := i1) (z1 := so1) (z2 := ad1) (i1 + 1) so1 (ad1.1, ad1.2) (by omega) ⟨by omega, by rw [ho, take_next hu, List.filter_append]; simp [h3]⟩ ⟨rfl, rfl, rfl, rfl, rfl, rfl, rfl, rfl, rfl, rfl, rfl, rfl, trivial⟩ [5, 5, 5, 5, 5, 5, 5, 5] rfl
  have eso1 : so1 = (l.filter (fun y => y.From == 0)) := by rw [ho, List.take_of_length_le (by omega)]
  subst eso1
  refine J.exit ?_
  refine JN.code ?_
  refine J.seq ?_
  refine J.seq ?_
  refine J.region ?_
  refine JL.qt (Qt.move rfl) rfl ?_
  refine JL.qt (Qt.bi (fun _ _ => len_slice_run Tryz.underlying30) rfl) rfl ?_
  refine JL.qt (Qt.move rfl) rfl ?_
  refine JL.nil ?_
  refine JN.code ?_
  refine J.block ?_
  refine J.intro_pers (p := row kApiRaw 45 none 0 []) (fun w R => row_nil _ _ w R) ?_
  refine J.loop3 (fun (i2 : Nat) (so2 : List ApiRaw) (ad2 : Option Addr × Nat) => [(0, .slice Al l.length cl), (4, .bool false), (5, .slice A2_2 1 c2_3), (6, .slice A2_6 (((f_weave (l.map toW) (how.map convO)).1).length) c2_7), (8, .int .i64 0), (31, .int .i64 0), (32, .bool true), (9, .slice ad1.1 ((l.filter (fun y => y.From == 0)).length) ad1.2), (10, .slice ad2.1 so2.length ad2.2), (35, .slice Al l.length cl), (36, .int .i64 ((l.length : Nat) : Int)), (37, .int .i64 (i1 : Int)), (38, .bool (decide ((i1 : Int) < ((l.length : Nat) : Int)))), (50, .slice A2_6 (((f_weave (l.map toW) (how.map convO)).1).length) c2_7), (51, .int .i64 ((((f_weave (l.map toW) (how.map convO)).1).length : Nat) : Int)), (52, .int .i64 (i2 : Int))]) (fun (i2 : Nat) (so2 : List ApiRaw) (ad2 : Option Addr × Nat) => [row kApiRaw 45 ad2.1 ad2.2 so2, row kSticklerref52Item 43 ad1.1 ad1.2 (l.filter (fun y => y.From == 0)), rd kApiRaw A2_6 c2_7 ((f_weave (l.map toW) (how.map convO)).1), rd kWeaveItem A2_4 c2_5 (l.map toW), rd kWeaveWay A2_2 c2_3 [(⟨[], (how.map convO), [], (-1)⟩ : WeaveWay)], roc 0 0 [.int .i64 0, .int .i64 0, .int .i64 128, .int .i64 7, .int .i64 64, .int .i64 6, .int .i64 0, .int .i64 4, .int .i64 16, .int .i64 4, .int .i64 32, .int .i64 5], rd kSticklerref52Item Al cl l, rd kSticklerref52Way (some ⟨b_1, 0, none⟩) ([(⟨[], how, [], (-1)⟩ : Sticklerref52Way)].length) [(⟨[], how, [], (-1)⟩ : Sticklerref52Way)], rd kSticklerref24Option Ah ch how]) (fun (i2 : Nat) (so2 : List ApiRaw) (ad2 : Option Addr × Nat) => i2 ≤ (f_weave (l.map toW) (how.map convO)).1.length ∧ so2 = ((f_weave (l.map toW) (how.map convO)).1.take i2).filter (fun y => y.From == 0)) (fun (i2 : Nat) (so2 : List ApiRaw) (ad2 : Option Addr × Nat) => (f_weave (l.map toW) (how.map convO)).1.length - i2) 0 [] (none, 0) ⟨Nat.zero_le _, rfl⟩ ⟨rfl, rfl, rfl, rfl, rfl, rfl, rfl, rfl, rfl, rfl, rfl, rfl, rfl, rfl, rfl, rfl, trivial⟩ [0, 0, 0, 0, 0, 0, 0, 0, 0] rfl ?_
  rintro i2 so2 ad2 ⟨hi, ho⟩
  have hol : so2.length ≤ i2 := by rw [ho]; exact Nat.le_trans (List.length_filter_le _ _) (by rw [List.length_take]; omega)
  refine J.seq ?_
  refine J.region ?_
  refine JL.qt (Qt.bin (fun _ => lss_run) rfl rfl rfl) rfl ?_
  refine JL.nil ?_
  refine JN.code ?_
  refine J.seq ?_
  refine J.cond_dec rfl (fun h4 => ?_) (fun h4 => ?_)
  · refine J.skip ?_
    refine JN.code ?_
    refine J.seq ?_
    refine J.block ?_
    refine J.seq ?_
    obtain ⟨u, hu⟩ := getk (f_weave (l.map toW) (how.map convO)).1 i2 (by omega)
    refine J.elem (k := i2) (u := u) 2 rfl hu (fun b_33 o_34 cs_35 hA_36 => ?_); subst hA_36
    refine J.unf2 1 rfl unApiRaw ?_; rintro A_41 c_42 ⟨rfl, e_37, e_38, e_39, e_40⟩
    refine J.region ?_
    refine JL.qt (Qt.ia Tryz.underlying30 sz45 rfl rfl (by omega) (by omega)) rfl ?_
    refine JL.qt (Qt.ldA_ro (j := 0) 1 ag45 sz45 rfl rfl rfl rfl rfl) rfl ?_
    refine JL.ef (O1.alloc ze45) rfl ?_
    rintro _ _ ⟨b_43, rfl, rfl⟩
    refine JL.sk (O1.stA 0 sz45 rfl rfl rfl rfl rfl rfl rfl rfl) ?_
    refine JL.nil ?_
    refine JN.code ?_
    refine J.seq ?_
    refine J.at [blk b_43 45 [.int .i64 u.From, .int .i64 u.Type_, .int .i64 u.Flags, .int .i64 u.Stream, .bool u.Res, .slice A_41 u.Body.length c_42], rd (Kd.int .u8) A_41 c_42 u.Body, roc b_33 (o_34 + i2 * 6) [.int .i64 u.From, .int .i64 u.Type_, .int .i64 u.Flags, .int .i64 u.Stream, .bool u.Res, .slice A_41 u.Body.length c_42], row kApiRaw 45 ad2.1 ad2.2 so2, row kSticklerref52Item 43 ad1.1 ad1.2 (l.filter (fun y => y.From == 0)), rd kApiRaw (some ⟨b_33, o_34, none⟩) c2_7 ((f_weave (l.map toW) (how.map convO)).1), rd kWeaveItem A2_4 c2_5 (l.map toW), rd kWeaveWay A2_2 c2_3 [(⟨[], (how.map convO), [], (-1)⟩ : WeaveWay)], roc 0 0 [.int .i64 0, .int .i64 0, .int .i64 128, .int .i64 7, .int .i64 64, .int .i64 6, .int .i64 0, .int .i64 4, .int .i64 16, .int .i64 4, .int .i64 32, .int .i64 5], rd kSticklerref52Item Al cl l, rd kSticklerref52Way (some ⟨b_1, 0, none⟩) ([(⟨[], how, [], (-1)⟩ : Sticklerref52Way)].length) [(⟨[], how, [], (-1)⟩ : Sticklerref52Way)], rd kSticklerref24Option Ah ch how] rfl ?_
    refine J.region ?_
    refine JL.qt (Qt.fa (o' := 0) fo45_0 rfl rfl) rfl ?_
    refine JL.qt (Qt.ld 0 pl3 rfl rfl rfl) rfl ?_
    refine JL.qt (Qt.move rfl) rfl ?_
    refine JL.qt (Qt.bin (fun _ => eql_run) rfl rfl rfl) rfl ?_
    refine JL.nil ?_
    refine JN.code ?_
    refine J.cond_eq rfl (fun h5 => ?_) (fun h5 => ?_)
    · refine J.region ?_
      refine JL.qt (Qt.move rfl) rfl ?_
      refine JL.qt (Qt.ldA 0 ag45 sz45 rfl rfl rfl rfl) rfl ?_
      refine JL.ef (O1.bsl el30 ze45 rfl rfl rfl) rfl ?_
      rintro _ _ ⟨b_44, rfl, rfl⟩
      refine JL.at [blk b_44 45 [.int .i64 u.From, .int .i64 u.Type_, .int .i64 u.Flags, .int .i64 u.Stream, .bool u.Res, .slice A_41 u.Body.length c_42], blk b_43 45 [.int .i64 u.From, .int .i64 u.Type_, .int .i64 u.Flags, .int .i64 u.Stream, .bool u.Res, .slice A_41 u.Body.length c_42], rd (Kd.int .u8) A_41 c_42 u.Body, roc b_33 (o_34 + i2 * 6) [.int .i64 u.From, .int .i64 u.Type_, .int .i64 u.Flags, .int .i64 u.Stream, .bool u.Res, .slice A_41 u.Body.length c_42], row kApiRaw 45 ad2.1 ad2.2 so2, row kSticklerref52Item 43 ad1.1 ad1.2 (l.filter (fun y => y.From == 0)), rd kApiRaw (some ⟨b_33, o_34, none⟩) c2_7 ((f_weave (l.map toW) (how.map convO)).1), rd kWeaveItem A2_4 c2_5 (l.map toW), rd kWeaveWay A2_2 c2_3 [(⟨[], (how.map convO), [], (-1)⟩ : WeaveWay)], roc 0 0 [.int .i64 0, .int .i64 0, .int .i64 128, .int .i64 7, .int .i64 64, .int .i64 6, .int .i64 0, .int .i64 4, .int .i64 16, .int .i64 4, .int .i64 32, .int .i64 5], rd kSticklerref52Item Al cl l, rd kSticklerref52Way (some ⟨b_1, 0, none⟩) ([(⟨[], how, [], (-1)⟩ : Sticklerref52Way)].length) [(⟨[], how, [], (-1)⟩ : Sticklerref52Way)], rd kSticklerref24Option Ah ch how] (by kernel_rfl) ?_
      refine JL.ef (O1.append (D := kApiRaw) (xs := so2) (ys := [u]) 4 el30 rfl rfl rfl rfl rfl (fun w R o s => (by obtain ⟨_, _, hr0⟩ := s.has (i := 1) rfl; exact Elems.one_elem (mkApiRaw e_37 e_38 e_39 e_40 hr0))) (by simp; omega)) rfl ?_
      rintro _ _ ⟨A_45, c_46, rfl, rfl⟩
      refine JL.qt (Qt.assign rfl) rfl ?_
      refine JL.nil ?_
      refine JN.code ?_
      refine J.keep [0, 4, 5, 6, 8, 31, 32, 9, 10, 35, 36, 37, 38, 50, 51, 52] rfl ?_
      refine J.region ?_
      refine JL.qt (Qt.bin (fun _ => addN_run rfl (by omega) (by omega)) rfl rfl rfl) rfl ?_
      refine JL.qt (Qt.move rfl) rfl ?_
      refine JL.nil ?_
      refine JN.round3 (z0 := i2) (z1 := so2) (z2 := ad2) (i2 + 1) (so2 ++ [u]) (A_45, c_46) (by omega) ⟨by omega, by rw [ho, take_next hu, List.filter_append]; simp [h5]⟩ ⟨rfl, rfl, rfl, rfl, rfl, rfl, rfl, rfl, rfl, rfl, rfl, rfl, rfl, rfl, rfl, rfl, trivial⟩ [0, 3, 3, 3, 3, 3, 3, 3, 3] rfl
    refine J.skip ?_
    refine JN.code ?_
    refine J.region ?_
    refine JL.qt (Qt.bin (fun _ => addN_run rfl (by omega) (by omega)) rfl rfl rfl) rfl ?_
    refine JL.qt (Qt.move rfl) rfl ?_
    refine JL.nil ?_
    refine JN.round3 (z0 := i2) (z1 := so2) (z2 := ad2) (i2 + 1) so2 (ad2.1, ad2.2) (by omega) ⟨by omega, by rw [ho, take_next hu, List.filter_append]; simp [h5]⟩ ⟨rfl, rfl, rfl, rfl, rfl, rfl, rfl, rfl, rfl, rfl, rfl, rfl, rfl, rfl, rfl, rfl, trivial⟩ [3, 3, 3, 3, 3, 3, 3, 3, 3] rfl
  have eso2 : so2 = ((f_weave (l.map toW) (how.map convO)).1.filter (fun y => y.From == 0)) := by rw [ho, List.take_of_length_le (by omega)]
  subst eso2
  refine J.exit ?_
  refine JN.code ?_
  refine J.seq ?_
  refine J.region ?_
  refine JL.qt (Qt.move rfl) rfl ?_
  refine JL.upd [1] rfl (row_freeze (Nat.le_trans (List.length_filter_le _ _) (by show _ ≤ 1099511627776; omega))) ?_
  refine JL.call (O1.call Tryz.func6 rfl rfl rfl [0] rfl (s_own ad1.1 ad1.2 (l.filter (fun y => y.From == 0)) (Nat.le_trans (List.length_filter_le _ _) (by omega)))) rfl ?_
  rintro _ _ ⟨A2_47, c2_48, rfl, rfl⟩
  refine JL.qt (Qt.move rfl) rfl ?_
  refine JL.upd [0] rfl (row_freeze (by rw [List.length_map]; exact Nat.le_trans (List.length_filter_le _ _) (by show _ ≤ 1099511627776; omega))) ?_
  refine JL.call (O1.call Tryz.func5 rfl rfl rfl [0, 4, 4] rfl (s_weave A2_47 c2_48 ((l.filter (fun y => y.From == 0)).map toW) A2_2 c2_3 (how.map convO) (Nat.le_trans (icost_filter _ _) hc))) rfl ?_
  rintro _ _ ⟨A2_49, c2_50, rfl, rfl⟩
  refine JL.qt (Qt.move rfl) rfl ?_
  refine JL.qt (Qt.extract rfl rfl) rfl ?_
  refine JL.qt (Qt.extract rfl rfl) rfl ?_
  refine JL.qt (Qt.assign rfl) rfl ?_
  refine JL.qt (Qt.assign rfl) rfl ?_
  refine JL.nil ?_
  refine JN.code ?_
  refine J.seq ?_
  refine J.region ?_
  refine JL.qt (Qt.move rfl) rfl ?_
  refine JL.qt (Qt.bin (fun _ => neq_run) rfl rfl rfl) rfl ?_
  refine JL.qt (Qt.move rfl) rfl ?_
  refine JL.cases_ne (t := 74) rfl (fun h6 => ?_) (fun h6 => ?_)
  · exact absurd (by rw [hW0]) h6
  refine JL.g_in rfl rfl ?_
  refine JL.qt (Qt.move rfl) rfl ?_
  refine JL.g_in rfl rfl ?_
  refine JL.qt (Qt.move rfl) rfl ?_
  refine JL.g_in rfl rfl ?_
  refine JL.upd [0] rfl (row_freeze (Nat.le_trans (f_weave_filter_len _ _ _) (by show _ ≤ 1099511627776; omega))) ?_
  refine JL.upd [5] rfl (row_freeze (Nat.le_trans (List.length_filter_le _ _) (by show _ ≤ 1099511627776; omega))) ?_
  refine JL.call (O1.call Tryz.func8 rfl rfl rfl [1, 0] rfl (s_rall A2_49 c2_50 ((f_weave ((l.filter (fun y => y.From == 0)).map toW) (how.map convO)).1) ad2.1 ad2.2 ((f_weave (l.map toW) (how.map convO)).1.filter (fun y => y.From == 0)))) rfl ?_
  rintro _ _ ⟨rfl, rfl⟩
  refine JL.g_in rfl rfl ?_
  refine JL.qt (Qt.un (fun _ => not_run) rfl) rfl ?_
  refine JL.qt (Qt.pick_f rfl rfl) rfl ?_
  refine JL.nil ?_
  refine JN.code ?_
  refine J.cond_not rfl (fun h7 => ?_) (fun h7 => ?_)
  · exact absurd h7 (by rw [hW0, f_rall_refl]; decide)
  refine J.skip ?_
  refine JN.code ?_
  refine J.region ?_
  refine JL.qt (Qt.move rfl) rfl ?_
  refine JL.qt (Qt.bin (fun _ => addN_run (c := 1) (by decide) (by decide) (by decide)) rfl rfl rfl) rfl ?_
  refine JL.qt (Qt.assign rfl) rfl ?_
  refine JL.nil ?_
  refine JN.again ?_
  refine J.seq ?_
  refine J.seq ?_
  refine J.region ?_
  refine JL.qt (Qt.move rfl) rfl ?_
  refine JL.qt (Qt.bin (v := .bool true) (fun _ => lss_run) rfl rfl rfl) rfl ?_
  refine JL.nil ?_
  refine JN.code ?_
  refine J.cond_true rfl ?_
  refine J.skip ?_
  refine JN.code ?_
  refine J.seq ?_
  refine J.block ?_
  refine J.seq ?_
  refine J.region ?_
  refine JL.qt (Qt.assign rfl) rfl ?_
  refine JL.nil ?_
  refine JN.code ?_
  refine J.seq ?_
  refine J.region ?_
  refine JL.qt (Qt.assign rfl) rfl ?_
  refine JL.nil ?_
  refine JN.code ?_
  refine J.seq ?_
  refine J.seq ?_
  refine J.region ?_
  refine JL.qt (Qt.move rfl) rfl ?_
  refine JL.qt (Qt.bi (fun _ _ => len_slice_run Tryz.underlying22) rfl) rfl ?_
  refine JL.qt (Qt.move rfl) rfl ?_
  refine JL.nil ?_
  refine JN.code ?_
  refine J.block ?_
  refine J.intro_pers (p := row kSticklerref52Item 43 none 0 []) (fun w R => row_nil _ _ w R) ?_
  refine J.loop3 (fun (i3 : Nat) (so3 : List Sticklerref52Item) (ad3 : Option Addr × Nat) => [(0, .slice Al l.length cl), (4, .bool false), (5, .slice A2_2 1 c2_3), (6, .slice A2_6 (((f_weave (l.map toW) (how.map convO)).1).length) c2_7), (8, .int .i64 1), (31, .int .i64 1), (32, .bool true), (9, .slice ad3.1 so3.length ad3.2), (10, .slice none 0 0), (35, .slice Al l.length cl), (36, .int .i64 ((l.length : Nat) : Int)), (37, .int .i64 (i3 : Int)), (50, .slice A2_6 (((f_weave (l.map toW) (how.map convO)).1).length) c2_7), (51, .int .i64 ((((f_weave (l.map toW) (how.map convO)).1).length : Nat) : Int)), (52, .int .i64 (i2 : Int)), (53, .bool (decide ((i2 : Int) < ((((f_weave (l.map toW) (how.map convO)).1).length : Nat) : Int)))), (66, .slice ad1.1 ((l.filter (fun y => y.From == 0)).length) ad1.2), (67, .slice A2_47 (((l.filter (fun y => y.From == 0)).map toW).length) c2_48), (68, .slice A2_2 1 c2_3), (69, .tuple #[.slice A2_49 (((f_weave ((l.filter (fun y => y.From == 0)).map toW) (how.map convO)).1).length) c2_50, .int .i64 ((f_weave ((l.filter (fun y => y.From == 0)).map toW) (how.map convO)).2)]), (65, .tuple #[.slice A2_49 (((f_weave ((l.filter (fun y => y.From == 0)).map toW) (how.map convO)).1).length) c2_50, .int .i64 ((f_weave ((l.filter (fun y => y.From == 0)).map toW) (how.map convO)).2)]), (70, .slice A2_49 (((f_weave ((l.filter (fun y => y.From == 0)).map toW) (how.map convO)).1).length) c2_50), (71, .int .i64 ((f_weave ((l.filter (fun y => y.From == 0)).map toW) (how.map convO)).2)), (15, .slice A2_49 (((f_weave ((l.filter (fun y => y.From == 0)).map toW) (how.map convO)).1).length) c2_50), (16, .int .i64 ((f_weave ((l.filter (fun y => y.From == 0)).map toW) (how.map convO)).2)), (72, .int .i64 ((f_weave ((l.filter (fun y => y.From == 0)).map toW) (how.map convO)).2)), (73, .bool (((f_weave ((l.filter (fun y => y.From == 0)).map toW) (how.map convO)).2) != 0)), (74, .bool false), (75, .slice A2_49 (((f_weave ((l.filter (fun y => y.From == 0)).map toW) (how.map convO)).1).length) c2_50), (76, .slice ad2.1 (((f_weave (l.map toW) (how.map convO)).1.filter (fun y => y.From == 0)).length) ad2.2), (77, .bool (f_rall ((f_weave ((l.filter (fun y => y.From == 0)).map toW) (how.map convO)).1) ((f_weave (l.map toW) (how.map convO)).1.filter (fun y => y.From == 0)))), (78, .bool (!(f_rall ((f_weave ((l.filter (fun y => y.From == 0)).map toW) (how.map convO)).1) ((f_weave (l.map toW) (how.map convO)).1.filter (fun y => y.From == 0))))), (79, .bool (!(f_rall ((f_weave ((l.filter (fun y => y.From == 0)).map toW) (how.map convO)).1) ((f_weave (l.map toW) (how.map convO)).1.filter (fun y => y.From == 0))))), (33, .int .i64 0), (34, .int .i64 1)]) (fun (i3 : Nat) (so3 : List Sticklerref52Item) (ad3 : Option Addr × Nat) => [row kSticklerref52Item 43 ad3.1 ad3.2 so3, rd kApiRaw A2_49 c2_50 ((f_weave ((l.filter (fun y => y.From == 0)).map toW) (how.map convO)).1), rd kApiRaw ad2.1 ad2.2 ((f_weave (l.map toW) (how.map convO)).1.filter (fun y => y.From == 0)), rd kWeaveItem A2_47 c2_48 ((l.filter (fun y => y.From == 0)).map toW), rd kWeaveWay A2_2 c2_3 [(⟨[], (how.map convO), [], (-1)⟩ : WeaveWay)], roc 0 0 [.int .i64 0, .int .i64 0, .int .i64 128, .int .i64 7, .int .i64 64, .int .i64 6, .int .i64 0, .int .i64 4, .int .i64 16, .int .i64 4, .int .i64 32, .int .i64 5], rd kSticklerref52Item ad1.1 ad1.2 (l.filter (fun y => y.From == 0)), rd kApiRaw A2_6 c2_7 ((f_weave (l.map toW) (how.map convO)).1), rd kWeaveItem A2_4 c2_5 (l.map toW), rd kSticklerref52Item Al cl l, rd kSticklerref52Way (some ⟨b_1, 0, none⟩) ([(⟨[], how, [], (-1)⟩ : Sticklerref52Way)].length) [(⟨[], how, [], (-1)⟩ : Sticklerref52Way)], rd kSticklerref24Option Ah ch how]) (fun (i3 : Nat) (so3 : List Sticklerref52Item) (ad3 : Option Addr × Nat) => i3 ≤ l.length ∧ so3 = (l.take i3).filter (fun y => y.From == 1)) (fun (i3 : Nat) (so3 : List Sticklerref52Item) (ad3 : Option Addr × Nat) => l.length - i3) 0 [] (none, 0) ⟨Nat.zero_le _, rfl⟩ ⟨rfl, rfl, rfl, rfl, rfl, rfl, rfl, rfl, rfl, rfl, rfl, rfl, rfl, rfl, rfl, rfl, rfl, rfl, rfl, rfl, rfl, rfl, rfl, rfl, rfl, rfl, rfl, rfl, rfl, rfl, rfl, rfl, rfl, rfl, rfl, trivial⟩ [0, 0, 0, 0, 0, 0, 0, 0, 0, 0, 0, 0] rfl ?_
  rintro i3 so3 ad3 ⟨hi, ho⟩
  have hol : so3.length ≤ i3 := by rw [ho]; exact Nat.le_trans (List.length_filter_le _ _) (by rw [List.length_take]; omega)
  refine J.seq ?_
  refine J.region ?_
  refine JL.qt (Qt.bin (fun _ => lss_run) rfl rfl rfl) rfl ?_
  refine JL.nil ?_
  refine JN.code ?_
  refine J.seq ?_
  refine J.cond_dec rfl (fun h8 => ?_) (fun h8 => ?_)
  · refine J.skip ?_
    refine JN.code ?_
    refine J.seq ?_
    refine J.block ?_
    refine J.seq ?_
    obtain ⟨u, hu⟩ := getk l i3 (by omega)
    refine J.elem (k := i3) (u := u) 9 rfl hu (fun b_51 o_52 cs_53 hA_54 => ?_); subst hA_54
    refine J.unf6 1 rfl unSticklerref52Item ?_; rintro A_60 c_61 A_62 c_63 A_70 c_71 ⟨rfl, e_55, e_56, e_57, e_58, e_59, e_64, e_65, e_66, e_67, e_68, e_69⟩
    refine J.region ?_
    refine JL.qt (Qt.ia Tryz.underlying22 sz43 rfl rfl (by omega) (by omega)) rfl ?_
    refine JL.qt (Qt.ldA_ro (j := 0) 3 ag43 sz43 rfl rfl rfl rfl rfl) rfl ?_
    refine JL.ef (O1.alloc ze43) rfl ?_
    rintro _ _ ⟨b_72, rfl, rfl⟩
    refine JL.sk (O1.stA 0 sz43 rfl rfl rfl rfl rfl rfl rfl rfl) ?_
    refine JL.nil ?_
    refine JN.code ?_
    refine J.seq ?_
    refine J.at [blk b_72 43 [.int .i64 u.From, .int .i64 u.F.Type_, .int .i64 u.F.Flags, .int .i64 u.F.Stream, .int .i64 u.F.Pad, .slice A_60 u.F.Data.length c_61, .slice A_62 u.F.Settings.length c_63, .int .i64 u.F.Weight, .int .i64 u.F.Parent, .bool u.F.Alone, .int .i64 u.F.Promised, .int .i64 u.F.Last, .int .i64 u.F.Code, .int .i64 u.F.Step, .bool u.Block, .slice A_70 u.Fields.length c_71], rd (Kd.int .u8) A_60 c_61 u.F.Data, rd kApiSetting A_62 c_63 u.F.Settings, rd kApiField A_70 c_71 u.Fields, roc b_51 (o_52 + i3 * 16) [.int .i64 u.From, .int .i64 u.F.Type_, .int .i64 u.F.Flags, .int .i64 u.F.Stream, .int .i64 u.F.Pad, .slice A_60 u.F.Data.length c_61, .slice A_62 u.F.Settings.length c_63, .int .i64 u.F.Weight, .int .i64 u.F.Parent, .bool u.F.Alone, .int .i64 u.F.Promised, .int .i64 u.F.Last, .int .i64 u.F.Code, .int .i64 u.F.Step, .bool u.Block, .slice A_70 u.Fields.length c_71], row kSticklerref52Item 43 ad3.1 ad3.2 so3, rd kApiRaw A2_49 c2_50 ((f_weave ((l.filter (fun y => y.From == 0)).map toW) (how.map convO)).1), rd kApiRaw ad2.1 ad2.2 ((f_weave (l.map toW) (how.map convO)).1.filter (fun y => y.From == 0)), rd kWeaveItem A2_47 c2_48 ((l.filter (fun y => y.From == 0)).map toW), rd kWeaveWay A2_2 c2_3 [(⟨[], (how.map convO), [], (-1)⟩ : WeaveWay)], roc 0 0 [.int .i64 0, .int .i64 0, .int .i64 128, .int .i64 7, .int .i64 64, .int .i64 6, .int .i64 0, .int .i64 4, .int .i64 16, .int .i64 4, .int .i64 32, .int .i64 5], rd kSticklerref52Item ad1.1 ad1.2 (l.filter (fun y => y.From == 0)), rd kApiRaw A2_6 c2_7 ((f_weave (l.map toW) (how.map convO)).1), rd kWeaveItem A2_4 c2_5 (l.map toW), rd kSticklerref52Item (some ⟨b_51, o_52, none⟩) cl l, rd kSticklerref52Way (some ⟨b_1, 0, none⟩) ([(⟨[], how, [], (-1)⟩ : Sticklerref52Way)].length) [(⟨[], how, [], (-1)⟩ : Sticklerref52Way)], rd kSticklerref24Option Ah ch how] rfl ?_
    refine J.region ?_
    refine JL.qt (Qt.fa (o' := 0) fo43_0 rfl rfl) rfl ?_
    refine JL.qt (Qt.ld 0 pl3 rfl rfl rfl) rfl ?_
    refine JL.qt (Qt.move rfl) rfl ?_
    refine JL.qt (Qt.bin (fun _ => eql_run) rfl rfl rfl) rfl ?_
    refine JL.nil ?_
    refine JN.code ?_
    refine J.cond_eq rfl (fun h9 => ?_) (fun h9 => ?_)
    · refine J.keep [0, 4, 5, 6, 8, 31, 32, 9, 10, 35, 36, 37, 50, 51, 52, 53, 66, 67, 68, 69, 65, 70, 71, 15, 16, 72, 73, 74, 75, 76, 77, 78, 79, 33, 34, 12] rfl ?_
      refine J.region ?_
      refine JL.qt (Qt.move rfl) rfl ?_
      refine JL.qt (Qt.ldA 0 ag43 sz43 rfl rfl rfl rfl) rfl ?_
      refine JL.ef (O1.bsl el22 ze43 rfl rfl rfl) rfl ?_
      rintro _ _ ⟨b_73, rfl, rfl⟩
      refine JL.at [blk b_73 43 [.int .i64 u.From, .int .i64 u.F.Type_, .int .i64 u.F.Flags, .int .i64 u.F.Stream, .int .i64 u.F.Pad, .slice A_60 u.F.Data.length c_61, .slice A_62 u.F.Settings.length c_63, .int .i64 u.F.Weight, .int .i64 u.F.Parent, .bool u.F.Alone, .int .i64 u.F.Promised, .int .i64 u.F.Last, .int .i64 u.F.Code, .int .i64 u.F.Step, .bool u.Block, .slice A_70 u.Fields.length c_71], blk b_72 43 [.int .i64 u.From, .int .i64 u.F.Type_, .int .i64 u.F.Flags, .int .i64 u.F.Stream, .int .i64 u.F.Pad, .slice A_60 u.F.Data.length c_61, .slice A_62 u.F.Settings.length c_63, .int .i64 u.F.Weight, .int .i64 u.F.Parent, .bool u.F.Alone, .int .i64 u.F.Promised, .int .i64 u.F.Last, .int .i64 u.F.Code, .int .i64 u.F.Step, .bool u.Block, .slice A_70 u.Fields.length c_71], rd (Kd.int .u8) A_60 c_61 u.F.Data, rd kApiSetting A_62 c_63 u.F.Settings, rd kApiField A_70 c_71 u.Fields, roc b_51 (o_52 + i3 * 16) [.int .i64 u.From, .int .i64 u.F.Type_, .int .i64 u.F.Flags, .int .i64 u.F.Stream, .int .i64 u.F.Pad, .slice A_60 u.F.Data.length c_61, .slice A_62 u.F.Settings.length c_63, .int .i64 u.F.Weight, .int .i64 u.F.Parent, .bool u.F.Alone, .int .i64 u.F.Promised, .int .i64 u.F.Last, .int .i64 u.F.Code, .int .i64 u.F.Step, .bool u.Block, .slice A_70 u.Fields.length c_71], row kSticklerref52Item 43 ad3.1 ad3.2 so3, rd kApiRaw A2_49 c2_50 ((f_weave ((l.filter (fun y => y.From == 0)).map toW) (how.map convO)).1), rd kApiRaw ad2.1 ad2.2 ((f_weave (l.map toW) (how.map convO)).1.filter (fun y => y.From == 0)), rd kWeaveItem A2_47 c2_48 ((l.filter (fun y => y.From == 0)).map toW), rd kWeaveWay A2_2 c2_3 [(⟨[], (how.map convO), [], (-1)⟩ : WeaveWay)], roc 0 0 [.int .i64 0, .int .i64 0, .int .i64 128, .int .i64 7, .int .i64 64, .int .i64 6, .int .i64 0, .int .i64 4, .int .i64 16, .int .i64 4, .int .i64 32, .int .i64 5], rd kSticklerref52Item ad1.1 ad1.2 (l.filter (fun y => y.From == 0)), rd kApiRaw A2_6 c2_7 ((f_weave (l.map toW) (how.map convO)).1), rd kWeaveItem A2_4 c2_5 (l.map toW), rd kSticklerref52Item (some ⟨b_51, o_52, none⟩) cl l, rd kSticklerref52Way (some ⟨b_1, 0, none⟩) ([(⟨[], how, [], (-1)⟩ : Sticklerref52Way)].length) [(⟨[], how, [], (-1)⟩ : Sticklerref52Way)], rd kSticklerref24Option Ah ch how] (by kernel_rfl) ?_
      refine JL.ef (O1.append (D := kSticklerref52Item) (xs := so3) (ys := [u]) 6 el22 rfl rfl rfl rfl rfl (fun w R o s => (by obtain ⟨_, _, hr0⟩ := s.has (i := 1) rfl; obtain ⟨_, _, hr1⟩ := s.has (i := 2) rfl; obtain ⟨_, _, hr2⟩ := s.has (i := 3) rfl; exact Elems.one_elem (mkSticklerref52Item e_55 e_56 e_57 e_58 e_59 hr0 hr1 e_64 e_65 e_66 e_67 e_68 e_69 hr2))) (by simp; omega)) rfl ?_
      rintro _ _ ⟨A_74, c_75, rfl, rfl⟩
      refine JL.qt (Qt.assign rfl) rfl ?_
      refine JL.nil ?_
      refine JN.code ?_
      refine J.region ?_
      refine JL.qt (Qt.bin (fun _ => addN_run rfl (by omega) (by omega)) rfl rfl rfl) rfl ?_
      refine JL.qt (Qt.move rfl) rfl ?_
      refine JL.nil ?_
      refine JN.round3 (z0 := i3) (z1 := so3) (z2 := ad3) (i3 + 1) (so3 ++ [u]) (A_74, c_75) (by omega) ⟨by omega, by rw [ho, take_next hu, List.filter_append]; simp [h9]⟩ ⟨rfl, rfl, rfl, rfl, rfl, rfl, rfl, rfl, rfl, rfl, rfl, rfl, rfl, rfl, rfl, rfl, rfl, rfl, rfl, rfl, rfl, rfl, rfl, rfl, rfl, rfl, rfl, rfl, rfl, rfl, rfl, rfl, rfl, rfl, rfl, trivial⟩ [0, 5, 5, 5, 5, 5, 5, 5, 5, 5, 5, 5] rfl
    refine J.skip ?_
    refine JN.code ?_
    refine J.keep [0, 4, 5, 6, 8, 31, 32, 9, 10, 35, 36, 37, 50, 51, 52, 53, 66, 67, 68, 69, 65, 70, 71, 15, 16, 72, 73, 74, 75, 76, 77, 78, 79, 33, 34] rfl ?_
    refine J.region ?_
    refine JL.qt (Qt.bin (fun _ => addN_run rfl (by omega) (by omega)) rfl rfl rfl) rfl ?_
    refine JL.qt (Qt.move rfl) rfl ?_
    refine JL.nil ?_
    refine JN.round3 (z0 := i3) (z1 := so3) (z2 := ad3) (i3 + 1) so3 (ad3.1, ad3.2) (by omega) ⟨by omega, by rw [ho, take_next hu, List.filter_append]; simp [h9]⟩ ⟨rfl, rfl, rfl, rfl, rfl, rfl, rfl, rfl, rfl, rfl, rfl, rfl, rfl, rfl, rfl, rfl, rfl, rfl, rfl, rfl, rfl, rfl, rfl, rfl, rfl, rfl, rfl, rfl, rfl, rfl, rfl, rfl, rfl, rfl, rfl, trivial⟩ [5, 5, 5, 5, 5, 5, 5, 5, 5, 5, 5, 5] rfl
  have eso3 : so3 = (l.filter (fun y => y.From == 1)) := by rw [ho, List.take_of_length_le (by omega)]
  subst eso3
  refine J.exit ?_
  refine JN.code ?_
  refine J.seq ?_
  refine J.seq ?_
  refine J.region ?_
  refine JL.qt (Qt.move rfl) rfl ?_
  refine JL.qt (Qt.bi (fun _ _ => len_slice_run Tryz.underlying30) rfl) rfl ?_
  refine JL.qt (Qt.move rfl) rfl ?_
  refine JL.nil ?_
  refine JN.code ?_
  refine J.block ?_
  refine J.intro_pers (p := row kApiRaw 45 none 0 []) (fun w R => row_nil _ _ w R) ?_
  refine J.loop3 (fun (i4 : Nat) (so4 : List ApiRaw) (ad4 : Option Addr × Nat) => [(0, .slice Al l.length cl), (4, .bool false), (5, .slice A2_2 1 c2_3), (6, .slice A2_6 (((f_weave (l.map toW) (how.map convO)).1).length) c2_7), (8, .int .i64 1), (31, .int .i64 1), (32, .bool true), (9, .slice ad3.1 ((l.filter (fun y => y.From == 1)).length) ad3.2), (10, .slice ad4.1 so4.length ad4.2), (35, .slice Al l.length cl), (36, .int .i64 ((l.length : Nat) : Int)), (37, .int .i64 (i3 : Int)), (50, .slice A2_6 (((f_weave (l.map toW) (how.map convO)).1).length) c2_7), (51, .int .i64 ((((f_weave (l.map toW) (how.map convO)).1).length : Nat) : Int)), (52, .int .i64 (i4 : Int)), (66, .slice ad1.1 ((l.filter (fun y => y.From == 0)).length) ad1.2), (67, .slice A2_47 (((l.filter (fun y => y.From == 0)).map toW).length) c2_48), (68, .slice A2_2 1 c2_3), (69, .tuple #[.slice A2_49 (((f_weave ((l.filter (fun y => y.From == 0)).map toW) (how.map convO)).1).length) c2_50, .int .i64 ((f_weave ((l.filter (fun y => y.From == 0)).map toW) (how.map convO)).2)]), (65, .tuple #[.slice A2_49 (((f_weave ((l.filter (fun y => y.From == 0)).map toW) (how.map convO)).1).length) c2_50, .int .i64 ((f_weave ((l.filter (fun y => y.From == 0)).map toW) (how.map convO)).2)]), (70, .slice A2_49 (((f_weave ((l.filter (fun y => y.From == 0)).map toW) (how.map convO)).1).length) c2_50), (71, .int .i64 ((f_weave ((l.filter (fun y => y.From == 0)).map toW) (how.map convO)).2)), (15, .slice A2_49 (((f_weave ((l.filter (fun y => y.From == 0)).map toW) (how.map convO)).1).length) c2_50), (16, .int .i64 ((f_weave ((l.filter (fun y => y.From == 0)).map toW) (how.map convO)).2)), (72, .int .i64 ((f_weave ((l.filter (fun y => y.From == 0)).map toW) (how.map convO)).2)), (73, .bool (((f_weave ((l.filter (fun y => y.From == 0)).map toW) (how.map convO)).2) != 0)), (74, .bool false), (75, .slice A2_49 (((f_weave ((l.filter (fun y => y.From == 0)).map toW) (how.map convO)).1).length) c2_50), (76, .slice ad2.1 (((f_weave (l.map toW) (how.map convO)).1.filter (fun y => y.From == 0)).length) ad2.2), (77, .bool (f_rall ((f_weave ((l.filter (fun y => y.From == 0)).map toW) (how.map convO)).1) ((f_weave (l.map toW) (how.map convO)).1.filter (fun y => y.From == 0)))), (78, .bool (!(f_rall ((f_weave ((l.filter (fun y => y.From == 0)).map toW) (how.map convO)).1) ((f_weave (l.map toW) (how.map convO)).1.filter (fun y => y.From == 0))))), (79, .bool (!(f_rall ((f_weave ((l.filter (fun y => y.From == 0)).map toW) (how.map convO)).1) ((f_weave (l.map toW) (how.map convO)).1.filter (fun y => y.From == 0))))), (33, .int .i64 0), (34, .int .i64 1), (38, .bool (decide ((i3 : Int) < ((l.length : Nat) : Int))))]) (fun (i4 : Nat) (so4 : List ApiRaw) (ad4 : Option Addr × Nat) => [row kApiRaw 45 ad4.1 ad4.2 so4, row kSticklerref52Item 43 ad3.1 ad3.2 (l.filter (fun y => y.From == 1)), rd kApiRaw A2_49 c2_50 ((f_weave ((l.filter (fun y => y.From == 0)).map toW) (how.map convO)).1), rd kApiRaw ad2.1 ad2.2 ((f_weave (l.map toW) (how.map convO)).1.filter (fun y => y.From == 0)), rd kWeaveItem A2_47 c2_48 ((l.filter (fun y => y.From == 0)).map toW), rd kWeaveWay A2_2 c2_3 [(⟨[], (how.map convO), [], (-1)⟩ : WeaveWay)], roc 0 0 [.int .i64 0, .int .i64 0, .int .i64 128, .int .i64 7, .int .i64 64, .int .i64 6, .int .i64 0, .int .i64 4, .int .i64 16, .int .i64 4, .int .i64 32, .int .i64 5], rd kSticklerref52Item ad1.1 ad1.2 (l.filter (fun y => y.From == 0)), rd kApiRaw A2_6 c2_7 ((f_weave (l.map toW) (how.map convO)).1), rd kWeaveItem A2_4 c2_5 (l.map toW), rd kSticklerref52Item Al cl l, rd kSticklerref52Way (some ⟨b_1, 0, none⟩) ([(⟨[], how, [], (-1)⟩ : Sticklerref52Way)].length) [(⟨[], how, [], (-1)⟩ : Sticklerref52Way)], rd kSticklerref24Option Ah ch how]) (fun (i4 : Nat) (so4 : List ApiRaw) (ad4 : Option Addr × Nat) => i4 ≤ (f_weave (l.map toW) (how.map convO)).1.length ∧ so4 = ((f_weave (l.map toW) (how.map convO)).1.take i4).filter (fun y => y.From == 1)) (fun (i4 : Nat) (so4 : List ApiRaw) (ad4 : Option Addr × Nat) => (f_weave (l.map toW) (how.map convO)).1.length - i4) 0 [] (none, 0) ⟨Nat.zero_le _, rfl⟩ ⟨rfl, rfl, rfl, rfl, rfl, rfl, rfl, rfl, rfl, rfl, rfl, rfl, rfl, rfl, rfl, rfl, rfl, rfl, rfl, rfl, rfl, rfl, rfl, rfl, rfl, rfl, rfl, rfl, rfl, rfl, rfl, rfl, rfl, rfl, rfl, trivial⟩ [0, 0, 0, 0, 0, 0, 0, 0, 0, 0, 0, 0, 0] rfl ?_
  rintro i4 so4 ad4 ⟨hi, ho⟩
  have hol : so4.length ≤ i4 := by rw [ho]; exact Nat.le_trans (List.length_filter_le _ _) (by rw [List.length_take]; omega)
  refine J.seq ?_
  refine J.region ?_
  refine JL.qt (Qt.bin (fun _ => lss_run) rfl rfl rfl) rfl ?_
  refine JL.nil ?_
  refine JN.code ?_
  refine J.seq ?_
  refine J.cond_dec rfl (fun h10 => ?_) (fun h10 => ?_)
  · refine J.skip ?_
    refine JN.code ?_
    refine J.seq ?_
    refine J.block ?_
    refine J.seq ?_
    obtain ⟨u, hu⟩ := getk (f_weave (l.map toW) (how.map convO)).1 i4 (by omega)
    refine J.elem (k := i4) (u := u) 8 rfl hu (fun b_76 o_77 cs_78 hA_79 => ?_); subst hA_79
    refine J.unf2 1 rfl unApiRaw ?_; rintro A_84 c_85 ⟨rfl, e_80, e_81, e_82, e_83⟩
    refine J.region ?_
    refine JL.qt (Qt.ia Tryz.underlying30 sz45 rfl rfl (by omega) (by omega)) rfl ?_
    refine JL.qt (Qt.ldA_ro (j := 0) 1 ag45 sz45 rfl rfl rfl rfl rfl) rfl ?_
    refine JL.ef (O1.alloc ze45) rfl ?_
    rintro _ _ ⟨b_86, rfl, rfl⟩
    refine JL.sk (O1.stA 0 sz45 rfl rfl rfl rfl rfl rfl rfl rfl) ?_
    refine JL.nil ?_
    refine JN.code ?_
    refine J.seq ?_
    refine J.at [blk b_86 45 [.int .i64 u.From, .int .i64 u.Type_, .int .i64 u.Flags, .int .i64 u.Stream, .bool u.Res, .slice A_84 u.Body.length c_85], rd (Kd.int .u8) A_84 c_85 u.Body, roc b_76 (o_77 + i4 * 6) [.int .i64 u.From, .int .i64 u.Type_, .int .i64 u.Flags, .int .i64 u.Stream, .bool u.Res, .slice A_84 u.Body.length c_85], row kApiRaw 45 ad4.1 ad4.2 so4, row kSticklerref52Item 43 ad3.1 ad3.2 (l.filter (fun y => y.From == 1)), rd kApiRaw A2_49 c2_50 ((f_weave ((l.filter (fun y => y.From == 0)).map toW) (how.map convO)).1), rd kApiRaw ad2.1 ad2.2 ((f_weave (l.map toW) (how.map convO)).1.filter (fun y => y.From == 0)), rd kWeaveItem A2_47 c2_48 ((l.filter (fun y => y.From == 0)).map toW), rd kWeaveWay A2_2 c2_3 [(⟨[], (how.map convO), [], (-1)⟩ : WeaveWay)], roc 0 0 [.int .i64 0, .int .i64 0, .int .i64 128, .int .i64 7, .int .i64 64, .int .i64 6, .int .i64 0, .int .i64 4, .int .i64 16, .int .i64 4, .int .i64 32, .int .i64 5], rd kSticklerref52Item ad1.1 ad1.2 (l.filter (fun y => y.From == 0)), rd kApiRaw (some ⟨b_76, o_77, none⟩) c2_7 ((f_weave (l.map toW) (how.map convO)).1), rd kWeaveItem A2_4 c2_5 (l.map toW), rd kSticklerref52Item Al cl l, rd kSticklerref52Way (some ⟨b_1, 0, none⟩) ([(⟨[], how, [], (-1)⟩ : Sticklerref52Way)].length) [(⟨[], how, [], (-1)⟩ : Sticklerref52Way)], rd kSticklerref24Option Ah ch how] rfl ?_
    refine J.region ?_
    refine JL.qt (Qt.fa (o' := 0) fo45_0 rfl rfl) rfl ?_
    refine JL.qt (Qt.ld 0 pl3 rfl rfl rfl) rfl ?_
    refine JL.qt (Qt.move rfl) rfl ?_
    refine JL.qt (Qt.bin (fun _ => eql_run) rfl rfl rfl) rfl ?_
    refine JL.nil ?_
    refine JN.code ?_
    refine J.cond_eq rfl (fun h11 => ?_) (fun h11 => ?_)
    · refine J.keep [0, 4, 5, 6, 8, 31, 32, 9, 10, 35, 36, 37, 50, 51, 52, 66, 67, 68, 69, 65, 70, 71, 15, 16, 72, 73, 74, 75, 76, 77, 78, 79, 33, 34, 38, 14] rfl ?_
      refine J.region ?_
      refine JL.qt (Qt.move rfl) rfl ?_
      refine JL.qt (Qt.ldA 0 ag45 sz45 rfl rfl rfl rfl) rfl ?_
      refine JL.ef (O1.bsl el30 ze45 rfl rfl rfl) rfl ?_
      rintro _ _ ⟨b_87, rfl, rfl⟩
      refine JL.at [blk b_87 45 [.int .i64 u.From, .int .i64 u.Type_, .int .i64 u.Flags, .int .i64 u.Stream, .bool u.Res, .slice A_84 u.Body.length c_85], blk b_86 45 [.int .i64 u.From, .int .i64 u.Type_, .int .i64 u.Flags, .int .i64 u.Stream, .bool u.Res, .slice A_84 u.Body.length c_85], rd (Kd.int .u8) A_84 c_85 u.Body, roc b_76 (o_77 + i4 * 6) [.int .i64 u.From, .int .i64 u.Type_, .int .i64 u.Flags, .int .i64 u.Stream, .bool u.Res, .slice A_84 u.Body.length c_85], row kApiRaw 45 ad4.1 ad4.2 so4, row kSticklerref52Item 43 ad3.1 ad3.2 (l.filter (fun y => y.From == 1)), rd kApiRaw A2_49 c2_50 ((f_weave ((l.filter (fun y => y.From == 0)).map toW) (how.map convO)).1), rd kApiRaw ad2.1 ad2.2 ((f_weave (l.map toW) (how.map convO)).1.filter (fun y => y.From == 0)), rd kWeaveItem A2_47 c2_48 ((l.filter (fun y => y.From == 0)).map toW), rd kWeaveWay A2_2 c2_3 [(⟨[], (how.map convO), [], (-1)⟩ : WeaveWay)], roc 0 0 [.int .i64 0, .int .i64 0, .int .i64 128, .int .i64 7, .int .i64 64, .int .i64 6, .int .i64 0, .int .i64 4, .int .i64 16, .int .i64 4, .int .i64 32, .int .i64 5], rd kSticklerref52Item ad1.1 ad1.2 (l.filter (fun y => y.From == 0)), rd kApiRaw (some ⟨b_76, o_77, none⟩) c2_7 ((f_weave (l.map toW) (how.map convO)).1), rd kWeaveItem A2_4 c2_5 (l.map toW), rd kSticklerref52Item Al cl l, rd kSticklerref52Way (some ⟨b_1, 0, none⟩) ([(⟨[], how, [], (-1)⟩ : Sticklerref52Way)].length) [(⟨[], how, [], (-1)⟩ : Sticklerref52Way)], rd kSticklerref24Option Ah ch how] (by kernel_rfl) ?_
      refine JL.ef (O1.append (D := kApiRaw) (xs := so4) (ys := [u]) 4 el30 rfl rfl rfl rfl rfl (fun w R o s => (by obtain ⟨_, _, hr0⟩ := s.has (i := 1) rfl; exact Elems.one_elem (mkApiRaw e_80 e_81 e_82 e_83 hr0))) (by simp; omega)) rfl ?_
      rintro _ _ ⟨A_88, c_89, rfl, rfl⟩
      refine JL.qt (Qt.assign rfl) rfl ?_
      refine JL.nil ?_
      refine JN.code ?_
      refine J.region ?_
      refine JL.qt (Qt.bin (fun _ => addN_run rfl (by omega) (by omega)) rfl rfl rfl) rfl ?_
      refine JL.qt (Qt.move rfl) rfl ?_
      refine JL.nil ?_
      refine JN.round3 (z0 := i4) (z1 := so4) (z2 := ad4) (i4 + 1) (so4 ++ [u]) (A_88, c_89) (by omega) ⟨by omega, by rw [ho, take_next hu, List.filter_append]; simp [h11]⟩ ⟨rfl, rfl, rfl, rfl, rfl, rfl, rfl, rfl, rfl, rfl, rfl, rfl, rfl, rfl, rfl, rfl, rfl, rfl, rfl, rfl, rfl, rfl, rfl, rfl, rfl, rfl, rfl, rfl, rfl, rfl, rfl, rfl, rfl, rfl, rfl, trivial⟩ [0, 3, 3, 3, 3, 3, 3, 3, 3, 3, 3, 3, 3] rfl
    refine J.skip ?_
    refine JN.code ?_
    refine J.keep [0, 4, 5, 6, 8, 31, 32, 9, 10, 35, 36, 37, 50, 51, 52, 66, 67, 68, 69, 65, 70, 71, 15, 16, 72, 73, 74, 75, 76, 77, 78, 79, 33, 34, 38] rfl ?_
    refine J.region ?_
    refine JL.qt (Qt.bin (fun _ => addN_run rfl (by omega) (by omega)) rfl rfl rfl) rfl ?_
    refine JL.qt (Qt.move rfl) rfl ?_
    refine JL.nil ?_
    refine JN.round3 (z0 := i4) (z1 := so4) (z2 := ad4) (i4 + 1) so4 (ad4.1, ad4.2) (by omega) ⟨by omega, by rw [ho, take_next hu, List.filter_append]; simp [h11]⟩ ⟨rfl, rfl, rfl, rfl, rfl, rfl, rfl, rfl, rfl, rfl, rfl, rfl, rfl, rfl, rfl, rfl, rfl, rfl, rfl, rfl, rfl, rfl, rfl, rfl, rfl, rfl, rfl, rfl, rfl, rfl, rfl, rfl, rfl, rfl, rfl, trivial⟩ [3, 3, 3, 3, 3, 3, 3, 3, 3, 3, 3, 3, 3] rfl
  have eso4 : so4 = ((f_weave (l.map toW) (how.map convO)).1.filter (fun y => y.From == 1)) := by rw [ho, List.take_of_length_le (by omega)]
  subst eso4
  refine J.exit ?_
  refine JN.code ?_
  refine J.seq ?_
  refine J.region ?_
  refine JL.qt (Qt.move rfl) rfl ?_
  refine JL.upd [1] rfl (row_freeze (Nat.le_trans (List.length_filter_le _ _) (by show _ ≤ 1099511627776; omega))) ?_
  refine JL.call (O1.call Tryz.func6 rfl rfl rfl [0] rfl (s_own ad3.1 ad3.2 (l.filter (fun y => y.From == 1)) (Nat.le_trans (List.length_filter_le _ _) (by omega)))) rfl ?_
  rintro _ _ ⟨A2_90, c2_91, rfl, rfl⟩
  refine JL.qt (Qt.move rfl) rfl ?_
  refine JL.upd [0] rfl (row_freeze (by rw [List.length_map]; exact Nat.le_trans (List.length_filter_le _ _) (by show _ ≤ 1099511627776; omega))) ?_
  refine JL.call (O1.call Tryz.func5 rfl rfl rfl [0, 5, 5] rfl (s_weave A2_90 c2_91 ((l.filter (fun y => y.From == 1)).map toW) A2_2 c2_3 (how.map convO) (Nat.le_trans (icost_filter _ _) hc))) rfl ?_
  rintro _ _ ⟨A2_92, c2_93, rfl, rfl⟩
  refine JL.qt (Qt.move rfl) rfl ?_
  refine JL.qt (Qt.extract rfl rfl) rfl ?_
  refine JL.qt (Qt.extract rfl rfl) rfl ?_
  refine JL.qt (Qt.assign rfl) rfl ?_
  refine JL.qt (Qt.assign rfl) rfl ?_
  refine JL.nil ?_
  refine JN.code ?_
  refine J.seq ?_
  refine J.region ?_
  refine JL.qt (Qt.move rfl) rfl ?_
  refine JL.qt (Qt.bin (fun _ => neq_run) rfl rfl rfl) rfl ?_
  refine JL.qt (Qt.move rfl) rfl ?_
  refine JL.cases_ne (t := 74) rfl (fun h12 => ?_) (fun h12 => ?_)
  · exact absurd (by rw [hW1]) h12
  refine JL.g_in rfl rfl ?_
  refine JL.qt (Qt.move rfl) rfl ?_
  refine JL.g_in rfl rfl ?_
  refine JL.qt (Qt.move rfl) rfl ?_
  refine JL.g_in rfl rfl ?_
  refine JL.upd [0] rfl (row_freeze (Nat.le_trans (f_weave_filter_len _ _ _) (by show _ ≤ 1099511627776; omega))) ?_
  refine JL.upd [5] rfl (row_freeze (Nat.le_trans (List.length_filter_le _ _) (by show _ ≤ 1099511627776; omega))) ?_
  refine JL.call (O1.call Tryz.func8 rfl rfl rfl [1, 0] rfl (s_rall A2_92 c2_93 ((f_weave ((l.filter (fun y => y.From == 1)).map toW) (how.map convO)).1) ad4.1 ad4.2 ((f_weave (l.map toW) (how.map convO)).1.filter (fun y => y.From == 1)))) rfl ?_
  rintro _ _ ⟨rfl, rfl⟩
  refine JL.g_in rfl rfl ?_
  refine JL.qt (Qt.un (fun _ => not_run) rfl) rfl ?_
  refine JL.qt (Qt.pick_f rfl rfl) rfl ?_
  refine JL.nil ?_
  refine JN.code ?_
  refine J.cond_not rfl (fun h13 => ?_) (fun h13 => ?_)
  · exact absurd h13 (by rw [hW1, f_rall_refl]; decide)
  refine J.skip ?_
  refine JN.code ?_
  refine J.region ?_
  refine JL.qt (Qt.move rfl) rfl ?_
  refine JL.qt (Qt.bin (fun _ => addN_run (c := 2) (by decide) (by decide) (by decide)) rfl rfl rfl) rfl ?_
  refine JL.qt (Qt.assign rfl) rfl ?_
  refine JL.nil ?_
  refine JN.again ?_
  refine J.seq ?_
  refine J.seq ?_
  refine J.region ?_
  refine JL.qt (Qt.move rfl) rfl ?_
  refine JL.qt (Qt.bin (v := .bool false) (fun _ => lss_run) rfl rfl rfl) rfl ?_
  refine JL.nil ?_
  refine JN.code ?_
  refine J.cond_false rfl ?_
  refine J.exit ?_
  refine JN.code ?_
  refine J.seq ?_
  refine J.keep [4] rfl ?_
  refine J.region ?_
  refine JL.call (O1.call Tryz.func7 rfl rfl rfl [] rfl s_alive) rfl ?_
  rintro _ _ ⟨rfl, rfl⟩
  refine JL.qt (Qt.assign rfl) rfl ?_
  refine JL.nil ?_
  refine JN.code ?_
  refine J.ret ?_
  refine JN.back (res1 rfl rfl) [12, 13, 4] rfl ?_
  exact ⟨rfl, rfl⟩
end Go.Proofs.YthjbkngecgbioaaGreatDoor.Sl
