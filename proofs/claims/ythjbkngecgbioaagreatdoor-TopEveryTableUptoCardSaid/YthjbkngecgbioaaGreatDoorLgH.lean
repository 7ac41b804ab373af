/- Frames are read and written as told (each theorem names its bounds). -/
import Derived.Test.YthjbkngecgbioaaGreatDoorLgG
set_option linter.unusedVariables false
set_option linter.unusedSimpArgs false
set_option linter.deprecated false
/- Walks: inside a frame. -/
set_option maxRecDepth 100000
set_option linter.unusedSimpArgs false
set_option linter.unusedVariables false
namespace Go.Proofs.YthjbkngecgbioaaGreatDoor.Sl
open Go
theorem ze93 : zeroTy Tryz.prog 93 = some [.int .i64 0, .int .i64 0, .int .i64 0, .int .i64 0, .bool false] := by kernel_rfl
theorem fo45_5 : fldOff Tryz.prog 45 5 = some 5 := by kernel_rfl
theorem fo45_1 : fldOff Tryz.prog 45 1 = some 1 := by kernel_rfl
theorem fo45_2 : fldOff Tryz.prog 45 2 = some 2 := by kernel_rfl
theorem fo45_3 : fldOff Tryz.prog 45 3 = some 3 := by kernel_rfl
theorem fo45_4 : fldOff Tryz.prog 45 4 = some 4 := by kernel_rfl
theorem sp93 : structPl Tryz.prog 93 = some [(0, 1), (1, 1), (2, 1), (3, 1), (4, 1)] := by kernel_rfl
theorem sz93 : szTy Tryz.prog 93 = some 5 := by kernel_rfl
theorem ag93 : aggTy Tryz.prog 93 = true := by kernel_rfl
theorem fo93_0 : fldOff Tryz.prog 93 0 = some 0 := by kernel_rfl
theorem fo93_1 : fldOff Tryz.prog 93 1 = some 1 := by kernel_rfl
theorem fo93_2 : fldOff Tryz.prog 93 2 = some 2 := by kernel_rfl
theorem fo93_3 : fldOff Tryz.prog 93 3 = some 3 := by kernel_rfl
theorem ze40 : zeroTy Tryz.prog 40 = some [.int .i64 0, .int .i64 0, .int .i64 0, .int .i64 0, .slice none 0 0, .slice none 0 0, .int .i64 0, .int .i64 0, .bool false, .int .i64 0, .int .i64 0, .int .i64 0, .int .i64 0] := by kernel_rfl
theorem sp40 : structPl Tryz.prog 40 = some [(0, 1), (1, 1), (2, 1), (3, 1), (4, 1), (5, 1), (6, 1), (7, 1), (8, 1), (9, 1), (10, 1), (11, 1), (12, 1)] := by kernel_rfl
theorem sp252 : structPl Tryz.prog 252 = some [(0, 1), (1, 1)] := by kernel_rfl
theorem ze252 : zeroTy Tryz.prog 252 = some [.pointer none, .bool false] := by kernel_rfl
theorem sz38 : szTy Tryz.prog 38 = some 1 := by kernel_rfl
structure HeadHead where
  Length : Int
  Type_ : Int
  Flags : Int
  Stream : Int
  Res : Bool
def kHeadHead : Kd HeadHead := Kd.iso (Kd.pair (Kd.int .i64) (Kd.pair (Kd.int .i64) (Kd.pair (Kd.int .i64) (Kd.pair (Kd.int .i64) Kd.bool)))) (fun x => (x.Length, (x.Type_, (x.Flags, (x.Stream, x.Res)))))
theorem unHeadHead {x : HeadHead} {cs : List Value} : ∀ w R F, (kd kHeadHead x cs).h w R F → (cs = [.int .i64 x.Length, .int .i64 x.Type_, .int .i64 x.Flags, .int .i64 x.Stream, .bool x.Res] ∧ inK .i64 x.Length ∧ inK .i64 x.Type_ ∧ inK .i64 x.Flags ∧ inK .i64 x.Stream) ∧ Star [] w R F := by
  intro w R F h
  simp only [kd, kHeadHead, Kd.iso, Kd.pair, Kd.int, Kd.bool, Kd.str, Kd.sl] at h
  obtain ⟨_, _, rfl, ⟨rfl, h0⟩, ⟨_, _, rfl, ⟨rfl, h1⟩, ⟨_, _, rfl, ⟨rfl, h2⟩, ⟨_, _, rfl, ⟨rfl, h3⟩, rfl⟩⟩⟩⟩ := h
  exact ⟨⟨rfl, h0, h1, h2, h3⟩, trivial⟩
theorem mkHeadHead {x : HeadHead} {w : World} {R : Foot}  (h0 : inK .i64 x.Length) (h1 : inK .i64 x.Type_) (h2 : inK .i64 x.Flags) (h3 : inK .i64 x.Stream) : kHeadHead.rel w R x [.int .i64 x.Length, .int .i64 x.Type_, .int .i64 x.Flags, .int .i64 x.Stream, .bool x.Res] := by
  simp only [kHeadHead, Kd.iso, Kd.pair, Kd.int, Kd.bool, Kd.str, Kd.sl]
  exact ⟨_, _, rfl, ⟨rfl, h0⟩, ⟨_, _, rfl, ⟨rfl, h1⟩, ⟨_, _, rfl, ⟨rfl, h2⟩, ⟨_, _, rfl, ⟨rfl, h3⟩, rfl⟩⟩⟩⟩
theorem f_rw_le {xs : List Int} {k : Nat} {sh : Bool} {f : ApiFrame} (h : k ≤ xs.length) : (f_rw xs k sh f).2.2 ≤ xs.length := by
  unfold f_rw; exact f_rn1_le (f_rlow_le h)
theorem f_rns_le {xs : List Int} {k : Nat} {sh : Bool} {f : ApiFrame} (h : k ≤ xs.length) : (f_rns xs k sh f).2.2 ≤ xs.length := by
  unfold f_rns
  repeat' split
  all_goals first | exact h | exact f_rw_le h | exact f_rn4_le h | exact f_rlow_le h | exact f_rn4_le (f_rlow_le h)
theorem f_sets_len (b : List Int) : ∀ (m k : Nat) (out : List ApiSetting), (f_sets b m k out).length ≤ out.length + m
  | 0, _, _ => Nat.le_refl _
  | m + 1, k, out => by
    rw [f_sets]
    split
    · have := f_sets_len b m (f_num4 b (f_num2 b k).2.2).2.2 (out ++ [⟨(f_num2 b k).1, (f_num4 b (f_num2 b k).2.2).1⟩])
      simp at this
      omega
    · omega
theorem f_setsOf_big {xs : List Int} (h : xs.length ≤ 2000000000) : (f_setsOf xs).1.length ≤ 1099511627776 := by
  unfold f_setsOf
  have := f_sets_len xs (xs.length + 1) 0 []
  split
  · simp at this; dsimp only; omega
  · simp
def f_headOf (r : ApiRaw) : HeadHead := (⟨((r.Body.length : Nat) : Int), r.Type_, r.Flags, r.Stream, r.Res⟩ : HeadHead)
def f_headRight (h : HeadHead) : Bool := if (f_head_within h.Length 16777215) = true then if (f_head_within h.Type_ 255) = true then if (f_head_within h.Flags 255) = true then (f_head_within h.Stream 2147483647) else false else false else false
def f_streamed (r : ApiRaw) : Bool := if (f_kinds_Streams r.Type_) = 0 then (r.Stream == 0) else if (f_kinds_Streams r.Type_) = 1 then (r.Stream != 0) else true
def f_sized (r : ApiRaw) : Bool := if r.Type_ = 2 then (((r.Body.length : Nat) : Int) == 5) else if r.Type_ = 3 then (((r.Body.length : Nat) : Int) == 4) else if r.Type_ = 8 then (((r.Body.length : Nat) : Int) == 4) else if r.Type_ = 6 then (((r.Body.length : Nat) : Int) == 8) else if r.Type_ = 7 then (decide (((r.Body.length : Nat) : Int) ≥ 8)) else if r.Type_ = 4 then if (f_kinds_Has r.Type_ r.Flags 1) = true then (((r.Body.length : Nat) : Int) == 0) else ((((r.Body.length : Nat) : Int) % 6) == 0) else true
def f_inside (r : ApiRaw) : ApiFrame × ApiFault := if (f_kinds_Has r.Type_ r.Flags 8) = true then if ((f_rns r.Body ((f_rn1 r.Body 0 false).2.2) ((f_rn1 r.Body 0 false).2.1) (⟨r.Type_, r.Flags, r.Stream, (f_rn1 r.Body 0 false).1, [], [], 0, 0, false, 0, 0, 0, 0⟩ : ApiFrame)).2.1) = true then ((⟨0, 0, 0, 0, [], [], 0, 0, false, 0, 0, 0, 0⟩ : ApiFrame), (f_frame_fault (f_frame_scope r.Type_) 6)) else if (((f_rns r.Body ((f_rn1 r.Body 0 false).2.2) ((f_rn1 r.Body 0 false).2.1) (⟨r.Type_, r.Flags, r.Stream, (f_rn1 r.Body 0 false).1, [], [], 0, 0, false, 0, 0, 0, 0⟩ : ApiFrame)).1).Pad) > (((r.Body.drop ((f_rns r.Body ((f_rn1 r.Body 0 false).2.2) ((f_rn1 r.Body 0 false).2.1) (⟨r.Type_, r.Flags, r.Stream, (f_rn1 r.Body 0 false).1, [], [], 0, 0, false, 0, 0, 0, 0⟩ : ApiFrame)).2.2)).length : Nat) : Int) then ((⟨0, 0, 0, 0, [], [], 0, 0, false, 0, 0, 0, 0⟩ : ApiFrame), (f_frame_fault 2 1)) else if r.Type_ = 4 then ((⟨(((f_rns r.Body ((f_rn1 r.Body 0 false).2.2) ((f_rn1 r.Body 0 false).2.1) (⟨r.Type_, r.Flags, r.Stream, (f_rn1 r.Body 0 false).1, [], [], 0, 0, false, 0, 0, 0, 0⟩ : ApiFrame)).1).Type_), (((f_rns r.Body ((f_rn1 r.Body 0 false).2.2) ((f_rn1 r.Body 0 false).2.1) (⟨r.Type_, r.Flags, r.Stream, (f_rn1 r.Body 0 false).1, [], [], 0, 0, false, 0, 0, 0, 0⟩ : ApiFrame)).1).Flags), (((f_rns r.Body ((f_rn1 r.Body 0 false).2.2) ((f_rn1 r.Body 0 false).2.1) (⟨r.Type_, r.Flags, r.Stream, (f_rn1 r.Body 0 false).1, [], [], 0, 0, false, 0, 0, 0, 0⟩ : ApiFrame)).1).Stream), (((f_rns r.Body ((f_rn1 r.Body 0 false).2.2) ((f_rn1 r.Body 0 false).2.1) (⟨r.Type_, r.Flags, r.Stream, (f_rn1 r.Body 0 false).1, [], [], 0, 0, false, 0, 0, 0, 0⟩ : ApiFrame)).1).Pad), [], (f_setsOf r.Body).1, (((f_rns r.Body ((f_rn1 r.Body 0 false).2.2) ((f_rn1 r.Body 0 false).2.1) (⟨r.Type_, r.Flags, r.Stream, (f_rn1 r.Body 0 false).1, [], [], 0, 0, false, 0, 0, 0, 0⟩ : ApiFrame)).1).Weight), (((f_rns r.Body ((f_rn1 r.Body 0 false).2.2) ((f_rn1 r.Body 0 false).2.1) (⟨r.Type_, r.Flags, r.Stream, (f_rn1 r.Body 0 false).1, [], [], 0, 0, false, 0, 0, 0, 0⟩ : ApiFrame)).1).Parent), (((f_rns r.Body ((f_rn1 r.Body 0 false).2.2) ((f_rn1 r.Body 0 false).2.1) (⟨r.Type_, r.Flags, r.Stream, (f_rn1 r.Body 0 false).1, [], [], 0, 0, false, 0, 0, 0, 0⟩ : ApiFrame)).1).Alone), (((f_rns r.Body ((f_rn1 r.Body 0 false).2.2) ((f_rn1 r.Body 0 false).2.1) (⟨r.Type_, r.Flags, r.Stream, (f_rn1 r.Body 0 false).1, [], [], 0, 0, false, 0, 0, 0, 0⟩ : ApiFrame)).1).Promised), (((f_rns r.Body ((f_rn1 r.Body 0 false).2.2) ((f_rn1 r.Body 0 false).2.1) (⟨r.Type_, r.Flags, r.Stream, (f_rn1 r.Body 0 false).1, [], [], 0, 0, false, 0, 0, 0, 0⟩ : ApiFrame)).1).Last), (((f_rns r.Body ((f_rn1 r.Body 0 false).2.2) ((f_rn1 r.Body 0 false).2.1) (⟨r.Type_, r.Flags, r.Stream, (f_rn1 r.Body 0 false).1, [], [], 0, 0, false, 0, 0, 0, 0⟩ : ApiFrame)).1).Code), (((f_rns r.Body ((f_rn1 r.Body 0 false).2.2) ((f_rn1 r.Body 0 false).2.1) (⟨r.Type_, r.Flags, r.Stream, (f_rn1 r.Body 0 false).1, [], [], 0, 0, false, 0, 0, 0, 0⟩ : ApiFrame)).1).Step)⟩ : ApiFrame), (⟨0, 0⟩ : ApiFault)) else ((⟨(((f_rns r.Body ((f_rn1 r.Body 0 false).2.2) ((f_rn1 r.Body 0 false).2.1) (⟨r.Type_, r.Flags, r.Stream, (f_rn1 r.Body 0 false).1, [], [], 0, 0, false, 0, 0, 0, 0⟩ : ApiFrame)).1).Type_), (((f_rns r.Body ((f_rn1 r.Body 0 false).2.2) ((f_rn1 r.Body 0 false).2.1) (⟨r.Type_, r.Flags, r.Stream, (f_rn1 r.Body 0 false).1, [], [], 0, 0, false, 0, 0, 0, 0⟩ : ApiFrame)).1).Flags), (((f_rns r.Body ((f_rn1 r.Body 0 false).2.2) ((f_rn1 r.Body 0 false).2.1) (⟨r.Type_, r.Flags, r.Stream, (f_rn1 r.Body 0 false).1, [], [], 0, 0, false, 0, 0, 0, 0⟩ : ApiFrame)).1).Stream), (((f_rns r.Body ((f_rn1 r.Body 0 false).2.2) ((f_rn1 r.Body 0 false).2.1) (⟨r.Type_, r.Flags, r.Stream, (f_rn1 r.Body 0 false).1, [], [], 0, 0, false, 0, 0, 0, 0⟩ : ApiFrame)).1).Pad), ((f_bytes r.Body ((f_rns r.Body ((f_rn1 r.Body 0 false).2.2) ((f_rn1 r.Body 0 false).2.1) (⟨r.Type_, r.Flags, r.Stream, (f_rn1 r.Body 0 false).1, [], [], 0, 0, false, 0, 0, 0, 0⟩ : ApiFrame)).2.2) (IntKind.i64.wrap ((((r.Body.drop ((f_rns r.Body ((f_rn1 r.Body 0 false).2.2) ((f_rn1 r.Body 0 false).2.1) (⟨r.Type_, r.Flags, r.Stream, (f_rn1 r.Body 0 false).1, [], [], 0, 0, false, 0, 0, 0, 0⟩ : ApiFrame)).2.2)).length : Nat) : Int) - (max (((f_rns r.Body ((f_rn1 r.Body 0 false).2.2) ((f_rn1 r.Body 0 false).2.1) (⟨r.Type_, r.Flags, r.Stream, (f_rn1 r.Body 0 false).1, [], [], 0, 0, false, 0, 0, 0, 0⟩ : ApiFrame)).1).Pad) 0)))).1), [], (((f_rns r.Body ((f_rn1 r.Body 0 false).2.2) ((f_rn1 r.Body 0 false).2.1) (⟨r.Type_, r.Flags, r.Stream, (f_rn1 r.Body 0 false).1, [], [], 0, 0, false, 0, 0, 0, 0⟩ : ApiFrame)).1).Weight), (((f_rns r.Body ((f_rn1 r.Body 0 false).2.2) ((f_rn1 r.Body 0 false).2.1) (⟨r.Type_, r.Flags, r.Stream, (f_rn1 r.Body 0 false).1, [], [], 0, 0, false, 0, 0, 0, 0⟩ : ApiFrame)).1).Parent), (((f_rns r.Body ((f_rn1 r.Body 0 false).2.2) ((f_rn1 r.Body 0 false).2.1) (⟨r.Type_, r.Flags, r.Stream, (f_rn1 r.Body 0 false).1, [], [], 0, 0, false, 0, 0, 0, 0⟩ : ApiFrame)).1).Alone), (((f_rns r.Body ((f_rn1 r.Body 0 false).2.2) ((f_rn1 r.Body 0 false).2.1) (⟨r.Type_, r.Flags, r.Stream, (f_rn1 r.Body 0 false).1, [], [], 0, 0, false, 0, 0, 0, 0⟩ : ApiFrame)).1).Promised), (((f_rns r.Body ((f_rn1 r.Body 0 false).2.2) ((f_rn1 r.Body 0 false).2.1) (⟨r.Type_, r.Flags, r.Stream, (f_rn1 r.Body 0 false).1, [], [], 0, 0, false, 0, 0, 0, 0⟩ : ApiFrame)).1).Last), (((f_rns r.Body ((f_rn1 r.Body 0 false).2.2) ((f_rn1 r.Body 0 false).2.1) (⟨r.Type_, r.Flags, r.Stream, (f_rn1 r.Body 0 false).1, [], [], 0, 0, false, 0, 0, 0, 0⟩ : ApiFrame)).1).Code), (((f_rns r.Body ((f_rn1 r.Body 0 false).2.2) ((f_rn1 r.Body 0 false).2.1) (⟨r.Type_, r.Flags, r.Stream, (f_rn1 r.Body 0 false).1, [], [], 0, 0, false, 0, 0, 0, 0⟩ : ApiFrame)).1).Step)⟩ : ApiFrame), (⟨0, 0⟩ : ApiFault)) else if ((f_rns r.Body 0 false (⟨r.Type_, r.Flags, r.Stream, -1, [], [], 0, 0, false, 0, 0, 0, 0⟩ : ApiFrame)).2.1) = true then ((⟨0, 0, 0, 0, [], [], 0, 0, false, 0, 0, 0, 0⟩ : ApiFrame), (f_frame_fault (f_frame_scope r.Type_) 6)) else if (((f_rns r.Body 0 false (⟨r.Type_, r.Flags, r.Stream, -1, [], [], 0, 0, false, 0, 0, 0, 0⟩ : ApiFrame)).1).Pad) > (((r.Body.drop ((f_rns r.Body 0 false (⟨r.Type_, r.Flags, r.Stream, -1, [], [], 0, 0, false, 0, 0, 0, 0⟩ : ApiFrame)).2.2)).length : Nat) : Int) then ((⟨0, 0, 0, 0, [], [], 0, 0, false, 0, 0, 0, 0⟩ : ApiFrame), (f_frame_fault 2 1)) else if r.Type_ = 4 then ((⟨(((f_rns r.Body 0 false (⟨r.Type_, r.Flags, r.Stream, -1, [], [], 0, 0, false, 0, 0, 0, 0⟩ : ApiFrame)).1).Type_), (((f_rns r.Body 0 false (⟨r.Type_, r.Flags, r.Stream, -1, [], [], 0, 0, false, 0, 0, 0, 0⟩ : ApiFrame)).1).Flags), (((f_rns r.Body 0 false (⟨r.Type_, r.Flags, r.Stream, -1, [], [], 0, 0, false, 0, 0, 0, 0⟩ : ApiFrame)).1).Stream), (((f_rns r.Body 0 false (⟨r.Type_, r.Flags, r.Stream, -1, [], [], 0, 0, false, 0, 0, 0, 0⟩ : ApiFrame)).1).Pad), [], (f_setsOf r.Body).1, (((f_rns r.Body 0 false (⟨r.Type_, r.Flags, r.Stream, -1, [], [], 0, 0, false, 0, 0, 0, 0⟩ : ApiFrame)).1).Weight), (((f_rns r.Body 0 false (⟨r.Type_, r.Flags, r.Stream, -1, [], [], 0, 0, false, 0, 0, 0, 0⟩ : ApiFrame)).1).Parent), (((f_rns r.Body 0 false (⟨r.Type_, r.Flags, r.Stream, -1, [], [], 0, 0, false, 0, 0, 0, 0⟩ : ApiFrame)).1).Alone), (((f_rns r.Body 0 false (⟨r.Type_, r.Flags, r.Stream, -1, [], [], 0, 0, false, 0, 0, 0, 0⟩ : ApiFrame)).1).Promised), (((f_rns r.Body 0 false (⟨r.Type_, r.Flags, r.Stream, -1, [], [], 0, 0, false, 0, 0, 0, 0⟩ : ApiFrame)).1).Last), (((f_rns r.Body 0 false (⟨r.Type_, r.Flags, r.Stream, -1, [], [], 0, 0, false, 0, 0, 0, 0⟩ : ApiFrame)).1).Code), (((f_rns r.Body 0 false (⟨r.Type_, r.Flags, r.Stream, -1, [], [], 0, 0, false, 0, 0, 0, 0⟩ : ApiFrame)).1).Step)⟩ : ApiFrame), (⟨0, 0⟩ : ApiFault)) else ((⟨(((f_rns r.Body 0 false (⟨r.Type_, r.Flags, r.Stream, -1, [], [], 0, 0, false, 0, 0, 0, 0⟩ : ApiFrame)).1).Type_), (((f_rns r.Body 0 false (⟨r.Type_, r.Flags, r.Stream, -1, [], [], 0, 0, false, 0, 0, 0, 0⟩ : ApiFrame)).1).Flags), (((f_rns r.Body 0 false (⟨r.Type_, r.Flags, r.Stream, -1, [], [], 0, 0, false, 0, 0, 0, 0⟩ : ApiFrame)).1).Stream), (((f_rns r.Body 0 false (⟨r.Type_, r.Flags, r.Stream, -1, [], [], 0, 0, false, 0, 0, 0, 0⟩ : ApiFrame)).1).Pad), ((f_bytes r.Body ((f_rns r.Body 0 false (⟨r.Type_, r.Flags, r.Stream, -1, [], [], 0, 0, false, 0, 0, 0, 0⟩ : ApiFrame)).2.2) (IntKind.i64.wrap ((((r.Body.drop ((f_rns r.Body 0 false (⟨r.Type_, r.Flags, r.Stream, -1, [], [], 0, 0, false, 0, 0, 0, 0⟩ : ApiFrame)).2.2)).length : Nat) : Int) - (max (((f_rns r.Body 0 false (⟨r.Type_, r.Flags, r.Stream, -1, [], [], 0, 0, false, 0, 0, 0, 0⟩ : ApiFrame)).1).Pad) 0)))).1), [], (((f_rns r.Body 0 false (⟨r.Type_, r.Flags, r.Stream, -1, [], [], 0, 0, false, 0, 0, 0, 0⟩ : ApiFrame)).1).Weight), (((f_rns r.Body 0 false (⟨r.Type_, r.Flags, r.Stream, -1, [], [], 0, 0, false, 0, 0, 0, 0⟩ : ApiFrame)).1).Parent), (((f_rns r.Body 0 false (⟨r.Type_, r.Flags, r.Stream, -1, [], [], 0, 0, false, 0, 0, 0, 0⟩ : ApiFrame)).1).Alone), (((f_rns r.Body 0 false (⟨r.Type_, r.Flags, r.Stream, -1, [], [], 0, 0, false, 0, 0, 0, 0⟩ : ApiFrame)).1).Promised), (((f_rns r.Body 0 false (⟨r.Type_, r.Flags, r.Stream, -1, [], [], 0, 0, false, 0, 0, 0, 0⟩ : ApiFrame)).1).Last), (((f_rns r.Body 0 false (⟨r.Type_, r.Flags, r.Stream, -1, [], [], 0, 0, false, 0, 0, 0, 0⟩ : ApiFrame)).1).Code), (((f_rns r.Body 0 false (⟨r.Type_, r.Flags, r.Stream, -1, [], [], 0, 0, false, 0, 0, 0, 0⟩ : ApiFrame)).1).Step)⟩ : ApiFrame), (⟨0, 0⟩ : ApiFault))
theorem s_headOf (r : ApiRaw) (Ar5 : Option Addr) (cr5 : Nat) :
    Spec Tryz.prog 25 [.agg #[.int .i64 r.From, .int .i64 r.Type_, .int .i64 r.Flags, .int .i64 r.Stream, .bool r.Res, .slice Ar5 r.Body.length cr5]].toArray [rd (Kd.int .u8) Ar5 cr5 r.Body] (fun v L => v = .agg #[.int .i64 ((f_headOf r).Length), .int .i64 ((f_headOf r).Type_), .int .i64 ((f_headOf r).Flags), .int .i64 ((f_headOf r).Stream), .bool ((f_headOf r).Res)] ∧ L = [rd (Kd.int .u8) Ar5 cr5 r.Body]) := by
  refine Spec.enter Tryz.func25 rfl Tryz.ntmps25 rfl rfl (fun w0 R0 F0 => ?_)
  refine J.seq ?_
  refine J.region ?_
  refine JL.ef (O1.box rfl rfl) rfl ?_
  rintro _ _ ⟨b_1, rfl, rfl⟩
  refine JL.ef (O1.alloc ze93) rfl ?_
  rintro _ _ ⟨b_2, rfl, rfl⟩
  refine JL.nil ?_
  refine JN.code ?_
  refine J.seq ?_
  refine J.region ?_
  refine JL.qt (Qt.fa (o' := 5) fo45_5 rfl rfl) rfl ?_
  refine JL.qt (Qt.ld 1 pl37 rfl rfl rfl) rfl ?_
  refine JL.qt (Qt.bi (fun _ _ => len_slice_run Tryz.underlying37) rfl) rfl ?_
  refine JL.qt (Qt.fa (o' := 1) fo45_1 rfl rfl) rfl ?_
  refine JL.qt (Qt.ld 1 pl3 rfl rfl rfl) rfl ?_
  refine JL.qt (Qt.fa (o' := 2) fo45_2 rfl rfl) rfl ?_
  refine JL.qt (Qt.ld 1 pl3 rfl rfl rfl) rfl ?_
  refine JL.qt (Qt.fa (o' := 3) fo45_3 rfl rfl) rfl ?_
  refine JL.qt (Qt.ld 1 pl3 rfl rfl rfl) rfl ?_
  refine JL.qt (Qt.fa (o' := 4) fo45_4 rfl rfl) rfl ?_
  refine JL.qt (Qt.ld 1 pl4 rfl rfl rfl) rfl ?_
  refine JL.qt (Qt.build sp93 ze93 rfl rfl) rfl ?_
  refine JL.sk (O1.stA 0 sz93 rfl rfl rfl rfl rfl rfl rfl rfl) ?_
  refine JL.nil ?_
  refine JN.code ?_
  refine J.ret ?_
  refine JN.backR (rs := [.cell 2 93]) (vs := [.agg #[.int .i64 ((r.Body.length : Nat) : Int), .int .i64 r.Type_, .int .i64 r.Flags, .int .i64 r.Stream, .bool r.Res]]) rfl ?_ [2] rfl ?_
  · exact .cell (x := 2) (t := 93) (b := b_2) (o := 0) rfl (Qt.ldA (cs := [.int .i64 ((r.Body.length : Nat) : Int), .int .i64 r.Type_, .int .i64 r.Flags, .int .i64 r.Stream, .bool r.Res]) 0 ag93 sz93 rfl rfl rfl rfl) .nil
  exact ⟨by unfold f_headOf; rfl, rfl⟩
theorem s_headRight (h : HeadHead) :
    Spec Tryz.prog 40 [.agg #[.int .i64 h.Length, .int .i64 h.Type_, .int .i64 h.Flags, .int .i64 h.Stream, .bool h.Res]].toArray [] (fun v L => v = .bool (f_headRight h) ∧ L = []) := by
  refine Spec.enter Tryz.func40 rfl Tryz.ntmps40 rfl rfl (fun w0 R0 F0 => ?_)
  refine J.seq ?_
  refine J.region ?_
  refine JL.ef (O1.box rfl rfl) rfl ?_
  rintro _ _ ⟨b_1, rfl, rfl⟩
  refine JL.qt (Qt.assign rfl) rfl ?_
  refine JL.nil ?_
  refine JN.code ?_
  refine J.seq ?_
  refine J.region ?_
  refine JL.qt (Qt.fa (o' := 0) fo93_0 rfl rfl) rfl ?_
  refine JL.qt (Qt.ld 0 pl3 rfl rfl rfl) rfl ?_
  refine JL.call (O1.call Tryz.func66 rfl rfl rfl [] rfl (s_head_within h.Length 16777215)) rfl ?_
  rintro _ _ ⟨rfl, rfl⟩
  refine JL.qt (Qt.move rfl) rfl ?_
  refine JL.cases (t := 6) rfl (fun h1 => ?_) (fun h1 => ?_)
  · refine JL.g_in rfl rfl ?_
    refine JL.qt (Qt.fa (o' := 1) fo93_1 rfl rfl) rfl ?_
    refine JL.g_in rfl rfl ?_
    refine JL.qt (Qt.ld 0 pl3 rfl rfl rfl) rfl ?_
    refine JL.g_in rfl rfl ?_
    refine JL.call (O1.call Tryz.func66 rfl rfl rfl [] rfl (s_head_within h.Type_ 255)) rfl ?_
    rintro _ _ ⟨rfl, rfl⟩
    refine JL.qt (Qt.pick_t rfl rfl) rfl ?_
    refine JL.qt (Qt.move rfl) rfl ?_
    refine JL.cases (t := 11) rfl (fun h2 => ?_) (fun h2 => ?_)
    · refine JL.g_in rfl rfl ?_
      refine JL.qt (Qt.fa (o' := 2) fo93_2 rfl rfl) rfl ?_
      refine JL.g_in rfl rfl ?_
      refine JL.qt (Qt.ld 0 pl3 rfl rfl rfl) rfl ?_
      refine JL.g_in rfl rfl ?_
      refine JL.call (O1.call Tryz.func66 rfl rfl rfl [] rfl (s_head_within h.Flags 255)) rfl ?_
      rintro _ _ ⟨rfl, rfl⟩
      refine JL.qt (Qt.pick_t rfl rfl) rfl ?_
      refine JL.qt (Qt.move rfl) rfl ?_
      refine JL.cases (t := 16) rfl (fun h3 => ?_) (fun h3 => ?_)
      · refine JL.g_in rfl rfl ?_
        refine JL.qt (Qt.fa (o' := 3) fo93_3 rfl rfl) rfl ?_
        refine JL.g_in rfl rfl ?_
        refine JL.qt (Qt.ld 0 pl3 rfl rfl rfl) rfl ?_
        refine JL.g_in rfl rfl ?_
        refine JL.call (O1.call Tryz.func66 rfl rfl rfl [] rfl (s_head_within h.Stream 2147483647)) rfl ?_
        rintro _ _ ⟨rfl, rfl⟩
        refine JL.qt (Qt.pick_t rfl rfl) rfl ?_
        refine JL.qt (Qt.assign rfl) rfl ?_
        refine JL.nil ?_
        refine JN.code ?_
        refine J.ret ?_
        refine JN.back (res1 rfl rfl) [] rfl ?_
        exact ⟨by unfold f_headRight; rw [if_pos h1, if_pos h2, if_pos h3] <;> rfl, rfl⟩
      refine JL.g_outU rfl rfl rfl rfl ?_
      refine JL.g_outU rfl rfl rfl rfl ?_
      refine JL.g_outU rfl rfl rfl rfl ?_
      refine JL.qt (Qt.pick_f rfl rfl) rfl ?_
      refine JL.qt (Qt.assign rfl) rfl ?_
      refine JL.nil ?_
      refine JN.code ?_
      refine J.ret ?_
      refine JN.back (res1 rfl rfl) [] rfl ?_
      exact ⟨by unfold f_headRight; rw [if_pos h1, if_pos h2, if_neg (Bool.eq_false_iff.1 h3)] <;> rfl, rfl⟩
    refine JL.g_outU rfl rfl rfl rfl ?_
    refine JL.g_outU rfl rfl rfl rfl ?_
    refine JL.g_outU rfl rfl rfl rfl ?_
    refine JL.qt (Qt.pick_f rfl rfl) rfl ?_
    refine JL.qt (Qt.move rfl) rfl ?_
    refine JL.g_outU rfl rfl rfl rfl ?_
    refine JL.g_outU rfl rfl rfl rfl ?_
    refine JL.g_outU rfl rfl rfl rfl ?_
    refine JL.qt (Qt.pick_f rfl rfl) rfl ?_
    refine JL.qt (Qt.assign rfl) rfl ?_
    refine JL.nil ?_
    refine JN.code ?_
    refine J.ret ?_
    refine JN.back (res1 rfl rfl) [] rfl ?_
    exact ⟨by unfold f_headRight; rw [if_pos h1, if_neg (Bool.eq_false_iff.1 h2)] <;> rfl, rfl⟩
  refine JL.g_outU rfl rfl rfl rfl ?_
  refine JL.g_outU rfl rfl rfl rfl ?_
  refine JL.g_outU rfl rfl rfl rfl ?_
  refine JL.qt (Qt.pick_f rfl rfl) rfl ?_
  refine JL.qt (Qt.move rfl) rfl ?_
  refine JL.g_outU rfl rfl rfl rfl ?_
  refine JL.g_outU rfl rfl rfl rfl ?_
  refine JL.g_outU rfl rfl rfl rfl ?_
  refine JL.qt (Qt.pick_f rfl rfl) rfl ?_
  refine JL.qt (Qt.move rfl) rfl ?_
  refine JL.g_outU rfl rfl rfl rfl ?_
  refine JL.g_outU rfl rfl rfl rfl ?_
  refine JL.g_outU rfl rfl rfl rfl ?_
  refine JL.qt (Qt.pick_f rfl rfl) rfl ?_
  refine JL.qt (Qt.assign rfl) rfl ?_
  refine JL.nil ?_
  refine JN.code ?_
  refine J.ret ?_
  refine JN.back (res1 rfl rfl) [] rfl ?_
  exact ⟨by unfold f_headRight; rw [if_neg (Bool.eq_false_iff.1 h1)] <;> rfl, rfl⟩
theorem s_streamed (r : ApiRaw) (Ar5 : Option Addr) (cr5 : Nat) :
    Spec Tryz.prog 88 [.agg #[.int .i64 r.From, .int .i64 r.Type_, .int .i64 r.Flags, .int .i64 r.Stream, .bool r.Res, .slice Ar5 r.Body.length cr5]].toArray [rd (Kd.int .u8) Ar5 cr5 r.Body] (fun v L => v = .bool (f_streamed r) ∧ L = [rd (Kd.int .u8) Ar5 cr5 r.Body]) := by
  refine Spec.enter Tryz.func88 rfl Tryz.ntmps88 rfl rfl (fun w0 R0 F0 => ?_)
  refine J.seq ?_
  refine J.region ?_
  refine JL.ef (O1.box rfl rfl) rfl ?_
  rintro _ _ ⟨b_1, rfl, rfl⟩
  refine JL.qt (Qt.assign rfl) rfl ?_
  refine JL.nil ?_
  refine JN.code ?_
  refine J.seq ?_
  refine J.seq ?_
  refine J.region ?_
  refine JL.qt (Qt.fa (o' := 1) fo45_1 rfl rfl) rfl ?_
  refine JL.qt (Qt.ld 0 pl3 rfl rfl rfl) rfl ?_
  refine JL.call (O1.call Tryz.func129 rfl rfl rfl [] rfl (s_kinds_Streams r.Type_)) rfl ?_
  rintro _ _ ⟨rfl, rfl⟩
  refine JL.nil ?_
  refine JN.code ?_
  refine J.block ?_
  refine J.seq ?_
  refine J.region ?_
  refine JL.qt (Qt.bin (fun _ => eql_run) rfl rfl rfl) rfl ?_
  refine JL.qt (Qt.assign rfl) rfl ?_
  refine JL.nil ?_
  refine JN.code ?_
  refine J.cond_eq rfl (fun h1 => ?_) (fun h1 => ?_)
  · refine J.seq ?_
    refine J.region ?_
    refine JL.qt (Qt.fa (o' := 3) fo45_3 rfl rfl) rfl ?_
    refine JL.qt (Qt.ld 0 pl3 rfl rfl rfl) rfl ?_
    refine JL.qt (Qt.bin (fun _ => eql_run) rfl rfl rfl) rfl ?_
    refine JL.qt (Qt.assign rfl) rfl ?_
    refine JL.nil ?_
    refine JN.code ?_
    refine J.ret ?_
    refine JN.back (res1 rfl rfl) [1] rfl ?_
    exact ⟨by unfold f_streamed; rw [if_pos h1] <;> rfl, rfl⟩
  refine J.seq ?_
  refine J.region ?_
  refine JL.qt (Qt.bin (fun _ => eql_run) rfl rfl rfl) rfl ?_
  refine JL.qt (Qt.assign rfl) rfl ?_
  refine JL.nil ?_
  refine JN.code ?_
  refine J.cond_eq rfl (fun h2 => ?_) (fun h2 => ?_)
  · refine J.seq ?_
    refine J.region ?_
    refine JL.qt (Qt.fa (o' := 3) fo45_3 rfl rfl) rfl ?_
    refine JL.qt (Qt.ld 0 pl3 rfl rfl rfl) rfl ?_
    refine JL.qt (Qt.bin (fun _ => neq_run) rfl rfl rfl) rfl ?_
    refine JL.qt (Qt.assign rfl) rfl ?_
    refine JL.nil ?_
    refine JN.code ?_
    refine J.ret ?_
    refine JN.back (res1 rfl rfl) [1] rfl ?_
    exact ⟨by unfold f_streamed; rw [if_neg h1, if_pos h2] <;> rfl, rfl⟩
  refine J.skip ?_
  refine JN.code ?_
  refine J.seq ?_
  refine J.region ?_
  refine JL.qt (Qt.assign rfl) rfl ?_
  refine JL.nil ?_
  refine JN.code ?_
  refine J.ret ?_
  refine JN.back (res1 rfl rfl) [1] rfl ?_
  exact ⟨by unfold f_streamed; rw [if_neg h1, if_neg h2] <;> rfl, rfl⟩
theorem s_sized (r : ApiRaw) (Ar5 : Option Addr) (cr5 : Nat) :
    Spec Tryz.prog 90 [.agg #[.int .i64 r.From, .int .i64 r.Type_, .int .i64 r.Flags, .int .i64 r.Stream, .bool r.Res, .slice Ar5 r.Body.length cr5]].toArray [rd (Kd.int .u8) Ar5 cr5 r.Body] (fun v L => v = .bool (f_sized r) ∧ L = [rd (Kd.int .u8) Ar5 cr5 r.Body]) := by
  refine Spec.enter Tryz.func90 rfl Tryz.ntmps90 rfl rfl (fun w0 R0 F0 => ?_)
  refine J.seq ?_
  refine J.region ?_
  refine JL.ef (O1.box rfl rfl) rfl ?_
  rintro _ _ ⟨b_1, rfl, rfl⟩
  refine JL.qt (Qt.assign rfl) rfl ?_
  refine JL.nil ?_
  refine JN.code ?_
  refine J.seq ?_
  refine J.region ?_
  refine JL.qt (Qt.fa (o' := 5) fo45_5 rfl rfl) rfl ?_
  refine JL.qt (Qt.ld 0 pl37 rfl rfl rfl) rfl ?_
  refine JL.qt (Qt.bi (fun _ _ => len_slice_run Tryz.underlying37) rfl) rfl ?_
  refine JL.qt (Qt.assign rfl) rfl ?_
  refine JL.nil ?_
  refine JN.code ?_
  refine J.seq ?_
  refine J.seq ?_
  refine J.region ?_
  refine JL.qt (Qt.fa (o' := 1) fo45_1 rfl rfl) rfl ?_
  refine JL.qt (Qt.ld 0 pl3 rfl rfl rfl) rfl ?_
  refine JL.nil ?_
  refine JN.code ?_
  refine J.block ?_
  refine J.seq ?_
  refine J.region ?_
  refine JL.qt (Qt.bin (fun _ => eql_run) rfl rfl rfl) rfl ?_
  refine JL.qt (Qt.assign rfl) rfl ?_
  refine JL.nil ?_
  refine JN.code ?_
  refine J.cond_eq rfl (fun h1 => ?_) (fun h1 => ?_)
  · refine J.seq ?_
    refine J.region ?_
    refine JL.qt (Qt.move rfl) rfl ?_
    refine JL.qt (Qt.bin (fun _ => eql_run) rfl rfl rfl) rfl ?_
    refine JL.qt (Qt.assign rfl) rfl ?_
    refine JL.nil ?_
    refine JN.code ?_
    refine J.ret ?_
    refine JN.back (res1 rfl rfl) [1] rfl ?_
    exact ⟨by unfold f_sized; rw [if_pos h1] <;> rfl, rfl⟩
  refine J.seq ?_
  refine J.seq ?_
  refine J.region ?_
  refine JL.qt (Qt.bin (fun _ => eql_run) rfl rfl rfl) rfl ?_
  refine JL.qt (Qt.assign rfl) rfl ?_
  refine JL.nil ?_
  refine JN.code ?_
  refine J.cond_eq rfl (fun h2 => ?_) (fun h2 => ?_)
  · refine J.skip ?_
    refine JN.code ?_
    refine J.cond_eq rfl (fun h => ?_) (fun h => absurd h2 h)
    refine J.seq ?_
    refine J.region ?_
    refine JL.qt (Qt.move rfl) rfl ?_
    refine JL.qt (Qt.bin (fun _ => eql_run) rfl rfl rfl) rfl ?_
    refine JL.qt (Qt.assign rfl) rfl ?_
    refine JL.nil ?_
    refine JN.code ?_
    refine J.ret ?_
    refine JN.back (res1 rfl rfl) [1] rfl ?_
    exact ⟨by unfold f_sized; rw [if_neg h1, if_pos h2] <;> rfl, rfl⟩
  refine J.region ?_
  refine JL.qt (Qt.bin (fun _ => eql_run) rfl rfl rfl) rfl ?_
  refine JL.qt (Qt.assign rfl) rfl ?_
  refine JL.nil ?_
  refine JN.code ?_
  refine J.cond_eq rfl (fun h3 => ?_) (fun h3 => ?_)
  · refine J.seq ?_
    refine J.region ?_
    refine JL.qt (Qt.move rfl) rfl ?_
    refine JL.qt (Qt.bin (fun _ => eql_run) rfl rfl rfl) rfl ?_
    refine JL.qt (Qt.assign rfl) rfl ?_
    refine JL.nil ?_
    refine JN.code ?_
    refine J.ret ?_
    refine JN.back (res1 rfl rfl) [1] rfl ?_
    exact ⟨by unfold f_sized; rw [if_neg h1, if_neg h2, if_pos h3] <;> rfl, rfl⟩
  refine J.seq ?_
  refine J.region ?_
  refine JL.qt (Qt.bin (fun _ => eql_run) rfl rfl rfl) rfl ?_
  refine JL.qt (Qt.assign rfl) rfl ?_
  refine JL.nil ?_
  refine JN.code ?_
  refine J.cond_eq rfl (fun h4 => ?_) (fun h4 => ?_)
  · refine J.seq ?_
    refine J.region ?_
    refine JL.qt (Qt.move rfl) rfl ?_
    refine JL.qt (Qt.bin (fun _ => eql_run) rfl rfl rfl) rfl ?_
    refine JL.qt (Qt.assign rfl) rfl ?_
    refine JL.nil ?_
    refine JN.code ?_
    refine J.ret ?_
    refine JN.back (res1 rfl rfl) [1] rfl ?_
    exact ⟨by unfold f_sized; rw [if_neg h1, if_neg h2, if_neg h3, if_pos h4] <;> rfl, rfl⟩
  refine J.seq ?_
  refine J.region ?_
  refine JL.qt (Qt.bin (fun _ => eql_run) rfl rfl rfl) rfl ?_
  refine JL.qt (Qt.assign rfl) rfl ?_
  refine JL.nil ?_
  refine JN.code ?_
  refine J.cond_eq rfl (fun h5 => ?_) (fun h5 => ?_)
  · refine J.seq ?_
    refine J.region ?_
    refine JL.qt (Qt.move rfl) rfl ?_
    refine JL.qt (Qt.bin (fun _ => geq_run) rfl rfl rfl) rfl ?_
    refine JL.qt (Qt.assign rfl) rfl ?_
    refine JL.nil ?_
    refine JN.code ?_
    refine J.ret ?_
    refine JN.back (res1 rfl rfl) [1] rfl ?_
    exact ⟨by unfold f_sized; rw [if_neg h1, if_neg h2, if_neg h3, if_neg h4, if_pos h5] <;> rfl, rfl⟩
  refine J.seq ?_
  refine J.region ?_
  refine JL.qt (Qt.bin (fun _ => eql_run) rfl rfl rfl) rfl ?_
  refine JL.qt (Qt.assign rfl) rfl ?_
  refine JL.nil ?_
  refine JN.code ?_
  refine J.cond_eq rfl (fun h6 => ?_) (fun h6 => ?_)
  · refine J.seq ?_
    refine J.seq ?_
    refine J.region ?_
    refine JL.qt (Qt.fa (o' := 1) fo45_1 rfl rfl) rfl ?_
    refine JL.qt (Qt.ld 0 pl3 rfl rfl rfl) rfl ?_
    refine JL.qt (Qt.fa (o' := 2) fo45_2 rfl rfl) rfl ?_
    refine JL.qt (Qt.ld 0 pl3 rfl rfl rfl) rfl ?_
    refine JL.call (O1.call Tryz.func37 rfl rfl rfl [] rfl (s_kinds_Has r.Type_ r.Flags 1)) rfl ?_
    rintro _ _ ⟨rfl, rfl⟩
    refine JL.nil ?_
    refine JN.code ?_
    refine J.cond rfl (fun h7 => ?_) (fun h7 => ?_)
    · refine J.seq ?_
      refine J.keep [2, 3] rfl ?_
      refine J.region ?_
      refine JL.qt (Qt.move rfl) rfl ?_
      refine JL.qt (Qt.bin (fun _ => eql_run) rfl rfl rfl) rfl ?_
      refine JL.qt (Qt.assign rfl) rfl ?_
      refine JL.nil ?_
      refine JN.code ?_
      refine J.ret ?_
      refine JN.back (res1 rfl rfl) [1] rfl ?_
      exact ⟨by unfold f_sized; rw [if_neg h1, if_neg h2, if_neg h3, if_neg h4, if_neg h5, if_pos h6, if_pos h7] <;> rfl, rfl⟩
    refine J.skip ?_
    refine JN.code ?_
    refine J.seq ?_
    refine J.keep [2, 3] rfl ?_
    refine J.region ?_
    refine JL.qt (Qt.move rfl) rfl ?_
    refine JL.qt (Qt.bin (fun _ => remN_run (by omega) (by omega)) rfl rfl rfl) rfl ?_
    refine JL.qt (Qt.bin (fun _ => eql_run) rfl rfl rfl) rfl ?_
    refine JL.qt (Qt.assign rfl) rfl ?_
    refine JL.nil ?_
    refine JN.code ?_
    refine J.ret ?_
    refine JN.back (res1 rfl rfl) [1] rfl ?_
    exact ⟨by unfold f_sized; rw [if_neg h1, if_neg h2, if_neg h3, if_neg h4, if_neg h5, if_pos h6, if_neg (Bool.eq_false_iff.1 h7)] <;> rfl, rfl⟩
  refine J.skip ?_
  refine JN.code ?_
  refine J.seq ?_
  refine J.region ?_
  refine JL.qt (Qt.assign rfl) rfl ?_
  refine JL.nil ?_
  refine JN.code ?_
  refine J.ret ?_
  refine JN.back (res1 rfl rfl) [1] rfl ?_
  exact ⟨by unfold f_sized; rw [if_neg h1, if_neg h2, if_neg h3, if_neg h4, if_neg h5, if_neg h6] <;> rfl, rfl⟩
theorem s_inside (r : ApiRaw) (Ar5 : Option Addr) (cr5 : Nat) (hb : r.Body.length ≤ 2000000000) :
    Spec Tryz.prog 92 [.agg #[.int .i64 r.From, .int .i64 r.Type_, .int .i64 r.Flags, .int .i64 r.Stream, .bool r.Res, .slice Ar5 r.Body.length cr5]].toArray [rd (Kd.int .u8) Ar5 cr5 r.Body] (fun v L => ∃ (A2 : Option Addr), ∃ (c2 : Nat), ∃ (A3 : Option Addr), ∃ (c3 : Nat), v = .tuple #[.agg #[.int .i64 (((f_inside r).1).Type_), .int .i64 (((f_inside r).1).Flags), .int .i64 (((f_inside r).1).Stream), .int .i64 (((f_inside r).1).Pad), .slice A2 (((f_inside r).1).Data.length) c2, .slice A3 (((f_inside r).1).Settings.length) c3, .int .i64 (((f_inside r).1).Weight), .int .i64 (((f_inside r).1).Parent), .bool (((f_inside r).1).Alone), .int .i64 (((f_inside r).1).Promised), .int .i64 (((f_inside r).1).Last), .int .i64 (((f_inside r).1).Code), .int .i64 (((f_inside r).1).Step)], .agg #[.int .i64 (((f_inside r).2).Scope), .int .i64 (((f_inside r).2).Code)]] ∧ L = [rd (Kd.int .u8) A2 c2 (((f_inside r).1).Data), rd kApiSetting A3 c3 (((f_inside r).1).Settings), rd (Kd.int .u8) Ar5 cr5 r.Body]) := by
  refine Spec.enter Tryz.func92 rfl Tryz.ntmps92 rfl rfl (fun w0 R0 F0 => ?_)
  refine J.seq ?_
  refine J.region ?_
  refine JL.ef (O1.box rfl rfl) rfl ?_
  rintro _ _ ⟨b_1, rfl, rfl⟩
  refine JL.ef (O1.alloc ze40) rfl ?_
  rintro _ _ ⟨b_2, rfl, rfl⟩
  refine JL.ef (O1.alloc ze104) rfl ?_
  rintro _ _ ⟨b_3, rfl, rfl⟩
  refine JL.nil ?_
  refine JN.code ?_
  refine J.seq ?_
  refine J.region ?_
  refine JL.qt (Qt.fa (o' := 1) fo45_1 rfl rfl) rfl ?_
  refine JL.qt (Qt.ld 2 pl3 rfl rfl rfl) rfl ?_
  refine JL.qt (Qt.fa (o' := 2) fo45_2 rfl rfl) rfl ?_
  refine JL.qt (Qt.ld 2 pl3 rfl rfl rfl) rfl ?_
  refine JL.qt (Qt.fa (o' := 3) fo45_3 rfl rfl) rfl ?_
  refine JL.qt (Qt.ld 2 pl3 rfl rfl rfl) rfl ?_
  refine JL.qt (Qt.build sp40 ze40 rfl rfl) rfl ?_
  refine JL.ef (O1.alloc ze40) rfl ?_
  rintro _ _ ⟨b_4, rfl, rfl⟩
  refine JL.sk (O1.stA 0 sz40 rfl rfl rfl rfl rfl rfl rfl rfl) ?_
  refine JL.nil ?_
  refine JN.code ?_
  refine J.seq ?_
  refine J.region ?_
  refine JL.qt (Qt.fa (o' := 5) fo45_5 rfl rfl) rfl ?_
  refine JL.qt (Qt.ld 3 pl37 rfl rfl rfl) rfl ?_
  refine JL.call (O1.call Tryz.func130 rfl rfl rfl [4] rfl (s_curNew Ar5 cr5 r.Body)) rfl ?_
  rintro _ _ ⟨q_5, A2_6, c2_7, rfl, rfl⟩
  refine JL.qt (Qt.build sp252 ze252 rfl rfl) rfl ?_
  refine JL.ef (O1.box rfl rfl) rfl ?_
  rintro _ _ ⟨b_8, rfl, rfl⟩
  refine JL.qt (Qt.assign rfl) rfl ?_
  refine JL.nil ?_
  refine JN.code ?_
  refine J.seq ?_
  refine J.seq ?_
  refine J.region ?_
  refine JL.qt (Qt.fa (o' := 1) fo45_1 rfl rfl) rfl ?_
  refine JL.qt (Qt.ld 7 pl3 rfl rfl rfl) rfl ?_
  refine JL.qt (Qt.fa (o' := 2) fo45_2 rfl rfl) rfl ?_
  refine JL.qt (Qt.ld 7 pl3 rfl rfl rfl) rfl ?_
  refine JL.call (O1.call Tryz.func37 rfl rfl rfl [] rfl (s_kinds_Has r.Type_ r.Flags 8)) rfl ?_
  rintro _ _ ⟨rfl, rfl⟩
  refine JL.nil ?_
  refine JN.code ?_
  refine J.cond rfl (fun h1 => ?_) (fun h1 => ?_)
  · refine J.region ?_
    refine JL.qt (Qt.move rfl) rfl ?_
    refine JL.call (O1.call Tryz.func131 rfl rfl rfl [0, 0, 0] rfl (s_rn1 b_8 q_5 A2_6 c2_7 r.Body 0 false (Nat.zero_le _))) rfl ?_
    rintro _ _ ⟨rfl, rfl⟩
    refine JL.qt (Qt.fa (o' := 3) fo40_3 rfl rfl) rfl ?_
    refine JL.sk (O1.st 4 sz3 rfl rfl rfl rfl rfl rfl) ?_
    refine JL.nil ?_
    refine JN.code ?_
    refine J.seq ?_
    refine J.keep [1, 2, 3, 4, 5] rfl ?_
    refine J.region ?_
    refine JL.qt (Qt.move rfl) rfl ?_
    refine JL.call (O1.call Tryz.func132 rfl rfl rfl [1, 1, 1, 0] rfl (s_rns b_8 q_5 A2_6 c2_7 r.Body ((f_rn1 r.Body 0 false).2.2) ((f_rn1 r.Body 0 false).2.1) b_4 (⟨r.Type_, r.Flags, r.Stream, (f_rn1 r.Body 0 false).1, [], [], 0, 0, false, 0, 0, 0, 0⟩ : ApiFrame) (by first | exact Nat.zero_le _ | exact f_rn1_le (Nat.zero_le _)))) rfl ?_
    rintro _ _ ⟨rfl, rfl⟩
    refine JL.nil ?_
    refine JN.code ?_
    refine J.seq ?_
    refine J.seq ?_
    refine J.region ?_
    refine JL.qt (Qt.move rfl) rfl ?_
    refine JL.qt (Qt.nck rfl) rfl ?_
    refine JL.qt (Qt.fa (o' := 1) fo252_1 rfl rfl) rfl ?_
    refine JL.qt (Qt.ld 0 pl4 rfl rfl rfl) rfl ?_
    refine JL.nil ?_
    refine JN.code ?_
    refine J.cond rfl (fun h2 => ?_) (fun h2 => ?_)
    · refine J.seq ?_
      refine J.region ?_
      refine JL.qt (Qt.build sp40 ze40 rfl rfl) rfl ?_
      refine JL.qt (Qt.fa (o' := 1) fo45_1 rfl rfl) rfl ?_
      refine JL.qt (Qt.ld 7 pl3 rfl rfl rfl) rfl ?_
      refine JL.call (O1.call Tryz.func91 rfl rfl rfl [] rfl (s_frame_scope r.Type_)) rfl ?_
      rintro _ _ ⟨rfl, rfl⟩
      refine JL.call (O1.call Tryz.func89 rfl rfl rfl [] rfl (s_frame_fault (f_frame_scope r.Type_) 6)) rfl ?_
      rintro _ _ ⟨rfl, rfl⟩
      refine JL.sk (O1.stA 6 sz40 rfl rfl rfl rfl rfl rfl rfl rfl) ?_
      refine JL.sk (O1.stA 6 sz104 rfl rfl rfl rfl rfl rfl rfl rfl) ?_
      refine JL.nil ?_
      refine JN.code ?_
      refine J.ret ?_
      refine JN.intro_pers (p := rd (Kd.int .u8) none 0 []) (fun w R => rd_nil' w R) ?_
      refine JN.intro_pers (p := rd kApiSetting none 0 []) (fun w R => rd_nil' w R) ?_
      refine JN.backR (rs := [.cell 2 40, .cell 3 104]) (vs := [.agg #[.int .i64 0, .int .i64 0, .int .i64 0, .int .i64 0, .slice none 0 0, .slice none 0 0, .int .i64 0, .int .i64 0, .bool false, .int .i64 0, .int .i64 0, .int .i64 0, .int .i64 0], .agg #[.int .i64 ((f_frame_fault (f_frame_scope r.Type_) 6).Scope), .int .i64 ((f_frame_fault (f_frame_scope r.Type_) 6).Code)]]) rfl ?_ [1, 0, 6] rfl ?_
      · exact .cell (x := 2) (t := 40) (b := b_2) (o := 0) rfl (Qt.ldA (cs := [.int .i64 0, .int .i64 0, .int .i64 0, .int .i64 0, .slice none 0 0, .slice none 0 0, .int .i64 0, .int .i64 0, .bool false, .int .i64 0, .int .i64 0, .int .i64 0, .int .i64 0]) 3 ag40 sz40 rfl rfl rfl rfl) (.cell (x := 3) (t := 104) (b := b_3) (o := 0) rfl (Qt.ldA (cs := [.int .i64 ((f_frame_fault (f_frame_scope r.Type_) 6).Scope), .int .i64 ((f_frame_fault (f_frame_scope r.Type_) 6).Code)]) 2 ag104 sz104 rfl rfl rfl rfl) .nil)
      exact ⟨none, 0, none, 0, by unfold f_inside; rw [if_pos h1, if_pos h2] <;> rfl, by unfold f_inside; rw [if_pos h1, if_pos h2] <;> rfl⟩
    refine J.skip ?_
    refine JN.code ?_
    refine J.seq ?_
    refine J.seq ?_
    refine J.sch (.qt 0 (.qt 1 (.qt 2 (.qt 3 (.qt 4 (.qt 5 (.ef 6 [1] (.qt 7 (.done))))))))) mixed (by repeat (first | exact Xe.noLook_body | refine noLook_then ?_ | refine noLook_block ?_)) (by kernel_rfl) ?_
    refine JS.q0 rfl (Qt.fa (o' := 3) fo40_3 rfl rfl) rfl ?_
    refine JS.q1 (j := 2) rfl rfl rfl (Qt.ld 0 pl3 rfl rfl rfl) rfl ?_
    refine JS.q0 rfl (Qt.move rfl) rfl ?_
    refine JS.q0 rfl (Qt.nck rfl) rfl ?_
    refine JS.q0 rfl (Qt.fa (o' := 0) fo252_0 rfl rfl) rfl ?_
    refine JS.q1 (j := 0) rfl rfl rfl (Qt.ld 0 pl249 rfl rfl rfl) rfl ?_
    refine JS.e1 ?_
    refine JE.ef rfl (O1.call Tryz.func133 rfl rfl rfl [1, 2] rfl (s_left q_5 A2_6 c2_7 r.Body ((f_rns r.Body ((f_rn1 r.Body 0 false).2.2) ((f_rn1 r.Body 0 false).2.1) (⟨r.Type_, r.Flags, r.Stream, (f_rn1 r.Body 0 false).1, [], [], 0, 0, false, 0, 0, 0, 0⟩ : ApiFrame)).2.2) (f_rns_le (by first | exact Nat.zero_le _ | exact f_rn1_le (Nat.zero_le _))))) rfl ?_
    rintro _ _ ⟨_, ⟨rfl, rfl⟩, rfl⟩
    refine ⟨⟨.inl rfl, ⟨.inr ⟨3, _, rfl⟩, trivial⟩⟩, ?_⟩
    refine JS.q0 rfl (Qt.bin (fun _ => gtr_run) rfl rfl rfl) rfl ?_
    refine JS.done ?_
    refine JN.code ?_
    refine J.cond_dec rfl (fun h3 => ?_) (fun h3 => ?_)
    · refine J.seq ?_
      refine J.region ?_
      refine JL.qt (Qt.build sp40 ze40 rfl rfl) rfl ?_
      refine JL.call (O1.call Tryz.func89 rfl rfl rfl [] rfl (s_frame_fault 2 1)) rfl ?_
      rintro _ _ ⟨rfl, rfl⟩
      refine JL.sk (O1.stA 6 sz40 rfl rfl rfl rfl rfl rfl rfl rfl) ?_
      refine JL.sk (O1.stA 6 sz104 rfl rfl rfl rfl rfl rfl rfl rfl) ?_
      refine JL.nil ?_
      refine JN.code ?_
      refine J.ret ?_
      refine JN.intro_pers (p := rd (Kd.int .u8) none 0 []) (fun w R => rd_nil' w R) ?_
      refine JN.intro_pers (p := rd kApiSetting none 0 []) (fun w R => rd_nil' w R) ?_
      refine JN.backR (rs := [.cell 2 40, .cell 3 104]) (vs := [.agg #[.int .i64 0, .int .i64 0, .int .i64 0, .int .i64 0, .slice none 0 0, .slice none 0 0, .int .i64 0, .int .i64 0, .bool false, .int .i64 0, .int .i64 0, .int .i64 0, .int .i64 0], .agg #[.int .i64 ((f_frame_fault 2 1).Scope), .int .i64 ((f_frame_fault 2 1).Code)]]) rfl ?_ [1, 0, 6] rfl ?_
      · exact .cell (x := 2) (t := 40) (b := b_2) (o := 0) rfl (Qt.ldA (cs := [.int .i64 0, .int .i64 0, .int .i64 0, .int .i64 0, .slice none 0 0, .slice none 0 0, .int .i64 0, .int .i64 0, .bool false, .int .i64 0, .int .i64 0, .int .i64 0, .int .i64 0]) 3 ag40 sz40 rfl rfl rfl rfl) (.cell (x := 3) (t := 104) (b := b_3) (o := 0) rfl (Qt.ldA (cs := [.int .i64 ((f_frame_fault 2 1).Scope), .int .i64 ((f_frame_fault 2 1).Code)]) 2 ag104 sz104 rfl rfl rfl rfl) .nil)
      exact ⟨none, 0, none, 0, by unfold f_inside; rw [if_pos h1, if_neg (Bool.eq_false_iff.1 h2), if_pos h3] <;> rfl, by unfold f_inside; rw [if_pos h1, if_neg (Bool.eq_false_iff.1 h2), if_pos h3] <;> rfl⟩
    refine J.skip ?_
    refine JN.code ?_
    refine J.seq ?_
    refine J.seq ?_
    refine J.region ?_
    refine JL.qt (Qt.fa (o' := 1) fo45_1 rfl rfl) rfl ?_
    refine JL.qt (Qt.ld 7 pl3 rfl rfl rfl) rfl ?_
    refine JL.qt (Qt.bin (fun _ => eql_run) rfl rfl rfl) rfl ?_
    refine JL.nil ?_
    refine JN.code ?_
    refine J.cond_eq rfl (fun h4 => ?_) (fun h4 => ?_)
    · refine J.seq ?_
      refine J.region ?_
      refine JL.qt (Qt.fa (o' := 5) fo45_5 rfl rfl) rfl ?_
      refine JL.qt (Qt.ld 7 pl37 rfl rfl rfl) rfl ?_
      refine JL.call (O1.call Tryz.func134 rfl rfl rfl [4] rfl (s_sets Ar5 cr5 r.Body)) rfl ?_
      rintro _ _ ⟨A2_9, c2_10, rfl, rfl⟩
      refine JL.qt (Qt.move rfl) rfl ?_
      refine JL.qt (Qt.extract rfl rfl) rfl ?_
      refine JL.qt (Qt.extract rfl rfl) rfl ?_
      refine JL.upd [0] rfl (row_freeze (f_setsOf_big hb)) ?_
      refine JL.qt (Qt.fa (o' := 5) fo40_5 rfl rfl) rfl ?_
      refine JL.sk (O1.st 5 sz38 rfl rfl rfl rfl rfl rfl) ?_
      refine JL.nil ?_
      refine JN.code ?_
      refine J.seq ?_
      refine J.keep [2, 3, 4, 5] rfl ?_
      refine J.region ?_
      refine JL.qt (Qt.ldA 0 ag40 sz40 rfl rfl rfl rfl) rfl ?_
      refine JL.qt (Qt.build sp104 ze104 rfl rfl) rfl ?_
      refine JL.sk (O1.stA 7 sz40 rfl rfl rfl rfl rfl rfl rfl rfl) ?_
      refine JL.sk (O1.stA 7 sz104 rfl rfl rfl rfl rfl rfl rfl rfl) ?_
      refine JL.nil ?_
      refine JN.code ?_
      refine J.ret ?_
      refine JN.intro_pers (p := rd (Kd.int .u8) none 0 []) (fun w R => rd_nil' w R) ?_
      refine JN.backR (rs := [.cell 2 40, .cell 3 104]) (vs := [.agg #[.int .i64 (((f_rns r.Body ((f_rn1 r.Body 0 false).2.2) ((f_rn1 r.Body 0 false).2.1) (⟨r.Type_, r.Flags, r.Stream, (f_rn1 r.Body 0 false).1, [], [], 0, 0, false, 0, 0, 0, 0⟩ : ApiFrame)).1).Type_), .int .i64 (((f_rns r.Body ((f_rn1 r.Body 0 false).2.2) ((f_rn1 r.Body 0 false).2.1) (⟨r.Type_, r.Flags, r.Stream, (f_rn1 r.Body 0 false).1, [], [], 0, 0, false, 0, 0, 0, 0⟩ : ApiFrame)).1).Flags), .int .i64 (((f_rns r.Body ((f_rn1 r.Body 0 false).2.2) ((f_rn1 r.Body 0 false).2.1) (⟨r.Type_, r.Flags, r.Stream, (f_rn1 r.Body 0 false).1, [], [], 0, 0, false, 0, 0, 0, 0⟩ : ApiFrame)).1).Stream), .int .i64 (((f_rns r.Body ((f_rn1 r.Body 0 false).2.2) ((f_rn1 r.Body 0 false).2.1) (⟨r.Type_, r.Flags, r.Stream, (f_rn1 r.Body 0 false).1, [], [], 0, 0, false, 0, 0, 0, 0⟩ : ApiFrame)).1).Pad), .slice none 0 0, .slice A2_9 ((f_setsOf r.Body).1.length) c2_10, .int .i64 (((f_rns r.Body ((f_rn1 r.Body 0 false).2.2) ((f_rn1 r.Body 0 false).2.1) (⟨r.Type_, r.Flags, r.Stream, (f_rn1 r.Body 0 false).1, [], [], 0, 0, false, 0, 0, 0, 0⟩ : ApiFrame)).1).Weight), .int .i64 (((f_rns r.Body ((f_rn1 r.Body 0 false).2.2) ((f_rn1 r.Body 0 false).2.1) (⟨r.Type_, r.Flags, r.Stream, (f_rn1 r.Body 0 false).1, [], [], 0, 0, false, 0, 0, 0, 0⟩ : ApiFrame)).1).Parent), .bool (((f_rns r.Body ((f_rn1 r.Body 0 false).2.2) ((f_rn1 r.Body 0 false).2.1) (⟨r.Type_, r.Flags, r.Stream, (f_rn1 r.Body 0 false).1, [], [], 0, 0, false, 0, 0, 0, 0⟩ : ApiFrame)).1).Alone), .int .i64 (((f_rns r.Body ((f_rn1 r.Body 0 false).2.2) ((f_rn1 r.Body 0 false).2.1) (⟨r.Type_, r.Flags, r.Stream, (f_rn1 r.Body 0 false).1, [], [], 0, 0, false, 0, 0, 0, 0⟩ : ApiFrame)).1).Promised), .int .i64 (((f_rns r.Body ((f_rn1 r.Body 0 false).2.2) ((f_rn1 r.Body 0 false).2.1) (⟨r.Type_, r.Flags, r.Stream, (f_rn1 r.Body 0 false).1, [], [], 0, 0, false, 0, 0, 0, 0⟩ : ApiFrame)).1).Last), .int .i64 (((f_rns r.Body ((f_rn1 r.Body 0 false).2.2) ((f_rn1 r.Body 0 false).2.1) (⟨r.Type_, r.Flags, r.Stream, (f_rn1 r.Body 0 false).1, [], [], 0, 0, false, 0, 0, 0, 0⟩ : ApiFrame)).1).Code), .int .i64 (((f_rns r.Body ((f_rn1 r.Body 0 false).2.2) ((f_rn1 r.Body 0 false).2.1) (⟨r.Type_, r.Flags, r.Stream, (f_rn1 r.Body 0 false).1, [], [], 0, 0, false, 0, 0, 0, 0⟩ : ApiFrame)).1).Step)], .agg #[.int .i64 0, .int .i64 0]]) rfl ?_ [0, 3, 3] rfl ?_
      · exact .cell (x := 2) (t := 40) (b := b_2) (o := 0) rfl (Qt.ldA (cs := [.int .i64 (((f_rns r.Body ((f_rn1 r.Body 0 false).2.2) ((f_rn1 r.Body 0 false).2.1) (⟨r.Type_, r.Flags, r.Stream, (f_rn1 r.Body 0 false).1, [], [], 0, 0, false, 0, 0, 0, 0⟩ : ApiFrame)).1).Type_), .int .i64 (((f_rns r.Body ((f_rn1 r.Body 0 false).2.2) ((f_rn1 r.Body 0 false).2.1) (⟨r.Type_, r.Flags, r.Stream, (f_rn1 r.Body 0 false).1, [], [], 0, 0, false, 0, 0, 0, 0⟩ : ApiFrame)).1).Flags), .int .i64 (((f_rns r.Body ((f_rn1 r.Body 0 false).2.2) ((f_rn1 r.Body 0 false).2.1) (⟨r.Type_, r.Flags, r.Stream, (f_rn1 r.Body 0 false).1, [], [], 0, 0, false, 0, 0, 0, 0⟩ : ApiFrame)).1).Stream), .int .i64 (((f_rns r.Body ((f_rn1 r.Body 0 false).2.2) ((f_rn1 r.Body 0 false).2.1) (⟨r.Type_, r.Flags, r.Stream, (f_rn1 r.Body 0 false).1, [], [], 0, 0, false, 0, 0, 0, 0⟩ : ApiFrame)).1).Pad), .slice none 0 0, .slice A2_9 ((f_setsOf r.Body).1.length) c2_10, .int .i64 (((f_rns r.Body ((f_rn1 r.Body 0 false).2.2) ((f_rn1 r.Body 0 false).2.1) (⟨r.Type_, r.Flags, r.Stream, (f_rn1 r.Body 0 false).1, [], [], 0, 0, false, 0, 0, 0, 0⟩ : ApiFrame)).1).Weight), .int .i64 (((f_rns r.Body ((f_rn1 r.Body 0 false).2.2) ((f_rn1 r.Body 0 false).2.1) (⟨r.Type_, r.Flags, r.Stream, (f_rn1 r.Body 0 false).1, [], [], 0, 0, false, 0, 0, 0, 0⟩ : ApiFrame)).1).Parent), .bool (((f_rns r.Body ((f_rn1 r.Body 0 false).2.2) ((f_rn1 r.Body 0 false).2.1) (⟨r.Type_, r.Flags, r.Stream, (f_rn1 r.Body 0 false).1, [], [], 0, 0, false, 0, 0, 0, 0⟩ : ApiFrame)).1).Alone), .int .i64 (((f_rns r.Body ((f_rn1 r.Body 0 false).2.2) ((f_rn1 r.Body 0 false).2.1) (⟨r.Type_, r.Flags, r.Stream, (f_rn1 r.Body 0 false).1, [], [], 0, 0, false, 0, 0, 0, 0⟩ : ApiFrame)).1).Promised), .int .i64 (((f_rns r.Body ((f_rn1 r.Body 0 false).2.2) ((f_rn1 r.Body 0 false).2.1) (⟨r.Type_, r.Flags, r.Stream, (f_rn1 r.Body 0 false).1, [], [], 0, 0, false, 0, 0, 0, 0⟩ : ApiFrame)).1).Last), .int .i64 (((f_rns r.Body ((f_rn1 r.Body 0 false).2.2) ((f_rn1 r.Body 0 false).2.1) (⟨r.Type_, r.Flags, r.Stream, (f_rn1 r.Body 0 false).1, [], [], 0, 0, false, 0, 0, 0, 0⟩ : ApiFrame)).1).Code), .int .i64 (((f_rns r.Body ((f_rn1 r.Body 0 false).2.2) ((f_rn1 r.Body 0 false).2.1) (⟨r.Type_, r.Flags, r.Stream, (f_rn1 r.Body 0 false).1, [], [], 0, 0, false, 0, 0, 0, 0⟩ : ApiFrame)).1).Step)]) 2 ag40 sz40 rfl rfl rfl rfl) (.cell (x := 3) (t := 104) (b := b_3) (o := 0) rfl (Qt.ldA (cs := [.int .i64 0, .int .i64 0]) 1 ag104 sz104 rfl rfl rfl rfl) .nil)
      exact ⟨none, 0, A2_9, c2_10, by unfold f_inside; rw [if_pos h1, if_neg (Bool.eq_false_iff.1 h2), if_neg h3, if_pos h4] <;> rfl, by unfold f_inside; rw [if_pos h1, if_neg (Bool.eq_false_iff.1 h2), if_neg h3, if_pos h4] <;> rfl⟩
    refine J.skip ?_
    refine JN.code ?_
    refine J.seq ?_
    refine J.sch (.qt 0 (.qt 1 (.qt 2 (.qt 3 (.qt 4 (.qt 5 (.qt 6 (.qt 7 (.qt 9 (.qt 10 (.qt 11 (.ef 8 [3, 10] (.qt 12 (.ef 13 [] (.qt 14 (.qt 15 (.qt 16 (.qt 17 (.ef 18 [] (.done)))))))))))))))))))) mixed (by repeat (first | exact Xe.noLook_body | refine noLook_then ?_ | refine noLook_block ?_)) (by kernel_rfl) ?_
    refine JS.q0 rfl (Qt.move rfl) rfl ?_
    refine JS.q0 rfl (Qt.nck rfl) rfl ?_
    refine JS.q0 rfl (Qt.fa (o' := 0) fo252_0 rfl rfl) rfl ?_
    refine JS.q1 (j := 2) rfl rfl rfl (Qt.ld 0 pl249 rfl rfl rfl) rfl ?_
    refine JS.q0 rfl (Qt.move rfl) rfl ?_
    refine JS.q0 rfl (Qt.nck rfl) rfl ?_
    refine JS.q0 rfl (Qt.fa (o' := 0) fo252_0 rfl rfl) rfl ?_
    refine JS.q1 (j := 2) rfl rfl rfl (Qt.ld 0 pl249 rfl rfl rfl) rfl ?_
    refine JS.q0 rfl (Qt.fa (o' := 3) fo40_3 rfl rfl) rfl ?_
    refine JS.q1 (j := 3) rfl rfl rfl (Qt.ld 0 pl3 rfl rfl rfl) rfl ?_
    refine JS.q0 rfl (Qt.bi (fun _ _ => max_run) rfl) rfl ?_
    refine JS.e1 ?_
    refine JE.ef rfl (O1.call Tryz.func133 rfl rfl rfl [0, 0] rfl (s_left q_5 A2_6 c2_7 r.Body ((f_rns r.Body ((f_rn1 r.Body 0 false).2.2) ((f_rn1 r.Body 0 false).2.1) (⟨r.Type_, r.Flags, r.Stream, (f_rn1 r.Body 0 false).1, [], [], 0, 0, false, 0, 0, 0, 0⟩ : ApiFrame)).2.2) (f_rns_le (by first | exact Nat.zero_le _ | exact f_rn1_le (Nat.zero_le _))))) rfl ?_
    rintro _ _ ⟨_, ⟨rfl, rfl⟩, rfl⟩
    refine ⟨⟨.inr ⟨3, _, rfl⟩, ⟨.inl rfl, ⟨.inr ⟨2, _, rfl⟩, trivial⟩⟩⟩, ?_⟩
    refine JS.q0 rfl (Qt.bin (fun _ => sub_run) rfl rfl rfl) rfl ?_
    refine JS.e1 ?_
    refine JE.ef rfl (O1.call Tryz.func135 rfl rfl rfl [0, 0] rfl (s_bytes q_5 A2_6 c2_7 r.Body ((f_rns r.Body ((f_rn1 r.Body 0 false).2.2) ((f_rn1 r.Body 0 false).2.1) (⟨r.Type_, r.Flags, r.Stream, (f_rn1 r.Body 0 false).1, [], [], 0, 0, false, 0, 0, 0, 0⟩ : ApiFrame)).2.2) (IntKind.i64.wrap ((((r.Body.drop ((f_rns r.Body ((f_rn1 r.Body 0 false).2.2) ((f_rn1 r.Body 0 false).2.1) (⟨r.Type_, r.Flags, r.Stream, (f_rn1 r.Body 0 false).1, [], [], 0, 0, false, 0, 0, 0, 0⟩ : ApiFrame)).2.2)).length : Nat) : Int) - (max (((f_rns r.Body ((f_rn1 r.Body 0 false).2.2) ((f_rn1 r.Body 0 false).2.1) (⟨r.Type_, r.Flags, r.Stream, (f_rn1 r.Body 0 false).1, [], [], 0, 0, false, 0, 0, 0, 0⟩ : ApiFrame)).1).Pad) 0))) (f_rns_le (by first | exact Nat.zero_le _ | exact f_rn1_le (Nat.zero_le _))))) rfl ?_
    rintro _ _ ⟨_, ⟨A2_11, c2_12, rfl, rfl⟩, rfl⟩
    refine ⟨⟨.inl rfl, ⟨.inl rfl, ⟨.inl rfl, trivial⟩⟩⟩, ?_⟩
    refine JS.q0 rfl (Qt.move rfl) rfl ?_
    refine JS.q0 rfl (Qt.extract rfl rfl) rfl ?_
    refine JS.q0 rfl (Qt.extract rfl rfl) rfl ?_
    refine JS.q0 rfl (Qt.fa (o' := 4) fo40_4 rfl rfl) rfl ?_
    refine JS.e1 ?_
    refine JE.sk rfl (O1.st 4 sz37 rfl rfl rfl rfl rfl rfl) ⟨.inl rfl, ⟨.inl rfl, ⟨.inl rfl, trivial⟩⟩⟩ ?_
    refine JS.done ?_
    refine JN.code ?_
    refine J.seq ?_
    refine J.keep [2, 3, 4] rfl ?_
    refine J.region ?_
    refine JL.qt (Qt.ldA 0 ag40 sz40 rfl rfl rfl rfl) rfl ?_
    refine JL.qt (Qt.build sp104 ze104 rfl rfl) rfl ?_
    refine JL.sk (O1.stA 7 sz40 rfl rfl rfl rfl rfl rfl rfl rfl) ?_
    refine JL.sk (O1.stA 7 sz104 rfl rfl rfl rfl rfl rfl rfl rfl) ?_
    refine JL.nil ?_
    refine JN.code ?_
    refine J.ret ?_
    refine JN.intro_pers (p := rd kApiSetting none 0 []) (fun w R => rd_nil' w R) ?_
    refine JN.backR (rs := [.cell 2 40, .cell 3 104]) (vs := [.agg #[.int .i64 (((f_rns r.Body ((f_rn1 r.Body 0 false).2.2) ((f_rn1 r.Body 0 false).2.1) (⟨r.Type_, r.Flags, r.Stream, (f_rn1 r.Body 0 false).1, [], [], 0, 0, false, 0, 0, 0, 0⟩ : ApiFrame)).1).Type_), .int .i64 (((f_rns r.Body ((f_rn1 r.Body 0 false).2.2) ((f_rn1 r.Body 0 false).2.1) (⟨r.Type_, r.Flags, r.Stream, (f_rn1 r.Body 0 false).1, [], [], 0, 0, false, 0, 0, 0, 0⟩ : ApiFrame)).1).Flags), .int .i64 (((f_rns r.Body ((f_rn1 r.Body 0 false).2.2) ((f_rn1 r.Body 0 false).2.1) (⟨r.Type_, r.Flags, r.Stream, (f_rn1 r.Body 0 false).1, [], [], 0, 0, false, 0, 0, 0, 0⟩ : ApiFrame)).1).Stream), .int .i64 (((f_rns r.Body ((f_rn1 r.Body 0 false).2.2) ((f_rn1 r.Body 0 false).2.1) (⟨r.Type_, r.Flags, r.Stream, (f_rn1 r.Body 0 false).1, [], [], 0, 0, false, 0, 0, 0, 0⟩ : ApiFrame)).1).Pad), .slice A2_11 (((f_bytes r.Body ((f_rns r.Body ((f_rn1 r.Body 0 false).2.2) ((f_rn1 r.Body 0 false).2.1) (⟨r.Type_, r.Flags, r.Stream, (f_rn1 r.Body 0 false).1, [], [], 0, 0, false, 0, 0, 0, 0⟩ : ApiFrame)).2.2) (IntKind.i64.wrap ((((r.Body.drop ((f_rns r.Body ((f_rn1 r.Body 0 false).2.2) ((f_rn1 r.Body 0 false).2.1) (⟨r.Type_, r.Flags, r.Stream, (f_rn1 r.Body 0 false).1, [], [], 0, 0, false, 0, 0, 0, 0⟩ : ApiFrame)).2.2)).length : Nat) : Int) - (max (((f_rns r.Body ((f_rn1 r.Body 0 false).2.2) ((f_rn1 r.Body 0 false).2.1) (⟨r.Type_, r.Flags, r.Stream, (f_rn1 r.Body 0 false).1, [], [], 0, 0, false, 0, 0, 0, 0⟩ : ApiFrame)).1).Pad) 0)))).1).length) c2_12, .slice none 0 0, .int .i64 (((f_rns r.Body ((f_rn1 r.Body 0 false).2.2) ((f_rn1 r.Body 0 false).2.1) (⟨r.Type_, r.Flags, r.Stream, (f_rn1 r.Body 0 false).1, [], [], 0, 0, false, 0, 0, 0, 0⟩ : ApiFrame)).1).Weight), .int .i64 (((f_rns r.Body ((f_rn1 r.Body 0 false).2.2) ((f_rn1 r.Body 0 false).2.1) (⟨r.Type_, r.Flags, r.Stream, (f_rn1 r.Body 0 false).1, [], [], 0, 0, false, 0, 0, 0, 0⟩ : ApiFrame)).1).Parent), .bool (((f_rns r.Body ((f_rn1 r.Body 0 false).2.2) ((f_rn1 r.Body 0 false).2.1) (⟨r.Type_, r.Flags, r.Stream, (f_rn1 r.Body 0 false).1, [], [], 0, 0, false, 0, 0, 0, 0⟩ : ApiFrame)).1).Alone), .int .i64 (((f_rns r.Body ((f_rn1 r.Body 0 false).2.2) ((f_rn1 r.Body 0 false).2.1) (⟨r.Type_, r.Flags, r.Stream, (f_rn1 r.Body 0 false).1, [], [], 0, 0, false, 0, 0, 0, 0⟩ : ApiFrame)).1).Promised), .int .i64 (((f_rns r.Body ((f_rn1 r.Body 0 false).2.2) ((f_rn1 r.Body 0 false).2.1) (⟨r.Type_, r.Flags, r.Stream, (f_rn1 r.Body 0 false).1, [], [], 0, 0, false, 0, 0, 0, 0⟩ : ApiFrame)).1).Last), .int .i64 (((f_rns r.Body ((f_rn1 r.Body 0 false).2.2) ((f_rn1 r.Body 0 false).2.1) (⟨r.Type_, r.Flags, r.Stream, (f_rn1 r.Body 0 false).1, [], [], 0, 0, false, 0, 0, 0, 0⟩ : ApiFrame)).1).Code), .int .i64 (((f_rns r.Body ((f_rn1 r.Body 0 false).2.2) ((f_rn1 r.Body 0 false).2.1) (⟨r.Type_, r.Flags, r.Stream, (f_rn1 r.Body 0 false).1, [], [], 0, 0, false, 0, 0, 0, 0⟩ : ApiFrame)).1).Step)], .agg #[.int .i64 0, .int .i64 0]]) rfl ?_ [5, 0, 6] rfl ?_
    · exact .cell (x := 2) (t := 40) (b := b_2) (o := 0) rfl (Qt.ldA (cs := [.int .i64 (((f_rns r.Body ((f_rn1 r.Body 0 false).2.2) ((f_rn1 r.Body 0 false).2.1) (⟨r.Type_, r.Flags, r.Stream, (f_rn1 r.Body 0 false).1, [], [], 0, 0, false, 0, 0, 0, 0⟩ : ApiFrame)).1).Type_), .int .i64 (((f_rns r.Body ((f_rn1 r.Body 0 false).2.2) ((f_rn1 r.Body 0 false).2.1) (⟨r.Type_, r.Flags, r.Stream, (f_rn1 r.Body 0 false).1, [], [], 0, 0, false, 0, 0, 0, 0⟩ : ApiFrame)).1).Flags), .int .i64 (((f_rns r.Body ((f_rn1 r.Body 0 false).2.2) ((f_rn1 r.Body 0 false).2.1) (⟨r.Type_, r.Flags, r.Stream, (f_rn1 r.Body 0 false).1, [], [], 0, 0, false, 0, 0, 0, 0⟩ : ApiFrame)).1).Stream), .int .i64 (((f_rns r.Body ((f_rn1 r.Body 0 false).2.2) ((f_rn1 r.Body 0 false).2.1) (⟨r.Type_, r.Flags, r.Stream, (f_rn1 r.Body 0 false).1, [], [], 0, 0, false, 0, 0, 0, 0⟩ : ApiFrame)).1).Pad), .slice A2_11 (((f_bytes r.Body ((f_rns r.Body ((f_rn1 r.Body 0 false).2.2) ((f_rn1 r.Body 0 false).2.1) (⟨r.Type_, r.Flags, r.Stream, (f_rn1 r.Body 0 false).1, [], [], 0, 0, false, 0, 0, 0, 0⟩ : ApiFrame)).2.2) (IntKind.i64.wrap ((((r.Body.drop ((f_rns r.Body ((f_rn1 r.Body 0 false).2.2) ((f_rn1 r.Body 0 false).2.1) (⟨r.Type_, r.Flags, r.Stream, (f_rn1 r.Body 0 false).1, [], [], 0, 0, false, 0, 0, 0, 0⟩ : ApiFrame)).2.2)).length : Nat) : Int) - (max (((f_rns r.Body ((f_rn1 r.Body 0 false).2.2) ((f_rn1 r.Body 0 false).2.1) (⟨r.Type_, r.Flags, r.Stream, (f_rn1 r.Body 0 false).1, [], [], 0, 0, false, 0, 0, 0, 0⟩ : ApiFrame)).1).Pad) 0)))).1).length) c2_12, .slice none 0 0, .int .i64 (((f_rns r.Body ((f_rn1 r.Body 0 false).2.2) ((f_rn1 r.Body 0 false).2.1) (⟨r.Type_, r.Flags, r.Stream, (f_rn1 r.Body 0 false).1, [], [], 0, 0, false, 0, 0, 0, 0⟩ : ApiFrame)).1).Weight), .int .i64 (((f_rns r.Body ((f_rn1 r.Body 0 false).2.2) ((f_rn1 r.Body 0 false).2.1) (⟨r.Type_, r.Flags, r.Stream, (f_rn1 r.Body 0 false).1, [], [], 0, 0, false, 0, 0, 0, 0⟩ : ApiFrame)).1).Parent), .bool (((f_rns r.Body ((f_rn1 r.Body 0 false).2.2) ((f_rn1 r.Body 0 false).2.1) (⟨r.Type_, r.Flags, r.Stream, (f_rn1 r.Body 0 false).1, [], [], 0, 0, false, 0, 0, 0, 0⟩ : ApiFrame)).1).Alone), .int .i64 (((f_rns r.Body ((f_rn1 r.Body 0 false).2.2) ((f_rn1 r.Body 0 false).2.1) (⟨r.Type_, r.Flags, r.Stream, (f_rn1 r.Body 0 false).1, [], [], 0, 0, false, 0, 0, 0, 0⟩ : ApiFrame)).1).Promised), .int .i64 (((f_rns r.Body ((f_rn1 r.Body 0 false).2.2) ((f_rn1 r.Body 0 false).2.1) (⟨r.Type_, r.Flags, r.Stream, (f_rn1 r.Body 0 false).1, [], [], 0, 0, false, 0, 0, 0, 0⟩ : ApiFrame)).1).Last), .int .i64 (((f_rns r.Body ((f_rn1 r.Body 0 false).2.2) ((f_rn1 r.Body 0 false).2.1) (⟨r.Type_, r.Flags, r.Stream, (f_rn1 r.Body 0 false).1, [], [], 0, 0, false, 0, 0, 0, 0⟩ : ApiFrame)).1).Code), .int .i64 (((f_rns r.Body ((f_rn1 r.Body 0 false).2.2) ((f_rn1 r.Body 0 false).2.1) (⟨r.Type_, r.Flags, r.Stream, (f_rn1 r.Body 0 false).1, [], [], 0, 0, false, 0, 0, 0, 0⟩ : ApiFrame)).1).Step)]) 2 ag40 sz40 rfl rfl rfl rfl) (.cell (x := 3) (t := 104) (b := b_3) (o := 0) rfl (Qt.ldA (cs := [.int .i64 0, .int .i64 0]) 1 ag104 sz104 rfl rfl rfl rfl) .nil)
    exact ⟨A2_11, c2_12, none, 0, by unfold f_inside; rw [if_pos h1, if_neg (Bool.eq_false_iff.1 h2), if_neg h3, if_neg h4] <;> rfl, by unfold f_inside; rw [if_pos h1, if_neg (Bool.eq_false_iff.1 h2), if_neg h3, if_neg h4] <;> rfl⟩
  refine J.skip ?_
  refine JN.code ?_
  refine J.seq ?_
  refine J.region ?_
  refine JL.qt (Qt.move rfl) rfl ?_
  refine JL.call (O1.call Tryz.func132 rfl rfl rfl [0, 0, 0, 1] rfl (s_rns b_8 q_5 A2_6 c2_7 r.Body 0 false b_4 (⟨r.Type_, r.Flags, r.Stream, -1, [], [], 0, 0, false, 0, 0, 0, 0⟩ : ApiFrame) (by first | exact Nat.zero_le _ | exact f_rn1_le (Nat.zero_le _)))) rfl ?_
  rintro _ _ ⟨rfl, rfl⟩
  refine JL.nil ?_
  refine JN.code ?_
  refine J.seq ?_
  refine J.seq ?_
  refine J.keep [1, 2, 3, 4, 5] rfl ?_
  refine J.region ?_
  refine JL.qt (Qt.move rfl) rfl ?_
  refine JL.qt (Qt.nck rfl) rfl ?_
  refine JL.qt (Qt.fa (o' := 1) fo252_1 rfl rfl) rfl ?_
  refine JL.qt (Qt.ld 0 pl4 rfl rfl rfl) rfl ?_
  refine JL.nil ?_
  refine JN.code ?_
  refine J.cond rfl (fun h5 => ?_) (fun h5 => ?_)
  · refine J.seq ?_
    refine J.region ?_
    refine JL.qt (Qt.build sp40 ze40 rfl rfl) rfl ?_
    refine JL.qt (Qt.fa (o' := 1) fo45_1 rfl rfl) rfl ?_
    refine JL.qt (Qt.ld 7 pl3 rfl rfl rfl) rfl ?_
    refine JL.call (O1.call Tryz.func91 rfl rfl rfl [] rfl (s_frame_scope r.Type_)) rfl ?_
    rintro _ _ ⟨rfl, rfl⟩
    refine JL.call (O1.call Tryz.func89 rfl rfl rfl [] rfl (s_frame_fault (f_frame_scope r.Type_) 6)) rfl ?_
    rintro _ _ ⟨rfl, rfl⟩
    refine JL.sk (O1.stA 6 sz40 rfl rfl rfl rfl rfl rfl rfl rfl) ?_
    refine JL.sk (O1.stA 6 sz104 rfl rfl rfl rfl rfl rfl rfl rfl) ?_
    refine JL.nil ?_
    refine JN.code ?_
    refine J.ret ?_
    refine JN.intro_pers (p := rd (Kd.int .u8) none 0 []) (fun w R => rd_nil' w R) ?_
    refine JN.intro_pers (p := rd kApiSetting none 0 []) (fun w R => rd_nil' w R) ?_
    refine JN.backR (rs := [.cell 2 40, .cell 3 104]) (vs := [.agg #[.int .i64 0, .int .i64 0, .int .i64 0, .int .i64 0, .slice none 0 0, .slice none 0 0, .int .i64 0, .int .i64 0, .bool false, .int .i64 0, .int .i64 0, .int .i64 0, .int .i64 0], .agg #[.int .i64 ((f_frame_fault (f_frame_scope r.Type_) 6).Scope), .int .i64 ((f_frame_fault (f_frame_scope r.Type_) 6).Code)]]) rfl ?_ [1, 0, 6] rfl ?_
    · exact .cell (x := 2) (t := 40) (b := b_2) (o := 0) rfl (Qt.ldA (cs := [.int .i64 0, .int .i64 0, .int .i64 0, .int .i64 0, .slice none 0 0, .slice none 0 0, .int .i64 0, .int .i64 0, .bool false, .int .i64 0, .int .i64 0, .int .i64 0, .int .i64 0]) 3 ag40 sz40 rfl rfl rfl rfl) (.cell (x := 3) (t := 104) (b := b_3) (o := 0) rfl (Qt.ldA (cs := [.int .i64 ((f_frame_fault (f_frame_scope r.Type_) 6).Scope), .int .i64 ((f_frame_fault (f_frame_scope r.Type_) 6).Code)]) 2 ag104 sz104 rfl rfl rfl rfl) .nil)
    exact ⟨none, 0, none, 0, by unfold f_inside; rw [if_neg (Bool.eq_false_iff.1 h1), if_pos h5] <;> rfl, by unfold f_inside; rw [if_neg (Bool.eq_false_iff.1 h1), if_pos h5] <;> rfl⟩
  refine J.skip ?_
  refine JN.code ?_
  refine J.seq ?_
  refine J.seq ?_
  refine J.sch (.qt 0 (.qt 1 (.qt 2 (.qt 3 (.qt 4 (.qt 5 (.ef 6 [1] (.qt 7 (.done))))))))) mixed (by repeat (first | exact Xe.noLook_body | refine noLook_then ?_ | refine noLook_block ?_)) (by kernel_rfl) ?_
  refine JS.q0 rfl (Qt.fa (o' := 3) fo40_3 rfl rfl) rfl ?_
  refine JS.q1 (j := 2) rfl rfl rfl (Qt.ld 0 pl3 rfl rfl rfl) rfl ?_
  refine JS.q0 rfl (Qt.move rfl) rfl ?_
  refine JS.q0 rfl (Qt.nck rfl) rfl ?_
  refine JS.q0 rfl (Qt.fa (o' := 0) fo252_0 rfl rfl) rfl ?_
  refine JS.q1 (j := 0) rfl rfl rfl (Qt.ld 0 pl249 rfl rfl rfl) rfl ?_
  refine JS.e1 ?_
  refine JE.ef rfl (O1.call Tryz.func133 rfl rfl rfl [1, 2] rfl (s_left q_5 A2_6 c2_7 r.Body ((f_rns r.Body 0 false (⟨r.Type_, r.Flags, r.Stream, -1, [], [], 0, 0, false, 0, 0, 0, 0⟩ : ApiFrame)).2.2) (f_rns_le (by first | exact Nat.zero_le _ | exact f_rn1_le (Nat.zero_le _))))) rfl ?_
  rintro _ _ ⟨_, ⟨rfl, rfl⟩, rfl⟩
  refine ⟨⟨.inl rfl, ⟨.inr ⟨3, _, rfl⟩, trivial⟩⟩, ?_⟩
  refine JS.q0 rfl (Qt.bin (fun _ => gtr_run) rfl rfl rfl) rfl ?_
  refine JS.done ?_
  refine JN.code ?_
  refine J.cond_dec rfl (fun h6 => ?_) (fun h6 => ?_)
  · refine J.seq ?_
    refine J.region ?_
    refine JL.qt (Qt.build sp40 ze40 rfl rfl) rfl ?_
    refine JL.call (O1.call Tryz.func89 rfl rfl rfl [] rfl (s_frame_fault 2 1)) rfl ?_
    rintro _ _ ⟨rfl, rfl⟩
    refine JL.sk (O1.stA 6 sz40 rfl rfl rfl rfl rfl rfl rfl rfl) ?_
    refine JL.sk (O1.stA 6 sz104 rfl rfl rfl rfl rfl rfl rfl rfl) ?_
    refine JL.nil ?_
    refine JN.code ?_
    refine J.ret ?_
    refine JN.intro_pers (p := rd (Kd.int .u8) none 0 []) (fun w R => rd_nil' w R) ?_
    refine JN.intro_pers (p := rd kApiSetting none 0 []) (fun w R => rd_nil' w R) ?_
    refine JN.backR (rs := [.cell 2 40, .cell 3 104]) (vs := [.agg #[.int .i64 0, .int .i64 0, .int .i64 0, .int .i64 0, .slice none 0 0, .slice none 0 0, .int .i64 0, .int .i64 0, .bool false, .int .i64 0, .int .i64 0, .int .i64 0, .int .i64 0], .agg #[.int .i64 ((f_frame_fault 2 1).Scope), .int .i64 ((f_frame_fault 2 1).Code)]]) rfl ?_ [1, 0, 6] rfl ?_
    · exact .cell (x := 2) (t := 40) (b := b_2) (o := 0) rfl (Qt.ldA (cs := [.int .i64 0, .int .i64 0, .int .i64 0, .int .i64 0, .slice none 0 0, .slice none 0 0, .int .i64 0, .int .i64 0, .bool false, .int .i64 0, .int .i64 0, .int .i64 0, .int .i64 0]) 3 ag40 sz40 rfl rfl rfl rfl) (.cell (x := 3) (t := 104) (b := b_3) (o := 0) rfl (Qt.ldA (cs := [.int .i64 ((f_frame_fault 2 1).Scope), .int .i64 ((f_frame_fault 2 1).Code)]) 2 ag104 sz104 rfl rfl rfl rfl) .nil)
    exact ⟨none, 0, none, 0, by unfold f_inside; rw [if_neg (Bool.eq_false_iff.1 h1), if_neg (Bool.eq_false_iff.1 h5), if_pos h6] <;> rfl, by unfold f_inside; rw [if_neg (Bool.eq_false_iff.1 h1), if_neg (Bool.eq_false_iff.1 h5), if_pos h6] <;> rfl⟩
  refine J.skip ?_
  refine JN.code ?_
  refine J.seq ?_
  refine J.seq ?_
  refine J.region ?_
  refine JL.qt (Qt.fa (o' := 1) fo45_1 rfl rfl) rfl ?_
  refine JL.qt (Qt.ld 7 pl3 rfl rfl rfl) rfl ?_
  refine JL.qt (Qt.bin (fun _ => eql_run) rfl rfl rfl) rfl ?_
  refine JL.nil ?_
  refine JN.code ?_
  refine J.cond_eq rfl (fun h7 => ?_) (fun h7 => ?_)
  · refine J.seq ?_
    refine J.region ?_
    refine JL.qt (Qt.fa (o' := 5) fo45_5 rfl rfl) rfl ?_
    refine JL.qt (Qt.ld 7 pl37 rfl rfl rfl) rfl ?_
    refine JL.call (O1.call Tryz.func134 rfl rfl rfl [4] rfl (s_sets Ar5 cr5 r.Body)) rfl ?_
    rintro _ _ ⟨A2_13, c2_14, rfl, rfl⟩
    refine JL.qt (Qt.move rfl) rfl ?_
    refine JL.qt (Qt.extract rfl rfl) rfl ?_
    refine JL.qt (Qt.extract rfl rfl) rfl ?_
    refine JL.upd [0] rfl (row_freeze (f_setsOf_big hb)) ?_
    refine JL.qt (Qt.fa (o' := 5) fo40_5 rfl rfl) rfl ?_
    refine JL.sk (O1.st 5 sz38 rfl rfl rfl rfl rfl rfl) ?_
    refine JL.nil ?_
    refine JN.code ?_
    refine J.seq ?_
    refine J.keep [2, 3, 4, 5] rfl ?_
    refine J.region ?_
    refine JL.qt (Qt.ldA 0 ag40 sz40 rfl rfl rfl rfl) rfl ?_
    refine JL.qt (Qt.build sp104 ze104 rfl rfl) rfl ?_
    refine JL.sk (O1.stA 7 sz40 rfl rfl rfl rfl rfl rfl rfl rfl) ?_
    refine JL.sk (O1.stA 7 sz104 rfl rfl rfl rfl rfl rfl rfl rfl) ?_
    refine JL.nil ?_
    refine JN.code ?_
    refine J.ret ?_
    refine JN.intro_pers (p := rd (Kd.int .u8) none 0 []) (fun w R => rd_nil' w R) ?_
    refine JN.backR (rs := [.cell 2 40, .cell 3 104]) (vs := [.agg #[.int .i64 (((f_rns r.Body 0 false (⟨r.Type_, r.Flags, r.Stream, -1, [], [], 0, 0, false, 0, 0, 0, 0⟩ : ApiFrame)).1).Type_), .int .i64 (((f_rns r.Body 0 false (⟨r.Type_, r.Flags, r.Stream, -1, [], [], 0, 0, false, 0, 0, 0, 0⟩ : ApiFrame)).1).Flags), .int .i64 (((f_rns r.Body 0 false (⟨r.Type_, r.Flags, r.Stream, -1, [], [], 0, 0, false, 0, 0, 0, 0⟩ : ApiFrame)).1).Stream), .int .i64 (((f_rns r.Body 0 false (⟨r.Type_, r.Flags, r.Stream, -1, [], [], 0, 0, false, 0, 0, 0, 0⟩ : ApiFrame)).1).Pad), .slice none 0 0, .slice A2_13 ((f_setsOf r.Body).1.length) c2_14, .int .i64 (((f_rns r.Body 0 false (⟨r.Type_, r.Flags, r.Stream, -1, [], [], 0, 0, false, 0, 0, 0, 0⟩ : ApiFrame)).1).Weight), .int .i64 (((f_rns r.Body 0 false (⟨r.Type_, r.Flags, r.Stream, -1, [], [], 0, 0, false, 0, 0, 0, 0⟩ : ApiFrame)).1).Parent), .bool (((f_rns r.Body 0 false (⟨r.Type_, r.Flags, r.Stream, -1, [], [], 0, 0, false, 0, 0, 0, 0⟩ : ApiFrame)).1).Alone), .int .i64 (((f_rns r.Body 0 false (⟨r.Type_, r.Flags, r.Stream, -1, [], [], 0, 0, false, 0, 0, 0, 0⟩ : ApiFrame)).1).Promised), .int .i64 (((f_rns r.Body 0 false (⟨r.Type_, r.Flags, r.Stream, -1, [], [], 0, 0, false, 0, 0, 0, 0⟩ : ApiFrame)).1).Last), .int .i64 (((f_rns r.Body 0 false (⟨r.Type_, r.Flags, r.Stream, -1, [], [], 0, 0, false, 0, 0, 0, 0⟩ : ApiFrame)).1).Code), .int .i64 (((f_rns r.Body 0 false (⟨r.Type_, r.Flags, r.Stream, -1, [], [], 0, 0, false, 0, 0, 0, 0⟩ : ApiFrame)).1).Step)], .agg #[.int .i64 0, .int .i64 0]]) rfl ?_ [0, 3, 3] rfl ?_
    · exact .cell (x := 2) (t := 40) (b := b_2) (o := 0) rfl (Qt.ldA (cs := [.int .i64 (((f_rns r.Body 0 false (⟨r.Type_, r.Flags, r.Stream, -1, [], [], 0, 0, false, 0, 0, 0, 0⟩ : ApiFrame)).1).Type_), .int .i64 (((f_rns r.Body 0 false (⟨r.Type_, r.Flags, r.Stream, -1, [], [], 0, 0, false, 0, 0, 0, 0⟩ : ApiFrame)).1).Flags), .int .i64 (((f_rns r.Body 0 false (⟨r.Type_, r.Flags, r.Stream, -1, [], [], 0, 0, false, 0, 0, 0, 0⟩ : ApiFrame)).1).Stream), .int .i64 (((f_rns r.Body 0 false (⟨r.Type_, r.Flags, r.Stream, -1, [], [], 0, 0, false, 0, 0, 0, 0⟩ : ApiFrame)).1).Pad), .slice none 0 0, .slice A2_13 ((f_setsOf r.Body).1.length) c2_14, .int .i64 (((f_rns r.Body 0 false (⟨r.Type_, r.Flags, r.Stream, -1, [], [], 0, 0, false, 0, 0, 0, 0⟩ : ApiFrame)).1).Weight), .int .i64 (((f_rns r.Body 0 false (⟨r.Type_, r.Flags, r.Stream, -1, [], [], 0, 0, false, 0, 0, 0, 0⟩ : ApiFrame)).1).Parent), .bool (((f_rns r.Body 0 false (⟨r.Type_, r.Flags, r.Stream, -1, [], [], 0, 0, false, 0, 0, 0, 0⟩ : ApiFrame)).1).Alone), .int .i64 (((f_rns r.Body 0 false (⟨r.Type_, r.Flags, r.Stream, -1, [], [], 0, 0, false, 0, 0, 0, 0⟩ : ApiFrame)).1).Promised), .int .i64 (((f_rns r.Body 0 false (⟨r.Type_, r.Flags, r.Stream, -1, [], [], 0, 0, false, 0, 0, 0, 0⟩ : ApiFrame)).1).Last), .int .i64 (((f_rns r.Body 0 false (⟨r.Type_, r.Flags, r.Stream, -1, [], [], 0, 0, false, 0, 0, 0, 0⟩ : ApiFrame)).1).Code), .int .i64 (((f_rns r.Body 0 false (⟨r.Type_, r.Flags, r.Stream, -1, [], [], 0, 0, false, 0, 0, 0, 0⟩ : ApiFrame)).1).Step)]) 2 ag40 sz40 rfl rfl rfl rfl) (.cell (x := 3) (t := 104) (b := b_3) (o := 0) rfl (Qt.ldA (cs := [.int .i64 0, .int .i64 0]) 1 ag104 sz104 rfl rfl rfl rfl) .nil)
    exact ⟨none, 0, A2_13, c2_14, by unfold f_inside; rw [if_neg (Bool.eq_false_iff.1 h1), if_neg (Bool.eq_false_iff.1 h5), if_neg h6, if_pos h7] <;> rfl, by unfold f_inside; rw [if_neg (Bool.eq_false_iff.1 h1), if_neg (Bool.eq_false_iff.1 h5), if_neg h6, if_pos h7] <;> rfl⟩
  refine J.skip ?_
  refine JN.code ?_
  refine J.seq ?_
  refine J.sch (.qt 0 (.qt 1 (.qt 2 (.qt 3 (.qt 4 (.qt 5 (.qt 6 (.qt 7 (.qt 9 (.qt 10 (.qt 11 (.ef 8 [3, 10] (.qt 12 (.ef 13 [] (.qt 14 (.qt 15 (.qt 16 (.qt 17 (.ef 18 [] (.done)))))))))))))))))))) mixed (by repeat (first | exact Xe.noLook_body | refine noLook_then ?_ | refine noLook_block ?_)) (by kernel_rfl) ?_
  refine JS.q0 rfl (Qt.move rfl) rfl ?_
  refine JS.q0 rfl (Qt.nck rfl) rfl ?_
  refine JS.q0 rfl (Qt.fa (o' := 0) fo252_0 rfl rfl) rfl ?_
  refine JS.q1 (j := 2) rfl rfl rfl (Qt.ld 0 pl249 rfl rfl rfl) rfl ?_
  refine JS.q0 rfl (Qt.move rfl) rfl ?_
  refine JS.q0 rfl (Qt.nck rfl) rfl ?_
  refine JS.q0 rfl (Qt.fa (o' := 0) fo252_0 rfl rfl) rfl ?_
  refine JS.q1 (j := 2) rfl rfl rfl (Qt.ld 0 pl249 rfl rfl rfl) rfl ?_
  refine JS.q0 rfl (Qt.fa (o' := 3) fo40_3 rfl rfl) rfl ?_
  refine JS.q1 (j := 3) rfl rfl rfl (Qt.ld 0 pl3 rfl rfl rfl) rfl ?_
  refine JS.q0 rfl (Qt.bi (fun _ _ => max_run) rfl) rfl ?_
  refine JS.e1 ?_
  refine JE.ef rfl (O1.call Tryz.func133 rfl rfl rfl [0, 0] rfl (s_left q_5 A2_6 c2_7 r.Body ((f_rns r.Body 0 false (⟨r.Type_, r.Flags, r.Stream, -1, [], [], 0, 0, false, 0, 0, 0, 0⟩ : ApiFrame)).2.2) (f_rns_le (by first | exact Nat.zero_le _ | exact f_rn1_le (Nat.zero_le _))))) rfl ?_
  rintro _ _ ⟨_, ⟨rfl, rfl⟩, rfl⟩
  refine ⟨⟨.inr ⟨3, _, rfl⟩, ⟨.inl rfl, ⟨.inr ⟨2, _, rfl⟩, trivial⟩⟩⟩, ?_⟩
  refine JS.q0 rfl (Qt.bin (fun _ => sub_run) rfl rfl rfl) rfl ?_
  refine JS.e1 ?_
  refine JE.ef rfl (O1.call Tryz.func135 rfl rfl rfl [0, 0] rfl (s_bytes q_5 A2_6 c2_7 r.Body ((f_rns r.Body 0 false (⟨r.Type_, r.Flags, r.Stream, -1, [], [], 0, 0, false, 0, 0, 0, 0⟩ : ApiFrame)).2.2) (IntKind.i64.wrap ((((r.Body.drop ((f_rns r.Body 0 false (⟨r.Type_, r.Flags, r.Stream, -1, [], [], 0, 0, false, 0, 0, 0, 0⟩ : ApiFrame)).2.2)).length : Nat) : Int) - (max (((f_rns r.Body 0 false (⟨r.Type_, r.Flags, r.Stream, -1, [], [], 0, 0, false, 0, 0, 0, 0⟩ : ApiFrame)).1).Pad) 0))) (f_rns_le (by first | exact Nat.zero_le _ | exact f_rn1_le (Nat.zero_le _))))) rfl ?_
  rintro _ _ ⟨_, ⟨A2_15, c2_16, rfl, rfl⟩, rfl⟩
  refine ⟨⟨.inl rfl, ⟨.inl rfl, ⟨.inl rfl, trivial⟩⟩⟩, ?_⟩
  refine JS.q0 rfl (Qt.move rfl) rfl ?_
  refine JS.q0 rfl (Qt.extract rfl rfl) rfl ?_
  refine JS.q0 rfl (Qt.extract rfl rfl) rfl ?_
  refine JS.q0 rfl (Qt.fa (o' := 4) fo40_4 rfl rfl) rfl ?_
  refine JS.e1 ?_
  refine JE.sk rfl (O1.st 4 sz37 rfl rfl rfl rfl rfl rfl) ⟨.inl rfl, ⟨.inl rfl, ⟨.inl rfl, trivial⟩⟩⟩ ?_
  refine JS.done ?_
  refine JN.code ?_
  refine J.seq ?_
  refine J.keep [2, 3, 4] rfl ?_
  refine J.region ?_
  refine JL.qt (Qt.ldA 0 ag40 sz40 rfl rfl rfl rfl) rfl ?_
  refine JL.qt (Qt.build sp104 ze104 rfl rfl) rfl ?_
  refine JL.sk (O1.stA 7 sz40 rfl rfl rfl rfl rfl rfl rfl rfl) ?_
  refine JL.sk (O1.stA 7 sz104 rfl rfl rfl rfl rfl rfl rfl rfl) ?_
  refine JL.nil ?_
  refine JN.code ?_
  refine J.ret ?_
  refine JN.intro_pers (p := rd kApiSetting none 0 []) (fun w R => rd_nil' w R) ?_
  refine JN.backR (rs := [.cell 2 40, .cell 3 104]) (vs := [.agg #[.int .i64 (((f_rns r.Body 0 false (⟨r.Type_, r.Flags, r.Stream, -1, [], [], 0, 0, false, 0, 0, 0, 0⟩ : ApiFrame)).1).Type_), .int .i64 (((f_rns r.Body 0 false (⟨r.Type_, r.Flags, r.Stream, -1, [], [], 0, 0, false, 0, 0, 0, 0⟩ : ApiFrame)).1).Flags), .int .i64 (((f_rns r.Body 0 false (⟨r.Type_, r.Flags, r.Stream, -1, [], [], 0, 0, false, 0, 0, 0, 0⟩ : ApiFrame)).1).Stream), .int .i64 (((f_rns r.Body 0 false (⟨r.Type_, r.Flags, r.Stream, -1, [], [], 0, 0, false, 0, 0, 0, 0⟩ : ApiFrame)).1).Pad), .slice A2_15 (((f_bytes r.Body ((f_rns r.Body 0 false (⟨r.Type_, r.Flags, r.Stream, -1, [], [], 0, 0, false, 0, 0, 0, 0⟩ : ApiFrame)).2.2) (IntKind.i64.wrap ((((r.Body.drop ((f_rns r.Body 0 false (⟨r.Type_, r.Flags, r.Stream, -1, [], [], 0, 0, false, 0, 0, 0, 0⟩ : ApiFrame)).2.2)).length : Nat) : Int) - (max (((f_rns r.Body 0 false (⟨r.Type_, r.Flags, r.Stream, -1, [], [], 0, 0, false, 0, 0, 0, 0⟩ : ApiFrame)).1).Pad) 0)))).1).length) c2_16, .slice none 0 0, .int .i64 (((f_rns r.Body 0 false (⟨r.Type_, r.Flags, r.Stream, -1, [], [], 0, 0, false, 0, 0, 0, 0⟩ : ApiFrame)).1).Weight), .int .i64 (((f_rns r.Body 0 false (⟨r.Type_, r.Flags, r.Stream, -1, [], [], 0, 0, false, 0, 0, 0, 0⟩ : ApiFrame)).1).Parent), .bool (((f_rns r.Body 0 false (⟨r.Type_, r.Flags, r.Stream, -1, [], [], 0, 0, false, 0, 0, 0, 0⟩ : ApiFrame)).1).Alone), .int .i64 (((f_rns r.Body 0 false (⟨r.Type_, r.Flags, r.Stream, -1, [], [], 0, 0, false, 0, 0, 0, 0⟩ : ApiFrame)).1).Promised), .int .i64 (((f_rns r.Body 0 false (⟨r.Type_, r.Flags, r.Stream, -1, [], [], 0, 0, false, 0, 0, 0, 0⟩ : ApiFrame)).1).Last), .int .i64 (((f_rns r.Body 0 false (⟨r.Type_, r.Flags, r.Stream, -1, [], [], 0, 0, false, 0, 0, 0, 0⟩ : ApiFrame)).1).Code), .int .i64 (((f_rns r.Body 0 false (⟨r.Type_, r.Flags, r.Stream, -1, [], [], 0, 0, false, 0, 0, 0, 0⟩ : ApiFrame)).1).Step)], .agg #[.int .i64 0, .int .i64 0]]) rfl ?_ [5, 0, 6] rfl ?_
  · exact .cell (x := 2) (t := 40) (b := b_2) (o := 0) rfl (Qt.ldA (cs := [.int .i64 (((f_rns r.Body 0 false (⟨r.Type_, r.Flags, r.Stream, -1, [], [], 0, 0, false, 0, 0, 0, 0⟩ : ApiFrame)).1).Type_), .int .i64 (((f_rns r.Body 0 false (⟨r.Type_, r.Flags, r.Stream, -1, [], [], 0, 0, false, 0, 0, 0, 0⟩ : ApiFrame)).1).Flags), .int .i64 (((f_rns r.Body 0 false (⟨r.Type_, r.Flags, r.Stream, -1, [], [], 0, 0, false, 0, 0, 0, 0⟩ : ApiFrame)).1).Stream), .int .i64 (((f_rns r.Body 0 false (⟨r.Type_, r.Flags, r.Stream, -1, [], [], 0, 0, false, 0, 0, 0, 0⟩ : ApiFrame)).1).Pad), .slice A2_15 (((f_bytes r.Body ((f_rns r.Body 0 false (⟨r.Type_, r.Flags, r.Stream, -1, [], [], 0, 0, false, 0, 0, 0, 0⟩ : ApiFrame)).2.2) (IntKind.i64.wrap ((((r.Body.drop ((f_rns r.Body 0 false (⟨r.Type_, r.Flags, r.Stream, -1, [], [], 0, 0, false, 0, 0, 0, 0⟩ : ApiFrame)).2.2)).length : Nat) : Int) - (max (((f_rns r.Body 0 false (⟨r.Type_, r.Flags, r.Stream, -1, [], [], 0, 0, false, 0, 0, 0, 0⟩ : ApiFrame)).1).Pad) 0)))).1).length) c2_16, .slice none 0 0, .int .i64 (((f_rns r.Body 0 false (⟨r.Type_, r.Flags, r.Stream, -1, [], [], 0, 0, false, 0, 0, 0, 0⟩ : ApiFrame)).1).Weight), .int .i64 (((f_rns r.Body 0 false (⟨r.Type_, r.Flags, r.Stream, -1, [], [], 0, 0, false, 0, 0, 0, 0⟩ : ApiFrame)).1).Parent), .bool (((f_rns r.Body 0 false (⟨r.Type_, r.Flags, r.Stream, -1, [], [], 0, 0, false, 0, 0, 0, 0⟩ : ApiFrame)).1).Alone), .int .i64 (((f_rns r.Body 0 false (⟨r.Type_, r.Flags, r.Stream, -1, [], [], 0, 0, false, 0, 0, 0, 0⟩ : ApiFrame)).1).Promised), .int .i64 (((f_rns r.Body 0 false (⟨r.Type_, r.Flags, r.Stream, -1, [], [], 0, 0, false, 0, 0, 0, 0⟩ : ApiFrame)).1).Last), .int .i64 (((f_rns r.Body 0 false (⟨r.Type_, r.Flags, r.Stream, -1, [], [], 0, 0, false, 0, 0, 0, 0⟩ : ApiFrame)).1).Code), .int .i64 (((f_rns r.Body 0 false (⟨r.Type_, r.Flags, r.Stream, -1, [], [], 0, 0, false, 0, 0, 0, 0⟩ : ApiFrame)).1).Step)]) 2 ag40 sz40 rfl rfl rfl rfl) (.cell (x := 3) (t := 104) (b := b_3) (o := 0) rfl (Qt.ldA (cs := [.int .i64 0, .int .i64 0]) 1 ag104 sz104 rfl rfl rfl rfl) .nil)
  exact ⟨A2_15, c2_16, none, 0, by unfold f_inside; rw [if_neg (Bool.eq_false_iff.1 h1), if_neg (Bool.eq_false_iff.1 h5), if_neg h6, if_neg h7] <;> rfl, by unfold f_inside; rw [if_neg (Bool.eq_false_iff.1 h1), if_neg (Bool.eq_false_iff.1 h5), if_neg h6, if_neg h7] <;> rfl⟩
end Go.Proofs.YthjbkngecgbioaaGreatDoor.Sl

/- Walks: a frame is read; frames are the same. -/
set_option maxRecDepth 100000
set_option linter.unusedSimpArgs false
set_option linter.unusedVariables false
namespace Go.Proofs.YthjbkngecgbioaaGreatDoor.Sl
open Go
theorem ze199 : zeroTy Tryz.prog 199 = some [.int .i64 0, .int .i64 0, .int .i64 0, .int .i64 0, .int .i64 0, .int .i64 0, .int .i64 0, .int .i64 0, .int .i64 0, .int .i64 0] := by kernel_rfl
theorem sz199 : szTy Tryz.prog 199 = some 10 := by kernel_rfl
theorem ag199 : aggTy Tryz.prog 199 = true := by kernel_rfl
theorem q198_eql {a0 b0 : Int} {a1 b1 : Int} {x y : Operand} (w : World) : (do eqGuard .eql 198 x y (.agg #[.int .i64 a0, .int .i64 a1]) (.agg #[.int .i64 b0, .int .i64 b1]); binOp .eql 198 (.agg #[.int .i64 a0, .int .i64 a1]) (.agg #[.int .i64 b0, .int .i64 b1]) : Sem Value).run Tryz.prog w = .ok (.bool ((a0 == b0) && ((a1 == b1)))) w := aggEq_eql Tryz.underlying198 (by kernel_rfl) (by kernel_rfl) (eqf_cons rfl (Xe.run_part pl3 rfl) (Xe.run_part pl3 rfl) (run_equalIn_int w _ _ _ _ _ _ Tryz.underlying3) (eqf_last rfl (Xe.run_part pl3 rfl) (Xe.run_part pl3 rfl) (run_equalIn_int w _ _ _ _ _ _ Tryz.underlying3)))
theorem q198_neq {a0 b0 : Int} {a1 b1 : Int} {x y : Operand} (w : World) : (do eqGuard .neq 198 x y (.agg #[.int .i64 a0, .int .i64 a1]) (.agg #[.int .i64 b0, .int .i64 b1]); binOp .neq 198 (.agg #[.int .i64 a0, .int .i64 a1]) (.agg #[.int .i64 b0, .int .i64 b1]) : Sem Value).run Tryz.prog w = .ok (.bool (!((a0 == b0) && ((a1 == b1))))) w := aggEq_neq Tryz.underlying198 (by kernel_rfl) (by kernel_rfl) (eqf_cons rfl (Xe.run_part pl3 rfl) (Xe.run_part pl3 rfl) (run_equalIn_int w _ _ _ _ _ _ Tryz.underlying3) (eqf_last rfl (Xe.run_part pl3 rfl) (Xe.run_part pl3 rfl) (run_equalIn_int w _ _ _ _ _ _ Tryz.underlying3)))
theorem q199_eql {la lb : List Int} {x y : Operand} (hl : la.length = 10) (hl2 : lb.length = 10) (w : World) : (do eqGuard .eql 199 x y (.agg (la.map (.int .i64)).toArray) (.agg (lb.map (.int .i64)).toArray); binOp .eql 199 (.agg (la.map (.int .i64)).toArray) (.agg (lb.map (.int .i64)).toArray) : Sem Value).run Tryz.prog w = .ok (.bool (eqInts la lb)) w := arrEq_eql Tryz.underlying199 Tryz.underlying3 sz3 pl3 (by kernel_rfl) hl hl2
def f_eqS : List ApiSetting → List ApiSetting → Bool
  | a :: la, b :: lb => ((a.Id == b.Id) && (a.Value == b.Value)) && f_eqS la lb
  | [], [] => true
  | _, _ => false
theorem f_eqS_len : ∀ {la lb : List ApiSetting}, la.length ≠ lb.length → f_eqS la lb = false
  | [], [], h => absurd rfl h
  | [], _ :: _, _ => rfl
  | _ :: _, [], _ => rfl
  | a :: la, b :: lb, h => by rw [f_eqS, f_eqS_len (la := la) (lb := lb) (by simpa using h), Bool.and_false]
def f_parse (r : ApiRaw) : ApiFrame × ApiFault × Int := if (f_headRight (f_headOf r)) = true then if (f_streamed r) = true then if (f_sized r) = true then (((f_inside r).1), ((f_inside r).2), 0) else ((⟨0, 0, 0, 0, [], [], 0, 0, false, 0, 0, 0, 0⟩ : ApiFrame), (f_frame_fault (f_frame_scope r.Type_) 6), 0) else ((⟨0, 0, 0, 0, [], [], 0, 0, false, 0, 0, 0, 0⟩ : ApiFrame), (f_frame_fault 2 1), 0) else ((⟨0, 0, 0, 0, [], [], 0, 0, false, 0, 0, 0, 0⟩ : ApiFrame), (⟨0, 0⟩ : ApiFault), 1)
def f_octSame (xs : List Int) (ys : List Int) : Bool := ((textOf xs).toList == (textOf ys).toList)
def f_frSame (a : ApiFrame) (b : ApiFrame) : Bool := if (f_octSame a.Data b.Data) = true then if (f_eqS a.Settings b.Settings) = true then if (eqInts [a.Type_, a.Flags, a.Stream, a.Pad, a.Weight, a.Parent, a.Promised, a.Last, a.Code, a.Step] [b.Type_, b.Flags, b.Stream, b.Pad, b.Weight, b.Parent, b.Promised, b.Last, b.Code, b.Step]) = true then (a.Alone == b.Alone) else false else false else false
theorem s_parse (r : ApiRaw) (Ar5 : Option Addr) (cr5 : Nat) (hb : r.Body.length ≤ 2000000000) :
    Spec Tryz.prog 64 [.agg #[.int .i64 r.From, .int .i64 r.Type_, .int .i64 r.Flags, .int .i64 r.Stream, .bool r.Res, .slice Ar5 r.Body.length cr5]].toArray [rd (Kd.int .u8) Ar5 cr5 r.Body] (fun v L => ∃ (A2 : Option Addr), ∃ (c2 : Nat), ∃ (A3 : Option Addr), ∃ (c3 : Nat), v = .tuple #[.agg #[.int .i64 (((f_parse r).1).Type_), .int .i64 (((f_parse r).1).Flags), .int .i64 (((f_parse r).1).Stream), .int .i64 (((f_parse r).1).Pad), .slice A2 (((f_parse r).1).Data.length) c2, .slice A3 (((f_parse r).1).Settings.length) c3, .int .i64 (((f_parse r).1).Weight), .int .i64 (((f_parse r).1).Parent), .bool (((f_parse r).1).Alone), .int .i64 (((f_parse r).1).Promised), .int .i64 (((f_parse r).1).Last), .int .i64 (((f_parse r).1).Code), .int .i64 (((f_parse r).1).Step)], .agg #[.int .i64 (((f_parse r).2.1).Scope), .int .i64 (((f_parse r).2.1).Code)], .int .i64 ((f_parse r).2.2)] ∧ L = [rd (Kd.int .u8) A2 c2 (((f_parse r).1).Data), rd kApiSetting A3 c3 (((f_parse r).1).Settings), rd (Kd.int .u8) Ar5 cr5 r.Body]) := by
  refine Spec.enter Tryz.func64 rfl Tryz.ntmps64 rfl rfl (fun w0 R0 F0 => ?_)
  refine J.seq ?_
  refine J.region ?_
  refine JL.ef (O1.box rfl rfl) rfl ?_
  rintro _ _ ⟨b_1, rfl, rfl⟩
  refine JL.ef (O1.alloc ze40) rfl ?_
  rintro _ _ ⟨b_2, rfl, rfl⟩
  refine JL.ef (O1.alloc ze104) rfl ?_
  rintro _ _ ⟨b_3, rfl, rfl⟩
  refine JL.qt (Qt.assign rfl) rfl ?_
  refine JL.nil ?_
  refine JN.code ?_
  refine J.seq ?_
  refine J.block ?_
  refine J.seq ?_
  refine J.region ?_
  refine JL.qt (Qt.ldA 2 ag45 sz45 rfl rfl rfl rfl) rfl ?_
  refine JL.call (O1.call Tryz.func25 rfl rfl rfl [3] rfl (s_headOf r Ar5 cr5)) rfl ?_
  rintro _ _ ⟨rfl, rfl⟩
  refine JL.call (O1.call Tryz.func40 rfl rfl rfl [] rfl (s_headRight (f_headOf r))) rfl ?_
  rintro _ _ ⟨rfl, rfl⟩
  refine JL.qt (Qt.un (fun _ => not_run) rfl) rfl ?_
  refine JL.qt (Qt.assign rfl) rfl ?_
  refine JL.nil ?_
  refine JN.code ?_
  refine J.cond_not rfl (fun h1 => ?_) (fun h1 => ?_)
  · refine J.seq ?_
    refine J.region ?_
    refine JL.qt (Qt.build sp40 ze40 rfl rfl) rfl ?_
    refine JL.qt (Qt.build sp104 ze104 rfl rfl) rfl ?_
    refine JL.sk (O1.stA 2 sz40 rfl rfl rfl rfl rfl rfl rfl rfl) ?_
    refine JL.sk (O1.stA 2 sz104 rfl rfl rfl rfl rfl rfl rfl rfl) ?_
    refine JL.qt (Qt.assign rfl) rfl ?_
    refine JL.nil ?_
    refine JN.code ?_
    refine J.ret ?_
    refine JN.intro_pers (p := rd (Kd.int .u8) none 0 []) (fun w R => rd_nil' w R) ?_
    refine JN.intro_pers (p := rd kApiSetting none 0 []) (fun w R => rd_nil' w R) ?_
    refine JN.backR (rs := [.cell 2 40, .cell 3 104, .tmp 4]) (vs := [.agg #[.int .i64 0, .int .i64 0, .int .i64 0, .int .i64 0, .slice none 0 0, .slice none 0 0, .int .i64 0, .int .i64 0, .bool false, .int .i64 0, .int .i64 0, .int .i64 0, .int .i64 0], .agg #[.int .i64 0, .int .i64 0], .int .i64 1]) rfl ?_ [1, 0, 2] rfl ?_
    · exact .cell (x := 2) (t := 40) (b := b_2) (o := 0) rfl (Qt.ldA (cs := [.int .i64 0, .int .i64 0, .int .i64 0, .int .i64 0, .slice none 0 0, .slice none 0 0, .int .i64 0, .int .i64 0, .bool false, .int .i64 0, .int .i64 0, .int .i64 0, .int .i64 0]) 3 ag40 sz40 rfl rfl rfl rfl) (.cell (x := 3) (t := 104) (b := b_3) (o := 0) rfl (Qt.ldA (cs := [.int .i64 0, .int .i64 0]) 2 ag104 sz104 rfl rfl rfl rfl) (.tmp rfl .nil))
    exact ⟨none, 0, none, 0, by unfold f_parse; rw [if_neg (Bool.eq_false_iff.1 h1)] <;> rfl, by unfold f_parse; rw [if_neg (Bool.eq_false_iff.1 h1)] <;> rfl⟩
  refine J.seq ?_
  refine J.region ?_
  refine JL.qt (Qt.ldA 3 ag45 sz45 rfl rfl rfl rfl) rfl ?_
  refine JL.call (O1.call Tryz.func88 rfl rfl rfl [0] rfl (s_streamed r Ar5 cr5)) rfl ?_
  rintro _ _ ⟨rfl, rfl⟩
  refine JL.qt (Qt.un (fun _ => not_run) rfl) rfl ?_
  refine JL.qt (Qt.assign rfl) rfl ?_
  refine JL.nil ?_
  refine JN.code ?_
  refine J.cond_not rfl (fun h2 => ?_) (fun h2 => ?_)
  · refine J.seq ?_
    refine J.region ?_
    refine JL.qt (Qt.build sp40 ze40 rfl rfl) rfl ?_
    refine JL.call (O1.call Tryz.func89 rfl rfl rfl [] rfl (s_frame_fault 2 1)) rfl ?_
    rintro _ _ ⟨rfl, rfl⟩
    refine JL.sk (O1.stA 2 sz40 rfl rfl rfl rfl rfl rfl rfl rfl) ?_
    refine JL.sk (O1.stA 2 sz104 rfl rfl rfl rfl rfl rfl rfl rfl) ?_
    refine JL.qt (Qt.assign rfl) rfl ?_
    refine JL.nil ?_
    refine JN.code ?_
    refine J.ret ?_
    refine JN.intro_pers (p := rd (Kd.int .u8) none 0 []) (fun w R => rd_nil' w R) ?_
    refine JN.intro_pers (p := rd kApiSetting none 0 []) (fun w R => rd_nil' w R) ?_
    refine JN.backR (rs := [.cell 2 40, .cell 3 104, .tmp 4]) (vs := [.agg #[.int .i64 0, .int .i64 0, .int .i64 0, .int .i64 0, .slice none 0 0, .slice none 0 0, .int .i64 0, .int .i64 0, .bool false, .int .i64 0, .int .i64 0, .int .i64 0, .int .i64 0], .agg #[.int .i64 ((f_frame_fault 2 1).Scope), .int .i64 ((f_frame_fault 2 1).Code)], .int .i64 0]) rfl ?_ [1, 0, 2] rfl ?_
    · exact .cell (x := 2) (t := 40) (b := b_2) (o := 0) rfl (Qt.ldA (cs := [.int .i64 0, .int .i64 0, .int .i64 0, .int .i64 0, .slice none 0 0, .slice none 0 0, .int .i64 0, .int .i64 0, .bool false, .int .i64 0, .int .i64 0, .int .i64 0, .int .i64 0]) 3 ag40 sz40 rfl rfl rfl rfl) (.cell (x := 3) (t := 104) (b := b_3) (o := 0) rfl (Qt.ldA (cs := [.int .i64 ((f_frame_fault 2 1).Scope), .int .i64 ((f_frame_fault 2 1).Code)]) 2 ag104 sz104 rfl rfl rfl rfl) (.tmp rfl .nil))
    exact ⟨none, 0, none, 0, by unfold f_parse; rw [if_pos h1, if_neg (Bool.eq_false_iff.1 h2)] <;> rfl, by unfold f_parse; rw [if_pos h1, if_neg (Bool.eq_false_iff.1 h2)] <;> rfl⟩
  refine J.seq ?_
  refine J.region ?_
  refine JL.qt (Qt.ldA 3 ag45 sz45 rfl rfl rfl rfl) rfl ?_
  refine JL.call (O1.call Tryz.func90 rfl rfl rfl [0] rfl (s_sized r Ar5 cr5)) rfl ?_
  rintro _ _ ⟨rfl, rfl⟩
  refine JL.qt (Qt.un (fun _ => not_run) rfl) rfl ?_
  refine JL.qt (Qt.assign rfl) rfl ?_
  refine JL.nil ?_
  refine JN.code ?_
  refine J.cond_not rfl (fun h3 => ?_) (fun h3 => ?_)
  · refine J.seq ?_
    refine J.region ?_
    refine JL.qt (Qt.build sp40 ze40 rfl rfl) rfl ?_
    refine JL.qt (Qt.fa (o' := 1) fo45_1 rfl rfl) rfl ?_
    refine JL.qt (Qt.ld 3 pl3 rfl rfl rfl) rfl ?_
    refine JL.call (O1.call Tryz.func91 rfl rfl rfl [] rfl (s_frame_scope r.Type_)) rfl ?_
    rintro _ _ ⟨rfl, rfl⟩
    refine JL.call (O1.call Tryz.func89 rfl rfl rfl [] rfl (s_frame_fault (f_frame_scope r.Type_) 6)) rfl ?_
    rintro _ _ ⟨rfl, rfl⟩
    refine JL.sk (O1.stA 2 sz40 rfl rfl rfl rfl rfl rfl rfl rfl) ?_
    refine JL.sk (O1.stA 2 sz104 rfl rfl rfl rfl rfl rfl rfl rfl) ?_
    refine JL.qt (Qt.assign rfl) rfl ?_
    refine JL.nil ?_
    refine JN.code ?_
    refine J.ret ?_
    refine JN.intro_pers (p := rd (Kd.int .u8) none 0 []) (fun w R => rd_nil' w R) ?_
    refine JN.intro_pers (p := rd kApiSetting none 0 []) (fun w R => rd_nil' w R) ?_
    refine JN.backR (rs := [.cell 2 40, .cell 3 104, .tmp 4]) (vs := [.agg #[.int .i64 0, .int .i64 0, .int .i64 0, .int .i64 0, .slice none 0 0, .slice none 0 0, .int .i64 0, .int .i64 0, .bool false, .int .i64 0, .int .i64 0, .int .i64 0, .int .i64 0], .agg #[.int .i64 ((f_frame_fault (f_frame_scope r.Type_) 6).Scope), .int .i64 ((f_frame_fault (f_frame_scope r.Type_) 6).Code)], .int .i64 0]) rfl ?_ [1, 0, 2] rfl ?_
    · exact .cell (x := 2) (t := 40) (b := b_2) (o := 0) rfl (Qt.ldA (cs := [.int .i64 0, .int .i64 0, .int .i64 0, .int .i64 0, .slice none 0 0, .slice none 0 0, .int .i64 0, .int .i64 0, .bool false, .int .i64 0, .int .i64 0, .int .i64 0, .int .i64 0]) 3 ag40 sz40 rfl rfl rfl rfl) (.cell (x := 3) (t := 104) (b := b_3) (o := 0) rfl (Qt.ldA (cs := [.int .i64 ((f_frame_fault (f_frame_scope r.Type_) 6).Scope), .int .i64 ((f_frame_fault (f_frame_scope r.Type_) 6).Code)]) 2 ag104 sz104 rfl rfl rfl rfl) (.tmp rfl .nil))
    exact ⟨none, 0, none, 0, by unfold f_parse; rw [if_pos h1, if_pos h2, if_neg (Bool.eq_false_iff.1 h3)] <;> rfl, by unfold f_parse; rw [if_pos h1, if_pos h2, if_neg (Bool.eq_false_iff.1 h3)] <;> rfl⟩
  refine J.skip ?_
  refine JN.code ?_
  refine J.seq ?_
  refine J.region ?_
  refine JL.qt (Qt.ldA 3 ag45 sz45 rfl rfl rfl rfl) rfl ?_
  refine JL.call (O1.call Tryz.func92 rfl rfl rfl [0] rfl (s_inside r Ar5 cr5 (by omega))) rfl ?_
  rintro _ _ ⟨A2_4, c2_5, A3_6, c3_7, rfl, rfl⟩
  refine JL.qt (Qt.move rfl) rfl ?_
  refine JL.qt (Qt.extract rfl rfl) rfl ?_
  refine JL.qt (Qt.extract rfl rfl) rfl ?_
  refine JL.ef (O1.alloc ze40) rfl ?_
  rintro _ _ ⟨b_8, rfl, rfl⟩
  refine JL.ef (O1.alloc ze104) rfl ?_
  rintro _ _ ⟨b_9, rfl, rfl⟩
  refine JL.sk (O1.stA 1 sz40 rfl rfl rfl rfl rfl rfl rfl rfl) ?_
  refine JL.sk (O1.stA 1 sz104 rfl rfl rfl rfl rfl rfl rfl rfl) ?_
  refine JL.nil ?_
  refine JN.code ?_
  refine J.seq ?_
  refine J.keep [2, 3, 4, 5, 6] rfl ?_
  refine J.sch (.qt 0 (.qt 1 (.ef 2 [1] (.ef 3 [] (.qt 4 (.done)))))) mixed (by repeat (first | exact Xe.noLook_body | refine noLook_then ?_ | refine noLook_block ?_)) (by kernel_rfl) ?_
  refine JS.q1 (j := 1) rfl rfl rfl (Qt.ldA 0 ag40 sz40 rfl rfl rfl rfl) rfl ?_
  refine JS.q1 (j := 0) rfl rfl rfl (Qt.ldA 0 ag104 sz104 rfl rfl rfl rfl) rfl ?_
  refine JS.e1 ?_
  refine JE.sk rfl (O1.stA 6 sz40 rfl rfl rfl rfl rfl rfl rfl rfl) ⟨.inr ⟨1, _, rfl⟩, ⟨.inl rfl, trivial⟩⟩ ?_
  refine JS.e1 ?_
  refine JE.sk rfl (O1.stA 6 sz104 rfl rfl rfl rfl rfl rfl rfl rfl) ⟨.inl rfl, ⟨.inl rfl, trivial⟩⟩ ?_
  refine JS.q0 rfl (Qt.assign rfl) rfl ?_
  refine JS.done ?_
  refine JN.code ?_
  refine J.ret ?_
  refine JN.backR (rs := [.cell 2 40, .cell 3 104, .tmp 4]) (vs := [.agg #[.int .i64 (((f_inside r).1).Type_), .int .i64 (((f_inside r).1).Flags), .int .i64 (((f_inside r).1).Stream), .int .i64 (((f_inside r).1).Pad), .slice A2_4 (((f_inside r).1).Data.length) c2_5, .slice A3_6 (((f_inside r).1).Settings.length) c3_7, .int .i64 (((f_inside r).1).Weight), .int .i64 (((f_inside r).1).Parent), .bool (((f_inside r).1).Alone), .int .i64 (((f_inside r).1).Promised), .int .i64 (((f_inside r).1).Last), .int .i64 (((f_inside r).1).Code), .int .i64 (((f_inside r).1).Step)], .agg #[.int .i64 (((f_inside r).2).Scope), .int .i64 (((f_inside r).2).Code)], .int .i64 0]) rfl ?_ [4, 4, 4] rfl ?_
  · exact .cell (x := 2) (t := 40) (b := b_2) (o := 0) rfl (Qt.ldA (cs := [.int .i64 (((f_inside r).1).Type_), .int .i64 (((f_inside r).1).Flags), .int .i64 (((f_inside r).1).Stream), .int .i64 (((f_inside r).1).Pad), .slice A2_4 (((f_inside r).1).Data.length) c2_5, .slice A3_6 (((f_inside r).1).Settings.length) c3_7, .int .i64 (((f_inside r).1).Weight), .int .i64 (((f_inside r).1).Parent), .bool (((f_inside r).1).Alone), .int .i64 (((f_inside r).1).Promised), .int .i64 (((f_inside r).1).Last), .int .i64 (((f_inside r).1).Code), .int .i64 (((f_inside r).1).Step)]) 1 ag40 sz40 rfl rfl rfl rfl) (.cell (x := 3) (t := 104) (b := b_3) (o := 0) rfl (Qt.ldA (cs := [.int .i64 (((f_inside r).2).Scope), .int .i64 (((f_inside r).2).Code)]) 0 ag104 sz104 rfl rfl rfl rfl) (.tmp rfl .nil))
  exact ⟨A2_4, c2_5, A3_6, c3_7, by unfold f_parse; rw [if_pos h1, if_pos h2, if_pos h3] <;> rfl, by unfold f_parse; rw [if_pos h1, if_pos h2, if_pos h3] <;> rfl⟩
theorem s_octSame (A1 : Option Addr) (c1 : Nat) (xs : List Int) (A2 : Option Addr) (c2 : Nat) (ys : List Int) :
    Spec Tryz.prog 93 [.slice A1 xs.length c1, .slice A2 ys.length c2].toArray [rd (Kd.int .u8) A1 c1 xs, rd (Kd.int .u8) A2 c2 ys] (fun v L => v = .bool (f_octSame xs ys) ∧ L = [rd (Kd.int .u8) A1 c1 xs, rd (Kd.int .u8) A2 c2 ys]) := by
  refine Spec.enter Tryz.func93 rfl Tryz.ntmps93 rfl rfl (fun w0 R0 F0 => ?_)
  refine J.seq ?_
  refine J.region ?_
  refine JL.qt (Qt.assign rfl) rfl ?_
  refine JL.nil ?_
  refine JN.code ?_
  refine J.seq ?_
  refine J.region ?_
  refine JL.qt (Qt.move rfl) rfl ?_
  refine JL.qt (Qt.toText 0 Tryz.underlying37 Tryz.underlying5 Tryz.underlying9 rfl rfl) rfl ?_
  refine JL.qt (Qt.move rfl) rfl ?_
  refine JL.qt (Qt.toText 1 Tryz.underlying37 Tryz.underlying5 Tryz.underlying9 rfl rfl) rfl ?_
  refine JL.qt (Qt.bin (fun _ => seql_run) rfl rfl rfl) rfl ?_
  refine JL.qt (Qt.assign rfl) rfl ?_
  refine JL.nil ?_
  refine JN.code ?_
  refine J.ret ?_
  refine JN.back (res1 rfl rfl) [0, 0] rfl ?_
  exact ⟨by unfold f_octSame; rfl, rfl⟩
theorem s_eqS (A1 : Option Addr) (c1 : Nat) (xs : List ApiSetting) (A2 : Option Addr) (c2 : Nat) (ys : List ApiSetting) :
    Spec Tryz.prog 94 [.slice A1 xs.length c1, .slice A2 ys.length c2].toArray [rd kApiSetting A1 c1 xs, rd kApiSetting A2 c2 ys] (fun v L => v = .bool (f_eqS xs ys) ∧ L = [rd kApiSetting A1 c1 xs, rd kApiSetting A2 c2 ys]) := by
  refine Spec.enter Tryz.func94 rfl Tryz.ntmps94 rfl rfl (fun w0 R0 F0 => ?_)
  refine J.seq ?_
  refine J.region ?_
  refine JL.qt (Qt.assign rfl) rfl ?_
  refine JL.nil ?_
  refine JN.code ?_
  refine J.seq ?_
  refine J.seq ?_
  refine J.region ?_
  refine JL.qt (Qt.move rfl) rfl ?_
  refine JL.qt (Qt.bi (fun _ _ => len_slice_run Tryz.underlying38) rfl) rfl ?_
  refine JL.qt (Qt.move rfl) rfl ?_
  refine JL.qt (Qt.bi (fun _ _ => len_slice_run Tryz.underlying38) rfl) rfl ?_
  refine JL.qt (Qt.bin (fun _ => neq_run) rfl rfl rfl) rfl ?_
  refine JL.nil ?_
  refine JN.code ?_
  refine J.cond_ne rfl (fun h1 => ?_) (fun h1 => ?_)
  · refine J.seq ?_
    refine J.region ?_
    refine JL.qt (Qt.assign rfl) rfl ?_
    refine JL.nil ?_
    refine JN.code ?_
    refine J.ret ?_
    refine JN.back (res1 rfl rfl) [0, 0] rfl ?_
    exact ⟨by rw [f_eqS_len (by omega)], rfl⟩
  refine J.skip ?_
  refine JN.code ?_
  refine J.seq ?_
  refine J.seq ?_
  refine J.region ?_
  refine JL.qt (Qt.move rfl) rfl ?_
  refine JL.qt (Qt.bi (fun _ _ => len_slice_run Tryz.underlying38) rfl) rfl ?_
  refine JL.qt (Qt.move rfl) rfl ?_
  refine JL.nil ?_
  refine JN.code ?_
  refine J.block ?_
  refine J.tell 0 rfl rd_tell (fun ⟨ht1, ht2⟩ => ?_)
  refine J.loop1 (fun (i : Nat) => [(0, .slice A1 xs.length c1), (1, .slice A2 ys.length c2), (4, .bool false), (12, .int .i64 ((xs.length : Nat) : Int)), (13, .int .i64 (i : Int))]) (fun (i : Nat) => [rd kApiSetting A1 c1 xs, rd kApiSetting A2 c2 ys]) (fun (i : Nat) => i ≤ xs.length ∧ f_eqS (xs.drop i) (ys.drop i) = f_eqS xs ys) (fun (i : Nat) => xs.length - i) 0 ⟨Nat.zero_le _, rfl⟩ ⟨rfl, rfl, rfl, rfl, rfl, trivial⟩ [0, 0] rfl ?_
  rintro i ⟨hi, hI⟩
  refine J.seq ?_
  refine J.region ?_
  refine JL.qt (Qt.bin (fun _ => lss_run) rfl rfl rfl) rfl ?_
  refine JL.nil ?_
  refine JN.code ?_
  refine J.seq ?_
  refine J.cond_dec rfl (fun h2 => ?_) (fun h2 => ?_)
  · refine J.skip ?_
    refine JN.code ?_
    refine J.seq ?_
    refine J.block ?_
    refine J.seq ?_
    refine J.region ?_
    refine JL.qt (Qt.move rfl) rfl ?_
    refine JL.qt (Qt.assign rfl) rfl ?_
    refine JL.nil ?_
    refine JN.code ?_
    refine J.seq ?_
    obtain ⟨u1, hu1⟩ := getk xs i (by omega)
    obtain ⟨u2, hu2⟩ := getk ys i (by omega)
    refine J.elem (k := i) (u := u1) 0 rfl hu1 (fun b_1 o_2 cs_3 hA_4 => ?_); subst hA_4
    refine J.unf0 1 rfl unApiSetting ?_; rintro ⟨rfl, e_5, e_6⟩
    refine J.elem (k := i) (u := u2) 2 rfl hu2 (fun b_7 o_8 cs_9 hA_10 => ?_); subst hA_10
    refine J.unf0 1 rfl unApiSetting ?_; rintro ⟨rfl, e_11, e_12⟩
    refine J.sch (.qt 0 (.qt 1 (.qt 2 (.qt 3 (.qt 4 (.qt 5 (.qt 6 (.qt 7 (.qt 8 (.done)))))))))) mixed (by repeat (first | exact Xe.noLook_body | refine noLook_then ?_ | refine noLook_block ?_)) (by kernel_rfl) ?_
    refine JS.q0 rfl (Qt.move rfl) rfl ?_
    refine JS.q0 rfl (Qt.move rfl) rfl ?_
    refine JS.q0 rfl (Qt.ia Tryz.underlying38 sz198 rfl rfl (by omega) (by omega)) rfl ?_
    refine JS.q1 (j := 1) rfl rfl rfl (Qt.ldA_ro (j := 0) 0 ag198 sz198 rfl rfl rfl rfl rfl) rfl ?_
    refine JS.q0 rfl (Qt.move rfl) rfl ?_
    refine JS.q0 rfl (Qt.move rfl) rfl ?_
    refine JS.q0 rfl (Qt.ia Tryz.underlying38 sz198 rfl rfl (by omega) (by omega)) rfl ?_
    refine JS.q1 (j := 0) rfl rfl rfl (Qt.ldA_ro (j := 0) 0 ag198 sz198 rfl rfl rfl rfl rfl) rfl ?_
    refine JS.q0 rfl (Qt.binA (fun w => q198_neq w) rfl rfl) rfl ?_
    refine JS.done ?_
    refine JN.code ?_
    refine J.cond_not rfl (fun h3 => ?_) (fun h3 => ?_)
    · refine J.seq ?_
      refine J.region ?_
      refine JL.qt (Qt.assign rfl) rfl ?_
      refine JL.nil ?_
      refine JN.code ?_
      refine J.ret ?_
      refine JN.back (res1 rfl rfl) [2, 2] rfl ?_
      exact ⟨by rw [← hI, drop_at hu1, drop_at hu2, f_eqS, h3]; rfl, rfl⟩
    refine J.skip ?_
    refine JN.code ?_
    refine J.region ?_
    refine JL.qt (Qt.bin (fun _ => addN_run rfl (by omega) (by omega)) rfl rfl rfl) rfl ?_
    refine JL.qt (Qt.move rfl) rfl ?_
    refine JL.nil ?_
    refine JN.round1 (z0 := i) (i + 1) (by omega) ⟨by omega, by rw [← hI, drop_at hu1, drop_at hu2, f_eqS, h3]; rfl⟩ ⟨rfl, rfl, rfl, rfl, rfl, trivial⟩ [2, 2] rfl
  refine J.exit ?_
  refine JN.code ?_
  refine J.seq ?_
  refine J.region ?_
  refine JL.qt (Qt.assign rfl) rfl ?_
  refine JL.nil ?_
  refine JN.code ?_
  refine J.ret ?_
  refine JN.back (res1 rfl rfl) [0, 0] rfl ?_
  exact ⟨by rw [← hI, drop_end (by omega), drop_end (by omega)]; rfl, rfl⟩
theorem s_frSame (a : ApiFrame) (b : ApiFrame) (Aa4 : Option Addr) (ca4 : Nat) (Aa5 : Option Addr) (ca5 : Nat) (Ab4 : Option Addr) (cb4 : Nat) (Ab5 : Option Addr) (cb5 : Nat) :
    Spec Tryz.prog 65 [.agg #[.int .i64 a.Type_, .int .i64 a.Flags, .int .i64 a.Stream, .int .i64 a.Pad, .slice Aa4 a.Data.length ca4, .slice Aa5 a.Settings.length ca5, .int .i64 a.Weight, .int .i64 a.Parent, .bool a.Alone, .int .i64 a.Promised, .int .i64 a.Last, .int .i64 a.Code, .int .i64 a.Step], .agg #[.int .i64 b.Type_, .int .i64 b.Flags, .int .i64 b.Stream, .int .i64 b.Pad, .slice Ab4 b.Data.length cb4, .slice Ab5 b.Settings.length cb5, .int .i64 b.Weight, .int .i64 b.Parent, .bool b.Alone, .int .i64 b.Promised, .int .i64 b.Last, .int .i64 b.Code, .int .i64 b.Step]].toArray [rd (Kd.int .u8) Aa4 ca4 a.Data, rd kApiSetting Aa5 ca5 a.Settings, rd (Kd.int .u8) Ab4 cb4 b.Data, rd kApiSetting Ab5 cb5 b.Settings] (fun v L => v = .bool (f_frSame a b) ∧ L = [rd (Kd.int .u8) Aa4 ca4 a.Data, rd kApiSetting Aa5 ca5 a.Settings, rd (Kd.int .u8) Ab4 cb4 b.Data, rd kApiSetting Ab5 cb5 b.Settings]) := by
  refine Spec.enter Tryz.func65 rfl Tryz.ntmps65 rfl rfl (fun w0 R0 F0 => ?_)
  refine J.seq ?_
  refine J.region ?_
  refine JL.ef (O1.box rfl rfl) rfl ?_
  rintro _ _ ⟨b_1, rfl, rfl⟩
  refine JL.ef (O1.box rfl rfl) rfl ?_
  rintro _ _ ⟨b_2, rfl, rfl⟩
  refine JL.qt (Qt.assign rfl) rfl ?_
  refine JL.nil ?_
  refine JN.code ?_
  refine J.seq ?_
  refine J.seq ?_
  refine J.region ?_
  refine JL.qt (Qt.fa (o' := 4) fo40_4 rfl rfl) rfl ?_
  refine JL.qt (Qt.ld 1 pl37 rfl rfl rfl) rfl ?_
  refine JL.qt (Qt.fa (o' := 4) fo40_4 rfl rfl) rfl ?_
  refine JL.qt (Qt.ld 0 pl37 rfl rfl rfl) rfl ?_
  refine JL.call (O1.call Tryz.func93 rfl rfl rfl [2, 3] rfl (s_octSame Aa4 ca4 a.Data Ab4 cb4 b.Data)) rfl ?_
  rintro _ _ ⟨rfl, rfl⟩
  refine JL.qt (Qt.un (fun _ => not_run) rfl) rfl ?_
  refine JL.qt (Qt.move rfl) rfl ?_
  refine JL.cases_not (t := 13) rfl (fun h1 => ?_) (fun h1 => ?_)
  · refine JL.g_outU rfl rfl rfl rfl ?_
    refine JL.g_outU rfl rfl rfl rfl ?_
    refine JL.g_outU rfl rfl rfl rfl ?_
    refine JL.g_outU rfl rfl rfl rfl ?_
    refine JL.g_outU rfl rfl rfl rfl ?_
    refine JL.g_outU rfl rfl rfl rfl ?_
    refine JL.qt (Qt.pick_t rfl rfl) rfl ?_
    refine JL.nil ?_
    refine JN.code ?_
    refine J.cond_true rfl ?_
    refine J.seq ?_
    refine J.region ?_
    refine JL.qt (Qt.assign rfl) rfl ?_
    refine JL.nil ?_
    refine JN.code ?_
    refine J.ret ?_
    refine JN.back (res1 rfl rfl) [0, 3, 0, 2] rfl ?_
    exact ⟨by unfold f_frSame; rw [if_neg (Bool.eq_false_iff.1 h1)] <;> rfl, rfl⟩
  refine JL.g_in rfl rfl ?_
  refine JL.qt (Qt.fa (o' := 5) fo40_5 rfl rfl) rfl ?_
  refine JL.g_in rfl rfl ?_
  refine JL.qt (Qt.ld 3 pl38 rfl rfl rfl) rfl ?_
  refine JL.g_in rfl rfl ?_
  refine JL.qt (Qt.fa (o' := 5) fo40_5 rfl rfl) rfl ?_
  refine JL.g_in rfl rfl ?_
  refine JL.qt (Qt.ld 2 pl38 rfl rfl rfl) rfl ?_
  refine JL.g_in rfl rfl ?_
  refine JL.call (O1.call Tryz.func94 rfl rfl rfl [4, 4] rfl (s_eqS Aa5 ca5 a.Settings Ab5 cb5 b.Settings)) rfl ?_
  rintro _ _ ⟨rfl, rfl⟩
  refine JL.g_in rfl rfl ?_
  refine JL.qt (Qt.un (fun _ => not_run) rfl) rfl ?_
  refine JL.qt (Qt.pick_f rfl rfl) rfl ?_
  refine JL.nil ?_
  refine JN.code ?_
  refine J.cond_not rfl (fun h2 => ?_) (fun h2 => ?_)
  · refine J.seq ?_
    refine J.region ?_
    refine JL.qt (Qt.assign rfl) rfl ?_
    refine JL.nil ?_
    refine JN.code ?_
    refine J.ret ?_
    refine JN.back (res1 rfl rfl) [2, 0, 1, 0] rfl ?_
    exact ⟨by unfold f_frSame; rw [if_pos h1, if_neg (Bool.eq_false_iff.1 h2)] <;> rfl, rfl⟩
  refine J.skip ?_
  refine JN.code ?_
  refine J.seq ?_
  refine J.region ?_
  refine JL.qt (Qt.fa (o' := 0) fo40_0 rfl rfl) rfl ?_
  refine JL.qt (Qt.ld 5 pl3 rfl rfl rfl) rfl ?_
  refine JL.qt (Qt.fa (o' := 1) fo40_1 rfl rfl) rfl ?_
  refine JL.qt (Qt.ld 5 pl3 rfl rfl rfl) rfl ?_
  refine JL.qt (Qt.fa (o' := 2) fo40_2 rfl rfl) rfl ?_
  refine JL.qt (Qt.ld 5 pl3 rfl rfl rfl) rfl ?_
  refine JL.qt (Qt.fa (o' := 3) fo40_3 rfl rfl) rfl ?_
  refine JL.qt (Qt.ld 5 pl3 rfl rfl rfl) rfl ?_
  refine JL.qt (Qt.fa (o' := 6) fo40_6 rfl rfl) rfl ?_
  refine JL.qt (Qt.ld 5 pl3 rfl rfl rfl) rfl ?_
  refine JL.qt (Qt.fa (o' := 7) fo40_7 rfl rfl) rfl ?_
  refine JL.qt (Qt.ld 5 pl3 rfl rfl rfl) rfl ?_
  refine JL.qt (Qt.fa (o' := 9) fo40_9 rfl rfl) rfl ?_
  refine JL.qt (Qt.ld 5 pl3 rfl rfl rfl) rfl ?_
  refine JL.qt (Qt.fa (o' := 10) fo40_10 rfl rfl) rfl ?_
  refine JL.qt (Qt.ld 5 pl3 rfl rfl rfl) rfl ?_
  refine JL.qt (Qt.fa (o' := 11) fo40_11 rfl rfl) rfl ?_
  refine JL.qt (Qt.ld 5 pl3 rfl rfl rfl) rfl ?_
  refine JL.qt (Qt.fa (o' := 12) fo40_12 rfl rfl) rfl ?_
  refine JL.qt (Qt.ld 5 pl3 rfl rfl rfl) rfl ?_
  refine JL.qt (Xe.Qt.buildA Tryz.underlying199 sz3 ze199 rfl rfl) rfl ?_
  refine JL.ef (O1.alloc ze199) rfl ?_
  rintro _ _ ⟨b_3, rfl, rfl⟩
  refine JL.sk (O1.stA 0 sz199 rfl rfl rfl rfl rfl rfl rfl rfl) ?_
  refine JL.nil ?_
  refine JN.code ?_
  refine J.seq ?_
  refine J.keep [2, 3, 4, 5] rfl ?_
  refine J.region ?_
  refine JL.qt (Qt.fa (o' := 0) fo40_0 rfl rfl) rfl ?_
  refine JL.qt (Qt.ld 5 pl3 rfl rfl rfl) rfl ?_
  refine JL.qt (Qt.fa (o' := 1) fo40_1 rfl rfl) rfl ?_
  refine JL.qt (Qt.ld 5 pl3 rfl rfl rfl) rfl ?_
  refine JL.qt (Qt.fa (o' := 2) fo40_2 rfl rfl) rfl ?_
  refine JL.qt (Qt.ld 5 pl3 rfl rfl rfl) rfl ?_
  refine JL.qt (Qt.fa (o' := 3) fo40_3 rfl rfl) rfl ?_
  refine JL.qt (Qt.ld 5 pl3 rfl rfl rfl) rfl ?_
  refine JL.qt (Qt.fa (o' := 6) fo40_6 rfl rfl) rfl ?_
  refine JL.qt (Qt.ld 5 pl3 rfl rfl rfl) rfl ?_
  refine JL.qt (Qt.fa (o' := 7) fo40_7 rfl rfl) rfl ?_
  refine JL.qt (Qt.ld 5 pl3 rfl rfl rfl) rfl ?_
  refine JL.qt (Qt.fa (o' := 9) fo40_9 rfl rfl) rfl ?_
  refine JL.qt (Qt.ld 5 pl3 rfl rfl rfl) rfl ?_
  refine JL.qt (Qt.fa (o' := 10) fo40_10 rfl rfl) rfl ?_
  refine JL.qt (Qt.ld 5 pl3 rfl rfl rfl) rfl ?_
  refine JL.qt (Qt.fa (o' := 11) fo40_11 rfl rfl) rfl ?_
  refine JL.qt (Qt.ld 5 pl3 rfl rfl rfl) rfl ?_
  refine JL.qt (Qt.fa (o' := 12) fo40_12 rfl rfl) rfl ?_
  refine JL.qt (Qt.ld 5 pl3 rfl rfl rfl) rfl ?_
  refine JL.qt (Xe.Qt.buildA Tryz.underlying199 sz3 ze199 rfl rfl) rfl ?_
  refine JL.ef (O1.alloc ze199) rfl ?_
  rintro _ _ ⟨b_4, rfl, rfl⟩
  refine JL.sk (O1.stA 0 sz199 rfl rfl rfl rfl rfl rfl rfl rfl) ?_
  refine JL.nil ?_
  refine JN.code ?_
  refine J.seq ?_
  refine J.keep [2, 3, 4, 5, 6] rfl ?_
  refine J.region ?_
  refine JL.qt (Qt.ldA 1 ag199 sz199 rfl rfl rfl rfl) rfl ?_
  refine JL.qt (Qt.ldA 0 ag199 sz199 rfl rfl rfl rfl) rfl ?_
  refine JL.qt (Qt.binA (fun w => q199_eql (la := [a.Type_, a.Flags, a.Stream, a.Pad, a.Weight, a.Parent, a.Promised, a.Last, a.Code, a.Step]) (lb := [b.Type_, b.Flags, b.Stream, b.Pad, b.Weight, b.Parent, b.Promised, b.Last, b.Code, b.Step]) rfl rfl w) rfl rfl) rfl ?_
  refine JL.qt (Qt.move rfl) rfl ?_
  refine JL.cases (t := 66) rfl (fun h3 => ?_) (fun h3 => ?_)
  · refine JL.g_in rfl rfl ?_
    refine JL.qt (Qt.fa (o' := 8) fo40_8 rfl rfl) rfl ?_
    refine JL.g_in rfl rfl ?_
    refine JL.qt (Qt.ld 7 pl4 rfl rfl rfl) rfl ?_
    refine JL.g_in rfl rfl ?_
    refine JL.qt (Qt.fa (o' := 8) fo40_8 rfl rfl) rfl ?_
    refine JL.g_in rfl rfl ?_
    refine JL.qt (Qt.ld 6 pl4 rfl rfl rfl) rfl ?_
    refine JL.g_in rfl rfl ?_
    refine JL.qt (Qt.bin (fun _ => beql_run Tryz.underlying4) rfl rfl rfl) rfl ?_
    refine JL.qt (Qt.pick_t rfl rfl) rfl ?_
    refine JL.qt (Qt.assign rfl) rfl ?_
    refine JL.nil ?_
    refine JN.code ?_
    refine J.ret ?_
    refine JN.back (res1 rfl rfl) [4, 2, 3, 2] rfl ?_
    exact ⟨by unfold f_frSame; rw [if_pos h1, if_pos h2, if_pos h3] <;> rfl, rfl⟩
  refine JL.g_outU rfl rfl rfl rfl ?_
  refine JL.g_outU rfl rfl rfl rfl ?_
  refine JL.g_outU rfl rfl rfl rfl ?_
  refine JL.g_outU rfl rfl rfl rfl ?_
  refine JL.g_outU rfl rfl rfl rfl ?_
  refine JL.qt (Qt.pick_f rfl rfl) rfl ?_
  refine JL.qt (Qt.assign rfl) rfl ?_
  refine JL.nil ?_
  refine JN.code ?_
  refine J.ret ?_
  refine JN.back (res1 rfl rfl) [4, 2, 3, 2] rfl ?_
  exact ⟨by unfold f_frSame; rw [if_pos h1, if_pos h2, if_neg (Bool.eq_false_iff.1 h3)] <;> rfl, rfl⟩
end Go.Proofs.YthjbkngecgbioaaGreatDoor.Sl

/- Walks: a frame is written and read back. -/
set_option maxRecDepth 100000
set_option linter.unusedSimpArgs false
set_option linter.unusedVariables false
namespace Go.Proofs.YthjbkngecgbioaaGreatDoor.Sl
open Go
theorem q104_eql {a0 b0 : Int} {a1 b1 : Int} {x y : Operand} (w : World) : (do eqGuard .eql 104 x y (.agg #[.int .i64 a0, .int .i64 a1]) (.agg #[.int .i64 b0, .int .i64 b1]); binOp .eql 104 (.agg #[.int .i64 a0, .int .i64 a1]) (.agg #[.int .i64 b0, .int .i64 b1]) : Sem Value).run Tryz.prog w = .ok (.bool ((a0 == b0) && ((a1 == b1)))) w := aggEq_eql Tryz.underlying104 (by kernel_rfl) (by kernel_rfl) (eqf_cons rfl (Xe.run_part pl3 rfl) (Xe.run_part pl3 rfl) (run_equalIn_int w _ _ _ _ _ _ Tryz.underlying3) (eqf_last rfl (Xe.run_part pl3 rfl) (Xe.run_part pl3 rfl) (run_equalIn_int w _ _ _ _ _ _ Tryz.underlying3)))
theorem q104_neq {a0 b0 : Int} {a1 b1 : Int} {x y : Operand} (w : World) : (do eqGuard .neq 104 x y (.agg #[.int .i64 a0, .int .i64 a1]) (.agg #[.int .i64 b0, .int .i64 b1]); binOp .neq 104 (.agg #[.int .i64 a0, .int .i64 a1]) (.agg #[.int .i64 b0, .int .i64 b1]) : Sem Value).run Tryz.prog w = .ok (.bool (!((a0 == b0) && ((a1 == b1))))) w := aggEq_neq Tryz.underlying104 (by kernel_rfl) (by kernel_rfl) (eqf_cons rfl (Xe.run_part pl3 rfl) (Xe.run_part pl3 rfl) (run_equalIn_int w _ _ _ _ _ _ Tryz.underlying3) (eqf_last rfl (Xe.run_part pl3 rfl) (Xe.run_part pl3 rfl) (run_equalIn_int w _ _ _ _ _ _ Tryz.underlying3)))
theorem f_written_len {f : ApiFrame} {n : Int} (hs : f.Settings.length ≤ 1048576) (hd : f.Data.length ≤ 1073741824) : (f_written f n).1.Body.length ≤ 2000000000 := by
  unfold f_written
  have := f_penn_len [] false f
  repeat' split
  all_goals simp at * <;> omega
def f_raw (f : ApiFrame) (n : Int) : ApiRaw × Int := if ((f_written f n).2) = true then if n = 0 then if ((f_parse ((f_written f n).1)).2.2) = 0 then if (((((f_parse ((f_written f n).1)).2.1).Scope) == 0) && (((((f_parse ((f_written f n).1)).2.1).Code) == 0))) = true then if (f_frSame f ((f_parse ((f_written f n).1)).1)) = true then (((f_written f n).1), 0) else ((⟨0, 0, 0, 0, false, []⟩ : ApiRaw), 1) else ((⟨0, 0, 0, 0, false, []⟩ : ApiRaw), 1) else ((⟨0, 0, 0, 0, false, []⟩ : ApiRaw), 1) else if n = 1 then if ((f_parse ((f_written f n).1)).2.2) = 0 then if (((((f_parse ((f_written f n).1)).2.1).Scope) == 0) && (((((f_parse ((f_written f n).1)).2.1).Code) == 0))) = true then if (f_frSame f ((f_parse ((f_written f n).1)).1)) = true then (((f_written f n).1), 0) else ((⟨0, 0, 0, 0, false, []⟩ : ApiRaw), 1) else ((⟨0, 0, 0, 0, false, []⟩ : ApiRaw), 1) else ((⟨0, 0, 0, 0, false, []⟩ : ApiRaw), 1) else ((⟨0, 0, 0, 0, false, []⟩ : ApiRaw), 1) else ((⟨0, 0, 0, 0, false, []⟩ : ApiRaw), 1)
def f_right (f : ApiFrame) : Bool := (((f_raw f 0).2) == 0)
theorem s_raw (f : ApiFrame) (n : Int) (Af4 : Option Addr) (cf4 : Nat) (Af5 : Option Addr) (cf5 : Nat) (hs : f.Settings.length ≤ 1048576) (hd : f.Data.length ≤ 1073741824) (hp : f.Pad = -1) :
    Spec Tryz.prog 39 [.agg #[.int .i64 f.Type_, .int .i64 f.Flags, .int .i64 f.Stream, .int .i64 f.Pad, .slice Af4 f.Data.length cf4, .slice Af5 f.Settings.length cf5, .int .i64 f.Weight, .int .i64 f.Parent, .bool f.Alone, .int .i64 f.Promised, .int .i64 f.Last, .int .i64 f.Code, .int .i64 f.Step], .int .i64 n].toArray [rd (Kd.int .u8) Af4 cf4 f.Data, rd kApiSetting Af5 cf5 f.Settings] (fun v L => ∃ (A2 : Option Addr), ∃ (c2 : Nat), v = .tuple #[.agg #[.int .i64 (((f_raw f n).1).From), .int .i64 (((f_raw f n).1).Type_), .int .i64 (((f_raw f n).1).Flags), .int .i64 (((f_raw f n).1).Stream), .bool (((f_raw f n).1).Res), .slice A2 (((f_raw f n).1).Body.length) c2], .int .i64 ((f_raw f n).2)] ∧ L = [rd (Kd.int .u8) A2 c2 (((f_raw f n).1).Body), rd (Kd.int .u8) Af4 cf4 f.Data, rd kApiSetting Af5 cf5 f.Settings]) := by
  refine Spec.enter Tryz.func39 rfl Tryz.ntmps39 rfl rfl (fun w0 R0 F0 => ?_)
  refine J.seq ?_
  refine J.region ?_
  refine JL.ef (O1.box rfl rfl) rfl ?_
  rintro _ _ ⟨b_1, rfl, rfl⟩
  refine JL.ef (O1.alloc ze45) rfl ?_
  rintro _ _ ⟨b_2, rfl, rfl⟩
  refine JL.qt (Qt.assign rfl) rfl ?_
  refine JL.nil ?_
  refine JN.code ?_
  refine J.seq ?_
  refine J.region ?_
  refine JL.qt (Qt.ldA 1 ag40 sz40 rfl rfl rfl rfl) rfl ?_
  refine JL.qt (Qt.move rfl) rfl ?_
  refine JL.call (O1.call Tryz.func63 rfl rfl rfl [2, 2] rfl (s_written f n Af4 cf4 Af5 cf5 hs hd hp)) rfl ?_
  rintro _ _ ⟨A2_3, c2_4, rfl, rfl⟩
  refine JL.qt (Qt.move rfl) rfl ?_
  refine JL.qt (Qt.extract rfl rfl) rfl ?_
  refine JL.qt (Qt.extract rfl rfl) rfl ?_
  refine JL.ef (O1.alloc ze45) rfl ?_
  rintro _ _ ⟨b_5, rfl, rfl⟩
  refine JL.sk (O1.stA 0 sz45 rfl rfl rfl rfl rfl rfl rfl rfl) ?_
  refine JL.qt (Qt.assign rfl) rfl ?_
  refine JL.nil ?_
  refine JN.code ?_
  refine J.seq ?_
  refine J.seq ?_
  refine J.region ?_
  refine JL.qt (Qt.move rfl) rfl ?_
  refine JL.qt (Qt.un (fun _ => not_run) rfl) rfl ?_
  refine JL.qt (Qt.move rfl) rfl ?_
  refine JL.cases_not (t := 19) rfl (fun h1 => ?_) (fun h1 => ?_)
  · refine JL.g_outU rfl rfl rfl rfl ?_
    refine JL.g_outU rfl rfl rfl rfl ?_
    refine JL.g_outU rfl rfl rfl rfl ?_
    refine JL.g_un rfl rfl rfl ?_
    refine JL.g_un rfl rfl rfl ?_
    refine JL.g_outU rfl rfl rfl rfl ?_
    refine JL.qt (Qt.pick_t rfl rfl) rfl ?_
    refine JL.nil ?_
    refine JN.code ?_
    refine J.cond_true rfl ?_
    refine J.seq ?_
    refine J.region ?_
    refine JL.qt (Qt.build sp45 ze45 rfl rfl) rfl ?_
    refine JL.sk (O1.stA 4 sz45 rfl rfl rfl rfl rfl rfl rfl rfl) ?_
    refine JL.qt (Qt.assign rfl) rfl ?_
    refine JL.nil ?_
    refine JN.code ?_
    refine J.ret ?_
    refine JN.intro_pers (p := rd (Kd.int .u8) none 0 []) (fun w R => rd_nil' w R) ?_
    refine JN.backR (rs := [.cell 4 45, .tmp 5]) (vs := [.agg #[.int .i64 0, .int .i64 0, .int .i64 0, .int .i64 0, .bool false, .slice none 0 0], .int .i64 1]) rfl ?_ [0, 3, 3] rfl ?_
    · exact .cell (x := 4) (t := 45) (b := b_2) (o := 0) rfl (Qt.ldA (cs := [.int .i64 0, .int .i64 0, .int .i64 0, .int .i64 0, .bool false, .slice none 0 0]) 1 ag45 sz45 rfl rfl rfl rfl) (.tmp rfl .nil)
    exact ⟨none, 0, by unfold f_raw; rw [if_neg (Bool.eq_false_iff.1 h1)] <;> rfl, by unfold f_raw; rw [if_neg (Bool.eq_false_iff.1 h1)] <;> rfl⟩
  refine JL.g_in rfl rfl ?_
  refine JL.qt (Qt.move rfl) rfl ?_
  refine JL.g_in rfl rfl ?_
  refine JL.qt (Qt.bin (fun _ => neq_run) rfl rfl rfl) rfl ?_
  refine JL.g_in rfl rfl ?_
  refine JL.qt (Qt.move rfl) rfl ?_
  refine JL.cases_ne (t := 22) rfl (fun h2 => ?_) (fun h2 => ?_)
  · refine JL.g_in rfl rfl ?_
    refine JL.qt (Qt.move rfl) rfl ?_
    refine JL.g_in rfl rfl ?_
    refine JL.qt (Qt.bin (fun _ => neq_run) rfl rfl rfl) rfl ?_
    refine JL.g_in rfl rfl ?_
    refine JL.qt (Qt.pick_t rfl rfl) rfl ?_
    refine JL.qt (Qt.pick_f rfl rfl) rfl ?_
    refine JL.nil ?_
    refine JN.code ?_
    refine J.cond_ne rfl (fun h3 => ?_) (fun h3 => ?_)
    · refine J.seq ?_
      refine J.region ?_
      refine JL.qt (Qt.build sp45 ze45 rfl rfl) rfl ?_
      refine JL.sk (O1.stA 4 sz45 rfl rfl rfl rfl rfl rfl rfl rfl) ?_
      refine JL.qt (Qt.assign rfl) rfl ?_
      refine JL.nil ?_
      refine JN.code ?_
      refine J.ret ?_
      refine JN.intro_pers (p := rd (Kd.int .u8) none 0 []) (fun w R => rd_nil' w R) ?_
      refine JN.backR (rs := [.cell 4 45, .tmp 5]) (vs := [.agg #[.int .i64 0, .int .i64 0, .int .i64 0, .int .i64 0, .bool false, .slice none 0 0], .int .i64 1]) rfl ?_ [0, 3, 3] rfl ?_
      · exact .cell (x := 4) (t := 45) (b := b_2) (o := 0) rfl (Qt.ldA (cs := [.int .i64 0, .int .i64 0, .int .i64 0, .int .i64 0, .bool false, .slice none 0 0]) 1 ag45 sz45 rfl rfl rfl rfl) (.tmp rfl .nil)
      exact ⟨none, 0, by unfold f_raw; rw [if_pos h1, if_neg h2, if_neg h3] <;> rfl, by unfold f_raw; rw [if_pos h1, if_neg h2, if_neg h3] <;> rfl⟩
    refine J.skip ?_
    refine JN.code ?_
    refine J.seq ?_
    refine J.region ?_
    refine JL.qt (Qt.ldA 0 ag45 sz45 rfl rfl rfl rfl) rfl ?_
    refine JL.upd [1] rfl (row_freeze (by have := f_written_len (n := n) hs hd; show _ ≤ 1099511627776; omega)) ?_
    refine JL.call (O1.call Tryz.func64 rfl rfl rfl [0] rfl (s_parse ((f_written f n).1) A2_3 c2_4 (f_written_len hs hd))) rfl ?_
    rintro _ _ ⟨A2_6, c2_7, A3_8, c3_9, rfl, rfl⟩
    refine JL.qt (Qt.move rfl) rfl ?_
    refine JL.qt (Qt.extract rfl rfl) rfl ?_
    refine JL.qt (Qt.extract rfl rfl) rfl ?_
    refine JL.qt (Qt.extract rfl rfl) rfl ?_
    refine JL.ef (O1.alloc ze40) rfl ?_
    rintro _ _ ⟨b_10, rfl, rfl⟩
    refine JL.ef (O1.alloc ze104) rfl ?_
    rintro _ _ ⟨b_11, rfl, rfl⟩
    refine JL.sk (O1.stA 1 sz40 rfl rfl rfl rfl rfl rfl rfl rfl) ?_
    refine JL.sk (O1.stA 1 sz104 rfl rfl rfl rfl rfl rfl rfl rfl) ?_
    refine JL.qt (Qt.assign rfl) rfl ?_
    refine JL.nil ?_
    refine JN.code ?_
    refine J.seq ?_
    refine J.seq ?_
    refine J.keep [2, 4, 5, 6, 8, 9, 10] rfl ?_
    refine J.region ?_
    refine JL.qt (Qt.move rfl) rfl ?_
    refine JL.qt (Qt.bin (fun _ => neq_run) rfl rfl rfl) rfl ?_
    refine JL.qt (Qt.move rfl) rfl ?_
    refine JL.cases_ne (t := 36) rfl (fun h4 => ?_) (fun h4 => ?_)
    · refine JL.g_outU rfl rfl rfl rfl ?_
      refine JL.g_outU rfl rfl rfl rfl ?_
      refine JL.g_outU rfl rfl rfl rfl ?_
      refine JL.qt (Qt.pick_t rfl rfl) rfl ?_
      refine JL.qt (Qt.move rfl) rfl ?_
      refine JL.g_outU rfl rfl rfl rfl ?_
      refine JL.g_outU rfl rfl rfl rfl ?_
      refine JL.g_outU rfl rfl rfl rfl ?_
      refine JL.g_outU rfl rfl rfl rfl ?_
      refine JL.qt (Qt.pick_t rfl rfl) rfl ?_
      refine JL.nil ?_
      refine JN.code ?_
      refine J.cond_true rfl ?_
      refine J.seq ?_
      refine J.region ?_
      refine JL.qt (Qt.build sp45 ze45 rfl rfl) rfl ?_
      refine JL.sk (O1.stA 8 sz45 rfl rfl rfl rfl rfl rfl rfl rfl) ?_
      refine JL.qt (Qt.assign rfl) rfl ?_
      refine JL.nil ?_
      refine JN.code ?_
      refine J.ret ?_
      refine JN.intro_pers (p := rd (Kd.int .u8) none 0 []) (fun w R => rd_nil' w R) ?_
      refine JN.backR (rs := [.cell 4 45, .tmp 5]) (vs := [.agg #[.int .i64 0, .int .i64 0, .int .i64 0, .int .i64 0, .bool false, .slice none 0 0], .int .i64 1]) rfl ?_ [0, 7, 7] rfl ?_
      · exact .cell (x := 4) (t := 45) (b := b_2) (o := 0) rfl (Qt.ldA (cs := [.int .i64 0, .int .i64 0, .int .i64 0, .int .i64 0, .bool false, .slice none 0 0]) 1 ag45 sz45 rfl rfl rfl rfl) (.tmp rfl .nil)
      exact ⟨none, 0, by unfold f_raw; rw [if_pos h1, if_neg h2, if_pos h3, if_neg h4] <;> rfl, by unfold f_raw; rw [if_pos h1, if_neg h2, if_pos h3, if_neg h4] <;> rfl⟩
    refine JL.g_in rfl rfl ?_
    refine JL.qt (Qt.ldA 0 ag104 sz104 rfl rfl rfl rfl) rfl ?_
    refine JL.g_in rfl rfl ?_
    refine JL.qt (Qt.build sp104 ze104 rfl rfl) rfl ?_
    refine JL.g_in rfl rfl ?_
    refine JL.qt (Qt.binA (fun w => q104_neq w) rfl rfl) rfl ?_
    refine JL.qt (Qt.pick_f rfl rfl) rfl ?_
    refine JL.qt (Qt.move rfl) rfl ?_
    refine JL.cases_not (t := 41) rfl (fun h5 => ?_) (fun h5 => ?_)
    · refine JL.g_outU rfl rfl rfl rfl ?_
      refine JL.g_outU rfl rfl rfl rfl ?_
      refine JL.g_outU rfl rfl rfl rfl ?_
      refine JL.g_outU rfl rfl rfl rfl ?_
      refine JL.qt (Qt.pick_t rfl rfl) rfl ?_
      refine JL.nil ?_
      refine JN.code ?_
      refine J.cond_true rfl ?_
      refine J.seq ?_
      refine J.region ?_
      refine JL.qt (Qt.build sp45 ze45 rfl rfl) rfl ?_
      refine JL.sk (O1.stA 8 sz45 rfl rfl rfl rfl rfl rfl rfl rfl) ?_
      refine JL.qt (Qt.assign rfl) rfl ?_
      refine JL.nil ?_
      refine JN.code ?_
      refine J.ret ?_
      refine JN.intro_pers (p := rd (Kd.int .u8) none 0 []) (fun w R => rd_nil' w R) ?_
      refine JN.backR (rs := [.cell 4 45, .tmp 5]) (vs := [.agg #[.int .i64 0, .int .i64 0, .int .i64 0, .int .i64 0, .bool false, .slice none 0 0], .int .i64 1]) rfl ?_ [0, 7, 7] rfl ?_
      · exact .cell (x := 4) (t := 45) (b := b_2) (o := 0) rfl (Qt.ldA (cs := [.int .i64 0, .int .i64 0, .int .i64 0, .int .i64 0, .bool false, .slice none 0 0]) 1 ag45 sz45 rfl rfl rfl rfl) (.tmp rfl .nil)
      exact ⟨none, 0, by unfold f_raw; rw [if_pos h1, if_neg h2, if_pos h3, if_pos h4, if_neg (Bool.eq_false_iff.1 h5)] <;> rfl, by unfold f_raw; rw [if_pos h1, if_neg h2, if_pos h3, if_pos h4, if_neg (Bool.eq_false_iff.1 h5)] <;> rfl⟩
    refine JL.g_in rfl rfl ?_
    refine JL.qt (Qt.ldA 9 ag40 sz40 rfl rfl rfl rfl) rfl ?_
    refine JL.g_in rfl rfl ?_
    refine JL.qt (Qt.ldA 1 ag40 sz40 rfl rfl rfl rfl) rfl ?_
    refine JL.g_in rfl rfl ?_
    refine JL.call (O1.call Tryz.func65 rfl rfl rfl [6, 6, 2, 2] rfl (s_frSame f ((f_parse ((f_written f n).1)).1) Af4 cf4 Af5 cf5 A2_6 c2_7 A3_8 c3_9)) rfl ?_
    rintro _ _ ⟨rfl, rfl⟩
    refine JL.g_in rfl rfl ?_
    refine JL.qt (Qt.un (fun _ => not_run) rfl) rfl ?_
    refine JL.qt (Qt.pick_f rfl rfl) rfl ?_
    refine JL.nil ?_
    refine JN.code ?_
    refine J.cond_not rfl (fun h6 => ?_) (fun h6 => ?_)
    · refine J.seq ?_
      refine J.region ?_
      refine JL.qt (Qt.build sp45 ze45 rfl rfl) rfl ?_
      refine JL.sk (O1.stA 8 sz45 rfl rfl rfl rfl rfl rfl rfl rfl) ?_
      refine JL.qt (Qt.assign rfl) rfl ?_
      refine JL.nil ?_
      refine JN.code ?_
      refine J.ret ?_
      refine JN.intro_pers (p := rd (Kd.int .u8) none 0 []) (fun w R => rd_nil' w R) ?_
      refine JN.backR (rs := [.cell 4 45, .tmp 5]) (vs := [.agg #[.int .i64 0, .int .i64 0, .int .i64 0, .int .i64 0, .bool false, .slice none 0 0], .int .i64 1]) rfl ?_ [0, 1, 1] rfl ?_
      · exact .cell (x := 4) (t := 45) (b := b_2) (o := 0) rfl (Qt.ldA (cs := [.int .i64 0, .int .i64 0, .int .i64 0, .int .i64 0, .bool false, .slice none 0 0]) 1 ag45 sz45 rfl rfl rfl rfl) (.tmp rfl .nil)
      exact ⟨none, 0, by unfold f_raw; rw [if_pos h1, if_neg h2, if_pos h3, if_pos h4, if_pos h5, if_neg (Bool.eq_false_iff.1 h6)] <;> rfl, by unfold f_raw; rw [if_pos h1, if_neg h2, if_pos h3, if_pos h4, if_pos h5, if_neg (Bool.eq_false_iff.1 h6)] <;> rfl⟩
    refine J.skip ?_
    refine JN.code ?_
    refine J.seq ?_
    refine J.region ?_
    refine JL.qt (Qt.ldA 7 ag45 sz45 rfl rfl rfl rfl) rfl ?_
    refine JL.sk (O1.stA 8 sz45 rfl rfl rfl rfl rfl rfl rfl rfl) ?_
    refine JL.qt (Qt.assign rfl) rfl ?_
    refine JL.nil ?_
    refine JN.code ?_
    refine J.ret ?_
    refine JN.backR (rs := [.cell 4 45, .tmp 5]) (vs := [.agg #[.int .i64 (((f_written f n).1).From), .int .i64 (((f_written f n).1).Type_), .int .i64 (((f_written f n).1).Flags), .int .i64 (((f_written f n).1).Stream), .bool (((f_written f n).1).Res), .slice A2_3 (((f_written f n).1).Body.length) c2_4], .int .i64 0]) rfl ?_ [7, 1, 1] rfl ?_
    · exact .cell (x := 4) (t := 45) (b := b_2) (o := 0) rfl (Qt.ldA (cs := [.int .i64 (((f_written f n).1).From), .int .i64 (((f_written f n).1).Type_), .int .i64 (((f_written f n).1).Flags), .int .i64 (((f_written f n).1).Stream), .bool (((f_written f n).1).Res), .slice A2_3 (((f_written f n).1).Body.length) c2_4]) 0 ag45 sz45 rfl rfl rfl rfl) (.tmp rfl .nil)
    exact ⟨A2_3, c2_4, by unfold f_raw; rw [if_pos h1, if_neg h2, if_pos h3, if_pos h4, if_pos h5, if_pos h6] <;> rfl, by unfold f_raw; rw [if_pos h1, if_neg h2, if_pos h3, if_pos h4, if_pos h5, if_pos h6] <;> rfl⟩
  refine JL.g_outU rfl rfl rfl rfl ?_
  refine JL.g_outU rfl rfl rfl rfl ?_
  refine JL.g_in rfl rfl ?_
  refine JL.qt (Qt.pick_f rfl rfl) rfl ?_
  refine JL.qt (Qt.pick_f rfl rfl) rfl ?_
  refine JL.nil ?_
  refine JN.code ?_
  refine J.cond_false rfl ?_
  refine J.skip ?_
  refine JN.code ?_
  refine J.seq ?_
  refine J.region ?_
  refine JL.qt (Qt.ldA 0 ag45 sz45 rfl rfl rfl rfl) rfl ?_
  refine JL.upd [1] rfl (row_freeze (by have := f_written_len (n := n) hs hd; show _ ≤ 1099511627776; omega)) ?_
  refine JL.call (O1.call Tryz.func64 rfl rfl rfl [0] rfl (s_parse ((f_written f n).1) A2_3 c2_4 (f_written_len hs hd))) rfl ?_
  rintro _ _ ⟨A2_12, c2_13, A3_14, c3_15, rfl, rfl⟩
  refine JL.qt (Qt.move rfl) rfl ?_
  refine JL.qt (Qt.extract rfl rfl) rfl ?_
  refine JL.qt (Qt.extract rfl rfl) rfl ?_
  refine JL.qt (Qt.extract rfl rfl) rfl ?_
  refine JL.ef (O1.alloc ze40) rfl ?_
  rintro _ _ ⟨b_16, rfl, rfl⟩
  refine JL.ef (O1.alloc ze104) rfl ?_
  rintro _ _ ⟨b_17, rfl, rfl⟩
  refine JL.sk (O1.stA 1 sz40 rfl rfl rfl rfl rfl rfl rfl rfl) ?_
  refine JL.sk (O1.stA 1 sz104 rfl rfl rfl rfl rfl rfl rfl rfl) ?_
  refine JL.qt (Qt.assign rfl) rfl ?_
  refine JL.nil ?_
  refine JN.code ?_
  refine J.seq ?_
  refine J.seq ?_
  refine J.keep [2, 4, 5, 6, 8, 9, 10] rfl ?_
  refine J.region ?_
  refine JL.qt (Qt.move rfl) rfl ?_
  refine JL.qt (Qt.bin (fun _ => neq_run) rfl rfl rfl) rfl ?_
  refine JL.qt (Qt.move rfl) rfl ?_
  refine JL.cases_ne (t := 36) rfl (fun h7 => ?_) (fun h7 => ?_)
  · refine JL.g_outU rfl rfl rfl rfl ?_
    refine JL.g_outU rfl rfl rfl rfl ?_
    refine JL.g_outU rfl rfl rfl rfl ?_
    refine JL.qt (Qt.pick_t rfl rfl) rfl ?_
    refine JL.qt (Qt.move rfl) rfl ?_
    refine JL.g_outU rfl rfl rfl rfl ?_
    refine JL.g_outU rfl rfl rfl rfl ?_
    refine JL.g_outU rfl rfl rfl rfl ?_
    refine JL.g_outU rfl rfl rfl rfl ?_
    refine JL.qt (Qt.pick_t rfl rfl) rfl ?_
    refine JL.nil ?_
    refine JN.code ?_
    refine J.cond_true rfl ?_
    refine J.seq ?_
    refine J.region ?_
    refine JL.qt (Qt.build sp45 ze45 rfl rfl) rfl ?_
    refine JL.sk (O1.stA 8 sz45 rfl rfl rfl rfl rfl rfl rfl rfl) ?_
    refine JL.qt (Qt.assign rfl) rfl ?_
    refine JL.nil ?_
    refine JN.code ?_
    refine J.ret ?_
    refine JN.intro_pers (p := rd (Kd.int .u8) none 0 []) (fun w R => rd_nil' w R) ?_
    refine JN.backR (rs := [.cell 4 45, .tmp 5]) (vs := [.agg #[.int .i64 0, .int .i64 0, .int .i64 0, .int .i64 0, .bool false, .slice none 0 0], .int .i64 1]) rfl ?_ [0, 7, 7] rfl ?_
    · exact .cell (x := 4) (t := 45) (b := b_2) (o := 0) rfl (Qt.ldA (cs := [.int .i64 0, .int .i64 0, .int .i64 0, .int .i64 0, .bool false, .slice none 0 0]) 1 ag45 sz45 rfl rfl rfl rfl) (.tmp rfl .nil)
    exact ⟨none, 0, by unfold f_raw; rw [if_pos h1, if_pos h2, if_neg h7] <;> rfl, by unfold f_raw; rw [if_pos h1, if_pos h2, if_neg h7] <;> rfl⟩
  refine JL.g_in rfl rfl ?_
  refine JL.qt (Qt.ldA 0 ag104 sz104 rfl rfl rfl rfl) rfl ?_
  refine JL.g_in rfl rfl ?_
  refine JL.qt (Qt.build sp104 ze104 rfl rfl) rfl ?_
  refine JL.g_in rfl rfl ?_
  refine JL.qt (Qt.binA (fun w => q104_neq w) rfl rfl) rfl ?_
  refine JL.qt (Qt.pick_f rfl rfl) rfl ?_
  refine JL.qt (Qt.move rfl) rfl ?_
  refine JL.cases_not (t := 41) rfl (fun h8 => ?_) (fun h8 => ?_)
  · refine JL.g_outU rfl rfl rfl rfl ?_
    refine JL.g_outU rfl rfl rfl rfl ?_
    refine JL.g_outU rfl rfl rfl rfl ?_
    refine JL.g_outU rfl rfl rfl rfl ?_
    refine JL.qt (Qt.pick_t rfl rfl) rfl ?_
    refine JL.nil ?_
    refine JN.code ?_
    refine J.cond_true rfl ?_
    refine J.seq ?_
    refine J.region ?_
    refine JL.qt (Qt.build sp45 ze45 rfl rfl) rfl ?_
    refine JL.sk (O1.stA 8 sz45 rfl rfl rfl rfl rfl rfl rfl rfl) ?_
    refine JL.qt (Qt.assign rfl) rfl ?_
    refine JL.nil ?_
    refine JN.code ?_
    refine J.ret ?_
    refine JN.intro_pers (p := rd (Kd.int .u8) none 0 []) (fun w R => rd_nil' w R) ?_
    refine JN.backR (rs := [.cell 4 45, .tmp 5]) (vs := [.agg #[.int .i64 0, .int .i64 0, .int .i64 0, .int .i64 0, .bool false, .slice none 0 0], .int .i64 1]) rfl ?_ [0, 7, 7] rfl ?_
    · exact .cell (x := 4) (t := 45) (b := b_2) (o := 0) rfl (Qt.ldA (cs := [.int .i64 0, .int .i64 0, .int .i64 0, .int .i64 0, .bool false, .slice none 0 0]) 1 ag45 sz45 rfl rfl rfl rfl) (.tmp rfl .nil)
    exact ⟨none, 0, by unfold f_raw; rw [if_pos h1, if_pos h2, if_pos h7, if_neg (Bool.eq_false_iff.1 h8)] <;> rfl, by unfold f_raw; rw [if_pos h1, if_pos h2, if_pos h7, if_neg (Bool.eq_false_iff.1 h8)] <;> rfl⟩
  refine JL.g_in rfl rfl ?_
  refine JL.qt (Qt.ldA 9 ag40 sz40 rfl rfl rfl rfl) rfl ?_
  refine JL.g_in rfl rfl ?_
  refine JL.qt (Qt.ldA 1 ag40 sz40 rfl rfl rfl rfl) rfl ?_
  refine JL.g_in rfl rfl ?_
  refine JL.call (O1.call Tryz.func65 rfl rfl rfl [6, 6, 2, 2] rfl (s_frSame f ((f_parse ((f_written f n).1)).1) Af4 cf4 Af5 cf5 A2_12 c2_13 A3_14 c3_15)) rfl ?_
  rintro _ _ ⟨rfl, rfl⟩
  refine JL.g_in rfl rfl ?_
  refine JL.qt (Qt.un (fun _ => not_run) rfl) rfl ?_
  refine JL.qt (Qt.pick_f rfl rfl) rfl ?_
  refine JL.nil ?_
  refine JN.code ?_
  refine J.cond_not rfl (fun h9 => ?_) (fun h9 => ?_)
  · refine J.seq ?_
    refine J.region ?_
    refine JL.qt (Qt.build sp45 ze45 rfl rfl) rfl ?_
    refine JL.sk (O1.stA 8 sz45 rfl rfl rfl rfl rfl rfl rfl rfl) ?_
    refine JL.qt (Qt.assign rfl) rfl ?_
    refine JL.nil ?_
    refine JN.code ?_
    refine J.ret ?_
    refine JN.intro_pers (p := rd (Kd.int .u8) none 0 []) (fun w R => rd_nil' w R) ?_
    refine JN.backR (rs := [.cell 4 45, .tmp 5]) (vs := [.agg #[.int .i64 0, .int .i64 0, .int .i64 0, .int .i64 0, .bool false, .slice none 0 0], .int .i64 1]) rfl ?_ [0, 1, 1] rfl ?_
    · exact .cell (x := 4) (t := 45) (b := b_2) (o := 0) rfl (Qt.ldA (cs := [.int .i64 0, .int .i64 0, .int .i64 0, .int .i64 0, .bool false, .slice none 0 0]) 1 ag45 sz45 rfl rfl rfl rfl) (.tmp rfl .nil)
    exact ⟨none, 0, by unfold f_raw; rw [if_pos h1, if_pos h2, if_pos h7, if_pos h8, if_neg (Bool.eq_false_iff.1 h9)] <;> rfl, by unfold f_raw; rw [if_pos h1, if_pos h2, if_pos h7, if_pos h8, if_neg (Bool.eq_false_iff.1 h9)] <;> rfl⟩
  refine J.skip ?_
  refine JN.code ?_
  refine J.seq ?_
  refine J.region ?_
  refine JL.qt (Qt.ldA 7 ag45 sz45 rfl rfl rfl rfl) rfl ?_
  refine JL.sk (O1.stA 8 sz45 rfl rfl rfl rfl rfl rfl rfl rfl) ?_
  refine JL.qt (Qt.assign rfl) rfl ?_
  refine JL.nil ?_
  refine JN.code ?_
  refine J.ret ?_
  refine JN.backR (rs := [.cell 4 45, .tmp 5]) (vs := [.agg #[.int .i64 (((f_written f n).1).From), .int .i64 (((f_written f n).1).Type_), .int .i64 (((f_written f n).1).Flags), .int .i64 (((f_written f n).1).Stream), .bool (((f_written f n).1).Res), .slice A2_3 (((f_written f n).1).Body.length) c2_4], .int .i64 0]) rfl ?_ [7, 1, 1] rfl ?_
  · exact .cell (x := 4) (t := 45) (b := b_2) (o := 0) rfl (Qt.ldA (cs := [.int .i64 (((f_written f n).1).From), .int .i64 (((f_written f n).1).Type_), .int .i64 (((f_written f n).1).Flags), .int .i64 (((f_written f n).1).Stream), .bool (((f_written f n).1).Res), .slice A2_3 (((f_written f n).1).Body.length) c2_4]) 0 ag45 sz45 rfl rfl rfl rfl) (.tmp rfl .nil)
  exact ⟨A2_3, c2_4, by unfold f_raw; rw [if_pos h1, if_pos h2, if_pos h7, if_pos h8, if_pos h9] <;> rfl, by unfold f_raw; rw [if_pos h1, if_pos h2, if_pos h7, if_pos h8, if_pos h9] <;> rfl⟩
theorem s_right (f : ApiFrame) (Af4 : Option Addr) (cf4 : Nat) (Af5 : Option Addr) (cf5 : Nat) (hs : f.Settings.length ≤ 1048576) (hd : f.Data.length ≤ 1073741824) (hp : f.Pad = -1) :
    Spec Tryz.prog 35 [.agg #[.int .i64 f.Type_, .int .i64 f.Flags, .int .i64 f.Stream, .int .i64 f.Pad, .slice Af4 f.Data.length cf4, .slice Af5 f.Settings.length cf5, .int .i64 f.Weight, .int .i64 f.Parent, .bool f.Alone, .int .i64 f.Promised, .int .i64 f.Last, .int .i64 f.Code, .int .i64 f.Step]].toArray [rd (Kd.int .u8) Af4 cf4 f.Data, rd kApiSetting Af5 cf5 f.Settings] (fun v L => v = .bool (f_right f) ∧ L = [rd (Kd.int .u8) Af4 cf4 f.Data, rd kApiSetting Af5 cf5 f.Settings]) := by
  refine Spec.enter Tryz.func35 rfl Tryz.ntmps35 rfl rfl (fun w0 R0 F0 => ?_)
  refine J.seq ?_
  refine J.region ?_
  refine JL.ef (O1.box rfl rfl) rfl ?_
  rintro _ _ ⟨b_1, rfl, rfl⟩
  refine JL.qt (Qt.assign rfl) rfl ?_
  refine JL.nil ?_
  refine JN.code ?_
  refine J.seq ?_
  refine J.region ?_
  refine JL.qt (Qt.ldA 0 ag40 sz40 rfl rfl rfl rfl) rfl ?_
  refine JL.call (O1.call Tryz.func39 rfl rfl rfl [1, 1] rfl (s_raw f 0 Af4 cf4 Af5 cf5 hs hd hp)) rfl ?_
  rintro _ _ ⟨A2_2, c2_3, rfl, rfl⟩
  refine JL.qt (Qt.move rfl) rfl ?_
  refine JL.qt (Qt.extract rfl rfl) rfl ?_
  refine JL.qt (Qt.extract rfl rfl) rfl ?_
  refine JL.ef (O1.alloc ze45) rfl ?_
  rintro _ _ ⟨b_4, rfl, rfl⟩
  refine JL.sk (O1.stA 0 sz45 rfl rfl rfl rfl rfl rfl rfl rfl) ?_
  refine JL.qt (Qt.assign rfl) rfl ?_
  refine JL.nil ?_
  refine JN.code ?_
  refine J.seq ?_
  refine J.region ?_
  refine JL.qt (Qt.move rfl) rfl ?_
  refine JL.qt (Qt.bin (fun _ => eql_run) rfl rfl rfl) rfl ?_
  refine JL.qt (Qt.assign rfl) rfl ?_
  refine JL.nil ?_
  refine JN.code ?_
  refine J.ret ?_
  refine JN.back (res1 rfl rfl) [2, 2] rfl ?_
  exact ⟨by unfold f_right; rfl, rfl⟩
end Go.Proofs.YthjbkngecgbioaaGreatDoor.Sl

/- Walks: the loom. -/
set_option maxRecDepth 100000
set_option linter.unusedSimpArgs false
set_option linter.unusedVariables false
namespace Go.Proofs.YthjbkngecgbioaaGreatDoor.Sl
open Go
theorem fo61_1 : fldOff Tryz.prog 61 1 = some 1 := by kernel_rfl
theorem fo61_0 : fldOff Tryz.prog 61 0 = some 0 := by kernel_rfl
theorem fo61_2 : fldOff Tryz.prog 61 2 = some 14 := by kernel_rfl
theorem fo61_3 : fldOff Tryz.prog 61 3 = some 15 := by kernel_rfl
theorem pl41 : plainTy Tryz.prog 41 = true := by kernel_rfl
theorem pl30 : plainTy Tryz.prog 30 = true := by kernel_rfl
theorem fo58_1 : fldOff Tryz.prog 58 1 = some 2 := by kernel_rfl
theorem el30 : elTy Tryz.prog 30 45 6 64 = true := by kernel_rfl
theorem sz30 : szTy Tryz.prog 30 = some 1 := by kernel_rfl
structure ApiField where
  Name : ByteArray
  Value : ByteArray
  Never : Bool
def kApiField : Kd ApiField := Kd.iso (Kd.pair Kd.str (Kd.pair Kd.str Kd.bool)) (fun x => (x.Name, (x.Value, x.Never)))
theorem unApiField {x : ApiField} {cs : List Value} : ∀ w R F, (kd kApiField x cs).h w R F → (cs = [.string x.Name, .string x.Value, .bool x.Never] ∧ x.Name.size ≤ big ∧ x.Value.size ≤ big) ∧ Star [] w R F := by
  intro w R F h
  simp only [kd, kApiField, Kd.iso, Kd.pair, Kd.int, Kd.bool, Kd.str, Kd.sl] at h
  obtain ⟨_, _, rfl, ⟨rfl, h0⟩, ⟨_, _, rfl, ⟨rfl, h1⟩, rfl⟩⟩ := h
  exact ⟨⟨rfl, h0, h1⟩, trivial⟩
theorem mkApiField {x : ApiField} {w : World} {R : Foot}  (h0 : x.Name.size ≤ big) (h1 : x.Value.size ≤ big) : kApiField.rel w R x [.string x.Name, .string x.Value, .bool x.Never] := by
  simp only [kApiField, Kd.iso, Kd.pair, Kd.int, Kd.bool, Kd.str, Kd.sl]
  exact ⟨_, _, rfl, ⟨rfl, h0⟩, ⟨_, _, rfl, ⟨rfl, h1⟩, rfl⟩⟩
structure WeaveItem where
  From : Int
  F : ApiFrame
  Block : Bool
  Fields : (List ApiField)
def kWeaveItem : Kd WeaveItem := Kd.iso (Kd.pair (Kd.int .i64) (Kd.pair kApiFrame (Kd.pair Kd.bool (Kd.sl kApiField)))) (fun x => (x.From, (x.F, (x.Block, x.Fields))))
theorem unWeaveItem {x : WeaveItem} {cs : List Value} : ∀ w R F, (kd kWeaveItem x cs).h w R F → ∃ (A5 : Option Addr) (c5 : Nat), ∃ (A6 : Option Addr) (c6 : Nat), ∃ (A15 : Option Addr) (c15 : Nat), (cs = [.int .i64 x.From, .int .i64 x.F.Type_, .int .i64 x.F.Flags, .int .i64 x.F.Stream, .int .i64 x.F.Pad, .slice A5 x.F.Data.length c5, .slice A6 x.F.Settings.length c6, .int .i64 x.F.Weight, .int .i64 x.F.Parent, .bool x.F.Alone, .int .i64 x.F.Promised, .int .i64 x.F.Last, .int .i64 x.F.Code, .int .i64 x.F.Step, .bool x.Block, .slice A15 x.Fields.length c15] ∧ inK .i64 x.From ∧ inK .i64 x.F.Type_ ∧ inK .i64 x.F.Flags ∧ inK .i64 x.F.Stream ∧ inK .i64 x.F.Pad ∧ inK .i64 x.F.Weight ∧ inK .i64 x.F.Parent ∧ inK .i64 x.F.Promised ∧ inK .i64 x.F.Last ∧ inK .i64 x.F.Code ∧ inK .i64 x.F.Step) ∧ Star [rd (Kd.int .u8) A5 c5 x.F.Data, rd kApiSetting A6 c6 x.F.Settings, rd kApiField A15 c15 x.Fields] w R F := by
  intro w R F h
  simp only [kd, kWeaveItem, kApiFrame, Kd.iso, Kd.pair, Kd.int, Kd.bool, Kd.str, Kd.sl] at h
  obtain ⟨_, _, rfl, ⟨rfl, h0⟩, ⟨_, _, rfl, ⟨_, _, rfl, ⟨rfl, h1⟩, ⟨_, _, rfl, ⟨rfl, h2⟩, ⟨_, _, rfl, ⟨rfl, h3⟩, ⟨_, _, rfl, ⟨rfl, h4⟩, ⟨_, _, rfl, ⟨A5, c5, rfl, h5⟩, ⟨_, _, rfl, ⟨A6, c6, rfl, h6⟩, ⟨_, _, rfl, ⟨rfl, h7⟩, ⟨_, _, rfl, ⟨rfl, h8⟩, ⟨_, _, rfl, rfl, ⟨_, _, rfl, ⟨rfl, h10⟩, ⟨_, _, rfl, ⟨rfl, h11⟩, ⟨_, _, rfl, ⟨rfl, h12⟩, ⟨rfl, h13⟩⟩⟩⟩⟩⟩⟩⟩⟩⟩⟩⟩⟩, ⟨_, _, rfl, rfl, ⟨A15, c15, rfl, h15⟩⟩⟩⟩ := h
  exact ⟨A5, c5, A6, c6, A15, c15, ⟨rfl, h0, h1, h2, h3, h4, h7, h8, h10, h11, h12, h13⟩, ⟨fun _ => False, fun _ => False, fun _ h => h.elim, fun _ h => h.elim, fun _ h => h.elim, h5, fun _ => False, fun _ => False, fun _ h => h.elim, fun _ h => h.elim, fun _ h => h.elim, h6, fun _ => False, fun _ => False, fun _ h => h.elim, fun _ h => h.elim, fun _ h => h.elim, h15, trivial⟩⟩
theorem mkWeaveItem {x : WeaveItem} {w : World} {R : Foot} {A5 : Option Addr} {c5 : Nat} {A6 : Option Addr} {c6 : Nat} {A15 : Option Addr} {c15 : Nat} (h0 : inK .i64 x.From) (h1 : inK .i64 x.F.Type_) (h2 : inK .i64 x.F.Flags) (h3 : inK .i64 x.F.Stream) (h4 : inK .i64 x.F.Pad) (h5 : Rd (Kd.int .u8) w R A5 c5 x.F.Data) (h6 : Rd kApiSetting w R A6 c6 x.F.Settings) (h7 : inK .i64 x.F.Weight) (h8 : inK .i64 x.F.Parent) (h10 : inK .i64 x.F.Promised) (h11 : inK .i64 x.F.Last) (h12 : inK .i64 x.F.Code) (h13 : inK .i64 x.F.Step) (h15 : Rd kApiField w R A15 c15 x.Fields) : kWeaveItem.rel w R x [.int .i64 x.From, .int .i64 x.F.Type_, .int .i64 x.F.Flags, .int .i64 x.F.Stream, .int .i64 x.F.Pad, .slice A5 x.F.Data.length c5, .slice A6 x.F.Settings.length c6, .int .i64 x.F.Weight, .int .i64 x.F.Parent, .bool x.F.Alone, .int .i64 x.F.Promised, .int .i64 x.F.Last, .int .i64 x.F.Code, .int .i64 x.F.Step, .bool x.Block, .slice A15 x.Fields.length c15] := by
  simp only [kWeaveItem, kApiFrame, Kd.iso, Kd.pair, Kd.int, Kd.bool, Kd.str, Kd.sl]
  exact ⟨_, _, rfl, ⟨rfl, h0⟩, ⟨_, _, rfl, ⟨_, _, rfl, ⟨rfl, h1⟩, ⟨_, _, rfl, ⟨rfl, h2⟩, ⟨_, _, rfl, ⟨rfl, h3⟩, ⟨_, _, rfl, ⟨rfl, h4⟩, ⟨_, _, rfl, ⟨A5, c5, rfl, h5⟩, ⟨_, _, rfl, ⟨A6, c6, rfl, h6⟩, ⟨_, _, rfl, ⟨rfl, h7⟩, ⟨_, _, rfl, ⟨rfl, h8⟩, ⟨_, _, rfl, rfl, ⟨_, _, rfl, ⟨rfl, h10⟩, ⟨_, _, rfl, ⟨rfl, h11⟩, ⟨_, _, rfl, ⟨rfl, h12⟩, ⟨rfl, h13⟩⟩⟩⟩⟩⟩⟩⟩⟩⟩⟩⟩⟩, ⟨_, _, rfl, rfl, ⟨A15, c15, rfl, h15⟩⟩⟩⟩
theorem f_raw_in {f : ApiFrame} {n : Int} (i1 : inK .i64 f.Type_) (i2 : inK .i64 f.Flags) (i3 : inK .i64 f.Stream) (i4 : inK .i64 n) : inK .i64 (f_raw f n).1.From ∧ inK .i64 (f_raw f n).1.Type_ ∧ inK .i64 (f_raw f n).1.Flags ∧ inK .i64 (f_raw f n).1.Stream := by
  have z : inK .i64 0 := ⟨by decide, by decide⟩
  have hw : inK .i64 (f_written f n).1.From ∧ inK .i64 (f_written f n).1.Type_ ∧ inK .i64 (f_written f n).1.Flags ∧ inK .i64 (f_written f n).1.Stream := by
    unfold f_written
    repeat' split
    all_goals first | exact ⟨z, z, z, z⟩ | exact ⟨i4, i1, i2, i3⟩
  unfold f_raw
  repeat' split
  all_goals first | exact ⟨z, z, z, z⟩ | exact hw
def f_wright (x : WeaveItem) : Bool := if (f_weave_sided x.From) = true then if x.F.Pad = (-1) then if x.Block = true then if (f_weave_starts x.F.Type_) = true then if ((x.F.Data.length : Nat) : Int) > 0 then false else if (f_kinds_Has x.F.Type_ x.F.Flags 4) = true then false else (f_right (⟨x.F.Type_, Sl.bor .i64 x.F.Flags 4, x.F.Stream, x.F.Pad, x.F.Data, x.F.Settings, x.F.Weight, x.F.Parent, x.F.Alone, x.F.Promised, x.F.Last, x.F.Code, x.F.Step⟩ : ApiFrame)) else false else if (f_right x.F) = true then if ((x.Fields.length : Nat) : Int) = 0 then if (f_weave_starts x.F.Type_) = true then false else (x.F.Type_ != 9) else false else false else false else false
def f_lput (xs : List ApiRaw) (f : ApiFrame) (n : Int) : Bool × List ApiRaw := if ((f_raw f n).2) = 0 then (true, xs ++ [(f_raw f n).1]) else (false, xs)
theorem s_wright (x : WeaveItem) (Ax5 : Option Addr) (cx5 : Nat) (Ax6 : Option Addr) (cx6 : Nat) (Ax15 : Option Addr) (cx15 : Nat) (hs : x.F.Settings.length ≤ 1048576) (hd : x.F.Data.length ≤ 1073741824) :
    Spec Tryz.prog 18 [.agg #[.int .i64 x.From, .int .i64 x.F.Type_, .int .i64 x.F.Flags, .int .i64 x.F.Stream, .int .i64 x.F.Pad, .slice Ax5 x.F.Data.length cx5, .slice Ax6 x.F.Settings.length cx6, .int .i64 x.F.Weight, .int .i64 x.F.Parent, .bool x.F.Alone, .int .i64 x.F.Promised, .int .i64 x.F.Last, .int .i64 x.F.Code, .int .i64 x.F.Step, .bool x.Block, .slice Ax15 x.Fields.length cx15]].toArray [rd (Kd.int .u8) Ax5 cx5 x.F.Data, rd kApiSetting Ax6 cx6 x.F.Settings, rd kApiField Ax15 cx15 x.Fields] (fun v L => v = .bool (f_wright x) ∧ L = [rd (Kd.int .u8) Ax5 cx5 x.F.Data, rd kApiSetting Ax6 cx6 x.F.Settings, rd kApiField Ax15 cx15 x.Fields]) := by
  refine Spec.enter Tryz.func18 rfl Tryz.ntmps18 rfl rfl (fun w0 R0 F0 => ?_)
  refine J.seq ?_
  refine J.region ?_
  refine JL.ef (O1.box rfl rfl) rfl ?_
  rintro _ _ ⟨b_1, rfl, rfl⟩
  refine JL.qt (Qt.assign rfl) rfl ?_
  refine JL.nil ?_
  refine JN.code ?_
  refine J.seq ?_
  refine J.region ?_
  refine JL.qt (Qt.fa (o' := 1) fo61_1 rfl rfl) rfl ?_
  refine JL.qt (Qt.ldA 0 ag40 sz40 rfl rfl rfl rfl) rfl ?_
  refine JL.ef (O1.alloc ze40) rfl ?_
  rintro _ _ ⟨b_2, rfl, rfl⟩
  refine JL.sk (O1.stA 0 sz40 rfl rfl rfl rfl rfl rfl rfl rfl) ?_
  refine JL.nil ?_
  refine JN.code ?_
  refine J.seq ?_
  refine J.block ?_
  refine J.seq ?_
  refine J.region ?_
  refine JL.qt (Qt.fa (o' := 0) fo61_0 rfl rfl) rfl ?_
  refine JL.qt (Qt.ld 1 pl3 rfl rfl rfl) rfl ?_
  refine JL.call (O1.call Tryz.func34 rfl rfl rfl [] rfl (s_weave_sided x.From)) rfl ?_
  rintro _ _ ⟨rfl, rfl⟩
  refine JL.qt (Qt.un (fun _ => not_run) rfl) rfl ?_
  refine JL.qt (Qt.move rfl) rfl ?_
  refine JL.cases_not (t := 11) rfl (fun h1 => ?_) (fun h1 => ?_)
  · refine JL.g_outU rfl rfl rfl rfl ?_
    refine JL.g_outU rfl rfl rfl rfl ?_
    refine JL.g_outU rfl rfl rfl rfl ?_
    refine JL.qt (Qt.pick_t rfl rfl) rfl ?_
    refine JL.qt (Qt.assign rfl) rfl ?_
    refine JL.nil ?_
    refine JN.code ?_
    refine J.cond_true rfl ?_
    refine J.seq ?_
    refine J.region ?_
    refine JL.qt (Qt.assign rfl) rfl ?_
    refine JL.nil ?_
    refine JN.code ?_
    refine J.ret ?_
    refine JN.back (res1 rfl rfl) [2, 2, 2] rfl ?_
    exact ⟨by unfold f_wright; rw [if_neg (Bool.eq_false_iff.1 h1)] <;> rfl, rfl⟩
  refine JL.g_in rfl rfl ?_
  refine JL.qt (Qt.fa (o' := 3) fo40_3 rfl rfl) rfl ?_
  refine JL.g_in rfl rfl ?_
  refine JL.qt (Qt.ld 0 pl3 rfl rfl rfl) rfl ?_
  refine JL.g_in rfl rfl ?_
  refine JL.qt (Qt.bin (fun _ => neq_run) rfl rfl rfl) rfl ?_
  refine JL.qt (Qt.pick_f rfl rfl) rfl ?_
  refine JL.qt (Qt.assign rfl) rfl ?_
  refine JL.nil ?_
  refine JN.code ?_
  refine J.cond_ne rfl (fun h2 => ?_) (fun h2 => ?_)
  · refine J.seq ?_
    refine J.region ?_
    refine JL.qt (Qt.assign rfl) rfl ?_
    refine JL.nil ?_
    refine JN.code ?_
    refine J.ret ?_
    refine JN.back (res1 rfl rfl) [2, 2, 2] rfl ?_
    exact ⟨by unfold f_wright; rw [if_pos h1, if_neg h2] <;> rfl, rfl⟩
  refine J.seq ?_
  refine J.region ?_
  refine JL.qt (Qt.fa (o' := 14) fo61_2 rfl rfl) rfl ?_
  refine JL.qt (Qt.ld 1 pl4 rfl rfl rfl) rfl ?_
  refine JL.qt (Qt.un (fun _ => not_run) rfl) rfl ?_
  refine JL.qt (Qt.assign rfl) rfl ?_
  refine JL.nil ?_
  refine JN.code ?_
  refine J.cond_not rfl (fun h3 => ?_) (fun h3 => ?_)
  · refine J.seq ?_
    refine J.region ?_
    refine JL.qt (Qt.ldA 0 ag40 sz40 rfl rfl rfl rfl) rfl ?_
    refine JL.call (O1.call Tryz.func35 rfl rfl rfl [2, 2] rfl (s_right x.F Ax5 cx5 Ax6 cx6 hs hd (by omega))) rfl ?_
    rintro _ _ ⟨rfl, rfl⟩
    refine JL.qt (Qt.move rfl) rfl ?_
    refine JL.cases (t := 22) rfl (fun h4 => ?_) (fun h4 => ?_)
    · refine JL.g_in rfl rfl ?_
      refine JL.qt (Qt.fa (o' := 15) fo61_3 rfl rfl) rfl ?_
      refine JL.g_in rfl rfl ?_
      refine JL.qt (Qt.ld 3 pl41 rfl rfl rfl) rfl ?_
      refine JL.g_in rfl rfl ?_
      refine JL.qt (Qt.bi (fun _ _ => len_slice_run Tryz.underlying41) rfl) rfl ?_
      refine JL.g_in rfl rfl ?_
      refine JL.qt (Qt.bin (fun _ => eql_run) rfl rfl rfl) rfl ?_
      refine JL.qt (Qt.pick_t rfl rfl) rfl ?_
      refine JL.qt (Qt.move rfl) rfl ?_
      refine JL.cases_eq (t := 28) rfl (fun h5 => ?_) (fun h5 => ?_)
      · refine JL.g_in rfl rfl ?_
        refine JL.qt (Qt.fa (o' := 0) fo40_0 rfl rfl) rfl ?_
        refine JL.g_in rfl rfl ?_
        refine JL.qt (Qt.ld 2 pl3 rfl rfl rfl) rfl ?_
        refine JL.g_in rfl rfl ?_
        refine JL.call (O1.call Tryz.func36 rfl rfl rfl [] rfl (s_weave_starts x.F.Type_)) rfl ?_
        rintro _ _ ⟨rfl, rfl⟩
        refine JL.g_in rfl rfl ?_
        refine JL.qt (Qt.un (fun _ => not_run) rfl) rfl ?_
        refine JL.qt (Qt.pick_t rfl rfl) rfl ?_
        refine JL.qt (Qt.move rfl) rfl ?_
        refine JL.cases_not (t := 34) rfl (fun h6 => ?_) (fun h6 => ?_)
        · refine JL.g_in rfl rfl ?_
          refine JL.qt (Qt.fa (o' := 0) fo40_0 rfl rfl) rfl ?_
          refine JL.g_in rfl rfl ?_
          refine JL.qt (Qt.ld 2 pl3 rfl rfl rfl) rfl ?_
          refine JL.g_in rfl rfl ?_
          refine JL.qt (Qt.bin (fun _ => neq_run) rfl rfl rfl) rfl ?_
          refine JL.qt (Qt.pick_t rfl rfl) rfl ?_
          refine JL.qt (Qt.assign rfl) rfl ?_
          refine JL.nil ?_
          refine JN.code ?_
          refine J.ret ?_
          refine JN.back (res1 rfl rfl) [0, 0, 2] rfl ?_
          exact ⟨by unfold f_wright; rw [if_pos h1, if_pos h2, if_neg (Bool.eq_false_iff.1 h3), if_pos h4, if_pos h5, if_neg (Bool.eq_false_iff.1 h6)] <;> rfl, rfl⟩
        refine JL.g_outU rfl rfl rfl rfl ?_
        refine JL.g_outU rfl rfl rfl rfl ?_
        refine JL.g_outU rfl rfl rfl rfl ?_
        refine JL.qt (Qt.pick_f rfl rfl) rfl ?_
        refine JL.qt (Qt.assign rfl) rfl ?_
        refine JL.nil ?_
        refine JN.code ?_
        refine J.ret ?_
        refine JN.back (res1 rfl rfl) [0, 0, 2] rfl ?_
        exact ⟨by unfold f_wright; rw [if_pos h1, if_pos h2, if_neg (Bool.eq_false_iff.1 h3), if_pos h4, if_pos h5, if_pos h6] <;> rfl, rfl⟩
      refine JL.g_outU rfl rfl rfl rfl ?_
      refine JL.g_outU rfl rfl rfl rfl ?_
      refine JL.g_outU rfl rfl rfl rfl ?_
      refine JL.g_outU rfl rfl rfl rfl ?_
      refine JL.qt (Qt.pick_f rfl rfl) rfl ?_
      refine JL.qt (Qt.move rfl) rfl ?_
      refine JL.g_outU rfl rfl rfl rfl ?_
      refine JL.g_outU rfl rfl rfl rfl ?_
      refine JL.g_outU rfl rfl rfl rfl ?_
      refine JL.qt (Qt.pick_f rfl rfl) rfl ?_
      refine JL.qt (Qt.assign rfl) rfl ?_
      refine JL.nil ?_
      refine JN.code ?_
      refine J.ret ?_
      refine JN.back (res1 rfl rfl) [0, 0, 2] rfl ?_
      exact ⟨by unfold f_wright; rw [if_pos h1, if_pos h2, if_neg (Bool.eq_false_iff.1 h3), if_pos h4, if_neg h5] <;> rfl, rfl⟩
    refine JL.g_outU rfl rfl rfl rfl ?_
    refine JL.g_outU rfl rfl rfl rfl ?_
    refine JL.g_outU rfl rfl rfl rfl ?_
    refine JL.g_outU rfl rfl rfl rfl ?_
    refine JL.qt (Qt.pick_f rfl rfl) rfl ?_
    refine JL.qt (Qt.move rfl) rfl ?_
    refine JL.g_outU rfl rfl rfl rfl ?_
    refine JL.g_outU rfl rfl rfl rfl ?_
    refine JL.g_outU rfl rfl rfl rfl ?_
    refine JL.g_outU rfl rfl rfl rfl ?_
    refine JL.qt (Qt.pick_f rfl rfl) rfl ?_
    refine JL.qt (Qt.move rfl) rfl ?_
    refine JL.g_outU rfl rfl rfl rfl ?_
    refine JL.g_outU rfl rfl rfl rfl ?_
    refine JL.g_outU rfl rfl rfl rfl ?_
    refine JL.qt (Qt.pick_f rfl rfl) rfl ?_
    refine JL.qt (Qt.assign rfl) rfl ?_
    refine JL.nil ?_
    refine JN.code ?_
    refine J.ret ?_
    refine JN.back (res1 rfl rfl) [0, 0, 2] rfl ?_
    exact ⟨by unfold f_wright; rw [if_pos h1, if_pos h2, if_neg (Bool.eq_false_iff.1 h3), if_neg (Bool.eq_false_iff.1 h4)] <;> rfl, rfl⟩
  refine J.seq ?_
  refine J.region ?_
  refine JL.qt (Qt.fa (o' := 0) fo40_0 rfl rfl) rfl ?_
  refine JL.qt (Qt.ld 0 pl3 rfl rfl rfl) rfl ?_
  refine JL.call (O1.call Tryz.func36 rfl rfl rfl [] rfl (s_weave_starts x.F.Type_)) rfl ?_
  rintro _ _ ⟨rfl, rfl⟩
  refine JL.qt (Qt.un (fun _ => not_run) rfl) rfl ?_
  refine JL.qt (Qt.move rfl) rfl ?_
  refine JL.cases_not (t := 44) rfl (fun h7 => ?_) (fun h7 => ?_)
  · refine JL.g_outU rfl rfl rfl rfl ?_
    refine JL.g_outU rfl rfl rfl rfl ?_
    refine JL.g_outU rfl rfl rfl rfl ?_
    refine JL.g_outU rfl rfl rfl rfl ?_
    refine JL.qt (Qt.pick_t rfl rfl) rfl ?_
    refine JL.qt (Qt.move rfl) rfl ?_
    refine JL.g_outU rfl rfl rfl rfl ?_
    refine JL.g_outU rfl rfl rfl rfl ?_
    refine JL.g_outU rfl rfl rfl rfl ?_
    refine JL.g_outU rfl rfl rfl rfl ?_
    refine JL.g_outU rfl rfl rfl rfl ?_
    refine JL.qt (Qt.pick_t rfl rfl) rfl ?_
    refine JL.qt (Qt.assign rfl) rfl ?_
    refine JL.nil ?_
    refine JN.code ?_
    refine J.cond_true rfl ?_
    refine J.seq ?_
    refine J.keep [2, 3] rfl ?_
    refine J.region ?_
    refine JL.qt (Qt.assign rfl) rfl ?_
    refine JL.nil ?_
    refine JN.code ?_
    refine J.ret ?_
    refine JN.back (res1 rfl rfl) [2, 2, 2] rfl ?_
    exact ⟨by unfold f_wright; rw [if_pos h1, if_pos h2, if_pos h3, if_neg (Bool.eq_false_iff.1 h7)] <;> rfl, rfl⟩
  refine JL.g_in rfl rfl ?_
  refine JL.qt (Qt.fa (o' := 4) fo40_4 rfl rfl) rfl ?_
  refine JL.g_in rfl rfl ?_
  refine JL.qt (Qt.ld 0 pl37 rfl rfl rfl) rfl ?_
  refine JL.g_in rfl rfl ?_
  refine JL.qt (Qt.bi (fun _ _ => len_slice_run Tryz.underlying37) rfl) rfl ?_
  refine JL.g_in rfl rfl ?_
  refine JL.qt (Qt.bin (fun _ => gtr_run) rfl rfl rfl) rfl ?_
  refine JL.qt (Qt.pick_f rfl rfl) rfl ?_
  refine JL.qt (Qt.move rfl) rfl ?_
  refine JL.cases_dec (t := 50) rfl (fun h8 => ?_) (fun h8 => ?_)
  · refine JL.g_outU rfl rfl rfl rfl ?_
    refine JL.g_outU rfl rfl rfl rfl ?_
    refine JL.g_outU rfl rfl rfl rfl ?_
    refine JL.g_outU rfl rfl rfl rfl ?_
    refine JL.g_outU rfl rfl rfl rfl ?_
    refine JL.qt (Qt.pick_t rfl rfl) rfl ?_
    refine JL.qt (Qt.assign rfl) rfl ?_
    refine JL.nil ?_
    refine JN.code ?_
    refine J.cond_true rfl ?_
    refine J.seq ?_
    refine J.keep [2, 3] rfl ?_
    refine J.region ?_
    refine JL.qt (Qt.assign rfl) rfl ?_
    refine JL.nil ?_
    refine JN.code ?_
    refine J.ret ?_
    refine JN.back (res1 rfl rfl) [2, 2, 2] rfl ?_
    exact ⟨by unfold f_wright; rw [if_pos h1, if_pos h2, if_pos h3, if_pos h7, if_pos h8] <;> rfl, rfl⟩
  refine JL.g_in rfl rfl ?_
  refine JL.qt (Qt.fa (o' := 0) fo40_0 rfl rfl) rfl ?_
  refine JL.g_in rfl rfl ?_
  refine JL.qt (Qt.ld 0 pl3 rfl rfl rfl) rfl ?_
  refine JL.g_in rfl rfl ?_
  refine JL.qt (Qt.fa (o' := 1) fo40_1 rfl rfl) rfl ?_
  refine JL.g_in rfl rfl ?_
  refine JL.qt (Qt.ld 0 pl3 rfl rfl rfl) rfl ?_
  refine JL.g_in rfl rfl ?_
  refine JL.call (O1.call Tryz.func37 rfl rfl rfl [] rfl (s_kinds_Has x.F.Type_ x.F.Flags 4)) rfl ?_
  rintro _ _ ⟨rfl, rfl⟩
  refine JL.qt (Qt.pick_f rfl rfl) rfl ?_
  refine JL.qt (Qt.assign rfl) rfl ?_
  refine JL.nil ?_
  refine JN.code ?_
  refine J.cond rfl (fun h9 => ?_) (fun h9 => ?_)
  · refine J.seq ?_
    refine J.keep [2, 3] rfl ?_
    refine J.region ?_
    refine JL.qt (Qt.assign rfl) rfl ?_
    refine JL.nil ?_
    refine JN.code ?_
    refine J.ret ?_
    refine JN.back (res1 rfl rfl) [2, 2, 2] rfl ?_
    exact ⟨by unfold f_wright; rw [if_pos h1, if_pos h2, if_pos h3, if_pos h7, if_neg h8, if_pos h9] <;> rfl, rfl⟩
  refine J.skip ?_
  refine JN.code ?_
  refine J.seq ?_
  refine J.keep [2, 3] rfl ?_
  refine J.at [blk b_2 40 [.int .i64 x.F.Type_, .int .i64 x.F.Flags, .int .i64 x.F.Stream, .int .i64 x.F.Pad, .slice Ax5 x.F.Data.length cx5, .slice Ax6 x.F.Settings.length cx6, .int .i64 x.F.Weight, .int .i64 x.F.Parent, .bool x.F.Alone, .int .i64 x.F.Promised, .int .i64 x.F.Last, .int .i64 x.F.Code, .int .i64 x.F.Step], blk b_1 61 [.int .i64 x.From, .int .i64 x.F.Type_, .int .i64 x.F.Flags, .int .i64 x.F.Stream, .int .i64 x.F.Pad, .slice Ax5 x.F.Data.length cx5, .slice Ax6 x.F.Settings.length cx6, .int .i64 x.F.Weight, .int .i64 x.F.Parent, .bool x.F.Alone, .int .i64 x.F.Promised, .int .i64 x.F.Last, .int .i64 x.F.Code, .int .i64 x.F.Step, .bool x.Block, .slice Ax15 x.Fields.length cx15], rd (Kd.int .u8) Ax5 cx5 x.F.Data, rd kApiSetting Ax6 cx6 x.F.Settings, rd kApiField Ax15 cx15 x.Fields] rfl ?_
  refine J.region ?_
  refine JL.qt (Qt.fa (o' := 1) fo40_1 rfl rfl) rfl ?_
  refine JL.qt (Qt.ld 0 pl3 rfl rfl rfl) rfl ?_
  refine JL.qt (Qt.bin (fun _ => or_run) rfl rfl rfl) rfl ?_
  refine JL.qt (Qt.fa (o' := 1) fo40_1 rfl rfl) rfl ?_
  refine JL.sk (O1.st 0 sz3 rfl rfl rfl rfl rfl rfl) ?_
  refine JL.nil ?_
  refine JN.code ?_
  refine J.seq ?_
  refine J.region ?_
  refine JL.qt (Qt.ldA 0 ag40 sz40 rfl rfl rfl rfl) rfl ?_
  refine JL.call (O1.call Tryz.func35 rfl rfl rfl [2, 2] rfl (s_right (⟨x.F.Type_, Sl.bor .i64 x.F.Flags 4, x.F.Stream, x.F.Pad, x.F.Data, x.F.Settings, x.F.Weight, x.F.Parent, x.F.Alone, x.F.Promised, x.F.Last, x.F.Code, x.F.Step⟩ : ApiFrame) Ax5 cx5 Ax6 cx6 hs hd (by omega))) rfl ?_
  rintro _ _ ⟨rfl, rfl⟩
  refine JL.qt (Qt.assign rfl) rfl ?_
  refine JL.nil ?_
  refine JN.code ?_
  refine J.ret ?_
  refine JN.back (res1 rfl rfl) [0, 0, 2] rfl ?_
  exact ⟨by unfold f_wright; rw [if_pos h1, if_pos h2, if_pos h3, if_pos h7, if_neg h8, if_neg (Bool.eq_false_iff.1 h9)] <;> rfl, rfl⟩
theorem s_pad (f : ApiFrame) (Af4 : Option Addr) (cf4 : Nat) (Af5 : Option Addr) (cf5 : Nat) :
    Spec Tryz.prog 21 [.agg #[.int .i64 f.Type_, .int .i64 f.Flags, .int .i64 f.Stream, .int .i64 f.Pad, .slice Af4 f.Data.length cf4, .slice Af5 f.Settings.length cf5, .int .i64 f.Weight, .int .i64 f.Parent, .bool f.Alone, .int .i64 f.Promised, .int .i64 f.Last, .int .i64 f.Code, .int .i64 f.Step], .int .i64 (-1)].toArray [rd (Kd.int .u8) Af4 cf4 f.Data, rd kApiSetting Af5 cf5 f.Settings] (fun v L => v = .agg #[.int .i64 f.Type_, .int .i64 f.Flags, .int .i64 f.Stream, .int .i64 f.Pad, .slice Af4 f.Data.length cf4, .slice Af5 f.Settings.length cf5, .int .i64 f.Weight, .int .i64 f.Parent, .bool f.Alone, .int .i64 f.Promised, .int .i64 f.Last, .int .i64 f.Code, .int .i64 f.Step] ∧ L = [rd (Kd.int .u8) Af4 cf4 f.Data, rd kApiSetting Af5 cf5 f.Settings]) := by
  refine Spec.enter Tryz.func21 rfl Tryz.ntmps21 rfl rfl (fun w0 R0 F0 => ?_)
  refine J.seq ?_
  refine J.region ?_
  refine JL.ef (O1.box rfl rfl) rfl ?_
  rintro _ _ ⟨b_1, rfl, rfl⟩
  refine JL.ef (O1.alloc ze40) rfl ?_
  rintro _ _ ⟨b_2, rfl, rfl⟩
  refine JL.nil ?_
  refine JN.code ?_
  refine J.seq ?_
  refine J.seq ?_
  refine J.region ?_
  refine JL.qt (Qt.move rfl) rfl ?_
  refine JL.qt (Qt.bin (v := .bool false) (fun _ => geq_run) rfl rfl rfl) rfl ?_
  refine JL.nil ?_
  refine JN.code ?_
  refine J.cond_false rfl ?_
  refine J.skip ?_
  refine JN.code ?_
  refine J.seq ?_
  refine J.region ?_
  refine JL.qt (Qt.ldA 1 ag40 sz40 rfl rfl rfl rfl) rfl ?_
  refine JL.sk (O1.stA 0 sz40 rfl rfl rfl rfl rfl rfl rfl rfl) ?_
  refine JL.nil ?_
  refine JN.code ?_
  refine J.ret ?_
  refine JN.backR (rs := [.cell 4 40]) (vs := [.agg #[.int .i64 f.Type_, .int .i64 f.Flags, .int .i64 f.Stream, .int .i64 f.Pad, .slice Af4 f.Data.length cf4, .slice Af5 f.Settings.length cf5, .int .i64 f.Weight, .int .i64 f.Parent, .bool f.Alone, .int .i64 f.Promised, .int .i64 f.Last, .int .i64 f.Code, .int .i64 f.Step]]) rfl ?_ [2, 2] rfl ?_
  · exact .cell (x := 4) (t := 40) (b := b_2) (o := 0) rfl (Qt.ldA (cs := [.int .i64 f.Type_, .int .i64 f.Flags, .int .i64 f.Stream, .int .i64 f.Pad, .slice Af4 f.Data.length cf4, .slice Af5 f.Settings.length cf5, .int .i64 f.Weight, .int .i64 f.Parent, .bool f.Alone, .int .i64 f.Promised, .int .i64 f.Last, .int .i64 f.Code, .int .i64 f.Step]) 0 ag40 sz40 rfl rfl rfl rfl) .nil
  exact ⟨rfl, rfl⟩
theorem s_lput (w : Nat) (e0 : Value) (e1 : Value) (A1 : Option Addr) (c1 : Nat) (xs : List ApiRaw) (f : ApiFrame) (n : Int) (Af4 : Option Addr) (cf4 : Nat) (Af5 : Option Addr) (cf5 : Nat) (hs : f.Settings.length ≤ 1048576) (hd : f.Data.length ≤ 1073741824) (hp : f.Pad = -1) (hx : xs.length ≤ 1073741824) (i1 : inK .i64 f.Type_) (i2 : inK .i64 f.Flags) (i3 : inK .i64 f.Stream) (i4 : inK .i64 n) :
    Spec Tryz.prog 20 [.pointer (some ⟨w, 0, none⟩), .agg #[.int .i64 f.Type_, .int .i64 f.Flags, .int .i64 f.Stream, .int .i64 f.Pad, .slice Af4 f.Data.length cf4, .slice Af5 f.Settings.length cf5, .int .i64 f.Weight, .int .i64 f.Parent, .bool f.Alone, .int .i64 f.Promised, .int .i64 f.Last, .int .i64 f.Code, .int .i64 f.Step], .int .i64 n].toArray [blk w 58 [e0, e1, .slice A1 xs.length c1], row kApiRaw 45 A1 c1 xs, rd (Kd.int .u8) Af4 cf4 f.Data, rd kApiSetting Af5 cf5 f.Settings] (fun v L => ∃ (A2 : Option Addr), ∃ (c2 : Nat), v = .bool ((f_lput xs f n).1) ∧ L = [blk w 58 [e0, e1, .slice A2 (((f_lput xs f n).2).length) c2], row kApiRaw 45 A2 c2 ((f_lput xs f n).2), rd (Kd.int .u8) Af4 cf4 f.Data, rd kApiSetting Af5 cf5 f.Settings]) := by
  refine Spec.enter Tryz.func20 rfl Tryz.ntmps20 rfl rfl (fun w0 R0 F0 => ?_)
  refine J.seq ?_
  refine J.region ?_
  refine JL.ef (O1.box rfl rfl) rfl ?_
  rintro _ _ ⟨b_1, rfl, rfl⟩
  refine JL.qt (Qt.assign rfl) rfl ?_
  refine JL.nil ?_
  refine JN.code ?_
  refine J.seq ?_
  refine J.region ?_
  refine JL.qt (Qt.ldA 0 ag40 sz40 rfl rfl rfl rfl) rfl ?_
  refine JL.qt (Qt.move rfl) rfl ?_
  refine JL.call (O1.call Tryz.func39 rfl rfl rfl [3, 3] rfl (s_raw f n Af4 cf4 Af5 cf5 hs hd hp)) rfl ?_
  rintro _ _ ⟨A2_2, c2_3, rfl, rfl⟩
  refine JL.qt (Qt.move rfl) rfl ?_
  refine JL.qt (Qt.extract rfl rfl) rfl ?_
  refine JL.qt (Qt.extract rfl rfl) rfl ?_
  refine JL.ef (O1.alloc ze45) rfl ?_
  rintro _ _ ⟨b_4, rfl, rfl⟩
  refine JL.sk (O1.stA 0 sz45 rfl rfl rfl rfl rfl rfl rfl rfl) ?_
  refine JL.qt (Qt.assign rfl) rfl ?_
  refine JL.nil ?_
  refine JN.code ?_
  refine J.seq ?_
  refine J.seq ?_
  refine J.region ?_
  refine JL.qt (Qt.move rfl) rfl ?_
  refine JL.qt (Qt.bin (fun _ => neq_run) rfl rfl rfl) rfl ?_
  refine JL.nil ?_
  refine JN.code ?_
  refine J.cond_ne rfl (fun h1 => ?_) (fun h1 => ?_)
  · refine J.seq ?_
    refine J.region ?_
    refine JL.qt (Qt.assign rfl) rfl ?_
    refine JL.nil ?_
    refine JN.code ?_
    refine J.ret ?_
    refine JN.back (res1 rfl rfl) [5, 5, 2, 2] rfl ?_
    exact ⟨A1, c1, by unfold f_lput; rw [if_neg h1] <;> rfl, by unfold f_lput; rw [if_neg h1] <;> rfl⟩
  refine J.skip ?_
  refine JN.code ?_
  refine J.seq ?_
  refine J.sch (.qt 0 (.qt 1 (.qt 2 (.qt 3 (.qt 4 (.qt 5 (.ef 6 [4] (.ef 7 [] (.qt 8 (.qt 9 (.ef 10 [] (.done)))))))))))) mixed (by repeat (first | exact Xe.noLook_body | refine noLook_then ?_ | refine noLook_block ?_)) (by kernel_rfl) ?_
  refine JS.q0 rfl (Qt.move rfl) rfl ?_
  refine JS.q0 rfl (Qt.move rfl) rfl ?_
  refine JS.q0 rfl (Qt.nck rfl) rfl ?_
  refine JS.q0 rfl (Qt.fa (o' := 2) fo58_1 rfl rfl) rfl ?_
  refine JS.q1 (j := 5) rfl rfl rfl (Qt.ld 0 pl30 rfl rfl rfl) rfl ?_
  refine JS.q1 (j := 0) rfl rfl rfl (Qt.ldA 0 ag45 sz45 rfl rfl rfl rfl) rfl ?_
  refine JS.e1 ?_
  refine JE.ef rfl (O1.bsl el30 ze45 rfl rfl rfl) rfl ?_
  rintro _ _ ⟨b_5, rfl, rfl⟩
  refine ⟨⟨.inl rfl, ⟨.inr ⟨6, _, rfl⟩, trivial⟩⟩, ?_⟩
  refine JS.e1 ?_
  refine JE.ef rfl (O1.append (D := kApiRaw) (xs := xs) (ys := [(f_raw f n).1]) 7 el30 rfl rfl rfl rfl rfl (fun w R o s => (by obtain ⟨_, _, hr⟩ := s.has (i := 1) rfl; have := f_raw_in i1 i2 i3 i4; exact Elems.one_elem (mkApiRaw this.1 this.2.1 this.2.2.1 this.2.2.2 hr))) (by simp; omega)) rfl ?_
  rintro _ _ ⟨A_6, c_7, rfl, rfl⟩
  refine ⟨⟨.inl rfl, ⟨.inl rfl, trivial⟩⟩, ?_⟩
  refine JS.q0 rfl (Qt.nck rfl) rfl ?_
  refine JS.q0 rfl (Qt.fa (o' := 2) fo58_1 rfl rfl) rfl ?_
  refine JS.e1 ?_
  refine JE.sk rfl (O1.st 6 sz30 rfl rfl rfl rfl rfl rfl) ⟨.inl rfl, ⟨.inl rfl, trivial⟩⟩ ?_
  refine JS.done ?_
  refine JN.code ?_
  refine J.seq ?_
  refine J.keep [6] rfl ?_
  refine J.region ?_
  refine JL.qt (Qt.assign rfl) rfl ?_
  refine JL.nil ?_
  refine JN.code ?_
  refine J.ret ?_
  refine JN.back (res1 rfl rfl) [0, 0, 2, 2] rfl ?_
  exact ⟨A_6, c_7, by unfold f_lput; rw [if_pos h1] <;> rfl, by unfold f_lput; rw [if_pos h1] <;> rfl⟩
end Go.Proofs.YthjbkngecgbioaaGreatDoor.Sl
