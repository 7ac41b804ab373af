/- What the evaluator gives, the model gives (no condition). -/
import Derived.Test.YthjbkngecgbioaaGreatDoorLgB
import Derived.Laws.StructEq
import Derived.Laws.BytesString
import Derived.Test.YthjbkngecgbioaaGreatDoorLgA
import Derived.Laws.MakeOwn
import Derived.Laws.AppendOwnNone
import Derived.Laws.Externs
import Derived.Lib.Bytealg
import Derived.ScopeJumps
import Derived.LoopN
set_option linter.unusedVariables false
set_option linter.unusedSimpArgs false
set_option linter.deprecated false
/- The evaluator tells the truth: names and blocks; what values, variables, memory mean. -/
namespace Go.Proofs.YthjbkngecgbioaaGreatDoor.Xe
open Go Go.Proofs.YthjbkngecgbioaaGreatDoor.Sl

/-- A name's block, and of how many places its row is. -/
abbrev Nm := Nat → Nat → Nat → Prop
def strOf (s : List Nat) : ByteArray := ⟨(s.map Nat.toUInt8).toArray⟩
mutual
inductive VR (φ : Nm) : V → Value → Prop
  | int {k : IntKind} {n : Int} : VR φ (.int k n) (.int k n)
  | bool {b : Bool} : VR φ (.bool b) (.bool b)
  | cplx {k : FloatKind} {x y : Nat} : VR φ (.cplx k x y) (.complex k x y)
  | str {s : List Nat} : VR φ (.str s) (.string (strOf s))
  | nilp : VR φ .nilp (.pointer none)
  | ptr {k o b c : Nat} : φ k b c → VR φ (.ptr k o) (.pointer (some ⟨b, o, none⟩))
  | nils : VR φ .nils (.slice none 0 0)
  | sl {k n b c : Nat} : φ k b c → n ≤ c → VR φ (.sl k n) (.slice (some ⟨b, 0, none⟩) n c)
  | sub {k o d n b c : Nat} : φ k b c → d + n ≤ c → VR φ (.sub k o d n) (.slice (some ⟨b, o, none⟩) n (c - d))
  | emp {k b c o c' : Nat} : φ k b c → VR φ (.emp k) (.slice (some ⟨b, o, none⟩) 0 c')
  | agg {l : List V} {vs : List Value} : VRs φ l vs → VR φ (.agg l) (.agg vs.toArray)
  | tup {l : List V} {vs : List Value} : VRs φ l vs → VR φ (.tup l) (.tuple vs.toArray)
  | fn {f : Nat} {l : List V} {vs : List Value} : VRs φ l vs → VR φ (.fn f l) (.func (.func f) vs.toArray #[])
  | nilfn : VR φ .nilfn .nilFunc
  | nilif : VR φ .nilif .nilIface
  | nilmap : VR φ .nilmap (.map none)
  | map {k b c : Nat} : φ k b c → VR φ (.map k) (.map (some b))
inductive VRs (φ : Nm) : List V → List Value → Prop
  | nil : VRs φ [] []
  | cons {u : V} {v : Value} {l : List V} {m : List Value} : VR φ u v → VRs φ l m → VRs φ (u :: l) (v :: m)
end
section
variable {φ ψ : Nm}
mutual
theorem VR.mono (h : ∀ k b c, φ k b c → ψ k b c) : ∀ {u : V} {v : Value}, VR φ u v → VR ψ u v
  | _, _, .int => .int
  | _, _, .bool => .bool
  | _, _, .cplx => .cplx
  | _, _, .str => .str
  | _, _, .nilp => .nilp
  | _, _, .ptr p => .ptr (h _ _ _ p)
  | _, _, .nils => .nils
  | _, _, .sl p q => .sl (h _ _ _ p) q
  | _, _, .sub p q => .sub (h _ _ _ p) q
  | _, _, .emp p => .emp (h _ _ _ p)
  | _, _, .agg p => .agg (VRs.mono h p)
  | _, _, .tup p => .tup (VRs.mono h p)
  | _, _, .fn p => .fn (VRs.mono h p)
  | _, _, .nilfn => .nilfn
  | _, _, .nilif => .nilif
  | _, _, .nilmap => .nilmap
  | _, _, .map p => .map (h _ _ _ p)
theorem VRs.mono (h : ∀ k b c, φ k b c → ψ k b c) : ∀ {l : List V} {m : List Value}, VRs φ l m → VRs ψ l m
  | _, _, .nil => .nil
  | _, _, .cons p q => .cons (VR.mono h p) (VRs.mono h q)
end
def Fun (φ : Nm) : Prop := ∀ k b c b' c', φ k b c → φ k b' c' → b = b' ∧ c = c'
mutual
theorem VR.unique (hf : Fun φ) : ∀ {u : V} {v v' : Value}, u.clean = true → VR φ u v → VR φ u v' → v = v'
  | _, _, _, _, .int, .int => rfl
  | _, _, _, _, .bool, .bool => rfl
  | _, _, _, _, .cplx, .cplx => rfl
  | _, _, _, _, .str, .str => rfl
  | _, _, _, _, .nilp, .nilp => rfl
  | _, _, _, _, .ptr p, .ptr q => by rw [(hf _ _ _ _ _ p q).1]
  | _, _, _, _, .nils, .nils => rfl
  | _, _, _, _, .sl p _, .sl q _ => by obtain ⟨rfl, rfl⟩ := hf _ _ _ _ _ p q; rfl
  | _, _, _, _, .sub p _, .sub q _ => by obtain ⟨rfl, rfl⟩ := hf _ _ _ _ _ p q; rfl
  | _, _, _, h, .emp _, .emp _ => by simp [V.clean] at h
  | _, _, _, h, .agg p, .agg q => by rw [VRs.unique hf (by simpa [V.clean] using h) p q]
  | _, _, _, h, .tup p, .tup q => by rw [VRs.unique hf (by simpa [V.clean] using h) p q]
  | _, _, _, h, .fn p, .fn q => by rw [VRs.unique hf (by simpa [V.clean] using h) p q]
  | _, _, _, _, .nilfn, .nilfn => rfl
  | _, _, _, _, .nilif, .nilif => rfl
  | _, _, _, _, .nilmap, .nilmap => rfl
  | _, _, _, _, .map p, .map q => by rw [(hf _ _ _ _ _ p q).1]
theorem VRs.unique (hf : Fun φ) : ∀ {l : List V} {m m' : List Value}, cleans l = true → VRs φ l m → VRs φ l m' → m = m'
  | _, _, _, _, .nil, .nil => rfl
  | _, _, _, h, .cons p q, .cons p' q' => by
    simp only [cleans, Bool.and_eq_true] at h
    rw [VR.unique hf h.1 p p', VRs.unique hf h.2 q q']
end
theorem VRs.length : ∀ {l : List V} {m : List Value}, VRs φ l m → l.length = m.length
  | _, _, .nil => rfl
  | _, _, .cons _ q => by simp [VRs.length q]
theorem VRs.get : ∀ {l : List V} {m : List Value} {i : Nat} {u : V}, VRs φ l m → l[i]? = some u → ∃ v, m[i]? = some v ∧ VR φ u v
  | _, _, _, _, .nil, h => by simp at h
  | _, _, 0, _, .cons p _, h => by simp at h; subst h; exact ⟨_, by simp, p⟩
  | _, _, i + 1, _, .cons _ q, h => by
    obtain ⟨v, h1, h2⟩ := VRs.get (i := i) q (by simpa using h)
    exact ⟨v, by simpa using h1, h2⟩
theorem VRs.take : ∀ {l : List V} {m : List Value} (n : Nat), VRs φ l m → VRs φ (l.take n) (m.take n)
  | _, _, 0, _ => by simp; exact .nil
  | _, _, _ + 1, .nil => .nil
  | _, _, n + 1, .cons p q => by simp only [List.take_succ_cons]; exact .cons p (VRs.take n q)
theorem VRs.drop : ∀ {l : List V} {m : List Value} (n : Nat), VRs φ l m → VRs φ (l.drop n) (m.drop n)
  | _, _, 0, h => h
  | _, _, _ + 1, .nil => .nil
  | _, _, n + 1, .cons _ q => by simp only [List.drop_succ_cons]; exact VRs.drop n q
theorem VRs.append : ∀ {l l' : List V} {m m' : List Value}, VRs φ l m → VRs φ l' m' → VRs φ (l ++ l') (m ++ m')
  | _, _, _, _, .nil, h => h
  | _, _, _, _, .cons p q, h => .cons p (VRs.append q h)
theorem VRs.set : ∀ {l : List V} {m : List Value} {i : Nat} {u : V} {v : Value}, VRs φ l m → VR φ u v → VRs φ (l.set i u) (m.set i v)
  | _, _, _, _, _, .nil, _ => by simp; exact .nil
  | _, _, 0, _, _, .cons _ q, h => by simp only [List.set_cons_zero]; exact .cons h q
  | _, _, i + 1, _, _, .cons p q, h => by simp only [List.set_cons_succ]; exact .cons p (VRs.set q h)
theorem VRs.put : ∀ {us : List V} {vs : List Value} {l : List V} {m : List Value} {o : Nat}, VRs φ us vs → VRs φ l m → VRs φ (putX l o us) (putL m o vs)
  | _, _, _, _, _, .nil, h => h
  | _, _, _, _, _, .cons p q, h => by simp only [putX, putL]; exact VRs.put q (VRs.set h p)
theorem VRs.rep {l : List V} {m : List Value} (h : VRs φ l m) : ∀ n, ∃ r, VRs φ (Xe.rep l n) r ∧ r = (List.replicate n m).flatten
  | 0 => ⟨[], .nil, rfl⟩
  | n + 1 => by
    obtain ⟨r, h1, rfl⟩ := VRs.rep h n
    exact ⟨_, VRs.append h h1, by simp [List.replicate_succ]⟩
theorem VR.one {u : V} {v : Value} (h : VR φ u v) (ho : u.one = true) : Sl.one v = true := by cases h <;> first | rfl | simp [V.one] at ho
theorem VRs.one : ∀ {l : List V} {m : List Value}, VRs φ l m → l.all V.one = true → ∀ v ∈ m, Sl.one v = true
  | _, _, .nil, _, v, hv => by simp at hv
  | _, _, .cons p q, h, v, hv => by
    simp only [List.all_cons, Bool.and_eq_true] at h
    rcases List.mem_cons.1 hv with rfl | hv
    · exact p.one h.1
    · exact VRs.one q h.2 v hv
theorem VR.cells {u : V} {v : Value} (h : VR φ u v) : VRs φ u.cells v.cells.toList := by
  cases h with
  | agg p => simpa [V.cells, Value.cells] using p
  | tup p => exact .cons (.tup p) .nil
  | fn p => exact .cons (.fn p) .nil
  | ptr p => exact .cons (.ptr p) .nil
  | sl p q => exact .cons (.sl p q) .nil
  | sub p q => exact .cons (.sub p q) .nil
  | map p => exact .cons (.map p) .nil
  | emp p => exact .cons (.emp p) .nil
  | int => exact .cons .int .nil
  | bool => exact .cons .bool .nil
  | cplx => exact .cons .cplx .nil
  | str => exact .cons .str .nil
  | nilp => exact .cons .nilp .nil
  | nils => exact .cons .nils .nil
  | nilfn => exact .cons .nilfn .nil
  | nilif => exact .cons .nilif .nil
  | nilmap => exact .cons .nilmap .nil

theorem strOf_enc (s : ByteArray) : strOf (s.data.toList.map UInt8.toNat) = s := by
  cases s with
  | mk d =>
    simp only [strOf, List.map_map]
    congr 1
    have : (d.toList.map (Nat.toUInt8 ∘ UInt8.toNat)) = d.toList := by
      conv => rhs; rw [← List.map_id d.toList]
      refine List.map_congr_left (fun x _ => ?_)
      simp
    rw [this]
mutual
theorem encs_ok : ∀ (l : List Value) {us : List V}, encs l = some us → VRs φ us l
  | [], us, h => by simp [encs] at h; subst h; exact .nil
  | x :: l, us, h => by
    simp only [encs] at h
    split at h
    · rename_i v hv
      split at h
      · rename_i vs hvs
        simp only [Option.some.injEq] at h
        subst h
        exact .cons (enc_ok x hv) (encs_ok l hvs)
      · simp at h
    · simp at h
theorem enc_ok : ∀ (x : Value) {u : V}, enc x = some u → VR φ u x
  | .int k n, u, h => by simp [enc] at h; subst h; exact .int
  | .bool b, u, h => by simp [enc] at h; subst h; exact .bool
  | .complex k x y, u, h => by simp [enc] at h; subst h; exact .cplx
  | .string s, u, h => by
    simp only [enc, Option.some.injEq] at h
    subst h
    have := VR.str (φ := φ) (s := s.data.toList.map UInt8.toNat)
    rwa [strOf_enc] at this
  | .pointer none, u, h => by simp [enc] at h; subst h; exact .nilp
  | .pointer (some _), u, h => by simp [enc] at h
  | .slice none 0 0, u, h => by simp [enc] at h; subst h; exact .nils
  | .slice none 0 (_ + 1), u, h => by simp [enc] at h
  | .slice none (_ + 1) _, u, h => by simp [enc] at h
  | .slice (some _) _ _, u, h => by simp [enc] at h
  | .map none, u, h => by simp [enc] at h; subst h; exact .nilmap
  | .map (some _), u, h => by simp [enc] at h
  | .nilFunc, u, h => by simp [enc] at h; subst h; exact .nilfn
  | .nilIface, u, h => by simp [enc] at h; subst h; exact .nilif
  | .agg c, u, h => by
    simp only [enc] at h
    split at h
    · rename_i vs hvs
      simp only [Option.some.injEq] at h
      subst h
      have := VR.agg (encs_ok c.toList hvs)
      simpa using this
    · simp at h
  | .float _ _, u, h => by simp [enc] at h
  | .chan _, u, h => by simp [enc] at h
  | .func _ _ _, u, h => by simp [enc] at h
  | .iface _ _, u, h => by simp [enc] at h
  | .tuple _, u, h => by simp [enc] at h
end

/-! ### Variables -/
def LR (φ : Nm) : Vars → Env → Prop
  | [], [] => True
  | (t, u) :: e, (t', v) :: l => t = t' ∧ VR φ u v ∧ LR φ e l
  | _, _ => False
theorem LR.mono (h : ∀ k b c, φ k b c → ψ k b c) : ∀ {e : Vars} {l : Env}, LR φ e l → LR ψ e l
  | [], [], _ => trivial
  | (_, _) :: _, (_, _) :: _, ⟨a, b, c⟩ => ⟨a, b.mono h, LR.mono h c⟩
theorem LR.find : ∀ {e : Vars} {l : Env} {t : Nat} {u : V}, LR φ e l → Xe.find e t = some u → ∃ v, get l t = some v ∧ VR φ u v
  | [], [], _, _, _, h => by simp [Xe.find] at h
  | (t0, u0) :: e, (t1, v0) :: l, t, u, ⟨a, b, c⟩, h => by
    subst a
    simp only [Xe.find, cond_eq_ite] at h
    simp only [Sl.get]
    split at h
    · rename_i hb
      simp only [Option.some.injEq] at h
      subst h
      exact ⟨v0, by rw [if_pos hb], b⟩
    · rename_i hb
      obtain ⟨v, h1, h2⟩ := LR.find c h
      exact ⟨v, by rw [if_neg hb]; exact h1, h2⟩
theorem opnd_ok {e : Vars} {l : Env} (hl : LR φ e l) : ∀ {x : Operand} {u : V}, opnd e x = some u → ∃ v, ev l x = some v ∧ VR φ u v
  | .tmp t, u, h => hl.find h
  | .const v, u, h => ⟨v, rfl, enc_ok v h⟩
  | .func f, u, h => by
    simp only [opnd, Option.some.injEq] at h
    subst h
    exact ⟨_, rfl, .fn .nil⟩
  | .global g, u, h => by simp [opnd] at h
theorem opnds_ok {e : Vars} {l : Env} (hl : LR φ e l) : ∀ {xs : List Operand} {us : List V}, opnds e xs = some us → ∃ vs, evs l xs = some vs ∧ VRs φ us vs
  | [], us, h => by simp [opnds] at h; subst h; exact ⟨[], rfl, .nil⟩
  | x :: xs, us, h => by
    simp only [opnds] at h
    split at h
    · rename_i v hv
      split at h
      · rename_i vs hvs
        simp only [Option.some.injEq] at h
        subst h
        obtain ⟨w, h1, h2⟩ := opnd_ok hl hv
        obtain ⟨ws, h3, h4⟩ := opnds_ok hl hvs
        exact ⟨w :: ws, by simp [evs, h1, h3], .cons h2 h4⟩
      · simp at h
    · simp at h

/-! ### Memory -/
/-- A block that is owned: of c elements of sz cells each; the first cells are told. -/
def EntH (b c T sz : Nat) (vs : List Value) : HP where
  h w _ F := F b ∧ ∃ arr, w.heap[b]? = some (.cells arr T (0, 0)) ∧ arr.size = c * sz ∧ vs.length ≤ arr.size ∧ arr.toList.take vs.length = vs ∧ c ≤ maxLen
  monoR := fun _ h => h
  monoF := fun hf h => ⟨hf _ h.1, h.2⟩
  loc := fun hs h => ⟨h.1, by obtain ⟨a, h1, h2⟩ := h.2; exact ⟨a, (hs _ (.inr h.1)).trans h1, h2⟩⟩
def ER (φ : Nm) (x : Nat × Ent) (p : HP) : Prop := ∃ b c vs, φ x.1 b c ∧ VRs φ x.2.cs vs ∧ (∀ u ∈ vs, Sl.one u = true) ∧ p = EntH b c x.2.T x.2.sz vs
theorem ER.mono (h : ∀ k b c, φ k b c → ψ k b c) {x : Nat × Ent} {p : HP} : ER φ x p → ER ψ x p
  | ⟨b, c, vs, h1, h2, h3, h4⟩ => ⟨b, c, vs, h _ _ _ h1, h2.mono h, h3, h4⟩
theorem ER.unique (hf : Fun φ) {x : Nat × Ent} {p q : HP} (hc : cleans x.2.cs = true) : ER φ x p → ER φ x q → p = q
  | ⟨b, c, vs, h1, h2, _, h4⟩, ⟨b', c', vs', h1', h2', _, h4'⟩ => by
    obtain ⟨rfl, rfl⟩ := hf _ _ _ _ _ h1 h1'
    rw [h4, h4', VRs.unique hf hc h2 h2']
def MR (φ : Nm) : Mem → List HP → Prop
  | [], [] => True
  | x :: m, p :: A => ER φ x p ∧ MR φ m A
  | _, _ => False
theorem MR.mono (h : ∀ k b c, φ k b c → ψ k b c) : ∀ {m : Mem} {A : List HP}, MR φ m A → MR ψ m A
  | [], [], _ => trivial
  | _ :: _, _ :: _, ⟨a, b⟩ => ⟨a.mono h, MR.mono h b⟩
theorem MR.find : ∀ {m : Mem} {A : List HP} {k : Nat} {e : Ent}, MR φ m A → Xe.find m k = some e → ∃ i p A', take1 i A = some (p, A') ∧ ER φ (k, e) p
  | [], [], _, _, _, h => by simp [Xe.find] at h
  | (k0, e0) :: m, p :: A, k, e, ⟨a, b⟩, h => by
    simp only [Xe.find, cond_eq_ite] at h
    split at h
    · rename_i hb
      simp only [Option.some.injEq] at h
      subst h
      rw [← Nat.eq_of_beq_eq_true hb]
      exact ⟨0, p, A, rfl, a⟩
    · obtain ⟨i, q, A', h1, h2⟩ := MR.find b h
      exact ⟨i + 1, q, p :: A', by simp [take1, h1], h2⟩
theorem MR.pull : ∀ {m m' : Mem} {A : List HP} {k : Nat} {e : Ent}, MR φ m A → Xe.pull k m = some (e, m') → ∃ i p A', take1 i A = some (p, A') ∧ ER φ (k, e) p ∧ MR φ m' A'
  | [], _, [], _, _, _, h => by simp [Xe.pull] at h
  | (k0, e0) :: m, m', p :: A, k, e, ⟨a, b⟩, h => by
    simp only [Xe.pull, cond_eq_ite] at h
    split at h
    · rename_i hb
      simp only [Option.some.injEq, Prod.mk.injEq] at h
      obtain ⟨rfl, rfl⟩ := h
      rw [← Nat.eq_of_beq_eq_true hb]
      exact ⟨0, p, A, rfl, a, b⟩
    · split at h
      · rename_i e1 m1 h1
        simp only [Option.some.injEq, Prod.mk.injEq] at h
        obtain ⟨rfl, rfl⟩ := h
        obtain ⟨i, q, A', h2, h3, h4⟩ := MR.pull b h1
        exact ⟨i + 1, q, p :: A', by simp [take1, h2], h3, a, h4⟩
      · simp at h
end
/-- φ grows by names of [lo, lo'). -/
structure Ext (φ ψ : Nm) (lo lo' : Nat) : Prop where
  sub : ∀ k b c, φ k b c → ψ k b c
  new : ∀ k b c, ψ k b c → φ k b c ∨ (lo ≤ k ∧ k < lo')
  le : lo ≤ lo'
def Fresh (φ : Nm) (lo hi : Nat) : Prop := ∀ k b c, φ k b c → k < lo ∨ hi ≤ k
theorem Ext.refl {φ : Nm} {lo : Nat} : Ext φ φ lo lo := ⟨fun _ _ _ h => h, fun _ _ _ h => .inl h, Nat.le_refl _⟩
theorem Ext.trans {φ ψ χ : Nm} {a b c : Nat} (h : Ext φ ψ a b) (g : Ext ψ χ b c) : Ext φ χ a c :=
  ⟨fun _ _ _ x => g.sub _ _ _ (h.sub _ _ _ x), fun k _ _ x => by
    rcases g.new _ _ _ x with y | y
    · rcases h.new _ _ _ y with z | z
      · exact .inl z
      · exact .inr ⟨z.1, Nat.lt_of_lt_of_le z.2 g.le⟩
    · exact .inr ⟨Nat.le_trans h.le y.1, y.2⟩, Nat.le_trans h.le g.le⟩
theorem Ext.fresh {φ ψ : Nm} {lo lo' hi : Nat} (h : Ext φ ψ lo lo') (f : Fresh φ lo hi) : Fresh ψ lo' hi := fun k b c x => by
  rcases h.new _ _ _ x with y | y
  · rcases f _ _ _ y with z | z
    · exact .inl (Nat.lt_of_lt_of_le z h.le)
    · exact .inr z
  · exact .inl y.2
/-- One name more. -/
def plus (φ : Nm) (k b c : Nat) : Nm := fun k' b' c' => φ k' b' c' ∨ (k' = k ∧ b' = b ∧ c' = c)
theorem plus_ext {φ : Nm} {lo b c : Nat} : Ext φ (plus φ lo b c) lo (lo + 1) := ⟨fun _ _ _ h => .inl h, fun _ _ _ h => h.imp id (fun h => by omega), Nat.le_succ _⟩
theorem plus_fun {φ : Nm} {lo hi b c : Nat} (hf : Fun φ) (hfr : Fresh φ lo hi) (h : lo < hi) : Fun (plus φ lo b c) := fun k x y x' y' h1 h2 => by
  rcases h1 with h1 | ⟨rfl, rfl, rfl⟩ <;> rcases h2 with h2 | ⟨h2, rfl, rfl⟩
  · exact hf _ _ _ _ _ h1 h2
  · subst h2; have := hfr _ _ _ h1; omega
  · have := hfr _ _ _ h2; omega
  · exact ⟨rfl, rfl⟩
end Go.Proofs.YthjbkngecgbioaaGreatDoor.Xe

/- The evaluator tells the truth: types, what is quiet. -/
namespace Go.Proofs.YthjbkngecgbioaaGreatDoor.Xe
open Go Go.Proofs.YthjbkngecgbioaaGreatDoor.Sl

theorem eqZ_iff {a b : Int} : eqZ a b = decide (a = b) := by
  cases a <;> cases b <;> simp only [eqZ] <;> rw [Bool.eq_iff_iff] <;> simp <;> omega
theorem leZ_iff {a b : Int} : leZ a b = decide (a ≤ b) := by
  cases a <;> cases b <;> simp only [leZ] <;> rw [Bool.eq_iff_iff] <;> simp <;> omega
theorem ltZ_iff {a b : Int} : ltZ a b = decide (a < b) := by
  rw [ltZ, leZ_iff, Bool.eq_iff_iff]; simp
theorem posZ_iff {a : Int} : posZ a = decide (0 ≤ a) := by
  cases a <;> rw [Bool.eq_iff_iff] <;> simp [posZ] <;> omega
mutual
theorem sames_eq : ∀ {l m : List V}, sames l m = true → l = m
  | [], [], _ => rfl
  | [], _ :: _, h => by simp [sames] at h
  | _ :: _, [], h => by simp [sames] at h
  | x :: l, y :: m, h => by
    simp only [sames, Bool.and_eq_true] at h
    rw [same_eq h.1, sames_eq h.2]
theorem same_eq : ∀ {u v : V}, u.same v = true → u = v
  | .int k n, v, h => by
    cases v <;> simp [V.same] at h
    rename_i j m
    obtain ⟨h1, h2⟩ := h
    rw [eqZ_iff] at h2
    have h3 := of_decide_eq_true h2
    subst h3
    cases k <;> cases j <;> simp_all [beqK, isI64]
  | .bool a, v, h => by cases v <;> simp_all [V.same]
  | .cplx k a b, v, h => by cases v <;> simp_all [V.same]
  | .str a, v, h => by cases v <;> simp_all [V.same]
  | .nilp, v, h => by cases v <;> simp_all [V.same]
  | .ptr a b, v, h => by cases v <;> simp_all [V.same]
  | .nils, v, h => by cases v <;> simp_all [V.same]
  | .sl a b, v, h => by cases v <;> simp_all [V.same]
  | .sub a b c d, v, h => by cases v <;> simp_all [V.same]
  | .emp a, v, h => by cases v <;> simp_all [V.same]
  | .agg l, v, h => by
    cases v <;> simp [V.same] at h
    rw [sames_eq h]
  | .tup l, v, h => by
    cases v <;> simp [V.same] at h
    rw [sames_eq h]
  | .fn f l, v, h => by
    cases v <;> simp [V.same] at h
    rw [h.1, sames_eq h.2]
  | .nilfn, v, h => by cases v <;> simp_all [V.same]
  | .nilif, v, h => by cases v <;> simp_all [V.same]
  | .nilmap, v, h => by cases v <;> simp_all [V.same]
  | .map a, v, h => by cases v <;> simp_all [V.same]
end
def eqPl : List (Nat × Nat) → List (Nat × Nat) → Bool
  | [], [] => true
  | x :: l, y :: m => Nat.beq x.1 y.1 && Nat.beq x.2 y.2 && eqPl l m
  | _, _ => false
theorem eqPl_eq : ∀ {l m : List (Nat × Nat)}, eqPl l m = true → l = m
  | [], [], _ => rfl
  | [], _ :: _, h => by simp [eqPl] at h
  | _ :: _, [], h => by simp [eqPl] at h
  | (a, b) :: l, (c, d) :: m, h => by
    simp only [eqPl, Bool.and_eq_true] at h
    rw [eqPl_eq h.2, Nat.eq_of_beq_eq_true h.1.1, Nat.eq_of_beq_eq_true h.1.2]
/-- A struct's fields are numbers, one cell each, one behind the other. -/
def intFlds (P : Program) : List Field → Nat → Bool
  | [], _ => true
  | f :: fs, o => Nat.beq f.offset o && (f.name != "_") && plainTy P f.type && (match P.underlying f.type with | some (.int _) => true | _ => false) && intFlds P fs (o + 1)
/-- A part of one cell is no row of cells. -/
def p1 (P : Program) (t : TypeId) : Bool := match szTy P t with
  | some 1 => plainTy P t
  | _ => true
def fldsOk (P : Program) (t : TypeId) (i : Ty) : Bool := match P.underlying t with
  | some (.struct fs) => match structPl P t with
    | some pl => eqPl pl i.flds && i.arr.isNone && i.elem.isNone && fs.toList.zipIdx.all fun f => p1 P f.1.type || hasN i.one f.2
    | none => false
  | some (.array n e) => match szTy P e with
    | some z => eqPl (placesX z n 0) i.flds && (match i.arr with | some a => Nat.beq a.1 n && Nat.beq a.2 e | none => false) && i.elem.isNone && p1 P e
    | none => false
  | some (.slice e) => i.flds.isEmpty && i.arr.isNone && (match i.elem with | some e' => Nat.beq e e' | none => false)
  | _ => i.flds.isEmpty && i.arr.isNone && i.elem.isNone
def kindOk (P : Program) (t : TypeId) (i : Ty) : Bool := match P.underlying t with
  | some (.int k) => (match i.int with | some k' => decide (k = k') | none => true) && !i.str && i.mapz.isNone && !i.ptr && !i.bool && !i.ints
  | some .string => i.int.isNone && i.mapz.isNone && !i.ptr && !i.bool && !i.ints
  | some (.pointer _) => i.int.isNone && !i.str && i.mapz.isNone && !i.bool && !i.ints
  | some .bool => i.int.isNone && !i.str && i.mapz.isNone && !i.ptr && !i.ints
  | some (.struct fs) => i.int.isNone && !i.str && i.mapz.isNone && !i.ptr && !i.bool && (!i.ints || (intFlds P fs.toList 0 && Nat.beq fs.toList.length i.size && !P.stoodInHeld t && !P.eqGuardType P.depth t))
  | some (.map k e) => i.int.isNone && !i.str && !i.ptr && !i.bool && !i.ints && (match i.mapz with
    | some z => (match P.underlying k with | some (.int _) => true | _ => false) && (match P.info? e with | some f => (match f.zero with | some v => (match enc v with | some u => u.same z | none => false) | none => false) | none => false)
    | none => true)
  | _ => i.int.isNone && !i.str && i.mapz.isNone && !i.ptr && !i.bool && !i.ints
/-- Its bytes are few. -/
def byOk (P : Program) (t : TypeId) : Bool := match byTy P t with
  | some b => Nat.ble b 65536
  | none => false
def tyOk (P : Program) (t : TypeId) (i : Ty) : Bool := byOk P t && Nat.beq i.zero.length i.size && (!i.plain || plainTy P t) && (!i.agg || aggTy P t) && (match szTy P t with | some s => Nat.beq s i.size | none => false) &&
  (match zeroTy P t with | some zs => (match encs zs with | some l => sames l i.zero | none => false) | none => false) && fldsOk P t i && kindOk P t i
def TOk (P : Program) (TT : Nat → Option Ty) : Prop := ∀ t i, TT t = some i → tyOk P t i = true
section
variable {P : Program} {TT : Nat → Option Ty} {t : Nat} {i : Ty}
theorem TOk.all (h : TOk P TT) (ht : TT t = some i) : (i.plain = true → plainTy P t = true) ∧ (i.agg = true → aggTy P t = true) ∧ szTy P t = some i.size ∧ (∃ zs, zeroTy P t = some zs ∧ ∀ φ, VRs φ i.zero zs) ∧ fldsOk P t i = true ∧ kindOk P t i = true := by
  have h1 := h t i ht
  simp only [tyOk, Bool.and_eq_true] at h1
  obtain ⟨⟨⟨⟨⟨⟨⟨_, _⟩, h1⟩, h2⟩, h3⟩, h4⟩, h5⟩, h6⟩ := h1
  refine ⟨fun e => by simpa [e] using h1, fun e => by simpa [e] using h2, ?_, ?_, h5, h6⟩
  · split at h3
    · rename_i s hs; rw [hs, Nat.eq_of_beq_eq_true h3]
    · simp at h3
  · split at h4
    · rename_i zs hz
      split at h4
      · rename_i l hl
        refine ⟨zs, hz, fun φ => ?_⟩
        rw [← sames_eq h4]
        exact encs_ok zs hl
      · simp at h4
    · simp at h4
theorem TOk.info (h : TOk P TT) (ht : TT t = some i) : ∃ inf z, P.info? t = some inf ∧ inf.zero = some z ∧ inf.size = i.size ∧ inf.bytes ≤ 65536 ∧ z.cells.size = i.size ∧ (∀ φ, VRs φ i.zero z.cells.toList) ∧ ∀ w, (zeroValue t).run P w = .ok z w := by
  obtain ⟨_, _, h3, ⟨zs, h4, h5⟩, h6, _⟩ := h.all ht
  have h1 := h t i ht
  simp only [tyOk, Bool.and_eq_true] at h1
  obtain ⟨⟨⟨⟨⟨⟨⟨hb, hzl⟩, _⟩, _⟩, _⟩, _⟩, _⟩, _⟩ := h1
  unfold szTy at h3
  cases hi : P.info? t with
  | none => simp [hi] at h3
  | some inf =>
    simp [hi] at h3
    unfold zeroTy at h4
    rw [hi] at h4
    cases hz : inf.zero with
    | none => simp [hz] at h4
    | some z =>
      simp [hz] at h4
      subst h4
      have hb2 : inf.bytes ≤ 65536 := by
        unfold byOk byTy at hb
        simp [hi] at hb
        exact hb
      exact ⟨inf, z, rfl, hz, h3, hb2, by have := (h5 (fun _ _ _ => False)).length; have h7 := Nat.eq_of_beq_eq_true hzl; simp at this; omega, fun φ => h5 φ, fun w => by simp [zeroValue, typeInfo, program, Sem.run, hi, hz, pure]⟩
theorem TOk.sz (h : TOk P TT) {z : Nat} (hs : szX TT t = some z) : szTy P t = some z := by
  unfold szX at hs
  split at hs
  · rename_i i hi
    simp only [Option.some.injEq] at hs
    rw [(h.all hi).2.2.1, hs]
  · simp at hs
theorem TOk.el (h : TOk P TT) {e : Nat} (hs : elX TT t = some e) : P.underlying t = some (.slice e) := by
  unfold elX at hs
  split at hs
  · rename_i i hi
    have h5 := (h.all hi).2.2.2.2.1
    unfold fldsOk at h5
    split at h5 <;> (try split at h5) <;> simp_all
    all_goals first | (have := h5.2; simp at this; rw [Nat.eq_of_beq_eq_true (by simpa using this)]) | skip
  · simp at hs
theorem TOk.elsz (h : TOk P TT) {z : Nat} (hs : elszX TT t = some z) : ∃ e, P.underlying t = some (.slice e) ∧ szTy P e = some z := by
  unfold elszX at hs
  split at hs
  · rename_i e he
    exact ⟨e, h.el he, h.sz hs⟩
  · simp at hs
theorem TOk.isSl (h : TOk P TT) (hs : tyIs TT (fun i => i.elem.isSome) t = true) : ∃ e, P.underlying t = some (.slice e) := by
  unfold tyIs at hs
  split at hs
  · rename_i i hi
    obtain ⟨e, he⟩ := Option.isSome_iff_exists.1 hs
    exact ⟨e, h.el (by simp [elX, hi, he])⟩
  · simp at hs
theorem TOk.isPtr (h : TOk P TT) (hs : tyIs TT Ty.ptr t = true) : ∃ e, P.underlying t = some (.pointer e) := by
  unfold tyIs at hs
  split at hs
  · rename_i i hi
    have h6 := (h.all hi).2.2.2.2.2
    unfold kindOk at h6
    split at h6 <;> simp_all
  · simp at hs
theorem TOk.isBool (h : TOk P TT) (hs : tyIs TT Ty.bool t = true) : P.underlying t = some .bool := by
  unfold tyIs at hs
  split at hs
  · rename_i i hi
    have h6 := (h.all hi).2.2.2.2.2
    unfold kindOk at h6
    split at h6 <;> simp_all
  · simp at hs
theorem TOk.isStr (h : TOk P TT) (hs : tyIs TT Ty.str t = true) : P.underlying t = some .string := by
  unfold tyIs at hs
  split at hs
  · rename_i i hi
    have h6 := (h.all hi).2.2.2.2.2
    unfold kindOk at h6
    split at h6 <;> simp_all
  · simp at hs
theorem TOk.isInt (h : TOk P TT) (ht : TT t = some i) {k : IntKind} (hk : i.int = some k) : P.underlying t = some (.int k) := by
  have h6 := (h.all ht).2.2.2.2.2
  unfold kindOk at h6
  split at h6 <;> simp_all
theorem TOk.isArr (h : TOk P TT) (ht : TT t = some i) {a : Nat × Nat} (hk : i.arr = some a) : P.underlying t = some (.array a.1 a.2) ∧ p1 P a.2 = true := by
  have h5 := (h.all ht).2.2.2.2.1
  unfold fldsOk at h5
  split at h5 <;> (try split at h5) <;> simp_all
theorem structPl_get {fs : Array Field} {pl : List (Nat × Nat)} {k : Nat} {f : Nat × Nat} (hu : P.underlying t = some (.struct fs)) (h : structPl P t = some pl) (hk : pl[k]? = some f) : ∃ fd, fs[k]? = some fd ∧ fd.offset = f.1 ∧ szTy P fd.type = some f.2 := by
  unfold structPl at h
  rw [hu] at h
  have key : ∀ (l : List Field) (pl : List (Nat × Nat)) (k : Nat), (l.mapM fun f => (szTy P f.type).map fun s => (f.offset, s)) = some pl → pl[k]? = some f → ∃ fd, l[k]? = some fd ∧ fd.offset = f.1 ∧ szTy P fd.type = some f.2 := by
    intro l
    induction l with
    | nil => intro pl k h hk; simp at h; subst h; simp at hk
    | cons x l ih =>
      intro pl k h hk
      rw [List.mapM_cons] at h
      cases hs : szTy P x.type with
      | none => simp [hs] at h
      | some s =>
        cases hr : (l.mapM fun f => (szTy P f.type).map fun s => (f.offset, s)) with
        | none => simp [hs, hr] at h
        | some pr =>
          simp [hs, hr] at h
          subst h
          cases k with
          | zero => simp at hk; subst hk; exact ⟨x, by simp, rfl, hs⟩
          | succ k => obtain ⟨fd, h1, h2⟩ := ih pr k hr (by simpa using hk); exact ⟨fd, by simpa using h1, h2⟩
  obtain ⟨fd, h1, h2⟩ := key fs.toList pl k h hk
  exact ⟨fd, by simpa using h1, h2⟩
end
end Go.Proofs.YthjbkngecgbioaaGreatDoor.Xe

/- The evaluator tells the truth: operations that turn nothing. -/
namespace Go.Proofs.YthjbkngecgbioaaGreatDoor.Xe
open Go Go.Proofs.YthjbkngecgbioaaGreatDoor.Sl

section
variable {P : Program} {TT : Nat → Option Ty} {φ : Nm} {mem : Mem} {env : Vars} {A : List HP} {l : Env} {u : V} {dst : Option Tmp} {ty : TypeId} {pos : String} {af : Array Edge} {g : Option (Nat × Bool)} {w : World}
theorem mkInt_eq (k : IntKind) (n : Int) : mkInt k n = .int k n := by cases n <;> rfl
theorem wrap_in {k : IntKind} {n : Int} (h : inR k n = true) : k.wrap n = n := by
  cases n <;> cases k <;> simp [inR] at h
  · exact wrap_i64 (by simp <;> omega) (by simp <;> omega)
  · exact IntWalk.u8_in _ ⟨by simp, by simp <;> omega⟩
  · exact IntWalk.u64_in _ ⟨by simp, by simp <;> omega⟩
  · exact wrap_i64 (by omega) (by omega)
theorem num_ok {k : IntKind} {n : Int} (h : num k n = some u) : u = .int k n ∧ k.wrap n = n := by
  unfold num at h
  rw [cond_eq_ite] at h
  split at h
  · rename_i hr
    simp only [Option.some.injEq] at h
    subst h
    exact ⟨mkInt_eq k n, wrap_in hr⟩
  · simp at h
theorem beqK_eq {a b : IntKind} (h : beqK a b = true) : a = b := by cases a <;> cases b <;> simp_all [beqK, isI64]
theorem isI64_eq {k : IntKind} (h : isI64 k = true) : k = .i64 := by cases k <;> simp_all [isI64]
theorem small_iff {n : Int} : small n = (decide (0 ≤ n) && decide (n ≤ 4611686018427387904)) := by
  cases n <;> rw [Bool.eq_iff_iff] <;> simp [small] <;> omega
/-- What two numbers give. -/
theorem binI_ok {op : BinOp} {k j : IntKind} {n m : Int} {t : TypeId} (h : binI op k n j m = some u) : ∃ v, VR φ u v ∧ ∀ w, (binOp op t (.int k n) (.int j m)).run P w = .ok v w := by
  have arith : ∀ {r : Int}, bothI k j (num k r) = some u → u = .int k r ∧ k = j ∧ k.wrap r = r := fun {r} q => by
    unfold bothI at q
    rw [cond_eq_ite] at q
    split at q
    · rename_i hb
      obtain ⟨h1, h2⟩ := num_ok q
      exact ⟨h1, beqK_eq hb, h2⟩
    · simp at q
  have test : ∀ {b : Bool}, bothI k j (some (.bool b)) = some u → u = .bool b ∧ k = j := fun {b} q => by
    unfold bothI at q
    rw [cond_eq_ite] at q
    split at q
    · rename_i hb
      simp only [Option.some.injEq] at q
      exact ⟨q.symm, beqK_eq hb⟩
    · simp at q
  have bits : ∀ {f : Nat → Nat → Nat}, bothI k j (bitX f k n m) = some u → k = .i64 ∧ j = .i64 ∧ 0 ≤ n ∧ n ≤ 4611686018427387904 ∧ 0 ≤ m ∧ m ≤ 4611686018427387904 ∧ u = .int .i64 (f n.toNat m.toNat : Nat) ∧ inR .i64 (f n.toNat m.toNat : Nat) = true := fun {f} q => by
    unfold bothI at q
    rw [cond_eq_ite] at q
    split at q
    · rename_i hb
      unfold bitX at q
      rw [cond_eq_ite] at q
      split at q
      · rename_i hc
        simp only [small_iff, Bool.and_eq_true, decide_eq_true_eq] at hc
        have h1 := isI64_eq hc.1.1
        subst h1
        have h2 := beqK_eq hb
        subst h2
        have h3 := (num_ok q).1
        refine ⟨rfl, rfl, hc.1.2.1, hc.1.2.2, hc.2.1, hc.2.2, h3, ?_⟩
        unfold num at q
        rw [cond_eq_ite] at q
        split at q
        · assumption
        · simp at q
      · simp at q
    · simp at q
  have shift : ∀ {r : Int}, shiftX k j n m (num k r) = some u → k = .i64 ∧ 0 ≤ n ∧ 0 ≤ m ∧ m ≤ 62 ∧ u = .int .i64 r ∧ IntKind.i64.wrap r = r := fun {r} q => by
    unfold shiftX at q
    rw [cond_eq_ite] at q
    split at q
    · rename_i hc
      simp only [posZ_iff, leZ_iff, Bool.and_eq_true, decide_eq_true_eq] at hc
      have h1 := isI64_eq hc.1.1.1.1
      subst h1
      obtain ⟨h2, h3⟩ := num_ok q
      exact ⟨rfl, hc.1.1.2, hc.1.2, hc.2, h2, h3⟩
    · simp at q
  cases op with
  | add => obtain ⟨rfl, rfl, h3⟩ := arith h; exact ⟨_, .int, fun w => by rw [add_run, h3]⟩
  | sub => obtain ⟨rfl, rfl, h3⟩ := arith h; exact ⟨_, .int, fun w => by rw [sub_run, h3]⟩
  | mul => obtain ⟨rfl, rfl, h3⟩ := arith h; exact ⟨_, .int, fun w => by rw [mul_run, h3]⟩
  | eql => obtain ⟨rfl, rfl⟩ := test h; exact ⟨_, .bool, fun w => by rw [eql_run, eqZ_iff]; rfl⟩
  | neq => obtain ⟨rfl, rfl⟩ := test h; exact ⟨_, .bool, fun w => by rw [neq_run, eqZ_iff]; rfl⟩
  | lss => obtain ⟨rfl, rfl⟩ := test h; exact ⟨_, .bool, fun w => by rw [lss_run, ltZ_iff]⟩
  | leq => obtain ⟨rfl, rfl⟩ := test h; exact ⟨_, .bool, fun w => by rw [leq_run, leZ_iff]⟩
  | gtr => obtain ⟨rfl, rfl⟩ := test h; exact ⟨_, .bool, fun w => by rw [gtr_run, ltZ_iff]⟩
  | geq => obtain ⟨rfl, rfl⟩ := test h; exact ⟨_, .bool, fun w => by rw [geq_run, leZ_iff]⟩
  | rem =>
    simp only [binI, bothI, cond_eq_ite] at h
    split at h
    · rename_i hb
      unfold remX at h
      rw [cond_eq_ite] at h
      split at h
      · rename_i hc
        simp only [posZ_iff, ltZ_iff, Bool.and_eq_true, decide_eq_true_eq] at hc
        have h1 := beqK_eq hb
        subst h1
        obtain ⟨rfl, _⟩ := num_ok h
        exact ⟨_, .int, fun w => remN_run hc.1.2 hc.2⟩
      · simp at h
    · simp at h
  | and =>
    obtain ⟨rfl, rfl, h1, h2, h3, h4, rfl, hr⟩ := bits h
    refine ⟨_, .int, fun w => ?_⟩
    rw [and_run]
    unfold band bits2
    rw [show ((BitVec.ofInt IntKind.i64.bits n &&& BitVec.ofInt IntKind.i64.bits m).toNat : Int) = (Nat.land n.toNat m.toNat : Nat) from ?_, wrap_in hr]
    have e1 : (BitVec.ofInt IntKind.i64.bits n).toNat = n.toNat := by rw [BitVec.toNat_ofInt]; simp only [IntKind.bits]; omega
    have e2 : (BitVec.ofInt IntKind.i64.bits m).toNat = m.toNat := by rw [BitVec.toNat_ofInt]; simp only [IntKind.bits]; omega
    rw [BitVec.toNat_and, e1, e2]; rfl
  | or =>
    obtain ⟨rfl, rfl, h1, h2, h3, h4, rfl, hr⟩ := bits h
    refine ⟨_, .int, fun w => ?_⟩
    rw [or_run]
    unfold bor bits2
    rw [show ((BitVec.ofInt IntKind.i64.bits n ||| BitVec.ofInt IntKind.i64.bits m).toNat : Int) = (Nat.lor n.toNat m.toNat : Nat) from ?_, wrap_in hr]
    have e1 : (BitVec.ofInt IntKind.i64.bits n).toNat = n.toNat := by rw [BitVec.toNat_ofInt]; simp only [IntKind.bits]; omega
    have e2 : (BitVec.ofInt IntKind.i64.bits m).toNat = m.toNat := by rw [BitVec.toNat_ofInt]; simp only [IntKind.bits]; omega
    rw [BitVec.toNat_or, e1, e2]; rfl
  | andNot =>
    obtain ⟨rfl, rfl, h1, h2, h3, h4, rfl, hr⟩ := bits h
    refine ⟨_, .int, fun w => ?_⟩
    rw [andNot_run]
    unfold bandNot bits2
    rw [show ((BitVec.ofInt IntKind.i64.bits n &&& ~~~BitVec.ofInt IntKind.i64.bits m).toNat : Int) = (Nat.land n.toNat (18446744073709551615 - m.toNat) : Nat) from ?_, wrap_in hr]
    have e1 : (BitVec.ofInt IntKind.i64.bits n).toNat = n.toNat := by rw [BitVec.toNat_ofInt]; simp only [IntKind.bits]; omega
    have e2 : (BitVec.ofInt IntKind.i64.bits m).toNat = m.toNat := by rw [BitVec.toNat_ofInt]; simp only [IntKind.bits]; omega
    rw [BitVec.toNat_and, BitVec.toNat_not, e1, e2]; rfl
  | shl =>
    obtain ⟨rfl, h1, h2, h3, rfl, hr⟩ := shift h
    refine ⟨_, .int, fun w => ?_⟩
    rw [shl_run h2]
    unfold shl
    have e : min m.toNat IntKind.i64.bits = m.toNat := by simp only [IntKind.bits]; omega
    rw [e]
    rw [show n * 2 ^ m.toNat = n * ((2 ^ m.toNat : Nat) : Int) by push_cast; rfl, hr]
  | shr =>
    obtain ⟨rfl, h1, h2, h3, rfl, hr⟩ := shift h
    refine ⟨_, .int, fun w => ?_⟩
    rw [shr_run h2]
    unfold shr
    have e : min m.toNat IntKind.i64.bits = m.toNat := by simp only [IntKind.bits]; omega
    rw [e]
    rw [show n.fdiv (2 ^ m.toNat) = n / ((2 ^ m.toNat : Nat) : Int) from ?_]
    push_cast
    rw [Int.fdiv_eq_ediv_of_nonneg]
    exact Int.le_of_lt (Int.pow_pos (by omega))
  | quo => simp [binI] at h
  | xor => simp [binI] at h
theorem strOf_size (s : List Nat) : (strOf s).size = s.length := by simp [strOf, ByteArray.size]
theorem strOf_append (a b : List Nat) : strOf (a ++ b) = strOf a ++ strOf b := by
  apply ByteArray.ext
  simp [strOf]
theorem strOf_toList (s : List Nat) : (strOf s).toList = s.map Nat.toUInt8 := by rw [ByteArray.toList_eq]; simp [strOf]
theorem strOf_inj {a b : List Nat} (ha : a.all (Nat.blt · 256) = true) (hb : b.all (Nat.blt · 256) = true) (h : (strOf a).toList = (strOf b).toList) : a = b := by
  rw [strOf_toList, strOf_toList] at h
  have key : ∀ (a b : List Nat), a.all (Nat.blt · 256) = true → b.all (Nat.blt · 256) = true → a.map Nat.toUInt8 = b.map Nat.toUInt8 → a = b := by
    intro a
    induction a with
    | nil => intro b _ _ h; cases b with | nil => rfl | cons _ _ => simp at h
    | cons x a ih =>
      intro b ha hb h
      cases b with
      | nil => simp at h
      | cons y b =>
        simp only [List.all_cons, Bool.and_eq_true, List.map_cons, List.cons.injEq] at ha hb h
        have hx : x < 256 := Nat.le_of_ble_eq_true ha.1
        have hy : y < 256 := Nat.le_of_ble_eq_true hb.1
        have h1 := congrArg UInt8.toNat h.1
        simp only [Nat.toUInt8_eq, UInt8.toNat_ofNat'] at h1
        rw [ih b ha.2 hb.2 h.2, show x = y by omega]
  exact key a b ha hb h
theorem ints_ok : ∀ {fs : List Field} {o : Nat} {a b : List V} {xs ys : List Value} {r : Bool} {w : World}, intFlds P fs o = true → fs.length = a.length → VRs φ a (xs.drop o) → VRs φ b (ys.drop o) → eqI a b = some r → (Op.eqFields 9999 xs.toArray ys.toArray fs).run P w = .ok r w := by
  intro fs
  induction fs with
  | nil =>
    intro o a b xs ys r w _ hl _ _ he
    cases a with
    | nil =>
      cases b with
      | nil => simp [eqI] at he; subst he; simp [Op.eqFields, pure]
      | cons _ _ => simp [eqI] at he
    | cons _ _ => simp at hl
  | cons f fs ih =>
    intro o a b xs ys r w hf hl ha hb he
    simp only [intFlds, Bool.and_eq_true] at hf
    obtain ⟨⟨⟨⟨h1, h2⟩, h3⟩, h4⟩, h5⟩ := hf
    cases a with
    | nil => simp at hl
    | cons x a =>
      cases b with
      | nil => simp [eqI] at he
      | cons y b =>
        cases x <;> simp only [eqI, cond_eq_ite] at he <;> try (simp at he; done)
        cases y <;> simp only [] at he <;> try (simp at he; done)
        rename_i k n j m
        split at he
        · rename_i hk
          have hkk := beqK_eq hk
          subst hkk
          split at he
          · rename_i c hc
            simp only [Option.some.injEq] at he
            subst he
            have hoff := Nat.eq_of_beq_eq_true h1
            have hx : xs[o]? = some (.int k n) := by
              generalize hd : xs.drop o = d at ha
              cases ha with
              | cons p q => cases p; have := congrArg (·[0]?) hd; simpa using this
            have hy : ys[o]? = some (.int k m) := by
              generalize hd : ys.drop o = d at hb
              cases hb with
              | cons p q => cases p; have := congrArg (·[0]?) hd; simpa using this
            have hx2 : VRs φ a (xs.drop (o + 1)) := by
              have := VRs.drop 1 ha
              simpa [List.drop_drop, Nat.add_comm] using this
            have hy2 : VRs φ b (ys.drop (o + 1)) := by
              have := VRs.drop 1 hb
              simpa [List.drop_drop, Nat.add_comm] using this
            have hrest := ih (w := w) h5 (by simpa using hl) hx2 hy2 hc
            split at h4
            · rename_i k' hu
              have hp : ∀ (zs : List Value) (v : Value), zs[o]? = some v → (part f.type zs.toArray f.offset).run P w = .ok v w := fun zs v hz => by
                unfold part
                simp [run_isAgg_plain h3, hoff, hz, Sem.run, pure]
              have hn : f.name ≠ "_" := by simpa using h2
              simp only [Op.eqFields, if_pos hn, Sem.run_bind, hp xs _ hx, hp ys _ hy, Result.andThen_ok, run_equalIn_int w 9998 f.type k k' n m hu]
              rw [eqZ_iff]
              by_cases hnm : n = m
              · subst hnm
                simp [hrest]
              · simp [hnm, pure]
            · simp at h4
          · simp at he
        · simp at he
theorem yesX_ok {op : BinOp} {t : TypeId} {x y : Value} {b : Bool} (h : yesX op b = some u) (h1 : ∀ w, (binOp .eql t x y).run P w = .ok (.bool b) w) (h2 : ∀ w, (binOp .neq t x y).run P w = .ok (.bool !b) w) : ∃ v, VR φ u v ∧ ∀ w, (binOp op t x y).run P w = .ok v w := by
  cases op <;> simp [yesX] at h
  · subst h; exact ⟨_, .bool, h1⟩
  · subst h; exact ⟨_, .bool, h2⟩
theorem slice_in (n : Nat) {e : TypeId} {t : TypeId} {a : Addr} {m c : Nat} (hu : P.underlying t = some (.slice e)) : (Op.equalIn (n + 1) t (.slice (some a) m c) (.slice none 0 0)).run P w = .ok false w := by
  simp [Op.equalIn, run_underlying hu, Pure.pure]
theorem slice_eql_run {e : TypeId} {t : TypeId} {a : Addr} {n c : Nat} (hu : P.underlying t = some (.slice e)) : (binOp .eql t (.slice (some a) n c) (.slice none 0 0)).run P w = .ok (.bool false) w := by
  have := slice_in (P := P) (w := w) (a := a) (m := n) (c := c) 9999 hu
  unfold binOp
  simp only [Sem.run_bind, Op.equal, Op.maxDepth, this, Result.andThen_ok]
  rfl
theorem slice_neq_run {e : TypeId} {t : TypeId} {a : Addr} {n c : Nat} (hu : P.underlying t = some (.slice e)) : (binOp .neq t (.slice (some a) n c) (.slice none 0 0)).run P w = .ok (.bool true) w := by
  have := slice_in (P := P) (w := w) (a := a) (m := n) (c := c) 9999 hu
  unfold binOp
  simp only [Sem.run_bind, Op.equal, Op.maxDepth, this, Result.andThen_ok]
  rfl
theorem binX_ok (hT : TOk P TT) {op : BinOp} {t : TypeId} {a b : V} {x y : Value} (ha : VR φ a x) (hb : VR φ b y) (h : binX TT op t a b = some u) : ∃ v, VR φ u v ∧ ∀ w (o o' : Operand), (do eqGuard op t o o' x y; binOp op t x y : Sem Value).run P w = .ok v w := by
  have fin : quietEq x y = true → (∃ v, VR φ u v ∧ ∀ w, (binOp op t x y).run P w = .ok v w) → ∃ v, VR φ u v ∧ ∀ w (o o' : Operand), (do eqGuard op t o o' x y; binOp op t x y : Sem Value).run P w = .ok v w := by
    rintro hq ⟨v, h1, h2⟩
    exact ⟨v, h1, fun w o o' => by simp [run_eqGuard hq, h2]⟩
  have onT : ∀ {b : Bool} {r : Option V}, onTy b r = some u → b = true ∧ r = some u := fun {b r} h => by
    unfold onTy at h
    rw [cond_eq_ite] at h
    split at h
    · rename_i hb; exact ⟨hb, h⟩
    · simp at h
  cases ha with
  | int =>
    cases hb <;> simp only [binX] at h <;> try (simp at h; done)
    exact fin rfl (binI_ok h)
  | nilp =>
    cases hb <;> simp only [binX] at h <;> try (simp at h; done)
    obtain ⟨h1, h2⟩ := onT h
    obtain ⟨e, he⟩ := hT.isPtr h1
    exact fin rfl (yesX_ok h2 (fun w => nilnil_eql_run he) (fun w => nilnil_neq_run he))
  | ptr p =>
    cases hb <;> simp only [binX] at h <;> try (simp at h; done)
    obtain ⟨h1, h2⟩ := onT h
    obtain ⟨e, he⟩ := hT.isPtr h1
    exact fin rfl (yesX_ok h2 (fun w => nil_eql_run he) (fun w => nil_neq_run he))
  | nils =>
    cases hb <;> simp only [binX] at h <;> try (simp at h; done)
    obtain ⟨h1, h2⟩ := onT h
    obtain ⟨e, he⟩ := hT.isSl h1
    exact fin rfl (yesX_ok h2 (fun w => slnil_eql_run he) (fun w => slnil_neq_run he))
  | sl p q =>
    cases hb <;> simp only [binX] at h <;> try (simp at h; done)
    obtain ⟨h1, h2⟩ := onT h
    obtain ⟨e, he⟩ := hT.isSl h1
    exact fin rfl (yesX_ok h2 (fun w => slice_eql_run he) (fun w => slice_neq_run he))
  | sub p q =>
    cases hb <;> simp only [binX] at h <;> try (simp at h; done)
    obtain ⟨h1, h2⟩ := onT h
    obtain ⟨e, he⟩ := hT.isSl h1
    exact fin rfl (yesX_ok h2 (fun w => slice_eql_run he) (fun w => slice_neq_run he))
  | emp p =>
    cases hb <;> simp only [binX] at h <;> try (simp at h; done)
    obtain ⟨h1, h2⟩ := onT h
    obtain ⟨e, he⟩ := hT.isSl h1
    exact fin rfl (yesX_ok h2 (fun w => slice_eql_run he) (fun w => slice_neq_run he))
  | bool =>
    cases hb <;> simp only [binX] at h <;> try (simp at h; done)
    obtain ⟨h1, h2⟩ := onT h
    have he := hT.isBool h1
    exact fin rfl (yesX_ok h2 (fun w => beql_run he) (fun w => bneq_run he))
  | str =>
    cases hb <;> simp only [binX] at h <;> try (simp at h; done)
    rename_i a b
    refine fin rfl ?_
    unfold strX at h
    simp only [cond_eq_ite] at h
    split at h
    · split at h
      · rename_i hl
        simp only [Option.some.injEq] at h
        subst h
        have hl' := Nat.le_of_ble_eq_true hl
        refine ⟨_, .str, fun w => ?_⟩
        rw [sadd_run (by rw [strOf_size, strOf_size]; omega), strOf_append]
      · simp at h
    · split at h
      · rename_i hc
        simp only [Bool.and_eq_true] at hc
        have key : ((strOf a).toList == (strOf b).toList) = decide (a = b) := by
          by_cases hab : a = b
          · subst hab; simp
          · have : (strOf a).toList ≠ (strOf b).toList := fun e => hab (strOf_inj hc.1 hc.2 e)
            simp [hab, this]
        exact yesX_ok h (fun w => by rw [seql_run, key]) (fun w => by rw [sneq_run, key])
      · simp at h
  | @agg la vs p =>
    cases hb <;> simp only [binX] at h <;> try (simp at h; done)
    rename_i lb us q
    obtain ⟨h1, h2⟩ := onT h
    unfold yesO at h2
    split at h2
    · rename_i r hr
      unfold tyIs at h1
      split at h1
      · rename_i i hi
        have h6 := (hT.all hi).2.2.2.2.2
        have h3 := (hT.all hi).2.2.1
        unfold kindOk at h6
        split at h6 <;> simp_all
        rename_i fs hu
        obtain ⟨⟨⟨hf, hlen⟩, hst⟩, hg⟩ := h6.2
        have hlen2 : fs.toList.length = la.length := by
          have := Nat.eq_of_beq_eq_true (by simpa using hlen)
          simp_all
        have hfo : P.fieldsOf t = fs := by simp [Program.fieldsOf, hu]
        have hrun : ∀ w, (Op.equalIn 10000 t (.agg vs.toArray) (.agg us.toArray)).run P w = .ok r w := fun w => by
          rw [run_equalIn_agg w 9999 t vs.toArray us.toArray (by rw [hfo]; exact hu) hst, hfo]
          exact ints_ok (o := 0) hf hlen2 (by simpa using p) (by simpa using q) hr
        obtain ⟨v, hv1, hv2⟩ := yesX_ok (P := P) (φ := φ) (t := t) (x := .agg vs.toArray) (y := .agg us.toArray) h2 (fun w => by rw [run_eql_struct, hrun]; rfl) (fun w => by rw [run_neq_struct, hrun]; rfl)
        exact ⟨v, hv1, fun w o o' => by simp [run_eqGuard_agg w op t o o' _ _ hg, hv2]⟩
      · simp at h1
    · simp at h2
  | _ => simp [binX] at h
end
end Go.Proofs.YthjbkngecgbioaaGreatDoor.Xe

/- The evaluator tells the truth: all that is quiet. -/
namespace Go.Proofs.YthjbkngecgbioaaGreatDoor.Xe
open Go Go.Proofs.YthjbkngecgbioaaGreatDoor.Sl

section
variable {P : Program} {TT : Nat → Option Ty} {φ : Nm} {mem : Mem} {env : Vars} {A A' : List HP} {l : Env} {u : V} {dst : Option Tmp} {ty : TypeId} {pos : String} {af : Array Edge} {g : Option (Nat × Bool)} {w : World}
theorem EntH.cell {b c T sz : Nat} {vs : List Value} {w : World} {R F : Foot} (h : (EntH b c T sz vs).h w R F) {o : Nat} {v : Value} (hv : vs[o]? = some v) : w.cell? ⟨b, o, none⟩ = some v := by
  obtain ⟨_, arr, h1, _, _, h2, _⟩ := h
  have : arr.toList[o]? = some v := by
    rw [← h2, List.getElem?_take] at hv
    split at hv
    · exact hv
    · simp at hv
  simp only [World.cell?, h1]
  simpa using this
/-- A quiet operation looks at one block at most. -/
structure QOk (φ : Nm) (mem : Mem) (env : Vars) (A : List HP) (op : Op) (A0 : List HP) : Prop where
  or : A0 = [] ∨ ∃ i p A' k e, take1 i A = some (p, A') ∧ Xe.find mem k = some e ∧ ER φ (k, e) p ∧ A0 = [p] ∧ (isQuiet op = true → readsX env op = some k)
def Quiet (P : Program) (φ : Nm) (mem : Mem) (env : Vars) (A : List HP) (l : Env) (op : Op) (u : V) : Prop :=
  ∃ v A0, VR φ u v ∧ QOk φ mem env A op A0 ∧ ∀ dst ty pos af g, Qt P l A0 ⟨dst, op, ty, pos, af, g⟩ v
theorem Quiet.pure {op : Op} {v : Value} (h1 : VR φ u v) (h2 : ∀ dst ty pos af g, Qt P l [] ⟨dst, op, ty, pos, af, g⟩ v) : Quiet P φ mem env A l op u := ⟨v, [], h1, ⟨.inl rfl⟩, h2⟩
theorem load_run {b c T sz o t : Nat} {vs : List Value} (hT : TOk P TT) {e : Ent} {k : Nat} (hm : Xe.find mem k = some e) (hv : VRs φ e.cs vs) (h : loadX TT mem t k o = some u) {x : Operand} (hx : ev l x = some (.pointer (some ⟨b, o, none⟩))) :
    ∃ v, VR φ u v ∧ ∀ dst ty pos af g, Qt P l [EntH b c T sz vs] ⟨dst, .load t x, ty, pos, af, g⟩ v := by
  unfold loadX at h
  split at h
  · rename_i i hi
    rw [hm] at h
    simp only [] at h
    obtain ⟨h1, h2, h3, _⟩ := hT.all hi
    simp only [cond_eq_ite] at h
    split at h
    · rename_i hp
      obtain ⟨v, h4, h5⟩ := hv.get h
      refine ⟨v, h5, fun dst ty pos af g a w R F hl _ hs => ?_⟩
      obtain ⟨F1, F2, _, _, _, h6, _⟩ := hs
      have hc := EntH.cell h6 h4
      simp [execOp, hl.ev hx, Instr.loadAt, Instr.sureAddr, loadVar, run_isAgg_plain (h1 hp), load, Sem.run, Pure.pure, hc]
    · split at h
      · rename_i _ hp
        split at h
        · rename_i hle
          simp only [Option.some.injEq] at h
          subst h
          have hle' := Nat.le_of_ble_eq_true hle
          have hlen := hv.length
          refine ⟨_, .agg ((hv.drop o).take i.size), fun dst ty pos af g a w R F hl _ hs => ?_⟩
          obtain ⟨F1, F2, _, _, _, h6, _⟩ := hs
          have hl2 : (loadCells ⟨b, o, none⟩ i.size).run P w = .ok ((vs.drop o).take i.size).toArray w := by
            have hk : ((vs.drop o).take i.size).length = i.size := by rw [List.length_take, List.length_drop]; omega
            conv => lhs; rw [← hk]
            refine run_loadCells_list w _ _ (fun j v hj => ?_)
            rw [add_none]
            rw [List.getElem?_take] at hj
            split at hj
            · exact EntH.cell h6 (by simpa using hj)
            · simp at hj
          simp [execOp, hl.ev hx, Instr.loadAt, Instr.sureAddr, loadVar, run_isAgg_agg (h2 hp), Sl.run_sizeOf h3, hl2, Pure.pure, Sem.run]
        · simp at h
      · simp at h
  · simp at h
/-- A bound of a cut. -/
theorem bound_ok (hl : LR φ env l) {d n : Nat} {x : Option Operand} (h : boundX env d x = some n) : (x = none ∧ n = d) ∨ ∃ y, x = some y ∧ ev l y = some (.int .i64 (n : Int)) := by
  unfold boundX at h
  split at h
  · simp only [Option.some.injEq] at h; exact .inl ⟨rfl, h.symm⟩
  · rename_i y
    split at h
    · rename_i m hm
      rw [cond_eq_ite] at h
      split at h
      · rename_i hp
        simp only [posZ_iff, decide_eq_true_eq] at hp
        simp only [Option.some.injEq] at h
        obtain ⟨v, h1, h2⟩ := opnd_ok hl hm
        cases h2
        refine .inr ⟨y, rfl, ?_⟩
        rw [h1, ← h]
        congr 2
        omega
      · simp at h
    · simp at h
theorem nat_ok (hl : LR φ env l) {x : Operand} {n : Nat} (h : natX env x = some n) : ∃ k, ev l x = some (.int k (n : Int)) := by
  unfold natX at h
  split at h
  · rename_i k m hm
    rw [cond_eq_ite] at h
    split at h
    · rename_i hp
      simp only [posZ_iff, decide_eq_true_eq] at hp
      simp only [Option.some.injEq] at h
      obtain ⟨v, h1, h2⟩ := opnd_ok hl hm
      cases h2
      refine ⟨k, ?_⟩
      rw [h1, ← h]
      congr 2
      omega
    · simp at h
  · simp at h
theorem sliceBounds_ok (hl : LR φ env l) {a : Act} (ha : Holds a l) {len cap lo hi : Nat} {xl xh : Option Operand} {b : Bool} (h1 : boundX env 0 xl = some lo) (h2 : boundX env len xh = some hi) (h3 : lo ≤ hi) (h4 : hi ≤ len) (h5 : len ≤ cap) :
    (Instr.sliceBounds b len cap (xl.map a.eval) (xh.map a.eval) none).run P w = .ok (lo, hi, cap) w := by
  have bnd : ∀ (n m : Nat) c, n ≤ m → (Instr.sliceBound (.int .i64 (n : Int)) m c).run P w = .ok n w := fun n m c h => by
    unfold Instr.sliceBound
    have h0 : (0 : Int) ≤ (n : Int) ∧ (n : Int) ≤ (m : Int) := ⟨by omega, by omega⟩
    simp [asIntOf, h0, Sem.run, Pure.pure]
  unfold Instr.sliceBounds
  rcases bound_ok hl h1 with ⟨rfl, rfl⟩ | ⟨y, rfl, hy⟩ <;> rcases bound_ok hl h2 with ⟨rfl, rfl⟩ | ⟨z, rfl, hz⟩
  · simp [Sem.run, Pure.pure]
  · simp [ha.ev hz, bnd _ _ _ (Nat.le_trans h4 h5), Sem.run, Pure.pure]
  · simp [ha.ev hy, bnd _ _ _ h3, Sem.run, Pure.pure]
  · simp [ha.ev hy, ha.ev hz, bnd _ _ _ h3, bnd _ _ _ (Nat.le_trans h4 h5), Sem.run, Pure.pure]
theorem strOf_extract (s : List Nat) (l h : Nat) : (strOf s).extract l h = strOf ((s.take h).drop l) := by
  apply ByteArray.ext
  simp only [strOf, ByteArray.data_extract, List.extract_toArray]
  congr 1
  rw [List.extract_eq_take_drop, List.map_drop, List.map_take, List.drop_take]
theorem cut_ok (hT : TOk P TT) (hl : LR φ env l) {t : Nat} {x : Operand} {lo hi : Option Operand} {c : V} {v : Value} (hv : VR φ c v) (hx : ev l x = some v) (h : cutX TT env t lo hi c = some u) : Quiet P φ mem env A l (.slice t x lo hi none) u := by
  cases hv with
  | @str s =>
    simp only [cutX] at h
    split at h
    · rename_i l0 h0
      split at h
      · rename_i h1 hh1
        rw [cond_eq_ite] at h
        split at h
        · rename_i hc
          simp only [Bool.and_eq_true] at hc
          simp only [Option.some.injEq] at h
          subst h
          refine Quiet.pure .str (fun dst ty pos af g a w R F ha _ _ => ?_)
          have hb := sliceBounds_ok (P := P) (w := w) (cap := s.length) (b := false) hl ha h0 hh1 (Nat.le_of_ble_eq_true hc.1.1) (Nat.le_of_ble_eq_true hc.1.2) (Nat.le_refl _)
          simp [execOp, ha.ev hx, Instr.sliceAt, Instr.slice, Sl.run_underlying (hT.isStr hc.2), strOf_size, hb, strOf_extract, Pure.pure, Sem.run]
        · simp at h
      · simp at h
    · simp at h
  | nils =>
    simp only [cutX] at h
    split at h
    · rename_i l0 h0
      split at h
      · rename_i h1 hh1
        rw [cond_eq_ite] at h
        split at h
        · rename_i hc
          simp only [Bool.and_eq_true] at hc
          simp only [Option.some.injEq] at h
          subst h
          have e1 := Nat.eq_of_beq_eq_true hc.1.1
          have e2 := Nat.eq_of_beq_eq_true hc.1.2
          subst e1 e2
          obtain ⟨z, hz⟩ := Option.isSome_iff_exists.1 hc.2
          obtain ⟨e, he, hsz⟩ := hT.elsz hz
          refine Quiet.pure .nils (fun dst ty pos af g a w R F ha _ _ => ?_)
          have hb := sliceBounds_ok (P := P) (w := w) (cap := 0) (b := true) hl ha h0 hh1 (Nat.le_refl _) (Nat.le_refl _) (Nat.le_refl _)
          simp [execOp, ha.ev hx, Instr.sliceAt, Instr.slice, Sl.run_underlying he, Sl.run_sizeOf hsz, hb, Pure.pure, Sem.run]
        · simp at h
      · simp at h
    · simp at h
  | @sl k len b c hb hlen =>
    simp only [cutX] at h
    split at h
    · rename_i l0 h0
      split at h
      · rename_i h1 hh1
        rw [cond_eq_ite] at h
        split at h
        · rename_i hc
          simp only [Bool.and_eq_true] at hc
          have g1 := Nat.le_of_ble_eq_true hc.1
          have g2 := Nat.le_of_ble_eq_true hc.2
          split at h
          · rename_i z hz
            obtain ⟨e, he, hsz⟩ := hT.elsz hz
            have hrun : ∀ dst ty pos af g (a : Act) (w : World), Holds a l → (execOp a.eval ⟨dst, .slice t x lo hi none, ty, pos, af, g⟩).run P w = .ok (.value (.slice (some (if c = l0 then ⟨b, 0, none⟩ else ⟨b, l0 * z, none⟩)) (h1 - l0) (c - l0))) w := fun dst ty pos af g a w ha => by
              have hbd := sliceBounds_ok (P := P) (w := w) (cap := c) (b := true) hl ha h0 hh1 g1 g2 hlen
              simp [execOp, ha.ev hx, Instr.sliceAt, Instr.slice, Sl.run_underlying he, Sl.run_sizeOf hsz, hbd, Pure.pure, Sem.run, add_none]
              split <;> rfl
            simp only [cond_eq_ite] at h
            split at h
            · rename_i hz0
              have e1 := Nat.eq_of_beq_eq_true hz0
              subst e1
              simp only [Option.some.injEq] at h
              subst h
              refine Quiet.pure (.sl hb (Nat.le_trans g2 hlen)) (fun dst ty pos af g a w R F ha _ _ => ?_)
              rw [hrun dst ty pos af g a w ha]
              simp
            · rename_i hz0
              have e0 : l0 ≠ 0 := fun e => hz0 (by rw [e]; rfl)
              split at h
              · rename_i hlt
                have e2 : l0 < len := Nat.le_of_ble_eq_true hlt
                simp only [Option.some.injEq] at h
                subst h
                refine Quiet.pure (.sub hb (by omega)) (fun dst ty pos af g a w R F ha _ _ => ?_)
                rw [hrun dst ty pos af g a w ha, if_neg (by omega)]
              · rename_i hlt
                simp only [Option.some.injEq] at h
                subst h
                have e2 : ¬ l0 < len := fun hh => hlt (Nat.ble_eq_true_of_le hh)
                have e3 : h1 - l0 = 0 := by omega
                by_cases hcl : c = l0
                · refine Quiet.pure (v := .slice (some ⟨b, 0, none⟩) 0 (c - l0)) (.emp hb) (fun dst ty pos af g a w R F ha _ _ => ?_)
                  rw [hrun dst ty pos af g a w ha, if_pos hcl, e3]
                · refine Quiet.pure (v := .slice (some ⟨b, l0 * z, none⟩) 0 (c - l0)) (.emp hb) (fun dst ty pos af g a w R F ha _ _ => ?_)
                  rw [hrun dst ty pos af g a w ha, if_neg hcl, e3]
          · simp at h
        · simp at h
      · simp at h
    · simp at h
  | @sub k o d len b c hb hlen =>
    simp only [cutX] at h
    split at h
    · rename_i l0 h0
      split at h
      · rename_i h1 hh1
        rw [cond_eq_ite] at h
        split at h
        · rename_i hc
          simp only [Bool.and_eq_true] at hc
          have g1 := Nat.le_of_ble_eq_true hc.1
          have g2 := Nat.le_of_ble_eq_true hc.2
          split at h
          · rename_i z hz
            obtain ⟨e, he, hsz⟩ := hT.elsz hz
            have hrun : ∀ dst ty pos af g (a : Act) (w : World), Holds a l → (execOp a.eval ⟨dst, .slice t x lo hi none, ty, pos, af, g⟩).run P w = .ok (.value (.slice (some (if c - d = l0 then ⟨b, o, none⟩ else ⟨b, o + l0 * z, none⟩)) (h1 - l0) (c - d - l0))) w := fun dst ty pos af g a w ha => by
              have hbd := sliceBounds_ok (P := P) (w := w) (cap := c - d) (b := true) hl ha h0 hh1 g1 g2 (by omega)
              simp [execOp, ha.ev hx, Instr.sliceAt, Instr.slice, Sl.run_underlying he, Sl.run_sizeOf hsz, hbd, Pure.pure, Sem.run, add_none]
              split <;> rfl
            simp only [cond_eq_ite] at h
            split at h
            · rename_i hz0
              have e1 := Nat.eq_of_beq_eq_true hz0
              subst e1
              simp only [Option.some.injEq] at h
              subst h
              refine Quiet.pure (.sub hb (by omega)) (fun dst ty pos af g a w R F ha _ _ => ?_)
              rw [hrun dst ty pos af g a w ha]
              simp
            · rename_i hz0
              have e0 : l0 ≠ 0 := fun e => hz0 (by rw [e]; rfl)
              split at h
              · rename_i hlt
                have e2 : l0 < len := Nat.le_of_ble_eq_true hlt
                simp only [Option.some.injEq] at h
                subst h
                refine Quiet.pure (v := .slice (some ⟨b, o + l0 * z, none⟩) (h1 - l0) (c - d - l0)) (by rw [show c - d - l0 = c - (d + l0) by omega]; exact .sub hb (by omega)) (fun dst ty pos af g a w R F ha _ _ => ?_)
                rw [hrun dst ty pos af g a w ha, if_neg (by omega)]
              · rename_i hlt
                simp only [Option.some.injEq] at h
                subst h
                have e2 : ¬ l0 < len := fun hh => hlt (Nat.ble_eq_true_of_le hh)
                have e3 : h1 - l0 = 0 := by omega
                by_cases hcl : c - d = l0
                · refine Quiet.pure (v := .slice (some ⟨b, o, none⟩) 0 (c - d - l0)) (.emp hb) (fun dst ty pos af g a w R F ha _ _ => ?_)
                  rw [hrun dst ty pos af g a w ha, if_pos hcl, e3]
                · refine Quiet.pure (v := .slice (some ⟨b, o + l0 * z, none⟩) 0 (c - d - l0)) (.emp hb) (fun dst ty pos af g a w R F ha _ _ => ?_)
                  rw [hrun dst ty pos af g a w ha, if_neg hcl, e3]
          · simp at h
        · simp at h
      · simp at h
    · simp at h
  | @emp k b c o c' hb =>
    simp only [cutX] at h
    split at h
    · rename_i l0 h0
      split at h
      · rename_i h1 hh1
        rw [cond_eq_ite] at h
        split at h
        · rename_i hc
          simp only [Bool.and_eq_true] at hc
          simp only [Option.some.injEq] at h
          subst h
          have e1 := Nat.eq_of_beq_eq_true hc.1.1
          have e2 := Nat.eq_of_beq_eq_true hc.1.2
          subst e1 e2
          obtain ⟨z, hz⟩ := Option.isSome_iff_exists.1 hc.2
          obtain ⟨e, he, hsz⟩ := hT.elsz hz
          refine Quiet.pure (v := .slice (some ⟨b, o, none⟩) 0 c') (.emp hb) (fun dst ty pos af g a w R F ha _ _ => ?_)
          have hbd := sliceBounds_ok (P := P) (w := w) (cap := c') (b := true) hl ha h0 hh1 (Nat.le_refl _) (Nat.le_refl _) (Nat.zero_le _)
          simp [execOp, ha.ev hx, Instr.sliceAt, Instr.slice, Sl.run_underlying he, Sl.run_sizeOf hsz, hbd, Pure.pure, Sem.run, add_none]
        · simp at h
      · simp at h
    · simp at h
  | _ => simp [cutX] at h
theorem len_ok (hT : TOk P TT) {t : Nat} {c : V} {v : Value} (hv : VR φ c v) (h : lenX TT t c = some u) : ∃ r, VR φ u r ∧ ∀ (w : World) (ty : TypeId) (cs : Array Bool), (builtin .len #[t] ty cs #[v]).run P w = .ok (.value r) w := by
  have onT : ∀ {b : Bool} {r : Option V}, onTy b r = some u → b = true ∧ r = some u := fun {b r} h => by
    unfold onTy at h
    rw [cond_eq_ite] at h
    split at h
    · rename_i hb; exact ⟨hb, h⟩
    · simp at h
  cases hv <;> simp only [lenX] at h <;> try (simp at h; done)
  · obtain ⟨h1, h2⟩ := onT h
    obtain ⟨rfl, _⟩ := num_ok h2
    refine ⟨_, .int, fun w ty cs => ?_⟩
    rw [len_str_run (hT.isStr h1), strOf_size]
  · obtain ⟨h1, h2⟩ := onT h
    obtain ⟨e, he⟩ := hT.isSl h1
    simp only [Option.some.injEq] at h2
    subst h2
    exact ⟨_, .int, fun w ty cs => by rw [len_slice_run he]; rfl⟩
  · obtain ⟨h1, h2⟩ := onT h
    obtain ⟨e, he⟩ := hT.isSl h1
    obtain ⟨rfl, _⟩ := num_ok h2
    exact ⟨_, .int, fun w ty cs => by rw [len_slice_run he]⟩
  · obtain ⟨h1, h2⟩ := onT h
    obtain ⟨e, he⟩ := hT.isSl h1
    obtain ⟨rfl, _⟩ := num_ok h2
    exact ⟨_, .int, fun w ty cs => by rw [len_slice_run he]⟩
  · obtain ⟨h1, h2⟩ := onT h
    obtain ⟨e, he⟩ := hT.isSl h1
    simp only [Option.some.injEq] at h2
    subst h2
    exact ⟨_, .int, fun w ty cs => by rw [len_slice_run he]; rfl⟩
theorem parts_ok (hl : LR φ env l) : ∀ {ps : List (Nat × Operand)} {us : List (Nat × V)}, partsX env ps = some us → ∃ vs, evps l ps = some vs ∧ vs.map (·.1) = us.map (·.1) ∧ VRs φ (us.map (·.2)) (vs.map (·.2))
  | [], us, h => by simp [partsX] at h; subst h; exact ⟨[], rfl, rfl, .nil⟩
  | (i, x) :: ps, us, h => by
    simp only [partsX] at h
    split at h
    · rename_i v hv
      split at h
      · rename_i vs hvs
        simp only [Option.some.injEq] at h
        subst h
        obtain ⟨y, h1, h2⟩ := opnd_ok hl hv
        obtain ⟨ys, h3, h4, h5⟩ := parts_ok hl hvs
        exact ⟨(i, y) :: ys, by simp [evps, h1, h3], by simp [h4], .cons h2 h5⟩
      · simp at h
    · simp at h
theorem fill_ok {fl : List (Nat × Nat)} : ∀ {us : List (Nat × V)} {vs : List (Nat × Value)} {cs : List V} {ds : List Value} {rs : List V}, vs.map (·.1) = us.map (·.1) → VRs φ (us.map (·.2)) (vs.map (·.2)) → VRs φ cs ds → fillX fl cs us = some rs → ∃ es, fillL (fun i => fl[i]?) ds vs = some es ∧ VRs φ rs es
  | [], vs, cs, ds, rs, h1, _, h3, h4 => by
    cases vs with
    | nil => simp [fillX] at h4; subst h4; exact ⟨ds, rfl, h3⟩
    | cons _ _ => simp at h1
  | (i, x) :: us, vs, cs, ds, rs, h1, h2, h3, h4 => by
    cases vs with
    | nil => simp at h1
    | cons y vs =>
      obtain ⟨j, y⟩ := y
      simp only [List.map_cons, List.cons.injEq] at h1
      obtain ⟨rfl, h1⟩ := h1
      simp only [List.map_cons] at h2
      cases h2 with
      | cons p q =>
        simp only [fillX] at h4
        split at h4
        · rename_i f hf
          rw [cond_eq_ite] at h4
          split at h4
          · rename_i hc
            simp only [Bool.and_eq_true] at hc
            have hcl := (VR.cells p).length
            have hdl := h3.length
            obtain ⟨es, h5, h6⟩ := fill_ok (us := us) (vs := vs) h1 q (VRs.put (VR.cells p) h3 (o := f.1)) h4
            refine ⟨es, ?_, h6⟩
            simp only [fillL, hf]
            have e1 := Nat.eq_of_beq_eq_true hc.1
            have e2 := Nat.le_of_ble_eq_true hc.2
            rw [if_pos (by simp only [Bool.and_eq_true, Nat.beq_eq, Nat.ble_eq]; exact ⟨by omega, by omega⟩)]
            exact h5
          · simp at h4
        · simp at h4
end
end Go.Proofs.YthjbkngecgbioaaGreatDoor.Xe

/- The evaluator tells the truth: operations that turn memory. -/
namespace Go.Proofs.YthjbkngecgbioaaGreatDoor.Xe
open Go Go.Proofs.YthjbkngecgbioaaGreatDoor.Sl

section
variable {P : Program} {TT : Nat → Option Ty} {φ : Nm} {mem mem' : Mem} {env : Vars} {A A' : List HP} {l : Env} {u : V} {dst : Option Tmp} {ty : TypeId} {pos : String} {af : Array Edge} {g : Option (Nat × Bool)} {w : World} {n lo lo' hi : Nat} {C : Ctx}
theorem Turns.newE {R F : Foot} {c T sz : Nat} {arr : Array Value} {vs : List Value} (o : Ok w R F) (h1 : arr.size = c * sz) (h2 : vs.length ≤ arr.size) (h3 : arr.toList.take vs.length = vs) (h4 : c ≤ maxLen) : Turns w R F (w.alloc (.cells arr T (0, 0))) [EntH w.heap.size c T sz vs] := by
  refine ⟨R, fun b => b = w.heap.size, ⟨rfl, rfl, rfl, by simp, fun k hk _ => ?_, fun _ h => h, fun _ h => .inl h, fun k hk => .inr (by omega)⟩, ⟨fun k hk => ?_, fun k hk => ?_, fun k hk e => ?_⟩,
    fun b => b = w.heap.size, fun _ => False, fun _ h => h, fun _ h => h.elim, fun _ _ h => h, ⟨rfl, arr, ?_, h1, h2, h3, h4⟩, trivial⟩
  · show (w.heap.push _)[k]? = _
    simp [Array.getElem?_push, show k ≠ w.heap.size by omega]
  · have := o.r k hk; simp; omega
  · simp; omega
  · have := o.r k hk; omega
  · show (w.heap.push _)[w.heap.size]? = _
    simp
theorem setE {b c T sz : Nat} {R F : Foot} : ∀ {us vs : List Value} {o : Nat} {w : World}, (EntH b c T sz vs).h w R F → o + us.length ≤ vs.length → (EntH b c T sz (putL vs o us)).h (w.setCells b o us) R F
  | [], _, _, _, h, _ => h
  | u :: us, vs, o, w, h, hle => by
    simp only [List.length_cons] at hle
    refine setE (us := us) (vs := vs.set o u) (o := o + 1) (w := w.setCell ⟨b, o, none⟩ u) ?_ (by simp; omega)
    obtain ⟨hF, arr, h1, h2, h3, h4, h5⟩ := h
    refine ⟨hF, arr.setIfInBounds o u, ?_, by simpa using h2, by simpa using h3, ?_, h5⟩
    · simp [World.setCell, Array.getElem?_modify, h1]
    · simp only [Array.toList_setIfInBounds, List.length_set]
      rw [List.take_set, h4]
theorem EntH.free {b c T sz : Nat} {vs : List Value} {R F : Foot} (h : (EntH b c T sz vs).h w R F) (i : Nat) : w.frozen? ⟨b, i, none⟩ = false := by
  obtain ⟨_, arr, h1, _⟩ := h
  simp [World.frozen?, h1]
theorem Turns.setE {b c T sz : Nat} {R F : Foot} {us vs : List Value} {o : Nat} (ok : Ok w R F) (h : (EntH b c T sz vs).h w R F) (hle : o + us.length ≤ vs.length) : Turns w R F (w.setCells b o us) [EntH b c T sz (putL vs o us)] := by
  obtain ⟨e1, e2, e3, e4, e5⟩ := setCells_same (b := b) (vs := us) (o := o) (w := w)
  exact ⟨R, F, ⟨e2, e3, e4, by omega, fun k _ hk => e5 k (fun e => hk (e ▸ h.1)), fun _ h => h, fun _ h => .inl h, fun _ h => .inl h⟩, ⟨fun k hk => by rw [e1]; exact ok.r k hk, fun k hk => by rw [e1]; exact ok.f k hk, ok.d⟩,
    F, fun _ => False, fun _ h => h, fun _ h => h.elim, fun _ _ h => h, Xe.setE h hle, trivial⟩
/-- What an operation that turns memory leaves. -/
def EffPost (φ : Nm) (lo lo' : Nat) (u : V) (mem' : Mem) : Value → List HP → Prop := fun v B => ∃ ψ, Ext φ ψ lo lo' ∧ Fun ψ ∧ VR ψ u v ∧ MR ψ mem' B
/-- It makes a block. -/
theorem O1.newE {o : Oper} {T sz c : Nat} {cs : List V} {vs : List Value} {x : V} (hf : Fun φ) (hfr : Fresh φ lo hi) (hlt : lo < hi) (hm : MR φ mem A) (hv : VRs φ cs vs) (h1 : cs.all V.one = true) (hc : c ≤ maxLen)
    (hx : ∀ b, ∃ v, VR (plus φ lo b c) x v ∧ ∀ (a : Act) (w : World), Holds a l → w.heap.size = b → ∃ arr, arr.size = c * sz ∧ vs.length ≤ arr.size ∧ arr.toList.take vs.length = vs ∧ (execOp a.eval o).run P w = .ok (.value v) (w.alloc (.cells arr T (0, 0)))) :
    O1 P n C l A o (EffPost φ lo (lo + 1) x ((lo, ⟨T, sz, cs⟩) :: mem)) := by
  refine O1.loc (A' := A) [] rfl (fun v L' => ∃ b, VR (plus φ lo b c) x v ∧ L' = [EntH b c T sz vs]) (fun a w R F hl ok _ => ?_) ?_
  · obtain ⟨v, h2, h3⟩ := hx w.heap.size
    obtain ⟨arr, h4, h5, h6, h7⟩ := h3 a w hl rfl
    exact ⟨v, _, _, ⟨w.heap.size, h2, rfl⟩, .inl h7, Turns.newE ok h4 h5 h6 hc⟩
  · rintro v L' ⟨b, h2, rfl⟩
    exact ⟨plus φ lo b c, plus_ext, plus_fun hf hfr hlt, h2, ⟨b, c, vs, .inr ⟨rfl, rfl, rfl⟩, hv.mono (fun _ _ _ h => .inl h), VRs.one hv h1, rfl⟩, hm.mono (fun _ _ _ h => .inl h)⟩
theorem newX_eq {T sz : Nat} {cs : List V} {v : V} {r : Res} (h : newX mem lo T sz cs v = some r) : cs.all V.one = true ∧ r = (v, (lo, ⟨T, sz, cs⟩) :: mem, lo + 1) := by
  unfold newX at h
  rw [cond_eq_ite] at h
  split at h
  · rename_i h1; simp only [Option.some.injEq] at h; exact ⟨h1, h.symm⟩
  · simp at h
theorem alloc_ok (hT : TOk P TT) (hf : Fun φ) (hfr : Fresh φ lo hi) (hm : MR φ mem A) {t : Nat} {r : Res} (h : eAlloc TT mem lo t = some r) (hlo : r.2.2 ≤ hi) : O1 P n C l A ⟨dst, .alloc t, ty, pos, af, g⟩ (EffPost φ lo r.2.2 r.1 r.2.1) := by
  unfold eAlloc at h
  split at h
  · rename_i i hi'
    obtain ⟨h1, rfl⟩ := newX_eq h
    obtain ⟨_, _, _, ⟨zs, hz, hv⟩, _⟩ := hT.all hi'
    have hlen := (hv φ).length
    refine O1.newE (c := 1) hf hfr (by simp at hlo; omega) hm (hv φ) h1 (by unfold maxLen; omega) (fun b => ⟨_, .ptr (.inr ⟨rfl, rfl, rfl⟩), fun a w hl hb => ?_⟩)
    obtain ⟨z, hz1, hz2⟩ := run_zero (w := w) hz
    subst hb
    refine ⟨z.cells, by simp [hlen, ← hz1], by simp [← hz1], by rw [← hz1]; exact List.take_length, ?_⟩
    simp [execOp, Instr.alloc, hz2, newVar, newRow, newObj, Sem.run, Pure.pure]
  · simp at h
theorem box_ok (hf : Fun φ) (hfr : Fresh φ lo hi) (hm : MR φ mem A) (hl : LR φ env l) {t : Nat} {x : Operand} {r : Res} (h : eBox mem env lo t x = some r) (hlo : r.2.2 ≤ hi) : O1 P n C l A ⟨dst, .box t x, ty, pos, af, g⟩ (EffPost φ lo r.2.2 r.1 r.2.1) := by
  unfold eBox at h
  split at h
  · rename_i v hv
    obtain ⟨h1, rfl⟩ := newX_eq h
    obtain ⟨y, h2, h3⟩ := opnd_ok hl hv
    have hlen := h3.cells.length
    refine O1.newE (c := 1) hf hfr (by simp at hlo; omega) hm h3.cells h1 (by unfold maxLen; omega) (fun b => ⟨_, .ptr (.inr ⟨rfl, rfl, rfl⟩), fun a w ha hb => ?_⟩)
    subst hb
    refine ⟨y.cells, by simp at hlen ⊢; omega, by simp, List.take_length, ?_⟩
    simp [execOp, ha.ev h2, Instr.box, newVar, newRow, newObj, Sem.run, Pure.pure]
  · simp at h
theorem putMem_ok (hm : MR φ mem A) {k o : Nat} {us : List V} {vs : List Value} (hv : VRs φ us vs) (h : putMem mem k o us = some mem') :
    ∃ i b c T sz ws A', take1 i A = some (EntH b c T sz ws, A') ∧ φ k b c ∧ o + vs.length ≤ ws.length ∧ (∀ v ∈ vs, Sl.one v = true) ∧ MR φ mem' (EntH b c T sz (putL ws o vs) :: A') := by
  unfold putMem at h
  split at h
  · rename_i p hp
    rw [cond_eq_ite] at h
    split at h
    · rename_i hc
      simp only [Bool.and_eq_true] at hc
      simp only [Option.some.injEq] at h
      subst h
      obtain ⟨i, q, A', h1, ⟨b, c, ws, h2, h3, h4, h5⟩, h6⟩ := hm.pull hp
      subst h5
      have hle := Nat.le_of_ble_eq_true hc.1
      have e1 := hv.length
      have e2 : p.1.cs.length = ws.length := h3.length
      refine ⟨i, b, c, _, _, ws, A', h1, h2, by omega, VRs.one hv hc.2, ⟨b, c, _, h2, VRs.put hv h3, ?_, rfl⟩, h6⟩
      have key : ∀ (us : List Value) (ws : List Value) (o : Nat), (∀ v ∈ us, Sl.one v = true) → (∀ v ∈ ws, Sl.one v = true) → ∀ v ∈ putL ws o us, Sl.one v = true := by
        intro us
        induction us with
        | nil => intro ws o _ h; exact h
        | cons x us ih =>
          intro ws o h1 h2
          refine ih _ _ (fun v hv => h1 v (List.mem_cons_of_mem _ hv)) (fun v hv => ?_)
          rcases List.mem_or_eq_of_mem_set hv with h | h
          · exact h2 v h
          · rw [h]; exact h1 x (List.mem_cons_self ..)
      exact key _ _ _ (VRs.one hv hc.2) h4
    · simp at h
  · simp at h
theorem store_ok (hT : TOk P TT) (hf : Fun φ) (hm : MR φ mem A) (hl : LR φ env l) {t : Nat} {x y : Operand} {r : Res} (h : eStore TT mem env lo t x y = some r) : O1 P n C l A ⟨dst, .store t x y, ty, pos, af, g⟩ (EffPost φ lo r.2.2 r.1 r.2.1) := by
  unfold eStore at h
  split at h
  · rename_i k o hx
    split at h
    · rename_i v hy
      split at h
      · rename_i z hz
        rw [cond_eq_ite] at h
        split at h
        · rename_i hb
          split at h
          · rename_i m hm'
            simp only [Option.some.injEq] at h
            subst h
            obtain ⟨px, h1, h2⟩ := opnd_ok hl hx
            cases h2 with
            | @ptr _ _ b c hbc =>
              obtain ⟨vy, h3, h4⟩ := opnd_ok hl hy
              obtain ⟨i, b', c', T, sz, ws, A', h5, h6, h7, h8, h9⟩ := putMem_ok hm h4.cells hm'
              obtain ⟨rfl, rfl⟩ := hf _ _ _ _ _ hbc h6
              have hlen := h4.cells.length
              have hzz := hT.sz hz
              have hb' := Nat.eq_of_beq_eq_true hb
              refine O1.loc [i] (L := [EntH b c T sz ws]) (A' := A') (by simp [takes, h5]) (fun v' L' => v' = undef ∧ L' = [EntH b c T sz (putL ws o vy.cells.toList)]) (fun a w R F ha ok hs => ?_) ?_
              · obtain ⟨F1, F2, g1, g2, g3, g4, g5⟩ := hs
                refine ⟨undef, _, w.setCells b o vy.cells.toList, ⟨rfl, rfl⟩, .inr ⟨?_, rfl⟩, ?_⟩
                · have hrun := run_storeCells_cells (P := P) b o vy.cells.toList 0 w (fun j hj => by
                      rw [Nat.add_zero, EntH.cell g4 (v := ws[o + j]'(by omega)) (List.getElem?_eq_getElem (by omega))]; rfl) (fun j hj => EntH.free g4 _)
                    (fun u hu => one_old (h8 u hu))
                  have hsz : vy.cells.size = z := by rw [← hb', hlen]; simp
                  simp only [execOp, ha.ev h1, ha.ev h3, Instr.storeAt, Instr.sureAddr, storeVar]
                  simp [Sl.run_sizeOf hzz, hsz, hrun, Pure.pure, Sem.run]
                · exact Turns.setE ⟨ok.r, ok.f, ok.d⟩ (EntH b c T sz ws |>.monoF g1 g4) h7
              · rintro v' L' ⟨rfl, rfl⟩
                exact ⟨φ, Ext.refl, hf, .tup .nil, h9⟩
          · simp at h
        · simp at h
      · simp at h
    · simp at h
  · simp at h
end
end Go.Proofs.YthjbkngecgbioaaGreatDoor.Xe

/- The evaluator tells the truth: quiet_ok, all quiet operations in one. -/
namespace Go.Proofs.YthjbkngecgbioaaGreatDoor.Xe
open Go Go.Proofs.YthjbkngecgbioaaGreatDoor.Sl
section
variable {P : Program} {TT : Nat → Option Ty} {φ : Nm} {mem : Mem} {env : Vars} {A A' : List HP} {l : Env} {u : V}
theorem pick_ok (hl : LR φ env l) {c a b : Operand} (h : qPick env c a b = some u) : Quiet P φ mem env A l (.pick c a b) u := by
  unfold qPick at h
  split at h
  · rename_i hc
    obtain ⟨x, h1, h2⟩ := opnd_ok hl hc
    cases h2
    obtain ⟨y, h3, h4⟩ := opnd_ok hl h
    exact Quiet.pure h4 (fun _ _ _ _ _ => Qt.pick_t h1 h3)
  · rename_i hc
    obtain ⟨x, h1, h2⟩ := opnd_ok hl hc
    cases h2
    obtain ⟨y, h3, h4⟩ := opnd_ok hl h
    exact Quiet.pure h4 (fun _ _ _ _ _ => Qt.pick_f h1 h3)
  · simp at h
theorem extract_ok (hl : LR φ env l) {x : Operand} {i : Nat} (h : qExtract env x i = some u) : Quiet P φ mem env A l (.extract x i) u := by
  unfold qExtract at h
  split at h
  · rename_i us hx
    obtain ⟨v, h1, h2⟩ := opnd_ok hl hx
    cases h2 with
    | tup p =>
      obtain ⟨y, h3, h4⟩ := p.get h
      exact Quiet.pure h4 (fun _ _ _ _ _ => Qt.extract h1 (by simpa using h3))
  · simp at h
theorem nck_ok (hl : LR φ env l) {x : Operand} (h : qNil env x = some u) : Quiet P φ mem env A l (.nilCheck x) u := by
  unfold qNil at h
  split at h
  · rename_i k o hx
    simp only [Option.some.injEq] at h
    subst h
    obtain ⟨v, h1, h2⟩ := opnd_ok hl hx
    cases h2 with
    | ptr p => exact Quiet.pure (.ptr p) (fun _ _ _ _ _ => Qt.nck h1)
  · simp at h
theorem fld_ok (hT : TOk P TT) {s i : Nat} {f : Nat × Nat} (h : fldX TT s i = some f) : ∃ fs fd, P.underlying s = some (.struct fs) ∧ fs[i]? = some fd ∧ fd.offset = f.1 ∧ szTy P fd.type = some f.2 ∧ (tyIs TT (fun t => hasN t.one i) s = false → p1 P fd.type = true) := by
  unfold fldX at h
  split at h
  · rename_i t ht
    rw [cond_eq_ite] at h
    split at h
    · rename_i hn
      have h5 := (hT.all ht).2.2.2.2.1
      unfold fldsOk at h5
      split at h5
      · rename_i fs hu
        split at h5
        · rename_i pl hpl
          simp only [Bool.and_eq_true] at h5
          rw [← eqPl_eq h5.1.1.1] at h
          obtain ⟨fd, h1, h2, h3⟩ := structPl_get hu hpl h
          refine ⟨fs, fd, hu, h1, h2, h3, fun hn => ?_⟩
          have h6 := List.all_eq_true.1 h5.2 (fd, i) (by
            rw [List.mem_iff_getElem?]
            exact ⟨i, by simp [h1]⟩)
          simp only [tyIs, ht] at hn
          simp only [hn, Bool.or_false] at h6
          exact h6
        · simp at h5
      · split at h5
        · simp_all
        · simp at h5
      · simp_all
      · simp_all
    · simp at h
  · simp at h
theorem fa_ok (hT : TOk P TT) (hl : LR φ env l) {s i : Nat} {x : Operand} (h : qFieldAddr TT env s x i = some u) : Quiet P φ mem env A l (.fieldAddr s x i) u := by
  unfold qFieldAddr at h
  split at h
  · rename_i k o hx
    split at h
    · rename_i f hf
      rw [cond_eq_ite] at h
      split at h
      · simp at h
      · rename_i hz
        simp only [Option.some.injEq] at h
        subst h
        obtain ⟨fs, fd, h1, h2, h3, h4, _⟩ := fld_ok hT hf
        obtain ⟨v, h5, h6⟩ := opnd_ok hl hx
        cases h6 with
        | ptr p =>
          refine Quiet.pure (.ptr p) (fun _ _ _ _ _ => Qt.fa ?_ h5 rfl)
          have hne : f.2 ≠ 0 := fun e => hz (by rw [e]; rfl)
          unfold szTy at h4
          cases hi : P.info? fd.type with
          | none => simp [hi] at h4
          | some inf =>
            simp [hi] at h4
            simp [fldOff, h1, h2, hi, h4, hne, h3]
    · simp at h
  · simp at h
theorem bin_ok (hT : TOk P TT) (hl : LR φ env l) {op : BinOp} {t ty' : TypeId} {x y : Operand} (h : qBin TT env op t x y = some u) : Quiet P φ mem env A l (.binOp op t x y ty') u := by
  unfold qBin at h
  split at h
  · rename_i a ha
    split at h
    · rename_i b hb
      obtain ⟨v, h1, h2⟩ := opnd_ok hl ha
      obtain ⟨z, h3, h4⟩ := opnd_ok hl hb
      obtain ⟨r, h5, h6⟩ := binX_ok hT h2 h4 h
      exact Quiet.pure h5 (fun _ _ _ _ _ => Qt.binA (fun w => h6 w x y) h1 h3)
    · simp at h
  · simp at h
theorem un_ok (hl : LR φ env l) {op : UnOp} {t : TypeId} {x : Operand} (h : qUn env op x = some u) : Quiet P φ mem env A l (.unOp op t x) u := by
  unfold qUn at h
  split at h
  · rename_i a ha
    obtain ⟨v, h1, h2⟩ := opnd_ok hl ha
    cases op <;> simp only [unX] at h <;> try (simp at h; done)
    split at h
    · cases h2
      simp only [Option.some.injEq] at h
      subst h
      exact Quiet.pure .bool (fun _ _ _ _ _ => Qt.un (fun _ => not_run) h1)
    · simp at h
  · simp at h
theorem p1_plain {t : TypeId} (h : p1 P t = true) (hs : szTy P t = some 1) : plainTy P t = true := by
  unfold p1 at h
  rw [hs] at h
  exact h
theorem run_part {t : TypeId} {cs : Array Value} {o : Nat} {v : Value} {w : World} (hp : plainTy P t = true) (hv : cs[o]? = some v) : (part t cs o).run P w = .ok v w := by
  unfold part
  simp [run_isAgg_plain hp, hv, Sem.run, pure]
theorem field_ok (hT : TOk P TT) (hl : LR φ env l) {s i : Nat} {x : Operand} (h : qField TT env s x i = some u) : Quiet P φ mem env A l (.field s x i) u := by
  unfold qField at h
  split at h
  · rename_i us hx
    split at h
    · rename_i f hf
      rw [cond_eq_ite] at h
      split at h
      · rename_i hz
        obtain ⟨fs, fd, h1, h2, h3, h4, h5⟩ := fld_ok hT hf
        obtain ⟨v, h6, h7⟩ := opnd_ok hl hx
        simp only [Bool.and_eq_true, Bool.not_eq_true'] at hz
        rw [Nat.eq_of_beq_eq_true hz.1] at h4
        cases h7 with
        | @agg _ vs p =>
          obtain ⟨y, h8, h9⟩ := p.get h
          refine Quiet.pure h9 (fun dst ty pos af g a w R F ha _ _ => ?_)
          have hp := run_part (P := P) (w := w) (cs := vs.toArray) (o := fd.offset) (v := y) (p1_plain (h5 hz.2) h4) (by rw [h3]; simpa using h8)
          simp [execOp, ha.ev h6, Instr.field, Sl.run_underlying h1, h2, asAgg, hp, Pure.pure, Sem.run]
      · simp at h
    · simp at h
  · simp at h
theorem ia_ok (hT : TOk P TT) (hl : LR φ env l) {t : Nat} {x y : Operand} (h : qIndexAddr TT env t x y = some u) : Quiet P φ mem env A l (.indexAddr t x y) u := by
  unfold qIndexAddr at h
  split at h
  · rename_i c hc
    obtain ⟨v, h1, h2⟩ := opnd_ok hl hc
    split at h
    · rename_i n hn
      obtain ⟨k, h3⟩ := nat_ok hl hn
      split at h
      · rw [cond_eq_ite] at h
        split at h
        · rename_i hlt
          split at h
          · rename_i z hz
            simp only [Option.some.injEq] at h
            subst h
            obtain ⟨e, he, hsz⟩ := hT.elsz hz
            cases h2 with
            | sl p q =>
              refine Quiet.pure (.ptr p) (fun dst ty pos af g => ?_)
              have := Qt.ia (P := P) (l := l) (A := []) (dst := dst) (ty := ty) (pos := pos) (af := af) (g := g) he hsz h1 h3 (by omega) (by have := Nat.le_of_ble_eq_true hlt; omega)
              simpa using this
          · simp at h
        · simp at h
      · rw [cond_eq_ite] at h
        split at h
        · rename_i hlt
          split at h
          · rename_i z hz
            simp only [Option.some.injEq] at h
            subst h
            obtain ⟨e, he, hsz⟩ := hT.elsz hz
            cases h2 with
            | sub p q =>
              refine Quiet.pure (.ptr p) (fun dst ty pos af g => ?_)
              have := Qt.ia (P := P) (l := l) (A := []) (dst := dst) (ty := ty) (pos := pos) (af := af) (g := g) he hsz h1 h3 (by omega) (by have := Nat.le_of_ble_eq_true hlt; omega)
              simpa using this
          · simp at h
        · simp at h
      · split at h
        · rename_i ti hti
          split at h
          · rename_i ar har
            rw [cond_eq_ite] at h
            split at h
            · rename_i hlt
              split at h
              · rename_i z hz
                simp only [Option.some.injEq] at h
                subst h
                cases h2 with
                | ptr p =>
                  refine Quiet.pure (.ptr p) (fun dst ty pos af g => ?_)
                  have := Qt.ia_arr (P := P) (l := l) (A := []) (dst := dst) (ty := ty) (pos := pos) (af := af) (g := g) (hT.isArr hti har).1 (hT.sz hz) h1 h3 (by omega) (by have := Nat.le_of_ble_eq_true hlt; omega)
                  simpa using this
              · simp at h
            · simp at h
          · simp at h
        · simp at h
      · simp at h
    · simp at h
  · simp at h
theorem byteAt_strOf {s : List Nat} {n c : Nat} (hn : s[n]? = some c) (hc : Nat.blt c 256 = true) : byteAt (strOf s) (n : Int) = (c : Int) := by
  have h1 : c < 256 := Nat.le_of_ble_eq_true hc
  have h2 : (strOf s)[n]? = some c.toUInt8 := by
    have hlt : n < s.length := (List.getElem?_eq_some_iff.1 hn).1
    have hlt2 : n < (strOf s).size := by rw [strOf_size]; exact hlt
    rw [getElem?_pos (strOf s) n hlt2]
    congr 1
    have : (strOf s)[n] = (s.map Nat.toUInt8)[n]'(by simpa using hlt) := by
      show (strOf s).data[n] = _
      simp [strOf]
    rw [this, List.getElem_map]
    congr 1
    have := List.getElem?_eq_some_iff.1 hn
    exact this.2
  simp only [byteAt, Int.toNat_natCast, h2, Option.getD_some]
  simp
  omega
theorem idx_ok (hT : TOk P TT) (hl : LR φ env l) {t : Nat} {x y : Operand} (h : qIndex TT env t x y = some u) : Quiet P φ mem env A l (.index t x y) u := by
  unfold qIndex at h
  split at h
  · rename_i c hc
    obtain ⟨v, h1, h2⟩ := opnd_ok hl hc
    split at h
    · rename_i n hn
      obtain ⟨k, h3⟩ := nat_ok hl hn
      cases h2 with
      | @str s =>
        simp only [] at h
        split at h
        · rename_i b hb
          rw [cond_eq_ite] at h
          split at h
          · rename_i hcc
            simp only [Bool.and_eq_true] at hcc
            simp only [Option.some.injEq] at h
            subst h
            have hlt : n < s.length := (List.getElem?_eq_some_iff.1 hb).1
            refine Quiet.pure .int (fun dst ty pos af g => ?_)
            have := Qt.idx_str (P := P) (l := l) (A := []) (dst := dst) (ty := ty) (pos := pos) (af := af) (g := g) (hT.isStr hcc.2) (by omega) (by rw [strOf_size]; omega) h1 h3
            rw [byteAt_strOf hb hcc.1] at this
            exact this
          · simp at h
        · simp at h
      | @agg us vs p =>
        simp only [] at h
        split at h
        · rename_i ti hti
          split at h
          · rename_i ar har
            rw [cond_eq_ite] at h
            split at h
            · rename_i hlt
              split at h
              · rename_i z hz
                rw [cond_eq_ite] at h
                split at h
                · rename_i hz1
                  have e1 := Nat.eq_of_beq_eq_true hz1
                  subst e1
                  obtain ⟨y', h4, h5⟩ := p.get h
                  obtain ⟨h6, h7⟩ := hT.isArr hti har
                  refine Quiet.pure h5 (fun dst ty pos af g a w R F ha _ _ => ?_)
                  have hlt' : (n : Int) < (ar.1 : Int) := by have := Nat.le_of_ble_eq_true hlt; omega
                  have hp := run_part (P := P) (w := w) (cs := vs.toArray) (o := n) (v := y') (p1_plain h7 (hT.sz hz)) (by simpa using h4)
                  simp [execOp, ha.ev h1, ha.ev h3, Instr.index, asIntOf, Sl.run_underlying h6, hlt', Sl.run_sizeOf (hT.sz hz), hp, Pure.pure, Sem.run]
                · simp at h
              · simp at h
            · simp at h
          · simp at h
        · simp at h
      | _ => simp at h
    · simp at h
  · simp at h
theorem load_ok (hT : TOk P TT) (hl : LR φ env l) (hm : MR φ mem A) (hf : Fun φ) {t : Nat} {x : Operand} (h : qLoad TT mem env t x = some u) : Quiet P φ mem env A l (.load t x) u := by
  unfold qLoad at h
  split at h
  · rename_i k o hx
    obtain ⟨v, h1, h2⟩ := opnd_ok hl hx
    cases h2 with
    | @ptr _ _ b c hb =>
      have hfe : ∃ e, Xe.find mem k = some e := by
        unfold loadX at h
        split at h
        · split at h
          · rename_i e he; exact ⟨e, he⟩
          · simp at h
        · simp at h
      obtain ⟨e, he⟩ := hfe
      obtain ⟨i, p, A', h3, h4⟩ := hm.find he
      obtain ⟨b', c', vs, h5, h6, h7, h8⟩ := id h4
      obtain ⟨rfl, rfl⟩ := hf _ _ _ _ _ hb h5
      obtain ⟨r, h9, h10⟩ := load_run (b := b) (c := c) (T := e.T) (sz := e.sz) hT he h6 h h1
      exact ⟨r, [p], h9, ⟨.inr ⟨i, p, A', k, e, h3, he, h4, rfl, fun _ => by simp [readsX, hx]⟩⟩, by rw [h8]; exact h10⟩
  · simp at h
theorem push_fold : ∀ (ns : List Int) (acc : ByteArray), ns.foldl (fun r n => r.push (UInt8.ofNat n.toNat)) acc = acc ++ strOf (ns.map Int.toNat)
  | [], acc => by apply ByteArray.ext; simp [strOf]
  | n :: ns, acc => by
    rw [List.foldl_cons, push_fold ns]
    apply ByteArray.ext
    simp [strOf, Nat.toUInt8_eq]
theorem bytes_ok : ∀ {us : List V} {vs : List Value} {s : List Nat}, VRs φ us vs → bytesX us = some s → ∃ ns : List Int, vs = ns.map (Value.int .u8) ∧ s = ns.map Int.toNat
  | _, _, s, .nil, h => by simp [bytesX] at h; subst h; exact ⟨[], rfl, rfl⟩
  | _, _, s, .cons p q, h => by
    cases p with
    | @int k n =>
      cases k <;> simp only [bytesX] at h <;> try (simp at h; done)
      split at h
      · rename_i m hm
        rw [cond_eq_ite] at h
        split at h
        · simp only [Option.some.injEq] at h
          subst h
          obtain ⟨ns, h1, h2⟩ := bytes_ok q hm
          exact ⟨n :: ns, by simp [h1], by simp [h2]⟩
        · simp at h
      · simp at h
    | _ => simp [bytesX] at h
theorem u8_ok (hT : TOk P TT) {t : Nat} (h : u8X TT t = true) : ∃ e, P.underlying t = some (.slice e) ∧ P.underlying e = some (.int .u8) := by
  unfold u8X at h
  split at h
  · rename_i e he
    refine ⟨e, hT.el he, ?_⟩
    unfold tyIs at h
    split at h
    · rename_i i hi
      dsimp only at h
      split at h
      · rename_i k hk
        rw [← beqK_eq h]
        exact hT.isInt hi hk
      · simp at h
    · simp at h
  · simp at h
theorem isInt_ok (hT : TOk P TT) {t : Nat} (h : tyIs TT (fun i => i.int.isSome) t = true) : ∃ k, P.underlying t = some (.int k) := by
  unfold tyIs at h
  split at h
  · rename_i i hi
    obtain ⟨k, hk⟩ := Option.isSome_iff_exists.1 h
    exact ⟨k, hT.isInt hi hk⟩
  · simp at h
theorem wrap_u8 {n : Int} : IntKind.u8.wrap n = n % 256 := by
  simp [IntKind.wrap, IntKind.signed, IntKind.bits]
theorem conv_ok (hT : TOk P TT) (hl : LR φ env l) (hm : MR φ mem A) (hf : Fun φ) {s d : Nat} {x : Operand} (h : qConv TT mem env s d x = some u) : Quiet P φ mem env A l (.convert s d x) u := by
  unfold qConv at h
  split at h
  · rename_i k n hx
    obtain ⟨v, h1, h2⟩ := opnd_ok hl hx
    cases h2
    rw [cond_eq_ite] at h
    split at h
    · simp at h
    · rename_i hi
      obtain ⟨sk, hs⟩ := isInt_ok hT (by simpa using hi)
      split at h
      · rename_i t ht
        split at h
        · rename_i dk hdk
          have hd := hT.isInt ht hdk
          have key : VR φ u (.int dk (dk.wrap n)) := by
            unfold convI at h
            cases dk <;> simp only [] at h <;> try (simp at h; done)
            · obtain ⟨rfl, e⟩ := num_ok h; rw [e]; exact .int
            · rw [cond_eq_ite] at h
              split at h
              · obtain ⟨rfl, e⟩ := num_ok h; rw [wrap_u8]; exact .int
              · simp at h
            · obtain ⟨rfl, e⟩ := num_ok h; rw [e]; exact .int
          exact Quiet.pure key (fun _ _ _ _ _ => Qt.conv (fun _ => conv_run hs hd) h1)
        · simp at h
      · simp at h
  · rename_i k len hx
    obtain ⟨v, h1, h2⟩ := opnd_ok hl hx
    rw [cond_eq_ite] at h
    split at h
    · simp at h
    · rename_i hi
      obtain ⟨e, he1, he2⟩ := u8_ok hT (by simpa using hi)
      split at h
      · rename_i t ht
        rw [cond_eq_ite] at h
        split at h
        · rename_i hstr
          split at h
          · rename_i en hen
            rw [cond_eq_ite] at h
            split at h
            · rename_i hc
              simp only [Bool.and_eq_true] at hc
              split at h
              · rename_i bs hbs
                simp only [Option.some.injEq] at h
                subst h
                have hstr2 : P.underlying d = some .string := hT.isStr (by simp [tyIs, ht, hstr])
                cases h2 with
                | @sl _ _ b c p q =>
                  obtain ⟨i, pp, A', h3, h4⟩ := hm.find hen
                  obtain ⟨b', c', vs, h5, h6, h7, h8⟩ := id h4
                  obtain ⟨rfl, rfl⟩ := hf _ _ _ _ _ p h5
                  obtain ⟨ns, h9, h10⟩ := bytes_ok (VRs.take len h6) hbs
                  have hle := Nat.le_of_ble_eq_true hc.1
                  have hlen : en.cs.length = vs.length := h6.length
                  refine ⟨_, [pp], .str, ⟨.inr ⟨i, pp, A', k, en, h3, hen, h4, rfl, fun hq => by simp [isQuiet] at hq⟩⟩, fun dst ty pos af g a w R F ha _ hs => ?_⟩
                  rw [h8] at hs
                  obtain ⟨F1, F2, _, _, _, g4, _⟩ := hs
                  have hl2 : (loadCells ⟨b, 0, none⟩ len).run P w = .ok (ns.map (Value.int .u8)).toArray w := by
                    have hk : (vs.take len).length = len := by rw [List.length_take]; omega
                    rw [← h9]
                    conv => lhs; rw [← hk]
                    refine run_loadCells_list w _ _ (fun j v hj => ?_)
                    rw [add_none, Nat.zero_add]
                    rw [List.getElem?_take] at hj
                    split at hj
                    · exact EntH.cell g4 hj
                    · simp at hj
                  have hb := run_bytesToString w ⟨b, 0, none⟩ len c ns hl2
                  rw [push_fold] at hb
                  have e0 : ByteArray.empty ++ strOf (ns.map Int.toNat) = strOf bs := by rw [h10]; apply ByteArray.ext; simp
                  rw [e0] at hb
                  simp [execOp, ha.ev h1, run_convert_bytes_string w s d e _ _ _ he1 he2 hstr2, hb, Pure.pure, Sem.run]
              · simp at h
            · simp at h
          · simp at h
        · simp at h
      · simp at h
  · simp at h
theorem places_get {z : Nat} : ∀ {n o i : Nat} {f : Nat × Nat}, (placesX z n o)[i]? = some f → f = (o + i * z, z)
  | 0, _, _, _, h => by simp [placesX] at h
  | n + 1, o, 0, f, h => by simp [placesX] at h; rw [← h]; simp
  | n + 1, o, i + 1, f, h => by
    simp only [placesX, List.getElem?_cons_succ] at h
    rw [places_get h, Nat.add_mul]
    congr 1
    omega
theorem fill_places {pl : Nat → Option (Nat × Nat)} {q : Nat → Option (Nat × Nat)} (hpq : ∀ i f, pl i = some f → q i = some f) : ∀ {vs : List (Nat × Value)} {ds es : List Value}, fillL pl ds vs = some es → fillL q ds vs = some es
  | [], _, _, h => h
  | (i, v) :: vs, ds, es, h => by
    simp only [fillL] at h ⊢
    split at h
    · simp at h
    · rename_i f hf
      rw [hpq _ _ hf]
      split at h
      · rename_i hc
        simp only [hc, if_true]
        exact fill_places hpq h
      · simp at h
theorem Qt.buildA {dst : Option Tmp} {ty t e n k : Nat} {pos : String} {af : Array Edge} {g : Option (Nat × Bool)} {ps : List (Nat × Operand)} {vs : List (Nat × Value)} {zs cs : List Value} (hu : P.underlying t = some (.array n e)) (hk : szTy P e = some k) (hz : zeroTy P t = some zs) (hx : evps l ps = some vs)
    (hf : fillL (fun i => some (i * k, k)) zs vs = some cs) : Qt P l A ⟨dst, .build t ps.toArray, ty, pos, af, g⟩ (.agg cs.toArray) := by
  intro a w _ _ hl _ _
  have e : (ps.toArray.map fun (i, x) => (i, a.eval x)) = vs.toArray := by rw [← hl.evps hx]; simp
  obtain ⟨v, hv1, hv2⟩ := run_zero (w := w) hz
  have h2 := fill_eq hf
  have h3 : v.cells = zs.toArray := by rw [← hv1]
  simp [execOp, e, Instr.build, hv2, Sl.run_underlying hu, h3, Sl.run_sizeOf hk, h2, Pure.pure, Sem.run]
theorem build_ok (hT : TOk P TT) (hl : LR φ env l) {t : Nat} {ps : List (Nat × Operand)} (h : qBuild TT env t ps = some u) : Quiet P φ mem env A l (.build t ps.toArray) u := by
  unfold qBuild at h
  split at h
  · rename_i ti hti
    split at h
    · rename_i us hus
      split at h
      · rename_i rs hrs
        rw [cond_eq_ite] at h
        split at h
        · rename_i hag
          simp only [Option.some.injEq] at h
          subst h
          obtain ⟨_, hagg, _, ⟨zs, hz, hzv⟩, h5, _⟩ := hT.all hti
          obtain ⟨vs, h1, h2, h3⟩ := parts_ok hl hus
          obtain ⟨es, h6, h7⟩ := fill_ok h2 h3 (hzv φ) hrs
          have hag2 := hagg hag
          unfold aggTy at hag2
          unfold fldsOk at h5
          split at h5
          · rename_i fs hu
            split at h5
            · rename_i pl hpl
              simp only [Bool.and_eq_true] at h5
              rw [← eqPl_eq h5.1.1.1] at h6
              exact Quiet.pure (.agg h7) (fun _ _ _ _ _ => Qt.build hpl hz h1 h6)
            · simp at h5
          · rename_i n e hu
            split at h5
            · rename_i z hsz
              simp only [Bool.and_eq_true] at h5
              rw [← eqPl_eq h5.1.1.1] at h6
              refine Quiet.pure (.agg h7) (fun _ _ _ _ _ => Qt.buildA hu hsz hz h1 (fill_places (fun i f hf => ?_) h6))
              rw [places_get hf]
              simp
            · simp at h5
          · simp_all
          · split at hag2
            · simp_all
            · simp_all
            · simp at hag2
        · simp at h
      · simp at h
    · simp at h
  · simp at h
theorem func_ok (hl : LR φ env l) {f : Nat} {first : List Operand} {captured : Array Operand} (h : qFunc env f first captured.size = some u) : Quiet P φ mem env A l (.makeFunc (.func f) first.toArray captured) u := by
  unfold qFunc at h
  rw [cond_eq_ite] at h
  split at h
  · rename_i hn
    split at h
    · rename_i us hus
      simp only [Option.some.injEq] at h
      subst h
      obtain ⟨vs, h1, h2⟩ := opnds_ok hl hus
      refine Quiet.pure (.fn h2) (fun dst ty pos af g a w R F ha _ _ => ?_)
      have hc : captured = #[] := Array.eq_empty_of_size_eq_zero (Nat.eq_of_beq_eq_true hn)
      subst hc
      have := ha.evs h1
      simp [execOp, Instr.makeFunc, this, Pure.pure, Sem.run]
    · simp at h
  · simp at h
theorem slice_ok (hT : TOk P TT) (hl : LR φ env l) {t : Nat} {x : Operand} {lo hi : Option Operand} (h : qSlice TT env t x lo hi = some u) : Quiet P φ mem env A l (.slice t x lo hi none) u := by
  unfold qSlice at h
  split at h
  · rename_i c hc
    obtain ⟨v, h1, h2⟩ := opnd_ok hl hc
    exact cut_ok hT hl h2 h1 h
  · simp at h
theorem map_ok (hT : TOk P TT) {t : Nat} {ti : Ty} {z : V} (ht : TT t = some ti) (hz : ti.mapz = some z) : ∃ k e ik v, P.underlying t = some (.map k e) ∧ P.underlying k = some (.int ik) ∧ (∀ (w : World), (zeroValue e).run P w = .ok v w) ∧ ∀ φ, VR φ z v := by
  have h6 := (hT.all ht).2.2.2.2.2
  unfold kindOk at h6
  split at h6 <;> try (simp [hz] at h6; done)
  rename_i k e hu
  simp only [Bool.and_eq_true] at h6
  obtain ⟨_, h7⟩ := h6
  rw [hz] at h7
  simp only [Bool.and_eq_true] at h7
  obtain ⟨h1, h2⟩ := h7
  split at h1
  · rename_i ik hik
    split at h2
    · rename_i f hf
      split at h2
      · rename_i v hv
        split at h2
        · rename_i u' hu'
          refine ⟨k, e, ik, v, hu, hik, fun w => ?_, fun φ => ?_⟩
          · simp [zeroValue, typeInfo, program, Sem.run, hf, pure, hv]
          · rw [← same_eq h2]
            exact enc_ok v hu'
        · simp at h2
      · simp at h2
    · simp at h2
  · simp at h1
theorem checkKey_int {kt : TypeId} {ik k : IntKind} {m : Int} {b : Bool} {w : World} (n : Nat) (hk : P.underlying kt = some (.int ik)) : (Instr.checkKey b (n + 1) kt (.int k m)).run P w = .ok () w := by
  simp [Instr.checkKey, Sl.run_underlying hk, Sem.run, pure]
theorem findKey_nil {kt : TypeId} {ik k : IntKind} {m : Int} {w : World} (hk : P.underlying kt = some (.int ik)) : (Instr.findKey kt (.int k m) []).run P w = .ok none w := by
  simp [Instr.findKey, Sl.run_underlying hk, Instr.findNow, Sem.run, pure]
theorem lookup_ok (hT : TOk P TT) (hl : LR φ env l) {t : Nat} {x y : Operand} (h : qLookup TT env t x y = some u) : Quiet P φ mem env A l (.lookup t x y true) u := by
  unfold qLookup at h
  split at h
  · rename_i hx
    split at h
    · rename_i k n hy
      split at h
      · rename_i ti hti
        split at h
        · rename_i z hz
          simp only [Option.some.injEq] at h
          subst h
          obtain ⟨v1, h1, h2⟩ := opnd_ok hl hx
          cases h2
          obtain ⟨v2, h3, h4⟩ := opnd_ok hl hy
          cases h4
          obtain ⟨kt, e, ik, v, h5, h6, h7, h8⟩ := map_ok hT hti hz
          refine Quiet.pure (v := .tuple #[v, .bool false]) (.tup (.cons (h8 φ) (.cons .bool .nil))) (fun dst ty pos af g a w R F ha _ _ => ?_)
          have c1 := checkKey_int (P := P) (k := k) (m := n) (b := true) (w := w) 9999 h6
          have c2 := findKey_nil (P := P) (k := k) (m := n) (w := w) h6
          simp only [execOp, ha.ev h1, ha.ev h3, Instr.lookup, Sem.run_bind, Sl.run_underlying h5, Result.andThen_ok, Sem.run_pure]
          simp only [show (#[] : Array MapEntry).isEmpty = true from rfl, show (#[] : Array MapEntry).toList = [] from rfl, c1, c2, h7, Result.andThen_ok, Sem.run_pure, Sem.run_bind, if_true]
        · simp at h
      · simp at h
    · simp at h
  · simp at h
theorem call_quiet_ok (hT : TOk P TT) (hl : LR φ env l) {c : Callee} {xs : List Operand} {ts : List Nat} (h : qCall TT env c xs ts = some u) : Quiet P φ mem env A l (.call ⟨c, xs.toArray, ts.toArray⟩) u := by
  unfold qCall at h
  split at h
  · rename_i b
    unfold qBuiltin at h
    split at h
    · rename_i us hus
      obtain ⟨vs, h1, h2⟩ := opnds_ok hl hus
      split at h
      · split at h
        · split at h
          · cases h2 with
            | cons p q =>
              cases q
              obtain ⟨r, h3, h4⟩ := len_ok hT p h
              exact Quiet.pure h3 (fun dst ty pos af g => Qt.bi (fun w cs => h4 w ty cs) h1)
          · simp at h
        · simp at h
      · split at h
        · split at h
          · cases h2 with
            | cons p q =>
              cases q
              cases p
              unfold onTy at h
              rw [cond_eq_ite] at h
              split at h
              · rename_i hs
                obtain ⟨e, he⟩ := hT.isSl hs
                simp only [Option.some.injEq] at h
                subst h
                refine Quiet.pure (v := .int .i64 0) .int (fun dst ty pos af g => Qt.bi (fun w cs => ?_) h1)
                simp [builtin, Builtin.cap_, Sl.run_underlying he, goInt, Sem.run, Pure.pure]
              · simp at h
          · simp at h
        · simp at h
      · unfold minX at h
        split at h
        · cases h2 with
          | cons p q =>
            cases q with
            | cons p2 q2 =>
              cases q2
              cases p
              cases p2
              rename_i a b
              refine Quiet.pure (v := .int .i64 (min a b)) ?_ (fun dst ty pos af g => Qt.bi (fun w cs => min_run) h1)
              simp only [leZ_iff, cond_eq_ite] at h
              split at h <;> rename_i hc <;> simp at hc <;> simp only [Option.some.injEq] at h <;> subst h
              · rw [Int.min_eq_left hc]; exact .int
              · rw [Int.min_eq_right (by omega)]; exact .int
        · simp at h
      · unfold minX at h
        split at h
        · cases h2 with
          | cons p q =>
            cases q with
            | cons p2 q2 =>
              cases q2
              cases p
              cases p2
              rename_i a b
              refine Quiet.pure (v := .int .i64 (max a b)) ?_ (fun dst ty pos af g => Qt.bi (fun w cs => max_run) h1)
              simp only [leZ_iff, cond_eq_ite] at h
              split at h <;> rename_i hc <;> simp at hc <;> simp only [Option.some.injEq] at h <;> subst h
              · rw [Int.max_eq_left (by omega)]; exact .int
              · rw [Int.max_eq_right (by omega)]; exact .int
        · simp at h
      · simp at h
    · simp at h
  · simp at h
/-- All that is quiet. -/
theorem quiet_ok (hT : TOk P TT) (hl : LR φ env l) (hm : MR φ mem A) (hf : Fun φ) {op : Op} (h : quietX TT mem env op = some u) : Quiet P φ mem env A l op u := by
  unfold quietX at h
  split at h
  · obtain ⟨v, h1, h2⟩ := opnd_ok hl h
    exact Quiet.pure h2 (fun _ _ _ _ _ => Qt.move h1)
  · obtain ⟨v, h1, h2⟩ := opnd_ok hl h
    exact Quiet.pure h2 (fun _ _ _ _ _ => Qt.assign h1)
  · exact pick_ok hl h
  · exact extract_ok hl h
  · exact nck_ok hl h
  · exact fa_ok hT hl h
  · exact field_ok hT hl h
  · exact load_ok hT hl hm hf h
  · exact ia_ok hT hl h
  · exact idx_ok hT hl h
  · exact bin_ok hT hl h
  · exact un_ok hl h
  · exact conv_ok hT hl hm hf h
  · exact build_ok hT hl h
  · exact func_ok hl h
  · exact slice_ok hT hl h
  · exact lookup_ok hT hl h
  · exact call_quiet_ok hT hl h
  · simp at h
end
end Go.Proofs.YthjbkngecgbioaaGreatDoor.Xe

/- The evaluator tells the truth: what else turns memory; calls. -/
namespace Go.Proofs.YthjbkngecgbioaaGreatDoor.Xe
open Go Go.Proofs.YthjbkngecgbioaaGreatDoor.Sl

section
variable {P : Program} {TT : Nat → Option Ty} {φ : Nm} {mem mem' : Mem} {env : Vars} {A A' : List HP} {l : Env} {u : V} {dst : Option Tmp} {ty : TypeId} {pos : String} {af : Array Edge} {g : Option (Nat × Bool)} {w : World} {n lo lo' hi : Nat} {C : Ctx}
/-- As 'O1.loc'; what is not touched may be looked at. -/
theorem O1.locA {o : Oper} {q : Value → List HP → Prop} (is : List Nat) {L : List HP} (ht : takes is A = some (L, A')) (q0 : Value → List HP → Prop)
    (hop : ∀ a w R F F1, Holds a l → Ok w R F → Star A w R F → Ok w R F1 → Star L w R F1 → ∃ v L' w', q0 v L' ∧ ((execOp a.eval o).run P w = .ok (.value v) w' ∨ (execOp a.eval o).run P w = .ok .skip w' ∧ v = undef) ∧ Turns w R F1 w' L')
    (hq : ∀ v L', q0 v L' → q v (L' ++ A')) : O1 P n C l A o q := by
  intro a w i K Q hK
  obtain ⟨R, F, s, ok, st⟩ := i.mem
  obtain ⟨F1, F2, h1, h2, hdj, s1, s2⟩ := Star.split (takes_star ht st)
  obtain ⟨v, L', w', hq0, hrun, htu⟩ := hop a w R F F1 i.holds ok st ⟨ok.r, fun b hb => ok.f b (h1 b hb), fun b hb hF => ok.d b hb (h1 b hF)⟩ s1
  obtain ⟨R', F', s', o', st'⟩ := Turns.frame ok h1 h2 hdj htu s2
  have key : K (a.put o.dst v) w' := by
    refine hK v _ w' (hq v L' hq0) (fun d hd hdn => ?_) (fun hd => ?_)
    · rw [hd]
      exact (Inv.put (A := L' ++ A') (w := w') ⟨i.size, i.defers, i.holds, R', F', s.trans s', o', st'⟩ hdn v)
    · rw [hd]
      exact ⟨i.size, i.defers, i.holds, R', F', s.trans s', o', st'⟩
  unfold Oper.wp
  rcases hrun with hrun | ⟨hrun, rfl⟩
  · rw [hrun]; exact key
  · rw [hrun]; exact key
theorem O1.mono {o : Oper} {q q' : Value → List HP → Prop} (h : O1 P n C l A o q) (hq : ∀ v B, q v B → q' v B) : O1 P n C l A o q' :=
  fun a w i K Q hK => h a w i K Q fun v B w' h1 h2 h3 => hK v B w' (hq v B h1) h2 h3
theorem rep_eq (z : List Value) : ∀ n, (List.replicate n z).flatten.length = n * z.length
  | 0 => by simp
  | n + 1 => by simp
/-- Cells of a zero value, again and again. -/
theorem made_eq {zz : Array Value} {sz : Nat} (hs : zz.size = sz) (m : Nat) (zc : Array Value) (h0 : m * sz ≠ 0 → zc = zz) : ((Array.range (m * sz)).map (zc[· % zc.size]!)) = (List.flatten (List.replicate m zz.toList)).toArray := by
  by_cases hm0 : m * sz = 0
  · have : (List.flatten (List.replicate m zz.toList)) = [] := by
      apply List.eq_nil_of_length_eq_zero
      rw [rep_eq]; simp [hs, hm0]
    rw [this, hm0]; simp
  · rw [h0 hm0]
    have hzl : zz.toList.length = sz := by simp [hs]
    apply Array.ext'
    simp only [Array.toList_map, Array.toList_range, hs]
    apply List.ext_getElem?
    intro i
    rw [List.getElem?_map]
    by_cases hi2 : i < m * sz
    · rw [List.getElem?_range hi2]
      simp only [Option.map_some]
      have hpos : 0 < sz := Nat.pos_of_ne_zero (fun e => hm0 (by rw [e]; simp))
      have key : ∀ (m i : Nat), i < m * sz → (List.flatten (List.replicate m zz.toList))[i]? = zz.toList[i % sz]? := by
        intro m
        induction m with
        | zero => intro i h; simp at h
        | succ m ih =>
          intro i h
          rw [List.replicate_succ, List.flatten_cons]
          by_cases hlt : i < sz
          · rw [List.getElem?_append_left (by omega), Nat.mod_eq_of_lt hlt]
          · have e2 : i % sz = (i - sz) % sz := Nat.mod_eq_sub_mod (by omega)
            rw [List.getElem?_append_right (by omega), hzl, ih (i - sz) (by rw [Nat.add_mul] at h; omega), e2]
      rw [key m i hi2]
      have hmod : i % sz < zz.size := by rw [hs]; exact Nat.mod_lt _ hpos
      simp [hmod]
    · rw [List.getElem?_eq_none (by simpa using hi2), List.getElem?_eq_none (by rw [rep_eq, hzl]; omega)]
      rfl
theorem lit_ok (hT : TOk P TT) (hf : Fun φ) (hfr : Fresh φ lo hi) (hm : MR φ mem A) (hl : LR φ env l) {t len : Nat} {ps : List (Nat × Operand)} {r : Res} (h : eLit TT mem env lo t len ps = some r) (hlo : r.2.2 ≤ hi) : O1 P n C l A ⟨dst, .buildSlice t len ps.toArray, ty, pos, af, g⟩ (EffPost φ lo r.2.2 r.1 r.2.1) := by
  unfold eLit at h
  split at h
  · rename_i e he
    split at h
    · rename_i ei hei
      split at h
      · rename_i us hus
        rw [cond_eq_ite] at h
        split at h
        · rename_i hle
          split at h
          · rename_i cs hcs
            obtain ⟨h1, rfl⟩ := newX_eq h
            have hu := hT.el he
            obtain ⟨inf, z, i1, i2, i3, i4, i5, i6, i7⟩ := hT.info hei
            have hsz : szTy P e = some ei.size := (hT.all hei).2.2.1
            obtain ⟨vs, h2, h3, h4⟩ := parts_ok hl hus
            obtain ⟨rz, h5, rfl⟩ := VRs.rep (i6 φ) len
            obtain ⟨es, h6, h7⟩ := fill_ok h3 h4 h5 hcs
            have h8 := fill_places (q := fun i => some (i * ei.size, ei.size)) (fun i f hf => by rw [places_get hf]; simp) h6
            have h9 := fill_eq h8
            simp only [Bool.and_eq_true] at hle
            have hle' := Nat.le_of_ble_eq_true hle.1
            have hle2 := Nat.le_of_ble_eq_true hle.2
            have hlen : es.length = len * ei.size := by
              have key : ∀ (pl : Nat → Option (Nat × Nat)) (ps : List (Nat × Value)) (ds es : List Value), fillL pl ds ps = some es → es.length = ds.length := by
                intro pl ps
                induction ps with
                | nil => intro ds es h; simp [fillL] at h; rw [h]
                | cons p ps ih =>
                  intro ds es h
                  obtain ⟨i, v⟩ := p
                  simp only [fillL] at h
                  split at h
                  · simp at h
                  · split at h
                    · rw [ih _ _ h, putL_length]
                    · simp at h
              rw [key _ _ _ _ h8, rep_eq]; simp [i5]
            refine O1.newE (c := len) hf hfr (by simp at hlo; omega) hm h7 h1 (by unfold maxLen; omega) (fun b => ⟨_, .sl (.inr ⟨rfl, rfl, rfl⟩) (Nat.le_refl _), fun a w ha hb => ?_⟩)
            subst hb
            refine ⟨es.toArray, by simp [hlen], by simp, by simp, ?_⟩
            have e1 : (ps.toArray.map fun (i, x) => (i, a.eval x)) = vs.toArray := by rw [← ha.evps h2]; simp
            have hgt : ¬ (len * ei.size > 2 ^ 24) := by omega
            simp only [execOp, e1, Instr.buildSlice, Sem.run_bind, Sl.run_underlying hu, Result.andThen_ok, Sl.run_sizeOf hsz]
            rw [if_neg hgt]
            by_cases hm0 : len * ei.size = 0
            · simp only [Sem.run_bind, Sem.run_pure, Result.andThen_ok, hm0, if_true]
              have := made_eq i5 len #[] (fun h => absurd hm0 h)
              rw [hm0] at this
              rw [this]
              simp [h9, newRow, newObj, Sem.run, Pure.pure]
            · simp only [Sem.run_bind, Sem.run_pure, Result.andThen_ok, hm0, if_false, i7]
              rw [made_eq i5 len z.cells (fun _ => rfl)]
              simp [h9, newRow, newObj, Sem.run, Pure.pure]
          · simp at h
        · simp at h
      · simp at h
    · simp at h
  · simp at h
theorem make_ok (hT : TOk P TT) (hf : Fun φ) (hfr : Fresh φ lo hi) (hm : MR φ mem A) (hl : LR φ env l) {t : Nat} {x y : Operand} {r : Res} (h : eMake TT mem env lo t x y = some r) (hlo : r.2.2 ≤ hi) : O1 P n C l A ⟨dst, .makeSlice t x y, ty, pos, af, g⟩ (EffPost φ lo r.2.2 r.1 r.2.1) := by
  unfold eMake at h
  split at h
  · rename_i nl hx
    split at h
    · rename_i nc hy
      rw [cond_eq_ite] at h
      split at h
      · rename_i hc
        simp only [posZ_iff, leZ_iff, Bool.and_eq_true, decide_eq_true_eq] at hc
        split at h
        · rename_i e he
          split at h
          · rename_i ei hei
            obtain ⟨h1, rfl⟩ := newX_eq h
            have hu := hT.el he
            obtain ⟨inf, z, i1, i2, i3, i4, i5, i6, i7⟩ := hT.info hei
            obtain ⟨vx, h2, h3⟩ := opnd_ok hl hx
            obtain ⟨vy, h4, h5⟩ := opnd_ok hl hy
            cases h3
            cases h5
            obtain ⟨rz, h6, rfl⟩ := VRs.rep (i6 φ) nc.toNat
            have hsz : (List.replicate nc.toNat z.cells.toList).flatten.length = nc.toNat * ei.size := by rw [rep_eq]; simp [i5]
            refine O1.newE (c := nc.toNat) hf hfr (by simp at hlo; omega) hm h6 h1 (by unfold maxLen; omega) (fun b => ⟨_, .sl (.inr ⟨rfl, rfl, rfl⟩) (by omega), fun a w ha hb => ?_⟩)
            subst hb
            refine ⟨madeCells z.cells (nc.toNat * inf.size), by rw [size_madeCells, i3], by rw [size_madeCells, hsz, i3]; exact Nat.le_refl _, ?_, ?_⟩
            · have := made_eq i5 nc.toNat z.cells (fun _ => rfl)
              unfold madeCells
              rw [i3, this]
              exact List.take_length
            · have hb2 : (inf.bytes : Int) * nc ≤ 281474976710656 := by
                have h7 : (inf.bytes : Int) ≤ 65536 := by omega
                calc (inf.bytes : Int) * nc ≤ 65536 * 65536 := Int.mul_le_mul h7 hc.2 (by omega) (by omega)
                  _ ≤ 281474976710656 := by omega
              have hrun := run_make (P := P) w t e inf z hu i1 i2 .i64 .i64 nl nc hc.1.1 hc.1.2 hb2 (by omega)
              simp [execOp, ha.ev h2, ha.ev h4, hrun, Pure.pure, Sem.run]
          · simp at h
        · simp at h
      · simp at h
    · simp at h
  · simp at h
theorem makeMap_ok (hf : Fun φ) (hfr : Fresh φ lo hi) (hm : MR φ mem A) {t : Nat} (hlo : lo + 1 ≤ hi) : O1 P n C l A ⟨dst, .makeMap t none, ty, pos, af, g⟩ (EffPost φ lo (lo + 1) (.map lo) mem) := by
  refine O1.loc (A' := A) [] rfl (fun v L' => ∃ b, v = .map (some b) ∧ L' = []) (fun a w R F hl ok _ => ?_) ?_
  · refine ⟨.map (some w.heap.size), [], _, ⟨_, rfl, rfl⟩, .inl (by simp [execOp, Instr.makeMap, newObj, Sem.run, Pure.pure]; rfl), ?_⟩
    refine ⟨R, F, ⟨rfl, rfl, rfl, by simp, fun k hk _ => ?_, fun _ h => h, fun _ h => .inl h, fun k hk => .inl hk⟩, ⟨fun k hk => ?_, fun k hk => ?_, ok.d⟩, trivial⟩
    · show (w.heap.push _)[k]? = _
      simp [Array.getElem?_push, show k ≠ w.heap.size by omega]
    · have := ok.r k hk; simp; omega
    · have := ok.f k hk; simp; omega
  · rintro v L' ⟨b, rfl, rfl⟩
    exact ⟨plus φ lo b 0, plus_ext, plus_fun hf hfr (by omega), .map (.inr ⟨rfl, rfl, rfl⟩), hm.mono (fun _ _ _ h => .inl h)⟩
/-- Cells that are read out of a block. -/
theorem cells_run {b c T sz o m : Nat} {vs : List Value} {R F : Foot} (h : (EntH b c T sz vs).h w R F) (hle : o + m ≤ vs.length) : (loadCells ⟨b, o, none⟩ m).run P w = .ok ((vs.drop o).take m).toArray w := by
  have hk : ((vs.drop o).take m).length = m := by rw [List.length_take, List.length_drop]; omega
  conv => lhs; rw [← hk]
  refine run_loadCells_list w _ _ (fun j v hj => ?_)
  rw [add_none]
  rw [List.getElem?_take] at hj
  split at hj
  · exact EntH.cell h (by simpa using hj)
  · simp at hj
/-- The first cells of a slice. -/
theorem cellsOf_ok (hf : Fun φ) (hm : MR φ mem A) {sz m : Nat} {b : V} {v : Value} {cs : List V} (hv : VR φ b v) (h : cellsOf mem sz m b = some cs) :
    ∃ vs, VRs φ cs vs ∧ vs.length = m * sz ∧ (∀ u ∈ vs, Sl.one u = true) ∧ (∀ w R F, Ok w R F → Star A w R F → (Builtin.firstCells sz m v).run P w = .ok vs.toArray w) ∧
      ((v = .slice none 0 0 ∧ m = 0 ∧ vs = []) ∨ ∃ a len c, v = .slice (some a) len c ∧ ∀ w R F, Ok w R F → Star A w R F → ∀ j u, vs[j]? = some u → w.cell? (a.add j) = some u) := by
  cases hv <;> simp only [cellsOf] at h <;> try (simp at h; done)
  · rw [cond_eq_ite] at h
    split at h
    · rename_i hm0
      simp only [Option.some.injEq] at h
      subst h
      have e0 := Nat.eq_of_beq_eq_true hm0
      subst e0
      exact ⟨[], .nil, by simp, by simp, fun w R F _ _ => by simp [Builtin.firstCells, Pure.pure], .inl ⟨rfl, rfl, rfl⟩⟩
    · simp at h
  · rename_i k len b c hb hlen
    split at h
    · rename_i e he
      rw [cond_eq_ite] at h
      split at h
      · rename_i hle
        simp only [Option.some.injEq] at h
        subst h
        obtain ⟨i, p, A', h1, b', c', vs, h2, h3, h4, h5⟩ := hm.find he
        obtain ⟨rfl, rfl⟩ := hf _ _ _ _ _ hb h2
        subst h5
        have hle' := Nat.le_of_ble_eq_true hle
        have hl : e.cs.length = vs.length := h3.length
        refine ⟨vs.take (m * sz), VRs.take _ h3, by rw [List.length_take]; omega, fun u hu => h4 u (List.mem_of_mem_take hu), fun w R F _ hs => ?_, .inr ⟨_, _, _, rfl, fun w R F _ hs j u hj => ?_⟩⟩
        · obtain ⟨F1, _, g4⟩ := hs.has h1
          have := cells_run (P := P) (o := 0) (m := m * sz) g4 (by omega)
          simpa [Builtin.firstCells] using this
        · obtain ⟨F1, _, g4⟩ := hs.has h1
          rw [add_none, Nat.zero_add]
          rw [List.getElem?_take] at hj
          split at hj
          · exact EntH.cell g4 hj
          · simp at hj
      · simp at h
    · simp at h
  · rename_i k o d len b c hb hlen
    split at h
    · rename_i e he
      rw [cond_eq_ite] at h
      split at h
      · rename_i hle
        simp only [Option.some.injEq] at h
        subst h
        obtain ⟨i, p, A', h1, b', c', vs, h2, h3, h4, h5⟩ := hm.find he
        obtain ⟨rfl, rfl⟩ := hf _ _ _ _ _ hb h2
        subst h5
        have hle' := Nat.le_of_ble_eq_true hle
        have hl : e.cs.length = vs.length := h3.length
        refine ⟨(vs.drop o).take (m * sz), VRs.take _ (VRs.drop _ h3), by rw [List.length_take, List.length_drop]; omega, fun u hu => h4 u (List.mem_of_mem_drop (List.mem_of_mem_take hu)), fun w R F _ hs => ?_, .inr ⟨_, _, _, rfl, fun w R F _ hs j u hj => ?_⟩⟩
        · obtain ⟨F1, _, g4⟩ := hs.has h1
          have := cells_run (P := P) (o := o) (m := m * sz) g4 (by omega)
          simpa [Builtin.firstCells] using this
        · obtain ⟨F1, _, g4⟩ := hs.has h1
          rw [add_none]
          rw [List.getElem?_take] at hj
          split at hj
          · exact EntH.cell g4 (by simpa using hj)
          · simp at hj
      · simp at h
    · simp at h
  · rw [cond_eq_ite] at h
    split at h
    · rename_i hm0
      simp only [Option.some.injEq] at h
      subst h
      have e0 := Nat.eq_of_beq_eq_true hm0
      subst e0
      exact ⟨[], .nil, by simp, by simp, fun w R F _ _ => by simp [Builtin.firstCells, loadCells, loadCellsFrom, Pure.pure], .inr ⟨_, _, _, rfl, fun w R F _ _ j u hj => by simp at hj⟩⟩
    · simp at h
theorem lenOf_ok {b : V} {v : Value} {m : Nat} (hv : VR φ b v) (h : lenOf b = some m) : ∃ A c, v = .slice A m c := by
  cases hv <;> simp only [lenOf] at h <;> try (simp at h; done)
  all_goals (simp only [Option.some.injEq] at h; subst h; exact ⟨_, _, rfl⟩)
/-- Cells are stored into a slice's row: what a 'copy', a 'clear' leaves. -/
theorem O1.putSl {o : Oper} (hf : Fun φ) (hm : MR φ mem A) {a : V} {va : Value} (hva : VR φ a va) {cs : List V} {vs : List Value} (hcs : VRs φ cs vs) {x : V} {vx : Value} (hx : VR φ x vx) {r : Res} (h : putSl mem lo a cs x = some r)
    (hrun0 : vs = [] → ∀ (a : Act) w R F, Holds a l → Ok w R F → Star A w R F → (execOp a.eval o).run P w = .ok (.value vx) w)
    (hrun : ∀ ad len c, va = .slice (some ad) len c → ∀ (a : Act) w R F, Holds a l → Ok w R F → Star A w R F → (storeCells ad vs).run P w = .ok () (w.setCells ad.block ad.off vs) → (execOp a.eval o).run P w = .ok (.value vx) (w.setCells ad.block ad.off vs)) :
    O1 P n C l A o (EffPost φ lo r.2.2 r.1 r.2.1) := by
  have quiet : vs = [] → r = (x, mem, lo) → O1 P n C l A o (EffPost φ lo r.2.2 r.1 r.2.1) := fun h0 hr => by
    subst hr
    refine O1.locA (A' := A) [] rfl (fun v L' => v = vx ∧ L' = []) (fun a w R F F1 hl ok hs ok1 _ => ⟨vx, [], w, ⟨rfl, rfl⟩, .inl (hrun0 h0 a w R F hl ok hs), R, F1, .refl, ok1, trivial⟩) ?_
    rintro v L' ⟨rfl, rfl⟩
    exact ⟨φ, Ext.refl, hf, hx, hm⟩
  have store : ∀ {k off : Nat} {m : Mem} {b c len cp : Nat}, φ k b c → va = .slice (some ⟨b, off, none⟩) len cp → putMem mem k off cs = some m → r = (x, m, lo) → O1 P n C l A o (EffPost φ lo r.2.2 r.1 r.2.1) := fun {k off m b c len cp} hb hv hp hr => by
    subst hr
    obtain ⟨i, b', c', T, sz, ws, A', h5, h6, h7, h8, h9⟩ := putMem_ok hm hcs hp
    obtain ⟨rfl, rfl⟩ := hf _ _ _ _ _ hb h6
    refine O1.locA (L := [EntH b c T sz ws]) (A' := A') [i] (by simp [takes, h5]) (fun v L' => v = vx ∧ L' = [EntH b c T sz (putL ws off vs)]) (fun a w R F F1 hl ok hs ok1 hs1 => ?_) ?_
    · obtain ⟨G1, G2, g1, g2, g3, g4, g5⟩ := hs1
      have hst := run_storeCells_cells (P := P) b off vs 0 w (fun j hj => by
          rw [Nat.add_zero, EntH.cell g4 (v := ws[off + j]'(by omega)) (List.getElem?_eq_getElem (by omega))]; rfl) (fun j hj => EntH.free g4 _)
        (fun u hu => one_old (h8 u hu))
      exact ⟨vx, _, _, ⟨rfl, rfl⟩, .inl (hrun _ _ _ hv a w R F hl ok hs hst), Turns.setE ok1 ((EntH b c T sz ws).monoF g1 g4) h7⟩
    · rintro v L' ⟨rfl, rfl⟩
      exact ⟨φ, Ext.refl, hf, hx, h9⟩
  have nil : ∀ {cs : List V} {vs : List Value}, VRs φ cs vs → cs = [] → vs = [] := fun p e => by subst e; cases p; rfl
  cases hva <;> simp only [Xe.putSl] at h <;> try (simp at h; done)
  · split at h
    · simp only [Option.some.injEq] at h
      exact quiet (nil hcs rfl) h.symm
    · simp at h
  · rename_i k len b c hb _
    split at h
    · rename_i m hp
      simp only [Option.some.injEq] at h
      exact store hb rfl hp h.symm
    · simp at h
  · rename_i k o d len b c hb _
    split at h
    · rename_i m hp
      simp only [Option.some.injEq] at h
      exact store hb rfl hp h.symm
    · simp at h
  · split at h
    · simp only [Option.some.injEq] at h
      exact quiet (nil hcs rfl) h.symm
    · simp at h
theorem copy_ok (hT : TOk P TT) (hf : Fun φ) (hm : MR φ mem A) (hl : LR φ env l) {t : Nat} {ts : List Nat} {xs : List Operand} {us : List V} (hus : opnds env xs = some us) {r : Res} (h : eCopy TT mem lo t us = some r) : O1 P n C l A ⟨dst, .call ⟨.builtin .copy, xs.toArray, (t :: ts).toArray⟩, ty, pos, af, g⟩ (EffPost φ lo r.2.2 r.1 r.2.1) := by
  obtain ⟨vs, h1, h2⟩ := opnds_ok hl hus
  unfold eCopy at h
  split at h
  · rename_i z hz
    obtain ⟨e, he, hsz⟩ := hT.elsz hz
    split at h
    · rename_i a b
      cases h2 with
      | cons p q =>
        cases q with
        | @cons _ vb _ _ p2 q2 =>
          cases q2
          rename_i va
          split at h
          · rename_i na hna
            split at h
            · rename_i nb hnb
              split at h
              · rename_i cs hcs
                split at h
                · rename_i res hres
                  obtain ⟨rfl, _⟩ := num_ok hres
                  obtain ⟨Aa, ca, rfl⟩ := lenOf_ok p hna
                  obtain ⟨Ab, cb, rfl⟩ := lenOf_ok p2 hnb
                  obtain ⟨ws, h3, h4, h5, h6, _⟩ := cellsOf_ok (P := P) hf hm p2 hcs
                  have hmin : (bif Nat.ble nb na then nb else na) = Nat.min nb na := by
                    rw [cond_eq_ite]
                    split
                    · rename_i hh; exact (Nat.min_eq_left (Nat.le_of_ble_eq_true hh)).symm
                    · rename_i hh; exact (Nat.min_eq_right (by have : ¬ nb ≤ na := fun q => hh (Nat.ble_eq_true_of_le q); omega)).symm
                  have hmin2 : (bif Nat.ble nb na then (nb : Int) else (na : Int)) = (Nat.min nb na : Nat) := by
                    rw [← hmin, cond_eq_ite, cond_eq_ite]
                    split <;> rfl
                  rw [hmin] at h6
                  rw [hmin2] at h
                  have hrunA : ∀ (a : Act) w R F, Holds a l → Ok w R F → Star A w R F → ∀ w', (match Aa with | some ad => (storeCells ad ws).run P w = .ok () w' | none => w' = w) → (execOp a.eval ⟨dst, .call ⟨.builtin .copy, xs.toArray, (t :: ts).toArray⟩, ty, pos, af, g⟩).run P w = .ok (.value (.int .i64 (Nat.min nb na : Nat))) w' := by
                    intro a w R F ha ok hs w' hw'
                    have e1 := ha.evs h1
                    have e2 : (xs.toArray.map a.eval) = #[.slice Aa na ca, .slice Ab nb cb] := by simp [e1]
                    have h7 := h6 w R F ok hs
                    simp only [execOp, resolve, e2, Sem.run_bind, Sem.run_pure, Result.andThen_ok, invoke, builtin, Builtin.copy_]
                    cases Aa with
                    | none =>
                      subst hw'
                      simp [Sl.run_underlying he, Builtin.lenOf, Sl.run_sizeOf hsz, h7, goInt, Pure.pure, Sem.run]
                    | some ad =>
                      simp [Sl.run_underlying he, Builtin.lenOf, Sl.run_sizeOf hsz, h7, hw', goInt, Pure.pure, Sem.run]
                  refine O1.putSl hf hm p h3 .int h (fun h0 a w R F ha ok hs => ?_) (fun ad len c hv a w R F ha ok hs hst => ?_)
                  · refine hrunA a w R F ha ok hs w ?_
                    subst h0
                    cases Aa <;> rfl
                  · simp only [Value.slice.injEq] at hv
                    obtain ⟨rfl, rfl, rfl⟩ := hv
                    exact hrunA a w R F ha ok hs _ hst
                · simp at h
              · simp at h
            · simp at h
          · simp at h
    · simp at h
  · simp at h
theorem clear_ok (hT : TOk P TT) (hf : Fun φ) (hm : MR φ mem A) (hl : LR φ env l) {t : Nat} {ts : List Nat} {xs : List Operand} {us : List V} (hus : opnds env xs = some us) {r : Res} (h : eClear TT mem lo t us = some r) : O1 P n C l A ⟨dst, .call ⟨.builtin .clear, xs.toArray, (t :: ts).toArray⟩, ty, pos, af, g⟩ (EffPost φ lo r.2.2 r.1 r.2.1) := by
  obtain ⟨vs, h1, h2⟩ := opnds_ok hl hus
  unfold eClear at h
  split at h
  · rename_i e he
    split at h
    · rename_i ei hei
      split at h
      · rename_i a
        cases h2 with
        | cons p q =>
          cases q
          rename_i va
          split at h
          · rename_i na hna
            obtain ⟨Aa, ca, rfl⟩ := lenOf_ok p hna
            obtain ⟨inf, z, i1, i2, i3, i4, i5, i6, i7⟩ := hT.info hei
            have hu := hT.el he
            obtain ⟨rz, h3, rfl⟩ := VRs.rep (i6 φ) na
            have hz : (Builtin.zeroCells z.cells na).toList = (List.replicate na z.cells.toList).flatten := by
              have := made_eq i5 na z.cells (fun _ => rfl)
              unfold Builtin.zeroCells
              rw [← i5] at this
              rw [this]
            refine O1.putSl hf hm p h3 (.tup .nil) h (fun h0 a w R F ha ok hs => ?_) (fun ad len c hv a w R F ha ok hs hst => ?_)
            · have e1 := ha.evs h1
              have e2 : (xs.toArray.map a.eval) = #[.slice Aa na ca] := by simp [e1]
              simp only [execOp, resolve, e2, Sem.run_bind, Sem.run_pure, Result.andThen_ok, invoke, builtin, Builtin.clear_]
              cases Aa with
              | none => simp [Sl.run_underlying hu, Pure.pure, Sem.run]
              | some ad =>
                cases na with
                | zero => simp [Sl.run_underlying hu, Pure.pure, Sem.run]
                | succ na =>
                  rw [h0] at hz
                  simp [Sl.run_underlying hu, i7, hz, storeCells, Pure.pure, Sem.run]
            · simp only [Value.slice.injEq] at hv
              obtain ⟨rfl, rfl, rfl⟩ := hv
              have e1 := ha.evs h1
              have e2 : (xs.toArray.map a.eval) = #[.slice (some ad) na ca] := by simp [e1]
              simp only [execOp, resolve, e2, Sem.run_bind, Sem.run_pure, Result.andThen_ok, invoke, builtin, Builtin.clear_]
              cases na with
              | zero => simp [Sl.run_underlying hu, World.setCells, Pure.pure, Sem.run]
              | succ na => simp [Sl.run_underlying hu, i7, hz, hst, Pure.pure, Sem.run]
          · simp at h
      · simp at h
    · simp at h
  · simp at h
end
end Go.Proofs.YthjbkngecgbioaaGreatDoor.Xe

/- The evaluator tells the truth: append, calls; all that turns memory, in one. -/
namespace Go.Proofs.YthjbkngecgbioaaGreatDoor.Xe
open Go Go.Proofs.YthjbkngecgbioaaGreatDoor.Sl

section
variable {P : Program} {TT : Nat → Option Ty} {XX : Nat → Nat} {φ : Nm} {mem mem' : Mem} {env : Vars} {A A' : List HP} {l : Env} {u : V} {dst : Option Tmp} {ty : TypeId} {pos : String} {af : Array Edge} {g : Option (Nat × Bool)} {w : World} {n lo lo' hi : Nat} {C : Ctx}
theorem EntH.own {b c T sz m : Nat} {vs : List Value} {R F : Foot} (h : (EntH b c T sz vs).h w R F) (hn : m * sz ≤ vs.length) (hc : m ≤ c) : w.ownsRow 0 T sz (.slice (some ⟨b, 0, none⟩) m c) m (vs.take (m * sz)) := by
  obtain ⟨_, arr, h1, h2, h3, h4, h5⟩ := h
  refine ⟨by rw [List.length_take]; omega, .inr ⟨b, c, arr, rfl, Nat.zero_le _, h1, hc, h5, h2, ?_⟩⟩
  conv => rhs; rw [← h4]
  rw [List.take_take, Nat.min_eq_left hn]
theorem Turns.grownE {w' : World} {R F : Foot} {T sz m c' : Nat} {Ad : Option Addr} {xs : List Value} {v : Value} (ok : Ok w R F) (hF : ∀ b, v.ownBlock = some b → F b) (hg : w.grownBy w' v.ownBlock) (ho : w'.ownsRow 0 T sz (.slice Ad m c') m xs) (hm : 0 < m)
    (hnew : ∀ b, (Value.slice Ad m c').ownBlock = some b → v.ownBlock = some b ∨ w.heap.size ≤ b) : ∃ b, Ad = some ⟨b, 0, none⟩ ∧ m ≤ c' ∧ c' ≤ maxLen ∧ Turns w R F w' [EntH b c' T sz xs] := by
  have hlt := own_block ho
  obtain ⟨h1, h2⟩ := ho
  rcases h2 with ⟨_, h0⟩ | ⟨b, cap, cur, hv, _, hh, hn, hm2, hcs, htk⟩
  · omega
  · simp only [Value.slice.injEq, true_and] at hv
    obtain ⟨rfl, rfl⟩ := hv
    refine ⟨b, rfl, hn, hm2, R, fun k => k = b, ⟨hg.os, hg.tape, hg.output, hg.size, fun k hk hn => hg.block k hk (fun e => hn (hF k e.symm)), fun _ h => h, fun _ h => .inl h, fun k hk => ?_⟩, ⟨fun k hk => Nat.lt_of_lt_of_le (ok.r k hk) hg.size, fun k hk => ?_, fun k hk hk2 => ?_⟩, fun k => k = b, fun _ => False, fun _ h => h, fun _ h => h.elim, fun _ _ h => h, ⟨rfl, cur, hh, hcs, ?_, ?_, hm2⟩, trivial⟩
    · subst hk; exact (hnew k rfl).imp (hF k) id
    · subst hk; exact hlt k rfl
    · subst hk2
      rcases hnew k rfl with h | h
      · exact ok.d k hk (hF k h)
      · have := ok.r k hk; omega
    · rw [h1, hcs]; exact Nat.mul_le_mul_right _ hn
    · rw [h1]; exact htk
theorem news_ok (hf : Fun φ) (hm : MR φ mem A) {sz : Nat} {b : V} {v : Value} {r : List V × Nat} (hv : VR φ b v) (h : newsX mem sz b = some r) : (∃ Ad c, v = .slice Ad r.2 c) ∧
    ∃ vs, VRs φ r.1 vs ∧ vs.length = r.2 * sz ∧ (∀ u ∈ vs, Sl.one u = true) ∧ (∀ w R F, Ok w R F → Star A w R F → (Builtin.firstCells sz r.2 v).run P w = .ok vs.toArray w) ∧
      ((v = .slice none 0 0 ∧ r.2 = 0 ∧ vs = []) ∨ ∃ a len c, v = .slice (some a) len c ∧ ∀ w R F, Ok w R F → Star A w R F → ∀ j u, vs[j]? = some u → w.cell? (a.add j) = some u) := by
  unfold newsX at h
  split at h
  · rename_i m hm'
    split at h
    · rename_i cs hcs
      simp only [Option.some.injEq] at h
      subst h
      exact ⟨lenOf_ok hv hm', cellsOf_ok hf hm hv hcs⟩
    · simp at h
  · simp at h
theorem Turns.drew {w' : World} {R F : Foot} {L : List HP} : Turns w.drew R F w' L → Turns w R F w' L := fun ⟨R', F', s, o, st⟩ => ⟨R', F', ⟨s.os, s.tape, s.output, s.size, s.same, s.rr, s.rn, s.fn⟩, o, st⟩
/-- append(nil, make([]T, m)...). -/
theorem run_append_nil_made {t u e : TypeId} {i : TypeInfo} {z : Value} {k : IntKind} (ht : P.underlying t = some (.slice e)) (hu : P.underlying u = some (.int k)) (hi : P.info? e = some i) (hz : i.zero = some z) (hsz : 0 < i.size) (hb : i.bytes ≤ 65536) {m : Nat} (h0 : 0 < m) (hm : m ≤ 65536) :
    (Builtin.append_ #[t, u] ty #[.slice none 0 0, .int .i64 (m : Int)]).run P w =
      .ok (.slice (some ⟨w.heap.size, 0, none⟩) m (grownCap w m 0 e)) (w.drew.alloc (.cells (Builtin.zeroCells z.cells m ++ Builtin.zeroCells z.cells (grownCap w m 0 e - m)) e)) := by
  have hn : m ≠ 0 := by omega
  have hw : IntKind.i64.wrap (m : Int) = (m : Int) := wrap_i64 (by omega) (by omega)
  have hmul : m * i.bytes ≤ 65536 * 65536 := Nat.mul_le_mul hm hb
  have h63' : ¬ (9223372036854775807 < (m : Int)) := by omega
  have h48' : ¬ (281474976710656 < Builtin.nextslicecap m 0 * i.bytes) := by rw [nextslicecap_zero h0]; omega
  have h48'' : ¬ (281474976710656 < (m : Int) * (i.bytes : Int)) := by
    have : ((m * i.bytes : Nat) : Int) ≤ 65536 * 65536 := by omega
    rw [Int.natCast_mul] at this
    omega
  have hneg : ¬ ((m : Int) < 0) := by omega
  have hmi : IntKind.i64.max = 9223372036854775807 := by decide
  simp [Builtin.append_, Sl.run_underlying ht, Sl.run_underlying hu, sizeOf, typeInfo, zeroValue, hi, hz, asInt, asIntOf, hw, hn, h63', h48', h48'', hneg, hmi, Question.forced, run_firstCells_none, newRow, grownCap]
  intro h
  have := Nat.mul_pos h0 hsz
  omega
theorem append_main (hT : TOk P TT) (hf : Fun φ) (hfr : Fresh φ lo hi) (hm : MR φ mem A) {t e : Nat} {ei : Ty} {xs : List Operand} {a b : V} {va vb : Value} (h1 : evs l xs = some [va, vb]) (he : elX TT t = some e) (hei : TT e = some ei) (hpos : 0 < ei.size) (p : VR φ a va) (p2 : VR φ b vb) {r : Res} (h : eAppend2 mem lo e ei a b = some r) (hlo : r.2.2 ≤ hi) :
    O1 P n C l A ⟨dst, .call ⟨.builtin .append, xs.toArray, [t, t].toArray⟩, ty, pos, af, g⟩ (EffPost φ lo r.2.2 r.1 r.2.1) := by
  have hu := hT.el he
  obtain ⟨inf, z, i1, i2, i3, i4, i5, i6, i7⟩ := hT.info hei
  have hsz : szTy P e = some ei.size := (hT.all hei).2.2.1
  have hrun0 : ∀ (ac : Act) w v w', Holds ac l → (Builtin.append_ #[t, t] ty #[va, vb]).run P w = .ok v w' → (execOp ac.eval ⟨dst, .call ⟨.builtin .append, xs.toArray, [t, t].toArray⟩, ty, pos, af, g⟩).run P w = .ok (.value v) w' := by
    intro ac w v w' ha hr
    have e1 := ha.evs h1
    have e2 : (xs.toArray.map ac.eval) = #[va, vb] := by simp [e1]
    simp only [execOp, resolve, e2, Sem.run_bind, Sem.run_pure, Result.andThen_ok, invoke, builtin, hr]
  unfold eAppend2 at h
  split at h
  · cases p
    split at h
    · rename_i rr hrr
      obtain ⟨⟨Ab, cb, rfl⟩, ws, h3, h4, h5, h6, h7⟩ := news_ok (P := P) hf hm p2 hrr
      simp only [cond_eq_ite] at h
      split at h
      · rename_i hm0
        have e0 := Nat.eq_of_beq_eq_true hm0
        simp only [Option.some.injEq] at h
        subst h
        refine O1.locA (A' := A) [] rfl (fun v L' => v = .slice none 0 0 ∧ L' = []) (fun ac w R F F1 ha ok hs ok1 _ => ⟨_, [], w, ⟨rfl, rfl⟩, .inl (hrun0 ac w _ w ha ?_), R, F1, .refl, ok1, trivial⟩) ?_
        · have h8 := h6 w R F ok hs
          rw [e0] at h8 ⊢
          have hi : (P.underlying t) = some (.slice e) := hu
          simp [Builtin.append_, Sl.run_underlying hu, Sl.run_sizeOf hsz, Builtin.lenOf, h8, Pure.pure, Sem.run]
        · rintro v L' ⟨rfl, rfl⟩
          exact ⟨φ, Ext.refl, hf, .nils, hm⟩
      · rename_i hm0
        split at h
        · rename_i hbig
          have hbig' := Nat.le_of_ble_eq_true hbig
          obtain ⟨hone, rfl⟩ := newX_eq h
          have hmpos : 0 < rr.2 := Nat.pos_of_ne_zero (fun q => hm0 (by rw [q]; rfl))
          rcases h7 with ⟨_, h0, _⟩ | ⟨ad, len, c, hv, h8⟩
          · omega
          · simp only [Value.slice.injEq] at hv
            obtain ⟨rfl, rfl, rfl⟩ := hv
            refine O1.locA (A' := A) [] rfl (fun v L' => ∃ b' c', v = .slice (some ⟨b', 0, none⟩) rr.2 c' ∧ rr.2 ≤ c' ∧ L' = [EntH b' c' e ei.size ws]) (fun ac w R F F1 ha ok hs ok1 _ => ?_) ?_
            · obtain ⟨Ad, c', w', hr, ho, hg, hnew⟩ := append_new (P := P) (w := w) (ty := ty) (v := .slice none 0 0) (n := 0) (xs := []) hu i1 i2 (by rw [i5, i3]) (by omega) (World.ownsRow_nil w 0 e inf.size) ad rr.2 cb ws (by rw [h4, i3]) (h8 w R F ok hs) (fun u hu => one_old (h5 u hu)) (by unfold maxLen; omega) (by
                  have : rr.2 * inf.bytes ≤ 16777216 * 65536 := Nat.mul_le_mul hbig' i4
                  rw [Nat.zero_add]
                  omega)
              simp only [Nat.zero_add, List.nil_append] at hr ho hnew
              obtain ⟨b', rfl, k1, k2, k3⟩ := Turns.grownE (R := R) (F := F1) ok1 (v := .slice none 0 0) (by simp [Value.ownBlock]) hg ho hmpos hnew
              rw [i3] at k3
              exact ⟨_, _, w', ⟨b', c', rfl, k1, rfl⟩, .inl (hrun0 ac w _ w' ha hr), k3⟩
            · rintro v L' ⟨b', c', rfl, hc', rfl⟩
              exact ⟨plus φ lo b' c', plus_ext, plus_fun hf hfr (by simp at hlo; omega), .sl (.inr ⟨rfl, rfl, rfl⟩) hc', ⟨b', c', ws, .inr ⟨rfl, rfl, rfl⟩, h3.mono (fun _ _ _ h => .inl h), h5, rfl⟩, hm.mono (fun _ _ _ h => .inl h)⟩
        · simp at h
    · simp at h
  · rename_i k nn
    split at h
    · rename_i hl0
      simp only [Option.some.injEq] at h
      subst h
      obtain ⟨Ab, cb, rfl⟩ := lenOf_ok p2 hl0
      cases p with
      | @sl _ _ b c hb hlen =>
        refine O1.locA (A' := A) [] rfl (fun v L' => v = .slice (some ⟨b, 0, none⟩) nn c ∧ L' = []) (fun ac w R F F1 ha ok hs ok1 _ => ⟨_, [], w, ⟨rfl, rfl⟩, .inl (hrun0 ac w _ w ha ?_), R, F1, .refl, ok1, trivial⟩) ?_
        · cases Ab <;> simp [Builtin.append_, Sl.run_underlying hu, Sl.run_sizeOf hsz, Builtin.lenOf, Builtin.firstCells, loadCells, loadCellsFrom, hlen, storeCells, Pure.pure, Sem.run]
        · rintro v L' ⟨rfl, rfl⟩
          exact ⟨φ, Ext.refl, hf, .sl hb hlen, hm⟩
    · rename_i hl0
      split at h
      · rename_i pp hpp
        obtain ⟨i, pe, A', t1, ⟨b0, c0, vs0, t3, t4, t5, t6⟩, t7⟩ := hm.pull hpp
        subst t6
        cases p with
        | @sl _ _ b c hb hlen =>
          obtain ⟨rfl, rfl⟩ := hf _ _ _ _ _ hb t3
          split at h
          · rename_i rr hrr
            obtain ⟨⟨Ab, cb, rfl⟩, ws, h3, h4, h5, h6, h7⟩ := news_ok (P := P) hf t7 p2 hrr
            rw [cond_eq_ite] at h
            split at h
            · rename_i hc2
              simp only [Bool.and_eq_true] at hc2
              obtain ⟨⟨⟨⟨q1, q2⟩, q3⟩, q4⟩, q5⟩ := hc2
              have q1 := Nat.le_of_ble_eq_true q1
              have q2 := Nat.eq_of_beq_eq_true q2
              have q3 := Nat.eq_of_beq_eq_true q3
              have q4 : 0 < nn + rr.2 := Nat.le_of_ble_eq_true q4
              have q5 := Nat.le_of_ble_eq_true q5
              obtain ⟨hone, rfl⟩ := newX_eq h
              have hvl : pp.1.cs.length = vs0.length := t4.length
              rw [q2, q3] at t1
              have hone2 : ∀ u ∈ vs0.take (nn * ei.size) ++ ws, Sl.one u = true := fun u hu => by
                rcases List.mem_append.1 hu with hu | hu
                · exact t5 u (List.mem_of_mem_take hu)
                · exact h5 u hu
              refine O1.locA (L := [EntH b c e ei.size vs0]) (A' := A') [i] (by simp [takes, t1]) (fun v L' => ∃ b' c', v = .slice (some ⟨b', 0, none⟩) (nn + rr.2) c' ∧ nn + rr.2 ≤ c' ∧ L' = [EntH b' c' e ei.size (vs0.take (nn * ei.size) ++ ws)]) (fun ac w R F F1 ha ok hs ok1 hs1 => ?_) ?_
              · obtain ⟨G1, G2, g1, g2, g3, g4, g5⟩ := hs1
                have hsA : Star A' w R F := by
                  obtain ⟨H1, H2, _, k2, _, _, k3⟩ := take1_star t1 hs
                  exact Star.monoF k2 k3
                have hown := EntH.own (m := nn) g4 (by omega) hlen
                rcases h7 with ⟨hv, h0, hws⟩ | ⟨ad, len, cc, hv, h8⟩
                · simp only [Value.slice.injEq] at hv
                  obtain ⟨rfl, _, rfl⟩ := hv
                  subst hws
                  rw [h0] at q4 ⊢
                  refine ⟨.slice (some ⟨b, 0, none⟩) nn c, _, w, ⟨b, c, rfl, hlen, rfl⟩, .inl (hrun0 ac w _ w ha ?_), R, F1, .refl, ok1, G1, G2, g1, g2, g3, ?_, trivial⟩
                  · have h9 := h6 w R F ok hsA
                    rw [h0] at h9
                    simp [Builtin.append_, Sl.run_underlying hu, Sl.run_sizeOf hsz, Builtin.lenOf, h0, h9, hlen, storeCells, Pure.pure, Sem.run]
                  · obtain ⟨k1, arr, k2, k3, k4, k5, k6⟩ := g4
                    refine ⟨k1, arr, k2, k3, by simp; omega, ?_, k6⟩
                    simp only [List.append_nil, List.length_take]
                    conv => rhs; rw [← k5]
                    rw [List.take_take, Nat.min_eq_left (by omega)]
                · simp only [Value.slice.injEq] at hv
                  obtain ⟨rfl, rfl, rfl⟩ := hv
                  rw [← i3] at hown
                  obtain ⟨Ad, c', w', hr, ho, hg, hnew⟩ := append_new (P := P) (ty := ty) hu i1 i2 (by rw [i5, i3]) (by omega) hown ad rr.2 cb ws (by rw [h4, i3]) (h8 w R F ok hsA) (fun u hu => one_old (h5 u hu)) (by unfold maxLen; omega) (by
                      have : (nn + rr.2) * inf.bytes ≤ 16777216 * 65536 := Nat.mul_le_mul q5 i4
                      omega)
                  obtain ⟨b', rfl, k1, k2, k3⟩ := Turns.grownE (R := R) (F := F1) ok1 (v := .slice (some ⟨b, 0, none⟩) nn c) (fun k hk => by simp [Value.ownBlock] at hk; subst hk; exact g1 _ g4.1) hg ho q4 hnew
                  rw [i3] at k3
                  exact ⟨_, _, w', ⟨b', c', rfl, k1, rfl⟩, .inl (hrun0 ac w _ w' ha hr), k3⟩
              · rintro v L' ⟨b', c', rfl, hc', rfl⟩
                exact ⟨plus φ lo b' c', plus_ext, plus_fun hf hfr (by simp at hlo; omega), .sl (.inr ⟨rfl, rfl, rfl⟩) hc', ⟨b', c', _, .inr ⟨rfl, rfl, rfl⟩, (VRs.append (VRs.take _ t4) h3).mono (fun _ _ _ h => .inl h), hone2, rfl⟩, t7.mono (fun _ _ _ h => .inl h)⟩
            · simp at h
          · simp at h
      · simp at h
  · simp at h
theorem append_ok (hT : TOk P TT) (hf : Fun φ) (hfr : Fresh φ lo hi) (hm : MR φ mem A) (hl : LR φ env l) {t : Nat} {ts : List Nat} {xs : List Operand} {us : List V} (hus : opnds env xs = some us) {r : Res} (h : eAppend TT mem lo t ts us = some r) (hlo : r.2.2 ≤ hi) :
    O1 P n C l A ⟨dst, .call ⟨.builtin .append, xs.toArray, (t :: ts).toArray⟩, ty, pos, af, g⟩ (EffPost φ lo r.2.2 r.1 r.2.1) := by
  obtain ⟨vs, h1, h2⟩ := opnds_ok hl hus
  unfold eAppend at h
  split at h
  · rename_i e he
    have hu := hT.el he
    split at h
    · rename_i ei hei
      split at h
      · rename_i a b
        cases h2 with
        | cons p q =>
          cases q with
          | @cons _ vb _ _ p2 q2 =>
            cases q2
            rename_i va
            split at h
            · rename_i t2
              rw [cond_eq_ite] at h
              split at h
              · rename_i hc
                have hpos : 0 < ei.size := Nat.le_of_ble_eq_true hc
                have main : ∀ {b : V}, (bif Nat.beq t2 t then eAppend2 mem lo e ei a b else none) = some r → VR φ b vb → O1 P n C l A ⟨dst, .call ⟨.builtin .append, xs.toArray, [t, t2].toArray⟩, ty, pos, af, g⟩ (EffPost φ lo r.2.2 r.1 r.2.1) := by
                  intro b' hh p2'
                  rw [cond_eq_ite] at hh
                  split at hh
                  · rename_i ht2
                    have ht3 := Nat.eq_of_beq_eq_true ht2
                    rw [ht3]
                    exact append_main hT hf hfr hm h1 he hei hpos p p2' hh hlo
                  · simp at hh
                split at h
                · rename_i nn
                  split at h
                  · rw [cond_eq_ite] at h
                    split at h
                    · rename_i hc2
                      simp only [ltZ_iff, leZ_iff, Bool.and_eq_true, decide_eq_true_eq] at hc2
                      obtain ⟨⟨k1, k2⟩, k3⟩ := hc2
                      obtain ⟨ik, hik⟩ := isInt_ok hT k1
                      obtain ⟨inf, z, i1, i2, i3, i4, i5, i6, i7⟩ := hT.info hei
                      obtain ⟨hone, rfl⟩ := newX_eq h
                      cases p
                      cases p2
                      obtain ⟨m, rfl⟩ := Int.eq_ofNat_of_zero_le (show (0 : Int) ≤ nn by omega)
                      simp only [Int.toNat_natCast] at hone h hlo ⊢
                      obtain ⟨rz, h6, rfl⟩ := VRs.rep (i6 φ) m
                      refine O1.locA (A' := A) [] rfl (fun v L' => ∃ b' c', v = .slice (some ⟨b', 0, none⟩) m c' ∧ m ≤ c' ∧ L' = [EntH b' c' e ei.size (List.replicate m z.cells.toList).flatten]) (fun ac w R F F1 ha ok hs ok1 _ => ?_) ?_
                      · have hrun := run_append_nil_made (P := P) (w := w) (ty := ty) hu hik i1 i2 (by omega) i4 (m := m) (by omega) (by omega)
                        have hge := grownCap_ge w m 0 e
                        have hcm : grownCap w m 0 e ≤ maxLen := grownCap_le_maxLen w m 0 e (by unfold maxLen; omega)
                        have hzc : (Builtin.zeroCells z.cells m).toList = (List.replicate m z.cells.toList).flatten := by
                          have := made_eq i5 m z.cells (fun _ => rfl)
                          unfold Builtin.zeroCells
                          rw [← i5] at this
                          rw [this]
                        have hzl : (Builtin.zeroCells z.cells m).size = m * ei.size := by rw [size_zeroCells, i5]
                        refine ⟨_, _, w.drew.alloc (.cells (Builtin.zeroCells z.cells m ++ Builtin.zeroCells z.cells (grownCap w m 0 e - m)) e), ⟨w.heap.size, _, rfl, hge, rfl⟩, .inl ?_, Turns.drew (Turns.newE ⟨ok1.r, ok1.f, ok1.d⟩ ?_ ?_ ?_ hcm)⟩
                        · have e1 := ha.evs h1
                          have e2 : (xs.toArray.map ac.eval) = #[.slice none 0 0, .int .i64 (m : Int)] := by simp [e1]
                          simp only [execOp, resolve, e2, Sem.run_bind, Sem.run_pure, Result.andThen_ok, invoke, builtin, hrun]
                        · rw [Array.size_append, hzl, size_zeroCells, i5, ← Nat.add_mul]
                          congr 1
                          omega
                        · rw [Array.size_append, hzl, rep_eq]; simp [i5]
                        · rw [Array.toList_append, ← hzc]
                          exact List.take_left
                      · rintro v L' ⟨b', c', rfl, hc', rfl⟩
                        exact ⟨plus φ lo b' c', plus_ext, plus_fun hf hfr (by omega), .sl (.inr ⟨rfl, rfl, rfl⟩) hc', ⟨b', c', _, .inr ⟨rfl, rfl, rfl⟩, h6.mono (fun _ _ _ h => .inl h), VRs.one h6 hone, rfl⟩, hm.mono (fun _ _ _ h => .inl h)⟩
                    · simp at h
                  · simp at h
                · exact main h p2
              · simp at h
            · simp at h
      · simp at h
    · simp at h
  · simp at h

/-! ### Two entries of the library's -/
def XOk (P : Program) (XX : Nat → Nat) : Prop := ∀ f, (XX f = 1 → ∃ fn, P.funcs[f]? = some fn ∧ (fn.name == "runtime.NumGoroutine") = false ∧ fn.body.isNone = true ∧ Extern.findNext fn = none ∧ Extern.find fn = some Extern.BytealgIndexByte.indexByte) ∧
  (XX f = 2 → ∃ fn, P.funcs[f]? = some fn ∧ (fn.name == "runtime.NumGoroutine") = false ∧ fn.body.isNone = true ∧ Extern.findNext fn = none ∧ Extern.find fn = some Extern.BytealgCount.count)
theorem byte_eq {b : Nat} {c : Int} (hb : b < 256) (h0 : 0 ≤ c) (h1 : c ≤ 255) : (b.toUInt8 == c.toNat.toUInt8) = decide ((b : Int) = c) := by
  rw [Bool.eq_iff_iff]
  simp only [beq_iff_eq, decide_eq_true_eq]
  constructor
  · intro h
    have := congrArg UInt8.toNat h
    simp only [Nat.toUInt8_eq, UInt8.toNat_ofNat'] at this
    omega
  · intro h
    subst h
    simp
theorem firstIdx_ok {c : Int} (h0 : 0 ≤ c) (h1 : c ≤ 255) : ∀ (s : List Nat) (i : Nat), s.all (Nat.blt · 256) = true → firstIdx c s i = if Lib.indexByte (s.map Nat.toUInt8) c.toNat.toUInt8 = -1 then -1 else Lib.indexByte (s.map Nat.toUInt8) c.toNat.toUInt8 + i
  | [], i, _ => by simp [firstIdx, Lib.indexByte]
  | b :: s, i, h => by
    simp only [List.all_cons, Bool.and_eq_true] at h
    have hb : b < 256 := Nat.le_of_ble_eq_true h.1
    have ih := firstIdx_ok h0 h1 s (i + 1) h.2
    have hge := Lib.indexByte_ge (s.map Nat.toUInt8) c.toNat.toUInt8
    simp only [firstIdx, List.map_cons, Lib.indexByte, byte_eq hb h0 h1, cond_eq_ite, eqZ_iff]
    by_cases hbc : (b : Int) = c
    · simp [hbc]
    · simp only [show ((Int.ofNat b) = c) = ((b : Int) = c) from rfl, hbc, decide_false, Bool.false_eq_true, if_false, ih]
      by_cases hm : Lib.indexByte (s.map Nat.toUInt8) c.toNat.toUInt8 = -1
      · simp [hm]
      · simp only [hm, if_false, beq_iff_eq]
        rw [if_neg (by omega)]
        omega
theorem countOf_ok {c : Int} (h0 : 0 ≤ c) (h1 : c ≤ 255) : ∀ (s : List Nat) (i : Nat), s.all (Nat.blt · 256) = true → countOf c s i = i + Lib.countByte (s.map Nat.toUInt8) c.toNat.toUInt8
  | [], i, _ => by simp [countOf, Lib.countByte]
  | b :: s, i, h => by
    simp only [List.all_cons, Bool.and_eq_true] at h
    have hb : b < 256 := Nat.le_of_ble_eq_true h.1
    have hq := byte_eq hb h0 h1
    simp only [countOf, cond_eq_ite, eqZ_iff, Lib.countByte, List.map_cons, List.count_cons, hq]
    by_cases hbc : (b : Int) = c
    · have ih := countOf_ok h0 h1 s (i + 1) h.2
      simp only [Lib.countByte] at ih
      simp only [show ((Int.ofNat b) = c) = ((b : Int) = c) from rfl, hbc, decide_true, if_true, ih]
      omega
    · have ih := countOf_ok h0 h1 s i h.2
      simp only [Lib.countByte] at ih
      simp only [show ((Int.ofNat b) = c) = ((b : Int) = c) from rfl, hbc, decide_false, Bool.false_eq_true, if_false, ih]
      omega
theorem row_ok (hX : XOk P XX) (hf : Fun φ) (hm : MR φ mem A) {f : Nat} {fo : Operand} {fs : List Value} (hfo : ev l fo = some (.func (.func f) fs.toArray #[])) {xs : List Operand} {vs : List Value} (hxs : evs l xs = some vs) {us : List V} (hv : VRs φ us (fs ++ vs)) {tys : Array TypeId} {r : Res} (h : eRow mem lo (XX f) us = some r) :
    O1 P n C l A ⟨dst, .call ⟨.value fo, xs.toArray, tys⟩, ty, pos, af, g⟩ (EffPost φ lo r.2.2 r.1 r.2.1) := by
  have fin : ∀ (v : V) (vx : Value), VR φ v vx → r = (v, mem, lo) → (∀ w, (callFunc f (fs ++ vs).toArray).run P w = .ok (.value vx) w) → O1 P n C l A ⟨dst, .call ⟨.value fo, xs.toArray, tys⟩, ty, pos, af, g⟩ (EffPost φ lo r.2.2 r.1 r.2.1) := by
    intro v vx hvx hr hrun
    subst hr
    refine O1.loc (A' := A) [] rfl (fun v L' => v = vx ∧ L' = []) (fun a w R F ha ok _ => ⟨vx, [], w, ⟨rfl, rfl⟩, .inl ?_, R, F, .refl, ok, trivial⟩) ?_
    · have e1 := ha.evs hxs
      have e2 : (xs.toArray.map a.eval) = vs.toArray := by simp [e1]
      simp only [execOp, resolve, e2, ha.ev hfo, Deferred.ofValue, Sem.run_bind, Sem.run_pure, Result.andThen_ok, invoke]
      have := hrun w
      simpa using this
    · rintro v L' ⟨rfl, rfl⟩
      exact ⟨φ, Ext.refl, hf, hvx, hm⟩
  unfold eRow at h
  split at h
  · rename_i s c
    rw [cond_eq_ite] at h
    split at h
    · rename_i hc
      simp only [posZ_iff, leZ_iff, Bool.and_eq_true, decide_eq_true_eq] at hc
      have hargs : (fs ++ vs) = [.string (strOf s), .int .u8 c] := by
        generalize fs ++ vs = ws at hv
        cases hv with
        | cons p q =>
          cases q with
          | cons p2 q2 =>
            cases q2
            cases p
            cases p2
            rfl
      have hdata : (strOf s).data.toList = s.map Nat.toUInt8 := by simp [strOf]
      split at h
      · rename_i h1
        obtain ⟨fn, e1, e2, e3, e4, e5⟩ := (hX f).1 h1
        simp only [Option.some.injEq] at h
        refine fin _ (.int .i64 (firstIdx c s 0)) ?_ h.symm (fun w => ?_)
        · rw [mkInt_eq]; exact .int
        · rw [hargs, run_callFunc_extern e1 e2 e3 e4 e5]
          rw [Lib.run_indexByteString, hdata, firstIdx_ok hc.1.2 hc.2 s 0 hc.1.1]
          have hge := Lib.indexByte_ge (s.map Nat.toUInt8) c.toNat.toUInt8
          simp only [Result.andThen]
          congr 3
          split
          · rename_i hh; rw [hh]
          · simp
      · rename_i h1
        obtain ⟨fn, e1, e2, e3, e4, e5⟩ := (hX f).2 h1
        split at h
        · rename_i v hv'
          obtain ⟨rfl, _⟩ := num_ok hv'
          simp only [Option.some.injEq] at h
          refine fin _ (.int .i64 (countOf c s 0 : Nat)) .int h.symm (fun w => ?_)
          rw [hargs, run_callFunc_extern e1 e2 e3 e4 e5]
          rw [Lib.run_countString, hdata, countOf_ok hc.1.2 hc.2 s 0 hc.1.1]
          simp [Result.andThen]
        · simp at h
      · simp at h
    · simp at h
  · simp at h

/-! ### Calls -/
def CallOk (P : Program) (call : CallX) : Prop := ∀ f args mem lo hi r, call f args mem lo hi = some r → (∃ fn, P.funcs[f]? = some fn ∧ fn.body.isSome = true ∧ (fn.name == "runtime.NumGoroutine") = false) ∧
  ∀ (φ : Nm) (vs : List Value) (A : List HP), Fun φ → Fresh φ lo hi → VRs φ args vs → MR φ mem A → r.2.2 ≤ hi → Sl.Spec P f vs.toArray A (EffPost φ lo r.2.2 r.1 r.2.1)
def MemoOk (call : CallX) (mm : List Memo) : Prop := ∀ m ∈ mm, call m.f m.args m.mem m.lo m.hi = some m.res
/-- A call of a function with a body, by its value. -/
theorem O1.callV {f : FuncId} {fn : Func} {fo : Operand} {xs : List Operand} {tys : Array TypeId} {fs vs : List Value} (hf : P.funcs[f]? = some fn) (hb : fn.body.isSome = true) (hne : (fn.name == "runtime.NumGoroutine") = false)
    (hfo : ev l fo = some (.func (.func f) fs.toArray #[])) (hx : evs l xs = some vs) (is : List Nat) {L : List HP} (ht : takes is A = some (L, A')) {q0 : Value → List HP → Prop} (hs : Sl.Spec P f (fs ++ vs).toArray L q0) :
    O1 P n C l A ⟨dst, .call ⟨.value fo, xs.toArray, tys⟩, ty, pos, af, g⟩ (fun v B => ∃ L', q0 v L' ∧ B = L' ++ A') := by
  intro a w i K Q hK
  obtain ⟨R, F, s, o, st⟩ := i.mem
  obtain ⟨F1, F2, h1, h2, hdj, s1, s2⟩ := Star.split (takes_star ht st)
  have hargs := i.holds.evs hx
  have hbn : ¬ fn.body = none := by intro e; simp [e] at hb
  have hne' : ¬ fn.name = "runtime.NumGoroutine" := by simpa using hne
  have hrun : (execOp a.eval ⟨dst, .call ⟨.value fo, xs.toArray, tys⟩, ty, pos, af, g⟩).run P w = .ok (.enter f (fs ++ vs).toArray) w := by
    have e2 : (xs.toArray.map a.eval) = vs.toArray := by simp [hargs]
    simp only [execOp, resolve, e2, i.holds.ev hfo, Deferred.ofValue, Sem.run_bind, Sem.run_pure, Result.andThen_ok, invoke]
    simp [callFunc, program, Sem.run, Pure.pure, hf, hne', hbn]
  unfold Oper.wp
  rw [hrun]
  show Calls P f (fs ++ vs).toArray w _
  refine Calls.mono (hs w R F1 ⟨o.r, fun b hb => o.f b (h1 b hb), fun b hb hF => o.d b hb (h1 b hF)⟩ s1) ?_
  rintro e w' ⟨v, L', hq, rfl, htu⟩
  obtain ⟨R', F', s', o', st'⟩ := Turns.frame o h1 h2 hdj htu s2
  refine hK v _ w' ⟨L', hq, rfl⟩ (fun d hd hdn => ?_) (fun hd => ?_)
  · subst hd
    exact Inv.put (A := L' ++ A') (w := w') ⟨i.size, i.defers, i.holds, R', F', s.trans s', o', st'⟩ hdn v
  · subst hd
    exact ⟨i.size, i.defers, i.holds, R', F', s.trans s', o', st'⟩
theorem ent_same {a b : Ent} (h : a.same b = true) : a = b := by
  cases a; cases b
  simp only [Ent.same, Bool.and_eq_true] at h
  obtain ⟨⟨h1, h2⟩, h3⟩ := h
  have e1 := Nat.eq_of_beq_eq_true h1
  have e2 := Nat.eq_of_beq_eq_true h2
  have e3 := sames_eq h3

  subst e1 e2 e3
  rfl
theorem takeMem_ok : ∀ {m b rest : Mem} {A : List HP}, takeMem m b = some rest → MR φ b A → ∃ is L A', takes is A = some (L, A') ∧ MR φ m L ∧ MR φ rest A'
  | [], b, rest, A, h, hm => by
    simp only [takeMem, Option.some.injEq] at h
    subst h
    exact ⟨[], [], A, rfl, trivial, hm⟩
  | p :: m, b, rest, A, h, hm => by
    simp only [takeMem] at h
    split at h
    · rename_i e r hp
      rw [cond_eq_ite] at h
      split at h
      · rename_i hs
        obtain ⟨i, q, A1, h1, h2, h3⟩ := hm.pull hp
        obtain ⟨is, L, A', h4, h5, h6⟩ := takeMem_ok h h3
        have e1 := ent_same hs
        refine ⟨i :: is, q :: L, A', by simp [takes, h1, h4], ⟨?_, h5⟩, h6⟩
        rw [show p = (p.1, e) by rw [← e1]]
        exact h2
      · simp at h
    · simp at h
theorem MR.append {m m' : Mem} {A A' : List HP} : MR φ m A → MR φ m' A' → MR φ (m ++ m') (A ++ A') := by
  intro h h'
  induction m generalizing A with
  | nil => cases A with | nil => exact h' | cons _ _ => exact h.elim
  | cons x m ih => cases A with | nil => exact h.elim | cons p A => exact ⟨h.1, ih h.2⟩
theorem look_ok {call : CallX} {f : Nat} {vs : List V} {r : Res} : ∀ {mm : List Memo}, MemoOk call mm → lookM mem lo hi f vs mm = some r →
    ∃ m ∈ mm, ∃ rest, m.f = f ∧ m.lo = lo ∧ m.hi = hi ∧ m.args = vs ∧ takeMem m.mem mem = some rest ∧ r = (m.res.1, m.res.2.1 ++ rest, m.res.2.2)
  | [], _, h => by simp [lookM] at h
  | m :: mm, hM, h => by
    simp only [lookM, cond_eq_ite] at h
    have next : lookM mem lo hi f vs mm = some r → ∃ m' ∈ m :: mm, ∃ rest, m'.f = f ∧ m'.lo = lo ∧ m'.hi = hi ∧ m'.args = vs ∧ takeMem m'.mem mem = some rest ∧ r = (m'.res.1, m'.res.2.1 ++ rest, m'.res.2.2) := fun h => by
      obtain ⟨m', h1, h2⟩ := look_ok (fun x hx => hM x (List.mem_cons_of_mem _ hx)) h
      exact ⟨m', List.mem_cons_of_mem _ h1, h2⟩
    split at h
    · rename_i hc
      simp only [Bool.and_eq_true] at hc
      split at h
      · rename_i rest hr
        simp only [Option.some.injEq] at h
        exact ⟨m, List.mem_cons_self .., rest, Nat.eq_of_beq_eq_true hc.1.1.1, Nat.eq_of_beq_eq_true hc.1.1.2, Nat.eq_of_beq_eq_true hc.1.2, sames_eq hc.2, hr, h.symm⟩
      · exact next h
    · exact next h
theorem call_ok (hX : XOk P XX) {call : CallX} (hC : CallOk P call) {mm : List Memo} (hM : MemoOk call mm) (hf : Fun φ) (hfr : Fresh φ lo hi) (hm : MR φ mem A) (hl : LR φ env l) {fo : Operand} {xs : List Operand} {f : Nat} {first us : List V} (hfo : opnd env fo = some (.fn f first)) (hus : opnds env xs = some us) {tys : Array TypeId} {r : Res}
    (h : eEnter XX call mm mem lo hi f (first ++ us) = some r) (hlo : r.2.2 ≤ hi) : O1 P n C l A ⟨dst, .call ⟨.value fo, xs.toArray, tys⟩, ty, pos, af, g⟩ (EffPost φ lo r.2.2 r.1 r.2.1) := by
  obtain ⟨vf, h1, h2⟩ := opnd_ok hl hfo
  obtain ⟨vs, h3, h4⟩ := opnds_ok hl hus
  cases h2 with
  | @fn _ _ fs p =>
    have hall := VRs.append p h4
    unfold eEnter at h
    split at h
    · split at h
      · rename_i rr hr
        simp only [Option.some.injEq] at h
        subst h
        obtain ⟨m, hmm, rest, e1, e2, e3, e4, e5, e6⟩ := look_ok hM hr
        obtain ⟨is, L, A', t1, t2, t3⟩ := takeMem_ok e5 hm
        obtain ⟨⟨fn, c1, c2, c3⟩, c4⟩ := hC _ _ _ _ _ _ (hM m hmm)
        subst e1 e2 e3 e6
        rw [← e4] at hall
        refine O1.mono (O1.callV c1 c2 c3 h1 h3 is t1 (c4 φ (fs ++ vs) L hf hfr hall t2 hlo)) ?_
        rintro v B ⟨L', ⟨ψ, g1, g2, g3, g4⟩, rfl⟩
        exact ⟨ψ, g1, g2, g3, MR.append g4 (t3.mono g1.sub)⟩
      · obtain ⟨⟨fn, c1, c2, c3⟩, c4⟩ := hC _ _ _ _ _ _ h
        have hall2 : ∃ is, takes is A = some (A, []) := by
          refine ⟨List.replicate A.length 0, ?_⟩
          clear hm
          induction A with
          | nil => rfl
          | cons p A ih => simp [takes, take1, List.replicate_succ, ih]
        obtain ⟨is, t1⟩ := hall2
        refine O1.mono (O1.callV c1 c2 c3 h1 h3 is t1 (c4 φ (fs ++ vs) A hf hfr hall hm hlo)) ?_
        rintro v B ⟨L', hq, rfl⟩
        simpa using hq
    · exact row_ok hX hf hm h1 h3 hall h
/-- All that turns memory. -/
theorem eff_ok (hT : TOk P TT) (hX : XOk P XX) {call : CallX} (hC : CallOk P call) {mm : List Memo} (hM : MemoOk call mm) (hf : Fun φ) (hfr : Fresh φ lo hi) (hm : MR φ mem A) (hl : LR φ env l) {op : Op} {r : Res} (h : effX TT XX call mm mem env lo hi op = some r) (hlo : r.2.2 ≤ hi) :
    O1 P n C l A ⟨dst, op, ty, pos, af, g⟩ (EffPost φ lo r.2.2 r.1 r.2.1) := by
  unfold effX at h
  split at h
  · exact alloc_ok hT hf hfr hm h hlo
  · exact box_ok hf hfr hm hl h hlo
  · exact lit_ok hT hf hfr hm hl h hlo
  · exact make_ok hT hf hfr hm hl h hlo
  · simp only [Option.some.injEq] at h
    subst h
    exact makeMap_ok hf hfr hm hlo
  · exact store_ok hT hf hm hl h
  · rename_i c
    obtain ⟨cal, xs, tys⟩ := c
    unfold eCall at h
    split at h
    · rename_i b hb
      simp only at hb
      subst hb
      unfold eBuiltin at h
      split at h
      · rename_i us hus
        split at h
        · rename_i t ts hts
          have hty : tys = (t :: ts).toArray := by rw [← hts]
          subst hty
          split at h
          · exact append_ok hT hf hfr hm hl hus h hlo
          · exact copy_ok hT hf hm hl hus h
          · exact clear_ok hT hf hm hl hus h
          · simp at h
        · simp at h
      · simp at h
    · rename_i fo hb
      simp only at hb
      subst hb
      split at h
      · rename_i f first hfo
        split at h
        · rename_i us hus
          exact call_ok hX hC hM hf hfr hm hl hfo hus h hlo
        · simp at h
      · simp at h
    · simp at h
  · simp at h
end
end Go.Proofs.YthjbkngecgbioaaGreatDoor.Xe

/- The evaluator tells the truth: what comes one behind the other; regions of open order. -/
namespace Go.Proofs.YthjbkngecgbioaaGreatDoor.Xe
open Go Go.Proofs.YthjbkngecgbioaaGreatDoor.Sl

/-! ### What is asked of a table's texts, once -/
def dstOk (n : Nat) (dst : Option Nat) : Bool := match dst with
  | some d => Nat.blt d n
  | none => true
def stepsX : Sch → Nat
  | .done => 0
  | .qt _ s => stepsX s + 1
  | .ef _ _ s => stepsX s + 1
  | .fork _ _ s _ _ t => Nat.max (stepsX s) (stepsX t) + 1
def isLoad (o : Op) : Bool := match o with
  | .load _ _ => true
  | _ => false
def chkOk (ops : Array Oper) (i : Nat) (chk T : List Nat) : Bool := T.all fun t => hasN chk t || waits .any ops 64 i t
def schOk (ops : Array Oper) : Sch → Array Bool → List Nat → Bool
  | .done, L, _ => (Region.ready .any ops L).isEmpty
  | .qt i s, L, T => (match ops[i]? with
    | some o => isQuiet o.op && Region.free .any ops L i && (Region.ready .any ops L).contains i && schOk ops s (L.setIfInBounds i true) (bif isLoad o.op then i :: T else T)
    | none => false)
  | .ef i chk s, L, T => (match ops[i]? with
    | some o => !isQuiet o.op && (Region.ready .any ops L == [i]) && chkOk ops i chk T && schOk ops s (L.setIfInBounds i true) T
    | none => false)
  | .fork i ci s j cj t, L, T => (match ops[i]? with
    | some o => !isQuiet o.op && chkOk ops i ci T && schOk ops s (L.setIfInBounds i true) T
    | none => false) && (match ops[j]? with
    | some o => !isQuiet o.op && chkOk ops j cj T && schOk ops t (L.setIfInBounds j true) T
    | none => false) && (Region.ready .any ops L == [i, j])
def regOk (ops : Array Oper) (s : Sch) : Bool := Region.noSelect ops && Nat.ble (stepsX s) ops.size && schOk ops s (Array.replicate ops.size false) []

def putE (dst : Option Nat) (v : Value) (l : Env) : Env := match dst with
  | some d => (d, v) :: l
  | none => l
section
variable {P : Program} {TT : Nat → Option Ty} {XX : Nat → Nat} {φ ψ χ : Nm} {mem mem' : Mem} {env env' : Vars} {A A' : List HP} {l : Env} {u : V} {v : Value} {dst : Option Tmp} {ty : TypeId} {pos : String} {af : Array Edge} {g : Option (Nat × Bool)} {w : World} {a : Act} {n lo lo' hi : Nat} {C : Ctx} {Q : Pst} {ops : Array Oper}
theorem Inv.putO (i : Inv n C l A a w) (hd : dstOk n dst = true) (v : Value) : Inv n C (putE dst v l) A (a.put dst v) w := by
  cases dst with
  | none => exact ⟨i.size, i.defers, i.holds, i.mem⟩
  | some d => exact i.put hd v
theorem LR.put (hl : LR φ env l) (hv : VR φ u v) : LR φ (setX env dst u) (putE dst v l) := by
  cases dst with
  | none => exact hl
  | some d => exact ⟨rfl, hv, hl⟩
theorem guard_ok (hl : LR φ env l) (ha : Holds a l) {o : Oper} {b : Bool} (h : wantX ops.toList env o.guard = some b) : Region.wanted o (yielded ops a.tmps) = b := by
  unfold wantX at h
  unfold Region.wanted
  split at h
  · rename_i hg
    simp only [Option.some.injEq] at h
    rw [hg]; exact h
  · rename_i j c hg
    rw [hg]
    simp only
    unfold guardX at h
    split at h
    · rename_i o' ho'
      split at h
      · rename_i t ht
        have hj : (ops[j]?).bind (·.dst) = some t := by
          have : ops[j]? = some o' := by simpa using ho'
          simp [this, ht]
        split at h
        · rename_i c' hc'
          simp only [Option.some.injEq] at h
          obtain ⟨v, h1, h2⟩ := hl.find hc'
          cases h2
          rw [yields hj (ha t _ h1), ← h]
          cases c' <;> cases c <;> rfl
        · rename_i hc'
          simp only [Option.some.injEq] at h
          obtain ⟨v, h1, h2⟩ := hl.find hc'
          cases h2 with
          | tup p =>
            cases p
            have h3 := ha t _ h1
            have : yielded ops a.tmps j = none := by
              unfold yielded
              rw [hj]
              simp only [Option.bind_some]
              cases hc : a.tmps[t]? with
              | none => rfl
              | some x => simp [Array.getD_eq_getD_getElem?, hc] at h3; subst h3; rfl
            rw [this, ← h]
            rfl
        · simp at h
      · simp at h
    · simp at h
theorem star_of {p : HP} {i : Nat} {R F : Foot} (ht : take1 i A = some (p, A')) (hs : Star A w R F) : Star [p] w R F := by
  obtain ⟨F1, F2, h1, _, _, h4, _⟩ := take1_star ht hs
  exact ⟨F1, fun _ => False, h1, fun _ h => h.elim, fun _ _ h => h, h4, trivial⟩
/-- A quiet operation, run. -/
theorem Quiet.run {op : Op} (h : Quiet P φ mem env A l op u) : ∃ v, VR φ u v ∧ ∀ dst ty pos af g (a : Act) w R F, Holds a l → Ok w R F → Star A w R F → (execOp a.eval ⟨dst, op, ty, pos, af, g⟩).run P w = .ok (.value v) w := by
  obtain ⟨v, A0, h1, ⟨h2⟩, h3⟩ := h
  refine ⟨v, h1, fun dst ty pos af g a w R F ha ok hs => h3 dst ty pos af g a w R F ha ok ?_⟩
  rcases h2 with rfl | ⟨i, p, A', _, _, ht, _, _, rfl, _⟩
  · trivial
  · exact star_of ht hs
/-- One behind the other. -/
theorem list_ok (hT : TOk P TT) (hX : XOk P XX) {call : CallX} (hC : CallOk P call) : ∀ {r : List Oper} {env : Vars} {mem : Mem} {lo : Nat} {φ : Nm} {l : Env} {A : List HP}, Fun φ → Fresh φ lo hi → LR φ env l → MR φ mem A → (∀ o ∈ r, dstOk n o.dst = true) →
    listX TT XX call hi ops.toList r env mem lo = some (env', mem', lo') → (∀ ψ l' A', Ext φ ψ lo lo' → Fun ψ → LR ψ env' l' → MR ψ mem' A' → JN n C (Q .normal) l' A') → JL P n C ops Q r l A
  | [], env, mem, lo, φ, l, A, hf, _, hl, hm, _, h, hk => by
    simp only [listX, Option.some.injEq, Prod.mk.injEq] at h
    obtain ⟨rfl, rfl, rfl⟩ := h
    exact JL.nil (hk φ l A Ext.refl hf hl hm)
  | o :: r, env, mem, lo, φ, l, A, hf, hfr, hl, hm, hd, h, hk => by
    have hdo := hd o (List.mem_cons_self ..)
    have hdr : ∀ o ∈ r, dstOk n o.dst = true := fun x hx => hd x (List.mem_cons_of_mem _ hx)
    simp only [listX] at h
    intro a w iv
    unfold wpList
    split at h
    · rename_i hw
      rw [if_pos (guard_ok hl iv.holds hw)]
      refine .inl ?_
      obtain ⟨dst, op, ty, pos, af, g⟩ := o
      split at h
      · rename_i u hu
        obtain ⟨v, h1, h2⟩ := (quiet_ok (A := A) (l := l) hT hl hm hf hu).run
        obtain ⟨R, F, s, ok, st⟩ := iv.mem
        unfold Oper.wp
        rw [h2 dst ty pos af g a w R F iv.holds ok st]
        exact list_ok hT hX hC hf hfr (hl.put h1) hm hdr h hk _ _ (Inv.putO iv hdo v)
      · split at h
        · rename_i r1 hr1
          rw [cond_eq_ite] at h
          split at h
          · rename_i hle
            refine eff_ok (P := P) hT hX hC (mm := []) (fun _ h => by simp at h) hf hfr hm hl hr1 (Nat.le_of_ble_eq_true hle) a w iv _ Q fun v B w' hq h1 h2 => ?_
            obtain ⟨ψ, e1, e2, e3, e4⟩ := hq
            have iv' : Inv n C (putE dst v l) B (a.put dst v) w' := by
              cases dst with
              | none => exact h2 rfl
              | some d => exact h1 d rfl hdo
            exact list_ok hT hX hC e2 (e1.fresh hfr) ((hl.mono e1.sub).put e3) e4 hdr h (fun χ l' A' g1 g2 g3 g4 => hk χ l' A' (e1.trans g1) g2 g3 g4) _ _ iv'
          · simp at h
        · simp at h
    · rename_i hw
      rw [if_neg (by rw [guard_ok hl iv.holds hw]; simp)]
      exact list_ok hT hX hC hf hfr (hl.put (.tup .nil)) hm hdr h hk _ _ (Inv.putO iv hdo undef)
    · simp at h

/-! ### Open order -/
/-- Is a listed operation one that may write, and waits for i? -/
def Dn (ops : Array Oper) (L : Array Bool) (i : Nat) : Prop := ∃ s o, ops[s]? = some o ∧ L.getD s false = true ∧ isQuiet o.op = false ∧ waits .any ops 64 s i = true
def SO (ops : Array Oper) (obs : List (Nat × HP)) (L : Array Bool) (w : World) : Prop := ∀ y ∈ obs, Dn ops L y.1 ∨ SS [y.2] w
def KI (ops : Array Oper) (L : Array Bool) (obs : List (Nat × HP)) (A : List HP) : Prop := ∀ y ∈ obs, Dn ops L y.1 ∨ ∃ j A', take1 j A = some (y.2, A')
def obsR (φ : Nm) : Obs → List (Nat × HP) → Prop
  | [], [] => True
  | x :: ob, y :: obs => x.1 = y.1 ∧ ER φ x.2 y.2 ∧ obsR φ ob obs
  | _, _ => False
theorem obsR.mono (h : ∀ k b c, φ k b c → ψ k b c) : ∀ {ob : Obs} {obs : List (Nat × HP)}, obsR φ ob obs → obsR ψ ob obs
  | [], [], _ => trivial
  | _ :: _, _ :: _, ⟨a, b, c⟩ => ⟨a, b.mono h, obsR.mono h c⟩
theorem Dn.mono {L : Array Bool} {i j : Nat} (h : Dn ops L j) : Dn ops (L.setIfInBounds i true) j := by
  obtain ⟨s, o, h1, h2, h3, h4⟩ := h
  exact ⟨s, o, h1, getD_set_true h2, h3, h4⟩
theorem KI.mono {L : Array Bool} {i : Nat} {obs : List (Nat × HP)} (h : KI ops L obs A) : KI ops (L.setIfInBounds i true) obs A := fun y hy => (h y hy).imp Dn.mono id
theorem KI.so {L : Array Bool} {obs : List (Nat × HP)} (h : KI ops L obs A) (iv : Inv n C l A a w) : SO ops obs L w := fun y hy => (h y hy).imp id fun ⟨j, A', ht⟩ => by
  obtain ⟨R, F, _, ok, st⟩ := iv.mem
  exact ⟨R, F, ok, star_of ht st⟩
theorem Ext.widen {a b c d : Nat} (h : Ext φ ψ a b) (h1 : c ≤ a) (h2 : b ≤ d) : Ext φ ψ c d := ⟨h.sub, fun k x y z => (h.new k x y z).imp id (fun q => ⟨Nat.le_trans h1 q.1, Nat.lt_of_lt_of_le q.2 h2⟩), Nat.le_trans h1 (Nat.le_trans h.le h2)⟩
theorem Ext.both {a b : Nat} (h : Ext φ ψ a b) (g : Ext ψ χ a b) : Ext φ χ a b := ⟨fun k x y z => g.sub _ _ _ (h.sub _ _ _ z), fun k x y z => by
  rcases g.new k x y z with q | q
  · exact h.new k x y q
  · exact .inr q, h.le⟩
/-- Each operation that is still to come has names of its own. -/
def FreshL (φ : Nm) (lo0 q : Nat) (N : Nat) (L : Array Bool) : Prop := ∀ i, i < N → L.getD i false = false → Fresh φ (lo0 + i * q) (lo0 + i * q + q)
theorem slots_apart {lo0 q i j : Nat} (h : i < j) : lo0 + i * q + q ≤ lo0 + j * q := by
  have : (i + 1) * q ≤ j * q := Nat.mul_le_mul_right q h
  rw [Nat.add_mul, Nat.one_mul] at this
  omega
theorem getD_set_self {L : Array Bool} {i : Nat} (h : i < L.size) : (L.setIfInBounds i true).getD i false = true := by
  simp [Array.getD_eq_getD_getElem?, h]
theorem getD_set_back {L : Array Bool} {i j : Nat} (h : (L.setIfInBounds i true).getD j false = false) : L.getD j false = false := by
  by_cases hij : i = j
  · subst hij
    by_cases hlt : i < L.size
    · rw [getD_set_self hlt] at h; cases h
    · simp [Array.getD_eq_getD_getElem?, hlt]
  · rw [getD_set_ne false hij] at h; exact h
theorem FreshL.step {lo0 q N i r : Nat} {L : Array Bool} (hF : FreshL φ lo0 q N L) (e : Ext φ ψ (lo0 + i * q) r) (hr : r ≤ lo0 + i * q + q) (hi : i < L.size) : FreshL ψ lo0 q N (L.setIfInBounds i true) := by
  intro j hj hun k b c hk
  have hji : i ≠ j := fun e => by subst e; rw [getD_set_self hi] at hun; cases hun
  rcases e.new k b c hk with h | h
  · exact hF j hj (getD_set_back hun) k b c h
  · rcases Nat.lt_or_gt_of_ne hji with h1 | h1
    · have := slots_apart (lo0 := lo0) (q := q) h1; exact .inl (by omega)
    · have := slots_apart (lo0 := lo0) (q := q) h1; exact .inr (by omega)
theorem FreshL.same {lo0 q N i : Nat} {L : Array Bool} (hF : FreshL φ lo0 q N L) : FreshL φ lo0 q N (L.setIfInBounds i true) := fun j hj hun => hF j hj (getD_set_back hun)
theorem hasN_iff : ∀ {l : List Nat} {k : Nat}, hasN l k = true ↔ k ∈ l
  | [], k => by simp [hasN]
  | j :: l, k => by
    simp only [hasN, cond_eq_ite, List.mem_cons]
    split
    · rename_i h; simp [Nat.eq_of_beq_eq_true h]
    · rename_i h
      rw [hasN_iff]
      constructor
      · exact .inr
      · rintro (rfl | h2)
        · exact absurd (Nat.beq_refl k) h
        · exact h2
/-- What was read is kept. -/
theorem kept_ok {chk : List Nat} (hfψ : Fun ψ) (hsub : ∀ k b c, φ k b c → ψ k b c) (hm : MR ψ mem A) : ∀ {ob : Obs} {obs : List (Nat × HP)}, obsR φ ob obs → keptX mem chk ob = true → ∀ y ∈ obs, y.1 ∈ chk → ∃ j A', take1 j A = some (y.2, A')
  | [], [], _, _, y, hy, _ => by simp at hy
  | x :: ob, y0 :: obs, ⟨h1, h2, h3⟩, h, y, hy, hc => by
    simp only [keptX, Bool.and_eq_true, Bool.or_eq_true] at h
    rcases List.mem_cons.1 hy with rfl | hy
    · rcases h.1 with h4 | h4
      · rw [h1] at h4
        simp [hasN_iff.2 hc] at h4
      · split at h4
        · rename_i e he
          simp only [Bool.and_eq_true] at h4
          have e1 := ent_same h4.1
          subst e1
          obtain ⟨i, p, A', g1, g2⟩ := hm.find he
          exact ⟨i, A', by rw [g1, ER.unique hfψ (x := (x.2.1, x.2.2)) h4.2 g2 (h2.mono hsub)]⟩
        · simp at h4
    · exact kept_ok hfψ hsub hm h3 h.2 y hy hc
theorem wpOp_some {i : Nat} {o : Oper} {K : Act → World → Prop} (ho : ops[i]? = some o) : wpOp P ops Q i K a w = if Region.wanted o (yielded ops a.tmps) then o.wp P a w K Q ∨ (o.asks P a w ∧ LetsOut Q) else K (a.put o.dst undef) w := by
  unfold wpOp; rw [ho]
end
end Go.Proofs.YthjbkngecgbioaaGreatDoor.Xe

/- The evaluator tells the truth: regions of open order, gone through. -/
namespace Go.Proofs.YthjbkngecgbioaaGreatDoor.Xe
open Go Go.Proofs.YthjbkngecgbioaaGreatDoor.Sl

section
variable {P : Program} {TT : Nat → Option Ty} {XX : Nat → Nat} {φ ψ χ : Nm} {mem mem' : Mem} {env env' : Vars} {A A' : List HP} {l : Env} {u : V} {v : Value} {dst : Option Tmp} {ty : TypeId} {pos : String} {af : Array Edge} {g : Option (Nat × Bool)} {w : World} {a : Act} {n lo lo' hi : Nat} {C : Ctx} {Q : Pst} {ops : Array Oper}
theorem subEnv_ok : ∀ {a b : Vars} {lb : Env}, LR ψ b lb → subEnv b a = true → ∃ la, LR ψ a la ∧ ∀ t v, get la t = some v → get lb t = some v
  | [], _, _, _, _ => ⟨[], trivial, fun t v h => by simp [Sl.get] at h⟩
  | (t, u) :: a, b, lb, hb, h => by
    simp only [subEnv, Bool.and_eq_true] at h
    obtain ⟨h1, h2⟩ := h
    split at h1
    · rename_i u' hu
      have e1 := same_eq h1
      subst e1
      obtain ⟨v, h3, h4⟩ := hb.find hu
      obtain ⟨la, h5, h6⟩ := subEnv_ok hb h2
      refine ⟨(t, v) :: la, ⟨rfl, h4, h5⟩, fun t' v' hg => ?_⟩
      simp only [Sl.get] at hg
      split at hg
      · rename_i he
        simp only [Option.some.injEq] at hg
        subst hg
        rw [← Nat.eq_of_beq_eq_true he]; exact h3
      · exact h6 t' v' hg
    · simp at h1
theorem subMem_ok : ∀ {a b : Mem} {B : List HP}, MR ψ b B → subMem a b = true → ∃ is Aa rest, takes is B = some (Aa, rest) ∧ MR ψ a Aa
  | [], _, B, _, _ => ⟨[], [], B, rfl, trivial⟩
  | p :: a, b, B, hb, h => by
    simp only [subMem] at h
    split at h
    · rename_i e r hp
      simp only [Bool.and_eq_true] at h
      obtain ⟨i, q, B1, h1, h2, h3⟩ := hb.pull hp
      obtain ⟨is, Aa, rest, h4, h5⟩ := subMem_ok h3 h.2
      refine ⟨i :: is, q :: Aa, rest, by simp [takes, h1, h4], ?_, h5⟩
      rw [show p = (p.1, e) by rw [← ent_same h.1]]
      exact h2
    · simp at h
theorem Inv.sub {la lb : Env} {Aa B rest : List HP} {is : List Nat} (iv : Inv n C lb B a w) (h : ∀ t v, get la t = some v → get lb t = some v) (ht : takes is B = some (Aa, rest)) : Inv n C la Aa a w := by
  obtain ⟨R, F, s, ok, st⟩ := iv.mem
  obtain ⟨F1, F2, h1, _, _, h2, _⟩ := Star.split (takes_star ht st)
  exact ⟨iv.size, iv.defers, fun t v hg => iv.holds t v (h t v hg), R, F, s, ok, Star.monoF h1 h2⟩
theorem memoC_ok {call : CallX} {mm : List Memo} (h : MemoOk call mm) {c : Callee} {xs : List Operand} : MemoOk call (memoC XX call env mem lo hi c xs mm) := by
  unfold memoC
  split
  · split
    · split
      · split
        · split
          · rename_i hc
            intro m hm
            rcases List.mem_cons.1 hm with rfl | hm
            · exact hc
            · exact h m hm
          · exact h
        · exact h
      · exact h
    · exact h
  · exact h
theorem memoX_ok {call : CallX} {mm : List Memo} {lo0 q i : Nat} {os : List Oper} (h : MemoOk call mm) : MemoOk call (memoX XX call os lo0 q i env mem mm) := by
  unfold memoX
  split
  · split
    · exact memoC_ok h
    · exact h
  · exact h
theorem bothX_eq {α : Type} (mm : List Memo) (k : List Memo → Option α) : bothX mm k = k mm := by cases mm <;> rfl
theorem reads_load {op : Op} {k : Nat} (h : readsX env op = some k) : isLoad op = true := by
  unfold readsX at h
  split at h
  · rfl
  · simp at h
theorem first_S {i : Nat} {o : Oper} (ho : ops[i]? = some o) (hq : isQuiet o.op = true) {obs : List (Nat × HP)} (L : Array Bool) (j : Nat) (w : World) (hsz : L.size = ops.size) (hj : j < ops.size) (h : SO ops obs ((L.setIfInBounds i true).setIfInBounds j true) w) : SO ops obs (L.setIfInBounds j true) w := by
  intro y hy
  refine (h y hy).imp (fun ⟨s, os, g1, g2, g3, g4⟩ => ⟨s, os, g1, ?_, g3, g4⟩) id
  have hsi : i ≠ s := fun e => by
    subst e
    rw [ho] at g1
    injection g1 with g1
    subst g1
    rw [hq] at g3
    cases g3
  by_cases hsj : j = s
  · subst hsj; exact getD_set_self (by omega)
  · rw [getD_set_ne false hsj] at g2 ⊢
    rw [getD_set_ne false hsi] at g2
    exact g2
theorem first_C {i : Nat} {o : Oper} (ho : ops[i]? = some o) (hq : isQuiet o.op = true) {obs : List (Nat × HP)} {p : HP} (L : Array Bool) (j : Nat) (w : World) (hD : Down .any ops L) (hun : L.getD i false = false) (hj : j ∈ Region.ready .any ops L)
    (h : SO ops ((i, p) :: obs) ((L.setIfInBounds i true).setIfInBounds j true) w) : SS [p] w := by
  rcases h (i, p) (List.mem_cons_self ..) with ⟨s, os, g1, g2, g3, g4⟩ | h
  · exfalso
    have hsi : i ≠ s := fun e => by
      subst e
      rw [ho] at g1
      injection g1 with g1
      subst g1
      rw [hq] at g3
      cases g3
    obtain ⟨_, oj, hoj, hall⟩ := mem_ready.1 hj
    have key : L.getD i false = true := by
      by_cases hsj : j = s
      · subst hsj
        exact hD.waits 64 j i g4 (fun o' ho' e he hb => by rw [hoj] at ho'; injection ho' with ho'; subst ho'; exact hall e he hb)
      · rw [getD_set_ne false hsj, getD_set_ne false hsi] at g2
        exact hD.waits 64 s i g4 (fun o' ho' e he hb => hD s o' ho' g2 e he hb)
    rw [hun] at key
    cases key
  · exact h
/-- What may write comes up now. -/
theorem step_ok (hT : TOk P TT) (hX : XOk P XX) {call : CallX} (hC : CallOk P call) (hd : ∀ o ∈ ops.toList, dstOk n o.dst = true) {lo0 q i f : Nat} {chk T : List Nat} {mm : List Memo} {ob : Obs} {obs : List (Nat × HP)} {L : Array Bool} {o : Oper} {r : Vars × Mem} (ho : ops[i]? = some o) (heff : isQuiet o.op = false) (hchk : chkOk ops i chk T = true)
    (hsz : L.size = ops.size) (hTo : ∀ y ∈ obs, y.1 ∈ T) (hf : Fun φ) (hF : FreshL φ lo0 q ops.size L) (hun : L.getD i false = false) (hl : LR φ env l) (hm : MR φ mem A) (hM : MemoOk call mm) (hob : obsR φ ob obs) (hki : KI ops L obs A)
    (h : stepX TT XX call mm ops.toList lo0 q i chk ob env mem = some r)
    (hK : ∀ (ψ : Nm) l' A' a' w', Ext φ ψ lo0 (lo0 + ops.size * q) → Fun ψ → FreshL ψ lo0 q ops.size (L.setIfInBounds i true) → LR ψ r.1 l' → MR ψ r.2 A' → obsR ψ ob obs → KI ops (L.setIfInBounds i true) obs A' → Inv n C l' A' a' w' → wpAnyK P .any ops Q (SO ops obs) f (L.setIfInBounds i true) a' w') (a : Act) (w : World) (iv : Inv n C l A a w) :
    wpOp P ops Q i (fun a' w' => SO ops obs (L.setIfInBounds i true) w' ∧ wpAnyK P .any ops Q (SO ops obs) f (L.setIfInBounds i true) a' w') a w := by
  have hi : i < ops.size := (Array.getElem?_eq_some_iff.1 ho).1
  have hdo := hd o (by have := Array.mem_of_getElem? ho; simpa using this)
  have hN : lo0 + i * q + q ≤ lo0 + ops.size * q := slots_apart hi
  unfold stepX at h
  rw [show ops.toList[i]? = some o by simpa using ho] at h
  simp only at h
  rw [wpOp_some ho]
  split at h
  · rename_i hw
    rw [if_pos (guard_ok hl iv.holds hw)]
    split at h
    · rename_i r0 hr0
      rw [cond_eq_ite] at h
      split at h
      · rename_i hc
        simp only [Bool.and_eq_true] at hc
        simp only [Option.some.injEq] at h
        subst h
        have hle := Nat.le_of_ble_eq_true hc.1
        obtain ⟨dst, op, ty, pos, af, g⟩ := o
        refine .inl (eff_ok (P := P) hT hX hC hM hf (hF i hi hun) hm hl hr0 hle a w iv _ Q fun v B w' hq h1 h2 => ?_)
        obtain ⟨ψ, e1, e2, e3, e4⟩ := hq
        have iv' : Inv n C (putE dst v l) B (a.put dst v) w' := by
          cases dst with
          | none => exact h2 rfl
          | some d => exact h1 d rfl hdo
        have hki' : KI ops (L.setIfInBounds i true) obs B := fun y hy => by
          have h3 := List.all_eq_true.1 hchk y.1 (hTo y hy)
          simp only [Bool.or_eq_true] at h3
          rcases h3 with h3 | h3
          · exact .inr (kept_ok e2 e1.sub e4 hob hc.2 y hy (hasN_iff.1 h3))
          · exact .inl ⟨i, _, ho, getD_set_self (by omega), heff, h3⟩
        exact ⟨KI.so hki' iv', hK ψ _ _ _ _ (e1.widen (Nat.le_add_right _ _) (Nat.le_trans hle hN)) e2 (hF.step e1 hle (by omega)) ((hl.mono e1.sub).put e3) e4 (hob.mono e1.sub) hki' iv'⟩
      · simp at h
    · simp at h
  · rename_i hw
    rw [if_neg (by rw [guard_ok hl iv.holds hw]; simp)]
    simp only [Option.some.injEq] at h
    subst h
    have iv' := Inv.putO (dst := o.dst) iv hdo undef
    have hki' : KI ops (L.setIfInBounds i true) obs A := KI.mono hki
    exact ⟨KI.so hki' iv', hK φ _ _ _ _ ⟨fun _ _ _ h => h, fun _ _ _ h => .inl h, Nat.le_add_right _ _⟩ hf hF.same (hl.put (.tup .nil)) hm hob hki' iv'⟩
  · simp at h
theorem any_ok (hT : TOk P TT) (hX : XOk P XX) {call : CallX} (hC : CallOk P call) (hsel : Region.noSelect ops = true) (hd : ∀ o ∈ ops.toList, dstOk n o.dst = true) (hQ : ∀ c a w d v, Q (.panic c) (a.put d v) w → Q (.panic c) a w) {lo0 q : Nat} :
    ∀ (s : Sch) (L : Array Bool) (T : List Nat) (mm : List Memo) (ob : Obs) (env : Vars) (mem : Mem) (φ : Nm) (l : Env) (A : List HP) (obs : List (Nat × HP)) (fuel : Nat) (env' : Vars) (mem' : Mem), schOk ops s L T = true → stepsX s ≤ fuel → Down .any ops L → L.size = ops.size → (∀ y ∈ obs, y.1 ∈ T) →
      Fun φ → FreshL φ lo0 q ops.size L → LR φ env l → MR φ mem A → MemoOk call mm → obsR φ ob obs → KI ops L obs A → anyX TT XX call ops.toList lo0 q s mm ob env mem = some (env', mem') →
      (∀ ψ l' A', Ext φ ψ lo0 (lo0 + ops.size * q) → Fun ψ → LR ψ env' l' → MR ψ mem' A' → JN n C (Q .normal) l' A') → ∀ a w, Inv n C l A a w → wpAnyK P .any ops Q (SO ops obs) fuel L a w := by
  have refl : ∀ φ : Nm, Ext φ φ lo0 (lo0 + ops.size * q) := fun φ => ⟨fun _ _ _ h => h, fun _ _ _ h => .inl h, Nat.le_add_right _ _⟩
  intro s
  induction s with
  | done =>
    intro L T mm ob env mem φ l A obs fuel env' mem' hs _ _ _ _ hf _ hl hm _ _ _ hx hk a w iv
    simp only [schOk, List.isEmpty_iff] at hs
    simp only [anyX, Option.some.injEq, Prod.mk.injEq] at hx
    obtain ⟨rfl, rfl⟩ := hx
    have hq := hk φ l A (refl φ) hf hl hm a w iv
    cases fuel with
    | zero => exact ⟨hs, hq⟩
    | succ f => exact ⟨fun _ => hq, by rw [hs]; simp⟩
  | qt i s ih =>
    intro L T mm ob env mem φ l A obs fuel env' mem' hs hfu hD hsz hTo hf hF hl hm hM hob hki hx hk a w iv
    simp only [schOk] at hs
    split at hs
    · rename_i o ho
      simp only [Bool.and_eq_true] at hs
      obtain ⟨⟨⟨h1, h2⟩, h3⟩, h4⟩ := hs
      simp only [stepsX] at hfu
      obtain ⟨f, rfl⟩ : ∃ f, fuel = f + 1 := ⟨fuel - 1, by omega⟩
      have hi : i < ops.size := (Array.getElem?_eq_some_iff.1 ho).1
      have hsz' : (L.setIfInBounds i true).size = ops.size := by simpa using hsz
      have hrd : i ∈ Region.ready .any ops L := by simpa using h3
      have hfree := Region.free_spec ho h2
      have hdown := hD.set hrd
      have hdo := hd o (by have := Array.mem_of_getElem? ho; simpa using this)
      have hTsub : ∀ y ∈ T, y ∈ (bif isLoad o.op then i :: T else T) := fun y hy => by
        cases isLoad o.op
        · exact hy
        · exact List.mem_cons_of_mem _ hy
      have hlt : ∀ {j : Nat}, j ∈ Region.ready .any ops L → j < ops.size := fun {j} hj => by
        obtain ⟨_, oj, hoj, _⟩ := mem_ready.1 hj
        exact (Array.getElem?_eq_some_iff.1 hoj).1
      simp only [anyX] at hx
      rw [show ops.toList[i]? = some o by simpa using ho] at hx
      simp only [h1, Bool.not_true, cond_false] at hx
      split at hx
      · rename_i hw
        split at hx
        · rename_i u hu
          obtain ⟨v, A0, q1, ⟨q2⟩, q3⟩ := quiet_ok (A := A) (l := l) hT hl hm hf hu
          by_cases hnote : ∃ k e, readsX env o.op = some k ∧ find mem k = some e
          · obtain ⟨k, e, r1, r2⟩ := hnote
            have hob2 : obX mem env i o.op ob = (i, k, e) :: ob := by simp [obX, r1, r2]
            rw [hob2] at hx
            obtain ⟨p, ⟨jt, At, t1⟩, t2, t3⟩ : ∃ p, (∃ j A', take1 j A = some (p, A')) ∧ ER φ (k, e) p ∧ (A0 = [] ∨ A0 = [p]) := by
              rcases q2 with rfl | ⟨j, p, A', k', e', g1, g2, g3, rfl, g4⟩
              · obtain ⟨j, p, A', g1, g2⟩ := hm.find r2
                exact ⟨p, ⟨j, A', g1⟩, g2, .inl rfl⟩
              · have g5 := g4 h1
                rw [r1] at g5
                injection g5 with g5
                subst g5
                rw [r2] at g2
                injection g2 with g2
                subst g2
                exact ⟨p, ⟨j, A', g1⟩, g3, .inr rfl⟩
            have hki' : KI ops (L.setIfInBounds i true) ((i, p) :: obs) A := fun y hy => by
              rcases List.mem_cons.1 hy with rfl | hy
              · exact .inr ⟨jt, At, t1⟩
              · exact KI.mono hki y hy
            have hci : SS [p] w := by
              obtain ⟨R, F, _, ok, st⟩ := iv.mem
              exact ⟨R, F, ok, star_of t1 st⟩
            refine wpAnyK_mono (S := SO ops ((i, p) :: obs)) (fun L w h y hy => h y (List.mem_cons_of_mem _ hy)) _ _ _ _ ?_
            refine wpAnyK_first (Ci := SS [p]) (v := v) ho (Region.noSelect_spec hsel) (fun c a w => hQ c a w _ _) hi (fun L' j w' hD' hsz'' hun hj _ h => ⟨first_S ho h1 L' j w' hsz'' (by obtain ⟨_, oj, hoj, _⟩ := mem_ready.1 hj; exact (Array.getElem?_eq_some_iff.1 hoj).1) h, first_C ho h1 L' j w' hD' hun hj h⟩) f L a w hD hsz hfree hrd ?_ hci (KI.so hki' iv) ?_
            · refine .inl ⟨guard_ok hl iv.holds hw, fun w' hS => ?_⟩
              obtain ⟨R, F, ok, st⟩ := hS
              obtain ⟨dst, op, ty, pos, af, g⟩ := o
              refine q3 dst ty pos af g a w' R F iv.holds ok ?_
              rcases t3 with rfl | rfl
              · trivial
              · exact st
            · refine ih (L.setIfInBounds i true) _ mm ((i, k, e) :: ob) _ mem φ (putE o.dst v l) A ((i, p) :: obs) f env' mem' h4 (by omega) hdown hsz' (fun y hy => ?_) hf hF.same (hl.put q1) hm hM ⟨rfl, t2, hob⟩ hki' hx hk _ _ (Inv.putO iv hdo v)
              rcases List.mem_cons.1 hy with rfl | hy
              · simp [reads_load r1]
              · exact hTsub _ (hTo y hy)
          · have hob2 : obX mem env i o.op ob = ob := by
              unfold obX
              split
              · rename_i k hk'
                split
                · rename_i e he; exact absurd ⟨k, e, hk', he⟩ hnote
                · rfl
              · rfl
            rw [hob2] at hx
            have hA0 : A0 = [] := by
              rcases q2 with rfl | ⟨j, p, A', k', e', g1, g2, g3, rfl, g4⟩
              · rfl
              · exact absurd ⟨k', e', g4 h1, g2⟩ hnote
            subst hA0
            have hki' : KI ops (L.setIfInBounds i true) obs A := KI.mono hki
            refine wpAnyK_first (Ci := fun _ => True) (v := v) ho (Region.noSelect_spec hsel) (fun c a w => hQ c a w _ _) hi (fun L' j w' hD' hsz'' hun hj _ h => ⟨first_S ho h1 L' j w' hsz'' (by obtain ⟨_, oj, hoj, _⟩ := mem_ready.1 hj; exact (Array.getElem?_eq_some_iff.1 hoj).1) h, trivial⟩) f L a w hD hsz hfree hrd ?_ trivial (KI.so hki' iv) ?_
            · refine .inl ⟨guard_ok hl iv.holds hw, fun w' _ => ?_⟩
              obtain ⟨dst, op, ty, pos, af, g⟩ := o
              exact q3 dst ty pos af g a w' (fun _ => False) (fun _ => False) iv.holds ⟨fun _ h => h.elim, fun _ h => h.elim, fun _ h => h.elim⟩ trivial
            · exact ih (L.setIfInBounds i true) _ mm ob _ mem φ (putE o.dst v l) A obs f env' mem' h4 (by omega) hdown hsz' (fun y hy => hTsub _ (hTo y hy)) hf hF.same (hl.put q1) hm hM hob hki' hx hk _ _ (Inv.putO iv hdo v)
        · simp at hx
      · rename_i hw
        have hki' : KI ops (L.setIfInBounds i true) obs A := KI.mono hki
        refine wpAnyK_first (Ci := fun _ => True) (v := undef) ho (Region.noSelect_spec hsel) (fun c a w => hQ c a w _ _) hi (fun L' j w' hD' hsz'' hun hj _ h => ⟨first_S ho h1 L' j w' hsz'' (by obtain ⟨_, oj, hoj, _⟩ := mem_ready.1 hj; exact (Array.getElem?_eq_some_iff.1 hoj).1) h, trivial⟩) f L a w hD hsz hfree hrd (.inr ⟨guard_ok hl iv.holds hw, rfl⟩) trivial (KI.so hki' iv) ?_
        exact ih (L.setIfInBounds i true) _ mm ob _ mem φ (putE o.dst undef l) A obs f env' mem' h4 (by omega) hdown hsz' (fun y hy => hTsub _ (hTo y hy)) hf hF.same (hl.put (.tup .nil)) hm hM hob hki' hx hk _ _ (Inv.putO iv hdo undef)
      · simp at hx
    · simp at hs
  | ef i chk s ih =>
    intro L T mm ob env mem φ l A obs fuel env' mem' hs hfu hD hsz hTo hf hF hl hm hM hob hki hx hk a w iv
    simp only [schOk] at hs
    split at hs
    · rename_i o ho
      simp only [Bool.and_eq_true, Bool.not_eq_true', beq_iff_eq] at hs
      obtain ⟨⟨⟨h1, h2⟩, h3⟩, h4⟩ := hs
      simp only [stepsX] at hfu
      obtain ⟨f, rfl⟩ : ∃ f, fuel = f + 1 := ⟨fuel - 1, by omega⟩
      have hrd : i ∈ Region.ready .any ops L := by rw [h2]; simp
      have hun : L.getD i false = false := by
        have h0 := (mem_ready.1 hrd).1
        have hi : i < L.size := by rw [hsz]; exact (Array.getElem?_eq_some_iff.1 ho).1
        simp [hi] at h0 ⊢
        exact h0
      simp only [anyX] at hx
      split at hx
      · rename_i r hr
        refine ⟨fun e => (by rw [h2] at e; cases e), fun i' hi' => ?_⟩
        rw [h2] at hi'
        simp only [List.mem_singleton] at hi'
        subst hi'
        refine step_ok hT hX hC hd ho h1 h3 hsz hTo hf hF hun hl hm hM hob hki hr (fun ψ l' A' a' w' e1 e2 e3 e4 e5 e6 e7 iv' => ?_) a w iv
        exact ih (L.setIfInBounds i' true) T mm ob r.1 r.2 ψ l' A' obs f env' mem' h4 (by omega) (hD.set hrd) (by simpa using hsz) hTo e2 e3 e4 e5 hM e6 e7 hx (fun χ l2 A2 g1 g2 g3 g4 => hk χ l2 A2 (e1.both g1) g2 g3 g4) a' w' iv'
      · simp at hx
    · simp at hs
  | fork i ci si j cj sj ihi ihj =>
    intro L T mm ob env mem φ l A obs fuel env' mem' hs hfu hD hsz hTo hf hF hl hm hM hob hki hx hk a w iv
    simp only [schOk, Bool.and_eq_true, beq_iff_eq] at hs
    obtain ⟨⟨hs1, hs2⟩, hrdy⟩ := hs
    split at hs1
    · rename_i oi hoi
      split at hs2
      · rename_i oj hoj
        simp only [Bool.and_eq_true, Bool.not_eq_true'] at hs1 hs2
        obtain ⟨⟨a1, a2⟩, a3⟩ := hs1
        obtain ⟨⟨b1, b2⟩, b3⟩ := hs2
        simp only [stepsX] at hfu
        obtain ⟨f, rfl⟩ : ∃ f, fuel = f + 1 := ⟨fuel - 1, by omega⟩
        have m1 : stepsX si ≤ f := by have := Nat.le_max_left (stepsX si) (stepsX sj); simp only [Nat.max_def] at hfu this; split at hfu <;> simp_all <;> omega
        have m2 : stepsX sj ≤ f := by have := Nat.le_max_right (stepsX si) (stepsX sj); simp only [Nat.max_def] at hfu this; split at hfu <;> simp_all <;> omega
        have hri : i ∈ Region.ready .any ops L := by rw [hrdy]; simp
        have hrj : j ∈ Region.ready .any ops L := by rw [hrdy]; simp
        have unl : ∀ {i : Nat} {o : Oper}, ops[i]? = some o → i ∈ Region.ready .any ops L → L.getD i false = false := fun {i o} ho hrd => by
          have h0 := (mem_ready.1 hrd).1
          have hi : i < L.size := by rw [hsz]; exact (Array.getElem?_eq_some_iff.1 ho).1
          simp [hi] at h0 ⊢
          exact h0
        simp only [anyX, bothX_eq] at hx
        generalize hmm : memoX XX call ops.toList lo0 q j env mem (memoX XX call ops.toList lo0 q i env mem mm) = mm' at hx
        have hM' : MemoOk call mm' := by rw [← hmm]; exact memoX_ok (memoX_ok hM)
        split at hx
        · rename_i r hr
          split at hx
          · rename_i r1 hr1
            split at hx
            · rename_i r' hr'
              split at hx
              · rename_i r2 hr2
                rw [cond_eq_ite] at hx
                split at hx
                · rename_i hc
                  simp only [Bool.and_eq_true] at hc
                  simp only [Option.some.injEq] at hx
                  refine ⟨fun e => (by rw [hrdy] at e; cases e), fun z hz => ?_⟩
                  rw [hrdy] at hz
                  simp only [List.mem_cons, List.not_mem_nil, or_false] at hz
                  rcases hz with rfl | rfl
                  · refine step_ok hT hX hC hd hoi a1 a2 hsz hTo hf hF (unl hoi hri) hl hm hM' hob hki hr (fun ψ l' A' a' w' e1 e2 e3 e4 e5 e6 e7 iv' => ?_) a w iv
                    refine ihi (L.setIfInBounds z true) T mm' ob r.1 r.2 ψ l' A' obs f r1.1 r1.2 a3 m1 (hD.set hri) (by simpa using hsz) hTo e2 e3 e4 e5 hM' e6 e7 hr1 (fun χ l2 A2 g1 g2 g3 g4 => ?_) a' w' iv'
                    rw [hx] at g3 g4
                    exact hk χ l2 A2 (e1.both g1) g2 g3 g4
                  · refine step_ok hT hX hC hd hoj b1 b2 hsz hTo hf hF (unl hoj hrj) hl hm hM' hob hki hr' (fun ψ l' A' a' w' e1 e2 e3 e4 e5 e6 e7 iv' => ?_) a w iv
                    refine ihj (L.setIfInBounds z true) T mm' ob r'.1 r'.2 ψ l' A' obs f r2.1 r2.2 b3 m2 (hD.set hrj) (by simpa using hsz) hTo e2 e3 e4 e5 hM' e6 e7 hr2 (fun χ l2 A2 g1 g2 g3 g4 => ?_) a' w' iv'
                    intro a3 w3 iv3
                    obtain ⟨la, k1, k2⟩ := subEnv_ok g3 hc.1
                    obtain ⟨is, Aa, rest, k3, k4⟩ := subMem_ok g4 hc.2
                    rw [hx] at k1 k4
                    exact hk χ la Aa (e1.both g1) g2 k1 k4 a3 w3 (Inv.sub iv3 k2 k3)
                · simp at hx
              · simp at hx
            · simp at hx
          · simp at hx
        · simp at hx
      · simp at hs2
    · simp at hs1
end
end Go.Proofs.YthjbkngecgbioaaGreatDoor.Xe

/- The evaluator tells the truth: code, functions. -/
namespace Go.Proofs.YthjbkngecgbioaaGreatDoor.Xe
open Go Go.Proofs.YthjbkngecgbioaaGreatDoor.Sl

section
variable {P : Program} {Q : Pst} {a : Act} {w : World}
/-- A scope, its jumps counted. -/
def jumps (P : Program) (body : Code) (Q : Pst) : Nat → Code → Act → World → Prop
  | 0, _, _, _ => False
  | n + 1, cur, a, w => cur.wp P (fun e a' w' => match e with
    | .goto l => ∃ rest, findLabel body l = some rest ∧ jumps P body Q n rest a' w'
    | e => Q e a' w') a w
theorem wp_scope_of_jumps {c : Code} {n : Nat} (h : jumps P c Q n c a w) : (Code.scope c).wp P Q a w := by
  intro b k cs
  have key : ∀ n cur a w, jumps P c Q n cur a w → ∃ e a' w', Q e a' w' ∧ Arrives P (lone (b.at a (.code cur :: .inScope c :: k)) cs w) b k cs e a' w' := by
    intro n
    induction n with
    | zero => intro cur a w h; exact h.elim
    | succ n ih =>
      intro cur a w h
      obtain ⟨e, a₁, w₁, hq, harr⟩ := h b (.inScope c :: k) cs
      cases e with
      | normal => exact ⟨.normal, a₁, w₁, hq, Steps.trans harr (.one step_inScope)⟩
      | exit id => exact ⟨.exit id, a₁, w₁, hq, fun k' hk => harr k' (by simp [exitTo, hk])⟩
      | goto l' =>
        obtain ⟨rest, hf, hJ⟩ := hq
        have hg : gotoIn l' (.inScope c :: k) = some (.code rest :: .inScope c :: k) := by simp [gotoIn, hf]
        obtain ⟨e₂, a₂, w₂, hq₂, harr₂⟩ := ih rest a₁ w₁ hJ
        exact ⟨e₂, a₂, w₂, hq₂, .of_steps (harr _ hg) harr₂⟩
      | ret => exact ⟨_, a₁, w₁, hq, harr⟩
      | panic ch => exact ⟨_, a₁, w₁, hq, harr⟩
      | outgrown => exact ⟨_, a₁, w₁, hq, harr⟩
  obtain ⟨e, a', w', hq, harr⟩ := key n c a w h
  exact ⟨e, a', w', hq, .of_steps (.one step_scope) harr⟩
end
/-- Its regions' slots are slots; its open orders are gone through as they may be. -/
def codeOk (n : Nat) (cert : List (Nat × Sch)) : Code → Bool
  | .seq a b => codeOk n cert a && codeOk n cert b
  | .block _ b => codeOk n cert b
  | .cond _ a b => codeOk n cert a && codeOk n cert b
  | .loop b => codeOk n cert b
  | .scope b => codeOk n cert b
  | .region id ops draw => ops.toList.all (fun o => dstOk n o.dst) && (!draw || (match find cert id with
    | some s => regOk ops s
    | none => true))
  | _ => true
theorem codeOk_label {n : Nat} {cert : List (Nat × Sch)} : ∀ {c rest : Code} {l : Nat}, codeOk n cert c = true → findLabel c l = some rest → codeOk n cert rest = true := by
  intro c
  induction c with
  | seq a b iha ihb =>
    intro rest l h hf
    simp only [codeOk, Bool.and_eq_true] at h
    simp only [findLabel] at hf
    split at hf
    · rename_i r hr
      simp only [Option.some.injEq] at hf
      subst hf
      simp only [codeOk, Bool.and_eq_true]
      exact ⟨iha h.1 hr, h.2⟩
    · exact ihb h.2 hf
  | label l' =>
    intro rest l h hf
    simp only [findLabel] at hf
    split at hf
    · simp only [Option.some.injEq] at hf
      subst hf
      rfl
    · simp at hf
  | _ => intro rest l h hf; simp [findLabel] at hf
def exitOf : X → Exit
  | .normal => .normal
  | .ret => .ret
  | .exit id => .exit id
  | .goto l => .goto l
section
variable {P : Program} {TT : Nat → Option Ty} {XX : Nat → Nat} {call : CallX} {cert : List (Nat × Sch)}
/-- The names' end stands. -/
theorem code_hi : ∀ (n : Nat), (∀ (c : Code) (s : St) (e : X) (s' : St), codeX TT XX call cert n c s = some (e, s') → s'.hi = s.hi) ∧ (∀ (b c : Code) (s : St) (e : X) (s' : St), scopeX TT XX call cert n b c s = some (e, s') → s'.hi = s.hi)
  | 0 => ⟨fun c s e s' h => by simp [codeX] at h, fun b c s e s' h => by simp [scopeX] at h⟩
  | n + 1 => by
    obtain ⟨ih1, ih2⟩ := code_hi n
    refine ⟨fun c s e s' h => ?_, fun b c s e s' h => ?_⟩
    · unfold codeX at h
      split at h
      · simp only [Option.some.injEq, Prod.mk.injEq] at h; rw [← h.2]
      · simp only [Option.some.injEq, Prod.mk.injEq] at h; rw [← h.2]
      · simp only [Option.some.injEq, Prod.mk.injEq] at h; rw [← h.2]
      · simp only [Option.some.injEq, Prod.mk.injEq] at h; rw [← h.2]
      · simp only [Option.some.injEq, Prod.mk.injEq] at h; rw [← h.2]
      · exact ih2 _ _ _ _ _ h
      · split at h
        · rename_i s1 h1
          rw [ih1 _ _ _ _ h, ih1 _ _ _ _ h1]
        · exact ih1 _ _ _ _ h
      · split at h
        · rename_i j s1 h1
          rw [cond_eq_ite] at h
          split at h <;> (simp only [Option.some.injEq, Prod.mk.injEq] at h; rw [← h.2, ih1 _ _ _ _ h1])
        · exact ih1 _ _ _ _ h
      · split at h
        · exact ih1 _ _ _ _ h
        · exact ih1 _ _ _ _ h
        · simp at h
      · split at h
        · rename_i s1 h1
          rw [ih1 _ _ _ _ h, ih1 _ _ _ _ h1]
        · exact ih1 _ _ _ _ h
      · unfold regX at h
        split at h
        · split at h
          · split at h
            · simp only [Option.some.injEq, Prod.mk.injEq] at h; rw [← h.2]
            · simp at h
          · simp at h
        · split at h
          · simp only [Option.some.injEq, Prod.mk.injEq] at h; rw [← h.2]
          · simp at h
      · simp at h
    · simp only [scopeX] at h
      split at h
      · rename_i l s1 h1
        split at h
        · rw [ih2 _ _ _ _ _ h, ih1 _ _ _ _ h1]
        · simp at h
      · exact ih1 _ _ _ _ h
/-- What is asked of what follows: a panic does not look at slots. -/
def NoLook (Q : Pst) : Prop := ∀ c a w d v, Q (.panic c) (a.put d v) w → Q (.panic c) a w
/-- What follows a run that came to e, s'. -/
def After (n : Nat) (C : Ctx) (Q : Pst) (φ : Nm) (lo : Nat) (e : X) (s' : St) : Prop := ∀ ψ l' A', Ext φ ψ lo s'.lo → Fun ψ → LR ψ s'.env l' → MR ψ s'.mem A' → JN n C (Q (exitOf e)) l' A'
theorem region_ok (hmix : P.follows .mixedOrders = true) (hT : TOk P TT) (hX : XOk P XX) (hC : CallOk P call) {n : Nat} {C : Ctx} {Q : Pst} {id : Nat} {ops : Array Oper} {draw : Bool} {s s' : St} {e : X} {φ : Nm} {l : Env} {A : List HP} (hok : codeOk n cert (.region id ops draw) = true) (hQ : NoLook Q) (hf : Fun φ) (hfr : Fresh φ s.lo s.hi) (hl : LR φ s.env l) (hm : MR φ s.mem A)
    (h : regX TT XX call cert id ops.toList draw s = some (e, s')) (hk : After n C Q φ s.lo e s') : J P n C (.region id ops draw) Q l A := by
  simp only [codeOk, Bool.and_eq_true, Bool.or_eq_true, Bool.not_eq_true'] at hok
  have hd : ∀ o ∈ ops.toList, dstOk n o.dst = true := fun o ho => List.all_eq_true.1 hok.1 o ho
  unfold regX at h
  split at h
  · have hok2 := hok.2.resolve_left (by simp)
    split at h
    · rename_i sch hsch
      rw [hsch] at hok2
      simp only [regOk, Bool.and_eq_true] at hok2
      obtain ⟨⟨h1, h2⟩, h3⟩ := hok2
      split at h
      · rename_i r hr
        simp only [Option.some.injEq, Prod.mk.injEq] at h
        obtain ⟨rfl, rfl⟩ := h
        have hlen : ops.toList.length = ops.size := by simp
        rw [hlen] at hr hk
        generalize hq : (s.hi - s.lo) / (ops.size + 1) = q at hr hk
        have hqb : ops.size * q + q ≤ s.hi - s.lo := by
          have := Nat.div_mul_le_self (s.hi - s.lo) (ops.size + 1)
          rw [hq] at this
          rw [Nat.mul_comm, Nat.add_mul, Nat.one_mul] at this
          exact this
        intro a w iv
        refine wp_region_any hmix (wpAny_of_K (S := SO ops []) _ _ _ _ ?_)
        refine any_ok (P := P) hT hX hC h1 hd hQ sch (Array.replicate ops.size false) [] [] [] s.env s.mem φ l A [] ops.size r.1 r.2 h3 (Nat.le_of_ble_eq_true h2) (fun j o _ hj => by simp [Array.getD_eq_getD_getElem?, Array.getElem?_replicate] at hj; split at hj <;> simp at hj) (by simp) (fun y hy => by simp at hy) hf (fun i hi _ k b c hkk => ?_) hl hm (fun m hm => by simp at hm) trivial (fun y hy => by simp at hy) hr (fun ψ l' A' e1 e2 e3 e4 => hk ψ l' A' e1 e2 e3 e4) a _ ⟨iv.size, iv.defers, iv.holds, ?_⟩
        · have h4 := slots_apart (lo0 := s.lo) (q := q) hi
          rcases hfr k b c hkk with h5 | h5
          · exact .inl (by omega)
          · rcases Nat.lt_or_ge s.hi s.lo with h6 | h6
            · have h7 : ops.size * q + q = 0 := by omega
              rcases Nat.lt_or_ge k s.lo with h8 | h8
              · exact .inl (by omega)
              · exact .inr (by omega)
            · exact .inr (by omega)
        · obtain ⟨R, F, st, o, sa⟩ := iv.mem
          exact ⟨R, F, st.trans ⟨rfl, rfl, rfl, Nat.le_refl _, fun _ _ _ => rfl, fun _ h => h, fun _ h => .inl h, fun _ h => .inl h⟩, ⟨o.r, o.f, o.d⟩, Star.loc (w := w) (fun _ _ => rfl) sa⟩
      · simp at h
    · simp at h
  · split at h
    · rename_i r hr
      simp only [Option.some.injEq, Prod.mk.injEq] at h
      obtain ⟨rfl, rfl⟩ := h
      intro a w iv
      refine wp_region_list ?_
      exact list_ok hT hX hC hf hfr hl hm hd hr (fun ψ l' A' e1 e2 e3 e4 => hk ψ l' A' e1 e2 e3 e4) a w iv
    · simp at h
theorem code_ok (hmix : P.follows .mixedOrders = true) (hT : TOk P TT) (hX : XOk P XX) (hC : CallOk P call) {n : Nat} {C : Ctx} : ∀ (f : Nat),
    (∀ (c : Code) (s : St) (e : X) (s' : St) (φ : Nm) (l : Env) (A : List HP) (Q : Pst), codeX TT XX call cert f c s = some (e, s') → codeOk n cert c = true → NoLook Q → Fun φ → Fresh φ s.lo s.hi → LR φ s.env l → MR φ s.mem A → After n C Q φ s.lo e s' → J P n C c Q l A) ∧
    (∀ (b : Code) (s : St) (e : X) (s' : St) (φ : Nm) (l : Env) (A : List HP) (Q : Pst), codeX TT XX call cert f (.loop b) s = some (e, s') → codeOk n cert b = true → NoLook Q → Fun φ → Fresh φ s.lo s.hi → LR φ s.env l → MR φ s.mem A → After n C Q φ s.lo e s' → ∀ a w, Inv n C l A a w → Code.rounds P b Q f a w) ∧
    (∀ (b c : Code) (s : St) (e : X) (s' : St) (φ : Nm) (l : Env) (A : List HP) (Q : Pst), scopeX TT XX call cert f b c s = some (e, s') → codeOk n cert b = true → codeOk n cert c = true → NoLook Q → Fun φ → Fresh φ s.lo s.hi → LR φ s.env l → MR φ s.mem A → After n C Q φ s.lo e s' → ∀ a w, Inv n C l A a w → jumps P b Q f c a w)
  | 0 => ⟨fun c s e s' φ l A Q h => by simp [codeX] at h, fun b s e s' φ l A Q h => by simp [codeX] at h, fun b c s e s' φ l A Q h => by simp [scopeX] at h⟩
  | f + 1 => by
    obtain ⟨ih1, ih2, ih3⟩ := code_ok hmix hT hX hC (n := n) (C := C) f
    -- a part, then what goes on from it
    have part : ∀ (c : Code) (s : St) (e1 : X) (s1 : St) (φ : Nm) (l : Env) (A : List HP) (Q1 : Pst), codeX TT XX call cert f c s = some (e1, s1) → codeOk n cert c = true → NoLook Q1 → Fun φ → Fresh φ s.lo s.hi → LR φ s.env l → MR φ s.mem A → (∀ ψ l' A', Ext φ ψ s.lo s1.lo → Fun ψ → Fresh ψ s1.lo s1.hi → LR ψ s1.env l' → MR ψ s1.mem A' → JN n C (Q1 (exitOf e1)) l' A') → J P n C c Q1 l A :=
      fun c s e1 s1 φ l A Q1 h hok hQ hf hfr hl hm hk => ih1 c s e1 s1 φ l A Q1 h hok hQ hf hfr hl hm (fun ψ l' A' g1 g2 g3 g4 => hk ψ l' A' g1 g2 (by rw [(code_hi f).1 _ _ _ _ h]; exact g1.fresh hfr) g3 g4)
    have loop : ∀ (b : Code) (s : St) (e : X) (s' : St) (φ : Nm) (l : Env) (A : List HP) (Q : Pst), codeX TT XX call cert (f + 1) (.loop b) s = some (e, s') → codeOk n cert b = true → NoLook Q → Fun φ → Fresh φ s.lo s.hi → LR φ s.env l → MR φ s.mem A → After n C Q φ s.lo e s' → ∀ a w, Inv n C l A a w → Code.rounds P b Q (f + 1) a w := by
      intro b s e s' φ l A Q h hok hQ hf hfr hl hm hk a w iv
      rw [rounds_succ]
      have hQ' : NoLook (Exit.then (Code.rounds P b Q f) Q) := hQ
      simp only [codeX] at h
      split at h
      · rename_i s1 h1
        refine part b s .normal s1 φ l A _ h1 hok hQ' hf hfr hl hm (fun ψ l' A' g1 g2 g3 g4 g5 => ?_) a w iv
        intro a1 w1 iv1
        exact ih2 b s1 e s' ψ l' A' Q h hok hQ g2 g3 g4 g5 (fun χ l2 A2 k1 k2 k3 k4 => hk χ l2 A2 (g1.trans k1) k2 k3 k4) a1 w1 iv1
      · rename_i hne
        refine part b s e s' φ l A _ h hok hQ' hf hfr hl hm (fun ψ l' A' g1 g2 g3 g4 g5 => ?_) a w iv
        have := hk ψ l' A' g1 g2 g4 g5
        cases e with
        | normal => exact absurd h (hne s')
        | ret => exact this
        | exit id => exact this
        | goto l => exact this
    refine ⟨?_, loop, ?_⟩
    · intro c s e s' φ l A Q h hok hQ hf hfr hl hm hk
      cases c with
      | skip => simp only [codeX, Option.some.injEq, Prod.mk.injEq] at h; obtain ⟨rfl, rfl⟩ := h; exact J.skip (hk φ l A Ext.refl hf hl hm)
      | ret => simp only [codeX, Option.some.injEq, Prod.mk.injEq] at h; obtain ⟨rfl, rfl⟩ := h; exact J.ret (hk φ l A Ext.refl hf hl hm)
      | exit id => simp only [codeX, Option.some.injEq, Prod.mk.injEq] at h; obtain ⟨rfl, rfl⟩ := h; exact J.exit (hk φ l A Ext.refl hf hl hm)
      | label l0 => simp only [codeX, Option.some.injEq, Prod.mk.injEq] at h; obtain ⟨rfl, rfl⟩ := h; exact fun a w i => wp_label (hk φ l A Ext.refl hf hl hm a w i)
      | goto l0 => simp only [codeX, Option.some.injEq, Prod.mk.injEq] at h; obtain ⟨rfl, rfl⟩ := h; exact fun a w i => wp_goto (hk φ l A Ext.refl hf hl hm a w i)
      | scope b =>
        simp only [codeX] at h
        exact fun a w iv => wp_scope_of_jumps (ih3 b b s e s' φ l A Q h hok hok hQ hf hfr hl hm hk a w iv)
      | seq x y =>
        simp only [codeOk, Bool.and_eq_true] at hok
        simp only [codeX] at h
        refine J.seq ?_
        have hQ' : NoLook (Exit.then (y.wp P Q) Q) := hQ
        split at h
        · rename_i s1 h1
          refine part x s .normal s1 φ l A _ h1 hok.1 hQ' hf hfr hl hm (fun ψ l' A' g1 g2 g3 g4 g5 => ?_)
          exact JN.code (part y s1 e s' ψ l' A' Q h hok.2 hQ g2 g3 g4 g5 (fun χ l2 A2 k1 k2 _ k3 k4 => hk χ l2 A2 (g1.trans k1) k2 k3 k4))
        · rename_i hne
          refine part x s e s' φ l A _ h hok.1 hQ' hf hfr hl hm (fun ψ l' A' g1 g2 g3 g4 g5 => ?_)
          have := hk ψ l' A' g1 g2 g4 g5
          cases e with
          | normal => exact absurd h (hne s')
          | ret => exact this
          | exit id => exact this
          | goto l => exact this
      | block id b =>
        simp only [codeOk] at hok
        simp only [codeX] at h
        refine J.block ?_
        have hQ' : NoLook (Exit.inBlock id Q) := hQ
        split at h
        · rename_i j s1 h1
          refine part b s (.exit j) s1 φ l A _ h1 hok hQ' hf hfr hl hm (fun ψ l' A' g1 g2 g3 g4 g5 => ?_)
          rw [cond_eq_ite] at h
          split at h
          · rename_i hj
            have hj' := Nat.eq_of_beq_eq_true hj
            simp only [Option.some.injEq, Prod.mk.injEq] at h
            obtain ⟨rfl, rfl⟩ := h
            have := hk ψ l' A' g1 g2 g4 g5
            intro a w iv
            show Exit.inBlock id Q (.exit j) a w
            simp only [Exit.inBlock, hj', if_true]
            exact this a w iv
          · rename_i hj
            have hj' : j ≠ id := fun e => hj (by rw [e]; exact Nat.beq_refl _)
            simp only [Option.some.injEq, Prod.mk.injEq] at h
            obtain ⟨rfl, rfl⟩ := h
            have := hk ψ l' A' g1 g2 g4 g5
            intro a w iv
            show Exit.inBlock id Q (.exit j) a w
            simp only [Exit.inBlock, hj', if_false]
            exact this a w iv
        · rename_i hne
          refine part b s e s' φ l A _ h hok hQ' hf hfr hl hm (fun ψ l' A' g1 g2 g3 g4 g5 => ?_)
          have := hk ψ l' A' g1 g2 g4 g5
          cases e with
          | normal => exact this
          | ret => exact this
          | exit id' => exact absurd h (hne id' s')
          | goto l => exact this
      | cond x y z =>
        simp only [codeOk, Bool.and_eq_true] at hok
        simp only [codeX] at h
        split at h
        · rename_i hx
          obtain ⟨v, h1, h2⟩ := opnd_ok hl hx
          cases h2
          exact J.cond_true h1 (ih1 y s e s' φ l A Q h hok.1 hQ hf hfr hl hm hk)
        · rename_i hx
          obtain ⟨v, h1, h2⟩ := opnd_ok hl hx
          cases h2
          exact J.cond_false h1 (ih1 z s e s' φ l A Q h hok.2 hQ hf hfr hl hm hk)
        · simp at h
      | loop b =>
        exact fun a w iv => wp_loop_rounds (f + 1) (loop b s e s' φ l A Q h hok hQ hf hfr hl hm hk a w iv)
      | region id ops draw =>
        simp only [codeX] at h
        exact region_ok hmix hT hX hC hok hQ hf hfr hl hm h hk
      | _ => simp [codeX] at h
    · intro b c s e s' φ l A Q h hokb hokc hQ hf hfr hl hm hk a w iv
      simp only [scopeX] at h
      simp only [jumps]
      have hQ' : NoLook (fun e a' w' => match e with
        | .goto l => ∃ rest, findLabel b l = some rest ∧ jumps P b Q f rest a' w'
        | e => Q e a' w') := hQ
      split at h
      · rename_i l0 s1 h1
        split at h
        · rename_i rest hrest
          refine part c s (.goto l0) s1 φ l A _ h1 hokc hQ' hf hfr hl hm (fun ψ l' A' g1 g2 g3 g4 g5 => ?_) a w iv
          intro a1 w1 iv1
          exact ⟨rest, hrest, ih3 b rest s1 e s' ψ l' A' Q h hokb (codeOk_label hokb hrest) hQ g2 g3 g4 g5 (fun χ l2 A2 k1 k2 k3 k4 => hk χ l2 A2 (g1.trans k1) k2 k3 k4) a1 w1 iv1⟩
        · simp at h
      · rename_i hne
        refine part c s e s' φ l A _ h hokc hQ' hf hfr hl hm (fun ψ l' A' g1 g2 g3 g4 g5 => ?_) a w iv
        have := hk ψ l' A' g1 g2 g4 g5
        cases e with
        | normal => exact this
        | ret => exact this
        | exit id => exact this
        | goto l => exact absurd h (hne l s')
end
end Go.Proofs.YthjbkngecgbioaaGreatDoor.Xe

/- The evaluator tells the truth: functions; a closed call. -/
namespace Go.Proofs.YthjbkngecgbioaaGreatDoor.Xe
open Go Go.Proofs.YthjbkngecgbioaaGreatDoor.Sl

def FOk (P : Program) (FN : Nat → Option (Func × List (Nat × Sch))) : Prop := ∀ f fc, FN f = some fc → P.funcs[f]? = some fc.1 ∧ (fc.1.name == "runtime.NumGoroutine") = false ∧ ∀ c, fc.1.body = some c → codeOk fc.1.ntmps fc.2 c = true
section
variable {P : Program} {TT : Nat → Option Ty} {XX : Nat → Nat} {φ ψ : Nm} {mem : Mem} {env : Vars} {A B : List HP} {l : Env} {w : World}
theorem star_sub (h : B.Sublist A) : ∀ {R F : Foot}, Star A w R F → Star B w R F := by
  induction h with
  | slnil => intro R F hs; exact hs
  | cons a _ ih =>
    intro R F hs
    obtain ⟨F1, F2, _, h2, _, _, h5⟩ := hs
    exact ih (Star.monoF h2 h5)
  | cons_cons a _ ih =>
    intro R F hs
    obtain ⟨F1, F2, h1, h2, h3, h4, h5⟩ := hs
    exact ⟨F1, F2, h1, h2, h3, h4, ih h5⟩
theorem keep_ok {lo hi : Nat} {ks : List Nat} : ∀ {m : Mem} {A : List HP}, MR φ m A → ∃ B, B.Sublist A ∧ MR φ (keepX lo hi ks m) B
  | [], [], _ => ⟨[], .slnil, trivial⟩
  | (k, e) :: m, p :: A, ⟨h1, h2⟩ => by
    obtain ⟨B, h3, h4⟩ := keep_ok (lo := lo) (hi := hi) (ks := ks) h2
    simp only [keepX, cond_eq_ite]
    split
    · exact ⟨B, h3.cons p, h4⟩
    · exact ⟨p :: B, h3.cons_cons p, h1, h4⟩
theorem gc_ok {lo hi lo' : Nat} {v : V} {m : Mem} {A : List HP} (h : MR φ m A) : ∃ B, B.Sublist A ∧ MR φ (gcX lo hi lo' v m) B := by
  unfold gcX
  rw [cond_eq_ite]
  split
  · exact ⟨A, List.Sublist.refl A, h⟩
  · exact keep_ok h
def resF (tmps : Array Value) : ResultVar → Sem Value := fun
  | .tmp t => pure (tmps.getD t undef)
  | .cell a t => do loadVar t (← asAddr (tmps.getD a undef))
theorem res_ok (hT : TOk P TT) (hl : LR φ env l) (hm : MR φ mem A) (hf : Fun φ) : ∀ {rs : List ResultVar} {us : List V}, resX TT env mem rs = some us → ∃ vs, VRs φ us vs ∧ ∀ (a : Act) w R F, Holds a l → Ok w R F → Star A w R F → (rs.mapM (resF a.tmps)).run P w = .ok vs w
  | [], us, h => by
    simp only [resX, Option.some.injEq] at h
    subst h
    exact ⟨[], .nil, fun _ _ _ _ _ _ _ => by simp [pure]⟩
  | .tmp t :: rs, us, h => by
    simp only [resX] at h
    split at h
    · rename_i v hv
      split at h
      · rename_i us' hus
        simp only [Option.some.injEq] at h
        subst h
        obtain ⟨x, h1, h2⟩ := hl.find hv
        obtain ⟨vs, h3, h4⟩ := res_ok hT hl hm hf hus
        refine ⟨x :: vs, .cons h2 h3, fun a w R F ha ok hs => ?_⟩
        have h5 := h4 a w R F ha ok hs
        rw [List.mapM_cons]
        simp only [Sem.run_bind, resF, ha t x h1, Sem.run_pure, Result.andThen_ok, h5]
      · simp at h
    · simp at h
  | .cell x t :: rs, us, h => by
    simp only [resX] at h
    split at h
    · rename_i k o hx
      split at h
      · rename_i v hv
        split at h
        · rename_i us' hus
          simp only [Option.some.injEq] at h
          subst h
          obtain ⟨y, h1, h2⟩ := hl.find hx
          cases h2 with
          | @ptr _ _ b c hb =>
            obtain ⟨vs, h3, h4⟩ := res_ok hT hl hm hf hus
            have hq : qLoad TT mem env t (.tmp x) = some v := by simp [qLoad, opnd, hx, hv]
            obtain ⟨z, h5, h6⟩ := (load_ok (A := A) (l := l) hT hl hm hf hq).run
            refine ⟨z :: vs, .cons h5 h3, fun a w R F ha ok hs => ?_⟩
            have h7 := h4 a w R F ha ok hs
            have h8 := h6 none 0 "" #[] none a w R F ha ok hs
            have h9 : (loadVar t ⟨b, o, none⟩).run P w = .ok z w := by
              have h1' : a.eval (.tmp x) = .pointer (some ⟨b, o, none⟩) := ha x _ h1
              simp only [execOp, h1', Instr.loadAt, Instr.sureAddr, Sem.run_bind, Sem.run_pure, Result.andThen_ok] at h8
              cases hr : (loadVar t ⟨b, o, none⟩).run P w with
              | ok v' w' => rw [hr] at h8; simp only [Result.andThen_ok, Result.ok.injEq, Next.value.injEq] at h8; rw [h8.1, h8.2]
              | halt e w' => rw [hr] at h8; simp [Result.andThen] at h8
            rw [List.mapM_cons]
            simp only [Sem.run_bind, resF, ha x _ h1, asAddr, Sem.run_pure, Result.andThen_ok, h9, h7]
        · simp at h
      · simp at h
    · simp at h
theorem hand_ok {us : List V} {vs : List Value} (h : VRs φ us vs) : VR φ (handX us) (if h : vs.toArray.size = 1 then vs.toArray[0] else .tuple vs.toArray) := by
  cases h with
  | nil => exact .tup .nil
  | cons p q =>
    cases q with
    | nil => simpa [handX] using p
    | cons p2 q2 =>
      simp only [handX]
      rw [dif_neg (by simp)]
      exact .tup (.cons p (.cons p2 q2))
theorem args_ok : ∀ {us : List V} {vs : List Value} {i : Nat}, VRs φ us vs → LR φ (argX us i) (mkEnv i vs)
  | [], _, _, .nil => trivial
  | _ :: _, _, _, .cons p q => ⟨rfl, p, args_ok q⟩
theorem noLook_body {fn : Func} {R : Ending → World → Prop} : NoLook (bodyPost P fn R) := fun c a w d v h => by
  obtain ⟨h1, h2⟩ := h
  exact ⟨by rw [defers_put] at h1; exact h1, h2⟩
theorem callX_ok (hmix : P.follows .mixedOrders = true) (hT : TOk P TT) (hX : XOk P XX) {FN : Nat → Option (Func × List (Nat × Sch))} (hF : FOk P FN) {fuel : Nat} : ∀ d, CallOk P (callX TT XX FN fuel d)
  | 0 => fun f args mem lo hi r h => by simp [callX] at h
  | d + 1 => by
    have ih := callX_ok hmix hT hX hF (fuel := fuel) d
    intro f args mem lo hi r h
    simp only [callX] at h
    split at h
    · rename_i fc hfc
      obtain ⟨f1, f2, f3⟩ := hF f fc hfc
      split at h
      · rename_i c hc
        rw [cond_eq_ite] at h
        split at h
        · rename_i hargs
          refine ⟨⟨fc.1, f1, by rw [hc]; rfl, f2⟩, fun φ vs A hf hfr hv hm hle => ?_⟩
          have hlen := hv.length
          refine Spec.enter f1 hc rfl (by rw [← hlen]; exact hargs) rfl (fun w R F => ?_)
          unfold backX at h
          split at h
          · rename_i e s hrun
            have hcode := (code_ok (P := P) (cert := fc.2) hmix hT hX ih (n := fc.1.ntmps) (C := ⟨w, R, F⟩) fuel).1 c _ e s φ (mkEnv 0 vs) A
              (bodyPost P fc.1 fun e w' => ∃ v L', EffPost φ lo r.2.2 r.1 r.2.1 v L' ∧ e = .returned v ∧ Turns w R F w' L') hrun (f3 c hc) noLook_body hf hfr (args_ok hv) hm
            have fin : ∀ us, resX TT s.env s.mem fc.1.results.toList = some us → r = (handX us, gcX lo hi s.lo (handX us) s.mem, s.lo) → ∀ (ψ : Nm) l' A', Ext φ ψ lo s.lo → Fun ψ → LR ψ s.env l' → MR ψ s.mem A' →
                JN fc.1.ntmps ⟨w, R, F⟩ (bodyPost P fc.1 (fun e w' => ∃ v L', EffPost φ lo r.2.2 r.1 r.2.1 v L' ∧ e = .returned v ∧ Turns w R F w' L') .ret) l' A' := by
              intro us hus hr ψ l' A' e1 e2 e3 e4 a w1 iv
              subst hr
              obtain ⟨ws, k1, k2⟩ := res_ok (P := P) hT e3 e4 e2 hus
              obtain ⟨B, k3, k4⟩ := gc_ok (lo := lo) (hi := hi) (lo' := s.lo) (v := handX us) e4
              obtain ⟨R1, F1, st, ok, sa⟩ := iv.mem
              refine ⟨iv.defers, _, ?_, _, B, ⟨ψ, e1, e2, hand_ok k1, k4⟩, rfl, R1, F1, st, ok, star_sub k3 sa⟩
              have h5 := k2 a w1 R1 F1 iv.holds ok sa
              have h6 : (fc.1.results.mapM (resF a.tmps)).run P w1 = .ok ws.toArray w1 := by
                rw [← Array.toArray_toList (xs := fc.1.results), List.mapM_toArray]
                simp [h5]
              show (do
                let vs ← fc.1.results.mapM (resF a.tmps)
                pure (if h : vs.size = 1 then vs[0] else .tuple vs) : Sem Value).run P w1 = _
              simp only [Sem.run_bind, h6, Result.andThen_ok, Sem.run_pure]
            split at h
            · simp at h
            · simp at h
            · rename_i n1 n2
              split at h
              · rename_i us hus
                simp only [Option.some.injEq] at h
                refine hcode (fun ψ l' A' e1 e2 e3 e4 => ?_)
                have key := fin us hus h.symm ψ l' A' e1 e2 e3 e4
                cases e with
                | normal => exact key
                | ret => exact key
                | exit id => exact absurd rfl (n1 id)
                | goto l0 => exact absurd rfl (n2 l0)
              · simp at h
          · simp at h
        · simp at h
      · simp at h
    · simp at h
/-- A closed call that was run. -/
theorem closed_ok (hmix : P.follows .mixedOrders = true) (hT : TOk P TT) (hX : XOk P XX) {FN : Nat → Option (Func × List (Nat × Sch))} (hF : FOk P FN) {fuel d f hi : Nat} {r : Res} (h : callX TT XX FN fuel d f [] [] 0 hi = some r) (hle : r.2.2 ≤ hi) : Sl.Spec P f #[] [] (fun v _ => ∃ ψ, VR ψ r.1 v) := by
  have h1 := (callX_ok hmix hT hX hF d f [] [] 0 hi r h).2 (fun _ _ _ => False) [] [] (fun _ _ _ _ _ h => h.elim) (fun _ _ _ h => h.elim) .nil trivial hle
  intro w R F ok st
  refine Calls.mono (h1 w R F ok st) ?_
  rintro e w' ⟨v, L', ⟨ψ, _, _, h2, _⟩, he, ht⟩
  exact ⟨v, L', ⟨ψ, h2⟩, he, ht⟩
/-- A closed call that answers true. -/
def isTrue (r : Option Res) (hi : Nat) : Bool := match r with
  | some r => (match r.1 with
    | .bool b => b
    | _ => false) && Nat.ble r.2.2 hi
  | none => false
theorem closed_true (hmix : P.follows .mixedOrders = true) (hT : TOk P TT) (hX : XOk P XX) {FN : Nat → Option (Func × List (Nat × Sch))} (hF : FOk P FN) {fuel d f hi : Nat} (h : isTrue (callX TT XX FN fuel d f [] [] 0 hi) hi = true) : Sl.Spec P f #[] [] (fun v _ => v = .bool true) := by
  unfold isTrue at h
  split at h
  · rename_i r hr
    simp only [Bool.and_eq_true] at h
    have h1 := closed_ok hmix hT hX hF hr (Nat.le_of_ble_eq_true h.2)
    intro w R F ok st
    refine Calls.mono (h1 w R F ok st) ?_
    rintro e w' ⟨v, L', ⟨ψ, h2⟩, he, ht⟩
    refine ⟨v, L', ?_, he, ht⟩
    have h3 := h.1
    split at h3
    · rename_i b hb
      subst h3
      rw [hb] at h2
      cases h2
      rfl
    · simp at h3
  · simp at h
end
/-! ### Tables -/
def fnOk (fn : Func) (cert : List (Nat × Sch)) : Bool := !(fn.name == "runtime.NumGoroutine") && (match fn.body with
  | some c => codeOk fn.ntmps cert c
  | none => true)
def allT {α : Type} (p : Nat → α → Bool) : Tr α → Bool
  | .leaf => true
  | .node k v l r => p k v && allT p l && allT p r
theorem allT_seek {α : Type} {p : Nat → α → Bool} {t : Nat} {v : α} : ∀ {tr : Tr α}, allT p tr = true → seek t tr = some v → p t v = true
  | .leaf, _, h => by simp [seek] at h
  | .node k v' l r, ha, h => by
    simp only [allT, Bool.and_eq_true] at ha
    simp only [seek, cond_eq_ite] at h
    split at h
    · rename_i he
      simp only [Option.some.injEq] at h
      subst h
      rw [← Nat.eq_of_beq_eq_true he]
      exact ha.1.1
    · split at h
      · exact allT_seek ha.1.2 h
      · exact allT_seek ha.2 h
def allF (P : Program) : Tr (Func × List (Nat × Sch)) → Prop
  | .leaf => True
  | .node k v l r => (P.funcs[k]? = some v.1 ∧ fnOk v.1 v.2 = true) ∧ allF P l ∧ allF P r
theorem allF_seek {P : Program} {t : Nat} {v : Func × List (Nat × Sch)} : ∀ {tr : Tr (Func × List (Nat × Sch))}, allF P tr → seek t tr = some v → P.funcs[t]? = some v.1 ∧ fnOk v.1 v.2 = true
  | .leaf, _, h => by simp [seek] at h
  | .node k v' l r, ha, h => by
    simp only [seek, cond_eq_ite] at h
    split at h
    · rename_i he
      simp only [Option.some.injEq] at h
      subst h
      rw [← Nat.eq_of_beq_eq_true he]
      exact ha.1
    · split at h
      · exact allF_seek ha.2.1 h
      · exact allF_seek ha.2.2 h
theorem fok_of {P : Program} {tr : Tr (Func × List (Nat × Sch))} (h : allF P tr) : FOk P (seek · tr) := fun f fc hf => by
  obtain ⟨h1, h2⟩ := allF_seek h hf
  simp only [fnOk, Bool.and_eq_true, Bool.not_eq_true'] at h2
  exact ⟨h1, h2.1, fun c hc => by have := h2.2; rw [hc] at this; exact this⟩
end Go.Proofs.YthjbkngecgbioaaGreatDoor.Xe
