/- This text proves what the interpreter returns at the functions that TextPoints reaches, and that it returns true at TextPoints; it has no conditions. -/
import Derived.Test.YtihkfdkoncekmaaGreatDoorIdh
import Derived.KernelRfl
import Derived.Test.YtihkfdkoncekmaaGreatDoorIde
import Derived.Test.YtihkfdkoncekmaaGreatDoorIda

set_option linter.unusedSimpArgs false
set_option linter.unusedVariables false

namespace Go.Idl
def isAwake : Option (IV × IM) → Bool
  | some (.bool true, ⟨[], 0⟩) => true
  | _ => false
theorem awakeK : isAwake ((sem tab prims 400).call (.f 10) [] ⟨[], 0⟩) = true := by kernel_rfl
end Go.Idl

namespace Go.Idl
noncomputable abbrev cw := callW tab prims
noncomputable abbrev lw := loopW tab prims

def settleX (m : IM) (v : IV) : Option (IV × IM) := settle m m v
theorem settle0 {m : IM} {v : IV} : settle m m v = if v.refsDeep = some 0 then some (v, m) else settleX m v := by
  split
  · rename_i h
    unfold settle
    simp [h, frc_eq, IM.size]
  · rfl

theorem w64 {x : Int} (h1 : -9223372036854775808 ≤ x) (h2 : x ≤ 9223372036854775807) : IntKind.i64.wrap x = x := by
  simp only [IntKind.wrap, IntKind.bits, IntKind.signed]; simp; split <;> omega
theorem w32 {x : Int} (h1 : -2147483648 ≤ x) (h2 : x ≤ 2147483647) : IntKind.i32.wrap x = x := by
  simp only [IntKind.wrap, IntKind.bits, IntKind.signed]; simp; split <;> omega
theorem w8 {x : Int} (h1 : 0 ≤ x) (h2 : x ≤ 255) : IntKind.u8.wrap x = x := by
  simp only [IntKind.wrap, IntKind.bits, IntKind.signed]; simp; omega

theorem bAdd {k : IntKind} {a b : Int} : binInt .add k a b = some (.int k (k.wrap (a + b))) := rfl
theorem bSub {k : IntKind} {a b : Int} : binInt .sub k a b = some (.int k (k.wrap (a - b))) := rfl
theorem bMul {k : IntKind} {a b : Int} : binInt .mul k a b = some (.int k (k.wrap (a * b))) := rfl
theorem bQuo {k : IntKind} {a b : Int} : binInt .quo k a b = if b = 0 then none else some (.int k (k.wrap (a.tdiv b))) := rfl
theorem bRem {k : IntKind} {a b : Int} : binInt .rem k a b = if b = 0 then none else some (.int k (a.tmod b)) := rfl
theorem bLss {k : IntKind} {a b : Int} : binInt .lss k a b = some (.bool (decide (a < b))) := rfl
theorem bLeq {k : IntKind} {a b : Int} : binInt .leq k a b = some (.bool (decide (a ≤ b))) := rfl
theorem bGtr {k : IntKind} {a b : Int} : binInt .gtr k a b = some (.bool (decide (b < a))) := rfl
theorem bGeq {k : IntKind} {a b : Int} : binInt .geq k a b = some (.bool (decide (b ≤ a))) := rfl
theorem bEql {k : IntKind} {a b : Int} : binInt .eql k a b = some (.bool (a == b)) := rfl
theorem bNeq {k : IntKind} {a b : Int} : binInt .neq k a b = some (.bool (a != b)) := rfl

theorem shl6 {a : Int} : shiftI .shl .i64 a 6 = some (.int .i64 (IntKind.i64.wrap (a * 64))) := rfl

attribute [local go_sem] IFn.call ICode.run runOps IOp.run IOp.run0 gate IK.ok addrOK appOK OTag.hits IK.run Arg.rd look lookL rdAll POp.ev binEv bAdd bSub bMul bQuo bRem bLss bLeq bGtr bGeq bEql bNeq binStr shl6 unEv isShift St.put lkSlot lkL lkB lkC frc_eq frcV_eq IK.link slotC slotV St.drop St.capAt St.owner linkOf mkEnv retsOf settle0 IV.refsDeep IV.refsDeep.go IV.refs IV.refs.go refsAll IV.plain callI hideIds hideM unhideM IV.cells IV.isU IV.isL fillI repl over partI cut eqS byteVals bnd bnds loHi fold2 min2I max2I srcOf bytesCells zipCap newL newG storeI overCap capSl loadI cellsAt uqB loopW_lc St.head headE headB capNil capsL

def isPointB (n : Int) : Bool := decide (0 ≤ n) && decide (n ≤ 1114111) && (decide (n < 55296) || decide (57343 < n))

theorem f56 : tab.fns 56 = some i56 := by rfl
theorem p56 : prims 56 = none := by rfl
theorem call56 (n : Int) (m : IM) : cw (.f 56) [.int .i64 n] m = some (.bool (isPointB n), m) := by
  unfold cw; rw [callW_fn p56 f56]
  by_cases h1 : 0 ≤ n <;> by_cases h2 : n ≤ 1114111 <;> by_cases h3 : n < 55296 <;> by_cases h4 : 57343 < n <;>
  simp [i56, go_sem, isPointB, h1, h2, h3, h4]

theorem f64 : tab.fns 64 = some i64 := by rfl
theorem p64 : prims 64 = none := by rfl
theorem call64 (n : Int) (m : IM) : cw (.f 64) [.int .i64 n] m = some (.bool (isPointB n), m) := by
  unfold cw; rw [callW_fn p64 f64]
  by_cases h1 : 0 ≤ n <;> by_cases h2 : n ≤ 1114111 <;> by_cases h3 : n < 55296 <;> by_cases h4 : 57343 < n <;>
  simp [i64, go_sem, isPointB, h1, h2, h3, h4]

/-- The encoding of a number. -/
def encB (n : Nat) : List UInt8 :=
  if n < 128 then [UInt8.ofNat n]
  else if n < 2048 then [UInt8.ofNat (192 + n / 64), UInt8.ofNat (128 + n % 64)]
  else if n < 65536 then [UInt8.ofNat (224 + n / 4096), UInt8.ofNat (128 + n / 64 % 64), UInt8.ofNat (128 + n % 64)]
  else [UInt8.ofNat (240 + n / 262144), UInt8.ofNat (128 + n / 4096 % 64), UInt8.ofNat (128 + n / 64 % 64), UInt8.ofNat (128 + n % 64)]

theorem td {a b : Int} (h : 0 ≤ a) : a.tdiv b = a / b := Int.tdiv_eq_ediv_of_nonneg h
theorem tm {a b : Int} (h : 0 ≤ a) : a.tmod b = a % b := Int.tmod_eq_emod_of_nonneg h

theorem f42 : tab.fns 42 = some i42 := by rfl
theorem p42 : prims 42 = none := by rfl
set_option maxRecDepth 100000 in
theorem call42 (n : Nat) (hn : n ≤ 1114111) (m : IM) : cw (.f 42) [.int .i64 (n : Int)] m = some (.str (encB n), m) := by
  unfold cw; rw [callW_fn p42 f42]
  have e1 : (192 + (n : Int) / 64).toNat = 192 + n / 64 := by omega
  have e2 : (128 + (n : Int) % 64).toNat = 128 + n % 64 := by omega
  have e3 : (224 + (n : Int) / 4096).toNat = 224 + n / 4096 := by omega
  have e4 : (128 + (n : Int) / 64 % 64).toNat = 128 + n / 64 % 64 := by omega
  have e5 : (240 + (n : Int) / 262144).toNat = 240 + n / 262144 := by omega
  have e6 : (128 + (n : Int) / 4096 % 64).toNat = 128 + n / 4096 % 64 := by omega
  by_cases h1 : n < 128
  · have : (n : Int) < 128 := by omega
    simp (disch := omega) [i42, go_sem, encB, h1, this, w8, w64]
  · have g1 : ¬ (n : Int) < 128 := by omega
    by_cases h2 : n < 2048
    · have g2 : (n : Int) < 2048 := by omega
      simp (disch := omega) [-UInt8.ofNat_add, i42, go_sem, encB, h1, g1, h2, g2, td, tm, w8, w64, e1, e2]
    · have g2 : ¬ (n : Int) < 2048 := by omega
      by_cases h3 : n < 65536
      · have g3 : (n : Int) < 65536 := by omega
        simp (disch := omega) [-UInt8.ofNat_add, i42, go_sem, encB, h1, g1, h2, g2, h3, g3, td, tm, w8, w64, e2, e3, e4]
      · have g3 : ¬ (n : Int) < 65536 := by omega
        simp (disch := omega) [-UInt8.ofNat_add, i42, go_sem, encB, h1, g1, h2, g2, h3, g3, td, tm, w8, w64, e2, e4, e5, e6]

theorem encode_encB (n : Nat) (h : isPointB n = true) : (Utf8.encode n).data.toList = encB n := by
  have hv : Utf8.valid (n : Int) = true := by
    simp [isPointB, Utf8.valid] at h ⊢
    omega
  simp only [Utf8.encode, hv, if_true, Int.toNat_natCast, encB]
  split
  · rfl
  · split
    · rfl
    · split <;> rfl

theorem f39 : tab.fns 39 = some i39 := by rfl
theorem p39 : prims 39 = none := by rfl
theorem call39 (n : Nat) (h : n ≤ 1114111) (m : IM) : cw (.f 39) [.int .i64 (n : Int)] m = some (.str (Utf8.encode n).data.toList, m) := by
  unfold cw; rw [callW_fn p39 f39]
  simp (disch := omega) [i39, go_sem, w32]

theorem f27 : tab.fns 27 = some i27 := by rfl
theorem p27 : prims 27 = none := by rfl
theorem call27 (n : Int) (m : IM) : cw (.f 27) [.int .i64 n] m = some (if isPointB n then .tup [.str (Utf8.encode n).data.toList, .int .i64 0] else .tup [.str [], .int .i64 3], m) := by
  unfold cw; rw [callW_fn p27 f27]
  cases hp : isPointB n with
  | false => simp (disch := omega) [i27, go_sem, call56, hp]
  | true =>
    have hn : 0 ≤ n ∧ n ≤ 1114111 := by simp [isPointB] at hp; omega
    obtain ⟨k, rfl⟩ : ∃ k : Nat, n = k := ⟨n.toNat, by omega⟩
    simp (disch := omega) [i27, go_sem, call56, hp, call39]

theorem f32 : tab.fns 32 = some i32 := by rfl
theorem p32 : prims 32 = none := by rfl
theorem call32 (n : Int) (m : IM) : cw (.f 32) [.int .i64 n] m = some (if isPointB n then .tup [.str (encB n.toNat), .int .i64 0] else .tup [.str [], .int .i64 3], m) := by
  unfold cw; rw [callW_fn p32 f32]
  cases hp : isPointB n with
  | false => simp (disch := omega) [i32, go_sem, call64, hp]
  | true =>
    have hn : 0 ≤ n ∧ n ≤ 1114111 := by simp [isPointB] at hp; omega
    obtain ⟨k, rfl⟩ : ∃ k : Nat, n = k := ⟨n.toNat, by omega⟩
    simp (disch := omega) [i32, go_sem, call64, hp, call42]

end Go.Idl

namespace Go.Idl
attribute [local go_sem] IFn.call ICode.run runOps IOp.run IOp.run0 gate IK.ok addrOK appOK OTag.hits IK.run Arg.rd look lookL rdAll POp.ev binEv bAdd bSub bMul bQuo bRem bLss bLeq bGtr bGeq bEql bNeq binStr shl6 unEv isShift St.put lkSlot lkL lkB lkC frc_eq frcV_eq IK.link slotC slotV St.drop St.capAt St.owner linkOf mkEnv retsOf settle0 IV.refsDeep IV.refsDeep.go IV.refs IV.refs.go refsAll IV.plain callI hideIds hideM unhideM IV.cells IV.isU IV.isL fillI repl over partI cut eqS byteVals bnd bnds loHi fold2 min2I max2I srcOf bytesCells zipCap newL newG storeI overCap capSl loadI cellsAt uqB loopW_lc St.head headE headB capNil capsL

set_option maxRecDepth 10000 in
theorem and63 (b : UInt8) : binInt .and .u8 (b.toNat : Int) 63 = some (.int .u8 ((b.toNat % 64 : Nat) : Int)) := by
  have : ∀ n : Nat, n < 256 → IntKind.u8.wrap ((BitVec.ofInt 8 (n : Int) &&& BitVec.ofInt 8 63).toNat : Int) = ((n % 64 : Nat) : Int) := by decide
  show some (IV.int .u8 (IntKind.u8.wrap ((BitVec.ofInt 8 (b.toNat : Int) &&& BitVec.ofInt 8 63).toNat : Int))) = _
  rw [this b.toNat b.toNat_lt]

theorem or64 (p x : Nat) (h1 : p < 2 ^ 50) (h2 : x < 64) : binInt .or .i64 ((p : Int) * 64) (x : Int) = some (.int .i64 ((p * 64 + x : Nat) : Int)) := by
  show some (IV.int .i64 (IntKind.i64.wrap ((BitVec.ofInt 64 ((p : Int) * 64) ||| BitVec.ofInt 64 (x : Int)).toNat : Int))) = _
  have e1 : ((p : Int) * 64) = ((p * 64 : Nat) : Int) := by omega
  have e2 : (BitVec.ofInt 64 ((p * 64 : Nat) : Int) ||| BitVec.ofInt 64 ((x : Nat) : Int)).toNat = p * 64 + x := by
    rw [BitVec.toNat_or, BitVec.ofInt_natCast, BitVec.ofInt_natCast, BitVec.toNat_ofNat, BitVec.toNat_ofNat, Nat.mod_eq_of_lt (by omega), Nat.mod_eq_of_lt (by omega)]
    have := Nat.shiftLeft_add_eq_or_of_lt (i := 6) (b := x) (by omega) p
    rw [Nat.shiftLeft_eq] at this
    exact this.symm
  rw [e1, e2, w64 (by omega) (by omega)]

/-- The bytes that go on. -/
def inn (s : List UInt8) (lo hi : Nat) : Nat → Nat → Nat → Nat × Nat
  | 0, n, p => (n, p)
  | k + 1, n, p => match s[n]? with
    | none => (n, p)
    | some b => if b.toNat < (if n = 1 then lo else 128) ∨ (if n = 1 then hi else 191) < b.toNat then (n, p) else inn s lo hi k (n + 1) (p * 64 + b.toNat % 64)

theorem k57_0 : h57_0.keep = [(0, 0), (2, 0), (4, 0), (5, 0), (6, 0)] := rfl
theorem kl57_0 : h57_0.keepL = [0, 1] := rfl
theorem ko57_0 : h57_0.ownL = [] := rfl
theorem k57_1 : h57_1.keep = [(0, 0), (2, 0), (9, 0), (10, 0)] := rfl
theorem kl57_1 : h57_1.keepL = [0] := rfl
theorem ko57_1 : h57_1.ownL = [] := rfl

def S57i (s : List UInt8) (n p a b size lo hi : Nat) (fv : IV) (m : IM) : St where
  env := [(0, .str s, .any), (2, .pL 0 0, .any), (4, .pL 1 0, .any), (5, .int .i64 p, .any), (6, .int .i64 n, .any)]
  lk := []
  lb := [(0, .cells [.int .i64 0, .bool false, .int .i64 0] [.any, .any, .any]), (1, .cells [.int .u8 a, .int .u8 b, .int .i64 size, .int .u8 lo, .int .u8 hi, fv] [.any, .any, .any, .any, .any, .any])]
  m := m

theorem L57i (s : List UInt8) (a b size lo hi : Nat) (fv : IV) (m : IM) (hs : size ≤ 4) : ∀ (k n p : Nat), size = n + k → 1 ≤ n → n ≤ s.length → (p + 1) * 64 ^ k ≤ 2 ^ 31 →
    ∃ e', lc tab prims h57_0 l57_0 (some (S57i s n p a b size lo hi fv m)) = some (.exit 2, { env := e', lk := [], lb := (S57i s n p a b size lo hi fv m).lb, m := m }) ∧
      look e' 0 = some (.str s, .any) ∧ look e' 2 = some (.pL 0 0, .any) ∧ look e' 4 = some (.pL 1 0, .any) ∧ look e' 5 = some (.int .i64 ((inn s lo hi k n p).2 : Nat), .any) ∧ look e' 6 = some (.int .i64 ((inn s lo hi k n p).1 : Nat), .any) := by
  intro k
  induction k with
  | zero =>
    intro n p hk h1 h2 h3
    rw [lc_some]
    have c1 : ¬ ((n : Int) < (size : Int)) := by omega
    simp [l57_0, S57i, go_sem, c1, inn]
  | succ k ih =>
    intro n p hk h1 h2 h3
    rw [lc_some]
    have c1 : (n : Int) < (size : Int) := by omega
    cases hb : s[n]? with
    | none =>
      have c2 : ¬ ((n : Int) < (s.length : Int)) := by
        have := List.getElem?_eq_none_iff.1 hb; omega
      simp [l57_0, S57i, go_sem, c1, c2, inn, hb]
    | some c =>
      have c2 : (n : Int) < (s.length : Int) := by
        have := (List.getElem?_eq_some_iff.1 hb).1; omega
      have hp : p < 2 ^ 31 := by
        have : 1 ≤ 64 ^ (k + 1) := Nat.one_le_pow _ _ (by omega)
        have := Nat.mul_le_mul_left (p + 1) this
        omega
      have hstep : (p * 64 + c.toNat % 64 + 1) * 64 ^ k ≤ 2 ^ 31 := by
        have : (p * 64 + c.toNat % 64 + 1) * 64 ^ k ≤ ((p + 1) * 64) * 64 ^ k := Nat.mul_le_mul_right _ (by omega)
        rw [Nat.pow_succ] at h3
        have e : (p + 1) * 64 * 64 ^ k = (p + 1) * (64 ^ k * 64) := by rw [Nat.mul_assoc, Nat.mul_comm 64]
        omega
      have hlen : n + 1 ≤ s.length := by omega
      have ih' := ih (n + 1) (p * 64 + c.toNat % 64) (by omega) (by omega) hlen hstep
      have e64 : IntKind.i64.wrap ((p : Int) * 64) = (p : Int) * 64 := w64 (by omega) (by omega)
      have e65 : IntKind.i64.wrap ((n : Int) + 1) = ((n + 1 : Nat) : Int) := by rw [w64 (by omega) (by omega)]; rfl
      have o1 := or64 p (c.toNat % 64) (by omega) (by omega)
      have a1 := and63 c
      have e66 : IntKind.i64.wrap ((c.toNat % 64 : Nat) : Int) = ((c.toNat % 64 : Nat) : Int) := w64 (by omega) (by omega)
      have tn : (n : Int).toNat = n := by omega
      have c3b : n = 1 → ((n : Int) == 1) = true := fun h => by subst h; rfl
      have c3f : n ≠ 1 → ((n : Int) == 1) = false := fun h => by simp; omega
      by_cases hl : c.toNat < (if n = 1 then lo else 128) ∨ (if n = 1 then hi else 191) < c.toNat
      · have hinn : inn s lo hi (k + 1) n p = (n, p) := by simp only [inn, hb, if_pos hl]
        rw [hinn]
        by_cases hn : n = 1
        · simp only [hn, if_true] at hl
          have c3 := c3b hn
          by_cases g1 : c.toNat < lo
          · have g1' : (c.toNat : Int) < (lo : Int) := by omega
            simp [l57_0, S57i, go_sem, c1, c2, c3, hb, g1']
          · have g1' : ¬ (c.toNat : Int) < (lo : Int) := by omega
            have g2' : (hi : Int) < (c.toNat : Int) := by omega
            simp [l57_0, S57i, go_sem, c1, c2, c3, hb, g1', g2']
        · simp only [hn, if_false] at hl
          have c3 := c3f hn
          by_cases g1 : c.toNat < 128
          · have g1' : (c.toNat : Int) < 128 := by omega
            simp [l57_0, S57i, go_sem, c1, c2, c3, hb, g1']
          · have g1' : ¬ (c.toNat : Int) < 128 := by omega
            have g2' : (191 : Int) < (c.toNat : Int) := by omega
            simp [l57_0, S57i, go_sem, c1, c2, c3, hb, g1', g2']
      · have hinn : inn s lo hi (k + 1) n p = inn s lo hi k (n + 1) (p * 64 + c.toNat % 64) := by simp only [inn, hb, if_neg hl]
        rw [hinn]
        obtain ⟨e', q0, q1, q2, q3, q4, q5⟩ := ih'
        refine ⟨e', ?_, q1, q2, q3, q4, q5⟩
        by_cases hn : n = 1
        · simp only [hn, if_true] at hl
          have c3 := c3b hn
          have g1 : ¬ (c.toNat : Int) < (lo : Int) := by omega
          have g2 : ¬ (hi : Int) < (c.toNat : Int) := by omega
          simp only [S57i] at q0 ⊢
          generalize lc tab prims h57_0 l57_0 = L at q0 ⊢
          simp [-Int.natCast_emod, -Int.natCast_add, -Int.natCast_mul, l57_0, k57_0, kl57_0, ko57_0, go_sem, c1, c2, c3, hb, g1, g2, a1, e64, e65, e66, o1, q0]
        · simp only [hn, if_false] at hl
          have c3 := c3f hn
          have g1 : ¬ (c.toNat : Int) < 128 := by omega
          have g2 : ¬ (191 : Int) < (c.toNat : Int) := by omega
          simp only [S57i] at q0 ⊢
          generalize lc tab prims h57_0 l57_0 = L at q0 ⊢
          simp [-Int.natCast_emod, -Int.natCast_add, -Int.natCast_mul, l57_0, k57_0, kl57_0, ko57_0, go_sem, c1, c2, c3, hb, g1, g2, a1, e64, e65, e66, o1, q0]
def S57 (R : List IV) (s : List UInt8) (k : Nat) (m : IM) : St where
  env := [(0, .str s, .any), (2, .pL 0 0, .any), (9, .agg R, .any), (10, .int .i64 k, .any)]
  lk := []
  lb := [(0, .cells [.int .i64 0, .bool false, .int .i64 0] [.any, .any, .any])]
  m := m

theorem miss57 (R : List IV) (c : UInt8) (t : List UInt8) (k fr to sz lo hi f : Nat) (m : IM) (hk : k < 9) (hl : k * 6 + 6 ≤ R.length) (hd : (R.drop (k * 6)).take 6 = [.int .u8 fr, .int .u8 to, .int .i64 sz, .int .u8 lo, .int .u8 hi, .func f [] []])
    (h : c.toNat < fr ∨ to < c.toNat) : lc tab prims h57_1 l57_1 (some (S57 R (c :: t) k m)) = lc tab prims h57_1 l57_1 (some (S57 R (c :: t) (k + 1) m)) := by
  rw [lc_some]
  generalize lc tab prims h57_1 l57_1 = L
  have c1 : (k : Int) < 9 := by omega
  have c2 : (0 : Int) ≤ (k : Int) := by omega
  have e1 : IntKind.i64.wrap ((k : Int) + 1) = ((k + 1 : Nat) : Int) := by rw [w64 (by omega) (by omega)]; rfl
  by_cases g1 : c.toNat < fr
  · have g1' : (c.toNat : Int) < (fr : Int) := by omega
    simp [-Int.natCast_add, l57_1, k57_1, kl57_1, ko57_1, S57, go_sem, c1, c2, hl, hd, g1', e1]
  · have g1' : ¬ (c.toNat : Int) < (fr : Int) := by omega
    have g2' : (to : Int) < (c.toNat : Int) := by omega
    simp [-Int.natCast_add, l57_1, k57_1, kl57_1, ko57_1, S57, go_sem, c1, c2, hl, hd, g1', g2', e1]

/-- What a string begins with, past its first byte. -/
def innB (s : List UInt8) (sz lo hi p : Nat) : Nat × Nat := inn s lo hi (sz - 1) 1 p

theorem hit57 (R : List IV) (c : UInt8) (t : List UInt8) (k fr to sz lo hi f p : Nat) (m : IM) (hk : k < 9) (hl : k * 6 + 6 ≤ R.length) (hd : (R.drop (k * 6)).take 6 = [.int .u8 fr, .int .u8 to, .int .i64 sz, .int .u8 lo, .int .u8 hi, .func f [] []])
    (h : ¬ (c.toNat < fr ∨ to < c.toNat)) (hz : 1 ≤ sz ∧ sz ≤ 4) (hp : p < 128) (hf : cw (.f f) [.int .u8 (c.toNat : Int)] m = some (.int .i64 (p : Int), m)) :
    ∃ e' lb', lc tab prims h57_1 l57_1 (some (S57 R (c :: t) k m)) = some (.ret, { env := e', lk := [], lb := lb', m := m }) ∧ look e' 2 = some (.pL 0 0, .any) ∧
      ∃ cp, lookL lb' 0 = .cells [.int .i64 ((innB (c :: t) sz lo hi p).1 : Nat), .bool (decide ((innB (c :: t) sz lo hi p).1 = sz)), .int .i64 ((innB (c :: t) sz lo hi p).2 : Nat)] cp := by
  obtain ⟨e', q0, q1, q2, q3, q4, q5⟩ := L57i (c :: t) fr to sz lo hi (.func f [] []) m hz.2 (sz - 1) 1 p (by omega) (by omega) (by simp) (by
    have : sz - 1 = 0 ∨ sz - 1 = 1 ∨ sz - 1 = 2 ∨ sz - 1 = 3 := by omega
    rcases this with q | q | q | q <;> rw [q] <;> omega)
  rw [lc_some]
  have c1 : (k : Int) < 9 := by omega
  have c2 : (0 : Int) ≤ (k : Int) := by omega
  have g1 : ¬ (c.toNat : Int) < (fr : Int) := by omega
  have g2 : ¬ (to : Int) < (c.toNat : Int) := by omega
  simp only [S57i] at q0
  rw [show ((1 : Nat) : Int) = 1 from rfl] at q0
  unfold cw at hf
  have hb : ((((inn (c :: t) lo hi (sz - 1) 1 p).1 : Nat) : Int) == (sz : Int)) = decide ((inn (c :: t) lo hi (sz - 1) 1 p).1 = sz) := by
    by_cases q : (inn (c :: t) lo hi (sz - 1) 1 p).1 = sz
    · simp [q]
    · simp only [q, decide_false, beq_eq_false_iff_ne]; omega
  simp [innB, l57_1, k57_1, kl57_1, ko57_1, k57_0, kl57_0, ko57_0, S57, go_sem, c1, c2, hl, hd, g1, g2, hf, q0, q1, q2, q3, q4, q5, hb]
  exact ⟨_, _, ⟨rfl, rfl⟩, by simp [look, q2], _, rfl⟩

/-- No lead is left. -/
theorem none57 (R : List IV) (s : List UInt8) (m : IM) : ∃ e', lc tab prims h57_1 l57_1 (some (S57 R s 9 m)) = some (.exit 0, { env := e', lk := [], lb := (S57 R s 9 m).lb, m := m }) ∧ look e' 2 = some (.pL 0 0, .any) := by
  rw [lc_some]
  simp [l57_1, S57, go_sem]

/-- The leads: which first bytes; how long; which second bytes; what the first byte is worth. -/
def leadOf (c : Nat) : Option (Nat × Nat × Nat × Nat) :=
  if c ≤ 127 then some (1, 0, 0, c)
  else if c < 194 then none
  else if c ≤ 223 then some (2, 128, 191, c % 32)
  else if c = 224 then some (3, 160, 191, c % 16)
  else if c ≤ 236 then some (3, 128, 191, c % 16)
  else if c = 237 then some (3, 128, 159, c % 16)
  else if c ≤ 239 then some (3, 128, 191, c % 16)
  else if c = 240 then some (4, 144, 191, c % 8)
  else if c ≤ 243 then some (4, 128, 191, c % 8)
  else if c = 244 then some (4, 128, 143, c % 8)
  else none

/-- What a string begins with. -/
def beginB (s : List UInt8) : Nat × Bool × Nat :=
  match s with
  | [] => (0, false, 0)
  | c :: t => match leadOf c.toNat with
    | none => (0, false, 0)
    | some (sz, lo, hi, p) => let r := innB (c :: t) sz lo hi p; (r.1, decide (r.1 = sz), r.2)

def pieceI (r : Nat × Bool × Nat) : IV := .agg [.int .i64 r.1, .bool r.2.1, .int .i64 r.2.2]

set_option maxRecDepth 10000 in
theorem andM (b : UInt8) : binInt .and .u8 (b.toNat : Int) 31 = some (.int .u8 ((b.toNat % 32 : Nat) : Int)) ∧ binInt .and .u8 (b.toNat : Int) 15 = some (.int .u8 ((b.toNat % 16 : Nat) : Int)) ∧ binInt .and .u8 (b.toNat : Int) 7 = some (.int .u8 ((b.toNat % 8 : Nat) : Int)) := by
  have h1 : ∀ n : Nat, n < 256 → IntKind.u8.wrap ((BitVec.ofInt 8 (n : Int) &&& BitVec.ofInt 8 31).toNat : Int) = ((n % 32 : Nat) : Int) := by decide
  have h2 : ∀ n : Nat, n < 256 → IntKind.u8.wrap ((BitVec.ofInt 8 (n : Int) &&& BitVec.ofInt 8 15).toNat : Int) = ((n % 16 : Nat) : Int) := by decide
  have h3 : ∀ n : Nat, n < 256 → IntKind.u8.wrap ((BitVec.ofInt 8 (n : Int) &&& BitVec.ofInt 8 7).toNat : Int) = ((n % 8 : Nat) : Int) := by decide
  have hb := b.toNat_lt
  refine ⟨?_, ?_, ?_⟩
  · show some (IV.int .u8 (IntKind.u8.wrap ((BitVec.ofInt 8 (b.toNat : Int) &&& BitVec.ofInt 8 31).toNat : Int))) = _
    rw [h1 _ hb]
  · show some (IV.int .u8 (IntKind.u8.wrap ((BitVec.ofInt 8 (b.toNat : Int) &&& BitVec.ofInt 8 15).toNat : Int))) = _
    rw [h2 _ hb]
  · show some (IV.int .u8 (IntKind.u8.wrap ((BitVec.ofInt 8 (b.toNat : Int) &&& BitVec.ofInt 8 7).toNat : Int))) = _
    rw [h3 _ hb]

theorem f208 : tab.fns 208 = some i208 := by rfl
theorem p208 : prims 208 = none := by rfl
theorem f209 : tab.fns 209 = some i209 := by rfl
theorem p209 : prims 209 = none := by rfl
theorem f210 : tab.fns 210 = some i210 := by rfl
theorem p210 : prims 210 = none := by rfl
theorem f211 : tab.fns 211 = some i211 := by rfl
theorem p211 : prims 211 = none := by rfl
theorem call208 (b : UInt8) (m : IM) : cw (.f 208) [.int .u8 (b.toNat : Int)] m = some (.int .i64 (b.toNat : Int), m) := by
  unfold cw; rw [callW_fn p208 f208]
  have hb := b.toNat_lt
  simp (disch := omega) [i208, go_sem, w64]
theorem call209 (b : UInt8) (m : IM) : cw (.f 209) [.int .u8 (b.toNat : Int)] m = some (.int .i64 ((b.toNat % 32 : Nat) : Int), m) := by
  unfold cw; rw [callW_fn p209 f209]
  have hw : IntKind.i64.wrap ((b.toNat % 32 : Nat) : Int) = ((b.toNat % 32 : Nat) : Int) := w64 (by omega) (by omega)
  simp [-Int.natCast_emod, i209, go_sem, (andM b).1, hw]
theorem call210 (b : UInt8) (m : IM) : cw (.f 210) [.int .u8 (b.toNat : Int)] m = some (.int .i64 ((b.toNat % 16 : Nat) : Int), m) := by
  unfold cw; rw [callW_fn p210 f210]
  have hw : IntKind.i64.wrap ((b.toNat % 16 : Nat) : Int) = ((b.toNat % 16 : Nat) : Int) := w64 (by omega) (by omega)
  simp [-Int.natCast_emod, i210, go_sem, (andM b).2.1, hw]
theorem call211 (b : UInt8) (m : IM) : cw (.f 211) [.int .u8 (b.toNat : Int)] m = some (.int .i64 ((b.toNat % 8 : Nat) : Int), m) := by
  unfold cw; rw [callW_fn p211 f211]
  have hw : IntKind.i64.wrap ((b.toNat % 8 : Nat) : Int) = ((b.toNat % 8 : Nat) : Int) := w64 (by omega) (by omega)
  simp [-Int.natCast_emod, i211, go_sem, (andM b).2.2, hw]

end Go.Idl

namespace Go.Idl
attribute [local go_sem] IFn.call ICode.run runOps IOp.run IOp.run0 gate IK.ok addrOK appOK OTag.hits IK.run Arg.rd look lookL rdAll POp.ev binEv bAdd bSub bMul bQuo bRem bLss bLeq bGtr bGeq bEql bNeq binStr shl6 unEv isShift St.put lkSlot lkL lkB lkC frc_eq frcV_eq IK.link slotC slotV St.drop St.capAt St.owner linkOf mkEnv retsOf settle0 IV.refsDeep IV.refsDeep.go IV.refs IV.refs.go refsAll IV.plain callI hideIds hideM unhideM IV.cells IV.isU IV.isL fillI repl over partI cut eqS byteVals bnd bnds loHi fold2 min2I max2I srcOf bytesCells zipCap newL newG storeI overCap capSl loadI cellsAt uqB loopW_lc St.head headE headB capNil capsL

/-- The loop over the leads has found one. -/
def Found (c : UInt8) (t : List UInt8) (k : Nat) (m : IM) (r : Nat × Bool × Nat) : Prop :=
  ∃ e' lb', lc tab prims h57_1 l57_1 (some (S57 row0 (c :: t) k m)) = some (.ret, { env := e', lk := [], lb := lb', m := m }) ∧ look e' 2 = some (.pL 0 0, .any) ∧
      ∃ cp, lookL lb' 0 = .cells [.int .i64 r.1, .bool r.2.1, .int .i64 r.2.2] cp

def NotFound (c : UInt8) (t : List UInt8) (k : Nat) (m : IM) : Prop :=
  ∃ e', lc tab prims h57_1 l57_1 (some (S57 row0 (c :: t) k m)) = some (.exit 0, { env := e', lk := [], lb := (S57 row0 (c :: t) 9 m).lb, m := m }) ∧ look e' 2 = some (.pL 0 0, .any)

def Res (c : UInt8) (t : List UInt8) (k : Nat) (m : IM) : Option (Nat × Nat × Nat × Nat) → Prop
  | none => NotFound c t k m
  | some (sz, lo, hi, p) => Found c t k m ((innB (c :: t) sz lo hi p).1, decide ((innB (c :: t) sz lo hi p).1 = sz), (innB (c :: t) sz lo hi p).2)

theorem res_miss {c : UInt8} {t : List UInt8} {k : Nat} {m : IM} {o : Option (Nat × Nat × Nat × Nat)} (fr to sz lo hi f : Nat) (hk : k < 9) (hl : k * 6 + 6 ≤ row0.length)
    (hd : (row0.drop (k * 6)).take 6 = [.int .u8 fr, .int .u8 to, .int .i64 sz, .int .u8 lo, .int .u8 hi, .func f [] []]) (h : c.toNat < fr ∨ to < c.toNat) (hr : Res c t (k + 1) m o) : Res c t k m o := by
  have e := miss57 row0 c t k fr to sz lo hi f m hk hl hd h
  cases o with
  | none => obtain ⟨e', q1, q2⟩ := hr; exact ⟨e', e.trans q1, q2⟩
  | some p =>
    obtain ⟨sz, lo, hi, p⟩ := p
    obtain ⟨e', lb', q1, q2⟩ := hr
    exact ⟨e', lb', e.trans q1, q2⟩

theorem res_hit {c : UInt8} {t : List UInt8} {k : Nat} {m : IM} (fr to sz lo hi f p : Nat) (hk : k < 9) (hl : k * 6 + 6 ≤ row0.length)
    (hd : (row0.drop (k * 6)).take 6 = [.int .u8 fr, .int .u8 to, .int .i64 sz, .int .u8 lo, .int .u8 hi, .func f [] []]) (h : fr ≤ c.toNat ∧ c.toNat ≤ to) (hz : 1 ≤ sz ∧ sz ≤ 4) (hp : p < 128)
    (hf : cw (.f f) [.int .u8 (c.toNat : Int)] m = some (.int .i64 (p : Int), m)) : Res c t k m (some (sz, lo, hi, p)) :=
  hit57 row0 c t k fr to sz lo hi f p m hk hl hd (by omega) hz hp hf

theorem res57 (c : UInt8) (t : List UInt8) (m : IM) : Res c t 0 m (leadOf c.toNat) := by
  have hb := c.toNat_lt
  unfold leadOf
  split
  · exact res_hit 0 127 1 0 0 208 c.toNat (by decide) (by decide) rfl (by omega) (by omega) (by omega) (call208 c m)
  refine res_miss 0 127 1 0 0 208 (by decide) (by decide) rfl (by omega) ?_
  split
  · refine res_miss 194 223 2 128 191 209 (by decide) (by decide) rfl (by omega) ?_
    refine res_miss 224 224 3 160 191 210 (by decide) (by decide) rfl (by omega) ?_
    refine res_miss 225 236 3 128 191 210 (by decide) (by decide) rfl (by omega) ?_
    refine res_miss 237 237 3 128 159 210 (by decide) (by decide) rfl (by omega) ?_
    refine res_miss 238 239 3 128 191 210 (by decide) (by decide) rfl (by omega) ?_
    refine res_miss 240 240 4 144 191 211 (by decide) (by decide) rfl (by omega) ?_
    refine res_miss 241 243 4 128 191 211 (by decide) (by decide) rfl (by omega) ?_
    refine res_miss 244 244 4 128 143 211 (by decide) (by decide) rfl (by omega) ?_
    exact none57 row0 (c :: t) m
  split
  · exact res_hit 194 223 2 128 191 209 (c.toNat % 32) (by decide) (by decide) rfl (by omega) (by omega) (by omega) (call209 c m)
  refine res_miss 194 223 2 128 191 209 (by decide) (by decide) rfl (by omega) ?_
  split
  · exact res_hit 224 224 3 160 191 210 (c.toNat % 16) (by decide) (by decide) rfl (by omega) (by omega) (by omega) (call210 c m)
  refine res_miss 224 224 3 160 191 210 (by decide) (by decide) rfl (by omega) ?_
  split
  · exact res_hit 225 236 3 128 191 210 (c.toNat % 16) (by decide) (by decide) rfl (by omega) (by omega) (by omega) (call210 c m)
  refine res_miss 225 236 3 128 191 210 (by decide) (by decide) rfl (by omega) ?_
  split
  · exact res_hit 237 237 3 128 159 210 (c.toNat % 16) (by decide) (by decide) rfl (by omega) (by omega) (by omega) (call210 c m)
  refine res_miss 237 237 3 128 159 210 (by decide) (by decide) rfl (by omega) ?_
  split
  · exact res_hit 238 239 3 128 191 210 (c.toNat % 16) (by decide) (by decide) rfl (by omega) (by omega) (by omega) (call210 c m)
  refine res_miss 238 239 3 128 191 210 (by decide) (by decide) rfl (by omega) ?_
  split
  · exact res_hit 240 240 4 144 191 211 (c.toNat % 8) (by decide) (by decide) rfl (by omega) (by omega) (by omega) (call211 c m)
  refine res_miss 240 240 4 144 191 211 (by decide) (by decide) rfl (by omega) ?_
  split
  · exact res_hit 241 243 4 128 191 211 (c.toNat % 8) (by decide) (by decide) rfl (by omega) (by omega) (by omega) (call211 c m)
  refine res_miss 241 243 4 128 191 211 (by decide) (by decide) rfl (by omega) ?_
  split
  · exact res_hit 244 244 4 128 143 211 (c.toNat % 8) (by decide) (by decide) rfl (by omega) (by omega) (by omega) (call211 c m)
  refine res_miss 244 244 4 128 143 211 (by decide) (by decide) rfl (by omega) ?_
  exact none57 row0 (c :: t) m

theorem f57 : tab.fns 57 = some i57 := by rfl
theorem p57 : prims 57 = none := by rfl
theorem call57 (c : UInt8) (t : List UInt8) (m : IM) : cw (.f 57) [.str (c :: t)] m = some (pieceI (beginB (c :: t)), m) := by
  have h := res57 c t m
  unfold cw; rw [callW_fn p57 f57]
  have hl : 54 ≤ row0.length := by decide
  have ht : row0.take 54 = row0 := rfl
  cases hc : leadOf c.toNat with
  | none =>
    rw [hc] at h
    obtain ⟨e', q1, q2⟩ := h
    simp only [S57] at q1
    rw [show ((0 : Nat) : Int) = 0 from rfl] at q1
    simp [i57, k57_1, kl57_1, ko57_1, go_sem, hl, ht, q1, q2, pieceI, beginB, hc]
  | some p =>
    obtain ⟨sz, lo, hi, p⟩ := p
    rw [hc] at h
    obtain ⟨e', lb', q1, q2, cp, q3⟩ := h
    simp only [S57] at q1
    rw [show ((0 : Nat) : Int) = 0 from rfl] at q1
    simp [i57, k57_1, kl57_1, ko57_1, go_sem, hl, ht, q1, q2, q3, pieceI, beginB, hc]

end Go.Idl

namespace Go.Idl
attribute [local go_sem] IFn.call ICode.run runOps IOp.run IOp.run0 gate IK.ok addrOK appOK OTag.hits IK.run Arg.rd look lookL rdAll POp.ev binEv bAdd bSub bMul bQuo bRem bLss bLeq bGtr bGeq bEql bNeq binStr shl6 unEv isShift St.put lkSlot lkL lkB lkC frc_eq frcV_eq IK.link slotC slotV St.drop St.capAt St.owner linkOf mkEnv retsOf settle0 IV.refsDeep IV.refsDeep.go IV.refs IV.refs.go refsAll IV.plain callI hideIds hideM unhideM IV.cells IV.isU IV.isL fillI repl over partI cut eqS byteVals bnd bnds loHi fold2 min2I max2I srcOf bytesCells zipCap newL newG storeI overCap capSl loadI cellsAt uqB loopW_lc St.head headE headB capNil capsL

def tk (m m' : IM) : IM := ⟨m'.bs.take m.size, m'.esc⟩
theorem tk_same (m : IM) : tk m m = m := by cases m; simp [tk, IM.size]
theorem tk_mk (a b : List BObj) (e e' : Nat) : tk ⟨a, e⟩ ⟨b, e'⟩ = ⟨b.take a.length, e'⟩ := rfl
def settleY (m m' : IM) (v : IV) : Option (IV × IM) := settle m m' v
theorem settleG {m m' : IM} {v : IV} : settle m m' v = if v.refsDeep = some 0 ∧ m'.esc = m.esc then some (v, tk m m') else settleY m m' v := by
  split
  · rename_i h
    unfold settle
    simp [h.1, h.2, frc_eq, tk]
  · rfl

theorem f28 : tab.fns 28 = some i28 := by rfl
theorem p28 : prims 28 = none := by rfl
theorem call28 (s : List UInt8) (m : IM) : cw (.f 28) [.str s] m = some (.tup (if s = [] then [.int .i64 0, .int .i64 0, .int .i64 10] else if (beginB s).2.1 then [.int .i64 (beginB s).2.2, .int .i64 (beginB s).1, .int .i64 0] else [.int .i64 0, .int .i64 0, .int .i64 1]), m) := by
  unfold cw; rw [callW_fn p28 f28]
  cases s with
  | nil => simp [i28, go_sem]
  | cons c t =>
    have h := call57 c t m
    unfold cw at h
    cases hw : (beginB (c :: t)).2.1 with
    | true => simp [i28, go_sem, h, pieceI, hw]
    | false => simp [i28, go_sem, h, pieceI, hw]

theorem f38 : tab.fns 38 = some i38 := by rfl
theorem p38 : prims 38 = none := by rfl
theorem call38 (s : List UInt8) (a b : BObj) : cw (.f 38) [.str s] ⟨[a, b], 0⟩ = some (.func 67 [] [.pB 2 0], ⟨[a, b, .cells [.str s] [.any]], 0⟩) := by
  unfold cw; rw [callW_fn p38 f38]
  simp [i38, go_sem, settleG, settleY, settle, IM.push, IM.size, frzD, frz]

/-- Where the first piece lies that is not whole. -/
def valB : Nat → List UInt8 → Nat → Option Nat
  | 0, _, _ => none
  | _ + 1, [], _ => none
  | k + 1, c :: t, at_ => if (beginB (c :: t)).2.1 then valB k ((c :: t).drop (max (beginB (c :: t)).1 1)) (at_ + max (beginB (c :: t)).1 1) else some at_

/-- The memory while the pieces are visited. -/
def Vm (s : List UInt8) (b : Bool) (i : Nat) (busy j : Nat) : IM :=
  ⟨[.cells [.bool b] [.any], .cells [.int .i64 (i : Int)] [.any], .cells [.str s] [.any], .loop busy 31 0 [(7, .func 67 [] [.pB 2 0], .any), (6, .str s, .any), (3, .pB 1 0, .any), (2, .pB 0 0, .any), (0, .str s, .any)] j], 0⟩

theorem y31 (s : List UInt8) (at_ : Nat) (r : Nat × Bool × Nat) : cw (.y 3) [.int .i64 (at_ : Int), pieceI r] (Vm s false 0 0 0) = some (.bool r.2.1, if r.2.1 then Vm s false 0 0 0 else Vm s false at_ 1 1) := by
  unfold cw; rw [callW_y (fn := 31) (site := 0) (r := r31_0) (bz := 0) (j := 0) (tm := [(7, .func 67 [] [.pB 2 0], .any), (6, .str s, .any), (3, .pB 1 0, .any), (2, .pB 0 0, .any), (0, .str s, .any)]) rfl rfl]
  cases hw : r.2.1 with
  | true => simp [r31_0, IRnd.call, setAll, pieceI, Vm, go_sem, IM.get, IM.put, settleG, tk_mk, hw, jnum]
  | false => simp [r31_0, IRnd.call, setAll, pieceI, Vm, go_sem, IM.get, IM.put, settleG, tk_mk, hw, jnum]

theorem inn_le (s : List UInt8) (lo hi : Nat) : ∀ k n p, (inn s lo hi k n p).1 ≤ n + k
  | 0, n, p => Nat.le_refl _
  | k + 1, n, p => by
    rw [inn]
    cases h : s[n]? with
    | none => exact Nat.le_add_right _ _
    | some b =>
      simp only
      by_cases hc : b.toNat < (if n = 1 then lo else 128) ∨ (if n = 1 then hi else 191) < b.toNat
      · rw [if_pos hc]; exact Nat.le_add_right _ _
      · rw [if_neg hc]
        have := inn_le s lo hi k (n + 1) (p * 64 + b.toNat % 64); omega

theorem leadOf_sz {c sz lo hi p : Nat} (h : leadOf c = some (sz, lo, hi, p)) : 1 ≤ sz ∧ sz ≤ 4 := by
  unfold leadOf at h
  repeat' (split at h)
  all_goals (first | (cases h; done) | (cases h; exact ⟨by decide, by decide⟩))

theorem beginB_le (s : List UInt8) : (beginB s).1 ≤ 4 := by
  unfold beginB
  split
  · exact Nat.zero_le _
  · split
    · exact Nat.zero_le _
    · rename_i c t _ sz lo hi p h
      have h1 := leadOf_sz h
      have := inn_le (c :: t) lo hi (sz - 1) 1 p
      simp only [innB]
      omega

theorem k67_0 : h67_0.keep = [(0, 0), (1, 0), (3, 0)] := rfl
theorem kl67_0 : h67_0.keepL = [] := rfl
theorem ko67_0 : h67_0.ownL = [] := rfl
theorem vm_get2 (s : List UInt8) (b : Bool) (i busy j : Nat) : (Vm s b i busy j).get 2 = .cells [.str s] [.any] := rfl

def S67 (at_ : Nat) (m : IM) : St where
  env := [(0, .yld 3, .any), (1, .pB 2 0, .any), (3, .int .i64 at_, .any)]
  lk := []
  lb := []
  m := m

def valR (e' : Env) (lb' : List (Nat × BObj)) (s : List UInt8) : Option Nat → Option (Ex × St)
  | none => some (.exit 0, { env := e', lk := [], lb := lb', m := Vm s false 0 0 0 })
  | some a => some (.ret, { env := e', lk := [], lb := lb', m := Vm s false a 1 1 })

theorem L67v (s : List UInt8) (hs : s.length ≤ 1099511627776) : ∀ (k at_ : Nat), s.length - at_ < k → at_ ≤ 1099511627780 →
    ∃ e' lb', lc tab prims h67_0 l67_0 (some (S67 at_ (Vm s false 0 0 0))) = valR e' lb' s (valB k (s.drop at_) at_) := by
  intro k
  induction k with
  | zero => intro at_ h; omega
  | succ k ih =>
    intro at_ hk hat
    rw [lc_some]
    by_cases hlt : at_ < s.length
    · have c1 : (at_ : Int) < (s.length : Int) := by omega
      have c2 : (at_ : Int) ≤ (s.length : Int) := by omega
      have c3 : (0 : Int) ≤ (at_ : Int) := by omega
      cases hd : s.drop at_ with
      | nil => have := List.drop_eq_nil_iff.1 hd; omega
      | cons c t =>
        have htk : (s.drop at_).take (s.length - at_) = c :: t := by rw [hd]; exact List.take_of_length_le (by rw [← hd]; simp)
        have hb := call57 c t (Vm s false 0 0 0)
        have hy := y31 s at_ (beginB (c :: t))
        have hle := beginB_le (c :: t)
        unfold cw at hb hy
        cases hw : (beginB (c :: t)).2.1 with
        | true =>
          have hv : valB (k + 1) (c :: t) at_ = valB k ((c :: t).drop (max (beginB (c :: t)).1 1)) (at_ + max (beginB (c :: t)).1 1) := by simp [valB, hw]
          rw [hv, ← hd, List.drop_drop]
          have hmax : (if ((beginB (c :: t)).1 : Int) < 1 then (1 : Int) else ((beginB (c :: t)).1 : Int)) = ((max (beginB (c :: t)).1 1 : Nat) : Int) := by
            split <;> omega
          obtain ⟨e', lb', q⟩ := ih (at_ + max (beginB (c :: t)).1 1) (by omega) (by omega)
          refine ⟨e', lb', ?_⟩
          rw [← hd] at *
          rw [← q]
          simp only [hw, if_true] at hy
          generalize hG : beginB (List.drop at_ s) = G at *
          have e1 : IntKind.i64.wrap ((at_ : Int) + ((max G.1 1 : Nat) : Int)) = ((at_ + max G.1 1 : Nat) : Int) := by rw [w64 (by omega) (by omega)]; rfl
          simp only [S67, pieceI, hw] at hb hy ⊢
          simp [-Int.natCast_add, l67_0, k67_0, kl67_0, ko67_0, go_sem, vm_get2, c1, c2, c3, htk, hb, hy, hw, hmax, e1]
        | false =>
          have hv : valB (k + 1) (c :: t) at_ = some at_ := by simp [valB, hw]
          rw [hv]
          simp only [hw] at hy
          rw [← hd] at *
          generalize hG : beginB (List.drop at_ s) = G at *
          simp only [S67, pieceI, valR, hw] at hb hy ⊢
          simp [-Int.natCast_add, l67_0, k67_0, kl67_0, ko67_0, go_sem, vm_get2, c1, c2, c3, htk, hb, hy, hw]
    · have c1 : ¬ (at_ : Int) < (s.length : Int) := by omega
      have hd : s.drop at_ = [] := List.drop_eq_nil_iff.2 (by omega)
      rw [hd]
      simp [l67_0, k67_0, kl67_0, ko67_0, S67, go_sem, vm_get2, c1, valB, valR]

end Go.Idl

namespace Go.Idl
attribute [local go_sem] IFn.call ICode.run runOps IOp.run IOp.run0 gate IK.ok addrOK appOK OTag.hits IK.run Arg.rd look lookL rdAll POp.ev binEv bAdd bSub bMul bQuo bRem bLss bLeq bGtr bGeq bEql bNeq binStr shl6 unEv isShift St.put lkSlot lkL lkB lkC frc_eq frcV_eq IK.link slotC slotV St.drop St.capAt St.owner linkOf mkEnv retsOf settle0 IV.refsDeep IV.refsDeep.go IV.refs IV.refs.go refsAll IV.plain callI hideIds hideM unhideM IV.cells IV.isU IV.isL fillI repl over partI cut eqS byteVals bnd bnds loHi fold2 min2I max2I srcOf bytesCells zipCap newL newG storeI overCap capSl loadI cellsAt uqB loopW_lc St.head headE headB capNil capsL

theorem vm_tk (s : List UInt8) (b b' : Bool) (i i' x j x' j' : Nat) : tk (Vm s b i x j) (Vm s b' i' x' j') = Vm s b' i' x' j' := rfl
theorem vm_esc (s : List UInt8) (b : Bool) (i x j : Nat) : (Vm s b i x j).esc = 0 := rfl

theorem f67 : tab.fns 67 = some i67 := by rfl
theorem p67 : prims 67 = none := by rfl
theorem call67v (s : List UInt8) (hs : s.length ≤ 1099511627776) : cw (.f 67) [.yld 3, .pB 2 0] (Vm s false 0 0 0) = some (.tup [], match valB (s.length + 1) s 0 with | none => Vm s false 0 0 0 | some a => Vm s false a 1 1) := by
  unfold cw; rw [callW_fn p67 f67]
  obtain ⟨e', lb', q⟩ := L67v s hs (s.length + 1) 0 (by omega) (by omega)
  rw [List.drop_zero] at q
  simp only [S67] at q
  rw [show ((0 : Nat) : Int) = 0 from rfl] at q
  cases hv : valB (s.length + 1) s 0 with
  | none =>
    rw [hv] at q
    simp only [valR] at q
    simp [i67, k67_0, kl67_0, ko67_0, go_sem, q, settleG, vm_tk, vm_esc]
  | some a =>
    rw [hv] at q
    simp only [valR] at q
    simp [i67, k67_0, kl67_0, ko67_0, go_sem, q, settleG, vm_tk, vm_esc]

theorem f31 : tab.fns 31 = some i31 := by rfl
theorem p31 : prims 31 = none := by rfl
theorem call31 (s : List UInt8) (hs : s.length ≤ 1099511627776) : cw (.f 31) [.str s] ⟨[], 0⟩ = some (.tup (match valB (s.length + 1) s 0 with | none => [.bool true, .int .i64 (s.length : Int)] | some a => [.bool false, .int .i64 (a : Int)]), ⟨[], 0⟩) := by
  unfold cw; rw [callW_fn p31 f31]
  have h1 := call38 s (.cells [.bool false] [.any]) (.cells [.int .i64 0] [.any])
  have h2 := call67v s hs
  unfold cw at h1 h2
  cases hv : valB (s.length + 1) s 0 with
  | none =>
    rw [hv] at h2
    simp only [Vm] at h2
    rw [show ((0 : Nat) : Int) = 0 from rfl] at h2
    simp [i31, go_sem, h1, h2, settleG, tk_mk, IM.push, IM.size, IM.get, IM.put, noL]
  | some a =>
    rw [hv] at h2
    simp only [Vm] at h2
    rw [show ((0 : Nat) : Int) = 0 from rfl] at h2
    simp [i31, go_sem, h1, h2, settleG, tk_mk, IM.push, IM.size, IM.get, IM.put, noL]

end Go.Idl

namespace Go.Idl
attribute [local go_sem] IFn.call ICode.run runOps IOp.run IOp.run0 gate IK.ok addrOK appOK OTag.hits IK.run Arg.rd look lookL rdAll POp.ev binEv bAdd bSub bMul bQuo bRem bLss bLeq bGtr bGeq bEql bNeq binStr shl6 unEv isShift St.put lkSlot lkL lkB lkC frc_eq frcV_eq IK.link slotC slotV St.drop St.capAt St.owner linkOf mkEnv retsOf settle0 IV.refsDeep IV.refsDeep.go IV.refs IV.refs.go refsAll IV.plain callI hideIds hideM unhideM IV.cells IV.isU IV.isL fillI repl over partI cut eqS byteVals bnd bnds loHi fold2 min2I max2I srcOf bytesCells zipCap newL newG storeI overCap capSl loadI cellsAt uqB loopW_lc St.head headE headB capNil capsL

def widthB (c : Nat) : Nat := if c < 128 then 1 else if 194 ≤ c ∧ c < 224 then 2 else if 224 ≤ c ∧ c < 240 then 3 else if 240 ≤ c ∧ c < 245 then 4 else 0

theorem f68 : tab.fns 68 = some i68 := by rfl
theorem p68 : prims 68 = none := by rfl
theorem call68 (c : UInt8) (m : IM) : cw (.f 68) [.int .u8 (c.toNat : Int)] m = some (.int .i64 (widthB c.toNat : Nat), m) := by
  unfold cw; rw [callW_fn p68 f68]
  unfold widthB
  by_cases h1 : c.toNat < 128
  · have g1 : (c.toNat : Int) < 128 := by omega
    simp [i68, go_sem, h1, g1]
  · have g1 : ¬ (c.toNat : Int) < 128 := by omega
    by_cases h2 : 194 ≤ c.toNat <;> by_cases h3 : c.toNat < 224 <;> by_cases h4 : 224 ≤ c.toNat <;> by_cases h5 : c.toNat < 240 <;> by_cases h6 : 240 ≤ c.toNat <;> by_cases h7 : c.toNat < 245 <;>
    first
      | omega
      | (have g2 : (194 ≤ (c.toNat : Int)) = (194 ≤ c.toNat) := by simp; omega
         have g3 : ((c.toNat : Int) < 224) = (c.toNat < 224) := by simp; omega
         have g4 : (224 ≤ (c.toNat : Int)) = (224 ≤ c.toNat) := by simp; omega
         have g5 : ((c.toNat : Int) < 240) = (c.toNat < 240) := by simp; omega
         have g6 : (240 ≤ (c.toNat : Int)) = (240 ≤ c.toNat) := by simp; omega
         have g7 : ((c.toNat : Int) < 245) = (c.toNat < 245) := by simp; omega
         simp [i68, go_sem, h1, g1, g2, g3, g4, g5, g6, g7, h2, h3, h4, h5, h6, h7])

/-- The bytes that follow, all of them. -/
def dcr (s : List UInt8) : Nat → Nat → Nat → Option Nat
  | 0, _, p => some p
  | k + 1, i, p => match s[i]? with
    | none => none
    | some b => if b.toNat < 128 ∨ 191 < b.toNat then none else dcr s k (i + 1) (64 * p + b.toNat - 128)

theorem k40_0 : h40_0.keep = [(0, 0), (4, 0), (5, 0), (6, 0)] := rfl
theorem kl40_0 : h40_0.keepL = [] := rfl
theorem ko40_0 : h40_0.ownL = [] := rfl
def S40 (s : List UInt8) (n p i : Nat) (m : IM) : St where
  env := [(0, .str s, .any), (4, .int .i64 n, .any), (5, .int .i64 p, .any), (6, .int .i64 i, .any)]
  lk := []
  lb := []
  m := m

theorem L40 (s : List UInt8) (n : Nat) (m : IM) (hs : n ≤ s.length) (hn : n ≤ 4) : ∀ (k i p : Nat), n = i + k → 1 ≤ i → (p + 1) * 64 ^ k ≤ 2 ^ 31 →
    match dcr s k i p with
    | some p' => ∃ e', lc tab prims h40_0 l40_0 (some (S40 s n p i m)) = some (.exit 0, { env := e', lk := [], lb := [], m := m }) ∧ look e' 0 = some (.str s, .any) ∧ look e' 4 = some (.int .i64 n, .any) ∧ look e' 5 = some (.int .i64 (p' : Nat), .any)
    | none => ∃ e', lc tab prims h40_0 l40_0 (some (S40 s n p i m)) = some (.ret, { env := e', lk := [], lb := [], m := m }) ∧ look e' 2 = some (.int .i64 0, .any) ∧ look e' 3 = some (.int .i64 0, .any) := by
  intro k
  induction k with
  | zero =>
    intro i p hk h1 h3
    rw [lc_some]
    have c1 : ¬ ((i : Int) < (n : Int)) := by omega
    simp only [dcr]
    simp [l40_0, k40_0, kl40_0, ko40_0, S40, go_sem, c1]
  | succ k ih =>
    intro i p hk h1 h3
    have c1 : (i : Int) < (n : Int) := by omega
    cases hb : s[i]? with
    | none => have := List.getElem?_eq_none_iff.1 hb; omega
    | some c =>
      have c3 : (0 : Int) ≤ (i : Int) := by omega
      by_cases hl : c.toNat < 128 ∨ 191 < c.toNat
      · have hd : dcr s (k + 1) i p = none := by simp only [dcr, hb, if_pos hl]
        rw [hd, lc_some]
        simp only
        by_cases g1 : c.toNat < 128
        · have g1' : (c.toNat : Int) < 128 := by omega
          simp [l40_0, k40_0, kl40_0, ko40_0, S40, go_sem, c1, c3, hb, g1', look]
        · have g1' : ¬ (c.toNat : Int) < 128 := by omega
          have g2' : (191 : Int) < (c.toNat : Int) := by omega
          simp [l40_0, k40_0, kl40_0, ko40_0, S40, go_sem, c1, c3, hb, g1', g2', look]
      · have hd : dcr s (k + 1) i p = dcr s k (i + 1) (64 * p + c.toNat - 128) := by simp only [dcr, hb, if_neg hl]
        rw [hd]
        have hp : p < 2 ^ 31 := by
          have : 1 ≤ 64 ^ (k + 1) := Nat.one_le_pow _ _ (by omega)
          have := Nat.mul_le_mul_left (p + 1) this
          omega
        have hstep : (64 * p + c.toNat - 128 + 1) * 64 ^ k ≤ 2 ^ 31 := by
          have : (64 * p + c.toNat - 128 + 1) * 64 ^ k ≤ ((p + 1) * 64) * 64 ^ k := Nat.mul_le_mul_right _ (by omega)
          rw [Nat.pow_succ] at h3
          have e : (p + 1) * 64 * 64 ^ k = (p + 1) * (64 ^ k * 64) := by rw [Nat.mul_assoc, Nat.mul_comm 64]
          omega
        have ih' := ih (i + 1) (64 * p + c.toNat - 128) (by omega) (by omega) hstep
        have g1' : ¬ (c.toNat : Int) < 128 := by omega
        have g2' : ¬ (191 : Int) < (c.toNat : Int) := by omega
        have hlt := c.toNat_lt
        have e1 : IntKind.i64.wrap (64 * (p : Int)) = 64 * (p : Int) := w64 (by omega) (by omega)
        have e2 : IntKind.i64.wrap (c.toNat : Int) = (c.toNat : Int) := w64 (by omega) (by omega)
        have e3 : IntKind.i64.wrap (64 * (p : Int) + (c.toNat : Int)) = 64 * (p : Int) + (c.toNat : Int) := w64 (by omega) (by omega)
        have e4 : IntKind.i64.wrap (64 * (p : Int) + (c.toNat : Int) - 128) = ((64 * p + c.toNat - 128 : Nat) : Int) := by rw [w64 (by omega) (by omega)]; omega
        have e5 : IntKind.i64.wrap ((i : Int) + 1) = ((i + 1 : Nat) : Int) := by rw [w64 (by omega) (by omega)]; rfl
        have step : lc tab prims h40_0 l40_0 (some (S40 s n p i m)) = lc tab prims h40_0 l40_0 (some (S40 s n (64 * p + c.toNat - 128) (i + 1) m)) := by
          rw [lc_some]
          generalize 64 * p + c.toNat - 128 = q at *
          generalize i + 1 = j at *
          simp [l40_0, k40_0, kl40_0, ko40_0, S40, go_sem, c1, c3, hb, g1', g2', e1, e2, e3, e4, e5]
        rw [step]
        exact ih'
end Go.Idl

namespace Go.Idl
attribute [local go_sem] IFn.call ICode.run runOps IOp.run IOp.run0 gate IK.ok addrOK appOK OTag.hits IK.run Arg.rd look lookL rdAll POp.ev binEv bAdd bSub bMul bQuo bRem bLss bLeq bGtr bGeq bEql bNeq binStr shl6 unEv isShift St.put lkSlot lkL lkB lkC frc_eq frcV_eq IK.link slotC slotV St.drop St.capAt St.owner linkOf mkEnv retsOf settle0 IV.refsDeep IV.refsDeep.go IV.refs IV.refs.go refsAll IV.plain callI hideIds hideM unhideM IV.cells IV.isU IV.isL fillI repl over partI cut eqS byteVals bnd bnds loHi fold2 min2I max2I srcOf bytesCells zipCap newL newG storeI overCap capSl loadI cellsAt uqB loopW_lc St.head headE headB capNil capsL

/-- The decoding of what a string begins with: code point and width; 0, 0. -/
def decB (s : List UInt8) : Nat × Nat :=
  match s with
  | [] => (0, 0)
  | c :: t =>
    let n := widthB c.toNat
    if n = 0 ∨ (c :: t).length < n then (0, 0) else
    match dcr (c :: t) (n - 1) 1 (if 1 < n then c.toNat % (256 / 2 ^ (n + 1)) else c.toNat) with
    | none => (0, 0)
    | some p => if isPointB p = true ∧ encB p = (c :: t).take n then (p, n) else (0, 0)

theorem shr3 : shiftI .shr .i64 256 3 = some (.int .i64 32) := rfl
theorem shr4 : shiftI .shr .i64 256 4 = some (.int .i64 16) := rfl
theorem shr5 : shiftI .shr .i64 256 5 = some (.int .i64 8) := rfl

theorem widthB_cases (c : Nat) : widthB c = 0 ∨ widthB c = 1 ∨ widthB c = 2 ∨ widthB c = 3 ∨ widthB c = 4 := by
  unfold widthB
  repeat' split
  all_goals simp

/-- Behind the loop. -/
theorem fin40 (s : List UInt8) (n p0 : Nat) (hn : 1 ≤ n ∧ n ≤ 4) (hl : n ≤ s.length) (hp : (p0 + 1) * 64 ^ (n - 1) ≤ 2 ^ 31) (m : IM) : 
    match dcr s (n - 1) 1 p0 with
    | some p' => ∃ e', lc tab prims h40_0 l40_0 (some (S40 s n p0 1 m)) = some (.exit 0, { env := e', lk := [], lb := [], m := m }) ∧ look e' 0 = some (.str s, .any) ∧ look e' 4 = some (.int .i64 n, .any) ∧ look e' 5 = some (.int .i64 (p' : Nat), .any)
    | none => ∃ e', lc tab prims h40_0 l40_0 (some (S40 s n p0 1 m)) = some (.ret, { env := e', lk := [], lb := [], m := m }) ∧ look e' 2 = some (.int .i64 0, .any) ∧ look e' 3 = some (.int .i64 0, .any) :=
  L40 s n m hl hn.2 (n - 1) 1 p0 (by omega) (by omega) hp

theorem f40 : tab.fns 40 = some i40 := by rfl
theorem p40 : prims 40 = none := by rfl
set_option maxHeartbeats 1000000 in
theorem call40 (s : List UInt8) (m : IM) : cw (.f 40) [.str s] m = some (.tup [.int .i64 (decB s).1, .int .i64 (decB s).2], m) := by
  unfold cw; rw [callW_fn p40 f40]
  cases s with
  | nil => simp [i40, go_sem, decB]
  | cons c t =>
    have h68 := call68 c m
    unfold cw at h68
    have hlt := c.toNat_lt
    have hcw : IntKind.i64.wrap (c.toNat : Int) = (c.toNat : Int) := w64 (by omega) (by omega)
    rcases widthB_cases c.toNat with hw | hw
    · rw [hw] at h68
      simp [i40, go_sem, h68, decB, hw]
    · have hn : 1 ≤ widthB c.toNat ∧ widthB c.toNat ≤ 4 := by omega
      by_cases hlen : (c :: t).length < widthB c.toNat
      · have hd : decB (c :: t) = (0, 0) := by simp only [decB]; rw [if_pos (.inr hlen)]
        have g0 : ((widthB c.toNat : Int) == 0) = false := by simp; omega
        have g1 : (((c :: t).length : Nat) : Int) < (widthB c.toNat : Int) := by omega
        rw [hd]
        simp only [List.length_cons] at g1
        simp [-Int.natCast_add, i40, go_sem, h68, g0, g1]
      · have hnot : ¬ (widthB c.toNat = 0 ∨ (c :: t).length < widthB c.toNat) := by omega
        have hd : decB (c :: t) = match dcr (c :: t) (widthB c.toNat - 1) 1 (if 1 < widthB c.toNat then c.toNat % (256 / 2 ^ (widthB c.toNat + 1)) else c.toNat) with
          | none => (0, 0)
          | some p => if isPointB p = true ∧ encB p = (c :: t).take (widthB c.toNat) then (p, widthB c.toNat) else (0, 0) := by simp only [decB]; rw [if_neg hnot]
        rw [hd]
        generalize hN : widthB c.toNat = n at *
        generalize hP : (if 1 < n then c.toNat % (256 / 2 ^ (n + 1)) else c.toNat) = p0 at *
        have hp0 : (p0 + 1) * 64 ^ (n - 1) ≤ 2 ^ 31 := by
          have : n = 1 ∨ n = 2 ∨ n = 3 ∨ n = 4 := by omega
          rcases this with q | q | q | q <;> subst q <;> simp at hP ⊢ <;> omega
        have hf := fin40 (c :: t) n p0 hn (by omega) hp0 m
        have g0 : ((n : Int) == 0) = false := by simp; omega
        have g1 : ¬ ((((c :: t).length : Nat) : Int) < (n : Int)) := by omega
        have g2 : (n : Int) ≤ (((c :: t).length : Nat) : Int) := by omega
        have g3 : (0 : Int) ≤ (n : Int) := by omega
        have hsz : (c :: t).length = t.length + 1 := rfl
        have e1 : 1 < n → shiftI .shr .i64 256 (IntKind.i64.wrap ((n : Int) + 1)) = some (.int .i64 ((256 / 2 ^ (n + 1) : Nat) : Int)) := fun h => by
          have : n = 2 ∨ n = 3 ∨ n = 4 := by omega
          rcases this with q | q | q <;> subst q <;> rfl
        have e2 : 1 < n → 0 < 256 / 2 ^ (n + 1) := fun h => by
          have : n = 2 ∨ n = 3 ∨ n = 4 := by omega
          rcases this with q | q | q <;> subst q <;> decide
        generalize 256 / 2 ^ (n + 1) = X at *
        have hrem : 1 < n → ((c.toNat : Int).tmod (X : Int)) = (p0 : Int) := fun h => by
          rw [if_pos h] at hP
          rw [tm (by omega), ← hP]; rfl
        rw [hsz] at g1 g2
        by_cases h1n : 1 < n
        · have g4 : (1 : Int) < (n : Int) := by omega
          have E1 := e1 h1n
          have E2 : ¬ (X = 0) := by have := e2 h1n; omega
          have E3 := hrem h1n
          cases hdc : dcr (c :: t) (n - 1) 1 p0 with
          | none =>
            rw [hdc] at hf
            obtain ⟨e', q0, q1, q2⟩ := hf
            simp only [S40] at q0
            rw [show ((1 : Nat) : Int) = 1 from rfl] at q0
            simp [-Int.natCast_add, i40, k40_0, kl40_0, ko40_0, go_sem, h68, g0, g1, g4, hcw, E1, E2, E3, q0, q1, q2]
          | some p =>
            rw [hdc] at hf
            obtain ⟨e', q0, q1, q2, q3⟩ := hf
            simp only [S40] at q0
            rw [show ((1 : Nat) : Int) = 1 from rfl] at q0
            have h64 := call64 (p : Int) m
            unfold cw at h64
            cases hpt : isPointB (p : Int) with
            | false =>
              rw [hpt] at h64
              simp [-Int.natCast_add, i40, k40_0, kl40_0, ko40_0, go_sem, h68, g0, g1, g4, hcw, E1, E2, E3, q0, q1, q2, q3, h64, hpt]
            | true =>
              have hple : p ≤ 1114111 := by simp [isPointB] at hpt; omega
              have h42 := call42 p hple m
              unfold cw at h42
              rw [hpt] at h64
              by_cases hq : encB p = (c :: t).take n
              · simp [-Int.natCast_add, i40, k40_0, kl40_0, ko40_0, go_sem, h68, g0, g1, g2, g3, g4, hcw, E1, E2, E3, q0, q1, q2, q3, h64, h42, hpt, hq]
              · have hqb : (encB p == (c :: t).take n) = false := by simpa using hq
                simp [-Int.natCast_add, i40, k40_0, kl40_0, ko40_0, go_sem, h68, g0, g1, g2, g3, g4, hcw, E1, E2, E3, q0, q1, q2, q3, h64, h42, hpt, hq, hqb]
        · have g4 : ¬ (1 : Int) < (n : Int) := by omega
          rw [if_neg h1n] at hP
          subst hP
          cases hdc : dcr (c :: t) (n - 1) 1 c.toNat with
          | none =>
            rw [hdc] at hf
            obtain ⟨e', q0, q1, q2⟩ := hf
            simp only [S40] at q0
            rw [show ((1 : Nat) : Int) = 1 from rfl] at q0
            simp [-Int.natCast_add, i40, k40_0, kl40_0, ko40_0, go_sem, h68, g0, g1, g4, hcw, q0, q1, q2]
          | some p =>
            rw [hdc] at hf
            obtain ⟨e', q0, q1, q2, q3⟩ := hf
            simp only [S40] at q0
            rw [show ((1 : Nat) : Int) = 1 from rfl] at q0
            have h64 := call64 (p : Int) m
            unfold cw at h64
            cases hpt : isPointB (p : Int) with
            | false =>
              rw [hpt] at h64
              simp [-Int.natCast_add, i40, k40_0, kl40_0, ko40_0, go_sem, h68, g0, g1, g4, hcw, q0, q1, q2, q3, h64, hpt]
            | true =>
              have hple : p ≤ 1114111 := by simp [isPointB] at hpt; omega
              have h42 := call42 p hple m
              unfold cw at h42
              rw [hpt] at h64
              by_cases hq : encB p = (c :: t).take n
              · simp [-Int.natCast_add, i40, k40_0, kl40_0, ko40_0, go_sem, h68, g0, g1, g2, g3, g4, hcw, q0, q1, q2, q3, h64, h42, hpt, hq]
              · have hqb : (encB p == (c :: t).take n) = false := by simpa using hq
                simp [-Int.natCast_add, i40, k40_0, kl40_0, ko40_0, go_sem, h68, g0, g1, g2, g3, g4, hcw, q0, q1, q2, q3, h64, h42, hpt, hq, hqb]
end Go.Idl

namespace Go.Idl
attribute [local go_sem] IFn.call ICode.run runOps IOp.run IOp.run0 gate IK.ok addrOK appOK OTag.hits IK.run Arg.rd look lookL rdAll POp.ev binEv bAdd bSub bMul bQuo bRem bLss bLeq bGtr bGeq bEql bNeq binStr shl6 unEv isShift St.put lkSlot lkL lkB lkC frc_eq frcV_eq IK.link slotC slotV St.drop St.capAt St.owner linkOf mkEnv retsOf settle0 IV.refsDeep IV.refsDeep.go IV.refs IV.refs.go refsAll IV.plain callI hideIds hideM unhideM IV.cells IV.isU IV.isL fillI repl over partI cut eqS byteVals bnd bnds loHi fold2 min2I max2I srcOf bytesCells zipCap newL newG storeI overCap capSl loadI cellsAt uqB loopW_lc St.head headE headB capNil capsL

theorem decB_le (s : List UInt8) : (decB s).2 ≤ 4 ∧ (decB s).2 ≤ s.length := by
  unfold decB
  split
  · simp
  · rename_i c t
    have := widthB_cases c.toNat
    simp only
    split
    · simp
    · split
      · simp
      · split
        · rename_i h _ _ _ _
          simp only
          omega
        · simp

theorem f33 : tab.fns 33 = some i33 := by rfl
theorem p33 : prims 33 = none := by rfl
theorem call33 (s : List UInt8) (m : IM) : cw (.f 33) [.str s] m = some (.tup (if s = [] then [.int .i64 0, .int .i64 0, .int .i64 10] else if (decB s).2 = 0 then [.int .i64 0, .int .i64 0, .int .i64 1] else [.int .i64 (decB s).1, .int .i64 (decB s).2, .int .i64 0]), m) := by
  unfold cw; rw [callW_fn p33 f33]
  have h := call40 s m
  unfold cw at h
  by_cases hs : s = []
  · subst hs
    simp [i33, go_sem]
  · have hsb : (s == []) = false := by simpa using hs
    by_cases hz : (decB s).2 = 0
    · have hzb : (((decB s).2 : Nat) : Int) = 0 := by omega
      simp [i33, go_sem, h, hs, hsb, hz, hzb]
    · have hzb : ((((decB s).2 : Nat) : Int) == 0) = false := by simp; omega
      simp [i33, go_sem, h, hs, hsb, hz, hzb]

/-- Where the first byte lies that begins no encoding. -/
def rvB : Nat → List UInt8 → Nat → Option Nat
  | 0, _, _ => none
  | k + 1, s, a => if s = [] then none else if (decB s).2 = 0 then some a else rvB k (s.drop (decB s).2) (a + (decB s).2)

theorem k34_0 : h34_0.keep = [(0, 0), (4, 0)] := rfl
theorem kl34_0 : h34_0.keepL = [] := rfl
theorem ko34_0 : h34_0.ownL = [] := rfl
def S34 (s : List UInt8) (a : Nat) (m : IM) : St where
  env := [(0, .str s, .any), (4, .int .i64 a, .any)]
  lk := []
  lb := []
  m := m

theorem L34 (s : List UInt8) (hs : s.length ≤ 1099511627776) (m : IM) : ∀ (k a : Nat), s.length - a < k → a ≤ s.length →
    match rvB k (s.drop a) a with
    | none => ∃ e', lc tab prims h34_0 l34_0 (some (S34 s a m)) = some (.exit 0, { env := e', lk := [], lb := [], m := m }) ∧ look e' 0 = some (.str s, .any)
    | some a' => ∃ e', lc tab prims h34_0 l34_0 (some (S34 s a m)) = some (.ret, { env := e', lk := [], lb := [], m := m }) ∧ look e' 2 = some (.bool false, .any) ∧ look e' 3 = some (.int .i64 (a' : Nat), .any) := by
  intro k
  induction k with
  | zero => intro a h; omega
  | succ k ih =>
    intro a hk ha
    by_cases hlt : a < s.length
    · have c1 : (a : Int) < (s.length : Int) := by omega
      have c2 : (a : Int) ≤ (s.length : Int) := by omega
      have c3 : (0 : Int) ≤ (a : Int) := by omega
      have hne : s.drop a ≠ [] := fun e => by have := List.drop_eq_nil_iff.1 e; omega
      have htk : (s.drop a).take (s.length - a) = s.drop a := List.take_of_length_le (by simp)
      have h40 := call40 (s.drop a) m
      have hle := decB_le (s.drop a)
      rw [List.length_drop] at hle
      unfold cw at h40
      generalize hD : decB (s.drop a) = D at *
      by_cases hz : D.2 = 0
      · have hv : rvB (k + 1) (s.drop a) a = some a := by simp [rvB, hne, hD, hz]
        rw [hv, lc_some]
        simp only
        have hzb : ((D.2 : Nat) : Int) = 0 := by omega
        simp [l34_0, k34_0, kl34_0, ko34_0, S34, go_sem, c1, c2, c3, htk, h40, hzb, hz]
      · have hv : rvB (k + 1) (s.drop a) a = rvB k (s.drop (a + D.2)) (a + D.2) := by simp [rvB, hne, hD, hz, List.drop_drop]
        rw [hv]
        have hzb : (((D.2 : Nat) : Int) == 0) = false := by simp; omega
        have e1 : IntKind.i64.wrap ((a : Int) + ((D.2 : Nat) : Int)) = ((a + D.2 : Nat) : Int) := by rw [w64 (by omega) (by omega)]; rfl
        have step : lc tab prims h34_0 l34_0 (some (S34 s a m)) = lc tab prims h34_0 l34_0 (some (S34 s (a + D.2) m)) := by
          rw [lc_some]
          generalize a + D.2 = q at *
          simp [l34_0, k34_0, kl34_0, ko34_0, S34, go_sem, c1, c2, c3, htk, h40, hzb, e1]
        rw [step]
        exact ih (a + D.2) (by omega) (by omega)
    · have c1 : ¬ (a : Int) < (s.length : Int) := by omega
      have hd : s.drop a = [] := List.drop_eq_nil_iff.2 (by omega)
      have hv : rvB (k + 1) (s.drop a) a = none := by simp [rvB, hd]
      rw [hv, lc_some]
      simp only
      simp [l34_0, k34_0, kl34_0, ko34_0, S34, go_sem, c1]

theorem f34 : tab.fns 34 = some i34 := by rfl
theorem p34 : prims 34 = none := by rfl
theorem call34 (s : List UInt8) (hs : s.length ≤ 1099511627776) (m : IM) : cw (.f 34) [.str s] m = some (.tup (match rvB (s.length + 1) s 0 with | none => [.bool true, .int .i64 (s.length : Int)] | some a => [.bool false, .int .i64 (a : Int)]), m) := by
  unfold cw; rw [callW_fn p34 f34]
  have q := L34 s hs m (s.length + 1) 0 (by omega) (by omega)
  rw [List.drop_zero] at q
  cases hv : rvB (s.length + 1) s 0 with
  | none =>
    rw [hv] at q
    obtain ⟨e', q0, q1⟩ := q
    simp only [S34] at q0
    rw [show ((0 : Nat) : Int) = 0 from rfl] at q0
    simp [i34, k34_0, kl34_0, ko34_0, go_sem, q0, q1]
  | some a =>
    rw [hv] at q
    obtain ⟨e', q0, q1, q2⟩ := q
    simp only [S34] at q0
    rw [show ((0 : Nat) : Int) = 0 from rfl] at q0
    simp [i34, k34_0, kl34_0, ko34_0, go_sem, q0, q1, q2]

end Go.Idl

namespace Go.Idl
attribute [local go_sem] IFn.call ICode.run runOps IOp.run IOp.run0 gate IK.ok addrOK appOK OTag.hits IK.run Arg.rd look lookL rdAll POp.ev binEv bAdd bSub bMul bQuo bRem bLss bLeq bGtr bGeq bEql bNeq binStr shl6 unEv isShift St.put lkSlot lkL lkB lkC frc_eq frcV_eq IK.link slotC slotV St.drop St.capAt St.owner linkOf mkEnv retsOf settle0 IV.refsDeep IV.refsDeep.go IV.refs IV.refs.go refsAll IV.plain callI hideIds hideM unhideM IV.cells IV.isU IV.isL fillI repl over partI cut eqS byteVals bnd bnds loHi fold2 min2I max2I srcOf bytesCells zipCap newL newG storeI overCap capSl loadI cellsAt uqB loopW_lc St.head headE headB capNil capsL

def intsI (xs : List Nat) : List IV := xs.map fun (p : Nat) => .int .i64 (p : Int)
/-- A slice of numbers that was appended to. -/
def slOf : List Nat → IV
  | [] => .nilSlice
  | x :: xs => .sl (intsI (x :: xs)) (x :: xs).length

theorem intsI_len (xs : List Nat) : (intsI xs).length = xs.length := by simp [intsI]
theorem intsI_plain (xs : List Nat) : refsAll (intsI xs) = some 0 := by
  induction xs with
  | nil => rfl
  | cons x xs ih =>
    have : intsI (x :: xs) = .int .i64 (x : Int) :: intsI xs := rfl
    rw [this, refsAll, ih]; rfl

/-- The points. -/
def rpB : Nat → List UInt8 → List Nat → Option (List Nat)
  | 0, _, acc => some acc
  | k + 1, s, acc => if s = [] then some acc else if (decB s).2 = 0 then none else rpB k (s.drop (decB s).2) (acc ++ [(decB s).1])

theorem k36_0 : h36_0.keep = [(0, 0), (4, 2), (5, 0)] := rfl
theorem kl36_0 : h36_0.keepL = [] := rfl
theorem ko36_0 : h36_0.ownL = [] := rfl
def S36 (s : List UInt8) (acc : List Nat) (a : Nat) (m : IM) : St where
  env := [(0, .str s, .any), (4, slOf acc, .own 1), (5, .int .i64 a, .any)]
  lk := []
  lb := []
  m := m

theorem slOf_append (acc : List Nat) (p : Nat) : slOf (acc ++ [p]) = .sl (intsI acc ++ [.int .i64 (p : Int)]) (acc.length + 1) := by
  cases acc with
  | nil => rfl
  | cons x xs => simp [slOf, intsI]

theorem L36 (s : List UInt8) (hs : s.length ≤ 100000) (m : IM) : ∀ (k a : Nat) (acc : List Nat), s.length - a < k → a ≤ s.length → acc.length ≤ a →
    match rpB k (s.drop a) acc with
    | some r => ∃ e' c, lc tab prims h36_0 l36_0 (some (S36 s acc a m)) = some (.exit 0, { env := e', lk := [], lb := [], m := m }) ∧ look e' 4 = some (slOf r, c)
    | none => ∃ e', lc tab prims h36_0 l36_0 (some (S36 s acc a m)) = some (.ret, { env := e', lk := [], lb := [], m := m }) ∧ look e' 2 = some (.nilSlice, .any) ∧ look e' 3 = some (.int .i64 1, .any) := by
  intro k
  induction k with
  | zero => intro a acc h; omega
  | succ k ih =>
    intro a acc hk ha hacc
    by_cases hlt : a < s.length
    · have c1 : (a : Int) < (s.length : Int) := by omega
      have c2 : (a : Int) ≤ (s.length : Int) := by omega
      have c3 : (0 : Int) ≤ (a : Int) := by omega
      have hne : s.drop a ≠ [] := fun e => by have := List.drop_eq_nil_iff.1 e; omega
      have htk : (s.drop a).take (s.length - a) = s.drop a := List.take_of_length_le (by simp)
      have h40 := call40 (s.drop a) m
      have hle := decB_le (s.drop a)
      rw [List.length_drop] at hle
      unfold cw at h40
      generalize hD : decB (s.drop a) = D at *
      by_cases hz : D.2 = 0
      · have hv : rpB (k + 1) (s.drop a) acc = none := by simp [rpB, hne, hD, hz]
        rw [hv, lc_some]
        simp only
        have hzb : ((D.2 : Nat) : Int) = 0 := by omega
        simp [l36_0, k36_0, kl36_0, ko36_0, S36, go_sem, c1, c2, c3, htk, h40, hzb, hz]
      · have hv : rpB (k + 1) (s.drop a) acc = rpB k (s.drop (a + D.2)) (acc ++ [D.1]) := by simp [rpB, hne, hD, hz, List.drop_drop]
        rw [hv]
        have hzb : (((D.2 : Nat) : Int) == 0) = false := by simp; omega
        have e1 : IntKind.i64.wrap ((a : Int) + ((D.2 : Nat) : Int)) = ((a + D.2 : Nat) : Int) := by rw [w64 (by omega) (by omega)]; rfl
        have step : lc tab prims h36_0 l36_0 (some (S36 s acc a m)) = lc tab prims h36_0 l36_0 (some (S36 s (acc ++ [D.1]) (a + D.2) m)) := by
          rw [lc_some]
          simp only [S36, slOf_append]
          generalize lc tab prims h36_0 l36_0 = L
          generalize a + D.2 = q at *
          cases acc with
          | nil => simp [slOf, intsI, l36_0, k36_0, kl36_0, ko36_0, go_sem, c1, c2, c3, htk, h40, hzb, e1, maxLenI]
          | cons x xs =>
            have hb : ((x :: xs).length + 1) * 8 ≤ maxLenI := by unfold maxLenI; omega
            have hl := intsI_len (x :: xs)
            simp only [slOf]
            generalize intsI (x :: xs) = R at *
            generalize (x :: xs).length = n at *
            simp [l36_0, k36_0, kl36_0, ko36_0, go_sem, c1, c2, c3, htk, h40, hzb, e1, hb, hl]
        rw [step]
        exact ih (a + D.2) (acc ++ [D.1]) (by omega) (by omega) (by simp; omega)
    · have c1 : ¬ (a : Int) < (s.length : Int) := by omega
      have hd : s.drop a = [] := List.drop_eq_nil_iff.2 (by omega)
      have hv : rpB (k + 1) (s.drop a) acc = some acc := by simp [rpB, hd]
      rw [hv, lc_some]
      simp only
      simp [l36_0, k36_0, kl36_0, ko36_0, S36, go_sem, c1]

end Go.Idl

namespace Go.Idl
attribute [local go_sem] IFn.call ICode.run runOps IOp.run IOp.run0 gate IK.ok addrOK appOK OTag.hits IK.run Arg.rd look lookL rdAll POp.ev binEv bAdd bSub bMul bQuo bRem bLss bLeq bGtr bGeq bEql bNeq binStr shl6 unEv isShift St.put lkSlot lkL lkB lkC frc_eq frcV_eq IK.link slotC slotV St.drop St.capAt St.owner linkOf mkEnv retsOf settle0 IV.refsDeep IV.refsDeep.go IV.refs IV.refs.go refsAll IV.plain callI hideIds hideM unhideM IV.cells IV.isU IV.isL fillI repl over partI cut eqS byteVals bnd bnds loHi fold2 min2I max2I srcOf bytesCells zipCap newL newG storeI overCap capSl loadI cellsAt uqB loopW_lc St.head headE headB capNil capsL

theorem slOf_refs (r : List Nat) : (slOf r).refs = some 0 := by
  cases r <;> rfl
theorem slOf_len (r : List Nat) : POp.ev .lenSlice [slOf r] = some (.int .i64 (r.length : Int)) := by
  cases r <;> rfl

theorem slOf_is (r : List Nat) : slOf r = .nilSlice ∨ ∃ row n, slOf r = .sl row n := by
  cases r with
  | nil => exact .inl rfl
  | cons x xs => exact .inr ⟨_, _, rfl⟩

theorem f36 : tab.fns 36 = some i36 := by rfl
theorem p36 : prims 36 = none := by rfl
theorem call36 (s : List UInt8) (hs : s.length ≤ 100000) (m : IM) : cw (.f 36) [.str s] m = some (.tup (match rpB (s.length + 1) s [] with | some r => [slOf r, .int .i64 0] | none => [.nilSlice, .int .i64 1]), m) := by
  unfold cw; rw [callW_fn p36 f36]
  have q := L36 s hs m (s.length + 1) 0 [] (by omega) (by omega) (by simp)
  rw [List.drop_zero] at q
  have g1 : ¬ (100000 : Int) < (s.length : Int) := by omega
  cases hv : rpB (s.length + 1) s [] with
  | none =>
    rw [hv] at q
    obtain ⟨e', q0, q1, q2⟩ := q
    simp only [S36, slOf] at q0
    rw [show ((0 : Nat) : Int) = 0 from rfl] at q0
    simp [i36, k36_0, kl36_0, ko36_0, go_sem, g1, q0, q1, q2]
  | some r =>
    rw [hv] at q
    obtain ⟨e', c, q0, q1⟩ := q
    simp only [S36, slOf] at q0
    rw [show ((0 : Nat) : Int) = 0 from rfl] at q0
    rcases slOf_is r with e | ⟨row, n, e⟩
    · simp only [e] at q1 ⊢
      simp [i36, k36_0, kl36_0, ko36_0, go_sem, g1, q0, q1]
    · simp only [e] at q1 ⊢
      simp [i36, k36_0, kl36_0, ko36_0, go_sem, g1, q0, q1]

theorem k37_0 : h37_0.keep = [(0, 0), (1, 0), (5, 0)] := rfl
theorem kl37_0 : h37_0.keepL = [] := rfl
theorem ko37_0 : h37_0.ownL = [] := rfl
def S37 (x y : List Nat) (i : Nat) (m : IM) : St where
  env := [(0, .sl (intsI x) x.length, .any), (1, .sl (intsI y) y.length, .any), (5, .int .i64 i, .any)]
  lk := []
  lb := []
  m := m

theorem intsI_get {x : List Nat} {i : Nat} (h : i < x.length) : ((intsI x).drop i).take 1 = [.int .i64 ((x[i] : Nat) : Int)] := by
  have h' : i < (intsI x).length := by rw [intsI_len]; exact h
  rw [List.drop_eq_getElem_cons h']
  simp [intsI]

theorem L37 (x y : List Nat) (hl : x.length = y.length) (hb : x.length ≤ 100000) (m : IM) : ∀ (k i : Nat), x.length = i + k →
    if x.drop i = y.drop i then ∃ e', lc tab prims h37_0 l37_0 (some (S37 x y i m)) = some (.exit 0, { env := e', lk := [], lb := [], m := m })
    else ∃ e', lc tab prims h37_0 l37_0 (some (S37 x y i m)) = some (.ret, { env := e', lk := [], lb := [], m := m }) ∧ look e' 4 = some (.bool false, .any) := by
  intro k
  induction k with
  | zero =>
    intro i hk
    have e : x.drop i = y.drop i := by rw [List.drop_eq_nil_iff.2 (by omega), List.drop_eq_nil_iff.2 (by omega)]
    have c1 : ¬ (i : Int) < (x.length : Int) := by omega
    rw [if_pos e, lc_some]
    simp [l37_0, k37_0, kl37_0, ko37_0, S37, go_sem, c1]
  | succ k ih =>
    intro i hk
    have c1 : (i : Int) < (x.length : Int) := by omega
    have c1' : (i : Int) < (y.length : Int) := by omega
    have c3 : (0 : Int) ≤ (i : Int) := by omega
    have hx := intsI_get (x := x) (i := i) (by omega)
    have hy := intsI_get (x := y) (i := i) (by omega)
    have lx : i + 1 ≤ (intsI x).length := by rw [intsI_len]; omega
    have ly : i + 1 ≤ (intsI y).length := by rw [intsI_len]; omega
    have ex : x.drop i = x[i] :: x.drop (i + 1) := List.drop_eq_getElem_cons (by omega)
    have ey : y.drop i = y[i] :: y.drop (i + 1) := List.drop_eq_getElem_cons (by omega)
    rw [ex, ey]
    generalize x[i] = a at *
    generalize y[i] = b at *
    have ih' := ih (i + 1) (by omega)
    by_cases hab : a = b
    · subst hab
      have e1 : IntKind.i64.wrap ((i : Int) + 1) = ((i + 1 : Nat) : Int) := by rw [w64 (by omega) (by omega)]; rfl
      have step : lc tab prims h37_0 l37_0 (some (S37 x y i m)) = lc tab prims h37_0 l37_0 (some (S37 x y (i + 1) m)) := by
        rw [lc_some]
        simp only [S37]
        generalize lc tab prims h37_0 l37_0 = L
        generalize intsI x = X at *
        generalize intsI y = Y at *
        generalize hj : i + 1 = j at *
        simp [l37_0, k37_0, kl37_0, ko37_0, go_sem, c1, c1', c3, hx, hy, lx, ly, hj, e1]
      rw [step]
      by_cases hd : x.drop (i + 1) = y.drop (i + 1)
      · rw [if_pos (by rw [hd])]; rwa [if_pos hd] at ih'
      · rw [if_neg (by intro q; exact hd (List.cons.inj q).2)]; rwa [if_neg hd] at ih'
    · have hne : ((a : Int) != (b : Int)) = true := by simp; omega
      rw [if_neg (by intro q; exact hab (List.cons.inj q).1), lc_some]
      simp only [S37]
      generalize lc tab prims h37_0 l37_0 = L
      generalize intsI x = X at *
      generalize intsI y = Y at *
      simp [l37_0, k37_0, kl37_0, ko37_0, go_sem, c1, c1', c3, hx, hy, lx, ly, hne]

theorem f37 : tab.fns 37 = some i37 := by rfl
theorem p37 : prims 37 = none := by rfl
theorem call37 (x y : List Nat) (hb : x.length ≤ 100000) (m : IM) : cw (.f 37) [slOf x, slOf y] m = some (.bool (decide (x = y)), m) := by
  unfold cw; rw [callW_fn p37 f37]
  by_cases hl : x.length = y.length
  · cases x with
    | nil =>
      have : y = [] := List.length_eq_zero_iff.1 hl.symm
      subst this
      simp [i37, slOf, go_sem, lc_some, l37_0, k37_0, kl37_0, ko37_0]
    | cons a x =>
      cases y with
      | nil => simp at hl
      | cons b y =>
        have q := L37 (a :: x) (b :: y) hl hb m (a :: x).length 0 (by omega)
        rw [List.drop_zero, List.drop_zero] at q
        simp only [slOf]
        generalize (a :: x) = X at *
        generalize (b :: y) = Y at *
        have hlb : ((X.length : Int) != (Y.length : Int)) = false := by simp; omega
        by_cases hd : X = Y
        · rw [if_pos hd] at q
          obtain ⟨e', q0⟩ := q
          simp only [S37] at q0
          rw [show ((0 : Nat) : Int) = 0 from rfl] at q0
          generalize intsI X = A at *
          generalize intsI Y = B at *
          have hdec : decide (X = Y) = true := by simpa using hd
          rw [hdec]
          simp [i37, k37_0, kl37_0, ko37_0, go_sem, hlb, q0]
        · rw [if_neg hd] at q
          obtain ⟨e', q0, q1⟩ := q
          simp only [S37] at q0
          rw [show ((0 : Nat) : Int) = 0 from rfl] at q0
          generalize intsI X = A at *
          generalize intsI Y = B at *
          have hdec : decide (X = Y) = false := by simpa using hd
          rw [hdec]
          simp [i37, k37_0, kl37_0, ko37_0, go_sem, hlb, q0, q1]
  · have hne : x ≠ y := fun e => hl (by rw [e])
    have hlb : ((x.length : Int) != (y.length : Int)) = true := by simp; omega
    have hdec : decide (x = y) = false := by simpa using hne
    rw [hdec]
    cases x with
    | nil =>
      cases y with
      | nil => exact absurd rfl hl
      | cons b y =>
        simp only [slOf]
        generalize intsI (b :: y) = B
        generalize (b :: y).length = n at *
        simp only [List.length_nil] at hlb
        rw [show ((0 : Nat) : Int) = 0 from rfl] at hlb
        simp [i37, go_sem, hlb]
    | cons a x =>
      cases y with
      | nil =>
        simp only [slOf]
        generalize intsI (a :: x) = B
        generalize (a :: x).length = n at *
        simp only [List.length_nil] at hlb
        rw [show ((0 : Nat) : Int) = 0 from rfl] at hlb
        simp [i37, go_sem, hlb]
      | cons b y =>
        simp only [slOf]
        generalize intsI (b :: y) = B
        generalize intsI (a :: x) = A
        generalize (b :: y).length = n at *
        generalize (a :: x).length = n' at *
        simp [i37, go_sem, hlb]

theorem k9_0 : h9_0.keep = [(5, 0), (6, 0), (7, 0)] := rfl
theorem kl9_0 : h9_0.keepL = [] := rfl
theorem ko9_0 : h9_0.ownL = [] := rfl
theorem f9 : tab.fns 9 = some i9 := by rfl
theorem p9 : prims 9 = none := by rfl
theorem call9 (s : List UInt8) (m : IM) : cw (.f 9) [.sl [.str s] 1] m = some (.bool (decide (s.length ≤ 1200)), m) := by
  unfold cw; rw [callW_fn p9 f9]
  have e1 : IntKind.i64.wrap 1 = 1 := by decide
  by_cases h : s.length ≤ 1200
  · have g : ¬ (1200 : Int) < (s.length : Int) := by omega
    simp [i9, go_sem, lc_some, l9_0, k9_0, kl9_0, ko9_0, g, h, e1]
  · have g : (1200 : Int) < (s.length : Int) := by omega
    simp [i9, go_sem, lc_some, l9_0, k9_0, kl9_0, ko9_0, g, h, e1]

end Go.Idl

namespace Go.Idl
attribute [local go_sem] IFn.call ICode.run runOps IOp.run IOp.run0 gate IK.ok addrOK appOK OTag.hits IK.run Arg.rd look lookL rdAll POp.ev binEv bAdd bSub bMul bQuo bRem bLss bLeq bGtr bGeq bEql bNeq binStr shl6 unEv isShift St.put lkSlot lkL lkB lkC frc_eq frcV_eq IK.link slotC slotV St.drop St.capAt St.owner linkOf mkEnv retsOf settle0 IV.refsDeep IV.refsDeep.go IV.refs IV.refs.go refsAll IV.plain callI hideIds hideM unhideM IV.cells IV.isU IV.isL fillI repl over partI cut eqS byteVals bnd bnds loHi fold2 min2I max2I srcOf bytesCells zipCap newL newG storeI overCap capSl loadI cellsAt uqB loopW_lc St.head headE headB capNil capsL

/-- The pieces, visited one by one. -/
def visit {σ : Type} (step : σ → Nat → Nat × Bool × Nat → Bool × σ) : Nat → List UInt8 → Nat → σ → Bool × σ
  | 0, _, _, x => (true, x)
  | _ + 1, [], _, x => (true, x)
  | k + 1, c :: t, a, x => if (step x a (beginB (c :: t))).1 then visit step k ((c :: t).drop (max (beginB (c :: t)).1 1)) (a + max (beginB (c :: t)).1 1) (step x a (beginB (c :: t))).2 else (false, (step x a (beginB (c :: t))).2)

def S67g (yid bid a : Nat) (m : IM) : St where
  env := [(0, .yld yid, .any), (1, .pB bid 0, .any), (3, .int .i64 a, .any)]
  lk := []
  lb := []
  m := m

theorem L67g {σ : Type} (s : List UInt8) (hs : s.length ≤ 1099511627776) (yid bid : Nat) (Mg Ms : σ → IM) (step : σ → Nat → Nat × Bool × Nat → Bool × σ) (I : Nat → σ → Prop) (hget : ∀ x, (Mg x).get bid = .cells [.str s] [.any])
    (hI : ∀ a x, I a x → a < s.length → (step x a (beginB (s.drop a))).1 = true → I (a + max (beginB (s.drop a)).1 1) (step x a (beginB (s.drop a))).2)
    (hy : ∀ a x, I a x → a < s.length → cw (.y yid) [.int .i64 (a : Int), pieceI (beginB (s.drop a))] (Mg x) = some (.bool (step x a (beginB (s.drop a))).1, if (step x a (beginB (s.drop a))).1 = true then Mg (step x a (beginB (s.drop a))).2 else Ms (step x a (beginB (s.drop a))).2)) :
    ∀ (k a : Nat) (x : σ), s.length - a < k → a ≤ 1099511627780 → I a x →
      ∃ e' lb', lc tab prims h67_0 l67_0 (some (S67g yid bid a (Mg x))) = match visit step k (s.drop a) a x with
        | (true, x') => some (.exit 0, { env := e', lk := [], lb := lb', m := Mg x' })
        | (false, x') => some (.ret, { env := e', lk := [], lb := lb', m := Ms x' }) := by
  intro k
  induction k with
  | zero => intro a x h; omega
  | succ k ih =>
    intro a x hk hat hx
    rw [lc_some]
    have hg := hget x
    by_cases hlt : a < s.length
    · have c1 : (a : Int) < (s.length : Int) := by omega
      have c2 : (a : Int) ≤ (s.length : Int) := by omega
      have c3 : (0 : Int) ≤ (a : Int) := by omega
      have hI' := hI a x hx hlt
      have hy' := hy a x hx hlt
      cases hd : s.drop a with
      | nil => have := List.drop_eq_nil_iff.1 hd; omega
      | cons c t =>
        have htk : (s.drop a).take (s.length - a) = s.drop a := List.take_of_length_le (by simp)
        have hb := call57 c t (Mg x)
        have hle := beginB_le (c :: t)
        have hv0 : visit step (k + 1) (c :: t) a x = if (step x a (beginB (c :: t))).1 then visit step k ((c :: t).drop (max (beginB (c :: t)).1 1)) (a + max (beginB (c :: t)).1 1) (step x a (beginB (c :: t))).2 else (false, (step x a (beginB (c :: t))).2) := rfl
        rw [hv0]
        rw [← hd] at *
        unfold cw at hb hy'
        generalize hG : beginB (List.drop a s) = G at *
        have hmax : (if ((G.1 : Nat) : Int) < 1 then (1 : Int) else ((G.1 : Nat) : Int)) = ((max G.1 1 : Nat) : Int) := by
          split <;> omega
        cases hw : (step x a G).1 with
        | true =>
          simp only [if_true]
          rw [List.drop_drop]
          obtain ⟨e', lb', q⟩ := ih (a + max G.1 1) (step x a G).2 (by omega) (by omega) (hI' hw)
          refine ⟨e', lb', ?_⟩
          rw [← q]
          simp only [hw, if_true] at hy'
          have e1 : IntKind.i64.wrap ((a : Int) + ((max G.1 1 : Nat) : Int)) = ((a + max G.1 1 : Nat) : Int) := by rw [w64 (by omega) (by omega)]; rfl
          simp only [S67g, pieceI] at hb hy' ⊢
          generalize lc tab prims h67_0 l67_0 = L
          generalize Mg (step x a G).2 = M' at *
          generalize a + max G.1 1 = j at *
          generalize max G.1 1 = j' at *
          generalize Mg x = M at *
          simp [l67_0, k67_0, kl67_0, ko67_0, go_sem, hg, c1, c2, c3, htk, hb, hy', hmax, e1]
        | false =>
          simp only [hw, Bool.false_eq_true, if_false] at hy' ⊢
          simp only [S67g, pieceI] at hb hy' ⊢
          generalize lc tab prims h67_0 l67_0 = L
          generalize Ms (step x a G).2 = M' at *
          generalize Mg x = M at *
          simp [l67_0, k67_0, kl67_0, ko67_0, go_sem, hg, c1, c2, c3, htk, hb, hy']
    · have c1 : ¬ (a : Int) < (s.length : Int) := by omega
      have hd : s.drop a = [] := List.drop_eq_nil_iff.2 (by omega)
      rw [hd]
      have hv0 : visit step (k + 1) [] a x = (true, x) := rfl
      rw [hv0]
      simp only [S67g]
      generalize Mg x = M at *
      simp [l67_0, k67_0, kl67_0, ko67_0, go_sem, hg, c1]

theorem f65 : tab.fns 65 = some i65 := by rfl
theorem p65 : prims 65 = none := by rfl
theorem call65 (b : Bool) (e : Int) (m : IM) : cw (.f 65) [.bool b, .int .i64 e] m = some (.int .i64 (if b then e else 0), m) := by
  unfold cw; rw [callW_fn p65 f65]
  cases b <;> simp [i65, go_sem]

theorem f66 : tab.fns 66 = some i66 := by rfl
theorem p66 : prims 66 = none := by rfl
theorem call66 (s : List UInt8) (hs : s.length ≤ 1099511627776) : cw (.f 66) [.str s] ⟨[], 0⟩ = some (.bool (valB (s.length + 1) s 0).isNone, ⟨[], 0⟩) := by
  unfold cw; rw [callW_fn p66 f66]
  have h := call31 s hs
  unfold cw at h
  cases hv : valB (s.length + 1) s 0 with
  | none => rw [hv] at h; simp [i66, go_sem, h]
  | some a => rw [hv] at h; simp [i66, go_sem, h]

theorem k58_0 : h58_0.keep = [(5, 0), (6, 0), (7, 0)] := rfl
theorem kl58_0 : h58_0.keepL = [] := rfl
theorem ko58_0 : h58_0.ownL = [] := rfl
theorem f58 : tab.fns 58 = some i58 := by rfl
theorem p58 : prims 58 = none := by rfl
theorem call58 (a b : Int) (m : IM) : cw (.f 58) [.sl [.int .i64 a, .int .i64 b] 2] m = some (.int .i64 (if a = 0 then b else a), m) := by
  unfold cw; rw [callW_fn p58 f58]
  have e1 : IntKind.i64.wrap 1 = 1 := by decide
  have e2 : IntKind.i64.wrap 2 = 2 := by decide
  by_cases h : a = 0
  · subst h
    by_cases h2 : b = 0
    · subst h2
      simp [i58, go_sem, lc_some, l58_0, k58_0, kl58_0, ko58_0, e1, e2]
    · have hb : (b != 0) = true := by simpa using h2
      simp [i58, go_sem, lc_some, l58_0, k58_0, kl58_0, ko58_0, e1, e2, hb]
  · have hb : (a != 0) = true := by simpa using h
    simp [i58, go_sem, lc_some, l58_0, k58_0, kl58_0, ko58_0, e1, e2, hb, h]

end Go.Idl

namespace Go.Idl
attribute [local go_sem] IFn.call ICode.run runOps IOp.run IOp.run0 gate IK.ok addrOK appOK OTag.hits IK.run Arg.rd look lookL rdAll POp.ev binEv bAdd bSub bMul bQuo bRem bLss bLeq bGtr bGeq bEql bNeq binStr shl6 unEv isShift St.put lkSlot lkL lkB lkC frc_eq frcV_eq IK.link slotC slotV St.drop St.capAt St.owner linkOf mkEnv retsOf settle0 IV.refsDeep IV.refsDeep.go IV.refs IV.refs.go refsAll IV.plain callI hideIds hideM unhideM IV.cells IV.isU IV.isL fillI repl over partI cut eqS byteVals bnd bnds loHi fold2 min2I max2I srcOf bytesCells zipCap newL newG storeI overCap capSl loadI cellsAt uqB loopW_lc St.head headE headB capNil capsL

theorem f35 : tab.fns 35 = some i35 := by rfl
theorem p35 : prims 35 = none := by rfl
theorem call38o (s : List UInt8) (a : BObj) : cw (.f 38) [.str s] ⟨[a], 0⟩ = some (.func 67 [] [.pB 1 0], ⟨[a, .cells [.str s] [.any]], 0⟩) := by
  unfold cw; rw [callW_fn p38 f38]
  simp [i38, go_sem, settleG, settleY, settle, IM.push, IM.size, frzD, frz]

def tm35 (s : List UInt8) : Env := [(22, .func 67 [] [.pB 1 0], .any), (21, .str s, .any), (5, .pB 0 0, .any), (19, .bool false, .any), (18, .int .i64 0, .any), (4, .int .i64 0, .any), (17, .int .i64 0, .any), (16, .sl [.int .i64 0, .int .i64 0] 2, .any), (15, .int .i64 0, .any), (14, .bool false, .any), (13, .bool true, .any), (12, .str s, .any), (11, .int .i64 0, .any), (10, .bool false, .any), (9, .int .i64 s.length, .any), (8, .str s, .any), (3, .int .i64 0, .any), (2, .nilSlice, .any), (0, .str s, .any)]
def Pm (s : List UInt8) (acc : List Nat) : IM :=
  ⟨[.cells [slOf acc] [.own 1], .cells [.str s] [.any], .loop 0 35 0 (tm35 s) 0], 0⟩

theorem y35 (s : List UInt8) (acc : List Nat) (hb : acc.length ≤ 100000) (a : Nat) (r : Nat × Bool × Nat) : cw (.y 2) [.int .i64 (a : Int), pieceI r] (Pm s acc) = some (.bool true, Pm s (acc ++ [r.2.2])) := by
  unfold cw; rw [callW_y (fn := 35) (site := 0) (r := r35_0) (bz := 0) (j := 0) (tm := tm35 s) rfl rfl]
  unfold Pm
  have htm : look (tm35 s) 5 = some (.pB 0 0, .any) := rfl
  generalize tm35 s = tm at *
  rw [slOf_append]
  cases acc with
  | nil => simp [slOf, intsI, r35_0, IRnd.call, setAll, pieceI, go_sem, IM.get, IM.put, settleG, tk_mk, jnum, maxLenI, htm]
  | cons x xs =>
    have hb' : ((x :: xs).length + 1) * 8 ≤ 1099511627776 := by omega
    have hl := intsI_len (x :: xs)
    simp only [slOf]
    generalize intsI (x :: xs) = R at *
    generalize (x :: xs).length = n at *
    simp [r35_0, IRnd.call, setAll, pieceI, go_sem, IM.get, IM.put, settleG, tk_mk, jnum, maxLenI, htm, hb', hl]

def pstep (acc : List Nat) (_ : Nat) (r : Nat × Bool × Nat) : Bool × List Nat := (true, acc ++ [r.2.2])

theorem visit_true {σ : Type} (f : σ → Nat → Nat × Bool × Nat → σ) : ∀ (k : Nat) (s : List UInt8) (a : Nat) (x : σ), (visit (fun x a r => (true, f x a r)) k s a x).1 = true
  | 0, _, _, _ => rfl
  | _ + 1, [], _, _ => rfl
  | k + 1, c :: t, a, x => by simp only [visit, if_true]; exact visit_true f k _ _ _

theorem call67p (s : List UInt8) (hs : s.length ≤ 100000) : cw (.f 67) [.yld 2, .pB 1 0] (Pm s []) = some (.tup [], Pm s (visit pstep (s.length + 1) s 0 []).2) := by
  unfold cw; rw [callW_fn p67 f67]
  obtain ⟨e', lb', q⟩ := L67g s (by omega) 2 1 (fun acc => Pm s acc) (fun acc => Pm s acc) pstep (fun a acc => acc.length ≤ a) (fun x => rfl)
    (fun a x h1 h2 _ => by simp [pstep]; omega)
    (fun a x h1 h2 => by simpa [pstep] using y35 s x (by omega) a (beginB (s.drop a))) (s.length + 1) 0 [] (by omega) (by omega) (by simp)
  rw [List.drop_zero] at q
  have ht : (visit pstep (s.length + 1) s 0 []).1 = true := visit_true (fun acc _ r => acc ++ [r.2.2]) _ _ _ _
  generalize visit pstep (s.length + 1) s 0 [] = V at *
  obtain ⟨V1, V2⟩ := V
  simp only at ht
  subst ht
  simp only [S67g] at q
  rw [show ((0 : Nat) : Int) = 0 from rfl] at q
  have htk : tk (Pm s []) (Pm s V2) = Pm s V2 := rfl
  have hesc : (Pm s V2).esc = (Pm s []).esc := rfl
  generalize Pm s [] = P0 at *
  generalize Pm s V2 = P2 at *
  simp [i67, k67_0, kl67_0, ko67_0, go_sem, q, settleG, htk, hesc]

theorem call35 (s : List UInt8) (hs : s.length ≤ 100000) : cw (.f 35) [.str s] ⟨[], 0⟩ = some (.tup (match valB (s.length + 1) s 0 with | none => [slOf (visit pstep (s.length + 1) s 0 []).2, .int .i64 0] | some _ => [.nilSlice, .int .i64 1]), ⟨[], 0⟩) := by
  unfold cw; rw [callW_fn p35 f35]
  have h1 := call38o s (.cells [.nilSlice] [.own 1])
  have h2 := call67p s hs
  have h66 := call66 s (by omega)
  have h65 := call65
  have h58 := call58
  unfold cw at h1 h2 h66 h65 h58
  have g1 : ¬ (100000 : Int) < (s.length : Int) := by omega
  simp only [Pm, tm35] at h2
  rw [show slOf [] = .nilSlice from rfl] at h2
  cases hv : valB (s.length + 1) s 0 with
  | none =>
    rw [hv] at h66
    generalize (visit pstep (s.length + 1) s 0 []).2 = V at *
    rcases slOf_is V with e | ⟨row, n, e⟩
    · simp only [e] at h2 ⊢
      simp [i35, go_sem, g1, h1, h2, h66, h65, h58, settleG, tk_mk, IM.push, IM.size, IM.get, IM.put, noL]
    · have hr := slOf_refs V
      simp only [e] at h2 hr ⊢
      simp [i35, go_sem, g1, h1, h2, h66, h65, h58, settleG, tk_mk, IM.push, IM.size, IM.get, IM.put, noL, hr]
  | some a =>
    rw [hv] at h66
    simp [i35, go_sem, g1, h66, h65, h58, settleG, tk_mk, IM.push, IM.size, IM.get, IM.put, noL]
end Go.Idl

namespace Go.Idl

theorem of_eq {n : Nat} {b : UInt8} (h : n = b.toNat) : UInt8.ofNat n = b := by subst h; simp
theorem of_ne {n : Nat} {b : UInt8} (h : n % 256 ≠ b.toNat) : UInt8.ofNat n ≠ b := by
  intro e; subst e; exact h (by simp)

theorem dec1 (c : UInt8) (t : List UInt8) (h : c.toNat ≤ 127) : beginB (c :: t) = (1, true, c.toNat) ∧ decB (c :: t) = (c.toNat, 1) := by
  have hl : leadOf c.toNat = some (1, 0, 0, c.toNat) := by simp [leadOf, h]
  have hw : widthB c.toNat = 1 := by simp [widthB]; omega
  refine ⟨by simp [beginB, hl, innB, inn], ?_⟩
  have hp : isPointB (c.toNat : Int) = true := by simp [isPointB]; omega
  have he : encB c.toNat = [c] := by simp [encB, show c.toNat < 128 by omega]
  simp [decB, hw, dcr, hp, he]

theorem dec2 (c : UInt8) (t : List UInt8) (h : 194 ≤ c.toNat ∧ c.toNat ≤ 223) : decB (c :: t) = if (beginB (c :: t)).2.1 then ((beginB (c :: t)).2.2, (beginB (c :: t)).1) else (0, 0) := by
  have hl : leadOf c.toNat = some (2, 128, 191, c.toNat % 32) := by
    unfold leadOf
    rw [if_neg (by omega), if_neg (by omega), if_pos (by omega)]
  have hw : widthB c.toNat = 2 := by
    unfold widthB
    rw [if_neg (by omega), if_pos (by omega)]
  cases t with
  | nil => simp [decB, beginB, hl, hw, innB, inn]
  | cons b t =>
    have hb := b.toNat_lt
    by_cases h1 : b.toNat < 128 ∨ 191 < b.toNat
    · simp [decB, beginB, hl, hw, innB, inn, dcr, h1]
    · have e : 64 * (c.toNat % 32) + b.toNat - 128 = c.toNat % 32 * 64 + b.toNat % 64 := by omega
      have hp : isPointB ((c.toNat % 32 * 64 + b.toNat % 64 : Nat) : Int) = true := by simp [isPointB]; omega
      have he : encB (c.toNat % 32 * 64 + b.toNat % 64) = [c, b] := by
        unfold encB
        rw [if_neg (by omega), if_pos (by omega), of_eq (b := c) (by omega), of_eq (b := b) (by omega)]
      simp only [decB, beginB, hl, hw, innB, inn, dcr]
      simp [h1, e, hp, he, -Int.natCast_add, -Int.natCast_emod, -Int.natCast_mul]

theorem dec3 (c : UInt8) (t : List UInt8) (lo hi : Nat) (hl : leadOf c.toNat = some (3, lo, hi, c.toNat % 16)) (h : 224 ≤ c.toNat ∧ c.toNat ≤ 239)
    (hx : (c.toNat = 224 ∧ lo = 160 ∧ hi = 191) ∨ (c.toNat = 237 ∧ lo = 128 ∧ hi = 159) ∨ (c.toNat ≠ 224 ∧ c.toNat ≠ 237 ∧ lo = 128 ∧ hi = 191)) :
    decB (c :: t) = if (beginB (c :: t)).2.1 then ((beginB (c :: t)).2.2, (beginB (c :: t)).1) else (0, 0) := by
  have hw : widthB c.toNat = 3 := by
    unfold widthB
    rw [if_neg (by omega), if_neg (by omega), if_pos (by omega)]
  cases t with
  | nil => simp [decB, beginB, hl, hw, innB, inn]
  | cons b t =>
    have hb := b.toNat_lt
    cases t with
    | nil =>
      by_cases h1 : b.toNat < lo ∨ hi < b.toNat
      · simp [decB, beginB, hl, hw, innB, inn, h1]
      · simp [decB, beginB, hl, hw, innB, inn, h1]
    | cons d t =>
      have hd := d.toNat_lt
      by_cases h0 : b.toNat < 128 ∨ 191 < b.toNat
      · have h1 : b.toNat < lo ∨ hi < b.toNat := by omega
        simp [decB, beginB, hl, hw, innB, inn, dcr, h0, h1]
      · by_cases h2 : d.toNat < 128 ∨ 191 < d.toNat
        · by_cases h1 : b.toNat < lo ∨ hi < b.toNat
          · simp [decB, beginB, hl, hw, innB, inn, dcr, h0, h1, h2]
          · simp [decB, beginB, hl, hw, innB, inn, dcr, h0, h1, h2]
        · have e1 : 64 * (c.toNat % 16) + b.toNat - 128 = c.toNat % 16 * 64 + b.toNat % 64 := by omega
          have e2 : 64 * (c.toNat % 16 * 64 + b.toNat % 64) + d.toNat - 128 = (c.toNat % 16 * 64 + b.toNat % 64) * 64 + d.toNat % 64 := by omega
          by_cases h1 : b.toNat < lo ∨ hi < b.toNat
          · have hn : ¬ (isPointB (((c.toNat % 16 * 64 + b.toNat % 64) * 64 + d.toNat % 64 : Nat) : Int) = true ∧ encB ((c.toNat % 16 * 64 + b.toNat % 64) * 64 + d.toNat % 64) = [c, b, d]) := by
              rintro ⟨q1, q2⟩
              simp only [isPointB, Bool.and_eq_true, Bool.or_eq_true, decide_eq_true_eq] at q1
              have : (c.toNat % 16 * 64 + b.toNat % 64) * 64 + d.toNat % 64 < 2048 := by omega
              have := congrArg List.length q2
              unfold encB at this
              rw [if_pos (show (c.toNat % 16 * 64 + b.toNat % 64) * 64 + d.toNat % 64 < 2048 by omega)] at this
              split at this <;> simp at this
            simp only [decB, beginB, hl, hw, innB, inn, dcr]
            simp [h0, h1, h2, e1, e2, -Int.natCast_add, -Int.natCast_emod, -Int.natCast_mul]
            exact if_neg hn
          · have hp : isPointB (((c.toNat % 16 * 64 + b.toNat % 64) * 64 + d.toNat % 64 : Nat) : Int) = true := by
              simp only [isPointB, Bool.and_eq_true, Bool.or_eq_true, decide_eq_true_eq]; omega
            have he : encB ((c.toNat % 16 * 64 + b.toNat % 64) * 64 + d.toNat % 64) = [c, b, d] := by
              unfold encB
              rw [if_neg (by omega), if_neg (by omega), if_pos (by omega), of_eq (b := c) (by omega), of_eq (b := b) (by omega), of_eq (b := d) (by omega)]
            simp only [decB, beginB, hl, hw, innB, inn, dcr]
            simp [h0, h1, h2, e1, e2, hp, he, -Int.natCast_add, -Int.natCast_emod, -Int.natCast_mul]

theorem dec4 (c : UInt8) (t : List UInt8) (lo hi : Nat) (hl : leadOf c.toNat = some (4, lo, hi, c.toNat % 8)) (h : 240 ≤ c.toNat ∧ c.toNat ≤ 244)
    (hx : (c.toNat = 240 ∧ lo = 144 ∧ hi = 191) ∨ (c.toNat = 244 ∧ lo = 128 ∧ hi = 143) ∨ (c.toNat ≠ 240 ∧ c.toNat ≠ 244 ∧ lo = 128 ∧ hi = 191)) :
    decB (c :: t) = if (beginB (c :: t)).2.1 then ((beginB (c :: t)).2.2, (beginB (c :: t)).1) else (0, 0) := by
  have hw : widthB c.toNat = 4 := by
    unfold widthB
    rw [if_neg (by omega), if_neg (by omega), if_neg (by omega), if_pos (by omega)]
  cases t with
  | nil => simp [decB, beginB, hl, hw, innB, inn]
  | cons b t =>
    have hb := b.toNat_lt
    cases t with
    | nil =>
      by_cases h1 : b.toNat < lo ∨ hi < b.toNat
      · simp [decB, beginB, hl, hw, innB, inn, h1]
      · simp [decB, beginB, hl, hw, innB, inn, h1]
    | cons d t =>
      have hd := d.toNat_lt
      cases t with
      | nil =>
        by_cases h1 : b.toNat < lo ∨ hi < b.toNat
        · simp [decB, beginB, hl, hw, innB, inn, h1]
        · by_cases h2 : d.toNat < 128 ∨ 191 < d.toNat
          · simp [decB, beginB, hl, hw, innB, inn, h1, h2]
          · simp [decB, beginB, hl, hw, innB, inn, h1, h2]
      | cons f t =>
        have hf := f.toNat_lt
        by_cases h0 : b.toNat < 128 ∨ 191 < b.toNat
        · have h1 : b.toNat < lo ∨ hi < b.toNat := by omega
          simp [decB, beginB, hl, hw, innB, inn, dcr, h0, h1]
        · by_cases h2 : d.toNat < 128 ∨ 191 < d.toNat
          · by_cases h1 : b.toNat < lo ∨ hi < b.toNat
            · simp [decB, beginB, hl, hw, innB, inn, dcr, h0, h1, h2]
            · simp [decB, beginB, hl, hw, innB, inn, dcr, h0, h1, h2]
          · by_cases h3 : f.toNat < 128 ∨ 191 < f.toNat
            · by_cases h1 : b.toNat < lo ∨ hi < b.toNat
              · simp [decB, beginB, hl, hw, innB, inn, dcr, h0, h1, h2, h3]
              · simp [decB, beginB, hl, hw, innB, inn, dcr, h0, h1, h2, h3]
            · have e1 : 64 * (c.toNat % 8) + b.toNat - 128 = c.toNat % 8 * 64 + b.toNat % 64 := by omega
              have e2 : 64 * (c.toNat % 8 * 64 + b.toNat % 64) + d.toNat - 128 = (c.toNat % 8 * 64 + b.toNat % 64) * 64 + d.toNat % 64 := by omega
              have e3 : 64 * ((c.toNat % 8 * 64 + b.toNat % 64) * 64 + d.toNat % 64) + f.toNat - 128 = ((c.toNat % 8 * 64 + b.toNat % 64) * 64 + d.toNat % 64) * 64 + f.toNat % 64 := by omega
              by_cases h1 : b.toNat < lo ∨ hi < b.toNat
              · have hn : ¬ (isPointB ((((c.toNat % 8 * 64 + b.toNat % 64) * 64 + d.toNat % 64) * 64 + f.toNat % 64 : Nat) : Int) = true ∧ encB (((c.toNat % 8 * 64 + b.toNat % 64) * 64 + d.toNat % 64) * 64 + f.toNat % 64) = [c, b, d, f]) := by
                  rintro ⟨q1, q2⟩
                  simp only [isPointB, Bool.and_eq_true, Bool.or_eq_true, decide_eq_true_eq] at q1
                  have : ((c.toNat % 8 * 64 + b.toNat % 64) * 64 + d.toNat % 64) * 64 + f.toNat % 64 < 65536 := by omega
                  have := congrArg List.length q2
                  unfold encB at this
                  rw [if_pos (show ((c.toNat % 8 * 64 + b.toNat % 64) * 64 + d.toNat % 64) * 64 + f.toNat % 64 < 65536 by omega)] at this
                  split at this
                  · simp at this
                  · split at this <;> simp at this
                simp only [decB, beginB, hl, hw, innB, inn, dcr]
                simp [h0, h1, h2, h3, e1, e2, e3, -Int.natCast_add, -Int.natCast_emod, -Int.natCast_mul]
                exact if_neg hn
              · have hp : isPointB ((((c.toNat % 8 * 64 + b.toNat % 64) * 64 + d.toNat % 64) * 64 + f.toNat % 64 : Nat) : Int) = true := by
                  simp only [isPointB, Bool.and_eq_true, Bool.or_eq_true, decide_eq_true_eq]; omega
                have he : encB (((c.toNat % 8 * 64 + b.toNat % 64) * 64 + d.toNat % 64) * 64 + f.toNat % 64) = [c, b, d, f] := by
                  unfold encB
                  rw [if_neg (by omega), if_neg (by omega), if_neg (by omega), of_eq (b := c) (by omega), of_eq (b := b) (by omega), of_eq (b := d) (by omega), of_eq (b := f) (by omega)]
                simp only [decB, beginB, hl, hw, innB, inn, dcr]
                simp [h0, h1, h2, h3, e1, e2, e3, hp, he, -Int.natCast_add, -Int.natCast_emod, -Int.natCast_mul]

/-- What a string begins with, told by the two ways. -/
theorem dec_begin (c : UInt8) (t : List UInt8) : decB (c :: t) = if (beginB (c :: t)).2.1 then ((beginB (c :: t)).2.2, (beginB (c :: t)).1) else (0, 0) := by
  have hc := c.toNat_lt
  by_cases h1 : c.toNat ≤ 127
  · obtain ⟨a, b⟩ := dec1 c t h1
    rw [a, b]; rfl
  by_cases h2 : 194 ≤ c.toNat ∧ c.toNat ≤ 223
  · exact dec2 c t h2
  by_cases h3 : 224 ≤ c.toNat ∧ c.toNat ≤ 239
  · by_cases q1 : c.toNat = 224
    · exact dec3 c t 160 191 (by simp [leadOf, q1]) h3 (by omega)
    · by_cases q2 : c.toNat = 237
      · exact dec3 c t 128 159 (by simp [leadOf, q2]) h3 (by omega)
      · refine dec3 c t 128 191 ?_ h3 (by omega)
        unfold leadOf
        rw [if_neg (by omega), if_neg (by omega), if_neg (by omega), if_neg (by omega)]
        by_cases q3 : c.toNat ≤ 236
        · rw [if_pos q3]
        · rw [if_neg q3, if_neg q2, if_pos (by omega)]
  by_cases h4 : 240 ≤ c.toNat ∧ c.toNat ≤ 244
  · by_cases q1 : c.toNat = 240
    · exact dec4 c t 144 191 (by simp [leadOf, q1]) h4 (by omega)
    · by_cases q2 : c.toNat = 244
      · exact dec4 c t 128 143 (by simp [leadOf, q2]) h4 (by omega)
      · refine dec4 c t 128 191 ?_ h4 (by omega)
        unfold leadOf
        rw [if_neg (by omega), if_neg (by omega), if_neg (by omega), if_neg (by omega), if_neg (by omega), if_neg (by omega), if_neg (by omega), if_neg q1, if_pos (by omega)]
  · have hl : leadOf c.toNat = none := by
      unfold leadOf
      rw [if_neg (by omega)]
      by_cases q : c.toNat < 194
      · rw [if_pos q]
      · rw [if_neg q, if_neg (by omega), if_neg (by omega), if_neg (by omega), if_neg (by omega), if_neg (by omega), if_neg (by omega), if_neg (by omega), if_neg (by omega)]
    have hw : widthB c.toNat = 0 := by
      unfold widthB
      rw [if_neg (by omega), if_neg (by omega), if_neg (by omega), if_neg (by omega)]
    simp [decB, beginB, hl, hw]

theorem inn_ge (s : List UInt8) (lo hi : Nat) : ∀ k n p, n ≤ (inn s lo hi k n p).1
  | 0, n, p => Nat.le_refl _
  | k + 1, n, p => by
    rw [inn]
    cases h : s[n]? with
    | none => exact Nat.le_refl _
    | some b =>
      simp only
      by_cases hc : b.toNat < (if n = 1 then lo else 128) ∨ (if n = 1 then hi else 191) < b.toNat
      · rw [if_pos hc]; exact Nat.le_refl _
      · rw [if_neg hc]
        have := inn_ge s lo hi k (n + 1) (p * 64 + b.toNat % 64); omega

theorem begin_pos (s : List UInt8) (h : (beginB s).2.1 = true) : 1 ≤ (beginB s).1 := by
  unfold beginB at h ⊢
  split
  · simp at h
  · rename_i c t
    simp only at h ⊢
    cases hl : leadOf c.toNat with
    | none => rw [hl] at h; simp at h
    | some q =>
      obtain ⟨sz, lo, hi, p⟩ := q
      simp only
      exact inn_ge _ _ _ _ _ _

theorem val_rv : ∀ (k : Nat) (s : List UInt8) (a : Nat), valB k s a = rvB k s a
  | 0, _, _ => rfl
  | _ + 1, [], _ => by simp [valB, rvB]
  | k + 1, c :: t, a => by
    have h := dec_begin c t
    have hp := begin_pos (c :: t)
    generalize hG : beginB (c :: t) = G at *
    obtain ⟨n, w, p⟩ := G
    cases w with
    | false =>
      simp only [Bool.false_eq_true, if_false] at h
      simp [valB, rvB, hG, h]
    | true =>
      simp only [if_true] at h
      have hp' : 1 ≤ n := hp rfl
      have hm : max n 1 = n := by omega
      have hz : n ≠ 0 := by omega
      simp only [valB, rvB, hG, h, hm, if_true]
      rw [if_neg (by simp), if_neg hz]
      exact val_rv k _ _

theorem val_rp : ∀ (k : Nat) (s : List UInt8) (a : Nat) (acc : List Nat), rpB k s acc = if (valB k s a).isNone then some (visit pstep k s a acc).2 else none
  | 0, _, _, _ => rfl
  | _ + 1, [], _, _ => by simp [rpB, visit, valB]
  | k + 1, c :: t, a, acc => by
    have h := dec_begin c t
    have hp := begin_pos (c :: t)
    generalize hG : beginB (c :: t) = G at *
    obtain ⟨n, w, p⟩ := G
    cases w with
    | false =>
      simp only [Bool.false_eq_true, if_false] at h
      simp [valB, rpB, hG, h]
    | true =>
      simp only [if_true] at h
      have hp' : 1 ≤ n := hp rfl
      have hm : max n 1 = n := by omega
      have hz : n ≠ 0 := by omega
      simp only [valB, rpB, hG, h, hm, if_true, visit, pstep]
      rw [if_neg (by simp), if_neg hz]
      exact val_rp k _ (a + n) _

end Go.Idl

namespace Go.Idl
attribute [local go_sem] IFn.call ICode.run runOps IOp.run IOp.run0 gate IK.ok addrOK appOK OTag.hits IK.run Arg.rd look lookL rdAll POp.ev binEv bAdd bSub bMul bQuo bRem bLss bLeq bGtr bGeq bEql bNeq binStr shl6 unEv isShift St.put lkSlot lkL lkB lkC frc_eq frcV_eq IK.link slotC slotV St.drop St.capAt St.owner linkOf mkEnv retsOf settle0 IV.refsDeep IV.refsDeep.go IV.refs IV.refs.go refsAll IV.plain callI hideIds hideM unhideM IV.cells IV.isU IV.isL fillI repl over partI cut eqS byteVals bnd bnds loHi fold2 min2I max2I srcOf bytesCells zipCap newL newG storeI overCap capSl loadI cellsAt uqB loopW_lc St.head headE headB capNil capsL

theorem awake10 : ∃ m', cw (.f 10) [] ⟨[], 0⟩ = some (.bool true, m') ∧ m' = ⟨[], 0⟩ := by
  have h := awakeK
  cases hq : (sem tab prims 400).call (.f 10) [] ⟨[], 0⟩ with
  | none => rw [hq] at h; simp [isAwake] at h
  | some r =>
    rw [hq] at h
    unfold isAwake at h
    split at h
    · rename_i e
      cases e
      exact ⟨_, callW_iff.2 ⟨400, hq⟩, rfl⟩
    · cases h

theorem call10 : cw (.f 10) [] ⟨[], 0⟩ = some (.bool true, ⟨[], 0⟩) := by
  obtain ⟨m', h, e⟩ := awake10
  subst e
  exact h

theorem visit_len : ∀ (k : Nat) (s : List UInt8) (a : Nat) (acc : List Nat), (visit pstep k s a acc).2.length ≤ acc.length + s.length
  | 0, _, _, _ => Nat.le_add_right _ _
  | _ + 1, [], _, _ => Nat.le_add_right _ _
  | k + 1, c :: t, a, acc => by
    simp only [visit, pstep, if_true]
    have := visit_len k ((c :: t).drop (max (beginB (c :: t)).1 1)) (a + max (beginB (c :: t)).1 1) (acc ++ [(beginB (c :: t)).2.2])
    simp only [pstep, List.length_append, List.length_drop, List.length_singleton, List.length_cons, List.length_nil] at this ⊢
    omega

theorem f8 : tab.fns 8 = some i8 := by rfl
theorem p8 : prims 8 = none := by rfl
theorem call8 (n : Int) (s : List UInt8) : cw (.f 8) [.int .i64 n, .str s] ⟨[], 0⟩ = some (.bool true, ⟨[], 0⟩) := by
  unfold cw; rw [callW_fn p8 f8]
  have h9 := call9 s ⟨[], 0⟩
  have h10 := call10
  unfold cw at h9 h10
  by_cases hl : s.length ≤ 1200
  · have p1 : ∃ x e, cw (.f 27) [.int .i64 n] ⟨[], 0⟩ = some (.tup [.str x, .int .i64 e], ⟨[], 0⟩) ∧ cw (.f 32) [.int .i64 n] ⟨[], 0⟩ = some (.tup [.str x, .int .i64 e], ⟨[], 0⟩) := by
      rw [call27, call32]
      cases hp : isPointB n with
      | false => exact ⟨_, _, rfl, rfl⟩
      | true =>
        have h0 : 0 ≤ n := by simp [isPointB] at hp; omega
        obtain ⟨k, rfl⟩ := Int.eq_ofNat_of_zero_le h0
        refine ⟨_, _, rfl, ?_⟩
        rw [encode_encB k hp]; rfl
    have p2 : ∃ a b e, cw (.f 28) [.str s] ⟨[], 0⟩ = some (.tup [.int .i64 a, .int .i64 b, .int .i64 e], ⟨[], 0⟩) ∧ cw (.f 33) [.str s] ⟨[], 0⟩ = some (.tup [.int .i64 a, .int .i64 b, .int .i64 e], ⟨[], 0⟩) := by
      rw [call28, call33]
      cases s with
      | nil => exact ⟨_, _, _, rfl, rfl⟩
      | cons c t =>
        rw [dec_begin c t]
        have hp := begin_pos (c :: t)
        generalize beginB (c :: t) = G at *
        obtain ⟨sz, w, p⟩ := G
        cases w with
        | false => exact ⟨_, _, _, rfl, rfl⟩
        | true =>
          have hz : sz ≠ 0 := by have := hp rfl; simp only at this; omega
          refine ⟨p, sz, 0, rfl, ?_⟩
          simp [hz]
    have p3 : ∃ b e, cw (.f 31) [.str s] ⟨[], 0⟩ = some (.tup [.bool b, .int .i64 e], ⟨[], 0⟩) ∧ cw (.f 34) [.str s] ⟨[], 0⟩ = some (.tup [.bool b, .int .i64 e], ⟨[], 0⟩) := by
      rw [call31 s (by omega), call34 s (by omega), val_rv]
      cases rvB (s.length + 1) s 0 with
      | none => exact ⟨_, _, rfl, rfl⟩
      | some a => exact ⟨_, _, rfl, rfl⟩
    have p4 : ∃ r e, cw (.f 35) [.str s] ⟨[], 0⟩ = some (.tup [slOf r, .int .i64 e], ⟨[], 0⟩) ∧ cw (.f 36) [.str s] ⟨[], 0⟩ = some (.tup [slOf r, .int .i64 e], ⟨[], 0⟩) ∧ r.length ≤ 100000 := by
      rw [call35 s (by omega), call36 s (by omega), val_rp _ _ 0]
      cases valB (s.length + 1) s 0 with
      | none => exact ⟨_, _, rfl, rfl, by have := visit_len (s.length + 1) s 0 []; simp only [List.length_nil] at this; omega⟩
      | some a => exact ⟨[], _, rfl, rfl, by simp⟩
    obtain ⟨x1, e1, h27, h32⟩ := p1
    obtain ⟨a2, b2, e2, h28, h33⟩ := p2
    obtain ⟨b3, e3, h31, h34⟩ := p3
    obtain ⟨r4, e4, h35, h36, hr⟩ := p4
    have h37 := call37 r4 r4 hr ⟨[], 0⟩
    unfold cw at h27 h32 h28 h33 h31 h34 h35 h36 h37
    rcases slOf_is r4 with e | ⟨row, k, e⟩
    · simp only [e] at h35 h36 h37
      simp [i8, go_sem, h9, h10, hl, h27, h32, h28, h33, h31, h34, h35, h36, h37]
    · simp only [e] at h35 h36 h37
      simp [i8, go_sem, h9, h10, hl, h27, h32, h28, h33, h31, h34, h35, h36, h37]
  · simp [i8, go_sem, h9, h10, hl]
end Go.Idl
