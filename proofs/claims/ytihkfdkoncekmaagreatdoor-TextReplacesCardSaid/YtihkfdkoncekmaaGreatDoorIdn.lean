/- This text proves what the interpreter returns at the functions that TextReplaces reaches, and that it returns true at TextReplaces; it has no conditions. -/
import Derived.Test.YtihkfdkoncekmaaGreatDoorIdl

set_option linter.unusedSimpArgs false
set_option linter.unusedVariables false

namespace Go.Idl
attribute [local go_sem] IFn.call ICode.run runOps IOp.run IOp.run0 gate IK.ok addrOK appOK OTag.hits IK.run Arg.rd look lookL rdAll POp.ev binEv bAdd bSub bMul bQuo bRem bLss bLeq bGtr bGeq bEql bNeq binStr shl6 unEv isShift St.put lkSlot lkL lkB lkC frc_eq frcV_eq IK.link slotC slotV St.drop St.capAt St.owner linkOf mkEnv retsOf settle0 IV.refsDeep IV.refsDeep.go IV.refs IV.refs.go refsAll IV.plain callI hideIds hideM unhideM IV.cells IV.isU IV.isL fillI repl over partI cut eqS byteVals bnd bnds loHi fold2 min2I max2I srcOf bytesCells zipCap newL newG storeI overCap capSl loadI cellsAt uqB loopW_lc St.head headE headB capNil capsL

theorem inn_len (s : List UInt8) (lo hi : Nat) : ∀ k n p, n ≤ s.length → (inn s lo hi k n p).1 ≤ s.length
  | 0, n, p, h => h
  | k + 1, n, p, h => by
    rw [inn]
    cases hq : s[n]? with
    | none => exact h
    | some b =>
      have hn : n < s.length := (List.getElem?_eq_some_iff.1 hq).1
      simp only
      by_cases hc : b.toNat < (if n = 1 then lo else 128) ∨ (if n = 1 then hi else 191) < b.toNat
      · rw [if_pos hc]; exact h
      · rw [if_neg hc]
        exact inn_len s lo hi k (n + 1) _ hn

theorem begin_len (s : List UInt8) : (beginB s).1 ≤ s.length := by
  unfold beginB
  split
  · exact Nat.zero_le _
  · split
    · exact Nat.zero_le _
    · exact inn_len _ _ _ _ _ _ (by simp)

/-- A slice of bytes that was appended to. -/
def bsl : List UInt8 → IV
  | [] => .nilSlice
  | b :: r => .sl (bytesCells (b :: r)) (b :: r).length

theorem bytesCells_len (l : List UInt8) : (bytesCells l).length = l.length := by
  induction l with
  | nil => rfl
  | cons b r ih => simp [bytesCells, ih]
theorem bytesCells_plain (l : List UInt8) : (bytesCells l).all IV.plain = true := by
  induction l with
  | nil => rfl
  | cons b r ih => simp [bytesCells, ih, IV.plain, IV.refs]
theorem bytesCells_append (a b : List UInt8) : bytesCells (a ++ b) = bytesCells a ++ bytesCells b := by
  induction a with
  | nil => rfl
  | cons x r ih => simp [bytesCells, ih]
theorem byteVals_cells (l : List UInt8) : byteVals (bytesCells l) = some l := by
  induction l with
  | nil => rfl
  | cons b r ih => simp [bytesCells, byteVals, ih]
theorem bsl_str (l : List UInt8) : POp.ev .bytesStr [bsl l] = some (.str l) := by
  cases l with
  | nil => rfl
  | cons b r =>
    have h1 := bytesCells_len (b :: r)
    have h2 := byteVals_cells (b :: r)
    simp only [bsl]
    generalize (b :: r) = x at *
    simp [POp.ev, h1, h2]
theorem bsl_len (l : List UInt8) : POp.ev .lenSlice [bsl l] = some (.int .i64 (l.length : Int)) := by
  cases l <;> rfl
theorem bsl_refs (l : List UInt8) : (bsl l).refs = some 0 := by cases l <;> rfl
theorem bsl_append (a : List UInt8) (x : List UInt8) (hx : x ≠ []) : bsl (a ++ x) = .sl (bytesCells a ++ bytesCells x) (a.length + x.length) := by
  cases a with
  | nil =>
    cases x with
    | nil => exact absurd rfl hx
    | cons b r => simp [bsl, bytesCells]
  | cons b r => simp [bsl, bytesCells_append, bytesCells]; omega

/-- What a piece is replaced by. -/
def pieceR (s : List UInt8) (r : Nat × Bool × Nat) : List UInt8 := if r.2.1 then s.take r.1 else [239, 191, 189]
def rstep (s : List UInt8) (acc : List UInt8) (a : Nat) (r : Nat × Bool × Nat) : Bool × List UInt8 := (true, acc ++ pieceR (s.drop a) r)

def tm11 (s : List UInt8) : Env := [(11, .func 67 [] [.pB 2 0], .any), (10, .str s, .any), (4, .pB 1 0, .any), (9, .bool false, .any), (8, .int .i64 s.length, .any), (7, .str s, .any), (3, .int .i64 0, .any), (2, .str [], .any), (1, .pB 0 0, .any), (0, .str s, .any)]
def Rm (s : List UInt8) (acc : List UInt8) : IM :=
  ⟨[.cells [.str s] [.any], .cells [bsl acc] [.own 1], .cells [.str s] [.any], .loop 0 11 0 (tm11 s) 0], 0⟩

theorem y11 (s : List UInt8) (acc : List UInt8) (hb : acc.length ≤ 100000) (a : Nat) (ha : a ≤ 100000) (r : Nat × Bool × Nat) (h1 : r.2.1 = true → 1 ≤ r.1) (h2 : a + r.1 ≤ s.length) (h4 : r.1 ≤ 4) :
    cw (.y 3) [.int .i64 (a : Int), pieceI r] (Rm s acc) = some (.bool true, Rm s (acc ++ pieceR (s.drop a) r)) := by
  unfold cw; rw [callW_y (fn := 11) (site := 0) (r := r11_0) (bz := 0) (j := 0) (tm := tm11 s) rfl rfl]
  unfold Rm
  have htm : look (tm11 s) 4 = some (.pB 1 0, .any) := rfl
  have htm1 : look (tm11 s) 1 = some (.pB 0 0, .any) := rfl
  have h39 := call39 65533 (by decide) ⟨[.cells [.str s] [.any], .none, .cells [.str s] [.any], .loop 2 11 0 (tm11 s) 0], 0⟩
  have hE : (Utf8.encode (65533 : Nat)).data.toList = [239, 191, 189] := by decide
  rw [hE] at h39
  unfold cw at h39
  rw [show ((65533 : Nat) : Int) = 65533 from rfl] at h39
  obtain ⟨sz, w, p⟩ := r
  simp only at h1 h2 h4
  generalize tm11 s = tm at *
  cases w with
  | false =>
    simp only [pieceR, Bool.false_eq_true, if_false]
    rw [bsl_append acc _ (by simp)]
    cases acc with
    | nil =>
      have hm3 : 3 ≤ maxLenI := by decide
      simp [hm3, bsl, bytesCells, r11_0, IRnd.call, setAll, pieceI, go_sem, IM.get, IM.put, settleG, tk_mk, jnum, htm, htm1, h39]
    | cons b t =>
      have hb' : (b :: t).length + 3 ≤ maxLenI := by unfold maxLenI; omega
      have hl := bytesCells_len (b :: t)
      simp only [bsl]
      generalize (b :: t) = X at *
      generalize bytesCells X = R at *
      generalize X.length = n at *
      simp [bytesCells, r11_0, IRnd.call, setAll, pieceI, go_sem, IM.get, IM.put, settleG, tk_mk, jnum, htm, htm1, h39, hb', hl]
  | true =>
    have h1' := h1 rfl
    simp only [pieceR, if_true]
    have hlt : ((s.drop a).take sz).length = sz := by rw [List.length_take, List.length_drop]; omega
    have hne : (s.drop a).take sz ≠ [] := by intro e; rw [e] at hlt; simp at hlt; omega
    rw [bsl_append acc _ hne]
    have e1 : IntKind.i64.wrap ((a : Int) + ((sz : Nat) : Int)) = ((a + sz : Nat) : Int) := by rw [w64 (by omega) (by omega)]; rfl
    have hsub : a + sz - a = sz := by omega
    have c1 : (a : Int) ≤ ((a + sz : Nat) : Int) := by omega
    have c2 : ((a + sz : Nat) : Int) ≤ (s.length : Int) := by omega
    have c3 : (0 : Int) ≤ (a : Int) := by omega
    have c4 : (0 : Int) ≤ ((a + sz : Nat) : Int) := by omega
    have c5 : (a : Int) ≤ (s.length : Int) := by omega
    have hP := bytesCells_plain ((s.drop a).take sz)
    have hL := bytesCells_len ((s.drop a).take sz)
    rw [hlt] at hL
    have hz : sz ≠ 0 := by omega
    generalize hj : a + sz = j at *
    generalize hT : (s.drop a).take sz = T at *
    have hT' : (s.drop a).take (j - a) = T := by rw [hsub]; exact hT
    cases acc with
    | nil =>
      have hb' : sz ≤ maxLenI := by unfold maxLenI; omega
      simp [-Int.natCast_add, bsl, bytesCells, r11_0, IRnd.call, setAll, pieceI, go_sem, IM.get, IM.put, settleG, tk_mk, jnum, htm, htm1, e1, c1, c2, c3, c4, c5, hT', hP, hL, hlt, hz, hb']
    | cons b t =>
      have hb' : (b :: t).length + sz ≤ maxLenI := by unfold maxLenI; omega
      have hl := bytesCells_len (b :: t)
      simp only [bsl]
      generalize (b :: t) = X at *
      generalize bytesCells X = R at *
      generalize X.length = n at *
      simp [-Int.natCast_add, r11_0, IRnd.call, setAll, pieceI, go_sem, IM.get, IM.put, settleG, tk_mk, jnum, htm, htm1, e1, c1, c2, c3, c4, c5, hT', hP, hL, hlt, hz, hb', hl]

end Go.Idl

namespace Go.Idl
attribute [local go_sem] IFn.call ICode.run runOps IOp.run IOp.run0 gate IK.ok addrOK appOK OTag.hits IK.run Arg.rd look lookL rdAll POp.ev binEv bAdd bSub bMul bQuo bRem bLss bLeq bGtr bGeq bEql bNeq binStr shl6 unEv isShift St.put lkSlot lkL lkB lkC frc_eq frcV_eq IK.link slotC slotV St.drop St.capAt St.owner linkOf mkEnv retsOf settle0 IV.refsDeep IV.refsDeep.go IV.refs IV.refs.go refsAll IV.plain callI hideIds hideM unhideM IV.cells IV.isU IV.isL fillI repl over partI cut eqS byteVals bnd bnds loHi fold2 min2I max2I srcOf bytesCells zipCap newL newG storeI overCap capSl loadI cellsAt uqB loopW_lc St.head headE headB capNil capsL

theorem pieceR_len (s : List UInt8) (r : Nat × Bool × Nat) : (pieceR s r).length ≤ 3 * max r.1 1 := by
  unfold pieceR
  split
  · rw [List.length_take]; omega
  · simp; omega

theorem call67r (s : List UInt8) (hs : s.length ≤ 30000) : cw (.f 67) [.yld 3, .pB 2 0] (Rm s []) = some (.tup [], Rm s (visit (rstep s) (s.length + 1) s 0 []).2) ∧ (visit (rstep s) (s.length + 1) s 0 []).2.length ≤ 3 * (s.length + 4) := by
  have hlen : ∀ (k a : Nat) (acc : List UInt8), acc.length ≤ 3 * a → a ≤ s.length + 3 → (visit (rstep s) k (s.drop a) a acc).2.length ≤ 3 * (s.length + 4) := by
    intro k
    induction k with
    | zero => intro a acc h1 h2; simp only [visit]; omega
    | succ k ih =>
      intro a acc h1 h2
      cases hd : s.drop a with
      | nil => simp only [visit]; omega
      | cons c t =>
        have hlt : a < s.length := by
          rcases Nat.lt_or_ge a s.length with q | q
          · exact q
          · rw [List.drop_eq_nil_iff.2 q] at hd; cases hd
        have hle := beginB_le (c :: t)
        have hp := pieceR_len (c :: t) (beginB (c :: t))
        simp only [visit, rstep, if_true]
        rw [← hd] at *
        rw [List.drop_drop]
        have := ih (a + max (beginB (s.drop a)).1 1) (acc ++ pieceR (s.drop a) (beginB (s.drop a))) (by rw [List.length_append]; omega) (by omega)
        exact this
  have hl := hlen (s.length + 1) 0 [] (by simp) (by omega)
  rw [List.drop_zero] at hl
  refine ⟨?_, hl⟩
  unfold cw; rw [callW_fn p67 f67]
  obtain ⟨e', lb', q⟩ := L67g s (by omega) 3 2 (fun acc => Rm s acc) (fun acc => Rm s acc) (rstep s) (fun a acc => acc.length ≤ 3 * a) (fun x => rfl)
    (fun a x h1 h2 _ => by
      have hp := pieceR_len (s.drop a) (beginB (s.drop a))
      simp only [rstep, List.length_append]; omega)
    (fun a x h1 h2 => by
      have hb := begin_len (s.drop a)
      rw [List.length_drop] at hb
      have := y11 s x (by omega) a (by omega) (beginB (s.drop a)) (begin_pos _) (by omega) (beginB_le _)
      simpa [rstep] using this) (s.length + 1) 0 [] (by omega) (by omega) (by simp)
  rw [List.drop_zero] at q
  have ht : (visit (rstep s) (s.length + 1) s 0 []).1 = true := visit_true (fun acc a r => acc ++ pieceR (s.drop a) r) _ _ _ _
  generalize visit (rstep s) (s.length + 1) s 0 [] = V at *
  obtain ⟨V1, V2⟩ := V
  simp only at ht
  subst ht
  simp only [S67g] at q
  rw [show ((0 : Nat) : Int) = 0 from rfl] at q
  have htk : tk (Rm s []) (Rm s V2) = Rm s V2 := rfl
  have hesc : (Rm s V2).esc = (Rm s []).esc := rfl
  generalize Rm s [] = P0 at *
  generalize Rm s V2 = P2 at *
  simp [i67, k67_0, kl67_0, ko67_0, go_sem, q, settleG, htk, hesc]

theorem f11 : tab.fns 11 = some i11 := by rfl
theorem p11 : prims 11 = none := by rfl
theorem bsl_is (l : List UInt8) : bsl l = .nilSlice ∨ ∃ row n, bsl l = .sl row n := by
  cases l with
  | nil => exact .inl rfl
  | cons x xs => exact .inr ⟨_, _, rfl⟩

theorem call11 (s : List UInt8) (hs : s.length ≤ 30000) : cw (.f 11) [.str s] ⟨[], 0⟩ = some (.tup [.str (visit (rstep s) (s.length + 1) s 0 []).2, .int .i64 0], ⟨[], 0⟩) := by
  unfold cw; rw [callW_fn p11 f11]
  have h1 := call38 s (.cells [.str s] [.any]) (.cells [.nilSlice] [.own 1])
  obtain ⟨h2, hl⟩ := call67r s hs
  unfold cw at h1 h2
  have g1 : ¬ (100000 : Int) < (s.length : Int) := by omega
  simp only [Rm, tm11] at h2
  rw [show bsl [] = .nilSlice from rfl] at h2
  generalize (visit (rstep s) (s.length + 1) s 0 []).2 = V at *
  have g2 : ¬ (100000 : Int) < (V.length : Int) := by omega
  have e1 := bsl_str V
  have e2 := bsl_len V
  rcases bsl_is V with e | ⟨row, n, e⟩
  · simp only [e] at h2 e1 e2
    simp only [POp.ev, Option.some.injEq, IV.str.injEq, IV.int.injEq] at e1 e2
    simp [i11, go_sem, g1, g2, h1, h2, settleG, tk_mk, IM.push, IM.size, IM.get, IM.put, noL, ← e1]
  · simp only [e] at h2 e1 e2
    simp only [POp.ev] at e1 e2
    have e3 : n = V.length := by
      simp only [Option.some.injEq, IV.int.injEq, true_and] at e2; omega
    have e4 : row.length = n := by
      by_cases q : row.length = n
      · exact q
      · rw [if_neg q] at e1; cases e1
    rw [if_pos e4] at e1
    subst e3
    simp [i11, go_sem, g1, g2, h1, h2, settleG, tk_mk, IM.push, IM.size, IM.get, IM.put, noL, e1, e4]

end Go.Idl

namespace Go.Idl
attribute [local go_sem] IFn.call ICode.run runOps IOp.run IOp.run0 gate IK.ok addrOK appOK OTag.hits IK.run Arg.rd look lookL rdAll POp.ev binEv bAdd bSub bMul bQuo bRem bLss bLeq bGtr bGeq bEql bNeq binStr shl6 unEv isShift St.put lkSlot lkL lkB lkC frc_eq frcV_eq IK.link slotC slotV St.drop St.capAt St.owner linkOf mkEnv retsOf settle0 IV.refsDeep IV.refsDeep.go IV.refs IV.refs.go refsAll IV.plain callI hideIds hideM unhideM IV.cells IV.isU IV.isL fillI repl over partI cut eqS byteVals bnd bnds loHi fold2 min2I max2I srcOf bytesCells zipCap newL newG storeI overCap capSl loadI cellsAt uqB loopW_lc St.head headE headB capNil capsL

theorem f69 : tab.fns 69 = some i69 := by rfl
theorem p69 : prims 69 = none := by rfl
theorem k69_0 : h69_0.keep = [(0, 0), (3, 0), (4, 0)] := rfl
theorem kl69_0 : h69_0.keepL = [] := rfl
theorem ko69_0 : h69_0.ownL = [] := rfl
def S69 (s : List UInt8) (p i : Nat) (m : IM) : St where
  env := [(0, .str s, .any), (3, .int .i64 p, .any), (4, .int .i64 i, .any)]
  lk := []
  lb := []
  m := m

theorem step69 (s : List UInt8) (p i : Nat) (m : IM) (c : UInt8) (hb : s[i]? = some c) (hc : 128 ≤ c.toNat) (hp : p < 2 ^ 31) (hs : s.length ≤ 100) :
    lc tab prims h69_0 l69_0 (some (S69 s p i m)) = lc tab prims h69_0 l69_0 (some (S69 s (64 * p + c.toNat - 128) (i + 1) m)) := by
  have hi : i < s.length := (List.getElem?_eq_some_iff.1 hb).1
  have c1 : (i : Int) < (s.length : Int) := by omega
  have c3 : (0 : Int) ≤ (i : Int) := by omega
  have hlt := c.toNat_lt
  have e1 : IntKind.i64.wrap (64 * (p : Int)) = 64 * (p : Int) := w64 (by omega) (by omega)
  have e2 : IntKind.i64.wrap (c.toNat : Int) = (c.toNat : Int) := w64 (by omega) (by omega)
  have e3 : IntKind.i64.wrap (64 * (p : Int) + (c.toNat : Int)) = 64 * (p : Int) + (c.toNat : Int) := w64 (by omega) (by omega)
  have e4 : IntKind.i64.wrap (64 * (p : Int) + (c.toNat : Int) - 128) = ((64 * p + c.toNat - 128 : Nat) : Int) := by rw [w64 (by omega) (by omega)]; omega
  have e5 : IntKind.i64.wrap ((i : Int) + 1) = ((i + 1 : Nat) : Int) := by rw [w64 (by omega) (by omega)]; rfl
  rw [lc_some]
  generalize 64 * p + c.toNat - 128 = q at *
  generalize i + 1 = j at *
  simp [l69_0, k69_0, kl69_0, ko69_0, S69, go_sem, c1, c3, hb, e1, e2, e3, e4, e5]

theorem exit69 (s : List UInt8) (p i : Nat) (m : IM) (hi : s.length ≤ i) :
    ∃ e', lc tab prims h69_0 l69_0 (some (S69 s p i m)) = some (.exit 0, { env := e', lk := [], lb := [], m := m }) ∧ look e' 3 = some (.int .i64 p, .any) := by
  have c1 : ¬ (i : Int) < (s.length : Int) := by omega
  rw [lc_some]
  simp [l69_0, k69_0, kl69_0, ko69_0, S69, go_sem, c1]

/-- Three bytes, raw. -/
def raw3 (a b c : Nat) : Nat := 64 * (64 * (a % 16) + b - 128) + c - 128
/-- Four bytes, raw. -/
def raw4 (a b c d : Nat) : Nat := 64 * (64 * (64 * (a % 8) + b - 128) + c - 128) + d - 128

theorem call69_3 (a b c : UInt8) (hb : 128 ≤ b.toNat) (hc : 128 ≤ c.toNat) (m : IM) : cw (.f 69) [.str [a, b, c]] m = some (.int .i64 (raw3 a.toNat b.toNat c.toNat : Nat), m) := by
  unfold cw; rw [callW_fn p69 f69]
  have h1 := a.toNat_lt
  have h2 := b.toNat_lt
  have h3 := c.toNat_lt
  have q1 := step69 [a, b, c] (a.toNat % 16) 1 m b rfl hb (by omega) (by simp)
  have q2 := step69 [a, b, c] (64 * (a.toNat % 16) + b.toNat - 128) 2 m c rfl hc (by omega) (by simp)
  obtain ⟨e', q3, q4⟩ := exit69 [a, b, c] (raw3 a.toNat b.toNat c.toNat) 3 m (by simp)
  have q5 := (q1.trans q2).trans q3
  simp only [S69] at q5
  rw [show ((1 : Nat) : Int) = 1 from rfl] at q5
  have e1 : IntKind.i64.wrap (a.toNat : Int) = (a.toNat : Int) := w64 (by omega) (by omega)
  have e2 : (a.toNat : Int).tmod 16 = ((a.toNat % 16 : Nat) : Int) := by rw [tm (by omega)]; rfl
  have e3 : IntKind.i64.wrap 4 = 4 := by decide
  generalize a.toNat % 16 = A at *
  simp [i69, k69_0, kl69_0, ko69_0, go_sem, e1, e2, e3, shr4, q5, q4]

theorem call69_4 (a b c d : UInt8) (hb : 128 ≤ b.toNat) (hc : 128 ≤ c.toNat) (hd : 128 ≤ d.toNat) (m : IM) : cw (.f 69) [.str [a, b, c, d]] m = some (.int .i64 (raw4 a.toNat b.toNat c.toNat d.toNat : Nat), m) := by
  unfold cw; rw [callW_fn p69 f69]
  have h1 := a.toNat_lt
  have h2 := b.toNat_lt
  have h3 := c.toNat_lt
  have q1 := step69 [a, b, c, d] (a.toNat % 8) 1 m b rfl hb (by omega) (by simp)
  have q2 := step69 [a, b, c, d] (64 * (a.toNat % 8) + b.toNat - 128) 2 m c rfl hc (by omega) (by simp)
  have q2' := step69 [a, b, c, d] (64 * (64 * (a.toNat % 8) + b.toNat - 128) + c.toNat - 128) 3 m d rfl hd (by omega) (by simp)
  obtain ⟨e', q3, q4⟩ := exit69 [a, b, c, d] (raw4 a.toNat b.toNat c.toNat d.toNat) 4 m (by simp)
  have q5 := ((q1.trans q2).trans q2').trans q3
  simp only [S69] at q5
  rw [show ((1 : Nat) : Int) = 1 from rfl] at q5
  have e1 : IntKind.i64.wrap (a.toNat : Int) = (a.toNat : Int) := w64 (by omega) (by omega)
  have e2 : (a.toNat : Int).tmod 8 = ((a.toNat % 8 : Nat) : Int) := by rw [tm (by omega)]; rfl
  have e3 : IntKind.i64.wrap 5 = 5 := by decide
  generalize a.toNat % 8 = A at *
  simp [i69, k69_0, kl69_0, ko69_0, go_sem, e1, e2, e3, shr5, q5, q4]
end Go.Idl

namespace Go.Idl
attribute [local go_sem] IFn.call ICode.run runOps IOp.run IOp.run0 gate IK.ok addrOK appOK OTag.hits IK.run Arg.rd look lookL rdAll POp.ev binEv bAdd bSub bMul bQuo bRem bLss bLeq bGtr bGeq bEql bNeq binStr shl6 unEv isShift St.put lkSlot lkL lkB lkC frc_eq frcV_eq IK.link slotC slotV St.drop St.capAt St.owner linkOf mkEnv retsOf settle0 IV.refsDeep IV.refsDeep.go IV.refs IV.refs.go refsAll IV.plain callI hideIds hideM unhideM IV.cells IV.isU IV.isL fillI repl over partI cut eqS byteVals bnd bnds loHi fold2 min2I max2I srcOf bytesCells zipCap newL newG storeI overCap capSl loadI cellsAt uqB loopW_lc St.head headE headB capNil capsL

theorem f41 : tab.fns 41 = some i41 := by rfl
theorem p41 : prims 41 = none := by rfl
theorem k41_0 : h41_0.keep = [(0, 0), (3, 0), (4, 0), (5, 0)] := rfl
theorem kl41_0 : h41_0.keepL = [] := rfl
theorem ko41_0 : h41_0.ownL = [] := rfl
theorem k41_1 : h41_1.keep = [(0, 0), (3, 0), (4, 0), (5, 0), (6, 0)] := rfl
theorem kl41_1 : h41_1.keepL = [] := rfl
theorem ko41_1 : h41_1.ownL = [] := rfl
def S41 (s x y : List UInt8) (w : Nat) (m : IM) : St where
  env := [(0, .str s, .any), (3, .int .i64 w, .any), (4, .str x, .any), (5, .str y, .any)]
  lk := []
  lb := []
  m := m

theorem step41 (s x y : List UInt8) (w : Nat) (m : IM) (hx : x.length < w) (hw : w ≤ 100) (hy : y.length = x.length) :
    lc tab prims h41_0 l41_0 (some (S41 s x y w m)) = lc tab prims h41_0 l41_0 (some (S41 s (x ++ [128]) (y ++ [191]) w m)) := by
  have c1 : (x.length : Int) < (w : Int) := by omega
  have e1 : x.length + 1 ≤ maxLenI := by unfold maxLenI; omega
  have e2 : y.length + 1 ≤ maxLenI := by unfold maxLenI; omega
  rw [lc_some]
  simp only [S41]
  generalize lc tab prims h41_0 l41_0 = L
  generalize hx' : x ++ [128] = x' at *
  generalize hy' : y ++ [191] = y' at *
  simp [l41_0, k41_0, kl41_0, ko41_0, go_sem, c1, e1, e2, hx', hy']

theorem exit41 (s x y : List UInt8) (w : Nat) (m : IM) (hx : w ≤ x.length) :
    ∃ e', lc tab prims h41_0 l41_0 (some (S41 s x y w m)) = some (.exit 0, { env := e', lk := [], lb := [], m := m }) ∧ look e' 0 = some (.str s, .any) ∧ look e' 3 = some (.int .i64 w, .any) ∧ look e' 4 = some (.str x, .any) ∧ look e' 5 = some (.str y, .any) := by
  have c1 : ¬ (x.length : Int) < (w : Int) := by omega
  rw [lc_some]
  simp [l41_0, k41_0, kl41_0, ko41_0, S41, go_sem, c1]

def S41b (s x y : List UInt8) (w i : Nat) (m : IM) : St where
  env := [(0, .str s, .any), (3, .int .i64 w, .any), (4, .str x, .any), (5, .str y, .any), (6, .int .i64 i, .any)]
  lk := []
  lb := []
  m := m

theorem step41b (s x y : List UInt8) (w i : Nat) (m : IM) (c : UInt8) (hb : s[i]? = some c) (hc : ¬ (c.toNat < 128 ∨ 191 < c.toNat)) (hs : s.length ≤ 100) :
    lc tab prims h41_1 l41_1 (some (S41b s x y w i m)) = lc tab prims h41_1 l41_1 (some (S41b s x y w (i + 1) m)) := by
  have hi : i < s.length := (List.getElem?_eq_some_iff.1 hb).1
  have c1 : (i : Int) < (s.length : Int) := by omega
  have c3 : (0 : Int) ≤ (i : Int) := by omega
  have g1 : ¬ (c.toNat : Int) < 128 := by omega
  have g2 : ¬ (191 : Int) < (c.toNat : Int) := by omega
  have e5 : IntKind.i64.wrap ((i : Int) + 1) = ((i + 1 : Nat) : Int) := by rw [w64 (by omega) (by omega)]; rfl
  rw [lc_some]
  generalize i + 1 = j at *
  simp [l41_1, k41_1, kl41_1, ko41_1, S41b, go_sem, c1, c3, hb, g1, g2, e5]

theorem bad41b (s x y : List UInt8) (w i : Nat) (m : IM) (c : UInt8) (hb : s[i]? = some c) (hc : c.toNat < 128 ∨ 191 < c.toNat) :
    ∃ e', lc tab prims h41_1 l41_1 (some (S41b s x y w i m)) = some (.ret, { env := e', lk := [], lb := [], m := m }) ∧ look e' 2 = some (.bool false, .any) := by
  have hi : i < s.length := (List.getElem?_eq_some_iff.1 hb).1
  have c1 : (i : Int) < (s.length : Int) := by omega
  have c3 : (0 : Int) ≤ (i : Int) := by omega
  rw [lc_some]
  by_cases g1 : c.toNat < 128
  · have g1' : (c.toNat : Int) < 128 := by omega
    simp [l41_1, k41_1, kl41_1, ko41_1, S41b, go_sem, c1, c3, hb, g1', look]
  · have g1' : ¬ (c.toNat : Int) < 128 := by omega
    have g2' : (191 : Int) < (c.toNat : Int) := by omega
    simp [l41_1, k41_1, kl41_1, ko41_1, S41b, go_sem, c1, c3, hb, g1', g2', look]

theorem exit41b (s x y : List UInt8) (w i : Nat) (m : IM) (hi : s.length ≤ i) :
    ∃ e', lc tab prims h41_1 l41_1 (some (S41b s x y w i m)) = some (.exit 2, { env := e', lk := [], lb := [], m := m }) ∧ look e' 3 = some (.int .i64 w, .any) ∧ look e' 4 = some (.str x, .any) ∧ look e' 5 = some (.str y, .any) := by
  have c1 : ¬ (i : Int) < (s.length : Int) := by omega
  rw [lc_some]
  simp [l41_1, k41_1, kl41_1, ko41_1, S41b, go_sem, c1]

/-- Behind the loops: whether some number lies between the two. -/
def begV (w lo hi : Nat) : Bool := w == 2 || (w == 3 && decide (2048 ≤ hi) && (decide (lo < 55296) || decide (57343 < hi))) || (w == 4 && decide (65536 ≤ hi) && decide (lo ≤ 1114111))

set_option maxRecDepth 100000 in
theorem call41 (a : UInt8) (r : List UInt8) (x y : List UInt8) (lo hi : Nat) (hr : (a :: r).length ≤ 3) (m : IM)
    (hw : (a :: r).length < widthB a.toNat) (hw3 : 3 ≤ widthB a.toNat)
    (hpad : lc tab prims h41_0 l41_0 (some (S41 (a :: r) (a :: r) (a :: r) (widthB a.toNat) m)) = lc tab prims h41_0 l41_0 (some (S41 (a :: r) x y (widthB a.toNat) m))) (hx : widthB a.toNat ≤ x.length)
    (hok : lc tab prims h41_1 l41_1 (some (S41b (a :: r) x y (widthB a.toNat) 1 m)) = lc tab prims h41_1 l41_1 (some (S41b (a :: r) x y (widthB a.toNat) (a :: r).length m)))
    (hlo : cw (.f 69) [.str x] m = some (.int .i64 lo, m)) (hhi : cw (.f 69) [.str y] m = some (.int .i64 hi, m)) :
    cw (.f 41) [.str (a :: r)] m = some (.bool (begV (widthB a.toNat) lo hi), m) := by
  unfold cw; rw [callW_fn p41 f41]
  have h68 := call68 a m
  obtain ⟨e1, q1, q2, q3, q4, q5⟩ := exit41 (a :: r) x y (widthB a.toNat) m hx
  obtain ⟨e2, u1, u2, u3, u4⟩ := exit41b (a :: r) x y (widthB a.toNat) (a :: r).length m (Nat.le_refl _)
  have Q := hpad.trans q1
  have U := hok.trans u1
  have hwc := widthB_cases a.toNat
  unfold cw at h68 hlo hhi
  generalize widthB a.toNat = w at *
  simp only [S41, S41b] at Q U
  rw [show ((1 : Nat) : Int) = 1 from rfl] at U
  have g1 : ¬ (w : Int) ≤ (((a :: r).length : Nat) : Int) := by omega
  have hlen : (a :: r).length = r.length + 1 := rfl
  rw [hlen] at g1
  have : w = 3 ∨ w = 4 := by omega
  have f2 : ((w : Int) == 2) = false := by simp; omega
  rcases this with hq | hq
  · have f3 : ((w : Int) == 3) = true := by simp; omega
    have f4 : ((w : Int) == 4) = false := by simp; omega
    have hv : begV w lo hi = (decide (2048 ≤ hi) && (decide (lo < 55296) || decide (57343 < hi))) := by subst hq; simp [begV]
    rw [hv]
    by_cases k1 : 2048 ≤ hi <;> by_cases k2 : lo < 55296 <;> by_cases k3 : 57343 < hi <;>
    (have k1' : ((2048 : Int) ≤ (hi : Int)) = (2048 ≤ hi) := by simp; omega
     have k2' : ((lo : Int) < 55296) = (lo < 55296) := by simp; omega
     have k3' : ((57343 : Int) < (hi : Int)) = (57343 < hi) := by simp; omega
     simp [-Int.natCast_add, i41, k41_0, kl41_0, ko41_0, k41_1, kl41_1, ko41_1, go_sem, h68, g1, Q, q2, q3, q4, q5, U, u2, u3, u4, hlo, hhi, f2, f3, f4, k1', k2', k3', k1, k2, k3])
  · have f3 : ((w : Int) == 3) = false := by simp; omega
    have f4 : ((w : Int) == 4) = true := by simp; omega
    have hv : begV w lo hi = (decide (65536 ≤ hi) && decide (lo ≤ 1114111)) := by subst hq; simp [begV]
    rw [hv]
    by_cases k1 : 65536 ≤ hi <;> by_cases k2 : lo ≤ 1114111 <;>
    (have k1' : ((65536 : Int) ≤ (hi : Int)) = (65536 ≤ hi) := by simp; omega
     have k2' : ((lo : Int) ≤ 1114111) = (lo ≤ 1114111) := by simp; omega
     simp [-Int.natCast_add, i41, k41_0, kl41_0, ko41_0, k41_1, kl41_1, ko41_1, go_sem, h68, g1, Q, q2, q3, q4, q5, U, u2, u3, u4, hlo, hhi, f2, f3, f4, k1', k2', k1, k2])

theorem call41_bad (a : UInt8) (r : List UInt8) (x y : List UInt8) (j : Nat) (c : UInt8) (m : IM)
    (hw : (a :: r).length < widthB a.toNat)
    (hpad : lc tab prims h41_0 l41_0 (some (S41 (a :: r) (a :: r) (a :: r) (widthB a.toNat) m)) = lc tab prims h41_0 l41_0 (some (S41 (a :: r) x y (widthB a.toNat) m))) (hx : widthB a.toNat ≤ x.length)
    (hok : lc tab prims h41_1 l41_1 (some (S41b (a :: r) x y (widthB a.toNat) 1 m)) = lc tab prims h41_1 l41_1 (some (S41b (a :: r) x y (widthB a.toNat) j m)))
    (hb : (a :: r)[j]? = some c) (hc : c.toNat < 128 ∨ 191 < c.toNat) :
    cw (.f 41) [.str (a :: r)] m = some (.bool false, m) := by
  unfold cw; rw [callW_fn p41 f41]
  have h68 := call68 a m
  obtain ⟨e1, q1, q2, q3, q4, q5⟩ := exit41 (a :: r) x y (widthB a.toNat) m hx
  obtain ⟨e2, u1, u2⟩ := bad41b (a :: r) x y (widthB a.toNat) j m c hb hc
  have Q := hpad.trans q1
  have U := hok.trans u1
  unfold cw at h68
  generalize widthB a.toNat = w at *
  simp only [S41, S41b] at Q U
  rw [show ((1 : Nat) : Int) = 1 from rfl] at U
  have g1 : ¬ (w : Int) ≤ (((a :: r).length : Nat) : Int) := by omega
  have hlen : (a :: r).length = r.length + 1 := rfl
  rw [hlen] at g1
  simp [-Int.natCast_add, i41, k41_0, kl41_0, ko41_0, k41_1, kl41_1, ko41_1, go_sem, h68, g1, Q, q2, q3, q4, q5, U, u2]

theorem call41_short (a : UInt8) (r : List UInt8) (m : IM) (hw : widthB a.toNat ≤ (a :: r).length) : cw (.f 41) [.str (a :: r)] m = some (.bool false, m) := by
  unfold cw; rw [callW_fn p41 f41]
  have h68 := call68 a m
  unfold cw at h68
  generalize widthB a.toNat = w at *
  have g1 : (w : Int) ≤ (((a :: r).length : Nat) : Int) := by omega
  have hlen : (a :: r).length = r.length + 1 := rfl
  rw [hlen] at g1
  simp [-Int.natCast_add, i41, go_sem, h68, g1]
end Go.Idl

namespace Go.Idl

/-- Whether a short string begins an encoding that is longer. -/
def begK (s : List UInt8) : Bool := decide ((beginB s).1 = s.length) && !(beginB s).2.1

theorem pad_1 (s x y : List UInt8) (w : Nat) (m : IM) (hx : x.length < w) (hw : w ≤ 100) (hy : y.length = x.length) :
    lc tab prims h41_0 l41_0 (some (S41 s x y w m)) = lc tab prims h41_0 l41_0 (some (S41 s (x ++ [128]) (y ++ [191]) w m)) := step41 s x y w m hx hw hy

theorem lead_none {c : Nat} (h : leadOf c = none) (hc : c < 256) : widthB c = 0 := by
  unfold leadOf at h
  unfold widthB
  repeat' (split at h)
  all_goals first | (cases h; done) | skip
  all_goals (repeat' split) <;> omega

theorem lead_some {c sz lo hi p : Nat} (h : leadOf c = some (sz, lo, hi, p)) : widthB c = sz := by
  unfold leadOf at h
  unfold widthB
  repeat' (split at h)
  all_goals first | (cases h; done) | skip
  all_goals (simp only [Option.some.injEq, Prod.mk.injEq] at h; obtain ⟨rfl, rfl, rfl, rfl⟩ := h)
  all_goals (repeat' split) <;> omega

/-- Which second bytes a lead lets in, and when. -/
theorem lead_cases {c sz lo hi p : Nat} (h : leadOf c = some (sz, lo, hi, p)) :
    (sz = 3 ∧ 224 ≤ c ∧ c ≤ 239 ∧ ((c = 224 ∧ lo = 160 ∧ hi = 191) ∨ (c = 237 ∧ lo = 128 ∧ hi = 159) ∨ (c ≠ 224 ∧ c ≠ 237 ∧ lo = 128 ∧ hi = 191))) ∨
    (sz = 4 ∧ 240 ≤ c ∧ c ≤ 244 ∧ ((c = 240 ∧ lo = 144 ∧ hi = 191) ∨ (c = 244 ∧ lo = 128 ∧ hi = 143) ∨ (c ≠ 240 ∧ c ≠ 244 ∧ lo = 128 ∧ hi = 191))) ∨ sz = 1 ∨ (sz = 2 ∧ lo = 128 ∧ hi = 191) := by
  unfold leadOf at h
  repeat' (split at h)
  all_goals first | (cases h; done) | skip
  all_goals (simp only [Option.some.injEq, Prod.mk.injEq] at h; obtain ⟨rfl, rfl, rfl, rfl⟩ := h)
  all_goals omega

theorem begV3 (lo hi : Nat) : begV 3 lo hi = true ↔ 2048 ≤ hi ∧ (lo < 55296 ∨ 57343 < hi) := by simp [begV]
theorem begV4 (lo hi : Nat) : begV 4 lo hi = true ↔ 65536 ≤ hi ∧ lo ≤ 1114111 := by simp [begV]

theorem begin2 (a b : UInt8) : beginB [a, b] = match leadOf a.toNat with
    | none => (0, false, 0)
    | some (sz, lo, hi, p) => ((innB [a, b] sz lo hi p).1, decide ((innB [a, b] sz lo hi p).1 = sz), (innB [a, b] sz lo hi p).2) := rfl

theorem call41_2 (a b : UInt8) (m : IM) : cw (.f 41) [.str [a, b]] m = some (.bool (begK [a, b]), m) := by
  have ha := a.toNat_lt
  have hb := b.toNat_lt
  cases hl : leadOf a.toNat with
  | none =>
    have hw := lead_none hl ha
    rw [call41_short a [b] m (by rw [hw]; exact Nat.zero_le _)]
    simp [begK, beginB, hl]
  | some q =>
    obtain ⟨sz, lo, hi, p⟩ := q
    have hw := lead_some hl
    have hc := lead_cases hl
    by_cases h2 : sz ≤ 2
    · rw [call41_short a [b] m (by rw [hw]; simpa using h2)]
      have : sz = 1 ∨ sz = 2 := by have := leadOf_sz hl; omega
      rcases this with rfl | rfl
      · simp [begK, beginB, hl, innB, inn]
      · by_cases h : b.toNat < lo ∨ hi < b.toNat
        · simp [begK, beginB, hl, innB, inn, h]
        · simp [begK, beginB, hl, innB, inn, h]
    · have : sz = 3 ∨ sz = 4 := by have := leadOf_sz hl; omega
      rcases this with rfl | rfl
      · have pad : lc tab prims h41_0 l41_0 (some (S41 [a, b] [a, b] [a, b] (widthB a.toNat) m)) = lc tab prims h41_0 l41_0 (some (S41 [a, b] [a, b, 128] [a, b, 191] (widthB a.toNat) m)) := by
          rw [hw]; exact step41 [a, b] [a, b] [a, b] 3 m (by simp) (by omega) rfl
        by_cases hbad : b.toNat < 128 ∨ 191 < b.toNat
        · rw [call41_bad a [b] [a, b, 128] [a, b, 191] 1 b m (by rw [hw]; simp) pad (by rw [hw]; simp) rfl rfl hbad]
          have h : b.toNat < lo ∨ hi < b.toNat := by omega
          simp [begK, beginB, hl, innB, inn, h]
        · have hok := step41b [a, b] [a, b, 128] [a, b, 191] 3 1 m b rfl hbad (by simp)
          have r1 := call69_3 a b 128 (by omega) (by decide) m
          have r2 := call69_3 a b 191 (by omega) (by decide) m
          rw [call41 a [b] [a, b, 128] [a, b, 191] _ _ (by simp) m (by rw [hw]; simp) (by omega) pad (by rw [hw]; simp) (by rw [hw]; exact hok) r1 r2, hw]
          have t1 : (128 : UInt8).toNat = 128 := rfl
          have t2 : (191 : UInt8).toNat = 191 := rfl
          rw [t1, t2]
          by_cases h : b.toNat < lo ∨ hi < b.toNat
          · have v : begV 3 (raw3 a.toNat b.toNat 128) (raw3 a.toNat b.toNat 191) = false := Bool.eq_false_iff.2 (fun q => by have q' := (begV3 _ _).1 q; unfold raw3 at q'; omega)
            rw [v]
            simp [begK, beginB, hl, innB, inn, h]
          · have v : begV 3 (raw3 a.toNat b.toNat 128) (raw3 a.toNat b.toNat 191) = true := (begV3 _ _).2 (by unfold raw3; omega)
            rw [v]
            simp [begK, beginB, hl, innB, inn, h]
      · have pad : lc tab prims h41_0 l41_0 (some (S41 [a, b] [a, b] [a, b] (widthB a.toNat) m)) = lc tab prims h41_0 l41_0 (some (S41 [a, b] [a, b, 128, 128] [a, b, 191, 191] (widthB a.toNat) m)) := by
          rw [hw]; exact (step41 [a, b] [a, b] [a, b] 4 m (by simp) (by omega) rfl).trans (step41 [a, b] [a, b, 128] [a, b, 191] 4 m (by simp) (by omega) rfl)
        by_cases hbad : b.toNat < 128 ∨ 191 < b.toNat
        · rw [call41_bad a [b] [a, b, 128, 128] [a, b, 191, 191] 1 b m (by rw [hw]; simp) pad (by rw [hw]; simp) rfl rfl hbad]
          have h : b.toNat < lo ∨ hi < b.toNat := by omega
          simp [begK, beginB, hl, innB, inn, h]
        · have hok := step41b [a, b] [a, b, 128, 128] [a, b, 191, 191] 4 1 m b rfl hbad (by simp)
          have r1 := call69_4 a b 128 128 (by omega) (by decide) (by decide) m
          have r2 := call69_4 a b 191 191 (by omega) (by decide) (by decide) m
          rw [call41 a [b] [a, b, 128, 128] [a, b, 191, 191] _ _ (by simp) m (by rw [hw]; simp) (by omega) pad (by rw [hw]; simp) (by rw [hw]; exact hok) r1 r2, hw]
          have t1 : (128 : UInt8).toNat = 128 := rfl
          have t2 : (191 : UInt8).toNat = 191 := rfl
          rw [t1, t2]
          by_cases h : b.toNat < lo ∨ hi < b.toNat
          · have v : begV 4 (raw4 a.toNat b.toNat 128 128) (raw4 a.toNat b.toNat 191 191) = false := Bool.eq_false_iff.2 (fun q => by have q' := (begV4 _ _).1 q; unfold raw4 at q'; omega)
            rw [v]
            simp [begK, beginB, hl, innB, inn, h]
          · have v : begV 4 (raw4 a.toNat b.toNat 128 128) (raw4 a.toNat b.toNat 191 191) = true := (begV4 _ _).2 (by unfold raw4; omega)
            rw [v]
            simp [begK, beginB, hl, innB, inn, h]

theorem call41_3 (a b d : UInt8) (m : IM) : cw (.f 41) [.str [a, b, d]] m = some (.bool (begK [a, b, d]), m) := by
  have ha := a.toNat_lt
  have hb := b.toNat_lt
  have hd := d.toNat_lt
  cases hl : leadOf a.toNat with
  | none =>
    have hw := lead_none hl ha
    rw [call41_short a [b, d] m (by rw [hw]; exact Nat.zero_le _)]
    simp [begK, beginB, hl]
  | some q =>
    obtain ⟨sz, lo, hi, p⟩ := q
    have hw := lead_some hl
    have hc := lead_cases hl
    by_cases h2 : sz ≤ 3
    · rw [call41_short a [b, d] m (by rw [hw]; simpa using h2)]
      have : sz = 1 ∨ sz = 2 ∨ sz = 3 := by have := leadOf_sz hl; omega
      by_cases h : b.toNat < lo ∨ hi < b.toNat <;> by_cases h' : d.toNat < 128 ∨ 191 < d.toNat <;> rcases this with rfl | rfl | rfl <;> simp [begK, beginB, hl, innB, inn, h, h']
    · have : sz = 4 := by have := leadOf_sz hl; omega
      subst this
      have pad : lc tab prims h41_0 l41_0 (some (S41 [a, b, d] [a, b, d] [a, b, d] (widthB a.toNat) m)) = lc tab prims h41_0 l41_0 (some (S41 [a, b, d] [a, b, d, 128] [a, b, d, 191] (widthB a.toNat) m)) := by
        rw [hw]; exact step41 [a, b, d] [a, b, d] [a, b, d] 4 m (by simp) (by omega) rfl
      by_cases hbad : b.toNat < 128 ∨ 191 < b.toNat
      · rw [call41_bad a [b, d] [a, b, d, 128] [a, b, d, 191] 1 b m (by rw [hw]; simp) pad (by rw [hw]; simp) rfl rfl hbad]
        have h : b.toNat < lo ∨ hi < b.toNat := by omega
        simp [begK, beginB, hl, innB, inn, h]
      · have ok1 := step41b [a, b, d] [a, b, d, 128] [a, b, d, 191] 4 1 m b rfl hbad (by simp)
        by_cases hbad2 : d.toNat < 128 ∨ 191 < d.toNat
        · rw [call41_bad a [b, d] [a, b, d, 128] [a, b, d, 191] 2 d m (by rw [hw]; simp) pad (by rw [hw]; simp) (by rw [hw]; exact ok1) rfl hbad2]
          by_cases h : b.toNat < lo ∨ hi < b.toNat <;> simp [begK, beginB, hl, innB, inn, h, hbad2]
        · have ok2 := step41b [a, b, d] [a, b, d, 128] [a, b, d, 191] 4 2 m d rfl hbad2 (by simp)
          have r1 := call69_4 a b d 128 (by omega) (by omega) (by decide) m
          have r2 := call69_4 a b d 191 (by omega) (by omega) (by decide) m
          rw [call41 a [b, d] [a, b, d, 128] [a, b, d, 191] _ _ (by simp) m (by rw [hw]; simp) (by omega) pad (by rw [hw]; simp) (by rw [hw]; exact ok1.trans ok2) r1 r2, hw]
          have t1 : (128 : UInt8).toNat = 128 := rfl
          have t2 : (191 : UInt8).toNat = 191 := rfl
          rw [t1, t2]
          by_cases h : b.toNat < lo ∨ hi < b.toNat
          · have v : begV 4 (raw4 a.toNat b.toNat d.toNat 128) (raw4 a.toNat b.toNat d.toNat 191) = false := Bool.eq_false_iff.2 (fun q => by have q' := (begV4 _ _).1 q; unfold raw4 at q'; omega)
            rw [v]
            simp [begK, beginB, hl, innB, inn, h]
          · have v : begV 4 (raw4 a.toNat b.toNat d.toNat 128) (raw4 a.toNat b.toNat d.toNat 191) = true := (begV4 _ _).2 (by unfold raw4; omega)
            rw [v]
            simp [begK, beginB, hl, innB, inn, h, hbad2]

/-- How far the reference skips where no encoding begins. -/
def skipN (s : List UInt8) : Nat :=
  if 3 ≤ s.length ∧ begK (s.take 3) = true then 3 else if 2 ≤ s.length ∧ begK (s.take 2) = true then 2 else 1

theorem skip_begin (c : UInt8) (t : List UInt8) (hn : (beginB (c :: t)).2.1 = false) : skipN (c :: t) = max (beginB (c :: t)).1 1 := by
  cases hl : leadOf c.toNat with
  | none =>
    simp [skipN, begK, beginB, hl]
  | some q =>
    obtain ⟨sz, lo, hi, p⟩ := q
    have hz := leadOf_sz hl
    have : sz = 1 ∨ sz = 2 ∨ sz = 3 ∨ sz = 4 := by omega
    cases t with
    | nil => rcases this with rfl | rfl | rfl | rfl <;> simp [skipN, begK, beginB, hl, innB, inn] at hn ⊢
    | cons b t =>
      by_cases h : b.toNat < lo ∨ hi < b.toNat
      · cases t with
        | nil => rcases this with rfl | rfl | rfl | rfl <;> simp [skipN, begK, beginB, hl, innB, inn, h] at hn ⊢
        | cons d t => rcases this with rfl | rfl | rfl | rfl <;> simp [skipN, begK, beginB, hl, innB, inn, h] at hn ⊢
      · cases t with
        | nil => rcases this with rfl | rfl | rfl | rfl <;> simp [skipN, begK, beginB, hl, innB, inn, h] at hn ⊢
        | cons d t =>
          by_cases h' : d.toNat < 128 ∨ 191 < d.toNat
          · rcases this with rfl | rfl | rfl | rfl <;> simp [skipN, begK, beginB, hl, innB, inn, h, h'] at hn ⊢
          · cases t with
            | nil => rcases this with rfl | rfl | rfl | rfl <;> simp [skipN, begK, beginB, hl, innB, inn, h, h'] at hn ⊢
            | cons e t =>
              by_cases h3 : e.toNat < 128 ∨ 191 < e.toNat
              · rcases this with rfl | rfl | rfl | rfl <;> simp [skipN, begK, beginB, hl, innB, inn, h, h', h3] at hn ⊢
              · rcases this with rfl | rfl | rfl | rfl <;> simp [skipN, begK, beginB, hl, innB, inn, h, h', h3] at hn ⊢
end Go.Idl

namespace Go.Idl
attribute [local go_sem] IFn.call ICode.run runOps IOp.run IOp.run0 gate IK.ok addrOK appOK OTag.hits IK.run Arg.rd look lookL rdAll POp.ev binEv bAdd bSub bMul bQuo bRem bLss bLeq bGtr bGeq bEql bNeq binStr shl6 unEv isShift St.put lkSlot lkL lkB lkC frc_eq frcV_eq IK.link slotC slotV St.drop St.capAt St.owner linkOf mkEnv retsOf settle0 IV.refsDeep IV.refsDeep.go IV.refs IV.refs.go refsAll IV.plain callI hideIds hideM unhideM IV.cells IV.isU IV.isL fillI repl over partI cut eqS byteVals bnd bnds loHi fold2 min2I max2I srcOf bytesCells zipCap newL newG storeI overCap capSl loadI cellsAt uqB loopW_lc St.head headE headB capNil capsL

theorem call41_k (T : List UInt8) (m : IM) (h : T.length = 2 ∨ T.length = 3) : cw (.f 41) [.str T] m = some (.bool (begK T), m) := by
  match T, h with
  | [a, b], _ => exact call41_2 a b m
  | [a, b, d], _ => exact call41_3 a b d m
  | [], h => simp at h
  | [_], h => simp at h
  | _ :: _ :: _ :: _ :: _, h => simp at h

theorem k12_0 : h12_0.keep = [(0, 0), (4, 2), (5, 0), (8, 0), (9, 0)] := rfl
theorem kl12_0 : h12_0.keepL = [] := rfl
theorem ko12_0 : h12_0.ownL = [] := rfl
theorem k12_1 : h12_1.keep = [(0, 0), (4, 2), (5, 0)] := rfl
theorem kl12_1 : h12_1.keepL = [] := rfl
theorem ko12_1 : h12_1.ownL = [] := rfl
def S12 (s acc : List UInt8) (a n k : Nat) (m : IM) : St where
  env := [(0, .str s, .any), (4, bsl acc, .own 1), (5, .int .i64 a, .any), (8, .int .i64 n, .any), (9, .int .i64 k, .any)]
  lk := []
  lb := []
  m := m

theorem step12 (s acc : List UInt8) (a n k : Nat) (m : IM) (hk : k = 2 ∨ k = 3) (h : a + k ≤ s.length) (hs : s.length ≤ 100000) :
    lc tab prims h12_0 l12_0 (some (S12 s acc a n k m)) = lc tab prims h12_0 l12_0 (some (S12 s acc a (if begK ((s.drop a).take k) = true then k else n) (k + 1) m)) := by
  have hT : ((s.drop a).take k).length = k := by rw [List.length_take, List.length_drop]; omega
  have h41 := call41_k ((s.drop a).take k) m (by rw [hT]; exact hk)
  unfold cw at h41
  have e1 : IntKind.i64.wrap ((a : Int) + (k : Int)) = ((a + k : Nat) : Int) := by rw [w64 (by omega) (by omega)]; rfl
  have e5 : IntKind.i64.wrap ((k : Int) + 1) = ((k + 1 : Nat) : Int) := by rw [w64 (by omega) (by omega)]; rfl
  have c0 : (k : Int) ≤ 3 := by omega
  have c1 : (a : Int) ≤ ((a + k : Nat) : Int) := by omega
  have c2 : ((a + k : Nat) : Int) ≤ (s.length : Int) := by omega
  have c3 : (0 : Int) ≤ (a : Int) := by omega
  have c4 : (0 : Int) ≤ ((a + k : Nat) : Int) := by omega
  have c5 : (a : Int) ≤ (s.length : Int) := by omega
  have hsub : a + k - a = k := by omega
  rw [lc_some]
  simp only [S12]
  generalize lc tab prims h12_0 l12_0 = L
  generalize hj : a + k = j at *
  generalize k + 1 = k' at *
  have hT' : (s.drop a).take (j - a) = (s.drop a).take k := by rw [hsub]
  generalize (s.drop a).take k = T at *
  have hsl := bsl_is acc
  cases hb : begK T with
  | true =>
    rw [hb] at h41
    rcases hsl with e | ⟨row, q, e⟩ <;> simp only [e] <;>
    simp [-Int.natCast_add, l12_0, k12_0, kl12_0, ko12_0, go_sem, e1, e5, c0, c1, c2, c3, c4, c5, hT', h41]
  | false =>
    rw [hb] at h41
    rcases hsl with e | ⟨row, q, e⟩ <;> simp only [e] <;>
    simp [-Int.natCast_add, l12_0, k12_0, kl12_0, ko12_0, go_sem, e1, e5, c0, c1, c2, c3, c4, c5, hT', h41]

theorem exit12 (s acc : List UInt8) (a n k : Nat) (m : IM) (h : 3 < k ∨ s.length < a + k) (ha : a ≤ 100000) (hk : k ≤ 4) :
    ∃ e', lc tab prims h12_0 l12_0 (some (S12 s acc a n k m)) = some (.exit 2, { env := e', lk := [], lb := [], m := m }) ∧ look e' 0 = some (.str s, .any) ∧ look e' 4 = some (bsl acc, .own 1) ∧ look e' 5 = some (.int .i64 a, .any) ∧ look e' 8 = some (.int .i64 n, .any) := by
  have e1 : IntKind.i64.wrap ((a : Int) + (k : Int)) = ((a + k : Nat) : Int) := by rw [w64 (by omega) (by omega)]; rfl
  have hsl := bsl_is acc
  rw [lc_some]
  simp only [S12]
  by_cases c0 : k ≤ 3
  · have c0' : (k : Int) ≤ 3 := by omega
    have c1 : ¬ ((a + k : Nat) : Int) ≤ (s.length : Int) := by omega
    generalize a + k = j at *
    rcases hsl with e | ⟨row, q, e⟩ <;> simp only [e] <;> simp [-Int.natCast_add, l12_0, k12_0, kl12_0, ko12_0, go_sem, e1, c0', c1]
  · have c0' : ¬ (k : Int) ≤ 3 := by omega
    rcases hsl with e | ⟨row, q, e⟩ <;> simp only [e] <;> simp [-Int.natCast_add, l12_0, k12_0, kl12_0, ko12_0, go_sem, c0']

theorem skip12 (s acc : List UInt8) (a : Nat) (m : IM) (hs : s.length ≤ 100000) (ha : a ≤ s.length) :
    ∃ e', lc tab prims h12_0 l12_0 (some (S12 s acc a 1 2 m)) = some (.exit 2, { env := e', lk := [], lb := [], m := m }) ∧ look e' 0 = some (.str s, .any) ∧ look e' 4 = some (bsl acc, .own 1) ∧ look e' 5 = some (.int .i64 a, .any) ∧ look e' 8 = some (.int .i64 (skipN (s.drop a) : Nat), .any) := by
  have hl : (s.drop a).length = s.length - a := List.length_drop
  by_cases h2 : a + 2 ≤ s.length
  · have q2 := step12 s acc a 1 2 m (.inl rfl) h2 hs
    by_cases h3 : a + 3 ≤ s.length
    · have q3 := step12 s acc a (if begK ((s.drop a).take 2) = true then 2 else 1) 3 m (.inr rfl) h3 hs
      rw [q2, q3]
      have he : skipN (s.drop a) = if begK ((s.drop a).take 3) = true then 3 else (if begK ((s.drop a).take 2) = true then 2 else 1) := by
        unfold skipN
        rw [hl]
        by_cases u : begK ((s.drop a).take 3) = true
        · rw [if_pos ⟨by omega, u⟩, if_pos u]
        · rw [if_neg (fun h => u h.2), if_neg u]
          by_cases v : begK ((s.drop a).take 2) = true
          · rw [if_pos ⟨by omega, v⟩, if_pos v]
          · rw [if_neg (fun h => v h.2), if_neg v]
      rw [he]
      exact exit12 s acc a _ 4 m (.inl (by omega)) (by omega) (by omega)
    · rw [q2]
      have he : skipN (s.drop a) = if begK ((s.drop a).take 2) = true then 2 else 1 := by
        unfold skipN
        rw [hl, if_neg (fun h => by omega)]
        by_cases v : begK ((s.drop a).take 2) = true
        · rw [if_pos ⟨by omega, v⟩, if_pos v]
        · rw [if_neg (fun h => v h.2), if_neg v]
      rw [he]
      exact exit12 s acc a _ 3 m (.inr (by omega)) (by omega) (by omega)
  · have he : skipN (s.drop a) = 1 := by
      unfold skipN
      rw [hl, if_neg (fun h => by omega), if_neg (fun h => by omega)]
    rw [he]
    exact exit12 s acc a 1 2 m (.inr (by omega)) (by omega) (by omega)

/-- What the reference's Replace comes to. -/
def rfB : Nat → List UInt8 → List UInt8 → List UInt8
  | 0, _, acc => acc
  | k + 1, s, acc => if s = [] then acc else if (decB s).2 = 0 then rfB k (s.drop (skipN s)) (acc ++ [239, 191, 189]) else rfB k (s.drop (decB s).2) (acc ++ s.take (decB s).2)

def S12b (s acc : List UInt8) (a : Nat) (m : IM) : St where
  env := [(0, .str s, .any), (4, bsl acc, .own 1), (5, .int .i64 a, .any)]
  lk := []
  lb := []
  m := m

theorem encFFFD : encB 65533 = [239, 191, 189] := by decide

theorem skipN_le (s : List UInt8) : skipN s ≤ 3 ∧ 1 ≤ skipN s ∧ (s ≠ [] → skipN s ≤ s.length) := by
  unfold skipN
  split
  · exact ⟨by omega, by omega, fun _ => by omega⟩
  · split
    · exact ⟨by omega, by omega, fun _ => by omega⟩
    · exact ⟨by omega, by omega, fun h => by
        cases s with
        | nil => exact absurd rfl h
        | cons => simp⟩

theorem step12b (s acc : List UInt8) (a : Nat) (m : IM) (hs : s.length ≤ 100000) (hlt : a < s.length) (hacc : acc.length ≤ 3 * a) :
    lc tab prims h12_1 l12_1 (some (S12b s acc a m)) = lc tab prims h12_1 l12_1 (some (if (decB (s.drop a)).2 = 0 then S12b s (acc ++ [239, 191, 189]) (a + skipN (s.drop a)) m else S12b s (acc ++ (s.drop a).take (decB (s.drop a)).2) (a + (decB (s.drop a)).2) m)) := by
  have c1 : (a : Int) < (s.length : Int) := by omega
  have c2 : (a : Int) ≤ (s.length : Int) := by omega
  have c3 : (0 : Int) ≤ (a : Int) := by omega
  have hne : s.drop a ≠ [] := fun e => by have := List.drop_eq_nil_iff.1 e; omega
  have htk : (s.drop a).take (s.length - a) = s.drop a := List.take_of_length_le (by simp)
  have h40 := call40 (s.drop a) m
  have hle := decB_le (s.drop a)
  rw [List.length_drop] at hle
  have hsk := skipN_le (s.drop a)
  unfold cw at h40
  by_cases hz : (decB (s.drop a)).2 = 0
  · rw [if_pos hz]
    obtain ⟨e', u0, u1, u2, u3, u4⟩ := skip12 s acc a m hs (by omega)
    have h42 := call42 65533 (by decide) m
    rw [encFFFD] at h42
    unfold cw at h42
    rw [show ((65533 : Nat) : Int) = 65533 from rfl] at h42
    simp only [S12] at u0
    rw [show ((1 : Nat) : Int) = 1 from rfl, show ((2 : Nat) : Int) = 2 from rfl] at u0
    have hzb : (((decB (s.drop a)).2 : Nat) : Int) = 0 := by omega
    generalize decB (s.drop a) = D at *
    generalize hN : skipN (s.drop a) = N at *
    have e1 : IntKind.i64.wrap ((a : Int) + ((N : Nat) : Int)) = ((a + N : Nat) : Int) := by rw [w64 (by omega) (by omega)]; rfl
    rw [lc_some]
    simp only [S12b, bsl_append acc [239, 191, 189] (by simp)]
    generalize lc tab prims h12_1 l12_1 = L
    generalize a + N = j at *
    cases acc with
    | nil =>
      have hm3 : 3 ≤ maxLenI := by decide
      simp only [bsl] at u0 u2 ⊢
      simp [-Int.natCast_add, bytesCells, l12_1, k12_0, kl12_0, ko12_0, k12_1, kl12_1, ko12_1, go_sem, c1, c2, c3, htk, h40, hzb, u0, u1, u2, u3, u4, h42, e1, hm3]
    | cons b t =>
      have hb' : (b :: t).length + 3 ≤ maxLenI := by unfold maxLenI; omega
      have hl := bytesCells_len (b :: t)
      simp only [bsl] at u0 u2 ⊢
      generalize (b :: t) = X at *
      generalize bytesCells X = R at *
      generalize X.length = n at *
      simp [-Int.natCast_add, bytesCells, l12_1, k12_0, kl12_0, ko12_0, k12_1, kl12_1, ko12_1, go_sem, c1, c2, c3, htk, h40, hzb, u0, u1, u2, u3, u4, h42, e1, hb', hl]
  · rw [if_neg hz]
    generalize hD : decB (s.drop a) = D at *
    have hzb : (0 : Int) < ((D.2 : Nat) : Int) := by omega
    have hzN : 0 < D.2 := by omega
    have hlt' : ((s.drop a).take D.2).length = D.2 := by rw [List.length_take, List.length_drop]; omega
    have hne' : (s.drop a).take D.2 ≠ [] := by intro e; rw [e] at hlt'; simp at hlt'; omega
    have e1 : IntKind.i64.wrap ((a : Int) + ((D.2 : Nat) : Int)) = ((a + D.2 : Nat) : Int) := by rw [w64 (by omega) (by omega)]; rfl
    have d1 : (a : Int) ≤ ((a + D.2 : Nat) : Int) := by omega
    have d2 : ((a + D.2 : Nat) : Int) ≤ (s.length : Int) := by omega
    have d4 : (0 : Int) ≤ ((a + D.2 : Nat) : Int) := by omega
    have hsub : a + D.2 - a = D.2 := by omega
    have hP := bytesCells_plain ((s.drop a).take D.2)
    have hL := bytesCells_len ((s.drop a).take D.2)
    rw [hlt'] at hL
    rw [lc_some]
    simp only [S12b, bsl_append acc _ hne']
    generalize lc tab prims h12_1 l12_1 = L
    generalize hj : a + D.2 = j at *
    generalize hT : (s.drop a).take D.2 = T at *
    have hT' : (s.drop a).take (j - a) = T := by rw [hsub]; exact hT
    cases acc with
    | nil =>
      have hb' : D.2 ≤ maxLenI := by unfold maxLenI; omega
      simp only [bsl, bytesCells]
      simp [-Int.natCast_add, l12_1, k12_1, kl12_1, ko12_1, go_sem, c1, c2, c3, htk, h40, hzb, hzN, e1, d1, d2, d4, hT', hP, hL, hlt', hz, hb']
    | cons b t =>
      have hb' : (b :: t).length + D.2 ≤ maxLenI := by unfold maxLenI; omega
      have hl := bytesCells_len (b :: t)
      simp only [bsl]
      generalize (b :: t) = X at *
      generalize bytesCells X = R at *
      generalize X.length = n at *
      simp [-Int.natCast_add, l12_1, k12_1, kl12_1, ko12_1, go_sem, c1, c2, c3, htk, h40, hzb, hzN, e1, d1, d2, d4, hT', hP, hL, hlt', hz, hb', hl]

end Go.Idl

namespace Go.Idl
attribute [local go_sem] IFn.call ICode.run runOps IOp.run IOp.run0 gate IK.ok addrOK appOK OTag.hits IK.run Arg.rd look lookL rdAll POp.ev binEv bAdd bSub bMul bQuo bRem bLss bLeq bGtr bGeq bEql bNeq binStr shl6 unEv isShift St.put lkSlot lkL lkB lkC frc_eq frcV_eq IK.link slotC slotV St.drop St.capAt St.owner linkOf mkEnv retsOf settle0 IV.refsDeep IV.refsDeep.go IV.refs IV.refs.go refsAll IV.plain callI hideIds hideM unhideM IV.cells IV.isU IV.isL fillI repl over partI cut eqS byteVals bnd bnds loHi fold2 min2I max2I srcOf bytesCells zipCap newL newG storeI overCap capSl loadI cellsAt uqB loopW_lc St.head headE headB capNil capsL

theorem L12 (s : List UInt8) (hs : s.length ≤ 30000) (m : IM) : ∀ (k a : Nat) (acc : List UInt8), s.length - a < k → a ≤ s.length → acc.length ≤ 3 * a →
    ∃ e', lc tab prims h12_1 l12_1 (some (S12b s acc a m)) = some (.exit 0, { env := e', lk := [], lb := [], m := m }) ∧ look e' 4 = some (bsl (rfB k (s.drop a) acc), .own 1) ∧ (rfB k (s.drop a) acc).length ≤ 3 * s.length := by
  intro k
  induction k with
  | zero => intro a acc h; omega
  | succ k ih =>
    intro a acc hk ha hacc
    by_cases hlt : a < s.length
    · have hne : s.drop a ≠ [] := fun e => by have := List.drop_eq_nil_iff.1 e; omega
      have hsk := skipN_le (s.drop a)
      have hle := decB_le (s.drop a)
      rw [List.length_drop] at hle hsk
      rw [step12b s acc a m (by omega) hlt hacc]
      by_cases hz : (decB (s.drop a)).2 = 0
      · have hv : rfB (k + 1) (s.drop a) acc = rfB k (s.drop (a + skipN (s.drop a))) (acc ++ [239, 191, 189]) := by rw [rfB, if_neg hne, if_pos hz, List.drop_drop]
        rw [hv, if_pos hz]
        exact ih (a + skipN (s.drop a)) (acc ++ [239, 191, 189]) (by omega) (by have := hsk.2.2 hne; omega) (by simp; omega)
      · have hv : rfB (k + 1) (s.drop a) acc = rfB k (s.drop (a + (decB (s.drop a)).2)) (acc ++ (s.drop a).take (decB (s.drop a)).2) := by rw [rfB, if_neg hne, if_neg hz, List.drop_drop]
        rw [hv, if_neg hz]
        exact ih (a + (decB (s.drop a)).2) _ (by omega) (by omega) (by rw [List.length_append, List.length_take]; omega)
    · have c1 : ¬ (a : Int) < (s.length : Int) := by omega
      have hd : s.drop a = [] := List.drop_eq_nil_iff.2 (by omega)
      have hv : rfB (k + 1) (s.drop a) acc = acc := by simp [rfB, hd]
      rw [hv, lc_some]
      have hl : acc.length ≤ 3 * s.length := by omega
      rcases bsl_is acc with e | ⟨row, n, e⟩ <;> simp only [S12b, e] <;> simp [l12_1, k12_1, kl12_1, ko12_1, go_sem, c1, hl]

theorem f12 : tab.fns 12 = some i12 := by rfl
theorem p12 : prims 12 = none := by rfl
theorem call12 (s : List UInt8) (hs : s.length ≤ 30000) (m : IM) : cw (.f 12) [.str s] m = some (.tup [.str (rfB (s.length + 1) s []), .int .i64 0], m) := by
  unfold cw; rw [callW_fn p12 f12]
  obtain ⟨e', q0, q1, q2⟩ := L12 s hs m (s.length + 1) 0 [] (by omega) (by omega) (by simp)
  rw [List.drop_zero] at q1 q2
  have g1 : ¬ (100000 : Int) < (s.length : Int) := by omega
  generalize rfB (s.length + 1) s [] = V at *
  have g2 : ¬ (100000 : Int) < (V.length : Int) := by omega
  have e1 := bsl_str V
  have e2 := bsl_len V
  simp only [S12b] at q0
  rw [show bsl [] = .nilSlice from rfl, show ((0 : Nat) : Int) = 0 from rfl] at q0
  rcases bsl_is V with e | ⟨row, n, e⟩
  · simp only [e] at q1 e1 e2
    simp only [POp.ev, Option.some.injEq, IV.str.injEq, IV.int.injEq] at e1 e2
    simp [i12, k12_1, kl12_1, ko12_1, go_sem, g1, g2, q0, q1, ← e1]
  · simp only [e] at q1 e1 e2
    simp only [POp.ev] at e1 e2
    have e3 : n = V.length := by
      simp only [Option.some.injEq, IV.int.injEq, true_and] at e2; omega
    have e4 : row.length = n := by
      by_cases q : row.length = n
      · exact q
      · rw [if_neg q] at e1; cases e1
    rw [if_pos e4] at e1
    subst e3
    simp [i12, k12_1, kl12_1, ko12_1, go_sem, g1, g2, q0, q1, e1, e4]

theorem val_rf (s0 : List UInt8) : ∀ (k : Nat) (a : Nat) (acc : List UInt8), rfB k (s0.drop a) acc = (visit (rstep s0) k (s0.drop a) a acc).2
  | 0, _, _ => rfl
  | k + 1, a, acc => by
    cases hd : s0.drop a with
    | nil => simp [rfB, visit]
    | cons c t =>
      have h := dec_begin c t
      have hp := begin_pos (c :: t)
      have hn := skip_begin c t
      have hne : s0.drop a ≠ [] := by rw [hd]; simp
      have hv : visit (rstep s0) (k + 1) (s0.drop a) a acc = visit (rstep s0) k ((s0.drop a).drop (max (beginB (s0.drop a)).1 1)) (a + max (beginB (s0.drop a)).1 1) (acc ++ pieceR (s0.drop a) (beginB (s0.drop a))) := by
        rw [hd]; simp only [visit, rstep, if_true]; rw [hd]
      rw [← hd] at h hp hn ⊢
      rw [hv, rfB, if_neg hne, List.drop_drop]
      generalize hG : beginB (s0.drop a) = G at *
      obtain ⟨n, w, p⟩ := G
      cases w with
      | false =>
        simp only [Bool.false_eq_true, if_false] at h
        rw [h, if_pos rfl, hn rfl]
        simp only [pieceR, Bool.false_eq_true, if_false]
        rw [List.drop_drop]
        exact val_rf s0 k _ _
      | true =>
        simp only [if_true] at h
        have hp' : 1 ≤ n := hp rfl
        have hm : max n 1 = n := by omega
        have hz : n ≠ 0 := by omega
        rw [h]
        simp only [pieceR, if_true, hm]
        rw [if_neg hz, List.drop_drop]
        exact val_rf s0 k _ _

theorem replace_eq (s : List UInt8) : rfB (s.length + 1) s [] = (visit (rstep s) (s.length + 1) s 0 []).2 := by
  have := val_rf s (s.length + 1) 0 []
  rwa [List.drop_zero] at this

theorem f3 : tab.fns 3 = some i3 := by rfl
theorem p3 : prims 3 = none := by rfl
theorem call3 (s : List UInt8) : cw (.f 3) [.str s] ⟨[], 0⟩ = some (.bool true, ⟨[], 0⟩) := by
  unfold cw; rw [callW_fn p3 f3]
  have h9 := call9 s ⟨[], 0⟩
  have h10 := call10
  unfold cw at h9 h10
  by_cases hl : s.length ≤ 1200
  · have h11 := call11 s (by omega)
    have h12 := call12 s (by omega) ⟨[], 0⟩
    rw [replace_eq] at h12
    unfold cw at h11 h12
    generalize (visit (rstep s) (s.length + 1) s 0 []).2 = V at *
    simp [i3, go_sem, h9, h10, hl, h11, h12]
  · simp [i3, go_sem, h9, h10, hl]
end Go.Idl
