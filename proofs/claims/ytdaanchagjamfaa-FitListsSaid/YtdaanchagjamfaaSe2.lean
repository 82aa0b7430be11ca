/- Slices: parts of them, rows made anew, append. -/
import Derived.Test.YtdaanchagjamfaaSe1
import Derived.Deep.AppendSrc
import Derived.Deep.DeepAppendWide
namespace Go.SX
open Go Go.RowKit Go.Proofs.Ytdaanchagjamfaa

/-! ### Parts -/
def bN : Option AV → Nat → Option (Bool × Bool × Nat)
  | none, d => some (true, true, d)
  | some (.int c _ n), _ => some (c, decide (0 ≤ n), n.toNat)
  | _, _ => none
/-- 'x[lo:hi:max]' of something of length n and room m (or more): known?, its condition, low, high, max. -/
def boundsA (n m : Nat) (lo hi mx : Option AV) : Option (Bool × Bool × Nat × Nat × Nat) :=
  match bN mx m with
  | some (c1, p1, m') => match bN hi n with
    | some (c2, p2, h) => match bN lo 0 with
      | some (c3, p3, l) => if mx.isSome && hi.isNone then none else
        some (c1 && c2 && c3, p1 && p2 && p3 && (mx.isNone || decide (m' ≤ m)) && (hi.isNone || decide (h ≤ m')) && (lo.isNone || decide (l ≤ h)), l, h, m')
      | none => none
    | none => none
  | none => none
theorem run_bound {P : Program} {k : IntKind} {n : Int} {y : Nat} {code : BoundsCode} (h0 : 0 ≤ n) (h1 : n.toNat ≤ y) (w : World) : (Instr.sliceBound (.int k n) y code).run P w = .ok n.toNat w := by
  have : n ≤ (y : Int) := by omega
  simp [Instr.sliceBound, asIntOf, h0, this]
theorem bN_some {x : AV} {d : Nat} {c p : Bool} {n : Nat} (h : bN (some x) d = some (c, p, n)) : ∃ k i, x = .int c k i ∧ p = decide (0 ≤ i) ∧ n = i.toNat := by
  cases x <;> simp only [bN] at h <;> (try (cases h; done))
  simp only [Option.some.injEq, Prod.mk.injEq] at h
  obtain ⟨rfl, rfl, rfl⟩ := h
  exact ⟨_, _, rfl, rfl, rfl⟩
theorem run_bounds {P : Program} {n B m : Nat} {lo hi mx : Option AV} {c : Bool} {l h m' : Nat} (hb : boundsA n B lo hi mx = some (c, true, l, h, m')) (hm : B ≤ m) (isS : Bool) (r : Nat → Loc) (w : World) :
    (Instr.sliceBounds isS n m (lo.map (AV.den r)) (hi.map (AV.den r)) (mx.map (AV.den r))).run P w = .ok (l, h, if mx.isSome then m' else m) w ∧ (mx.isNone = true → m' = B) ∧ (lo.isNone = true → l = 0) := by
  unfold boundsA at hb
  split at hb <;> (try (cases hb; done))
  rename_i c1 p1 m1 e1
  split at hb <;> (try (cases hb; done))
  rename_i c2 p2 h1 e2
  split at hb <;> (try (cases hb; done))
  rename_i c3 p3 l1 e3
  split at hb <;> (try (cases hb; done))
  rename_i hmh
  simp only [Option.some.injEq, Prod.mk.injEq, Bool.and_eq_true, Bool.or_eq_true, decide_eq_true_eq] at hb
  obtain ⟨_, ⟨⟨⟨⟨⟨q1, q2⟩, q3⟩, q4⟩, q5⟩, q6⟩, rfl, rfl, rfl⟩ := hb
  subst q1 q2 q3
  unfold Instr.sliceBounds
  cases mx with
  | none =>
    simp only [bN, Option.some.injEq, Prod.mk.injEq] at e1
    obtain ⟨_, _, rfl⟩ := e1
    cases hi with
    | none =>
      simp only [bN, Option.some.injEq, Prod.mk.injEq] at e2
      obtain ⟨_, _, rfl⟩ := e2
      cases lo with
      | none =>
        simp only [bN, Option.some.injEq, Prod.mk.injEq] at e3
        obtain ⟨_, _, rfl⟩ := e3
        simp
      | some x =>
        obtain ⟨k, i, rfl, hp, rfl⟩ := bN_some e3
        have hp := of_decide_eq_true hp.symm
        simp only [Option.isNone_some, Bool.false_eq_true, false_or] at q6
        simp [AV.den, run_bound hp q6]
    | some y =>
      obtain ⟨k, i, rfl, hp, rfl⟩ := bN_some e2
      have hp := of_decide_eq_true hp.symm
      simp only [Option.isNone_some, Bool.false_eq_true, false_or] at q5
      have hq : i.toNat ≤ m := by omega
      cases lo with
      | none =>
        simp only [bN, Option.some.injEq, Prod.mk.injEq] at e3
        obtain ⟨_, _, rfl⟩ := e3
        simp [AV.den, run_bound hp hq]
      | some x =>
        obtain ⟨k', i', rfl, hp', rfl⟩ := bN_some e3
        have hp' := of_decide_eq_true hp'.symm
        simp only [Option.isNone_some, Bool.false_eq_true, false_or] at q6
        simp [AV.den, run_bound hp hq, run_bound hp' q6]
  | some z =>
    obtain ⟨k0, i0, rfl, hp0, rfl⟩ := bN_some e1
    have hp0 := of_decide_eq_true hp0.symm
    simp only [Option.isNone_some, Bool.false_eq_true, false_or] at q4
    have hq0 : i0.toNat ≤ m := by omega
    cases hi with
    | none => simp at hmh
    | some y =>
      obtain ⟨k, i, rfl, hp, rfl⟩ := bN_some e2
      have hp := of_decide_eq_true hp.symm
      simp only [Option.isNone_some, Bool.false_eq_true, false_or] at q5
      cases lo with
      | none =>
        simp only [bN, Option.some.injEq, Prod.mk.injEq] at e3
        obtain ⟨_, _, rfl⟩ := e3
        simp [AV.den, run_bound hp0 hq0, run_bound hp q5]
      | some x =>
        obtain ⟨k', i', rfl, hp', rfl⟩ := bN_some e3
        have hp' := of_decide_eq_true hp'.symm
        simp only [Option.isNone_some, Bool.false_eq_true, false_or] at q6
        simp [AV.den, run_bound hp0 hq0, run_bound hp q5, run_bound hp' q6]

theorem bounds0 {lo hi mx : Option AV} {c : Bool} {l h m' : Nat} (hb : boundsA 0 0 lo hi mx = some (c, true, l, h, m')) : l = 0 ∧ h = 0 ∧ m' = 0 := by
  unfold boundsA at hb
  split at hb <;> (try (cases hb; done))
  rename_i c1 p1 m1 e1
  split at hb <;> (try (cases hb; done))
  rename_i c2 p2 h1 e2
  split at hb <;> (try (cases hb; done))
  rename_i c3 p3 l1 e3
  split at hb <;> (try (cases hb; done))
  simp only [Option.some.injEq, Prod.mk.injEq, Bool.and_eq_true, Bool.or_eq_true, decide_eq_true_eq] at hb
  obtain ⟨_, ⟨⟨⟨⟨⟨q1, q2⟩, q3⟩, q4⟩, q5⟩, q6⟩, rfl, rfl, rfl⟩ := hb
  have hm : m1 = 0 := by
    cases mx with
    | none => simp only [bN, Option.some.injEq, Prod.mk.injEq] at e1; omega
    | some x => simp at q4; omega
  have hh : h1 = 0 := by
    cases hi with
    | none => simp only [bN, Option.some.injEq, Prod.mk.injEq] at e2; omega
    | some x => simp at q5; omega
  have hl : l1 = 0 := by
    cases lo with
    | none => simp only [bN, Option.some.injEq, Prod.mk.injEq] at e3; omega
    | some x => simp at q6; omega
  exact ⟨hl, hh, hm⟩
def blkZ : Blk → Option Nat
  | .cells z _ _ => some z
  | .rowl _ z _ => some z
  | .arr z _ _ => some z
  | .gone => none
  | .cellsR .. => none
  | .rowlR .. => none
  | .lp .. => none
  | .dfr => none
  | .mp .. => none
  | .rowz _ _ ks _ _ => some ks.length
  | .frz ks _ _ => some ks.length
  | .frz2 .. => some 1
  | .mpf .. => none
theorem blkZ_spec {r : Nat → Loc} {id : Nat} {w : World} {b : Blk} {z : Nat} (hb : BRep r id w b) (h : blkZ b = some z) : (r id).esz = z := by
  cases b <;> simp only [blkZ, Option.some.injEq] at h <;> (try (cases h; done)) <;> subst h
  · exact hb.2.1
  · exact hb.2.1
  · exact hb.1
  · exact hb.2.1
  · exact hb.1
  · exact hb.2.1

def sliceA (P : Program) (t : TypeId) (x : AV) (lo hi mx : Option AV) (b : Option Blk) : Option Eff :=
  match P.underlying t, x, b with
  | some (.array n elem), .ptr id 0 0, some (.cells z _ _) =>
    if szT P elem == some z then match boundsA n n lo hi mx with
      | some (c, p, l, h, m) => some ⟨c, p, .slice c id (if m = l then 0 else l) (h - l) (.lit (m - l)), []⟩
      | none => none
    else none
  | some (.slice elem), .slice c0 id e len (.lit cp), some b =>
    if (szT P elem).isSome && szT P elem == blkZ b then match boundsA len cp lo hi mx with
      | some (c, p, l, h, m) => some ⟨c && c0, p, .slice (c && c0) id (if m = l then e else e + l) (h - l) (.lit (m - l)), []⟩
      | none => none
    else none
  | some (.slice elem), .slice c0 id e len (.of k), some (.rowl _ z L) =>
    if szT P elem == some z && k == e then match boundsA len (L.length - e) lo hi mx with
      | some (c, p, l, h, m) => match mx with
        | none => some ⟨c && c0, p && (decide (l = 0) || decide (e + l < L.length)), .slice (c && c0) id (e + l) (h - l) (.of (k + l)), []⟩
        | some _ => some ⟨c && c0, p && decide (e ≤ L.length), .slice (c && c0) id (if m = l then e else e + l) (h - l) (.lit (m - l)), []⟩
      | none => none
    else none
  | some (.slice elem), .nils, none => match szT P elem, boundsA 0 0 lo hi mx with
    | some _, some (c, p, _, _, _) => some ⟨c, p, .nils, []⟩
    | _, _ => none
  | _, _, _ => none

theorem sliceAt_slice {P : Program} {t elem : TypeId} (hu : P.underlying t = some (.slice elem)) (x : Value) (lo hi mx : Option Value) (w : World) : (Instr.sliceAt t x lo hi mx).run P w = (Instr.slice t x lo hi mx).run P w := by
  simp [Instr.sliceAt, run_underlying hu]

theorem sliceA_ok {P : Program} {t : TypeId} {x : AV} {lo hi mx : Option AV} {b : Option Blk} {eff : Eff} (h : sliceA P t x lo hi mx b = some eff) (hp : eff.pre = true) {r : Nat → Loc} {w : World}
    (hb : ∀ id e j b', x = .ptr id e j → b = some b' → BRep r id w b') (hb' : ∀ c id e n cp b', x = .slice c id e n cp → b = some b' → BRep r id w b') :
    (Instr.sliceAt t (x.den r) (lo.map (AV.den r)) (hi.map (AV.den r)) (mx.map (AV.den r))).run P w = .ok (eff.val.den r) w ∧ eff.upd = [] := by
  unfold sliceA at h
  split at h <;> (try (cases h; done))
  · rename_i n elem id z ty l0 hu
    split at h <;> (try (cases h; done))
    rename_i hz
    split at h <;> (try (cases h; done))
    rename_i c p l hh m hbn
    simp only [Option.some.injEq] at h; subst h
    simp only at hp; subst hp
    have hrep := hb id 0 0 _ rfl rfl
    obtain ⟨hr, hm0, _⟩ := run_bounds (P := P) hbn (Nat.le_refl n) false r w
    have hme : (if mx.isSome then m else n) = m := by
      cases mx with
      | none => exact (hm0 rfl).symm
      | some _ => rfl
    rw [hme] at hr
    have hz : szT P elem = some z := by simpa using hz
    refine ⟨?_, rfl⟩
    simp only [Instr.sliceAt, Sem.run_bind, run_underlying hu, Result.andThen_ok, AV.den, Instr.sureAddr, Sem.run_pure, hr, run_szT hz, Cap.den]
    rw [hrep.1, hrep.2.1]
    split
    · simp
    · simp [add_off]
  · rename_i elem c0 id e len cp b hu
    split at h <;> (try (cases h; done))
    rename_i hz
    simp only [Bool.and_eq_true, beq_iff_eq] at hz
    obtain ⟨z, hz1⟩ := Option.isSome_iff_exists.1 hz.1
    split at h <;> (try (cases h; done))
    rename_i c p l hh m hbn
    simp only [Option.some.injEq] at h; subst h
    simp only at hp; subst hp
    have hrep := hb' c0 id e len (.lit cp) b rfl rfl
    have hez := blkZ_spec hrep (by rw [← hz.2]; exact hz1)
    obtain ⟨hr, hm0, _⟩ := run_bounds (P := P) hbn (Nat.le_refl cp) true r w
    have hme : (if mx.isSome then m else cp) = m := by
      cases mx with
      | none => exact (hm0 rfl).symm
      | some _ => rfl
    rw [hme] at hr
    refine ⟨?_, rfl⟩
    rw [sliceAt_slice hu]
    simp only [Instr.slice, Sem.run_bind, run_underlying hu, Result.andThen_ok, AV.den, Cap.den, hr, run_szT hz1, Sem.run_pure]
    rw [hez]
    split
    · simp
    · simp [add_off, Nat.add_mul, Nat.add_assoc]
  · rename_i elem c0 id e len k ty z L hu
    split at h <;> (try (cases h; done))
    rename_i hz
    simp only [Bool.and_eq_true, beq_iff_eq] at hz
    obtain ⟨hz1, rfl⟩ := hz
    split at h <;> (try (cases h; done))
    rename_i c p l hh m hbn
    have hrep := hb' c0 id k len (.of k) _ rfl rfl
    obtain ⟨ho, hez, _, hcap, _⟩ := hrep
    split at h
    · simp only [Option.some.injEq] at h; subst h
      simp only [Bool.and_eq_true, Bool.or_eq_true, decide_eq_true_eq] at hp
      obtain ⟨rfl, hl⟩ := hp
      obtain ⟨hr, hm0, _⟩ := run_bounds (P := P) (m := (r id).cap - k) hbn (by omega) true r w
      refine ⟨?_, rfl⟩
      rw [sliceAt_slice hu]
      simp only [Option.map_none, Option.isSome_none, Bool.false_eq_true, if_false] at hr
      simp only [Instr.slice, Sem.run_bind, run_underlying hu, Result.andThen_ok, AV.den, Cap.den, Option.map_none, hr, run_szT hz1, Sem.run_pure]
      rw [hez, ho]
      rcases hl with rfl | hl
      · split
        · simp
        · simp [add_off]
      · rw [if_neg (by omega)]
        simp [add_off, Nat.add_mul, Nat.sub_sub]
    · rename_i y
      simp only [Option.some.injEq] at h; subst h
      simp only [Bool.and_eq_true, decide_eq_true_eq] at hp
      obtain ⟨rfl, hl⟩ := hp
      obtain ⟨hr, hm0, _⟩ := run_bounds (P := P) (m := (r id).cap - k) hbn (by omega) true r w
      refine ⟨?_, rfl⟩
      rw [sliceAt_slice hu]
      simp only [Option.map_some, Option.isSome_some, if_true] at hr
      simp only [Instr.slice, Sem.run_bind, run_underlying hu, Result.andThen_ok, AV.den, Cap.den, Option.map_some, hr, run_szT hz1, Sem.run_pure]
      rw [hez]
      split
      · simp
      · simp [add_off, Nat.add_mul, Nat.add_assoc]
  · rename_i elem hu
    split at h <;> (try (cases h; done))
    rename_i z c p l hh m hz hbn
    simp only [Option.some.injEq] at h; subst h
    simp only at hp; subst hp
    obtain ⟨hr, hm0, _⟩ := run_bounds (P := P) hbn (Nat.le_refl 0) true r w
    obtain ⟨rfl, rfl, rfl⟩ := bounds0 hbn
    refine ⟨?_, rfl⟩
    rw [sliceAt_slice hu]
    simp only [ite_self] at hr
    simp only [Instr.slice, Sem.run_bind, run_underlying hu, Result.andThen_ok, AV.den, hr, run_szT hz, Sem.run_pure]
    simp

end Go.SX
