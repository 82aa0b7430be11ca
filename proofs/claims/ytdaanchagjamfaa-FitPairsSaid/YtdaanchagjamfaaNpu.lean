/- Trees, node by node. -/
import Derived.Test.YtdaanchagjamfaaNpm
import Derived.Test.YtdaanchagjamfaaNpq
import Derived.Test.YtdaanchagjamfaaNps
namespace Go.SX
open Go

theorem den_need {Q : AV → List (Nat × Blk) → Prop} {b : Bool} {t : Tree} (hb : b = true) (ht : t.den Q) : (Tree.need b t).den Q := ⟨hb, ht⟩
theorem den_bnd {Q : AV → List (Nat × Blk) → Prop} {b : Bool} {f : Bool → Tree} (h : ∀ x, x = b → (f x).den Q) : (Tree.bnd b f).den Q := h
theorem den_bndI {Q : AV → List (Nat × Blk) → Prop} {b : Int} {f : Int → Tree} (h : ∀ x, x = b → (f x).den Q) : (Tree.bndI b f).den Q := h
theorem den_br {Q : AV → List (Nat × Blk) → Prop} {b : Bool} {t e : Tree} (h1 : b = true → t.den Q) (h2 : b = false → e.den Q) : (Tree.br b t e).den Q := ⟨h1, h2⟩
theorem den_ask {Q : AV → List (Nat × Blk) → Prop} {p : Prop} {t : Tree} (hp : p) (ht : t.den Q) : (Tree.ask p t).den Q := ⟨hp, ht⟩
theorem den_asm {Q : AV → List (Nat × Blk) → Prop} {p : Prop} {t : Tree} (ht : p → t.den Q) : (Tree.asm p t).den Q := ht
theorem den_all {Q : AV → List (Nat × Blk) → Prop} {f : (Nat → Value) → Tree} (ht : ∀ g, (f g).den Q) : (Tree.all f).den Q := ht
theorem den_both {Q : AV → List (Nat × Blk) → Prop} {a b : Tree} (h1 : a.den Q) (h2 : b.den Q) : (Tree.both a b).den Q := ⟨h1, h2⟩
/-- What a tree asks for, held together (so that no elaborator unfolds it). -/
structure DenOk (Q : AV → List (Nat × Blk) → Prop) (t : Tree) : Prop where
  den : t.den Q
end Go.SX
/- What a state has to do with a pattern: which block stands for which, and what must be equal. Loops by invariants, told ahead where they begin and how they end. -/
namespace Go.SX
open Go Go.RowKit Go.Proofs.Ytdaanchagjamfaa

inductive Cv where
  | same
  | ghost
  | lift
/-- The pattern's number, the state's, and how. -/
structure Pr where
  p : Nat
  s : Nat
  c : Cv
mutual
def prV : AV → AV → List Pr
  | .ptr id _ _, .ptr id' _ _ => [⟨id', id, .same⟩]
  | .slice _ id _ _ _, .slice _ id' _ _ _ => [⟨id', id, .same⟩]
  | .slice _ id _ _ _, .slz id' _ _ _ => [⟨id', id, .lift⟩]
  | .slz id _ _ _, .slz id' _ _ _ => [⟨id', id, .same⟩]
  | .nils, .slz id' _ _ _ => [⟨id', 0, .ghost⟩]
  | .map id, .map id' => [⟨id', id, .same⟩]
  | .yld id, .yld id' => [⟨id', id, .same⟩]
  | .fn _ l, .fn _ l' => prL l l'
  | .ifc _ v, .ifc _ v' => prV v v'
  | .agg l, .agg l' => prL l l'
  | .tup l, .tup l' => prL l l'
  | _, _ => []
def prL : List AV → List AV → List Pr
  | v :: l, v' :: l' => prV v v' ++ prL l l'
  | _, _ => []
end
def findP : List Pr → Nat → Option Pr
  | [], _ => none
  | x :: l, i => match Nat.beq x.p i with
    | true => some x
    | false => findP l i
def addP : List Pr → List Pr → List Pr
  | [], acc => acc
  | x :: l, acc => match findP acc x.p with
    | some _ => addP l acc
    | none => addP l (acc ++ [x])
def prB : Blk → Blk → List Pr
  | .cells _ _ l, .cells _ _ l' => prL l l'
  | .cells _ _ l, .cellsR _ _ l' => prL l l'
  | .cellsR _ _ l, .cellsR _ _ l' => prL l l'
  | .lp _ _ l _ _ _, .lp _ _ l' _ _ _ => prL l l'
  | .rowl _ _ l, .rowl _ _ l' => prL l.flatten l'.flatten
  | _, _ => []
def stepP (h hJ : List (Nat × Blk)) (Q : List Pr) : List Pr := addP (Q.flatMap fun x => match look h x.s, look hJ x.p with
  | some b, some b' => prB b b'
  | _, _ => []) Q
def baseP (n0 : Nat) : List (Nat × Blk) → List Pr
  | [] => []
  | (i, _) :: l => match Nat.blt i n0 with
    | true => ⟨i, i, .same⟩ :: baseP n0 l
    | false => baseP n0 l
def unif (n0 : Nat) (vals Jv : List AV) (h hJ : List (Nat × Blk)) : List Pr := stepP h hJ (stepP h hJ (stepP h hJ (addP (prL vals Jv) (baseP n0 hJ))))

def isP (Q : List Pr) (p s : Nat) : Bool := match findP Q p with
  | some ⟨_, s', .same⟩ => Nat.beq s s'
  | some ⟨_, s', .lift⟩ => Nat.beq s s'
  | _ => false
def isLift (Q : List Pr) (p s : Nat) : Bool := match findP Q p with
  | some ⟨_, s', .lift⟩ => Nat.beq s s'
  | _ => false
def isSame (Q : List Pr) (p s : Nat) : Bool := match findP Q p with
  | some ⟨_, s', .same⟩ => Nat.beq s s'
  | _ => false
def isGhost (Q : List Pr) (p : Nat) : Bool := match findP Q p with
  | some ⟨_, _, .ghost⟩ => true
  | _ => false
def kindB : IntKind → IntKind → Bool
  | k, k' => k == k'
mutual
/-- What must be equal. -/
def eqV (Q : List Pr) : AV → AV → Option (List Prop)
  | .int _ k n, .int _ k' n' => match kindB k k' with | true => some [n = n'] | false => none
  | .bool _ b, .bool _ b' => some [b = b']
  | .ptr id e j, .ptr id' e' j' => match isP Q id' id with | true => some [e = e', j = j'] | false => none
  | .addr a, .addr a' => some [a = a']
  | .nilp, .nilp => some []
  | .slice _ id e n cp, .slice _ id' e' n' cp' => match isP Q id' id with | true => some [e = e', n = n', cp = cp'] | false => none
  | .slice _ id e n cp, .slz id' e' n' cp' => match isLift Q id' id with | true => some [e = e', n = n', cp = cp'] | false => none
  | .slz id e n cp, .slz id' e' n' cp' => match isSame Q id' id with | true => some [e = e', n = n', cp = cp'] | false => none
  | .nils, .slz id' _ n' _ => match isGhost Q id' with | true => some [n' = 0] | false => none
  | .nils, .nils => some []
  | .map id, .map id' => match isP Q id' id with | true => some [] | false => none
  | .yld id, .yld id' => match isP Q id' id with | true => some [] | false => none
  | .nilm, .nilm => some []
  | .fn f l, .fn f' l' => match eqL Q l l' with | some ps => some ((f = f') :: ps) | none => none
  | .nilf, .nilf => some []
  | .ifc t v, .ifc t' v' => match eqV Q v v' with | some ps => some ((t = t') :: ps) | none => none
  | .nili, .nili => some []
  | .str s, .str s' => some [s = s']
  | .agg l, .agg l' => eqL Q l l'
  | .tup l, .tup l' => eqL Q l l'
  | .raw v, .raw v' => some [v = v']
  | _, _ => none
def eqL (Q : List Pr) : List AV → List AV → Option (List Prop)
  | [], [] => some []
  | v :: l, v' :: l' => match eqV Q v v', eqL Q l l' with
    | some ps, some qs => some (ps ++ qs)
    | _, _ => none
  | _, _ => none
end
def eqLL (Q : List Pr) : List (List AV) → List (List AV) → Option (List Prop)
  | [], [] => some []
  | v :: l, v' :: l' => match eqL Q v v', eqLL Q l l' with
    | some ps, some qs => some (ps ++ qs)
    | _, _ => none
  | _, _ => none
/-- The numbers of two rows are equal. -/
def eqF : Nat → Nat → (Nat → Int) → (Nat → Int) → Prop
  | 0, _, _, _ => True
  | n + 1, j, f, g => f j = g j ∧ eqF n (j + 1) f g
theorem eqF_get : ∀ {n j : Nat} {f g : Nat → Int}, eqF n j f g → ∀ i, i < n → f (j + i) = g (j + i)
  | 0, _, _, _, _, i, hi => by omega
  | n + 1, j, f, g, h, 0, _ => h.1
  | n + 1, j, f, g, h, i + 1, hi => by
    have := eqF_get h.2 i (by omega)
    rw [show j + (i + 1) = j + 1 + i by omega]; exact this
def RowsEq (m n : Nat) (g g' : Nat → Nat → Int) : Prop := ∀ i, i < n → eqF m 0 (g i) (g' i)
theorem eqF_refl : ∀ (n j : Nat) (f : Nat → Int), eqF n j f f
  | 0, _, _ => trivial
  | n + 1, j, f => ⟨rfl, eqF_refl n (j + 1) f⟩
theorem RowsEq.refl (m n : Nat) (g : Nat → Nat → Int) : RowsEq m n g g := fun _ _ => eqF_refl _ _ _
def RowsIs (ks : List CK) (l : List (List AV)) (n : Nat) (g' : Nat → Nat → Int) : Prop := n ≤ l.length ∧ ∀ i, i < n → ∀ x, l[i]? = some x → ∀ r, AV.denL r x = AV.denL r (rowG ks g' i)
def ArrIs (ks : List CK) (n : Nat) (g : Nat → List AV) (g' : Nat → Nat → Int) : Prop := ∀ i, i < n → ∀ r, AV.denL r (g i) = AV.denL r (rowG ks g' i)
def Rows2Eq (m n : Nat) (ln ln' : Nat → Nat) (g g' : Nat → Nat → Nat → Int) : Prop := ∀ i, i < n → ln i = ln' i ∧ RowsEq m (ln' i) (g i) (g' i)
def MapEq (z z' : AV) (has has' : Int → Bool) (g g' : Int → AV) : Prop := (∀ r, z.den r = z'.den r) ∧ z'.all (fun _ => false) = true ∧ (∀ n, has n = has' n) ∧ ∀ n, (∀ r, (g n).den r = (g' n).den r) ∧ (g' n).all (fun _ => false) = true
def MapNil (z : AV) (has : Int → Bool) (g : Int → AV) : Prop := z.all (fun _ => false) = true ∧ (∀ n, has n = false) ∧ ∀ n, (∀ r, (g n).den r = z.den r) ∧ (g n).all (fun _ => false) = true
def eqB (Q : List Pr) (c : Cv) : Blk → Blk → Option (List Prop)
  | .cells z t l, .cells z' t' l' => match c, Nat.beq z z', Nat.beq t t' with | .same, true, true => eqL Q l l' | _, _, _ => none
  | .cells z t l, .cellsR z' t' l' => match c, Nat.beq z z', Nat.beq t t' with | .same, true, true => eqL Q l l' | _, _, _ => none
  | .cellsR z t l, .cellsR z' t' l' => match c, Nat.beq z z', Nat.beq t t' with | .same, true, true => eqL Q l l' | _, _, _ => none
  | .rowl t z l, .rowl t' z' l' => match c, Nat.beq z z', Nat.beq t t' with | .same, true, true => eqLL Q l l' | _, _, _ => none
  | .arr z n g, .arr z' n' g' => match c, Nat.beq z z' with | .same, true => some [n = n', g = g'] | _, _ => none
  | .rowz o t ks n g, .rowz o' t' ks' n' g' => match c, ksB ks ks', Nat.beq t t', (o || !o') with | .same, true, true, true => some [n' ≤ n, RowsEq ks'.length n' g g'] | _, _, _, _ => none
  | .rowz _ _ ks n g, .frz ks' n' g' => match c, ksB ks ks' with | .same, true => some [n' ≤ n, RowsEq ks'.length n' g g'] | _, _ => none
  | .frz ks n g, .frz ks' n' g' => match c, ksB ks ks' with | .same, true => some [n' ≤ n, RowsEq ks'.length n' g g'] | _, _ => none
  | .frz2 o t ks n ln g, .frz2 o' t' ks' n' ln' g' => match c, ksB ks ks', Nat.beq t t', (o || !o') with | .same, true, true, true => some [n = n', Rows2Eq ks'.length n' ln ln' g g'] | _, _, _, _ => none
  | .rowl t z l, .rowz _ t' ks' n' g' => match c, Nat.beq z ks'.length, Nat.beq t t' with | .lift, true, true => some [RowsIs ks' l n' g'] | _, _, _ => none
  | .rowl _ z l, .frz ks' n' g' => match c, Nat.beq z ks'.length with | .lift, true => some [RowsIs ks' l n' g'] | _, _ => none
  | .rowlR _ z l, .frz ks' n' g' => match c, Nat.beq z ks'.length with | .lift, true => some [RowsIs ks' l n' g'] | _, _ => none
  | .arr z n g, .frz ks' n' g' => match c, Nat.beq z ks'.length with | .lift, true => some [n' ≤ n, ArrIs ks' n' g g'] | _, _ => none
  | .mp es cl, .mp es' cl' => match c with | .same => some [es = es', cl = cl'] | _ => none
  | .mp es _, .mpf _ z has g => match c with | .same => some [es = [], MapNil z has g] | _ => none
  | .mpf k z has g, .mpf k' z' has' g' => match c, kindB k k' with | .same, true => some [MapEq z z' has has' g g'] | _, _ => none
  | .lp s pe l ps as body, .lp s' pe' l' ps' as' body' => match c, eqL Q l l' with | .same, some qs => some ((s = s') :: (pe = pe') :: (ps = ps') :: (as = as') :: (body = body') :: qs) | _, _ => none
  | _, _ => none
/-- What has no block of its own. -/
def eqG : Blk → Option (List Prop)
  | .rowz _ _ _ n _ => some [n = 0]
  | .frz _ n _ => some [n = 0]
  | .frz2 _ _ _ n _ _ => some [n = 0]
  | _ => none
def eqH (Q : List Pr) (h : List (Nat × Blk)) : List (Nat × Blk) → Option (List Prop)
  | [] => some []
  | (i, b) :: l => match findP Q i with
    | some ⟨_, _, .ghost⟩ => (match eqG b, eqH Q h l with
      | some ps, some qs => some (ps ++ qs)
      | _, _ => none)
    | some ⟨_, s, c⟩ => (match look h s with
      | some b' => (match eqB Q c b' b, eqH Q h l with
        | some ps, some qs => some (ps ++ qs)
        | _, _ => none)
      | none => none)
    | none => none
/-- No two of the pattern's blocks are one of the state's. -/
def injP (Q : List Pr) : List (Nat × Blk) → Bool
  | [] => true
  | (i, _) :: l => (match findP Q i with
    | some ⟨_, s, c⟩ => l.all fun p => match findP Q p.1 with
      | some ⟨_, s', c'⟩ => (match c, c' with
        | .ghost, _ => true
        | _, .ghost => true
        | _, _ => !(Nat.beq s s'))
      | none => false
    | none => false) && injP Q l
def lowP (n0 : Nat) : List Pr → Bool
  | [] => true
  | x :: l => (match Nat.blt x.p n0 with
    | true => (match x.c with | .same => Nat.beq x.p x.s | _ => false)
    | false => true) && lowP n0 l
def distH : List (Nat × Blk) → Bool
  | [] => true
  | (i, _) :: l => (l.all fun p => !(Nat.beq i p.1)) && distH l
def subE (n0 : Nat) (vals : List AV) (h : List (Nat × Blk)) (J : JSt) : Option (List Prop) :=
  match unif n0 vals (J.live.map (·.2)) h J.hp with
  | Q => match eqL Q vals (J.live.map (·.2)), eqH Q h J.hp, (scopeJ J && (injP Q J.hp && (lowP n0 Q && (noDfr h && distH J.hp)))) with
    | some ps, some qs, true => some (ps ++ qs)
    | _, _, _ => none
def allE : List Prop → Prop
  | [] => True
  | p :: l => p ∧ allE l
theorem allE_append : ∀ {a b : List Prop}, allE (a ++ b) ↔ allE a ∧ allE b
  | [], b => by simp [allE]
  | p :: a, b => by simp only [List.cons_append, allE, allE_append (a := a)]; exact and_assoc.symm
structure SubOk (n0 : Nat) (ls : List Nat) (len : Nat) (vals : List AV) (h : List (Nat × Blk)) (J : JSt) : Prop where
  slots : J.live.map (·.1) = ls
  len : len = J.len
  eqs : ∃ ps, subE n0 vals h J = some ps ∧ allE ps

/-- Where the pattern's blocks lie. -/
def liftL (l : Loc) : Loc := { l with nil := false, nb := none, foot := fun k => k = l.blk }
def zOf : Option Blk → Nat
  | some (.rowz _ _ ks _ _) => ks.length
  | some (.frz ks _ _) => ks.length
  | some (.frz2 ..) => 1
  | _ => 0
def locP (Q : List Pr) (hJ : List (Nat × Blk)) (r : Nat → Loc) (i : Nat) : Loc := match findP Q i with
  | some ⟨_, s, .same⟩ => r s
  | some ⟨_, s, .lift⟩ => liftL (r s)
  | some ⟨_, _, .ghost⟩ => Loc.none (zOf (look hJ i))
  | none => r i
theorem isP_den {Q : List Pr} {hJ : List (Nat × Blk)} {p s : Nat} (h : isP Q p s = true) (r : Nat → Loc) : (locP Q hJ r p).blk = (r s).blk ∧ (locP Q hJ r p).off = (r s).off ∧ (locP Q hJ r p).esz = (r s).esz ∧ (locP Q hJ r p).cap = (r s).cap := by
  unfold isP at h
  unfold locP
  split at h
  · rename_i s' he
    rw [he]
    have := Nat.eq_of_beq_eq_true h
    subst this
    exact ⟨rfl, rfl, rfl, rfl⟩
  · rename_i s' he
    rw [he]
    have := Nat.eq_of_beq_eq_true h
    subst this
    exact ⟨rfl, rfl, rfl, rfl⟩
  · cases h
theorem isLift_den {Q : List Pr} {hJ : List (Nat × Blk)} {p s : Nat} (h : isLift Q p s = true) (r : Nat → Loc) : locP Q hJ r p = liftL (r s) := by
  unfold isLift at h
  unfold locP
  split at h
  · rename_i s' he
    rw [he]
    have := Nat.eq_of_beq_eq_true h
    subst this; rfl
  · cases h
theorem isSame_den {Q : List Pr} {hJ : List (Nat × Blk)} {p s : Nat} (h : isSame Q p s = true) (r : Nat → Loc) : locP Q hJ r p = r s := by
  unfold isSame at h
  unfold locP
  split at h
  · rename_i s' he
    rw [he]
    have := Nat.eq_of_beq_eq_true h
    subst this; rfl
  · cases h
theorem isGhost_den {Q : List Pr} {hJ : List (Nat × Blk)} {p : Nat} (h : isGhost Q p = true) (r : Nat → Loc) : ∃ z, locP Q hJ r p = Loc.none z := by
  unfold isGhost at h
  unfold locP
  split at h
  · rename_i he
    rw [he]
    exact ⟨_, rfl⟩
  · cases h
mutual
theorem eqV_den {Q : List Pr} {hJ : List (Nat × Blk)} (r : Nat → Loc) : ∀ (v v' : AV) (ps : List Prop), eqV Q v v' = some ps → allE ps → v.den r = v'.den (locP Q hJ r) := by
  intro v v' ps h ha
  cases v <;> cases v' <;> simp only [eqV] at h <;> (try (cases h; done)) <;> (try (split at h <;> (try (cases h; done)))) <;> (try (simp only [Option.some.injEq] at h; subst h)) <;> (try simp only [allE, and_true] at ha)
  · rename_i hk; have hk := beq_iff_eq.1 hk; subst hk; rw [AV.den, AV.den, ha]
  · rw [AV.den, AV.den, ha]
  · rename_i hk; obtain ⟨h1, h2, h3, h4⟩ := isP_den (hJ := hJ) hk r; rw [AV.den, AV.den, h1, h2, h3, ha.1, ha.2]
  · rw [AV.den, AV.den, ha]
  · rfl
  · rename_i hk; obtain ⟨h1, h2, h3, h4⟩ := isP_den (hJ := hJ) hk r; rw [AV.den, AV.den, h1, h2, h3, h4, ha.1, ha.2.1, ha.2.2]
  · rename_i hk; have h1 := isLift_den (hJ := hJ) hk r; simp only [AV.den]; rw [h1, ha.1, ha.2.1, ha.2.2]; rfl
  · rfl
  · rename_i hk; obtain ⟨z, h1⟩ := isGhost_den (hJ := hJ) hk r; simp only [AV.den]; rw [h1, ha]; rfl
  · rename_i hk; have h1 := isSame_den (hJ := hJ) hk r; simp only [AV.den]; rw [h1, ha.1, ha.2.1, ha.2.2]
  · rename_i hk; obtain ⟨h1, h2, h3, h4⟩ := isP_den (hJ := hJ) hk r; rw [AV.den, AV.den, h1]
  · rename_i hk; obtain ⟨h1, h2, h3, h4⟩ := isP_den (hJ := hJ) hk r; rw [AV.den, AV.den, h1]
  · rfl
  · rename_i hl; simp only [AV.den]; rw [ha.1, eqL_den r _ _ _ hl ha.2]
  · rfl
  · rename_i hl; simp only [AV.den]; rw [ha.1, eqV_den r _ _ _ hl ha.2]
  · rfl
  · rw [AV.den, AV.den, ha]
  · simp only [AV.den]; rw [eqL_den r _ _ _ h ha]
  · simp only [AV.den]; rw [eqL_den r _ _ _ h ha]
  · rw [AV.den, AV.den, ha]
theorem eqL_den {Q : List Pr} {hJ : List (Nat × Blk)} (r : Nat → Loc) : ∀ (l l' : List AV) (ps : List Prop), eqL Q l l' = some ps → allE ps → AV.denL r l = AV.denL (locP Q hJ r) l'
  | [], [], _, _, _ => rfl
  | [], _ :: _, _, h, _ => by simp [eqL] at h
  | _ :: _, [], _, h, _ => by simp [eqL] at h
  | v :: l, v' :: l', ps, h, ha => by
    simp only [eqL] at h
    split at h <;> (try (cases h; done))
    rename_i p1 p2 h1 h2
    simp only [Option.some.injEq] at h; subst h
    obtain ⟨a1, a2⟩ := allE_append.1 ha
    simp only [AV.denL]
    rw [eqV_den r _ _ _ h1 a1, eqL_den r _ _ _ h2 a2]
end
theorem eqL_len {Q : List Pr} : ∀ {l l' : List AV} {ps : List Prop}, eqL Q l l' = some ps → l.length = l'.length
  | [], [], _, _ => rfl
  | [], _ :: _, _, h => by simp [eqL] at h
  | _ :: _, [], _, h => by simp [eqL] at h
  | v :: l, v' :: l', ps, h => by
    simp only [eqL] at h
    split at h <;> (try (cases h; done))
    rename_i p1 p2 h1 h2
    simp only [List.length_cons, eqL_len h2]
theorem denL_app (r : Nat → Loc) (a b : List AV) : AV.denL r (a ++ b) = AV.denL r a ++ AV.denL r b := by simp only [denL_map, List.map_append]
theorem eqLL_den {Q : List Pr} {hJ : List (Nat × Blk)} (r : Nat → Loc) : ∀ (l l' : List (List AV)) (ps : List Prop), eqLL Q l l' = some ps → allE ps → AV.denL r l.flatten = AV.denL (locP Q hJ r) l'.flatten ∧ l.length = l'.length ∧ ∀ z, (∀ x ∈ l, x.length = z) → ∀ x ∈ l', x.length = z
  | [], [], _, _, _ => ⟨rfl, rfl, fun _ h => h⟩
  | [], _ :: _, _, h, _ => by simp [eqLL] at h
  | _ :: _, [], _, h, _ => by simp [eqLL] at h
  | v :: l, v' :: l', ps, h, ha => by
    simp only [eqLL] at h
    split at h <;> (try (cases h; done))
    rename_i p1 p2 h1 h2
    simp only [Option.some.injEq] at h; subst h
    obtain ⟨a1, a2⟩ := allE_append.1 ha
    obtain ⟨e1, e2, e3⟩ := eqLL_den (hJ := hJ) r l l' _ h2 a2
    refine ⟨?_, by simp only [List.length_cons, e2], fun z hz x hx => ?_⟩
    · rw [List.flatten_cons, List.flatten_cons, denL_app, denL_app, eqL_den r _ _ _ h1 a1, e1]
    · rcases List.mem_cons.1 hx with rfl | hx
      · rw [← eqL_len h1]; exact hz v List.mem_cons_self
      · exact e3 z (fun y hy => hz y (List.mem_cons_of_mem _ hy)) x hx
end Go.SX
/- What a state has to do with a pattern: the law; loops by invariants told ahead. -/
namespace Go.SX
open Go Go.RowKit Go.Proofs.Ytdaanchagjamfaa

theorem rowsEq_row {ks : List CK} {n : Nat} {g g' : Nat → Nat → Int} (h : RowsEq ks.length n g g') {i : Nat} (hi : i < n) : rowG ks g i = rowG ks g' i :=
  cellsOf_congr ks 0 fun j hj => eqF_get (h i hi) j hj
theorem rowsAt_of {r r' : Nat → Loc} {w : World} {l : Loc} {ks : List CK} {n : Nat} {g : Nat → Nat → Int} (h1 : l.nil = true → n = 0) (h2 : ∀ i, i < n → l.foot l.blk) (h3 : ∀ i, i < n → ∀ j v, (rowG ks g i)[j]? = some v → w.cell? ⟨l.blk, l.off + i * ks.length + j, none⟩ = some (v.den r)) : RowsAt w r' l ks.length n (rowG ks g) := by
  refine ⟨h1, fun i hi => ⟨h2 i hi, cellsOf_len _ _ _, fun j v hv => ?_⟩⟩
  have hf : flatC v = true := by
    have := cellsOf_flat ks 0 (g i)
    rw [flatR, List.all_eq_true] at this
    exact this v (List.mem_of_getElem? hv)
  exact ⟨hf, by rw [h3 i hi j v hv, den_congr (p := fun _ => false) (r := r) (r' := r') (fun _ hf => by cases hf) v (flatC_all hf)]⟩
/-- Rows there, read at a place that lies the same. -/
theorem rows_rep {r r' : Nat → Loc} {w : World} {l l' : Loc} {ks : List CK} {n n' : Nat} {g g' : Nat → Nat → Int} (h : RowsAt w r l ks.length n (rowG ks g)) (hle : n' ≤ n) (hg : RowsEq ks.length n' g g') (h1 : l'.blk = l.blk) (h2 : l'.off = l.off) (h3 : l'.nil = true → l.nil = true) (h4 : ∀ k, l.foot k → l'.foot k) : RowsAt w r' l' ks.length n' (rowG ks g') := by
  refine rowsAt_of (r := r) (fun hn => by have := h.1 (h3 hn); omega) (fun i hi => by rw [h1]; exact h4 _ (h.2 i (by omega)).1) fun i hi j v hv => ?_
  rw [h1, h2]
  rw [← rowsEq_row hg hi] at hv
  exact ((h.2 i (by omega)).2.2 j v hv).2
theorem rowz_at {r : Nat → Loc} {w : World} {id : Nat} {ty : TypeId} {z n : Nat} {g : Nat → List AV} (h : RowzR r id w ty z n g) : RowsAt w r (r id) z n g := by
  refine ⟨h.2.2.2.1, fun i hi => ?_⟩
  have hn := rowz_nil h (by omega)
  refine ⟨(h.2.2.1 _).2 ⟨hn, rfl⟩, (h.2.2.2.2.1 i hi).1, fun j v hv => ⟨?_, rowz_cell h hi hv⟩⟩
  have hf := (h.2.2.2.2.1 i hi).2
  rw [flatR, List.all_eq_true] at hf
  exact hf v (List.mem_of_getElem? hv)
/-- Cells that stand for the same. -/
theorem denL_at {r : Nat → Loc} {x y : List AV} (h : AV.denL r x = AV.denL r y) {j : Nat} {v : AV} (hv : y[j]? = some v) : ∃ u, x[j]? = some u ∧ u.den r = v.den r := by
  have e := congrArg (fun l => l[j]?) h
  simp only [denL_map, List.getElem?_map, hv, Option.map_some] at e
  cases hu : x[j]? with
  | none => rw [hu] at e; cases e
  | some u => rw [hu] at e; exact ⟨u, rfl, by simpa using e⟩
/-- Rows of a block that is known whole. -/
theorem rowl_at {r : Nat → Loc} {w : World} {id : Nat} {ty : TypeId} {ks : List CK} {l : List (List AV)} (h : BRep r id w (.rowl ty ks.length l)) {r' : Nat → Loc} {n : Nat} {g : Nat → Nat → Int} (hg : RowsIs ks l n g) {l' : Loc} (h1 : l'.blk = (r id).blk) (h2 : l'.off = (r id).off) (h3 : l'.nil = false) (h4 : l'.foot (r id).blk) : RowsAt w r' l' ks.length n (rowG ks g) := by
  obtain ⟨ho, hz, hlen, hcap, rest, hrest, hbk⟩ := h
  refine rowsAt_of (r := r) (fun hn => by rw [h3] at hn; cases hn) (fun i hi => by rw [h1]; exact h4) fun i hi j v hv => ?_
  have hx := List.getElem?_eq_getElem (l := l) (i := i) (by have := hg.1; omega)
  obtain ⟨u, hu, hd⟩ := denL_at (hg.2 i hi _ hx r) hv
  have hl0 := hlen _ (List.mem_of_getElem? hx)
  have hj := (List.getElem?_eq_some_iff.1 hu).1
  obtain ⟨f1, f2⟩ := flatten_get ks.length l hlen i _ hx j (by omega)
  rw [h1, h2, ho, Nat.zero_add, bk_cells_cell hbk, List.getElem?_append_left (by rw [denL_length]; exact f1), denL_map, List.getElem?_map, f2, hu]
  simp only [Option.map_some, hd]
theorem mapIs_to {r r' : Nat → Loc} {k : IntKind} {z z' : AV} {has has' : Int → Bool} {g g' : Int → AV} {es : List MapEntry} (h : MapIs r k z has g es) (e : MapEq z z' has has' g g') : MapIs r' k z' has' g' es := by
  obtain ⟨e1, e2, e3, e4⟩ := e
  have c : ∀ v : AV, v.all (fun _ => false) = true → v.den r = v.den r' := den_congr (fun _ hf => by cases hf)
  refine ⟨h.keys, h.once, fun n => (e4 n).2, e2, fun n hn => ?_, fun n hn => ?_⟩
  · rw [← c _ (e4 n).2, ← (e4 n).1 r]; exact h.yes n (by rw [e3]; exact hn)
  · rw [← c _ (e4 n).2, ← c _ e2, ← (e4 n).1 r, ← e1 r]; exact h.no n (by rw [e3]; exact hn)
theorem eqB_ok {Q : List Pr} {hJ : List (Nat × Blk)} {r : Nat → Loc} {w : World} {p s : Nat} {c : Cv} {x : Pr} (hf : findP Q p = some ⟨x.p, s, c⟩) {b b' : Blk} {ps : List Prop} (h : eqB Q c b b' = some ps) (ha : allE ps) (hb : BRep r s w b) :
    BRep (locP Q hJ r) p w b' ∧ (∀ k, Foot (locP Q hJ r) p b' k → Foot r s b k) ∧ (b'.own = true → b.own = true) := by
  have Ls : c = .same → locP Q hJ r p = r s := by intro e; subst e; unfold locP; rw [hf]
  have Ll : c = .lift → locP Q hJ r p = liftL (r s) := by intro e; subst e; unfold locP; rw [hf]
  unfold eqB at h
  split at h
  · -- cells
    split at h <;> (try (cases h; done))
    rename_i c0 z0 t0
    have L := Ls rfl
    have z0 := Nat.eq_of_beq_eq_true z0
    have t0 := Nat.eq_of_beq_eq_true t0
    subst z0 t0
    refine ⟨?_, ?_, id⟩
    · simp only [BRep] at hb ⊢
      rw [L, ← eqL_den r _ _ _ h ha]; exact hb
    · intro k hk
      have hk : k = (locP Q hJ r p).blk := hk
      rw [L] at hk; exact hk
  · split at h <;> (try (cases h; done))
    rename_i c0 z0 t0
    have L := Ls rfl
    have z0 := Nat.eq_of_beq_eq_true z0
    have t0 := Nat.eq_of_beq_eq_true t0
    subst z0 t0
    refine ⟨?_, ?_, fun h => by cases h⟩
    · simp only [BRep] at hb ⊢
      rw [L, ← eqL_den r _ _ _ h ha]; exact hb
    · intro k hk
      have hk : k = (locP Q hJ r p).blk := hk
      rw [L] at hk; exact hk
  · split at h <;> (try (cases h; done))
    rename_i c0 z0 t0
    have L := Ls rfl
    have z0 := Nat.eq_of_beq_eq_true z0
    have t0 := Nat.eq_of_beq_eq_true t0
    subst z0 t0
    refine ⟨?_, ?_, fun h => by cases h⟩
    · simp only [BRep] at hb ⊢
      rw [L, ← eqL_den r _ _ _ h ha]; exact hb
    · intro k hk
      have hk : k = (locP Q hJ r p).blk := hk
      rw [L] at hk; exact hk
  · -- rowl, rowl
    split at h <;> (try (cases h; done))
    rename_i c0 z0 t0
    have L := Ls rfl
    have z0 := Nat.eq_of_beq_eq_true z0
    have t0 := Nat.eq_of_beq_eq_true t0
    subst z0 t0
    obtain ⟨e1, e2, e3⟩ := eqLL_den (hJ := hJ) r _ _ _ h ha
    refine ⟨?_, ?_, id⟩
    · simp only [BRep] at hb ⊢
      rw [L, ← e1, ← e2]
      exact ⟨hb.1, hb.2.1, e3 _ hb.2.2.1, hb.2.2.2⟩
    · intro k hk
      have hk : k = (locP Q hJ r p).blk := hk
      rw [L] at hk; exact hk
  · -- arr, arr
    split at h <;> (try (cases h; done))
    rename_i c0 z0
    simp only [Option.some.injEq] at h; subst h
    simp only [allE, and_true] at ha
    have L := Ls rfl
    have z0 := Nat.eq_of_beq_eq_true z0
    subst z0
    obtain ⟨rfl, rfl⟩ := ha
    refine ⟨?_, ?_, fun h => by cases h⟩
    · simp only [BRep] at hb ⊢
      rw [L]
      refine ⟨hb.1, hb.2.1, fun i hi => ⟨(hb.2.2 i hi).1, fun j v hv => ?_⟩⟩
      obtain ⟨a1, a2⟩ := (hb.2.2 i hi).2 j v hv
      exact ⟨a1, by rw [a2, den_congr (p := fun _ => false) (r := r) (r' := locP Q hJ r) (fun _ hf => by cases hf) v a1]⟩
    · intro k hk
      have hk : k = (locP Q hJ r p).blk := hk
      rw [L] at hk; exact hk
  · -- rowz, rowz
    rename_i o t ks n g o' t' ks' n' g'
    split at h <;> (try (cases h; done))
    rename_i c0 z0 t0 ho
    simp only [Option.some.injEq] at h; subst h
    simp only [allE, and_true] at ha
    have L := Ls rfl
    have z0 := ksB_eq z0
    have t0 := Nat.eq_of_beq_eq_true t0
    subst z0 t0
    have hb0 : RowzR r s w t ks.length n (rowG ks g) := hb
    refine ⟨?_, fun k hk => ?_, fun h => ?_⟩
    · show RowzR (locP Q hJ r) p w t ks.length n' (rowG ks g')
      unfold RowzR
      rw [L]
      have hb1 := hb0
      obtain ⟨h1, h2, h3, h4, h5, h6⟩ := hb0
      refine ⟨h1, h2, h3, fun hn => by have := h4 hn; omega, fun i hi => ⟨cellsOf_len _ _ _, cellsOf_flat _ _ _⟩, fun hn => ?_⟩
      have hrow := rowl_take (rowz_rowl hb1 hn) (k := n') (by rw [rowsTo_len]; exact ha.1)
      have hz := rowl_rowz (n := n') (get := rowG ks g') hrow hn (fun k => by rw [h3, hn]; simp) (by rw [List.length_take, rowsTo_len]; omega) (fun i x hx => by
        have hi := (List.getElem?_eq_some_iff.1 hx).1
        simp only [List.length_take, rowsTo_len] at hi
        rw [List.getElem?_take_of_lt (by omega)] at hx
        rw [rowsTo_get (by omega)] at hx
        simp only [Option.some.injEq] at hx; subst hx
        rw [rowsEq_row ha.2 (by omega)]) (fun i hi => cellsOf_flat _ _ _)
      obtain ⟨k1, rest, k2, k3⟩ := hz.2.2.2.2.2 hn
      exact ⟨k1, rest, k2, by rw [k3, denL_congr (p := fun _ => false) (r := r) (r' := locP Q hJ r) (fun _ hf => by cases hf) _ (rowsTo_flat fun i hi => flatR_all (l := rowG ks g' i) (cellsOf_flat _ _ _))]⟩
    · have hk : (locP Q hJ r p).foot k := hk
      rw [L] at hk; exact hk
    · simp only [Blk.own] at h ⊢
      rw [h] at ho; simpa using ho
  · -- rowz, frz
    rename_i o t ks n g ks' n' g'
    split at h <;> (try (cases h; done))
    rename_i c0 z0
    simp only [Option.some.injEq] at h; subst h
    simp only [allE, and_true] at ha
    have L := Ls rfl
    have z0 := ksB_eq z0
    subst z0
    have hb0 : RowzR r s w t ks.length n (rowG ks g) := hb
    refine ⟨?_, fun k hk => ?_, fun h => by cases h⟩
    · simp only [BRep]
      rw [L]
      exact ⟨hb0.2.1, hb.lt rfl, rows_rep (rowz_at hb0) ha.1 ha.2 rfl rfl id (fun _ h => h)⟩
    · have hk : (locP Q hJ r p).foot k := hk
      rw [L] at hk; exact hk
  · -- frz, frz
    split at h <;> (try (cases h; done))
    rename_i c0 z0
    simp only [Option.some.injEq] at h; subst h
    simp only [allE, and_true] at ha
    have L := Ls rfl
    have z0 := ksB_eq z0
    subst z0
    refine ⟨?_, fun k hk => ?_, fun h => by cases h⟩
    · simp only [BRep]
      rw [L]
      exact ⟨hb.1, hb.2.1, rows_rep hb.2.2 ha.1 ha.2 rfl rfl id (fun _ h => h)⟩
    · have hk : (locP Q hJ r p).foot k := hk
      rw [L] at hk; exact hk
  · -- frz2
    rename_i o t ks n ln g o' t' ks' n' ln' g'
    split at h <;> (try (cases h; done))
    rename_i c0 z0 t0 ho
    simp only [Option.some.injEq] at h; subst h
    simp only [allE, and_true] at ha
    have L := Ls rfl
    have z0 := ksB_eq z0
    have t0 := Nat.eq_of_beq_eq_true t0
    subst z0 t0
    obtain ⟨rfl, ha⟩ := ha
    refine ⟨?_, fun k hk => ?_, fun h => ?_⟩
    · simp only [BRep] at hb ⊢
      rw [L]
      obtain ⟨h1, h2, h3, inner, h4, h5, h6, h7⟩ := hb
      refine ⟨h1, h2, h3, inner, h4, h5, fun i hi => ?_, fun hn => ?_⟩
      · obtain ⟨a1, a2⟩ := ha i hi
        obtain ⟨c1, c2, c3⟩ := h6 i hi
        rw [a1] at c3
        exact ⟨c1, c2, rows_rep c3 (Nat.le_refl _) a2 rfl rfl id (fun _ h => h)⟩
      · obtain ⟨k1, rest, k2, k3⟩ := h7 hn
        refine ⟨k1, rest, k2, ?_⟩
        rw [k3]
        congr 3
        apply congrArg (· ++ rest)
        apply List.map_congr_left
        intro i hi
        rw [(ha i (List.mem_range.1 hi)).1]
    · have hk : (locP Q hJ r p).foot k := hk
      rw [L] at hk; exact hk
    · simp only [Blk.own] at h ⊢
      rw [h] at ho; simpa using ho
  · -- rowl, rowz
    rename_i t z l o' t' ks' n' g'
    split at h <;> (try (cases h; done))
    rename_i c0 z0 t0
    simp only [Option.some.injEq] at h; subst h
    simp only [allE, and_true] at ha
    have L := Ll rfl
    have z0 := Nat.eq_of_beq_eq_true z0
    have t0 := Nat.eq_of_beq_eq_true t0
    subst z0 t0
    refine ⟨?_, fun k hk => ?_, fun _ => rfl⟩
    · show RowzR (locP Q hJ r) p w t ks'.length n' (rowG ks' g')
      unfold RowzR
      rw [L]
      refine ⟨hb.1, hb.2.1, fun k => ?_, fun hn => (by cases hn), fun i hi => ⟨cellsOf_len _ _ _, cellsOf_flat _ _ _⟩, fun _ => ?_⟩
      · simp [liftL]
      · have hrow := rowl_take hb ha.1
        obtain ⟨k0, k1, k2, k3, rest, k4, k5⟩ := hrow
        have hlen : (l.take n').length = n' := by rw [List.length_take]; have := ha.1; omega
        refine ⟨by rw [hlen] at k3; exact k3, rest, by rw [hlen] at k4; exact k4, ?_⟩
        show bk w (r s).blk = _
        rw [k5]
        have e1 : AV.denL r (l.take n').flatten = AV.denL r (rowsTo n' (rowG ks' g')).flatten := by
          apply flat_congr
          apply List.ext_getElem?
          intro i
          rw [List.getElem?_map, List.getElem?_map]
          rcases Nat.lt_or_ge i n' with hi | hi
          · have hx := List.getElem?_eq_getElem (l := l) (i := i) (by have := ha.1; omega)
            rw [List.getElem?_take_of_lt hi, rowsTo_get hi, hx]
            simp only [Option.map_some, ha.2 i hi _ hx r]
          · rw [List.getElem?_eq_none (by omega), List.getElem?_eq_none (by rw [rowsTo_len]; exact hi)]
        rw [e1, denL_congr (p := fun _ => false) (r := r) (r' := locP Q hJ r) (fun _ hf => by cases hf) _ (rowsTo_flat fun i hi => flatR_all (l := rowG ks' g' i) (cellsOf_flat _ _ _))]
    · have hk : (locP Q hJ r p).foot k := hk
      rw [L] at hk; exact hk
  · -- rowl, frz
    split at h <;> (try (cases h; done))
    rename_i c0 z0
    simp only [Option.some.injEq] at h; subst h
    simp only [allE, and_true] at ha
    have L := Ll rfl
    have z0 := Nat.eq_of_beq_eq_true z0
    subst z0
    refine ⟨?_, fun k hk => ?_, fun h => by cases h⟩
    · simp only [BRep]
      rw [L]
      exact ⟨hb.2.1, fun k hk => hb.lt rfl k hk, rowl_at hb ha (l' := liftL (r s)) rfl rfl rfl rfl⟩
    · have hk : (locP Q hJ r p).foot k := hk
      rw [L] at hk; exact hk
  · -- rowlR, frz
    split at h <;> (try (cases h; done))
    rename_i c0 z0
    simp only [Option.some.injEq] at h; subst h
    simp only [allE, and_true] at ha
    have L := Ll rfl
    have z0 := Nat.eq_of_beq_eq_true z0
    subst z0
    refine ⟨?_, fun k hk => ?_, fun h => by cases h⟩
    · simp only [BRep]
      rw [L]
      exact ⟨hb.2.1, fun k hk => hb.lt rfl k hk, rowl_at (hb.peel) ha (l' := liftL (r s)) rfl rfl rfl rfl⟩
    · have hk : (locP Q hJ r p).foot k := hk
      rw [L] at hk; exact hk
  · -- arr, frz
    rename_i z n g ks' n' g'
    split at h <;> (try (cases h; done))
    rename_i c0 z0
    simp only [Option.some.injEq] at h; subst h
    simp only [allE, and_true] at ha
    have L := Ll rfl
    have z0 := Nat.eq_of_beq_eq_true z0
    subst z0
    refine ⟨?_, fun k hk => ?_, fun h => by cases h⟩
    · simp only [BRep] at hb ⊢
      rw [L]
      refine ⟨hb.1, fun k hk => (by have hk : k = (r s).blk := hk; rw [hk]; exact hb.2.1), rowsAt_of (r := r) (fun hn => (by cases hn)) (fun i hi => rfl) fun i hi j v hv => ?_⟩
      obtain ⟨u, hu, hd⟩ := denL_at (ha.2 i hi r) hv
      obtain ⟨_, b2⟩ := hb.2.2 i (by have := ha.1; omega)
      show w.cell? ⟨(r s).blk, (r s).off + i * _ + j, none⟩ = _
      rw [(b2 j u hu).2, hd]
    · have hk : (locP Q hJ r p).foot k := hk
      rw [L] at hk; exact hk
  · -- mp, mp
    split at h <;> (try (cases h; done))
    simp only [Option.some.injEq] at h; subst h
    simp only [allE, and_true] at ha
    obtain ⟨rfl, rfl⟩ := ha
    have L := Ls rfl
    refine ⟨?_, fun k hk => ?_, id⟩
    · simp only [BRep] at hb ⊢
      rw [L]; exact hb
    · have hk : k = (locP Q hJ r p).blk := hk
      rw [L] at hk; exact hk
  · -- mp, mpf
    split at h <;> (try (cases h; done))
    simp only [Option.some.injEq] at h; subst h
    simp only [allE, and_true] at ha
    obtain ⟨rfl, m1, m2, m3⟩ := ha
    have L := Ls rfl
    refine ⟨?_, fun k hk => ?_, fun _ => rfl⟩
    · simp only [BRep] at hb ⊢
      rw [L]
      exact ⟨[], _, hb, ⟨by simp, by simp, fun n => (m3 n).2, m1, fun n hn => (by rw [m2 n] at hn; cases hn), fun n _ => ⟨rfl, (m3 n).1 _⟩⟩⟩
    · have hk : k = (locP Q hJ r p).blk := hk
      rw [L] at hk; exact hk
  · -- mpf, mpf
    split at h <;> (try (cases h; done))
    rename_i c0 k0
    have k0 := beq_iff_eq.1 k0
    subst k0
    simp only [Option.some.injEq] at h; subst h
    simp only [allE, and_true] at ha
    have L := Ls rfl
    refine ⟨?_, fun k hk => ?_, fun _ => rfl⟩
    · simp only [BRep] at hb ⊢
      rw [L]
      obtain ⟨es, cl, h1, h2⟩ := hb
      exact ⟨es, cl, h1, mapIs_to h2 ha⟩
    · have hk : k = (locP Q hJ r p).blk := hk
      rw [L] at hk; exact hk
  · -- lp
    split at h <;> (try (cases h; done))
    rename_i c0 qs hq
    simp only [Option.some.injEq] at h; subst h
    simp only [allE] at ha
    obtain ⟨rfl, rfl, rfl, rfl, rfl, ha⟩ := ha
    have L := Ls rfl
    refine ⟨?_, fun k hk => ?_, fun _ => rfl⟩
    · simp only [BRep] at hb ⊢
      rw [L, ← eqL_den r _ _ _ hq ha]; exact hb
    · have hk : k = (locP Q hJ r p).blk := hk
      rw [L] at hk; exact hk
  · cases h
theorem eqG_ok {Q : List Pr} {hJ : List (Nat × Blk)} {r : Nat → Loc} {w : World} {p : Nat} {b' : Blk} {ps : List Prop} (h : eqG b' = some ps) (ha : allE ps) (hl : locP Q hJ r p = Loc.none (zOf (some b'))) :
    BRep (locP Q hJ r) p w b' ∧ ∀ k, ¬ Foot (locP Q hJ r) p b' k := by
  unfold eqG at h
  split at h <;> (try (cases h; done))
  · simp only [Option.some.injEq] at h; subst h
    simp only [allE, and_true] at ha
    subst ha
    refine ⟨?_, fun k hk => ?_⟩
    · simp only [BRep, RowzR, hl, Loc.none, zOf]
      refine ⟨trivial, trivial, fun k => by simp, fun _ => trivial, fun i hi => by omega, fun h => by cases h⟩
    · have hk : (locP Q hJ r p).foot k := hk
      rw [hl] at hk; exact hk
  · simp only [Option.some.injEq] at h; subst h
    simp only [allE, and_true] at ha
    subst ha
    refine ⟨?_, fun k hk => ?_⟩
    · simp only [BRep, hl, Loc.none, zOf]
      exact ⟨trivial, fun k hk => hk.elim, fun _ => rfl, fun i hi => by omega⟩
    · have hk : (locP Q hJ r p).foot k := hk
      rw [hl] at hk; exact hk
  · simp only [Option.some.injEq] at h; subst h
    simp only [allE, and_true] at ha
    subst ha
    refine ⟨?_, fun k hk => ?_⟩
    · simp only [BRep, hl, Loc.none, zOf]
      exact ⟨trivial, trivial, fun _ => trivial, fun _ => Loc.none 0, fun k => ⟨fun h => h.elim, fun h => by rcases h with ⟨h, _⟩ | ⟨i, hi, _⟩ <;> first | (cases h; done) | omega⟩, fun k hk => hk.elim, fun i hi => by omega, fun h => by cases h⟩
    · have hk : (locP Q hJ r p).foot k := hk
      rw [hl] at hk; exact hk
end Go.SX
/- A state within a pattern; loops by invariants, told ahead where they begin and how they end. -/
namespace Go.SX
open Go Go.RowKit Go.Proofs.Ytdaanchagjamfaa

theorem findP_p : ∀ {Q : List Pr} {i : Nat} {x : Pr}, findP Q i = some x → x.p = i
  | [], _, _, h => by cases h
  | y :: l, i, x, h => by
    simp only [findP] at h
    split at h
    · rename_i hb
      simp only [Option.some.injEq] at h; subst h
      exact Nat.eq_of_beq_eq_true hb
    · exact findP_p h
theorem findP_mem : ∀ {Q : List Pr} {i : Nat} {x : Pr}, findP Q i = some x → x ∈ Q
  | [], _, _, h => by cases h
  | y :: l, i, x, h => by
    simp only [findP] at h
    split at h
    · simp only [Option.some.injEq] at h; subst h; exact List.mem_cons_self
    · exact List.mem_cons_of_mem _ (findP_mem h)
theorem lowP_spec {n0 : Nat} : ∀ {Q : List Pr}, lowP n0 Q = true → ∀ x ∈ Q, x.p < n0 → x.c = .same ∧ x.p = x.s
  | [], _, x, hx, _ => by cases hx
  | y :: l, h, x, hx, hlt => by
    simp only [lowP, Bool.and_eq_true] at h
    rcases List.mem_cons.1 hx with rfl | hx
    · have h1 := h.1
      have e : Nat.blt x.p n0 = true := by rw [Nat.blt_eq]; exact hlt
      rw [e] at h1
      simp only at h1
      split at h1
      · rename_i hc; exact ⟨hc, Nat.eq_of_beq_eq_true h1⟩
      · cases h1
    · exact lowP_spec h.2 x hx hlt
theorem eqH_mem {Q : List Pr} {h : List (Nat × Blk)} : ∀ {l : List (Nat × Blk)} {ps : List Prop}, eqH Q h l = some ps → allE ps → ∀ p ∈ l,
    (∃ x, findP Q p.1 = some x ∧ x.c = .ghost ∧ ∃ qs, eqG p.2 = some qs ∧ allE qs) ∨ (∃ x b', findP Q p.1 = some x ∧ x.c ≠ .ghost ∧ look h x.s = some b' ∧ ∃ qs, eqB Q x.c b' p.2 = some qs ∧ allE qs)
  | [], _, _, _, p, hp => by cases hp
  | (i, b) :: l, ps, he, ha, p, hp => by
    simp only [eqH] at he
    split at he <;> (try (cases he; done))
    · rename_i pp ss hf
      split at he <;> (try (cases he; done))
      rename_i q1 q2 h1 h2
      simp only [Option.some.injEq] at he; subst he
      obtain ⟨a1, a2⟩ := allE_append.1 ha
      rcases List.mem_cons.1 hp with rfl | hp
      · exact .inl ⟨_, hf, rfl, q1, h1, a1⟩
      · exact eqH_mem h2 a2 p hp
    · rename_i pp ss cc hng hf
      split at he <;> (try (cases he; done))
      rename_i b' hb'
      split at he <;> (try (cases he; done))
      rename_i q1 q2 h1 h2
      simp only [Option.some.injEq] at he; subst he
      obtain ⟨a1, a2⟩ := allE_append.1 ha
      rcases List.mem_cons.1 hp with rfl | hp
      · exact .inr ⟨_, b', hf, fun e => hng e, hb', q1, h1, a1⟩
      · exact eqH_mem h2 a2 p hp
theorem injP_spec {Q : List Pr} : ∀ {l : List (Nat × Blk)}, injP Q l = true → ∀ p ∈ l, ∀ p' ∈ l, p.1 ≠ p'.1 → ∀ x x', findP Q p.1 = some x → findP Q p'.1 = some x' → x.c ≠ .ghost → x'.c ≠ .ghost → x.s ≠ x'.s
  | [], _, p, hp, _, _, _, _, _, _, _, _, _ => by cases hp
  | (i, b) :: l, h, p, hp, p', hp', hne, x, x', hx, hx', g, g' => by
    simp only [injP, Bool.and_eq_true] at h
    have one : ∀ (i : Nat) (y : Pr), findP Q i = some y → y.c ≠ .ghost → (match findP Q i with
        | some ⟨_, s, c⟩ => l.all fun p => match findP Q p.1 with
          | some ⟨_, s', c'⟩ => (match c, c' with
            | .ghost, _ => true
            | _, .ghost => true
            | _, _ => !(Nat.beq s s'))
          | none => false
        | none => false) = true → ∀ z ∈ l, ∀ y', findP Q z.1 = some y' → y'.c ≠ .ghost → y.s ≠ y'.s := by
      intro i y hy hg h1 z hz y' hy' hg' e
      rw [hy] at h1
      simp only [List.all_eq_true] at h1
      have := h1 z hz
      rw [hy'] at this
      obtain ⟨_, s, c⟩ := y
      obtain ⟨_, s', c'⟩ := y'
      simp only at e hg hg' this
      subst e
      cases c <;> cases c' <;> simp_all
    rcases List.mem_cons.1 hp with rfl | hp <;> rcases List.mem_cons.1 hp' with rfl | hp'
    · exact absurd rfl hne
    · exact one i x hx g h.1 p' hp' x' hx' g'
    · exact fun e => one i x' hx' g' h.1 p hp x hx g e.symm
    · exact injP_spec h.2 p hp p' hp' hne x x' hx hx' g g'
theorem denL_mem {r r' : Nat → Loc} {f : Nat → AV} : ∀ {live : List (Nat × AV)}, AV.denL r (live.map fun p => f p.1) = AV.denL r' (live.map (·.2)) → ∀ p ∈ live, (f p.1).den r = p.2.den r'
  | [], _, p, hp => by cases hp
  | x :: l, h, p, hp => by
    simp only [List.map_cons, AV.denL, List.cons.injEq] at h
    rcases List.mem_cons.1 hp with rfl | hp
    · exact h.1
    · exact denL_mem h.2 p hp
/-- A state that keeps to a pattern is one of the pattern's. -/
theorem Inv.subW {G : Ctx} {n0 : Nat} {ls : List Nat} {st : St} {J : JSt} {a : Act} {w : World} {r : Nat → Loc} (hI : Inv G st.tm.length r (getT st.tm) (look st.hp) a w) (hs : SubOk n0 ls st.tm.length (ls.map (getT st.tm)) st.hp J) (hG : G.n ≤ n0) : ∃ g, Rep G J.nid (J.inst g) a w := by
  obtain ⟨ps0, hsub, hall⟩ := hs.eqs
  unfold subE at hsub
  simp only at hsub
  generalize unif n0 _ _ _ _ = Q at hsub
  split at hsub <;> (try (cases hsub; done))
  rename_i ps qs e1 e2 hck
  simp only [Option.some.injEq] at hsub; subst hsub
  obtain ⟨ha1, ha2⟩ := allE_append.1 hall
  simp only [Bool.and_eq_true] at hck
  obtain ⟨hsc, hinj, hlow, hnd, _⟩ := hck
  unfold scopeJ at hsc
  simp only [List.all_eq_true, Bool.and_eq_true, decide_eq_true_eq] at hsc
  have hz : ls.map (getT st.tm) = J.live.map (fun p => getT st.tm p.1) := by rw [← hs.slots, List.map_map]; rfl
  have hden := eqL_den (hJ := J.hp) r _ _ _ e1 ha1
  rw [hz] at hden
  have hsame := denL_mem hden
  have hget : ∀ t, getT (J.inst fun t => a.tmps.getD t undef).tm t = if t < J.len then (match lkS J.live t with | some v => v | none => .raw (a.tmps.getD t undef)) else .tup [] := by
    intro t
    have := instT_get (fun t => a.tmps.getD t undef) J.live J.len 0 t
    rw [Nat.zero_add] at this
    exact this
  have hblk : ∀ id b, look J.hp id = some b → (BRep (locP Q J.hp r) id w b ∧ ∀ k, ¬ Foot (locP Q J.hp r) id b k) ∨
      ∃ x b', findP Q id = some x ∧ x.c ≠ .ghost ∧ look st.hp x.s = some b' ∧ BRep (locP Q J.hp r) id w b ∧ (∀ k, Foot (locP Q J.hp r) id b k → Foot r x.s b' k) ∧ (b.own = true → b'.own = true) := by
    intro id b hb
    rcases eqH_mem e2 ha2 _ (look_memb hb) with ⟨x, h1, h2, q1, h3, h4⟩ | ⟨x, b', h1, h2, h3, q1, h4, h5⟩
    · refine .inl (eqG_ok h3 h4 ?_)
      unfold locP
      rw [h1]
      obtain ⟨_, s, c⟩ := x
      simp only at h2; subst h2
      simp only
      rw [hb]
    · have := eqB_ok (hJ := J.hp) (r := r) (w := w) (x := x) h1 h4 h5 (hI.rep _ _ h3)
      exact .inr ⟨x, b', h1, h2, h3, this.1, this.2.1, this.2.2⟩
  refine ⟨fun t => a.tmps.getD t undef, ⟨locP Q J.hp r, ?_⟩, ?_⟩
  · refine ⟨?_, Dfr.none ?_, fun t => ?_, fun id b hb => ?_, fun id b hb => look_live hb, fun id id' b b' hb hb' hne ho k hk hk' => ?_, fun id hid => ?_, hI.fr, fun id b hb ho k hk => ?_⟩
    · rw [hI.size, hs.len]; exact (instT_len _ _ _ _).symm
    · obtain ⟨ds, d1, _, d3⟩ := hI.defers
      cases ds with
      | nil => exact d1
      | cons x ds => exact (noDfr_spec hnd (d3 x (by simp)).2.1).elim
    · rw [hget]
      split
      · split
        · rename_i v hv
          rw [hI.tm t]
          exact hsame _ (lkS_mem hv)
        · rfl
      · rename_i hlt
        rw [hI.tm t]
        have : getT st.tm t = .tup [] := by unfold getT; rw [List.getElem?_eq_none (by rw [hs.len]; omega)]; rfl
        rw [this]; rfl
    · rcases hblk id b hb with h1 | ⟨_, _, _, _, _, h1, _⟩
      · exact h1.1
      · exact h1
    · rcases hblk id b hb with h1 | ⟨x, c, h1, h2, h3, _, h4, h5⟩
      · exact h1.2 k hk
      · rcases hblk id' b' hb' with g1 | ⟨x', c', g1, g2, g3, _, g4, _⟩
        · exact g1.2 k hk'
        · exact hI.sep _ _ c c' h3 g3 (injP_spec hinj _ (look_memb hb) _ (look_memb hb') hne x x' h1 g1 h2 g2) (h5 ho) k (h4 k hk) (g4 k hk')
    · rw [← hI.ext id hid]
      unfold locP
      cases hf : findP Q id with
      | none => rfl
      | some x =>
        have hp := findP_p hf
        obtain ⟨l1, l2⟩ := lowP_spec hlow x (findP_mem hf) (by rw [hp]; omega)
        obtain ⟨p, s, c⟩ := x
        simp only at hp l1 l2
        subst l1; subst l2; subst hp; rfl
    · rcases hblk id b hb with h1 | ⟨x, c, h1, h2, h3, _, h4, h5⟩
      · exact absurd hk (h1.2 k)
      · exact hI.own _ c h3 (h5 ho) k (h4 k hk)
  · refine ⟨fun t => ?_, fun id b hb => (hsc.2 _ (look_memb hb)).1, fun id b hb => (hsc.2 _ (look_memb hb)).2⟩
    rw [hget]
    split
    · split
      · rename_i v hv; exact hsc.1 _ (lkS_mem hv)
      · rfl
    · rfl
theorem Rep.subW {G : Ctx} {n n0 : Nat} {ls : List Nat} {st : St} {J : JSt} {a : Act} {w : World} (h : Rep G n st a w) (hs : SubOk n0 ls st.tm.length (ls.map (getT st.tm)) st.hp J) (hG : G.n ≤ n0) : ∃ g, Rep G J.nid (J.inst g) a w := by
  obtain ⟨⟨r, hI⟩, _⟩ := h
  exact hI.subW hs hG

/-! ### Loops -/
/-- What is reached from values, so many steps far. -/
def heapOf (h : List (Nat × Blk)) : List Nat → List (Nat × Blk)
  | [] => []
  | i :: l => match look h i with
    | some b => (i, b) :: heapOf h l
    | none => heapOf h l
theorem heapOf_look {h : List (Nat × Blk)} : ∀ {l : List Nat} {id : Nat} {b : Blk}, look (heapOf h l) id = some b → look h id = some b
  | [], _, _, e => by cases e
  | i :: l, id, b, e => by
    simp only [heapOf] at e
    split at e
    · rename_i c hc
      simp only [look_cons] at e
      split at e
      · rename_i hi
        have hi : i = id := by simpa using hi
        subst hi
        rw [look_live hc] at e
        simp only [if_true, Option.some.injEq] at e
        rw [← e]; exact hc
      · exact heapOf_look e
    · exact heapOf_look e
def nearH (ids : List Nat) (vals : List AV) (h : List (Nat × Blk)) : List (Nat × Blk) := heapOf h (reach 0 h 4 (addTo (AV.idsFromL 0 vals) ids))
theorem nearH_look {ids : List Nat} {vals : List AV} {h : List (Nat × Blk)} {id : Nat} {b : Blk} (e : look (nearH ids vals h) id = some b) : look h id = some b := by
  unfold nearH at e
  exact heapOf_look e
def kindE : Ex → AV
  | .normal => .nilp
  | .exit id => .ptr id 0 0
  | .ret => .nili
def leafW (ids : List Nat) (ls : Ex → List Nat) (e : Ex) (st : St) : Tree := match noDfr st.hp with
  | true => .leaf (.tup (kindE e :: .ptr st.tm.length 0 0 :: (ls e).map (getT st.tm))) (nearH ids ((ls e).map (getT st.tm)) st.hp)
  | false => .fail "deferred"
theorem leafW_den {ids : List Nat} {ls : Ex → List Nat} {Cont : Nat → List AV → List (Nat × Blk) → Prop} {Out : Ex → Nat → List AV → List (Nat × Blk) → Prop} {e : Ex} {st : St} (h : (leafW ids ls e st).den (LoopLeaf Cont Out)) :
    noDfr st.hp = true ∧ ((e = .normal ∧ Cont st.tm.length ((ls e).map (getT st.tm)) (nearH ids ((ls e).map (getT st.tm)) st.hp)) ∨ (e ≠ .normal ∧ Out e st.tm.length ((ls e).map (getT st.tm)) (nearH ids ((ls e).map (getT st.tm)) st.hp))) := by
  unfold leafW at h
  split at h
  · rename_i hd
    refine ⟨hd, ?_⟩
    cases e with
    | normal => exact .inl ⟨rfl, h⟩
    | exit id => exact .inr ⟨by simp, h⟩
    | ret => exact .inr ⟨by simp, h⟩
  · exact h.elim

theorem Rep.near {G : Ctx} {n : Nat} {st : St} {a : Act} {w : World} {h' : List (Nat × Blk)} (hs : ∀ id b, look h' id = some b → look st.hp id = some b) (hd : noDfr st.hp = true) (h : Rep G n st a w) : Rep G n { st with hp := h' } a w := by
  obtain ⟨⟨r, hI⟩, hS⟩ := h
  refine ⟨⟨r, hI.size, Dfr.none ?_, hI.tm, fun id b hb => hI.rep id b (hs id b hb), fun id b hb => look_live hb, fun id id' b b' h1 h2 => hI.sep id id' b b' (hs _ _ h1) (hs _ _ h2), hI.ext, hI.fr, fun id b hb => hI.own id b (hs id b hb)⟩, hS.tm, fun id b hb => hS.out id b (hs id b hb), fun id b hb => hS.blk id b (hs id b hb)⟩
  obtain ⟨ds, d1, _, d3⟩ := hI.defers
  cases ds with
  | nil => exact d1
  | cons x ds => exact (noDfr_spec hd (d3 x (by simp)).2.1).elim
section
variable {σ : Type} (I : σ → JSt) (pre : σ → Prop) (μ : σ → Nat) (R : σ → Ex → JSt → Prop) (n0 : Nat) (ls : Ex → List Nat) (ids : List Nat)
def GoesW (s : σ) (n : Nat) (vs : List AV) (h : List (Nat × Blk)) : Prop := ∃ s', pre s' ∧ μ s' < μ s ∧ (∀ e J, R s' e J → R s e J) ∧ SubOk n0 (ls .normal) n vs h (I s')
def LeavesW (s : σ) (e : Ex) (n : Nat) (vs : List AV) (h : List (Nat × Blk)) : Prop := ∃ J, R s e J ∧ SubOk n0 (ls e) n vs h J
/-- What is to be shown of a round. -/
structure RoundW (E : Env) (H : σ → Hnd) (body : Code) : Prop where
  round : ∀ s g, pre s → DenOk (LoopLeaf (GoesW I pre μ R n0 ls s) (LeavesW R n0 ls s)) (exec E (H s) body ((I s).inst g) (leafW ids ls))
variable {I pre μ R n0 ls ids}
theorem loop_roundsW {E : Env} (hE : E.Sound) {H : σ → Hnd} {G : Ctx} (hG : G.n ≤ n0) {body : Code} (hH : ∀ s, pre s → HndOk E G (H s) body) (hn : ∀ s, pre s → n0 ≤ (I s).nid) (hR : ∀ s e J, R s e J → n0 ≤ J.nid) (hr : RoundW I pre μ R n0 ls ids E H body) {Q : Exit → Act → World → Prop} : ∀ (n : Nat) (s : σ) (g : Nat → Value) (a : Act) (w : World), μ s < n → pre s → Rep G (I s).nid ((I s).inst g) a w →
    (∀ e J g a' w', R s e J → n0 ≤ J.nid → Rep G J.nid (J.inst g) a' w' → Q e.to a' w') → Code.roundsIn (FW G.rd) 0 E.P body Q n a w
  | 0, s, g, a, w, hm, _, _, _ => by omega
  | n + 1, s, g, a, w, hm, hp, hrep, hQ => by
    rw [roundsIn_succ]
    have hh := hH s hp
    have h0 := (hr.round s g hp).den
    generalize H s = Hs at hh h0
    have key : CSound E G body (exec E Hs body) := exec_sound hE hh.call hh.yield body hh.loop
    refine key ((I s).inst g) (leafW ids ls) _ _ a w (Nat.le_trans hG (hn s hp)) h0 hrep ?_
    intro e st' a' w' hn' hden hrep'
    obtain ⟨hd, hden⟩ := leafW_den hden
    have hnear := Rep.near (h' := nearH ids ((ls e).map (getT st'.tm)) st'.hp) (fun id b hb => nearH_look hb) hd hrep'
    rcases hden with ⟨rfl, s', h1, h2, h3, h4⟩ | ⟨hne, J, h1, h2⟩
    · obtain ⟨g', hr'⟩ := Rep.subW hnear h4 hG
      exact loop_roundsW hE hG hH hn hR hr n s' g' a' w' (by omega) h1 hr' (fun e J g a' w' hR => hQ e J g a' w' (h3 e J hR))
    · obtain ⟨g', hr'⟩ := Rep.subW hnear h2 hG
      have := hQ e J g' a' w' h1 (hR _ _ _ h1) hr'
      cases e with
      | normal => exact absurd rfl hne
      | exit id => exact this
      | ret => exact this
end
def askAll : List Prop → Tree → Tree
  | [], t => t
  | p :: l, t => .ask p (askAll l t)
theorem askAll_den {T : AV → List (Nat × Blk) → Prop} {t : Tree} : ∀ {l : List Prop}, (askAll l t).den T → allE l ∧ t.den T
  | [], h => ⟨trivial, h⟩
  | p :: l, h => by
    obtain ⟨h1, h2⟩ := h
    obtain ⟨h3, h4⟩ := askAll_den h2
    exact ⟨⟨h1, h3⟩, h4⟩
/-- How a loop can end: when, where, in which state. -/
def endsT (K : Ex → St → Tree) : List (Prop × Ex × JSt) → Tree
  | [] => .fail "no end"
  | [x] => .asm x.1 (.all fun g => K x.2.1 (x.2.2.inst g))
  | x :: y :: l => .both (.asm x.1 (.all fun g => K x.2.1 (x.2.2.inst g))) (endsT K (y :: l))
theorem endsT_den {K : Ex → St → Tree} {T : AV → List (Nat × Blk) → Prop} : ∀ {l : List (Prop × Ex × JSt)}, (endsT K l).den T → ∀ x ∈ l, x.1 → ∀ g, (K x.2.1 (x.2.2.inst g)).den T
  | [], h, x, hx => by cases hx
  | [y], h, x, hx => by
    simp only [List.mem_singleton] at hx; subst hx; exact h
  | y :: z :: l, h, x, hx => by
    obtain ⟨h1, h2⟩ := h
    rcases List.mem_cons.1 hx with rfl | hx
    · exact h1
    · exact endsT_den h2 x hx
/-- A loop, told ahead: what it begins with, how it ends. -/
def loopT (n0 : Nat) (ids : List Nat) (J0 : JSt) (X : List (Prop × Ex × JSt)) (st : St) (K : Ex → St → Tree) : Tree :=
  match Nat.beq st.tm.length J0.len && noDfr st.hp with
  | true => (match subE n0 ((J0.live.map (·.1)).map (getT st.tm)) (nearH ids ((J0.live.map (·.1)).map (getT st.tm)) st.hp) J0 with
    | some ps => askAll ps (endsT K X)
    | none => .fail "a loop's beginning")
  | false => .fail "a loop's slots"
theorem loopT_ok {σ : Type} {I : σ → JSt} {pre : σ → Prop} {μ : σ → Nat} {R : σ → Ex → JSt → Prop} {n0 : Nat} {ls : Ex → List Nat} {ids ids' : List Nat} {E : Env} (hE : E.Sound) {H : σ → Hnd} {G : Ctx} (hG : G.n ≤ n0) {body : Code} (hH : ∀ s, pre s → HndOk E G (H s) body)
    (hn : ∀ s, pre s → n0 ≤ (I s).nid) (hR : ∀ s e J, R s e J → n0 ≤ J.nid) (hr : RoundW I pre μ R n0 ls ids E H body) {s0 : σ} (hp : pre s0) {X : List (Prop × Ex × JSt)} (hX : ∀ e J, R s0 e J → ∃ x ∈ X, x.1 ∧ x.2.1 = e ∧ x.2.2 = J) :
    CSound E G (.loop body) (loopT n0 ids' (I s0) X) := by
  intro st K T Q a w hn' h hrep hQ
  unfold loopT at h
  split at h
  rotate_left
  · exact h.elim
  rename_i hl
  split at h
  rotate_left
  · exact h.elim
  rename_i ps hps
  simp only [Bool.and_eq_true] at hl
  have hlen := Nat.eq_of_beq_eq_true hl.1
  obtain ⟨ha, hx⟩ := askAll_den h
  have hnear := Rep.near (h' := nearH ids' (((I s0).live.map (·.1)).map (getT st.tm)) st.hp) (fun id b hb => nearH_look hb) hl.2 hrep
  have hso : SubOk n0 ((I s0).live.map (·.1)) st.tm.length (((I s0).live.map (·.1)).map (getT st.tm)) (nearH ids' (((I s0).live.map (·.1)).map (getT st.tm)) st.hp) (I s0) := { slots := rfl, len := hlen, eqs := ⟨ps, hps, ha⟩ }
  obtain ⟨g, hr'⟩ := Rep.subW hnear hso hG
  refine wpIn_loop_rounds (μ s0 + 1) (loop_roundsW hE hG hH hn hR hr _ s0 g a w (Nat.lt_succ_self _) hp hr' ?_)
  intro e J g' a' w' hRe hnJ hrJ
  obtain ⟨x, h1, h2, h3, h4⟩ := hX e J hRe
  have := endsT_den hx x h1 h2 g'
  rw [h3, h4] at this
  exact hQ e (J.inst g') a' w' (Nat.le_trans hG hnJ) this hrJ
end Go.SX
/- Contracts of functions that read blocks of their caller's (captured variables, slices) and hand out plain values. -/
namespace Go.SX
open Go Go.RowKit Go.Proofs.Ytdaanchagjamfaa

/-- b is what the caller knows of a block, b' what the function is told of it. -/
def Blk.viewR (q : Nat → Nat) : Blk → Blk → Prop
  | .cellsR z t l, .cellsR z' t' l' => z = z' ∧ t = t' ∧ AV.sameRL q l l'
  | .rowlR _ z l, .arr z' n g => z = z' ∧ n = l.length ∧ l.all (AV.allL fun _ => false) = true ∧ ∀ i, i < n → l[i]? = some (g i)
  | .arr z n g, .arr z' n' g' => z = z' ∧ n = n' ∧ g = g'
  | _, _ => False
theorem flatten_at {l : List (List AV)} {z : Nat} (hz : ∀ x ∈ l, x.length = z) : ∀ {i j : Nat} {x : List AV}, l[i]? = some x → j < z → l.flatten[i * z + j]? = x[j]? := by
  induction l with
  | nil => intro i j x h; simp at h
  | cons y l ih =>
    intro i j x h hj
    have hy := hz y (by simp)
    cases i with
    | zero =>
      simp only [List.getElem?_cons_zero, Option.some.injEq] at h; subst h
      rw [List.flatten_cons, List.getElem?_append_left (by rw [hy]; omega), Nat.zero_mul, Nat.zero_add]
    | succ i =>
      rw [List.flatten_cons, List.getElem?_append_right (by rw [hy, Nat.succ_mul]; omega)]
      have := ih (fun x hx => hz x (by simp [hx])) (i := i) (j := j) (by simpa using h) hj
      rw [← this, hy, Nat.succ_mul]
      congr 1; omega
theorem Blk.viewR_rep {q : Nat → Nat} {r : Nat → Loc} {id : Nat} {w : World} : ∀ {b b' : Blk}, b.viewR q b' → BRep r (q id) w b → BRep (fun i => r (q i)) id w b'
  | .cellsR z t l, b', h, hb => by
    cases b' <;> simp only [Blk.viewR] at h
    obtain ⟨rfl, rfl, h⟩ := h
    simp only [BRep] at hb ⊢
    rw [← sameR_denL r _ _ h]; exact hb
  | .rowlR t z l, b', h, hb => by
    cases b' <;> simp only [Blk.viewR] at h
    obtain ⟨rfl, rfl, ha, hg⟩ := h
    obtain ⟨h1, h2, h3, h4, rest, h5, h6⟩ := hb
    refine ⟨h2, bk_lt h6, fun i hi => ?_⟩
    have hgi := hg i hi
    have hmem := List.mem_of_getElem? hgi
    refine ⟨h3 _ hmem, fun j v hv => ?_⟩
    have hjz : j < z := by have := (List.getElem?_eq_some_iff.1 hv).1; rw [h3 _ hmem] at this; exact this
    have hall := List.all_eq_true.1 ha _ hmem
    have hvm := List.mem_of_getElem? hv
    have hva := allL_mem hall v hvm
    refine ⟨hva, ?_⟩
    have hf := flatten_at h3 hgi hjz
    rw [hv] at hf
    have hoff : (r (q id)).off = 0 := h1
    show w.cell? ⟨(r (q id)).blk, (r (q id)).off + i * z + j, none⟩ = some (v.den fun i => r (q i))
    unfold bk at h6
    rw [hoff, Nat.zero_add]
    have hlt : i * z + j < (AV.denL r l.flatten).length := by
      rw [denL_length]; exact (List.getElem?_eq_some_iff.1 hf).1
    have hcell : w.cell? ⟨(r (q id)).blk, i * z + j, none⟩ = (AV.denL r l.flatten ++ rest).toArray[i * z + j]? := by simp [World.cell?, h6]
    rw [hcell, List.getElem?_toArray, List.getElem?_append_left hlt, denL_map, List.getElem?_map, hf]
    simp only [Option.map_some, Option.some.injEq]
    exact den_congr (p := fun _ => false) (fun _ hf => by cases hf) v hva
  | .arr z n g, b', h, hb => by
    cases b' <;> simp only [Blk.viewR] at h
    obtain ⟨rfl, rfl, rfl⟩ := h
    simp only [BRep] at hb ⊢
    refine ⟨hb.1, hb.2.1, fun i hi => ⟨(hb.2.2 i hi).1, fun j v hv => ?_⟩⟩
    obtain ⟨h1, h2⟩ := (hb.2.2 i hi).2 j v hv
    refine ⟨h1, ?_⟩
    rw [h2, den_congr (p := fun _ => false) (r := r) (r' := fun i => r (q i)) (fun _ hf => by cases hf) _ h1]
  | .cells .., b', h, _ => by cases b' <;> simp only [Blk.viewR] at h
  | .rowl .., b', h, _ => by cases b' <;> simp only [Blk.viewR] at h
  | .gone, b', h, _ => by cases b' <;> simp only [Blk.viewR] at h
  | .lp .., b', h, _ => by cases b' <;> simp only [Blk.viewR] at h
  | .dfr, b', h, _ => by cases b' <;> simp only [Blk.viewR] at h
  | .mp .., b', h, _ => by cases b' <;> simp only [Blk.viewR] at h
def subW (q : Nat → Nat) (h : List (Nat × Blk)) : List (Nat × Blk) → Prop
  | [] => True
  | (id, b) :: l => (∃ b', look h (q id) = some b' ∧ b'.viewR q b) ∧ subW q h l
theorem subW_mem {q : Nat → Nat} {h : List (Nat × Blk)} : ∀ {l : List (Nat × Blk)}, subW q h l → ∀ p ∈ l, ∃ b', look h (q p.1) = some b' ∧ b'.viewR q p.2
  | [], _, p, hp => by cases hp
  | (id, b) :: l, hs, p, hp => by
    simp only [subW] at hs
    rcases List.mem_cons.1 hp with rfl | hp
    · exact hs.1
    · exact subW_mem hs.2 p hp
def viewOk (n : Nat) (args : List AV) (hp : List (Nat × Blk)) : Bool := AV.allL (· < n) args && hp.all fun p => decide (p.1 < n) && p.2.all (· < n) && !p.2.own

/-- What a function reads, and what it comes to. -/
abbrev VF := List AV → List (Nat × Blk) → Option (Bool × AV)
def viewFC (V : VF) : FC := fun args _ all => (all, fun blks => match V args (zipH Blk.ro all blks) with
  | some (p, v) => some ⟨false, p, v.setK false, []⟩
  | none => none)
theorem view_hinv {q : Nat → Nat} {n : Nat} {args' : List AV} {hp' : List (Nat × Blk)} (hs : viewOk n args' hp' = true) {r : Nat → Loc} {w : World} (h : ∀ p ∈ hp', BRep (fun i => r (q i)) p.1 w p.2) :
    HInv ⟨w, fun _ => False, n, fun i => r (q i), none⟩ n (fun i => r (q i)) hp' w ∧ AV.allL (· < n) args' = true := by
  unfold viewOk at hs
  simp only [Bool.and_eq_true, List.all_eq_true, decide_eq_true_eq, Bool.not_eq_true'] at hs
  refine ⟨⟨fun id b hb => h _ (look_memb hb), fun id id' b b' hb _ _ ho => ?_, fun _ _ => rfl, Fr.refl _ _, fun id b hb ho => ?_, fun id b hb => (hs.2 _ (look_memb hb)).1.1, fun id b hb => (hs.2 _ (look_memb hb)).1.2⟩, hs.1⟩
  · rw [(hs.2 _ (look_memb hb)).2] at ho; cases ho
  · rw [(hs.2 _ (look_memb hb)).2] at ho; cases ho
theorem fn_view {E : Env} (hE : E.Sound) {H : Hnd} {f : FuncId} {fn : Func} {c : Code} (hf : E.P.funcs[f]? = some fn) (hb : fn.body = some c) (hgo : goFn E.P f = true) {n : Nat} (hl : ∀ G, G.rd = none → G.n = n → HndOk E G H c) {V : VF}
    (hV : ∀ args hp v, V args hp = some (true, v) → ∃ q args' hp', AV.sameRL q args args' ∧ subW q hp hp' ∧ viewOk n args' hp' = true ∧ (execFn E H false fn args' hp' n).den fun u _ => ∀ r r', u.den r' = v.den r) : FSound E.P f (viewFC V) := by
  refine ⟨hgo, fun args nid all r w lk blks eff hH _ hv he hp => ?_⟩
  simp only [viewFC] at hv he
  split at he <;> (try (cases he; done))
  rename_i p v hVa
  simp only [Option.some.injEq] at he; subst he
  simp only at hp; subst hp
  obtain ⟨q, args', hp', h1, h2, h3, h4⟩ := hV _ _ v hVa
  obtain ⟨hI, ha⟩ := view_hinv (q := q) (r := r) (w := w) h3 (fun p hp => by
    obtain ⟨b', k1, k2⟩ := subW_mem h2 p hp
    obtain ⟨b, k3, k4⟩ := zipH_mem hv _ (look_memb k1)
    have k4 : b' = b.ro := k4
    refine Blk.viewR_rep k2 ?_
    rw [k4]
    exact (hH.rep _ b k3).ro)
  have := fn_calls hE hf hb (G := ⟨w, fun _ => False, n, fun i => r (q i), none⟩) (hl _ rfl rfl) (args := args') (hp := hp') (nid := n) (r := fun i => r (q i)) (w := w) rfl hI ha h4
  rw [← sameR_denL r _ _ h1] at this
  refine this.mono fun e w' ⟨u, h', nid', r', hT, he, _, hI, _⟩ => ⟨r, by rw [he, hT r r']; exact congrArg _ (den_setK r false v).symm, ?_⟩
  exact ⟨fun _ _ => rfl, by simp, ⟨hI.fr.os, hI.fr.tape, hI.fr.output, hI.fr.size, fun k hk _ => hI.fr.block k hk (by simp)⟩, by simp, by simp, by simp⟩
/-- A law, run from what came in. -/
theorem law_run {E : Env} (hE : E.Sound) {H : Hnd} {f : FuncId} {fn : Func} {c : Code} (hf : E.P.funcs[f]? = some fn) (hb : fn.body = some c) (hl : ∀ G, G.rd = none → HndOk E G H c) {n : Nat} {args : List AV} {hp : List (Nat × Blk)} {r : Nat → Loc} {w : World} {u : Value}
    (hs : viewOk n args hp = true) (h : ∀ p ∈ hp, BRep r p.1 w p.2) (ht : (execFn E H false fn args hp n).den fun v _ => ∀ r', v.den r' = u) : Calls E.P f (AV.denL r args).toArray w fun e w' => e = .returned u ∧ Fr w w' (fun _ => False) := by
  obtain ⟨hI, ha⟩ := view_hinv (q := fun i => i) hs h
  refine (fn_calls hE hf hb (G := ⟨w, fun _ => False, n, r, none⟩) (hl _ rfl) (args := args) (hp := hp) (nid := n) (r := r) (w := w) rfl hI ha ht).mono ?_
  rintro e w' ⟨v, h', nid', r', hT, he, _, hI, _⟩
  exact ⟨by rw [he, hT r'], hI.fr⟩

end Go.SX
