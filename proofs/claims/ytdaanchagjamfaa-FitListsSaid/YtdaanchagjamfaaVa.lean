/- Lists of sides: which is the first that is not valid; are all valid? -/
import Derived.Test.YtdaanchagjamfaaTf
import Derived.Test.YtdaanchagjamfaaSfb
namespace Go.Proofs.Ytdaanchagjamfaa
open Go.SX

instance : RowT Edge where
  ks := [.int .i64, .int .i64, .int .i64, .int .i64, .int .i64, .int .i64, .int .i64]
  enc e j := match j with
    | 0 => e.kind
    | 1 => e.at_.lo
    | 2 => e.at_.hi
    | 3 => e.wide.lo
    | 4 => e.wide.hi
    | 5 => e.deep.lo
    | _ => e.deep.hi
  dec f := ⟨f 0, ⟨f 1, f 2⟩, ⟨f 3, f 4⟩, ⟨f 5, f 6⟩⟩
  ok _ := rfl
/-- A function as an argument: this one. -/
structure FnK (g : Nat) where
  u : Unit
instance (g : Nat) : Enc (FnK g) where
  enc _ := .fn (.func g) []
  dec v := match v with
    | .fn (.func g') [] => (match Nat.beq g' g with | true => some ⟨()⟩ | false => none)
    | _ => none
  ok v x h := by
    split at h <;> (try (cases h; done))
    split at h <;> (try (cases h; done))
    rename_i hg
    have := Nat.eq_of_beq_eq_true hg
    subst this
    exact ⟨fun _ => rfl, rfl⟩
/-- The first number from k on, of so many, of which something holds. -/
def firstN (p : Nat → Bool) : Nat → Nat → Option Nat
  | 0, _ => none
  | m + 1, k => match p k with
    | true => some k
    | false => firstN p m (k + 1)
def idxOf : Option Nat → Int
  | some i => i
  | none => -1
def allN (p : Nat → Bool) (n : Nat) : Bool := (firstN (fun i => !p i) n 0).isNone
theorem firstN_none {p : Nat → Bool} : ∀ {m k : Nat}, firstN p m k = none → ∀ i, k ≤ i → i < k + m → p i = false
  | 0, k, _, i, h1, h2 => by omega
  | m + 1, k, h, i, h1, h2 => by
    simp only [firstN] at h
    split at h
    · cases h
    · rename_i hk
      rcases Nat.eq_or_lt_of_le h1 with rfl | hlt
      · exact hk
      · exact firstN_none h i hlt (by omega)
theorem allN_get {p : Nat → Bool} {n : Nat} (h : allN p n = true) {i : Nat} (hi : i < n) : p i = true := by
  unfold allN at h
  rw [Option.isNone_iff_eq_none] at h
  have := firstN_none h i (Nat.zero_le _) (by omega)
  simpa using this
theorem firstN_all {p : Nat → Bool} : ∀ {m k : Nat}, (∀ i, k ≤ i → i < k + m → p i = false) → firstN p m k = none
  | 0, _, _ => rfl
  | m + 1, k, h => by
    simp only [firstN]
    rw [h k (Nat.le_refl _) (by omega)]
    exact firstN_all fun i h1 h2 => h i (by omega) (by omega)
theorem allN_of {p : Nat → Bool} {n : Nat} (h : ∀ i, i < n → p i = true) : allN p n = true := by
  unfold allN
  rw [firstN_all (fun i _ hi => by rw [h i (by omega)]; rfl)]; rfl
def areS1F : Edge × Unit → Bool × AV := fun | (s, _) => (true, .bool false (!s.ok))
def areS1C : FC := pureFC (pfOf areS1F)
set_option maxRecDepth 100000 in
theorem areS1_t (s : Edge) : execFn (mkE Try.prog tab_alive) (hnd (mkE Try.prog tab_alive) 0) false Try.f73 (EncL.enc ((s, ()) : Edge × Unit)) [] 0 =
    Tree.need true (Tree.leaf (AV.bool false !s.ok) []) := by kernel_rfl
theorem areS1_s : FSound Try.prog 73 areS1C := by
  refine plain_fn tab_alive_ok 0 Try.func73 (by kernel_rfl) (by kernel_rfl) ?_
  rintro ⟨s, ⟨⟩⟩ hp
  rw [areS1_t s]
  simp only [areS1F, Tree.den, AV.same, AV.sameL, and_true, true_and] at hp ⊢
def tab_areS1 : Tab := addF tab_alive 73 areS1C
theorem tab_areS1_ok : TabOk tab_areS1 := tab_alive_ok.add areS1_s
def badE (l : Rw Edge) (i : Nat) : Bool := !(l.get i).ok
def idxJ (l : Rw Edge) (k : Nat) : JSt := ⟨19, [(0, .slz 0 0 l.n (.of 0)), (1, .fn (.func 73) []), (7, .int false .i64 l.n), (8, .int false .i64 k)], ArgE.blk 0 l, 8⟩
def idxLs : Ex → List Nat
  | .normal => [0, 1, 7, 8]
  | .exit _ => []
  | .ret => [4]
set_option maxRecDepth 100000 in
theorem idx_r (l : Rw Edge) (k : Nat) (g : Nat → Value) : exec (mkE Try.prog tab_areS1) (hnd (mkE Try.prog tab_areS1) 0) (bodyK Try.f83 0) (JSt.inst (idxJ l k) g) (leafW [] idxLs) =
    Tree.br (decide ((↑k : Int) < (↑l.n : Int))) (Tree.need (decide ((0 : Int) ≤ (↑k : Int) ∧ (↑k : Int) < (↑l.n : Int)) && decide (l.n ≤ l.n)) (Tree.need (decide (k < l.n)) (Tree.need
    true (Tree.br (!(l.get k).ok) (Tree.leaf (AV.tup [AV.nili, AV.ptr (19 : Nat) (0 : Nat) (0 : Nat), AV.int false IntKind.i64 (↑k : Int)]) []) (Tree.leaf (AV.tup [AV.nilp, AV.ptr (19 :
    Nat) (0 : Nat) (0 : Nat), AV.slz (0 : Nat) (0 : Nat) l.n (Cap.of (0 : Nat)), AV.fn (Fn.func (73 : Nat)) [], AV.int false IntKind.i64 (↑l.n : Int), AV.int false IntKind.i64
    (IntKind.i64.wrap ((↑k : Int) + (1 : Int)))]) [((0 : Nat), Blk.frz [CK.int IntKind.i64, CK.int IntKind.i64, CK.int IntKind.i64, CK.int IntKind.i64, CK.int IntKind.i64, CK.int
    IntKind.i64, CK.int IntKind.i64] l.n fun i => RowT.enc (l.get i))]))))) (Tree.leaf (AV.tup [AV.ptr (0 : Nat) (0 : Nat) (0 : Nat), AV.ptr (19 : Nat) (0 : Nat) (0 : Nat)]) []) := by kernel_rfl
def idxR (l : Rw Edge) (k : Nat) (e : Ex) (J : JSt) : Prop := (e = .ret ∧ (firstN (badE l) (l.n - k) k).isSome = true ∧ J = ⟨19, [(4, .int false .i64 (idxOf (firstN (badE l) (l.n - k) k)))], [], 8⟩) ∨ (e = .exit 0 ∧ firstN (badE l) (l.n - k) k = none ∧ J = ⟨19, [], [], 8⟩)
set_option maxRecDepth 100000 in
theorem idx_go (l : Rw Edge) (k : Nat) (i : Int) : subE 8 [.slz 0 0 l.n (.of 0), .fn (.func 73) [], .int false .i64 l.n, .int false .i64 i] (ArgE.blk 0 l) (idxJ l k) = (
    some [(0 : Nat) = (0 : Nat), l.n = l.n, Cap.of (0 : Nat) = Cap.of (0 : Nat), Fn.func (73 : FuncId) = Fn.func (73 : FuncId), (↑l.n : Int) = (↑l.n : Int), i = (↑k : Int), l.n ≤ l.n,
    RowsEq (7 : Nat) l.n (fun i => RowT.enc (l.get i)) fun i => RowT.enc (l.get i)]) := by kernel_rfl
set_option maxRecDepth 100000 in
theorem idx_ret (i j : Int) : subE 8 [.int false .i64 i] [] ⟨19, [(4, .int false .i64 j)], [], 8⟩ = (
    some [i = j]) := by kernel_rfl
set_option maxRecDepth 100000 in
theorem idx_end  : subE 8 [] [] ⟨19, [], [], 8⟩ = (
    some []) := by kernel_rfl
theorem idx_round (l : Rw Edge) (hl : l.n ≤ 1000) : RoundW (idxJ l) (fun k => k ≤ l.n) (fun k => l.n - k) (idxR l) 8 idxLs [] (mkE Try.prog tab_areS1) (fun _ => hnd (mkE Try.prog tab_areS1) 0) (bodyK Try.f83 0) := by
  refine ⟨fun k g hk => ⟨den_of (idx_r l k g) ?_⟩⟩
  refine den_br (fun h => ?_) (fun h => ?_)
  · have h : k < l.n := by have := of_decide_eq_true h; omega
    obtain ⟨m, hm⟩ : ∃ m, l.n - k = m + 1 := ⟨l.n - k - 1, by omega⟩
    have hm' : l.n - (k + 1) = m := by omega
    refine den_need (by simp; omega) (den_need (by simp; omega) (den_need rfl (den_br (fun hb => ?_) (fun hb => ?_))))
    · have hf : firstN (badE l) (l.n - k) k = some k := by rw [hm, firstN]; unfold badE; rw [hb]
      exact ⟨_, .inl ⟨rfl, by rw [hf]; rfl, rfl⟩, rfl, rfl, _, idx_ret _ _, by rw [hf]; exact ⟨rfl, trivial⟩⟩
    · have hf : firstN (badE l) (l.n - k) k = firstN (badE l) (l.n - (k + 1)) (k + 1) := by rw [hm, hm', firstN]; unfold badE; rw [hb]
      refine ⟨k + 1, by omega, by show l.n - (k + 1) < l.n - k; omega, fun e J h => by unfold idxR at h ⊢; rw [hf]; exact h, rfl, rfl, _, idx_go _ _ _, ?_⟩
      exact ⟨rfl, rfl, rfl, rfl, rfl, (w64 (by omega) (by omega)).trans (by omega), Nat.le_refl _, RowsEq.refl _ _ _, trivial⟩
  · have h : l.n ≤ k := by have := of_decide_eq_false h; omega
    have hf : firstN (badE l) (l.n - k) k = none := by rw [show l.n - k = 0 by omega]; rfl
    exact ⟨_, .inr ⟨rfl, hf, rfl⟩, rfl, rfl, _, idx_end, trivial⟩
def idxX (l : Rw Edge) : List (Prop × Ex × JSt) := [((firstN (badE l) l.n 0).isSome = true, .ret, ⟨19, [(4, .int false .i64 (idxOf (firstN (badE l) l.n 0)))], [], 8⟩), (firstN (badE l) l.n 0 = none, .exit 0, ⟨19, [], [], 8⟩)]
abbrev idxH (P : Program) (l : Rw Edge) : Hnd := { hnd (mkE P tab_areS1) 1 with loop := fun _ => loopT 8 [] (idxJ l 0) (idxX l) }
theorem idx_hnd (l : Rw Edge) (hl : l.n ≤ 1000) (G : Ctx) (hrd : G.rd = none) (hG : G.n = 8) : HndOk (mkE Try.prog tab_areS1) G (idxH Try.prog l) (bodyOf Try.f83) := by
  refine one_loop (body := bodyK Try.f83 0) (mkE_ok tab_areS1_ok) hrd (by kernel_rfl) ?_
  refine loopT_ok (n0 := 8) (mkE_ok tab_areS1_ok) (by omega) (fun s hs => hnd_hndOk (mkE_ok tab_areS1_ok) 0 G _ hrd) (fun s hs => Nat.le_refl _) ?_ (idx_round l hl) (s0 := 0) (Nat.zero_le _) ?_
  · rintro s e J (⟨_, _, rfl⟩ | ⟨_, _, rfl⟩) <;> exact Nat.le_refl _
  · rintro e J (⟨rfl, h, rfl⟩ | ⟨rfl, h, rfl⟩)
    · exact ⟨_, List.mem_cons_self, h, rfl, rfl⟩
    · exact ⟨_, List.mem_cons_of_mem _ List.mem_cons_self, h, rfl, rfl⟩
set_option maxRecDepth 100000 in
theorem idx_t (l : Rw Edge) (x : FnK 73) : execW (mkE Try.prog tab_areS1) (idxH Try.prog l) Try.f83 (ArgsE.vals 0 (l, x, ())) (ArgsE.blks 0 (l, x, ())) 8 =
    Tree.ask ((0 : Nat) = (0 : Nat)) (Tree.ask (l.n = l.n) (Tree.ask (Cap.of (0 : Nat) = Cap.of (0 : Nat)) (Tree.ask (Fn.func (73 : Nat) = Fn.func (73 : FuncId)) (Tree.ask ((↑l.n : Int)
    = (↑l.n : Int)) (Tree.ask ((0 : Int) = (0 : Int)) (Tree.ask (l.n ≤ l.n) (Tree.ask (RowsEq (7 : Nat) l.n (fun i => RowT.enc (l.get i)) fun i => RowT.enc (l.get i)) ((Tree.asm
    ((firstN (badE l) l.n (0 : Nat)).isSome = true) (Tree.all fun g0 => Tree.leaf (AV.int false IntKind.i64 (idxOf (firstN (badE l) l.n (0 : Nat)))) [])).both (Tree.asm (firstN (badE l)
    l.n (0 : Nat) = none) (Tree.all fun g1 => Tree.leaf (AV.int true IntKind.i64 (-1 : Int)) [])))))))))) := by kernel_rfl
def idxF : WF (Rw Edge × FnK 73 × Unit) := fun x => (decide (x.1.n ≤ 1000), .int false .i64 (idxOf (firstN (badE x.1) x.1.n 0)), [])
def idxC : FC := wFC idxF
theorem idx_hs : WHnd (mkE Try.prog tab_areS1) (bodyOf Try.f83) 8 idxF (fun x => idxH Try.prog x.1) :=
  ⟨fun x hx G h1 h2 => idx_hnd x.1 (of_decide_eq_true hx) G h1 h2⟩
theorem idx_run : WRun (mkE Try.prog tab_areS1) Try.f83 8 idxF (fun x => idxH Try.prog x.1) := by
  refine ⟨?_⟩
  rintro ⟨l, x, ⟨⟩⟩ hp
  refine ⟨⟨rfl, by simp [idxF], rfl⟩, ⟨?_⟩⟩
  rw [idx_t l x]
  refine den_ask rfl (den_ask rfl (den_ask rfl (den_ask rfl (den_ask rfl (den_ask rfl (den_ask (Nat.le_refl _) (den_ask (RowsEq.refl _ _ _) (den_both (den_asm fun h => den_all fun g => ?_) (den_asm fun h => den_all fun g => ?_)))))))))
  · exact endOk_same ⟨rfl, rfl⟩ rfl
  · exact endOk_same ⟨rfl, by show (-1 : Int) = idxOf (firstN (badE l) l.n 0); rw [h]; rfl⟩ rfl
theorem idx_s : FSound Try.prog 83 idxC :=
  fn_W (mkE_ok tab_areS1_ok) Try.func83 (by kernel_rfl) (by kernel_rfl) (by decide) idx_hs idx_run
def tab_idx : Tab := addF tab_areS1 83 idxC
theorem tab_idx_ok : TabOk tab_idx := tab_areS1_ok.add idx_s
def conF : WF ((Rw Edge) × (FnK 73) × Unit) := fun | (l, (x, _)) => (decide (l.n ≤ 1000), .bool false (decide (idxOf (firstN (badE l) l.n 0) ≥ 0)), [])
def conC : FC := wFC conF
set_option maxRecDepth 100000 in
theorem con_t (l : (Rw Edge)) (x : (FnK 73)) : execW (mkE Try.prog tab_idx) (hnd (mkE Try.prog tab_idx) 0) Try.f70 (ArgsE.vals 0 ((l, x, ()) : (Rw Edge) × (FnK 73) × Unit)) (ArgsE.blks 0 ((l, x, ()) : (Rw Edge) × (FnK 73) × Unit)) 8 =
    Tree.need (decide (l.n ≤ l.n) && (true && true) && decide (l.n ≤ (1000 : Nat))) (Tree.leaf (AV.bool false (decide (idxOf (firstN (badE l) l.n (0 : Nat)) ≥ (0 : Int)))) []) := by kernel_rfl
theorem con_hs : WHnd (mkE Try.prog tab_idx) (bodyOf Try.f70) 8 conF (fun x_ => (hnd (mkE Try.prog tab_idx) 0)) := by
  refine ⟨?_⟩
  rintro ⟨l, ⟨x, ⟨⟩⟩⟩ hp G h1 h2
  exact hnd_hndOk (mkE_ok tab_idx_ok) 0 G _ h1
theorem con_run : WRun (mkE Try.prog tab_idx) Try.f70 8 conF (fun x_ => (hnd (mkE Try.prog tab_idx) 0)) := by
  refine ⟨?_⟩
  rintro ⟨l, ⟨x, ⟨⟩⟩⟩ hp
  refine ⟨⟨rfl, by simp [conF], rfl⟩, ⟨?_⟩⟩
  rw [con_t l x]
  simp only [conF] at hp
  exact den_need (by simpa using hp) (endOk_same rfl rfl)
theorem con_s : FSound Try.prog 70 conC :=
  fn_W (mkE_ok tab_idx_ok) Try.func70 (by kernel_rfl) (by kernel_rfl) (by decide) con_hs con_run
def tab_con : Tab := addF tab_idx 70 conC
theorem tab_con_ok : TabOk tab_con := tab_idx_ok.add con_s
theorem idxOf_neg : ∀ (o : Option Nat), (!decide (idxOf o ≥ 0)) = o.isNone
  | some i => by simp [idxOf]
  | none => rfl
def areSF : WF ((Rw Edge) × Unit) := fun | (l, _) => (decide (l.n ≤ 1000), .bool false (allN (fun i => (l.get i).ok) l.n), [])
def areSC : FC := wFC areSF
set_option maxRecDepth 100000 in
theorem areS_t (l : (Rw Edge)) : execW (mkE Try.prog tab_con) (hnd (mkE Try.prog tab_con) 0) Try.f47 (ArgsE.vals 0 ((l, ()) : (Rw Edge) × Unit)) (ArgsE.blks 0 ((l, ()) : (Rw Edge) × Unit)) 8 =
    Tree.need (decide (l.n ≤ l.n) && (true && true) && decide (l.n ≤ (1000 : Nat))) (Tree.leaf (AV.bool false !decide (idxOf (firstN (badE l) l.n (0 : Nat)) ≥ (0 : Int))) []) := by kernel_rfl
theorem areS_hs : WHnd (mkE Try.prog tab_con) (bodyOf Try.f47) 8 areSF (fun x_ => (hnd (mkE Try.prog tab_con) 0)) := by
  refine ⟨?_⟩
  rintro ⟨l, ⟨⟩⟩ hp G h1 h2
  exact hnd_hndOk (mkE_ok tab_con_ok) 0 G _ h1
theorem areS_run : WRun (mkE Try.prog tab_con) Try.f47 8 areSF (fun x_ => (hnd (mkE Try.prog tab_con) 0)) := by
  refine ⟨?_⟩
  rintro ⟨l, ⟨⟩⟩ hp
  refine ⟨⟨rfl, by simp [areSF], rfl⟩, ⟨?_⟩⟩
  rw [areS_t l]
  simp only [areSF] at hp
  exact den_need (by simpa using hp) (endOk_same (idxOf_neg _) rfl)
theorem areS_s : FSound Try.prog 47 areSC :=
  fn_W (mkE_ok tab_con_ok) Try.func47 (by kernel_rfl) (by kernel_rfl) (by decide) areS_hs areS_run
def tab_areS : Tab := addF tab_con 47 areSC
theorem tab_areS_ok : TabOk tab_areS := tab_con_ok.add areS_s
end Go.Proofs.Ytdaanchagjamfaa
