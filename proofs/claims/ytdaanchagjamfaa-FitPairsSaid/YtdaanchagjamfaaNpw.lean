/- Lists of sides: which is the first that is not valid; are all valid? -/
import Derived.Test.YtdaanchagjamfaaNpt
import Derived.Test.YtdaanchagjamfaaNpv
namespace Go.Proofs.Ytdaanchagjamfaa
open Go.SX

instance : RowT Edge where
  ks := [.int .i64, .int .i64, .int .i64, .int .i64, .int .i64, .int .i64, .int .i64]
  enc e j := match j with
    | 0 => e.kind
    | 1 => e.at_.lo
    | 2 => e.at_.hi
    | 3 => e.wide.lo
    | 4 => e.wide.hi
    | 5 => e.deep.lo
    | _ => e.deep.hi
  dec f := ⟨f 0, ⟨f 1, f 2⟩, ⟨f 3, f 4⟩, ⟨f 5, f 6⟩⟩
  ok _ := rfl
/-- A function as an argument: this one. -/
structure FnK (g : Nat) where
  u : Unit
instance (g : Nat) : Enc (FnK g) where
  enc _ := .fn (.func g) []
  dec v := match v with
    | .fn (.func g') [] => (match Nat.beq g' g with | true => some ⟨()⟩ | false => none)
    | _ => none
  ok v x h := by
    split at h <;> (try (cases h; done))
    split at h <;> (try (cases h; done))
    rename_i hg
    have := Nat.eq_of_beq_eq_true hg
    subst this
    exact ⟨fun _ => rfl, rfl⟩
/-- The first number from k on, of so many, of which something holds. -/
def firstN (p : Nat → Bool) : Nat → Nat → Option Nat
  | 0, _ => none
  | m + 1, k => match p k with
    | true => some k
    | false => firstN p m (k + 1)
def idxOf : Option Nat → Int
  | some i => i
  | none => -1
def allN (p : Nat → Bool) (n : Nat) : Bool := (firstN (fun i => !p i) n 0).isNone
theorem firstN_none {p : Nat → Bool} : ∀ {m k : Nat}, firstN p m k = none → ∀ i, k ≤ i → i < k + m → p i = false
  | 0, k, _, i, h1, h2 => by omega
  | m + 1, k, h, i, h1, h2 => by
    simp only [firstN] at h
    split at h
    · cases h
    · rename_i hk
      rcases Nat.eq_or_lt_of_le h1 with rfl | hlt
      · exact hk
      · exact firstN_none h i hlt (by omega)
theorem allN_get {p : Nat → Bool} {n : Nat} (h : allN p n = true) {i : Nat} (hi : i < n) : p i = true := by
  unfold allN at h
  rw [Option.isNone_iff_eq_none] at h
  have := firstN_none h i (Nat.zero_le _) (by omega)
  simpa using this
theorem firstN_all {p : Nat → Bool} : ∀ {m k : Nat}, (∀ i, k ≤ i → i < k + m → p i = false) → firstN p m k = none
  | 0, _, _ => rfl
  | m + 1, k, h => by
    simp only [firstN]
    rw [h k (Nat.le_refl _) (by omega)]
    exact firstN_all fun i h1 h2 => h i (by omega) (by omega)
theorem allN_of {p : Nat → Bool} {n : Nat} (h : ∀ i, i < n → p i = true) : allN p n = true := by
  unfold allN
  rw [firstN_all (fun i _ hi => by rw [h i (by omega)]; rfl)]; rfl
def areS1F : Edge × Unit → Bool × AV := fun | (s, _) => (true, .bool false (!s.ok))
def areS1C : FC := pureFC (pfOf areS1F)
set_option maxRecDepth 100000 in
theorem areS1_t (s : Edge) : execFn (mkE Try.prog tab_alive) (hnd (mkE Try.prog tab_alive) 0) false Try.f73 (EncL.enc ((s, ()) : Edge × Unit)) [] 0 =
    Tree.need true (Tree.leaf (AV.bool false !s.ok) []) := by kernel_rfl
theorem areS1_s : FSound Try.prog 73 areS1C := by
  refine plain_fn tab_alive_ok 0 Try.func73 (by kernel_rfl) (by kernel_rfl) ?_
  rintro ⟨s, ⟨⟩⟩ hp
  rw [areS1_t s]
  simp only [areS1F, Tree.den, AV.same, AV.sameL, and_true, true_and] at hp ⊢
def tab_areS1 : Tab := addF tab_alive 73 areS1C
theorem tab_areS1_ok : TabOk tab_areS1 := tab_alive_ok.add areS1_s
def badE (l : Rw Edge) (i : Nat) : Bool := !(l.get i).ok
def idxJ (l : Rw Edge) (k : Nat) : JSt := ⟨19, [(0, .slz 0 0 l.n (.of 0)), (1, .fn (.func 73) []), (7, .int false .i64 l.n), (8, .int false .i64 k)], ArgE.blk 0 l, 8⟩
def idxLs : Ex → List Nat
  | .normal => [0, 1, 7, 8]
  | .exit _ => []
  | .ret => [4]
set_option maxRecDepth 100000 in
theorem idx_r (l : Rw Edge) (k : Nat) (g : Nat → Value) : exec (mkE Try.prog tab_areS1) (hnd (mkE Try.prog tab_areS1) 0) (bodyK Try.f83 0) (JSt.inst (idxJ l k) g) (leafW [] idxLs) =
    Tree.br (decide ((↑k : Int) < (↑l.n : Int))) (Tree.need (decide ((0 : Int) ≤ (↑k : Int) ∧ (↑k : Int) < (↑l.n : Int)) && decide (l.n ≤ l.n)) (Tree.need (decide (k < l.n)) (Tree.need
    true (Tree.br (!(l.get k).ok) (Tree.leaf (AV.tup [AV.nili, AV.ptr (19 : Nat) (0 : Nat) (0 : Nat), AV.int false IntKind.i64 (↑k : Int)]) []) (Tree.leaf (AV.tup [AV.nilp, AV.ptr (19 :
    Nat) (0 : Nat) (0 : Nat), AV.slz (0 : Nat) (0 : Nat) l.n (Cap.of (0 : Nat)), AV.fn (Fn.func (73 : Nat)) [], AV.int false IntKind.i64 (↑l.n : Int), AV.int false IntKind.i64
    (IntKind.i64.wrap ((↑k : Int) + (1 : Int)))]) [((0 : Nat), Blk.frz [CK.int IntKind.i64, CK.int IntKind.i64, CK.int IntKind.i64, CK.int IntKind.i64, CK.int IntKind.i64, CK.int
    IntKind.i64, CK.int IntKind.i64] l.n fun i => RowT.enc (l.get i))]))))) (Tree.leaf (AV.tup [AV.ptr (0 : Nat) (0 : Nat) (0 : Nat), AV.ptr (19 : Nat) (0 : Nat) (0 : Nat)]) []) := by kernel_rfl
def idxR (l : Rw Edge) (k : Nat) (e : Ex) (J : JSt) : Prop := (e = .ret ∧ (firstN (badE l) (l.n - k) k).isSome = true ∧ J = ⟨19, [(4, .int false .i64 (idxOf (firstN (badE l) (l.n - k) k)))], [], 8⟩) ∨ (e = .exit 0 ∧ firstN (badE l) (l.n - k) k = none ∧ J = ⟨19, [], [], 8⟩)
set_option maxRecDepth 100000 in
theorem idx_go (l : Rw Edge) (k : Nat) (i : Int) : subE 8 [.slz 0 0 l.n (.of 0), .fn (.func 73) [], .int false .i64 l.n, .int false .i64 i] (ArgE.blk 0 l) (idxJ l k) = (
    some [(0 : Nat) = (0 : Nat), l.n = l.n, Cap.of (0 : Nat) = Cap.of (0 : Nat), Fn.func (73 : FuncId) = Fn.func (73 : FuncId), (↑l.n : Int) = (↑l.n : Int), i = (↑k : Int), l.n ≤ l.n,
    RowsEq (7 : Nat) l.n (fun i => RowT.enc (l.get i)) fun i => RowT.enc (l.get i)]) := by kernel_rfl
set_option maxRecDepth 100000 in
theorem idx_ret (i j : Int) : subE 8 [.int false .i64 i] [] ⟨19, [(4, .int false .i64 j)], [], 8⟩ = (
    some [i = j]) := by kernel_rfl
set_option maxRecDepth 100000 in
theorem idx_end  : subE 8 [] [] ⟨19, [], [], 8⟩ = (
    some []) := by kernel_rfl
theorem idx_round (l : Rw Edge) (hl : l.n ≤ 1000) : RoundW (idxJ l) (fun k => k ≤ l.n) (fun k => l.n - k) (idxR l) 8 idxLs [] (mkE Try.prog tab_areS1) (fun _ => hnd (mkE Try.prog tab_areS1) 0) (bodyK Try.f83 0) := by
  refine ⟨fun k g hk => ⟨den_of (idx_r l k g) ?_⟩⟩
  refine den_br (fun h => ?_) (fun h => ?_)
  · have h : k < l.n := by have := of_decide_eq_true h; omega
    obtain ⟨m, hm⟩ : ∃ m, l.n - k = m + 1 := ⟨l.n - k - 1, by omega⟩
    have hm' : l.n - (k + 1) = m := by omega
    refine den_need (by simp; omega) (den_need (by simp; omega) (den_need rfl (den_br (fun hb => ?_) (fun hb => ?_))))
    · have hf : firstN (badE l) (l.n - k) k = some k := by rw [hm, firstN]; unfold badE; rw [hb]
      exact ⟨_, .inl ⟨rfl, by rw [hf]; rfl, rfl⟩, rfl, rfl, _, idx_ret _ _, by rw [hf]; exact ⟨rfl, trivial⟩⟩
    · have hf : firstN (badE l) (l.n - k) k = firstN (badE l) (l.n - (k + 1)) (k + 1) := by rw [hm, hm', firstN]; unfold badE; rw [hb]
      refine ⟨k + 1, by omega, by show l.n - (k + 1) < l.n - k; omega, fun e J h => by unfold idxR at h ⊢; rw [hf]; exact h, rfl, rfl, _, idx_go _ _ _, ?_⟩
      exact ⟨rfl, rfl, rfl, rfl, rfl, (w64 (by omega) (by omega)).trans (by omega), Nat.le_refl _, RowsEq.refl _ _ _, trivial⟩
  · have h : l.n ≤ k := by have := of_decide_eq_false h; omega
    have hf : firstN (badE l) (l.n - k) k = none := by rw [show l.n - k = 0 by omega]; rfl
    exact ⟨_, .inr ⟨rfl, hf, rfl⟩, rfl, rfl, _, idx_end, trivial⟩
def idxX (l : Rw Edge) : List (Prop × Ex × JSt) := [((firstN (badE l) l.n 0).isSome = true, .ret, ⟨19, [(4, .int false .i64 (idxOf (firstN (badE l) l.n 0)))], [], 8⟩), (firstN (badE l) l.n 0 = none, .exit 0, ⟨19, [], [], 8⟩)]
abbrev idxH (P : Program) (l : Rw Edge) : Hnd := { hnd (mkE P tab_areS1) 1 with loop := fun _ => loopT 8 [] (idxJ l 0) (idxX l) }
theorem idx_hnd (l : Rw Edge) (hl : l.n ≤ 1000) (G : Ctx) (hrd : G.rd = none) (hG : G.n = 8) : HndOk (mkE Try.prog tab_areS1) G (idxH Try.prog l) (bodyOf Try.f83) := by
  refine one_loop (body := bodyK Try.f83 0) (mkE_ok tab_areS1_ok) hrd (by kernel_rfl) ?_
  refine loopT_ok (n0 := 8) (mkE_ok tab_areS1_ok) (by omega) (fun s hs => hnd_hndOk (mkE_ok tab_areS1_ok) 0 G _ hrd) (fun s hs => Nat.le_refl _) ?_ (idx_round l hl) (s0 := 0) (Nat.zero_le _) ?_
  · rintro s e J (⟨_, _, rfl⟩ | ⟨_, _, rfl⟩) <;> exact Nat.le_refl _
  · rintro e J (⟨rfl, h, rfl⟩ | ⟨rfl, h, rfl⟩)
    · exact ⟨_, List.mem_cons_self, h, rfl, rfl⟩
    · exact ⟨_, List.mem_cons_of_mem _ List.mem_cons_self, h, rfl, rfl⟩
set_option maxRecDepth 100000 in
theorem idx_t (l : Rw Edge) (x : FnK 73) : execW (mkE Try.prog tab_areS1) (idxH Try.prog l) Try.f83 (ArgsE.vals 0 (l, x, ())) (ArgsE.blks 0 (l, x, ())) 8 =
    Tree.ask ((0 : Nat) = (0 : Nat)) (Tree.ask (l.n = l.n) (Tree.ask (Cap.of (0 : Nat) = Cap.of (0 : Nat)) (Tree.ask (Fn.func (73 : Nat) = Fn.func (73 : FuncId)) (Tree.ask ((↑l.n : Int)
    = (↑l.n : Int)) (Tree.ask ((0 : Int) = (0 : Int)) (Tree.ask (l.n ≤ l.n) (Tree.ask (RowsEq (7 : Nat) l.n (fun i => RowT.enc (l.get i)) fun i => RowT.enc (l.get i)) ((Tree.asm
    ((firstN (badE l) l.n (0 : Nat)).isSome = true) (Tree.all fun g0 => Tree.leaf (AV.int false IntKind.i64 (idxOf (firstN (badE l) l.n (0 : Nat)))) [])).both (Tree.asm (firstN (badE l)
    l.n (0 : Nat) = none) (Tree.all fun g1 => Tree.leaf (AV.int true IntKind.i64 (-1 : Int)) [])))))))))) := by kernel_rfl
def idxF : WF (Rw Edge × FnK 73 × Unit) := fun x => (decide (x.1.n ≤ 1000), .int false .i64 (idxOf (firstN (badE x.1) x.1.n 0)), [])
def idxC : FC := wFC idxF
theorem idx_hs : WHnd (mkE Try.prog tab_areS1) (bodyOf Try.f83) 8 idxF (fun x => idxH Try.prog x.1) :=
  ⟨fun x hx G h1 h2 => idx_hnd x.1 (of_decide_eq_true hx) G h1 h2⟩
theorem idx_run : WRun (mkE Try.prog tab_areS1) Try.f83 8 idxF (fun x => idxH Try.prog x.1) := by
  refine ⟨?_⟩
  rintro ⟨l, x, ⟨⟩⟩ hp
  refine ⟨⟨rfl, by simp [idxF], rfl⟩, ⟨?_⟩⟩
  rw [idx_t l x]
  refine den_ask rfl (den_ask rfl (den_ask rfl (den_ask rfl (den_ask rfl (den_ask rfl (den_ask (Nat.le_refl _) (den_ask (RowsEq.refl _ _ _) (den_both (den_asm fun h => den_all fun g => ?_) (den_asm fun h => den_all fun g => ?_)))))))))
  · exact endOk_same ⟨rfl, rfl⟩ rfl
  · exact endOk_same ⟨rfl, by show (-1 : Int) = idxOf (firstN (badE l) l.n 0); rw [h]; rfl⟩ rfl
theorem idx_s : FSound Try.prog 83 idxC :=
  fn_W (mkE_ok tab_areS1_ok) Try.func83 (by kernel_rfl) (by kernel_rfl) (by decide) idx_hs idx_run
def tab_idx : Tab := addF tab_areS1 83 idxC
theorem tab_idx_ok : TabOk tab_idx := tab_areS1_ok.add idx_s
def conF : WF ((Rw Edge) × (FnK 73) × Unit) := fun | (l, (x, _)) => (decide (l.n ≤ 1000), .bool false (decide (idxOf (firstN (badE l) l.n 0) ≥ 0)), [])
def conC : FC := wFC conF
set_option maxRecDepth 100000 in
theorem con_t (l : (Rw Edge)) (x : (FnK 73)) : execW (mkE Try.prog tab_idx) (hnd (mkE Try.prog tab_idx) 0) Try.f70 (ArgsE.vals 0 ((l, x, ()) : (Rw Edge) × (FnK 73) × Unit)) (ArgsE.blks 0 ((l, x, ()) : (Rw Edge) × (FnK 73) × Unit)) 8 =
    Tree.need (decide (l.n ≤ l.n) && (true && true) && decide (l.n ≤ (1000 : Nat))) (Tree.leaf (AV.bool false (decide (idxOf (firstN (badE l) l.n (0 : Nat)) ≥ (0 : Int)))) []) := by kernel_rfl
theorem con_hs : WHnd (mkE Try.prog tab_idx) (bodyOf Try.f70) 8 conF (fun x_ => (hnd (mkE Try.prog tab_idx) 0)) := by
  refine ⟨?_⟩
  rintro ⟨l, ⟨x, ⟨⟩⟩⟩ hp G h1 h2
  exact hnd_hndOk (mkE_ok tab_idx_ok) 0 G _ h1
theorem con_run : WRun (mkE Try.prog tab_idx) Try.f70 8 conF (fun x_ => (hnd (mkE Try.prog tab_idx) 0)) := by
  refine ⟨?_⟩
  rintro ⟨l, ⟨x, ⟨⟩⟩⟩ hp
  refine ⟨⟨rfl, by simp [conF], rfl⟩, ⟨?_⟩⟩
  rw [con_t l x]
  simp only [conF] at hp
  exact den_need (by simpa using hp) (endOk_same rfl rfl)
theorem con_s : FSound Try.prog 70 conC :=
  fn_W (mkE_ok tab_idx_ok) Try.func70 (by kernel_rfl) (by kernel_rfl) (by decide) con_hs con_run
def tab_con : Tab := addF tab_idx 70 conC
theorem tab_con_ok : TabOk tab_con := tab_idx_ok.add con_s
theorem idxOf_neg : ∀ (o : Option Nat), (!decide (idxOf o ≥ 0)) = o.isNone
  | some i => by simp [idxOf]
  | none => rfl
def areSF : WF ((Rw Edge) × Unit) := fun | (l, _) => (decide (l.n ≤ 1000), .bool false (allN (fun i => (l.get i).ok) l.n), [])
def areSC : FC := wFC areSF
set_option maxRecDepth 100000 in
theorem areS_t (l : (Rw Edge)) : execW (mkE Try.prog tab_con) (hnd (mkE Try.prog tab_con) 0) Try.f47 (ArgsE.vals 0 ((l, ()) : (Rw Edge) × Unit)) (ArgsE.blks 0 ((l, ()) : (Rw Edge) × Unit)) 8 =
    Tree.need (decide (l.n ≤ l.n) && (true && true) && decide (l.n ≤ (1000 : Nat))) (Tree.leaf (AV.bool false !decide (idxOf (firstN (badE l) l.n (0 : Nat)) ≥ (0 : Int))) []) := by kernel_rfl
theorem areS_hs : WHnd (mkE Try.prog tab_con) (bodyOf Try.f47) 8 areSF (fun x_ => (hnd (mkE Try.prog tab_con) 0)) := by
  refine ⟨?_⟩
  rintro ⟨l, ⟨⟩⟩ hp G h1 h2
  exact hnd_hndOk (mkE_ok tab_con_ok) 0 G _ h1
theorem areS_run : WRun (mkE Try.prog tab_con) Try.f47 8 areSF (fun x_ => (hnd (mkE Try.prog tab_con) 0)) := by
  refine ⟨?_⟩
  rintro ⟨l, ⟨⟩⟩ hp
  refine ⟨⟨rfl, by simp [areSF], rfl⟩, ⟨?_⟩⟩
  rw [areS_t l]
  simp only [areSF] at hp
  exact den_need (by simpa using hp) (endOk_same (idxOf_neg _) rfl)
theorem areS_s : FSound Try.prog 47 areSC :=
  fn_W (mkE_ok tab_con_ok) Try.func47 (by kernel_rfl) (by kernel_rfl) (by decide) areS_hs areS_run
def tab_areS : Tab := addF tab_con 47 areSC
theorem tab_areS_ok : TabOk tab_areS := tab_con_ok.add areS_s
end Go.Proofs.Ytdaanchagjamfaa
/- fit.pick and fit.Matches. -/
namespace Go.Proofs.Ytdaanchagjamfaa
open Go.SX

/-- A new row of these. -/
def newL {α : Type} [RowT α] (ty k : Nat) (l : List α) (d : α) : Nat × Blk := (k, .rowz true ty (RowT.ks α) l.length fun i => RowT.enc (l.getD i d))
/-- The numbers below k of which something holds. -/
def picks (q : Nat → Bool) : Nat → List Int
  | 0 => []
  | k + 1 => match q k with
    | true => picks q k ++ [(k : Int)]
    | false => picks q k
theorem picks_len (q : Nat → Bool) : ∀ k, (picks q k).length ≤ k
  | 0 => Nat.le_refl _
  | k + 1 => by
    have := picks_len q k
    simp only [picks]
    split <;> simp <;> omega
def pickQ (p : Play) (s : Edge) (least : Int) (l : Rw Edge) (i : Nat) : Bool := decide (fitsF p s (l.get i) ≥ least)
def pickJ (p : Play) (s : Edge) (least : Int) (l : Rw Edge) (o : List Int) (k : Int) : JSt :=
  ⟨30, [(2, .int false .i64 least), (4, .ptr 8 0 0), (5, .ptr 16 0 0), (8, .slz 24 0 o.length (.of 0)), (11, .slz 3 0 l.n (.of 0)), (12, .int false .i64 l.n), (13, .int false .i64 k)],
    [(8, .cells 0 25 (Enc.enc p).cells), (16, .cells 0 27 (Enc.enc s).cells), newL 3 24 o 0] ++ ArgE.blk 3 l, 32⟩
def pickLs : Ex → List Nat
  | .normal => [2, 4, 5, 8, 11, 12, 13]
  | _ => [8]
set_option maxRecDepth 100000 in
theorem pick_r (p : Play) (s : Edge) (least : Int) (l : Rw Edge) (o : List Int) (k : Nat) (g : Nat → Value) : exec (mkE Try.prog tab_areS) (hnd (mkE Try.prog tab_areS) 0) (bodyK Try.f66 0) (JSt.inst (pickJ p s least l o k) g) (leafW [] pickLs) =
    Tree.br (decide ((↑k : Int) < (↑l.n : Int))) (Tree.need (decide ((0 : Int) ≤ (↑k : Int) ∧ (↑k : Int) < (↑l.n : Int)) && decide (l.n ≤ l.n)) (Tree.need (decide (k < l.n)) (Tree.need
    (okP p s (l.get k)) (Tree.br (decide (fitsF p s (l.get k) ≥ least)) (Tree.need (decide (o.length ≤ o.length) && (true && decide ((o.length + [[AV.int false IntKind.i64 (↑k :
    Int)]].length + (o.length + [[AV.int false IntKind.i64 (↑k : Int)]].length) / (4 : Nat) + (192 : Nat)) * (8 : Nat) ≤ (281474976710656 : Nat) ∧ o.length + [[AV.int false IntKind.i64
    (↑k : Int)]].length ≤ (9223372036854775807 : Nat)))) (Tree.leaf (AV.tup [AV.nilp, AV.ptr (30 : Nat) (0 : Nat) (0 : Nat), AV.int false IntKind.i64 least, AV.ptr (8 : Nat) (0 : Nat)
    (0 : Nat), AV.ptr (16 : Nat) (0 : Nat) (0 : Nat), AV.slz (160 : Nat) (0 : Nat) (o.length + [[AV.int false IntKind.i64 (↑k : Int)]].length) (Cap.of (0 : Nat)), AV.slz (3 : Nat) (0 :
    Nat) l.n (Cap.of (0 : Nat)), AV.int false IntKind.i64 (↑l.n : Int), AV.int false IntKind.i64 (IntKind.i64.wrap ((↑k : Int) + (1 : Int)))]) [((8 : Nat), Blk.cells (0 : Nat) (25 :
    Nat) [AV.int false IntKind.i64 p.length, AV.int false IntKind.i64 p.slack, AV.int false IntKind.i64 p.loose, AV.int false IntKind.i64 p.damp.lo, AV.int false IntKind.i64
    p.damp.hi]), ((16 : Nat), Blk.cells (0 : Nat) (27 : Nat) [AV.int false IntKind.i64 s.kind, AV.int false IntKind.i64 s.at_.lo, AV.int false IntKind.i64 s.at_.hi, AV.int false
    IntKind.i64 s.wide.lo, AV.int false IntKind.i64 s.wide.hi, AV.int false IntKind.i64 s.deep.lo, AV.int false IntKind.i64 s.deep.hi]), ((160 : Nat), Blk.rowz true (3 : Nat) [CK.int
    IntKind.i64] (o.length + [[AV.int false IntKind.i64 (↑k : Int)]].length) (joinG o.length (fun i => RowT.enc (o.getD i (0 : Int))) (rowI [[AV.int false IntKind.i64 (↑k : Int)]] (0 :
    Nat)))), ((3 : Nat), Blk.frz [CK.int IntKind.i64, CK.int IntKind.i64, CK.int IntKind.i64, CK.int IntKind.i64, CK.int IntKind.i64, CK.int IntKind.i64, CK.int IntKind.i64] l.n fun i
    => RowT.enc (l.get i))])) (Tree.leaf (AV.tup [AV.nilp, AV.ptr (30 : Nat) (0 : Nat) (0 : Nat), AV.int false IntKind.i64 least, AV.ptr (8 : Nat) (0 : Nat) (0 : Nat), AV.ptr (16 : Nat)
    (0 : Nat) (0 : Nat), AV.slz (24 : Nat) (0 : Nat) o.length (Cap.of (0 : Nat)), AV.slz (3 : Nat) (0 : Nat) l.n (Cap.of (0 : Nat)), AV.int false IntKind.i64 (↑l.n : Int), AV.int false
    IntKind.i64 (IntKind.i64.wrap ((↑k : Int) + (1 : Int)))]) [((8 : Nat), Blk.cells (0 : Nat) (25 : Nat) [AV.int false IntKind.i64 p.length, AV.int false IntKind.i64 p.slack, AV.int
    false IntKind.i64 p.loose, AV.int false IntKind.i64 p.damp.lo, AV.int false IntKind.i64 p.damp.hi]), ((16 : Nat), Blk.cells (0 : Nat) (27 : Nat) [AV.int false IntKind.i64 s.kind,
    AV.int false IntKind.i64 s.at_.lo, AV.int false IntKind.i64 s.at_.hi, AV.int false IntKind.i64 s.wide.lo, AV.int false IntKind.i64 s.wide.hi, AV.int false IntKind.i64 s.deep.lo,
    AV.int false IntKind.i64 s.deep.hi]), ((24 : Nat), Blk.rowz true (3 : Nat) [CK.int IntKind.i64] o.length fun i => RowT.enc (o.getD i (0 : Int))), ((3 : Nat), Blk.frz [CK.int
    IntKind.i64, CK.int IntKind.i64, CK.int IntKind.i64, CK.int IntKind.i64, CK.int IntKind.i64, CK.int IntKind.i64, CK.int IntKind.i64] l.n fun i => RowT.enc (l.get i))])))))
    (Tree.leaf (AV.tup [AV.ptr (0 : Nat) (0 : Nat) (0 : Nat), AV.ptr (30 : Nat) (0 : Nat) (0 : Nat), AV.slz (24 : Nat) (0 : Nat) o.length (Cap.of (0 : Nat))]) [((24 : Nat), Blk.rowz
    true (3 : Nat) [CK.int IntKind.i64] o.length fun i => RowT.enc (o.getD i (0 : Int)))]) := by kernel_rfl
theorem rows_snoc (o : List Int) (x : Int) : RowsEq 1 (o ++ [x]).length (joinG o.length (fun i => RowT.enc (o.getD i 0)) (rowI [[AV.int false IntKind.i64 x]] 0)) (fun i => RowT.enc ((o ++ [x]).getD i 0)) := by
  intro i hi
  refine ⟨?_, trivial⟩
  rw [joinG_get]
  rw [List.length_append, List.length_singleton] at hi
  split
  · rename_i h
    show o.getD i 0 = (o ++ [x]).getD i 0
    rw [List.getD_eq_getElem?_getD, List.getD_eq_getElem?_getD, List.getElem?_append_left h]
  · rename_i h
    have : i = o.length := by omega
    subst this
    show x = (o ++ [x]).getD o.length 0
    simp
set_option maxRecDepth 100000 in
theorem pick_go0 (p : Play) (s : Edge) (least : Int) (l : Rw Edge) (n : Nat) (g : Nat → Nat → Int) (i : Int) (o : List Int) (k : Int) : subE 8 [.int false .i64 least, .ptr 8 0 0, .ptr 16 0 0, .slz 24 0 n (.of 0), .slz 3 0 l.n (.of 0), .int false .i64 l.n, .int false .i64 i] ([(8, .cells 0 25 (Enc.enc p).cells), (16, .cells 0 27 (Enc.enc s).cells), (24, .rowz true 3 [.int .i64] n g)] ++ ArgE.blk 3 l) (pickJ p s least l o k) = (
    some [least = least, (0 : Nat) = (0 : Nat), (0 : Nat) = (0 : Nat), (0 : Nat) = (0 : Nat), (0 : Nat) = (0 : Nat), (0 : Nat) = (0 : Nat), n = o.length, Cap.of (0 : Nat) = Cap.of (0 :
    Nat), (0 : Nat) = (0 : Nat), l.n = l.n, Cap.of (0 : Nat) = Cap.of (0 : Nat), (↑l.n : Int) = (↑l.n : Int), i = k, p.length = p.length, p.slack = p.slack, p.loose = p.loose, p.damp.lo
    = p.damp.lo, p.damp.hi = p.damp.hi, s.kind = s.kind, s.at_.lo = s.at_.lo, s.at_.hi = s.at_.hi, s.wide.lo = s.wide.lo, s.wide.hi = s.wide.hi, s.deep.lo = s.deep.lo, s.deep.hi =
    s.deep.hi, o.length ≤ n, RowsEq (1 : Nat) o.length g fun i => RowT.enc (o.getD i (0 : Int)), l.n ≤ l.n, RowsEq (7 : Nat) l.n (fun i => RowT.enc (l.get i)) fun i => RowT.enc (l.get
    i)]) := by kernel_rfl
set_option maxRecDepth 100000 in
theorem pick_go1 (p : Play) (s : Edge) (least : Int) (l : Rw Edge) (n : Nat) (g : Nat → Nat → Int) (i : Int) (o : List Int) (k : Int) : subE 8 [.int false .i64 least, .ptr 8 0 0, .ptr 16 0 0, .slz 160 0 n (.of 0), .slz 3 0 l.n (.of 0), .int false .i64 l.n, .int false .i64 i] ([(8, .cells 0 25 (Enc.enc p).cells), (16, .cells 0 27 (Enc.enc s).cells), (160, .rowz true 3 [.int .i64] n g)] ++ ArgE.blk 3 l) (pickJ p s least l o k) = (
    some [least = least, (0 : Nat) = (0 : Nat), (0 : Nat) = (0 : Nat), (0 : Nat) = (0 : Nat), (0 : Nat) = (0 : Nat), (0 : Nat) = (0 : Nat), n = o.length, Cap.of (0 : Nat) = Cap.of (0 :
    Nat), (0 : Nat) = (0 : Nat), l.n = l.n, Cap.of (0 : Nat) = Cap.of (0 : Nat), (↑l.n : Int) = (↑l.n : Int), i = k, p.length = p.length, p.slack = p.slack, p.loose = p.loose, p.damp.lo
    = p.damp.lo, p.damp.hi = p.damp.hi, s.kind = s.kind, s.at_.lo = s.at_.lo, s.at_.hi = s.at_.hi, s.wide.lo = s.wide.lo, s.wide.hi = s.wide.hi, s.deep.lo = s.deep.lo, s.deep.hi =
    s.deep.hi, o.length ≤ n, RowsEq (1 : Nat) o.length g fun i => RowT.enc (o.getD i (0 : Int)), l.n ≤ l.n, RowsEq (7 : Nat) l.n (fun i => RowT.enc (l.get i)) fun i => RowT.enc (l.get
    i)]) := by kernel_rfl
def pickE (o : List Int) : JSt := ⟨30, [(8, .slz 24 0 o.length (.of 0))], [newL 3 24 o 0], 32⟩
set_option maxRecDepth 100000 in
theorem pick_end (n : Nat) (g : Nat → Nat → Int) (o : List Int) : subE 8 [.slz 24 0 n (.of 0)] [(24, .rowz true 3 [.int .i64] n g)] (pickE o) = (
    some [(0 : Nat) = (0 : Nat), n = o.length, Cap.of (0 : Nat) = Cap.of (0 : Nat), o.length ≤ n, RowsEq (1 : Nat) o.length g fun i => RowT.enc (o.getD i (0 : Int))]) := by kernel_rfl
def pickPre (p : Play) (s : Edge) (l : Rw Edge) : Prop := p.ok = true ∧ s.ok = true ∧ allN (fun i => (l.get i).ok) l.n = true ∧ l.n ≤ 1000
theorem pick_round (p : Play) (s : Edge) (least : Int) (l : Rw Edge) (hl : pickPre p s l) : RoundW (fun k : Nat => pickJ p s least l (picks (pickQ p s least l) k) k) (fun k => k ≤ l.n) (fun k => l.n - k) (fun _ e J => e = .exit 0 ∧ J = pickE (picks (pickQ p s least l) l.n)) 8 pickLs [] (mkE Try.prog tab_areS) (fun _ => hnd (mkE Try.prog tab_areS) 0) (bodyK Try.f66 0) := by
  obtain ⟨h1, h2, h3, h4⟩ := hl
  refine ⟨fun k g hk => ⟨den_of (pick_r p s least l _ k g) ?_⟩⟩
  have hlen := picks_len (pickQ p s least l) k
  refine den_br (fun h => ?_) (fun h => ?_)
  · have h : k < l.n := by have := of_decide_eq_true h; omega
    have hw : IntKind.i64.wrap ((k : Int) + 1) = ((k + 1 : Nat) : Int) := (w64 (by omega) (by omega)).trans (by omega)
    refine den_need (by simp; omega) (den_need (by simp; omega) (den_need (by simp only [okP, h1, h2, allN_get h3 h]; rfl) (den_br (fun hb => ?_) (fun hb => ?_))))
    · have e : picks (pickQ p s least l) (k + 1) = picks (pickQ p s least l) k ++ [(k : Int)] := by simp only [picks, pickQ]; rw [hb]
      refine den_need (by simp; omega) ⟨k + 1, h, by show l.n - (k + 1) < l.n - k; omega, fun _ _ h => h, rfl, rfl, _, pick_go1 _ _ _ _ _ _ _ _ _, ?_⟩
      rw [e]
      repeat' first | exact trivial | with_reducible rfl | exact Nat.le_refl _ | exact RowsEq.refl _ _ _ | exact hw | refine And.intro ?_ ?_
      · simp
      · simp
      · exact rows_snoc _ _
    · have e : picks (pickQ p s least l) (k + 1) = picks (pickQ p s least l) k := by simp only [picks, pickQ]; rw [hb]
      refine ⟨k + 1, h, by show l.n - (k + 1) < l.n - k; omega, fun _ _ h => h, rfl, rfl, _, pick_go0 _ _ _ _ _ _ _ _ _, ?_⟩
      rw [e]
      repeat' first | exact trivial | with_reducible rfl | exact Nat.le_refl _ | exact RowsEq.refl _ _ _ | exact hw | refine And.intro ?_ ?_
  · have : k = l.n := by have := of_decide_eq_false h; omega
    subst this
    refine ⟨_, ⟨rfl, rfl⟩, rfl, rfl, _, pick_end _ _ _, ?_⟩
    repeat' first | exact trivial | with_reducible rfl | exact Nat.le_refl _ | exact RowsEq.refl _ _ _ | refine And.intro ?_ ?_
theorem pick_hnd (p : Play) (s : Edge) (least : Int) (l : Rw Edge) (hl : pickPre p s l) (G : Ctx) (hrd : G.rd = none) (hG : G.n = 8) : HndOk (mkE Try.prog tab_areS) G { hnd (mkE Try.prog tab_areS) 1 with loop := fun _ => loopT 8 [] (pickJ p s least l [] (0 : Nat)) [(True, .exit 0, pickE (picks (pickQ p s least l) l.n))] } (bodyOf Try.f66) := by
  refine one_loop (body := bodyK Try.f66 0) (mkE_ok tab_areS_ok) hrd (by kernel_rfl) ?_
  refine loopT_ok (n0 := 8) (mkE_ok tab_areS_ok) (by omega) (fun s hs => hnd_hndOk (mkE_ok tab_areS_ok) 0 G _ hrd) (fun s hs => (by decide : 8 ≤ 32)) ?_ (pick_round p s least l hl) (s0 := 0) (Nat.zero_le _) ?_
  · rintro s e J ⟨_, rfl⟩; exact (by decide : 8 ≤ 32)
  · rintro e J ⟨rfl, rfl⟩
    exact ⟨_, List.mem_cons_self, trivial, rfl, rfl⟩
set_option maxRecDepth 100000 in
theorem pick_res (o : List Int) : subE 8 [.slz 24 0 o.length (.of 0)] [(24, .rowz true 3 [.int .i64] o.length fun i => RowT.enc (o.getD i 0))] (resJ 8 (.slz 0 0 o.length (.of 0)) [newL 3 0 o 0]) = (
    some [(0 : Nat) = (0 : Nat), o.length = o.length, Cap.of (0 : Nat) = Cap.of (0 : Nat), o.length ≤ o.length, RowsEq (1 : Nat) o.length (fun i => RowT.enc (o.getD i (0 : Int))) fun i
    => RowT.enc (o.getD i (0 : Int))]) := by kernel_rfl
def pickF : WF (Play × Edge × Int × (Rw Edge) × Unit) := fun | (p, (s, (least, (l, _)))) => (p.ok && s.ok && allN (fun i => (l.get i).ok) l.n && decide (l.n ≤ 1000), .slz 0 0 (picks (pickQ p s least l) l.n).length (.of 0), [newL 3 0 (picks (pickQ p s least l) l.n) 0])
def pickC : FC := wFC pickF
set_option maxRecDepth 100000 in
theorem pick_t (p : Play) (s : Edge) (least : Int) (l : (Rw Edge)) : execW (mkE Try.prog tab_areS) { hnd (mkE Try.prog tab_areS) 1 with loop := fun _ => loopT 8 [] (pickJ p s least l [] (0 : Nat)) [(True, .exit 0, pickE (picks (pickQ p s least l) l.n))] } Try.f66 (ArgsE.vals 0 ((p, s, least, l, ()) : Play × Edge × Int × (Rw Edge) × Unit)) (ArgsE.blks 0 ((p, s, least, l, ()) : Play × Edge × Int × (Rw Edge) × Unit)) 8 =
    Tree.ask (least = least) (Tree.ask ((0 : Nat) = (0 : Nat)) (Tree.ask ((0 : Nat) = (0 : Nat)) (Tree.ask ((0 : Nat) = (0 : Nat)) (Tree.ask ((0 : Nat) = (0 : Nat)) (Tree.ask ((0 : Nat)
    = (0 : Nat)) (Tree.ask ((0 : Nat) = (0 : Nat)) (Tree.ask (l.n = l.n) (Tree.ask (Cap.of (0 : Nat) = Cap.of (0 : Nat)) (Tree.ask ((↑l.n : Int) = (↑l.n : Int)) (Tree.ask ((0 : Int) =
    (0 : Int)) (Tree.ask (p.length = p.length) (Tree.ask (p.slack = p.slack) (Tree.ask (p.loose = p.loose) (Tree.ask (p.damp.lo = p.damp.lo) (Tree.ask (p.damp.hi = p.damp.hi) (Tree.ask
    (s.kind = s.kind) (Tree.ask (s.at_.lo = s.at_.lo) (Tree.ask (s.at_.hi = s.at_.hi) (Tree.ask (s.wide.lo = s.wide.lo) (Tree.ask (s.wide.hi = s.wide.hi) (Tree.ask (s.deep.lo =
    s.deep.lo) (Tree.ask (s.deep.hi = s.deep.hi) (Tree.ask ((0 : Nat) = (0 : Nat)) (Tree.ask (l.n ≤ l.n) (Tree.ask (RowsEq (7 : Nat) l.n (fun i => RowT.enc (l.get i)) fun i => RowT.enc
    (l.get i)) (Tree.asm True (Tree.all fun g0 => Tree.leaf (AV.slz (24 : Nat) (0 : Nat) (picks (pickQ p s least l) l.n).length (Cap.of (0 : Nat))) [((24 : Nat), Blk.rowz true (3 : Nat)
    [CK.int IntKind.i64] (picks (pickQ p s least l) l.n).length fun i => RowT.enc ((picks (pickQ p s least l) l.n).getD i (0 : Int)))]))))))))))))))))))))))))))) := by kernel_rfl
theorem pick_hs : WHnd (mkE Try.prog tab_areS) (bodyOf Try.f66) 8 pickF (fun x_ => { hnd (mkE Try.prog tab_areS) 1 with loop := fun _ => loopT 8 [] (pickJ x_.1 x_.2.1 x_.2.2.1 x_.2.2.2.1 [] (0 : Nat)) [(True, .exit 0, pickE (picks (pickQ x_.1 x_.2.1 x_.2.2.1 x_.2.2.2.1) x_.2.2.2.1.n))] }) := by
  refine ⟨?_⟩
  rintro ⟨p, ⟨s, ⟨least, ⟨l, ⟨⟩⟩⟩⟩⟩ hp G h1 h2
  exact pick_hnd p s least l (by simpa [pickF, pickPre, and_assoc] using hp) G h1 h2
theorem pick_run : WRun (mkE Try.prog tab_areS) Try.f66 8 pickF (fun x_ => { hnd (mkE Try.prog tab_areS) 1 with loop := fun _ => loopT 8 [] (pickJ x_.1 x_.2.1 x_.2.2.1 x_.2.2.2.1 [] (0 : Nat)) [(True, .exit 0, pickE (picks (pickQ x_.1 x_.2.1 x_.2.2.1 x_.2.2.2.1) x_.2.2.2.1.n))] }) := by
  refine ⟨?_⟩
  rintro ⟨p, ⟨s, ⟨least, ⟨l, ⟨⟩⟩⟩⟩⟩ hp
  refine ⟨⟨rfl, by simp [pickF, newL, Blk.own, Blk.all], rfl⟩, ⟨?_⟩⟩
  rw [pick_t p s least l]
  simp only [pickF] at hp
  repeat' first | refine den_ask (by with_reducible rfl) ?_ | refine den_ask (Nat.le_refl _) ?_ | refine den_ask (RowsEq.refl _ _ _) ?_
  refine den_asm fun _ => den_all fun g => ⟨rfl, rfl, _, pick_res _, ?_⟩
  repeat' first | exact trivial | with_reducible rfl | exact Nat.le_refl _ | exact RowsEq.refl _ _ _ | refine And.intro ?_ ?_
theorem pick_s : FSound Try.prog 66 pickC :=
  fn_W (mkE_ok tab_areS_ok) Try.func66 (by kernel_rfl) (by kernel_rfl) (by decide) pick_hs pick_run
def tab_pick : Tab := addF tab_areS 66 pickC
theorem tab_pick_ok : TabOk tab_pick := tab_areS_ok.add pick_s
def matO (p : Play) (s : Edge) (l : Rw Edge) : Bool := p.ok && (s.ok && allN (fun i => (l.get i).ok) l.n)
def matE (p : Play) (s : Edge) (l : Rw Edge) : Int := match matO p s l with
  | true => (match decide (l.n > 40) with | true => 3 | false => 0)
  | false => 1
def matL (p : Play) (s : Edge) (least : Int) (l : Rw Edge) : List Int := match matO p s l && decide (l.n ≤ 40) with
  | true => picks (pickQ p s least l) l.n
  | false => []
set_option maxRecDepth 100000 in
theorem mat_no (e f : Int) (o q : List Int) : subE 8 [.tup [.nils, .nils, .int true .i64 e]] [] (resJ 8 (.tup [.slz 0 0 o.length (.of 0), .slz 1 0 q.length (.of 0), .int false .i64 f]) [newL 3 0 o 0, newL 3 1 q 0]) = (
    some [o.length = (0 : Nat), q.length = (0 : Nat), e = f, o.length = (0 : Nat), q.length = (0 : Nat)]) := by kernel_rfl
set_option maxRecDepth 100000 in
theorem mat_yes (n m : Nat) (g h : Nat → Nat → Int) (e f : Int) (o q : List Int) : subE 8 [.tup [.slz 216 0 n (.of 0), .slz 248 0 m (.of 0), .int true .i64 e]] [(216, .rowz true 3 [.int .i64] n g), (248, .rowz true 3 [.int .i64] m h)] (resJ 8 (.tup [.slz 0 0 o.length (.of 0), .slz 1 0 q.length (.of 0), .int false .i64 f]) [newL 3 0 o 0, newL 3 1 q 0]) = (
    some [(0 : Nat) = (0 : Nat), n = o.length, Cap.of (0 : Nat) = Cap.of (0 : Nat), (0 : Nat) = (0 : Nat), m = q.length, Cap.of (0 : Nat) = Cap.of (0 : Nat), e = f, o.length ≤ n, RowsEq
    (1 : Nat) o.length g fun i => RowT.enc (o.getD i (0 : Int)), q.length ≤ m, RowsEq (1 : Nat) q.length h fun i => RowT.enc (q.getD i (0 : Int))]) := by kernel_rfl
def matF : WF (Play × Edge × (Rw Edge) × Unit) := fun | (p, (s, (l, _))) => (decide (l.n ≤ 1000), .tup [.slz 0 0 (matL p s 2 l).length (.of 0), .slz 1 0 (matL p s 1 l).length (.of 0), .int false .i64 (matE p s l)], [newL 3 0 (matL p s 2 l) 0, newL 3 1 (matL p s 1 l) 0])
def matC : FC := wFC matF
set_option maxRecDepth 100000 in
theorem mat_t (p : Play) (s : Edge) (l : (Rw Edge)) : execW (mkE Try.prog tab_pick) (hnd (mkE Try.prog tab_pick) 0) Try.f24 (ArgsE.vals 0 ((p, s, l, ()) : Play × Edge × (Rw Edge) × Unit)) (ArgsE.blks 0 ((p, s, l, ()) : Play × Edge × (Rw Edge) × Unit)) 8 =
    Tree.need true (Tree.br (!p.ok) (Tree.leaf (AV.tup [AV.nils, AV.nils, AV.int true IntKind.i64 (1 : Int)]) []) (Tree.need true (Tree.br (!s.ok) (Tree.leaf (AV.tup [AV.nils, AV.nils,
    AV.int true IntKind.i64 (1 : Int)]) []) (Tree.need (decide (l.n ≤ l.n) && true && decide (l.n ≤ (1000 : Nat))) (Tree.br (!allN (fun i => (l.get i).ok) l.n) (Tree.leaf (AV.tup
    [AV.nils, AV.nils, AV.int true IntKind.i64 (1 : Int)]) []) (Tree.br (decide ((↑l.n : Int) > (40 : Int))) (Tree.leaf (AV.tup [AV.nils, AV.nils, AV.int true IntKind.i64 (3 : Int)])
    []) (Tree.need (true && (true && (true && (decide (l.n ≤ l.n) && true))) && (p.ok && s.ok && allN (fun i => (l.get i).ok) l.n && decide (l.n ≤ (1000 : Nat)))) (Tree.need (true &&
    (true && (true && (decide (l.n ≤ l.n) && true))) && (p.ok && s.ok && allN (fun i => (l.get i).ok) l.n && decide (l.n ≤ (1000 : Nat)))) (Tree.leaf (AV.tup [AV.slz (216 : Nat) (0 :
    Nat) (picks (pickQ p s (2 : Int) l) l.n).length (Cap.of (0 : Nat)), AV.slz (248 : Nat) (0 : Nat) (picks (pickQ p s (1 : Int) l) l.n).length (Cap.of (0 : Nat)), AV.int true
    IntKind.i64 (0 : Int)]) [((216 : Nat), Blk.rowz true (3 : Nat) [CK.int IntKind.i64] (picks (pickQ p s (2 : Int) l) l.n).length fun i => RowT.enc ((picks (pickQ p s (2 : Int) l)
    l.n).getD i (0 : Int))), ((248 : Nat), Blk.rowz true (3 : Nat) [CK.int IntKind.i64] (picks (pickQ p s (1 : Int) l) l.n).length fun i => RowT.enc ((picks (pickQ p s (1 : Int) l)
    l.n).getD i (0 : Int)))]))))))))) := by kernel_rfl
theorem mat_hs : WHnd (mkE Try.prog tab_pick) (bodyOf Try.f24) 8 matF (fun x_ => (hnd (mkE Try.prog tab_pick) 0)) := by
  refine ⟨?_⟩
  rintro ⟨p, ⟨s, ⟨l, ⟨⟩⟩⟩⟩ hp G h1 h2
  exact hnd_hndOk (mkE_ok tab_pick_ok) 0 G _ h1
theorem mat_run : WRun (mkE Try.prog tab_pick) Try.f24 8 matF (fun x_ => (hnd (mkE Try.prog tab_pick) 0)) := by
  refine ⟨?_⟩
  rintro ⟨p, ⟨s, ⟨l, ⟨⟩⟩⟩⟩ hp
  refine ⟨⟨rfl, by simp [matF, newL, Blk.own, Blk.all], rfl⟩, ⟨?_⟩⟩
  rw [mat_t p s l]
  simp only [matF] at hp
  have hn : l.n ≤ 1000 := of_decide_eq_true hp
  have no : ∀ e : Int, matL p s 2 l = [] → matL p s 1 l = [] → matE p s l = e → (Tree.leaf (AV.tup [AV.nils, AV.nils, AV.int true IntKind.i64 e]) []).den (EndOk 8 (matF (p, s, l, ())).2.1 (matF (p, s, l, ())).2.2) := by
    intro e h1 h2 h3
    refine ⟨rfl, rfl, _, mat_no _ _ _ _, ?_⟩
    rw [h1, h2, h3]
    exact ⟨rfl, rfl, rfl, rfl, rfl, trivial⟩
  refine den_need rfl (den_br (fun h => ?_) (fun h => den_need rfl (den_br (fun h2 => ?_) (fun h2 => den_need (by simpa using hn) (den_br (fun h3 => ?_) (fun h3 => den_br (fun h4 => ?_) (fun h4 => ?_)))))))
  · have e : matO p s l = false := by simp [matO] at h ⊢; simp [h]
    exact no 1 (by simp [matL, e]) (by simp [matL, e]) (by simp [matE, e])
  · have e : matO p s l = false := by simp [matO] at h2 ⊢; simp [h2]
    exact no 1 (by simp [matL, e]) (by simp [matL, e]) (by simp [matE, e])
  · have e : matO p s l = false := by simp [matO] at h3 ⊢; simp [h3]
    exact no 1 (by simp [matL, e]) (by simp [matL, e]) (by simp [matE, e])
  · have h4 : l.n > 40 := by have := of_decide_eq_true h4; omega
    have e1 : decide (l.n > 40) = true := decide_eq_true h4
    have e2 : decide (l.n ≤ 40) = false := decide_eq_false (by omega)
    have e : matO p s l = true := by simp [matO] at h h2 h3 ⊢; exact ⟨h, h2, h3⟩
    exact no 3 (by simp only [matL, e, e2]; rfl) (by simp only [matL, e, e2]; rfl) (by simp only [matE, e, e1])
  · have h4 : ¬ l.n > 40 := by have := of_decide_eq_false h4; omega
    have e1 : decide (l.n > 40) = false := decide_eq_false h4
    have e2 : decide (l.n ≤ 40) = true := decide_eq_true (by omega)
    have e : matO p s l = true := by simp [matO] at h h2 h3 ⊢; exact ⟨h, h2, h3⟩
    have hq : (p.ok && s.ok && allN (fun i => (l.get i).ok) l.n && decide (l.n ≤ 1000)) = true := by simp at h h2 h3; simp [h, h2, h3, hn]
    refine den_need (by simp only [hq]; simp) (den_need (by simp only [hq]; simp) ⟨rfl, rfl, _, mat_yes _ _ _ _ _ _ _ _, ?_⟩)
    have k2 : matL p s 2 l = picks (pickQ p s 2 l) l.n := by simp only [matL, e, e2]; rfl
    have k1 : matL p s 1 l = picks (pickQ p s 1 l) l.n := by simp only [matL, e, e2]; rfl
    have k3 : matE p s l = 0 := by simp only [matE, e, e1]
    rw [k1, k2, k3]
    repeat' first | exact trivial | with_reducible rfl | exact Nat.le_refl _ | exact RowsEq.refl _ _ _ | refine And.intro ?_ ?_
theorem mat_s : FSound Try.prog 24 matC :=
  fn_W (mkE_ok tab_pick_ok) Try.func24 (by kernel_rfl) (by kernel_rfl) (by decide) mat_hs mat_run
def tab_mat : Tab := addF tab_pick 24 matC
theorem tab_mat_ok : TabOk tab_mat := tab_pick_ok.add mat_s
end Go.Proofs.Ytdaanchagjamfaa
/- Lists of sides: is one of another kind? (A closure that reads a captured number.) -/
namespace Go.SX
open Go Go.RowKit Go.Proofs.Ytdaanchagjamfaa

/-- A function that has captured one number. -/
structure FnB (g ty : Nat) where
  n : Int
instance (g ty : Nat) : ArgE (FnB g ty) where
  val k _ := .fn (.func g) [.ptr k 0 0]
  blk k x := [(k, .cellsR 0 ty [.int false .i64 x.n])]
  dec v lk := match v with
    | .fn (.func g') [.ptr id e j] => (match Nat.beq g' g && (Nat.beq e 0 && Nat.beq j 0) with
      | true => (match lk id with
        | some (.cellsR z ty' [.int _ .i64 n]) => (match Nat.beq ty' ty && Nat.beq z 0 with
          | true => some (true, ⟨n⟩)
          | false => none)
        | _ => none)
      | false => none)
    | _ => none
  ok v lk p x h _ := by
    split at h <;> (try (cases h; done))
    rename_i g' id e j
    split at h <;> (try (cases h; done))
    rename_i hg
    split at h <;> (try (cases h; done))
    rename_i z ty' c n hlk
    split at h <;> (try (cases h; done))
    rename_i hz
    simp only [Bool.and_eq_true] at hg hz
    have hg1 := Nat.eq_of_beq_eq_true hg.1
    have he := Nat.eq_of_beq_eq_true hg.2.1
    have hj := Nat.eq_of_beq_eq_true hg.2.2
    have ht := Nat.eq_of_beq_eq_true hz.1
    have hz0 := Nat.eq_of_beq_eq_true hz.2
    subst hg1 he hj ht hz0
    simp only [Option.some.injEq, Prod.mk.injEq] at h
    obtain ⟨_, rfl⟩ := h
    refine ⟨fun k => ⟨by simp [AV.all, AV.allL], fun q hq => ?_⟩, fun r w hb => ⟨r id, fun k r' hr => ⟨?_, fun q hq => ?_⟩⟩⟩
    · simp only [List.mem_singleton] at hq; subst hq
      exact ⟨rfl, rfl, rfl⟩
    · simp only [AV.den, AV.denL, hr]
    · simp only [List.mem_singleton] at hq; subst hq
      have := hb _ _ hlk
      simp only [BRep, AV.denL, AV.den] at this ⊢
      rw [hr]; exact this
end Go.SX
namespace Go.Proofs.Ytdaanchagjamfaa
open Go.SX
abbrev KindK : Type := FnB 69 3
def kindE (m : KindK) (l : Rw Edge) (i : Nat) : Bool := (l.get i).kind != m.n
def idk (l : Rw Edge) (m : KindK) : List (Nat × Blk) := ArgE.blk 0 l ++ ArgE.blk 1 m
def idkJ (l : Rw Edge) (m : KindK) (k : Nat) : JSt := ⟨19, [(0, .slz 0 0 l.n (.of 0)), (1, ArgE.val 1 m), (7, .int false .i64 l.n), (8, .int false .i64 k)], idk l m, 8⟩
set_option maxRecDepth 100000 in
theorem idk_r (l : Rw Edge) (m : KindK) (k : Nat) (g : Nat → Value) : exec (mkE Try.prog tab_areS) (hnd (mkE Try.prog tab_areS) 1) (bodyK Try.f83 0) (JSt.inst (idkJ l m k) g) (leafW [] idxLs) =
    Tree.br (decide ((↑k : Int) < (↑l.n : Int))) (Tree.need (decide ((0 : Int) ≤ (↑k : Int) ∧ (↑k : Int) < (↑l.n : Int)) && decide (l.n ≤ l.n)) (Tree.need (decide (k < l.n)) (Tree.br
    ((l.get k).kind != m.1) (Tree.leaf (AV.tup [AV.nili, AV.ptr (19 : Nat) (0 : Nat) (0 : Nat), AV.int false IntKind.i64 (↑k : Int)]) []) (Tree.leaf (AV.tup [AV.nilp, AV.ptr (19 : Nat)
    (0 : Nat) (0 : Nat), AV.slz (0 : Nat) (0 : Nat) l.n (Cap.of (0 : Nat)), AV.fn (Fn.func (69 : Nat)) [AV.ptr (1 : Nat) (0 : Nat) (0 : Nat)], AV.int false IntKind.i64 (↑l.n : Int),
    AV.int false IntKind.i64 (IntKind.i64.wrap ((↑k : Int) + (1 : Int)))]) [((0 : Nat), Blk.frz [CK.int IntKind.i64, CK.int IntKind.i64, CK.int IntKind.i64, CK.int IntKind.i64, CK.int
    IntKind.i64, CK.int IntKind.i64, CK.int IntKind.i64] l.n fun i => RowT.enc (l.get i)), ((1 : Nat), Blk.cellsR (0 : Nat) (3 : Nat) [AV.int false IntKind.i64 m.1])])))) (Tree.leaf
    (AV.tup [AV.ptr (0 : Nat) (0 : Nat) (0 : Nat), AV.ptr (19 : Nat) (0 : Nat) (0 : Nat)]) []) := by kernel_rfl
def idkR (l : Rw Edge) (m : KindK) (k : Nat) (e : Ex) (J : JSt) : Prop := (e = .ret ∧ (firstN (kindE m l) (l.n - k) k).isSome = true ∧ J = ⟨19, [(4, .int false .i64 (idxOf (firstN (kindE m l) (l.n - k) k)))], [], 8⟩) ∨ (e = .exit 0 ∧ firstN (kindE m l) (l.n - k) k = none ∧ J = ⟨19, [], [], 8⟩)
set_option maxRecDepth 100000 in
theorem idk_go (l : Rw Edge) (m : KindK) (k : Nat) (i : Int) : subE 8 [.slz 0 0 l.n (.of 0), ArgE.val 1 m, .int false .i64 l.n, .int false .i64 i] (idk l m) (idkJ l m k) = (
    some [(0 : Nat) = (0 : Nat), l.n = l.n, Cap.of (0 : Nat) = Cap.of (0 : Nat), Fn.func (69 : Nat) = Fn.func (69 : Nat), (0 : Nat) = (0 : Nat), (0 : Nat) = (0 : Nat), (↑l.n : Int) =
    (↑l.n : Int), i = (↑k : Int), l.n ≤ l.n, RowsEq (7 : Nat) l.n (fun i => RowT.enc (l.get i)) fun i => RowT.enc (l.get i), m.1 = m.1]) := by kernel_rfl
theorem idk_round (l : Rw Edge) (m : KindK) (hl : l.n ≤ 1000) : RoundW (idkJ l m) (fun k => k ≤ l.n) (fun k => l.n - k) (idkR l m) 8 idxLs [] (mkE Try.prog tab_areS) (fun _ => hnd (mkE Try.prog tab_areS) 1) (bodyK Try.f83 0) := by
  refine ⟨fun k g hk => ⟨den_of (idk_r l m k g) ?_⟩⟩
  refine den_br (fun h => ?_) (fun h => ?_)
  · have h : k < l.n := by have := of_decide_eq_true h; omega
    obtain ⟨n, hm⟩ : ∃ n, l.n - k = n + 1 := ⟨l.n - k - 1, by omega⟩
    have hm' : l.n - (k + 1) = n := by omega
    refine den_need (by simp; omega) (den_need (by simp; omega) (den_br (fun hb => ?_) (fun hb => ?_)))
    · have hf : firstN (kindE m l) (l.n - k) k = some k := by rw [hm, firstN]; unfold kindE; rw [hb]
      exact ⟨_, .inl ⟨rfl, by rw [hf]; rfl, rfl⟩, rfl, rfl, _, idx_ret _ _, by rw [hf]; exact ⟨rfl, trivial⟩⟩
    · have hf : firstN (kindE m l) (l.n - k) k = firstN (kindE m l) (l.n - (k + 1)) (k + 1) := by rw [hm, hm', firstN]; unfold kindE; rw [hb]
      refine ⟨k + 1, by omega, by show l.n - (k + 1) < l.n - k; omega, fun e J h => by unfold idkR at h ⊢; rw [hf]; exact h, rfl, rfl, _, idk_go _ _ _ _, ?_⟩
      repeat' first | exact trivial | with_reducible rfl | exact Nat.le_refl _ | exact RowsEq.refl _ _ _ | exact (w64 (by omega) (by omega)).trans (by omega) | refine And.intro ?_ ?_
  · have h : l.n ≤ k := by have := of_decide_eq_false h; omega
    have hf : firstN (kindE m l) (l.n - k) k = none := by rw [show l.n - k = 0 by omega]; rfl
    exact ⟨_, .inr ⟨rfl, hf, rfl⟩, rfl, rfl, _, idx_end, trivial⟩
def idkX (l : Rw Edge) (m : KindK) : List (Prop × Ex × JSt) := [((firstN (kindE m l) l.n 0).isSome = true, .ret, ⟨19, [(4, .int false .i64 (idxOf (firstN (kindE m l) l.n 0)))], [], 8⟩), (firstN (kindE m l) l.n 0 = none, .exit 0, ⟨19, [], [], 8⟩)]
abbrev idkL (l : Rw Edge) (m : KindK) : Code → St → (Ex → St → Tree) → Tree := fun _ => loopT 8 [] (idkJ l m 0) (idkX l m)
theorem idk_hnd (l : Rw Edge) (m : KindK) (hl : l.n ≤ 1000) (G : Ctx) (hrd : G.rd = none) (hG : G.n = 8) : HndOk (mkE Try.prog tab_areS) G { hnd (mkE Try.prog tab_areS) 1 with loop := idkL l m } (bodyOf Try.f83) := by
  refine one_loop (body := bodyK Try.f83 0) (mkE_ok tab_areS_ok) hrd (by kernel_rfl) ?_
  refine loopT_ok (n0 := 8) (mkE_ok tab_areS_ok) (by omega) (fun s hs => hnd_hndOk (mkE_ok tab_areS_ok) 1 G _ hrd) (fun s hs => Nat.le_refl _) ?_ (idk_round l m hl) (s0 := 0) (Nat.zero_le _) ?_
  · rintro s e J (⟨_, _, rfl⟩ | ⟨_, _, rfl⟩) <;> exact Nat.le_refl _
  · rintro e J (⟨rfl, h, rfl⟩ | ⟨rfl, h, rfl⟩)
    · exact ⟨_, List.mem_cons_self, h, rfl, rfl⟩
    · exact ⟨_, List.mem_cons_of_mem _ List.mem_cons_self, h, rfl, rfl⟩
def idkF : WF ((Rw Edge) × KindK × Unit) := fun | (l, (m, _)) => (decide (l.n ≤ 1000), .int false .i64 (idxOf (firstN (kindE m l) l.n 0)), [])
def idkC : FC := wFC idkF
set_option maxRecDepth 100000 in
theorem idk_t (l : (Rw Edge)) (m : KindK) : execW (mkE Try.prog tab_areS) { hnd (mkE Try.prog tab_areS) 1 with loop := idkL l m } Try.f83 (ArgsE.vals 0 ((l, m, ()) : (Rw Edge) × KindK × Unit)) (ArgsE.blks 0 ((l, m, ()) : (Rw Edge) × KindK × Unit)) 8 =
    Tree.ask ((0 : Nat) = (0 : Nat)) (Tree.ask (l.n = l.n) (Tree.ask (Cap.of (0 : Nat) = Cap.of (0 : Nat)) (Tree.ask (Fn.func (69 : Nat) = Fn.func (69 : Nat)) (Tree.ask ((0 : Nat) = (0
    : Nat)) (Tree.ask ((0 : Nat) = (0 : Nat)) (Tree.ask ((↑l.n : Int) = (↑l.n : Int)) (Tree.ask ((0 : Int) = (0 : Int)) (Tree.ask (l.n ≤ l.n) (Tree.ask (RowsEq (7 : Nat) l.n (fun i =>
    RowT.enc (l.get i)) fun i => RowT.enc (l.get i)) (Tree.ask (m.1 = m.1) ((Tree.asm ((firstN (kindE m l) l.n (0 : Nat)).isSome = true) (Tree.all fun g0 => Tree.leaf (AV.int false
    IntKind.i64 (idxOf (firstN (kindE m l) l.n (0 : Nat)))) [])).both (Tree.asm (firstN (kindE m l) l.n (0 : Nat) = none) (Tree.all fun g1 => Tree.leaf (AV.int true IntKind.i64 (-1 :
    Int)) []))))))))))))) := by kernel_rfl
theorem idk_hs : WHnd (mkE Try.prog tab_areS) (bodyOf Try.f83) 8 idkF (fun x_ => { hnd (mkE Try.prog tab_areS) 1 with loop := idkL x_.1 x_.2.1 }) := by
  refine ⟨?_⟩
  rintro ⟨l, ⟨m, ⟨⟩⟩⟩ hp G h1 h2
  exact idk_hnd l m (of_decide_eq_true hp) G h1 h2
theorem idk_run : WRun (mkE Try.prog tab_areS) Try.f83 8 idkF (fun x_ => { hnd (mkE Try.prog tab_areS) 1 with loop := idkL x_.1 x_.2.1 }) := by
  refine ⟨?_⟩
  rintro ⟨l, ⟨m, ⟨⟩⟩⟩ hp
  refine ⟨⟨rfl, by simp [idkF], rfl⟩, ⟨?_⟩⟩
  rw [idk_t l m]
  simp only [idkF] at hp
  repeat' first | refine den_ask (by with_reducible rfl) ?_ | refine den_ask (Nat.le_refl _) ?_ | refine den_ask (RowsEq.refl _ _ _) ?_ | refine den_ask (show _ = _ from rfl) ?_
  refine den_both (den_asm fun h => den_all fun g => ?_) (den_asm fun h => den_all fun g => ?_)
  · exact endOk_same ⟨rfl, rfl⟩ rfl
  · exact endOk_same ⟨rfl, by show (-1 : Int) = idxOf (firstN (kindE m l) l.n 0); rw [h]; rfl⟩ rfl
theorem idk_s : FSound Try.prog 83 idkC :=
  fn_W (mkE_ok tab_areS_ok) Try.func83 (by kernel_rfl) (by kernel_rfl) (by decide) idk_hs idk_run
def tab_idk : Tab := addF tab_areS 83 idkC
theorem tab_idk_ok : TabOk tab_idk := tab_areS_ok.add idk_s
def conkF : WF ((Rw Edge) × KindK × Unit) := fun | (l, (m, _)) => (decide (l.n ≤ 1000), .bool false (decide (idxOf (firstN (kindE m l) l.n 0) ≥ 0)), [])
def conkC : FC := wFC conkF
set_option maxRecDepth 100000 in
theorem conk_t (l : (Rw Edge)) (m : KindK) : execW (mkE Try.prog tab_idk) (hnd (mkE Try.prog tab_idk) 0) Try.f70 (ArgsE.vals 0 ((l, m, ()) : (Rw Edge) × KindK × Unit)) (ArgsE.blks 0 ((l, m, ()) : (Rw Edge) × KindK × Unit)) 8 =
    Tree.need (decide (l.n ≤ l.n) && (true && true) && decide (l.n ≤ (1000 : Nat))) (Tree.leaf (AV.bool false (decide (idxOf (firstN (kindE m l) l.n (0 : Nat)) ≥ (0 : Int)))) []) := by kernel_rfl
theorem conk_hs : WHnd (mkE Try.prog tab_idk) (bodyOf Try.f70) 8 conkF (fun x_ => (hnd (mkE Try.prog tab_idk) 0)) := by
  refine ⟨?_⟩
  rintro ⟨l, ⟨m, ⟨⟩⟩⟩ hp G h1 h2
  exact hnd_hndOk (mkE_ok tab_idk_ok) 0 G _ h1
theorem conk_run : WRun (mkE Try.prog tab_idk) Try.f70 8 conkF (fun x_ => (hnd (mkE Try.prog tab_idk) 0)) := by
  refine ⟨?_⟩
  rintro ⟨l, ⟨m, ⟨⟩⟩⟩ hp
  refine ⟨⟨rfl, by simp [conkF], rfl⟩, ⟨?_⟩⟩
  rw [conk_t l m]
  simp only [conkF] at hp
  exact den_need (by simpa using hp) (endOk_same rfl rfl)
theorem conk_s : FSound Try.prog 70 conkC :=
  fn_W (mkE_ok tab_idk_ok) Try.func70 (by kernel_rfl) (by kernel_rfl) (by decide) conk_hs conk_run
def tab_conk : Tab := addF tab_idk 70 conkC
theorem tab_conk_ok : TabOk tab_conk := tab_idk_ok.add conk_s
end Go.Proofs.Ytdaanchagjamfaa
/- slices.Clone of a list that is not empty; the recursion of fit.pairings. -/
namespace Go.Proofs.Ytdaanchagjamfaa
open Go.SX
def rwN {α : Type} [RowT α] (ty k : Nat) (o : Rw α) : Nat × Blk := (k, .rowz true ty (RowT.ks α) o.n fun i => RowT.enc (o.get i))
set_option maxRecDepth 100000 in
theorem cl_res (n : Nat) (g : Nat → Nat → Int) (o : Rw Int) : subE 8 [.slz 48 0 n (.of 0)] [(48, .rowz true 3 [.int .i64] n g)] (resJ 8 (.slz 0 0 o.n (.of 0)) [rwN 3 0 o]) = (
    some [(0 : Nat) = (0 : Nat), n = o.n, Cap.of (0 : Nat) = Cap.of (0 : Nat), o.n ≤ n, RowsEq (1 : Nat) o.n g fun i => RowT.enc (o.get i)]) := by kernel_rfl
theorem join0 (m n : Nat) (f g : Nat → Nat → Int) : RowsEq m n (joinG 0 f g) g := by
  intro i hi
  have : joinG 0 f g i = g i := by funext j; rw [joinG_get, if_neg (Nat.not_lt_zero i), Nat.sub_zero]
  rw [this]; exact eqF_refl _ _ _
def clF : WF ((Rw Int) × Unit) := fun | (x, _) => (decide (0 < x.n ∧ x.n ≤ 1000), .slz 0 0 x.n (.of 0), [rwN 3 0 x])
def clC : FC := wFC clF
set_option maxRecDepth 100000 in
theorem cl_t (x : (Rw Int)) : execW (mkE Try.prog tab_conk) (hnd (mkE Try.prog tab_conk) 0) Try.f86 (ArgsE.vals 0 ((x, ()) : (Rw Int) × Unit)) (ArgsE.blks 0 ((x, ()) : (Rw Int) × Unit)) 8 =
    Tree.need (decide ((0 : Nat) < x.n ∧ x.n ≤ x.n)) (Tree.need (true && (decide (x.n ≤ x.n) && decide (((0 : Nat) + x.n + ((0 : Nat) + x.n) / (4 : Nat) + (192 : Nat)) * (8 : Nat) ≤
    (281474976710656 : Nat) ∧ (0 : Nat) + x.n ≤ (9223372036854775807 : Nat)))) (Tree.leaf (AV.slz (48 : Nat) (0 : Nat) ((0 : Nat) + x.n) (Cap.of (0 : Nat))) [((48 : Nat), Blk.rowz true
    (3 : Nat) [CK.int IntKind.i64] ((0 : Nat) + x.n) (joinG (0 : Nat) (fun x x_1 => (0 : Int)) fun i => RowT.enc (x.get i)))])) := by kernel_rfl
theorem cl_hs : WHnd (mkE Try.prog tab_conk) (bodyOf Try.f86) 8 clF (fun x_ => (hnd (mkE Try.prog tab_conk) 0)) := by
  refine ⟨?_⟩
  rintro ⟨x, ⟨⟩⟩ hp G h1 h2
  exact hnd_hndOk (mkE_ok tab_conk_ok) 0 G _ h1
theorem cl_run : WRun (mkE Try.prog tab_conk) Try.f86 8 clF (fun x_ => (hnd (mkE Try.prog tab_conk) 0)) := by
  refine ⟨?_⟩
  rintro ⟨x, ⟨⟩⟩ hp
  refine ⟨⟨rfl, by simp [clF, rwN, Blk.own, Blk.all], rfl⟩, ⟨?_⟩⟩
  rw [cl_t x]
  simp only [clF] at hp
  have hp := of_decide_eq_true hp
  refine den_need (by simp; omega) (den_need (by simp; omega) ⟨rfl, rfl, _, cl_res _ _ _, ?_⟩)
  repeat' first | exact trivial | with_reducible rfl | exact Nat.zero_add _ | exact join0 _ _ _ _ | omega | refine And.intro ?_ ?_
theorem cl_s : FSound Try.prog 86 clC :=
  fn_W (mkE_ok tab_conk_ok) Try.func86 (by kernel_rfl) (by kernel_rfl) (by decide) cl_hs cl_run
def tab_cl : Tab := addF tab_conk 86 clC
theorem tab_cl_ok : TabOk tab_cl := tab_conk_ok.add cl_s
end Go.Proofs.Ytdaanchagjamfaa
