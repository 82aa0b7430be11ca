/- Lists of sides: which is the first that is not valid; are all valid? -/
import Derived.Test.YtbpffdkemeoajaaNto
import Derived.Test.YtbpffdkemeoajaaNtr
namespace Go.Proofs.Ytbpffdkemeoajaa
open Go.SX

def bodyK (fn : Func) (k : Nat) : Code := match (loops (bodyOf fn))[k]? with
  | some (.loop b) => b
  | _ => .skip
instance : RowT Edge where
  ks := [.int .i64, .int .i64, .int .i64, .int .i64, .int .i64, .int .i64, .int .i64]
  enc e j := match j with
    | 0 => e.kind
    | 1 => e.at_.lo
    | 2 => e.at_.hi
    | 3 => e.wide.lo
    | 4 => e.wide.hi
    | 5 => e.deep.lo
    | _ => e.deep.hi
  dec f := ⟨f 0, ⟨f 1, f 2⟩, ⟨f 3, f 4⟩, ⟨f 5, f 6⟩⟩
  ok _ := rfl
/-- A function as an argument: this one. -/
structure FnK (g : Nat) where
  u : Unit
instance (g : Nat) : Enc (FnK g) where
  enc _ := .fn (.func g) []
  dec v := match v with
    | .fn (.func g') [] => (match Nat.beq g' g with | true => some ⟨()⟩ | false => none)
    | _ => none
  ok v x h := by
    split at h <;> (try (cases h; done))
    split at h <;> (try (cases h; done))
    rename_i hg
    have := Nat.eq_of_beq_eq_true hg
    subst this
    exact ⟨fun _ => rfl, rfl⟩
/-- The first number from k on, of so many, of which something holds. -/
def firstN (p : Nat → Bool) : Nat → Nat → Option Nat
  | 0, _ => none
  | m + 1, k => match p k with
    | true => some k
    | false => firstN p m (k + 1)
def idxOf : Option Nat → Int
  | some i => i
  | none => -1
def allN (p : Nat → Bool) (n : Nat) : Bool := (firstN (fun i => !p i) n 0).isNone
theorem firstN_none {p : Nat → Bool} : ∀ {m k : Nat}, firstN p m k = none → ∀ i, k ≤ i → i < k + m → p i = false
  | 0, k, _, i, h1, h2 => by omega
  | m + 1, k, h, i, h1, h2 => by
    simp only [firstN] at h
    split at h
    · cases h
    · rename_i hk
      rcases Nat.eq_or_lt_of_le h1 with rfl | hlt
      · exact hk
      · exact firstN_none h i hlt (by omega)
theorem allN_get {p : Nat → Bool} {n : Nat} (h : allN p n = true) {i : Nat} (hi : i < n) : p i = true := by
  unfold allN at h
  rw [Option.isNone_iff_eq_none] at h
  have := firstN_none h i (Nat.zero_le _) (by omega)
  simpa using this
theorem firstN_all {p : Nat → Bool} : ∀ {m k : Nat}, (∀ i, k ≤ i → i < k + m → p i = false) → firstN p m k = none
  | 0, _, _ => rfl
  | m + 1, k, h => by
    simp only [firstN]
    rw [h k (Nat.le_refl _) (by omega)]
    exact firstN_all fun i h1 h2 => h i (by omega) (by omega)
theorem allN_of {p : Nat → Bool} {n : Nat} (h : ∀ i, i < n → p i = true) : allN p n = true := by
  unfold allN
  rw [firstN_all (fun i _ hi => by rw [h i (by omega)]; rfl)]; rfl
def areS1F : Edge × Unit → Bool × AV := fun | (s, _) => (true, .bool false (!s.ok))
def areS1C : FC := pureFC (pfOf areS1F)
set_option maxRecDepth 100000 in
theorem areS1_t (s : Edge) : execFn (mkE Try.prog tab_FitP) (hnd (mkE Try.prog tab_FitP) 0) false Try.f84 (EncL.enc ((s, ()) : Edge × Unit)) [] 0 =
    Tree.need (true) (Tree.leaf (AV.bool false !s.ok) ([])) := by kernel_rfl
theorem areS1_s : FSound Try.prog 84 areS1C := by
  refine plain_fn tab_FitP_ok 0 Try.func84 (by kernel_rfl) (by kernel_rfl) ?_
  rintro ⟨s, ⟨⟩⟩ hp
  rw [areS1_t s]
  simp only [areS1F, Tree.den, AV.same, AV.sameL, and_true, true_and] at hp ⊢
def tab_areS1 : Tab := addF tab_FitP 84 areS1C
theorem tab_areS1_ok : TabOk tab_areS1 := tab_FitP_ok.add areS1_s
def badE (l : Rw Edge) (i : Nat) : Bool := !(l.get i).ok
def idxJ (l : Rw Edge) (k : Nat) : JSt := ⟨19, [(0, .slz 0 0 l.n (.of 0)), (1, .fn (.func 84) []), (7, .int false .i64 l.n), (8, .int false .i64 k)], ArgE.blk 0 l, 8⟩
def idxLs : Ex → List Nat
  | .normal => [0, 1, 7, 8]
  | .exit _ => []
  | .ret => [4]
set_option maxRecDepth 100000 in
theorem idx_r (l : Rw Edge) (k : Nat) (g : Nat → Value) : exec (mkE Try.prog tab_areS1) (hnd (mkE Try.prog tab_areS1) 0) (bodyK Try.f96 0) (JSt.inst (idxJ l k) g) (leafW [] idxLs) =
    Tree.br (decide ((↑k : Int) < (↑l.n : Int))) (Tree.need (decide ((0 : Int) ≤ (↑k : Int) ∧ (↑k : Int) < (↑l.n : Int)) && decide (l.n ≤ l.n)) (Tree.need (decide (k < l.n)) (Tree.need
    (true) (Tree.br (!(l.get k).ok) (Tree.leaf (AV.tup [AV.nili, AV.ptr (19 : Nat) (0 : Nat) (0 : Nat), AV.int false IntKind.i64 (↑k : Int)]) ([])) (Tree.leaf (AV.tup [AV.nilp, AV.ptr
    (19 : Nat) (0 : Nat) (0 : Nat), AV.slz (0 : Nat) (0 : Nat) l.n (Cap.of (0 : Nat)), AV.fn (Fn.func (84 : Nat)) [], AV.int false IntKind.i64 (↑l.n : Int), AV.int false IntKind.i64
    (IntKind.i64.wrap ((↑k : Int) + (1 : Int)))]) ([((0 : Nat), Blk.frz [CK.int IntKind.i64, CK.int IntKind.i64, CK.int IntKind.i64, CK.int IntKind.i64, CK.int IntKind.i64, CK.int
    IntKind.i64, CK.int IntKind.i64] l.n fun i => RowT.enc (l.get i))])))))) (Tree.leaf (AV.tup [AV.ptr (0 : Nat) (0 : Nat) (0 : Nat), AV.ptr (19 : Nat) (0 : Nat) (0 : Nat)]) ([])) := by kernel_rfl
def idxR (l : Rw Edge) (k : Nat) (e : Ex) (J : JSt) : Prop := (e = .ret ∧ (firstN (badE l) (l.n - k) k).isSome = true ∧ J = ⟨19, [(4, .int false .i64 (idxOf (firstN (badE l) (l.n - k) k)))], [], 8⟩) ∨ (e = .exit 0 ∧ firstN (badE l) (l.n - k) k = none ∧ J = ⟨19, [], [], 8⟩)
set_option maxRecDepth 100000 in
theorem idx_go (l : Rw Edge) (k : Nat) (i : Int) : subE 8 [.slz 0 0 l.n (.of 0), .fn (.func 84) [], .int false .i64 l.n, .int false .i64 i] (ArgE.blk 0 l) (idxJ l k) = (
    some [(0 : Nat) = (0 : Nat), l.n = l.n, Cap.of (0 : Nat) = Cap.of (0 : Nat), Fn.func (84 : FuncId) = Fn.func (84 : FuncId), (↑l.n : Int) = (↑l.n : Int), i = (↑k : Int), l.n ≤ l.n,
    RowsEq (7 : Nat) l.n (fun i => RowT.enc (l.get i)) fun i => RowT.enc (l.get i)]) := by kernel_rfl
set_option maxRecDepth 100000 in
theorem idx_ret (i j : Int) : subE 8 [.int false .i64 i] [] ⟨19, [(4, .int false .i64 j)], [], 8⟩ = (
    some [i = j]) := by kernel_rfl
set_option maxRecDepth 100000 in
theorem idx_end  : subE 8 [] [] ⟨19, [], [], 8⟩ = (
    some []) := by kernel_rfl
theorem idx_round (l : Rw Edge) (hl : l.n ≤ 1000) : RoundW (idxJ l) (fun k => k ≤ l.n) (fun k => l.n - k) (idxR l) 8 idxLs [] (mkE Try.prog tab_areS1) (fun _ => hnd (mkE Try.prog tab_areS1) 0) (bodyK Try.f96 0) := by
  refine ⟨fun k g hk => ⟨den_of (idx_r l k g) ?_⟩⟩
  refine den_br (fun h => ?_) (fun h => ?_)
  · have h : k < l.n := by have := of_decide_eq_true h; omega
    obtain ⟨m, hm⟩ : ∃ m, l.n - k = m + 1 := ⟨l.n - k - 1, by omega⟩
    have hm' : l.n - (k + 1) = m := by omega
    refine den_need (by simp; omega) (den_need (by simp; omega) (den_need rfl (den_br (fun hb => ?_) (fun hb => ?_))))
    · have hf : firstN (badE l) (l.n - k) k = some k := by rw [hm, firstN]; unfold badE; rw [hb]
      exact ⟨_, .inl ⟨rfl, by rw [hf]; rfl, rfl⟩, rfl, rfl, _, idx_ret _ _, by rw [hf]; exact ⟨rfl, trivial⟩⟩
    · have hf : firstN (badE l) (l.n - k) k = firstN (badE l) (l.n - (k + 1)) (k + 1) := by rw [hm, hm', firstN]; unfold badE; rw [hb]
      refine ⟨k + 1, by omega, by show l.n - (k + 1) < l.n - k; omega, fun e J h => by unfold idxR at h ⊢; rw [hf]; exact h, rfl, rfl, _, idx_go _ _ _, ?_⟩
      exact ⟨rfl, rfl, rfl, rfl, rfl, (w64 (by omega) (by omega)).trans (by omega), Nat.le_refl _, RowsEq.refl _ _ _, trivial⟩
  · have h : l.n ≤ k := by have := of_decide_eq_false h; omega
    have hf : firstN (badE l) (l.n - k) k = none := by rw [show l.n - k = 0 by omega]; rfl
    exact ⟨_, .inr ⟨rfl, hf, rfl⟩, rfl, rfl, _, idx_end, trivial⟩
def idxX (l : Rw Edge) : List (Prop × Ex × JSt) := [((firstN (badE l) l.n 0).isSome = true, .ret, ⟨19, [(4, .int false .i64 (idxOf (firstN (badE l) l.n 0)))], [], 8⟩), (firstN (badE l) l.n 0 = none, .exit 0, ⟨19, [], [], 8⟩)]
abbrev idxH (P : Program) (l : Rw Edge) : Hnd := { hnd (mkE P tab_areS1) 1 with loop := fun _ => loopT 8 [] (idxJ l 0) (idxX l) }
theorem idx_hnd (l : Rw Edge) (hl : l.n ≤ 1000) (G : Ctx) (hrd : G.rd = none) (hG : G.n = 8) : HndOk (mkE Try.prog tab_areS1) G (idxH Try.prog l) (bodyOf Try.f96) := by
  refine one_loop (body := bodyK Try.f96 0) (mkE_ok tab_areS1_ok) hrd (by kernel_rfl) ?_
  refine loopT_ok (n0 := 8) (mkE_ok tab_areS1_ok) (by omega) (fun s hs => hnd_hndOk (mkE_ok tab_areS1_ok) 0 G _ hrd) (fun s hs => Nat.le_refl _) ?_ (idx_round l hl) (s0 := 0) (Nat.zero_le _) ?_
  · rintro s e J (⟨_, _, rfl⟩ | ⟨_, _, rfl⟩) <;> exact Nat.le_refl _
  · rintro e J (⟨rfl, h, rfl⟩ | ⟨rfl, h, rfl⟩)
    · exact ⟨_, List.mem_cons_self, h, rfl, rfl⟩
    · exact ⟨_, List.mem_cons_of_mem _ List.mem_cons_self, h, rfl, rfl⟩
set_option maxRecDepth 100000 in
theorem idx_t (l : Rw Edge) (x : FnK 84) : execW (mkE Try.prog tab_areS1) (idxH Try.prog l) Try.f96 (ArgsE.vals 0 (l, x, ())) (ArgsE.blks 0 (l, x, ())) 8 =
    Tree.ask ((0 : Nat) = (0 : Nat)) (Tree.ask (l.n = l.n) (Tree.ask (Cap.of (0 : Nat) = Cap.of (0 : Nat)) (Tree.ask (Fn.func (84 : Nat) = Fn.func (84 : FuncId)) (Tree.ask ((↑l.n : Int)
    = (↑l.n : Int)) (Tree.ask ((0 : Int) = (0 : Int)) (Tree.ask (l.n ≤ l.n) (Tree.ask (RowsEq (7 : Nat) l.n (fun i => RowT.enc (l.get i)) fun i => RowT.enc (l.get i)) (Tree.both
    (Tree.asm ((firstN (badE l) l.n (0 : Nat)).isSome = true) (Tree.all (fun (g0 : Nat → Value) => Tree.leaf (AV.int false IntKind.i64 (idxOf (firstN (badE l) l.n (0 : Nat)))) ([]))))
    (Tree.asm (firstN (badE l) l.n (0 : Nat) = none) (Tree.all (fun (g1 : Nat → Value) => Tree.leaf (AV.int true IntKind.i64 (-1 : Int)) ([])))))))))))) := by kernel_rfl
def idxF : WF (Rw Edge × FnK 84 × Unit) := fun x => (decide (x.1.n ≤ 1000), .int false .i64 (idxOf (firstN (badE x.1) x.1.n 0)), [])
def idxC : FC := wFC idxF
theorem idx_hs : WHnd (mkE Try.prog tab_areS1) (bodyOf Try.f96) 8 idxF (fun x => idxH Try.prog x.1) :=
  ⟨fun x hx G h1 h2 => idx_hnd x.1 (of_decide_eq_true hx) G h1 h2⟩
theorem idx_run : WRun (mkE Try.prog tab_areS1) Try.f96 8 idxF (fun x => idxH Try.prog x.1) := by
  refine ⟨?_⟩
  rintro ⟨l, x, ⟨⟩⟩ hp
  refine ⟨⟨rfl, by simp [idxF], rfl⟩, ⟨?_⟩⟩
  rw [idx_t l x]
  refine den_ask rfl (den_ask rfl (den_ask rfl (den_ask rfl (den_ask rfl (den_ask rfl (den_ask (Nat.le_refl _) (den_ask (RowsEq.refl _ _ _) (den_both (den_asm fun h => den_all fun g => ?_) (den_asm fun h => den_all fun g => ?_)))))))))
  · exact endOk_same ⟨rfl, rfl⟩ rfl
  · exact endOk_same ⟨rfl, by show (-1 : Int) = idxOf (firstN (badE l) l.n 0); rw [h]; rfl⟩ rfl
theorem idx_s : FSound Try.prog 96 idxC :=
  fn_W (mkE_ok tab_areS1_ok) Try.func96 (by kernel_rfl) (by kernel_rfl) (by decide) idx_hs idx_run
def tab_idx : Tab := addF tab_areS1 96 idxC
theorem tab_idx_ok : TabOk tab_idx := tab_areS1_ok.add idx_s
def conF : WF ((Rw Edge) × (FnK 84) × Unit) := fun | (l, (x, _)) => (decide (l.n ≤ 1000), .bool false (decide (idxOf (firstN (badE l) l.n 0) ≥ 0)), [])
def conC : FC := wFC conF
set_option maxRecDepth 100000 in
theorem con_t (l : (Rw Edge)) (x : (FnK 84)) : execW (mkE Try.prog tab_idx) (hnd (mkE Try.prog tab_idx) 0) Try.f83 (ArgsE.vals 0 ((l, x, ()) : (Rw Edge) × (FnK 84) × Unit)) (ArgsE.blks 0 ((l, x, ()) : (Rw Edge) × (FnK 84) × Unit)) 8 =
    Tree.need (decide (l.n ≤ l.n) && (true && true) && decide (l.n ≤ (1000 : Nat))) (Tree.leaf (AV.bool false (decide (idxOf (firstN (badE l) l.n (0 : Nat)) ≥ (0 : Int)))) ([])) := by kernel_rfl
theorem con_hs : WHnd (mkE Try.prog tab_idx) (bodyOf Try.f83) 8 conF (fun x_ => (hnd (mkE Try.prog tab_idx) 0)) := by
  refine ⟨?_⟩
  rintro ⟨l, ⟨x, ⟨⟩⟩⟩ hp G h1 h2
  exact hnd_hndOk (mkE_ok tab_idx_ok) 0 G _ h1
theorem con_run : WRun (mkE Try.prog tab_idx) Try.f83 8 conF (fun x_ => (hnd (mkE Try.prog tab_idx) 0)) := by
  refine ⟨?_⟩
  rintro ⟨l, ⟨x, ⟨⟩⟩⟩ hp
  refine ⟨⟨rfl, by simp [conF], rfl⟩, ⟨?_⟩⟩
  rw [con_t l x]
  simp only [conF] at hp
  exact den_need (by simpa using hp) (endOk_same rfl rfl)
theorem con_s : FSound Try.prog 83 conC :=
  fn_W (mkE_ok tab_idx_ok) Try.func83 (by kernel_rfl) (by kernel_rfl) (by decide) con_hs con_run
def tab_con : Tab := addF tab_idx 83 conC
theorem tab_con_ok : TabOk tab_con := tab_idx_ok.add con_s
theorem idxOf_neg : ∀ (o : Option Nat), (!decide (idxOf o ≥ 0)) = o.isNone
  | some i => by simp [idxOf]
  | none => rfl
def areSF : WF ((Rw Edge) × Unit) := fun | (l, _) => (decide (l.n ≤ 1000), .bool false (allN (fun i => (l.get i).ok) l.n), [])
def areSC : FC := wFC areSF
set_option maxRecDepth 100000 in
theorem areS_t (l : (Rw Edge)) : execW (mkE Try.prog tab_con) (hnd (mkE Try.prog tab_con) 0) Try.f60 (ArgsE.vals 0 ((l, ()) : (Rw Edge) × Unit)) (ArgsE.blks 0 ((l, ()) : (Rw Edge) × Unit)) 8 =
    Tree.need (decide (l.n ≤ l.n) && (true && true) && decide (l.n ≤ (1000 : Nat))) (Tree.leaf (AV.bool false !decide (idxOf (firstN (badE l) l.n (0 : Nat)) ≥ (0 : Int))) ([])) := by kernel_rfl
theorem areS_hs : WHnd (mkE Try.prog tab_con) (bodyOf Try.f60) 8 areSF (fun x_ => (hnd (mkE Try.prog tab_con) 0)) := by
  refine ⟨?_⟩
  rintro ⟨l, ⟨⟩⟩ hp G h1 h2
  exact hnd_hndOk (mkE_ok tab_con_ok) 0 G _ h1
theorem areS_run : WRun (mkE Try.prog tab_con) Try.f60 8 areSF (fun x_ => (hnd (mkE Try.prog tab_con) 0)) := by
  refine ⟨?_⟩
  rintro ⟨l, ⟨⟩⟩ hp
  refine ⟨⟨rfl, by simp [areSF], rfl⟩, ⟨?_⟩⟩
  rw [areS_t l]
  simp only [areSF] at hp
  exact den_need (by simpa using hp) (endOk_same (idxOf_neg _) rfl)
theorem areS_s : FSound Try.prog 60 areSC :=
  fn_W (mkE_ok tab_con_ok) Try.func60 (by kernel_rfl) (by kernel_rfl) (by decide) areS_hs areS_run
def tab_areS : Tab := addF tab_con 60 areSC
theorem tab_areS_ok : TabOk tab_areS := tab_con_ok.add areS_s
end Go.Proofs.Ytbpffdkemeoajaa
/- fit.pick and fit.Matches. -/
namespace Go.Proofs.Ytbpffdkemeoajaa
open Go.SX

/-- A new row of these. -/
def newL {α : Type} [RowT α] (ty k : Nat) (l : List α) (d : α) : Nat × Blk := (k, .rowz true ty (RowT.ks α) l.length fun i => RowT.enc (l.getD i d))
/-- The numbers below k of which something holds. -/
def picks (q : Nat → Bool) : Nat → List Int
  | 0 => []
  | k + 1 => match q k with
    | true => picks q k ++ [(k : Int)]
    | false => picks q k
theorem picks_len (q : Nat → Bool) : ∀ k, (picks q k).length ≤ k
  | 0 => Nat.le_refl _
  | k + 1 => by
    have := picks_len q k
    simp only [picks]
    split <;> simp <;> omega
def pickQ (p : Play) (s : Edge) (least : Int) (l : Rw Edge) (i : Nat) : Bool := decide (fitsF p s (l.get i) ≥ least)
def pickJ (p : Play) (s : Edge) (least : Int) (l : Rw Edge) (o : List Int) (k : Int) : JSt :=
  ⟨30, [(2, .int false .i64 least), (4, .ptr 8 0 0), (5, .ptr 16 0 0), (8, .slz 24 0 o.length (.of 0)), (11, .slz 3 0 l.n (.of 0)), (12, .int false .i64 l.n), (13, .int false .i64 k)],
    [(8, .cells 0 25 (Enc.enc p).cells), (16, .cells 0 30 (Enc.enc s).cells), newL 3 24 o 0] ++ ArgE.blk 3 l, 32⟩
def pickLs : Ex → List Nat
  | .normal => [2, 4, 5, 8, 11, 12, 13]
  | _ => [8]
set_option maxRecDepth 100000 in
theorem pick_r (p : Play) (s : Edge) (least : Int) (l : Rw Edge) (o : List Int) (k : Nat) (g : Nat → Value) : exec (mkE Try.prog tab_areS) (hnd (mkE Try.prog tab_areS) 0) (bodyK Try.f91 0) (JSt.inst (pickJ p s least l o k) g) (leafW [] pickLs) =
    Tree.br (decide ((↑k : Int) < (↑l.n : Int))) (Tree.need (decide ((0 : Int) ≤ (↑k : Int) ∧ (↑k : Int) < (↑l.n : Int)) && decide (l.n ≤ l.n)) (Tree.need (decide (k < l.n)) (Tree.need
    (okP p s (l.get k)) (Tree.br (decide (fitsF p s (l.get k) ≥ least)) (Tree.need (decide (o.length ≤ o.length) && (true && decide ((o.length + (1 : Nat) + (o.length + (1 : Nat)) / (4
    : Nat) + (192 : Nat)) * (8 : Nat) ≤ (281474976710656 : Nat) ∧ o.length + (1 : Nat) ≤ (9223372036854775807 : Nat)))) (Tree.leaf (AV.tup [AV.nilp, AV.ptr (30 : Nat) (0 : Nat) (0 :
    Nat), AV.int false IntKind.i64 least, AV.ptr (8 : Nat) (0 : Nat) (0 : Nat), AV.ptr (16 : Nat) (0 : Nat) (0 : Nat), AV.slz (160 : Nat) (0 : Nat) (o.length + (1 : Nat)) (Cap.of (0 :
    Nat)), AV.slz (3 : Nat) (0 : Nat) l.n (Cap.of (0 : Nat)), AV.int false IntKind.i64 (↑l.n : Int), AV.int false IntKind.i64 (IntKind.i64.wrap ((↑k : Int) + (1 : Int)))]) ([((8 : Nat),
    Blk.cells (0 : Nat) (25 : Nat) [AV.int false IntKind.i64 p.length, AV.int false IntKind.i64 p.slack, AV.int false IntKind.i64 p.loose, AV.int false IntKind.i64 p.damp.lo, AV.int
    false IntKind.i64 p.damp.hi]), ((16 : Nat), Blk.cells (0 : Nat) (30 : Nat) [AV.int false IntKind.i64 s.kind, AV.int false IntKind.i64 s.at_.lo, AV.int false IntKind.i64 s.at_.hi,
    AV.int false IntKind.i64 s.wide.lo, AV.int false IntKind.i64 s.wide.hi, AV.int false IntKind.i64 s.deep.lo, AV.int false IntKind.i64 s.deep.hi]), ((160 : Nat), Blk.rowz true (3 :
    Nat) [CK.int IntKind.i64] (o.length + (1 : Nat)) (joinG o.length (fun i => RowT.enc (o.getD i (0 : Int))) (rowI [[AV.int false IntKind.i64 (↑k : Int)]] (0 : Nat)))), ((3 : Nat),
    Blk.frz [CK.int IntKind.i64, CK.int IntKind.i64, CK.int IntKind.i64, CK.int IntKind.i64, CK.int IntKind.i64, CK.int IntKind.i64, CK.int IntKind.i64] l.n fun i => RowT.enc (l.get
    i))]))) (Tree.leaf (AV.tup [AV.nilp, AV.ptr (30 : Nat) (0 : Nat) (0 : Nat), AV.int false IntKind.i64 least, AV.ptr (8 : Nat) (0 : Nat) (0 : Nat), AV.ptr (16 : Nat) (0 : Nat) (0 :
    Nat), AV.slz (24 : Nat) (0 : Nat) o.length (Cap.of (0 : Nat)), AV.slz (3 : Nat) (0 : Nat) l.n (Cap.of (0 : Nat)), AV.int false IntKind.i64 (↑l.n : Int), AV.int false IntKind.i64
    (IntKind.i64.wrap ((↑k : Int) + (1 : Int)))]) ([((8 : Nat), Blk.cells (0 : Nat) (25 : Nat) [AV.int false IntKind.i64 p.length, AV.int false IntKind.i64 p.slack, AV.int false
    IntKind.i64 p.loose, AV.int false IntKind.i64 p.damp.lo, AV.int false IntKind.i64 p.damp.hi]), ((16 : Nat), Blk.cells (0 : Nat) (30 : Nat) [AV.int false IntKind.i64 s.kind, AV.int
    false IntKind.i64 s.at_.lo, AV.int false IntKind.i64 s.at_.hi, AV.int false IntKind.i64 s.wide.lo, AV.int false IntKind.i64 s.wide.hi, AV.int false IntKind.i64 s.deep.lo, AV.int
    false IntKind.i64 s.deep.hi]), ((24 : Nat), Blk.rowz true (3 : Nat) [CK.int IntKind.i64] o.length fun i => RowT.enc (o.getD i (0 : Int))), ((3 : Nat), Blk.frz [CK.int IntKind.i64,
    CK.int IntKind.i64, CK.int IntKind.i64, CK.int IntKind.i64, CK.int IntKind.i64, CK.int IntKind.i64, CK.int IntKind.i64] l.n fun i => RowT.enc (l.get i))])))))) (Tree.leaf (AV.tup
    [AV.ptr (0 : Nat) (0 : Nat) (0 : Nat), AV.ptr (30 : Nat) (0 : Nat) (0 : Nat), AV.slz (24 : Nat) (0 : Nat) o.length (Cap.of (0 : Nat))]) ([((24 : Nat), Blk.rowz true (3 : Nat)
    [CK.int IntKind.i64] o.length fun i => RowT.enc (o.getD i (0 : Int)))])) := by kernel_rfl
theorem rows_snoc (o : List Int) (x : Int) : RowsEq 1 (o ++ [x]).length (joinG o.length (fun i => RowT.enc (o.getD i 0)) (rowI [[AV.int false IntKind.i64 x]] 0)) (fun i => RowT.enc ((o ++ [x]).getD i 0)) := by
  intro i hi
  refine ⟨?_, trivial⟩
  rw [joinG_get]
  rw [List.length_append, List.length_singleton] at hi
  split
  · rename_i h
    show o.getD i 0 = (o ++ [x]).getD i 0
    rw [List.getD_eq_getElem?_getD, List.getD_eq_getElem?_getD, List.getElem?_append_left h]
  · rename_i h
    have : i = o.length := by omega
    subst this
    show x = (o ++ [x]).getD o.length 0
    simp
set_option maxRecDepth 100000 in
theorem pick_go0 (p : Play) (s : Edge) (least : Int) (l : Rw Edge) (n : Nat) (g : Nat → Nat → Int) (i : Int) (o : List Int) (k : Int) : subE 8 [.int false .i64 least, .ptr 8 0 0, .ptr 16 0 0, .slz 24 0 n (.of 0), .slz 3 0 l.n (.of 0), .int false .i64 l.n, .int false .i64 i] ([(8, .cells 0 25 (Enc.enc p).cells), (16, .cells 0 30 (Enc.enc s).cells), (24, .rowz true 3 [.int .i64] n g)] ++ ArgE.blk 3 l) (pickJ p s least l o k) = (
    some [least = least, (0 : Nat) = (0 : Nat), (0 : Nat) = (0 : Nat), (0 : Nat) = (0 : Nat), (0 : Nat) = (0 : Nat), (0 : Nat) = (0 : Nat), n = o.length, Cap.of (0 : Nat) = Cap.of (0 :
    Nat), (0 : Nat) = (0 : Nat), l.n = l.n, Cap.of (0 : Nat) = Cap.of (0 : Nat), (↑l.n : Int) = (↑l.n : Int), i = k, p.length = p.length, p.slack = p.slack, p.loose = p.loose, p.damp.lo
    = p.damp.lo, p.damp.hi = p.damp.hi, s.kind = s.kind, s.at_.lo = s.at_.lo, s.at_.hi = s.at_.hi, s.wide.lo = s.wide.lo, s.wide.hi = s.wide.hi, s.deep.lo = s.deep.lo, s.deep.hi =
    s.deep.hi, o.length ≤ n, RowsEq (1 : Nat) o.length g fun i => RowT.enc (o.getD i (0 : Int)), l.n ≤ l.n, RowsEq (7 : Nat) l.n (fun i => RowT.enc (l.get i)) fun i => RowT.enc (l.get
    i)]) := by kernel_rfl
set_option maxRecDepth 100000 in
theorem pick_go1 (p : Play) (s : Edge) (least : Int) (l : Rw Edge) (n : Nat) (g : Nat → Nat → Int) (i : Int) (o : List Int) (k : Int) : subE 8 [.int false .i64 least, .ptr 8 0 0, .ptr 16 0 0, .slz 160 0 n (.of 0), .slz 3 0 l.n (.of 0), .int false .i64 l.n, .int false .i64 i] ([(8, .cells 0 25 (Enc.enc p).cells), (16, .cells 0 30 (Enc.enc s).cells), (160, .rowz true 3 [.int .i64] n g)] ++ ArgE.blk 3 l) (pickJ p s least l o k) = (
    some [least = least, (0 : Nat) = (0 : Nat), (0 : Nat) = (0 : Nat), (0 : Nat) = (0 : Nat), (0 : Nat) = (0 : Nat), (0 : Nat) = (0 : Nat), n = o.length, Cap.of (0 : Nat) = Cap.of (0 :
    Nat), (0 : Nat) = (0 : Nat), l.n = l.n, Cap.of (0 : Nat) = Cap.of (0 : Nat), (↑l.n : Int) = (↑l.n : Int), i = k, p.length = p.length, p.slack = p.slack, p.loose = p.loose, p.damp.lo
    = p.damp.lo, p.damp.hi = p.damp.hi, s.kind = s.kind, s.at_.lo = s.at_.lo, s.at_.hi = s.at_.hi, s.wide.lo = s.wide.lo, s.wide.hi = s.wide.hi, s.deep.lo = s.deep.lo, s.deep.hi =
    s.deep.hi, o.length ≤ n, RowsEq (1 : Nat) o.length g fun i => RowT.enc (o.getD i (0 : Int)), l.n ≤ l.n, RowsEq (7 : Nat) l.n (fun i => RowT.enc (l.get i)) fun i => RowT.enc (l.get
    i)]) := by kernel_rfl
def pickE (o : List Int) : JSt := ⟨30, [(8, .slz 24 0 o.length (.of 0))], [newL 3 24 o 0], 32⟩
set_option maxRecDepth 100000 in
theorem pick_end (n : Nat) (g : Nat → Nat → Int) (o : List Int) : subE 8 [.slz 24 0 n (.of 0)] [(24, .rowz true 3 [.int .i64] n g)] (pickE o) = (
    some [(0 : Nat) = (0 : Nat), n = o.length, Cap.of (0 : Nat) = Cap.of (0 : Nat), o.length ≤ n, RowsEq (1 : Nat) o.length g fun i => RowT.enc (o.getD i (0 : Int))]) := by kernel_rfl
def pickPre (p : Play) (s : Edge) (l : Rw Edge) : Prop := p.ok = true ∧ s.ok = true ∧ allN (fun i => (l.get i).ok) l.n = true ∧ l.n ≤ 1000
theorem pick_round (p : Play) (s : Edge) (least : Int) (l : Rw Edge) (hl : pickPre p s l) : RoundW (fun k : Nat => pickJ p s least l (picks (pickQ p s least l) k) k) (fun k => k ≤ l.n) (fun k => l.n - k) (fun _ e J => e = .exit 0 ∧ J = pickE (picks (pickQ p s least l) l.n)) 8 pickLs [] (mkE Try.prog tab_areS) (fun _ => hnd (mkE Try.prog tab_areS) 0) (bodyK Try.f91 0) := by
  obtain ⟨h1, h2, h3, h4⟩ := hl
  refine ⟨fun k g hk => ⟨den_of (pick_r p s least l _ k g) ?_⟩⟩
  have hlen := picks_len (pickQ p s least l) k
  refine den_br (fun h => ?_) (fun h => ?_)
  · have h : k < l.n := by have := of_decide_eq_true h; omega
    have hw : IntKind.i64.wrap ((k : Int) + 1) = ((k + 1 : Nat) : Int) := (w64 (by omega) (by omega)).trans (by omega)
    refine den_need (by simp; omega) (den_need (by simp; omega) (den_need (by simp only [okP, h1, h2, allN_get h3 h]; rfl) (den_br (fun hb => ?_) (fun hb => ?_))))
    · have e : picks (pickQ p s least l) (k + 1) = picks (pickQ p s least l) k ++ [(k : Int)] := by simp only [picks, pickQ]; rw [hb]
      refine den_need (by simp; omega) ⟨k + 1, h, by show l.n - (k + 1) < l.n - k; omega, fun _ _ h => h, rfl, rfl, _, pick_go1 _ _ _ _ _ _ _ _ _, ?_⟩
      rw [e]
      repeat' first | exact trivial | with_reducible rfl | exact Nat.le_refl _ | exact RowsEq.refl _ _ _ | exact hw | refine And.intro ?_ ?_
      · simp
      · simp
      · exact rows_snoc _ _
    · have e : picks (pickQ p s least l) (k + 1) = picks (pickQ p s least l) k := by simp only [picks, pickQ]; rw [hb]
      refine ⟨k + 1, h, by show l.n - (k + 1) < l.n - k; omega, fun _ _ h => h, rfl, rfl, _, pick_go0 _ _ _ _ _ _ _ _ _, ?_⟩
      rw [e]
      repeat' first | exact trivial | with_reducible rfl | exact Nat.le_refl _ | exact RowsEq.refl _ _ _ | exact hw | refine And.intro ?_ ?_
  · have : k = l.n := by have := of_decide_eq_false h; omega
    subst this
    refine ⟨_, ⟨rfl, rfl⟩, rfl, rfl, _, pick_end _ _ _, ?_⟩
    repeat' first | exact trivial | with_reducible rfl | exact Nat.le_refl _ | exact RowsEq.refl _ _ _ | refine And.intro ?_ ?_
theorem pick_hnd (p : Play) (s : Edge) (least : Int) (l : Rw Edge) (hl : pickPre p s l) (G : Ctx) (hrd : G.rd = none) (hG : G.n = 8) : HndOk (mkE Try.prog tab_areS) G { hnd (mkE Try.prog tab_areS) 1 with loop := fun _ => loopT 8 [] (pickJ p s least l [] (0 : Nat)) [(True, .exit 0, pickE (picks (pickQ p s least l) l.n))] } (bodyOf Try.f91) := by
  refine one_loop (body := bodyK Try.f91 0) (mkE_ok tab_areS_ok) hrd (by kernel_rfl) ?_
  refine loopT_ok (n0 := 8) (mkE_ok tab_areS_ok) (by omega) (fun s hs => hnd_hndOk (mkE_ok tab_areS_ok) 0 G _ hrd) (fun s hs => (by decide : 8 ≤ 32)) ?_ (pick_round p s least l hl) (s0 := 0) (Nat.zero_le _) ?_
  · rintro s e J ⟨_, rfl⟩; exact (by decide : 8 ≤ 32)
  · rintro e J ⟨rfl, rfl⟩
    exact ⟨_, List.mem_cons_self, trivial, rfl, rfl⟩
set_option maxRecDepth 100000 in
theorem pick_res (o : List Int) : subE 8 [.slz 24 0 o.length (.of 0)] [(24, .rowz true 3 [.int .i64] o.length fun i => RowT.enc (o.getD i 0))] (resJ 8 (.slz 0 0 o.length (.of 0)) [newL 3 0 o 0]) = (
    some [(0 : Nat) = (0 : Nat), o.length = o.length, Cap.of (0 : Nat) = Cap.of (0 : Nat), o.length ≤ o.length, RowsEq (1 : Nat) o.length (fun i => RowT.enc (o.getD i (0 : Int))) fun i
    => RowT.enc (o.getD i (0 : Int))]) := by kernel_rfl
def pickF : WF (Play × Edge × Int × (Rw Edge) × Unit) := fun | (p, (s, (least, (l, _)))) => (p.ok && s.ok && allN (fun i => (l.get i).ok) l.n && decide (l.n ≤ 1000), .slz 0 0 (picks (pickQ p s least l) l.n).length (.of 0), [newL 3 0 (picks (pickQ p s least l) l.n) 0])
def pickC : FC := wFC pickF
set_option maxRecDepth 100000 in
theorem pick_t (p : Play) (s : Edge) (least : Int) (l : (Rw Edge)) : execW (mkE Try.prog tab_areS) { hnd (mkE Try.prog tab_areS) 1 with loop := fun _ => loopT 8 [] (pickJ p s least l [] (0 : Nat)) [(True, .exit 0, pickE (picks (pickQ p s least l) l.n))] } Try.f91 (ArgsE.vals 0 ((p, s, least, l, ()) : Play × Edge × Int × (Rw Edge) × Unit)) (ArgsE.blks 0 ((p, s, least, l, ()) : Play × Edge × Int × (Rw Edge) × Unit)) 8 =
    Tree.ask (least = least) (Tree.ask ((0 : Nat) = (0 : Nat)) (Tree.ask ((0 : Nat) = (0 : Nat)) (Tree.ask ((0 : Nat) = (0 : Nat)) (Tree.ask ((0 : Nat) = (0 : Nat)) (Tree.ask ((0 : Nat)
    = (0 : Nat)) (Tree.ask ((0 : Nat) = (0 : Nat)) (Tree.ask (l.n = l.n) (Tree.ask (Cap.of (0 : Nat) = Cap.of (0 : Nat)) (Tree.ask ((↑l.n : Int) = (↑l.n : Int)) (Tree.ask ((0 : Int) =
    (0 : Int)) (Tree.ask (p.length = p.length) (Tree.ask (p.slack = p.slack) (Tree.ask (p.loose = p.loose) (Tree.ask (p.damp.lo = p.damp.lo) (Tree.ask (p.damp.hi = p.damp.hi) (Tree.ask
    (s.kind = s.kind) (Tree.ask (s.at_.lo = s.at_.lo) (Tree.ask (s.at_.hi = s.at_.hi) (Tree.ask (s.wide.lo = s.wide.lo) (Tree.ask (s.wide.hi = s.wide.hi) (Tree.ask (s.deep.lo =
    s.deep.lo) (Tree.ask (s.deep.hi = s.deep.hi) (Tree.ask ((0 : Nat) = (0 : Nat)) (Tree.ask (l.n ≤ l.n) (Tree.ask (RowsEq (7 : Nat) l.n (fun i => RowT.enc (l.get i)) fun i => RowT.enc
    (l.get i)) (Tree.asm (True) (Tree.all (fun (g0 : Nat → Value) => Tree.leaf (AV.slz (24 : Nat) (0 : Nat) (picks (pickQ p s least l) l.n).length (Cap.of (0 : Nat))) ([((24 : Nat),
    Blk.rowz true (3 : Nat) [CK.int IntKind.i64] (picks (pickQ p s least l) l.n).length fun i => RowT.enc ((picks (pickQ p s least l) l.n).getD i (0 :
    Int)))]))))))))))))))))))))))))))))) := by kernel_rfl
theorem pick_hs : WHnd (mkE Try.prog tab_areS) (bodyOf Try.f91) 8 pickF (fun x_ => { hnd (mkE Try.prog tab_areS) 1 with loop := fun _ => loopT 8 [] (pickJ x_.1 x_.2.1 x_.2.2.1 x_.2.2.2.1 [] (0 : Nat)) [(True, .exit 0, pickE (picks (pickQ x_.1 x_.2.1 x_.2.2.1 x_.2.2.2.1) x_.2.2.2.1.n))] }) := by
  refine ⟨?_⟩
  rintro ⟨p, ⟨s, ⟨least, ⟨l, ⟨⟩⟩⟩⟩⟩ hp G h1 h2
  exact pick_hnd p s least l (by simpa [pickF, pickPre, and_assoc] using hp) G h1 h2
theorem pick_run : WRun (mkE Try.prog tab_areS) Try.f91 8 pickF (fun x_ => { hnd (mkE Try.prog tab_areS) 1 with loop := fun _ => loopT 8 [] (pickJ x_.1 x_.2.1 x_.2.2.1 x_.2.2.2.1 [] (0 : Nat)) [(True, .exit 0, pickE (picks (pickQ x_.1 x_.2.1 x_.2.2.1 x_.2.2.2.1) x_.2.2.2.1.n))] }) := by
  refine ⟨?_⟩
  rintro ⟨p, ⟨s, ⟨least, ⟨l, ⟨⟩⟩⟩⟩⟩ hp
  refine ⟨⟨rfl, by simp [pickF, newL, Blk.own, Blk.all], rfl⟩, ⟨?_⟩⟩
  rw [pick_t p s least l]
  simp only [pickF] at hp
  repeat' first | refine den_ask (by with_reducible rfl) ?_ | refine den_ask (Nat.le_refl _) ?_ | refine den_ask (RowsEq.refl _ _ _) ?_
  refine den_asm fun _ => den_all fun g => ⟨rfl, rfl, _, pick_res _, ?_⟩
  repeat' first | exact trivial | with_reducible rfl | exact Nat.le_refl _ | exact RowsEq.refl _ _ _ | refine And.intro ?_ ?_
theorem pick_s : FSound Try.prog 91 pickC :=
  fn_W (mkE_ok tab_areS_ok) Try.func91 (by kernel_rfl) (by kernel_rfl) (by decide) pick_hs pick_run
def tab_pick : Tab := addF tab_areS 91 pickC
theorem tab_pick_ok : TabOk tab_pick := tab_areS_ok.add pick_s
def matO (p : Play) (s : Edge) (l : Rw Edge) : Bool := p.ok && (s.ok && allN (fun i => (l.get i).ok) l.n)
def matE (p : Play) (s : Edge) (l : Rw Edge) : Int := match matO p s l with
  | true => (match decide (l.n > 40) with | true => 3 | false => 0)
  | false => 1
def matL (p : Play) (s : Edge) (least : Int) (l : Rw Edge) : List Int := match matO p s l && decide (l.n ≤ 40) with
  | true => picks (pickQ p s least l) l.n
  | false => []
set_option maxRecDepth 100000 in
theorem mat_no (e f : Int) (o q : List Int) : subE 8 [.tup [.nils, .nils, .int true .i64 e]] [] (resJ 8 (.tup [.slz 0 0 o.length (.of 0), .slz 1 0 q.length (.of 0), .int false .i64 f]) [newL 3 0 o 0, newL 3 1 q 0]) = (
    some [o.length = (0 : Nat), q.length = (0 : Nat), e = f, o.length = (0 : Nat), q.length = (0 : Nat)]) := by kernel_rfl
set_option maxRecDepth 100000 in
theorem mat_yes (n m : Nat) (g h : Nat → Nat → Int) (e f : Int) (o q : List Int) : subE 8 [.tup [.slz 216 0 n (.of 0), .slz 248 0 m (.of 0), .int true .i64 e]] [(216, .rowz true 3 [.int .i64] n g), (248, .rowz true 3 [.int .i64] m h)] (resJ 8 (.tup [.slz 0 0 o.length (.of 0), .slz 1 0 q.length (.of 0), .int false .i64 f]) [newL 3 0 o 0, newL 3 1 q 0]) = (
    some [(0 : Nat) = (0 : Nat), n = o.length, Cap.of (0 : Nat) = Cap.of (0 : Nat), (0 : Nat) = (0 : Nat), m = q.length, Cap.of (0 : Nat) = Cap.of (0 : Nat), e = f, o.length ≤ n, RowsEq
    (1 : Nat) o.length g fun i => RowT.enc (o.getD i (0 : Int)), q.length ≤ m, RowsEq (1 : Nat) q.length h fun i => RowT.enc (q.getD i (0 : Int))]) := by kernel_rfl
def matF : WF (Play × Edge × (Rw Edge) × Unit) := fun | (p, (s, (l, _))) => (decide (l.n ≤ 1000), .tup [.slz 0 0 (matL p s 2 l).length (.of 0), .slz 1 0 (matL p s 1 l).length (.of 0), .int false .i64 (matE p s l)], [newL 3 0 (matL p s 2 l) 0, newL 3 1 (matL p s 1 l) 0])
def matC : FC := wFC matF
set_option maxRecDepth 100000 in
theorem mat_t (p : Play) (s : Edge) (l : (Rw Edge)) : execW (mkE Try.prog tab_pick) (hnd (mkE Try.prog tab_pick) 0) Try.f72 (ArgsE.vals 0 ((p, s, l, ()) : Play × Edge × (Rw Edge) × Unit)) (ArgsE.blks 0 ((p, s, l, ()) : Play × Edge × (Rw Edge) × Unit)) 8 =
    Tree.need (true) (Tree.br (!p.ok) (Tree.leaf (AV.tup [AV.nils, AV.nils, AV.int true IntKind.i64 (1 : Int)]) ([])) (Tree.need (true) (Tree.br (!s.ok) (Tree.leaf (AV.tup [AV.nils,
    AV.nils, AV.int true IntKind.i64 (1 : Int)]) ([])) (Tree.need (decide (l.n ≤ l.n) && true && decide (l.n ≤ (1000 : Nat))) (Tree.br (!allN (fun i => (l.get i).ok) l.n) (Tree.leaf
    (AV.tup [AV.nils, AV.nils, AV.int true IntKind.i64 (1 : Int)]) ([])) (Tree.br (decide ((↑l.n : Int) > (40 : Int))) (Tree.leaf (AV.tup [AV.nils, AV.nils, AV.int true IntKind.i64 (3 :
    Int)]) ([])) (Tree.need (true && (true && (true && (decide (l.n ≤ l.n) && true))) && (p.ok && s.ok && allN (fun i => (l.get i).ok) l.n && decide (l.n ≤ (1000 : Nat)))) (Tree.need
    (true && (true && (true && (decide (l.n ≤ l.n) && true))) && (p.ok && s.ok && allN (fun i => (l.get i).ok) l.n && decide (l.n ≤ (1000 : Nat)))) (Tree.leaf (AV.tup [AV.slz (216 :
    Nat) (0 : Nat) (picks (pickQ p s (2 : Int) l) l.n).length (Cap.of (0 : Nat)), AV.slz (248 : Nat) (0 : Nat) (picks (pickQ p s (1 : Int) l) l.n).length (Cap.of (0 : Nat)), AV.int true
    IntKind.i64 (0 : Int)]) ([((216 : Nat), Blk.rowz true (3 : Nat) [CK.int IntKind.i64] (picks (pickQ p s (2 : Int) l) l.n).length fun i => RowT.enc ((picks (pickQ p s (2 : Int) l)
    l.n).getD i (0 : Int))), ((248 : Nat), Blk.rowz true (3 : Nat) [CK.int IntKind.i64] (picks (pickQ p s (1 : Int) l) l.n).length fun i => RowT.enc ((picks (pickQ p s (1 : Int) l)
    l.n).getD i (0 : Int)))])))))))))) := by kernel_rfl
theorem mat_hs : WHnd (mkE Try.prog tab_pick) (bodyOf Try.f72) 8 matF (fun x_ => (hnd (mkE Try.prog tab_pick) 0)) := by
  refine ⟨?_⟩
  rintro ⟨p, ⟨s, ⟨l, ⟨⟩⟩⟩⟩ hp G h1 h2
  exact hnd_hndOk (mkE_ok tab_pick_ok) 0 G _ h1
theorem mat_run : WRun (mkE Try.prog tab_pick) Try.f72 8 matF (fun x_ => (hnd (mkE Try.prog tab_pick) 0)) := by
  refine ⟨?_⟩
  rintro ⟨p, ⟨s, ⟨l, ⟨⟩⟩⟩⟩ hp
  refine ⟨⟨rfl, by simp [matF, newL, Blk.own, Blk.all], rfl⟩, ⟨?_⟩⟩
  rw [mat_t p s l]
  simp only [matF] at hp
  have hn : l.n ≤ 1000 := of_decide_eq_true hp
  have no : ∀ e : Int, matL p s 2 l = [] → matL p s 1 l = [] → matE p s l = e → (Tree.leaf (AV.tup [AV.nils, AV.nils, AV.int true IntKind.i64 e]) []).den (EndOk 8 (matF (p, s, l, ())).2.1 (matF (p, s, l, ())).2.2) := by
    intro e h1 h2 h3
    refine ⟨rfl, rfl, _, mat_no _ _ _ _, ?_⟩
    rw [h1, h2, h3]
    exact ⟨rfl, rfl, rfl, rfl, rfl, trivial⟩
  refine den_need rfl (den_br (fun h => ?_) (fun h => den_need rfl (den_br (fun h2 => ?_) (fun h2 => den_need (by simpa using hn) (den_br (fun h3 => ?_) (fun h3 => den_br (fun h4 => ?_) (fun h4 => ?_)))))))
  · have e : matO p s l = false := by simp [matO] at h ⊢; simp [h]
    exact no 1 (by simp [matL, e]) (by simp [matL, e]) (by simp [matE, e])
  · have e : matO p s l = false := by simp [matO] at h2 ⊢; simp [h2]
    exact no 1 (by simp [matL, e]) (by simp [matL, e]) (by simp [matE, e])
  · have e : matO p s l = false := by simp [matO] at h3 ⊢; simp [h3]
    exact no 1 (by simp [matL, e]) (by simp [matL, e]) (by simp [matE, e])
  · have h4 : l.n > 40 := by have := of_decide_eq_true h4; omega
    have e1 : decide (l.n > 40) = true := decide_eq_true h4
    have e2 : decide (l.n ≤ 40) = false := decide_eq_false (by omega)
    have e : matO p s l = true := by simp [matO] at h h2 h3 ⊢; exact ⟨h, h2, h3⟩
    exact no 3 (by simp only [matL, e, e2]; rfl) (by simp only [matL, e, e2]; rfl) (by simp only [matE, e, e1])
  · have h4 : ¬ l.n > 40 := by have := of_decide_eq_false h4; omega
    have e1 : decide (l.n > 40) = false := decide_eq_false h4
    have e2 : decide (l.n ≤ 40) = true := decide_eq_true (by omega)
    have e : matO p s l = true := by simp [matO] at h h2 h3 ⊢; exact ⟨h, h2, h3⟩
    have hq : (p.ok && s.ok && allN (fun i => (l.get i).ok) l.n && decide (l.n ≤ 1000)) = true := by simp at h h2 h3; simp [h, h2, h3, hn]
    refine den_need (by simp only [hq]; simp) (den_need (by simp only [hq]; simp) ⟨rfl, rfl, _, mat_yes _ _ _ _ _ _ _ _, ?_⟩)
    have k2 : matL p s 2 l = picks (pickQ p s 2 l) l.n := by simp only [matL, e, e2]; rfl
    have k1 : matL p s 1 l = picks (pickQ p s 1 l) l.n := by simp only [matL, e, e2]; rfl
    have k3 : matE p s l = 0 := by simp only [matE, e, e1]
    rw [k1, k2, k3]
    repeat' first | exact trivial | with_reducible rfl | exact Nat.le_refl _ | exact RowsEq.refl _ _ _ | refine And.intro ?_ ?_
theorem mat_s : FSound Try.prog 72 matC :=
  fn_W (mkE_ok tab_pick_ok) Try.func72 (by kernel_rfl) (by kernel_rfl) (by decide) mat_hs mat_run
def tab_mat : Tab := addF tab_pick 72 matC
theorem tab_mat_ok : TabOk tab_mat := tab_pick_ok.add mat_s
end Go.Proofs.Ytbpffdkemeoajaa
/- Can a side be another one? (layer 7) -/
namespace Go.Proofs.Ytbpffdkemeoajaa
open Go.SX
def com (x y : Sp) : Bool := decide (x.lo ≤ y.hi) && decide (y.lo ≤ x.hi)
def isF (b s : Edge) : Bool := (b.kind == s.kind) && (com b.at_ s.at_ && (com b.wide s.wide && com b.deep s.deep))
def isBF : Edge × Edge × Unit → Bool × AV := fun | (b, (s, _)) => (true, .bool false (isF b s))
def isBC : FC := pureFC (pfOf isBF)
set_option maxRecDepth 100000 in
theorem isB_t (b : Edge) (s : Edge) : execFn (mkE Try.prog tab_mat) (hnd (mkE Try.prog tab_mat) 3) false Try.f125 (EncL.enc ((b, s, ()) : Edge × Edge × Unit)) [] 0 =
    Tree.br (b.kind == s.kind) (Tree.br (decide (b.at_.lo ≤ s.at_.hi)) (Tree.br (decide (s.at_.lo ≤ b.at_.hi)) (Tree.br (decide (b.wide.lo ≤ s.wide.hi)) (Tree.br (decide (s.wide.lo ≤
    b.wide.hi)) (Tree.br (decide (b.deep.lo ≤ s.deep.hi)) (Tree.leaf (AV.bool false (decide (s.deep.lo ≤ b.deep.hi))) ([])) (Tree.leaf (AV.bool true false) ([]))) (Tree.leaf (AV.bool
    true false) ([]))) (Tree.leaf (AV.bool true false) ([]))) (Tree.leaf (AV.bool true false) ([]))) (Tree.leaf (AV.bool true false) ([]))) (Tree.leaf (AV.bool true false) ([])) := by kernel_rfl
theorem isB_s : FSound Try.prog 125 isBC := by
  refine plain_fn tab_mat_ok 3 Try.func125 (by kernel_rfl) (by kernel_rfl) ?_
  rintro ⟨b, s, ⟨⟩⟩ hp
  rw [isB_t b s]
  simp only [isBF, Tree.den, AV.same, AV.sameL, and_true, true_and] at hp ⊢
  simp only [isF, com]
  generalize (b.kind == s.kind) = x1
  generalize decide (b.at_.lo ≤ s.at_.hi) = x2
  generalize decide (s.at_.lo ≤ b.at_.hi) = x3
  generalize decide (b.wide.lo ≤ s.wide.hi) = x4
  generalize decide (s.wide.lo ≤ b.wide.hi) = x5
  generalize decide (b.deep.lo ≤ s.deep.hi) = x6
  generalize decide (s.deep.lo ≤ b.deep.hi) = x7
  cases x1 <;> cases x2 <;> cases x3 <;> cases x4 <;> cases x5 <;> cases x6 <;> cases x7 <;> simp
def tab_isB : Tab := addF tab_mat 125 isBC
theorem tab_isB_ok : TabOk tab_isB := tab_mat_ok.add isB_s
end Go.Proofs.Ytbpffdkemeoajaa
/- Pieces and puzzles as arguments (layer 7). -/
namespace Go.Proofs.Ytbpffdkemeoajaa
open Go.SX
structure Piece where
  up : Edge
  right : Edge
  down : Edge
  left : Edge
def Piece.ok (p : Piece) : Bool := p.up.ok && (p.right.ok && (p.down.ok && p.left.ok))
instance : RowT Piece where
  ks := [.int .i64, .int .i64, .int .i64, .int .i64, .int .i64, .int .i64, .int .i64, .int .i64, .int .i64, .int .i64, .int .i64, .int .i64, .int .i64, .int .i64, .int .i64, .int .i64, .int .i64, .int .i64, .int .i64, .int .i64, .int .i64, .int .i64, .int .i64, .int .i64, .int .i64, .int .i64, .int .i64, .int .i64]
  enc p j := match j with
    | 0 => p.up.kind
    | 1 => p.up.at_.lo
    | 2 => p.up.at_.hi
    | 3 => p.up.wide.lo
    | 4 => p.up.wide.hi
    | 5 => p.up.deep.lo
    | 6 => p.up.deep.hi
    | 7 => p.right.kind
    | 8 => p.right.at_.lo
    | 9 => p.right.at_.hi
    | 10 => p.right.wide.lo
    | 11 => p.right.wide.hi
    | 12 => p.right.deep.lo
    | 13 => p.right.deep.hi
    | 14 => p.down.kind
    | 15 => p.down.at_.lo
    | 16 => p.down.at_.hi
    | 17 => p.down.wide.lo
    | 18 => p.down.wide.hi
    | 19 => p.down.deep.lo
    | 20 => p.down.deep.hi
    | 21 => p.left.kind
    | 22 => p.left.at_.lo
    | 23 => p.left.at_.hi
    | 24 => p.left.wide.lo
    | 25 => p.left.wide.hi
    | 26 => p.left.deep.lo
    | _ => p.left.deep.hi
  dec f := ⟨⟨f 0, ⟨f 1, f 2⟩, ⟨f 3, f 4⟩, ⟨f 5, f 6⟩⟩, ⟨f 7, ⟨f 8, f 9⟩, ⟨f 10, f 11⟩, ⟨f 12, f 13⟩⟩, ⟨f 14, ⟨f 15, f 16⟩, ⟨f 17, f 18⟩, ⟨f 19, f 20⟩⟩, ⟨f 21, ⟨f 22, f 23⟩, ⟨f 24, f 25⟩, ⟨f 26, f 27⟩⟩⟩
  ok _ := rfl
instance : Enc Piece where
  enc p := .agg [.int false .i64 p.up.kind, .int false .i64 p.up.at_.lo, .int false .i64 p.up.at_.hi, .int false .i64 p.up.wide.lo, .int false .i64 p.up.wide.hi, .int false .i64 p.up.deep.lo, .int false .i64 p.up.deep.hi, .int false .i64 p.right.kind, .int false .i64 p.right.at_.lo, .int false .i64 p.right.at_.hi, .int false .i64 p.right.wide.lo, .int false .i64 p.right.wide.hi, .int false .i64 p.right.deep.lo, .int false .i64 p.right.deep.hi, .int false .i64 p.down.kind, .int false .i64 p.down.at_.lo, .int false .i64 p.down.at_.hi, .int false .i64 p.down.wide.lo, .int false .i64 p.down.wide.hi, .int false .i64 p.down.deep.lo, .int false .i64 p.down.deep.hi, .int false .i64 p.left.kind, .int false .i64 p.left.at_.lo, .int false .i64 p.left.at_.hi, .int false .i64 p.left.wide.lo, .int false .i64 p.left.wide.hi, .int false .i64 p.left.deep.lo, .int false .i64 p.left.deep.hi]
  dec
    | .agg [.int _ .i64 a0, .int _ .i64 a1, .int _ .i64 a2, .int _ .i64 a3, .int _ .i64 a4, .int _ .i64 a5, .int _ .i64 a6, .int _ .i64 a7, .int _ .i64 a8, .int _ .i64 a9, .int _ .i64 a10, .int _ .i64 a11, .int _ .i64 a12, .int _ .i64 a13, .int _ .i64 a14, .int _ .i64 a15, .int _ .i64 a16, .int _ .i64 a17, .int _ .i64 a18, .int _ .i64 a19, .int _ .i64 a20, .int _ .i64 a21, .int _ .i64 a22, .int _ .i64 a23, .int _ .i64 a24, .int _ .i64 a25, .int _ .i64 a26, .int _ .i64 a27] => some ⟨⟨a0, ⟨a1, a2⟩, ⟨a3, a4⟩, ⟨a5, a6⟩⟩, ⟨a7, ⟨a8, a9⟩, ⟨a10, a11⟩, ⟨a12, a13⟩⟩, ⟨a14, ⟨a15, a16⟩, ⟨a17, a18⟩, ⟨a19, a20⟩⟩, ⟨a21, ⟨a22, a23⟩, ⟨a24, a25⟩, ⟨a26, a27⟩⟩⟩
    | _ => none
  ok v x h := by
    split at h <;> (try (cases h; done))
    simp only [Option.some.injEq] at h; subst h
    exact ⟨fun _ => rfl, rfl⟩
/-- A puzzle: its pieces are a slice. -/
structure Puz where
  play : Play
  wide : Int
  high : Int
  turn : Bool
  ps : Rw Piece
instance : ArgE Puz where
  val k x := .agg [.int false .i64 x.play.length, .int false .i64 x.play.slack, .int false .i64 x.play.loose, .int false .i64 x.play.damp.lo, .int false .i64 x.play.damp.hi, .int false .i64 x.wide, .int false .i64 x.high, .bool false x.turn, ArgE.val k x.ps]
  blk k x := ArgE.blk k x.ps
  dec v lk := match v with
    | .agg [.int _ .i64 a, .int _ .i64 b, .int _ .i64 c, .int _ .i64 d, .int _ .i64 e, .int _ .i64 f, .int _ .i64 g, .bool _ t, s] => (match (ArgE.dec s lk : Option (Bool × Rw Piece)) with
      | some (p, x) => some (p, ⟨⟨a, b, c, ⟨d, e⟩⟩, f, g, t, x⟩)
      | none => none)
    | _ => none
  ok v lk p x h hp := by
    split at h <;> (try (cases h; done))
    split at h <;> (try (cases h; done))
    rename_i a b c d e f g t s p' x' hd
    simp only [Option.some.injEq, Prod.mk.injEq] at h
    obtain ⟨rfl, rfl⟩ := h
    obtain ⟨h1, h2⟩ := ArgE.ok _ _ _ _ hd hp
    refine ⟨fun k => ⟨?_, (h1 k).2⟩, fun r w hb => ?_⟩
    · have := (h1 k).1
      simp only [AV.all, AV.allL, Bool.true_and, Bool.and_true]; exact this
    · obtain ⟨l, hl⟩ := h2 r w hb
      refine ⟨l, fun k r' hr => ⟨?_, (hl k r' hr).2⟩⟩
      have := (hl k r' hr).1
      simp only [AV.den, AV.denL] at this ⊢
      rw [this]
def aggB : AV → Bool
  | .agg _ => true
  | _ => false
theorem aggB_spec {v : AV} (h : aggB v = true) : ∃ l, v = .agg l := by
  cases v <;> first | (cases h; done) | exact ⟨_, rfl⟩
/-- A function that has captured a box: what is in it. -/
structure FnC (α : Type) (g ty : Nat) where
  x : α
instance {α : Type} [Enc α] (g ty : Nat) : ArgE (FnC α g ty) where
  val k _ := .fn (.func g) [.ptr k 0 0]
  blk k x := [(k, .cellsR 0 ty (Enc.enc x.x).cells)]
  dec v lk := match v with
    | .fn (.func g') [.ptr id e j] => (match Nat.beq g' g && (Nat.beq e 0 && Nat.beq j 0) with
      | true => (match lk id with
        | some (.cellsR z ty' l) => (match Nat.beq ty' ty && Nat.beq z 0 with
          | true => (match (Enc.dec (.agg l) : Option α) with
            | some a => (match aggB (Enc.enc a) with | true => some (true, ⟨a⟩) | false => none)
            | none => none)
          | false => none)
        | _ => none)
      | false => none)
    | _ => none
  ok v lk p x h _ := by
    split at h <;> (try (cases h; done))
    rename_i g' id e j
    split at h <;> (try (cases h; done))
    rename_i hg
    split at h <;> (try (cases h; done))
    rename_i z ty' l hlk
    split at h <;> (try (cases h; done))
    rename_i hz
    split at h <;> (try (cases h; done))
    rename_i a ha
    split at h <;> (try (cases h; done))
    rename_i hagg
    simp only [Bool.and_eq_true] at hg hz
    have hg1 := Nat.eq_of_beq_eq_true hg.1
    have he := Nat.eq_of_beq_eq_true hg.2.1
    have hj := Nat.eq_of_beq_eq_true hg.2.2
    have ht := Nat.eq_of_beq_eq_true hz.1
    have hz0 := Nat.eq_of_beq_eq_true hz.2
    subst hg1 he hj ht hz0
    simp only [Option.some.injEq, Prod.mk.injEq] at h
    obtain ⟨_, rfl⟩ := h
    obtain ⟨k1, k2⟩ := Enc.ok _ _ ha
    obtain ⟨l', hl'⟩ := aggB_spec hagg
    rw [hl'] at k1 k2
    have hcl : (Enc.enc a).cells = l' := by rw [hl']; rfl
    have k3 : ∀ r, AV.denL r l' = AV.denL r l := fun r => by
      have := k1 r
      simp only [AV.den, Value.agg.injEq] at this
      exact Array.toList_inj.2 this |> fun h => by simpa using h
    refine ⟨fun k => ⟨by simp [AV.all, AV.allL], fun q hq => ?_⟩, fun r w hb => ⟨r id, fun k r' hr => ⟨?_, fun q hq => ?_⟩⟩⟩
    · simp only [List.mem_singleton] at hq; subst hq
      refine ⟨rfl, rfl, ?_⟩
      show AV.allL _ (Enc.enc a).cells = true
      rw [hcl]; exact k2
    · simp only [AV.den, AV.denL, hr]
    · simp only [List.mem_singleton] at hq; subst hq
      obtain ⟨b1, b2, b3⟩ := hb _ _ hlk
      refine ⟨by rw [hr]; exact b1, by rw [hr]; exact b2, ?_⟩
      show bk w (r' k).blk = some (.cells (AV.denL r' (Enc.enc a).cells).toArray _ _)
      rw [hr, hcl, denL_congr (p := fun _ => false) (r := r') (r' := r) (fun _ hf => by cases hf) _ k2, k3 r]
      exact b3
end Go.Proofs.Ytbpffdkemeoajaa
/- Are the sides of pieces valid? (layer 7) -/
namespace Go.Proofs.Ytbpffdkemeoajaa
open Go.SX
abbrev PlayK : Type := FnC Play 71 25
def zeroE : Edge := ⟨0, ⟨0, 0⟩, ⟨0, 0⟩, ⟨0, 0⟩⟩
def edges (x : Piece) : Rw Edge := ⟨4, fun i => match i with | 0 => x.up | 1 => x.right | 2 => x.down | _ => x.left⟩
def badP (m : PlayK) (l : Rw Piece) (i : Nat) : Bool := !(m.x.ok && (l.get i).ok)
theorem mat_piece (p : Play) (x : Piece) (L : Rw Edge) (hn : L.n = 4) (h0 : L.get 0 = x.up) (h1 : L.get 1 = x.right) (h2 : L.get 2 = x.down) (h3 : L.get 3 = x.left) : (matE p zeroE L != 0) = !(p.ok && x.ok) := by
  have z : zeroE.ok = true := by decide
  have e : matO p zeroE L = (p.ok && x.ok) := by
    simp only [matO, z, allN, firstN, hn, h0, h1, h2, h3, Piece.ok, Bool.true_and]
    cases p.ok <;> cases x.up.ok <;> cases x.right.ok <;> cases x.down.ok <;> cases x.left.ok <;> rfl
  have d : decide (L.n > 40) = false := by rw [hn]; rfl
  simp only [matE, e, d]
  cases p.ok && x.ok <;> rfl
def idp (l : Rw Piece) (m : PlayK) : List (Nat × Blk) := ArgE.blk 0 l ++ ArgE.blk 1 m
def idpJ (l : Rw Piece) (m : PlayK) (k : Nat) : JSt := ⟨19, [(0, .slz 0 0 l.n (.of 0)), (1, ArgE.val 1 m), (7, .int false .i64 l.n), (8, .int false .i64 k)], idp l m, 8⟩
set_option maxRecDepth 100000 in
theorem idp_r (l : Rw Piece) (m : PlayK) (k : Nat) (g : Nat → Value) : exec (mkE Try.prog tab_isB) (hnd (mkE Try.prog tab_isB) 4) (bodyK Try.f90 0) (JSt.inst (idpJ l m k) g) (leafW [] idxLs) =
    Tree.br (decide ((↑k : Int) < (↑l.n : Int))) (Tree.need (decide ((0 : Int) ≤ (↑k : Int) ∧ (↑k : Int) < (↑l.n : Int)) && decide (l.n ≤ l.n)) (Tree.need (decide (k < l.n)) (Tree.need
    (true && (true && (true && true)) && decide ((4 : Nat) ≤ (1000 : Nat))) (Tree.br (matE m.x (Edge.mk (0 : Int) (Sp.mk (0 : Int) (0 : Int)) (Sp.mk (0 : Int) (0 : Int)) (Sp.mk (0 :
    Int) (0 : Int))) (Rw.mk (4 : Nat) fun i => Edge.mk (rowI [[AV.int false IntKind.i64 (l.get k).up.kind, AV.int false IntKind.i64 (l.get k).up.at_.lo, AV.int false IntKind.i64 (l.get
    k).up.at_.hi, AV.int false IntKind.i64 (l.get k).up.wide.lo, AV.int false IntKind.i64 (l.get k).up.wide.hi, AV.int false IntKind.i64 (l.get k).up.deep.lo, AV.int false IntKind.i64
    (l.get k).up.deep.hi], [AV.int false IntKind.i64 (l.get k).right.kind, AV.int false IntKind.i64 (l.get k).right.at_.lo, AV.int false IntKind.i64 (l.get k).right.at_.hi, AV.int false
    IntKind.i64 (l.get k).right.wide.lo, AV.int false IntKind.i64 (l.get k).right.wide.hi, AV.int false IntKind.i64 (l.get k).right.deep.lo, AV.int false IntKind.i64 (l.get
    k).right.deep.hi], [AV.int false IntKind.i64 (l.get k).down.kind, AV.int false IntKind.i64 (l.get k).down.at_.lo, AV.int false IntKind.i64 (l.get k).down.at_.hi, AV.int false
    IntKind.i64 (l.get k).down.wide.lo, AV.int false IntKind.i64 (l.get k).down.wide.hi, AV.int false IntKind.i64 (l.get k).down.deep.lo, AV.int false IntKind.i64 (l.get
    k).down.deep.hi], [AV.int false IntKind.i64 (l.get k).left.kind, AV.int false IntKind.i64 (l.get k).left.at_.lo, AV.int false IntKind.i64 (l.get k).left.at_.hi, AV.int false
    IntKind.i64 (l.get k).left.wide.lo, AV.int false IntKind.i64 (l.get k).left.wide.hi, AV.int false IntKind.i64 (l.get k).left.deep.lo, AV.int false IntKind.i64 (l.get
    k).left.deep.hi]] (0 : Nat) i (0 : Nat)) (Sp.mk (rowI [[AV.int false IntKind.i64 (l.get k).up.kind, AV.int false IntKind.i64 (l.get k).up.at_.lo, AV.int false IntKind.i64 (l.get
    k).up.at_.hi, AV.int false IntKind.i64 (l.get k).up.wide.lo, AV.int false IntKind.i64 (l.get k).up.wide.hi, AV.int false IntKind.i64 (l.get k).up.deep.lo, AV.int false IntKind.i64
    (l.get k).up.deep.hi], [AV.int false IntKind.i64 (l.get k).right.kind, AV.int false IntKind.i64 (l.get k).right.at_.lo, AV.int false IntKind.i64 (l.get k).right.at_.hi, AV.int false
    IntKind.i64 (l.get k).right.wide.lo, AV.int false IntKind.i64 (l.get k).right.wide.hi, AV.int false IntKind.i64 (l.get k).right.deep.lo, AV.int false IntKind.i64 (l.get
    k).right.deep.hi], [AV.int false IntKind.i64 (l.get k).down.kind, AV.int false IntKind.i64 (l.get k).down.at_.lo, AV.int false IntKind.i64 (l.get k).down.at_.hi, AV.int false
    IntKind.i64 (l.get k).down.wide.lo, AV.int false IntKind.i64 (l.get k).down.wide.hi, AV.int false IntKind.i64 (l.get k).down.deep.lo, AV.int false IntKind.i64 (l.get
    k).down.deep.hi], [AV.int false IntKind.i64 (l.get k).left.kind, AV.int false IntKind.i64 (l.get k).left.at_.lo, AV.int false IntKind.i64 (l.get k).left.at_.hi, AV.int false
    IntKind.i64 (l.get k).left.wide.lo, AV.int false IntKind.i64 (l.get k).left.wide.hi, AV.int false IntKind.i64 (l.get k).left.deep.lo, AV.int false IntKind.i64 (l.get
    k).left.deep.hi]] (0 : Nat) i (1 : Nat)) (rowI [[AV.int false IntKind.i64 (l.get k).up.kind, AV.int false IntKind.i64 (l.get k).up.at_.lo, AV.int false IntKind.i64 (l.get
    k).up.at_.hi, AV.int false IntKind.i64 (l.get k).up.wide.lo, AV.int false IntKind.i64 (l.get k).up.wide.hi, AV.int false IntKind.i64 (l.get k).up.deep.lo, AV.int false IntKind.i64
    (l.get k).up.deep.hi], [AV.int false IntKind.i64 (l.get k).right.kind, AV.int false IntKind.i64 (l.get k).right.at_.lo, AV.int false IntKind.i64 (l.get k).right.at_.hi, AV.int false
    IntKind.i64 (l.get k).right.wide.lo, AV.int false IntKind.i64 (l.get k).right.wide.hi, AV.int false IntKind.i64 (l.get k).right.deep.lo, AV.int false IntKind.i64 (l.get
    k).right.deep.hi], [AV.int false IntKind.i64 (l.get k).down.kind, AV.int false IntKind.i64 (l.get k).down.at_.lo, AV.int false IntKind.i64 (l.get k).down.at_.hi, AV.int false
    IntKind.i64 (l.get k).down.wide.lo, AV.int false IntKind.i64 (l.get k).down.wide.hi, AV.int false IntKind.i64 (l.get k).down.deep.lo, AV.int false IntKind.i64 (l.get
    k).down.deep.hi], [AV.int false IntKind.i64 (l.get k).left.kind, AV.int false IntKind.i64 (l.get k).left.at_.lo, AV.int false IntKind.i64 (l.get k).left.at_.hi, AV.int false
    IntKind.i64 (l.get k).left.wide.lo, AV.int false IntKind.i64 (l.get k).left.wide.hi, AV.int false IntKind.i64 (l.get k).left.deep.lo, AV.int false IntKind.i64 (l.get
    k).left.deep.hi]] (0 : Nat) i (2 : Nat))) (Sp.mk (rowI [[AV.int false IntKind.i64 (l.get k).up.kind, AV.int false IntKind.i64 (l.get k).up.at_.lo, AV.int false IntKind.i64 (l.get
    k).up.at_.hi, AV.int false IntKind.i64 (l.get k).up.wide.lo, AV.int false IntKind.i64 (l.get k).up.wide.hi, AV.int false IntKind.i64 (l.get k).up.deep.lo, AV.int false IntKind.i64
    (l.get k).up.deep.hi], [AV.int false IntKind.i64 (l.get k).right.kind, AV.int false IntKind.i64 (l.get k).right.at_.lo, AV.int false IntKind.i64 (l.get k).right.at_.hi, AV.int false
    IntKind.i64 (l.get k).right.wide.lo, AV.int false IntKind.i64 (l.get k).right.wide.hi, AV.int false IntKind.i64 (l.get k).right.deep.lo, AV.int false IntKind.i64 (l.get
    k).right.deep.hi], [AV.int false IntKind.i64 (l.get k).down.kind, AV.int false IntKind.i64 (l.get k).down.at_.lo, AV.int false IntKind.i64 (l.get k).down.at_.hi, AV.int false
    IntKind.i64 (l.get k).down.wide.lo, AV.int false IntKind.i64 (l.get k).down.wide.hi, AV.int false IntKind.i64 (l.get k).down.deep.lo, AV.int false IntKind.i64 (l.get
    k).down.deep.hi], [AV.int false IntKind.i64 (l.get k).left.kind, AV.int false IntKind.i64 (l.get k).left.at_.lo, AV.int false IntKind.i64 (l.get k).left.at_.hi, AV.int false
    IntKind.i64 (l.get k).left.wide.lo, AV.int false IntKind.i64 (l.get k).left.wide.hi, AV.int false IntKind.i64 (l.get k).left.deep.lo, AV.int false IntKind.i64 (l.get
    k).left.deep.hi]] (0 : Nat) i (3 : Nat)) (rowI [[AV.int false IntKind.i64 (l.get k).up.kind, AV.int false IntKind.i64 (l.get k).up.at_.lo, AV.int false IntKind.i64 (l.get
    k).up.at_.hi, AV.int false IntKind.i64 (l.get k).up.wide.lo, AV.int false IntKind.i64 (l.get k).up.wide.hi, AV.int false IntKind.i64 (l.get k).up.deep.lo, AV.int false IntKind.i64
    (l.get k).up.deep.hi], [AV.int false IntKind.i64 (l.get k).right.kind, AV.int false IntKind.i64 (l.get k).right.at_.lo, AV.int false IntKind.i64 (l.get k).right.at_.hi, AV.int false
    IntKind.i64 (l.get k).right.wide.lo, AV.int false IntKind.i64 (l.get k).right.wide.hi, AV.int false IntKind.i64 (l.get k).right.deep.lo, AV.int false IntKind.i64 (l.get
    k).right.deep.hi], [AV.int false IntKind.i64 (l.get k).down.kind, AV.int false IntKind.i64 (l.get k).down.at_.lo, AV.int false IntKind.i64 (l.get k).down.at_.hi, AV.int false
    IntKind.i64 (l.get k).down.wide.lo, AV.int false IntKind.i64 (l.get k).down.wide.hi, AV.int false IntKind.i64 (l.get k).down.deep.lo, AV.int false IntKind.i64 (l.get
    k).down.deep.hi], [AV.int false IntKind.i64 (l.get k).left.kind, AV.int false IntKind.i64 (l.get k).left.at_.lo, AV.int false IntKind.i64 (l.get k).left.at_.hi, AV.int false
    IntKind.i64 (l.get k).left.wide.lo, AV.int false IntKind.i64 (l.get k).left.wide.hi, AV.int false IntKind.i64 (l.get k).left.deep.lo, AV.int false IntKind.i64 (l.get
    k).left.deep.hi]] (0 : Nat) i (4 : Nat))) (Sp.mk (rowI [[AV.int false IntKind.i64 (l.get k).up.kind, AV.int false IntKind.i64 (l.get k).up.at_.lo, AV.int false IntKind.i64 (l.get
    k).up.at_.hi, AV.int false IntKind.i64 (l.get k).up.wide.lo, AV.int false IntKind.i64 (l.get k).up.wide.hi, AV.int false IntKind.i64 (l.get k).up.deep.lo, AV.int false IntKind.i64
    (l.get k).up.deep.hi], [AV.int false IntKind.i64 (l.get k).right.kind, AV.int false IntKind.i64 (l.get k).right.at_.lo, AV.int false IntKind.i64 (l.get k).right.at_.hi, AV.int false
    IntKind.i64 (l.get k).right.wide.lo, AV.int false IntKind.i64 (l.get k).right.wide.hi, AV.int false IntKind.i64 (l.get k).right.deep.lo, AV.int false IntKind.i64 (l.get
    k).right.deep.hi], [AV.int false IntKind.i64 (l.get k).down.kind, AV.int false IntKind.i64 (l.get k).down.at_.lo, AV.int false IntKind.i64 (l.get k).down.at_.hi, AV.int false
    IntKind.i64 (l.get k).down.wide.lo, AV.int false IntKind.i64 (l.get k).down.wide.hi, AV.int false IntKind.i64 (l.get k).down.deep.lo, AV.int false IntKind.i64 (l.get
    k).down.deep.hi], [AV.int false IntKind.i64 (l.get k).left.kind, AV.int false IntKind.i64 (l.get k).left.at_.lo, AV.int false IntKind.i64 (l.get k).left.at_.hi, AV.int false
    IntKind.i64 (l.get k).left.wide.lo, AV.int false IntKind.i64 (l.get k).left.wide.hi, AV.int false IntKind.i64 (l.get k).left.deep.lo, AV.int false IntKind.i64 (l.get
    k).left.deep.hi]] (0 : Nat) i (5 : Nat)) (rowI [[AV.int false IntKind.i64 (l.get k).up.kind, AV.int false IntKind.i64 (l.get k).up.at_.lo, AV.int false IntKind.i64 (l.get
    k).up.at_.hi, AV.int false IntKind.i64 (l.get k).up.wide.lo, AV.int false IntKind.i64 (l.get k).up.wide.hi, AV.int false IntKind.i64 (l.get k).up.deep.lo, AV.int false IntKind.i64
    (l.get k).up.deep.hi], [AV.int false IntKind.i64 (l.get k).right.kind, AV.int false IntKind.i64 (l.get k).right.at_.lo, AV.int false IntKind.i64 (l.get k).right.at_.hi, AV.int false
    IntKind.i64 (l.get k).right.wide.lo, AV.int false IntKind.i64 (l.get k).right.wide.hi, AV.int false IntKind.i64 (l.get k).right.deep.lo, AV.int false IntKind.i64 (l.get
    k).right.deep.hi], [AV.int false IntKind.i64 (l.get k).down.kind, AV.int false IntKind.i64 (l.get k).down.at_.lo, AV.int false IntKind.i64 (l.get k).down.at_.hi, AV.int false
    IntKind.i64 (l.get k).down.wide.lo, AV.int false IntKind.i64 (l.get k).down.wide.hi, AV.int false IntKind.i64 (l.get k).down.deep.lo, AV.int false IntKind.i64 (l.get
    k).down.deep.hi], [AV.int false IntKind.i64 (l.get k).left.kind, AV.int false IntKind.i64 (l.get k).left.at_.lo, AV.int false IntKind.i64 (l.get k).left.at_.hi, AV.int false
    IntKind.i64 (l.get k).left.wide.lo, AV.int false IntKind.i64 (l.get k).left.wide.hi, AV.int false IntKind.i64 (l.get k).left.deep.lo, AV.int false IntKind.i64 (l.get
    k).left.deep.hi]] (0 : Nat) i (6 : Nat)))) != (0 : Int)) (Tree.leaf (AV.tup [AV.nili, AV.ptr (19 : Nat) (0 : Nat) (0 : Nat), AV.int false IntKind.i64 (↑k : Int)]) ([])) (Tree.leaf
    (AV.tup [AV.nilp, AV.ptr (19 : Nat) (0 : Nat) (0 : Nat), AV.slz (0 : Nat) (0 : Nat) l.n (Cap.of (0 : Nat)), AV.fn (Fn.func (71 : Nat)) [AV.ptr (1 : Nat) (0 : Nat) (0 : Nat)], AV.int
    false IntKind.i64 (↑l.n : Int), AV.int false IntKind.i64 (IntKind.i64.wrap ((↑k : Int) + (1 : Int)))]) ([((0 : Nat), Blk.frz [CK.int IntKind.i64, CK.int IntKind.i64, CK.int
    IntKind.i64, CK.int IntKind.i64, CK.int IntKind.i64, CK.int IntKind.i64, CK.int IntKind.i64, CK.int IntKind.i64, CK.int IntKind.i64, CK.int IntKind.i64, CK.int IntKind.i64, CK.int
    IntKind.i64, CK.int IntKind.i64, CK.int IntKind.i64, CK.int IntKind.i64, CK.int IntKind.i64, CK.int IntKind.i64, CK.int IntKind.i64, CK.int IntKind.i64, CK.int IntKind.i64, CK.int
    IntKind.i64, CK.int IntKind.i64, CK.int IntKind.i64, CK.int IntKind.i64, CK.int IntKind.i64, CK.int IntKind.i64, CK.int IntKind.i64, CK.int IntKind.i64] l.n fun i => RowT.enc (l.get
    i)), ((1 : Nat), Blk.cellsR (0 : Nat) (25 : Nat) [AV.int false IntKind.i64 m.x.length, AV.int false IntKind.i64 m.x.slack, AV.int false IntKind.i64 m.x.loose, AV.int false
    IntKind.i64 m.x.damp.lo, AV.int false IntKind.i64 m.x.damp.hi])])))))) (Tree.leaf (AV.tup [AV.ptr (0 : Nat) (0 : Nat) (0 : Nat), AV.ptr (19 : Nat) (0 : Nat) (0 : Nat)]) ([])) := by kernel_rfl
def idpR (l : Rw Piece) (m : PlayK) (k : Nat) (e : Ex) (J : JSt) : Prop := (e = .ret ∧ (firstN (badP m l) (l.n - k) k).isSome = true ∧ J = ⟨19, [(4, .int false .i64 (idxOf (firstN (badP m l) (l.n - k) k)))], [], 8⟩) ∨ (e = .exit 0 ∧ firstN (badP m l) (l.n - k) k = none ∧ J = ⟨19, [], [], 8⟩)
set_option maxRecDepth 100000 in
theorem idp_go (l : Rw Piece) (m : PlayK) (k : Nat) (i : Int) : subE 8 [.slz 0 0 l.n (.of 0), ArgE.val 1 m, .int false .i64 l.n, .int false .i64 i] (idp l m) (idpJ l m k) = (
    some [(0 : Nat) = (0 : Nat), l.n = l.n, Cap.of (0 : Nat) = Cap.of (0 : Nat), Fn.func (71 : Nat) = Fn.func (71 : Nat), (0 : Nat) = (0 : Nat), (0 : Nat) = (0 : Nat), (↑l.n : Int) =
    (↑l.n : Int), i = (↑k : Int), l.n ≤ l.n, RowsEq (28 : Nat) l.n (fun i => RowT.enc (l.get i)) fun i => RowT.enc (l.get i), m.x.length = m.x.length, m.x.slack = m.x.slack, m.x.loose =
    m.x.loose, m.x.damp.lo = m.x.damp.lo, m.x.damp.hi = m.x.damp.hi]) := by kernel_rfl
theorem idp_round (l : Rw Piece) (m : PlayK) (hl : l.n ≤ 1000) : RoundW (idpJ l m) (fun k => k ≤ l.n) (fun k => l.n - k) (idpR l m) 8 idxLs [] (mkE Try.prog tab_isB) (fun _ => hnd (mkE Try.prog tab_isB) 4) (bodyK Try.f90 0) := by
  refine ⟨fun k g hk => ⟨den_of (idp_r l m k g) ?_⟩⟩
  refine den_br (fun h => ?_) (fun h => ?_)
  · have h : k < l.n := by have := of_decide_eq_true h; omega
    obtain ⟨n, hm⟩ : ∃ n, l.n - k = n + 1 := ⟨l.n - k - 1, by omega⟩
    have hm' : l.n - (k + 1) = n := by omega
    refine den_need (by simp; omega) (den_need (by simp; omega) (den_need rfl (den_br (fun hb => ?_) (fun hb => ?_))))
    · have hf : firstN (badP m l) (l.n - k) k = some k := by rw [hm, firstN]; unfold badP; rw [(mat_piece m.x (l.get k) _ rfl rfl rfl rfl rfl).symm.trans hb]
      exact ⟨_, .inl ⟨rfl, by rw [hf]; rfl, rfl⟩, rfl, rfl, _, idx_ret _ _, by rw [hf]; exact ⟨rfl, trivial⟩⟩
    · have hf : firstN (badP m l) (l.n - k) k = firstN (badP m l) (l.n - (k + 1)) (k + 1) := by rw [hm, hm', firstN]; unfold badP; rw [(mat_piece m.x (l.get k) _ rfl rfl rfl rfl rfl).symm.trans hb]
      refine ⟨k + 1, by omega, by show l.n - (k + 1) < l.n - k; omega, fun e J h => by unfold idpR at h ⊢; rw [hf]; exact h, rfl, rfl, _, idp_go _ _ _ _, ?_⟩
      repeat' first | exact trivial | with_reducible rfl | exact Nat.le_refl _ | exact RowsEq.refl _ _ _ | exact (w64 (by omega) (by omega)).trans (by omega) | refine And.intro ?_ ?_
  · have h : l.n ≤ k := by have := of_decide_eq_false h; omega
    have hf : firstN (badP m l) (l.n - k) k = none := by rw [show l.n - k = 0 by omega]; rfl
    exact ⟨_, .inr ⟨rfl, hf, rfl⟩, rfl, rfl, _, idx_end, trivial⟩
def idpX (l : Rw Piece) (m : PlayK) : List (Prop × Ex × JSt) := [((firstN (badP m l) l.n 0).isSome = true, .ret, ⟨19, [(4, .int false .i64 (idxOf (firstN (badP m l) l.n 0)))], [], 8⟩), (firstN (badP m l) l.n 0 = none, .exit 0, ⟨19, [], [], 8⟩)]
abbrev idpL (l : Rw Piece) (m : PlayK) : Code → St → (Ex → St → Tree) → Tree := fun _ => loopT 8 [] (idpJ l m 0) (idpX l m)
theorem idp_hnd (l : Rw Piece) (m : PlayK) (hl : l.n ≤ 1000) (G : Ctx) (hrd : G.rd = none) (hG : G.n = 8) : HndOk (mkE Try.prog tab_isB) G { hnd (mkE Try.prog tab_isB) 1 with loop := idpL l m } (bodyOf Try.f90) := by
  refine one_loop (body := bodyK Try.f90 0) (mkE_ok tab_isB_ok) hrd (by kernel_rfl) ?_
  refine loopT_ok (n0 := 8) (mkE_ok tab_isB_ok) (by omega) (fun s hs => hnd_hndOk (mkE_ok tab_isB_ok) 4 G _ hrd) (fun s hs => Nat.le_refl _) ?_ (idp_round l m hl) (s0 := 0) (Nat.zero_le _) ?_
  · rintro s e J (⟨_, _, rfl⟩ | ⟨_, _, rfl⟩) <;> exact Nat.le_refl _
  · rintro e J (⟨rfl, h, rfl⟩ | ⟨rfl, h, rfl⟩)
    · exact ⟨_, List.mem_cons_self, h, rfl, rfl⟩
    · exact ⟨_, List.mem_cons_of_mem _ List.mem_cons_self, h, rfl, rfl⟩
def idpF : WF ((Rw Piece) × PlayK × Unit) := fun | (l, (m, _)) => (decide (l.n ≤ 1000), .int false .i64 (idxOf (firstN (badP m l) l.n 0)), [])
def idpC : FC := wFC idpF
set_option maxRecDepth 100000 in
theorem idp_t (l : (Rw Piece)) (m : PlayK) : execW (mkE Try.prog tab_isB) { hnd (mkE Try.prog tab_isB) 1 with loop := idpL l m } Try.f90 (ArgsE.vals 0 ((l, m, ()) : (Rw Piece) × PlayK × Unit)) (ArgsE.blks 0 ((l, m, ()) : (Rw Piece) × PlayK × Unit)) 8 =
    Tree.ask ((0 : Nat) = (0 : Nat)) (Tree.ask (l.n = l.n) (Tree.ask (Cap.of (0 : Nat) = Cap.of (0 : Nat)) (Tree.ask (Fn.func (71 : Nat) = Fn.func (71 : Nat)) (Tree.ask ((0 : Nat) = (0
    : Nat)) (Tree.ask ((0 : Nat) = (0 : Nat)) (Tree.ask ((↑l.n : Int) = (↑l.n : Int)) (Tree.ask ((0 : Int) = (0 : Int)) (Tree.ask (l.n ≤ l.n) (Tree.ask (RowsEq (28 : Nat) l.n (fun i =>
    RowT.enc (l.get i)) fun i => RowT.enc (l.get i)) (Tree.ask (m.x.length = m.x.length) (Tree.ask (m.x.slack = m.x.slack) (Tree.ask (m.x.loose = m.x.loose) (Tree.ask (m.x.damp.lo =
    m.x.damp.lo) (Tree.ask (m.x.damp.hi = m.x.damp.hi) (Tree.both (Tree.asm ((firstN (badP m l) l.n (0 : Nat)).isSome = true) (Tree.all (fun (g0 : Nat → Value) => Tree.leaf (AV.int
    false IntKind.i64 (idxOf (firstN (badP m l) l.n (0 : Nat)))) ([])))) (Tree.asm (firstN (badP m l) l.n (0 : Nat) = none) (Tree.all (fun (g1 : Nat → Value) => Tree.leaf (AV.int true
    IntKind.i64 (-1 : Int)) ([]))))))))))))))))))) := by kernel_rfl
theorem idp_hs : WHnd (mkE Try.prog tab_isB) (bodyOf Try.f90) 8 idpF (fun x_ => { hnd (mkE Try.prog tab_isB) 1 with loop := idpL x_.1 x_.2.1 }) := by
  refine ⟨?_⟩
  rintro ⟨l, ⟨m, ⟨⟩⟩⟩ hp G h1 h2
  exact idp_hnd l m (of_decide_eq_true hp) G h1 h2
theorem idp_run : WRun (mkE Try.prog tab_isB) Try.f90 8 idpF (fun x_ => { hnd (mkE Try.prog tab_isB) 1 with loop := idpL x_.1 x_.2.1 }) := by
  refine ⟨?_⟩
  rintro ⟨l, ⟨m, ⟨⟩⟩⟩ hp
  refine ⟨⟨rfl, by simp [idpF], rfl⟩, ⟨?_⟩⟩
  rw [idp_t l m]
  simp only [idpF] at hp
  repeat' first | refine den_ask (by with_reducible rfl) ?_ | refine den_ask (Nat.le_refl _) ?_ | refine den_ask (RowsEq.refl _ _ _) ?_ | refine den_ask (show _ = _ from rfl) ?_
  refine den_both (den_asm fun h => den_all fun g => ?_) (den_asm fun h => den_all fun g => ?_)
  · exact endOk_same ⟨rfl, rfl⟩ rfl
  · exact endOk_same ⟨rfl, by show (-1 : Int) = idxOf (firstN (badP m l) l.n 0); rw [h]; rfl⟩ rfl
theorem idp_s : FSound Try.prog 90 idpC :=
  fn_W (mkE_ok tab_isB_ok) Try.func90 (by kernel_rfl) (by kernel_rfl) (by decide) idp_hs idp_run
def tab_idp : Tab := addF tab_isB 90 idpC
theorem tab_idp_ok : TabOk tab_idp := tab_isB_ok.add idp_s
def conpF : WF ((Rw Piece) × PlayK × Unit) := fun | (l, (m, _)) => (decide (l.n ≤ 1000), .bool false (decide (idxOf (firstN (badP m l) l.n 0) ≥ 0)), [])
def conpC : FC := wFC conpF
set_option maxRecDepth 100000 in
theorem conp_t (l : (Rw Piece)) (m : PlayK) : execW (mkE Try.prog tab_idp) (hnd (mkE Try.prog tab_idp) 0) Try.f70 (ArgsE.vals 0 ((l, m, ()) : (Rw Piece) × PlayK × Unit)) (ArgsE.blks 0 ((l, m, ()) : (Rw Piece) × PlayK × Unit)) 8 =
    Tree.need (decide (l.n ≤ l.n) && (true && true) && decide (l.n ≤ (1000 : Nat))) (Tree.leaf (AV.bool false (decide (idxOf (firstN (badP m l) l.n (0 : Nat)) ≥ (0 : Int)))) ([])) := by kernel_rfl
theorem conp_hs : WHnd (mkE Try.prog tab_idp) (bodyOf Try.f70) 8 conpF (fun x_ => (hnd (mkE Try.prog tab_idp) 0)) := by
  refine ⟨?_⟩
  rintro ⟨l, ⟨m, ⟨⟩⟩⟩ hp G h1 h2
  exact hnd_hndOk (mkE_ok tab_idp_ok) 0 G _ h1
theorem conp_run : WRun (mkE Try.prog tab_idp) Try.f70 8 conpF (fun x_ => (hnd (mkE Try.prog tab_idp) 0)) := by
  refine ⟨?_⟩
  rintro ⟨l, ⟨m, ⟨⟩⟩⟩ hp
  refine ⟨⟨rfl, by simp [conpF], rfl⟩, ⟨?_⟩⟩
  rw [conp_t l m]
  simp only [conpF] at hp
  exact den_need (by simpa using hp) (endOk_same rfl rfl)
theorem conp_s : FSound Try.prog 70 conpC :=
  fn_W (mkE_ok tab_idp_ok) Try.func70 (by kernel_rfl) (by kernel_rfl) (by decide) conp_hs conp_run
def tab_conp : Tab := addF tab_idp 70 conpC
theorem tab_conp_ok : TabOk tab_conp := tab_idp_ok.add conp_s
end Go.Proofs.Ytbpffdkemeoajaa
