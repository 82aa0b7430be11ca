/- The reference: Sides, has. -/
import Derived.Test.YtdaanchagjamfaaNpzc
import Derived.Test.YtdaanchagjamfaaNpzd
namespace Go.Proofs.Ytdaanchagjamfaa
open Go.SX
def sdJ (l : Rw Edge) (k : Nat) : JSt := ⟨16, [(0, .slz 0 0 l.n (.of 0)), (3, .int false .i64 k)], ArgE.blk 0 l, 8⟩
def sdLs : Ex → List Nat
  | .normal => [0, 3]
  | .exit _ => []
  | .ret => [2]
def sdRet : JSt := ⟨16, [(2, .bool false false)], [], 8⟩
def sdEnd : JSt := ⟨16, [], [], 8⟩
set_option maxRecDepth 100000 in
theorem sd_r (l : Rw Edge) (k : Nat) (g : Nat → Value) : exec (mkE Try.prog tab_ints) (hnd (mkE Try.prog tab_ints) 0) (bodyK Try.f67 0) (JSt.inst (sdJ l k) g) (leafW [] sdLs) =
    Tree.br (decide ((↑k : Int) < (↑l.n : Int))) (Tree.need (decide ((0 : Int) ≤ (↑k : Int) ∧ (↑k : Int) < (↑l.n : Int)) && decide (l.n ≤ l.n)) (Tree.need (decide (k < l.n)) (Tree.need
    (true) (Tree.br (!(l.get k).ok) (Tree.leaf (AV.tup [AV.nili, AV.ptr (16 : Nat) (0 : Nat) (0 : Nat), AV.bool true false]) ([])) (Tree.leaf (AV.tup [AV.nilp, AV.ptr (16 : Nat) (0 :
    Nat) (0 : Nat), AV.slz (0 : Nat) (0 : Nat) l.n (Cap.of (0 : Nat)), AV.int false IntKind.i64 (IntKind.i64.wrap ((↑k : Int) + (1 : Int)))]) ([((0 : Nat), Blk.frz [CK.int IntKind.i64,
    CK.int IntKind.i64, CK.int IntKind.i64, CK.int IntKind.i64, CK.int IntKind.i64, CK.int IntKind.i64, CK.int IntKind.i64] l.n fun i => RowT.enc (l.get i))])))))) (Tree.leaf (AV.tup
    [AV.ptr (0 : Nat) (0 : Nat) (0 : Nat), AV.ptr (16 : Nat) (0 : Nat) (0 : Nat)]) ([])) := by kernel_rfl
set_option maxRecDepth 100000 in
theorem sd_ret  : subE 8 [AV.bool true false] ([]) sdRet = (
    some [false = false]) := by kernel_rfl
set_option maxRecDepth 100000 in
theorem sd_go (l : Rw Edge) (k k' : Nat) : subE 8 [AV.slz (0 : Nat) (0 : Nat) l.n (Cap.of (0 : Nat)), AV.int false IntKind.i64 (IntKind.i64.wrap ((↑k : Int) + (1 : Int)))] ([((0 : Nat), Blk.frz [CK.int IntKind.i64, CK.int IntKind.i64, CK.int IntKind.i64, CK.int IntKind.i64, CK.int IntKind.i64, CK.int IntKind.i64, CK.int IntKind.i64] l.n fun i => RowT.enc (l.get i))]) (sdJ l k') = (
    some [(0 : Nat) = (0 : Nat), l.n = l.n, Cap.of (0 : Nat) = Cap.of (0 : Nat), IntKind.i64.wrap ((↑k : Int) + (1 : Int)) = (↑k' : Int), l.n ≤ l.n, RowsEq (7 : Nat) l.n (fun i =>
    RowT.enc (l.get i)) fun i => RowT.enc (l.get i)]) := by kernel_rfl
set_option maxRecDepth 100000 in
theorem sd_end  : subE 8 [] ([]) sdEnd = (
    some []) := by kernel_rfl
def sdR (l : Rw Edge) (k : Nat) (e : Ex) (J : JSt) : Prop := (e = .ret ∧ (firstN (fun i => !(l.get i).ok) (l.n - k) k).isNone = false ∧ J = sdRet) ∨ (e = .exit 0 ∧ (firstN (fun i => !(l.get i).ok) (l.n - k) k).isNone = true ∧ J = sdEnd)
set_option maxRecDepth 100000 in
theorem sd_round (l : Rw Edge) (hl : l.n ≤ 1000) : RoundW (sdJ l) (fun k => k ≤ l.n) (fun k => l.n - k) (sdR l) 8 sdLs [] (mkE Try.prog tab_ints) (fun _ => hnd (mkE Try.prog tab_ints) 0) (bodyK Try.f67 0) := by
  refine ⟨fun k g hk => ⟨den_of (sd_r l k g) ?_⟩⟩
  refine den_br (fun h => ?_) (fun h => ?_)
  · have h : k < l.n := by have := of_decide_eq_true h; omega
    obtain ⟨m, hm⟩ : ∃ m, l.n - k = m + 1 := ⟨l.n - k - 1, by omega⟩
    have hm' : l.n - (k + 1) = m := by omega
    refine den_need (by simp; omega) (den_need (by simp; omega) (den_need rfl (den_br (fun hb => ?_) (fun hb => ?_))))
    · have hf : firstN (fun i => !(l.get i).ok) (l.n - k) k = some k := by rw [hm, firstN, hb]
      exact ⟨_, .inl ⟨rfl, by rw [hf]; rfl, rfl⟩, rfl, rfl, _, sd_ret, ⟨rfl, trivial⟩⟩
    · have hf : firstN (fun i => !(l.get i).ok) (l.n - k) k = firstN (fun i => !(l.get i).ok) (l.n - (k + 1)) (k + 1) := by rw [hm, hm', firstN, hb]
      refine ⟨k + 1, by omega, by show l.n - (k + 1) < l.n - k; omega, fun e J h => by unfold sdR at h ⊢; rw [hf]; exact h, rfl, rfl, _, sd_go _ _ (k + 1), ?_⟩
      have hw : IntKind.i64.wrap ((k : Int) + 1) = ((k + 1 : Nat) : Int) := (w64 (by omega) (by omega)).trans (by omega)
      repeat' first | exact trivial | with_reducible rfl | exact Nat.le_refl _ | exact RowsEq.refl _ _ _ | exact hw | refine And.intro ?_ ?_
  · have h : l.n ≤ k := by have := of_decide_eq_false h; omega
    have hf : firstN (fun i => !(l.get i).ok) (l.n - k) k = none := by rw [show l.n - k = 0 by omega]; rfl
    exact ⟨_, .inr ⟨rfl, by rw [hf]; rfl, rfl⟩, rfl, rfl, _, sd_end, trivial⟩
def sdX (l : Rw Edge) : List (Prop × Ex × JSt) := [((firstN (fun i => !(l.get i).ok) l.n 0).isNone = false, .ret, sdRet), ((firstN (fun i => !(l.get i).ok) l.n 0).isNone = true, .exit 0, sdEnd)]
abbrev sdH (P : Program) (l : Rw Edge) : Hnd := { hnd (mkE P tab_ints) 1 with loop := fun _ => loopT 8 [] (sdJ l 0) (sdX l) }
theorem sd_hnd (l : Rw Edge) (hl : l.n ≤ 1000) (G : Ctx) (hrd : G.rd = none) (hG : G.n = 8) : HndOk (mkE Try.prog tab_ints) G (sdH Try.prog l) (bodyOf Try.f67) := by
  refine one_loop (body := bodyK Try.f67 0) (mkE_ok tab_ints_ok) hrd (by kernel_rfl) ?_
  refine loopT_ok (n0 := 8) (mkE_ok tab_ints_ok) (by omega) (fun s hs => hnd_hndOk (mkE_ok tab_ints_ok) 0 G _ hrd) (fun s hs => Nat.le_refl _) ?_ (sd_round l hl) (s0 := 0) (Nat.zero_le _) ?_
  · rintro s e J (⟨_, _, rfl⟩ | ⟨_, _, rfl⟩) <;> exact Nat.le_refl _
  · rintro e J (⟨rfl, h, rfl⟩ | ⟨rfl, h, rfl⟩)
    · exact ⟨_, List.mem_cons_self, h, rfl, rfl⟩
    · exact ⟨_, List.mem_cons_of_mem _ List.mem_cons_self, h, rfl, rfl⟩
def rsidesF : WF ((Rw Edge) × Unit) := fun | (l, _) => (decide (l.n ≤ 1000), .bool false (allN (fun i => (l.get i).ok) l.n), [])
def rsidesC : FC := wFC rsidesF
set_option maxRecDepth 100000 in
theorem rsides_t (l : (Rw Edge)) : execW (mkE Try.prog tab_ints) (sdH Try.prog l) Try.f67 (ArgsE.vals 0 ((l, ()) : (Rw Edge) × Unit)) (ArgsE.blks 0 ((l, ()) : (Rw Edge) × Unit)) 8 =
    Tree.ask ((0 : Nat) = (0 : Nat)) (Tree.ask (l.n = l.n) (Tree.ask (Cap.of (0 : Nat) = Cap.of (0 : Nat)) (Tree.ask ((0 : Int) = (0 : Int)) (Tree.ask (l.n ≤ l.n) (Tree.ask (RowsEq (7 :
    Nat) l.n (fun i => RowT.enc (l.get i)) fun i => RowT.enc (l.get i)) (Tree.both (Tree.asm ((firstN (fun i => !(l.get i).ok) l.n (0 : Nat)).isNone = false) (Tree.all (fun (g0 : Nat →
    Value) => Tree.leaf (AV.bool false false) ([])))) (Tree.asm ((firstN (fun i => !(l.get i).ok) l.n (0 : Nat)).isNone = true) (Tree.all (fun (g1 : Nat → Value) => Tree.leaf (AV.bool
    true true) ([])))))))))) := by kernel_rfl
theorem rsides_hs : WHnd (mkE Try.prog tab_ints) (bodyOf Try.f67) 8 rsidesF (fun x_ => (sdH Try.prog x_.1)) := by
  refine ⟨?_⟩
  rintro ⟨l, ⟨⟩⟩ hp G h1 h2
  exact sd_hnd l (of_decide_eq_true hp) G h1 h2
theorem rsides_run : WRun (mkE Try.prog tab_ints) Try.f67 8 rsidesF (fun x_ => (sdH Try.prog x_.1)) := by
  refine ⟨?_⟩
  rintro ⟨l, ⟨⟩⟩ hp
  refine ⟨⟨rfl, by simp [rsidesF], rfl⟩, ⟨?_⟩⟩
  rw [rsides_t l]
  simp only [rsidesF] at hp
  repeat' first | refine den_ask (show _ = _ by with_reducible rfl) ?_ | refine den_ask (show _ ≤ _ from Nat.le_refl _) ?_ | refine den_ask (show RowsEq _ _ _ _ from RowsEq.refl _ _ _) ?_
  refine den_both (den_asm fun h => den_all fun g => ?_) (den_asm fun h => den_all fun g => ?_)
  · exact endOk_same (show _ = allN (fun i => (l.get i).ok) l.n by unfold allN; rw [h]) rfl
  · exact endOk_same (show _ = allN (fun i => (l.get i).ok) l.n by unfold allN; rw [h]) rfl
theorem rsides_s : FSound Try.prog 67 rsidesC :=
  fn_W (mkE_ok tab_ints_ok) Try.func67 (by kernel_rfl) (by kernel_rfl) (by decide) rsides_hs rsides_run
def tab_rsides : Tab := addF tab_ints 67 rsidesC
theorem tab_rsides_ok : TabOk tab_rsides := tab_ints_ok.add rsides_s
def hsJ (w : Rw Int) (n : Int) (k : Nat) : JSt := ⟨18, [(0, .slz 0 0 w.n (.of 0)), (1, .int false .i64 n), (5, .int false .i64 k)], ArgE.blk 0 w, 8⟩
def hsLs : Ex → List Nat
  | .normal => [0, 1, 5]
  | .exit _ => []
  | .ret => [4]
def hsRet : JSt := ⟨18, [(4, .bool false true)], [], 8⟩
def hsEnd : JSt := ⟨18, [], [], 8⟩
set_option maxRecDepth 100000 in
theorem hs_r (w : Rw Int) (n : Int) (k : Nat) (g : Nat → Value) : exec (mkE Try.prog tab_ints) (hnd (mkE Try.prog tab_ints) 0) (bodyK Try.f87 0) (JSt.inst (hsJ w n k) g) (leafW [] hsLs) =
    Tree.br (decide ((↑k : Int) < (↑w.n : Int))) (Tree.need (decide ((0 : Int) ≤ (↑k : Int) ∧ (↑k : Int) < (↑w.n : Int)) && decide (w.n ≤ w.n)) (Tree.need (decide (k < w.n)) (Tree.br
    (w.get k == n) (Tree.leaf (AV.tup [AV.nili, AV.ptr (18 : Nat) (0 : Nat) (0 : Nat), AV.bool true true]) ([])) (Tree.leaf (AV.tup [AV.nilp, AV.ptr (18 : Nat) (0 : Nat) (0 : Nat),
    AV.slz (0 : Nat) (0 : Nat) w.n (Cap.of (0 : Nat)), AV.int false IntKind.i64 n, AV.int false IntKind.i64 (IntKind.i64.wrap ((↑k : Int) + (1 : Int)))]) ([((0 : Nat), Blk.frz [CK.int
    IntKind.i64] w.n fun i => RowT.enc (w.get i))]))))) (Tree.leaf (AV.tup [AV.ptr (0 : Nat) (0 : Nat) (0 : Nat), AV.ptr (18 : Nat) (0 : Nat) (0 : Nat)]) ([])) := by kernel_rfl
set_option maxRecDepth 100000 in
theorem hs_ret  : subE 8 [AV.bool true true] ([]) hsRet = (
    some [true = true]) := by kernel_rfl
set_option maxRecDepth 100000 in
theorem hs_go (w : Rw Int) (n : Int) (k k' : Nat) : subE 8 [AV.slz (0 : Nat) (0 : Nat) w.n (Cap.of (0 : Nat)), AV.int false IntKind.i64 n, AV.int false IntKind.i64 (IntKind.i64.wrap ((↑k : Int) + (1 : Int)))] ([((0 : Nat), Blk.frz [CK.int IntKind.i64] w.n fun i => RowT.enc (w.get i))]) (hsJ w n k') = (
    some [(0 : Nat) = (0 : Nat), w.n = w.n, Cap.of (0 : Nat) = Cap.of (0 : Nat), n = n, IntKind.i64.wrap ((↑k : Int) + (1 : Int)) = (↑k' : Int), w.n ≤ w.n, RowsEq (1 : Nat) w.n (fun i
    => RowT.enc (w.get i)) fun i => RowT.enc (w.get i)]) := by kernel_rfl
set_option maxRecDepth 100000 in
theorem hs_end  : subE 8 [] ([]) hsEnd = (
    some []) := by kernel_rfl
def hsR (w : Rw Int) (n : Int) (k : Nat) (e : Ex) (J : JSt) : Prop := (e = .ret ∧ (firstN (eqW w n) (w.n - k) k).isSome = true ∧ J = hsRet) ∨ (e = .exit 0 ∧ (firstN (eqW w n) (w.n - k) k).isSome = false ∧ J = hsEnd)
set_option maxRecDepth 100000 in
theorem hs_round (w : Rw Int) (n : Int) (hl : w.n ≤ 1000) : RoundW (hsJ w n) (fun k => k ≤ w.n) (fun k => w.n - k) (hsR w n) 8 hsLs [] (mkE Try.prog tab_ints) (fun _ => hnd (mkE Try.prog tab_ints) 0) (bodyK Try.f87 0) := by
  refine ⟨fun k g hk => ⟨den_of (hs_r w n k g) ?_⟩⟩
  refine den_br (fun h => ?_) (fun h => ?_)
  · have h : k < w.n := by have := of_decide_eq_true h; omega
    obtain ⟨m, hm⟩ : ∃ m, w.n - k = m + 1 := ⟨w.n - k - 1, by omega⟩
    have hm' : w.n - (k + 1) = m := by omega
    refine den_need (by simp; omega) (den_need (by simp; omega) (den_br (fun hb => ?_) (fun hb => ?_)))
    · have hb : eqW w n k = true := hb
      have hf : firstN (eqW w n) (w.n - k) k = some k := by rw [hm, firstN, hb]
      exact ⟨_, .inl ⟨rfl, by rw [hf]; rfl, rfl⟩, rfl, rfl, _, hs_ret, ⟨rfl, trivial⟩⟩
    · have hb : eqW w n k = false := hb
      have hf : firstN (eqW w n) (w.n - k) k = firstN (eqW w n) (w.n - (k + 1)) (k + 1) := by rw [hm, hm', firstN, hb]
      refine ⟨k + 1, by omega, by show w.n - (k + 1) < w.n - k; omega, fun e J h => by unfold hsR at h ⊢; rw [hf]; exact h, rfl, rfl, _, hs_go _ _ _ (k + 1), ?_⟩
      have hw : IntKind.i64.wrap ((k : Int) + 1) = ((k + 1 : Nat) : Int) := (w64 (by omega) (by omega)).trans (by omega)
      repeat' first | exact trivial | with_reducible rfl | exact Nat.le_refl _ | exact RowsEq.refl _ _ _ | exact hw | refine And.intro ?_ ?_
  · have h : w.n ≤ k := by have := of_decide_eq_false h; omega
    have hf : firstN (eqW w n) (w.n - k) k = none := by rw [show w.n - k = 0 by omega]; rfl
    exact ⟨_, .inr ⟨rfl, by rw [hf]; rfl, rfl⟩, rfl, rfl, _, hs_end, trivial⟩
def hsX (w : Rw Int) (n : Int) : List (Prop × Ex × JSt) := [((firstN (eqW w n) w.n 0).isSome = true, .ret, hsRet), ((firstN (eqW w n) w.n 0).isSome = false, .exit 0, hsEnd)]
abbrev hsH (P : Program) (w : Rw Int) (n : Int) : Hnd := { hnd (mkE P tab_ints) 1 with loop := fun _ => loopT 8 [] (hsJ w n 0) (hsX w n) }
theorem hs_hnd (w : Rw Int) (n : Int) (hl : w.n ≤ 1000) (G : Ctx) (hrd : G.rd = none) (hG : G.n = 8) : HndOk (mkE Try.prog tab_ints) G (hsH Try.prog w n) (bodyOf Try.f87) := by
  refine one_loop (body := bodyK Try.f87 0) (mkE_ok tab_ints_ok) hrd (by kernel_rfl) ?_
  refine loopT_ok (n0 := 8) (mkE_ok tab_ints_ok) (by omega) (fun s hs => hnd_hndOk (mkE_ok tab_ints_ok) 0 G _ hrd) (fun s hs => Nat.le_refl _) ?_ (hs_round w n hl) (s0 := 0) (Nat.zero_le _) ?_
  · rintro s e J (⟨_, _, rfl⟩ | ⟨_, _, rfl⟩) <;> exact Nat.le_refl _
  · rintro e J (⟨rfl, h, rfl⟩ | ⟨rfl, h, rfl⟩)
    · exact ⟨_, List.mem_cons_self, h, rfl, rfl⟩
    · exact ⟨_, List.mem_cons_of_mem _ List.mem_cons_self, h, rfl, rfl⟩
def rhas0F : WF ((Rw Int) × Int × Unit) := fun | (w, (n, _)) => (decide (w.n ≤ 1000), .bool false (hasV w n), [])
def rhas0C : FC := wFC rhas0F
set_option maxRecDepth 100000 in
theorem rhas0_t (w : (Rw Int)) (n : Int) : execW (mkE Try.prog tab_ints) (hsH Try.prog w n) Try.f87 (ArgsE.vals 0 ((w, n, ()) : (Rw Int) × Int × Unit)) (ArgsE.blks 0 ((w, n, ()) : (Rw Int) × Int × Unit)) 8 =
    Tree.ask ((0 : Nat) = (0 : Nat)) (Tree.ask (w.n = w.n) (Tree.ask (Cap.of (0 : Nat) = Cap.of (0 : Nat)) (Tree.ask (n = n) (Tree.ask ((0 : Int) = (0 : Int)) (Tree.ask (w.n ≤ w.n)
    (Tree.ask (RowsEq (1 : Nat) w.n (fun i => RowT.enc (w.get i)) fun i => RowT.enc (w.get i)) (Tree.both (Tree.asm ((firstN (eqW w n) w.n (0 : Nat)).isSome = true) (Tree.all (fun (g0 :
    Nat → Value) => Tree.leaf (AV.bool false true) ([])))) (Tree.asm ((firstN (eqW w n) w.n (0 : Nat)).isSome = false) (Tree.all (fun (g1 : Nat → Value) => Tree.leaf (AV.bool true
    false) ([]))))))))))) := by kernel_rfl
theorem rhas0_hs : WHnd (mkE Try.prog tab_ints) (bodyOf Try.f87) 8 rhas0F (fun x_ => (hsH Try.prog x_.1 x_.2.1)) := by
  refine ⟨?_⟩
  rintro ⟨w, ⟨n, ⟨⟩⟩⟩ hp G h1 h2
  exact hs_hnd w n (of_decide_eq_true hp) G h1 h2
theorem rhas0_run : WRun (mkE Try.prog tab_ints) Try.f87 8 rhas0F (fun x_ => (hsH Try.prog x_.1 x_.2.1)) := by
  refine ⟨?_⟩
  rintro ⟨w, ⟨n, ⟨⟩⟩⟩ hp
  refine ⟨⟨rfl, by simp [rhas0F], rfl⟩, ⟨?_⟩⟩
  rw [rhas0_t w n]
  simp only [rhas0F] at hp
  repeat' first | refine den_ask (show _ = _ by with_reducible rfl) ?_ | refine den_ask (show _ ≤ _ from Nat.le_refl _) ?_ | refine den_ask (show RowsEq _ _ _ _ from RowsEq.refl _ _ _) ?_
  refine den_both (den_asm fun h => den_all fun g => ?_) (den_asm fun h => den_all fun g => ?_)
  · exact endOk_same (show _ = hasV w n by unfold hasV; rw [h]) rfl
  · exact endOk_same (show _ = hasV w n by unfold hasV; rw [h]) rfl
theorem rhas0_s : FSound Try.prog 87 rhas0C :=
  fn_W (mkE_ok tab_ints_ok) Try.func87 (by kernel_rfl) (by kernel_rfl) (by decide) rhas0_hs rhas0_run
def tab_rhas0 : Tab := addF tab_ints 87 rhas0C
theorem tab_rhas0_ok : TabOk tab_rhas0 := tab_ints_ok.add rhas0_s
def tab_rhas : Tab := addF tab_rsides 87 rhas0C
theorem tab_rhas_ok : TabOk tab_rhas := tab_rsides_ok.add rhas0_s
end Go.Proofs.Ytdaanchagjamfaa
