/- Loops by invariants. -/
import Derived.Test.YtdaanchagjamfaaNpm
namespace Go.SX
open Go Go.RowKit Go.Proofs.Ytdaanchagjamfaa

mutual
/-- v stands for what u stands for, u's blocks under other numbers: q gives v's number. -/
def AV.sameR (q : Nat → Nat) : AV → AV → Prop
  | .int _ k n, .int _ k' n' => k = k' ∧ n = n'
  | .bool _ b, .bool _ b' => b = b'
  | .ptr id e j, .ptr id' e' j' => id = q id' ∧ e = e' ∧ j = j'
  | .addr a, .addr a' => a = a'
  | .nilp, .nilp => True
  | .slice _ id e n cp, .slice _ id' e' n' cp' => id = q id' ∧ e = e' ∧ n = n' ∧ cp = cp'
  | .nils, .nils => True
  | .map id, .map id' => id = q id'
  | .yld id, .yld id' => id = q id'
  | .nilm, .nilm => True
  | .fn f l, .fn f' l' => f = f' ∧ AV.sameRL q l l'
  | .nilf, .nilf => True
  | .ifc t v, .ifc t' v' => t = t' ∧ v.sameR q v'
  | .nili, .nili => True
  | .str s, .str s' => s = s'
  | .agg l, .agg l' => AV.sameRL q l l'
  | .tup l, .tup l' => AV.sameRL q l l'
  | .raw v, .raw v' => v = v'
  | _, _ => False
def AV.sameRL (q : Nat → Nat) : List AV → List AV → Prop
  | [], [] => True
  | v :: l, v' :: l' => v.sameR q v' ∧ AV.sameRL q l l'
  | _, _ => False
end
mutual
theorem sameR_den {q : Nat → Nat} (r : Nat → Loc) : ∀ v u : AV, v.sameR q u → v.den r = u.den (fun i => r (q i))
  | .int .., u, h => by cases u <;> simp only [AV.sameR] at h; obtain ⟨rfl, rfl⟩ := h; rfl
  | .bool .., u, h => by cases u <;> simp only [AV.sameR] at h; subst h; rfl
  | .ptr .., u, h => by cases u <;> simp only [AV.sameR] at h; obtain ⟨rfl, rfl, rfl⟩ := h; rfl
  | .addr .., u, h => by cases u <;> simp only [AV.sameR] at h; subst h; rfl
  | .nilp, u, h => by cases u <;> simp only [AV.sameR] at h; rfl
  | .slice .., u, h => by cases u <;> simp only [AV.sameR] at h; obtain ⟨rfl, rfl, rfl, rfl⟩ := h; rfl
  | .nils, u, h => by cases u <;> simp only [AV.sameR] at h; rfl
  | .slz .., u, h => by cases u <;> simp only [AV.sameR] at h
  | .map .., u, h => by cases u <;> simp only [AV.sameR] at h; subst h; rfl
  | .yld .., u, h => by cases u <;> simp only [AV.sameR] at h; subst h; rfl
  | .nilm, u, h => by cases u <;> simp only [AV.sameR] at h; rfl
  | .fn f l, u, h => by cases u <;> simp only [AV.sameR] at h; obtain ⟨rfl, h⟩ := h; simp only [AV.den]; rw [sameR_denL r l _ h]
  | .nilf, u, h => by cases u <;> simp only [AV.sameR] at h; rfl
  | .ifc t v, u, h => by cases u <;> simp only [AV.sameR] at h; obtain ⟨rfl, h⟩ := h; simp only [AV.den]; rw [sameR_den r v _ h]
  | .nili, u, h => by cases u <;> simp only [AV.sameR] at h; rfl
  | .str .., u, h => by cases u <;> simp only [AV.sameR] at h; subst h; rfl
  | .agg l, u, h => by cases u <;> simp only [AV.sameR] at h; simp only [AV.den]; rw [sameR_denL r l _ h]
  | .tup l, u, h => by cases u <;> simp only [AV.sameR] at h; simp only [AV.den]; rw [sameR_denL r l _ h]
  | .raw .., u, h => by cases u <;> simp only [AV.sameR] at h; subst h; rfl
  | .opt .., u, h => by cases u <;> simp only [AV.sameR] at h
  | .mth .., u, h => by cases u <;> simp only [AV.sameR] at h
  | .alt .., u, h => by cases u <;> simp only [AV.sameR] at h
theorem sameR_denL {q : Nat → Nat} (r : Nat → Loc) : ∀ v u : List AV, AV.sameRL q v u → AV.denL r v = AV.denL (fun i => r (q i)) u
  | [], u, h => by cases u <;> simp only [AV.sameRL] at h; rfl
  | x :: l, u, h => by
    cases u <;> simp only [AV.sameRL] at h
    simp only [AV.denL]; rw [sameR_den r x _ h.1, sameR_denL r l _ h.2]
end
theorem sameR_len {q : Nat → Nat} : ∀ v u : List AV, AV.sameRL q v u → v.length = u.length
  | [], u, h => by cases u <;> simp only [AV.sameRL] at h; rfl
  | x :: l, u, h => by
    cases u <;> simp only [AV.sameRL] at h
    simp [sameR_len l _ h.2]

def Blk.sameR (q : Nat → Nat) : Blk → Blk → Prop
  | .cells z t l, .cells z' t' l' => z = z' ∧ t = t' ∧ AV.sameRL q l l'
  | .rowl t z l, .rowl t' z' l' => t = t' ∧ z = z' ∧ l = l' ∧ l.all (AV.allL fun _ => false) = true
  | .arr z n g, .arr z' n' g' => z = z' ∧ n = n' ∧ g = g'
  | .cellsR z t l, .cellsR z' t' l' => z = z' ∧ t = t' ∧ AV.sameRL q l l'
  | _, _ => False
theorem Blk.sameR_rep {q : Nat → Nat} {r : Nat → Loc} {id : Nat} {w : World} : ∀ {b b' : Blk}, b.sameR q b' → BRep r (q id) w b → BRep (fun i => r (q i)) id w b'
  | .cells z t l, b', h, hb => by
    cases b' <;> simp only [Blk.sameR] at h
    obtain ⟨rfl, rfl, h⟩ := h
    simp only [BRep] at hb ⊢
    rw [← sameR_denL r _ _ h]; exact hb
  | .rowl t z l, b', h, hb => by
    cases b' <;> simp only [Blk.sameR] at h
    obtain ⟨rfl, rfl, rfl, ha⟩ := h
    simp only [BRep] at hb ⊢
    rw [← denL_congr (p := fun _ => false) (r := r) (r' := fun i => r (q i)) (fun _ hf => by cases hf) _ (allL_flatten ha)]; exact hb
  | .arr z n g, b', h, hb => by
    cases b' <;> simp only [Blk.sameR] at h
    obtain ⟨rfl, rfl, rfl⟩ := h
    simp only [BRep] at hb ⊢
    refine ⟨hb.1, hb.2.1, fun i hi => ⟨(hb.2.2 i hi).1, fun j v hv => ?_⟩⟩
    obtain ⟨h1, h2⟩ := (hb.2.2 i hi).2 j v hv
    refine ⟨h1, ?_⟩
    rw [h2, den_congr (p := fun _ => false) (r := r) (r' := fun i => r (q i)) (fun _ hf => by cases hf) _ h1]
  | .gone, b', h, _ => by cases b' <;> simp only [Blk.sameR] at h
  | .cellsR z t l, b', h, hb => by
    cases b' <;> simp only [Blk.sameR] at h
    obtain ⟨rfl, rfl, h⟩ := h
    simp only [BRep] at hb ⊢
    rw [← sameR_denL r _ _ h]; exact hb
  | .rowlR .., b', h, _ => by cases b' <;> simp only [Blk.sameR] at h
  | .lp .., b', h, _ => by cases b' <;> simp only [Blk.sameR] at h
  | .dfr, b', h, _ => by cases b' <;> simp only [Blk.sameR] at h
  | .mp .., b', h, _ => by cases b' <;> simp only [Blk.sameR] at h
theorem Blk.sameR_own {q : Nat → Nat} : ∀ {b b' : Blk}, b.sameR q b' → b.own = b'.own
  | .cells .., b', h => by cases b' <;> simp only [Blk.sameR] at h; rfl
  | .rowl .., b', h => by cases b' <;> simp only [Blk.sameR] at h; rfl
  | .arr .., b', h => by cases b' <;> simp only [Blk.sameR] at h; rfl
  | .cellsR .., b', h => by cases b' <;> simp only [Blk.sameR] at h; rfl
  | .gone, b', h => by cases b' <;> simp only [Blk.sameR] at h
  | .rowlR .., b', h => by cases b' <;> simp only [Blk.sameR] at h
  | .lp .., b', h => by cases b' <;> simp only [Blk.sameR] at h
  | .dfr, b', h => by cases b' <;> simp only [Blk.sameR] at h
  | .mp .., b', h => by cases b' <;> simp only [Blk.sameR] at h

theorem Blk.sameR_foot {q : Nat → Nat} {r : Nat → Loc} {id k : Nat} : ∀ {b b' : Blk}, b.sameR q b' → Foot (fun i => r (q i)) id b' k → Foot r (q id) b k
  | .cells .., b', h, hk => by cases b' <;> simp only [Blk.sameR] at h; exact hk
  | .rowl .., b', h, hk => by cases b' <;> simp only [Blk.sameR] at h; exact hk
  | .arr .., b', h, hk => by cases b' <;> simp only [Blk.sameR] at h; exact hk
  | .cellsR .., b', h, hk => by cases b' <;> simp only [Blk.sameR] at h; exact hk
  | .gone, b', h, _ => by cases b' <;> simp only [Blk.sameR] at h
  | .rowlR .., b', h, _ => by cases b' <;> simp only [Blk.sameR] at h
  | .lp .., b', h, _ => by cases b' <;> simp only [Blk.sameR] at h
  | .dfr, b', h, _ => by cases b' <;> simp only [Blk.sameR] at h
  | .mp .., b', h, _ => by cases b' <;> simp only [Blk.sameR] at h
  | .rowz .., b', h, _ => by cases b' <;> simp only [Blk.sameR] at h
  | .frz .., b', h, _ => by cases b' <;> simp only [Blk.sameR] at h
  | .frz2 .., b', h, _ => by cases b' <;> simp only [Blk.sameR] at h
  | .mpf .., b', h, _ => by cases b' <;> simp only [Blk.sameR] at h
/-- A state of which just some slots are known. -/
structure JSt where
  len : Nat
  live : List (Nat × AV)
  hp : List (Nat × Blk)
  nid : Nat
def lkS : List (Nat × AV) → Nat → Option AV
  | [], _ => none
  | (i, v) :: l, t => match i == t with
    | true => some v
    | false => lkS l t
def instT (g : Nat → Value) (live : List (Nat × AV)) : Nat → Nat → List AV
  | 0, _ => []
  | n + 1, i => (match lkS live i with | some v => v | none => .raw (g i)) :: instT g live n (i + 1)
def JSt.inst (J : JSt) (g : Nat → Value) : St := ⟨instT g J.live J.len 0, J.hp, J.nid⟩

def subH (q : Nat → Nat) (h : List (Nat × Blk)) : List (Nat × Blk) → Prop
  | [] => True
  | (id, b) :: l => (∃ b', look h (q id) = some b' ∧ b'.sameR q b) ∧ subH q h l
def injB (q : Nat → Nat) : List (Nat × Blk) → Bool
  | [] => true
  | (id, _) :: l => l.all (fun p => q id != q p.1) && injB q l
def scopeJ (J : JSt) : Bool := (J.live.all fun p => p.2.all (· < J.nid)) && J.hp.all fun p => decide (p.1 < J.nid) && p.2.all (· < J.nid)
/-- What is known by the values 'vals' (of J's slots) and the blocks h, J knows too. -/
structure SubV (n0 : Nat) (q : Nat → Nat) (ls : List Nat) (len : Nat) (vals : List AV) (h : List (Nat × Blk)) (J : JSt) : Prop where
  slots : J.live.map (·.1) = ls
  len : len = J.len
  tm : AV.sameRL q vals (J.live.map (·.2))
  hp : subH q h J.hp
  low : ∀ i, i < n0 → q i = i
  nid : n0 ≤ J.nid
  sc : scopeJ J = true
  inj : injB q J.hp = true
  nd : noDfr h = true

theorem lkS_mem {l : List (Nat × AV)} {t : Nat} {v : AV} (h : lkS l t = some v) : (t, v) ∈ l := by
  induction l with
  | nil => cases h
  | cons p l ih =>
    obtain ⟨i, u⟩ := p
    simp only [lkS] at h
    split at h
    · rename_i hi
      simp only [Option.some.injEq] at h; subst h
      have : i = t := by simpa using hi
      subst this; exact List.mem_cons_self
    · exact List.mem_cons_of_mem _ (ih h)
theorem instT_len (g : Nat → Value) (live : List (Nat × AV)) : ∀ n i, (instT g live n i).length = n
  | 0, _ => rfl
  | n + 1, i => by simp [instT, instT_len g live n]
theorem instT_get (g : Nat → Value) (live : List (Nat × AV)) : ∀ n i t, getT (instT g live n i) t = if t < n then (match lkS live (i + t) with | some v => v | none => .raw (g (i + t))) else .tup []
  | 0, _, t => by simp [instT, getT]
  | n + 1, i, 0 => by simp [instT, getT]
  | n + 1, i, t + 1 => by
    have := instT_get g live n (i + 1) t
    have e : i + 1 + t = i + (t + 1) := by omega
    rw [e] at this
    have e2 : getT (instT g live (n + 1) i) (t + 1) = getT (instT g live n (i + 1)) t := rfl
    rw [e2, this]
    by_cases h : t < n
    · rw [if_pos h, if_pos (by omega)]
    · rw [if_neg h, if_neg (by omega)]
theorem subH_mem {q : Nat → Nat} {h : List (Nat × Blk)} : ∀ {l : List (Nat × Blk)}, subH q h l → ∀ p ∈ l, ∃ b', look h (q p.1) = some b' ∧ b'.sameR q p.2
  | [], _, p, hp => by cases hp
  | (id, b) :: l, hs, p, hp => by
    simp only [subH] at hs
    rcases List.mem_cons.1 hp with rfl | hp
    · exact hs.1
    · exact subH_mem hs.2 p hp
theorem injB_spec {q : Nat → Nat} : ∀ {l : List (Nat × Blk)}, injB q l = true → ∀ p ∈ l, ∀ p' ∈ l, p.1 ≠ p'.1 → q p.1 ≠ q p'.1
  | [], _, p, hp, _, _, _ => by cases hp
  | (id, b) :: l, h, p, hp, p', hp', hne => by
    simp only [injB, Bool.and_eq_true, List.all_eq_true, bne_iff_ne] at h
    rcases List.mem_cons.1 hp with rfl | hp <;> rcases List.mem_cons.1 hp' with rfl | hp'
    · exact absurd rfl hne
    · exact h.1 p' hp'
    · exact fun e => h.1 p hp e.symm
    · exact injB_spec h.2 p hp p' hp' hne
theorem sameRL_zip {q : Nat → Nat} : ∀ {vals : List AV} {live : List (Nat × AV)} {f : Nat → AV}, AV.sameRL q vals (live.map (·.2)) → vals = live.map (fun p => f p.1) → ∀ p ∈ live, (f p.1).sameR q p.2
  | [], [], _, _, _, p, hp => by cases hp
  | v :: vals, x :: live, f, h, e, p, hp => by
    simp only [List.map_cons, AV.sameRL, List.cons.injEq] at h e
    rcases List.mem_cons.1 hp with rfl | hp
    · rw [← e.1]; exact h.1
    · exact sameRL_zip h.2 e.2 p hp

theorem Rep.sub {G : Ctx} {n n0 : Nat} {q : Nat → Nat} {ls : List Nat} {st : St} {J : JSt} {a : Act} {w : World} (h : Rep G n st a w) (hs : SubV n0 q ls st.tm.length (ls.map (getT st.tm)) st.hp J) (hG : G.n ≤ n0) : ∃ g, Rep G J.nid (J.inst g) a w := by
  obtain ⟨⟨r, hI⟩, _⟩ := h
  have hsc := hs.sc
  unfold scopeJ at hsc
  simp only [List.all_eq_true, Bool.and_eq_true, decide_eq_true_eq] at hsc
  have hz : ls.map (getT st.tm) = J.live.map (fun p => getT st.tm p.1) := by rw [← hs.slots, List.map_map]; rfl
  have hsame := sameRL_zip hs.tm hz
  have hget : ∀ t, getT (J.inst fun t => a.tmps.getD t undef).tm t = if t < J.len then (match lkS J.live t with | some v => v | none => .raw (a.tmps.getD t undef)) else .tup [] := by
    intro t
    have := instT_get (fun t => a.tmps.getD t undef) J.live J.len 0 t
    rw [Nat.zero_add] at this
    exact this
  refine ⟨fun t => a.tmps.getD t undef, ⟨fun i => r (q i), ?_⟩, ?_⟩
  · refine ⟨?_, Dfr.none ?_, fun t => ?_, fun id b hb => ?_, fun id b hb => look_live hb, fun id id' b b' hb hb' hne ho => ?_, fun id hid => ?_, hI.fr, fun id b hb ho => ?_⟩
    · rw [hI.size, hs.len]; exact (instT_len _ _ _ _).symm
    · obtain ⟨ds, d1, _, d3⟩ := hI.defers
      cases ds with
      | nil => exact d1
      | cons x ds => exact (noDfr_spec hs.nd (d3 x (by simp)).2.1).elim
    · rw [hget]
      split
      · split
        · rename_i v hv
          rw [hI.tm t]
          exact sameR_den r _ _ (hsame _ (lkS_mem hv))
        · rfl
      · rename_i hlt
        rw [hI.tm t]
        have : getT st.tm t = .tup [] := by unfold getT; rw [List.getElem?_eq_none (by rw [hs.len]; omega)]; rfl
        rw [this]; rfl
    · obtain ⟨b', h1, h2⟩ := subH_mem hs.hp _ (look_memb hb)
      exact Blk.sameR_rep h2 (hI.rep _ _ h1)
    · obtain ⟨c, h1, h2⟩ := subH_mem hs.hp _ (look_memb hb)
      obtain ⟨c', h3, h4⟩ := subH_mem hs.hp _ (look_memb hb')
      intro k hk hk'
      refine hI.sep _ _ c c' h1 h3 (injB_spec hs.inj _ (look_memb hb) _ (look_memb hb') hne) (by rw [Blk.sameR_own h2]; exact ho) k (Blk.sameR_foot h2 hk) (Blk.sameR_foot h4 hk')
    · show r (q id) = _
      rw [hs.low id (Nat.lt_of_lt_of_le hid hG)]; exact hI.ext id hid
    · obtain ⟨c, h1, h2⟩ := subH_mem hs.hp _ (look_memb hb)
      exact fun k hk => hI.own _ c h1 (by rw [Blk.sameR_own h2]; exact ho) k (Blk.sameR_foot h2 hk)
  · refine ⟨fun t => ?_, fun id b hb => (hsc.2 _ (look_memb hb)).1, fun id b hb => (hsc.2 _ (look_memb hb)).2⟩
    rw [hget]
    split
    · split
      · rename_i v hv; exact hsc.1 _ (lkS_mem hv)
      · rfl
    · rfl

end Go.SX
/- Loops by invariants: the rule. -/
namespace Go.SX
open Go Go.RowKit Go.Proofs.Ytdaanchagjamfaa

def leafK (ls : Ex → List Nat) (e : Ex) (st : St) : Tree := .leaf (.tup ((match e with | .normal => .nilp | .exit id => .ptr id 0 0 | .ret => .nili) :: .ptr st.tm.length 0 0 :: (ls e).map (getT st.tm))) st.hp
/-- A round's end: the loop goes on, or it is left. -/
def LoopLeaf (Cont : Nat → List AV → List (Nat × Blk) → Prop) (Out : Ex → Nat → List AV → List (Nat × Blk) → Prop) : AV → List (Nat × Blk) → Prop
  | .tup (.nilp :: .ptr n _ _ :: vs), h => Cont n vs h
  | .tup (.ptr id _ _ :: .ptr n _ _ :: vs), h => Out (.exit id) n vs h
  | .tup (.nili :: .ptr n _ _ :: vs), h => Out .ret n vs h
  | _, _ => False
theorem leafK_den {ls : Ex → List Nat} {Cont : Nat → List AV → List (Nat × Blk) → Prop} {Out : Ex → Nat → List AV → List (Nat × Blk) → Prop} {e : Ex} {st : St} (h : (leafK ls e st).den (LoopLeaf Cont Out)) :
    (e = .normal ∧ Cont st.tm.length ((ls e).map (getT st.tm)) st.hp) ∨ (e ≠ .normal ∧ Out e st.tm.length ((ls e).map (getT st.tm)) st.hp) := by
  cases e with
  | normal => exact .inl ⟨rfl, h⟩
  | exit id => exact .inr ⟨by simp, h⟩
  | ret => exact .inr ⟨by simp, h⟩

section
variable {σ : Type} (I : σ → JSt) (pre : σ → Prop) (μ : σ → Nat) (R : σ → Ex → JSt → Prop) (n0 : Nat) (ls : Ex → List Nat)
def Goes (s : σ) (n : Nat) (vs : List AV) (h : List (Nat × Blk)) : Prop := ∃ s' q, pre s' ∧ μ s' < μ s ∧ (∀ e J, R s' e J → R s e J) ∧ SubV n0 q (ls .normal) n vs h (I s')
def Leaves (s : σ) (e : Ex) (n : Nat) (vs : List AV) (h : List (Nat × Blk)) : Prop := ∃ J q, R s e J ∧ SubV n0 q (ls e) n vs h J
def RoundOk (E : Env) (H : Hnd) (body : Code) : Prop := ∀ s g, pre s → (exec E H body ((I s).inst g) (leafK ls)).den (LoopLeaf (Goes I pre μ R n0 ls s) (Leaves R n0 ls s))
variable {I pre μ R n0 ls}
theorem loop_rounds {E : Env} (hE : E.Sound) {H : Hnd} {G : Ctx} (hG : G.n ≤ n0) {body : Code} (hH : HndOk E G H body) (hn : ∀ s, n0 ≤ (I s).nid) (hr : RoundOk I pre μ R n0 ls E H body) {Q : Exit → Act → World → Prop} : ∀ (n : Nat) (s : σ) (g : Nat → Value) (a : Act) (w : World), μ s < n → pre s → Rep G (I s).nid ((I s).inst g) a w →
    (∀ e J g a' w', R s e J → n0 ≤ J.nid → Rep G J.nid (J.inst g) a' w' → Q e.to a' w') → Code.roundsIn (FW G.rd) 0 E.P body Q n a w
  | 0, s, g, a, w, hm, _, _, _ => by omega
  | n + 1, s, g, a, w, hm, hp, hrep, hQ => by
    rw [roundsIn_succ]
    refine exec_sound hE hH.call hH.yield body hH.loop ((I s).inst g) (leafK ls) _ _ a w (Nat.le_trans hG (hn s)) (hr s g hp) hrep ?_
    intro e st' a' w' hn' hden hrep'
    rcases leafK_den hden with ⟨rfl, s', q, h1, h2, h3, h4⟩ | ⟨hne, J, q, h1, h2⟩
    · obtain ⟨g', hr'⟩ := Rep.sub hrep' h4 hG
      exact loop_rounds hE hG hH hn hr n s' g' a' w' (by omega) h1 hr' (fun e J g a' w' hR => hQ e J g a' w' (h3 e J hR))
    · obtain ⟨g', hr'⟩ := Rep.sub hrep' h2 hG
      have := hQ e J g' a' w' h1 h2.nid hr'
      cases e with
      | normal => exact absurd rfl hne
      | exit id => exact this
      | ret => exact this
/-- What a loop comes to. -/
theorem loop_sound {E : Env} (hE : E.Sound) {H : Hnd} {G : Ctx} (hG : G.n ≤ n0) {body : Code} (hH : HndOk E G H body) (hn : ∀ s, n0 ≤ (I s).nid) (hr : RoundOk I pre μ R n0 ls E H body) {L : St → (Ex → St → Tree) → Tree}
    (hL : ∀ st K T, (L st K).den T → ∃ s q ls', pre s ∧ SubV n0 q ls' st.tm.length (ls'.map (getT st.tm)) st.hp (I s) ∧ ∀ e J g, R s e J → (K e (J.inst g)).den T) : CSound E G (.loop body) L := by
  intro st K T Q a w hn' h hrep hQ
  obtain ⟨s, q, ls', h1, h2, h3⟩ := hL st K T h
  obtain ⟨g, hr'⟩ := Rep.sub hrep h2 hG
  refine wpIn_loop_rounds (μ s + 1) (loop_rounds hE hG hH hn hr _ s g a w (Nat.lt_succ_self _) h1 hr' ?_)
  intro e J g' a' w' hR hnJ hrJ
  exact hQ e (J.inst g') a' w' (Nat.le_trans hG hnJ) (h3 e J g' hR) hrJ
end
theorem SubV.same {n0 : Nat} {ls : List Nat} {len : Nat} {vals : List AV} {h : List (Nat × Blk)} {J : JSt} (h1 : J.live.map (·.1) = ls) (h2 : len = J.len) (h3 : AV.sameRL (fun i => i) vals (J.live.map (·.2))) (h4 : subH (fun i => i) h J.hp) (h5 : scopeJ J = true) (h6 : injB (fun i => i) J.hp = true) (h7 : noDfr h = true := by rfl) (h8 : n0 ≤ J.nid := by exact Nat.zero_le _) : SubV n0 (fun i => i) ls len vals h J :=
  ⟨h1, h2, h3, h4, fun _ _ => rfl, h8, h5, h6, h7⟩
/-- One loop of one's own, the rest as ever. -/
theorem one_loop {E : Env} (hE : E.Sound) {d : Nat} {G : Ctx} (hG : G.rd = none) {c body : Code} (hc : loops c = [.loop body]) {L : St → (Ex → St → Tree) → Tree} (h : CSound E G (.loop body) L) : HndOk E G { hnd E d with loop := fun _ => L } c :=
  ⟨fun b hb => by rw [hc] at hb; simp only [List.mem_singleton] at hb; subst hb; exact h, (hnd_hndOk hE d G c hG).call, (hnd_hndOk hE d G c hG).yield⟩

/-- The same with few blocks in sight at a round's end. -/
def keepIds (ids : List Nat) (h : List (Nat × Blk)) : List (Nat × Blk) := h.filter fun p => ids.contains p.1
theorem keepIds_look {ids : List Nat} : ∀ {h : List (Nat × Blk)} {id : Nat} {b : Blk}, look (keepIds ids h) id = some b → look h id = some b
  | [], id, b, e => by cases e
  | (i, c) :: h, id, b, e => by
    unfold keepIds at e
    rw [List.filter_cons] at e
    split at e
    · simp only [look_cons] at e ⊢
      split at e
      · rename_i hi; rw [if_pos hi]; exact e
      · rename_i hi; rw [if_neg hi]; exact keepIds_look e
    · rename_i hc
      have := keepIds_look (ids := ids) (h := h) (id := id) (b := b) e
      simp only [look_cons]
      split
      · rename_i hi
        have hi : i = id := by simpa using hi
        subst hi
        have hm := look_memb e
        rw [List.mem_filter] at hm
        exact absurd hm.2 hc
      · exact this
def leafI (ids : List Nat) (ls : Ex → List Nat) (e : Ex) (st : St) : Tree := match noDfr st.hp with
  | true => .leaf (.tup ((match e with | .normal => .nilp | .exit id => .ptr id 0 0 | .ret => .nili) :: .ptr st.tm.length 0 0 :: (ls e).map (getT st.tm))) (keepIds ids st.hp)
  | false => .fail "deferred"
theorem leafI_den {ids : List Nat} {ls : Ex → List Nat} {Cont : Nat → List AV → List (Nat × Blk) → Prop} {Out : Ex → Nat → List AV → List (Nat × Blk) → Prop} {e : Ex} {st : St} (h : (leafI ids ls e st).den (LoopLeaf Cont Out)) :
    noDfr st.hp = true ∧ ((e = .normal ∧ Cont st.tm.length ((ls e).map (getT st.tm)) (keepIds ids st.hp)) ∨ (e ≠ .normal ∧ Out e st.tm.length ((ls e).map (getT st.tm)) (keepIds ids st.hp))) := by
  unfold leafI at h
  split at h
  · rename_i hd
    refine ⟨hd, ?_⟩
    cases e with
    | normal => exact .inl ⟨rfl, h⟩
    | exit id => exact .inr ⟨by simp, h⟩
    | ret => exact .inr ⟨by simp, h⟩
  · exact h.elim
theorem subH_keep {q : Nat → Nat} {ids : List Nat} {h : List (Nat × Blk)} : ∀ {l : List (Nat × Blk)}, subH q (keepIds ids h) l → subH q h l
  | [], _ => trivial
  | (id, b) :: l, hs => by
    obtain ⟨⟨b', h1, h2⟩, h3⟩ := hs
    exact ⟨⟨b', keepIds_look h1, h2⟩, subH_keep h3⟩
theorem SubV.keep {n0 : Nat} {q : Nat → Nat} {ls : List Nat} {len : Nat} {vals : List AV} {h : List (Nat × Blk)} {J : JSt} {ids : List Nat} (hs : SubV n0 q ls len vals (keepIds ids h) J) (hd : noDfr h = true) : SubV n0 q ls len vals h J :=
  ⟨hs.slots, hs.len, hs.tm, subH_keep hs.hp, hs.low, hs.nid, hs.sc, hs.inj, hd⟩
section
variable {σ : Type} (I : σ → JSt) (pre : σ → Prop) (μ : σ → Nat) (R : σ → Ex → JSt → Prop) (n0 : Nat) (ls : Ex → List Nat) (ids : List Nat)
def RoundOkI (E : Env) (H : Hnd) (body : Code) : Prop := ∀ s g, pre s → (exec E H body ((I s).inst g) (leafI ids ls)).den (LoopLeaf (Goes I pre μ R n0 ls s) (Leaves R n0 ls s))
variable {I pre μ R n0 ls ids}
theorem loop_roundsI {E : Env} (hE : E.Sound) {H : Hnd} {G : Ctx} (hG : G.n ≤ n0) {body : Code} (hH : HndOk E G H body) (hn : ∀ s, n0 ≤ (I s).nid) (hr : RoundOkI I pre μ R n0 ls ids E H body) {Q : Exit → Act → World → Prop} : ∀ (n : Nat) (s : σ) (g : Nat → Value) (a : Act) (w : World), μ s < n → pre s → Rep G (I s).nid ((I s).inst g) a w →
    (∀ e J g a' w', R s e J → n0 ≤ J.nid → Rep G J.nid (J.inst g) a' w' → Q e.to a' w') → Code.roundsIn (FW G.rd) 0 E.P body Q n a w
  | 0, s, g, a, w, hm, _, _, _ => by omega
  | n + 1, s, g, a, w, hm, hp, hrep, hQ => by
    rw [roundsIn_succ]
    refine exec_sound hE hH.call hH.yield body hH.loop ((I s).inst g) (leafI ids ls) _ _ a w (Nat.le_trans hG (hn s)) (hr s g hp) hrep ?_
    intro e st' a' w' hn' hden hrep'
    obtain ⟨hd, hden⟩ := leafI_den hden
    rcases hden with ⟨rfl, s', q, h1, h2, h3, h4⟩ | ⟨hne, J, q, h1, h2⟩
    · obtain ⟨g', hr'⟩ := Rep.sub hrep' (h4.keep hd) hG
      exact loop_roundsI hE hG hH hn hr n s' g' a' w' (by omega) h1 hr' (fun e J g a' w' hR => hQ e J g a' w' (h3 e J hR))
    · obtain ⟨g', hr'⟩ := Rep.sub hrep' (h2.keep hd) hG
      have := hQ e J g' a' w' h1 h2.nid hr'
      cases e with
      | normal => exact absurd rfl hne
      | exit id => exact this
      | ret => exact this
theorem loop_soundI {E : Env} (hE : E.Sound) {H : Hnd} {G : Ctx} (hG : G.n ≤ n0) {body : Code} (hH : HndOk E G H body) (hn : ∀ s, n0 ≤ (I s).nid) (hr : RoundOkI I pre μ R n0 ls ids E H body) {L : St → (Ex → St → Tree) → Tree}
    (hL : ∀ st K T, (L st K).den T → ∃ s q ls', pre s ∧ SubV n0 q ls' st.tm.length (ls'.map (getT st.tm)) st.hp (I s) ∧ ∀ e J g, R s e J → (K e (J.inst g)).den T) : CSound E G (.loop body) L := by
  intro st K T Q a w hn' h hrep hQ
  obtain ⟨s, q, ls', h1, h2, h3⟩ := hL st K T h
  obtain ⟨g, hr'⟩ := Rep.sub hrep h2 hG
  refine wpIn_loop_rounds (μ s + 1) (loop_roundsI hE hG hH hn hr _ s g a w (Nat.lt_succ_self _) h1 hr' ?_)
  intro e J g' a' w' hR hnJ hrJ
  exact hQ e (J.inst g') a' w' (Nat.le_trans hG hnJ) (h3 e J g' hR) hrJ
end

end Go.SX
