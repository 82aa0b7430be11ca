/- Loops by invariants. -/
import Derived.Test.YtdaanchagjamfaaMon
namespace Go.SX
open Go Go.RowKit Go.Proofs.Ytdaanchagjamfaa

mutual
/-- v stands for what u stands for, u's blocks under other numbers: q gives v's number. -/
def AV.sameR (q : Nat → Nat) : AV → AV → Prop
  | .int _ k n, .int _ k' n' => k = k' ∧ n = n'
  | .bool _ b, .bool _ b' => b = b'
  | .ptr id e j, .ptr id' e' j' => id = q id' ∧ e = e' ∧ j = j'
  | .addr a, .addr a' => a = a'
  | .nilp, .nilp => True
  | .slice _ id e n cp, .slice _ id' e' n' cp' => id = q id' ∧ e = e' ∧ n = n' ∧ cp = cp'
  | .nils, .nils => True
  | .map id, .map id' => id = q id'
  | .yld id, .yld id' => id = q id'
  | .nilm, .nilm => True
  | .fn f l, .fn f' l' => f = f' ∧ AV.sameRL q l l'
  | .nilf, .nilf => True
  | .ifc t v, .ifc t' v' => t = t' ∧ v.sameR q v'
  | .nili, .nili => True
  | .str s, .str s' => s = s'
  | .agg l, .agg l' => AV.sameRL q l l'
  | .tup l, .tup l' => AV.sameRL q l l'
  | .raw v, .raw v' => v = v'
  | _, _ => False
def AV.sameRL (q : Nat → Nat) : List AV → List AV → Prop
  | [], [] => True
  | v :: l, v' :: l' => v.sameR q v' ∧ AV.sameRL q l l'
  | _, _ => False
end
mutual
theorem sameR_den {q : Nat → Nat} (r : Nat → Loc) : ∀ v u : AV, v.sameR q u → v.den r = u.den (fun i => r (q i))
  | .int .., u, h => by cases u <;> simp only [AV.sameR] at h; obtain ⟨rfl, rfl⟩ := h; rfl
  | .bool .., u, h => by cases u <;> simp only [AV.sameR] at h; subst h; rfl
  | .ptr .., u, h => by cases u <;> simp only [AV.sameR] at h; obtain ⟨rfl, rfl, rfl⟩ := h; rfl
  | .addr .., u, h => by cases u <;> simp only [AV.sameR] at h; subst h; rfl
  | .nilp, u, h => by cases u <;> simp only [AV.sameR] at h; rfl
  | .slice .., u, h => by cases u <;> simp only [AV.sameR] at h; obtain ⟨rfl, rfl, rfl, rfl⟩ := h; rfl
  | .nils, u, h => by cases u <;> simp only [AV.sameR] at h; rfl
  | .slz .., u, h => by cases u <;> simp only [AV.sameR] at h
  | .map .., u, h => by cases u <;> simp only [AV.sameR] at h; subst h; rfl
  | .yld .., u, h => by cases u <;> simp only [AV.sameR] at h; subst h; rfl
  | .nilm, u, h => by cases u <;> simp only [AV.sameR] at h; rfl
  | .fn f l, u, h => by cases u <;> simp only [AV.sameR] at h; obtain ⟨rfl, h⟩ := h; simp only [AV.den]; rw [sameR_denL r l _ h]
  | .nilf, u, h => by cases u <;> simp only [AV.sameR] at h; rfl
  | .ifc t v, u, h => by cases u <;> simp only [AV.sameR] at h; obtain ⟨rfl, h⟩ := h; simp only [AV.den]; rw [sameR_den r v _ h]
  | .nili, u, h => by cases u <;> simp only [AV.sameR] at h; rfl
  | .str .., u, h => by cases u <;> simp only [AV.sameR] at h; subst h; rfl
  | .agg l, u, h => by cases u <;> simp only [AV.sameR] at h; simp only [AV.den]; rw [sameR_denL r l _ h]
  | .tup l, u, h => by cases u <;> simp only [AV.sameR] at h; simp only [AV.den]; rw [sameR_denL r l _ h]
  | .raw .., u, h => by cases u <;> simp only [AV.sameR] at h; subst h; rfl
  | .opt .., u, h => by cases u <;> simp only [AV.sameR] at h
theorem sameR_denL {q : Nat → Nat} (r : Nat → Loc) : ∀ v u : List AV, AV.sameRL q v u → AV.denL r v = AV.denL (fun i => r (q i)) u
  | [], u, h => by cases u <;> simp only [AV.sameRL] at h; rfl
  | x :: l, u, h => by
    cases u <;> simp only [AV.sameRL] at h
    simp only [AV.denL]; rw [sameR_den r x _ h.1, sameR_denL r l _ h.2]
end
theorem sameR_len {q : Nat → Nat} : ∀ v u : List AV, AV.sameRL q v u → v.length = u.length
  | [], u, h => by cases u <;> simp only [AV.sameRL] at h; rfl
  | x :: l, u, h => by
    cases u <;> simp only [AV.sameRL] at h
    simp [sameR_len l _ h.2]

def Blk.sameR (q : Nat → Nat) : Blk → Blk → Prop
  | .cells z t l, .cells z' t' l' => z = z' ∧ t = t' ∧ AV.sameRL q l l'
  | .rowl t z l, .rowl t' z' l' => t = t' ∧ z = z' ∧ l = l' ∧ l.all (AV.allL fun _ => false) = true
  | .arr z n g, .arr z' n' g' => z = z' ∧ n = n' ∧ g = g'
  | .cellsR z t l, .cellsR z' t' l' => z = z' ∧ t = t' ∧ AV.sameRL q l l'
  | _, _ => False
theorem Blk.sameR_rep {q : Nat → Nat} {r : Nat → Loc} {id : Nat} {w : World} : ∀ {b b' : Blk}, b.sameR q b' → BRep r (q id) w b → BRep (fun i => r (q i)) id w b'
  | .cells z t l, b', h, hb => by
    cases b' <;> simp only [Blk.sameR] at h
    obtain ⟨rfl, rfl, h⟩ := h
    simp only [BRep] at hb ⊢
    rw [← sameR_denL r _ _ h]; exact hb
  | .rowl t z l, b', h, hb => by
    cases b' <;> simp only [Blk.sameR] at h
    obtain ⟨rfl, rfl, rfl, ha⟩ := h
    simp only [BRep] at hb ⊢
    rw [← denL_congr (p := fun _ => false) (r := r) (r' := fun i => r (q i)) (fun _ hf => by cases hf) _ (allL_flatten ha)]; exact hb
  | .arr z n g, b', h, hb => by
    cases b' <;> simp only [Blk.sameR] at h
    obtain ⟨rfl, rfl, rfl⟩ := h
    simp only [BRep] at hb ⊢
    refine ⟨hb.1, hb.2.1, fun i hi => ⟨(hb.2.2 i hi).1, fun j v hv => ?_⟩⟩
    obtain ⟨h1, h2⟩ := (hb.2.2 i hi).2 j v hv
    refine ⟨h1, ?_⟩
    rw [h2, den_congr (p := fun _ => false) (r := r) (r' := fun i => r (q i)) (fun _ hf => by cases hf) _ h1]
  | .gone, b', h, _ => by cases b' <;> simp only [Blk.sameR] at h
  | .cellsR z t l, b', h, hb => by
    cases b' <;> simp only [Blk.sameR] at h
    obtain ⟨rfl, rfl, h⟩ := h
    simp only [BRep] at hb ⊢
    rw [← sameR_denL r _ _ h]; exact hb
  | .rowlR .., b', h, _ => by cases b' <;> simp only [Blk.sameR] at h
  | .lp .., b', h, _ => by cases b' <;> simp only [Blk.sameR] at h
  | .dfr, b', h, _ => by cases b' <;> simp only [Blk.sameR] at h
  | .mp .., b', h, _ => by cases b' <;> simp only [Blk.sameR] at h
theorem Blk.sameR_own {q : Nat → Nat} : ∀ {b b' : Blk}, b.sameR q b' → b.own = b'.own
  | .cells .., b', h => by cases b' <;> simp only [Blk.sameR] at h; rfl
  | .rowl .., b', h => by cases b' <;> simp only [Blk.sameR] at h; rfl
  | .arr .., b', h => by cases b' <;> simp only [Blk.sameR] at h; rfl
  | .cellsR .., b', h => by cases b' <;> simp only [Blk.sameR] at h; rfl
  | .gone, b', h => by cases b' <;> simp only [Blk.sameR] at h
  | .rowlR .., b', h => by cases b' <;> simp only [Blk.sameR] at h
  | .lp .., b', h => by cases b' <;> simp only [Blk.sameR] at h
  | .dfr, b', h => by cases b' <;> simp only [Blk.sameR] at h
  | .mp .., b', h => by cases b' <;> simp only [Blk.sameR] at h

theorem Blk.sameR_foot {q : Nat → Nat} {r : Nat → Loc} {id k : Nat} : ∀ {b b' : Blk}, b.sameR q b' → Foot (fun i => r (q i)) id b' k → Foot r (q id) b k
  | .cells .., b', h, hk => by cases b' <;> simp only [Blk.sameR] at h; exact hk
  | .rowl .., b', h, hk => by cases b' <;> simp only [Blk.sameR] at h; exact hk
  | .arr .., b', h, hk => by cases b' <;> simp only [Blk.sameR] at h; exact hk
  | .cellsR .., b', h, hk => by cases b' <;> simp only [Blk.sameR] at h; exact hk
  | .gone, b', h, _ => by cases b' <;> simp only [Blk.sameR] at h
  | .rowlR .., b', h, _ => by cases b' <;> simp only [Blk.sameR] at h
  | .lp .., b', h, _ => by cases b' <;> simp only [Blk.sameR] at h
  | .dfr, b', h, _ => by cases b' <;> simp only [Blk.sameR] at h
  | .mp .., b', h, _ => by cases b' <;> simp only [Blk.sameR] at h
  | .rowz .., b', h, _ => by cases b' <;> simp only [Blk.sameR] at h
  | .frz .., b', h, _ => by cases b' <;> simp only [Blk.sameR] at h
  | .frz2 .., b', h, _ => by cases b' <;> simp only [Blk.sameR] at h
  | .mpf .., b', h, _ => by cases b' <;> simp only [Blk.sameR] at h
/-- A state of which just some slots are known. -/
structure JSt where
  len : Nat
  live : List (Nat × AV)
  hp : List (Nat × Blk)
  nid : Nat
def lkS : List (Nat × AV) → Nat → Option AV
  | [], _ => none
  | (i, v) :: l, t => match i == t with
    | true => some v
    | false => lkS l t
def instT (g : Nat → Value) (live : List (Nat × AV)) : Nat → Nat → List AV
  | 0, _ => []
  | n + 1, i => (match lkS live i with | some v => v | none => .raw (g i)) :: instT g live n (i + 1)
def JSt.inst (J : JSt) (g : Nat → Value) : St := ⟨instT g J.live J.len 0, J.hp, J.nid⟩

def subH (q : Nat → Nat) (h : List (Nat × Blk)) : List (Nat × Blk) → Prop
  | [] => True
  | (id, b) :: l => (∃ b', look h (q id) = some b' ∧ b'.sameR q b) ∧ subH q h l
def injB (q : Nat → Nat) : List (Nat × Blk) → Bool
  | [] => true
  | (id, _) :: l => l.all (fun p => q id != q p.1) && injB q l
def scopeJ (J : JSt) : Bool := (J.live.all fun p => p.2.all (· < J.nid)) && J.hp.all fun p => decide (p.1 < J.nid) && p.2.all (· < J.nid)
/-- What is known by the values 'vals' (of J's slots) and the blocks h, J knows too. -/
structure SubV (n0 : Nat) (q : Nat → Nat) (ls : List Nat) (len : Nat) (vals : List AV) (h : List (Nat × Blk)) (J : JSt) : Prop where
  slots : J.live.map (·.1) = ls
  len : len = J.len
  tm : AV.sameRL q vals (J.live.map (·.2))
  hp : subH q h J.hp
  low : ∀ i, i < n0 → q i = i
  nid : n0 ≤ J.nid
  sc : scopeJ J = true
  inj : injB q J.hp = true
  nd : noDfr h = true

theorem lkS_mem {l : List (Nat × AV)} {t : Nat} {v : AV} (h : lkS l t = some v) : (t, v) ∈ l := by
  induction l with
  | nil => cases h
  | cons p l ih =>
    obtain ⟨i, u⟩ := p
    simp only [lkS] at h
    split at h
    · rename_i hi
      simp only [Option.some.injEq] at h; subst h
      have : i = t := by simpa using hi
      subst this; exact List.mem_cons_self
    · exact List.mem_cons_of_mem _ (ih h)
theorem instT_len (g : Nat → Value) (live : List (Nat × AV)) : ∀ n i, (instT g live n i).length = n
  | 0, _ => rfl
  | n + 1, i => by simp [instT, instT_len g live n]
theorem instT_get (g : Nat → Value) (live : List (Nat × AV)) : ∀ n i t, getT (instT g live n i) t = if t < n then (match lkS live (i + t) with | some v => v | none => .raw (g (i + t))) else .tup []
  | 0, _, t => by simp [instT, getT]
  | n + 1, i, 0 => by simp [instT, getT]
  | n + 1, i, t + 1 => by
    have := instT_get g live n (i + 1) t
    have e : i + 1 + t = i + (t + 1) := by omega
    rw [e] at this
    have e2 : getT (instT g live (n + 1) i) (t + 1) = getT (instT g live n (i + 1)) t := rfl
    rw [e2, this]
    by_cases h : t < n
    · rw [if_pos h, if_pos (by omega)]
    · rw [if_neg h, if_neg (by omega)]
theorem subH_mem {q : Nat → Nat} {h : List (Nat × Blk)} : ∀ {l : List (Nat × Blk)}, subH q h l → ∀ p ∈ l, ∃ b', look h (q p.1) = some b' ∧ b'.sameR q p.2
  | [], _, p, hp => by cases hp
  | (id, b) :: l, hs, p, hp => by
    simp only [subH] at hs
    rcases List.mem_cons.1 hp with rfl | hp
    · exact hs.1
    · exact subH_mem hs.2 p hp
theorem injB_spec {q : Nat → Nat} : ∀ {l : List (Nat × Blk)}, injB q l = true → ∀ p ∈ l, ∀ p' ∈ l, p.1 ≠ p'.1 → q p.1 ≠ q p'.1
  | [], _, p, hp, _, _, _ => by cases hp
  | (id, b) :: l, h, p, hp, p', hp', hne => by
    simp only [injB, Bool.and_eq_true, List.all_eq_true, bne_iff_ne] at h
    rcases List.mem_cons.1 hp with rfl | hp <;> rcases List.mem_cons.1 hp' with rfl | hp'
    · exact absurd rfl hne
    · exact h.1 p' hp'
    · exact fun e => h.1 p hp e.symm
    · exact injB_spec h.2 p hp p' hp' hne
theorem sameRL_zip {q : Nat → Nat} : ∀ {vals : List AV} {live : List (Nat × AV)} {f : Nat → AV}, AV.sameRL q vals (live.map (·.2)) → vals = live.map (fun p => f p.1) → ∀ p ∈ live, (f p.1).sameR q p.2
  | [], [], _, _, _, p, hp => by cases hp
  | v :: vals, x :: live, f, h, e, p, hp => by
    simp only [List.map_cons, AV.sameRL, List.cons.injEq] at h e
    rcases List.mem_cons.1 hp with rfl | hp
    · rw [← e.1]; exact h.1
    · exact sameRL_zip h.2 e.2 p hp

theorem Rep.sub {G : Ctx} {n n0 : Nat} {q : Nat → Nat} {ls : List Nat} {st : St} {J : JSt} {a : Act} {w : World} (h : Rep G n st a w) (hs : SubV n0 q ls st.tm.length (ls.map (getT st.tm)) st.hp J) (hG : G.n ≤ n0) : ∃ g, Rep G J.nid (J.inst g) a w := by
  obtain ⟨⟨r, hI⟩, _⟩ := h
  have hsc := hs.sc
  unfold scopeJ at hsc
  simp only [List.all_eq_true, Bool.and_eq_true, decide_eq_true_eq] at hsc
  have hz : ls.map (getT st.tm) = J.live.map (fun p => getT st.tm p.1) := by rw [← hs.slots, List.map_map]; rfl
  have hsame := sameRL_zip hs.tm hz
  have hget : ∀ t, getT (J.inst fun t => a.tmps.getD t undef).tm t = if t < J.len then (match lkS J.live t with | some v => v | none => .raw (a.tmps.getD t undef)) else .tup [] := by
    intro t
    have := instT_get (fun t => a.tmps.getD t undef) J.live J.len 0 t
    rw [Nat.zero_add] at this
    exact this
  refine ⟨fun t => a.tmps.getD t undef, ⟨fun i => r (q i), ?_⟩, ?_⟩
  · refine ⟨?_, Dfr.none ?_, fun t => ?_, fun id b hb => ?_, fun id b hb => look_live hb, fun id id' b b' hb hb' hne ho => ?_, fun id hid => ?_, hI.fr, fun id b hb ho => ?_⟩
    · rw [hI.size, hs.len]; exact (instT_len _ _ _ _).symm
    · obtain ⟨ds, d1, _, d3⟩ := hI.defers
      cases ds with
      | nil => exact d1
      | cons x ds => exact (noDfr_spec hs.nd (d3 x (by simp)).2.1).elim
    · rw [hget]
      split
      · split
        · rename_i v hv
          rw [hI.tm t]
          exact sameR_den r _ _ (hsame _ (lkS_mem hv))
        · rfl
      · rename_i hlt
        rw [hI.tm t]
        have : getT st.tm t = .tup [] := by unfold getT; rw [List.getElem?_eq_none (by rw [hs.len]; omega)]; rfl
        rw [this]; rfl
    · obtain ⟨b', h1, h2⟩ := subH_mem hs.hp _ (look_memb hb)
      exact Blk.sameR_rep h2 (hI.rep _ _ h1)
    · obtain ⟨c, h1, h2⟩ := subH_mem hs.hp _ (look_memb hb)
      obtain ⟨c', h3, h4⟩ := subH_mem hs.hp _ (look_memb hb')
      intro k hk hk'
      refine hI.sep _ _ c c' h1 h3 (injB_spec hs.inj _ (look_memb hb) _ (look_memb hb') hne) (by rw [Blk.sameR_own h2]; exact ho) k (Blk.sameR_foot h2 hk) (Blk.sameR_foot h4 hk')
    · show r (q id) = _
      rw [hs.low id (Nat.lt_of_lt_of_le hid hG)]; exact hI.ext id hid
    · obtain ⟨c, h1, h2⟩ := subH_mem hs.hp _ (look_memb hb)
      exact fun k hk => hI.own _ c h1 (by rw [Blk.sameR_own h2]; exact ho) k (Blk.sameR_foot h2 hk)
  · refine ⟨fun t => ?_, fun id b hb => (hsc.2 _ (look_memb hb)).1, fun id b hb => (hsc.2 _ (look_memb hb)).2⟩
    rw [hget]
    split
    · split
      · rename_i v hv; exact hsc.1 _ (lkS_mem hv)
      · rfl
    · rfl

end Go.SX
/- Loops by invariants: the rule. -/
namespace Go.SX
open Go Go.RowKit Go.Proofs.Ytdaanchagjamfaa

def leafK (ls : Ex → List Nat) (e : Ex) (st : St) : Tree := .leaf (.tup ((match e with | .normal => .nilp | .exit id => .ptr id 0 0 | .ret => .nili) :: .ptr st.tm.length 0 0 :: (ls e).map (getT st.tm))) st.hp
/-- A round's end: the loop goes on, or it is left. -/
def LoopLeaf (Cont : Nat → List AV → List (Nat × Blk) → Prop) (Out : Ex → Nat → List AV → List (Nat × Blk) → Prop) : AV → List (Nat × Blk) → Prop
  | .tup (.nilp :: .ptr n _ _ :: vs), h => Cont n vs h
  | .tup (.ptr id _ _ :: .ptr n _ _ :: vs), h => Out (.exit id) n vs h
  | .tup (.nili :: .ptr n _ _ :: vs), h => Out .ret n vs h
  | _, _ => False
theorem leafK_den {ls : Ex → List Nat} {Cont : Nat → List AV → List (Nat × Blk) → Prop} {Out : Ex → Nat → List AV → List (Nat × Blk) → Prop} {e : Ex} {st : St} (h : (leafK ls e st).den (LoopLeaf Cont Out)) :
    (e = .normal ∧ Cont st.tm.length ((ls e).map (getT st.tm)) st.hp) ∨ (e ≠ .normal ∧ Out e st.tm.length ((ls e).map (getT st.tm)) st.hp) := by
  cases e with
  | normal => exact .inl ⟨rfl, h⟩
  | exit id => exact .inr ⟨by simp, h⟩
  | ret => exact .inr ⟨by simp, h⟩

section
variable {σ : Type} (I : σ → JSt) (pre : σ → Prop) (μ : σ → Nat) (R : σ → Ex → JSt → Prop) (n0 : Nat) (ls : Ex → List Nat)
def Goes (s : σ) (n : Nat) (vs : List AV) (h : List (Nat × Blk)) : Prop := ∃ s' q, pre s' ∧ μ s' < μ s ∧ (∀ e J, R s' e J → R s e J) ∧ SubV n0 q (ls .normal) n vs h (I s')
def Leaves (s : σ) (e : Ex) (n : Nat) (vs : List AV) (h : List (Nat × Blk)) : Prop := ∃ J q, R s e J ∧ SubV n0 q (ls e) n vs h J
def RoundOk (E : Env) (H : Hnd) (body : Code) : Prop := ∀ s g, pre s → (exec E H body ((I s).inst g) (leafK ls)).den (LoopLeaf (Goes I pre μ R n0 ls s) (Leaves R n0 ls s))
variable {I pre μ R n0 ls}
theorem loop_rounds {E : Env} (hE : E.Sound) {H : Hnd} {G : Ctx} (hG : G.n ≤ n0) {body : Code} (hH : HndOk E G H body) (hn : ∀ s, n0 ≤ (I s).nid) (hr : RoundOk I pre μ R n0 ls E H body) {Q : Exit → Act → World → Prop} : ∀ (n : Nat) (s : σ) (g : Nat → Value) (a : Act) (w : World), μ s < n → pre s → Rep G (I s).nid ((I s).inst g) a w →
    (∀ e J g a' w', R s e J → n0 ≤ J.nid → Rep G J.nid (J.inst g) a' w' → Q e.to a' w') → Code.roundsIn (FW G.rd) 0 E.P body Q n a w
  | 0, s, g, a, w, hm, _, _, _ => by omega
  | n + 1, s, g, a, w, hm, hp, hrep, hQ => by
    rw [roundsIn_succ]
    refine exec_sound hE hH.call hH.yield body hH.loop ((I s).inst g) (leafK ls) _ _ a w (Nat.le_trans hG (hn s)) (hr s g hp) hrep ?_
    intro e st' a' w' hn' hden hrep'
    rcases leafK_den hden with ⟨rfl, s', q, h1, h2, h3, h4⟩ | ⟨hne, J, q, h1, h2⟩
    · obtain ⟨g', hr'⟩ := Rep.sub hrep' h4 hG
      exact loop_rounds hE hG hH hn hr n s' g' a' w' (by omega) h1 hr' (fun e J g a' w' hR => hQ e J g a' w' (h3 e J hR))
    · obtain ⟨g', hr'⟩ := Rep.sub hrep' h2 hG
      have := hQ e J g' a' w' h1 h2.nid hr'
      cases e with
      | normal => exact absurd rfl hne
      | exit id => exact this
      | ret => exact this
/-- What a loop comes to. -/
theorem loop_sound {E : Env} (hE : E.Sound) {H : Hnd} {G : Ctx} (hG : G.n ≤ n0) {body : Code} (hH : HndOk E G H body) (hn : ∀ s, n0 ≤ (I s).nid) (hr : RoundOk I pre μ R n0 ls E H body) {L : St → (Ex → St → Tree) → Tree}
    (hL : ∀ st K T, (L st K).den T → ∃ s q ls', pre s ∧ SubV n0 q ls' st.tm.length (ls'.map (getT st.tm)) st.hp (I s) ∧ ∀ e J g, R s e J → (K e (J.inst g)).den T) : CSound E G (.loop body) L := by
  intro st K T Q a w hn' h hrep hQ
  obtain ⟨s, q, ls', h1, h2, h3⟩ := hL st K T h
  obtain ⟨g, hr'⟩ := Rep.sub hrep h2 hG
  refine wpIn_loop_rounds (μ s + 1) (loop_rounds hE hG hH hn hr _ s g a w (Nat.lt_succ_self _) h1 hr' ?_)
  intro e J g' a' w' hR hnJ hrJ
  exact hQ e (J.inst g') a' w' (Nat.le_trans hG hnJ) (h3 e J g' hR) hrJ
end
theorem SubV.same {n0 : Nat} {ls : List Nat} {len : Nat} {vals : List AV} {h : List (Nat × Blk)} {J : JSt} (h1 : J.live.map (·.1) = ls) (h2 : len = J.len) (h3 : AV.sameRL (fun i => i) vals (J.live.map (·.2))) (h4 : subH (fun i => i) h J.hp) (h5 : scopeJ J = true) (h6 : injB (fun i => i) J.hp = true) (h7 : noDfr h = true := by rfl) (h8 : n0 ≤ J.nid := by exact Nat.zero_le _) : SubV n0 (fun i => i) ls len vals h J :=
  ⟨h1, h2, h3, h4, fun _ _ => rfl, h8, h5, h6, h7⟩
/-- One loop of one's own, the rest as ever. -/
theorem one_loop {E : Env} (hE : E.Sound) {d : Nat} {G : Ctx} (hG : G.rd = none) {c body : Code} (hc : loops c = [.loop body]) {L : St → (Ex → St → Tree) → Tree} (h : CSound E G (.loop body) L) : HndOk E G { hnd E d with loop := fun _ => L } c :=
  ⟨fun b hb => by rw [hc] at hb; simp only [List.mem_singleton] at hb; subst hb; exact h, (hnd_hndOk hE d G c hG).call, (hnd_hndOk hE d G c hG).yield⟩

/-- The same with few blocks in sight at a round's end. -/
def keepIds (ids : List Nat) (h : List (Nat × Blk)) : List (Nat × Blk) := h.filter fun p => ids.contains p.1
theorem keepIds_look {ids : List Nat} : ∀ {h : List (Nat × Blk)} {id : Nat} {b : Blk}, look (keepIds ids h) id = some b → look h id = some b
  | [], id, b, e => by cases e
  | (i, c) :: h, id, b, e => by
    unfold keepIds at e
    rw [List.filter_cons] at e
    split at e
    · simp only [look] at e ⊢
      split at e
      · rename_i hi; rw [if_pos hi]; exact e
      · rename_i hi; rw [if_neg hi]; exact keepIds_look e
    · rename_i hc
      have := keepIds_look (ids := ids) (h := h) (id := id) (b := b) e
      simp only [look]
      split
      · rename_i hi
        have hi : i = id := by simpa using hi
        subst hi
        have hm := look_memb e
        rw [List.mem_filter] at hm
        exact absurd hm.2 hc
      · exact this
def leafI (ids : List Nat) (ls : Ex → List Nat) (e : Ex) (st : St) : Tree := match noDfr st.hp with
  | true => .leaf (.tup ((match e with | .normal => .nilp | .exit id => .ptr id 0 0 | .ret => .nili) :: .ptr st.tm.length 0 0 :: (ls e).map (getT st.tm))) (keepIds ids st.hp)
  | false => .fail "deferred"
theorem leafI_den {ids : List Nat} {ls : Ex → List Nat} {Cont : Nat → List AV → List (Nat × Blk) → Prop} {Out : Ex → Nat → List AV → List (Nat × Blk) → Prop} {e : Ex} {st : St} (h : (leafI ids ls e st).den (LoopLeaf Cont Out)) :
    noDfr st.hp = true ∧ ((e = .normal ∧ Cont st.tm.length ((ls e).map (getT st.tm)) (keepIds ids st.hp)) ∨ (e ≠ .normal ∧ Out e st.tm.length ((ls e).map (getT st.tm)) (keepIds ids st.hp))) := by
  unfold leafI at h
  split at h
  · rename_i hd
    refine ⟨hd, ?_⟩
    cases e with
    | normal => exact .inl ⟨rfl, h⟩
    | exit id => exact .inr ⟨by simp, h⟩
    | ret => exact .inr ⟨by simp, h⟩
  · exact h.elim
theorem subH_keep {q : Nat → Nat} {ids : List Nat} {h : List (Nat × Blk)} : ∀ {l : List (Nat × Blk)}, subH q (keepIds ids h) l → subH q h l
  | [], _ => trivial
  | (id, b) :: l, hs => by
    obtain ⟨⟨b', h1, h2⟩, h3⟩ := hs
    exact ⟨⟨b', keepIds_look h1, h2⟩, subH_keep h3⟩
theorem SubV.keep {n0 : Nat} {q : Nat → Nat} {ls : List Nat} {len : Nat} {vals : List AV} {h : List (Nat × Blk)} {J : JSt} {ids : List Nat} (hs : SubV n0 q ls len vals (keepIds ids h) J) (hd : noDfr h = true) : SubV n0 q ls len vals h J :=
  ⟨hs.slots, hs.len, hs.tm, subH_keep hs.hp, hs.low, hs.nid, hs.sc, hs.inj, hd⟩
section
variable {σ : Type} (I : σ → JSt) (pre : σ → Prop) (μ : σ → Nat) (R : σ → Ex → JSt → Prop) (n0 : Nat) (ls : Ex → List Nat) (ids : List Nat)
def RoundOkI (E : Env) (H : Hnd) (body : Code) : Prop := ∀ s g, pre s → (exec E H body ((I s).inst g) (leafI ids ls)).den (LoopLeaf (Goes I pre μ R n0 ls s) (Leaves R n0 ls s))
variable {I pre μ R n0 ls ids}
theorem loop_roundsI {E : Env} (hE : E.Sound) {H : Hnd} {G : Ctx} (hG : G.n ≤ n0) {body : Code} (hH : HndOk E G H body) (hn : ∀ s, n0 ≤ (I s).nid) (hr : RoundOkI I pre μ R n0 ls ids E H body) {Q : Exit → Act → World → Prop} : ∀ (n : Nat) (s : σ) (g : Nat → Value) (a : Act) (w : World), μ s < n → pre s → Rep G (I s).nid ((I s).inst g) a w →
    (∀ e J g a' w', R s e J → n0 ≤ J.nid → Rep G J.nid (J.inst g) a' w' → Q e.to a' w') → Code.roundsIn (FW G.rd) 0 E.P body Q n a w
  | 0, s, g, a, w, hm, _, _, _ => by omega
  | n + 1, s, g, a, w, hm, hp, hrep, hQ => by
    rw [roundsIn_succ]
    refine exec_sound hE hH.call hH.yield body hH.loop ((I s).inst g) (leafI ids ls) _ _ a w (Nat.le_trans hG (hn s)) (hr s g hp) hrep ?_
    intro e st' a' w' hn' hden hrep'
    obtain ⟨hd, hden⟩ := leafI_den hden
    rcases hden with ⟨rfl, s', q, h1, h2, h3, h4⟩ | ⟨hne, J, q, h1, h2⟩
    · obtain ⟨g', hr'⟩ := Rep.sub hrep' (h4.keep hd) hG
      exact loop_roundsI hE hG hH hn hr n s' g' a' w' (by omega) h1 hr' (fun e J g a' w' hR => hQ e J g a' w' (h3 e J hR))
    · obtain ⟨g', hr'⟩ := Rep.sub hrep' (h2.keep hd) hG
      have := hQ e J g' a' w' h1 h2.nid hr'
      cases e with
      | normal => exact absurd rfl hne
      | exit id => exact this
      | ret => exact this
theorem loop_soundI {E : Env} (hE : E.Sound) {H : Hnd} {G : Ctx} (hG : G.n ≤ n0) {body : Code} (hH : HndOk E G H body) (hn : ∀ s, n0 ≤ (I s).nid) (hr : RoundOkI I pre μ R n0 ls ids E H body) {L : St → (Ex → St → Tree) → Tree}
    (hL : ∀ st K T, (L st K).den T → ∃ s q ls', pre s ∧ SubV n0 q ls' st.tm.length (ls'.map (getT st.tm)) st.hp (I s) ∧ ∀ e J g, R s e J → (K e (J.inst g)).den T) : CSound E G (.loop body) L := by
  intro st K T Q a w hn' h hrep hQ
  obtain ⟨s, q, ls', h1, h2, h3⟩ := hL st K T h
  obtain ⟨g, hr'⟩ := Rep.sub hrep h2 hG
  refine wpIn_loop_rounds (μ s + 1) (loop_roundsI hE hG hH hn hr _ s g a w (Nat.lt_succ_self _) h1 hr' ?_)
  intro e J g' a' w' hR hnJ hrJ
  exact hQ e (J.inst g') a' w' (Nat.le_trans hG hnJ) (h3 e J g' hR) hrJ
end

end Go.SX
/- The reference's loop over a span: some. -/
namespace Go.Proofs.Ytdaanchagjamfaa
open Go.SX
def bodyK (fn : Func) (k : Nat) : Code := match (loops (bodyOf fn))[k]? with
  | some (.loop b) => b
  | _ => .skip
structure SomeS where
  s : Sp
  d : Sp
  lo : Int
  hi : Int
  n : Int
def SomeS.I (x : SomeS) : JSt := ⟨40, [(1, .int false .i64 x.lo), (2, .int false .i64 x.hi), (4, .ptr 0 0 0), (7, .ptr 8 0 0), (9, .int false .i64 x.n)], [(8, .cells 0 23 (Enc.enc x.d).cells), (0, .cells 0 23 (Enc.enc x.s).cells)], 56⟩
def SomeS.pre (x : SomeS) : Prop := (-100000 ≤ x.s.lo ∧ x.s.lo ≤ 100000) ∧ (-100000 ≤ x.s.hi ∧ x.s.hi ≤ 100000) ∧ (-500 ≤ x.lo ∧ x.lo ≤ 0) ∧ (0 ≤ x.hi ∧ x.hi ≤ 500) ∧ (0 ≤ x.d.lo ∧ x.d.lo ≤ 100) ∧ -100000 ≤ x.n ∧ x.n ≤ 100001
def SomeS.good (x : SomeS) (n : Int) : Prop := n ≤ min x.s.hi x.hi ∧ 1000 * x.lo ≤ n * (1000 + x.d.lo) ∧ n * (1000 + x.d.lo) ≤ 1000 * x.hi
def SomeS.yes (x : SomeS) : Prop := ∃ n, x.n ≤ n ∧ x.good n
def someR (x : SomeS) (e : Ex) (J : JSt) : Prop := (e = .ret ∧ J = ⟨40, [(8, .bool true true)], [], 0⟩ ∧ x.yes) ∨ (e = .exit 0 ∧ J = ⟨40, [], [], 0⟩ ∧ ¬ x.yes)
def someLs : Ex → List Nat
  | .normal => [1, 2, 4, 7, 9]
  | .ret => [8]
  | .exit _ => []
def SomeS.mu (x : SomeS) : Nat := (min x.s.hi x.hi + 1 - x.n).toNat
def SomeS.next (x : SomeS) : SomeS := { x with n := x.n + 1 }
def someGo (x : SomeS) : Tree := .leaf (.tup [.nilp, .ptr 40 0 0, .int false .i64 x.lo, .int false .i64 x.hi, .ptr 0 0 0, .ptr 8 0 0, .int false .i64 (IntKind.i64.wrap (x.n + 1))]) [(8, .cells 0 23 (Enc.enc x.d).cells), (0, .cells 0 23 (Enc.enc x.s).cells)]
set_option maxRecDepth 100000 in
theorem some_t (x : SomeS) (g : Nat → Value) : exec (mkE Try.prog tab_rWorn) (hnd (mkE Try.prog tab_rWorn) 0) (bodyK Try.f76 0) (JSt.inst x.I g) (leafK someLs) =
   .br (decide (x.n ≤ min x.s.hi x.hi))
     (.br (decide (IntKind.i64.wrap (x.n * IntKind.i64.wrap (1000 + x.d.lo)) ≥ IntKind.i64.wrap (1000 * x.lo)))
       (.br (decide (IntKind.i64.wrap (x.n * IntKind.i64.wrap (1000 + x.d.lo)) ≤ IntKind.i64.wrap (1000 * x.hi)))
         (.leaf (.tup [.nili, .ptr 40 0 0, .bool true true]) [(8, .cells 0 23 (Enc.enc x.d).cells), (0, .cells 0 23 (Enc.enc x.s).cells)])
         (someGo x)) (someGo x))
     (.leaf (.tup [.ptr 0 0 0, .ptr 40 0 0]) [(8, .cells 0 23 (Enc.enc x.d).cells), (0, .cells 0 23 (Enc.enc x.s).cells)]) := by kernel_rfl
theorem some_wraps {x : SomeS} (h : x.pre) : IntKind.i64.wrap (x.n * IntKind.i64.wrap (1000 + x.d.lo)) = x.n * (1000 + x.d.lo) ∧ IntKind.i64.wrap (1000 * x.lo) = 1000 * x.lo ∧ IntKind.i64.wrap (1000 * x.hi) = 1000 * x.hi ∧ IntKind.i64.wrap (x.n + 1) = x.n + 1 := by
  obtain ⟨h1, h2, h3, h4, h5, h6, h7⟩ := h
  have e : IntKind.i64.wrap (1000 + x.d.lo) = 1000 + x.d.lo := w64 (by omega) (by omega)
  have m := Int.mul_le_mul_of_nonneg_right h6 (show 0 ≤ 1000 + x.d.lo by omega)
  have m' := Int.mul_le_mul_of_nonneg_right h7 (show 0 ≤ 1000 + x.d.lo by omega)
  rw [e]
  exact ⟨w64 (by omega) (by omega), w64 (by omega) (by omega), w64 (by omega) (by omega), w64 (by omega) (by omega)⟩
theorem some_next {x : SomeS} (hp : x.pre) (hn : x.n ≤ min x.s.hi x.hi) (hb : ¬ (1000 * x.lo ≤ x.n * (1000 + x.d.lo) ∧ x.n * (1000 + x.d.lo) ≤ 1000 * x.hi)) : (someGo x).den (LoopLeaf (Goes SomeS.I SomeS.pre SomeS.mu someR 0 someLs x) (Go.SX.Leaves someR 0 someLs x)) := by
  unfold someGo
  rw [(some_wraps hp).2.2.2]
  refine ⟨x.next, fun i => i, ?_, ?_, ?_, ?_⟩
  · obtain ⟨h1, h2, h3, h4, h5, h6, h7⟩ := hp
    refine ⟨h1, h2, h3, h4, h5, ?_, ?_⟩ <;> simp only [SomeS.next] <;> omega
  · simp only [SomeS.mu, SomeS.next]; omega
  · intro e J hR
    have hy : x.next.yes ↔ x.yes := by
      constructor
      · rintro ⟨n, h1, h2⟩; simp only [SomeS.next] at h1; exact ⟨n, by omega, h2⟩
      · rintro ⟨n, h1, h2⟩
        rcases (show n = x.n ∨ x.n + 1 ≤ n by omega) with rfl | h3
        · exact absurd h2.2 hb
        · exact ⟨n, h3, h2⟩
    unfold someR at *
    rw [hy] at hR; exact hR
  · refine SubV.same rfl rfl ?_ ?_ rfl rfl
    · exact ⟨⟨rfl, rfl⟩, ⟨rfl, rfl⟩, ⟨rfl, rfl, rfl⟩, ⟨rfl, rfl, rfl⟩, ⟨rfl, rfl⟩, trivial⟩
    · exact ⟨⟨_, rfl, rfl, rfl, ⟨rfl, rfl⟩, ⟨rfl, rfl⟩, trivial⟩, ⟨_, rfl, rfl, rfl, ⟨rfl, rfl⟩, ⟨rfl, rfl⟩, trivial⟩, trivial⟩
theorem some_round : RoundOk SomeS.I SomeS.pre SomeS.mu someR 0 someLs (mkE Try.prog tab_rWorn) (hnd (mkE Try.prog tab_rWorn) 0) (bodyK Try.f76 0) := by
  intro x g hp
  rw [some_t]
  obtain ⟨e1, e2, e3, _⟩ := some_wraps hp
  simp only [Tree.den, e1, e2, e3, decide_eq_true_eq, decide_eq_false_iff_not]
  refine ⟨fun hn => ⟨fun h1 => ⟨fun h2 => ?_, fun h2 => ?_⟩, fun h1 => ?_⟩, fun hn => ?_⟩
  · exact ⟨⟨40, [(8, .bool true true)], [], 0⟩, fun i => i, .inl ⟨rfl, rfl, x.n, Int.le_refl _, hn, h1, h2⟩, SubV.same rfl rfl ⟨rfl, trivial⟩ trivial rfl rfl⟩
  · exact some_next hp hn (fun h => h2 h.2)
  · exact some_next hp hn (fun h => h1 h.1)
  · refine ⟨⟨40, [], [], 0⟩, fun i => i, .inr ⟨rfl, rfl, ?_⟩, SubV.same rfl rfl trivial trivial rfl rfl⟩
    rintro ⟨n, h1, h2, _⟩; omega
instance (x : SomeS) : Decidable x.pre := by unfold SomeS.pre; infer_instance
def someH : Code → St → (Ex → St → Tree) → Tree := fun _ st K => match st.tm.length == 40 && noDfr st.hp, getT st.tm 1, getT st.tm 2, getT st.tm 4, getT st.tm 7, getT st.tm 9, Go.SX.look st.hp 8, Go.SX.look st.hp 0 with
  | true, .int _ .i64 lo, .int _ .i64 hi, .ptr 0 0 0, .ptr 8 0 0, .int _ .i64 n, some (.cells 0 23 [.int _ .i64 dlo, .int _ .i64 dhi]), some (.cells 0 23 [.int _ .i64 slo, .int _ .i64 shi]) =>
    .need (decide (SomeS.pre ⟨⟨slo, shi⟩, ⟨dlo, dhi⟩, lo, hi, n⟩)) (.both (.asm (SomeS.yes ⟨⟨slo, shi⟩, ⟨dlo, dhi⟩, lo, hi, n⟩) (.all fun g => K .ret (JSt.inst ⟨40, [(8, .bool true true)], [], 0⟩ g)))
      (.asm (¬ SomeS.yes ⟨⟨slo, shi⟩, ⟨dlo, dhi⟩, lo, hi, n⟩) (.all fun g => K (.exit 0) (JSt.inst ⟨40, [], [], 0⟩ g))))
  | _, _, _, _, _, _, _, _ => .fail "some"
theorem someH_ok (body : Code) (st : St) (K : Ex → St → Tree) (T : AV → List (Nat × Blk) → Prop) (h : (someH body st K).den T) : ∃ s q ls', SomeS.pre s ∧ SubV 0 q ls' st.tm.length (ls'.map (getT st.tm)) st.hp (SomeS.I s) ∧ ∀ e J g, someR s e J → (K e (J.inst g)).den T := by
  unfold someH at h
  split at h <;> (try (exact h.elim))
  rename_i k1 lo k2 hi k9 n kd dlo ke dhi ks slo kt shi c1 e1 e2 e4 e7 e9 h8 h0
  simp only [Tree.den, decide_eq_true_eq] at h
  rw [Bool.and_eq_true] at c1
  refine ⟨⟨⟨slo, shi⟩, ⟨dlo, dhi⟩, lo, hi, n⟩, fun i => i, [1, 2, 4, 7, 9], h.1, SubV.same rfl ?_ ?_ ?_ rfl rfl ?_, ?_⟩
  · exact beq_iff_eq.1 c1.1
  · simp only [List.map_cons, List.map_nil, *]; exact ⟨⟨rfl, rfl⟩, ⟨rfl, rfl⟩, ⟨rfl, rfl, rfl⟩, ⟨rfl, rfl, rfl⟩, ⟨rfl, rfl⟩, trivial⟩
  · exact ⟨⟨_, h8, rfl, rfl, ⟨rfl, rfl⟩, ⟨rfl, rfl⟩, trivial⟩, ⟨_, h0, rfl, rfl, ⟨rfl, rfl⟩, ⟨rfl, rfl⟩, trivial⟩, trivial⟩
  · exact c1.2
  · rintro e J g (⟨rfl, rfl, hy⟩ | ⟨rfl, rfl, hy⟩)
    · exact h.2.1 hy g
    · exact h.2.2 hy g
set_option maxRecDepth 100000 in
theorem some_hnd (G : Ctx) (hG : G.n = 0) (hrd : G.rd = none) : HndOk (mkE Try.prog tab_rWorn) G { hnd (mkE Try.prog tab_rWorn) 0 with loop := someH } (bodyOf Try.f76) :=
  ⟨fun b hb => by
    have e : loops (bodyOf Try.f76) = [.loop (bodyK Try.f76 0)] := by kernel_rfl
    rw [e, List.mem_singleton] at hb; subst hb
    exact loop_sound (mkE_ok tab_rWorn_ok) (by omega) (hnd_hndOk (mkE_ok tab_rWorn_ok) 0 G _ hrd) (fun _ => Nat.zero_le _) some_round (fun st K T h => someH_ok (bodyK Try.f76 0) st K T h), (hnd_hndOk (mkE_ok tab_rWorn_ok) 0 G (bodyOf Try.f76) hrd).call, (hnd_hndOk (mkE_ok tab_rWorn_ok) 0 G (bodyOf Try.f76) hrd).yield⟩
def SomeP (s : Sp) (lo hi : Int) (d : Sp) : Bool := decide (s.lo ≤ s.hi ∧ (-100000 ≤ s.lo ∧ s.lo ≤ 100000) ∧ (-100000 ≤ s.hi ∧ s.hi ≤ 100000) ∧ (-500 ≤ lo ∧ lo ≤ 0) ∧ (0 ≤ hi ∧ hi ≤ 500) ∧ 0 ≤ d.lo ∧ d.lo ≤ 100)
def rsomeF : Sp × Int × Int × Sp × Unit → Bool × AV := fun | (s, (lo, (hi, (d, _)))) => (SomeP s lo hi d, .bool false (perhapsB s.lo s.hi lo hi d.lo))
def rsomeC : FC := pureFC (pfOf rsomeF)
set_option maxRecDepth 100000 in
theorem rsome_t (s : Sp) (lo : Int) (hi : Int) (d : Sp) : execFn (mkE Try.prog tab_rWorn) { hnd (mkE Try.prog tab_rWorn) 0 with loop := someH } false Try.f76 (EncL.enc ((s, lo, hi, d, ()) : Sp × Int × Int × Sp × Unit)) [] 0 =
    Tree.need (decide (SomeS.mk s d lo hi (max s.lo lo)).pre) ((Tree.asm (SomeS.mk s d lo hi (max s.lo lo)).yes (Tree.all fun g => Tree.leaf (AV.bool true true) [])).both (Tree.asm
    (¬(SomeS.mk s d lo hi (max s.lo lo)).yes) (Tree.all fun g => Tree.leaf (AV.bool true false) []))) := by kernel_rfl
theorem rsome_s : FSound Try.prog 76 rsomeC := by
  refine fn_plain (mkE_ok tab_rWorn_ok) Try.func76 (by kernel_rfl) (by kernel_rfl) some_hnd ?_
  rintro ⟨s, lo, hi, d, ⟨⟩⟩ hp
  rw [rsome_t s lo hi d]
  simp only [rsomeF, Tree.den, AV.same, AV.sameL, and_true, true_and] at hp ⊢
  have hq := of_decide_eq_true hp
  obtain ⟨h0, h1, h2, h3, h4, h5⟩ := hq
  unfold SomeS.yes SomeS.good
  refine ⟨decide_eq_true ⟨h1, h2, h3, h4, h5, ?_, ?_⟩, ?_, ?_⟩
  · show -100000 ≤ max s.lo lo
    omega
  · show max s.lo lo ≤ 100001
    omega
  · rintro ⟨n, g1, g2, g3, g4⟩ _
    dsimp only at g1 g2 g3 g4
    exact (perhaps_some (n := n) (by omega) (by omega) (by omega) (by omega) (by omega) g3 g4).symm
  · intro hn _
    dsimp only at hn
    refine (perhaps_none (by omega) (by omega) (by omega) h0 fun n g1 g2 g3 => hn ⟨n, g1, g2, g3⟩).symm
def tab_rsome : Tab := addF tab_rWorn 76 rsomeC
theorem tab_rsome_ok : TabOk tab_rsome := tab_rWorn_ok.add rsome_s
theorem rfit_pre {p : Play} {t h : Edge} (h1 : p.ok = true) (h2 : t.ok = true) (h3 : h.ok = true) (ht : t.kind = 1) (hh : h.kind = 2) : (Couple.B ⟨p, t, h⟩ ∧ IntKind.i64.wrap (0 - p.slack) = -p.slack) ∧ (AllP (offBy p t h) (-p.slack) p.slack p.damp = true ∧ AllP (wideBy t h) 0 p.loose p.damp = true ∧ AllP (deepBy t h) 0 p.loose p.damp = true) ∧
    SomeP (offBy p t h) (-p.slack) p.slack p.damp = true ∧ SomeP (wideBy t h) 0 p.loose p.damp = true ∧ SomeP (deepBy t h) 0 p.loose p.damp = true := by
  have hB := couple_B h1 h2 h3 ht hh
  have hb := by_bd hB
  have h1' := hB.1
  unfold PlayB at h1'
  have s2 : (t.at_.lo ≤ t.at_.hi ∧ t.wide.lo ≤ t.wide.hi ∧ t.deep.lo ≤ t.deep.hi) := by
    unfold Edge.ok Sp.isIn at h2
    simp [ht] at h2; omega
  have s3 : (h.at_.lo ≤ h.at_.hi ∧ h.wide.lo ≤ h.wide.hi ∧ h.deep.lo ≤ h.deep.hi) := by
    unfold Edge.ok Sp.isIn at h3
    simp [hh] at h3; omega
  obtain ⟨o1, o2, o3, o4⟩ := hb
  simp only at h1'
  have n1 : (offBy p t h).lo ≤ (offBy p t h).hi := by simp only [offBy]; omega
  have n2 : (wideBy t h).lo ≤ (wideBy t h).hi := by simp only [wideBy]; omega
  have n3 : (deepBy t h).lo ≤ (deepBy t h).hi := by simp only [deepBy]; omega
  unfold AllP SomeP
  refine ⟨⟨hB, ?_⟩, ⟨decide_eq_true ?_, decide_eq_true ?_, decide_eq_true ?_⟩, decide_eq_true ?_, decide_eq_true ?_, decide_eq_true ?_⟩
  · rw [w64 (by omega) (by omega)]; omega
  all_goals omega
def rfitF : Play × Edge × Edge × Unit → Bool × AV := fun | (p, (a, (b, _))) => (okP p a b, .int false .i64 (fitsF p a b))
def rfitC : FC := pureFC (pfOf rfitF)
set_option maxRecDepth 100000 in
theorem rfit_t (p : Play) (a : Edge) (b : Edge) : execFn (mkE Try.prog tab_rsome) (hnd (mkE Try.prog tab_rsome) 4) false Try.f49 (EncL.enc ((p, a, b, ()) : Play × Edge × Edge × Unit)) [] 0 =
    Tree.br (a.kind == (1 : Int)) (Tree.br (b.kind == (2 : Int)) (Tree.need (decide (Couple.mk p a b).B) (Tree.need (AllP (offBy p a b) (IntKind.i64.wrap ((0 : Int) - p.slack)) p.slack
    p.damp) (Tree.br (alwaysB (offBy p a b).lo (offBy p a b).hi (IntKind.i64.wrap ((0 : Int) - p.slack)) p.slack p.damp.hi) (Tree.need (AllP (wideBy a b) (0 : Int) p.loose p.damp)
    (Tree.br (alwaysB (wideBy a b).lo (wideBy a b).hi (0 : Int) p.loose p.damp.hi) (Tree.need (AllP (deepBy a b) (0 : Int) p.loose p.damp) (Tree.br (alwaysB (deepBy a b).lo (deepBy a
    b).hi (0 : Int) p.loose p.damp.hi) (Tree.leaf (AV.int true IntKind.i64 (2 : Int)) []) (Tree.need (SomeP (offBy p a b) (IntKind.i64.wrap ((0 : Int) - p.slack)) p.slack p.damp)
    (Tree.br (perhapsB (offBy p a b).lo (offBy p a b).hi (IntKind.i64.wrap ((0 : Int) - p.slack)) p.slack p.damp.lo) (Tree.need (SomeP (wideBy a b) (0 : Int) p.loose p.damp) (Tree.br
    (perhapsB (wideBy a b).lo (wideBy a b).hi (0 : Int) p.loose p.damp.lo) (Tree.need (SomeP (deepBy a b) (0 : Int) p.loose p.damp) (Tree.br (perhapsB (deepBy a b).lo (deepBy a b).hi (0
    : Int) p.loose p.damp.lo) (Tree.leaf (AV.int true IntKind.i64 (1 : Int)) []) (Tree.leaf (AV.int true IntKind.i64 (0 : Int)) []))) (Tree.leaf (AV.int true IntKind.i64 (0 : Int))
    []))) (Tree.leaf (AV.int true IntKind.i64 (0 : Int)) []))))) (Tree.need (SomeP (offBy p a b) (IntKind.i64.wrap ((0 : Int) - p.slack)) p.slack p.damp) (Tree.br (perhapsB (offBy p a
    b).lo (offBy p a b).hi (IntKind.i64.wrap ((0 : Int) - p.slack)) p.slack p.damp.lo) (Tree.need (SomeP (wideBy a b) (0 : Int) p.loose p.damp) (Tree.br (perhapsB (wideBy a b).lo
    (wideBy a b).hi (0 : Int) p.loose p.damp.lo) (Tree.need (SomeP (deepBy a b) (0 : Int) p.loose p.damp) (Tree.br (perhapsB (deepBy a b).lo (deepBy a b).hi (0 : Int) p.loose p.damp.lo)
    (Tree.leaf (AV.int true IntKind.i64 (1 : Int)) []) (Tree.leaf (AV.int true IntKind.i64 (0 : Int)) []))) (Tree.leaf (AV.int true IntKind.i64 (0 : Int)) []))) (Tree.leaf (AV.int true
    IntKind.i64 (0 : Int)) []))))) (Tree.need (SomeP (offBy p a b) (IntKind.i64.wrap ((0 : Int) - p.slack)) p.slack p.damp) (Tree.br (perhapsB (offBy p a b).lo (offBy p a b).hi
    (IntKind.i64.wrap ((0 : Int) - p.slack)) p.slack p.damp.lo) (Tree.need (SomeP (wideBy a b) (0 : Int) p.loose p.damp) (Tree.br (perhapsB (wideBy a b).lo (wideBy a b).hi (0 : Int)
    p.loose p.damp.lo) (Tree.need (SomeP (deepBy a b) (0 : Int) p.loose p.damp) (Tree.br (perhapsB (deepBy a b).lo (deepBy a b).hi (0 : Int) p.loose p.damp.lo) (Tree.leaf (AV.int true
    IntKind.i64 (1 : Int)) []) (Tree.leaf (AV.int true IntKind.i64 (0 : Int)) []))) (Tree.leaf (AV.int true IntKind.i64 (0 : Int)) []))) (Tree.leaf (AV.int true IntKind.i64 (0 : Int))
    [])))))) (Tree.br (b.kind == (1 : Int)) (Tree.br (a.kind == (2 : Int)) (Tree.need (decide (Couple.mk p b a).B) (Tree.need (AllP (offBy p b a) (IntKind.i64.wrap ((0 : Int) -
    p.slack)) p.slack p.damp) (Tree.br (alwaysB (offBy p b a).lo (offBy p b a).hi (IntKind.i64.wrap ((0 : Int) - p.slack)) p.slack p.damp.hi) (Tree.need (AllP (wideBy b a) (0 : Int)
    p.loose p.damp) (Tree.br (alwaysB (wideBy b a).lo (wideBy b a).hi (0 : Int) p.loose p.damp.hi) (Tree.need (AllP (deepBy b a) (0 : Int) p.loose p.damp) (Tree.br (alwaysB (deepBy b
    a).lo (deepBy b a).hi (0 : Int) p.loose p.damp.hi) (Tree.leaf (AV.int true IntKind.i64 (2 : Int)) []) (Tree.need (SomeP (offBy p b a) (IntKind.i64.wrap ((0 : Int) - p.slack))
    p.slack p.damp) (Tree.br (perhapsB (offBy p b a).lo (offBy p b a).hi (IntKind.i64.wrap ((0 : Int) - p.slack)) p.slack p.damp.lo) (Tree.need (SomeP (wideBy b a) (0 : Int) p.loose
    p.damp) (Tree.br (perhapsB (wideBy b a).lo (wideBy b a).hi (0 : Int) p.loose p.damp.lo) (Tree.need (SomeP (deepBy b a) (0 : Int) p.loose p.damp) (Tree.br (perhapsB (deepBy b a).lo
    (deepBy b a).hi (0 : Int) p.loose p.damp.lo) (Tree.leaf (AV.int true IntKind.i64 (1 : Int)) []) (Tree.leaf (AV.int true IntKind.i64 (0 : Int)) []))) (Tree.leaf (AV.int true
    IntKind.i64 (0 : Int)) []))) (Tree.leaf (AV.int true IntKind.i64 (0 : Int)) []))))) (Tree.need (SomeP (offBy p b a) (IntKind.i64.wrap ((0 : Int) - p.slack)) p.slack p.damp) (Tree.br
    (perhapsB (offBy p b a).lo (offBy p b a).hi (IntKind.i64.wrap ((0 : Int) - p.slack)) p.slack p.damp.lo) (Tree.need (SomeP (wideBy b a) (0 : Int) p.loose p.damp) (Tree.br (perhapsB
    (wideBy b a).lo (wideBy b a).hi (0 : Int) p.loose p.damp.lo) (Tree.need (SomeP (deepBy b a) (0 : Int) p.loose p.damp) (Tree.br (perhapsB (deepBy b a).lo (deepBy b a).hi (0 : Int)
    p.loose p.damp.lo) (Tree.leaf (AV.int true IntKind.i64 (1 : Int)) []) (Tree.leaf (AV.int true IntKind.i64 (0 : Int)) []))) (Tree.leaf (AV.int true IntKind.i64 (0 : Int)) [])))
    (Tree.leaf (AV.int true IntKind.i64 (0 : Int)) []))))) (Tree.need (SomeP (offBy p b a) (IntKind.i64.wrap ((0 : Int) - p.slack)) p.slack p.damp) (Tree.br (perhapsB (offBy p b a).lo
    (offBy p b a).hi (IntKind.i64.wrap ((0 : Int) - p.slack)) p.slack p.damp.lo) (Tree.need (SomeP (wideBy b a) (0 : Int) p.loose p.damp) (Tree.br (perhapsB (wideBy b a).lo (wideBy b
    a).hi (0 : Int) p.loose p.damp.lo) (Tree.need (SomeP (deepBy b a) (0 : Int) p.loose p.damp) (Tree.br (perhapsB (deepBy b a).lo (deepBy b a).hi (0 : Int) p.loose p.damp.lo)
    (Tree.leaf (AV.int true IntKind.i64 (1 : Int)) []) (Tree.leaf (AV.int true IntKind.i64 (0 : Int)) []))) (Tree.leaf (AV.int true IntKind.i64 (0 : Int)) []))) (Tree.leaf (AV.int true
    IntKind.i64 (0 : Int)) [])))))) (Tree.leaf (AV.int true IntKind.i64 (0 : Int)) [])) (Tree.leaf (AV.int true IntKind.i64 (0 : Int)) []))) (Tree.br (b.kind == (1 : Int)) (Tree.br
    (a.kind == (2 : Int)) (Tree.need (decide (Couple.mk p b a).B) (Tree.need (AllP (offBy p b a) (IntKind.i64.wrap ((0 : Int) - p.slack)) p.slack p.damp) (Tree.br (alwaysB (offBy p b
    a).lo (offBy p b a).hi (IntKind.i64.wrap ((0 : Int) - p.slack)) p.slack p.damp.hi) (Tree.need (AllP (wideBy b a) (0 : Int) p.loose p.damp) (Tree.br (alwaysB (wideBy b a).lo (wideBy
    b a).hi (0 : Int) p.loose p.damp.hi) (Tree.need (AllP (deepBy b a) (0 : Int) p.loose p.damp) (Tree.br (alwaysB (deepBy b a).lo (deepBy b a).hi (0 : Int) p.loose p.damp.hi)
    (Tree.leaf (AV.int true IntKind.i64 (2 : Int)) []) (Tree.need (SomeP (offBy p b a) (IntKind.i64.wrap ((0 : Int) - p.slack)) p.slack p.damp) (Tree.br (perhapsB (offBy p b a).lo
    (offBy p b a).hi (IntKind.i64.wrap ((0 : Int) - p.slack)) p.slack p.damp.lo) (Tree.need (SomeP (wideBy b a) (0 : Int) p.loose p.damp) (Tree.br (perhapsB (wideBy b a).lo (wideBy b
    a).hi (0 : Int) p.loose p.damp.lo) (Tree.need (SomeP (deepBy b a) (0 : Int) p.loose p.damp) (Tree.br (perhapsB (deepBy b a).lo (deepBy b a).hi (0 : Int) p.loose p.damp.lo)
    (Tree.leaf (AV.int true IntKind.i64 (1 : Int)) []) (Tree.leaf (AV.int true IntKind.i64 (0 : Int)) []))) (Tree.leaf (AV.int true IntKind.i64 (0 : Int)) []))) (Tree.leaf (AV.int true
    IntKind.i64 (0 : Int)) []))))) (Tree.need (SomeP (offBy p b a) (IntKind.i64.wrap ((0 : Int) - p.slack)) p.slack p.damp) (Tree.br (perhapsB (offBy p b a).lo (offBy p b a).hi
    (IntKind.i64.wrap ((0 : Int) - p.slack)) p.slack p.damp.lo) (Tree.need (SomeP (wideBy b a) (0 : Int) p.loose p.damp) (Tree.br (perhapsB (wideBy b a).lo (wideBy b a).hi (0 : Int)
    p.loose p.damp.lo) (Tree.need (SomeP (deepBy b a) (0 : Int) p.loose p.damp) (Tree.br (perhapsB (deepBy b a).lo (deepBy b a).hi (0 : Int) p.loose p.damp.lo) (Tree.leaf (AV.int true
    IntKind.i64 (1 : Int)) []) (Tree.leaf (AV.int true IntKind.i64 (0 : Int)) []))) (Tree.leaf (AV.int true IntKind.i64 (0 : Int)) []))) (Tree.leaf (AV.int true IntKind.i64 (0 : Int))
    []))))) (Tree.need (SomeP (offBy p b a) (IntKind.i64.wrap ((0 : Int) - p.slack)) p.slack p.damp) (Tree.br (perhapsB (offBy p b a).lo (offBy p b a).hi (IntKind.i64.wrap ((0 : Int) -
    p.slack)) p.slack p.damp.lo) (Tree.need (SomeP (wideBy b a) (0 : Int) p.loose p.damp) (Tree.br (perhapsB (wideBy b a).lo (wideBy b a).hi (0 : Int) p.loose p.damp.lo) (Tree.need
    (SomeP (deepBy b a) (0 : Int) p.loose p.damp) (Tree.br (perhapsB (deepBy b a).lo (deepBy b a).hi (0 : Int) p.loose p.damp.lo) (Tree.leaf (AV.int true IntKind.i64 (1 : Int)) [])
    (Tree.leaf (AV.int true IntKind.i64 (0 : Int)) []))) (Tree.leaf (AV.int true IntKind.i64 (0 : Int)) []))) (Tree.leaf (AV.int true IntKind.i64 (0 : Int)) [])))))) (Tree.leaf (AV.int
    true IntKind.i64 (0 : Int)) [])) (Tree.leaf (AV.int true IntKind.i64 (0 : Int)) [])) := by kernel_rfl
theorem rfit_s : FSound Try.prog 49 rfitC := by
  refine plain_fn tab_rsome_ok 4 Try.func49 (by kernel_rfl) (by kernel_rfl) ?_
  rintro ⟨p, a, b, ⟨⟩⟩ hp
  rw [rfit_t p a b]
  simp only [rfitF, Tree.den, AV.same, AV.sameL, and_true, true_and] at hp ⊢
  unfold okP at hp
  simp only [Bool.and_eq_true] at hp
  obtain ⟨h1, h2, h3⟩ := hp
  unfold fitsF
  by_cases c1 : a.kind = 1 ∧ b.kind = 2
  · obtain ⟨ha, hb⟩ := c1
    obtain ⟨⟨q1, q2⟩, ⟨q3, q4, q5⟩, q6, q7, q8⟩ := rfit_pre h1 h2 h3 ha hb
    rw [if_neg (by omega), if_pos ⟨ha, hb⟩, verd_eq]
    simp only [ha, hb, q1, q2, q3, q4, q5, q6, q7, q8, alw, may, beq_self_eq_true, decide_true]
    generalize alwaysB (offBy p a b).lo (offBy p a b).hi (-p.slack) p.slack p.damp.hi = b1
    generalize alwaysB (wideBy a b).lo (wideBy a b).hi 0 p.loose p.damp.hi = b2
    generalize alwaysB (deepBy a b).lo (deepBy a b).hi 0 p.loose p.damp.hi = b3
    generalize perhapsB (offBy p a b).lo (offBy p a b).hi (-p.slack) p.slack p.damp.lo = b4
    generalize perhapsB (wideBy a b).lo (wideBy a b).hi 0 p.loose p.damp.lo = b5
    generalize perhapsB (deepBy a b).lo (deepBy a b).hi 0 p.loose p.damp.lo = b6
    cases b1 <;> cases b2 <;> cases b3 <;> cases b4 <;> cases b5 <;> cases b6 <;> simp
  by_cases c2 : b.kind = 1 ∧ a.kind = 2
  · obtain ⟨hb, ha⟩ := c2
    obtain ⟨⟨q1, q2⟩, ⟨q3, q4, q5⟩, q6, q7, q8⟩ := rfit_pre h1 h3 h2 hb ha
    rw [if_pos ha, if_pos hb, verd_eq]
    simp only [ha, hb, q1, q2, q3, q4, q5, q6, q7, q8, alw, may, beq_self_eq_true, decide_true]
    generalize alwaysB (offBy p b a).lo (offBy p b a).hi (-p.slack) p.slack p.damp.hi = b1
    generalize alwaysB (wideBy b a).lo (wideBy b a).hi 0 p.loose p.damp.hi = b2
    generalize alwaysB (deepBy b a).lo (deepBy b a).hi 0 p.loose p.damp.hi = b3
    generalize perhapsB (offBy p b a).lo (offBy p b a).hi (-p.slack) p.slack p.damp.lo = b4
    generalize perhapsB (wideBy b a).lo (wideBy b a).hi 0 p.loose p.damp.lo = b5
    generalize perhapsB (deepBy b a).lo (deepBy b a).hi 0 p.loose p.damp.lo = b6
    cases b1 <;> cases b2 <;> cases b3 <;> cases b4 <;> cases b5 <;> cases b6 <;> simp
  have e0 : (if a.kind = 2 then (if b.kind = 1 then verd p b a else 0) else if a.kind = 1 ∧ b.kind = 2 then verd p a b else 0) = 0 := by
    split
    · rename_i ha; rw [if_neg (fun h => c2 ⟨h, ha⟩)]
    · rfl
  rw [e0]
  simp only [beq_iff_eq, beq_eq_false_iff_ne]
  refine ⟨fun ha => ⟨fun hb => absurd ⟨ha, hb⟩ c1, fun _ => ⟨fun hb => ⟨fun h => absurd ⟨hb, h⟩ c2, fun _ => trivial⟩, fun _ => trivial⟩⟩, fun _ => ⟨fun hb => ⟨fun h => absurd ⟨hb, h⟩ c2, fun _ => trivial⟩, fun _ => trivial⟩⟩
def tab_rfit : Tab := addF tab_rsome 49 rfitC
theorem tab_rfit_ok : TabOk tab_rfit := tab_rsome_ok.add rfit_s
def rFitF : Play × Edge × Edge × Unit → Bool × AV := fun | (p, (a, (b, _))) => (true, .tup [.int false .i64 (FitF p a b).1, .int false .i64 (FitF p a b).2])
def rFitC : FC := pureFC (pfOf rFitF)
set_option maxRecDepth 100000 in
theorem rFit_t (p : Play) (a : Edge) (b : Edge) : execFn (mkE Try.prog tab_rfit) (hnd (mkE Try.prog tab_rfit) 4) false Try.f16 (EncL.enc ((p, a, b, ()) : Play × Edge × Edge × Unit)) [] 0 =
    Tree.need true (Tree.br (!p.ok) (Tree.leaf (AV.tup [AV.int true IntKind.i64 (0 : Int), AV.int true IntKind.i64 (1 : Int)]) []) (Tree.need true (Tree.br (!a.ok) (Tree.leaf (AV.tup
    [AV.int true IntKind.i64 (0 : Int), AV.int true IntKind.i64 (1 : Int)]) []) (Tree.need true (Tree.br (!b.ok) (Tree.leaf (AV.tup [AV.int true IntKind.i64 (0 : Int), AV.int true
    IntKind.i64 (1 : Int)]) []) (Tree.need (okP p a b) (Tree.leaf (AV.tup [AV.int false IntKind.i64 (fitsF p a b), AV.int true IntKind.i64 (0 : Int)]) []))))))) := by kernel_rfl
theorem rFit_s : FSound Try.prog 16 rFitC := by
  refine plain_fn tab_rfit_ok 4 Try.func16 (by kernel_rfl) (by kernel_rfl) ?_
  rintro ⟨p, a, b, ⟨⟩⟩ hp
  rw [rFit_t p a b]
  simp only [rFitF, Tree.den, AV.same, AV.sameL, and_true, true_and] at hp ⊢
  unfold FitF okP
  cases p.ok <;> cases a.ok <;> cases b.ok <;> simp
def tab_rFit : Tab := addF tab_rfit 16 rFitC
theorem tab_rFit_ok : TabOk tab_rFit := tab_rfit_ok.add rFit_s
end Go.Proofs.Ytdaanchagjamfaa
