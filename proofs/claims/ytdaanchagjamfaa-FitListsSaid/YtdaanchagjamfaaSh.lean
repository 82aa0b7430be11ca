/- A region, in the text's order. -/
import Derived.Test.YtdaanchagjamfaaSg
namespace Go.SX
open Go Go.RowKit Go.Proofs.Ytdaanchagjamfaa

structure Scoped (n : Nat) (st : St) : Prop where
  tm : ∀ t, (getT st.tm t).all (· < n) = true
  out : ∀ id b, look st.hp id = some b → id < n
  blk : ∀ id b, look st.hp id = some b → b.all (· < n) = true

theorem Blk.all_mono {p q : Nat → Bool} (h : ∀ id, p id = true → q id = true) : ∀ b : Blk, b.all p = true → b.all q = true
  | .cells _ _ l, hb => allL_mono h l hb
  | .rowl _ _ l, hb => by
    simp only [Blk.all, List.all_eq_true] at hb ⊢
    exact fun x hx => allL_mono h x (hb x hx)
  | .arr .., _ => rfl
  | .gone, _ => rfl
  | .cellsR _ _ l, hb => allL_mono h l hb
  | .rowlR _ _ l, hb => by
    simp only [Blk.all, List.all_eq_true] at hb ⊢
    exact fun x hx => allL_mono h x (hb x hx)
  | .lp _ _ l _ _ _, hb => allL_mono h l hb
  | .dfr, _ => rfl
  | .mp .., _ => rfl
  | .rowz .., _ => rfl
  | .frz .., _ => rfl
  | .frz2 .., _ => rfl
  | .mpf .., _ => rfl
mutual
theorem all_trueV : ∀ v : AV, v.all (fun _ => true) = true
  | .int .. | .bool .. | .addr .. | .nilp | .nils | .nilm | .nilf | .nili | .str .. | .raw .. | .ptr .. | .slice .. | .slz .. | .map .. | .yld .. => rfl
  | .fn _ l => all_trueL l
  | .ifc _ v => all_trueV v
  | .opt _ v => all_trueV v
  | .agg l => all_trueL l
  | .tup l => all_trueL l
theorem all_trueL : ∀ l : List AV, AV.allL (fun _ => true) l = true
  | [] => rfl
  | v :: l => by simp only [AV.allL, all_trueV v, all_trueL l]; rfl
end
theorem all_true (b : Blk) : b.all (fun _ => true) = true := by
  cases b <;> simp only [Blk.all, all_trueL, List.all_eq_true, implies_true]
theorem lt_notR {n nid : Nat} (h : n ≤ nid) : ∀ id, decide (id < n) = true → (!inR nid id) = true := by
  intro id hid
  simp only [decide_eq_true_eq] at hid
  simp [inR]; omega
theorem Scoped.free {n nid : Nat} {st : St} (h : Scoped n st) (hn : n ≤ nid) : Free nid (getT st.tm) (look st.hp) :=
  ⟨fun t => all_mono (lt_notR hn) _ (h.tm t), fun id b hb => by
    have := lt_notR hn id (by simpa using h.out id b hb); simpa using this, fun id b hb => Blk.all_mono (lt_notR hn) _ (h.blk id b hb)⟩
theorem Scoped.eqv {n : Nat} {st : St} {tm : List AV} (h : Scoped n st) (he : Eqv st.tm tm) : Scoped n { st with tm := tm } :=
  ⟨fun t => by rw [← (he.2 t).2]; exact h.tm t, h.out, h.blk⟩
theorem look_mem {u h : List (Nat × Blk)} {id : Nat} {b : Blk} (e : look (u ++ h) id = some b) : (∃ p ∈ u, p.1 = id ∧ p.2 = b) ∨ look h id = some b := by
  rw [look_append] at e
  rcases lookU_cases e with ⟨p, hp, h1, h2, _⟩ | ⟨h1, _⟩
  · exact .inl ⟨p, hp, h1, h2⟩
  · exact .inr h1
theorem look_memb : ∀ {h : List (Nat × Blk)} {id : Nat} {b : Blk}, look h id = some b → (id, b) ∈ h
  | (i, b') :: h, id, b, e => by
    simp only [look] at e
    split at e
    · rename_i hi
      split at e <;> (try (cases e; done))
      simp only [Option.some.injEq] at e; subst e
      have : i = id := by simpa using hi
      subst this; exact List.mem_cons_self
    · exact List.mem_cons_of_mem _ (look_memb e)
theorem mono_lt {m n : Nat} (h : m ≤ n) : ∀ id, decide (id < m) = true → decide (id < n) = true := by
  intro id; simp only [decide_eq_true_eq]; omega
theorem ownIn_spec {h : List (Nat × Blk)} {id : Nat} (e : ownIn h id = true) : ∃ b, look h id = some b ∧ b.own = true := by
  unfold ownIn at e
  split at e
  · rename_i b hb; exact ⟨b, hb, e⟩
  · cases e
/-- A record that keeps within its numbers. -/
structure RecOk (n : Nat) (rec : Rec) : Prop where
  val : rec.val.all (· < n) = true
  upd : ∀ p ∈ rec.upd, p.2.all (· < n) = true
theorem Ran.ok {E : Env} {o : Oper} {nid : Nat} {st : St} {rec : Rec} (h : Ran E o nid st rec) :
    RecOk (nid + 8) rec ∧ ∀ p ∈ rec.upd, inR nid p.1 = true ∨ (p.1 ∈ rec.ids ∧ ∃ b, look st.hp p.1 = some b ∧ b.own = true) := by
  obtain ⟨_, g, blks, eff, _, _, _, _, hok, h1, h2⟩ := h.ran
  unfold okEff at hok
  simp only [Bool.and_eq_true, List.all_eq_true, Bool.or_eq_true] at hok
  refine ⟨⟨by rw [h1]; exact hok.1, fun p hp => (hok.2 p (h2 ▸ hp)).1⟩, fun p hp => ?_⟩
  rcases (hok.2 p (h2 ▸ hp)).2 with h | h
  · exact .inl h
  · exact .inr ⟨by simpa using h.1, ownIn_spec h.2⟩
theorem Scoped.apply {n nid : Nat} {st : St} {o : Oper} {rec : Rec} (h : Scoped n st) (hn : n ≤ nid + 8) (hr : RecOk (nid + 8) rec) (hu : ∀ p ∈ rec.upd, p.1 < nid + 8) : Scoped (nid + 8) (applyR o rec st) := by
  refine ⟨fun t => ?_, fun id b hb => ?_, fun id b hb => ?_⟩
  · unfold applyR
    rw [getT_setO]
    split
    · exact hr.val
    · exact all_mono (mono_lt hn) _ (h.tm t)
  · rcases look_mem hb with ⟨p, hp, rfl, _⟩ | hb
    · exact hu p hp
    · have := h.out id b hb; omega
  · rcases look_mem hb with ⟨p, hp, _, rfl⟩ | hb
    · exact hr.upd p hp
    · exact Blk.all_mono (mono_lt hn) _ (h.blk id b hb)
theorem inR_lt {nid id : Nat} (h : inR nid id = true) : id < nid + 8 := by
  unfold inR at h; simp at h; omega
theorem Ran.scopedAt {E : Env} {o : Oper} {nid : Nat} {st : St} {rec : Rec} (h : Ran E o nid st rec) (hs : Scoped nid st) : Scoped (nid + 8) (applyR o rec st) :=
  hs.apply (by omega) h.ok.1 fun p hp => by
    rcases h.ok.2 p hp with h1 | ⟨_, b, hb, _⟩
    · exact inR_lt h1
    · have := hs.out _ _ hb; omega
theorem Scoped.skip {n m : Nat} {st : St} {o : Oper} (h : Scoped n st) (hn : n ≤ m) : Scoped m (applyR o ⟨.tup [], [], []⟩ st) := by
  refine ⟨fun t => ?_, fun id b hb => ?_, fun id b hb => ?_⟩
  · unfold applyR
    rw [getT_setO]
    split
    · rfl
    · exact all_mono (mono_lt hn) _ (h.tm t)
  · have := h.out id b hb; omega
  · exact Blk.all_mono (mono_lt hn) _ (h.blk id b hb)

theorem eval_evA {r : Nat → Loc} {tm : List AV} {a : Act} {x : Operand} (h : ∀ t, x = .tmp t → a.tmps.getD t undef = (getT tm t).den r) : a.eval x = (evA tm x).den r := by
  cases x with
  | tmp t => exact h t rfl
  | const v => exact (den_ofValue r v).symm
  | global g => rfl
  | func f => rfl
theorem evA_all {p : Nat → Bool} {tm : List AV} {x : Operand} (h : ∀ t, (getT tm t).all p = true) : (evA tm x).all p = true := by
  cases x with
  | tmp t => exact h t
  | const v => exact ofValue_all p v
  | global g => rfl
  | func f => rfl

/-- A state and a world. -/
def Rep (G : Ctx) (n : Nat) (st : St) (a : Act) (w : World) : Prop := (∃ r, Inv G st.tm.length r (getT st.tm) (look st.hp) a w) ∧ Scoped n st
theorem Inv.eqv {G : Ctx} {r : Nat → Loc} {st : St} {tm : List AV} {a : Act} {w : World} (he : Eqv st.tm tm) (h : Inv G st.tm.length r (getT st.tm) (look st.hp) a w) : Inv G tm.length r (getT tm) (look st.hp) a w :=
  ⟨by rw [h.size, he.1], h.defers, fun t => by rw [h.tm t, (he.2 t).1], h.rep, h.live, h.sep, h.ext, h.fr, h.own⟩
theorem Inv.hok {G : Ctx} {N : Nat} {r : Nat → Loc} {tf : Nat → AV} {lk : Nat → Option Blk} {a : Act} {w : World} {nid : Nat} (h : Inv G N r tf lk a w) (hf : Free nid tf lk) : HOk r w nid lk :=
  ⟨hf.out, h.rep, hf.blk, fun id id' b b' h1 h2 hne ho _ => h.sep id id' b b' h1 h2 hne ho⟩
theorem updT_apply (st : St) (o : Oper) (rec : Rec) : getT (applyR o rec st).tm = updT st.tm.length (getT st.tm) o.dst rec.val := by
  funext t
  unfold applyR updT
  rw [getT_setO]
theorem look_apply (st : St) (o : Oper) (rec : Rec) : look (applyR o rec st).hp = lookU rec.upd (look st.hp) := by
  funext id
  exact look_append _ _ _
theorem apply_length (st : St) (o : Oper) (rec : Rec) : (applyR o rec st).tm.length = st.tm.length := setO_length _ _ _

end Go.SX
