/- - -/
import Derived.Test.YtekbmehgcofnkaaGreatJa
set_option linter.all false
namespace Go.SX
section
variable {α σ:Type} (C:List α->List α) (ok:List α->α->Bool) (fin:List α->Bool)
def Ym:Nat->List α->List (List α)
 | 0,l=>cond (fin l) [l] []
 | d+1,l=>(C l).flatMap λc=>cond (ok l c) (Ym d (l++[c])) []
def QAW:List α->List α->Prop
 | _,[]=>True
 | l,c::t=>c∈C l/\ok l c=true/\QAW (l++[c]) t
theorem QFi{d:Nat}{l l':List α}:l'∈Ym C ok fin d l↔∃ t,t.length=d/\l'=l++t/\QAW C ok l t/\fin l'=true:=by
 induction d generalizing l with
 | zero=>
  simp only[Ym];cases h:fin l with
  | true=>
   simp only[cond_true,List.mem_singleton];constructor
   .rintro rfl;exact⟨[],rfl,by simp,trivial,h⟩
   .rintro⟨t,ht,rfl,_,_⟩;rw[List.length_eq_zero_iff]at ht;subst ht;simp
  | false=>
   simp only[cond_false,List.not_mem_nil,false_iff];rintro⟨t,ht,rfl,_,hf⟩;rw[List.length_eq_zero_iff]at ht;subst ht;rw[List.append_nil,h]at hf;cases hf
 | succ d ih=>
  simp only[Ym,List.mem_flatMap];constructor
  .rintro⟨c,hc,hm⟩;cases ho:ok l c with
   | false=>rw[ho]at hm;cases hm
   | true=>
    rw[ho]at hm;obtain⟨t,h1,h2,h3,h4⟩:=ih.1 hm;exact⟨c::t,by simp[h1],by rw[h2];simp,⟨hc,ho,h3⟩,h4⟩
  .rintro⟨t,h1,h2,h3,h4⟩
   match t,h1,h2,h3 with
   | c::t,h1,h2,h3=>
    refine⟨c,h3.1,?_⟩;rw[h3.2.1];exact ih.2 ⟨t,by simpa using h1,by rw[h2];simp,h3.2.2,h4⟩
theorem QDc{l t:List α}:QAW C ok l t↔∀ i (h:i<t.length),t[i]∈C (l++t.take i)/\ok (l++t.take i) t[i]=true:=by
 induction t generalizing l with
 | nil=>simp[QAW]
 | cons c t ih=>
  simp only[QAW,ih];constructor
  .rintro⟨h1,h2,h3⟩ i hi;cases i with
   | zero=>simpa using ⟨h1,h2⟩
   | succ i=>
    have:=h3 i (by simpa using hi)
    simpa[List.append_assoc]using this
  .intro h;have h0:=h 0 (by simp)
   refine⟨by simpa using h0.1,by simpa using h0.2,λi hi=>?_⟩
   have:=h (i+1) (by simpa using hi)
   simpa[List.append_assoc]using this
def QFl(lt:α->α->Prop)(a b:List α):Prop:=∃ p x y s t,a=p++x::s/\b=p++y::t/\lt x y
theorem QOU{d:Nat}{l l':List α}(h:l'∈Ym C ok fin d l):∃ t,l'=l++t/\t.length=d:=by
 obtain⟨t,h1,h2,_⟩:=(QFi C ok fin).1 h;exact⟨t,h2,h1⟩
theorem QNf{lt:α->α->Prop}(hC:∀ l,(C l).Pairwise lt):∀(d:Nat) (l:List α),(Ym C ok fin d l).Pairwise (QFl lt)
 | 0,l=>by
  simp only[Ym];cases fin l<;>simp
 | d+1,l=>by
  simp only[Ym];generalize hcs:C l=cs;have hp:cs.Pairwise lt:=hcs ▸ hC l;clear hcs
  induction cs with
  | nil=>simp
  | cons c cs ih=>
   rw[List.pairwise_cons]at hp;rw[List.flatMap_cons,List.pairwise_append];refine⟨?_,ih hp.2,?_⟩
   .cases ok l c
    .simp
    .exact QNf hC d _
   .intro a ha b hb;obtain⟨y,hy,hb⟩:=List.mem_flatMap.1 hb;cases h1:ok l c with
    | false=>rw[h1]at ha;cases ha
    | true=>
     cases h2:ok l y with
     | false=>rw[h2]at hb;cases hb
     | true=>
      rw[h1]at ha;rw[h2]at hb;obtain⟨s,rfl,_⟩:=QOU C ok fin ha;obtain⟨t,rfl,_⟩:=QOU C ok fin hb;exact⟨l,c,y,s,t,by simp,by simp,hp.1 y hy⟩
theorem QZ4{lt:α->α->Prop}(h:∀ x,¬ lt x x){a b:List α}(hl:QFl lt a b):a≠b:=by
 obtain⟨p,x,y,s,t,rfl,rfl,hlt⟩:=hl;intro e;rw[List.append_cancel_left_eq]at e;obtain⟨rfl,_⟩:=List.cons.inj e;exact h _ hlt
end
