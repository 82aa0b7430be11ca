/- - -/
import Derived.Test.YtekbmehgcofnkaaGreatVa
namespace Go.SX
section
variable {α σ:Type} (C:List α->List α) (ok:List α->α->Bool) (fin:List α->Bool)
def vq:Nat->List α->List (List α)
 | 0,l=>cond (fin l) [l] []
 | d+1,l=>(C l).flatMap λc=>cond (ok l c) (vq d (l++[c])) []
def QBn:List α->List α->Prop
 | _,[]=>True
 | l,c::t=>c∈C l/\ok l c=true/\QBn (l++[c]) t
theorem QUl{d:Nat}{l l':List α}:l'∈vq C ok fin d l↔∃ t,t.length=d/\l'=l++t/\QBn C ok l t/\fin l'=true:=by
 induction d generalizing l with
 | zero=>
  simp only[vq];cases h:fin l with
  | true=>
   simp only[cond_true,List.mem_singleton];constructor
   .rintro rfl;exact⟨[],rfl,by simp,trivial,h⟩
   .rintro⟨t,ht,rfl,_,_⟩;rw[List.length_eq_zero_iff]at ht;subst ht;simp
  | false=>
   simp only[cond_false,List.not_mem_nil,false_iff];rintro⟨t,ht,rfl,_,hf⟩;rw[List.length_eq_zero_iff]at ht;subst ht;rw[List.append_nil,h]at hf;cases hf
 | succ d ih=>
  simp only[vq,List.mem_flatMap];constructor
  .rintro⟨c,hc,hm⟩;cases ho:ok l c with
   | false=>rw[ho]at hm;cases hm
   | true=>
    rw[ho]at hm;obtain⟨t,h1,h2,h3,h4⟩:=ih.1 hm;exact⟨c::t,by simp[h1],by rw[h2];simp,⟨hc,ho,h3⟩,h4⟩
  .rintro⟨t,h1,h2,h3,h4⟩
   match t,h1,h2,h3 with
   | c::t,h1,h2,h3=>
    refine⟨c,h3.1,?_⟩;rw[h3.2.1];exact ih.2 ⟨t,by simpa using h1,by rw[h2];simp,h3.2.2,h4⟩
theorem QGl{l t:List α}:QBn C ok l t↔∀ i (h:i<t.length),t[i]∈C (l++t.take i)/\ok (l++t.take i) t[i]=true:=by
 induction t generalizing l with
 | nil=>simp[QBn]
 | cons c t ih=>
  simp only[QBn,ih];constructor
  .rintro⟨h1,h2,h3⟩ i hi;cases i with
   | zero=>simpa using ⟨h1,h2⟩
   | succ i=>
    have:=h3 i (by simpa using hi)
    simpa[List.append_assoc]using this
  .intro h;have h0:=h 0 (by simp)
   refine⟨by simpa using h0.1,by simpa using h0.2,λi hi=>?_⟩
   have:=h (i+1) (by simpa using hi)
   simpa[List.append_assoc]using this
end
