/- - -/
import Derived.Test.YtekbmehgcofnkaaGreatMzn
namespace Go.Proofs.YtekbmehgcofnkaaGreat
open Go Go.SX Go.SX.Told
def QIS(s:SoS):List Lay×List Lay×Int×Int:=cond (s.1==0) ([],[],0,4) (s.2.1,s.2.2,s.1,0)
variable {d:Puz}{x:Lay}
theorem QOr(ho:d.ok=true):QX d=cond (JO d (QK d)).isEmpty ([],[],0,4) ((JO d (QK d)).getD 0 [],(JO d (QK d)).getD 1 [],((min (JO d (QK d)).length 100:Nat):Int),0):=by
 have h:=Qdt d (QK d);unfold QX;rw[ho,cond_true]
 have key:∀ r:Qd SoS,(match r with | .go s | .stop s=>cond (s.1==0) (([]:List Lay),([]:List Lay),(0:Int),(4:Int)) (s.2.1,s.2.2,s.1,0))=QIS (match r with | .go s | .stop s=>s):=by
  intro r;cases r<;>rfl
 refine((key _).trans (congrArg QIS h)).trans ?_;cases hs:JO d (QK d)with
 | nil=>rfl
 | cons a L=>
  have:(((min (a::L).length 100:Nat):Int)==0)=false:=by
   rw[beq_eq_false_iff_ne,List.length_cons];omega
  simp only[QIS,this,cond_false,List.isEmpty_cons]
structure QGS (d:Puz) (E:ECt) (l:List Lay):Prop where
 len:l.length=d.ps.n
 st:∀ i (h:i<l.length),l[i]∈Zs d/\ZT (l.take i) l[i]=false/\Q7 d E (l.take i) l[i]=true
theorem QAj{E:ECt}{l:List Lay}:l∈JO d E↔QGS d E l:=by
 unfold JO QBj;rw[QKz]
 have hk:∀ i (h:i<l.length),(zG QD1 d E ([]++l.take i) l[i]=true↔ZT (l.take i) l[i]=false/\Q7 d E (l.take i) l[i]=true):=by
  intro i h;unfold zG QD1;rw[List.nil_append,Bool.true_and,qbA,Bool.not_eq_true']
 constructor
 .rintro⟨t,h1,h2,h3,_⟩;rw[List.nil_append]at h2;subst h2;rw[QMt]at h3;exact⟨h1,λi h=>⟨(h3 i h).1,(hk i h).1 (h3 i h).2⟩⟩
 .intro h;refine⟨l,h.len,rfl,?_,rfl⟩;rw[QMt];exact λi hi=>⟨(h.st i hi).1,(hk i hi).2 (h.st i hi).2⟩
theorem QJF:x∈Zs d↔∃ p t:Nat,p<d.ps.n/\t<QZ d p/\x=⟨p,t⟩:=by
 unfold Zs;rw[List.mem_flatMap];constructor
 .rintro⟨p,hp,hx⟩;obtain⟨t,ht,rfl⟩:=List.mem_map.1 hx;exact⟨p,t,List.mem_range.1 hp,List.mem_range.1 ht,rfl⟩
 .rintro⟨p,t,hp,ht,rfl⟩;exact⟨p,List.mem_range.2 hp,List.mem_map.2 ⟨t,List.mem_range.2 ht,rfl⟩⟩
theorem Qai(d:Puz)(p:Nat):QZ d p<=4:=by
 unfold QZ tnV;cases d.turn&&decide (0<(p:Int))<;>decide
theorem QMd(h:x∈Zs d):KD d x:=by
 obtain⟨p,t,hp,ht,rfl⟩:=QJF.1 h;have:=Qai d p;exact⟨⟨by show(0:Int)<=p;omega,by show(p:Int)<_;omega⟩,by show(0:Int)<=t;omega,by show(t:Int)<=3;omega⟩
theorem QGS.lay{E:ECt}{l:List Lay}(h:QGS d E l){i:Nat}(hi:i<l.length):KD d l[i]:=QMd (h.st i hi).1
theorem QOm(h:KD d x){s:Int}(h0:0<=s):0<=onS x s/\onS x s<4:=by
 have:=h.t;exact⟨Int.tmod_nonneg 4 (by omega),Int.tmod_lt_of_pos _ (by decide)⟩
