/- - -/
import Derived.Test.YtekbmehgcofnkaaGreatVz
open Go.Proofs.Tryz
namespace Go.SX
open Go Go.RowKit Go.Sort Go.Proofs Go.Proofs.YtekbmehgcofnkaaGreat
section
variable {α:Type}
theorem QEi[Inhabited α](enc:α->List Value)(k:Nat)(hk:∀ x,(enc x).length=k):∀(l:List α) (t:Nat),t<l.length*k->(l.flatMap enc)[t]? = some ((enc l[t / k]!)[t % k]!)
 | [],t,h=>by simp at h
 | x::l,t,h=>by
  rw[List.length_cons,Nat.succ_mul]at h
  have hk0:0<k:=by
   rcases Nat.eq_zero_or_pos k with h0|h0
   .subst h0;simp at h
   .exact h0
  rw[List.flatMap_cons]
  by_cases ht:t<k
  .have h1:t<(enc x).length:=by rw[hk];exact ht
   rw[List.getElem?_append_left h1,Nat.div_eq_of_lt ht,Nat.mod_eq_of_lt ht,List.getElem?_eq_getElem h1];show some _=some ((enc x)[t]!);rw[getElem!_pos (enc x) t h1]
  .have e1:t / k=(t-k) / k+1:=by
    rw[<-Nat.add_div_right _ hk0,Nat.sub_add_cancel (by omega)]
   have e2:t % k=(t-k) % k:=by
    conv=>lhs;rw[show t=t-k+k by omega]
    rw[Nat.add_mod_right]
   rw[List.getElem?_append_right (by rw[hk];omega),hk,QEi enc k hk l (t-k) (by omega),e1,e2]
   rfl
theorem jU(enc:α->List Value)(k:Nat)(hk:∀ x,(enc x).length=k):∀ l:List α,(l.flatMap enc).length=l.length*k
 | []=>by simp
 | x::l=>by rw[List.flatMap_cons,List.length_append,hk,jU enc k hk l,List.length_cons,Nat.succ_mul];omega
theorem QSE[Inhabited α](enc:α->List Value)(k:Nat)(hk:∀ x,(enc x).length=k)(l:List α):(flatK enc k l.toArray).toList=l.flatMap enc:=by
 apply List.ext_getElem?;intro t
 by_cases h:t<l.length*k
 .rw[QEi enc k hk l t h];have hs:t<(flatK enc k l.toArray).size:=by rw[size_flatK];simpa using h
  rw[Array.getElem?_toList,Array.getElem?_eq_getElem hs,<-getElem!_pos (flatK enc k l.toArray) t hs,get_flatK enc k _ t (by simpa using h)]
  simp
 .rw[List.getElem?_eq_none (by rw[Array.length_toList,size_flatK];simpa using h),List.getElem?_eq_none (by rw[jU enc k hk];omega)]
end
theorem QUD(F A rest:List Value)(h:A.length=F.length):putCells id 0 F.toArray (A++rest).toArray=(F++rest).toArray:=by
 apply Array.ext';apply List.ext_getElem?;intro t;unfold putCells;rw[Array.getElem?_toList,Array.getElem?_mapIdx];simp only[Nat.zero_le,true_and,Nat.zero_add,Nat.sub_zero,List.size_toArray,id,List.getElem?_toArray]
 by_cases ht:t<F.length
 .rw[List.getElem?_append_left (by omega),List.getElem?_append_left ht,List.getElem?_eq_getElem (by omega),List.getElem?_eq_getElem ht]
  simp[ht]
 .rw[List.getElem?_append_right (by omega),List.getElem?_append_right (by omega),h]
  simp[ht]
theorem QPb{w w':World}(h:Fr w w' λ_=>False):∃ q os,w'=grow (w.drewN q) os:=by
 refine⟨w'.drawn-w.drawn,w'.heap.extract w.heap.size w'.heap.size,?_⟩;have h1:=h.os;have h2:=h.tape;have h3:=h.output;have h4:=h.size;have h5:=h.drawn;have hb:=h.block;obtain⟨hp,tp,dr,os,out⟩:=w;obtain⟨hp',tp',dr',os',out'⟩:=w';simp only at h1 h2 h3 h4 h5 hb;subst h1 h2 h3
 have hh:hp'=hp++hp'.extract hp.size hp'.size:=by
  apply Array.ext';apply List.ext_getElem?;intro k;rw[Array.getElem?_toList,Array.getElem?_toList]
  by_cases hk:k<hp.size
  .rw[Array.getElem?_append_left hk];exact hb k hk (λh=>h)
  .rw[Array.getElem?_append_right (by omega),Array.getElem?_extract]
   by_cases hk2:k<hp'.size
   .rw[if_pos (by omega),show hp.size+(k-hp.size)=k by omega]
   .rw[if_neg (by omega),Array.getElem?_eq_none (by omega)]
 unfold grow World.drewN;simp only[World.mk.injEq];refine⟨hh,trivial,?_,trivial,trivial⟩;show dr'=dr+(dr'-dr);omega
end Go.SX
namespace Go.Proofs.YtekbmehgcofnkaaGreat
open Go Go.RowKit Go.Lib Go.Shelf Go.Sort Go.SX Go.SX.Told
instance : Inhabited Jn := ⟨⟨0,0,0,0⟩⟩
def JP(x:Jn):List Value:=[.int .i64 x.a,.int .i64 x.i,.int .i64 x.b,.int .i64 x.j]
def Yj(g:Nat->Nat->Int)(i:Nat):Jn:=⟨g i 0,g i 1,g i 2,g i 3⟩
def Jd(l:List Jn):List Jn:=l.mergeSort λx y=>!(ltOf Vx) y x
def ZW(n:Nat)(g:Nat->Nat->Int)(i:Nat):Nat->Int:=QA.enc ((Jd ((List.range n).map (Yj g))).getD i ⟨0,0,0,0⟩)
def ksJ:List CK:=[.int .i64,.int .i64,.int .i64,.int .i64]
theorem QT8(x y:Int):Jh x y<0↔x<y:=by
 unfold Jh
 by_cases h:x<y
 .simp[h]
 .by_cases h2:y<x<;>simp[h,h2]
theorem QMK(x y:Int):Jh x y=0↔x=y:=by
 unfold Jh
 by_cases h:x<y
 .simp[h];omega
 .by_cases h2:y<x<;>simp[h,h2]<;>omega
theorem QPc(x y:Int):orI x y<0↔x<0∨(x=0/\y<0):=by
 unfold orI
 by_cases h:x=0
 .subst h;simp
 .have h2:(x != 0)=true:=by simpa using h
  simp[h,h2]
theorem Zc(x y:Jn):Vx x y<0↔x.a<y.a∨(x.a=y.a/\(x.i<y.i∨(x.i=y.i/\(x.b<y.b∨(x.b=y.b/\x.j<y.j))))):=by
 unfold Vx;simp only[QPc,QT8,QMK]
theorem QBD:SWO (ltOf Vx) where
 irrefl x:=by simp only[ltOf,decide_eq_false_iff_not,Zc];omega
 trans x y z h1 h2:=by simp only[ltOf,qdE,Zc]at *;omega
 ntrans x y z h1 h2:=by simp only[ltOf,decide_eq_false_iff_not,Zc]at *;omega
theorem QUY(x y:Jn)(h1:(ltOf Vx) x y=false)(h2:(ltOf Vx) y x=false):x=y:=by
 simp only[ltOf,decide_eq_false_iff_not,Zc]at h1 h2;obtain⟨a,i,b,j⟩:=x;obtain⟨a',i',b',j'⟩:=y;simp only[Jn.mk.injEq]at *;omega
theorem Qaf(blk off size:Nat)(w:World):CmpLays prog 131 #[] JP 4 Vx blk off size w:=by
 intro m os dk _ x y;generalize sortWorldK JP 4 w blk off m dk os=W;have h:=Qh1.2 [Enc.enc x,Enc.enc y] 0 [] (λ_=>SX.Loc.none 0) W (λ_=>none) [] ⟨false,true,.int false .i64 (Vx x y),[]⟩ ⟨λ_ _ h=>(by cases h),λ_ _ h=>(by cases h),λ_ _ h=>(by cases h),λ_ _ _ _ h=>(by cases h)⟩ rfl rfl rfl rfl
 refine h.mono ?_;rintro e w' ⟨r',rfl,hp⟩;refine⟨rfl,QPb ?_⟩;have hf:=hp.fr;refine⟨hf.os,hf.tape,hf.output,hf.size,hf.drawn,λk hk _=>hf.block k hk ?_⟩;rintro⟨p,hp,_⟩;cases hp
theorem QTf(r:Nat->SX.Loc)(n:Nat)(g:Nat->Nat->Int):AV.denL r (Q9 n (QY ksJ g)).flatten=((List.range n).map (Yj g)).flatMap JP:=by
 rw[Qy,Q9,<-List.flatMap_def,List.map_flatMap,List.flatMap_map];rfl
theorem QlI(r:Nat->SX.Loc)(n:Nat)(g:Nat->Nat->Int):AV.denL r (Q9 n (QY ksJ (ZW n g))).flatten=(Jd ((List.range n).map (Yj g))).flatMap JP:=by
 rw[QTf];congr 1;have hl:(Jd ((List.range n).map (Yj g))).length=n:=by unfold Jd;rw[List.length_mergeSort];simp
 apply List.ext_getElem
 .rw[hl];simp
 .intro i h1 h2;rw[List.getElem_map,List.getElem_range];exact(show Yj (ZW n g) i=(Jd ((List.range n).map (Yj g))).getD i ⟨0,0,0,0⟩from rfl).trans (Jb h2)
