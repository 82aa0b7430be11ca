/- - -/
import Derived.Test.YtekbmehgcofnkaaGreatVzu
import Derived.Test.YtekbmehgcofnkaaGreatVzt
import Derived.Test.YtekbmehgcofnkaaGreatVr
open Go.Proofs.Tryz
set_option maxRecDepth 100000
namespace Go.SX
open Go Go.RowKit Go.ChangeShapes Go.WideShapes Go.ChangeAt
variable {P:Program}{w:World}{r:Reach}{base:Nat}{t:TypeId}{v:Value}
theorem QXg{fs:Array Field}{ts:List TypeId}(ht:P.underlying t=some (.struct fs))(hc:P.cellTypes P.depth t=some ts)(hn:P.cellsOf t=ts.length)(h:Value.okWide P w r base t v):
  ∃ cs:List Value,v = .agg cs.toArray/\cs.length=ts.length/\∀(i:Nat) c,cs[i]? = some c->∃ u,ts[i]? = some u/\Cell.okWide P w r base u c:=by
 unfold Value.okWide at h;simp only[ht]at h;obtain⟨cs,rfl,hsz,ts',hc',_,hall⟩:=h;rw[hc]at hc';simp only[qsI]at hc';subst hc';have hl:cs.toList.length=ts.length:=by rw[Array.length_toList,hsz,hn]
 refine⟨cs.toList,rfl,hl,λi c hi=>?_⟩;have hlt:i<ts.length:=by rw[<-hl];exact(List.getElem?_eq_some_iff.1 hi).1
 obtain⟨u,hu,hok⟩:=hall i c (by rw[<-Array.getElem?_toList];exact hi)
 rw[Nat.mod_eq_of_lt hlt]at hu;exact⟨u,hu,hok⟩
theorem j8{k:IntKind}(ht:P.underlying t=some (.int k))(h:Cell.okWide P w r base t v):∃ n,v = .int k n:=
 okWide_int ht (by unfold Value.okWide;simp only[ht];exact h)
theorem QZ1(ht:P.underlying t=some .bool)(h:Cell.okWide P w r base t v):∃ b,v = .bool b:=by
 simp only[Cell.okWide,ht]at h;cases v<;>simp_all [Cell.ok]
theorem Qkw{e:TypeId}(ht:P.underlying t=some (.slice e))(h:Cell.okWide P w r base t v):Value.okWide P w r base t v:=by
 unfold Value.okWide;simp only[ht];exact h
section
variable {H:Type} {enc:TypeId×Value->H} {P:Program} {w:World} {base:Nat} {sp:Nat->Bool} {hd:Bool}
def QFJ(enc:TypeId×Value->H)(P:Program)(w:World)(base:Nat)(sp:Nat->Bool)(hd:Bool)(t:TypeId)(cs:List Value):Prop:=∃ fuel x,DataW.trod enc P w base sp hd fuel t cs=some x
theorem Qgo{t:TypeId}{fs:Array Field}{cs:List Value}(ht:P.underlying t=some (.struct fs))(h:QFJ enc P w base sp hd t cs){i:Nat}{f:Field}(hf:fs[i]? = some f):QFJ enc P w base sp hd f.type ((cs.drop f.offset).take (P.cellsOf f.type)):=by
 obtain⟨fuel,x,h⟩:=h;obtain⟨xs,n,_,_,_,hl,hx⟩:=DataW.trod_struct ht h;have hlt:i<xs.length:=by rw[hl];exact(Array.getElem?_eq_some_iff.1 hf).1
 exact⟨n,xs[i],by rw[hx i f hf,List.getElem?_eq_getElem hlt]⟩
theorem QbU{t:TypeId}{v:Value}{d:DataW H}{ps:List MemPlace}(h:DataW.Trod enc P w base sp hd t v d ps):QFJ enc P w base sp hd t v.cells.toList:=by
 obtain⟨fuel,h⟩:=h;exact⟨fuel,_,h⟩
theorem QZb{t:TypeId}{v:Value}(h:QFJ enc P w base sp hd t [v])(hv:v.cells.toList=[v]):∃ d ps,DataW.Trod enc P w base sp hd t v d ps:=by
 obtain⟨fuel,x,h⟩:=h;exact⟨x.1,x.2,fuel,by rw[hv];exact h⟩
end
end Go.SX
namespace Go.Proofs.YtekbmehgcofnkaaGreat
open Go Go.SX Go.RowKit Go.ChangeShapes Go.WideShapes Go.ChangeAt
variable {w:World}{base:Nat}{v:Value}
theorem QHr{H:Type}{enc:TypeId×Value->H}{d:DataW H}{ps:List MemPlace}(h:Value.okWide prog w .any base 28 v)(hd:DataW.Trod enc prog w 0 (λ_=>true) true 28 v d ps):
  ∃ (x:Puz) (l:Go.SX.Loc),∀(k:Nat) (r:Nat->Go.SX.Loc),r k=l->(Qg.val k x).den r=v/\∀ q∈Qg.blk k x,QN r q.1 w q.2:=by
 obtain⟨cs,rfl,hl,hc⟩:=QXg (ts:=[3,3,3,3,3,3,3,4,26]) underlying28 (by kernel_rfl) (by kernel_rfl) h
 have hT:=QbU hd
 match cs,hl with
 | [v0,v1,v2,v3,v4,v5,v6,v7,v8],_=>
  obtain⟨_,e0,h0⟩:=hc 0 v0 rfl;obtain⟨_,e1,h1⟩:=hc 1 v1 rfl;obtain⟨_,e2,h2⟩:=hc 2 v2 rfl;obtain⟨_,e3,h3⟩:=hc 3 v3 rfl;obtain⟨_,e4,h4⟩:=hc 4 v4 rfl;obtain⟨_,e5,h5⟩:=hc 5 v5 rfl;obtain⟨_,e6,h6⟩:=hc 6 v6 rfl;obtain⟨_,e7,h7⟩:=hc 7 v7 rfl;obtain⟨_,e8,h8⟩:=hc 8 v8 rfl;simp only[List.getElem?_cons_zero,List.getElem?_cons_succ,qsI]at e0 e1 e2 e3 e4 e5 e6 e7 e8;subst e0 e1 e2 e3 e4 e5 e6 e7 e8;obtain⟨n0,rfl⟩:=j8 underlying3 h0;obtain⟨n1,rfl⟩:=j8 underlying3 h1;obtain⟨n2,rfl⟩:=j8 underlying3 h2;obtain⟨n3,rfl⟩:=j8 underlying3 h3;obtain⟨n4,rfl⟩:=j8 underlying3 h4
  obtain⟨n5,rfl⟩:=j8 underlying3 h5;obtain⟨n6,rfl⟩:=j8 underlying3 h6;obtain⟨b7,rfl⟩:=QZ1 underlying4 h7;have h8:=Qkw underlying26 h8;have hT8:=Qgo (i:=4) underlying28 hT rfl
  have hs:∃ a len cap,v8 = .slice a len cap:=by
   obtain⟨oa,len,cap,rfl⟩:=okWide_slice underlying26 h8;exact⟨_,_,_,rfl⟩
  obtain⟨oa,len,cap,rfl⟩:=hs;obtain⟨d',ps',hd'⟩:=QZb (v := .slice oa len cap) hT8 rfl;obtain⟨x,L,hL⟩:=QI7 (α:=Qb) (m:=5) underlying26 (by kernel_rfl) (by kernel_rfl) h8 hd'
  refine⟨⟨⟨n0,n1,n2,⟨n3,n4⟩⟩,n5,n6,b7,x⟩,L,λk r hr=>⟨?_,(hL k r hr).2⟩⟩;have:=(hL k r hr).1;simp only[Qg.val,AV.den,AV.denL]at this ⊢;rw[this]
