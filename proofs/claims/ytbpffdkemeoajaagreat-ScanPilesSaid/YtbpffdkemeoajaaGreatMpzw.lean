/- - -/
import Derived.Test.YtbpffdkemeoajaaGreatMpzt
import Derived.Test.YtbpffdkemeoajaaGreatMpzv
import Derived.Test.YtbpffdkemeoajaaGreatMpr
import Derived.Test.YtbpffdkemeoajaaGreatMpt
open Go.Proofs.Tryz
set_option maxRecDepth 100000
namespace Go.SX
open Go Go.RowKit Go.ChangeShapes Go.WideShapes Go.ChangeAt
variable {P:Program}{w:World}{r:Reach}{base:Nat}{t:TypeId}{v:Value}
theorem Qgv{fs:Array Field}{ts:List TypeId}(ht:P.underlying t=some (.struct fs))(hc:P.cellTypes P.depth t=some ts)(hn:P.cellsOf t=ts.length)(h:Value.okWide P w r base t v):
  ∃ cs:List Value,v = .agg cs.toArray/\cs.length=ts.length/\∀(i:Nat) c,cs[i]? = some c->∃ u,ts[i]? = some u/\Cell.okWide P w r base u c:=by
 unfold Value.okWide at h;simp only[ht]at h;obtain⟨cs,rfl,hsz,ts',hc',_,hall⟩:=h;rw[hc]at hc';simp only[qsI]at hc';subst hc';have hl:cs.toList.length=ts.length:=by rw[Array.length_toList,hsz,hn]
 refine⟨cs.toList,rfl,hl,λi c hi=>?_⟩;have hlt:i<ts.length:=by rw[<-hl];exact(List.getElem?_eq_some_iff.1 hi).1
 obtain⟨u,hu,hok⟩:=hall i c (by rw[<-Array.getElem?_toList];exact hi)
 rw[Nat.mod_eq_of_lt hlt]at hu;exact⟨u,hu,hok⟩
theorem Wj{k:IntKind}(ht:P.underlying t=some (.int k))(h:Cell.okWide P w r base t v):∃ n,v = .int k n:=
 okWide_int ht (by unfold Value.okWide;simp only[ht];exact h)
theorem QgF(ht:P.underlying t=some .bool)(h:Cell.okWide P w r base t v):∃ b,v = .bool b:=by
 simp only[Cell.okWide,ht]at h;cases v<;>simp_all [Cell.ok]
theorem QEg{e:TypeId}(ht:P.underlying t=some (.slice e))(h:Cell.okWide P w r base t v):Value.okWide P w r base t v:=by
 unfold Value.okWide;simp only[ht];exact h
section
variable {H:Type} {enc:TypeId×Value->H} {P:Program} {w:World} {base:Nat} {sp:Nat->Bool} {hd:Bool}
def QDj(enc:TypeId×Value->H)(P:Program)(w:World)(base:Nat)(sp:Nat->Bool)(hd:Bool)(t:TypeId)(cs:List Value):Prop:=∃ fuel x,DataW.trod enc P w base sp hd fuel t cs=some x
theorem QB9{t:TypeId}{fs:Array Field}{cs:List Value}(ht:P.underlying t=some (.struct fs))(h:QDj enc P w base sp hd t cs){i:Nat}{f:Field}(hf:fs[i]? = some f):QDj enc P w base sp hd f.type ((cs.drop f.offset).take (P.cellsOf f.type)):=by
 obtain⟨fuel,x,h⟩:=h;obtain⟨xs,n,_,_,_,hl,hx⟩:=DataW.trod_struct ht h;have hlt:i<xs.length:=by rw[hl];exact(Array.getElem?_eq_some_iff.1 hf).1
 exact⟨n,xs[i],by rw[hx i f hf,List.getElem?_eq_getElem hlt]⟩
theorem Qa8{t:TypeId}{v:Value}{d:DataW H}{ps:List MemPlace}(h:DataW.Trod enc P w base sp hd t v d ps):QDj enc P w base sp hd t v.cells.toList:=by
 obtain⟨fuel,h⟩:=h;exact⟨fuel,_,h⟩
theorem QIx{t:TypeId}{v:Value}(h:QDj enc P w base sp hd t [v])(hv:v.cells.toList=[v]):∃ d ps,DataW.Trod enc P w base sp hd t v d ps:=by
 obtain⟨fuel,x,h⟩:=h;exact⟨x.1,x.2,fuel,by rw[hv];exact h⟩
end
end Go.SX
namespace Go.Proofs.YtbpffdkemeoajaaGreat
open Go Go.SX Go.RowKit Go.ChangeShapes Go.WideShapes Go.ChangeAt
variable {w:World}{base:Nat}{v:Value}
theorem QX6{H:Type}{enc:TypeId×Value->H}{d:DataW H}{ps:List MemPlace}(h:Value.okWide prog w .any base 31 v)(hd:DataW.Trod enc prog w 0 (λ_=>true) true 31 v d ps):
  ∃ (x:QD) (l1 l2 l3:Go.SX.Loc),∀(k:Nat) (r:Nat->Go.SX.Loc),r k=l1->r (k+1)=l2->r (k+2)=l3->(AV.agg (K2 k x)).den r=v/\∀ q∈JC k x,QR r q.1 w q.2:=by
 obtain⟨cs,rfl,hl,hc⟩:=Qgv (ts:=[3,3,3,3,3,3,3,4,26,26,29,3,3]) underlying31 (by kernel_rfl) (by kernel_rfl) h
 have hT:=Qa8 hd
 match cs,hl with
 | [v0,v1,v2,v3,v4,v5,v6,v7,v8,v9,v10,v11,v12],_=>
  obtain⟨_,e0,h0⟩:=hc 0 v0 rfl;obtain⟨_,e1,h1⟩:=hc 1 v1 rfl;obtain⟨_,e2,h2⟩:=hc 2 v2 rfl;obtain⟨_,e3,h3⟩:=hc 3 v3 rfl;obtain⟨_,e4,h4⟩:=hc 4 v4 rfl;obtain⟨_,e5,h5⟩:=hc 5 v5 rfl;obtain⟨_,e6,h6⟩:=hc 6 v6 rfl;obtain⟨_,e7,h7⟩:=hc 7 v7 rfl;obtain⟨_,e8,h8⟩:=hc 8 v8 rfl;obtain⟨_,e9,h9⟩:=hc 9 v9 rfl;obtain⟨_,e10,h10⟩:=hc 10 v10 rfl;obtain⟨_,e11,h11⟩:=hc 11 v11 rfl;obtain⟨_,e12,h12⟩:=hc 12 v12 rfl;simp only[List.getElem?_cons_zero,List.getElem?_cons_succ,qsI]at e0 e1 e2 e3 e4 e5 e6 e7 e8 e9 e10 e11 e12;subst e0 e1 e2 e3 e4 e5 e6 e7 e8 e9 e10 e11 e12;obtain⟨n0,rfl⟩:=Wj underlying3 h0
  obtain⟨n1,rfl⟩:=Wj underlying3 h1;obtain⟨n2,rfl⟩:=Wj underlying3 h2;obtain⟨n3,rfl⟩:=Wj underlying3 h3;obtain⟨n4,rfl⟩:=Wj underlying3 h4;obtain⟨n5,rfl⟩:=Wj underlying3 h5;obtain⟨n6,rfl⟩:=Wj underlying3 h6;obtain⟨b7,rfl⟩:=QgF underlying4 h7;obtain⟨n11,rfl⟩:=Wj underlying3 h11;obtain⟨n12,rfl⟩:=Wj underlying3 h12;have h8:=QEg underlying26 h8;have h9:=QEg underlying26 h9;have h10:=QEg underlying29 h10;have hTd:=QB9 (i:=0) underlying31 hT rfl;have hT8:=QB9 (i:=4) underlying28 hTd rfl
  have hT9:=QB9 (i:=1) underlying31 hT rfl;have hT10:=QB9 (i:=2) underlying31 hT rfl
  have hs8:∃ a len cap,v8 = .slice a len cap:=by
   obtain⟨oa,len,cap,rfl⟩:=okWide_slice underlying26 h8;exact⟨_,_,_,rfl⟩
  have hs9:∃ a len cap,v9 = .slice a len cap:=by
   obtain⟨oa,len,cap,rfl⟩:=okWide_slice underlying26 h9;exact⟨_,_,_,rfl⟩
  have hs10:∃ a len cap,v10 = .slice a len cap:=by
   obtain⟨oa,len,cap,rfl⟩:=okWide_slice underlying29 h10;exact⟨_,_,_,rfl⟩
  obtain⟨oa,len,cap,rfl⟩:=hs8;obtain⟨oa',len',cap',rfl⟩:=hs9;obtain⟨ob,len2,cap2,rfl⟩:=hs10;obtain⟨d',ps',hd'⟩:=QIx (v := .slice oa len cap) hT8 rfl;obtain⟨d2,ps2,hd2⟩:=QIx (v := .slice oa' len' cap') hT9 rfl;obtain⟨d3,ps3,hd3⟩:=QIx (v := .slice ob len2 cap2) hT10 rfl;obtain⟨x,L,hL⟩:=QGY (α:=QQ) (m:=5) underlying26 (by kernel_rfl) (by kernel_rfl) h8 hd'
  obtain⟨x2,L2,hL2⟩:=QGY (α:=QQ) (m:=5) underlying26 (by kernel_rfl) (by kernel_rfl) h9 hd2
  obtain⟨x3,L3,hL3⟩:=QGY (α:=Jn) (m:=5) underlying29 (by kernel_rfl) (by kernel_rfl) h10 hd3
  refine⟨⟨⟨⟨n0,n1,n2,⟨n3,n4⟩⟩,n5,n6,b7,x⟩,x2,x3,n11,n12⟩,L,L2,L3,λk r hr1 hr2 hr3=>⟨?_,λq hq=>?_⟩⟩
  .have g1:=(hL k r hr1).1;have g2:=(hL2 (k+1) r hr2).1;have g3:=(hL3 (k+2) r hr3).1;simp only[KD.val,AV.den,AV.denL,K2]at g1 g2 g3 ⊢;rw[g1,g2,g3]
  .simp only[JC,List.mem_append]at hq;rcases hq with hq|hq|hq
   .exact(hL k r hr1).2 q hq
   .exact(hL2 (k+1) r hr2).2 q hq
   .exact(hL3 (k+2) r hr3).2 q hq
