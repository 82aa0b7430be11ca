/- - -/
import Derived.Test.YtekbmehgcofnkaaGreatVzg
set_option linter.all false
noncomputable section
open Go.Proofs.Tryz
open Go.IntKind (i64)
set_option maxRecDepth 100000
namespace Go.Proofs.YtekbmehgcofnkaaGreat
open Go.SX Go.SX.Told
def eqJ(x y:Jn):Bool:=x.a==y.a&&(x.i==y.i&&(x.b==y.b&&(x.j==y.j&&true)))
variable (L:List Jn)(pb:List Prop->Bool)(d:Puz)(o:List Jn)(x:Jn)(E:ECt)(i:Nat)(v:Int)(w0:List Jn)(ac body:Code)(u':Nat->Nat->Int)(l2 l:List Lay)(u:Nat->Nat->Int)(p:Nat)(u2:Nat->Nat->Int)(f' f:List Jn)(t:Nat)(tn:Int)
def atJ:Jn:=L.getD i ⟨0,0,0,0⟩
def jnC:List AV:=[vi x.a,vi x.i,vi x.b,vi x.j]
def frJ(id:Nat)(L:List Jn):Nat×Blk:=(id,.frz [.int .i64,.int .i64,.int .i64,.int .i64] L.length λi=>QA.enc (L.getD i ⟨0,0,0,0⟩))
def jiB:List (Nat×Blk):=[(16,.cellsR 0 67 (jnC x)),frJ 8 L]
def jiU:UC:=⟨0,⟨2,[(0,.slz 8 0 L.length (.of 0)),(1,.fn (.func 93) [.ptr 16 0 0])],jiB L x,24⟩,λ_=>.int false .i64 v,λ_=>[]⟩
def jiJ(k:Nat):JSt:=⟨19,[(0,.slz 8 0 L.length (.of 0)),(1,.fn (.func 93) [.ptr 16 0 0]),(7,.int false .i64 L.length),(8,.int false .i64 k)],jiB L x,24⟩
abbrev zr:List CK:=(List.append (waJ) ([.int .i64]))
abbrev QJZ:Nat×Blk:=(16,.cellsR 0 67 [vi x.a,vi x.i,vi x.b,vi x.j])
theorem QbK(k:Nat)(g:Nat->Value):exec (mkE prog QV) (hnd (mkE prog QV) 2) (QI f135 0) (JSt.inst (jiJ L x k) g) (Q5 [] QFi) = .br (decide ((k:Int)<(L.length:Int))) (.need (decide ((0:Int)<=(k:Int)/\(k:Int)<(L.length:Int))&&decide (L.length<=L.length)) (.need (decide (k<L.length)) (.br (x.a==(L.getD k (Jn.mk (0:Int) (0:Int) (0:Int) (0:Int))).a&&(x.i==(L.getD k (Jn.mk (0:Int) (0:Int) (0:Int) (0:Int))).i&&(x.b==(L.getD k (Jn.mk (0:Int) (0:Int) (0:Int) (0:Int))).b&&(x.j==(L.getD k (Jn.mk (0:Int) (0:Int) (0:Int) (0:Int))).j&&true)))) (.leaf (.tup [.nili,.ptr 19 0 0,vi (k:Int)]) ([])) (.leaf (.tup [.nilp,.ptr 19 0 0,.slz 8 0 L.length cO,.fn (Fn.func 93) [.ptr 16 0 0],vi (L.length:Int),vi (i64.wrap ((k:Int)+1))]) ([(8,.frz zr L.length λi=>QA.enc (L.getD i (Jn.mk (0:Int) (0:Int) (0:Int) (0:Int)))),(QJZ x)]))))) (.leaf (.tup [.ptr 0 0 0,.ptr 19 0 0]) ([])):=by kernel_rfl
theorem Qgk(k:Nat)(j:Int):QF 24 [vi (↑k:Int)] ([]) (ZE j)=( some [(↑k:Int)=j]):=by kernel_rfl
theorem Qa6(k k':Nat):QF 24 [AV.slz (8:Nat) (0:Nat) L.length cO,AV.fn (Fn.func (93:Nat)) [AV.ptr (16:Nat) (0:Nat) (0:Nat)],vi (↑L.length:Int),vi (i64.wrap ((↑k:Int)+(1:Int)))] ([((8:Nat),Blk.frz [CK.int i64,CK.int i64,CK.int i64,CK.int i64] L.length λi=>QA.enc (L.getD i (Jn.mk (0:Int) (0:Int) (0:Int) (0:Int)))),((16:Nat),Blk.cellsR (0:Nat) (67:Nat) [vi x.a,vi x.i,vi x.b,vi x.j])]) (jiJ L x k')=( some [0=0,L.length=L.length,cO=cO,Fn.func (93:Nat)=Fn.func (93:FuncId),0=0,0=0, (↑L.length:Int)=(↑L.length:Int),i64.wrap ((↑k:Int)+(1:Int))=(↑k':Int),x.a=x.a,x.i=x.i,x.b=x.b,x.j=x.j,L.length<=L.length,QB (4:Nat) L.length (λi=>QA.enc (L.getD i (Jn.mk (0:Int) (0:Int) (0:Int) (0:Int)))) λi=>QA.enc (L.getD i (Jn.mk (0:Int) (0:Int) (0:Int) (0:Int)))]):=by kernel_rfl
theorem Qix :QF 24 [] ([]) qc=( some []):=by kernel_rfl
abbrev jiH(P:Program)(L:List Jn)(x:Jn)(X:List (Prop×Ex×JSt)):Hnd:={ hnd (mkE P QV) 2 with loop:=λ_=>KF 24 [] (jiJ L x (0:Nat)) X }
theorem Qiv(A B:Prop)(k v:Int):VK (mkE prog QV) (jiH prog L x [(A,.ret,ZE k),(B,.exit 0,qc)]) f135 (jiU L x v)=QC.ask (0=0) (QC.ask (L.length=L.length) (QC.ask (cO=cO) (QC.ask (Fn.func (93:FuncId)=Fn.func (93:FuncId)) (QC.ask (0=0) (QC.ask (0=0) (QC.ask ((↑L.length:Int)=(↑L.length:Int)) (QC.ask ((0:Int)=(0:Int)) (QC.ask (x.a=x.a) (QC.ask (x.i=x.i) (QC.ask (x.b=x.b) (QC.ask (x.j=x.j) (QC.ask (L.length<=L.length) (QC.ask (QB (4:Nat) L.length (λi=>QA.enc (L.getD i (Jn.mk (0:Int) (0:Int) (0:Int) (0:Int)))) λi=>QA.enc (L.getD i (Jn.mk (0:Int) (0:Int) (0:Int) (0:Int)))) (QC.both (QC.asm (A) (QC.all (λ(g0:Nat->Value)=>QC.leaf (vi k) ([])))) (QC.asm (B) (QC.all (λ(g1:Nat->Value)=>QC.leaf (vj (-1:Int)) ([])))))))))))))))))):=by kernel_rfl
theorem QZJ(k v:Int):QF 24 [(vi k)] ([]) (KX (jiU L x v))=( some [k=v]):=by kernel_rfl
theorem QjR:QF 24 [(vj (-1:Int))] ([]) (KX (jiU L x v))=( some [(-1:Int)=v]):=by kernel_rfl
def dlJ(o:List Jn)(i j:Nat):JSt:=⟨42,[(0,.slz 32 0 o.length (.of 0)),(1,.fn (.func 93) [.ptr 16 0 0]),(5,.int false .i64 i),(6,.int false .i64 j)],[(16,.cellsR 0 67 (jnC x)),rwJ true 32 o],40⟩
def dlE:JSt:=⟨42,[(0,.slz 32 0 o.length (.of 0)),(5,.int false .i64 i)],[rwJ true 32 o],40⟩
def QOP:Ex->List Nat
 | .normal=>[0,1,5,6]
 | .exit _=>[0,5]
 | .ret=>[]
abbrev QR0(j:Nat)(o:List Jn):List AV:=[vi (o.getD j (Jn.mk (0:Int) (0:Int) (0:Int) (0:Int))).a,vi (o.getD j (Jn.mk (0:Int) (0:Int) (0:Int) (0:Int))).i,vi (o.getD j (Jn.mk (0:Int) (0:Int) (0:Int) (0:Int))).b,vi (o.getD j (Jn.mk (0:Int) (0:Int) (0:Int) (0:Int))).j]
abbrev QR5(j:Nat)(o:List Jn)(x:Jn):List (Nat×Blk):=[(32,.rowz true 67 zr o.length λi_1=>bif decide (i_1=i)then Ki (QR0 j o) 0 (QA.enc (o.getD i (Jn.mk (0:Int) (0:Int) (0:Int) (0:Int))))else QA.enc (o.getD i_1 (Jn.mk (0:Int) (0:Int) (0:Int) (0:Int)))),(QJZ x)]
theorem QYW(o:List Jn)(i j:Nat)(g:Nat->Value):exec (mkE prog QV) (hnd (mkE prog QV) 2) (QI f92 0) (JSt.inst (dlJ x o i j) g) (Q5 [] QOP) = .br (decide ((j:Int)<(o.length:Int))) (.need (decide ((0:Int)<=(j:Int)/\(j:Int)<(o.length:Int))&&decide (o.length<=o.length)) (.need (decide (j<o.length)) (.br (!(x.a==(o.getD j (Jn.mk (0:Int) (0:Int) (0:Int) (0:Int))).a&&(x.i==(o.getD j (Jn.mk (0:Int) (0:Int) (0:Int) (0:Int))).i&&(x.b==(o.getD j (Jn.mk (0:Int) (0:Int) (0:Int) (0:Int))).b&&(x.j==(o.getD j (Jn.mk (0:Int) (0:Int) (0:Int) (0:Int))).j&&true))))) (.need (decide ((0:Int)<=(i:Int)/\(i:Int)<(o.length:Int))&&decide (o.length<=o.length)) (.need (decide (i<o.length)) (.leaf (.tup [.nilp,.ptr 42 0 0,.slz 32 0 o.length cO,.fn (Fn.func 93) [.ptr 16 0 0],vi (i64.wrap ((i:Int)+1)), vi (i64.wrap ((j:Int)+1))]) ((QR5 i j o x))))) (.leaf (.tup [.nilp,.ptr 42 0 0,.slz 32 0 o.length cO,.fn (Fn.func 93) [.ptr 16 0 0],vi (i:Int),vi (i64.wrap ((j:Int)+1))]) ([(32,.rowz true 67 zr o.length λi=>QA.enc (o.getD i (Jn.mk (0:Int) (0:Int) (0:Int) (0:Int)))),(QJZ x)]))))) (.leaf (.tup [.ptr 0 0 0,.ptr 42 0 0,.slz 32 0 o.length cO,vi (i:Int)]) ([(32,.rowz true 67 zr o.length λi=>QA.enc (o.getD i (Jn.mk (0:Int) (0:Int) (0:Int) (0:Int))))])):=by kernel_rfl
theorem Qfm(o o':List Jn)(i j i' j':Nat):QF 24 [.slz 32 0 o.length cO,.fn (Fn.func 93) [.ptr 16 0 0],vi (i64.wrap ((i:Int)+1)),vi (i64.wrap ((j:Int)+1))] ((QR5 i j o x)) (dlJ x o' i' j')=(some [0=0,o.length=o'.length,cO=cO,Fn.func 93=Fn.func (93:FuncId),0=0,0=0,i64.wrap ((i:Int)+1)=(i':Int),i64.wrap ((j:Int)+1)=(j':Int),x.a=x.a,x.i=x.i,x.b=x.b,x.j=x.j,o'.length<=o.length,QB 4 o'.length (λi_1=>bif decide (i_1=i)then Ki (QR0 j o) 0 (QA.enc (o.getD i (Jn.mk (0:Int) (0:Int) (0:Int) (0:Int))))else QA.enc (o.getD i_1 (Jn.mk (0:Int) (0:Int) (0:Int) (0:Int)))) λi=>QA.enc (o'.getD i (Jn.mk (0:Int) (0:Int) (0:Int) (0:Int)))]):=by kernel_rfl
abbrev wbA(o:List Jn):List Prop:=[o.length<=o.length,QB (4:Nat) o.length (λi=>QA.enc (o.getD i (Jn.mk (0:Int) (0:Int) (0:Int) (0:Int)))) λi=>QA.enc (o.getD i (Jn.mk (0:Int) (0:Int) (0:Int) (0:Int)))]
theorem QYg(o:List Jn)(i j j':Nat):QF 24 [AV.slz (32:Nat) (0:Nat) o.length cO,AV.fn (Fn.func (93:Nat)) [AV.ptr (16:Nat) (0:Nat) (0:Nat)],vi (↑i:Int),vi (i64.wrap ((↑j:Int)+(1:Int)))] ([((32:Nat),Blk.rowz true (67:Nat) [CK.int i64,CK.int i64,CK.int i64,CK.int i64] o.length λi=>QA.enc (o.getD i (Jn.mk (0:Int) (0:Int) (0:Int) (0:Int)))),((16:Nat),Blk.cellsR (0:Nat) (67:Nat) [vi x.a,vi x.i,vi x.b,vi x.j])]) (dlJ x o i j')=( some ([0=0,o.length=o.length,cO=cO,Fn.func (93:Nat)=Fn.func (93:FuncId),0=0,0=0,(↑i:Int)=(↑i:Int),i64.wrap ((↑j:Int)+(1:Int))=(↑j':Int),x.a=x.a,x.i=x.i,x.b=x.b,x.j=x.j]++wbA o)):=by kernel_rfl
theorem QXG(i:Nat):QF 24 [AV.slz (32:Nat) (0:Nat) o.length cO,vi (↑i:Int)] ([((32:Nat),Blk.rowz true (67:Nat) [CK.int i64,CK.int i64,CK.int i64,CK.int i64] o.length λi=>QA.enc (o.getD i (Jn.mk (0:Int) (0:Int) (0:Int) (0:Int))))]) (dlE o i)=( some ([0=0,o.length=o.length,cO=cO,(↑i:Int)=(↑i:Int)]++wbA o)):=by kernel_rfl
def zD(L:List Jn)(x:Jn)(v:Int):Tab:=Qc QV 135 (KT pb (jiU L x v))
def Z6(w:List Jn):UC:=⟨0,⟨2,[(0,.slz 8 0 L.length (.of 0)),(1,.fn (.func 93) [.ptr 16 0 0])],[rwJ true 8 L,(16,.cellsR 0 67 (jnC x))],24⟩,λm=>.slz m 0 w.length (.of 0),λm=>[rwJ true m w]⟩
abbrev dlH(P:Program)(pb:List Prop->Bool)(L:List Jn)(x:Jn)(v:Int)(i0:Nat)(X:List (Prop×Ex×JSt)):Hnd:={ hnd (mkE P (zD pb L x v)) 2 with loop:=λ_=>Ks (i0<L.length) (KF 24 [] (dlJ x L i0 (i0+1)) X) }
abbrev wbv(L:List Jn)(x:Jn):List Prop:=[x.a=x.a,x.i=x.i,x.b=x.b,x.j=x.j,L.length<=L.length,QB 4 L.length (λi=>QA.enc (L.getD i (Jn.mk (0:Int) (0:Int) (0:Int) (0:Int)))) λi=>QA.enc (L.getD i (Jn.mk (0:Int) (0:Int) (0:Int) (0:Int)))]
theorem QgL(L:List Jn)(x:Jn)(v:Int)(i0:Nat)(o':List Jn)(i':Nat)(w:List Jn):VK (mkE prog (zD pb L x v)) (dlH prog pb L x v i0 [(True,.exit 0,dlE o' i')]) f92 (Z6 L x w) = .need (pb (([0=0,L.length=L.length,cO=cO,Fn.func 93=Fn.func 93,0=0,0=0]++wbv L x))) (.br (v == -1) (.leaf (.slz 8 0 L.length cO) ([(8,.rowz true 67 zr L.length λi=>QA.enc (L.getD i (Jn.mk (0:Int) (0:Int) (0:Int) (0:Int))))])) (.ak ([i0<L.length,0=0,L.length=L.length,cO=cO,Fn.func (93:FuncId)=Fn.func (93:FuncId),0=0,0=0,v=(i0:Int),i64.wrap (v+1)=(↑(i0+1):Int)]++wbv L x) (.asm (True) (.all (λ(g0:Nat->Value)=>.need (decide ((0:Int)<=(i':Int)/\i'<=o'.length/\i'<o'.length-0)) (.need (decide (0+i'+(o'.length-i')<=o'.length/\0<o'.length)) (.need (decide ((0:Int)<=(i':Int)/\i'<=o'.length-0)) (.leaf (.slz 32 0 i' cO) ([(32,.rowz true 67 zr o'.length λi=>bif decide (0+i'<=i/\i<0+i'+(o'.length-i'))then λx=>(0:Int)else QA.enc (o'.getD i (Jn.mk (0:Int) (0:Int) (0:Int) (0:Int))))]))))))))):=by kernel_rfl
theorem QfJ(w:List Jn):QF 24 [(AV.slz (8:Nat) (0:Nat) L.length cO)] ([((8:Nat),Blk.rowz true (67:Nat) [CK.int i64,CK.int i64,CK.int i64,CK.int i64] L.length λi=>QA.enc (L.getD i (Jn.mk (0:Int) (0:Int) (0:Int) (0:Int))))]) (KX (Z6 L x w))=( some [0=0,L.length=w.length,cO=cO,w.length<=L.length,QB (4:Nat) w.length (λi=>QA.enc (L.getD i (Jn.mk (0:Int) (0:Int) (0:Int) (0:Int)))) λi=>QA.enc (w.getD i (Jn.mk (0:Int) (0:Int) (0:Int) (0:Int)))]):=by kernel_rfl
theorem QWZ(x:Jn)(o':List Jn)(i':Nat)(w:List Jn):QF 24 [(AV.slz (32:Nat) (0:Nat) i' cO)] ([((32:Nat),Blk.rowz true (67:Nat) [CK.int i64,CK.int i64,CK.int i64,CK.int i64] o'.length λi=>bif decide ((0:Nat)+i'<=i/\i<(0:Nat)+i'+(o'.length-i'))then λx=>(0:Int)else QA.enc (o'.getD i (Jn.mk (0:Int) (0:Int) (0:Int) (0:Int))))]) (KX (Z6 L x w))=( some [0=0,i'=w.length,cO=cO,w.length<=o'.length,QB (4:Nat) w.length (λi=>bif decide ((0:Nat)+i'<=i/\i<(0:Nat)+i'+(o'.length-i'))then λx=>(0:Int)else QA.enc (o'.getD i (Jn.mk (0:Int) (0:Int) (0:Int) (0:Int)))) λi=>QA.enc (w.getD i (Jn.mk (0:Int) (0:Int) (0:Int) (0:Int)))]):=by kernel_rfl
theorem QAY{p:Nat->Bool}:∀{m k i:Nat},QR p m k=some i->k<=i/\i<k+m/\p i=true/\∀ j,k<=j->j<i->p j=false
 | 0,k,i,h=>by cases h
 | m+1,k,i,h=>by
  simp only[QR]at h;split at h
  .rename_i hk;simp only[qsI]at h;subst h;exact⟨qlr _,by omega,hk,λj h1 h2=>by omega⟩
  .rename_i hk;obtain⟨h1,h2,h3,h4⟩:=QAY h;refine⟨by omega,by omega,h3,λj h5 h6=>?_⟩
   rcases Nat.eq_or_lt_of_le h5 with rfl|h7
   .exact hk
   .exact h4 j h7 h6
def JM:Option Nat:=QR (λi=>eqJ x (atJ L i)) L.length 0
def VM(L:List Jn):List Jn:=L.filter λy=>!eqJ x y
def Jw(x:Jn):Nat->List Jn->Nat->Nat->List Jn×Nat
 | 0,o,i,_=>(o,i)
 | m+1,o,i,j=>cond (eqJ x (atJ o j)) (Jw x m o i (j+1)) (Jw x m (o.set i (atJ o j)) (i+1) (j+1))
theorem QGL{L:List Jn}{i:Nat}(h:i<L.length):atJ L i=L[i]:=Jb h
theorem QH3(x:Jn)(L:List Jn):∀(m:Nat) (o:List Jn) (i j:Nat),o.length=L.length->i<j->j+m=L.length->(∀ k,j<=k->atJ o k=atJ L k)->o.take i=VM x (L.take j) ->
  (Jw x m o i j).1.length=L.length/\(Jw x m o i j).2<L.length/\(Jw x m o i j).1.take (Jw x m o i j).2=VM x L
 | 0,o,i,j,h1,h2,h3,_,h5=>by
  refine⟨h1,by show i<_;omega,?_⟩
  show o.take i=_;rw[h5,List.take_of_length_le (by omega)]
 | m+1,o,i,j,h1,h2,h3,h4,h5=>by
  have hj:j<L.length:=by omega
  have hy:atJ o j=L[j]:=by rw[h4 j (qlr _),QGL hj]
  have ht:L.take (j+1)=L.take j++[L[j]]:=by rw[List.take_succ_eq_append_getElem hj]
  simp only[Jw];cases he:eqJ x (atJ o j)with
  | true=>
   simp only[cond_true];refine QH3 x L m o i (j+1) h1 (by omega) (by omega) (λk hk=>h4 k (by omega)) ?_
   rw[hy]at he;rw[h5,ht];unfold VM;rw[List.filter_append];simp[he]
  | false=>
   simp only[cond_false];rw[hy]at he ⊢;refine QH3 x L m _ (i+1) (j+1) (by rw[List.length_set];exact h1) (by omega) (by omega) (λk hk=>?_) ?_
   .rw[<-h4 k (by omega)]
    unfold atJ;rw[List.getD_eq_getElem?_getD,List.getD_eq_getElem?_getD,List.getElem?_set_ne (by omega)]
   .have hi:i<o.length:=by omega
    rw[List.take_succ_eq_append_getElem (by rw[List.length_set];exact hi),List.getElem_set_self,List.take_set_of_le (qlr i),h5,ht]
    unfold VM;rw[List.filter_append];simp[he]
theorem QX0{x:Jn}{L:List Jn}(h:JM L x=none):VM x L=L:=by
 unfold VM;rw[List.filter_eq_self];intro y hy;obtain⟨i,hi,rfl⟩:=List.mem_iff_getElem.1 hy;have:=vv h i (Nat.zero_le _) (by omega)
 rw[QGL hi]at this;rw[this];rfl
theorem Qce{x:Jn}{L:List Jn}{i:Nat}(h:JM L x=some i):i<L.length/\(Jw x (L.length-(i+1)) L i (i+1)).1.length=L.length/\(Jw x (L.length-(i+1)) L i (i+1)).2<L.length/\(Jw x (L.length-(i+1)) L i (i+1)).1.take (Jw x (L.length-(i+1)) L i (i+1)).2=VM x L:=by
 obtain⟨_,h2,h3,h4⟩:=QAY h;have hi:i<L.length:=by omega
 refine⟨hi,QH3 x L _ L i (i+1) rfl (by omega) (by omega) (λ_ _=>rfl) ?_⟩
 rw[List.take_succ_eq_append_getElem hi];unfold VM;rw[List.filter_append];rw[QGL hi]at h3
 have h5:(L.take i).filter (λy=>!eqJ x y)=L.take i:=by
  rw[List.filter_eq_self];intro y hy;obtain⟨j,hj,rfl⟩:=List.mem_iff_getElem.1 hy;rw[List.length_take]at hj;have:=h4 j (Nat.zero_le _) (by omega)
  rw[QGL (show j<L.length by omega)]at this
  rw[List.getElem_take,this];rfl
 rw[h5];simp[h3]
abbrev LJ:={f:List Jn // f.length<=1000000000}
def faT:List AV:=[.agg (KZ d),.ptr 112 0 0,.nils,.int true .i64 0,.ptr 200 0 0,.int true .i64 0,.ptr 296 0 0,.ptr 328 0 0,.tup [],.tup [],.tup [.ptr 200 0 0,.int true .i64 0],.agg (KZ d),.tup [.ptr 200 0 0,.int true .i64 0],.ptr 200 0 0,.int true .i64 0,.int true .i64 0,.bool true false,.tup [],.ptr 200 0 0,.slz 288 0 w0.length (.of 0),.ptr 200 0 0,.mth (.func 91) [.ptr 200 0 0],.ptr 200 0 0,.fn (.func 102) [.ptr 352 0 0,.ptr 360 0 0],.tup [],.tup [],.tup [],.tup [],.tup [],.tup [],.tup [],.tup [],.tup [],.tup [],.tup [],.tup []]
def QIy:List AV:=[.ptr 352 0 0,.ptr 400 0 0,.ptr 464 0 0,.ptr 360 0 0,.ptr 480 0 0]
def faR:List (Nat×Blk):=
 [(480,.cellsR 0 31 [.fn (.func 103) QIy]),(400,.cellsR 0 105 [.yld 393]),(360,.cellsR 0 96 [.nils]),(352,.cellsR 0 90 [.ptr 200 0 0]),(328,.cellsR 0 141 [.mth (.func 91) [.ptr 200 0 0]])]++Qg.blk 0 d.ps
def faW(ls:LoopState)(pe:Option Code)(d:Puz)(E:ECt)(w0:List Jn)(ac body:Code)(u:Nat->Nat->Int)(l:List Lay)(a w c:Nat)(f:List Jn):List (Nat×Blk):=
 [(200,.cells 0 152 (KZ d++[.map 201,.slz a 0 l.length (.of 0)])),(201,.mp E.1 E.2),rwY a l,(464,.cells 0 114 [.slz w 0 d.ps.n (.of 0)]),rwU w d u,(393,.lp ls pe (faT d w0) #[24] ac body),(296,.cells 0 64 [.slz c 0 f.length (.of 0)]),rwJ true c f]
def faS:List (Nat×AV):=[(0,.ptr 352 0 0),(1,.ptr 400 0 0),(2,.ptr 464 0 0),(3,.ptr 360 0 0),(4,.ptr 480 0 0)]
def Hb(l:List Lay)(f:List Jn):JSt:=⟨5,faS,faW .ready none d E w0 ac body u l 496 504 512 f++faR d,520⟩
def faU(l:List Lay)(f:List Jn)(f':List Jn):UC:=
 ⟨488,Hb d E w0 ac body u l f,λ_=>.bool false true,λm=>faW .ready none d E w0 ac body u l m (m+1) (m+2) f'⟩
def faV(l:List Lay)(f:List Jn)(f':List Jn):UC:=
 ⟨488,Hb d E w0 ac body u l f,λ_=>.bool false false,λm=>faW .done (some (.exit 0)) d E w0 ac body u l m (m+1) (m+2) f'⟩
def WN:List Nat:=[200,201,464,393,296]
def QLB(n:Nat)(p:Nat):List (Nat×AV):=faS++[(33,.int false .i64 n),(34,.int false .i64 p)]
def QcJ(n:Nat)(p:Nat)(tn:Int)(t:Nat):List (Nat×AV):=QLB n p++[(6,.int false .i64 p),(43,.int false .i64 tn),(44,.int false .i64 t)]
def Hw(l:List Lay)(f:List Jn)(p:Nat):JSt:=⟨101,QLB d.ps.n p,faW .ready none d E w0 ac body u l 528 536 544 f++faR d,552⟩
def Gv(l:List Lay)(f:List Jn)(p:Nat)(tn:Int)(t:Nat):JSt:=⟨101,QcJ d.ps.n p tn t,faW .ready none d E w0 ac body u l 528 536 544 f++faR d,552⟩
def Gx(l:List Lay)(f:List Jn):JSt:=⟨101,[],faW .ready none d E w0 ac body u l 528 536 544 f,552⟩
def QA3(l:List Lay)(f:List Jn)(p:Nat):JSt:=⟨101,QLB d.ps.n p,faW .ready none d E w0 ac body u l 528 536 544 f++faR d,552⟩
def faF(l:List Lay)(f:List Jn):JSt:=⟨101,[(5,.bool false false)],faW .done (some (.exit 0)) d E w0 ac body u l 528 536 544 f,552⟩
def QLp:Ex->List Nat
 | .normal=>[0,1,2,3,4,33,34]
 | .exit _=>[]
 | .ret=>[5]
def QIO:Ex->List Nat
 | .normal=>[0,1,2,3,4,33,34,6,43,44]
 | .exit _=>[0,1,2,3,4,33,34]
 | .ret=>[5]
def QCu(pb1 pb2:List Prop->Bool)(d:Puz)(E:ECt)(w0:List Jn)(l:List Lay)(x:Lay)(v:Bool)(U:UC):Tab:=Qc (Qc QV 105 (KT pb1 (myU d E l x v))) 103 (KT pb2 U)
abbrev wa2:List AV:=[.ptr 352 0 0,.ptr 400 0 0,.ptr 464 0 0,.ptr 360 0 0,.ptr 480 0 0]
abbrev Hn:List AV:=(.nilp::.ptr 101 0 0::List.append (wa2) ((vi (d.ps.n:Int)::wbJ p t tn)))
abbrev zk:Nat×Blk:=(352,.cellsR 0 90 [.ptr 200 0 0])
abbrev QFr:Nat×Blk:=(480,.cellsR 0 31 [.fn (Fn.func 103) (wa2)])
abbrev zj:Nat×Blk:=(0,.frz (wae) d.ps.n λi=>QA.enc (d.ps.get i))
abbrev zi:Nat×Blk:=(328,.cellsR 0 141 [.mth (Fn.func 91) [.ptr 200 0 0]])
abbrev waW:List (Nat×Blk):=[(400,.cellsR 0 105 [.yld 393]),(360,.cellsR 0 96 [.nils])]
abbrev qR(d:Puz)(f:List Jn)(l:List Lay)(u:Nat->Nat->Int)(w0:List Jn):List (Nat×Blk):=((200,.cells 0 152 (List.append (waf d) ([.map 201,.slz 528 0 l.length cO])))::(201,.mp E.1 E.2)::(464,.cells 0 114 [.slz 536 0 d.ps.n cO])::(393,.lp LoopState.ready none (faT d w0) (Array.mk [24]) ac body)::(296,.cells 0 64 [.slz 544 0 f.length cO])::zk::List.append (waW) ([QFr,(zj d),(528,.rowz true 49 kB l.length λi=>QA.enc (l.getD i (Lay.mk (0:Int) (0:Int)))),(536,.rowz true 4 [CK.bool] d.ps.n u),zi,(544,.rowz true 67 (List.append (waJ) ([.int .i64])) f.length λi=>QA.enc (f.getD i (Jn.mk (0:Int) (0:Int) (0:Int) (0:Int))))]))
abbrev QNL(d:Puz)(l:List Lay)(p:Nat)(t:Nat):List Prop:=([0=0,0=0,(p:Int)=(p:Int),(t:Int)=(t:Int)]++waa d++(((wcd l)++wag l++[E.1=E.1,E.2=E.2])++wad d))
abbrev wah(f:List Jn):List Prop:=[f.length<=f.length,QB 4 f.length (λi=>QA.enc (f.getD i (Jn.mk (0:Int) (0:Int) (0:Int) (0:Int)))) λi=>QA.enc (f.getD i (Jn.mk (0:Int) (0:Int) (0:Int) (0:Int)))]
abbrev waY(l:List Lay)(l2:List Lay)(p:Nat)(t:Nat):List Prop:=[l2.length<=l.length+1,QB 2 l2.length (KQ l.length (λi=>QA.enc (l.getD i (Lay.mk (0:Int) (0:Int)))) (KD [[.int false .i64 (p:Int),vi (t:Int)]] 0)) λi=>QA.enc (l2.getD i (Lay.mk (0:Int) (0:Int)))]
abbrev wb8:List Prop:=(wcf++[(0:Int)=0,0=0,0=0,0=0,0=0,0=0])
abbrev QR3(d:Puz)(f:List Jn)(l:List Lay)(l2:List Lay)(p:Nat)(t:Nat)(u:Nat->Nat->Int)(u2:Nat->Nat->Int)(w0:List Jn):List Prop:=((wbN)++waa d++([cO=cO,0=0,l.length+1=l2.length,cO=cO,E.1=E.1,E.2=E.2]++waY l l2 p t++(wbo d++[QB 1 d.ps.n (λi=>bif decide (i=p)then Ki [.bool true true] 0 (u ((p:Int).toNat+0))else u i) u2,LoopState.ready=LoopState.ready,(none:Option Code)=none,Array.mk [24]=Array.mk [24],ac=ac,body=body]))++waa d++(wb8++[0=0,(0:Int)=0])++waa d++((((wcf)++wa6++([0=0,0=0,0=0,w0.length=w0.length,cO=cO,0=0,0=0,Fn.func 91=Fn.func 91,0=0,0=0,0=0,0=0]++wcg++[0=0,f.length=f.length,cO=cO]))++wah f++([Fn.func 103=Fn.func 103]++wbN++[0=0,0=0,Fn.func 91=Fn.func 91,0=0,0=0]))++wad d))
abbrev Ge:Nat×Blk:=(200,.cells 0 152 (List.append (waf d) ([.map 201,.slz 864 0 (i64.wrap ((l2.length:Int)-1)).toNat cO])))
abbrev H8:Nat×Blk:=(464,.cells 0 114 [.slz 865 0 d.ps.n cO])
abbrev Gs:Nat×Blk:=(296,.cells 0 64 [.slz 866 0 f'.length cO])
abbrev QAg:Nat×Blk:=(864,.rowz true 49 kB l2.length λi=>QA.enc (l2.getD i (Lay.mk (0:Int) (0:Int))))
abbrev QAI:Nat×Blk:=(865,.rowz true 4 [CK.bool] d.ps.n λi=>bif decide (i=p)then Ki [.bool true false] 0 (u2 ((p:Int).toNat+0))else u2 i)
abbrev GX:Nat×Blk:=(866,.rowz true 67 (List.append (waJ) ([.int .i64])) f'.length λi=>QA.enc (f'.getD i (Jn.mk (0:Int) (0:Int) (0:Int) (0:Int))))
abbrev QUt:List AV:=(.ptr 2 0 0::.ptr 101 0 0::List.append (wa2) ([vi (d.ps.n:Int),vi (p:Int)]))
theorem Qdq(pb1 pb2:List Prop->Bool)(d:Puz)(E:ECt)(w0:List Jn)(ac body:Code)(u u2:Nat->Nat->Int)(l l2:List Lay)(v:Bool)(f:List Jn)(p:Nat)(tn:Int)(t:Nat)(f':List Jn)(g0:Nat->Value):exec (mkE prog (QCu pb1 pb2 d E w0 l ⟨p,t⟩ v (faU d E w0 ac body u2 l2 f f'))) (hnd (mkE prog (QCu pb1 pb2 d E w0 l ⟨p,t⟩ v (faU d E w0 ac body u2 l2 f f'))) 0) (QW (QI f103 0)) (JSt.inst (Gv d E w0 ac body u l f p tn t) g0) (Q5 WN QIO) = .br (decide ((t:Int)<tn)) (.need (true) (.br (!Qj (Rw.mk 0 λi=>Pt.mk (0:Int) (Lay.mk (0:Int) (0:Int))) (l.length:Int) (Lay.mk (p:Int) (t:Int))) (.leaf (.tup (Hn d p t tn)) ((qR E ac body d f l u w0))) (.need (pb1 ((QNL E d l p t))) (.br (!v) (.leaf (.tup (Hn d p t tn)) ((qR E ac body d f l u w0))) (.need (decide ((0:Int)<=(p:Int)/\(p:Int)<(d.ps.n:Int))&&decide (d.ps.n<=d.ps.n)) (.need (decide (p<d.ps.n)) (.need (decide (l.length<=l.length)&&(true&&decide ((l.length+1+(l.length+1) / 4+192)*16<=281474976710656/\l.length+1<=9223372036854775807))) (.need (pb2 ((QR3 E ac body d f l l2 p t u u2 w0))) (.need (decide ((0:Int)<=i64.wrap ((l2.length:Int)-1)/\(i64.wrap ((l2.length:Int)-1)).toNat<=l2.length-0)) (.need (decide ((0:Int)<=(p:Int)/\(p:Int)<(d.ps.n:Int))&&decide (d.ps.n<=d.ps.n)) (.need (decide (p<d.ps.n)) (.br (false) (.leaf (.tup (wbR)) ([(Ge d l2),(201,.mp E.1 E.2),(H8 d),(393,.lp LoopState.ready none (faT d w0) (Array.mk [24]) ac body),(Gs f'),(zj d),(QAg l2),(QAI d p u2),zi,zk,(360,.cellsR 0 96 [.nils]),(GX f')])) (.leaf (.tup (Hn d p t tn)) (((Ge d l2)::(201,.mp E.1 E.2)::(H8 d)::(393,.lp LoopState.ready none (faT d w0) (Array.mk [24]) ac body)::(Gs f')::zk::List.append (waW) ([QFr,(zj d),(QAg l2),(QAI d p u2),zi,(GX f')])))))))))))))))) (.leaf (.tup (QUt d p)) ((qR E ac body d f l u w0))):=by kernel_rfl
abbrev QNt:List AV:=(List.append (wa2) ((vi (d.ps.n:Int)::wbT p t tn)))
abbrev wcb(w0:List Jn):List Prop:=[0=0,0=0,0=0,w0.length=w0.length,cO=cO,0=0,0=0,Fn.func (91:FuncId)=Fn.func (91:FuncId)]
abbrev Qe8(d:Puz)(f:List Jn)(l:List Lay)(p:Nat)(t:Nat)(t':Nat)(tn:Int)(u:Nat->Nat->Int)(w0:List Jn):List Prop:=(((wbN)++waH d p++[tn=tn,i64.wrap ((t:Int)+1)=(t':Int)])++waa d++(([cO=cO,0=0]++wb4 E l)++wag l++((wbo d++[QB 1 d.ps.n u u])++wai++[Array.mk [24]=Array.mk [(24:Tmp)],ac=ac,body=body]))++waa d++(wb8++[0=0,(0:Int)=0])++waa d++((((wcf)++wa6++((wcb w0++[0=0,0=0])++wb3++[0=0,0=0,f.length=f.length,cO=cO]))++wah f++([Fn.func 103=Fn.func (103:FuncId)]++wbN++[0=0,0=0,Fn.func 91=Fn.func (91:FuncId),0=0,0=0]))++wad d))
theorem QTy(l:List Lay)(f:List Jn)(p:Nat)(tn:Int)(t t':Nat):QF 520 (QNt d p t tn) ((qR E ac body d f l u w0)) (Gv d E w0 ac body u l f p tn t')=(some (Qe8 E ac body d f l p t t' tn u w0)):=by kernel_rfl
abbrev VG:List Prop:=[0=0,0=0,0=0,0=0]
abbrev Wa:List Prop:=(waa d++[cO=cO,0=0])
abbrev QN4(d:Puz)(l:List Lay)(l2:List Lay)(p:Nat)(u2:Nat->Nat->Int)(u3:Nat->Nat->Int):List Prop:=([cO=cO]++waP E l l2++(wbo d++[QB 1 d.ps.n (λi=>bif decide (i=p)then Ki [.bool true false] 0 (u2 ((p:Int).toNat+0))else u2 i) u3]))
abbrev QGw:List Prop:=[0=0,(0:Int)=0,0=0,0=0,(0:Int)=0]
abbrev QJG:List Prop:=([0=0,0=0]++wa6++(wcb w0))
abbrev way(f':List Jn):List Prop:=[f'.length<=f'.length,QB 4 f'.length (λi=>QA.enc (f'.getD i (Jn.mk (0:Int) (0:Int) (0:Int) (0:Int)))) λi => QA.enc (f'.getD i (Jn.mk (0:Int) (0:Int) (0:Int) (0:Int)))]
abbrev QT7:List Prop:=([0=0,f'.length=f'.length,cO=cO]++way f')
abbrev QPj:List Prop:=([Fn.func 91=Fn.func (91:FuncId),0=0,0=0]++wad d)
theorem Qg6(u u2 u3:Nat->Nat->Int)(l l2:List Lay)(p:Nat)(tn:Int)(t t':Nat)(f':List Jn):QF 520 (QNt d p t tn) (((Ge d l2)::(201,.mp E.1 E.2)::(H8 d)::(393,.lp LoopState.ready none (faT d w0) (Array.mk [24]) ac body)::(Gs f')::zk::List.append (waW) ([QFr,(zj d),(QAg l2),(QAI d p u2),zi,(GX f')]))) (Gv d E w0 ac body u3 l f' p tn t')=(some (VG++VG++([0=0,0=0]++waH d p++[tn=tn,i64.wrap ((t:Int)+1)=(t':Int)])++(Wa d)++[(i64.wrap ((l2.length:Int)-1)).toNat=l.length]++(QN4 E d l l2 p u2 u3)++(wai++[Array.mk [24]=Array.mk [(24:Tmp)],ac=ac,body=body])++(Wa d)++QGw++VG++[0=0,0=0,(0:Int)=0]++(Wa d)++[0=0,(0:Int)=0]++(QJG w0)++VG++[Fn.func (102:FuncId)=Fn.func (102:FuncId)]++VG++(QT7 f')++[Fn.func 103=Fn.func (103:FuncId)]++VG++VG++VG++(QPj d))):=by kernel_rfl
theorem QQC(l:List Lay)(f:List Jn)(p:Nat):QF 520 (List.append (wa2) ([vi (d.ps.n:Int),vi (p:Int)])) ((qR E ac body d f l u w0)) (QA3 d E w0 ac body u l f p)=(some (VG++VG++([0=0,0=0]++wb6 d p)++(Wa d)++((wb4 E l)++wag l++((wbo d++[QB 1 d.ps.n u u])++wai++[Array.mk [24]=Array.mk [(24:Tmp)],ac=ac,body=body]))++(Wa d)++QGw++VG++[0=0,0=0,(0:Int)=0]++(Wa d)++[0=0,(0:Int)=0]++(QJG w0)++VG++[Fn.func (102:FuncId)=Fn.func (102:FuncId)]++VG++([0=0,f.length=f.length,cO=cO]++wah f++[Fn.func 103=Fn.func (103:FuncId)])++VG++VG++VG++(QPj d))):=by kernel_rfl
theorem QYb(pb1 pb2:List Prop->Bool)(d:Puz)(E:ECt)(w0:List Jn)(ac body:Code)(u u2:Nat->Nat->Int)(l l2:List Lay)(v:Bool)(f:List Jn)(p:Nat)(tn:Int)(t:Nat)(f':List Jn)(g0:Nat->Value):exec (mkE prog (QCu pb1 pb2 d E w0 l ⟨p,t⟩ v (faV d E w0 ac body u2 l2 f f'))) (hnd (mkE prog (QCu pb1 pb2 d E w0 l ⟨p,t⟩ v (faV d E w0 ac body u2 l2 f f'))) 0) (QW (QI f103 0)) (JSt.inst (Gv d E w0 ac body u l f p tn t) g0) (Q5 WN QIO) = .br (decide ((t:Int)<tn)) (.need (true) (.br (!Qj (Rw.mk 0 λi=>Pt.mk (0:Int) (Lay.mk (0:Int) (0:Int))) (l.length:Int) (Lay.mk (p:Int) (t:Int))) (.leaf (.tup (Hn d p t tn)) ((qR E ac body d f l u w0))) (.need (pb1 ((QNL E d l p t))) (.br (!v) (.leaf (.tup (Hn d p t tn)) ((qR E ac body d f l u w0))) (.need (decide ((0:Int)<=(p:Int)/\(p:Int)<(d.ps.n:Int))&&decide (d.ps.n<=d.ps.n)) (.need (decide (p<d.ps.n)) (.need (decide (l.length<=l.length)&&(true&&decide ((l.length+1+(l.length+1) / 4+192)*16<=281474976710656/\l.length+1<=9223372036854775807))) (.need (pb2 ((QR3 E ac body d f l l2 p t u u2 w0))) (.need (decide ((0:Int)<=i64.wrap ((l2.length:Int)-1)/\(i64.wrap ((l2.length:Int)-1)).toNat<=l2.length-0)) (.need (decide ((0:Int)<=(p:Int)/\(p:Int)<(d.ps.n:Int))&&decide (d.ps.n<=d.ps.n)) (.need (decide (p<d.ps.n)) (.br (true) (.leaf (.tup (wbR)) ([(Ge d l2),(201,.mp E.1 E.2),(H8 d),(393,.lp LoopState.done (some (Code.exit 0)) (faT d w0) (Array.mk [24]) ac body), (Gs f'),(zj d),(QAg l2),(QAI d p u2),zi,zk,(360,.cellsR 0 96 [.nils]),(GX f')])) (.leaf (.tup (Hn d p t tn)) (((Ge d l2)::(201,.mp E.1 E.2)::(H8 d)::(393,.lp LoopState.done (some (Code.exit 0)) (faT d w0) (Array.mk [24]) ac body)::(Gs f')::zk::List.append (waW) ([QFr,(zj d),(QAg l2),(QAI d p u2),zi,(GX f')])))))))))))))))) (.leaf (.tup (QUt d p)) ((qR E ac body d f l u w0))):=by kernel_rfl
theorem QiG(u2 u3:Nat->Nat->Int)(l l2:List Lay)(p:Nat)(f':List Jn):QF 520 [.bool true false] ([(Ge d l2),(201,.mp E.1 E.2),(H8 d),(393,.lp LoopState.done (some (Code.exit 0)) (faT d w0) (Array.mk [24]) ac body),(Gs f'),(zj d), (QAg l2),(QAI d p u2),zi,zk,(360,.cellsR 0 96 [.nils]),(GX f')]) (faF d E w0 ac body u3 l f')=(some ([false=false]++(Wa d)++[(i64.wrap ((l2.length:Int)-1)).toNat=l.length]++(QN4 E d l l2 p u2 u3)++(waT++[Array.mk [24]=Array.mk [(24:Tmp)],ac=ac,body=body])++(Wa d)++QGw++VG++[0=0,0=0,(0:Int)=0]++(Wa d)++[0=0,(0:Int)=0]++(QJG w0)++VG++[Fn.func (102:FuncId)=Fn.func (102:FuncId)]++VG++(QT7 f'))):=by kernel_rfl
def qM(n:Nat)(a:Int):Tab:=Qc QV 52 (KT pb (tnU d n a))
abbrev QEb(P:Program)(pb:List Prop->Bool)(d:Puz)(E:ECt)(w0:List Jn)(ac body:Code)(u:Nat->Nat->Int)(l:List Lay)(f:List Jn)(p:Nat)(X:List (Prop×Ex×JSt)):Hnd:={ hnd (mkE P (qM pb d l.length p)) 0 with loop:=λ_=>Ks (p<d.ps.n/\u p 0=0) (KF 520 WN (Gv d E w0 ac body u l f p (tnV d p) (0:Nat)) X) }
abbrev QQU:List AV:=(.nilp::.ptr 101 0 0::List.append (wa2) ([vi (d.ps.n:Int),vi (i64.wrap ((p:Int)+1))]))
abbrev Yk:Nat×Blk:=(200,.cells 0 152 (List.append (waf d) ([.map 201,.slz 528 0 l.length cO])))
abbrev Yu:Nat×Blk:=(464,.cells 0 114 [.slz 536 0 d.ps.n cO])
abbrev GL(d:Puz)(w0:List Jn):Nat×Blk:=(393,.lp LoopState.ready none (faT d w0) (Array.mk [24]) ac body)
abbrev QGB:Nat×Blk:=(296,.cells 0 64 [.slz 544 0 f.length cO])
abbrev HY:Nat×Blk:=(352,.cellsR 0 90 [.ptr 200 0 0])
abbrev QFj:Nat×Blk:=(480,.cellsR 0 31 [.fn (Fn.func 103) (wa2)])
abbrev QAV:Nat×Blk:=(0,.frz (wae) d.ps.n λi=>QA.enc (d.ps.get i))
abbrev YC:Nat×Blk:=(528,.rowz true 49 kB l.length λi=>QA.enc (l.getD i (Lay.mk (0:Int) (0:Int))))
abbrev HW:Nat×Blk:=(328,.cellsR 0 141 [.mth (Fn.func 91) [.ptr 200 0 0]])
abbrev QGu:Nat×Blk:=(544,.rowz true 67 (List.append (waJ) ([.int .i64])) f.length λi=>QA.enc (f.getD i (Jn.mk (0:Int) (0:Int) (0:Int) (0:Int))))
abbrev qW:Nat×Blk:=(296,.cells 0 64 [.slz 544 0 f'.length cO])
abbrev qB:Nat×Blk:=(544,.rowz true 67 (List.append (waJ) ([.int .i64])) f'.length λi=>QA.enc (f'.getD i (Jn.mk (0:Int) (0:Int) (0:Int) (0:Int))))
theorem QVg(u u':Nat->Nat->Int)(l:List Lay)(f:List Jn)(p:Nat)(A B:Prop)(f':List Jn)(g0:Nat->Value):exec (mkE prog (qM pb d l.length p)) (QEb prog pb d E w0 ac body u l f p [(A,.exit 2,QA3 d E w0 ac body u' l f' p),(B,.ret,faF d E w0 ac body u' l f')]) (QI f103 0) (JSt.inst (Hw d E w0 ac body u l f p) g0) (Q5 WN QLp) = .br (decide ((p:Int)<(d.ps.n:Int))) (.need (decide ((0:Int)<=(p:Int)/\(p:Int)<(d.ps.n:Int))&&decide (d.ps.n<=d.ps.n)) (.need (decide (p<d.ps.n)) (.br (decide (u ((p:Int).toNat+0) 0=1)) (.leaf (.tup (QQU d p)) (((Yk d l)::(201,.mp E.1 E.2)::(Yu d)::(GL ac body d w0)::(QGB f)::HY::List.append (waW) ([QFj,(QAV d),(YC l),(536,.rowz true 4 [CK.bool] d.ps.n u),HW,(QGu f)])))) (.need (pb (([0=0,0=0,(p:Int)=(p:Int)]++waa d++((wcd l)++wad d)))) (.ak [p<d.ps.n/\u p 0=0] (.ak (rz 10) (.ak ((waH d p++[tnV d (p:Int)=tnV d (p:Int),(0:Int)=0])++waa d++(([cO=cO,0=0]++wb4 E l)++wag l++((wbo d++[QB 1 d.ps.n u u])++wai++[Array.mk [(24:Tmp)]=Array.mk [(24:Tmp)],ac=ac,body=body]))++waa d++(wb8++[0=0,(0:Int)=0])++waa d++(((wcf)++wa6++((wcb w0++[0=0,0=0])++wb3++[0=0,0=0,f.length=f.length,cO=cO]))++wah f++[Fn.func (103:FuncId)=Fn.func (103:FuncId)])) (.ak (rz 12) (.ak ([Fn.func (91:FuncId)=Fn.func (91:FuncId),0=0,0=0]++wad d) (.both (.asm (A) (.all (λ(g0:Nat->Value)=>.leaf (.tup (QQU d p)) (((Yk d l)::(201,.mp E.1 E.2)::(Yu d)::(GL ac body d w0)::(qW f')::HY::List.append (waW) ([QFj,(QAV d),(YC l),(536,.rowz true 4 [CK.bool] d.ps.n u'),HW,(qB f')])))))) (.asm (B) (.all (λ(g1:Nat->Value)=>.leaf (.tup [.nili,.ptr 101 0 0,.bool false false]) ([(Yk d l),(201,.mp E.1 E.2),(Yu d),(393,.lp LoopState.done (some (Code.exit 0)) (faT d w0) (Array.mk [24]) ac body),(qW f'), (YC l),(536,.rowz true 4 [CK.bool] d.ps.n u'),(qB f')])))))))))))))) (.leaf (.tup [.ptr 0 0 0,.ptr 101 0 0]) ([(Yk d l),(201,.mp E.1 E.2),(Yu d),(GL ac body d w0),(QGB f),(QAV d),(YC l),(536,.rowz true 4 [CK.bool] d.ps.n u),HW,HY,(360,.cellsR 0 96 [.nils]), (QGu f)])):=by kernel_rfl
abbrev QQB:List AV:=(List.append (wa2) ([vi (d.ps.n:Int),vi (i64.wrap ((p:Int)+1))]))
abbrev XU:List Prop:=[0=0,0=0,0=0,0=0,0=0]
abbrev Ys:List Prop:=(waa d++[cO=cO,0=0])
abbrev Hu(d:Puz)(l:List Lay):List Prop:=((wb4 E l)++wag l++(wbo d))
abbrev QLH:List Prop:=(wai++[Array.mk [24]=Array.mk [(24:Tmp)],ac=ac])
abbrev QAF:List Prop:=[0=0,(0:Int)=0,0=0,0=0]
abbrev GB:List Prop:=([(0:Int)=0,0=0,0=0,0=0,0=0,0=0,0=0,(0:Int)=0]++waa d++((wcf)++wa6++(wcb w0++[0=0,0=0,0=0,0=0,Fn.func (102:FuncId)=Fn.func (102:FuncId)])))
abbrev QNn:List Prop:=([f.length=f.length,cO=cO]++wah f)
abbrev QQQ:List Prop:=([0=0,Fn.func 91=Fn.func (91:FuncId),0=0,0=0]++wad d)
theorem QOi(l:List Lay)(f:List Jn)(p p':Nat):QF 520 (QQB d p) (((Yk d l)::(201,.mp E.1 E.2)::(Yu d)::(GL ac body d w0)::(QGB f)::HY::List.append (waW) ([QFj,(QAV d),(YC l),(536,.rowz true 4 [CK.bool] d.ps.n u),HW,(QGu f)]))) (Hw d E w0 ac body u l f p')=(some (XU++XU++[(d.ps.n:Int)=(d.ps.n:Int),i64.wrap ((p:Int)+1)=(p':Int)]++(Ys d)++(Hu E d l)++[QB 1 d.ps.n u u]++(QLH ac)++[body=body]++(Ys d)++QAF++(GB d w0)++XU++(QNn f) ++ [Fn.func 103=Fn.func (103:FuncId)]++XU++XU++[0=0]++(QQQ d))):=by kernel_rfl
abbrev QGR:List Prop:=([f'.length=f'.length,cO=cO]++way f')
theorem Qkb(p p':Nat)(f':List Jn):QF 520 (QQB d p) (((Yk d l)::(201,.mp E.1 E.2)::(Yu d)::(GL ac body d w0)::(qW f')::HY::List.append (waW) ([QFj,(QAV d),(YC l),(536,.rowz true 4 [CK.bool] d.ps.n u'),HW,(qB f')]))) (Hw d E w0 ac body u' l f' p')=(some (XU++XU++[(d.ps.n:Int)=(d.ps.n:Int),i64.wrap ((p:Int)+1)=(p':Int)]++(Ys d)++(Hu E d l)++[QB 1 d.ps.n u' u']++(QLH ac)++[body=body]++(Ys d)++QAF++(GB d w0)++XU++(QGR f') ++ [Fn.func 103=Fn.func (103:FuncId)]++XU++XU++[0=0]++(QQQ d))):=by kernel_rfl
theorem Qhy :QF 520 [.bool false false] ([(Yk d l),(201,.mp E.1 E.2),(Yu d),(393,.lp LoopState.done (some (Code.exit 0)) (faT d w0) (Array.mk [24]) ac body),(qW f'),(YC l), (536,.rowz true 4 [CK.bool] d.ps.n u'),(qB f')]) (faF d E w0 ac body u' l f')=(some ([false=false]++(Ys d)++(Hu E d l)++([QB 1 d.ps.n u' u']++waT++[Array.mk [24]=Array.mk [(24:Tmp)],ac=ac,body=body])++(Ys d)++QAF++(GB d w0)++XU++(QGR f'))):=by kernel_rfl
theorem QWC(l:List Lay)(f:List Jn):QF 520 [] ([(Yk d l),(201,.mp E.1 E.2),(Yu d),(GL ac body d w0),(QGB f),(QAV d),(YC l),(536,.rowz true 4 [CK.bool] d.ps.n u),HW,HY,(360,.cellsR 0 96 [.nils]),(QGu f)]) (Gx d E w0 ac body u l f)=(some ((Ys d)++(Hu E d l)++[QB 1 d.ps.n u u]++(QLH ac)++[body=body]++(Ys d)++QAF++(GB d w0) ++ XU++(QNn f))):=by kernel_rfl
abbrev faX(P:Program)(J:JSt)(X:List (Prop×Ex×JSt)):Hnd:={ hnd (mkE P QV) 0 with loop:=λ_=>KF 520 WN J X }
theorem QMU(u u':Nat->Nat->Int)(l:List Lay)(f:List Jn)(A B:Prop)(f':List Jn):(Vv (mkE prog QV) (faX prog (Hw d E w0 (QQ f43 0).1 (QQ f43 0).2 u l f 0) [(A,.exit 0,Gx d E w0 (QQ f43 0).1 (QQ f43 0).2
  u' l f'),(B,.ret,faF d E w0 (QQ f43 0).1 (QQ f43 0).2 u' l f')]) f103 QIy (Hb d E w0 (QQ f43 0).1 (QQ f43 0).2 u l f).hp 520 λv h
  _ => Z4 WN v h) = .br ((l.length : Int) == (d.ps.n : Int)) (.fail ("yield")) (.ask (0 = 0) (.ask (0 = 0) (.ask (0 = 0) (.ask (0 = 0) (.ask (0 = 0) (.ask (0 = 0) (.ask (0 = 0)
  (.ask (0=0) (.ask (0=0) (.ask (0=0) (.ask ((d.ps.n:Int)=(d.ps.n:Int)) (.ask ((0:Int)=0) (.ask (d.pK.length=d.pK.length) (.ask (d.pK.aK=d.pK.aK)
  (.ask (d.pK.oK=d.pK.oK) (.ask (d.pK.dK.lo=d.pK.dK.lo) (.ask (d.pK.dK.hi=d.pK.dK.hi) (.ask (d.wide=d.wide) (.ask (d.high=d.high) (.ask (d.turn =
  d.turn) (.ask (0=0) (.ask (d.ps.n=d.ps.n) (.ask (Cap.of 0=Cap.of 0) (.ask (0=0) (.ask (l.length=l.length) (.ask (Cap.of 0=Cap.of 0) (.ask (E.1=E.1) (.ask (E.2=E.2)
  (.ak [l.length<=l.length,QB 2 l.length (λi=>QA.enc (l.getD i (Lay.mk (0:Int) (0:Int)))) λi=>QA.enc (l.getD i (Lay.mk (0:Int) (0:Int))),0
  = 0,d.ps.n=d.ps.n,Cap.of 0=Cap.of 0,d.ps.n<=d.ps.n,QB 1 d.ps.n u u,LoopState.ready=LoopState.ready,(none:Option Code) =
  none,Array.mk [(24:Tmp)]=Array.mk [(24:Tmp)],(QQ f43 0).1=(QQ f43 0).1,(QQ f43 0).2=(QQ f43 0).2] (.ask
  (d.pK.length=d.pK.length) (.ask (d.pK.aK=d.pK.aK) (.ask (d.pK.oK=d.pK.oK) (.ask (d.pK.dK.lo=d.pK.dK.lo) (.ask (d.pK.dK.hi =
  d.pK.dK.hi) (.ask (d.wide=d.wide) (.ask (d.high=d.high) (.ask (d.turn=d.turn) (.ask (0=0) (.ask (d.ps.n=d.ps.n) (.ask (Cap.of 0=Cap.of 0) (.ask (0=0) (.ask (0=0)
  (.ask ((0:Int)=0) (.ask (0=0) (.ask (0=0) (.ask ((0:Int)=0) (.ask (0=0) (.ask (0=0) (.ask (0=0) (.ask (0=0) (.ask (0=0) (.ask (0=0) (.ask ((0:Int)=0)
  (.ask (d.pK.length=d.pK.length) (.ask (d.pK.aK=d.pK.aK) (.ask (d.pK.oK=d.pK.oK) (.ask (d.pK.dK.lo=d.pK.dK.lo) (.ask (d.pK.dK.hi =
  d.pK.dK.hi) (.ask (d.wide=d.wide) (.ask (d.high=d.high) (.ask (d.turn=d.turn) (.ask (0=0) (.ask (d.ps.n=d.ps.n) (.ask (Cap.of 0=Cap.of 0) (.ask (0=0) (.ask (0=0)
  (.ask ((0:Int)=0) (.ask (0=0) (.ask (0=0) (.ask ((0:Int)=0) (.ask ((0:Int)=0) (.ask (false=false) (.ask (0=0) (.ask (0=0) (.ask (0=0) (.ask (w0.length =
  w0.length) (.ask (Cap.of 0=Cap.of 0) (.ask (0=0) (.ask (0=0) (.ask (Fn.func (91:FuncId)=Fn.func (91:FuncId)) (.ask (0=0) (.ask (0=0) (.ask (0=0) (.ask (0=0)
  (.ask (Fn.func (102:FuncId)=Fn.func (102:FuncId)) (.ask (0=0) (.ask (0=0) (.ask (0=0) (.ask (0=0) (.ask (0=0) (.ask (f.length=f.length) (.ask (Cap.of 0=Cap.of 0)
  (.ask (f.length<=f.length) (.ask (QB 4 f.length (λi=>QA.enc (f.getD i (Jn.mk (0:Int) (0:Int) (0:Int) (0:Int)))) λi=>QA.enc (f.getD i (Jn.mk (0:Int) (0 :
  Int) (0:Int) (0:Int)))) (.ask (Fn.func (103:FuncId)=Fn.func (103:FuncId)) (.ask (0=0) (.ask (0=0) (.ask (0=0) (.ask (0=0) (.ask (0=0) (.ask (0=0) (.ask (0=0)
  (.ak [0=0,0=0,0=0,0=0,0=0,Fn.func (91:FuncId)=Fn.func (91:FuncId),0=0,0=0,d.ps.n<=d.ps.n] (.ask
  (QB 28 d.ps.n (λi=>QA.enc (d.ps.get i)) λi=>QA.enc (d.ps.get i)) (.both (.asm (A) (.all (λ(g0:Nat->Value)=>.leaf (.bool true true) ([(Yk d l),(201,.mp
  E.1 E.2),(Yu d),(393,.lp LoopState.ready none (faT d w0) (Array.mk [24]) (QQ f43 0).1 (QQ f43 0).2),(qW f'),(YC l),(536,.rowz true 4 [CK.bool] d.ps.n
  u'),(qB f')])))) (.asm (B) (.all (λ(g1:Nat->Value)=>.leaf (.bool false false) ([(Yk d l),(201,.mp E.1 E.2),(Yu d),(393,.lp LoopState.done (some (Code.exit 0))
  (faT d w0) (Array.mk [24]) (QQ f43 0).1 (QQ f43 0).2),(qW f'),(YC l),(536,.rowz true 4 [CK.bool] d.ps.n u'),(qB
  f')]))))))))))))))))))))))))))))))))))))))))))))))))))))))))))))))))))))))))))))))))))))))))))))))))))))))))))))):=by kernel_rfl
abbrev wbc:List Prop:=[Array.mk [24]=Array.mk [(24:Tmp)],(QQ f43 0).1=(QQ f43 0).1,(QQ f43 0).2=(QQ f43 0).2]
theorem Qio(u u':Nat->Nat->Int)(l:List Lay)(f:List Jn)(f':List Jn):QF 520 [(.bool true true)] ([(Yk d l),(201,.mp E.1 E.2),(Yu d),(393,.lp LoopState.ready none (faT d w0) (Array.mk [24]) (QQ f43 0).1 (QQ f43 0).2), (qW f'),(YC l),(536,.rowz true 4 [CK.bool] d.ps.n u'),(qB f')]) (KX (faU d E w0 (QQ f43 0).1 (QQ f43 0).2 u l f f'))=(some ([true=true]++(Ys d)++(Hu E d l)++([QB 1 d.ps.n u' u]++wai++(wbc))++(Ys d)++QAF++(GB d w0)++XU++(QGR f'))):=by kernel_rfl
theorem Qgm(u u':Nat->Nat->Int)(l:List Lay)(f:List Jn)(f':List Jn):QF 520 [(.bool false false)] ([(Yk d l),(201,.mp E.1 E.2),(Yu d),(393,.lp LoopState.done (some (Code.exit 0)) (faT d w0) (Array.mk [24]) (QQ f43 0).1 (QQ f43 0).2),(qW f'),(YC l),(536,.rowz true 4 [CK.bool] d.ps.n u'),(qB f')]) (KX (faV d E w0 (QQ f43 0).1 (QQ f43 0).2 u l f f'))=(some ([false=false]++(Ys d)++(Hu E d l)++([QB 1 d.ps.n u' u]++waT++(wbc))++(Ys d)++QAF++(GB d w0)++XU++(QGR f'))):=by kernel_rfl
def ZO(s:LJ):Qi LJ->UC
 | .go s'=>faU d E w0 ac body (QD l) l s.1 s'.1
 | .stop s'=>faV d E w0 ac body (QD l) l s.1 s'.1
open Classical in
def Wo:List Prop->Bool:=if t<Qe d p then QK else λ_=>false
def j4(P:Program)(d:Puz)(E:ECt)(w0:List Jn)(ac body:Code)(rec:List Lay->LJ->Qi LJ)(l:List Lay)(p:Nat)(k:Nat×LJ):Env:=
 mkE P (QCu (Wo d p k.1) (Wo d p k.1) d E w0 l ⟨p,k.1⟩ (KA d E l ⟨p,k.1⟩) (ZO d E w0 ac body (l++[⟨p,k.1⟩]) k.2 (rec (l++[⟨p,k.1⟩]) k.2)))
def Ze(rec:List Lay->LJ->Qi LJ)(l:List Lay)(p:Nat)(k:Nat×LJ)(e:Ex)(J:JSt):Prop:=match KC (KP d E rec l p) ((List.range (Qe d p)).drop k.1) k.2 with
 | .go s'=>e = .exit 2/\J=QA3 d E w0 ac body (QD l) l s'.1 p
 | .stop s'=>e = .ret/\J=faF d E w0 ac body (QD l) l s'.1
set_option maxHeartbeats 1000000 in
theorem Qar(rec:List Lay->LJ->Qi LJ)(l:List Lay)(p:Nat)(hp:p<d.ps.n)(hn:d.ps.n<=1000)(hl:l.length<=1000)(hu:Q6 l p=false):K6 (λk:Nat×LJ=>Gv d E w0 ac body (QD l) l k.2.1 p (tnV d p) k.1) (λk=>k.1<=Qe d p) (λk=>Qe d p-k.1) (Ze d E w0 ac body rec l p) 520 QIO WN (j4 prog d E w0 ac body rec l p) (λk=>hnd (j4 prog d E w0 ac body rec l p k) 0) (QW (QI f103 0)):=by
 refine⟨λk g0 hk=>?_⟩;obtain⟨t,f,hq0⟩:=k;have hk:t<=Qe d p:=hk;obtain⟨ht1,ht4⟩:=Yr d p;have hlen:(l++[(⟨p,t⟩:Lay)]).length=l.length+1:=by rw[List.length_append,List.length_singleton]
 have hw1:i64.wrap (((l++[(⟨p,t⟩:Lay)]).length:Int)-1)=l.length:=(w64 (by omega) (by omega)).trans (by omega)
 have hpop:(i64.wrap (((l++[(⟨p,t⟩:Lay)]).length:Int)-1)).toNat=l.length:=by rw[hw1];exact Int.toNat_natCast _
 have hle:l.length<=(l++[(⟨p,t⟩:Lay)]).length:=by omega
 have hpb:t<Qe d p->Wo d p t=QK:=λh=>by unfold Wo;rw[if_pos h]
 have wt:t<Qe d p->i64.wrap ((t:Int)+1)=((t+1:Nat):Int):=λh=>(w64 (by omega) (by omega)).trans (by omega)
 have step:=λh:t<Qe d p=>jF (f:=KP d E rec l p) h ⟨f,hq0⟩;unfold j4;simp only
 have next:t<Qe d p->∀{s2:LJ},KP d E rec l p ⟨f,hq0⟩ t = .go s2->∀ e J,Ze d E w0 ac body rec l p (t+1,s2) e J->Ze d E w0 ac body rec l p (t,⟨f,hq0⟩) e J:=by
  intro h s2 he e J hr;unfold Ze at hr ⊢;simp only at hr ⊢;rw[step h,he];exact hr
 have last:Qe d p<=t->Ze d E w0 ac body rec l p (t,⟨f,hq0⟩) (.exit 2) (QA3 d E w0 ac body (QD l) l f p):=by
  intro h;unfold Ze;simp only[W9 h,and_self]
 cases hr:rec (l++[⟨p,t⟩]) ⟨f,hq0⟩with
 | go s'=>
  obtain⟨f',hq1⟩:=s';simp only[ZO];have et:=Qdq (Wo d p t) (Wo d p t) d E w0 ac body (QD l) (QD (l++[⟨p,t⟩])) l (l++[⟨p,t⟩]) (KA d E l ⟨p,t⟩) f p (tnV d p) t f' g0;refine Qh et ?_;clear et;refine QE (λb0=>?_) (λb0=>?_);have h:t<Qe d p:=by have:=qdt b0;omega
  rw[hpb h];have hw:=wt h;refine QG ?_ ?_;rotate_left;refine QE ?_ ?_<;>intro b1
  .exact Bool.noConfusion (show false=true from b1)
  refine QG ?_ ?_;rotate_left;refine QE (λb2=>?_) (λb2=>?_);have hv:KA d E l ⟨p,t⟩=false:=by simpa using b2
  have ho:KP d E rec l p ⟨f,hq0⟩ t = .go ⟨f,hq0⟩:=by unfold KP;rw[hv];rfl
  refine⟨(t+1,⟨f,hq0⟩),h,by show Qe d p-(t+1)<Qe d p-t;omega,next h ho,rfl,rfl,_,QTy d E w0 ac body (QD l) l f p (tnV d p) t (t+1),?_⟩
  rotate_left
  iterate 7 (refine QG ?_ ?_;rotate_left)
  refine QE ?_ ?_<;>intro b3
  .cases b3
  have hv:KA d E l ⟨p,t⟩=true:=by simpa using b2
  have ho:KP d E rec l p ⟨f,hq0⟩ t = .go ⟨f',hq1⟩:=by unfold KP;rw[hv];exact hr
  have hb:=jB l d.ps.n p t hu;have hq:=jV l ⟨p,t⟩;have hnx:=next h ho
  clear next last step hr ho
  generalize QD (l++[⟨p,t⟩])=u2 at hb ⊢;generalize l++[⟨p,t⟩]=l2 at hpop hle hq ⊢;generalize hu1:QD l=u1 at hb ⊢;refine⟨(t+1,⟨f',hq1⟩),h,by show Qe d p-(t+1)<Qe d p-t;omega,hnx,rfl,rfl,_,Qg6 d E w0 ac body u1 u2 u1 l l2 p (tnV d p) t (t+1) f',?_⟩
  rotate_left
  have h:Qe d p<=t:=by have:=qdf b0;omega
  refine⟨_,last h,rfl,rfl,_,QQC d E w0 ac body (QD l) l f p,?_⟩
  rotate_left
  all_goals first|((with_reducible show _=true);(first|rfl|(refine KG.2 ?_;repeat' first|with_reducible refine QM ?_ ?_|exact tv|with_reducible exact qRr|with_reducible exact hlen|with_reducible exact hlen.symm|with_reducible exact Nat.le_of_eq hlen|with_reducible exact Z8 l ⟨p,t⟩|with_reducible exact WP l _ p t|exact rfl|refine aI ?_ ?_)|(rw[hw1];simp)|(simp;omega)))|(repeat' first|with_reducible refine QM ?_ ?_|exact tv|with_reducible exact qRr|with_reducible exact hw|with_reducible exact hpop|with_reducible exact hle|with_reducible exact hq|with_reducible exact hb|exact rfl|refine aI ?_ ?_)
 | stop s'=>
  obtain⟨f',hq1⟩:=s';simp only[ZO];have et:=QYb (Wo d p t) (Wo d p t) d E w0 ac body (QD l) (QD (l++[⟨p,t⟩])) l (l++[⟨p,t⟩]) (KA d E l ⟨p,t⟩) f p (tnV d p) t f' g0;refine Qh et ?_;clear et;refine QE (λb0=>?_) (λb0=>?_);have h:t<Qe d p:=by have:=qdt b0;omega
  rw[hpb h];have hw:=wt h;refine QG ?_ ?_;rotate_left;refine QE ?_ ?_<;>intro b1
  .exact Bool.noConfusion (show false=true from b1)
  refine QG ?_ ?_;rotate_left;refine QE (λb2=>?_) (λb2=>?_);have hv:KA d E l ⟨p,t⟩=false:=by simpa using b2
  have ho:KP d E rec l p ⟨f,hq0⟩ t = .go ⟨f,hq0⟩:=by unfold KP;rw[hv];rfl
  refine⟨(t+1,⟨f,hq0⟩),h,by show Qe d p-(t+1)<Qe d p-t;omega,next h ho,rfl,rfl,_,QTy d E w0 ac body (QD l) l f p (tnV d p) t (t+1),?_⟩
  rotate_left
  iterate 7 (refine QG ?_ ?_;rotate_left)
  refine QE (λb3=>?_) (λb3=>?_);have hv:KA d E l ⟨p,t⟩=true:=by simpa using b2
  have ho:KP d E rec l p ⟨f,hq0⟩ t = .stop ⟨f',hq1⟩:=by unfold KP;rw[hv];exact hr
  have hrel:Ze d E w0 ac body rec l p (t,⟨f,hq0⟩) .ret (faF d E w0 ac body (QD l) l f'):=by
   unfold Ze;simp only[step h,ho,and_self]
  have hb:=jB l d.ps.n p t hu;have hq:=jV l ⟨p,t⟩;clear next last step hr ho
  generalize QD (l++[⟨p,t⟩])=u2 at hb ⊢;generalize l++[⟨p,t⟩]=l2 at hpop hle hq ⊢;generalize hu1:QD l=u1 at hb hrel ⊢;refine⟨_,hrel,rfl,rfl,_,QiG d E w0 ac body u2 u1 l l2 p f',?_⟩
  rotate_left
  .cases b3
  have h:Qe d p<=t:=by have:=qdf b0;omega
  refine⟨_,last h,rfl,rfl,_,QQC d E w0 ac body (QD l) l f p,?_⟩
  rotate_left
  all_goals first|((with_reducible show _=true);(first|rfl|(refine KG.2 ?_;repeat' first|with_reducible refine QM ?_ ?_|exact tv|with_reducible exact qRr|with_reducible exact hlen|with_reducible exact hlen.symm|with_reducible exact Nat.le_of_eq hlen|with_reducible exact Z8 l ⟨p,t⟩|with_reducible exact WP l _ p t|exact rfl|refine aI ?_ ?_)|(rw[hw1];simp)|(simp;omega)))|(repeat' first|with_reducible refine QM ?_ ?_|exact tv|with_reducible exact qRr|with_reducible exact hw|with_reducible exact hpop|with_reducible exact hle|with_reducible exact hq|with_reducible exact hb|exact rfl|refine aI ?_ ?_)
def QEm(rec:List Lay->LJ->Qi LJ)(l:List Lay)(p:Nat):Prop:=∀ t,t<Qe d p->∀ s,QS prog 103 (uFC (ZO d E w0 ac body (l++[⟨p,t⟩]) s (rec (l++[⟨p,t⟩]) s)))
theorem QXy{d:Puz}{E:ECt}{w0:List Jn}{ac body:Code}{rec:List Lay->LJ->Qi LJ}{l:List Lay}{p:Nat}(hd:Kb d)(hE:WfE E)(hl:l.length<=1000)(hL:∀ y∈l,KJ d y)(hp:p<d.ps.n)(IH:QEm d E w0 ac body rec l p)(k:Nat×LJ):(j4 prog d E w0 ac body rec l p k).Sound:=by
 unfold j4 Wo
 by_cases h:k.1<Qe d p
 .rw[if_pos h];have h4:=(Yr d p).2;exact QP ((Qm.add (QFf d E l ⟨p,k.1⟩ hd hE hl hL ⟨⟨by show(0:Int)<=p;omega,by show(p:Int)<_;omega⟩,by show(0:Int)<=k.1;omega,by show(k.1:Int)<=3;omega⟩)).add (IH k.1 h k.2))
 .rw[if_neg h];exact QP ((Qm.add (Jx (by kernel_rfl) _)).add (Jx (by kernel_rfl) _))
def QBk(rec:List Lay->LJ->Qi LJ)(l:List Lay)(p:Nat)(s:LJ):List (Prop×Ex×JSt):=
 [((inZ d E rec l p s).isGo=true,.exit 2,QA3 d E w0 ac body (QD l) l (inZ d E rec l p s).s.1 p),((inZ d E rec l p s).isGo=false,.ret,faF d E w0 ac body (QD l) l (inZ d E rec l p s).s.1)]
theorem Qj9{d:Puz}{E:ECt}{w0:List Jn}{ac body:Code}{rec:List Lay->LJ->Qi LJ}{l:List Lay}(hd:Kb d)(hE:WfE E)(hl:l.length<=1000)(hL:∀ y∈l,KJ d y)(p:Nat)(s:LJ)(IH:p<d.ps.n->QEm d E w0 ac body rec l p)(G:Ctx)(hrd:G.rd=none)(hG:G.n<=520):
  Q0 (mkE prog (qM QK d l.length p)) G (QEb prog QK d E w0 ac body (QD l) l s.1 p (QBk d E w0 ac body rec l p s)) (QI f103 0):=by
 have hT:Qf (qM QK d l.length p):=Qm.add (Yf d l.length p);refine KO (body:=QW (QI f103 0)) (QP hT) hrd (by kernel_rfl) ?_
 refine JJ λhp=>?_;have hu:=QE7 hp.2;have hEnv:=QXy (ac:=ac) (body:=body) hd hE hl hL hp.1 (IH hp.1);refine JG (E0:=mkE prog (qM QK d l.length p)) (E:=j4 prog d E w0 ac body rec l p) (H:=λk=>hnd (j4 prog d E w0 ac body rec l p k) 0) (n0:=520) (s0:=(0,s)) (λ_=>rfl) hEnv hG (λk _=>Qz (hEnv k) 0 G _ hrd) (λk _=>(by decide:520<=552)) ?_ (Qar d E w0 ac body rec l p hp.1 hd.n hl hu) (Nat.zero_le _) ?_
 .intro k e J hr;unfold Ze at hr;split at hr<;>(rw[hr.2];exact(by decide:520<=552))
 .intro e J hr;unfold Ze at hr;simp only[List.drop_zero]at hr;have hi:inZ d E rec l p s=KC (KP d E rec l p) (List.range (Qe d p)) s:=rfl;unfold QBk;rw[hi];cases hc:KC (KP d E rec l p) (List.range (Qe d p)) s with
  | go s'=>
   rw[hc]at hr;exact⟨_,qmc,rfl,hr.1.symm,hr.2.symm⟩
  | stop s'=>
   rw[hc]at hr;exact⟨_,List.mem_cons_of_mem _ qmc,rfl,hr.1.symm,hr.2.symm⟩
