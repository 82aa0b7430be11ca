/- - -/
import Derived.Test.YtekbmehgcofnkaaGreatJzg
set_option linter.all false
noncomputable section
open Go.Proofs.Tryz
open Go.IntKind (i64)
set_option maxRecDepth 100000
namespace Go.Proofs.YtekbmehgcofnkaaGreat
open Go.SX Go.SX.Told
def eqJ(x y:Jn):Bool:=x.a==y.a&&(x.i==y.i&&(x.b==y.b&&(x.j==y.j&&true)))
variable (L:List Jn)(pb:List Prop->Bool)(d:Puz)(o:List Jn)(x:Jn)(E:ECt)(i:Nat)(v:Int)(w0:List Jn)(ac body:Code)(u':Nat->Nat->Int)(l2 l:List Lay)(u:Nat->Nat->Int)(p:Nat)(u2:Nat->Nat->Int)(f' f:List Jn)(t:Nat)(tn:Int)
def atJ:Jn:=L.getD i ⟨0,0,0,0⟩
def jnC:List AV:=[vi x.a,vi x.i,vi x.b,vi x.j]
def frJ(id:Nat)(L:List Jn):Nat×Blk:=(id,.frz [.int .i64,.int .i64,.int .i64,.int .i64] L.length λi=>QA.enc (L.getD i ⟨0,0,0,0⟩))
def jiB:List (Nat×Blk):=[(16,.cellsR 0 67 (jnC x)),frJ 8 L]
def jiU:UC:=⟨0,⟨2,[(0,.slz 8 0 L.length (.of 0)),(1,.fn (.func 93) [.ptr 16 0 0])],jiB L x,24⟩,λ_=>.int false .i64 v,λ_=>[]⟩
def jiJ(k:Nat):JSt:=⟨19,[(0,.slz 8 0 L.length (.of 0)),(1,.fn (.func 93) [.ptr 16 0 0]),(7,.int false .i64 L.length),(8,.int false .i64 k)],jiB L x,24⟩
abbrev vm:List CK:=(waG)
abbrev QGA:Nat×Blk:=(16,.cellsR 0 67 [vi x.a,vi x.i,vi x.b,vi x.j])
theorem Qft(k:Nat)(g:Nat->Value):exec (mkE prog QU) (hnd (mkE prog QU) 2) (QJ f135 0) (JSt.inst (jiJ L x k) g) (KD [] QCI) = .br (decide ((k:Int)<(L.length:Int))) (.need (decide ((0:Int)<=(k:Int)/\(k:Int)<(L.length:Int))&&decide (L.length<=L.length)) (.need (decide (k<L.length)) (.br (x.a==(L.getD k (Jn.mk (0:Int) (0:Int) (0:Int) (0:Int))).a&&(x.i==(L.getD k (Jn.mk (0:Int) (0:Int) (0:Int) (0:Int))).i&&(x.b==(L.getD k (Jn.mk (0:Int) (0:Int) (0:Int) (0:Int))).b&&(x.j==(L.getD k (Jn.mk (0:Int) (0:Int) (0:Int) (0:Int))).j&&true)))) (.leaf (.tup [.nili,.ptr 19 0 0,vi (k:Int)]) ([])) (.leaf (.tup [.nilp,.ptr 19 0 0,.slz 8 0 L.length cO,.fn (Fn.func 93) [.ptr 16 0 0],vi (L.length:Int),vi (i64.wrap ((k:Int)+1))]) ([(8,.frz vm L.length λi=>QA.enc (L.getD i (Jn.mk (0:Int) (0:Int) (0:Int) (0:Int)))),(QGA x)]))))) (.leaf (.tup [.ptr 0 0 0,.ptr 19 0 0]) ([])):=by kernel_rfl
theorem Qhm(k:Nat)(j:Int):QF 24 [vi (↑k:Int)] ([]) (Yn j)=( some [(↑k:Int)=j]):=by kernel_rfl
theorem QeR(k k':Nat):QF 24 [AV.slz (8:Nat) (0:Nat) L.length cO,AV.fn (Fn.func (93:Nat)) [AV.ptr (16:Nat) (0:Nat) (0:Nat)],vi (↑L.length:Int),vi (i64.wrap ((↑k:Int)+(1:Int)))] ([((8:Nat),Blk.frz [CK.int i64,CK.int i64,CK.int i64,CK.int i64] L.length λi=>QA.enc (L.getD i (Jn.mk (0:Int) (0:Int) (0:Int) (0:Int)))),((16:Nat),Blk.cellsR (0:Nat) (67:Nat) [vi x.a,vi x.i,vi x.b,vi x.j])]) (jiJ L x k')=( some [0=0,L.length=L.length,cO=cO,Fn.func (93:Nat)=Fn.func (93:FuncId),0=0,0=0, (↑L.length:Int)=(↑L.length:Int),i64.wrap ((↑k:Int)+(1:Int))=(↑k':Int),x.a=x.a,x.i=x.i,x.b=x.b,x.j=x.j,L.length<=L.length,QB (4:Nat) L.length (λi=>QA.enc (L.getD i (Jn.mk (0:Int) (0:Int) (0:Int) (0:Int)))) λi=>QA.enc (L.getD i (Jn.mk (0:Int) (0:Int) (0:Int) (0:Int)))]):=by kernel_rfl
theorem Qav :QF 24 [] ([]) ql=( some []):=by kernel_rfl
abbrev jiH(P:Program)(L:List Jn)(x:Jn)(X:List (Prop×Ex×JSt)):Hnd:={ hnd (mkE P QU) 2 with loop:=λ_=>KJ 24 [] (jiJ L x (0:Nat)) X }
theorem Qdf(A B:Prop)(k v:Int):VZ (mkE prog QU) (jiH prog L x [(A,.ret,Yn k),(B,.exit 0,ql)]) f135 (jiU L x v)=QC.ask (0=0) (QC.ask (L.length=L.length) (QC.ask (cO=cO) (QC.ask (Fn.func (93:FuncId)=Fn.func (93:FuncId)) (QC.ask (0=0) (QC.ask (0=0) (QC.ask ((↑L.length:Int)=(↑L.length:Int)) (QC.ask ((0:Int)=(0:Int)) (QC.ask (x.a=x.a) (QC.ask (x.i=x.i) (QC.ask (x.b=x.b) (QC.ask (x.j=x.j) (QC.ask (L.length<=L.length) (QC.ask (QB (4:Nat) L.length (λi=>QA.enc (L.getD i (Jn.mk (0:Int) (0:Int) (0:Int) (0:Int)))) λi=>QA.enc (L.getD i (Jn.mk (0:Int) (0:Int) (0:Int) (0:Int)))) (QC.both (QC.asm (A) (QC.all (λ(g0:Nat->Value)=>QC.leaf (vi k) ([])))) (QC.asm (B) (QC.all (λ(g1:Nat->Value)=>QC.leaf (vj (-1:Int)) ([])))))))))))))))))):=by kernel_rfl
theorem QZH(k v:Int):QF 24 [(vi k)] ([]) (KX (jiU L x v))=( some [k=v]):=by kernel_rfl
theorem Qfd:QF 24 [(vj (-1:Int))] ([]) (KX (jiU L x v))=( some [(-1:Int)=v]):=by kernel_rfl
def dlJ(o:List Jn)(i j:Nat):JSt:=⟨42,[(0,.slz 32 0 o.length (.of 0)),(1,.fn (.func 93) [.ptr 16 0 0]),(5,.int false .i64 i),(6,.int false .i64 j)],[(16,.cellsR 0 67 (jnC x)),rwJ true 32 o],40⟩
def dlE:JSt:=⟨42,[(0,.slz 32 0 o.length (.of 0)),(5,.int false .i64 i)],[rwJ true 32 o],40⟩
def QRK:Ex->List Nat
 | .normal=>[0,1,5,6]
 | .exit _=>[0,5]
 | .ret=>[]
abbrev QQl(j:Nat)(o:List Jn):List AV:=[vi (o.getD j (Jn.mk (0:Int) (0:Int) (0:Int) (0:Int))).a,vi (o.getD j (Jn.mk (0:Int) (0:Int) (0:Int) (0:Int))).i,vi (o.getD j (Jn.mk (0:Int) (0:Int) (0:Int) (0:Int))).b,vi (o.getD j (Jn.mk (0:Int) (0:Int) (0:Int) (0:Int))).j]
abbrev QN3(j:Nat)(o:List Jn)(x:Jn):List (Nat×Blk):=[(32,.rowz true 67 vm o.length λi_1=>bif decide (i_1=i)then KL (QQl j o) 0 (QA.enc (o.getD i (Jn.mk (0:Int) (0:Int) (0:Int) (0:Int))))else QA.enc (o.getD i_1 (Jn.mk (0:Int) (0:Int) (0:Int) (0:Int)))),(QGA x)]
theorem QdF(o:List Jn)(i j:Nat)(g:Nat->Value):exec (mkE prog QU) (hnd (mkE prog QU) 2) (QJ f92 0) (JSt.inst (dlJ x o i j) g) (KD [] QRK) = .br (decide ((j:Int)<(o.length:Int))) (.need (decide ((0:Int)<=(j:Int)/\(j:Int)<(o.length:Int))&&decide (o.length<=o.length)) (.need (decide (j<o.length)) (.br (!(x.a==(o.getD j (Jn.mk (0:Int) (0:Int) (0:Int) (0:Int))).a&&(x.i==(o.getD j (Jn.mk (0:Int) (0:Int) (0:Int) (0:Int))).i&&(x.b==(o.getD j (Jn.mk (0:Int) (0:Int) (0:Int) (0:Int))).b&&(x.j==(o.getD j (Jn.mk (0:Int) (0:Int) (0:Int) (0:Int))).j&&true))))) (.need (decide ((0:Int)<=(i:Int)/\(i:Int)<(o.length:Int))&&decide (o.length<=o.length)) (.need (decide (i<o.length)) (.leaf (.tup [.nilp,.ptr 42 0 0,.slz 32 0 o.length cO,.fn (Fn.func 93) [.ptr 16 0 0],vi (i64.wrap ((i:Int)+1)), vi (i64.wrap ((j:Int)+1))]) ((QN3 i j o x))))) (.leaf (.tup [.nilp,.ptr 42 0 0,.slz 32 0 o.length cO,.fn (Fn.func 93) [.ptr 16 0 0],vi (i:Int),vi (i64.wrap ((j:Int)+1))]) ([(32,.rowz true 67 vm o.length λi=>QA.enc (o.getD i (Jn.mk (0:Int) (0:Int) (0:Int) (0:Int)))),(QGA x)]))))) (.leaf (.tup [.ptr 0 0 0,.ptr 42 0 0,.slz 32 0 o.length cO,vi (i:Int)]) ([(32,.rowz true 67 vm o.length λi=>QA.enc (o.getD i (Jn.mk (0:Int) (0:Int) (0:Int) (0:Int))))])):=by kernel_rfl
theorem Qb0(o o':List Jn)(i j i' j':Nat):QF 24 [.slz 32 0 o.length cO,.fn (Fn.func 93) [.ptr 16 0 0],vi (i64.wrap ((i:Int)+1)),vi (i64.wrap ((j:Int)+1))] ((QN3 i j o x)) (dlJ x o' i' j')=(some [0=0,o.length=o'.length,cO=cO,Fn.func 93=Fn.func (93:FuncId),0=0,0=0,i64.wrap ((i:Int)+1)=(i':Int),i64.wrap ((j:Int)+1)=(j':Int),x.a=x.a,x.i=x.i,x.b=x.b,x.j=x.j,o'.length<=o.length,QB 4 o'.length (λi_1=>bif decide (i_1=i)then KL (QQl j o) 0 (QA.enc (o.getD i (Jn.mk (0:Int) (0:Int) (0:Int) (0:Int))))else QA.enc (o.getD i_1 (Jn.mk (0:Int) (0:Int) (0:Int) (0:Int)))) λi=>QA.enc (o'.getD i (Jn.mk (0:Int) (0:Int) (0:Int) (0:Int)))]):=by kernel_rfl
abbrev wbt(o:List Jn):List Prop:=[o.length<=o.length,QB (4:Nat) o.length (λi=>QA.enc (o.getD i (Jn.mk (0:Int) (0:Int) (0:Int) (0:Int)))) λi=>QA.enc (o.getD i (Jn.mk (0:Int) (0:Int) (0:Int) (0:Int)))]
theorem QcG(o:List Jn)(i j j':Nat):QF 24 [AV.slz (32:Nat) (0:Nat) o.length cO,AV.fn (Fn.func (93:Nat)) [AV.ptr (16:Nat) (0:Nat) (0:Nat)],vi (↑i:Int),vi (i64.wrap ((↑j:Int)+(1:Int)))] ([((32:Nat),Blk.rowz true (67:Nat) [CK.int i64,CK.int i64,CK.int i64,CK.int i64] o.length λi=>QA.enc (o.getD i (Jn.mk (0:Int) (0:Int) (0:Int) (0:Int)))),((16:Nat),Blk.cellsR (0:Nat) (67:Nat) [vi x.a,vi x.i,vi x.b,vi x.j])]) (dlJ x o i j')=( some ([0=0,o.length=o.length,cO=cO,Fn.func (93:Nat)=Fn.func (93:FuncId),0=0,0=0,(↑i:Int)=(↑i:Int),i64.wrap ((↑j:Int)+(1:Int))=(↑j':Int),x.a=x.a,x.i=x.i,x.b=x.b,x.j=x.j]++wbt o)):=by kernel_rfl
theorem Qbk(i:Nat):QF 24 [AV.slz (32:Nat) (0:Nat) o.length cO,vi (↑i:Int)] ([((32:Nat),Blk.rowz true (67:Nat) [CK.int i64,CK.int i64,CK.int i64,CK.int i64] o.length λi=>QA.enc (o.getD i (Jn.mk (0:Int) (0:Int) (0:Int) (0:Int))))]) (dlE o i)=( some ([0=0,o.length=o.length,cO=cO,(↑i:Int)=(↑i:Int)]++wbt o)):=by kernel_rfl
def vK(L:List Jn)(x:Jn)(v:Int):Tab:=QZ QU 135 (KI pb (jiU L x v))
def WJ(w:List Jn):UC:=⟨0,⟨2,[(0,.slz 8 0 L.length (.of 0)),(1,.fn (.func 93) [.ptr 16 0 0])],[rwJ true 8 L,(16,.cellsR 0 67 (jnC x))],24⟩,λm=>.slz m 0 w.length (.of 0),λm=>[rwJ true m w]⟩
abbrev dlH(P:Program)(pb:List Prop->Bool)(L:List Jn)(x:Jn)(v:Int)(i0:Nat)(X:List (Prop×Ex×JSt)):Hnd:={ hnd (mkE P (vK pb L x v)) 2 with loop:=λ_=>J9 (i0<L.length) (KJ 24 [] (dlJ x L i0 (i0+1)) X) }
abbrev wbl(L:List Jn)(x:Jn):List Prop:=[x.a=x.a,x.i=x.i,x.b=x.b,x.j=x.j,L.length<=L.length,QB 4 L.length (λi=>QA.enc (L.getD i (Jn.mk (0:Int) (0:Int) (0:Int) (0:Int)))) λi=>QA.enc (L.getD i (Jn.mk (0:Int) (0:Int) (0:Int) (0:Int)))]
theorem QbH(L:List Jn)(x:Jn)(v:Int)(i0:Nat)(o':List Jn)(i':Nat)(w:List Jn):VZ (mkE prog (vK pb L x v)) (dlH prog pb L x v i0 [(True,.exit 0,dlE o' i')]) f92 (WJ L x w) = .need (pb (([0=0,L.length=L.length,cO=cO,Fn.func 93=Fn.func 93,0=0,0=0]++wbl L x))) (.br (v == -1) (.leaf (.slz 8 0 L.length cO) ([(8,.rowz true 67 vm L.length λi=>QA.enc (L.getD i (Jn.mk (0:Int) (0:Int) (0:Int) (0:Int))))])) (.ak ([i0<L.length,0=0,L.length=L.length,cO=cO,Fn.func (93:FuncId)=Fn.func (93:FuncId),0=0,0=0,v=(i0:Int),i64.wrap (v+1)=(↑(i0+1):Int)]++wbl L x) (.asm (True) (.all (λ(g0:Nat->Value)=>.need (decide ((0:Int)<=(i':Int)/\i'<=o'.length/\i'<o'.length-0)) (.need (decide (0+i'+(o'.length-i')<=o'.length/\0<o'.length)) (.need (decide ((0:Int)<=(i':Int)/\i'<=o'.length-0)) (.leaf (.slz 32 0 i' cO) ([(32,.rowz true 67 vm o'.length λi=>bif decide (0+i'<=i/\i<0+i'+(o'.length-i'))then λx=>(0:Int)else QA.enc (o'.getD i (Jn.mk (0:Int) (0:Int) (0:Int) (0:Int))))]))))))))):=by kernel_rfl
theorem Qf4(w:List Jn):QF 24 [(AV.slz (8:Nat) (0:Nat) L.length cO)] ([((8:Nat),Blk.rowz true (67:Nat) [CK.int i64,CK.int i64,CK.int i64,CK.int i64] L.length λi=>QA.enc (L.getD i (Jn.mk (0:Int) (0:Int) (0:Int) (0:Int))))]) (KX (WJ L x w))=( some [0=0,L.length=w.length,cO=cO,w.length<=L.length,QB (4:Nat) w.length (λi=>QA.enc (L.getD i (Jn.mk (0:Int) (0:Int) (0:Int) (0:Int)))) λi=>QA.enc (w.getD i (Jn.mk (0:Int) (0:Int) (0:Int) (0:Int)))]):=by kernel_rfl
theorem Qbj(x:Jn)(o':List Jn)(i':Nat)(w:List Jn):QF 24 [(AV.slz (32:Nat) (0:Nat) i' cO)] ([((32:Nat),Blk.rowz true (67:Nat) [CK.int i64,CK.int i64,CK.int i64,CK.int i64] o'.length λi=>bif decide ((0:Nat)+i'<=i/\i<(0:Nat)+i'+(o'.length-i'))then λx=>(0:Int)else QA.enc (o'.getD i (Jn.mk (0:Int) (0:Int) (0:Int) (0:Int))))]) (KX (WJ L x w))=( some [0=0,i'=w.length,cO=cO,w.length<=o'.length,QB (4:Nat) w.length (λi=>bif decide ((0:Nat)+i'<=i/\i<(0:Nat)+i'+(o'.length-i'))then λx=>(0:Int)else QA.enc (o'.getD i (Jn.mk (0:Int) (0:Int) (0:Int) (0:Int)))) λi=>QA.enc (w.getD i (Jn.mk (0:Int) (0:Int) (0:Int) (0:Int)))]):=by kernel_rfl
theorem QHd{p:Nat->Bool}:∀{m k i:Nat},QR p m k=some i->k<=i/\i<k+m/\p i=true/\∀ j,k<=j->j<i->p j=false
 | 0,k,i,h=>by cases h
 | m+1,k,i,h=>by
  simp only[QR]at h;split at h
  .rename_i hk;simp only[qsI]at h;subst h;exact⟨qlr _,by omega,hk,λj h1 h2=>by omega⟩
  .rename_i hk;obtain⟨h1,h2,h3,h4⟩:=QHd h;refine⟨by omega,by omega,h3,λj h5 h6=>?_⟩
   rcases Nat.eq_or_lt_of_le h5 with rfl|h7
   .exact hk
   .exact h4 j h7 h6
def K7:Option Nat:=QR (λi=>eqJ x (atJ L i)) L.length 0
def J5(L:List Jn):List Jn:=L.filter λy=>!eqJ x y
def Jh(x:Jn):Nat->List Jn->Nat->Nat->List Jn×Nat
 | 0,o,i,_=>(o,i)
 | m+1,o,i,j=>cond (eqJ x (atJ o j)) (Jh x m o i (j+1)) (Jh x m (o.set i (atJ o j)) (i+1) (j+1))
theorem QCx{L:List Jn}{i:Nat}(h:i<L.length):atJ L i=L[i]:=K8 h
theorem QGJ(x:Jn)(L:List Jn):∀(m:Nat) (o:List Jn) (i j:Nat),o.length=L.length->i<j->j+m=L.length->(∀ k,j<=k->atJ o k=atJ L k)->o.take i=J5 x (L.take j) ->
  (Jh x m o i j).1.length=L.length/\(Jh x m o i j).2<L.length/\(Jh x m o i j).1.take (Jh x m o i j).2=J5 x L
 | 0,o,i,j,h1,h2,h3,_,h5=>by
  refine⟨h1,by show i<_;omega,?_⟩
  show o.take i=_;rw[h5,List.take_of_length_le (by omega)]
 | m+1,o,i,j,h1,h2,h3,h4,h5=>by
  have hj:j<L.length:=by omega
  have hy:atJ o j=L[j]:=by rw[h4 j (qlr _),QCx hj]
  have ht:L.take (j+1)=L.take j++[L[j]]:=by rw[List.take_succ_eq_append_getElem hj]
  simp only[Jh];cases he:eqJ x (atJ o j)with
  | true=>
   simp only[cond_true];refine QGJ x L m o i (j+1) h1 (by omega) (by omega) (λk hk=>h4 k (by omega)) ?_
   rw[hy]at he;rw[h5,ht];unfold J5;rw[List.filter_append];simp[he]
  | false=>
   simp only[cond_false];rw[hy]at he ⊢;refine QGJ x L m _ (i+1) (j+1) (by rw[List.length_set];exact h1) (by omega) (by omega) (λk hk=>?_) ?_
   .rw[<-h4 k (by omega)]
    unfold atJ;rw[List.getD_eq_getElem?_getD,List.getD_eq_getElem?_getD,List.getElem?_set_ne (by omega)]
   .have hi:i<o.length:=by omega
    rw[List.take_succ_eq_append_getElem (by rw[List.length_set];exact hi),List.getElem_set_self,List.take_set_of_le (qlr i),h5,ht]
    unfold J5;rw[List.filter_append];simp[he]
theorem QgU{x:Jn}{L:List Jn}(h:K7 L x=none):J5 x L=L:=by
 unfold J5;rw[List.filter_eq_self];intro y hy;obtain⟨i,hi,rfl⟩:=List.mem_iff_getElem.1 hy;have:=qS h i (Nat.zero_le _) (by omega)
 rw[QCx hi]at this;rw[this];rfl
theorem QeP{x:Jn}{L:List Jn}{i:Nat}(h:K7 L x=some i):i<L.length/\(Jh x (L.length-(i+1)) L i (i+1)).1.length=L.length/\(Jh x (L.length-(i+1)) L i (i+1)).2<L.length/\(Jh x (L.length-(i+1)) L i (i+1)).1.take (Jh x (L.length-(i+1)) L i (i+1)).2=J5 x L:=by
 obtain⟨_,h2,h3,h4⟩:=QHd h;have hi:i<L.length:=by omega
 refine⟨hi,QGJ x L _ L i (i+1) rfl (by omega) (by omega) (λ_ _=>rfl) ?_⟩
 rw[List.take_succ_eq_append_getElem hi];unfold J5;rw[List.filter_append];rw[QCx hi]at h3
 have h5:(L.take i).filter (λy=>!eqJ x y)=L.take i:=by
  rw[List.filter_eq_self];intro y hy;obtain⟨j,hj,rfl⟩:=List.mem_iff_getElem.1 hy;rw[List.length_take]at hj;have:=h4 j (Nat.zero_le _) (by omega)
  rw[QCx (show j<L.length by omega)]at this
  rw[List.getElem_take,this];rfl
 rw[h5];simp[h3]
abbrev LJ:={f:List Jn // f.length<=1000000000}
def faT:List AV:=[.agg (Kb d),.ptr 112 0 0,.nils,.int true .i64 0,.ptr 200 0 0,.int true .i64 0,.ptr 296 0 0,.ptr 328 0 0,.tup [],.tup [],.tup [.ptr 200 0 0,.int true .i64 0],.agg (Kb d),.tup [.ptr 200 0 0,.int true .i64 0],.ptr 200 0 0,.int true .i64 0,.int true .i64 0,.bool true false,.tup [],.ptr 200 0 0,.slz 288 0 w0.length (.of 0),.ptr 200 0 0,.mth (.func 91) [.ptr 200 0 0],.ptr 200 0 0,.fn (.func 102) [.ptr 352 0 0,.ptr 360 0 0],.tup [],.tup [],.tup [],.tup [],.tup [],.tup [],.tup [],.tup [],.tup [],.tup [],.tup [],.tup []]
def QHn:List AV:=[.ptr 352 0 0,.ptr 400 0 0,.ptr 464 0 0,.ptr 360 0 0,.ptr 480 0 0]
def faR:List (Nat×Blk):=
 [(480,.cellsR 0 31 [.fn (.func 103) QHn]),(400,.cellsR 0 105 [.yld 393]),(360,.cellsR 0 96 [.nils]),(352,.cellsR 0 90 [.ptr 200 0 0]),(328,.cellsR 0 141 [.mth (.func 91) [.ptr 200 0 0]])]++Qo.blk 0 d.ps
def faW(ls:LoopState)(pe:Option Code)(d:Puz)(E:ECt)(w0:List Jn)(ac body:Code)(u:Nat->Nat->Int)(l:List Lay)(a w c:Nat)(f:List Jn):List (Nat×Blk):=
 [(200,.cells 0 152 (Kb d++[.map 201,.slz a 0 l.length (.of 0)])),(201,.mp E.1 E.2),rwY a l,(464,.cells 0 114 [.slz w 0 d.ps.n (.of 0)]),rwU w d u,(393,.lp ls pe (faT d w0) #[24] ac body),(296,.cells 0 64 [.slz c 0 f.length (.of 0)]),rwJ true c f]
def faS:List (Nat×AV):=[(0,.ptr 352 0 0),(1,.ptr 400 0 0),(2,.ptr 464 0 0),(3,.ptr 360 0 0),(4,.ptr 480 0 0)]
def ve(l:List Lay)(f:List Jn):JSt:=⟨5,faS,faW .ready none d E w0 ac body u l 496 504 512 f++faR d,520⟩
def faU(l:List Lay)(f:List Jn)(f':List Jn):UC:=
 ⟨488,ve d E w0 ac body u l f,λ_=>.bool false true,λm=>faW .ready none d E w0 ac body u l m (m+1) (m+2) f'⟩
def faV(l:List Lay)(f:List Jn)(f':List Jn):UC:=
 ⟨488,ve d E w0 ac body u l f,λ_=>.bool false false,λm=>faW .done (some (.exit 0)) d E w0 ac body u l m (m+1) (m+2) f'⟩
def Z7:List Nat:=[200,201,464,393,296]
def QGU(n:Nat)(p:Nat):List (Nat×AV):=faS++[(33,.int false .i64 n),(34,.int false .i64 p)]
def QXs(n:Nat)(p:Nat)(tn:Int)(t:Nat):List (Nat×AV):=QGU n p++[(6,.int false .i64 p),(43,.int false .i64 tn),(44,.int false .i64 t)]
def Gb(l:List Lay)(f:List Jn)(p:Nat):JSt:=⟨101,QGU d.ps.n p,faW .ready none d E w0 ac body u l 528 536 544 f++faR d,552⟩
def zw(l:List Lay)(f:List Jn)(p:Nat)(tn:Int)(t:Nat):JSt:=⟨101,QXs d.ps.n p tn t,faW .ready none d E w0 ac body u l 528 536 544 f++faR d,552⟩
def HR(l:List Lay)(f:List Jn):JSt:=⟨101,[],faW .ready none d E w0 ac body u l 528 536 544 f,552⟩
def H1(l:List Lay)(f:List Jn)(p:Nat):JSt:=⟨101,QGU d.ps.n p,faW .ready none d E w0 ac body u l 528 536 544 f++faR d,552⟩
def faF(l:List Lay)(f:List Jn):JSt:=⟨101,[(5,.bool false false)],faW .done (some (.exit 0)) d E w0 ac body u l 528 536 544 f,552⟩
def QTI:Ex->List Nat
 | .normal=>[0,1,2,3,4,33,34]
 | .exit _=>[]
 | .ret=>[5]
def QJC:Ex->List Nat
 | .normal=>[0,1,2,3,4,33,34,6,43,44]
 | .exit _=>[0,1,2,3,4,33,34]
 | .ret=>[5]
def QBU(pb1 pb2:List Prop->Bool)(d:Puz)(E:ECt)(w0:List Jn)(l:List Lay)(x:Lay)(v:Bool)(U:UC):Tab:=QZ (QZ QU 105 (KI pb1 (myU d E l x v))) 103 (KI pb2 U)
abbrev waJ:List AV:=[.ptr 352 0 0,.ptr 400 0 0,.ptr 464 0 0,.ptr 360 0 0,.ptr 480 0 0]
abbrev zv:List AV:=(.nilp::.ptr 101 0 0::List.append (waJ) ((vi (d.ps.n:Int)::wbC p t tn)))
abbrev qx:Nat×Blk:=(352,.cellsR 0 90 [.ptr 200 0 0])
abbrev QD3:Nat×Blk:=(480,.cellsR 0 31 [.fn (Fn.func 103) (waJ)])
abbrev j4:Nat×Blk:=(0,.frz (wae) d.ps.n λi=>QA.enc (d.ps.get i))
abbrev j5:Nat×Blk:=(328,.cellsR 0 141 [.mth (Fn.func 91) [.ptr 200 0 0]])
abbrev waS:List (Nat×Blk):=[(400,.cellsR 0 105 [.yld 393]),(360,.cellsR 0 96 [.nils])]
abbrev Wd(d:Puz)(f:List Jn)(l:List Lay)(u:Nat->Nat->Int)(w0:List Jn):List (Nat×Blk):=((200,.cells 0 152 (List.append (waf d) ([.map 201,.slz 528 0 l.length cO])))::(201,.mp E.1 E.2)::(464,.cells 0 114 [.slz 536 0 d.ps.n cO])::(393,.lp LoopState.ready none (faT d w0) (Array.mk [24]) ac body)::(296,.cells 0 64 [.slz 544 0 f.length cO])::qx::List.append (waS) ([QD3,(j4 d),(528,.rowz true 49 kB l.length λi=>QA.enc (l.getD i (Lay.mk (0:Int) (0:Int)))),(536,.rowz true 4 [CK.bool] d.ps.n u),j5,(544,.rowz true 67 (waG) f.length λi=>QA.enc (f.getD i (Jn.mk (0:Int) (0:Int) (0:Int) (0:Int))))]))
abbrev QKY(d:Puz)(l:List Lay)(p:Nat)(t:Nat):List Prop:=([0=0,0=0,(p:Int)=(p:Int),(t:Int)=(t:Int)]++waa d++(((wb3 l)++wag l++[E.1=E.1,E.2=E.2])++wad d))
abbrev wah(f:List Jn):List Prop:=[f.length<=f.length,QB 4 f.length (λi=>QA.enc (f.getD i (Jn.mk (0:Int) (0:Int) (0:Int) (0:Int)))) λi=>QA.enc (f.getD i (Jn.mk (0:Int) (0:Int) (0:Int) (0:Int)))]
abbrev waU(l:List Lay)(l2:List Lay)(p:Nat)(t:Nat):List Prop:=[l2.length<=l.length+1,QB 2 l2.length (KH l.length (λi=>QA.enc (l.getD i (Lay.mk (0:Int) (0:Int)))) (Kt [[.int false .i64 (p:Int),vi (t:Int)]] 0)) λi=>QA.enc (l2.getD i (Lay.mk (0:Int) (0:Int)))]
abbrev wb1:List Prop:=(wb5++[(0:Int)=0,0=0,0=0,0=0,0=0,0=0])
abbrev QML(d:Puz)(f:List Jn)(l:List Lay)(l2:List Lay)(p:Nat)(t:Nat)(u:Nat->Nat->Int)(u2:Nat->Nat->Int)(w0:List Jn):List Prop:=((wbN)++waa d++([cO=cO,0=0,l.length+1=l2.length,cO=cO,E.1=E.1,E.2=E.2]++waU l l2 p t++(wbo d++[QB 1 d.ps.n (λi=>bif decide (i=p)then KL [.bool true true] 0 (u ((p:Int).toNat+0))else u i) u2,LoopState.ready=LoopState.ready,(none:Option Code)=none,Array.mk [24]=Array.mk [24],ac=ac,body=body]))++waa d++(wb1++[0=0,(0:Int)=0])++waa d++((((wb5)++wa2++([0=0,0=0,0=0,w0.length=w0.length,cO=cO,0=0,0=0,Fn.func 91=Fn.func 91,0=0,0=0,0=0,0=0]++wb6++[0=0,f.length=f.length,cO=cO]))++wah f++([Fn.func 103=Fn.func 103]++wbN++[0=0,0=0,Fn.func 91=Fn.func 91,0=0,0=0]))++wad d))
abbrev zN:Nat×Blk:=(200,.cells 0 152 (List.append (waf d) ([.map 201,.slz 864 0 (i64.wrap ((l2.length:Int)-1)).toNat cO])))
abbrev Hc:Nat×Blk:=(464,.cells 0 114 [.slz 865 0 d.ps.n cO])
abbrev zV:Nat×Blk:=(296,.cells 0 64 [.slz 866 0 f'.length cO])
abbrev zI:Nat×Blk:=(864,.rowz true 49 kB l2.length λi=>QA.enc (l2.getD i (Lay.mk (0:Int) (0:Int))))
abbrev HA:Nat×Blk:=(865,.rowz true 4 [CK.bool] d.ps.n λi=>bif decide (i=p)then KL [.bool true false] 0 (u2 ((p:Int).toNat+0))else u2 i)
abbrev Ha:Nat×Blk:=(866,.rowz true 67 (waG) f'.length λi=>QA.enc (f'.getD i (Jn.mk (0:Int) (0:Int) (0:Int) (0:Int))))
abbrev QNM:List AV:=(.ptr 2 0 0::.ptr 101 0 0::List.append (waJ) ([vi (d.ps.n:Int),vi (p:Int)]))
theorem QiJ(pb1 pb2:List Prop->Bool)(d:Puz)(E:ECt)(w0:List Jn)(ac body:Code)(u u2:Nat->Nat->Int)(l l2:List Lay)(v:Bool)(f:List Jn)(p:Nat)(tn:Int)(t:Nat)(f':List Jn)(g0:Nat->Value):exec (mkE prog (QBU pb1 pb2 d E w0 l ⟨p,t⟩ v (faU d E w0 ac body u2 l2 f f'))) (hnd (mkE prog (QBU pb1 pb2 d E w0 l ⟨p,t⟩ v (faU d E w0 ac body u2 l2 f f'))) 0) (Qa (QJ f103 0)) (JSt.inst (zw d E w0 ac body u l f p tn t) g0) (KD Z7 QJC) = .br (decide ((t:Int)<tn)) (.need (true) (.br (!Qs (Rw.mk 0 λi=>Pt.mk (0:Int) (Lay.mk (0:Int) (0:Int))) (l.length:Int) (Lay.mk (p:Int) (t:Int))) (.leaf (.tup (zv d p t tn)) ((Wd E ac body d f l u w0))) (.need (pb1 ((QKY E d l p t))) (.br (!v) (.leaf (.tup (zv d p t tn)) ((Wd E ac body d f l u w0))) (.need (decide ((0:Int)<=(p:Int)/\(p:Int)<(d.ps.n:Int))&&decide (d.ps.n<=d.ps.n)) (.need (decide (p<d.ps.n)) (.need (decide (l.length<=l.length)&&(true&&decide ((l.length+1+(l.length+1) / 4+192)*16<=281474976710656/\l.length+1<=9223372036854775807))) (.need (pb2 ((QML E ac body d f l l2 p t u u2 w0))) (.need (decide ((0:Int)<=i64.wrap ((l2.length:Int)-1)/\(i64.wrap ((l2.length:Int)-1)).toNat<=l2.length-0)) (.need (decide ((0:Int)<=(p:Int)/\(p:Int)<(d.ps.n:Int))&&decide (d.ps.n<=d.ps.n)) (.need (decide (p<d.ps.n)) (.br (false) (.leaf (.tup (wbs)) ([(zN d l2),(201,.mp E.1 E.2),(Hc d),(393,.lp LoopState.ready none (faT d w0) (Array.mk [24]) ac body),(zV f'),(j4 d),(zI l2),(HA d p u2),j5,qx,(360,.cellsR 0 96 [.nils]),(Ha f')])) (.leaf (.tup (zv d p t tn)) (((zN d l2)::(201,.mp E.1 E.2)::(Hc d)::(393,.lp LoopState.ready none (faT d w0) (Array.mk [24]) ac body)::(zV f')::qx::List.append (waS) ([QD3,(j4 d),(zI l2),(HA d p u2),j5,(Ha f')])))))))))))))))) (.leaf (.tup (QNM d p)) ((Wd E ac body d f l u w0))):=by kernel_rfl
abbrev QOP:List AV:=(List.append (waJ) ((wbR d p t tn)))
abbrev wb2(w0:List Jn):List Prop:=[0=0,0=0,0=0,w0.length=w0.length,cO=cO,0=0,0=0,Fn.func (91:FuncId)=Fn.func (91:FuncId)]
abbrev QaU(d:Puz)(f:List Jn)(l:List Lay)(p:Nat)(t:Nat)(t':Nat)(tn:Int)(u:Nat->Nat->Int)(w0:List Jn):List Prop:=(((wbN)++waH d p t t' tn)++waa d++(([cO=cO,0=0]++wbO E l)++wag l++((wbo d++[QB 1 d.ps.n u u])++wai++[Array.mk [24]=Array.mk [(24:Tmp)],ac=ac,body=body]))++waa d++(wb1++[0=0,(0:Int)=0])++waa d++((((wb5)++wa2++((wb2 w0++[0=0,0=0])++wbY++[0=0,0=0,f.length=f.length,cO=cO]))++wah f++([Fn.func 103=Fn.func (103:FuncId)]++wbN++[0=0,0=0,Fn.func 91=Fn.func (91:FuncId),0=0,0=0]))++wad d))
theorem QRO(l:List Lay)(f:List Jn)(p:Nat)(tn:Int)(t t':Nat):QF 520 (QOP d p t tn) ((Wd E ac body d f l u w0)) (zw d E w0 ac body u l f p tn t')=(some (QaU E ac body d f l p t t' tn u w0)):=by kernel_rfl
abbrev Jy:List Prop:=[0=0,0=0,0=0,0=0]
abbrev Zt:List Prop:=(waa d++[cO=cO,0=0])
abbrev QMF(d:Puz)(l:List Lay)(l2:List Lay)(p:Nat)(u2:Nat->Nat->Int)(u3:Nat->Nat->Int):List Prop:=([cO=cO]++waM E l l2++(wbo d++[QB 1 d.ps.n (λi=>bif decide (i=p)then KL [.bool true false] 0 (u2 ((p:Int).toNat+0))else u2 i) u3]))
abbrev QHL:List Prop:=[0=0,(0:Int)=0,0=0,0=0,(0:Int)=0]
abbrev QHS:List Prop:=([0=0,0=0]++wa2++(wb2 w0))
abbrev wax(f':List Jn):List Prop:=[f'.length<=f'.length,QB 4 f'.length (λi=>QA.enc (f'.getD i (Jn.mk (0:Int) (0:Int) (0:Int) (0:Int)))) λi => QA.enc (f'.getD i (Jn.mk (0:Int) (0:Int) (0:Int) (0:Int)))]
abbrev QST:List Prop:=([0=0,f'.length=f'.length,cO=cO]++wax f')
abbrev QLU:List Prop:=([Fn.func 91=Fn.func (91:FuncId),0=0,0=0]++wad d)
theorem Qeg(u u2 u3:Nat->Nat->Int)(l l2:List Lay)(p:Nat)(tn:Int)(t t':Nat)(f':List Jn):QF 520 (QOP d p t tn) (((zN d l2)::(201,.mp E.1 E.2)::(Hc d)::(393,.lp LoopState.ready none (faT d w0) (Array.mk [24]) ac body)::(zV f')::qx::List.append (waS) ([QD3,(j4 d),(zI l2),(HA d p u2),j5,(Ha f')]))) (zw d E w0 ac body u3 l f' p tn t')=(some (Jy++Jy++([0=0,0=0]++waH d p t t' tn)++(Zt d)++[(i64.wrap ((l2.length:Int)-1)).toNat=l.length]++(QMF E d l l2 p u2 u3)++(wai++[Array.mk [24]=Array.mk [(24:Tmp)],ac=ac,body=body])++(Zt d)++QHL++Jy++[0=0,0=0,(0:Int)=0]++(Zt d)++[0=0,(0:Int)=0]++(QHS w0)++Jy++[Fn.func (102:FuncId)=Fn.func (102:FuncId)]++Jy++(QST f')++[Fn.func 103=Fn.func (103:FuncId)]++Jy++Jy++Jy++(QLU d))):=by kernel_rfl
theorem QME(l:List Lay)(f:List Jn)(p:Nat):QF 520 (List.append (waJ) ([vi (d.ps.n:Int),vi (p:Int)])) ((Wd E ac body d f l u w0)) (H1 d E w0 ac body u l f p)=(some (Jy++Jy++([0=0,0=0]++wbp d p)++(Zt d)++((wbO E l)++wag l++((wbo d++[QB 1 d.ps.n u u])++wai++[Array.mk [24]=Array.mk [(24:Tmp)],ac=ac,body=body]))++(Zt d)++QHL++Jy++[0=0,0=0,(0:Int)=0]++(Zt d)++[0=0,(0:Int)=0]++(QHS w0)++Jy++[Fn.func (102:FuncId)=Fn.func (102:FuncId)]++Jy++([0=0,f.length=f.length,cO=cO]++wah f++[Fn.func 103=Fn.func (103:FuncId)])++Jy++Jy++Jy++(QLU d))):=by kernel_rfl
theorem QeS(pb1 pb2:List Prop->Bool)(d:Puz)(E:ECt)(w0:List Jn)(ac body:Code)(u u2:Nat->Nat->Int)(l l2:List Lay)(v:Bool)(f:List Jn)(p:Nat)(tn:Int)(t:Nat)(f':List Jn)(g0:Nat->Value):exec (mkE prog (QBU pb1 pb2 d E w0 l ⟨p,t⟩ v (faV d E w0 ac body u2 l2 f f'))) (hnd (mkE prog (QBU pb1 pb2 d E w0 l ⟨p,t⟩ v (faV d E w0 ac body u2 l2 f f'))) 0) (Qa (QJ f103 0)) (JSt.inst (zw d E w0 ac body u l f p tn t) g0) (KD Z7 QJC) = .br (decide ((t:Int)<tn)) (.need (true) (.br (!Qs (Rw.mk 0 λi=>Pt.mk (0:Int) (Lay.mk (0:Int) (0:Int))) (l.length:Int) (Lay.mk (p:Int) (t:Int))) (.leaf (.tup (zv d p t tn)) ((Wd E ac body d f l u w0))) (.need (pb1 ((QKY E d l p t))) (.br (!v) (.leaf (.tup (zv d p t tn)) ((Wd E ac body d f l u w0))) (.need (decide ((0:Int)<=(p:Int)/\(p:Int)<(d.ps.n:Int))&&decide (d.ps.n<=d.ps.n)) (.need (decide (p<d.ps.n)) (.need (decide (l.length<=l.length)&&(true&&decide ((l.length+1+(l.length+1) / 4+192)*16<=281474976710656/\l.length+1<=9223372036854775807))) (.need (pb2 ((QML E ac body d f l l2 p t u u2 w0))) (.need (decide ((0:Int)<=i64.wrap ((l2.length:Int)-1)/\(i64.wrap ((l2.length:Int)-1)).toNat<=l2.length-0)) (.need (decide ((0:Int)<=(p:Int)/\(p:Int)<(d.ps.n:Int))&&decide (d.ps.n<=d.ps.n)) (.need (decide (p<d.ps.n)) (.br (true) (.leaf (.tup (wbs)) ([(zN d l2),(201,.mp E.1 E.2),(Hc d),(393,.lp LoopState.done (some (Code.exit 0)) (faT d w0) (Array.mk [24]) ac body), (zV f'),(j4 d),(zI l2),(HA d p u2),j5,qx,(360,.cellsR 0 96 [.nils]),(Ha f')])) (.leaf (.tup (zv d p t tn)) (((zN d l2)::(201,.mp E.1 E.2)::(Hc d)::(393,.lp LoopState.done (some (Code.exit 0)) (faT d w0) (Array.mk [24]) ac body)::(zV f')::qx::List.append (waS) ([QD3,(j4 d),(zI l2),(HA d p u2),j5,(Ha f')])))))))))))))))) (.leaf (.tup (QNM d p)) ((Wd E ac body d f l u w0))):=by kernel_rfl
theorem Qhc(u2 u3:Nat->Nat->Int)(l l2:List Lay)(p:Nat)(f':List Jn):QF 520 [.bool true false] ([(zN d l2),(201,.mp E.1 E.2),(Hc d),(393,.lp LoopState.done (some (Code.exit 0)) (faT d w0) (Array.mk [24]) ac body),(zV f'),(j4 d), (zI l2),(HA d p u2),j5,qx,(360,.cellsR 0 96 [.nils]),(Ha f')]) (faF d E w0 ac body u3 l f')=(some ([false=false]++(Zt d)++[(i64.wrap ((l2.length:Int)-1)).toNat=l.length]++(QMF E d l l2 p u2 u3)++(waP++[Array.mk [24]=Array.mk [(24:Tmp)],ac=ac,body=body])++(Zt d)++QHL++Jy++[0=0,0=0,(0:Int)=0]++(Zt d)++[0=0,(0:Int)=0]++(QHS w0)++Jy++[Fn.func (102:FuncId)=Fn.func (102:FuncId)]++Jy++(QST f'))):=by kernel_rfl
def qb(n:Nat)(a:Int):Tab:=QZ QU 52 (KI pb (tnU d n a))
abbrev QCj(P:Program)(pb:List Prop->Bool)(d:Puz)(E:ECt)(w0:List Jn)(ac body:Code)(u:Nat->Nat->Int)(l:List Lay)(f:List Jn)(p:Nat)(X:List (Prop×Ex×JSt)):Hnd:={ hnd (mkE P (qb pb d l.length p)) 0 with loop:=λ_=>J9 (p<d.ps.n/\u p 0=0) (KJ 520 Z7 (zw d E w0 ac body u l f p (tnV d p) (0:Nat)) X) }
abbrev QTy:List AV:=(.nilp::.ptr 101 0 0::List.append (waJ) ([vi (d.ps.n:Int),vi (i64.wrap ((p:Int)+1))]))
abbrev YC:Nat×Blk:=(200,.cells 0 152 (List.append (waf d) ([.map 201,.slz 528 0 l.length cO])))
abbrev Xs:Nat×Blk:=(464,.cells 0 114 [.slz 536 0 d.ps.n cO])
abbrev HN(d:Puz)(w0:List Jn):Nat×Blk:=(393,.lp LoopState.ready none (faT d w0) (Array.mk [24]) ac body)
abbrev QCt:Nat×Blk:=(296,.cells 0 64 [.slz 544 0 f.length cO])
abbrev G1:Nat×Blk:=(352,.cellsR 0 90 [.ptr 200 0 0])
abbrev QDo:Nat×Blk:=(480,.cellsR 0 31 [.fn (Fn.func 103) (waJ)])
abbrev zj:Nat×Blk:=(0,.frz (wae) d.ps.n λi=>QA.enc (d.ps.get i))
abbrev Yf:Nat×Blk:=(528,.rowz true 49 kB l.length λi=>QA.enc (l.getD i (Lay.mk (0:Int) (0:Int))))
abbrev vo:Nat×Blk:=(328,.cellsR 0 141 [.mth (Fn.func 91) [.ptr 200 0 0]])
abbrev QDR:Nat×Blk:=(544,.rowz true 67 (waG) f.length λi=>QA.enc (f.getD i (Jn.mk (0:Int) (0:Int) (0:Int) (0:Int))))
abbrev qk:Nat×Blk:=(296,.cells 0 64 [.slz 544 0 f'.length cO])
abbrev qC:Nat×Blk:=(544,.rowz true 67 (waG) f'.length λi=>QA.enc (f'.getD i (Jn.mk (0:Int) (0:Int) (0:Int) (0:Int))))
theorem QOv(u u':Nat->Nat->Int)(l:List Lay)(f:List Jn)(p:Nat)(A B:Prop)(f':List Jn)(g0:Nat->Value):exec (mkE prog (qb pb d l.length p)) (QCj prog pb d E w0 ac body u l f p [(A,.exit 2,H1 d E w0 ac body u' l f' p),(B,.ret,faF d E w0 ac body u' l f')]) (QJ f103 0) (JSt.inst (Gb d E w0 ac body u l f p) g0) (KD Z7 QTI) = .br (decide ((p:Int)<(d.ps.n:Int))) (.need (decide ((0:Int)<=(p:Int)/\(p:Int)<(d.ps.n:Int))&&decide (d.ps.n<=d.ps.n)) (.need (decide (p<d.ps.n)) (.br (decide (u ((p:Int).toNat+0) 0=1)) (.leaf (.tup (QTy d p)) (((YC d l)::(201,.mp E.1 E.2)::(Xs d)::(HN ac body d w0)::(QCt f)::G1::List.append (waS) ([QDo,(zj d),(Yf l),(536,.rowz true 4 [CK.bool] d.ps.n u),vo,(QDR f)])))) (.need (pb (([0=0,0=0,(p:Int)=(p:Int)]++waa d++((wb3 l)++wad d)))) (.ak [p<d.ps.n/\u p 0=0] (.ak (rz 10) (.ak ((wbp d p++(wbU d p))++waa d++(([cO=cO,0=0]++wbO E l)++wag l++((wbo d++[QB 1 d.ps.n u u])++wai++[Array.mk [(24:Tmp)]=Array.mk [(24:Tmp)],ac=ac,body=body]))++waa d++(wb1++[0=0,(0:Int)=0])++waa d++(((wb5)++wa2++((wb2 w0++[0=0,0=0])++wbY++[0=0,0=0,f.length=f.length,cO=cO]))++wah f++[Fn.func (103:FuncId)=Fn.func (103:FuncId)])) (.ak (rz 12) (.ak ([Fn.func (91:FuncId)=Fn.func (91:FuncId),0=0,0=0]++wad d) (.both (.asm (A) (.all (λ(g0:Nat->Value)=>.leaf (.tup (QTy d p)) (((YC d l)::(201,.mp E.1 E.2)::(Xs d)::(HN ac body d w0)::(qk f')::G1::List.append (waS) ([QDo,(zj d),(Yf l),(536,.rowz true 4 [CK.bool] d.ps.n u'),vo,(qC f')])))))) (.asm (B) (.all (λ(g1:Nat->Value)=>.leaf (.tup [.nili,.ptr 101 0 0,.bool false false]) ([(YC d l),(201,.mp E.1 E.2),(Xs d),(393,.lp LoopState.done (some (Code.exit 0)) (faT d w0) (Array.mk [24]) ac body),(qk f'), (Yf l),(536,.rowz true 4 [CK.bool] d.ps.n u'),(qC f')])))))))))))))) (.leaf (.tup [.ptr 0 0 0,.ptr 101 0 0]) ([(YC d l),(201,.mp E.1 E.2),(Xs d),(HN ac body d w0),(QCt f),(zj d),(Yf l),(536,.rowz true 4 [CK.bool] d.ps.n u),vo,G1,(360,.cellsR 0 96 [.nils]), (QDR f)])):=by kernel_rfl
abbrev QQz:List AV:=(List.append (waJ) ([vi (d.ps.n:Int),vi (i64.wrap ((p:Int)+1))]))
abbrev XD:List Prop:=[0=0,0=0,0=0,0=0,0=0]
abbrev Xr:List Prop:=(waa d++[cO=cO,0=0])
abbrev vf(d:Puz)(l:List Lay):List Prop:=((wbO E l)++wag l++(wbo d))
abbrev QIE:List Prop:=(wai++[Array.mk [24]=Array.mk [(24:Tmp)],ac=ac])
abbrev vx:List Prop:=[0=0,(0:Int)=0,0=0,0=0]
abbrev HE:List Prop:=([(0:Int)=0,0=0,0=0,0=0,0=0,0=0,0=0,(0:Int)=0]++waa d++((wb5)++wa2++(wb2 w0++[0=0,0=0,0=0,0=0,Fn.func (102:FuncId)=Fn.func (102:FuncId)])))
abbrev QOB:List Prop:=([f.length=f.length,cO=cO]++wah f)
abbrev QO4:List Prop:=([0=0,Fn.func 91=Fn.func (91:FuncId),0=0,0=0]++wad d)
theorem QOh(l:List Lay)(f:List Jn)(p p':Nat):QF 520 (QQz d p) (((YC d l)::(201,.mp E.1 E.2)::(Xs d)::(HN ac body d w0)::(QCt f)::G1::List.append (waS) ([QDo,(zj d),(Yf l),(536,.rowz true 4 [CK.bool] d.ps.n u),vo,(QDR f)]))) (Gb d E w0 ac body u l f p')=(some (XD++XD++[(d.ps.n:Int)=(d.ps.n:Int),i64.wrap ((p:Int)+1)=(p':Int)]++(Xr d)++(vf E d l)++[QB 1 d.ps.n u u]++(QIE ac)++[body=body]++(Xr d)++vx++(HE d w0)++XD++(QOB f) ++ [Fn.func 103=Fn.func (103:FuncId)]++XD++XD++[0=0]++(QO4 d))):=by kernel_rfl
abbrev QED:List Prop:=([f'.length=f'.length,cO=cO]++wax f')
theorem QZ9(p p':Nat)(f':List Jn):QF 520 (QQz d p) (((YC d l)::(201,.mp E.1 E.2)::(Xs d)::(HN ac body d w0)::(qk f')::G1::List.append (waS) ([QDo,(zj d),(Yf l),(536,.rowz true 4 [CK.bool] d.ps.n u'),vo,(qC f')]))) (Gb d E w0 ac body u' l f' p')=(some (XD++XD++[(d.ps.n:Int)=(d.ps.n:Int),i64.wrap ((p:Int)+1)=(p':Int)]++(Xr d)++(vf E d l)++[QB 1 d.ps.n u' u']++(QIE ac)++[body=body]++(Xr d)++vx++(HE d w0)++XD++(QED f') ++ [Fn.func 103=Fn.func (103:FuncId)]++XD++XD++[0=0]++(QO4 d))):=by kernel_rfl
theorem QWs :QF 520 [.bool false false] ([(YC d l),(201,.mp E.1 E.2),(Xs d),(393,.lp LoopState.done (some (Code.exit 0)) (faT d w0) (Array.mk [24]) ac body),(qk f'),(Yf l), (536,.rowz true 4 [CK.bool] d.ps.n u'),(qC f')]) (faF d E w0 ac body u' l f')=(some ([false=false]++(Xr d)++(vf E d l)++([QB 1 d.ps.n u' u']++waP++[Array.mk [24]=Array.mk [(24:Tmp)],ac=ac,body=body])++(Xr d)++vx++(HE d w0)++XD++(QED f'))):=by kernel_rfl
theorem QT8(l:List Lay)(f:List Jn):QF 520 [] ([(YC d l),(201,.mp E.1 E.2),(Xs d),(HN ac body d w0),(QCt f),(zj d),(Yf l),(536,.rowz true 4 [CK.bool] d.ps.n u),vo,G1,(360,.cellsR 0 96 [.nils]),(QDR f)]) (HR d E w0 ac body u l f)=(some ((Xr d)++(vf E d l)++[QB 1 d.ps.n u u]++(QIE ac)++[body=body]++(Xr d)++vx++(HE d w0) ++ XD++(QOB f))):=by kernel_rfl
abbrev faX(P:Program)(J:JSt)(X:List (Prop×Ex×JSt)):Hnd:={ hnd (mkE P QU) 0 with loop:=λ_=>KJ 520 Z7 J X }
theorem QSb(u u':Nat->Nat->Int)(l:List Lay)(f:List Jn)(A B:Prop)(f':List Jn):(Vu (mkE prog QU) (faX prog (Gb d E w0 (QM f43 0).1 (QM f43 0).2 u l f 0) [(A,.exit 0,HR d E w0 (QM f43 0).1 (QM f43 0).2
  u' l f'),(B,.ret,faF d E w0 (QM f43 0).1 (QM f43 0).2 u' l f')]) f103 QHn (ve d E w0 (QM f43 0).1 (QM f43 0).2 u l f).hp 520 λv h
  _ => Zf Z7 v h) = .br ((l.length : Int) == (d.ps.n : Int)) (.fail ("yield")) (.ask (0 = 0) (.ask (0 = 0) (.ask (0 = 0) (.ask (0 = 0) (.ask (0 = 0) (.ask (0 = 0) (.ask (0 = 0)
  (.ask (0=0) (.ask (0=0) (.ask (0=0) (.ask ((d.ps.n:Int)=(d.ps.n:Int)) (.ask ((0:Int)=0) (.ask (d.pK.length=d.pK.length) (.ask (d.pK.aK=d.pK.aK)
  (.ask (d.pK.oK=d.pK.oK) (.ask (d.pK.dK.lo=d.pK.dK.lo) (.ask (d.pK.dK.hi=d.pK.dK.hi) (.ask (d.wide=d.wide) (.ask (d.high=d.high) (.ask (d.turn =
  d.turn) (.ask (0=0) (.ask (d.ps.n=d.ps.n) (.ask (Cap.of 0=Cap.of 0) (.ask (0=0) (.ask (l.length=l.length) (.ask (Cap.of 0=Cap.of 0) (.ask (E.1=E.1) (.ask (E.2=E.2)
  (.ak [l.length<=l.length,QB 2 l.length (λi=>QA.enc (l.getD i (Lay.mk (0:Int) (0:Int)))) λi=>QA.enc (l.getD i (Lay.mk (0:Int) (0:Int))),0
  = 0,d.ps.n=d.ps.n,Cap.of 0=Cap.of 0,d.ps.n<=d.ps.n,QB 1 d.ps.n u u,LoopState.ready=LoopState.ready,(none:Option Code) =
  none,Array.mk [(24:Tmp)]=Array.mk [(24:Tmp)],(QM f43 0).1=(QM f43 0).1,(QM f43 0).2=(QM f43 0).2] (.ask
  (d.pK.length=d.pK.length) (.ask (d.pK.aK=d.pK.aK) (.ask (d.pK.oK=d.pK.oK) (.ask (d.pK.dK.lo=d.pK.dK.lo) (.ask (d.pK.dK.hi =
  d.pK.dK.hi) (.ask (d.wide=d.wide) (.ask (d.high=d.high) (.ask (d.turn=d.turn) (.ask (0=0) (.ask (d.ps.n=d.ps.n) (.ask (Cap.of 0=Cap.of 0) (.ask (0=0) (.ask (0=0)
  (.ask ((0:Int)=0) (.ask (0=0) (.ask (0=0) (.ask ((0:Int)=0) (.ask (0=0) (.ask (0=0) (.ask (0=0) (.ask (0=0) (.ask (0=0) (.ask (0=0) (.ask ((0:Int)=0)
  (.ask (d.pK.length=d.pK.length) (.ask (d.pK.aK=d.pK.aK) (.ask (d.pK.oK=d.pK.oK) (.ask (d.pK.dK.lo=d.pK.dK.lo) (.ask (d.pK.dK.hi =
  d.pK.dK.hi) (.ask (d.wide=d.wide) (.ask (d.high=d.high) (.ask (d.turn=d.turn) (.ask (0=0) (.ask (d.ps.n=d.ps.n) (.ask (Cap.of 0=Cap.of 0) (.ask (0=0) (.ask (0=0)
  (.ask ((0:Int)=0) (.ask (0=0) (.ask (0=0) (.ask ((0:Int)=0) (.ask ((0:Int)=0) (.ask (false=false) (.ask (0=0) (.ask (0=0) (.ask (0=0) (.ask (w0.length =
  w0.length) (.ask (Cap.of 0=Cap.of 0) (.ask (0=0) (.ask (0=0) (.ask (Fn.func (91:FuncId)=Fn.func (91:FuncId)) (.ask (0=0) (.ask (0=0) (.ask (0=0) (.ask (0=0)
  (.ask (Fn.func (102:FuncId)=Fn.func (102:FuncId)) (.ask (0=0) (.ask (0=0) (.ask (0=0) (.ask (0=0) (.ask (0=0) (.ask (f.length=f.length) (.ask (Cap.of 0=Cap.of 0)
  (.ask (f.length<=f.length) (.ask (QB 4 f.length (λi=>QA.enc (f.getD i (Jn.mk (0:Int) (0:Int) (0:Int) (0:Int)))) λi=>QA.enc (f.getD i (Jn.mk (0:Int) (0 :
  Int) (0:Int) (0:Int)))) (.ask (Fn.func (103:FuncId)=Fn.func (103:FuncId)) (.ask (0=0) (.ask (0=0) (.ask (0=0) (.ask (0=0) (.ask (0=0) (.ask (0=0) (.ask (0=0)
  (.ak [0=0,0=0,0=0,0=0,0=0,Fn.func (91:FuncId)=Fn.func (91:FuncId),0=0,0=0,d.ps.n<=d.ps.n] (.ask
  (QB 28 d.ps.n (λi=>QA.enc (d.ps.get i)) λi=>QA.enc (d.ps.get i)) (.both (.asm (A) (.all (λ(g0:Nat->Value)=>.leaf (.bool true true) ([(YC d l),(201,.mp
  E.1 E.2),(Xs d),(393,.lp LoopState.ready none (faT d w0) (Array.mk [24]) (QM f43 0).1 (QM f43 0).2),(qk f'),(Yf l),(536,.rowz true 4 [CK.bool] d.ps.n
  u'),(qC f')])))) (.asm (B) (.all (λ(g1:Nat->Value)=>.leaf (.bool false false) ([(YC d l),(201,.mp E.1 E.2),(Xs d),(393,.lp LoopState.done (some (Code.exit 0))
  (faT d w0) (Array.mk [24]) (QM f43 0).1 (QM f43 0).2),(qk f'),(Yf l),(536,.rowz true 4 [CK.bool] d.ps.n u'),(qC
  f')]))))))))))))))))))))))))))))))))))))))))))))))))))))))))))))))))))))))))))))))))))))))))))))))))))))))))))))):=by kernel_rfl
abbrev wa8:List Prop:=[Array.mk [24]=Array.mk [(24:Tmp)],(QM f43 0).1=(QM f43 0).1,(QM f43 0).2=(QM f43 0).2]
theorem QX8(u u':Nat->Nat->Int)(l:List Lay)(f:List Jn)(f':List Jn):QF 520 [(.bool true true)] ([(YC d l),(201,.mp E.1 E.2),(Xs d),(393,.lp LoopState.ready none (faT d w0) (Array.mk [24]) (QM f43 0).1 (QM f43 0).2), (qk f'),(Yf l),(536,.rowz true 4 [CK.bool] d.ps.n u'),(qC f')]) (KX (faU d E w0 (QM f43 0).1 (QM f43 0).2 u l f f'))=(some ([true=true]++(Xr d)++(vf E d l)++([QB 1 d.ps.n u' u]++wai++(wa8))++(Xr d)++vx++(HE d w0)++XD++(QED f'))):=by kernel_rfl
theorem QVp(u u':Nat->Nat->Int)(l:List Lay)(f:List Jn)(f':List Jn):QF 520 [(.bool false false)] ([(YC d l),(201,.mp E.1 E.2),(Xs d),(393,.lp LoopState.done (some (Code.exit 0)) (faT d w0) (Array.mk [24]) (QM f43 0).1 (QM f43 0).2),(qk f'),(Yf l),(536,.rowz true 4 [CK.bool] d.ps.n u'),(qC f')]) (KX (faV d E w0 (QM f43 0).1 (QM f43 0).2 u l f f'))=(some ([false=false]++(Xr d)++(vf E d l)++([QB 1 d.ps.n u' u]++waP++(wa8))++(Xr d)++vx++(HE d w0)++XD++(QED f'))):=by kernel_rfl
def Ys(s:LJ):Qb LJ->UC
 | .go s'=>faU d E w0 ac body (QD l) l s.1 s'.1
 | .stop s'=>faV d E w0 ac body (QD l) l s.1 s'.1
open Classical in
def Zx:List Prop->Bool:=if t<turnN d p then QO else λ_=>false
def qz(P:Program)(d:Puz)(E:ECt)(w0:List Jn)(ac body:Code)(rec:List Lay->LJ->Qb LJ)(l:List Lay)(p:Nat)(k:Nat×LJ):Env:=
 mkE P (QBU (Zx d p k.1) (Zx d p k.1) d E w0 l ⟨p,k.1⟩ (Q3 d E l ⟨p,k.1⟩) (Ys d E w0 ac body (l++[⟨p,k.1⟩]) k.2 (rec (l++[⟨p,k.1⟩]) k.2)))
def ZO(rec:List Lay->LJ->Qb LJ)(l:List Lay)(p:Nat)(k:Nat×LJ)(e:Ex)(J:JSt):Prop:=match Q4 (KF d E rec l p) ((List.range (turnN d p)).drop k.1) k.2 with
 | .go s'=>e = .exit 2/\J=H1 d E w0 ac body (QD l) l s'.1 p
 | .stop s'=>e = .ret/\J=faF d E w0 ac body (QD l) l s'.1
set_option maxHeartbeats 1000000 in
theorem Qch(rec:List Lay->LJ->Qb LJ)(l:List Lay)(p:Nat)(hp:p<d.ps.n)(hn:d.ps.n<=1000)(hl:l.length<=1000)(hu:KM l p=false):Jm (λk:Nat×LJ=>zw d E w0 ac body (QD l) l k.2.1 p (tnV d p) k.1) (λk=>k.1<=turnN d p) (λk=>turnN d p-k.1) (ZO d E w0 ac body rec l p) 520 QJC Z7 (qz prog d E w0 ac body rec l p) (λk=>hnd (qz prog d E w0 ac body rec l p k) 0) (Qa (QJ f103 0)):=by
 refine⟨λk g0 hk=>?_⟩;obtain⟨t,f,hq0⟩:=k;have hk:t<=turnN d p:=hk;obtain⟨ht1,ht4⟩:=WA d p;have hlen:(l++[(⟨p,t⟩:Lay)]).length=l.length+1:=by rw[List.length_append,List.length_singleton]
 have hw1:i64.wrap (((l++[(⟨p,t⟩:Lay)]).length:Int)-1)=l.length:=(w64 (by omega) (by omega)).trans (by omega)
 have hpop:(i64.wrap (((l++[(⟨p,t⟩:Lay)]).length:Int)-1)).toNat=l.length:=by rw[hw1];exact Int.toNat_natCast _
 have hle:l.length<=(l++[(⟨p,t⟩:Lay)]).length:=by omega
 have hpb:t<turnN d p->Zx d p t=QO:=λh=>by unfold Zx;rw[if_pos h]
 have wt:t<turnN d p->i64.wrap ((t:Int)+1)=((t+1:Nat):Int):=λh=>(w64 (by omega) (by omega)).trans (by omega)
 have step:=λh:t<turnN d p=>Wl (f:=KF d E rec l p) h ⟨f,hq0⟩;unfold qz;simp only
 have next:t<turnN d p->∀{s2:LJ},KF d E rec l p ⟨f,hq0⟩ t = .go s2->∀ e J,ZO d E w0 ac body rec l p (t+1,s2) e J->ZO d E w0 ac body rec l p (t,⟨f,hq0⟩) e J:=by
  intro h s2 he e J hr;unfold ZO at hr ⊢;simp only at hr ⊢;rw[step h,he];exact hr
 have last:turnN d p<=t->ZO d E w0 ac body rec l p (t,⟨f,hq0⟩) (.exit 2) (H1 d E w0 ac body (QD l) l f p):=by
  intro h;unfold ZO;simp only[W8 h,and_self]
 cases hr:rec (l++[⟨p,t⟩]) ⟨f,hq0⟩with
 | go s'=>
  obtain⟨f',hq1⟩:=s';simp only[Ys];have et:=QiJ (Zx d p t) (Zx d p t) d E w0 ac body (QD l) (QD (l++[⟨p,t⟩])) l (l++[⟨p,t⟩]) (Q3 d E l ⟨p,t⟩) f p (tnV d p) t f' g0;refine Qe et ?_;clear et;refine QE (λb0=>?_) (λb0=>?_);have h:t<turnN d p:=by have:=qdt b0;omega
  rw[hpb h];have hw:=wt h;refine QG ?_ ?_;rotate_left;refine QE ?_ ?_<;>intro b1
  .exact Bool.noConfusion (show false=true from b1)
  refine QG ?_ ?_;rotate_left;refine QE (λb2=>?_) (λb2=>?_);have hv:Q3 d E l ⟨p,t⟩=false:=by simpa using b2
  have ho:KF d E rec l p ⟨f,hq0⟩ t = .go ⟨f,hq0⟩:=by unfold KF;rw[hv];rfl
  refine⟨(t+1,⟨f,hq0⟩),h,by show turnN d p-(t+1)<turnN d p-t;omega,next h ho,rfl,rfl,_,QRO d E w0 ac body (QD l) l f p (tnV d p) t (t+1),?_⟩
  rotate_left
  iterate 7 (refine QG ?_ ?_;rotate_left)
  refine QE ?_ ?_<;>intro b3
  .cases b3
  have hv:Q3 d E l ⟨p,t⟩=true:=by simpa using b2
  have ho:KF d E rec l p ⟨f,hq0⟩ t = .go ⟨f',hq1⟩:=by unfold KF;rw[hv];exact hr
  have hb:=qO l d.ps.n p t hu;have hq:=Wt l ⟨p,t⟩;have hnx:=next h ho
  clear next last step hr ho
  generalize QD (l++[⟨p,t⟩])=u2 at hb ⊢;generalize l++[⟨p,t⟩]=l2 at hpop hle hq ⊢;generalize hu1:QD l=u1 at hb ⊢;refine⟨(t+1,⟨f',hq1⟩),h,by show turnN d p-(t+1)<turnN d p-t;omega,hnx,rfl,rfl,_,Qeg d E w0 ac body u1 u2 u1 l l2 p (tnV d p) t (t+1) f',?_⟩
  rotate_left
  have h:turnN d p<=t:=by have:=qdf b0;omega
  refine⟨_,last h,rfl,rfl,_,QME d E w0 ac body (QD l) l f p,?_⟩
  rotate_left
  all_goals first|((with_reducible show _=true);(first|rfl|(refine Q9.2 ?_;repeat' first|with_reducible refine QN ?_ ?_|exact tv|with_reducible exact qRr|with_reducible exact hlen|with_reducible exact hlen.symm|with_reducible exact Nat.le_of_eq hlen|with_reducible exact Ww l ⟨p,t⟩|with_reducible exact Wa l _ p t|exact rfl|refine aI ?_ ?_)|(rw[hw1];simp)|(simp;omega)))|(repeat' first|with_reducible refine QN ?_ ?_|exact tv|with_reducible exact qRr|with_reducible exact hw|with_reducible exact hpop|with_reducible exact hle|with_reducible exact hq|with_reducible exact hb|exact rfl|refine aI ?_ ?_)
 | stop s'=>
  obtain⟨f',hq1⟩:=s';simp only[Ys];have et:=QeS (Zx d p t) (Zx d p t) d E w0 ac body (QD l) (QD (l++[⟨p,t⟩])) l (l++[⟨p,t⟩]) (Q3 d E l ⟨p,t⟩) f p (tnV d p) t f' g0;refine Qe et ?_;clear et;refine QE (λb0=>?_) (λb0=>?_);have h:t<turnN d p:=by have:=qdt b0;omega
  rw[hpb h];have hw:=wt h;refine QG ?_ ?_;rotate_left;refine QE ?_ ?_<;>intro b1
  .exact Bool.noConfusion (show false=true from b1)
  refine QG ?_ ?_;rotate_left;refine QE (λb2=>?_) (λb2=>?_);have hv:Q3 d E l ⟨p,t⟩=false:=by simpa using b2
  have ho:KF d E rec l p ⟨f,hq0⟩ t = .go ⟨f,hq0⟩:=by unfold KF;rw[hv];rfl
  refine⟨(t+1,⟨f,hq0⟩),h,by show turnN d p-(t+1)<turnN d p-t;omega,next h ho,rfl,rfl,_,QRO d E w0 ac body (QD l) l f p (tnV d p) t (t+1),?_⟩
  rotate_left
  iterate 7 (refine QG ?_ ?_;rotate_left)
  refine QE (λb3=>?_) (λb3=>?_);have hv:Q3 d E l ⟨p,t⟩=true:=by simpa using b2
  have ho:KF d E rec l p ⟨f,hq0⟩ t = .stop ⟨f',hq1⟩:=by unfold KF;rw[hv];exact hr
  have hrel:ZO d E w0 ac body rec l p (t,⟨f,hq0⟩) .ret (faF d E w0 ac body (QD l) l f'):=by
   unfold ZO;simp only[step h,ho,and_self]
  have hb:=qO l d.ps.n p t hu;have hq:=Wt l ⟨p,t⟩;clear next last step hr ho
  generalize QD (l++[⟨p,t⟩])=u2 at hb ⊢;generalize l++[⟨p,t⟩]=l2 at hpop hle hq ⊢;generalize hu1:QD l=u1 at hb hrel ⊢;refine⟨_,hrel,rfl,rfl,_,Qhc d E w0 ac body u2 u1 l l2 p f',?_⟩
  rotate_left
  .cases b3
  have h:turnN d p<=t:=by have:=qdf b0;omega
  refine⟨_,last h,rfl,rfl,_,QME d E w0 ac body (QD l) l f p,?_⟩
  rotate_left
  all_goals first|((with_reducible show _=true);(first|rfl|(refine Q9.2 ?_;repeat' first|with_reducible refine QN ?_ ?_|exact tv|with_reducible exact qRr|with_reducible exact hlen|with_reducible exact hlen.symm|with_reducible exact Nat.le_of_eq hlen|with_reducible exact Ww l ⟨p,t⟩|with_reducible exact Wa l _ p t|exact rfl|refine aI ?_ ?_)|(rw[hw1];simp)|(simp;omega)))|(repeat' first|with_reducible refine QN ?_ ?_|exact tv|with_reducible exact qRr|with_reducible exact hw|with_reducible exact hpop|with_reducible exact hle|with_reducible exact hq|with_reducible exact hb|exact rfl|refine aI ?_ ?_)
def QCB(rec:List Lay->LJ->Qb LJ)(l:List Lay)(p:Nat):Prop:=∀ t,t<turnN d p->∀ s,QQ prog 103 (uFC (Ys d E w0 ac body (l++[⟨p,t⟩]) s (rec (l++[⟨p,t⟩]) s)))
theorem QWI{d:Puz}{E:ECt}{w0:List Jn}{ac body:Code}{rec:List Lay->LJ->Qb LJ}{l:List Lay}{p:Nat}(hd:KB d)(hE:WfE E)(hl:l.length<=1000)(hL:∀ y∈l,Q0 d y)(hp:p<d.ps.n)(IH:QCB d E w0 ac body rec l p)(k:Nat×LJ):(qz prog d E w0 ac body rec l p k).Sound:=by
 unfold qz Zx
 by_cases h:k.1<turnN d p
 .rw[if_pos h];have h4:=(WA d p).2;exact QP ((Qd.add (QCM d E l ⟨p,k.1⟩ hd hE hl hL ⟨⟨by show(0:Int)<=p;omega,by show(p:Int)<_;omega⟩,by show(0:Int)<=k.1;omega,by show(k.1:Int)<=3;omega⟩)).add (IH k.1 h k.2))
 .rw[if_neg h];exact QP ((Qd.add (Jl (by kernel_rfl) _)).add (Jl (by kernel_rfl) _))
def QBa(rec:List Lay->LJ->Qb LJ)(l:List Lay)(p:Nat)(s:LJ):List (Prop×Ex×JSt):=
 [((inZ d E rec l p s).isGo=true,.exit 2,H1 d E w0 ac body (QD l) l (inZ d E rec l p s).s.1 p),((inZ d E rec l p s).isGo=false,.ret,faF d E w0 ac body (QD l) l (inZ d E rec l p s).s.1)]
theorem QW5{d:Puz}{E:ECt}{w0:List Jn}{ac body:Code}{rec:List Lay->LJ->Qb LJ}{l:List Lay}(hd:KB d)(hE:WfE E)(hl:l.length<=1000)(hL:∀ y∈l,Q0 d y)(p:Nat)(s:LJ)(IH:p<d.ps.n->QCB d E w0 ac body rec l p)(G:Ctx)(hrd:G.rd=none)(hG:G.n<=520):
  Q1 (mkE prog (qb QO d l.length p)) G (QCj prog QO d E w0 ac body (QD l) l s.1 p (QBa d E w0 ac body rec l p s)) (QJ f103 0):=by
 have hT:Qc (qb QO d l.length p):=Qd.add (Yg d l.length p);refine Kk (body:=Qa (QJ f103 0)) (QP hT) hrd (by kernel_rfl) ?_
 refine Vy λhp=>?_;have hu:=QCZ hp.2;have hEnv:=QWI (ac:=ac) (body:=body) hd hE hl hL hp.1 (IH hp.1);refine Jz (E0:=mkE prog (qb QO d l.length p)) (E:=qz prog d E w0 ac body rec l p) (H:=λk=>hnd (qz prog d E w0 ac body rec l p k) 0) (n0:=520) (s0:=(0,s)) (λ_=>rfl) hEnv hG (λk _=>Qw (hEnv k) 0 G _ hrd) (λk _=>(by decide:520<=552)) ?_ (Qch d E w0 ac body rec l p hp.1 hd.n hl hu) (Nat.zero_le _) ?_
 .intro k e J hr;unfold ZO at hr;split at hr<;>(rw[hr.2];exact(by decide:520<=552))
 .intro e J hr;unfold ZO at hr;simp only[List.drop_zero]at hr;have hi:inZ d E rec l p s=Q4 (KF d E rec l p) (List.range (turnN d p)) s:=rfl;unfold QBa;rw[hi];cases hc:Q4 (KF d E rec l p) (List.range (turnN d p)) s with
  | go s'=>
   rw[hc]at hr;exact⟨_,qmc,rfl,hr.1.symm,hr.2.symm⟩
  | stop s'=>
   rw[hc]at hr;exact⟨_,List.mem_cons_of_mem _ qmc,rfl,hr.1.symm,hr.2.symm⟩
