/- - -/
import Derived.Test.YtekbmehgcofnkaaGreatMzg
open Go.Proofs.Tryz
open Go.IntKind (i64)
set_option maxRecDepth 100000
namespace Go.Proofs.YtekbmehgcofnkaaGreat
open Go.SX Go.SX.Told
def eqJ(x y:Jn):Bool:=x.a==y.a&&(x.i==y.i&&(x.b==y.b&&(x.j==y.j&&true)))
variable (L:List Jn)(pb:List Prop->Bool)(d:Puz)(o:List Jn)(x:Jn)(E:ECt)(i:Nat)(v:Int)(w0:List Jn)(ac body:Code)(u':Nat->Nat->Int)(l2 l:List Lay)(u:Nat->Nat->Int)(p:Nat)(u2:Nat->Nat->Int)(f' f:List Jn)(t:Nat)(tn:Int)
def atJ:Jn:=L.getD i ⟨0,0,0,0⟩
def jnC:List AV:=[vi x.a,vi x.i,vi x.b,vi x.j]
def frJ(id:Nat)(L:List Jn):Nat×Blk:=(id,.frz [.int .i64,.int .i64,.int .i64,.int .i64] L.length λi=>QA.enc (L.getD i ⟨0,0,0,0⟩))
def jiB:List (Nat×Blk):=[(16,.cellsR 0 67 (jnC x)),frJ 8 L]
def jiU:UC:=⟨0,⟨2,[(0,.slz 8 0 L.length (.of 0)),(1,.fn (.func 93) [.ptr 16 0 0])],jiB L x,24⟩,λ_=>.int false .i64 v,λ_=>[]⟩
def jiJ(k:Nat):JSt:=⟨19,[(0,.slz 8 0 L.length (.of 0)),(1,.fn (.func 93) [.ptr 16 0 0]),(7,.int false .i64 L.length),(8,.int false .i64 k)],jiB L x,24⟩
abbrev Hh:List CK:=
  (waH)
noncomputable abbrev QGf:Nat×Blk:=
  (16,.cellsR 0 67 [vi x.a,vi x.i,vi x.b,vi x.j])
theorem QdI(k:Nat)(g:Nat->Value):exec (mkE prog QT) (hnd (mkE prog QT) 2) (QH f135 0) (JSt.inst (jiJ L x k) g) (Q9 [] QFJ) = .br (decide ((k:Int)<(L.length:Int))) (.need (decide ((0:Int)<=(k:Int)/\(k:Int)<(L.length:Int))&&decide (L.length<=L.length)) (.need (decide (k<L.length)) (.br (x.a==(L.getD k (Jn.mk (0:Int) (0:Int) (0:Int) (0:Int))).a&&(x.i==(L.getD k (Jn.mk (0:Int) (0:Int) (0:Int) (0:Int))).i&&(x.b==(L.getD k (Jn.mk (0:Int) (0:Int) (0:Int) (0:Int))).b&&(x.j==(L.getD k (Jn.mk (0:Int) (0:Int) (0:Int) (0:Int))).j&&true)))) (.leaf (.tup [.nili,.ptr 19 0 0,vi (k:Int)]) ([])) (.leaf (.tup [.nilp,.ptr 19 0 0,.slz 8 0 L.length cO,.fn (Fn.func 93) [.ptr 16 0 0],vi (L.length:Int),vi (i64.wrap ((k:Int)+1))]) ([(8,.frz Hh L.length λi=>QA.enc (L.getD i (Jn.mk (0:Int) (0:Int) (0:Int) (0:Int)))),(QGf x)]))))) (.leaf (.tup [.ptr 0 0 0,.ptr 19 0 0]) ([])):=by kernel_rfl
theorem QYQ(k:Nat)(j:Int):QF 24 [vi (↑k:Int)] ([]) (Yf j)=( some [(↑k:Int)=j]):=by kernel_rfl
theorem Qje(k k':Nat):QF 24 [AV.slz (8:Nat) (0:Nat) L.length cO,AV.fn (Fn.func (93:Nat)) [AV.ptr (16:Nat) (0:Nat) (0:Nat)],vi (↑L.length:Int),vi (i64.wrap ((↑k:Int)+(1:Int)))] ([((8:Nat),Blk.frz [CK.int i64,CK.int i64,CK.int i64,CK.int i64] L.length λi=>QA.enc (L.getD i (Jn.mk (0:Int) (0:Int) (0:Int) (0:Int)))),((16:Nat),Blk.cellsR (0:Nat) (67:Nat) [vi x.a,vi x.i,vi x.b,vi x.j])]) (jiJ L x k')=( some [0=0,L.length=L.length,cO=cO,Fn.func (93:Nat)=Fn.func (93:FuncId),0=0,0=0, (↑L.length:Int)=(↑L.length:Int),i64.wrap ((↑k:Int)+(1:Int))=(↑k':Int),x.a=x.a,x.i=x.i,x.b=x.b,x.j=x.j,L.length<=L.length,QB (4:Nat) L.length (λi=>QA.enc (L.getD i (Jn.mk (0:Int) (0:Int) (0:Int) (0:Int)))) λi=>QA.enc (L.getD i (Jn.mk (0:Int) (0:Int) (0:Int) (0:Int)))]):=by kernel_rfl
theorem Qg3 :QF 24 [] ([]) W0=( some []):=by kernel_rfl
abbrev jiH(P:Program)(L:List Jn)(x:Jn)(X:List (Prop×Ex×JSt)):Hnd:={ hnd (mkE P QT) 2 with loop:=λ_=>KC 24 [] (jiJ L x (0:Nat)) X }
theorem Qb4(A B:Prop)(k v:Int):VS (mkE prog QT) (jiH prog L x [(A,.ret,Yf k),(B,.exit 0,W0)]) f135 (jiU L x v)=QC.ask (0=0) (QC.ask (L.length=L.length) (QC.ask (cO=cO) (QC.ask (Fn.func (93:FuncId)=Fn.func (93:FuncId)) (QC.ask (0=0) (QC.ask (0=0) (QC.ask ((↑L.length:Int)=(↑L.length:Int)) (QC.ask ((0:Int)=(0:Int)) (QC.ask (x.a=x.a) (QC.ask (x.i=x.i) (QC.ask (x.b=x.b) (QC.ask (x.j=x.j) (QC.ask (L.length<=L.length) (QC.ask (QB (4:Nat) L.length (λi=>QA.enc (L.getD i (Jn.mk (0:Int) (0:Int) (0:Int) (0:Int)))) λi=>QA.enc (L.getD i (Jn.mk (0:Int) (0:Int) (0:Int) (0:Int)))) (QC.both (QC.asm (A) (QC.all (λ(g0:Nat->Value)=>QC.leaf (vi k) ([])))) (QC.asm (B) (QC.all (λ(g1:Nat->Value)=>QC.leaf (vj (-1:Int)) ([])))))))))))))))))):=by kernel_rfl
theorem Qbk(k v:Int):QF 24 [(vi k)] ([]) (Kf (jiU L x v))=( some [k=v]):=by kernel_rfl
theorem QeV:QF 24 [(vj (-1:Int))] ([]) (Kf (jiU L x v))=( some [(-1:Int)=v]):=by kernel_rfl
def dlJ(o:List Jn)(i j:Nat):JSt:=⟨42,[(0,.slz 32 0 o.length (.of 0)),(1,.fn (.func 93) [.ptr 16 0 0]),(5,.int false .i64 i),(6,.int false .i64 j)],[(16,.cellsR 0 67 (jnC x)),rwJ true 32 o],40⟩
def dlE:JSt:=⟨42,[(0,.slz 32 0 o.length (.of 0)),(5,.int false .i64 i)],[rwJ true 32 o],40⟩
def QTb:Ex->List Nat
 | .normal=>[0,1,5,6]
 | .exit _=>[0,5]
 | .ret=>[]
noncomputable abbrev QTe(j:Nat)(o:List Jn):List AV:=
  [vi (o.getD j (Jn.mk (0:Int) (0:Int) (0:Int) (0:Int))).a,vi (o.getD j (Jn.mk (0:Int) (0:Int) (0:Int) (0:Int))).i,vi (o.getD
  j (Jn.mk (0:Int) (0:Int) (0:Int) (0:Int))).b,vi (o.getD j (Jn.mk (0:Int) (0:Int) (0:Int) (0:Int))).j]
noncomputable abbrev QTR(j:Nat)(o:List Jn)(x:Jn):List (Nat×Blk):=
  [(32,.rowz true 67 Hh o.length λi_1=>bif decide (i_1=i)then Ki (QTe j o) 0 (QA.enc (o.getD i (Jn.mk (0:Int) (0:Int) (0:Int) (0:Int))))else QA.enc (o.getD
  i_1 (Jn.mk (0:Int) (0:Int) (0:Int) (0:Int)))),(QGf x)]
theorem QcK(o:List Jn)(i j:Nat)(g:Nat->Value):exec (mkE prog QT) (hnd (mkE prog QT) 2) (QH f92 0) (JSt.inst (dlJ x o i j) g) (Q9 [] QTb) = .br (decide ((j:Int)<(o.length:Int))) (.need (decide ((0:Int)<=(j:Int)/\(j:Int)<(o.length:Int))&&decide (o.length<=o.length)) (.need (decide (j<o.length)) (.br (!(x.a==(o.getD j (Jn.mk (0:Int) (0:Int) (0:Int) (0:Int))).a&&(x.i==(o.getD j (Jn.mk (0:Int) (0:Int) (0:Int) (0:Int))).i&&(x.b==(o.getD j (Jn.mk (0:Int) (0:Int) (0:Int) (0:Int))).b&&(x.j==(o.getD j (Jn.mk (0:Int) (0:Int) (0:Int) (0:Int))).j&&true))))) (.need (decide ((0:Int)<=(i:Int)/\(i:Int)<(o.length:Int))&&decide (o.length<=o.length)) (.need (decide (i<o.length)) (.leaf (.tup [.nilp,.ptr 42 0 0,.slz 32 0 o.length cO,.fn (Fn.func 93) [.ptr 16 0 0],vi (i64.wrap ((i:Int)+1)), vi (i64.wrap ((j:Int)+1))]) ((QTR i j o x))))) (.leaf (.tup [.nilp,.ptr 42 0 0,.slz 32 0 o.length cO,.fn (Fn.func 93) [.ptr 16 0 0],vi (i:Int),vi (i64.wrap ((j:Int)+1))]) ([(32,.rowz true 67 Hh o.length λi=>QA.enc (o.getD i (Jn.mk (0:Int) (0:Int) (0:Int) (0:Int)))),(QGf x)]))))) (.leaf (.tup [.ptr 0 0 0,.ptr 42 0 0,.slz 32 0 o.length cO,vi (i:Int)]) ([(32,.rowz true 67 Hh o.length λi=>QA.enc (o.getD i (Jn.mk (0:Int) (0:Int) (0:Int) (0:Int))))])):=by kernel_rfl
theorem QhZ(o o':List Jn)(i j i' j':Nat):QF 24 [.slz 32 0 o.length cO,.fn (Fn.func 93) [.ptr 16 0 0],vi (i64.wrap ((i:Int)+1)),vi (i64.wrap ((j:Int)+1))] ((QTR i j o x)) (dlJ x o' i' j')=(some [0=0,o.length=o'.length,cO=cO,Fn.func 93=Fn.func (93:FuncId),0=0,0=0,i64.wrap ((i:Int)+1)=(i':Int),i64.wrap ((j:Int)+1)=(j':Int),x.a=x.a,x.i=x.i,x.b=x.b,x.j=x.j,o'.length<=o.length,QB 4 o'.length (λi_1=>bif decide (i_1=i)then Ki (QTe j o) 0 (QA.enc (o.getD i (Jn.mk (0:Int) (0:Int) (0:Int) (0:Int))))else QA.enc (o.getD i_1 (Jn.mk (0:Int) (0:Int) (0:Int) (0:Int)))) λi=>QA.enc (o'.getD i (Jn.mk (0:Int) (0:Int) (0:Int) (0:Int)))]):=by kernel_rfl
noncomputable abbrev wbv(o:List Jn):List Prop:=[o.length<=o.length,QB (4:Nat) o.length (λi=>QA.enc (o.getD i (Jn.mk (0:Int) (0:Int) (0:Int) (0:Int)))) λi=>QA.enc (o.getD i (Jn.mk (0:Int) (0:Int) (0:Int) (0:Int)))]
theorem QeG(o:List Jn)(i j j':Nat):QF 24 [AV.slz (32:Nat) (0:Nat) o.length cO,AV.fn (Fn.func (93:Nat)) [AV.ptr (16:Nat) (0:Nat) (0:Nat)],vi (↑i:Int),vi (i64.wrap ((↑j:Int)+(1:Int)))] ([((32:Nat),Blk.rowz true (67:Nat) [CK.int i64,CK.int i64,CK.int i64,CK.int i64] o.length λi=>QA.enc (o.getD i (Jn.mk (0:Int) (0:Int) (0:Int) (0:Int)))),((16:Nat),Blk.cellsR (0:Nat) (67:Nat) [vi x.a,vi x.i,vi x.b,vi x.j])]) (dlJ x o i j')=( some ([0=0,o.length=o.length,cO=cO,Fn.func (93:Nat)=Fn.func (93:FuncId),0=0,0=0,(↑i:Int)=(↑i:Int),i64.wrap ((↑j:Int)+(1:Int))=(↑j':Int),x.a=x.a,x.i=x.i,x.b=x.b,x.j=x.j]++wbv o)):=by kernel_rfl
theorem QaP(i:Nat):QF 24 [AV.slz (32:Nat) (0:Nat) o.length cO,vi (↑i:Int)] ([((32:Nat),Blk.rowz true (67:Nat) [CK.int i64,CK.int i64,CK.int i64,CK.int i64] o.length λi=>QA.enc (o.getD i (Jn.mk (0:Int) (0:Int) (0:Int) (0:Int))))]) (dlE o i)=( some ([0=0,o.length=o.length,cO=cO,(↑i:Int)=(↑i:Int)]++wbv o)):=by kernel_rfl
def jN(L:List Jn)(x:Jn)(v:Int):Tab:=Qa QT 135 (KM pb (jiU L x v))
def WA(w:List Jn):UC:=⟨0,⟨2,[(0,.slz 8 0 L.length (.of 0)),(1,.fn (.func 93) [.ptr 16 0 0])],[rwJ true 8 L,(16,.cellsR 0 67 (jnC x))],24⟩,λm=>.slz m 0 w.length (.of 0),λm=>[rwJ true m w]⟩
abbrev dlH(P:Program)(pb:List Prop->Bool)(L:List Jn)(x:Jn)(v:Int)(i0:Nat)(X:List (Prop×Ex×JSt)):Hnd:={ hnd (mkE P (jN pb L x v)) 2 with loop:=λ_=>JT (i0<L.length) (KC 24 [] (dlJ x L i0 (i0+1)) X) }
noncomputable abbrev wbs(L:List Jn)(x:Jn):List Prop:=[x.a=x.a,x.i=x.i,x.b=x.b,x.j=x.j,L.length<=L.length,QB 4 L.length (λi=>QA.enc (L.getD i (Jn.mk (0:Int) (0:Int) (0:Int) (0:Int)))) λi=>QA.enc (L.getD i (Jn.mk (0:Int) (0:Int) (0:Int) (0:Int)))]
theorem QYc(L:List Jn)(x:Jn)(v:Int)(i0:Nat)(o':List Jn)(i':Nat)(w:List Jn):VS (mkE prog (jN pb L x v)) (dlH prog pb L x v i0 [(True,.exit 0,dlE o' i')]) f92 (WA L x w) = .need (pb (([0=0,L.length=L.length,cO=cO,Fn.func 93=Fn.func 93,0=0,0=0]++wbs L x))) (.br (v == -1) (.leaf (.slz 8 0 L.length cO) ([(8,.rowz true 67 Hh L.length λi=>QA.enc (L.getD i (Jn.mk (0:Int) (0:Int) (0:Int) (0:Int))))])) (.ak ([i0<L.length,0=0,L.length=L.length,cO=cO,Fn.func (93:FuncId)=Fn.func (93:FuncId),0=0,0=0,v=(i0:Int),i64.wrap (v+1)=(↑(i0+1):Int)]++wbs L x) (.asm (True) (.all (λ(g0:Nat->Value)=>.need (decide ((0:Int)<=(i':Int)/\i'<=o'.length/\i'<o'.length-0)) (.need (decide (0+i'+(o'.length-i')<=o'.length/\0<o'.length)) (.need (decide ((0:Int)<=(i':Int)/\i'<=o'.length-0)) (.leaf (.slz 32 0 i' cO) ([(32,.rowz true 67 Hh o'.length λi=>bif decide (0+i'<=i/\i<0+i'+(o'.length-i'))then λx=>(0:Int)else QA.enc (o'.getD i (Jn.mk (0:Int) (0:Int) (0:Int) (0:Int))))]))))))))):=by kernel_rfl
theorem Qfm(w:List Jn):QF 24 [(AV.slz (8:Nat) (0:Nat) L.length cO)] ([((8:Nat),Blk.rowz true (67:Nat) [CK.int i64,CK.int i64,CK.int i64,CK.int i64] L.length λi=>QA.enc (L.getD i (Jn.mk (0:Int) (0:Int) (0:Int) (0:Int))))]) (Kf (WA L x w))=( some [0=0,L.length=w.length,cO=cO,w.length<=L.length,QB (4:Nat) w.length (λi=>QA.enc (L.getD i (Jn.mk (0:Int) (0:Int) (0:Int) (0:Int)))) λi=>QA.enc (w.getD i (Jn.mk (0:Int) (0:Int) (0:Int) (0:Int)))]):=by kernel_rfl
theorem QWF(x:Jn)(o':List Jn)(i':Nat)(w:List Jn):QF 24 [(AV.slz (32:Nat) (0:Nat) i' cO)] ([((32:Nat),Blk.rowz true (67:Nat) [CK.int i64,CK.int i64,CK.int i64,CK.int i64] o'.length λi=>bif decide ((0:Nat)+i'<=i/\i<(0:Nat)+i'+(o'.length-i'))then λx=>(0:Int)else QA.enc (o'.getD i (Jn.mk (0:Int) (0:Int) (0:Int) (0:Int))))]) (Kf (WA L x w))=( some [0=0,i'=w.length,cO=cO,w.length<=o'.length,QB (4:Nat) w.length (λi=>bif decide ((0:Nat)+i'<=i/\i<(0:Nat)+i'+(o'.length-i'))then λx=>(0:Int)else QA.enc (o'.getD i (Jn.mk (0:Int) (0:Int) (0:Int) (0:Int)))) λi=>QA.enc (w.getD i (Jn.mk (0:Int) (0:Int) (0:Int) (0:Int)))]):=by kernel_rfl
theorem QFn{p:Nat->Bool}:∀{m k i:Nat},QP p m k=some i->k<=i/\i<k+m/\p i=true/\∀ j,k<=j->j<i->p j=false
 | 0,k,i,h=>by cases h
 | m+1,k,i,h=>by
  simp only[QP]at h;split at h
  .rename_i hk;simp only[qsI]at h;subst h;exact⟨qlr _,by omega,hk,λj h1 h2=>by omega⟩
  .rename_i hk;obtain⟨h1,h2,h3,h4⟩:=QFn h;refine⟨by omega,by omega,h3,λj h5 h6=>?_⟩
   rcases Nat.eq_or_lt_of_le h5 with rfl|h7
   .exact hk
   .exact h4 j h7 h6
def JD:Option Nat:=QP (λi=>eqJ x (atJ L i)) L.length 0
def J7(L:List Jn):List Jn:=L.filter λy=>!eqJ x y
def Jm(x:Jn):Nat->List Jn->Nat->Nat->List Jn×Nat
 | 0,o,i,_=>(o,i)
 | m+1,o,i,j=>cond (eqJ x (atJ o j)) (Jm x m o i (j+1)) (Jm x m (o.set i (atJ o j)) (i+1) (j+1))
theorem QC2{L:List Jn}{i:Nat}(h:i<L.length):atJ L i=L[i]:=Vu h
theorem QKM(x:Jn)(L:List Jn):∀(m:Nat) (o:List Jn) (i j:Nat),o.length=L.length->i<j->j+m=L.length->(∀ k,j<=k->atJ o k=atJ L k)->o.take i=J7 x (L.take j) ->
  (Jm x m o i j).1.length=L.length/\(Jm x m o i j).2<L.length/\(Jm x m o i j).1.take (Jm x m o i j).2=J7 x L
 | 0,o,i,j,h1,h2,h3,_,h5=>by
  refine⟨h1,by show i<_;omega,?_⟩
  show o.take i=_;rw[h5,List.take_of_length_le (by omega)]
 | m+1,o,i,j,h1,h2,h3,h4,h5=>by
  have hj:j<L.length:=by omega
  have hy:atJ o j=L[j]:=by rw[h4 j (qlr _),QC2 hj]
  have ht:L.take (j+1)=L.take j++[L[j]]:=by rw[List.take_succ_eq_append_getElem hj]
  simp only[Jm];cases he:eqJ x (atJ o j)with
  | true=>
   simp only[cond_true];refine QKM x L m o i (j+1) h1 (by omega) (by omega) (λk hk=>h4 k (by omega)) ?_
   rw[hy]at he;rw[h5,ht];unfold J7;rw[List.filter_append];simp[he]
  | false=>
   simp only[cond_false];rw[hy]at he ⊢;refine QKM x L m _ (i+1) (j+1) (by rw[List.length_set];exact h1) (by omega) (by omega) (λk hk=>?_) ?_
   .rw[<-h4 k (by omega)]
    unfold atJ;rw[List.getD_eq_getElem?_getD,List.getD_eq_getElem?_getD,List.getElem?_set_ne (by omega)]
   .have hi:i<o.length:=by omega
    rw[List.take_succ_eq_append_getElem (by rw[List.length_set];exact hi),List.getElem_set_self,List.take_set_of_le (qlr i),h5,ht]
    unfold J7;rw[List.filter_append];simp[he]
theorem QYf{x:Jn}{L:List Jn}(h:JD L x=none):J7 x L=L:=by
 unfold J7;rw[List.filter_eq_self];intro y hy;obtain⟨i,hi,rfl⟩:=List.mem_iff_getElem.1 hy;have:=jX h i (Nat.zero_le _) (by omega)
 rw[QC2 hi]at this;rw[this];rfl
theorem Qdz{x:Jn}{L:List Jn}{i:Nat}(h:JD L x=some i):i<L.length/\(Jm x (L.length-(i+1)) L i (i+1)).1.length=L.length/\(Jm x (L.length-(i+1)) L i (i+1)).2<L.length/\(Jm x (L.length-(i+1)) L i (i+1)).1.take (Jm x (L.length-(i+1)) L i (i+1)).2=J7 x L:=by
 obtain⟨_,h2,h3,h4⟩:=QFn h;have hi:i<L.length:=by omega
 refine⟨hi,QKM x L _ L i (i+1) rfl (by omega) (by omega) (λ_ _=>rfl) ?_⟩
 rw[List.take_succ_eq_append_getElem hi];unfold J7;rw[List.filter_append];rw[QC2 hi]at h3
 have h5:(L.take i).filter (λy=>!eqJ x y)=L.take i:=by
  rw[List.filter_eq_self];intro y hy;obtain⟨j,hj,rfl⟩:=List.mem_iff_getElem.1 hy;rw[List.length_take]at hj;have:=h4 j (Nat.zero_le _) (by omega)
  rw[QC2 (show j<L.length by omega)]at this
  rw[List.getElem_take,this];rfl
 rw[h5];simp[h3]
abbrev LJ:={f:List Jn // f.length<=1000000000}
def faT:List AV:=[.agg (KS d),.ptr 112 0 0,.nils,.int true .i64 0,.ptr 200 0 0,.int true .i64 0,.ptr 296 0 0,.ptr 328 0 0,.tup [],.tup [],.tup [.ptr 200 0 0,.int true .i64 0],.agg (KS d),.tup [.ptr 200 0 0,.int true .i64 0],.ptr 200 0 0,.int true .i64 0,.int true .i64 0,.bool true false,.tup [],.ptr 200 0 0,.slz 288 0 w0.length (.of 0),.ptr 200 0 0,.mth (.func 91) [.ptr 200 0 0],.ptr 200 0 0,.fn (.func 102) [.ptr 352 0 0,.ptr 360 0 0],.tup [],.tup [],.tup [],.tup [],.tup [],.tup [],.tup [],.tup [],.tup [],.tup [],.tup [],.tup []]
def QHI:List AV:=[.ptr 352 0 0,.ptr 400 0 0,.ptr 464 0 0,.ptr 360 0 0,.ptr 480 0 0]
def faR:List (Nat×Blk):=
 [(480,.cellsR 0 31 [.fn (.func 103) QHI]),(400,.cellsR 0 105 [.yld 393]),(360,.cellsR 0 96 [.nils]),(352,.cellsR 0 90 [.ptr 200 0 0]),(328,.cellsR 0 141 [.mth (.func 91) [.ptr 200 0 0]])]++Qi.blk 0 d.ps
def faW(ls:LoopState)(pe:Option Code)(d:Puz)(E:ECt)(w0:List Jn)(ac body:Code)(u:Nat->Nat->Int)(l:List Lay)(a w c:Nat)(f:List Jn):List (Nat×Blk):=
 [(200,.cells 0 152 (KS d++[.map 201,.slz a 0 l.length (.of 0)])),(201,.mp E.1 E.2),rwY a l,(464,.cells 0 114 [.slz w 0 d.ps.n (.of 0)]),rwU w d u,(393,.lp ls pe (faT d w0) #[24] ac body),(296,.cells 0 64 [.slz c 0 f.length (.of 0)]),rwJ true c f]
def faS:List (Nat×AV):=[(0,.ptr 352 0 0),(1,.ptr 400 0 0),(2,.ptr 464 0 0),(3,.ptr 360 0 0),(4,.ptr 480 0 0)]
def GU(l:List Lay)(f:List Jn):JSt:=⟨5,faS,faW .ready none d E w0 ac body u l 496 504 512 f++faR d,520⟩
def faU(l:List Lay)(f:List Jn)(f':List Jn):UC:=
 ⟨488,GU d E w0 ac body u l f,λ_=>.bool false true,λm=>faW .ready none d E w0 ac body u l m (m+1) (m+2) f'⟩
def faV(l:List Lay)(f:List Jn)(f':List Jn):UC:=
 ⟨488,GU d E w0 ac body u l f,λ_=>.bool false false,λm=>faW .done (some (.exit 0)) d E w0 ac body u l m (m+1) (m+2) f'⟩
def WO:List Nat:=[200,201,464,393,296]
def QJ9(n:Nat)(p:Nat):List (Nat×AV):=faS++[(33,.int false .i64 n),(34,.int false .i64 p)]
def Qeo(n:Nat)(p:Nat)(tn:Int)(t:Nat):List (Nat×AV):=QJ9 n p++[(6,.int false .i64 p),(43,.int false .i64 tn),(44,.int false .i64 t)]
def HD(l:List Lay)(f:List Jn)(p:Nat):JSt:=⟨101,QJ9 d.ps.n p,faW .ready none d E w0 ac body u l 528 536 544 f++faR d,552⟩
def Hz(l:List Lay)(f:List Jn)(p:Nat)(tn:Int)(t:Nat):JSt:=⟨101,Qeo d.ps.n p tn t,faW .ready none d E w0 ac body u l 528 536 544 f++faR d,552⟩
def G3(l:List Lay)(f:List Jn):JSt:=⟨101,[],faW .ready none d E w0 ac body u l 528 536 544 f,552⟩
def QBJ(l:List Lay)(f:List Jn)(p:Nat):JSt:=⟨101,QJ9 d.ps.n p,faW .ready none d E w0 ac body u l 528 536 544 f++faR d,552⟩
def faF(l:List Lay)(f:List Jn):JSt:=⟨101,[(5,.bool false false)],faW .done (some (.exit 0)) d E w0 ac body u l 528 536 544 f,552⟩
def QPt:Ex->List Nat
 | .normal=>[0,1,2,3,4,33,34]
 | .exit _=>[]
 | .ret=>[5]
def QIP:Ex->List Nat
 | .normal=>[0,1,2,3,4,33,34,6,43,44]
 | .exit _=>[0,1,2,3,4,33,34]
 | .ret=>[5]
def QBy(pb1 pb2:List Prop->Bool)(d:Puz)(E:ECt)(w0:List Jn)(l:List Lay)(x:Lay)(v:Bool)(U:UC):Tab:=Qa (Qa QT 105 (KM pb1 (myU d E l x v))) 103 (KM pb2 U)
noncomputable abbrev wa1:List AV:=[.ptr 352 0 0,.ptr 400 0 0,.ptr 464 0 0,.ptr 360 0 0,.ptr 480 0 0]
noncomputable abbrev Gl:List AV:=
  (.nilp::.ptr 101 0 0::List.append (wa1) ((List.append (wbp d p) ([.int false .i64 tn,vi (i64.wrap ((t:Int)+1))]))))
noncomputable abbrev j8:Nat×Blk:=
  (352,.cellsR 0 90 [.ptr 200 0 0])
noncomputable abbrev QEZ:Nat×Blk:=
  (480,.cellsR 0 31 [.fn (Fn.func 103) (wa1)])
noncomputable abbrev j5:Nat×Blk:=
  (0,.frz (wae) d.ps.n λi=>QA.enc (d.ps.get i))
noncomputable abbrev vt:Nat×Blk:=
  (328,.cellsR 0 141 [.mth (Fn.func 91) [.ptr 200 0 0]])
noncomputable abbrev waU:List (Nat×Blk):=[(400,.cellsR 0 105 [.yld
  393]),(360,.cellsR 0 96 [.nils])]
noncomputable abbrev W9(d:Puz)(f:List Jn)(l:List Lay)(u:Nat->Nat->Int)(w0:List Jn):List (Nat×Blk):=
  ((200,.cells 0 152 (List.append (waf d) ([.map 201,.slz 528 0 l.length cO])))::(201,.mp E.1 E.2)::(464,.cells 0 114 [.slz
  536 0 d.ps.n cO])::(393,.lp LoopState.ready none (faT d w0) (Array.mk [24]) ac body)::(296,.cells 0 64 [.slz 544 0 f.length cO])::j8::List.append (waU) ([QEZ,(j5 d),(528,.rowz true 49 kB l.length λi=>QA.enc (l.getD i (Lay.mk (0:Int) (0:Int)))),(536,.rowz true
  4 [CK.bool] d.ps.n u),vt,(544,.rowz true 67 (waH) f.length λi=>QA.enc (f.getD i (Jn.mk (0:Int) (0:Int) (0:Int) (0 :
  Int))))]))
abbrev QKm(d:Puz)(l:List Lay)(p:Nat)(t:Nat):List Prop:=
  ([0=0,0=0,(p:Int)=(p:Int),(t:Int)=(t:Int)]++waa d++(([cO=cO,0=0,l.length=l.length,cO
  = cO]++wag l++[E.1=E.1,E.2=E.2])++wad d))
abbrev wah(f:List Jn):List Prop:=[f.length<=f.length,QB 4 f.length (λi=>QA.enc (f.getD i (Jn.mk
  (0:Int) (0:Int) (0:Int) (0:Int)))) λi=>QA.enc (f.getD i (Jn.mk (0:Int) (0:Int) (0:Int) (0:Int)))]
abbrev waW(l:List Lay)(l2:List Lay)(p:Nat)(t:Nat):List Prop:=[l2.length<=l.length+1,QB 2 l2.length (KT l.length (λi=>QA.enc (l.getD i (Lay.mk (0:Int) (0:Int)))) (Ke [[.int
  false .i64 (p:Int),vi (t:Int)]] 0)) λi=>QA.enc (l2.getD i (Lay.mk (0:Int) (0:Int)))]
abbrev wbQ:List Prop:=[cO=cO,0=0,0=0,(0:Int)=0,0=0,0=0,(0:Int)
  = 0,0=0,0=0,0=0,0=0,0=0]
abbrev QMz(d:Puz)(f:List Jn)(l:List Lay)(l2:List Lay)(p:Nat)(t:Nat)(u:Nat->Nat->Int)(u2:Nat->Nat->Int)(w0:List Jn):List Prop:=
  ((wbK)++waa d++([cO=cO,0=0,l.length+1=l2.length,cO=cO,E.1=E.1,E.2=E.2]++waW l l2 p t++(wbo d++[QB 1 d.ps.n (λi=>bif decide (i=p)then Ki [.bool true true] 0 (u ((p:Int).toNat+0))else u i) u2,LoopState.ready=LoopState.ready,(none:Option Code)=none,Array.mk [24]=Array.mk [24],ac=ac,body=body]))++waa d++(wbQ++[0=0,(0:Int)=0])++waa d++((([cO=cO]++wbE++([0=0,w0.length=w0.length,cO=cO,0=0,0=0,Fn.func 91=Fn.func 91,0=0,0=0,0=0,0 =
  0]++wbV++[0=0,f.length=f.length,cO=cO]))++wah f++([Fn.func 103=Fn.func 103]++wbK++[0=0,0=0,Fn.func 91=Fn.func 91,0=0,0=0]))++wad d))
noncomputable abbrev HU:Nat×Blk:=
  (200,.cells 0 152 (List.append (waf d) ([.map 201,.slz 864 0 (i64.wrap ((l2.length:Int)-1)).toNat cO])))
noncomputable abbrev zf:Nat×Blk:=
  (464,.cells 0 114 [.slz 865 0 d.ps.n cO])
noncomputable abbrev GB:Nat×Blk:=
  (296,.cells 0 64 [.slz 866 0 f'.length cO])
noncomputable abbrev G9:Nat×Blk:=
  (864,.rowz true 49 kB l2.length λi=>QA.enc (l2.getD i (Lay.mk (0:Int) (0:Int))))
noncomputable abbrev Ga:Nat×Blk:=
  (865,.rowz true 4 [CK.bool] d.ps.n λi=>bif decide (i=p)then Ki [.bool true false] 0 (u2 ((p:Int).toNat+0))else u2 i)
noncomputable abbrev zN:Nat×Blk:=
  (866,.rowz true 67 (waH) f'.length λi=>QA.enc (f'.getD i (Jn.mk (0:Int) (0:Int) (0:Int) (0:Int))))
noncomputable abbrev QMw:List AV:=
  (.ptr 2 0 0::.ptr 101 0 0::List.append (wa1) ([vi (d.ps.n:Int),vi (p:Int)]))
theorem QhS(pb1 pb2:List Prop->Bool)(d:Puz)(E:ECt)(w0:List Jn)(ac body:Code)(u u2:Nat->Nat->Int)(l l2:List Lay)(v:Bool)(f:List Jn)(p:Nat)(tn:Int)(t:Nat)(f':List Jn)(g0:Nat->Value):exec (mkE prog (QBy pb1 pb2 d E w0 l ⟨p,t⟩ v (faU d E w0 ac body u2 l2 f f'))) (hnd (mkE prog (QBy pb1 pb2 d E w0 l ⟨p,t⟩ v (faU d E w0 ac body u2 l2 f f'))) 0) (QU (QH f103 0)) (JSt.inst (Hz d E w0 ac body u l f p tn t) g0) (Q9 WO QIP) = .br (decide ((t:Int)<tn)) (.need (true) (.br (!Qx (Rw.mk 0 λi=>Pt.mk (0:Int) (Lay.mk (0:Int) (0:Int))) (l.length:Int) (Lay.mk (p:Int) (t:Int))) (.leaf (.tup (Gl d p t tn)) ((W9 E ac body d f l u w0))) (.need (pb1 ((QKm E d l p t))) (.br (!v) (.leaf (.tup (Gl d p t tn)) ((W9 E ac body d f l u w0))) (.need (decide ((0:Int)<=(p:Int)/\(p:Int)<(d.ps.n:Int))&&decide (d.ps.n<=d.ps.n)) (.need (decide (p<d.ps.n)) (.need (decide (l.length<=l.length)&&(true&&decide ((l.length+1+(l.length+1) / 4+192)*16<=281474976710656/\l.length+1<=9223372036854775807))) (.need (pb2 ((QMz E ac body d f l l2 p t u u2 w0))) (.need (decide ((0:Int)<=i64.wrap ((l2.length:Int)-1)/\(i64.wrap ((l2.length:Int)-1)).toNat<=l2.length-0)) (.need (decide ((0:Int)<=(p:Int)/\(p:Int)<(d.ps.n:Int))&&decide (d.ps.n<=d.ps.n)) (.need (decide (p<d.ps.n)) (.br (false) (.leaf (.tup (wbI)) ([(HU d l2),(201,.mp E.1 E.2),(zf d),(393,.lp LoopState.ready none (faT d w0) (Array.mk [24]) ac body),(GB f'),(j5 d),(G9 l2),(Ga d p u2),vt,j8,(360,.cellsR 0 96 [.nils]),(zN f')])) (.leaf (.tup (Gl d p t tn)) (((HU d l2)::(201,.mp E.1 E.2)::(zf d)::(393,.lp LoopState.ready none (faT d w0) (Array.mk [24]) ac body)::(GB f')::j8::List.append (waU) ([QEZ,(j5 d),(G9 l2),(Ga d p u2),vt,(zN f')])))))))))))))))) (.leaf (.tup (QMw d p)) ((W9 E ac body d f l u w0))):=by kernel_rfl
noncomputable abbrev QQp:List AV:=
  (List.append (wa1) ((List.append (wbp d p) ([vi tn,.int
  false .i64 (i64.wrap ((t:Int)+1))]))))
abbrev wbR(w0:List Jn):List Prop:=[0=0,w0.length=w0.length,cO=cO,0=0,0=0,Fn.func (91:FuncId)=Fn.func (91:FuncId)]
abbrev QZQ(d:Puz)(f:List Jn)(l:List Lay)(p:Nat)(t:Nat)(t':Nat)(tn:Int)(u:Nat->Nat->Int)(w0:List Jn):List Prop:=
  (((wbK)++waF d p++[tn=tn,i64.wrap ((t :
  Int)+1)=(t':Int)])++waa d++(([cO=cO,0=0]++wbL E l)++wag l++((wbo d++[QB 1 d.ps.n u u])++wai++[Array.mk [24]=Array.mk [(24:Tmp)],ac=ac,body=body]))++waa d++(wbQ++[0=0,(0:Int) =
  0])++waa d++((([cO=cO]++wbE++((wbR w0++[0=0,0=0,0=0,0=0])++wbO++[0=0,f.length=f.length,cO=cO]))++wah f++([Fn.func 103=Fn.func (103:FuncId)]++wbK++[0=0,0=0,Fn.func 91=Fn.func (91:FuncId),0=0,0=0]))++wad d))
theorem QKi(l:List Lay)(f:List Jn)(p:Nat)(tn:Int)(t t':Nat):QF 520 (QQp d p t tn) ((W9 E ac body d f l u w0)) (Hz d E w0 ac body u l f p tn t')=(some (QZQ E ac body d f l p t t' tn u w0)):=by kernel_rfl
abbrev J3:List Prop:=
  [0=0,0=0,0=0,0=0]
abbrev WL:List Prop:=
  (waa d++[cO=cO,0=0])
abbrev QOQ(d:Puz)(l:List Lay)(l2:List Lay)(p:Nat)(u2:Nat->Nat->Int)(u3:Nat->Nat->Int):List Prop:=
  ([cO=cO]++waO E l l2++(wbo d++[QB 1 d.ps.n (λi=>bif decide (i=p)then Ki [.bool true false] 0 (u2 ((p:Int).toNat
  + 0))else u2 i) u3]))
abbrev QIz:List Prop:=
  [0=0,(0:Int)=0,0=0,0=0,(0:Int)=0]
abbrev QJQ:List Prop:=
  ([0=0,0=0,(0:Int)=0,(0:Int)=0,false=false,0=0,0=0]++wbR w0)
abbrev way(f':List Jn):List Prop:=[f'.length<=f'.length,QB 4 f'.length (λi=>QA.enc (f'.getD i (Jn.mk (0:Int) (0:Int) (0:Int) (0:Int)))) λi
  => QA.enc (f'.getD i (Jn.mk (0:Int) (0:Int) (0:Int) (0:Int)))]
abbrev QUN:List Prop:=
  ([0=0,f'.length=f'.length,cO=cO]++way f')
abbrev QOs:List Prop:=
  ([Fn.func 91=Fn.func (91:FuncId),0=0,0=0]++wad d)
theorem QX6(u u2 u3:Nat->Nat->Int)(l l2:List Lay)(p:Nat)(tn:Int)(t t':Nat)(f':List Jn):QF 520 (QQp d p t tn) (((HU d l2)::(201,.mp E.1 E.2)::(zf d)::(393,.lp LoopState.ready none (faT d w0) (Array.mk [24]) ac body)::(GB f')::j8::List.append (waU) ([QEZ,(j5 d),(G9 l2),(Ga d p u2),vt,(zN f')]))) (Hz d E w0 ac body u3 l f' p tn t')=(some (J3++J3++([0=0,0=0]++waF d p++[tn=tn,i64.wrap ((t:Int)+1)=(t':Int)])++(WL d)++[(i64.wrap ((l2.length:Int)-1)).toNat=l.length]++(QOQ E d l l2 p u2 u3)++(wai++[Array.mk [24]=Array.mk [(24:Tmp)],ac=ac,body=body])++(WL d)++QIz++J3++[0=0,0=0,(0:Int)=0]++(WL d)++[0=0,(0:Int)=0]++(QJQ w0)++J3++[Fn.func (102:FuncId)=Fn.func (102:FuncId)]++J3++(QUN f')++[Fn.func 103=Fn.func (103:FuncId)]++J3++J3++J3++(QOs d))):=by kernel_rfl
theorem QTy(l:List Lay)(f:List Jn)(p:Nat):QF 520 (List.append (wa1) ([vi (d.ps.n:Int),vi (p:Int)])) ((W9 E ac body d f l u w0)) (QBJ d E w0 ac body u l f p)=(some (J3++J3++([0=0,0=0]++wbM d p)++(WL d)++((wbL E l)++wag l++((wbo d++[QB 1 d.ps.n u u])++wai++[Array.mk [24]=Array.mk [(24:Tmp)],ac=ac,body=body]))++(WL d)++QIz++J3++[0=0,0=0,(0:Int)=0]++(WL d)++[0=0,(0:Int)=0]++(QJQ w0)++J3++[Fn.func (102:FuncId)=Fn.func (102:FuncId)]++J3++([0=0,f.length=f.length,cO=cO]++wah f++[Fn.func 103=Fn.func (103:FuncId)])++J3++J3++J3++(QOs d))):=by kernel_rfl
theorem QgE(pb1 pb2:List Prop->Bool)(d:Puz)(E:ECt)(w0:List Jn)(ac body:Code)(u u2:Nat->Nat->Int)(l l2:List Lay)(v:Bool)(f:List Jn)(p:Nat)(tn:Int)(t:Nat)(f':List Jn)(g0:Nat->Value):exec (mkE prog (QBy pb1 pb2 d E w0 l ⟨p,t⟩ v (faV d E w0 ac body u2 l2 f f'))) (hnd (mkE prog (QBy pb1 pb2 d E w0 l ⟨p,t⟩ v (faV d E w0 ac body u2 l2 f f'))) 0) (QU (QH f103 0)) (JSt.inst (Hz d E w0 ac body u l f p tn t) g0) (Q9 WO QIP) = .br (decide ((t:Int)<tn)) (.need (true) (.br (!Qx (Rw.mk 0 λi=>Pt.mk (0:Int) (Lay.mk (0:Int) (0:Int))) (l.length:Int) (Lay.mk (p:Int) (t:Int))) (.leaf (.tup (Gl d p t tn)) ((W9 E ac body d f l u w0))) (.need (pb1 ((QKm E d l p t))) (.br (!v) (.leaf (.tup (Gl d p t tn)) ((W9 E ac body d f l u w0))) (.need (decide ((0:Int)<=(p:Int)/\(p:Int)<(d.ps.n:Int))&&decide (d.ps.n<=d.ps.n)) (.need (decide (p<d.ps.n)) (.need (decide (l.length<=l.length)&&(true&&decide ((l.length+1+(l.length+1) / 4+192)*16<=281474976710656/\l.length+1<=9223372036854775807))) (.need (pb2 ((QMz E ac body d f l l2 p t u u2 w0))) (.need (decide ((0:Int)<=i64.wrap ((l2.length:Int)-1)/\(i64.wrap ((l2.length:Int)-1)).toNat<=l2.length-0)) (.need (decide ((0:Int)<=(p:Int)/\(p:Int)<(d.ps.n:Int))&&decide (d.ps.n<=d.ps.n)) (.need (decide (p<d.ps.n)) (.br (true) (.leaf (.tup (wbI)) ([(HU d l2),(201,.mp E.1 E.2),(zf d),(393,.lp LoopState.done (some (Code.exit 0)) (faT d w0) (Array.mk [24]) ac body), (GB f'),(j5 d),(G9 l2),(Ga d p u2),vt,j8,(360,.cellsR 0 96 [.nils]),(zN f')])) (.leaf (.tup (Gl d p t tn)) (((HU d l2)::(201,.mp E.1 E.2)::(zf d)::(393,.lp LoopState.done (some (Code.exit 0)) (faT d w0) (Array.mk [24]) ac body)::(GB f')::j8::List.append (waU) ([QEZ,(j5 d),(G9 l2),(Ga d p u2),vt,(zN f')])))))))))))))))) (.leaf (.tup (QMw d p)) ((W9 E ac body d f l u w0))):=by kernel_rfl
theorem QcR(u2 u3:Nat->Nat->Int)(l l2:List Lay)(p:Nat)(f':List Jn):QF 520 [.bool true false] ([(HU d l2),(201,.mp E.1 E.2),(zf d),(393,.lp LoopState.done (some (Code.exit 0)) (faT d w0) (Array.mk [24]) ac body),(GB f'),(j5 d), (G9 l2),(Ga d p u2),vt,j8,(360,.cellsR 0 96 [.nils]),(zN f')]) (faF d E w0 ac body u3 l f')=(some ([false=false]++(WL d)++[(i64.wrap ((l2.length:Int)-1)).toNat=l.length]++(QOQ E d l l2 p u2 u3)++(waR++[Array.mk [24]=Array.mk [(24:Tmp)],ac=ac,body=body])++(WL d)++QIz++J3++[0=0,0=0,(0:Int)=0]++(WL d)++[0=0,(0:Int)=0]++(QJQ w0)++J3++[Fn.func (102:FuncId)=Fn.func (102:FuncId)]++J3++(QUN f'))):=by kernel_rfl
def Wl(n:Nat)(a:Int):Tab:=Qa QT 52 (KM pb (tnU d n a))
abbrev QER(P:Program)(pb:List Prop->Bool)(d:Puz)(E:ECt)(w0:List Jn)(ac body:Code)(u:Nat->Nat->Int)(l:List Lay)(f:List Jn)(p:Nat)(X:List (Prop×Ex×JSt)):Hnd:={ hnd (mkE P (Wl pb d l.length p)) 0 with loop:=λ_=>JT (p<d.ps.n/\u p 0=0) (KC 520 WO (Hz d E w0 ac body u l f p (tnV d p) (0:Nat)) X) }
noncomputable abbrev QM1:List AV:=
  (.nilp::.ptr 101 0 0::List.append (wa1) ([vi (d.ps.n:Int),vi (i64.wrap ((p:Int)+1))]))
noncomputable abbrev YF:Nat×Blk:=
  (200,.cells 0 152 (List.append (waf d) ([.map 201,.slz 528 0 l.length cO])))
noncomputable abbrev Xw:Nat×Blk:=
  (464,.cells 0 114 [.slz 536 0 d.ps.n cO])
noncomputable abbrev Hu(d:Puz)(w0:List Jn):Nat×Blk:=
  (393,.lp LoopState.ready none (faT d w0) (Array.mk [24]) ac body)
noncomputable abbrev QCK:Nat×Blk:=
  (296,.cells 0 64 [.slz 544 0 f.length cO])
noncomputable abbrev G0:Nat×Blk:=
  (352,.cellsR 0 90 [.ptr 200 0 0])
noncomputable abbrev QDN:Nat×Blk:=
  (480,.cellsR 0 31 [.fn (Fn.func 103) (wa1)])
noncomputable abbrev zI:Nat×Blk:=
  (0,.frz (wae) d.ps.n λi=>QA.enc (d.ps.get i))
noncomputable abbrev Xn:Nat×Blk:=
  (528,.rowz true 49 kB l.length λi=>QA.enc (l.getD i (Lay.mk (0:Int) (0:Int))))
noncomputable abbrev Gr:Nat×Blk:=
  (328,.cellsR 0 141 [.mth (Fn.func 91) [.ptr 200 0 0]])
noncomputable abbrev QCd:Nat×Blk:=
  (544,.rowz true 67 (waH) f.length λi=>QA.enc (f.getD i (Jn.mk (0:Int) (0:Int) (0:Int) (0:Int))))
noncomputable abbrev Wx:Nat×Blk:=
  (296,.cells 0 64 [.slz 544 0 f'.length cO])
noncomputable abbrev qh:Nat×Blk:=
  (544,.rowz true 67 (waH) f'.length λi=>QA.enc (f'.getD i (Jn.mk (0:Int) (0:Int) (0:Int) (0:Int))))
theorem QL6(u u':Nat->Nat->Int)(l:List Lay)(f:List Jn)(p:Nat)(A B:Prop)(f':List Jn)(g0:Nat->Value):exec (mkE prog (Wl pb d l.length p)) (QER prog pb d E w0 ac body u l f p [(A,.exit 2,QBJ d E w0 ac body u' l f' p),(B,.ret,faF d E w0 ac body u' l f')]) (QH f103 0) (JSt.inst (HD d E w0 ac body u l f p) g0) (Q9 WO QPt) = .br (decide ((p:Int)<(d.ps.n:Int))) (.need (decide ((0:Int)<=(p:Int)/\(p:Int)<(d.ps.n:Int))&&decide (d.ps.n<=d.ps.n)) (.need (decide (p<d.ps.n)) (.br (decide (u ((p:Int).toNat+0) 0=1)) (.leaf (.tup (QM1 d p)) (((YF d l)::(201,.mp E.1 E.2)::(Xw d)::(Hu ac body d w0)::(QCK f)::G0::List.append (waU) ([QDN,(zI d),(Xn l),(536,.rowz true 4 [CK.bool] d.ps.n u),Gr,(QCd f)])))) (.need (pb (([0=0,0=0,(p:Int)=(p:Int)]++waa d++([cO=cO,0=0,l.length=l.length,cO=cO]++wad d)))) (.ak [p<d.ps.n/\u p 0=0] (.ak (rz 10) (.ak ((waF d p++[tnV d (p:Int)=tnV d (p:Int),(0:Int)=0])++waa d++(([cO=cO,0=0]++wbL E l)++wag l++((wbo d++[QB 1 d.ps.n u u])++wai++[Array.mk [(24:Tmp)]=Array.mk [(24:Tmp)],ac=ac,body=body]))++waa d++(wbQ++[0=0,(0:Int)=0])++waa d++(([cO=cO]++wbE++((wbR w0++[0=0,0=0,0=0,0=0])++wbO++[0=0,f.length=f.length,cO=cO]))++wah f++[Fn.func (103:FuncId)=Fn.func (103:FuncId)])) (.ak (rz 12) (.ak ([Fn.func (91:FuncId)=Fn.func (91:FuncId),0=0,0=0]++wad d) (.both (.asm (A) (.all (λ(g0:Nat->Value)=>.leaf (.tup (QM1 d p)) (((YF d l)::(201,.mp E.1 E.2)::(Xw d)::(Hu ac body d w0)::(Wx f')::G0::List.append (waU) ([QDN,(zI d),(Xn l),(536,.rowz true 4 [CK.bool] d.ps.n u'),Gr,(qh f')])))))) (.asm (B) (.all (λ(g1:Nat->Value)=>.leaf (.tup [.nili,.ptr 101 0 0,.bool false false]) ([(YF d l),(201,.mp E.1 E.2),(Xw d),(393,.lp LoopState.done (some (Code.exit 0)) (faT d w0) (Array.mk [24]) ac body),(Wx f'), (Xn l),(536,.rowz true 4 [CK.bool] d.ps.n u'),(qh f')])))))))))))))) (.leaf (.tup [.ptr 0 0 0,.ptr 101 0 0]) ([(YF d l),(201,.mp E.1 E.2),(Xw d),(Hu ac body d w0),(QCK f),(zI d),(Xn l),(536,.rowz true 4 [CK.bool] d.ps.n u),Gr,G0,(360,.cellsR 0 96 [.nils]), (QCd f)])):=by kernel_rfl
noncomputable abbrev QUH:List AV:=
  (List.append (wa1) ([vi (d.ps.n:Int),vi (i64.wrap ((p:Int)+1))]))
abbrev V9:List Prop:=
  [0=0,0=0,0=0,0=0,0=0]
abbrev YC:List Prop:=
  (waa d++[cO=cO,0=0])
abbrev GP(d:Puz)(l:List Lay):List Prop:=
  ((wbL E l)++wag l++(wbo d))
abbrev QJD:List Prop:=
  (wai++[Array.mk [24]=Array.mk [(24:Tmp)],ac=ac])
abbrev zn:List Prop:=
  [0=0,(0:Int)=0,0=0,0=0]
abbrev Gi:List Prop:=
  ([(0:Int)=0,0=0,0=0,0=0,0=0,0=0,0=0,(0:Int)=0]++waa d++([cO=cO]++wbE++(wbR w0++[0 =
  0,0=0,0=0,0=0,Fn.func (102:FuncId)=Fn.func (102:FuncId)])))
abbrev QNi:List Prop:=
  ([f.length=f.length,cO=cO]++wah f)
abbrev QO3:List Prop:=
  ([0=0,Fn.func 91=Fn.func (91:FuncId),0=0,0=0]++wad d)
theorem QKX(l:List Lay)(f:List Jn)(p p':Nat):QF 520 (QUH d p) (((YF d l)::(201,.mp E.1 E.2)::(Xw d)::(Hu ac body d w0)::(QCK f)::G0::List.append (waU) ([QDN,(zI d),(Xn l),(536,.rowz true 4 [CK.bool] d.ps.n u),Gr,(QCd f)]))) (HD d E w0 ac body u l f p')=(some (V9++V9++[(d.ps.n:Int)=(d.ps.n:Int),i64.wrap ((p:Int)+1)=(p':Int)]++(YC d)++(GP E d l)++[QB 1 d.ps.n u u]++(QJD ac)++[body=body]++(YC d)++zn++(Gi d w0)++V9++(QNi f) ++ [Fn.func 103=Fn.func (103:FuncId)]++V9++V9++[0=0]++(QO3 d))):=by kernel_rfl
abbrev QD8:List Prop:=
  ([f'.length=f'.length,cO=cO]++way f')
theorem Qhi(p p':Nat)(f':List Jn):QF 520 (QUH d p) (((YF d l)::(201,.mp E.1 E.2)::(Xw d)::(Hu ac body d w0)::(Wx f')::G0::List.append (waU) ([QDN,(zI d),(Xn l),(536,.rowz true 4 [CK.bool] d.ps.n u'),Gr,(qh f')]))) (HD d E w0 ac body u' l f' p')=(some (V9++V9++[(d.ps.n:Int)=(d.ps.n:Int),i64.wrap ((p:Int)+1)=(p':Int)]++(YC d)++(GP E d l)++[QB 1 d.ps.n u' u']++(QJD ac)++[body=body]++(YC d)++zn++(Gi d w0)++V9++(QD8 f') ++ [Fn.func 103=Fn.func (103:FuncId)]++V9++V9++[0=0]++(QO3 d))):=by kernel_rfl
theorem QjL :QF 520 [.bool false false] ([(YF d l),(201,.mp E.1 E.2),(Xw d),(393,.lp LoopState.done (some (Code.exit 0)) (faT d w0) (Array.mk [24]) ac body),(Wx f'),(Xn l), (536,.rowz true 4 [CK.bool] d.ps.n u'),(qh f')]) (faF d E w0 ac body u' l f')=(some ([false=false]++(YC d)++(GP E d l)++([QB 1 d.ps.n u' u']++waR++[Array.mk [24]=Array.mk [(24:Tmp)],ac=ac,body=body])++(YC d)++zn++(Gi d w0)++V9++(QD8 f'))):=by kernel_rfl
theorem QLK(l:List Lay)(f:List Jn):QF 520 [] ([(YF d l),(201,.mp E.1 E.2),(Xw d),(Hu ac body d w0),(QCK f),(zI d),(Xn l),(536,.rowz true 4 [CK.bool] d.ps.n u),Gr,G0,(360,.cellsR 0 96 [.nils]),(QCd f)]) (G3 d E w0 ac body u l f)=(some ((YC d)++(GP E d l)++[QB 1 d.ps.n u u]++(QJD ac)++[body=body]++(YC d)++zn++(Gi d w0) ++ V9++(QNi f))):=by kernel_rfl
abbrev faX(P:Program)(J:JSt)(X:List (Prop×Ex×JSt)):Hnd:={ hnd (mkE P QT) 0 with loop:=λ_=>KC 520 WO J X }
theorem QM7(u u':Nat->Nat->Int)(l:List Lay)(f:List Jn)(A B:Prop)(f':List Jn):(Vk (mkE prog QT) (faX prog (HD d E w0 (QN f43 0).1 (QN f43 0).2 u l f 0) [(A,.exit 0,G3 d E w0 (QN f43 0).1 (QN f43 0).2
  u' l f'),(B,.ret,faF d E w0 (QN f43 0).1 (QN f43 0).2 u' l f')]) f103 QHI (GU d E w0 (QN f43 0).1 (QN f43 0).2 u l f).hp 520 λv h
  _ => Y9 WO v h) = .br ((l.length : Int) == (d.ps.n : Int)) (.fail ("yield")) (.ask (0 = 0) (.ask (0 = 0) (.ask (0 = 0) (.ask (0 = 0) (.ask (0 = 0) (.ask (0 = 0) (.ask (0 = 0)
  (.ask (0=0) (.ask (0=0) (.ask (0=0) (.ask ((d.ps.n:Int)=(d.ps.n:Int)) (.ask ((0:Int)=0) (.ask (d.pK.length=d.pK.length) (.ask (d.pK.aK=d.pK.aK)
  (.ask (d.pK.oK=d.pK.oK) (.ask (d.pK.dK.lo=d.pK.dK.lo) (.ask (d.pK.dK.hi=d.pK.dK.hi) (.ask (d.wide=d.wide) (.ask (d.high=d.high) (.ask (d.turn =
  d.turn) (.ask (0=0) (.ask (d.ps.n=d.ps.n) (.ask (Cap.of 0=Cap.of 0) (.ask (0=0) (.ask (l.length=l.length) (.ask (Cap.of 0=Cap.of 0) (.ask (E.1=E.1) (.ask (E.2=E.2)
  (.ak [l.length<=l.length,QB 2 l.length (λi=>QA.enc (l.getD i (Lay.mk (0:Int) (0:Int)))) λi=>QA.enc (l.getD i (Lay.mk (0:Int) (0:Int))),0
  = 0,d.ps.n=d.ps.n,Cap.of 0=Cap.of 0,d.ps.n<=d.ps.n,QB 1 d.ps.n u u,LoopState.ready=LoopState.ready,(none:Option Code) =
  none,Array.mk [(24:Tmp)]=Array.mk [(24:Tmp)],(QN f43 0).1=(QN f43 0).1,(QN f43 0).2=(QN f43 0).2] (.ask
  (d.pK.length=d.pK.length) (.ask (d.pK.aK=d.pK.aK) (.ask (d.pK.oK=d.pK.oK) (.ask (d.pK.dK.lo=d.pK.dK.lo) (.ask (d.pK.dK.hi =
  d.pK.dK.hi) (.ask (d.wide=d.wide) (.ask (d.high=d.high) (.ask (d.turn=d.turn) (.ask (0=0) (.ask (d.ps.n=d.ps.n) (.ask (Cap.of 0=Cap.of 0) (.ask (0=0) (.ask (0=0)
  (.ask ((0:Int)=0) (.ask (0=0) (.ask (0=0) (.ask ((0:Int)=0) (.ask (0=0) (.ask (0=0) (.ask (0=0) (.ask (0=0) (.ask (0=0) (.ask (0=0) (.ask ((0:Int)=0)
  (.ask (d.pK.length=d.pK.length) (.ask (d.pK.aK=d.pK.aK) (.ask (d.pK.oK=d.pK.oK) (.ask (d.pK.dK.lo=d.pK.dK.lo) (.ask (d.pK.dK.hi =
  d.pK.dK.hi) (.ask (d.wide=d.wide) (.ask (d.high=d.high) (.ask (d.turn=d.turn) (.ask (0=0) (.ask (d.ps.n=d.ps.n) (.ask (Cap.of 0=Cap.of 0) (.ask (0=0) (.ask (0=0)
  (.ask ((0:Int)=0) (.ask (0=0) (.ask (0=0) (.ask ((0:Int)=0) (.ask ((0:Int)=0) (.ask (false=false) (.ask (0=0) (.ask (0=0) (.ask (0=0) (.ask (w0.length =
  w0.length) (.ask (Cap.of 0=Cap.of 0) (.ask (0=0) (.ask (0=0) (.ask (Fn.func (91:FuncId)=Fn.func (91:FuncId)) (.ask (0=0) (.ask (0=0) (.ask (0=0) (.ask (0=0)
  (.ask (Fn.func (102:FuncId)=Fn.func (102:FuncId)) (.ask (0=0) (.ask (0=0) (.ask (0=0) (.ask (0=0) (.ask (0=0) (.ask (f.length=f.length) (.ask (Cap.of 0=Cap.of 0)
  (.ask (f.length<=f.length) (.ask (QB 4 f.length (λi=>QA.enc (f.getD i (Jn.mk (0:Int) (0:Int) (0:Int) (0:Int)))) λi=>QA.enc (f.getD i (Jn.mk (0:Int) (0 :
  Int) (0:Int) (0:Int)))) (.ask (Fn.func (103:FuncId)=Fn.func (103:FuncId)) (.ask (0=0) (.ask (0=0) (.ask (0=0) (.ask (0=0) (.ask (0=0) (.ask (0=0) (.ask (0=0)
  (.ak [0=0,0=0,0=0,0=0,0=0,Fn.func (91:FuncId)=Fn.func (91:FuncId),0=0,0=0,d.ps.n<=d.ps.n] (.ask
  (QB 28 d.ps.n (λi=>QA.enc (d.ps.get i)) λi=>QA.enc (d.ps.get i)) (.both (.asm (A) (.all (λ(g0:Nat->Value)=>.leaf (.bool true true) ([(YF d l),(201,.mp
  E.1 E.2),(Xw d),(393,.lp LoopState.ready none (faT d w0) (Array.mk [24]) (QN f43 0).1 (QN f43 0).2),(Wx f'),(Xn l),(536,.rowz true 4 [CK.bool] d.ps.n
  u'),(qh f')])))) (.asm (B) (.all (λ(g1:Nat->Value)=>.leaf (.bool false false) ([(YF d l),(201,.mp E.1 E.2),(Xw d),(393,.lp LoopState.done (some (Code.exit 0))
  (faT d w0) (Array.mk [24]) (QN f43 0).1 (QN f43 0).2),(Wx f'),(Xn l),(536,.rowz true 4 [CK.bool] d.ps.n u'),(qh
  f')]))))))))))))))))))))))))))))))))))))))))))))))))))))))))))))))))))))))))))))))))))))))))))))))))))))))))))))):=by kernel_rfl
noncomputable abbrev wbb:List Prop:=[Array.mk [24]=Array.mk [(24:Tmp)],(QN f43 0).1=(QN f43 0).1,(QN f43 0).2=(QN f43 0).2]
theorem QaH(u u':Nat->Nat->Int)(l:List Lay)(f:List Jn)(f':List Jn):QF 520 [(.bool true true)] ([(YF d l),(201,.mp E.1 E.2),(Xw d),(393,.lp LoopState.ready none (faT d w0) (Array.mk [24]) (QN f43 0).1 (QN f43 0).2), (Wx f'),(Xn l),(536,.rowz true 4 [CK.bool] d.ps.n u'),(qh f')]) (Kf (faU d E w0 (QN f43 0).1 (QN f43 0).2 u l f f'))=(some ([true=true]++(YC d)++(GP E d l)++([QB 1 d.ps.n u' u]++wai++(wbb))++(YC d)++zn++(Gi d w0)++V9++(QD8 f'))):=by kernel_rfl
theorem QiD(u u':Nat->Nat->Int)(l:List Lay)(f:List Jn)(f':List Jn):QF 520 [(.bool false false)] ([(YF d l),(201,.mp E.1 E.2),(Xw d),(393,.lp LoopState.done (some (Code.exit 0)) (faT d w0) (Array.mk [24]) (QN f43 0).1 (QN f43 0).2),(Wx f'),(Xn l),(536,.rowz true 4 [CK.bool] d.ps.n u'),(qh f')]) (Kf (faV d E w0 (QN f43 0).1 (QN f43 0).2 u l f f'))=(some ([false=false]++(YC d)++(GP E d l)++([QB 1 d.ps.n u' u]++waR++(wbb))++(YC d)++zn++(Gi d w0)++V9++(QD8 f'))):=by kernel_rfl
def Ys(s:LJ):Qd LJ->UC
 | .go s'=>faU d E w0 ac body (QD l) l s.1 s'.1
 | .stop s'=>faV d E w0 ac body (QD l) l s.1 s'.1
open Classical in
noncomputable def Zu:List Prop->Bool:=if t<QZ d p then QQ else λ_=>false
noncomputable def vg(P:Program)(d:Puz)(E:ECt)(w0:List Jn)(ac body:Code)(rec:List Lay->LJ->Qd LJ)(l:List Lay)(p:Nat)(k:Nat×LJ):Env:=
 mkE P (QBy (Zu d p k.1) (Zu d p k.1) d E w0 l ⟨p,k.1⟩ (Q7 d E l ⟨p,k.1⟩) (Ys d E w0 ac body (l++[⟨p,k.1⟩]) k.2 (rec (l++[⟨p,k.1⟩]) k.2)))
def ZL(rec:List Lay->LJ->Qd LJ)(l:List Lay)(p:Nat)(k:Nat×LJ)(e:Ex)(J:JSt):Prop:=match Q5 (KK d E rec l p) ((List.range (QZ d p)).drop k.1) k.2 with
 | .go s'=>e = .exit 2/\J=QBJ d E w0 ac body (QD l) l s'.1 p
 | .stop s'=>e = .ret/\J=faF d E w0 ac body (QD l) l s'.1
set_option maxHeartbeats 1000000 in
theorem QhC(rec:List Lay->LJ->Qd LJ)(l:List Lay)(p:Nat)(hp:p<d.ps.n)(hn:d.ps.n<=1000)(hl:l.length<=1000)(hu:Q6 l p=false):JW (λk:Nat×LJ=>Hz d E w0 ac body (QD l) l k.2.1 p (tnV d p) k.1) (λk=>k.1<=QZ d p) (λk=>QZ d p-k.1) (ZL d E w0 ac body rec l p) 520 QIP WO (vg prog d E w0 ac body rec l p) (λk=>hnd (vg prog d E w0 ac body rec l p k) 0) (QU (QH f103 0)):=by
 refine⟨λk g0 hk=>?_⟩;obtain⟨t,f,hq0⟩:=k;have hk:t<=QZ d p:=hk;obtain⟨ht1,ht4⟩:=WD d p;have hlen:(l++[(⟨p,t⟩:Lay)]).length=l.length+1:=by rw[List.length_append,List.length_singleton]
 have hw1:i64.wrap (((l++[(⟨p,t⟩:Lay)]).length:Int)-1)=l.length:=(w64 (by omega) (by omega)).trans (by omega)
 have hpop:(i64.wrap (((l++[(⟨p,t⟩:Lay)]).length:Int)-1)).toNat=l.length:=by rw[hw1];exact Int.toNat_natCast _
 have hle:l.length<=(l++[(⟨p,t⟩:Lay)]).length:=by omega
 have hpb:t<QZ d p->Zu d p t=QQ:=λh=>by unfold Zu;rw[if_pos h]
 have wt:t<QZ d p->i64.wrap ((t:Int)+1)=((t+1:Nat):Int):=λh=>(w64 (by omega) (by omega)).trans (by omega)
 have step:=λh:t<QZ d p=>qL (f:=KK d E rec l p) h ⟨f,hq0⟩;unfold vg;simp only
 have next:t<QZ d p->∀{s2:LJ},KK d E rec l p ⟨f,hq0⟩ t = .go s2->∀ e J,ZL d E w0 ac body rec l p (t+1,s2) e J->ZL d E w0 ac body rec l p (t,⟨f,hq0⟩) e J:=by
  intro h s2 he e J hr;unfold ZL at hr ⊢;simp only at hr ⊢;rw[step h,he];exact hr
 have last:QZ d p<=t->ZL d E w0 ac body rec l p (t,⟨f,hq0⟩) (.exit 2) (QBJ d E w0 ac body (QD l) l f p):=by
  intro h;unfold ZL;simp only[Wp h,and_self]
 cases hr:rec (l++[⟨p,t⟩]) ⟨f,hq0⟩with
 | go s'=>
  obtain⟨f',hq1⟩:=s';simp only[Ys];have et:=QhS (Zu d p t) (Zu d p t) d E w0 ac body (QD l) (QD (l++[⟨p,t⟩])) l (l++[⟨p,t⟩]) (Q7 d E l ⟨p,t⟩) f p (tnV d p) t f' g0;refine Qf et ?_;clear et;refine QE (λb0=>?_) (λb0=>?_);have h:t<QZ d p:=by have:=qdt b0;omega
  rw[hpb h];have hw:=wt h;refine QG ?_ ?_;rotate_left;refine QE ?_ ?_<;>intro b1
  .exact Bool.noConfusion (show false=true from b1)
  refine QG ?_ ?_;rotate_left;refine QE (λb2=>?_) (λb2=>?_);have hv:Q7 d E l ⟨p,t⟩=false:=by simpa using b2
  have ho:KK d E rec l p ⟨f,hq0⟩ t = .go ⟨f,hq0⟩:=by unfold KK;rw[hv];rfl
  refine⟨(t+1,⟨f,hq0⟩),h,by show QZ d p-(t+1)<QZ d p-t;omega,next h ho,rfl,rfl,_,QKi d E w0 ac body (QD l) l f p (tnV d p) t (t+1),?_⟩
  rotate_left
  iterate 7 (refine QG ?_ ?_;rotate_left)
  refine QE ?_ ?_<;>intro b3
  .cases b3
  have hv:Q7 d E l ⟨p,t⟩=true:=by simpa using b2
  have ho:KK d E rec l p ⟨f,hq0⟩ t = .go ⟨f',hq1⟩:=by unfold KK;rw[hv];exact hr
  have hb:=qk l d.ps.n p t hu;have hq:=Wb l ⟨p,t⟩;have hnx:=next h ho
  clear next last step hr ho
  generalize QD (l++[⟨p,t⟩])=u2 at hb ⊢;generalize l++[⟨p,t⟩]=l2 at hpop hle hq ⊢;generalize hu1:QD l=u1 at hb ⊢;refine⟨(t+1,⟨f',hq1⟩),h,by show QZ d p-(t+1)<QZ d p-t;omega,hnx,rfl,rfl,_,QX6 d E w0 ac body u1 u2 u1 l l2 p (tnV d p) t (t+1) f',?_⟩
  rotate_left
  have h:QZ d p<=t:=by have:=qdf b0;omega
  refine⟨_,last h,rfl,rfl,_,QTy d E w0 ac body (QD l) l f p,?_⟩
  rotate_left
  all_goals first|((with_reducible show _=true);(first|rfl|(refine KI.2 ?_;repeat' first|with_reducible refine QL ?_ ?_|exact tv|with_reducible exact qRr|with_reducible exact hlen|with_reducible exact hlen.symm|with_reducible exact Nat.le_of_eq hlen|with_reducible exact Zd l ⟨p,t⟩|with_reducible exact Z6 l _ p t|exact rfl|refine aI ?_ ?_)|(rw[hw1];simp)|(simp;omega)))|(repeat' first|with_reducible refine QL ?_ ?_|exact tv|with_reducible exact qRr|with_reducible exact hw|with_reducible exact hpop|with_reducible exact hle|with_reducible exact hq|with_reducible exact hb|exact rfl|refine aI ?_ ?_)
 | stop s'=>
  obtain⟨f',hq1⟩:=s';simp only[Ys];have et:=QgE (Zu d p t) (Zu d p t) d E w0 ac body (QD l) (QD (l++[⟨p,t⟩])) l (l++[⟨p,t⟩]) (Q7 d E l ⟨p,t⟩) f p (tnV d p) t f' g0;refine Qf et ?_;clear et;refine QE (λb0=>?_) (λb0=>?_);have h:t<QZ d p:=by have:=qdt b0;omega
  rw[hpb h];have hw:=wt h;refine QG ?_ ?_;rotate_left;refine QE ?_ ?_<;>intro b1
  .exact Bool.noConfusion (show false=true from b1)
  refine QG ?_ ?_;rotate_left;refine QE (λb2=>?_) (λb2=>?_);have hv:Q7 d E l ⟨p,t⟩=false:=by simpa using b2
  have ho:KK d E rec l p ⟨f,hq0⟩ t = .go ⟨f,hq0⟩:=by unfold KK;rw[hv];rfl
  refine⟨(t+1,⟨f,hq0⟩),h,by show QZ d p-(t+1)<QZ d p-t;omega,next h ho,rfl,rfl,_,QKi d E w0 ac body (QD l) l f p (tnV d p) t (t+1),?_⟩
  rotate_left
  iterate 7 (refine QG ?_ ?_;rotate_left)
  refine QE (λb3=>?_) (λb3=>?_);have hv:Q7 d E l ⟨p,t⟩=true:=by simpa using b2
  have ho:KK d E rec l p ⟨f,hq0⟩ t = .stop ⟨f',hq1⟩:=by unfold KK;rw[hv];exact hr
  have hrel:ZL d E w0 ac body rec l p (t,⟨f,hq0⟩) .ret (faF d E w0 ac body (QD l) l f'):=by
   unfold ZL;simp only[step h,ho,and_self]
  have hb:=qk l d.ps.n p t hu;have hq:=Wb l ⟨p,t⟩;clear next last step hr ho
  generalize QD (l++[⟨p,t⟩])=u2 at hb ⊢;generalize l++[⟨p,t⟩]=l2 at hpop hle hq ⊢;generalize hu1:QD l=u1 at hb hrel ⊢;refine⟨_,hrel,rfl,rfl,_,QcR d E w0 ac body u2 u1 l l2 p f',?_⟩
  rotate_left
  .cases b3
  have h:QZ d p<=t:=by have:=qdf b0;omega
  refine⟨_,last h,rfl,rfl,_,QTy d E w0 ac body (QD l) l f p,?_⟩
  rotate_left
  all_goals first|((with_reducible show _=true);(first|rfl|(refine KI.2 ?_;repeat' first|with_reducible refine QL ?_ ?_|exact tv|with_reducible exact qRr|with_reducible exact hlen|with_reducible exact hlen.symm|with_reducible exact Nat.le_of_eq hlen|with_reducible exact Zd l ⟨p,t⟩|with_reducible exact Z6 l _ p t|exact rfl|refine aI ?_ ?_)|(rw[hw1];simp)|(simp;omega)))|(repeat' first|with_reducible refine QL ?_ ?_|exact tv|with_reducible exact qRr|with_reducible exact hw|with_reducible exact hpop|with_reducible exact hle|with_reducible exact hq|with_reducible exact hb|exact rfl|refine aI ?_ ?_)
def QFF(rec:List Lay->LJ->Qd LJ)(l:List Lay)(p:Nat):Prop:=∀ t,t<QZ d p->∀ s,QR prog 103 (uFC (Ys d E w0 ac body (l++[⟨p,t⟩]) s (rec (l++[⟨p,t⟩]) s)))
theorem Qef{d:Puz}{E:ECt}{w0:List Jn}{ac body:Code}{rec:List Lay->LJ->Qd LJ}{l:List Lay}{p:Nat}(hd:KO d)(hE:WfE E)(hl:l.length<=1000)(hL:∀ y∈l,KD d y)(hp:p<d.ps.n)(IH:QFF d E w0 ac body rec l p)(k:Nat×LJ):(vg prog d E w0 ac body rec l p k).Sound:=by
 unfold vg Zu
 by_cases h:k.1<QZ d p
 .rw[if_pos h];have h4:=(WD d p).2;exact QO ((Qh.add (QE5 d E l ⟨p,k.1⟩ hd hE hl hL ⟨⟨by show(0:Int)<=p;omega,by show(p:Int)<_;omega⟩,by show(0:Int)<=k.1;omega,by show(k.1:Int)<=3;omega⟩)).add (IH k.1 h k.2))
 .rw[if_neg h];exact QO ((Qh.add (Jr (by kernel_rfl) _)).add (Jr (by kernel_rfl) _))
def QBh(rec:List Lay->LJ->Qd LJ)(l:List Lay)(p:Nat)(s:LJ):List (Prop×Ex×JSt):=
 [((inZ d E rec l p s).isGo=true,.exit 2,QBJ d E w0 ac body (QD l) l (inZ d E rec l p s).s.1 p),((inZ d E rec l p s).isGo=false,.ret,faF d E w0 ac body (QD l) l (inZ d E rec l p s).s.1)]
theorem QcJ{d:Puz}{E:ECt}{w0:List Jn}{ac body:Code}{rec:List Lay->LJ->Qd LJ}{l:List Lay}(hd:KO d)(hE:WfE E)(hl:l.length<=1000)(hL:∀ y∈l,KD d y)(p:Nat)(s:LJ)(IH:p<d.ps.n->QFF d E w0 ac body rec l p)(G:Ctx)(hrd:G.rd=none)(hG:G.n<=520):
  Qw (mkE prog (Wl QQ d l.length p)) G (QER prog QQ d E w0 ac body (QD l) l s.1 p (QBh d E w0 ac body rec l p s)) (QH f103 0):=by
 have hT:Qc (Wl QQ d l.length p):=Qh.add (X6 d l.length p);refine KN (body:=QU (QH f103 0)) (QO hT) hrd (by kernel_rfl) ?_
 refine Jh λhp=>?_;have hu:=QEJ hp.2;have hEnv:=Qef (ac:=ac) (body:=body) hd hE hl hL hp.1 (IH hp.1);refine Jo (E0:=mkE prog (Wl QQ d l.length p)) (E:=vg prog d E w0 ac body rec l p) (H:=λk=>hnd (vg prog d E w0 ac body rec l p k) 0) (n0:=520) (s0:=(0,s)) (λ_=>rfl) hEnv hG (λk _=>Qv (hEnv k) 0 G _ hrd) (λk _=>(by decide:520<=552)) ?_ (QhC d E w0 ac body rec l p hp.1 hd.n hl hu) (Nat.zero_le _) ?_
 .intro k e J hr;unfold ZL at hr;split at hr<;>(rw[hr.2];exact(by decide:520<=552))
 .intro e J hr;unfold ZL at hr;simp only[List.drop_zero]at hr;have hi:inZ d E rec l p s=Q5 (KK d E rec l p) (List.range (QZ d p)) s:=rfl;unfold QBh;rw[hi];cases hc:Q5 (KK d E rec l p) (List.range (QZ d p)) s with
  | go s'=>
   rw[hc]at hr;exact⟨_,qmc,rfl,hr.1.symm,hr.2.symm⟩
  | stop s'=>
   rw[hc]at hr;exact⟨_,List.mem_cons_of_mem _ qmc,rfl,hr.1.symm,hr.2.symm⟩
