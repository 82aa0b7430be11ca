/- - -/
import Derived.Test.YtekbmehgcofnkaaGreatJzf
set_option linter.all false
noncomputable section
open Go.Proofs.Tryz
open Go.IntKind (i64)
set_option maxRecDepth 100000
namespace Go.Proofs.YtekbmehgcofnkaaGreat
open Go.SX Go.SX.Told
variable (d:Puz)(pb:List Prop->Bool)(n e:Int)
def vP(d:Puz)(E:ECt):Tab:=QZ QU 60 (KI pb (nbU d E))
abbrev whH(P:Program)(pb:List Prop->Bool)(d:Puz)(E:ECt)(p:Int)(X:List (Prop×Ex×JSt)):Hnd:={ hnd (mkE P (vP pb d E)) 8 with loop:=λ_=>J9 (d.ok=true) (KJ 112 [200,201] (Yj d E p 0 (0:Nat)) X) }
def YZ:AV := .tup [.int false .i64 n,.int false .i64 e]
theorem QeF(d:Puz)(E:ECt)(p cells':Int):Kf (mkE prog (vP pb d E)) (whH prog pb d E p [(True,.exit 1,vy cells')]) f17 (QX.vals 0 ((d,p,()):Puz×Int×Unit)) (QX.blks 0 ((d,p,()):Puz×Int×Unit)) 112 = .need (decide (d.ps.n<=d.ps.n)&&true&&decide (d.ps.n<=1000)) (.br (!d.ok) (.leaf (.tup [vj 0,vj 1]) ([])) (.need (pb ((waa d++([cO=cO]++wad d)))) (.need (true) (.br (!Qu p (0:Int) (i64.wrap ((d.ps.n:Int)-1))) (.leaf (.tup [vj 0,vj 2]) ([])) (.ak ([d.ok=true,p=p,(0:Int)=0,0=0,0=0,(d.ps.n:Int)=(d.ps.n:Int),(0:Int)=0]++waa d++([cO=cO,0=0,E.1=E.1,E.2=E.2,0=0]++wad d)) (.asm (True) (.all (λ(g0:Nat->Value)=>.br (cells'==0) (.leaf (.tup [vj 0,vj 4]) ([])) (.leaf (.tup [vi cells',vj 0]) ([])))))))))):=by kernel_rfl
theorem QgA:QF 112 [(AV.tup [vj (0:Int),vj (1:Int)])] ([]) (KW 112 (YZ n e) [])=( some [(0:Int)=n,(1:Int)=e]):=by kernel_rfl
theorem QaW:QF 112 [(AV.tup [vj (0:Int),vj (2:Int)])] ([]) (KW 112 (YZ n e) [])=( some [(0:Int)=n,(2:Int)=e]):=by kernel_rfl
theorem QUx:QF 112 [(AV.tup [vj (0:Int),vj (4:Int)])] ([]) (KW 112 (YZ n e) [])=( some [(0:Int)=n,(4:Int)=e]):=by kernel_rfl
theorem QXv(cells' n e:Int):QF 112 [(AV.tup [vi cells',vj (0:Int)])] ([]) (KW 112 (YZ n e) [])=( some [cells'=n,(0:Int)=e]):=by kernel_rfl
def V4(p:Int):Int×Int:=cond d.ok
 (cond (Qu p 0 (i64.wrap ((d.ps.n:Int)-1))) (cond (Zw d (QI d) p==0) (0,4) (Zw d (QI d) p,0)) (0,2)) (0,1)
def Yx:WF (Puz×Int×Unit):=λ|(d,p,_)=>(decide (d.ps.n<=1000),YZ (V4 d p).1 (V4 d p).2,[])
def QJI:FC:=wFC Yx
theorem QUw(p:Int):WOk (Yx (d,p,())).2.1 (Yx (d,p,())).2.2:=⟨rfl,by simp[Yx],rfl⟩
theorem Qat(p:Int)(hn:d.ps.n<=1000)(G:Ctx)(hrd:G.rd=none)(hG:G.n=112):Q1 (mkE prog (vP QO d (QI d))) G (whH prog QO d (QI d) p [(True,.exit 1,vy (Zw d (QI d) p))]) (Qk f17):=by
 have hT:Qc (vP QO d (QI d)):=Qd.add (Zy d (by omega))
 refine Kk (body:=QJ f17 0) (QP hT) hrd (by kernel_rfl) ?_
 refine Vy λho=>?_;have hd:=(V6 (Vz ho)).1;have hT1:Qc (qm QO d p):=Qd.add (Yg d 0 p);refine Jz (E0:=mkE prog (vP QO d (QI d))) (E:=λ_:Nat×Int=>mkE prog (qm QO d p)) (H:=λk=>QER prog QO d (QI d) p k.2 k.1 [(True,.exit 3,Yj d (QI d) p (ZE d (QI d) p k.2 k.1) k.1)]) (n0:=112) (s0:=(0,0)) (λ_=>rfl) (λ_=>QP hT1) (by omega) (λk _=>Qbx hd (Z4 d hn).w p k.2 k.1 G hrd (by omega)) (λk _=>(by decide:112<=400)) ?_ (QYz d (QI d) p hn) (Nat.zero_le _) ?_
 .rintro k e J ⟨_,rfl⟩;exact(by decide:112<=400)
 .rintro e J ⟨rfl,rfl⟩;exact⟨_,qmc,trivial,rfl,rfl⟩
theorem QfO(p:Int)(hx:(Yx (d,p,())).1=true):QQ prog 17 (wFC (VK Yx (d,p,()))):=by
 have hn:d.ps.n<=1000:=qdt hx;have hT:Qc (vP QO d (QI d)):=Qd.add (Zy d (by omega))
 refine Yi (c:=Qk f17) (E:=mkE prog (vP QO d (QI d))) (H:=whH prog QO d (QI d) p [(True,.exit 1,vy (Zw d (QI d) p))]) (QP hT) func17 (by kernel_rfl) (by kernel_rfl) (N:=112) (by decide) (d,p,()) (λG h1 h2=>Qat d p hn G h1 h2) (QUw d p) ?_
 have hv:V4 d p=cond d.ok (cond (Qu p 0 (i64.wrap ((d.ps.n:Int)-1))) (cond (Zw d (QI d) p==0) (0,4) (Zw d (QI d) p,0)) (0,2)) (0,1):=rfl;have et:=QeF QO d (QI d) p (Zw d (QI d) p);generalize Zw d (QI d) p=W at et hv ⊢;refine Qe et ?_;clear et;refine QG ?_ ?_;rotate_left;refine QE (λb0=>?_) (λb0=>?_);have ho:d.ok=false:=by simpa using b0
 rw[ho,cond_false]at hv;simp only[Yx,hv];refine⟨rfl,rfl,_,QgA 0 1,?_⟩
 rotate_left
 have ho:d.ok=true:=by simpa using b0
 iterate 2 (refine QG ?_ ?_;rotate_left)
 refine QE (λb1=>?_) (λb1=>?_);have hw:Qu p 0 (i64.wrap ((d.ps.n:Int)-1))=false:=by simpa using b1
 rw[ho,hw,cond_true,cond_false]at hv;simp only[Yx,hv];refine⟨rfl,rfl,_,QaW 0 2,?_⟩
 rotate_left
 iterate 24 refine Q2 (by first|exact tv|exact ho|with_reducible exact qRr|exact rfl) ?_
 refine Qh λa0=>?_;refine Qj λg0=>?_;refine QE (λb2=>?_) (λb2=>?_);have hw:Qu p 0 (i64.wrap ((d.ps.n:Int)-1))=true:=by simpa using b1
 rw[ho,hw,cond_true,cond_true,show(W==0)=true from b2,cond_true]at hv;simp only[Yx,hv];refine⟨rfl,rfl,_,QUx 0 4,?_⟩
 rotate_left
 have hw:Qu p 0 (i64.wrap ((d.ps.n:Int)-1))=true:=by simpa using b1
 rw[ho,hw,cond_true,cond_true,show(W==0)=false from b2,cond_false]at hv;simp only[Yx,hv];refine⟨rfl,rfl,_,QXv W W 0,?_⟩
 rotate_left
 all_goals first|((with_reducible show _=true);(first|(simp;done)|(refine Q9.2 ?_;repeat' first|with_reducible refine QN ?_ ?_|exact tv|with_reducible exact qRr|exact rfl|refine aI ?_ ?_)|(simp;omega)))|(repeat' first|with_reducible refine QN ?_ ?_|exact tv|with_reducible exact qRr|exact rfl|refine aI ?_ ?_)
theorem QF4:QQ prog 17 QJI:=zR (by kernel_rfl) λ|(d,p,()),hx=>QfO d p hx
end Go.Proofs.YtekbmehgcofnkaaGreat
namespace Go.SX
open Go Go.RowKit Go.Proofs.YtekbmehgcofnkaaGreat
structure Rc (α:Type) where
 n:Nat
 get:Nat->α
 c:Nat
def Rc.rw{α:Type}(x:Rc α):Rw α:=⟨x.n,x.get⟩
def QG4:AV->Option Nat
 | .slz _ _ _ (.lit c)=>some c
 | .slice _ _ _ _ (.lit c)=>some c
 | .nils=>some 0
 | _=>none
theorem QhZ{ks:List CK}{v:AV}{c:Nat}(hc:QG4 v=some c){lk:Nat->Option Blk}{p:Bool}{m:Nat}{g g':Nat->Nat->Int}(h:Gv ks v lk=some (p,m,g))(hp:p=true)(hg:∀ i,QW ks g' i=QW ks g i){r:Nat->Loc}{w:World}(hb:∀ id b,lk id=some b->QL r id w b):
  ∃ l:Loc,∀(k:Nat) (r':Nat->Loc),r' k=l->(AV.slz k 0 m (.lit c)).den r'=v.den r/\QL r' k w (.frz ks m g'):=by
 have main:((∃ id e n,v = .slz id e n (.lit c))->∀ id e n,v = .slz id e n (.lit c)->(r id).nil=false)->∃ l:Loc,∀(k:Nat) (r':Nat->Loc),r' k=l->(AV.slz k 0 m (.lit c)).den r'=v.den r/\QL r' k w (.frz ks m g'):=by
  intro hnn;obtain⟨l,hl⟩:=QKO h hp hg hb;refine⟨l,λk r' hr=>⟨?_,(hl k r' hr).2⟩⟩;have hd:=(hl k r' hr).1;unfold QG4 at hc;split at hc<;>(try (cases hc;done))
  .simp only[qsI]at hc;subst hc;rename_i id e n c;have hn:=hnn ⟨_,_,_,rfl⟩ id e n rfl;rw[<-hd];simp only[AV.den,Loc.room,hn,Cap.den,Value.slice.injEq]at hd ⊢;obtain⟨_,_,h3⟩:=hd;refine⟨trivial,trivial,?_⟩;cases hk:(r' k).nil with
   | true=>rfl
   | false=>rw[hk]at h3;simp only[Nat.sub_zero]at h3 ⊢;exact h3.symm
  .simp only[qsI]at hc;subst hc;rw[<-hd];simp only[AV.den,Loc.room,Cap.den,Value.slice.injEq]at hd ⊢;obtain⟨_,_,h3⟩:=hd;refine⟨trivial,trivial,?_⟩;cases hk:(r' k).nil with
   | true=>rfl
   | false=>rw[hk]at h3;simp only[Nat.sub_zero]at h3 ⊢;exact h3.symm
  .simp only[qsI]at hc;subst hc;rw[<-hd];simp only[AV.den,Loc.room,Cap.den,Value.slice.injEq]at hd ⊢;obtain⟨_,_,h3⟩:=hd;refine⟨trivial,trivial,?_⟩;cases hk:(r' k).nil with
   | true=>rfl
   | false=>rw[hk]at h3;simp only[Nat.sub_zero]at h3 ⊢;exact h3.symm
 by_cases hv:∃ id e n,v = .slz id e n (.lit c)
 .obtain⟨id,e,n,rfl⟩:=hv;cases hn:(r id).nil with
  | false=>exact main λ_ id' e' n' h'=>by cases h';exact hn
  | true=>
   have fin:∀(N:Nat),(r id).esz=ks.length->(∀ k,(r id).foot k->k<w.heap.size)->m+e<=N->N=0->m=n->∃ l:Loc,∀(k:Nat) (r':Nat->Loc),r' k=l->(AV.slz k 0 m (.lit c)).den r'=(AV.slz id e n (.lit c)).den r/\QL r' k w (.frz ks m g'):=by
    intro N h1 h2 h3 h4 h5;refine⟨r id,λk r' hr=>⟨?_,?_⟩⟩
    .simp only[AV.den,hr,Loc.base,Loc.room,hn,h5]
    .simp only[QL];rw[hr];exact⟨h1,h2,λ_=>by omega,λi hi=>by omega⟩
   unfold Gv at h;simp only at h;split at h<;>(try (cases h;done))
   .rename_i o ty ks' N g0 hlk;split at h<;>(try (cases h;done))
    rename_i hk;have:=Xv hk;subst this;simp only[qsI,qpI]at h;obtain⟨rfl,rfl,rfl⟩:=h;have hbb:=hb _ _ hlk;have hb0:Kg r id w ty ks'.length N (QW ks' g0):=hbb;exact fin N hb0.2.1 (hbb.lt rfl) (qdt hp) (hb0.2.2.2.1 hn) rfl
   .rename_i ks' N g0 hlk;split at h<;>(try (cases h;done))
    rename_i hk;have:=Xv hk;subst this;simp only[qsI,qpI]at h;obtain⟨rfl,rfl,rfl⟩:=h;have hbb:=hb _ _ hlk;exact fin N hbb.1 hbb.2.1 (qdt hp) (hbb.2.2.1 hn) rfl
 .exact main λh=>absurd h hv
instance {α : Type} [QA α] : Qo (Rc α) where
  val k x := .slz k 0 x.n (.lit x.c)
  blk k x := [(k,.frz (QA.ks α) x.n λi=>QA.enc (x.get i))]
  dec v lk := match QG4 v,Gv (QA.ks α) v lk with
    | some c,some (p,m,g) => some (p,⟨m,λi=>QA.dec (g i),c⟩)
    | _,_ => none
  ok v lk p x h hp := by
    split at h <;> (try (cases h; done))
    rename_i c p' m g hc hd;simp only[qsI,qpI]at h;obtain⟨rfl,rfl⟩ := h;refine⟨λk=>⟨by simp[AV.all],λq hq=>?_⟩,λr w hb=>?_⟩
    . simp only[List.mem_singleton]at hq; subst hq; exact⟨rfl,rfl,rfl⟩
    . obtain⟨l,hl⟩ := QhZ hc (g' := λi=>QA.enc (QA.dec (g i) : α)) hd hp (λi=>QA.ok (g i)) hb
      refine⟨l,λk r' hr=>⟨(hl k r' hr).1,λq hq=>?_⟩⟩;simp only[List.mem_singleton]at hq; subst hq; exact(hl k r' hr).2
end Go.SX
namespace Go.Proofs.YtekbmehgcofnkaaGreat
open Go.SX Go.SX.Told
variable (d:Puz)(C:Cap)(pb:List Prop->Bool)(n e:Int)(L:Rw Pt)(get:Nat->Pt)(E:ECt)(x:Pt)(k:Nat)(v:Int)
def ZZ(i:Nat):Bool:=x.cell==(L.get i).cell||x.lay.piece==(L.get i).lay.piece
def ptC:List AV:=[vi x.cell,vi x.lay.piece,vi x.lay.turn]
def piB:List (Nat×Blk):=[(16,.cellsR 0 63 (ptC x))]++Qo.blk 8 L
def piU:UC:=⟨0,⟨2,[(0,.slz 8 0 L.n C),(1,.fn (.func 57) [.ptr 16 0 0])],piB L x,24⟩,λ_=>.int false .i64 v,λ_=>[]⟩
def piJ:JSt:=⟨19,[(0,.slz 8 0 L.n C),(1,.fn (.func 57) [.ptr 16 0 0]),(7,.int false .i64 L.n),(8,.int false .i64 k)],piB L x,24⟩
def Yn(k:Int):JSt:=⟨19,[(4,.int false .i64 k)],[],24⟩
def ql:JSt:=⟨19,[],[],24⟩
def QCI:Ex->List Nat
 | .normal=>[0,1,7,8]
 | .exit _=>[]
 | .ret=>[4]
theorem QZX(g:Nat->Value):exec (mkE prog QU) (hnd (mkE prog QU) 2) (QJ f101 0) (JSt.inst (piJ C L x k) g) (KD [] QCI)=QC.br (decide ((↑k:Int)<(↑L.n:Int))) (QC.need (decide ((0:Int)<=(↑k:Int)/\(↑k:Int)<(↑L.n:Int))&&decide (L.n<=L.n)) (QC.need (decide (k<L.n)) (QC.br (x.cell==(L.get k).cell) (QC.leaf (AV.tup [AV.nili,AV.ptr (19:Nat) (0:Nat) (0:Nat),vi (↑k:Int)]) ([])) (QC.br (x.lay.piece==(L.get k).lay.piece) (QC.leaf (AV.tup [AV.nili,AV.ptr (19:Nat) (0:Nat) (0:Nat),vi (↑k:Int)]) ([])) (QC.leaf (AV.tup [AV.nilp,AV.ptr (19:Nat) (0:Nat) (0:Nat),AV.slz (8:Nat) (0:Nat) L.n C,AV.fn (Fn.func (57:Nat)) [AV.ptr (16:Nat) (0:Nat) (0:Nat)],vi (↑L.n:Int),vi (i64.wrap ((↑k:Int)+(1:Int)))]) ([((8:Nat),Blk.frz [CK.int i64,CK.int i64,CK.int i64] L.n λi=>QA.enc (L.get i)),((16:Nat), Blk.cellsR (0:Nat) (63:Nat) [vi x.cell,vi x.lay.piece,vi x.lay.turn])])))))) (QC.leaf (AV.tup [AV.ptr (0:Nat) (0:Nat) (0:Nat),AV.ptr (19:Nat) (0:Nat) (0:Nat)]) ([])):=by kernel_rfl
theorem QYo(j:Int):QF 24 [vi (↑k:Int)] ([]) (Yn j)=( some [(↑k:Int)=j]):=by kernel_rfl
theorem QWa(j:Int):QF 24 [vi (↑k:Int)] ([]) (Yn j)=( some [(↑k:Int)=j]):=by kernel_rfl
theorem Qg9(k k':Nat):QF 24 [AV.slz (8:Nat) (0:Nat) L.n C,AV.fn (Fn.func (57:Nat)) [AV.ptr (16:Nat) (0:Nat) (0:Nat)],vi (↑L.n:Int),vi (i64.wrap ((↑k:Int)+(1:Int)))] ([((8:Nat),Blk.frz [CK.int i64,CK.int i64,CK.int i64] L.n λi=>QA.enc (L.get i)),((16:Nat),Blk.cellsR (0:Nat) (63:Nat) [vi x.cell,vi x.lay.piece,vi x.lay.turn])]) (piJ C L x k')=( some [0=0,L.n=L.n,C=C,Fn.func (57:Nat)=Fn.func (57:FuncId),0=0,0=0,(↑L.n:Int)=(↑L.n:Int), i64.wrap ((↑k:Int)+(1:Int))=(↑k':Int),x.cell=x.cell,x.lay.piece=x.lay.piece,x.lay.turn=x.lay.turn,L.n<=L.n,QB (3:Nat) L.n (λi=>QA.enc (L.get i)) λi=>QA.enc (L.get i)]):=by kernel_rfl
theorem QeO :QF 24 [] ([]) ql=( some []):=by kernel_rfl
abbrev piH(P:Program)(C:Cap)(L:Rw Pt)(x:Pt)(X:List (Prop×Ex×JSt)):Hnd:={ hnd (mkE P QU) 2 with loop:=λ_=>KJ 24 [] (piJ C L x (0:Nat)) X }
theorem QZp(A B:Prop)(k v:Int):VZ (mkE prog QU) (piH prog C L x [(A,.ret,Yn k),(B,.exit 0,ql)]) f101 (piU C L x v)=QC.ask (0=0) (QC.ask (L.n=L.n) (QC.ask (C=C) (QC.ask (Fn.func (57:FuncId)=Fn.func (57:FuncId)) (QC.ask (0=0) (QC.ask (0=0) (QC.ask ((↑L.n:Int)=(↑L.n:Int)) (QC.ask ((0:Int)=(0:Int)) (QC.ask (x.cell=x.cell) (QC.ask (x.lay.piece=x.lay.piece) (QC.ask (x.lay.turn=x.lay.turn) (QC.ask (L.n<=L.n) (QC.ask (QB (3:Nat) L.n (λi=>QA.enc (L.get i)) λi=>QA.enc (L.get i)) (QC.both (QC.asm (A) (QC.all (λ(g0:Nat -> Value)=>QC.leaf (vi k) ([])))) (QC.asm (B) (QC.all (λ(g1:Nat->Value)=>QC.leaf (vj (-1:Int)) ([]))))))))))))))))):=by kernel_rfl
theorem Qbm(k v:Int):QF 24 [(vi k)] ([]) (KX (piU C L x v))=( some [k=v]):=by kernel_rfl
theorem Qf2:QF 24 [(vj (-1:Int))] ([]) (KX (piU C L x v))=( some [(-1:Int)=v]):=by kernel_rfl
def XW:Option Nat:=QR (ZZ L x) L.n 0
def piR(e:Ex)(J:JSt):Prop:=(e = .ret/\(QR (ZZ L x) (L.n-k) k).isSome=true/\J=Yn (Kv (QR (ZZ L x) (L.n-k) k)))∨(e = .exit 0/\QR (ZZ L x) (L.n-k) k=none/\J=ql)
theorem QVz(hn:L.n<=1000):J1 (piJ C L x) (λk=>k<=L.n) (λk=>L.n-k) (piR L x) 24 QCI [] (mkE prog QU) (λ_=>hnd (mkE prog QU) 2) (QJ f101 0):=by
 refine⟨λk g0 hk=>Qe (QZX C L x k g0) ?_⟩;have hk:k<=L.n:=hk;have hit:∀(h:k<L.n),ZZ L x k=true->piR L x k .ret (Yn k):=λh hs=>.inl ⟨rfl,by rw[(JU h).1 hs];rfl,by rw[(JU h).1 hs];rfl⟩
 refine QE (λb0=>?_) (λb0=>?_);have h:k<L.n:=by have:=qdt b0;omega
 have hf:=JU (p:=ZZ L x) h
 iterate 2 (refine QG ?_ ?_;rotate_left)
 refine QE ?_ ?_<;>intro b1
 .refine⟨_,hit h (by unfold ZZ;rw[b1];rfl),rfl,rfl,_,QYo k k,⟨rfl,trivial⟩⟩
 refine QE ?_ ?_<;>intro b2
 .refine⟨_,hit h (by unfold ZZ;rw[b1,b2];rfl),rfl,rfl,_,QWa k k,⟨rfl,trivial⟩⟩
 have hb:ZZ L x k=false:=by unfold ZZ;rw[b1,b2];rfl
 refine⟨k+1,h,by show L.n-(k+1)<L.n-k;omega,λe J h=>by unfold piR at h ⊢;rw[hf.2 hb];exact h,rfl,rfl,_,Qg9 C L x k (k+1),?_⟩
 rotate_left
 .have h:L.n<=k:=by have:=qdf b0;omega
  exact⟨_,.inr ⟨rfl,by rw[show L.n-k=0 by omega];rfl,rfl⟩,rfl,rfl,_,QeO,trivial⟩
 all_goals first|((with_reducible show _=true);(first|rfl|(simp;omega)))|(repeat' first|with_reducible refine QN ?_ ?_|exact tv|exact qRr|exact VJ h hn|refine aI ?_ ?_)
def piX:List (Prop×Ex×JSt):=[((XW L x).isSome=true,.ret,Yn (Kv (XW L x))),(XW L x=none,.exit 0,ql)]
theorem Qd5(hn:L.n<=1000)(G:Ctx)(hrd:G.rd=none)(hG:G.n=24):Q1 (mkE prog QU) G (piH prog C L x (piX L x)) (Qk f101):=by
 refine Kk (body:=QJ f101 0) (QP Qd) hrd (by kernel_rfl) ?_
 refine V7 (n0:=24) (QP Qd) (by omega) (λs hs=>Qw (QP Qd) 2 G _ hrd) (λs hs=>(by decide:24<=24)) ?_ (QVz C L x hn) (s0:=0) (Nat.zero_le _) ?_
 .rintro s e J (⟨_,_,rfl⟩|⟨_,_,rfl⟩)<;>exact(by decide:24<=24)
 .rintro e J (⟨rfl,h,rfl⟩|⟨rfl,h,rfl⟩)
  .exact⟨_,qmc,h,rfl,rfl⟩
  .exact⟨_,List.mem_cons_of_mem _ qmc,h,rfl,rfl⟩
theorem QYh:(piU C L x v).Ok:=⟨(by decide:0<=24),rfl,rfl,λq hq=>(by cases hq),rfl,λ_ _=>rfl,λ_ _=>rfl⟩
theorem QUp(hn:L.n<=1000):QQ prog 101 (uFC (piU C L x (Kv (XW L x)))):=by
 refine K4 (E:=mkE prog QU) (QP Qd) func101 (by kernel_rfl) (by kernel_rfl) (QYh ..) (λG h1 h2=>Qd5 C L x hn G h1 (by rw[h2];rfl)) ⟨?_⟩
 have et:=QZp C L x ((XW L x).isSome=true) (XW L x=none) (Kv (XW L x)) (Kv (XW L x));refine Qe et ?_;clear et
 iterate 13 refine Q2 (by first|exact tv|with_reducible exact qRr|exact rfl) ?_
 refine Km ?_ ?_;refine Qh λa0=>?_;refine Qj λg0=>?_;refine⟨rfl,rfl,_,Qbm C L x (Kv (XW L x)) (Kv (XW L x)),?_⟩
 rotate_left
 refine Qh λa1=>?_;refine Qj λg1=>?_
 .refine⟨rfl,rfl,_,Qf2 C L x (Kv (XW L x)),?_⟩;rw[a1]
  repeat' first|exact tv|exact rfl|refine aI ?_ ?_
 all_goals (repeat' first|exact tv|exact rfl|refine aI ?_ ?_)
def QhX(L:Rc Pt)(k:Nat):List (Nat×AV):=[(1,.slz 1 0 L.n (.lit L.c)),(2,.ptr 112 0 0),(6,.ptr 200 0 0),(25,.slz 1 0 L.n (.lit L.c)),(26,.int false .i64 L.n),(27,.int false .i64 k)]
def QBk(L:Rc Pt)(k:Nat):JSt:=⟨92,QhX L k,whB d E++[(112,.cells 0 28 (Kb d))]++Qo.blk 0 d.ps++Qo.blk 1 L,400⟩
def QBx(L:Rc Pt):JSt:=⟨92,[(1,.slz 1 0 L.n (.lit L.c)),(6,.ptr 200 0 0)],whB d E++Qo.blk 0 d.ps++Qo.blk 1 L,400⟩
def YE:JSt:=⟨92,[(4,.int false .i64 n),(5,.int false .i64 e)],[],400⟩
def QLm:Ex->List Nat
 | .normal=>[1,2,6,25,26,27]
 | .exit _=>[1,6]
 | .ret=>[4,5]
def QHX(d:Puz)(L:Rc Pt)(k:Nat)(v:Int):Tab:=QZ (QZ QU 52 (KI pb (tnU d 0 (L.get k).lay.piece))) 101 (KI pb (piU (.lit L.c) ⟨k,L.get⟩ (L.get k) v))
abbrev QFo:List AV:=[.nili,.ptr 92 0 0,vj 0,vj 2]
abbrev ZX:Nat×Blk:=(200,.cells 0 152 (List.append (waf d) ([.map 201,.slz 392 0 0 cO])))
abbrev Xg:Nat×Blk:=(0,.frz (wae) d.ps.n λi=>QA.enc (d.ps.get i))
abbrev ZS:Nat×Blk:=(392,.rowz true 49 kB 0 λi=>QA.enc ([].getD i (Lay.mk (0:Int) (0:Int))))
abbrev qi(L:Rc Pt):Nat×Blk:=(1,.frz (wbI) L.1 λi=>QA.enc (L.2 i))
abbrev QNr:Nat×Blk:=(112,.cells 0 28 (waf d))
theorem QZo(d:Puz)(E:ECt)(L:Rc Pt)(k:Nat)(v:Int)(g0:Nat->Value):exec (mkE prog (QHX pb d L k v)) (hnd (mkE prog (QHX pb d L k v)) 2) (QJ f19 0) (JSt.inst (QBk d E L k) g0) (KD [200,201] QLm) = .br (decide ((k:Int)<(L.1:Int))) (.need (decide ((0:Int)<=(k:Int)/\(k:Int)<(L.1:Int))&&decide (L.1<=L.1)) (.need (decide (k<L.1)) (.need (true) (.br (!Qu (L.2 ((k:Int).toNat+0)).cell (0:Int) (i64.wrap ((d.ps.n:Int)-1))) (.leaf (.tup QFo) ([(ZX d),(201,.mp E.1 E.2),(Xg d),ZS])) (.need (true) (.br (!Qu (L.2 ((k:Int).toNat+0)).lay.piece (0:Int) (i64.wrap ((d.ps.n:Int)-1))) (.leaf (.tup QFo) ([(ZX d),(201,.mp E.1 E.2),(Xg d),ZS])) (.need (pb (([0=0,0=0,(L.2 ((k:Int).toNat+0)).lay.piece=(L.2 k).lay.piece]++waa d++([cO=cO,0=0,0=0,cO=cO]++wad d)))) (.need (true) (.br (!Qu (L.2 ((k:Int).toNat+0)).lay.turn (0:Int) (i64.wrap (tnV d (L.2 k).lay.piece-1))) (.leaf (.tup QFo) ([(ZX d),(201,.mp E.1 E.2),(Xg d),ZS])) (.need (decide ((0:Int)<=(k:Int)/\k<=min L.1 L.3)) (.need (pb ([0=0,k=k, Cap.lit L.3=Cap.lit L.3,Fn.func 57=Fn.func 57,0=0,0=0,(L.2 ((k:Int).toNat+0)).cell=(L.2 k).cell,(L.2 ((k:Int).toNat+0)).lay.piece=(L.2 k).lay.piece,(L.2 ((k:Int).toNat+0)).lay.turn=(L.2 k).lay.turn,k<=L.1,QB 3 k (λi=>QA.enc (L.2 i)) λi=>QA.enc ((Rw.mk k L.2).get i)])) (.br (decide (v≥0)) (.leaf (.tup [.nili,.ptr 92 0 0,vj 0,vj 5]) ([(ZX d),(201,.mp E.1 E.2),(Xg d),ZS])) (.leaf (.tup [.nilp,.ptr 92 0 0,.slz 1 0 L.1 (Cap.lit L.3),.ptr 112 0 0,.ptr 200 0 0,.slz 1 0 L.1 (Cap.lit L.3),vi (L.1:Int),vi (i64.wrap ((k:Int)+1))]) ([(ZX d),(201,.mp E.1 E.2),(qi L),(QNr d), (Xg d),ZS])))))))))))))) (.leaf (.tup [.ptr 1 0 0,.ptr 92 0 0,.slz 1 0 L.1 (Cap.lit L.3),.ptr 200 0 0]) ([(ZX d),(201,.mp E.1 E.2),(qi L),(Xg d),ZS])):=by kernel_rfl
theorem QV1(n e:Int):QF 112 [vj (0:Int),vj (2:Int)] ([((200:Nat),Blk.cells (0:Nat) (152:Nat) (List.append (waC d) ([AV.bool false d.turn,AV.slz (0:Nat) (0:Nat) d.ps.n cO,AV.map (201:Nat),AV.slz (392:Nat) (0:Nat) (0:Nat) cO]))),((201:Nat),Blk.mp E.1 E.2),((0:Nat),Blk.frz [CK.int i64,CK.int i64,CK.int i64,CK.int i64,CK.int i64,CK.int i64,CK.int i64,CK.int i64,CK.int i64,CK.int i64,CK.int i64,CK.int i64,CK.int i64,CK.int i64,CK.int i64,CK.int i64,CK.int i64,CK.int i64,CK.int i64,CK.int i64,CK.int i64,CK.int i64,CK.int i64,CK.int i64,CK.int i64,CK.int i64,CK.int i64,CK.int i64] d.ps.n λi=>QA.enc (d.ps.get i)),((392:Nat),Blk.rowz true (49:Nat) [CK.int i64,CK.int i64] (0:Nat) λi=>QA.enc ([].getD i (Lay.mk (0:Int) (0:Int))))]) (YE n e)=( some [(0:Int)=n,(2:Int)=e]):=by kernel_rfl
theorem QeA(n e:Int):QF 112 [vj (0:Int),vj (2:Int)] ([((200:Nat),Blk.cells (0:Nat) (152:Nat) (List.append (waC d) ([AV.bool false d.turn,AV.slz (0:Nat) (0:Nat) d.ps.n cO,AV.map (201:Nat),AV.slz (392:Nat) (0:Nat) (0:Nat) cO]))),((201:Nat),Blk.mp E.1 E.2),((0:Nat),Blk.frz [CK.int i64,CK.int i64,CK.int i64,CK.int i64,CK.int i64,CK.int i64,CK.int i64,CK.int i64,CK.int i64,CK.int i64,CK.int i64,CK.int i64,CK.int i64,CK.int i64,CK.int i64,CK.int i64,CK.int i64,CK.int i64,CK.int i64,CK.int i64,CK.int i64,CK.int i64,CK.int i64,CK.int i64,CK.int i64,CK.int i64,CK.int i64,CK.int i64] d.ps.n λi=>QA.enc (d.ps.get i)),((392:Nat),Blk.rowz true (49:Nat) [CK.int i64,CK.int i64] (0:Nat) λi=>QA.enc ([].getD i (Lay.mk (0:Int) (0:Int))))]) (YE n e)=( some [(0:Int)=n,(2:Int)=e]):=by kernel_rfl
theorem QhB(n e:Int):QF 112 [vj (0:Int),vj (2:Int)] ([((200:Nat),Blk.cells (0:Nat) (152:Nat) (List.append (waC d) ([AV.bool false d.turn,AV.slz (0:Nat) (0:Nat) d.ps.n cO,AV.map (201:Nat),AV.slz (392:Nat) (0:Nat) (0:Nat) cO]))),((201:Nat),Blk.mp E.1 E.2),((0:Nat),Blk.frz [CK.int i64,CK.int i64,CK.int i64,CK.int i64,CK.int i64,CK.int i64,CK.int i64,CK.int i64,CK.int i64,CK.int i64,CK.int i64,CK.int i64,CK.int i64,CK.int i64,CK.int i64,CK.int i64,CK.int i64,CK.int i64,CK.int i64,CK.int i64,CK.int i64,CK.int i64,CK.int i64,CK.int i64,CK.int i64,CK.int i64,CK.int i64,CK.int i64] d.ps.n λi=>QA.enc (d.ps.get i)),((392:Nat),Blk.rowz true (49:Nat) [CK.int i64,CK.int i64] (0:Nat) λi=>QA.enc ([].getD i (Lay.mk (0:Int) (0:Int))))]) (YE n e)=( some [(0:Int)=n,(2:Int)=e]):=by kernel_rfl
theorem QXe(n e:Int):QF 112 [vj (0:Int),vj (5:Int)] ([((200:Nat),Blk.cells (0:Nat) (152:Nat) (List.append (waC d) ([AV.bool false d.turn,AV.slz (0:Nat) (0:Nat) d.ps.n cO,AV.map (201:Nat),AV.slz (392:Nat) (0:Nat) (0:Nat) cO]))),((201:Nat),Blk.mp E.1 E.2),((0:Nat),Blk.frz [CK.int i64,CK.int i64,CK.int i64,CK.int i64,CK.int i64,CK.int i64,CK.int i64,CK.int i64,CK.int i64,CK.int i64,CK.int i64,CK.int i64,CK.int i64,CK.int i64,CK.int i64,CK.int i64,CK.int i64,CK.int i64,CK.int i64,CK.int i64,CK.int i64,CK.int i64,CK.int i64,CK.int i64,CK.int i64,CK.int i64,CK.int i64,CK.int i64] d.ps.n λi=>QA.enc (d.ps.get i)),((392:Nat),Blk.rowz true (49:Nat) [CK.int i64,CK.int i64] (0:Nat) λi=>QA.enc ([].getD i (Lay.mk (0:Int) (0:Int))))]) (YE n e)=( some [(0:Int)=n,(5:Int)=e]):=by kernel_rfl
abbrev wcd(L:Rc Pt):List Prop:=[0=0,L.1=L.1,Cap.lit L.3=Cap.lit L.3]
abbrev QIl(L:Rc Pt):List Prop:=(wcd L++[0=0,0=0])
abbrev QJr(d:Puz):List Prop:=((waD d++([0=0,d.ps.n=d.ps.n]++wb4 E))++wam)
abbrev QG5(L:Rc Pt)(d:Puz):List Prop:=(wad d++[L.1<=L.1,QB 3 L.1 (λi=>QA.enc (L.2 i)) λi=>QA.enc (L.2 i)])
theorem QZa(L:Rc Pt)(k k':Nat):QF 112 [.slz 1 0 L.1 (Cap.lit L.3),.ptr 112 0 0,.ptr 200 0 0,.slz 1 0 L.1 (Cap.lit L.3),vi (L.1:Int),vi (i64.wrap ((k:Int)+1))] ([(ZX d),(201,.mp E.1 E.2),(qi L),(QNr d),(Xg d),ZS]) (QBk d E L k')=(some ((QIl L)++(([0=0,0=0]++wcd L++[(L.1:Int)=(L.1:Int),i64.wrap ((k:Int)+1)=(k':Int)])++wbu d)++(QJr E d)++(waa d++[cO=cO])++(QG5 L d))):=by kernel_rfl
theorem Qh7(L:Rc Pt):QF 112 [.slz 1 0 L.1 (Cap.lit L.3),.ptr 200 0 0] ([(ZX d),(201,.mp E.1 E.2),(qi L),(Xg d),ZS]) (QBx d E L)=(some ((QIl L)++(wbu d)++(QJr E d)++(QG5 L d))):=by kernel_rfl
def Qd1(L:Rc Pt)(k:Nat):List (Nat×AV):=[(1,.slz 1 0 L.n (.lit L.c)),(6,.ptr 200 0 0),(77,.int false .i64 L.n),(78,.int false .i64 k)]
def QAJ(L:Rc Pt)(k:Nat):JSt:=⟨92,Qd1 L k,whB d E++Qo.blk 0 d.ps++Qo.blk 1 L,400⟩
def QFB(L:Rc Pt):JSt:=⟨92,[(1,.slz 1 0 L.n (.lit L.c))],Qo.blk 1 L,400⟩
def QRs:Ex->List Nat
 | .normal=>[1,6,77,78]
 | .exit _=>[1]
 | .ret=>[4,5]
def QHC(d:Puz)(E:ECt)(C:Cap)(K:Rw Pt)(v:Bool):Tab:=QZ QU 53 (KI pb (hsU d E C K v))
abbrev QGn:Nat×Blk:=(200,.cells 0 152 (List.append (waf d) ([.map 201,.slz 464 0 0 cO])))
abbrev QGy:Nat×Blk:=(464,.rowz true 49 kB 0 λi=>QA.enc ([].getD i (Lay.mk (0:Int) (0:Int))))
theorem QfD(d:Puz)(E:ECt)(L:Rc Pt)(K:Rw Pt)(k:Nat)(v:Bool)(g0:Nat->Value):exec (mkE prog (QHC pb d E (.lit L.c) K v)) (hnd (mkE prog (QHC pb d E (.lit L.c) K v)) 0) (QJ f19 1) (JSt.inst (QAJ d E L k) g0) (KD [200,201] QRs) = .br (decide ((k:Int)<(L.1:Int))) (.need (decide ((0:Int)<=i64.wrap ((k:Int)+1)/\(i64.wrap ((k:Int)+1)).toNat<=min L.1 L.3)) (.need (pb (([0=0,0=0,0=0,(i64.wrap ((k:Int)+1)).toNat=K.n,Cap.lit L.3=Cap.lit L.3]++waa d++(((wb4 E)++wam++[K.n<=L.1,QB 3 K.n (λi=>QA.enc (L.2 i)) λi=>QA.enc (K.get i)])++wad d)))) (.br (!v) (.leaf (.tup [.nili,.ptr 92 0 0,vi (k:Int),vj 0]) ([(QGn d),(201,.mp E.1 E.2),(Xg d),QGy])) (.leaf (.tup [.nilp,.ptr 92 0 0,.slz 1 0 L.1 (Cap.lit L.3),.ptr 200 0 0,vi (L.1:Int),vi (i64.wrap ((k:Int)+1))]) ([(QGn d),(201,.mp E.1 E.2),(qi L),(Xg d),QGy]))))) (.leaf (.tup [.ptr 4 0 0,.ptr 92 0 0,.slz 1 0 L.1 (Cap.lit L.3)]) ([(ZX d),(201,.mp E.1 E.2),(qi L),(Xg d),ZS])):=by kernel_rfl
theorem QbZ(n e:Int):QF 112 [vi (↑k:Int),vj (0:Int)] ([((200:Nat),Blk.cells (0:Nat) (152:Nat) (List.append (waC d) ([AV.bool false d.turn,AV.slz (0:Nat) (0:Nat) d.ps.n cO,AV.map (201:Nat),AV.slz (464:Nat) (0:Nat) (0:Nat) cO]))),((201:Nat),Blk.mp E.1 E.2),((0:Nat),Blk.frz [CK.int i64,CK.int i64,CK.int i64,CK.int i64,CK.int i64,CK.int i64,CK.int i64,CK.int i64,CK.int i64,CK.int i64,CK.int i64,CK.int i64,CK.int i64,CK.int i64,CK.int i64,CK.int i64,CK.int i64,CK.int i64,CK.int i64,CK.int i64,CK.int i64,CK.int i64,CK.int i64,CK.int i64,CK.int i64,CK.int i64,CK.int i64,CK.int i64] d.ps.n λi=>QA.enc (d.ps.get i)),((464:Nat),Blk.rowz true (49:Nat) [CK.int i64,CK.int i64] (0:Nat) λi=>QA.enc ([].getD i (Lay.mk (0:Int) (0:Int))))]) (YE n e)=( some [(↑k:Int)=n,(0:Int)=e]):=by kernel_rfl
theorem QhV(L:Rc Pt)(k k':Nat):QF 112 [.slz 1 0 L.1 (Cap.lit L.3),.ptr 200 0 0,vi (L.1:Int),vi (i64.wrap ((k:Int)+1))] ([(QGn d),(201,.mp E.1 E.2),(qi L),(Xg d),QGy]) (QAJ d E L k')=(some ((QIl L)++([(L.1:Int)=(L.1:Int),i64.wrap ((k:Int)+1)=(k':Int)]++wbu d)++(QJr E d)++(QG5 L d))):=by kernel_rfl
theorem QW4(L:Rc Pt):QF 112 [.slz 1 0 L.1 (Cap.lit L.3)] ([(ZX d),(201,.mp E.1 E.2),(qi L),(Xg d),ZS]) (QFB L)=(some (wcd L++[L.1<=L.1,QB 3 L.1 (λi=>QA.enc (L.2 i)) λi=>QA.enc (L.2 i)])):=by kernel_rfl
def ZY:Rw Pt:=⟨0,λ_=>⟨0,⟨0,0⟩⟩⟩
def Zc(d:Puz)(E:ECt)(v:Bool):Tab:=QZ (QZ QU 60 (KI pb (nbU d E))) 53 (KI pb (hsU d E (.of 0) ZY v))
abbrev QHa(L:Rc Pt)(X1 X2:List (Prop×Ex×JSt)):Code->St->(Ex->St->QC)->QC:=QRQ [(7,J9 (d.ok=true) (KJ 112 [200,201] (QBk d E L 0) X1)),(18,J9 (d.ok=true) (KJ 112 [200,201] (QAJ d E L 0) X2))]
abbrev QCn(P:Program)(pb:List Prop->Bool)(d:Puz)(E:ECt)(L:Rc Pt)(v:Bool)(X1 X2:List (Prop×Ex×JSt)):Hnd:={ hnd (mkE P (Zc pb d E v)) 8 with loop:=QHa d E L X1 X2 }
theorem QRA(d:Puz)(E:ECt)(L:Rc Pt)(v:Bool)(A1 B1 A2 B2:Prop)(e1 n2:Int):Kf (mkE prog (Zc pb d E v)) (QCn prog pb d E L v [(A1,.ret,YE 0 e1),(B1,.exit 1,QBx d E L)] [(A2,.ret,YE n2 0),(B2,.exit 4,QFB L)]) f19 (QX.vals 0 ((d,L,()):Puz×Rc Pt×Unit)) (QX.blks 0 ((d,L,()):Puz×Rc Pt×Unit)) 112 = .need (decide (d.ps.n<=d.ps.n)&&true&&decide (d.ps.n<=1000)) (.br (!d.ok) (.leaf (.tup [vj 0,vj 1]) ([])) (.need (pb ((waa d++([cO=cO]++wad d)))) (.br (decide ((L.1:Int)>20)) (.leaf (.tup [vj 0,vj 3]) ([])) (.ak (([d.ok=true]++wcd L++[0=0,0=0,0=0,0=0]++wcd L++[(L.1:Int)=(L.1:Int),(0:Int)=0])++waa d++[cO=cO,0=0,E.1=E.1,E.2=E.2,0=0]++waa d++([cO=cO]++wad d++[L.1<=L.1,QB 3 L.1 (λi=>QA.enc ((d,L,()).snd.fst.2 i)) λi=>QA.enc (L.2 i)])) (.both (.asm (A1) (.all (λ(g0:Nat->Value)=>.leaf (.tup [vi 0,vi e1]) ([])))) (.asm (B1) (.all (λ(g1:Nat->Value)=>.need (pb (([0=0,0=0,0=0]++waa d++(((wb4 E)++wam++[0=0])++wad d)))) (.br (!v) (.leaf (.tup [vj 0, vj 4]) ([])) (.ak (([d.ok=true]++wcd L++[0=0,0=0,(L.1:Int)=(L.1:Int),(0:Int)=0])++waa d++(((wb4 E)++wam)++wad d++[L.1<=L.1,QB 3 L.1 (λi=>QA.enc (L.2 i)) λi=>QA.enc (L.2 i)])) (.both (.asm (A2) (.all (λ(g2:Nat->Value)=>.leaf (.tup [vi n2,vi 0]) ([])))) (.asm (B2) (.all (λ(g3:Nat->Value)=>.leaf (.tup [vi (L.1:Int),vj 0]) ([]))))))))))))))):=by kernel_rfl
theorem QX7:QF 112 [(AV.tup [vj (0:Int),vj (1:Int)])] ([]) (KW 112 (YZ n e) [])=( some [(0:Int)=n,(1:Int)=e]):=by kernel_rfl
theorem Qaw:QF 112 [(AV.tup [vj (0:Int),vj (3:Int)])] ([]) (KW 112 (YZ n e) [])=( some [(0:Int)=n,(3:Int)=e]):=by kernel_rfl
theorem QhD(e1 n e:Int):QF 112 [(AV.tup [vi (0:Int),vi e1])] ([]) (KW 112 (YZ n e) [])=( some [(0:Int)=n,e1=e]):=by kernel_rfl
theorem Qbz:QF 112 [(AV.tup [vj (0:Int),vj (4:Int)])] ([]) (KW 112 (YZ n e) [])=( some [(0:Int)=n,(4:Int)=e]):=by kernel_rfl
theorem QWA(n2 n e:Int):QF 112 [(AV.tup [vi n2,vi (0:Int)])] ([]) (KW 112 (YZ n e) [])=( some [n2=n,(0:Int)=e]):=by kernel_rfl
theorem Qbn(L:Rc Pt)(n e:Int):QF 112 [(AV.tup [vi (↑L.1:Int),vj (0:Int)])] ([]) (KW 112 (YZ n e) [])=( some [(↑L.1:Int)=n,(0:Int)=e]):=by kernel_rfl
def YY:Bool:=Qu x.cell 0 (i64.wrap ((d.ps.n:Int)-1))&&(Qu x.lay.piece 0 (i64.wrap ((d.ps.n:Int)-1))&&Qu x.lay.turn 0 (i64.wrap (tnV d x.lay.piece-1)))
def QGD:Bool:=decide (Kv (XW ⟨k,get⟩ (get k))≥0)
def J2:Bool := !YY d (get k)||QGD get k
def X6:Int:=cond (YY d (get k)) 5 2
open Classical in
def QCv:List Prop->Bool:=if k<=1000 then QO else λ_=>false
def je(P:Program)(d:Puz)(L:Rc Pt)(k:Nat):Env:=mkE P (QHX (QCv k) d L k (Kv (XW ⟨k,L.get⟩ (L.get k))))
theorem QQE(L:Rc Pt)(k:Nat):(je prog d L k).Sound:=by
 unfold je QCv
 by_cases h:k<=1000
 .rw[if_pos h];exact QP ((Qd.add (Yg d 0 _)).add (QUp (.lit L.c) ⟨k,L.get⟩ (L.get k) h))
 .rw[if_neg h];exact QP ((Qd.add (Jl (by kernel_rfl) _)).add (Jl (by kernel_rfl) _))
def jl(L:Rc Pt)(k:Nat)(e:Ex)(J:JSt):Prop:=match QR (J2 d L.get) (L.n-k) k with
 | some i=>e = .ret/\J=YE 0 (X6 d L.get i)
 | none=>e = .exit 1/\J=QBx d E L
theorem Qex(L:Rc Pt)(hn:L.n<=1000)(hc:L.n<=L.c):Jm (QBk d E L) (λk=>k<=L.n) (λk=>L.n-k) (jl d E L) 112 QLm [200,201] (je prog d L) (λk=>hnd (je prog d L k) 2) (QJ f19 0):=by
 refine⟨λk g0 hk=>?_⟩;have hk:k<=L.n:=hk;have hk1:k<=1000:=Nat.le_trans hk hn;have hpb:QCv k=QO:=by unfold QCv;rw[if_pos hk1]
 have hit:∀(_:k<L.n) (e:Int),J2 d L.get k=true->X6 d L.get k=e->jl d E L k .ret (YE 0 e):=by
  intro h e hb he;unfold jl;rw[(JU h).1 hb];exact⟨rfl,by rw[he]⟩
 unfold je;rw[hpb];have et:=QZo QO d E L k (Kv (XW ⟨k,L.get⟩ (L.get k))) g0;refine Qe et ?_;clear et;refine QE (λb0=>?_) (λb0=>?_);have h:k<L.n:=by have:=qdt b0;omega
 have hf:=JU (p:=J2 d L.get) h
 iterate 3 (refine QG ?_ ?_;rotate_left)
 refine QE (λb1=>?_) (λb1=>?_);have hp:YY d (L.get k)=false:=by unfold YY;rw[show Qu (L.get k).cell 0 (i64.wrap ((d.ps.n:Int)-1))=false by simpa using b1];rfl
 refine⟨_,hit h 2 (by unfold J2;rw[hp];rfl) (by unfold X6;rw[hp];rfl),rfl,rfl,_,QV1 d E 0 2,?_⟩
 rotate_left
 refine QG ?_ ?_;rotate_left;refine QE (λb2=>?_) (λb2=>?_);have hp:YY d (L.get k)=false:=by unfold YY;rw[show Qu (L.get k).lay.piece 0 (i64.wrap ((d.ps.n:Int)-1))=false by simpa using b2];simp
 refine⟨_,hit h 2 (by unfold J2;rw[hp];rfl) (by unfold X6;rw[hp];rfl),rfl,rfl,_,QeA d E 0 2,?_⟩
 rotate_left
 iterate 2 (refine QG ?_ ?_;rotate_left)
 refine QE (λb3=>?_) (λb3=>?_);have hp:YY d (L.get k)=false:=by unfold YY;rw[show Qu (L.get k).lay.turn 0 (i64.wrap (tnV d (L.get k).lay.piece-1))=false by simpa using b3];simp
 refine⟨_,hit h 2 (by unfold J2;rw[hp];rfl) (by unfold X6;rw[hp];rfl),rfl,rfl,_,QhB d E 0 2,?_⟩
 rotate_left
 iterate 2 (refine QG ?_ ?_;rotate_left)
 refine QE (λb4=>?_) (λb4=>?_);have hp:YY d (L.get k)=true:=by unfold YY;rw[show Qu (L.get k).cell 0 (i64.wrap ((d.ps.n:Int)-1))=true by simpa using b1,show Qu (L.get k).lay.piece 0 (i64.wrap ((d.ps.n:Int)-1))=true by simpa using b2,show Qu (L.get k).lay.turn 0 (i64.wrap (tnV d (L.get k).lay.piece-1))=true by simpa using b3];rfl
 have hd:QGD L.get k=true:=b4;refine⟨_,hit h 5 (by unfold J2;rw[hd];simp) (by unfold X6;rw[hp];rfl),rfl,rfl,_,QXe d E 0 5,?_⟩
 rotate_left
 have hp:YY d (L.get k)=true:=by unfold YY;rw[show Qu (L.get k).cell 0 (i64.wrap ((d.ps.n:Int)-1))=true by simpa using b1,show Qu (L.get k).lay.piece 0 (i64.wrap ((d.ps.n:Int)-1))=true by simpa using b2,show Qu (L.get k).lay.turn 0 (i64.wrap (tnV d (L.get k).lay.piece-1))=true by simpa using b3];rfl
 have hd:QGD L.get k=false:=b4;have hb:J2 d L.get k=false:=by unfold J2;rw[hp,hd];rfl
 refine⟨k+1,h,by show L.n-(k+1)<L.n-k;omega,λe J h=>by unfold jl at h ⊢;rw[hf.2 hb];exact h,rfl,rfl,_,QZa d E L k (k+1),?_⟩
 rotate_left
 have h:L.n<=k:=by have:=qdf b0;omega
 refine⟨_,(by unfold jl;rw[show L.n-k=0 by omega];exact⟨rfl,rfl⟩),rfl,rfl,_,Qh7 d E L,?_⟩
 rotate_left
 all_goals first|((with_reducible show _=true);(first|rfl|(refine Q9.2 ?_;repeat' first|with_reducible refine QN ?_ ?_|exact tv|with_reducible exact qRr|exact rfl|(show k<=L.n;omega)|refine aI ?_ ?_)|(simp;done)|(simp;omega)))|(repeat' first|exact tv|with_reducible refine QN ?_ ?_|exact qlr _|with_reducible exact qRr|exact VJ h hn|exact rfl|refine aI ?_ ?_)
def QAX:Rw Pt:=⟨k+1,get⟩
def Xn(get:Nat->Pt)(k:Nat):Bool := !hsV d E (Qs (QAX get k))
open Classical in
def j7(P:Program)(d:Puz)(E:ECt)(L:Rc Pt)(k:Nat):Env:=mkE P (QHC (if k<1000 then QO else λ_=>false) d E (.lit L.c) (QAX L.get k) (hsV d E (Qs (QAX L.get k))))
theorem QOS{d:Puz}{E:ECt}(hd:KB d)(hE:WfE E)(L:Rc Pt)(k:Nat):(j7 prog d E L k).Sound:=by
 unfold j7
 by_cases h:k<1000
 .rw[if_pos h];exact QP (Qd.add (QGs (.lit L.c) hd hE (show k+1<=1000 by omega)))
 .rw[if_neg h];exact QP (Qd.add (Jl (by kernel_rfl) _))
def GS(L:Rc Pt)(k:Nat)(e:Ex)(J:JSt):Prop:=match QR (Xn d E L.get) (L.n-k) k with
 | some i=>e = .ret/\J=YE i 0
 | none=>e = .exit 4/\J=QFB L
theorem QZu(L:Rc Pt)(hn:L.n<=1000)(hc:L.n<=L.c):Jm (QAJ d E L) (λk=>k<=L.n) (λk=>L.n-k) (GS d E L) 112 QRs [200,201] (j7 prog d E L) (λk=>hnd (j7 prog d E L k) 0) (QJ f19 1):=by
 refine⟨λk g0 hk=>?_⟩;have hk:k<=L.n:=hk;unfold j7;have et:=QfD (if k<1000 then QO else λ_=>false) d E L (QAX L.get k) k (hsV d E (Qs (QAX L.get k))) g0
 refine Qe et ?_;clear et;refine QE (λb0=>?_) (λb0=>?_);have h:k<L.n:=by have:=qdt b0;omega
 have hf:=JU (p:=Xn d E L.get) h;have hw:=VJ h hn;have hw2:(i64.wrap ((k:Int)+1)).toNat=k+1:=by rw[hw];exact Int.toNat_natCast _
 rw[if_pos (show k<1000 by omega)]
 iterate 2 (refine QG ?_ ?_;rotate_left)
 refine QE (λb1=>?_) (λb1=>?_);have hb:Xn d E L.get k=true:=b1;refine⟨_,(by unfold GS;rw[hf.1 hb];exact⟨rfl,rfl⟩),rfl,rfl,_,QbZ d E k k 0,?_⟩
 rotate_left
 have hb:Xn d E L.get k=false:=b1;refine⟨k+1,h,by show L.n-(k+1)<L.n-k;omega,λe J h=>by unfold GS at h ⊢;rw[hf.2 hb];exact h,rfl,rfl,_,QhV d E L k (k+1),?_⟩
 rotate_left
 have h:L.n<=k:=by have:=qdf b0;omega
 refine⟨_,(by unfold GS;rw[show L.n-k=0 by omega];exact⟨rfl,rfl⟩),rfl,rfl,_,QW4 d E L,?_⟩
 rotate_left
 all_goals first|((with_reducible show _=true);(first|(rw[hw];simp;omega)|(refine Q9.2 ?_;repeat' first|with_reducible refine QN ?_ ?_|exact tv|with_reducible exact qRr|exact qRr|exact hw2|exact hw2.symm|exact Nat.le_of_eq hw2|exact Nat.le_of_eq hw2.symm|exact rfl|(show k+1<=L.n;omega)|refine aI ?_ ?_)))|(repeat' first|exact tv|with_reducible refine QN ?_ ?_|exact qlr _|with_reducible exact qRr|exact hw|exact rfl|refine aI ?_ ?_)
def Gr(get:Nat->Pt)(n:Nat):Int:=match QR (Xn d E get) n 0 with
 | some i=>i
 | none=>n
def Qfk(get:Nat->Pt)(n:Nat):Int×Int:=match QR (J2 d get) n 0 with
 | some i=>(0,X6 d get i)
 | none=>cond (hsV d E (Qs ZY)) (Gr d E get n,0) (0,4)
def zQ(n:Nat):Int×Int:=cond d.ok (cond (decide ((n:Int)>20)) (0,3) (Qfk d (QI d) get n)) (0,1)
def Vp:WF (Puz×Rc Pt×Unit):=λ|(d,L,_)=>(decide (d.ps.n<=1000/\L.n<=1000/\L.n<=L.c),YZ (zQ d L.get L.n).1 (zQ d L.get L.n).2,[])
def QQa:FC:=wFC Vp
theorem QTT(L:Rc Pt):WOk (Vp (d,L,())).2.1 (Vp (d,L,())).2.2:=⟨rfl,by simp[Vp],rfl⟩
def vJ(L:Rc Pt):List (Prop×Ex×JSt):=[((QR (J2 d L.get) L.n 0).isSome=true,.ret,YE 0 (X6 d L.get ((QR (J2 d L.get) L.n 0).getD 0))),(QR (J2 d L.get) L.n 0=none,.exit 1,QBx d E L)]
def jp(L:Rc Pt):List (Prop×Ex×JSt):=[((QR (Xn d E L.get) L.n 0).isSome=true,.ret,YE (((QR (Xn d E L.get) L.n 0).getD 0:Nat):Int) 0),(QR (Xn d E L.get) L.n 0=none,.exit 4,QFB L)]
theorem Qfy:K5 (Qk f19)=[.loop (QJ f19 0),.loop (QJ f19 1)]:=by kernel_rfl
theorem QTW(L:Rc Pt)(pb:List Prop->Bool)(v:Bool)(hT:Qc (Zc pb d (QI d) v))(hn:L.n<=1000)(hc:L.n<=L.c)(G:Ctx)(hrd:G.rd=none)(hG:G.n=112):Q1 (mkE prog (Zc pb d (QI d) v)) G (QCn prog pb d (QI d) L v (vJ d (QI d) L) (jp d (QI d) L)) (Qk f19):=by
 refine QRJ (QP hT) hrd ?_;rw[Qfy];intro s hs;simp only[List.mem_cons,List.not_mem_nil,or_false]at hs;rcases hs with rfl|rfl
 .have e:QHa d (QI d) L (vJ d (QI d) L) (jp d (QI d) L) (.loop (QJ f19 0))=J9 (d.ok=true) (KJ 112 [200,201] (QBk d (QI d) L 0) (vJ d (QI d) L)):=by kernel_rfl
  rw[e];refine Vy λho=>?_;refine Jz (E0:=mkE prog (Zc pb d (QI d) v)) (E:=je prog d L) (H:=λk=>hnd (je prog d L k) 2) (n0:=112) (s0:=0) (λ_=>rfl) (QQE d L) (by omega) (λk _=>Qw (QQE d L k) 2 G _ hrd) (λk _=>(by decide:112<=400)) ?_ (Qex d (QI d) L hn hc) (Nat.zero_le _) ?_
  .intro k e J h;unfold jl at h;split at h<;>(rw[h.2];exact(by decide:112<=400))
  .intro e J h;unfold jl at h;rw[Nat.sub_zero]at h;unfold vJ;cases hf:QR (J2 d L.get) L.n 0 with
   | some i=>rw[hf]at h;exact⟨_,qmc,rfl,h.1.symm,h.2.symm⟩
   | none=>rw[hf]at h;exact⟨_,List.mem_cons_of_mem _ qmc,rfl,h.1.symm,h.2.symm⟩
 .have e:QHa d (QI d) L (vJ d (QI d) L) (jp d (QI d) L) (.loop (QJ f19 1))=J9 (d.ok=true) (KJ 112 [200,201] (QAJ d (QI d) L 0) (jp d (QI d) L)):=by kernel_rfl
  rw[e];refine Vy λho=>?_;have hd:=(V6 (Vz ho)).1;have hE:=(Z4 d hd.n).w;refine Jz (E0:=mkE prog (Zc pb d (QI d) v)) (E:=j7 prog d (QI d) L) (H:=λk=>hnd (j7 prog d (QI d) L k) 0) (n0:=112) (s0:=0) (λ_=>rfl) (QOS hd hE L) (by omega) (λk _=>Qw (QOS hd hE L k) 0 G _ hrd) (λk _=>(by decide:112<=400)) ?_ (QZu d (QI d) L hn hc) (Nat.zero_le _) ?_
  .intro k e J h;unfold GS at h;split at h<;>(rw[h.2];exact(by decide:112<=400))
  .intro e J h;unfold GS at h;rw[Nat.sub_zero]at h;unfold jp;cases hf:QR (Xn d (QI d) L.get) L.n 0 with
   | some i=>rw[hf]at h;exact⟨_,qmc,rfl,h.1.symm,h.2.symm⟩
   | none=>rw[hf]at h;exact⟨_,List.mem_cons_of_mem _ qmc,rfl,h.1.symm,h.2.symm⟩
theorem QXm(L:Rc Pt)(hx:(Vp (d,L,())).1=true)(ho:d.ok=false):QQ prog 19 (wFC (VK Vp (d,L,()))):=by
 obtain⟨hn,hl,hc⟩:=qdt hx;have hT:Qc (Zc (λ_=>false) d (QI d) false):=(Qd.add (Jl (by kernel_rfl) _)).add (Jl (by kernel_rfl) _)
 refine Yi (c:=Qk f19) (E:=mkE prog (Zc (λ_=>false) d (QI d) false)) (H:=QCn prog (λ_=>false) d (QI d) L false (vJ d (QI d) L) (jp d (QI d) L)) (QP hT) func19 (by kernel_rfl) (by kernel_rfl) (N:=112) (by decide) (d,L,()) (λG h1 h2=>QTW d L _ _ hT hl hc G h1 h2) (QTT d L) ?_
 have hv:zQ d L.get L.n=(0,1):=by simp only[zQ,ho,cond_false]
 refine Qe (QRA (λ_=>false) d (QI d) L false _ _ _ _ _ _) ?_;refine QG (by simp;omega) (QE (λ_=>?_) (λh=>by rw[ho]at h;cases h))
 simp only[Vp,hv];refine⟨rfl,rfl,_,QX7 0 1,?_⟩
 repeat' first|with_reducible refine QN ?_ ?_|exact tv|with_reducible exact qRr|exact rfl|refine aI ?_ ?_
theorem Qd7(L:Rc Pt)(hx:(Vp (d,L,())).1=true)(ho:d.ok=true):QQ prog 19 (wFC (VK Vp (d,L,()))):=by
 obtain⟨hn,hl,hc⟩:=qdt hx;have hd:=(V6 (Vz ho)).1;have hE:=(Z4 d hd.n).w;have hT:Qc (Zc QO d (QI d) (hsV d (QI d) (Qs ZY))):=(Qd.add (Zy d (by omega))).add (QGs (.of 0) hd hE (show(0:Nat)<=1000 by decide))
 refine Yi (c:=Qk f19) (E:=mkE prog (Zc QO d (QI d) (hsV d (QI d) (Qs ZY)))) (H:=QCn prog QO d (QI d) L (hsV d (QI d) (Qs ZY)) (vJ d (QI d) L) (jp d (QI d) L)) (QP hT) func19 (by kernel_rfl) (by kernel_rfl) (N:=112) (by decide) (d,L,()) (λG h1 h2=>QTW d L _ _ hT hl hc G h1 h2) (QTT d L) ?_
 have hv:zQ d L.get L.n=cond (decide ((L.n:Int)>20)) (0,3) (match QR (J2 d L.get) L.n 0 with
   | some i=>(0,X6 d L.get i)
   | none=>cond (hsV d (QI d) (Qs ZY)) (Gr d (QI d) L.get L.n,0) (0,4)):=by simp only[zQ,ho,cond_true];rfl
 have et:=QRA QO d (QI d) L (hsV d (QI d) (Qs ZY)) ((QR (J2 d L.get) L.n 0).isSome=true) (QR (J2 d L.get) L.n 0=none) ((QR (Xn d (QI d) L.get) L.n 0).isSome=true) (QR (Xn d (QI d) L.get) L.n 0=none) (X6 d L.get ((QR (J2 d L.get) L.n 0).getD 0)) (((QR (Xn d (QI d) L.get) L.n 0).getD 0:Nat):Int);refine Qe et ?_;clear et;refine QG ?_ ?_;rotate_left;refine QE ?_ ?_<;>intro b0
 .rw[ho]at b0;cases b0
 refine QG ?_ ?_;rotate_left;refine QE (λb1=>?_) (λb1=>?_);rw[show decide ((L.n:Int)>20)=true from b1,cond_true]at hv;simp only[Vp,hv];refine⟨rfl,rfl,_,Qaw 0 3,?_⟩
 rotate_left
 iterate 43 refine Q2 (by first|exact tv|exact ho|with_reducible exact qRr|exact rfl) ?_
 refine Km ?_ ?_;refine Qh λa0=>?_;refine Qj λg0=>?_
 .rw[show decide ((L.n:Int)>20)=false from b1,cond_false]at hv;cases hf:QR (J2 d L.get) L.n 0 with
  | none=>rw[hf]at a0;cases a0
  | some i=>
  rw[hf]at hv;simp only[Vp,hv];refine⟨rfl,rfl,_,QhD (X6 d L.get i) 0 (X6 d L.get i),?_⟩
  repeat' first|with_reducible refine QN ?_ ?_|exact tv|with_reducible exact qRr|exact rfl|refine aI ?_ ?_
 refine Qh λa1=>?_;refine Qj λg1=>?_;refine QG ?_ ?_;rotate_left;refine QE (λb2=>?_) (λb2=>?_);rw[show decide ((L.n:Int)>20)=false from b1,cond_false,a1]at hv;simp only[show hsV d (QI d) (Qs ZY)=false by simpa using b2,cond_false]at hv
 simp only[Vp,hv];refine⟨rfl,rfl,_,Qbz 0 4,?_⟩
 rotate_left
 iterate 30 refine Q2 (by first|exact tv|exact ho|with_reducible exact qRr|exact rfl) ?_
 refine Km ?_ ?_;refine Qh λa2=>?_;refine Qj λg2=>?_
 .rw[show decide ((L.n:Int)>20)=false from b1,cond_false,a1]at hv;simp only[show hsV d (QI d) (Qs ZY)=true by simpa using b2,cond_true]at hv
  cases hf:QR (Xn d (QI d) L.get) L.n 0 with
  | none=>rw[hf]at a2;cases a2
  | some i=>
  rw[show Gr d (QI d) L.get L.n=i by unfold Gr;rw[hf]]at hv
  simp only[Vp,hv];refine⟨rfl,rfl,_,QWA i i 0,?_⟩
  repeat' first|with_reducible refine QN ?_ ?_|exact tv|with_reducible exact qRr|exact rfl|refine aI ?_ ?_
 refine Qh λa3=>?_;refine Qj λg3=>?_;rw[show decide ((L.n:Int)>20)=false from b1,cond_false,a1]at hv;simp only[show hsV d (QI d) (Qs ZY)=true by simpa using b2,cond_true]at hv
 rw[show Gr d (QI d) L.get L.n=L.n by unfold Gr;rw[a3]]at hv
 simp only[Vp,hv];refine⟨rfl,rfl,_,Qbn L L.n 0,?_⟩
 rotate_left
 all_goals first|((with_reducible show _=true);(first|(simp;done)|(refine Q9.2 ?_;repeat' first|with_reducible refine QN ?_ ?_|exact tv|with_reducible exact qRr|exact rfl|refine aI ?_ ?_)|(simp;omega)))|(repeat' first|with_reducible refine QN ?_ ?_|exact tv|with_reducible exact qRr|exact rfl|refine aI ?_ ?_)
theorem Qdg(L:Rc Pt)(hx:(Vp (d,L,())).1=true):QQ prog 19 (wFC (VK Vp (d,L,()))):=by
 cases ho:d.ok with
 | false=>exact QXm d L hx ho
 | true=>exact Qd7 d L hx ho
theorem Qc5:QQ prog 19 QQa:=zR (by kernel_rfl) λ|(d,L,()),hx=>Qdg d L hx
