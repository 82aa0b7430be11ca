/- - -/
import Derived.Test.YtekbmehgcofnkaaGreatVzf
noncomputable section
open Go.Proofs.Tryz
open Go.IntKind (i64)
set_option maxRecDepth 100000
namespace Go.Proofs.YtekbmehgcofnkaaGreat
open Go.SX Go.SX.Told
variable (d:Puz)(pb:List Prop->Bool)(n e:Int)
def vC(d:Puz)(E:ECt):Tab:=Qc QV 60 (KT pb (nbU d E))
abbrev whH(P:Program)(pb:List Prop->Bool)(d:Puz)(E:ECt)(p:Int)(X:List (Prop×Ex×JSt)):Hnd:={ hnd (mkE P (vC pb d E)) 8 with loop:=λ_=>Ks (d.ok=true) (KF 112 [200,201] (ZQ d E p 0 (0:Nat)) X) }
def Xp:AV := .tup [.int false .i64 n,.int false .i64 e]
theorem QhB(d:Puz)(E:ECt)(p cells':Int):Kg (mkE prog (vC pb d E)) (whH prog pb d E p [(True,.exit 1,HT cells')]) f17 (QZ.vals 0 ((d,p,()):Puz×Int×Unit)) (QZ.blks 0 ((d,p,()):Puz×Int×Unit)) 112 = .need (decide (d.ps.n<=d.ps.n)&&true&&decide (d.ps.n<=1000)) (.br (!d.ok) (.leaf (.tup [vj 0,vj 1]) ([])) (.need (pb ((waa d++([cO=cO]++wad d)))) (.need (true) (.br (!Q1 p (0:Int) (i64.wrap ((d.ps.n:Int)-1))) (.leaf (.tup [vj 0,vj 2]) ([])) (.ak ([d.ok=true,p=p,(0:Int)=0,0=0,0=0,(d.ps.n:Int)=(d.ps.n:Int),(0:Int)=0]++waa d++([cO=cO,0=0,E.1=E.1,E.2=E.2,0=0]++wad d)) (.asm (True) (.all (λ(g0:Nat->Value)=>.br (cells'==0) (.leaf (.tup [vj 0,vj 4]) ([])) (.leaf (.tup [vi cells',vj 0]) ([])))))))))):=by kernel_rfl
theorem Qda:QF 112 [(AV.tup [vj (0:Int),vj (1:Int)])] ([]) (Kk 112 (Xp n e) [])=( some [(0:Int)=n,(1:Int)=e]):=by kernel_rfl
theorem Qgr:QF 112 [(AV.tup [vj (0:Int),vj (2:Int)])] ([]) (Kk 112 (Xp n e) [])=( some [(0:Int)=n,(2:Int)=e]):=by kernel_rfl
theorem Qcv:QF 112 [(AV.tup [vj (0:Int),vj (4:Int)])] ([]) (Kk 112 (Xp n e) [])=( some [(0:Int)=n,(4:Int)=e]):=by kernel_rfl
theorem QeQ(cells' n e:Int):QF 112 [(AV.tup [vi cells',vj (0:Int)])] ([]) (Kk 112 (Xp n e) [])=( some [cells'=n,(0:Int)=e]):=by kernel_rfl
def Kr(p:Int):Int×Int:=cond d.ok
 (cond (Q1 p 0 (i64.wrap ((d.ps.n:Int)-1))) (cond (W0 d (QH d) p==0) (0,4) (W0 d (QH d) p,0)) (0,2)) (0,1)
def Zw:WF (Puz×Int×Unit):=λ|(d,p,_)=>(decide (d.ps.n<=1000),Xp (Kr d p).1 (Kr d p).2,[])
def QIJ:FC:=wFC Zw
theorem QW5(p:Int):WOk (Zw (d,p,())).2.1 (Zw (d,p,())).2.2:=⟨rfl,by simp[Zw],rfl⟩
theorem QdO(p:Int)(hn:d.ps.n<=1000)(G:Ctx)(hrd:G.rd=none)(hG:G.n=112):Q0 (mkE prog (vC QK d (QH d))) G (whH prog QK d (QH d) p [(True,.exit 1,HT (W0 d (QH d) p))]) (Qn f17):=by
 have hT:Qf (vC QK d (QH d)):=Qm.add (qC d (by omega))
 refine KO (body:=QI f17 0) (QP hT) hrd (by kernel_rfl) ?_
 refine JJ λho=>?_;have hd:=(JW (JU ho)).1;have hT1:Qf (ja QK d p):=Qm.add (Yf d 0 p);refine JG (E0:=mkE prog (vC QK d (QH d))) (E:=λ_:Nat×Int=>mkE prog (ja QK d p)) (H:=λk=>QD7 prog QK d (QH d) p k.2 k.1 [(True,.exit 3,ZQ d (QH d) p (Zq d (QH d) p k.2 k.1) k.1)]) (n0:=112) (s0:=(0,0)) (λ_=>rfl) (λ_=>QP hT1) (by omega) (λk _=>Qen hd (qH d hn).w p k.2 k.1 G hrd (by omega)) (λk _=>(by decide:112<=400)) ?_ (Qab d (QH d) p hn) (Nat.zero_le _) ?_
 .rintro k e J ⟨_,rfl⟩;exact(by decide:112<=400)
 .rintro e J ⟨rfl,rfl⟩;exact⟨_,qmc,trivial,rfl,rfl⟩
theorem QXs(p:Int)(hx:(Zw (d,p,())).1=true):QS prog 17 (wFC (Vl Zw (d,p,()))):=by
 have hn:d.ps.n<=1000:=qdt hx;have hT:Qf (vC QK d (QH d)):=Qm.add (qC d (by omega))
 refine ZX (c:=Qn f17) (E:=mkE prog (vC QK d (QH d))) (H:=whH prog QK d (QH d) p [(True,.exit 1,HT (W0 d (QH d) p))]) (QP hT) func17 (by kernel_rfl) (by kernel_rfl) (N:=112) (by decide) (d,p,()) (λG h1 h2=>QdO d p hn G h1 h2) (QW5 d p) ?_
 have hv:Kr d p=cond d.ok (cond (Q1 p 0 (i64.wrap ((d.ps.n:Int)-1))) (cond (W0 d (QH d) p==0) (0,4) (W0 d (QH d) p,0)) (0,2)) (0,1):=rfl;have et:=QhB QK d (QH d) p (W0 d (QH d) p);generalize W0 d (QH d) p=W at et hv ⊢;refine Qh et ?_;clear et;refine QG ?_ ?_;rotate_left;refine QE (λb0=>?_) (λb0=>?_);have ho:d.ok=false:=by simpa using b0
 rw[ho,cond_false]at hv;simp only[Zw,hv];refine⟨rfl,rfl,_,Qda 0 1,?_⟩
 rotate_left
 have ho:d.ok=true:=by simpa using b0
 iterate 2 (refine QG ?_ ?_;rotate_left)
 refine QE (λb1=>?_) (λb1=>?_);have hw:Q1 p 0 (i64.wrap ((d.ps.n:Int)-1))=false:=by simpa using b1
 rw[ho,hw,cond_true,cond_false]at hv;simp only[Zw,hv];refine⟨rfl,rfl,_,Qgr 0 2,?_⟩
 rotate_left
 iterate 24 refine Qt (by first|exact tv|exact ho|with_reducible exact qRr|exact rfl) ?_
 refine Qk λa0=>?_;refine Ql λg0=>?_;refine QE (λb2=>?_) (λb2=>?_);have hw:Q1 p 0 (i64.wrap ((d.ps.n:Int)-1))=true:=by simpa using b1
 rw[ho,hw,cond_true,cond_true,show(W==0)=true from b2,cond_true]at hv;simp only[Zw,hv];refine⟨rfl,rfl,_,Qcv 0 4,?_⟩
 rotate_left
 have hw:Q1 p 0 (i64.wrap ((d.ps.n:Int)-1))=true:=by simpa using b1
 rw[ho,hw,cond_true,cond_true,show(W==0)=false from b2,cond_false]at hv;simp only[Zw,hv];refine⟨rfl,rfl,_,QeQ W W 0,?_⟩
 rotate_left
 all_goals first|((with_reducible show _=true);(first|(simp;done)|(refine KG.2 ?_;repeat' first|with_reducible refine QM ?_ ?_|exact tv|with_reducible exact qRr|exact rfl|refine aI ?_ ?_)|(simp;omega)))|(repeat' first|with_reducible refine QM ?_ ?_|exact tv|with_reducible exact qRr|exact rfl|refine aI ?_ ?_)
theorem QLw:QS prog 17 QIJ:=QCx (by kernel_rfl) λ|(d,p,()),hx=>QXs d p hx
end Go.Proofs.YtekbmehgcofnkaaGreat
namespace Go.SX
open Go Go.RowKit Go.Proofs.YtekbmehgcofnkaaGreat
structure Rc (α:Type) where
 n:Nat
 get:Nat->α
 c:Nat
def Rc.rw{α:Type}(x:Rc α):Rw α:=⟨x.n,x.get⟩
def QJU:AV->Option Nat
 | .slz _ _ _ (.lit c)=>some c
 | .slice _ _ _ _ (.lit c)=>some c
 | .nils=>some 0
 | _=>none
theorem Qej{ks:List CK}{v:AV}{c:Nat}(hc:QJU v=some c){lk:Nat->Option Blk}{p:Bool}{m:Nat}{g g':Nat->Nat->Int}(h:Xv ks v lk=some (p,m,g))(hp:p=true)(hg:∀ i,QY ks g' i=QY ks g i){r:Nat->Loc}{w:World}(hb:∀ id b,lk id=some b->QN r id w b):
  ∃ l:Loc,∀(k:Nat) (r':Nat->Loc),r' k=l->(AV.slz k 0 m (.lit c)).den r'=v.den r/\QN r' k w (.frz ks m g'):=by
 have main:((∃ id e n,v = .slz id e n (.lit c))->∀ id e n,v = .slz id e n (.lit c)->(r id).nil=false)->∃ l:Loc,∀(k:Nat) (r':Nat->Loc),r' k=l->(AV.slz k 0 m (.lit c)).den r'=v.den r/\QN r' k w (.frz ks m g'):=by
  intro hnn;obtain⟨l,hl⟩:=QV3 h hp hg hb;refine⟨l,λk r' hr=>⟨?_,(hl k r' hr).2⟩⟩;have hd:=(hl k r' hr).1;unfold QJU at hc;split at hc<;>(try (cases hc;done))
  .simp only[qsI]at hc;subst hc;rename_i id e n c;have hn:=hnn ⟨_,_,_,rfl⟩ id e n rfl;rw[<-hd];simp only[AV.den,Loc.room,hn,Cap.den,Value.slice.injEq]at hd ⊢;obtain⟨_,_,h3⟩:=hd;refine⟨trivial,trivial,?_⟩;cases hk:(r' k).nil with
   | true=>rfl
   | false=>rw[hk]at h3;simp only[Nat.sub_zero]at h3 ⊢;exact h3.symm
  .simp only[qsI]at hc;subst hc;rw[<-hd];simp only[AV.den,Loc.room,Cap.den,Value.slice.injEq]at hd ⊢;obtain⟨_,_,h3⟩:=hd;refine⟨trivial,trivial,?_⟩;cases hk:(r' k).nil with
   | true=>rfl
   | false=>rw[hk]at h3;simp only[Nat.sub_zero]at h3 ⊢;exact h3.symm
  .simp only[qsI]at hc;subst hc;rw[<-hd];simp only[AV.den,Loc.room,Cap.den,Value.slice.injEq]at hd ⊢;obtain⟨_,_,h3⟩:=hd;refine⟨trivial,trivial,?_⟩;cases hk:(r' k).nil with
   | true=>rfl
   | false=>rw[hk]at h3;simp only[Nat.sub_zero]at h3 ⊢;exact h3.symm
 by_cases hv:∃ id e n,v = .slz id e n (.lit c)
 .obtain⟨id,e,n,rfl⟩:=hv;cases hn:(r id).nil with
  | false=>exact main λ_ id' e' n' h'=>by cases h';exact hn
  | true=>
   have fin:∀(N:Nat),(r id).esz=ks.length->(∀ k,(r id).foot k->k<w.heap.size)->m+e<=N->N=0->m=n->∃ l:Loc,∀(k:Nat) (r':Nat->Loc),r' k=l->(AV.slz k 0 m (.lit c)).den r'=(AV.slz id e n (.lit c)).den r/\QN r' k w (.frz ks m g'):=by
    intro N h1 h2 h3 h4 h5;refine⟨r id,λk r' hr=>⟨?_,?_⟩⟩
    .simp only[AV.den,hr,Loc.base,Loc.room,hn,h5]
    .simp only[QN];rw[hr];exact⟨h1,h2,λ_=>by omega,λi hi=>by omega⟩
   unfold Xv at h;simp only at h;split at h<;>(try (cases h;done))
   .rename_i o ty ks' N g0 hlk;split at h<;>(try (cases h;done))
    rename_i hk;have:=Yb hk;subst this;simp only[qsI,qpI]at h;obtain⟨rfl,rfl,rfl⟩:=h;have hbb:=hb _ _ hlk;have hb0:Kl r id w ty ks'.length N (QY ks' g0):=hbb;exact fin N hb0.2.1 (hbb.lt rfl) (qdt hp) (hb0.2.2.2.1 hn) rfl
   .rename_i ks' N g0 hlk;split at h<;>(try (cases h;done))
    rename_i hk;have:=Yb hk;subst this;simp only[qsI,qpI]at h;obtain⟨rfl,rfl,rfl⟩:=h;have hbb:=hb _ _ hlk;exact fin N hbb.1 hbb.2.1 (qdt hp) (hbb.2.2.1 hn) rfl
 .exact main λh=>absurd h hv
instance {α : Type} [QA α] : Qg (Rc α) where
  val k x := .slz k 0 x.n (.lit x.c)
  blk k x := [(k,.frz (QA.ks α) x.n λi=>QA.enc (x.get i))]
  dec v lk := match QJU v,Xv (QA.ks α) v lk with
    | some c,some (p,m,g) => some (p,⟨m,λi=>QA.dec (g i),c⟩)
    | _,_ => none
  ok v lk p x h hp := by
    split at h <;> (try (cases h; done))
    rename_i c p' m g hc hd;simp only[qsI,qpI]at h;obtain⟨rfl,rfl⟩ := h;refine⟨λk=>⟨by simp[AV.all],λq hq=>?_⟩,λr w hb=>?_⟩
    . simp only[List.mem_singleton]at hq; subst hq; exact⟨rfl,rfl,rfl⟩
    . obtain⟨l,hl⟩ := Qej hc (g' := λi=>QA.enc (QA.dec (g i) : α)) hd hp (λi=>QA.ok (g i)) hb
      refine⟨l,λk r' hr=>⟨(hl k r' hr).1,λq hq=>?_⟩⟩;simp only[List.mem_singleton]at hq; subst hq; exact(hl k r' hr).2
end Go.SX
namespace Go.Proofs.YtekbmehgcofnkaaGreat
open Go.SX Go.SX.Told
variable (d:Puz)(C:Cap)(pb:List Prop->Bool)(n e:Int)(L:Rw Pt)(get:Nat->Pt)(E:ECt)(x:Pt)(k:Nat)(v:Int)
def Y8(i:Nat):Bool:=x.cell==(L.get i).cell||x.lay.piece==(L.get i).lay.piece
def ptC:List AV:=[vi x.cell,vi x.lay.piece,vi x.lay.turn]
def piB:List (Nat×Blk):=[(16,.cellsR 0 63 (ptC x))]++Qg.blk 8 L
def piU:UC:=⟨0,⟨2,[(0,.slz 8 0 L.n C),(1,.fn (.func 57) [.ptr 16 0 0])],piB L x,24⟩,λ_=>.int false .i64 v,λ_=>[]⟩
def piJ:JSt:=⟨19,[(0,.slz 8 0 L.n C),(1,.fn (.func 57) [.ptr 16 0 0]),(7,.int false .i64 L.n),(8,.int false .i64 k)],piB L x,24⟩
def ZE(k:Int):JSt:=⟨19,[(4,.int false .i64 k)],[],24⟩
def qc:JSt:=⟨19,[],[],24⟩
def QFi:Ex->List Nat
 | .normal=>[0,1,7,8]
 | .exit _=>[]
 | .ret=>[4]
theorem Qi2(g:Nat->Value):exec (mkE prog QV) (hnd (mkE prog QV) 2) (QI f101 0) (JSt.inst (piJ C L x k) g) (Q5 [] QFi)=QC.br (decide ((↑k:Int)<(↑L.n:Int))) (QC.need (decide ((0:Int)<=(↑k:Int)/\(↑k:Int)<(↑L.n:Int))&&decide (L.n<=L.n)) (QC.need (decide (k<L.n)) (QC.br (x.cell==(L.get k).cell) (QC.leaf (AV.tup [AV.nili,AV.ptr (19:Nat) (0:Nat) (0:Nat),vi (↑k:Int)]) ([])) (QC.br (x.lay.piece==(L.get k).lay.piece) (QC.leaf (AV.tup [AV.nili,AV.ptr (19:Nat) (0:Nat) (0:Nat),vi (↑k:Int)]) ([])) (QC.leaf (AV.tup [AV.nilp,AV.ptr (19:Nat) (0:Nat) (0:Nat),AV.slz (8:Nat) (0:Nat) L.n C,AV.fn (Fn.func (57:Nat)) [AV.ptr (16:Nat) (0:Nat) (0:Nat)],vi (↑L.n:Int),vi (i64.wrap ((↑k:Int)+(1:Int)))]) ([((8:Nat),Blk.frz [CK.int i64,CK.int i64,CK.int i64] L.n λi=>QA.enc (L.get i)),((16:Nat), Blk.cellsR (0:Nat) (63:Nat) [vi x.cell,vi x.lay.piece,vi x.lay.turn])])))))) (QC.leaf (AV.tup [AV.ptr (0:Nat) (0:Nat) (0:Nat),AV.ptr (19:Nat) (0:Nat) (0:Nat)]) ([])):=by kernel_rfl
theorem QXT(j:Int):QF 24 [vi (↑k:Int)] ([]) (ZE j)=( some [(↑k:Int)=j]):=by kernel_rfl
theorem QkO(j:Int):QF 24 [vi (↑k:Int)] ([]) (ZE j)=( some [(↑k:Int)=j]):=by kernel_rfl
theorem QY6(k k':Nat):QF 24 [AV.slz (8:Nat) (0:Nat) L.n C,AV.fn (Fn.func (57:Nat)) [AV.ptr (16:Nat) (0:Nat) (0:Nat)],vi (↑L.n:Int),vi (i64.wrap ((↑k:Int)+(1:Int)))] ([((8:Nat),Blk.frz [CK.int i64,CK.int i64,CK.int i64] L.n λi=>QA.enc (L.get i)),((16:Nat),Blk.cellsR (0:Nat) (63:Nat) [vi x.cell,vi x.lay.piece,vi x.lay.turn])]) (piJ C L x k')=( some [0=0,L.n=L.n,C=C,Fn.func (57:Nat)=Fn.func (57:FuncId),0=0,0=0,(↑L.n:Int)=(↑L.n:Int), i64.wrap ((↑k:Int)+(1:Int))=(↑k':Int),x.cell=x.cell,x.lay.piece=x.lay.piece,x.lay.turn=x.lay.turn,L.n<=L.n,QB (3:Nat) L.n (λi=>QA.enc (L.get i)) λi=>QA.enc (L.get i)]):=by kernel_rfl
theorem Qan :QF 24 [] ([]) qc=( some []):=by kernel_rfl
abbrev piH(P:Program)(C:Cap)(L:Rw Pt)(x:Pt)(X:List (Prop×Ex×JSt)):Hnd:={ hnd (mkE P QV) 2 with loop:=λ_=>KF 24 [] (piJ C L x (0:Nat)) X }
theorem Qau(A B:Prop)(k v:Int):VK (mkE prog QV) (piH prog C L x [(A,.ret,ZE k),(B,.exit 0,qc)]) f101 (piU C L x v)=QC.ask (0=0) (QC.ask (L.n=L.n) (QC.ask (C=C) (QC.ask (Fn.func (57:FuncId)=Fn.func (57:FuncId)) (QC.ask (0=0) (QC.ask (0=0) (QC.ask ((↑L.n:Int)=(↑L.n:Int)) (QC.ask ((0:Int)=(0:Int)) (QC.ask (x.cell=x.cell) (QC.ask (x.lay.piece=x.lay.piece) (QC.ask (x.lay.turn=x.lay.turn) (QC.ask (L.n<=L.n) (QC.ask (QB (3:Nat) L.n (λi=>QA.enc (L.get i)) λi=>QA.enc (L.get i)) (QC.both (QC.asm (A) (QC.all (λ(g0:Nat -> Value)=>QC.leaf (vi k) ([])))) (QC.asm (B) (QC.all (λ(g1:Nat->Value)=>QC.leaf (vj (-1:Int)) ([]))))))))))))))))):=by kernel_rfl
theorem QYF(k v:Int):QF 24 [(vi k)] ([]) (KX (piU C L x v))=( some [k=v]):=by kernel_rfl
theorem QjG:QF 24 [(vj (-1:Int))] ([]) (KX (piU C L x v))=( some [(-1:Int)=v]):=by kernel_rfl
def Vu:Option Nat:=QR (Y8 L x) L.n 0
def piR(e:Ex)(J:JSt):Prop:=(e = .ret/\(QR (Y8 L x) (L.n-k) k).isSome=true/\J=ZE (Kv (QR (Y8 L x) (L.n-k) k)))∨(e = .exit 0/\QR (Y8 L x) (L.n-k) k=none/\J=qc)
theorem QdR(hn:L.n<=1000):VH (piJ C L x) (λk=>k<=L.n) (λk=>L.n-k) (piR L x) 24 QFi [] (mkE prog QV) (λ_=>hnd (mkE prog QV) 2) (QI f101 0):=by
 refine⟨λk g0 hk=>Qh (Qi2 C L x k g0) ?_⟩;have hk:k<=L.n:=hk;have hit:∀(h:k<L.n),Y8 L x k=true->piR L x k .ret (ZE k):=λh hs=>.inl ⟨rfl,by rw[(VC h).1 hs];rfl,by rw[(VC h).1 hs];rfl⟩
 refine QE (λb0=>?_) (λb0=>?_);have h:k<L.n:=by have:=qdt b0;omega
 have hf:=VC (p:=Y8 L x) h
 iterate 2 (refine QG ?_ ?_;rotate_left)
 refine QE ?_ ?_<;>intro b1
 .refine⟨_,hit h (by unfold Y8;rw[b1];rfl),rfl,rfl,_,QXT k k,⟨rfl,trivial⟩⟩
 refine QE ?_ ?_<;>intro b2
 .refine⟨_,hit h (by unfold Y8;rw[b1,b2];rfl),rfl,rfl,_,QkO k k,⟨rfl,trivial⟩⟩
 have hb:Y8 L x k=false:=by unfold Y8;rw[b1,b2];rfl
 refine⟨k+1,h,by show L.n-(k+1)<L.n-k;omega,λe J h=>by unfold piR at h ⊢;rw[hf.2 hb];exact h,rfl,rfl,_,QY6 C L x k (k+1),?_⟩
 rotate_left
 .have h:L.n<=k:=by have:=qdf b0;omega
  exact⟨_,.inr ⟨rfl,by rw[show L.n-k=0 by omega];rfl,rfl⟩,rfl,rfl,_,Qan,trivial⟩
 all_goals first|((with_reducible show _=true);(first|rfl|(simp;omega)))|(repeat' first|with_reducible refine QM ?_ ?_|exact tv|exact qRr|exact Vo h hn|refine aI ?_ ?_)
def piX:List (Prop×Ex×JSt):=[((Vu L x).isSome=true,.ret,ZE (Kv (Vu L x))),(Vu L x=none,.exit 0,qc)]
theorem Qd1(hn:L.n<=1000)(G:Ctx)(hrd:G.rd=none)(hG:G.n=24):Q0 (mkE prog QV) G (piH prog C L x (piX L x)) (Qn f101):=by
 refine KO (body:=QI f101 0) (QP Qm) hrd (by kernel_rfl) ?_
 refine XP (n0:=24) (QP Qm) (by omega) (λs hs=>Qz (QP Qm) 2 G _ hrd) (λs hs=>(by decide:24<=24)) ?_ (QdR C L x hn) (s0:=0) (Nat.zero_le _) ?_
 .rintro s e J (⟨_,_,rfl⟩|⟨_,_,rfl⟩)<;>exact(by decide:24<=24)
 .rintro e J (⟨rfl,h,rfl⟩|⟨rfl,h,rfl⟩)
  .exact⟨_,qmc,h,rfl,rfl⟩
  .exact⟨_,List.mem_cons_of_mem _ qmc,h,rfl,rfl⟩
theorem QYs:(piU C L x v).Ok:=⟨(by decide:0<=24),rfl,rfl,λq hq=>(by cases hq),rfl,λ_ _=>rfl,λ_ _=>rfl⟩
theorem QWn(hn:L.n<=1000):QS prog 101 (uFC (piU C L x (Kv (Vu L x)))):=by
 refine K0 (E:=mkE prog QV) (QP Qm) func101 (by kernel_rfl) (by kernel_rfl) (QYs ..) (λG h1 h2=>Qd1 C L x hn G h1 (by rw[h2];rfl)) ⟨?_⟩
 have et:=Qau C L x ((Vu L x).isSome=true) (Vu L x=none) (Kv (Vu L x)) (Kv (Vu L x));refine Qh et ?_;clear et
 iterate 13 refine Qt (by first|exact tv|with_reducible exact qRr|exact rfl) ?_
 refine Kq ?_ ?_;refine Qk λa0=>?_;refine Ql λg0=>?_;refine⟨rfl,rfl,_,QYF C L x (Kv (Vu L x)) (Kv (Vu L x)),?_⟩
 rotate_left
 refine Qk λa1=>?_;refine Ql λg1=>?_
 .refine⟨rfl,rfl,_,QjG C L x (Kv (Vu L x)),?_⟩;rw[a1]
  repeat' first|exact tv|exact rfl|refine aI ?_ ?_
 all_goals (repeat' first|exact tv|exact rfl|refine aI ?_ ?_)
def Qgq(L:Rc Pt)(k:Nat):List (Nat×AV):=[(1,.slz 1 0 L.n (.lit L.c)),(2,.ptr 112 0 0),(6,.ptr 200 0 0),(25,.slz 1 0 L.n (.lit L.c)),(26,.int false .i64 L.n),(27,.int false .i64 k)]
def QBW(L:Rc Pt)(k:Nat):JSt:=⟨92,Qgq L k,whB d E++[(112,.cells 0 28 (KZ d))]++Qg.blk 0 d.ps++Qg.blk 1 L,400⟩
def QEe(L:Rc Pt):JSt:=⟨92,[(1,.slz 1 0 L.n (.lit L.c)),(6,.ptr 200 0 0)],whB d E++Qg.blk 0 d.ps++Qg.blk 1 L,400⟩
def YP:JSt:=⟨92,[(4,.int false .i64 n),(5,.int false .i64 e)],[],400⟩
def QRl:Ex->List Nat
 | .normal=>[1,2,6,25,26,27]
 | .exit _=>[1,6]
 | .ret=>[4,5]
def QJP(d:Puz)(L:Rc Pt)(k:Nat)(v:Int):Tab:=Qc (Qc QV 52 (KT pb (tnU d 0 (L.get k).lay.piece))) 101 (KT pb (piU (.lit L.c) ⟨k,L.get⟩ (L.get k) v))
abbrev QHZ:List AV:=[.nili,.ptr 92 0 0,vj 0,vj 2]
abbrev Za:Nat×Blk:=(200,.cells 0 152 (List.append (waf d) ([.map 201,.slz 392 0 0 cO])))
abbrev Xo:Nat×Blk:=(0,.frz (wae) d.ps.n λi=>QA.enc (d.ps.get i))
abbrev Zb:Nat×Blk:=(392,.rowz true 49 kB 0 λi=>QA.enc ([].getD i (Lay.mk (0:Int) (0:Int))))
abbrev qO(L:Rc Pt):Nat×Blk:=(1,.frz (waJ) L.1 λi=>QA.enc (L.2 i))
abbrev QQN:Nat×Blk:=(112,.cells 0 28 (waf d))
theorem QaO(d:Puz)(E:ECt)(L:Rc Pt)(k:Nat)(v:Int)(g0:Nat->Value):exec (mkE prog (QJP pb d L k v)) (hnd (mkE prog (QJP pb d L k v)) 2) (QI f19 0) (JSt.inst (QBW d E L k) g0) (Q5 [200,201] QRl) = .br (decide ((k:Int)<(L.1:Int))) (.need (decide ((0:Int)<=(k:Int)/\(k:Int)<(L.1:Int))&&decide (L.1<=L.1)) (.need (decide (k<L.1)) (.need (true) (.br (!Q1 (L.2 ((k:Int).toNat+0)).cell (0:Int) (i64.wrap ((d.ps.n:Int)-1))) (.leaf (.tup QHZ) ([(Za d),(201,.mp E.1 E.2),(Xo d),Zb])) (.need (true) (.br (!Q1 (L.2 ((k:Int).toNat+0)).lay.piece (0:Int) (i64.wrap ((d.ps.n:Int)-1))) (.leaf (.tup QHZ) ([(Za d),(201,.mp E.1 E.2),(Xo d),Zb])) (.need (pb (([0=0,0=0,(L.2 ((k:Int).toNat+0)).lay.piece=(L.2 k).lay.piece]++waa d++([cO=cO,0=0,0=0,cO=cO]++wad d)))) (.need (true) (.br (!Q1 (L.2 ((k:Int).toNat+0)).lay.turn (0:Int) (i64.wrap (tnV d (L.2 k).lay.piece-1))) (.leaf (.tup QHZ) ([(Za d),(201,.mp E.1 E.2),(Xo d),Zb])) (.need (decide ((0:Int)<=(k:Int)/\k<=min L.1 L.3)) (.need (pb ([0=0,k=k, Cap.lit L.3=Cap.lit L.3,Fn.func 57=Fn.func 57,0=0,0=0,(L.2 ((k:Int).toNat+0)).cell=(L.2 k).cell,(L.2 ((k:Int).toNat+0)).lay.piece=(L.2 k).lay.piece,(L.2 ((k:Int).toNat+0)).lay.turn=(L.2 k).lay.turn,k<=L.1,QB 3 k (λi=>QA.enc (L.2 i)) λi=>QA.enc ((Rw.mk k L.2).get i)])) (.br (decide (v≥0)) (.leaf (.tup [.nili,.ptr 92 0 0,vj 0,vj 5]) ([(Za d),(201,.mp E.1 E.2),(Xo d),Zb])) (.leaf (.tup [.nilp,.ptr 92 0 0,.slz 1 0 L.1 (Cap.lit L.3),.ptr 112 0 0,.ptr 200 0 0,.slz 1 0 L.1 (Cap.lit L.3),vi (L.1:Int),vi (i64.wrap ((k:Int)+1))]) ([(Za d),(201,.mp E.1 E.2),(qO L),(QQN d), (Xo d),Zb])))))))))))))) (.leaf (.tup [.ptr 1 0 0,.ptr 92 0 0,.slz 1 0 L.1 (Cap.lit L.3),.ptr 200 0 0]) ([(Za d),(201,.mp E.1 E.2),(qO L),(Xo d),Zb])):=by kernel_rfl
theorem Qh0(n e:Int):QF 112 [vj (0:Int),vj (2:Int)] ([((200:Nat),Blk.cells (0:Nat) (152:Nat) (List.append (waF d) ([AV.bool false d.turn,AV.slz (0:Nat) (0:Nat) d.ps.n cO,AV.map (201:Nat),AV.slz (392:Nat) (0:Nat) (0:Nat) cO]))),((201:Nat),Blk.mp E.1 E.2),((0:Nat),Blk.frz [CK.int i64,CK.int i64,CK.int i64,CK.int i64,CK.int i64,CK.int i64,CK.int i64,CK.int i64,CK.int i64,CK.int i64,CK.int i64,CK.int i64,CK.int i64,CK.int i64,CK.int i64,CK.int i64,CK.int i64,CK.int i64,CK.int i64,CK.int i64,CK.int i64,CK.int i64,CK.int i64,CK.int i64,CK.int i64,CK.int i64,CK.int i64,CK.int i64] d.ps.n λi=>QA.enc (d.ps.get i)),((392:Nat),Blk.rowz true (49:Nat) [CK.int i64,CK.int i64] (0:Nat) λi=>QA.enc ([].getD i (Lay.mk (0:Int) (0:Int))))]) (YP n e)=( some [(0:Int)=n,(2:Int)=e]):=by kernel_rfl
theorem QYl(n e:Int):QF 112 [vj (0:Int),vj (2:Int)] ([((200:Nat),Blk.cells (0:Nat) (152:Nat) (List.append (waF d) ([AV.bool false d.turn,AV.slz (0:Nat) (0:Nat) d.ps.n cO,AV.map (201:Nat),AV.slz (392:Nat) (0:Nat) (0:Nat) cO]))),((201:Nat),Blk.mp E.1 E.2),((0:Nat),Blk.frz [CK.int i64,CK.int i64,CK.int i64,CK.int i64,CK.int i64,CK.int i64,CK.int i64,CK.int i64,CK.int i64,CK.int i64,CK.int i64,CK.int i64,CK.int i64,CK.int i64,CK.int i64,CK.int i64,CK.int i64,CK.int i64,CK.int i64,CK.int i64,CK.int i64,CK.int i64,CK.int i64,CK.int i64,CK.int i64,CK.int i64,CK.int i64,CK.int i64] d.ps.n λi=>QA.enc (d.ps.get i)),((392:Nat),Blk.rowz true (49:Nat) [CK.int i64,CK.int i64] (0:Nat) λi=>QA.enc ([].getD i (Lay.mk (0:Int) (0:Int))))]) (YP n e)=( some [(0:Int)=n,(2:Int)=e]):=by kernel_rfl
theorem Qkc(n e:Int):QF 112 [vj (0:Int),vj (2:Int)] ([((200:Nat),Blk.cells (0:Nat) (152:Nat) (List.append (waF d) ([AV.bool false d.turn,AV.slz (0:Nat) (0:Nat) d.ps.n cO,AV.map (201:Nat),AV.slz (392:Nat) (0:Nat) (0:Nat) cO]))),((201:Nat),Blk.mp E.1 E.2),((0:Nat),Blk.frz [CK.int i64,CK.int i64,CK.int i64,CK.int i64,CK.int i64,CK.int i64,CK.int i64,CK.int i64,CK.int i64,CK.int i64,CK.int i64,CK.int i64,CK.int i64,CK.int i64,CK.int i64,CK.int i64,CK.int i64,CK.int i64,CK.int i64,CK.int i64,CK.int i64,CK.int i64,CK.int i64,CK.int i64,CK.int i64,CK.int i64,CK.int i64,CK.int i64] d.ps.n λi=>QA.enc (d.ps.get i)),((392:Nat),Blk.rowz true (49:Nat) [CK.int i64,CK.int i64] (0:Nat) λi=>QA.enc ([].getD i (Lay.mk (0:Int) (0:Int))))]) (YP n e)=( some [(0:Int)=n,(2:Int)=e]):=by kernel_rfl
theorem QiX(n e:Int):QF 112 [vj (0:Int),vj (5:Int)] ([((200:Nat),Blk.cells (0:Nat) (152:Nat) (List.append (waF d) ([AV.bool false d.turn,AV.slz (0:Nat) (0:Nat) d.ps.n cO,AV.map (201:Nat),AV.slz (392:Nat) (0:Nat) (0:Nat) cO]))),((201:Nat),Blk.mp E.1 E.2),((0:Nat),Blk.frz [CK.int i64,CK.int i64,CK.int i64,CK.int i64,CK.int i64,CK.int i64,CK.int i64,CK.int i64,CK.int i64,CK.int i64,CK.int i64,CK.int i64,CK.int i64,CK.int i64,CK.int i64,CK.int i64,CK.int i64,CK.int i64,CK.int i64,CK.int i64,CK.int i64,CK.int i64,CK.int i64,CK.int i64,CK.int i64,CK.int i64,CK.int i64,CK.int i64] d.ps.n λi=>QA.enc (d.ps.get i)),((392:Nat),Blk.rowz true (49:Nat) [CK.int i64,CK.int i64] (0:Nat) λi=>QA.enc ([].getD i (Lay.mk (0:Int) (0:Int))))]) (YP n e)=( some [(0:Int)=n,(5:Int)=e]):=by kernel_rfl
abbrev wby(L:Rc Pt):List Prop:=[L.1=L.1,Cap.lit L.3=Cap.lit L.3]
abbrev QIF(L:Rc Pt):List Prop:=([0=0]++wby L++[0=0,0=0])
abbrev QIA(d:Puz):List Prop:=((waC d++([0=0,d.ps.n=d.ps.n]++wce E))++wam)
abbrev QKZ(L:Rc Pt)(d:Puz):List Prop:=(wad d++[L.1<=L.1,QB 3 L.1 (λi=>QA.enc (L.2 i)) λi=>QA.enc (L.2 i)])
theorem QXE(L:Rc Pt)(k k':Nat):QF 112 [.slz 1 0 L.1 (Cap.lit L.3),.ptr 112 0 0,.ptr 200 0 0,.slz 1 0 L.1 (Cap.lit L.3),vi (L.1:Int),vi (i64.wrap ((k:Int)+1))] ([(Za d),(201,.mp E.1 E.2),(qO L),(QQN d),(Xo d),Zb]) (QBW d E L k')=(some ((QIF L)++(([0=0,0=0,0=0]++wby L++[(L.1:Int)=(L.1:Int),i64.wrap ((k:Int)+1)=(k':Int)])++waK d)++(QIA E d)++(waa d++[cO=cO])++(QKZ L d))):=by kernel_rfl
theorem QkF(L:Rc Pt):QF 112 [.slz 1 0 L.1 (Cap.lit L.3),.ptr 200 0 0] ([(Za d),(201,.mp E.1 E.2),(qO L),(Xo d),Zb]) (QEe d E L)=(some ((QIF L)++(waK d)++(QIA E d)++(QKZ L d))):=by kernel_rfl
def QgX(L:Rc Pt)(k:Nat):List (Nat×AV):=[(1,.slz 1 0 L.n (.lit L.c)),(6,.ptr 200 0 0),(77,.int false .i64 L.n),(78,.int false .i64 k)]
def QCY(L:Rc Pt)(k:Nat):JSt:=⟨92,QgX L k,whB d E++Qg.blk 0 d.ps++Qg.blk 1 L,400⟩
def QEj(L:Rc Pt):JSt:=⟨92,[(1,.slz 1 0 L.n (.lit L.c))],Qg.blk 1 L,400⟩
def QR1:Ex->List Nat
 | .normal=>[1,6,77,78]
 | .exit _=>[1]
 | .ret=>[4,5]
def QJV(d:Puz)(E:ECt)(C:Cap)(K:Rw Pt)(v:Bool):Tab:=Qc QV 53 (KT pb (hsU d E C K v))
abbrev QKL:Nat×Blk:=(200,.cells 0 152 (List.append (waf d) ([.map 201,.slz 464 0 0 cO])))
abbrev QK6:Nat×Blk:=(464,.rowz true 49 kB 0 λi=>QA.enc ([].getD i (Lay.mk (0:Int) (0:Int))))
theorem QhH(d:Puz)(E:ECt)(L:Rc Pt)(K:Rw Pt)(k:Nat)(v:Bool)(g0:Nat->Value):exec (mkE prog (QJV pb d E (.lit L.c) K v)) (hnd (mkE prog (QJV pb d E (.lit L.c) K v)) 0) (QI f19 1) (JSt.inst (QCY d E L k) g0) (Q5 [200,201] QR1) = .br (decide ((k:Int)<(L.1:Int))) (.need (decide ((0:Int)<=i64.wrap ((k:Int)+1)/\(i64.wrap ((k:Int)+1)).toNat<=min L.1 L.3)) (.need (pb (([0=0,0=0,0=0,(i64.wrap ((k:Int)+1)).toNat=K.n,Cap.lit L.3=Cap.lit L.3]++waa d++(((wce E)++wam++[K.n<=L.1,QB 3 K.n (λi=>QA.enc (L.2 i)) λi=>QA.enc (K.get i)])++wad d)))) (.br (!v) (.leaf (.tup [.nili,.ptr 92 0 0,vi (k:Int),vj 0]) ([(QKL d),(201,.mp E.1 E.2),(Xo d),QK6])) (.leaf (.tup [.nilp,.ptr 92 0 0,.slz 1 0 L.1 (Cap.lit L.3),.ptr 200 0 0,vi (L.1:Int),vi (i64.wrap ((k:Int)+1))]) ([(QKL d),(201,.mp E.1 E.2),(qO L),(Xo d),QK6]))))) (.leaf (.tup [.ptr 4 0 0,.ptr 92 0 0,.slz 1 0 L.1 (Cap.lit L.3)]) ([(Za d),(201,.mp E.1 E.2),(qO L),(Xo d),Zb])):=by kernel_rfl
theorem Qap(n e:Int):QF 112 [vi (↑k:Int),vj (0:Int)] ([((200:Nat),Blk.cells (0:Nat) (152:Nat) (List.append (waF d) ([AV.bool false d.turn,AV.slz (0:Nat) (0:Nat) d.ps.n cO,AV.map (201:Nat),AV.slz (464:Nat) (0:Nat) (0:Nat) cO]))),((201:Nat),Blk.mp E.1 E.2),((0:Nat),Blk.frz [CK.int i64,CK.int i64,CK.int i64,CK.int i64,CK.int i64,CK.int i64,CK.int i64,CK.int i64,CK.int i64,CK.int i64,CK.int i64,CK.int i64,CK.int i64,CK.int i64,CK.int i64,CK.int i64,CK.int i64,CK.int i64,CK.int i64,CK.int i64,CK.int i64,CK.int i64,CK.int i64,CK.int i64,CK.int i64,CK.int i64,CK.int i64,CK.int i64] d.ps.n λi=>QA.enc (d.ps.get i)),((464:Nat),Blk.rowz true (49:Nat) [CK.int i64,CK.int i64] (0:Nat) λi=>QA.enc ([].getD i (Lay.mk (0:Int) (0:Int))))]) (YP n e)=( some [(↑k:Int)=n,(0:Int)=e]):=by kernel_rfl
theorem QZO(L:Rc Pt)(k k':Nat):QF 112 [.slz 1 0 L.1 (Cap.lit L.3),.ptr 200 0 0,vi (L.1:Int),vi (i64.wrap ((k:Int)+1))] ([(QKL d),(201,.mp E.1 E.2),(qO L),(Xo d),QK6]) (QCY d E L k')=(some ((QIF L)++([(L.1:Int)=(L.1:Int),i64.wrap ((k:Int)+1)=(k':Int)]++waK d)++(QIA E d)++(QKZ L d))):=by kernel_rfl
theorem QY0(L:Rc Pt):QF 112 [.slz 1 0 L.1 (Cap.lit L.3)] ([(Za d),(201,.mp E.1 E.2),(qO L),(Xo d),Zb]) (QEj L)=(some ([0=0]++wby L++[L.1<=L.1,QB 3 L.1 (λi=>QA.enc (L.2 i)) λi=>QA.enc (L.2 i)])):=by kernel_rfl
def Ja:Rw Pt:=⟨0,λ_=>⟨0,⟨0,0⟩⟩⟩
def Zi(d:Puz)(E:ECt)(v:Bool):Tab:=Qc (Qc QV 60 (KT pb (nbU d E))) 53 (KT pb (hsU d E (.of 0) Ja v))
abbrev QHn(L:Rc Pt)(X1 X2:List (Prop×Ex×JSt)):Code->St->(Ex->St->QC)->QC:=QUp [(7,Ks (d.ok=true) (KF 112 [200,201] (QBW d E L 0) X1)),(18,Ks (d.ok=true) (KF 112 [200,201] (QCY d E L 0) X2))]
abbrev QEL(P:Program)(pb:List Prop->Bool)(d:Puz)(E:ECt)(L:Rc Pt)(v:Bool)(X1 X2:List (Prop×Ex×JSt)):Hnd:={ hnd (mkE P (Zi pb d E v)) 8 with loop:=QHn d E L X1 X2 }
theorem QN6(d:Puz)(E:ECt)(L:Rc Pt)(v:Bool)(A1 B1 A2 B2:Prop)(e1 n2:Int):Kg (mkE prog (Zi pb d E v)) (QEL prog pb d E L v [(A1,.ret,YP 0 e1),(B1,.exit 1,QEe d E L)] [(A2,.ret,YP n2 0),(B2,.exit 4,QEj L)]) f19 (QZ.vals 0 ((d,L,()):Puz×Rc Pt×Unit)) (QZ.blks 0 ((d,L,()):Puz×Rc Pt×Unit)) 112 = .need (decide (d.ps.n<=d.ps.n)&&true&&decide (d.ps.n<=1000)) (.br (!d.ok) (.leaf (.tup [vj 0,vj 1]) ([])) (.need (pb ((waa d++([cO=cO]++wad d)))) (.br (decide ((L.1:Int)>20)) (.leaf (.tup [vj 0,vj 3]) ([])) (.ak (([d.ok=true,0=0]++wby L++[0=0,0=0,0=0,0=0,0=0]++wby L++[(L.1:Int)=(L.1:Int),(0:Int)=0])++waa d++[cO=cO,0=0,E.1=E.1,E.2=E.2,0=0]++waa d++([cO=cO]++wad d++[L.1<=L.1,QB 3 L.1 (λi=>QA.enc ((d,L,()).snd.fst.2 i)) λi=>QA.enc (L.2 i)])) (.both (.asm (A1) (.all (λ(g0:Nat->Value)=>.leaf (.tup [vi 0,vi e1]) ([])))) (.asm (B1) (.all (λ(g1:Nat->Value)=>.need (pb (([0=0,0=0,0=0]++waa d++(((wce E)++wam++[0=0])++wad d)))) (.br (!v) (.leaf (.tup [vj 0, vj 4]) ([])) (.ak (([d.ok=true,0=0]++wby L++[0=0,0=0,(L.1:Int)=(L.1:Int),(0:Int)=0])++waa d++(((wce E)++wam)++wad d++[L.1<=L.1,QB 3 L.1 (λi=>QA.enc (L.2 i)) λi=>QA.enc (L.2 i)])) (.both (.asm (A2) (.all (λ(g2:Nat->Value)=>.leaf (.tup [vi n2,vi 0]) ([])))) (.asm (B2) (.all (λ(g3:Nat->Value)=>.leaf (.tup [vi (L.1:Int),vj 0]) ([]))))))))))))))):=by kernel_rfl
theorem Qgu:QF 112 [(AV.tup [vj (0:Int),vj (1:Int)])] ([]) (Kk 112 (Xp n e) [])=( some [(0:Int)=n,(1:Int)=e]):=by kernel_rfl
theorem Qcl:QF 112 [(AV.tup [vj (0:Int),vj (3:Int)])] ([]) (Kk 112 (Xp n e) [])=( some [(0:Int)=n,(3:Int)=e]):=by kernel_rfl
theorem Qev(e1 n e:Int):QF 112 [(AV.tup [vi (0:Int),vi e1])] ([]) (Kk 112 (Xp n e) [])=( some [(0:Int)=n,e1=e]):=by kernel_rfl
theorem QYr:QF 112 [(AV.tup [vj (0:Int),vj (4:Int)])] ([]) (Kk 112 (Xp n e) [])=( some [(0:Int)=n,(4:Int)=e]):=by kernel_rfl
theorem QYN(n2 n e:Int):QF 112 [(AV.tup [vi n2,vi (0:Int)])] ([]) (Kk 112 (Xp n e) [])=( some [n2=n,(0:Int)=e]):=by kernel_rfl
theorem QiB(L:Rc Pt)(n e:Int):QF 112 [(AV.tup [vi (↑L.1:Int),vj (0:Int)])] ([]) (Kk 112 (Xp n e) [])=( some [(↑L.1:Int)=n,(0:Int)=e]):=by kernel_rfl
def J2:Bool:=Q1 x.cell 0 (i64.wrap ((d.ps.n:Int)-1))&&(Q1 x.lay.piece 0 (i64.wrap ((d.ps.n:Int)-1))&&Q1 x.lay.turn 0 (i64.wrap (tnV d x.lay.piece-1)))
def QBe:Bool:=decide (Kv (Vu ⟨k,get⟩ (get k))≥0)
def JE:Bool := !J2 d (get k)||QBe get k
def Jq:Int:=cond (J2 d (get k)) 5 2
open Classical in
def QC2:List Prop->Bool:=if k<=1000 then QK else λ_=>false
def zG(P:Program)(d:Puz)(L:Rc Pt)(k:Nat):Env:=mkE P (QJP (QC2 k) d L k (Kv (Vu ⟨k,L.get⟩ (L.get k))))
theorem QLX(L:Rc Pt)(k:Nat):(zG prog d L k).Sound:=by
 unfold zG QC2
 by_cases h:k<=1000
 .rw[if_pos h];exact QP ((Qm.add (Yf d 0 _)).add (QWn (.lit L.c) ⟨k,L.get⟩ (L.get k) h))
 .rw[if_neg h];exact QP ((Qm.add (Jx (by kernel_rfl) _)).add (Jx (by kernel_rfl) _))
def vm(L:Rc Pt)(k:Nat)(e:Ex)(J:JSt):Prop:=match QR (JE d L.get) (L.n-k) k with
 | some i=>e = .ret/\J=YP 0 (Jq d L.get i)
 | none=>e = .exit 1/\J=QEe d E L
theorem QXM(L:Rc Pt)(hn:L.n<=1000)(hc:L.n<=L.c):K6 (QBW d E L) (λk=>k<=L.n) (λk=>L.n-k) (vm d E L) 112 QRl [200,201] (zG prog d L) (λk=>hnd (zG prog d L k) 2) (QI f19 0):=by
 refine⟨λk g0 hk=>?_⟩;have hk:k<=L.n:=hk;have hk1:k<=1000:=Nat.le_trans hk hn;have hpb:QC2 k=QK:=by unfold QC2;rw[if_pos hk1]
 have hit:∀(_:k<L.n) (e:Int),JE d L.get k=true->Jq d L.get k=e->vm d E L k .ret (YP 0 e):=by
  intro h e hb he;unfold vm;rw[(VC h).1 hb];exact⟨rfl,by rw[he]⟩
 unfold zG;rw[hpb];have et:=QaO QK d E L k (Kv (Vu ⟨k,L.get⟩ (L.get k))) g0;refine Qh et ?_;clear et;refine QE (λb0=>?_) (λb0=>?_);have h:k<L.n:=by have:=qdt b0;omega
 have hf:=VC (p:=JE d L.get) h
 iterate 3 (refine QG ?_ ?_;rotate_left)
 refine QE (λb1=>?_) (λb1=>?_);have hp:J2 d (L.get k)=false:=by unfold J2;rw[show Q1 (L.get k).cell 0 (i64.wrap ((d.ps.n:Int)-1))=false by simpa using b1];rfl
 refine⟨_,hit h 2 (by unfold JE;rw[hp];rfl) (by unfold Jq;rw[hp];rfl),rfl,rfl,_,Qh0 d E 0 2,?_⟩
 rotate_left
 refine QG ?_ ?_;rotate_left;refine QE (λb2=>?_) (λb2=>?_);have hp:J2 d (L.get k)=false:=by unfold J2;rw[show Q1 (L.get k).lay.piece 0 (i64.wrap ((d.ps.n:Int)-1))=false by simpa using b2];simp
 refine⟨_,hit h 2 (by unfold JE;rw[hp];rfl) (by unfold Jq;rw[hp];rfl),rfl,rfl,_,QYl d E 0 2,?_⟩
 rotate_left
 iterate 2 (refine QG ?_ ?_;rotate_left)
 refine QE (λb3=>?_) (λb3=>?_);have hp:J2 d (L.get k)=false:=by unfold J2;rw[show Q1 (L.get k).lay.turn 0 (i64.wrap (tnV d (L.get k).lay.piece-1))=false by simpa using b3];simp
 refine⟨_,hit h 2 (by unfold JE;rw[hp];rfl) (by unfold Jq;rw[hp];rfl),rfl,rfl,_,Qkc d E 0 2,?_⟩
 rotate_left
 iterate 2 (refine QG ?_ ?_;rotate_left)
 refine QE (λb4=>?_) (λb4=>?_);have hp:J2 d (L.get k)=true:=by unfold J2;rw[show Q1 (L.get k).cell 0 (i64.wrap ((d.ps.n:Int)-1))=true by simpa using b1,show Q1 (L.get k).lay.piece 0 (i64.wrap ((d.ps.n:Int)-1))=true by simpa using b2,show Q1 (L.get k).lay.turn 0 (i64.wrap (tnV d (L.get k).lay.piece-1))=true by simpa using b3];rfl
 have hd:QBe L.get k=true:=b4;refine⟨_,hit h 5 (by unfold JE;rw[hd];simp) (by unfold Jq;rw[hp];rfl),rfl,rfl,_,QiX d E 0 5,?_⟩
 rotate_left
 have hp:J2 d (L.get k)=true:=by unfold J2;rw[show Q1 (L.get k).cell 0 (i64.wrap ((d.ps.n:Int)-1))=true by simpa using b1,show Q1 (L.get k).lay.piece 0 (i64.wrap ((d.ps.n:Int)-1))=true by simpa using b2,show Q1 (L.get k).lay.turn 0 (i64.wrap (tnV d (L.get k).lay.piece-1))=true by simpa using b3];rfl
 have hd:QBe L.get k=false:=b4;have hb:JE d L.get k=false:=by unfold JE;rw[hp,hd];rfl
 refine⟨k+1,h,by show L.n-(k+1)<L.n-k;omega,λe J h=>by unfold vm at h ⊢;rw[hf.2 hb];exact h,rfl,rfl,_,QXE d E L k (k+1),?_⟩
 rotate_left
 have h:L.n<=k:=by have:=qdf b0;omega
 refine⟨_,(by unfold vm;rw[show L.n-k=0 by omega];exact⟨rfl,rfl⟩),rfl,rfl,_,QkF d E L,?_⟩
 rotate_left
 all_goals first|((with_reducible show _=true);(first|rfl|(refine KG.2 ?_;repeat' first|with_reducible refine QM ?_ ?_|exact tv|with_reducible exact qRr|exact rfl|(show k<=L.n;omega)|refine aI ?_ ?_)|(simp;done)|(simp;omega)))|(repeat' first|exact tv|with_reducible refine QM ?_ ?_|exact qlr _|with_reducible exact qRr|exact Vo h hn|exact rfl|refine aI ?_ ?_)
def Zm:Rw Pt:=⟨k+1,get⟩
def VB(get:Nat->Pt)(k:Nat):Bool := !hsV d E (Qj (Zm get k))
open Classical in
def zA(P:Program)(d:Puz)(E:ECt)(L:Rc Pt)(k:Nat):Env:=mkE P (QJV (if k<1000 then QK else λ_=>false) d E (.lit L.c) (Zm L.get k) (hsV d E (Qj (Zm L.get k))))
theorem QVl{d:Puz}{E:ECt}(hd:Kb d)(hE:WfE E)(L:Rc Pt)(k:Nat):(zA prog d E L k).Sound:=by
 unfold zA
 by_cases h:k<1000
 .rw[if_pos h];exact QP (Qm.add (QJW (.lit L.c) hd hE (show k+1<=1000 by omega)))
 .rw[if_neg h];exact QP (Qm.add (Jx (by kernel_rfl) _))
def Gc(L:Rc Pt)(k:Nat)(e:Ex)(J:JSt):Prop:=match QR (VB d E L.get) (L.n-k) k with
 | some i=>e = .ret/\J=YP i 0
 | none=>e = .exit 4/\J=QEj L
theorem Qka(L:Rc Pt)(hn:L.n<=1000)(hc:L.n<=L.c):K6 (QCY d E L) (λk=>k<=L.n) (λk=>L.n-k) (Gc d E L) 112 QR1 [200,201] (zA prog d E L) (λk=>hnd (zA prog d E L k) 0) (QI f19 1):=by
 refine⟨λk g0 hk=>?_⟩;have hk:k<=L.n:=hk;unfold zA;have et:=QhH (if k<1000 then QK else λ_=>false) d E L (Zm L.get k) k (hsV d E (Qj (Zm L.get k))) g0
 refine Qh et ?_;clear et;refine QE (λb0=>?_) (λb0=>?_);have h:k<L.n:=by have:=qdt b0;omega
 have hf:=VC (p:=VB d E L.get) h;have hw:=Vo h hn;have hw2:(i64.wrap ((k:Int)+1)).toNat=k+1:=by rw[hw];exact Int.toNat_natCast _
 rw[if_pos (show k<1000 by omega)]
 iterate 2 (refine QG ?_ ?_;rotate_left)
 refine QE (λb1=>?_) (λb1=>?_);have hb:VB d E L.get k=true:=b1;refine⟨_,(by unfold Gc;rw[hf.1 hb];exact⟨rfl,rfl⟩),rfl,rfl,_,Qap d E k k 0,?_⟩
 rotate_left
 have hb:VB d E L.get k=false:=b1;refine⟨k+1,h,by show L.n-(k+1)<L.n-k;omega,λe J h=>by unfold Gc at h ⊢;rw[hf.2 hb];exact h,rfl,rfl,_,QZO d E L k (k+1),?_⟩
 rotate_left
 have h:L.n<=k:=by have:=qdf b0;omega
 refine⟨_,(by unfold Gc;rw[show L.n-k=0 by omega];exact⟨rfl,rfl⟩),rfl,rfl,_,QY0 d E L,?_⟩
 rotate_left
 all_goals first|((with_reducible show _=true);(first|(rw[hw];simp;omega)|(refine KG.2 ?_;repeat' first|with_reducible refine QM ?_ ?_|exact tv|with_reducible exact qRr|exact qRr|exact hw2|exact hw2.symm|exact Nat.le_of_eq hw2|exact Nat.le_of_eq hw2.symm|exact rfl|(show k+1<=L.n;omega)|refine aI ?_ ?_)))|(repeat' first|exact tv|with_reducible refine QM ?_ ?_|exact qlr _|with_reducible exact qRr|exact hw|exact rfl|refine aI ?_ ?_)
def JF(get:Nat->Pt)(n:Nat):Int:=match QR (VB d E get) n 0 with
 | some i=>i
 | none=>n
def Wf(get:Nat->Pt)(n:Nat):Int×Int:=match QR (JE d get) n 0 with
 | some i=>(0,Jq d get i)
 | none=>cond (hsV d E (Qj Ja)) (JF d E get n,0) (0,4)
def QX(n:Nat):Int×Int:=cond d.ok (cond (decide ((n:Int)>20)) (0,3) (Wf d (QH d) get n)) (0,1)
def Ji:WF (Puz×Rc Pt×Unit):=λ|(d,L,_)=>(decide (d.ps.n<=1000/\L.n<=1000/\L.n<=L.c),Xp (QX d L.get L.n).1 (QX d L.get L.n).2,[])
def QCm:FC:=wFC Ji
theorem QVc(L:Rc Pt):WOk (Ji (d,L,())).2.1 (Ji (d,L,())).2.2:=⟨rfl,by simp[Ji],rfl⟩
def zL(L:Rc Pt):List (Prop×Ex×JSt):=[((QR (JE d L.get) L.n 0).isSome=true,.ret,YP 0 (Jq d L.get ((QR (JE d L.get) L.n 0).getD 0))),(QR (JE d L.get) L.n 0=none,.exit 1,QEe d E L)]
def ze(L:Rc Pt):List (Prop×Ex×JSt):=[((QR (VB d E L.get) L.n 0).isSome=true,.ret,YP (((QR (VB d E L.get) L.n 0).getD 0:Nat):Int) 0),(QR (VB d E L.get) L.n 0=none,.exit 4,QEj L)]
theorem Qh5:JA (Qn f19)=[.loop (QI f19 0),.loop (QI f19 1)]:=by kernel_rfl
theorem QPB(L:Rc Pt)(pb:List Prop->Bool)(v:Bool)(hT:Qf (Zi pb d (QH d) v))(hn:L.n<=1000)(hc:L.n<=L.c)(G:Ctx)(hrd:G.rd=none)(hG:G.n=112):Q0 (mkE prog (Zi pb d (QH d) v)) G (QEL prog pb d (QH d) L v (zL d (QH d) L) (ze d (QH d) L)) (Qn f19):=by
 refine QOa (QP hT) hrd ?_;rw[Qh5];intro s hs;simp only[List.mem_cons,List.not_mem_nil,or_false]at hs;rcases hs with rfl|rfl
 .have e:QHn d (QH d) L (zL d (QH d) L) (ze d (QH d) L) (.loop (QI f19 0))=Ks (d.ok=true) (KF 112 [200,201] (QBW d (QH d) L 0) (zL d (QH d) L)):=by kernel_rfl
  rw[e];refine JJ λho=>?_;refine JG (E0:=mkE prog (Zi pb d (QH d) v)) (E:=zG prog d L) (H:=λk=>hnd (zG prog d L k) 2) (n0:=112) (s0:=0) (λ_=>rfl) (QLX d L) (by omega) (λk _=>Qz (QLX d L k) 2 G _ hrd) (λk _=>(by decide:112<=400)) ?_ (QXM d (QH d) L hn hc) (Nat.zero_le _) ?_
  .intro k e J h;unfold vm at h;split at h<;>(rw[h.2];exact(by decide:112<=400))
  .intro e J h;unfold vm at h;rw[Nat.sub_zero]at h;unfold zL;cases hf:QR (JE d L.get) L.n 0 with
   | some i=>rw[hf]at h;exact⟨_,qmc,rfl,h.1.symm,h.2.symm⟩
   | none=>rw[hf]at h;exact⟨_,List.mem_cons_of_mem _ qmc,rfl,h.1.symm,h.2.symm⟩
 .have e:QHn d (QH d) L (zL d (QH d) L) (ze d (QH d) L) (.loop (QI f19 1))=Ks (d.ok=true) (KF 112 [200,201] (QCY d (QH d) L 0) (ze d (QH d) L)):=by kernel_rfl
  rw[e];refine JJ λho=>?_;have hd:=(JW (JU ho)).1;have hE:=(qH d hd.n).w;refine JG (E0:=mkE prog (Zi pb d (QH d) v)) (E:=zA prog d (QH d) L) (H:=λk=>hnd (zA prog d (QH d) L k) 0) (n0:=112) (s0:=0) (λ_=>rfl) (QVl hd hE L) (by omega) (λk _=>Qz (QVl hd hE L k) 0 G _ hrd) (λk _=>(by decide:112<=400)) ?_ (Qka d (QH d) L hn hc) (Nat.zero_le _) ?_
  .intro k e J h;unfold Gc at h;split at h<;>(rw[h.2];exact(by decide:112<=400))
  .intro e J h;unfold Gc at h;rw[Nat.sub_zero]at h;unfold ze;cases hf:QR (VB d (QH d) L.get) L.n 0 with
   | some i=>rw[hf]at h;exact⟨_,qmc,rfl,h.1.symm,h.2.symm⟩
   | none=>rw[hf]at h;exact⟨_,List.mem_cons_of_mem _ qmc,rfl,h.1.symm,h.2.symm⟩
theorem QaV(L:Rc Pt)(hx:(Ji (d,L,())).1=true)(ho:d.ok=false):QS prog 19 (wFC (Vl Ji (d,L,()))):=by
 obtain⟨hn,hl,hc⟩:=qdt hx;have hT:Qf (Zi (λ_=>false) d (QH d) false):=(Qm.add (Jx (by kernel_rfl) _)).add (Jx (by kernel_rfl) _)
 refine ZX (c:=Qn f19) (E:=mkE prog (Zi (λ_=>false) d (QH d) false)) (H:=QEL prog (λ_=>false) d (QH d) L false (zL d (QH d) L) (ze d (QH d) L)) (QP hT) func19 (by kernel_rfl) (by kernel_rfl) (N:=112) (by decide) (d,L,()) (λG h1 h2=>QPB d L _ _ hT hl hc G h1 h2) (QVc d L) ?_
 have hv:QX d L.get L.n=(0,1):=by simp only[QX,ho,cond_false]
 refine Qh (QN6 (λ_=>false) d (QH d) L false _ _ _ _ _ _) ?_;refine QG (by simp;omega) (QE (λ_=>?_) (λh=>by rw[ho]at h;cases h))
 simp only[Ji,hv];refine⟨rfl,rfl,_,Qgu 0 1,?_⟩
 repeat' first|with_reducible refine QM ?_ ?_|exact tv|with_reducible exact qRr|exact rfl|refine aI ?_ ?_
theorem QWm(L:Rc Pt)(hx:(Ji (d,L,())).1=true)(ho:d.ok=true):QS prog 19 (wFC (Vl Ji (d,L,()))):=by
 obtain⟨hn,hl,hc⟩:=qdt hx;have hd:=(JW (JU ho)).1;have hE:=(qH d hd.n).w;have hT:Qf (Zi QK d (QH d) (hsV d (QH d) (Qj Ja))):=(Qm.add (qC d (by omega))).add (QJW (.of 0) hd hE (show(0:Nat)<=1000 by decide))
 refine ZX (c:=Qn f19) (E:=mkE prog (Zi QK d (QH d) (hsV d (QH d) (Qj Ja)))) (H:=QEL prog QK d (QH d) L (hsV d (QH d) (Qj Ja)) (zL d (QH d) L) (ze d (QH d) L)) (QP hT) func19 (by kernel_rfl) (by kernel_rfl) (N:=112) (by decide) (d,L,()) (λG h1 h2=>QPB d L _ _ hT hl hc G h1 h2) (QVc d L) ?_
 have hv:QX d L.get L.n=cond (decide ((L.n:Int)>20)) (0,3) (match QR (JE d L.get) L.n 0 with
   | some i=>(0,Jq d L.get i)
   | none=>cond (hsV d (QH d) (Qj Ja)) (JF d (QH d) L.get L.n,0) (0,4)):=by simp only[QX,ho,cond_true];rfl
 have et:=QN6 QK d (QH d) L (hsV d (QH d) (Qj Ja)) ((QR (JE d L.get) L.n 0).isSome=true) (QR (JE d L.get) L.n 0=none) ((QR (VB d (QH d) L.get) L.n 0).isSome=true) (QR (VB d (QH d) L.get) L.n 0=none) (Jq d L.get ((QR (JE d L.get) L.n 0).getD 0)) (((QR (VB d (QH d) L.get) L.n 0).getD 0:Nat):Int);refine Qh et ?_;clear et;refine QG ?_ ?_;rotate_left;refine QE ?_ ?_<;>intro b0
 .rw[ho]at b0;cases b0
 refine QG ?_ ?_;rotate_left;refine QE (λb1=>?_) (λb1=>?_);rw[show decide ((L.n:Int)>20)=true from b1,cond_true]at hv;simp only[Ji,hv];refine⟨rfl,rfl,_,Qcl 0 3,?_⟩
 rotate_left
 iterate 43 refine Qt (by first|exact tv|exact ho|with_reducible exact qRr|exact rfl) ?_
 refine Kq ?_ ?_;refine Qk λa0=>?_;refine Ql λg0=>?_
 .rw[show decide ((L.n:Int)>20)=false from b1,cond_false]at hv;cases hf:QR (JE d L.get) L.n 0 with
  | none=>rw[hf]at a0;cases a0
  | some i=>
  rw[hf]at hv;simp only[Ji,hv];refine⟨rfl,rfl,_,Qev (Jq d L.get i) 0 (Jq d L.get i),?_⟩
  repeat' first|with_reducible refine QM ?_ ?_|exact tv|with_reducible exact qRr|exact rfl|refine aI ?_ ?_
 refine Qk λa1=>?_;refine Ql λg1=>?_;refine QG ?_ ?_;rotate_left;refine QE (λb2=>?_) (λb2=>?_);rw[show decide ((L.n:Int)>20)=false from b1,cond_false,a1]at hv;simp only[show hsV d (QH d) (Qj Ja)=false by simpa using b2,cond_false]at hv
 simp only[Ji,hv];refine⟨rfl,rfl,_,QYr 0 4,?_⟩
 rotate_left
 iterate 30 refine Qt (by first|exact tv|exact ho|with_reducible exact qRr|exact rfl) ?_
 refine Kq ?_ ?_;refine Qk λa2=>?_;refine Ql λg2=>?_
 .rw[show decide ((L.n:Int)>20)=false from b1,cond_false,a1]at hv;simp only[show hsV d (QH d) (Qj Ja)=true by simpa using b2,cond_true]at hv
  cases hf:QR (VB d (QH d) L.get) L.n 0 with
  | none=>rw[hf]at a2;cases a2
  | some i=>
  rw[show JF d (QH d) L.get L.n=i by unfold JF;rw[hf]]at hv
  simp only[Ji,hv];refine⟨rfl,rfl,_,QYN i i 0,?_⟩
  repeat' first|with_reducible refine QM ?_ ?_|exact tv|with_reducible exact qRr|exact rfl|refine aI ?_ ?_
 refine Qk λa3=>?_;refine Ql λg3=>?_;rw[show decide ((L.n:Int)>20)=false from b1,cond_false,a1]at hv;simp only[show hsV d (QH d) (Qj Ja)=true by simpa using b2,cond_true]at hv
 rw[show JF d (QH d) L.get L.n=L.n by unfold JF;rw[a3]]at hv
 simp only[Ji,hv];refine⟨rfl,rfl,_,QiB L L.n 0,?_⟩
 rotate_left
 all_goals first|((with_reducible show _=true);(first|(simp;done)|(refine KG.2 ?_;repeat' first|with_reducible refine QM ?_ ?_|exact tv|with_reducible exact qRr|exact rfl|refine aI ?_ ?_)|(simp;omega)))|(repeat' first|with_reducible refine QM ?_ ?_|exact tv|with_reducible exact qRr|exact rfl|refine aI ?_ ?_)
theorem QW3(L:Rc Pt)(hx:(Ji (d,L,())).1=true):QS prog 19 (wFC (Vl Ji (d,L,()))):=by
 cases ho:d.ok with
 | false=>exact QaV d L hx ho
 | true=>exact QWm d L hx ho
theorem QA4:QS prog 19 QCm:=QCx (by kernel_rfl) λ|(d,L,()),hx=>QW3 d L hx
