/- - -/
import Derived.Test.YtekbmehgcofnkaaGreatMzx
open Go.Proofs.Tryz
set_option maxRecDepth 100000
namespace Go.Proofs.YtekbmehgcofnkaaGreat
open Go.SX Go.SX.Told
abbrev QQs(d:Puz):St->(Ex->St->QC)->QC:=JP (d.ok=true) (KH 8 [] (QBr d (KD d).1 (KC d).2.1 (QH d).1 (QH d).2.1 (QH d).2.2.1 (QH d).2.2.2 (0:Nat)) [(True,.exit 0,QJd d (KD d).1 (KC d).2.1 (QH d).1 (QH d).2.1 (QH d).2.2.1 (QH d).2.2.2)])
abbrev QQ3(d:Puz):St->(Ex->St->QC)->QC:=JP (d.ok=true/\(QH d).2.2.2=0) (KH 8 [] (Ht (KD d).1 (KC d).2.1 (mxV d (QH d).1) (mxV d (QH d).1++mxV d (QH d).2.1) (QH d).2.2.1 (0:Nat)) [(True,.exit 2,QGv (KD d).1 (KC d).2.1 (mxV d (QH d).1) (QH d).2.2.1)])
abbrev flL(d:Puz):Code->St->(Ex->St->QC)->QC:=QKt [(10,QQs d),(19,QQ3 d)]
structure FlF (d:Puz):Prop where
 hd:KB d
 h9:d.ps.n<=9
 ej:KC d=(Ks d 2,Ks d 1,0)
 ef:KD d=(Jo d,0)
 es:QH d=cond (Ko d (QK d)).isEmpty ([],[],0,4) ((Ko d (QK d)).getD 0 [],(Ko d (QK d)).getD 1 [],((min (Ko d (QK d)).length 100:Nat):Int),0)
variable {d:Puz}{x:List Lay}
theorem QGy(ho:d.ok=true):FlF d:=⟨(WQ (Zl ho)).1,(WQ (Zl ho)).2.2,by unfold KC;rw[ho];rfl,Qep ho,Qbn ho⟩
def QAI(d:Puz)(x:List Lay):Prop:=x=[]∨x∈Ko d (QK d)
theorem FlF.sols(h:FlF d):QAI d (QH d).1/\QAI d (QH d).2.1:=by
 rw[h.es];cases hs:Ko d (QK d)with
 | nil=>exact⟨.inl rfl,.inl rfl⟩
 | cons a L=>
  refine⟨.inr (by rw[hs];exact qmc),?_⟩
  cases L with
  | nil=>exact .inl rfl
  | cons b L=>exact .inr (by rw[hs];exact List.mem_cons_of_mem _ qmc)
theorem vB(h:QAI d x):x.length<=d.ps.n:=by
 rcases h with rfl|h
 .exact Nat.zero_le _
 .exact Nat.le_of_eq (QEH.1 h).len
theorem QR4(hf:FlF d)(h:QAI d x):vz d ⟨x.length,λi=>x.getD i ⟨0,0⟩⟩=true:=by
 have hl:=vB h;have h9:=hf.h9;have hw:=hf.hd.w1;have hwn:=hf.hd.wn;refine QPm.2 ⟨by show x.length<=1000;omega,by omega,λi hi=>?_⟩
 have hi:i<x.length:=hi;show 0<=(x.getD i ⟨0,0⟩).turn/\(x.getD i ⟨0,0⟩).turn<=3;rw[JL hi];rcases h with rfl|h
 .cases hi
 .exact((QEH.1 h).lay hi).t
theorem QPI(hf:FlF d)(h:QAI d x){j:Jn}(hj:j∈mxV d x):inJ (Jo d) j=false/\inJ (Ks d 1) j=true:=by
 have hl:=vB h;have h9:=hf.h9;rw[QTE hf.hd (by omega)]at hj
 rcases h with rfl|h
 .cases hj
 .exact⟨QiB h hj,vc.2 (QK5 hf.hd (QEH.1 h) hj)⟩
theorem QWo(d:Puz)(G:Ctx)(hrd:G.rd=none)(hG:G.n=8):Qx (mkS prog VV) G { hnd (mkS prog VV) 4 with loop:=flL d } (Ql f12):=by
 refine QOk (zR Gh) hrd λc hc=>?_;have e:Kz (Ql f12)=[.loop (QI f12 0),.loop (QI f12 1)]:=by kernel_rfl
 rw[e]at hc;simp only[List.mem_cons,List.not_mem_nil,or_false]at hc;rcases hc with rfl|rfl
 .have e1:flL d (.loop (QI f12 0))=QQs d:=by kernel_rfl
  show J8 _ G _ (flL d (.loop (QI f12 0)));rw[e1];refine Jj λho=>?_;have hf:=QGy ho;have h9:=hf.h9;have hM:=QE0 d 1;have hB:=QF8 d;have hb:d.ps.n*(4*(d.ps.n*(4*1)))<=9*(4*(9*(4*1))):=Nat.mul_le_mul h9 (Nat.mul_le_mul (qlr _) (Nat.mul_le_mul h9 (qlr _)));rw[hf.ej,hf.ef];refine Jq (I:=λi=>QBr d (Jo d) (Ks d 1) (QH d).1 (QH d).2.1 (QH d).2.2.1 (QH d).2.2.2 i) (n0:=8) (λ_=>rfl) (λ_=>K3 Gh) (by omega) (λi _=>Qw (K3 Gh) 1 G _ hrd) (λi _=>(by decide:8<=496)) ?_ (QcC (by omega) (by omega) (λi h=>vc.2 (Qb0 (List.getElem_mem h))) (λi h=>QVV d h)) (s0:=0) (Nat.zero_le _) ?_
  .rintro s e J ⟨_,rfl⟩;exact(by decide:8<=496)
  .rintro e J ⟨rfl,rfl⟩;exact⟨_,qmc,trivial,rfl,rfl⟩
 .have e1:flL d (.loop (QI f12 1))=QQ3 d:=by kernel_rfl
  show J8 _ G _ (flL d (.loop (QI f12 1)));rw[e1];refine Jj λhq=>?_;have hf:=QGy hq.1;have h9:=hf.h9;have hM:=QE0 d 1;have hB:=QF8 d;have hb:d.ps.n*(4*(d.ps.n*(4*1)))<=9*(4*(9*(4*1))):=Nat.mul_le_mul h9 (Nat.mul_le_mul (qlr _) (Nat.mul_le_mul h9 (qlr _)));obtain⟨hx,hy⟩:=hf.sols;have lx:=vB hx;have ly:=vB hy;have mx:(mxV d (QH d).1).length<=2*(QH d).1.length:=vm d _ _;have my:(mxV d (QH d).2.1).length<=2*(QH d).2.1.length:=vm d _ _;rw[hf.ej,hf.ef]
  refine Jq (I:=λi=>Ht (Jo d) (Ks d 1) (mxV d (QH d).1) (mxV d (QH d).1++mxV d (QH d).2.1) (QH d).2.2.1 i) (n0:=8) (λ_=>rfl) (λ_=>K3 Gh) (by omega) (λi _=>Qw (K3 Gh) 1 G _ hrd) (λi _=>(by decide:8<=616)) ?_ (QVM (by omega) (by omega) (by rw[List.length_append];omega) (λj hj=>(List.mem_append.1 hj).elim (QPI hf hx) (QPI hf hy))) (s0:=0) (Nat.zero_le _) ?_
  .rintro s e J ⟨_,rfl⟩;exact(by decide:8<=616)
  .rintro e J ⟨rfl,rfl⟩;exact⟨_,qmc,trivial,rfl,rfl⟩
theorem Qcp(hf:FlF d)(h0:(QH d).2.2.2=0):(decide ((QH d).2.2.1>1)||IntKind.i64.wrap (((KD d).1.length:Int)+((mxV d (QH d).1).length:Int))==((KC d).2.1.length:Int))=true:=by
 have h9:=hf.h9;have hM:=QE0 d 1;have hb:d.ps.n*(4*(d.ps.n*(4*1)))<=9*(4*(9*(4*1))):=Nat.mul_le_mul h9 (Nat.mul_le_mul (qlr _) (Nat.mul_le_mul h9 (qlr _)));have hx:=hf.sols.1;have lx:=vB hx;have es:=hf.es;rw[hf.ef,hf.ej,QTE hf.hd (by omega)]
 show(decide ((QH d).2.2.1>1)||IntKind.i64.wrap (((Jo d).length:Int)+((VK d (QH d).1).length:Int))==((Ks d 1).length:Int))=true
 cases hs:Ko d (QK d)with
 | nil=>rw[hs]at es;rw[es]at h0;cases h0
 | cons a L=>
  rw[hs]at es;cases L with
  | nil=>
   have h1:=QVz hf.hd hs;have e1:(QH d).1=a:=by rw[es];rfl
   rw[e1,w64 (by omega) (by omega),qbO,beq_iff_eq]
   exact .inr (by omega)
  | cons b L=>
   have e1:(QH d).2.2.1=((min (a::b::L).length 100:Nat):Int):=by rw[es];rfl
   rw[e1,qde (by simp only[List.length_cons];omega)];rfl
theorem QWU(hf:FlF d)(h:((QH d).2.2.2 != 0)=true):(XD ⟨(KD d).1.length,λi=>(KD d).1.getD i ⟨0,0,0,0⟩⟩ ⟨(KC d).2.1.length,λi=>(KC d).2.1.getD i ⟨0,0,0,0⟩⟩||false)=true:=by
 have es:=hf.es
 have hs:Ko d (QK d)=[]:=by
  cases hs:Ko d (QK d)with
  | nil=>rfl
  | cons a L=>rw[hs]at es;rw[es]at h;cases h
 rw[hf.ef,hf.ej,QXG hs];show(XD _ _||false)=true
 rw[QVI];rfl
def QFT:WF (Puz×Unit):=λ|(d,_)=>(true,.bool false true,[])
noncomputable abbrev waI(d:Puz):List Prop:=[(KC d).2.1.length<=(KC d).2.1.length,QB 4 (KC d).2.1.length (λi=>QA.enc ((KC d).2.1.getD i (Jn.mk (0:Int) (0:Int) (0:Int) (0:Int)))) λi=>QA.enc ((KC d).2.1.getD i (Jn.mk (0:Int) (0:Int) (0:Int) (0:Int))),(KD d).1.length<=(KD d).1.length,QB 4 (KD d).1.length (λi=>QA.enc ((KD d).1.getD i (Jn.mk (0:Int) (0:Int) (0:Int) (0:Int)))) λi=>QA.enc ((KD d).1.getD i (Jn.mk (0:Int) (0:Int) (0:Int) (0:Int)))]
theorem QVw(d:Puz):Kn (mkS prog VV) { hnd (mkS prog VV) 4 with loop:=flL d } f12 (Qe.vals 0 ((d,()):Puz×Unit)) (Qe.blks 0 ((d,()):Puz×Unit)) 8 = .need (decide (d.ps.n<=d.ps.n)&&(true&&true)&&true) (.need (!!VI d (9:Int)||decide (d.ps.n<=d.ps.n)&&true&&decide (d.ps.n<=1000)&&!VI d (9:Int)) (.need (!!VI d (9:Int)||!VI d (9:Int)) (.need (VI d (9:Int)||!VI d (9:Int)) (.bnd (VI d (9:Int)||!d.ok) (λ(x0:Bool)=>.br (x0) (.leaf (.bool true true) ([])) (.need (decide (d.ps.n<=d.ps.n)&&true&&decide (d.ps.n<=1000)) (.need (decide (d.ps.n<=d.ps.n)&&true&&decide (d.ps.n<=1000)) (.need (decide (d.ps.n<=d.ps.n)&&true&&decide (d.ps.n<=1000)) (.need (!!(KC d).2.2 != 0||!(KC d).2.2 != 0) (.need ((KC d).2.2 != 0||!(KC d).2.2 != 0) (.bnd ((KC d).2.2 != 0||(KD d).2 != 0) (λ(x1:Bool)=>.need (!!x1||!x1) (.need (!!x1||!x1) (.need (!(!x1&&(QH d).2.2.2 != 0)||!x1&&(QH d).2.2.2 != 0) (.need (!!x1||!x1&&(!(QH d).2.2.2 != 0||!x1&&(QH d).2.2.2 != 0)) (.bnd ((QH d).2.2.2 != 0&&(QH d).2.2.2 != 4) (λ(x2:Bool)=>.need (x1||!x1) (.bnd (x1||x2) (λ(x3:Bool)=>.need (!!x3||!x3) (.need (!!x3||!x3) (.need (!!x3||!x3&&!x3) (.need (x3||!x3) (.bnd (x3||decide ((↑(KD d).1.length:Int)>(↑(KC d).2.1.length:Int))) (λ(x4:Bool)=>.br (x4) (.leaf (.bool true false) ([])) (.ak ([d.ok=true,0=0,0=0,0=0,(KC d).2.1.length=(KC d).2.1.length,cO=cO,0=0,(KD d).1.length=(KD d).1.length,cO=cO,0=0,(QH d).1.length=(QH d).1.length,cO=cO,0=0,(QH d).2.1.length=(QH d).2.1.length,cO=cO,(QH d).2.2.1=(QH d).2.2.1,(QH d).2.2.2=(QH d).2.2.2,Fn.func 48=Fn.func (48:FuncId),0=0,(KD d).1.length=(KD d).1.length,cO=cO,(↑(KD d).1.length:Int)=(↑(KD d).1.length:Int),(0:Int)=0]++wab d++(([cO=cO]++waI d++[(QH d).1.length<=(QH d).1.length,QB 2 (QH d).1.length (λi=>QA.enc ((QH d).1.getD i (Lay.mk (0:Int) (0:Int)))) λi=>QA.enc ((QH d).1.getD i (Lay.mk (0:Int) (0:Int))),(QH d).2.1.length<=(QH d).2.1.length,QB 2 (QH d).2.1.length (λi=>QA.enc ((QH d).2.1.getD i (Lay.mk (0:Int) (0:Int)))) λi=>QA.enc ((QH d).2.1.getD i (Lay.mk (0:Int) (0:Int)))])++wae d)) (.asm (True) (.all (λ(g5:Nat->Value)=>.br ((QH d).2.2.2 != 0) (.need (decide ((KD d).1.length<=(KD d).1.length)&&(decide ((KC d).2.1.length<=(KC d).2.1.length)&&true)&&decide ((KD d).1.length<=1000000/\(KC d).2.1.length<=1000000)) (.need (!XD (Rw.mk (KD d).1.length λi=>(KD d).1.getD i (Jn.mk (0:Int) (0:Int) (0:Int) (0:Int))) (Rw.mk (KC d).2.1.length λi=>(KC d).2.1.getD i (Jn.mk (0:Int) (0:Int) (0:Int) (0:Int)))||XD (Rw.mk (KD d).1.length λi=>(KD d).1.getD i (Jn.mk (0:Int) (0:Int) (0:Int) (0:Int))) (Rw.mk (KC d).2.1.length λi=>(KC d).2.1.getD i (Jn.mk (0:Int) (0:Int) (0:Int) (0:Int)))) (.bnd (XD (Rw.mk (KD d).1.length λi=>(KD d).1.getD i (Jn.mk (0:Int) (0:Int) (0:Int) (0:Int))) (Rw.mk (KC d).2.1.length λi=>(KC d).2.1.getD i (Jn.mk (0:Int) (0:Int) (0:Int) (0:Int)))||false) (λ(x6:Bool)=>.leaf (.bool false x6) ([]))))) (.need (decide (d.ps.n<=d.ps.n)&&(decide ((QH d).1.length<=(QH d).1.length)&&true)&&vz d (Rw.mk (QH d).1.length λi=>(QH d).1.getD i (Lay.mk (0:Int) (0:Int)))) (.need (true&&(decide ((mxF d (Rw.mk (QH d).1.length λi=>(QH d).1.getD i (Lay.mk (0:Int) (0:Int))) (QH d).1.length).length<=(mxF d (Rw.mk (QH d).1.length λi=>(QH d).1.getD i (Lay.mk (0:Int) (0:Int))) (QH d).1.length).length)&&decide ((0+(mxF d (Rw.mk (QH d).1.length λi=>(QH d).1.getD i (Lay.mk (0:Int) (0:Int))) (QH d).1.length).length+(0+(mxF d (Rw.mk (QH d).1.length λi=>(QH d).1.getD i (Lay.mk (0:Int) (0:Int))) (QH d).1.length).length) / 4+192)*32<=281474976710656/\0+(mxF d (Rw.mk (QH d).1.length λi=>(QH d).1.getD i (Lay.mk (0:Int) (0:Int))) (QH d).1.length).length<=9223372036854775807))) (.need (decide (d.ps.n<=d.ps.n)&&(decide ((QH d).2.1.length<=(QH d).2.1.length)&&true)&&vz d (Rw.mk (QH d).2.1.length λi=>(QH d).2.1.getD i (Lay.mk (0:Int) (0:Int)))) (.need (decide (0+(mxF d (Rw.mk (QH d).1.length λi=>(QH d).1.getD i (Lay.mk (0:Int) (0:Int))) (QH d).1.length).length<=0+(mxF d (Rw.mk (QH d).1.length λi=>(QH d).1.getD i (Lay.mk (0:Int) (0:Int))) (QH d).1.length).length)&&(decide ((mxF d (Rw.mk (QH d).2.1.length λi=>(QH d).2.1.getD i (Lay.mk (0:Int) (0:Int))) (QH d).2.1.length).length<=(mxF d (Rw.mk (QH d).2.1.length λi=>(QH d).2.1.getD i (Lay.mk (0:Int) (0:Int))) (QH d).2.1.length).length)&&decide ((0+(mxF d (Rw.mk (QH d).1.length λi=>(QH d).1.getD i (Lay.mk (0:Int) (0:Int))) (QH d).1.length).length+(mxF d (Rw.mk (QH d).2.1.length λi=>(QH d).2.1.getD i (Lay.mk (0:Int) (0:Int))) (QH d).2.1.length).length+(0+(mxF d (Rw.mk (QH d).1.length λi=>(QH d).1.getD i (Lay.mk (0:Int) (0:Int))) (QH d).1.length).length+(mxF d (Rw.mk (QH d).2.1.length λi=>(QH d).2.1.getD i (Lay.mk (0:Int) (0:Int))) (QH d).2.1.length).length) / 4+192)*32<=281474976710656/\0+(mxF d (Rw.mk (QH d).1.length λi=>(QH d).1.getD i (Lay.mk (0:Int) (0:Int))) (QH d).1.length).length+(mxF d (Rw.mk (QH d).2.1.length λi=>(QH d).2.1.getD i (Lay.mk (0:Int) (0:Int))) (QH d).2.1.length).length<=9223372036854775807))) (.ak ([d.ok=true/\(QH d).2.2.2=0,0=0,(KC d).2.1.length=(KC d).2.1.length,cO=cO,0=0,(KD d).1.length=(KD d).1.length,cO=cO,(QH d).2.2.1=(QH d).2.2.1,0=0,(mxF d (Rw.mk (QH d).1.length λi=>(QH d).1.getD i (Lay.mk (0:Int) (0:Int))) (QH d).1.length).length=(mxV d (QH d).1).length,cO=cO,Fn.func (48:FuncId)=Fn.func (48:FuncId),0=0,0+(mxF d (Rw.mk (QH d).1.length λi=>(QH d).1.getD i (Lay.mk (0:Int) (0:Int))) (QH d).1.length).length+(mxF d (Rw.mk (QH d).2.1.length λi=>(QH d).2.1.getD i (Lay.mk (0:Int) (0:Int))) (QH d).2.1.length).length=(mxV d (QH d).1++mxV d (QH d).2.1).length,cO=cO,(↑(0+(mxF d (Rw.mk (QH d).1.length λi=>(QH d).1.getD i (Lay.mk (0:Int) (0:Int))) (QH d).1.length).length+(mxF d (Rw.mk (QH d).2.1.length λi=>(QH d).2.1.getD i (Lay.mk (0:Int) (0:Int))) (QH d).2.1.length).length):Int)=(↑(mxV d (QH d).1++mxV d (QH d).2.1).length:Int),(0:Int)=0]++waI d++[(mxV d (QH d).1++mxV d (QH d).2.1).length<=0+(mxF d (Rw.mk (QH d).1.length λi=>(QH d).1.getD i (Lay.mk (0:Int) (0:Int))) (QH d).1.length).length+(mxF d (Rw.mk (QH d).2.1.length λi=>(QH d).2.1.getD i (Lay.mk (0:Int) (0:Int))) (QH d).2.1.length).length,QB 4 (mxV d (QH d).1++mxV d (QH d).2.1).length (Q9 (0+(mxF d (Rw.mk (QH d).1.length λi=>(QH d).1.getD i (Lay.mk (0:Int) (0:Int))) (QH d).1.length).length) (Q9 0 (λx x_1=>(0:Int)) λi=>QA.enc ((mxF d (Rw.mk (QH d).1.length λi=>(QH d).1.getD i (Lay.mk (0:Int) (0:Int))) (QH d).1.length).getD i (Jn.mk (0:Int) (0:Int) (0:Int) (0:Int)))) λi=>QA.enc ((mxF d (Rw.mk (QH d).2.1.length λi=>(QH d).2.1.getD i (Lay.mk (0:Int) (0:Int))) (QH d).2.1.length).getD i (Jn.mk (0:Int) (0:Int) (0:Int) (0:Int)))) λi=>QA.enc ((mxV d (QH d).1++mxV d (QH d).2.1).getD i (Jn.mk (0:Int) (0:Int) (0:Int) (0:Int)))]) (.asm (True) (.all (λ(g7:Nat->Value)=>.need (!!decide ((QH d).2.2.1>1)||!decide ((QH d).2.2.1>1)) (.need (!!decide ((QH d).2.2.1>1)||!decide ((QH d).2.2.1>1)) (.need (!!decide ((QH d).2.2.1>1)||!decide ((QH d).2.2.1>1)&&!decide ((QH d).2.2.1>1)) (.need (!!decide ((QH d).2.2.1>1)||!decide ((QH d).2.2.1>1)) (.need (!!decide ((QH d).2.2.1>1)||!decide ((QH d).2.2.1>1)&&!decide ((QH d).2.2.1>1)) (.need (decide ((QH d).2.2.1>1)||!decide ((QH d).2.2.1>1)) (.bnd (decide ((QH d).2.2.1>1)||IntKind.i64.wrap ((↑(KD d).1.length:Int)+(↑(mxV d (QH d).1).length:Int))==(↑(KC d).2.1.length:Int)) (λ(x8:Bool)=>.need (!x8||x8) (.bnd (x8||false) (λ(x9:Bool)=>.leaf (.bool false x9) ([])))))))))))))))))))))))))))))))))))))))))))))):=by kernel_rfl
theorem QUM:JQ (mkS prog VV) (Ql f12) 8 QFT (λx_=>{ hnd (mkS prog VV) 4 with loop:=flL x_.1 }):=by
 refine⟨?_⟩;rintro⟨d,⟨⟩⟩ hp G h1 h2;exact QWo d G h1 h2
theorem Qhr:JR (mkS prog VV) f12 8 QFT (λx_=>{ hnd (mkS prog VV) 4 with loop:=flL x_.1 }):=by
 refine⟨?_⟩;rintro⟨d,⟨⟩⟩ hp;refine⟨⟨rfl,by simp[QFT],rfl⟩,⟨?_⟩⟩
 rw[QVw d];simp only[QFT]at hp
 have hn2:(!!VI d 9||decide (d.ps.n<=d.ps.n)&&true&&decide (d.ps.n<=1000) && !VI d 9)=true:=by
  cases hg:VI d 9 with
  | true=>rfl
  | false=>
   have:¬ ((d.ps.n:Int)>14):=λh=>by rw[VI,qde h]at hg;cases hg
   rw[qde (qlr _),qde (by omega)];rfl
 iterate 4 (refine QG ?_ ?_;rotate_left)
 refine ZB λz0 y0=>?_;obtain rfl:z0=(VI d 9 || !d.ok):=y0.trans (rfl)
 refine QF ?_ ?_<;>intro b0
 .exact Kd rfl rfl
 have hg:VI d 9=false/\d.ok=true:=by simpa using b0
 have ho:=hg.2;have hf:=QGy ho;have h9:=hf.h9;have hn:d.ps.n<=1000:=by omega
 have hM:=QE0 d 1;have hB:=QF8 d;have hb:d.ps.n*(4*(d.ps.n*(4*1)))<=9*(4*(9*(4*1))):=Nat.mul_le_mul h9 (Nat.mul_le_mul (qlr _) (Nat.mul_le_mul h9 (qlr _)));have k1:(KD d).1.length<=1000000/\(KC d).2.1.length<=1000000:=by rw[hf.ef,hf.ej];exact⟨by show(Jo d).length<=_;omega,by show(Ks d 1).length<=_;omega⟩
 have hs4:(QH d).2.2.2=0∨(QH d).2.2.2=4:=by
  rw[hf.es];cases (Ko d (QK d)).isEmpty
  .exact .inl rfl
  .exact .inr rfl
 obtain⟨hx,hy⟩:=hf.sols;have lx:=vB hx;have ly:=vB hy;have ox:=QR4 hf hx;have oy:=QR4 hf hy;have mx:(mxF d ⟨(QH d).1.length,λi=>(QH d).1.getD i ⟨0,0⟩⟩ (QH d).1.length).length<=2*(QH d).1.length:=vm d _ _;have my:(mxF d ⟨(QH d).2.1.length,λi=>(QH d).2.1.getD i ⟨0,0⟩⟩ (QH d).2.1.length).length<=2*(QH d).2.1.length:=vm d _ _;have la:0+(mxF d ⟨(QH d).1.length,λi=>(QH d).1.getD i ⟨0,0⟩⟩ (QH d).1.length).length+(mxF d ⟨(QH d).2.1.length,λi=>(QH d).2.1.getD i ⟨0,0⟩⟩ (QH d).2.1.length).length=(mxV d (QH d).1++mxV d (QH d).2.1).length:=by rw[List.length_append,Nat.zero_add];rfl
 have e5:¬ (((KD d).1.length:Int)>((KC d).2.1.length:Int)):=by rw[hf.ef,hf.ej];show ¬ (((Jo d).length:Int)>((Ks d 1).length:Int));omega
 iterate 5 (refine QG ?_ ?_;rotate_left)
 refine ZB λz1 y1=>?_;obtain rfl:z1=false:=y1.trans (by rw[hf.ej,hf.ef];rfl)
 iterate 4 (refine QG ?_ ?_;rotate_left)
 refine ZB λz2 y2=>?_;obtain rfl:z2=false:=y2.trans (by rcases hs4 with h|h<;>rw[h]<;>rfl)
 refine QG ?_ ?_;rotate_left;refine ZB λz3 y3=>?_;obtain rfl:z3=false:=y3.trans (rfl)
 iterate 4 (refine QG ?_ ?_;rotate_left)
 refine ZB λz4 y4=>?_;obtain rfl:z4=false:=y4.trans (by rw[decide_eq_false e5];rfl)
 refine QF ?_ ?_<;>intro b1
 .cases b1
 iterate 44 refine Qq (by first|with_reducible rfl|exact ho|exact⟨ho,h0⟩|exact la|(rw[la];done)|exact Nat.le_of_eq la.symm|exact qlr _|with_reducible exact qRr|exact QNI _ _|exact trivial|exact rfl) ?_
 refine Qh λa0=>?_;refine Qj λg0=>?_;refine QF ?_ ?_<;>intro b2
 iterate 2 (refine QG ?_ ?_;rotate_left)
 refine ZB λz5 y5=>?_;obtain rfl:z5=true:=y5.trans (QWU hf b2)
 .exact Kd rfl rfl
 have h0:(QH d).2.2.2=0:=by simpa using b2
 iterate 4 (refine QG ?_ ?_;rotate_left)
 iterate 23 refine Qq (by first|with_reducible rfl|exact ho|exact⟨ho,h0⟩|exact la|(rw[la];done)|exact Nat.le_of_eq la.symm|exact qlr _|with_reducible exact qRr|exact QNI _ _|exact trivial|exact rfl) ?_
 refine Qh λa1=>?_;refine Qj λg1=>?_
 iterate 6 (refine QG ?_ ?_;rotate_left)
 refine ZB λz6 y6=>?_;obtain rfl:z6=true:=y6.trans (Qcp hf h0);refine QG ?_ ?_;rotate_left;refine ZB λz7 y7=>?_;obtain rfl:z7=true:=y7.trans (rfl)
 .exact Kd rfl rfl
 all_goals first|rfl|exact hn2|(simp;done)|(rw[ox];simp;done)|(rw[oy];simp;done)|(simp only[qlr,decide_true,Bool.and_true,Bool.true_and,qbA,qdE];omega)|grind
