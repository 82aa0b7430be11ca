/- - -/
import Derived.Test.YtbpffdkemeoajaaGreatMps
open Go.Proofs.Tryz
open Go.IntKind (i64)
set_option maxRecDepth 100000
namespace Go.Proofs.YtbpffdkemeoajaaGreat
open Go.SX
def QPh:Ex->List Nat
 | .normal=>[3,4,11,12,13]
 | .exit _=>[4]
 | .ret=>[]
variable (d:Puz)(s:QQ)(o:List QB)
def GS:JSt:=⟨49,[(4,.slz 24 0 o.length (.of 0))],[KF 80 24 o ⟨0,0⟩],32⟩
noncomputable abbrev QKv(o':List QB)(s:QQ):List (Nat×Blk):=
  [(16,.cells 7 69 ((Enc.enc (s:QQ)).cells)),(24,.rowz true 80 kB o'.length λi=>QA.enc (o'.getD i ⟨0,0⟩)),(0,.frz kE d.ps.n λi=>QA.enc (d.ps.get i))]
theorem QXj(o o':List QB)(c:Nat)(g:Nat->Value):exec (mkE prog JH) { hnd (mkE prog JH) 1 with loop:=λ_=>Q4 8 [] (Vi d s o c 0) [(True,.exit 2,Hi d s o' c)] } (QT f71 0) (JSt.inst (qy d s o c) g) (KG [] QPh) = .br (decide ((c:Int)<(d.ps.n:Int))) (.need (decide ((0:Int)<=(c:Int)/\(c:Int)<(d.ps.n:Int))&&decide (d.ps.n<=d.ps.n)) (.need (decide (c<d.ps.n)) (.ak [0=0,0=0,0=0,o.length=o.length,cO=cO,(c:Int)=(c:Int),0=0,0=0,0=0,d.ps.n=d.ps.n,cO=cO,(d.ps.n:Int)=(d.ps.n:Int),(c:Int)=(c:Int),(0:Int)=0,s.up.kind=s.up.kind,s.up.at_.lo=s.up.at_.lo,s.up.at_.hi=s.up.at_.hi,s.up.wide.lo=s.up.wide.lo,s.up.wide.hi=s.up.wide.hi,s.up.deep.lo=s.up.deep.lo,s.up.deep.hi=s.up.deep.hi,s.right.kind=s.right.kind,s.right.at_.lo=s.right.at_.lo,s.right.at_.hi=s.right.at_.hi,s.right.wide.lo=s.right.wide.lo,s.right.wide.hi=s.right.wide.hi,s.right.deep.lo=s.right.deep.lo,s.right.deep.hi=s.right.deep.hi,s.down.kind=s.down.kind,s.down.at_.lo=s.down.at_.lo,s.down.at_.hi=s.down.at_.hi,s.down.wide.lo=s.down.wide.lo,s.down.wide.hi=s.down.wide.hi,s.down.deep.lo=s.down.deep.lo,s.down.deep.hi=s.down.deep.hi,s.left.kind=s.left.kind,s.left.at_.lo=s.left.at_.lo,s.left.at_.hi=s.left.at_.hi,s.left.wide.lo=s.left.wide.lo,s.left.wide.hi=s.left.wide.hi,s.left.deep.lo=s.left.deep.lo,s.left.deep.hi=s.left.deep.hi,o.length<=o.length,QC 2 o.length (λi=>QA.enc (o.getD i ⟨0,0⟩)) λi=>QA.enc (o.getD i ⟨0,0⟩),(d.ps.get c).up.kind=(d.ps.get c).up.kind,(d.ps.get c).up.at_.lo=(d.ps.get c).up.at_.lo,(d.ps.get c).up.at_.hi=(d.ps.get c).up.at_.hi,(d.ps.get c).up.wide.lo=(d.ps.get c).up.wide.lo,(d.ps.get c).up.wide.hi=(d.ps.get c).up.wide.hi,(d.ps.get c).up.deep.lo=(d.ps.get c).up.deep.lo,(d.ps.get c).up.deep.hi=(d.ps.get c).up.deep.hi,(d.ps.get c).right.kind=(d.ps.get c).right.kind,(d.ps.get c).right.at_.lo=(d.ps.get c).right.at_.lo,(d.ps.get c).right.at_.hi=(d.ps.get c).right.at_.hi,(d.ps.get c).right.wide.lo=(d.ps.get c).right.wide.lo,(d.ps.get c).right.wide.hi=(d.ps.get c).right.wide.hi,(d.ps.get c).right.deep.lo=(d.ps.get c).right.deep.lo,(d.ps.get c).right.deep.hi=(d.ps.get c).right.deep.hi,(d.ps.get c).down.kind=(d.ps.get c).down.kind,(d.ps.get c).down.at_.lo=(d.ps.get c).down.at_.lo,(d.ps.get c).down.at_.hi=(d.ps.get c).down.at_.hi,(d.ps.get c).down.wide.lo=(d.ps.get c).down.wide.lo,(d.ps.get c).down.wide.hi=(d.ps.get c).down.wide.hi,(d.ps.get c).down.deep.lo=(d.ps.get c).down.deep.lo,(d.ps.get c).down.deep.hi=(d.ps.get c).down.deep.hi,(d.ps.get c).left.kind=(d.ps.get c).left.kind,(d.ps.get c).left.at_.lo=(d.ps.get c).left.at_.lo,(d.ps.get c).left.at_.hi=(d.ps.get c).left.at_.hi,(d.ps.get c).left.wide.lo=(d.ps.get c).left.wide.lo,(d.ps.get c).left.wide.hi=(d.ps.get c).left.wide.hi,(d.ps.get c).left.deep.lo=(d.ps.get c).left.deep.lo,(d.ps.get c).left.deep.hi=(d.ps.get c).left.deep.hi,d.ps.n<=d.ps.n,QC 28 d.ps.n (λi=>QA.enc (d.ps.get i)) λi=>QA.enc (d.ps.get i)] (.asm (True) (.all (λ(g0:Nat->Value)=>.leaf (.tup [.nilp,.ptr 49 0 0,.ptr 16 0 0,.slz 24 0 o'.length cO,.slz 0 0 d.ps.n cO,vi (d.ps.n:Int),vi (i64.wrap ((c:Int)+1))]) ((QKv d o' s)))))))) (.leaf (.tup [.ptr 0 0 0,.ptr 49 0 0,.slz 24 0 o.length cO]) ([(24, .rowz true 80 kB o.length λi=>QA.enc (o.getD i ⟨0,0⟩))])):=by kernel_rfl
theorem Qbr(o' o2:List QB)(c c1:Nat):QI 8 [.ptr 16 0 0,.slz 24 0 o'.length cO,.slz 0 0 d.ps.n cO,vi (d.ps.n:Int),vi (i64.wrap ((c:Int)+1))] ((QKv d o' s)) (qy d s o2 c1)=(some [0=0,0=0,0=0,o'.length=o2.length,cO=cO,0=0,d.ps.n=d.ps.n,cO=cO,(d.ps.n:Int)=(d.ps.n:Int), i64.wrap ((c:Int)+1)=(c1:Int),s.up.kind=s.up.kind,s.up.at_.lo=s.up.at_.lo,s.up.at_.hi=s.up.at_.hi,s.up.wide.lo=s.up.wide.lo,s.up.wide.hi=s.up.wide.hi, s.up.deep.lo=s.up.deep.lo,s.up.deep.hi=s.up.deep.hi,s.right.kind=s.right.kind,s.right.at_.lo=s.right.at_.lo,s.right.at_.hi=s.right.at_.hi,s.right.wide.lo=s.right.wide.lo,s.right.wide.hi=s.right.wide.hi,s.right.deep.lo=s.right.deep.lo,s.right.deep.hi=s.right.deep.hi,s.down.kind=s.down.kind,s.down.at_.lo=s.down.at_.lo, s.down.at_.hi=s.down.at_.hi,s.down.wide.lo=s.down.wide.lo,s.down.wide.hi=s.down.wide.hi,s.down.deep.lo=s.down.deep.lo,s.down.deep.hi=s.down.deep.hi,s.left.kind=s.left.kind,s.left.at_.lo=s.left.at_.lo,s.left.at_.hi=s.left.at_.hi,s.left.wide.lo=s.left.wide.lo,s.left.wide.hi=s.left.wide.hi,s.left.deep.lo=s.left.deep.lo, s.left.deep.hi=s.left.deep.hi,o2.length<=o'.length,QC 2 o2.length (λi=>QA.enc (o'.getD i ⟨0,0⟩)) λi=>QA.enc (o2.getD i ⟨0,0⟩),d.ps.n<=d.ps.n,QC 28 d.ps.n (λi=>QA.enc (d.ps.get i)) λi=>QA.enc (d.ps.get i)]):=by kernel_rfl
theorem QTQ(o o2:List QB):QI 8 [AV.slz (24:Nat) (0:Nat) o.length cO] ([((24:Nat),Blk.rowz true (80:Nat) [CK.int i64,CK.int i64] o.length λi=>QA.enc (o.getD i (QB.mk (0:Int) (0:Int))))]) (GS o2)=( some [0=0,o.length=o2.length,cO=cO,o2.length<=o.length,QC (2:Nat) o2.length (λi=>QA.enc (o.getD i (QB.mk (0:Int) (0:Int)))) λi=>QA.enc (o2.getD i (QB.mk (0:Int) (0:Int)))]):=by kernel_rfl
theorem Qc5:QI 8 [.slz 24 0 o.length cO] [(24,.rowz true 80 kB o.length λi=>QA.enc (o.getD i ⟨0,0⟩))] (KY 8 (.slz 0 0 o.length cO) [KF 80 0 o ⟨0,0⟩])=( some [0=0,o.length=o.length,cO=cO,o.length<=o.length,QC (2:Nat) o.length (λi=>QA.enc (o.getD i (QB.mk (0:Int) (0:Int)))) λi=>QA.enc (o.getD i (QB.mk (0:Int) (0:Int)))]):=by kernel_rfl
theorem QfY(c:Nat)(ho:o.length<=4000)(G:Ctx)(hrd:G.rd=none)(hG:G.n=8):Q8 (mkE prog JH) G { hnd (mkE prog JH) 1 with loop:=λ_=>Q4 8 [] (Vi d s o c 0) [(True,.exit 2,Hi d s (Q0 d s o c 4) c)] } (QT f71 0):=by
 refine Kg (body:=Kl (QT f71 0)) (QL jT) hrd (by kernel_rfl) ?_
 refine Kr (n0:=8) (QL jT) (by omega) (λt ht=>Qw (QL jT) 6 G _ hrd) (λt ht=>(by decide:8<=40)) ?_ (QgJ d s o c ho) (s0:=0) (Nat.zero_le _) ?_
 .rintro t e J ⟨_,rfl⟩;exact(by decide:8<=40)
 .rintro e J ⟨rfl,rfl⟩;exact⟨_,qmc,trivial,rfl,rfl⟩
theorem Qc3(hn:d.ps.n<=900):Kk (λc=>qy d s (Qy d s c) c) (λc=>c<=d.ps.n) (λc=>d.ps.n-c) (λ_ e J=>e = .exit 0/\J=GS (Qy d s d.ps.n)) 8 QPh [] (mkE prog JH) (λc=>{ hnd (mkE prog JH) 1 with loop:=λ_=>Q4 8 [] (Vi d s (Qy d s c) c 0) [(True,.exit 2,Hi d s (Q0 d s (Qy d s c) c 4) c)] }) (QT f71 0):=by
 refine⟨λc g hc=>YA (QXj d s _ _ c g) ?_⟩;refine QH ?_ ?_<;>intro h
 .have h:c<d.ps.n:=by have:=qdt h;omega
  have hw:i64.wrap ((c:Int)+1)=((c+1:Nat):Int):=(w64 (by omega) (by omega)).trans (by omega)
  refine QF (by simp;omega) (QF (by simp;omega) ?_)
  repeat' first|refine QX (show _=_ by with_reducible rfl) ?_|refine QX (show _<=_ from qlr _) ?_|refine QX (show QC _ _ _ _ from qRr) ?_
  refine KB λ_=>Q7 λg=>?_;refine⟨c+1,h,by show d.ps.n-(c+1)<d.ps.n-c;omega,λ_ _ h=>h,rfl,rfl,_,Qbr d s _ (Qy d s (c+1)) c (c+1),?_⟩
  repeat' first|exact trivial|with_reducible rfl|exact qlr _|exact qRr|exact hw|refine aI ?_ ?_
  rfl
 .have:c=d.ps.n:=by have:=qdf h;omega
  subst this;refine⟨_,⟨rfl,rfl⟩,rfl,rfl,_,QTQ _ _,?_⟩
  repeat' first|exact trivial|with_reducible rfl|exact qlr _|exact qRr|refine aI ?_ ?_
theorem Qal(hn:d.ps.n<=900)(G:Ctx)(hrd:G.rd=none)(hG:G.n=8):Q8 (mkE prog JH) G { hnd (mkE prog JH) 1 with loop:=λ_=>Q4 8 [] (qy d s [] (0:Nat)) [(True,.exit 0,GS (Qy d s d.ps.n))] } (Qi f71):=by
 refine Kg (body:=QT f71 0) (QL jT) hrd (by kernel_rfl) ?_
 refine Kr (n0:=8) (QL jT) (by omega) (λc hc=>QfY d s (Qy d s c) c (by have:=Z9 d s c;have:c<=d.ps.n:=hc;omega) G hrd hG) (λc hc=>(by decide:8<=32)) ?_ (Qc3 d s hn) (s0:=0) (Nat.zero_le _) ?_
 .rintro t e J ⟨_,rfl⟩;exact(by decide:8<=32)
 .rintro e J ⟨rfl,rfl⟩;exact⟨_,qmc,trivial,rfl,rfl⟩
def QAi:WF (Puz×QQ×Unit):=λ|(d,(s,_))=>(decide (d.ps.n<=900),.slz 0 0 (Qy d s d.ps.n).length (.of 0),[KF 80 0 (Qy d s d.ps.n) ⟨0,0⟩])
def QFY:FC:=wFC QAi
theorem Qdw :KI (mkE prog JH) { hnd (mkE prog JH) 1 with loop:=λ_=>Q4 8 [] (qy d s [] (0:Nat)) [(True,.exit 0,GS (Qy d s d.ps.n))] } f71 (QW.vals 0 ((d,s,()):Puz×QQ×Unit)) (QW.blks 0 ((d,s,()):Puz×QQ×Unit)) 8 = .ak [0=0,0=0,0=0,0=0,d.ps.n=d.ps.n,cO=cO,(d.ps.n:Int)=(d.ps.n:Int),(0:Int)=0,s.up.kind=s.up.kind,s.up.at_.lo=s.up.at_.lo,s.up.at_.hi=s.up.at_.hi,s.up.wide.lo=s.up.wide.lo,s.up.wide.hi=s.up.wide.hi,s.up.deep.lo=s.up.deep.lo,s.up.deep.hi=s.up.deep.hi,s.right.kind=s.right.kind,s.right.at_.lo=s.right.at_.lo,s.right.at_.hi=s.right.at_.hi,s.right.wide.lo=s.right.wide.lo,s.right.wide.hi=s.right.wide.hi,s.right.deep.lo=s.right.deep.lo,s.right.deep.hi=s.right.deep.hi,s.down.kind=s.down.kind,s.down.at_.lo=s.down.at_.lo,s.down.at_.hi=s.down.at_.hi,s.down.wide.lo=s.down.wide.lo,s.down.wide.hi=s.down.wide.hi,s.down.deep.lo=s.down.deep.lo,s.down.deep.hi=s.down.deep.hi,s.left.kind=s.left.kind,s.left.at_.lo=s.left.at_.lo,s.left.at_.hi=s.left.at_.hi,s.left.wide.lo=s.left.wide.lo,s.left.wide.hi=s.left.wide.hi,s.left.deep.lo=s.left.deep.lo,s.left.deep.hi=s.left.deep.hi,0=0,d.ps.n<=d.ps.n,QC 28 d.ps.n (λi=>QA.enc (d.ps.get i)) λi=>QA.enc (d.ps.get i)] (.asm (True) (.all (λ(g0:Nat->Value)=>.leaf (.slz 24 0 (Qy d s d.ps.n).length cO) ([(24,.rowz true 80 kB (Qy d s d.ps.n).length λi=>QA.enc ((Qy d s d.ps.n).getD i ⟨0,0⟩))])))):=by kernel_rfl
theorem QVv:JG (mkE prog JH) (Qi f71) 8 QAi (λx_=>{ hnd (mkE prog JH) 1 with loop:=λ_=>Q4 8 [] (qy x_.1 x_.2.1 [] (0:Nat)) [(True,.exit 0,GS (Qy x_.1 x_.2.1 x_.1.ps.n))] }):=by
 refine⟨?_⟩;rintro⟨d,⟨s,⟨⟩⟩⟩ hp G h1 h2;exact Qal d s (qdt hp) G h1 h2
theorem Qam:JF (mkE prog JH) f71 8 QAi (λx_=>{ hnd (mkE prog JH) 1 with loop:=λ_=>Q4 8 [] (qy x_.1 x_.2.1 [] (0:Nat)) [(True,.exit 0,GS (Qy x_.1 x_.2.1 x_.1.ps.n))] }):=by
 refine⟨?_⟩;rintro⟨d,⟨s,⟨⟩⟩⟩ hp;refine⟨⟨rfl,by simp[QAi,KF,Blk.own,Blk.all],rfl⟩,⟨?_⟩⟩
 rw[Qdw d s];simp only[QAi]at hp
 repeat' first|refine QX (show _=_ by with_reducible rfl) ?_|refine QX (show _<=_ from qlr _) ?_|refine QX (show QC _ _ _ _ from qRr) ?_
 refine KB λ_=>Q7 λg=>⟨rfl,rfl,_,Qc5 _,?_⟩
 repeat' first|exact tv|refine aI ?_ ?_
theorem QNp:QO prog 71 QFY:=
 JI (QL jT) func71 (by kernel_rfl) (by kernel_rfl) (by decide) QVv Qam
def Wz:Tab:=Qh JH 71 QFY
theorem QG2:QZ Wz:=jT.add QNp
def vM:Bool:=d.ok&&Vy d.pK ⟨1,λ_=>s⟩
def vv:List QB:=match vM d s with
 | true=>Qy d s d.ps.n
 | false=>[]
def QAk:Int:=match vM d s with
 | true=>0
 | false=>1
theorem Qec(e f:Int)(o:List QB):QI 8 [.tup [.nils,vj e]] [] (KY 8 (.tup [.slz 0 0 o.length cO,vi f]) [KF 80 0 o ⟨0,0⟩])=( some [o.length=(0:Nat),e=f,o.length=(0:Nat)]):=by kernel_rfl
theorem QVu(n:Nat)(g:Nat->Nat->Int)(e f:Int)(o:List QB):QI 8 [.tup [.slz 144 0 n cO,vj e]] [(144,.rowz true 80 kB n g)] (KY 8 (.tup [.slz 0 0 o.length cO,vi f]) [KF 80 0 o ⟨0,0⟩])=( some [0=0,n=o.length,cO=cO,e=f,o.length<=n,QC (2:Nat) o.length g λi=>QA.enc (o.getD i (QB.mk (0:Int) (0:Int)))]):=by kernel_rfl
def jh:WF (Puz×QQ×Unit):=λ|(d,(s,_))=>(decide (d.ps.n<=900),.tup [.slz 0 0 (vv d s).length (.of 0),.int false .i64 (QAk d s)],[KF 80 0 (vv d s) ⟨0,0⟩])
def QKN:FC:=wFC jh
noncomputable abbrev JM:List AV:=
  ((Enc.enc (s:QQ)).cells)
theorem QTl :KI (mkE prog Wz) (hnd (mkE prog Wz) 0) f30 (QW.vals 0 ((d,s,()):Puz×QQ×Unit)) (QW.blks 0 ((d,s,()):Puz×QQ×Unit)) 8 = .need (decide (d.ps.n<=d.ps.n)&&true&&decide (d.ps.n<=1000)) (.br (!d.ok) (.leaf (.tup [.nils,vj 1]) ([])) (.need (true&&(true&&true)&&decide (1<=1000)) (.br (!Vy d.pK (Rw.mk 1 λi=>QQ.mk (Edge.mk (QU [(JM s)] 0 i 0) (Sp.mk (QU [(JM s)] 0 i 1) (QU [(JM s)] 0 i 2)) (Sp.mk (QU [(JM s)] 0 i 3) (QU [(JM s)] 0 i 4)) (Sp.mk (QU [(JM s)] 0 i 5) (QU [(JM s)] 0 i 6))) (Edge.mk (QU [(JM s)] 0 i 7) (Sp.mk (QU [(JM s)] 0 i 8) (QU [(JM s)] 0 i 9)) (Sp.mk (QU [(JM s)] 0 i 10) (QU [(JM s)] 0 i 11)) (Sp.mk (QU [(JM s)] 0 i 12) (QU [(JM s)] 0 i 13))) (Edge.mk (QU [(JM s)] 0 i 14) (Sp.mk (QU [(JM s)] 0 i 15) (QU [(JM s)] 0 i 16)) (Sp.mk (QU [(JM s)] 0 i 17) (QU [(JM s)] 0 i 18)) (Sp.mk (QU [(JM s)] 0 i 19) (QU [(JM s)] 0 i 20))) (Edge.mk (QU [(JM s)] 0 i 21) (Sp.mk (QU [(JM s)] 0 i 22) (QU [(JM s)] 0 i 23)) (Sp.mk (QU [(JM s)] 0 i 24) (QU [(JM s)] 0 i 25)) (Sp.mk (QU [(JM s)] 0 i 26) (QU [(JM s)] 0 i 27))))) (.leaf (.tup [.nils,vj 1]) ([])) (.need (decide (d.ps.n<=d.ps.n)&&(true&&true)&&decide (d.ps.n<=900)) (.leaf (.tup [.slz 144 0 (Qy d s d.ps.n).length cO,vj 0]) ([(144, .rowz true 80 kB (Qy d s d.ps.n).length λi=>QA.enc ((Qy d s d.ps.n).getD i ⟨0,0⟩))])))))):=by kernel_rfl
theorem QVB:JG (mkE prog Wz) (Qi f30) 8 jh (λx_=>(hnd (mkE prog Wz) 0)):=by
 refine⟨?_⟩;rintro⟨d,⟨s,⟨⟩⟩⟩ hp G h1 h2;exact Qw (QL QG2) 0 G _ h1
theorem QZI:JF (mkE prog Wz) f30 8 jh (λx_=>(hnd (mkE prog Wz) 0)):=by
 refine⟨?_⟩;rintro⟨d,⟨s,⟨⟩⟩⟩ hp;refine⟨⟨rfl,by simp[jh,KF,Blk.own,Blk.all],rfl⟩,⟨?_⟩⟩
 rw[QTl d s];simp only[jh]at hp;have hn:d.ps.n<=900:=qdt hp
 have no:vM d s=false->(QE.leaf (AV.tup [AV.nils,AV.int true i64 1]) []).den (VQ 8 (jh (d,s,())).2.1 (jh (d,s,())).2.2):=by
  intro h;have h1:vv d s=[]:=by simp only[vv,h]
  have h2:QAk d s=1:=by simp only[QAk,h]
  refine⟨rfl,rfl,_,Qec _ _ _,?_⟩;rw[h1,h2]
  repeat' first|exact tv|refine aI ?_ ?_
  all_goals rfl
 refine QF (by simp;omega) (QH (λh=>no ?_) (λh=>QF rfl (QH (λh2=>no ?_) (λh2=>QF (by simp;omega) ?_))))
 .have h:d.ok=false:=by simpa using h
  simp only[vM,h,Bool.false_and]
 .have h2:Vy d.pK ⟨1,λ_=>s⟩=false:=by simpa using (show(!Vy d.pK ⟨1,λ_=>s⟩)=true from h2)
  simp only[vM,h2,Bool.and_false]
 .have h:d.ok=true:=by simpa using h
  have h2:Vy d.pK ⟨1,λ_=>s⟩=true:=by simpa using (show(!Vy d.pK ⟨1,λ_=>s⟩)=false from h2)
  have hO:vM d s=true:=by simp only[vM,h,h2,Bool.and_self]
  have h3:vv d s=Qy d s d.ps.n:=by simp only[vv,hO]
  have h4:QAk d s=0:=by simp only[QAk,hO]
  refine⟨rfl,rfl,_,QVu _ _ _ _ _,?_⟩;rw[h3,h4]
  repeat' first|exact tv|refine aI ?_ ?_
theorem Qa4:QO prog 30 QKN:=
 JI (QL QG2) func30 (by kernel_rfl) (by kernel_rfl) (by decide) QVB QZI
def jW:Tab:=Qh Wz 30 QKN
theorem QCe:QZ jW:=QG2.add Qa4
def QOe:Int×Int×Unit->Bool×AV:=λ|(lo,(hi,_))=>(true,Enc.enc (⟨lo,hi⟩:Sp))
def QSN:FC:=KM (KN QOe)
theorem QS6(lo:Int)(hi:Int):KJ (mkE prog jW) (hnd (mkE prog jW) 2) false f68 (Q3.enc ((lo,hi,()):Int×Int×Unit)) [] 0=QE.leaf (AV.agg [vi lo,vi hi]) ([]):=by kernel_rfl
theorem QX7:QO prog 68 QSN:=by
 refine KZ QCe 2 func68 (by kernel_rfl) (by kernel_rfl) ?_
 rintro⟨lo,hi,⟨⟩⟩ hp;rw[QS6 lo hi];simp only[QOe,QE.den,AV.same,AV.sameL,and_true,true_and]at hp ⊢;simp only[Enc.enc,AV.same,AV.sameL,and_self]
def QDU:Tab:=Qh jW 68 QSN
theorem QSK:QZ QDU:=QCe.add QX7
def QRP:Int×Int×Int×Unit->Bool×AV:=λ|(k,(w,(d,_)))=>(true,Enc.enc (⟨k,⟨1000,1000⟩,⟨w,w⟩,⟨d,d⟩⟩:Edge))
def QOP:FC:=KM (KN QRP)
theorem QUk(k:Int)(w:Int)(d:Int):KJ (mkE prog QDU) (hnd (mkE prog QDU) 2) false f67 (Q3.enc ((k,w,d,()):Int×Int×Int×Unit)) [] 0=QE.need (true) (QE.need (true) (QE.leaf (AV.agg [vi k,vj (1000:Int),vj (1000:Int),vi w,vi w,vi d,vi d]) ([]))):=by kernel_rfl
theorem Qc8:QO prog 67 QOP:=by
 refine KZ QSK 2 func67 (by kernel_rfl) (by kernel_rfl) ?_
 rintro⟨k,w,d,⟨⟩⟩ hp;rw[QUk k w d];simp only[QRP,QE.den,AV.same,AV.sameL,and_true,true_and]at hp ⊢;simp only[Enc.enc,AV.same,AV.sameL,and_self]
def QEd:Tab:=Qh QDU 67 QOP
theorem QMB:QZ QEd:=QSK.add Qc8
def QM3:Int×Int×Int×Unit->Bool×AV:=λ|(k,(lo,(hi,_)))=>(true,Enc.enc (⟨k,⟨990,1010⟩,⟨lo,hi⟩,⟨395,415⟩⟩:Edge))
def QMp:FC:=KM (KN QM3)
theorem QVQ(k:Int)(lo:Int)(hi:Int):KJ (mkE prog QEd) (hnd (mkE prog QEd) 2) false f72 (Q3.enc ((k,lo,hi,()):Int×Int×Int×Unit)) [] 0=QE.need (true) (QE.leaf (AV.agg [vi k,vj (990:Int),vj (1010:Int),vi lo,vi hi,vj (395:Int),vj (415:Int)]) ([])):=by kernel_rfl
theorem QaV:QO prog 72 QMp:=by
 refine KZ QMB 2 func72 (by kernel_rfl) (by kernel_rfl) ?_
 rintro⟨k,lo,hi,⟨⟩⟩ hp;rw[QVQ k lo hi];simp only[QM3,QE.den,AV.same,AV.sameL,and_true,true_and]at hp ⊢;simp only[Enc.enc,AV.same,AV.sameL,and_self]
def QCh:Tab:=Qh QEd 72 QMp
theorem QOf:QZ QCh:=QMB.add QaV
def QMT:Edge×Edge×Unit->Bool×AV:=λ|(r,(l,_))=>(true,Enc.enc (⟨Ja,r,Ja,l⟩:QQ))
def QJt:FC:=KM (KN QMT)
theorem QZa(r:Edge)(l:Edge):KJ (mkE prog QCh) (hnd (mkE prog QCh) 2) false f69 (Q3.enc ((r,l,()):Edge×Edge×Unit)) [] 0=QE.leaf (AV.agg [vj (0:Int),vj (0:Int),vj (0:Int),vj (0:Int),vj (0:Int),vj (0:Int),vj (0:Int),vi r.kind,vi r.at_.lo,vi r.at_.hi,vi r.wide.lo,vi r.wide.hi,vi r.deep.lo,vi r.deep.hi,vj (0:Int),vj (0:Int),vj (0:Int),vj (0:Int),vj (0:Int),vj (0:Int),vj (0:Int),vi l.kind,vi l.at_.lo,vi l.at_.hi,vi l.wide.lo,vi l.wide.hi,vi l.deep.lo,vi l.deep.hi]) ([]):=by kernel_rfl
theorem Qdu:QO prog 69 QJt:=by
 refine KZ QOf 2 func69 (by kernel_rfl) (by kernel_rfl) ?_
 rintro⟨r,l,⟨⟩⟩ hp;rw[QZa r l];simp only[QMT,QE.den,AV.same,AV.sameL,and_true,true_and]at hp ⊢;simp only[Enc.enc,Ja,AV.same,AV.sameL,and_self]
def QDE:Tab:=Qh QCh 69 QJt
theorem QJe:QZ QDE:=QOf.add Qdu
def pP:QQ:=⟨Ja,⟨1,⟨990,1010⟩,⟨490,570⟩,⟨395,415⟩⟩,Ja,⟨2,⟨990,1010⟩,⟨505,525⟩,⟨395,415⟩⟩⟩
def pQ:QQ:=⟨Ja,⟨1,⟨990,1010⟩,⟨495,505⟩,⟨395,415⟩⟩,Ja,⟨2,⟨990,1010⟩,⟨505,525⟩,⟨395,415⟩⟩⟩
def pR:QQ:=⟨Ja,Ja,⟨1,⟨990,1010⟩,⟨490,510⟩,⟨395,415⟩⟩,Ja⟩
def QP6:Unit->Bool×AV:=λ_=>(true,Enc.enc pP)
def QKc:FC:=KM (KN QP6)
theorem Qdg :KJ (mkE prog QDE) (hnd (mkE prog QDE) 2) false f31 (Q3.enc (():Unit)) [] 0=QE.leaf (AV.agg [vj (0:Int),vj (0:Int),vj (0:Int),vj (0:Int),vj (0:Int),vj (0:Int),vj (0:Int),vj (1:Int),vj (990:Int),vj (1010:Int),vj (490:Int),vj (570:Int),vj (395:Int),vj (415:Int),vj (0:Int),vj (0:Int),vj (0:Int),vj (0:Int),vj (0:Int),vj (0:Int),vj (0:Int),vj (2:Int),vj (990:Int),vj (1010:Int),vj (505:Int),vj (525:Int),vj (395:Int),vj (415:Int)]) ([]):=by kernel_rfl
theorem Qfm:QO prog 31 QKc:=by
 refine KZ QJe 2 func31 (by kernel_rfl) (by kernel_rfl) ?_
 rintro⟨⟩ hp;rw[Qdg];simp only[QP6,QE.den,AV.same,AV.sameL,and_true,true_and]at hp ⊢;simp only[Enc.enc,pP,Ja,AV.same,AV.sameL,and_self]
def QCy:Tab:=Qh QDE 31 QKc
theorem QLk:QZ QCy:=QJe.add Qfm
def QRo:Unit->Bool×AV:=λ_=>(true,Enc.enc pQ)
def QPz:FC:=KM (KN QRo)
theorem QTu :KJ (mkE prog QCy) (hnd (mkE prog QCy) 2) false f33 (Q3.enc (():Unit)) [] 0=QE.leaf (AV.agg [vj (0:Int),vj (0:Int),vj (0:Int),vj (0:Int),vj (0:Int),vj (0:Int),vj (0:Int),vj (1:Int),vj (990:Int),vj (1010:Int),vj (495:Int),vj (505:Int),vj (395:Int),vj (415:Int),vj (0:Int),vj (0:Int),vj (0:Int),vj (0:Int),vj (0:Int),vj (0:Int),vj (0:Int),vj (2:Int),vj (990:Int),vj (1010:Int),vj (505:Int),vj (525:Int),vj (395:Int),vj (415:Int)]) ([]):=by kernel_rfl
theorem QdB:QO prog 33 QPz:=by
 refine KZ QLk 2 func33 (by kernel_rfl) (by kernel_rfl) ?_
 rintro⟨⟩ hp;rw[QTu];simp only[QRo,QE.den,AV.same,AV.sameL,and_true,true_and]at hp ⊢;simp only[Enc.enc,pQ,Ja,AV.same,AV.sameL,and_self]
def QBt:Tab:=Qh QCy 33 QPz
theorem QPg:QZ QBt:=QLk.add QdB
def QJN:Unit->Bool×AV:=λ_=>(true,Enc.enc pR)
def QNk:FC:=KM (KN QJN)
theorem Qbi :KJ (mkE prog QBt) (hnd (mkE prog QBt) 2) false f34 (Q3.enc (():Unit)) [] 0=QE.leaf (AV.agg [vj (0:Int),vj (0:Int),vj (0:Int),vj (0:Int),vj (0:Int),vj (0:Int),vj (0:Int),vj (0:Int),vj (0:Int),vj (0:Int),vj (0:Int),vj (0:Int),vj (0:Int),vj (0:Int),vj (1:Int),vj (990:Int),vj (1010:Int),vj (490:Int),vj (510:Int),vj (395:Int),vj (415:Int),vj (0:Int),vj (0:Int),vj (0:Int),vj (0:Int),vj (0:Int),vj (0:Int),vj (0:Int)]) ([]):=by kernel_rfl
theorem Qbt:QO prog 34 QNk:=by
 refine KZ QPg 2 func34 (by kernel_rfl) (by kernel_rfl) ?_
 rintro⟨⟩ hp;rw[Qbi];simp only[QJN,QE.den,AV.same,AV.sameL,and_true,true_and]at hp ⊢;simp only[Enc.enc,pR,Ja,AV.same,AV.sameL,and_self]
def qY:Tab:=Qh QBt 34 QNk
theorem QFO:QZ qY:=QPg.add Qbt
def exE(k w d:Int):Edge:=⟨k,⟨1000,1000⟩,⟨w,w⟩,⟨d,d⟩⟩
def QgX:List QQ:=[⟨Ja,exE 1 500 400,Ja,Ja⟩,⟨Ja,exE 1 500 400,Ja,exE 2 515 410⟩,⟨Ja,exE 1 560 400,Ja,exE 2 515 410⟩,⟨Ja,Ja,Ja,exE 2 575 410⟩]
def QMt:AV := .agg [.int false .i64 2000,.int false .i64 20,.int false .i64 30,.int false .i64 0,.int false .i64 10,.int false .i64 4,.int false .i64 1,.bool false false,.slice true 0 0 4 (.lit 4)]
def QP1:Nat×Blk:=(0,.rowl 69 28 (QgX.map λp=>(Enc.enc p).cells))
noncomputable abbrev QLy:List AV:=
  [vj 2000,vj 20,vj 30,vj 0,vj 10,vj 4,vj 1,.bool true false,.slice true 248 0 4 (Cap.lit
  4)]
noncomputable abbrev QRJ:List (Nat×Blk):=
  [(248,.rowl 69 28 [[vj 0,vj 0,vj 0,vj 0,vj 0,vj 0,vj 0,vj 1,.int true .i64
  1000,vj 1000,vj 500,vj 500,vj 400,vj 400,vj 0,vj 0,vj 0,vj 0,
  vj 0,vj 0,vj 0,vj 0,vj 0,vj 0,vj 0,vj 0,vj 0,vj 0],
  [vj 0,vj 0,vj 0,vj 0,vj 0,vj 0,vj 0,vj 1,vj 1000,.int true .i64
  1000,vj 500,vj 500,vj 400,vj 400,vj 0,vj 0,vj 0,vj 0,vj 0,.int
  true .i64 0,vj 0,vj 2,vj 1000,vj 1000,vj 515,vj 515,vj 410,vj 410],[.int
  true .i64 0,vj 0,vj 0,vj 0,vj 0,vj 0,vj 0,vj 1,vj 1000,vj 1000,
  vj 560,vj 560,vj 400,vj 400,vj 0,vj 0,vj 0,vj 0,vj 0,.int true
  .i64 0,vj 0,vj 2,vj 1000,vj 1000,vj 515,vj 515,vj 410,vj 410],[.int true
  .i64 0,vj 0,vj 0,vj 0,vj 0,vj 0,vj 0,vj 0,vj 0,vj 0,.int true
  .i64 0,vj 0,vj 0,vj 0,vj 0,vj 0,vj 0,vj 0,vj 0,vj 0,.int true
  .i64 0,vj 2,vj 1000,vj 1000,vj 575,vj 575,vj 410,vj 410]])]
abbrev vp:List Prop:=
  [(0:Int)=0,(0:Int)=0,(0:Int)=0,(0:Int)=0,(0:Int)=0]
abbrev QIk:List Prop:=
  [(0:Int)=0,(0:Int)=0,(1:Int)=1,(1000:Int)=1000,(1000:Int)=1000]
abbrev QO2:List Prop:=
  [(0:Int)=0,(0:Int)=0,(0:Int)=0,(0:Int)=0,(0:Int)=0,(0:Int)=0,(0:Int)=0,(0:Int)=0,(0:Int)=0,(0:Int)=0,(0:Int)=0,(0:Int)=0]
abbrev QFI:List Prop:=
  [(0:Int)=0,(0:Int)=0,(2:Int)=2,(1000:Int)=1000,(1000:Int)=1000]
theorem Qga :QI 8 [(.agg QLy)] (QRJ) (KY 8 QMt [QP1])=(some ([(2000:Int)=2000,(20:Int)=20,(30:Int)=30,(0:Int)=0,(10:Int)=10,(4:Int)=4,(1:Int)=1, false=false,0=0,4=4,Cap.lit 4=Cap.lit 4]++vp++QIk++[(500:Int)=500,(500:Int)=500,(400:Int)=400,(400:Int)=400]++QO2++vp++[(0:Int)=0,(0:Int)=0]++QIk++[(500:Int)=500,(500:Int)=500,(400:Int)=400,(400:Int)=400]++vp++QFI++[(515:Int)=515,(515:Int)=515,(410:Int)=410,(410:Int)=410]++vp++QIk++[(560:Int)=560,(560:Int)=560,(400:Int)=400,(400:Int)=400]++vp++QFI++[(515:Int)=515,(515:Int)=515, (410:Int)=410,(410:Int)=410]++QO2++vp++[(0:Int)=0,(0:Int)=0]++QFI++[(575:Int)=575,(575:Int)=575,(410:Int)=410,(410:Int)=410])):=by kernel_rfl
def QCO:WF (Unit):=λ|_=>(true,QMt,[QP1])
def QKi:FC:=wFC QCO
theorem QeG :KI (mkE prog qY) (hnd (mkE prog qY) 2) f29 (QW.vals 0 ((()):Unit)) (QW.blks 0 ((()):Unit)) 8 = .leaf (.agg QLy) (QRJ):=by kernel_rfl
theorem QYR:JG (mkE prog qY) (Qi f29) 8 QCO (λx_=>(hnd (mkE prog qY) 2)):=by
 refine⟨?_⟩;rintro⟨⟩ hp G h1 h2;exact Qw (QL QFO) 2 G _ h1
theorem QTY:JF (mkE prog qY) f29 8 QCO (λx_=>(hnd (mkE prog qY) 2)):=by
 refine⟨?_⟩;rintro⟨⟩ hp;refine⟨⟨rfl,by decide,rfl⟩,⟨?_⟩⟩
 rw[QeG];simp only[QCO]at hp;exact⟨rfl,rfl,_,Qga,by repeat' first|exact trivial|rfl|refine aI ?_ ?_⟩
theorem QXh:QO prog 29 QKi:=
 JI (QL QFO) func29 (by kernel_rfl) (by kernel_rfl) (by decide) QYR QTY
def K4:Tab:=Qh qY 29 QKi
theorem Vz:QZ K4:=QFO.add QXh
structure Jn where
 a:Int
 i:Int
 b:Int
 j:Int
instance : QA Jn where
  ks := [.int .i64,.int .i64,.int .i64,.int .i64]
  enc p j := match j with
    | 0 => p.a
    | 1 => p.i
    | 2 => p.b
    | _ => p.j
  dec f := ⟨f 0,f 1,f 2,f 3⟩
  ok _ := rfl
instance : Enc Jn where
  enc x := .agg [.int false .i64 x.a,.int false .i64 x.i,.int false .i64 x.b,.int false .i64 x.j]
  dec | .agg [.int _ .i64 a0,.int _ .i64 a1,.int _ .i64 a2,.int _ .i64 a3] => some ⟨a0,a1,a2,a3⟩ | _ => none
  ok v x h := by
    split at h <;> (try (cases h; done))
    simp only[qsI]at h; subst h; exact⟨λ_=>rfl,rfl⟩
instance : Enc QB where
  enc x := .agg [.int false .i64 x.cell,.int false .i64 x.turn]
  dec | .agg [.int _ .i64 a0,.int _ .i64 a1] => some ⟨a0,a1⟩ | _ => none
  ok v x h := by
    split at h <;> (try (cases h; done))
    simp only[qsI]at h; subst h; exact⟨λ_=>rfl,rfl⟩
structure QD where
 d:Puz
 sK:Rw QQ
 hang:Rw Jn
 lost:Int
 fK:Int
def K2(k:Nat)(x:QD):List AV:=[vi x.d.pK.length,vi x.d.pK.aK,vi x.d.pK.oK,vi x.d.pK.dK.lo,vi x.d.pK.dK.hi,vi x.d.wide,vi x.d.high,.bool false x.d.turn,KD.val k x.d.ps,KD.val (k+1) x.sK,KD.val (k+2) x.hang,vi x.lost,vi x.fK]
def JC(k:Nat)(x:QD):List (Nat×Blk):=KD.blk k x.d.ps++(KD.blk (k+1) x.sK++KD.blk (k+2) x.hang)
instance {β : Type} [QW β] : QW (QD × β) where
  len := QW.len β + 3
  vals k x := .agg (K2 k x.1) :: QW.vals (k + 3) x.2
  blks k x := JC k x.1 ++ QW.blks (k + 3) x.2
  dec
    | v :: l,lk => (match v with
      | .agg [.int _ .i64 a,.int _ .i64 b,.int _ .i64 c,.int _ .i64 d,.int _ .i64 e,.int _ .i64 f,.int _ .i64 g,.bool _ t,s1,s2,s3,.int _ .i64 lo,.int _ .i64 fo] => (match (KD.dec s1 lk : Option (Bool × Rw QQ)),(KD.dec s2 lk : Option (Bool × Rw QQ)),(KD.dec s3 lk : Option (Bool × Rw Jn)),(QW.dec l lk : Option (Bool × β))with
        | some (p1,x1),some (p2,x2),some (p3,x3),some (q,y) => some (p1 && (p2 && (p3 && q)),⟨⟨⟨a,b,c,⟨d,e⟩⟩,f,g,t,x1⟩,x2,x3,lo,fo⟩,y)
        | _,_,_,_ => none)
      | _ => none)
    | _,_ => none
  ok vs lk p x h hp := by
    split at h <;> (try (cases h; done))
    split at h <;> (try (cases h; done))
    split at h <;> (try (cases h; done))
    rename_i l lk' _ _ a _ b _ c _ d _ e _ f _ g _ t s1 s2 s3 _ lo _ fo _ _ _ _ p1 x1 p2 x2 p3 x3 q y h1 h2 h3 h4;simp only[qsI,qpI]at h;obtain⟨rfl,rfl⟩ := h;simp only[qbA]at hp;obtain⟨a1,a2⟩ := KD.ok _ _ _ _ h1 hp.1;obtain⟨b1,b2⟩ := KD.ok _ _ _ _ h2 hp.2.1;obtain⟨c1,c2⟩ := KD.ok _ _ _ _ h3 hp.2.2.1;obtain⟨d1,d2⟩ := QW.ok _ _ _ _ h4 hp.2.2.2;refine⟨λk=>⟨?_,λz hz=>?_⟩,λr w hw=>?_⟩
    . simp only[AV.allL,qbA]
      refine⟨?_,allL_mono (λi hi=>?_) _ (d1 (k + 3)).1⟩
      . simp only[AV.all,K2,AV.allL,Bool.true_and,Bool.and_true,qbA]
        refine⟨all_mono (λi hi=>?_) _ (a1 k).1,all_mono (λi hi=>?_) _ (b1 (k + 1)).1,all_mono (λi hi=>?_) _ (c1 (k + 2)).1⟩
        . have hi : i = k := by simpa using hi
          subst hi; simp
        . have hi : i = k + 1 := by simpa using hi
          subst hi; simp
        . have hi : i = k + 2 := by simpa using hi
          subst hi; simp
      . simp only[qdE]at hi ⊢; omega
    . simp only[JC,List.mem_append]at hz
      rcases hz with (hz | hz | hz) | hz
      . obtain⟨e1,e2,e3⟩ := (a1 k).2 z hz
        exact⟨by omega,e2,e3⟩
      . obtain⟨e1,e2,e3⟩ := (b1 (k + 1)).2 z hz
        exact⟨by omega,e2,e3⟩
      . obtain⟨e1,e2,e3⟩ := (c1 (k + 2)).2 z hz
        exact⟨by omega,e2,e3⟩
      . obtain⟨e1,e2,e3⟩ := (d1 (k + 3)).2 z hz
        exact⟨by omega,e2,e3⟩
    . obtain⟨l1,e1⟩ := a2 r w hw
      obtain⟨l2,e2⟩ := b2 r w hw;obtain⟨l3,e3⟩ := c2 r w hw;obtain⟨L,e4⟩ := d2 r w hw;refine⟨λi=>match i with | 0 => l1 | 1 => l2 | 2 => l3 | i + 3 => L i,λk r' hr=>?_⟩
      obtain⟨g1,g2⟩ := e1 k r' (by simpa using hr 0 (by omega))
      obtain⟨g3,g4⟩ := e2 (k + 1) r' (hr 1 (by omega))
      obtain⟨g5,g6⟩ := e3 (k + 2) r' (hr 2 (by omega))
      obtain⟨g7,g8⟩ := e4 (k + 3) r' (λi hi=>by have := hr (i + 3) (by omega); rw[show k + 3 + i = k + (i + 3) by omega]; exact this)
      refine⟨?_,λz hz=>?_⟩
      . simp only[AV.denL,AV.den,K2]at g1 g3 g5 g7 ⊢
        rw[g1,g3,g5,g7]
      . simp only[JC,List.mem_append]at hz
        rcases hz with (hz | hz | hz) | hz
        . exact g2 z hz
        . exact g4 z hz
        . exact g6 z hz
        . exact g8 z hz
abbrev xq(x:QD):List Prop:=[x.d.pK.length=x.d.pK.length,x.d.pK.aK=x.d.pK.aK,x.d.pK.oK=x.d.pK.oK,x.d.pK.dK.lo=x.d.pK.dK.lo,x.d.pK.dK.hi=x.d.pK.dK.hi,x.d.wide=x.d.wide,x.d.high=x.d.high,x.d.turn=x.d.turn,0=0,x.d.ps.n=x.d.ps.n,cO=cO,0=0,x.sK.n=x.sK.n,cO=cO,0=0,x.hang.n=x.hang.n,cO=cO,x.lost=x.lost,x.fK=x.fK]
abbrev xp(x:QD):List Prop:=[x.d.ps.n<=x.d.ps.n,QC 28 x.d.ps.n (λi=>QA.enc (x.d.ps.get i)) λi=>QA.enc (x.d.ps.get i),x.sK.n<=x.sK.n,QC 28 x.sK.n (λi=>QA.enc (x.sK.get i)) λi=>QA.enc (x.sK.get i), x.hang.n<=x.hang.n,QC 4 x.hang.n (λi=>QA.enc (x.hang.get i)) λi=>QA.enc (x.hang.get i)]
