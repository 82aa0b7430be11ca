/- scan.seats: its rounds (layer 7). -/
import Derived.Test.YtbpffdkemeoajaaMms
set_option maxRecDepth 100000
namespace Go.SX
open Go Go.RowKit Go.Proofs.Ytbpffdkemeoajaa
def ZI (c:Code):Code:=match Ke c with
 | .loop b::_=>b
 | _ => .skip
end Go.SX
namespace Go.Proofs.Ytbpffdkemeoajaa
open Go.SX
structure QA where
 cell:Int
 turn:Int
instance : QB QA where
  ks := [.int .i64, .int .i64]
  enc p j := match j with
    | 0 => p.cell
    | _ => p.turn
  dec f := ⟨f 0, f 1⟩
  ok _ := rfl
def ZV (d:Puz) (s:QP) (o:List QA) (c:Nat):JSt:=⟨49,[(3,.ptr 16 0 0),(4,.slz 24 0 o.length (.of 0)),(11,.slz 0 0 d.ps.n (.of 0)),(12,.int false .i64 d.ps.n),(13,.int false .i64 c)],[(16,.cells 7 33 (Enc.enc s).cells),KW 56 24 o ⟨0,0⟩]++Qy.blk 0 d.ps,32⟩
def JW (d:Puz) (s:QP) (o:List QA) (c t:Nat):JSt:=⟨49,[(3,.ptr 16 0 0),(4,.slz 24 0 o.length (.of 0)),(5,.int false .i64 c),(6,.ptr 32 0 0),(11,.slz 0 0 d.ps.n (.of 0)),(12,.int false .i64 d.ps.n),(13,.int false .i64 c),(18,.int true .i64 t)],[(16,.cells 7 33 (Enc.enc s).cells),KW 56 24 o ⟨0,0⟩,(32,.cells 7 33 (Enc.enc (d.ps.get c)).cells)]++Qy.blk 0 d.ps,40⟩
def qP:Ex→List Nat
 | .normal=>[3,4,5,6,11,12,13,18]
 | .exit _=>[3,4,11,12,13]
 | .ret=>[]
abbrev Gz (c:Nat) (d:Puz) (o:List QA):List AV:=
  [.nilp,.ptr 49 0 0,.ptr 16 0 0,.slz 24 0 o.length (Cap.of 0),.int false .i64 (↑c:Int),.ptr 32 0 0,.slz 0 0 d.ps.n (Cap.of 0),.int false .i64 (↑d.ps.n:Int),.int false
  .i64 (↑c:Int),.int true .i64 (1:Int)]
abbrev XA (s:QP):Nat×Blk:=
  (16,.cells 7 33 [.int false .i64 s.up.kind,.int false .i64 s.up.at_.lo,.int false .i64 s.up.at_.hi,.int false .i64 s.up.wide.lo,.int false .i64 s.up.wide.hi,.int false .i64
  s.up.deep.lo,.int false .i64 s.up.deep.hi,.int false .i64 s.right.kind,.int false .i64 s.right.at_.lo,.int false .i64 s.right.at_.hi,.int false .i64 s.right.wide.lo,.int false
  .i64 s.right.wide.hi,.int false .i64 s.right.deep.lo,.int false .i64 s.right.deep.hi,.int false .i64 s.down.kind,.int false .i64 s.down.at_.lo,.int false .i64 s.down.at_.hi,
  .int false .i64 s.down.wide.lo,.int false .i64 s.down.wide.hi,.int false .i64 s.down.deep.lo,.int false .i64 s.down.deep.hi,.int false .i64 s.left.kind,.int false .i64
  s.left.at_.lo,.int false .i64 s.left.at_.hi,.int false .i64 s.left.wide.lo,.int false .i64 s.left.wide.hi,.int false .i64 s.left.deep.lo,.int false .i64 s.left.deep.hi])
abbrev QCM (o:List QA):Nat×Blk:=
  (24,.rowz true 56 [.int .i64,.int .i64] o.length fun i=>QB.enc (o.getD i (QA.mk (0:Int) (0:Int))))
abbrev X3 (c:Nat) (d:Puz):Nat×Blk:=
  (32,.cells 7 33 [.int false .i64 (d.ps.get c).up.kind,.int false .i64 (d.ps.get c).up.at_.lo,.int false .i64 (d.ps.get c).up.at_.hi,.int false .i64 (d.ps.get c).up.wide.lo,.int
  false .i64 (d.ps.get c).up.wide.hi,.int false .i64 (d.ps.get c).up.deep.lo,.int false .i64 (d.ps.get c).up.deep.hi,.int false .i64 (d.ps.get c).right.kind,.int false .i64
  (d.ps.get c).right.at_.lo,.int false .i64 (d.ps.get c).right.at_.hi,.int false .i64 (d.ps.get c).right.wide.lo,.int false .i64 (d.ps.get c).right.wide.hi,.int false .i64
  (d.ps.get c).right.deep.lo,.int false .i64 (d.ps.get c).right.deep.hi,.int false .i64 (d.ps.get c).down.kind,.int false .i64 (d.ps.get c).down.at_.lo,.int false .i64 (d.ps.get
  c).down.at_.hi,.int false .i64 (d.ps.get c).down.wide.lo,.int false .i64 (d.ps.get c).down.wide.hi,.int false .i64 (d.ps.get c).down.deep.lo,.int false .i64 (d.ps.get
  c).down.deep.hi,.int false .i64 (d.ps.get c).left.kind,.int false .i64 (d.ps.get c).left.at_.lo,.int false .i64 (d.ps.get c).left.at_.hi,.int false .i64 (d.ps.get
  c).left.wide.lo,.int false .i64 (d.ps.get c).left.wide.hi,.int false .i64 (d.ps.get c).left.deep.lo,.int false .i64 (d.ps.get c).left.deep.hi])
abbrev XH (d:Puz):Nat×Blk:=
  (0,.frz [.int .i64,.int .i64,.int .i64,.int .i64,.int .i64,.int .i64,.int .i64,.int .i64,.int .i64,.int .i64,.int .i64,.int .i64,.int .i64,.int .i64,.int .i64,.int
  .i64,.int .i64,.int .i64,.int .i64,.int .i64,.int .i64,.int .i64,.int .i64,.int .i64,.int .i64,.int .i64,.int .i64,.int .i64] d.ps.n fun i=>QB.enc (d.ps.get i))
abbrev K5 (c:Nat) (d:Puz) (o:List QA) (s:QP):List (Nat×Blk):=
  [(XA s),(QCM o),(X3 c d),(XH d)]
abbrev QHX (c:Nat) (o:List QA):Nat×Blk:=
  (776,.rowz true 56 [.int .i64,.int .i64] (o.length + 1) (Q1 o.length (fun i=>QB.enc (o.getD i (QA.mk (0:Int) (0:Int)))) (Qb [[.int false .i64 (↑c:Int),.int true
  .i64 (0:Int)]] 0)))
theorem QRp (d:Puz) (s:QP) (o:List QA) (c:Nat) (g:Nat→Value) :exec (mkE Try.prog Kh) (hnd (mkE Try.prog Kh) 6) (ZI (Qf Try.f43 0)) (JSt.inst (JW d s o c 0) g) (KT [] qP) = .need (true) (.need (bif s.up.kind == (0 :
  Int) then true else true) (.br (!bif s.up.kind == (0:Int) then (d.ps.get c).up.kind == (0:Int) else isF s.up (d.ps.get c).up) (.leaf (.tup (Gz c d o)) ((K5 c d o s))) (.need
  (true) (.need (bif s.right.kind == (0:Int) then true else true) (.br (!bif s.right.kind == (0:Int) then (d.ps.get c).right.kind == (0:Int) else isF s.right (d.ps.get c).right)
  (.leaf (.tup (Gz c d o)) ((K5 c d o s))) (.need (true) (.need (bif s.down.kind == (0:Int) then true else true) (.br (!bif s.down.kind == (0:Int) then (d.ps.get c).down.kind
  == (0:Int) else isF s.down (d.ps.get c).down) (.leaf (.tup (Gz c d o)) ((K5 c d o s))) (.need (true) (.need (bif s.left.kind == (0:Int) then true else true) (.br (!bif
  s.left.kind == (0:Int) then (d.ps.get c).left.kind == (0:Int) else isF s.left (d.ps.get c).left) (.leaf (.tup (Gz c d o)) ((K5 c d o s))) (.need (decide (o.length ≤
  o.length)&&(true&&decide ((o.length + 1 + (o.length + 1) / 4 + 192) * 16≤281474976710656∧o.length + 1≤9223372036854775807))) (.leaf (.tup [.nilp,.ptr 49 0 0,.ptr 16 0 0,
  .slz 776 0 (o.length + 1) (Cap.of 0),.int false .i64 (↑c:Int),.ptr 32 0 0,.slz 0 0 d.ps.n (Cap.of 0),.int false .i64 (↑d.ps.n:Int),.int false .i64 (↑c:Int),.int true
  .i64 (1:Int)]) ([(XA s),(QHX c o),(X3 c d),(XH d)])))))))))))))):=by kernel_rfl
abbrev vk (c:Nat) (d:Puz) (o:List QA):List AV:=
  [.nilp,.ptr 49 0 0,.ptr 16 0 0,.slz 24 0 o.length (Cap.of 0),.int false .i64 (↑c:Int),.ptr 32 0 0,.slz 0 0 d.ps.n (Cap.of 0),.int false .i64 (↑d.ps.n:Int),.int false
  .i64 (↑c:Int),.int true .i64 (2:Int)]
abbrev QIn (c:Nat) (o:List QA):Nat×Blk:=
  (776,.rowz true 56 [.int .i64,.int .i64] (o.length + 1) (Q1 o.length (fun i=>QB.enc (o.getD i (QA.mk (0:Int) (0:Int)))) (Qb [[.int false .i64 (↑c:Int),.int true
  .i64 (1:Int)]] 0)))
theorem QRY (d:Puz) (s:QP) (o:List QA) (c:Nat) (g:Nat→Value) :exec (mkE Try.prog Kh) (hnd (mkE Try.prog Kh) 6) (ZI (Qf Try.f43 0)) (JSt.inst (JW d s o c 1) g) (KT [] qP) = .need (true) (.need (bif s.left.kind == (0 :
  Int) then true else true) (.br (!bif s.left.kind == (0:Int) then (d.ps.get c).up.kind == (0:Int) else isF s.left (d.ps.get c).up) (.leaf (.tup (vk c d o)) ((K5 c d o s)))
  (.need (true) (.need (bif s.up.kind == (0:Int) then true else true) (.br (!bif s.up.kind == (0:Int) then (d.ps.get c).right.kind == (0:Int) else isF s.up (d.ps.get c).right)
  (.leaf (.tup (vk c d o)) ((K5 c d o s))) (.need (true) (.need (bif s.right.kind == (0:Int) then true else true) (.br (!bif s.right.kind == (0:Int) then (d.ps.get
  c).down.kind == (0:Int) else isF s.right (d.ps.get c).down) (.leaf (.tup (vk c d o)) ((K5 c d o s))) (.need (true) (.need (bif s.down.kind == (0:Int) then true else true)
  (.br (!bif s.down.kind == (0:Int) then (d.ps.get c).left.kind == (0:Int) else isF s.down (d.ps.get c).left) (.leaf (.tup (vk c d o)) ((K5 c d o s))) (.need (decide (o.length
  ≤ o.length)&&(true&&decide ((o.length + 1 + (o.length + 1) / 4 + 192) * 16≤281474976710656∧o.length + 1≤9223372036854775807))) (.leaf (.tup [.nilp,.ptr 49 0 0,.ptr 16 0
  0,.slz 776 0 (o.length + 1) (Cap.of 0),.int false .i64 (↑c:Int),.ptr 32 0 0,.slz 0 0 d.ps.n (Cap.of 0),.int false .i64 (↑d.ps.n:Int),.int false .i64 (↑c:Int),.int true
  .i64 (2:Int)]) ([(XA s),(QIn c o),(X3 c d),(XH d)])))))))))))))):=by kernel_rfl
abbrev GL (c:Nat) (d:Puz) (o:List QA):List AV:=
  [.nilp,.ptr 49 0 0,.ptr 16 0 0,.slz 24 0 o.length (Cap.of 0),.int false .i64 (↑c:Int),.ptr 32 0 0,.slz 0 0 d.ps.n (Cap.of 0),.int false .i64 (↑d.ps.n:Int),.int false
  .i64 (↑c:Int),.int true .i64 (3:Int)]
abbrev QGz (c:Nat) (o:List QA):Nat×Blk:=
  (776,.rowz true 56 [.int .i64,.int .i64] (o.length + 1) (Q1 o.length (fun i=>QB.enc (o.getD i (QA.mk (0:Int) (0:Int)))) (Qb [[.int false .i64 (↑c:Int),.int true
  .i64 (2:Int)]] 0)))
theorem QLn (d:Puz) (s:QP) (o:List QA) (c:Nat) (g:Nat→Value) :exec (mkE Try.prog Kh) (hnd (mkE Try.prog Kh) 6) (ZI (Qf Try.f43 0)) (JSt.inst (JW d s o c 2) g) (KT [] qP) = .need (true) (.need (bif s.down.kind == (0 :
  Int) then true else true) (.br (!bif s.down.kind == (0:Int) then (d.ps.get c).up.kind == (0:Int) else isF s.down (d.ps.get c).up) (.leaf (.tup (GL c d o)) ((K5 c d o s)))
  (.need (true) (.need (bif s.left.kind == (0:Int) then true else true) (.br (!bif s.left.kind == (0:Int) then (d.ps.get c).right.kind == (0:Int) else isF s.left (d.ps.get
  c).right) (.leaf (.tup (GL c d o)) ((K5 c d o s))) (.need (true) (.need (bif s.up.kind == (0:Int) then true else true) (.br (!bif s.up.kind == (0:Int) then (d.ps.get
  c).down.kind == (0:Int) else isF s.up (d.ps.get c).down) (.leaf (.tup (GL c d o)) ((K5 c d o s))) (.need (true) (.need (bif s.right.kind == (0:Int) then true else true) (.br
  (!bif s.right.kind == (0:Int) then (d.ps.get c).left.kind == (0:Int) else isF s.right (d.ps.get c).left) (.leaf (.tup (GL c d o)) ((K5 c d o s))) (.need (decide (o.length ≤
  o.length)&&(true&&decide ((o.length + 1 + (o.length + 1) / 4 + 192) * 16≤281474976710656∧o.length + 1≤9223372036854775807))) (.leaf (.tup [.nilp,.ptr 49 0 0,.ptr 16 0 0,
  .slz 776 0 (o.length + 1) (Cap.of 0),.int false .i64 (↑c:Int),.ptr 32 0 0,.slz 0 0 d.ps.n (Cap.of 0),.int false .i64 (↑d.ps.n:Int),.int false .i64 (↑c:Int),.int true
  .i64 (3:Int)]) ([(XA s),(QGz c o),(X3 c d),(XH d)])))))))))))))):=by kernel_rfl
abbrev HA (c:Nat) (d:Puz) (o:List QA):List AV:=
  [.nilp,.ptr 49 0 0,.ptr 16 0 0,.slz 24 0 o.length (Cap.of 0),.int false .i64 (↑c:Int),.ptr 32 0 0,.slz 0 0 d.ps.n (Cap.of 0),.int false .i64 (↑d.ps.n:Int),.int false
  .i64 (↑c:Int),.int true .i64 (4:Int)]
abbrev QDb (c:Nat) (o:List QA):Nat×Blk:=
  (776,.rowz true 56 [.int .i64,.int .i64] (o.length + 1) (Q1 o.length (fun i=>QB.enc (o.getD i (QA.mk (0:Int) (0:Int)))) (Qb [[.int false .i64 (↑c:Int),.int true
  .i64 (3:Int)]] 0)))
theorem QMb (d:Puz) (s:QP) (o:List QA) (c:Nat) (g:Nat→Value) :exec (mkE Try.prog Kh) (hnd (mkE Try.prog Kh) 6) (ZI (Qf Try.f43 0)) (JSt.inst (JW d s o c 3) g) (KT [] qP) = .need (true) (.need (bif s.right.kind == (0 :
  Int) then true else true) (.br (!bif s.right.kind == (0:Int) then (d.ps.get c).up.kind == (0:Int) else isF s.right (d.ps.get c).up) (.leaf (.tup (HA c d o)) ((K5 c d o s)))
  (.need (true) (.need (bif s.down.kind == (0:Int) then true else true) (.br (!bif s.down.kind == (0:Int) then (d.ps.get c).right.kind == (0:Int) else isF s.down (d.ps.get
  c).right) (.leaf (.tup (HA c d o)) ((K5 c d o s))) (.need (true) (.need (bif s.left.kind == (0:Int) then true else true) (.br (!bif s.left.kind == (0:Int) then (d.ps.get
  c).down.kind == (0:Int) else isF s.left (d.ps.get c).down) (.leaf (.tup (HA c d o)) ((K5 c d o s))) (.need (true) (.need (bif s.up.kind == (0:Int) then true else true) (.br
  (!bif s.up.kind == (0:Int) then (d.ps.get c).left.kind == (0:Int) else isF s.up (d.ps.get c).left) (.leaf (.tup (HA c d o)) ((K5 c d o s))) (.need (decide (o.length ≤
  o.length)&&(true&&decide ((o.length + 1 + (o.length + 1) / 4 + 192) * 16≤281474976710656∧o.length + 1≤9223372036854775807))) (.leaf (.tup [.nilp,.ptr 49 0 0,.ptr 16 0 0,
  .slz 776 0 (o.length + 1) (Cap.of 0),.int false .i64 (↑c:Int),.ptr 32 0 0,.slz 0 0 d.ps.n (Cap.of 0),.int false .i64 (↑d.ps.n:Int),.int false .i64 (↑c:Int),.int true
  .i64 (4:Int)]) ([(XA s),(QDb c o),(X3 c d),(XH d)])))))))))))))):=by kernel_rfl
theorem QPN (d:Puz) (s:QP) (o:List QA) (c:Nat) (g:Nat→Value) :exec (mkE Try.prog Kh) (hnd (mkE Try.prog Kh) 6) (ZI (Qf Try.f43 0)) (JSt.inst (JW d s o c 4) g) (KT [] qP) = .leaf (.tup [.ptr 2 0 0,.ptr 49 0 0,.ptr 16
  0 0,.slz 24 0 o.length (Cap.of 0),.slz 0 0 d.ps.n (Cap.of 0),.int false .i64 (↑d.ps.n:Int),.int false .i64 (↑c:Int)]) ([(XA s),(QCM o),(XH d)]):=by kernel_rfl
def jC (d:Puz) (s:QP) (o:List QA) (c:Nat):JSt:=⟨49,[(3,.ptr 16 0 0),(4,.slz 24 0 o.length (.of 0)),(11,.slz 0 0 d.ps.n (.of 0)),(12,.int false .i64 d.ps.n),(13,.int false .i64 c)],[(16,.cells 7 33 (Enc.enc s).cells),KW 56 24 o ⟨0,0⟩]++Qy.blk 0 d.ps,40⟩
theorem QQO (d:Puz) (s:QP) (o o':List QA) (c:Nat) :QO 8 [.ptr 16 0 0,.slz 24 0 o.length (Cap.of 0),.int false .i64 (↑c:Int),.ptr 32 0 0,.slz 0 0 d.ps.n (Cap.of 0),.int false .i64 (↑d.ps.n:Int),.int false .i64 (↑c:Int),
  .int true .i64 (1:Int)] ((K5 c d o s)) (JW d s o' c 1)=( some [0=0,0=0,0=0,o.length=o'.length,Cap.of 0=Cap.of 0,(↑c:Int)=(↑c:Int),0=0,0=0,0=0,
  d.ps.n=d.ps.n,Cap.of 0=Cap.of 0,(↑d.ps.n:Int)=(↑d.ps.n:Int),(↑c:Int)=(↑c:Int),(1:Int)=(1:Int),s.up.kind=s.up.kind,s.up.at_.lo=s.up.at_.lo,
  s.up.at_.hi=s.up.at_.hi,s.up.wide.lo=s.up.wide.lo,s.up.wide.hi=s.up.wide.hi,s.up.deep.lo=s.up.deep.lo,s.up.deep.hi=s.up.deep.hi,s.right.kind=s.right.kind,
  s.right.at_.lo=s.right.at_.lo,s.right.at_.hi=s.right.at_.hi,s.right.wide.lo=s.right.wide.lo,s.right.wide.hi=s.right.wide.hi,s.right.deep.lo=s.right.deep.lo,
  s.right.deep.hi=s.right.deep.hi,s.down.kind=s.down.kind,s.down.at_.lo=s.down.at_.lo,s.down.at_.hi=s.down.at_.hi,s.down.wide.lo=s.down.wide.lo,s.down.wide.hi =
  s.down.wide.hi,s.down.deep.lo=s.down.deep.lo,s.down.deep.hi=s.down.deep.hi,s.left.kind=s.left.kind,s.left.at_.lo=s.left.at_.lo,s.left.at_.hi=s.left.at_.hi,
  s.left.wide.lo=s.left.wide.lo,s.left.wide.hi=s.left.wide.hi,s.left.deep.lo=s.left.deep.lo,s.left.deep.hi=s.left.deep.hi,o'.length≤o.length,QD 2 o'.length (fun i
  => QB.enc (o.getD i (QA.mk (0:Int) (0:Int)))) fun i=>QB.enc (o'.getD i (QA.mk (0:Int) (0:Int))),(d.ps.get c).up.kind=(d.ps.get c).up.kind,(d.ps.get
  c).up.at_.lo=(d.ps.get c).up.at_.lo,(d.ps.get c).up.at_.hi=(d.ps.get c).up.at_.hi,(d.ps.get c).up.wide.lo=(d.ps.get c).up.wide.lo,(d.ps.get c).up.wide.hi=(d.ps.get
  c).up.wide.hi,(d.ps.get c).up.deep.lo=(d.ps.get c).up.deep.lo,(d.ps.get c).up.deep.hi=(d.ps.get c).up.deep.hi,(d.ps.get c).right.kind=(d.ps.get c).right.kind,(d.ps.get
  c).right.at_.lo=(d.ps.get c).right.at_.lo,(d.ps.get c).right.at_.hi=(d.ps.get c).right.at_.hi,(d.ps.get c).right.wide.lo=(d.ps.get c).right.wide.lo,(d.ps.get
  c).right.wide.hi=(d.ps.get c).right.wide.hi,(d.ps.get c).right.deep.lo=(d.ps.get c).right.deep.lo,(d.ps.get c).right.deep.hi=(d.ps.get c).right.deep.hi,(d.ps.get
  c).down.kind=(d.ps.get c).down.kind,(d.ps.get c).down.at_.lo=(d.ps.get c).down.at_.lo,(d.ps.get c).down.at_.hi=(d.ps.get c).down.at_.hi,(d.ps.get c).down.wide.lo =
  (d.ps.get c).down.wide.lo,(d.ps.get c).down.wide.hi=(d.ps.get c).down.wide.hi,(d.ps.get c).down.deep.lo=(d.ps.get c).down.deep.lo,(d.ps.get c).down.deep.hi=(d.ps.get
  c).down.deep.hi,(d.ps.get c).left.kind=(d.ps.get c).left.kind,(d.ps.get c).left.at_.lo=(d.ps.get c).left.at_.lo,(d.ps.get c).left.at_.hi=(d.ps.get c).left.at_.hi,(d.ps.get
  c).left.wide.lo=(d.ps.get c).left.wide.lo,(d.ps.get c).left.wide.hi=(d.ps.get c).left.wide.hi,(d.ps.get c).left.deep.lo=(d.ps.get c).left.deep.lo,(d.ps.get c).left.deep.hi
  = (d.ps.get c).left.deep.hi,d.ps.n≤d.ps.n,QD 28 d.ps.n (fun i=>QB.enc (d.ps.get i)) fun i=>QB.enc (d.ps.get i)]):=by kernel_rfl
theorem QLs (d:Puz) (s:QP) (o o':List QA) (c:Nat) :QO 8 [.ptr 16 0 0,.slz 776 0 (o.length + 1) (Cap.of 0),.int false .i64 (↑c:Int),.ptr 32 0 0,.slz 0 0 d.ps.n (Cap.of 0),.int false .i64 (↑d.ps.n:Int),.int false .i64 (↑c
  : Int),.int true .i64 (1:Int)] ([(XA s),(QHX c o),(X3 c d),(XH d)]) (JW d s o' c 1)=( some [0=0,0=0,0=0,o.length + 1=o'.length,Cap.of 0=Cap.of 0,(↑c
  : Int)=(↑c:Int),0=0,0=0,0=0,d.ps.n=d.ps.n,Cap.of 0=Cap.of 0,(↑d.ps.n:Int)=(↑d.ps.n:Int),(↑c:Int)=(↑c:Int),(1:Int)=(1:Int),s.up.kind =
  s.up.kind,s.up.at_.lo=s.up.at_.lo,s.up.at_.hi=s.up.at_.hi,s.up.wide.lo=s.up.wide.lo,s.up.wide.hi=s.up.wide.hi,s.up.deep.lo=s.up.deep.lo,s.up.deep.hi=s.up.deep.hi,
  s.right.kind=s.right.kind,s.right.at_.lo=s.right.at_.lo,s.right.at_.hi=s.right.at_.hi,s.right.wide.lo=s.right.wide.lo,s.right.wide.hi=s.right.wide.hi,s.right.deep.lo
  = s.right.deep.lo,s.right.deep.hi=s.right.deep.hi,s.down.kind=s.down.kind,s.down.at_.lo=s.down.at_.lo,s.down.at_.hi=s.down.at_.hi,s.down.wide.lo=s.down.wide.lo,
  s.down.wide.hi=s.down.wide.hi,s.down.deep.lo=s.down.deep.lo,s.down.deep.hi=s.down.deep.hi,s.left.kind=s.left.kind,s.left.at_.lo=s.left.at_.lo,s.left.at_.hi =
  s.left.at_.hi,s.left.wide.lo=s.left.wide.lo,s.left.wide.hi=s.left.wide.hi,s.left.deep.lo=s.left.deep.lo,s.left.deep.hi=s.left.deep.hi,o'.length≤o.length + 1,QD 2
  o'.length (Q1 o.length (fun i=>QB.enc (o.getD i (QA.mk (0:Int) (0:Int)))) (Qb [[.int false .i64 (↑c:Int),.int true .i64 (0:Int)]] 0)) fun i=>QB.enc (o'.getD
  i (QA.mk (0:Int) (0:Int))),(d.ps.get c).up.kind=(d.ps.get c).up.kind,(d.ps.get c).up.at_.lo=(d.ps.get c).up.at_.lo,(d.ps.get c).up.at_.hi=(d.ps.get c).up.at_.hi,
  (d.ps.get c).up.wide.lo=(d.ps.get c).up.wide.lo,(d.ps.get c).up.wide.hi=(d.ps.get c).up.wide.hi,(d.ps.get c).up.deep.lo=(d.ps.get c).up.deep.lo,(d.ps.get c).up.deep.hi =
  (d.ps.get c).up.deep.hi,(d.ps.get c).right.kind=(d.ps.get c).right.kind,(d.ps.get c).right.at_.lo=(d.ps.get c).right.at_.lo,(d.ps.get c).right.at_.hi=(d.ps.get
  c).right.at_.hi,(d.ps.get c).right.wide.lo=(d.ps.get c).right.wide.lo,(d.ps.get c).right.wide.hi=(d.ps.get c).right.wide.hi,(d.ps.get c).right.deep.lo=(d.ps.get
  c).right.deep.lo,(d.ps.get c).right.deep.hi=(d.ps.get c).right.deep.hi,(d.ps.get c).down.kind=(d.ps.get c).down.kind,(d.ps.get c).down.at_.lo=(d.ps.get c).down.at_.lo,
  (d.ps.get c).down.at_.hi=(d.ps.get c).down.at_.hi,(d.ps.get c).down.wide.lo=(d.ps.get c).down.wide.lo,(d.ps.get c).down.wide.hi=(d.ps.get c).down.wide.hi,(d.ps.get
  c).down.deep.lo=(d.ps.get c).down.deep.lo,(d.ps.get c).down.deep.hi=(d.ps.get c).down.deep.hi,(d.ps.get c).left.kind=(d.ps.get c).left.kind,(d.ps.get c).left.at_.lo =
  (d.ps.get c).left.at_.lo,(d.ps.get c).left.at_.hi=(d.ps.get c).left.at_.hi,(d.ps.get c).left.wide.lo=(d.ps.get c).left.wide.lo,(d.ps.get c).left.wide.hi=(d.ps.get
  c).left.wide.hi,(d.ps.get c).left.deep.lo=(d.ps.get c).left.deep.lo,(d.ps.get c).left.deep.hi=(d.ps.get c).left.deep.hi,d.ps.n≤d.ps.n,QD 28 d.ps.n (fun i=>QB.enc
  (d.ps.get i)) fun i=>QB.enc (d.ps.get i)]):=by kernel_rfl
theorem QTY (d:Puz) (s:QP) (o o':List QA) (c:Nat) :QO 8 [.ptr 16 0 0,.slz 24 0 o.length (Cap.of 0),.int false .i64 (↑c:Int),.ptr 32 0 0,.slz 0 0 d.ps.n (Cap.of 0),.int false .i64 (↑d.ps.n:Int),.int false .i64 (↑c:Int),
  .int true .i64 (2:Int)] ((K5 c d o s)) (JW d s o' c 2)=( some [0=0,0=0,0=0,o.length=o'.length,Cap.of 0=Cap.of 0,(↑c:Int)=(↑c:Int),0=0,0=0,0=0,
  d.ps.n=d.ps.n,Cap.of 0=Cap.of 0,(↑d.ps.n:Int)=(↑d.ps.n:Int),(↑c:Int)=(↑c:Int),(2:Int)=(2:Int),s.up.kind=s.up.kind,s.up.at_.lo=s.up.at_.lo,
  s.up.at_.hi=s.up.at_.hi,s.up.wide.lo=s.up.wide.lo,s.up.wide.hi=s.up.wide.hi,s.up.deep.lo=s.up.deep.lo,s.up.deep.hi=s.up.deep.hi,s.right.kind=s.right.kind,
  s.right.at_.lo=s.right.at_.lo,s.right.at_.hi=s.right.at_.hi,s.right.wide.lo=s.right.wide.lo,s.right.wide.hi=s.right.wide.hi,s.right.deep.lo=s.right.deep.lo,
  s.right.deep.hi=s.right.deep.hi,s.down.kind=s.down.kind,s.down.at_.lo=s.down.at_.lo,s.down.at_.hi=s.down.at_.hi,s.down.wide.lo=s.down.wide.lo,s.down.wide.hi =
  s.down.wide.hi,s.down.deep.lo=s.down.deep.lo,s.down.deep.hi=s.down.deep.hi,s.left.kind=s.left.kind,s.left.at_.lo=s.left.at_.lo,s.left.at_.hi=s.left.at_.hi,
  s.left.wide.lo=s.left.wide.lo,s.left.wide.hi=s.left.wide.hi,s.left.deep.lo=s.left.deep.lo,s.left.deep.hi=s.left.deep.hi,o'.length≤o.length,QD 2 o'.length (fun i
  => QB.enc (o.getD i (QA.mk (0:Int) (0:Int)))) fun i=>QB.enc (o'.getD i (QA.mk (0:Int) (0:Int))),(d.ps.get c).up.kind=(d.ps.get c).up.kind,(d.ps.get
  c).up.at_.lo=(d.ps.get c).up.at_.lo,(d.ps.get c).up.at_.hi=(d.ps.get c).up.at_.hi,(d.ps.get c).up.wide.lo=(d.ps.get c).up.wide.lo,(d.ps.get c).up.wide.hi=(d.ps.get
  c).up.wide.hi,(d.ps.get c).up.deep.lo=(d.ps.get c).up.deep.lo,(d.ps.get c).up.deep.hi=(d.ps.get c).up.deep.hi,(d.ps.get c).right.kind=(d.ps.get c).right.kind,(d.ps.get
  c).right.at_.lo=(d.ps.get c).right.at_.lo,(d.ps.get c).right.at_.hi=(d.ps.get c).right.at_.hi,(d.ps.get c).right.wide.lo=(d.ps.get c).right.wide.lo,(d.ps.get
  c).right.wide.hi=(d.ps.get c).right.wide.hi,(d.ps.get c).right.deep.lo=(d.ps.get c).right.deep.lo,(d.ps.get c).right.deep.hi=(d.ps.get c).right.deep.hi,(d.ps.get
  c).down.kind=(d.ps.get c).down.kind,(d.ps.get c).down.at_.lo=(d.ps.get c).down.at_.lo,(d.ps.get c).down.at_.hi=(d.ps.get c).down.at_.hi,(d.ps.get c).down.wide.lo =
  (d.ps.get c).down.wide.lo,(d.ps.get c).down.wide.hi=(d.ps.get c).down.wide.hi,(d.ps.get c).down.deep.lo=(d.ps.get c).down.deep.lo,(d.ps.get c).down.deep.hi=(d.ps.get
  c).down.deep.hi,(d.ps.get c).left.kind=(d.ps.get c).left.kind,(d.ps.get c).left.at_.lo=(d.ps.get c).left.at_.lo,(d.ps.get c).left.at_.hi=(d.ps.get c).left.at_.hi,(d.ps.get
  c).left.wide.lo=(d.ps.get c).left.wide.lo,(d.ps.get c).left.wide.hi=(d.ps.get c).left.wide.hi,(d.ps.get c).left.deep.lo=(d.ps.get c).left.deep.lo,(d.ps.get c).left.deep.hi
  = (d.ps.get c).left.deep.hi,d.ps.n≤d.ps.n,QD 28 d.ps.n (fun i=>QB.enc (d.ps.get i)) fun i=>QB.enc (d.ps.get i)]):=by kernel_rfl
theorem QM1 (d:Puz) (s:QP) (o o':List QA) (c:Nat) :QO 8 [.ptr 16 0 0,.slz 776 0 (o.length + 1) (Cap.of 0),.int false .i64 (↑c:Int),.ptr 32 0 0,.slz 0 0 d.ps.n (Cap.of 0),.int false .i64 (↑d.ps.n:Int),.int false .i64 (↑c
  : Int),.int true .i64 (2:Int)] ([(XA s),(QIn c o),(X3 c d),(XH d)]) (JW d s o' c 2)=( some [0=0,0=0,0=0,o.length + 1=o'.length,Cap.of 0=Cap.of 0,(↑c
  : Int)=(↑c:Int),0=0,0=0,0=0,d.ps.n=d.ps.n,Cap.of 0=Cap.of 0,(↑d.ps.n:Int)=(↑d.ps.n:Int),(↑c:Int)=(↑c:Int),(2:Int)=(2:Int),s.up.kind =
  s.up.kind,s.up.at_.lo=s.up.at_.lo,s.up.at_.hi=s.up.at_.hi,s.up.wide.lo=s.up.wide.lo,s.up.wide.hi=s.up.wide.hi,s.up.deep.lo=s.up.deep.lo,s.up.deep.hi=s.up.deep.hi,
  s.right.kind=s.right.kind,s.right.at_.lo=s.right.at_.lo,s.right.at_.hi=s.right.at_.hi,s.right.wide.lo=s.right.wide.lo,s.right.wide.hi=s.right.wide.hi,s.right.deep.lo
  = s.right.deep.lo,s.right.deep.hi=s.right.deep.hi,s.down.kind=s.down.kind,s.down.at_.lo=s.down.at_.lo,s.down.at_.hi=s.down.at_.hi,s.down.wide.lo=s.down.wide.lo,
  s.down.wide.hi=s.down.wide.hi,s.down.deep.lo=s.down.deep.lo,s.down.deep.hi=s.down.deep.hi,s.left.kind=s.left.kind,s.left.at_.lo=s.left.at_.lo,s.left.at_.hi =
  s.left.at_.hi,s.left.wide.lo=s.left.wide.lo,s.left.wide.hi=s.left.wide.hi,s.left.deep.lo=s.left.deep.lo,s.left.deep.hi=s.left.deep.hi,o'.length≤o.length + 1,QD 2
  o'.length (Q1 o.length (fun i=>QB.enc (o.getD i (QA.mk (0:Int) (0:Int)))) (Qb [[.int false .i64 (↑c:Int),.int true .i64 (1:Int)]] 0)) fun i=>QB.enc (o'.getD
  i (QA.mk (0:Int) (0:Int))),(d.ps.get c).up.kind=(d.ps.get c).up.kind,(d.ps.get c).up.at_.lo=(d.ps.get c).up.at_.lo,(d.ps.get c).up.at_.hi=(d.ps.get c).up.at_.hi,
  (d.ps.get c).up.wide.lo=(d.ps.get c).up.wide.lo,(d.ps.get c).up.wide.hi=(d.ps.get c).up.wide.hi,(d.ps.get c).up.deep.lo=(d.ps.get c).up.deep.lo,(d.ps.get c).up.deep.hi =
  (d.ps.get c).up.deep.hi,(d.ps.get c).right.kind=(d.ps.get c).right.kind,(d.ps.get c).right.at_.lo=(d.ps.get c).right.at_.lo,(d.ps.get c).right.at_.hi=(d.ps.get
  c).right.at_.hi,(d.ps.get c).right.wide.lo=(d.ps.get c).right.wide.lo,(d.ps.get c).right.wide.hi=(d.ps.get c).right.wide.hi,(d.ps.get c).right.deep.lo=(d.ps.get
  c).right.deep.lo,(d.ps.get c).right.deep.hi=(d.ps.get c).right.deep.hi,(d.ps.get c).down.kind=(d.ps.get c).down.kind,(d.ps.get c).down.at_.lo=(d.ps.get c).down.at_.lo,
  (d.ps.get c).down.at_.hi=(d.ps.get c).down.at_.hi,(d.ps.get c).down.wide.lo=(d.ps.get c).down.wide.lo,(d.ps.get c).down.wide.hi=(d.ps.get c).down.wide.hi,(d.ps.get
  c).down.deep.lo=(d.ps.get c).down.deep.lo,(d.ps.get c).down.deep.hi=(d.ps.get c).down.deep.hi,(d.ps.get c).left.kind=(d.ps.get c).left.kind,(d.ps.get c).left.at_.lo =
  (d.ps.get c).left.at_.lo,(d.ps.get c).left.at_.hi=(d.ps.get c).left.at_.hi,(d.ps.get c).left.wide.lo=(d.ps.get c).left.wide.lo,(d.ps.get c).left.wide.hi=(d.ps.get
  c).left.wide.hi,(d.ps.get c).left.deep.lo=(d.ps.get c).left.deep.lo,(d.ps.get c).left.deep.hi=(d.ps.get c).left.deep.hi,d.ps.n≤d.ps.n,QD 28 d.ps.n (fun i=>QB.enc
  (d.ps.get i)) fun i=>QB.enc (d.ps.get i)]):=by kernel_rfl
theorem QOU (d:Puz) (s:QP) (o o':List QA) (c:Nat) :QO 8 [.ptr 16 0 0,.slz 24 0 o.length (Cap.of 0),.int false .i64 (↑c:Int),.ptr 32 0 0,.slz 0 0 d.ps.n (Cap.of 0),.int false .i64 (↑d.ps.n:Int),.int false .i64 (↑c:Int),
  .int true .i64 (3:Int)] ((K5 c d o s)) (JW d s o' c 3)=( some [0=0,0=0,0=0,o.length=o'.length,Cap.of 0=Cap.of 0,(↑c:Int)=(↑c:Int),0=0,0=0,0=0,
  d.ps.n=d.ps.n,Cap.of 0=Cap.of 0,(↑d.ps.n:Int)=(↑d.ps.n:Int),(↑c:Int)=(↑c:Int),(3:Int)=(3:Int),s.up.kind=s.up.kind,s.up.at_.lo=s.up.at_.lo,
  s.up.at_.hi=s.up.at_.hi,s.up.wide.lo=s.up.wide.lo,s.up.wide.hi=s.up.wide.hi,s.up.deep.lo=s.up.deep.lo,s.up.deep.hi=s.up.deep.hi,s.right.kind=s.right.kind,
  s.right.at_.lo=s.right.at_.lo,s.right.at_.hi=s.right.at_.hi,s.right.wide.lo=s.right.wide.lo,s.right.wide.hi=s.right.wide.hi,s.right.deep.lo=s.right.deep.lo,
  s.right.deep.hi=s.right.deep.hi,s.down.kind=s.down.kind,s.down.at_.lo=s.down.at_.lo,s.down.at_.hi=s.down.at_.hi,s.down.wide.lo=s.down.wide.lo,s.down.wide.hi =
  s.down.wide.hi,s.down.deep.lo=s.down.deep.lo,s.down.deep.hi=s.down.deep.hi,s.left.kind=s.left.kind,s.left.at_.lo=s.left.at_.lo,s.left.at_.hi=s.left.at_.hi,
  s.left.wide.lo=s.left.wide.lo,s.left.wide.hi=s.left.wide.hi,s.left.deep.lo=s.left.deep.lo,s.left.deep.hi=s.left.deep.hi,o'.length≤o.length,QD 2 o'.length (fun i
  => QB.enc (o.getD i (QA.mk (0:Int) (0:Int)))) fun i=>QB.enc (o'.getD i (QA.mk (0:Int) (0:Int))),(d.ps.get c).up.kind=(d.ps.get c).up.kind,(d.ps.get
  c).up.at_.lo=(d.ps.get c).up.at_.lo,(d.ps.get c).up.at_.hi=(d.ps.get c).up.at_.hi,(d.ps.get c).up.wide.lo=(d.ps.get c).up.wide.lo,(d.ps.get c).up.wide.hi=(d.ps.get
  c).up.wide.hi,(d.ps.get c).up.deep.lo=(d.ps.get c).up.deep.lo,(d.ps.get c).up.deep.hi=(d.ps.get c).up.deep.hi,(d.ps.get c).right.kind=(d.ps.get c).right.kind,(d.ps.get
  c).right.at_.lo=(d.ps.get c).right.at_.lo,(d.ps.get c).right.at_.hi=(d.ps.get c).right.at_.hi,(d.ps.get c).right.wide.lo=(d.ps.get c).right.wide.lo,(d.ps.get
  c).right.wide.hi=(d.ps.get c).right.wide.hi,(d.ps.get c).right.deep.lo=(d.ps.get c).right.deep.lo,(d.ps.get c).right.deep.hi=(d.ps.get c).right.deep.hi,(d.ps.get
  c).down.kind=(d.ps.get c).down.kind,(d.ps.get c).down.at_.lo=(d.ps.get c).down.at_.lo,(d.ps.get c).down.at_.hi=(d.ps.get c).down.at_.hi,(d.ps.get c).down.wide.lo =
  (d.ps.get c).down.wide.lo,(d.ps.get c).down.wide.hi=(d.ps.get c).down.wide.hi,(d.ps.get c).down.deep.lo=(d.ps.get c).down.deep.lo,(d.ps.get c).down.deep.hi=(d.ps.get
  c).down.deep.hi,(d.ps.get c).left.kind=(d.ps.get c).left.kind,(d.ps.get c).left.at_.lo=(d.ps.get c).left.at_.lo,(d.ps.get c).left.at_.hi=(d.ps.get c).left.at_.hi,(d.ps.get
  c).left.wide.lo=(d.ps.get c).left.wide.lo,(d.ps.get c).left.wide.hi=(d.ps.get c).left.wide.hi,(d.ps.get c).left.deep.lo=(d.ps.get c).left.deep.lo,(d.ps.get c).left.deep.hi
  = (d.ps.get c).left.deep.hi,d.ps.n≤d.ps.n,QD 28 d.ps.n (fun i=>QB.enc (d.ps.get i)) fun i=>QB.enc (d.ps.get i)]):=by kernel_rfl
theorem QSS (d:Puz) (s:QP) (o o':List QA) (c:Nat) :QO 8 [.ptr 16 0 0,.slz 776 0 (o.length + 1) (Cap.of 0),.int false .i64 (↑c:Int),.ptr 32 0 0,.slz 0 0 d.ps.n (Cap.of 0),.int false .i64 (↑d.ps.n:Int),.int false .i64 (↑c
  : Int),.int true .i64 (3:Int)] ([(XA s),(QGz c o),(X3 c d),(XH d)]) (JW d s o' c 3)=( some [0=0,0=0,0=0,o.length + 1=o'.length,Cap.of 0=Cap.of 0,(↑c
  : Int)=(↑c:Int),0=0,0=0,0=0,d.ps.n=d.ps.n,Cap.of 0=Cap.of 0,(↑d.ps.n:Int)=(↑d.ps.n:Int),(↑c:Int)=(↑c:Int),(3:Int)=(3:Int),s.up.kind =
  s.up.kind,s.up.at_.lo=s.up.at_.lo,s.up.at_.hi=s.up.at_.hi,s.up.wide.lo=s.up.wide.lo,s.up.wide.hi=s.up.wide.hi,s.up.deep.lo=s.up.deep.lo,s.up.deep.hi=s.up.deep.hi,
  s.right.kind=s.right.kind,s.right.at_.lo=s.right.at_.lo,s.right.at_.hi=s.right.at_.hi,s.right.wide.lo=s.right.wide.lo,s.right.wide.hi=s.right.wide.hi,s.right.deep.lo
  = s.right.deep.lo,s.right.deep.hi=s.right.deep.hi,s.down.kind=s.down.kind,s.down.at_.lo=s.down.at_.lo,s.down.at_.hi=s.down.at_.hi,s.down.wide.lo=s.down.wide.lo,
  s.down.wide.hi=s.down.wide.hi,s.down.deep.lo=s.down.deep.lo,s.down.deep.hi=s.down.deep.hi,s.left.kind=s.left.kind,s.left.at_.lo=s.left.at_.lo,s.left.at_.hi =
  s.left.at_.hi,s.left.wide.lo=s.left.wide.lo,s.left.wide.hi=s.left.wide.hi,s.left.deep.lo=s.left.deep.lo,s.left.deep.hi=s.left.deep.hi,o'.length≤o.length + 1,QD 2
  o'.length (Q1 o.length (fun i=>QB.enc (o.getD i (QA.mk (0:Int) (0:Int)))) (Qb [[.int false .i64 (↑c:Int),.int true .i64 (2:Int)]] 0)) fun i=>QB.enc (o'.getD
  i (QA.mk (0:Int) (0:Int))),(d.ps.get c).up.kind=(d.ps.get c).up.kind,(d.ps.get c).up.at_.lo=(d.ps.get c).up.at_.lo,(d.ps.get c).up.at_.hi=(d.ps.get c).up.at_.hi,
  (d.ps.get c).up.wide.lo=(d.ps.get c).up.wide.lo,(d.ps.get c).up.wide.hi=(d.ps.get c).up.wide.hi,(d.ps.get c).up.deep.lo=(d.ps.get c).up.deep.lo,(d.ps.get c).up.deep.hi =
  (d.ps.get c).up.deep.hi,(d.ps.get c).right.kind=(d.ps.get c).right.kind,(d.ps.get c).right.at_.lo=(d.ps.get c).right.at_.lo,(d.ps.get c).right.at_.hi=(d.ps.get
  c).right.at_.hi,(d.ps.get c).right.wide.lo=(d.ps.get c).right.wide.lo,(d.ps.get c).right.wide.hi=(d.ps.get c).right.wide.hi,(d.ps.get c).right.deep.lo=(d.ps.get
  c).right.deep.lo,(d.ps.get c).right.deep.hi=(d.ps.get c).right.deep.hi,(d.ps.get c).down.kind=(d.ps.get c).down.kind,(d.ps.get c).down.at_.lo=(d.ps.get c).down.at_.lo,
  (d.ps.get c).down.at_.hi=(d.ps.get c).down.at_.hi,(d.ps.get c).down.wide.lo=(d.ps.get c).down.wide.lo,(d.ps.get c).down.wide.hi=(d.ps.get c).down.wide.hi,(d.ps.get
  c).down.deep.lo=(d.ps.get c).down.deep.lo,(d.ps.get c).down.deep.hi=(d.ps.get c).down.deep.hi,(d.ps.get c).left.kind=(d.ps.get c).left.kind,(d.ps.get c).left.at_.lo =
  (d.ps.get c).left.at_.lo,(d.ps.get c).left.at_.hi=(d.ps.get c).left.at_.hi,(d.ps.get c).left.wide.lo=(d.ps.get c).left.wide.lo,(d.ps.get c).left.wide.hi=(d.ps.get
  c).left.wide.hi,(d.ps.get c).left.deep.lo=(d.ps.get c).left.deep.lo,(d.ps.get c).left.deep.hi=(d.ps.get c).left.deep.hi,d.ps.n≤d.ps.n,QD 28 d.ps.n (fun i=>QB.enc
  (d.ps.get i)) fun i=>QB.enc (d.ps.get i)]):=by kernel_rfl
theorem QPS (d:Puz) (s:QP) (o o':List QA) (c:Nat) :QO 8 [.ptr 16 0 0,.slz 24 0 o.length (Cap.of 0),.int false .i64 (↑c:Int),.ptr 32 0 0,.slz 0 0 d.ps.n (Cap.of 0),.int false .i64 (↑d.ps.n:Int),.int false .i64 (↑c:Int),
  .int true .i64 (4:Int)] ((K5 c d o s)) (JW d s o' c 4)=( some [0=0,0=0,0=0,o.length=o'.length,Cap.of 0=Cap.of 0,(↑c:Int)=(↑c:Int),0=0,0=0,0=0,
  d.ps.n=d.ps.n,Cap.of 0=Cap.of 0,(↑d.ps.n:Int)=(↑d.ps.n:Int),(↑c:Int)=(↑c:Int),(4:Int)=(4:Int),s.up.kind=s.up.kind,s.up.at_.lo=s.up.at_.lo,
  s.up.at_.hi=s.up.at_.hi,s.up.wide.lo=s.up.wide.lo,s.up.wide.hi=s.up.wide.hi,s.up.deep.lo=s.up.deep.lo,s.up.deep.hi=s.up.deep.hi,s.right.kind=s.right.kind,
  s.right.at_.lo=s.right.at_.lo,s.right.at_.hi=s.right.at_.hi,s.right.wide.lo=s.right.wide.lo,s.right.wide.hi=s.right.wide.hi,s.right.deep.lo=s.right.deep.lo,
  s.right.deep.hi=s.right.deep.hi,s.down.kind=s.down.kind,s.down.at_.lo=s.down.at_.lo,s.down.at_.hi=s.down.at_.hi,s.down.wide.lo=s.down.wide.lo,s.down.wide.hi =
  s.down.wide.hi,s.down.deep.lo=s.down.deep.lo,s.down.deep.hi=s.down.deep.hi,s.left.kind=s.left.kind,s.left.at_.lo=s.left.at_.lo,s.left.at_.hi=s.left.at_.hi,
  s.left.wide.lo=s.left.wide.lo,s.left.wide.hi=s.left.wide.hi,s.left.deep.lo=s.left.deep.lo,s.left.deep.hi=s.left.deep.hi,o'.length≤o.length,QD 2 o'.length (fun i
  => QB.enc (o.getD i (QA.mk (0:Int) (0:Int)))) fun i=>QB.enc (o'.getD i (QA.mk (0:Int) (0:Int))),(d.ps.get c).up.kind=(d.ps.get c).up.kind,(d.ps.get
  c).up.at_.lo=(d.ps.get c).up.at_.lo,(d.ps.get c).up.at_.hi=(d.ps.get c).up.at_.hi,(d.ps.get c).up.wide.lo=(d.ps.get c).up.wide.lo,(d.ps.get c).up.wide.hi=(d.ps.get
  c).up.wide.hi,(d.ps.get c).up.deep.lo=(d.ps.get c).up.deep.lo,(d.ps.get c).up.deep.hi=(d.ps.get c).up.deep.hi,(d.ps.get c).right.kind=(d.ps.get c).right.kind,(d.ps.get
  c).right.at_.lo=(d.ps.get c).right.at_.lo,(d.ps.get c).right.at_.hi=(d.ps.get c).right.at_.hi,(d.ps.get c).right.wide.lo=(d.ps.get c).right.wide.lo,(d.ps.get
  c).right.wide.hi=(d.ps.get c).right.wide.hi,(d.ps.get c).right.deep.lo=(d.ps.get c).right.deep.lo,(d.ps.get c).right.deep.hi=(d.ps.get c).right.deep.hi,(d.ps.get
  c).down.kind=(d.ps.get c).down.kind,(d.ps.get c).down.at_.lo=(d.ps.get c).down.at_.lo,(d.ps.get c).down.at_.hi=(d.ps.get c).down.at_.hi,(d.ps.get c).down.wide.lo =
  (d.ps.get c).down.wide.lo,(d.ps.get c).down.wide.hi=(d.ps.get c).down.wide.hi,(d.ps.get c).down.deep.lo=(d.ps.get c).down.deep.lo,(d.ps.get c).down.deep.hi=(d.ps.get
  c).down.deep.hi,(d.ps.get c).left.kind=(d.ps.get c).left.kind,(d.ps.get c).left.at_.lo=(d.ps.get c).left.at_.lo,(d.ps.get c).left.at_.hi=(d.ps.get c).left.at_.hi,(d.ps.get
  c).left.wide.lo=(d.ps.get c).left.wide.lo,(d.ps.get c).left.wide.hi=(d.ps.get c).left.wide.hi,(d.ps.get c).left.deep.lo=(d.ps.get c).left.deep.lo,(d.ps.get c).left.deep.hi
  = (d.ps.get c).left.deep.hi,d.ps.n≤d.ps.n,QD 28 d.ps.n (fun i=>QB.enc (d.ps.get i)) fun i=>QB.enc (d.ps.get i)]):=by kernel_rfl
theorem QTZ (d:Puz) (s:QP) (o o':List QA) (c:Nat) :QO 8 [.ptr 16 0 0,.slz 776 0 (o.length + 1) (Cap.of 0),.int false .i64 (↑c:Int),.ptr 32 0 0,.slz 0 0 d.ps.n (Cap.of 0),.int false .i64 (↑d.ps.n:Int),.int false .i64 (↑c
  : Int),.int true .i64 (4:Int)] ([(XA s),(QDb c o),(X3 c d),(XH d)]) (JW d s o' c 4)=( some [0=0,0=0,0=0,o.length + 1=o'.length,Cap.of 0=Cap.of 0,(↑c
  : Int)=(↑c:Int),0=0,0=0,0=0,d.ps.n=d.ps.n,Cap.of 0=Cap.of 0,(↑d.ps.n:Int)=(↑d.ps.n:Int),(↑c:Int)=(↑c:Int),(4:Int)=(4:Int),s.up.kind =
  s.up.kind,s.up.at_.lo=s.up.at_.lo,s.up.at_.hi=s.up.at_.hi,s.up.wide.lo=s.up.wide.lo,s.up.wide.hi=s.up.wide.hi,s.up.deep.lo=s.up.deep.lo,s.up.deep.hi=s.up.deep.hi,
  s.right.kind=s.right.kind,s.right.at_.lo=s.right.at_.lo,s.right.at_.hi=s.right.at_.hi,s.right.wide.lo=s.right.wide.lo,s.right.wide.hi=s.right.wide.hi,s.right.deep.lo
  = s.right.deep.lo,s.right.deep.hi=s.right.deep.hi,s.down.kind=s.down.kind,s.down.at_.lo=s.down.at_.lo,s.down.at_.hi=s.down.at_.hi,s.down.wide.lo=s.down.wide.lo,
  s.down.wide.hi=s.down.wide.hi,s.down.deep.lo=s.down.deep.lo,s.down.deep.hi=s.down.deep.hi,s.left.kind=s.left.kind,s.left.at_.lo=s.left.at_.lo,s.left.at_.hi =
  s.left.at_.hi,s.left.wide.lo=s.left.wide.lo,s.left.wide.hi=s.left.wide.hi,s.left.deep.lo=s.left.deep.lo,s.left.deep.hi=s.left.deep.hi,o'.length≤o.length + 1,QD 2
  o'.length (Q1 o.length (fun i=>QB.enc (o.getD i (QA.mk (0:Int) (0:Int)))) (Qb [[.int false .i64 (↑c:Int),.int true .i64 (3:Int)]] 0)) fun i=>QB.enc (o'.getD
  i (QA.mk (0:Int) (0:Int))),(d.ps.get c).up.kind=(d.ps.get c).up.kind,(d.ps.get c).up.at_.lo=(d.ps.get c).up.at_.lo,(d.ps.get c).up.at_.hi=(d.ps.get c).up.at_.hi,
  (d.ps.get c).up.wide.lo=(d.ps.get c).up.wide.lo,(d.ps.get c).up.wide.hi=(d.ps.get c).up.wide.hi,(d.ps.get c).up.deep.lo=(d.ps.get c).up.deep.lo,(d.ps.get c).up.deep.hi =
  (d.ps.get c).up.deep.hi,(d.ps.get c).right.kind=(d.ps.get c).right.kind,(d.ps.get c).right.at_.lo=(d.ps.get c).right.at_.lo,(d.ps.get c).right.at_.hi=(d.ps.get
  c).right.at_.hi,(d.ps.get c).right.wide.lo=(d.ps.get c).right.wide.lo,(d.ps.get c).right.wide.hi=(d.ps.get c).right.wide.hi,(d.ps.get c).right.deep.lo=(d.ps.get
  c).right.deep.lo,(d.ps.get c).right.deep.hi=(d.ps.get c).right.deep.hi,(d.ps.get c).down.kind=(d.ps.get c).down.kind,(d.ps.get c).down.at_.lo=(d.ps.get c).down.at_.lo,
  (d.ps.get c).down.at_.hi=(d.ps.get c).down.at_.hi,(d.ps.get c).down.wide.lo=(d.ps.get c).down.wide.lo,(d.ps.get c).down.wide.hi=(d.ps.get c).down.wide.hi,(d.ps.get
  c).down.deep.lo=(d.ps.get c).down.deep.lo,(d.ps.get c).down.deep.hi=(d.ps.get c).down.deep.hi,(d.ps.get c).left.kind=(d.ps.get c).left.kind,(d.ps.get c).left.at_.lo =
  (d.ps.get c).left.at_.lo,(d.ps.get c).left.at_.hi=(d.ps.get c).left.at_.hi,(d.ps.get c).left.wide.lo=(d.ps.get c).left.wide.lo,(d.ps.get c).left.wide.hi=(d.ps.get
  c).left.wide.hi,(d.ps.get c).left.deep.lo=(d.ps.get c).left.deep.lo,(d.ps.get c).left.deep.hi=(d.ps.get c).left.deep.hi,d.ps.n≤d.ps.n,QD 28 d.ps.n (fun i=>QB.enc
  (d.ps.get i)) fun i=>QB.enc (d.ps.get i)]):=by kernel_rfl
theorem QNR (d:Puz) (s:QP) (o o':List QA) (c:Nat) :QO 8 [.ptr 16 0 0,.slz 24 0 o.length (Cap.of 0),.slz 0 0 d.ps.n (Cap.of 0),.int false .i64 (↑d.ps.n:Int),.int false .i64 (↑c:Int)] ([(XA s),(QCM o),(XH d)]) (jC d
  s o' c)=( some [0=0,0=0,0=0,o.length=o'.length,Cap.of 0=Cap.of 0,0=0,d.ps.n=d.ps.n,Cap.of 0=Cap.of 0,(↑d.ps.n:Int)=(↑d.ps.n:Int),(↑c:Int)=(↑c :
  Int),s.up.kind=s.up.kind,s.up.at_.lo=s.up.at_.lo,s.up.at_.hi=s.up.at_.hi,s.up.wide.lo=s.up.wide.lo,s.up.wide.hi=s.up.wide.hi,s.up.deep.lo=s.up.deep.lo,
  s.up.deep.hi=s.up.deep.hi,s.right.kind=s.right.kind,s.right.at_.lo=s.right.at_.lo,s.right.at_.hi=s.right.at_.hi,s.right.wide.lo=s.right.wide.lo,s.right.wide.hi =
  s.right.wide.hi,s.right.deep.lo=s.right.deep.lo,s.right.deep.hi=s.right.deep.hi,s.down.kind=s.down.kind,s.down.at_.lo=s.down.at_.lo,s.down.at_.hi=s.down.at_.hi,
  s.down.wide.lo=s.down.wide.lo,s.down.wide.hi=s.down.wide.hi,s.down.deep.lo=s.down.deep.lo,s.down.deep.hi=s.down.deep.hi,s.left.kind=s.left.kind,s.left.at_.lo =
  s.left.at_.lo,s.left.at_.hi=s.left.at_.hi,s.left.wide.lo=s.left.wide.lo,s.left.wide.hi=s.left.wide.hi,s.left.deep.lo=s.left.deep.lo,s.left.deep.hi=s.left.deep.hi,
  o'.length≤o.length,QD 2 o'.length (fun i=>QB.enc (o.getD i (QA.mk (0:Int) (0:Int)))) fun i=>QB.enc (o'.getD i (QA.mk (0:Int) (0:Int))),d.ps.n≤d.ps.n,
  QD 28 d.ps.n (fun i=>QB.enc (d.ps.get i)) fun i=>QB.enc (d.ps.get i)]):=by kernel_rfl
end Go.Proofs.Ytbpffdkemeoajaa
namespace Go.SX
open Go Go.RowKit Go.Proofs.Ytbpffdkemeoajaa
theorem Gm {Q:AV→List (Nat×Blk)→Prop} {q0 q1 q2 q3 m0 m1 m2 m3 n0 n1 n2 n3:Bool} {L0 L1 L2 L3 K:QC} (hm0:m0=true) (hm1:m1=true) (hm2:m2=true) (hm3:m3=true) (h0:n0=true) (h1:n1=true) (h2:n2=true) (h3:n3=true)
  (hno:(q0&&(q1&&(q2&&q3)))=false→L0.den Q∧L1.den Q∧L2.den Q∧L3.den Q) (hyes:(q0&&(q1&&(q2&&q3)))=true→K.den Q) :
  (QC.need m0 (.need n0 (.br (!q0) L0 (.need m1 (.need n1 (.br (!q1) L1 (.need m2 (.need n2 (.br (!q2) L2 (.need m3 (.need n3 (.br (!q3) L3 K)))))))))))).den Q:=by
 subst hm0 hm1 hm2 hm3 h0 h1 h2 h3
 refine QF rfl (QF rfl (QL (fun h => ?_) (fun h=>QF rfl (QF rfl (QL (fun h' => ?_) (fun h'=>QF rfl (QF rfl (QL (fun h'' => ?_) (fun h''=>QF rfl (QF rfl (QL (fun h''' => ?_) (fun h''' => ?_)))))))))))) 
 ·exact (hno (by cases q0<;>simp_all)).1
 ·exact (hno (by cases q0<;>cases q1<;>simp_all)).2.1
 ·exact (hno (by cases q0<;>cases q1<;>cases q2<;>simp_all)).2.2.1
 ·exact (hno (by cases q0<;>cases q1<;>cases q2<;>cases q3<;>simp_all)).2.2.2
 ·exact hyes (by cases q0<;>cases q1<;>cases q2<;>cases q3<;>simp_all)
theorem Zm {Q:AV→List (Nat×Blk)→Prop} {t t':QC} (e:t=t') (h:t'.den Q):Xe Q t:=⟨e ▸ h⟩
end Go.SX
namespace Go.Proofs.Ytbpffdkemeoajaa
open Go.SX
def isS (x y:Edge):Bool:=cond (x.kind == 0) (y.kind == 0) (isF x y)
def XJ (d:Puz) (s:QP) (c t:Nat):Bool:=isS (XE s ((0 + 4 - t) % 4)) (XE (d.ps.get c) 0)&&(isS (XE s ((1 + 4 - t) % 4)) (XE (d.ps.get c) 1)&&(isS (XE s ((2 + 4 - t) % 4)) (XE (d.ps.get c) 2)&&isS (XE s ((3 + 4 - t) % 4)) (XE (d.ps.get c) 3)))
def VU (q:Bool) (l:List QA) (c t:Nat):List QA:=match q with
 | true=>l++[⟨c,t⟩]
 | false=>l
def KG (d:Puz) (s:QP) (l:List QA) (c:Nat):Nat→List QA
 | 0=>l
 | t + 1=>VU (XJ d s c t) (KG d s l c t) c t
def KB (d:Puz) (s:QP):Nat→List QA
 | 0=>[]
 | c + 1=>KG d s (KB d s c) c 4
theorem QOt (q:Bool) (l:List QA) (c t:Nat):(VU q l c t).length≤l.length + 1:=by
 cases q<;>simp [VU]
theorem QBL (d:Puz) (s:QP) (l:List QA) (c:Nat):∀ t,(KG d s l c t).length≤l.length + t
 | 0=>Nat.le_refl _
 | t + 1=>by
  have:=QBL d s l c t
  have:=QOt (XJ d s c t) (KG d s l c t) c t
  simp only [KG];omega
theorem vY (d:Puz) (s:QP):∀ c,(KB d s c).length≤4 * c
 | 0=>Nat.le_refl _
 | c + 1=>by
  have:=vY d s c
  have:=QBL d s (KB d s c) c 4
  simp only [KB];omega
theorem Hq (o:List QA) (c t:Nat):QD 2 (o++[(⟨c,t⟩:QA)]).length (Q1 o.length (fun i=>QB.enc (o.getD i ⟨0,0⟩)) (Qb [[AV.int false IntKind.i64 c,AV.int true IntKind.i64 t]] 0)) (fun i=>QB.enc ((o++[(⟨c,t⟩:QA)]).getD i ⟨0,0⟩)):=by
 intro i hi
 rw [List.length_append,List.length_singleton] at hi
 have key:∀ j,Q1 o.length (fun i=>QB.enc (o.getD i ⟨0,0⟩)) (Qb [[AV.int false IntKind.i64 c,AV.int true IntKind.i64 t]] 0) i j=if i < o.length then QB.enc (o.getD i ⟨0,0⟩) j else X5 [AV.int false IntKind.i64 c,AV.int true IntKind.i64 t] j:=by
  intro j
  rw [Xf]
  split
  ·rfl
  ·rename_i h
   have:i=o.length:=by omega
   subst this
   simp [Qb]
 have e:i < o.length→(o++[(⟨c,t⟩:QA)]).getD i ⟨0,0⟩=o.getD i ⟨0,0⟩:=fun h=>by rw [List.getD_eq_getElem?_getD,List.getD_eq_getElem?_getD,List.getElem?_append_left h]
 have e2:¬ i < o.length→(o++[(⟨c,t⟩:QA)]).getD i ⟨0,0⟩=⟨c,t⟩:=fun h=>by
  have:i=o.length:=by omega
  subst this
  simp
 refine ⟨?_,?_,trivial⟩
 ·show Q1 _ _ _ i 0=QB.enc ((o++[(⟨c,t⟩:QA)]).getD i ⟨0,0⟩) 0
  rw [key 0]
  split
  ·rename_i h;rw [e h]
  ·rename_i h;rw [e2 h];rfl
 ·show Q1 _ _ _ i 1=QB.enc ((o++[(⟨c,t⟩:QA)]).getD i ⟨0,0⟩) 1
  rw [key 1]
  split
  ·rename_i h;rw [e h]
  ·rename_i h;rw [e2 h];rfl
theorem QMR (d:Puz) (s:QP) (o:List QA) (c:Nat) (ho:o.length≤4000):JK (fun t=>JW d s (KG d s o c t) c t) (fun t=>t≤4) (fun t=>4 - t) (fun _ e J=>e = .exit 2∧J=jC d s (KG d s o c 4) c) 8 qP [] (mkE Try.prog Kh) (fun _=>hnd (mkE Try.prog Kh) 6) (ZI (Qf Try.f43 0)):=by
 refine ⟨fun t g ht => ?_⟩
 have nd:∀ b:Bool,(cond b true true)=true:=fun b=>by cases b<;>rfl
 have hlen:=QBL d s o c t
 rcases (by have:=ht;omega:t=0∨t=1∨t=2∨t=3∨t=4) with rfl|rfl|rfl|rfl|rfl
 ·refine Zm (QRp d s _ c g) (Gm rfl rfl rfl rfl (nd _) (nd _) (nd _) (nd _) (fun hq => ?_) (fun hq => ?_))
  ·have hq:XJ d s c 0=false:=hq
   have e:KG d s o c 1=KG d s o c 0:=by simp only [KG,hq,VU]
   refine ⟨?_,?_,?_,?_⟩<;>(
    refine ⟨1,by decide,by decide,fun _ _ h=>h,rfl,rfl,_,QQO _ _ _ _ _,?_⟩
    rw [e]
    repeat' first|exact trivial|with_reducible rfl|exact Nat.le_refl _|exact QD.refl _ _ _|refine And.intro ?_ ?_)
  ·have hq:XJ d s c 0=true:=hq
   have e:KG d s o c 1=KG d s o c 0++[⟨(c:Nat),(0:Nat)⟩]:=by simp only [KG,hq,VU]
   refine QF (by simp;omega) ⟨1,by decide,by decide,fun _ _ h=>h,rfl,rfl,_,QLs _ _ _ _ _,?_⟩
   rw [e]
   repeat' first|exact trivial|with_reducible rfl|exact Nat.le_refl _|exact QD.refl _ _ _|refine And.intro ?_ ?_
   ·simp
   ·simp
   ·exact Hq _ c 0
 ·refine Zm (QRY d s _ c g) (Gm rfl rfl rfl rfl (nd _) (nd _) (nd _) (nd _) (fun hq => ?_) (fun hq => ?_))
  ·have hq:XJ d s c 1=false:=hq
   have e:KG d s o c 2=KG d s o c 1:=by simp only [KG,hq,VU]
   refine ⟨?_,?_,?_,?_⟩<;>(
    refine ⟨2,by decide,by decide,fun _ _ h=>h,rfl,rfl,_,QTY _ _ _ _ _,?_⟩
    rw [e]
    repeat' first|exact trivial|with_reducible rfl|exact Nat.le_refl _|exact QD.refl _ _ _|refine And.intro ?_ ?_)
  ·have hq:XJ d s c 1=true:=hq
   have e:KG d s o c 2=KG d s o c 1++[⟨(c:Nat),(1:Nat)⟩]:=by simp only [KG,hq,VU]
   refine QF (by simp;omega) ⟨2,by decide,by decide,fun _ _ h=>h,rfl,rfl,_,QM1 _ _ _ _ _,?_⟩
   rw [e]
   repeat' first|exact trivial|with_reducible rfl|exact Nat.le_refl _|exact QD.refl _ _ _|refine And.intro ?_ ?_
   ·simp
   ·simp
   ·exact Hq _ c 1
 ·refine Zm (QLn d s _ c g) (Gm rfl rfl rfl rfl (nd _) (nd _) (nd _) (nd _) (fun hq => ?_) (fun hq => ?_))
  ·have hq:XJ d s c 2=false:=hq
   have e:KG d s o c 3=KG d s o c 2:=by simp only [KG,hq,VU]
   refine ⟨?_,?_,?_,?_⟩<;>(
    refine ⟨3,by decide,by decide,fun _ _ h=>h,rfl,rfl,_,QOU _ _ _ _ _,?_⟩
    rw [e]
    repeat' first|exact trivial|with_reducible rfl|exact Nat.le_refl _|exact QD.refl _ _ _|refine And.intro ?_ ?_)
  ·have hq:XJ d s c 2=true:=hq
   have e:KG d s o c 3=KG d s o c 2++[⟨(c:Nat),(2:Nat)⟩]:=by simp only [KG,hq,VU]
   refine QF (by simp;omega) ⟨3,by decide,by decide,fun _ _ h=>h,rfl,rfl,_,QSS _ _ _ _ _,?_⟩
   rw [e]
   repeat' first|exact trivial|with_reducible rfl|exact Nat.le_refl _|exact QD.refl _ _ _|refine And.intro ?_ ?_
   ·simp
   ·simp
   ·exact Hq _ c 2
 ·refine Zm (QMb d s _ c g) (Gm rfl rfl rfl rfl (nd _) (nd _) (nd _) (nd _) (fun hq => ?_) (fun hq => ?_))
  ·have hq:XJ d s c 3=false:=hq
   have e:KG d s o c 4=KG d s o c 3:=by simp only [KG,hq,VU]
   refine ⟨?_,?_,?_,?_⟩<;>(
    refine ⟨4,by decide,by decide,fun _ _ h=>h,rfl,rfl,_,QPS _ _ _ _ _,?_⟩
    rw [e]
    repeat' first|exact trivial|with_reducible rfl|exact Nat.le_refl _|exact QD.refl _ _ _|refine And.intro ?_ ?_)
  ·have hq:XJ d s c 3=true:=hq
   have e:KG d s o c 4=KG d s o c 3++[⟨(c:Nat),(3:Nat)⟩]:=by simp only [KG,hq,VU]
   refine QF (by simp;omega) ⟨4,by decide,by decide,fun _ _ h=>h,rfl,rfl,_,QTZ _ _ _ _ _,?_⟩
   rw [e]
   repeat' first|exact trivial|with_reducible rfl|exact Nat.le_refl _|exact QD.refl _ _ _|refine And.intro ?_ ?_
   ·simp
   ·simp
   ·exact Hq _ c 3
 ·refine Zm (QPN d s _ c g) ?_
  refine ⟨_,⟨rfl,rfl⟩,rfl,rfl,_,QNR _ _ _ _ _,?_⟩
  repeat' first|exact trivial|with_reducible rfl|exact Nat.le_refl _|exact QD.refl _ _ _|refine And.intro ?_ ?_
end Go.Proofs.Ytbpffdkemeoajaa
namespace Go.Proofs.Ytbpffdkemeoajaa
open Go.SX
def QIF:Ex→List Nat
 | .normal=>[3,4,11,12,13]
 | .exit _=>[4]
 | .ret=>[]
def Wr (o:List QA):JSt:=⟨49,[(4,.slz 24 0 o.length (.of 0))],[KW 56 24 o ⟨0,0⟩],32⟩
abbrev QGh (d:Puz) (o':List QA) (s:QP):List (Nat×Blk):=
  [(16,.cells 7 33 [.int false .i64 s.up.kind,.int false .i64 s.up.at_.lo,.int false .i64 s.up.at_.hi,.int false .i64 s.up.wide.lo,.int false .i64 s.up.wide.hi,.int false .i64
  s.up.deep.lo,.int false .i64 s.up.deep.hi,.int false .i64 s.right.kind,.int false .i64 s.right.at_.lo,.int false .i64 s.right.at_.hi,.int false .i64 s.right.wide.lo,.int false
  .i64 s.right.wide.hi,.int false .i64 s.right.deep.lo,.int false .i64 s.right.deep.hi,.int false .i64 s.down.kind,.int false .i64 s.down.at_.lo,.int false .i64 s.down.at_.hi,
  .int false .i64 s.down.wide.lo,.int false .i64 s.down.wide.hi,.int false .i64 s.down.deep.lo,.int false .i64 s.down.deep.hi,.int false .i64 s.left.kind,.int false .i64
  s.left.at_.lo,.int false .i64 s.left.at_.hi,.int false .i64 s.left.wide.lo,.int false .i64 s.left.wide.hi,.int false .i64 s.left.deep.lo,.int false .i64 s.left.deep.hi]),(24,
  .rowz true 56 [.int .i64,.int .i64] o'.length fun i=>QB.enc (o'.getD i (QA.mk (0:Int) (0:Int)))),(0,.frz [.int .i64,.int .i64,.int .i64,.int .i64,.int .i64,.int
  .i64,.int .i64,.int .i64,.int .i64,.int .i64,.int .i64,.int .i64,.int .i64,.int .i64,.int .i64,.int .i64,.int .i64,.int .i64,.int .i64,.int .i64,.int .i64,.int .i64,
  .int .i64,.int .i64,.int .i64,.int .i64,.int .i64,.int .i64] d.ps.n fun i=>QB.enc (d.ps.get i))]
theorem QOl (d:Puz) (s:QP) (o o':List QA) (c:Nat) (g:Nat→Value) :exec (mkE Try.prog Kh) { hnd (mkE Try.prog Kh) 1 with loop:=fun _=>KC 8 [] (JW d s o c 0) [(True,.exit 2,jC d s o' c)] } (Qf Try.f43 0) (JSt.inst (ZV d s
  o c) g) (KT [] QIF) = .br (decide ((↑c:Int) < (↑d.ps.n:Int))) (.need (decide ((0:Int)≤(↑c:Int)∧(↑c:Int) < (↑d.ps.n:Int))&&decide (d.ps.n≤d.ps.n)) (.need
  (decide (c < d.ps.n)) (.ask (0=0) (.ask (0=0) (.ask (0=0) (.ask (o.length=o.length) (.ask (Cap.of 0=Cap.of 0) (.ask ((↑c:Int)=(↑c:Int)) (.ask (0=0) (.ask (0=0)
  (.ask (0=0) (.ask (d.ps.n=d.ps.n) (.ask (Cap.of 0=Cap.of 0) (.ask ((↑d.ps.n:Int)=(↑d.ps.n:Int)) (.ask ((↑c:Int)=(↑c:Int)) (.ask ((0:Int)=(0:Int)) (.ask
  (s.up.kind=s.up.kind) (.ask (s.up.at_.lo=s.up.at_.lo) (.ask (s.up.at_.hi=s.up.at_.hi) (.ask (s.up.wide.lo=s.up.wide.lo) (.ask (s.up.wide.hi=s.up.wide.hi) (.ask
  (s.up.deep.lo=s.up.deep.lo) (.ask (s.up.deep.hi=s.up.deep.hi) (.ask (s.right.kind=s.right.kind) (.ask (s.right.at_.lo=s.right.at_.lo) (.ask (s.right.at_.hi=s.right.at_.hi)
  (.ask (s.right.wide.lo=s.right.wide.lo) (.ask (s.right.wide.hi=s.right.wide.hi) (.ask (s.right.deep.lo=s.right.deep.lo) (.ask (s.right.deep.hi=s.right.deep.hi) (.ask
  (s.down.kind=s.down.kind) (.ask (s.down.at_.lo=s.down.at_.lo) (.ask (s.down.at_.hi=s.down.at_.hi) (.ask (s.down.wide.lo=s.down.wide.lo) (.ask (s.down.wide.hi =
  s.down.wide.hi) (.ask (s.down.deep.lo=s.down.deep.lo) (.ask (s.down.deep.hi=s.down.deep.hi) (.ask (s.left.kind=s.left.kind) (.ask (s.left.at_.lo=s.left.at_.lo) (.ask
  (s.left.at_.hi=s.left.at_.hi) (.ask (s.left.wide.lo=s.left.wide.lo) (.ask (s.left.wide.hi=s.left.wide.hi) (.ask (s.left.deep.lo=s.left.deep.lo) (.ask (s.left.deep.hi =
  s.left.deep.hi) (.ask (o.length≤o.length) (.ask (QD 2 o.length (fun i=>QB.enc (o.getD i (QA.mk (0:Int) (0:Int)))) fun i=>QB.enc (o.getD i (QA.mk (0:Int) (0 :
  Int)))) (.ask ((d.ps.get c).up.kind=(d.ps.get c).up.kind) (.ask ((d.ps.get c).up.at_.lo=(d.ps.get c).up.at_.lo) (.ask ((d.ps.get c).up.at_.hi=(d.ps.get c).up.at_.hi) (.ask
  ((d.ps.get c).up.wide.lo=(d.ps.get c).up.wide.lo) (.ask ((d.ps.get c).up.wide.hi=(d.ps.get c).up.wide.hi) (.ask ((d.ps.get c).up.deep.lo=(d.ps.get c).up.deep.lo) (.ask
  ((d.ps.get c).up.deep.hi=(d.ps.get c).up.deep.hi) (.ask ((d.ps.get c).right.kind=(d.ps.get c).right.kind) (.ask ((d.ps.get c).right.at_.lo=(d.ps.get c).right.at_.lo) (.ask
  ((d.ps.get c).right.at_.hi=(d.ps.get c).right.at_.hi) (.ask ((d.ps.get c).right.wide.lo=(d.ps.get c).right.wide.lo) (.ask ((d.ps.get c).right.wide.hi=(d.ps.get
  c).right.wide.hi) (.ask ((d.ps.get c).right.deep.lo=(d.ps.get c).right.deep.lo) (.ask ((d.ps.get c).right.deep.hi=(d.ps.get c).right.deep.hi) (.ask ((d.ps.get c).down.kind =
  (d.ps.get c).down.kind) (.ask ((d.ps.get c).down.at_.lo=(d.ps.get c).down.at_.lo) (.ask ((d.ps.get c).down.at_.hi=(d.ps.get c).down.at_.hi) (.ask ((d.ps.get c).down.wide.lo =
  (d.ps.get c).down.wide.lo) (.ask ((d.ps.get c).down.wide.hi=(d.ps.get c).down.wide.hi) (.ask ((d.ps.get c).down.deep.lo=(d.ps.get c).down.deep.lo) (.ask ((d.ps.get
  c).down.deep.hi=(d.ps.get c).down.deep.hi) (.ask ((d.ps.get c).left.kind=(d.ps.get c).left.kind) (.ask ((d.ps.get c).left.at_.lo=(d.ps.get c).left.at_.lo) (.ask ((d.ps.get
  c).left.at_.hi=(d.ps.get c).left.at_.hi) (.ask ((d.ps.get c).left.wide.lo=(d.ps.get c).left.wide.lo) (.ask ((d.ps.get c).left.wide.hi=(d.ps.get c).left.wide.hi) (.ask
  ((d.ps.get c).left.deep.lo=(d.ps.get c).left.deep.lo) (.ask ((d.ps.get c).left.deep.hi=(d.ps.get c).left.deep.hi) (.ask (d.ps.n≤d.ps.n) (.ask (QD 28 d.ps.n (fun i=>
  QB.enc (d.ps.get i)) fun i=>QB.enc (d.ps.get i)) (.asm (True) (.all (fun (g0:Nat→Value) => .leaf (.tup [.nilp,.ptr 49 0 0,.ptr 16 0 0,.slz 24 0 o'.length (Cap.of 0),
  .slz 0 0 d.ps.n (Cap.of 0),.int false .i64 (↑d.ps.n:Int),.int false .i64 (IntKind.i64.wrap ((↑c:Int) + (1:Int)))]) ((QGh d o'
  s))))))))))))))))))))))))))))))))))))))))))))))))))))))))))))))))))))))))))))))))) (.leaf (.tup [.ptr 0 0 0,.ptr 49 0 0,.slz 24 0 o.length (Cap.of 0)]) ([(24,.rowz true 56 [.int
  .i64,.int .i64] o.length fun i=>QB.enc (o.getD i (QA.mk (0:Int) (0:Int))))])):=by kernel_rfl
theorem QTO (d:Puz) (s:QP) (o' o2:List QA) (c c1:Nat) :QO 8 [.ptr 16 0 0,.slz 24 0 o'.length (Cap.of 0),.slz 0 0 d.ps.n (Cap.of 0),.int false .i64 (↑d.ps.n:Int),.int false .i64 (IntKind.i64.wrap ((↑c:Int) + (1:Int)))] ((QGh
  d o' s)) (ZV d s o2 c1)=( some [0=0,0=0,0=0,o'.length=o2.length,Cap.of 0=Cap.of 0,0=0,d.ps.n=d.ps.n,Cap.of 0=Cap.of 0,(↑d.ps.n:Int)=(↑d.ps.n:Int),
  IntKind.i64.wrap ((↑c:Int) + (1:Int))=(↑c1:Int),s.up.kind=s.up.kind,s.up.at_.lo=s.up.at_.lo,s.up.at_.hi=s.up.at_.hi,s.up.wide.lo=s.up.wide.lo,s.up.wide.hi =
  s.up.wide.hi,s.up.deep.lo=s.up.deep.lo,s.up.deep.hi=s.up.deep.hi,s.right.kind=s.right.kind,s.right.at_.lo=s.right.at_.lo,s.right.at_.hi=s.right.at_.hi,
  s.right.wide.lo=s.right.wide.lo,s.right.wide.hi=s.right.wide.hi,s.right.deep.lo=s.right.deep.lo,s.right.deep.hi=s.right.deep.hi,s.down.kind=s.down.kind,s.down.at_.lo
  = s.down.at_.lo,s.down.at_.hi=s.down.at_.hi,s.down.wide.lo=s.down.wide.lo,s.down.wide.hi=s.down.wide.hi,s.down.deep.lo=s.down.deep.lo,s.down.deep.hi=s.down.deep.hi,
  s.left.kind=s.left.kind,s.left.at_.lo=s.left.at_.lo,s.left.at_.hi=s.left.at_.hi,s.left.wide.lo=s.left.wide.lo,s.left.wide.hi=s.left.wide.hi,s.left.deep.lo =
  s.left.deep.lo,s.left.deep.hi=s.left.deep.hi,o2.length≤o'.length,QD 2 o2.length (fun i=>QB.enc (o'.getD i (QA.mk (0:Int) (0:Int)))) fun i=>QB.enc (o2.getD i
  (QA.mk (0:Int) (0:Int))),d.ps.n≤d.ps.n,QD 28 d.ps.n (fun i=>QB.enc (d.ps.get i)) fun i=>QB.enc (d.ps.get i)]):=by kernel_rfl
theorem QNN (o o2:List QA):QO 8 [AV.slz (24:Nat) (0:Nat) o.length (Cap.of (0:Nat))] ([((24:Nat),Blk.rowz true (56:Nat) [CK.int IntKind.i64,CK.int IntKind.i64] o.length fun i=>QB.enc (o.getD i (QA.mk (0:Int) (0:Int))))]) (Wr o2)=(
  some [(0:Nat)=(0:Nat),o.length=o2.length,Cap.of (0:Nat)=Cap.of (0:Nat),o2.length≤o.length,QD (2:Nat) o2.length (fun i=>QB.enc (o.getD i (QA.mk (0 :
  Int) (0:Int)))) fun i=>QB.enc (o2.getD i (QA.mk (0:Int) (0:Int)))]):=by kernel_rfl
theorem QMK (o:List QA):QO 8 [.slz 24 0 o.length (.of 0)] [(24,.rowz true 56 [.int .i64,.int .i64] o.length fun i=>QB.enc (o.getD i ⟨0,0⟩))] (Ks 8 (.slz 0 0 o.length (.of 0)) [KW 56 0 o ⟨0,0⟩])=(
  some [(0:Nat)=(0:Nat),o.length=o.length,Cap.of (0:Nat)=Cap.of (0:Nat),o.length≤o.length,QD (2:Nat) o.length (fun i=>QB.enc (o.getD i (QA.mk (0:Int)
  (0:Int)))) fun i=>QB.enc (o.getD i (QA.mk (0:Int) (0:Int)))]):=by kernel_rfl
end Go.Proofs.Ytbpffdkemeoajaa
namespace Go.Proofs.Ytbpffdkemeoajaa
open Go.SX
theorem QMw (d:Puz) (s:QP) (o:List QA) (c:Nat) (ho:o.length≤4000) (G:Ctx) (hrd:G.rd=none) (hG:G.n=8):Q4 (mkE Try.prog Kh) G { hnd (mkE Try.prog Kh) 1 with loop:=fun _=>KC 8 [] (JW d s o c 0) [(True,.exit 2,jC d s (KG d s o c 4) c)] } (Qf Try.f43 0):=by
 refine JR (body:=ZI (Qf Try.f43 0)) (QN Zh) hrd (by kernel_rfl) ?_
 refine Je (n0:=8) (QN Zh) (by omega) (fun t ht=>Qt (QN Zh) 6 G _ hrd) (fun t ht=>(by decide:8≤40)) ?_ (QMR d s o c ho) (s0:=0) (Nat.zero_le _) ?_
 ·rintro t e J ⟨_,rfl⟩;exact (by decide:8≤40)
 ·rintro e J ⟨rfl,rfl⟩
  exact ⟨_,List.mem_cons_self,trivial,rfl,rfl⟩
theorem QSB (d:Puz) (s:QP) (hn:d.ps.n≤900):JK (fun c=>ZV d s (KB d s c) c) (fun c=>c≤d.ps.n) (fun c=>d.ps.n - c) (fun _ e J=>e = .exit 0∧J=Wr (KB d s d.ps.n)) 8 QIF [] (mkE Try.prog Kh) (fun c=>{ hnd (mkE Try.prog Kh) 1 with loop:=fun _=>KC 8 [] (JW d s (KB d s c) c 0) [(True,.exit 2,jC d s (KG d s (KB d s c) c 4) c)] }) (Qf Try.f43 0):=by
 refine ⟨fun c g hc=>Zm (QOl d s _ _ c g) ?_⟩
 refine QL (fun h => ?_) (fun h => ?_)
 ·have h:c < d.ps.n:=by have:=of_decide_eq_true h;omega
  have hw:IntKind.i64.wrap ((c:Int) + 1)=((c + 1:Nat):Int):=(w64 (by omega) (by omega)).trans (by omega)
  refine QF (by simp;omega) (QF (by simp;omega) ?_)
  repeat' first|refine Qc (show _=_ by with_reducible rfl) ?_|refine Qc (show _≤_ from Nat.le_refl _) ?_|refine Qc (show QD _ _ _ _ from QD.refl _ _ _) ?_
  refine KQ fun _=>KX fun g => ?_
  refine ⟨c + 1,h,by show d.ps.n - (c + 1) < d.ps.n - c;omega,fun _ _ h=>h,rfl,rfl,_,QTO d s _ (KB d s (c + 1)) c (c + 1),?_⟩
  repeat' first|exact trivial|with_reducible rfl|exact Nat.le_refl _|exact QD.refl _ _ _|exact hw|refine And.intro ?_ ?_
  rfl
 ·have:c=d.ps.n:=by have:=of_decide_eq_false h;omega
  subst this
  refine ⟨_,⟨rfl,rfl⟩,rfl,rfl,_,QNN _ _,?_⟩
  repeat' first|exact trivial|with_reducible rfl|exact Nat.le_refl _|exact QD.refl _ _ _|refine And.intro ?_ ?_
theorem QON (d:Puz) (s:QP) (hn:d.ps.n≤900) (G:Ctx) (hrd:G.rd=none) (hG:G.n=8):Q4 (mkE Try.prog Kh) G { hnd (mkE Try.prog Kh) 1 with loop:=fun _=>KC 8 [] (ZV d s [] (0:Nat)) [(True,.exit 0,Wr (KB d s d.ps.n))] } (Qm Try.f43):=by
 refine JR (body:=Qf Try.f43 0) (QN Zh) hrd (by kernel_rfl) ?_
 refine Je (n0:=8) (QN Zh) (by omega) (fun c hc=>QMw d s (KB d s c) c (by have:=vY d s c;have:c≤d.ps.n:=hc;omega) G hrd hG) (fun c hc=>(by decide:8≤32)) ?_ (QSB d s hn) (s0:=0) (Nat.zero_le _) ?_
 ·rintro t e J ⟨_,rfl⟩;exact (by decide:8≤32)
 ·rintro e J ⟨rfl,rfl⟩
  exact ⟨_,List.mem_cons_self,trivial,rfl,rfl⟩
def vc:WF (Puz×QP×Unit):=fun|(d,(s,_))=>(decide (d.ps.n≤900),.slz 0 0 (KB d s d.ps.n).length (.of 0),[KW 56 0 (KB d s d.ps.n) ⟨0,0⟩])
def QCO:FC:=wFC vc
theorem QQH (d:Puz) (s:QP) :KY (mkE Try.prog Kh) { hnd (mkE Try.prog Kh) 1 with loop:=fun _=>KC 8 [] (ZV d s [] (0:Nat)) [(True,.exit 0,Wr (KB d s d.ps.n))] } Try.f43 (QS.vals
  0 ((d,s,()):Puz×QP×Unit)) (QS.blks 0 ((d,s,()):Puz×QP×Unit)) 8 = .ask (0=0) (.ask (0=0) (.ask (0=0) (.ask (0=0) (.ask (d.ps.n=d.ps.n) (.ask
  (Cap.of 0=Cap.of 0) (.ask ((↑d.ps.n:Int)=(↑d.ps.n:Int)) (.ask ((0:Int)=(0:Int)) (.ask (s.up.kind=s.up.kind) (.ask (s.up.at_.lo=s.up.at_.lo) (.ask (s.up.at_.hi =
  s.up.at_.hi) (.ask (s.up.wide.lo=s.up.wide.lo) (.ask (s.up.wide.hi=s.up.wide.hi) (.ask (s.up.deep.lo=s.up.deep.lo) (.ask (s.up.deep.hi=s.up.deep.hi) (.ask (s.right.kind =
  s.right.kind) (.ask (s.right.at_.lo=s.right.at_.lo) (.ask (s.right.at_.hi=s.right.at_.hi) (.ask (s.right.wide.lo=s.right.wide.lo) (.ask (s.right.wide.hi=s.right.wide.hi)
  (.ask (s.right.deep.lo=s.right.deep.lo) (.ask (s.right.deep.hi=s.right.deep.hi) (.ask (s.down.kind=s.down.kind) (.ask (s.down.at_.lo=s.down.at_.lo) (.ask (s.down.at_.hi =
  s.down.at_.hi) (.ask (s.down.wide.lo=s.down.wide.lo) (.ask (s.down.wide.hi=s.down.wide.hi) (.ask (s.down.deep.lo=s.down.deep.lo) (.ask (s.down.deep.hi=s.down.deep.hi) (.ask
  (s.left.kind=s.left.kind) (.ask (s.left.at_.lo=s.left.at_.lo) (.ask (s.left.at_.hi=s.left.at_.hi) (.ask (s.left.wide.lo=s.left.wide.lo) (.ask (s.left.wide.hi =
  s.left.wide.hi) (.ask (s.left.deep.lo=s.left.deep.lo) (.ask (s.left.deep.hi=s.left.deep.hi) (.ask (0=0) (.ask (d.ps.n≤d.ps.n) (.ask (QD 28 d.ps.n (fun i=>QB.enc
  (d.ps.get i)) fun i=>QB.enc (d.ps.get i)) (.asm (True) (.all (fun (g0:Nat→Value) => .leaf (.slz 24 0 (KB d s d.ps.n).length (Cap.of 0)) ([(24,.rowz true 56 [.int .i64,
  .int .i64] (KB d s d.ps.n).length fun i=>QB.enc ((KB d s d.ps.n).getD i (QA.mk (0:Int) (0:Int))))])))))))))))))))))))))))))))))))))))))))))):=by kernel_rfl
theorem QRs:Kz (mkE Try.prog Kh) (Qm Try.f43) 8 vc (fun x_=>{ hnd (mkE Try.prog Kh) 1 with loop:=fun _=>KC 8 [] (ZV x_.1 x_.2.1 [] (0:Nat)) [(True,.exit 0,Wr (KB x_.1 x_.2.1 x_.1.ps.n))] }):=by
 refine ⟨?_⟩
 rintro ⟨d,⟨s,⟨⟩⟩⟩ hp G h1 h2
 exact QON d s (of_decide_eq_true hp) G h1 h2
theorem QNw:K1 (mkE Try.prog Kh) Try.f43 8 vc (fun x_=>{ hnd (mkE Try.prog Kh) 1 with loop:=fun _=>KC 8 [] (ZV x_.1 x_.2.1 [] (0:Nat)) [(True,.exit 0,Wr (KB x_.1 x_.2.1 x_.1.ps.n))] }):=by
 refine ⟨?_⟩
 rintro ⟨d,⟨s,⟨⟩⟩⟩ hp
 refine ⟨⟨rfl,by simp [vc,KW,Blk.own,Blk.all],rfl⟩,⟨?_⟩⟩
 rw [QQH d s]
 simp only [vc] at hp
 repeat' first|refine Qc (show _=_ by with_reducible rfl) ?_|refine Qc (show _≤_ from Nat.le_refl _) ?_|refine Qc (show QD _ _ _ _ from QD.refl _ _ _) ?_
 refine KQ fun _=>KX fun g=>⟨rfl,rfl,_,QMK _,?_⟩
 repeat' first|exact trivial|with_reducible rfl|exact Nat.le_refl _|exact QD.refl _ _ _|refine And.intro ?_ ?_
theorem QKA:QM Try.prog 43 QCO:=
 K6 (QN Zh) Try.func43 (by kernel_rfl) (by kernel_rfl) (by decide) QRs QNw
def YO:Tab:=QX Kh 43 QCO
theorem QDC:QU YO:=Zh.add QKA
end Go.Proofs.Ytbpffdkemeoajaa
