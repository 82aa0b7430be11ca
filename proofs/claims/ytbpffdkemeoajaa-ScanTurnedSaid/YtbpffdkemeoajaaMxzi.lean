/- - -/
import Derived.Test.YtbpffdkemeoajaaMxs
import Derived.Test.YtbpffdkemeoajaaMxp
import Derived.Test.YtbpffdkemeoajaaMxzh
open Go.IntKind (i64)
set_option maxRecDepth 100000
namespace Go.SX
open Go Go.RowKit Go.Proofs.Ytbpffdkemeoajaa
def jd(E:Env)(H:Hnd)(body:Code):Nat→St→(Ex→St→QB)→QB
 | 0, _, _ => .fail "rounds"
 | n+1,st,K=>exec E H body st fun e st'=>match e with
  | .normal=>jd E H body n st' K
  | .exit id=>K (.exit id) st'
  | .ret=>K .ret st'
theorem QKL{E:Env}(hE:E.Sound){G:Ctx}{H:Hnd}{body:Code}(hH:Q5 E G H body):∀(n:Nat) (st:St) (K:Ex→St→QB) (T:AV→List (Nat×Blk)→Prop) (Q:Exit→Act→World→Prop) (a:Act) (w:World),G.n≤st.nid→(jd E H body n st K).den T→Rep G st.nid st a w →
  (∀ e st' a' w',G.n≤st'.nid→(K e st').den T→Rep G st'.nid st' a' w'→Q e.to a' w')→Code.roundsIn (FW G.rd) 0 E.P body Q n a w
 | 0,_,_,_,_,_,_,_,h,_,_=>h.elim
 | n+1,st,K,T,Q,a,w,hn,h,hrep,hQ=>by
  rw[roundsIn_succ];have key:JJ E G body (exec E H body):=Yt hE hH.call hH.yield body hH.loop;refine key st _ T _ a w hn h hrep ?_;intro e st' a' w' hn' hden hrep';cases e with
  | normal=>exact QKL hE hH n st' K T Q a' w' hn' hden hrep' hQ
  | exit id=>exact hQ (.exit id) st' a' w' hn' hden hrep'
  | ret=>exact hQ .ret st' a' w' hn' hden hrep'
theorem QUq{E:Env}(hE:E.Sound){G:Ctx}{H:Hnd}{body:Code}(hH:Q5 E G H body)(n:Nat):JJ E G (.loop body) (jd E H body n):=
 fun st K T Q a w h1 h2 h3 h4=>wpIn_loop_rounds n (QKL hE hH n st K T Q a w h1 h2 h3 h4)
end Go.SX
namespace Go.Proofs.Ytbpffdkemeoajaa
open Go Go.SX
structure Tur where
 cells:List Int
 al:Int
 e:Int
 su:Int
 ma:Int
def rwI(id:Nat)(l:List Int):Nat×Blk:=(id,.rowz true 3 [.int .i64] l.length fun i=>QA.enc (l.getD i (0:Int)))
def rzP(id n:Nat)(P:Nat→QI):Nat×Blk:=(id,.rowz true 33 (QA.ks (α:=QI)) n fun i=>QA.enc (P i))
def rzJ(id n:Nat)(P:Nat→Jn):Nat×Blk:=(id,.rowz true 70 (QA.ks (α:=Jn)) n fun i=>QA.enc (P i))
variable {n:Nat}(x:QD)(k m:Nat)(sc:Nat→QI)(i:Nat)(os:Nat→QI)(m':Nat)(oh:Nat→Jn)
def piC(s sn h hn:Nat):List AV:=[.int false .i64 x.d.play.length,.int false .i64 x.d.play.slack,.int false .i64 x.d.play.loose,.int false .i64 x.d.play.damp.lo,.int false .i64 x.d.play.damp.hi,.int false .i64 x.d.wide,.int false .i64 x.d.high,.bool false x.d.turn,.slz 0 0 x.d.ps.n (.of 0),.slz s 0 sn (.of 0),.slz h 0 hn (.of 0),.int false .i64 x.lost,.int false .i64 x.foreign]
def tqB(o:Tur)(sc:Nat→QI)(th:Nat→Jn)(os:Nat→QI)(oh:Nat→Jn)(i m:Nat):List (Nat×Blk):=[(376,.cells 0 50 (piC x 400 x.scans.n 408 m)),(384,.cells 0 50 (piC x 416 i 424 m)),rzP 400 x.scans.n sc,rzJ 408 m th,rzP 416 i os,rzJ 424 m oh,rwI 136 o.cells]++laB x
def tqS(o:Tur)(k:Nat):List (Nat×AV):=[(2,.ptr 8 0 0),(5,.slz 136 0 o.cells.length (.of 0)),(6,.int false .i64 o.al),(7,.int false .i64 o.e),(8,.int false .i64 o.su),(9,.int false .i64 o.ma),(11,.int false .i64 x.scans.n),(12,.int false .i64 k),(13,.ptr 376 0 0),(14,.ptr 384 0 0)]
def tqL:List Nat:=[2,5,6,7,8,9,11,12,13,14]
def ZG(o:Tur)(k:Nat)(sc:Nat→QI)(th:Nat→Jn)(os:Nat→QI)(oh:Nat→Jn)(m:Nat):JSt:=⟨279,tqS x o k++[(99,.int false .i64 x.hang.n),(100,.int false .i64 m)],tqB x o sc th os oh 0 m,512⟩
def HV(o:Tur)(k:Nat)(sc:Nat→QI)(th:Nat→Jn)(os:Nat→QI)(oh:Nat→Jn):JSt:=⟨279,tqS x o k,tqB x o sc th os oh 0 x.hang.n,512⟩
def QGF:Ex→List Nat
 | .normal=>tqL++[99,100]
 | .exit _=>tqL
 | .ret=>[]
def vc(o:Tur)(k:Nat)(sc:Nat→QI)(th:Nat→Jn)(os:Nat→QI)(oh:Nat→Jn)(i:Nat):JSt:=⟨279,tqS x o k++[(167,.int false .i64 x.scans.n),(168,.int false .i64 i)],tqB x o sc th os oh i x.hang.n,512⟩
def HS(o:Tur)(k:Nat)(sc:Nat→QI)(th:Nat→Jn)(os:Nat→QI)(oh:Nat→Jn):JSt:=⟨279,tqS x o k,tqB x o sc th os oh x.scans.n x.hang.n,512⟩
def QHm:Ex→List Nat
 | .normal=>tqL++[167,168]
 | .exit _=>tqL
 | .ret=>[]
noncomputable abbrev G6(o:Tur)(x:QD):List AV:=
  [.nilp,.ptr 279 0 0,.ptr 8 0 0,.slz 136 0 o.cells.length cO,vi o.al,vi o.e,vi o.su,vi o.ma,.int false .i64
  (x.scans.n:Int),vi (k:Int),.ptr 376 0 0,.ptr 384 0 0,vi (x.hang.n:Int),vi (i64.wrap ((m:Int)+1))]
noncomputable abbrev VS:Nat×Blk:=
  (8,.cells 0 50 [vi x.d.play.length,vi x.d.play.slack,vi x.d.play.loose,vi x.d.play.damp.lo,vi x.d.play.damp.hi,
  .int false .i64 x.d.wide,vi x.d.high,.bool false x.d.turn,.slz 0 0 x.d.ps.n cO,.slz 1 0 x.scans.n cO,.slz 2 0 x.hang.n cO,.int false .i64
  x.lost,vi x.foreign])
noncomputable abbrev Xs(o:Tur):Nat×Blk:=
  (136,.rowz true 3 [.int .i64] o.cells.length fun i=>QA.enc (o.cells.getD i 0))
noncomputable abbrev QIH(x:QD):Nat×Blk:=
  (376,.cells 0 50 [vi x.d.play.length,vi x.d.play.slack,vi x.d.play.loose,vi x.d.play.damp.lo,.int false .i64
  x.d.play.damp.hi,vi x.d.wide,vi x.d.high,.bool false x.d.turn,.slz 0 0 x.d.ps.n cO,.slz 400 0 x.scans.n cO,.slz 784 0 (m+1) (Cap.of
  0),vi x.lost,vi x.foreign])
noncomputable abbrev QHH(x:QD):Nat×Blk:=
  (384,.cells 0 50 [vi x.d.play.length,vi x.d.play.slack,vi x.d.play.loose,vi x.d.play.damp.lo,.int false .i64
  x.d.play.damp.hi,vi x.d.wide,vi x.d.high,.bool false x.d.turn,.slz 0 0 x.d.ps.n cO,.slz 416 0 0 cO,.slz 1064 0 (m+1) cO,
  .int false .i64 x.lost,vi x.foreign])
abbrev KJ:List CK:=
  [.int .i64,.int .i64,.int .i64,.int .i64,.int .i64,.int .i64,.int .i64,.int .i64,.int .i64,.int .i64,.int .i64,.int .i64,.int .i64,.int .i64,.int .i64,.int .i64,.int
  .i64,.int .i64,.int .i64,.int .i64,.int .i64,.int .i64,.int .i64,.int .i64,.int .i64,.int .i64,.int .i64,.int .i64]
abbrev KR:List CK:=
  [.int .i64,.int .i64,.int .i64,.int .i64]
noncomputable abbrev Xu(x:QD):Nat×Blk:=
  (400,.rowz true 33 KJ x.scans.n fun i=>QA.enc (sc i))
noncomputable abbrev QCH(x:QD):List AV:=
  [vi (x.hang.get m).a,vi ((i64.wrap ((x.hang.get m).i+1)).tmod (4:Int)),vi (x.hang.get m).b,vi ((i64.wrap
  ((x.hang.get m).j+1)).tmod (4:Int))]
noncomputable abbrev Xp:Nat×Blk:=
  (416,.rowz true 33 KJ 0 fun i=>QA.enc (os i))
noncomputable abbrev qB(x:QD):List AV:=
  [vi ((i64.wrap ((x.hang.get (i64.wrap (i64.wrap ((x.hang.n:Int)-1)-(m:Int))).toNat).a+(k:Int))).tmod (x.scans.n:Int)),.int false
  .i64 (x.hang.get (i64.wrap (i64.wrap ((x.hang.n:Int)-1)-(m:Int))).toNat).i,vi ((i64.wrap ((x.hang.get (i64.wrap
  (i64.wrap ((x.hang.n:Int)-1)-(m:Int))).toNat).b+(k:Int))).tmod (x.scans.n:Int)),vi (x.hang.get (i64.wrap (i64.wrap ((x.hang.n :
  Int)-1)-(m:Int))).toNat).j]
noncomputable abbrev QAK(x:QD):Nat×Blk:=
  (376,.cells 0 50 [vi x.d.play.length,vi x.d.play.slack,vi x.d.play.loose,vi x.d.play.damp.lo,.int false .i64
  x.d.play.damp.hi,vi x.d.wide,vi x.d.high,.bool false x.d.turn,.slz 0 0 x.d.ps.n cO,.slz 400 0 x.scans.n cO,.slz 736 0 (m+1) (Cap.of
  0),vi x.lost,vi x.foreign])
noncomputable abbrev zu(x:QD):Nat×Blk:=
  (384,.cells 0 50 [vi x.d.play.length,vi x.d.play.slack,vi x.d.play.loose,vi x.d.play.damp.lo,.int false .i64
  x.d.play.damp.hi,vi x.d.wide,vi x.d.high,.bool false x.d.turn,.slz 0 0 x.d.ps.n cO,.slz 416 0 0 cO,.slz 1016 0 (m+1) cO,
  .int false .i64 x.lost,vi x.foreign])
noncomputable abbrev QBY(x:QD):List AV:=
  [vi (x.hang.get m).a,vi ((i64.wrap ((x.hang.get m).i+1)).tmod (4:Int)),vi (x.hang.get m).b,vi (x.hang.get m).j]
noncomputable abbrev Hk(x:QD):Nat×Blk:=
  (1016,.rowz true 70 KR (m+1) (QP m (fun i=>QA.enc (oh i)) (QJ [(qB k m x)] 0)))
noncomputable abbrev QED(x:QD):List AV:=
  [vi (x.hang.get m).a,vi (x.hang.get m).i,vi (x.hang.get m).b,vi ((i64.wrap ((x.hang.get m).j+1)).tmod (4:Int))]
noncomputable abbrev QLj(x:QD):Nat×Blk:=
  (376,.cells 0 50 [vi x.d.play.length,vi x.d.play.slack,vi x.d.play.loose,vi x.d.play.damp.lo,.int false .i64
  x.d.play.damp.hi,vi x.d.wide,vi x.d.high,.bool false x.d.turn,.slz 0 0 x.d.ps.n cO,.slz 400 0 x.scans.n cO,.slz 688 0 (m+1) (Cap.of
  0),vi x.lost,vi x.foreign])
noncomputable abbrev QHw(x:QD):Nat×Blk:=
  (384,.cells 0 50 [vi x.d.play.length,vi x.d.play.slack,vi x.d.play.loose,vi x.d.play.damp.lo,.int false .i64
  x.d.play.damp.hi,vi x.d.wide,vi x.d.high,.bool false x.d.turn,.slz 0 0 x.d.ps.n cO,.slz 416 0 0 cO,.slz 968 0 (m+1) cO,
  .int false .i64 x.lost,vi x.foreign])
noncomputable abbrev QBm(x:QD):List AV:=
  [vi (x.hang.get m).a,vi (x.hang.get m).i,vi (x.hang.get m).b,vi (x.hang.get m).j]
noncomputable abbrev QKl(x:QD):Nat×Blk:=
  (376,.cells 0 50 [vi x.d.play.length,vi x.d.play.slack,vi x.d.play.loose,vi x.d.play.damp.lo,.int false .i64
  x.d.play.damp.hi,vi x.d.wide,vi x.d.high,.bool false x.d.turn,.slz 0 0 x.d.ps.n cO,.slz 400 0 x.scans.n cO,.slz 408 0 m cO,
  .int false .i64 x.lost,vi x.foreign])
noncomputable abbrev QHs(x:QD):Nat×Blk:=
  (384,.cells 0 50 [vi x.d.play.length,vi x.d.play.slack,vi x.d.play.loose,vi x.d.play.damp.lo,.int false .i64
  x.d.play.damp.hi,vi x.d.wide,vi x.d.high,.bool false x.d.turn,.slz 0 0 x.d.ps.n cO,.slz 416 0 0 cO,.slz 424 0 m cO,.int
  false .i64 x.lost,vi x.foreign])
theorem QV3(o:Tur)(k:Nat)(sc:Nat→QI)(th:Nat→Jn)(os:Nat→QI)(oh:Nat→Jn)(m:Nat)(g:Nat→Value):exec (mkE Try.prog Ks) (hnd (mkE Try.prog Ks) 3) (QZ Try.f10 1) (JSt.inst (ZG x o k sc th os oh m) g) (KW [] QGF) = .br (decide ((m:Int)<(x.hang.n:Int)))
  (.need (decide ((0:Int)≤(m:Int)∧(m:Int)<(x.hang.n:Int))&&decide (x.hang.n≤x.hang.n)) (.need (decide (m<x.hang.n)) (.br ((x.hang.get m).a==(k:Int)) (.br
  ((x.hang.get m).b==(k:Int)) (.need (decide (m≤m)&&(true&&decide ((m+1+(m+1) / 4+192)*32≤281474976710656∧m+1≤9223372036854775807))) (.need (decide ((0 :
  Int)≤i64.wrap (i64.wrap ((x.hang.n:Int)-1)-(m:Int))∧i64.wrap (i64.wrap ((x.hang.n:Int)-1)-(m:Int))<(x.hang.n:Int))&&decide
  (x.hang.n≤x.hang.n)) (.need (decide ((i64.wrap (i64.wrap ((x.hang.n:Int)-1)-(m:Int))).toNat<x.hang.n)) (.need (!decide ((x.scans.n:Int)=0)) (.need
  (!decide ((x.scans.n:Int)=0)) (.need (decide (m≤m)&&(true&&decide ((m+1+(m+1) / 4+192)*32≤281474976710656∧m+1≤9223372036854775807))) (.leaf (.tup (G6 k
  m o x)) ([(VS x),(Xs o),(QIH m x),(QHH m x),(0,.frz KJ x.d.ps.n fun i=>QA.enc (x.d.ps.get i)),(1,.frz KJ x.scans.n fun i=>QA.enc (x.scans.get i)),(2,
  .frz KR x.hang.n fun i=>QA.enc (x.hang.get i)),(Xu sc x),(784,.rowz true 70 KR (m+1) (QP m (fun i=>QA.enc (th i)) (QJ [(QCH m x)] 0))),(Xp os),(1064,
  .rowz true 70 KR (m+1) (QP m (fun i=>QA.enc (oh i)) (QJ [(qB k m x)] 0)))])))))))) (.need (decide (m≤m)&&(true&&decide ((m+1+(m+1) / 4+192)*32 ≤
  281474976710656∧m+1≤9223372036854775807))) (.need (decide ((0:Int)≤i64.wrap (i64.wrap ((x.hang.n:Int)-1)-(m:Int))∧i64.wrap
  (i64.wrap ((x.hang.n:Int)-1)-(m:Int))<(x.hang.n:Int))&&decide (x.hang.n≤x.hang.n)) (.need (decide ((i64.wrap (i64.wrap ((x.hang.n:Int)-1)
  - (m:Int))).toNat<x.hang.n)) (.need (!decide ((x.scans.n:Int)=0)) (.need (!decide ((x.scans.n:Int)=0)) (.need (decide (m≤m)&&(true&&decide ((m+1+(m+1) / 4 +
  192)*32≤281474976710656∧m+1≤9223372036854775807))) (.leaf (.tup (G6 k m o x)) ([(VS x),(Xs o),(QAK m x),(zu m x),(0,.frz KJ x.d.ps.n fun i=>QA.enc
  (x.d.ps.get i)),(1,.frz KJ x.scans.n fun i=>QA.enc (x.scans.get i)),(2,.frz KR x.hang.n fun i=>QA.enc (x.hang.get i)),(Xu sc x),(736,.rowz true 70 KR (m+1)
  (QP m (fun i=>QA.enc (th i)) (QJ [(QBY m x)] 0))),(Xp os),(Hk k m oh x)]))))))))) (.br ((x.hang.get m).b==(k:Int)) (.need (decide (m≤m)&&(true&&decide
  ((m+1+(m+1) / 4+192)*32≤281474976710656∧m+1≤9223372036854775807))) (.need (decide ((0:Int)≤i64.wrap (i64.wrap ((x.hang.n:Int)-1)-(m :
  Int))∧i64.wrap (i64.wrap ((x.hang.n:Int)-1)-(m:Int))<(x.hang.n:Int))&&decide (x.hang.n≤x.hang.n)) (.need (decide ((i64.wrap
  (i64.wrap ((x.hang.n:Int)-1)-(m:Int))).toNat<x.hang.n)) (.need (!decide ((x.scans.n:Int)=0)) (.need (!decide ((x.scans.n:Int)=0)) (.need (decide (m≤m) &&
  (true&&decide ((m+1+(m+1) / 4+192)*32≤281474976710656∧m+1≤9223372036854775807))) (.leaf (.tup (G6 k m o x)) ([(VS x),(Xs o),(QAK m x),(zu m x),(0,
  .frz KJ x.d.ps.n fun i=>QA.enc (x.d.ps.get i)),(1,.frz KJ x.scans.n fun i=>QA.enc (x.scans.get i)),(2,.frz KR x.hang.n fun i=>QA.enc (x.hang.get i)),(Xu sc
  x),(736,.rowz true 70 KR (m+1) (QP m (fun i=>QA.enc (th i)) (QJ [(QED m x)] 0))),(Xp os),(Hk k m oh x)])))))))) (.need (decide (m≤m)&&(true&&decide
  ((m+1+(m+1) / 4+192)*32≤281474976710656∧m+1≤9223372036854775807))) (.need (decide ((0:Int)≤i64.wrap (i64.wrap ((x.hang.n:Int)-1)-(m :
  Int))∧i64.wrap (i64.wrap ((x.hang.n:Int)-1)-(m:Int))<(x.hang.n:Int))&&decide (x.hang.n≤x.hang.n)) (.need (decide ((i64.wrap
  (i64.wrap ((x.hang.n:Int)-1)-(m:Int))).toNat<x.hang.n)) (.need (!decide ((x.scans.n:Int)=0)) (.need (!decide ((x.scans.n:Int)=0)) (.need (decide (m≤m) &&
  (true&&decide ((m+1+(m+1) / 4+192)*32≤281474976710656∧m+1≤9223372036854775807))) (.leaf (.tup (G6 k m o x)) ([(VS x),(Xs o),(QLj m x),(QHw m x),
  (0,.frz KJ x.d.ps.n fun i=>QA.enc (x.d.ps.get i)),(1,.frz KJ x.scans.n fun i=>QA.enc (x.scans.get i)),(2,.frz KR x.hang.n fun i=>QA.enc (x.hang.get i)),
  (Xu sc x),(688,.rowz true 70 KR (m+1) (QP m (fun i=>QA.enc (th i)) (QJ [(QBm m x)] 0))),(Xp os),(968,.rowz true 70 KR (m+1) (QP m (fun i=>QA.enc
  (oh i)) (QJ [(qB k m x)] 0)))])))))))))))) (.leaf (.tup [.ptr 2 0 0,.ptr 279 0 0,.ptr 8 0 0,.slz 136 0 o.cells.length cO,vi o.al,vi o.e,
  .int false .i64 o.su,vi o.ma,vi (x.scans.n:Int),vi (k:Int),.ptr 376 0 0,.ptr 384 0 0]) ([(VS x),(Xs o),(QKl m x),(QHs m
  x),(0,.frz KJ x.d.ps.n fun i=>QA.enc (x.d.ps.get i)),(1,.frz KJ x.scans.n fun i=>QA.enc (x.scans.get i)),(2,.frz KR x.hang.n fun i=>QA.enc (x.hang.get i)),
  (Xu sc x),(408,.rowz true 70 KR m fun i=>QA.enc (th i)),(Xp os),(424,.rowz true 70 KR m fun i=>QA.enc (oh i))])):=by kernel_rfl
noncomputable abbrev vN(i:Nat)(o:Tur):Nat×Blk:=
  (136,.rowz true 3 [.int .i64] o.cells.length fun i=>QA.enc (o.cells.getD i 0))
noncomputable abbrev Hy:Nat×Blk:=
  (376,.cells 0 50 [vi x.d.play.length,vi x.d.play.slack,vi x.d.play.loose,vi x.d.play.damp.lo,.int false .i64
  x.d.play.damp.hi,vi x.d.wide,vi x.d.high,.bool false x.d.turn,.slz 0 0 x.d.ps.n cO,.slz 400 0 x.scans.n cO,.slz 408 0 x.hang.n
  cO,vi x.lost,vi x.foreign])
noncomputable abbrev QIa(x:QD):Nat×Blk:=
  (384,.cells 0 50 [vi x.d.play.length,vi x.d.play.slack,vi x.d.play.loose,vi x.d.play.damp.lo,.int false .i64
  x.d.play.damp.hi,vi x.d.wide,vi x.d.high,.bool false x.d.turn,.slz 0 0 x.d.ps.n cO,.slz 648 0 (i+1) cO,.slz 424 0 x.hang.n (Cap.of
  0),vi x.lost,vi x.foreign])
noncomputable abbrev QAG(i:Nat)(sc:Nat→QI)(x:QD):Nat×Blk:=
  (400,.rowz true 33 KJ x.scans.n fun i=>QA.enc (sc i))
noncomputable abbrev Hc(i:Nat)(th:Nat→Jn)(x:QD):Nat×Blk:=
  (408,.rowz true 70 KR x.hang.n fun i=>QA.enc (th i))
noncomputable abbrev QBs(k:Nat)(x:QD):List AV:=
  [vi (x.scans.get ((i64.wrap (i64.wrap ((i:Int)+(x.scans.n:Int))-(k:Int))).tmod (x.scans.n:Int)).toNat).up.kind,vi (x.scans.get
  ((i64.wrap (i64.wrap ((i:Int)+(x.scans.n:Int))-(k:Int))).tmod (x.scans.n:Int)).toNat).up.at_.lo,vi (x.scans.get ((i64.wrap
  (i64.wrap ((i:Int)+(x.scans.n:Int))-(k:Int))).tmod (x.scans.n:Int)).toNat).up.at_.hi,vi (x.scans.get ((i64.wrap (i64.wrap ((i :
  Int)+(x.scans.n:Int))-(k:Int))).tmod (x.scans.n:Int)).toNat).up.wide.lo,vi (x.scans.get ((i64.wrap (i64.wrap ((i:Int)+(x.scans.n:Int))
  - (k:Int))).tmod (x.scans.n:Int)).toNat).up.wide.hi,vi (x.scans.get ((i64.wrap (i64.wrap ((i:Int)+(x.scans.n:Int))-(k:Int))).tmod
  (x.scans.n:Int)).toNat).up.deep.lo,vi (x.scans.get ((i64.wrap (i64.wrap ((i:Int)+(x.scans.n:Int))-(k:Int))).tmod (x.scans.n :
  Int)).toNat).up.deep.hi,vi (x.scans.get ((i64.wrap (i64.wrap ((i:Int)+(x.scans.n:Int))-(k:Int))).tmod (x.scans.n:Int)).toNat).right.kind,
  .int false .i64 (x.scans.get ((i64.wrap (i64.wrap ((i:Int)+(x.scans.n:Int))-(k:Int))).tmod (x.scans.n:Int)).toNat).right.at_.lo,.int false .i64
  (x.scans.get ((i64.wrap (i64.wrap ((i:Int)+(x.scans.n:Int))-(k:Int))).tmod (x.scans.n:Int)).toNat).right.at_.hi,vi (x.scans.get
  ((i64.wrap (i64.wrap ((i:Int)+(x.scans.n:Int))-(k:Int))).tmod (x.scans.n:Int)).toNat).right.wide.lo,vi (x.scans.get ((i64.wrap
  (i64.wrap ((i:Int)+(x.scans.n:Int))-(k:Int))).tmod (x.scans.n:Int)).toNat).right.wide.hi,vi (x.scans.get ((i64.wrap (i64.wrap ((i :
  Int)+(x.scans.n:Int))-(k:Int))).tmod (x.scans.n:Int)).toNat).right.deep.lo,vi (x.scans.get ((i64.wrap (i64.wrap ((i:Int)+(x.scans.n :
  Int))-(k:Int))).tmod (x.scans.n:Int)).toNat).right.deep.hi,vi (x.scans.get ((i64.wrap (i64.wrap ((i:Int)+(x.scans.n:Int))-(k :
  Int))).tmod (x.scans.n:Int)).toNat).down.kind,vi (x.scans.get ((i64.wrap (i64.wrap ((i:Int)+(x.scans.n:Int))-(k:Int))).tmod (x.scans.n :
  Int)).toNat).down.at_.lo,vi (x.scans.get ((i64.wrap (i64.wrap ((i:Int)+(x.scans.n:Int))-(k:Int))).tmod (x.scans.n:Int)).toNat).down.at_.hi,
  .int false .i64 (x.scans.get ((i64.wrap (i64.wrap ((i:Int)+(x.scans.n:Int))-(k:Int))).tmod (x.scans.n:Int)).toNat).down.wide.lo,.int false .i64
  (x.scans.get ((i64.wrap (i64.wrap ((i:Int)+(x.scans.n:Int))-(k:Int))).tmod (x.scans.n:Int)).toNat).down.wide.hi,vi (x.scans.get
  ((i64.wrap (i64.wrap ((i:Int)+(x.scans.n:Int))-(k:Int))).tmod (x.scans.n:Int)).toNat).down.deep.lo,vi (x.scans.get ((i64.wrap
  (i64.wrap ((i:Int)+(x.scans.n:Int))-(k:Int))).tmod (x.scans.n:Int)).toNat).down.deep.hi,vi (x.scans.get ((i64.wrap (i64.wrap ((i :
  Int)+(x.scans.n:Int))-(k:Int))).tmod (x.scans.n:Int)).toNat).left.kind,vi (x.scans.get ((i64.wrap (i64.wrap ((i:Int)+(x.scans.n:Int)) -
  (k:Int))).tmod (x.scans.n:Int)).toNat).left.at_.lo,vi (x.scans.get ((i64.wrap (i64.wrap ((i:Int)+(x.scans.n:Int))-(k:Int))).tmod
  (x.scans.n:Int)).toNat).left.at_.hi,vi (x.scans.get ((i64.wrap (i64.wrap ((i:Int)+(x.scans.n:Int))-(k:Int))).tmod (x.scans.n :
  Int)).toNat).left.wide.lo,vi (x.scans.get ((i64.wrap (i64.wrap ((i:Int)+(x.scans.n:Int))-(k:Int))).tmod (x.scans.n :
  Int)).toNat).left.wide.hi,vi (x.scans.get ((i64.wrap (i64.wrap ((i:Int)+(x.scans.n:Int))-(k:Int))).tmod (x.scans.n :
  Int)).toNat).left.deep.lo,vi (x.scans.get ((i64.wrap (i64.wrap ((i:Int)+(x.scans.n:Int))-(k:Int))).tmod (x.scans.n :
  Int)).toNat).left.deep.hi]
noncomputable abbrev GH(i:Nat)(oh:Nat→Jn)(x:QD):Nat×Blk:=
  (424,.rowz true 70 KR x.hang.n fun i=>QA.enc (oh i))
noncomputable abbrev QLA(x:QD):Nat×Blk:=
  (384,.cells 0 50 [vi x.d.play.length,vi x.d.play.slack,vi x.d.play.loose,vi x.d.play.damp.lo,.int false .i64
  x.d.play.damp.hi,vi x.d.wide,vi x.d.high,.bool false x.d.turn,.slz 0 0 x.d.ps.n cO,.slz 416 0 i cO,.slz 424 0 x.hang.n cO,
  .int false .i64 x.lost,vi x.foreign])
theorem QUb(o:Tur)(k:Nat)(sc:Nat→QI)(th:Nat→Jn)(os:Nat→QI)(oh:Nat→Jn)(i:Nat)(g:Nat→Value):exec (mkE Try.prog Ks) (hnd (mkE Try.prog Ks) 3) (QZ Try.f10 2) (JSt.inst (vc x o k sc th os oh i) g) (KW [] QHm) = .br (decide ((i:Int)<(x.scans.n:Int)))
  (.need (!decide ((x.scans.n:Int)=0)) (.need (decide ((0:Int)≤(i64.wrap (i64.wrap ((i:Int)+(x.scans.n:Int))-(k:Int))).tmod (x.scans.n:Int) ∧
  (i64.wrap (i64.wrap ((i:Int)+(x.scans.n:Int))-(k:Int))).tmod (x.scans.n:Int)<(x.scans.n:Int))&&decide (x.scans.n≤x.scans.n)) (.need (decide
  (((i64.wrap (i64.wrap ((i:Int)+(x.scans.n:Int))-(k:Int))).tmod (x.scans.n:Int)).toNat<x.scans.n)) (.need (decide (i≤i)&&(true&&decide ((i+1 +
  (i+1) / 4+192)*224≤281474976710656∧i+1≤9223372036854775807))) (.leaf (.tup [.nilp,.ptr 279 0 0,.ptr 8 0 0,.slz 136 0 o.cells.length cO,.int false .i64
  o.al,vi o.e,vi o.su,vi o.ma,vi (x.scans.n:Int),vi (k:Int),.ptr 376 0 0,.ptr 384 0 0,.int false .i64
  (x.scans.n:Int),vi (i64.wrap ((i:Int)+1))]) ([(VS x),(vN i o),(Hy x),(QIa i x),(0,.frz KJ x.d.ps.n fun i=>QA.enc (x.d.ps.get i)),(1,
  .frz KJ x.scans.n fun i=>QA.enc (x.scans.get i)),(2,.frz KR x.hang.n fun i=>QA.enc (x.hang.get i)),(QAG i sc x),(Hc i th x),(648,.rowz true 33 KJ (i+1)
  (QP i (fun i=>QA.enc (os i)) (QJ [(QBs i k x)] 0))),(GH i oh x)])))))) (.leaf (.tup [.ptr 4 0 0,.ptr 279 0 0,.ptr 8 0 0,.slz 136 0 o.cells.length cO,.int
  false .i64 o.al,vi o.e,vi o.su,vi o.ma,vi (x.scans.n:Int),vi (k:Int),.ptr 376 0 0,.ptr 384 0 0]) ([(VS
  x),(vN i o),(Hy x),(QLA i x),(0,.frz KJ x.d.ps.n fun i=>QA.enc (x.d.ps.get i)),(1,.frz KJ x.scans.n fun i=>QA.enc (x.scans.get i)),(2,.frz KR x.hang.n
  fun i=>QA.enc (x.hang.get i)),(QAG i sc x),(Hc i th x),(416,.rowz true 33 KJ i fun i=>QA.enc (os i)),(GH i oh x)])):=by kernel_rfl
noncomputable abbrev GR(o:Tur)(x:QD):List AV:=
  [.ptr 8 0 0,.slz 136 0 o.cells.length cO,vi o.al,vi o.e,vi o.su,vi o.ma,vi (x.scans.n:Int),.int
  false .i64 (k:Int),.ptr 376 0 0,.ptr 384 0 0,vi (x.hang.n:Int),vi (i64.wrap ((m:Int)+1))]
abbrev Wf(o:Tur)(x:QD):List Prop:=
  [0=0,0=0,0=0,o.cells.length=o.cells.length,cO=cO,o.al=o.al,o.e=o.e,o.su=o.su,o.ma=o.ma,(x.scans.n:Int)=(x.scans.n:Int),(k:Int)=(k :
  Int),0=0,0=0]
abbrev GY(x:QD):List Prop:=
  [0=0,0=0,(x.hang.n:Int)=(x.hang.n:Int),i64.wrap ((m:Int)+1)=(m':Int)]
abbrev JA:List Prop:=
  [x.d.play.length=x.d.play.length,x.d.play.slack=x.d.play.slack,x.d.play.loose=x.d.play.loose,x.d.play.damp.lo=x.d.play.damp.lo,x.d.play.damp.hi=x.d.play.damp.hi,
  x.d.wide=x.d.wide,x.d.high=x.d.high,x.d.turn=x.d.turn,0=0,x.d.ps.n=x.d.ps.n,cO=cO,0=0]
abbrev Yo(x:QD):List Prop:=
  [cO=cO,0=0,m+1=m',cO=cO,x.lost=x.lost,x.foreign=x.foreign]
abbrev HE(o:Tur)(oh:Nat→Jn)(os:Nat→QI)(x:QD):List Prop:=
  [0≤0,QE 28 0 (fun i=>QA.enc (os i)) fun i=>QA.enc (os i),m'≤m+1,QE 4 m' (QP m (fun i=>QA.enc (oh i)) (QJ [(qB k m x)] 0)) fun i=>QA.enc (oh
  i),o.cells.length≤o.cells.length,QE 1 o.cells.length (fun i=>QA.enc (o.cells.getD i 0)) fun i=>QA.enc (o.cells.getD i 0)]
abbrev vz:List Prop:=
  [x.scans.n=x.scans.n,cO=cO,0=0,x.hang.n=x.hang.n,cO=cO,x.lost=x.lost,x.foreign=x.foreign,x.d.ps.n≤x.d.ps.n,QE 28 x.d.ps.n (fun i
  => QA.enc (x.d.ps.get i)) fun i=>QA.enc (x.d.ps.get i),x.scans.n≤x.scans.n,QE 28 x.scans.n (fun i=>QA.enc (x.scans.get i)) fun i=>QA.enc (x.scans.get i),
  x.hang.n≤x.hang.n,QE 4 x.hang.n (fun i=>QA.enc (x.hang.get i)) fun i=>QA.enc (x.hang.get i)]
theorem QP5(o:Tur)(k:Nat)(sc:Nat→QI)(th:Nat→Jn)(os:Nat→QI)(oh:Nat→Jn)(m m':Nat):QO 8 (GR k m o x) ([(VS x),(Xs o),(QIH m x),(QHH m x),(0,.frz KJ x.d.ps.n fun i=>QA.enc (x.d.ps.get i)),(1,.frz KJ x.scans.n fun i=>QA.enc
  (x.scans.get i)),(2,.frz KR x.hang.n fun i=>QA.enc (x.hang.get i)),(Xu sc x),(784,.rowz true 70 KR (m+1) (QP m (fun i=>QA.enc (th i)) (QJ [(QCH m x)]
  0))),(Xp os),(1064,.rowz true 70 KR (m+1) (QP m (fun i=>QA.enc (oh i)) (QJ [(qB k m x)] 0)))]) (ZG x o k sc th os oh m')=(some ((Wf k o x)++(GY m
  m' x)++(JA x)++[x.scans.n=x.scans.n]++(Yo m m' x)++(JA x)++[0=0]++(Yo m m' x)++[x.scans.n≤x.scans.n,QE 28 x.scans.n (fun i=>QA.enc (sc i))
  fun i=>QA.enc (sc i),m'≤m+1,QE 4 m' (QP m (fun i=>QA.enc (th i)) (QJ [(QCH m x)] 0)) fun i=>QA.enc (th i)]++(HE k m m' o oh os x)++(JA x) ++
  (vz x))):=by kernel_rfl
theorem QPU(o:Tur)(k:Nat)(sc:Nat→QI)(th:Nat→Jn)(os:Nat→QI)(oh:Nat→Jn)(m m':Nat):QO 8 (GR k m o x) ([(VS x),(Xs o),(QAK m x),(zu m x),(0,.frz KJ x.d.ps.n fun i=>QA.enc (x.d.ps.get i)),(1,.frz KJ x.scans.n fun i=>QA.enc (x.scans.get
  i)),(2,.frz KR x.hang.n fun i=>QA.enc (x.hang.get i)),(Xu sc x),(736,.rowz true 70 KR (m+1) (QP m (fun i=>QA.enc (th i)) (QJ [(QBY m x)] 0))),(Xp
  os),(Hk k m oh x)]) (ZG x o k sc th os oh m')=(some ((Wf k o x)++(GY m m' x)++(JA x)++[x.scans.n=x.scans.n]++(Yo m m' x)++(JA x)++[0=0] ++
  (Yo m m' x)++[x.scans.n≤x.scans.n,QE 28 x.scans.n (fun i=>QA.enc (sc i)) fun i=>QA.enc (sc i),m'≤m+1,QE 4 m' (QP m (fun i=>QA.enc (th i)) (QJ
  [(QBY m x)] 0)) fun i=>QA.enc (th i)]++(HE k m m' o oh os x)++(JA x)++(vz x))):=by kernel_rfl
theorem QRN(o:Tur)(k:Nat)(sc:Nat→QI)(th:Nat→Jn)(os:Nat→QI)(oh:Nat→Jn)(m m':Nat):QO 8 (GR k m o x) ([(VS x),(Xs o),(QAK m x),(zu m x),(0,.frz KJ x.d.ps.n fun i=>QA.enc (x.d.ps.get i)),(1,.frz KJ x.scans.n fun i=>QA.enc (x.scans.get
  i)),(2,.frz KR x.hang.n fun i=>QA.enc (x.hang.get i)),(Xu sc x),(736,.rowz true 70 KR (m+1) (QP m (fun i=>QA.enc (th i)) (QJ [(QED m x)] 0))),(Xp
  os),(Hk k m oh x)]) (ZG x o k sc th os oh m')=(some ((Wf k o x)++(GY m m' x)++(JA x)++[x.scans.n=x.scans.n]++(Yo m m' x)++(JA x)++[0=0] ++
  (Yo m m' x)++[x.scans.n≤x.scans.n,QE 28 x.scans.n (fun i=>QA.enc (sc i)) fun i=>QA.enc (sc i),m'≤m+1,QE 4 m' (QP m (fun i=>QA.enc (th i)) (QJ
  [(QED m x)] 0)) fun i=>QA.enc (th i)]++(HE k m m' o oh os x)++(JA x)++(vz x))):=by kernel_rfl
theorem QRu(o:Tur)(k:Nat)(sc:Nat→QI)(th:Nat→Jn)(os:Nat→QI)(oh:Nat→Jn)(m m':Nat):QO 8 (GR k m o x) ([(VS x),(Xs o),(QLj m x),(QHw m x),(0,.frz KJ x.d.ps.n fun i=>QA.enc (x.d.ps.get i)),(1,.frz KJ x.scans.n fun i=>QA.enc
  (x.scans.get i)),(2,.frz KR x.hang.n fun i=>QA.enc (x.hang.get i)),(Xu sc x),(688,.rowz true 70 KR (m+1) (QP m (fun i=>QA.enc (th i)) (QJ [(QBm m x)]
  0))),(Xp os),(968,.rowz true 70 KR (m+1) (QP m (fun i=>QA.enc (oh i)) (QJ [(qB k m x)] 0)))]) (ZG x o k sc th os oh m')=(some ((Wf k o x)++(GY m m'
  x)++(JA x)++[x.scans.n=x.scans.n]++(Yo m m' x)++(JA x)++[0=0]++(Yo m m' x)++[x.scans.n≤x.scans.n,QE 28 x.scans.n (fun i=>QA.enc (sc i)) fun
  i=>QA.enc (sc i),m'≤m+1,QE 4 m' (QP m (fun i=>QA.enc (th i)) (QJ [(QBm m x)] 0)) fun i=>QA.enc (th i)]++(HE k m m' o oh os x)++(JA x) ++
  (vz x))):=by kernel_rfl
noncomputable abbrev QEk(o:Tur)(x:QD):List AV:=
  [.ptr 8 0 0,.slz 136 0 o.cells.length cO,vi o.al,vi o.e,vi o.su,vi o.ma,vi (x.scans.n:Int),.int
  false .i64 (k:Int),.ptr 376 0 0,.ptr 384 0 0]
theorem QSO(o:Tur)(k:Nat)(sc:Nat→QI)(th:Nat→Jn)(os:Nat→QI)(oh:Nat→Jn)(m:Nat):QO 8 (QEk k o x) ([(VS x),(Xs o),(QKl m x),(QHs m x),(0,.frz KJ x.d.ps.n fun i=>QA.enc (x.d.ps.get i)),(1,.frz KJ x.scans.n fun i=>QA.enc
  (x.scans.get i)),(2,.frz KR x.hang.n fun i=>QA.enc (x.hang.get i)),(Xu sc x),(408,.rowz true 70 KR m fun i=>QA.enc (th i)),(Xp os),(424,.rowz true 70 KR
  m fun i=>QA.enc (oh i))]) (HV x o k sc th os oh)=(some ((Wf k o x)++[0=0,0=0]++(JA x)++[x.scans.n=x.scans.n,cO=cO,0=0,m=x.hang.n,
  cO=cO,x.lost=x.lost,x.foreign=x.foreign]++(JA x)++[0=0,cO=cO,0=0,m=x.hang.n,cO=cO,x.lost=x.lost,x.foreign =
  x.foreign,x.scans.n≤x.scans.n,QE 28 x.scans.n (fun i=>QA.enc (sc i)) fun i=>QA.enc (sc i),x.hang.n≤m,QE 4 x.hang.n (fun i=>QA.enc (th i)) fun i=>
  QA.enc (th i),0≤0,QE 28 0 (fun i=>QA.enc (os i)) fun i=>QA.enc (os i),x.hang.n≤m,QE 4 x.hang.n (fun i=>QA.enc (oh i)) fun i=>QA.enc (oh i),
  o.cells.length≤o.cells.length,QE 1 o.cells.length (fun i=>QA.enc (o.cells.getD i 0)) fun i=>QA.enc (o.cells.getD i 0)]++(JA x)++(vz x))):=by kernel_rfl
abbrev qN:List Prop:=
  [cO=cO,0=0,x.hang.n=x.hang.n,cO=cO,x.lost=x.lost,x.foreign=x.foreign]
abbrev QI8(i:Nat)(o:Tur)(oh:Nat→Jn)(x:QD):List Prop:=
  [x.hang.n≤x.hang.n,QE 4 x.hang.n (fun i=>QA.enc (oh i)) fun i=>QA.enc (oh i),o.cells.length≤o.cells.length,QE 1 o.cells.length (fun i=>QA.enc
  (o.cells.getD i 0)) fun i=>QA.enc (o.cells.getD i 0)]
abbrev QE9(i:Nat)(x:QD):List Prop:=
  [x.d.ps.n≤x.d.ps.n,QE 28 x.d.ps.n (fun i=>QA.enc (x.d.ps.get i)) fun i=>QA.enc (x.d.ps.get i),x.scans.n≤x.scans.n,QE 28 x.scans.n (fun i=>QA.enc
  (x.scans.get i)) fun i=>QA.enc (x.scans.get i),x.hang.n≤x.hang.n,QE 4 x.hang.n (fun i=>QA.enc (x.hang.get i)) fun i=>QA.enc (x.hang.get i)]
theorem QNJ(o:Tur)(k:Nat)(sc:Nat→QI)(th:Nat→Jn)(os:Nat→QI)(oh:Nat→Jn)(i i':Nat):QO 8 [.ptr 8 0 0,.slz 136 0 o.cells.length cO,vi o.al,vi o.e,vi o.su,vi o.ma,vi (x.scans.n:Int),
  .int false .i64 (k:Int),.ptr 376 0 0,.ptr 384 0 0,vi (x.scans.n:Int),vi (i64.wrap ((i:Int)+1))] ([(VS x),(vN i o),(Hy x),
  (QIa i x),(0,.frz KJ x.d.ps.n fun i=>QA.enc (x.d.ps.get i)),(1,.frz KJ x.scans.n fun i=>QA.enc (x.scans.get i)),(2,.frz KR x.hang.n fun i=>QA.enc
  (x.hang.get i)),(QAG i sc x),(Hc i th x),(648,.rowz true 33 KJ (i+1) (QP i (fun i=>QA.enc (os i)) (QJ [(QBs i k x)] 0))),(GH i oh x)]) (vc x o k sc th
  os oh i')=(some ((Wf k o x)++[0=0,0=0,(x.scans.n:Int)=(x.scans.n:Int),i64.wrap ((i:Int)+1)=(i':Int)]++(JA x)++[x.scans.n=x.scans.n] ++
  (qN x)++(JA x)++[i+1=i']++(qN x)++[x.scans.n≤x.scans.n,QE 28 x.scans.n (fun i=>QA.enc (sc i)) fun i=>QA.enc (sc i),x.hang.n≤x.hang.n,QE 4
  x.hang.n (fun i=>QA.enc (th i)) fun i=>QA.enc (th i),i'≤i+1,QE 28 i' (QP i (fun i=>QA.enc (os i)) (QJ [(QBs i k x)] 0)) fun i=>QA.enc (os i)] ++
  (QI8 i o oh x)++(JA x)++[x.scans.n=x.scans.n]++(qN x)++(QE9 i x))):=by kernel_rfl
theorem QV2(o:Tur)(k:Nat)(sc:Nat→QI)(th:Nat→Jn)(os:Nat→QI)(oh:Nat→Jn)(i:Nat):QO 8 (QEk k o x) ([(VS x),(vN i o),(Hy x),(QLA i x),(0,.frz KJ x.d.ps.n fun i=>QA.enc (x.d.ps.get i)),(1,.frz KJ x.scans.n fun i=>QA.enc (x.scans.get
  i)),(2,.frz KR x.hang.n fun i=>QA.enc (x.hang.get i)),(QAG i sc x),(Hc i th x),(416,.rowz true 33 KJ i fun i=>QA.enc (os i)),(GH i oh x)]) (HS x o k sc
  th os oh)=(some ((Wf k o x)++[0=0,0=0]++(JA x)++[x.scans.n=x.scans.n]++(qN x)++(JA x)++[i=x.scans.n]++(qN x)++[x.scans.n≤x.scans.n,
  QE 28 x.scans.n (fun i=>QA.enc (sc i)) fun i=>QA.enc (sc i),x.hang.n≤x.hang.n,QE 4 x.hang.n (fun i=>QA.enc (th i)) fun i=>QA.enc (th i),x.scans.n≤i,
  QE 28 x.scans.n (fun i=>QA.enc (os i)) fun i=>QA.enc (os i)]++(QI8 i o oh x)++(JA x)++[x.scans.n=x.scans.n]++(qN x)++(QE9 i x))):=by kernel_rfl
def vZ(o:Tur)(n k:Nat)(c:List Int)(a2:Int)(i:Nat):JSt:=⟨279,[(5,.slz 136 0 o.cells.length (.of 0)),(6,.int false .i64 o.al),(11,.int false .i64 n),(12,.int false .i64 k),(23,.slz 700 0 c.length (.of 0)),(24,.int false .i64 a2),(248,.int false .i64 o.cells.length),(249,.int false .i64 i)],[rwI 136 o.cells,rwI 700 c],900⟩
def QAk:JSt:=⟨279,[],[],900⟩
def QFA:Ex→List Nat
 | .normal=>[5,6,11,12,23,24,248,249]
 | .exit _=>[]
 | .ret=>[4]
theorem QQD(o:Tur)(n k:Nat)(c:List Int)(a2:Int)(i:Nat)(g:Nat→Value):exec (mkE Try.prog Ks) (hnd (mkE Try.prog Ks) 3) (QZ Try.f10 3) (JSt.inst (vZ o n k c a2 i) g) (KW [] QFA) = .br (decide ((i:Int)<(o.cells.length:Int)))
  (.need (!decide ((n:Int)=0)) (.need (decide ((0:Int)≤(i64.wrap ((i:Int)+(k:Int))).tmod (n:Int)∧(i64.wrap ((i:Int)+(k:Int))).tmod (n:Int) <
  (c.length:Int))&&decide (c.length≤c.length)) (.need (decide (((i64.wrap ((i:Int)+(k:Int))).tmod (n:Int)).toNat<c.length)) (.need (decide ((0:Int)≤(i :
  Int)∧(i:Int)<(o.cells.length:Int))&&decide (o.cells.length≤o.cells.length)) (.need (decide (i<o.cells.length)) (.br (c.getD ((i64.wrap ((i:Int)+(k :
  Int))).tmod (n:Int)).toNat (0:Int) != o.cells.getD i 0) (.leaf (.tup [.nili,.ptr 279 0 0,.bool true false]) ([])) (.need (decide ((0:Int)≤(i64.wrap ((i:Int)+(k
  : Int))).tmod (n:Int))) (.need (decide ((0:Int)≤(i:Int))) (.br (i64.wrap (↑(BitVec.ofInt 64 (a2.fdiv ((2:Int)^min ((i64.wrap ((i:Int)+(k :
  Int))).tmod (n:Int)).toNat 64)) &&& BitVec.ofInt 64 (1:Int)).toNat:Int) != i64.wrap (↑(BitVec.ofInt 64 (o.al.fdiv ((2:Int)^min i 64)) &&& BitVec.ofInt 64 (1 :
  Int)).toNat:Int)) (.leaf (.tup [.nili,.ptr 279 0 0,.bool true false]) ([])) (.leaf (.tup [.nilp,.ptr 279 0 0,.slz 136 0 o.cells.length cO,vi o.al,.int
  false .i64 (n:Int),vi (k:Int),.slz 700 0 c.length cO,vi a2,vi (o.cells.length:Int),vi (i64.wrap ((i :
  Int)+1))]) ([(vN i o),(700,.rowz true 3 [.int .i64] c.length fun i=>QA.enc (c.getD i 0))]))))))))))) (.leaf (.tup [.ptr 6 0 0,.ptr 279 0 0]) ([])):=by kernel_rfl
theorem QUn(o:Tur)(n k:Nat)(c:List Int)(a2:Int)(i i':Nat):QO 8 [AV.slz (136:Nat) (0:Nat) o.cells.length (Cap.of (0:Nat)),AV.int false i64 o.al,AV.int false i64 (↑n:Int),AV.int false i64 (↑k:Int),AV.slz (700:Nat) (0:Nat) c.length (Cap.of (0:Nat)),AV.int false i64 a2,AV.int false i64 (↑o.cells.length:Int),AV.int false i64 (i64.wrap ((↑i:Int)+(1:Int)))] ([((136:Nat),Blk.rowz true (3:Nat) [CK.int i64] o.cells.length fun i=>QA.enc (o.cells.getD i (0:Int))),((700:Nat),Blk.rowz true (3:Nat) [CK.int i64] c.length fun i=>QA.enc (c.getD i (0:Int)))]) (vZ o n k c a2 i')=(
  some [(0:Nat)=(0:Nat),o.cells.length=o.cells.length,Cap.of (0:Nat)=Cap.of (0:Nat),o.al=o.al,(↑n:Int)=(↑n:Int),(↑k:Int)=(↑k:Int),(0:Nat)=(0 :
  Nat),c.length=c.length,Cap.of (0:Nat)=Cap.of (0:Nat),a2=a2,(↑o.cells.length:Int)=(↑o.cells.length:Int),i64.wrap ((↑i:Int)+(1:Int))=(↑i':Int),
  o.cells.length≤o.cells.length,QE (1:Nat) o.cells.length (fun i=>QA.enc (o.cells.getD i (0:Int))) fun i=>QA.enc (o.cells.getD i (0:Int)),c.length≤c.length,
  QE (1:Nat) c.length (fun i=>QA.enc (c.getD i (0:Int))) fun i=>QA.enc (c.getD i (0:Int))]):=by kernel_rfl
theorem QPs :QO 8 [] ([]) QAk=(
  some []):=by kernel_rfl
theorem Yv(P:Nat→Jn)(c:Nat)(q:Jn)(hq:P c=q):QE 4 (c+1) (QP c (fun i=>QA.enc (P i)) (QJ [[.int false .i64 q.a,.int false .i64 q.i,.int false .i64 q.b,.int false .i64 q.j]] 0)) (fun i=>QA.enc (P i)):=by
 subst hq;intro i hi;show eqF 4 0 (QP c (fun i=>QA.enc (P i)) (QJ [[.int false .i64 (P c).a,.int false .i64 (P c).i,.int false .i64 (P c).b,.int false .i64 (P c).j]] 0) i) (QA.enc (P i))
 by_cases h:i<c
 ·have e2:QP c (fun i=>QA.enc (P i)) (QJ [[.int false .i64 (P c).a,.int false .i64 (P c).i,.int false .i64 (P c).b,.int false .i64 (P c).j]] 0) i=QA.enc (P i):=by
   funext j;rw[VC,if_pos h]
  rw[e2];exact qG _ _ _
 ·have e:i=c:=by omega
  subst e
  have e2:QP i (fun i=>QA.enc (P i)) (QJ [[.int false .i64 (P i).a,.int false .i64 (P i).i,.int false .i64 (P i).b,.int false .i64 (P i).j]] 0) i=QJ [[.int false .i64 (P i).a,.int false .i64 (P i).i,.int false .i64 (P i).b,.int false .i64 (P i).j]] 0 0:=by
   funext j;rw[VC,if_neg h,Nat.sub_self]
  rw[e2];exact⟨rfl,rfl,rfl,rfl,trivial⟩
theorem QVr(P:Nat→QI)(c:Nat)(q:QI)(hq:P c=q):QE 28 (c+1) (QP c (fun i=>QA.enc (P i)) (QJ [(Enc.enc q).cells] 0)) (fun i=>QA.enc (P i)):=by
 subst hq;intro i hi;show eqF 28 0 (QP c (fun i=>QA.enc (P i)) (QJ [(Enc.enc (P c)).cells] 0) i) (QA.enc (P i))
 by_cases h:i<c
 ·have e2:QP c (fun i=>QA.enc (P i)) (QJ [(Enc.enc (P c)).cells] 0) i=QA.enc (P i):=by
   funext j;rw[VC,if_pos h]
  rw[e2];exact qG _ _ _
 ·have e:i=c:=by omega
  subst e
  have e2:QP i (fun i=>QA.enc (P i)) (QJ [(Enc.enc (P i)).cells] 0) i=QJ [(Enc.enc (P i)).cells] 0 0:=by
   funext j;rw[VC,if_neg h,Nat.sub_self]
  rw[e2];exact⟨rfl,rfl,rfl,rfl,rfl,rfl,rfl,rfl,rfl,rfl,rfl,rfl,rfl,rfl,rfl,rfl,rfl,rfl,rfl,rfl,rfl,rfl,rfl,rfl,rfl,rfl,rfl,rfl,trivial⟩
theorem QGl{m:Nat}(hn:n≤12)(hm:m<n):i64.wrap (i64.wrap ((n:Int)-1)-(m:Int))=((n-1-m:Nat):Int):=by
 rw[w64 (n:=(n:Int)-1) (by omega) (by omega),w64 (by omega) (by omega)];omega
theorem QPV{k i:Nat}(hn:n≤12)(hk:k<n)(hi:i<n):(i64.wrap (i64.wrap ((i:Int)+(n:Int))-(k:Int))).tmod (n:Int)=((pF n k i:Nat):Int):=by
 rw[w64 (n:=(i:Int)+(n:Int)) (by omega) (by omega),w64 (by omega) (by omega),Int.tmod_eq_emod_of_nonneg (by omega)]
 unfold pF;rw[show(i:Int)+(n:Int)-(k:Int)=((i+n-k:Nat):Int) by omega]
 simp
theorem QRV{k i:Nat}(hn:n≤12)(hk:k<n)(hi:i<n):(i64.wrap ((i:Int)+(k:Int))).tmod (n:Int)=((oF n k i:Nat):Int):=by
 rw[w64 (by omega) (by omega),Int.tmod_eq_emod_of_nonneg (by omega)]
 unfold oF;simp
theorem Gw{x:QD}{k m:Nat}(hj:JnB (x.hang.get m)){A B:Int}(ha:A=J4 k (x.hang.get m).a (x.hang.get m).i)(hb:B=J4 k (x.hang.get m).b (x.hang.get m).j):(Qk x k).hang.get m=⟨(x.hang.get m).a,A,(x.hang.get m).b,B⟩:=by
 subst ha;subst hb;rfl
theorem Ht{k a i:Int}(h:(a==k)=true)(hi:0≤i∧i≤3):(i64.wrap (i+1)).tmod 4=J4 k a i:=by
 unfold J4;rw[if_pos (by simpa using h),w64 (by omega) (by omega),Int.tmod_eq_emod_of_nonneg (by omega)]
theorem HU{k a i:Int}(h:(a==k)=false):i=J4 k a i:=by
 unfold J4;rw[if_neg (by simpa using h)]
theorem QPk{x:QD}{k m:Nat}(hx:K6 x)(hk:k<x.scans.n)(hm:m<x.hang.n):(Qg x k).hang.get m=⟨(i64.wrap ((x.hang.get (i64.wrap (i64.wrap ((x.hang.n:Int)-1)-(m:Int))).toNat).a+(k:Int))).tmod (x.scans.n:Int),(x.hang.get (i64.wrap (i64.wrap ((x.hang.n:Int)-1)-(m:Int))).toNat).i,(i64.wrap ((x.hang.get (i64.wrap (i64.wrap ((x.hang.n:Int)-1)-(m:Int))).toNat).b+(k:Int))).tmod (x.scans.n:Int),(x.hang.get (i64.wrap (i64.wrap ((x.hang.n:Int)-1)-(m:Int))).toNat).j⟩:=by
 rw[QGl hx.n hm,Int.toNat_natCast];obtain⟨_,ha,hb⟩:=hx.j (x.hang.n-1-m) (by omega)
 have hs:=hx.s;rw[w64 (n:=(x.hang.get (x.hang.n-1-m)).a+(k:Int)) (by omega) (by omega),w64 (n:=(x.hang.get (x.hang.n-1-m)).b+(k:Int)) (by omega) (by omega),Int.tmod_eq_emod_of_nonneg (by omega),Int.tmod_eq_emod_of_nonneg (by omega)]
 rfl
set_option maxHeartbeats 3200000 in
theorem QRO(o:Tur)(k:Nat)(sc os:Nat→QI)(hx:K6 x)(hk:k<x.scans.n):JD (fun m=>ZG x o k sc (Qk x k).hang.get os (Qg x k).hang.get m) (fun m=>m≤x.hang.n) (fun m=>x.hang.n-m) (fun _ e J=>e = .exit 2∧J=HV x o k sc (Qk x k).hang.get os (Qg x k).hang.get) 8 QGF [] (mkE Try.prog Ks) (fun _=>hnd (mkE Try.prog Ks) 3) (QZ Try.f10 1):=by
 have hn:=hx.n;have hs:=hx.s;refine⟨fun m g hm=>KF (QV3 x o k sc (Qk x k).hang.get os (Qg x k).hang.get m g) ?_⟩;have hm:m≤x.hang.n:=hm;refine QK (fun b0 => ?_) (fun b0 => ?_)
 ·have h:m<x.hang.n:=by have:=qdt b0;omega
  have hw:=QGl hn h;have hj:=(hx.j m h).1;have qo:=QPk hx hk h;refine QF (by first|(simp;done)|(rw[hw];simp;omega)|(simp;omega)) ?_
  refine QF (by first|(simp;done)|(rw[hw];simp;omega)|(simp;omega)) ?_
  refine QK (fun b1 => ?_) (fun b1 => ?_)
  ·refine QK (fun b2 => ?_) (fun b2 => ?_)
   ·refine QF (by first|(simp;done)|(rw[hw];simp;omega)|(simp;omega)) ?_
    refine QF (by first|(simp;done)|(rw[hw];simp;omega)|(simp;omega)) ?_
    refine QF (by first|(simp;done)|(rw[hw];simp;omega)|(simp;omega)) ?_
    refine QF (by first|(simp;done)|(rw[hw];simp;omega)|(simp;omega)) ?_
    refine QF (by first|(simp;done)|(rw[hw];simp;omega)|(simp;omega)) ?_
    refine QF (by first|(simp;done)|(rw[hw];simp;omega)|(simp;omega)) ?_
    have qt:=Gw (k:=k) hj (Ht b1 hj.i) (Ht b2 hj.j);refine⟨m+1,h,by show x.hang.n-(m+1)<x.hang.n-m;omega,fun _ _ r=>r,rfl,rfl,_,QP5 ..,?_⟩
    repeat' first|with_reducible refine Qc ?_ ?_|exact trivial|with_reducible rfl|exact qlr _|exact qRr|exact Kr h (by omega)|exact Yv _ _ _ qt|exact Yv _ _ _ qo|refine And.intro ?_ ?_
   ·refine QF (by first|(simp;done)|(rw[hw];simp;omega)|(simp;omega)) ?_
    refine QF (by first|(simp;done)|(rw[hw];simp;omega)|(simp;omega)) ?_
    refine QF (by first|(simp;done)|(rw[hw];simp;omega)|(simp;omega)) ?_
    refine QF (by first|(simp;done)|(rw[hw];simp;omega)|(simp;omega)) ?_
    refine QF (by first|(simp;done)|(rw[hw];simp;omega)|(simp;omega)) ?_
    refine QF (by first|(simp;done)|(rw[hw];simp;omega)|(simp;omega)) ?_
    have qt:=Gw (k:=k) hj (Ht b1 hj.i) (HU b2);refine⟨m+1,h,by show x.hang.n-(m+1)<x.hang.n-m;omega,fun _ _ r=>r,rfl,rfl,_,QPU ..,?_⟩
    repeat' first|with_reducible refine Qc ?_ ?_|exact trivial|with_reducible rfl|exact qlr _|exact qRr|exact Kr h (by omega)|exact Yv _ _ _ qt|exact Yv _ _ _ qo|refine And.intro ?_ ?_
  ·refine QK (fun b3 => ?_) (fun b3 => ?_)
   ·refine QF (by first|(simp;done)|(rw[hw];simp;omega)|(simp;omega)) ?_
    refine QF (by first|(simp;done)|(rw[hw];simp;omega)|(simp;omega)) ?_
    refine QF (by first|(simp;done)|(rw[hw];simp;omega)|(simp;omega)) ?_
    refine QF (by first|(simp;done)|(rw[hw];simp;omega)|(simp;omega)) ?_
    refine QF (by first|(simp;done)|(rw[hw];simp;omega)|(simp;omega)) ?_
    refine QF (by first|(simp;done)|(rw[hw];simp;omega)|(simp;omega)) ?_
    have qt:=Gw (k:=k) hj (HU b1) (Ht b3 hj.j);refine⟨m+1,h,by show x.hang.n-(m+1)<x.hang.n-m;omega,fun _ _ r=>r,rfl,rfl,_,QRN ..,?_⟩
    repeat' first|with_reducible refine Qc ?_ ?_|exact trivial|with_reducible rfl|exact qlr _|exact qRr|exact Kr h (by omega)|exact Yv _ _ _ qt|exact Yv _ _ _ qo|refine And.intro ?_ ?_
   ·refine QF (by first|(simp;done)|(rw[hw];simp;omega)|(simp;omega)) ?_
    refine QF (by first|(simp;done)|(rw[hw];simp;omega)|(simp;omega)) ?_
    refine QF (by first|(simp;done)|(rw[hw];simp;omega)|(simp;omega)) ?_
    refine QF (by first|(simp;done)|(rw[hw];simp;omega)|(simp;omega)) ?_
    refine QF (by first|(simp;done)|(rw[hw];simp;omega)|(simp;omega)) ?_
    refine QF (by first|(simp;done)|(rw[hw];simp;omega)|(simp;omega)) ?_
    have qt:=Gw (k:=k) hj (HU b1) (HU b3);refine⟨m+1,h,by show x.hang.n-(m+1)<x.hang.n-m;omega,fun _ _ r=>r,rfl,rfl,_,QRu ..,?_⟩
    repeat' first|with_reducible refine Qc ?_ ?_|exact trivial|with_reducible rfl|exact qlr _|exact qRr|exact Kr h (by omega)|exact Yv _ _ _ qt|exact Yv _ _ _ qo|refine And.intro ?_ ?_
 ·have h:m=x.hang.n:=by have:=of_decide_eq_false b0;omega
  subst h;refine⟨_,⟨rfl,rfl⟩,rfl,rfl,_,QSO ..,?_⟩
  repeat' first|with_reducible refine Qc ?_ ?_|exact trivial|with_reducible rfl|exact qlr _|exact qRr|refine And.intro ?_ ?_
set_option maxHeartbeats 3200000 in
theorem QOK(o:Tur)(k:Nat)(sc:Nat→QI)(th oh:Nat→Jn)(hx:K6 x)(hk:k<x.scans.n):JD (fun i=>vc x o k sc th (Qg x k).scans.get oh i) (fun i=>i≤x.scans.n) (fun i=>x.scans.n-i) (fun _ e J=>e = .exit 4∧J=HS x o k sc th (Qg x k).scans.get oh) 8 QHm [] (mkE Try.prog Ks) (fun _=>hnd (mkE Try.prog Ks) 3) (QZ Try.f10 2):=by
 have hs:=hx.s;refine⟨fun i g hi=>KF (QUb x o k sc th (Qg x k).scans.get oh i g) ?_⟩;have hi:i≤x.scans.n:=hi;refine QK (fun b0 => ?_) (fun b0 => ?_)
 ·have h:i<x.scans.n:=by have:=qdt b0;omega
  have hw:=QPV hs hk h;have hp:=(QAU h hk).1;refine QF (by first|(simp;done)|(rw[hw];simp;omega)|(simp;omega)) ?_
  refine QF (by first|(simp;done)|(rw[hw];simp;omega)|(simp;omega)) ?_
  refine QF (by first|(simp;done)|(rw[hw];simp;omega)|(simp;omega)) ?_
  refine QF (by first|(simp;done)|(rw[hw];simp;omega)|(simp;omega)) ?_
  have q:(Qg x k).scans.get i=x.scans.get ((i64.wrap (i64.wrap ((i:Int)+(x.scans.n:Int))-(k:Int))).tmod (x.scans.n:Int)).toNat:=by rw[hw,Int.toNat_natCast];rfl
  refine⟨i+1,h,by show x.scans.n-(i+1)<x.scans.n-i;omega,fun _ _ r=>r,rfl,rfl,_,QNJ ..,?_⟩
  repeat' first|with_reducible refine Qc ?_ ?_|exact trivial|with_reducible rfl|exact qlr _|exact qRr|exact Kr h (by omega)|exact QVr _ _ _ q|refine And.intro ?_ ?_
 ·have h:i=x.scans.n:=by have:=of_decide_eq_false b0;omega
  subst h;refine⟨_,⟨rfl,rfl⟩,rfl,rfl,_,QV2 ..,?_⟩
  repeat' first|with_reducible refine Qc ?_ ?_|exact trivial|with_reducible rfl|exact qlr _|exact qRr|refine And.intro ?_ ?_
structure QJ0 (o:Tur) (n k:Nat) (c:List Int) (a2:Int):Prop where
 hn:n≤12
 hk:k<n
 hl:o.cells.length≤n
 hm:0<o.cells.length→c.length=n
 hc:∀ i,i<o.cells.length→c.getD (oF n k i) 0=o.cells.getD i 0
 ha:∀ i,i<o.cells.length→Wc a2 (oF n k i)=Wc o.al i
set_option maxHeartbeats 3200000 in
theorem QSU(o:Tur)(n k:Nat)(c:List Int)(a2:Int)(H:QJ0 o n k c a2):JD (fun i=>vZ o n k c a2 i) (fun i=>i≤o.cells.length) (fun i=>o.cells.length-i) (fun _ e J=>e = .exit 6∧J=QAk) 8 QFA [] (mkE Try.prog Ks) (fun _=>hnd (mkE Try.prog Ks) 3) (QZ Try.f10 3):=by
 have hn:=H.hn;have hk:=H.hk;have hl:=H.hl;refine⟨fun i g hi=>KF (QQD o n k c a2 i g) ?_⟩;have hi:i≤o.cells.length:=hi;refine QK (fun b0 => ?_) (fun b0 => ?_)
 ·have h:i<o.cells.length:=by have:=qdt b0;omega
  have h':i<n:=by omega
  have hm:=H.hm (by omega)
  have hw:=QRV hn hk h';have hp:=(YB h' hk).1;refine QF (by first|(simp;done)|(rw[hw];simp;omega)|(simp;omega)) ?_
  refine QF (by first|(simp;done)|(rw[hw];simp;omega)|(simp;omega)) ?_
  refine QF (by first|(simp;done)|(rw[hw];simp;omega)|(simp;omega)) ?_
  refine QF (by first|(simp;done)|(rw[hw];simp;omega)|(simp;omega)) ?_
  refine QF (by first|(simp;done)|(rw[hw];simp;omega)|(simp;omega)) ?_
  refine QK (fun b1 => ?_) (fun b1 => ?_)
  ·rw[hw,Int.toNat_natCast,H.hc i h]at b1;simp at b1
  ·refine QF (by first|(simp;done)|(rw[hw];simp;omega)|(simp;omega)) ?_
   refine QF (by first|(simp;done)|(rw[hw];simp;omega)|(simp;omega)) ?_
   refine QK (fun b2 => ?_) (fun b2 => ?_)
   ·rw[hw,Int.toNat_natCast]at b2;have q:=H.ha i h;unfold Wc at q;rw[q]at b2;simp at b2
   ·refine⟨i+1,h,by show o.cells.length-(i+1)<o.cells.length-i;omega,fun _ _ r=>r,rfl,rfl,_,QUn ..,?_⟩
    repeat' first|with_reducible refine Qc ?_ ?_|exact trivial|with_reducible rfl|exact qlr _|exact qRr|exact Kr h (by omega)|refine And.intro ?_ ?_
 ·exact⟨_,⟨rfl,rfl⟩,rfl,rfl,_,QPs,trivial⟩
def tuO:Tur:=⟨(QY x).1,(QY x).2.1,(QY x).2.2,(miV x).1,(miV x).2.1⟩
def tuK(w:U8n):Nat:=((i64.wrap w.n).tmod (x.scans.n:Int)).toNat
theorem QVL(w:U8n)(h0:0≤w.n∧w.n≤255)(hn:0<x.scans.n):tuK x w<x.scans.n∧(i64.wrap w.n).tmod (x.scans.n:Int)=(tuK x w:Int):=by
 unfold tuK;have e:i64.wrap w.n=w.n:=w64 (by omega) (by omega)
 rw[e,Int.tmod_eq_emod_of_nonneg h0.1];have h1:=Int.emod_nonneg w.n (show(x.scans.n:Int)≠0 by omega)
 have h2:=Int.emod_lt_of_pos w.n (show 0<(x.scans.n:Int) by omega)
 omega
structure QNs (x:QD) (k:Nat):Prop where
 t1:((QY (Qk x k)).2.2 != (QY x).2.2)=false
 t2:((QY (Qg x k)).2.2 != (QY x).2.2)=false
 t3:((miV (Qg x k)).2.2 != (QY x).2.2)=false
 t4:((QY (Qk x k)).2.1 != (QY x).2.1)=false
 t5:((miV (Qg x k)).1 != (miV x).1)=false
 t6:((miV (Qg x k)).2.1 != (miV x).2.1)=false
 t7:(QY (Qk x k)).1=(QY x).1
 t8:(QY (Qg x k)).1.length=(QY x).1.length
 h:QJ0 (tuO x) x.scans.n k (QY (Qg x k)).1 (QY (Qg x k)).2.1
theorem QH0{x:QD}(hx:x.ok=true){k:Nat}(hk:k<x.scans.n):QNs x k:=by
 have T:=QSh hx k;have O:=QVm hx hk;have hn:=(JU hx).s;have e1:Je (Qk x k)=Je x:=zd T;have e2:Je (Qg x k)=Je x:=zd O;have p0:=(Xk x).1;have p1:=(Xk (Qk x k)).1;have p2:=(Xk (Qg x k)).1;have m2:=(vK (Qg x k)).1
 by_cases he:Je x=0
 ·have px:=(Xk x).2.2 he;have py:=(Xk (Qk x k)).2.2 (by rw[e1];exact he)
  have pz:=(Xk (Qg x k)).2.2 (by rw[e2];exact he)
  have ct:=fun i (hi:i<x.scans.n)=>QEz T he hi;have co:=fun i (hi:i<x.scans.n)=>QEz O he hi;have mo:=QNE O he
  have al:(QY (Qk x k)).2.1=(QY x).2.1:=by
   refine zn py.ai px.ai fun i => ?_
   by_cases hi:i<x.scans.n
   ·exact(ct i hi).2
   ·rw[py.ab,px.ab,decide_eq_false hi,decide_eq_false (show ¬ i<(Qk x k).scans.n from hi)];rfl
  refine⟨by rw[p1,p0,e1];simp,by rw[p2,p0,e2];simp,by rw[m2,p0,e2];simp,by rw[al];simp,by rw[mo.1];simp,by rw[mo.2];simp,?_,by rw[pz.len,px.len];rfl,⟨hn,hk,?_,fun _=>by rw[pz.len];rfl,fun i hi => ?_,fun i hi => ?_⟩⟩
  ·apply List.ext_getElem
   ·rw[py.len,px.len];rfl
   ·intro i h1 h2;have hi:i<x.scans.n:=by rw[←px.len];exact h2
    have:=(ct i hi).1;rw[X8 (by exact h1),X8 h2]at this
    exact this
  ·show(QY x).1.length≤x.scans.n;rw[px.len];exact qlr _
  ·have hi:i<x.scans.n:=by rw[←px.len];exact hi
   exact(co i hi).1
  ·have hi:i<x.scans.n:=by rw[←px.len];exact hi
   have h1:=(YB hi hk).1;show Wc (QY (Qg x k)).2.1 (oF x.scans.n k i)=Wc (QY x).2.1 i;rw[QLg pz.ai (by omega),QLg px.ai (by omega),(co i hi).2]
 ·obtain⟨a1,a2⟩:=(Xk x).2.1 he;obtain⟨b1,b2⟩:=(Xk (Qk x k)).2.1 (by rw[e1];exact he)
  obtain⟨c1,c2⟩:=(Xk (Qg x k)).2.1 (by rw[e2];exact he)
  obtain⟨d1,d2⟩:=(vK x).2.1 he;obtain⟨f1,f2⟩:=(vK (Qg x k)).2.1 (by rw[e2];exact he)
  refine⟨by rw[p1,p0,e1];simp,by rw[p2,p0,e2];simp,by rw[m2,p0,e2];simp,by rw[a2,b2];rfl,by rw[d1,f1];rfl,by rw[d2,f2];rfl,by rw[a1,b1],by rw[a1,c1],⟨hn,hk,?_,fun h => ?_,fun i hi => ?_,fun i hi => ?_⟩⟩
  ·show(QY x).1.length≤x.scans.n;rw[a1];exact Nat.zero_le _
  ·have h:0<(QY x).1.length:=h;rw[a1]at h;cases h
  ·have hi:i<(QY x).1.length:=hi;rw[a1]at hi;cases hi
  ·have hi:i<(QY x).1.length:=hi;rw[a1]at hi;cases hi
def tuP(w:U8n):Prop:=x.ok=true∧tuK x w<x.scans.n
abbrev tuX(P0:Program)(c0:Code)(x:QD)(w:U8n):Code→St→(Ex→St→QB)→QB:=QG8 [
 (10,jd (mkS P0 Ks) (hnd (mkS P0 Ks) 3) c0 5),
 (15,YX (tuP x w) (KE 8 [] (ZG x (tuO x) (tuK x w) (Qk x (tuK x w)).scans.get (Qk x (tuK x w)).hang.get (Qg x (tuK x w)).scans.get (Qg x (tuK x w)).hang.get (0:Nat)) [(True,.exit 2,HV x (tuO x) (tuK x w) (Qk x (tuK x w)).scans.get (Qk x (tuK x w)).hang.get (Qg x (tuK x w)).scans.get (Qg x (tuK x w)).hang.get)])),
 (27,YX (tuP x w) (KE 8 [] (vc x (tuO x) (tuK x w) (Qk x (tuK x w)).scans.get (Qk x (tuK x w)).hang.get (Qg x (tuK x w)).scans.get (Qg x (tuK x w)).hang.get (0:Nat)) [(True,.exit 4,HS x (tuO x) (tuK x w) (Qk x (tuK x w)).scans.get (Qk x (tuK x w)).hang.get (Qg x (tuK x w)).scans.get (Qg x (tuK x w)).hang.get)])),
 (37,YX (tuP x w) (KE 8 [] (vZ (tuO x) x.scans.n (tuK x w) (QY (Qg x (tuK x w))).1 (QY (Qg x (tuK x w))).2.1 (0:Nat)) [(True,.exit 6,QAk)]))]
noncomputable abbrev tuH(P0:Program)(x:QD)(w:U8n):Hnd:={ hnd (mkS P0 Ks) 1 with loop:=tuX P0 (QZ Try.f10 0) x w }
theorem QQW(w:U8n)(G:Ctx)(hrd:G.rd=none)(hG:G.n=8):Q5 (mkS Try.prog Ks) G (tuH Try.prog x w) (Qq Try.f10):=by
 refine QFt (X3 Xz) hrd fun c hc => ?_;have he:Kg (Qq Try.f10)=[.loop (QZ Try.f10 0),.loop (QZ Try.f10 1),.loop (QZ Try.f10 2),.loop (QZ Try.f10 3)]:=by kernel_rfl
 rw[he]at hc;simp only[List.mem_cons,List.not_mem_nil,or_false]at hc;rcases hc with rfl|rfl|rfl|rfl
 ·have e1:∀ c0,tuX Try.prog c0 x w (.loop (QZ Try.f10 0))=jd (mkS Try.prog Ks) (hnd (mkS Try.prog Ks) 3) c0 5:=by intro c0;kernel_rfl
  rw[e1];exact QUq (X3 Xz) (Qv (X3 Xz) 3 G _ hrd) 5
 ·have e1:∀ c0,tuX Try.prog c0 x w (.loop (QZ Try.f10 1))=YX (tuP x w) (KE 8 [] (ZG x (tuO x) (tuK x w) (Qk x (tuK x w)).scans.get (Qk x (tuK x w)).hang.get (Qg x (tuK x w)).scans.get (Qg x (tuK x w)).hang.get (0:Nat)) [(True,.exit 2,HV x (tuO x) (tuK x w) (Qk x (tuK x w)).scans.get (Qk x (tuK x w)).hang.get (Qg x (tuK x w)).scans.get (Qg x (tuK x w)).hang.get)]):=by intro c0;kernel_rfl
  rw[e1];refine jb fun hp => ?_;refine WM (E:=mkE Try.prog Ks) rfl (JX (n0:=8) (QR Xz) (by omega) (fun s hs=>Qv (QR Xz) 3 G _ hrd) (fun s hs=>(by decide:8≤512)) ?_ (QRO x (tuO x) (tuK x w) (Qk x (tuK x w)).scans.get (Qg x (tuK x w)).scans.get (JU hp.1) hp.2) (s0:=0) (Nat.zero_le _) ?_)
  ·rintro s e J ⟨_,rfl⟩;exact(by decide:8≤512)
  ·rintro e J ⟨rfl,rfl⟩;exact⟨_,List.mem_cons_self,trivial,rfl,rfl⟩
 ·have e1:∀ c0,tuX Try.prog c0 x w (.loop (QZ Try.f10 2))=YX (tuP x w) (KE 8 [] (vc x (tuO x) (tuK x w) (Qk x (tuK x w)).scans.get (Qk x (tuK x w)).hang.get (Qg x (tuK x w)).scans.get (Qg x (tuK x w)).hang.get (0:Nat)) [(True,.exit 4,HS x (tuO x) (tuK x w) (Qk x (tuK x w)).scans.get (Qk x (tuK x w)).hang.get (Qg x (tuK x w)).scans.get (Qg x (tuK x w)).hang.get)]):=by intro c0;kernel_rfl
  rw[e1];refine jb fun hp => ?_;refine WM (E:=mkE Try.prog Ks) rfl (JX (n0:=8) (QR Xz) (by omega) (fun s hs=>Qv (QR Xz) 3 G _ hrd) (fun s hs=>(by decide:8≤512)) ?_ (QOK x (tuO x) (tuK x w) (Qk x (tuK x w)).scans.get (Qk x (tuK x w)).hang.get (Qg x (tuK x w)).hang.get (JU hp.1) hp.2) (s0:=0) (Nat.zero_le _) ?_)
  ·rintro s e J ⟨_,rfl⟩;exact(by decide:8≤512)
  ·rintro e J ⟨rfl,rfl⟩;exact⟨_,List.mem_cons_self,trivial,rfl,rfl⟩
 ·have e1:∀ c0,tuX Try.prog c0 x w (.loop (QZ Try.f10 3))=YX (tuP x w) (KE 8 [] (vZ (tuO x) x.scans.n (tuK x w) (QY (Qg x (tuK x w))).1 (QY (Qg x (tuK x w))).2.1 (0:Nat)) [(True,.exit 6,QAk)]):=by intro c0;kernel_rfl
  rw[e1];refine jb fun hp => ?_;refine WM (E:=mkE Try.prog Ks) rfl (JX (n0:=8) (QR Xz) (by omega) (fun s hs=>Qv (QR Xz) 3 G _ hrd) (fun s hs=>(by decide:8≤900)) ?_ (QSU (tuO x) x.scans.n (tuK x w) (QY (Qg x (tuK x w))).1 (QY (Qg x (tuK x w))).2.1 (QH0 hp.1 hp.2).h) (s0:=0) (Nat.zero_le _) ?_)
  ·rintro s e J ⟨_,rfl⟩;exact(by decide:8≤900)
  ·rintro e J ⟨rfl,rfl⟩;exact⟨_,List.mem_cons_self,trivial,rfl,rfl⟩
end Go.Proofs.Ytbpffdkemeoajaa
