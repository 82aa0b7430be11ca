/- - -/
import Derived.Test.YtbpffdkemeoajaaMfzl
open Go.IntKind (i64)
set_option maxRecDepth 100000
namespace Go.SX
open Go Go.RowKit Go.Proofs.Ytbpffdkemeoajaa
def zI(E:Env)(H:Hnd)(body:Code):Nat→St→(Ex→St→QD)→QD
 | 0, _, _ => .fail "rounds"
 | n+1,st,K=>exec E H body st fun e st'=>match e with
  | .normal=>zI E H body n st' K
  | .exit id=>K (.exit id) st'
  | .ret=>K .ret st'
theorem QG0{E:Env}(hE:E.Sound){G:Ctx}{H:Hnd}{body:Code}(hH:KC E G H body):∀(n:Nat) (st:St) (K:Ex→St→QD) (T:AV→List (Nat×Blk)→Prop) (Q:Exit→Act→World→Prop) (a:Act) (w:World),G.n≤st.nid→(zI E H body n st K).den T→Rep G st.nid st a w →
  (∀ e st' a' w',G.n≤st'.nid→(K e st').den T→Rep G st'.nid st' a' w'→Q e.to a' w')→Code.roundsIn (FW G.rd) 0 E.P body Q n a w
 | 0,_,_,_,_,_,_,_,h,_,_=>h.elim
 | n+1,st,K,T,Q,a,w,hn,h,hrep,hQ=>by
  rw[roundsIn_succ];have key:JV E G body (exec E H body):=WR hE hH.call hH.yield body hH.loop;refine key st _ T _ a w hn h hrep ?_;intro e st' a' w' hn' hden hrep';cases e with
  | normal=>exact QG0 hE hH n st' K T Q a' w' hn' hden hrep' hQ
  | exit id=>exact hQ (.exit id) st' a' w' hn' hden hrep'
  | ret=>exact hQ .ret st' a' w' hn' hden hrep'
theorem QT7{E:Env}(hE:E.Sound){G:Ctx}{H:Hnd}{body:Code}(hH:KC E G H body)(n:Nat):JV E G (.loop body) (zI E H body n):=
 fun st K T Q a w h1 h2 h3 h4=>wpIn_loop_rounds n (QG0 hE hH n st K T Q a w h1 h2 h3 h4)
def za(c:Code):Code:=match Km c with
 | _ :: .loop b::_=>b
 | _ => .skip
end Go.SX
namespace Go.Proofs.Ytbpffdkemeoajaa
open Go.SX
structure Frc where
 a:List QB
 b:List QB
 cells:List Int
 al:Int
 told:List QB
def rwI(id:Nat)(l:List Int):Nat×Blk:=(id,.rowz true 3 [.int .i64] l.length fun i=>QA.enc (l.getD i (0:Int)))
variable (two:Bool)(x:QE)(k:Nat)(L:List QB)(can:Int)
def lfB(o:Frc):List (Nat×Blk):=match two with
 | true=>[rwL 48 o.a,rwL 49 o.b,rwI 136 o.cells,rwL 208 o.told]++laB x
 | false=>[rwL 48 o.a,rwI 136 o.cells,rwL 208 o.told]++laB x
def lfT:AV:=match two with
 | true => .slice true 808 0 2 (.of 0)
 | false => .slice true 808 0 1 (.lit 1)
def lfR(o:Frc)(two:Bool):Nat×Blk:=match two with
 | true=>(808,.rowl 38 1 [[.slz 48 0 o.a.length (.of 0)],[.slz 49 0 o.b.length (.of 0)]])
 | false=>(808,.rowl 38 1 [[.slz 48 0 o.a.length (.of 0)]])
def ZT(o:Frc)(k:Nat):JSt:=⟨371,[(1,.ptr 8 0 0),(3,.slz 48 0 o.a.length (.of 0)),(4,.slz 49 0 o.b.length (.of 0)),(7,.slz 136 0 o.cells.length (.of 0)),(8,.int false .i64 o.al),(10,.slz 208 0 o.told.length (.of 0)),(12,lfT true),(13,.int false .i64 k)],lfR o true::lfB true x o,832⟩
def QKc:Ex→List Nat
 | .normal=>[1,3,4,7,8,10,12,13]
 | .exit _=>[1,3,4,7,8,10,12,13]
 | .ret=>[]
def Y8(o:Frc)(k:Nat):JSt:=⟨371,[(1,.ptr 8 0 0),(7,.slz 136 0 o.cells.length (.of 0)),(8,.int false .i64 o.al),(12,lfT two),(216,.slz 208 0 o.told.length (.of 0)),(217,.int false .i64 o.told.length),(218,.int false .i64 k)],lfR o two::lfB two x o,832⟩
def WW:JSt:=⟨371,[],[],832⟩
def QBN:Ex→List Nat
 | .normal=>[1,7,8,12,216,217,218]
 | .exit _=>[]
 | .ret=>[2]
def qP(o:Frc)(k:Nat)(some:Int)(L:List QB)(can:Int)(i:Nat):JSt:=⟨371,[(1,.ptr 8 0 0),(7,.slz 136 0 o.cells.length (.of 0)),(8,.int false .i64 o.al),(12,lfT two),(16,.int false .i64 some),(22,.int false .i64 can),(216,.slz 208 0 o.told.length (.of 0)),(217,.int false .i64 o.told.length),(218,.int false .i64 k),(353,.slz 900 0 L.length (.of 0)),(354,.int false .i64 L.length),(355,.int false .i64 i)],rwL 900 L::lfR o two::lfB two x o,1000⟩
def zC(o:Frc)(k:Nat)(some:Int)(can:Int):JSt:=⟨371,[(1,.ptr 8 0 0),(7,.slz 136 0 o.cells.length (.of 0)),(8,.int false .i64 o.al),(12,lfT two),(16,.int false .i64 some),(22,.int false .i64 can),(216,.slz 208 0 o.told.length (.of 0)),(217,.int false .i64 o.told.length),(218,.int false .i64 k)],lfR o two::lfB two x o,1000⟩
def QEY:Ex→List Nat
 | .normal=>[1,7,8,12,16,22,216,217,218,353,354,355]
 | .exit _=>[1,7,8,12,16,22,216,217,218]
 | .ret=>[]
noncomputable abbrev Vc:Nat×Blk:=
  (8,.cells 0 50 [vi x.d.play.length,vi x.d.play.slack,vi x.d.play.loose,vi x.d.play.damp.lo,vi x.d.play.damp.hi,
  .int false .i64 x.d.wide,vi x.d.high,.bool false x.d.turn,.slz 0 0 x.d.ps.n cO,.slz 1 0 x.scans.n cO,.slz 2 0 x.hang.n cO,.int false .i64
  x.lost,vi x.foreign])
noncomputable abbrev Y3(o:Frc):Nat×Blk:=
  (48,.rowz true 56 [.int .i64,.int .i64] o.a.length fun i=>QA.enc (o.a.getD i ⟨0,0⟩))
noncomputable abbrev qZ(o:Frc):Nat×Blk:=
  (49,.rowz true 56 [.int .i64,.int .i64] o.b.length fun i=>QA.enc (o.b.getD i ⟨0,0⟩))
noncomputable abbrev Y4(o:Frc):Nat×Blk:=
  (136,.rowz true 3 [.int .i64] o.cells.length fun i=>QA.enc (o.cells.getD i 0))
noncomputable abbrev Yt(o:Frc):Nat×Blk:=
  (208,.rowz true 56 [.int .i64,.int .i64] o.told.length fun i=>QA.enc (o.told.getD i ⟨0,0⟩))
noncomputable abbrev Y7(o:Frc):Nat×Blk:=
  (808,.rowl 38 1 [[.slz 48 0 o.a.length cO],[.slz 49 0 o.b.length cO]])
abbrev Kh:List CK:=
  [.int .i64,.int .i64,.int .i64,.int .i64,.int .i64,.int .i64,.int .i64,.int .i64,.int .i64,.int .i64,.int .i64,.int .i64,.int .i64,.int .i64,.int .i64,.int .i64,.int
  .i64,.int .i64,.int .i64,.int .i64,.int .i64,.int .i64,.int .i64,.int .i64,.int .i64,.int .i64,.int .i64,.int .i64]
noncomputable abbrev Yd:Nat×Blk:=
  (2,.frz [.int .i64,.int .i64,.int .i64,.int .i64] x.hang.n fun i=>QA.enc (x.hang.get i))
theorem QVP(o:Frc)(k:Nat)(g:Nat→Value):exec (mkS Try.prog Kw) (hnd (mkS Try.prog Kw) 3) (QX Try.f6 0) (JSt.inst (ZT x o k) g) (KT [] QKc) = .need (!decide ((k:Int)<(o.a.length:Int))||decide ((k
  : Int)<(o.a.length:Int))) (.need (!decide ((k:Int)<(o.a.length:Int))||decide ((k:Int)<(o.a.length:Int))&&decide ((k:Int)<(o.a.length:Int))) (.need (!decide
  ((k:Int)<(o.a.length:Int))||decide ((k:Int)<(o.a.length:Int))) (.bnd (decide ((k:Int)<(o.a.length:Int))&&decide ((k:Int)<(o.b.length:Int))) (fun(x0 :
  Bool) => .need (!x0||decide ((0:Int)≤(k:Int)∧(k:Int)<(o.a.length:Int))&&decide (o.a.length≤o.a.length)&&(x0&&x0)) (.need (!x0||decide (k<o.a.length) &&
  x0) (.need (!x0||decide ((0:Int)≤(k:Int)∧(k:Int)<(o.b.length:Int))&&decide (o.b.length≤o.b.length)&&(x0&&x0)) (.need (!x0||decide (k<o.b.length)&&x0)
  (.need (!x0||x0&&x0) (.need (!x0||x0) (.bnd (x0&&((o.a.getD k ⟨0,0⟩).cell==(o.b.getD k ⟨0,0⟩).cell&&((o.a.getD k ⟨0,0⟩).turn==(o.b.getD k ⟨0,0⟩).turn&&true)))
  (fun(x1:Bool) => .br (x1) (.leaf (.tup [.nilp,.ptr 371 0 0,.ptr 8 0 0,.slz 48 0 o.a.length cO,.slz 49 0 o.b.length cO,.slz 136 0 o.cells.length cO,
  .int false .i64 o.al,.slz 208 0 o.told.length cO,.slice true 808 0 2 cO,vi (i64.wrap ((k:Int)+1))]) ([(Vc x),(Y3 o),(qZ o),(Y4
  o),(Yt o),(Y7 o),(0,.frz Kh x.d.ps.n fun i=>QA.enc (x.d.ps.get i)),(1,.frz Kh x.scans.n fun i=>QA.enc (x.scans.get i)),(Yd x)])) (.leaf (.tup [.ptr 0 0 0,
  .ptr 371 0 0,.ptr 8 0 0,.slz 48 0 o.a.length cO,.slz 49 0 o.b.length cO,.slz 136 0 o.cells.length cO,vi o.al,.slz 208 0 o.told.length
  cO,.slice true 808 0 2 cO,vi (k:Int)]) ([(Vc x),(Y3 o),(qZ o),(Y4 o),(Yt o),(Y7 o),(0,.frz Kh x.d.ps.n fun i=>QA.enc
  (x.d.ps.get i)),(1,.frz Kh x.scans.n fun i=>QA.enc (x.scans.get i)),(Yd x)]))))))))))))):=by kernel_rfl
noncomputable abbrev jK(i:Nat):Int:=
  (↑(BitVec.ofInt 64 can ||| BitVec.ofInt 64 (i64.wrap ((1:Int)*2^min (L.getD i ⟨0,0⟩).cell.toNat 64))).toNat:Int)
noncomputable abbrev vQ(i:Nat)(o:Frc):Nat×Blk:=
  (136,.rowz true 3 [.int .i64] o.cells.length fun i=>QA.enc (o.cells.getD i 0))
noncomputable abbrev vP(o:Frc):Nat×Blk:=
  (808,.rowl 38 1 [[.slz 48 0 o.a.length cO]])
noncomputable abbrev jc(i:Nat)(o:Frc):Nat×Blk:=
  (208,.rowz true 56 [.int .i64,.int .i64] o.told.length fun i=>QA.enc (o.told.getD i ⟨0,0⟩))
noncomputable abbrev Hq(i:Nat):Nat×Blk:=
  (900,.rowz true 56 [.int .i64,.int .i64] L.length fun i=>QA.enc (L.getD i ⟨0,0⟩))
noncomputable abbrev vu(i:Nat)(x:QE):Nat×Blk:=
  (2,.frz [.int .i64,.int .i64,.int .i64,.int .i64] x.hang.n fun i=>QA.enc (x.hang.get i))
noncomputable abbrev jx(i:Nat)(o:Frc):Nat×Blk:=
  (48,.rowz true 56 [.int .i64,.int .i64] o.a.length fun i=>QA.enc (o.a.getD i ⟨0,0⟩))
theorem QQl(o:Frc)(k:Nat)(some:Int)(L:List QB)(can:Int)(i:Nat)(g:Nat→Value):exec (mkE Try.prog Kw) (hnd (mkE Try.prog Kw) 3) (za (QX Try.f6 1)) (JSt.inst (qP false x o k some L can i) g) (KT [] QEY) = .br (decide ((i:Int) <
  (L.length:Int))) (.need (decide ((0:Int)≤(i:Int)∧(i:Int)<(L.length:Int))&&decide (L.length≤L.length)) (.need (decide (i<L.length)) (.need (decide ((0:Int) ≤
  (L.getD i ⟨0,0⟩).cell)) (.leaf (.tup [.nilp,.ptr 371 0 0,.ptr 8 0 0,.slz 136 0 o.cells.length cO,vi o.al,.slice true 808 0 1 (Cap.lit 1),.int false .i64
  some,vi (i64.wrap (jK L can i)),.slz 208 0 o.told.length cO,vi (o.told.length:Int),vi (k:Int),.slz 900 0 L.length
  cO,vi (L.length:Int),vi (i64.wrap ((i:Int)+1))]) ([(Vc x),(vQ i o),(vP o),(jc i o),(Hq L i),(0,.frz Kh
  x.d.ps.n fun i=>QA.enc (x.d.ps.get i)),(1,.frz Kh x.scans.n fun i=>QA.enc (x.scans.get i)),(vu i x),(jx i o)]))))) (.leaf (.tup [.ptr 6 0 0,.ptr 371 0 0,.ptr 8
  0 0,.slz 136 0 o.cells.length cO,vi o.al,.slice true 808 0 1 (Cap.lit 1),vi some,vi can,.slz 208 0 o.told.length cO,
  .int false .i64 (o.told.length:Int),vi (k:Int)]) ([(Vc x),(vQ i o),(vP o),(jc i o),(0,.frz Kh x.d.ps.n fun i=>QA.enc (x.d.ps.get i)),(1,
  .frz Kh x.scans.n fun i=>QA.enc (x.scans.get i)),(vu i x),(jx i o)])):=by kernel_rfl
noncomputable abbrev QDx(i:Nat)(o:Frc):Nat×Blk:=
  (49,.rowz true 56 [.int .i64,.int .i64] o.b.length fun i=>QA.enc (o.b.getD i ⟨0,0⟩))
theorem QUb(o:Frc)(k:Nat)(some:Int)(L:List QB)(can:Int)(i:Nat)(g:Nat→Value):exec (mkE Try.prog Kw) (hnd (mkE Try.prog Kw) 3) (za (QX Try.f6 1)) (JSt.inst (qP true x o k some L can i) g) (KT [] QEY) = .br (decide ((i:Int)<(L.length
  : Int))) (.need (decide ((0:Int)≤(i:Int)∧(i:Int)<(L.length:Int))&&decide (L.length≤L.length)) (.need (decide (i<L.length)) (.need (decide ((0:Int)≤(L.getD i
  ⟨0,0⟩).cell)) (.leaf (.tup [.nilp,.ptr 371 0 0,.ptr 8 0 0,.slz 136 0 o.cells.length cO,vi o.al,.slice true 808 0 2 cO,vi some,.int
  false .i64 (i64.wrap (jK L can i)),.slz 208 0 o.told.length cO,vi (o.told.length:Int),vi (k:Int),.slz 900 0 L.length cO,
  .int false .i64 (L.length:Int),vi (i64.wrap ((i:Int)+1))]) ([(Vc x),(vQ i o),(Y7 o),(jc i o),(Hq L i),(0,.frz Kh x.d.ps.n fun i=>
  QA.enc (x.d.ps.get i)),(1,.frz Kh x.scans.n fun i=>QA.enc (x.scans.get i)),(vu i x),(jx i o),(QDx i o)]))))) (.leaf (.tup [.ptr 6 0 0,.ptr 371 0 0,.ptr 8 0 0,
  .slz 136 0 o.cells.length cO,vi o.al,.slice true 808 0 2 cO,vi some,vi can,.slz 208 0 o.told.length cO,.int
  false .i64 (o.told.length:Int),vi (k:Int)]) ([(Vc x),(vQ i o),(Y7 o),(jc i o),(0,.frz Kh x.d.ps.n fun i=>QA.enc (x.d.ps.get i)),(1,.frz Kh
  x.scans.n fun i=>QA.enc (x.scans.get i)),(vu i x),(jx i o),(QDx i o)])):=by kernel_rfl
abbrev GQ(P:Program)(c:Code)(two:Bool)(x:QE)(o:Frc)(k:Nat)(some:Int)(L:List QB)(can:Int):Code→St→(Ex→St→QD)→QD:=QBw [
 (28,zI (mkS P Kw) (hnd (mkS P Kw) 3) c 4),
 (40,KD 8 [] (qP two x o k some L 0 0) [(True,.exit 6,zC two x o k some can)])]
noncomputable abbrev Kt(o:Frc):Int:=
  (↑(BitVec.ofInt 64 (o.cells.getD k 0) &&& BitVec.ofInt 64 (i64.wrap (o.cells.getD k 0-1))).toNat:Int)
noncomputable abbrev zT(o:Frc):Int:=
  (↑(BitVec.ofInt 64 (o.al.fdiv ((2:Int)^min k 64)) &&& BitVec.ofInt 64 (1:Int)).toNat:Int)
noncomputable abbrev QMF(o:Frc):Int:=
  (↑(BitVec.ofInt 64 ((o.cells.getD k 0).fdiv ((2:Int)^min (o.a.getD k ⟨0,0⟩).cell.toNat 64)) &&& BitVec.ofInt 64 (1:Int)).toNat:Int)
theorem QVw(o:Frc)(k:Nat)(can:Int)(g:Nat→Value):exec (mkS Try.prog Kw) { hnd (mkS Try.prog Kw) 3 with loop:=GQ Try.prog (Vn (QX Try.f6 1)) false x o k (o.cells.getD k 0) (Q3 x.d (x.scans.get k)) can } (QX
  Try.f6 1) (JSt.inst (Y8 false x o k) g) (KT [] QBN) = .br (decide ((k:Int)<(o.told.length:Int))) (.need (decide ((0:Int)≤(k:Int)∧(k:Int)<(o.told.length :
  Int))&&decide (o.told.length≤o.told.length)) (.need (decide (k<o.told.length)) (.need (decide ((0:Int)≤(k:Int)∧(k:Int)<(o.cells.length:Int))&&decide
  (o.cells.length≤o.cells.length)) (.need (decide (k<o.cells.length)) (.need (!i64.wrap (Kt k o)==0||i64.wrap (Kt k o)==0) (.need (!i64.wrap
  (Kt k o)==0||decide ((0:Int)≤(k:Int))&&(i64.wrap (Kt k o)==0&&i64.wrap (Kt k o)==0)) (.need (!i64.wrap (Kt k o)==0 ||
  i64.wrap (Kt k o)==0) (.need (!i64.wrap (Kt k o)==0||i64.wrap (Kt k o)==0) (.need (!i64.wrap (Kt k o)==0||i64.wrap (Kt
  k o)==0&&i64.wrap (Kt k o)==0) (.need (!i64.wrap (Kt k o)==0||i64.wrap (Kt k o)==0) (.bnd (i64.wrap (Kt k o)==0 &&
  !(o.cells.getD k 0 != 0)==(i64.wrap (zT k o)==1)) (fun(x0:Bool) => .need (!!!x0==((o.told.getD k ⟨0,0⟩).cell != -1) || !!x0==((o.told.getD k ⟨0,0⟩).cell !=
  -1)) (.need (!!!x0==((o.told.getD k ⟨0,0⟩).cell != -1) || !!x0==((o.told.getD k ⟨0,0⟩).cell != -1)) (.need (!!!x0==((o.told.getD k ⟨0,0⟩).cell != -1) || !!x0 ==
  ((o.told.getD k ⟨0,0⟩).cell != -1)) (.need (!(!!x0==((o.told.getD k ⟨0,0⟩).cell != -1)&&decide ((o.told.getD k ⟨0,0⟩).cell≥0)) || !!x0==((o.told.getD k ⟨0,0⟩).cell !=
  -1)&&decide ((o.told.getD k ⟨0,0⟩).cell≥0)) (.need (!(!!x0==((o.told.getD k ⟨0,0⟩).cell != -1)&&decide ((o.told.getD k ⟨0,0⟩).cell≥0))||decide ((0:Int) ≤
  (o.told.getD k ⟨0,0⟩).cell)&&(!!x0==((o.told.getD k ⟨0,0⟩).cell != -1)&&decide ((o.told.getD k ⟨0,0⟩).cell≥0))) (.need (!(!!x0==((o.told.getD k ⟨0,0⟩).cell != -1) &&
  decide ((o.told.getD k ⟨0,0⟩).cell≥0)) || !!x0==((o.told.getD k ⟨0,0⟩).cell != -1)&&decide ((o.told.getD k ⟨0,0⟩).cell≥0)&&(!!x0==((o.told.getD k ⟨0,0⟩).cell != -1)
  && decide ((o.told.getD k ⟨0,0⟩).cell≥0))) (.need (!!!x0==((o.told.getD k ⟨0,0⟩).cell != -1) || !!x0==((o.told.getD k ⟨0,0⟩).cell != -1)&&(!decide ((o.told.getD k ⟨0,
  0⟩).cell≥0) || !!x0==((o.told.getD k ⟨0,0⟩).cell != -1)&&decide ((o.told.getD k ⟨0,0⟩).cell≥0))) (.bnd (decide ((o.told.getD k ⟨0,0⟩).cell≥0)&&o.cells.getD k 0 !=
  i64.wrap ((1:Int)*2^min (o.told.getD k ⟨0,0⟩).cell.toNat 64)) (fun(x1:Bool) => .need (!x0==((o.told.getD k ⟨0,0⟩).cell != -1) || !!x0==((o.told.getD k ⟨0,
  0⟩).cell != -1)) (.bnd (!x0==((o.told.getD k ⟨0,0⟩).cell != -1)||x1) (fun(x2:Bool) => .need (!!x2 || !x2) (.need (!!x2 || !x2) (.need (!!x2 || !x2) (.need (!(!x2 &&
  (o.told.getD k ⟨0,0⟩).cell == -2) || !x2&&(o.told.getD k ⟨0,0⟩).cell == -2) (.need (!!x2 || !x2&&(!(o.told.getD k ⟨0,0⟩).cell == -2 || !x2&&(o.told.getD k ⟨0,0⟩).cell ==
  -2)) (.bnd ((o.told.getD k ⟨0,0⟩).cell == -2&&o.cells.getD k 0 != 0) (fun(x3:Bool) => .need (x2 || !x2) (.bnd (x2||x3) (fun(x4:Bool) => .br (x4) (.leaf (.tup [.nili,.ptr
  371 0 0,.bool true false]) ([])) (.need (!(o.told.getD k ⟨0,0⟩).cell != -1||decide ((0:Int)≤(k:Int)∧(k:Int)<(o.a.length:Int))&&decide (o.a.length≤o.a.length)
  && ((o.told.getD k ⟨0,0⟩).cell != -1&&(o.told.getD k ⟨0,0⟩).cell != -1)) (.need (!(o.told.getD k ⟨0,0⟩).cell != -1||(o.told.getD k ⟨0,0⟩).cell != -1) (.need (!(o.told.getD k
  ⟨0,0⟩).cell != -1||decide (k<o.a.length)&&(o.told.getD k ⟨0,0⟩).cell != -1) (.need (!(o.told.getD k ⟨0,0⟩).cell != -1||(o.told.getD k ⟨0,0⟩).cell != -1) (.need
  (!(o.told.getD k ⟨0,0⟩).cell != -1||(o.told.getD k ⟨0,0⟩).cell != -1&&(o.told.getD k ⟨0,0⟩).cell != -1) (.need (!(o.told.getD k ⟨0,0⟩).cell != -1||(o.told.getD k ⟨0,
  0⟩).cell != -1) (.bnd ((o.told.getD k ⟨0,0⟩).cell != -1&&(o.a.getD k ⟨0,0⟩).cell != (o.told.getD k ⟨0,0⟩).cell) (fun(x5:Bool) => .need (!!x5||decide ((0:Int)≤(k:Int)
  ∧ (k:Int)<(o.a.length:Int))&&decide (o.a.length≤o.a.length)&&(!x5 && !x5)) (.need (!!x5 || !x5) (.need (!!x5||decide (k<o.a.length) && !x5) (.need (!!x5 || !x5)
  (.need (!!x5 || !x5) (.need (!(!x5&&decide ((o.a.getD k ⟨0,0⟩).cell≥0))||decide ((0:Int)≤(k:Int)∧(k:Int)<(o.a.length:Int))&&decide (o.a.length≤o.a.length)
  && (!x5&&decide ((o.a.getD k ⟨0,0⟩).cell≥0)&&(!x5&&decide ((o.a.getD k ⟨0,0⟩).cell≥0)))) (.need (!(!x5&&decide ((o.a.getD k ⟨0,0⟩).cell≥0)) || !x5&&decide
  ((o.a.getD k ⟨0,0⟩).cell≥0)) (.need (!(!x5&&decide ((o.a.getD k ⟨0,0⟩).cell≥0))||decide (k<o.a.length)&&(!x5&&decide ((o.a.getD k ⟨0,0⟩).cell≥0))) (.need (!(!x5
  && decide ((o.a.getD k ⟨0,0⟩).cell≥0))||decide ((0:Int)≤(o.a.getD k ⟨0,0⟩).cell)&&(!x5&&decide ((o.a.getD k ⟨0,0⟩).cell≥0)&&(!x5&&decide ((o.a.getD k ⟨0,
  0⟩).cell≥0)))) (.need (!(!x5&&decide ((o.a.getD k ⟨0,0⟩).cell≥0)) || !x5&&decide ((o.a.getD k ⟨0,0⟩).cell≥0)) (.need (!(!x5&&decide ((o.a.getD k ⟨0,0⟩).cell≥0)) ||
  !x5&&decide ((o.a.getD k ⟨0,0⟩).cell≥0)) (.need (!!x5 || !x5&&(!decide ((o.a.getD k ⟨0,0⟩).cell≥0) || !x5&&decide ((o.a.getD k ⟨0,0⟩).cell≥0))) (.bnd (decide
  ((o.a.getD k ⟨0,0⟩).cell≥0)&&i64.wrap (QMF k o)==0) (fun(x6:Bool) => .need (x5 || !x5) (.bnd (x5||x6) (fun(x7:Bool) => .need (!!x7||decide ((0:Int)≤(k
  : Int)∧(k:Int)<(o.a.length:Int))&&decide (o.a.length≤o.a.length)&&(!x7 && !x7)) (.need (!!x7 || !x7) (.need (!!x7||decide (k<o.a.length) && !x7) (.need (!!x7 ||
  !x7) (.need (!!x7 || !x7) (.need (!(!x7&&(o.a.getD k ⟨0,0⟩).cell == -2)||decide ((0:Int)≤(k:Int))&&(!x7&&(o.a.getD k ⟨0,0⟩).cell == -2&&(!x7&&(o.a.getD k ⟨0,
  0⟩).cell == -2))) (.need (!(!x7&&(o.a.getD k ⟨0,0⟩).cell == -2) || !x7&&(o.a.getD k ⟨0,0⟩).cell == -2) (.need (!(!x7&&(o.a.getD k ⟨0,0⟩).cell == -2) || !x7&&(o.a.getD k
  ⟨0,0⟩).cell == -2) (.need (!!x7 || !x7&&(!(o.a.getD k ⟨0,0⟩).cell == -2 || !x7&&(o.a.getD k ⟨0,0⟩).cell == -2)) (.bnd ((o.a.getD k ⟨0,0⟩).cell == -2&&i64.wrap
  (zT k o)==0) (fun(x8:Bool) => .need (x7 || !x7) (.bnd (x7||x8) (fun(x9:Bool) => .br (x9) (.leaf (.tup [.nili,.ptr 371 0 0,.bool true false]) ([])) (.need (!decide
  ((o.told.getD k ⟨0,0⟩).cell≥0)||decide ((o.told.getD k ⟨0,0⟩).cell≥0)) (.need (!decide ((o.told.getD k ⟨0,0⟩).cell≥0)||decide ((o.told.getD k ⟨0,0⟩).cell≥0)) (.need
  (!decide ((o.told.getD k ⟨0,0⟩).cell≥0)||decide ((o.told.getD k ⟨0,0⟩).cell≥0)) (.bnd (decide ((o.told.getD k ⟨0,0⟩).cell≥0)&&(o.told.getD k ⟨0,0⟩).turn != 0) (fun
  (x10:Bool) => .need (!x10||decide ((0:Int)≤(k:Int)∧(k:Int)<(o.a.length:Int))&&decide (o.a.length≤o.a.length)&&(x10&&x10)) (.need (!x10||x10) (.need (!x10
  || decide (k<o.a.length)&&x10) (.need (!x10||x10) (.need (!x10||x10&&x10) (.need (!x10||x10) (.bnd (x10&&(o.a.getD k ⟨0,0⟩).turn != (o.told.getD k ⟨0,0⟩).turn) (fun
  (x11:Bool) => .br (x11) (.leaf (.tup [.nili,.ptr 371 0 0,.bool true false]) ([])) (.need (decide ((0:Int)≤(k:Int)∧(k:Int)<(x.scans.n:Int))&&decide (x.scans.n ≤
  x.scans.n)) (.need (decide (k<x.scans.n)) (.need (decide (x.d.ps.n≤x.d.ps.n)&&(true&&true)&&decide (x.d.ps.n≤900)) (.br (Yv x.d (x.scans.get k) != 0) (.leaf (.tup
  [.nili,.ptr 371 0 0,.bool true false]) ([])) (.ask (0=0) (.ask (0=0) (.ask (0=0) (.ask (o.cells.length=o.cells.length) (.ask (cO=cO) (.ask (o.al=o.al)
  (.ask (0=0) (.ask (1=1) (.ask (Cap.lit 1=Cap.lit 1) (.ask (o.cells.getD k 0=o.cells.getD k 0) (.ask ((0:Int)=0) (.ask (0=0) (.ask (o.told.length=o.told.length) (.ask
  (cO=cO) (.ask ((o.told.length:Int)=(o.told.length:Int)) (.ask ((k:Int)=(k:Int)) (.ask (0=0) (.ask ((Q3 x.d (x.scans.get k)).length=(Q3 x.d
  (x.scans.get k)).length) (.ask (cO=cO) (.ask ((↑(Q3 x.d (x.scans.get k)).length:Int)=(↑(Q3 x.d (x.scans.get k)).length:Int)) (.ask ((0:Int)=0) (.ask
  ((Q3 x.d (x.scans.get k)).length≤(Q3 x.d (x.scans.get k)).length) (.ask (QC 2 (Q3 x.d (x.scans.get k)).length (fun i=>QA.enc ((Q3 x.d (x.scans.get k)).getD i ⟨0,
  0⟩)) fun i=>QA.enc ((Q3 x.d (x.scans.get k)).getD i ⟨0,0⟩)) (.ask (0=0) (.ask (o.a.length=o.a.length) (.ask (cO=cO) (.ask (o.a.length≤o.a.length) (.ask
  (QC 2 o.a.length (fun i=>QA.enc (o.a.getD i ⟨0,0⟩)) fun i=>QA.enc (o.a.getD i ⟨0,0⟩)) (.ask (o.cells.length≤o.cells.length) (.ask (QC 1 o.cells.length (fun i=>
  QA.enc (o.cells.getD i 0)) fun i=>QA.enc (o.cells.getD i 0)) (.ask (o.told.length≤o.told.length) (.ask (QC 2 o.told.length (fun i=>QA.enc (o.told.getD i ⟨0,0⟩)) fun
  i=>QA.enc (o.told.getD i ⟨0,0⟩)) (.ask (x.d.play.length=x.d.play.length) (.ask (x.d.play.slack=x.d.play.slack) (.ask (x.d.play.loose=x.d.play.loose) (.ask
  (x.d.play.damp.lo=x.d.play.damp.lo) (.ask (x.d.play.damp.hi=x.d.play.damp.hi) (.ask (x.d.wide=x.d.wide) (.ask (x.d.high=x.d.high) (.ask (x.d.turn=x.d.turn) (.ask (0=0)
  (.ask (x.d.ps.n=x.d.ps.n) (.ask (cO=cO) (.ask (0=0) (.ask (x.scans.n=x.scans.n) (.ask (cO=cO) (.ask (0=0) (.ask (x.hang.n=x.hang.n) (.ask
  (cO=cO) (.ask (x.lost=x.lost) (.ask (x.foreign=x.foreign) (.ask (x.d.ps.n≤x.d.ps.n) (.ask (QC 28 x.d.ps.n (fun i=>QA.enc (x.d.ps.get i)) fun i=>
  QA.enc (x.d.ps.get i)) (.ask (x.scans.n≤x.scans.n) (.ask (QC 28 x.scans.n (fun i=>QA.enc (x.scans.get i)) fun i=>QA.enc (x.scans.get i)) (.ask (x.hang.n≤x.hang.n)
  (.ask (QC 4 x.hang.n (fun i=>QA.enc (x.hang.get i)) fun i=>QA.enc (x.hang.get i)) (.asm (True) (.all (fun(g12:Nat→Value) => .br (i64.wrap (↑(BitVec.ofInt 64
  (o.cells.getD k 0) &&& ~~~BitVec.ofInt 64 can).toNat:Int) != 0) (.leaf (.tup [.nili,.ptr 371 0 0,.bool true false]) ([])) (.leaf (.tup [.nilp,.ptr 371 0 0,.ptr 8 0 0,.slz 136
  0 o.cells.length cO,vi o.al,.slice true 808 0 1 (Cap.lit 1),.slz 208 0 o.told.length cO,vi (o.told.length:Int),.int false .i64
  (i64.wrap ((k:Int)+1))]) ([(Vc x),(Y4 o),(vP o),(Yt o),(0,.frz Kh x.d.ps.n fun i=>QA.enc (x.d.ps.get i)),(1,.frz Kh x.scans.n fun i=>QA.enc
  (x.scans.get i)),(Yd x),(Y3 o)])))))))))))))))))))))))))))))))))))))))))))))))))))))))))))))))))))))))))))))))))))))))))))))))))))))))))))))))))))))))))))))))))))))))))))))))
  (.leaf (.tup [.ptr 2 0 0,.ptr 371 0 0]) ([])):=by kernel_rfl
theorem QTT(o:Frc)(k:Nat)(can:Int)(g:Nat→Value):exec (mkS Try.prog Kw) { hnd (mkS Try.prog Kw) 3 with loop:=GQ Try.prog (Vn (QX Try.f6 1)) true x o k (o.cells.getD k 0) (Q3 x.d (x.scans.get k)) can } (QX
  Try.f6 1) (JSt.inst (Y8 true x o k) g) (KT [] QBN) = .br (decide ((k:Int)<(o.told.length:Int))) (.need (decide ((0:Int)≤(k:Int)∧(k:Int)<(o.told.length :
  Int))&&decide (o.told.length≤o.told.length)) (.need (decide (k<o.told.length)) (.need (decide ((0:Int)≤(k:Int)∧(k:Int)<(o.cells.length:Int))&&decide
  (o.cells.length≤o.cells.length)) (.need (decide (k<o.cells.length)) (.need (!i64.wrap (Kt k o)==0||i64.wrap (Kt k o)==0) (.need (!i64.wrap
  (Kt k o)==0||decide ((0:Int)≤(k:Int))&&(i64.wrap (Kt k o)==0&&i64.wrap (Kt k o)==0)) (.need (!i64.wrap (Kt k o)==0 ||
  i64.wrap (Kt k o)==0) (.need (!i64.wrap (Kt k o)==0||i64.wrap (Kt k o)==0) (.need (!i64.wrap (Kt k o)==0||i64.wrap (Kt
  k o)==0&&i64.wrap (Kt k o)==0) (.need (!i64.wrap (Kt k o)==0||i64.wrap (Kt k o)==0) (.bnd (i64.wrap (Kt k o)==0 &&
  !(o.cells.getD k 0 != 0)==(i64.wrap (zT k o)==1)) (fun(x0:Bool) => .need (!!!x0==((o.told.getD k ⟨0,0⟩).cell != -1) || !!x0==((o.told.getD k ⟨0,0⟩).cell !=
  -1)) (.need (!!!x0==((o.told.getD k ⟨0,0⟩).cell != -1) || !!x0==((o.told.getD k ⟨0,0⟩).cell != -1)) (.need (!!!x0==((o.told.getD k ⟨0,0⟩).cell != -1) || !!x0 ==
  ((o.told.getD k ⟨0,0⟩).cell != -1)) (.need (!(!!x0==((o.told.getD k ⟨0,0⟩).cell != -1)&&decide ((o.told.getD k ⟨0,0⟩).cell≥0)) || !!x0==((o.told.getD k ⟨0,0⟩).cell !=
  -1)&&decide ((o.told.getD k ⟨0,0⟩).cell≥0)) (.need (!(!!x0==((o.told.getD k ⟨0,0⟩).cell != -1)&&decide ((o.told.getD k ⟨0,0⟩).cell≥0))||decide ((0:Int) ≤
  (o.told.getD k ⟨0,0⟩).cell)&&(!!x0==((o.told.getD k ⟨0,0⟩).cell != -1)&&decide ((o.told.getD k ⟨0,0⟩).cell≥0))) (.need (!(!!x0==((o.told.getD k ⟨0,0⟩).cell != -1) &&
  decide ((o.told.getD k ⟨0,0⟩).cell≥0)) || !!x0==((o.told.getD k ⟨0,0⟩).cell != -1)&&decide ((o.told.getD k ⟨0,0⟩).cell≥0)&&(!!x0==((o.told.getD k ⟨0,0⟩).cell != -1)
  && decide ((o.told.getD k ⟨0,0⟩).cell≥0))) (.need (!!!x0==((o.told.getD k ⟨0,0⟩).cell != -1) || !!x0==((o.told.getD k ⟨0,0⟩).cell != -1)&&(!decide ((o.told.getD k ⟨0,
  0⟩).cell≥0) || !!x0==((o.told.getD k ⟨0,0⟩).cell != -1)&&decide ((o.told.getD k ⟨0,0⟩).cell≥0))) (.bnd (decide ((o.told.getD k ⟨0,0⟩).cell≥0)&&o.cells.getD k 0 !=
  i64.wrap ((1:Int)*2^min (o.told.getD k ⟨0,0⟩).cell.toNat 64)) (fun(x1:Bool) => .need (!x0==((o.told.getD k ⟨0,0⟩).cell != -1) || !!x0==((o.told.getD k ⟨0,
  0⟩).cell != -1)) (.bnd (!x0==((o.told.getD k ⟨0,0⟩).cell != -1)||x1) (fun(x2:Bool) => .need (!!x2 || !x2) (.need (!!x2 || !x2) (.need (!!x2 || !x2) (.need (!(!x2 &&
  (o.told.getD k ⟨0,0⟩).cell == -2) || !x2&&(o.told.getD k ⟨0,0⟩).cell == -2) (.need (!!x2 || !x2&&(!(o.told.getD k ⟨0,0⟩).cell == -2 || !x2&&(o.told.getD k ⟨0,0⟩).cell ==
  -2)) (.bnd ((o.told.getD k ⟨0,0⟩).cell == -2&&o.cells.getD k 0 != 0) (fun(x3:Bool) => .need (x2 || !x2) (.bnd (x2||x3) (fun(x4:Bool) => .br (x4) (.leaf (.tup [.nili,.ptr
  371 0 0,.bool true false]) ([])) (.need (!(o.told.getD k ⟨0,0⟩).cell != -1||decide ((0:Int)≤(k:Int)∧(k:Int)<(o.a.length:Int))&&decide (o.a.length≤o.a.length)
  && ((o.told.getD k ⟨0,0⟩).cell != -1&&(o.told.getD k ⟨0,0⟩).cell != -1)) (.need (!(o.told.getD k ⟨0,0⟩).cell != -1||(o.told.getD k ⟨0,0⟩).cell != -1) (.need (!(o.told.getD k
  ⟨0,0⟩).cell != -1||decide (k<o.a.length)&&(o.told.getD k ⟨0,0⟩).cell != -1) (.need (!(o.told.getD k ⟨0,0⟩).cell != -1||(o.told.getD k ⟨0,0⟩).cell != -1) (.need
  (!(o.told.getD k ⟨0,0⟩).cell != -1||(o.told.getD k ⟨0,0⟩).cell != -1&&(o.told.getD k ⟨0,0⟩).cell != -1) (.need (!(o.told.getD k ⟨0,0⟩).cell != -1||(o.told.getD k ⟨0,
  0⟩).cell != -1) (.bnd ((o.told.getD k ⟨0,0⟩).cell != -1&&(o.a.getD k ⟨0,0⟩).cell != (o.told.getD k ⟨0,0⟩).cell) (fun(x5:Bool) => .need (!!x5||decide ((0:Int)≤(k:Int)
  ∧ (k:Int)<(o.a.length:Int))&&decide (o.a.length≤o.a.length)&&(!x5 && !x5)) (.need (!!x5 || !x5) (.need (!!x5||decide (k<o.a.length) && !x5) (.need (!!x5 || !x5)
  (.need (!!x5 || !x5) (.need (!(!x5&&decide ((o.a.getD k ⟨0,0⟩).cell≥0))||decide ((0:Int)≤(k:Int)∧(k:Int)<(o.a.length:Int))&&decide (o.a.length≤o.a.length)
  && (!x5&&decide ((o.a.getD k ⟨0,0⟩).cell≥0)&&(!x5&&decide ((o.a.getD k ⟨0,0⟩).cell≥0)))) (.need (!(!x5&&decide ((o.a.getD k ⟨0,0⟩).cell≥0)) || !x5&&decide
  ((o.a.getD k ⟨0,0⟩).cell≥0)) (.need (!(!x5&&decide ((o.a.getD k ⟨0,0⟩).cell≥0))||decide (k<o.a.length)&&(!x5&&decide ((o.a.getD k ⟨0,0⟩).cell≥0))) (.need (!(!x5
  && decide ((o.a.getD k ⟨0,0⟩).cell≥0))||decide ((0:Int)≤(o.a.getD k ⟨0,0⟩).cell)&&(!x5&&decide ((o.a.getD k ⟨0,0⟩).cell≥0)&&(!x5&&decide ((o.a.getD k ⟨0,
  0⟩).cell≥0)))) (.need (!(!x5&&decide ((o.a.getD k ⟨0,0⟩).cell≥0)) || !x5&&decide ((o.a.getD k ⟨0,0⟩).cell≥0)) (.need (!(!x5&&decide ((o.a.getD k ⟨0,0⟩).cell≥0)) ||
  !x5&&decide ((o.a.getD k ⟨0,0⟩).cell≥0)) (.need (!!x5 || !x5&&(!decide ((o.a.getD k ⟨0,0⟩).cell≥0) || !x5&&decide ((o.a.getD k ⟨0,0⟩).cell≥0))) (.bnd (decide
  ((o.a.getD k ⟨0,0⟩).cell≥0)&&i64.wrap (QMF k o)==0) (fun(x6:Bool) => .need (x5 || !x5) (.bnd (x5||x6) (fun(x7:Bool) => .need (!!x7||decide ((0:Int)≤(k
  : Int)∧(k:Int)<(o.a.length:Int))&&decide (o.a.length≤o.a.length)&&(!x7 && !x7)) (.need (!!x7 || !x7) (.need (!!x7||decide (k<o.a.length) && !x7) (.need (!!x7 ||
  !x7) (.need (!!x7 || !x7) (.need (!(!x7&&(o.a.getD k ⟨0,0⟩).cell == -2)||decide ((0:Int)≤(k:Int))&&(!x7&&(o.a.getD k ⟨0,0⟩).cell == -2&&(!x7&&(o.a.getD k ⟨0,
  0⟩).cell == -2))) (.need (!(!x7&&(o.a.getD k ⟨0,0⟩).cell == -2) || !x7&&(o.a.getD k ⟨0,0⟩).cell == -2) (.need (!(!x7&&(o.a.getD k ⟨0,0⟩).cell == -2) || !x7&&(o.a.getD k
  ⟨0,0⟩).cell == -2) (.need (!!x7 || !x7&&(!(o.a.getD k ⟨0,0⟩).cell == -2 || !x7&&(o.a.getD k ⟨0,0⟩).cell == -2)) (.bnd ((o.a.getD k ⟨0,0⟩).cell == -2&&i64.wrap
  (zT k o)==0) (fun(x8:Bool) => .need (x7 || !x7) (.bnd (x7||x8) (fun(x9:Bool) => .br (x9) (.leaf (.tup [.nili,.ptr 371 0 0,.bool true false]) ([])) (.need (!decide
  ((o.told.getD k ⟨0,0⟩).cell≥0)||decide ((o.told.getD k ⟨0,0⟩).cell≥0)) (.need (!decide ((o.told.getD k ⟨0,0⟩).cell≥0)||decide ((o.told.getD k ⟨0,0⟩).cell≥0)) (.need
  (!decide ((o.told.getD k ⟨0,0⟩).cell≥0)||decide ((o.told.getD k ⟨0,0⟩).cell≥0)) (.bnd (decide ((o.told.getD k ⟨0,0⟩).cell≥0)&&(o.told.getD k ⟨0,0⟩).turn != 0) (fun
  (x10:Bool) => .need (!x10||decide ((0:Int)≤(k:Int)∧(k:Int)<(o.a.length:Int))&&decide (o.a.length≤o.a.length)&&(x10&&x10)) (.need (!x10||x10) (.need (!x10
  || decide (k<o.a.length)&&x10) (.need (!x10||x10) (.need (!x10||x10&&x10) (.need (!x10||x10) (.bnd (x10&&(o.a.getD k ⟨0,0⟩).turn != (o.told.getD k ⟨0,0⟩).turn) (fun
  (x11:Bool) => .br (x11) (.leaf (.tup [.nili,.ptr 371 0 0,.bool true false]) ([])) (.need (!(o.told.getD k ⟨0,0⟩).cell != -1||decide ((0:Int)≤(k:Int)∧(k:Int) <
  (o.b.length:Int))&&decide (o.b.length≤o.b.length)&&((o.told.getD k ⟨0,0⟩).cell != -1&&(o.told.getD k ⟨0,0⟩).cell != -1)) (.need (!(o.told.getD k ⟨0,0⟩).cell != -1 ||
  (o.told.getD k ⟨0,0⟩).cell != -1) (.need (!(o.told.getD k ⟨0,0⟩).cell != -1||decide (k<o.b.length)&&(o.told.getD k ⟨0,0⟩).cell != -1) (.need (!(o.told.getD k ⟨0,0⟩).cell
  != -1||(o.told.getD k ⟨0,0⟩).cell != -1) (.need (!(o.told.getD k ⟨0,0⟩).cell != -1||(o.told.getD k ⟨0,0⟩).cell != -1&&(o.told.getD k ⟨0,0⟩).cell != -1) (.need
  (!(o.told.getD k ⟨0,0⟩).cell != -1||(o.told.getD k ⟨0,0⟩).cell != -1) (.bnd ((o.told.getD k ⟨0,0⟩).cell != -1&&(o.b.getD k ⟨0,0⟩).cell != (o.told.getD k ⟨0,0⟩).cell) (fun
  (x12:Bool) => .need (!!x12||decide ((0:Int)≤(k:Int)∧(k:Int)<(o.b.length:Int))&&decide (o.b.length≤o.b.length)&&(!x12 && !x12)) (.need (!!x12 || !x12) (.need
  (!!x12||decide (k<o.b.length) && !x12) (.need (!!x12 || !x12) (.need (!!x12 || !x12) (.need (!(!x12&&decide ((o.b.getD k ⟨0,0⟩).cell≥0))||decide ((0:Int)≤(k:Int) ∧
  (k:Int)<(o.b.length:Int))&&decide (o.b.length≤o.b.length)&&(!x12&&decide ((o.b.getD k ⟨0,0⟩).cell≥0)&&(!x12&&decide ((o.b.getD k ⟨0,0⟩).cell≥0)))) (.need
  (!(!x12&&decide ((o.b.getD k ⟨0,0⟩).cell≥0)) || !x12&&decide ((o.b.getD k ⟨0,0⟩).cell≥0)) (.need (!(!x12&&decide ((o.b.getD k ⟨0,0⟩).cell≥0))||decide (k <
  o.b.length)&&(!x12&&decide ((o.b.getD k ⟨0,0⟩).cell≥0))) (.need (!(!x12&&decide ((o.b.getD k ⟨0,0⟩).cell≥0))||decide ((0:Int)≤(o.b.getD k ⟨0,0⟩).cell)&&(!x12 &&
  decide ((o.b.getD k ⟨0,0⟩).cell≥0)&&(!x12&&decide ((o.b.getD k ⟨0,0⟩).cell≥0)))) (.need (!(!x12&&decide ((o.b.getD k ⟨0,0⟩).cell≥0)) || !x12&&decide ((o.b.getD k
  ⟨0,0⟩).cell≥0)) (.need (!(!x12&&decide ((o.b.getD k ⟨0,0⟩).cell≥0)) || !x12&&decide ((o.b.getD k ⟨0,0⟩).cell≥0)) (.need (!!x12 || !x12&&(!decide ((o.b.getD k ⟨0,
  0⟩).cell≥0) || !x12&&decide ((o.b.getD k ⟨0,0⟩).cell≥0))) (.bnd (decide ((o.b.getD k ⟨0,0⟩).cell≥0)&&i64.wrap (↑(BitVec.ofInt 64 ((o.cells.getD k 0).fdiv ((2 :
  Int)^min (o.b.getD k ⟨0,0⟩).cell.toNat 64)) &&& BitVec.ofInt 64 (1:Int)).toNat:Int)==0) (fun(x13:Bool) => .need (x12 || !x12) (.bnd (x12||x13) (fun(x14:Bool)=>
  .need (!!x14||decide ((0:Int)≤(k:Int)∧(k:Int)<(o.b.length:Int))&&decide (o.b.length≤o.b.length)&&(!x14 && !x14)) (.need (!!x14 || !x14) (.need (!!x14||decide
  (k<o.b.length) && !x14) (.need (!!x14 || !x14) (.need (!!x14 || !x14) (.need (!(!x14&&(o.b.getD k ⟨0,0⟩).cell == -2)||decide ((0:Int)≤(k:Int))&&(!x14&&(o.b.getD k
  ⟨0,0⟩).cell == -2&&(!x14&&(o.b.getD k ⟨0,0⟩).cell == -2))) (.need (!(!x14&&(o.b.getD k ⟨0,0⟩).cell == -2) || !x14&&(o.b.getD k ⟨0,0⟩).cell == -2) (.need (!(!x14 &&
  (o.b.getD k ⟨0,0⟩).cell == -2) || !x14&&(o.b.getD k ⟨0,0⟩).cell == -2) (.need (!!x14 || !x14&&(!(o.b.getD k ⟨0,0⟩).cell == -2 || !x14&&(o.b.getD k ⟨0,0⟩).cell == -2))
  (.bnd ((o.b.getD k ⟨0,0⟩).cell == -2&&i64.wrap (zT k o)==0) (fun(x15:Bool) => .need (x14 || !x14) (.bnd (x14||x15) (fun(x16:Bool) => .br (x16) (.leaf (.tup
  [.nili,.ptr 371 0 0,.bool true false]) ([])) (.need (!decide ((o.told.getD k ⟨0,0⟩).cell≥0)||decide ((o.told.getD k ⟨0,0⟩).cell≥0)) (.need (!decide ((o.told.getD k ⟨0,
  0⟩).cell≥0)||decide ((o.told.getD k ⟨0,0⟩).cell≥0)) (.need (!decide ((o.told.getD k ⟨0,0⟩).cell≥0)||decide ((o.told.getD k ⟨0,0⟩).cell≥0)) (.bnd (decide ((o.told.getD
  k ⟨0,0⟩).cell≥0)&&(o.told.getD k ⟨0,0⟩).turn != 0) (fun(x17:Bool) => .need (!x17||decide ((0:Int)≤(k:Int)∧(k:Int)<(o.b.length:Int))&&decide (o.b.length ≤
  o.b.length)&&(x17&&x17)) (.need (!x17||x17) (.need (!x17||decide (k<o.b.length)&&x17) (.need (!x17||x17) (.need (!x17||x17&&x17) (.need (!x17||x17) (.bnd (x17 &&
  (o.b.getD k ⟨0,0⟩).turn != (o.told.getD k ⟨0,0⟩).turn) (fun(x18:Bool) => .br (x18) (.leaf (.tup [.nili,.ptr 371 0 0,.bool true false]) ([])) (.need (decide ((0:Int)≤(k :
  Int)∧(k:Int)<(x.scans.n:Int))&&decide (x.scans.n≤x.scans.n)) (.need (decide (k<x.scans.n)) (.need (decide (x.d.ps.n≤x.d.ps.n)&&(true&&true)&&decide (x.d.ps.n ≤
  900)) (.br (Yv x.d (x.scans.get k) != 0) (.leaf (.tup [.nili,.ptr 371 0 0,.bool true false]) ([])) (.ask (0=0) (.ask (0=0) (.ask (0=0) (.ask (o.cells.length =
  o.cells.length) (.ask (cO=cO) (.ask (o.al=o.al) (.ask (0=0) (.ask (2=2) (.ask (cO=cO) (.ask (o.cells.getD k 0=o.cells.getD k 0) (.ask ((0:Int)
  = 0) (.ask (0=0) (.ask (o.told.length=o.told.length) (.ask (cO=cO) (.ask ((o.told.length:Int)=(o.told.length:Int)) (.ask ((k:Int)=(k:Int)) (.ask (0 =
  0) (.ask ((Q3 x.d (x.scans.get k)).length=(Q3 x.d (x.scans.get k)).length) (.ask (cO=cO) (.ask ((↑(Q3 x.d (x.scans.get k)).length:Int)=(↑(Q3 x.d
  (x.scans.get k)).length:Int)) (.ask ((0:Int)=0) (.ask ((Q3 x.d (x.scans.get k)).length≤(Q3 x.d (x.scans.get k)).length) (.ask (QC 2 (Q3 x.d (x.scans.get k)).length
  (fun i=>QA.enc ((Q3 x.d (x.scans.get k)).getD i ⟨0,0⟩)) fun i=>QA.enc ((Q3 x.d (x.scans.get k)).getD i ⟨0,0⟩)) (.ask (0=0) (.ask (o.a.length=o.a.length) (.ask
  (cO=cO) (.ask (0=0) (.ask (o.b.length=o.b.length) (.ask (cO=cO) (.ask (o.a.length≤o.a.length) (.ask (QC 2 o.a.length (fun i=>QA.enc
  (o.a.getD i ⟨0,0⟩)) fun i=>QA.enc (o.a.getD i ⟨0,0⟩)) (.ask (o.b.length≤o.b.length) (.ask (QC 2 o.b.length (fun i=>QA.enc (o.b.getD i ⟨0,0⟩)) fun i=>QA.enc
  (o.b.getD i ⟨0,0⟩)) (.ask (o.cells.length≤o.cells.length) (.ask (QC 1 o.cells.length (fun i=>QA.enc (o.cells.getD i 0)) fun i=>QA.enc (o.cells.getD i 0)) (.ask
  (o.told.length≤o.told.length) (.ask (QC 2 o.told.length (fun i=>QA.enc (o.told.getD i ⟨0,0⟩)) fun i=>QA.enc (o.told.getD i ⟨0,0⟩)) (.ask (x.d.play.length =
  x.d.play.length) (.ask (x.d.play.slack=x.d.play.slack) (.ask (x.d.play.loose=x.d.play.loose) (.ask (x.d.play.damp.lo=x.d.play.damp.lo) (.ask (x.d.play.damp.hi =
  x.d.play.damp.hi) (.ask (x.d.wide=x.d.wide) (.ask (x.d.high=x.d.high) (.ask (x.d.turn=x.d.turn) (.ask (0=0) (.ask (x.d.ps.n=x.d.ps.n) (.ask (cO=cO) (.ask (0
  = 0) (.ask (x.scans.n=x.scans.n) (.ask (cO=cO) (.ask (0=0) (.ask (x.hang.n=x.hang.n) (.ask (cO=cO) (.ask (x.lost=x.lost) (.ask (x.foreign =
  x.foreign) (.ask (x.d.ps.n≤x.d.ps.n) (.ask (QC 28 x.d.ps.n (fun i=>QA.enc (x.d.ps.get i)) fun i=>QA.enc (x.d.ps.get i)) (.ask (x.scans.n≤x.scans.n) (.ask (QC 28
  x.scans.n (fun i=>QA.enc (x.scans.get i)) fun i=>QA.enc (x.scans.get i)) (.ask (x.hang.n≤x.hang.n) (.ask (QC 4 x.hang.n (fun i=>QA.enc (x.hang.get i)) fun i=>
  QA.enc (x.hang.get i)) (.asm (True) (.all (fun(g19:Nat→Value) => .br (i64.wrap (↑(BitVec.ofInt 64 (o.cells.getD k 0) &&& ~~~BitVec.ofInt 64 can).toNat:Int) != 0)
  (.leaf (.tup [.nili,.ptr 371 0 0,.bool true false]) ([])) (.leaf (.tup [.nilp,.ptr 371 0 0,.ptr 8 0 0,.slz 136 0 o.cells.length cO,vi o.al,.slice true
  808 0 2 cO,.slz 208 0 o.told.length cO,vi (o.told.length:Int),vi (i64.wrap ((k:Int)+1))]) ([(Vc x),(Y4 o),(Y7 o),
  (Yt o),(0,.frz Kh x.d.ps.n fun i=>QA.enc (x.d.ps.get i)),(1,.frz Kh x.scans.n fun i=>QA.enc (x.scans.get i)),(Yd x),(Y3 o),(qZ
  o)])))))))))))))))))))))))))))))))))))))))))))))))))))))))))))))))))))))))))))))))))))))))))))))))))))))))))))))))))))))))))))))))))))))))))))))))))))))))))))))))))))))))))))))))))))))))))))))))))))
  (.leaf (.tup [.ptr 2 0 0,.ptr 371 0 0]) ([])):=by kernel_rfl
abbrev Gw(o:Frc):List Prop:=
  [0=0,o.a.length=o.a.length,cO=cO,0=0,o.b.length=o.b.length,cO=cO]
abbrev QBX(o:Frc):List Prop:=
  [0=0,o.cells.length=o.cells.length,cO=cO,o.al=o.al,0=0]
abbrev QEc(o:Frc)(x:QE):List Prop:=
  [QC 2 o.a.length (fun i=>QA.enc (o.a.getD i ⟨0,0⟩)) fun i=>QA.enc (o.a.getD i ⟨0,0⟩),o.b.length≤o.b.length,QC 2 o.b.length (fun i=>QA.enc (o.b.getD i ⟨0,
  0⟩)) fun i=>QA.enc (o.b.getD i ⟨0,0⟩),o.cells.length≤o.cells.length,QC 1 o.cells.length (fun i=>QA.enc (o.cells.getD i 0)) fun i=>QA.enc (o.cells.getD i 0),
  o.told.length≤o.told.length,QC 2 o.told.length (fun i=>QA.enc (o.told.getD i ⟨0,0⟩)) fun i=>QA.enc (o.told.getD i ⟨0,0⟩),x.d.play.length=x.d.play.length,
  x.d.play.slack=x.d.play.slack,x.d.play.loose=x.d.play.loose,x.d.play.damp.lo=x.d.play.damp.lo,x.d.play.damp.hi=x.d.play.damp.hi,x.d.wide=x.d.wide,x.d.high=x.d.high,
  x.d.turn=x.d.turn,0=0,x.d.ps.n=x.d.ps.n,cO=cO,0=0,x.scans.n=x.scans.n,cO=cO,0=0,x.hang.n=x.hang.n,cO=cO,x.lost =
  x.lost,x.foreign=x.foreign,x.d.ps.n≤x.d.ps.n,QC 28 x.d.ps.n (fun i=>QA.enc (x.d.ps.get i)) fun i=>QA.enc (x.d.ps.get i),x.scans.n≤x.scans.n,QC 28
  x.scans.n (fun i=>QA.enc (x.scans.get i)) fun i=>QA.enc (x.scans.get i)]
theorem QZA(o:Frc)(k k':Nat):QL 8 [.ptr 8 0 0,.slz 48 0 o.a.length cO,.slz 49 0 o.b.length cO,.slz 136 0 o.cells.length cO,vi o.al,.slz 208 0 o.told.length (Cap.of
  0),.slice true 808 0 2 cO,vi (i64.wrap ((k:Int)+1))] ([(Vc x),(Y3 o),(qZ o),(Y4 o),(Yt o),(Y7 o),(0,.frz Kh x.d.ps.n fun i=>
  QA.enc (x.d.ps.get i)),(1,.frz Kh x.scans.n fun i=>QA.enc (x.scans.get i)),(Yd x)]) (ZT x o k')=(some ([0=0,0=0]++(Gw o)++(QBX o)++[o.told.length =
  o.told.length,cO=cO,0=0,2=2,cO=cO,i64.wrap ((k:Int)+1)=(k':Int)]++(Gw o)++[o.a.length≤o.a.length]++(QEc o x) ++
  [x.hang.n≤x.hang.n,QC 4 x.hang.n (fun i=>QA.enc (x.hang.get i)) fun i=>QA.enc (x.hang.get i)])):=by kernel_rfl
theorem QQj(o:Frc)(k k':Nat):QL 8 [.ptr 8 0 0,.slz 48 0 o.a.length cO,.slz 49 0 o.b.length cO,.slz 136 0 o.cells.length cO,vi o.al,.slz 208 0 o.told.length (Cap.of
  0),.slice true 808 0 2 cO,vi (k:Int)] ([(Vc x),(Y3 o),(qZ o),(Y4 o),(Yt o),(Y7 o),(0,.frz Kh x.d.ps.n fun i=>QA.enc (x.d.ps.get
  i)),(1,.frz Kh x.scans.n fun i=>QA.enc (x.scans.get i)),(Yd x)]) (ZT x o k')=(some ([0=0,0=0]++(Gw o)++(QBX o)++[o.told.length=o.told.length,
  cO=cO,0=0,2=2,cO=cO,(k:Int)=(k':Int)]++(Gw o)++[o.a.length≤o.a.length]++(QEc o x)++[x.hang.n≤x.hang.n,QC 4 x.hang.n
  (fun i=>QA.enc (x.hang.get i)) fun i=>QA.enc (x.hang.get i)])):=by kernel_rfl
theorem QQA(o:Frc)(k:Nat)(some:Int)(L:List QB)(can can':Int)(i i':Nat):QL 8 [.ptr 8 0 0,.slz 136 0 o.cells.length cO,vi o.al,.slice true 808 0 1 (Cap.lit 1),vi some,vi (i64.wrap (jK L can
  i)),.slz 208 0 o.told.length cO,vi (o.told.length:Int),vi (k:Int),.slz 900 0 L.length cO,vi (L.length:Int),.int
  false .i64 (i64.wrap ((i:Int)+1))] ([(Vc x),(vQ i o),(vP o),(jc i o),(Hq L i),(0,.frz Kh x.d.ps.n fun i=>QA.enc (x.d.ps.get i)),(1,.frz Kh
  x.scans.n fun i=>QA.enc (x.scans.get i)),(vu i x),(jx i o)]) (qP false x o k some L can' i')=(Option.some [0=0,0=0,0=0,o.cells.length=o.cells.length,
  cO=cO,o.al=o.al,0=0,1=1,Cap.lit 1=Cap.lit 1,some=some,i64.wrap (jK L can i)=can',0=0,o.told.length=o.told.length,cO=Cap.of
  0,(o.told.length:Int)=(o.told.length:Int),(k:Int)=(k:Int),0=0,L.length=L.length,cO=cO,(L.length:Int)=(L.length:Int),i64.wrap ((i :
  Int)+1)=(i':Int),L.length≤L.length,QC 2 L.length (fun i=>QA.enc (L.getD i ⟨0,0⟩)) fun i=>QA.enc (L.getD i ⟨0,0⟩),0=0,o.a.length=o.a.length,cO =
  cO,o.a.length≤o.a.length,QC 2 o.a.length (fun i=>QA.enc (o.a.getD i ⟨0,0⟩)) fun i=>QA.enc (o.a.getD i ⟨0,0⟩),o.cells.length≤o.cells.length,QC 1
  o.cells.length (fun i=>QA.enc (o.cells.getD i 0)) fun i=>QA.enc (o.cells.getD i 0),o.told.length≤o.told.length,QC 2 o.told.length (fun i=>QA.enc (o.told.getD i
  ⟨0,0⟩)) fun i=>QA.enc (o.told.getD i ⟨0,0⟩),x.d.play.length=x.d.play.length,x.d.play.slack=x.d.play.slack,x.d.play.loose=x.d.play.loose,x.d.play.damp.lo =
  x.d.play.damp.lo,x.d.play.damp.hi=x.d.play.damp.hi,x.d.wide=x.d.wide,x.d.high=x.d.high,x.d.turn=x.d.turn,0=0,x.d.ps.n=x.d.ps.n,cO=cO,0=0,
  x.scans.n=x.scans.n,cO=cO,0=0,x.hang.n=x.hang.n,cO=cO,x.lost=x.lost,x.foreign=x.foreign,x.d.ps.n≤x.d.ps.n,QC 28 x.d.ps.n (fun i
  => QA.enc (x.d.ps.get i)) fun i=>QA.enc (x.d.ps.get i),x.scans.n≤x.scans.n,QC 28 x.scans.n (fun i=>QA.enc (x.scans.get i)) fun i=>QA.enc (x.scans.get i),
  x.hang.n≤x.hang.n,QC 4 x.hang.n (fun i=>QA.enc (x.hang.get i)) fun i=>QA.enc (x.hang.get i)]):=by kernel_rfl
theorem QSw(o:Frc)(k:Nat)(some:Int)(can:Int):QL 8 [.ptr 8 0 0,.slz 136 0 o.cells.length cO,vi o.al,.slice true 808 0 1 (Cap.lit 1),vi some,vi can,.slz 208 0 o.told.length
  cO,vi (o.told.length:Int),vi (k:Int)] ([(Vc x),(Y4 o),(vP o),(Yt o),(0,.frz Kh x.d.ps.n fun i=>QA.enc (x.d.ps.get i)),
  (1,.frz Kh x.scans.n fun i=>QA.enc (x.scans.get i)),(Yd x),(Y3 o)]) (zC false x o k some can)=(Option.some [0=0,0=0,0=0,o.cells.length=o.cells.length,
  cO=cO,o.al=o.al,0=0,1=1,Cap.lit 1=Cap.lit 1,some=some,can=can,0=0,o.told.length=o.told.length,cO=cO,(o.told.length:Int) =
  (o.told.length:Int),(k:Int)=(k:Int),0=0,o.a.length=o.a.length,cO=cO,o.a.length≤o.a.length,QC 2 o.a.length (fun i=>QA.enc (o.a.getD i ⟨0,
  0⟩)) fun i=>QA.enc (o.a.getD i ⟨0,0⟩),o.cells.length≤o.cells.length,QC 1 o.cells.length (fun i=>QA.enc (o.cells.getD i 0)) fun i=>QA.enc (o.cells.getD i 0),
  o.told.length≤o.told.length,QC 2 o.told.length (fun i=>QA.enc (o.told.getD i ⟨0,0⟩)) fun i=>QA.enc (o.told.getD i ⟨0,0⟩),x.d.play.length=x.d.play.length,
  x.d.play.slack=x.d.play.slack,x.d.play.loose=x.d.play.loose,x.d.play.damp.lo=x.d.play.damp.lo,x.d.play.damp.hi=x.d.play.damp.hi,x.d.wide=x.d.wide,x.d.high=x.d.high,
  x.d.turn=x.d.turn,0=0,x.d.ps.n=x.d.ps.n,cO=cO,0=0,x.scans.n=x.scans.n,cO=cO,0=0,x.hang.n=x.hang.n,cO=cO,x.lost =
  x.lost,x.foreign=x.foreign,x.d.ps.n≤x.d.ps.n,QC 28 x.d.ps.n (fun i=>QA.enc (x.d.ps.get i)) fun i=>QA.enc (x.d.ps.get i),x.scans.n≤x.scans.n,QC 28
  x.scans.n (fun i=>QA.enc (x.scans.get i)) fun i=>QA.enc (x.scans.get i),x.hang.n≤x.hang.n,QC 4 x.hang.n (fun i=>QA.enc (x.hang.get i)) fun i=>QA.enc
  (x.hang.get i)]):=by kernel_rfl
theorem QSZ(o:Frc)(k:Nat)(some:Int)(L:List QB)(can can':Int)(i i':Nat):QL 8 [.ptr 8 0 0,.slz 136 0 o.cells.length cO,vi o.al,.slice true 808 0 2 cO,vi some,vi (i64.wrap (jK L can
  i)),.slz 208 0 o.told.length cO,vi (o.told.length:Int),vi (k:Int),.slz 900 0 L.length cO,vi (L.length:Int),.int
  false .i64 (i64.wrap ((i:Int)+1))] ([(Vc x),(vQ i o),(Y7 o),(jc i o),(Hq L i),(0,.frz Kh x.d.ps.n fun i=>QA.enc (x.d.ps.get i)),(1,.frz Kh
  x.scans.n fun i=>QA.enc (x.scans.get i)),(vu i x),(jx i o),(QDx i o)]) (qP true x o k some L can' i')=(Option.some [0=0,0=0,0=0,o.cells.length =
  o.cells.length,cO=cO,o.al=o.al,0=0,2=2,cO=cO,some=some,i64.wrap (jK L can i)=can',0=0,o.told.length=o.told.length,
  cO=cO,(o.told.length:Int)=(o.told.length:Int),(k:Int)=(k:Int),0=0,L.length=L.length,cO=cO,(L.length:Int)=(L.length:Int),
  i64.wrap ((i:Int)+1)=(i':Int),L.length≤L.length,QC 2 L.length (fun i=>QA.enc (L.getD i ⟨0,0⟩)) fun i=>QA.enc (L.getD i ⟨0,0⟩),0=0,o.a.length =
  o.a.length,cO=cO,0=0,o.b.length=o.b.length,cO=cO,o.a.length≤o.a.length,QC 2 o.a.length (fun i=>QA.enc (o.a.getD i ⟨0,0⟩)) fun i=>
  QA.enc (o.a.getD i ⟨0,0⟩),o.b.length≤o.b.length,QC 2 o.b.length (fun i=>QA.enc (o.b.getD i ⟨0,0⟩)) fun i=>QA.enc (o.b.getD i ⟨0,0⟩),o.cells.length ≤
  o.cells.length,QC 1 o.cells.length (fun i=>QA.enc (o.cells.getD i 0)) fun i=>QA.enc (o.cells.getD i 0),o.told.length≤o.told.length,QC 2 o.told.length (fun i=>
  QA.enc (o.told.getD i ⟨0,0⟩)) fun i=>QA.enc (o.told.getD i ⟨0,0⟩),x.d.play.length=x.d.play.length,x.d.play.slack=x.d.play.slack,x.d.play.loose=x.d.play.loose,
  x.d.play.damp.lo=x.d.play.damp.lo,x.d.play.damp.hi=x.d.play.damp.hi,x.d.wide=x.d.wide,x.d.high=x.d.high,x.d.turn=x.d.turn,0=0,x.d.ps.n=x.d.ps.n,cO =
  cO,0=0,x.scans.n=x.scans.n,cO=cO,0=0,x.hang.n=x.hang.n,cO=cO,x.lost=x.lost,x.foreign=x.foreign,x.d.ps.n≤x.d.ps.n,QC 28
  x.d.ps.n (fun i=>QA.enc (x.d.ps.get i)) fun i=>QA.enc (x.d.ps.get i),x.scans.n≤x.scans.n,QC 28 x.scans.n (fun i=>QA.enc (x.scans.get i)) fun i=>QA.enc
  (x.scans.get i),x.hang.n≤x.hang.n,QC 4 x.hang.n (fun i=>QA.enc (x.hang.get i)) fun i=>QA.enc (x.hang.get i)]):=by kernel_rfl
theorem QUp(o:Frc)(k:Nat)(some:Int)(can:Int):QL 8 [.ptr 8 0 0,.slz 136 0 o.cells.length cO,vi o.al,.slice true 808 0 2 cO,vi some,vi can,.slz 208 0 o.told.length
  cO,vi (o.told.length:Int),vi (k:Int)] ([(Vc x),(Y4 o),(Y7 o),(Yt o),(0,.frz Kh x.d.ps.n fun i=>QA.enc (x.d.ps.get i)),(1,
  .frz Kh x.scans.n fun i=>QA.enc (x.scans.get i)),(Yd x),(Y3 o),(qZ o)]) (zC true x o k some can)=(Option.some [0=0,0=0,0=0,o.cells.length =
  o.cells.length,cO=cO,o.al=o.al,0=0,2=2,cO=cO,some=some,can=can,0=0,o.told.length=o.told.length,cO=cO,
  (o.told.length:Int)=(o.told.length:Int),(k:Int)=(k:Int),0=0,o.a.length=o.a.length,cO=cO,0=0,o.b.length=o.b.length,cO=cO,
  o.a.length≤o.a.length,QC 2 o.a.length (fun i=>QA.enc (o.a.getD i ⟨0,0⟩)) fun i=>QA.enc (o.a.getD i ⟨0,0⟩),o.b.length≤o.b.length,QC 2 o.b.length (fun i=>
  QA.enc (o.b.getD i ⟨0,0⟩)) fun i=>QA.enc (o.b.getD i ⟨0,0⟩),o.cells.length≤o.cells.length,QC 1 o.cells.length (fun i=>QA.enc (o.cells.getD i 0)) fun i=>
  QA.enc (o.cells.getD i 0),o.told.length≤o.told.length,QC 2 o.told.length (fun i=>QA.enc (o.told.getD i ⟨0,0⟩)) fun i=>QA.enc (o.told.getD i ⟨0,0⟩),
  x.d.play.length=x.d.play.length,x.d.play.slack=x.d.play.slack,x.d.play.loose=x.d.play.loose,x.d.play.damp.lo=x.d.play.damp.lo,x.d.play.damp.hi=x.d.play.damp.hi,
  x.d.wide=x.d.wide,x.d.high=x.d.high,x.d.turn=x.d.turn,0=0,x.d.ps.n=x.d.ps.n,cO=cO,0=0,x.scans.n=x.scans.n,cO=cO,0=0,x.hang.n =
  x.hang.n,cO=cO,x.lost=x.lost,x.foreign=x.foreign,x.d.ps.n≤x.d.ps.n,QC 28 x.d.ps.n (fun i=>QA.enc (x.d.ps.get i)) fun i=>QA.enc (x.d.ps.get i),
  x.scans.n≤x.scans.n,QC 28 x.scans.n (fun i=>QA.enc (x.scans.get i)) fun i=>QA.enc (x.scans.get i),x.hang.n≤x.hang.n,QC 4 x.hang.n (fun i=>QA.enc
  (x.hang.get i)) fun i=>QA.enc (x.hang.get i)]):=by kernel_rfl
theorem QPq(o:Frc)(k k':Nat):QL 8 [.ptr 8 0 0,.slz 136 0 o.cells.length cO,vi o.al,.slice true 808 0 1 (Cap.lit 1),.slz 208 0 o.told.length cO,vi (o.told.length
  : Int),vi (i64.wrap ((k:Int)+1))] ([(Vc x),(Y4 o),(vP o),(Yt o),(0,.frz Kh x.d.ps.n fun i=>QA.enc (x.d.ps.get i)),(1,.frz Kh
  x.scans.n fun i=>QA.enc (x.scans.get i)),(Yd x),(Y3 o)]) (Y8 false x o k')=(some ([0=0,0=0]++(QBX o)++[1=1,Cap.lit 1=Cap.lit 1,0=0,o.told.length =
  o.told.length,cO=cO,(o.told.length:Int)=(o.told.length:Int),i64.wrap ((k:Int)+1)=(k':Int),0=0,o.a.length=o.a.length,cO=Cap.of
  0,o.a.length≤o.a.length,QC 2 o.a.length (fun i=>QA.enc (o.a.getD i ⟨0,0⟩)) fun i=>QA.enc (o.a.getD i ⟨0,0⟩),o.cells.length≤o.cells.length,QC 1
  o.cells.length (fun i=>QA.enc (o.cells.getD i 0)) fun i=>QA.enc (o.cells.getD i 0),o.told.length≤o.told.length,QC 2 o.told.length (fun i=>QA.enc (o.told.getD i
  ⟨0,0⟩)) fun i=>QA.enc (o.told.getD i ⟨0,0⟩),x.d.play.length=x.d.play.length,x.d.play.slack=x.d.play.slack,x.d.play.loose=x.d.play.loose,x.d.play.damp.lo =
  x.d.play.damp.lo,x.d.play.damp.hi=x.d.play.damp.hi,x.d.wide=x.d.wide,x.d.high=x.d.high,x.d.turn=x.d.turn,0=0,x.d.ps.n=x.d.ps.n,cO=cO,0=0,
  x.scans.n=x.scans.n,cO=cO,0=0,x.hang.n=x.hang.n,cO=cO,x.lost=x.lost,x.foreign=x.foreign,x.d.ps.n≤x.d.ps.n,QC 28 x.d.ps.n (fun i
  => QA.enc (x.d.ps.get i)) fun i=>QA.enc (x.d.ps.get i),x.scans.n≤x.scans.n,QC 28 x.scans.n (fun i=>QA.enc (x.scans.get i)) fun i=>QA.enc (x.scans.get i),
  x.hang.n≤x.hang.n,QC 4 x.hang.n (fun i=>QA.enc (x.hang.get i)) fun i=>QA.enc (x.hang.get i)])):=by kernel_rfl
theorem QQp :QL 8 [] ([]) WW=(
  some []):=by kernel_rfl
theorem QPi(o:Frc)(k k':Nat):QL 8 [.ptr 8 0 0,.slz 136 0 o.cells.length cO,vi o.al,.slice true 808 0 2 cO,.slz 208 0 o.told.length cO,vi (o.told.length :
  Int),vi (i64.wrap ((k:Int)+1))] ([(Vc x),(Y4 o),(Y7 o),(Yt o),(0,.frz Kh x.d.ps.n fun i=>QA.enc (x.d.ps.get i)),(1,.frz Kh x.scans.n
  fun i=>QA.enc (x.scans.get i)),(Yd x),(Y3 o),(qZ o)]) (Y8 true x o k')=(some ([0=0,0=0]++(QBX o)++[2=2,cO=cO,0=0,o.told.length =
  o.told.length,cO=cO,(o.told.length:Int)=(o.told.length:Int),i64.wrap ((k:Int)+1)=(k':Int)]++(Gw o)++[o.a.length≤o.a.length]++(QEc
  o x)++[x.hang.n≤x.hang.n,QC 4 x.hang.n (fun i=>QA.enc (x.hang.get i)) fun i=>QA.enc (x.hang.get i)])):=by kernel_rfl
theorem QPc :QL 8 [] ([]) WW=(
  some []):=by kernel_rfl
structure QGZ (c al:Int) (k:Nat) (s:QB):Prop where
 f1:(((i64.wrap ((BitVec.ofInt 64 c &&& BitVec.ofInt 64 (i64.wrap (c-1))).toNat:Nat)==0) && !((c != 0)==(qX al k==1)))==(s.cell != -1))=true
 f2:(decide (s.cell≥0)&&(c != i64.wrap (1*2^min s.cell.toNat 64)))=false
 f3:((s.cell == -2)&&(c != 0))=false
structure QD0 (c al:Int) (k:Nat) (s t:QB):Prop where
 f4:((s.cell != -1)&&(t.cell != s.cell))=false
 f5:(decide (t.cell≥0)&&(qX c t.cell.toNat==0))=false
 f6:((t.cell == -2)&&(qX al k==0))=false
 f7:((decide (s.cell≥0)&&(s.turn != 0))&&(t.turn != s.turn))=false
def VQ(L:List QB):Nat→Int
 | 0=>0
 | k+1=>i64.wrap ((BitVec.ofInt 64 (VQ L k) ||| BitVec.ofInt 64 (i64.wrap (1*2^min (L.getD k ⟨0,0⟩).cell.toNat 64))).toNat:Nat)
structure QHF (x:QE) (o:Frc) (k:Nat):Prop where
 so:QGZ (o.cells.getD k 0) o.al k (o.told.getD k ⟨0,0⟩)
 sa:QD0 (o.cells.getD k 0) o.al k (o.told.getD k ⟨0,0⟩) (o.a.getD k ⟨0,0⟩)
 e:Yv x.d (x.scans.get k)=0
 l:∀ c∈Q3 x.d (x.scans.get k),0≤c.cell
 n:(Q3 x.d (x.scans.get k)).length≤1000
 c:(i64.wrap ((BitVec.ofInt 64 (o.cells.getD k 0) &&& ~~~BitVec.ofInt 64 (VQ (Q3 x.d (x.scans.get k)) (Q3 x.d (x.scans.get k)).length)).toNat:Nat) != 0)=false
structure QDs (x:QE) (o:Frc):Prop where
 n:x.scans.n≤1000
 d:x.d.ps.n≤900
 c:o.cells.length=x.scans.n
 t:o.told.length=x.scans.n
 a:o.a.length=x.scans.n
 k:∀ k,k<x.scans.n→QHF x o k
structure QLp (x:QE) (o:Frc):Prop extends QDs x o where
 b:o.b.length=x.scans.n
 kb:∀ k,k<x.scans.n→QD0 (o.cells.getD k 0) o.al k (o.told.getD k ⟨0,0⟩) (o.b.getD k ⟨0,0⟩)
def Xn(a b:List QB)(k:Nat):Bool:=(a.getD k ⟨0,0⟩).cell==(b.getD k ⟨0,0⟩).cell&&((a.getD k ⟨0,0⟩).turn==(b.getD k ⟨0,0⟩).turn&&true)
theorem QZU(o:Frc)(p:Nat)(hp:p<o.a.length)(hb:o.b.length=o.a.length)(hn:o.a.length≤1000)(h1:∀ k,k<p→Xn o.a o.b k=true)(h2:Xn o.a o.b p=false):JJ (ZT x o) (fun k=>k≤p) (fun k=>p-k) (fun _ e J=>e = .exit 0∧J=ZT x o p) 8 QKc [] (mkS Try.prog Kw) (fun _=>hnd (mkS Try.prog Kw) 3) (QX Try.f6 0):=by
 refine⟨fun k g hk=>Q2 (QVP x o k g) ?_⟩;have hk:k≤p:=hk;refine Qo ?_;refine Jh ?_;refine Qo ?_;refine Qz fun z0 y0 => ?_;obtain rfl:z0=true:=y0.trans (by rw[decide_eq_true (show(k:Int)<o.a.length by omega),decide_eq_true (show(k:Int)<o.b.length by omega)];rfl)
 refine Ko (fun q=>by first|(simp;done)|(simp at q ⊢;omega)) ?_
 refine JK (fun q=>by first|(simp;done)|(simp at q ⊢;omega)) ?_
 refine Ko (fun q=>by first|(simp;done)|(simp at q ⊢;omega)) ?_
 refine JK (fun q=>by first|(simp;done)|(simp at q ⊢;omega)) ?_
 refine Jh ?_;refine Qo ?_;refine Qz fun z1 y1 => ?_;refine QG (fun b0 => ?_) (fun b0 => ?_)
 ·have h:k<p:=by
   rcases Nat.lt_or_ge k p with h|h
   ·exact h
   ·have e:k=p:=by omega
    subst e;have q:z1=Xn o.a o.b k:=y1;rw[b0,h2]at q;cases q
  refine⟨k+1,h,by show p-(k+1)<p-k;omega,fun _ _ r=>r,rfl,rfl,_,QZA ..,?_⟩
  repeat' first|with_reducible refine QQ ?_ ?_|exact trivial|with_reducible rfl|exact qlr _|exact qRr|exact Kn h (by omega)|refine And.intro ?_ ?_
 ·have h:k=p:=by
   rcases Nat.lt_or_ge k p with h|h
   ·have q:z1=Xn o.a o.b k:=y1;rw[b0,h1 k h]at q;cases q
   ·omega
  subst h;refine⟨_,⟨rfl,rfl⟩,rfl,rfl,_,QQj ..,?_⟩
  repeat' first|with_reducible refine QQ ?_ ?_|exact trivial|with_reducible rfl|exact qlr _|exact qRr|refine And.intro ?_ ?_
theorem QTu(o:Frc)(k:Nat)(some:Int)(L:List QB)(hl:L.length≤1000)(hc:∀ c∈L,0≤c.cell):JJ (fun i=>qP two x o k some L (VQ L i) i) (fun i=>i≤L.length) (fun i=>L.length-i) (fun _ e J=>e = .exit 6∧J=zC two x o k some (VQ L L.length)) 8 QEY [] (mkE Try.prog Kw) (fun _=>hnd (mkE Try.prog Kw) 3) (za (QX Try.f6 1)):=by
 cases two with
 | false=>
  refine⟨fun i g hk=>Q2 (QQl x o k some L (VQ L i) i g) ?_⟩;refine QG (fun b0 => ?_) (fun b0 => ?_)
  ·refine QF (by simp at b0 ⊢;omega) ?_
   refine QF (by simp at b0 ⊢;omega) ?_
   refine QF (by exact decide_eq_true (hc _ (vW (by have:=qdt b0;omega)))) ?_
   have h:i<L.length:=by have:=qdt b0;omega
   refine⟨i+1,h,by show L.length-(i+1)<L.length-i;omega,fun _ _ r=>r,rfl,rfl,_,QQA ..,?_⟩
   repeat' first|with_reducible refine QQ ?_ ?_|exact trivial|with_reducible rfl|exact qlr _|exact qRr|exact Kn h hl|exact(show _=VQ L (i+1)from rfl)|refine And.intro ?_ ?_
  ·have h:i=L.length:=by have:=of_decide_eq_false b0;omega
   subst h;refine⟨_,⟨rfl,rfl⟩,rfl,rfl,_,QSw ..,?_⟩
   repeat' first|with_reducible refine QQ ?_ ?_|exact trivial|with_reducible rfl|exact qlr _|exact qRr|refine And.intro ?_ ?_
 | true=>
  refine⟨fun i g hk=>Q2 (QUb x o k some L (VQ L i) i g) ?_⟩;refine QG (fun b0 => ?_) (fun b0 => ?_)
  ·refine QF (by simp at b0 ⊢;omega) ?_
   refine QF (by simp at b0 ⊢;omega) ?_
   refine QF (by exact decide_eq_true (hc _ (vW (by have:=qdt b0;omega)))) ?_
   have h:i<L.length:=by have:=qdt b0;omega
   refine⟨i+1,h,by show L.length-(i+1)<L.length-i;omega,fun _ _ r=>r,rfl,rfl,_,QSZ ..,?_⟩
   repeat' first|with_reducible refine QQ ?_ ?_|exact trivial|with_reducible rfl|exact qlr _|exact qRr|exact Kn h hl|exact(show _=VQ L (i+1)from rfl)|refine And.intro ?_ ?_
  ·have h:i=L.length:=by have:=of_decide_eq_false b0;omega
   subst h;refine⟨_,⟨rfl,rfl⟩,rfl,rfl,_,QUp ..,?_⟩
   repeat' first|with_reducible refine QQ ?_ ?_|exact trivial|with_reducible rfl|exact qlr _|exact qRr|refine And.intro ?_ ?_
end Go.Proofs.Ytbpffdkemeoajaa
