/- - -/
import Derived.Test.YtekbmehgcofnkaaGreatVd
import Derived.Deep.AppendSrc
import Derived.Deep.DeepAppendWide
namespace Go.SX
open Go Go.RowKit Go.Proofs.YtekbmehgcofnkaaGreat
def bN:Option AV->Nat->Option (Bool×Bool×Nat)
 | none,d=>some (true,true,d)
 | some (.int c _ n),_=>some (c,decide (0<=n),n.toNat)
 | _,_=>none
def jP(n m:Nat)(lo hi mx:Option AV):Option (Bool×Bool×Nat×Nat×Nat):=
 match bN mx m with
 | some (c1,p1,m')=>match bN hi n with
  | some (c2,p2,h)=>match bN lo 0 with
   | some (c3,p3,l)=>if mx.isSome&&hi.isNone then none else
    some (c1&&c2&&c3,p1&&p2&&p3&&(mx.isNone||decide (m'<=m))&&(hi.isNone||decide (h<=m'))&&(lo.isNone||decide (l<=h)),l,h,m')
   | none=>none
  | none=>none
 | none=>none
variable {P:Program}{x:AV}{c:Bool}{lo hi mx:Option AV}{r:Nat->Loc}{w:World}{t:TypeId}{b:Option Blk}{eff:Eff}{lk:Nat->Option Blk}{nid sz:Nat}{rows:List (List AV)}
theorem YA{k:IntKind}{n:Int}{y:Nat}{code:BoundsCode}(h0:0<=n)(h1:n.toNat<=y)(w:World):(Instr.sliceBound (.int k n) y code).run P w = .ok n.toNat w:=by
 have:n<=(y:Int):=by omega
 simp[Instr.sliceBound,asIntOf,h0,this]
theorem GJ{d:Nat}{p:Bool}{n:Nat}(h:bN (some x) d=some (c,p,n)):∃ k i,x = .int c k i/\p=decide (0<=i)/\n=i.toNat:=by
 cases x<;>simp only[bN]at h<;>(try (cases h;done))
 simp only[qsI,qpI]at h;obtain⟨rfl,rfl,rfl⟩:=h;exact⟨_,_,rfl,rfl,rfl⟩
theorem QCv{n B m:Nat}{l h m':Nat}(hb:jP n B lo hi mx=some (c,true,l,h,m'))(hm:B<=m)(isS:Bool)(r:Nat->Loc)(w:World):
  (Instr.sliceBounds isS n m (lo.map (AV.den r)) (hi.map (AV.den r)) (mx.map (AV.den r))).run P w = .ok (l,h,if mx.isSome then m' else m) w/\(mx.isNone=true->m'=B)/\(lo.isNone=true->l=0):=by
 unfold jP at hb;split at hb<;>(try (cases hb;done))
 rename_i c1 p1 m1 e1;split at hb<;>(try (cases hb;done))
 rename_i c2 p2 h1 e2;split at hb<;>(try (cases hb;done))
 rename_i c3 p3 l1 e3;split at hb<;>(try (cases hb;done))
 rename_i hmh;simp only[qsI,qpI,qbA,qbO,qdE]at hb;obtain⟨_,⟨⟨⟨⟨⟨q1,q2⟩,q3⟩,q4⟩,q5⟩,q6⟩,rfl,rfl,rfl⟩:=hb;subst q1 q2 q3;unfold Instr.sliceBounds;cases mx with
 | none=>
  simp only[bN,qsI,qpI]at e1;obtain⟨_,_,rfl⟩:=e1;cases hi with
  | none=>
   simp only[bN,qsI,qpI]at e2;obtain⟨_,_,rfl⟩:=e2;cases lo with
   | none=>
    simp only[bN,qsI,qpI]at e3;obtain⟨_,_,rfl⟩:=e3;simp
   | some x=>
    obtain⟨k,i,rfl,hp,rfl⟩:=GJ e3;have hp:=qdt hp.symm;simp only[Option.isNone_some,Bool.false_eq_true,false_or]at q6;simp[AV.den,YA hp q6]
  | some y=>
   obtain⟨k,i,rfl,hp,rfl⟩:=GJ e2;have hp:=qdt hp.symm;simp only[Option.isNone_some,Bool.false_eq_true,false_or]at q5;have hq:i.toNat<=m:=by omega
   cases lo with
   | none=>
    simp only[bN,qsI,qpI]at e3;obtain⟨_,_,rfl⟩:=e3;simp[AV.den,YA hp hq]
   | some x=>
    obtain⟨k',i',rfl,hp',rfl⟩:=GJ e3;have hp':=qdt hp'.symm;simp only[Option.isNone_some,Bool.false_eq_true,false_or]at q6;simp[AV.den,YA hp hq,YA hp' q6]
 | some z=>
  obtain⟨k0,i0,rfl,hp0,rfl⟩:=GJ e1;have hp0:=qdt hp0.symm;simp only[Option.isNone_some,Bool.false_eq_true,false_or]at q4;have hq0:i0.toNat<=m:=by omega
  cases hi with
  | none=>simp at hmh
  | some y=>
   obtain⟨k,i,rfl,hp,rfl⟩:=GJ e2;have hp:=qdt hp.symm;simp only[Option.isNone_some,Bool.false_eq_true,false_or]at q5;cases lo with
   | none=>
    simp only[bN,qsI,qpI]at e3;obtain⟨_,_,rfl⟩:=e3;simp[AV.den,YA hp0 hq0,YA hp q5]
   | some x=>
    obtain⟨k',i',rfl,hp',rfl⟩:=GJ e3;have hp':=qdt hp'.symm;simp only[Option.isNone_some,Bool.false_eq_true,false_or]at q6;simp[AV.den,YA hp0 hq0,YA hp q5,YA hp' q6]
theorem QiV{l h m':Nat}(hb:jP 0 0 lo hi mx=some (c,true,l,h,m')):l=0/\h=0/\m'=0:=by
 unfold jP at hb;split at hb<;>(try (cases hb;done))
 rename_i c1 p1 m1 e1;split at hb<;>(try (cases hb;done))
 rename_i c2 p2 h1 e2;split at hb<;>(try (cases hb;done))
 rename_i c3 p3 l1 e3;split at hb<;>(try (cases hb;done))
 simp only[qsI,qpI,qbA,qbO,qdE]at hb;obtain⟨_,⟨⟨⟨⟨⟨q1,q2⟩,q3⟩,q4⟩,q5⟩,q6⟩,rfl,rfl,rfl⟩:=hb
 have hm:m1=0:=by
  cases mx with
  | none=>simp only[bN,qsI,qpI]at e1;omega
  | some x=>simp at q4;omega
 have hh:h1=0:=by
  cases hi with
  | none=>simp only[bN,qsI,qpI]at e2;omega
  | some x=>simp at q5;omega
 have hl:l1=0:=by
  cases lo with
  | none=>simp only[bN,qsI,qpI]at e3;omega
  | some x=>simp at q6;omega
 exact⟨hl,hh,hm⟩
def QA6:Blk->Option Nat
 | .cells z _ _=>some z
 | .rowl _ z _=>some z
 | .gone=>none
 | .cellsR .. => none
 | .rowlR .. => none
 | .lp .. => none
 | .dfr=>none
 | .mp .. => none
 | .rowz _ _ ks _ _=>some ks.length
 | .frz ks _ _=>some ks.length
 | .itm .. => none
theorem QIY{id:Nat}{b:Blk}{z:Nat}(hb:QN r id w b)(h:QA6 b=some z):(r id).esz=z:=by
 cases b<;>simp only[QA6,qsI]at h<;>(try (cases h;done))<;>subst h
 .exact hb.2.1
 .exact hb.2.1
 .exact hb.2.1
 .exact hb.1
def H7(P:Program)(t:TypeId)(x:AV)(lo hi mx:Option AV)(b:Option Blk):Option Eff:=
 match P.underlying t,x,b with
 | some (.array n elem),.ptr id 0 0,some (.cells z _ _)=>
  if szT P elem==some z then match jP n n lo hi mx with
   | some (c,p,l,h,m)=>some ⟨c,p,.slice c id (if m=l then 0 else l) (h-l) (.lit (m-l)),[]⟩
   | none=>none
  else none
 | some (.slice elem),.slice c0 id e len (.lit cp),some b=>
  if (szT P elem).isSome&&szT P elem==QA6 b then match jP len cp lo hi mx with
   | some (c,p,l,h,m)=>some ⟨c&&c0,p,.slice (c&&c0) id (if m=l then e else e+l) (h-l) (.lit (m-l)),[]⟩
   | none=>none
  else none
 | some (.slice elem),.slice c0 id e len (.of k),some (.rowl _ z L)=>
  if szT P elem==some z&&k==e then match jP len (L.length-e) lo hi mx with
   | some (c,p,l,h,m)=>match mx with
    | none=>some ⟨c&&c0,p&&(decide (l=0)||decide (e+l<L.length)),.slice (c&&c0) id (e+l) (h-l) (.of (k+l)),[]⟩
    | some _=>some ⟨c&&c0,p&&decide (e<=L.length),.slice (c&&c0) id (if m=l then e else e+l) (h-l) (.lit (m-l)),[]⟩
   | none=>none
  else none
 | some (.slice elem),.nils,none=>match szT P elem,jP 0 0 lo hi mx with
  | some _,some (c,p,_,_,_)=>some ⟨c,p,.nils,[]⟩
  | _,_=>none
 | _,_,_=>none
theorem zM{elem:TypeId}(hu:P.underlying t=some (.slice elem))(x:Value)(lo hi mx:Option Value)(w:World):(Instr.sliceAt t x lo hi mx).run P w=(Instr.slice t x lo hi mx).run P w:=by
 simp[Instr.sliceAt,run_underlying hu]
theorem Qfh(h:H7 P t x lo hi mx b=some eff)(hp:eff.pre=true)(hb:∀ id e j b',x = .ptr id e j->b=some b'->QN r id w b')(hb':∀ c id e n cp b',x = .slice c id e n cp->b=some b'->QN r id w b'):
  (Instr.sliceAt t (x.den r) (lo.map (AV.den r)) (hi.map (AV.den r)) (mx.map (AV.den r))).run P w = .ok (eff.val.den r) w/\eff.upd=[]:=by
 unfold H7 at h;split at h<;>(try (cases h;done))
 .rename_i n elem id z ty l0 hu;split at h<;>(try (cases h;done))
  rename_i hz;split at h<;>(try (cases h;done))
  rename_i c p l hh m hbn;simp only[qsI]at h;subst h;simp only at hp;subst hp;have hrep:=hb id 0 0 _ rfl rfl;obtain⟨hr,hm0,_⟩:=QCv (P:=P) hbn (qlr n) false r w
  have hme:(if mx.isSome then m else n)=m:=by
   cases mx with
   | none=>exact(hm0 rfl).symm
   | some _=>rfl
  rw[hme]at hr;have hz:szT P elem=some z:=by simpa using hz
  refine⟨?_,rfl⟩;simp only[Instr.sliceAt,Sem.run_bind,run_underlying hu,Result.andThen_ok,AV.den,Instr.sureAddr,Sem.run_pure,hr,XC hz,Cap.den];rw[hrep.1,hrep.2.1];split
  .simp
  .simp[Ve]
 .rename_i elem c0 id e len cp b hu;split at h<;>(try (cases h;done))
  rename_i hz;simp only[qbA,beq_iff_eq]at hz;obtain⟨z,hz1⟩:=Option.isSome_iff_exists.1 hz.1;split at h<;>(try (cases h;done))
  rename_i c p l hh m hbn;simp only[qsI]at h;subst h;simp only at hp;subst hp;have hrep:=hb' c0 id e len (.lit cp) b rfl rfl;have hez:=QIY hrep (by rw[<-hz.2];exact hz1)
  obtain⟨hr,hm0,_⟩:=QCv (P:=P) hbn (qlr cp) true r w
  have hme:(if mx.isSome then m else cp)=m:=by
   cases mx with
   | none=>exact(hm0 rfl).symm
   | some _=>rfl
  rw[hme]at hr;refine⟨?_,rfl⟩;rw[zM hu];simp only[Instr.slice,Sem.run_bind,run_underlying hu,Result.andThen_ok,AV.den,Cap.den,hr,XC hz1,Sem.run_pure];rw[hez];split
  .simp
  .simp[Ve,Nat.add_mul,Nat.add_assoc]
 .rename_i elem c0 id e len k ty z L hu;split at h<;>(try (cases h;done))
  rename_i hz;simp only[qbA,beq_iff_eq]at hz;obtain⟨hz1,rfl⟩:=hz;split at h<;>(try (cases h;done))
  rename_i c p l hh m hbn;have hrep:=hb' c0 id k len (.of k) _ rfl rfl;obtain⟨ho,hez,_,hcap,_⟩:=hrep;split at h
  .simp only[qsI]at h;subst h;simp only[qbA,qbO,qdE]at hp;obtain⟨rfl,hl⟩:=hp;obtain⟨hr,hm0,_⟩:=QCv (P:=P) (m:=(r id).cap-k) hbn (by omega) true r w
   refine⟨?_,rfl⟩;rw[zM hu];simp only[Option.map_none,Option.isSome_none,Bool.false_eq_true,if_false]at hr;simp only[Instr.slice,Sem.run_bind,run_underlying hu,Result.andThen_ok,AV.den,Cap.den,Option.map_none,hr,XC hz1,Sem.run_pure];rw[hez,ho];rcases hl with rfl|hl
   .split
    .simp
    .simp[Ve]
   .rw[if_neg (by omega)]
    simp[Ve,Nat.add_mul,Nat.sub_sub]
  .rename_i y;simp only[qsI]at h;subst h;simp only[qbA,qdE]at hp;obtain⟨rfl,hl⟩:=hp;obtain⟨hr,hm0,_⟩:=QCv (P:=P) (m:=(r id).cap-k) hbn (by omega) true r w
   refine⟨?_,rfl⟩;rw[zM hu];simp only[Option.map_some,Option.isSome_some,if_true]at hr;simp only[Instr.slice,Sem.run_bind,run_underlying hu,Result.andThen_ok,AV.den,Cap.den,Option.map_some,hr,XC hz1,Sem.run_pure];rw[hez];split
   .simp
   .simp[Ve,Nat.add_mul,Nat.add_assoc]
 .rename_i elem hu;split at h<;>(try (cases h;done))
  rename_i z c p l hh m hz hbn;simp only[qsI]at h;subst h;simp only at hp;subst hp;obtain⟨hr,hm0,_⟩:=QCv (P:=P) hbn (qlr 0) true r w;obtain⟨rfl,rfl,rfl⟩:=QiV hbn;refine⟨?_,rfl⟩;rw[zM hu];simp only[ite_self]at hr;simp only[Instr.slice,Sem.run_bind,run_underlying hu,Result.andThen_ok,AV.den,hr,XC hz,Sem.run_pure];simp
def Hk(n:Nat):Cap->Nat
 | .of k=>n-k
 | .lit m=>min n m
def QHz(n:Nat):Cap->Nat
 | .of _=>0
 | .lit m=>min n m
def QGo(b:Blk)(cp:Cap):Nat:=match b with
 | .rowz _ _ _ n _=>Hk n cp
 | .frz _ n _=>QHz n cp
 | _=>0
def QGs:Cap->Nat->Cap
 | .of k,l => .of (k+l)
 | .lit m,l => .lit (m-l)
def QEC(P:Program)(t:TypeId)(id e len:Nat)(cp:Cap)(lo hi mx:Option AV)(b:Blk):Option Eff:=match P.underlying t with
 | some (.slice elem)=>(match szT P elem with
  | some z=>(match lo,hi,mx with
   | some (.int _ _ l),none,none=>(match b with
    | .rowz _ _ ks n _=>(match Nat.beq ks.length z with
     | true=>some ⟨false,decide (0<=l/\l.toNat<=len/\l.toNat<Hk n cp),.slz id (e+l.toNat) (len-l.toNat) (QGs cp l.toNat),[]⟩
     | false=>none)
    | _=>none)
   | none,some (.int _ _ h),none=>some ⟨false,decide (0<=h/\h.toNat<=QGo b cp),.slz id e h.toNat cp,[]⟩
   | none,some (.int _ _ h),some (.int _ _ m)=>some ⟨false,decide (0<=h/\0<=m/\h.toNat<=m.toNat/\m.toNat<=QGo b cp),.slz id e h.toNat (.lit m.toNat),[]⟩
   | _,_,_=>none)
  | none=>none)
 | _=>none
theorem Qe4{id:Nat}{b:Blk}(hb:QN r id w b)(cp:Cap):QGo b cp<=(r id).room (cp.den (r id).cap):=by
 unfold QGo;split
 .rename_i o ty ks n g;have h:Kl r id w ty ks.length n (QY ks g):=hb;unfold Loc.room;cases hn:(r id).nil with
  | true=>have:=h.2.2.2.1 hn;subst this;cases cp<;>simp[Hk]
  | false=>
   have:=(h.2.2.2.2.2 hn).1;cases cp with
   | of k=>simp only[Cap.den,Hk];omega
   | lit m=>simp only[Cap.den,Hk];omega
 .rename_i ks n g;have h1:(r id).nil=true->n=0:=hb.2.2.1;unfold Loc.room;cases cp with
  | of k=>exact Nat.zero_le _
  | lit m=>
   cases hn:(r id).nil with
   | true=>rw[h1 hn];simp[QHz]
   | false=>simp only[Cap.den,QHz];omega
 .exact Nat.zero_le _
theorem QND(a:Option Addr)(z:Nat):a.map (λa=>a.add (0*z))=a:=by
 cases a with
 | none=>rfl
 | some a=>
  cases a;simp[Addr.add]
theorem Qho{id e len:Nat}{cp:Cap}{b:Blk}(h:QEC P t id e len cp lo hi mx b=some eff)(hp:eff.pre=true)(hb:QN r id w b):
  (Instr.sliceAt t ((AV.slz id e len cp).den r) (lo.map (AV.den r)) (hi.map (AV.den r)) (mx.map (AV.den r))).run P w = .ok (eff.val.den r) w/\eff.upd=[]:=by
 unfold QEC at h;split at h<;>(try (cases h;done))
 rename_i elem hu;split at h<;>(try (cases h;done))
 rename_i z hz;have hlow:=Qe4 hb cp;split at h<;>(try (cases h;done))
 .rename_i c k i;split at h<;>(try (cases h;done))
  rename_i o ty ks n g;split at h<;>(try (cases h;done))
  rename_i hkz;have hkz:=qnb hkz;simp only[qsI]at h;subst h;obtain⟨h0,h1,h2⟩:=qdt hp;refine⟨?_,rfl⟩;have hrep:Kl r id w ty ks.length n (QY ks g):=hb;have hez:(r id).esz=z:=by rw[hrep.2.1,hkz]
  have hlow2:Hk n cp<=(r id).room (cp.den (r id).cap):=hlow
  have hnil:(r id).nil=false:=by
   cases hn:(r id).nil with
   | false=>rfl
   | true=>unfold Loc.room at hlow2;rw[hn]at hlow2;simp only at hlow2;omega
  have hroom:(r id).room (cp.den (r id).cap)=cp.den (r id).cap:=by unfold Loc.room;rw[hnil]
  have hroom2:(r id).room ((QGs cp i.toNat).den (r id).cap)=cp.den (r id).cap-i.toNat:=by
   unfold Loc.room;rw[hnil];cases cp with
   | of q=>simp only[QGs,Cap.den];omega
   | lit q=>simp only[QGs,Cap.den]
  have hlt:i.toNat<cp.den (r id).cap:=by rw[hroom]at hlow2;omega
  rw[zM hu];simp only[Instr.slice,Sem.run_bind,run_underlying hu,Result.andThen_ok,AV.den,Option.map_none,Option.map_some,Instr.sliceBounds,Sem.run_pure,YA h0 h1,XC hz];rw[hroom,hroom2,if_neg (by omega)]
  have hbase:((r id).base e).map (·.add (i.toNat*z))=(r id).base (e+i.toNat):=by
   simp only[Loc.base,hnil,Option.map_some,hez,Addr.add]
   by_cases hz0:i.toNat*z=0
   .rw[if_pos hz0,Nat.add_mul,hz0,Nat.add_zero]
   .rw[if_neg hz0,Nat.add_mul,Nat.add_assoc]
  rw[hbase]
 .rename_i c k i;simp only[qsI]at h;subst h;obtain⟨h0,h1⟩:=qdt hp;refine⟨?_,rfl⟩;rw[zM hu];simp only[Instr.slice,Sem.run_bind,run_underlying hu,Result.andThen_ok,AV.den,Option.map_none,Option.map_some,Instr.sliceBounds,Sem.run_pure,YA h0 (Nat.le_trans h1 hlow),XC hz];rw[QND,ite_self,Nat.sub_zero,Nat.sub_zero]
 .rename_i c k i c' k' m;simp only[qsI]at h;subst h;obtain⟨h0,h0',h1,h2⟩:=qdt hp;have hm:=Nat.le_trans h2 hlow;refine⟨?_,rfl⟩;rw[zM hu];simp only[Instr.slice,Sem.run_bind,run_underlying hu,Result.andThen_ok,AV.den,Option.map_none,Option.map_some,Instr.sliceBounds,Sem.run_pure,YA h0' hm,YA h0 h1,XC hz];rw[QND,ite_self,Nat.sub_zero,Nat.sub_zero]
  have:(r id).room ((Cap.lit m.toNat).den (r id).cap)=m.toNat:=by
   unfold Loc.room at hm ⊢;cases hn:(r id).nil with
   | true=>rw[hn]at hm;simp only at hm ⊢;omega
   | false=>rfl
  rw[this]
theorem QUg(place:Nat->Option (Nat×Nat)):∀(parts:List (Nat×AV)) (cells out:List AV),Xm place cells parts=some out->out.length=cells.length
 | [],cells,out,h=>by simp only[Xm,qsI]at h;rw[h]
 | (i,v)::parts,cells,out,h=>by
  simp only[Xm]at h;split at h<;>(try (cases h;done))
  split at h<;>(try (cases h;done))
  rw[QUg place parts _ _ h,QIW]
theorem QEK(zc:List AV):∀ n,(rep n zc).flatten.length=n*zc.length
 | 0=>by simp[rep]
 | n+1=>by rw[rep,List.flatten_cons,List.length_append,QEK zc n,Nat.add_mul];omega
theorem QVw(zc:List AV):∀(n i:Nat),i<n*zc.length->(rep n zc).flatten[i]? = zc[i % zc.length]?
 | 0,i,h=>by omega
 | n+1,i,h=>by
  rw[rep,List.flatten_cons];rcases Nat.lt_or_ge i zc.length with g|g
  .rw[List.getElem?_append_left g,Nat.mod_eq_of_lt g]
  .rw[List.getElem?_append_right g,QVw zc n (i-zc.length) (by rw[Nat.add_mul]at h;omega)]
   congr 1;exact(Nat.mod_eq_sub_mod g).symm
theorem QJc(r:Nat->Loc)(z:Value)(zc:List AV)(hz:z.cells=(AV.denL r zc).toArray)(n:Nat):(Array.range (n*zc.length)).map (z.cells[· % z.cells.size]!)=(AV.denL r (rep n zc).flatten).toArray:=by
 apply Array.ext';apply List.ext_getElem?;intro i;rw[hz];simp only[Array.toList_map,Array.toList_range,List.getElem?_map,Qy];rcases Nat.lt_or_ge i (n*zc.length)with h|h
 .rw[List.getElem?_range h,QVw zc n i h]
  have hpos:0<zc.length:=by
   rcases Nat.eq_zero_or_pos zc.length with e|e
   .rw[e]at h;omega
   .exact e
  have hlt:=Nat.mod_lt i hpos;simp[hlt]
 .rw[List.getElem?_eq_none (by simpa using h),List.getElem?_eq_none (by rw[QEK];exact h)];rfl
theorem QDk(sz:Nat):∀(n:Nat) (l:List AV),l.length=n*sz->(VY sz n l).flatten=l/\(∀ x∈VY sz n l,x.length=sz)/\(VY sz n l).length=n
 | 0,l,h=>by
  have:l=[]:=List.eq_nil_of_length_eq_zero (by omega)
  subst this;exact⟨rfl,by simp[VY],rfl⟩
 | n+1,l,h=>by
  rw[Nat.add_mul]at h;obtain⟨h1,h2,h3⟩:=QDk sz n (l.drop sz) (by rw[List.length_drop];omega)
  refine⟨by rw[VY,List.flatten_cons,h1,List.take_append_drop],?_,by rw[VY,List.length_cons,h3]⟩
  intro x hx;rw[VY]at hx;rcases List.mem_cons.1 hx with rfl|hx
  .rw[List.length_take];omega
  .exact h2 x hx
theorem QNf{p:Nat->Bool}{place:Nat->Option (Nat×Nat)}:∀{parts:List (Nat×AV)} {cells out:List AV},Xm place cells parts=some out->AV.allL p cells=true->(∀ q∈parts,q.2.all p=true)->AV.allL p out=true
 | [],cells,out,h,hc,_=>by simp only[Xm,qsI]at h;rw[<-h];exact hc
 | (i,v)::parts,cells,out,h,hc,hp=>by
  simp only[Xm]at h;split at h<;>(try (cases h;done))
  split at h<;>(try (cases h;done))
  exact QNf h (QPM _ _ _ hc (QLO (hp (i,v) (by simp)))) (λq hq=>hp q (by simp[hq]))
theorem QRZ{p:Nat->Bool}{zc:List AV}(h:AV.allL p zc=true):∀ n,AV.allL p (rep n zc).flatten=true
 | 0=>rfl
 | n+1=>by rw[rep,List.flatten_cons,j5,h,QRZ h n];rfl
def QHs(P:Program)(t:TypeId)(len:Nat)(parts:List (Nat×AV))(nid:Nat):Option Eff:=
 match P.underlying t with
 | some (.slice e)=>match P.info? e with
  | some ie=>match ie.zero with
   | some z=>if decide (len*ie.size<=2^24)&&(ofValue z).cells.length==ie.size then
     match Xm (λi=>some (i*ie.size,ie.size)) (rep len (ofValue z).cells).flatten parts with
     | some out=>some ⟨true,true,.slice true nid 0 len (.lit len),[(nid,.rowl e ie.size (VY ie.size len out))]⟩
     | none=>none
    else none
   | none=>none
  | none=>none
 | _=>none
theorem Qv.new1'{w0:World}{o:Obj}{l:Loc}{b:Blk}(hl:l.blk=w.heap.size)(hl2:∀ k,l.foot k->k=l.blk)(hw:w0=w∨w0=w.drew)(hb:QN (Qw r nid l) nid (w0.alloc o) b):Qv lk r nid [(nid,b)] w (Qw r nid l) (w0.alloc o):=by
 have hp:=Qv.new1 (lk:=lk) (r:=r) (nid:=nid) (w:=w) (o:=o) (l:=l) (b:=b) hl hl2;rcases hw with rfl|rfl
 .exact hp hb
 .have hb':QN (Qw r nid l) nid (w.alloc o) b:=by cases b<;>exact hb
  have:=hp hb';refine⟨this.same,λp hpm=>?_,⟨this.fr.os,this.fr.tape,this.fr.output,this.fr.size,Nat.le_succ _,this.fr.block⟩,this.new,this.stay,this.apart⟩;simp only[List.mem_singleton]at hpm;subst hpm;exact hb
theorem QbQ{len:Nat}{parts:List (Nat×AV)}(h:QHs P t len parts nid=some eff)(hsc:∀ p∈parts,p.2.all (λi=>!inR nid i)=true)(w:World):
  ∃ w' r',(Instr.buildSlice t len (parts.map λx=>(x.1,x.2.den r)).toArray).run P w = .ok (eff.val.den r') w'/\Qv lk r nid eff.upd w r' w':=by
 unfold QHs at h;split at h<;>(try (cases h;done))
 rename_i e hu;split at h<;>(try (cases h;done))
 rename_i ie hie;split at h<;>(try (cases h;done))
 rename_i z hz;split at h<;>(try (cases h;done))
 rename_i hc;simp only[qbA,beq_iff_eq,qdE]at hc;split at h<;>(try (cases h;done))
 rename_i out hf;simp only[qsI]at h;subst h;have hlen:=QUg _ _ _ _ hf;rw[QEK,hc.2]at hlen;obtain⟨c1,c2,c3⟩:=QDk ie.size len out hlen;have hfill:=QE3 r _ _ _ _ hf;have hzs:=QJc r z (ofValue z).cells (QPv r z) len;rw[hc.2]at hzs;rw[<-hzs]at hfill;let l:Loc:=⟨w.heap.size,0,ie.size,len,false,none,λk=>k=w.heap.size⟩;refine⟨w.alloc (.cells (AV.denL r out).toArray e),Qw r nid l,?_,Qv.new1 rfl (λ_ h=>h) ?_⟩
 .have hsm:¬ len*ie.size>2^24:=by omega
  by_cases h0:len*ie.size=0
  .have e0:(Array.range (len*ie.size)).map (z.cells[· % z.cells.size]!) = #[]:=by rw[h0];exact Array.ext (by simp) (λi h1 _=>by simp at h1)
   rw[e0]at hfill;have hA:∀ f:Nat->Value,(Array.range 0).map f = #[]:=λf=>Array.ext (by simp) (λi h1 _=>by simp at h1)
   simp[Instr.buildSlice,run_underlying hu,sizeOf,typeInfo,hie,h0,hA,hfill,newRow,AV.den,Qw,Cap.den,l]
  .have:=run_buildSlice (P:=P) w t e len _ _ ie z hu hie hz hsm h0 hfill;rw[this];simp[AV.den,Qw,Cap.den,l,Loc.of]
 .simp only[QN,Qw,if_true,l];refine⟨trivial,trivial,c2,by rw[c3];exact qlr _,[],by rw[c3];simp,?_⟩
  rw[ji,if_pos rfl,c1,List.append_nil]
  have hsc':AV.allL (λi=>!inR nid i) out=true:=by
   refine QNf hf ?_ hsc;exact QRZ (QLO (QOI _ z)) len
  rw[denL_congr (QEz (l:=⟨w.heap.size,0,ie.size,len,false,none,λk=>k=w.heap.size⟩)) out hsc']
def QBM(sz:Nat):AV->Option Blk->Option (List (List AV))
 | .nils,none=>some []
 | .slice _ _ e len _,some (.rowl _ z l)=>if z==sz&&decide (e+len<=l.length)then some ((l.drop e).take len)else none
 | .slice _ _ e len _,some (.cells z _ l)=>if z==sz&&decide (e*z+len*z<=l.length)then some (VY z len ((l.drop (e*z)).take (len*z)))else none
 | _,_=>none
def QB4(sz:Nat)(x:AV)(b:Option Blk):Option (List (List AV)):=QBM sz x (b.map Blk.peel)
def QRN:AV->Nat
 | .slice _ _ _ len _=>len
 | _=>0
def QKl:AV->Bool
 | .slice c _ _ _ _=>c
 | .nils=>true
 | _=>false
structure QGm (r:Nat->Loc) (w:World) (sz:Nat) (x:AV) (rows:List (List AV)):Prop where
 len:rows.length=QRN x
 each:∀ y∈rows,y.length=sz
 there:∀ c id e len cp,x = .slice c id e len cp->∀(j:Nat) (u:Value),(AV.denL r rows.flatten)[j]? = some u->w.cell? ⟨(r id).blk,(r id).off+e*(r id).esz+j,none⟩=some u
theorem QI0(sz:Nat):∀(l:List (List AV)),(∀ x∈l,x.length=sz)->∀ n,(l.take n).flatten=l.flatten.take (n*sz)
 | [],_,n=>by simp
 | x::l,hl,0=>by simp
 | x::l,hl,n+1=>by
  have hx:=hl x (by simp)
  rw[List.take_succ_cons,List.flatten_cons,List.flatten_cons,QI0 sz l (λy hy=>hl y (by simp[hy])) n,List.take_append,hx]
  rw[List.take_of_length_le (l:=x) (by rw[hx,Nat.add_mul];omega),show(n+1)*sz-sz=n*sz by rw[Nat.add_mul];omega]
theorem QJY(sz:Nat):∀(l:List (List AV)),(∀ x∈l,x.length=sz)->∀ n,(l.drop n).flatten=l.flatten.drop (n*sz)
 | [],_,n=>by simp
 | x::l,hl,0=>by simp
 | x::l,hl,n+1=>by
  have hx:=hl x (by simp)
  rw[List.drop_succ_cons,List.flatten_cons,QJY sz l (λy hy=>hl y (by simp[hy])) n,List.drop_append,hx]
  rw[List.drop_of_length_le (l:=x) (by rw[hx,Nat.add_mul];omega),show(n+1)*sz-sz=n*sz by rw[Nat.add_mul];omega];rfl
theorem QkS(h:QBM sz x b=some rows)(hb:∀ c id e n cp b',x = .slice c id e n cp->b=some b'->QN r id w b'):
  QGm r w sz x rows/\(x = .nils∨∃ c id e n cp,x = .slice c id e n cp):=by
 unfold QBM at h;split at h<;>(try (cases h;done))
 .simp only[qsI]at h;subst h;exact⟨⟨rfl,by simp,λ_ _ _ _ _ h=>by cases h⟩,.inl rfl⟩
 .rename_i c id e len cp ty z l;split at h<;>(try (cases h;done))
  rename_i hc;simp only[qbA,beq_iff_eq,qdE]at hc;simp only[qsI]at h;subst h;obtain⟨rfl,hle⟩:=hc;obtain⟨ho,hz,hlen,hcap,rest,hrest,hbk⟩:=hb c id e len cp _ rfl rfl;refine⟨⟨by simp[QRN];omega,λy hy=>hlen y (List.mem_of_mem_drop (List.mem_of_mem_take hy)),λc' id' e' len' cp' hx j u hu=>?_⟩,.inr ⟨_,_,_,_,_,rfl⟩⟩
  simp only[AV.slice.injEq]at hx;obtain⟨_,rfl,rfl,_,_⟩:=hx;rw[ho,hz,Nat.zero_add,Yg hbk];rw[QI0 z _ (λy hy=>hlen y (List.mem_of_mem_drop hy)),QJY z l hlen,Qy,List.getElem?_map]at hu;obtain⟨v,hv,rfl⟩:=Option.map_eq_some_iff.1 hu;have hj:=(List.getElem?_eq_some_iff.1 hv).1;simp only[List.length_take,List.length_drop]at hj;rw[List.getElem?_take_of_lt (by omega),List.getElem?_drop]at hv
  have hlt:=(List.getElem?_eq_some_iff.1 hv).1;rw[List.getElem?_append_left (by rw[Kf];exact hlt),Qy,List.getElem?_map,hv];rfl
 .rename_i c id e len cp z ty l;split at h<;>(try (cases h;done))
  rename_i hc;simp only[qbA,beq_iff_eq,qdE]at hc;simp only[qsI]at h;subst h;obtain⟨rfl,hle⟩:=hc;obtain⟨ho,hz,hbk⟩:=hb c id e len cp _ rfl rfl;obtain⟨c1,c2,c3⟩:=QDk z len ((l.drop (e*z)).take (len*z)) (by simp;omega)
  refine⟨⟨c3,c2,λc' id' e' len' cp' hx j u hu=>?_⟩,.inr ⟨_,_,_,_,_,rfl⟩⟩;simp only[AV.slice.injEq]at hx;obtain⟨_,rfl,rfl,_,_⟩:=hx;rw[ho,hz,Nat.zero_add,Yg hbk];rw[c1,Qy,List.getElem?_map]at hu;obtain⟨v,hv,rfl⟩:=Option.map_eq_some_iff.1 hu;have hj:=(List.getElem?_eq_some_iff.1 hv).1;simp only[List.length_take,List.length_drop]at hj;rw[List.getElem?_take_of_lt (by omega),List.getElem?_drop]at hv
  rw[Qy,List.getElem?_map,hv];rfl
theorem QGy(h:QB4 sz x b=some rows)(hb:∀ c id e n cp b',x = .slice c id e n cp->b=some b'->QN r id w b'):
  QGm r w sz x rows/\(x = .nils∨∃ c id e n cp,x = .slice c id e n cp):=by
 refine QkS h λc id e n cp b' hx hb'=>?_;obtain⟨b0,rfl,rfl⟩:=Option.map_eq_some_iff.1 hb';exact(hb c id e n cp b0 hx rfl).peel
def QDN(e:TypeId)(sz:Nat)(k:Bool)(nid:Nat)(rows:List (List AV))(by_:Nat):Option Eff:=
 some ⟨k,decide ((rows.length+rows.length / 4+192)*by_<=281474976710656/\rows.length<=9223372036854775807),.slice k nid 0 rows.length (.of 0),[(nid,.rowl e sz rows)]⟩
def QK7(P:Program)(ts:List TypeId)(s x:AV)(sb xb:Option Blk)(nid:Nat):Option Eff:=
 match ts with
 | [t,tx]=>match P.underlying t,P.underlying tx with
  | some (.slice e),some (.slice _)=>match P.info? e with
   | some i=>match i.zero with
    | some z=>if z.cells.size==i.size then
     match QB4 i.size x xb with
     | some news=>if news.all (λy=>y.all AV.atom)then
      match s,sb with
      | .nils,none=>match QKl x,news with
       | true,[]=>some ⟨true,true,.nils,[]⟩
       | true,_::_=>QDN e i.size true nid news i.bytes
       | false,_=>none
      | .slice c id 0 len (.of 0),some (.rowl ty sz l)=>
       if sz==i.size&&ty==e then
        match c&&QKl x,len+news.length<=l.length&&len != l.length with
        | true,true=>some ⟨true,true,.slice true id 0 (len+news.length) (.of 0),[(id,.rowl ty sz (l.take len++news++l.drop (len+news.length)))]⟩
        | k,_=>some ⟨k,decide (len=l.length/\(len+news.length+(len+news.length) / 4+192)*i.bytes<=281474976710656/\len+news.length<=9223372036854775807),.slice k nid 0 (len+news.length) (.of 0),[(id,.gone),(nid,.rowl ty sz (l++news))]⟩
       else none
      | .slice true id e0 len (.lit cp),some b=>match QKl x,decide (len+news.length<=cp)with
       | true,false=>match QB4 i.size (.slice true id e0 len (.lit cp)) (some b)with
        | some olds=>QDN e i.size true nid (olds++news) i.bytes
        | none=>none
       | true,true=>match b with
        | .rowl ty sz l=>if sz==i.size&&ty==e&&decide (e0+len+news.length<=l.length)then
          some ⟨true,true,.slice true id e0 (len+news.length) (.lit cp),[(id,.rowl ty sz (l.take (e0+len)++news++l.drop (e0+len+news.length)))]⟩else none
        | _=>none
       | false,_=>none
      | _,_=>none
      else none
     | none=>none
     else none
    | none=>none
   | none=>none
  | _,_=>none
 | _=>none
theorem QNV(h:QGm r w sz x rows)(hx:x = .nils∨∃ c id e n cp,x = .slice c id e n cp){tx e':TypeId}(hk:P.underlying tx=some (.slice e'))(ha:rows.all (λy=>y.all AV.atom)=true):
  Src P sz tx (x.den r) rows.length (AV.denL r rows.flatten) w:=by
 have h1:∀ u∈AV.denL r rows.flatten,u.oneCell'=true:=by
  intro u hu;rw[Qy]at hu;obtain⟨v,hv,rfl⟩:=List.mem_map.1 hu;obtain⟨y,hy,hvy⟩:=List.mem_flatten.1 hv;simp only[List.all_eq_true]at ha;exact QEH r (ha y hy v hvy)
 have hl:(AV.denL r rows.flatten).length=rows.length*sz:=by rw[Kf,Y0 sz rows h.each]
 rcases hx with rfl|⟨c,id,e,n,cp,rfl⟩
 .have:rows=[]:=List.eq_nil_of_length_eq_zero h.len;subst this;exact Src.ofNil w hk 0
 .have hn:rows.length=n:=h.len;subst hn;exact Src.ofSlice w hk _ _ _ _ hl (λj u hu=>by rw[Ve];exact h.there _ _ _ _ _ rfl j u hu) h1
theorem QPk:∀(vs A:List Value) (o j:Nat),o+vs.length<=A.length->(Jk A o vs)[j]? = if o<=j/\j<o+vs.length then vs[j-o]? else A[j]?
 | [],A,o,j,_=>by rw[if_neg (by simp only[List.length_nil];omega)];rfl
 | v::vs,A,o,j,h=>by
  simp only[List.length_cons]at h ⊢;rw[Jk,QPk vs _ (o+1) j (by simp;omega)]
  by_cases g:j=o
  .subst g;rw[if_neg (by omega),if_pos (by omega),Nat.sub_self,List.getElem?_cons_zero,List.getElem?_set_self (by omega)]
  .by_cases g2:o+1<=j/\j<o+1+vs.length
   .rw[if_pos g2,if_pos (by omega),show j-o=(j-(o+1))+1 by omega,List.getElem?_cons_succ]
   .rw[if_neg g2,if_neg (by omega),List.getElem?_set_ne (by omega)]
theorem QYY(vs A:List Value)(o:Nat)(h:o+vs.length<=A.length):Jk A o vs=A.take o++vs++A.drop (o+vs.length):=by
 apply List.ext_getElem?;intro j;rw[QPk vs A o j h];have hl:(A.take o).length=o:=by simp;omega
 by_cases g1:j<o
 .rw[if_neg (by omega),List.append_assoc,List.getElem?_append_left (by omega),List.getElem?_take_of_lt g1]
 .by_cases g2:j<o+vs.length
  .rw[if_pos (by omega),List.getElem?_append_left (by rw[List.length_append];omega),List.getElem?_append_right (by omega),hl]
  .rw[if_neg (by omega),List.getElem?_append_right (by rw[List.length_append];omega),List.length_append,hl,List.getElem?_drop]
   congr 1;omega
theorem QUH{p:Nat->Bool}(sz:Nat):∀(n:Nat) (l:List AV),AV.allL p l=true->(VY sz n l).all (AV.allL p)=true
 | 0,_,_=>rfl
 | n+1,l,h=>by
  rw[VY,List.all_cons,QUH sz n (l.drop sz) (by rw[GM]at h ⊢;exact λv hv=>h v (List.mem_of_mem_drop hv))]
  rw[Bool.and_true,GM];rw[GM]at h;exact λv hv=>h v (List.mem_of_mem_take hv)
theorem QcB{p:Nat->Bool}(h:QBM sz x b=some rows)(hb:∀ b',b=some b'->b'.all p=true):rows.all (AV.allL p)=true:=by
 unfold QBM at h;split at h<;>(try (cases h;done))
 .simp only[qsI]at h;subst h;rfl
 .split at h<;>(try (cases h;done))
  simp only[qsI]at h;subst h;have:=hb _ rfl;simp only[Blk.all,List.all_eq_true]at this ⊢;exact λy hy=>this y (List.mem_of_mem_drop (List.mem_of_mem_take hy))
 .split at h<;>(try (cases h;done))
  simp only[qsI]at h;subst h;have:=hb _ rfl;simp only[Blk.all]at this;refine QUH _ _ _ ?_;rw[GM]at this ⊢;exact λv hv=>this v (List.mem_of_mem_drop (List.mem_of_mem_take hv))
theorem QOJ{p:Nat->Bool}(h:QB4 sz x b=some rows)(hb:∀ b',b=some b'->b'.all p=true):rows.all (AV.allL p)=true:=by
 refine QcB h λb' hb'=>?_;obtain⟨b0,rfl,rfl⟩:=Option.map_eq_some_iff.1 hb';exact Blk.all_peel (hb b0 rfl)
theorem QGH{tx ty e:TypeId}{i:TypeInfo}{z:Value}(ht:P.underlying t=some (.slice e))(hi:P.info? e=some i)(hz:i.zero=some z)(hzs:z.cells.size=i.size){base:Option Addr}{sLen sCap:Nat}{olds news:List (List AV)}(ho:∀ y∈olds,y.length=i.size)(hn:∀ y∈news,y.length=i.size)(hol:olds.length=sLen)(hold:(Builtin.firstCells i.size sLen (.slice base sLen sCap)).run P w.drew = .ok (AV.denL r olds.flatten).toArray w.drew){x:Value}(hs:Src P i.size tx x news.length (AV.denL r news.flatten) w)(hsc:(olds++news).all (AV.allL (λi=>!inR nid i))=true)(hg:sCap<sLen+news.length)(hfit:(sLen+news.length+(sLen+news.length) / 4+192)*i.bytes<=281474976710656/\sLen+news.length<=9223372036854775807):
  ∃ w' r',(Builtin.append_ #[t,tx] ty #[.slice base sLen sCap,x]).run P w = .ok ((AV.slice true nid 0 (sLen+news.length) (.of 0)).den r') w'/\Qv lk r nid [(nid,.rowl e i.size (olds++news))] w r' w'/\w.heap.size<=(r' nid).blk/\(r' nid).nil=false/\∀ k,(r' nid).foot k↔k=(r' nid).blk:=by
 have hrun:=run_append_grow_src (P:=P) w t tx ty e i z ht hi hz base sLen sCap _ hold x news.length _ hs hg (by omega) (growslice_fits_wide hg hfit.1)
 let cap:=grownCap w (sLen+news.length) sCap e;have hcap:sLen+news.length<=cap:=grownCap_ge _ _ _ _;let l:Loc:=⟨w.heap.size,0,i.size,cap,false,none,λk=>k=w.heap.size⟩;refine⟨w.drew.alloc (.cells ((AV.denL r olds.flatten++AV.denL r news.flatten).toArray++Builtin.zeroCells z.cells (cap-(sLen+news.length))) e),Qw r nid l,?_,Qv.new1' rfl (λ_ h=>h) (.inr rfl) ?_,by simp[Qw,l],by simp[Qw,l],by simp[Qw,l]⟩
 .rw[hrun];simp[AV.den,Qw,Cap.den,l,cap,Loc.of]
 simp only[QN,Qw,if_true,l];refine⟨trivial,trivial,?_,by rw[List.length_append,hol];exact hcap,(Builtin.zeroCells z.cells (cap-(sLen+news.length))).toList,?_,?_⟩
 .intro y hy;rcases List.mem_append.1 hy with h|h
  .exact ho y h
  .exact hn y h
 .refine Nat.le_of_eq ?_;show _=(Builtin.zeroCells z.cells (cap-(sLen+news.length))).size;rw[size_zeroCells,hzs,List.length_append,hol]
 .rw[ji,if_pos (show w.heap.size=w.drew.heap.size from rfl)];have e1:=denL_congr (QEz (r:=r) (l:=⟨w.heap.size,0,i.size,cap,false,none,λk=>k=w.heap.size⟩)) _ (YG hsc);rw[<-e1];congr 2;apply Array.ext';simp[Qy,cap]
theorem QDP{id:Nat}{ty:TypeId}{l:List (List AV)}{news:List (List AV)}(hb:QN r id w (.rowl ty sz l))(hn:∀ y∈news,y.length=sz){len:Nat}(hle:len<=l.length)(hcap:len+news.length<=(r id).cap):
  QN r id (w.setCells (r id).blk (len*sz) (AV.denL r news.flatten)) (.rowl ty sz (l.take len++news++l.drop (len+news.length)))/\w.there (r id).blk (len*sz) (AV.denL r news.flatten).length:=by
 obtain⟨ho,hz,hlen,hc,rest,hrest,hbk⟩:=hb;have hfl:=Y0 sz l hlen;have hnl:=Y0 sz news hn
 have e1:(r id).cap*sz<=l.length*sz+rest.length:=by
  have e0:l.length*sz+((r id).cap-l.length)*sz=(r id).cap*sz:=by rw[<-Nat.add_mul];congr 1;omega
  omega
 have e2:(len+news.length)*sz<=(r id).cap*sz:=Nat.mul_le_mul_right _ hcap;rw[Nat.add_mul]at e2
 have hA:len*sz+(AV.denL r news.flatten).length<=(AV.denL r l.flatten++rest).length:=by
  rw[Kf,hnl,List.length_append,Kf,hfl];omega
 refine⟨?_,QGV hbk hA⟩;have hlk:len*sz<=l.length*sz:=Nat.mul_le_mul_right _ hle;refine⟨ho,hz,?_,?_,rest.drop ((len+news.length-l.length)*sz),?_,?_⟩
 .intro y hy;rcases List.mem_append.1 hy with h|h
  .rcases List.mem_append.1 h with h|h
   .exact hlen y (List.mem_of_mem_take h)
   .exact hn y h
  .exact hlen y (List.mem_of_mem_drop h)
 .simp;omega
 .have hl2:(l.take len++news++l.drop (len+news.length)).length=max l.length (len+news.length):=by simp;omega
  rw[hl2,List.length_drop];refine Nat.le_sub_of_add_le (Nat.le_trans (Nat.le_of_eq ?_) hrest);rw[<-Nat.add_mul];congr 1;omega
 .rw[QBO _ _ _ _ _ hbk,QYY _ _ _ hA];congr 2
  have t1:(AV.denL r l.flatten++rest).take (len*sz)=AV.denL r (l.take len).flatten:=by
   rw[List.take_append_of_le_length (by rw[Kf,hfl];exact hlk),QI0 sz l hlen,Qy,Qy,List.map_take]
  have t2:(AV.denL r l.flatten++rest).drop (len*sz+(AV.denL r news.flatten).length)=AV.denL r (l.drop (len+news.length)).flatten++rest.drop ((len+news.length-l.length)*sz):=by
   rw[Kf,hnl,<-Nat.add_mul,List.drop_append,Kf,hfl,<-Nat.mul_sub_right_distrib,QJY sz l hlen,Qy,Qy,List.map_drop]
  rw[t1,t2,List.flatten_append,List.flatten_append,qY,qY];simp[List.append_assoc]
theorem QFd(w:World)(b o:Nat)(vs:List Value):Fr w (w.setCells b o vs) (λk=>k=b):=by
 obtain⟨s1,s2,s3,s4,s5⟩:=QCZ b vs o w;exact⟨s1,s2,s3,by omega,by rw[QCf];exact qlr _,λk _ hk=>s5 k hk⟩
theorem Qv.same1{nid id:Nat}{w':World}{b b0:Blk}(hid:inR nid id=false)(hlk:lk id=some b0)(hb0:Qo r id b0 (r id).blk)(hbb:∀ k,Qo r id b k->Qo r id b0 k)(hb:QN r id w' b)(hf:Fr w w' (λk=>k=(r id).blk)):Qv lk r nid [(id,b)] w r w':=by
 refine⟨λ_ _=>rfl,?_,⟨hf.os,hf.tape,hf.output,hf.size,hf.drawn,λk hk hc=>hf.block k hk ?_⟩,?_,?_,?_⟩
 .intro p hp;simp only[List.mem_singleton]at hp;subst hp;exact hb
 .rintro rfl;exact hc ⟨(id,b),by simp,hid,b0,hlk,hb0⟩
 .intro p hp hin _;simp only[List.mem_singleton]at hp;subst hp;rw[hid]at hin;cases hin
 .intro p hp hin _ k hk;simp only[List.mem_singleton]at hp;subst hp;exact⟨b0,hlk,hbb k hk⟩
 .intro p hp q _ hin;simp only[List.mem_singleton]at hp;subst hp;intro;rw[hid]at hin;cases hin
theorem Qv.moved{r':Nat->Loc}{nid id:Nat}{w':World}{b b0:Blk}(hid:inR nid id=false)(hr:∀ i,inR nid i=false->r' i=r i)(hlk:lk id=some b0)(hb:QN r' nid w' b)(hf:Fr w w' (λk=>Qo r id b0 k))(hn:∀ k,Qo r' nid b k->Qo r id b0 k∨w.heap.size<=k):
  Qv lk r nid [(id,.gone),(nid,b)] w r' w':=by
 have hne:id≠nid:=jQ hid;refine⟨hr,?_,⟨hf.os,hf.tape,hf.output,hf.size,hf.drawn,λk hk hc=>hf.block k hk ?_⟩,?_,?_,?_⟩
 .intro p hp;simp only[List.mem_cons,List.not_mem_nil,or_false]at hp;rcases hp with rfl|rfl
  .trivial
  .exact hb
 .exact λhk=>hc ⟨(id,.gone),by simp,hid,b0,hlk,hk⟩
 .intro p hp hin hl k hk;simp only[List.mem_cons,List.not_mem_nil,or_false]at hp;rcases hp with rfl|rfl
  .rw[hid]at hin;cases hin
  .rcases hn k hk with h|h
   .refine .inr (.inl ⟨(id,.gone),by simp,hid,?_,b0,hlk,h⟩)
    intro z hz he;simp only[List.mem_cons,List.not_mem_nil,or_false]at hz;rcases hz with rfl|rfl
    .rfl
    .exact absurd he.symm hne
   .exact .inl h
 .intro p hp hin hl;simp only[List.mem_cons,List.not_mem_nil,or_false]at hp;rcases hp with rfl|rfl
  .cases hl
  .rw[Zu]at hin;cases hin
 .intro p hp q hq hin hin' hpq;simp only[List.mem_cons,List.not_mem_nil,or_false]at hp hq;rcases hp with rfl|rfl
  .rw[hid]at hin;cases hin
  .rcases hq with rfl|rfl
   .rw[hid]at hin';cases hin'
   .exact absurd rfl hpq
theorem QRU{id e n:Nat}{cp:Cap}(h:QGm r w sz (.slice c id e n cp) rows):
  (Builtin.firstCells sz n ((AV.slice c id e n cp).den r)).run P w.drew = .ok (AV.denL r rows.flatten).toArray w.drew:=by
 have hn:rows.length=n:=h.len;have hl:(AV.denL r rows.flatten).length=n*sz:=by rw[Kf,Y0 sz rows h.each,hn]
 exact run_firstCells_some w.drew sz n _ n _ _ hl (λj u hu=>by rw[Ve];exact h.there _ _ _ _ _ rfl j u hu)
theorem QcV{ts:List TypeId}{s:AV}{sb xb:Option Blk}(h:QK7 P ts s x sb xb nid=some eff)(hp:eff.pre=true)(hs:∀ c id e n cp b,s = .slice c id e n cp->sb=some b->QN r id w b/\inR nid id=false/\lk id=some b)(hx:∀ c id e n cp b,x = .slice c id e n cp->xb=some b->QN r id w b)(hsa:∀ b,sb=some b->b.all (λi=>!inR nid i)=true)(hxa:∀ b,xb=some b->b.all (λi=>!inR nid i)=true)(ty:TypeId):
  ∃ w' r',(Builtin.append_ ts.toArray ty #[s.den r,x.den r]).run P w = .ok (eff.val.den r') w'/\Qv lk r nid eff.upd w r' w':=by
 unfold QK7 at h;split at h<;>(try (cases h;done))
 rename_i t tx;split at h<;>(try (cases h;done))
 rename_i e e' ht htx;split at h<;>(try (cases h;done))
 rename_i i hi;split at h<;>(try (cases h;done))
 rename_i z hz;split at h<;>(try (cases h;done))
 rename_i hzs;have hzs:z.cells.size=i.size:=by simpa using hzs
 split at h<;>(try (cases h;done))
 rename_i news hnews;split at h<;>(try (cases h;done))
 rename_i hat;obtain⟨hR,hxk⟩:=QGy (r:=r) (w:=w) hnews hx;have hsrc:=QNV (P:=P) hR hxk htx hat;have hnall:=QOJ hnews hxa;split at h<;>(try (cases h;done))
 .
  split at h<;>(try (cases h;done))
  .simp only[qsI]at h;subst h;refine⟨w,r,?_,Qv.id lk r nid w⟩;have hcl:=hsrc.cells;have hln:=hsrc.len w;simp only[List.length_nil]at hcl hln;rcases hsrc.kind with ⟨e2,hk⟩|hk
   .simp[Builtin.append_,run_underlying ht,run_underlying hk,sizeOf,typeInfo,hi,hln,hcl,AV.den]
   .rw[htx]at hk;cases hk
  .rename_i y ys _;simp only[QDN,qsI]at h;subst h;simp only[qdE]at hp
   obtain⟨w',r',h1,h2,_⟩:=QGH (P:=P) (lk:=lk) (r:=r) (nid:=nid) (w:=w) (t:=t) (tx:=tx) (ty:=ty) ht hi hz hzs (base:=none) (sLen:=0) (sCap:=0) (olds:=[]) (news:=y::ys) (by simp) hR.each rfl
    (run_firstCells_none w.drew i.size 0 0 0) hsrc (by simpa using hnall) (by simp) (by simpa using hp)
   refine⟨w',r',?_,by simpa using h2⟩
   have e1:(0:Nat)+(y::ys).length=(y::ys).length:=Nat.zero_add _;rw[e1]at h1;exact h1
 .
  rename_i c id len ty' sz l;obtain⟨hb,hid,hlk⟩:=hs c id 0 len (.of 0) _ rfl rfl;split at h<;>(try (cases h;done))
  rename_i hc;simp only[qbA,beq_iff_eq]at hc;obtain⟨rfl,rfl⟩:=hc;have hb2:=hb;obtain⟨ho,hesz,hlen,hcap,rest,hrest,hbk⟩:=hb2;have haddr:(AV.slice c id 0 len (.of 0)).den r = .slice (some ⟨(r id).blk,0,none⟩) len (r id).cap:=by simp[AV.den,Cap.den,ho]
  split at h
  .rename_i hk hd;simp only[qsI]at h;subst h;simp only[qbA,qdE,bne_iff_ne]at hd;have hroom:len+news.length<=(r id).cap:=by have:=hd.1;omega
   obtain⟨h1,h2⟩:=QDP hb hR.each (len:=len) (by have:=hd.1;omega) hroom
   have hrun:=run_append_room_src (P:=P) w t tx ty ty' i ht hi (r id).blk 0 len (r id).cap (x.den r) _ _ hsrc hroom (λj hj=>by rw[Nat.zero_add];exact(h2 j hj).1) (λj hj=>by rw[Nat.zero_add];exact(h2 j hj).2)
   rw[Nat.zero_add]at hrun;refine⟨w.setCells (r id).blk (len*i.size) (AV.denL r news.flatten),r,by rw[haddr,hrun];simp[AV.den,Cap.den,ho],?_⟩
   exact Qv.same1 hid hlk rfl (λ_ h=>h) h1 (QFd _ _ _ _)
  .simp only[qsI]at h;subst h;simp only[qdE]at hp;obtain⟨rfl,hfit⟩:=hp
   by_cases hroom:l.length+news.length<=(r id).cap
   .obtain⟨h1,h2⟩:=QDP hb hR.each (len:=l.length) (qlr _) hroom;have hrun:=run_append_room_src (P:=P) w t tx ty ty' i ht hi (r id).blk 0 l.length (r id).cap (x.den r) _ _ hsrc hroom (λj hj=>by rw[Nat.zero_add];exact(h2 j hj).1) (λj hj=>by rw[Nat.zero_add];exact(h2 j hj).2)
    rw[Nat.zero_add]at hrun;refine⟨w.setCells (r id).blk (l.length*i.size) (AV.denL r news.flatten),Qw r nid (r id),by rw[haddr,hrun];simp[AV.den,Cap.den,ho,Qw],?_⟩
    rw[List.take_length,List.drop_of_length_le (by omega),List.append_nil]at h1
    refine Qv.moved hid (λj hj=>by unfold Qw;rw[if_neg (jQ hj)]) hlk ?_ (QFd _ _ _ _) (λk hk=>.inl (by have hk:k=(Qw r nid (r id) nid).blk:=hk;show k=(r id).blk;simpa[Qw]using hk))
    have hall:(Blk.rowl ty' i.size (l++news)).all (λj=>!inR nid j)=true:=by
     have:=hsa _ rfl;simp only[Blk.all,List.all_append,qbA]at this ⊢;exact⟨this,hnall⟩
    obtain⟨b1,b2,b3,b4,rest',b5,b6⟩:=h1;refine⟨by simp[Qw,b1],by simp[Qw,b2],b3,by simp[Qw];simpa using b4,rest',by simp[Qw];simpa using b5,?_⟩
    rw[<-denL_congr (QEz (l:=r id)) _ (YG hall)];simp only[Qw,if_true];exact b6
   .have hold := QRU (P := P) (sz := i.size) (c := c) (id := id) (e := 0) (n := l.length) (cp := .of 0) (rows := l) (r := r) (w := w) ⟨rfl,hlen,λc' id' e' len' cp' hx' j u hu=>by
        simp only[AV.slice.injEq]at hx';obtain⟨_,rfl,rfl,_,_⟩ := hx';rw[ho,Nat.zero_mul,Nat.zero_add,Yg hbk];rw[List.getElem?_append_left (List.getElem?_eq_some_iff.1 hu).1]; exact hu⟩
    rw[haddr]at hold
    obtain⟨w',r',h1,h2,h3,_⟩ := QGH (P := P) (lk := lk) (r := r) (nid := nid) (w := w) (t := t) (tx := tx) (ty := ty) ht hi hz hzs (sCap := (r id).cap) (olds := l) (news := news) hlen hR.each rfl hold hsrc
      (by
        have := hsa _ rfl;simp only[Blk.all]at this;rw[List.all_append,this,hnall]; rfl) (by omega) hfit
    refine⟨w',r',by rw[haddr]; exact h1,?_⟩
    refine Qv.moved hid h2.same hlk (h2.rep (nid,.rowl ty' i.size (l ++ news)) (by simp)) ⟨h2.fr.os,h2.fr.tape,h2.fr.output,h2.fr.size,h2.fr.drawn,λk hk _=>h2.fr.block k hk ?_⟩ (λk hk=>.inr (by have hk : k = (r' nid).blk := hk; omega))
    rintro⟨p,hpm,hin,_⟩;simp only[List.mem_singleton]at hpm; subst hpm;rw[Zu]at hin; cases hin
 .
  rename_i id e0 len cp b;obtain⟨hb,hid,hlk⟩:=hs true id e0 len (.lit cp) _ rfl rfl;split at h<;>(try (cases h;done))
  .rename_i hroom;have hroom:¬ len+news.length<=cp:=by simpa using hroom
   split at h<;>(try (cases h;done))
   rename_i olds holds;simp only[QDN,qsI]at h;subst h;simp only[qdE]at hp;obtain⟨hRo,_⟩:=QGy (r:=r) (w:=w) holds (λc' id' e' n' cp' b' he hbb=>(hs c' id' e' n' cp' b' he hbb).1);have hol:olds.length=len:=hRo.len
   have hall:(olds++news).all (AV.allL λi=>!inR nid i)=true:=by
    rw[List.all_append,QOJ holds hsa,hnall];rfl
   obtain⟨w',r',h1,h2,_⟩:=QGH (P:=P) (lk:=lk) (r:=r) (nid:=nid) (w:=w) (t:=t) (tx:=tx) (ty:=ty) ht hi hz hzs (sCap:=cp) (olds:=olds) (news:=news) hRo.each hR.each hol (QRU hRo) hsrc hall (by omega) (by rw[List.length_append,hol]at hp;exact hp)
   refine⟨w',r',?_,h2⟩;rw[List.length_append,hol];exact h1
  .rename_i hroom;have hroom:len+news.length<=cp:=by simpa using hroom
   split at h<;>(try (cases h;done))
   rename_i ty' sz l;split at h<;>(try (cases h;done))
   rename_i hc;simp only[qbA,beq_iff_eq,qdE]at hc;obtain⟨⟨rfl,rfl⟩,hfit⟩:=hc;simp only[qsI]at h;subst h;have hb2:=hb;obtain⟨ho,hesz,hlen,hcap,rest,hrest,hbk⟩:=hb2;obtain⟨h1,h2⟩:=QDP hb hR.each (len:=e0+len) (by omega) (by omega)
   rw[Nat.add_mul]at h1 h2;have hrun:=run_append_room_src (P:=P) w t tx ty ty' i ht hi (r id).blk (e0*i.size) len cp (x.den r) _ _ hsrc hroom (λj hj=>(h2 j hj).1) (λj hj=>(h2 j hj).2);refine⟨_,r,by simp only[AV.den,Cap.den];rw[ho,hesz,Nat.zero_add,hrun],?_⟩
   exact Qv.same1 hid hlk rfl (λ_ h=>h) h1 (QFd _ _ _ _)
