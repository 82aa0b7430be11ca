/- - -/
import Derived.Test.YtekbmehgcofnkaaGreatVj
namespace Go.SX
open Go Go.RowKit Go.Proofs.YtekbmehgcofnkaaGreat
variable {P:Program}{a:Act}{w:World}{l:Nat}{rec:Loop}{c assign body:Code}{Q:Exit->Act->World->Prop}{R:Ending->World->Prop}
theorem QXW{o:Oper}{f:Operand}{args:Array Operand}{ts:Array TypeId}(ho:o.op = .call ⟨.value f,args,ts⟩)(hf:a.eval f = .func (.yield l) #[] #[])(hb:bk w l=some (.loop rec))(hs:args.size=rec.params.size):
  (execOp a.eval o).run P w = .ok (.round l rec.fn ((rec.params.zip (args.map a.eval)).foldl (λtmps (t,v)=>tmps.setIfInBounds t v) rec.tmps) rec.assign rec.body) w:=by
 unfold execOp;simp only[ho];have hy:=run_yield (P:=P) (args:=args.map a.eval) hb (by simpa using hs)
 simp only[resolve,hf,Deferred.ofValue,Sem.run_bind,Sem.run_pure,Result.andThen_ok,invoke];simpa using hy
theorem H2{b:Frame}{k:List Item}{cs:List Frame}:step P (lone (b.atR a (.code (.scope c)::k)) cs w) = .next (lone (b.atR a (.code c :: .inScope c::k)) cs w):=
 step_lone_go (by simp[stepG,stepG.exec,Frame.atR])
theorem QjU{b:Frame}{k:List Item}{cs:List Frame}:step P (lone (b.atR a (.inScope c::k)) cs w) = .next (lone (b.atR a k) cs w):=
 step_lone_go (by simp[stepG,stepG.exec,Frame.atR])
theorem Qgi{F:Fence}{n:Nat}(h:c.wpIn F n P (Exit.noGoto Q) a w):(Code.scope c).wpIn F n P Q a w:=by
 intro b k cs hro hb hr;have h0:(lone (b.atR a (.code (.scope c)::k)) cs w).fenced P F:=fenced_calm hb hr rfl;obtain⟨e,a₁,w₁,hq,harr⟩:=h b (.inScope c::k) cs hro hb hr;cases e with
 | normal=>exact⟨.normal,a₁,w₁,hq,.head h0 H2 (StepsIn.trans harr (.one (fenced_calm hb hr rfl) QjU))⟩
 | exit id=>
  have hx:exitTo id (.inScope c::k)=exitTo id k:=by simp[exitTo]
  exact⟨.exit id,a₁,w₁,hq,λk' hk=>.head h0 H2 (harr.1 k' (by rw[hx];exact hk)),
   λhr' hk=>let ⟨k₁,h1,h2⟩:=harr.2 hr' (by rw[hx];exact hk);⟨k₁,h1,.head h0 H2 h2⟩⟩
 | goto l=>exact hq.elim
 | ret=>exact⟨_,a₁,w₁,hq,.of_steps (.one h0 H2) harr⟩
 | panic ch=>exact⟨_,a₁,w₁,hq,.of_steps (.one h0 H2) harr⟩
 | outgrown=>exact⟨_,a₁,w₁,hq,.of_steps (.one h0 H2) harr⟩
theorem QaD{o:Oper}{f:Operand}{args:Array Operand}{ts:Array TypeId}{rd:Option Nat}(ho:o.op = .call ⟨.value f,args,ts⟩)(hf:a.eval f = .func (.yield l) #[] #[])(hb:bk w l=some (.loop rec))(hs:args.size=rec.params.size){K:Act->World->Prop}{R:Value->World->Prop}(h:RoundIn Fence.wide 0 P l rec.fn ((rec.params.zip (args.map a.eval)).foldl (λtmps (t,v)=>tmps.setIfInBounds t v) rec.tmps) rec.assign rec.body w λe w'=>∃ v,e = .returned v/\R v w')(k:∀ v w',R v w'->K (a.put o.dst v) w'):o.wpIn (FW rd) 0 P a w K Q:=by
 refine⟨λ_ _=>trivial,?_⟩;rw[Oper.semAt_eq _ _ _ (by rw[ho];intro c hc;cases hc),QXW ho hf hb hs]
 refine⟨λh=>(by cases h),RoundIn.mono (F:=Fence.wide) h ?_⟩
 rintro e w' ⟨v,rfl,hR⟩;exact k v w' hR
theorem QXV{f:Nat}{tmps:Array Value}(h:assign.wpIn (FW (some l)) 0 P (Exit.then (λa1 w1=>∃ rec1,bk w1 l=some (.loop rec1)/\rec1.state = .ready/\body.wpIn (FW (some l)) 0 P (roundPost P l R) a1 (w1.putObj l (.loop { rec1 with state := .busy }))) (λ_ _ _=>False)) { tmps:=tmps,defers:=[] } w):
  RoundIn Fence.wide 0 P l f tmps assign body w R:=by
 refine roundIn_of_wpIn (F:=Fence.wide) trivial (wpIn_mono (F:=FW (some l)) h ?_);intro e a1 w1 hq;cases e with
 | normal=>
  obtain⟨rec1,h1,h2,h3⟩:=hq;exact⟨_,run_beginRound h1 h2,h3⟩
 | _=>exact hq
theorem QZ0(h:bk w l=some (.loop rec))(hR:R (.returned (.bool true)) (w.putObj l (.loop { rec with state := .ready,pending:=none }))):roundPost P l R .normal a w:=
 ⟨_,_,run_endRound none h,hR⟩
theorem QYy(h:bk w l=some (.loop rec))(hR:R (.returned (.bool false)) (w.putObj l (.loop { rec with state := .done,pending:=some .ret }))):roundPost P l R .ret a w:=
 ⟨_,_,run_endRound (some .ret) h,hR⟩
theorem Qkp{l id:Nat}(h:bk w l=some (.loop rec))(hR:R (.returned (.bool false)) (w.putObj l (.loop { rec with state := .done,pending:=some (.exit id) }))):roundPost P l R (.exit id) a w:=
 ⟨_,_,run_endRound (some (.exit id)) h,hR⟩
theorem QZe{g:Operand}{ps:Array Tmp}{gf:Nat}{lb:Array Value}(hg:a.eval g = .func (.func gf) #[] lb)(hgo:J8 P gf=true)(h:∀ fn,Calls P gf (#[.func (.yield (w.heap.size+1)) #[] #[]]++lb) ((w.alloc (.deferred (some []))).alloc (.loop { state := .ready,pending:=none,fn,tmps:=a.tmps,params:=ps,assign,body,defers:=w.heap.size }))
   λe w3=>∃ v rec3,e = .returned v/\bk w3 (w.heap.size+1)=some (.loop rec3)/\rec3.state ≠ .busy /\
    (match rec3.pending with
     | none => Q .normal { a with defers := QAJ w.heap.size :: a.defers } (w3.putObj (w.heap.size + 1) (.loop { rec3 with state := .exhausted }))
     | some c => c.wpIn (FW none) 0 P Q { a with defers := QAJ w.heap.size :: a.defers } (w3.putObj (w.heap.size + 1) (.loop { rec3 with state := .exhausted })))):
  (Code.rangeFunc g ps assign body).wpIn (FW none) 0 P Q a w:=by
 refine wpIn_rangeFunc ?_;intro fn _;obtain⟨W1,hW1⟩:∃ W1,(w.alloc (.deferred (some []))).alloc (.loop { state := .ready,pending:=none,fn,tmps:=a.tmps,params:=ps,assign,body,defers:=w.heap.size })=W1:=⟨_,rfl⟩;have hc:=h fn;rw[hW1]at hc
 refine⟨w.heap.size+1,[{ target := .collected w.heap.size,args := #[] }],W1,{ target := .fn (.func gf) lb,args := #[.func (.yield (w.heap.size+1)) #[] #[]] },W1,gf,
  #[.func (.yield (w.heap.size+1)) #[] #[]]++lb,W1,?_,?_,?_,?_,λhn=>(by cases hn),?_⟩
 .rw[<-hW1];exact run_enterLoop_outer _ _ _ _ _
 .simp only[resolve,hg];simp[go_sem]
 .intro f' _;trivial
 .simp only[invoke];simpa using Wd hgo _ W1
 .refine callsIn_wide.2 (hc.mono ?_);rintro e w3 ⟨v,rec3,rfl,h1,h2,h3⟩;exact⟨_,_,run_endLoop h1 h2,h3⟩
theorem QhR{g:Operand}{ps:Array Tmp}{gf l0:Nat}{lb:Array Value}{rec0:Loop}(h0:bk w l0=some (.loop rec0))(hg:a.eval g = .func (.func gf) #[] lb)(hgo:J8 P gf=true)(h:∀ fn,Calls P gf (#[.func (.yield w.heap.size) #[] #[]]++lb) (w.alloc (.loop { state := .ready,pending:=none,fn,tmps:=a.tmps,params:=ps,assign,body,defers:=rec0.defers }))
   λe w3=>∃ v rec3,e = .returned v/\bk w3 w.heap.size=some (.loop rec3)/\rec3.state ≠ .busy /\
    (match rec3.pending with
     | none => Q .normal a (w3.putObj w.heap.size (.loop { rec3 with state := .exhausted }))
     | some c => c.wpIn (FW (some l0)) 0 P Q a (w3.putObj w.heap.size (.loop { rec3 with state := .exhausted })))):
  (Code.rangeFunc g ps assign body).wpIn (FW (some l0)) 0 P Q a w:=by
 refine wpIn_rangeFunc ?_;intro fn _;obtain⟨W1,hW1⟩:∃ W1,w.alloc (.loop { state := .ready,pending:=none,fn,tmps:=a.tmps,params:=ps,assign,body,defers:=rec0.defers })=W1:=⟨_,rfl⟩;have hc:=h fn;rw[hW1]at hc
 have hen:(Instr.enterLoop fn a.tmps ps assign body (some l0)).run P w = .ok (w.heap.size,[]) W1:=by
  rw[<-hW1];unfold Instr.enterLoop;simp only[Sem.run_bind,run_getLoop h0,run_newObj_alloc,Result.andThen_ok,Sem.run_pure]
 refine⟨w.heap.size,[],W1,{ target := .fn (.func gf) lb,args := #[.func (.yield w.heap.size) #[] #[]] },W1,gf,
  #[.func (.yield w.heap.size) #[] #[]]++lb,W1,hen,?_,?_,?_,λhn=>(by cases hn),?_⟩
 .simp only[resolve,hg];simp[go_sem]
 .intro f' _;trivial
 .simp only[invoke];simpa using Wd hgo _ W1
 .refine callsIn_wide.2 (hc.mono ?_);rintro e w3 ⟨v,rec3,rfl,h1,h2,h3⟩;refine⟨_,_,run_endLoop h1 h2,?_⟩;simp only[List.nil_append];exact h3
