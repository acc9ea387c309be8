/- A piece of a function's code: the coefficient that an iterator reckons before it hands it over. The law of such a piece. A range over a function: a round, and the whole, with nothing said of the iterator.
-/
import Derived.Test.YtdmcadckdnnglaaGreatDoorSa
import Derived.Test.YtdmcadckdnnglaaGreatDoorSe
import Derived.RangeFuncNested
set_option linter.unusedVariables false
set_option linter.unusedSimpArgs false
namespace Go.Sy
def Na:Code→Code
 | .seq _ (.seq _ (.seq _ (.block _ (.loop (.seq (.block _ (.seq _ (.seq x _))) _)))))=>x
 | _=>.skip
def stX (T:Nat):St:=
 ⟨[(0, .w (.one (.c (.u 5 0)))),(1, .w (.one (.ref 0 [.u 0 0, .u 0 1, .u 0 2, .u 0 3, .u 0 4]))),(2, .w (.one (.ref 0 [.u 1 0]))),(4, .w (.one (.r 1))),(5, .w (.one (.c (.u 3 0)))),(6, .w (.one (.c (.u 4 0)))),(7, .w (.one (.p 0 0)))],
   [(0, .var T [.c (.k (.slice none 0 0)), .c (.k (.bool false)), .c (.k (.slice none 0 0))]),(1, .part T 3 2)],[]⟩
def ax5 (T:Nat):Ex→Nat→Nat→St→CI→Tr
 | .normal,_,_,s,_=>
   match s.t 0,s.t 1,s.t 2,s.t 4,s.t 5,s.t 6,s.t 7,s.s 0,s.b 0,s.s 1,s.b 1 with
   | .w (.one (.c (.u 5 0))), .w (.one (.ref 0 [.u 0 0, .u 0 1, .u 0 2, .u 0 3, .u 0 4])), .w (.one (.ref 0 [.u 1 0])), .w (.one (.r 1)), .w (.one (.c (.u 3 0))), .w (.one (.c (.u 4 0))), .w (.one (.p 0 0)),false,some (.var T' [.c a, .c b, .c c]),false,some (.part T2 3 2)=>
     if T'=T∧T2=T then .ret [.agg [.c a, .c b, .c c]] else .fail 3000
   | _,_,_,_,_,_,_,_,_,_,_=>.fail 3001
 | _,_,_,_,_=>.fail 3003
def Tm (P:Program) (fn:Func) (T:Nat):Tr:=
 match fn.body with
 | some c=>exec P fn.ntmps (fun _=>none) (Na c) 0 0 2 6 (stX T) [] (ax5 T)
 | none=>.fail 3004
open Go.RowKit (Below)
section
variable {P:Program}
theorem RU {fn:Func} {c:Code} {T N:Nat} (hm:P.follows .mixedOrders=true) (hb:fn.body=some c) (hN:fn.ntmps=N) {s0 s1 s2 s3 s4 y0 m0 n0 f0:aH} {as:List (List aH)} {cs:List aH}
  (h:vc P (fun o=>o = .ret [.agg cs]) (Tm P fn T) [.agg [s0,s1,s2,s3,s4], .agg [y0], .rows as, .one m0, .one n0, .one f0] [])
  {M:Nat→Prop} {W:World} {a:Act} {Q:Exit→Act→World→Prop} {va:Value} {base:Nat} {xs:List Value} (hM:dL (fun b=>M b∨va.ownBlock=some b) W) (hMa:∀ b,M b→va.ownBlock≠some b) (hsz:a.tmps.size=N) (hdf:a.defers = [])
  (hown:W.ownsRow base T 3 va as.length xs) (hlen:∀ t∈as,t.length=3) (hrow:aZ (fun b=>M b∨va.ownBlock=some b) W as.flatten xs)
  (h0:f0.rep (fun b=>M b∨va.ownBlock=some b) W (a.tmps.getD 0 Go.undef)) (h1:(aH.bE [s0,s1,s2,s3,s4]).rep (fun b=>M b∨va.ownBlock=some b) W (a.tmps.getD 1 Go.undef)) (h2:(aH.bE [y0]).rep (fun b=>M b∨va.ownBlock=some b) W (a.tmps.getD 2 Go.undef))
  (h4:a.tmps.getD 4 Go.undef=va) (h5:m0.rep (fun b=>M b∨va.ownBlock=some b) W (a.tmps.getD 5 Go.undef)) (h6:n0.rep (fun b=>M b∨va.ownBlock=some b) W (a.tmps.getD 6 Go.undef)) (h7:a.tmps.getD 7 Go.undef = .pointer (some ⟨W.heap.size,0,none⟩))
  (hQ:∀ a' w' u0 u1 u2 xs',W.heap.size≤w'.heap.size→w'.os=W.os→w'.tape=W.tape→w'.output=W.output→(∀ k,k<W.heap.size→va.ownBlock≠some k→w'.heap[k]? = W.heap[k]?)→a'.tmps.size=N→a'.defers = [] →
   f0.rep (fun b=>M b∨va.ownBlock=some b) w' (a'.tmps.getD 0 Go.undef)→(aH.bE [s0,s1,s2,s3,s4]).rep (fun b=>M b∨va.ownBlock=some b) w' (a'.tmps.getD 1 Go.undef)→(aH.bE [y0]).rep (fun b=>M b∨va.ownBlock=some b) w' (a'.tmps.getD 2 Go.undef) →
   a'.tmps.getD 4 Go.undef=va→m0.rep (fun b=>M b∨va.ownBlock=some b) w' (a'.tmps.getD 5 Go.undef)→n0.rep (fun b=>M b∨va.ownBlock=some b) w' (a'.tmps.getD 6 Go.undef) →
   (∃ k,W.heap.size≤k∧a'.tmps.getD 7 Go.undef = .pointer (some ⟨k,0,none⟩)∧w'.heap[k]? = some (.cells #[u0,u1,u2] T (0,0)))→aZ (fun b=>M b∨va.ownBlock=some b) w' cs [u0,u1,u2] →
   w'.ownsRow base T 3 va as.length xs'→aZ (fun b=>M b∨va.ownBlock=some b) w' as.flatten xs'→Q .normal a' w') :
  (Na c).wp P Q a (W.alloc (.cells #[.slice none 0 0, .bool false, .slice none 0 0] T)):=by
 unfold Tm at h;rw [hb,hN] at h
 obtain ⟨cur0,hcur0⟩:∃ cur0:Array Value,∀ g,va.ownBlock=some g→W.heap[g]? = some (.cells cur0 T (0,0)):=by
  rcases hown.2 with ⟨rfl,_⟩ | ⟨g,cap,cur,rfl,_,hg,_⟩
  ·exact ⟨#[],fun g hg=>by simp [Value.ownBlock] at hg⟩
  ·refine ⟨cur,fun g' hg'=>?_⟩;simp only [Value.ownBlock,Option.some.injEq] at hg';rw [←hg'];exact hg
 have hva1:va.oneCell'=true:=by
  rcases hown.2 with ⟨rfl,_⟩ | ⟨g,cap,cur,rfl,_⟩<;>rfl
 obtain ⟨gh,hgh⟩:∃ gh:Gh,gh=⟨0,va,cur0⟩:=⟨_,rfl⟩
 obtain ⟨M0,hM0⟩:∃ M0:dK,M0=⟨M,gh⟩:=⟨_,rfl⟩
 obtain ⟨ρ0,hρ0⟩:∃ ρ0:Nat→Gh,ρ0=fun b=>if b=0 then ⟨W.heap.size,Go.undef,#[]⟩ else gh:=⟨_,rfl⟩
 have hO:∀ k,M0.O k↔va.ownBlock=some k:=fun k=>by rw [hM0,dK.O,hgh]
 have hbox:∀ b x,(stX T).b b=some x→(b=0∧x = .var T [.c (.k (.slice none 0 0)), .c (.k (.bool false)), .c (.k (.slice none 0 0))])∨(b=1∧x = .part T 3 2):=by
  intro b x hb1;simp only [stX,St.b,look] at hb1;split at hb1
  ·rename_i e;simp only [Option.some.injEq] at hb1;exact .inl ⟨e.symm,hb1.symm⟩
  ·split at hb1
   ·rename_i e;simp only [Option.some.injEq] at hb1;exact .inr ⟨e.symm,hb1.symm⟩
   ·cases hb1
 have hown0:own ρ0 0 (.var T [.c (.k (.slice none 0 0)), .c (.k (.bool false)), .c (.k (.slice none 0 0))])=some W.heap.size:=by rw [hρ0];rfl
 have hown1:own ρ0 1 (.part T 3 2)=va.ownBlock:=by rw [hρ0,hgh];rfl
 have hglt:∀ g,va.ownBlock=some g→g<W.heap.size:=fun g hg=>(Array.getElem?_eq_some_iff.1 (hcur0 g hg)).1
 have hMs:∀ k,Ms M0 ρ0 (stX T) k↔(M k∨va.ownBlock=some k)∨k=W.heap.size:=by
  intro k
  constructor
  ·rintro (hk | ⟨b,x,hb1,_,ho⟩)
   ·rw [hM0] at hk;exact .inl (.inl hk)
   ·rcases hbox b x hb1 with ⟨rfl,rfl⟩ | ⟨rfl,rfl⟩
    ·rw [hown0] at ho;exact .inr (Option.some.inj ho).symm
    ·rw [hown1] at ho;exact .inl (.inr ho)
  ·rintro ((hk | hk) | hk)
   ·exact .inl (by rw [hM0];exact hk)
   ·exact .inr ⟨1,_,rfl,rfl,by rw [hown1];exact hk⟩
   ·exact .inr ⟨0,_,rfl,rfl,by rw [hown0,hk]⟩
 have hkeep:bZ (fun b=>M b∨va.ownBlock=some b) W (Ms M0 ρ0 (stX T)) (W.alloc (.cells #[.slice none 0 0, .bool false, .slice none 0 0] T)):=by
  intro b o hbm ho _;have hlt:=(Array.getElem?_eq_some_iff.1 ho).1;refine ⟨fun hk=>?_,(heap_alloc_old _ _ _ hlt).trans ho⟩;rcases (hMs b).1 hk with hk | hk
  ·exact hbm hk
  ·omega
 have halloc:∀ g,va.ownBlock=some g→(W.alloc (.cells #[.slice none 0 0, .bool false, .slice none 0 0] T)).heap[g]? = some (.cells cur0 T (0,0)):=fun g hg=>(heap_alloc_old _ _ _ (hglt g hg)).trans (hcur0 g hg);refine kA (M0:=M0) (w0:=W) hm (Na c) 0 0 2 6 (stX T) [] (ax5 T) _ [] h rfl (by intro x hx;cases hx) (Nat.le_refl _) ρ0 a _ Q ?_ ?_ uD.noE ?_
 ·refine ⟨Kept.alloc ⟨rfl,rfl,rfl,Nat.le_refl _,fun _ _ _=>rfl,fun x hx=>⟨fun hk=>(hM.2 x hx).1 (.inl (by rw [hM0] at hk;exact hk)),fun ho=>(hM.2 x hx).1 (.inr ((hO _).1 ho)),(hM.2 x hx).2⟩⟩ _,hsz,hdf,fun t=>?_,fun b x hx=>?_,?_,?_,?_,?_⟩
  ·match t with
   | 0=>exact aH.mono _ hkeep h0
   | 1=>exact aH.mono _ hkeep h1
   | 2=>exact aH.mono _ hkeep h2
   | 3=>exact trivial
   | 4=>exact ⟨rfl,by rw [h4,hρ0,hgh];rfl,by rw [h4];exact hva1⟩
   | 5=>exact aH.mono _ hkeep h5
   | 6=>exact aH.mono _ hkeep h6
   | 7=>exact ⟨rfl,by rw [h7,hρ0];rfl⟩
   | t+8=>exact trivial
  ·rcases hbox b x hx with ⟨rfl,rfl⟩ | ⟨rfl,rfl⟩
   ·exact ⟨[.slice none 0 0, .bool false, .slice none 0 0],by rw [hρ0];exact heap_alloc_new W _,⟨rfl,rfl⟩,⟨rfl,rfl⟩,⟨rfl,rfl⟩,trivial⟩
   ·have hv:(ρ0 1).val=va:=by rw [hρ0,hgh];rfl
    refine ⟨as,xs,rfl,?_,hlen,hrow.mono hkeep,by rw [hv];exact hva1,?_⟩
    ·rw [hv];refine rW.Pj (base:=base) ⟨hown.1,?_⟩;rcases hown.2 with h | ⟨g,cap,cur,e,hbg,hg,rest⟩
     ·exact .inl h
     ·exact .inr ⟨g,cap,cur,e,hbg,(heap_alloc_old _ _ _ (Array.getElem?_eq_some_iff.1 hg).1).trans hg,rest⟩
    ·intro g off len cap hval cur hg;have hvg:va.ownBlock=some g:=by rw [←hv,hval];rfl
     have:=halloc g hvg;rw [hg] at this;simp only [Option.some.injEq,Obj.cells.injEq,and_true] at this;have hcc:(ρ0 1).cur=cur0:=by rw [hρ0,hgh];rfl
     rw [hcc,this];exact ⟨rfl,fun _ _=>rfl⟩
  ·intro b b' x x' k hb1 hb2 ho1 ho2;rcases hbox b x hb1 with ⟨rfl,rfl⟩ | ⟨rfl,rfl⟩<;>rcases hbox b' x' hb2 with ⟨rfl,rfl⟩ | ⟨rfl,rfl⟩
   ·rfl
   ·rw [hown0] at ho1;rw [hown1] at ho2;have:=hglt k ho2;have:=Option.some.inj ho1;omega
   ·rw [hown1] at ho1;rw [hown0] at ho2;have:=hglt k ho1;have:=Option.some.inj ho2;omega
   ·rfl
  ·intro b x k hb1 ho;rcases hbox b x hb1 with ⟨rfl,rfl⟩ | ⟨rfl,rfl⟩
   ·rw [hown0] at ho;have:=Option.some.inj ho;subst this;exact ⟨.inl (Nat.le_refl _),by simp⟩
   ·rw [hown1] at ho;have:=hglt k ho;exact ⟨.inr ((hO k).2 ho),by simp;omega⟩
  ·intro k hk ho;rw [hM0] at hk;have hk:M k:=hk;rcases ho with ho | ho
   ·exact Nat.not_lt.2 ho (hM.1 k (.inl hk))
   ·exact hMa k hk ((hO k).1 ho)
  ·intro b E sz cid hb1;rcases hbox b _ hb1 with ⟨_,e⟩ | ⟨rfl,e⟩
   ·cases e
   ·rw [hρ0,hM0];rfl
 ·intro cc v a w hp;cases hp
 ·intro ex nb s dec m bk' ρ a' w' _ _ hv _ hs;cases ex with
  | exit id=>exact hv.elim
  | ret=>exact hv.elim
  | normal=>
    simp only [ax5] at hv;split at hv
    ·rename_i e0 e1 e2 e4 e5 e6 e7 es eb es1 eb1;split at hv
     ·rename_i eT;obtain ⟨eT1,eT2⟩:=eT;subst eT1;subst eT2;have hρ1:ρ 1=gh:=by have:=hs.pt 1 _ _ _ eb1;rw [this,hM0]
      have hdn:bZ (Ms M0 ρ s) w' (fun b=>M b∨va.ownBlock=some b) w':=fun b o hbm ho _=>⟨fun hk=>hbm (by
       rcases hk with hk | hk
       ·exact .inl (by rw [hM0];exact hk)
       ·exact .inr ⟨1,_,eb1,es1,by simp only [own,hρ1,hgh];exact hk⟩),ho⟩
      have t0:=hs.tm 0;have t1:=hs.tm 1;have t2:=hs.tm 2;have t4:=hs.tm 4;have t5:=hs.tm 5;have t6:=hs.tm 6;have t7:=hs.tm 7;rw [e0] at t0;rw [e1] at t1;rw [e2] at t2;rw [e4] at t4;rw [e5] at t5;rw [e6] at t6;rw [e7] at t7;obtain ⟨vs,hh,hall⟩:=hs.bx 0 _ eb;obtain ⟨ts,xs',hts,hpart,_,hrep,_,hfr⟩:=hs.bx 1 _ eb1
      have hts':ts=as:=by
       rw [List.getElem?_append_left (by simp)] at hts
       simpa using hts.symm
      subst hts';rw [hρ1] at hpart hfr;have hval:gh.val=va:=by rw [hgh]
      rw [hval] at hpart
      match vs,hall with
      | [u0,u1,u2],⟨r0,r1,r2,_⟩=>
        have hv:Out.ret [.agg [c0 _ _,c0 _ _,c0 _ _]]=Out.ret [.agg cs]:=hv;simp only [Out.ret.injEq,List.cons.injEq,aF.agg.injEq,and_true] at hv;refine hQ a' w' u0 u1 u2 xs' hs.below.size hs.below.os hs.below.tape hs.below.output (fun k hk hne=>hs.below.block k hk fun ho=>hne ((hO k).1 ho)) hs.sz hs.df (aH.mono _ hdn t0) (aH.mono _ hdn t1) (aH.mono _ hdn t2) (by rw [t4.2.1,hρ1,hval]) (aH.mono _ hdn t5) (aH.mono _ hdn t6) ⟨(ρ 0).blk,?_,t7.2,hh⟩ ?_ ?_ (hrep.mono hdn)
        ·rcases (hs.lo 0 _ _ eb rfl).1 with hh2 | hh2
         ·exact hh2
         ·have:=hs.inj 0 1 _ _ _ eb eb1 rfl (by simp only [own,hρ1,hval];exact (hO _).1 hh2);cases this
        ·rw [←hv];exact ⟨aH.mono _ hdn r0,aH.mono _ hdn r1,aH.mono _ hdn r2,trivial⟩
        ·refine ⟨hpart.1,?_⟩;rcases hown.2 with ⟨hz,hz2⟩ | ⟨g,cap,cur,e,hbg,hg,hnc,hcm,hcs,_⟩
         ·exact .inl ⟨hz,hz2⟩
         ·rcases hpart.2 with ⟨_,c',e'⟩ | ⟨g',off',cap',cur',e',hg',hnc',hcm',hfit',htake'⟩
          ·rw [e] at e';cases e'
          ·rw [e] at e';simp only [Value.slice.injEq,Option.some.injEq,Addr.mk.injEq,and_true,true_and] at e';obtain ⟨⟨rfl,rfl⟩,rfl⟩:=e';have hf:=hfr g 0 _ cap (by rw [hval];exact e) cur' hg'
           have hcc:cur0=cur:=by
            have:=hcur0 g (by rw [e];rfl);rw [hg] at this;simp only [Option.some.injEq,Obj.cells.injEq,and_true] at this;exact this.symm
           rw [hgh] at hf;refine .inr ⟨g,cap,cur',e,hbg,hg',hnc,hcm,?_,by simpa using htake'⟩;rw [hf.1];show cur0.size=_;rw [hcc];exact hcs
      | [],hall=>exact hall.elim
      | [_],hall=>exact hall.2.elim
      | [_,_],hall=>exact hall.2.2.elim
      | _::_::_::_::_,hall=>exact hall.2.2.2.elim
     ·exact hv.elim
    ·exact hv.elim
end
open Go Go.RowKit
variable {F:Fence} {n m:Nat} {P:Program}
abbrev pH (fn:FuncId) (tmps:Array Value) (ps:Array Tmp) (assign body:Code) (D:Nat) (st:LoopState) (pe:Option Code):Loop:={ state:=st,pending:=pe,fn,tmps,params:=ps,assign,body,defers:=D }
def aL2 (P:Program) (l:Nat) (r:LoopState→Option Code→Loop) (R:Bool→Option Code→World→Prop):Exit→Act→World→Prop
 | .normal,_,W=>W.heap[l]? = some (.loop (r .busy none))∧R true none (W.putObj l (.loop (r .ready none)))
 | .ret,_,W=>W.heap[l]? = some (.loop (r .busy none))∧R false (some .ret) (W.putObj l (.loop (r .done (some .ret))))
 | .exit id,_,W=>W.heap[l]? = some (.loop (r .busy none))∧R false (some (.exit id)) (W.putObj l (.loop (r .done (some (.exit id)))))
 | _,_,_=>False
theorem Pk {fn:FuncId} {tmps:Array Value} {ps:Array Tmp} {assign body:Code} {D l:Nat} {args:Array Value} {W:World} {R:Bool→Option Code→World→Prop}
  (hl:W.heap[l]? = some (.loop (pH fn tmps ps assign body D .ready none))) (hps:args.size=ps.size) (hF:F.fn fn)
  (h:assign.wpIn (F.inRound l) m P (Exit.then (fun a1 W1=>W1.heap[l]? = some (.loop (pH fn tmps ps assign body D .ready none)) ∧
    body.wpIn (F.inRound l) m P (aL2 P l (pH fn tmps ps assign body D) R) a1 (W1.putObj l (.loop (pH fn tmps ps assign body D .busy none)))) (fun _ _ _=>False))
   { tmps:=(ps.zip args).foldl (fun t (p,v)=>t.setIfInBounds p v) tmps,defers:=[] } W) :
  YieldAt F m P l args W fun e W'=>∃ b c,e = .returned (.bool b)∧R b c W':=by
 have hy:=run_yield (P:=P) (args:=args) hl hps;refine ⟨fn,_,assign,body,hy,roundIn_of_wpIn hF (wpIn_mono h ?_)⟩;rintro e a1 W1 hp;cases e with
 | normal=>
   obtain ⟨hl1,hb⟩:=hp;refine ⟨_,run_beginRound hl1 rfl,wpIn_mono hb ?_⟩;rintro e a3 W3 hp;cases e with
   | normal=>
     obtain ⟨hl3,hR⟩:=hp;exact ⟨_,_,run_endRound (P:=P) none hl3,true,none,rfl,hR⟩
   | ret=>
     obtain ⟨hl3,hR⟩:=hp;exact ⟨_,_,run_endRound (P:=P) (some .ret) hl3,false,_,rfl,hR⟩
   | exit id=>
     obtain ⟨hl3,hR⟩:=hp;exact ⟨_,_,run_endRound (P:=P) (some (.exit id)) hl3,false,_,rfl,hR⟩
   | goto t=>exact hp.elim
   | panic ch=>exact hp.elim
   | outgrown=>exact hp.elim
 | ret=>exact hp.elim
 | exit id=>exact hp.elim
 | goto t=>exact hp.elim
 | panic ch=>exact hp.elim
 | outgrown=>exact hp.elim
theorem QM {g:Operand} {ps:Array Tmp} {assign body:Code} {Q:Exit→Act→World→Prop} {a:Act} {w:World}
  (hro:F.round=none) (h1:1≤n) {gf:Nat} {lb:Array Value} (hg:a.eval g = .func (.func gf) #[] lb) (hFg:F.fn gf) (eg:∀ args w,(callFunc gf args).run P w = .ok (.enter gf args) w)
  (h:∀ (fn:FuncId) (D l:Nat) (W1:World),F.fn fn→D=w.heap.size→l=w.heap.size+1→W1.heap.size=w.heap.size+2→Below w.heap.size w W1→W1.heap[D]? = some (.deferred (some [])) →
   W1.heap[l]? = some (.loop (pH fn a.tmps ps assign body D .ready none)) →
   CallsIn F (n-1) P gf (#[.func (.yield l) #[] #[]]++lb) W1 fun e W2=>(∃ v,e = .returned v) ∧
    ((W2.heap[l]? = some (.loop (pH fn a.tmps ps assign body D .ready none))∧Q .normal { a with defers:={ target:=.collected D,args:=#[] } :: a.defers } (W2.putObj l (.loop (pH fn a.tmps ps assign body D .exhausted none)))) ∨
    (∃ c,W2.heap[l]? = some (.loop (pH fn a.tmps ps assign body D .done (some c)))∧c.wpIn F n P Q { a with defers:={ target:=.collected D,args:=#[] } :: a.defers } (W2.putObj l (.loop (pH fn a.tmps ps assign body D .exhausted (some c))))))) :
  (Code.rangeFunc g ps assign body).wpIn F n P Q a w:=by
 refine wpIn_rangeFunc ?_;intro fn hfn;rw [hro];obtain ⟨W1,hW1⟩:∃ W1,(w.alloc (.deferred (some []))).alloc (.loop (pH fn a.tmps ps assign body w.heap.size .ready none))=W1:=⟨_,rfl⟩
 have hL1:W1.heap[w.heap.size+1]? = some (.loop (pH fn a.tmps ps assign body w.heap.size .ready none)):=by
  rw [←hW1];have:=World.alloc_heap_new (w.alloc (.deferred (some []))) (.loop (pH fn a.tmps ps assign body w.heap.size .ready none));rwa [World.size_alloc] at this
 have hK1:W1.heap[w.heap.size]? = some (.deferred (some [])):=by
  rw [←hW1];exact (Below.heap_alloc _ _ _ (by simp)).trans (World.alloc_heap_new w _)
 have hb1:Below w.heap.size w W1:=by
  rw [←hW1];exact ((Below.refl _ w).alloc (Nat.le_refl _) _).alloc (by simp) _
 have hs1:W1.heap.size=w.heap.size+2:=by rw [←hW1];simp
 refine ⟨w.heap.size+1,[{ target:=.collected w.heap.size,args:=#[] }],W1,{ target:=.fn (.func gf) lb,args:=#[.func (.yield (w.heap.size+1)) #[] #[]] },W1,gf,
  #[.func (.yield (w.heap.size+1)) #[] #[]]++lb,W1,?_,?_,?_,?_,fun _=>h1,?_⟩
 ·rw [←hW1];exact run_enterLoop_outer _ _ _ _ _
 ·simp only [resolve,hg];simp [go_sem]
 ·intro f' hf';simp [Target.leads] at hf';subst hf';exact hFg
 ·simp [invoke,go_sem,eg]
 ·refine (h fn _ _ W1 hfn rfl rfl hs1 hb1 hK1 hL1).mono ?_;rintro e W2 ⟨⟨v,rfl⟩,(⟨hl,hq⟩ | ⟨c,hl,hq⟩)⟩
  ·exact ⟨none,_,by have:=run_endLoop (P:=P) hl (by simp);exact this,hq⟩
  ·exact ⟨some c,_,by have:=run_endLoop (P:=P) hl (by simp);exact this,hq⟩
end Go.Sy
