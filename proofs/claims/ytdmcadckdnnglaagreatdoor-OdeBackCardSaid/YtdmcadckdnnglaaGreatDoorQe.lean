/- A piece of a function's code: the coefficient that an iterator reckons before it hands it over. The law of such a piece. A range over a function: a round, and the whole, with nothing said of the iterator. The coefficients: one of them; the iterator; the first of them. The first coefficients. Coefficients.
-/
import Derived.Test.YtdmcadckdnnglaaGreatDoorSa
import Derived.Test.YtdmcadckdnnglaaGreatDoorSd
import Derived.RangeFuncNested
import Derived.Test.YtdmcadckdnnglaaGreatDoorQa
import Derived.Maps.OwnIn
import Derived.Sort.LoopGhostIn
import Derived.Test.YtdmcadckdnnglaaGreatDoorOa
set_option linter.unusedVariables false
set_option linter.unusedSimpArgs false
namespace Go.Sy
def MH:Code→Code
 | .seq _ (.seq _ (.seq _ (.block _ (.loop (.seq (.block _ (.seq _ (.seq x _))) _)))))=>x
 | _=>.skip
def stX (T:Nat):St:=
 ⟨[(0, .w (.one (.c (.u 5 0)))),(1, .w (.one (.ref 0 [.u 0 0, .u 0 1, .u 0 2, .u 0 3, .u 0 4]))),(2, .w (.one (.ref 0 [.u 1 0]))),(4, .w (.one (.r 1))),(5, .w (.one (.c (.u 3 0)))),(6, .w (.one (.c (.u 4 0)))),(7, .w (.one (.p 0 0)))],
   [(0, .var T [.c (.k (.slice none 0 0)), .c (.k (.bool false)), .c (.k (.slice none 0 0))]),(1, .part T 3 2)],[]⟩
def ae2 (T:Nat):Ex→Nat→Nat→St→Eh→Tr
 | .normal,_,_,s,_=>
   match s.t 0,s.t 1,s.t 2,s.t 4,s.t 5,s.t 6,s.t 7,s.s 0,s.b 0,s.s 1,s.b 1 with
   | .w (.one (.c (.u 5 0))), .w (.one (.ref 0 [.u 0 0, .u 0 1, .u 0 2, .u 0 3, .u 0 4])), .w (.one (.ref 0 [.u 1 0])), .w (.one (.r 1)), .w (.one (.c (.u 3 0))), .w (.one (.c (.u 4 0))), .w (.one (.p 0 0)),false,some (.var T' [.c a, .c b, .c c]),false,some (.part T2 3 2)=>
     if T'=T∧T2=T then .ret [.agg [.c a, .c b, .c c]] else .fail 3000
   | _,_,_,_,_,_,_,_,_,_,_=>.fail 3001
 | _,_,_,_,_=>.fail 3003
def Ra (P:Program) (fn:Func) (T:Nat):Tr:=
 match fn.body with
 | some c=>exec P fn.ntmps (fun _=>none) (MH c) 0 0 2 6 (stX T) [] (ae2 T)
 | none=>.fail 3004
open Go.RowKit (Below)
section
variable {P:Program}
theorem Rz {fn:Func} {c:Code} {T N:Nat} (hm:P.follows .mixedOrders=true) (hb:fn.body=some c) (hN:fn.ntmps=N) {s0 s1 s2 s3 s4 y0 m0 n0 f0:aI} {asx:List (List aI)} {cs:List aI}
  (h:vc P (fun o=>o = .ret [.agg cs]) (Ra P fn T) [.agg [s0,s1,s2,s3,s4], .agg [y0], .rows asx, .one m0, .one n0, .one f0] [])
  {M:Nat→Prop} {W:World} {a:Act} {Q:Exit→Act→World→Prop} {va:Value} {base:Nat} {xs:List Value} (hM:dK (fun b=>M b∨va.ownBlock=some b) W) (hMa:∀ b,M b→va.ownBlock≠some b) (hsz:a.tmps.size=N) (hdf:a.defers = [])
  (hown:W.ownsRow base T 3 va asx.length xs) (hlen:∀ t∈asx,t.length=3) (hrow:aW (fun b=>M b∨va.ownBlock=some b) W asx.flatten xs)
  (h0:f0.rep (fun b=>M b∨va.ownBlock=some b) W (a.tmps.getD 0 Go.undef)) (h1:(aI.bC [s0,s1,s2,s3,s4]).rep (fun b=>M b∨va.ownBlock=some b) W (a.tmps.getD 1 Go.undef)) (h2:(aI.bC [y0]).rep (fun b=>M b∨va.ownBlock=some b) W (a.tmps.getD 2 Go.undef))
  (h4:a.tmps.getD 4 Go.undef=va) (h5:m0.rep (fun b=>M b∨va.ownBlock=some b) W (a.tmps.getD 5 Go.undef)) (h6:n0.rep (fun b=>M b∨va.ownBlock=some b) W (a.tmps.getD 6 Go.undef)) (h7:a.tmps.getD 7 Go.undef = .pointer (some ⟨W.heap.size,0,none⟩))
  (hQ:∀ a' w' u0 u1 u2 xs',W.heap.size≤w'.heap.size→w'.os=W.os→w'.tape=W.tape→w'.output=W.output→(∀ k,k<W.heap.size→va.ownBlock≠some k→w'.heap[k]? = W.heap[k]?)→a'.tmps.size=N→a'.defers = [] →
   f0.rep (fun b=>M b∨va.ownBlock=some b) w' (a'.tmps.getD 0 Go.undef)→(aI.bC [s0,s1,s2,s3,s4]).rep (fun b=>M b∨va.ownBlock=some b) w' (a'.tmps.getD 1 Go.undef)→(aI.bC [y0]).rep (fun b=>M b∨va.ownBlock=some b) w' (a'.tmps.getD 2 Go.undef) →
   a'.tmps.getD 4 Go.undef=va→m0.rep (fun b=>M b∨va.ownBlock=some b) w' (a'.tmps.getD 5 Go.undef)→n0.rep (fun b=>M b∨va.ownBlock=some b) w' (a'.tmps.getD 6 Go.undef) →
   (∃ k,W.heap.size≤k∧a'.tmps.getD 7 Go.undef = .pointer (some ⟨k,0,none⟩)∧w'.heap[k]? = some (.cells #[u0,u1,u2] T (0,0)))→aW (fun b=>M b∨va.ownBlock=some b) w' cs [u0,u1,u2] →
   w'.ownsRow base T 3 va asx.length xs'→aW (fun b=>M b∨va.ownBlock=some b) w' asx.flatten xs'→Q .normal a' w') :
  (MH c).wp P Q a (W.alloc (.cells #[.slice none 0 0, .bool false, .slice none 0 0] T)):=by
 unfold Ra at h;rw [hb,hN] at h
 obtain ⟨cur0,hcur0⟩:∃ cur0:Array Value,∀ g,va.ownBlock=some g→W.heap[g]? = some (.cells cur0 T (0,0)):=by
  rcases hown.2 with ⟨rfl,_⟩ | ⟨g,cap,cur,rfl,_,hg,_⟩
  ·exact ⟨#[],fun g hg=>by simp [Value.ownBlock] at hg⟩
  ·refine ⟨cur,fun g' hg'=>?_⟩;simp only [Value.ownBlock,Option.some.injEq] at hg';rw [←hg'];exact hg
 have hva1:va.oneCell'=true:=by
  rcases hown.2 with ⟨rfl,_⟩ | ⟨g,cap,cur,rfl,_⟩<;>rfl
 obtain ⟨gh,hgh⟩:∃ gh:Gh,gh=⟨0,va,cur0⟩:=⟨_,rfl⟩
 obtain ⟨M0,hM0⟩:∃ M0:dL,M0=⟨M,gh⟩:=⟨_,rfl⟩
 obtain ⟨ρ0,hρ0⟩:∃ ρ0:Nat→Gh,ρ0=fun b=>if b=0 then ⟨W.heap.size,Go.undef,#[]⟩ else gh:=⟨_,rfl⟩
 have hO:∀ k,M0.O k↔va.ownBlock=some k:=fun k=>by rw [hM0,dL.O,hgh]
 have hbox:∀ b x,(stX T).b b=some x→(b=0∧x = .var T [.c (.k (.slice none 0 0)), .c (.k (.bool false)), .c (.k (.slice none 0 0))])∨(b=1∧x = .part T 3 2):=by
  intro b x hb1;simp only [stX,St.b,look] at hb1;split at hb1
  ·rename_i e;simp only [Option.some.injEq] at hb1;exact .inl ⟨e.symm,hb1.symm⟩
  ·split at hb1
   ·rename_i e;simp only [Option.some.injEq] at hb1;exact .inr ⟨e.symm,hb1.symm⟩
   ·cases hb1
 have hown0:own ρ0 0 (.var T [.c (.k (.slice none 0 0)), .c (.k (.bool false)), .c (.k (.slice none 0 0))])=some W.heap.size:=by rw [hρ0];rfl
 have hown1:own ρ0 1 (.part T 3 2)=va.ownBlock:=by rw [hρ0,hgh];rfl
 have hglt:∀ g,va.ownBlock=some g→g<W.heap.size:=fun g hg=>(Array.getElem?_eq_some_iff.1 (hcur0 g hg)).1
 have hMs:∀ k,Ms M0 ρ0 (stX T) k↔(M k∨va.ownBlock=some k)∨k=W.heap.size:=by
  intro k
  constructor
  ·rintro (hk | ⟨b,x,hb1,_,ho⟩)
   ·rw [hM0] at hk;exact .inl (.inl hk)
   ·rcases hbox b x hb1 with ⟨rfl,rfl⟩ | ⟨rfl,rfl⟩
    ·rw [hown0] at ho;exact .inr (Option.some.inj ho).symm
    ·rw [hown1] at ho;exact .inl (.inr ho)
  ·rintro ((hk | hk) | hk)
   ·exact .inl (by rw [hM0];exact hk)
   ·exact .inr ⟨1,_,rfl,rfl,by rw [hown1];exact hk⟩
   ·exact .inr ⟨0,_,rfl,rfl,by rw [hown0,hk]⟩
 have hkeep:bX (fun b=>M b∨va.ownBlock=some b) W (Ms M0 ρ0 (stX T)) (W.alloc (.cells #[.slice none 0 0, .bool false, .slice none 0 0] T)):=by
  intro b o hbm ho _;have hlt:=(Array.getElem?_eq_some_iff.1 ho).1;refine ⟨fun hk=>?_,(heap_alloc_old _ _ _ hlt).trans ho⟩;rcases (hMs b).1 hk with hk | hk
  ·exact hbm hk
  ·omega
 have halloc:∀ g,va.ownBlock=some g→(W.alloc (.cells #[.slice none 0 0, .bool false, .slice none 0 0] T)).heap[g]? = some (.cells cur0 T (0,0)):=fun g hg=>(heap_alloc_old _ _ _ (hglt g hg)).trans (hcur0 g hg);refine jR (M0:=M0) (w0:=W) hm (MH c) 0 0 2 6 (stX T) [] (ae2 T) _ [] h rfl (by intro x hx;cases hx) (Nat.le_refl _) ρ0 a _ Q ?_ ?_ vB.noE ?_
 ·refine ⟨Kept.alloc ⟨rfl,rfl,rfl,Nat.le_refl _,fun _ _ _=>rfl,fun x hx=>⟨fun hk=>(hM.2 x hx).1 (.inl (by rw [hM0] at hk;exact hk)),fun ho=>(hM.2 x hx).1 (.inr ((hO _).1 ho)),(hM.2 x hx).2⟩⟩ _,hsz,hdf,fun t=>?_,fun b x hx=>?_,?_,?_,?_,?_⟩
  ·match t with
   | 0=>exact aI.mono _ hkeep h0
   | 1=>exact aI.mono _ hkeep h1
   | 2=>exact aI.mono _ hkeep h2
   | 3=>exact trivial
   | 4=>exact ⟨rfl,by rw [h4,hρ0,hgh];rfl,by rw [h4];exact hva1⟩
   | 5=>exact aI.mono _ hkeep h5
   | 6=>exact aI.mono _ hkeep h6
   | 7=>exact ⟨rfl,by rw [h7,hρ0];rfl⟩
   | t+8=>exact trivial
  ·rcases hbox b x hx with ⟨rfl,rfl⟩ | ⟨rfl,rfl⟩
   ·exact ⟨[.slice none 0 0, .bool false, .slice none 0 0],by rw [hρ0];exact heap_alloc_new W _,⟨rfl,rfl⟩,⟨rfl,rfl⟩,⟨rfl,rfl⟩,trivial⟩
   ·have hv:(ρ0 1).val=va:=by rw [hρ0,hgh];rfl
    refine ⟨asx,xs,rfl,?_,hlen,hrow.mono hkeep,by rw [hv];exact hva1,?_⟩
    ·rw [hv];refine tV.Rl (base:=base) ⟨hown.1,?_⟩;rcases hown.2 with h | ⟨g,cap,cur,e,hbg,hg,rest⟩
     ·exact .inl h
     ·exact .inr ⟨g,cap,cur,e,hbg,(heap_alloc_old _ _ _ (Array.getElem?_eq_some_iff.1 hg).1).trans hg,rest⟩
    ·intro g off len cap hval cur hg;have hvg:va.ownBlock=some g:=by rw [←hv,hval];rfl
     have:=halloc g hvg;rw [hg] at this;simp only [Option.some.injEq,Obj.cells.injEq,and_true] at this;have hcc:(ρ0 1).cur=cur0:=by rw [hρ0,hgh];rfl
     rw [hcc,this];exact ⟨rfl,fun _ _=>rfl⟩
  ·intro b b' x x' k hb1 hb2 ho1 ho2;rcases hbox b x hb1 with ⟨rfl,rfl⟩ | ⟨rfl,rfl⟩<;>rcases hbox b' x' hb2 with ⟨rfl,rfl⟩ | ⟨rfl,rfl⟩
   ·rfl
   ·rw [hown0] at ho1;rw [hown1] at ho2;have:=hglt k ho2;have:=Option.some.inj ho1;omega
   ·rw [hown1] at ho1;rw [hown0] at ho2;have:=hglt k ho1;have:=Option.some.inj ho2;omega
   ·rfl
  ·intro b x k hb1 ho;rcases hbox b x hb1 with ⟨rfl,rfl⟩ | ⟨rfl,rfl⟩
   ·rw [hown0] at ho;have:=Option.some.inj ho;subst this;exact ⟨.inl (Nat.le_refl _),by simp⟩
   ·rw [hown1] at ho;have:=hglt k ho;exact ⟨.inr ((hO k).2 ho),by simp;omega⟩
  ·intro k hk ho;rw [hM0] at hk;have hk:M k:=hk;rcases ho with ho | ho
   ·exact Nat.not_lt.2 ho (hM.1 k (.inl hk))
   ·exact hMa k hk ((hO k).1 ho)
  ·intro b E sz cid hb1;rcases hbox b _ hb1 with ⟨_,e⟩ | ⟨rfl,e⟩
   ·cases e
   ·rw [hρ0,hM0];rfl
 ·intro cc v a w hp;cases hp
 ·intro ex nb s dec m bk' ρ a' w' _ _ hv _ hs;cases ex with
  | exit id=>exact hv.elim
  | ret=>exact hv.elim
  | normal=>
    simp only [ae2] at hv;split at hv
    ·rename_i e0 e1 e2 e4 e5 e6 e7 es eb es1 eb1;split at hv
     ·rename_i eT;obtain ⟨eT1,eT2⟩:=eT;subst eT1;subst eT2;have hρ1:ρ 1=gh:=by have:=hs.pt 1 _ _ _ eb1;rw [this,hM0]
      have hdn:bX (Ms M0 ρ s) w' (fun b=>M b∨va.ownBlock=some b) w':=fun b o hbm ho _=>⟨fun hk=>hbm (by
       rcases hk with hk | hk
       ·exact .inl (by rw [hM0];exact hk)
       ·exact .inr ⟨1,_,eb1,es1,by simp only [own,hρ1,hgh];exact hk⟩),ho⟩
      have t0:=hs.tm 0;have t1:=hs.tm 1;have t2:=hs.tm 2;have t4:=hs.tm 4;have t5:=hs.tm 5;have t6:=hs.tm 6;have t7:=hs.tm 7;rw [e0] at t0;rw [e1] at t1;rw [e2] at t2;rw [e4] at t4;rw [e5] at t5;rw [e6] at t6;rw [e7] at t7;obtain ⟨vs,hh,hall⟩:=hs.bx 0 _ eb;obtain ⟨ts,xs',hts,hpart,_,hrep,_,hfr⟩:=hs.bx 1 _ eb1
      have hts':ts=asx:=by
       rw [List.getElem?_append_left (by simp)] at hts
       simpa using hts.symm
      subst hts';rw [hρ1] at hpart hfr;have hval:gh.val=va:=by rw [hgh]
      rw [hval] at hpart
      match vs,hall with
      | [u0,u1,u2],⟨r0,r1,r2,_⟩=>
        have hv:Out.ret [.agg [c0 _ _,c0 _ _,c0 _ _]]=Out.ret [.agg cs]:=hv;simp only [Out.ret.injEq,List.cons.injEq,aG.agg.injEq,and_true] at hv;refine hQ a' w' u0 u1 u2 xs' hs.below.size hs.below.os hs.below.tape hs.below.output (fun k hk hne=>hs.below.block k hk fun ho=>hne ((hO k).1 ho)) hs.sz hs.df (aI.mono _ hdn t0) (aI.mono _ hdn t1) (aI.mono _ hdn t2) (by rw [t4.2.1,hρ1,hval]) (aI.mono _ hdn t5) (aI.mono _ hdn t6) ⟨(ρ 0).blk,?_,t7.2,hh⟩ ?_ ?_ (hrep.mono hdn)
        ·rcases (hs.lo 0 _ _ eb rfl).1 with hh2 | hh2
         ·exact hh2
         ·have:=hs.inj 0 1 _ _ _ eb eb1 rfl (by simp only [own,hρ1,hval];exact (hO _).1 hh2);cases this
        ·rw [←hv];exact ⟨aI.mono _ hdn r0,aI.mono _ hdn r1,aI.mono _ hdn r2,trivial⟩
        ·refine ⟨hpart.1,?_⟩;rcases hown.2 with ⟨hz,hz2⟩ | ⟨g,cap,cur,e,hbg,hg,hnc,hcm,hcs,_⟩
         ·exact .inl ⟨hz,hz2⟩
         ·rcases hpart.2 with ⟨_,c',e'⟩ | ⟨g',off',cap',cur',e',hg',hnc',hcm',hfit',htake'⟩
          ·rw [e] at e';cases e'
          ·rw [e] at e';simp only [Value.slice.injEq,Option.some.injEq,Addr.mk.injEq,and_true,true_and] at e';obtain ⟨⟨rfl,rfl⟩,rfl⟩:=e';have hf:=hfr g 0 _ cap (by rw [hval];exact e) cur' hg'
           have hcc:cur0=cur:=by
            have:=hcur0 g (by rw [e];rfl);rw [hg] at this;simp only [Option.some.injEq,Obj.cells.injEq,and_true] at this;exact this.symm
           rw [hgh] at hf;refine .inr ⟨g,cap,cur',e,hbg,hg',hnc,hcm,?_,by simpa using htake'⟩;rw [hf.1];show cur0.size=_;rw [hcc];exact hcs
      | [],hall=>exact hall.elim
      | [_],hall=>exact hall.2.elim
      | [_,_],hall=>exact hall.2.2.elim
      | _::_::_::_::_,hall=>exact hall.2.2.2.elim
     ·exact hv.elim
    ·exact hv.elim
end
open Go Go.RowKit
variable {F:Fence} {n m:Nat} {P:Program}
abbrev pM (fn:FuncId) (tmps:Array Value) (ps:Array Tmp) (assign body:Code) (D:Nat) (st:LoopState) (pe:Option Code):Loop:={ state:=st,pending:=pe,fn,tmps,params:=ps,assign,body,defers:=D }
def aP0 (P:Program) (l:Nat) (r:LoopState→Option Code→Loop) (R:Bool→Option Code→World→Prop):Exit→Act→World→Prop
 | .normal,_,W=>W.heap[l]? = some (.loop (r .busy none))∧R true none (W.putObj l (.loop (r .ready none)))
 | .ret,_,W=>W.heap[l]? = some (.loop (r .busy none))∧R false (some .ret) (W.putObj l (.loop (r .done (some .ret))))
 | .exit id,_,W=>W.heap[l]? = some (.loop (r .busy none))∧R false (some (.exit id)) (W.putObj l (.loop (r .done (some (.exit id)))))
 | _,_,_=>False
theorem Sd {fn:FuncId} {tmps:Array Value} {ps:Array Tmp} {assign body:Code} {D l:Nat} {args:Array Value} {W:World} {R:Bool→Option Code→World→Prop}
  (hl:W.heap[l]? = some (.loop (pM fn tmps ps assign body D .ready none))) (hps:args.size=ps.size) (hF:F.fn fn)
  (h:assign.wpIn (F.inRound l) m P (Exit.then (fun a1 W1=>W1.heap[l]? = some (.loop (pM fn tmps ps assign body D .ready none)) ∧
    body.wpIn (F.inRound l) m P (aP0 P l (pM fn tmps ps assign body D) R) a1 (W1.putObj l (.loop (pM fn tmps ps assign body D .busy none)))) (fun _ _ _=>False))
   { tmps:=(ps.zip args).foldl (fun t (p,v)=>t.setIfInBounds p v) tmps,defers:=[] } W) :
  YieldAt F m P l args W fun e W'=>∃ b c,e = .returned (.bool b)∧R b c W':=by
 have hy:=run_yield (P:=P) (args:=args) hl hps;refine ⟨fn,_,assign,body,hy,roundIn_of_wpIn hF (wpIn_mono h ?_)⟩;rintro e a1 W1 hp;cases e with
 | normal=>
   obtain ⟨hl1,hb⟩:=hp;refine ⟨_,run_beginRound hl1 rfl,wpIn_mono hb ?_⟩;rintro e a3 W3 hp;cases e with
   | normal=>
     obtain ⟨hl3,hR⟩:=hp;exact ⟨_,_,run_endRound (P:=P) none hl3,true,none,rfl,hR⟩
   | ret=>
     obtain ⟨hl3,hR⟩:=hp;exact ⟨_,_,run_endRound (P:=P) (some .ret) hl3,false,_,rfl,hR⟩
   | exit id=>
     obtain ⟨hl3,hR⟩:=hp;exact ⟨_,_,run_endRound (P:=P) (some (.exit id)) hl3,false,_,rfl,hR⟩
   | goto t=>exact hp.elim
   | panic ch=>exact hp.elim
   | outgrown=>exact hp.elim
 | ret=>exact hp.elim
 | exit id=>exact hp.elim
 | goto t=>exact hp.elim
 | panic ch=>exact hp.elim
 | outgrown=>exact hp.elim
theorem TJ {g:Operand} {ps:Array Tmp} {assign body:Code} {Q:Exit→Act→World→Prop} {a:Act} {w:World}
  (hro:F.round=none) (h1:1≤n) {gf:Nat} {lb:Array Value} (hg:a.eval g = .func (.func gf) #[] lb) (hFg:F.fn gf) (eg:∀ args w,(callFunc gf args).run P w = .ok (.enter gf args) w)
  (h:∀ (fn:FuncId) (D l:Nat) (W1:World),F.fn fn→D=w.heap.size→l=w.heap.size+1→W1.heap.size=w.heap.size+2→Below w.heap.size w W1→W1.heap[D]? = some (.deferred (some [])) →
   W1.heap[l]? = some (.loop (pM fn a.tmps ps assign body D .ready none)) →
   CallsIn F (n-1) P gf (#[.func (.yield l) #[] #[]]++lb) W1 fun e W2=>(∃ v,e = .returned v) ∧
    ((W2.heap[l]? = some (.loop (pM fn a.tmps ps assign body D .ready none))∧Q .normal { a with defers:={ target:=.collected D,args:=#[] } :: a.defers } (W2.putObj l (.loop (pM fn a.tmps ps assign body D .exhausted none)))) ∨
    (∃ c,W2.heap[l]? = some (.loop (pM fn a.tmps ps assign body D .done (some c)))∧c.wpIn F n P Q { a with defers:={ target:=.collected D,args:=#[] } :: a.defers } (W2.putObj l (.loop (pM fn a.tmps ps assign body D .exhausted (some c))))))) :
  (Code.rangeFunc g ps assign body).wpIn F n P Q a w:=by
 refine wpIn_rangeFunc ?_;intro fn hfn;rw [hro];obtain ⟨W1,hW1⟩:∃ W1,(w.alloc (.deferred (some []))).alloc (.loop (pM fn a.tmps ps assign body w.heap.size .ready none))=W1:=⟨_,rfl⟩
 have hL1:W1.heap[w.heap.size+1]? = some (.loop (pM fn a.tmps ps assign body w.heap.size .ready none)):=by
  rw [←hW1];have:=World.alloc_heap_new (w.alloc (.deferred (some []))) (.loop (pM fn a.tmps ps assign body w.heap.size .ready none));rwa [World.size_alloc] at this
 have hK1:W1.heap[w.heap.size]? = some (.deferred (some [])):=by
  rw [←hW1];exact (Below.heap_alloc _ _ _ (by simp)).trans (World.alloc_heap_new w _)
 have hb1:Below w.heap.size w W1:=by
  rw [←hW1];exact ((Below.refl _ w).alloc (Nat.le_refl _) _).alloc (by simp) _
 have hs1:W1.heap.size=w.heap.size+2:=by rw [←hW1];simp
 refine ⟨w.heap.size+1,[{ target:=.collected w.heap.size,args:=#[] }],W1,{ target:=.fn (.func gf) lb,args:=#[.func (.yield (w.heap.size+1)) #[] #[]] },W1,gf,
  #[.func (.yield (w.heap.size+1)) #[] #[]]++lb,W1,?_,?_,?_,?_,fun _=>h1,?_⟩
 ·rw [←hW1];exact run_enterLoop_outer _ _ _ _ _
 ·simp only [resolve,hg];simp [go_sem]
 ·intro f' hf';simp [Target.leads] at hf';subst hf';exact hFg
 ·simp [invoke,go_sem,eg]
 ·refine (h fn _ _ W1 hfn rfl rfl hs1 hb1 hK1 hL1).mono ?_;rintro e W2 ⟨⟨v,rfl⟩,(⟨hl,hq⟩ | ⟨c,hl,hq⟩)⟩
  ·exact ⟨none,_,by have:=run_endLoop (P:=P) hl (by simp);exact this,hq⟩
  ·exact ⟨some c,_,by have:=run_endLoop (P:=P) hl (by simp);exact this,hq⟩
open Go Go.Proofs Go.RowKit Go.Shelf Tryz Ord
theorem qN:aX aG.Sub [.one (.exact (.slice none 0 0)), .one (.bool false), .one (.exact (.slice none 0 0))] ((qC 0).map .one):=⟨eV.1,eV.2.1,eV.2.2.1,trivial⟩
theorem zne {z:Int} (h:z≠0):(z:Rat)≠0:=fun e=>h (by simpa using e)
def pN:Tr:=.ret [(.agg [(U 10 0),(U 10 1),(U 10 2)])]
def pR:Tr:=.need (.call 207 [(.agg [(U 8 0),(U 8 1),(U 8 2)]),(.agg [(U 9 0),(U 9 1),(U 9 2)])] [(some 3)]) (.call ⟨.value (.func 207),#[(.tmp 23),(.tmp 26)],#[39,39]⟩) 39 true pN
def pE:Tr:=.need (.call 209 [(W 4 0),(W 4 0)] [(some 3)]) (.call ⟨.value (.func 209),#[(.tmp 24),(.tmp 25)],#[3,3]⟩) 39 true pR
def pG:Tr:=.need (.prim [(W 7 0)] (some 3)) (.load 39 (.tmp 22)) 39 false pE
def pS:Tr:=.need (.prim [(W 1 0),(W 4 0)] none) (.indexAddr 40 (.tmp 20) (.tmp 21)) 0 false pG
def nO:Tr:=.back 1 [(.w (W 38 0)),(.w (W 37 0)),(.w (W 37 1)),(.w (W 37 2))]
def mR:Tr:=.need (.prim [(W 21 0),(WK (1))] none) (.binOp .add 3 (.tmp 46) (.const (I3 (1))) 3) 3 false nO
def mS:Tr:=.need (.call 167 [(.agg [(U 22 0),(U 23 0),(U 24 0)]),(.agg [(U 36 0),(U 36 1),(U 36 2)])] [(some 3)]) (.call ⟨.value (.func 167),#[(.tmp 58),(.tmp 72)],#[39,39]⟩) 39 true mR
def oG:Tr:=.need (.call 36 [(.agg [(U 33 0),(U 33 1),(U 33 2)]),(.agg [(U 35 0),(U 35 1),(U 35 2)])] [(some 3)]) (.call ⟨.value (.func 36),#[(.tmp 65),(.tmp 71)],#[39,39]⟩) 39 true mS
def nA:Tr:=.need (.ldrow 2 (.u 34 0) 0 3 true) (.load 39 (.tmp 70)) 39 false oG
def nG:Tr:=.need (.idx 2 (.u 34 0)) (.indexAddr 40 (.tmp 66) (.tmp 69)) 0 false nA
def nS:Tr:=.need (.prim [(W 4 0),(W 29 0)] none) (.binOp .sub 3 (.tmp 67) (.tmp 68) 3) 3 false nG
def nV:Tr:=.need (.call 36 [(.agg [(U 27 0),(U 27 1),(U 27 2)]),(.agg [(U 32 0),(U 32 1),(U 32 2)])] [(some 3)]) (.call ⟨.value (.func 36),#[(.tmp 59),(.tmp 64)],#[39,39]⟩) 39 false nS
def mV:Tr:=.need (.call 209 [(W 31 0),(W 8 0)] [(some 3)]) (.call ⟨.value (.func 209),#[(.tmp 62),(.tmp 63)],#[3,3]⟩) 39 false nV
def mY:Tr:=.need (.prim [(W 4 0),(W 29 0)] none) (.binOp .sub 3 (.tmp 60) (.tmp 61) 3) 3 false mV
def nU:Tr:=.back 1 [(.w (W 31 0)),(.w (W 22 0)),(.w (W 23 0)),(.w (W 24 0))]
def nB:Tr:=.need (.prim [(W 21 0),(WK (1))] none) (.binOp .add 3 (.tmp 46) (.const (I3 (1))) 3) 3 false nU
def oA:Tr:=.split (.u 30 0) mY nB
def nR:Tr:=.need (.prim [(W 29 0),(WK (0))] none) (.binOp .gtr 3 (.tmp 56) (.const (I3 (0))) 3) 4 false oA
def oB:Tr:=.need (.prim [(W 28 0),(W 8 0)] none) (.binOp .sub 3 (.tmp 53) (.tmp 54) 3) 3 false nR
def nN:Tr:=.need (.prim [(W 3 0),(W 21 0)] none) (.binOp .add 3 (.tmp 51) (.tmp 52) 3) 3 false oB
def oJ:Tr:=.need (.prim [(W 26 0)] (some 3)) (.load 39 (.tmp 49)) 39 false nN
def nH:Tr:=.need (.prim [(W 19 0),(W 21 0)] none) (.indexAddr 72 (.tmp 44) (.tmp 46)) 0 false oJ
def mX:Tr:=.back 0 [(.w (W 26 0)),(.w (W 22 0)),(.w (W 23 0)),(.w (W 24 0))]
def nX:Tr:=.need (.prim [(W 8 0),(WK (1))] none) (.binOp .add 3 (.tmp 31) (.const (I3 (1))) 3) 3 false mX
def oI:Tr:=.split (.u 25 0) nH nX
def nM:Tr:=.need (.prim [(W 21 0),(W 20 0)] none) (.binOp .lss 3 (.tmp 46) (.tmp 45) 3) 0 false oI
def nQ:Tr:=.loop 1 [(.w (WK (0))),(.w (W 9 0)),(.w (W 10 0)),(.w (W 11 0))] nM
def mW:Tr:=.need (.prim [(W 19 0)] none) (.call ⟨.builtin .len,#[(.tmp 44)],#[72]⟩) 3 false nQ
def nZ:Tr:=.need (.prim [(W 14 0),(W 18 0)] none) (.slice 72 (.tmp 36) none (some (.tmp 43)) none) 72 false mW
def nI:Tr:=.need (.prim [(W 15 0),(W 17 0)] none) (.call ⟨.builtin .min,#[(.tmp 38),(.tmp 42)],#[3,3]⟩) 3 false nZ
def oH:Tr:=.need (.prim [(W 16 0),(WK (1))] none) (.binOp .add 3 (.tmp 41) (.const (I3 (1))) 3) 3 false nI
def nL:Tr:=.need (.prim [(W 4 0),(W 3 0)] none) (.binOp .sub 3 (.tmp 39) (.tmp 40) 3) 3 false oH
def nK:Tr:=.need (.prim [(W 14 0)] none) (.call ⟨.builtin .len,#[(.tmp 37)],#[72]⟩) 3 false nL
def nD:Tr:=.need (.prim [(W 13 0)] none) (.load 72 (.tmp 34)) 72 false nK
def oD:Tr:=.need (.prim [(W 0 0),(W 8 0)] none) (.indexAddr 31 (.tmp 29) (.tmp 31)) 0 false nD
def oF:Tr:=.ret [(.agg [(U 15 0),(U 15 1),(U 15 2)])]
def oC:Tr:=.need (.call 207 [(.agg [(U 9 0),(U 10 0),(U 11 0)]),(.agg [(U 14 0),(U 14 1),(U 14 2)])] [(some 3)]) (.call ⟨.value (.func 207),#[(.tmp 76),(.tmp 82)],#[39,39]⟩) 39 true oF
def nE:Tr:=.need (.call 36 [(.agg [(U 0 2),(U 0 3),(U 0 4)]),(.agg [(U 13 0),(U 13 1),(U 13 2)])] [(some 3)]) (.call ⟨.value (.func 36),#[(.tmp 78),(.tmp 81)],#[39,39]⟩) 39 true oC
def oE:Tr:=.need (.call 209 [(W 4 0),(W 3 0)] [(some 3)]) (.call ⟨.value (.func 209),#[(.tmp 79),(.tmp 80)],#[3,3]⟩) 39 false nE
def mZ:Tr:=.split (.u 12 0) oD oE
def pJ:Tr:=.need (.prim [(W 8 0),(W 7 0)] none) (.binOp .lss 3 (.tmp 31) (.tmp 30) 3) 0 false mZ
def pF:Tr:=.loop 0 [(.w (WK (0))),(.w (.one (.c (.k (.slice none 0 0))))),(.w (.one (.c (.k (.bool false))))),(.w (.one (.c (.k (.slice none 0 0)))))] pJ
def pO:Tr:=.need (.prim [(W 0 0)] none) (.call ⟨.builtin .len,#[(.tmp 29)],#[31]⟩) 3 false pF
def pL:Tr:=.split (.u 6 0) pS pO
def gX:Tr:=.need (.prim [(W 4 0),(W 3 0)] none) (.binOp .lss 3 (.tmp 17) (.tmp 18) 3) 4 false pL
theorem rL:Ra prog f247 39=gX:=by kernel_rfl
set_option maxHeartbeats 1000000 in
theorem ay3 (q:List (List Rat)) (m:Nat) (lead:Rat) (y:List Rat) (n N B:Nat) (f0:Value) (C:gP B q m lead y N) (hn:n<N) (hN:N≤1073741824) (hm:m≤64) (hmN:m≤N) (hB:B≤8589934592) (h64:64≤B) (hql:q.length=m+1) (hyl:y.length=m) (hp:∀ p∈q,p.length<1099511627776) (hl0:lead≠0) :
  vc prog (fun o=>o = .ret [qT (kA q m lead y n (aR q m lead y n))]) gX [.agg ([eQ q, .int .i64 m]++qC lead), .agg [sQ y], .rows (rQ (aR q m lead y n)), .one (.int .i64 m), .one (.int .i64 n), .one (.exact f0)] []:=by
 obtain ⟨a,ha⟩:∃ a,aR q m lead y n=a:=⟨_,rfl⟩
 have hal:a.length=n:=by rw [←ha,bQ]
 have hfa:∀ x∈a,Fit B x:=fun x hx=>by
  rw [←ha] at hx;obtain ⟨j,hj⟩:=List.mem_iff_getElem?.1 hx;have hjn:j<n:=by have:=(List.getElem?_eq_some_iff.1 hj).1;rw [bQ] at this;exact this
  have h1:=oY q m lead y (k:=j+1) (n:=n) (by omega);have h2:(aR q m lead y (j+1))[j]? = some x:=by rw [←h1,List.getElem?_take,if_pos (by omega),hj]
  rw [aR,List.getElem?_append_right (by rw [bQ];exact Nat.le_refl _),bQ,Nat.sub_self] at h2;simp only [List.getElem?_cons_zero,Option.some.injEq] at h2;rw [←h2];exact C.fa j (by omega)
 have hfx:=C.fx n;rw [ha] at hfx ⊢;dsimp only [aA,aB];refine vn bE rfl ?_;dsimp only [aA,aB];refine vs _ rfl (fun h1=>?_) (fun h1=>?_)
 ·refine vn (aY zZ (by omega) (Int.toNat_natCast n) (cI (l:=y) (show n<y.length by omega))) rfl ?_;dsimp only [aA,aB];refine vn (bZ rZ (by decide) (by simp) (.inl rfl)) rfl ?_;dsimp only [aA,aB];refine aC (lQ (n:Int) n B (by omega) (by omega) (by omega) (by omega) h64 (fun j hj=>C.ffac n (by omega) j hj)) rfl ?_;dsimp only [aA,aB];refine aC (rH (y.getD n 0) ((bL n n:Int):Rat) B B (zne (qV (Int.le_refl _))) (mD (by omega) C.fy n) (C.ffac n (by omega) n (Nat.le_refl _)) (by omega)) rfl ?_;dsimp only [aA,aB];show Out.ret _=Out.ret _;rw [kA,if_pos (show n<m by omega)];rfl
 refine vn (aQ KI (List.length_map _)) rfl ?_;dsimp only [aA,aB];have hmn:m≤n:=by omega
 refine bF {i:Nat // i≤q.length} (fun g=>(.one (.int .i64 g.1):aG)::(qC (outer q a m n g.1)).map .one) (fun g=>q.length-g.1) ⟨0,Nat.zero_le _⟩ ⟨aG.Sub.same,qN⟩ (fun _=>rfl) ?_;rintro ⟨i,hi⟩;dsimp only [aA,aB,List.map] at hi ⊢;refine vn bE rfl ?_;dsimp only [aA,aB];refine vs _ rfl (fun h10=>?_) (fun h10=>?_)
 ·obtain ⟨p,hpi⟩:∃ p,q[i]? = some p:=⟨_,List.getElem?_eq_getElem (by omega)⟩
  have hgd:q.getD i []=p:=by rw [List.getD_eq_getElem?_getD,hpi];rfl
  have hpl:=hp p (List.mem_of_getElem? hpi);have hfp:=C.fq p (List.mem_of_getElem? hpi);have hfx:=fun k=>hfx i k hn hmn (by omega);rw [hgd] at hfx;obtain ⟨t,ht⟩:∃ t,min p.length (n-m+1)=t:=⟨_,rfl⟩
  rw [ht] at hfx;have htl:(p.take t).length=t:=by rw [List.length_take];omega
  refine vn (aY KI (by omega) (by omega) hpi) rfl ?_;dsimp only [aA,aB];refine vn (bH JX) rfl ?_;dsimp only [aA,aB];refine vn (aQ jF (List.length_map _)) rfl ?_;dsimp only [aA,aB];refine vn (aJ (by omega) (by omega)) rfl ?_;dsimp only [aA,aB];refine vn (aE (by omega) (by omega)) rfl ?_;dsimp only [aA,aB];refine vn (TR (k:=.i64) (a:=(p.length:Int)) (b:=(n:Int)-(m:Int)+1)) rfl ?_;rw [show min (p.length:Int) ((n:Int)-(m:Int)+1)=(t:Int) by omega];dsimp only [aA,aB];refine vn (yB jF (m:=t) (by omega) (by omega) (by omega)) rfl ?_;dsimp only [aA,aB];refine vn (aQ jF (show (rQ (p.take t)).length=t by rw [List.length_map,htl])) rfl ?_;dsimp only [aA,aB];refine bF {k:Nat // k≤t} (fun g=>(.one (.int .i64 g.1):aG)::(qC (inner p a m n i (outer q a m n i) g.1)).map .one) (fun g=>t-g.1) ⟨0,Nat.zero_le _⟩ aO.rfl (fun _=>rfl) ?_;rintro ⟨k,hk⟩;dsimp only [aA,aB,List.map] at hk ⊢;refine vn bE rfl ?_;dsimp only [aA,aB];refine vs _ rfl (fun h21=>?_) (fun h21=>?_)
  ·have hkt:k<t:=by omega
   have hget:(p.take t)[k]? = some (p.getD k 0):=by rw [List.getElem?_take,if_pos hkt];exact cI (by omega)
   refine vn (aY jF (by omega) (by omega) hget) rfl ?_;dsimp only [aA,aB];refine vn (bZ rZ (by decide) (by simp) (.inl rfl)) rfl ?_;dsimp only [aA,aB];refine vn (aE (by omega) (by omega)) rfl ?_;dsimp only [aA,aB];refine vn (aJ (by omega) (by omega)) rfl ?_;dsimp only [aA,aB];refine vn eF rfl ?_;dsimp only [aA,aB];refine vs _ rfl (fun h27=>?_) (fun h27=>?_)
   ·have hj:i<m+k:=by omega
    have hz1:((n:Int)-((m:Int)+k-i)).natAbs≤N:=by omega
    have hz3:(n:Int)-((m:Int)+k-i)<n:=by omega
    obtain ⟨d,hd⟩:∃ d:Nat,n-(m+k-i)=d:=⟨_,rfl⟩
    have hdi:(n:Int)-((m:Int)+k-i)=(d:Int):=by omega
    have hdn:d<n:=by omega
    have hcf:∀ j≤i,Fit B ((bL ((n:Int)-((m:Int)+k-i)) j:Int):Rat):=fun j hj=>C.ffall n i hn (by omega) _ hz1 j hj;have hc:=hfp (p.getD k 0) (List.mem_of_getElem? (cI (l:=p) (by omega)));refine vn (aJ (by omega) (by omega)) rfl ?_;dsimp only [aA,aB];refine aC (lQ _ i B (by omega) (by omega) (by omega) (by omega) h64 hcf) rfl ?_;dsimp only [aA,aB];refine aC (cP _ _ B B hc (hcf i (Nat.le_refl _)) (by omega)) rfl ?_;dsimp only [aA,aB];refine vn (aJ (by omega) (by omega)) rfl ?_;dsimp only [aA,aB];refine cV rfl rfl (by omega) (by omega) ?_;refine Uw (d:=a.getD d 0) rfl rfl (by omega) (show ((n:Int)-((m:Int)+k-i)).toNat=d by omega) (cI (l:=a) (by omega)) (.inl rfl) rfl ?_;dsimp only [aA,aB,Qa,List.drop,List.take];refine aC (cP _ _ (B+B) B (hc.mul (hcf i (Nat.le_refl _))) (mD (by omega) hfa d) (by omega)) rfl ?_;dsimp only [aA,aB];refine aC (Sz _ _ B (B+B+B) (hfx k (by omega)) ((hc.mul (hcf i (Nat.le_refl _))).mul (mD (by omega) hfa d)) (by omega)) rfl ?_;dsimp only [aA,aB];refine vn (aE (by omega) (by omega)) rfl ?_;dsimp only [aA,aB]
    exact aU rfl ⟨⟨k+1,by omega⟩,(by
     dsimp only;rw [inner,if_pos hj,hd];exact aO.rfl),by show t-(k+1)<t-k;omega⟩
   refine vn (aE (by omega) (by omega)) rfl ?_;dsimp only [aA,aB]
   exact aU rfl ⟨⟨k+1,by omega⟩,(by
    dsimp only;rw [inner,if_neg (by omega)];exact aO.rfl),by show t-(k+1)<t-k;omega⟩
  refine vn (aE (by omega) (by omega)) rfl ?_;dsimp only [aA,aB]
  exact aU rfl ⟨⟨i+1,by omega⟩,(by
   dsimp only;rw [outer,hgd,ht,show t=k by omega];exact aO.rfl),by show q.length-(i+1)<q.length-i;omega⟩
 have hiq:q.length=i:=by omega
 have hfx':Fit B (outer q a m n i):=by
  have:=hfx m (min (q.getD m []).length (n-m+1)) hn hmn (by omega) (Nat.le_refl _);rw [show i=m+1 by omega];exact this
 have hfm:=fun j hj=>C.ffall n m hn (Nat.le_refl _) n (by omega) j hj;refine aC (lQ (n:Int) m B (by omega) (by omega) (by omega) (by omega) h64 hfm) rfl ?_;dsimp only [aA,aB];refine aC (cP lead _ B B C.flead (hfm m (Nat.le_refl _)) (by omega)) rfl ?_;dsimp only [aA,aB]
 refine aC (rH _ _ B (B+B) (fun h=>by
  rcases Rat.mul_eq_zero.1 h with h | h
  ·exact hl0 h
  ·exact zne (qV (z:=(n:Int)) (i:=m) (by omega)) h) hfx' (C.flead.mul (hfm m (Nat.le_refl _))) (by omega)) rfl ?_
 dsimp only [aA,aB];show Out.ret _=Out.ret _;rw [kA,if_neg (by omega),hiq];rfl
open Go Go.Proofs Go.RowKit Go.Shelf Tryz Ord
attribute [local go_sem] Oper.semAt_some
def ab9:Tr:=.ret [(.one (.fX 247 [(.ref 0 [(.u 0 0),(.u 0 1),(.u 0 2),(.u 0 3),(.u 0 4)]),(.ref 0 [(.u 1 0)])]))]
theorem BA:aN prog f182 (fun _=>none) [.v (some 5), .v none]=ab9:=by kernel_rfl
theorem Bn (q:List (List Rat)) (m:Nat) (lead:Rat) (y:List Rat):aK prog 182 [(xY q m lead:aG),(.one (sQ y):aG)] (.ret [.one (.fX 247 [.bC ([eQ q, .int .i64 m]++qC lead), .bC [sQ y]])]):=by
 refine aD (args:=[.v (some 5), .v none]) (ins:=[.v (xY q m lead), .v (.one (sQ y))]) (hints:=(fun _=>none)) fo (by kernel_rfl) func182 ⟨rfl,rfl,trivial⟩ ?_;rw [BA];dsimp only [List.map,In.env,aA,aB];exact aL rfl
theorem YZ (M:Nat→Prop) (w:World) (hM:dK M w) (q:List (List Rat)) (m:Nat) (lead:Rat) (y:List Rat) (c0 c1 c2 c3 c4 yv:Value) (hs:aW M w ([eQ q, .int .i64 m]++qC lead) [c0,c1,c2,c3,c4]) (hy:(sQ y).rep M w yv) :
  Calls prog 182 #[.agg #[c0,c1,c2,c3,c4],yv] w fun e w'=>Below w.heap.size w w'∧∃ sp yp,e = .returned (.func (.func 247) #[] #[sp,yp])∧(aI.bC ([eQ q, .int .i64 m]++qC lead)).rep M w' sp∧(aI.bC [sQ y]).rep M w' yp:=by
 refine ((Bn q m lead y).2 M w [.agg #[c0,c1,c2,c3,c4],yv] hM ⟨⟨_,rfl,hs⟩,hy,trivial⟩).mono ?_;rintro e w' ⟨hb,vs,rfl,hvs⟩
 match vs,hvs with
 | [v],hvs=>
   obtain ⟨us,e1,hus⟩:=hvs.1;subst e1
   match us,hus with
   | [sp,yp],hus=>exact ⟨hb,sp,yp,rfl,hus.1,hus.2.1⟩
   | [],hus=>exact hus.elim
   | [_],hus=>exact hus.2.elim
   | _::_::_::_,hus=>exact hus.2.2.elim
 | [],hvs=>exact hvs.elim
 | _::_::_,hvs=>exact hvs.2.elim
theorem LJ {cells:List aI} {M:Nat→Prop} {w:World} {v x:Value} {j:Nat} (h:(aI.bC cells).rep M w v) (hj:cells[j]? = some (.exact x)):∃ b off,v = .pointer (some ⟨b,off,none⟩)∧w.cell? ⟨b,off+j,none⟩=some x:=by
 obtain ⟨b,off,cs,T,fz,rfl,hb,hh,hr⟩:=h;refine ⟨b,off,rfl,?_⟩;obtain ⟨u,hu,hx⟩:=hr.get j _ hj;have hux:u=x:=hx.1;subst hux;rw [List.getElem?_take] at hu;split at hu
 ·rw [List.getElem?_drop] at hu;exact aH hh (by simpa using hu)
 ·cases hu
noncomputable def NA:Code:=match f247.body with | some c=>c | none=>.skip
theorem aV3:f247.body=some NA:=rfl
theorem sL (t:Array Value) (n:Nat) (h:t.size=n):t=(List.ofFn fun i:Fin n=>t.getD i.1 Go.undef).toArray:=by
 apply Array.ext
 ·simp [h]
 ·intro i h1 h2;simp [Array.getD,h1]
theorem WZ (t:Array Value) (h:t.size=92):t = #[t.getD 0 Go.undef,t.getD 1 Go.undef,t.getD 2 Go.undef,t.getD 3 Go.undef,t.getD 4 Go.undef,t.getD 5 Go.undef,t.getD 6 Go.undef,t.getD 7 Go.undef,t.getD 8 Go.undef,t.getD 9 Go.undef,t.getD 10 Go.undef,t.getD 11 Go.undef,t.getD 12 Go.undef,t.getD 13 Go.undef,t.getD 14 Go.undef,t.getD 15 Go.undef,t.getD 16 Go.undef,t.getD 17 Go.undef,t.getD 18 Go.undef,t.getD 19 Go.undef,t.getD 20 Go.undef,t.getD 21 Go.undef,t.getD 22 Go.undef,t.getD 23 Go.undef,t.getD 24 Go.undef,t.getD 25 Go.undef,t.getD 26 Go.undef,t.getD 27 Go.undef,t.getD 28 Go.undef,t.getD 29 Go.undef,t.getD 30 Go.undef,t.getD 31 Go.undef,t.getD 32 Go.undef,t.getD 33 Go.undef,t.getD 34 Go.undef,t.getD 35 Go.undef,t.getD 36 Go.undef,t.getD 37 Go.undef,t.getD 38 Go.undef,t.getD 39 Go.undef,t.getD 40 Go.undef,t.getD 41 Go.undef,t.getD 42 Go.undef,t.getD 43 Go.undef,t.getD 44 Go.undef,t.getD 45 Go.undef,t.getD 46 Go.undef,t.getD 47 Go.undef,t.getD 48 Go.undef,t.getD 49 Go.undef,t.getD 50 Go.undef,t.getD 51 Go.undef,t.getD 52 Go.undef,t.getD 53 Go.undef,t.getD 54 Go.undef,t.getD 55 Go.undef,t.getD 56 Go.undef,t.getD 57 Go.undef,t.getD 58 Go.undef,t.getD 59 Go.undef,t.getD 60 Go.undef,t.getD 61 Go.undef,t.getD 62 Go.undef,t.getD 63 Go.undef,t.getD 64 Go.undef,t.getD 65 Go.undef,t.getD 66 Go.undef,t.getD 67 Go.undef,t.getD 68 Go.undef,t.getD 69 Go.undef,t.getD 70 Go.undef,t.getD 71 Go.undef,t.getD 72 Go.undef,t.getD 73 Go.undef,t.getD 74 Go.undef,t.getD 75 Go.undef,t.getD 76 Go.undef,t.getD 77 Go.undef,t.getD 78 Go.undef,t.getD 79 Go.undef,t.getD 80 Go.undef,t.getD 81 Go.undef,t.getD 82 Go.undef,t.getD 83 Go.undef,t.getD 84 Go.undef,t.getD 85 Go.undef,t.getD 86 Go.undef,t.getD 87 Go.undef,t.getD 88 Go.undef,t.getD 89 Go.undef,t.getD 90 Go.undef,t.getD 91 Go.undef]:=(sL t 92 h).trans rfl
theorem getD_set_ne {t:Array Value} {i j:Nat} {v:Value} (h:i≠j):(t.setIfInBounds i v).getD j Go.undef=t.getD j Go.undef:=by
 rw [Array.getD_eq_getD_getElem?,Array.getD_eq_getD_getElem?,Array.getElem?_setIfInBounds_ne h]
theorem AH {t:Array Value} {i:Nat} {v:Value} (h:i<t.size):(t.setIfInBounds i v).getD i Go.undef=v:=by
 rw [Array.getD_eq_getD_getElem?,Array.getElem?_setIfInBounds_self_of_lt h];rfl
theorem Yx {P:Program} {c c':Code} {Q:Exit→Act→World→Prop} {a:Act} {w:World} (e:c=c') (h:c.wp P Q a w):c'.wp P Q a w:=e▸h
theorem Po {F:Fence} {n id:Nat} {Q:Exit→Act→World→Prop} {t:Array Value} {W:World} {pos:String}
  (h:Q .normal ⟨t.setIfInBounds 7 (.pointer (some ⟨W.heap.size,0,none⟩)),[]⟩ (W.alloc (.cells #[.slice none 0 0, .bool false, .slice none 0 0] 39))) :
  (Code.region id #[{ dst:=some 7,op:=.alloc 39,type:=0,pos:=pos,after:=#[],guard:=none }] false).wpIn F n prog Q ⟨t,[]⟩ W:=by
 obtain ⟨ie,zv,hi,hz,hzc,_,_⟩:=fV (show rX prog 39=some [.slice none 0 0, .bool false, .slice none 0 0] by kernel_rfl);refine wpIn_region_list ?_;refine wpListIn_plain rfl fun K hK=>?_;unfold Oper.wpIn;refine ⟨by simp [Oper.about],?_⟩;rw [Oper.semAt_plain F _ _ (by intro c hc;cases hc)]
 have hr:(execOp ({ tmps:=t,defers:=[] }:Act).eval { dst:=some 7,op:=.alloc 39,type:=0,pos:=pos,after:=#[],guard:=none }).run prog W = .ok (.value (.pointer (some ⟨W.heap.size,0,none⟩))) (W.alloc (.cells #[.slice none 0 0, .bool false, .slice none 0 0] 39)):=by
  simp [execOp,Instr.alloc,zeroValue,typeInfo,hi,hz,newVar,newRow,hzc]
 rw [hr];exact hK _ _ h
section
variable {F:Fence} {nF:Nat}
theorem ap3 {ops:Array Oper} {rest:List Oper} {o:Oper} {a:Act} {Q:Exit→Act→World→Prop} {w:World} (hgd:o.guard=none) (s x:Operand)
  (ho:o.op = .call { callee:=.builtin .append,args:=#[s,x],argTypes:=#[40,40] }) (base:Nat) (v:Value) (k:Nat) (xs:List Value) (hs:a.eval s=v) (hown:w.ownsRow base 39 3 v k xs) (b c:Nat) (u0 u1 u2:Value) {fz:Nat×Nat}
  (hb:w.heap[b]? = some (.cells #[u0,u1,u2] 39 fz)) (hx:a.eval x = .slice (some ⟨b,0,none⟩) 1 c) (h1:∀ u ∈ [u0,u1,u2],u.oneCell'=true) (hk:k<1099511627776) (hbase:base≤w.heap.size)
  (h:∀ v' w',w'.ownsRow base 39 3 v' (k+1) (xs ++ [u0,u1,u2])→w.grownBy w' v.ownBlock→(v'.ownBlock=v.ownBlock∨v'.ownBlock=some w.heap.size)→wpListIn F nF prog ops Q rest (a.put o.dst v') w') :
  wpListIn F nF prog ops Q (o::rest) a w:=by
 obtain ⟨ie,hu,hie,hies,hieb⟩:=cM zZ;obtain ⟨ie',zv,hi,hz,hzc,_,hzs⟩:=fV (show rX prog 39=some [.slice none 0 0, .bool false, .slice none 0 0] by kernel_rfl);rw [hie] at hi;simp only [Option.some.injEq] at hi;subst hi;refine wpListIn_append_own_at w hgd s x 40 ho base 39 ie zv 3 56 hu hie hz hies hieb (by rw [hzs,hies]) (by decide) v k xs hs hown ⟨b,0,none⟩ 1 c [u0,u1,u2] hx rfl ?_ h1 (by simp only [maxLen];omega) (by omega) hbase (fun v' w' h2 h3 _ h5=>h v' w' h2 h3 h5);intro j u hj
 match j,hj with
 | 0,hj=>simp at hj;subst hj;exact aH hb rfl
 | 1,hj=>simp at hj;subst hj;exact aH hb rfl
 | 2,hj=>simp at hj;subst hj;exact aH hb rfl
end
theorem Pt (t:Array Value) (h:t.size=25):t = #[t.getD 0 Go.undef,t.getD 1 Go.undef,t.getD 2 Go.undef,t.getD 3 Go.undef,t.getD 4 Go.undef,t.getD 5 Go.undef,t.getD 6 Go.undef,t.getD 7 Go.undef,t.getD 8 Go.undef,t.getD 9 Go.undef,t.getD 10 Go.undef,t.getD 11 Go.undef,t.getD 12 Go.undef,t.getD 13 Go.undef,t.getD 14 Go.undef,t.getD 15 Go.undef,t.getD 16 Go.undef,t.getD 17 Go.undef,t.getD 18 Go.undef,t.getD 19 Go.undef,t.getD 20 Go.undef,t.getD 21 Go.undef,t.getD 22 Go.undef,t.getD 23 Go.undef,t.getD 24 Go.undef]:=(sL t 25 h).trans rfl
abbrev Ee (M:Nat→Prop) (n0:Nat) (va vo:Value) (b:Nat):Prop:=(M b∨vo.ownBlock=some b∨b=n0+2)∨va.ownBlock=some b
structure CW (M:Nat→Prop) (w:World) (n0 D l:Nat) (lo:Obj) (q:List (List Rat)) (m:Nat) (lead:Rat) (y:List Rat) (n ka ko:Nat) (va vo sp yp:Value) (W:World):Prop where
 wb:Below n0 w W
 big:n0+3≤D∧D<l∧l<W.heap.size
 hD:W.heap[D]? = some (.deferred (some []))
 hl:W.heap[l]? = some lo
 hN:W.heap[n0+1]? = some (.cells #[.int .i64 (n:Int)] 3 (0,0))
 hO:W.heap[n0+2]? = some (.cells #[vo] 40 (0,0))
 ra:∃ xs,W.ownsRow (n0+3) 39 3 va ka xs∧aW (Ee M n0 va vo) W (rQ (aR q m lead y ka)).flatten xs
 ro:∃ xs,W.ownsRow (n0+3) 39 3 vo ko xs∧aW (Ee M n0 va vo) W (rQ (aR q m lead y ko)).flatten xs
 dis:∀ g,va.ownBlock=some g→vo.ownBlock≠some g
 p1:(aI.bC ([eQ q, .int .i64 m]++qC lead)).rep (Ee M n0 va vo) W sp
 p2:(aI.bC [sQ y]).rep (Ee M n0 va vo) W yp
noncomputable def eX:Code×Code:=match f101.body with
 | some (.seq _ (.seq _ (.seq _ (.seq (.seq _ (.block _ (.rangeFunc _ _ a b))) _))))=>(a,b)
 | _=>(.skip, .skip)
theorem sJ {W W':World} {base E sz n:Nat} {v:Value} {xs:List Value} (h:W.ownsRow base E sz v n xs) (k:∀ g,v.ownBlock=some g→W'.heap[g]? = W.heap[g]?):W'.ownsRow base E sz v n xs:=by
 refine ⟨h.1,?_⟩;rcases h.2 with h | ⟨g,cap,cur,rfl,hb,hg,rest⟩
 ·exact .inl h
 ·exact .inr ⟨g,cap,cur,rfl,hb,(k g rfl).trans hg,rest⟩
theorem Ka {M:Nat→Prop} {w:World} {n0 D l:Nat} {rb rr:Loop} {lo:Obj} {q:List (List Rat)} {m:Nat} {lead:Rat} {y:List Rat} {n k:Nat} {va vo sp yp u0 u1 u2 v4:Value} {W W3 W4:World} {xo:List Value} (hw:w.heap.size=n0) (hMw:∀ b,M b→b<n0)
  (I:CW M w n0 D l (.loop rr) q m lead y n (k+1) k va vo sp yp W) (hu:aW (Ee M n0 va vo) W (qC (kA q m lead y k (aR q m lead y k))) [u0,u1,u2])
  (hro:W.ownsRow (n0+3) 39 3 vo k xo) (hrro:aW (Ee M n0 va vo) W (rQ (aR q m lead y k)).flatten xo)
  (hcells:∀ {j:Nat} {cs:Array Value} {T:TypeId} {fz:Nat×Nat},W.heap[j]? = some (.cells cs T fz)→W3.heap[j]? = some (.cells cs T fz)) (hl3:W3.heap[l]? = some (.loop rb)) (hs3:W3.heap.size=W.heap.size+1) (hos:W3.os=W.os∧W3.tape=W.tape∧W3.output=W.output)
  (hold:∀ j,j<W.heap.size→j≠l→W3.heap[j]? = W.heap[j]?)
  (hv4:W4.ownsRow (n0+3) 39 3 v4 (k+1) (xo ++ [u0,u1,u2])) (hg4:(W3.alloc (.cells #[u0,u1,u2] 39)).grownBy W4 vo.ownBlock) (hat4:v4.ownBlock=vo.ownBlock∨v4.ownBlock=some (W3.alloc (.cells #[u0,u1,u2] 39)).heap.size) (hO4:W4.heap[n0+2]? = some (.cells #[vo] 40 (0,0))) :
  (W4.setCell ⟨n0+2,0,none⟩ v4).heap[l]? = some (.loop rb)∧CW M w n0 D l lo q m lead y n (k+1) (k+1) va v4 sp yp ((W4.setCell ⟨n0+2,0,none⟩ v4).putObj l lo):=by
 have hbig:=I.big;have hvob:∀ g,vo.ownBlock=some g→n0+3≤g∧g<W.heap.size:=fun g hg=>hro.lt g hg
 have hvoc:∀ g,vo.ownBlock=some g→∃ cs T fz,W.heap[g]? = some (.cells cs T fz):=fun g hg=>by
  rcases hro.2 with ⟨e,_⟩ | ⟨g',cap,cur,e,_,hh,_⟩
  ·rw [e] at hg;cases hg
  ·rw [e] at hg;simp only [Value.ownBlock,Option.some.injEq] at hg;subst hg;exact ⟨_,_,_,hh⟩
 have hvol:vo.ownBlock≠some l:=fun e=>by
  obtain ⟨cs,T,fz,h⟩:=hvoc l e;rw [I.hl] at h;cases h
 have h4:∀ j,j<W.heap.size+1→vo.ownBlock≠some j→W4.heap[j]? = W3.heap[j]?:=fun j hj hne=>by
  rw [hg4.block j (by rw [World.size_alloc];omega) (fun e=>hne e.symm),heap_alloc_old _ _ _ (by omega)]
 have hl4:W4.heap[l]? = some (.loop rb):=(h4 l (by omega) hvol).trans hl3;rw [setCell_eq_setRow W4 (n0+2) 0 #[vo] 40 (0,0) v4 hO4];obtain ⟨W5,hW5⟩:∃ W5,W4.setRow (n0+2) (#[vo].setIfInBounds 0 v4)=W5:=⟨_,rfl⟩
 have hO5:W5.heap[n0+2]? = some (.cells #[v4] 40 (0,0)):=by rw [←hW5];exact setRow_heap _ _ _ _ _ _ hO4
 have h5:∀ j,j≠n0+2→W5.heap[j]? = W4.heap[j]?:=fun j hj=>by rw [←hW5,setRow_other _ _ _ _ hj]
 have hs5:W5.heap.size=W4.heap.size:=by rw [←hW5];simp [World.setRow]
 have ho5:W5.os=W4.os∧W5.tape=W4.tape∧W5.output=W4.output:=by rw [←hW5];exact ⟨rfl,rfl,rfl⟩
 rw [hW5];have hl5:W5.heap[l]? = some (.loop rb):=(h5 l (by omega)).trans hl4;refine ⟨hl5,?_⟩;have hs4:W.heap.size+2≤W4.heap.size:=by have:=hg4.size;rw [World.size_alloc] at this;omega
 obtain ⟨W6,hW6⟩:∃ W6,W5.putObj l lo=W6:=⟨_,rfl⟩
 have hl6:W6.heap[l]? = some lo:=by rw [←hW6];exact World.putObj_heap_same (by omega)
 have h6:∀ j,j≠l→W6.heap[j]? = W5.heap[j]?:=fun j hj=>by rw [←hW6];exact World.putObj_heap_other hj
 have hs6:W6.heap.size=W4.heap.size:=by rw [←hW6,←hs5];simp [World.putObj]
 have ho6:W6.os=W5.os∧W6.tape=W5.tape∧W6.output=W5.output:=by rw [←hW6];exact ⟨rfl,rfl,rfl⟩
 rw [hW6]
 have hall:∀ j,j<W.heap.size→j≠l→j≠n0+2→vo.ownBlock≠some j→W6.heap[j]? = W.heap[j]?:=fun j hj h1 h2 h3=>by
  rw [h6 j h1,h5 j h2,h4 j (by omega) h3,hold j hj h1]
 have hb6:Below n0 W W6:=⟨by rw [ho6.1,ho5.1,hg4.os];exact hos.1,by rw [ho6.2.1,ho5.2.1,hg4.tape];exact hos.2.1,by rw [ho6.2.2,ho5.2.2,hg4.output];exact hos.2.2,by omega,fun j hj=>hall j (by omega) (by omega) (by omega) (fun e=>by have:=hvob j e;omega)⟩
 have hlc:∀ {j:Nat} {o:Obj},W.heap[j]? = some o→o.isCells=true→j≠l:=fun h hc e=>by subst e;rw [I.hl] at h;cases h;cases hc
 have hkeep:bX (Ee M n0 va vo) W (Ee M n0 va v4) W6:=fun b o hb ho hc=>by
  have hlt:=(Array.getElem?_eq_some_iff.1 ho).1;refine ⟨?_,(hall b hlt (hlc ho hc) (fun e=>hb (.inl (.inr (.inr e)))) (fun e=>hb (.inl (.inr (.inl e))))).trans ho⟩;rintro ((h | h | h) | h)
  ·exact hb (.inl (.inl h))
  ·rcases hat4 with e | e
   ·rw [e] at h;exact hb (.inl (.inr (.inl h)))
   ·rw [e] at h;simp only [World.size_alloc,Option.some.injEq] at h;omega
  ·exact hb (.inl (.inr (.inr h)))
  ·exact hb (.inr h)
 obtain ⟨xa,hra,hrra⟩:=I.ra;have hvab:∀ g,va.ownBlock=some g→n0+3≤g∧g<W.heap.size:=fun g hg=>hra.lt g hg
 have hvac:∀ g,va.ownBlock=some g→g≠l:=fun g hg=>by
  rcases hra.2 with ⟨e,_⟩ | ⟨g',cap,cur,e,_,hh,_⟩
  ·rw [e] at hg;cases hg
  ·rw [e] at hg;simp only [Value.ownBlock,Option.some.injEq] at hg;subst hg;exact hlc hh rfl
 have hDl:vo.ownBlock≠some D:=fun e=>by
  obtain ⟨cs,T,fz,h⟩:=hvoc D e;rw [I.hD] at h;cases h
 refine ⟨I.wb.trans hb6,⟨hbig.1,hbig.2.1,by omega⟩,(hall D (by omega) (by omega) (by omega) hDl).trans I.hD,hl6,(hall (n0+1) (by omega) (by omega) (by omega) (fun e=>by have:=hvob _ e;omega)).trans I.hN,(h6 _ (by omega)).trans hO5,⟨xa,?_,hrra.mono hkeep⟩,⟨xo ++ [u0,u1,u2],?_,?_⟩,?_,aI.mono _ hkeep I.p1,aI.mono _ hkeep I.p2⟩
 ·refine sJ hra fun g hg=>hall g (hvab g hg).2 (hvac g hg) (by have:=hvab g hg;omega) (I.dis g hg)
 ·refine sJ hv4 fun g hg=>?_;have hgb:=hv4.lt g hg
  have hgl:g≠l:=by
   rcases hv4.2 with ⟨e,_⟩ | ⟨g',cap,cur,e,_,hh,_⟩
   ·rw [e] at hg;cases hg
   ·rw [e] at hg;simp only [Value.ownBlock,Option.some.injEq] at hg;subst hg;rintro rfl;rw [hl4] at hh;cases hh
  rw [h6 g hgl,h5 g (by omega)]
 ·have e:(rQ (aR q m lead y (k+1))).flatten=(rQ (aR q m lead y k)).flatten++qC (kA q m lead y k (aR q m lead y k)):=by
   rw [aR,rQ,List.map_append,List.flatten_append];simp
  rw [e];exact (hrro.mono hkeep).append (hu.mono hkeep)
 ·intro g hg;rcases hat4 with e | e
  ·rw [e];exact I.dis g hg
  ·rw [e];intro h;simp only [World.size_alloc,Option.some.injEq] at h;have:=hvab g hg;omega
set_option maxRecDepth 100000 in
set_option maxHeartbeats 1000000 in
theorem Md (M:Nat→Prop) (w:World) (n0 D l fn:Nat) (tm:Array Value) (htm:tm.size=25) (t5:tm.getD 5 Go.undef = .pointer (some ⟨n0+1,0,none⟩)) (t7:tm.getD 7 Go.undef = .pointer (some ⟨n0+2,0,none⟩))
  (q:List (List Rat)) (m:Nat) (lead:Rat) (y:List Rat) (n k:Nat) (hkn:k<n) (hn:n<1099511627776) (va vo sp yp u0 u1 u2:Value) (W:World) (hw:w.heap.size=n0) (hMw:∀ b,M b→b<n0)
  (I:CW M w n0 D l (.loop (pM fn tm #[15] eX.1 eX.2 D .ready none)) q m lead y n (k+1) k va vo sp yp W)
  (hu:aW (Ee M n0 va vo) W (qC (kA q m lead y k (aR q m lead y k))) [u0,u1,u2]) (mm:Nat) :
  YieldAt Fence.wide mm prog l #[.agg #[u0,u1,u2]] W fun e W'=>∃ (b:Bool) (_c:Option Code),e = .returned (.bool b) ∧
   ((b=true∧k+1<n∧∃ vo',CW M w n0 D l (.loop (pM fn tm #[15] eX.1 eX.2 D .ready none)) q m lead y n (k+1) (k+1) va vo' sp yp W') ∨
    (b=false∧k+1=n∧∃ vo',CW M w n0 D l (.loop (pM fn tm #[15] eX.1 eX.2 D .done (some (.exit 0)))) q m lead y n (k+1) (k+1) va vo' sp yp W')):=by
 obtain ⟨ca,cb,hcab⟩:∃ ca cb,eX=(ca,cb):=⟨_,_,rfl⟩
 refine Sd (F:=Fence.wide) (R:=fun b c W'=>((b=true∧k+1<n∧∃ vo',CW M w n0 D l (.loop (pM fn tm #[15] eX.1 eX.2 D .ready none)) q m lead y n (k+1) (k+1) va vo' sp yp W') ∨
    (b=false∧k+1=n∧∃ vo',CW M w n0 D l (.loop (pM fn tm #[15] eX.1 eX.2 D .done (some (.exit 0)))) q m lead y n (k+1) (k+1) va vo' sp yp W'))) I.hl rfl trivial ?_
 rw [show (#[15].zip #[Value.agg #[u0,u1,u2]]).foldl (fun t (p,v)=>t.setIfInBounds p v) tm=tm.setIfInBounds 15 (.agg #[u0,u1,u2]) by simp];rw [Pt (tm.setIfInBounds 15 (.agg #[u0,u1,u2])) (by simp [htm])];rw [AH (show 15<tm.size by omega),getD_set_ne (t:=tm) (i:=15) (j:=5) (by omega),getD_set_ne (t:=tm) (i:=15) (j:=7) (by omega),t5,t7];have hone:=hu.one;obtain ⟨o0,o1,o2⟩:u0.oneCell'=true∧u1.oneCell'=true∧u2.oneCell'=true:=⟨hone _ (by simp),hone _ (by simp),hone _ (by simp)⟩
 dsimp only [eX,f101]
 gi_wp2
 have hbig:=I.big;have hnew:=heap_alloc_new W (.cells #[.slice none 0 0, .bool false, .slice none 0 0] 39);rw [vS hnew o0 o1 o2];obtain ⟨W2,hW2⟩:∃ W2,(W.alloc (.cells #[.slice none 0 0, .bool false, .slice none 0 0] 39)).setRow W.heap.size #[u0,u1,u2]=W2:=⟨_,rfl⟩
 have hold:∀ j,j<W.heap.size→W2.heap[j]? = W.heap[j]?:=fun j hj=>by rw [←hW2,setRow_other _ _ _ _ (by omega),heap_alloc_old _ _ _ hj]
 have hself:W2.heap[W.heap.size]? = some (.cells #[u0,u1,u2] 39 (0,0)):=by rw [←hW2];exact setRow_heap _ _ _ _ _ _ hnew
 have hbel:Below W.heap.size W W2:=by rw [←hW2];exact below_setRow ((Below.refl _ W).alloc (Nat.le_refl _) _) (Nat.le_refl _) _
 have hs2:W2.heap.size=W.heap.size+1:=by rw [←hW2];simp [World.setRow]
 rw [hW2]
 gi_wp2
 refine ⟨(hold l hbig.2.2).trans I.hl,?_⟩;generalize hW3:W2.putObj l _=W3;have hl2:l<W2.heap.size:=by omega
 have hl3:W3.heap[l]? = some (.loop (pM fn tm #[15] eX.1 eX.2 D .busy none)):=by rw [←hW3];exact World.putObj_heap_same hl2
 have hput:∀ j,j≠l→W3.heap[j]? = W2.heap[j]?:=fun j hj=>by rw [←hW3];exact World.putObj_heap_other hj
 have hs3:W3.heap.size=W.heap.size+1:=by rw [←hW3,←hs2];simp [World.putObj]
 have hos3:W3.os=W2.os∧W3.tape=W2.tape∧W3.output=W2.output:=by rw [←hW3];exact ⟨rfl,rfl,rfl⟩
 clear hW3
 have hcells:∀ {j:Nat} {cs:Array Value} {T:TypeId} {fz:Nat×Nat},W.heap[j]? = some (.cells cs T fz)→W3.heap[j]? = some (.cells cs T fz):=fun {j} {cs} {T} {fz} h=>by
  have hlt:=(Array.getElem?_eq_some_iff.1 h).1;have hne:j≠l:=by rintro rfl;rw [I.hl] at h;cases h
  exact (hput j hne).trans ((hold j hlt).trans h)
 have hx3:W3.heap[W.heap.size]? = some (.cells #[u0,u1,u2] 39 (0,0)):=(hput _ (by omega)).trans hself;have hO3:=hcells I.hO;have hN3:=hcells I.hN;have cO:W3.cell? ⟨n0+2,0,none⟩=some vo:=aH hO3 rfl;have cx0:W3.cell? ⟨W.heap.size,0,none⟩=some u0:=aH hx3 rfl;have cx1:W3.cell? ⟨W.heap.size,1,none⟩=some u1:=aH hx3 rfl;have cx2:W3.cell? ⟨W.heap.size,2,none⟩=some u2:=aH hx3 rfl;obtain ⟨xo,hro,hrro⟩:=I.ro
 have hro3:W3.ownsRow (n0+3) 39 3 vo k xo:=sJ hro fun g hg=>by
  rcases hro.2 with ⟨e,_⟩ | ⟨g',cap,cur,e,_,hh,_⟩
  ·rw [e] at hg;cases hg
  ·rw [e] at hg;simp only [Value.ownBlock,Option.some.injEq] at hg;subst hg;rw [hcells hh,hh]
 have hvob:∀ g,vo.ownBlock=some g→n0+3≤g∧g<W.heap.size:=fun g hg=>hro.lt g hg;have hvo1:vo.oneCell'=true:=by rcases hro.2 with ⟨e,_⟩ | ⟨g,cap,cur,e,_⟩<;>rw [e]<;>rfl
 have hkk:k<1099511627776:=by omega
 have hbase:n0+3≤(W3.alloc (.cells #[u0,u1,u2] 39)).heap.size:=by rw [World.size_alloc];omega
 have hfacts:∀ (v':Value) (W4:World),(W3.alloc (.cells #[u0,u1,u2] 39)).grownBy W4 vo.ownBlock→W4.ownsRow (n0+3) 39 3 v' (k+1) (xo ++ [u0,u1,u2])→W4.heap[n0+2]? = some (.cells #[vo] 40 (0,0))∧W4.heap[n0+1]? = some (.cells #[.int .i64 (n:Int)] 3 (0,0))∧∃ g cap,v' = .slice (some ⟨g,0,none⟩) (k+1) cap:=fun v' W4 hg hv=>by
  have hne:∀ j,j<n0+3→some j≠vo.ownBlock:=fun j hj e=>by have:=hvob j e.symm;omega
  refine ⟨(hg.block _ (by rw [World.size_alloc];omega) (hne _ (by omega))).trans ((heap_alloc_old _ _ _ (by omega)).trans hO3),(hg.block _ (by rw [World.size_alloc];omega) (hne _ (by omega))).trans ((heap_alloc_old _ _ _ (by omega)).trans hN3),ownsRow_succ hv⟩
 have hnb:(W3.alloc (.cells #[u0,u1,u2] 39)).heap[W.heap.size+1]? = some (.cells #[u0,u1,u2] 39 (0,0)):=by rw [←hs3];exact heap_alloc_new W3 _
 by_cases hlast:((k:Int)+1=(n:Int))
 all_goals gi_wp2_with (gi_at_builtin;refine ap3 rfl _ _ rfl (n0+3) vo k xo rfl (hro3.alloc _) (W.heap.size+1) 1 u0 u1 u2 hnb rfl hone hkk hbase ?_;intro v' W4 hv4 hg4 hat4;obtain ⟨hO4,hN4,g4,cap4,rfl⟩:=hfacts v' W4 hg4 hv4;have cO4:W4.cell? ⟨n0+2,0,none⟩=some vo:=aH hO4 rfl;have cN4:W4.cell? ⟨n0+1,0,none⟩=some (.int .i64 (n:Int)):=aH hN4 rfl;have fO4:W4.frozen? ⟨n0+2,0,none⟩=false:=by simp [World.frozen?,hO4])
 all_goals
  generalize hv4e:Value.slice (some ⟨g4,0,none⟩) (k+1) cap4=v4 at *;have h6:=fun lo=>Ka (lo:=lo) hw hMw I hu hro hrro hcells hl3 hs3 ⟨hos3.1.trans hbel.os,hos3.2.1.trans hbel.tape,hos3.2.2.trans hbel.output⟩ (fun j hj hjl=>(hput j hjl).trans (hold j hj)) hv4 hg4 hat4 hO4;have hl5:(W4.setCell ⟨n0+2,0,none⟩ v4).heap[l]? = some (.loop (pM fn tm #[15] eX.1 eX.2 D .busy none)):=(h6 default).1
 ·exact ⟨hl5, .inr ⟨rfl,by omega,v4,(h6 _).2⟩⟩
 ·exact ⟨hl5, .inl ⟨rfl,by omega,v4,(h6 _).2⟩⟩
theorem PS {M:Nat→Prop} {w:World} {n0 D l:Nat} {lo:Obj} {q:List (List Rat)} {m:Nat} {lead:Rat} {y:List Rat} {n k kx:Nat} {va vo sp yp sp1 yp1 u0 u1 u2 v4:Value} {W W3 W4:World} {xa:List Value}
  (hlo:lo.isCells=false) (I:CW M w n0 D l lo q m lead y n k k va vo sp yp W) (hsz:W.heap.size≤W3.heap.size) (hos:W3.os=W.os) (htape:W3.tape=W.tape) (hout:W3.output=W.output)
  (hblk:∀ j,j<W.heap.size→va.ownBlock≠some j→W3.heap[j]? = W.heap[j]?) (hra:W3.ownsRow (n0+3) 39 3 va k xa) (hrra:aW (Ee M n0 va vo) W3 (rQ (aR q m lead y k)).flatten xa)
  (r1:(aI.bC ([eQ q, .int .i64 m]++qC lead)).rep (Ee M n0 va vo) W3 sp1) (r2:(aI.bC [sQ y]).rep (Ee M n0 va vo) W3 yp1) (hu:aW (Ee M n0 va vo) W3 (qC (kA q m lead y k (aR q m lead y k))) [u0,u1,u2])
  (hkx:W.heap.size≤kx) (hbx:W3.heap[kx]? = some (.cells #[u0,u1,u2] 39 (0,0))) (hvlt:∀ g,va.ownBlock=some g→g<W.heap.size)
  (hv4:W4.ownsRow (n0+3) 39 3 v4 (k+1) (xa ++ [u0,u1,u2])) (hg4:(W3.alloc (.cells #[u0,u1,u2] 39)).grownBy W4 va.ownBlock) (hat4:v4.ownBlock=va.ownBlock∨v4.ownBlock=some (W3.alloc (.cells #[u0,u1,u2] 39)).heap.size) :
  CW M w n0 D l lo q m lead y n (k+1) k v4 vo sp1 yp1 W4∧aW (Ee M n0 v4 vo) W4 (qC (kA q m lead y k (aR q m lead y k))) [u0,u1,u2]∧W4.heap[kx]? = some (.cells #[u0,u1,u2] 39 (0,0)):=by
 have hbig:=I.big;have hvab:∀ g,va.ownBlock=some g→n0+3≤g∧g<W.heap.size:=fun g hg=>⟨(hra.lt g hg).1,hvlt g hg⟩
 have hvac:∀ g,va.ownBlock=some g→∃ cs T fz,W3.heap[g]? = some (.cells cs T fz):=fun g hg=>by
  rcases hra.2 with ⟨e,_⟩ | ⟨g',cap,cur,e,_,hh,_⟩
  ·rw [e] at hg;cases hg
  ·rw [e] at hg;simp only [Value.ownBlock,Option.some.injEq] at hg;subst hg;exact ⟨_,_,_,hh⟩
 have h4:∀ j,j<W3.heap.size→va.ownBlock≠some j→W4.heap[j]? = W3.heap[j]?:=fun j hj hne=>by
  rw [hg4.block j (by rw [World.size_alloc];omega) (fun e=>hne e.symm),heap_alloc_old _ _ _ hj]
 have hs4:W3.heap.size+1≤W4.heap.size:=by have:=hg4.size;rw [World.size_alloc] at this;omega
 obtain ⟨xo,hro,hrro⟩:=I.ro;have hvob:∀ g,vo.ownBlock=some g→n0+3≤g∧g<W.heap.size:=fun g hg=>hro.lt g hg;have hk3:bX (Ee M n0 va vo) W (Ee M n0 va vo) W3:=fun b o hb ho _=>⟨hb,(hblk b (Array.getElem?_eq_some_iff.1 ho).1 fun e=>hb (.inr e)).trans ho⟩
 have hk4:bX (Ee M n0 va vo) W3 (Ee M n0 v4 vo) W4:=fun b o hb ho _=>by
  have hlt:=(Array.getElem?_eq_some_iff.1 ho).1;refine ⟨?_,(h4 b hlt fun e=>hb (.inr e)).trans ho⟩;rintro (h | h)
  ·exact hb (.inl h)
  ·rcases hat4 with e | e
   ·rw [e] at h;exact hb (.inr h)
   ·rw [e] at h;simp only [World.size_alloc,Option.some.injEq] at h;omega
 have hnc:∀ j o,W.heap[j]? = some o→o.isCells=false→va.ownBlock≠some j:=fun j o ho hc e=>by
  obtain ⟨xa0,hra0,_⟩:=I.ra;rcases hra0.2 with ⟨e0,_⟩ | ⟨g',cap,cur,e0,_,hh,_⟩
  ·rw [e0] at e;cases e
  ·rw [e0] at e;simp only [Value.ownBlock,Option.some.injEq] at e;subst e;rw [ho] at hh;cases hh;cases hc
 have hall:∀ j,j<W.heap.size→va.ownBlock≠some j→W4.heap[j]? = W.heap[j]?:=fun j hj hne=>(h4 j (by omega) hne).trans (hblk j hj hne);have hlow:∀ j,j<n0+3→va.ownBlock≠some j:=fun j hj e=>by have:=hvab j e;omega
 refine ⟨⟨I.wb.trans ⟨hg4.os.trans hos,hg4.tape.trans htape,hg4.output.trans hout,by omega,fun j hj=>hall j (by omega) (hlow j (by omega))⟩,⟨hbig.1,hbig.2.1,by omega⟩,(hall D (by omega) (hnc D _ I.hD rfl)).trans I.hD,(hall l hbig.2.2 (hnc l _ I.hl hlo)).trans I.hl,(hall _ (by omega) (hlow _ (by omega))).trans I.hN,(hall _ (by omega) (hlow _ (by omega))).trans I.hO,
  ⟨xa ++ [u0,u1,u2],hv4,?_⟩,⟨xo,sJ hro fun g hg=>hall g (hvob g hg).2 fun e=>I.dis g e hg,(hrro.mono hk3).mono hk4⟩,?_,aI.mono _ hk4 r1,aI.mono _ hk4 r2⟩,hu.mono hk4,(h4 kx (Array.getElem?_eq_some_iff.1 hbx).1 fun e=>by have:=hvlt kx e;omega).trans hbx⟩
 ·have e:(rQ (aR q m lead y (k+1))).flatten=(rQ (aR q m lead y k)).flatten++qC (kA q m lead y k (aR q m lead y k)):=by
   rw [aR,rQ,List.map_append,List.flatten_append];simp
  rw [e];exact (hrra.mono hk4).append (hu.mono hk4)
 ·intro g hg h;have hgo:=hvob g h;rcases hat4 with e | e
  ·rw [e] at hg;exact I.dis g hg h
  ·rw [e] at hg;simp only [World.size_alloc,Option.some.injEq] at hg;omega
theorem Wi {M:Nat→Prop} {w:World} {base E sz:Nat} {v:Value} {ts:List (List aI)} {xs:List Value} (h:w.ownsRow base E sz v ts.length xs) (hM:∀ g,v.ownBlock=some g→¬ M g) (hl:∀ t∈ts,t.length=sz) (hr:aW M w ts.flatten xs):(aI.slice sz ts).rep M w v:=by
 rcases h.2 with ⟨rfl,h0⟩ | ⟨g,cap,cur,rfl,hb,hg,hnc,hcm,hcs,htake⟩
 ·exact ⟨none,0,by rw [h0],by omega,by simp [maxLen], .inl (List.eq_nil_of_length_eq_zero h0)⟩
 ·refine ⟨some ⟨g,0,none⟩,cap,rfl,hnc,hcm, .inr ⟨g,0,cur,E,(0,0),rfl,hM g rfl,hg,?_⟩⟩;refine lW hl ?_;rw [List.drop_zero,htake];exact hr
set_option maxRecDepth 100000 in
set_option maxHeartbeats 400000 in
theorem KU (w:World) (c0 c1 c2 c3 c4 yv:Value) (hone:∀ u ∈ [c0,c1,c2,c3,c4],u.oneCell'=true) :
  CallsIn Fence.wide 1001 prog 101 #[.agg #[c0,c1,c2,c3,c4],yv, .int .i64 ((0:Nat):Int)] w fun e W'=>e = .returned (.slice none 0 0)∧Below w.heap.size w W':=by
 refine callsIn_of_wp func101 rfl trivial ?_ rfl;simp only [ntmps101,List.size_toArray,List.length_cons,List.length_nil,Nat.reduceAdd,Nat.reduceSub,Array.replicate_succ,Array.replicate_zero,List.push_toArray,List.append_toArray,List.nil_append,List.cons_append]
 gi_wp2
 go_ret
 exact ⟨rfl,(((Below.refl _ w).alloc (Nat.le_refl _) _).alloc (by simp) _).alloc (by simp;omega) _⟩
structure SL (l m k:Nat) (sp yp va:Value) (t:Array Value):Prop where
 sz:t.size=92
 t0:t.getD 0 Go.undef = .func (.yield l) #[] #[]
 t1:t.getD 1 Go.undef=sp
 t2:t.getD 2 Go.undef=yp
 t4:t.getD 4 Go.undef=va
 t5:t.getD 5 Go.undef = .int .i64 m
 t6:t.getD 6 Go.undef = .int .i64 k
set_option maxRecDepth 100000 in
set_option maxHeartbeats 1000000 in
theorem Rf (M:Nat→Prop) (w:World) (hM:dK M w) (q:List (List Rat)) (m:Nat) (lead:Rat) (y:List Rat) (n N B:Nat) (C:gP B q m lead y N) (hn0':0<n) (hn:n≤N) (hN:N≤1073741824) (hm:m≤64) (hmN:m≤N) (hB:B≤8589934592) (h64:64≤B) (hql:q.length=m+1) (hyl:y.length=m) (hp:∀ p∈q,p.length<1099511627776) (hl0:lead≠0)
  (c0 c1 c2 c3 c4 yv:Value) (hs:aW M w ([eQ q, .int .i64 m]++qC lead) [c0,c1,c2,c3,c4]) (hy:(sQ y).rep M w yv) :
  CallsIn Fence.wide 1001 prog 101 #[.agg #[c0,c1,c2,c3,c4],yv, .int .i64 (n:Int)] w fun e W'=>Below w.heap.size w W'∧∃ u,e = .returned u∧(sQ (aR q m lead y n)).rep M W' u:=by
 refine callsIn_of_wp_marks func101 rfl trivial ?_ rfl;simp only [ntmps101,List.size_toArray,List.length_cons,List.length_nil,Nat.reduceAdd,Nat.reduceSub,Array.replicate_succ,Array.replicate_zero,List.push_toArray,List.append_toArray,List.nil_append,List.cons_append];have hni:¬ ((n:Int)=0):=by omega
 obtain ⟨n0,hn0⟩:∃ n0,w.heap.size=n0:=⟨_,rfl⟩
 obtain ⟨Wa,hWa⟩:∃ Wa,(((w.alloc (.cells #[c0,c1,c2,c3,c4] 171)).alloc (.cells #[.int .i64 (n:Int)] 3)).alloc (.cells #[.slice none 0 0] 40))=Wa:=⟨_,rfl⟩
 have hsa:Wa.heap.size=n0+3:=by rw [←hWa];simp [hn0]
 have hNa:Wa.heap[n0+1]? = some (.cells #[.int .i64 (n:Int)] 3 (0,0)):=by
  rw [←hWa,heap_alloc_old _ _ _ (by simp;omega)];have:=heap_alloc_new (w.alloc (.cells #[c0,c1,c2,c3,c4] 171)) (.cells #[.int .i64 (n:Int)] 3);rw [World.size_alloc,hn0] at this;exact this
 have hOa:Wa.heap[n0+2]? = some (.cells #[.slice none 0 0] 40 (0,0)):=by
  rw [←hWa];have:=heap_alloc_new ((w.alloc (.cells #[c0,c1,c2,c3,c4] 171)).alloc (.cells #[.int .i64 (n:Int)] 3)) (.cells #[.slice none 0 0] 40);rw [World.size_alloc,World.size_alloc,hn0] at this;exact this
 have hSa:Wa.heap[n0]? = some (.cells #[c0,c1,c2,c3,c4] 171 (0,0)):=by rw [←hWa,heap_alloc_old _ _ _ (by simp;omega),heap_alloc_old _ _ _ (by simp;omega),←hn0];exact heap_alloc_new w _
 have cN:Wa.cell? ⟨n0+1,0,none⟩=some (.int .i64 (n:Int)):=aH hNa rfl;have cS0:Wa.cell? ⟨n0,0,none⟩=some c0:=aH hSa rfl;have cS1:Wa.cell? ⟨n0,1,none⟩=some c1:=aH hSa rfl;have cS2:Wa.cell? ⟨n0,2,none⟩=some c2:=aH hSa rfl;have cS3:Wa.cell? ⟨n0,3,none⟩=some c3:=aH hSa rfl;have cS4:Wa.cell? ⟨n0,4,none⟩=some c4:=aH hSa rfl
 have hBa:Below w.heap.size w Wa:=by
  rw [←hWa];exact (((Below.refl _ w).alloc (by omega) _).alloc (by simp) _).alloc (by simp;omega) _
 have hka:bX M w (fun b=>M b∨b=n0+2) Wa:=fun b o hb ho _=>by
  have hlt:=(Array.getElem?_eq_some_iff.1 ho).1;exact ⟨fun h=>h.elim hb (by omega),(hBa.block b hlt).trans ho⟩
 have hMa:dK (fun b=>M b∨b=n0+2) Wa:=⟨fun b hb=>hb.elim (fun h=>Nat.lt_of_lt_of_le (hM.1 b h) hBa.size) (fun h=>by omega),hM.2.iY hka⟩
 gi_wp2
 refine ⟨trivial,?_⟩;refine (callsIn_wide.2 (YZ (fun b=>M b∨b=n0+2) Wa hMa q m lead y c0 c1 c2 c3 c4 yv (hs.mono hka) (aI.mono _ hka hy))).mono ?_;rintro e W0 ⟨hb0,sp,yp,rfl,hsp,hyp⟩
 gi_wp2
 refine TJ rfl (by omega) (gf:=247) (lb:=#[sp,yp]) rfl trivial (enters_of func247 (by kernel_rfl) rfl) ?_;intro fn D l W1 hfn hD hl hsz1 hb1 hK1 hL1;have hk1:bX (fun b=>M b∨b=n0+2) W0 (fun b=>M b∨b=n0+2) W1:=bX.below hb1;replace hsp:=aI.mono _ hk1 hsp;replace hyp:=aI.mono _ hk1 hyp;obtain ⟨bs,os,rfl,cm⟩:=LJ (j:=1) hsp rfl;refine callsIn_of_wp func247 rfl trivial ?_ rfl;simp only [ntmps247,List.size_toArray,List.length_cons,List.length_nil,Nat.reduceAdd,Nat.reduceSub,Array.replicate_succ,Array.replicate_zero,List.push_toArray,List.append_toArray,List.nil_append,List.cons_append]
 gi_wp2
 obtain ⟨tm,htm,t5,t7,hLr⟩:∃ tm:Array Value,tm.size=25∧tm.getD 5 Go.undef = .pointer (some ⟨n0+1,0,none⟩)∧tm.getD 7 Go.undef = .pointer (some ⟨n0+2,0,none⟩)∧W1.heap[l]? = some (.loop (pM fn tm #[15] eX.1 eX.2 D .ready none)):=⟨_,rfl,rfl,rfl,hL1⟩
 have htl:=congrArg Loop.tmps (Obj.loop.inj (Option.some.inj (hL1.symm.trans hLr)));dsimp only at htl;have hW1s:W1.heap.size=W0.heap.size+2:=hsz1;have hs0:n0+3≤W0.heap.size:=by have:=hb0.size;omega
 refine wpIn_loop_ghost (fun j a' W=>∃ k va vo sp' yp' t,j=n-k∧a'=⟨t,[]⟩∧k<n∧SL l m k sp' yp' va t∧CW M w n0 D l (.loop (pM fn tm #[15] eX.1 eX.2 D .ready none)) q m lead y n k k va vo sp' yp' W) (n-0)
  ⟨0, .slice none 0 0, .slice none 0 0,_,_,_,rfl,rfl,hn0',⟨rfl,by rw [hl];rfl,rfl,rfl,rfl,rfl,rfl⟩,?cw⟩ ?round
 case cw=>
  have hks:bX (fun b=>M b∨b=n0+2) W1 (Ee M n0 (.slice none 0 0) (.slice none 0 0)) W1:=fun b o hb ho _=>by
   refine ⟨fun h=>?_,ho⟩;rcases h with (h | h | h) | h
   ·exact hb (.inl h)
   ·cases h
   ·exact hb (.inr h)
   ·cases h
  refine ⟨?_,⟨by omega,by omega,by omega⟩,hK1,hLr,?_,?_,⟨[],World.ownsRow_nil _ _ _ _,trivial⟩,⟨[],World.ownsRow_nil _ _ _ _,trivial⟩,(by intro g h;cases h),aI.mono _ hks hsp,aI.mono _ hks hyp⟩
  ·rw [←hn0];exact (hBa.trans (hb0.mono (by omega))).trans (hb1.mono (by omega))
  ·rw [hb1.block _ (by omega),hb0.block _ (by omega)];exact hNa
  ·rw [hb1.block _ (by omega),hb0.block _ (by omega)];exact hOa
 case round=>
  rintro j a' W ⟨k,va,vo,sp',yp',t,rfl,rfl,hkn,S,I⟩;refine wpIn_seq_k fun K hK=>wpIn_block (wpIn_seq (Po (wpIn_seq (wpIn_wide.2 ?_))));obtain ⟨xa,hra,hrra⟩:=I.ra;have hcl:=bQ q m lead y k;refine Yx (c:=MH NA) (by kernel_rfl) ?_;have hvc:=ay3 q m lead y k N B (.func (.yield l) #[] #[]) C (Nat.lt_of_lt_of_le hkn hn) hN hm hmN hB h64 hql hyl hp hl0;rw [←rL] at hvc;have hlow:∀ b,M b→b<n0:=fun b hb=>by have:=hM.1 b hb;omega
  have hvlt:∀ g,va.ownBlock=some g→g<W.heap.size:=fun g hg=>(hra.lt g hg).2
  have hfine:dK (Ee M n0 va vo) W:=by
   obtain ⟨xo,hro,_⟩:=I.ro;have hbig:=I.big;refine ⟨fun b hb=>?_,hM.2.iY fun b o hb ho _=>?_⟩
   ·rcases hb with (h | h | h) | h
    ·have:=hlow b h;omega
    ·exact (hro.lt b h).2
    ·omega
    ·exact hvlt b h
   ·have hlt:=(Array.getElem?_eq_some_iff.1 ho).1;refine ⟨?_,(I.wb.block b (by omega)).trans ho⟩;rintro ((h | h | h) | h)
    ·exact hb h
    ·have:=(hro.lt b h).1;omega
    ·omega
    ·have:=(hra.lt b h).1;omega
  have hdis:∀ b,(M b∨vo.ownBlock=some b∨b=n0+2)→va.ownBlock≠some b:=by
   rintro b (h | h | h) e
   ·have:=hlow b h;have:=(hra.lt b e).1;omega
   ·exact I.dis b e h
   ·have:=(hra.lt b e).1;omega
  refine Rz fo aV3 rfl hvc (M:=fun b=>M b∨vo.ownBlock=some b∨b=n0+2) (va:=va) (base:=n0+3) (xs:=xa) hfine hdis (by simp [S.sz]) rfl (by rw [List.length_map,hcl];exact hra) (by intro u hu;obtain ⟨_,_,rfl⟩:=List.mem_map.1 hu;rfl) hrra
   ⟨by rw [getD_set_ne (by omega)];exact S.t0,rfl⟩ (by rw [getD_set_ne (by omega),S.t1];exact I.p1) (by rw [getD_set_ne (by omega),S.t2];exact I.p2) (by rw [getD_set_ne (by omega)];exact S.t4) ⟨by rw [getD_set_ne (by omega)];exact S.t5,rfl⟩ ⟨by rw [getD_set_ne (by omega)];exact S.t6,rfl⟩ (AH (by rw [S.sz];omega)) ?go
  intro a' w' u0 u1 u2 xa' hsz' hos htape hout hblk hsz2 hdf2 r0 r1 r2 r4 r5 r6 hbox hru hra' hrra';show Code.wpIn _ _ _ _ _ a' w';rw [List.length_map,hcl] at hra';obtain ⟨t',ds⟩:=a';have hdf2:ds = []:=hdf2;subst hdf2;obtain ⟨kx,hkx,hp7,hbx⟩:=hbox;have hsz2:t'.size=92:=hsz2;have r0:t'.getD 0 Go.undef = .func (.yield l) #[] #[]:=r0.1;have r4:t'.getD 4 Go.undef=va:=r4;have r5:t'.getD 5 Go.undef = .int .i64 m:=r5.1;have r6:t'.getD 6 Go.undef = .int .i64 k:=r6.1;have hp7:t'.getD 7 Go.undef = .pointer (some ⟨kx,0,none⟩):=hp7;have r1:(aI.bC ([eQ q, .int .i64 m]++qC lead)).rep (Ee M n0 va vo) w' (t'.getD 1 Go.undef):=r1;have r2:(aI.bC [sQ y]).rep (Ee M n0 va vo) w' (t'.getD 2 Go.undef):=r2;have hone:=hru.one;have hkk:k<1099511627776:=by omega
  have hbase:n0+3≤(w'.alloc (.cells #[u0,u1,u2] 39)).heap.size:=by rw [World.size_alloc];have:=I.big;omega
  rw [WZ t' hsz2,r0,r4,r5,r6,hp7];generalize hs1:t'.getD 1 Go.undef=sp1 at r1 ⊢;generalize hs2:t'.getD 2 Go.undef=yp1 at r2 ⊢;have cb0:w'.cell? ⟨kx,0,none⟩=some u0:=aH hbx rfl;have cb1:w'.cell? ⟨kx,1,none⟩=some u1:=aH hbx rfl;have cb2:w'.cell? ⟨kx,2,none⟩=some u2:=aH hbx rfl;have happ:=fun v' w3 hv3 hg3 hat3=>PS (v4:=v') (W4:=w3) rfl I hsz' hos htape hout hblk hra' hrra' r1 r2 hru hkx hbx hvlt hv3 hg3 hat3;have hround:=fun v' w3 hv3 hg3 hat3=>Md M w n0 D l fn tm htm t5 t7 q m lead y n k hkn (by omega) v' vo sp1 yp1 u0 u1 u2 w3 hn0 hlow (happ v' w3 hv3 hg3 hat3).1 (happ v' w3 hv3 hg3 hat3).2.1 999;subst hl;clear hK1 hLr hL1;refine wpIn_seq_k fun K2 hK2=>?_
  gi_wp2_with (gi_at_builtin;refine ap3 rfl _ _ rfl (n0+3) va k xa' rfl (hra'.alloc _) w'.heap.size 1 u0 u1 u2 (heap_alloc_new w' _) rfl hone hkk hbase ?_;intro v' w3 hv3 hg3 hat3;obtain ⟨fnr,tmr,asr,bdr,hy,hR⟩:=hround v' w3 hv3 hg3 hat3;have hbx3:=(happ v' w3 hv3 hg3 hat3).2.2;have d0:w3.cell? ⟨kx,0,none⟩=some u0:=aH hbx3 rfl;have d1:w3.cell? ⟨kx,1,none⟩=some u1:=aH hbx3 rfl;have d2:w3.cell? ⟨kx,2,none⟩=some u2:=aH hbx3 rfl)
  refine hR.mono ?_;rintro e W5 ⟨b,_,rfl,(⟨rfl,hk1,vo',I5⟩ | ⟨rfl,hk1,vo',I5⟩)⟩
  ·gi_wp2
   exact ⟨n-(k+1),by omega,k+1,v',vo',sp1,yp1,_,rfl,rfl,hk1,⟨rfl,rfl,rfl,rfl,rfl,rfl,rfl⟩,I5⟩
  ·gi_wp2
   have hl5:=I5.hl;rw [←htl] at hl5;refine bodyPost_ret (results_none rfl _ _ _) rfl ⟨⟨_,rfl⟩, .inr ⟨.exit 0,hl5,wpIn_exit ?_⟩⟩;generalize hW6:W5.putObj (W0.heap.size+1) _=W6;have hbig:=I5.big;have h6:∀ j,j≠W0.heap.size+1→W6.heap[j]? = W5.heap[j]?:=fun j hj=>by rw [←hW6];exact World.putObj_heap_other hj
   have hD6:W6.heap[D]? = some (.deferred (some [])):=(h6 D (by omega)).trans I5.hD;have hO6:W6.heap[n0+2]? = some (.cells #[vo'] 40 (0,0)):=(h6 _ (by omega)).trans I5.hO;have hb6:Below n0 w W6:=I5.wb.trans ⟨by rw [←hW6];rfl,by rw [←hW6];rfl,by rw [←hW6];rfl,by rw [←hW6];simp [World.putObj],fun j hj=>h6 j (by omega)⟩;have hs6:W6.heap.size=W5.heap.size:=by rw [←hW6];simp [World.putObj]
   clear hW6;have cO6:W6.cell? ⟨n0+2,0,none⟩=some vo':=aH hO6 rfl
   gi_wp2
   refine ⟨by simp, .inl ⟨_,_,rfl,run_takeDeferred (hD▸hD6),?_⟩⟩;have hDc:=hD▸hD6;refine ⟨_,results_tmp rfl _ _ _,?_,_,rfl,?_⟩
   ·exact hb6.trans (belowK_b (w:=w) (by omega) W6 W0.heap.size _ _ (by omega) hDc rfl rfl)
   ·obtain ⟨xs,hro,hrr⟩:=I5.ro;rw [hk1] at hro hrr
    have hk6:bX (Ee M n0 v' vo') W5 M (W6.putObj W0.heap.size (.deferred none)):=fun b o hb ho hc=>by
     have hne:b≠W0.heap.size+1:=by rintro rfl;rw [I5.hl] at ho;cases ho;cases hc
     have hne2:b≠W0.heap.size:=by
      intro e;rw [e,←hD,I5.hD] at ho;cases ho;cases hc
     exact ⟨fun h=>hb (.inl (.inl h)),(World.putObj_heap_other hne2).trans ((h6 b hne).trans ho)⟩
    refine Wi (v:=vo') (base:=n0+3) (E:=39) (sJ (W:=W5) (by rw [List.length_map,bQ];exact hro) fun g hg=>?_) (fun g hg h=>by have:=(hro.lt g hg).1;have:=hlow g h;omega) (by intro u hu;obtain ⟨_,_,rfl⟩:=List.mem_map.1 hu;rfl) (hrr.mono hk6);rcases hro.2 with ⟨e,_⟩ | ⟨g',cap,cur,e,_,hh,_⟩
    ·rw [e] at hg;cases hg
    ·rw [e] at hg;simp only [Value.ownBlock,Option.some.injEq] at hg;subst hg;have hne:g'≠W0.heap.size+1:=by rintro rfl;rw [I5.hl] at hh;cases hh
     have hne2:g'≠W0.heap.size:=by
      intro e;rw [e,←hD,I5.hD] at hh;cases hh
     exact (World.putObj_heap_other hne2).trans (h6 g' hne)
theorem Ca (q:List (List Rat)) (m:Nat) (lead:Rat) (y:List Rat) (n N B:Nat) (C:gP B q m lead y N) (hn:n≤N) (hN:N≤1073741824) (hm:m≤64) (hmN:m≤N) (hB:B≤8589934592) (h64:64≤B) (hql:q.length=m+1) (hyl:y.length=m) (hp:∀ p∈q,p.length<1099511627776) (hl0:lead≠0) :
  aK prog 101 [xY q m lead, .one (sQ y), .one (.int .i64 n)] (.ret [.one (sQ (aR q m lead y n))]):=by
 refine ⟨bP (by kernel_rfl),fun M w vs hM hv=>?_⟩
 match vs,hv with
 | [sv,yv,nv],⟨⟨us,e1,hus⟩,hy,hn1,_⟩=>
   have hnv:nv = .int .i64 n:=hn1.1;subst e1 hnv
   match us,hus with
   | [c0,c1,c2,c3,c4],hus=>
     rcases Nat.eq_zero_or_pos n with rfl | hpos
     ·refine ((callsIn_wide (n:=1001)).1 (KU w c0 c1 c2 c3 c4 yv hus.one)).mono ?_;rintro e w' ⟨rfl,hb⟩;exact ⟨hb,[.slice none 0 0],rfl,⟨none,0,rfl,Nat.le_refl _,by simp [maxLen], .inl rfl⟩,trivial⟩
     ·refine ((callsIn_wide (n:=1001)).1 (Rf M w hM q m lead y n N B C hpos hn hN hm hmN hB h64 hql hyl hp hl0 c0 c1 c2 c3 c4 yv hus hy)).mono ?_;rintro e w' ⟨hb,u,rfl,hr⟩;exact ⟨hb,[u],rfl,hr,trivial⟩
   | [],hus=>exact hus.elim
   | [_],hus=>exact hus.2.elim
   | [_,_],hus=>exact hus.2.2.elim
   | [_,_,_],hus=>exact hus.2.2.2.elim
   | [_,_,_,_],hus=>exact hus.2.2.2.2.elim
   | _::_::_::_::_::_::_,hus=>exact hus.2.2.2.2.2.elim
 | [],hv=>exact hv.elim
 | [_],hv=>exact hv.2.elim
 | [_,_],hv=>exact hv.2.2.elim
 | _::_::_::_::_,hv=>exact hv.2.2.2.elim
end Go.Sy
namespace Go.Sy
open Go Go.Proofs Tryz Ord
theorem Zd (p:List Rat):ev p 0=p.getD 0 0:=by
 cases p with
 | nil=>rfl
 | cons a p=>rw [bM,List.getD_cons_zero];grind
theorem OO (e:List (List Rat)) (c:Rat):aM e c=ev (e.getD (e.length-1) []) c:=by
 rw [aM,←Zd,lF];congr 1;grind
structure RA (e:List (List Rat)) (c:Rat) (D E S T K B:Nat):Prop where
 h0:D≠0
 h1:E≠0
 hp:∀ p∈e,(∀ a∈p,Bd D S a)∧p.length≤K
 hc:Bd E T c
 hT:1≤T
 hK:K≤1073741824
 hB:B≤8589934592
 hX:qL D E S T K<2^B
abbrev bD (e:List (List Rat)) (c:Rat):List (List Rat):=e.map (dD · c)
theorem IX {e:List (List Rat)} {c:Rat} {y:List Rat} (h:okF e c y=true):2≤e.length∧e.length≤5∧y.length=e.length-1∧aM e c≠0∧dD (e.getD (e.length-1) []) c ≠ []:=by
 unfold okF at h;simp only [Bool.and_eq_true,decide_eq_true_eq] at h;obtain ⟨⟨h1,h2⟩,h3⟩:=h;unfold sA at h1;rw [decide_eq_true_iff] at h1;unfold qA at h3;rw [decide_eq_true_iff] at h3;obtain ⟨p,hp⟩:∃ p,e[e.length-1]? = some p:=⟨_,List.getElem?_eq_getElem (by omega)⟩
 have hg:e.getD (e.length-1) []=p:=by rw [List.getD_eq_getElem?_getD,hp];rfl
 have hl:aM e c≠0:=by rw [OO,hg];exact h3 p hp
 refine ⟨h1.1,h1.2.1,h2,hl,fun e0=>hl ?_⟩;rw [aM,e0];rfl
theorem Li {e:List (List Rat)} {c:Rat} {D E S T K B:Nat} (R:RA e c D E S T K B) (he:0<e.length) (hel:e.length<1099511627776) (hne:dD (e.getD (e.length-1) []) c ≠ []) :
  aK prog 100 [.one (eQ e),qT c] (.ret [xY (bD e c) (e.length-1) (aM e c)]):=aL0 e c D E S T K B R.h0 R.h1 R.hp R.hc R.hT R.hK R.hB R.hX he hel hne
def Qu:Tr:=.ret [(.one (.c (.k (.slice none 0 0)))),(WK 3)]
def af5:Tr:=bB .lss 3 11 0 1 0 4 (.split (.u 4 0) Qu (bB .gtr 3 14 1500 1 0 4 (.split (.u 5 0) Qu (aP 100 [(W 0 0),(.agg [(U 0 1),(U 0 2),(U 0 3)])] [(some 5)] [18,20] [32,39] 171 false (aP 101 [(G5 6),(W 0 4),(W 1 0)] [none] [21,23,24] [171,40,3] 40 true (.ret [(W 7 0),(WK 0)]))))))
def aw7:Tr:=aP 21 [(G5 0)] [none] [7] [42] 55 true (bB .neq 55 8 0 2 0 4 (.split (.u 3 0) (.ret [(.one (.c (.k (.slice none 0 0)))),(WK 2)]) af5))
theorem Bu:aN prog f26 (fun _=>none) [.v (some 5), .v none]=aw7:=by kernel_rfl
def an3:Tr:=.need (.prim [(W 0 0)] none) (.unOp .not 4 (tT 4)) 4 false (.split (.u 2 0) (.need (.prim [(G1 1)] none) (.makeInterface 261 (tT 7)) 20 false (.pan (.u 3 0))) (.ret []))
theorem No:aN prog f130 (fun _=>none) [.v none, .v none]=an3:=by kernel_rfl
def CK (e:List (List Rat)) (c:Rat) (y:List Rat) (n:Int):List Rat×Int:=
 if okF e c y then (if 0≤n∧n≤1500 then (aR (bD e c) (e.length-1) (aM e c) y n.toNat,0) else ([],3)) else ([],2)
theorem Bj (e:List (List Rat)) (c:Rat) (y:List Rat) (n:Int) (D E S T K B B' N:Nat) (he:Vi e) (hc:Fit 513 c) (hy:y.length<1099511627776) (hn1:-9223372036854775808≤n) (hn2:n<9223372036854775808) (R:okF e c y=true→RA e c D E S T K B) (hml:okF e c y=true→∀ p∈bD e c,p.length<1099511627776) (C:okF e c y=true→0≤n→n≤1500→gP B' (bD e c) (e.length-1) (aM e c) y N∧n.toNat≤N∧N≤1073741824∧e.length-1≤N) (hB':B'≤8589934592) (h64:64≤B'):aK prog 26 [(fT e c y:aG),(.one (.int .i64 n):aG)] (.ret [.one (sQ (CK e c y n).1), .one (.int .i64 (CK e c y n).2)]):=by
 refine aD (args:=[.v (some 5), .v none]) (ins:=[.v (fT e c y), .v (.one (.int .i64 n))]) (hints:=(fun _=>none)) fo (by kernel_rfl) func26 ⟨rfl,rfl,trivial⟩ ?_;rw [Bu];dsimp only [List.map,In.env,aA,aB];have hl:=he.l;refine aC (Qz e c y he hc hy) rfl ?_;dsimp only [aA,aB];refine vn iP rfl ?_;dsimp only [aA,aB]
 refine vs (okF e c y=false) (by
  have:decide ((if okF e c y=true then (0:Int) else 2)≠0)=decide (okF e c y=false):=by cases okF e c y<;>rfl
  rw [←this];rfl) (fun h2=>?_) (fun h2=>?_)
 ·rw [CK,if_neg (by rw [h2];simp)];exact eN ⟨aI.Sub.nil,aG.Sub.same,trivial⟩
 have hok:okF e c y=true:=by cases h:okF e c y<;>simp_all
 obtain ⟨hl2,hl5,hyl,hld,hne⟩:=IX hok;refine vn bE rfl ?_;dsimp only [aA,aB];refine vs _ rfl (fun h5=>?_) (fun h5=>?_)
 ·rw [CK,if_pos hok,if_neg (by omega)];exact eN ⟨aI.Sub.nil,aG.Sub.same,trivial⟩
 refine vn eF rfl ?_;dsimp only [aA,aB];refine vs _ rfl (fun h8=>?_) (fun h8=>?_)
 ·rw [CK,if_pos hok,if_neg (by omega)];exact eN ⟨aI.Sub.nil,aG.Sub.same,trivial⟩
 obtain ⟨CC,hnN,hN,hmN⟩:=C hok (by omega) (by omega);obtain ⟨k,hk⟩:∃ k:Nat,n.toNat=k:=⟨_,rfl⟩
 have hnk:n=(k:Int):=by omega
 rw [CK,if_pos hok,if_pos (by omega),hk];rw [hk] at hnN;subst hnk;refine aC (Li (R hok) (by omega) (by omega) hne) rfl ?_;dsimp only [aA,aB];refine aC (Ca (bD e c) (e.length-1) (aM e c) y k N B' CC hnN hN (by omega) hmN hB' h64 (by rw [List.length_map];omega) hyl (hml hok) hld) rfl ?_;exact aL rfl
end Go.Sy
