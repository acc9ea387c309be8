/- Part. -/
import Derived.Test.YtacgmapjhpghkaaGreatDoorPa
import Derived.RangeFuncOwn
import Derived.Laws.CopyOwn
import Derived.Lib.ItoaNum
set_option linter.all false
abbrev iN:=Go.Exit->Go.Act->Go.World->Prop
abbrev iS:=Array Go.Value
abbrev j0:=List Go.Value
abbrev j4:=Go.Act->Go.World->Prop
abbrev j5:=Go.Program
abbrev j6:=Go.Operand
abbrev j7:=Array Go.Oper
abbrev j8:=List Go.Oper
abbrev j9:=Option Go.Addr
namespace Go.Sy
def bC:=@Go.callsIn_wide
def cz:=@Go.World.size_alloc
def cr:=@Go.heap_alloc_new
def dB:=@Go.heap_alloc_old
def cS:=@Go.RowKit.Below.refl
def er:=@Go.run_underlying
def jB:=@Go.Value.slice.injEq
def mE:=@Go.World.putObj_heap_other
def dK:=@Go.wpIn_wide
def bU:=@Go.wp_seq
def cn:=@Go.wpIn_seq
def js:=@Go.Result.andThen_ok
def ew:=@Go.setRow_other
def gB:=@Go.bodyPost_ret
def gC:=@Go.Sem.run_bind
def gm:=@Go.Addr.mk.injEq
def jj:=@Go.Obj.cells.injEq
def gq:=@Go.Sem.run_pure
def jF:=@Go.callsIn_of_wp
def iV:=@Go.setRow_heap
def pY:=@Go.World.ownsRow_nil
def qU:=@Go.World.putObj_size
def rS:=@Go.callsIn_of_wp_marks
def kN:=@Go.results_tmp
def kH:=@Go.calls_of_wp
def sV:=@Go.run_takeDeferred
def BV:=@Go.World.putObj_heap_same
def pT:=@Go.wpIn_block
def wN:=@Go.Oper.upon_enter
def qR:=@Go.wpIn_skip
def qK:=@Go.wpIn_cond
def Bl:=@Go.Callee.value.injEq
def sU:=@Go.wpIn_seq_k
def nt:=@Go.wp_block
def Ct:=@Go.results_cell_row
def Cy:=@Go.grownBy_putObj'
def BA:=@Go.run_loadVar_row
def uo:=@Go.mem_ready
def qL:=@Go.wp_cond
def BD:=@Go.wp_region_any
def Qi:=@Go.run_loadCells_list
def BZ:=@Go.results_none
def sA:=@Go.wp_skip
def xD:=@Go.wpOp_mono
def yQ:=@Go.wpIn_exit
def uO:=@Go.wp_exit
def Qr:=@Go.DataW.trod_int
def UI:=@Go.size_madeCells
def rW:=@Go.wp_ret
def PW:=@Go.run_endRound
def Qy:=@Go.bodyPost_end
def aL{α β:Type _}{l:List α}(f:α->β):(l.map f).length=l.length:=List.length_map f
def aZ{α:Type _}(a b:α):(some a=some b)=(a=b):=wa a b
def bM{α:Type _}{l:List α}{i:Nat}(h:i<l.length):l[i]?=some l[i]:=ao1 h
def dc{α:Type _}{l:List α}{i:Nat}{a:α}(h:l[i]?=some a):a∈l:=Bu h
def fI{α:Type _}{l:List α}{i:Nat}{a:α}:l.getD i a=(l[i]?).getD a:=Sr
def cJ{α:Type _}{xs:Array α}{i:Nat}{b:α}:xs[i]?=some b↔∃h:i<xs.size,xs[i]=b:=Array.getElem?_eq_some_iff
def cL{α:Type _}{xs:List α}{i:Nat}{b:α}:xs[i]?=some b↔∃h:i<xs.length,xs[i]=b:=xM
def ah(n:Nat):n<=n:=pf n
def dm{α β:Type _}{f:α->β}{b:β}{l:List α}:b∈l.map f↔∃a,a∈l/\f a=b:=List.mem_map
def dR{α β:Type _}{f:α->β}{l:List α}{i:Nat}:(l.map f)[i]?=Option.map f l[i]?:=List.getElem?_map
def cF{α:Type _}{as bs:List α}:(as++bs).length=as.length+bs.length:=List.length_append
def dM(n:Nat):0<=n:=xu n
def nL{n:Nat}:(List.range n).length=n:=List.length_range
theorem aU{α:Type _}{a:α}{l m:List α}:a::l++m=a::(l++m):=rfl
theorem aV{α:Type _}{l:List α}:[]++l=l:=rfl
open Go.RowKit (Below)
def Gc:Array Value:=(Lib.pow10Tab.map fun z=>Value.int .u64 z).toArray
def be4.Zy:List (Nat×Array Value):=[(0,Gc)]
def av(M:c6)(w:World)(M':c6)(w':World):Prop:=
 ∀b o,¬M b->w.heap[b]?=some o->o.isCells=true->¬M' b/\w'.heap[b]?=some o
def av.refl(M:c6)(w:World):av M w M w:=fun _ _ h h' _=>⟨h,h'⟩
def av.trans{M M' M'':c6}{w w' w'':World}(h:av M w M' w')(k:av M' w' M'' w''):av M w M'' w'':=
 fun b o hb ho hc=>let ⟨h1,h2⟩:=h b o hb ho hc;k b o h1 h2 hc
def av.below{M:c6}{w w':World}(h:Below w.heap.size w w'):av M w M w':=
 fun b o hb ho _=>⟨hb,by rw[h.block b (cJ.1 ho).1];exact ho⟩
structure aC where
 rep:(Nat->Prop)->World->Value->Prop
 mono:∀{M w M' w' v},av M w M' w'->rep M w v->rep M' w' v
 one:∀{M w v},rep M w v->v.oneCell'=true
def aC.exact(v:Value):aC where
 rep:=fun _ _ x=>x=v/\v.oneCell'=true
 mono:=fun _ h=>h
 one:=fun h=>by rw[h.1];exact h.2
def aC.bad:aC where
 rep:=fun _ _ _=>False
 mono:=fun _ h=>h
 one:=fun h=>h.elim
abbrev aC.int(k:IntKind)(n:Int):aC:=.exact (.int k n)
abbrev aC.bool(b:Bool):aC:=.exact (.bool b)
abbrev aC.str(s:ByteArray):aC:=.exact (.string s)
inductive aQ where
 | one (c:aC)
 | agg (cs:List aC)
 | rows (ts:List (List aC))
def an(M:c6)(w:World):List aC->List Value->Prop
 | [],[]=>True
 | c::cs,v::vs=>c.rep M w v/\an M w cs vs
 | _,_=>False
def aQ.rep(M:c6)(w:World):aQ->Value->Prop
 | .one c,v=>c.rep M w v
 | .agg cs,v=>∃vs:List Value,v=.agg vs.toArray/\an M w cs vs
 | .rows _,_=>False
def cC(M:c6)(w:World):List aQ->List Value->Prop
 | [],[]=>True
 | c::cs,v::vs=>c.rep M w v/\cC M w cs vs
 | _,_=>False
theorem an.mono{M M':c6}{w w':World}(h:av M w M' w'):∀{cs vs},an M w cs vs->an M' w' cs vs
 | [],[],_=>trivial
 | _::_,_::_,⟨a,b⟩=>⟨aC.mono _ h a,an.mono h b⟩
 | [],_::_,k=>k.elim
 | _::_,[],k=>k.elim
theorem aQ.hU{M M':c6}{w w':World}(h:av M w M' w'):∀{t:aQ}{v},t.rep M w v->t.rep M' w' v
 | .one c,_,k=>c.mono h k
 | .agg _,_,⟨vs,e,k⟩=>⟨vs,e,k.mono h⟩
 | .rows _,_,k=>k
theorem cC.mono{M M':c6}{w w':World}(h:av M w M' w'):∀{cs vs},cC M w cs vs->cC M' w' cs vs
 | [],[],_=>trivial
 | _::_,_::_,⟨a,b⟩=>⟨aQ.hU h a,cC.mono h b⟩
 | [],_::_,k=>k.elim
 | _::_,[],k=>k.elim
theorem an.length{M:c6}{w:World}:∀{cs vs},an M w cs vs->cs.length=vs.length
 | [],[],_=>rfl
 | _::_,_::_,⟨_,b⟩=>by simp[b.length]
 | [],_::_,k=>k.elim
 | _::_,[],k=>k.elim
theorem cC.length{M:c6}{w:World}:∀{cs vs},cC M w cs vs->cs.length=vs.length
 | [],[],_=>rfl
 | _::_,_::_,⟨_,b⟩=>by simp[b.length]
 | [],_::_,k=>k.elim
 | _::_,[],k=>k.elim
theorem an.get{M:c6}{w:World}:∀{cs vs},an M w cs vs->∀(j:Nat)(c:aC),cs[j]?=some c->∃v,vs[j]?=some v/\c.rep M w v
 | [],[],_,j,c,hc=>by simp at hc
 | c0::cs,v0::vs,⟨a,b⟩,j,c,hc=>by
   cases j with
   | zero=>simp at hc;subst hc;exact⟨v0,rfl,a⟩
   | succ j=>simpa using b.get j c (by simpa using hc)
 | [],_::_,k,_,_,_=>k.elim
 | _::_,[],k,_,_,_=>k.elim
theorem an.zj{M:c6}{w:World}:∀{cs vs},cs.length=vs.length->(∀(j:Nat)(c:aC)(v:Value),cs[j]?=some c->vs[j]?=some v->c.rep M w v)->an M w cs vs
 | [],[],_,_=>trivial
 | c::cs,v::vs,hl,h=>⟨h 0 c v rfl rfl,an.zj (by simpa using hl) fun j c' v' hc hv=>h (j+1) c' v' (by simpa using hc) (by simpa using hv)⟩
 | [],_::_,hl,_=>by simp at hl
 | _::_,[],hl,_=>by simp at hl
theorem an.append{M:c6}{w:World}:∀{cs vs cs' vs'},an M w cs vs->an M w cs' vs'->an M w (cs++cs') (vs++vs')
 | [],[],_,_,_,h=>h
 | _::_,_::_,_,_,⟨a,b⟩,h=>⟨a,b.append h⟩
 | [],_::_,_,_,k,_=>k.elim
 | _::_,[],_,_,k,_=>k.elim
theorem an.take{M:c6}{w:World}:∀(n:Nat){cs vs},an M w cs vs->an M w (cs.take n) (vs.take n)
 | 0,_,_,_=>trivial
 | _+1,[],[],_=>trivial
 | n+1,_::_,_::_,⟨a,b⟩=>⟨a,b.take n⟩
 | _+1,[],_::_,k=>k.elim
 | _+1,_::_,[],k=>k.elim
theorem an.drop{M:c6}{w:World}:∀(n:Nat){cs vs},an M w cs vs->an M w (cs.drop n) (vs.drop n)
 | 0,_,_,h=>h
 | _+1,[],[],_=>trivial
 | n+1,_::_,_::_,⟨_,b⟩=>b.drop n
 | _+1,[],_::_,k=>k.elim
 | _+1,_::_,[],k=>k.elim
theorem an.one{M:c6}{w:World}:∀{cs vs},an M w cs vs->∀v∈vs,v.oneCell'=true
 | [],[],_=>aT
 | c::_,v::_,⟨a,b⟩=>by
   intro x hx;rcases cp.1 hx with rfl | hx
   .exact c.one a
   .exact b.one x hx
 | [],_::_,k=>k.elim
 | _::_,[],k=>k.elim
def aQ.shape:aQ->Option (Option Nat)
 | .one _=>some none
 | .agg cs=>some (some cs.length)
 | .rows _=>none
def aQ.cells:aQ->List aC
 | .one c=>[c]
 | .agg cs=>cs
 | .rows _=>[]
def aQ.cell(t:aQ)(j:Nat):aC:=t.cells.getD j .bad
def pack:List Value->Value
 | [v]=>v
 | vs=>.tuple vs.toArray
inductive Out where
 | ret (rs:List aQ)
 | retr (rs:List aQ) (ts:List (List aC))
 | pan (c:aC)
 | DH (f:Nat) (args news:List aQ)
def oU(M:c6)(w:World):Out->Ending->Prop
 | .ret rs,e=>∃vs,e=.returned (pack vs)/\cC M w rs vs
 | .retr _ _,_=>False
 | .DH _ _ _,_=>False
 | .pan c,e=>∃v,e=.panicked [{ v,recovered:=false }]/\c.rep M w v
def Good(M:c6)(w:World):Prop:=∀x∈be4.Zy,¬M x.1/\∃T fz,w.heap[x.1]?=some (.cells x.2 T fz)
def bf(M:c6)(w:World):Prop:=(∀b,M b->b<w.heap.size)/\Good M w
def Good.dJ{M M':c6}{w w':World}(h:Good M w)(k:av M w M' w'):Good M' w':=fun x hx=>by
 obtain⟨h1,T,fz,h2⟩:=h x hx;obtain⟨h3,h4⟩:=k x.1 _ h1 h2 rfl;exact⟨h3,T,fz,h4⟩
def Good.below{M:c6}{w w':World}{n:Nat}(h:Good M w)(hn:n=w.heap.size)(k:Below n w w'):Good M w':=by subst hn;exact h.dJ (av.below k)
def Good.sub{M M':c6}{w:World}(h:Good M w)(k:∀b,M' b->M b):Good M' w:=fun x hx=>⟨fun hm=>(h x hx).1 (k _ hm),(h x hx).2⟩
def bf.sub{M M':c6}{w:World}(h:bf M w)(k:∀b,M' b->M b):bf M' w:=⟨fun b hb=>h.1 b (k b hb),h.2.sub k⟩
def aX(P:j5)(f:FuncId)(args:List aQ)(out:Out):Prop:=
 (∀as w,(callFunc f as).run P w=.ok (.enter f as) w) /\
 ∀(M:c6)(w:World)(vs:j0),bf M w->cC M w args vs ->
  Calls P f vs.toArray w fun e w'=>Below w.heap.size w w'/\oU M w' out e
def ao(P:j5)(op:Op)(ty:TypeId)(args:List aQ)(t:aQ):Prop:=
 ∀(M:c6)(w:World)(ρ:Operand->Value)(o:Oper),o.op=op->o.type=ty->cC M w args (op.operands.toList.map ρ) ->
  ∃v,(execOp ρ o).run P w=.ok (.value v) w/\t.rep M w v
def VS(P:j5)(op:Op)(ty:TypeId)(E sz:Nat)(pre post:List aQ)(ts:List (List aC))(rs:List aQ)(ts':List (List aC)):Prop:=
 ts'.length=ts.length/\(∀t∈ts',t.length=sz) /\
 ∀(M:c6)(w:World)(a:Act)(o:Oper)(c:Call)(K:j4)(Q:iN)(g off cap:Nat)(cur:iS)(vs1 vs2:j0),o.op=op->o.type=ty->op=.call c ->
  c.args.toList.map a.eval=vs1++.slice (some ⟨g,off,none⟩) ts.length cap::vs2->bf M w->M g->w.heap[g]?=some (.cells cur E (0,0)) ->
  off+ts.length*sz<=cur.size->ts.length<=cap->cap<=maxLen->an M w ts.flatten ((cur.toList.drop off).take (ts.length*sz))->cC M w pre vs1->cC M w post vs2 ->
  (∀w' cur' us,w.grownBy w' (some g)->w'.heap[g]?=some (.cells cur' E (0,0))->cur'.size=cur.size->(∀j,(j<off\/off+ts.length*sz<=j)->cur'[j]?=cur[j]?)->cC M w' rs us ->
   an M w' ts'.flatten ((cur'.toList.drop off).take (ts.length*sz))->K (a.put o.dst (pack us)) w')->o.wp P a w K Q
def aC.aw(cells:List aC):aC where
 rep:=fun M w v=>∃b off cs T fz,v=.pointer (some ⟨b,off,none⟩)/\¬M b/\w.heap[b]?=some (.cells cs T fz)/\an M w cells ((cs.toList.drop off).take cells.length)
 mono:=by
  rintro M w M' w' v hk ⟨b,off,cs,T,fz,rfl,hm,hh,hr⟩;obtain⟨h1,h2⟩:=hk b _ hm hh rfl;exact⟨b,off,cs,T,fz,rfl,h1,h2,hr.mono hk⟩
 one:=by
  rintro M w v ⟨b,off,cs,T,fz,rfl,_⟩;rfl
def aC.gv(f:FuncId)(caps:List aC):aC where
 rep:=fun M w v=>∃vs:List Value,v=.func (.func f) #[] vs.toArray/\an M w caps vs
 mono:=by
  rintro M w M' w' v hk ⟨vs,rfl,hr⟩;exact⟨vs,rfl,hr.mono hk⟩
 one:=by
  rintro M w v ⟨vs,rfl,_⟩;rfl
def aC.slice(sz:Nat)(ts:List (List aC)):aC where
 rep:=fun M w v=>∃a cap,v=.slice a ts.length cap/\ts.length<=cap/\cap<=maxLen/\(ts=[]\/∃b off cs T fz,a=some ⟨b,off,none⟩/\¬M b/\w.heap[b]?=some (.cells cs T fz) /\
  ∀i t,ts[i]?=some t->t.length=sz/\an M w t ((cs.toList.drop (off+i*sz)).take sz))
 mono:=by
  rintro M w M' w' v hk ⟨a,cap,rfl,hc,hc2,h⟩;refine⟨a,cap,rfl,hc,hc2,?_⟩;rcases h with h | ⟨b,off,cs,T,fz,rfl,hm,hh,hr⟩
  .exact .inl h
  .obtain⟨h1,h2⟩:=hk b _ hm hh rfl;exact .inr ⟨b,off,cs,T,fz,rfl,h1,h2,fun i t ht=>⟨(hr i t ht).1,(hr i t ht).2.mono hk⟩⟩
 one:=by
  rintro M w v ⟨a,cap,rfl,_⟩;rfl
inductive C0 where
 | u (i j:Nat)
 | k (v:Value)
 | sr (sz cid:Nat)
inductive CR where
 | c (x:C0)
 | ref (off:Nat) (cells:List C0)
inductive SC where
 | c (x:C0)
 | ref (off:Nat) (cells:List C0)
 | gv (f:Nat) (caps:List CR)
 | p (b off:Nat)
 | r (b:Nat)
 | rp (b sz:Nat) (i:C0) (off:Nat)
 | rs (b sz:Nat) (lo hi:C0)
inductive SW where
 | one (c:SC)
 | agg (cs:List SC)
inductive SV where
 | junk
 | undef
 | w (x:SW)
 | tup (xs:List SW)
inductive Bx where
 | var (T:Nat) (cells:List SC)
 | row (E sz cid:Nat)
 | part (E sz cid:Nat)
 | dead
structure il where
 tm:List (Nat×SV)
 bx:List (Nat×Bx)
 sl:List Nat
def look{α:Type}(l:List (Nat×α))(n:Nat):Option α:=
 match l with
 | []=>none
 | (m,x)::l=>if m=n then some x else look l n
structure St where
 tm:List (Nat×SV)
 bx:List (Nat×Bx)
 sl:List Nat
def St.t(s:St)(n:Nat):SV:=(look s.tm n).getD .junk
def St.b(s:St)(n:Nat):Option Bx:=look s.bx n
def St.s(s:St)(n:Nat):Bool:=s.sl.contains n
def St.app(s:St)(e:il):St:=⟨e.tm++s.tm,e.bx++s.bx,e.sl++s.sl⟩
inductive Q (α:Type) where
 | ret (a:α)
 | fail
 | t (n:Nat) (k:SV->Q α)
 | b (n:Nat) (k:Option Bx->Q α)
 | s (n:Nat) (k:Bool->Q α)
inductive Loc where
 | t (n:Nat)
 | b (n:Nat)
 | s (n:Nat)
 deriving DecidableEq
def Q.bind{α β:Type}:Q α->(α->Q β)->Q β
 | .ret a,f=>f a
 | .fail,_=>.fail
 | .t n k,f=>.t n fun x=>(k x).bind f
 | .b n k,f=>.b n fun x=>(k x).bind f
 | .s n k,f=>.s n fun x=>(k x).bind f
instance:Monad Q where
 pure:=Q.ret
 bind:=Q.bind
def Q.run{α:Type}(s:St):Q α->Option α
 | .ret a=>some a
 | .fail=>none
 | .t n k=>(k (s.t n)).run s
 | .b n k=>(k (s.b n)).run s
 | .s n k=>(k (s.s n)).run s
def Q.log{α:Type}(s:St):Q α->List Loc
 | .ret _=>[]
 | .fail=>[]
 | .t n k=>.t n::(k (s.t n)).log s
 | .b n k=>.b n::(k (s.b n)).log s
 | .s n k=>.s n::(k (s.s n)).log s
def cp6(n:Nat):Q SV:=.t n .ret
def AA(n:Nat):Q (Option Bx):=.b n .ret
def au6(n:Nat):Q Bool:=.s n .ret
def Q.of{α:Type}:Option α->Q α
 | some a=>.ret a
 | none=>.fail
def ask(p:Prop)[Decidable p]:Q Unit:=if p then .ret ()else .fail
def lJ(pt:Bool)(E sz cid:Nat):Bx:=if pt then .part E sz cid else .row E sz cid
def vv(b:Nat):Q (Bool×Nat×Nat×Nat):=do
 match <-AA b with
 | some (.row E sz cid)=>return (false,E,sz,cid)
 | some (.part E sz cid)=>return (true,E,sz,cid)
 | _=>.fail
def tH(nb:Nat):Q Unit:=do
 let x <-AA nb
 ask (x.isNone=true)
 ask ((<-au6 nb)=false)
inductive eV where
 | none
 | prim (args:List SW) (sh:Option Nat)
 | call (f:Nat) (args:List SW) (sh:List (Option Nat))
 | callv (c:C0) (args:List SW) (sh:List (Option Nat))
 | lit (sz:Nat) (tss:List (List C0))
 | make (zero:j0) (bytes:Nat) (len cap:C0)
 | app (sz bytes:Nat) (cid:Option Nat) (src:Option C0) (row:Option Nat)
 | idx (cid:Nat) (i:C0)
 | ldrow (cid:Nat) (i:C0) (off sz:Nat) (agg:Bool)
 | strow (cid sz:Nat) (i:C0) (off:Nat) (cells:List C0)
 | lenrow (cid:Nat)
 | rop (cid E sz:Nat) (view:Option (C0×C0)) (pre post:List SW) (sh:List (Option Nat))
 | view (cid:Nat) (lo hi mx:C0)
def eV.ids:eV->Nat
 | .none | .idx .. | .view ..=>0
 | .call _ _ sh | .callv _ _ sh=>sh.length
 | .rop _ _ _ _ _ _ sh=>sh.length+1
 | _=>1
def mF(P:j5)(T:Nat):Option (Bool×Nat):=
 match P.underlying T,P.info? T with
 | some d,some i=>some ((match d with | .struct _ | .array _ _=>true | _=>false),i.size)
 | _,_=>none
def ZK(P:j5)(T:Nat):Option (Option Nat):=
 (mF P T).map fun(a,n)=>if a then some n else none
def su(i:Nat):Option Nat->SW
 | none=>.one (.c (.u i 0))
 | some n=>.agg ((List.range n).map fun j=>.c (.u i j))
def aP4:Value->SV
 | .agg cs=>if cs.toList.all (·.oneCell')then .w (.agg (cs.toList.map fun v=>.c (.k v)))else .junk
 | .tuple _=>.junk
 | .func ..=>.junk
 | v=>.w (.one (.c (.k v)))
def Nx:Operand->Q SV
 | .tmp t=>cp6 t
 | .const v=>.ret (aP4 v)
 | .func f=>.ret (.w (.one (.gv f [])))
 | .global _=>.ret .junk
def SV.sw:SV->Option SW
 | .w x=>some x
 | _=>none
def SW.sc:SW->Option SC
 | .one c=>some c
 | _=>none
def SW.cells:SW->List SC
 | .one c=>[c]
 | .agg cs=>cs
def Ua(x:j6):Q SW:=do let v <-Nx x;Q.of v.sw
def qW(x:j6):Q SC:=do let v <-Ua x;Q.of v.sc
def XI:List (Nat×Operand)->Q (List (Nat×SW))
 | []=>.ret []
 | (i,x)::xs=>do let v <-Ua x;let vs <-XI xs;return (i,v)::vs
def rM:SC->Q (C0×List Nat)
 | .c x=>.ret (x,[])
 | .r b=>do
   let some (.row _ sz cid) <-AA b | .fail
   return (.sr sz cid,[b])
 | _=>.fail
def sX:List SC->Q (List C0×List Nat)
 | []=>.ret ([],[])
 | c::cs=>do let (x,l) <-rM c;let (xs,ls) <-sX cs;return (x::xs,l++ls)
def Al:SC->Q (SC×List Nat)
 | .r b=>do
   let some (.row _ sz cid) <-AA b | .fail
   return (.c (.sr sz cid),[b])
 | .p b off=>do
   let some (.var _ cells) <-AA b | .fail
   let (xs,l) <-sX cells
   return (.ref off xs,b::l)
 | .rp ..=>.fail
 | .rs ..=>.fail
 | c=>.ret (c,[])
def Gk:List SC->Q (List SC×List Nat)
 | []=>.ret ([],[])
 | c::cs=>do let (x,l) <-Al c;let (xs,ls) <-Gk cs;return (x::xs,l++ls)
def aI9:SW->Q (SW×List Nat)
 | .one c=>do let (c,l) <-Al c;return (.one c,l)
 | .agg cs=>do let (cs,l) <-Gk cs;return (.agg cs,l)
def tL:List Operand->Q (List SW×List Nat)
 | []=>.ret ([],[])
 | x::xs=>do let v <-Ua x;let (y,l) <-aI9 v;let (ys,ls) <-tL xs;return (y::ys,l++ls)
def XN(place:Nat->Option (Nat×Nat))(cells:List SC):List (Nat×SW)->Option (List SC)
 | []=>some cells
 | (i,v)::rest=>match place i with
   | none=>none
   | some (off,size)=>
     if v.cells.length≠size || off+v.cells.length>cells.length then none
     else XN place (cells.take off++v.cells++cells.drop (off+v.cells.length)) rest
def Uy(P:j5)(T:Nat):Option (List (Nat×Nat)):=
 match P.underlying T with
 | some (.struct fs)=>fs.toList.mapM fun f=>(P.info? f.type).map fun i=>(f.offset,i.size)
 | _=>none
def jm(P:j5)(T:Nat):Option (List Value):=
 match P.info? T with
 | some i=>match i.zero with
   | some z=>if z.cells.toList.all (·.oneCell')&&z.cells.size==i.size then some z.cells.toList else none
   | none=>none
 | none=>none
def tj(P:j5)(T f:Nat):Option (Nat×Nat×Nat):=
 match P.underlying T with
 | some (.struct fs)=>match fs[f]? with
   | some fl=>(P.info? fl.type).map fun i=>(fl.type,fl.offset,i.size)
   | none=>none
 | _=>none
def dZ(P:j5)(T:Nat):Option (Nat×Nat×Nat):=
 match P.underlying T with
 | some (.slice e)=>(P.info? e).map fun i=>(e,i.size,i.bytes)
 | _=>none
def bL9(P:j5)(T:Nat):Option (List (Option Nat)):=
 match P.underlying T with
 | some (.tuple ts)=>ts.toList.mapM (ZK P)
 | _=>(ZK P T).map fun s=>[s]
def rZ(P:j5)(f:Nat):Bool:=
 match P.funcs[f]? with
 | some fn=>fn.name != "runtime.NumGoroutine" && fn.body.isSome
 | none=>false
def mu(ni:Nat)(sh:List (Option Nat)):SV:=
 match sh with
 | [x]=>.w (su ni x)
 | xs=>.tup (xs.mapIdx fun j x=>su (ni+j) x)
def put(o:Oper)(v:SV):List (Nat×SV):=
 match o.dst with
 | some d=>[(d,v)]
 | none=>[]
def lP(o:Oper)(v:SV):il×eV:=(⟨put o v,[],[]⟩,.none)
def yK(P:j5)(o:Oper)(ni:Nat):Q (il×eV):=do
 let (args,sl) <-tL o.op.operands.toList
 let sh <-Q.of (ZK P o.type)
 return (⟨put o (.w (su ni sh)),[],sl⟩,.prim args sh)
def aB4(l:List SC)(off n:Nat):Option (List SC):=if off+n<=l.length then some ((l.drop off).take n)else none
def GM(agg:Bool)(cs:List SC):Option SV:=
 if agg then some (.w (.agg cs))else match cs with
  | [c]=>some (.w (.one c))
  | _=>none
def cd7:CR->SW
 | .c x=>.one (.c x)
 | .ref off cs=>.one (.ref off cs)
def YA(P:j5)(o:Oper)(ni:Nat)(f:Nat)(args:List Operand)(caps:List CR):Q (il×eV):=do
 let (as,sl) <-tL args
 let sh <-Q.of (bL9 P o.type)
 ask (rZ P f=true)
 return (⟨put o (mu ni sh),[],sl⟩,.call f (as++caps.map cd7) sh)
def bc3:SC->Q (CR×List Nat)
 | .p b 0=>do
   let some (.var _ cells) <-AA b | .fail
   let (xs,l) <-sX cells
   return (.ref 0 xs,b::l)
 | .ref off xs=>.ret (.ref off xs,[])
 | c=>do let (x,l) <-rM c;return (.c x,l)
def Uv:List Operand->Q (List CR×List Nat)
 | []=>.ret ([],[])
 | v::vs=>do let c <-qW v;let (x,l) <-bc3 c;let (xs,ls) <-Uv vs;return (x::xs,l++ls)
def isNil:C0->Bool
 | .k (.slice none 0 0)=>true
 | _=>false
def Yt(P:j5)(o:Oper)(ni:Nat)(T:Nat)(x:j6):Q (il×eV):=do
 let c <-qW x
 let (ag,n) <-Q.of (mF P T)
 match c with
 | .p b off=>
   let some (.var _ cells) <-AA b | .fail
   let cs <-Q.of (aB4 cells off n)
   let v <-Q.of (GM ag cs)
   return lP o v
 | .ref off cells=>
   ask (0<n)
   let cs <-Q.of (aB4 (cells.map .c) off n)
   let v <-Q.of (GM ag cs)
   return lP o v
 | .rp b sz i off=>
   let (_,_,sz',cid) <-vv b
   ask (sz'=sz/\off+n<=sz)
   return (⟨put o (.w (su ni (if ag then some n else none))),[],[]⟩,.ldrow cid i off n ag)
 | _=>yK P o ni
def Oo(P:j5)(o:Oper)(ni:Nat)(T:Nat)(x y:j6):Q (il×eV):=do
 let c <-qW x
 let v <-Ua y
 let (_,n) <-Q.of (mF P T)
 match c with
 | .p b off=>
   let some (.var T' cells) <-AA b | .fail
   ask ((<-au6 b)=false)
   ask (v.cells.length=n/\off+n<=cells.length)
   return (⟨put o .undef,[(b,.var T' (cells.take off++v.cells++cells.drop (off+n)))],[]⟩,.none)
 | .rp b sz i off=>
   let (pt,E,sz',cid) <-vv b
   ask ((<-au6 b)=false)
   let (xs,sl) <-sX v.cells
   ask (sz'=sz/\v.cells.length=n/\off+n<=sz/\sl.contains b=false)
   return (⟨put o .undef,[(b,lJ pt E sz' ni)],sl⟩,.strow cid sz i off xs)
 | _=>.fail
def CH(P:j5)(o:Oper)(nb ni:Nat)(t:c7)(x y:j6):Q (il×eV):=do
 let (e,sz,by_) <-Q.of (dZ P (t.getD 0 0))
 ask (t=[t.getD 0 0,t.getD 0 0]/\0<sz)
 let _ <-Q.of (jm P e)
 let a <-qW x
 let c <-qW y
 let (cid,kill) <-(match a with
  | .r b=>do
    let some (.row e1 s1 cid) <-AA b | .fail
    ask ((<-au6 b)=false)
    ask (e1=e/\s1=sz)
    return (some cid,[(b,Bx.dead)])
  | .c y=>do
    ask (isNil y=true)
    return (none,[])
  | _=>.fail)
 let (src,row) <-(match c with
  | .r b=>do
    let some (.row _ s2 cid) <-AA b | .fail
    ask (s2=sz/\kill.all (fun z=>z.1 != b))
    return (none,some cid)
  | .c y=>return (some y,none)
  | _=>.fail)
 tH nb
 return (⟨put o (.w (.one (.r nb))),(nb,.row e sz ni)::kill,[]⟩,.app sz by_ cid src row)
def ay4(P:j5)(o:Oper)(nb:Nat)(T:Nat):Q (il×eV):=do
 let z <-Q.of (jm P T)
 tH nb
 return (⟨put o (.w (.one (.p nb 0))),[(nb,.var T (z.map fun v=>.c (.k v)))],[]⟩,.none)
def bv5(o:Oper)(nb:Nat)(T:Nat)(x:j6):Q (il×eV):=do
 let v <-Ua x
 tH nb
 return (⟨put o (.w (.one (.p nb 0))),[(nb,.var T v.cells)],[]⟩,.none)
def am5(P:j5)(o:Oper)(ni:Nat)(x:j6):Q (il×eV):=do
 let c <-qW x
 match c with
 | .p b off=>return lP o (.w (.one (.p b off)))
 | .ref off cs=>return lP o (.w (.one (.ref off cs)))
 | .gv f cs=>return lP o (.w (.one (.gv f cs)))
 | .rp b sz i off=>return lP o (.w (.one (.rp b sz i off)))
 | _=>yK P o ni
def Ok(P:j5)(o:Oper)(T:Nat)(parts:List (Nat×Operand)):Q (il×eV):=do
 let pl <-Q.of (Uy P T)
 let z <-Q.of (jm P T)
 let ps <-XI parts
 let cs <-Q.of (XN (pl[·]?) (z.map fun v=>.c (.k v)) ps)
 return lP o (.w (.agg cs))
def aq0(P:j5)(o:Oper)(nb ni:Nat)(T len:Nat)(parts:List (Nat×Operand)):Q (il×eV):=do
 let (e,sz,by_) <-Q.of (dZ P T)
 let ps <-XI parts
 ask (ps.map (·.1)=List.range len/\ps.all (fun p=>p.2.cells.length==sz)=true/\len*sz<=16777216/\0<sz)
 let z <-Q.of (jm P e)
 let (xs,sl) <-sX (ps.flatMap fun p=>p.2.cells)
 tH nb
 return (⟨put o (.w (.one (.r nb))),[(nb,.row e sz ni)],sl⟩,.lit sz ((List.range len).map fun i=>(xs.drop (i*sz)).take sz))
def Vj(P:j5)(o:Oper)(nb ni:Nat)(T:Nat)(l c:j6):Q (il×eV):=do
 let (e,sz,by_) <-Q.of (dZ P T)
 let SC.c x <-qW l | .fail
 let SC.c y <-qW c | .fail
 let z <-Q.of (jm P e)
 ask (0<sz)
 tH nb
 return (⟨put o (.w (.one (.r nb))),[(nb,.row e sz ni)],[]⟩,.make z by_ x y)
def vG(P:j5)(o:Oper)(ni:Nat)(T:Nat)(x:j6)(f:Nat):Q (il×eV):=do
 let c <-qW x
 match c with
 | .p b off=>
   let (_,fo,fs) <-Q.of (tj P T f)
   ask (0<fs)
   return lP o (.w (.one (.p b (off+fo))))
 | .ref off cs=>
   let (_,fo,fs) <-Q.of (tj P T f)
   ask (0<fs)
   return lP o (.w (.one (.ref (off+fo) cs)))
 | .rp b sz i off=>
   let (_,fo,fs) <-Q.of (tj P T f)
   ask (0<fs)
   return lP o (.w (.one (.rp b sz i (off+fo))))
 | _=>yK P o ni
def OV(P:j5)(o:Oper)(T:Nat)(x:j6)(f:Nat):Q (il×eV):=do
 let SW.agg cs <-Ua x | .fail
 let (ft,fo,_) <-Q.of (tj P T f)
 let (ag,n) <-Q.of (mF P ft)
 let cs <-Q.of (aB4 cs fo n)
 let v <-Q.of (GM ag cs)
 return lP o v
def zx(o:Oper)(x:j6)(i:Nat):Q (il×eV):=do
 let SV.tup vs <-Nx x | .fail
 let v <-Q.of vs[i]?
 return lP o (.w v)
def VV(o:Oper)(f:Nat)(first caps:Array Operand):Q (il×eV):=do
 ask (first.isEmpty=true)
 let (cs,sl) <-Uv caps.toList
 return (⟨put o (.w (.one (.gv f cs))),[],sl⟩,.none)
def bX0(P:j5)(T:Nat):Option (Nat×Nat):=
 match P.underlying T with
 | some (.array len e)=>(P.info? e).map fun i=>(len,i.size)
 | _=>none
def Pu(P:j5)(o:Oper)(ni:Nat)(T:Nat)(x i:j6):Q (il×eV):=do
 let c <-qW x
 match c with
 | .r b=>
   let SC.c y <-qW i | .fail
   let (_,_,sz,cid) <-vv b
   let (e',sz',_) <-Q.of (dZ P T)
   ask (sz'=sz)
   return (⟨put o (.w (.one (.rp b sz y 0))),[],[]⟩,.idx cid y)
 | .rp b sz j off=>do
   let SC.c (C0.k (Value.int IntKind.i64 n)) <-qW i | .fail
   let (len,es) <-Q.of (bX0 P T)
   ask (0<=n/\n<(len:Int))
   return lP o (.w (.one (.rp b sz j (off+n.toNat*es))))
 | _=>yK P o ni
def Pj(P:j5)(o:Oper)(ni:Nat)(x:j6)(args:List Operand):Q (il×eV):=do
 let g <-qW x
 match g with
 | .gv f caps=>YA P o ni f args caps
 | .c y=>
   let (as,sl) <-tL args
   let sh <-Q.of (bL9 P o.type)
   return (⟨put o (mu ni sh),[],sl⟩,.callv y as sh)
 | _=>.fail
def Tj(P:j5)(o:Oper)(ni:Nat)(args:List Operand)(ts:c7):Q (il×eV):=
 match args,ts with
 | [x],T::_=>do
   let v <-qW x
   match v with
   | .r b=>
     let (_,_,_,cid) <-vv b
     let _ <-Q.of (dZ P T)
     return (⟨put o (.w (su ni none)),[],[]⟩,.lenrow cid)
   | _=>yK P o ni
 | _,_=>.fail
def nf:Code->List Oper
 | .region _ ops _=>ops.toList
 | .seq a b=>nf a++nf b
 | .cond _ a b=>nf a++nf b
 | .block _ a=>nf a
 | .scope a=>nf a
 | .loop a=>nf a
 | _=>[]
def rootOf(ops:j8):Nat->Nat->Nat×Nat
 | 0,t=>(t,0)
 | n+1,t=>match ops.find? (fun o=>o.dst==some t)with
   | some o=>match o.op with
     | .fieldAddr _ (.tmp x) _=>rootOf ops n x
     | .nilCheck (.tmp x)=>rootOf ops n x
     | .move (.tmp x)=>rootOf ops n x
     | _=>(t,0)
   | none=>(t,0)
def BM(ops:j8):Nat->Nat->Nat
 | 0,t=>t
 | n+1,t=>match ops.find? (fun o=>o.dst==some t)with
   | some o=>match o.op with
     | .move (.tmp x)=>BM ops n x
     | _=>t
   | none=>t
def stored(ops:j8):List Nat:=ops.filterMap fun o=>match o.op with
 | .store _ (.tmp x) _=>some (rootOf ops 6 x).1
 | _=>none
def GA(ops:j8):List Nat:=(stored ops).filterMap fun x=>match ops.find? (fun o=>o.dst==some x)with
 | some o=>match o.op with
   | .indexAddr _ (.tmp y) _=>some (BM ops 6 y)
   | _=>none
 | none=>none
def bb2(P:j5)(f:Nat):Option Nat:=
 match P.funcs[f]? with
 | some fn=>match fn.body with
   | some c=>(GA (nf c)).find? fun t=>t<fn.params.size
   | none=>none
 | none=>none
def rsz(c:SC)(sz:Nat):Bool:=match c with | .rs _ s0 _ _=>s0==sz | _=>true
def yI(P:j5)(o:Oper)(ni:Nat)(pre:List Operand)(x:j6)(post:List Operand):Q (il×eV):=do
 let (as,sl1) <-tL pre
 let c <-qW x
 let (bs,sl2) <-tL post
 let (b,view) <-(match c with
  | .r b=>return (b,none)
  | .rs b _ lo hi=>return (b,some (lo,hi))
  | _=>.fail:Q (Nat×Option (C0×C0)))
 let (pt,E,sz,cid) <-vv b
 ask (rsz c sz=true)
 ask ((<-au6 b)=false)
 ask ((sl1++sl2).contains b=false)
 let sh <-Q.of (bL9 P o.type)
 return (⟨put o (mu ni sh),[(b,lJ pt E sz (ni+sh.length))],sl1++sl2⟩,.rop cid E sz view as bs sh)
def Pn(P:j5)(o:Oper)(ni:Nat)(T:Nat)(x:j6)(lo hi mx:Option Operand):Q (il×eV):=do
 let c <-qW x
 match c,lo,hi,mx with
 | .r b,some l,some h,some m=>do
   let (_,_,sz,cid) <-vv b
   let (_,sz',_) <-Q.of (dZ P T)
   ask (sz'=sz)
   let SC.c l <-qW l | .fail
   let SC.c h <-qW h | .fail
   let SC.c m <-qW m | .fail
   return (⟨put o (.w (.one (.rs b sz l h))),[],[]⟩,.view cid l h m)
 | _,_,_,_=>yK P o ni
def step(P:j5)(o:Oper)(nb ni:Nat):Q (il×eV):=
 match o.op with
 | .move x | .assign x=>do let v <-Nx x;return lP o v
 | .alloc T=>ay4 P o nb T
 | .box T x=>bv5 o nb T x
 | .load T x=>Yt P o ni T x
 | .store T x y=>Oo P o ni T x y
 | .nilCheck x=>am5 P o ni x
 | .build T parts=>Ok P o T parts.toList
 | .buildSlice T len parts=>aq0 P o nb ni T len parts.toList
 | .makeSlice T l c=>Vj P o nb ni T l c
 | .fieldAddr T x f=>vG P o ni T x f
 | .field T x f=>OV P o T x f
 | .extract x i=>zx o x i
 | .makeFunc (.func f) first caps=>VV o f first caps
 | .indexAddr T x i=>Pu P o ni T x i
 | .call c=>match c.callee with
   | .value (.func f)=>match bb2 P f with
     | some j=>match c.args.toList[j]? with
       | some x=>do
         ask (rZ P f=true)
         yI P o ni (c.args.toList.take j) x (c.args.toList.drop (j+1))
       | none=>.fail
     | none=>YA P o ni f c.args.toList []
   | .value x=>Pj P o ni x c.args.toList
   | .builtin .len=>Tj P o ni c.args.toList c.argTypes.toList
   | .builtin .copy=>match c.args.toList with
     | [x,y]=>yI P o ni [] x [y]
     | _=>.fail
   | .builtin .append=>match c.args.toList with
     | [x,y]=>CH P o nb ni c.argTypes.toList x y
     | _=>.fail
   | .builtin _=>yK P o ni
   | .invoke _ _=>.fail
 | .slice T x lo hi mx=>Pn P o ni T x lo hi mx
 | .binOp .. | .unOp .. | .convert .. | .index .. | .makeInterface ..=>yK P o ni
 | _=>.fail
inductive LV where
 | w (x:SW)
 | row (cid:Nat)
 | nilrow
inductive Tr where
 | fail (why:Nat)
 | need (nd:eV) (op:Op) (ty:Nat) (last:Bool) (k:Tr)
 | split (c:C0) (kt kf:Tr)
 | ret (vs:List SW)
 | retr (vs:List SW) (cid:Nat)
 | pan (x:C0)
 | loop (d:Nat) (inits:List LV) (k:Tr)
 | back (d:Nat) (au:List LV)
def C0.ok(n:Nat):C0->Bool
 | .u i _=>decide (i<n)
 | .k _=>true
 | .sr _ cid=>decide (cid<n)
def CR.ok(n:Nat):CR->Bool
 | .c x=>x.ok n
 | .ref _ cs=>cs.all (C0.ok n)
def SC.ok(n:Nat):SC->Bool
 | .c x=>x.ok n
 | .ref _ cs=>cs.all (C0.ok n)
 | .gv _ cs=>cs.all (CR.ok n)
 | _=>true
def SW.ok(n:Nat):SW->Bool
 | .one c=>c.ok n
 | .agg cs=>cs.all (SC.ok n)
def eV.ok(n:Nat):eV->Bool
 | .none=>true
 | .prim args _=>args.all (SW.ok n)
 | .call _ args _=>args.all (SW.ok n)
 | .callv c args _=>c.ok n&&args.all (SW.ok n)
 | .lit _ tss=>tss.all fun t=>t.all (C0.ok n)
 | .make _ _ l c=>l.ok n&&c.ok n
 | .app _ _ cid src row=>(cid.all fun c=>decide (c<n))&&(src.all fun c=>c.ok n)&&(row.all fun c=>decide (c<n))
 | .idx cid i=>decide (cid<n)&&i.ok n
 | .ldrow cid i _ _ _=>decide (cid<n)&&i.ok n
 | .strow cid _ i _ cs=>decide (cid<n)&&i.ok n&&cs.all (C0.ok n)
 | .lenrow cid=>decide (cid<n)
 | .rop cid _ _ v as bs _=>decide (cid<n)&&(v.all fun x=>x.1.ok n&&x.2.ok n)&&as.all (SW.ok n)&&bs.all (SW.ok n)
 | .view cid l h m=>decide (cid<n)&&l.ok n&&h.ok n&&m.ok n
structure Rec where
 after:List Nat
 tch:List Loc
 wr:List Loc
def il.wr(e:il):List Loc:=e.tm.map (fun x=>.t x.1)++e.bx.map (fun x=>.b x.1)++e.sl.map .s
def bef(l:List Rec):Nat->Rec->Nat->Bool
 | 0,y,i=>y.after.contains i
 | n+1,y,i=>y.after.contains i || y.after.any fun k=>match l[k]? with | some x=>bef l n x i | none=>false
def ordered(eS:List Rec):Bool:=
 let l:=eS.reverse
 (l.zipIdx).all fun(x,i)=>(x.after.all fun j=>j<i)&&(l.zipIdx).all fun(y,j)=>
  i==j || !(x.wr.any fun a=>y.tch.contains a || y.wr.contains a) || (if i<j then bef l 3 y i else bef l 3 x j)
def bQ(o:Oper):List Nat:=(o.after.toList.filter fun e=>Region.binds .any e).map (·.on)
def known(dec:List (Nat×Nat×Bool)):C0->Option Bool
 | .k (.bool b)=>some b
 | .u i j=>(dec.find? fun x=>x.1==i&&x.2.1==j).map (·.2.2)
 | _=>none
def ao3(dec:List (Nat×Nat×Bool))(β:Bool):C0->List (Nat×Nat×Bool)
 | .u i j=>(i,j,β)::dec
 | _=>dec
def parts(dec:List (Nat×Nat×Bool))(c:C0)(k:Bool->List (Nat×Nat×Bool)->Tr):Tr:=
 match known dec c with
 | some β=>k β dec
 | none=>.split c (k true (ao3 dec true c)) (k false (ao3 dec false c))
def cw(N:Nat)(o:Oper):Bool:=
 match o.dst with
 | some d=>decide (d<N)
 | none=>true
def Ej(o:Oper)(last:Bool)(k:Tr):eV->Tr
 | .none=>k
 | nd=>.need nd o.op o.type last k
def tY(P:j5)(N i:Nat)(rest:j8)(eS:List Rec):Bool:=
 (rest.all fun o=>(bQ o).contains i || (match o.op with | .alloc T=>o.guard.isNone&&(jm P T).isSome&&cw N o | .move (.const _)=>o.guard.isNone&&cw N o | _=>false))
 && ordered ((rest.map fun o=>⟨bQ o,[],if(bQ o).contains i then[]else o.dst.toList.map .t⟩).reverse++eS)
def ic(o:Oper):Bool:=
 match o.op with
 | .call c=>(match c.callee with | .value _=>true | _=>false)
 | _=>false
def oT(s:St)(t:Nat):Option C0:=
 match s.t t with
 | .w (.one (.c c))=>some c
 | _=>none
def lk(P:j5)(N:Nat)(ops:j7):List Oper->Nat->Nat->Nat->St->List (Nat×Nat×Bool)->List Rec ->
    (Nat->Nat->St->List (Nat×Nat×Bool)->List Rec->Tr)->Tr
 | [],_,nb,ni,s,dec,eS,k=>k nb ni s dec eS
 | o::rest,i,nb,ni,s,dec,eS,k=>
   let skip:List Loc->List (Nat×Nat×Bool)->Tr:=fun l dec=>
    if cw N o then lk P N ops rest (i+1) nb ni (s.app ⟨put o .undef,[],[]⟩) dec (⟨bQ o,l,(put o .undef).map fun x=>.t x.1⟩::eS) k else .fail i
   let go:List Loc->List (Nat×Nat×Bool)->Q (il×eV)->Tr:=fun l dec q=>
    match q.run s with
    | none=>.fail i
    | some (e,nd)=>if cw N o&&nd.ok ni then
      let eS:=⟨bQ o,l++q.log s,e.wr⟩::eS
      Ej o (ic o&&tY P N i rest eS) (lk P N ops rest (i+1) (nb+1) (ni+nd.ids) (s.app e) dec eS k) nd else .fail i
   let run:List Loc->List (Nat×Nat×Bool)->Tr:=fun l dec=>
    match o.op with
    | .pick (.tmp t) x y=>match oT s t with
      | some c=>parts dec c fun β dec=>go (.t t::l) dec (do let v <-Nx (if β then x else y);return lP o v)
      | none=>.fail i
    | .panic x=>match(Nx x).run s with
      | some (.w (.one (.c c)))=>if tY P N i rest (⟨bQ o,(Nx x).log s,[]⟩::eS)&&o.guard.isNone then .pan c else .fail i
      | _=>.fail i
    | _=>go l dec (step P o nb ni)
   match o.guard with
   | none=>run [] dec
   | some (j,want)=>match(ops[j]?).bind (·.dst)with
     | none=>.fail i
     | some d=>match s.t d with
       | .undef=>skip [.t d] dec
       | _=>match oT s d with
         | some c=>parts dec c fun β dec=>if β=want then run [.t d] dec else skip [.t d] dec
         | none=>.fail i
inductive Ex where
 | normal | exit (id:Nat) | ret
structure Hint where
 tms:List Nat
 rws:List (Nat×Nat)
 rbs:List Nat
 bxs:List (Nat×List (Nat×Nat))
def oS:Code->Nat
 | .seq a b=>oS a+oS b
 | .cond _ a b=>oS a+oS b
 | .block _ a=>oS a
 | .scope a=>oS a
 | .loop a=>oS a+1
 | _=>0
def Kq:Code->List Nat
 | .region _ ops _=>ops.toList.filterMap (·.dst)
 | .seq a b=>Kq a++Kq b
 | .cond _ a b=>Kq a++Kq b
 | .block _ a=>Kq a
 | .scope a=>Kq a
 | .loop a=>Kq a
 | _=>[]
def aS7:Value->Value->Bool
 | .int k n,.int k' n'=>k==k'&&n==n'
 | .bool a,.bool b=>a==b
 | .slice none 0 0,.slice none 0 0=>true
 | .nilIface,.nilIface=>true
 | .pointer none,.pointer none=>true
 | .string a,.string b=>a.data==b.data
 | _,_=>false
def C0.same:C0->C0->Bool
 | .u i j,.u i' j'=>i==i'&&j==j'
 | .k v,.k v'=>aS7 v v'
 | .sr a b,.sr a' b'=>a==a'&&b==b'
 | _,_=>false
def lq{α:Type}(f:α->α->Bool):List α->List α->Bool
 | [],[]=>true
 | x::xs,y::ys=>f x y&&lq f xs ys
 | _,_=>false
def CR.same:CR->CR->Bool
 | .c x,.c y=>x.same y
 | .ref i x,.ref j y=>i==j&&lq C0.same x y
 | _,_=>false
def SC.same:SC->SC->Bool
 | .c x,.c y=>x.same y
 | .ref i x,.ref j y=>i==j&&lq C0.same x y
 | .gv f x,.gv g y=>f==g&&lq CR.same x y
 | .p i j,.p i' j'=>i==i'&&j==j'
 | .r i,.r j=>i==j
 | .rp i j x k,.rp i' j' x' k'=>i==i'&&j==j'&&x.same x'&&k==k'
 | .rs i j x k,.rs i' j' x' k'=>i==i'&&j==j'&&x.same x'&&k.same k'
 | _,_=>false
def SW.same:SW->SW->Bool
 | .one x,.one y=>x.same y
 | .agg x,.agg y=>lq SC.same x y
 | _,_=>false
def SV.same:SV->SV->Bool
 | .junk,.junk=>true
 | .undef,.undef=>true
 | .w x,.w y=>x.same y
 | .tup x,.tup y=>lq SW.same x y
 | _,_=>false
def Bx.same:Bx->Bx->Bool
 | .var T x,.var U y=>T==U&&lq SC.same x y
 | .row i j k,.row i' j' k'=>i==i'&&j==j'&&k==k'
 | .part i j k,.part i' j' k'=>i==i'&&j==j'&&k==k'
 | .dead,.dead=>true
 | _,_=>false
def shW:SW->Option Nat
 | .one _=>none
 | .agg cs=>some cs.length
structure tO where
 lv:LV
 E:Nat
 sz:Nat
 old:Option Nat
def bA2(P:j5)(s:St)(T:Nat):SC->Option tO
 | .r b=>match s.b b,dZ P T with
   | some (.row E sz cid),some (E',sz',_)=>if s.s b=false/\E'=E/\sz'=sz then some ⟨.row cid,E,sz,some b⟩else none
   | _,_=>none
 | .c (.k (.slice none 0 0))=>(dZ P T).map fun(E,sz,_)=>⟨.nilrow,E,sz,none⟩
 | _=>none
def ZE:SC->Bool
 | .c _=>true
 | _=>false
def bR4(s:St):List Nat->Option (List LV)
 | []=>some []
 | t::ts=>match s.t t,bR4 s ts with
   | .w x,some l=>if x.cells.all ZE then some (.w x::l)else none
   | _,_=>none
def bM0(P:j5)(s:St):List (Nat×Nat)->Option (List tO)
 | []=>some []
 | (t,T)::ts=>match s.t t,bM0 P s ts with
   | .w (.one c),some l=>(bA2 P s T c).map fun x=>x::l
   | _,_=>none
def aY1:SV->Option Nat
 | .w (.one (.r b))=>some b
 | .w (.one (.rs b _ _ _))=>some b
 | .w (.one (.rp b _ _ _))=>some b
 | _=>none
def bT7(s:St):List Nat->Option (List (Nat×Bool×Nat×Nat×Nat))
 | []=>some []
 | t::ts=>match aY1 (s.t t),bT7 s ts with
   | some b,some l=>match s.b b with
     | some (.row E sz cid)=>if s.s b then none else some ((b,false,E,sz,cid)::l)
     | some (.part E sz cid)=>if s.s b then none else some ((b,true,E,sz,cid)::l)
     | _=>none
   | _,_=>none
def cl7(P:j5)(s:St)(rws:List (Nat×Nat)):Nat->List SC->Option (List (Sum tO SC))
 | _,[]=>some []
 | j,c::cs=>match cl7 P s rws (j+1) cs with
   | none=>none
   | some l=>match look rws j with
     | some T=>(bA2 P s T c).map fun x=>.inl x::l
     | none=>if ZE c then some (.inr c::l)else none
def bG1(P:j5)(s:St):List (Nat×List (Nat×Nat))->Option (List (Nat×Nat×List (Sum tO SC)))
 | []=>some []
 | (t,rws)::ts=>match s.t t,bG1 P s ts with
   | .w (.one (.p b 0)),some l=>match s.b b with
     | some (.var T cells)=>if s.s b then none else(cl7 P s rws 0 cells).map fun x=>(b,T,x)::l
     | _=>none
   | _,_=>none
structure Head where
 s:St
 nb:Nat
 ni:Nat
 inits:List LV
 F:List (Nat×Option Nat)
def Head.bx(h:Head)(b:Nat)(x:Bx):Head:={ h with s:=h.s.app ⟨[],[(b,x)],[]⟩ }
def Head.tm(h:Head)(t:Nat)(x:SV):Head:={ h with s:=h.s.app ⟨[(t,x)],[],[]⟩ }
def Head.kill(h:Head):Option Nat->Head
 | some b=>h.bx b .dead
 | none=>h
def Head.new(h:Head)(l:LV):Head:={ h with ni:=h.ni+1,inits:=h.inits++[l] }
def inT(h:Head):List Nat->List LV->Head
 | t::ts,.w x::ls=>inT ((h.tm t (.w (su h.ni (shW x)))).new (.w x)) ts ls
 | _,_=>h
def Head.row(h:Head)(x:tO):Head:=
 { ((h.kill x.old).bx h.nb (.row x.E x.sz h.ni)).new x.lv with nb:=h.nb+1,F:=(h.nb,x.old)::h.F }
def inR(h:Head):List (Nat×Nat)->List tO->Head
 | (t,_)::ts,x::ls=>inR ((h.row x).tm t (.w (.one (.r h.nb)))) ts ls
 | _,_=>h
def inP(h:Head):List (Nat×Bool×Nat×Nat×Nat)->Head
 | (b,pt,E,sz,cid)::ls=>inP ((h.bx b (lJ pt E sz h.ni)).new (.row cid)) ls
 | []=>h
def inC(h:Head):List (Sum tO SC)->Head×List SC
 | []=>(h,[])
 | .inl x::ls=>let (h',cs):=inC (h.row x) ls;(h',.r h.nb::cs)
 | .inr c::ls=>let (h',cs):=inC (h.new (.w (.one c))) ls;(h',.c (.u h.ni 0)::cs)
def inB(h:Head):List (Nat×Nat×List (Sum tO SC))->Head
 | []=>h
 | (b,T,ls)::xs=>let (h',cs):=inC h ls;inB (h'.bx b (.var T cs)) xs
def mp(F:List (Nat×Option Nat))(b:Nat):Option Nat:=
 match look F b with
 | some x=>x
 | none=>some b
def CG(ni:Nat)(au:List LV)(F:List (Nat×Option Nat))(hs:St)(x y:SC):Bool:=
 match x,y with
 | .c (.u i j),.c z=>if i<ni then z.same (.u i j)else match au[i-ni]? with
   | some (.w v)=>match v with
     | .one (.c z')=>j==0&&z'.same z
     | .agg cs=>match cs[j]? with
       | some (.c z')=>z'.same z
       | _=>false
     | _=>false
   | _=>false
 | .r b,.r b'=>(hs.b b).isSome&&(match mp F b with | some b''=>b''==b' | none=>false)
 | .r b,.c z=>(hs.b b).isSome&&isNil z&&(mp F b).isNone
 | .p b off,.p b' off'=>(hs.b b).isSome&&(match mp F b with | some b''=>b''==b' | none=>false)&&off==off'
 | .rp b sz i off,.rp b' sz' i' off'=>(hs.b b).isSome&&(match mp F b with | some b''=>b''==b' | none=>false)&&sz==sz'&&off==off'&&i.same i'&&i.ok ni
 | .rs b sz l h,.rs b' sz' l' h'=>(hs.b b).isSome&&(match mp F b with | some b''=>b''==b' | none=>false)&&sz==sz'&&l.same l'&&l.ok ni&&h.same h'&&h.ok ni
 | x,y=>(match x with | .p .. | .r .. | .rp .. | .rs ..=>false | _=>true)&&x.same y&&x.ok ni
def QO{α β:Type}(f:α->β->Bool):List α->List β->Bool
 | [],[]=>true
 | x::xs,y::ys=>f x y&&QO f xs ys
 | _,_=>false
def Ox(ni:Nat)(au:List LV)(F:List (Nat×Option Nat))(hs:St):SW->SW->Bool
 | .one x,.one y=>CG ni au F hs x y
 | .agg xs,.agg ys=>QO (CG ni au F hs) xs ys
 | _,_=>false
def aZ7(ni:Nat)(au:List LV)(F:List (Nat×Option Nat))(hs:St):SV->SV->Bool
 | .junk,_=>true
 | .undef,.undef=>true
 | .w x,.w y=>Ox ni au F hs x y
 | .tup xs,.tup ys=>QO (Ox ni au F hs) xs ys
 | _,_=>false
def zw(ni:Nat)(au:List LV)(F:List (Nat×Option Nat))(hs s:St)(b:Nat):Bool:=
 match hs.b b with
 | some (.var T cs)=>match mp F b with
   | some b'=>(hs.s b || !s.s b')&&(match s.b b' with | some (.var T' cs')=>T==T'&&QO (CG ni au F hs) cs cs' | _=>false)
   | none=>false
 | some (.row E sz cid)=>match mp F b with
   | some b'=>(hs.s b || !s.s b')&&(match s.b b' with
     | some (.row E' sz' cid')=>E==E'&&sz==sz'&&(if cid<ni then cid'==cid else match au[cid-ni]? with | some (.row c)=>c==cid' | _=>false)
     | _=>false)
   | none=>match au[cid-ni]? with | some .nilrow=>decide (ni<=cid) | _=>false
 | some (.part E sz cid)=>match mp F b with
   | some b'=>(hs.s b || !s.s b')&&(match s.b b' with
     | some (.part E' sz' cid')=>E==E'&&sz==sz'&&(if cid<ni then cid'==cid else match au[cid-ni]? with | some (.row c)=>c==cid' | _=>false)
     | _=>false)
   | none=>false
 | _=>true
def fits(ni:Nat)(au:List LV)(F:List (Nat×Option Nat))(hs s:St):Bool:=
 hs.tm.all (fun x=>aZ7 ni au F hs (hs.t x.1) (s.t x.1))&&hs.bx.all (fun x=>zw ni au F hs s x.1)
 && hs.bx.all (fun x=>hs.bx.all fun y=>x.1==y.1 || (match hs.b x.1,hs.b y.1,mp F x.1,mp F y.1 with
  | some .dead,_,_,_ | _,some .dead,_,_ | _,_,none,_ | _,_,_,none=>true
  | _,_,some b,some b'=>b != b'))
def Rm{α:Type}(seen:c7):List (Nat×α)->List (Nat×α)
 | []=>[]
 | (n,x)::l=>if seen.contains n then Rm seen l else(n,x)::Rm (n::seen) l
def St.tidy(s:St):St:=
 ⟨(Rm [] s.tm).filter fun x=>match x.2 with | .junk=>false | _=>true,(Rm [] s.bx),s.sl⟩
def head(P:j5)(hint:Hint)(ds:c7)(s:St)(nb ni:Nat):Option Head:=
 match bR4 s hint.tms,bM0 P s hint.rws,bT7 s hint.rbs,bG1 P s hint.bxs with
 | some a,some b,some p,some c=>
   let h:=inB (inP (inR (inT ⟨s.app ⟨ds.map fun d=>(d,.junk),[],[]⟩,nb,ni,[],[]⟩ hint.tms a) hint.rws b) p) c
   let h:={ h with s:=h.s.tidy }
   if fits ni h.inits h.F h.s s&&decide (h.ni=ni+h.inits.length)then some h else none
 | _,_,_,_=>none
def cs5:Sum tO SC->LV
 | .inl x=>x.lv
 | .inr c=>.w (.one c)
def aM0:List SC->List (Sum tO SC)->List (Nat×Option Nat)
 | .r b::cs,.inl x::xs=>(b,x.old)::aM0 cs xs
 | _::cs,_::xs=>aM0 cs xs
 | _,_=>[]
def ba3(h:Head):List (Nat×Nat)->List tO->List (Nat×Option Nat)
 | (t,_)::ts,x::xs=>match h.s.t t with
   | .w (.one (.r b))=>(b,x.old)::ba3 h ts xs
   | _=>ba3 h ts xs
 | _,_=>[]
def aR1(P:j5)(hint:Hint)(ni:Nat)(h:Head)(s:St):Option (List LV):=
 match bR4 s hint.tms,bM0 P s hint.rws,bT7 s hint.rbs,bG1 P s hint.bxs with
 | some a,some b,some p,some c=>
   let au:=a++b.map (·.lv)++p.map (fun x=>.row x.2.2.2.2)++c.flatMap (fun x=>x.2.2.map cs5)
   let F:=ba3 h hint.rws b++c.flatMap (fun x=>match h.s.b x.1 with | some (.var _ cs)=>aM0 cs x.2.2 | _=>[])
   if fits ni au F h.s s then some au else none
 | _,_,_,_=>none
def ar5(ops:j8):List (Nat×Nat×Nat):=ops.filterMap fun o=>match o.op,o.dst with
 | .call c,some d=>match c.callee,c.args.toList with
   | .builtin .append,.tmp x::_=>some (d,c.argTypes.toList.getD 0 0,x)
   | _,_=>none
 | _,_=>none
def bl5(P:j5)(ops:j8)(E:Nat):Option Nat:=
 (ar5 ops).findSome? fun(_,T,_)=>match dZ P T with | some (e,_,_)=>if e==E then some T else none | none=>none
def vq:List Nat->List Nat
 | []=>[]
 | x::xs=>let r:=vq xs;if r.contains x then r else x::r
def auto(P:j5)(N:Nat)(body:Code)(s:St):Hint:=
 let ops:=nf body
 let ds:=vq (Kq body)
 let ap:=ar5 ops
 let rws:=ds.filterMap fun t=>
  match ops.findSome? (fun o=>if o.dst==some t then(match o.op with | .assign (.tmp x) | .move (.tmp x)=>(ap.find? fun a=>a.1==x) | _=>none)else none)with
  | some (_,T,_)=>match s.t t with
    | .w (.one (.r _))=>some (t,T)
    | .w (.one (.c (.k (.slice none 0 0))))=>some (t,T)
    | _=>none
  | none=>none
 let tms:=ds.filter fun t=>!rws.any (fun x=>x.1==t)&&(match s.t t with | .w x=>x.cells.all ZE | _=>false)
 let sr:=GA ops++ops.filterMap fun o=>match o.op with
  | .slice _ (.tmp y) _ _ (some _)=>some (BM ops 6 y)
  | .call c=>match c.callee with
    | .value (.func f)=>match bb2 P f with
      | some j=>match c.args.toList[j]? with
        | some (.tmp y)=>some (BM ops 6 y)
        | _=>none
      | none=>none
    | _=>none
  | _=>none
 let rbs:=(vq sr).filter fun t=>!ds.contains t&&(match aY1 (s.t t)with | some b=>!s.s b | _=>false)
 let st:=stored ops
 let bxs:=(List.range N).filterMap fun t=>if st.contains t && !ds.contains t then
     match s.t t with
     | .w (.one (.p b 0))=>match s.b b with
       | some (.var _ cells)=>if s.s b then none else some (t,(cells.zipIdx).filterMap fun(c,j)=>match c with
         | .r b'=>match s.b b' with
           | some (.row E _ _)=>(bl5 P ops E).map fun T=>(j,T)
           | _=>none
         | .c (.k (.slice none 0 0))=>(ap.findSome? fun(_,T,x)=>match ops.find? (fun o=>o.dst==some x)with
           | some o=>match o.op with
             | .load _ (.tmp y)=>match ops.find? (fun o=>o.dst==some y)with
               | some o'=>match o'.op with
                 | .fieldAddr S (.tmp z) f=>match tj P S f with
                   | some (_,off,_)=>if off==j&&(rootOf ops 6 z).1==t then some T else none
                   | none=>none
                 | _=>none
               | none=>none
             | _=>none
           | none=>none).map fun T=>(j,T)
         | _=>none)
       | _=>none
     | _=>none
  else none
 ⟨tms,rws,rbs,bxs⟩
abbrev Bj:=List (Nat×Nat×Bool)
def bA1(P:j5)(hint:Hint)(ni:Nat)(h:Head)(d:Nat)(k:Ex->Nat->Nat->St->Bj->Tr):Ex->Nat->Nat->St->Bj->Tr
 | .normal,_,_,s,_=>match aR1 P hint ni h s with
   | some vs=>.back d vs
   | none=>.fail 1003
 | .exit id,nb,ni,s,dec=>k (.exit id) nb ni s dec
 | .ret,nb,ni,s,dec=>k .ret nb ni s dec
def exec(P:j5)(N:Nat)(hints:Nat->Option Hint):Code->Nat->Nat->Nat->Nat->St->Bj->(Ex->Nat->Nat->St->Bj->Tr)->Tr
 | .skip,_,_,nb,ni,s,dec,k=>k .normal nb ni s dec
 | .region _ ops _,_,_,nb,ni,s,dec,k=>lk P N ops ops.toList 0 nb ni s dec [] fun nb ni s dec eS=>if ordered eS then k .normal nb ni s dec else .fail 1000
 | .seq a b,l,d,nb,ni,s,dec,k=>exec P N hints a l d nb ni s dec fun e nb ni s dec=>match e with
   | .normal=>exec P N hints b (l+oS a) d nb ni s dec k
   | e=>k e nb ni s dec
 | .cond c a b,l,d,nb,ni,s,dec,k=>match(Nx c).run s with
   | some (.w (.one (.c x)))=>parts dec x fun β dec=>if β then exec P N hints a l d nb ni s dec k else exec P N hints b (l+oS a) d nb ni s dec k
   | _=>.fail 1001
 | .block id a,l,d,nb,ni,s,dec,k=>exec P N hints a l d nb ni s dec fun e nb ni s dec=>match e with
   | .exit id'=>if id'=id then k .normal nb ni s dec else k (.exit id') nb ni s dec
   | e=>k e nb ni s dec
 | .loop a,l,d,nb,ni,s,dec,k=>
   match head P ((hints l).getD (auto P N a s)) (Kq a) s nb ni with
   | none=>.fail 1002
   | some h=>.loop d h.inits (exec P N hints a (l+1) (d+1) h.nb h.ni h.s dec (bA1 P ((hints l).getD (auto P N a s)) ni h d k))
 | .exit id,_,_,nb,ni,s,dec,k=>k (.exit id) nb ni s dec
 | .ret,_,_,nb,ni,s,dec,k=>k .ret nb ni s dec
 | .scope _,_,_,_,_,_,_,_=>.fail 1004
 | _,_,_,_,_,_,_,_=>.fail 1005
def Bc(P:j5)(s:St):List ResultVar->Q (List SW×List Nat)
 | []=>.ret ([],[])
 | .tmp t::rs=>do let v <-Ua (.tmp t);let (y,l) <-aI9 v;let (ys,ls) <-Bc P s rs;return (y::ys,l++ls)
 | .cell t T::rs=>do
   let .p b off <-qW (.tmp t) | .fail
   let some (.var _ cells) <-AA b | .fail
   let (ag,n) <-Q.of (mF P T)
   let cs <-Q.of (aB4 cells off n)
   let (cs,l) <-Gk cs
   let (ys,ls) <-Bc P s rs
   let v <-(if ag then .ret (SW.agg cs)else match cs with | [c]=>.ret (.one c) | _=>.fail)
   return (v::ys,l++ls)
inductive Arg where
 | v (sh:Option Nat)
 | ref (n:Nat)
 | lent (E sz:Nat)
 | k (v:Value)
def lF(i:Nat):Arg->SV
 | .v sh=>.w (su i sh)
 | .ref n=>.w (.one (.ref 0 ((List.range n).map fun j=>.u i j)))
 | .lent _ _=>.w (.one (.r 0))
 | .k v=>.w (.one (.c (.k v)))
def af(P:j5)(fn:Func)(hints:Nat->Option Hint)(args:List Arg):Tr:=
 match fn.body with
 | none=>.fail 1006
 | some c=>
   if args.length<=fn.ntmps then
   exec P fn.ntmps hints c 0 0 0 args.length ⟨args.mapIdx fun i a=>(i,lF i a),[],[]⟩ [] fun e nb ni s _=>match e with
    | .exit _=>.fail 1007
    | _=>match(Bc P s fn.results.toList).run s with
      | some (vs,_)=>.ret vs
      | none=>.fail 1008
   else .fail 1009
def ZL(i:Nat):List Arg->Option (Nat×Nat×Nat)
 | []=>none
 | .lent E sz::_=>some (i,E,sz)
 | _::l=>ZL (i+1) l
def br4(s:St)(E sz:Nat)(vs:List SW)(l:c7):Tr:=
 match s.b 0 with
 | some (.part E' sz' cid)=>if E'=E/\sz'=sz/\s.s 0=false/\l.contains 0=false then .retr vs cid else .fail 1010
 | _=>.fail 1010
def vA(P:j5)(fn:Func)(hints:Nat->Option Hint)(args:List Arg):Tr:=
 match fn.body,ZL 0 args with
 | some c,some (i,E,sz)=>
   if args.length<=fn.ntmps then
   exec P fn.ntmps hints c 0 0 1 args.length ⟨args.mapIdx fun i a=>(i,lF i a),[(0,.part E sz i)],[]⟩ [] fun e nb ni s _=>match e with
    | .exit _=>.fail 1007
    | _=>match(Bc P s fn.results.toList).run s with
      | some (vs,l)=>br4 s E sz vs l
      | none=>.fail 1008
   else .fail 1009
 | _,_=>.fail 1006
open Go.RowKit (Below)
abbrev Env:=List aQ
def c0(τ:Env):C0->aC
 | .u i j=>(τ.getD i (.rows [])).cell j
 | .k v=>.exact v
 | .sr sz cid=>match τ[cid]? with
   | some (.rows ts)=>.slice sz ts
   | _=>.bad
def ZD(τ:Env):CR->aC
 | .c x=>c0 τ x
 | .ref off cells=>.aw ((cells.map (c0 τ)).drop off)
def cty(τ:Env):SC->aC
 | .c x=>c0 τ x
 | .ref off cells=>.aw ((cells.map (c0 τ)).drop off)
 | .gv f caps=>.gv f (caps.map (ZD τ))
 | _=>.bad
def pw(τ:Env):SW->aQ
 | .one c=>.one (cty τ c)
 | .agg cs=>.agg (cs.map (cty τ))
def OC(τ:Env):LV->aQ
 | .w x=>pw τ x
 | .row cid=>τ.getD cid (.one .bad)
 | .nilrow=>.rows []
def mkS(ag:Bool)(cs:List aC):aQ:=if ag then .agg cs else .one (cs.getD 0 .bad)
def aC.Sub(c d:aC):Prop:=c=d\/((∀M w v,c.rep M w v->∃a l k,v=.slice a l k)/\∀M w v,c.rep M w v->d.rep M w v)
def aC.Sub.rep{c d:aC}(h:c.Sub d){M:c6}{w:World}{v:Value}(hv:c.rep M w v):d.rep M w v:=by
 rcases h with rfl | ⟨_,h⟩
 .exact hv
 .exact h M w v hv
def aO3(τ:Env)(sz:Nat)(src:Option C0)(row:Option Nat)(us:List (List aC)):Prop:=
 match row with
 | some r=>τ[r]?=some (.rows us)
 | none=>match src with
   | some y=>(isNil y=true/\us=[])\/(c0 τ y).Sub (.slice sz us)
   | none=>False
def aT5(τ:Env)(cid:Option Nat)(ts:List (List aC)):Prop:=
 match cid with
 | some c=>τ[c]?=some (.rows ts)
 | none=>ts=[]
def aS1(τ:Env)(view:Option (C0×C0))(ts:List (List aC))(n:Nat)(us:List (List aC)):Prop:=
 match view with
 | none=>n=0/\us=ts
 | some (lo,hi)=>∃k k':IntKind,∃m:Nat,c0 τ lo=.int k n/\c0 τ hi=.int k' m/\n<m/\m<=ts.length/\us=(ts.take m).drop n
def tX(P:j5)(τ:Env)(op:Op)(ty:Nat):eV->List aQ->Prop
 | .none,news=>news=[]
 | .prim args sh,news=>∃t:aQ,news=[t]/\t.shape=some sh/\ao P op ty (args.map (pw τ)) t
 | .call f args sh,news=>news.map aQ.shape=sh.map some/\aX P f (args.map (pw τ)) (.ret news)
 | .callv c args sh,news=>∃f caps,c0 τ c=.gv f caps/\news.map aQ.shape=sh.map some/\aX P f (args.map (pw τ)++caps.map .one) (.ret news)
 | .lit sz tss,news=>news=[.rows (tss.map fun t=>t.map (c0 τ))]
 | .make zero bytes len cap,news=>∃l c:Nat,∃k k',c0 τ len=.int k l/\c0 τ cap=.int k' c/\l<=c/\bytes*c<=140737488355328/\c<=maxLen/\news=[.rows (List.replicate l (zero.map .exact))]
 | .app sz bytes cid src row,news=>∃ts us,aT5 τ cid ts/\aO3 τ sz src row us/\(ts.length+us.length)*bytes<=140737488355328/\ts.length+us.length<=maxLen/\news=[.rows (ts++us)]
 | .idx cid i,news=>∃ts k n,τ[cid]?=some (.rows ts)/\c0 τ i=.int k n/\0<=n/\n<ts.length/\news=[]
 | .ldrow cid i off sz ag,news=>∃ts k n cells,τ[cid]?=some (.rows ts)/\c0 τ i=.int k n/\0<=n/\ts[n.toNat]?=some cells/\(ag=true\/sz=1)/\news=[mkS ag ((cells.drop off).take sz)]
 | .strow cid sz i off xs,news=>∃ts k n cells,τ[cid]?=some (.rows ts)/\c0 τ i=.int k n/\0<=n/\ts[n.toNat]?=some cells /\
   news=[.rows (ts.set n.toNat (cells.take off++xs.map (c0 τ)++cells.drop (off+xs.length)))]
 | .lenrow cid,news=>∃ts,τ[cid]?=some (.rows ts)/\news=[.one (.int .i64 ts.length)]
 | .rop cid E sz view as bs sh,news=>∃ts us us' rs n,τ[cid]?=some (.rows ts)/\aS1 τ view ts n us/\us≠[]/\rs.map aQ.shape=sh.map some/\VS P op ty E sz (as.map (pw τ)) (bs.map (pw τ)) us rs us' /\
   news=rs++[.rows (ts.take n++us'++ts.drop (n+us.length))]
 | .view cid lo hi mx,news=>∃ts k k' k'' ,∃n m:Nat,τ[cid]?=some (.rows ts)/\c0 τ lo=.int k n/\c0 τ hi=.int k' m/\c0 τ mx=.int k'' m/\n<m/\m<=ts.length/\news=[]
def uq(P:j5)(τ:Env):eV->aC->Prop
 | .call f args _,c=>aX P f (args.map (pw τ)) (.pan c)
 | .callv c args _,x=>∃f caps,c0 τ c=.gv f caps/\aX P f (args.map (pw τ)++caps.map .one) (.pan x)
 | _,_=>False
def az{α β:Type}(R:α->β->Prop):List α->List β->Prop
 | [],[]=>True
 | x::xs,y::ys=>R x y/\az R xs ys
 | _,_=>False
def aQ.Sub:aQ->aQ->Prop
 | .one c,.one d=>c.Sub d
 | .agg cs,.agg ds=>az aC.Sub cs ds
 | .rows ts,.rows us=>az (az aC.Sub) ts us
 | _,_=>False
abbrev ai:List aQ->List aQ->Prop:=az aQ.Sub
def bD:Out->Out->Prop
 | .ret rs,.ret us=>ai rs us
 | .retr rs ts,.retr us vs=>rs=us/\ts=vs
 | .pan c,.pan d=>c=d
 | _,_=>False
def vc(P:j5)(post:Out->Prop):Tr->Env->List (List aQ->Prop)->Prop
 | .fail _,_,_=>False
 | .need nd op ty last k,τ,bk=>(∃news,tX P τ op ty nd news/\news.length=nd.ids/\vc P post k (τ++news) bk)\/(last=true/\∃c,uq P τ nd c/\post (.pan c)) \/
   (∃f args sh news,nd=.call f args sh/\(∃cl x,op=.call cl/\cl.callee=.value x)/\news.map aQ.shape=sh.map some/\post (.DH f (args.map (pw τ)) news)/\vc P post k (τ++news) bk)
 | .split c kt kf,τ,bk=>∃β:Bool,c0 τ c=.bool β/\(β=true->vc P post kt τ bk)/\(β=false->vc P post kf τ bk)
 | .ret vs,τ,_=>post (.ret (vs.map (pw τ)))
 | .retr vs cid,τ,_=>∃ts,τ[cid]?=some (.rows ts)/\post (.retr (vs.map (pw τ)) ts)
 | .pan x,τ,_=>post (.pan (c0 τ x))/\∀M w v,(c0 τ x).rep M w v->∃T u,v=.iface T u
 | .loop d inits k,τ,bk=>∃(G:Type)(xY:G->List aQ)(μ:G->Nat)(g0:G),ai (inits.map (OC τ)) (xY g0)/\(∀g,(xY g).length=inits.length) /\
   ∀g,vc P post k (τ++xY g) (bk.take d++[fun ts=>∃g',ai ts (xY g')/\μ g'<μ g])
 | .back d au,τ,bk=>∃f,bk[d]?=some f/\f (au.map (OC τ))
structure Gh where
 blk:Nat
 val:Value
 cur:Array Value
theorem az.imp{α β:Type}{R S:α->β->Prop}(h:∀a b,R a b->S a b):∀{xs ys},az R xs ys->az S xs ys
 | [],[],_=>trivial
 | _::_,_::_,⟨a,b⟩=>⟨h _ _ a,b.imp h⟩
 | [],_::_,k=>k.elim
 | _::_,[],k=>k.elim
theorem az.length{α β:Type}{R:α->β->Prop}:∀{xs ys},az R xs ys->xs.length=ys.length
 | [],[],_=>rfl
 | _::_,_::_,⟨_,b⟩=>by simp[b.length]
 | [],_::_,k=>k.elim
 | _::_,[],k=>k.elim
theorem az.append{α β:Type}{R:α->β->Prop}:∀{xs ys xs' ys'},az R xs ys->az R xs' ys'->az R (xs++xs') (ys++ys')
 | [],[],_,_,_,h=>h
 | _::_,_::_,_,_,⟨a,b⟩,h=>⟨a,b.append h⟩
 | [],_::_,_,_,k,_=>k.elim
 | _::_,[],_,_,k,_=>k.elim
theorem az.take{α β:Type}{R:α->β->Prop}:∀(n:Nat){xs ys},az R xs ys->az R (xs.take n) (ys.take n)
 | 0,_,_,_=>trivial
 | _+1,[],[],_=>trivial
 | n+1,_::_,_::_,⟨a,b⟩=>⟨a,b.take n⟩
 | _+1,[],_::_,k=>k.elim
 | _+1,_::_,[],k=>k.elim
theorem az.drop{α β:Type}{R:α->β->Prop}:∀(n:Nat){xs ys},az R xs ys->az R (xs.drop n) (ys.drop n)
 | 0,_,_,h=>h
 | _+1,[],[],_=>trivial
 | n+1,_::_,_::_,⟨_,b⟩=>b.drop n
 | _+1,[],_::_,k=>k.elim
 | _+1,_::_,[],k=>k.elim
theorem az.get{α β:Type}{R:α->β->Prop}:∀{xs:List α}{ys:List β},az R xs ys->∀(j:Nat)(x:α),xs[j]?=some x->∃y,ys[j]?=some y/\R x y
 | [],[],_,j,x,hx=>by simp at hx
 | x0::xs,y0::ys,⟨a,b⟩,j,x,hx=>by
   cases j with
   | zero=>simp at hx;subst hx;exact⟨y0,rfl,a⟩
   | succ j=>simpa using b.get j x (by simpa using hx)
 | [],_::_,k,_,_,_=>k.elim
 | _::_,[],k,_,_,_=>k.elim
theorem az.mem{α β:Type}{R:α->β->Prop}:∀{xs ys},az R xs ys->∀y∈ys,∃x∈xs,R x y
 | [],[],_,y,hy=>by simp at hy
 | x0::xs,y0::ys,⟨a,b⟩,y,hy=>by
   rcases cp.1 hy with rfl | hy
   .exact⟨x0,cE,a⟩
   .obtain⟨x,hx,h⟩:=b.mem y hy;exact⟨x,cg _ hx,h⟩
 | [],_::_,k,_,_=>k.elim
 | _::_,[],k,_,_=>k.elim
def eB(ex:c6)(τ:Env)(ρ:Nat->Gh)(M:c6)(w:World):SC->Value->Prop
 | .p b off,v=>ex b/\v=.pointer (some ⟨(ρ b).blk,off,none⟩)
 | .r b,v=>ex b/\v=(ρ b).val/\v.oneCell'=true
 | .rp b sz i off,v=>ex b/\∃g o0 len cap k n,(ρ b).val=.slice (some ⟨g,o0,none⟩) len cap/\c0 τ i=.int k n/\0<=n/\v=.pointer (some ⟨g,o0+n.toNat*sz+off,none⟩)
 | .rs b sz lo hi,v=>ex b/\∃g o0 len cap,∃k k':IntKind,∃n m c:Nat,(ρ b).val=.slice (some ⟨g,o0,none⟩) len cap/\c0 τ lo=.int k n/\c0 τ hi=.int k' m/\n<m/\m<=len/\m-n<=c/\c<=maxLen/\v=.slice (some ⟨g,o0+n*sz,none⟩) (m-n) c
 | .c x,v=>(c0 τ x).rep M w v
 | .ref off cells,v=>(aC.aw ((cells.map (c0 τ)).drop off)).rep M w v
 | .gv f caps,v=>(aC.gv f (caps.map (ZD τ))).rep M w v
def gg(ex:c6)(τ:Env)(ρ:Nat->Gh)(M:c6)(w:World):SW->Value->Prop
 | .one c,v=>eB ex τ ρ M w c v
 | .agg cs,v=>∃vs:List Value,v=.agg vs.toArray/\az (eB ex τ ρ M w) cs vs
def iu(ex:c6)(τ:Env)(ρ:Nat->Gh)(M:c6)(w:World):SV->Value->Prop
 | .junk,_=>True
 | .undef,v=>v=undef
 | .w x,v=>gg ex τ ρ M w x v
 | .tup xs,v=>∃vs:List Value,v=.tuple vs.toArray/\az (gg ex τ ρ M w) xs vs
def own(ρ:Nat->Gh)(b:Nat):Bx->Option Nat
 | .var ..=>some (ρ b).blk
 | .row ..=>(ρ b).val.ownBlock
 | .part ..=>(ρ b).val.ownBlock
 | .dead=>none
structure eu where
 M:Nat->Prop
 gh:Gh
def eu.O(M0:eu)(k:Nat):Prop:=M0.gh.val.ownBlock=some k
def eu.ours(M0:eu)(w0:World)(k:Nat):Prop:=w0.heap.size<=k\/M0.O k
structure Kept(M0:eu)(w0 w:World):Prop where
 os:w.os=w0.os
 tape:w.tape=w0.tape
 output:w.output=w0.output
 size:w0.heap.size<=w.heap.size
 block:∀k,k<w0.heap.size->¬M0.O k->w.heap[k]?=w0.heap[k]?
 good:∀x∈be4.Zy,¬M0.M x.1/\¬M0.O x.1/\∃T fz,w0.heap[x.1]?=some (.cells x.2 T fz)
def Kept.and{M0:eu}{w0 w w':World}(h:Kept M0 w0 w)(hb:Below w.heap.size w w'):Kept M0 w0 w':=
 ⟨hb.os.trans h.os,hb.tape.trans h.tape,hb.output.trans h.output,bG h.size hb.size,fun k hk ho=>(hb.block k (cM hk h.size)).trans (h.block k hk ho),h.good⟩
def Kept.alloc{M0:eu}{w0 w:World}(h:Kept M0 w0 w)(ob:Obj):Kept M0 w0 (w.alloc ob):=h.and ((cS _ w).alloc (ah _) ob)
def Kept.setRow{M0:eu}{w0 w:World}(h:Kept M0 w0 w){g:Nat}(hg:M0.ours w0 g)(cs:iS):Kept M0 w0 (w.setRow g cs):=
 ⟨h.os,h.tape,h.output,by simpa[World.setRow]using h.size,fun k hk ho=>by
  rw[ew w g k cs (by rintro rfl;exact hg.elim (fun h=>nX.2 h hk) ho)];exact h.block k hk ho,h.good⟩
def Kept.grown{M0:eu}{w0 w w':World}{row:Option Nat}(h:Kept M0 w0 w)(hg:w.grownBy w' row)(hr:∀k,row=some k->M0.ours w0 k):Kept M0 w0 w':=
 ⟨hg.os.trans h.os,hg.tape.trans h.tape,hg.output.trans h.output,bG h.size hg.size,fun k hk ho=>by
  rw[hg.block k (cM hk h.size) (fun e=>(hr k e.symm).elim (fun h=>nX.2 h hk) ho)];exact h.block k hk ho,h.good⟩
def Ms(M0:eu)(ρ:Nat->Gh)(s:St)(k:Nat):Prop:=M0.M k\/∃b x,s.b b=some x/\s.s b=false/\own ρ b x=some k
def xx(w:World)(E sz:Nat)(v:Value)(n:Nat)(xs:j0):Prop:=
 xs.length=n*sz/\((n=0/\∃c,v=.slice none 0 c) \/
  ∃g off cap cur,v=.slice (some ⟨g,off,none⟩) n cap/\w.heap[g]?=some (.cells cur E (0,0))/\n<=cap/\cap<=maxLen/\off+n*sz<=cur.size/\(cur.toList.drop off).take (n*sz)=xs)
def xx.bG6{w:World}{base E sz n:Nat}{v:Value}{xs:j0}(h:w.ownsRow base E sz v n xs):xx w E sz v n xs:=by
 refine⟨h.1,?_⟩;rcases h.2 with⟨rfl,rfl⟩ | ⟨g,cap,cur,hv,_,hg,hnc,hcm,hcs,htake⟩
 .exact .inl ⟨rfl,0,rfl⟩
 .exact .inr ⟨g,0,cap,cur,hv,hg,hnc,hcm,by rw[bW,hcs];exact cY _ hnc,by rw[gd];exact htake⟩
def yg(w:World)(E sz:Nat)(x:Gh):Prop:=
 ∀g off len cap,x.val=.slice (some ⟨g,off,none⟩) len cap->∀cur,w.heap[g]?=some (.cells cur E (0,0))->cur.size=x.cur.size/\∀j,(j<off\/off+len*sz<=j)->cur[j]?=x.cur[j]?
def ow(base:Nat)(ex:c6)(τ:Env)(ρ:Nat->Gh)(M:c6)(w:World)(b:Nat):Bx->Prop
 | .var T cells=>∃vs:List Value,w.heap[(ρ b).blk]?=some (.cells vs.toArray T (0,0))/\az (eB ex τ ρ M w) cells vs
 | .row E sz cid=>∃ts xs,τ[cid]?=some (.rows ts)/\w.ownsRow base E sz (ρ b).val ts.length xs/\(∀t∈ts,t.length=sz)/\an M w ts.flatten xs
 | .part E sz cid=>∃ts xs,τ[cid]?=some (.rows ts)/\xx w E sz (ρ b).val ts.length xs/\(∀t∈ts,t.length=sz)/\an M w ts.flatten xs/\(ρ b).val.oneCell'=true/\yg w E sz (ρ b)
 | .dead=>True
structure Sat(M0:eu)(w0:World)(N:Nat)(s:St)(τ:Env)(ρ:Nat->Gh)(a:Act)(w:World):Prop where
 below:Kept M0 w0 w
 sz:a.tmps.size=N
 df:a.defers=[]
 tm:∀t,iu (fun b=>(s.b b).isSome) τ ρ (Ms M0 ρ s) w (s.t t) (a.tmps.getD t undef)
 bx:∀b x,s.b b=some x->ow 0 (fun b=>(s.b b).isSome) τ ρ (Ms M0 ρ s) w b x
 inj:∀b b' x x' k,s.b b=some x->s.b b'=some x'->own ρ b x=some k->own ρ b' x'=some k->b=b'
 lo:∀b x k,s.b b=some x->own ρ b x=some k->M0.ours w0 k/\k<w.heap.size
 old:∀k,M0.M k->¬M0.ours w0 k
 pt:∀b E sz cid,s.b b=some (.part E sz cid)->ρ b=M0.gh
section
variable{ex ex':c6}{τ:Env}{ρ ρ':Nat->Gh}{M M':c6}{w w':World}
theorem eB.mono(he:∀b,ex b->ex' b/\ρ' b=ρ b)(hk:av M w M' w'):∀{c:SC}{v},eB ex τ ρ M w c v->eB ex' τ ρ' M' w' c v
 | .p b off,v,⟨h,e⟩=>⟨(he b h).1,by rw[(he b h).2];exact e⟩
 | .r b,v,⟨h,e,o⟩=>⟨(he b h).1,by rw[(he b h).2];exact e,o⟩
 | .rp b sz i off,v,⟨h,g,o0,len,cap,k,n,e⟩=>⟨(he b h).1,g,o0,len,cap,k,n,by rw[(he b h).2];exact e⟩
 | .rs b sz lo hi,v,⟨h,g,o0,len,cap,k,k',n,m,c,e⟩=>⟨(he b h).1,g,o0,len,cap,k,k',n,m,c,by rw[(he b h).2];exact e⟩
 | .c _,_,h=>aC.mono _ hk h
 | .ref _ _,_,h=>aC.mono _ hk h
 | .gv _ _,_,h=>aC.mono _ hk h
theorem gg.mono(he:∀b,ex b->ex' b/\ρ' b=ρ b)(hk:av M w M' w'):∀{c:SW}{v},gg ex τ ρ M w c v->gg ex' τ ρ' M' w' c v
 | .one _,_,h=>eB.mono he hk h
 | .agg _,_,⟨vs,e,h⟩=>⟨vs,e,h.imp fun _ _=>eB.mono he hk⟩
theorem iu.mono(he:∀b,ex b->ex' b/\ρ' b=ρ b)(hk:av M w M' w'):∀{c:SV}{v},iu ex τ ρ M w c v->iu ex' τ ρ' M' w' c v
 | .junk,_,_=>trivial
 | .undef,_,h=>h
 | .w _,_,h=>gg.mono he hk h
 | .tup _,_,⟨vs,e,h⟩=>⟨vs,e,h.imp fun _ _=>gg.mono he hk⟩
end
def oM{ρ ρ':Nat->Gh}{b:Nat}(h:ρ' b=ρ b)(x:Bx):own ρ' b x=own ρ b x:=by
 cases x<;>simp[own,h]
def aJ2{τ m:Env}{i:Nat}(x:aQ)(hi:i<τ.length):(τ++m).getD i x=τ.getD i x:=by
 rw[fI,fI,ek hi]
theorem pO{τ m:Env}{n:Nat}(hn:τ.length=n):∀{x:C0},x.ok n=true->c0 (τ++m) x=c0 τ x
 | .u i j,h=>by
   simp only[C0.ok,jr]at h;simp only[c0,aJ2 (aQ.rows []) (show i<τ.length by omega)]
 | .k _,_=>rfl
 | .sr sz cid,h=>by
   simp only[C0.ok,jr]at h;simp only[c0,ek (show cid<τ.length by omega)]
theorem aZ4{τ:Env}:∀{x:C0},x.ok τ.length=false->c0 τ x=.bad
 | .u i j,h=>by
   simp only[C0.ok,uW]at h;have:τ.getD i (.rows [])=.rows []:=by rw[fI,jQ O];rfl
   simp only[c0,this];rfl
 | .k _,h=>by simp[C0.ok]at h
 | .sr sz cid,h=>by
   simp only[C0.ok,uW]at h;simp only[c0,jQ (show τ.length<=cid by omega)]
def Zh{τ m:Env}{M:c6}{w:World}{v:Value}(x:C0)(h:(c0 τ x).rep M w v):(c0 (τ++m) x).rep M w v:=by
 cases hx:x.ok τ.length with
 | true=>rw[pO rfl hx];exact h
 | false=>rw[aZ4 hx]at h;exact(h:False).elim
def dk{τ m:Env}{x:C0}{v:Value}(h:c0 τ x=.exact v)(hv:v.oneCell'=true):c0 (τ++m) x=.exact v:=by
 cases hx:x.ok τ.length with
 | true=>rw[pO rfl hx];exact h
 | false=>
   rw[aZ4 hx]at h;have:aC.bad.rep (fun _=>False) default v:=by rw[h];exact⟨rfl,hv⟩
   exact(this:False).elim
theorem an.imp{M:c6}{w:World}{α:Type}{f g:α->aC}(h:∀x v,(f x).rep M w v->(g x).rep M w v):∀{xs:List α}{vs},an M w (xs.map f) vs->an M w (xs.map g) vs
 | [],[],_=>trivial
 | _::_,_::_,⟨a,b⟩=>⟨h _ _ a,an.imp h b⟩
 | [],_::_,k=>k.elim
 | _::_,[],k=>k.elim
def Wi{τ m:Env}{M:c6}{w:World}{v:Value}{off:Nat}{cells:List C0}(h:(aC.aw ((cells.map (c0 τ)).drop off)).rep M w v):(aC.aw ((cells.map (c0 (τ++m))).drop off)).rep M w v:=by
 obtain⟨b,o,cs,T,fz,e,hm,hh,hr⟩:=h;refine⟨b,o,cs,T,fz,e,hm,hh,?_⟩;rw[dF,aL]at hr|-;rw[<-mX]at hr|-;exact hr.imp fun x v=>Zh x
theorem bx1{τ m:Env}{M:c6}{w:World}{v:Value}:∀(x:CR),(ZD τ x).rep M w v->(ZD (τ++m) x).rep M w v
 | .c x,h=>Zh x h
 | .ref _ _,h=>Wi h
theorem zX{ex:c6}{τ m:Env}{ρ:Nat->Gh}{M:c6}{w:World}:∀{c:SC}{v},eB ex τ ρ M w c v->eB ex (τ++m) ρ M w c v
 | .p _ _,_,h=>h
 | .r _,_,h=>h
 | .rp b sz i off,v,⟨h,g,o0,len,cap,k,n,e,e2,e3⟩=>⟨h,g,o0,len,cap,k,n,e,dk e2 rfl,e3⟩
 | .rs b sz lo hi,v,⟨h,g,o0,len,cap,k,k',n,m,c,e,e2,e3,e4⟩=>⟨h,g,o0,len,cap,k,k',n,m,c,e,dk e2 rfl,dk e3 rfl,e4⟩
 | .c x,_,h=>Zh x h
 | .ref _ _,_,h=>Wi h
 | .gv f caps,v,⟨vs,e,h⟩=>⟨vs,e,h.imp fun x _=>bx1 x⟩
theorem OP{ex:c6}{τ m:Env}{ρ:Nat->Gh}{M:c6}{w:World}:∀{c:SW}{v},gg ex τ ρ M w c v->gg ex (τ++m) ρ M w c v
 | .one _,_,h=>zX h
 | .agg _,_,⟨vs,e,h⟩=>⟨vs,e,h.imp fun _ _=>zX⟩
theorem av6{ex:c6}{τ m:Env}{ρ:Nat->Gh}{M:c6}{w:World}:∀{c:SV}{v},iu ex τ ρ M w c v->iu ex (τ++m) ρ M w c v
 | .junk,_,_=>trivial
 | .undef,_,h=>h
 | .w _,_,h=>OP h
 | .tup _,_,⟨vs,e,h⟩=>⟨vs,e,h.imp fun _ _=>OP⟩
theorem au8{base:Nat}{ex:c6}{τ m:Env}{ρ:Nat->Gh}{M:c6}{w:World}{b:Nat}:∀{x:Bx},ow base ex τ ρ M w b x->ow base ex (τ++m) ρ M w b x
 | .var _ _,⟨vs,e,h⟩=>⟨vs,e,h.imp fun _ _=>zX⟩
 | .row _ _ cid,⟨ts,xs,e,h⟩=>⟨ts,xs,by
   have hi:cid<τ.length:=(cL.1 e).1;rw[ek hi];exact e,h⟩
 | .part _ _ cid,⟨ts,xs,e,h⟩=>⟨ts,xs,by
   have hi:cid<τ.length:=(cL.1 e).1;rw[ek hi];exact e,h⟩
 | .dead,h=>h
def Sat.ext{M0:eu}{w0:World}{N:Nat}{s:St}{τ:Env}{ρ:Nat->Gh}{a:Act}{w:World}(h:Sat M0 w0 N s τ ρ a w)(m:Env):Sat M0 w0 N s (τ++m) ρ a w:=
 ⟨h.below,h.sz,h.df,fun t=>av6 (h.tm t),fun b x hx=>au8 (h.bx b x hx),h.inj,h.lo,h.old,h.pt⟩
theorem cy4{τ m:Env}{n:Nat}(hn:τ.length=n):∀{x:CR},x.ok n=true->ZD (τ++m) x=ZD τ x
 | .c x,h=>pO hn h
 | .ref off cs,h=>by
   simp only[CR.ok,fS]at h;simp only[ZD];rw[kY (fun x hx=>pO hn (h x hx))]
theorem aq3{τ m:Env}{n:Nat}(hn:τ.length=n):∀{x:SC},x.ok n=true->cty (τ++m) x=cty τ x
 | .c x,h=>pO hn h
 | .ref off cs,h=>by
   simp only[SC.ok,fS]at h;simp only[cty];rw[kY (fun x hx=>pO hn (h x hx))]
 | .gv f cs,h=>by
   simp only[SC.ok,fS]at h;simp only[cty];rw[kY (fun x hx=>cy4 hn (h x hx))]
 | .p ..,_=>rfl
 | .r ..,_=>rfl
 | .rp ..,_=>rfl
 | .rs ..,_=>rfl
theorem ct6{τ m:Env}{n:Nat}(hn:τ.length=n):∀{x:SW},x.ok n=true->pw (τ++m) x=pw τ x
 | .one c,h=>by simp only[pw];rw[aq3 hn h]
 | .agg cs,h=>by
   simp only[SW.ok,fS]at h;simp only[pw];rw[kY (fun x hx=>aq3 hn (h x hx))]
def zL{τ m:Env}{n:Nat}(hn:τ.length=n){l:List SW}(h:l.all (SW.ok n)=true):l.map (pw (τ++m))=l.map (pw τ):=by
 simp only[fS]at h;exact kY (fun x hx=>ct6 hn (h x hx))
def aK5{τ m:Env}{n:Nat}(hn:τ.length=n){l:List C0}(h:l.all (C0.ok n)=true):l.map (c0 (τ++m))=l.map (c0 τ):=by
 simp only[fS]at h;exact kY (fun x hx=>pO hn (h x hx))
theorem tX.ext{P:j5}{τ m:Env}{n:Nat}(hn:τ.length=n){op:Op}{ty:Nat}:∀{nd:eV}{news:List aQ},nd.ok n=true->tX P τ op ty nd news->tX P (τ++m) op ty nd news
 | .none,_,_,h=>h
 | .prim args sh,news,ho,⟨t,e,e2,h⟩=>⟨t,e,e2,by rw[zL hn ho];exact h⟩
 | .call f args sh,news,ho,⟨e,h⟩=>⟨e,by rw[zL hn ho];exact h⟩
 | .callv c args sh,news,ho,⟨f,caps,e,e2,h⟩=>by
   simp only[eV.ok,bR]at ho;exact⟨f,caps,by rw[pO hn ho.1];exact e,e2,by rw[zL hn ho.2];exact h⟩
 | .lit sz tss,news,ho,h=>by
   simp only[eV.ok,fS]at ho;simp only[tX]at h|-;rw[h]
   congr 2
   exact kY (fun t ht=>(aK5 hn (fS.2 (ho t ht))).symm)
 | .make z by_ l c,news,ho,⟨x,y,k,k',e1,e2,h⟩=>⟨x,y,k,k',dk e1 rfl,dk e2 rfl,h⟩
 | .app sz by_ cid src row,news,ho,⟨ts,us,e1,e2,h⟩=>by
   have key:∀{c:Nat}{us:List (List aC)},τ[c]?=some (.rows us)->(τ++m)[c]?=some (.rows us):=fun {c us} h=>by
    rw[ek (cL.1 h).1];exact h
   refine⟨ts,us,?_,?_,h⟩
   .cases cid with
    | none=>exact e1
    | some c=>exact key e1
   .cases row with
    | some r=>exact key e2
    | none=>cases src with
      | none=>exact e2
      | some y=>
        simp only[eV.ok,bR,Option.all_some]at ho;rcases e2 with e2 | e2
        .exact .inl e2
        .exact .inr (by rw[pO hn ho.1.2];exact e2)
 | .idx cid i,news,ho,⟨ts,k,x,e1,e2,h⟩=>⟨ts,k,x,by rw[ek (cL.1 e1).1];exact e1,dk e2 rfl,h⟩
 | .ldrow cid i off sz ag,news,ho,⟨ts,k,x,cells,e1,e2,h⟩=>⟨ts,k,x,cells,by rw[ek (cL.1 e1).1];exact e1,dk e2 rfl,h⟩
 | .strow cid sz i off xs,news,ho,⟨ts,k,x,cells,e1,e2,h1,h2,h3⟩=>by
   simp only[eV.ok,bR]at ho;exact⟨ts,k,x,cells,by rw[ek (cL.1 e1).1];exact e1,dk e2 rfl,h1,h2,by rw[aK5 hn ho.2];exact h3⟩
 | .rop cid E sz view as bs sh,news,ho,⟨ts,us,us',rs,n,e1,e2,e3,e4,e5,e6⟩=>by
   simp only[eV.ok,bR]at ho;refine⟨ts,us,us',rs,n,by rw[ek (cL.1 e1).1];exact e1,?_,e3,e4,by rw[zL hn ho.1.2,zL hn ho.2];exact e5,e6⟩;cases view with
   | none=>exact e2
   | some v=>
     obtain⟨k,k',m,h1,h2,h3⟩:=e2;exact⟨k,k',m,dk h1 rfl,dk h2 rfl,h3⟩
 | .view cid lo hi mx,news,ho,⟨ts,k,k',k'',n,m,e1,e2,e3,e4,h⟩=>⟨ts,k,k',k'',n,m,by rw[ek (cL.1 e1).1];exact e1,dk e2 rfl,dk e3 rfl,dk e4 rfl,h⟩
 | .lenrow cid,news,ho,⟨ts,e1,h⟩=>⟨ts,by rw[ek (cL.1 e1).1];exact e1,h⟩
open Go.RowKit (Below)
section
variable{α β:Type}{s s':St}
def Q.run_bind(q:Q α)(f:α->Q β):(q >>= f).run s=(q.run s).bind fun a=>(f a).run s:=by
 show(q.bind f).run s=_
 induction q with
 | ret a=>rfl
 | fail=>rfl
 | t n k ih=>exact ih _
 | b n k ih=>exact ih _
 | s n k ih=>exact ih _
@[simp] theorem Q.run_pure(a:α):(pure a:Q α).run s=some a:=rfl
@[simp] theorem Q.gK(a:α):(Q.ret a).run s=some a:=rfl
@[simp] theorem Q.cx8:(Q.fail:Q α).run s=none:=rfl
@[simp] theorem aK4(n:Nat):(cp6 n).run s=some (s.t n):=rfl
@[simp] theorem jS(n:Nat):(AA n).run s=some (s.b n):=rfl
@[simp] theorem tK(n:Nat):(au6 n).run s=some (s.s n):=rfl
@[simp] theorem eU(x:Option α):(Q.of x).run s=x:=by cases x<;>rfl
def du{p:Prop}[Decidable p]{u:Unit}(h:(ask p).run s=some u):p:=by
 unfold ask at h;split at h
 .assumption
 .cases h
def Q.bind_some{q:Q α}{f:α->Q β}{y:β}(h:(q >>= f).run s=some y):∃a,q.run s=some a/\(f a).run s=some y:=by
 rw[Q.run_bind]at h;cases hq:q.run s with
 | none=>rw[hq]at h;cases h
 | some a=>rw[hq]at h;exact⟨a,rfl,h⟩
def St.agree(s s':St):Loc->Prop
 | .t n=>s'.t n=s.t n
 | .b n=>s'.b n=s.b n
 | .s n=>s'.s n=s.s n
def Q.congr(q:Q α)(h:∀x∈q.log s,s.agree s' x):q.run s'=q.run s:=by
 induction q with
 | ret a=>rfl
 | fail=>rfl
 | t n k ih=>
   have h0:s'.t n=s.t n:=h (.t n) (cE ..);simp only[Q.run,h0];exact ih _ fun x hx=>h x (cg _ hx)
 | b n k ih=>
   have h0:s'.b n=s.b n:=h (.b n) (cE ..);simp only[Q.run,h0];exact ih _ fun x hx=>h x (cg _ hx)
 | s n k ih=>
   have h0:s'.s n=s.s n:=h (.s n) (cE ..);simp only[Q.run,h0];exact ih _ fun x hx=>h x (cg _ hx)
end
def Ap{α:Type}(l m:List (Nat×α))(n:Nat):look (l++m) n=(look l n).orElse fun _=>look m n:=by
 induction l with
 | nil=>rfl
 | cons x l ih=>
   obtain⟨k,v⟩:=x;simp only[List.cons_append,look];split
   .rfl
   .exact ih
def St.aN6(s:St)(e:il)(n:Nat):(s.app e).t n=match look e.tm n with | some v=>v | none=>s.t n:=by
 simp only[St.app,St.t,Ap];cases look e.tm n<;>rfl
def St.iL(s:St)(e:il)(n:Nat):(s.app e).b n=match look e.bx n with | some v=>some v | none=>s.b n:=by
 simp only[St.app,St.b,Ap];cases look e.bx n<;>rfl
def St.so(s:St)(e:il)(n:Nat):(s.app e).s n=(e.sl.contains n || s.s n):=by
 simp[St.app,St.s]
def aN9{o:Oper}{v:SV}{n:Nat}:look (put o v) n=if o.dst=some n then some v else none:=by
 unfold put;cases h:o.dst with
 | none=>simp[look]
 | some d=>
   simp only[look];by_cases e:d=n
   .simp[e]
   .simp[e]
section
variable{M0:eu}{w0 w:World}{N:Nat}{s:St}{τ:Env}{ρ:Nat->Gh}{a:Act}
abbrev oB(s:St):Nat->Prop:=fun b=>(s.b b).isSome
theorem az.wh{ex:c6}{M:c6}:∀{vs:j0},vs.all (·.oneCell')=true->az (eB ex τ ρ M w) (vs.map fun v=>.c (.k v)) vs
 | [],_=>trivial
 | v::vs,h=>by
   simp only[PF,bR]at h;exact⟨⟨rfl,h.1⟩,az.wh h.2⟩
def aT6{ex:c6}{M:c6}(v:Value):iu ex τ ρ M w (aP4 v) v:=by
 cases v with
 | agg cs=>
   simp only[aP4];split
   .rename_i h;exact⟨cs.toList,aT,az.wh h⟩
   .trivial
 | tuple vs=>trivial
 | func f x y=>trivial
 | _=>exact⟨rfl,rfl⟩
def zF(h:Sat M0 w0 N s τ ρ a w){x:j6}{sv:SV}(hr:(Nx x).run s=some sv):iu (oB s) τ ρ (Ms M0 ρ s) w sv (a.eval x):=by
 cases x with
 | tmp t=>simp only[Nx,aK4,aZ]at hr;subst hr;exact h.tm t
 | const v=>simp only[Nx,Q.gK,aZ]at hr;subst hr;exact aT6 v
 | global g=>simp only[Nx,Q.gK,aZ]at hr;subst hr;trivial
 | func f=>simp only[Nx,Q.gK,aZ]at hr;subst hr;exact⟨[],rfl,trivial⟩
def rf(h:Sat M0 w0 N s τ ρ a w){x:j6}{v:SW}(hr:(Ua x).run s=some v):gg (oB s) τ ρ (Ms M0 ρ s) w v (a.eval x):=by
 obtain⟨sv,h1,h2⟩:=Q.bind_some hr;have:=zF h h1;rw[eU]at h2;cases sv with
 | w y=>simp[SV.sw]at h2;subst h2;exact this
 | junk=>simp[SV.sw]at h2
 | undef=>simp[SV.sw]at h2
 | tup xs=>simp[SV.sw]at h2
def eX(h:Sat M0 w0 N s τ ρ a w){x:j6}{c:SC}(hr:(qW x).run s=some c):eB (oB s) τ ρ (Ms M0 ρ s) w c (a.eval x):=by
 obtain⟨sv,h1,h2⟩:=Q.bind_some hr;have:=rf h h1;rw[eU]at h2;cases sv with
 | one y=>simp[SW.sc]at h2;subst h2;exact this
 | agg cs=>simp[SW.sc]at h2
def Df(h:Sat M0 w0 N s τ ρ a w):∀{xs:List (Nat×Operand)}{ps:List (Nat×SW)},(XI xs).run s=some ps ->
  az (fun p x=>p.1=x.1/\gg (oB s) τ ρ (Ms M0 ρ s) w p.2 (a.eval x.2)) ps xs
 | [],ps,hr=>by simp only[XI,Q.gK,aZ]at hr;subst hr;trivial
 | (i,x)::xs,ps,hr=>by
   obtain⟨v,h1,h2⟩:=Q.bind_some hr;obtain⟨vs,h3,h4⟩:=Q.bind_some h2;simp only[Q.run_pure,aZ]at h4;subst h4;exact⟨⟨rfl,rf h h1⟩,Df h h3⟩
theorem gg.cells{ex:c6}{M:c6}:∀{x:SW}{v:Value},gg ex τ ρ M w x v->az (eB ex τ ρ M w) x.cells v.cells.toList\/(∃c,x=.one c/\v.oneCell'=false)
 | .agg cs,v,⟨vs,e,h⟩=>by subst e;exact .inl h
 | .one c,v,h=>by
   cases hv:v.oneCell' with
   | false=>exact .inr ⟨c,rfl,rfl⟩
   | true=>
     left
     cases v<;>first | (exact⟨h,trivial⟩) | (simp[Value.oneCell']at hv)
theorem eB.one{ex:c6}{M:c6}:∀{c:SC}{v:Value},eB ex τ ρ M w c v->v.oneCell'=true
 | .p ..,v,⟨_,e⟩=>by subst e;rfl
 | .r _,v,⟨_,_,e⟩=>e
 | .rp ..,v,⟨_,g,o0,len,cap,k,n,_,_,_,e⟩=>by subst e;rfl
 | .rs ..,v,⟨_,g,o0,len,cap,k,k',n,m,c,_,_,_,_,_,_,_,e⟩=>by subst e;rfl
 | .c x,v,h=>(c0 τ x).one h
 | .ref ..,v,h=>aC.one _ h
 | .gv ..,v,h=>aC.one _ h
def gg.GO{ex:c6}{M:c6}{x:SW}{v:Value}(h:gg ex τ ρ M w x v):az (eB ex τ ρ M w) x.cells v.cells.toList:=by
 rcases h.cells with h' | ⟨c,rfl,hv⟩
 .exact h'
 .have:v.oneCell'=true:=eB.one (c:=c) h;rw[this]at hv;cases hv
def oN{b:Nat}{pt:Bool}{E sz cid:Nat}(h:(vv b).run s=some (pt,E,sz,cid)):s.b b=some (lJ pt E sz cid):=by
 obtain⟨bx,h1,h2⟩:=Q.bind_some h;simp only[jS,aZ]at h1;split at h2
 .simp only[Q.run_pure,aZ,cX]at h2;obtain⟨rfl,rfl,rfl,rfl⟩:=h2;rw[h1];rfl
 .simp only[Q.run_pure,aZ,cX]at h2;obtain⟨rfl,rfl,rfl,rfl⟩:=h2;rw[h1];rfl
 .cases h2
def Um{base:Nat}{ex:c6}{M:c6}{b:Nat}{pt:Bool}{E sz cid:Nat}(h:ow base ex τ ρ M w b (lJ pt E sz cid)) :
  ∃ts xs,τ[cid]?=some (.rows ts)/\xx w E sz (ρ b).val ts.length xs/\(∀t∈ts,t.length=sz)/\an M w ts.flatten xs:=by
 cases pt with
 | true=>
   obtain⟨ts,xs,h1,h2,h3,h4,_⟩:=h;exact⟨ts,xs,h1,h2,h3,h4⟩
 | false=>
   obtain⟨ts,xs,h1,h2,h3,h4⟩:=h;exact⟨ts,xs,h1,.bG6 h2,h3,h4⟩
def Xh(b:Nat)(pt:Bool)(E sz cid:Nat):own ρ b (lJ pt E sz cid)=(ρ b).val.ownBlock:=by cases pt<;>rfl
structure cy(M0:eu)(ρ:Nat->Gh)(s:St)(l:c7)(M':c6):Prop where
 sub:∀k,M' k->Ms M0 ρ s k
 out:∀b x k,s.b b=some x->own ρ b x=some k->(s.s b=true\/b∈l)->¬M' k
def cy.dJ{l:c7}{M':c6}(h:cy M0 ρ s l M'):av (Ms M0 ρ s) w M' w:=fun b o hb ho _=>⟨fun hm=>hb (h.sub b hm),ho⟩
def cy.mono{l l':c7}{M':c6}(h:cy M0 ρ s l M')(hl:∀x∈l',x∈l):cy M0 ρ s l' M':=
 ⟨h.sub,fun b x k h1 h2 h3=>h.out b x k h1 h2 (h3.imp id (hl b))⟩
def ri{sz:Nat}{M:c6}:∀{ts:List (List aC)}{cur:j0}{off:Nat},(∀t∈ts,t.length=sz)->an M w ts.flatten ((cur.drop off).take (ts.length*sz)) ->
  ∀i t,ts[i]?=some t->t.length=sz/\an M w t ((cur.drop (off+i*sz)).take sz)
 | [],cur,off,_,_,i,t,ht=>by simp at ht
 | t0::ts,cur,off,hl,hr,i,t,ht=>by
   have h0:t0.length=sz:=hl t0 cE
   have hx:((cur.drop off).take ((t0::ts).length*sz))=(cur.drop off).take sz++((cur.drop (off+sz)).take (ts.length*sz)):=by
    rw[bB,bt,ee,gp,Bz,gu]
   rw[hx]at hr;have hlen:=hr.length;rw[gX]at hr;cases i with
   | zero=>
     simp only[nJ,aZ]at ht;subst ht;refine⟨h0,?_⟩;have:=hr.take sz;rw[xg O,dL O]at this;by_cases hs:((cur.drop off).take sz).length=sz
     .rw[xg O,dL O]at this
      simpa using this
     ·
      have h1:(cur.drop off).length<sz:=by rw[bh]at hs;omega
      have h2:(cur.drop (off+sz))=[]:=by
       apply ep;rw[dF]at h1|-;omega
      rw[h2]at this;simp only[List.take_nil,cB]at this;rw[jh]at this
      simpa using this
   | succ i=>
     have hd:=hr.drop sz;rw[sE O,mY (by omega:t0.length<=sz),List.nil_append]at hd
     have h2:((cur.drop off).take sz++(cur.drop (off+sz)).take (ts.length*sz)).drop sz=(cur.drop (off+sz)).take (ts.length*sz):=by
      by_cases hs:((cur.drop off).take sz).length=sz
      .rw[sE O,mY O,List.nil_append]
      .have h1:(cur.drop off).length<sz:=by rw[bh]at hs;omega
       have h3:(cur.drop (off+sz))=[]:=by
        apply ep;rw[dF]at h1|-;omega
       rw[h3];simp only[List.take_nil,cB];apply mY;rw[bh];omega
     rw[h2]at hd;have:=ri (ts:=ts) (off:=off+sz) (fun t ht=>hl t (cg _ ht)) hd i t (by simpa using ht);refine⟨this.1,?_⟩;have e:off+(i+1)*sz=off+sz+i*sz:=by rw[bt,ee];omega
     rw[e];exact this.2
def Pc(h:Sat M0 w0 N s τ ρ a w){b E sz cid:Nat}(hb:s.b b=some (.row E sz cid)){l:c7}{M':c6}(hS:cy M0 ρ s l M')(hl:s.s b=true\/b∈l)
  : (c0 τ (.sr sz cid)).rep M' w (ρ b).val:=by
 obtain⟨ts,xs,e,hown,hlen,hr⟩:=h.bx b _ hb;simp only[c0,e];have hr':=hr.mono (hS.dJ (w:=w));obtain⟨hx,hown⟩:=hown;rcases hown with⟨hv,hn⟩ | ⟨g,cap,cur,hv,hbg,hg,hnc,hcm,hcs,htake⟩
 .rw[hv];have:ts=[]:=ep hn;subst this;exact⟨none,0,rfl,ah _,by simp[maxLen],.inl rfl⟩
 .rw[hv];refine⟨some ⟨g,0,none⟩,cap,rfl,hnc,hcm,.inr ⟨g,0,cur,E,(0,0),rfl,?_,hg,?_⟩⟩
  .exact hS.out b _ g hb (by simp[own,hv,Value.ownBlock]) hl
  .rw[<-htake]at hr';have:=ri (ts:=ts) (off:=0) (cur:=cur.toList) hlen (by simpa using hr')
   simpa using this
theorem Gw(h:Sat M0 w0 N s τ ρ a w){M':c6}:∀{c:SC}{x:C0}{l:c7}{v:Value},(rM c).run s=some (x,l)->cy M0 ρ s l M'->eB (oB s) τ ρ (Ms M0 ρ s) w c v->(c0 τ x).rep M' w v
 | .c y,x,l,v,hr,hS,hv=>by
   simp only[rM,Q.gK,aZ,cX]at hr;obtain⟨rfl,rfl⟩:=hr;exact aC.mono _ hS.dJ hv
 | .r b,x,l,v,hr,hS,hv=>by
   obtain⟨bx,h1,h2⟩:=Q.bind_some hr;simp only[jS,aZ]at h1;cases bx with
   | none=>simp at h2
   | some bx=>cases bx with
     | var=>simp at h2
     | dead=>simp at h2
     | part=>simp at h2
     | row E sz cid=>
       simp only[Q.run_pure,aZ,cX]at h2;obtain⟨rfl,rfl⟩:=h2;rw[hv.2.1];exact Pc h h1 hS (.inr aT)
 | .ref ..,x,l,v,hr,_,_=>by simp[rM]at hr
 | .gv ..,x,l,v,hr,_,_=>by simp[rM]at hr
 | .p ..,x,l,v,hr,_,_=>by simp[rM]at hr
 | .rp ..,x,l,v,hr,_,_=>by simp[rM]at hr
 | .rs ..,x,l,v,hr,_,_=>by simp[rM]at hr
theorem qp(h:Sat M0 w0 N s τ ρ a w){M':c6}:∀{cs:List SC}{xs:List C0}{l:c7}{vs:j0},(sX cs).run s=some (xs,l)->cy M0 ρ s l M'->az (eB (oB s) τ ρ (Ms M0 ρ s) w) cs vs->an M' w (xs.map (c0 τ)) vs
 | [],xs,l,[],hr,hS,hv=>by
   simp only[sX,Q.gK,aZ,cX]at hr;obtain⟨rfl,rfl⟩:=hr;trivial
 | c::cs,xs,l,v::vs,hr,hS,⟨hv,hvs⟩=>by
   obtain⟨⟨x,l1⟩,h1,h2⟩:=Q.bind_some hr;obtain⟨⟨xs',l2⟩,h3,h4⟩:=Q.bind_some h2;simp only[Q.run_pure,aZ,cX]at h4;obtain⟨rfl,rfl⟩:=h4;exact⟨Gw h h1 (hS.mono fun x hx=>gV _ hx) hv,qp h h3 (hS.mono fun x hx=>ke _ hx) hvs⟩
 | [],_,_,_::_,_,_,hv=>hv.elim
 | _::_,_,_,[],_,_,hv=>hv.elim
theorem Ve(h:Sat M0 w0 N s τ ρ a w){M':c6}:∀{c x:SC}{l:c7}{v:Value},(Al c).run s=some (x,l)->cy M0 ρ s l M'->eB (oB s) τ ρ (Ms M0 ρ s) w c v->(cty τ x).rep M' w v
 | .c y,x,l,v,hr,hS,hv=>by
   simp only[Al,Q.gK,aZ,cX]at hr;obtain⟨rfl,rfl⟩:=hr;exact aC.mono _ hS.dJ hv
 | .ref o cs,x,l,v,hr,hS,hv=>by
   simp only[Al,Q.gK,aZ,cX]at hr;obtain⟨rfl,rfl⟩:=hr;exact aC.mono _ hS.dJ hv
 | .gv f cs,x,l,v,hr,hS,hv=>by
   simp only[Al,Q.gK,aZ,cX]at hr;obtain⟨rfl,rfl⟩:=hr;exact aC.mono _ hS.dJ hv
 | .r b,x,l,v,hr,hS,hv=>by
   obtain⟨bx,h1,h2⟩:=Q.bind_some hr;simp only[jS,aZ]at h1;cases bx with
   | none=>simp at h2
   | some bx=>cases bx with
     | var=>simp at h2
     | dead=>simp at h2
     | part=>simp at h2
     | row E sz cid=>
       simp only[Q.run_pure,aZ,cX]at h2;obtain⟨rfl,rfl⟩:=h2;rw[hv.2.1];exact Pc h h1 hS (.inr aT)
 | .p b off,x,l,v,hr,hS,hv=>by
   obtain⟨bx,h5,h6⟩:=Q.bind_some hr;simp only[jS,aZ]at h5;cases bx with
   | none=>simp at h6
   | some bx=>cases bx with
     | row=>simp at h6
     | part=>simp at h6
     | dead=>simp at h6
     | var T cells=>
       obtain⟨⟨xs,l'⟩,h7,h8⟩:=Q.bind_some h6;simp only[Q.run_pure,aZ,cX]at h8;obtain⟨rfl,rfl⟩:=h8;obtain⟨vs,hh,hall⟩:=h.bx b _ h5;have hrep:=qp h h7 (hS.mono fun x hx=>cg _ hx) hall;rw[hv.2];refine⟨(ρ b).blk,off,vs.toArray,T,(0,0),rfl,hS.out b _ _ h5 rfl (.inr cE),hh,?_⟩;have hd:=hrep.drop off;have hlen:=hd.length;rw[hlen,dL aT];exact hd
 | .rp ..,x,l,v,hr,_,_=>by simp[Al]at hr
 | .rs ..,x,l,v,hr,_,_=>by simp[Al]at hr
theorem yt(h:Sat M0 w0 N s τ ρ a w){M':c6}:∀{cs xs:List SC}{l:c7}{vs:j0},(Gk cs).run s=some (xs,l)->cy M0 ρ s l M'->az (eB (oB s) τ ρ (Ms M0 ρ s) w) cs vs->an M' w (xs.map (cty τ)) vs
 | [],xs,l,[],hr,hS,hv=>by
   simp only[Gk,Q.gK,aZ,cX]at hr;obtain⟨rfl,rfl⟩:=hr;trivial
 | c::cs,xs,l,v::vs,hr,hS,⟨hv,hvs⟩=>by
   obtain⟨⟨x,l1⟩,h1,h2⟩:=Q.bind_some hr;obtain⟨⟨xs',l2⟩,h3,h4⟩:=Q.bind_some h2;simp only[Q.run_pure,aZ,cX]at h4;obtain⟨rfl,rfl⟩:=h4;exact⟨Ve h h1 (hS.mono fun x hx=>gV _ hx) hv,yt h h3 (hS.mono fun x hx=>ke _ hx) hvs⟩
 | [],_,_,_::_,_,_,hv=>hv.elim
 | _::_,_,_,[],_,_,hv=>hv.elim
theorem Vb(h:Sat M0 w0 N s τ ρ a w){M':c6}:∀{c x:SW}{l:c7}{v:Value},(aI9 c).run s=some (x,l)->cy M0 ρ s l M'->gg (oB s) τ ρ (Ms M0 ρ s) w c v->(pw τ x).rep M' w v
 | .one c,x,l,v,hr,hS,hv=>by
   obtain⟨⟨y,l1⟩,h1,h2⟩:=Q.bind_some hr;simp only[Q.run_pure,aZ,cX]at h2;obtain⟨rfl,rfl⟩:=h2;exact Ve h h1 hS hv
 | .agg cs,x,l,v,hr,hS,⟨vs,e,hv⟩=>by
   obtain⟨⟨y,l1⟩,h1,h2⟩:=Q.bind_some hr;simp only[Q.run_pure,aZ,cX]at h2;obtain⟨rfl,rfl⟩:=h2;exact⟨vs,e,yt h h1 hS hv⟩
theorem je(h:Sat M0 w0 N s τ ρ a w){M':c6}:∀{xs:List Operand}{ys:List SW}{l:c7},(tL xs).run s=some (ys,l)->cy M0 ρ s l M'->cC M' w (ys.map (pw τ)) (xs.map a.eval)
 | [],ys,l,hr,hS=>by
   simp only[tL,Q.gK,aZ,cX]at hr;obtain⟨rfl,rfl⟩:=hr;trivial
 | x::xs,ys,l,hr,hS=>by
   obtain⟨v,h1,h2⟩:=Q.bind_some hr;obtain⟨⟨y,l1⟩,h3,h4⟩:=Q.bind_some h2;obtain⟨⟨ys',l2⟩,h5,h6⟩:=Q.bind_some h4;simp only[Q.run_pure,aZ,cX]at h6;obtain⟨rfl,rfl⟩:=h6;exact⟨Vb h h3 (hS.mono fun x hx=>gV _ hx) (rf h h1),je h h5 (hS.mono fun x hx=>ke _ hx)⟩
end
open Go.RowKit (Below)
section
variable{P:j5}{w:World}
def Dr{T:Nat}{ag:Bool}{n:Nat}(h:mF P T=some (ag,n)):(isAgg T).run P w=.ok ag w/\(sizeOf T).run P w=.ok n w:=by
 unfold mF at h;split at h
 .rename_i d i hd hi;simp only[aZ,cX]at h;obtain⟨rfl,rfl⟩:=h
  constructor
  .unfold isAgg;rw[gC,er hd w];cases d<;>rfl
  .simp[sizeOf,typeInfo,hi]
 .cases h
def lO(g off i:Nat):(⟨g,off,none⟩:Addr).add i=⟨g,off+i,none⟩:=by
 unfold Addr.add;split<;>simp_all
def ff{T:Nat}{ag:Bool}{n:Nat}(h:mF P T=some (ag,n)){g off:Nat}{cs:iS}{E:Nat}{fz:Nat×Nat}(hg:w.heap[g]?=some (.cells cs E fz))(hn:off+n<=cs.size)(h1:ag=true\/n=1) :
  ∃v,(loadVar T ⟨g,off,none⟩).run P w=.ok v w/\(if ag then v=.agg ((cs.toList.drop off).take n).toArray else(cs.toList.drop off).take n=[v]):=by
 obtain⟨ha,hs⟩:=Dr (w:=w) h;cases ag with
 | true=>
   refine⟨_,?_,rfl⟩;have hl:((cs.toList.drop off).take n).length=n:=b6
   have:=Qi (P:=P) w ⟨g,off,none⟩ ((cs.toList.drop off).take n) (fun j v hv=>by
    rw[lO,cell_of_row w g (off+j) cs E fz hg];rw[eh]at hv;split at hv
    .rw[fG]at hv;simpa using hv
    .cases hv)
   rw[hl]at this;simp only[loadVar,gC,ha,js,bg,hs,this,gq]
 | false=>
   have hn1:n=1:=by rcases h1 with h1 | h1<;>simp_all
   subst hn1;have hlt:off<cs.size:=O
   refine⟨cs[off],?_,?_⟩
   .have hc:w.cell? ⟨g,off,none⟩=some cs[off]:=by rw[cell_of_row w g off cs E fz hg];simp[hlt]
    simp[loadVar,gC,ha,hc]
   .simp only[eN,ck];rw[List.take_one,List.head?_drop];simp[hlt]
def kK{T:Nat}{ag:Bool}{n:Nat}(h:mF P T=some (ag,n)){g off:Nat}{cs:iS}{E:Nat}(hg:w.heap[g]?=some (.cells cs E (0,0))){v:Value}(hv:v.cells.size=n)(h1:∀x∈v.cells.toList,x.oneCell'=true)(hn:off+n<=cs.size:=by omega) :
  (storeVar T ⟨g,off,none⟩ v).run P w=.ok () (w.setRow g (cs.toList.take off++v.cells.toList++cs.toList.drop (off+n)).toArray):=by
 obtain⟨ha,hs⟩:=Dr (w:=w) h;have:=run_storeCells_at (P:=P) g off E v.cells.toList 0 cs w hg b6 h1;simp only[cV,cK,hv]at this;simp[storeVar,gC,hs,hv,this]
def bF{o:Oper}{a:Act}{K:j4}{Qp:iN}{v:Value}{w':World}(hr:(execOp a.eval o).run P w=.ok (.value v) w')(h:K (a.put o.dst v) w'):o.wp P a w K Qp:=by
 unfold Oper.wp;rw[hr];exact h
def sI{o:Oper}{a:Act}{K:j4}{Qp:iN}{w':World}(hr:(execOp a.eval o).run P w=.ok .skip w')(h:K (a.put o.dst undef) w'):o.wp P a w K Qp:=by
 unfold Oper.wp;rw[hr];exact h
end
section
variable{M0:eu}{w0 w w':World}{N:Nat}{s:St}{τ:Env}{ρ ρ':Nat->Gh}{a:Act}
def ow.mono{base:Nat}{ex ex':c6}{M M':c6}{b:Nat}(he:∀b,ex b->ex' b/\ρ' b=ρ b)(hk:av M w M' w'):∀{x:Bx},(x≠.dead->ρ' b=ρ b)->(∀k,own ρ b x=some k->w'.heap[k]?=w.heap[k]?) ->
  ow base ex τ ρ M w b x->ow base ex' τ ρ' M' w' b x
 | .var T cells,hb,hh,⟨vs,e,h⟩=>by
   rw[<-hh _ rfl]at e;refine⟨vs,?_,h.imp fun _ _=>eB.mono he hk⟩;rw[hb aT];exact e
 | .row E sz cid,hb,hh,⟨ts,xs,e,⟨hx,hown⟩,hl,hr⟩=>by
   refine⟨ts,xs,e,⟨hx,?_⟩,hl,hr.mono hk⟩;rw[hb aT];rcases hown with hv | ⟨g,cap,cur,hv,hbg,hg,rest⟩
   .exact .inl hv
   .refine .inr ⟨g,cap,cur,hv,hbg,?_,rest⟩;rw[hh g (by simp[own,hv,Value.ownBlock])];exact hg
 | .part E sz cid,hb,hh,⟨ts,xs,e,⟨hx,hown⟩,hl,hr,h1⟩=>by
   refine⟨ts,xs,e,⟨hx,?_⟩,hl,hr.mono hk,by rw[hb aT];exact h1.1,?_⟩
   .rw[hb aT];rcases hown with hv | ⟨g,off,cap,cur,hv,hg,rest⟩
    .exact .inl hv
    .refine .inr ⟨g,off,cap,cur,hv,?_,rest⟩;rw[hh g (by simp[own,hv,Value.ownBlock])];exact hg
   rw[hb aT];intro g off len cap hv cur hg;rw[hh g (by simp[own,hv,Value.ownBlock])]at hg;exact h1.2 g off len cap hv cur hg
 | .dead,_,_,_=>trivial
def aJ8(d:Option Tmp)(v:Value):(a.put d v).tmps.size=a.tmps.size:=by
 cases d<;>simp[Act.put]
def put_defers(d:Option Tmp)(v:Value):(a.put d v).defers=a.defers:=by
 cases d<;>rfl
def bk3{o:Oper}{v:Value}(hd:cw N o=true)(hN:a.tmps.size=N)(t:Nat):(a.put o.dst v).tmps.getD t undef=if o.dst=some t then v else a.tmps.getD t undef:=by
 unfold cw at hd;cases h:o.dst with
 | none=>simp[Act.put]
 | some d=>
   simp only[h,jr]at hd;simp only[Act.put,aZ,jq,Array.getElem?_setIfInBounds];by_cases e:d=t
   .subst e;simp[hN,hd]
   .simp[e]
def Sat.go(h:Sat M0 w0 N s τ ρ a w){o:Oper}{sv:SV}{bx:List (Nat×Bx)}{sl:c7}{v:Value}(hd:cw N o=true)
  (hbel:Kept M0 w0 w')
  (hρ:∀b,(s.b b).isSome->ρ' b=ρ b)
  (hk:av (Ms M0 ρ s) w (Ms M0 ρ' (s.app ⟨put o sv,bx,sl⟩)) w')
  (hv:iu (oB (s.app ⟨put o sv,bx,sl⟩)) τ ρ' (Ms M0 ρ' (s.app ⟨put o sv,bx,sl⟩)) w' sv v)
  (hold:∀b x,look bx b=none->s.b b=some x->∀k,own ρ b x=some k->w'.heap[k]?=w.heap[k]?)
  (hnew:∀b x,look bx b=some x->ow 0 (oB (s.app ⟨put o sv,bx,sl⟩)) τ ρ' (Ms M0 ρ' (s.app ⟨put o sv,bx,sl⟩)) w' b x)
  (hnlo:∀b x k,look bx b=some x->own ρ' b x=some k->M0.ours w0 k/\k<w'.heap.size)
  (hninj:∀b x k,look bx b=some x->own ρ' b x=some k->∀b' x',(s.app ⟨put o sv,bx,sl⟩).b b'=some x'->own ρ' b' x'=some k->b=b')
  (hnpt:∀b E sz cid,look bx b=some (.part E sz cid)->ρ' b=M0.gh)
  (hsz:w.heap.size<=w'.heap.size) :
  Sat M0 w0 N (s.app ⟨put o sv,bx,sl⟩) τ ρ' (a.put o.dst v) w':=by
 have he:∀b,(s.b b).isSome->((s.app ⟨put o sv,bx,sl⟩).b b).isSome/\ρ' b=ρ b:=fun b hb=>by
  refine⟨?_,hρ b hb⟩;rw[St.iL];cases look bx b<;>simp[hb]
 refine⟨hbel,by rw[aJ8];exact h.sz,by rw[put_defers];exact h.df,fun t=>?_,fun b x hx=>?_,?_,?_,h.old,fun b E sz cid hb=>?_⟩
 rotate_left 4
 .rw[St.iL]at hb;cases hl:look bx b with
  | some y=>
    simp only[hl,aZ]at hb;subst hb;exact hnpt b E sz cid hl
  | none=>
    simp only[hl]at hb;rw[hρ b (by simp[hb])];exact h.pt b E sz cid hb
 .rw[bk3 hd h.sz,St.aN6];show iu _ _ _ _ _ (match look (put o sv) t with | some v=>v | none=>s.t t) _;rw[aN9];by_cases e:o.dst=some t
  .simp only[e,bg];exact hv
  .simp only[e,ck];exact(h.tm t).mono he hk
 .rw[St.iL]at hx;cases hl:look bx b with
  | some y=>
    simp only[hl,aZ]at hx;subst hx;exact hnew b y hl
  | none=>
    simp only[hl]at hx;exact(h.bx b x hx).mono he hk (fun _=>hρ b (by simp[hx])) (hold b x hl hx)
 .intro b b' x x' k hb hb' hk1 hk2;have hb0:=hb;have hb0':=hb';rw[St.iL]at hb hb';cases hl:look bx b with
  | some y=>
    simp only[hl,aZ]at hb;subst hb;exact hninj b y k hl hk1 b' x' hb0' hk2
  | none=>
    cases hl':look bx b' with
    | some y=>
      simp only[hl',aZ]at hb';subst hb';exact(hninj b' y k hl' hk2 b x hb0 hk1).symm
    | none=>
      simp only[hl]at hb;simp only[hl']at hb';rw[oM (hρ b (by simp[hb]))]at hk1;rw[oM (hρ b' (by simp[hb']))]at hk2;exact h.inj b b' x x' k hb hb' hk1 hk2
 .intro b x k hb hk1;rw[St.iL]at hb;cases hl:look bx b with
  | some y=>
    simp only[hl,aZ]at hb;subst hb;exact hnlo b y k hl hk1
  | none=>
    simp only[hl]at hb;rw[oM (hρ b (by simp[hb]))]at hk1;have:=h.lo b x k hb hk1;exact⟨this.1,cM this.2 hsz⟩
def Ar{e:il}(hb:e.bx=[])(k:Nat):Ms M0 ρ (s.app e) k↔(M0.M k\/∃b x,s.b b=some x/\(e.sl.contains b || s.s b)=false/\own ρ b x=some k):=by
 unfold Ms;simp only[St.iL,hb,look,St.so]
def cy.ov(h:Sat M0 w0 N s τ ρ a w){tm:List (Nat×SV)}{sl:c7}:cy M0 ρ s sl (Ms M0 ρ (s.app ⟨tm,[],sl⟩)):=by
 constructor
 .intro k hk;rw[Ar rfl]at hk;rcases hk with hk | ⟨b,x,h1,h2,h3⟩
  .exact .inl hk
  .simp only[lL]at h2;exact .inr ⟨b,x,h1,h2.2,h3⟩
 .intro b x k h1 h2 h3 hk;rw[Ar rfl]at hk;rcases hk with hk | ⟨b',x',h4,h5,h6⟩
  .exact h.old k hk (h.lo b x k h1 h2).1
  .have:=h.inj b b' x x' k h1 h4 h2 h6;subst this;simp only[lL]at h5;rcases h3 with h3 | h3
   .rw[h3]at h5;simp at h5
   .have:sl.contains b=true:=by simpa using h3
    rw[this]at h5;simp at h5
def Sat.calls(h:Sat M0 w0 N s τ ρ a w){o:Oper}{sv:SV}{sl:c7}{v:Value}(hd:cw N o=true)
  (hb:Below w.heap.size w w')
  (hv:iu (oB (s.app ⟨put o sv,[],sl⟩)) τ ρ (Ms M0 ρ (s.app ⟨put o sv,[],sl⟩)) w' sv v) :
  Sat M0 w0 N (s.app ⟨put o sv,[],sl⟩) τ ρ (a.put o.dst v) w':=by
 have hS:=cy.ov h (tm:=put o sv) (sl:=sl);refine h.go hd (h.below.and hb) (fun _ _=>rfl) ((hS.dJ (w:=w)).trans (av.below hb)) hv (fun b x _ hx k hk=>hb.block k (h.lo b x k hx hk).2) (fun b x hx=>by cases hx) (fun b x k hx=>by cases hx) (fun b x k hx=>by cases hx) (fun b E sz cid hx=>by cases hx) hb.size
def Sat.pure(h:Sat M0 w0 N s τ ρ a w){o:Oper}{sv:SV}{v:Value}(hd:cw N o=true)
  (hv:iu (oB s) τ ρ (Ms M0 ρ s) w sv v) :
  Sat M0 w0 N (s.app ⟨put o sv,[],[]⟩) τ ρ (a.put o.dst v) w:=
 h.calls hd (cS _ _) (hv.mono (fun b hb=>⟨by rw[oB,St.iL];simpa[look]using hb,rfl⟩) (cy.ov h).dJ)
end
open Go.RowKit (Below)
def jv(P:j5)(τ:Env)(op:Op)(ty:Nat)(nd:eV)(ni:Nat):Prop:=
 ∃news,tX P τ op ty nd news/\news.length=nd.ids/\∀j t,news[j]?=some t->τ[ni+j]?=some t
section
variable{P:j5}{M0:eu}{w0 w w':World}{N:Nat}{s:St}{τ:Env}{ρ ρ':Nat->Gh}{a:Act}{M:c6}{ex:c6}
theorem az.zj{α β:Type}{R:α->β->Prop}:∀{xs:List α}{ys:List β},xs.length=ys.length->(∀(j:Nat)x y,xs[j]?=some x->ys[j]?=some y->R x y)->az R xs ys
 | [],[],_,_=>trivial
 | x::xs,y::ys,hl,h=>⟨h 0 x y rfl rfl,az.zj (by simpa using hl) fun j x' y' hx hy=>h (j+1) x' y' (by simpa using hx) (by simpa using hy)⟩
 | [],_::_,hl,_=>by simp at hl
 | _::_,[],hl,_=>by simp at hl
def tM{ni:Nat}{t:aQ}{sh:Option Nat}{v:Value}(ht:τ[ni]?=some t)(hs:t.shape=some sh)(hv:t.rep M w v):gg ex τ ρ M w (su ni sh) v:=by
 have hg:τ.getD ni (.rows [])=t:=by rw[fI,ht];rfl
 cases t with
 | one c=>
   simp only[aQ.shape,aZ]at hs;subst hs;show(c0 τ (.u ni 0)).rep M w v;simp only[c0,hg];exact hv
 | agg cs=>
   simp only[aQ.shape,aZ]at hs;subst hs;obtain⟨vs,e,hr⟩:=hv;refine⟨vs,e,az.zj (by simp[hr.length]) fun j x y hx hy=>?_⟩;rw[dR]at hx
   have hj:j<cs.length:=by
    have:=(cL.1 hy).1;rw[hr.length];exact this
   rw[kC hj]at hx;simp only[cZ,aZ]at hx;subst hx;obtain⟨y',hy',hrep⟩:=hr.get j cs[j] (bM hj);rw[hy]at hy';simp only[aZ]at hy';subst hy';show(c0 τ (.u ni j)).rep M w y;simp only[c0,hg,aQ.cell,aQ.cells,fI,bM hj,gH];exact hrep
 | rows ts=>simp[aQ.shape]at hs
theorem cC.get:∀{ts:List aQ}{vs:j0},cC M w ts vs->∀(j:Nat)(v:Value),vs[j]?=some v->∃t,ts[j]?=some t/\t.rep M w v
 | [],[],_,j,v,hv=>by simp at hv
 | t0::ts,v0::vs,⟨a,b⟩,j,v,hv=>by
   cases j with
   | zero=>simp at hv;subst hv;exact⟨t0,rfl,a⟩
   | succ j=>simpa using b.get j v (by simpa using hv)
 | [],_::_,k,_,_,_=>k.elim
 | _::_,[],k,_,_,_=>k.elim
theorem cC.append:∀{cs vs cs' vs'},cC M w cs vs->cC M w cs' vs'->cC M w (cs++cs') (vs++vs')
 | [],[],_,_,_,h=>h
 | _::_,_::_,_,_,⟨a,b⟩,h=>⟨a,b.append h⟩
 | [],_::_,_,_,k,_=>k.elim
 | _::_,[],_,_,k,_=>k.elim
theorem cC.yN:∀{cs vs},an M w cs vs->cC M w (cs.map .one) vs
 | [],[],_=>trivial
 | _::_,_::_,⟨a,b⟩=>⟨a,cC.yN b⟩
 | [],_::_,k=>k.elim
 | _::_,[],k=>k.elim
def FY{ni:Nat}{news:List aQ}{sh:List (Option Nat)}{vs:j0}(hs:news.map aQ.shape=sh.map some)(hτ:∀j t,news[j]?=some t->τ[ni+j]?=some t)(hv:cC M w news vs) :
  iu ex τ ρ M w (mu ni sh) (pack vs):=by
 have hl:sh.length=vs.length:=by
  have:=congrArg List.length hs;simp only[aL]at this;rw[<-hv.length];exact this.symm
 have key:∀j x v,sh[j]?=some x->vs[j]?=some v->gg ex τ ρ M w (su (ni+j) x) v:=fun j x v hx hvj=>by
  obtain⟨t,ht,hrep⟩:=hv.get j v hvj;refine tM (hτ j t ht) ?_ hrep;have:=congrArg (fun l=>l[j]?) hs;simp only[dR,ht,hx,cZ,aZ]at this;exact this
 unfold mu;split
 .rename_i x
  match vs,hl with
  | [v],_=>exact key 0 x v rfl rfl
 .rename_i hne
  have hp:pack vs=.tuple vs.toArray:=by
   match vs,hl with
   | [],_=>rfl
   | [v],hl=>match sh,hl with | [x],_=>exact absurd rfl (hne x)
   | _::_::_,_=>rfl
  rw[hp];refine⟨vs,rfl,az.zj (by simp[hl]) fun j x y hx hy=>?_⟩;rw[PM]at hx;cases hsj:sh[j]? with
  | none=>rw[hsj]at hx;cases hx
  | some z=>
    rw[hsj]at hx;simp only[cZ,aZ]at hx;subst hx;exact key j z y hsj hy
def dD(h:Sat M0 w0 N s τ ρ a w){o:Oper}{ni:Nat}{e:il}{nd:eV}{Qp:iN}(hd:cw N o=true)(hq:(yK P o ni).run s=some (e,nd))(hn:jv P τ o.op o.type nd ni) :
  o.wp P a w (fun a' w'=>∃ρ',Sat M0 w0 N (s.app e) τ ρ' a' w') Qp:=by
 obtain⟨⟨args,sl⟩,h1,h2⟩:=Q.bind_some hq;obtain⟨sh,h3,h4⟩:=Q.bind_some h2;simp only[Q.run_pure,aZ,cX]at h4;obtain⟨rfl,rfl⟩:=h4;obtain⟨news,⟨t,rfl,hsh,hp⟩,_,hτ⟩:=hn;have ht:τ[ni]?=some t:=by simpa using hτ 0 t rfl
 have hS:=cy.ov h (tm:=put o (.w (su ni sh))) (sl:=sl);have hrep:=je h h1 hS;obtain⟨v,hr,hv⟩:=hp _ w a.eval o rfl rfl hrep;exact bF hr ⟨ρ,h.calls hd (cS _ _) (tM ht hsh hv)⟩
def cs4(h:Sat M0 w0 N s τ ρ a w){k:Nat}(hk:Ms M0 ρ s k):k<w.heap.size:=by
 rcases hk with hk | ⟨b,x,h1,_,h3⟩
 .exact cM (Rs fun hl=>h.old k hk (.inl hl)) h.below.size
 .exact(h.lo b x k h1 h3).2
def Sat.yi(h:Sat M0 w0 N s τ ρ a w):bf (Ms M0 ρ s) w:=by
 refine⟨fun b hb=>cs4 h hb,fun x hx=>?_⟩;obtain⟨h1,h2,T,fz,h3⟩:=h.below.good x hx;have hlt:=(cJ.1 h3).1;refine⟨?_,T,fz,by rw[h.below.block _ hlt h2];exact h3⟩;rintro(hm | ⟨b,y,h4,_,h5⟩)
 .exact h1 hm
 .exact(h.lo b y _ h4 h5).1.elim (fun hl=>nX.2 hl hlt) h2
def tl{o:Oper}{c:Call}{x:j6}{f:FuncId}{cvs:j0}(ho:o.op=.call c)(hc:c.callee=.value x)(hx:a.eval x=.func (.func f) #[] cvs.toArray)
  (he:∀as w,(callFunc f as).run P w=.ok (.enter f as) w) :
  (execOp a.eval o).run P w=.ok (.enter f (c.args.toList.map a.eval++cvs).toArray) w:=by
 unfold execOp;simp only[ho,resolve,hc,hx,Deferred.ofValue,gC,gq,js,invoke,he]
 congr 2
 apply ur;simp
def am8(h:Sat M0 w0 N s τ ρ a w){o:Oper}{c:Call}{x:j6}{f:FuncId}{cvs:j0}{caps:List aC}{args:List SW}{sh:List (Option Nat)}{sl:c7}{ni:Nat}{news:List aQ}{Qp:iN}
  (hd:cw N o=true) (ho:o.op=.call c) (hc:c.callee=.value x) (hx:a.eval x=.func (.func f) #[] cvs.toArray)
  (hargs:cC (Ms M0 ρ (s.app ⟨put o (mu ni sh),[],sl⟩)) w (args.map (pw τ)) (c.args.toList.map a.eval))
  (hcaps:an (Ms M0 ρ (s.app ⟨put o (mu ni sh),[],sl⟩)) w caps cvs)
  (hsh:news.map aQ.shape=sh.map some) (hτ:∀j t,news[j]?=some t->τ[ni+j]?=some t)
  (hdo:aX P f (args.map (pw τ)++caps.map .one) (.ret news)) :
  o.wp P a w (fun a' w'=>∃ρ',Sat M0 w0 N (s.app ⟨put o (mu ni sh),[],sl⟩) τ ρ' a' w') Qp:=by
 unfold Oper.wp;rw[tl ho hc hx hdo.1];rw[wN];have hS:=cy.ov h (tm:=put o (mu ni sh)) (sl:=sl);refine(hdo.2 _ w _ (h.yi.sub hS.sub) (hargs.append (cC.yN hcaps))).mono ?_;rintro e w' ⟨hb,vs,rfl,hr⟩;exact⟨ρ,h.calls hd hb (FY hsh hτ hr)⟩
def Vu{o:Oper}{c:Call}{x:j6}{f:FuncId}{cvs:j0}{caps:List aC}{args:List SW}{sl:c7}{tm:List (Nat×SV)}{ct:aC}{K:j4}{Qp:iN}
  (h:Sat M0 w0 N s τ ρ a w) (ho:o.op=.call c) (hc:c.callee=.value x) (hx:a.eval x=.func (.func f) #[] cvs.toArray)
  (hargs:cC (Ms M0 ρ (s.app ⟨tm,[],sl⟩)) w (args.map (pw τ)) (c.args.toList.map a.eval))
  (hcaps:an (Ms M0 ρ (s.app ⟨tm,[],sl⟩)) w caps cvs)
  (hdo:aX P f (args.map (pw τ)++caps.map .one) (.pan ct))
  (hQ:∀v w',Below w.heap.size w w'->ct.rep (Ms M0 ρ (s.app ⟨tm,[],sl⟩)) w' v->Qp (.panic [{ v,recovered:=false }]) a w') :
  o.wp P a w K Qp:=by
 unfold Oper.wp;rw[tl ho hc hx hdo.1];rw[wN];have hS:=cy.ov h (tm:=tm) (sl:=sl);refine(hdo.2 _ w _ (h.yi.sub hS.sub) (hargs.append (cC.yN hcaps))).mono ?_;rintro e w' ⟨hb,v,rfl,hr⟩;exact hQ v w' hb hr
def ay{f:FuncId}(h:rZ P f=true):∀as w,(callFunc f as).run P w=.ok (.enter f as) w:=by
 intro as w;unfold rZ at h;split at h
 .rename_i fn hf;simp only[bR,bne_iff_ne,ne_eq]at h;have hb:¬fn.body=none:=by intro hb;rw[hb]at h;simp at h
  simp[callFunc,program,hf,Sem.run,h.1,hb]
 .cases h
end
open Go.RowKit (Below)
section
variable{P:j5}{M0:eu}{w0 w w':World}{N:Nat}{s:St}{τ:Env}{ρ ρ':Nat->Gh}{a:Act}
def vR(s:St)(ρ:Nat->Gh)(kill:List (Nat×Bx))(k:Nat):Prop:=∃b xb,kill=[(b,.dead)]/\s.b b=some xb/\s.s b=false/\own ρ b xb=some k
def Sat.ae0(h:Sat M0 w0 N s τ ρ a w){o:Oper}{sv:SV}{v:Value}{nb:Nat}{x:Bx}{kill:List (Nat×Bx)}{sl:c7}(hd:cw N o=true)
  (hnb:s.b nb=none) (hxp:∀E sz cid,x≠.part E sz cid) (hkill:kill=[]\/∃b xb,kill=[(b,.dead)]/\s.b b=some xb/\s.s b=false)
  (hρ:∀b,b≠nb->ρ' b=ρ b)
  (hbel:Kept M0 w0 w') (hsz:w.heap.size<=w'.heap.size)
  (hheap:∀k,k<w.heap.size->¬vR s ρ kill k->w'.heap[k]?=w.heap[k]?)
  (hg:∀g,own ρ' nb x=some g->M0.ours w0 g/\g<w'.heap.size/\(w.heap.size<=g\/vR s ρ kill g))
  (hv:av (Ms M0 ρ s) w (Ms M0 ρ' (s.app ⟨put o sv,(nb,x)::kill,sl⟩)) w'->iu (oB (s.app ⟨put o sv,(nb,x)::kill,sl⟩)) τ ρ' (Ms M0 ρ' (s.app ⟨put o sv,(nb,x)::kill,sl⟩)) w' sv v)
  (hrep:av (Ms M0 ρ s) w (Ms M0 ρ' (s.app ⟨put o sv,(nb,x)::kill,sl⟩)) w'->ow 0 (oB (s.app ⟨put o sv,(nb,x)::kill,sl⟩)) τ ρ' (Ms M0 ρ' (s.app ⟨put o sv,(nb,x)::kill,sl⟩)) w' nb x) :
  Sat M0 w0 N (s.app ⟨put o sv,(nb,x)::kill,sl⟩) τ ρ' (a.put o.dst v) w':=by
 have hlk:∀b y,look ((nb,x)::kill) b=some y->(b=nb/\y=x)\/(b≠nb/\y=.dead/\kill=[(b,.dead)]):=by
  intro b y hl;simp only[look]at hl;by_cases e:nb=b
  .simp only[e,bg,aZ]at hl;exact .inl ⟨e.symm,hl.symm⟩
  .simp only[e,ck]at hl;rcases hkill with rfl | ⟨b1,xb,rfl,h1,h2⟩
   .cases hl
   .simp only[look]at hl;by_cases e1:b1=b
    .subst e1;simp at hl;exact .inr ⟨fun h=>e h.symm,hl.symm,rfl⟩
    .simp[e1]at hl
 have hln:look ((nb,x)::kill) nb=some x:=by simp[look]
 have hex:∀b,(s.b b).isSome->ρ' b=ρ b:=fun b hb=>hρ b (by rintro rfl;rw[hnb]at hb;cases hb)
 have hMs:∀k,Ms M0 ρ' (s.app ⟨put o sv,(nb,x)::kill,sl⟩) k->Ms M0 ρ s k\/own ρ' nb x=some k:=by
  rintro k (hk | ⟨b,y,h1,h2,h3⟩)
  .exact .inl (.inl hk)
  .rw[St.iL]at h1;rw[St.so]at h2;simp only[lL]at h2;cases hl:look ((nb,x)::kill) b with
   | some z=>
     simp only[hl,aZ]at h1;subst h1;rcases hlk b z hl with⟨rfl,rfl⟩ | ⟨_,rfl,_⟩
     .exact .inr h3
     .cases h3
   | none=>
     simp only[hl]at h1;rw[oM (hex b (by simp[h1]))]at h3;exact .inl (.inr ⟨b,y,h1,h2.2,h3⟩)
 have hkM:∀k,vR s ρ kill k->Ms M0 ρ s k:=fun k ⟨b,xb,_,h1,h2,h3⟩=>.inr ⟨b,xb,h1,h2,h3⟩
 have hkeep:av (Ms M0 ρ s) w (Ms M0 ρ' (s.app ⟨put o sv,(nb,x)::kill,sl⟩)) w':=by
  intro k ob hk hob _;have hlt:k<w.heap.size:=(cJ.1 hob).1;refine⟨fun hm=>?_,by rw[hheap k hlt fun hkl=>hk (hkM k hkl)];exact hob⟩;rcases hMs k hm with hm | hm
  .exact hk hm
  .rcases(hg k hm).2.2 with h1 | h1
   .omega
   .exact hk (hkM k h1)
 refine h.go hd hbel hex hkeep (hv hkeep) ?_ ?_ ?_ ?_ (fun b E sz cid hl=>by
  rcases hlk b _ hl with⟨_,e⟩ | ⟨_,e,_⟩
  .exact absurd e.symm (hxp E sz cid)
  .cases e) hsz
 .intro b y hl hb k hk;refine hheap k (h.lo b y k hb hk).2 ?_;rintro⟨b1,xb,rfl,h1,h2,h3⟩;have:=h.inj b b1 y xb k hb h1 hk h3;subst this;have hne:nb≠b:=by rintro rfl;rw[hnb]at hb;cases hb
  simp[look,hne]at hl
 .intro b y hl;rcases hlk b y hl with⟨rfl,rfl⟩ | ⟨_,rfl,_⟩
  .exact hrep hkeep
  .trivial
 .intro b y k hl hk;rcases hlk b y hl with⟨rfl,rfl⟩ | ⟨_,rfl,_⟩
  .exact⟨(hg k hk).1,(hg k hk).2.1⟩
  .cases hk
 .intro b y k hl hk b' x' hb' hk';rcases hlk b y hl with⟨rfl,rfl⟩ | ⟨_,rfl,_⟩
  .rw[St.iL]at hb';cases hl':look ((b,y)::kill) b' with
   | some z=>
     simp only[hl',aZ]at hb';subst hb';rcases hlk b' z hl' with⟨rfl,rfl⟩ | ⟨_,rfl,_⟩
     .rfl
     .cases hk'
   | none=>
     simp only[hl']at hb';rw[oM (hex b' (by simp[hb']))]at hk';have hlt:=(h.lo b' x' k hb' hk').2;rcases(hg k hk).2.2 with h1 | ⟨b1,xb,rfl,h1,h2,h3⟩
     .omega
     .have:=h.inj b' b1 x' xb k hb' h1 hk' h3;subst this;have hne:b≠b':=by rintro rfl;rw[hnb]at hb';cases hb'
      simp[look,hne]at hl'
  .cases hk
def zu(h:Sat M0 w0 N s τ ρ a w)(ob:Obj):Kept M0 w0 (w.alloc ob):=h.below.alloc ob
def oq{nb:Nat}{u:Unit}(h:(tH nb).run s=some u):s.b nb=none/\s.s nb=false:=by
 obtain⟨x,h1,h2⟩:=Q.bind_some h;simp only[jS,aZ]at h1;obtain⟨_,h3,h4⟩:=Q.bind_some h2;obtain⟨y,h5,h6⟩:=Q.bind_some h4;simp only[tK,aZ]at h5;have:=du h3;rw[<-h1]at this;exact⟨by simpa using this,by rw[h5];exact du h6⟩
def Sat.aP1(h:Sat M0 w0 N s τ ρ a w){o:Oper}{nb T:Nat}{cells:List SC}{vs:j0}(hd:cw N o=true)(hnb:s.b nb=none)(hs:s.s nb=false)
  (hc:az (eB (oB s) τ ρ (Ms M0 ρ s) w) cells vs) :
  ∃ρ',Sat M0 w0 N (s.app ⟨put o (.w (.one (.p nb 0))),[(nb,.var T cells)],[]⟩) τ ρ' (a.put o.dst (.pointer (some ⟨w.heap.size,0,none⟩))) (w.alloc (.cells vs.toArray T)):=by
 refine⟨fun b=>if b=nb then⟨w.heap.size,undef,#[]⟩else ρ b,?_⟩;have hne:∀b,b≠nb->(fun b=>if b=nb then(⟨w.heap.size,undef,#[]⟩:Gh)else ρ b) b=ρ b:=fun b hb=>by simp[hb]
 refine h.ae0 (kill:=[]) hd hnb (fun _ _ _ h=>by cases h) (.inl rfl) hne (zu h _) aT (fun k hk _=>dB w _ k hk) ?_ ?_ ?_
 .intro g hg;simp only[own,bg,aZ]at hg;subst hg;exact⟨.inl h.below.size,aT,.inl (ah _)⟩
 .intro _;refine⟨?_,aT⟩;rw[oB,St.iL];simp[look]
 .intro hkeep;refine⟨vs,?_,hc.imp fun c v=>eB.mono (fun b hb=>⟨?_,hne b (by rintro rfl;simp[oB,hnb]at hb)⟩) hkeep⟩
  .show(w.alloc _).heap[(if nb=nb then(⟨w.heap.size,undef,#[]⟩:Gh)else ρ nb).blk]?=_;rw[aF rfl];exact cr w _
  .rw[oB,St.iL];cases look [(nb,Bx.var T cells)] b with
   | some _=>rfl
   | none=>simpa[oB]using hb
def Sat.store(h:Sat M0 w0 N s τ ρ a w){o:Oper}{b T:Nat}{xc cells:List SC}{vs:j0}(hd:cw N o=true)(hb:s.b b=some (.var T xc))(hs:s.s b=false)
  (hc:az (eB (oB s) τ ρ (Ms M0 ρ s) w) cells vs) :
  Sat M0 w0 N (s.app ⟨put o .undef,[(b,.var T cells)],[]⟩) τ ρ (a.put o.dst undef) (w.setRow (ρ b).blk vs.toArray):=by
 obtain⟨old,hh,_⟩:=h.bx b _ hb;have hlo:=h.lo b _ _ hb rfl;have hbM:Ms M0 ρ s (ρ b).blk:=.inr ⟨b,_,hb,hs,rfl⟩
 have hMs:∀k,Ms M0 ρ (s.app ⟨put o .undef,[(b,.var T cells)],[]⟩) k->Ms M0 ρ s k:=by
  rintro k (hk | ⟨b',y,h1,h2,h3⟩)
  .exact .inl hk
  .rw[St.iL]at h1;rw[St.so]at h2;simp only[look]at h1;by_cases e:b=b'
   .subst e;simp only[bg,aZ]at h1;subst h1;cases h3;exact hbM
   .simp only[e,ck]at h1;exact .inr ⟨b',y,h1,by simpa using h2,h3⟩
 have hkeep:av (Ms M0 ρ s) w (Ms M0 ρ (s.app ⟨put o .undef,[(b,.var T cells)],[]⟩)) (w.setRow (ρ b).blk vs.toArray):=by
  intro k ob hk hob _;refine⟨fun hm=>hk (hMs k hm),?_⟩;rw[ew w _ k _ (by rintro rfl;exact hk hbM)];exact hob
 have hex:∀b',oB s b'->oB (s.app ⟨put o .undef,[(b,.var T cells)],[]⟩) b':=fun b' hb'=>by
  rw[oB,St.iL];cases look [(b,Bx.var T cells)] b'<;>simp
  simpa[oB]using hb'
 refine h.go hd (h.below.setRow hlo.1 _) (fun _ _=>rfl) hkeep rfl ?_ ?_ ?_ ?_ (fun b' E sz cid hl=>by
  simp only[look]at hl;by_cases e:b=b'
  .subst e;simp at hl
  .simp[e]at hl) aT
 .intro b' y hl hb' k hk;refine ew w _ k _ ?_;rintro rfl;have:=h.inj b' b y _ _ hb' hb hk rfl;subst this;simp[look]at hl
 .intro b' y hl;simp only[look]at hl;by_cases e:b=b'
  .subst e;simp only[bg,aZ]at hl;subst hl;exact⟨vs,iV w _ _ _ _ _ hh,hc.imp fun c v=>eB.mono (fun b' hb'=>⟨hex b' hb',rfl⟩) hkeep⟩
  .simp[e]at hl
 .intro b' y k hl hk;simp only[look]at hl;by_cases e:b=b'
  .subst e;simp only[bg,aZ]at hl;subst hl;cases hk;exact⟨hlo.1,by simpa using hlo.2⟩
  .simp[e]at hl
 .intro b' y k hl hk b'' x' hb'' hk';simp only[look]at hl;by_cases e:b=b'
  .subst e;simp only[bg,aZ]at hl;subst hl;cases hk;rw[St.iL]at hb'';simp only[look]at hb'';by_cases e2:b=b''
   .exact e2
   .simp only[e2,ck]at hb'';exact h.inj b b'' _ _ _ hb hb'' rfl hk'
  .simp[e]at hl
def Sat.OW(h:Sat M0 w0 N s τ ρ a w){o:Oper}{b E sz cid ni:Nat}{pt:Bool}{sl:c7}{sv:SV}{v:Value}{ts:List (List aC)}{g o0 len cap:Nat}{cur cur':iS}(hd:cw N o=true)(hb:s.b b=some (lJ pt E sz cid))(hs:s.s b=false)(hsl:b ∉ sl)
  (hval:(ρ b).val=.slice (some ⟨g,o0,none⟩) len cap) (hg0:w.heap[g]?=some (.cells cur E (0,0))) (hout:∀j,(j<o0\/o0+len*sz<=j)->cur'[j]?=cur[j]?) (hg:w'.heap[g]?=some (.cells cur' E (0,0))) (hgr:w.grownBy w' (some g)) (hsize:cur'.size=cur.size)
  (hfit:if pt then o0+len*sz<=cur.size else o0=0/\cur.size=cap*sz) (hcap:cap<=maxLen) (hlen:len<=cap) (hτ:τ[ni]?=some (.rows ts)) (htl:ts.length=len) (hts:∀t∈ts,t.length=sz)
  (hv:cy M0 ρ s sl (Ms M0 ρ (s.app ⟨put o sv,[(b,lJ pt E sz ni)],sl⟩))->iu (oB (s.app ⟨put o sv,[(b,lJ pt E sz ni)],sl⟩)) τ ρ (Ms M0 ρ (s.app ⟨put o sv,[(b,lJ pt E sz ni)],sl⟩)) w' sv v)
  (hrep:cy M0 ρ s sl (Ms M0 ρ (s.app ⟨put o sv,[(b,lJ pt E sz ni)],sl⟩))->Ms M0 ρ (s.app ⟨put o sv,[(b,lJ pt E sz ni)],sl⟩) g->an (Ms M0 ρ (s.app ⟨put o sv,[(b,lJ pt E sz ni)],sl⟩)) w' ts.flatten ((cur'.toList.drop o0).take (len*sz))) :
  Sat M0 w0 N (s.app ⟨put o sv,[(b,lJ pt E sz ni)],sl⟩) τ ρ (a.put o.dst v) w':=by
 have hown:∀pt x y z,own ρ b (lJ pt x y z)=some g:=fun pt x y z=>by rw[Xh,hval];rfl
 have hlo:=h.lo b _ _ hb (hown ..);have hbM:Ms M0 ρ s g:=.inr ⟨b,_,hb,hs,hown ..⟩
 have hMs:∀k,Ms M0 ρ (s.app ⟨put o sv,[(b,lJ pt E sz ni)],sl⟩) k->Ms M0 ρ s k:=by
  rintro k (hk | ⟨b',y,h1,h2,h3⟩)
  .exact .inl hk
  .rw[St.iL]at h1;rw[St.so]at h2;simp only[lL]at h2;simp only[look]at h1;by_cases e:b=b'
   .subst e;simp only[bg,aZ]at h1;subst h1;rw[hown]at h3;cases h3;exact hbM
   .simp only[e,ck]at h1;exact .inr ⟨b',y,h1,h2.2,h3⟩
 have hS:cy M0 ρ s sl (Ms M0 ρ (s.app ⟨put o sv,[(b,lJ pt E sz ni)],sl⟩)):=by
  refine⟨hMs,fun b' x k h1 h2 h3 hk=>?_⟩;rcases hk with hk | ⟨b'',y,h4,h5,h6⟩
  .exact h.old k hk (h.lo b' x k h1 h2).1
  .rw[St.iL]at h4;rw[St.so]at h5;simp only[lL]at h5;simp only[look]at h4;by_cases e:b=b''
   .subst e;simp only[bg,aZ]at h4;subst h4;rw[hown]at h6;have:=h.inj b' b x _ k h1 hb h2 (by rw[hown];exact h6);subst this;rcases h3 with h3 | h3
    .rw[hs]at h3;cases h3
    .exact hsl h3
   .simp only[e,ck]at h4;have:=h.inj b' b'' x y k h1 h4 h2 h6;subst this;rcases h3 with h3 | h3
    .rw[h3]at h5;simp at h5
    .have:sl.contains b'=true:=by simpa using h3
     rw[this]at h5;simp at h5
 have hgM:Ms M0 ρ (s.app ⟨put o sv,[(b,lJ pt E sz ni)],sl⟩) g:=by
  refine .inr ⟨b,lJ pt E sz ni,?_,?_,hown ..⟩
  .rw[St.iL];simp[look]
  .rw[St.so];simp[hs,hsl]
 have hkeep:av (Ms M0 ρ s) w (Ms M0 ρ (s.app ⟨put o sv,[(b,lJ pt E sz ni)],sl⟩)) w':=by
  intro k ob hk hob _;refine⟨fun hm=>hk (hMs k hm),?_⟩;rw[hgr.block k (cJ.1 hob).1 (by rintro⟨rfl⟩;exact hk hbM)];exact hob
 refine h.go hd (h.below.grown hgr fun k hk=>by cases hk;exact hlo.1) (fun _ _=>rfl) hkeep (hv hS) ?_ ?_ ?_ ?_ (fun b' E' sz' cid' hl=>by
  simp only[look]at hl;by_cases e:b=b'
  .subst e;simp only[bg,aZ]at hl;cases pt with
   | true=>exact h.pt b E sz cid hb
   | false=>cases hl
  .simp[e]at hl) hgr.size
 .intro b' y hl hb' k hk;refine hgr.block k (h.lo b' y k hb' hk).2 ?_;rintro⟨rfl⟩;have:=h.inj b' b y _ _ hb' hb hk (hown ..);subst this;simp[look]at hl
 .intro b' y hl;simp only[look]at hl;by_cases e:b=b'
  .subst e;simp only[bg,aZ]at hl;subst hl;have hr:=hrep hS hgM;cases pt with
   | false=>
     simp only[eN,ck]at hfit;obtain⟨rfl,hcur⟩:=hfit;rw[gd]at hr;refine⟨ts,cur'.toList.take (ts.length*sz),hτ,⟨?_,.inr ⟨g,cap,cur',?_,dM _,hg,?_,hcap,?_,rfl⟩⟩,hts,?_⟩
     .have e1:cur'.toList.length=cap*sz:=by rw[cK,hsize,hcur]
      rw[bh,e1,htl];exact de (cY _ hlen)
     .rw[hval,htl]
     .rw[htl];exact hlen
     .rw[hsize];exact hcur
     .rw[htl];exact hr
   | true=>
     simp only[bg]at hfit;refine⟨ts,(cur'.toList.drop o0).take (ts.length*sz),hτ,⟨?_,.inr ⟨g,o0,cap,cur',?_,hg,?_,hcap,?_,rfl⟩⟩,hts,?_,by rw[hval];rfl,?_⟩
     rotate_left 5
     .intro g2 off2 len2 cap2 hv2 cur2 hg2;rw[hval]at hv2;simp only[jB,aZ,gm,cu]at hv2;obtain⟨⟨rfl,rfl⟩,rfl,rfl⟩:=hv2;rw[hg]at hg2;simp only[aZ,jj,cu]at hg2;subst hg2;obtain⟨_,_,_,_,_,_,_,hfr⟩:=h.bx b _ hb;have:=hfr _ _ _ _ hval cur hg0;exact⟨hsize.trans this.1,fun j hj=>(hout j hj).trans (this.2 j hj)⟩
     .rw[bh,dF,cK (xs:=cur'),hsize,htl];exact de O
     .rw[hval,htl]
     .rw[htl];exact hlen
     .rw[htl,hsize];exact hfit
     .rw[htl];exact hr
  .simp[e]at hl
 .intro b' y k hl hk;simp only[look]at hl;by_cases e:b=b'
  .subst e;simp only[bg,aZ]at hl;subst hl;rw[hown]at hk;cases hk;exact⟨hlo.1,cM hlo.2 hgr.size⟩
  .simp[e]at hl
 .intro b' y k hl hk b'' x' hb'' hk';simp only[look]at hl;by_cases e:b=b'
  .subst e;simp only[bg,aZ]at hl;subst hl;rw[hown]at hk;cases hk;rw[St.iL]at hb'';simp only[look]at hb'';by_cases e2:b=b''
   .exact e2
   .simp only[e2,ck]at hb'';exact h.inj b b'' _ _ _ hb hb'' (hown ..) hk'
  .simp[e]at hl
def Qu{pt:Bool}{b E sz cid:Nat}{base:Nat}{ex:c6}{M:c6}(h:ow base ex τ ρ M w b (lJ pt E sz cid)){g o0 len cap:Nat}(hval:(ρ b).val=.slice (some ⟨g,o0,none⟩) len cap) :
  ∃ts cur,τ[cid]?=some (.rows ts)/\ts.length=len/\w.heap[g]?=some (.cells cur E (0,0))/\(if pt then o0+len*sz<=cur.size else o0=0/\cur.size=cap*sz)/\o0+len*sz<=cur.size/\cap<=maxLen/\len<=cap/\(∀t∈ts,t.length=sz)/\an M w ts.flatten ((cur.toList.drop o0).take (len*sz)):=by
 cases pt with
 | false=>
   obtain⟨ts,xs,h1,⟨hx,hown⟩,h3,h4⟩:=h;rcases hown with⟨hv,_⟩ | ⟨g',cap',cur,hv,_,hg,hnc,hcm,hcs,htake⟩
   .rw[hval]at hv;simp at hv
   .rw[hval]at hv;simp only[jB,aZ,gm,cu]at hv;obtain⟨⟨rfl,rfl⟩,rfl,rfl⟩:=hv;refine⟨ts,cur,h1,rfl,hg,⟨rfl,hcs⟩,by rw[bW,hcs];exact cY _ hnc,hcm,hnc,h3,?_⟩;rw[gd,htake];exact h4
 | true=>
   obtain⟨ts,xs,h1,⟨hx,hown⟩,h3,h4,_⟩:=h;rcases hown with⟨_,c,hv⟩ | ⟨g',off,cap',cur,hv,hg,hnc,hcm,hfit,htake⟩
   .rw[hval]at hv;simp at hv
   .rw[hval]at hv;simp only[jB,aZ,gm,cu]at hv;obtain⟨⟨rfl,rfl⟩,rfl,rfl⟩:=hv;refine⟨ts,cur,h1,rfl,hg,hfit,hfit,hcm,hnc,h3,?_⟩;rw[htake];exact h4
end
open Go.RowKit (Below)
section
variable{P:j5}{M0:eu}{w0 w w':World}{N:Nat}{s:St}{τ:Env}{ρ ρ':Nat->Gh}{a:Act}{o:Oper}{e:il}{nd:eV}{nb ni:Nat}{Qp:iN}
abbrev lG(M0:eu)(w0:World)(N:Nat)(s:St)(e:il)(τ:Env):Act->World->Prop:=fun a' w'=>∃ρ',Sat M0 w0 N (s.app e) τ ρ' a' w'
def fK(h:Sat M0 w0 N s τ ρ a w)(hd:cw N o=true){sv:SV}{v:Value}(hr:(execOp a.eval o).run P w=.ok (.value v) w)(hv:iu (oB s) τ ρ (Ms M0 ρ s) w sv v) :
  o.wp P a w (lG M0 w0 N s (lP o sv).1 τ) Qp:=bF hr ⟨ρ,h.pure hd hv⟩
def ak5(h:Sat M0 w0 N s τ ρ a w)(hd:cw N o=true){x:j6}(ho:o.op=.move x\/o.op=.assign x)
  (hq:(do let v <-Nx x;return lP o v:Q (il×eV)).run s=some (e,nd)):o.wp P a w (lG M0 w0 N s e τ) Qp:=by
 obtain⟨v,h1,h2⟩:=Q.bind_some hq;simp only[Q.run_pure,aZ]at h2;obtain⟨rfl,rfl⟩:=dG h2;refine fK h hd (v:=a.eval x) ?_ (zF h h1);rcases ho with ho | ho<;>simp[execOp,ho]
def ed{T:Nat}{z:j0}(h:jm P T=some z):∃i zv,P.info? T=some i/\i.zero=some zv/\zv.cells=z.toArray/\z.all (·.oneCell')=true/\zv.cells.size=i.size:=by
 unfold jm at h;split at h
 .rename_i i hi;split at h
  .rename_i zv hz;split at h
   .rename_i hc;simp only[bR,eH]at hc;simp only[aZ]at h;subst h;exact⟨i,zv,hi,hz,aT,hc.1,hc.2⟩
   .cases h
  .cases h
 .cases h
def aY3(h:Sat M0 w0 N s τ ρ a w)(hd:cw N o=true){T:Nat}(ho:o.op=.alloc T)
  (hq:(do let z <-Q.of (jm P T);tH nb;return (⟨put o (.w (.one (.p nb 0))),[(nb,.var T (z.map fun v=>.c (.k v)))],[]⟩,.none):Q (il×eV)).run s=some (e,nd)):o.wp P a w (lG M0 w0 N s e τ) Qp:=by
 obtain⟨z,h1,h2⟩:=Q.bind_some hq;rw[eU]at h1;obtain⟨_,h3,h4⟩:=Q.bind_some h2;simp only[Q.run_pure,aZ]at h4;obtain⟨rfl,rfl⟩:=dG h4;obtain⟨hb,hs⟩:=oq h3;obtain⟨i,zv,hi,hz,hc,h1',_⟩:=ed h1
 have hr:(execOp a.eval o).run P w=.ok (.value (.pointer (some ⟨w.heap.size,0,none⟩))) (w.alloc (.cells z.toArray T)):=by
  simp[execOp,ho,Instr.alloc,zeroValue,typeInfo,hi,hz,newVar,newRow,hc]
 exact bF hr (h.aP1 hd hb hs (az.wh h1'))
def bH9(h:Sat M0 w0 N s τ ρ a w)(hd:cw N o=true){T:Nat}{x:j6}(ho:o.op=.box T x)
  (hq:(do let v <-Ua x;tH nb;return (⟨put o (.w (.one (.p nb 0))),[(nb,.var T v.cells)],[]⟩,.none):Q (il×eV)).run s=some (e,nd)):o.wp P a w (lG M0 w0 N s e τ) Qp:=by
 obtain⟨v,h1,h2⟩:=Q.bind_some hq;obtain⟨_,h3,h4⟩:=Q.bind_some h2;simp only[Q.run_pure,aZ]at h4;obtain⟨rfl,rfl⟩:=dG h4;obtain⟨hb,hs⟩:=oq h3
 have hr:(execOp a.eval o).run P w=.ok (.value (.pointer (some ⟨w.heap.size,0,none⟩))) (w.alloc (.cells (a.eval x).cells.toList.toArray T)):=by
  simp[execOp,ho,Instr.box,newVar,newRow]
 exact bF hr (h.aP1 hd hb hs (rf h h1).GO)
def uF{l cs:List SC}{off n:Nat}(h:aB4 l off n=some cs):off+n<=l.length/\cs=(l.drop off).take n:=by
 unfold aB4 at h;split at h
 .simp only[aZ]at h;exact⟨b8,h.symm⟩
 .cases h
def wV{ex:c6}{M:c6}{ag:Bool}{cs:List SC}{sv:SV}{vs:j0}{v:Value}(h:GM ag cs=some sv)(hc:az (eB ex τ ρ M w) cs vs)(hv:if ag then v=.agg vs.toArray else vs=[v]):iu ex τ ρ M w sv v:=by
 unfold GM at h;cases ag with
 | true=>
   simp only[bg,aZ]at h hv;subst h;exact⟨vs,hv,hc⟩
 | false=>
   simp only[eN,ck]at h hv;subst hv;split at h
   .simp only[aZ]at h;subst h;exact hc.1
   .cases h
def yY{ag:Bool}{cs:List SC}{sv:SV}(h:GM ag cs=some sv):ag=true\/cs.length=1:=by
 unfold GM at h;cases ag with
 | true=>exact .inl rfl
 | false=>
   simp only[eN,ck]at h;split at h
   .exact .inr rfl
   .cases h
def nB{T:Nat}{x:j6}{ad:Addr}(ho:o.op=.load T x)(hx:a.eval x=.pointer (some ad)){v:Value}{w':World}(hr:(loadVar T ad).run P w=.ok v w'):(execOp a.eval o).run P w=.ok (.value v) w':=by
 simp[execOp,ho,hx,Instr.loadAt,Instr.sureAddr,hr]
def bs3(h:Sat M0 w0 N s τ ρ a w)(hd:cw N o=true){T:Nat}{x:j6}(ho:o.op=.load T x)
  (hq:(Yt P o ni T x).run s=some (e,nd)) (hn:jv P τ o.op o.type nd ni):o.wp P a w (lG M0 w0 N s e τ) Qp:=by
 obtain⟨c,h1,h2⟩:=Q.bind_some hq;obtain⟨⟨ag,n⟩,h3,h4⟩:=Q.bind_some h2;rw[eU]at h3;have hx:=eX h h1;cases c with
 | p b off=>
   obtain⟨bx,h5,h6⟩:=Q.bind_some h4;simp only[jS,aZ]at h5
   match bx,h5,h6 with
   | some (.var T' cells),h5,h6=>
     obtain⟨cs,h7,h8⟩:=Q.bind_some h6;rw[eU]at h7;obtain⟨sv,h9,h10⟩:=Q.bind_some h8;rw[eU]at h9;simp only[Q.run_pure,aZ]at h10;obtain⟨rfl,rfl⟩:=dG h10;obtain⟨hlen,rfl⟩:=uF h7;obtain⟨vs,hh,hall⟩:=h.bx b _ h5;have hone:=yY h9;have hl:=hall.length;obtain⟨v,hr,hv⟩:=ff (w:=w) h3 hh (off:=off) b6 (hone.imp id fun h=>by simp at h;omega);exact fK h hd (nB ho hx.2 hr) (wV h9 ((hall.drop off).take n) (by simpa using hv))
   | none,_,h6=>simp at h6
   | some (.row ..),_,h6=>simp at h6
   | some .dead,_,h6=>simp at h6
 | ref off cells=>
   obtain⟨_,h5,h6⟩:=Q.bind_some h4;have hn0:=du h5;obtain⟨cs,h7,h8⟩:=Q.bind_some h6;rw[eU]at h7;obtain⟨sv,h9,h10⟩:=Q.bind_some h8;rw[eU]at h9;simp only[Q.run_pure,aZ]at h10;obtain⟨rfl,rfl⟩:=dG h10;obtain⟨hlen,rfl⟩:=uF h7;obtain⟨b,o',cur,T',fz,he,hm,hh,hrep⟩:=hx;have hone:=yY h9;have hl:=hrep.length;simp only[aL]at hlen;simp only[dF,aL,bh,cK]at hl;have hcl:(((cells.map SC.c).drop off).take n).length=n:=b6
   obtain⟨v,hr,hv⟩:=ff (w:=w) h3 hh (off:=o') (n:=n) O (hone.imp id fun h=>by rw[hcl]at h;exact h);refine fK h hd (nB ho he hr) (wV h9 (vs:=(cur.toList.drop o').take n) ?_ hv);have h2:=hrep.take n;rw[jh,de b6,<-mX,<-kD]at h2;rw[<-mX,<-kD];refine az.zj b6 fun j y z hy hz=>?_;rw[dR]at hy;cases hyj:((cells.drop off).take n)[j]? with
   | none=>rw[hyj]at hy;cases hy
   | some y0=>
     rw[hyj]at hy;simp only[cZ,aZ]at hy;subst hy;obtain⟨z',hz',hr'⟩:=h2.get j (c0 τ y0) (by rw[dR,hyj];rfl);rw[hz]at hz';cases hz';exact hr'
 | rp b sz i off=>
   obtain⟨⟨pt,E,sz',cid⟩,h5,h6⟩:=Q.bind_some h4;have h5:=oN h5;obtain⟨_,h7,h8⟩:=Q.bind_some h6;obtain⟨rfl,hoff⟩:=du h7;simp only[Q.run_pure,aZ]at h8;obtain⟨rfl,rfl⟩:=dG h8;obtain⟨news,⟨ts,k,m,cells,hcid,hi,h0,hcell,hag,rfl⟩,_,hτ⟩:=hn;have hτ0:τ[ni]?=some (mkS ag ((cells.drop off).take n)):=by simpa using hτ 0 _ rfl
   obtain⟨_,g,o0,len,cap,k',m',hval,hi',h0',hxv⟩:=hx
   have hm:m'=m:=by
    rw[hi]at hi';have:(aC.int k m).rep (fun _=>False) default (.int k' m'):=by rw[show aC.int k m=aC.exact (.int k m)from rfl]at *;rw[hi'];exact⟨rfl,rfl⟩
    have:=this.1;simp at this;exact this.2
   subst hm;obtain⟨ts',cur,hcid',hlen',hg,_,hsz,hcm,hnc,hlen,hrep⟩:=Qu (h.bx b _ h5) hval;rw[hcid]at hcid';simp only[aZ,aQ.rows.injEq]at hcid';subst hcid';subst hlen';have hlt:m'.toNat<ts.length:=(cL.1 hcell).1;have hel:=ri (off:=o0) hlen hrep m'.toNat cells hcell;have hfit:(m'.toNat+1)*sz'<=ts.length*sz':=cY _ O;rw[bt,ee]at hfit;obtain⟨v,hr,hvv⟩:=ff (w:=w) h3 hg (off:=o0+m'.toNat*sz'+off) (n:=n) O hag
   have hr2:an (Ms M0 ρ s) w ((cells.drop off).take n) ((cur.toList.drop (o0+m'.toNat*sz'+off)).take n):=by
    have:=(hel.2.drop off).take n;rw[mg,gu,jh,de O]at this;exact this
   have hlen2:=hr2.length
   have hvt:(mkS ag ((cells.drop off).take n)).rep (Ms M0 ρ s) w v:=by
    cases ag with
    | true=>simp only[bg]at hvv;exact⟨_,hvv,hr2⟩
    | false=>
      simp only[eN,ck]at hvv;rw[hvv]at hr2
      match hz:(cells.drop off).take n,hr2 with
      | [c],hr2=>exact hr2.1
   refine bF (nB ho hxv hr) ⟨ρ,h.pure hd (sv:=.w (su ni (if ag then some n else none))) (tM hτ0 ?_ hvt)⟩;cases ag with
   | true=>
     simp only[mkS,bg,aQ.shape,aZ];rw[bh,dF,hel.1];omega
   | false=>rfl
 | c _=>exact dD h hd h4 hn
 | rs _ _ _ _=>exact dD h hd h4 hn
 | gv _ _=>exact dD h hd h4 hn
 | r _=>exact dD h hd h4 hn
def oF{T:Nat}{x y:j6}{ad:Addr}(ho:o.op=.store T x y)(hx:a.eval x=.pointer (some ad)){w':World}(hr:(storeVar T ad (a.eval y)).run P w=.ok () w'):(execOp a.eval o).run P w=.ok .skip w':=by
 simp[execOp,ho,hx,Instr.storeAt,Instr.sureAddr,hr]
def az.one{ex:c6}{M:c6}{cs:List SC}{vs:j0}(h:az (eB ex τ ρ M w) cs vs):∀v∈vs,v.oneCell'=true:=fun v hv=>by
 obtain⟨c,_,hc⟩:=h.mem v hv;exact eB.one hc
theorem wC:∀{cs:List SC}{xs:List C0}{l:c7},(sX cs).run s=some (xs,l)->xs.length=cs.length
 | [],xs,l,hq=>by simp only[sX,Q.gK,aZ,cX]at hq;rw[<-hq.1];rfl
 | c::cs,xs,l,hq=>by
   obtain⟨⟨x,l1⟩,q1,q2⟩:=Q.bind_some hq;obtain⟨⟨xs',l2⟩,q3,q4⟩:=Q.bind_some q2;simp only[Q.run_pure,aZ,cX]at q4;rw[<-q4.1,bB,bB,wC q3]
def Vt{M':c6}{w:World}{sz:Nat}:∀(ts:List (List aC))(l:j0)(j:Nat)(c:List aC)(us:j0),(∀t∈ts,t.length=sz)->an M' w ts.flatten l->l.length=ts.length*sz->j<ts.length->c.length=sz->an M' w c us ->
  an M' w (ts.set j c).flatten (l.take (j*sz)++us++l.drop (j*sz+sz))
 | [],l,j,c,us,_,_,_,hj,_,_=>by simp at hj
 | t::ts,l,j,c,us,hl,hr,hll,hj,hc,hus=>by
   have ht:t.length=sz:=hl t cE;rw[bB,bt,ee]at hll
   have h2:an M' w ts.flatten (l.drop sz):=by
    have:=hr.drop sz;rw[gX,sE O,mY (by omega:t.length<=sz),List.nil_append]at this;exact this
   cases j with
   | zero=>
     simp only[ub,gX,ns,jI,List.nil_append,bW];exact hus.append h2
   | succ j=>
     simp only[CC,gX]
     have h1:an M' w t (l.take sz):=by
      have:=hr.take sz;rw[gX,xg O,dL (by omega:t.length<=sz)]at this;exact this
     have h3:=Vt ts (l.drop sz) j c us (fun t ht=>hl t (cg _ ht)) h2 (by rw[dF];omega) (by simpa using hj) hc hus;have h4:=h1.append h3
     have e1:l.take sz++((l.drop sz).take (j*sz)++us++(l.drop sz).drop (j*sz+sz))=l.take ((j+1)*sz)++us++l.drop ((j+1)*sz+sz):=by
      have e0:(j+1)*sz=sz+j*sz:=by rw[bt,ee,gp]
      rw[e0,Bz,gu,<-lf];simp[dy]
     rw[e1]at h4;exact h4
def bZ1{α:Type}{l us:List α}{L p sz off n:Nat}(hu:us.length=n)(h1:off+n<=sz)(h2:p+sz<=L)(h3:L<=l.length) :
  (l.take L).take p++(((l.drop p).take sz).take off++us++((l.drop p).take sz).drop (off+n))++(l.take L).drop (p+sz)=(l.take (p+off)++us++l.drop (p+off+n)).take L:=by
 apply gU;intro i;subst hu;simp only[pZ,eh,fG,cF,bh,dF]
 grind
def aQ2(h:Sat M0 w0 N s τ ρ a w)(hd:cw N o=true){T:Nat}{x y:j6}(ho:o.op=.store T x y)
  (hq:(Oo P o ni T x y).run s=some (e,nd)) (hn:jv P τ o.op o.type nd ni):o.wp P a w (lG M0 w0 N s e τ) Qp:=by
 obtain⟨c,h1,h2⟩:=Q.bind_some hq;obtain⟨v,hv1,hv2⟩:=Q.bind_some h2;obtain⟨⟨ag,n⟩,h3,h4⟩:=Q.bind_some hv2;rw[eU]at h3;have hx:=eX h h1;have hy:=(rf h hv1).GO;have hyl:=hy.length;cases c with
 | p b off=>
   obtain⟨bx,h5,h6⟩:=Q.bind_some h4;simp only[jS,aZ]at h5
   match bx,h5,h6 with
   | some (.var T' cells),h5,h6=>
     obtain⟨sb,h7,h8⟩:=Q.bind_some h6;simp only[tK,aZ]at h7;obtain⟨_,h9,h10⟩:=Q.bind_some h8;have hsb:=du h9;rw[<-h7]at hsb;obtain⟨_,h11,h12⟩:=Q.bind_some h10;obtain⟨hn1,hn2⟩:=du h11;simp only[Q.run_pure,aZ]at h12;obtain⟨rfl,rfl⟩:=dG h12;obtain⟨vs,hh,hall⟩:=h.bx b _ h5;have hl:=hall.length;simp only[cK]at hyl;have hr:=kK (w:=w) h3 hh (off:=off) (v:=a.eval y) O hy.one b6;refine sI (oF ho hx.2 hr) ⟨ρ,?_⟩;have:=h.store hd h5 hsb (cells:=cells.take off++v.cells++cells.drop (off+n)) (vs:=vs.take off++(a.eval y).cells.toList++vs.drop (off+n)) (((hall.take off).append hy).append (hall.drop (off+n)));exact this
   | none,_,h6=>simp at h6
   | some (.row ..),_,h6=>simp at h6
   | some .dead,_,h6=>simp at h6
 | rp b sz i off=>
   obtain⟨⟨pt,E,sz',cid⟩,h5,h6⟩:=Q.bind_some h4;have h5:=oN h5;obtain⟨sb,h7,h8⟩:=Q.bind_some h6;simp only[tK,aZ]at h7;obtain⟨_,h9,h10⟩:=Q.bind_some h8;have hsb:=du h9;rw[<-h7]at hsb;obtain⟨⟨xs,sl⟩,h11,h12⟩:=Q.bind_some h10;obtain⟨_,h13,h14⟩:=Q.bind_some h12;obtain⟨rfl,hn1,hn2,hn3⟩:=du h13;simp only[Q.run_pure,aZ]at h14;obtain⟨rfl,rfl⟩:=dG h14;obtain⟨news,⟨ts,k,m,cells,hcid,hi,h0,hcell,rfl⟩,_,hτ⟩:=hn;have hτ0:τ[ni]?=some (.rows (ts.set m.toNat (cells.take off++xs.map (c0 τ)++cells.drop (off+xs.length)))):=by simpa using hτ 0 _ rfl
   obtain⟨_,g,o0,len,cap,k',m',hval,hi',h0',hxv⟩:=hx
   have hm:m'=m:=by
    rw[hi]at hi';have:(aC.int k m).rep (fun _=>False) default (.int k' m'):=by rw[show aC.int k m=aC.exact (.int k m)from rfl]at *;rw[hi'];exact⟨rfl,rfl⟩
    have:=this.1;simp at this;exact this.2
   subst hm;obtain⟨ts',cur,hcid',hlen',hg,hfitp,hsz,hcm,hnc,hlen,hrep⟩:=Qu (h.bx b _ h5) hval;rw[hcid]at hcid';simp only[aZ,aQ.rows.injEq]at hcid';subst hcid';subst hlen';have hlt:m'.toNat<ts.length:=(cL.1 hcell).1;have hj1:(m'.toNat+1)*sz'<=ts.length*sz':=cY _ O;rw[bt,ee]at hj1;simp only[cK]at hyl;have hr:=kK (w:=w) h3 hg (off:=o0+m'.toNat*sz'+off) (v:=a.eval y) O hy.one;refine sI (oF ho hxv hr) ⟨ρ,?_⟩;have hcl:cells.length=sz':=hlen cells (dc hcell);have hxsl:xs.length=n:=by rw[wC h11];exact hn1
   have hyl':(a.eval y).cells.size=n:=O
   refine h.OW (w':=w.setRow g _) hd h5 hsb (by simpa using hn3) hval hg ?_ (iV w _ _ _ _ _ hg) ⟨rfl,rfl,rfl,aT,fun k _ hk=>ew w g k _ (by rintro rfl;exact hk rfl)⟩ ?_ hfitp hcm hnc hτ0 aT ?_ (fun _=>rfl) ?_
   .intro j hj;rw[wQ,<-kU];simp only[pZ,eh,fG,cF,bh,cK,hyl']
    grind
   .simp;omega
   .intro t ht;rcases pU ht with ht | rfl
    .exact hlen t ht
    .simp[hcl,hxsl];omega
   .intro hS hgM;generalize Ms M0 ρ (s.app ⟨put o .undef,[(b,lJ pt E sz' ni)],sl⟩)=M' at hS hgM|-;have hxr:=qp h h11 hS hy;have hrep':=hrep.mono (hS.dJ (w:=w));have hel:=ri (off:=o0) hlen hrep'
    have htl:((cur.toList.drop o0).take (ts.length*sz')).length=ts.length*sz':=by
     rw[bh,dF,cK (xs:=cur)];exact de O
    have hcrep:an M' w (cells.take off++xs.map (c0 τ)++cells.drop (off+xs.length)) ((((cur.toList.drop o0).drop (m'.toNat*sz')).take sz').take off++(a.eval y).cells.toList++(((cur.toList.drop o0).drop (m'.toNat*sz')).take sz').drop (off+n)):=by
     have:=(hel m'.toNat cells hcell).2;rw[hxsl,gu];exact((this.take off).append hxr).append (this.drop (off+n))
    have:=Vt ts _ m'.toNat _ _ hlen hrep' htl hlt (by simp[hcl,hxsl];omega) hcrep;rw[bZ1 (by simpa using hyl') hn2 hj1 (by rw[dF,cK (xs:=cur)];omega)]at this
    have e1:((cur.toList.take (o0+m'.toNat*sz'+off)++(a.eval y).cells.toList++cur.toList.drop (o0+m'.toNat*sz'+off+n)).toArray.toList.drop o0)=((cur.toList.drop o0).take (m'.toNat*sz'+off)++(a.eval y).cells.toList++(cur.toList.drop o0).drop (m'.toNat*sz'+off+n)):=by
     show List.drop o0 (cur.toList.take (o0+m'.toNat*sz'+off)++(a.eval y).cells.toList++cur.toList.drop (o0+m'.toNat*sz'+off+n))=_;have e2:o0+m'.toNat*sz'+off-o0=m'.toNat*sz'+off:=O
     have e3:o0+m'.toNat*sz'+off+n=o0+(m'.toNat*sz'+off+n):=O
     rw[dy,sE (by rw[bh,cK (xs:=cur)];omega),mg,e2,e3,<-gu,<-dy]
    rw[e1];refine this.mono ?_;intro k' ob hk hob _;exact⟨hk,by rw[ew w g k' _ (by rintro rfl;exact hk hgM)];exact hob⟩
 | c _=>simp at h4
 | rs _ _ _ _=>simp at h4
 | gv _ _=>simp at h4
 | r _=>simp at h4
 | ref _ _=>simp at h4
end
end Go.Sy
