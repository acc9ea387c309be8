/- Part. -/
import Derived.RangeFuncOwn
import Derived.Laws.CopyOwn
import Derived.Lib.ItoaNum
set_option linter.all false
namespace Go.Sy
theorem dL {α β:Type _} {l:List α} (f:α→β):(l.map f).length=l.length:=List.length_map f
theorem aJ {α:Type _} (a b:α):(some a=some b)=(a=b):=Option.some.injEq a b
theorem fF {α:Type _} {l:List α} {i:Nat} (h:i<l.length):l[i]? = some l[i]:=List.getElem?_eq_getElem h
theorem LJ {α:Type _} {l:List α} {i:Nat} {a:α} (h:l[i]? = some a):a∈l:=List.mem_of_getElem? h
theorem qG {α:Type _} {l:List α} {i:Nat} {a:α}:l.getD i a=(l[i]?).getD a:=List.getD_eq_getElem?_getD
theorem dS {α:Type _} {xs:Array α} {i:Nat} {b:α}:xs[i]? = some b↔∃ h:i<xs.size,xs[i]=b:=Array.getElem?_eq_some_iff
theorem fT {α:Type _} {xs:List α} {i:Nat} {b:α}:xs[i]? = some b↔∃ h:i<xs.length,xs[i]=b:=List.getElem?_eq_some_iff
theorem cD (n:Nat):n≤n:=Nat.le_refl n
theorem yH {α β:Type _} {f:α→β} {b:β} {l:List α}:b∈l.map f↔∃ a,a∈l∧f a=b:=List.mem_map
theorem eX {α β:Type _} {f:α→β} {l:List α} {i:Nat}:(l.map f)[i]? = Option.map f l[i]?:=List.getElem?_map
theorem eF {α:Type _} {as bs:List α}:(as++bs).length=as.length+bs.length:=List.length_append
theorem fP (n:Nat):0≤n:=Nat.zero_le n
theorem aD1 {n:Nat}:(List.range n).length=n:=List.length_range
theorem aF {α:Type _} {a:α} {l m:List α}:a::l++m=a::(l++m):=rfl
theorem aG {α:Type _} {l:List α}:[]++l=l:=rfl
open Go.RowKit (Below)
def AL:Array Value:=(Lib.pow10Tab.map fun z=>Value.int .u64 z).toArray
def Ty.tab:List (Nat×Array Value):=[(0,AL)]
def aR (M:Nat→Prop) (w:World) (M':Nat→Prop) (w':World):Prop:=
 ∀ b o,¬ M b→w.heap[b]? = some o→o.isCells=true→¬ M' b∧w'.heap[b]? = some o
theorem aR.refl (M:Nat→Prop) (w:World):aR M w M w:=fun _ _ h h' _=>⟨h,h'⟩
theorem aR.trans {M M' M'':Nat→Prop} {w w' w'':World} (h:aR M w M' w') (k:aR M' w' M'' w''):aR M w M'' w'':=
 fun b o hb ho hc=>let ⟨h1,h2⟩:=h b o hb ho hc;k b o h1 h2 hc
theorem aR.below {M:Nat→Prop} {w w':World} (h:Below w.heap.size w w'):aR M w M w':=
 fun b o hb ho _=>⟨hb,by rw [h.block b (dS.1 ho).1];exact ho⟩
structure aL where
 rep:(Nat→Prop)→World→Value→Prop
 mono:∀ {M w M' w' v},aR M w M' w'→rep M w v→rep M' w' v
 one:∀ {M w v},rep M w v→v.oneCell'=true
def aL.exact (v:Value):aL where
 rep:=fun _ _ x=>x=v∧v.oneCell'=true
 mono:=fun _ h=>h
 one:=fun h=>by rw [h.1];exact h.2
def aL.bad:aL where
 rep:=fun _ _ _=>False
 mono:=fun _ h=>h
 one:=fun h=>h.elim
abbrev aL.int (k:IntKind) (n:Int):aL:=.exact (.int k n)
abbrev aL.bool (b:Bool):aL:=.exact (.bool b)
abbrev aL.str (s:ByteArray):aL:=.exact (.string s)
inductive aE where
 | one (c:aL)
 | agg (cs:List aL)
 | rows (ts:List (List aL))
def aM (M:Nat→Prop) (w:World):List aL→List Value→Prop
 | [],[]=>True
 | c::cs,v::vs=>c.rep M w v∧aM M w cs vs
 | _,_=>False
def aE.rep (M:Nat→Prop) (w:World):aE→Value→Prop
 | .one c,v=>c.rep M w v
 | .agg cs,v=>∃ vs:List Value,v = .agg vs.toArray∧aM M w cs vs
 | .rows _,_=>False
def bR (M:Nat→Prop) (w:World):List aE→List Value→Prop
 | [],[]=>True
 | c::cs,v::vs=>c.rep M w v∧bR M w cs vs
 | _,_=>False
theorem aM.mono {M M':Nat→Prop} {w w':World} (h:aR M w M' w'):∀ {cs vs},aM M w cs vs→aM M' w' cs vs
 | [],[],_=>trivial
 | _::_,_::_,⟨a,b⟩=>⟨aL.mono _ h a,aM.mono h b⟩
 | [],_::_,k=>k.elim
 | _::_,[],k=>k.elim
theorem aE.KZ {M M':Nat→Prop} {w w':World} (h:aR M w M' w'):∀ {t:aE} {v},t.rep M w v→t.rep M' w' v
 | .one c,_,k=>c.mono h k
 | .agg _,_,⟨vs,e,k⟩=>⟨vs,e,k.mono h⟩
 | .rows _,_,k=>k
theorem bR.mono {M M':Nat→Prop} {w w':World} (h:aR M w M' w'):∀ {cs vs},bR M w cs vs→bR M' w' cs vs
 | [],[],_=>trivial
 | _::_,_::_,⟨a,b⟩=>⟨aE.KZ h a,bR.mono h b⟩
 | [],_::_,k=>k.elim
 | _::_,[],k=>k.elim
theorem aM.length {M:Nat→Prop} {w:World}:∀ {cs vs},aM M w cs vs→cs.length=vs.length
 | [],[],_=>rfl
 | _::_,_::_,⟨_,b⟩=>by simp [b.length]
 | [],_::_,k=>k.elim
 | _::_,[],k=>k.elim
theorem bR.length {M:Nat→Prop} {w:World}:∀ {cs vs},bR M w cs vs→cs.length=vs.length
 | [],[],_=>rfl
 | _::_,_::_,⟨_,b⟩=>by simp [b.length]
 | [],_::_,k=>k.elim
 | _::_,[],k=>k.elim
theorem aM.get {M:Nat→Prop} {w:World}:∀ {cs vs},aM M w cs vs→∀ (j:Nat) (c:aL),cs[j]? = some c→∃ v,vs[j]? = some v∧c.rep M w v
 | [],[],_,j,c,hc=>by simp at hc
 | c0::cs,v0::vs,⟨a,b⟩,j,c,hc=>by
   cases j with
   | zero=>simp at hc;subst hc;exact ⟨v0,rfl,a⟩
   | succ j=>simpa using b.get j c (by simpa using hc)
 | [],_::_,k,_,_,_=>k.elim
 | _::_,[],k,_,_,_=>k.elim
theorem aM.rK {M:Nat→Prop} {w:World}:∀ {cs vs},cs.length=vs.length→(∀ (j:Nat) (c:aL) (v:Value),cs[j]? = some c→vs[j]? = some v→c.rep M w v)→aM M w cs vs
 | [],[],_,_=>trivial
 | c::cs,v::vs,hl,h=>⟨h 0 c v rfl rfl,aM.rK (by simpa using hl) fun j c' v' hc hv=>h (j+1) c' v' (by simpa using hc) (by simpa using hv)⟩
 | [],_::_,hl,_=>by simp at hl
 | _::_,[],hl,_=>by simp at hl
theorem aM.append {M:Nat→Prop} {w:World}:∀ {cs vs cs' vs'},aM M w cs vs→aM M w cs' vs'→aM M w (cs++cs') (vs++vs')
 | [],[],_,_,_,h=>h
 | _::_,_::_,_,_,⟨a,b⟩,h=>⟨a,b.append h⟩
 | [],_::_,_,_,k,_=>k.elim
 | _::_,[],_,_,k,_=>k.elim
theorem aM.take {M:Nat→Prop} {w:World}:∀ (n:Nat) {cs vs},aM M w cs vs→aM M w (cs.take n) (vs.take n)
 | 0,_,_,_=>trivial
 | _+1,[],[],_=>trivial
 | n+1,_::_,_::_,⟨a,b⟩=>⟨a,b.take n⟩
 | _+1,[],_::_,k=>k.elim
 | _+1,_::_,[],k=>k.elim
theorem aM.drop {M:Nat→Prop} {w:World}:∀ (n:Nat) {cs vs},aM M w cs vs→aM M w (cs.drop n) (vs.drop n)
 | 0,_,_,h=>h
 | _+1,[],[],_=>trivial
 | n+1,_::_,_::_,⟨_,b⟩=>b.drop n
 | _+1,[],_::_,k=>k.elim
 | _+1,_::_,[],k=>k.elim
theorem aM.one {M:Nat→Prop} {w:World}:∀ {cs vs},aM M w cs vs→∀ v∈vs,v.oneCell'=true
 | [],[],_=>by simp
 | c::_,v::_,⟨a,b⟩=>by
   intro x hx;rcases List.mem_cons.1 hx with rfl | hx
   ·exact c.one a
   ·exact b.one x hx
 | [],_::_,k=>k.elim
 | _::_,[],k=>k.elim
def aE.shape:aE→Option (Option Nat)
 | .one _=>some none
 | .agg cs=>some (some cs.length)
 | .rows _=>none
def aE.cells:aE→List aL
 | .one c=>[c]
 | .agg cs=>cs
 | .rows _=>[]
def aE.cell (t:aE) (j:Nat):aL:=t.cells.getD j .bad
def pack:List Value→Value
 | [v]=>v
 | vs=>.tuple vs.toArray
inductive Out where
 | ret (rs:List aE)
 | retr (rs:List aE) (ts:List (List aL))
 | pan (c:aL)
 | orc (f:Nat) (args news:List aE)
def vU (M:Nat→Prop) (w:World):Out→Ending→Prop
 | .ret rs,e=>∃ vs,e = .returned (pack vs)∧bR M w rs vs
 | .retr _ _,_=>False
 | .orc _ _ _,_=>False
 | .pan c,e=>∃ v,e = .panicked [{ v,recovered:=false }]∧c.rep M w v
def Good (M:Nat→Prop) (w:World):Prop:=∀ x∈Ty.tab,¬ M x.1∧∃ T fz,w.heap[x.1]? = some (.cells x.2 T fz)
def Fine (M:Nat→Prop) (w:World):Prop:=(∀ b,M b→b<w.heap.size)∧Good M w
theorem Good.cE {M M':Nat→Prop} {w w':World} (h:Good M w) (k:aR M w M' w'):Good M' w':=fun x hx=>by
 obtain ⟨h1,T,fz,h2⟩:=h x hx;obtain ⟨h3,h4⟩:=k x.1 _ h1 h2 rfl;exact ⟨h3,T,fz,h4⟩
theorem Good.below {M:Nat→Prop} {w w':World} {n:Nat} (h:Good M w) (hn:n=w.heap.size) (k:Below n w w'):Good M w':=by subst hn;exact h.cE (aR.below k)
theorem Good.sub {M M':Nat→Prop} {w:World} (h:Good M w) (k:∀ b,M' b→M b):Good M' w:=fun x hx=>⟨fun hm=>(h x hx).1 (k _ hm),(h x hx).2⟩
theorem Fine.sub {M M':Nat→Prop} {w:World} (h:Fine M w) (k:∀ b,M' b→M b):Fine M' w:=⟨fun b hb=>h.1 b (k b hb),h.2.sub k⟩
def aD (P:Program) (f:FuncId) (args:List aE) (out:Out):Prop:=
 (∀ as w,(callFunc f as).run P w = .ok (.enter f as) w) ∧
 ∀ (M:Nat→Prop) (w:World) (vs:List Value),Fine M w→bR M w args vs →
   Calls P f vs.toArray w fun e w'=>Below w.heap.size w w'∧vU M w' out e
def aO (P:Program) (op:Op) (ty:TypeId) (args:List aE) (t:aE):Prop:=
 ∀ (M:Nat→Prop) (w:World) (ρ:Operand→Value) (o:Oper),o.op=op→o.type=ty→bR M w args (op.operands.toList.map ρ) →
   ∃ v,(execOp ρ o).run P w = .ok (.value v) w∧t.rep M w v
def Ni (P:Program) (op:Op) (ty:TypeId) (E sz:Nat) (pre post:List aE) (ts:List (List aL)) (rs:List aE) (ts':List (List aL)):Prop:=
 ts'.length=ts.length∧(∀ t∈ts',t.length=sz) ∧
 ∀ (M:Nat→Prop) (w:World) (a:Act) (o:Oper) (c:Call) (K:Act→World→Prop) (Q:Exit→Act→World→Prop) (g off cap:Nat) (cur:Array Value) (vs1 vs2:List Value),o.op=op→o.type=ty→op = .call c →
   c.args.toList.map a.eval=vs1 ++ .slice (some ⟨g,off,none⟩) ts.length cap::vs2→Fine M w→M g→w.heap[g]? = some (.cells cur E (0,0)) →
   off+ts.length*sz≤cur.size→ts.length≤cap→cap≤maxLen→aM M w ts.flatten ((cur.toList.drop off).take (ts.length*sz))→bR M w pre vs1→bR M w post vs2 →
   (∀ w' cur' us,w.grownBy w' (some g)→w'.heap[g]? = some (.cells cur' E (0,0))→cur'.size=cur.size→(∀ j,(j<off∨off+ts.length*sz≤j)→cur'[j]? = cur[j]?)→bR M w' rs us →
    aM M w' ts'.flatten ((cur'.toList.drop off).take (ts.length*sz))→K (a.put o.dst (pack us)) w')→o.wp P a w K Q
def aL.bI (cells:List aL):aL where
 rep:=fun M w v=>∃ b off cs T fz,v = .pointer (some ⟨b,off,none⟩)∧¬ M b∧w.heap[b]? = some (.cells cs T fz)∧aM M w cells ((cs.toList.drop off).take cells.length)
 mono:=by
  rintro M w M' w' v hk ⟨b,off,cs,T,fz,rfl,hm,hh,hr⟩;obtain ⟨h1,h2⟩:=hk b _ hm hh rfl;exact ⟨b,off,cs,T,fz,rfl,h1,h2,hr.mono hk⟩
 one:=by
  rintro M w v ⟨b,off,cs,T,fz,rfl,_⟩;rfl
def aL.dZ (f:FuncId) (caps:List aL):aL where
 rep:=fun M w v=>∃ vs:List Value,v = .func (.func f) #[] vs.toArray∧aM M w caps vs
 mono:=by
  rintro M w M' w' v hk ⟨vs,rfl,hr⟩;exact ⟨vs,rfl,hr.mono hk⟩
 one:=by
  rintro M w v ⟨vs,rfl,_⟩;rfl
def aL.slice (sz:Nat) (ts:List (List aL)):aL where
 rep:=fun M w v=>∃ a cap,v = .slice a ts.length cap∧ts.length≤cap∧cap≤maxLen∧(ts = []∨∃ b off cs T fz,a=some ⟨b,off,none⟩∧¬ M b∧w.heap[b]? = some (.cells cs T fz) ∧
  ∀ i t,ts[i]? = some t→t.length=sz∧aM M w t ((cs.toList.drop (off+i*sz)).take sz))
 mono:=by
  rintro M w M' w' v hk ⟨a,cap,rfl,hc,hc2,h⟩;refine ⟨a,cap,rfl,hc,hc2,?_⟩;rcases h with h | ⟨b,off,cs,T,fz,rfl,hm,hh,hr⟩
  ·exact .inl h
  ·obtain ⟨h1,h2⟩:=hk b _ hm hh rfl;exact .inr ⟨b,off,cs,T,fz,rfl,h1,h2,fun i t ht=>⟨(hr i t ht).1,(hr i t ht).2.mono hk⟩⟩
 one:=by
  rintro M w v ⟨a,cap,rfl,_⟩;rfl
inductive C0 where
 | u (i j:Nat)
 | k (v:Value)
 | sr (sz cid:Nat)
inductive CR where
 | c (x:C0)
 | ref (off:Nat) (cells:List C0)
inductive SC where
 | c (x:C0)
 | ref (off:Nat) (cells:List C0)
 | dZ (f:Nat) (caps:List CR)
 | p (b off:Nat)
 | r (b:Nat)
 | rp (b sz:Nat) (i:C0) (off:Nat)
 | rs (b sz:Nat) (lo hi:C0)
inductive SW where
 | one (c:SC)
 | agg (cs:List SC)
inductive SV where
 | junk
 | undef
 | w (x:SW)
 | tup (xs:List SW)
inductive Bx where
 | var (T:Nat) (cells:List SC)
 | row (E sz cid:Nat)
 | part (E sz cid:Nat)
 | dead
structure eM where
 tm:List (Nat×SV)
 bx:List (Nat×Bx)
 sl:List Nat
def look {α:Type} (l:List (Nat×α)) (n:Nat):Option α:=
 match l with
 | []=>none
 | (m,x)::l=>if m=n then some x else look l n
structure St where
 tm:List (Nat×SV)
 bx:List (Nat×Bx)
 sl:List Nat
def St.t (s:St) (n:Nat):SV:=(look s.tm n).getD .junk
def St.b (s:St) (n:Nat):Option Bx:=look s.bx n
def St.s (s:St) (n:Nat):Bool:=s.sl.contains n
def St.app (s:St) (e:eM):St:=⟨e.tm++s.tm,e.bx++s.bx,e.sl++s.sl⟩
inductive Q (α:Type) where
 | ret (a:α)
 | fail
 | t (n:Nat) (k:SV→Q α)
 | b (n:Nat) (k:Option Bx→Q α)
 | s (n:Nat) (k:Bool→Q α)
inductive Loc where
 | t (n:Nat)
 | b (n:Nat)
 | s (n:Nat)
 deriving DecidableEq
def Q.bind {α β:Type}:Q α→(α→Q β)→Q β
 | .ret a,f=>f a
 | .fail,_=>.fail
 | .t n k,f=>.t n fun x=>(k x).bind f
 | .b n k,f=>.b n fun x=>(k x).bind f
 | .s n k,f=>.s n fun x=>(k x).bind f
instance:Monad Q where
 pure:=Q.ret
 bind:=Q.bind
def Q.run {α:Type} (s:St):Q α→Option α
 | .ret a=>some a
 | .fail=>none
 | .t n k=>(k (s.t n)).run s
 | .b n k=>(k (s.b n)).run s
 | .s n k=>(k (s.s n)).run s
def Q.log {α:Type} (s:St):Q α→List Loc
 | .ret _=>[]
 | .fail=>[]
 | .t n k=>.t n::(k (s.t n)).log s
 | .b n k=>.b n::(k (s.b n)).log s
 | .s n k=>.s n::(k (s.s n)).log s
def aj2 (n:Nat):Q SV:=.t n .ret
def sI (n:Nat):Q (Option Bx):=.b n .ret
def Ow (n:Nat):Q Bool:=.s n .ret
def Q.of {α:Type}:Option α→Q α
 | some a=>.ret a
 | none=>.fail
def ask (p:Prop) [Decidable p]:Q Unit:=if p then .ret () else .fail
def fW (pt:Bool) (E sz cid:Nat):Bx:=if pt then .part E sz cid else .row E sz cid
def oS (b:Nat):Q (Bool×Nat×Nat×Nat):=do
 match ←sI b with
 | some (.row E sz cid)=>return (false,E,sz,cid)
 | some (.part E sz cid)=>return (true,E,sz,cid)
 | _=>.fail
def mA (nb:Nat):Q Unit:=do
 let x ←sI nb
 ask (x.isNone=true)
 ask ((←Ow nb)=false)
inductive cL where
 | none
 | prim (args:List SW) (sh:Option Nat)
 | call (f:Nat) (args:List SW) (sh:List (Option Nat))
 | callv (c:C0) (args:List SW) (sh:List (Option Nat))
 | lit (sz:Nat) (tss:List (List C0))
 | make (zero:List Value) (bytes:Nat) (len cap:C0)
 | app (sz bytes:Nat) (cid:Option Nat) (src:Option C0) (row:Option Nat)
 | idx (cid:Nat) (i:C0)
 | ldrow (cid:Nat) (i:C0) (off sz:Nat) (agg:Bool)
 | strow (cid sz:Nat) (i:C0) (off:Nat) (cells:List C0)
 | lenrow (cid:Nat)
 | rop (cid E sz:Nat) (view:Option (C0×C0)) (pre post:List SW) (sh:List (Option Nat))
 | view (cid:Nat) (lo hi mx:C0)
def cL.ids:cL→Nat
 | .none | .idx .. | .view ..=>0
 | .call _ _ sh | .callv _ _ sh=>sh.length
 | .rop _ _ _ _ _ _ sh=>sh.length+1
 | _=>1
def pB (P:Program) (T:Nat):Option (Bool×Nat):=
 match P.underlying T,P.info? T with
 | some d,some i=>some ((match d with | .struct _ | .array _ _=>true | _=>false),i.size)
 | _,_=>none
def Ma (P:Program) (T:Nat):Option (Option Nat):=
 (pB P T).map fun (a,n)=>if a then some n else none
def lW (i:Nat):Option Nat→SW
 | none=>.one (.c (.u i 0))
 | some n=>.agg ((List.range n).map fun j=>.c (.u i j))
def RS:Value→SV
 | .agg cs=>if cs.toList.all (·.oneCell') then .w (.agg (cs.toList.map fun v=>.c (.k v))) else .junk
 | .tuple _=>.junk
 | .func ..=>.junk
 | v=>.w (.one (.c (.k v)))
def Gk:Operand→Q SV
 | .tmp t=>aj2 t
 | .const v=>.ret (RS v)
 | .func f=>.ret (.w (.one (.dZ f [])))
 | .global _=>.ret .junk
def SV.sw:SV→Option SW
 | .w x=>some x
 | _=>none
def SW.sc:SW→Option SC
 | .one c=>some c
 | _=>none
def SW.cells:SW→List SC
 | .one c=>[c]
 | .agg cs=>cs
def Jr (x:Operand):Q SW:=do let v ←Gk x;Q.of v.sw
def jS (x:Operand):Q SC:=do let v ←Jr x;Q.of v.sc
def Ld:List (Nat×Operand)→Q (List (Nat×SW))
 | []=>.ret []
 | (i,x)::xs=>do let v ←Jr x;let vs ←Ld xs;return (i,v)::vs
def kS:SC→Q (C0×List Nat)
 | .c x=>.ret (x,[])
 | .r b=>do
   let some (.row _ sz cid) ←sI b | .fail
   return (.sr sz cid,[b])
 | _=>.fail
def lJ:List SC→Q (List C0×List Nat)
 | []=>.ret ([],[])
 | c::cs=>do let (x,l) ←kS c;let (xs,ls) ←lJ cs;return (x::xs,l++ls)
def sC:SC→Q (SC×List Nat)
 | .r b=>do
   let some (.row _ sz cid) ←sI b | .fail
   return (.c (.sr sz cid),[b])
 | .p b off=>do
   let some (.var _ cells) ←sI b | .fail
   let (xs,l) ←lJ cells
   return (.ref off xs,b::l)
 | .rp ..=>.fail
 | .rs ..=>.fail
 | c=>.ret (c,[])
def AY:List SC→Q (List SC×List Nat)
 | []=>.ret ([],[])
 | c::cs=>do let (x,l) ←sC c;let (xs,ls) ←AY cs;return (x::xs,l++ls)
def QN:SW→Q (SW×List Nat)
 | .one c=>do let (c,l) ←sC c;return (.one c,l)
 | .agg cs=>do let (cs,l) ←AY cs;return (.agg cs,l)
def mD:List Operand→Q (List SW×List Nat)
 | []=>.ret ([],[])
 | x::xs=>do let v ←Jr x;let (y,l) ←QN v;let (ys,ls) ←mD xs;return (y::ys,l++ls)
def Lg (place:Nat→Option (Nat×Nat)) (cells:List SC):List (Nat×SW)→Option (List SC)
 | []=>some cells
 | (i,v)::rest=>match place i with
   | none=>none
   | some (off,size)=>
     if v.cells.length≠size || off+v.cells.length>cells.length then none
     else Lg place (cells.take off++v.cells++cells.drop (off+v.cells.length)) rest
def JE (P:Program) (T:Nat):Option (List (Nat×Nat)):=
 match P.underlying T with
 | some (.struct fs)=>fs.toList.mapM fun f=>(P.info? f.type).map fun i=>(f.offset,i.size)
 | _=>none
def lT (P:Program) (T:Nat):Option (List Value):=
 match P.info? T with
 | some i=>match i.zero with
   | some z=>if z.cells.toList.all (·.oneCell')&&z.cells.size==i.size then some z.cells.toList else none
   | none=>none
 | none=>none
def mV (P:Program) (T f:Nat):Option (Nat×Nat×Nat):=
 match P.underlying T with
 | some (.struct fs)=>match fs[f]? with
   | some fl=>(P.info? fl.type).map fun i=>(fl.type,fl.offset,i.size)
   | none=>none
 | _=>none
def fI (P:Program) (T:Nat):Option (Nat×Nat×Nat):=
 match P.underlying T with
 | some (.slice e)=>(P.info? e).map fun i=>(e,i.size,i.bytes)
 | _=>none
def XF (P:Program) (T:Nat):Option (List (Option Nat)):=
 match P.underlying T with
 | some (.tuple ts)=>ts.toList.mapM (Ma P)
 | _=>(Ma P T).map fun s=>[s]
def mG (P:Program) (f:Nat):Bool:=
 match P.funcs[f]? with
 | some fn=>fn.name != "runtime.NumGoroutine" && fn.body.isSome
 | none=>false
def gX (ni:Nat) (sh:List (Option Nat)):SV:=
 match sh with
 | [x]=>.w (lW ni x)
 | xs=>.tup (xs.mapIdx fun j x=>lW (ni+j) x)
def put (o:Oper) (v:SV):List (Nat×SV):=
 match o.dst with
 | some d=>[(d,v)]
 | none=>[]
def fX (o:Oper) (v:SV):eM×cL:=(⟨put o v,[],[]⟩, .none)
def qF (P:Program) (o:Oper) (ni:Nat):Q (eM×cL):=do
 let (args,sl) ←mD o.op.operands.toList
 let sh ←Q.of (Ma P o.type)
 return (⟨put o (.w (lW ni sh)),[],sl⟩, .prim args sh)
def PH (l:List SC) (off n:Nat):Option (List SC):=if off+n≤l.length then some ((l.drop off).take n) else none
def BX (agg:Bool) (cs:List SC):Option SV:=
 if agg then some (.w (.agg cs)) else match cs with
  | [c]=>some (.w (.one c))
  | _=>none
def ab0:CR→SW
 | .c x=>.one (.c x)
 | .ref off cs=>.one (.ref off cs)
def Lv (P:Program) (o:Oper) (ni:Nat) (f:Nat) (args:List Operand) (caps:List CR):Q (eM×cL):=do
 let (as,sl) ←mD args
 let sh ←Q.of (XF P o.type)
 ask (mG P f=true)
 return (⟨put o (gX ni sh),[],sl⟩, .call f (as++caps.map ab0) sh)
def To:SC→Q (CR×List Nat)
 | .p b 0=>do
   let some (.var _ cells) ←sI b | .fail
   let (xs,l) ←lJ cells
   return (.ref 0 xs,b::l)
 | .ref off xs=>.ret (.ref off xs,[])
 | c=>do let (x,l) ←kS c;return (.c x,l)
def JC:List Operand→Q (List CR×List Nat)
 | []=>.ret ([],[])
 | v::vs=>do let c ←jS v;let (x,l) ←To c;let (xs,ls) ←JC vs;return (x::xs,l++ls)
def isNil:C0→Bool
 | .k (.slice none 0 0)=>true
 | _=>false
def Lt (P:Program) (o:Oper) (ni:Nat) (T:Nat) (x:Operand):Q (eM×cL):=do
 let c ←jS x
 let (ag,n) ←Q.of (pB P T)
 match c with
 | .p b off=>
   let some (.var _ cells) ←sI b | .fail
   let cs ←Q.of (PH cells off n)
   let v ←Q.of (BX ag cs)
   return fX o v
 | .ref off cells=>
   ask (0<n)
   let cs ←Q.of (PH (cells.map .c) off n)
   let v ←Q.of (BX ag cs)
   return fX o v
 | .rp b sz i off=>
   let (_,_,sz',cid) ←oS b
   ask (sz'=sz∧off+n≤sz)
   return (⟨put o (.w (lW ni (if ag then some n else none))),[],[]⟩, .ldrow cid i off n ag)
 | _=>qF P o ni
def Gx (P:Program) (o:Oper) (ni:Nat) (T:Nat) (x y:Operand):Q (eM×cL):=do
 let c ←jS x
 let v ←Jr y
 let (_,n) ←Q.of (pB P T)
 match c with
 | .p b off=>
   let some (.var T' cells) ←sI b | .fail
   ask ((←Ow b)=false)
   ask (v.cells.length=n∧off+n≤cells.length)
   return (⟨put o .undef,[(b, .var T' (cells.take off++v.cells++cells.drop (off+n)))],[]⟩, .none)
 | .rp b sz i off=>
   let (pt,E,sz',cid) ←oS b
   ask ((←Ow b)=false)
   let (xs,sl) ←lJ v.cells
   ask (sz'=sz∧v.cells.length=n∧off+n≤sz∧sl.contains b=false)
   return (⟨put o .undef,[(b,fW pt E sz' ni)],sl⟩, .strow cid sz i off xs)
 | _=>.fail
def tL (P:Program) (o:Oper) (nb ni:Nat) (t:List Nat) (x y:Operand):Q (eM×cL):=do
 let (e,sz,by_) ←Q.of (fI P (t.getD 0 0))
 ask (t = [t.getD 0 0,t.getD 0 0]∧0<sz)
 let _ ←Q.of (lT P e)
 let a ←jS x
 let c ←jS y
 let (cid,kill) ←(match a with
  | .r b=>do
    let some (.row e1 s1 cid) ←sI b | .fail
    ask ((←Ow b)=false)
    ask (e1=e∧s1=sz)
    return (some cid,[(b,Bx.dead)])
  | .c y=>do
    ask (isNil y=true)
    return (none,[])
  | _=>.fail)
 let (src,row) ←(match c with
  | .r b=>do
    let some (.row _ s2 cid) ←sI b | .fail
    ask (s2=sz∧kill.all (fun z=>z.1 != b))
    return (none,some cid)
  | .c y=>return (some y,none)
  | _=>.fail)
 mA nb
 return (⟨put o (.w (.one (.r nb))),(nb, .row e sz ni)::kill,[]⟩, .app sz by_ cid src row)
def Pl (P:Program) (o:Oper) (nb:Nat) (T:Nat):Q (eM×cL):=do
 let z ←Q.of (lT P T)
 mA nb
 return (⟨put o (.w (.one (.p nb 0))),[(nb, .var T (z.map fun v=>.c (.k v)))],[]⟩, .none)
def VE (o:Oper) (nb:Nat) (T:Nat) (x:Operand):Q (eM×cL):=do
 let v ←Jr x
 mA nb
 return (⟨put o (.w (.one (.p nb 0))),[(nb, .var T v.cells)],[]⟩, .none)
def Nx (P:Program) (o:Oper) (ni:Nat) (x:Operand):Q (eM×cL):=do
 let c ←jS x
 match c with
 | .p b off=>return fX o (.w (.one (.p b off)))
 | .ref off cs=>return fX o (.w (.one (.ref off cs)))
 | .dZ f cs=>return fX o (.w (.one (.dZ f cs)))
 | .rp b sz i off=>return fX o (.w (.one (.rp b sz i off)))
 | _=>qF P o ni
def Gw (P:Program) (o:Oper) (T:Nat) (parts:List (Nat×Operand)):Q (eM×cL):=do
 let pl ←Q.of (JE P T)
 let z ←Q.of (lT P T)
 let ps ←Ld parts
 let cs ←Q.of (Lg (pl[·]?) (z.map fun v=>.c (.k v)) ps)
 return fX o (.w (.agg cs))
def NQ (P:Program) (o:Oper) (nb ni:Nat) (T len:Nat) (parts:List (Nat×Operand)):Q (eM×cL):=do
 let (e,sz,by_) ←Q.of (fI P T)
 let ps ←Ld parts
 ask (ps.map (·.1)=List.range len∧ps.all (fun p=>p.2.cells.length==sz)=true∧len*sz≤16777216∧0<sz)
 let z ←Q.of (lT P e)
 let (xs,sl) ←lJ (ps.flatMap fun p=>p.2.cells)
 mA nb
 return (⟨put o (.w (.one (.r nb))),[(nb, .row e sz ni)],sl⟩, .lit sz ((List.range len).map fun i=>(xs.drop (i*sz)).take sz))
def JT (P:Program) (o:Oper) (nb ni:Nat) (T:Nat) (l c:Operand):Q (eM×cL):=do
 let (e,sz,by_) ←Q.of (fI P T)
 let SC.c x ←jS l | .fail
 let SC.c y ←jS c | .fail
 let z ←Q.of (lT P e)
 ask (0<sz)
 mA nb
 return (⟨put o (.w (.one (.r nb))),[(nb, .row e sz ni)],[]⟩, .make z by_ x y)
def oB (P:Program) (o:Oper) (ni:Nat) (T:Nat) (x:Operand) (f:Nat):Q (eM×cL):=do
 let c ←jS x
 match c with
 | .p b off=>
   let (_,fo,fs) ←Q.of (mV P T f)
   ask (0<fs)
   return fX o (.w (.one (.p b (off+fo))))
 | .ref off cs=>
   let (_,fo,fs) ←Q.of (mV P T f)
   ask (0<fs)
   return fX o (.w (.one (.ref (off+fo) cs)))
 | .rp b sz i off=>
   let (_,fo,fs) ←Q.of (mV P T f)
   ask (0<fs)
   return fX o (.w (.one (.rp b sz i (off+fo))))
 | _=>qF P o ni
def GS (P:Program) (o:Oper) (T:Nat) (x:Operand) (f:Nat):Q (eM×cL):=do
 let SW.agg cs ←Jr x | .fail
 let (ft,fo,_) ←Q.of (mV P T f)
 let (ag,n) ←Q.of (pB P ft)
 let cs ←Q.of (PH cs fo n)
 let v ←Q.of (BX ag cs)
 return fX o v
def rV (o:Oper) (x:Operand) (i:Nat):Q (eM×cL):=do
 let SV.tup vs ←Gk x | .fail
 let v ←Q.of vs[i]?
 return fX o (.w v)
def Kl (o:Oper) (f:Nat) (first caps:Array Operand):Q (eM×cL):=do
 ask (first.isEmpty=true)
 let (cs,sl) ←JC caps.toList
 return (⟨put o (.w (.one (.dZ f cs))),[],sl⟩, .none)
def Zq (P:Program) (T:Nat):Option (Nat×Nat):=
 match P.underlying T with
 | some (.array len e)=>(P.info? e).map fun i=>(len,i.size)
 | _=>none
def Hg (P:Program) (o:Oper) (ni:Nat) (T:Nat) (x i:Operand):Q (eM×cL):=do
 let c ←jS x
 match c with
 | .r b=>
   let SC.c y ←jS i | .fail
   let (_,_,sz,cid) ←oS b
   let (e',sz',_) ←Q.of (fI P T)
   ask (sz'=sz)
   return (⟨put o (.w (.one (.rp b sz y 0))),[],[]⟩, .idx cid y)
 | .rp b sz j off=>do
   let SC.c (C0.k (Value.int IntKind.i64 n)) ←jS i | .fail
   let (len,es) ←Q.of (Zq P T)
   ask (0≤n∧n<(len:Int))
   return fX o (.w (.one (.rp b sz j (off+n.toNat*es))))
 | _=>qF P o ni
def Hd (P:Program) (o:Oper) (ni:Nat) (x:Operand) (args:List Operand):Q (eM×cL):=do
 let g ←jS x
 match g with
 | .dZ f caps=>Lv P o ni f args caps
 | .c y=>
   let (as,sl) ←mD args
   let sh ←Q.of (XF P o.type)
   return (⟨put o (gX ni sh),[],sl⟩, .callv y as sh)
 | _=>.fail
def IW (P:Program) (o:Oper) (ni:Nat) (args:List Operand) (ts:List Nat):Q (eM×cL):=
 match args,ts with
 | [x],T::_=>do
   let v ←jS x
   match v with
   | .r b=>
     let (_,_,_,cid) ←oS b
     let _ ←Q.of (fI P T)
     return (⟨put o (.w (lW ni none)),[],[]⟩, .lenrow cid)
   | _=>qF P o ni
 | _,_=>.fail
def iK:Code→List Oper
 | .region _ ops _=>ops.toList
 | .seq a b=>iK a++iK b
 | .cond _ a b=>iK a++iK b
 | .block _ a=>iK a
 | .scope a=>iK a
 | .loop a=>iK a
 | _=>[]
def rootOf (ops:List Oper):Nat→Nat→Nat×Nat
 | 0,t=>(t,0)
 | n+1,t=>match ops.find? (fun o=>o.dst==some t) with
   | some o=>match o.op with
     | .fieldAddr _ (.tmp x) _=>rootOf ops n x
     | .nilCheck (.tmp x)=>rootOf ops n x
     | .move (.tmp x)=>rootOf ops n x
     | _=>(t,0)
   | none=>(t,0)
def sV (ops:List Oper):Nat→Nat→Nat
 | 0,t=>t
 | n+1,t=>match ops.find? (fun o=>o.dst==some t) with
   | some o=>match o.op with
     | .move (.tmp x)=>sV ops n x
     | _=>t
   | none=>t
def stored (ops:List Oper):List Nat:=ops.filterMap fun o=>match o.op with
 | .store _ (.tmp x) _=>some (rootOf ops 6 x).1
 | _=>none
def BC (ops:List Oper):List Nat:=(stored ops).filterMap fun x=>match ops.find? (fun o=>o.dst==some x) with
 | some o=>match o.op with
   | .indexAddr _ (.tmp y) _=>some (sV ops 6 y)
   | _=>none
 | none=>none
def Tj (P:Program) (f:Nat):Option Nat:=
 match P.funcs[f]? with
 | some fn=>match fn.body with
   | some c=>(BC (iK c)).find? fun t=>t<fn.params.size
   | none=>none
 | none=>none
def rsz (c:SC) (sz:Nat):Bool:=match c with | .rs _ s0 _ _=>s0==sz | _=>true
def qD (P:Program) (o:Oper) (ni:Nat) (pre:List Operand) (x:Operand) (post:List Operand):Q (eM×cL):=do
 let (as,sl1) ←mD pre
 let c ←jS x
 let (bs,sl2) ←mD post
 let (b,view) ←(match c with
  | .r b=>return (b,none)
  | .rs b _ lo hi=>return (b,some (lo,hi))
  | _=>.fail:Q (Nat×Option (C0×C0)))
 let (pt,E,sz,cid) ←oS b
 ask (rsz c sz=true)
 ask ((←Ow b)=false)
 ask ((sl1++sl2).contains b=false)
 let sh ←Q.of (XF P o.type)
 return (⟨put o (gX ni sh),[(b,fW pt E sz (ni+sh.length))],sl1++sl2⟩, .rop cid E sz view as bs sh)
def Hf (P:Program) (o:Oper) (ni:Nat) (T:Nat) (x:Operand) (lo hi mx:Option Operand):Q (eM×cL):=do
 let c ←jS x
 match c,lo,hi,mx with
 | .r b,some l,some h,some m=>do
   let (_,_,sz,cid) ←oS b
   let (_,sz',_) ←Q.of (fI P T)
   ask (sz'=sz)
   let SC.c l ←jS l | .fail
   let SC.c h ←jS h | .fail
   let SC.c m ←jS m | .fail
   return (⟨put o (.w (.one (.rs b sz l h))),[],[]⟩, .view cid l h m)
 | _,_,_,_=>qF P o ni
def step (P:Program) (o:Oper) (nb ni:Nat):Q (eM×cL):=
 match o.op with
 | .move x | .assign x=>do let v ←Gk x;return fX o v
 | .alloc T=>Pl P o nb T
 | .box T x=>VE o nb T x
 | .load T x=>Lt P o ni T x
 | .store T x y=>Gx P o ni T x y
 | .nilCheck x=>Nx P o ni x
 | .build T parts=>Gw P o T parts.toList
 | .buildSlice T len parts=>NQ P o nb ni T len parts.toList
 | .makeSlice T l c=>JT P o nb ni T l c
 | .fieldAddr T x f=>oB P o ni T x f
 | .field T x f=>GS P o T x f
 | .extract x i=>rV o x i
 | .makeFunc (.func f) first caps=>Kl o f first caps
 | .indexAddr T x i=>Hg P o ni T x i
 | .call c=>match c.callee with
   | .value (.func f)=>match Tj P f with
     | some j=>match c.args.toList[j]? with
       | some x=>do
         ask (mG P f=true)
         qD P o ni (c.args.toList.take j) x (c.args.toList.drop (j+1))
       | none=>.fail
     | none=>Lv P o ni f c.args.toList []
   | .value x=>Hd P o ni x c.args.toList
   | .builtin .len=>IW P o ni c.args.toList c.argTypes.toList
   | .builtin .copy=>match c.args.toList with
     | [x,y]=>qD P o ni [] x [y]
     | _=>.fail
   | .builtin .append=>match c.args.toList with
     | [x,y]=>tL P o nb ni c.argTypes.toList x y
     | _=>.fail
   | .builtin _=>qF P o ni
   | .invoke _ _=>.fail
 | .slice T x lo hi mx=>Hf P o ni T x lo hi mx
 | .binOp .. | .unOp .. | .convert .. | .index .. | .makeInterface ..=>qF P o ni
 | _=>.fail
inductive LV where
 | w (x:SW)
 | row (cid:Nat)
 | nilrow
inductive Tr where
 | fail (why:Nat)
 | need (nd:cL) (op:Op) (ty:Nat) (last:Bool) (k:Tr)
 | split (c:C0) (kt kf:Tr)
 | ret (vs:List SW)
 | retr (vs:List SW) (cid:Nat)
 | pan (x:C0)
 | loop (d:Nat) (inits:List LV) (k:Tr)
 | back (d:Nat) (dF:List LV)
def C0.ok (n:Nat):C0→Bool
 | .u i _=>decide (i<n)
 | .k _=>true
 | .sr _ cid=>decide (cid<n)
def CR.ok (n:Nat):CR→Bool
 | .c x=>x.ok n
 | .ref _ cs=>cs.all (C0.ok n)
def SC.ok (n:Nat):SC→Bool
 | .c x=>x.ok n
 | .ref _ cs=>cs.all (C0.ok n)
 | .dZ _ cs=>cs.all (CR.ok n)
 | _=>true
def SW.ok (n:Nat):SW→Bool
 | .one c=>c.ok n
 | .agg cs=>cs.all (SC.ok n)
def cL.ok (n:Nat):cL→Bool
 | .none=>true
 | .prim args _=>args.all (SW.ok n)
 | .call _ args _=>args.all (SW.ok n)
 | .callv c args _=>c.ok n&&args.all (SW.ok n)
 | .lit _ tss=>tss.all fun t=>t.all (C0.ok n)
 | .make _ _ l c=>l.ok n&&c.ok n
 | .app _ _ cid src row=>(cid.all fun c=>decide (c<n))&&(src.all fun c=>c.ok n)&&(row.all fun c=>decide (c<n))
 | .idx cid i=>decide (cid<n)&&i.ok n
 | .ldrow cid i _ _ _=>decide (cid<n)&&i.ok n
 | .strow cid _ i _ cs=>decide (cid<n)&&i.ok n&&cs.all (C0.ok n)
 | .lenrow cid=>decide (cid<n)
 | .rop cid _ _ v as bs _=>decide (cid<n)&&(v.all fun x=>x.1.ok n&&x.2.ok n)&&as.all (SW.ok n)&&bs.all (SW.ok n)
 | .view cid l h m=>decide (cid<n)&&l.ok n&&h.ok n&&m.ok n
structure Rec where
 after:List Nat
 tch:List Loc
 wr:List Loc
def eM.wr (e:eM):List Loc:=e.tm.map (fun x=>.t x.1)++e.bx.map (fun x=>.b x.1)++e.sl.map .s
def bef (l:List Rec):Nat→Rec→Nat→Bool
 | 0,y,i=>y.after.contains i
 | n+1,y,i=>y.after.contains i || y.after.any fun k=>match l[k]? with | some x=>bef l n x i | none=>false
def ordered (recs:List Rec):Bool:=
 let l:=recs.reverse
 (l.zipIdx).all fun (x,i)=>(x.after.all fun j=>j<i)&&(l.zipIdx).all fun (y,j)=>
  i==j || !(x.wr.any fun a=>y.tch.contains a || y.wr.contains a) || (if i<j then bef l 3 y i else bef l 3 x j)
def bO (o:Oper):List Nat:=(o.after.toList.filter fun e=>Region.binds .any e).map (·.on)
def known (dec:List (Nat×Nat×Bool)):C0→Option Bool
 | .k (.bool b)=>some b
 | .u i j=>(dec.find? fun x=>x.1==i&&x.2.1==j).map (·.2.2)
 | _=>none
def NG (dec:List (Nat×Nat×Bool)) (β:Bool):C0→List (Nat×Nat×Bool)
 | .u i j=>(i,j,β)::dec
 | _=>dec
def parts (dec:List (Nat×Nat×Bool)) (c:C0) (k:Bool→List (Nat×Nat×Bool)→Tr):Tr:=
 match known dec c with
 | some β=>k β dec
 | none=>.split c (k true (NG dec true c)) (k false (NG dec false c))
def bK (N:Nat) (o:Oper):Bool:=
 match o.dst with
 | some d=>decide (d<N)
 | none=>true
def xF (o:Oper) (last:Bool) (k:Tr):cL→Tr
 | .none=>k
 | nd=>.need nd o.op o.type last k
def mP (P:Program) (N i:Nat) (rest:List Oper) (recs:List Rec):Bool:=
 (rest.all fun o=>(bO o).contains i || (match o.op with | .alloc T=>o.guard.isNone&&(lT P T).isSome&&bK N o | .move (.const _)=>o.guard.isNone&&bK N o | _=>false))
 && ordered ((rest.map fun o=>⟨bO o,[],if (bO o).contains i then [] else o.dst.toList.map .t⟩).reverse++recs)
def eK (o:Oper):Bool:=
 match o.op with
 | .call c=>(match c.callee with | .value _=>true | _=>false)
 | _=>false
def iV (s:St) (t:Nat):Option C0:=
 match s.t t with
 | .w (.one (.c c))=>some c
 | _=>none
def gB (P:Program) (N:Nat) (ops:Array Oper):List Oper→Nat→Nat→Nat→St→List (Nat×Nat×Bool)→List Rec →
    (Nat→Nat→St→List (Nat×Nat×Bool)→List Rec→Tr)→Tr
 | [],_,nb,ni,s,dec,recs,k=>k nb ni s dec recs
 | o::rest,i,nb,ni,s,dec,recs,k=>
   let skip:List Loc→List (Nat×Nat×Bool)→Tr:=fun l dec=>
    if bK N o then gB P N ops rest (i+1) nb ni (s.app ⟨put o .undef,[],[]⟩) dec (⟨bO o,l,(put o .undef).map fun x=>.t x.1⟩::recs) k else .fail i
   let go:List Loc→List (Nat×Nat×Bool)→Q (eM×cL)→Tr:=fun l dec q=>
    match q.run s with
    | none=>.fail i
    | some (e,nd)=>if bK N o&&nd.ok ni then
      let recs:=⟨bO o,l++q.log s,e.wr⟩::recs
      xF o (eK o&&mP P N i rest recs) (gB P N ops rest (i+1) (nb+1) (ni+nd.ids) (s.app e) dec recs k) nd else .fail i
   let run:List Loc→List (Nat×Nat×Bool)→Tr:=fun l dec=>
    match o.op with
    | .pick (.tmp t) x y=>match iV s t with
      | some c=>parts dec c fun β dec=>go (.t t::l) dec (do let v ←Gk (if β then x else y);return fX o v)
      | none=>.fail i
    | .panic x=>match (Gk x).run s with
      | some (.w (.one (.c c)))=>if mP P N i rest (⟨bO o,(Gk x).log s,[]⟩::recs)&&o.guard.isNone then .pan c else .fail i
      | _=>.fail i
    | _=>go l dec (step P o nb ni)
   match o.guard with
   | none=>run [] dec
   | some (j,want)=>match (ops[j]?).bind (·.dst) with
     | none=>.fail i
     | some d=>match s.t d with
       | .undef=>skip [.t d] dec
       | _=>match iV s d with
         | some c=>parts dec c fun β dec=>if β=want then run [.t d] dec else skip [.t d] dec
         | none=>.fail i
inductive Ex where
 | normal | exit (id:Nat) | ret
structure Hint where
 tms:List Nat
 rws:List (Nat×Nat)
 rbs:List Nat
 bxs:List (Nat×List (Nat×Nat))
def jT:Code→Nat
 | .seq a b=>jT a+jT b
 | .cond _ a b=>jT a+jT b
 | .block _ a=>jT a
 | .scope a=>jT a
 | .loop a=>jT a+1
 | _=>0
def EV:Code→List Nat
 | .region _ ops _=>ops.toList.filterMap (·.dst)
 | .seq a b=>EV a++EV b
 | .cond _ a b=>EV a++EV b
 | .block _ a=>EV a
 | .scope a=>EV a
 | .loop a=>EV a
 | _=>[]
def Si:Value→Value→Bool
 | .int k n, .int k' n'=>k==k'&&n==n'
 | .bool a, .bool b=>a==b
 | .slice none 0 0, .slice none 0 0=>true
 | .nilIface, .nilIface=>true
 | .pointer none, .pointer none=>true
 | .string a, .string b=>a.data==b.data
 | _,_=>false
def C0.same:C0→C0→Bool
 | .u i j, .u i' j'=>i==i'&&j==j'
 | .k v, .k v'=>Si v v'
 | .sr a b, .sr a' b'=>a==a'&&b==b'
 | _,_=>false
def gC {α:Type} (f:α→α→Bool):List α→List α→Bool
 | [],[]=>true
 | x::xs,y::ys=>f x y&&gC f xs ys
 | _,_=>false
def CR.same:CR→CR→Bool
 | .c x, .c y=>x.same y
 | .ref i x, .ref j y=>i==j&&gC C0.same x y
 | _,_=>false
def SC.same:SC→SC→Bool
 | .c x, .c y=>x.same y
 | .ref i x, .ref j y=>i==j&&gC C0.same x y
 | .dZ f x, .dZ g y=>f==g&&gC CR.same x y
 | .p i j, .p i' j'=>i==i'&&j==j'
 | .r i, .r j=>i==j
 | .rp i j x k, .rp i' j' x' k'=>i==i'&&j==j'&&x.same x'&&k==k'
 | .rs i j x k, .rs i' j' x' k'=>i==i'&&j==j'&&x.same x'&&k.same k'
 | _,_=>false
def SW.same:SW→SW→Bool
 | .one x, .one y=>x.same y
 | .agg x, .agg y=>gC SC.same x y
 | _,_=>false
def SV.same:SV→SV→Bool
 | .junk, .junk=>true
 | .undef, .undef=>true
 | .w x, .w y=>x.same y
 | .tup x, .tup y=>gC SW.same x y
 | _,_=>false
def Bx.same:Bx→Bx→Bool
 | .var T x, .var U y=>T==U&&gC SC.same x y
 | .row i j k, .row i' j' k'=>i==i'&&j==j'&&k==k'
 | .part i j k, .part i' j' k'=>i==i'&&j==j'&&k==k'
 | .dead, .dead=>true
 | _,_=>false
def shW:SW→Option Nat
 | .one _=>none
 | .agg cs=>some cs.length
structure mF where
 lv:LV
 E:Nat
 sz:Nat
 old:Option Nat
def Wi (P:Program) (s:St) (T:Nat):SC→Option mF
 | .r b=>match s.b b,fI P T with
   | some (.row E sz cid),some (E',sz',_)=>if s.s b=false∧E'=E∧sz'=sz then some ⟨.row cid,E,sz,some b⟩ else none
   | _,_=>none
 | .c (.k (.slice none 0 0))=>(fI P T).map fun (E,sz,_)=>⟨.nilrow,E,sz,none⟩
 | _=>none
def LR:SC→Bool
 | .c _=>true
 | _=>false
def YC (s:St):List Nat→Option (List LV)
 | []=>some []
 | t::ts=>match s.t t,YC s ts with
   | .w x,some l=>if x.cells.all LR then some (.w x::l) else none
   | _,_=>none
def XG (P:Program) (s:St):List (Nat×Nat)→Option (List mF)
 | []=>some []
 | (t,T)::ts=>match s.t t,XG P s ts with
   | .w (.one c),some l=>(Wi P s T c).map fun x=>x::l
   | _,_=>none
def SX:SV→Option Nat
 | .w (.one (.r b))=>some b
 | .w (.one (.rs b _ _ _))=>some b
 | .w (.one (.rp b _ _ _))=>some b
 | _=>none
def YV (s:St):List Nat→Option (List (Nat×Bool×Nat×Nat×Nat))
 | []=>some []
 | t::ts=>match SX (s.t t),YV s ts with
   | some b,some l=>match s.b b with
     | some (.row E sz cid)=>if s.s b then none else some ((b,false,E,sz,cid)::l)
     | some (.part E sz cid)=>if s.s b then none else some ((b,true,E,sz,cid)::l)
     | _=>none
   | _,_=>none
def ag5 (P:Program) (s:St) (rws:List (Nat×Nat)):Nat→List SC→Option (List (Sum mF SC))
 | _,[]=>some []
 | j,c::cs=>match ag5 P s rws (j+1) cs with
   | none=>none
   | some l=>match look rws j with
     | some T=>(Wi P s T c).map fun x=>.inl x::l
     | none=>if LR c then some (.inr c::l) else none
def WU (P:Program) (s:St):List (Nat×List (Nat×Nat))→Option (List (Nat×Nat×List (Sum mF SC)))
 | []=>some []
 | (t,rws)::ts=>match s.t t,WU P s ts with
   | .w (.one (.p b 0)),some l=>match s.b b with
     | some (.var T cells)=>if s.s b then none else (ag5 P s rws 0 cells).map fun x=>(b,T,x)::l
     | _=>none
   | _,_=>none
structure Head where
 s:St
 nb:Nat
 ni:Nat
 inits:List LV
 F:List (Nat×Option Nat)
def Head.bx (h:Head) (b:Nat) (x:Bx):Head:={ h with s:=h.s.app ⟨[],[(b,x)],[]⟩ }
def Head.tm (h:Head) (t:Nat) (x:SV):Head:={ h with s:=h.s.app ⟨[(t,x)],[],[]⟩ }
def Head.kill (h:Head):Option Nat→Head
 | some b=>h.bx b .dead
 | none=>h
def Head.new (h:Head) (l:LV):Head:={ h with ni:=h.ni+1,inits:=h.inits ++ [l] }
def inT (h:Head):List Nat→List LV→Head
 | t::ts, .w x::ls=>inT ((h.tm t (.w (lW h.ni (shW x)))).new (.w x)) ts ls
 | _,_=>h
def Head.row (h:Head) (x:mF):Head:=
 { ((h.kill x.old).bx h.nb (.row x.E x.sz h.ni)).new x.lv with nb:=h.nb+1,F:=(h.nb,x.old)::h.F }
def inR (h:Head):List (Nat×Nat)→List mF→Head
 | (t,_)::ts,x::ls=>inR ((h.row x).tm t (.w (.one (.r h.nb)))) ts ls
 | _,_=>h
def inP (h:Head):List (Nat×Bool×Nat×Nat×Nat)→Head
 | (b,pt,E,sz,cid)::ls=>inP ((h.bx b (fW pt E sz h.ni)).new (.row cid)) ls
 | []=>h
def inC (h:Head):List (Sum mF SC)→Head×List SC
 | []=>(h,[])
 | .inl x::ls=>let (h',cs):=inC (h.row x) ls;(h', .r h.nb::cs)
 | .inr c::ls=>let (h',cs):=inC (h.new (.w (.one c))) ls;(h', .c (.u h.ni 0)::cs)
def inB (h:Head):List (Nat×Nat×List (Sum mF SC))→Head
 | []=>h
 | (b,T,ls)::xs=>let (h',cs):=inC h ls;inB (h'.bx b (.var T cs)) xs
def mp (F:List (Nat×Option Nat)) (b:Nat):Option Nat:=
 match look F b with
 | some x=>x
 | none=>some b
def tK (ni:Nat) (dF:List LV) (F:List (Nat×Option Nat)) (hs:St) (x y:SC):Bool:=
 match x,y with
 | .c (.u i j), .c z=>if i<ni then z.same (.u i j) else match dF[i-ni]? with
   | some (.w v)=>match v with
     | .one (.c z')=>j==0&&z'.same z
     | .agg cs=>match cs[j]? with
       | some (.c z')=>z'.same z
       | _=>false
     | _=>false
   | _=>false
 | .r b, .r b'=>(hs.b b).isSome&&(match mp F b with | some b''=>b''==b' | none=>false)
 | .r b, .c z=>(hs.b b).isSome&&isNil z&&(mp F b).isNone
 | .p b off, .p b' off'=>(hs.b b).isSome&&(match mp F b with | some b''=>b''==b' | none=>false)&&off==off'
 | .rp b sz i off, .rp b' sz' i' off'=>(hs.b b).isSome&&(match mp F b with | some b''=>b''==b' | none=>false)&&sz==sz'&&off==off'&&i.same i'&&i.ok ni
 | .rs b sz l h, .rs b' sz' l' h'=>(hs.b b).isSome&&(match mp F b with | some b''=>b''==b' | none=>false)&&sz==sz'&&l.same l'&&l.ok ni&&h.same h'&&h.ok ni
 | x,y=>(match x with | .p .. | .r .. | .rp .. | .rs ..=>false | _=>true)&&x.same y&&x.ok ni
def HK {α β:Type} (f:α→β→Bool):List α→List β→Bool
 | [],[]=>true
 | x::xs,y::ys=>f x y&&HK f xs ys
 | _,_=>false
def GD (ni:Nat) (dF:List LV) (F:List (Nat×Option Nat)) (hs:St):SW→SW→Bool
 | .one x, .one y=>tK ni dF F hs x y
 | .agg xs, .agg ys=>HK (tK ni dF F hs) xs ys
 | _,_=>false
def Te (ni:Nat) (dF:List LV) (F:List (Nat×Option Nat)) (hs:St):SV→SV→Bool
 | .junk,_=>true
 | .undef, .undef=>true
 | .w x, .w y=>GD ni dF F hs x y
 | .tup xs, .tup ys=>HK (GD ni dF F hs) xs ys
 | _,_=>false
def rR (ni:Nat) (dF:List LV) (F:List (Nat×Option Nat)) (hs s:St) (b:Nat):Bool:=
 match hs.b b with
 | some (.var T cs)=>match mp F b with
   | some b'=>(hs.s b || !s.s b')&&(match s.b b' with | some (.var T' cs')=>T==T'&&HK (tK ni dF F hs) cs cs' | _=>false)
   | none=>false
 | some (.row E sz cid)=>match mp F b with
   | some b'=>(hs.s b || !s.s b')&&(match s.b b' with
     | some (.row E' sz' cid')=>E==E'&&sz==sz'&&(if cid<ni then cid'==cid else match dF[cid-ni]? with | some (.row c)=>c==cid' | _=>false)
     | _=>false)
   | none=>match dF[cid-ni]? with | some .nilrow=>decide (ni≤cid) | _=>false
 | some (.part E sz cid)=>match mp F b with
   | some b'=>(hs.s b || !s.s b')&&(match s.b b' with
     | some (.part E' sz' cid')=>E==E'&&sz==sz'&&(if cid<ni then cid'==cid else match dF[cid-ni]? with | some (.row c)=>c==cid' | _=>false)
     | _=>false)
   | none=>false
 | _=>true
def fits (ni:Nat) (dF:List LV) (F:List (Nat×Option Nat)) (hs s:St):Bool:=
 hs.tm.all (fun x=>Te ni dF F hs (hs.t x.1) (s.t x.1))&&hs.bx.all (fun x=>rR ni dF F hs s x.1)
 && hs.bx.all (fun x=>hs.bx.all fun y=>x.1==y.1 || (match hs.b x.1,hs.b y.1,mp F x.1,mp F y.1 with
  | some .dead,_,_,_ | _,some .dead,_,_ | _,_,none,_ | _,_,_,none=>true
  | _,_,some b,some b'=>b != b'))
def HP {α:Type} (seen:List Nat):List (Nat×α)→List (Nat×α)
 | []=>[]
 | (n,x)::l=>if seen.contains n then HP seen l else (n,x)::HP (n::seen) l
def St.tidy (s:St):St:=
 ⟨(HP [] s.tm).filter fun x=>match x.2 with | .junk=>false | _=>true,(HP [] s.bx),s.sl⟩
def head (P:Program) (hint:Hint) (ds:List Nat) (s:St) (nb ni:Nat):Option Head:=
 match YC s hint.tms,XG P s hint.rws,YV s hint.rbs,WU P s hint.bxs with
 | some a,some b,some p,some c=>
   let h:=inB (inP (inR (inT ⟨s.app ⟨ds.map fun d=>(d, .junk),[],[]⟩,nb,ni,[],[]⟩ hint.tms a) hint.rws b) p) c
   let h:={ h with s:=h.s.tidy }
   if fits ni h.inits h.F h.s s&&decide (h.ni=ni+h.inits.length) then some h else none
 | _,_,_,_=>none
def al2:Sum mF SC→LV
 | .inl x=>x.lv
 | .inr c=>.w (.one c)
def Rj:List SC→List (Sum mF SC)→List (Nat×Option Nat)
 | .r b::cs, .inl x::xs=>(b,x.old)::Rj cs xs
 | _::cs,_::xs=>Rj cs xs
 | _,_=>[]
def Tg (h:Head):List (Nat×Nat)→List mF→List (Nat×Option Nat)
 | (t,_)::ts,x::xs=>match h.s.t t with
   | .w (.one (.r b))=>(b,x.old)::Tg h ts xs
   | _=>Tg h ts xs
 | _,_=>[]
def RY (P:Program) (hint:Hint) (ni:Nat) (h:Head) (s:St):Option (List LV):=
 match YC s hint.tms,XG P s hint.rws,YV s hint.rbs,WU P s hint.bxs with
 | some a,some b,some p,some c=>
   let dF:=a++b.map (·.lv)++p.map (fun x=>.row x.2.2.2.2)++c.flatMap (fun x=>x.2.2.map al2)
   let F:=Tg h hint.rws b++c.flatMap (fun x=>match h.s.b x.1 with | some (.var _ cs)=>Rj cs x.2.2 | _=>[])
   if fits ni dF F h.s s then some dF else none
 | _,_,_,_=>none
def NY (ops:List Oper):List (Nat×Nat×Nat):=ops.filterMap fun o=>match o.op,o.dst with
 | .call c,some d=>match c.callee,c.args.toList with
   | .builtin .append, .tmp x::_=>some (d,c.argTypes.toList.getD 0 0,x)
   | _,_=>none
 | _,_=>none
def Uo (P:Program) (ops:List Oper) (E:Nat):Option Nat:=
 (NY ops).findSome? fun (_,T,_)=>match fI P T with | some (e,_,_)=>if e==E then some T else none | none=>none
def oO:List Nat→List Nat
 | []=>[]
 | x::xs=>let r:=oO xs;if r.contains x then r else x::r
def auto (P:Program) (N:Nat) (body:Code) (s:St):Hint:=
 let ops:=iK body
 let ds:=oO (EV body)
 let ap:=NY ops
 let rws:=ds.filterMap fun t=>
  match ops.findSome? (fun o=>if o.dst==some t then (match o.op with | .assign (.tmp x) | .move (.tmp x)=>(ap.find? fun a=>a.1==x) | _=>none) else none) with
  | some (_,T,_)=>match s.t t with
    | .w (.one (.r _))=>some (t,T)
    | .w (.one (.c (.k (.slice none 0 0))))=>some (t,T)
    | _=>none
  | none=>none
 let tms:=ds.filter fun t=>!rws.any (fun x=>x.1==t)&&(match s.t t with | .w x=>x.cells.all LR | _=>false)
 let sr:=BC ops++ops.filterMap fun o=>match o.op with
  | .slice _ (.tmp y) _ _ (some _)=>some (sV ops 6 y)
  | .call c=>match c.callee with
    | .value (.func f)=>match Tj P f with
      | some j=>match c.args.toList[j]? with
        | some (.tmp y)=>some (sV ops 6 y)
        | _=>none
      | none=>none
    | _=>none
  | _=>none
 let rbs:=(oO sr).filter fun t=>!ds.contains t&&(match SX (s.t t) with | some b=>!s.s b | _=>false)
 let st:=stored ops
 let bxs:=(List.range N).filterMap fun t=>if st.contains t && !ds.contains t then
     match s.t t with
     | .w (.one (.p b 0))=>match s.b b with
       | some (.var _ cells)=>if s.s b then none else some (t,(cells.zipIdx).filterMap fun (c,j)=>match c with
         | .r b'=>match s.b b' with
           | some (.row E _ _)=>(Uo P ops E).map fun T=>(j,T)
           | _=>none
         | .c (.k (.slice none 0 0))=>(ap.findSome? fun (_,T,x)=>match ops.find? (fun o=>o.dst==some x) with
           | some o=>match o.op with
             | .load _ (.tmp y)=>match ops.find? (fun o=>o.dst==some y) with
               | some o'=>match o'.op with
                 | .fieldAddr S (.tmp z) f=>match mV P S f with
                   | some (_,off,_)=>if off==j&&(rootOf ops 6 z).1==t then some T else none
                   | none=>none
                 | _=>none
               | none=>none
             | _=>none
           | none=>none).map fun T=>(j,T)
         | _=>none)
       | _=>none
     | _=>none
  else none
 ⟨tms,rws,rbs,bxs⟩
abbrev Gl:=List (Nat×Nat×Bool)
def Wh (P:Program) (hint:Hint) (ni:Nat) (h:Head) (d:Nat) (k:Ex→Nat→Nat→St→Gl→Tr):Ex→Nat→Nat→St→Gl→Tr
 | .normal,_,_,s,_=>match RY P hint ni h s with
   | some vs=>.back d vs
   | none=>.fail 1003
 | .exit id,nb,ni,s,dec=>k (.exit id) nb ni s dec
 | .ret,nb,ni,s,dec=>k .ret nb ni s dec
def exec (P:Program) (N:Nat) (hints:Nat→Option Hint):Code→Nat→Nat→Nat→Nat→St→Gl→(Ex→Nat→Nat→St→Gl→Tr)→Tr
 | .skip,_,_,nb,ni,s,dec,k=>k .normal nb ni s dec
 | .region _ ops _,_,_,nb,ni,s,dec,k=>gB P N ops ops.toList 0 nb ni s dec [] fun nb ni s dec recs=>if ordered recs then k .normal nb ni s dec else .fail 1000
 | .seq a b,l,d,nb,ni,s,dec,k=>exec P N hints a l d nb ni s dec fun e nb ni s dec=>match e with
   | .normal=>exec P N hints b (l+jT a) d nb ni s dec k
   | e=>k e nb ni s dec
 | .cond c a b,l,d,nb,ni,s,dec,k=>match (Gk c).run s with
   | some (.w (.one (.c x)))=>parts dec x fun β dec=>if β then exec P N hints a l d nb ni s dec k else exec P N hints b (l+jT a) d nb ni s dec k
   | _=>.fail 1001
 | .block id a,l,d,nb,ni,s,dec,k=>exec P N hints a l d nb ni s dec fun e nb ni s dec=>match e with
   | .exit id'=>if id'=id then k .normal nb ni s dec else k (.exit id') nb ni s dec
   | e=>k e nb ni s dec
 | .loop a,l,d,nb,ni,s,dec,k=>
   match head P ((hints l).getD (auto P N a s)) (EV a) s nb ni with
   | none=>.fail 1002
   | some h=>.loop d h.inits (exec P N hints a (l+1) (d+1) h.nb h.ni h.s dec (Wh P ((hints l).getD (auto P N a s)) ni h d k))
 | .exit id,_,_,nb,ni,s,dec,k=>k (.exit id) nb ni s dec
 | .ret,_,_,nb,ni,s,dec,k=>k .ret nb ni s dec
 | .scope _,_,_,_,_,_,_,_=>.fail 1004
 | _,_,_,_,_,_,_,_=>.fail 1005
def IQ (P:Program) (s:St):List ResultVar→Q (List SW×List Nat)
 | []=>.ret ([],[])
 | .tmp t::rs=>do let v ←Jr (.tmp t);let (y,l) ←QN v;let (ys,ls) ←IQ P s rs;return (y::ys,l++ls)
 | .cell t T::rs=>do
   let .p b off ←jS (.tmp t) | .fail
   let some (.var _ cells) ←sI b | .fail
   let (ag,n) ←Q.of (pB P T)
   let cs ←Q.of (PH cells off n)
   let (cs,l) ←AY cs
   let (ys,ls) ←IQ P s rs
   let v ←(if ag then .ret (SW.agg cs) else match cs with | [c]=>.ret (.one c) | _=>.fail)
   return (v::ys,l++ls)
inductive Arg where
 | v (sh:Option Nat)
 | ref (n:Nat)
 | lent (E sz:Nat)
 | k (v:Value)
def iH (i:Nat):Arg→SV
 | .v sh=>.w (lW i sh)
 | .ref n=>.w (.one (.ref 0 ((List.range n).map fun j=>.u i j)))
 | .lent _ _=>.w (.one (.r 0))
 | .k v=>.w (.one (.c (.k v)))
def aN (P:Program) (fn:Func) (hints:Nat→Option Hint) (args:List Arg):Tr:=
 match fn.body with
 | none=>.fail 1006
 | some c=>
   if args.length≤fn.ntmps then
   exec P fn.ntmps hints c 0 0 0 args.length ⟨args.mapIdx fun i a=>(i,iH i a),[],[]⟩ [] fun e nb ni s _=>match e with
    | .exit _=>.fail 1007
    | _=>match (IQ P s fn.results.toList).run s with
      | some (vs,_)=>.ret vs
      | none=>.fail 1008
   else .fail 1009
def Md (i:Nat):List Arg→Option (Nat×Nat×Nat)
 | []=>none
 | .lent E sz::_=>some (i,E,sz)
 | _::l=>Md (i+1) l
def Vf (s:St) (E sz:Nat) (vs:List SW) (l:List Nat):Tr:=
 match s.b 0 with
 | some (.part E' sz' cid)=>if E'=E∧sz'=sz∧s.s 0=false∧l.contains 0=false then .retr vs cid else .fail 1010
 | _=>.fail 1010
def MO (P:Program) (fn:Func) (hints:Nat→Option Hint) (args:List Arg):Tr:=
 match fn.body,Md 0 args with
 | some c,some (i,E,sz)=>
   if args.length≤fn.ntmps then
   exec P fn.ntmps hints c 0 0 1 args.length ⟨args.mapIdx fun i a=>(i,iH i a),[(0, .part E sz i)],[]⟩ [] fun e nb ni s _=>match e with
    | .exit _=>.fail 1007
    | _=>match (IQ P s fn.results.toList).run s with
      | some (vs,l)=>Vf s E sz vs l
      | none=>.fail 1008
   else .fail 1009
 | _,_=>.fail 1006
open Go.RowKit (Below)
abbrev Env:=List aE
def c0 (τ:Env):C0→aL
 | .u i j=>(τ.getD i (.rows [])).cell j
 | .k v=>.exact v
 | .sr sz cid=>match τ[cid]? with
   | some (.rows ts)=>.slice sz ts
   | _=>.bad
def LP (τ:Env):CR→aL
 | .c x=>c0 τ x
 | .ref off cells=>.bI ((cells.map (c0 τ)).drop off)
def Pn (τ:Env):SC→aL
 | .c x=>c0 τ x
 | .ref off cells=>.bI ((cells.map (c0 τ)).drop off)
 | .dZ f caps=>.dZ f (caps.map (LP τ))
 | _=>.bad
def kP (τ:Env):SW→aE
 | .one c=>.one (Pn τ c)
 | .agg cs=>.agg (cs.map (Pn τ))
def GF (τ:Env):LV→aE
 | .w x=>kP τ x
 | .row cid=>τ.getD cid (.one .bad)
 | .nilrow=>.rows []
def Lp (ag:Bool) (cs:List aL):aE:=if ag then .agg cs else .one (cs.getD 0 .bad)
def aL.Sub (c d:aL):Prop:=c=d∨((∀ M w v,c.rep M w v→∃ a l k,v = .slice a l k)∧∀ M w v,c.rep M w v→d.rep M w v)
theorem aL.Sub.rep {c d:aL} (h:c.Sub d) {M:Nat→Prop} {w:World} {v:Value} (hv:c.rep M w v):d.rep M w v:=by
 rcases h with rfl | ⟨_,h⟩
 ·exact hv
 ·exact h M w v hv
def VZ (τ:Env) (sz:Nat) (src:Option C0) (row:Option Nat) (us:List (List aL)):Prop:=
 match row with
 | some r=>τ[r]? = some (.rows us)
 | none=>match src with
   | some y=>(isNil y=true∧us = [])∨(c0 τ y).Sub (.slice sz us)
   | none=>False
def Wj (τ:Env) (cid:Option Nat) (ts:List (List aL)):Prop:=
 match cid with
 | some c=>τ[c]? = some (.rows ts)
 | none=>ts = []
def Sd (τ:Env) (view:Option (C0×C0)) (ts:List (List aL)) (n:Nat) (us:List (List aL)):Prop:=
 match view with
 | none=>n=0∧us=ts
 | some (lo,hi)=>∃ k k':IntKind,∃ m:Nat,c0 τ lo = .int k n∧c0 τ hi = .int k' m∧n<m∧m≤ts.length∧us=(ts.take m).drop n
def mO (P:Program) (τ:Env) (op:Op) (ty:Nat):cL→List aE→Prop
 | .none,news=>news = []
 | .prim args sh,news=>∃ t:aE,news = [t]∧t.shape=some sh∧aO P op ty (args.map (kP τ)) t
 | .call f args sh,news=>news.map aE.shape=sh.map some∧aD P f (args.map (kP τ)) (.ret news)
 | .callv c args sh,news=>∃ f caps,c0 τ c = .dZ f caps∧news.map aE.shape=sh.map some∧aD P f (args.map (kP τ)++caps.map .one) (.ret news)
 | .lit sz tss,news=>news = [.rows (tss.map fun t=>t.map (c0 τ))]
 | .make zero bytes len cap,news=>∃ l c:Nat,∃ k k',c0 τ len = .int k l∧c0 τ cap = .int k' c∧l≤c∧bytes*c≤140737488355328∧c≤maxLen∧news = [.rows (List.replicate l (zero.map .exact))]
 | .app sz bytes cid src row,news=>∃ ts us,Wj τ cid ts∧VZ τ sz src row us∧(ts.length+us.length)*bytes≤140737488355328∧ts.length+us.length≤maxLen∧news = [.rows (ts++us)]
 | .idx cid i,news=>∃ ts k n,τ[cid]? = some (.rows ts)∧c0 τ i = .int k n∧0≤n∧n<ts.length∧news = []
 | .ldrow cid i off sz ag,news=>∃ ts k n cells,τ[cid]? = some (.rows ts)∧c0 τ i = .int k n∧0≤n∧ts[n.toNat]? = some cells∧(ag=true∨sz=1)∧news = [Lp ag ((cells.drop off).take sz)]
 | .strow cid sz i off xs,news=>∃ ts k n cells,τ[cid]? = some (.rows ts)∧c0 τ i = .int k n∧0≤n∧ts[n.toNat]? = some cells ∧
   news = [.rows (ts.set n.toNat (cells.take off++xs.map (c0 τ)++cells.drop (off+xs.length)))]
 | .lenrow cid,news=>∃ ts,τ[cid]? = some (.rows ts)∧news = [.one (.int .i64 ts.length)]
 | .rop cid E sz view as bs sh,news=>∃ ts us us' rs n,τ[cid]? = some (.rows ts)∧Sd τ view ts n us∧us ≠ []∧rs.map aE.shape=sh.map some∧Ni P op ty E sz (as.map (kP τ)) (bs.map (kP τ)) us rs us' ∧
   news=rs ++ [.rows (ts.take n++us'++ts.drop (n+us.length))]
 | .view cid lo hi mx,news=>∃ ts k k' k'' ,∃ n m:Nat,τ[cid]? = some (.rows ts)∧c0 τ lo = .int k n∧c0 τ hi = .int k' m∧c0 τ mx = .int k'' m∧n<m∧m≤ts.length∧news = []
def nU (P:Program) (τ:Env):cL→aL→Prop
 | .call f args _,c=>aD P f (args.map (kP τ)) (.pan c)
 | .callv c args _,x=>∃ f caps,c0 τ c = .dZ f caps∧aD P f (args.map (kP τ)++caps.map .one) (.pan x)
 | _,_=>False
def aU {α β:Type} (R:α→β→Prop):List α→List β→Prop
 | [],[]=>True
 | x::xs,y::ys=>R x y∧aU R xs ys
 | _,_=>False
def aE.Sub:aE→aE→Prop
 | .one c, .one d=>c.Sub d
 | .agg cs, .agg ds=>aU aL.Sub cs ds
 | .rows ts, .rows us=>aU (aU aL.Sub) ts us
 | _,_=>False
abbrev aV:List aE→List aE→Prop:=aU aE.Sub
def oY:Out→Out→Prop
 | .ret rs, .ret us=>aV rs us
 | .retr rs ts, .retr us vs=>rs=us∧ts=vs
 | .pan c, .pan d=>c=d
 | _,_=>False
def vc (P:Program) (post:Out→Prop):Tr→Env→List (List aE→Prop)→Prop
 | .fail _,_,_=>False
 | .need nd op ty last k,τ,bk=>(∃ news,mO P τ op ty nd news∧news.length=nd.ids∧vc P post k (τ++news) bk)∨(last=true∧∃ c,nU P τ nd c∧post (.pan c)) ∨
   (∃ f args sh news,nd = .call f args sh∧(∃ cl x,op = .call cl∧cl.callee = .value x)∧news.map aE.shape=sh.map some∧post (.orc f (args.map (kP τ)) news)∧vc P post k (τ++news) bk)
 | .split c kt kf,τ,bk=>∃ β:Bool,c0 τ c = .bool β∧(β=true→vc P post kt τ bk)∧(β=false→vc P post kf τ bk)
 | .ret vs,τ,_=>post (.ret (vs.map (kP τ)))
 | .retr vs cid,τ,_=>∃ ts,τ[cid]? = some (.rows ts)∧post (.retr (vs.map (kP τ)) ts)
 | .pan x,τ,_=>post (.pan (c0 τ x))∧∀ M w v,(c0 τ x).rep M w v→∃ T u,v = .iface T u
 | .loop d inits k,τ,bk=>∃ (G:Type) (tys:G→List aE) (μ:G→Nat) (g0:G),aV (inits.map (GF τ)) (tys g0)∧(∀ g,(tys g).length=inits.length) ∧
   ∀ g,vc P post k (τ++tys g) (bk.take d ++ [fun ts=>∃ g',aV ts (tys g')∧μ g'<μ g])
 | .back d dF,τ,bk=>∃ f,bk[d]? = some f∧f (dF.map (GF τ))
structure Gh where
 Mz:Nat
 val:Value
 cur:Array Value
theorem aU.imp {α β:Type} {R S:α→β→Prop} (h:∀ a b,R a b→S a b):∀ {xs ys},aU R xs ys→aU S xs ys
 | [],[],_=>trivial
 | _::_,_::_,⟨a,b⟩=>⟨h _ _ a,b.imp h⟩
 | [],_::_,k=>k.elim
 | _::_,[],k=>k.elim
theorem aU.length {α β:Type} {R:α→β→Prop}:∀ {xs ys},aU R xs ys→xs.length=ys.length
 | [],[],_=>rfl
 | _::_,_::_,⟨_,b⟩=>by simp [b.length]
 | [],_::_,k=>k.elim
 | _::_,[],k=>k.elim
theorem aU.append {α β:Type} {R:α→β→Prop}:∀ {xs ys xs' ys'},aU R xs ys→aU R xs' ys'→aU R (xs++xs') (ys++ys')
 | [],[],_,_,_,h=>h
 | _::_,_::_,_,_,⟨a,b⟩,h=>⟨a,b.append h⟩
 | [],_::_,_,_,k,_=>k.elim
 | _::_,[],_,_,k,_=>k.elim
theorem aU.take {α β:Type} {R:α→β→Prop}:∀ (n:Nat) {xs ys},aU R xs ys→aU R (xs.take n) (ys.take n)
 | 0,_,_,_=>trivial
 | _+1,[],[],_=>trivial
 | n+1,_::_,_::_,⟨a,b⟩=>⟨a,b.take n⟩
 | _+1,[],_::_,k=>k.elim
 | _+1,_::_,[],k=>k.elim
theorem aU.drop {α β:Type} {R:α→β→Prop}:∀ (n:Nat) {xs ys},aU R xs ys→aU R (xs.drop n) (ys.drop n)
 | 0,_,_,h=>h
 | _+1,[],[],_=>trivial
 | n+1,_::_,_::_,⟨_,b⟩=>b.drop n
 | _+1,[],_::_,k=>k.elim
 | _+1,_::_,[],k=>k.elim
theorem aU.get {α β:Type} {R:α→β→Prop}:∀ {xs:List α} {ys:List β},aU R xs ys→∀ (j:Nat) (x:α),xs[j]? = some x→∃ y,ys[j]? = some y∧R x y
 | [],[],_,j,x,hx=>by simp at hx
 | x0::xs,y0::ys,⟨a,b⟩,j,x,hx=>by
   cases j with
   | zero=>simp at hx;subst hx;exact ⟨y0,rfl,a⟩
   | succ j=>simpa using b.get j x (by simpa using hx)
 | [],_::_,k,_,_,_=>k.elim
 | _::_,[],k,_,_,_=>k.elim
theorem aU.mem {α β:Type} {R:α→β→Prop}:∀ {xs ys},aU R xs ys→∀ y∈ys,∃ x∈xs,R x y
 | [],[],_,y,hy=>by simp at hy
 | x0::xs,y0::ys,⟨a,b⟩,y,hy=>by
   rcases List.mem_cons.1 hy with rfl | hy
   ·exact ⟨x0,List.mem_cons_self,a⟩
   ·obtain ⟨x,hx,h⟩:=b.mem y hy;exact ⟨x,List.mem_cons_of_mem _ hx,h⟩
 | [],_::_,k,_,_=>k.elim
 | _::_,[],k,_,_=>k.elim
def cG (ex:Nat→Prop) (τ:Env) (ρ:Nat→Gh) (M:Nat→Prop) (w:World):SC→Value→Prop
 | .p b off,v=>ex b∧v = .pointer (some ⟨(ρ b).Mz,off,none⟩)
 | .r b,v=>ex b∧v=(ρ b).val∧v.oneCell'=true
 | .rp b sz i off,v=>ex b∧∃ g o0 len cap k n,(ρ b).val = .slice (some ⟨g,o0,none⟩) len cap∧c0 τ i = .int k n∧0≤n∧v = .pointer (some ⟨g,o0+n.toNat*sz+off,none⟩)
 | .rs b sz lo hi,v=>ex b∧∃ g o0 len cap,∃ k k':IntKind,∃ n m c:Nat,(ρ b).val = .slice (some ⟨g,o0,none⟩) len cap∧c0 τ lo = .int k n∧c0 τ hi = .int k' m∧n<m∧m≤len∧m-n≤c∧c≤maxLen∧v = .slice (some ⟨g,o0+n*sz,none⟩) (m-n) c
 | .c x,v=>(c0 τ x).rep M w v
 | .ref off cells,v=>(aL.bI ((cells.map (c0 τ)).drop off)).rep M w v
 | .dZ f caps,v=>(aL.dZ f (caps.map (LP τ))).rep M w v
def dX (ex:Nat→Prop) (τ:Env) (ρ:Nat→Gh) (M:Nat→Prop) (w:World):SW→Value→Prop
 | .one c,v=>cG ex τ ρ M w c v
 | .agg cs,v=>∃ vs:List Value,v = .agg vs.toArray∧aU (cG ex τ ρ M w) cs vs
def eW (ex:Nat→Prop) (τ:Env) (ρ:Nat→Gh) (M:Nat→Prop) (w:World):SV→Value→Prop
 | .junk,_=>True
 | .undef,v=>v=Go.undef
 | .w x,v=>dX ex τ ρ M w x v
 | .tup xs,v=>∃ vs:List Value,v = .tuple vs.toArray∧aU (dX ex τ ρ M w) xs vs
def own (ρ:Nat→Gh) (b:Nat):Bx→Option Nat
 | .var ..=>some (ρ b).Mz
 | .row ..=>(ρ b).val.ownBlock
 | .part ..=>(ρ b).val.ownBlock
 | .dead=>none
structure dA where
 M:Nat→Prop
 gh:Gh
def dA.O (M0:dA) (k:Nat):Prop:=M0.gh.val.ownBlock=some k
def dA.ours (M0:dA) (w0:World) (k:Nat):Prop:=w0.heap.size≤k∨M0.O k
structure Kept (M0:dA) (w0 w:World):Prop where
 os:w.os=w0.os
 tape:w.tape=w0.tape
 output:w.output=w0.output
 size:w0.heap.size≤w.heap.size
 block:∀ k,k<w0.heap.size→¬ M0.O k→w.heap[k]? = w0.heap[k]?
 good:∀ x∈Ty.tab,¬ M0.M x.1∧¬ M0.O x.1∧∃ T fz,w0.heap[x.1]? = some (.cells x.2 T fz)
theorem Kept.and {M0:dA} {w0 w w':World} (h:Kept M0 w0 w) (hb:Below w.heap.size w w'):Kept M0 w0 w':=
 ⟨hb.os.trans h.os,hb.tape.trans h.tape,hb.output.trans h.output,Nat.le_trans h.size hb.size,fun k hk ho=>(hb.block k (Nat.lt_of_lt_of_le hk h.size)).trans (h.block k hk ho),h.good⟩
theorem Kept.alloc {M0:dA} {w0 w:World} (h:Kept M0 w0 w) (ob:Obj):Kept M0 w0 (w.alloc ob):=h.and ((Below.refl _ w).alloc (cD _) ob)
theorem Kept.setRow {M0:dA} {w0 w:World} (h:Kept M0 w0 w) {g:Nat} (hg:M0.ours w0 g) (cs:Array Value):Kept M0 w0 (w.setRow g cs):=
 ⟨h.os,h.tape,h.output,by simpa [World.setRow] using h.size,fun k hk ho=>by
  rw [setRow_other w g k cs (by rintro rfl;exact hg.elim (fun h=>Nat.not_lt.2 h hk) ho)];exact h.block k hk ho,h.good⟩
theorem Kept.grown {M0:dA} {w0 w w':World} {row:Option Nat} (h:Kept M0 w0 w) (hg:w.grownBy w' row) (hr:∀ k,row=some k→M0.ours w0 k):Kept M0 w0 w':=
 ⟨hg.os.trans h.os,hg.tape.trans h.tape,hg.output.trans h.output,Nat.le_trans h.size hg.size,fun k hk ho=>by
  rw [hg.block k (Nat.lt_of_lt_of_le hk h.size) (fun e=>(hr k e.symm).elim (fun h=>Nat.not_lt.2 h hk) ho)];exact h.block k hk ho,h.good⟩
def Ms (M0:dA) (ρ:Nat→Gh) (s:St) (k:Nat):Prop:=M0.M k∨∃ b x,s.b b=some x∧s.s b=false∧own ρ b x=some k
def pZ (w:World) (E sz:Nat) (v:Value) (n:Nat) (xs:List Value):Prop:=
 xs.length=n*sz∧((n=0∧∃ c,v = .slice none 0 c) ∨
  ∃ g off cap cur,v = .slice (some ⟨g,off,none⟩) n cap∧w.heap[g]? = some (.cells cur E (0,0))∧n≤cap∧cap≤maxLen∧off+n*sz≤cur.size∧(cur.toList.drop off).take (n*sz)=xs)
theorem pZ.WY {w:World} {base E sz n:Nat} {v:Value} {xs:List Value} (h:w.ownsRow base E sz v n xs):pZ w E sz v n xs:=by
 refine ⟨h.1,?_⟩;rcases h.2 with ⟨rfl,rfl⟩ | ⟨g,cap,cur,hv,_,hg,hnc,hcm,hcs,htake⟩
 ·exact .inl ⟨rfl,0,rfl⟩
 ·exact .inr ⟨g,0,cap,cur,hv,hg,hnc,hcm,by rw [Nat.zero_add,hcs];exact Nat.mul_le_mul_right _ hnc,by rw [List.drop_zero];exact htake⟩
def LO (w:World) (E sz:Nat) (x:Gh):Prop:=
 ∀ g off len cap,x.val = .slice (some ⟨g,off,none⟩) len cap→∀ cur,w.heap[g]? = some (.cells cur E (0,0))→cur.size=x.cur.size∧∀ j,(j<off∨off+len*sz≤j)→cur[j]? = x.cur[j]?
def jE (base:Nat) (ex:Nat→Prop) (τ:Env) (ρ:Nat→Gh) (M:Nat→Prop) (w:World) (b:Nat):Bx→Prop
 | .var T cells=>∃ vs:List Value,w.heap[(ρ b).Mz]? = some (.cells vs.toArray T (0,0))∧aU (cG ex τ ρ M w) cells vs
 | .row E sz cid=>∃ ts xs,τ[cid]? = some (.rows ts)∧w.ownsRow base E sz (ρ b).val ts.length xs∧(∀ t∈ts,t.length=sz)∧aM M w ts.flatten xs
 | .part E sz cid=>∃ ts xs,τ[cid]? = some (.rows ts)∧pZ w E sz (ρ b).val ts.length xs∧(∀ t∈ts,t.length=sz)∧aM M w ts.flatten xs∧(ρ b).val.oneCell'=true∧LO w E sz (ρ b)
 | .dead=>True
structure Sat (M0:dA) (w0:World) (N:Nat) (s:St) (τ:Env) (ρ:Nat→Gh) (a:Act) (w:World):Prop where
 below:Kept M0 w0 w
 sz:a.tmps.size=N
 df:a.defers = []
 tm:∀ t,eW (fun b=>(s.b b).isSome) τ ρ (Ms M0 ρ s) w (s.t t) (a.tmps.getD t Go.undef)
 bx:∀ b x,s.b b=some x→jE 0 (fun b=>(s.b b).isSome) τ ρ (Ms M0 ρ s) w b x
 inj:∀ b b' x x' k,s.b b=some x→s.b b'=some x'→own ρ b x=some k→own ρ b' x'=some k→b=b'
 lo:∀ b x k,s.b b=some x→own ρ b x=some k→M0.ours w0 k∧k<w.heap.size
 old:∀ k,M0.M k→¬ M0.ours w0 k
 pt:∀ b E sz cid,s.b b=some (.part E sz cid)→ρ b=M0.gh
section
variable {ex ex':Nat→Prop} {τ:Env} {ρ ρ':Nat→Gh} {M M':Nat→Prop} {w w':World}
theorem cG.mono (he:∀ b,ex b→ex' b∧ρ' b=ρ b) (hk:aR M w M' w'):∀ {c:SC} {v},cG ex τ ρ M w c v→cG ex' τ ρ' M' w' c v
 | .p b off,v,⟨h,e⟩=>⟨(he b h).1,by rw [(he b h).2];exact e⟩
 | .r b,v,⟨h,e,o⟩=>⟨(he b h).1,by rw [(he b h).2];exact e,o⟩
 | .rp b sz i off,v,⟨h,g,o0,len,cap,k,n,e⟩=>⟨(he b h).1,g,o0,len,cap,k,n,by rw [(he b h).2];exact e⟩
 | .rs b sz lo hi,v,⟨h,g,o0,len,cap,k,k',n,m,c,e⟩=>⟨(he b h).1,g,o0,len,cap,k,k',n,m,c,by rw [(he b h).2];exact e⟩
 | .c _,_,h=>aL.mono _ hk h
 | .ref _ _,_,h=>aL.mono _ hk h
 | .dZ _ _,_,h=>aL.mono _ hk h
theorem dX.mono (he:∀ b,ex b→ex' b∧ρ' b=ρ b) (hk:aR M w M' w'):∀ {c:SW} {v},dX ex τ ρ M w c v→dX ex' τ ρ' M' w' c v
 | .one _,_,h=>cG.mono he hk h
 | .agg _,_,⟨vs,e,h⟩=>⟨vs,e,h.imp fun _ _=>cG.mono he hk⟩
theorem eW.mono (he:∀ b,ex b→ex' b∧ρ' b=ρ b) (hk:aR M w M' w'):∀ {c:SV} {v},eW ex τ ρ M w c v→eW ex' τ ρ' M' w' c v
 | .junk,_,_=>trivial
 | .undef,_,h=>h
 | .w _,_,h=>dX.mono he hk h
 | .tup _,_,⟨vs,e,h⟩=>⟨vs,e,h.imp fun _ _=>dX.mono he hk⟩
end
theorem iQ {ρ ρ':Nat→Gh} {b:Nat} (h:ρ' b=ρ b) (x:Bx):own ρ' b x=own ρ b x:=by
 cases x<;>simp [own,h]
theorem QO {τ m:Env} {i:Nat} (x:aE) (hi:i<τ.length):(τ++m).getD i x=τ.getD i x:=by
 rw [qG,qG,List.getElem?_append_left hi]
theorem jL {τ m:Env} {n:Nat} (hn:τ.length=n):∀ {x:C0},x.ok n=true→c0 (τ++m) x=c0 τ x
 | .u i j,h=>by
   simp only [C0.ok,decide_eq_true_eq] at h;simp only [c0,QO (aE.rows []) (show i<τ.length by omega)]
 | .k _,_=>rfl
 | .sr sz cid,h=>by
   simp only [C0.ok,decide_eq_true_eq] at h;simp only [c0,List.getElem?_append_left (show cid<τ.length by omega)]
theorem Tb {τ:Env}:∀ {x:C0},x.ok τ.length=false→c0 τ x = .bad
 | .u i j,h=>by
   simp only [C0.ok,decide_eq_false_iff_not] at h;have:τ.getD i (.rows []) = .rows []:=by rw [qG,List.getElem?_eq_none (by omega)];rfl
   simp only [c0,this];rfl
 | .k _,h=>by simp [C0.ok] at h
 | .sr sz cid,h=>by
   simp only [C0.ok,decide_eq_false_iff_not] at h;simp only [c0,List.getElem?_eq_none (show τ.length≤cid by omega)]
theorem LH {τ m:Env} {M:Nat→Prop} {w:World} {v:Value} (x:C0) (h:(c0 τ x).rep M w v):(c0 (τ++m) x).rep M w v:=by
 cases hx:x.ok τ.length with
 | true=>rw [jL rfl hx];exact h
 | false=>rw [Tb hx] at h;exact (h:False).elim
theorem bX {τ m:Env} {x:C0} {v:Value} (h:c0 τ x = .exact v) (hv:v.oneCell'=true):c0 (τ++m) x = .exact v:=by
 cases hx:x.ok τ.length with
 | true=>rw [jL rfl hx];exact h
 | false=>
   rw [Tb hx] at h;have:aL.bad.rep (fun _=>False) default v:=by rw [h];exact ⟨rfl,hv⟩
   exact (this:False).elim
theorem aM.imp {M:Nat→Prop} {w:World} {α:Type} {f g:α→aL} (h:∀ x v,(f x).rep M w v→(g x).rep M w v):∀ {xs:List α} {vs},aM M w (xs.map f) vs→aM M w (xs.map g) vs
 | [],[],_=>trivial
 | _::_,_::_,⟨a,b⟩=>⟨h _ _ a,aM.imp h b⟩
 | [],_::_,k=>k.elim
 | _::_,[],k=>k.elim
theorem Ku {τ m:Env} {M:Nat→Prop} {w:World} {v:Value} {off:Nat} {cells:List C0} (h:(aL.bI ((cells.map (c0 τ)).drop off)).rep M w v):(aL.bI ((cells.map (c0 (τ++m))).drop off)).rep M w v:=by
 obtain ⟨b,o,cs,T,fz,e,hm,hh,hr⟩:=h;refine ⟨b,o,cs,T,fz,e,hm,hh,?_⟩;rw [List.length_drop,dL] at hr ⊢;rw [←List.map_drop] at hr ⊢;exact hr.imp fun x v=>LH x
theorem VO {τ m:Env} {M:Nat→Prop} {w:World} {v:Value}:∀ (x:CR),(LP τ x).rep M w v→(LP (τ++m) x).rep M w v
 | .c x,h=>LH x h
 | .ref _ _,h=>Ku h
theorem rF {ex:Nat→Prop} {τ m:Env} {ρ:Nat→Gh} {M:Nat→Prop} {w:World}:∀ {c:SC} {v},cG ex τ ρ M w c v→cG ex (τ++m) ρ M w c v
 | .p _ _,_,h=>h
 | .r _,_,h=>h
 | .rp b sz i off,v,⟨h,g,o0,len,cap,k,n,e,e2,e3⟩=>⟨h,g,o0,len,cap,k,n,e,bX e2 rfl,e3⟩
 | .rs b sz lo hi,v,⟨h,g,o0,len,cap,k,k',n,m,c,e,e2,e3,e4⟩=>⟨h,g,o0,len,cap,k,k',n,m,c,e,bX e2 rfl,bX e3 rfl,e4⟩
 | .c x,_,h=>LH x h
 | .ref _ _,_,h=>Ku h
 | .dZ f caps,v,⟨vs,e,h⟩=>⟨vs,e,h.imp fun x _=>VO x⟩
theorem GO {ex:Nat→Prop} {τ m:Env} {ρ:Nat→Gh} {M:Nat→Prop} {w:World}:∀ {c:SW} {v},dX ex τ ρ M w c v→dX ex (τ++m) ρ M w c v
 | .one _,_,h=>rF h
 | .agg _,_,⟨vs,e,h⟩=>⟨vs,e,h.imp fun _ _=>rF⟩
theorem OG {ex:Nat→Prop} {τ m:Env} {ρ:Nat→Gh} {M:Nat→Prop} {w:World}:∀ {c:SV} {v},eW ex τ ρ M w c v→eW ex (τ++m) ρ M w c v
 | .junk,_,_=>trivial
 | .undef,_,h=>h
 | .w _,_,h=>GO h
 | .tup _,_,⟨vs,e,h⟩=>⟨vs,e,h.imp fun _ _=>GO⟩
theorem Oy {base:Nat} {ex:Nat→Prop} {τ m:Env} {ρ:Nat→Gh} {M:Nat→Prop} {w:World} {b:Nat}:∀ {x:Bx},jE base ex τ ρ M w b x→jE base ex (τ++m) ρ M w b x
 | .var _ _,⟨vs,e,h⟩=>⟨vs,e,h.imp fun _ _=>rF⟩
 | .row _ _ cid,⟨ts,xs,e,h⟩=>⟨ts,xs,by
   have hi:cid<τ.length:=(fT.1 e).1;rw [List.getElem?_append_left hi];exact e,h⟩
 | .part _ _ cid,⟨ts,xs,e,h⟩=>⟨ts,xs,by
   have hi:cid<τ.length:=(fT.1 e).1;rw [List.getElem?_append_left hi];exact e,h⟩
 | .dead,h=>h
theorem Sat.ext {M0:dA} {w0:World} {N:Nat} {s:St} {τ:Env} {ρ:Nat→Gh} {a:Act} {w:World} (h:Sat M0 w0 N s τ ρ a w) (m:Env):Sat M0 w0 N s (τ++m) ρ a w:=
 ⟨h.below,h.sz,h.df,fun t=>OG (h.tm t),fun b x hx=>Oy (h.bx b x hx),h.inj,h.lo,h.old,h.pt⟩
theorem ao2 {τ m:Env} {n:Nat} (hn:τ.length=n):∀ {x:CR},x.ok n=true→LP (τ++m) x=LP τ x
 | .c x,h=>jL hn h
 | .ref off cs,h=>by
   simp only [CR.ok,List.all_eq_true] at h;simp only [LP];rw [List.map_congr_left (fun x hx=>jL hn (h x hx))]
theorem NR {τ m:Env} {n:Nat} (hn:τ.length=n):∀ {x:SC},x.ok n=true→Pn (τ++m) x=Pn τ x
 | .c x,h=>jL hn h
 | .ref off cs,h=>by
   simp only [SC.ok,List.all_eq_true] at h;simp only [Pn];rw [List.map_congr_left (fun x hx=>jL hn (h x hx))]
 | .dZ f cs,h=>by
   simp only [SC.ok,List.all_eq_true] at h;simp only [Pn];rw [List.map_congr_left (fun x hx=>ao2 hn (h x hx))]
 | .p ..,_=>rfl
 | .r ..,_=>rfl
 | .rp ..,_=>rfl
 | .rs ..,_=>rfl
theorem al5 {τ m:Env} {n:Nat} (hn:τ.length=n):∀ {x:SW},x.ok n=true→kP (τ++m) x=kP τ x
 | .one c,h=>by simp only [kP];rw [NR hn h]
 | .agg cs,h=>by
   simp only [SW.ok,List.all_eq_true] at h;simp only [kP];rw [List.map_congr_left (fun x hx=>NR hn (h x hx))]
theorem qY {τ m:Env} {n:Nat} (hn:τ.length=n) {l:List SW} (h:l.all (SW.ok n)=true):l.map (kP (τ++m))=l.map (kP τ):=by
 simp only [List.all_eq_true] at h;exact List.map_congr_left (fun x hx=>al5 hn (h x hx))
theorem QW {τ m:Env} {n:Nat} (hn:τ.length=n) {l:List C0} (h:l.all (C0.ok n)=true):l.map (c0 (τ++m))=l.map (c0 τ):=by
 simp only [List.all_eq_true] at h;exact List.map_congr_left (fun x hx=>jL hn (h x hx))
theorem mO.ext {P:Program} {τ m:Env} {n:Nat} (hn:τ.length=n) {op:Op} {ty:Nat}:∀ {nd:cL} {news:List aE},nd.ok n=true→mO P τ op ty nd news→mO P (τ++m) op ty nd news
 | .none,_,_,h=>h
 | .prim args sh,news,ho,⟨t,e,e2,h⟩=>⟨t,e,e2,by rw [qY hn ho];exact h⟩
 | .call f args sh,news,ho,⟨e,h⟩=>⟨e,by rw [qY hn ho];exact h⟩
 | .callv c args sh,news,ho,⟨f,caps,e,e2,h⟩=>by
   simp only [cL.ok,Bool.and_eq_true] at ho;exact ⟨f,caps,by rw [jL hn ho.1];exact e,e2,by rw [qY hn ho.2];exact h⟩
 | .lit sz tss,news,ho,h=>by
   simp only [cL.ok,List.all_eq_true] at ho;simp only [mO] at h ⊢;rw [h]
   congr 2
   exact List.map_congr_left (fun t ht=>(QW hn (List.all_eq_true.2 (ho t ht))).symm)
 | .make z by_ l c,news,ho,⟨x,y,k,k',e1,e2,h⟩=>⟨x,y,k,k',bX e1 rfl,bX e2 rfl,h⟩
 | .app sz by_ cid src row,news,ho,⟨ts,us,e1,e2,h⟩=>by
   have key:∀ {c:Nat} {us:List (List aL)},τ[c]? = some (.rows us)→(τ++m)[c]? = some (.rows us):=fun {c us} h=>by
    rw [List.getElem?_append_left (fT.1 h).1];exact h
   refine ⟨ts,us,?_,?_,h⟩
   ·cases cid with
    | none=>exact e1
    | some c=>exact key e1
   ·cases row with
    | some r=>exact key e2
    | none=>cases src with
      | none=>exact e2
      | some y=>
        simp only [cL.ok,Bool.and_eq_true,Option.all_some] at ho;rcases e2 with e2 | e2
        ·exact .inl e2
        ·exact .inr (by rw [jL hn ho.1.2];exact e2)
 | .idx cid i,news,ho,⟨ts,k,x,e1,e2,h⟩=>⟨ts,k,x,by rw [List.getElem?_append_left (fT.1 e1).1];exact e1,bX e2 rfl,h⟩
 | .ldrow cid i off sz ag,news,ho,⟨ts,k,x,cells,e1,e2,h⟩=>⟨ts,k,x,cells,by rw [List.getElem?_append_left (fT.1 e1).1];exact e1,bX e2 rfl,h⟩
 | .strow cid sz i off xs,news,ho,⟨ts,k,x,cells,e1,e2,h1,h2,h3⟩=>by
   simp only [cL.ok,Bool.and_eq_true] at ho;exact ⟨ts,k,x,cells,by rw [List.getElem?_append_left (fT.1 e1).1];exact e1,bX e2 rfl,h1,h2,by rw [QW hn ho.2];exact h3⟩
 | .rop cid E sz view as bs sh,news,ho,⟨ts,us,us',rs,n,e1,e2,e3,e4,e5,e6⟩=>by
   simp only [cL.ok,Bool.and_eq_true] at ho;refine ⟨ts,us,us',rs,n,by rw [List.getElem?_append_left (fT.1 e1).1];exact e1,?_,e3,e4,by rw [qY hn ho.1.2,qY hn ho.2];exact e5,e6⟩;cases view with
   | none=>exact e2
   | some v=>
     obtain ⟨k,k',m,h1,h2,h3⟩:=e2;exact ⟨k,k',m,bX h1 rfl,bX h2 rfl,h3⟩
 | .view cid lo hi mx,news,ho,⟨ts,k,k',k'',n,m,e1,e2,e3,e4,h⟩=>⟨ts,k,k',k'',n,m,by rw [List.getElem?_append_left (fT.1 e1).1];exact e1,bX e2 rfl,bX e3 rfl,bX e4 rfl,h⟩
 | .lenrow cid,news,ho,⟨ts,e1,h⟩=>⟨ts,by rw [List.getElem?_append_left (fT.1 e1).1];exact e1,h⟩
open Go.RowKit (Below)
section
variable {α β:Type} {s s':St}
theorem Q.run_bind (q:Q α) (f:α→Q β):(q >>= f).run s=(q.run s).bind fun a=>(f a).run s:=by
 show (q.bind f).run s=_
 induction q with
 | ret a=>rfl
 | fail=>rfl
 | t n k ih=>exact ih _
 | b n k ih=>exact ih _
 | s n k ih=>exact ih _
@[simp] theorem Q.run_pure (a:α):(pure a:Q α).run s=some a:=rfl
@[simp] theorem Q.dP (a:α):(Q.ret a).run s=some a:=rfl
@[simp] theorem Q.an8:(Q.fail:Q α).run s=none:=rfl
@[simp] theorem QV (n:Nat):(aj2 n).run s=some (s.t n):=rfl
@[simp] theorem eZ (n:Nat):(sI n).run s=some (s.b n):=rfl
@[simp] theorem mC (n:Nat):(Ow n).run s=some (s.s n):=rfl
@[simp] theorem cK (x:Option α):(Q.of x).run s=x:=by cases x<;>rfl
theorem cB {p:Prop} [Decidable p] {u:Unit} (h:(ask p).run s=some u):p:=by
 unfold ask at h;split at h
 ·assumption
 ·cases h
theorem Q.bind_some {q:Q α} {f:α→Q β} {y:β} (h:(q >>= f).run s=some y):∃ a,q.run s=some a∧(f a).run s=some y:=by
 rw [Q.run_bind] at h;cases hq:q.run s with
 | none=>rw [hq] at h;cases h
 | some a=>rw [hq] at h;exact ⟨a,rfl,h⟩
def St.agree (s s':St):Loc→Prop
 | .t n=>s'.t n=s.t n
 | .b n=>s'.b n=s.b n
 | .s n=>s'.s n=s.s n
theorem Q.congr (q:Q α) (h:∀ x∈q.log s,s.agree s' x):q.run s'=q.run s:=by
 induction q with
 | ret a=>rfl
 | fail=>rfl
 | t n k ih=>
   have h0:s'.t n=s.t n:=h (.t n) (List.mem_cons_self ..);simp only [Q.run,h0];exact ih _ fun x hx=>h x (List.mem_cons_of_mem _ hx)
 | b n k ih=>
   have h0:s'.b n=s.b n:=h (.b n) (List.mem_cons_self ..);simp only [Q.run,h0];exact ih _ fun x hx=>h x (List.mem_cons_of_mem _ hx)
 | s n k ih=>
   have h0:s'.s n=s.s n:=h (.s n) (List.mem_cons_self ..);simp only [Q.run,h0];exact ih _ fun x hx=>h x (List.mem_cons_of_mem _ hx)
end
theorem sE {α:Type} (l m:List (Nat×α)) (n:Nat):look (l++m) n=(look l n).orElse fun _=>look m n:=by
 induction l with
 | nil=>rfl
 | cons x l ih=>
   obtain ⟨k,v⟩:=x;simp only [List.cons_append,look];split
   ·rfl
   ·exact ih
theorem St.Rr (s:St) (e:eM) (n:Nat):(s.app e).t n=match look e.tm n with | some v=>v | none=>s.t n:=by
 simp only [St.app,St.t,sE];cases look e.tm n<;>rfl
theorem St.eG (s:St) (e:eM) (n:Nat):(s.app e).b n=match look e.bx n with | some v=>some v | none=>s.b n:=by
 simp only [St.app,St.b,sE];cases look e.bx n<;>rfl
theorem St.lR (s:St) (e:eM) (n:Nat):(s.app e).s n=(e.sl.contains n || s.s n):=by
 simp [St.app,St.s]
theorem Rt {o:Oper} {v:SV} {n:Nat}:look (put o v) n=if o.dst=some n then some v else none:=by
 unfold put;cases h:o.dst with
 | none=>simp [look]
 | some d=>
   simp only [look];by_cases e:d=n
   ·simp [e]
   ·simp [e]
section
variable {M0:dA} {w0 w:World} {N:Nat} {s:St} {τ:Env} {ρ:Nat→Gh} {a:Act}
abbrev iO (s:St):Nat→Prop:=fun b=>(s.b b).isSome
theorem aU.pH {ex:Nat→Prop} {M:Nat→Prop}:∀ {vs:List Value},vs.all (·.oneCell')=true→aU (cG ex τ ρ M w) (vs.map fun v=>.c (.k v)) vs
 | [],_=>trivial
 | v::vs,h=>by
   simp only [List.all_cons,Bool.and_eq_true] at h;exact ⟨⟨rfl,h.1⟩,aU.pH h.2⟩
theorem Sn {ex:Nat→Prop} {M:Nat→Prop} (v:Value):eW ex τ ρ M w (RS v) v:=by
 cases v with
 | agg cs=>
   simp only [RS];split
   ·rename_i h;exact ⟨cs.toList,by simp,aU.pH h⟩
   ·trivial
 | tuple vs=>trivial
 | func f x y=>trivial
 | _=>exact ⟨rfl,rfl⟩
theorem qW (h:Sat M0 w0 N s τ ρ a w) {x:Operand} {sv:SV} (hr:(Gk x).run s=some sv):eW (iO s) τ ρ (Ms M0 ρ s) w sv (a.eval x):=by
 cases x with
 | tmp t=>simp only [Gk,QV,aJ] at hr;subst hr;exact h.tm t
 | const v=>simp only [Gk,Q.dP,aJ] at hr;subst hr;exact Sn v
 | global g=>simp only [Gk,Q.dP,aJ] at hr;subst hr;trivial
 | func f=>simp only [Gk,Q.dP,aJ] at hr;subst hr;exact ⟨[],rfl,trivial⟩
theorem kW (h:Sat M0 w0 N s τ ρ a w) {x:Operand} {v:SW} (hr:(Jr x).run s=some v):dX (iO s) τ ρ (Ms M0 ρ s) w v (a.eval x):=by
 obtain ⟨sv,h1,h2⟩:=Q.bind_some hr;have:=qW h h1;rw [cK] at h2;cases sv with
 | w y=>simp [SV.sw] at h2;subst h2;exact this
 | junk=>simp [SV.sw] at h2
 | undef=>simp [SV.sw] at h2
 | tup xs=>simp [SV.sw] at h2
theorem cM (h:Sat M0 w0 N s τ ρ a w) {x:Operand} {c:SC} (hr:(jS x).run s=some c):cG (iO s) τ ρ (Ms M0 ρ s) w c (a.eval x):=by
 obtain ⟨sv,h1,h2⟩:=Q.bind_some hr;have:=kW h h1;rw [cK] at h2;cases sv with
 | one y=>simp [SW.sc] at h2;subst h2;exact this
 | agg cs=>simp [SW.sc] at h2
theorem uP (h:Sat M0 w0 N s τ ρ a w):∀ {xs:List (Nat×Operand)} {ps:List (Nat×SW)},(Ld xs).run s=some ps →
  aU (fun p x=>p.1=x.1∧dX (iO s) τ ρ (Ms M0 ρ s) w p.2 (a.eval x.2)) ps xs
 | [],ps,hr=>by simp only [Ld,Q.dP,aJ] at hr;subst hr;trivial
 | (i,x)::xs,ps,hr=>by
   obtain ⟨v,h1,h2⟩:=Q.bind_some hr;obtain ⟨vs,h3,h4⟩:=Q.bind_some h2;simp only [Q.run_pure,aJ] at h4;subst h4;exact ⟨⟨rfl,kW h h1⟩,uP h h3⟩
theorem dX.cells {ex:Nat→Prop} {M:Nat→Prop}:∀ {x:SW} {v:Value},dX ex τ ρ M w x v→aU (cG ex τ ρ M w) x.cells v.cells.toList∨(∃ c,x = .one c∧v.oneCell'=false)
 | .agg cs,v,⟨vs,e,h⟩=>by subst e;exact .inl h
 | .one c,v,h=>by
   cases hv:v.oneCell' with
   | false=>exact .inr ⟨c,rfl,rfl⟩
   | true=>
     left
     cases v<;>first | (exact ⟨h,trivial⟩) | (simp [Value.oneCell'] at hv)
theorem cG.one {ex:Nat→Prop} {M:Nat→Prop}:∀ {c:SC} {v:Value},cG ex τ ρ M w c v→v.oneCell'=true
 | .p ..,v,⟨_,e⟩=>by subst e;rfl
 | .r _,v,⟨_,_,e⟩=>e
 | .rp ..,v,⟨_,g,o0,len,cap,k,n,_,_,_,e⟩=>by subst e;rfl
 | .rs ..,v,⟨_,g,o0,len,cap,k,k',n,m,c,_,_,_,_,_,_,_,e⟩=>by subst e;rfl
 | .c x,v,h=>(c0 τ x).one h
 | .ref ..,v,h=>aL.one _ h
 | .dZ ..,v,h=>aL.one _ h
theorem dX.Ce {ex:Nat→Prop} {M:Nat→Prop} {x:SW} {v:Value} (h:dX ex τ ρ M w x v):aU (cG ex τ ρ M w) x.cells v.cells.toList:=by
 rcases h.cells with h' | ⟨c,rfl,hv⟩
 ·exact h'
 ·have:v.oneCell'=true:=cG.one (c:=c) h;rw [this] at hv;cases hv
theorem iR {b:Nat} {pt:Bool} {E sz cid:Nat} (h:(oS b).run s=some (pt,E,sz,cid)):s.b b=some (fW pt E sz cid):=by
 obtain ⟨bx,h1,h2⟩:=Q.bind_some h;simp only [eZ,aJ] at h1;split at h2
 ·simp only [Q.run_pure,aJ,Prod.mk.injEq] at h2;obtain ⟨rfl,rfl,rfl,rfl⟩:=h2;rw [h1];rfl
 ·simp only [Q.run_pure,aJ,Prod.mk.injEq] at h2;obtain ⟨rfl,rfl,rfl,rfl⟩:=h2;rw [h1];rfl
 ·cases h2
theorem Jz {base:Nat} {ex:Nat→Prop} {M:Nat→Prop} {b:Nat} {pt:Bool} {E sz cid:Nat} (h:jE base ex τ ρ M w b (fW pt E sz cid)) :
  ∃ ts xs,τ[cid]? = some (.rows ts)∧pZ w E sz (ρ b).val ts.length xs∧(∀ t∈ts,t.length=sz)∧aM M w ts.flatten xs:=by
 cases pt with
 | true=>
   obtain ⟨ts,xs,h1,h2,h3,h4,_⟩:=h;exact ⟨ts,xs,h1,h2,h3,h4⟩
 | false=>
   obtain ⟨ts,xs,h1,h2,h3,h4⟩:=h;exact ⟨ts,xs,h1, .WY h2,h3,h4⟩
theorem KJ (b:Nat) (pt:Bool) (E sz cid:Nat):own ρ b (fW pt E sz cid)=(ρ b).val.ownBlock:=by cases pt<;>rfl
structure bQ (M0:dA) (ρ:Nat→Gh) (s:St) (l:List Nat) (M':Nat→Prop):Prop where
 sub:∀ k,M' k→Ms M0 ρ s k
 out:∀ b x k,s.b b=some x→own ρ b x=some k→(s.s b=true∨b∈l)→¬ M' k
theorem bQ.cE {l:List Nat} {M':Nat→Prop} (h:bQ M0 ρ s l M'):aR (Ms M0 ρ s) w M' w:=fun b o hb ho _=>⟨fun hm=>hb (h.sub b hm),ho⟩
theorem bQ.mono {l l':List Nat} {M':Nat→Prop} (h:bQ M0 ρ s l M') (hl:∀ x∈l',x∈l):bQ M0 ρ s l' M':=
 ⟨h.sub,fun b x k h1 h2 h3=>h.out b x k h1 h2 (h3.imp id (hl b))⟩
theorem iY {sz:Nat} {M:Nat→Prop}:∀ {ts:List (List aL)} {cur:List Value} {off:Nat},(∀ t∈ts,t.length=sz)→aM M w ts.flatten ((cur.drop off).take (ts.length*sz)) →
  ∀ i t,ts[i]? = some t→t.length=sz∧aM M w t ((cur.drop (off+i*sz)).take sz)
 | [],cur,off,_,_,i,t,ht=>by simp at ht
 | t0::ts,cur,off,hl,hr,i,t,ht=>by
   have h0:t0.length=sz:=hl t0 List.mem_cons_self
   have hx:((cur.drop off).take ((t0::ts).length*sz))=(cur.drop off).take sz++((cur.drop (off+sz)).take (ts.length*sz)):=by
    rw [List.length_cons,Nat.add_mul,Nat.one_mul,Nat.add_comm,List.take_add,List.drop_drop]
   rw [hx] at hr;have hlen:=hr.length;rw [List.flatten_cons] at hr;cases i with
   | zero=>
     simp only [List.getElem?_cons_zero,aJ] at ht;subst ht;refine ⟨h0,?_⟩;have:=hr.take sz;rw [List.take_append_of_le_length (by omega),List.take_of_length_le (by omega)] at this;by_cases hs:((cur.drop off).take sz).length=sz
     ·rw [List.take_append_of_le_length (by omega),List.take_of_length_le (by omega)] at this
      simpa using this
     ·
      have h1:(cur.drop off).length<sz:=by rw [List.length_take] at hs;omega
      have h2:(cur.drop (off+sz)) = []:=by
       apply List.eq_nil_of_length_eq_zero;rw [List.length_drop] at h1 ⊢;omega
      rw [h2] at this;simp only [List.take_nil,List.append_nil] at this;rw [List.take_take] at this
      simpa using this
   | succ i=>
     have hd:=hr.drop sz;rw [List.drop_append_of_le_length (by omega),List.drop_eq_nil_of_le (by omega:t0.length≤sz),List.nil_append] at hd
     have h2:((cur.drop off).take sz++(cur.drop (off+sz)).take (ts.length*sz)).drop sz=(cur.drop (off+sz)).take (ts.length*sz):=by
      by_cases hs:((cur.drop off).take sz).length=sz
      ·rw [List.drop_append_of_le_length (by omega),List.drop_eq_nil_of_le (by omega),List.nil_append]
      ·have h1:(cur.drop off).length<sz:=by rw [List.length_take] at hs;omega
       have h3:(cur.drop (off+sz)) = []:=by
        apply List.eq_nil_of_length_eq_zero;rw [List.length_drop] at h1 ⊢;omega
       rw [h3];simp only [List.take_nil,List.append_nil];apply List.drop_eq_nil_of_le;rw [List.length_take];omega
     rw [h2] at hd;have:=iY (ts:=ts) (off:=off+sz) (fun t ht=>hl t (List.mem_cons_of_mem _ ht)) hd i t (by simpa using ht);refine ⟨this.1,?_⟩;have e:off+(i+1)*sz=off+sz+i*sz:=by rw [Nat.add_mul,Nat.one_mul];omega
     rw [e];exact this.2
theorem GZ (h:Sat M0 w0 N s τ ρ a w) {b E sz cid:Nat} (hb:s.b b=some (.row E sz cid)) {l:List Nat} {M':Nat→Prop} (hS:bQ M0 ρ s l M') (hl:s.s b=true∨b∈l)
  : (c0 τ (.sr sz cid)).rep M' w (ρ b).val:=by
 obtain ⟨ts,xs,e,hown,hlen,hr⟩:=h.bx b _ hb;simp only [c0,e];have hr':=hr.mono (hS.cE (w:=w));obtain ⟨hx,hown⟩:=hown;rcases hown with ⟨hv,hn⟩ | ⟨g,cap,cur,hv,hbg,hg,hnc,hcm,hcs,htake⟩
 ·rw [hv];have:ts = []:=List.eq_nil_of_length_eq_zero hn;subst this;exact ⟨none,0,rfl,cD _,by simp [maxLen], .inl rfl⟩
 ·rw [hv];refine ⟨some ⟨g,0,none⟩,cap,rfl,hnc,hcm, .inr ⟨g,0,cur,E,(0,0),rfl,?_,hg,?_⟩⟩
  ·exact hS.out b _ g hb (by simp [own,hv,Value.ownBlock]) hl
  ·rw [←htake] at hr';have:=iY (ts:=ts) (off:=0) (cur:=cur.toList) hlen (by simpa using hr')
   simpa using this
theorem Bu (h:Sat M0 w0 N s τ ρ a w) {M':Nat→Prop}:∀ {c:SC} {x:C0} {l:List Nat} {v:Value},(kS c).run s=some (x,l)→bQ M0 ρ s l M'→cG (iO s) τ ρ (Ms M0 ρ s) w c v→(c0 τ x).rep M' w v
 | .c y,x,l,v,hr,hS,hv=>by
   simp only [kS,Q.dP,aJ,Prod.mk.injEq] at hr;obtain ⟨rfl,rfl⟩:=hr;exact aL.mono _ hS.cE hv
 | .r b,x,l,v,hr,hS,hv=>by
   obtain ⟨bx,h1,h2⟩:=Q.bind_some hr;simp only [eZ,aJ] at h1;cases bx with
   | none=>simp at h2
   | some bx=>cases bx with
     | var=>simp at h2
     | dead=>simp at h2
     | part=>simp at h2
     | row E sz cid=>
       simp only [Q.run_pure,aJ,Prod.mk.injEq] at h2;obtain ⟨rfl,rfl⟩:=h2;rw [hv.2.1];exact GZ h h1 hS (.inr (by simp))
 | .ref ..,x,l,v,hr,_,_=>by simp [kS] at hr
 | .dZ ..,x,l,v,hr,_,_=>by simp [kS] at hr
 | .p ..,x,l,v,hr,_,_=>by simp [kS] at hr
 | .rp ..,x,l,v,hr,_,_=>by simp [kS] at hr
 | .rs ..,x,l,v,hr,_,_=>by simp [kS] at hr
theorem kI (h:Sat M0 w0 N s τ ρ a w) {M':Nat→Prop}:∀ {cs:List SC} {xs:List C0} {l:List Nat} {vs:List Value},(lJ cs).run s=some (xs,l)→bQ M0 ρ s l M'→aU (cG (iO s) τ ρ (Ms M0 ρ s) w) cs vs→aM M' w (xs.map (c0 τ)) vs
 | [],xs,l,[],hr,hS,hv=>by
   simp only [lJ,Q.dP,aJ,Prod.mk.injEq] at hr;obtain ⟨rfl,rfl⟩:=hr;trivial
 | c::cs,xs,l,v::vs,hr,hS,⟨hv,hvs⟩=>by
   obtain ⟨⟨x,l1⟩,h1,h2⟩:=Q.bind_some hr;obtain ⟨⟨xs',l2⟩,h3,h4⟩:=Q.bind_some h2;simp only [Q.run_pure,aJ,Prod.mk.injEq] at h4;obtain ⟨rfl,rfl⟩:=h4;exact ⟨Bu h h1 (hS.mono fun x hx=>List.mem_append_left _ hx) hv,kI h h3 (hS.mono fun x hx=>List.mem_append_right _ hx) hvs⟩
 | [],_,_,_::_,_,_,hv=>hv.elim
 | _::_,_,_,[],_,_,hv=>hv.elim
theorem JQ (h:Sat M0 w0 N s τ ρ a w) {M':Nat→Prop}:∀ {c x:SC} {l:List Nat} {v:Value},(sC c).run s=some (x,l)→bQ M0 ρ s l M'→cG (iO s) τ ρ (Ms M0 ρ s) w c v→(Pn τ x).rep M' w v
 | .c y,x,l,v,hr,hS,hv=>by
   simp only [sC,Q.dP,aJ,Prod.mk.injEq] at hr;obtain ⟨rfl,rfl⟩:=hr;exact aL.mono _ hS.cE hv
 | .ref o cs,x,l,v,hr,hS,hv=>by
   simp only [sC,Q.dP,aJ,Prod.mk.injEq] at hr;obtain ⟨rfl,rfl⟩:=hr;exact aL.mono _ hS.cE hv
 | .dZ f cs,x,l,v,hr,hS,hv=>by
   simp only [sC,Q.dP,aJ,Prod.mk.injEq] at hr;obtain ⟨rfl,rfl⟩:=hr;exact aL.mono _ hS.cE hv
 | .r b,x,l,v,hr,hS,hv=>by
   obtain ⟨bx,h1,h2⟩:=Q.bind_some hr;simp only [eZ,aJ] at h1;cases bx with
   | none=>simp at h2
   | some bx=>cases bx with
     | var=>simp at h2
     | dead=>simp at h2
     | part=>simp at h2
     | row E sz cid=>
       simp only [Q.run_pure,aJ,Prod.mk.injEq] at h2;obtain ⟨rfl,rfl⟩:=h2;rw [hv.2.1];exact GZ h h1 hS (.inr (by simp))
 | .p b off,x,l,v,hr,hS,hv=>by
   obtain ⟨bx,h5,h6⟩:=Q.bind_some hr;simp only [eZ,aJ] at h5;cases bx with
   | none=>simp at h6
   | some bx=>cases bx with
     | row=>simp at h6
     | part=>simp at h6
     | dead=>simp at h6
     | var T cells=>
       obtain ⟨⟨xs,l'⟩,h7,h8⟩:=Q.bind_some h6;simp only [Q.run_pure,aJ,Prod.mk.injEq] at h8;obtain ⟨rfl,rfl⟩:=h8;obtain ⟨vs,hh,hall⟩:=h.bx b _ h5;have hrep:=kI h h7 (hS.mono fun x hx=>List.mem_cons_of_mem _ hx) hall;rw [hv.2];refine ⟨(ρ b).Mz,off,vs.toArray,T,(0,0),rfl,hS.out b _ _ h5 rfl (.inr List.mem_cons_self),hh,?_⟩;have hd:=hrep.drop off;have hlen:=hd.length;rw [hlen,List.take_of_length_le (by simp)];exact hd
 | .rp ..,x,l,v,hr,_,_=>by simp [sC] at hr
 | .rs ..,x,l,v,hr,_,_=>by simp [sC] at hr
theorem qS (h:Sat M0 w0 N s τ ρ a w) {M':Nat→Prop}:∀ {cs xs:List SC} {l:List Nat} {vs:List Value},(AY cs).run s=some (xs,l)→bQ M0 ρ s l M'→aU (cG (iO s) τ ρ (Ms M0 ρ s) w) cs vs→aM M' w (xs.map (Pn τ)) vs
 | [],xs,l,[],hr,hS,hv=>by
   simp only [AY,Q.dP,aJ,Prod.mk.injEq] at hr;obtain ⟨rfl,rfl⟩:=hr;trivial
 | c::cs,xs,l,v::vs,hr,hS,⟨hv,hvs⟩=>by
   obtain ⟨⟨x,l1⟩,h1,h2⟩:=Q.bind_some hr;obtain ⟨⟨xs',l2⟩,h3,h4⟩:=Q.bind_some h2;simp only [Q.run_pure,aJ,Prod.mk.injEq] at h4;obtain ⟨rfl,rfl⟩:=h4;exact ⟨JQ h h1 (hS.mono fun x hx=>List.mem_append_left _ hx) hv,qS h h3 (hS.mono fun x hx=>List.mem_append_right _ hx) hvs⟩
 | [],_,_,_::_,_,_,hv=>hv.elim
 | _::_,_,_,[],_,_,hv=>hv.elim
theorem JP (h:Sat M0 w0 N s τ ρ a w) {M':Nat→Prop}:∀ {c x:SW} {l:List Nat} {v:Value},(QN c).run s=some (x,l)→bQ M0 ρ s l M'→dX (iO s) τ ρ (Ms M0 ρ s) w c v→(kP τ x).rep M' w v
 | .one c,x,l,v,hr,hS,hv=>by
   obtain ⟨⟨y,l1⟩,h1,h2⟩:=Q.bind_some hr;simp only [Q.run_pure,aJ,Prod.mk.injEq] at h2;obtain ⟨rfl,rfl⟩:=h2;exact JQ h h1 hS hv
 | .agg cs,x,l,v,hr,hS,⟨vs,e,hv⟩=>by
   obtain ⟨⟨y,l1⟩,h1,h2⟩:=Q.bind_some hr;simp only [Q.run_pure,aJ,Prod.mk.injEq] at h2;obtain ⟨rfl,rfl⟩:=h2;exact ⟨vs,e,qS h h1 hS hv⟩
theorem fE (h:Sat M0 w0 N s τ ρ a w) {M':Nat→Prop}:∀ {xs:List Operand} {ys:List SW} {l:List Nat},(mD xs).run s=some (ys,l)→bQ M0 ρ s l M'→bR M' w (ys.map (kP τ)) (xs.map a.eval)
 | [],ys,l,hr,hS=>by
   simp only [mD,Q.dP,aJ,Prod.mk.injEq] at hr;obtain ⟨rfl,rfl⟩:=hr;trivial
 | x::xs,ys,l,hr,hS=>by
   obtain ⟨v,h1,h2⟩:=Q.bind_some hr;obtain ⟨⟨y,l1⟩,h3,h4⟩:=Q.bind_some h2;obtain ⟨⟨ys',l2⟩,h5,h6⟩:=Q.bind_some h4;simp only [Q.run_pure,aJ,Prod.mk.injEq] at h6;obtain ⟨rfl,rfl⟩:=h6;exact ⟨JP h h3 (hS.mono fun x hx=>List.mem_append_left _ hx) (kW h h1),fE h h5 (hS.mono fun x hx=>List.mem_append_right _ hx)⟩
end
open Go.RowKit (Below)
section
variable {P:Program} {w:World}
theorem vF {T:Nat} {ag:Bool} {n:Nat} (h:pB P T=some (ag,n)):(isAgg T).run P w = .ok ag w∧(sizeOf T).run P w = .ok n w:=by
 unfold pB at h;split at h
 ·rename_i d i hd hi;simp only [aJ,Prod.mk.injEq] at h;obtain ⟨rfl,rfl⟩:=h
  constructor
  ·unfold isAgg;rw [Sem.run_bind,run_underlying hd w];cases d<;>rfl
  ·simp [sizeOf,typeInfo,hi]
 ·cases h
theorem jK (g off i:Nat):(⟨g,off,none⟩:Addr).add i=⟨g,off+i,none⟩:=by
 unfold Addr.add;split<;>simp_all
theorem fA {T:Nat} {ag:Bool} {n:Nat} (h:pB P T=some (ag,n)) {g off:Nat} {cs:Array Value} {E:Nat} {fz:Nat×Nat} (hg:w.heap[g]? = some (.cells cs E fz)) (hn:off+n≤cs.size) (h1:ag=true∨n=1) :
  ∃ v,(loadVar T ⟨g,off,none⟩).run P w = .ok v w∧(if ag then v = .agg ((cs.toList.drop off).take n).toArray else (cs.toList.drop off).take n = [v]):=by
 obtain ⟨ha,hs⟩:=vF (w:=w) h;cases ag with
 | true=>
   refine ⟨_,?_,rfl⟩;have hl:((cs.toList.drop off).take n).length=n:=by simp;omega
   have:=run_loadCells_list (P:=P) w ⟨g,off,none⟩ ((cs.toList.drop off).take n) (fun j v hv=>by
    rw [jK,cell_of_row w g (off+j) cs E fz hg];rw [List.getElem?_take] at hv;split at hv
    ·rw [List.getElem?_drop] at hv;simpa using hv
    ·cases hv)
   rw [hl] at this;simp only [loadVar,Sem.run_bind,ha,Result.andThen_ok,if_true,hs,this,Sem.run_pure]
 | false=>
   have hn1:n=1:=by rcases h1 with h1 | h1<;>simp_all
   subst hn1;have hlt:off<cs.size:=by omega
   refine ⟨cs[off],?_,?_⟩
   ·have hc:w.cell? ⟨g,off,none⟩=some cs[off]:=by rw [cell_of_row w g off cs E fz hg];simp [hlt]
    simp [loadVar,Sem.run_bind,ha,hc]
   ·simp only [Bool.false_eq_true,if_false];rw [List.take_one,List.head?_drop];simp [hlt]
theorem lS {T:Nat} {ag:Bool} {n:Nat} (h:pB P T=some (ag,n)) {g off:Nat} {cs:Array Value} {E:Nat} (hg:w.heap[g]? = some (.cells cs E (0,0))) {v:Value} (hv:v.cells.size=n) (h1:∀ x∈v.cells.toList,x.oneCell'=true) (hn:off+n≤cs.size:=by omega) :
  (storeVar T ⟨g,off,none⟩ v).run P w = .ok () (w.setRow g (cs.toList.take off++v.cells.toList++cs.toList.drop (off+n)).toArray):=by
 obtain ⟨ha,hs⟩:=vF (w:=w) h;have:=run_storeCells_at (P:=P) g off E v.cells.toList 0 cs w hg (by simp;omega) h1;simp only [Nat.add_zero,Array.length_toList,hv] at this;simp [storeVar,Sem.run_bind,hs,hv,this]
theorem dN {o:Oper} {a:Act} {K:Act→World→Prop} {Qp:Exit→Act→World→Prop} {v:Value} {w':World} (hr:(execOp a.eval o).run P w = .ok (.value v) w') (h:K (a.put o.dst v) w'):o.wp P a w K Qp:=by
 unfold Oper.wp;rw [hr];exact h
theorem AF {o:Oper} {a:Act} {K:Act→World→Prop} {Qp:Exit→Act→World→Prop} {w':World} (hr:(execOp a.eval o).run P w = .ok .skip w') (h:K (a.put o.dst Go.undef) w'):o.wp P a w K Qp:=by
 unfold Oper.wp;rw [hr];exact h
end
section
variable {M0:dA} {w0 w w':World} {N:Nat} {s:St} {τ:Env} {ρ ρ':Nat→Gh} {a:Act}
theorem jE.mono {base:Nat} {ex ex':Nat→Prop} {M M':Nat→Prop} {b:Nat} (he:∀ b,ex b→ex' b∧ρ' b=ρ b) (hk:aR M w M' w'):∀ {x:Bx},(x ≠ .dead→ρ' b=ρ b)→(∀ k,own ρ b x=some k→w'.heap[k]? = w.heap[k]?) →
  jE base ex τ ρ M w b x→jE base ex' τ ρ' M' w' b x
 | .var T cells,hb,hh,⟨vs,e,h⟩=>by
   rw [←hh _ rfl] at e;refine ⟨vs,?_,h.imp fun _ _=>cG.mono he hk⟩;rw [hb (by simp)];exact e
 | .row E sz cid,hb,hh,⟨ts,xs,e,⟨hx,hown⟩,hl,hr⟩=>by
   refine ⟨ts,xs,e,⟨hx,?_⟩,hl,hr.mono hk⟩;rw [hb (by simp)];rcases hown with hv | ⟨g,cap,cur,hv,hbg,hg,rest⟩
   ·exact .inl hv
   ·refine .inr ⟨g,cap,cur,hv,hbg,?_,rest⟩;rw [hh g (by simp [own,hv,Value.ownBlock])];exact hg
 | .part E sz cid,hb,hh,⟨ts,xs,e,⟨hx,hown⟩,hl,hr,h1⟩=>by
   refine ⟨ts,xs,e,⟨hx,?_⟩,hl,hr.mono hk,by rw [hb (by simp)];exact h1.1,?_⟩
   ·rw [hb (by simp)];rcases hown with hv | ⟨g,off,cap,cur,hv,hg,rest⟩
    ·exact .inl hv
    ·refine .inr ⟨g,off,cap,cur,hv,?_,rest⟩;rw [hh g (by simp [own,hv,Value.ownBlock])];exact hg
   rw [hb (by simp)];intro g off len cap hv cur hg;rw [hh g (by simp [own,hv,Value.ownBlock])] at hg;exact h1.2 g off len cap hv cur hg
 | .dead,_,_,_=>trivial
theorem QR (d:Option Tmp) (v:Value):(a.put d v).tmps.size=a.tmps.size:=by
 cases d<;>simp [Act.put]
theorem put_defers (d:Option Tmp) (v:Value):(a.put d v).defers=a.defers:=by
 cases d<;>rfl
theorem Uh {o:Oper} {v:Value} (hd:bK N o=true) (hN:a.tmps.size=N) (t:Nat):(a.put o.dst v).tmps.getD t Go.undef=if o.dst=some t then v else a.tmps.getD t Go.undef:=by
 unfold bK at hd;cases h:o.dst with
 | none=>simp [Act.put]
 | some d=>
   simp only [h,decide_eq_true_eq] at hd;simp only [Act.put,aJ,Array.getD_eq_getD_getElem?,Array.getElem?_setIfInBounds];by_cases e:d=t
   ·subst e;simp [hN,hd]
   ·simp [e]
theorem Sat.go (h:Sat M0 w0 N s τ ρ a w) {o:Oper} {sv:SV} {bx:List (Nat×Bx)} {sl:List Nat} {v:Value} (hd:bK N o=true)
  (hbel:Kept M0 w0 w')
  (hρ:∀ b,(s.b b).isSome→ρ' b=ρ b)
  (hk:aR (Ms M0 ρ s) w (Ms M0 ρ' (s.app ⟨put o sv,bx,sl⟩)) w')
  (hv:eW (iO (s.app ⟨put o sv,bx,sl⟩)) τ ρ' (Ms M0 ρ' (s.app ⟨put o sv,bx,sl⟩)) w' sv v)
  (hold:∀ b x,look bx b=none→s.b b=some x→∀ k,own ρ b x=some k→w'.heap[k]? = w.heap[k]?)
  (hnew:∀ b x,look bx b=some x→jE 0 (iO (s.app ⟨put o sv,bx,sl⟩)) τ ρ' (Ms M0 ρ' (s.app ⟨put o sv,bx,sl⟩)) w' b x)
  (hnlo:∀ b x k,look bx b=some x→own ρ' b x=some k→M0.ours w0 k∧k<w'.heap.size)
  (hninj:∀ b x k,look bx b=some x→own ρ' b x=some k→∀ b' x',(s.app ⟨put o sv,bx,sl⟩).b b'=some x'→own ρ' b' x'=some k→b=b')
  (hnpt:∀ b E sz cid,look bx b=some (.part E sz cid)→ρ' b=M0.gh)
  (hsz:w.heap.size≤w'.heap.size) :
  Sat M0 w0 N (s.app ⟨put o sv,bx,sl⟩) τ ρ' (a.put o.dst v) w':=by
 have he:∀ b,(s.b b).isSome→((s.app ⟨put o sv,bx,sl⟩).b b).isSome∧ρ' b=ρ b:=fun b hb=>by
  refine ⟨?_,hρ b hb⟩;rw [St.eG];cases look bx b<;>simp [hb]
 refine ⟨hbel,by rw [QR];exact h.sz,by rw [put_defers];exact h.df,fun t=>?_,fun b x hx=>?_,?_,?_,h.old,fun b E sz cid hb=>?_⟩
 rotate_left 4
 ·rw [St.eG] at hb;cases hl:look bx b with
  | some y=>
    simp only [hl,aJ] at hb;subst hb;exact hnpt b E sz cid hl
  | none=>
    simp only [hl] at hb;rw [hρ b (by simp [hb])];exact h.pt b E sz cid hb
 ·rw [Uh hd h.sz,St.Rr];show eW _ _ _ _ _ (match look (put o sv) t with | some v=>v | none=>s.t t) _;rw [Rt];by_cases e:o.dst=some t
  ·simp only [e,if_true];exact hv
  ·simp only [e,if_false];exact (h.tm t).mono he hk
 ·rw [St.eG] at hx;cases hl:look bx b with
  | some y=>
    simp only [hl,aJ] at hx;subst hx;exact hnew b y hl
  | none=>
    simp only [hl] at hx;exact (h.bx b x hx).mono he hk (fun _=>hρ b (by simp [hx])) (hold b x hl hx)
 ·intro b b' x x' k hb hb' hk1 hk2;have hb0:=hb;have hb0':=hb';rw [St.eG] at hb hb';cases hl:look bx b with
  | some y=>
    simp only [hl,aJ] at hb;subst hb;exact hninj b y k hl hk1 b' x' hb0' hk2
  | none=>
    cases hl':look bx b' with
    | some y=>
      simp only [hl',aJ] at hb';subst hb';exact (hninj b' y k hl' hk2 b x hb0 hk1).symm
    | none=>
      simp only [hl] at hb;simp only [hl'] at hb';rw [iQ (hρ b (by simp [hb]))] at hk1;rw [iQ (hρ b' (by simp [hb']))] at hk2;exact h.inj b b' x x' k hb hb' hk1 hk2
 ·intro b x k hb hk1;rw [St.eG] at hb;cases hl:look bx b with
  | some y=>
    simp only [hl,aJ] at hb;subst hb;exact hnlo b y k hl hk1
  | none=>
    simp only [hl] at hb;rw [iQ (hρ b (by simp [hb]))] at hk1;have:=h.lo b x k hb hk1;exact ⟨this.1,Nat.lt_of_lt_of_le this.2 hsz⟩
theorem sF {e:eM} (hb:e.bx = []) (k:Nat):Ms M0 ρ (s.app e) k↔(M0.M k∨∃ b x,s.b b=some x∧(e.sl.contains b || s.s b)=false∧own ρ b x=some k):=by
 unfold Ms;simp only [St.eG,hb,look,St.lR]
theorem bQ.jD (h:Sat M0 w0 N s τ ρ a w) {tm:List (Nat×SV)} {sl:List Nat}:bQ M0 ρ s sl (Ms M0 ρ (s.app ⟨tm,[],sl⟩)):=by
 constructor
 ·intro k hk;rw [sF rfl] at hk;rcases hk with hk | ⟨b,x,h1,h2,h3⟩
  ·exact .inl hk
  ·simp only [Bool.or_eq_false_iff] at h2;exact .inr ⟨b,x,h1,h2.2,h3⟩
 ·intro b x k h1 h2 h3 hk;rw [sF rfl] at hk;rcases hk with hk | ⟨b',x',h4,h5,h6⟩
  ·exact h.old k hk (h.lo b x k h1 h2).1
  ·have:=h.inj b b' x x' k h1 h4 h2 h6;subst this;simp only [Bool.or_eq_false_iff] at h5;rcases h3 with h3 | h3
   ·rw [h3] at h5;simp at h5
   ·have:sl.contains b=true:=by simpa using h3
    rw [this] at h5;simp at h5
theorem Sat.calls (h:Sat M0 w0 N s τ ρ a w) {o:Oper} {sv:SV} {sl:List Nat} {v:Value} (hd:bK N o=true)
  (hb:Below w.heap.size w w')
  (hv:eW (iO (s.app ⟨put o sv,[],sl⟩)) τ ρ (Ms M0 ρ (s.app ⟨put o sv,[],sl⟩)) w' sv v) :
  Sat M0 w0 N (s.app ⟨put o sv,[],sl⟩) τ ρ (a.put o.dst v) w':=by
 have hS:=bQ.jD h (tm:=put o sv) (sl:=sl);refine h.go hd (h.below.and hb) (fun _ _=>rfl) ((hS.cE (w:=w)).trans (aR.below hb)) hv (fun b x _ hx k hk=>hb.block k (h.lo b x k hx hk).2) (fun b x hx=>by cases hx) (fun b x k hx=>by cases hx) (fun b x k hx=>by cases hx) (fun b E sz cid hx=>by cases hx) hb.size
theorem Sat.pure (h:Sat M0 w0 N s τ ρ a w) {o:Oper} {sv:SV} {v:Value} (hd:bK N o=true)
  (hv:eW (iO s) τ ρ (Ms M0 ρ s) w sv v) :
  Sat M0 w0 N (s.app ⟨put o sv,[],[]⟩) τ ρ (a.put o.dst v) w:=
 h.calls hd (Below.refl _ _) (hv.mono (fun b hb=>⟨by rw [iO,St.eG];simpa [look] using hb,rfl⟩) (bQ.jD h).cE)
end
open Go.RowKit (Below)
def fG (P:Program) (τ:Env) (op:Op) (ty:Nat) (nd:cL) (ni:Nat):Prop:=
 ∃ news,mO P τ op ty nd news∧news.length=nd.ids∧∀ j t,news[j]? = some t→τ[ni+j]? = some t
section
variable {P:Program} {M0:dA} {w0 w w':World} {N:Nat} {s:St} {τ:Env} {ρ ρ':Nat→Gh} {a:Act} {M:Nat→Prop} {ex:Nat→Prop}
theorem aU.rK {α β:Type} {R:α→β→Prop}:∀ {xs:List α} {ys:List β},xs.length=ys.length→(∀ (j:Nat) x y,xs[j]? = some x→ys[j]? = some y→R x y)→aU R xs ys
 | [],[],_,_=>trivial
 | x::xs,y::ys,hl,h=>⟨h 0 x y rfl rfl,aU.rK (by simpa using hl) fun j x' y' hx hy=>h (j+1) x' y' (by simpa using hx) (by simpa using hy)⟩
 | [],_::_,hl,_=>by simp at hl
 | _::_,[],hl,_=>by simp at hl
theorem mE {ni:Nat} {t:aE} {sh:Option Nat} {v:Value} (ht:τ[ni]? = some t) (hs:t.shape=some sh) (hv:t.rep M w v):dX ex τ ρ M w (lW ni sh) v:=by
 have hg:τ.getD ni (.rows [])=t:=by rw [qG,ht];rfl
 cases t with
 | one c=>
   simp only [aE.shape,aJ] at hs;subst hs;show (c0 τ (.u ni 0)).rep M w v;simp only [c0,hg];exact hv
 | agg cs=>
   simp only [aE.shape,aJ] at hs;subst hs;obtain ⟨vs,e,hr⟩:=hv;refine ⟨vs,e,aU.rK (by simp [hr.length]) fun j x y hx hy=>?_⟩;rw [eX] at hx
   have hj:j<cs.length:=by
    have:=(fT.1 hy).1;rw [hr.length];exact this
   rw [List.getElem?_range hj] at hx;simp only [Option.map_some,aJ] at hx;subst hx;obtain ⟨y',hy',hrep⟩:=hr.get j cs[j] (fF hj);rw [hy] at hy';simp only [aJ] at hy';subst hy';show (c0 τ (.u ni j)).rep M w y;simp only [c0,hg,aE.cell,aE.cells,qG,fF hj,Option.getD_some];exact hrep
 | rows ts=>simp [aE.shape] at hs
theorem bR.get:∀ {ts:List aE} {vs:List Value},bR M w ts vs→∀ (j:Nat) (v:Value),vs[j]? = some v→∃ t,ts[j]? = some t∧t.rep M w v
 | [],[],_,j,v,hv=>by simp at hv
 | t0::ts,v0::vs,⟨a,b⟩,j,v,hv=>by
   cases j with
   | zero=>simp at hv;subst hv;exact ⟨t0,rfl,a⟩
   | succ j=>simpa using b.get j v (by simpa using hv)
 | [],_::_,k,_,_,_=>k.elim
 | _::_,[],k,_,_,_=>k.elim
theorem bR.append:∀ {cs vs cs' vs'},bR M w cs vs→bR M w cs' vs'→bR M w (cs++cs') (vs++vs')
 | [],[],_,_,_,h=>h
 | _::_,_::_,_,_,⟨a,b⟩,h=>⟨a,b.append h⟩
 | [],_::_,_,_,k,_=>k.elim
 | _::_,[],_,_,k,_=>k.elim
theorem bR.nW:∀ {cs vs},aM M w cs vs→bR M w (cs.map .one) vs
 | [],[],_=>trivial
 | _::_,_::_,⟨a,b⟩=>⟨a,bR.nW b⟩
 | [],_::_,k=>k.elim
 | _::_,[],k=>k.elim
theorem AE {ni:Nat} {news:List aE} {sh:List (Option Nat)} {vs:List Value} (hs:news.map aE.shape=sh.map some) (hτ:∀ j t,news[j]? = some t→τ[ni+j]? = some t) (hv:bR M w news vs) :
  eW ex τ ρ M w (gX ni sh) (pack vs):=by
 have hl:sh.length=vs.length:=by
  have:=congrArg List.length hs;simp only [dL] at this;rw [←hv.length];exact this.symm
 have key:∀ j x v,sh[j]? = some x→vs[j]? = some v→dX ex τ ρ M w (lW (ni+j) x) v:=fun j x v hx hvj=>by
  obtain ⟨t,ht,hrep⟩:=hv.get j v hvj;refine mE (hτ j t ht) ?_ hrep;have:=congrArg (fun l=>l[j]?) hs;simp only [eX,ht,hx,Option.map_some,aJ] at this;exact this
 unfold gX;split
 ·rename_i x
  match vs,hl with
  | [v],_=>exact key 0 x v rfl rfl
 ·rename_i hne
  have hp:pack vs = .tuple vs.toArray:=by
   match vs,hl with
   | [],_=>rfl
   | [v],hl=>match sh,hl with | [x],_=>exact absurd rfl (hne x)
   | _::_::_,_=>rfl
  rw [hp];refine ⟨vs,rfl,aU.rK (by simp [hl]) fun j x y hx hy=>?_⟩;rw [List.getElem?_mapIdx] at hx;cases hsj:sh[j]? with
  | none=>rw [hsj] at hx;cases hx
  | some z=>
    rw [hsj] at hx;simp only [Option.map_some,aJ] at hx;subst hx;exact key j z y hsj hy
theorem bP (h:Sat M0 w0 N s τ ρ a w) {o:Oper} {ni:Nat} {e:eM} {nd:cL} {Qp:Exit→Act→World→Prop} (hd:bK N o=true) (hq:(qF P o ni).run s=some (e,nd)) (hn:fG P τ o.op o.type nd ni) :
  o.wp P a w (fun a' w'=>∃ ρ',Sat M0 w0 N (s.app e) τ ρ' a' w') Qp:=by
 obtain ⟨⟨args,sl⟩,h1,h2⟩:=Q.bind_some hq;obtain ⟨sh,h3,h4⟩:=Q.bind_some h2;simp only [Q.run_pure,aJ,Prod.mk.injEq] at h4;obtain ⟨rfl,rfl⟩:=h4;obtain ⟨news,⟨t,rfl,hsh,hp⟩,_,hτ⟩:=hn;have ht:τ[ni]? = some t:=by simpa using hτ 0 t rfl
 have hS:=bQ.jD h (tm:=put o (.w (lW ni sh))) (sl:=sl);have hrep:=fE h h1 hS;obtain ⟨v,hr,hv⟩:=hp _ w a.eval o rfl rfl hrep;exact dN hr ⟨ρ,h.calls hd (Below.refl _ _) (mE ht hsh hv)⟩
theorem al1 (h:Sat M0 w0 N s τ ρ a w) {k:Nat} (hk:Ms M0 ρ s k):k<w.heap.size:=by
 rcases hk with hk | ⟨b,x,h1,_,h3⟩
 ·exact Nat.lt_of_lt_of_le (Nat.lt_of_not_le fun hl=>h.old k hk (.inl hl)) h.below.size
 ·exact (h.lo b x k h1 h3).2
theorem Sat.gG (h:Sat M0 w0 N s τ ρ a w):Fine (Ms M0 ρ s) w:=by
 refine ⟨fun b hb=>al1 h hb,fun x hx=>?_⟩;obtain ⟨h1,h2,T,fz,h3⟩:=h.below.good x hx;have hlt:=(dS.1 h3).1;refine ⟨?_,T,fz,by rw [h.below.block _ hlt h2];exact h3⟩;rintro (hm | ⟨b,y,h4,_,h5⟩)
 ·exact h1 hm
 ·exact (h.lo b y _ h4 h5).1.elim (fun hl=>Nat.not_lt.2 hl hlt) h2
theorem pV {o:Oper} {c:Call} {x:Operand} {f:FuncId} {cvs:List Value} (ho:o.op = .call c) (hc:c.callee = .value x) (hx:a.eval x = .func (.func f) #[] cvs.toArray)
  (he:∀ as w,(callFunc f as).run P w = .ok (.enter f as) w) :
  (execOp a.eval o).run P w = .ok (.enter f (c.args.toList.map a.eval++cvs).toArray) w:=by
 unfold execOp;simp only [ho,resolve,hc,hx,Deferred.ofValue,Sem.run_bind,Sem.run_pure,Result.andThen_ok,invoke,he]
 congr 2
 apply Array.ext';simp
theorem Ny (h:Sat M0 w0 N s τ ρ a w) {o:Oper} {c:Call} {x:Operand} {f:FuncId} {cvs:List Value} {caps:List aL} {args:List SW} {sh:List (Option Nat)} {sl:List Nat} {ni:Nat} {news:List aE} {Qp:Exit→Act→World→Prop}
  (hd:bK N o=true) (ho:o.op = .call c) (hc:c.callee = .value x) (hx:a.eval x = .func (.func f) #[] cvs.toArray)
  (hargs:bR (Ms M0 ρ (s.app ⟨put o (gX ni sh),[],sl⟩)) w (args.map (kP τ)) (c.args.toList.map a.eval))
  (hcaps:aM (Ms M0 ρ (s.app ⟨put o (gX ni sh),[],sl⟩)) w caps cvs)
  (hsh:news.map aE.shape=sh.map some) (hτ:∀ j t,news[j]? = some t→τ[ni+j]? = some t)
  (hdo:aD P f (args.map (kP τ)++caps.map .one) (.ret news)) :
  o.wp P a w (fun a' w'=>∃ ρ',Sat M0 w0 N (s.app ⟨put o (gX ni sh),[],sl⟩) τ ρ' a' w') Qp:=by
 unfold Oper.wp;rw [pV ho hc hx hdo.1];rw [Oper.upon_enter];have hS:=bQ.jD h (tm:=put o (gX ni sh)) (sl:=sl);refine (hdo.2 _ w _ (h.gG.sub hS.sub) (hargs.append (bR.nW hcaps))).mono ?_;rintro e w' ⟨hb,vs,rfl,hr⟩;exact ⟨ρ,h.calls hd hb (AE hsh hτ hr)⟩
theorem JX {o:Oper} {c:Call} {x:Operand} {f:FuncId} {cvs:List Value} {caps:List aL} {args:List SW} {sl:List Nat} {tm:List (Nat×SV)} {ct:aL} {K:Act→World→Prop} {Qp:Exit→Act→World→Prop}
  (h:Sat M0 w0 N s τ ρ a w) (ho:o.op = .call c) (hc:c.callee = .value x) (hx:a.eval x = .func (.func f) #[] cvs.toArray)
  (hargs:bR (Ms M0 ρ (s.app ⟨tm,[],sl⟩)) w (args.map (kP τ)) (c.args.toList.map a.eval))
  (hcaps:aM (Ms M0 ρ (s.app ⟨tm,[],sl⟩)) w caps cvs)
  (hdo:aD P f (args.map (kP τ)++caps.map .one) (.pan ct))
  (hQ:∀ v w',Below w.heap.size w w'→ct.rep (Ms M0 ρ (s.app ⟨tm,[],sl⟩)) w' v→Qp (.panic [{ v,recovered:=false }]) a w') :
  o.wp P a w K Qp:=by
 unfold Oper.wp;rw [pV ho hc hx hdo.1];rw [Oper.upon_enter];have hS:=bQ.jD h (tm:=tm) (sl:=sl);refine (hdo.2 _ w _ (h.gG.sub hS.sub) (hargs.append (bR.nW hcaps))).mono ?_;rintro e w' ⟨hb,v,rfl,hr⟩;exact hQ v w' hb hr
theorem dW {f:FuncId} (h:mG P f=true):∀ as w,(callFunc f as).run P w = .ok (.enter f as) w:=by
 intro as w;unfold mG at h;split at h
 ·rename_i fn hf;simp only [Bool.and_eq_true,bne_iff_ne,ne_eq] at h;have hb:¬ fn.body=none:=by intro hb;rw [hb] at h;simp at h
  simp [callFunc,program,hf,Sem.run,h.1,hb]
 ·cases h
end
open Go.RowKit (Below)
section
variable {P:Program} {M0:dA} {w0 w w':World} {N:Nat} {s:St} {τ:Env} {ρ ρ':Nat→Gh} {a:Act}
def oG (s:St) (ρ:Nat→Gh) (kill:List (Nat×Bx)) (k:Nat):Prop:=∃ b xb,kill = [(b, .dead)]∧s.b b=some xb∧s.s b=false∧own ρ b xb=some k
theorem Sat.MC (h:Sat M0 w0 N s τ ρ a w) {o:Oper} {sv:SV} {v:Value} {nb:Nat} {x:Bx} {kill:List (Nat×Bx)} {sl:List Nat} (hd:bK N o=true)
  (hnb:s.b nb=none) (hxp:∀ E sz cid,x ≠ .part E sz cid) (hkill:kill = []∨∃ b xb,kill = [(b, .dead)]∧s.b b=some xb∧s.s b=false)
  (hρ:∀ b,b≠nb→ρ' b=ρ b)
  (hbel:Kept M0 w0 w') (hsz:w.heap.size≤w'.heap.size)
  (hheap:∀ k,k<w.heap.size→¬ oG s ρ kill k→w'.heap[k]? = w.heap[k]?)
  (hg:∀ g,own ρ' nb x=some g→M0.ours w0 g∧g<w'.heap.size∧(w.heap.size≤g∨oG s ρ kill g))
  (hv:aR (Ms M0 ρ s) w (Ms M0 ρ' (s.app ⟨put o sv,(nb,x)::kill,sl⟩)) w'→eW (iO (s.app ⟨put o sv,(nb,x)::kill,sl⟩)) τ ρ' (Ms M0 ρ' (s.app ⟨put o sv,(nb,x)::kill,sl⟩)) w' sv v)
  (hrep:aR (Ms M0 ρ s) w (Ms M0 ρ' (s.app ⟨put o sv,(nb,x)::kill,sl⟩)) w'→jE 0 (iO (s.app ⟨put o sv,(nb,x)::kill,sl⟩)) τ ρ' (Ms M0 ρ' (s.app ⟨put o sv,(nb,x)::kill,sl⟩)) w' nb x) :
  Sat M0 w0 N (s.app ⟨put o sv,(nb,x)::kill,sl⟩) τ ρ' (a.put o.dst v) w':=by
 have hlk:∀ b y,look ((nb,x)::kill) b=some y→(b=nb∧y=x)∨(b≠nb∧y = .dead∧kill = [(b, .dead)]):=by
  intro b y hl;simp only [look] at hl;by_cases e:nb=b
  ·simp only [e,if_true,aJ] at hl;exact .inl ⟨e.symm,hl.symm⟩
  ·simp only [e,if_false] at hl;rcases hkill with rfl | ⟨b1,xb,rfl,h1,h2⟩
   ·cases hl
   ·simp only [look] at hl;by_cases e1:b1=b
    ·subst e1;simp at hl;exact .inr ⟨fun h=>e h.symm,hl.symm,rfl⟩
    ·simp [e1] at hl
 have hln:look ((nb,x)::kill) nb=some x:=by simp [look]
 have hex:∀ b,(s.b b).isSome→ρ' b=ρ b:=fun b hb=>hρ b (by rintro rfl;rw [hnb] at hb;cases hb)
 have hMs:∀ k,Ms M0 ρ' (s.app ⟨put o sv,(nb,x)::kill,sl⟩) k→Ms M0 ρ s k∨own ρ' nb x=some k:=by
  rintro k (hk | ⟨b,y,h1,h2,h3⟩)
  ·exact .inl (.inl hk)
  ·rw [St.eG] at h1;rw [St.lR] at h2;simp only [Bool.or_eq_false_iff] at h2;cases hl:look ((nb,x)::kill) b with
   | some z=>
     simp only [hl,aJ] at h1;subst h1;rcases hlk b z hl with ⟨rfl,rfl⟩ | ⟨_,rfl,_⟩
     ·exact .inr h3
     ·cases h3
   | none=>
     simp only [hl] at h1;rw [iQ (hex b (by simp [h1]))] at h3;exact .inl (.inr ⟨b,y,h1,h2.2,h3⟩)
 have hkM:∀ k,oG s ρ kill k→Ms M0 ρ s k:=fun k ⟨b,xb,_,h1,h2,h3⟩=>.inr ⟨b,xb,h1,h2,h3⟩
 have hkeep:aR (Ms M0 ρ s) w (Ms M0 ρ' (s.app ⟨put o sv,(nb,x)::kill,sl⟩)) w':=by
  intro k ob hk hob _;have hlt:k<w.heap.size:=(dS.1 hob).1;refine ⟨fun hm=>?_,by rw [hheap k hlt fun hkl=>hk (hkM k hkl)];exact hob⟩;rcases hMs k hm with hm | hm
  ·exact hk hm
  ·rcases (hg k hm).2.2 with h1 | h1
   ·omega
   ·exact hk (hkM k h1)
 refine h.go hd hbel hex hkeep (hv hkeep) ?_ ?_ ?_ ?_ (fun b E sz cid hl=>by
  rcases hlk b _ hl with ⟨_,e⟩ | ⟨_,e,_⟩
  ·exact absurd e.symm (hxp E sz cid)
  ·cases e) hsz
 ·intro b y hl hb k hk;refine hheap k (h.lo b y k hb hk).2 ?_;rintro ⟨b1,xb,rfl,h1,h2,h3⟩;have:=h.inj b b1 y xb k hb h1 hk h3;subst this;have hne:nb≠b:=by rintro rfl;rw [hnb] at hb;cases hb
  simp [look,hne] at hl
 ·intro b y hl;rcases hlk b y hl with ⟨rfl,rfl⟩ | ⟨_,rfl,_⟩
  ·exact hrep hkeep
  ·trivial
 ·intro b y k hl hk;rcases hlk b y hl with ⟨rfl,rfl⟩ | ⟨_,rfl,_⟩
  ·exact ⟨(hg k hk).1,(hg k hk).2.1⟩
  ·cases hk
 ·intro b y k hl hk b' x' hb' hk';rcases hlk b y hl with ⟨rfl,rfl⟩ | ⟨_,rfl,_⟩
  ·rw [St.eG] at hb';cases hl':look ((b,y)::kill) b' with
   | some z=>
     simp only [hl',aJ] at hb';subst hb';rcases hlk b' z hl' with ⟨rfl,rfl⟩ | ⟨_,rfl,_⟩
     ·rfl
     ·cases hk'
   | none=>
     simp only [hl'] at hb';rw [iQ (hex b' (by simp [hb']))] at hk';have hlt:=(h.lo b' x' k hb' hk').2;rcases (hg k hk).2.2 with h1 | ⟨b1,xb,rfl,h1,h2,h3⟩
     ·omega
     ·have:=h.inj b' b1 x' xb k hb' h1 hk' h3;subst this;have hne:b≠b':=by rintro rfl;rw [hnb] at hb';cases hb'
      simp [look,hne] at hl'
  ·cases hk
theorem rP (h:Sat M0 w0 N s τ ρ a w) (ob:Obj):Kept M0 w0 (w.alloc ob):=h.below.alloc ob
theorem jC {nb:Nat} {u:Unit} (h:(mA nb).run s=some u):s.b nb=none∧s.s nb=false:=by
 obtain ⟨x,h1,h2⟩:=Q.bind_some h;simp only [eZ,aJ] at h1;obtain ⟨_,h3,h4⟩:=Q.bind_some h2;obtain ⟨y,h5,h6⟩:=Q.bind_some h4;simp only [mC,aJ] at h5;have:=cB h3;rw [←h1] at this;exact ⟨by simpa using this,by rw [h5];exact cB h6⟩
theorem Sat.RM (h:Sat M0 w0 N s τ ρ a w) {o:Oper} {nb T:Nat} {cells:List SC} {vs:List Value} (hd:bK N o=true) (hnb:s.b nb=none) (hs:s.s nb=false)
  (hc:aU (cG (iO s) τ ρ (Ms M0 ρ s) w) cells vs) :
  ∃ ρ',Sat M0 w0 N (s.app ⟨put o (.w (.one (.p nb 0))),[(nb, .var T cells)],[]⟩) τ ρ' (a.put o.dst (.pointer (some ⟨w.heap.size,0,none⟩))) (w.alloc (.cells vs.toArray T)):=by
 refine ⟨fun b=>if b=nb then ⟨w.heap.size,Go.undef,#[]⟩ else ρ b,?_⟩;have hne:∀ b,b≠nb→(fun b=>if b=nb then (⟨w.heap.size,Go.undef,#[]⟩:Gh) else ρ b) b=ρ b:=fun b hb=>by simp [hb]
 refine h.MC (kill:=[]) hd hnb (fun _ _ _ h=>by cases h) (.inl rfl) hne (rP h _) (by simp) (fun k hk _=>heap_alloc_old w _ k hk) ?_ ?_ ?_
 ·intro g hg;simp only [own,if_true,aJ] at hg;subst hg;exact ⟨.inl h.below.size,by simp, .inl (cD _)⟩
 ·intro _;refine ⟨?_,by simp⟩;rw [iO,St.eG];simp [look]
 ·intro hkeep;refine ⟨vs,?_,hc.imp fun c v=>cG.mono (fun b hb=>⟨?_,hne b (by rintro rfl;simp [iO,hnb] at hb)⟩) hkeep⟩
  ·show (w.alloc _).heap[(if nb=nb then (⟨w.heap.size,Go.undef,#[]⟩:Gh) else ρ nb).Mz]? = _;rw [if_pos rfl];exact heap_alloc_new w _
  ·rw [iO,St.eG];cases look [(nb,Bx.var T cells)] b with
   | some _=>rfl
   | none=>simpa [iO] using hb
theorem Sat.store (h:Sat M0 w0 N s τ ρ a w) {o:Oper} {b T:Nat} {xc cells:List SC} {vs:List Value} (hd:bK N o=true) (hb:s.b b=some (.var T xc)) (hs:s.s b=false)
  (hc:aU (cG (iO s) τ ρ (Ms M0 ρ s) w) cells vs) :
  Sat M0 w0 N (s.app ⟨put o .undef,[(b, .var T cells)],[]⟩) τ ρ (a.put o.dst Go.undef) (w.setRow (ρ b).Mz vs.toArray):=by
 obtain ⟨old,hh,_⟩:=h.bx b _ hb;have hlo:=h.lo b _ _ hb rfl;have hbM:Ms M0 ρ s (ρ b).Mz:=.inr ⟨b,_,hb,hs,rfl⟩
 have hMs:∀ k,Ms M0 ρ (s.app ⟨put o .undef,[(b, .var T cells)],[]⟩) k→Ms M0 ρ s k:=by
  rintro k (hk | ⟨b',y,h1,h2,h3⟩)
  ·exact .inl hk
  ·rw [St.eG] at h1;rw [St.lR] at h2;simp only [look] at h1;by_cases e:b=b'
   ·subst e;simp only [if_true,aJ] at h1;subst h1;cases h3;exact hbM
   ·simp only [e,if_false] at h1;exact .inr ⟨b',y,h1,by simpa using h2,h3⟩
 have hkeep:aR (Ms M0 ρ s) w (Ms M0 ρ (s.app ⟨put o .undef,[(b, .var T cells)],[]⟩)) (w.setRow (ρ b).Mz vs.toArray):=by
  intro k ob hk hob _;refine ⟨fun hm=>hk (hMs k hm),?_⟩;rw [setRow_other w _ k _ (by rintro rfl;exact hk hbM)];exact hob
 have hex:∀ b',iO s b'→iO (s.app ⟨put o .undef,[(b, .var T cells)],[]⟩) b':=fun b' hb'=>by
  rw [iO,St.eG];cases look [(b,Bx.var T cells)] b'<;>simp
  simpa [iO] using hb'
 refine h.go hd (h.below.setRow hlo.1 _) (fun _ _=>rfl) hkeep rfl ?_ ?_ ?_ ?_ (fun b' E sz cid hl=>by
  simp only [look] at hl;by_cases e:b=b'
  ·subst e;simp at hl
  ·simp [e] at hl) (by simp)
 ·intro b' y hl hb' k hk;refine setRow_other w _ k _ ?_;rintro rfl;have:=h.inj b' b y _ _ hb' hb hk rfl;subst this;simp [look] at hl
 ·intro b' y hl;simp only [look] at hl;by_cases e:b=b'
  ·subst e;simp only [if_true,aJ] at hl;subst hl;exact ⟨vs,setRow_heap w _ _ _ _ _ hh,hc.imp fun c v=>cG.mono (fun b' hb'=>⟨hex b' hb',rfl⟩) hkeep⟩
  ·simp [e] at hl
 ·intro b' y k hl hk;simp only [look] at hl;by_cases e:b=b'
  ·subst e;simp only [if_true,aJ] at hl;subst hl;cases hk;exact ⟨hlo.1,by simpa using hlo.2⟩
  ·simp [e] at hl
 ·intro b' y k hl hk b'' x' hb'' hk';simp only [look] at hl;by_cases e:b=b'
  ·subst e;simp only [if_true,aJ] at hl;subst hl;cases hk;rw [St.eG] at hb'';simp only [look] at hb'';by_cases e2:b=b''
   ·exact e2
   ·simp only [e2,if_false] at hb'';exact h.inj b b'' _ _ _ hb hb'' rfl hk'
  ·simp [e] at hl
theorem Sat.GU (h:Sat M0 w0 N s τ ρ a w) {o:Oper} {b E sz cid ni:Nat} {pt:Bool} {sl:List Nat} {sv:SV} {v:Value} {ts:List (List aL)} {g o0 len cap:Nat} {cur cur':Array Value} (hd:bK N o=true) (hb:s.b b=some (fW pt E sz cid)) (hs:s.s b=false) (hsl:b ∉ sl)
  (hval:(ρ b).val = .slice (some ⟨g,o0,none⟩) len cap) (hg0:w.heap[g]? = some (.cells cur E (0,0))) (hout:∀ j,(j<o0∨o0+len*sz≤j)→cur'[j]? = cur[j]?) (hg:w'.heap[g]? = some (.cells cur' E (0,0))) (hgr:w.grownBy w' (some g)) (hsize:cur'.size=cur.size)
  (hfit:if pt then o0+len*sz≤cur.size else o0=0∧cur.size=cap*sz) (hcap:cap≤maxLen) (hlen:len≤cap) (hτ:τ[ni]? = some (.rows ts)) (htl:ts.length=len) (hts:∀ t∈ts,t.length=sz)
  (hv:bQ M0 ρ s sl (Ms M0 ρ (s.app ⟨put o sv,[(b,fW pt E sz ni)],sl⟩))→eW (iO (s.app ⟨put o sv,[(b,fW pt E sz ni)],sl⟩)) τ ρ (Ms M0 ρ (s.app ⟨put o sv,[(b,fW pt E sz ni)],sl⟩)) w' sv v)
  (hrep:bQ M0 ρ s sl (Ms M0 ρ (s.app ⟨put o sv,[(b,fW pt E sz ni)],sl⟩))→Ms M0 ρ (s.app ⟨put o sv,[(b,fW pt E sz ni)],sl⟩) g→aM (Ms M0 ρ (s.app ⟨put o sv,[(b,fW pt E sz ni)],sl⟩)) w' ts.flatten ((cur'.toList.drop o0).take (len*sz))) :
  Sat M0 w0 N (s.app ⟨put o sv,[(b,fW pt E sz ni)],sl⟩) τ ρ (a.put o.dst v) w':=by
 have hown:∀ pt x y z,own ρ b (fW pt x y z)=some g:=fun pt x y z=>by rw [KJ,hval];rfl
 have hlo:=h.lo b _ _ hb (hown ..);have hbM:Ms M0 ρ s g:=.inr ⟨b,_,hb,hs,hown ..⟩
 have hMs:∀ k,Ms M0 ρ (s.app ⟨put o sv,[(b,fW pt E sz ni)],sl⟩) k→Ms M0 ρ s k:=by
  rintro k (hk | ⟨b',y,h1,h2,h3⟩)
  ·exact .inl hk
  ·rw [St.eG] at h1;rw [St.lR] at h2;simp only [Bool.or_eq_false_iff] at h2;simp only [look] at h1;by_cases e:b=b'
   ·subst e;simp only [if_true,aJ] at h1;subst h1;rw [hown] at h3;cases h3;exact hbM
   ·simp only [e,if_false] at h1;exact .inr ⟨b',y,h1,h2.2,h3⟩
 have hS:bQ M0 ρ s sl (Ms M0 ρ (s.app ⟨put o sv,[(b,fW pt E sz ni)],sl⟩)):=by
  refine ⟨hMs,fun b' x k h1 h2 h3 hk=>?_⟩;rcases hk with hk | ⟨b'',y,h4,h5,h6⟩
  ·exact h.old k hk (h.lo b' x k h1 h2).1
  ·rw [St.eG] at h4;rw [St.lR] at h5;simp only [Bool.or_eq_false_iff] at h5;simp only [look] at h4;by_cases e:b=b''
   ·subst e;simp only [if_true,aJ] at h4;subst h4;rw [hown] at h6;have:=h.inj b' b x _ k h1 hb h2 (by rw [hown];exact h6);subst this;rcases h3 with h3 | h3
    ·rw [hs] at h3;cases h3
    ·exact hsl h3
   ·simp only [e,if_false] at h4;have:=h.inj b' b'' x y k h1 h4 h2 h6;subst this;rcases h3 with h3 | h3
    ·rw [h3] at h5;simp at h5
    ·have:sl.contains b'=true:=by simpa using h3
     rw [this] at h5;simp at h5
 have hgM:Ms M0 ρ (s.app ⟨put o sv,[(b,fW pt E sz ni)],sl⟩) g:=by
  refine .inr ⟨b,fW pt E sz ni,?_,?_,hown ..⟩
  ·rw [St.eG];simp [look]
  ·rw [St.lR];simp [hs,hsl]
 have hkeep:aR (Ms M0 ρ s) w (Ms M0 ρ (s.app ⟨put o sv,[(b,fW pt E sz ni)],sl⟩)) w':=by
  intro k ob hk hob _;refine ⟨fun hm=>hk (hMs k hm),?_⟩;rw [hgr.block k (dS.1 hob).1 (by rintro ⟨rfl⟩;exact hk hbM)];exact hob
 refine h.go hd (h.below.grown hgr fun k hk=>by cases hk;exact hlo.1) (fun _ _=>rfl) hkeep (hv hS) ?_ ?_ ?_ ?_ (fun b' E' sz' cid' hl=>by
  simp only [look] at hl;by_cases e:b=b'
  ·subst e;simp only [if_true,aJ] at hl;cases pt with
   | true=>exact h.pt b E sz cid hb
   | false=>cases hl
  ·simp [e] at hl) hgr.size
 ·intro b' y hl hb' k hk;refine hgr.block k (h.lo b' y k hb' hk).2 ?_;rintro ⟨rfl⟩;have:=h.inj b' b y _ _ hb' hb hk (hown ..);subst this;simp [look] at hl
 ·intro b' y hl;simp only [look] at hl;by_cases e:b=b'
  ·subst e;simp only [if_true,aJ] at hl;subst hl;have hr:=hrep hS hgM;cases pt with
   | false=>
     simp only [Bool.false_eq_true,if_false] at hfit;obtain ⟨rfl,hcur⟩:=hfit;rw [List.drop_zero] at hr;refine ⟨ts,cur'.toList.take (ts.length*sz),hτ,⟨?_, .inr ⟨g,cap,cur',?_,fP _,hg,?_,hcap,?_,rfl⟩⟩,hts,?_⟩
     ·have e1:cur'.toList.length=cap*sz:=by rw [Array.length_toList,hsize,hcur]
      rw [List.length_take,e1,htl];exact Nat.min_eq_left (Nat.mul_le_mul_right _ hlen)
     ·rw [hval,htl]
     ·rw [htl];exact hlen
     ·rw [hsize];exact hcur
     ·rw [htl];exact hr
   | true=>
     simp only [if_true] at hfit;refine ⟨ts,(cur'.toList.drop o0).take (ts.length*sz),hτ,⟨?_, .inr ⟨g,o0,cap,cur',?_,hg,?_,hcap,?_,rfl⟩⟩,hts,?_,by rw [hval];rfl,?_⟩
     rotate_left 5
     ·intro g2 off2 len2 cap2 hv2 cur2 hg2;rw [hval] at hv2;simp only [Value.slice.injEq,aJ,Addr.mk.injEq,and_true] at hv2;obtain ⟨⟨rfl,rfl⟩,rfl,rfl⟩:=hv2;rw [hg] at hg2;simp only [aJ,Obj.cells.injEq,and_true] at hg2;subst hg2;obtain ⟨_,_,_,_,_,_,_,hfr⟩:=h.bx b _ hb;have:=hfr _ _ _ _ hval cur hg0;exact ⟨hsize.trans this.1,fun j hj=>(hout j hj).trans (this.2 j hj)⟩
     ·rw [List.length_take,List.length_drop,Array.length_toList (xs:=cur'),hsize,htl];exact Nat.min_eq_left (by omega)
     ·rw [hval,htl]
     ·rw [htl];exact hlen
     ·rw [htl,hsize];exact hfit
     ·rw [htl];exact hr
  ·simp [e] at hl
 ·intro b' y k hl hk;simp only [look] at hl;by_cases e:b=b'
  ·subst e;simp only [if_true,aJ] at hl;subst hl;rw [hown] at hk;cases hk;exact ⟨hlo.1,Nat.lt_of_lt_of_le hlo.2 hgr.size⟩
  ·simp [e] at hl
 ·intro b' y k hl hk b'' x' hb'' hk';simp only [look] at hl;by_cases e:b=b'
  ·subst e;simp only [if_true,aJ] at hl;subst hl;rw [hown] at hk;cases hk;rw [St.eG] at hb'';simp only [look] at hb'';by_cases e2:b=b''
   ·exact e2
   ·simp only [e2,if_false] at hb'';exact h.inj b b'' _ _ _ hb hb'' (hown ..) hk'
  ·simp [e] at hl
theorem HA {pt:Bool} {b E sz cid:Nat} {base:Nat} {ex:Nat→Prop} {M:Nat→Prop} (h:jE base ex τ ρ M w b (fW pt E sz cid)) {g o0 len cap:Nat} (hval:(ρ b).val = .slice (some ⟨g,o0,none⟩) len cap) :
  ∃ ts cur,τ[cid]? = some (.rows ts)∧ts.length=len∧w.heap[g]? = some (.cells cur E (0,0))∧(if pt then o0+len*sz≤cur.size else o0=0∧cur.size=cap*sz)∧o0+len*sz≤cur.size∧cap≤maxLen∧len≤cap∧(∀ t∈ts,t.length=sz)∧aM M w ts.flatten ((cur.toList.drop o0).take (len*sz)):=by
 cases pt with
 | false=>
   obtain ⟨ts,xs,h1,⟨hx,hown⟩,h3,h4⟩:=h;rcases hown with ⟨hv,_⟩ | ⟨g',cap',cur,hv,_,hg,hnc,hcm,hcs,htake⟩
   ·rw [hval] at hv;simp at hv
   ·rw [hval] at hv;simp only [Value.slice.injEq,aJ,Addr.mk.injEq,and_true] at hv;obtain ⟨⟨rfl,rfl⟩,rfl,rfl⟩:=hv;refine ⟨ts,cur,h1,rfl,hg,⟨rfl,hcs⟩,by rw [Nat.zero_add,hcs];exact Nat.mul_le_mul_right _ hnc,hcm,hnc,h3,?_⟩;rw [List.drop_zero,htake];exact h4
 | true=>
   obtain ⟨ts,xs,h1,⟨hx,hown⟩,h3,h4,_⟩:=h;rcases hown with ⟨_,c,hv⟩ | ⟨g',off,cap',cur,hv,hg,hnc,hcm,hfit,htake⟩
   ·rw [hval] at hv;simp at hv
   ·rw [hval] at hv;simp only [Value.slice.injEq,aJ,Addr.mk.injEq,and_true] at hv;obtain ⟨⟨rfl,rfl⟩,rfl,rfl⟩:=hv;refine ⟨ts,cur,h1,rfl,hg,hfit,hfit,hcm,hnc,h3,?_⟩;rw [htake];exact h4
end
open Go.RowKit (Below)
section
variable {P:Program} {M0:dA} {w0 w w':World} {N:Nat} {s:St} {τ:Env} {ρ ρ':Nat→Gh} {a:Act} {o:Oper} {e:eM} {nd:cL} {nb ni:Nat} {Qp:Exit→Act→World→Prop}
abbrev fU (M0:dA) (w0:World) (N:Nat) (s:St) (e:eM) (τ:Env):Act→World→Prop:=fun a' w'=>∃ ρ',Sat M0 w0 N (s.app e) τ ρ' a' w'
theorem dC (h:Sat M0 w0 N s τ ρ a w) (hd:bK N o=true) {sv:SV} {v:Value} (hr:(execOp a.eval o).run P w = .ok (.value v) w) (hv:eW (iO s) τ ρ (Ms M0 ρ s) w sv v) :
  o.wp P a w (fU M0 w0 N s (fX o sv).1 τ) Qp:=dN hr ⟨ρ,h.pure hd hv⟩
theorem Nl (h:Sat M0 w0 N s τ ρ a w) (hd:bK N o=true) {x:Operand} (ho:o.op = .move x∨o.op = .assign x)
  (hq:(do let v ←Gk x;return fX o v:Q (eM×cL)).run s=some (e,nd)):o.wp P a w (fU M0 w0 N s e τ) Qp:=by
 obtain ⟨v,h1,h2⟩:=Q.bind_some hq;simp only [Q.run_pure,aJ] at h2;obtain ⟨rfl,rfl⟩:=Prod.mk.inj h2;refine dC h hd (v:=a.eval x) ?_ (qW h h1);rcases ho with ho | ho<;>simp [execOp,ho]
theorem eY {T:Nat} {z:List Value} (h:lT P T=some z):∃ i zv,P.info? T=some i∧i.zero=some zv∧zv.cells=z.toArray∧z.all (·.oneCell')=true∧zv.cells.size=i.size:=by
 unfold lT at h;split at h
 ·rename_i i hi;split at h
  ·rename_i zv hz;split at h
   ·rename_i hc;simp only [Bool.and_eq_true,beq_iff_eq] at hc;simp only [aJ] at h;subst h;exact ⟨i,zv,hi,hz,by simp,hc.1,hc.2⟩
   ·cases h
  ·cases h
 ·cases h
theorem SY (h:Sat M0 w0 N s τ ρ a w) (hd:bK N o=true) {T:Nat} (ho:o.op = .alloc T)
  (hq:(do let z ←Q.of (lT P T);mA nb;return (⟨put o (.w (.one (.p nb 0))),[(nb, .var T (z.map fun v=>.c (.k v)))],[]⟩, .none):Q (eM×cL)).run s=some (e,nd)):o.wp P a w (fU M0 w0 N s e τ) Qp:=by
 obtain ⟨z,h1,h2⟩:=Q.bind_some hq;rw [cK] at h1;obtain ⟨_,h3,h4⟩:=Q.bind_some h2;simp only [Q.run_pure,aJ] at h4;obtain ⟨rfl,rfl⟩:=Prod.mk.inj h4;obtain ⟨hb,hs⟩:=jC h3;obtain ⟨i,zv,hi,hz,hc,h1',_⟩:=eY h1
 have hr:(execOp a.eval o).run P w = .ok (.value (.pointer (some ⟨w.heap.size,0,none⟩))) (w.alloc (.cells z.toArray T)):=by
  simp [execOp,ho,Instr.alloc,zeroValue,typeInfo,hi,hz,newVar,newRow,hc]
 exact dN hr (h.RM hd hb hs (aU.pH h1'))
theorem Xf (h:Sat M0 w0 N s τ ρ a w) (hd:bK N o=true) {T:Nat} {x:Operand} (ho:o.op = .box T x)
  (hq:(do let v ←Jr x;mA nb;return (⟨put o (.w (.one (.p nb 0))),[(nb, .var T v.cells)],[]⟩, .none):Q (eM×cL)).run s=some (e,nd)):o.wp P a w (fU M0 w0 N s e τ) Qp:=by
 obtain ⟨v,h1,h2⟩:=Q.bind_some hq;obtain ⟨_,h3,h4⟩:=Q.bind_some h2;simp only [Q.run_pure,aJ] at h4;obtain ⟨rfl,rfl⟩:=Prod.mk.inj h4;obtain ⟨hb,hs⟩:=jC h3
 have hr:(execOp a.eval o).run P w = .ok (.value (.pointer (some ⟨w.heap.size,0,none⟩))) (w.alloc (.cells (a.eval x).cells.toList.toArray T)):=by
  simp [execOp,ho,Instr.box,newVar,newRow]
 exact dN hr (h.RM hd hb hs (kW h h1).Ce)
theorem nH {l cs:List SC} {off n:Nat} (h:PH l off n=some cs):off+n≤l.length∧cs=(l.drop off).take n:=by
 unfold PH at h;split at h
 ·simp only [aJ] at h;exact ⟨by assumption,h.symm⟩
 ·cases h
theorem pG {ex:Nat→Prop} {M:Nat→Prop} {ag:Bool} {cs:List SC} {sv:SV} {vs:List Value} {v:Value} (h:BX ag cs=some sv) (hc:aU (cG ex τ ρ M w) cs vs) (hv:if ag then v = .agg vs.toArray else vs = [v]):eW ex τ ρ M w sv v:=by
 unfold BX at h;cases ag with
 | true=>
   simp only [if_true,aJ] at h hv;subst h;exact ⟨vs,hv,hc⟩
 | false=>
   simp only [Bool.false_eq_true,if_false] at h hv;subst hv;split at h
   ·simp only [aJ] at h;subst h;exact hc.1
   ·cases h
theorem qL {ag:Bool} {cs:List SC} {sv:SV} (h:BX ag cs=some sv):ag=true∨cs.length=1:=by
 unfold BX at h;cases ag with
 | true=>exact .inl rfl
 | false=>
   simp only [Bool.false_eq_true,if_false] at h;split at h
   ·exact .inr rfl
   ·cases h
theorem nD {T:Nat} {x:Operand} {ad:Addr} (ho:o.op = .load T x) (hx:a.eval x = .pointer (some ad)) {v:Value} {w':World} (hr:(loadVar T ad).run P w = .ok v w'):(execOp a.eval o).run P w = .ok (.value v) w':=by
 simp [execOp,ho,hx,Instr.loadAt,Instr.sureAddr,hr]
theorem Vm (h:Sat M0 w0 N s τ ρ a w) (hd:bK N o=true) {T:Nat} {x:Operand} (ho:o.op = .load T x)
  (hq:(Lt P o ni T x).run s=some (e,nd)) (hn:fG P τ o.op o.type nd ni):o.wp P a w (fU M0 w0 N s e τ) Qp:=by
 obtain ⟨c,h1,h2⟩:=Q.bind_some hq;obtain ⟨⟨ag,n⟩,h3,h4⟩:=Q.bind_some h2;rw [cK] at h3;have hx:=cM h h1;cases c with
 | p b off=>
   obtain ⟨bx,h5,h6⟩:=Q.bind_some h4;simp only [eZ,aJ] at h5
   match bx,h5,h6 with
   | some (.var T' cells),h5,h6=>
     obtain ⟨cs,h7,h8⟩:=Q.bind_some h6;rw [cK] at h7;obtain ⟨sv,h9,h10⟩:=Q.bind_some h8;rw [cK] at h9;simp only [Q.run_pure,aJ] at h10;obtain ⟨rfl,rfl⟩:=Prod.mk.inj h10;obtain ⟨hlen,rfl⟩:=nH h7;obtain ⟨vs,hh,hall⟩:=h.bx b _ h5;have hone:=qL h9;have hl:=hall.length;obtain ⟨v,hr,hv⟩:=fA (w:=w) h3 hh (off:=off) (by simp;omega) (hone.imp id fun h=>by simp at h;omega);exact dC h hd (nD ho hx.2 hr) (pG h9 ((hall.drop off).take n) (by simpa using hv))
   | none,_,h6=>simp at h6
   | some (.row ..),_,h6=>simp at h6
   | some .dead,_,h6=>simp at h6
 | ref off cells=>
   obtain ⟨_,h5,h6⟩:=Q.bind_some h4;have hn0:=cB h5;obtain ⟨cs,h7,h8⟩:=Q.bind_some h6;rw [cK] at h7;obtain ⟨sv,h9,h10⟩:=Q.bind_some h8;rw [cK] at h9;simp only [Q.run_pure,aJ] at h10;obtain ⟨rfl,rfl⟩:=Prod.mk.inj h10;obtain ⟨hlen,rfl⟩:=nH h7;obtain ⟨b,o',cur,T',fz,he,hm,hh,hrep⟩:=hx;have hone:=qL h9;have hl:=hrep.length;simp only [dL] at hlen;simp only [List.length_drop,dL,List.length_take,Array.length_toList] at hl;have hcl:(((cells.map SC.c).drop off).take n).length=n:=by simp;omega
   obtain ⟨v,hr,hv⟩:=fA (w:=w) h3 hh (off:=o') (n:=n) (by omega) (hone.imp id fun h=>by rw [hcl] at h;exact h);refine dC h hd (nD ho he hr) (pG h9 (vs:=(cur.toList.drop o').take n) ?_ hv);have h2:=hrep.take n;rw [List.take_take,Nat.min_eq_left (by simp;omega),←List.map_drop,←List.map_take] at h2;rw [←List.map_drop,←List.map_take];refine aU.rK (by simp;omega) fun j y z hy hz=>?_;rw [eX] at hy;cases hyj:((cells.drop off).take n)[j]? with
   | none=>rw [hyj] at hy;cases hy
   | some y0=>
     rw [hyj] at hy;simp only [Option.map_some,aJ] at hy;subst hy;obtain ⟨z',hz',hr'⟩:=h2.get j (c0 τ y0) (by rw [eX,hyj];rfl);rw [hz] at hz';cases hz';exact hr'
 | rp b sz i off=>
   obtain ⟨⟨pt,E,sz',cid⟩,h5,h6⟩:=Q.bind_some h4;have h5:=iR h5;obtain ⟨_,h7,h8⟩:=Q.bind_some h6;obtain ⟨rfl,hoff⟩:=cB h7;simp only [Q.run_pure,aJ] at h8;obtain ⟨rfl,rfl⟩:=Prod.mk.inj h8;obtain ⟨news,⟨ts,k,m,cells,hcid,hi,h0,hcell,hag,rfl⟩,_,hτ⟩:=hn;have hτ0:τ[ni]? = some (Lp ag ((cells.drop off).take n)):=by simpa using hτ 0 _ rfl
   obtain ⟨_,g,o0,len,cap,k',m',hval,hi',h0',hxv⟩:=hx
   have hm:m'=m:=by
    rw [hi] at hi';have:(aL.int k m).rep (fun _=>False) default (.int k' m'):=by rw [show aL.int k m=aL.exact (.int k m) from rfl] at *;rw [hi'];exact ⟨rfl,rfl⟩
    have:=this.1;simp at this;exact this.2
   subst hm;obtain ⟨ts',cur,hcid',hlen',hg,_,hsz,hcm,hnc,hlen,hrep⟩:=HA (h.bx b _ h5) hval;rw [hcid] at hcid';simp only [aJ,aE.rows.injEq] at hcid';subst hcid';subst hlen';have hlt:m'.toNat<ts.length:=(fT.1 hcell).1;have hel:=iY (off:=o0) hlen hrep m'.toNat cells hcell;have hfit:(m'.toNat+1)*sz'≤ts.length*sz':=Nat.mul_le_mul_right _ (by omega);rw [Nat.add_mul,Nat.one_mul] at hfit;obtain ⟨v,hr,hvv⟩:=fA (w:=w) h3 hg (off:=o0+m'.toNat*sz'+off) (n:=n) (by omega) hag
   have hr2:aM (Ms M0 ρ s) w ((cells.drop off).take n) ((cur.toList.drop (o0+m'.toNat*sz'+off)).take n):=by
    have:=(hel.2.drop off).take n;rw [List.drop_take,List.drop_drop,List.take_take,Nat.min_eq_left (by omega)] at this;exact this
   have hlen2:=hr2.length
   have hvt:(Lp ag ((cells.drop off).take n)).rep (Ms M0 ρ s) w v:=by
    cases ag with
    | true=>simp only [if_true] at hvv;exact ⟨_,hvv,hr2⟩
    | false=>
      simp only [Bool.false_eq_true,if_false] at hvv;rw [hvv] at hr2
      match hz:(cells.drop off).take n,hr2 with
      | [c],hr2=>exact hr2.1
   refine dN (nD ho hxv hr) ⟨ρ,h.pure hd (sv:=.w (lW ni (if ag then some n else none))) (mE hτ0 ?_ hvt)⟩;cases ag with
   | true=>
     simp only [Lp,if_true,aE.shape,aJ];rw [List.length_take,List.length_drop,hel.1];omega
   | false=>rfl
 | c _=>exact bP h hd h4 hn
 | rs _ _ _ _=>exact bP h hd h4 hn
 | dZ _ _=>exact bP h hd h4 hn
 | r _=>exact bP h hd h4 hn
theorem qI {T:Nat} {x y:Operand} {ad:Addr} (ho:o.op = .store T x y) (hx:a.eval x = .pointer (some ad)) {w':World} (hr:(storeVar T ad (a.eval y)).run P w = .ok () w'):(execOp a.eval o).run P w = .ok .skip w':=by
 simp [execOp,ho,hx,Instr.storeAt,Instr.sureAddr,hr]
theorem aU.one {ex:Nat→Prop} {M:Nat→Prop} {cs:List SC} {vs:List Value} (h:aU (cG ex τ ρ M w) cs vs):∀ v∈vs,v.oneCell'=true:=fun v hv=>by
 obtain ⟨c,_,hc⟩:=h.mem v hv;exact cG.one hc
theorem oU:∀ {cs:List SC} {xs:List C0} {l:List Nat},(lJ cs).run s=some (xs,l)→xs.length=cs.length
 | [],xs,l,hq=>by simp only [lJ,Q.dP,aJ,Prod.mk.injEq] at hq;rw [←hq.1];rfl
 | c::cs,xs,l,hq=>by
   obtain ⟨⟨x,l1⟩,q1,q2⟩:=Q.bind_some hq;obtain ⟨⟨xs',l2⟩,q3,q4⟩:=Q.bind_some q2;simp only [Q.run_pure,aJ,Prod.mk.injEq] at q4;rw [←q4.1,List.length_cons,List.length_cons,oU q3]
theorem JW {M':Nat→Prop} {w:World} {sz:Nat}:∀ (ts:List (List aL)) (l:List Value) (j:Nat) (c:List aL) (us:List Value),(∀ t∈ts,t.length=sz)→aM M' w ts.flatten l→l.length=ts.length*sz→j<ts.length→c.length=sz→aM M' w c us →
  aM M' w (ts.set j c).flatten (l.take (j*sz)++us++l.drop (j*sz+sz))
 | [],l,j,c,us,_,_,_,hj,_,_=>by simp at hj
 | t::ts,l,j,c,us,hl,hr,hll,hj,hc,hus=>by
   have ht:t.length=sz:=hl t List.mem_cons_self;rw [List.length_cons,Nat.add_mul,Nat.one_mul] at hll
   have h2:aM M' w ts.flatten (l.drop sz):=by
    have:=hr.drop sz;rw [List.flatten_cons,List.drop_append_of_le_length (by omega),List.drop_eq_nil_of_le (by omega:t.length≤sz),List.nil_append] at this;exact this
   cases j with
   | zero=>
     simp only [List.set_cons_zero,List.flatten_cons,Nat.zero_mul,List.take_zero,List.nil_append,Nat.zero_add];exact hus.append h2
   | succ j=>
     simp only [List.set_cons_succ,List.flatten_cons]
     have h1:aM M' w t (l.take sz):=by
      have:=hr.take sz;rw [List.flatten_cons,List.take_append_of_le_length (by omega),List.take_of_length_le (by omega:t.length≤sz)] at this;exact this
     have h3:=JW ts (l.drop sz) j c us (fun t ht=>hl t (List.mem_cons_of_mem _ ht)) h2 (by rw [List.length_drop];omega) (by simpa using hj) hc hus;have h4:=h1.append h3
     have e1:l.take sz++((l.drop sz).take (j*sz)++us++(l.drop sz).drop (j*sz+sz))=l.take ((j+1)*sz)++us++l.drop ((j+1)*sz+sz):=by
      have e0:(j+1)*sz=sz+j*sz:=by rw [Nat.add_mul,Nat.one_mul,Nat.add_comm]
      rw [e0,List.take_add,List.drop_drop,←Nat.add_assoc];simp [List.append_assoc]
     rw [e1] at h4;exact h4
theorem ZL {α:Type} {l us:List α} {L p sz off n:Nat} (hu:us.length=n) (h1:off+n≤sz) (h2:p+sz≤L) (h3:L≤l.length) :
  (l.take L).take p++(((l.drop p).take sz).take off++us++((l.drop p).take sz).drop (off+n))++(l.take L).drop (p+sz)=(l.take (p+off)++us++l.drop (p+off+n)).take L:=by
 apply List.ext_getElem?;intro i;subst hu;simp only [List.getElem?_append,List.getElem?_take,List.getElem?_drop,eF,List.length_take,List.length_drop]
 grind
theorem RV (h:Sat M0 w0 N s τ ρ a w) (hd:bK N o=true) {T:Nat} {x y:Operand} (ho:o.op = .store T x y)
  (hq:(Gx P o ni T x y).run s=some (e,nd)) (hn:fG P τ o.op o.type nd ni):o.wp P a w (fU M0 w0 N s e τ) Qp:=by
 obtain ⟨c,h1,h2⟩:=Q.bind_some hq;obtain ⟨v,hv1,hv2⟩:=Q.bind_some h2;obtain ⟨⟨ag,n⟩,h3,h4⟩:=Q.bind_some hv2;rw [cK] at h3;have hx:=cM h h1;have hy:=(kW h hv1).Ce;have hyl:=hy.length;cases c with
 | p b off=>
   obtain ⟨bx,h5,h6⟩:=Q.bind_some h4;simp only [eZ,aJ] at h5
   match bx,h5,h6 with
   | some (.var T' cells),h5,h6=>
     obtain ⟨sb,h7,h8⟩:=Q.bind_some h6;simp only [mC,aJ] at h7;obtain ⟨_,h9,h10⟩:=Q.bind_some h8;have hsb:=cB h9;rw [←h7] at hsb;obtain ⟨_,h11,h12⟩:=Q.bind_some h10;obtain ⟨hn1,hn2⟩:=cB h11;simp only [Q.run_pure,aJ] at h12;obtain ⟨rfl,rfl⟩:=Prod.mk.inj h12;obtain ⟨vs,hh,hall⟩:=h.bx b _ h5;have hl:=hall.length;simp only [Array.length_toList] at hyl;have hr:=lS (w:=w) h3 hh (off:=off) (v:=a.eval y) (by omega) hy.one (by simp;omega);refine AF (qI ho hx.2 hr) ⟨ρ,?_⟩;have:=h.store hd h5 hsb (cells:=cells.take off++v.cells++cells.drop (off+n)) (vs:=vs.take off++(a.eval y).cells.toList++vs.drop (off+n)) (((hall.take off).append hy).append (hall.drop (off+n)));exact this
   | none,_,h6=>simp at h6
   | some (.row ..),_,h6=>simp at h6
   | some .dead,_,h6=>simp at h6
 | rp b sz i off=>
   obtain ⟨⟨pt,E,sz',cid⟩,h5,h6⟩:=Q.bind_some h4;have h5:=iR h5;obtain ⟨sb,h7,h8⟩:=Q.bind_some h6;simp only [mC,aJ] at h7;obtain ⟨_,h9,h10⟩:=Q.bind_some h8;have hsb:=cB h9;rw [←h7] at hsb;obtain ⟨⟨xs,sl⟩,h11,h12⟩:=Q.bind_some h10;obtain ⟨_,h13,h14⟩:=Q.bind_some h12;obtain ⟨rfl,hn1,hn2,hn3⟩:=cB h13;simp only [Q.run_pure,aJ] at h14;obtain ⟨rfl,rfl⟩:=Prod.mk.inj h14;obtain ⟨news,⟨ts,k,m,cells,hcid,hi,h0,hcell,rfl⟩,_,hτ⟩:=hn;have hτ0:τ[ni]? = some (.rows (ts.set m.toNat (cells.take off++xs.map (c0 τ)++cells.drop (off+xs.length)))):=by simpa using hτ 0 _ rfl
   obtain ⟨_,g,o0,len,cap,k',m',hval,hi',h0',hxv⟩:=hx
   have hm:m'=m:=by
    rw [hi] at hi';have:(aL.int k m).rep (fun _=>False) default (.int k' m'):=by rw [show aL.int k m=aL.exact (.int k m) from rfl] at *;rw [hi'];exact ⟨rfl,rfl⟩
    have:=this.1;simp at this;exact this.2
   subst hm;obtain ⟨ts',cur,hcid',hlen',hg,hfitp,hsz,hcm,hnc,hlen,hrep⟩:=HA (h.bx b _ h5) hval;rw [hcid] at hcid';simp only [aJ,aE.rows.injEq] at hcid';subst hcid';subst hlen';have hlt:m'.toNat<ts.length:=(fT.1 hcell).1;have hj1:(m'.toNat+1)*sz'≤ts.length*sz':=Nat.mul_le_mul_right _ (by omega);rw [Nat.add_mul,Nat.one_mul] at hj1;simp only [Array.length_toList] at hyl;have hr:=lS (w:=w) h3 hg (off:=o0+m'.toNat*sz'+off) (v:=a.eval y) (by omega) hy.one;refine AF (qI ho hxv hr) ⟨ρ,?_⟩;have hcl:cells.length=sz':=hlen cells (LJ hcell);have hxsl:xs.length=n:=by rw [oU h11];exact hn1
   have hyl':(a.eval y).cells.size=n:=by omega
   refine h.GU (w':=w.setRow g _) hd h5 hsb (by simpa using hn3) hval hg ?_ (setRow_heap w _ _ _ _ _ hg) ⟨rfl,rfl,rfl,by simp,fun k _ hk=>setRow_other w g k _ (by rintro rfl;exact hk rfl)⟩ ?_ hfitp hcm hnc hτ0 (by simp) ?_ (fun _=>rfl) ?_
   ·intro j hj;rw [List.getElem?_toArray,←Array.getElem?_toList];simp only [List.getElem?_append,List.getElem?_take,List.getElem?_drop,eF,List.length_take,Array.length_toList,hyl']
    grind
   ·simp;omega
   ·intro t ht;rcases List.mem_or_eq_of_mem_set ht with ht | rfl
    ·exact hlen t ht
    ·simp [hcl,hxsl];omega
   ·intro hS hgM;generalize Ms M0 ρ (s.app ⟨put o .undef,[(b,fW pt E sz' ni)],sl⟩)=M' at hS hgM ⊢;have hxr:=kI h h11 hS hy;have hrep':=hrep.mono (hS.cE (w:=w));have hel:=iY (off:=o0) hlen hrep'
    have htl:((cur.toList.drop o0).take (ts.length*sz')).length=ts.length*sz':=by
     rw [List.length_take,List.length_drop,Array.length_toList (xs:=cur)];exact Nat.min_eq_left (by omega)
    have hcrep:aM M' w (cells.take off++xs.map (c0 τ)++cells.drop (off+xs.length)) ((((cur.toList.drop o0).drop (m'.toNat*sz')).take sz').take off++(a.eval y).cells.toList++(((cur.toList.drop o0).drop (m'.toNat*sz')).take sz').drop (off+n)):=by
     have:=(hel m'.toNat cells hcell).2;rw [hxsl,List.drop_drop];exact ((this.take off).append hxr).append (this.drop (off+n))
    have:=JW ts _ m'.toNat _ _ hlen hrep' htl hlt (by simp [hcl,hxsl];omega) hcrep;rw [ZL (by simpa using hyl') hn2 hj1 (by rw [List.length_drop,Array.length_toList (xs:=cur)];omega)] at this
    have e1:((cur.toList.take (o0+m'.toNat*sz'+off)++(a.eval y).cells.toList++cur.toList.drop (o0+m'.toNat*sz'+off+n)).toArray.toList.drop o0)=((cur.toList.drop o0).take (m'.toNat*sz'+off)++(a.eval y).cells.toList++(cur.toList.drop o0).drop (m'.toNat*sz'+off+n)):=by
     show List.drop o0 (cur.toList.take (o0+m'.toNat*sz'+off)++(a.eval y).cells.toList++cur.toList.drop (o0+m'.toNat*sz'+off+n))=_;have e2:o0+m'.toNat*sz'+off-o0=m'.toNat*sz'+off:=by omega
     have e3:o0+m'.toNat*sz'+off+n=o0+(m'.toNat*sz'+off+n):=by omega
     rw [List.append_assoc,List.drop_append_of_le_length (by rw [List.length_take,Array.length_toList (xs:=cur)];omega),List.drop_take,e2,e3,←List.drop_drop,←List.append_assoc]
    rw [e1];refine this.mono ?_;intro k' ob hk hob _;exact ⟨hk,by rw [setRow_other w g k' _ (by rintro rfl;exact hk hgM)];exact hob⟩
 | c _=>simp at h4
 | rs _ _ _ _=>simp at h4
 | dZ _ _=>simp at h4
 | r _=>simp at h4
 | ref _ _=>simp at h4
end
end Go.Sy
