/- Types of values (what a value stands for, in a world), and what stays when the world goes on. Symbolic execution of one operation: closed data. Symbolic execution of code, and what is left to show. What is left to show (vc), and what a symbolic state says of a frame and a world (Sat). One operation is what its symbolic execution says. Each operation: its run. Each operation: sound.
-/
import Derived.Orders
import Derived.RangeFuncOwn
import Derived.Below
import Derived.Laws.AppendOwn
import Derived.Laws.CopyOwn
import Derived.Lib.ItoaNum
set_option linter.unusedVariables false
set_option linter.unusedSimpArgs false
namespace Go.Sy
theorem aB {α:Type _} {a:α} {l m:List α}:a::l++m=a::(l++m):=rfl
theorem aA {α:Type _} {l:List α}:[]++l=l:=rfl
open Go.RowKit (Below)
def Cy:Array Value:=(Lib.pow10Tab.map fun z=>Value.int .u64 z).toArray
def Vo.tab:List (Nat×Array Value):=[(0,Cy)]
def bZ (M:Nat→Prop) (w:World) (M':Nat→Prop) (w':World):Prop:=
 ∀ b o,¬ M b→w.heap[b]? = some o→o.isCells=true→¬ M' b∧w'.heap[b]? = some o
theorem bZ.refl (M:Nat→Prop) (w:World):bZ M w M w:=fun _ _ h h' _=>⟨h,h'⟩
theorem bZ.trans {M M' M'':Nat→Prop} {w w' w'':World} (h:bZ M w M' w') (k:bZ M' w' M'' w''):bZ M w M'' w'':=
 fun b o hb ho hc=>let ⟨h1,h2⟩:=h b o hb ho hc;k b o h1 h2 hc
theorem bZ.below {M:Nat→Prop} {w w':World} (h:Below w.heap.size w w'):bZ M w M w':=
 fun b o hb ho _=>⟨hb,by rw [h.block b (Array.getElem?_eq_some_iff.1 ho).1];exact ho⟩
structure aH where
 rep:(Nat→Prop)→World→Value→Prop
 mono:∀ {M w M' w' v},bZ M w M' w'→rep M w v→rep M' w' v
 one:∀ {M w v},rep M w v→v.oneCell'=true
def aH.exact (v:Value):aH where
 rep:=fun _ _ x=>x=v∧v.oneCell'=true
 mono:=fun _ h=>h
 one:=fun h=>by rw [h.1];exact h.2
def aH.bad:aH where
 rep:=fun _ _ _=>False
 mono:=fun _ h=>h
 one:=fun h=>h.elim
abbrev aH.int (k:IntKind) (n:Int):aH:=.exact (.int k n)
abbrev aH.bool (b:Bool):aH:=.exact (.bool b)
abbrev aH.str (s:ByteArray):aH:=.exact (.string s)
inductive aF where
 | one (c:aH)
 | agg (cs:List aH)
 | rows (ts:List (List aH))
def aZ (M:Nat→Prop) (w:World):List aH→List Value→Prop
 | [],[]=>True
 | c::cs,v::vs=>c.rep M w v∧aZ M w cs vs
 | _,_=>False
def aF.rep (M:Nat→Prop) (w:World):aF→Value→Prop
 | .one c,v=>c.rep M w v
 | .agg cs,v=>∃ vs:List Value,v = .agg vs.toArray∧aZ M w cs vs
 | .rows _,_=>False
def cI (M:Nat→Prop) (w:World):List aF→List Value→Prop
 | [],[]=>True
 | c::cs,v::vs=>c.rep M w v∧cI M w cs vs
 | _,_=>False
theorem aZ.mono {M M':Nat→Prop} {w w':World} (h:bZ M w M' w'):∀ {cs vs},aZ M w cs vs→aZ M' w' cs vs
 | [],[],_=>trivial
 | _::_,_::_,⟨a,b⟩=>⟨aH.mono _ h a,aZ.mono h b⟩
 | [],_::_,k=>k.elim
 | _::_,[],k=>k.elim
theorem aF.xB {M M':Nat→Prop} {w w':World} (h:bZ M w M' w'):∀ {t:aF} {v},t.rep M w v→t.rep M' w' v
 | .one c,_,k=>c.mono h k
 | .agg _,_,⟨vs,e,k⟩=>⟨vs,e,k.mono h⟩
 | .rows _,_,k=>k
theorem cI.mono {M M':Nat→Prop} {w w':World} (h:bZ M w M' w'):∀ {cs vs},cI M w cs vs→cI M' w' cs vs
 | [],[],_=>trivial
 | _::_,_::_,⟨a,b⟩=>⟨aF.xB h a,cI.mono h b⟩
 | [],_::_,k=>k.elim
 | _::_,[],k=>k.elim
theorem aZ.length {M:Nat→Prop} {w:World}:∀ {cs vs},aZ M w cs vs→cs.length=vs.length
 | [],[],_=>rfl
 | _::_,_::_,⟨_,b⟩=>by simp [b.length]
 | [],_::_,k=>k.elim
 | _::_,[],k=>k.elim
theorem cI.length {M:Nat→Prop} {w:World}:∀ {cs vs},cI M w cs vs→cs.length=vs.length
 | [],[],_=>rfl
 | _::_,_::_,⟨_,b⟩=>by simp [b.length]
 | [],_::_,k=>k.elim
 | _::_,[],k=>k.elim
theorem aZ.get {M:Nat→Prop} {w:World}:∀ {cs vs},aZ M w cs vs→∀ (j:Nat) (c:aH),cs[j]? = some c→∃ v,vs[j]? = some v∧c.rep M w v
 | [],[],_,j,c,hc=>by simp at hc
 | c0::cs,v0::vs,⟨a,b⟩,j,c,hc=>by
   cases j with
   | zero=>simp at hc;subst hc;exact ⟨v0,rfl,a⟩
   | succ j=>simpa using b.get j c (by simpa using hc)
 | [],_::_,k,_,_,_=>k.elim
 | _::_,[],k,_,_,_=>k.elim
theorem aZ.yG {M:Nat→Prop} {w:World}:∀ {cs vs},cs.length=vs.length→(∀ (j:Nat) (c:aH) (v:Value),cs[j]? = some c→vs[j]? = some v→c.rep M w v)→aZ M w cs vs
 | [],[],_,_=>trivial
 | c::cs,v::vs,hl,h=>⟨h 0 c v rfl rfl,aZ.yG (by simpa using hl) fun j c' v' hc hv=>h (j+1) c' v' (by simpa using hc) (by simpa using hv)⟩
 | [],_::_,hl,_=>by simp at hl
 | _::_,[],hl,_=>by simp at hl
theorem aZ.append {M:Nat→Prop} {w:World}:∀ {cs vs cs' vs'},aZ M w cs vs→aZ M w cs' vs'→aZ M w (cs++cs') (vs++vs')
 | [],[],_,_,_,h=>h
 | _::_,_::_,_,_,⟨a,b⟩,h=>⟨a,b.append h⟩
 | [],_::_,_,_,k,_=>k.elim
 | _::_,[],_,_,k,_=>k.elim
theorem aZ.take {M:Nat→Prop} {w:World}:∀ (n:Nat) {cs vs},aZ M w cs vs→aZ M w (cs.take n) (vs.take n)
 | 0,_,_,_=>trivial
 | _+1,[],[],_=>trivial
 | n+1,_::_,_::_,⟨a,b⟩=>⟨a,b.take n⟩
 | _+1,[],_::_,k=>k.elim
 | _+1,_::_,[],k=>k.elim
theorem aZ.drop {M:Nat→Prop} {w:World}:∀ (n:Nat) {cs vs},aZ M w cs vs→aZ M w (cs.drop n) (vs.drop n)
 | 0,_,_,h=>h
 | _+1,[],[],_=>trivial
 | n+1,_::_,_::_,⟨_,b⟩=>b.drop n
 | _+1,[],_::_,k=>k.elim
 | _+1,_::_,[],k=>k.elim
theorem aZ.one {M:Nat→Prop} {w:World}:∀ {cs vs},aZ M w cs vs→∀ v∈vs,v.oneCell'=true
 | [],[],_=>by simp
 | c::_,v::_,⟨a,b⟩=>by
   intro x hx;rcases List.mem_cons.1 hx with rfl | hx
   ·exact c.one a
   ·exact b.one x hx
 | [],_::_,k=>k.elim
 | _::_,[],k=>k.elim
def aF.shape:aF→Option (Option Nat)
 | .one _=>some none
 | .agg cs=>some (some cs.length)
 | .rows _=>none
def aF.cells:aF→List aH
 | .one c=>[c]
 | .agg cs=>cs
 | .rows _=>[]
def aF.cell (t:aF) (j:Nat):aH:=t.cells.getD j .bad
def pack:List Value→Value
 | [v]=>v
 | vs=>.tuple vs.toArray
inductive Out where
 | ret (rs:List aF)
 | retr (rs:List aF) (ts:List (List aH))
 | pan (c:aH)
 | orc (f:Nat) (args news:List aF)
def sZ (M:Nat→Prop) (w:World):Out→Ending→Prop
 | .ret rs,e=>∃ vs,e = .returned (pack vs)∧cI M w rs vs
 | .retr _ _,_=>False
 | .orc _ _ _,_=>False
 | .pan c,e=>∃ v,e = .panicked [{ v,recovered:=false }]∧c.rep M w v
def Good (M:Nat→Prop) (w:World):Prop:=∀ x∈Vo.tab,¬ M x.1∧∃ T fz,w.heap[x.1]? = some (.cells x.2 T fz)
def dL (M:Nat→Prop) (w:World):Prop:=(∀ b,M b→b<w.heap.size)∧Good M w
theorem Good.jD {M M':Nat→Prop} {w w':World} (h:Good M w) (k:bZ M w M' w'):Good M' w':=fun x hx=>by
 obtain ⟨h1,T,fz,h2⟩:=h x hx;obtain ⟨h3,h4⟩:=k x.1 _ h1 h2 rfl;exact ⟨h3,T,fz,h4⟩
theorem Good.below {M:Nat→Prop} {w w':World} {n:Nat} (h:Good M w) (hn:n=w.heap.size) (k:Below n w w'):Good M w':=by subst hn;exact h.jD (bZ.below k)
theorem Good.sub {M M':Nat→Prop} {w:World} (h:Good M w) (k:∀ b,M' b→M b):Good M' w:=fun x hx=>⟨fun hm=>(h x hx).1 (k _ hm),(h x hx).2⟩
theorem dL.sub {M M':Nat→Prop} {w:World} (h:dL M w) (k:∀ b,M' b→M b):dL M' w:=⟨fun b hb=>h.1 b (k b hb),h.2.sub k⟩
def aM (P:Program) (f:FuncId) (args:List aF) (out:Out):Prop:=
 (∀ as w,(callFunc f as).run P w = .ok (.enter f as) w) ∧
 ∀ (M:Nat→Prop) (w:World) (vs:List Value),dL M w→cI M w args vs →
   Calls P f vs.toArray w fun e w'=>Below w.heap.size w w'∧sZ M w' out e
def aX (P:Program) (op:Op) (ty:TypeId) (args:List aF) (t:aF):Prop:=
 ∀ (M:Nat→Prop) (w:World) (ρ:Operand→Value) (o:Oper),o.op=op→o.type=ty→cI M w args (op.operands.toList.map ρ) →
   ∃ v,(execOp ρ o).run P w = .ok (.value v) w∧t.rep M w v
def LW (P:Program) (op:Op) (ty:TypeId) (E sz:Nat) (pre post:List aF) (ts:List (List aH)) (rs:List aF) (ts':List (List aH)):Prop:=
 ts'.length=ts.length∧(∀ t∈ts',t.length=sz) ∧
 ∀ (M:Nat→Prop) (w:World) (a:Act) (o:Oper) (c:Call) (K:Act→World→Prop) (Q:Exit→Act→World→Prop) (g off cap:Nat) (cur:Array Value) (vs1 vs2:List Value),o.op=op→o.type=ty→op = .call c →
   c.args.toList.map a.eval=vs1 ++ .slice (some ⟨g,off,none⟩) ts.length cap::vs2→dL M w→M g→w.heap[g]? = some (.cells cur E (0,0)) →
   off+ts.length*sz≤cur.size→ts.length≤cap→cap≤maxLen→aZ M w ts.flatten ((cur.toList.drop off).take (ts.length*sz))→cI M w pre vs1→cI M w post vs2 →
   (∀ w' cur' us,w.grownBy w' (some g)→w'.heap[g]? = some (.cells cur' E (0,0))→cur'.size=cur.size→(∀ j,(j<off∨off+ts.length*sz≤j)→cur'[j]? = cur[j]?)→cI M w' rs us →
    aZ M w' ts'.flatten ((cur'.toList.drop off).take (ts.length*sz))→K (a.put o.dst (pack us)) w')→o.wp P a w K Q
def aH.bE (cells:List aH):aH where
 rep:=fun M w v=>∃ b off cs T fz,v = .pointer (some ⟨b,off,none⟩)∧¬ M b∧w.heap[b]? = some (.cells cs T fz)∧aZ M w cells ((cs.toList.drop off).take cells.length)
 mono:=by
  rintro M w M' w' v hk ⟨b,off,cs,T,fz,rfl,hm,hh,hr⟩;obtain ⟨h1,h2⟩:=hk b _ hm hh rfl;exact ⟨b,off,cs,T,fz,rfl,h1,h2,hr.mono hk⟩
 one:=by
  rintro M w v ⟨b,off,cs,T,fz,rfl,_⟩;rfl
def aH.gT (f:FuncId) (caps:List aH):aH where
 rep:=fun M w v=>∃ vs:List Value,v = .func (.func f) #[] vs.toArray∧aZ M w caps vs
 mono:=by
  rintro M w M' w' v hk ⟨vs,rfl,hr⟩;exact ⟨vs,rfl,hr.mono hk⟩
 one:=by
  rintro M w v ⟨vs,rfl,_⟩;rfl
def aH.slice (sz:Nat) (ts:List (List aH)):aH where
 rep:=fun M w v=>∃ a cap,v = .slice a ts.length cap∧ts.length≤cap∧cap≤maxLen∧(ts = []∨∃ b off cs T fz,a=some ⟨b,off,none⟩∧¬ M b∧w.heap[b]? = some (.cells cs T fz) ∧
  ∀ i t,ts[i]? = some t→t.length=sz∧aZ M w t ((cs.toList.drop (off+i*sz)).take sz))
 mono:=by
  rintro M w M' w' v hk ⟨a,cap,rfl,hc,hc2,h⟩;refine ⟨a,cap,rfl,hc,hc2,?_⟩;rcases h with h | ⟨b,off,cs,T,fz,rfl,hm,hh,hr⟩
  ·exact .inl h
  ·obtain ⟨h1,h2⟩:=hk b _ hm hh rfl;exact .inr ⟨b,off,cs,T,fz,rfl,h1,h2,fun i t ht=>⟨(hr i t ht).1,(hr i t ht).2.mono hk⟩⟩
 one:=by
  rintro M w v ⟨a,cap,rfl,_⟩;rfl
inductive C0 where
 | u (i j:Nat)
 | k (v:Value)
 | sr (sz cid:Nat)
inductive CR where
 | c (x:C0)
 | ref (off:Nat) (cells:List C0)
inductive SC where
 | c (x:C0)
 | ref (off:Nat) (cells:List C0)
 | gT (f:Nat) (caps:List CR)
 | p (b off:Nat)
 | r (b:Nat)
 | rp (b sz:Nat) (i:C0) (off:Nat)
 | rs (b sz:Nat) (lo hi:C0)
inductive SW where
 | one (c:SC)
 | agg (cs:List SC)
inductive SV where
 | junk
 | undef
 | w (x:SW)
 | tup (xs:List SW)
inductive Bx where
 | var (T:Nat) (cells:List SC)
 | row (E sz cid:Nat)
 | part (E sz cid:Nat)
 | dead
structure fM where
 tm:List (Nat×SV)
 bx:List (Nat×Bx)
 sl:List Nat
def look {α:Type} (l:List (Nat×α)) (n:Nat):Option α:=
 match l with
 | []=>none
 | (m,x)::l=>if m=n then some x else look l n
structure St where
 tm:List (Nat×SV)
 bx:List (Nat×Bx)
 sl:List Nat
def St.t (s:St) (n:Nat):SV:=(look s.tm n).getD .junk
def St.b (s:St) (n:Nat):Option Bx:=look s.bx n
def St.s (s:St) (n:Nat):Bool:=s.sl.contains n
def St.app (s:St) (e:fM):St:=⟨e.tm++s.tm,e.bx++s.bx,e.sl++s.sl⟩
inductive Q (α:Type) where
 | ret (a:α)
 | fail
 | t (n:Nat) (k:SV→Q α)
 | b (n:Nat) (k:Option Bx→Q α)
 | s (n:Nat) (k:Bool→Q α)
inductive Loc where
 | t (n:Nat)
 | b (n:Nat)
 | s (n:Nat)
 deriving DecidableEq
def Q.bind {α β:Type}:Q α→(α→Q β)→Q β
 | .ret a,f=>f a
 | .fail,_=>.fail
 | .t n k,f=>.t n fun x=>(k x).bind f
 | .b n k,f=>.b n fun x=>(k x).bind f
 | .s n k,f=>.s n fun x=>(k x).bind f
instance:Monad Q where
 pure:=Q.ret
 bind:=Q.bind
def Q.run {α:Type} (s:St):Q α→Option α
 | .ret a=>some a
 | .fail=>none
 | .t n k=>(k (s.t n)).run s
 | .b n k=>(k (s.b n)).run s
 | .s n k=>(k (s.s n)).run s
def Q.log {α:Type} (s:St):Q α→List Loc
 | .ret _=>[]
 | .fail=>[]
 | .t n k=>.t n::(k (s.t n)).log s
 | .b n k=>.b n::(k (s.b n)).log s
 | .s n k=>.s n::(k (s.s n)).log s
def aR0 (n:Nat):Q SV:=.t n .ret
def AF (n:Nat):Q (Option Bx):=.b n .ret
def Nr (n:Nat):Q Bool:=.s n .ret
def Q.of {α:Type}:Option α→Q α
 | some a=>.ret a
 | none=>.fail
def ask (p:Prop) [Decidable p]:Q Unit:=if p then .ret () else .fail
def jC (pt:Bool) (E sz cid:Nat):Bx:=if pt then .part E sz cid else .row E sz cid
def vL (b:Nat):Q (Bool×Nat×Nat×Nat):=do
 match ←AF b with
 | some (.row E sz cid)=>return (false,E,sz,cid)
 | some (.part E sz cid)=>return (true,E,sz,cid)
 | _=>.fail
def rP (nb:Nat):Q Unit:=do
 let x ←AF nb
 ask (x.isNone=true)
 ask ((←Nr nb)=false)
inductive cY where
 | none
 | prim (args:List SW) (sh:Option Nat)
 | call (f:Nat) (args:List SW) (sh:List (Option Nat))
 | callv (c:C0) (args:List SW) (sh:List (Option Nat))
 | lit (sz:Nat) (tss:List (List C0))
 | make (zero:List Value) (bytes:Nat) (len cap:C0)
 | app (sz bytes:Nat) (cid:Option Nat) (src:Option C0) (row:Option Nat)
 | idx (cid:Nat) (i:C0)
 | ldrow (cid:Nat) (i:C0) (off sz:Nat) (agg:Bool)
 | strow (cid sz:Nat) (i:C0) (off:Nat) (cells:List C0)
 | lenrow (cid:Nat)
 | rop (cid E sz:Nat) (view:Option (C0×C0)) (pre post:List SW) (sh:List (Option Nat))
 | view (cid:Nat) (lo hi mx:C0)
def cY.ids:cY→Nat
 | .none | .idx .. | .view ..=>0
 | .call _ _ sh | .callv _ _ sh=>sh.length
 | .rop _ _ _ _ _ _ sh=>sh.length+1
 | _=>1
def jM (P:Program) (T:Nat):Option (Bool×Nat):=
 match P.underlying T,P.info? T with
 | some d,some i=>some ((match d with | .struct _ | .array _ _=>true | _=>false),i.size)
 | _,_=>none
def KC (P:Program) (T:Nat):Option (Option Nat):=
 (jM P T).map fun (a,n)=>if a then some n else none
def rG (i:Nat):Option Nat→SW
 | none=>.one (.c (.u i 0))
 | some n=>.agg ((List.range n).map fun j=>.c (.u i j))
def Ri:Value→SV
 | .agg cs=>if cs.toList.all (·.oneCell') then .w (.agg (cs.toList.map fun v=>.c (.k v))) else .junk
 | .tuple _=>.junk
 | .func ..=>.junk
 | v=>.w (.one (.c (.k v)))
def Ed:Operand→Q SV
 | .tmp t=>aR0 t
 | .const v=>.ret (Ri v)
 | .func f=>.ret (.w (.one (.gT f [])))
 | .global _=>.ret .junk
def SV.sw:SV→Option SW
 | .w x=>some x
 | _=>none
def SW.sc:SW→Option SC
 | .one c=>some c
 | _=>none
def SW.cells:SW→List SC
 | .one c=>[c]
 | .agg cs=>cs
def GV (x:Operand):Q SW:=do let v ←Ed x;Q.of v.sw
def pX (x:Operand):Q SC:=do let v ←GV x;Q.of v.sc
def Iz:List (Nat×Operand)→Q (List (Nat×SW))
 | []=>.ret []
 | (i,x)::xs=>do let v ←GV x;let vs ←Iz xs;return (i,v)::vs
def pU:SC→Q (C0×List Nat)
 | .c x=>.ret (x,[])
 | .r b=>do
   let some (.row _ sz cid) ←AF b | .fail
   return (.sr sz cid,[b])
 | _=>.fail
def oY:List SC→Q (List C0×List Nat)
 | []=>.ret ([],[])
 | c::cs=>do let (x,l) ←pU c;let (xs,ls) ←oY cs;return (x::xs,l++ls)
def Ak:SC→Q (SC×List Nat)
 | .r b=>do
   let some (.row _ sz cid) ←AF b | .fail
   return (.c (.sr sz cid),[b])
 | .p b off=>do
   let some (.var _ cells) ←AF b | .fail
   let (xs,l) ←oY cells
   return (.ref off xs,b::l)
 | .rp ..=>.fail
 | .rs ..=>.fail
 | c=>.ret (c,[])
def Cd:List SC→Q (List SC×List Nat)
 | []=>.ret ([],[])
 | c::cs=>do let (x,l) ←Ak c;let (xs,ls) ←Cd cs;return (x::xs,l++ls)
def RI:SW→Q (SW×List Nat)
 | .one c=>do let (c,l) ←Ak c;return (.one c,l)
 | .agg cs=>do let (cs,l) ←Cd cs;return (.agg cs,l)
def rZ:List Operand→Q (List SW×List Nat)
 | []=>.ret ([],[])
 | x::xs=>do let v ←GV x;let (y,l) ←RI v;let (ys,ls) ←rZ xs;return (y::ys,l++ls)
def IG (place:Nat→Option (Nat×Nat)) (cells:List SC):List (Nat×SW)→Option (List SC)
 | []=>some cells
 | (i,v)::rest=>match place i with
   | none=>none
   | some (off,size)=>
     if v.cells.length≠size || off+v.cells.length>cells.length then none
     else IG place (cells.take off++v.cells++cells.drop (off+v.cells.length)) rest
def GU (P:Program) (T:Nat):Option (List (Nat×Nat)):=
 match P.underlying T with
 | some (.struct fs)=>fs.toList.mapM fun f=>(P.info? f.type).map fun i=>(f.offset,i.size)
 | _=>none
def rH (P:Program) (T:Nat):Option (List Value):=
 match P.info? T with
 | some i=>match i.zero with
   | some z=>if z.cells.toList.all (·.oneCell')&&z.cells.size==i.size then some z.cells.toList else none
   | none=>none
 | none=>none
def iO (P:Program) (T f:Nat):Option (Nat×Nat×Nat):=
 match P.underlying T with
 | some (.struct fs)=>match fs[f]? with
   | some fl=>(P.info? fl.type).map fun i=>(fl.type,fl.offset,i.size)
   | none=>none
 | _=>none
def cM (P:Program) (T:Nat):Option (Nat×Nat×Nat):=
 match P.underlying T with
 | some (.slice e)=>(P.info? e).map fun i=>(e,i.size,i.bytes)
 | _=>none
def aA1 (P:Program) (T:Nat):Option (List (Option Nat)):=
 match P.underlying T with
 | some (.tuple ts)=>ts.toList.mapM (KC P)
 | _=>(KC P T).map fun s=>[s]
def zO (P:Program) (f:Nat):Bool:=
 match P.funcs[f]? with
 | some fn=>fn.name != "runtime.NumGoroutine" && fn.body.isSome
 | none=>false
def kL (ni:Nat) (sh:List (Option Nat)):SV:=
 match sh with
 | [x]=>.w (rG ni x)
 | xs=>.tup (xs.mapIdx fun j x=>rG (ni+j) x)
def put (o:Oper) (v:SV):List (Nat×SV):=
 match o.dst with
 | some d=>[(d,v)]
 | none=>[]
def jR (o:Oper) (v:SV):fM×cY:=(⟨put o v,[],[]⟩, .none)
def wA (P:Program) (o:Oper) (ni:Nat):Q (fM×cY):=do
 let (args,sl) ←rZ o.op.operands.toList
 let sh ←Q.of (KC P o.type)
 return (⟨put o (.w (rG ni sh)),[],sl⟩, .prim args sh)
def Oh (l:List SC) (off n:Nat):Option (List SC):=if off+n≤l.length then some ((l.drop off).take n) else none
def Cx (agg:Bool) (cs:List SC):Option SV:=
 if agg then some (.w (.agg cs)) else match cs with
  | [c]=>some (.w (.one c))
  | _=>none
def al3:CR→SW
 | .c x=>.one (.c x)
 | .ref off cs=>.one (.ref off cs)
def Ix (P:Program) (o:Oper) (ni:Nat) (f:Nat) (args:List Operand) (caps:List CR):Q (fM×cY):=do
 let (as,sl) ←rZ args
 let sh ←Q.of (aA1 P o.type)
 ask (zO P f=true)
 return (⟨put o (kL ni sh),[],sl⟩, .call f (as++caps.map al3) sh)
def SQ:SC→Q (CR×List Nat)
 | .p b 0=>do
   let some (.var _ cells) ←AF b | .fail
   let (xs,l) ←oY cells
   return (.ref 0 xs,b::l)
 | .ref off xs=>.ret (.ref off xs,[])
 | c=>do let (x,l) ←pU c;return (.c x,l)
def Gb:List Operand→Q (List CR×List Nat)
 | []=>.ret ([],[])
 | v::vs=>do let c ←pX v;let (x,l) ←SQ c;let (xs,ls) ←Gb vs;return (x::xs,l++ls)
def isNil:C0→Bool
 | .k (.slice none 0 0)=>true
 | _=>false
def Jj (P:Program) (o:Oper) (ni:Nat) (T:Nat) (x:Operand):Q (fM×cY):=do
 let c ←pX x
 let (ag,n) ←Q.of (jM P T)
 match c with
 | .p b off=>
   let some (.var _ cells) ←AF b | .fail
   let cs ←Q.of (Oh cells off n)
   let v ←Q.of (Cx ag cs)
   return jR o v
 | .ref off cells=>
   ask (0<n)
   let cs ←Q.of (Oh (cells.map .c) off n)
   let v ←Q.of (Cx ag cs)
   return jR o v
 | .rp b sz i off=>
   let (_,_,sz',cid) ←vL b
   ask (sz'=sz∧off+n≤sz)
   return (⟨put o (.w (rG ni (if ag then some n else none))),[],[]⟩, .ldrow cid i off n ag)
 | _=>wA P o ni
def EK (P:Program) (o:Oper) (ni:Nat) (T:Nat) (x y:Operand):Q (fM×cY):=do
 let c ←pX x
 let v ←GV y
 let (_,n) ←Q.of (jM P T)
 match c with
 | .p b off=>
   let some (.var T' cells) ←AF b | .fail
   ask ((←Nr b)=false)
   ask (v.cells.length=n∧off+n≤cells.length)
   return (⟨put o .undef,[(b, .var T' (cells.take off++v.cells++cells.drop (off+n)))],[]⟩, .none)
 | .rp b sz i off=>
   let (pt,E,sz',cid) ←vL b
   ask ((←Nr b)=false)
   let (xs,sl) ←oY v.cells
   ask (sz'=sz∧v.cells.length=n∧off+n≤sz∧sl.contains b=false)
   return (⟨put o .undef,[(b,jC pt E sz' ni)],sl⟩, .strow cid sz i off xs)
 | _=>.fail
def Dm (P:Program) (o:Oper) (nb ni:Nat) (t:List Nat) (x y:Operand):Q (fM×cY):=do
 let (e,sz,by_) ←Q.of (cM P (t.getD 0 0))
 ask (t = [t.getD 0 0,t.getD 0 0]∧0<sz)
 let _ ←Q.of (rH P e)
 let a ←pX x
 let c ←pX y
 let (cid,kill) ←(match a with
  | .r b=>do
    let some (.row e1 s1 cid) ←AF b | .fail
    ask ((←Nr b)=false)
    ask (e1=e∧s1=sz)
    return (some cid,[(b,Bx.dead)])
  | .c y=>do
    ask (isNil y=true)
    return (none,[])
  | _=>.fail)
 let (src,row) ←(match c with
  | .r b=>do
    let some (.row _ s2 cid) ←AF b | .fail
    ask (s2=sz∧kill.all (fun z=>z.1 != b))
    return (none,some cid)
  | .c y=>return (some y,none)
  | _=>.fail)
 rP nb
 return (⟨put o (.w (.one (.r nb))),(nb, .row e sz ni)::kill,[]⟩, .app sz by_ cid src row)
def Nt (P:Program) (o:Oper) (nb:Nat) (T:Nat):Q (fM×cY):=do
 let z ←Q.of (rH P T)
 rP nb
 return (⟨put o (.w (.one (.p nb 0))),[(nb, .var T (z.map fun v=>.c (.k v)))],[]⟩, .none)
def UH (o:Oper) (nb:Nat) (T:Nat) (x:Operand):Q (fM×cY):=do
 let v ←GV x
 rP nb
 return (⟨put o (.w (.one (.p nb 0))),[(nb, .var T v.cells)],[]⟩, .none)
def MB (P:Program) (o:Oper) (ni:Nat) (x:Operand):Q (fM×cY):=do
 let c ←pX x
 match c with
 | .p b off=>return jR o (.w (.one (.p b off)))
 | .ref off cs=>return jR o (.w (.one (.ref off cs)))
 | .gT f cs=>return jR o (.w (.one (.gT f cs)))
 | .rp b sz i off=>return jR o (.w (.one (.rp b sz i off)))
 | _=>wA P o ni
def EO (P:Program) (o:Oper) (T:Nat) (parts:List (Nat×Operand)):Q (fM×cY):=do
 let pl ←Q.of (GU P T)
 let z ←Q.of (rH P T)
 let ps ←Iz parts
 let cs ←Q.of (IG (pl[·]?) (z.map fun v=>.c (.k v)) ps)
 return jR o (.w (.agg cs))
def MQ (P:Program) (o:Oper) (nb ni:Nat) (T len:Nat) (parts:List (Nat×Operand)):Q (fM×cY):=do
 let (e,sz,by_) ←Q.of (cM P T)
 let ps ←Iz parts
 ask (ps.map (·.1)=List.range len∧ps.all (fun p=>p.2.cells.length==sz)=true∧len*sz≤16777216∧0<sz)
 let z ←Q.of (rH P e)
 let (xs,sl) ←oY (ps.flatMap fun p=>p.2.cells)
 rP nb
 return (⟨put o (.w (.one (.r nb))),[(nb, .row e sz ni)],sl⟩, .lit sz ((List.range len).map fun i=>(xs.drop (i*sz)).take sz))
def Ib (P:Program) (o:Oper) (nb ni:Nat) (T:Nat) (l c:Operand):Q (fM×cY):=do
 let (e,sz,by_) ←Q.of (cM P T)
 let SC.c x ←pX l | .fail
 let SC.c y ←pX c | .fail
 let z ←Q.of (rH P e)
 ask (0<sz)
 rP nb
 return (⟨put o (.w (.one (.r nb))),[(nb, .row e sz ni)],[]⟩, .make z by_ x y)
def uL (P:Program) (o:Oper) (ni:Nat) (T:Nat) (x:Operand) (f:Nat):Q (fM×cY):=do
 let c ←pX x
 match c with
 | .p b off=>
   let (_,fo,fs) ←Q.of (iO P T f)
   ask (0<fs)
   return jR o (.w (.one (.p b (off+fo))))
 | .ref off cs=>
   let (_,fo,fs) ←Q.of (iO P T f)
   ask (0<fs)
   return jR o (.w (.one (.ref (off+fo) cs)))
 | .rp b sz i off=>
   let (_,fo,fs) ←Q.of (iO P T f)
   ask (0<fs)
   return jR o (.w (.one (.rp b sz i (off+fo))))
 | _=>wA P o ni
def FD (P:Program) (o:Oper) (T:Nat) (x:Operand) (f:Nat):Q (fM×cY):=do
 let SW.agg cs ←GV x | .fail
 let (ft,fo,_) ←Q.of (iO P T f)
 let (ag,n) ←Q.of (jM P ft)
 let cs ←Q.of (Oh cs fo n)
 let v ←Q.of (Cx ag cs)
 return jR o v
def Ad (o:Oper) (x:Operand) (i:Nat):Q (fM×cY):=do
 let SV.tup vs ←Ed x | .fail
 let v ←Q.of vs[i]?
 return jR o (.w v)
def Jq (o:Oper) (f:Nat) (first caps:Array Operand):Q (fM×cY):=do
 ask (first.isEmpty=true)
 let (cs,sl) ←Gb caps.toList
 return (⟨put o (.w (.one (.gT f cs))),[],sl⟩, .none)
def Fx (P:Program) (o:Oper) (ni:Nat) (T:Nat) (x i:Operand):Q (fM×cY):=do
 let c ←pX x
 match c with
 | .r b=>
   let SC.c y ←pX i | .fail
   let (_,_,sz,cid) ←vL b
   let (e',sz',_) ←Q.of (cM P T)
   ask (sz'=sz)
   return (⟨put o (.w (.one (.rp b sz y 0))),[],[]⟩, .idx cid y)
 | _=>wA P o ni
def EM (P:Program) (o:Oper) (ni:Nat) (x:Operand) (args:List Operand):Q (fM×cY):=do
 let g ←pX x
 match g with
 | .gT f caps=>Ix P o ni f args caps
 | .c y=>
   let (as,sl) ←rZ args
   let sh ←Q.of (aA1 P o.type)
   return (⟨put o (kL ni sh),[],sl⟩, .callv y as sh)
 | _=>.fail
def Hb (P:Program) (o:Oper) (ni:Nat) (args:List Operand) (ts:List Nat):Q (fM×cY):=
 match args,ts with
 | [x],T::_=>do
   let v ←pX x
   match v with
   | .r b=>
     let (_,_,_,cid) ←vL b
     let _ ←Q.of (cM P T)
     return (⟨put o (.w (rG ni none)),[],[]⟩, .lenrow cid)
   | _=>wA P o ni
 | _,_=>.fail
def lD:Code→List Oper
 | .region _ ops _=>ops.toList
 | .seq a b=>lD a++lD b
 | .cond _ a b=>lD a++lD b
 | .block _ a=>lD a
 | .scope a=>lD a
 | .loop a=>lD a
 | _=>[]
def rootOf (ops:List Oper):Nat→Nat→Nat×Nat
 | 0,t=>(t,0)
 | n+1,t=>match ops.find? (fun o=>o.dst==some t) with
   | some o=>match o.op with
     | .fieldAddr _ (.tmp x) _=>rootOf ops n x
     | .nilCheck (.tmp x)=>rootOf ops n x
     | .move (.tmp x)=>rootOf ops n x
     | _=>(t,0)
   | none=>(t,0)
def AY (ops:List Oper):Nat→Nat→Nat
 | 0,t=>t
 | n+1,t=>match ops.find? (fun o=>o.dst==some t) with
   | some o=>match o.op with
     | .move (.tmp x)=>AY ops n x
     | _=>t
   | none=>t
def stored (ops:List Oper):List Nat:=ops.filterMap fun o=>match o.op with
 | .store _ (.tmp x) _=>some (rootOf ops 6 x).1
 | _=>none
def CT (ops:List Oper):List Nat:=(stored ops).filterMap fun x=>match ops.find? (fun o=>o.dst==some x) with
 | some o=>match o.op with
   | .indexAddr _ (.tmp y) _=>some (AY ops 6 y)
   | _=>none
 | none=>none
def Qz (P:Program) (f:Nat):Option Nat:=
 match P.funcs[f]? with
 | some fn=>match fn.body with
   | some c=>(CT (lD c)).find? fun t=>t<fn.params.size
   | none=>none
 | none=>none
def rsz (c:SC) (sz:Nat):Bool:=match c with | .rs _ s0 _ _=>s0==sz | _=>true
def wM (P:Program) (o:Oper) (ni:Nat) (pre:List Operand) (x:Operand) (post:List Operand):Q (fM×cY):=do
 let (as,sl1) ←rZ pre
 let c ←pX x
 let (bs,sl2) ←rZ post
 let (b,view) ←(match c with
  | .r b=>return (b,none)
  | .rs b _ lo hi=>return (b,some (lo,hi))
  | _=>.fail:Q (Nat×Option (C0×C0)))
 let (pt,E,sz,cid) ←vL b
 ask (rsz c sz=true)
 ask ((←Nr b)=false)
 ask ((sl1++sl2).contains b=false)
 let sh ←Q.of (aA1 P o.type)
 return (⟨put o (kL ni sh),[(b,jC pt E sz (ni+sh.length))],sl1++sl2⟩, .rop cid E sz view as bs sh)
def Fi (P:Program) (o:Oper) (ni:Nat) (T:Nat) (x:Operand) (lo hi mx:Option Operand):Q (fM×cY):=do
 let c ←pX x
 match c,lo,hi,mx with
 | .r b,some l,some h,some m=>do
   let (_,_,sz,cid) ←vL b
   let (_,sz',_) ←Q.of (cM P T)
   ask (sz'=sz)
   let SC.c l ←pX l | .fail
   let SC.c h ←pX h | .fail
   let SC.c m ←pX m | .fail
   return (⟨put o (.w (.one (.rs b sz l h))),[],[]⟩, .view cid l h m)
 | _,_,_,_=>wA P o ni
def step (P:Program) (o:Oper) (nb ni:Nat):Q (fM×cY):=
 match o.op with
 | .move x | .assign x=>do let v ←Ed x;return jR o v
 | .alloc T=>Nt P o nb T
 | .box T x=>UH o nb T x
 | .load T x=>Jj P o ni T x
 | .store T x y=>EK P o ni T x y
 | .nilCheck x=>MB P o ni x
 | .build T parts=>EO P o T parts.toList
 | .buildSlice T len parts=>MQ P o nb ni T len parts.toList
 | .makeSlice T l c=>Ib P o nb ni T l c
 | .fieldAddr T x f=>uL P o ni T x f
 | .field T x f=>FD P o T x f
 | .extract x i=>Ad o x i
 | .makeFunc (.func f) first caps=>Jq o f first caps
 | .indexAddr T x i=>Fx P o ni T x i
 | .call c=>match c.callee with
   | .value (.func f)=>match Qz P f with
     | some j=>match c.args.toList[j]? with
       | some x=>do
         ask (zO P f=true)
         wM P o ni (c.args.toList.take j) x (c.args.toList.drop (j+1))
       | none=>.fail
     | none=>Ix P o ni f c.args.toList []
   | .value x=>EM P o ni x c.args.toList
   | .builtin .len=>Hb P o ni c.args.toList c.argTypes.toList
   | .builtin .copy=>match c.args.toList with
     | [x,y]=>wM P o ni [] x [y]
     | _=>.fail
   | .builtin .append=>match c.args.toList with
     | [x,y]=>Dm P o nb ni c.argTypes.toList x y
     | _=>.fail
   | .builtin _=>wA P o ni
   | .invoke _ _=>.fail
 | .slice T x lo hi mx=>Fi P o ni T x lo hi mx
 | .binOp .. | .unOp .. | .convert .. | .index .. | .makeInterface ..=>wA P o ni
 | _=>.fail
inductive LV where
 | w (x:SW)
 | row (cid:Nat)
 | nilrow
inductive Tr where
 | fail (why:Nat)
 | need (nd:cY) (op:Op) (ty:Nat) (last:Bool) (k:Tr)
 | split (c:C0) (kt kf:Tr)
 | ret (vs:List SW)
 | retr (vs:List SW) (cid:Nat)
 | pan (x:C0)
 | loop (d:Nat) (inits:List LV) (k:Tr)
 | back (d:Nat) (cJ:List LV)
def C0.ok (n:Nat):C0→Bool
 | .u i _=>decide (i<n)
 | .k _=>true
 | .sr _ cid=>decide (cid<n)
def CR.ok (n:Nat):CR→Bool
 | .c x=>x.ok n
 | .ref _ cs=>cs.all (C0.ok n)
def SC.ok (n:Nat):SC→Bool
 | .c x=>x.ok n
 | .ref _ cs=>cs.all (C0.ok n)
 | .gT _ cs=>cs.all (CR.ok n)
 | _=>true
def SW.ok (n:Nat):SW→Bool
 | .one c=>c.ok n
 | .agg cs=>cs.all (SC.ok n)
def cY.ok (n:Nat):cY→Bool
 | .none=>true
 | .prim args _=>args.all (SW.ok n)
 | .call _ args _=>args.all (SW.ok n)
 | .callv c args _=>c.ok n&&args.all (SW.ok n)
 | .lit _ tss=>tss.all fun t=>t.all (C0.ok n)
 | .make _ _ l c=>l.ok n&&c.ok n
 | .app _ _ cid src row=>(cid.all fun c=>decide (c<n))&&(src.all fun c=>c.ok n)&&(row.all fun c=>decide (c<n))
 | .idx cid i=>decide (cid<n)&&i.ok n
 | .ldrow cid i _ _ _=>decide (cid<n)&&i.ok n
 | .strow cid _ i _ cs=>decide (cid<n)&&i.ok n&&cs.all (C0.ok n)
 | .lenrow cid=>decide (cid<n)
 | .rop cid _ _ v as bs _=>decide (cid<n)&&(v.all fun x=>x.1.ok n&&x.2.ok n)&&as.all (SW.ok n)&&bs.all (SW.ok n)
 | .view cid l h m=>decide (cid<n)&&l.ok n&&h.ok n&&m.ok n
structure Rec where
 after:List Nat
 tch:List Loc
 wr:List Loc
def fM.wr (e:fM):List Loc:=e.tm.map (fun x=>.t x.1)++e.bx.map (fun x=>.b x.1)++e.sl.map .s
def bef (l:List Rec):Nat→Rec→Nat→Bool
 | 0,y,i=>y.after.contains i
 | n+1,y,i=>y.after.contains i || y.after.any fun k=>match l[k]? with | some x=>bef l n x i | none=>false
def ordered (recs:List Rec):Bool:=
 let l:=recs.reverse
 (l.zipIdx).all fun (x,i)=>(x.after.all fun j=>j<i)&&(l.zipIdx).all fun (y,j)=>
  i==j || !(x.wr.any fun a=>y.tch.contains a || y.wr.contains a) || (if i<j then bef l 3 y i else bef l 3 x j)
def cF (o:Oper):List Nat:=(o.after.toList.filter fun e=>Region.binds .any e).map (·.on)
def known (dec:List (Nat×Nat×Bool)):C0→Option Bool
 | .k (.bool b)=>some b
 | .u i j=>(dec.find? fun x=>x.1==i&&x.2.1==j).map (·.2.2)
 | _=>none
def MR (dec:List (Nat×Nat×Bool)) (β:Bool):C0→List (Nat×Nat×Bool)
 | .u i j=>(i,j,β)::dec
 | _=>dec
def parts (dec:List (Nat×Nat×Bool)) (c:C0) (k:Bool→List (Nat×Nat×Bool)→Tr):Tr:=
 match known dec c with
 | some β=>k β dec
 | none=>.split c (k true (MR dec true c)) (k false (MR dec false c))
def cH (N:Nat) (o:Oper):Bool:=
 match o.dst with
 | some d=>decide (d<N)
 | none=>true
def BT (o:Oper) (last:Bool) (k:Tr):cY→Tr
 | .none=>k
 | nd=>.need nd o.op o.type last k
def sH (P:Program) (N i:Nat) (rest:List Oper) (recs:List Rec):Bool:=
 (rest.all fun o=>(cF o).contains i || (match o.op with | .alloc T=>o.guard.isNone&&(rH P T).isSome&&cH N o | _=>false))
 && ordered ((rest.map fun o=>⟨cF o,[],if (cF o).contains i then [] else o.dst.toList.map .t⟩).reverse++recs)
def fK (o:Oper):Bool:=
 match o.op with
 | .call c=>(match c.callee with | .value _=>true | _=>false)
 | _=>false
def lP (s:St) (t:Nat):Option C0:=
 match s.t t with
 | .w (.one (.c c))=>some c
 | _=>none
def jE (P:Program) (N:Nat) (ops:Array Oper):List Oper→Nat→Nat→Nat→St→List (Nat×Nat×Bool)→List Rec →
    (Nat→Nat→St→List (Nat×Nat×Bool)→List Rec→Tr)→Tr
 | [],_,nb,ni,s,dec,recs,k=>k nb ni s dec recs
 | o::rest,i,nb,ni,s,dec,recs,k=>
   let skip:List Loc→List (Nat×Nat×Bool)→Tr:=fun l dec=>
    if cH N o then jE P N ops rest (i+1) nb ni (s.app ⟨put o .undef,[],[]⟩) dec (⟨cF o,l,(put o .undef).map fun x=>.t x.1⟩::recs) k else .fail i
   let go:List Loc→List (Nat×Nat×Bool)→Q (fM×cY)→Tr:=fun l dec q=>
    match q.run s with
    | none=>.fail i
    | some (e,nd)=>if cH N o&&nd.ok ni then
      let recs:=⟨cF o,l++q.log s,e.wr⟩::recs
      BT o (fK o&&sH P N i rest recs) (jE P N ops rest (i+1) (nb+1) (ni+nd.ids) (s.app e) dec recs k) nd else .fail i
   let run:List Loc→List (Nat×Nat×Bool)→Tr:=fun l dec=>
    match o.op with
    | .pick (.tmp t) x y=>match lP s t with
      | some c=>parts dec c fun β dec=>go (.t t::l) dec (do let v ←Ed (if β then x else y);return jR o v)
      | none=>.fail i
    | .panic x=>match (Ed x).run s with
      | some (.w (.one (.c c)))=>if sH P N i rest (⟨cF o,(Ed x).log s,[]⟩::recs)&&o.guard.isNone then .pan c else .fail i
      | _=>.fail i
    | _=>go l dec (step P o nb ni)
   match o.guard with
   | none=>run [] dec
   | some (j,want)=>match (ops[j]?).bind (·.dst) with
     | none=>.fail i
     | some d=>match s.t d with
       | .undef=>skip [.t d] dec
       | _=>match lP s d with
         | some c=>parts dec c fun β dec=>if β=want then run [.t d] dec else skip [.t d] dec
         | none=>.fail i
inductive Ex where
 | normal | exit (id:Nat) | ret
structure Hint where
 tms:List Nat
 rws:List (Nat×Nat)
 rbs:List Nat
 bxs:List (Nat×List (Nat×Nat))
def lZ:Code→Nat
 | .seq a b=>lZ a+lZ b
 | .cond _ a b=>lZ a+lZ b
 | .block _ a=>lZ a
 | .scope a=>lZ a
 | .loop a=>lZ a+1
 | _=>0
def DY:Code→List Nat
 | .region _ ops _=>ops.toList.filterMap (·.dst)
 | .seq a b=>DY a++DY b
 | .cond _ a b=>DY a++DY b
 | .block _ a=>DY a
 | .scope a=>DY a
 | .loop a=>DY a
 | _=>[]
def TG:Value→Value→Bool
 | .int k n, .int k' n'=>k==k'&&n==n'
 | .bool a, .bool b=>a==b
 | .slice none 0 0, .slice none 0 0=>true
 | .nilIface, .nilIface=>true
 | .pointer none, .pointer none=>true
 | .string a, .string b=>a.data==b.data
 | _,_=>false
def C0.same:C0→C0→Bool
 | .u i j, .u i' j'=>i==i'&&j==j'
 | .k v, .k v'=>TG v v'
 | .sr a b, .sr a' b'=>a==a'&&b==b'
 | _,_=>false
def jJ {α:Type} (f:α→α→Bool):List α→List α→Bool
 | [],[]=>true
 | x::xs,y::ys=>f x y&&jJ f xs ys
 | _,_=>false
def CR.same:CR→CR→Bool
 | .c x, .c y=>x.same y
 | .ref i x, .ref j y=>i==j&&jJ C0.same x y
 | _,_=>false
def SC.same:SC→SC→Bool
 | .c x, .c y=>x.same y
 | .ref i x, .ref j y=>i==j&&jJ C0.same x y
 | .gT f x, .gT g y=>f==g&&jJ CR.same x y
 | .p i j, .p i' j'=>i==i'&&j==j'
 | .r i, .r j=>i==j
 | .rp i j x k, .rp i' j' x' k'=>i==i'&&j==j'&&x.same x'&&k==k'
 | .rs i j x k, .rs i' j' x' k'=>i==i'&&j==j'&&x.same x'&&k.same k'
 | _,_=>false
def SW.same:SW→SW→Bool
 | .one x, .one y=>x.same y
 | .agg x, .agg y=>jJ SC.same x y
 | _,_=>false
def SV.same:SV→SV→Bool
 | .junk, .junk=>true
 | .undef, .undef=>true
 | .w x, .w y=>x.same y
 | .tup x, .tup y=>jJ SW.same x y
 | _,_=>false
def Bx.same:Bx→Bx→Bool
 | .var T x, .var U y=>T==U&&jJ SC.same x y
 | .row i j k, .row i' j' k'=>i==i'&&j==j'&&k==k'
 | .part i j k, .part i' j' k'=>i==i'&&j==j'&&k==k'
 | .dead, .dead=>true
 | _,_=>false
def shW:SW→Option Nat
 | .one _=>none
 | .agg cs=>some cs.length
structure sL where
 lv:LV
 E:Nat
 sz:Nat
 old:Option Nat
def YK (P:Program) (s:St) (T:Nat):SC→Option sL
 | .r b=>match s.b b,cM P T with
   | some (.row E sz cid),some (E',sz',_)=>if s.s b=false∧E'=E∧sz'=sz then some ⟨.row cid,E,sz,some b⟩ else none
   | _,_=>none
 | .c (.k (.slice none 0 0))=>(cM P T).map fun (E,sz,_)=>⟨.nilrow,E,sz,none⟩
 | _=>none
def Lt:SC→Bool
 | .c _=>true
 | _=>false
def ap6 (s:St):List Nat→Option (List LV)
 | []=>some []
 | t::ts=>match s.t t,ap6 s ts with
   | .w x,some l=>if x.cells.all Lt then some (.w x::l) else none
   | _,_=>none
def aB2 (P:Program) (s:St):List (Nat×Nat)→Option (List sL)
 | []=>some []
 | (t,T)::ts=>match s.t t,aB2 P s ts with
   | .w (.one c),some l=>(YK P s T c).map fun x=>x::l
   | _,_=>none
def PK:SV→Option Nat
 | .w (.one (.r b))=>some b
 | .w (.one (.rs b _ _ _))=>some b
 | _=>none
def as5 (s:St):List Nat→Option (List (Nat×Bool×Nat×Nat×Nat))
 | []=>some []
 | t::ts=>match PK (s.t t),as5 s ts with
   | some b,some l=>match s.b b with
     | some (.row E sz cid)=>if s.s b then none else some ((b,false,E,sz,cid)::l)
     | some (.part E sz cid)=>if s.s b then none else some ((b,true,E,sz,cid)::l)
     | _=>none
   | _,_=>none
def aU7 (P:Program) (s:St) (rws:List (Nat×Nat)):Nat→List SC→Option (List (Sum sL SC))
 | _,[]=>some []
 | j,c::cs=>match aU7 P s rws (j+1) cs with
   | none=>none
   | some l=>match look rws j with
     | some T=>(YK P s T c).map fun x=>.inl x::l
     | none=>if Lt c then some (.inr c::l) else none
def aq0 (P:Program) (s:St):List (Nat×List (Nat×Nat))→Option (List (Nat×Nat×List (Sum sL SC)))
 | []=>some []
 | (t,rws)::ts=>match s.t t,aq0 P s ts with
   | .w (.one (.p b 0)),some l=>match s.b b with
     | some (.var T cells)=>if s.s b then none else (aU7 P s rws 0 cells).map fun x=>(b,T,x)::l
     | _=>none
   | _,_=>none
structure Head where
 s:St
 nb:Nat
 ni:Nat
 inits:List LV
 F:List (Nat×Option Nat)
def Head.bx (h:Head) (b:Nat) (x:Bx):Head:={ h with s:=h.s.app ⟨[],[(b,x)],[]⟩ }
def Head.tm (h:Head) (t:Nat) (x:SV):Head:={ h with s:=h.s.app ⟨[(t,x)],[],[]⟩ }
def Head.kill (h:Head):Option Nat→Head
 | some b=>h.bx b .dead
 | none=>h
def Head.new (h:Head) (l:LV):Head:={ h with ni:=h.ni+1,inits:=h.inits ++ [l] }
def inT (h:Head):List Nat→List LV→Head
 | t::ts, .w x::ls=>inT ((h.tm t (.w (rG h.ni (shW x)))).new (.w x)) ts ls
 | _,_=>h
def Head.row (h:Head) (x:sL):Head:=
 { ((h.kill x.old).bx h.nb (.row x.E x.sz h.ni)).new x.lv with nb:=h.nb+1,F:=(h.nb,x.old)::h.F }
def inR (h:Head):List (Nat×Nat)→List sL→Head
 | (t,_)::ts,x::ls=>inR ((h.row x).tm t (.w (.one (.r h.nb)))) ts ls
 | _,_=>h
def inP (h:Head):List (Nat×Bool×Nat×Nat×Nat)→Head
 | (b,pt,E,sz,cid)::ls=>inP ((h.bx b (jC pt E sz h.ni)).new (.row cid)) ls
 | []=>h
def inC (h:Head):List (Sum sL SC)→Head×List SC
 | []=>(h,[])
 | .inl x::ls=>let (h',cs):=inC (h.row x) ls;(h', .r h.nb::cs)
 | .inr c::ls=>let (h',cs):=inC (h.new (.w (.one c))) ls;(h', .c (.u h.ni 0)::cs)
def inB (h:Head):List (Nat×Nat×List (Sum sL SC))→Head
 | []=>h
 | (b,T,ls)::xs=>let (h',cs):=inC h ls;inB (h'.bx b (.var T cs)) xs
def mp (F:List (Nat×Option Nat)) (b:Nat):Option Nat:=
 match look F b with
 | some x=>x
 | none=>some b
def BA (ni:Nat) (cJ:List LV) (F:List (Nat×Option Nat)) (hs:St) (x y:SC):Bool:=
 match x,y with
 | .c (.u i j), .c z=>if i<ni then z.same (.u i j) else match cJ[i-ni]? with
   | some (.w v)=>match v with
     | .one (.c z')=>j==0&&z'.same z
     | .agg cs=>match cs[j]? with
       | some (.c z')=>z'.same z
       | _=>false
     | _=>false
   | _=>false
 | .r b, .r b'=>(hs.b b).isSome&&(match mp F b with | some b''=>b''==b' | none=>false)
 | .r b, .c z=>(hs.b b).isSome&&isNil z&&(mp F b).isNone
 | .p b off, .p b' off'=>(hs.b b).isSome&&(match mp F b with | some b''=>b''==b' | none=>false)&&off==off'
 | .rp b sz i off, .rp b' sz' i' off'=>(hs.b b).isSome&&(match mp F b with | some b''=>b''==b' | none=>false)&&sz==sz'&&off==off'&&i.same i'&&i.ok ni
 | .rs b sz l h, .rs b' sz' l' h'=>(hs.b b).isSome&&(match mp F b with | some b''=>b''==b' | none=>false)&&sz==sz'&&l.same l'&&l.ok ni&&h.same h'&&h.ok ni
 | x,y=>(match x with | .p .. | .r .. | .rp .. | .rs ..=>false | _=>true)&&x.same y&&x.ok ni
def FO {α β:Type} (f:α→β→Bool):List α→List β→Bool
 | [],[]=>true
 | x::xs,y::ys=>f x y&&FO f xs ys
 | _,_=>false
def FI (ni:Nat) (cJ:List LV) (F:List (Nat×Option Nat)) (hs:St):SW→SW→Bool
 | .one x, .one y=>BA ni cJ F hs x y
 | .agg xs, .agg ys=>FO (BA ni cJ F hs) xs ys
 | _,_=>false
def SN (ni:Nat) (cJ:List LV) (F:List (Nat×Option Nat)) (hs:St):SV→SV→Bool
 | .junk,_=>true
 | .undef, .undef=>true
 | .w x, .w y=>FI ni cJ F hs x y
 | .tup xs, .tup ys=>FO (FI ni cJ F hs) xs ys
 | _,_=>false
def zY (ni:Nat) (cJ:List LV) (F:List (Nat×Option Nat)) (hs s:St) (b:Nat):Bool:=
 match hs.b b with
 | some (.var T cs)=>match mp F b with
   | some b'=>(hs.s b || !s.s b')&&(match s.b b' with | some (.var T' cs')=>T==T'&&FO (BA ni cJ F hs) cs cs' | _=>false)
   | none=>false
 | some (.row E sz cid)=>match mp F b with
   | some b'=>(hs.s b || !s.s b')&&(match s.b b' with
     | some (.row E' sz' cid')=>E==E'&&sz==sz'&&(if cid<ni then cid'==cid else match cJ[cid-ni]? with | some (.row c)=>c==cid' | _=>false)
     | _=>false)
   | none=>match cJ[cid-ni]? with | some .nilrow=>decide (ni≤cid) | _=>false
 | some (.part E sz cid)=>match mp F b with
   | some b'=>(hs.s b || !s.s b')&&(match s.b b' with
     | some (.part E' sz' cid')=>E==E'&&sz==sz'&&(if cid<ni then cid'==cid else match cJ[cid-ni]? with | some (.row c)=>c==cid' | _=>false)
     | _=>false)
   | none=>false
 | _=>true
def fits (ni:Nat) (cJ:List LV) (F:List (Nat×Option Nat)) (hs s:St):Bool:=
 hs.tm.all (fun x=>SN ni cJ F hs (hs.t x.1) (s.t x.1))&&hs.bx.all (fun x=>zY ni cJ F hs s x.1)
 && hs.bx.all (fun x=>hs.bx.all fun y=>x.1==y.1 || (match hs.b x.1,hs.b y.1,mp F x.1,mp F y.1 with
  | some .dead,_,_,_ | _,some .dead,_,_ | _,_,none,_ | _,_,_,none=>true
  | _,_,some b,some b'=>b != b'))
def GR {α:Type} (seen:List Nat):List (Nat×α)→List (Nat×α)
 | []=>[]
 | (n,x)::l=>if seen.contains n then GR seen l else (n,x)::GR (n::seen) l
def St.tidy (s:St):St:=
 ⟨(GR [] s.tm).filter fun x=>match x.2 with | .junk=>false | _=>true,(GR [] s.bx),s.sl⟩
def head (P:Program) (hint:Hint) (ds:List Nat) (s:St) (nb ni:Nat):Option Head:=
 match ap6 s hint.tms,aB2 P s hint.rws,as5 s hint.rbs,aq0 P s hint.bxs with
 | some a,some b,some p,some c=>
   let h:=inB (inP (inR (inT ⟨s.app ⟨ds.map fun d=>(d, .junk),[],[]⟩,nb,ni,[],[]⟩ hint.tms a) hint.rws b) p) c
   let h:={ h with s:=h.s.tidy }
   if fits ni h.inits h.F h.s s&&decide (h.ni=ni+h.inits.length) then some h else none
 | _,_,_,_=>none
def aI0:Sum sL SC→LV
 | .inl x=>x.lv
 | .inr c=>.w (.one c)
def TP:List SC→List (Sum sL SC)→List (Nat×Option Nat)
 | .r b::cs, .inl x::xs=>(b,x.old)::TP cs xs
 | _::cs,_::xs=>TP cs xs
 | _,_=>[]
def TA (h:Head):List (Nat×Nat)→List sL→List (Nat×Option Nat)
 | (t,_)::ts,x::xs=>match h.s.t t with
   | .w (.one (.r b))=>(b,x.old)::TA h ts xs
   | _=>TA h ts xs
 | _,_=>[]
def Pg (P:Program) (hint:Hint) (ni:Nat) (h:Head) (s:St):Option (List LV):=
 match ap6 s hint.tms,aB2 P s hint.rws,as5 s hint.rbs,aq0 P s hint.bxs with
 | some a,some b,some p,some c=>
   let cJ:=a++b.map (·.lv)++p.map (fun x=>.row x.2.2.2.2)++c.flatMap (fun x=>x.2.2.map aI0)
   let F:=TA h hint.rws b++c.flatMap (fun x=>match h.s.b x.1 with | some (.var _ cs)=>TP cs x.2.2 | _=>[])
   if fits ni cJ F h.s s then some cJ else none
 | _,_,_,_=>none
def Mk (ops:List Oper):List (Nat×Nat×Nat):=ops.filterMap fun o=>match o.op,o.dst with
 | .call c,some d=>match c.callee,c.args.toList with
   | .builtin .append, .tmp x::_=>some (d,c.argTypes.toList.getD 0 0,x)
   | _,_=>none
 | _,_=>none
def Yj (P:Program) (ops:List Oper) (E:Nat):Option Nat:=
 (Mk ops).findSome? fun (_,T,_)=>match cM P T with | some (e,_,_)=>if e==E then some T else none | none=>none
def vB:List Nat→List Nat
 | []=>[]
 | x::xs=>let r:=vB xs;if r.contains x then r else x::r
def auto (P:Program) (N:Nat) (body:Code) (s:St):Hint:=
 let ops:=lD body
 let ds:=vB (DY body)
 let ap:=Mk ops
 let rws:=ds.filterMap fun t=>
  match ops.findSome? (fun o=>if o.dst==some t then (match o.op with | .assign (.tmp x) | .move (.tmp x)=>(ap.find? fun a=>a.1==x) | _=>none) else none) with
  | some (_,T,_)=>match s.t t with
    | .w (.one (.r _))=>some (t,T)
    | .w (.one (.c (.k (.slice none 0 0))))=>some (t,T)
    | _=>none
  | none=>none
 let tms:=ds.filter fun t=>!rws.any (fun x=>x.1==t)&&(match s.t t with | .w x=>x.cells.all Lt | _=>false)
 let sr:=CT ops++ops.filterMap fun o=>match o.op with
  | .slice _ (.tmp y) _ _ (some _)=>some (AY ops 6 y)
  | .call c=>match c.callee with
    | .value (.func f)=>match Qz P f with
      | some j=>match c.args.toList[j]? with
        | some (.tmp y)=>some (AY ops 6 y)
        | _=>none
      | none=>none
    | _=>none
  | _=>none
 let rbs:=(vB sr).filter fun t=>!ds.contains t&&(match PK (s.t t) with | some b=>!s.s b | _=>false)
 let st:=stored ops
 let bxs:=(List.range N).filterMap fun t=>if st.contains t && !ds.contains t then
     match s.t t with
     | .w (.one (.p b 0))=>match s.b b with
       | some (.var _ cells)=>if s.s b then none else some (t,(cells.zipIdx).filterMap fun (c,j)=>match c with
         | .r b'=>match s.b b' with
           | some (.row E _ _)=>(Yj P ops E).map fun T=>(j,T)
           | _=>none
         | .c (.k (.slice none 0 0))=>(ap.findSome? fun (_,T,x)=>match ops.find? (fun o=>o.dst==some x) with
           | some o=>match o.op with
             | .load _ (.tmp y)=>match ops.find? (fun o=>o.dst==some y) with
               | some o'=>match o'.op with
                 | .fieldAddr S (.tmp z) f=>match iO P S f with
                   | some (_,off,_)=>if off==j&&(rootOf ops 6 z).1==t then some T else none
                   | none=>none
                 | _=>none
               | none=>none
             | _=>none
           | none=>none).map fun T=>(j,T)
         | _=>none)
       | _=>none
     | _=>none
  else none
 ⟨tms,rws,rbs,bxs⟩
abbrev CI:=List (Nat×Nat×Bool)
def YW (P:Program) (hint:Hint) (ni:Nat) (h:Head) (d:Nat) (k:Ex→Nat→Nat→St→CI→Tr):Ex→Nat→Nat→St→CI→Tr
 | .normal,_,_,s,_=>match Pg P hint ni h s with
   | some vs=>.back d vs
   | none=>.fail 1003
 | .exit id,nb,ni,s,dec=>k (.exit id) nb ni s dec
 | .ret,nb,ni,s,dec=>k .ret nb ni s dec
def exec (P:Program) (N:Nat) (hints:Nat→Option Hint):Code→Nat→Nat→Nat→Nat→St→CI→(Ex→Nat→Nat→St→CI→Tr)→Tr
 | .skip,_,_,nb,ni,s,dec,k=>k .normal nb ni s dec
 | .region _ ops _,_,_,nb,ni,s,dec,k=>jE P N ops ops.toList 0 nb ni s dec [] fun nb ni s dec recs=>if ordered recs then k .normal nb ni s dec else .fail 1000
 | .seq a b,l,d,nb,ni,s,dec,k=>exec P N hints a l d nb ni s dec fun e nb ni s dec=>match e with
   | .normal=>exec P N hints b (l+lZ a) d nb ni s dec k
   | e=>k e nb ni s dec
 | .cond c a b,l,d,nb,ni,s,dec,k=>match (Ed c).run s with
   | some (.w (.one (.c x)))=>parts dec x fun β dec=>if β then exec P N hints a l d nb ni s dec k else exec P N hints b (l+lZ a) d nb ni s dec k
   | _=>.fail 1001
 | .block id a,l,d,nb,ni,s,dec,k=>exec P N hints a l d nb ni s dec fun e nb ni s dec=>match e with
   | .exit id'=>if id'=id then k .normal nb ni s dec else k (.exit id') nb ni s dec
   | e=>k e nb ni s dec
 | .loop a,l,d,nb,ni,s,dec,k=>
   match head P ((hints l).getD (auto P N a s)) (DY a) s nb ni with
   | none=>.fail 1002
   | some h=>.loop d h.inits (exec P N hints a (l+1) (d+1) h.nb h.ni h.s dec (YW P ((hints l).getD (auto P N a s)) ni h d k))
 | .exit id,_,_,nb,ni,s,dec,k=>k (.exit id) nb ni s dec
 | .ret,_,_,nb,ni,s,dec,k=>k .ret nb ni s dec
 | .scope _,_,_,_,_,_,_,_=>.fail 1004
 | _,_,_,_,_,_,_,_=>.fail 1005
def zE (P:Program) (s:St):List ResultVar→Q (List SW×List Nat)
 | []=>.ret ([],[])
 | .tmp t::rs=>do let v ←GV (.tmp t);let (y,l) ←RI v;let (ys,ls) ←zE P s rs;return (y::ys,l++ls)
 | .cell t T::rs=>do
   let .p b off ←pX (.tmp t) | .fail
   let some (.var _ cells) ←AF b | .fail
   let (ag,n) ←Q.of (jM P T)
   let cs ←Q.of (Oh cells off n)
   let (cs,l) ←Cd cs
   let (ys,ls) ←zE P s rs
   let v ←(if ag then .ret (SW.agg cs) else match cs with | [c]=>.ret (.one c) | _=>.fail)
   return (v::ys,l++ls)
inductive Arg where
 | v (sh:Option Nat)
 | ref (n:Nat)
 | lent (E sz:Nat)
def dA (i:Nat):Arg→SV
 | .v sh=>.w (rG i sh)
 | .ref n=>.w (.one (.ref 0 ((List.range n).map fun j=>.u i j)))
 | .lent _ _=>.w (.one (.r 0))
def aN (P:Program) (fn:Func) (hints:Nat→Option Hint) (args:List Arg):Tr:=
 match fn.body with
 | none=>.fail 1006
 | some c=>
   if args.length≤fn.ntmps then
   exec P fn.ntmps hints c 0 0 0 args.length ⟨args.mapIdx fun i a=>(i,dA i a),[],[]⟩ [] fun e nb ni s _=>match e with
    | .exit _=>.fail 1007
    | _=>match (zE P s fn.results.toList).run s with
      | some (vs,_)=>.ret vs
      | none=>.fail 1008
   else .fail 1009
def KH (i:Nat):List Arg→Option (Nat×Nat×Nat)
 | []=>none
 | .lent E sz::_=>some (i,E,sz)
 | _::l=>KH (i+1) l
def Ji (s:St) (E sz:Nat) (vs:List SW) (l:List Nat):Tr:=
 match s.b 0 with
 | some (.part E' sz' cid)=>if E'=E∧sz'=sz∧s.s 0=false∧l.contains 0=false then .retr vs cid else .fail 1010
 | _=>.fail 1010
def HF (P:Program) (fn:Func) (hints:Nat→Option Hint) (args:List Arg):Tr:=
 match fn.body,KH 0 args with
 | some c,some (i,E,sz)=>
   if args.length≤fn.ntmps then
   exec P fn.ntmps hints c 0 0 1 args.length ⟨args.mapIdx fun i a=>(i,dA i a),[(0, .part E sz i)],[]⟩ [] fun e nb ni s _=>match e with
    | .exit _=>.fail 1007
    | _=>match (zE P s fn.results.toList).run s with
      | some (vs,l)=>Ji s E sz vs l
      | none=>.fail 1008
   else .fail 1009
 | _,_=>.fail 1006
open Go.RowKit (Below)
abbrev Env:=List aF
def c0 (τ:Env):C0→aH
 | .u i j=>(τ.getD i (.rows [])).cell j
 | .k v=>.exact v
 | .sr sz cid=>match τ[cid]? with
   | some (.rows ts)=>.slice sz ts
   | _=>.bad
def Kq (τ:Env):CR→aH
 | .c x=>c0 τ x
 | .ref off cells=>.bE ((cells.map (c0 τ)).drop off)
def Mr (τ:Env):SC→aH
 | .c x=>c0 τ x
 | .ref off cells=>.bE ((cells.map (c0 τ)).drop off)
 | .gT f caps=>.gT f (caps.map (Kq τ))
 | _=>.bad
def oK (τ:Env):SW→aF
 | .one c=>.one (Mr τ c)
 | .agg cs=>.agg (cs.map (Mr τ))
def EH (τ:Env):LV→aF
 | .w x=>oK τ x
 | .row cid=>τ.getD cid (.one .bad)
 | .nilrow=>.rows []
def Mi (ag:Bool) (cs:List aH):aF:=if ag then .agg cs else .one (cs.getD 0 .bad)
def aH.Sub (c d:aH):Prop:=c=d∨((∀ M w v,c.rep M w v→∃ a l k,v = .slice a l k)∧∀ M w v,c.rep M w v→d.rep M w v)
theorem aH.Sub.rep {c d:aH} (h:c.Sub d) {M:Nat→Prop} {w:World} {v:Value} (hv:c.rep M w v):d.rep M w v:=by
 rcases h with rfl | ⟨_,h⟩
 ·exact hv
 ·exact h M w v hv
def Ui (τ:Env) (sz:Nat) (src:Option C0) (row:Option Nat) (us:List (List aH)):Prop:=
 match row with
 | some r=>τ[r]? = some (.rows us)
 | none=>match src with
   | some y=>(isNil y=true∧us = [])∨(c0 τ y).Sub (.slice sz us)
   | none=>False
def Ti (τ:Env) (cid:Option Nat) (ts:List (List aH)):Prop:=
 match cid with
 | some c=>τ[c]? = some (.rows ts)
 | none=>ts = []
def Su (τ:Env) (view:Option (C0×C0)) (ts:List (List aH)) (n:Nat) (us:List (List aH)):Prop:=
 match view with
 | none=>n=0∧us=ts
 | some (lo,hi)=>∃ k k':IntKind,∃ m:Nat,c0 τ lo = .int k n∧c0 τ hi = .int k' m∧n<m∧m≤ts.length∧us=(ts.take m).drop n
def sU (P:Program) (τ:Env) (op:Op) (ty:Nat):cY→List aF→Prop
 | .none,news=>news = []
 | .prim args sh,news=>∃ t:aF,news = [t]∧t.shape=some sh∧aX P op ty (args.map (oK τ)) t
 | .call f args sh,news=>news.map aF.shape=sh.map some∧aM P f (args.map (oK τ)) (.ret news)
 | .callv c args sh,news=>∃ f caps,c0 τ c = .gT f caps∧news.map aF.shape=sh.map some∧aM P f (args.map (oK τ)++caps.map .one) (.ret news)
 | .lit sz tss,news=>news = [.rows (tss.map fun t=>t.map (c0 τ))]
 | .make zero bytes len cap,news=>∃ l c:Nat,∃ k k',c0 τ len = .int k l∧c0 τ cap = .int k' c∧l≤c∧bytes*c≤140737488355328∧c≤maxLen∧news = [.rows (List.replicate l (zero.map .exact))]
 | .app sz bytes cid src row,news=>∃ ts us,Ti τ cid ts∧Ui τ sz src row us∧(ts.length+us.length)*bytes≤140737488355328∧ts.length+us.length≤maxLen∧news = [.rows (ts++us)]
 | .idx cid i,news=>∃ ts k n,τ[cid]? = some (.rows ts)∧c0 τ i = .int k n∧0≤n∧n<ts.length∧news = []
 | .ldrow cid i off sz ag,news=>∃ ts k n cells,τ[cid]? = some (.rows ts)∧c0 τ i = .int k n∧0≤n∧ts[n.toNat]? = some cells∧(ag=true∨sz=1)∧news = [Mi ag ((cells.drop off).take sz)]
 | .strow cid sz i off xs,news=>∃ ts k n cells,τ[cid]? = some (.rows ts)∧c0 τ i = .int k n∧0≤n∧ts[n.toNat]? = some cells ∧
   news = [.rows (ts.set n.toNat (cells.take off++xs.map (c0 τ)++cells.drop (off+xs.length)))]
 | .lenrow cid,news=>∃ ts,τ[cid]? = some (.rows ts)∧news = [.one (.int .i64 ts.length)]
 | .rop cid E sz view as bs sh,news=>∃ ts us us' rs n,τ[cid]? = some (.rows ts)∧Su τ view ts n us∧us ≠ []∧rs.map aF.shape=sh.map some∧LW P op ty E sz (as.map (oK τ)) (bs.map (oK τ)) us rs us' ∧
   news=rs ++ [.rows (ts.take n++us'++ts.drop (n+us.length))]
 | .view cid lo hi mx,news=>∃ ts k k' k'' ,∃ n m:Nat,τ[cid]? = some (.rows ts)∧c0 τ lo = .int k n∧c0 τ hi = .int k' m∧c0 τ mx = .int k'' m∧n<m∧m≤ts.length∧news = []
def tV (P:Program) (τ:Env):cY→aH→Prop
 | .call f args _,c=>aM P f (args.map (oK τ)) (.pan c)
 | .callv c args _,x=>∃ f caps,c0 τ c = .gT f caps∧aM P f (args.map (oK τ)++caps.map .one) (.pan x)
 | _,_=>False
def aY {α β:Type} (R:α→β→Prop):List α→List β→Prop
 | [],[]=>True
 | x::xs,y::ys=>R x y∧aY R xs ys
 | _,_=>False
def aF.Sub:aF→aF→Prop
 | .one c, .one d=>c.Sub d
 | .agg cs, .agg ds=>aY aH.Sub cs ds
 | .rows ts, .rows us=>aY (aY aH.Sub) ts us
 | _,_=>False
abbrev aO:List aF→List aF→Prop:=aY aF.Sub
def jY:Out→Out→Prop
 | .ret rs, .ret us=>aO rs us
 | .retr rs ts, .retr us vs=>rs=us∧ts=vs
 | .pan c, .pan d=>c=d
 | _,_=>False
def vc (P:Program) (post:Out→Prop):Tr→Env→List (List aF→Prop)→Prop
 | .fail _,_,_=>False
 | .need nd op ty last k,τ,bk=>(∃ news,sU P τ op ty nd news∧news.length=nd.ids∧vc P post k (τ++news) bk)∨(last=true∧∃ c,tV P τ nd c∧post (.pan c)) ∨
   (∃ f args sh news,nd = .call f args sh∧(∃ cl x,op = .call cl∧cl.callee = .value x)∧news.map aF.shape=sh.map some∧post (.orc f (args.map (oK τ)) news)∧vc P post k (τ++news) bk)
 | .split c kt kf,τ,bk=>∃ β:Bool,c0 τ c = .bool β∧(β=true→vc P post kt τ bk)∧(β=false→vc P post kf τ bk)
 | .ret vs,τ,_=>post (.ret (vs.map (oK τ)))
 | .retr vs cid,τ,_=>∃ ts,τ[cid]? = some (.rows ts)∧post (.retr (vs.map (oK τ)) ts)
 | .pan x,τ,_=>post (.pan (c0 τ x))∧∀ M w v,(c0 τ x).rep M w v→∃ T u,v = .iface T u
 | .loop d inits k,τ,bk=>∃ (G:Type) (tys:G→List aF) (μ:G→Nat) (g0:G),aO (inits.map (EH τ)) (tys g0)∧(∀ g,(tys g).length=inits.length) ∧
   ∀ g,vc P post k (τ++tys g) (bk.take d ++ [fun ts=>∃ g',aO ts (tys g')∧μ g'<μ g])
 | .back d cJ,τ,bk=>∃ f,bk[d]? = some f∧f (cJ.map (EH τ))
structure Gh where
 blk:Nat
 val:Value
 cur:Array Value
theorem aY.imp {α β:Type} {R S:α→β→Prop} (h:∀ a b,R a b→S a b):∀ {xs ys},aY R xs ys→aY S xs ys
 | [],[],_=>trivial
 | _::_,_::_,⟨a,b⟩=>⟨h _ _ a,b.imp h⟩
 | [],_::_,k=>k.elim
 | _::_,[],k=>k.elim
theorem aY.length {α β:Type} {R:α→β→Prop}:∀ {xs ys},aY R xs ys→xs.length=ys.length
 | [],[],_=>rfl
 | _::_,_::_,⟨_,b⟩=>by simp [b.length]
 | [],_::_,k=>k.elim
 | _::_,[],k=>k.elim
theorem aY.append {α β:Type} {R:α→β→Prop}:∀ {xs ys xs' ys'},aY R xs ys→aY R xs' ys'→aY R (xs++xs') (ys++ys')
 | [],[],_,_,_,h=>h
 | _::_,_::_,_,_,⟨a,b⟩,h=>⟨a,b.append h⟩
 | [],_::_,_,_,k,_=>k.elim
 | _::_,[],_,_,k,_=>k.elim
theorem aY.take {α β:Type} {R:α→β→Prop}:∀ (n:Nat) {xs ys},aY R xs ys→aY R (xs.take n) (ys.take n)
 | 0,_,_,_=>trivial
 | _+1,[],[],_=>trivial
 | n+1,_::_,_::_,⟨a,b⟩=>⟨a,b.take n⟩
 | _+1,[],_::_,k=>k.elim
 | _+1,_::_,[],k=>k.elim
theorem aY.drop {α β:Type} {R:α→β→Prop}:∀ (n:Nat) {xs ys},aY R xs ys→aY R (xs.drop n) (ys.drop n)
 | 0,_,_,h=>h
 | _+1,[],[],_=>trivial
 | n+1,_::_,_::_,⟨_,b⟩=>b.drop n
 | _+1,[],_::_,k=>k.elim
 | _+1,_::_,[],k=>k.elim
theorem aY.get {α β:Type} {R:α→β→Prop}:∀ {xs:List α} {ys:List β},aY R xs ys→∀ (j:Nat) (x:α),xs[j]? = some x→∃ y,ys[j]? = some y∧R x y
 | [],[],_,j,x,hx=>by simp at hx
 | x0::xs,y0::ys,⟨a,b⟩,j,x,hx=>by
   cases j with
   | zero=>simp at hx;subst hx;exact ⟨y0,rfl,a⟩
   | succ j=>simpa using b.get j x (by simpa using hx)
 | [],_::_,k,_,_,_=>k.elim
 | _::_,[],k,_,_,_=>k.elim
theorem aY.mem {α β:Type} {R:α→β→Prop}:∀ {xs ys},aY R xs ys→∀ y∈ys,∃ x∈xs,R x y
 | [],[],_,y,hy=>by simp at hy
 | x0::xs,y0::ys,⟨a,b⟩,y,hy=>by
   rcases List.mem_cons.1 hy with rfl | hy
   ·exact ⟨x0,List.mem_cons_self,a⟩
   ·obtain ⟨x,hx,h⟩:=b.mem y hy;exact ⟨x,List.mem_cons_of_mem _ hx,h⟩
 | [],_::_,k,_,_=>k.elim
 | _::_,[],k,_,_=>k.elim
def cT (ex:Nat→Prop) (τ:Env) (ρ:Nat→Gh) (M:Nat→Prop) (w:World):SC→Value→Prop
 | .p b off,v=>ex b∧v = .pointer (some ⟨(ρ b).blk,off,none⟩)
 | .r b,v=>ex b∧v=(ρ b).val∧v.oneCell'=true
 | .rp b sz i off,v=>ex b∧∃ g o0 len cap k n,(ρ b).val = .slice (some ⟨g,o0,none⟩) len cap∧c0 τ i = .int k n∧0≤n∧v = .pointer (some ⟨g,o0+n.toNat*sz+off,none⟩)
 | .rs b sz lo hi,v=>ex b∧∃ g o0 len cap,∃ k k':IntKind,∃ n m c:Nat,(ρ b).val = .slice (some ⟨g,o0,none⟩) len cap∧c0 τ lo = .int k n∧c0 τ hi = .int k' m∧n<m∧m≤len∧m-n≤c∧c≤maxLen∧v = .slice (some ⟨g,o0+n*sz,none⟩) (m-n) c
 | .c x,v=>(c0 τ x).rep M w v
 | .ref off cells,v=>(aH.bE ((cells.map (c0 τ)).drop off)).rep M w v
 | .gT f caps,v=>(aH.gT f (caps.map (Kq τ))).rep M w v
def eY (ex:Nat→Prop) (τ:Env) (ρ:Nat→Gh) (M:Nat→Prop) (w:World):SW→Value→Prop
 | .one c,v=>cT ex τ ρ M w c v
 | .agg cs,v=>∃ vs:List Value,v = .agg vs.toArray∧aY (cT ex τ ρ M w) cs vs
def fQ (ex:Nat→Prop) (τ:Env) (ρ:Nat→Gh) (M:Nat→Prop) (w:World):SV→Value→Prop
 | .junk,_=>True
 | .undef,v=>v=Go.undef
 | .w x,v=>eY ex τ ρ M w x v
 | .tup xs,v=>∃ vs:List Value,v = .tuple vs.toArray∧aY (eY ex τ ρ M w) xs vs
def own (ρ:Nat→Gh) (b:Nat):Bx→Option Nat
 | .var ..=>some (ρ b).blk
 | .row ..=>(ρ b).val.ownBlock
 | .part ..=>(ρ b).val.ownBlock
 | .dead=>none
structure dK where
 M:Nat→Prop
 gh:Gh
def dK.O (M0:dK) (k:Nat):Prop:=M0.gh.val.ownBlock=some k
def dK.ours (M0:dK) (w0:World) (k:Nat):Prop:=w0.heap.size≤k∨M0.O k
structure Kept (M0:dK) (w0 w:World):Prop where
 os:w.os=w0.os
 tape:w.tape=w0.tape
 output:w.output=w0.output
 size:w0.heap.size≤w.heap.size
 block:∀ k,k<w0.heap.size→¬ M0.O k→w.heap[k]? = w0.heap[k]?
 good:∀ x∈Vo.tab,¬ M0.M x.1∧¬ M0.O x.1∧∃ T fz,w0.heap[x.1]? = some (.cells x.2 T fz)
theorem Kept.and {M0:dK} {w0 w w':World} (h:Kept M0 w0 w) (hb:Below w.heap.size w w'):Kept M0 w0 w':=
 ⟨hb.os.trans h.os,hb.tape.trans h.tape,hb.output.trans h.output,Nat.le_trans h.size hb.size,fun k hk ho=>(hb.block k (Nat.lt_of_lt_of_le hk h.size)).trans (h.block k hk ho),h.good⟩
theorem Kept.alloc {M0:dK} {w0 w:World} (h:Kept M0 w0 w) (ob:Obj):Kept M0 w0 (w.alloc ob):=h.and ((Below.refl _ w).alloc (Nat.le_refl _) ob)
theorem Kept.setRow {M0:dK} {w0 w:World} (h:Kept M0 w0 w) {g:Nat} (hg:M0.ours w0 g) (cs:Array Value):Kept M0 w0 (w.setRow g cs):=
 ⟨h.os,h.tape,h.output,by simpa [World.setRow] using h.size,fun k hk ho=>by
  rw [setRow_other w g k cs (by rintro rfl;exact hg.elim (fun h=>Nat.not_lt.2 h hk) ho)];exact h.block k hk ho,h.good⟩
theorem Kept.grown {M0:dK} {w0 w w':World} {row:Option Nat} (h:Kept M0 w0 w) (hg:w.grownBy w' row) (hr:∀ k,row=some k→M0.ours w0 k):Kept M0 w0 w':=
 ⟨hg.os.trans h.os,hg.tape.trans h.tape,hg.output.trans h.output,Nat.le_trans h.size hg.size,fun k hk ho=>by
  rw [hg.block k (Nat.lt_of_lt_of_le hk h.size) (fun e=>(hr k e.symm).elim (fun h=>Nat.not_lt.2 h hk) ho)];exact h.block k hk ho,h.good⟩
def Ms (M0:dK) (ρ:Nat→Gh) (s:St) (k:Nat):Prop:=M0.M k∨∃ b x,s.b b=some x∧s.s b=false∧own ρ b x=some k
def rW (w:World) (E sz:Nat) (v:Value) (n:Nat) (xs:List Value):Prop:=
 xs.length=n*sz∧((n=0∧∃ c,v = .slice none 0 c) ∨
  ∃ g off cap cur,v = .slice (some ⟨g,off,none⟩) n cap∧w.heap[g]? = some (.cells cur E (0,0))∧n≤cap∧cap≤maxLen∧off+n*sz≤cur.size∧(cur.toList.drop off).take (n*sz)=xs)
theorem rW.Pj {w:World} {base E sz n:Nat} {v:Value} {xs:List Value} (h:w.ownsRow base E sz v n xs):rW w E sz v n xs:=by
 refine ⟨h.1,?_⟩;rcases h.2 with ⟨rfl,rfl⟩ | ⟨g,cap,cur,hv,_,hg,hnc,hcm,hcs,htake⟩
 ·exact .inl ⟨rfl,0,rfl⟩
 ·exact .inr ⟨g,0,cap,cur,hv,hg,hnc,hcm,by rw [Nat.zero_add,hcs];exact Nat.mul_le_mul_right _ hnc,by rw [List.drop_zero];exact htake⟩
def ae5 (w:World) (E sz:Nat) (x:Gh):Prop:=
 ∀ g off len cap,x.val = .slice (some ⟨g,off,none⟩) len cap→∀ cur,w.heap[g]? = some (.cells cur E (0,0))→cur.size=x.cur.size∧∀ j,(j<off∨off+len*sz≤j)→cur[j]? = x.cur[j]?
def lY (base:Nat) (ex:Nat→Prop) (τ:Env) (ρ:Nat→Gh) (M:Nat→Prop) (w:World) (b:Nat):Bx→Prop
 | .var T cells=>∃ vs:List Value,w.heap[(ρ b).blk]? = some (.cells vs.toArray T (0,0))∧aY (cT ex τ ρ M w) cells vs
 | .row E sz cid=>∃ ts xs,τ[cid]? = some (.rows ts)∧w.ownsRow base E sz (ρ b).val ts.length xs∧(∀ t∈ts,t.length=sz)∧aZ M w ts.flatten xs
 | .part E sz cid=>∃ ts xs,τ[cid]? = some (.rows ts)∧rW w E sz (ρ b).val ts.length xs∧(∀ t∈ts,t.length=sz)∧aZ M w ts.flatten xs∧(ρ b).val.oneCell'=true∧ae5 w E sz (ρ b)
 | .dead=>True
structure Sat (M0:dK) (w0:World) (N:Nat) (s:St) (τ:Env) (ρ:Nat→Gh) (a:Act) (w:World):Prop where
 below:Kept M0 w0 w
 sz:a.tmps.size=N
 df:a.defers = []
 tm:∀ t,fQ (fun b=>(s.b b).isSome) τ ρ (Ms M0 ρ s) w (s.t t) (a.tmps.getD t Go.undef)
 bx:∀ b x,s.b b=some x→lY 0 (fun b=>(s.b b).isSome) τ ρ (Ms M0 ρ s) w b x
 inj:∀ b b' x x' k,s.b b=some x→s.b b'=some x'→own ρ b x=some k→own ρ b' x'=some k→b=b'
 lo:∀ b x k,s.b b=some x→own ρ b x=some k→M0.ours w0 k∧k<w.heap.size
 old:∀ k,M0.M k→¬ M0.ours w0 k
 pt:∀ b E sz cid,s.b b=some (.part E sz cid)→ρ b=M0.gh
section
variable {ex ex':Nat→Prop} {τ:Env} {ρ ρ':Nat→Gh} {M M':Nat→Prop} {w w':World}
theorem cT.mono (he:∀ b,ex b→ex' b∧ρ' b=ρ b) (hk:bZ M w M' w'):∀ {c:SC} {v},cT ex τ ρ M w c v→cT ex' τ ρ' M' w' c v
 | .p b off,v,⟨h,e⟩=>⟨(he b h).1,by rw [(he b h).2];exact e⟩
 | .r b,v,⟨h,e,o⟩=>⟨(he b h).1,by rw [(he b h).2];exact e,o⟩
 | .rp b sz i off,v,⟨h,g,o0,len,cap,k,n,e⟩=>⟨(he b h).1,g,o0,len,cap,k,n,by rw [(he b h).2];exact e⟩
 | .rs b sz lo hi,v,⟨h,g,o0,len,cap,k,k',n,m,c,e⟩=>⟨(he b h).1,g,o0,len,cap,k,k',n,m,c,by rw [(he b h).2];exact e⟩
 | .c _,_,h=>aH.mono _ hk h
 | .ref _ _,_,h=>aH.mono _ hk h
 | .gT _ _,_,h=>aH.mono _ hk h
theorem eY.mono (he:∀ b,ex b→ex' b∧ρ' b=ρ b) (hk:bZ M w M' w'):∀ {c:SW} {v},eY ex τ ρ M w c v→eY ex' τ ρ' M' w' c v
 | .one _,_,h=>cT.mono he hk h
 | .agg _,_,⟨vs,e,h⟩=>⟨vs,e,h.imp fun _ _=>cT.mono he hk⟩
theorem fQ.mono (he:∀ b,ex b→ex' b∧ρ' b=ρ b) (hk:bZ M w M' w'):∀ {c:SV} {v},fQ ex τ ρ M w c v→fQ ex' τ ρ' M' w' c v
 | .junk,_,_=>trivial
 | .undef,_,h=>h
 | .w _,_,h=>eY.mono he hk h
 | .tup _,_,⟨vs,e,h⟩=>⟨vs,e,h.imp fun _ _=>eY.mono he hk⟩
end
theorem lG {ρ ρ':Nat→Gh} {b:Nat} (h:ρ' b=ρ b) (x:Bx):own ρ' b x=own ρ b x:=by
 cases x<;>simp [own,h]
theorem Ta {τ m:Env} {i:Nat} (x:aF) (hi:i<τ.length):(τ++m).getD i x=τ.getD i x:=by
 rw [List.getD_eq_getElem?_getD,List.getD_eq_getElem?_getD,List.getElem?_append_left hi]
theorem oN {τ m:Env} {n:Nat} (hn:τ.length=n):∀ {x:C0},x.ok n=true→c0 (τ++m) x=c0 τ x
 | .u i j,h=>by
   simp only [C0.ok,decide_eq_true_eq] at h;simp only [c0,Ta (aF.rows []) (show i<τ.length by omega)]
 | .k _,_=>rfl
 | .sr sz cid,h=>by
   simp only [C0.ok,decide_eq_true_eq] at h;simp only [c0,List.getElem?_append_left (show cid<τ.length by omega)]
theorem SI {τ:Env}:∀ {x:C0},x.ok τ.length=false→c0 τ x = .bad
 | .u i j,h=>by
   simp only [C0.ok,decide_eq_false_iff_not] at h;have:τ.getD i (.rows []) = .rows []:=by rw [List.getD_eq_getElem?_getD,List.getElem?_eq_none (by omega)];rfl
   simp only [c0,this];rfl
 | .k _,h=>by simp [C0.ok] at h
 | .sr sz cid,h=>by
   simp only [C0.ok,decide_eq_false_iff_not] at h;simp only [c0,List.getElem?_eq_none (show τ.length≤cid by omega)]
theorem Km {τ m:Env} {M:Nat→Prop} {w:World} {v:Value} (x:C0) (h:(c0 τ x).rep M w v):(c0 (τ++m) x).rep M w v:=by
 cases hx:x.ok τ.length with
 | true=>rw [oN rfl hx];exact h
 | false=>rw [SI hx] at h;exact (h:False).elim
theorem cK {τ m:Env} {x:C0} {v:Value} (h:c0 τ x = .exact v) (hv:v.oneCell'=true):c0 (τ++m) x = .exact v:=by
 cases hx:x.ok τ.length with
 | true=>rw [oN rfl hx];exact h
 | false=>
   rw [SI hx] at h;have:aH.bad.rep (fun _=>False) default v:=by rw [h];exact ⟨rfl,hv⟩
   exact (this:False).elim
theorem aZ.imp {M:Nat→Prop} {w:World} {α:Type} {f g:α→aH} (h:∀ x v,(f x).rep M w v→(g x).rep M w v):∀ {xs:List α} {vs},aZ M w (xs.map f) vs→aZ M w (xs.map g) vs
 | [],[],_=>trivial
 | _::_,_::_,⟨a,b⟩=>⟨h _ _ a,aZ.imp h b⟩
 | [],_::_,k=>k.elim
 | _::_,[],k=>k.elim
theorem JD {τ m:Env} {M:Nat→Prop} {w:World} {v:Value} {off:Nat} {cells:List C0} (h:(aH.bE ((cells.map (c0 τ)).drop off)).rep M w v):(aH.bE ((cells.map (c0 (τ++m))).drop off)).rep M w v:=by
 obtain ⟨b,o,cs,T,fz,e,hm,hh,hr⟩:=h;refine ⟨b,o,cs,T,fz,e,hm,hh,?_⟩;rw [List.length_drop,List.length_map] at hr ⊢;rw [←List.map_drop] at hr ⊢;exact hr.imp fun x v=>Km x
theorem Vt {τ m:Env} {M:Nat→Prop} {w:World} {v:Value}:∀ (x:CR),(Kq τ x).rep M w v→(Kq (τ++m) x).rep M w v
 | .c x,h=>Km x h
 | .ref _ _,h=>JD h
theorem yH {ex:Nat→Prop} {τ m:Env} {ρ:Nat→Gh} {M:Nat→Prop} {w:World}:∀ {c:SC} {v},cT ex τ ρ M w c v→cT ex (τ++m) ρ M w c v
 | .p _ _,_,h=>h
 | .r _,_,h=>h
 | .rp b sz i off,v,⟨h,g,o0,len,cap,k,n,e,e2,e3⟩=>⟨h,g,o0,len,cap,k,n,e,cK e2 rfl,e3⟩
 | .rs b sz lo hi,v,⟨h,g,o0,len,cap,k,k',n,m,c,e,e2,e3,e4⟩=>⟨h,g,o0,len,cap,k,k',n,m,c,e,cK e2 rfl,cK e3 rfl,e4⟩
 | .c x,_,h=>Km x h
 | .ref _ _,_,h=>JD h
 | .gT f caps,v,⟨vs,e,h⟩=>⟨vs,e,h.imp fun x _=>Vt x⟩
theorem FH {ex:Nat→Prop} {τ m:Env} {ρ:Nat→Gh} {M:Nat→Prop} {w:World}:∀ {c:SW} {v},eY ex τ ρ M w c v→eY ex (τ++m) ρ M w c v
 | .one _,_,h=>yH h
 | .agg _,_,⟨vs,e,h⟩=>⟨vs,e,h.imp fun _ _=>yH⟩
theorem Ob {ex:Nat→Prop} {τ m:Env} {ρ:Nat→Gh} {M:Nat→Prop} {w:World}:∀ {c:SV} {v},fQ ex τ ρ M w c v→fQ ex (τ++m) ρ M w c v
 | .junk,_,_=>trivial
 | .undef,_,h=>h
 | .w _,_,h=>FH h
 | .tup _,_,⟨vs,e,h⟩=>⟨vs,e,h.imp fun _ _=>FH⟩
theorem No {base:Nat} {ex:Nat→Prop} {τ m:Env} {ρ:Nat→Gh} {M:Nat→Prop} {w:World} {b:Nat}:∀ {x:Bx},lY base ex τ ρ M w b x→lY base ex (τ++m) ρ M w b x
 | .var _ _,⟨vs,e,h⟩=>⟨vs,e,h.imp fun _ _=>yH⟩
 | .row _ _ cid,⟨ts,xs,e,h⟩=>⟨ts,xs,by
   have hi:cid<τ.length:=(List.getElem?_eq_some_iff.1 e).1;rw [List.getElem?_append_left hi];exact e,h⟩
 | .part _ _ cid,⟨ts,xs,e,h⟩=>⟨ts,xs,by
   have hi:cid<τ.length:=(List.getElem?_eq_some_iff.1 e).1;rw [List.getElem?_append_left hi];exact e,h⟩
 | .dead,h=>h
theorem Sat.ext {M0:dK} {w0:World} {N:Nat} {s:St} {τ:Env} {ρ:Nat→Gh} {a:Act} {w:World} (h:Sat M0 w0 N s τ ρ a w) (m:Env):Sat M0 w0 N s (τ++m) ρ a w:=
 ⟨h.below,h.sz,h.df,fun t=>Ob (h.tm t),fun b x hx=>No (h.bx b x hx),h.inj,h.lo,h.old,h.pt⟩
theorem aT3 {τ m:Env} {n:Nat} (hn:τ.length=n):∀ {x:CR},x.ok n=true→Kq (τ++m) x=Kq τ x
 | .c x,h=>oN hn h
 | .ref off cs,h=>by
   simp only [CR.ok,List.all_eq_true] at h;simp only [Kq];rw [List.map_congr_left (fun x hx=>oN hn (h x hx))]
theorem Me {τ m:Env} {n:Nat} (hn:τ.length=n):∀ {x:SC},x.ok n=true→Mr (τ++m) x=Mr τ x
 | .c x,h=>oN hn h
 | .ref off cs,h=>by
   simp only [SC.ok,List.all_eq_true] at h;simp only [Mr];rw [List.map_congr_left (fun x hx=>oN hn (h x hx))]
 | .gT f cs,h=>by
   simp only [SC.ok,List.all_eq_true] at h;simp only [Mr];rw [List.map_congr_left (fun x hx=>aT3 hn (h x hx))]
 | .p ..,_=>rfl
 | .r ..,_=>rfl
 | .rp ..,_=>rfl
 | .rs ..,_=>rfl
theorem aO4 {τ m:Env} {n:Nat} (hn:τ.length=n):∀ {x:SW},x.ok n=true→oK (τ++m) x=oK τ x
 | .one c,h=>by simp only [oK];rw [Me hn h]
 | .agg cs,h=>by
   simp only [SW.ok,List.all_eq_true] at h;simp only [oK];rw [List.map_congr_left (fun x hx=>Me hn (h x hx))]
theorem yO {τ m:Env} {n:Nat} (hn:τ.length=n) {l:List SW} (h:l.all (SW.ok n)=true):l.map (oK (τ++m))=l.map (oK τ):=by
 simp only [List.all_eq_true] at h;exact List.map_congr_left (fun x hx=>aO4 hn (h x hx))
theorem Tl {τ m:Env} {n:Nat} (hn:τ.length=n) {l:List C0} (h:l.all (C0.ok n)=true):l.map (c0 (τ++m))=l.map (c0 τ):=by
 simp only [List.all_eq_true] at h;exact List.map_congr_left (fun x hx=>oN hn (h x hx))
theorem sU.ext {P:Program} {τ m:Env} {n:Nat} (hn:τ.length=n) {op:Op} {ty:Nat}:∀ {nd:cY} {news:List aF},nd.ok n=true→sU P τ op ty nd news→sU P (τ++m) op ty nd news
 | .none,_,_,h=>h
 | .prim args sh,news,ho,⟨t,e,e2,h⟩=>⟨t,e,e2,by rw [yO hn ho];exact h⟩
 | .call f args sh,news,ho,⟨e,h⟩=>⟨e,by rw [yO hn ho];exact h⟩
 | .callv c args sh,news,ho,⟨f,caps,e,e2,h⟩=>by
   simp only [cY.ok,Bool.and_eq_true] at ho;exact ⟨f,caps,by rw [oN hn ho.1];exact e,e2,by rw [yO hn ho.2];exact h⟩
 | .lit sz tss,news,ho,h=>by
   simp only [cY.ok,List.all_eq_true] at ho;simp only [sU] at h ⊢;rw [h]
   congr 2
   exact List.map_congr_left (fun t ht=>(Tl hn (List.all_eq_true.2 (ho t ht))).symm)
 | .make z by_ l c,news,ho,⟨x,y,k,k',e1,e2,h⟩=>⟨x,y,k,k',cK e1 rfl,cK e2 rfl,h⟩
 | .app sz by_ cid src row,news,ho,⟨ts,us,e1,e2,h⟩=>by
   have key:∀ {c:Nat} {us:List (List aH)},τ[c]? = some (.rows us)→(τ++m)[c]? = some (.rows us):=fun {c us} h=>by
    rw [List.getElem?_append_left (List.getElem?_eq_some_iff.1 h).1];exact h
   refine ⟨ts,us,?_,?_,h⟩
   ·cases cid with
    | none=>exact e1
    | some c=>exact key e1
   ·cases row with
    | some r=>exact key e2
    | none=>cases src with
      | none=>exact e2
      | some y=>
        simp only [cY.ok,Bool.and_eq_true,Option.all_some] at ho;rcases e2 with e2 | e2
        ·exact .inl e2
        ·exact .inr (by rw [oN hn ho.1.2];exact e2)
 | .idx cid i,news,ho,⟨ts,k,x,e1,e2,h⟩=>⟨ts,k,x,by rw [List.getElem?_append_left (List.getElem?_eq_some_iff.1 e1).1];exact e1,cK e2 rfl,h⟩
 | .ldrow cid i off sz ag,news,ho,⟨ts,k,x,cells,e1,e2,h⟩=>⟨ts,k,x,cells,by rw [List.getElem?_append_left (List.getElem?_eq_some_iff.1 e1).1];exact e1,cK e2 rfl,h⟩
 | .strow cid sz i off xs,news,ho,⟨ts,k,x,cells,e1,e2,h1,h2,h3⟩=>by
   simp only [cY.ok,Bool.and_eq_true] at ho;exact ⟨ts,k,x,cells,by rw [List.getElem?_append_left (List.getElem?_eq_some_iff.1 e1).1];exact e1,cK e2 rfl,h1,h2,by rw [Tl hn ho.2];exact h3⟩
 | .rop cid E sz view as bs sh,news,ho,⟨ts,us,us',rs,n,e1,e2,e3,e4,e5,e6⟩=>by
   simp only [cY.ok,Bool.and_eq_true] at ho;refine ⟨ts,us,us',rs,n,by rw [List.getElem?_append_left (List.getElem?_eq_some_iff.1 e1).1];exact e1,?_,e3,e4,by rw [yO hn ho.1.2,yO hn ho.2];exact e5,e6⟩;cases view with
   | none=>exact e2
   | some v=>
     obtain ⟨k,k',m,h1,h2,h3⟩:=e2;exact ⟨k,k',m,cK h1 rfl,cK h2 rfl,h3⟩
 | .view cid lo hi mx,news,ho,⟨ts,k,k',k'',n,m,e1,e2,e3,e4,h⟩=>⟨ts,k,k',k'',n,m,by rw [List.getElem?_append_left (List.getElem?_eq_some_iff.1 e1).1];exact e1,cK e2 rfl,cK e3 rfl,cK e4 rfl,h⟩
 | .lenrow cid,news,ho,⟨ts,e1,h⟩=>⟨ts,by rw [List.getElem?_append_left (List.getElem?_eq_some_iff.1 e1).1];exact e1,h⟩
open Go.RowKit (Below)
section
variable {α β:Type} {s s':St}
theorem Q.run_bind (q:Q α) (f:α→Q β):(q >>= f).run s=(q.run s).bind fun a=>(f a).run s:=by
 show (q.bind f).run s=_
 induction q with
 | ret a=>rfl
 | fail=>rfl
 | t n k ih=>exact ih _
 | b n k ih=>exact ih _
 | s n k ih=>exact ih _
@[simp] theorem Q.run_pure (a:α):(pure a:Q α).run s=some a:=rfl
@[simp] theorem Q.eO (a:α):(Q.ret a).run s=some a:=rfl
@[simp] theorem Q.aF5:(Q.fail:Q α).run s=none:=rfl
@[simp] theorem Uh (n:Nat):(aR0 n).run s=some (s.t n):=rfl
@[simp] theorem gD (n:Nat):(AF n).run s=some (s.b n):=rfl
@[simp] theorem rN (n:Nat):(Nr n).run s=some (s.s n):=rfl
@[simp] theorem dD (x:Option α):(Q.of x).run s=x:=by cases x<;>rfl
theorem cX {p:Prop} [Decidable p] {u:Unit} (h:(ask p).run s=some u):p:=by
 unfold ask at h;split at h
 ·assumption
 ·cases h
theorem Q.bind_some {q:Q α} {f:α→Q β} {y:β} (h:(q >>= f).run s=some y):∃ a,q.run s=some a∧(f a).run s=some y:=by
 rw [Q.run_bind] at h;cases hq:q.run s with
 | none=>rw [hq] at h;cases h
 | some a=>rw [hq] at h;exact ⟨a,rfl,h⟩
def St.agree (s s':St):Loc→Prop
 | .t n=>s'.t n=s.t n
 | .b n=>s'.b n=s.b n
 | .s n=>s'.s n=s.s n
theorem Q.congr (q:Q α) (h:∀ x∈q.log s,s.agree s' x):q.run s'=q.run s:=by
 induction q with
 | ret a=>rfl
 | fail=>rfl
 | t n k ih=>
   have h0:s'.t n=s.t n:=h (.t n) (List.mem_cons_self ..);simp only [Q.run,h0];exact ih _ fun x hx=>h x (List.mem_cons_of_mem _ hx)
 | b n k ih=>
   have h0:s'.b n=s.b n:=h (.b n) (List.mem_cons_self ..);simp only [Q.run,h0];exact ih _ fun x hx=>h x (List.mem_cons_of_mem _ hx)
 | s n k ih=>
   have h0:s'.s n=s.s n:=h (.s n) (List.mem_cons_self ..);simp only [Q.run,h0];exact ih _ fun x hx=>h x (List.mem_cons_of_mem _ hx)
end
theorem zZ {α:Type} (l m:List (Nat×α)) (n:Nat):look (l++m) n=(look l n).orElse fun _=>look m n:=by
 induction l with
 | nil=>rfl
 | cons x l ih=>
   obtain ⟨k,v⟩:=x;simp only [List.cons_append,look];split
   ·rfl
   ·exact ih
theorem St.PG (s:St) (e:fM) (n:Nat):(s.app e).t n=match look e.tm n with | some v=>v | none=>s.t n:=by
 simp only [St.app,St.t,zZ];cases look e.tm n<;>rfl
theorem St.fH (s:St) (e:fM) (n:Nat):(s.app e).b n=match look e.bx n with | some v=>some v | none=>s.b n:=by
 simp only [St.app,St.b,zZ];cases look e.bx n<;>rfl
theorem St.qZ (s:St) (e:fM) (n:Nat):(s.app e).s n=(e.sl.contains n || s.s n):=by
 simp [St.app,St.s]
theorem Rh {o:Oper} {v:SV} {n:Nat}:look (put o v) n=if o.dst=some n then some v else none:=by
 unfold put;cases h:o.dst with
 | none=>simp [look]
 | some d=>
   simp only [look];by_cases e:d=n
   ·simp [e]
   ·simp [e]
section
variable {M0:dK} {w0 w:World} {N:Nat} {s:St} {τ:Env} {ρ:Nat→Gh} {a:Act}
abbrev kV (s:St):Nat→Prop:=fun b=>(s.b b).isSome
theorem aY.wC {ex:Nat→Prop} {M:Nat→Prop}:∀ {vs:List Value},vs.all (·.oneCell')=true→aY (cT ex τ ρ M w) (vs.map fun v=>.c (.k v)) vs
 | [],_=>trivial
 | v::vs,h=>by
   simp only [List.all_cons,Bool.and_eq_true] at h;exact ⟨⟨rfl,h.1⟩,aY.wC h.2⟩
theorem PD {ex:Nat→Prop} {M:Nat→Prop} (v:Value):fQ ex τ ρ M w (Ri v) v:=by
 cases v with
 | agg cs=>
   simp only [Ri];split
   ·rename_i h;exact ⟨cs.toList,by simp,aY.wC h⟩
   ·trivial
 | tuple vs=>trivial
 | func f x y=>trivial
 | _=>exact ⟨rfl,rfl⟩
theorem yK (h:Sat M0 w0 N s τ ρ a w) {x:Operand} {sv:SV} (hr:(Ed x).run s=some sv):fQ (kV s) τ ρ (Ms M0 ρ s) w sv (a.eval x):=by
 cases x with
 | tmp t=>simp only [Ed,Uh,Option.some.injEq] at hr;subst hr;exact h.tm t
 | const v=>simp only [Ed,Q.eO,Option.some.injEq] at hr;subst hr;exact PD v
 | global g=>simp only [Ed,Q.eO,Option.some.injEq] at hr;subst hr;trivial
 | func f=>simp only [Ed,Q.eO,Option.some.injEq] at hr;subst hr;exact ⟨[],rfl,trivial⟩
theorem qV (h:Sat M0 w0 N s τ ρ a w) {x:Operand} {v:SW} (hr:(GV x).run s=some v):eY (kV s) τ ρ (Ms M0 ρ s) w v (a.eval x):=by
 obtain ⟨sv,h1,h2⟩:=Q.bind_some hr;have:=yK h h1;rw [dD] at h2;cases sv with
 | w y=>simp [SV.sw] at h2;subst h2;exact this
 | junk=>simp [SV.sw] at h2
 | undef=>simp [SV.sw] at h2
 | tup xs=>simp [SV.sw] at h2
theorem dG (h:Sat M0 w0 N s τ ρ a w) {x:Operand} {c:SC} (hr:(pX x).run s=some c):cT (kV s) τ ρ (Ms M0 ρ s) w c (a.eval x):=by
 obtain ⟨sv,h1,h2⟩:=Q.bind_some hr;have:=qV h h1;rw [dD] at h2;cases sv with
 | one y=>simp [SW.sc] at h2;subst h2;exact this
 | agg cs=>simp [SW.sc] at h2
theorem BN (h:Sat M0 w0 N s τ ρ a w):∀ {xs:List (Nat×Operand)} {ps:List (Nat×SW)},(Iz xs).run s=some ps →
  aY (fun p x=>p.1=x.1∧eY (kV s) τ ρ (Ms M0 ρ s) w p.2 (a.eval x.2)) ps xs
 | [],ps,hr=>by simp only [Iz,Q.eO,Option.some.injEq] at hr;subst hr;trivial
 | (i,x)::xs,ps,hr=>by
   obtain ⟨v,h1,h2⟩:=Q.bind_some hr;obtain ⟨vs,h3,h4⟩:=Q.bind_some h2;simp only [Q.run_pure,Option.some.injEq] at h4;subst h4;exact ⟨⟨rfl,qV h h1⟩,BN h h3⟩
theorem eY.cells {ex:Nat→Prop} {M:Nat→Prop}:∀ {x:SW} {v:Value},eY ex τ ρ M w x v→aY (cT ex τ ρ M w) x.cells v.cells.toList∨(∃ c,x = .one c∧v.oneCell'=false)
 | .agg cs,v,⟨vs,e,h⟩=>by subst e;exact .inl h
 | .one c,v,h=>by
   cases hv:v.oneCell' with
   | false=>exact .inr ⟨c,rfl,rfl⟩
   | true=>
     left
     cases v<;>first | (exact ⟨h,trivial⟩) | (simp [Value.oneCell'] at hv)
theorem cT.one {ex:Nat→Prop} {M:Nat→Prop}:∀ {c:SC} {v:Value},cT ex τ ρ M w c v→v.oneCell'=true
 | .p ..,v,⟨_,e⟩=>by subst e;rfl
 | .r _,v,⟨_,_,e⟩=>e
 | .rp ..,v,⟨_,g,o0,len,cap,k,n,_,_,_,e⟩=>by subst e;rfl
 | .rs ..,v,⟨_,g,o0,len,cap,k,k',n,m,c,_,_,_,_,_,_,_,e⟩=>by subst e;rfl
 | .c x,v,h=>(c0 τ x).one h
 | .ref ..,v,h=>aH.one _ h
 | .gT ..,v,h=>aH.one _ h
theorem eY.Dh {ex:Nat→Prop} {M:Nat→Prop} {x:SW} {v:Value} (h:eY ex τ ρ M w x v):aY (cT ex τ ρ M w) x.cells v.cells.toList:=by
 rcases h.cells with h' | ⟨c,rfl,hv⟩
 ·exact h'
 ·have:v.oneCell'=true:=cT.one (c:=c) h;rw [this] at hv;cases hv
theorem lJ {b:Nat} {pt:Bool} {E sz cid:Nat} (h:(vL b).run s=some (pt,E,sz,cid)):s.b b=some (jC pt E sz cid):=by
 obtain ⟨bx,h1,h2⟩:=Q.bind_some h;simp only [gD,Option.some.injEq] at h1;split at h2
 ·simp only [Q.run_pure,Option.some.injEq,Prod.mk.injEq] at h2;obtain ⟨rfl,rfl,rfl,rfl⟩:=h2;rw [h1];rfl
 ·simp only [Q.run_pure,Option.some.injEq,Prod.mk.injEq] at h2;obtain ⟨rfl,rfl,rfl,rfl⟩:=h2;rw [h1];rfl
 ·cases h2
theorem FR {base:Nat} {ex:Nat→Prop} {M:Nat→Prop} {b:Nat} {pt:Bool} {E sz cid:Nat} (h:lY base ex τ ρ M w b (jC pt E sz cid)) :
  ∃ ts xs,τ[cid]? = some (.rows ts)∧rW w E sz (ρ b).val ts.length xs∧(∀ t∈ts,t.length=sz)∧aZ M w ts.flatten xs:=by
 cases pt with
 | true=>
   obtain ⟨ts,xs,h1,h2,h3,h4,_⟩:=h;exact ⟨ts,xs,h1,h2,h3,h4⟩
 | false=>
   obtain ⟨ts,xs,h1,h2,h3,h4⟩:=h;exact ⟨ts,xs,h1, .Pj h2,h3,h4⟩
theorem IM (b:Nat) (pt:Bool) (E sz cid:Nat):own ρ b (jC pt E sz cid)=(ρ b).val.ownBlock:=by cases pt<;>rfl
structure bX (M0:dK) (ρ:Nat→Gh) (s:St) (l:List Nat) (M':Nat→Prop):Prop where
 sub:∀ k,M' k→Ms M0 ρ s k
 out:∀ b x k,s.b b=some x→own ρ b x=some k→(s.s b=true∨b∈l)→¬ M' k
theorem bX.jD {l:List Nat} {M':Nat→Prop} (h:bX M0 ρ s l M'):bZ (Ms M0 ρ s) w M' w:=fun b o hb ho _=>⟨fun hm=>hb (h.sub b hm),ho⟩
theorem bX.mono {l l':List Nat} {M':Nat→Prop} (h:bX M0 ρ s l M') (hl:∀ x∈l',x∈l):bX M0 ρ s l' M':=
 ⟨h.sub,fun b x k h1 h2 h3=>h.out b x k h1 h2 (h3.imp id (hl b))⟩
theorem lO {sz:Nat} {M:Nat→Prop}:∀ {ts:List (List aH)} {cur:List Value} {off:Nat},(∀ t∈ts,t.length=sz)→aZ M w ts.flatten ((cur.drop off).take (ts.length*sz)) →
  ∀ i t,ts[i]? = some t→t.length=sz∧aZ M w t ((cur.drop (off+i*sz)).take sz)
 | [],cur,off,_,_,i,t,ht=>by simp at ht
 | t0::ts,cur,off,hl,hr,i,t,ht=>by
   have h0:t0.length=sz:=hl t0 List.mem_cons_self
   have hx:((cur.drop off).take ((t0::ts).length*sz))=(cur.drop off).take sz++((cur.drop (off+sz)).take (ts.length*sz)):=by
    rw [List.length_cons,Nat.add_mul,Nat.one_mul,Nat.add_comm,List.take_add,List.drop_drop]
   rw [hx] at hr;have hlen:=hr.length;rw [List.flatten_cons] at hr;cases i with
   | zero=>
     simp only [List.getElem?_cons_zero,Option.some.injEq] at ht;subst ht;refine ⟨h0,?_⟩;have:=hr.take sz;rw [List.take_append_of_le_length (by omega),List.take_of_length_le (by omega)] at this;by_cases hs:((cur.drop off).take sz).length=sz
     ·rw [List.take_append_of_le_length (by omega),List.take_of_length_le (by omega)] at this
      simpa using this
     ·
      have h1:(cur.drop off).length<sz:=by rw [List.length_take] at hs;omega
      have h2:(cur.drop (off+sz)) = []:=by
       apply List.eq_nil_of_length_eq_zero;rw [List.length_drop] at h1 ⊢;omega
      rw [h2] at this;simp only [List.take_nil,List.append_nil] at this;rw [List.take_take] at this
      simpa using this
   | succ i=>
     have hd:=hr.drop sz;rw [List.drop_append_of_le_length (by omega),List.drop_eq_nil_of_le (by omega:t0.length≤sz),List.nil_append] at hd
     have h2:((cur.drop off).take sz++(cur.drop (off+sz)).take (ts.length*sz)).drop sz=(cur.drop (off+sz)).take (ts.length*sz):=by
      by_cases hs:((cur.drop off).take sz).length=sz
      ·rw [List.drop_append_of_le_length (by omega),List.drop_eq_nil_of_le (by omega),List.nil_append]
      ·have h1:(cur.drop off).length<sz:=by rw [List.length_take] at hs;omega
       have h3:(cur.drop (off+sz)) = []:=by
        apply List.eq_nil_of_length_eq_zero;rw [List.length_drop] at h1 ⊢;omega
       rw [h3];simp only [List.take_nil,List.append_nil];apply List.drop_eq_nil_of_le;rw [List.length_take];omega
     rw [h2] at hd;have:=lO (ts:=ts) (off:=off+sz) (fun t ht=>hl t (List.mem_cons_of_mem _ ht)) hd i t (by simpa using ht);refine ⟨this.1,?_⟩;have e:off+(i+1)*sz=off+sz+i*sz:=by rw [Nat.add_mul,Nat.one_mul];omega
     rw [e];exact this.2
theorem EY (h:Sat M0 w0 N s τ ρ a w) {b E sz cid:Nat} (hb:s.b b=some (.row E sz cid)) {l:List Nat} {M':Nat→Prop} (hS:bX M0 ρ s l M') (hl:s.s b=true∨b∈l)
  : (c0 τ (.sr sz cid)).rep M' w (ρ b).val:=by
 obtain ⟨ts,xs,e,hown,hlen,hr⟩:=h.bx b _ hb;simp only [c0,e];have hr':=hr.mono (hS.jD (w:=w));obtain ⟨hx,hown⟩:=hown;rcases hown with ⟨hv,hn⟩ | ⟨g,cap,cur,hv,hbg,hg,hnc,hcm,hcs,htake⟩
 ·rw [hv];have:ts = []:=List.eq_nil_of_length_eq_zero hn;subst this;exact ⟨none,0,rfl,Nat.le_refl _,by simp [maxLen], .inl rfl⟩
 ·rw [hv];refine ⟨some ⟨g,0,none⟩,cap,rfl,hnc,hcm, .inr ⟨g,0,cur,E,(0,0),rfl,?_,hg,?_⟩⟩
  ·exact hS.out b _ g hb (by simp [own,hv,Value.ownBlock]) hl
  ·rw [←htake] at hr';have:=lO (ts:=ts) (off:=0) (cur:=cur.toList) hlen (by simpa using hr')
   simpa using this
theorem CX (h:Sat M0 w0 N s τ ρ a w) {M':Nat→Prop}:∀ {c:SC} {x:C0} {l:List Nat} {v:Value},(pU c).run s=some (x,l)→bX M0 ρ s l M'→cT (kV s) τ ρ (Ms M0 ρ s) w c v→(c0 τ x).rep M' w v
 | .c y,x,l,v,hr,hS,hv=>by
   simp only [pU,Q.eO,Option.some.injEq,Prod.mk.injEq] at hr;obtain ⟨rfl,rfl⟩:=hr;exact aH.mono _ hS.jD hv
 | .r b,x,l,v,hr,hS,hv=>by
   obtain ⟨bx,h1,h2⟩:=Q.bind_some hr;simp only [gD,Option.some.injEq] at h1;cases bx with
   | none=>simp at h2
   | some bx=>cases bx with
     | var=>simp at h2
     | dead=>simp at h2
     | part=>simp at h2
     | row E sz cid=>
       simp only [Q.run_pure,Option.some.injEq,Prod.mk.injEq] at h2;obtain ⟨rfl,rfl⟩:=h2;rw [hv.2.1];exact EY h h1 hS (.inr (by simp))
 | .ref ..,x,l,v,hr,_,_=>by simp [pU] at hr
 | .gT ..,x,l,v,hr,_,_=>by simp [pU] at hr
 | .p ..,x,l,v,hr,_,_=>by simp [pU] at hr
 | .rp ..,x,l,v,hr,_,_=>by simp [pU] at hr
 | .rs ..,x,l,v,hr,_,_=>by simp [pU] at hr
theorem lL (h:Sat M0 w0 N s τ ρ a w) {M':Nat→Prop}:∀ {cs:List SC} {xs:List C0} {l:List Nat} {vs:List Value},(oY cs).run s=some (xs,l)→bX M0 ρ s l M'→aY (cT (kV s) τ ρ (Ms M0 ρ s) w) cs vs→aZ M' w (xs.map (c0 τ)) vs
 | [],xs,l,[],hr,hS,hv=>by
   simp only [oY,Q.eO,Option.some.injEq,Prod.mk.injEq] at hr;obtain ⟨rfl,rfl⟩:=hr;trivial
 | c::cs,xs,l,v::vs,hr,hS,⟨hv,hvs⟩=>by
   obtain ⟨⟨x,l1⟩,h1,h2⟩:=Q.bind_some hr;obtain ⟨⟨xs',l2⟩,h3,h4⟩:=Q.bind_some h2;simp only [Q.run_pure,Option.some.injEq,Prod.mk.injEq] at h4;obtain ⟨rfl,rfl⟩:=h4;exact ⟨CX h h1 (hS.mono fun x hx=>List.mem_append_left _ hx) hv,lL h h3 (hS.mono fun x hx=>List.mem_append_right _ hx) hvs⟩
 | [],_,_,_::_,_,_,hv=>hv.elim
 | _::_,_,_,[],_,_,hv=>hv.elim
theorem HX (h:Sat M0 w0 N s τ ρ a w) {M':Nat→Prop}:∀ {c x:SC} {l:List Nat} {v:Value},(Ak c).run s=some (x,l)→bX M0 ρ s l M'→cT (kV s) τ ρ (Ms M0 ρ s) w c v→(Mr τ x).rep M' w v
 | .c y,x,l,v,hr,hS,hv=>by
   simp only [Ak,Q.eO,Option.some.injEq,Prod.mk.injEq] at hr;obtain ⟨rfl,rfl⟩:=hr;exact aH.mono _ hS.jD hv
 | .ref o cs,x,l,v,hr,hS,hv=>by
   simp only [Ak,Q.eO,Option.some.injEq,Prod.mk.injEq] at hr;obtain ⟨rfl,rfl⟩:=hr;exact aH.mono _ hS.jD hv
 | .gT f cs,x,l,v,hr,hS,hv=>by
   simp only [Ak,Q.eO,Option.some.injEq,Prod.mk.injEq] at hr;obtain ⟨rfl,rfl⟩:=hr;exact aH.mono _ hS.jD hv
 | .r b,x,l,v,hr,hS,hv=>by
   obtain ⟨bx,h1,h2⟩:=Q.bind_some hr;simp only [gD,Option.some.injEq] at h1;cases bx with
   | none=>simp at h2
   | some bx=>cases bx with
     | var=>simp at h2
     | dead=>simp at h2
     | part=>simp at h2
     | row E sz cid=>
       simp only [Q.run_pure,Option.some.injEq,Prod.mk.injEq] at h2;obtain ⟨rfl,rfl⟩:=h2;rw [hv.2.1];exact EY h h1 hS (.inr (by simp))
 | .p b off,x,l,v,hr,hS,hv=>by
   obtain ⟨bx,h5,h6⟩:=Q.bind_some hr;simp only [gD,Option.some.injEq] at h5;cases bx with
   | none=>simp at h6
   | some bx=>cases bx with
     | row=>simp at h6
     | part=>simp at h6
     | dead=>simp at h6
     | var T cells=>
       obtain ⟨⟨xs,l'⟩,h7,h8⟩:=Q.bind_some h6;simp only [Q.run_pure,Option.some.injEq,Prod.mk.injEq] at h8;obtain ⟨rfl,rfl⟩:=h8;obtain ⟨vs,hh,hall⟩:=h.bx b _ h5;have hrep:=lL h h7 (hS.mono fun x hx=>List.mem_cons_of_mem _ hx) hall;rw [hv.2];refine ⟨(ρ b).blk,off,vs.toArray,T,(0,0),rfl,hS.out b _ _ h5 rfl (.inr List.mem_cons_self),hh,?_⟩;have hd:=hrep.drop off;have hlen:=hd.length;rw [hlen,List.take_of_length_le (by simp)];exact hd
 | .rp ..,x,l,v,hr,_,_=>by simp [Ak] at hr
 | .rs ..,x,l,v,hr,_,_=>by simp [Ak] at hr
theorem yX (h:Sat M0 w0 N s τ ρ a w) {M':Nat→Prop}:∀ {cs xs:List SC} {l:List Nat} {vs:List Value},(Cd cs).run s=some (xs,l)→bX M0 ρ s l M'→aY (cT (kV s) τ ρ (Ms M0 ρ s) w) cs vs→aZ M' w (xs.map (Mr τ)) vs
 | [],xs,l,[],hr,hS,hv=>by
   simp only [Cd,Q.eO,Option.some.injEq,Prod.mk.injEq] at hr;obtain ⟨rfl,rfl⟩:=hr;trivial
 | c::cs,xs,l,v::vs,hr,hS,⟨hv,hvs⟩=>by
   obtain ⟨⟨x,l1⟩,h1,h2⟩:=Q.bind_some hr;obtain ⟨⟨xs',l2⟩,h3,h4⟩:=Q.bind_some h2;simp only [Q.run_pure,Option.some.injEq,Prod.mk.injEq] at h4;obtain ⟨rfl,rfl⟩:=h4;exact ⟨HX h h1 (hS.mono fun x hx=>List.mem_append_left _ hx) hv,yX h h3 (hS.mono fun x hx=>List.mem_append_right _ hx) hvs⟩
 | [],_,_,_::_,_,_,hv=>hv.elim
 | _::_,_,_,[],_,_,hv=>hv.elim
theorem Hm (h:Sat M0 w0 N s τ ρ a w) {M':Nat→Prop}:∀ {c x:SW} {l:List Nat} {v:Value},(RI c).run s=some (x,l)→bX M0 ρ s l M'→eY (kV s) τ ρ (Ms M0 ρ s) w c v→(oK τ x).rep M' w v
 | .one c,x,l,v,hr,hS,hv=>by
   obtain ⟨⟨y,l1⟩,h1,h2⟩:=Q.bind_some hr;simp only [Q.run_pure,Option.some.injEq,Prod.mk.injEq] at h2;obtain ⟨rfl,rfl⟩:=h2;exact HX h h1 hS hv
 | .agg cs,x,l,v,hr,hS,⟨vs,e,hv⟩=>by
   obtain ⟨⟨y,l1⟩,h1,h2⟩:=Q.bind_some hr;simp only [Q.run_pure,Option.some.injEq,Prod.mk.injEq] at h2;obtain ⟨rfl,rfl⟩:=h2;exact ⟨vs,e,yX h h1 hS hv⟩
theorem gK (h:Sat M0 w0 N s τ ρ a w) {M':Nat→Prop}:∀ {xs:List Operand} {ys:List SW} {l:List Nat},(rZ xs).run s=some (ys,l)→bX M0 ρ s l M'→cI M' w (ys.map (oK τ)) (xs.map a.eval)
 | [],ys,l,hr,hS=>by
   simp only [rZ,Q.eO,Option.some.injEq,Prod.mk.injEq] at hr;obtain ⟨rfl,rfl⟩:=hr;trivial
 | x::xs,ys,l,hr,hS=>by
   obtain ⟨v,h1,h2⟩:=Q.bind_some hr;obtain ⟨⟨y,l1⟩,h3,h4⟩:=Q.bind_some h2;obtain ⟨⟨ys',l2⟩,h5,h6⟩:=Q.bind_some h4;simp only [Q.run_pure,Option.some.injEq,Prod.mk.injEq] at h6;obtain ⟨rfl,rfl⟩:=h6;exact ⟨Hm h h3 (hS.mono fun x hx=>List.mem_append_left _ hx) (qV h h1),gK h h5 (hS.mono fun x hx=>List.mem_append_right _ hx)⟩
end
open Go.RowKit (Below)
section
variable {P:Program} {w:World}
theorem Bg {T:Nat} {ag:Bool} {n:Nat} (h:jM P T=some (ag,n)):(isAgg T).run P w = .ok ag w∧(sizeOf T).run P w = .ok n w:=by
 unfold jM at h;split at h
 ·rename_i d i hd hi;simp only [Option.some.injEq,Prod.mk.injEq] at h;obtain ⟨rfl,rfl⟩:=h
  constructor
  ·unfold isAgg;rw [Sem.run_bind,run_underlying hd w];cases d<;>rfl
  ·simp [sizeOf,typeInfo,hi]
 ·cases h
theorem oE (g off i:Nat):(⟨g,off,none⟩:Addr).add i=⟨g,off+i,none⟩:=by
 unfold Addr.add;split<;>simp_all
theorem fY {T:Nat} {ag:Bool} {n:Nat} (h:jM P T=some (ag,n)) {g off:Nat} {cs:Array Value} {E:Nat} {fz:Nat×Nat} (hg:w.heap[g]? = some (.cells cs E fz)) (hn:off+n≤cs.size) (h1:ag=true∨n=1) :
  ∃ v,(loadVar T ⟨g,off,none⟩).run P w = .ok v w∧(if ag then v = .agg ((cs.toList.drop off).take n).toArray else (cs.toList.drop off).take n = [v]):=by
 obtain ⟨ha,hs⟩:=Bg (w:=w) h;cases ag with
 | true=>
   refine ⟨_,?_,rfl⟩;have hl:((cs.toList.drop off).take n).length=n:=by simp;omega
   have:=run_loadCells_list (P:=P) w ⟨g,off,none⟩ ((cs.toList.drop off).take n) (fun j v hv=>by
    rw [oE,cell_of_row w g (off+j) cs E fz hg];rw [List.getElem?_take] at hv;split at hv
    ·rw [List.getElem?_drop] at hv;simpa using hv
    ·cases hv)
   rw [hl] at this;simp only [loadVar,Sem.run_bind,ha,Result.andThen_ok,if_true,hs,this,Sem.run_pure]
 | false=>
   have hn1:n=1:=by rcases h1 with h1 | h1<;>simp_all
   subst hn1;have hlt:off<cs.size:=by omega
   refine ⟨cs[off],?_,?_⟩
   ·have hc:w.cell? ⟨g,off,none⟩=some cs[off]:=by rw [cell_of_row w g off cs E fz hg];simp [hlt]
    simp [loadVar,Sem.run_bind,ha,hc]
   ·simp only [Bool.false_eq_true,if_false];rw [List.take_one,List.head?_drop];simp [hlt]
theorem rJ {T:Nat} {ag:Bool} {n:Nat} (h:jM P T=some (ag,n)) {g off:Nat} {cs:Array Value} {E:Nat} (hg:w.heap[g]? = some (.cells cs E (0,0))) {v:Value} (hv:v.cells.size=n) (h1:∀ x∈v.cells.toList,x.oneCell'=true) (hn:off+n≤cs.size) :
  (storeVar T ⟨g,off,none⟩ v).run P w = .ok () (w.setRow g (cs.toList.take off++v.cells.toList++cs.toList.drop (off+n)).toArray):=by
 obtain ⟨ha,hs⟩:=Bg (w:=w) h;have:=run_storeCells_at (P:=P) g off E v.cells.toList 0 cs w hg (by simp;omega) h1;simp only [Nat.add_zero,Array.length_toList,hv] at this;simp [storeVar,Sem.run_bind,hs,hv,this]
theorem fC {o:Oper} {a:Act} {K:Act→World→Prop} {Qp:Exit→Act→World→Prop} {v:Value} {w':World} (hr:(execOp a.eval o).run P w = .ok (.value v) w') (h:K (a.put o.dst v) w'):o.wp P a w K Qp:=by
 unfold Oper.wp;rw [hr];exact h
theorem Bh {o:Oper} {a:Act} {K:Act→World→Prop} {Qp:Exit→Act→World→Prop} {w':World} (hr:(execOp a.eval o).run P w = .ok .skip w') (h:K (a.put o.dst Go.undef) w'):o.wp P a w K Qp:=by
 unfold Oper.wp;rw [hr];exact h
end
section
variable {M0:dK} {w0 w w':World} {N:Nat} {s:St} {τ:Env} {ρ ρ':Nat→Gh} {a:Act}
theorem lY.mono {base:Nat} {ex ex':Nat→Prop} {M M':Nat→Prop} {b:Nat} (he:∀ b,ex b→ex' b∧ρ' b=ρ b) (hk:bZ M w M' w'):∀ {x:Bx},(x ≠ .dead→ρ' b=ρ b)→(∀ k,own ρ b x=some k→w'.heap[k]? = w.heap[k]?) →
  lY base ex τ ρ M w b x→lY base ex' τ ρ' M' w' b x
 | .var T cells,hb,hh,⟨vs,e,h⟩=>by
   rw [←hh _ rfl] at e;refine ⟨vs,?_,h.imp fun _ _=>cT.mono he hk⟩;rw [hb (by simp)];exact e
 | .row E sz cid,hb,hh,⟨ts,xs,e,⟨hx,hown⟩,hl,hr⟩=>by
   refine ⟨ts,xs,e,⟨hx,?_⟩,hl,hr.mono hk⟩;rw [hb (by simp)];rcases hown with hv | ⟨g,cap,cur,hv,hbg,hg,rest⟩
   ·exact .inl hv
   ·refine .inr ⟨g,cap,cur,hv,hbg,?_,rest⟩;rw [hh g (by simp [own,hv,Value.ownBlock])];exact hg
 | .part E sz cid,hb,hh,⟨ts,xs,e,⟨hx,hown⟩,hl,hr,h1⟩=>by
   refine ⟨ts,xs,e,⟨hx,?_⟩,hl,hr.mono hk,by rw [hb (by simp)];exact h1.1,?_⟩
   ·rw [hb (by simp)];rcases hown with hv | ⟨g,off,cap,cur,hv,hg,rest⟩
    ·exact .inl hv
    ·refine .inr ⟨g,off,cap,cur,hv,?_,rest⟩;rw [hh g (by simp [own,hv,Value.ownBlock])];exact hg
   rw [hb (by simp)];intro g off len cap hv cur hg;rw [hh g (by simp [own,hv,Value.ownBlock])] at hg;exact h1.2 g off len cap hv cur hg
 | .dead,_,_,_=>trivial
theorem SZ (d:Option Tmp) (v:Value):(a.put d v).tmps.size=a.tmps.size:=by
 cases d<;>simp [Act.put]
theorem put_defers (d:Option Tmp) (v:Value):(a.put d v).defers=a.defers:=by
 cases d<;>rfl
theorem Xe {o:Oper} {v:Value} (hd:cH N o=true) (hN:a.tmps.size=N) (t:Nat):(a.put o.dst v).tmps.getD t Go.undef=if o.dst=some t then v else a.tmps.getD t Go.undef:=by
 unfold cH at hd;cases h:o.dst with
 | none=>simp [Act.put]
 | some d=>
   simp only [h,decide_eq_true_eq] at hd;simp only [Act.put,Option.some.injEq,Array.getD_eq_getD_getElem?,Array.getElem?_setIfInBounds];by_cases e:d=t
   ·subst e;simp [hN,hd]
   ·simp [e]
theorem Sat.go (h:Sat M0 w0 N s τ ρ a w) {o:Oper} {sv:SV} {bx:List (Nat×Bx)} {sl:List Nat} {v:Value} (hd:cH N o=true)
  (hbel:Kept M0 w0 w')
  (hρ:∀ b,(s.b b).isSome→ρ' b=ρ b)
  (hk:bZ (Ms M0 ρ s) w (Ms M0 ρ' (s.app ⟨put o sv,bx,sl⟩)) w')
  (hv:fQ (kV (s.app ⟨put o sv,bx,sl⟩)) τ ρ' (Ms M0 ρ' (s.app ⟨put o sv,bx,sl⟩)) w' sv v)
  (hold:∀ b x,look bx b=none→s.b b=some x→∀ k,own ρ b x=some k→w'.heap[k]? = w.heap[k]?)
  (hnew:∀ b x,look bx b=some x→lY 0 (kV (s.app ⟨put o sv,bx,sl⟩)) τ ρ' (Ms M0 ρ' (s.app ⟨put o sv,bx,sl⟩)) w' b x)
  (hnlo:∀ b x k,look bx b=some x→own ρ' b x=some k→M0.ours w0 k∧k<w'.heap.size)
  (hninj:∀ b x k,look bx b=some x→own ρ' b x=some k→∀ b' x',(s.app ⟨put o sv,bx,sl⟩).b b'=some x'→own ρ' b' x'=some k→b=b')
  (hnpt:∀ b E sz cid,look bx b=some (.part E sz cid)→ρ' b=M0.gh)
  (hsz:w.heap.size≤w'.heap.size) :
  Sat M0 w0 N (s.app ⟨put o sv,bx,sl⟩) τ ρ' (a.put o.dst v) w':=by
 have he:∀ b,(s.b b).isSome→((s.app ⟨put o sv,bx,sl⟩).b b).isSome∧ρ' b=ρ b:=fun b hb=>by
  refine ⟨?_,hρ b hb⟩;rw [St.fH];cases look bx b<;>simp [hb]
 refine ⟨hbel,by rw [SZ];exact h.sz,by rw [put_defers];exact h.df,fun t=>?_,fun b x hx=>?_,?_,?_,h.old,fun b E sz cid hb=>?_⟩
 rotate_left 4
 ·rw [St.fH] at hb;cases hl:look bx b with
  | some y=>
    simp only [hl,Option.some.injEq] at hb;subst hb;exact hnpt b E sz cid hl
  | none=>
    simp only [hl] at hb;rw [hρ b (by simp [hb])];exact h.pt b E sz cid hb
 ·rw [Xe hd h.sz,St.PG];show fQ _ _ _ _ _ (match look (put o sv) t with | some v=>v | none=>s.t t) _;rw [Rh];by_cases e:o.dst=some t
  ·simp only [e,if_true];exact hv
  ·simp only [e,if_false];exact (h.tm t).mono he hk
 ·rw [St.fH] at hx;cases hl:look bx b with
  | some y=>
    simp only [hl,Option.some.injEq] at hx;subst hx;exact hnew b y hl
  | none=>
    simp only [hl] at hx;exact (h.bx b x hx).mono he hk (fun _=>hρ b (by simp [hx])) (hold b x hl hx)
 ·intro b b' x x' k hb hb' hk1 hk2;have hb0:=hb;have hb0':=hb';rw [St.fH] at hb hb';cases hl:look bx b with
  | some y=>
    simp only [hl,Option.some.injEq] at hb;subst hb;exact hninj b y k hl hk1 b' x' hb0' hk2
  | none=>
    cases hl':look bx b' with
    | some y=>
      simp only [hl',Option.some.injEq] at hb';subst hb';exact (hninj b' y k hl' hk2 b x hb0 hk1).symm
    | none=>
      simp only [hl] at hb;simp only [hl'] at hb';rw [lG (hρ b (by simp [hb]))] at hk1;rw [lG (hρ b' (by simp [hb']))] at hk2;exact h.inj b b' x x' k hb hb' hk1 hk2
 ·intro b x k hb hk1;rw [St.fH] at hb;cases hl:look bx b with
  | some y=>
    simp only [hl,Option.some.injEq] at hb;subst hb;exact hnlo b y k hl hk1
  | none=>
    simp only [hl] at hb;rw [lG (hρ b (by simp [hb]))] at hk1;have:=h.lo b x k hb hk1;exact ⟨this.1,Nat.lt_of_lt_of_le this.2 hsz⟩
theorem zR {e:fM} (hb:e.bx = []) (k:Nat):Ms M0 ρ (s.app e) k↔(M0.M k∨∃ b x,s.b b=some x∧(e.sl.contains b || s.s b)=false∧own ρ b x=some k):=by
 unfold Ms;simp only [St.fH,hb,look,St.qZ]
theorem bX.lU (h:Sat M0 w0 N s τ ρ a w) {tm:List (Nat×SV)} {sl:List Nat}:bX M0 ρ s sl (Ms M0 ρ (s.app ⟨tm,[],sl⟩)):=by
 constructor
 ·intro k hk;rw [zR rfl] at hk;rcases hk with hk | ⟨b,x,h1,h2,h3⟩
  ·exact .inl hk
  ·simp only [Bool.or_eq_false_iff] at h2;exact .inr ⟨b,x,h1,h2.2,h3⟩
 ·intro b x k h1 h2 h3 hk;rw [zR rfl] at hk;rcases hk with hk | ⟨b',x',h4,h5,h6⟩
  ·exact h.old k hk (h.lo b x k h1 h2).1
  ·have:=h.inj b b' x x' k h1 h4 h2 h6;subst this;simp only [Bool.or_eq_false_iff] at h5;rcases h3 with h3 | h3
   ·rw [h3] at h5;simp at h5
   ·have:sl.contains b=true:=by simpa using h3
    rw [this] at h5;simp at h5
theorem Sat.calls (h:Sat M0 w0 N s τ ρ a w) {o:Oper} {sv:SV} {sl:List Nat} {v:Value} (hd:cH N o=true)
  (hb:Below w.heap.size w w')
  (hv:fQ (kV (s.app ⟨put o sv,[],sl⟩)) τ ρ (Ms M0 ρ (s.app ⟨put o sv,[],sl⟩)) w' sv v) :
  Sat M0 w0 N (s.app ⟨put o sv,[],sl⟩) τ ρ (a.put o.dst v) w':=by
 have hS:=bX.lU h (tm:=put o sv) (sl:=sl);refine h.go hd (h.below.and hb) (fun _ _=>rfl) ((hS.jD (w:=w)).trans (bZ.below hb)) hv (fun b x _ hx k hk=>hb.block k (h.lo b x k hx hk).2) (fun b x hx=>by cases hx) (fun b x k hx=>by cases hx) (fun b x k hx=>by cases hx) (fun b E sz cid hx=>by cases hx) hb.size
theorem Sat.pure (h:Sat M0 w0 N s τ ρ a w) {o:Oper} {sv:SV} {v:Value} (hd:cH N o=true)
  (hv:fQ (kV s) τ ρ (Ms M0 ρ s) w sv v) :
  Sat M0 w0 N (s.app ⟨put o sv,[],[]⟩) τ ρ (a.put o.dst v) w:=
 h.calls hd (Below.refl _ _) (hv.mono (fun b hb=>⟨by rw [kV,St.fH];simpa [look] using hb,rfl⟩) (bX.lU h).jD)
end
open Go.RowKit (Below)
def gR (P:Program) (τ:Env) (op:Op) (ty:Nat) (nd:cY) (ni:Nat):Prop:=
 ∃ news,sU P τ op ty nd news∧news.length=nd.ids∧∀ j t,news[j]? = some t→τ[ni+j]? = some t
section
variable {P:Program} {M0:dK} {w0 w w':World} {N:Nat} {s:St} {τ:Env} {ρ ρ':Nat→Gh} {a:Act} {M:Nat→Prop} {ex:Nat→Prop}
theorem aY.yG {α β:Type} {R:α→β→Prop}:∀ {xs:List α} {ys:List β},xs.length=ys.length→(∀ (j:Nat) x y,xs[j]? = some x→ys[j]? = some y→R x y)→aY R xs ys
 | [],[],_,_=>trivial
 | x::xs,y::ys,hl,h=>⟨h 0 x y rfl rfl,aY.yG (by simpa using hl) fun j x' y' hx hy=>h (j+1) x' y' (by simpa using hx) (by simpa using hy)⟩
 | [],_::_,hl,_=>by simp at hl
 | _::_,[],hl,_=>by simp at hl
theorem sG {ni:Nat} {t:aF} {sh:Option Nat} {v:Value} (ht:τ[ni]? = some t) (hs:t.shape=some sh) (hv:t.rep M w v):eY ex τ ρ M w (rG ni sh) v:=by
 have hg:τ.getD ni (.rows [])=t:=by rw [List.getD_eq_getElem?_getD,ht];rfl
 cases t with
 | one c=>
   simp only [aF.shape,Option.some.injEq] at hs;subst hs;show (c0 τ (.u ni 0)).rep M w v;simp only [c0,hg];exact hv
 | agg cs=>
   simp only [aF.shape,Option.some.injEq] at hs;subst hs;obtain ⟨vs,e,hr⟩:=hv;refine ⟨vs,e,aY.yG (by simp [hr.length]) fun j x y hx hy=>?_⟩;rw [List.getElem?_map] at hx
   have hj:j<cs.length:=by
    have:=(List.getElem?_eq_some_iff.1 hy).1;rw [hr.length];exact this
   rw [List.getElem?_range hj] at hx;simp only [Option.map_some,Option.some.injEq] at hx;subst hx;obtain ⟨y',hy',hrep⟩:=hr.get j cs[j] (List.getElem?_eq_getElem hj);rw [hy] at hy';simp only [Option.some.injEq] at hy';subst hy';show (c0 τ (.u ni j)).rep M w y;simp only [c0,hg,aF.cell,aF.cells,List.getD_eq_getElem?_getD,List.getElem?_eq_getElem hj,Option.getD_some];exact hrep
 | rows ts=>simp [aF.shape] at hs
theorem cI.get:∀ {ts:List aF} {vs:List Value},cI M w ts vs→∀ (j:Nat) (v:Value),vs[j]? = some v→∃ t,ts[j]? = some t∧t.rep M w v
 | [],[],_,j,v,hv=>by simp at hv
 | t0::ts,v0::vs,⟨a,b⟩,j,v,hv=>by
   cases j with
   | zero=>simp at hv;subst hv;exact ⟨t0,rfl,a⟩
   | succ j=>simpa using b.get j v (by simpa using hv)
 | [],_::_,k,_,_,_=>k.elim
 | _::_,[],k,_,_,_=>k.elim
theorem cI.append:∀ {cs vs cs' vs'},cI M w cs vs→cI M w cs' vs'→cI M w (cs++cs') (vs++vs')
 | [],[],_,_,_,h=>h
 | _::_,_::_,_,_,⟨a,b⟩,h=>⟨a,b.append h⟩
 | [],_::_,_,_,k,_=>k.elim
 | _::_,[],_,_,k,_=>k.elim
theorem cI.tZ:∀ {cs vs},aZ M w cs vs→cI M w (cs.map .one) vs
 | [],[],_=>trivial
 | _::_,_::_,⟨a,b⟩=>⟨a,cI.tZ b⟩
 | [],_::_,k=>k.elim
 | _::_,[],k=>k.elim
theorem Dq {ni:Nat} {news:List aF} {sh:List (Option Nat)} {vs:List Value} (hs:news.map aF.shape=sh.map some) (hτ:∀ j t,news[j]? = some t→τ[ni+j]? = some t) (hv:cI M w news vs) :
  fQ ex τ ρ M w (kL ni sh) (pack vs):=by
 have hl:sh.length=vs.length:=by
  have:=congrArg List.length hs;simp only [List.length_map] at this;rw [←hv.length];exact this.symm
 have key:∀ j x v,sh[j]? = some x→vs[j]? = some v→eY ex τ ρ M w (rG (ni+j) x) v:=fun j x v hx hvj=>by
  obtain ⟨t,ht,hrep⟩:=hv.get j v hvj;refine sG (hτ j t ht) ?_ hrep;have:=congrArg (fun l=>l[j]?) hs;simp only [List.getElem?_map,ht,hx,Option.map_some,Option.some.injEq] at this;exact this
 unfold kL;split
 ·rename_i x
  match vs,hl with
  | [v],_=>exact key 0 x v rfl rfl
 ·rename_i hne
  have hp:pack vs = .tuple vs.toArray:=by
   match vs,hl with
   | [],_=>rfl
   | [v],hl=>match sh,hl with | [x],_=>exact absurd rfl (hne x)
   | _::_::_,_=>rfl
  rw [hp];refine ⟨vs,rfl,aY.yG (by simp [hl]) fun j x y hx hy=>?_⟩;rw [List.getElem?_mapIdx] at hx;cases hsj:sh[j]? with
  | none=>rw [hsj] at hx;cases hx
  | some z=>
    rw [hsj] at hx;simp only [Option.map_some,Option.some.injEq] at hx;subst hx;exact key j z y hsj hy
theorem cC (h:Sat M0 w0 N s τ ρ a w) {o:Oper} {ni:Nat} {e:fM} {nd:cY} {Qp:Exit→Act→World→Prop} (hd:cH N o=true) (hq:(wA P o ni).run s=some (e,nd)) (hn:gR P τ o.op o.type nd ni) :
  o.wp P a w (fun a' w'=>∃ ρ',Sat M0 w0 N (s.app e) τ ρ' a' w') Qp:=by
 obtain ⟨⟨args,sl⟩,h1,h2⟩:=Q.bind_some hq;obtain ⟨sh,h3,h4⟩:=Q.bind_some h2;simp only [Q.run_pure,Option.some.injEq,Prod.mk.injEq] at h4;obtain ⟨rfl,rfl⟩:=h4;obtain ⟨news,⟨t,rfl,hsh,hp⟩,_,hτ⟩:=hn;have ht:τ[ni]? = some t:=by simpa using hτ 0 t rfl
 have hS:=bX.lU h (tm:=put o (.w (rG ni sh))) (sl:=sl);have hrep:=gK h h1 hS;obtain ⟨v,hr,hv⟩:=hp _ w a.eval o rfl rfl hrep;exact fC hr ⟨ρ,h.calls hd (Below.refl _ _) (sG ht hsh hv)⟩
theorem aW7 (h:Sat M0 w0 N s τ ρ a w) {k:Nat} (hk:Ms M0 ρ s k):k<w.heap.size:=by
 rcases hk with hk | ⟨b,x,h1,_,h3⟩
 ·exact Nat.lt_of_lt_of_le (Nat.lt_of_not_le fun hl=>h.old k hk (.inl hl)) h.below.size
 ·exact (h.lo b x k h1 h3).2
theorem Sat.Gg (h:Sat M0 w0 N s τ ρ a w):dL (Ms M0 ρ s) w:=by
 refine ⟨fun b hb=>aW7 h hb,fun x hx=>?_⟩;obtain ⟨h1,h2,T,fz,h3⟩:=h.below.good x hx;have hlt:=(Array.getElem?_eq_some_iff.1 h3).1;refine ⟨?_,T,fz,by rw [h.below.block _ hlt h2];exact h3⟩;rintro (hm | ⟨b,y,h4,_,h5⟩)
 ·exact h1 hm
 ·exact (h.lo b y _ h4 h5).1.elim (fun hl=>Nat.not_lt.2 hl hlt) h2
theorem wW {o:Oper} {c:Call} {x:Operand} {f:FuncId} {cvs:List Value} (ho:o.op = .call c) (hc:c.callee = .value x) (hx:a.eval x = .func (.func f) #[] cvs.toArray)
  (he:∀ as w,(callFunc f as).run P w = .ok (.enter f as) w) :
  (execOp a.eval o).run P w = .ok (.enter f (c.args.toList.map a.eval++cvs).toArray) w:=by
 unfold execOp;simp only [ho,resolve,hc,hx,Deferred.ofValue,Sem.run_bind,Sem.run_pure,Result.andThen_ok,invoke,he]
 congr 2
 apply Array.ext';simp
theorem Lx (h:Sat M0 w0 N s τ ρ a w) {o:Oper} {c:Call} {x:Operand} {f:FuncId} {cvs:List Value} {caps:List aH} {args:List SW} {sh:List (Option Nat)} {sl:List Nat} {ni:Nat} {news:List aF} {Qp:Exit→Act→World→Prop}
  (hd:cH N o=true) (ho:o.op = .call c) (hc:c.callee = .value x) (hx:a.eval x = .func (.func f) #[] cvs.toArray)
  (hargs:cI (Ms M0 ρ (s.app ⟨put o (kL ni sh),[],sl⟩)) w (args.map (oK τ)) (c.args.toList.map a.eval))
  (hcaps:aZ (Ms M0 ρ (s.app ⟨put o (kL ni sh),[],sl⟩)) w caps cvs)
  (hsh:news.map aF.shape=sh.map some) (hτ:∀ j t,news[j]? = some t→τ[ni+j]? = some t)
  (hdo:aM P f (args.map (oK τ)++caps.map .one) (.ret news)) :
  o.wp P a w (fun a' w'=>∃ ρ',Sat M0 w0 N (s.app ⟨put o (kL ni sh),[],sl⟩) τ ρ' a' w') Qp:=by
 unfold Oper.wp;rw [wW ho hc hx hdo.1];rw [Oper.upon_enter];have hS:=bX.lU h (tm:=put o (kL ni sh)) (sl:=sl);refine (hdo.2 _ w _ (h.Gg.sub hS.sub) (hargs.append (cI.tZ hcaps))).mono ?_;rintro e w' ⟨hb,vs,rfl,hr⟩;exact ⟨ρ,h.calls hd hb (Dq hsh hτ hr)⟩
theorem Io {o:Oper} {c:Call} {x:Operand} {f:FuncId} {cvs:List Value} {caps:List aH} {args:List SW} {sl:List Nat} {tm:List (Nat×SV)} {ct:aH} {K:Act→World→Prop} {Qp:Exit→Act→World→Prop}
  (h:Sat M0 w0 N s τ ρ a w) (ho:o.op = .call c) (hc:c.callee = .value x) (hx:a.eval x = .func (.func f) #[] cvs.toArray)
  (hargs:cI (Ms M0 ρ (s.app ⟨tm,[],sl⟩)) w (args.map (oK τ)) (c.args.toList.map a.eval))
  (hcaps:aZ (Ms M0 ρ (s.app ⟨tm,[],sl⟩)) w caps cvs)
  (hdo:aM P f (args.map (oK τ)++caps.map .one) (.pan ct))
  (hQ:∀ v w',Below w.heap.size w w'→ct.rep (Ms M0 ρ (s.app ⟨tm,[],sl⟩)) w' v→Qp (.panic [{ v,recovered:=false }]) a w') :
  o.wp P a w K Qp:=by
 unfold Oper.wp;rw [wW ho hc hx hdo.1];rw [Oper.upon_enter];have hS:=bX.lU h (tm:=tm) (sl:=sl);refine (hdo.2 _ w _ (h.Gg.sub hS.sub) (hargs.append (cI.tZ hcaps))).mono ?_;rintro e w' ⟨hb,v,rfl,hr⟩;exact hQ v w' hb hr
theorem bR {f:FuncId} (h:zO P f=true):∀ as w,(callFunc f as).run P w = .ok (.enter f as) w:=by
 intro as w;unfold zO at h;split at h
 ·rename_i fn hf;simp only [Bool.and_eq_true,bne_iff_ne,ne_eq] at h;have hb:¬ fn.body=none:=by intro hb;rw [hb] at h;simp at h
  simp [callFunc,program,hf,Sem.run,h.1,hb]
 ·cases h
end
end Go.Sy
