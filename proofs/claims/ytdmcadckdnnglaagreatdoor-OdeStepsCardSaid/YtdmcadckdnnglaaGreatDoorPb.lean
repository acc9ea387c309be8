/- Lists of rational numbers: Clone, Trim, Degree. slices.Backward over numbers; Horner's rule. Numbers as they are handed in.
-/
import Derived.Test.YtdmcadckdnnglaaGreatDoorRb
import Derived.Laws.Cover3
import Derived.RangeFuncFrom
import Derived.RangeFuncBox
import Derived.RangeFuncLeaves
import Derived.Shelf.Abstract
import Derived.WalkKit
import Derived.OwnWalkIn
import Derived.TacticsInMore
import Derived.LoopNIn
import Derived.LoopIn
set_option linter.unusedVariables false
set_option linter.unusedSimpArgs false
namespace Go.Sy
open Go Go.Proofs Tryz Ord
def aC2:Tr:=.need (.prim [(W 0 0),(.one (.c (.k (.slice none 0 0))))] none) (.binOp .eql 72 (tT 3) (.const (.slice none 0 0)) 72) 4 false (.split (.u 1 0) (.ret [(.one (.c (.k (.slice none 0 0))))]) (.need (.lit 3 []) (.buildSlice 72 0 #[]) 72 false (.need (.app 3 56 (some 2) (some (.u 0 0)) none) (.call ⟨.builtin .append,#[(tT 5),(tT 6)],#[72,72]⟩) 72 false (.ret [(.one (.c (.sr 3 3)))]))))
theorem JC:aN prog f113 (fun _=>none) [.v none]=aC2:=by kernel_rfl
def PQ:Tr:=aU .sub 3 17 1 2 0 3 (.back 0 [lV 9 0])
def aT5:Tr:=dI 5 0 (some 3) 39 12 (aK 35 [(G3 6)] [none] [13] [39] 3 false (aU .eql 3 14 0 7 0 4 (.split (.u 8 0) PQ (.need (.prim [(W 0 0),(W 2 0)] none) (.slice 72 (tT 19) none (some (tT 20)) none) 72 false (aK 113 [(W 9 0)] [none] [21] [72] 72 true (.ret [(W 10 0)]))))))
def aN1:Tr:=cB 0 0 4 72 (.loop 0 [lV 1 0] (aU .gtr 3 6 0 2 0 4 (.split (.u 3 0) (aU .sub 3 10 1 2 0 3 (eD 0 0 4 0 72 9 11 aT5)) (.need (.prim [(W 0 0),(W 2 0)] none) (.slice 72 (tT 19) none (some (tT 20)) none) 72 false (aK 113 [(W 4 0)] [none] [21] [72] 72 true (.ret [(W 5 0)]))))))
theorem Vd:aN prog f34 (fun _=>none) [.v none]=aN1:=by kernel_rfl
def ZA:Tr:=aU .sub 3 5 1 2 0 3 (.ret [(W 3 0)])
def aL1:Tr:=aK 34 [(W 0 0)] [none] [3] [72] 72 false (cB 1 0 4 72 ZA)
theorem NB:aN prog f95 (fun _=>none) [.v none]=aL1:=by kernel_rfl
def aQ8:Tr:=dI 5 0 (some 4) 49 12 (aK 46 [(G4 6)] [none] [13] [49] 3 false (aU .eql 3 14 0 7 0 4 (.split (.u 8 0) PQ (.need (.prim [(W 0 0),(W 2 0)] none) (.slice 167 (tT 19) none (some (tT 20)) none) 167 false (.need (.app 4 64 none (some (.u 9 0)) none) (.call ⟨.builtin .append,#[(.const (.slice none 0 0)),(tT 21)],#[167,167]⟩) 167 false (.ret [(.one (.c (.sr 4 10)))]))))))
def aH5:Tr:=cB 0 0 4 167 (.loop 0 [lV 1 0] (aU .gtr 3 6 0 2 0 4 (.split (.u 3 0) (aU .sub 3 10 1 2 0 3 (eD 0 0 4 0 167 9 11 aQ8)) (.need (.prim [(W 0 0),(W 2 0)] none) (.slice 167 (tT 19) none (some (tT 20)) none) 167 false (.need (.app 4 64 none (some (.u 4 0)) none) (.call ⟨.builtin .append,#[(.const (.slice none 0 0)),(tT 21)],#[167,167]⟩) 167 false (.ret [(.one (.c (.sr 4 5)))]))))))
theorem UQ:aN prog f144 (fun _=>none) [.v none]=aH5:=by kernel_rfl
def aC6:Tr:=aK 144 [(W 0 0)] [none] [3] [167] 167 false (cB 1 0 4 167 ZA)
theorem NA:aN prog f96 (fun _=>none) [.v none]=aC6:=by kernel_rfl
def aH.Rm:aH where
 rep:=fun _ _ v=>∃ cap,v = .slice none 0 cap∧cap≤maxLen
 mono:=fun _ h=>h
 one:=by rintro M w v ⟨cap,rfl,_⟩;rfl
def aH.nnS (sz:Nat) (ts:List (List aH)):aH where
 rep:=fun M w v=>(aH.slice sz ts).rep M w v∧∃ a l c,v = .slice (some a) l c
 mono:=fun hk h=>⟨aH.mono _ hk h.1,h.2⟩
 one:=fun h=>aH.one _ h.1
theorem aH.Sub.nn {sz:Nat} {ts:List (List aH)}:(aH.nnS sz ts).Sub (.slice sz ts):=
 .inr ⟨fun M w v h=>by obtain ⟨_,a,l,c,rfl⟩:=h;exact ⟨some a,l,c,rfl⟩,fun M w v h=>h.1⟩
theorem Jr {sz:Nat} {ts:List (List aH)} {M:Nat→Prop} {w:World} {v:Value} (h:(aH.slice sz ts).rep M w v):(ts = []∧aH.Rm.rep M w v)∨(aH.nnS sz ts).rep M w v:=by
 have h0:=h;obtain ⟨a,cap,rfl,hc,hm,hel⟩:=h;cases a with
 | some a=>exact .inr ⟨h0,a,_,_,rfl⟩
 | none=>
   rcases hel with rfl | ⟨b,off,cs,T,fz,e,_⟩
   ·exact .inl ⟨rfl,cap,rfl,hm⟩
   ·cases e
theorem Lr {P:Program} {f:FuncId} {sz:Nat} {ts:List (List aH)} {out:Out} (h1:ts = []→aM P f [.one .Rm] out) (h2:aM P f [.one (.nnS sz ts)] out):aM P f [.one (.slice sz ts)] out:=by
 refine ⟨h2.1,fun M w vs hM hv=>?_⟩
 match vs,hv with
 | [v],hv=>
   rcases Jr hv.1 with ⟨e,h⟩ | h
   ·exact (h1 e).2 M w [v] hM ⟨h,trivial⟩
   ·exact h2.2 M w [v] hM ⟨h,trivial⟩
 | [],hv=>exact hv.elim
 | _::_::_,hv=>exact hv.2.elim
section
variable {P:Program} {T U ty:TypeId} {x y:Operand}
theorem an8 {E sz b:Nat} (h:cM P T=some (E,sz,b)):aX P (.binOp .eql T x y U) ty [.one .Rm, .one (.exact (.slice none 0 0))] (.one (.bool true)):=by
 obtain ⟨ie,hu,_⟩:=cS h;intro M w ρ o ho ht hr;obtain ⟨hx,hy⟩:=rU (x:=x) (y:=y) hr;obtain ⟨cap,hx,_⟩:=hx;have hy:ρ y = .slice none 0 0∧_:=hy;refine ⟨.bool true,?_,⟨rfl,rfl⟩⟩;simp [execOp,ho,hx,hy.1,eqGuard,binOp,run_equal_slice_nil w T E none 0 cap hu]
theorem ao3 {E sz b sz':Nat} {ts:List (List aH)} (h:cM P T=some (E,sz,b)):aX P (.binOp .eql T x y U) ty [.one (.nnS sz' ts), .one (.exact (.slice none 0 0))] (.one (.bool false)):=by
 obtain ⟨ie,hu,_⟩:=cS h;intro M w ρ o ho ht hr;obtain ⟨hx,hy⟩:=rU (x:=x) (y:=y) hr;obtain ⟨_,a,l,c,hx⟩:=hx;have hy:ρ y = .slice none 0 0∧_:=hy;refine ⟨.bool false,?_,⟨rfl,rfl⟩⟩;simp [execOp,ho,hx,hy.1,eqGuard,binOp,run_equal_slice_nil w T E (some a) l c hu]
end
theorem NQ  :aM prog 113 [(.one .Rm:aF)] (.ret [.one (.slice 3 [])]):=by
 refine aD (args:=[.v none]) (ins:=[.v (.one .Rm)]) (hints:=(fun _=>none)) fo (by kernel_rfl) func113 ⟨rfl,trivial⟩ ?_;rw [JC];dsimp only [List.map,In.env,aB,aA];refine vn (an8 jF) rfl ?_;dsimp only [aB,aA];refine rA true rfl (fun _=>?_) (fun h=>by cases h);exact eG ⟨aH.Sub.nil,trivial⟩
theorem OL (ts:List (List aH)) (hs:ts.length<1099511627776):aM prog 113 [(.one (.nnS 3 ts):aF)] (.ret [.one (.slice 3 ts)]):=by
 refine aD (args:=[.v none]) (ins:=[.v (.one (.nnS 3 ts))]) (hints:=(fun _=>none)) fo (by kernel_rfl) func113 ⟨rfl,trivial⟩ ?_;rw [JC];dsimp only [List.map,In.env,aB,aA];refine vn (ao3 jF) rfl ?_;dsimp only [aB,aA];refine rA false rfl (fun h=>by cases h) (fun _=>?_);refine cL (us:=[]) rfl ?_;dsimp only [aB,aA];refine uE (ts:=[]) (us:=ts) (vs:=ts) rfl (.inr aH.Sub.nn) rfl (by omega) (by simp only [maxLen];omega) ?_;exact aL rfl
theorem Ht (ts:List (List aH)) (hs:ts.length<1099511627776):aM prog 113 [.one (.slice 3 ts)] (.ret [.one (.slice 3 ts)]):=
 Lr (fun e=>by subst e;exact NQ) (OL ts hs)
def dH {α:Type} (z:α→Bool):List α→Nat
 | []=>0
 | x::xs=>if dH z xs=0∧z x=true then 0 else dH z xs+1
theorem gL {α:Type} {z:α→Bool}:∀ l:List α,dH z l≤l.length
 | []=>Nat.le_refl _
 | x::xs=>by
   have:=gL (z:=z) xs;simp only [dH,List.length_cons];split<;>omega
theorem tW {α:Type} {z:α→Bool}:∀ {l:List α} {n:Nat},n≤l.length→(∀ i x,n≤i→l[i]? = some x→z x=true)→(n=0∨∃ x,l[n-1]? = some x∧z x=false)→dH z l=n
 | [],n,h,_,_=>by simp at h;subst h;rfl
 | x::xs,n,h,h1,h2=>by
   cases n with
   | zero=>
     have h3:=tW (z:=z) (l:=xs) (n:=0) (Nat.zero_le _) (fun i y _ hy=>h1 (i+1) y (Nat.zero_le _) (by simpa using hy)) (.inl rfl);have h4:=h1 0 x (Nat.zero_le _) rfl;simp [dH,h3,h4]
   | succ n=>
     have h3:=tW (z:=z) (l:=xs) (n:=n) (by simpa using h) (fun i y hi hy=>h1 (i+1) y (by omega) (by simpa using hy)) (by
      cases n with
      | zero=>exact .inl rfl
      | succ n=>
        rcases h2 with h2 | ⟨y,hy,hz⟩
        ·omega
        ·exact .inr ⟨y,by simpa using hy,hz⟩)
     simp only [dH,h3];rw [if_neg];rintro ⟨h4,h5⟩;subst h4;rcases h2 with h2 | ⟨y,hy,hz⟩
     ·omega
     ·simp at hy;subst hy;rw [h5] at hz;cases hz
theorem CD {α β:Type} {z:β→Bool} (f:α→β):∀ l:List α,dH z (l.map f)=dH (fun a=>z (f a)) l
 | []=>rfl
 | x::xs=>by simp only [List.map_cons,dH,CD f xs]
abbrev rQ (ps:List Rat):List (List aH):=ps.map qC
abbrev sQ (ps:List Rat):aH:=.slice 3 (rQ ps)
abbrev rR (ps:List RQ):List (List aH):=ps.map rC
abbrev sR (ps:List RQ):aH:=.slice 4 (rR ps)
def zr (q:Rat):Bool:=decide (q=0)
def HR (a:RQ):Bool:=decide (a.q=0)
def trim (ps:List Rat):List Rat:=ps.take (dH zr ps)
def dV (ps:List RQ):List RQ:=ps.take (dH HR ps)
theorem pP (ps:List RQ):(dV ps).map RQ.q=trim (ps.map RQ.q):=by
 rw [trim,CD,dV,List.map_take];rfl
theorem AL {q:Rat}:zr q=decide (q.num.sign=0):=by rw [zr,decide_eq_decide];exact sign_zero.symm
theorem gF (ps:List Rat):(trim ps).length=dH zr ps:=by rw [trim,List.length_take];have:=gL (z:=zr) ps;omega
theorem wU (ps:List RQ):(dV ps).length=dH HR ps:=by rw [dV,List.length_take];have:=gL (z:=HR) ps;omega
theorem vT {E sz b T:Nat} {α:Type} {f:α→List aH} {ds:List α} {x:Operand} {ty:Nat} {y:Operand} {k:IntKind} {n:Int} {m:Nat} (h:cM prog T=some (E,sz,b)) (h0:0≤n) (hm:n.toNat=m) (hn:m≤ds.length):aX prog (.slice T x none (some y) none) ty [.one (.slice sz (ds.map f)), .one (.int k n)] (.one (.slice sz ((ds.take m).map f))):=by
 have:=EL (P:=prog) (T:=T) (x:=x) (y:=y) (ty:=ty) (k:=k) (n:=n) (ts:=ds.map f) h h0 (by rw [List.length_map,hm];exact hn);rw [hm,←List.map_take] at this;exact this
theorem wS (ps:List Rat) (hs:ps.length<1099511627776):aM prog 34 [(.one (sQ ps):aF)] (.ret [.one (sQ (trim ps))]):=by
 refine aD (args:=[.v none]) (ins:=[.v (.one (sQ ps))]) (hints:=(fun _=>none)) fo (by kernel_rfl) func34 ⟨rfl,trivial⟩ ?_;rw [Vd];dsimp only [List.map,In.env,aB,aA];refine vn (aP jF (List.length_map _)) rfl ?_;dsimp only [aB,aA];refine bC {n:Nat // n≤ps.length∧∀ i q,n≤i→ps[i]? = some q→zr q=true} (fun g=>[.one (.int .i64 g.1)]) (fun g=>g.1) ⟨ps.length,Nat.le_refl _,fun i q hi hq=>by have:=(List.getElem?_eq_some_iff.1 hq).1;omega⟩ aO.rfl (fun _=>rfl) ?_;rintro ⟨n,hn,hz⟩;dsimp only [aB,aA] at hn hz ⊢;refine vn dB rfl ?_;dsimp only [aB,aA];refine vs _ rfl (fun h3=>?_) (fun h3=>?_)
 ·refine vn (aG (by omega) (by omega)) rfl ?_;dsimp only [aB,aA];obtain ⟨q,hq⟩:∃ q,ps[n-1]? = some q:=⟨_,List.getElem?_eq_getElem (by omega)⟩
  refine vn (aW jF (by omega) (by omega) hq) rfl ?_;dsimp only [aB,aA];refine vn (bO sS (by decide) (by simp) (.inl rfl)) rfl ?_;dsimp only [aB,aA];refine aC (oD q) rfl ?_;dsimp only [aB,aA];refine vn bL rfl ?_;dsimp only [aB,aA];refine vs _ rfl (fun h9=>?_) (fun h9=>?_)
  ·refine vn (aG (by omega) (by omega)) rfl ?_;dsimp only [aB,aA]
   exact aR rfl ⟨⟨n-1,by omega,fun i r hi hr=>by
    rcases Nat.lt_or_ge i n with h | h
    ·rw [show i=n-1 by omega,hq] at hr;simp only [Option.some.injEq] at hr;subst hr;rw [AL];simpa using h9
    ·exact hz i r h hr⟩,⟨aF.Sub.of_eq (congrArg (fun q=>aF.one (aH.int .i64 q)) (by show (n:Int)-1=((n-1:Nat):Int);omega)),trivial⟩,by show n-1<n;omega⟩
  refine vn (vT jF (by omega) (by omega) hn) rfl ?_;dsimp only [aB,aA];have ht:=tW hn hz (.inr ⟨q,hq,by rw [AL];simpa using h9⟩);refine aC (Ht _ (by rw [List.length_map,List.length_take];omega)) rfl ?_;dsimp only [aB,aA];rw [trim,ht];exact aL rfl
 refine vn (vT jF (by omega) (by omega) hn) rfl ?_;dsimp only [aB,aA];have ht:=tW hn hz (.inl (by omega));refine aC (Ht _ (by rw [List.length_map,List.length_take];omega)) rfl ?_;dsimp only [aB,aA];rw [trim,ht];exact aL rfl
theorem yU (ps:List Rat) (hs:ps.length<1099511627776):aM prog 95 [(.one (sQ ps):aF)] (.ret [.one (.int .i64 ((dH zr ps:Int)-1))]):=by
 refine aD (args:=[.v none]) (ins:=[.v (.one (sQ ps))]) (hints:=(fun _=>none)) fo (by kernel_rfl) func95 ⟨rfl,trivial⟩ ?_;rw [NB];dsimp only [List.map,In.env,aB,aA];have hle:=gL (z:=zr) ps;have htl:=gF ps;refine aC (wS ps hs) rfl ?_;dsimp only [aB,aA];refine vn (aP jF (List.length_map _)) rfl ?_;dsimp only [aB,aA];refine vn (aG (by omega) (by omega)) rfl ?_;dsimp only [aB,aA];rw [←htl];exact aL rfl
theorem wP (ps:List RQ) (hs:ps.length<1099511627776):aM prog 144 [(.one (sR ps):aF)] (.ret [.one (sR (dV ps))]):=by
 refine aD (args:=[.v none]) (ins:=[.v (.one (sR ps))]) (hints:=(fun _=>none)) fo (by kernel_rfl) func144 ⟨rfl,trivial⟩ ?_;rw [UQ];dsimp only [List.map,In.env,aB,aA];refine vn (aP dX (List.length_map _)) rfl ?_;dsimp only [aB,aA];refine bC {n:Nat // n≤ps.length∧∀ i q,n≤i→ps[i]? = some q→HR q=true} (fun g=>[.one (.int .i64 g.1)]) (fun g=>g.1) ⟨ps.length,Nat.le_refl _,fun i q hi hq=>by have:=(List.getElem?_eq_some_iff.1 hq).1;omega⟩ aO.rfl (fun _=>rfl) ?_;rintro ⟨n,hn,hz⟩;dsimp only [aB,aA] at hn hz ⊢;refine vn dB rfl ?_;dsimp only [aB,aA];refine vs _ rfl (fun h3=>?_) (fun h3=>?_)
 ·refine vn (aG (by omega) (by omega)) rfl ?_;dsimp only [aB,aA];obtain ⟨q,hq⟩:∃ q,ps[n-1]? = some q:=⟨_,List.getElem?_eq_getElem (by omega)⟩
  refine vn (aW dX (by omega) (by omega) hq) rfl ?_;dsimp only [aB,aA];refine vn (bO qG (by decide) (by simp) (.inl rfl)) rfl ?_;dsimp only [aB,aA];refine aC (MI q) rfl ?_;dsimp only [aB,aA];refine vn bL rfl ?_;dsimp only [aB,aA];refine vs _ rfl (fun h9=>?_) (fun h9=>?_)
  ·refine vn (aG (by omega) (by omega)) rfl ?_;dsimp only [aB,aA]
   exact aR rfl ⟨⟨n-1,by omega,fun i r hi hr=>by
    rcases Nat.lt_or_ge i n with h | h
    ·rw [show i=n-1 by omega,hq] at hr;simp only [Option.some.injEq] at hr;subst hr;show zr q.q=true;rw [AL];simpa using h9
    ·exact hz i r h hr⟩,⟨aF.Sub.of_eq (congrArg (fun q=>aF.one (aH.int .i64 q)) (by show (n:Int)-1=((n-1:Nat):Int);omega)),trivial⟩,by show n-1<n;omega⟩
  refine vn (vT dX (by omega) (by omega) hn) rfl ?_;dsimp only [aB,aA];have ht:=tW (z:=HR) hn hz (.inr ⟨q,hq,by show zr q.q=false;rw [AL];simpa using h9⟩);refine uE (ts:=[]) (us:=rR (ps.take n)) (vs:=rR (ps.take n)) rfl (.inr aH.Sub.same) rfl (by rw [List.length_map,List.length_take];omega) (by rw [List.length_map,List.length_take];simp only [maxLen];omega) ?_;dsimp only [aB,aA];rw [dV,ht];exact aL rfl
 refine vn (vT dX (by omega) (by omega) hn) rfl ?_;dsimp only [aB,aA];have ht:=tW (z:=HR) hn hz (.inl (by omega));refine uE (ts:=[]) (us:=rR (ps.take n)) (vs:=rR (ps.take n)) rfl (.inr aH.Sub.same) rfl (by rw [List.length_map,List.length_take];omega) (by rw [List.length_map,List.length_take];simp only [maxLen];omega) ?_;dsimp only [aB,aA];rw [dV,ht];exact aL rfl
theorem uA (ps:List RQ) (hs:ps.length<1099511627776):aM prog 96 [(.one (sR ps):aF)] (.ret [.one (.int .i64 ((dH HR ps:Int)-1))]):=by
 refine aD (args:=[.v none]) (ins:=[.v (.one (sR ps))]) (hints:=(fun _=>none)) fo (by kernel_rfl) func96 ⟨rfl,trivial⟩ ?_;rw [NA];dsimp only [List.map,In.env,aB,aA];have hle:=gL (z:=HR) ps;have htl:=wU ps;refine aC (wP ps hs) rfl ?_;dsimp only [aB,aA];refine vn (aP dX (List.length_map _)) rfl ?_;dsimp only [aB,aA];refine vn (aG (by omega) (by omega)) rfl ?_;dsimp only [aB,aA];rw [←htl];exact aL rfl
open Go Go.Proofs Go.RowKit Go.Shelf Tryz Ord
attribute [local go_sem] Oper.semAt_some
section
variable {α:Type} [Inhabited α] {e0 e1 e2:α→Value}
set_option maxRecDepth 100000 in
set_option maxHeartbeats 2000000 in
theorem Oo (l Bs n₀ b off cap:Nat) (vs:List α) (hlen:vs.length<4611686018427387904) (hb:b<n₀) (J Jx:List (Nat×α)→World→Prop)
  (hY:∀ pre x W,J pre W→pre.length<vs.length→YieldAt Fence.wide (1000-1) prog l #[.int .i64 (x.1:Int),(.agg #[e0 x.2,e1 x.2,e2 x.2])] W fun e W'=>
   (e = .returned (.bool true)∧J (pre ++ [x]) W'∧WL n₀ Bs W W')∨(e = .returned (.bool false)∧Jx (pre ++ [x]) W'))
  (W:World) (hBs:W.cell? ⟨Bs,0,none⟩=some (.slice (some ⟨b,off,none⟩) vs.length cap)) (hc:∀ j v,vs[j]? = some v→W.cell? ⟨b,off+j*3,none⟩=some (e0 v)∧W.cell? ⟨b,off+j*3+1,none⟩=some (e1 v)∧W.cell? ⟨b,off+j*3+2,none⟩=some (e2 v)) (h0:J [] W) :
  CallsIn Fence.wide 1000 prog 281 #[.func (.yield l) #[] #[], .pointer (some ⟨Bs,0,none⟩)] W fun e W'=>(∃ v,e = .returned v) ∧
   ((∃ ys,ys=bk vs vs.length∧J ys W')∨(∃ pre,(∃ k,k≤vs.length∧pre=bk vs k)∧Jx pre W')):=by
 refine callsIn_of_wp func281 rfl trivial ?_ rfl;simp only [ntmps281,List.size_toArray,List.length_cons,List.length_nil,Nat.reduceAdd,Nat.reduceSub,Array.replicate_succ,Array.replicate_zero,List.push_toArray,List.append_toArray,List.nil_append,List.cons_append];obtain ⟨N,hN⟩:∃ N,vs.length=N:=⟨_,rfl⟩
 rw [hN] at hBs hY hlen ⊢
 gi_wp2
 gi_loopw [3] (fun i wr=>∃ k:Nat,k≤N∧i = .int .i64 ((N:Int)-1-k)∧J (bk vs k) wr∧Below n₀ W wr∧wr.cell? ⟨Bs,0,none⟩=some (.slice (some ⟨b,off,none⟩) N cap))
  (fun i _=>(intOf i+1).toNat)
 case atStart=>exact ⟨0,Nat.zero_le _,by simp,h0,Below.refl _ _,hBs⟩
 case round=>
  obtain ⟨k,hk,rfl,hJs,hnx,hBx⟩:=hrel;have hmeas:(intOf (.int .i64 ((N:Int)-1-k))+1).toNat=N-k:=by simp [intOf];omega
  by_cases hlt:k<N
  ·have hv:vs[N-1-k]? = some (vs[N-1-k]?.getD default):=by rw [List.getElem?_eq_getElem (by omega)];rfl
   obtain ⟨hx0,hx1,hx2⟩:=hc _ _ hv;have hcx0:=(hnx.cell (p:=⟨b,off+(N-1-k)*3,none⟩) hb).trans hx0;have hcx1:=(hnx.cell (p:=⟨b,off+(N-1-k)*3+1,none⟩) hb).trans hx1;have hcx2:=(hnx.cell (p:=⟨b,off+(N-1-k)*3+2,none⟩) hb).trans hx2;clear hx0 hx1 hx2;obtain ⟨fn,tmps,assign,body,hy,hR⟩:=hY _ (N-1-k,vs[N-1-k]?.getD default) wr hJs (by rw [Fl];exact hlt);generalize hx:vs[N-1-k]?.getD default=x at hy hR hcx0 hcx1 hcx2;have hsucc:bk vs (k+1)=bk vs k ++ [(N-1-k,x)]:=by rw [Gm,hN,hx]
   have e1:(N:Int)-1-k=((N-1-k:Nat):Int):=by omega
   have hn1:N-1-k<N:=by omega
   rw [e1]
   gi_wp2
   refine hR.mono ?_;rintro e W3 (⟨rfl,hJ3,hk3⟩ | ⟨rfl,hJx3⟩)
   ·gi_wp2
    go_roundw
    case rel=>exact ⟨k+1,by omega,by congr 1;omega,by rw [hsucc];exact hJ3,hnx.trans hk3.1,hk3.2 _ hBx⟩
    case measure=>simp [intOf]
   ·gi_wp2
    refine bodyPost_ret (results_none rfl _ _ _) rfl ?_;exact ⟨⟨_,rfl⟩, .inr ⟨_,⟨k+1,by omega,rfl⟩,by rw [hsucc];exact hJx3⟩⟩
  ·obtain rfl:k=N:=by omega
   gi_wp2
   go_end0
   exact ⟨⟨_,rfl⟩, .inl ⟨_,rfl,hJs⟩⟩
set_option maxRecDepth 100000 in
set_option maxHeartbeats 1000000 in
theorem Ko {α:Type} (l Bs:Nat) (a:Option Addr) (cap:Nat) (J:List (Nat×α)→World→Prop) (W:World) (hBs:W.cell? ⟨Bs,0,none⟩=some (.slice a 0 cap)) (h0:J [] W) :
  CallsIn Fence.wide 1000 prog 281 #[.func (.yield l) #[] #[], .pointer (some ⟨Bs,0,none⟩)] W fun e W'=>(∃ v,e = .returned v)∧J [] W':=by
 refine callsIn_of_wp func281 rfl trivial ?_ rfl;simp only [ntmps281,List.size_toArray,List.length_cons,List.length_nil,Nat.reduceAdd,Nat.reduceSub,Array.replicate_succ,Array.replicate_zero,List.push_toArray,List.append_toArray,List.nil_append,List.cons_append]
 gi_wp2
 gi_loopw [3] (fun i wr=>i = .int .i64 (-1)∧J [] wr) (fun _ _=>0)
 case atStart=>exact ⟨rfl,h0⟩
 case round=>
  obtain ⟨rfl,hJs⟩:=hrel
  gi_wp2
  go_end0
  exact ⟨⟨_,rfl⟩,hJs⟩
set_option maxHeartbeats 1000000 in
theorem Ik (n:Nat) (a:Option Addr) (len cap:Nat) (w:World) :
  CallsIn Fence.wide n prog 248 #[.slice a len cap] w fun e w'=>e = .returned (.func (.func 281) #[] #[.pointer (some ⟨w.heap.size,0,none⟩)])∧w'=w.alloc (.cells #[.slice a len cap] 72):=by
 refine callsIn_of_wp func248 rfl trivial ?_ rfl;simp only [ntmps248,List.size_toArray,List.length_cons,List.length_nil,Nat.reduceAdd,Nat.reduceSub,Array.replicate_succ,Array.replicate_zero,List.push_toArray,List.append_toArray,List.nil_append,List.cons_append]
 gi_wp2
 go_ret
 exact ⟨rfl,rfl⟩
def YY (e0 e1 e2:α→Value) (n₀:Nat) (W:World) (sv:Value) (vs:List α):Prop:=
 ∃ a cap,sv = .slice a vs.length cap∧(vs = []∨∃ b off,a=some ⟨b,off,none⟩∧b<n₀∧∀ j v,vs[j]? = some v→W.cell? ⟨b,off+j*3,none⟩=some (e0 v)∧W.cell? ⟨b,off+j*3+1,none⟩=some (e1 v)∧W.cell? ⟨b,off+j*3+2,none⟩=some (e2 v))
theorem YY.below {α:Type} {e0 e1 e2:α→Value} {n₀:Nat} {A B:World} (h:Below n₀ A B) {sv:Value} {vs:List α}:YY e0 e1 e2 n₀ A sv vs→YY e0 e1 e2 n₀ B sv vs:=by
 rintro ⟨a,cap,e,rfl | ⟨b,off,rfl,hb,hc⟩⟩
 ·exact ⟨a,cap,e, .inl rfl⟩
 ·exact ⟨_,cap,e, .inr ⟨b,off,rfl,hb,fun j v hj=>⟨(h.cell (p:=⟨b,off+j*3,none⟩) hb).trans (hc j v hj).1,(h.cell (p:=⟨b,off+j*3+1,none⟩) hb).trans (hc j v hj).2.1,(h.cell (p:=⟨b,off+j*3+2,none⟩) hb).trans (hc j v hj).2.2⟩⟩⟩
theorem Aj (Bs n₀:Nat) (sv:Value) (vs:List α) (hlen:vs.length<4611686018427387904) (w:World) (hBs:Bs<w.heap.size) (hn₀:n₀≤w.heap.size)
  (hc:w.cell? ⟨Bs,0,none⟩=some sv) (hI:YY e0 e1 e2 n₀ w sv vs) :
  SeqStopsK Fence.wide 1000 prog 281 #[.pointer (some ⟨Bs,0,none⟩)] (fun x:Nat×α=>#[Value.int .i64 (x.1:Int),(Value.agg #[e0 x.2,e1 x.2,e2 x.2])]) (WL n₀ Bs) (fun ys=>ys=bk vs vs.length) (fun pre=>∃ k,k≤vs.length∧pre=bk vs k) vs.length w:=fun l J Jx W hW _ _ hY h0=>by
 have hc':=(hW.cell (p:=⟨Bs,0,none⟩) hBs).trans hc;obtain ⟨a,cap,rfl,rfl | ⟨b,off,rfl,hb,hcs⟩⟩:=hI.below (hW.mono hn₀)
 ·exact (Ko (α:=α) l Bs a cap J W hc' h0).mono fun e W' ⟨he,hj⟩=>⟨he, .inl ⟨_,rfl,hj⟩⟩
 ·exact (Oo (e0:=e0) (e1:=e1) (e2:=e2) l Bs n₀ b off cap vs hlen hb J Jx hY W hc' hcs h0)
end
end Go.Sy
namespace Go.Sy
open Go Go.Proofs Tryz Ord
def aC7:Tr:=.need (.prim [(W 0 2),(.one (.c (.k (.int .u8 4))))] none) (.binOp .rem 5 (tT 31) (.const (.int .u8 4)) 5) 5 false (bJ .lss 5 29 32 5 0 13 0 4 (.split (.u 14 0) (aK 36 [(.agg [(U 6 0),(U 7 0),(U 8 0)]),(G3 2)] [(some 3)] [36,37] [39,39] 39 false (aK 104 [(.agg [(U 9 0),(U 10 0),(U 11 0),(U 12 0)]),(G4 4)] [(some 4)] [39,40] [49,49] 49 true (.need (.prim [(W 5 0),(.one (.c (.k (.int .u8 1))))] none) (.binOp .add 5 (tT 34) (.const (.int .u8 1)) 5) 5 false (.back 0 [lV 17 0,lV 15 0,lV 15 1,lV 15 2,lV 16 0,lV 16 1,lV 16 2,lV 16 3])))) (.ret [(.agg [(U 6 0),(U 7 0),(U 8 0)]),(.agg [(U 9 0),(U 10 0),(U 11 0),(U 12 0)])])))
def Ze:Tr:=.loop 0 [(.w (.one (.c (.k (.int .u8 0))))),lV 2 0,lV 2 1,lV 2 2,lV 4 0,lV 4 1,lV 4 2,lV 4 3] aC7
def aJ2:Tr:=aU .eql 2 11 0 0 1 4 (.split (.u 1 0) (aK 120 [(W 0 0),(WK 1)] [(some 3),none] [16,18] [2,2] 90 false (aK 79 [(W 0 0),(WK 1)] [(some 4)] [23,25] [2,2] 49 true Ze)) (aK 120 [(W 0 0),(W 0 1)] [(some 3),none] [16,18] [2,2] 90 false (aK 79 [(W 0 0),(W 0 1)] [(some 4)] [23,25] [2,2] 49 true Ze)))
theorem Yq:aN prog f40 (fun _=>none) [.v (some 3)]=aJ2:=by kernel_rfl
def aH7:Tr:=aK 40 [(G3 7)] [(some 3),(some 4)] [19] [26] 82 false (.need (.lit 3 [[(.u 8 0),(.u 8 1),(.u 8 2)]]) (.buildSlice 40 1 #[(0,(tT 24))]) 40 false (.need (.app 3 56 (some 2) none (some 10)) (.call ⟨.builtin .append,#[(tT 23),(tT 25)],#[40,40]⟩) 40 false (.need (.lit 4 [[(.u 9 0),(.u 9 1),(.u 9 2),(.u 9 3)]]) (.buildSlice 50 1 #[(0,(tT 28))]) 50 false (.need (.app 4 64 (some 3) none (some 12)) (.call ⟨.builtin .append,#[(tT 27),(tT 29)],#[50,50]⟩) 50 false (aU .add 3 13 1 1 0 3 (.back 0 [lV 14 0, .row 11, .row 13]))))))
def aJ8:Tr:=.loop 0 [lK 0, .nilrow, .nilrow] (cB 0 0 10 27 (bJ .lss 3 9 11 1 0 4 0 4 (.split (.u 5 0) (eD 0 0 1 0 27 16 17 (dI 6 0 (some 3) 26 18 aH7)) (.ret [(.one (.c (.sr 3 2))),(.one (.c (.sr 4 3)))]))))
theorem Wm:aN prog f71 (fun _=>none) [.v none]=aJ8:=by kernel_rfl
def Ps:Tr:=.ret [(W 6 0)]
def pB:Tr:=.ret [(tF false)]
def aG7:Tr:=aU .leq 2 9 999 0 0 4 (.split (.u 3 0) (aU .geq 2 14 (-999) 0 0 4 (.split (.u 4 0) (aU .leq 2 19 999 0 1 4 (.split (.u 5 0) (aU .geq 2 24 (-999) 0 1 4 Ps) pB)) pB)) pB)
def aQ2:Tr:=.need (.prim [(W 0 2),(.one (.c (.k (.int .u8 4))))] none) (.binOp .rem 5 (tT 4) (.const (.int .u8 4)) 5) 5 false (.need (.prim [(W 1 0),(.one (.c (.k (.int .u8 0))))] none) (.binOp .eql 5 (tT 5) (.const (.int .u8 0)) 5) 4 false (.split (.u 2 0) aG7 pB))
theorem TV:aN prog f39 (fun _=>none) [.v (some 3)]=aQ2:=by kernel_rfl
def aA6:Tr:=.split (.u 22 0) pB (aU .gtr 2 54 99 18 1 4 (.split (.u 23 0) pB (aU .lss 2 59 (-99) 18 1 4 (.split (.u 24 0) pB (aU .add 3 28 1 10 0 3 (.back 1 [lV 9 0,lV 25 0]))))))
def aj2:Tr:=dI 17 0 (some 3) 26 36 (.need (.prim [(W 18 2),(.one (.c (.k (.int .u8 4))))] none) (.binOp .rem 5 (tT 39) (.const (.int .u8 4)) 5) 5 false (.need (.prim [(W 19 0),(.one (.c (.k (.int .u8 0))))] none) (.binOp .neq 5 (tT 40) (.const (.int .u8 0)) 5) 4 false (.split (.u 20 0) pB (aU .gtr 2 44 99 18 0 4 (.split (.u 21 0) pB (aU .lss 2 49 (-99) 18 0 4 aA6))))))
def as8:Tr:=dI 11 0 none 27 24 (cB 12 0 25 27 (bJ .lss 3 20 26 10 0 13 0 4 (.split (.u 14 0) (eD 0 0 2 0 22 31 32 (dI 15 0 none 27 33 (eD 16 0 10 0 27 34 35 aj2))) (aU .add 3 11 1 2 0 3 (.back 0 [lV 9 0,lV 15 0])))))
def aG2:Tr:=eD 0 0 2 0 22 14 15 (dI 5 0 none 27 16 (cB 6 0 17 27 (aU .gtr 3 18 4 7 0 4 (.split (.u 8 0) pB (.loop 1 [lV 1 0,lK 0] (eD 0 0 2 0 22 22 23 as8))))))
def aU8:Tr:=.loop 0 [(.w (.one (.c (.k (.bool false))))),lK 0] (cB 0 0 8 22 (bJ .lss 3 6 9 2 0 3 0 4 (.split (.u 4 0) aG2 (cB 0 0 63 22 (aU .leq 3 64 6 5 0 4 Ps)))))
theorem GA:aN prog f55 (fun _=>none) [.v (some 2)]=aU8:=by kernel_rfl
structure bQ where
 n:Int
 d:Int
 pow:Nat
abbrev nC (x:bQ):List aH:=[.int .i64 x.n, .int .i64 x.d, .int .u8 x.pow]
abbrev nT (x:bQ):aF:=.agg (nC x)
abbrev sN (l:List bQ):aH:=.slice 3 (l.map nC)
structure bQ.In (x:bQ):Prop where
 n1:-9223372036854775808≤x.n
 n2:x.n<9223372036854775808
 d1:-9223372036854775808≤x.d
 d2:x.d<9223372036854775808
 p:x.pow<256
def bQ.b (x:bQ):Rat:=(x.n:Rat)/((if x.d=0 then 1 else x.d:Int):Rat)
def bQ.v (x:bQ):Rat:=x.b^(x.pow%4+1)
theorem _root_.Ord.Fit.pow {B:Nat} {q:Rat} (h:Fit B q) (hB:1≤B):∀ n,Fit (B*n+1) (q^n)
 | 0=>by rw [Rat.pow_zero];exact (Fit.int (n:=1) (B:=1) (by omega) (by decide)).mono (by omega)
 | n+1=>by
   rw [Rat.pow_succ];exact ((Ord.Fit.pow h hB n).mul h).mono (by rw [Nat.mul_add];omega)
theorem bQ.In.fit {x:bQ} (h:x.In):Fit 128 x.b:=by
 unfold bQ.b;split
 ·exact (eA h.n1 h.n2).div (eA (n:=1) (by omega) (by omega))
 ·exact (eA h.n1 h.n2).div (eA h.d1 h.d2)
theorem bQ.In.Pe {x:bQ} (h:x.In):Fit 513 x.v:=(h.fit.pow (by omega) _).mono (by omega)
theorem Gt (x:bQ) (h:x.In):aM prog 40 [(nT x:aF)] (.ret [qT x.v,dE (.of x.v)]):=by
 refine aD (args:=[.v (some 3)]) (ins:=[.v (nT x)]) (hints:=(fun _=>none)) fo (by kernel_rfl) func40 ⟨rfl,trivial⟩ ?_;rw [Yq];dsimp only [List.map,In.env,aB,aA];have h1:=h.n1;have h2:=h.n2;have h3:=h.d1;have h4:=h.d2;have h5:=h.p;have hf:=h.fit;have hp:=fun i=>hf.pow (by omega) i
 have hm1:∀ i,i<4→aM prog 36 [qT (x.b^(i+1)),qT x.b] (.ret [qT (x.b^(i+1+1))]):=fun i hi=>by
  have:=dF (x.b^(i+1)) x.b _ _ (hp (i+1)) hf (by omega);rw [←Rat.pow_succ] at this;exact this
 have hm2:∀ i,i<4→aM prog 104 [dE (.of (x.b^(i+1))),dE (.of x.b)] (.ret [dE (.of (x.b^(i+1+1)))]):=fun i hi=>by
  have:=eW (.of (x.b^(i+1))) (.of x.b) _ _ (hp (i+1)) hf (by omega);rw [RQ.rM,RQ.rM,←Rat.pow_succ] at this;exact this
 refine vn bL rfl ?_;dsimp only [aB,aA];refine vs _ rfl (fun h1=>?_) (fun h1=>?_)
 ·have hb:x.b=(x.n:Rat)/((1:Int):Rat):=by rw [bQ.b,if_pos h1]
  have ho:=ao8 x.n 1 h.n1 h2 (by omega) (by omega);rw [if_neg (by omega),if_neg (by omega),←hb] at ho;refine aC ho rfl ?_;dsimp only [aB,aA];have ho:=Hl x.n 1 (by omega) h.n1 h2 (by omega) (by omega);rw [←hb] at ho;refine aC ho rfl ?_;dsimp only [aB,aA]
  refine bC {i:Nat // i≤x.pow%4} (fun g=>[.one (.int .u8 g.1), .one (dT (x.b^(g.1+1)).num.natAbs), .one (.bool (decide ((x.b^(g.1+1)).num<0))), .one (dT ((x.b^(g.1+1)).den-1)), .one (.int .i64 (x.b^(g.1+1)).num.sign), .one (bT (x.b^(g.1+1)).num.natAbs), .one (.int .i64 1), .one (bT (x.b^(g.1+1)).den)]) (fun g=>x.pow%4-g.1) ⟨0,Nat.zero_le _⟩ (by
   have e:x.b^(0+1)=x.b:=by rw [Rat.pow_succ,Rat.pow_zero,Rat.one_mul]
   simp only [e];exact aO.rfl) (fun _=>rfl) ?_
  rintro ⟨i,hi⟩;dsimp only [aB,aA] at hi ⊢;refine vn (fL (by omega) (by omega)) rfl ?_;dsimp only [aB,aA];refine vn bB rfl ?_;dsimp only [aB,aA];refine vs _ rfl (fun h7=>?_) (fun h7=>?_)
  ·refine aC (hm1 i (by omega)) rfl ?_;dsimp only [aB,aA];refine aC (hm2 i (by omega)) rfl ?_;dsimp only [aB,aA];refine vn (Jd (by omega) (by omega)) rfl ?_;dsimp only [aB,aA];exact aR rfl ⟨⟨i+1,by omega⟩,aO.rfl,by show x.pow%4-(i+1)<x.pow%4-i;omega⟩
  have hie:i=x.pow%4:=by omega
  subst hie;exact aL rfl
 have hb:x.b=(x.n:Rat)/(x.d:Rat):=by rw [bQ.b,if_neg h1]
 have ho:=ao8 x.n x.d h.n1 h2 h3 h4;rw [if_neg h1,if_neg h1,←hb] at ho;refine aC ho rfl ?_;dsimp only [aB,aA];have ho:=Hl x.n x.d h1 h.n1 h2 h3 h4;rw [←hb] at ho;refine aC ho rfl ?_;dsimp only [aB,aA]
 refine bC {i:Nat // i≤x.pow%4} (fun g=>[.one (.int .u8 g.1), .one (dT (x.b^(g.1+1)).num.natAbs), .one (.bool (decide ((x.b^(g.1+1)).num<0))), .one (dT ((x.b^(g.1+1)).den-1)), .one (.int .i64 (x.b^(g.1+1)).num.sign), .one (bT (x.b^(g.1+1)).num.natAbs), .one (.int .i64 1), .one (bT (x.b^(g.1+1)).den)]) (fun g=>x.pow%4-g.1) ⟨0,Nat.zero_le _⟩ (by
  have e:x.b^(0+1)=x.b:=by rw [Rat.pow_succ,Rat.pow_zero,Rat.one_mul]
  simp only [e];exact aO.rfl) (fun _=>rfl) ?_
 rintro ⟨i,hi⟩;dsimp only [aB,aA] at hi ⊢;refine vn (fL (by omega) (by omega)) rfl ?_;dsimp only [aB,aA];refine vn bB rfl ?_;dsimp only [aB,aA];refine vs _ rfl (fun h18=>?_) (fun h18=>?_)
 ·refine aC (hm1 i (by omega)) rfl ?_;dsimp only [aB,aA];refine aC (hm2 i (by omega)) rfl ?_;dsimp only [aB,aA];refine vn (Jd (by omega) (by omega)) rfl ?_;dsimp only [aB,aA];exact aR rfl ⟨⟨i+1,by omega⟩,aO.rfl,by show x.pow%4-(i+1)<x.pow%4-i;omega⟩
 have hie:i=x.pow%4:=by omega
 subst hie;exact aL rfl
def cJ (l:List bQ):List Rat:=l.map bQ.v
def rF (l:List bQ):List RQ:=l.map fun x=>RQ.of x.v
theorem pT {α β:Type} {f:α→β} {l:List α} {i:Nat} {x:α} (h:l[i]? = some x):(l.take i).map f ++ [f x]=(l.take (i+1)).map f:=by
 rw [List.take_add_one,h,List.map_append];rfl
theorem Xw (l:List bQ) (h:∀ x∈l,x.In) (hs:l.length<1099511627776):aM prog 71 [(.one (sN l):aF)] (.ret [.one (sQ (cJ l)), .one (sR (rF l))]):=by
 refine aD (args:=[.v none]) (ins:=[.v (.one (sN l))]) (hints:=(fun _=>none)) fo (by kernel_rfl) func71 ⟨rfl,trivial⟩ ?_;rw [Wm];dsimp only [List.map,In.env,aB,aA];refine bC {i:Nat // i≤l.length} (fun g=>[.one (.int .i64 g.1), .rows (rQ ((l.take g.1).map bQ.v)), .rows (rR ((l.take g.1).map fun x=>RQ.of x.v))]) (fun g=>l.length-g.1) ⟨0,Nat.zero_le _⟩ aO.rfl (fun _=>rfl) ?_;rintro ⟨i,hi⟩;dsimp only [aB,aA] at hi ⊢;refine vn (aP Qd (List.length_map _)) rfl ?_;dsimp only [aB,aA];refine vn bB rfl ?_;dsimp only [aB,aA];refine vs _ rfl (fun h3=>?_) (fun h3=>?_)
 ·obtain ⟨x,hx⟩:∃ x,l[i]? = some x:=⟨_,List.getElem?_eq_getElem (by omega)⟩
  have hl1:((l.take i).map bQ.v).length≤i:=by simp;omega
  have hl2:((l.take i).map fun x=>RQ.of x.v).length≤i:=by simp;omega
  refine vn (aW Qd (by omega) (by omega) hx) rfl ?_;dsimp only [aB,aA];refine vn (bO aS5 (by decide) (by simp) (.inl rfl)) rfl ?_;dsimp only [aB,aA];refine aC (Gt x (h x (List.mem_of_getElem? hx))) rfl ?_;dsimp only [aB,aA];refine cL (us:=[qC x.v]) rfl ?_;dsimp only [aB,aA];refine jQ (xs:=(l.take i).map bQ.v) (x:=x.v) (f:=qC) rfl rfl (by omega) (by simp only [maxLen];omega) ?_;rw [pT hx];dsimp only [aB,aA];refine cL (us:=[rC (RQ.of x.v)]) rfl ?_;dsimp only [aB,aA];refine jQ (xs:=(l.take i).map fun x:bQ=>RQ.of x.v) (x:=RQ.of x.v) (f:=rC) rfl rfl (by omega) (by simp only [maxLen];omega) ?_;rw [pT (f:=fun x:bQ=>RQ.of x.v) hx];dsimp only [aB,aA];refine vn (aE (by omega) (by omega)) rfl ?_;dsimp only [aB,aA];exact aR rfl ⟨⟨i+1,by omega⟩,aO.rfl,by show l.length-(i+1)<l.length-i;omega⟩
 rw [show i=l.length by omega,List.take_length];exact aL rfl
def bQ.short (x:bQ):Bool:=decide (x.pow%4=0∧x.n≤999 ∧ -999≤x.n∧x.d≤999 ∧ -999≤x.d)
def bQ.Ay (x:bQ):Bool:=decide (x.pow%4=0∧x.n≤99 ∧ -99≤x.n∧x.d≤99 ∧ -99≤x.d)
theorem Iq (x:bQ) (h:x.In):aM prog 39 [(nT x:aF)] (.ret [.one (.bool x.short)]):=by
 refine aD (args:=[.v (some 3)]) (ins:=[.v (nT x)]) (hints:=(fun _=>none)) fo (by kernel_rfl) func39 ⟨rfl,trivial⟩ ?_;rw [TV];dsimp only [List.map,In.env,aB,aA];refine vn (fL (by omega) (by omega)) rfl ?_;dsimp only [aB,aA];refine vn bL rfl ?_;dsimp only [aB,aA];refine vs _ rfl (fun h2=>?_) (fun h2=>?_)
 ·refine vn fV rfl ?_;dsimp only [aB,aA];refine vs _ rfl (fun h4=>?_) (fun h4=>?_)
  ·refine vn eH rfl ?_;dsimp only [aB,aA];refine vs _ rfl (fun h6=>?_) (fun h6=>?_)
   ·refine vn fV rfl ?_;dsimp only [aB,aA];refine vs _ rfl (fun h8=>?_) (fun h8=>?_)
    ·refine vn eH rfl ?_;dsimp only [aB,aA];refine aL ?_;have:decide (-999≤x.d)=x.short:=by unfold bQ.short;rw [decide_eq_decide];constructor<;>intro hh<;>omega
     rw [←this];rfl
    refine aL ?_;have:x.short=false:=by unfold bQ.short;rw [decide_eq_false_iff_not];omega
    rw [this];rfl
   refine aL ?_;have:x.short=false:=by unfold bQ.short;rw [decide_eq_false_iff_not];omega
   rw [this];rfl
  refine aL ?_;have:x.short=false:=by unfold bQ.short;rw [decide_eq_false_iff_not];omega
  rw [this];rfl
 refine aL ?_;have:x.short=false:=by unfold bQ.short;rw [decide_eq_false_iff_not];omega
 rw [this];rfl
end Go.Sy
