/- Lists of rational numbers: Clone, Trim, Degree. slices.Backward over numbers; Horner's rule. Numbers as they are handed in. Decimal digits: so many of them, and those of a number. The texts of numbers. Contracts of the library, laid at this program. The text of a magnitude. Horner's rule over numbers. The text of a number; a number and one of the reference have the same text where they are equal.
-/
import Derived.Test.YtdmcadckdnnglaaGreatDoorRa
import Derived.Laws.Cover3
import Derived.RangeFuncFrom
import Derived.RangeFuncBox
import Derived.RangeFuncLeaves
import Derived.Shelf.Abstract
import Derived.WalkKit
import Derived.OwnWalkIn
import Derived.TacticsInMore
import Derived.LoopNIn
import Derived.LoopIn
import Derived.Test.YtdmcadckdnnglaaGreatDoorPa
import Derived.Lib.ItoaNum
import Derived.Lib.Repeat
import Derived.Shelf.Strings.Builder1
import Derived.Shelf.Strings.Builder2
import Derived.Shelf.Strings.BuilderF
import Derived.Shelf.Strings.BuilderK
import Derived.Shelf.Strconv.Itoa0
import Derived.Shelf.Strconv.Itoa1
import Derived.Shelf.LaysM
import Derived.Shelf.Strconv.Itoa2
import Derived.Shelf.Strconv.Itoa3
import Derived.Shelf.Strings.Prefix
import Derived.Shelf.Bits.Mul64
import Derived.Shelf.Strings.Repeat
import Derived.Test.YtdmcadckdnnglaaGreatDoorProg
import Derived.Test.YtdmcadckdnnglaaGreatDoorNb
import Derived.RangeFuncNested
set_option linter.unusedVariables false
set_option linter.unusedSimpArgs false
namespace Go.Sy
open Go Go.Proofs Tryz Ord
def aV5:Tr:=.need (.prim [(W 0 0),(.one (.c (.k (.slice none 0 0))))] none) (.binOp .eql 72 (tT 3) (.const (.slice none 0 0)) 72) 4 false (.split (.u 1 0) (.ret [(.one (.c (.k (.slice none 0 0))))]) (.need (.lit 3 []) (.buildSlice 72 0 #[]) 72 false (.need (.app 3 56 (some 2) (some (.u 0 0)) none) (.call ⟨.builtin .append,#[(tT 5),(tT 6)],#[72,72]⟩) 72 false (.ret [(.one (.c (.sr 3 3)))]))))
theorem II:aN prog f113 (fun _=>none) [.v none]=aV5:=by kernel_rfl
def Rg:Tr:=bB .sub 3 17 1 2 0 3 (.back 0 [lV 9 0])
def aW3:Tr:=eY 5 0 (some 3) 39 12 (aP 35 [(G3 6)] [none] [13] [39] 3 false (bB .eql 3 14 0 7 0 4 (.split (.u 8 0) Rg (.need (.prim [(W 0 0),(W 2 0)] none) (.slice 72 (tT 19) none (some (tT 20)) none) 72 false (aP 113 [(W 9 0)] [none] [21] [72] 72 true (.ret [(W 10 0)]))))))
def aO6:Tr:=cY 0 0 4 72 (.loop 0 [lV 1 0] (bB .gtr 3 6 0 2 0 4 (.split (.u 3 0) (bB .sub 3 10 1 2 0 3 (gE 0 0 4 0 72 9 11 aW3)) (.need (.prim [(W 0 0),(W 2 0)] none) (.slice 72 (tT 19) none (some (tT 20)) none) 72 false (aP 113 [(W 4 0)] [none] [21] [72] 72 true (.ret [(W 5 0)]))))))
theorem VI:aN prog f34 (fun _=>none) [.v none]=aO6:=by kernel_rfl
def aa3:Tr:=bB .sub 3 5 1 2 0 3 (.ret [(W 3 0)])
def aK1:Tr:=aP 34 [(W 0 0)] [none] [3] [72] 72 false (cY 1 0 4 72 aa3)
theorem Pd:aN prog f95 (fun _=>none) [.v none]=aK1:=by kernel_rfl
def aM7:Tr:=eY 5 0 (some 4) 49 12 (aP 46 [(G4 6)] [none] [13] [49] 3 false (bB .eql 3 14 0 7 0 4 (.split (.u 8 0) Rg (.need (.prim [(W 0 0),(W 2 0)] none) (.slice 167 (tT 19) none (some (tT 20)) none) 167 false (.need (.app 4 64 none (some (.u 9 0)) none) (.call ⟨.builtin .append,#[(.const (.slice none 0 0)),(tT 21)],#[167,167]⟩) 167 false (.ret [(.one (.c (.sr 4 10)))]))))))
def aH4:Tr:=cY 0 0 4 167 (.loop 0 [lV 1 0] (bB .gtr 3 6 0 2 0 4 (.split (.u 3 0) (bB .sub 3 10 1 2 0 3 (gE 0 0 4 0 167 9 11 aM7)) (.need (.prim [(W 0 0),(W 2 0)] none) (.slice 167 (tT 19) none (some (tT 20)) none) 167 false (.need (.app 4 64 none (some (.u 4 0)) none) (.call ⟨.builtin .append,#[(.const (.slice none 0 0)),(tT 21)],#[167,167]⟩) 167 false (.ret [(.one (.c (.sr 4 5)))]))))))
theorem Xx:aN prog f144 (fun _=>none) [.v none]=aH4:=by kernel_rfl
def aQ0:Tr:=aP 144 [(W 0 0)] [none] [3] [167] 167 false (cY 1 0 4 167 aa3)
theorem PI:aN prog f96 (fun _=>none) [.v none]=aQ0:=by kernel_rfl
def aI.SB:aI where
 rep:=fun _ _ v=>∃ cap,v = .slice none 0 cap∧cap≤maxLen
 mono:=fun _ h=>h
 one:=by rintro M w v ⟨cap,rfl,_⟩;rfl
def aI.nnS (sz:Nat) (ts:List (List aI)):aI where
 rep:=fun M w v=>(aI.slice sz ts).rep M w v∧∃ a l c,v = .slice (some a) l c
 mono:=fun hk h=>⟨aI.mono _ hk h.1,h.2⟩
 one:=fun h=>aI.one _ h.1
theorem aI.Sub.nn {sz:Nat} {ts:List (List aI)}:(aI.nnS sz ts).Sub (.slice sz ts):=
 .inr ⟨fun M w v h=>by obtain ⟨_,a,l,c,rfl⟩:=h;exact ⟨some a,l,c,rfl⟩,fun M w v h=>h.1⟩
theorem Kl {sz:Nat} {ts:List (List aI)} {M:Nat→Prop} {w:World} {v:Value} (h:(aI.slice sz ts).rep M w v):(ts = []∧aI.SB.rep M w v)∨(aI.nnS sz ts).rep M w v:=by
 have h0:=h;obtain ⟨a,cap,rfl,hc,hm,hel⟩:=h;cases a with
 | some a=>exact .inr ⟨h0,a,_,_,rfl⟩
 | none=>
   rcases hel with rfl | ⟨b,off,cs,T,fz,e,_⟩
   ·exact .inl ⟨rfl,cap,rfl,hm⟩
   ·cases e
theorem LK {P:Program} {f:FuncId} {sz:Nat} {ts:List (List aI)} {out:Out} (h1:ts = []→aK P f [.one .SB] out) (h2:aK P f [.one (.nnS sz ts)] out):aK P f [.one (.slice sz ts)] out:=by
 refine ⟨h2.1,fun M w vs hM hv=>?_⟩
 match vs,hv with
 | [v],hv=>
   rcases Kl hv.1 with ⟨e,h⟩ | h
   ·exact (h1 e).2 M w [v] hM ⟨h,trivial⟩
   ·exact h2.2 M w [v] hM ⟨h,trivial⟩
 | [],hv=>exact hv.elim
 | _::_::_,hv=>exact hv.2.elim
section
variable {P:Program} {T U ty:TypeId} {x y:Operand}
theorem ay5 {E sz b:Nat} (h:dB P T=some (E,sz,b)):aZ P (.binOp .eql T x y U) ty [.one .SB, .one (.exact (.slice none 0 0))] (.one (.bool true)):=by
 obtain ⟨ie,hu,_⟩:=cM h;intro M w ρ o ho ht hr;obtain ⟨hx,hy⟩:=vE (x:=x) (y:=y) hr;obtain ⟨cap,hx,_⟩:=hx;have hy:ρ y = .slice none 0 0∧_:=hy;refine ⟨.bool true,?_,⟨rfl,rfl⟩⟩;simp [execOp,ho,hx,hy.1,eqGuard,binOp,run_equal_slice_nil w T E none 0 cap hu]
theorem as8 {E sz b sz':Nat} {ts:List (List aI)} (h:dB P T=some (E,sz,b)):aZ P (.binOp .eql T x y U) ty [.one (.nnS sz' ts), .one (.exact (.slice none 0 0))] (.one (.bool false)):=by
 obtain ⟨ie,hu,_⟩:=cM h;intro M w ρ o ho ht hr;obtain ⟨hx,hy⟩:=vE (x:=x) (y:=y) hr;obtain ⟨_,a,l,c,hx⟩:=hx;have hy:ρ y = .slice none 0 0∧_:=hy;refine ⟨.bool false,?_,⟨rfl,rfl⟩⟩;simp [execOp,ho,hx,hy.1,eqGuard,binOp,run_equal_slice_nil w T E (some a) l c hu]
end
theorem Qb  :aK prog 113 [(.one .SB:aG)] (.ret [.one (.slice 3 [])]):=by
 refine aD (args:=[.v none]) (ins:=[.v (.one .SB)]) (hints:=(fun _=>none)) fo (by kernel_rfl) func113 ⟨rfl,trivial⟩ ?_;rw [II];dsimp only [List.map,In.env,aA,aB];refine vn (ay5 jF) rfl ?_;dsimp only [aA,aB];refine Bt true rfl (fun _=>?_) (fun h=>by cases h);exact eN ⟨aI.Sub.nil,trivial⟩
theorem OG (ts:List (List aI)) (hs:ts.length<1099511627776):aK prog 113 [(.one (.nnS 3 ts):aG)] (.ret [.one (.slice 3 ts)]):=by
 refine aD (args:=[.v none]) (ins:=[.v (.one (.nnS 3 ts))]) (hints:=(fun _=>none)) fo (by kernel_rfl) func113 ⟨rfl,trivial⟩ ?_;rw [II];dsimp only [List.map,In.env,aA,aB];refine vn (as8 jF) rfl ?_;dsimp only [aA,aB];refine Bt false rfl (fun h=>by cases h) (fun _=>?_);refine dC (us:=[]) rfl ?_;dsimp only [aA,aB];refine vA (ts:=[]) (us:=ts) (vs:=ts) rfl (.inr aI.Sub.nn) rfl (by omega) (by simp only [maxLen];omega) ?_;exact aL rfl
theorem KA (ts:List (List aI)) (hs:ts.length<1099511627776):aK prog 113 [.one (.slice 3 ts)] (.ret [.one (.slice 3 ts)]):=
 LK (fun e=>by subst e;exact Qb) (OG ts hs)
def cW {α:Type} (z:α→Bool):List α→Nat
 | []=>0
 | x::xs=>if cW z xs=0∧z x=true then 0 else cW z xs+1
theorem gL {α:Type} {z:α→Bool}:∀ l:List α,cW z l≤l.length
 | []=>Nat.le_refl _
 | x::xs=>by
   have:=gL (z:=z) xs;simp only [cW,List.length_cons];split<;>omega
theorem uQ {α:Type} {z:α→Bool}:∀ {l:List α} {n:Nat},n≤l.length→(∀ i x,n≤i→l[i]? = some x→z x=true)→(n=0∨∃ x,l[n-1]? = some x∧z x=false)→cW z l=n
 | [],n,h,_,_=>by simp at h;subst h;rfl
 | x::xs,n,h,h1,h2=>by
   cases n with
   | zero=>
     have h3:=uQ (z:=z) (l:=xs) (n:=0) (Nat.zero_le _) (fun i y _ hy=>h1 (i+1) y (Nat.zero_le _) (by simpa using hy)) (.inl rfl);have h4:=h1 0 x (Nat.zero_le _) rfl;simp [cW,h3,h4]
   | succ n=>
     have h3:=uQ (z:=z) (l:=xs) (n:=n) (by simpa using h) (fun i y hi hy=>h1 (i+1) y (by omega) (by simpa using hy)) (by
      cases n with
      | zero=>exact .inl rfl
      | succ n=>
        rcases h2 with h2 | ⟨y,hy,hz⟩
        ·omega
        ·exact .inr ⟨y,by simpa using hy,hz⟩)
     simp only [cW,h3];rw [if_neg];rintro ⟨h4,h5⟩;subst h4;rcases h2 with h2 | ⟨y,hy,hz⟩
     ·omega
     ·simp at hy;subst hy;rw [h5] at hz;cases hz
theorem DM {α β:Type} {z:β→Bool} (f:α→β):∀ l:List α,cW z (l.map f)=cW (fun a=>z (f a)) l
 | []=>rfl
 | x::xs=>by simp only [List.map_cons,cW,DM f xs]
abbrev rQ (ps:List Rat):List (List aI):=ps.map qC
abbrev sQ (ps:List Rat):aI:=.slice 3 (rQ ps)
abbrev rR (ps:List RQ):List (List aI):=ps.map rC
abbrev sR (ps:List RQ):aI:=.slice 4 (rR ps)
def zr (q:Rat):Bool:=decide (q=0)
def LS (a:RQ):Bool:=decide (a.q=0)
def trim (ps:List Rat):List Rat:=ps.take (cW zr ps)
def dZ (ps:List RQ):List RQ:=ps.take (cW LS ps)
theorem qO (ps:List RQ):(dZ ps).map RQ.q=trim (ps.map RQ.q):=by
 rw [trim,DM,dZ,List.map_take];rfl
theorem BB {q:Rat}:zr q=decide (q.num.sign=0):=by rw [zr,decide_eq_decide];exact sign_zero.symm
theorem eM (ps:List Rat):(trim ps).length=cW zr ps:=by rw [trim,List.length_take];have:=gL (z:=zr) ps;omega
theorem xA (ps:List RQ):(dZ ps).length=cW LS ps:=by rw [dZ,List.length_take];have:=gL (z:=LS) ps;omega
theorem yB {E sz b T:Nat} {α:Type} {f:α→List aI} {ds:List α} {x:Operand} {ty:Nat} {y:Operand} {k:IntKind} {n:Int} {m:Nat} (h:dB prog T=some (E,sz,b)) (h0:0≤n) (hm:n.toNat=m) (hn:m≤ds.length):aZ prog (.slice T x none (some y) none) ty [.one (.slice sz (ds.map f)), .one (.int k n)] (.one (.slice sz ((ds.take m).map f))):=by
 have:=Gb (P:=prog) (T:=T) (x:=x) (y:=y) (ty:=ty) (k:=k) (n:=n) (ts:=ds.map f) h h0 (by rw [List.length_map,hm];exact hn);rw [hm,←List.map_take] at this;exact this
theorem zE (ps:List Rat) (hs:ps.length<1099511627776):aK prog 34 [(.one (sQ ps):aG)] (.ret [.one (sQ (trim ps))]):=by
 refine aD (args:=[.v none]) (ins:=[.v (.one (sQ ps))]) (hints:=(fun _=>none)) fo (by kernel_rfl) func34 ⟨rfl,trivial⟩ ?_;rw [VI];dsimp only [List.map,In.env,aA,aB];refine vn (aQ jF (List.length_map _)) rfl ?_;dsimp only [aA,aB];refine bF {n:Nat // n≤ps.length∧∀ i q,n≤i→ps[i]? = some q→zr q=true} (fun g=>[.one (.int .i64 g.1)]) (fun g=>g.1) ⟨ps.length,Nat.le_refl _,fun i q hi hq=>by have:=(List.getElem?_eq_some_iff.1 hq).1;omega⟩ aO.rfl (fun _=>rfl) ?_;rintro ⟨n,hn,hz⟩;dsimp only [aA,aB] at hn hz ⊢;refine vn eF rfl ?_;dsimp only [aA,aB];refine vs _ rfl (fun h3=>?_) (fun h3=>?_)
 ·refine vn (aJ (by omega) (by omega)) rfl ?_;dsimp only [aA,aB];obtain ⟨q,hq⟩:∃ q,ps[n-1]? = some q:=⟨_,List.getElem?_eq_getElem (by omega)⟩
  refine vn (aY jF (by omega) (by omega) hq) rfl ?_;dsimp only [aA,aB];refine vn (bZ rZ (by decide) (by simp) (.inl rfl)) rfl ?_;dsimp only [aA,aB];refine aC (oQ q) rfl ?_;dsimp only [aA,aB];refine vn bW rfl ?_;dsimp only [aA,aB];refine vs _ rfl (fun h9=>?_) (fun h9=>?_)
  ·refine vn (aJ (by omega) (by omega)) rfl ?_;dsimp only [aA,aB]
   exact aU rfl ⟨⟨n-1,by omega,fun i r hi hr=>by
    rcases Nat.lt_or_ge i n with h | h
    ·rw [show i=n-1 by omega,hq] at hr;simp only [Option.some.injEq] at hr;subst hr;rw [BB];simpa using h9
    ·exact hz i r h hr⟩,⟨aG.Sub.of_eq (congrArg (fun q=>aG.one (aI.int .i64 q)) (by show (n:Int)-1=((n-1:Nat):Int);omega)),trivial⟩,by show n-1<n;omega⟩
  refine vn (yB jF (by omega) (by omega) hn) rfl ?_;dsimp only [aA,aB];have ht:=uQ hn hz (.inr ⟨q,hq,by rw [BB];simpa using h9⟩);refine aC (KA _ (by rw [List.length_map,List.length_take];omega)) rfl ?_;dsimp only [aA,aB];rw [trim,ht];exact aL rfl
 refine vn (yB jF (by omega) (by omega) hn) rfl ?_;dsimp only [aA,aB];have ht:=uQ hn hz (.inl (by omega));refine aC (KA _ (by rw [List.length_map,List.length_take];omega)) rfl ?_;dsimp only [aA,aB];rw [trim,ht];exact aL rfl
theorem An (ps:List Rat) (hs:ps.length<1099511627776):aK prog 95 [(.one (sQ ps):aG)] (.ret [.one (.int .i64 ((cW zr ps:Int)-1))]):=by
 refine aD (args:=[.v none]) (ins:=[.v (.one (sQ ps))]) (hints:=(fun _=>none)) fo (by kernel_rfl) func95 ⟨rfl,trivial⟩ ?_;rw [Pd];dsimp only [List.map,In.env,aA,aB];have hle:=gL (z:=zr) ps;have htl:=eM ps;refine aC (zE ps hs) rfl ?_;dsimp only [aA,aB];refine vn (aQ jF (List.length_map _)) rfl ?_;dsimp only [aA,aB];refine vn (aJ (by omega) (by omega)) rfl ?_;dsimp only [aA,aB];rw [←htl];exact aL rfl
theorem yU (ps:List RQ) (hs:ps.length<1099511627776):aK prog 144 [(.one (sR ps):aG)] (.ret [.one (sR (dZ ps))]):=by
 refine aD (args:=[.v none]) (ins:=[.v (.one (sR ps))]) (hints:=(fun _=>none)) fo (by kernel_rfl) func144 ⟨rfl,trivial⟩ ?_;rw [Xx];dsimp only [List.map,In.env,aA,aB];refine vn (aQ fB (List.length_map _)) rfl ?_;dsimp only [aA,aB];refine bF {n:Nat // n≤ps.length∧∀ i q,n≤i→ps[i]? = some q→LS q=true} (fun g=>[.one (.int .i64 g.1)]) (fun g=>g.1) ⟨ps.length,Nat.le_refl _,fun i q hi hq=>by have:=(List.getElem?_eq_some_iff.1 hq).1;omega⟩ aO.rfl (fun _=>rfl) ?_;rintro ⟨n,hn,hz⟩;dsimp only [aA,aB] at hn hz ⊢;refine vn eF rfl ?_;dsimp only [aA,aB];refine vs _ rfl (fun h3=>?_) (fun h3=>?_)
 ·refine vn (aJ (by omega) (by omega)) rfl ?_;dsimp only [aA,aB];obtain ⟨q,hq⟩:∃ q,ps[n-1]? = some q:=⟨_,List.getElem?_eq_getElem (by omega)⟩
  refine vn (aY fB (by omega) (by omega) hq) rfl ?_;dsimp only [aA,aB];refine vn (bZ CN (by decide) (by simp) (.inl rfl)) rfl ?_;dsimp only [aA,aB];refine aC (Wv q) rfl ?_;dsimp only [aA,aB];refine vn bW rfl ?_;dsimp only [aA,aB];refine vs _ rfl (fun h9=>?_) (fun h9=>?_)
  ·refine vn (aJ (by omega) (by omega)) rfl ?_;dsimp only [aA,aB]
   exact aU rfl ⟨⟨n-1,by omega,fun i r hi hr=>by
    rcases Nat.lt_or_ge i n with h | h
    ·rw [show i=n-1 by omega,hq] at hr;simp only [Option.some.injEq] at hr;subst hr;show zr q.q=true;rw [BB];simpa using h9
    ·exact hz i r h hr⟩,⟨aG.Sub.of_eq (congrArg (fun q=>aG.one (aI.int .i64 q)) (by show (n:Int)-1=((n-1:Nat):Int);omega)),trivial⟩,by show n-1<n;omega⟩
  refine vn (yB fB (by omega) (by omega) hn) rfl ?_;dsimp only [aA,aB];have ht:=uQ (z:=LS) hn hz (.inr ⟨q,hq,by show zr q.q=false;rw [BB];simpa using h9⟩);refine vA (ts:=[]) (us:=rR (ps.take n)) (vs:=rR (ps.take n)) rfl (.inr aI.Sub.same) rfl (by rw [List.length_map,List.length_take];omega) (by rw [List.length_map,List.length_take];simp only [maxLen];omega) ?_;dsimp only [aA,aB];rw [dZ,ht];exact aL rfl
 refine vn (yB fB (by omega) (by omega) hn) rfl ?_;dsimp only [aA,aB];have ht:=uQ (z:=LS) hn hz (.inl (by omega));refine vA (ts:=[]) (us:=rR (ps.take n)) (vs:=rR (ps.take n)) rfl (.inr aI.Sub.same) rfl (by rw [List.length_map,List.length_take];omega) (by rw [List.length_map,List.length_take];simp only [maxLen];omega) ?_;dsimp only [aA,aB];rw [dZ,ht];exact aL rfl
theorem FY (ps:List RQ) (hs:ps.length<1099511627776):aK prog 96 [(.one (sR ps):aG)] (.ret [.one (.int .i64 ((cW LS ps:Int)-1))]):=by
 refine aD (args:=[.v none]) (ins:=[.v (.one (sR ps))]) (hints:=(fun _=>none)) fo (by kernel_rfl) func96 ⟨rfl,trivial⟩ ?_;rw [PI];dsimp only [List.map,In.env,aA,aB];have hle:=gL (z:=LS) ps;have htl:=xA ps;refine aC (yU ps hs) rfl ?_;dsimp only [aA,aB];refine vn (aQ fB (List.length_map _)) rfl ?_;dsimp only [aA,aB];refine vn (aJ (by omega) (by omega)) rfl ?_;dsimp only [aA,aB];rw [←htl];exact aL rfl
open Go Go.Proofs Go.RowKit Go.Shelf Tryz Ord
attribute [local go_sem] Oper.semAt_some
section
variable {α:Type} [Inhabited α] {e0 e1 e2:α→Value}
set_option maxRecDepth 100000 in
set_option maxHeartbeats 2000000 in
theorem Py (l Bs n₀ b off cap:Nat) (vs:List α) (hlen:vs.length<4611686018427387904) (hb:b<n₀) (J Jx:List (Nat×α)→World→Prop)
  (hY:∀ pre x W,J pre W→pre.length<vs.length→YieldAt Fence.wide (1000-1) prog l #[.int .i64 (x.1:Int),(.agg #[e0 x.2,e1 x.2,e2 x.2])] W fun e W'=>
   (e = .returned (.bool true)∧J (pre ++ [x]) W'∧Yk n₀ Bs W W')∨(e = .returned (.bool false)∧Jx (pre ++ [x]) W'))
  (W:World) (hBs:W.cell? ⟨Bs,0,none⟩=some (.slice (some ⟨b,off,none⟩) vs.length cap)) (hc:∀ j v,vs[j]? = some v→W.cell? ⟨b,off+j*3,none⟩=some (e0 v)∧W.cell? ⟨b,off+j*3+1,none⟩=some (e1 v)∧W.cell? ⟨b,off+j*3+2,none⟩=some (e2 v)) (h0:J [] W) :
  CallsIn Fence.wide 1000 prog 281 #[.func (.yield l) #[] #[], .pointer (some ⟨Bs,0,none⟩)] W fun e W'=>(∃ v,e = .returned v) ∧
   ((∃ ys,ys=bk vs vs.length∧J ys W')∨(∃ pre,(∃ k,k≤vs.length∧pre=bk vs k)∧Jx pre W')):=by
 refine callsIn_of_wp func281 rfl trivial ?_ rfl;simp only [ntmps281,List.size_toArray,List.length_cons,List.length_nil,Nat.reduceAdd,Nat.reduceSub,Array.replicate_succ,Array.replicate_zero,List.push_toArray,List.append_toArray,List.nil_append,List.cons_append];obtain ⟨N,hN⟩:∃ N,vs.length=N:=⟨_,rfl⟩
 rw [hN] at hBs hY hlen ⊢
 gi_wp2
 gi_loopw [3] (fun i wr=>∃ k:Nat,k≤N∧i = .int .i64 ((N:Int)-1-k)∧J (bk vs k) wr∧Below n₀ W wr∧wr.cell? ⟨Bs,0,none⟩=some (.slice (some ⟨b,off,none⟩) N cap))
  (fun i _=>(intOf i+1).toNat)
 case atStart=>exact ⟨0,Nat.zero_le _,by simp,h0,Below.refl _ _,hBs⟩
 case round=>
  obtain ⟨k,hk,rfl,hJs,hnx,hBx⟩:=hrel;have hmeas:(intOf (.int .i64 ((N:Int)-1-k))+1).toNat=N-k:=by simp [intOf];omega
  by_cases hlt:k<N
  ·have hv:vs[N-1-k]? = some (vs[N-1-k]?.getD default):=by rw [List.getElem?_eq_getElem (by omega)];rfl
   obtain ⟨hx0,hx1,hx2⟩:=hc _ _ hv;have hcx0:=(hnx.cell (p:=⟨b,off+(N-1-k)*3,none⟩) hb).trans hx0;have hcx1:=(hnx.cell (p:=⟨b,off+(N-1-k)*3+1,none⟩) hb).trans hx1;have hcx2:=(hnx.cell (p:=⟨b,off+(N-1-k)*3+2,none⟩) hb).trans hx2;clear hx0 hx1 hx2;obtain ⟨fn,tmps,assign,body,hy,hR⟩:=hY _ (N-1-k,vs[N-1-k]?.getD default) wr hJs (by rw [FK];exact hlt);generalize hx:vs[N-1-k]?.getD default=x at hy hR hcx0 hcx1 hcx2;have hsucc:bk vs (k+1)=bk vs k ++ [(N-1-k,x)]:=by rw [Ho,hN,hx]
   have e1:(N:Int)-1-k=((N-1-k:Nat):Int):=by omega
   have hn1:N-1-k<N:=by omega
   rw [e1]
   gi_wp2
   refine hR.mono ?_;rintro e W3 (⟨rfl,hJ3,hk3⟩ | ⟨rfl,hJx3⟩)
   ·gi_wp2
    go_roundw
    case rel=>exact ⟨k+1,by omega,by congr 1;omega,by rw [hsucc];exact hJ3,hnx.trans hk3.1,hk3.2 _ hBx⟩
    case measure=>simp [intOf]
   ·gi_wp2
    refine bodyPost_ret (results_none rfl _ _ _) rfl ?_;exact ⟨⟨_,rfl⟩, .inr ⟨_,⟨k+1,by omega,rfl⟩,by rw [hsucc];exact hJx3⟩⟩
  ·obtain rfl:k=N:=by omega
   gi_wp2
   go_end0
   exact ⟨⟨_,rfl⟩, .inl ⟨_,rfl,hJs⟩⟩
set_option maxRecDepth 100000 in
set_option maxHeartbeats 1000000 in
theorem KT {α:Type} (l Bs:Nat) (a:Option Addr) (cap:Nat) (J:List (Nat×α)→World→Prop) (W:World) (hBs:W.cell? ⟨Bs,0,none⟩=some (.slice a 0 cap)) (h0:J [] W) :
  CallsIn Fence.wide 1000 prog 281 #[.func (.yield l) #[] #[], .pointer (some ⟨Bs,0,none⟩)] W fun e W'=>(∃ v,e = .returned v)∧J [] W':=by
 refine callsIn_of_wp func281 rfl trivial ?_ rfl;simp only [ntmps281,List.size_toArray,List.length_cons,List.length_nil,Nat.reduceAdd,Nat.reduceSub,Array.replicate_succ,Array.replicate_zero,List.push_toArray,List.append_toArray,List.nil_append,List.cons_append]
 gi_wp2
 gi_loopw [3] (fun i wr=>i = .int .i64 (-1)∧J [] wr) (fun _ _=>0)
 case atStart=>exact ⟨rfl,h0⟩
 case round=>
  obtain ⟨rfl,hJs⟩:=hrel
  gi_wp2
  go_end0
  exact ⟨⟨_,rfl⟩,hJs⟩
set_option maxHeartbeats 1000000 in
theorem KD (n:Nat) (a:Option Addr) (len cap:Nat) (w:World) :
  CallsIn Fence.wide n prog 248 #[.slice a len cap] w fun e w'=>e = .returned (.func (.func 281) #[] #[.pointer (some ⟨w.heap.size,0,none⟩)])∧w'=w.alloc (.cells #[.slice a len cap] 72):=by
 refine callsIn_of_wp func248 rfl trivial ?_ rfl;simp only [ntmps248,List.size_toArray,List.length_cons,List.length_nil,Nat.reduceAdd,Nat.reduceSub,Array.replicate_succ,Array.replicate_zero,List.push_toArray,List.append_toArray,List.nil_append,List.cons_append]
 gi_wp2
 go_ret
 exact ⟨rfl,rfl⟩
def ZZ (e0 e1 e2:α→Value) (n₀:Nat) (W:World) (sv:Value) (vs:List α):Prop:=
 ∃ a cap,sv = .slice a vs.length cap∧(vs = []∨∃ b off,a=some ⟨b,off,none⟩∧b<n₀∧∀ j v,vs[j]? = some v→W.cell? ⟨b,off+j*3,none⟩=some (e0 v)∧W.cell? ⟨b,off+j*3+1,none⟩=some (e1 v)∧W.cell? ⟨b,off+j*3+2,none⟩=some (e2 v))
theorem ZZ.below {α:Type} {e0 e1 e2:α→Value} {n₀:Nat} {A B:World} (h:Below n₀ A B) {sv:Value} {vs:List α}:ZZ e0 e1 e2 n₀ A sv vs→ZZ e0 e1 e2 n₀ B sv vs:=by
 rintro ⟨a,cap,e,rfl | ⟨b,off,rfl,hb,hc⟩⟩
 ·exact ⟨a,cap,e, .inl rfl⟩
 ·exact ⟨_,cap,e, .inr ⟨b,off,rfl,hb,fun j v hj=>⟨(h.cell (p:=⟨b,off+j*3,none⟩) hb).trans (hc j v hj).1,(h.cell (p:=⟨b,off+j*3+1,none⟩) hb).trans (hc j v hj).2.1,(h.cell (p:=⟨b,off+j*3+2,none⟩) hb).trans (hc j v hj).2.2⟩⟩⟩
theorem Be (Bs n₀:Nat) (sv:Value) (vs:List α) (hlen:vs.length<4611686018427387904) (w:World) (hBs:Bs<w.heap.size) (hn₀:n₀≤w.heap.size)
  (hc:w.cell? ⟨Bs,0,none⟩=some sv) (hI:ZZ e0 e1 e2 n₀ w sv vs) :
  SeqStopsK Fence.wide 1000 prog 281 #[.pointer (some ⟨Bs,0,none⟩)] (fun x:Nat×α=>#[Value.int .i64 (x.1:Int),(Value.agg #[e0 x.2,e1 x.2,e2 x.2])]) (Yk n₀ Bs) (fun ys=>ys=bk vs vs.length) (fun pre=>∃ k,k≤vs.length∧pre=bk vs k) vs.length w:=fun l J Jx W hW _ _ hY h0=>by
 have hc':=(hW.cell (p:=⟨Bs,0,none⟩) hBs).trans hc;obtain ⟨a,cap,rfl,rfl | ⟨b,off,rfl,hb,hcs⟩⟩:=hI.below (hW.mono hn₀)
 ·exact (KT (α:=α) l Bs a cap J W hc' h0).mono fun e W' ⟨he,hj⟩=>⟨he, .inl ⟨_,rfl,hj⟩⟩
 ·exact (Py (e0:=e0) (e1:=e1) (e2:=e2) l Bs n₀ b off cap vs hlen hb J Jx hY W hc' hcs h0)
end
end Go.Sy
namespace Go.Sy
open Go Go.Proofs Tryz Ord
def aV9:Tr:=.need (.prim [(W 0 2),(.one (.c (.k (.int .u8 4))))] none) (.binOp .rem 5 (tT 31) (.const (.int .u8 4)) 5) 5 false (bR .lss 5 29 32 5 0 13 0 4 (.split (.u 14 0) (aP 36 [(.agg [(U 6 0),(U 7 0),(U 8 0)]),(G3 2)] [(some 3)] [36,37] [39,39] 39 false (aP 104 [(.agg [(U 9 0),(U 10 0),(U 11 0),(U 12 0)]),(G4 4)] [(some 4)] [39,40] [49,49] 49 true (.need (.prim [(W 5 0),(.one (.c (.k (.int .u8 1))))] none) (.binOp .add 5 (tT 34) (.const (.int .u8 1)) 5) 5 false (.back 0 [lV 17 0,lV 15 0,lV 15 1,lV 15 2,lV 16 0,lV 16 1,lV 16 2,lV 16 3])))) (.ret [(.agg [(U 6 0),(U 7 0),(U 8 0)]),(.agg [(U 9 0),(U 10 0),(U 11 0),(U 12 0)])])))
def ZO:Tr:=.loop 0 [(.w (.one (.c (.k (.int .u8 0))))),lV 2 0,lV 2 1,lV 2 2,lV 4 0,lV 4 1,lV 4 2,lV 4 3] aV9
def aN3:Tr:=bB .eql 2 11 0 0 1 4 (.split (.u 1 0) (aP 120 [(W 0 0),(WK 1)] [(some 3),none] [16,18] [2,2] 90 false (aP 79 [(W 0 0),(WK 1)] [(some 4)] [23,25] [2,2] 49 true ZO)) (aP 120 [(W 0 0),(W 0 1)] [(some 3),none] [16,18] [2,2] 90 false (aP 79 [(W 0 0),(W 0 1)] [(some 4)] [23,25] [2,2] 49 true ZO)))
theorem Ze:aN prog f40 (fun _=>none) [.v (some 3)]=aN3:=by kernel_rfl
def aQ5:Tr:=aP 40 [(G3 7)] [(some 3),(some 4)] [19] [26] 82 false (.need (.lit 3 [[(.u 8 0),(.u 8 1),(.u 8 2)]]) (.buildSlice 40 1 #[(0,(tT 24))]) 40 false (.need (.app 3 56 (some 2) none (some 10)) (.call ⟨.builtin .append,#[(tT 23),(tT 25)],#[40,40]⟩) 40 false (.need (.lit 4 [[(.u 9 0),(.u 9 1),(.u 9 2),(.u 9 3)]]) (.buildSlice 50 1 #[(0,(tT 28))]) 50 false (.need (.app 4 64 (some 3) none (some 12)) (.call ⟨.builtin .append,#[(tT 27),(tT 29)],#[50,50]⟩) 50 false (bB .add 3 13 1 1 0 3 (.back 0 [lV 14 0, .row 11, .row 13]))))))
def aS4:Tr:=.loop 0 [lK 0, .nilrow, .nilrow] (cY 0 0 10 27 (bR .lss 3 9 11 1 0 4 0 4 (.split (.u 5 0) (gE 0 0 1 0 27 16 17 (eY 6 0 (some 3) 26 18 aQ5)) (.ret [(.one (.c (.sr 3 2))),(.one (.c (.sr 4 3)))]))))
theorem VK:aN prog f71 (fun _=>none) [.v none]=aS4:=by kernel_rfl
def SJ:Tr:=.ret [(W 6 0)]
def pD:Tr:=.ret [(tF false)]
def aS1:Tr:=bB .leq 2 9 999 0 0 4 (.split (.u 3 0) (bB .geq 2 14 (-999) 0 0 4 (.split (.u 4 0) (bB .leq 2 19 999 0 1 4 (.split (.u 5 0) (bB .geq 2 24 (-999) 0 1 4 SJ) pD)) pD)) pD)
def aP8:Tr:=.need (.prim [(W 0 2),(.one (.c (.k (.int .u8 4))))] none) (.binOp .rem 5 (tT 4) (.const (.int .u8 4)) 5) 5 false (.need (.prim [(W 1 0),(.one (.c (.k (.int .u8 0))))] none) (.binOp .eql 5 (tT 5) (.const (.int .u8 0)) 5) 4 false (.split (.u 2 0) aS1 pD))
theorem Vf:aN prog f39 (fun _=>none) [.v (some 3)]=aP8:=by kernel_rfl
def aA5:Tr:=.split (.u 22 0) pD (bB .gtr 2 54 99 18 1 4 (.split (.u 23 0) pD (bB .lss 2 59 (-99) 18 1 4 (.split (.u 24 0) pD (bB .add 3 28 1 10 0 3 (.back 1 [lV 9 0,lV 25 0]))))))
def ap6:Tr:=eY 17 0 (some 3) 26 36 (.need (.prim [(W 18 2),(.one (.c (.k (.int .u8 4))))] none) (.binOp .rem 5 (tT 39) (.const (.int .u8 4)) 5) 5 false (.need (.prim [(W 19 0),(.one (.c (.k (.int .u8 0))))] none) (.binOp .neq 5 (tT 40) (.const (.int .u8 0)) 5) 4 false (.split (.u 20 0) pD (bB .gtr 2 44 99 18 0 4 (.split (.u 21 0) pD (bB .lss 2 49 (-99) 18 0 4 aA5))))))
def ab6:Tr:=eY 11 0 none 27 24 (cY 12 0 25 27 (bR .lss 3 20 26 10 0 13 0 4 (.split (.u 14 0) (gE 0 0 2 0 22 31 32 (eY 15 0 none 27 33 (gE 16 0 10 0 27 34 35 ap6))) (bB .add 3 11 1 2 0 3 (.back 0 [lV 9 0,lV 15 0])))))
def aG3:Tr:=gE 0 0 2 0 22 14 15 (eY 5 0 none 27 16 (cY 6 0 17 27 (bB .gtr 3 18 4 7 0 4 (.split (.u 8 0) pD (.loop 1 [lV 1 0,lK 0] (gE 0 0 2 0 22 22 23 ab6))))))
def aS6:Tr:=.loop 0 [(.w (.one (.c (.k (.bool false))))),lK 0] (cY 0 0 8 22 (bR .lss 3 6 9 2 0 3 0 4 (.split (.u 4 0) aG3 (cY 0 0 63 22 (bB .leq 3 64 6 5 0 4 SJ)))))
theorem GL:aN prog f55 (fun _=>none) [.v (some 2)]=aS6:=by kernel_rfl
structure bO where
 n:Int
 d:Int
 pow:Nat
abbrev nC (x:bO):List aI:=[.int .i64 x.n, .int .i64 x.d, .int .u8 x.pow]
abbrev nT (x:bO):aG:=.agg (nC x)
abbrev sN (l:List bO):aI:=.slice 3 (l.map nC)
structure bO.In (x:bO):Prop where
 n1:-9223372036854775808≤x.n
 n2:x.n<9223372036854775808
 d1:-9223372036854775808≤x.d
 d2:x.d<9223372036854775808
 p:x.pow<256
def bO.b (x:bO):Rat:=(x.n:Rat)/((if x.d=0 then 1 else x.d:Int):Rat)
def bO.v (x:bO):Rat:=x.b^(x.pow%4+1)
theorem _root_.Ord.Fit.pow {B:Nat} {q:Rat} (h:Fit B q) (hB:1≤B):∀ n,Fit (B*n+1) (q^n)
 | 0=>by rw [Rat.pow_zero];exact (Fit.int (n:=1) (B:=1) (by omega) (by decide)).mono (by omega)
 | n+1=>by
   rw [Rat.pow_succ];exact ((Ord.Fit.pow h hB n).mul h).mono (by rw [Nat.mul_add];omega)
theorem bO.In.fit {x:bO} (h:x.In):Fit 128 x.b:=by
 unfold bO.b;split
 ·exact (fD h.n1 h.n2).div (fD (n:=1) (by omega) (by omega))
 ·exact (fD h.n1 h.n2).div (fD h.d1 h.d2)
theorem bO.In.Xp {x:bO} (h:x.In):Fit 513 x.v:=(h.fit.pow (by omega) _).mono (by omega)
theorem HD (x:bO) (h:x.In):aK prog 40 [(nT x:aG)] (.ret [qT x.v,jM (.of x.v)]):=by
 refine aD (args:=[.v (some 3)]) (ins:=[.v (nT x)]) (hints:=(fun _=>none)) fo (by kernel_rfl) func40 ⟨rfl,trivial⟩ ?_;rw [Ze];dsimp only [List.map,In.env,aA,aB];have h1:=h.n1;have h2:=h.n2;have h3:=h.d1;have h4:=h.d2;have h5:=h.p;have hf:=h.fit;have hp:=fun i=>hf.pow (by omega) i
 have hm1:∀ i,i<4→aK prog 36 [qT (x.b^(i+1)),qT x.b] (.ret [qT (x.b^(i+1+1))]):=fun i hi=>by
  have:=cP (x.b^(i+1)) x.b _ _ (hp (i+1)) hf (by omega);rw [←Rat.pow_succ] at this;exact this
 have hm2:∀ i,i<4→aK prog 104 [jM (.of (x.b^(i+1))),jM (.of x.b)] (.ret [jM (.of (x.b^(i+1+1)))]):=fun i hi=>by
  have:=tR (.of (x.b^(i+1))) (.of x.b) _ _ (hp (i+1)) hf (by omega);rw [RQ.Xi,RQ.Xi,←Rat.pow_succ] at this;exact this
 refine vn bW rfl ?_;dsimp only [aA,aB];refine vs _ rfl (fun h1=>?_) (fun h1=>?_)
 ·have hb:x.b=(x.n:Rat)/((1:Int):Rat):=by rw [bO.b,if_pos h1]
  have ho:=aq9 x.n 1 h.n1 h2 (by omega) (by omega);rw [if_neg (by omega),if_neg (by omega),←hb] at ho;refine aC ho rfl ?_;dsimp only [aA,aB];have ho:=Sj x.n 1 (by omega) h.n1 h2 (by omega) (by omega);rw [←hb] at ho;refine aC ho rfl ?_;dsimp only [aA,aB]
  refine bF {i:Nat // i≤x.pow%4} (fun g=>[.one (.int .u8 g.1), .one (dT (x.b^(g.1+1)).num.natAbs), .one (.bool (decide ((x.b^(g.1+1)).num<0))), .one (dT ((x.b^(g.1+1)).den-1)), .one (.int .i64 (x.b^(g.1+1)).num.sign), .one (bT (x.b^(g.1+1)).num.natAbs), .one (.int .i64 1), .one (bT (x.b^(g.1+1)).den)]) (fun g=>x.pow%4-g.1) ⟨0,Nat.zero_le _⟩ (by
   have e:x.b^(0+1)=x.b:=by rw [Rat.pow_succ,Rat.pow_zero,Rat.one_mul]
   simp only [e];exact aO.rfl) (fun _=>rfl) ?_
  rintro ⟨i,hi⟩;dsimp only [aA,aB] at hi ⊢;refine vn (gK (by omega) (by omega)) rfl ?_;dsimp only [aA,aB];refine vn bE rfl ?_;dsimp only [aA,aB];refine vs _ rfl (fun h7=>?_) (fun h7=>?_)
  ·refine aC (hm1 i (by omega)) rfl ?_;dsimp only [aA,aB];refine aC (hm2 i (by omega)) rfl ?_;dsimp only [aA,aB];refine vn (Jn (by omega) (by omega)) rfl ?_;dsimp only [aA,aB];exact aU rfl ⟨⟨i+1,by omega⟩,aO.rfl,by show x.pow%4-(i+1)<x.pow%4-i;omega⟩
  have hie:i=x.pow%4:=by omega
  subst hie;exact aL rfl
 have hb:x.b=(x.n:Rat)/(x.d:Rat):=by rw [bO.b,if_neg h1]
 have ho:=aq9 x.n x.d h.n1 h2 h3 h4;rw [if_neg h1,if_neg h1,←hb] at ho;refine aC ho rfl ?_;dsimp only [aA,aB];have ho:=Sj x.n x.d h1 h.n1 h2 h3 h4;rw [←hb] at ho;refine aC ho rfl ?_;dsimp only [aA,aB]
 refine bF {i:Nat // i≤x.pow%4} (fun g=>[.one (.int .u8 g.1), .one (dT (x.b^(g.1+1)).num.natAbs), .one (.bool (decide ((x.b^(g.1+1)).num<0))), .one (dT ((x.b^(g.1+1)).den-1)), .one (.int .i64 (x.b^(g.1+1)).num.sign), .one (bT (x.b^(g.1+1)).num.natAbs), .one (.int .i64 1), .one (bT (x.b^(g.1+1)).den)]) (fun g=>x.pow%4-g.1) ⟨0,Nat.zero_le _⟩ (by
  have e:x.b^(0+1)=x.b:=by rw [Rat.pow_succ,Rat.pow_zero,Rat.one_mul]
  simp only [e];exact aO.rfl) (fun _=>rfl) ?_
 rintro ⟨i,hi⟩;dsimp only [aA,aB] at hi ⊢;refine vn (gK (by omega) (by omega)) rfl ?_;dsimp only [aA,aB];refine vn bE rfl ?_;dsimp only [aA,aB];refine vs _ rfl (fun h18=>?_) (fun h18=>?_)
 ·refine aC (hm1 i (by omega)) rfl ?_;dsimp only [aA,aB];refine aC (hm2 i (by omega)) rfl ?_;dsimp only [aA,aB];refine vn (Jn (by omega) (by omega)) rfl ?_;dsimp only [aA,aB];exact aU rfl ⟨⟨i+1,by omega⟩,aO.rfl,by show x.pow%4-(i+1)<x.pow%4-i;omega⟩
 have hie:i=x.pow%4:=by omega
 subst hie;exact aL rfl
def cK (l:List bO):List Rat:=l.map bO.v
def rS (l:List bO):List RQ:=l.map fun x=>RQ.of x.v
theorem qH {α β:Type} {f:α→β} {l:List α} {i:Nat} {x:α} (h:l[i]? = some x):(l.take i).map f ++ [f x]=(l.take (i+1)).map f:=by
 rw [List.take_add_one,h,List.map_append];rfl
theorem Xw (l:List bO) (h:∀ x∈l,x.In) (hs:l.length<1099511627776):aK prog 71 [(.one (sN l):aG)] (.ret [.one (sQ (cK l)), .one (sR (rS l))]):=by
 refine aD (args:=[.v none]) (ins:=[.v (.one (sN l))]) (hints:=(fun _=>none)) fo (by kernel_rfl) func71 ⟨rfl,trivial⟩ ?_;rw [VK];dsimp only [List.map,In.env,aA,aB];refine bF {i:Nat // i≤l.length} (fun g=>[.one (.int .i64 g.1), .rows (rQ ((l.take g.1).map bO.v)), .rows (rR ((l.take g.1).map fun x=>RQ.of x.v))]) (fun g=>l.length-g.1) ⟨0,Nat.zero_le _⟩ aO.rfl (fun _=>rfl) ?_;rintro ⟨i,hi⟩;dsimp only [aA,aB] at hi ⊢;refine vn (aQ UD (List.length_map _)) rfl ?_;dsimp only [aA,aB];refine vn bE rfl ?_;dsimp only [aA,aB];refine vs _ rfl (fun h3=>?_) (fun h3=>?_)
 ·obtain ⟨x,hx⟩:∃ x,l[i]? = some x:=⟨_,List.getElem?_eq_getElem (by omega)⟩
  have hl1:((l.take i).map bO.v).length≤i:=by simp;omega
  have hl2:((l.take i).map fun x=>RQ.of x.v).length≤i:=by simp;omega
  refine vn (aY UD (by omega) (by omega) hx) rfl ?_;dsimp only [aA,aB];refine vn (bZ aL8 (by decide) (by simp) (.inl rfl)) rfl ?_;dsimp only [aA,aB];refine aC (HD x (h x (List.mem_of_getElem? hx))) rfl ?_;dsimp only [aA,aB];refine dC (us:=[qC x.v]) rfl ?_;dsimp only [aA,aB];refine qI (xs:=(l.take i).map bO.v) (x:=x.v) (f:=qC) rfl rfl (by omega) (by simp only [maxLen];omega) ?_;rw [qH hx];dsimp only [aA,aB];refine dC (us:=[rC (RQ.of x.v)]) rfl ?_;dsimp only [aA,aB];refine qI (xs:=(l.take i).map fun x:bO=>RQ.of x.v) (x:=RQ.of x.v) (f:=rC) rfl rfl (by omega) (by simp only [maxLen];omega) ?_;rw [qH (f:=fun x:bO=>RQ.of x.v) hx];dsimp only [aA,aB];refine vn (aE (by omega) (by omega)) rfl ?_;dsimp only [aA,aB];exact aU rfl ⟨⟨i+1,by omega⟩,aO.rfl,by show l.length-(i+1)<l.length-i;omega⟩
 rw [show i=l.length by omega,List.take_length];exact aL rfl
def bO.short (x:bO):Bool:=decide (x.pow%4=0∧x.n≤999 ∧ -999≤x.n∧x.d≤999 ∧ -999≤x.d)
def bO.Bz (x:bO):Bool:=decide (x.pow%4=0∧x.n≤99 ∧ -99≤x.n∧x.d≤99 ∧ -99≤x.d)
theorem IJ (x:bO) (h:x.In):aK prog 39 [(nT x:aG)] (.ret [.one (.bool x.short)]):=by
 refine aD (args:=[.v (some 3)]) (ins:=[.v (nT x)]) (hints:=(fun _=>none)) fo (by kernel_rfl) func39 ⟨rfl,trivial⟩ ?_;rw [Vf];dsimp only [List.map,In.env,aA,aB];refine vn (gK (by omega) (by omega)) rfl ?_;dsimp only [aA,aB];refine vn bW rfl ?_;dsimp only [aA,aB];refine vs _ rfl (fun h2=>?_) (fun h2=>?_)
 ·refine vn gW rfl ?_;dsimp only [aA,aB];refine vs _ rfl (fun h4=>?_) (fun h4=>?_)
  ·refine vn eS rfl ?_;dsimp only [aA,aB];refine vs _ rfl (fun h6=>?_) (fun h6=>?_)
   ·refine vn gW rfl ?_;dsimp only [aA,aB];refine vs _ rfl (fun h8=>?_) (fun h8=>?_)
    ·refine vn eS rfl ?_;dsimp only [aA,aB];refine aL ?_;have:decide (-999≤x.d)=x.short:=by unfold bO.short;rw [decide_eq_decide];constructor<;>intro hh<;>omega
     rw [←this];rfl
    refine aL ?_;have:x.short=false:=by unfold bO.short;rw [decide_eq_false_iff_not];omega
    rw [this];rfl
   refine aL ?_;have:x.short=false:=by unfold bO.short;rw [decide_eq_false_iff_not];omega
   rw [this];rfl
  refine aL ?_;have:x.short=false:=by unfold bO.short;rw [decide_eq_false_iff_not];omega
  rw [this];rfl
 refine aL ?_;have:x.short=false:=by unfold bO.short;rw [decide_eq_false_iff_not];omega
 rw [this];rfl
open Go
abbrev chr (d:Nat):UInt8:=UInt8.ofNat (48+d)
def mQ:Nat→Nat→List UInt8
 | 0,_=>[]
 | k+1,n=>mQ k (n/10) ++ [chr (n%10)]
abbrev dec (n:Nat):List UInt8:=Lib.decDigits n
theorem Au {n:Nat} (h:n<10):dec n = [chr n]:=by rw [dec,Lib.decDigits,dif_pos h]
theorem CA {n:Nat} (h:¬ n<10):dec n=dec (n/10) ++ [chr (n%10)]:=by rw [dec,Lib.decDigits,dif_neg h]
theorem AJ:∀ k n,(mQ k n).length=k
 | 0,_=>rfl
 | k+1,n=>by rw [mQ,List.length_append,AJ k];rfl
theorem IW:∀ k n,mQ k (n%10^k)=mQ k n
 | 0,_=>rfl
 | k+1,n=>by
   have h1:n%10^(k+1)/10=n/10%10^k:=by
    rw [Nat.pow_succ,Nat.mul_comm,Nat.mod_mul_right_div_self]
   have h2:n%10^(k+1)%10=n%10:=Nat.mod_mod_of_dvd n ⟨10^k,by rw [Nat.pow_succ,Nat.mul_comm]⟩;rw [mQ,mQ,h1,h2,IW k]
theorem Gz:∀ k,mQ k 0=List.replicate k 48
 | 0=>rfl
 | k+1=>by rw [mQ,Nat.zero_div,Gz k,Nat.zero_mod,List.replicate_succ'];rfl
theorem FM:∀ k n,0<n/10^k→dec n=dec (n/10^k)++mQ k n
 | 0,n,_=>by simp [mQ]
 | k+1,n,h=>by
   rw [Nat.pow_succ,Nat.mul_comm,←Nat.div_div_eq_div_mul] at h ⊢;have h10:¬ n<10:=fun hn=>by rw [Nat.div_eq_of_lt hn,Nat.zero_div] at h;omega
   rw [CA h10,FM k (n/10) h,mQ,List.append_assoc]
theorem Tp {k m d:Nat} (hm:0<m) (hd:d<10^k):dec (d+10^k*m)=dec m++mQ k d:=by
 have hp:0<10^k:=Nat.pow_pos (by omega);have e:(d+10^k*m)/10^k=m:=by rw [Nat.add_mul_div_left _ _ hp,Nat.div_eq_of_lt hd,Nat.zero_add]
 rw [FM k _ (by rw [e];exact hm),e,←IW k (d+_),Nat.add_mul_mod_self_left,Nat.mod_eq_of_lt hd]
theorem lU:∀ {k n:Nat},0<k→n<10^k→(dec n).length≤k
 | k+1,n,_,h=>by
   by_cases h10:n<10
   ·rw [Au h10];simp
   ·rw [CA h10,List.length_append];have h1:n/10<10^k:=by rw [Nat.pow_succ] at h;omega
    have hk:0<k:=by rcases Nat.eq_zero_or_pos k with rfl | h2;· simp at h;omega
                    ·exact h2
    have:=lU hk h1;simp;omega
theorem IM:∀ {k n:Nat},0<k→n<10^k→mQ k n=List.replicate (k-(dec n).length) 48++dec n
 | k+1,n,_,h=>by
   by_cases h10:n<10
   ·rw [Au h10,mQ,Nat.div_eq_of_lt h10,Gz,Nat.mod_eq_of_lt h10];rfl
   ·have h1:n/10<10^k:=by rw [Nat.pow_succ] at h;omega
    have hk:0<k:=by rcases Nat.eq_zero_or_pos k with rfl | h2;· simp at h;omega
                    ·exact h2
    rw [CA h10,mQ,IM hk h1,List.append_assoc,List.length_append]
    congr 2;simp
theorem aX5 (c:Nat):Lib.repeatL [48] c=List.replicate c 48:=by
 induction c with
 | zero=>rfl
 | succ c ih=>rw [Lib.repeatL,ih,List.replicate_succ];rfl
theorem Tu:dec 0 = [48]:=by rw [Au (by omega)];rfl
def bd2 (z:Int):List UInt8:=(if z<0 then [45] else [])++dec z.natAbs
def SK (q:Rat):List UInt8:=bd2 q.num++if q.den=1 then [] else 47::dec q.den
open Go Go.Proofs Tryz Ord
abbrev sT (l:List UInt8):aI:=.str ⟨l.toArray⟩
abbrev bS (l:List UInt8):aG:=.one (sT l)
section
variable {P:Program} {T U ty:TypeId} {x y z:Operand}
theorem CD {a b:List UInt8} (h:a.length+b.length≤9223372036854775807):aZ P (.binOp .add T x y U) ty [bS a,bS b] (bS (a++b)):=by
 have e:(⟨(a++b).toArray⟩:ByteArray)=⟨a.toArray⟩++⟨b.toArray⟩:=by
  apply ByteArray.ext;rw [ByteArray.data_append];simp
 show aZ P _ ty _ (.one (.str ⟨(a++b).toArray⟩));rw [e];exact Ql (by show ((a.toArray.size+b.toArray.size:Nat):Int)≤_;simp only [List.size_toArray];omega)
theorem KQ {a b:List UInt8}:aZ P (.binOp .eql T x y U) ty [bS a,bS b] (.one (.bool (decide (a=b)))):=by
 have:decide (a=b)=decide ((ByteArray.mk a.toArray).data=(ByteArray.mk b.toArray).data):=by
  rw [decide_eq_decide];exact ⟨fun h=>by rw [h],fun h=>by simpa using congrArg Array.toList h⟩
 rw [this];exact aw6
end
def aT0:Tr:=.need (.prim [(W 3 0)] none) (.unOp .not 4 (tT 15)) 4 false (.split (.u 4 0) (aP 117 [(G3 0)] [(some 1)] [18] [39] 35 false (aP 178 [(G1 5)] [none] [19] [35] 9 false (.need (.prim [(.one (.c (.k (.string ⟨#[47]⟩)))),(W 6 0)] none) (.binOp .add 9 (.const (.string ⟨#[47]⟩)) (tT 20) 9) 9 false (bR .add 9 17 21 2 0 7 0 9 (.ret [(W 8 0)]))))) (.ret [(W 2 0)]))
def ag4:Tr:=.need (.prim [(W 2 0)] none) (.unOp .not 4 (tT 15)) 4 false (.split (.u 3 0) (aP 117 [(G3 0)] [(some 1)] [18] [39] 35 false (aP 178 [(G1 4)] [none] [19] [35] 9 false (.need (.prim [(.one (.c (.k (.string ⟨#[47]⟩)))),(W 5 0)] none) (.binOp .add 9 (.const (.string ⟨#[47]⟩)) (tT 20) 9) 9 false (bR .add 9 17 21 1 0 6 0 9 (.ret [(W 7 0)]))))) (.ret [(W 1 0)]))
def aU8:Tr:=aP 178 [(G1 0)] [none] [6] [35] 9 true (.split (.u 0 1) (.need (.prim [(.one (.c (.k (.string ⟨#[45]⟩)))),(W 1 0)] none) (.binOp .add 9 (.const (.string ⟨#[45]⟩)) (tT 11) 9) 9 false (aP 179 [(.agg [(U 0 2)])] [none] [14] [35] 4 true aT0)) (aP 179 [(.agg [(U 0 2)])] [none] [14] [35] 4 true ag4))
theorem WY:aN prog f90 (fun _=>none) [.v (some 3)]=aU8:=by kernel_rfl
theorem AN {n H:Nat} (h:n<2^H):(dec n).length≤H+1:=
 lU (Nat.succ_pos H) (Nat.lt_of_lt_of_le h (Nat.le_trans (Nat.pow_le_pow_left (by omega) H) (Nat.pow_le_pow_right (by omega) (Nat.le_succ H))))
end Go.Sy
namespace Go.Proofs
open Go.Shelf
def Tryz.AE:Go.Shelf.Ren:=⟨fun | 169=>244 | n=>n,fun | 70=>284 | 9=>9 | 0=>0 | 72=>287 | 37=>285 | 127=>325 | 3=>3 | 5=>5 | n=>n,fun | n=>n⟩
theorem Tryz.Wf:Go.Proofs.Lays.n169 Tryz.prog Tryz.AE:={
 mixed:=by kernel_rfl
 f169:=Tryz.func244.trans (congrArg some (by kernel_rfl))
 t0:=Tryz.underlying0
 a0:=Tryz.isAgg0
 z0:=Tryz.sizeOf0
 v0:=Tryz.zeroValue0
 t3:=Tryz.underlying3
 a3:=Tryz.isAgg3
 z3:=Tryz.sizeOf3
 v3:=Tryz.zeroValue3
 t9:=Tryz.underlying9
 a9:=Tryz.isAgg9
 z9:=Tryz.sizeOf9
 v9:=Tryz.zeroValue9
 t37:=Tryz.underlying285
 a37:=Tryz.isAgg285
 z37:=Tryz.sizeOf285
 v37:=Tryz.zeroValue285
 t70:=Tryz.underlying284
 a70:=Tryz.isAgg284
 z70:=Tryz.sizeOf284
 v70:=Tryz.zeroValue284
 t72:=Tryz.underlying287
 a72:=Tryz.isAgg287
 z72:=Tryz.sizeOf287
 v72:=Tryz.zeroValue287
 t127:=Tryz.underlying325
 a127:=Tryz.isAgg325
 z127:=Tryz.sizeOf325
 v127:=Tryz.zeroValue325 }
theorem Tryz.yD:Builder.Extra Tryz.prog Tryz.AE:={
 sizeBuilder:=by kernel_rfl
 liesBuilder:=by kernel_rfl
 t5:=Tryz.underlying5
 a5:=Tryz.isAgg5
 z5:=Tryz.sizeOf5
 v5:=Tryz.zeroValue5
 infoByte:=by kernel_rfl
 cellsByte:=by kernel_rfl
 sizeByte:=by kernel_rfl
 neB5:=by decide }
open Go.RowKit in
theorem Tryz.Builder_String_any_k (B b:Nat) (l:List UInt8) (w:World) (h:Lib.IsBuilderF 287 5 B b (Lib.byteCells l) w) (hBw:B≤w.heap.size) :
  Calls Tryz.prog 244 #[.pointer (some ⟨b,0,none⟩)] w fun e w'=>e = .returned (.string ⟨l.toArray⟩)∧(Lib.IsBuilderF 287 5 B b (Lib.byteCells l) w'∧Below B w w'∧Lib.OthersKept 5 (some b) w w'):=Any.Builder_String_any_k Tryz.Wf Tryz.yD B b l w h hBw
def Tryz.Hu:Go.Shelf.Ren:=⟨fun | 171=>241 | 243=>275 | 246=>288 | 283=>295 | 284=>296 | 285=>297 | 286=>298 | 129=>301 | 317=>300 | 318=>302 | 319=>303 | 320=>304 | 337=>305 | 338=>306 | n=>n,fun | 3=>3 | 9=>9 | 2=>2 | 4=>4 | 171=>336 | 0=>0 | 53=>254 | 37=>285 | 5=>5 | 173=>339 | 212=>343 | 51=>255 | 20=>20 | 213=>344 | 46=>320 | 232=>347 | 233=>348 | n=>n,fun | 17=>0 | 18=>2 | 19=>3 | n=>n⟩
theorem Tryz.Qt:Go.Proofs.LaysM.n171 Tryz.prog Tryz.Hu:={
 mixed:=by kernel_rfl
 f129:=Tryz.func301.trans (congrArg some (by kernel_rfl))
 f171:=Tryz.func241.trans (congrArg some (by kernel_rfl))
 f243:=Tryz.func275.trans (congrArg some (by kernel_rfl))
 f246:=Tryz.func288.trans (congrArg some (by kernel_rfl))
 f283:=Tryz.func295.trans (congrArg some (by kernel_rfl))
 f284:=Tryz.func296.trans (congrArg some (by kernel_rfl))
 f285:=Tryz.func297.trans (congrArg some (by kernel_rfl))
 f286:=Tryz.func298.trans (congrArg some (by kernel_rfl))
 f317:=Tryz.func300.trans (congrArg some (by kernel_rfl))
 f318:=Tryz.func302.trans (congrArg some (by kernel_rfl))
 f319:=Tryz.func303.trans (congrArg some (by kernel_rfl))
 f320:=Tryz.func304.trans (congrArg some (by kernel_rfl))
 f337:=Tryz.func305.trans (congrArg some (by kernel_rfl))
 f338:=Tryz.func306.trans (congrArg some (by kernel_rfl))
 t0:=Tryz.underlying0
 a0:=Tryz.isAgg0
 z0:=Tryz.sizeOf0
 v0:=Tryz.zeroValue0
 t2:=Tryz.underlying2
 a2:=Tryz.isAgg2
 z2:=Tryz.sizeOf2
 v2:=Tryz.zeroValue2
 t3:=Tryz.underlying3
 a3:=Tryz.isAgg3
 z3:=Tryz.sizeOf3
 v3:=Tryz.zeroValue3
 t4:=Tryz.underlying4
 a4:=Tryz.isAgg4
 z4:=Tryz.sizeOf4
 v4:=Tryz.zeroValue4
 t5:=Tryz.underlying5
 a5:=Tryz.isAgg5
 z5:=Tryz.sizeOf5
 v5:=Tryz.zeroValue5
 t9:=Tryz.underlying9
 a9:=Tryz.isAgg9
 z9:=Tryz.sizeOf9
 v9:=Tryz.zeroValue9
 t20:=Tryz.underlying20
 a20:=Tryz.isAgg20
 z20:=Tryz.sizeOf20
 v20:=Tryz.zeroValue20
 t37:=Tryz.underlying285
 a37:=Tryz.isAgg285
 z37:=Tryz.sizeOf285
 v37:=Tryz.zeroValue285
 t46:=Tryz.underlying320
 a46:=Tryz.isAgg320
 z46:=Tryz.sizeOf320
 v46:=Tryz.zeroValue320
 t51:=Tryz.underlying255
 a51:=Tryz.isAgg255
 z51:=Tryz.sizeOf255
 v51:=Tryz.zeroValue255
 t53:=Tryz.underlying254
 a53:=Tryz.isAgg254
 z53:=Tryz.sizeOf254
 v53:=Tryz.zeroValue254
 t171:=Tryz.underlying336
 a171:=Tryz.isAgg336
 z171:=Tryz.sizeOf336
 v171:=Tryz.zeroValue336
 t173:=Tryz.underlying339
 a173:=Tryz.isAgg339
 z173:=Tryz.sizeOf339
 v173:=Tryz.zeroValue339
 t212:=Tryz.underlying343
 a212:=Tryz.isAgg343
 z212:=Tryz.sizeOf343
 v212:=Tryz.zeroValue343
 t213:=Tryz.underlying344
 a213:=Tryz.isAgg344
 z213:=Tryz.sizeOf344
 t232:=Tryz.underlying347
 a232:=Tryz.isAgg347
 z232:=Tryz.sizeOf347
 v232:=Tryz.zeroValue347
 t233:=Tryz.underlying348
 a233:=Tryz.isAgg348
 z233:=Tryz.sizeOf348
 v233:=Tryz.zeroValue348
 g17:=by kernel_rfl
 g18:=by kernel_rfl
 g19:=by kernel_rfl
 i0:=by kernel_rfl
 i2:=by kernel_rfl
 i3:=by kernel_rfl
 i4:=by kernel_rfl
 i5:=by kernel_rfl
 i9:=by kernel_rfl
 i20:=by kernel_rfl
 i37:=by kernel_rfl
 i46:=by kernel_rfl
 i51:=by kernel_rfl
 i53:=by kernel_rfl
 i171:=by kernel_rfl
 i173:=by kernel_rfl
 i212:=by kernel_rfl
 i232:=by kernel_rfl
 i233:=by kernel_rfl
 m17:=by kernel_rfl
 m18:=by kernel_rfl
 m19:=by kernel_rfl }
open Go.RowKit Go.Sort Go.Lib in
theorem Tryz.strconv_Itoa (n:Int) (h0:-9223372036854775808≤n) (h1:n≤9223372036854775807) (w:World) (htab:Lib.TabIs Tryz.prog w "internal/strconv.uint64pow10" .u64 Lib.pow10Tab) :
  Calls Tryz.prog 241 #[.int .i64 n] w fun e w'=>e = .returned (.string ⟨(Lib.itoa n).toArray⟩)∧∃ k os,w'=grow (w.drewN k) os:=Any.strconv_Itoa Tryz.Qt n h0 h1 w htab
def Tryz.AO:Go.Shelf.Ren:=⟨fun | 105=>243 | 212=>277 | 99=>278 | 165=>279 | 166=>242 | 170=>280 | 169=>244 | 263=>290 | 264=>291 | 206=>292 | 240=>276 | 241=>293 | 276=>289 | 277=>299 | n=>n,fun | 9=>9 | 3=>3 | 4=>4 | 20=>20 | 0=>0 | 46=>320 | 109=>321 | 5=>5 | 72=>287 | 76=>294 | 51=>255 | 146=>331 | 53=>254 | 148=>333 | 70=>284 | 37=>285 | 75=>293 | 127=>325 | 164=>329 | 80=>144 | n=>n,fun | n=>n⟩
theorem Tryz.NF:Go.Proofs.Lays.n105 Tryz.prog Tryz.AO:={
 mixed:=by kernel_rfl
 f99:=Tryz.func278.trans (congrArg some (by kernel_rfl))
 f105:=Tryz.func243.trans (congrArg some (by kernel_rfl))
 f165:=Tryz.func279.trans (congrArg some (by kernel_rfl))
 f166:=Tryz.func242.trans (congrArg some (by kernel_rfl))
 f169:=Tryz.func244.trans (congrArg some (by kernel_rfl))
 f170:=Tryz.func280.trans (congrArg some (by kernel_rfl))
 f206:=Tryz.func292.trans (congrArg some (by kernel_rfl))
 f212:=Tryz.func277.trans (congrArg some (by kernel_rfl))
 f240:=Tryz.func276.trans (congrArg some (by kernel_rfl))
 f241:=Tryz.func293.trans (congrArg some (by kernel_rfl))
 f263:=Tryz.func290.trans (congrArg some (by kernel_rfl))
 f264:=Tryz.func291.trans (congrArg some (by kernel_rfl))
 f276:=Tryz.func289.trans (congrArg some (by kernel_rfl))
 f277:=Tryz.func299.trans (congrArg some (by kernel_rfl))
 t0:=Tryz.underlying0
 a0:=Tryz.isAgg0
 z0:=Tryz.sizeOf0
 v0:=Tryz.zeroValue0
 t3:=Tryz.underlying3
 a3:=Tryz.isAgg3
 z3:=Tryz.sizeOf3
 v3:=Tryz.zeroValue3
 t4:=Tryz.underlying4
 a4:=Tryz.isAgg4
 z4:=Tryz.sizeOf4
 v4:=Tryz.zeroValue4
 t5:=Tryz.underlying5
 a5:=Tryz.isAgg5
 z5:=Tryz.sizeOf5
 v5:=Tryz.zeroValue5
 t9:=Tryz.underlying9
 a9:=Tryz.isAgg9
 z9:=Tryz.sizeOf9
 v9:=Tryz.zeroValue9
 t20:=Tryz.underlying20
 a20:=Tryz.isAgg20
 z20:=Tryz.sizeOf20
 v20:=Tryz.zeroValue20
 t37:=Tryz.underlying285
 a37:=Tryz.isAgg285
 z37:=Tryz.sizeOf285
 v37:=Tryz.zeroValue285
 t46:=Tryz.underlying320
 a46:=Tryz.isAgg320
 z46:=Tryz.sizeOf320
 v46:=Tryz.zeroValue320
 t51:=Tryz.underlying255
 a51:=Tryz.isAgg255
 z51:=Tryz.sizeOf255
 v51:=Tryz.zeroValue255
 t53:=Tryz.underlying254
 a53:=Tryz.isAgg254
 z53:=Tryz.sizeOf254
 v53:=Tryz.zeroValue254
 t70:=Tryz.underlying284
 a70:=Tryz.isAgg284
 z70:=Tryz.sizeOf284
 v70:=Tryz.zeroValue284
 t72:=Tryz.underlying287
 a72:=Tryz.isAgg287
 z72:=Tryz.sizeOf287
 v72:=Tryz.zeroValue287
 t75:=Tryz.underlying293
 a75:=Tryz.isAgg293
 z75:=Tryz.sizeOf293
 v75:=Tryz.zeroValue293
 t76:=Tryz.underlying294
 a76:=Tryz.isAgg294
 z76:=Tryz.sizeOf294
 v76:=Tryz.zeroValue294
 t109:=Tryz.underlying321
 a109:=Tryz.isAgg321
 z109:=Tryz.sizeOf321
 v109:=Tryz.zeroValue321
 t127:=Tryz.underlying325
 a127:=Tryz.isAgg325
 z127:=Tryz.sizeOf325
 v127:=Tryz.zeroValue325
 t146:=Tryz.underlying331
 a146:=Tryz.isAgg331
 z146:=Tryz.sizeOf331
 v146:=Tryz.zeroValue331
 t148:=Tryz.underlying333
 a148:=Tryz.isAgg333
 z148:=Tryz.sizeOf333
 v148:=Tryz.zeroValue333
 t164:=Tryz.underlying329
 a164:=Tryz.isAgg329
 z164:=Tryz.sizeOf329
 v164:=Tryz.zeroValue329 }
theorem Tryz.pC:Builder.Extra Tryz.prog Tryz.AO:={
 sizeBuilder:=by kernel_rfl
 liesBuilder:=by kernel_rfl
 t5:=Tryz.underlying5
 a5:=Tryz.isAgg5
 z5:=Tryz.sizeOf5
 v5:=Tryz.zeroValue5
 infoByte:=by kernel_rfl
 cellsByte:=by kernel_rfl
 sizeByte:=by kernel_rfl
 neB5:=by decide }
open Go.RowKit Go.Lib in
theorem Tryz.strings_Repeat (s:ByteArray) (c:Nat) (w:World) (hc:c≤9223372036854775807) (hlen:s.size*c≤140737488355328) :
  Calls Tryz.prog 243 #[.string s, .int .i64 c] w fun e w'=>e = .returned (.string ⟨(Lib.repeatL s.data.toList c).toArray⟩)∧Below w.heap.size w w':=Any.strings_Repeat Tryz.NF Tryz.pC s c w hc hlen
end Go.Proofs
namespace Go.Sy
open Go Go.Proofs Go.RowKit Go.Shelf Tryz Ord
attribute [local go_sem] Oper.semAt_some
abbrev D9:={d:Nat // d<1000000000}
instance:Inhabited D9:=⟨⟨0,by omega⟩⟩
abbrev ar8 (d:D9):Value:=.int .u32 (d.1:Int)
def tx (L:Nat) (pre:List (Nat×D9)):List UInt8:=pre.foldl (fun t x=>t++if x.1+1<L then mQ 9 x.2.1 else dec x.2.1) []
theorem Ha (L:Nat) (pre:List (Nat×D9)) (x:Nat×D9):tx L (pre ++ [x])=tx L pre++if x.1+1<L then mQ 9 x.2.1 else dec x.2.1:=by simp [tx]
theorem Il (L:Nat) (x:Nat×D9):(if x.1+1<L then mQ 9 x.2.1 else dec x.2.1).length≤9:=by
 split
 ·rw [AJ];omega
 ·exact lU (by omega) (by rw [show (10:Nat)^9=1000000000 by decide];exact x.2.2)
theorem au7 (L:Nat) (pre:List (Nat×D9)):(tx L pre).length≤9*pre.length:=by
 have h:∀ (l:List (Nat×D9)) (t:List UInt8),(l.foldl (fun t x=>t++if x.1+1<L then mQ 9 x.2.1 else dec x.2.1) t).length≤t.length+9*l.length:=by
  intro l
  induction l with
  | nil=>intro t;simp
  | cons x l ih=>
    intro t;have h1:=ih (t++if x.1+1<L then mQ 9 x.2.1 else dec x.2.1);have h2:=Il L x;rw [List.length_append] at h1;rw [List.foldl_cons,List.length_cons];omega
 have:=h pre []
 simpa [tx] using this
theorem TO (vs:List D9) (h0:∀ d,vs.getLast? = some d→d.1≠0):∀ k,0<k→k≤vs.length→0<lv ((vs.map Subtype.val).drop (vs.length-k))∧tx vs.length (bk vs k)=dec (lv ((vs.map Subtype.val).drop (vs.length-k)))
 | 0,h,_=>by omega
 | k+1,_,hk=>by
   have hlt:vs.length-(k+1)<vs.length:=by omega
   have hlt':vs.length-(k+1)<(vs.map Subtype.val).length:=by rw [List.length_map];exact hlt
   have hget:vs[vs.length-1-k]? = some vs[vs.length-(k+1)]:=by rw [show vs.length-1-k=vs.length-(k+1) by omega];exact List.getElem?_eq_getElem hlt
   have e1:(vs.map Subtype.val).drop (vs.length-(k+1))=vs[vs.length-(k+1)].1::(vs.map Subtype.val).drop (vs.length-k):=by
    rw [List.drop_eq_getElem_cons hlt',List.getElem_map,show vs.length-(k+1)+1=vs.length-k by omega]
   rw [Ho,Ha,hget,Option.getD_some,e1];show 0<val 1000000000 (_::_)∧_=dec (val 1000000000 (_::_));rw [val];rcases Nat.eq_zero_or_pos k with rfl | hk0
   ·have hd:vs[vs.length-(0+1)].1≠0:=h0 _ (by rw [List.getLast?_eq_getElem?];exact hget);have e2:(vs.map Subtype.val).drop (vs.length-0) = []:=by rw [List.drop_eq_nil_iff,List.length_map];omega
    rw [e2];dsimp only;rw [if_neg (by omega)];simp only [val,Nat.mul_zero,Nat.add_zero];exact ⟨by omega,by simp [bk,tx]⟩
   ·obtain ⟨h1,h2⟩:=TO vs h0 k hk0 (by omega);dsimp only;rw [if_pos (by omega),h2];have h3:(vs[vs.length-(k+1)]).1<10^9:=by rw [show (10:Nat)^9=1000000000 by decide];exact vs[vs.length-(k+1)].2
    have h4:=Tp (m:=lv ((vs.map Subtype.val).drop (vs.length-k))) h1 h3;rw [show (10:Nat)^9=1000000000 by decide] at h4;have h5:0<lv ((vs.map Subtype.val).drop (vs.length-k)):=h1;exact ⟨by show 0<_+1000000000*lv _;omega,h4.symm⟩
theorem Ij {ds:List Nat} (h:Dg ds):∃ vs:List D9,vs.map Subtype.val=ds:=by
 induction ds with
 | nil=>exact ⟨[],rfl⟩
 | cons d ds ih=>
   obtain ⟨vs,hv⟩:=ih fun x hx=>h x (List.mem_cons_of_mem _ hx);exact ⟨⟨d,h d List.mem_cons_self⟩::vs,by rw [List.map_cons,hv]⟩
theorem Fh (w:World) (k:Nat) (os:Array Obj):Below w.heap.size w (Sort.grow (w.drewN k) os):=by
 refine ⟨rfl,rfl,rfl,?_,fun j hj=>?_⟩
 ·show w.heap.size≤(w.heap++os).size;rw [Array.size_append];omega
 ·show (w.heap++os)[j]? = _;exact Array.getElem?_append_left hj
theorem XW (n:Nat) (hn:n≤9223372036854775807) (w:World) (M:Nat→Prop) (hM:Good M w) :
  Calls prog 241 #[.int .i64 (n:Int)] w fun e w'=>e = .returned (.string ⟨(dec n).toArray⟩)∧Below w.heap.size w w':=by
 obtain ⟨_,T,fz,h⟩:=hM (0,Dr) (by simp [Vz.tab])
 have htab:Lib.TabIs prog w "internal/strconv.uint64pow10" .u64 Lib.pow10Tab:=by
  unfold Lib.TabIs World.var?;rw [show prog.globalNamed "internal/strconv.uint64pow10" = some 0 by kernel_rfl];have h:w.heap[0]? = some (.cells Dr T fz):=h;simp only [Option.bind_some,h];rfl
 refine (Tryz.strconv_Itoa (n:Int) (by omega) (by omega) w htab).mono ?_;rintro e w' ⟨rfl,k,os,rfl⟩;refine ⟨?_,Fh w k os⟩;rw [Lib.itoa_nonneg]
theorem PG (c:Nat) (hc:c≤9) (w:World):Calls prog 243 #[.string ⟨#[48]⟩, .int .i64 (c:Int)] w fun e w'=>e = .returned (.string ⟨(List.replicate c (48:UInt8)).toArray⟩)∧Below w.heap.size w w':=by
 refine (Tryz.strings_Repeat ⟨#[48]⟩ c w (by omega) (by show 1*c≤_;omega)).mono ?_;rintro e w' ⟨rfl,h⟩;exact ⟨by rw [←aX5],h⟩
theorem GK (B b:Nat) (bs:List Value) (s:ByteArray) (w:World) (h:Lib.IsBuilderF 287 5 B b bs w) (hlen:bs.length+s.size≤140737488355328) (hBw:B≤w.heap.size) :
  Calls prog 242 #[.pointer (some ⟨b,0,none⟩), .string s] w fun e w'=>e = .returned (.tuple #[.int .i64 s.size, .nilIface])∧(Lib.IsBuilderF 287 5 B b (bs++Lib.strCells s) w'∧Below B w w'∧Lib.OthersKept 5 (some b) w w'):=
 (Any.Builder_WriteString_k { Tryz.NF with } Tryz.pC B b bs s w h hlen hBw).mono fun e w' ⟨h1,h2,h3,h4⟩=>⟨h1, .inr h2,h3,h4⟩
theorem xK {T e B b:Nat} {bs:List Value} {A A':World} (h:Lib.IsBuilderF T e B b bs A) (k:∀ (j:Nat) (o:Obj),A.heap[j]? = some o→o.isCells=true→A'.heap[j]? = some o):Lib.IsBuilderF T e B b bs A':=by
 have one:∀ p,Lib.BuilderAtF T e B b p bs A→Lib.BuilderAtF T e B b p bs A':=by
  rintro p ⟨h1,v,h2,⟨h3,h4⟩,h5⟩;refine ⟨h1,v,k _ _ h2 rfl,⟨h3,?_⟩,h5⟩;rcases h4 with h4 | ⟨g,cap,cur,fz,h6,h7,h8,h9⟩
  ·exact .inl h4
  ·exact .inr ⟨g,cap,cur,fz,h6,h7,k _ _ h8 rfl,h9⟩
 exact h.elim (fun x=>.inl (one _ x)) (fun x=>.inr (one _ x))
theorem dY {A B:World} {row:Option Nat} (hg:A.grownBy B row) (hr:∀ r,row=some r→∃ o:Obj,A.heap[r]? = some o∧o.isCells=false) {b:Nat} {o:Obj} (ho:A.heap[b]? = some o) (hc:o.isCells=true):B.heap[b]? = some o:=by
 refine (hg.block b (Array.getElem?_eq_some_iff.1 ho).1 fun e=>?_).trans ho;obtain ⟨o',ho',hc'⟩:=hr b e.symm;rw [ho] at ho';cases ho';rw [hc] at hc';cases hc'
theorem aH {W:World} {b T:Nat} {cs:Array Value} {fz:Nat×Nat} (h:W.heap[b]? = some (.cells cs T fz)) {j:Nat} {v:Value} (hj:cs[j]? = some v):W.cell? ⟨b,j,none⟩=some v:=by
 simp only [World.cell?,h]
 simpa using hj
theorem iQ {A A':World} (h:Below A.heap.size A A') (j:Nat) (o:Obj) (ho:A.heap[j]? = some o):A'.heap[j]? = some o:=(h.block j (Array.getElem?_eq_some_iff.1 ho).1).trans ho
set_option maxHeartbeats 1000000 in
theorem Nf (n:Nat) (a:Option Addr) (len cap:Nat) (w:World) :
  CallsIn Fence.wide n prog 179 #[.agg #[.slice a len cap]] w fun e w'=>e = .returned (.bool (decide ((len:Int)=0)))∧w'=w.alloc (.cells #[.slice a len cap] 35):=by
 refine callsIn_of_wp func179 rfl trivial ?_ rfl;simp only [ntmps179,List.size_toArray,List.length_cons,List.length_nil,Nat.reduceAdd,Nat.reduceSub,Array.replicate_succ,Array.replicate_zero,List.push_toArray,List.append_toArray,List.nil_append,List.cons_append]
 gi_wp2
 go_ret
 exact ⟨rfl,rfl⟩
theorem nine {d:Nat} (hd:d<1000000000):∃ c:Nat,c≤9∧wrap64 (9-((dec d).length:Int))=(c:Int)∧mQ 9 d=List.replicate c 48++dec d:=by
 have hd':d<10^9:=by rw [show (10:Nat)^9=1000000000 by decide];exact hd
 have h1:(dec d).length≤9:=lU (by omega) hd';refine ⟨9-(dec d).length,by omega,?_,IM (by omega) hd'⟩;rw [show (9:Int)-((dec d).length:Int)=((9-(dec d).length:Nat):Int) by omega];have hk:9-(dec d).length≤9:=Nat.sub_le _ _;generalize 9-(dec d).length=k at hk ⊢;unfold wrap64;omega
theorem lens (t d:List UInt8) (c:Nat) (hd:d.length≤9) (hc:c≤9) (ht:t.length≤10000000000000) :
  (Lib.byteCells t).length+(⟨Array.replicate c 48⟩:ByteArray).size≤140737488355328∧(Lib.byteCells t++Lib.strCells ⟨Array.replicate c 48⟩).length+(⟨d.toArray⟩:ByteArray).size≤140737488355328∧(Lib.byteCells t).length+(⟨d.toArray⟩:ByteArray).size≤140737488355328:=by
 have h1:(⟨Array.replicate c 48⟩:ByteArray).size=c:=Array.size_replicate;have h2:(⟨d.toArray⟩:ByteArray).size=d.length:=List.size_toArray;rw [List.length_append,Lib.strCells_length,Lib.byteCells_length,h1,h2];omega
theorem Gc {n0 L cap:Nat} {a:Option Addr} {W0 W W':World} {bs bs':List Value} (h2:Below (n0+2) W0 W) (h3:n0+4≤W.heap.size) (h4:W.heap[n0+3]? = some (.cells #[.slice a L cap] 33 (0,0)))
  (hb:Below (n0+2) W W') (ho:∀ k o,W.heap[k]? = some o→some k≠some (n0+2)→(∀ c fz,o ≠ .cells c 5 fz)→W'.heap[k]? = some o)
  (h1:Lib.IsBuilderF 287 5 (n0+2) (n0+2) bs W) (h1':Lib.IsBuilderF 287 5 (n0+2) (n0+2) bs' W') :
  KeepsOthers W W'∧Yk n0 (n0+3) W W'∧Lib.IsBuilderF 287 5 (n0+2) (n0+2) bs' W'∧Below (n0+2) W0 W'∧n0+4≤W'.heap.size∧W'.heap[n0+3]? = some (.cells #[.slice a L cap] 33 (0,0)):=by
 have h5:=ho _ _ h4 (by simp) (by intro c fz h;cases h)
 obtain ⟨cs,T,fz,hbc⟩:∃ cs T fz,W.heap[n0+2]? = some (.cells cs T fz):=by
  rcases h1 with ⟨_,v,h,_⟩ | ⟨_,v,h,_⟩
  ·exact ⟨_,_,_,h⟩
  ·exact ⟨_,_,_,h⟩
 refine ⟨⟨hb.size,fun k o hk hc=>ho k o hk ?_ (by rintro c fz rfl;cases hc)⟩,⟨hb.mono (by omega),fun v hv=>?_⟩,h1',h2.trans hb,Nat.le_trans h3 hb.size,h5⟩
 ·rintro e;cases e;rw [hbc] at hk;cases hk;cases hc
 ·simp only [World.cell?,h4,h5] at hv ⊢;exact hv
theorem Yo (n:Nat) (a:Option Addr) (len cap:Nat) (h:len≠0) (w:World) :
  CallsIn Fence.wide n prog 179 #[.agg #[.slice a len cap]] w fun e w'=>e = .returned (.bool false)∧w'=w.alloc (.cells #[.slice a len cap] 35):=by
 have:=Nf n a len cap w;rw [decide_eq_false (by omega)] at this;exact this
set_option maxRecDepth 100000 in
set_option maxHeartbeats 400000 in
theorem LY (a:Option Addr) (cap:Nat) (w:World) :
  CallsIn Fence.wide 1001 prog 178 #[.agg #[.slice a 0 cap]] w fun e W'=>e = .returned (.string ⟨#[48]⟩)∧Below w.heap.size w W':=by
 refine callsIn_of_wp func178 rfl trivial ?_ rfl;simp only [ntmps178,List.size_toArray,List.length_cons,List.length_nil,Nat.reduceAdd,Nat.reduceSub,Array.replicate_succ,Array.replicate_zero,List.push_toArray,List.append_toArray,List.nil_append,List.cons_append]
 gi_wp2_with (refine ⟨trivial,?_⟩;gi_at_call 179;refine (Nf _ _ 0 _ _).mono ?_;rintro e w' ⟨rfl,rfl⟩)
 go_ret
 exact ⟨rfl,((Below.refl _ w).alloc (Nat.le_refl _) _).alloc (by simp) _⟩
set_option maxRecDepth 100000 in
set_option maxHeartbeats 400000 in
theorem Td (a:Option Addr) (cap:Nat) (vs:List D9) (hlen:vs.length≤1099511627776) (h0:vs.length≠0) (w:World) (M:Nat→Prop) (hM:Good M w) (hI:ZH ar8 w.heap.size w (.slice a vs.length cap) vs) :
  CallsIn Fence.wide 1001 prog 178 #[.agg #[.slice a vs.length cap]] w fun e W'=>e = .returned (.string ⟨(tx vs.length (bk vs vs.length)).toArray⟩)∧Below w.heap.size w W':=by
 refine callsIn_of_wp_marks func178 rfl trivial ?_ rfl;simp only [ntmps178,List.size_toArray,List.length_cons,List.length_nil,Nat.reduceAdd,Nat.reduceSub,Array.replicate_succ,Array.replicate_zero,List.push_toArray,List.append_toArray,List.nil_append,List.cons_append];generalize hL:vs.length=L at hI hlen h0 ⊢
 gi_wp2_with (refine ⟨trivial,?_⟩;gi_at_call 179;refine (Yo _ _ _ _ h0 _).mono ?_;rintro e w' ⟨rfl,rfl⟩)
 gi_wp2_with (refine ⟨trivial,?_⟩;gi_at_call 240;refine (HY _ _ _ _ _).mono ?_;rintro e w' ⟨rfl,rfl⟩)
 obtain ⟨n0,hn0⟩:∃ n0,w.heap.size=n0:=⟨_,rfl⟩
 rw [hn0] at hI ⊢;obtain ⟨W0,hW0⟩:∃ W0,((((w.alloc (.cells #[.slice a L cap] 35)).alloc (.cells #[.slice a L cap] 35)).alloc (.cells #[.pointer none, .slice none 0 0] 287)).alloc (.cells #[.slice a L cap] 33))=W0:=⟨_,rfl⟩
 have hs0:W0.heap.size=n0+4:=by rw [←hW0];simp [hn0]
 have hA0:W0.heap[n0]? = some (.cells #[.slice a L cap] 35 (0,0)):=by rw [←hW0,heap_alloc_old _ _ _ (by simp;omega),heap_alloc_old _ _ _ (by simp;omega),heap_alloc_old _ _ _ (by simp;omega),←hn0];exact heap_alloc_new w _
 have hT0:W0.heap[n0+2]? = some (.cells #[.pointer none, .slice none 0 0] 287 (0,0)):=by
  rw [←hW0,heap_alloc_old _ _ _ (by simp;omega)];have:=heap_alloc_new ((w.alloc (.cells #[.slice a L cap] 35)).alloc (.cells #[.slice a L cap] 35)) (.cells #[.pointer none, .slice none 0 0] 287);rw [World.size_alloc,World.size_alloc,hn0] at this;exact this
 have hP0:W0.heap[n0+3]? = some (.cells #[.slice a L cap] 33 (0,0)):=by
  rw [←hW0];have:=heap_alloc_new (((w.alloc (.cells #[.slice a L cap] 35)).alloc (.cells #[.slice a L cap] 35)).alloc (.cells #[.pointer none, .slice none 0 0] 287)) (.cells #[.slice a L cap] 33);rw [World.size_alloc,World.size_alloc,World.size_alloc,hn0] at this;exact this
 have hB0:Below n0 w W0:=by
  rw [←hW0];exact ((((Below.refl _ w).alloc (by omega) _).alloc (by simp;omega) _).alloc (by simp;omega) _).alloc (by simp;omega) _
 rw [hW0];have hG0:Good M W0:=hM.below hn0.symm hB0
 refine wpIn_rangeFunc_ownF (w0:=W0) rfl (by omega) (gf:=274) (lb:=#[.pointer (some ⟨n0+1+1+1,0,none⟩)]) rfl trivial (enters_of func274 (by kernel_rfl) rfl)
  (AV (enc:=ar8) (n0+3) n0 (.slice a L cap) vs (by omega) W0 (by omega) (by omega) (aH hP0 rfl) (hI.below hB0)) Nz (NP (by omega) (by omega)) (Below.refl _ _) (fun _=>rfl)
  (fun pre W=>Lib.IsBuilderF 287 5 (n0+2) (n0+2) (Lib.byteCells (tx L pre)) W∧Below (n0+2) W0 W∧n0+4≤W.heap.size∧W.heap[n0+3]? = some (.cells #[.slice a L cap] 33 (0,0)))
  (fun _ _ _=>False) ?own (fun _=>by intro s A B row hs;exact hs.elim) ?start
  (fun x=>{ tmps:=#[.agg #[.slice a L cap], .pointer (some ⟨n0,0,none⟩), .string ⟨#[]⟩, .pointer (some ⟨n0+1+1,0,none⟩), .int .i64 (x.1:Int), .int .u32 (x.2.1:Int),undef, .agg #[.slice a L cap], .bool false, .pointer (some ⟨n0,0,none⟩), .slice a L cap, .func (.func 274) #[] #[.pointer (some ⟨n0+1+1+1,0,none⟩)], .int .i64 (x.1:Int), .int .u32 (x.2.1:Int),undef,undef,undef,undef,undef,undef,undef,undef,undef,undef,undef,undef,undef,undef,undef,undef,undef],defers:=[] }) ?assign ?body ?done ?stop
 case own=>
  rintro s A A' row ⟨h1,h2,h3,h4⟩ hg hr;exact ⟨xK h1 fun j o ho hc=>dY hg (fun r e=>(hr r e).2) ho hc,h2.grown hg (by omega) (fun k e=>by have:=(hr k e).1;omega),Nat.le_trans h3 hg.size,dY hg (fun r e=>(hr r e).2) h4 rfl⟩
 case start=>
  exact ⟨Lib.IsBuilderF.of (.inl ⟨Nat.le_refl _,_,hT0,⟨rfl, .inl ⟨rfl,rfl⟩⟩,by simp [Value.ownBlock]⟩),Below.refl _ _,by omega,hP0⟩
 case assign=>
  intro l x W K hK
  gi_wp2
  exact hK
 case body=>
  rintro l pre x W ⟨h1,h2,h3,h4⟩ hlt;have hG:Good M W:=hM.below hn0.symm (hB0.trans (h2.mono (by omega)));have hA:W.heap[n0]? = some (.cells #[.slice a L cap] 35 (0,0)):=(h2.block n0 (by omega)).trans hA0;have cA:W.cell? ⟨n0,0,none⟩=some (.slice a L cap):=aH hA rfl;have hx:x.2.1<1000000000:=x.2.2;obtain ⟨c,hc9,hci,hz⟩:=nine hx;have hpl:=au7 L pre;have htx1:(x.1:Int)<(L:Int)-1→tx L (pre ++ [x])=tx L pre++List.replicate c 48++dec x.2.1:=fun h=>by rw [Ha,if_pos (by omega),hz,List.append_assoc]
  have htx2:¬ (x.1:Int)<(L:Int)-1→tx L (pre ++ [x])=tx L pre++dec x.2.1:=fun h=>by rw [Ha,if_neg (by omega)]
  have h32:n0+2≤W.heap.size:=by omega
  rw [hL] at hlt
  obtain ⟨lA,lB,lC⟩:=lens (tx L pre) (dec x.2.1) c (by have:(dec x.2.1).length≤9:=lU (by omega) (by rw [show (10:Nat)^9=1000000000 by decide];exact hx)
                                                       exact this) hc9 (by omega)
  have hcell:Lib.byteCells (tx L pre)++Lib.strCells ⟨Array.replicate c 48⟩++Lib.strCells ⟨(dec x.2.1).toArray⟩=Lib.byteCells (tx L pre++List.replicate c 48++dec x.2.1):=by
   rw [Lib.strCells_eq,Lib.strCells_eq,Lib.byteCells_append,Lib.byteCells_append];simp
  have hcell2:Lib.byteCells (tx L pre)++Lib.strCells ⟨(dec x.2.1).toArray⟩=Lib.byteCells (tx L pre++dec x.2.1):=by
   rw [Lib.strCells_eq,Lib.byteCells_append]
  by_cases hc:(x.1:Int)<(L:Int)-1
  all_goals gi_wp2_with (refine ⟨trivial,?_⟩;gi_at_call 241;refine (CallsIn.inRound l (callsIn_wide.2 (XW x.2.1 (by omega) _ M hG))).mono ?_;rintro e w1 ⟨rfl,hb1⟩;have cA1:w1.cell? ⟨n0,0,none⟩=some (.slice a L cap):=(hb1.cell (p:=⟨n0,0,none⟩) (show n0<W.heap.size by omega)).trans cA)
  ·rw [hci]
   gi_wp2_with (refine ⟨trivial,?_⟩;gi_at_call 243;refine (CallsIn.inRound l (callsIn_wide.2 (PG c hc9 _))).mono ?_;rintro e w2 ⟨rfl,hb2⟩)
   have b2:Lib.IsBuilderF 287 5 (n0+2) (n0+2) (Lib.byteCells (tx L pre)) w2:=xK (xK h1 fun j o ho _=>iQ hb1 j o ho) fun j o ho _=>iQ hb2 j o ho;have s2:n0+2≤w2.heap.size:=Nat.le_trans (Nat.le_trans h32 hb1.size) hb2.size;have q:CallsIn (Fence.wide.inRound l) 998 prog 242 #[.pointer (some ⟨n0+1+1,0,none⟩), .string ⟨Array.replicate c 48⟩] w2 fun e w'=>e = .returned (.tuple #[.int .i64 (⟨Array.replicate c 48⟩:ByteArray).size, .nilIface])∧(Lib.IsBuilderF 287 5 (n0+2) (n0+2) (Lib.byteCells (tx L pre)++Lib.strCells ⟨Array.replicate c 48⟩) w'∧Below (n0+2) w2 w'∧Lib.OthersKept 5 (some (n0+2)) w2 w'):=CallsIn.inRound l (callsIn_wide.2 (GK (n0+2) (n0+2) _ ⟨Array.replicate c 48⟩ w2 b2 lA s2))
   gi_wp2_with (refine ⟨trivial,?_⟩;gi_at_call 242;refine q.mono ?_;clear q;rintro e w3 ⟨rfl,b3,hl3,ho3⟩)
   have s3:n0+2≤w3.heap.size:=Nat.le_trans s2 hl3.size;have q:CallsIn (Fence.wide.inRound l) 998 prog 242 #[.pointer (some ⟨n0+1+1,0,none⟩), .string ⟨(dec x.2.1).toArray⟩] w3 fun e w'=>e = .returned (.tuple #[.int .i64 (⟨(dec x.2.1).toArray⟩:ByteArray).size, .nilIface])∧(Lib.IsBuilderF 287 5 (n0+2) (n0+2) ((Lib.byteCells (tx L pre)++Lib.strCells ⟨Array.replicate c 48⟩)++Lib.strCells ⟨(dec x.2.1).toArray⟩) w'∧Below (n0+2) w3 w'∧Lib.OthersKept 5 (some (n0+2)) w3 w'):=CallsIn.inRound l (callsIn_wide.2 (GK (n0+2) (n0+2) _ ⟨(dec x.2.1).toArray⟩ w3 b3 lB s3))
   gi_wp2_with (refine ⟨trivial,?_⟩;gi_at_call 242;refine q.mono ?_;clear q;rintro e w4 ⟨rfl,b4,hl4,ho4⟩)
   rw [hcell,←htx1 hc] at b4;exact Gc h2 h3 h4 ((((hb1.mono h32).trans (hb2.mono (Nat.le_trans h32 hb1.size))).trans hl3).trans hl4) (fun k o ho hk hu=>ho4 k o (ho3 k o (iQ hb2 k o (iQ hb1 k o ho)) hk hu) hk hu) h1 b4
  ·have b1:Lib.IsBuilderF 287 5 (n0+2) (n0+2) (Lib.byteCells (tx L pre)) w1:=xK h1 fun j o ho _=>iQ hb1 j o ho;have s1:n0+2≤w1.heap.size:=Nat.le_trans h32 hb1.size;have q:CallsIn (Fence.wide.inRound l) 998 prog 242 #[.pointer (some ⟨n0+1+1,0,none⟩), .string ⟨(dec x.2.1).toArray⟩] w1 fun e w'=>e = .returned (.tuple #[.int .i64 (⟨(dec x.2.1).toArray⟩:ByteArray).size, .nilIface])∧(Lib.IsBuilderF 287 5 (n0+2) (n0+2) (Lib.byteCells (tx L pre)++Lib.strCells ⟨(dec x.2.1).toArray⟩) w'∧Below (n0+2) w1 w'∧Lib.OthersKept 5 (some (n0+2)) w1 w'):=CallsIn.inRound l (callsIn_wide.2 (GK (n0+2) (n0+2) _ ⟨(dec x.2.1).toArray⟩ w1 b1 lC s1))
   gi_wp2_with (refine ⟨trivial,?_⟩;gi_at_call 242;refine q.mono ?_;clear q;rintro e w4 ⟨rfl,b4,hl4,ho4⟩)
   rw [hcell2,←htx2 hc] at b4;exact Gc h2 h3 h4 ((hb1.mono h32).trans hl4) (fun k o ho hk hu=>ho4 k o (iQ hb1 k o ho) hk hu) h1 b4
 case done=>
  rintro D ys W hD rfl ⟨h1,h2,h3,h4⟩ hK;have s1:n0+2≤W.heap.size:=by omega
  have hbW:Below n0 w W:=hB0.trans (h2.mono (by omega))
  gi_wp2_with (refine ⟨trivial,?_⟩;gi_at_call 244;refine (callsIn_wide.2 (Tryz.Builder_String_any_k (n0+2) (n0+2) _ W h1 s1)).mono ?_;rintro e w1 ⟨rfl,b1,hl1,ho1⟩)
  have hne:some D≠some (n0+2):=by intro e;cases e;omega
  have hK1:=ho1 D _ hK hne (by intro c fz h;cases h);refine ⟨by simp, .inl ⟨_,_,rfl,run_takeDeferred hK1,?_⟩⟩;rw [hn0];refine ⟨_,results_tmp rfl _ _ _,rfl,(hbW.trans (hl1.mono (by omega))).trans ?_⟩;exact belowK_b (w:=w) (by omega) w1 D _ _ (by omega) hK1 rfl rfl
 case stop=>
  rintro D c pre W hD _ h hK;exact h.elim
theorem Hn (n:Nat) (hn:(dg n).length≤1099511627776):aK prog 178 [mT n] (.ret [bS (dec n)]):=by
 by_cases h0:n=0
 ·subst h0;refine ⟨bP (by kernel_rfl),fun M w vs hM hv=>?_⟩
  match vs,hv with
  | [v],hv=>
    obtain ⟨⟨us,rfl,hus⟩,_⟩:=hv
    match us,hus with
    | [u],hus=>
      obtain ⟨a,cap,rfl,hel⟩:=Te hus.1;have hl:((dg 0).map (fun d:Nat=>(d:Int))).length=0:=by rw [zW.2 rfl];rfl
      rw [hl];refine ((callsIn_wide (n:=1001)).1 (LY a cap w)).mono ?_;rintro e w' ⟨rfl,hb⟩;exact ⟨hb,[.string ⟨#[48]⟩],rfl,⟨by rw [Tu],rfl⟩,trivial⟩
    | [],hus=>exact hus.elim
    | _::_::_,hus=>exact hus.2.elim
  | [],hv=>exact hv.elim
  | _::_::_,hv=>exact hv.2.elim
 ·refine ⟨bP (by kernel_rfl),fun M w vs hM hv=>?_⟩
  match vs,hv with
  | [v],hv=>
    obtain ⟨⟨us,rfl,hus⟩,_⟩:=hv
    match us,hus with
    | [u],hus=>
      obtain ⟨ds,hds⟩:=Ij (jV n);have hdl:(dg n).length=ds.length:=by rw [←hds,List.length_map]
      obtain ⟨a,cap,rfl,hel⟩:=Te hus.1;have hl:((dg n).map (fun d:Nat=>(d:Int))).length=ds.length:=by rw [List.length_map,hdl]
      rw [hl]
      have hI:ZH ar8 w.heap.size w (.slice a ds.length cap) ds:=by
       refine ⟨a,cap,rfl,?_⟩;rcases hel with h | ⟨b,off,rfl,hb,hc⟩
       ·left
        have:(dg n).length=0:=by rw [←List.length_map (f:=fun d:Nat=>(d:Int)),h];rfl
        exact List.eq_nil_of_length_eq_zero (by omega)
       ·refine .inr ⟨b,off,rfl,hb,fun j v hj=>hc j _ ?_⟩;rw [←hds,List.map_map,List.getElem?_map,hj];rfl
      have hne:ds.length≠0:=fun h=>h0 (zW.1 (List.eq_nil_of_length_eq_zero (by omega)))
      have hlast:∀ d,ds.getLast? = some d→d.1≠0:=fun d hd=>by
       refine HB (B:=1000000000) (by omega) n d.1 ?_;show (dg n).getLast? = _;rw [←hds,List.getLast?_map,hd];rfl
      have ht:=(TO ds hlast ds.length (by omega) (Nat.le_refl _)).2;rw [Nat.sub_self,List.drop_zero,hds,gD] at ht;have h1:=Td a cap ds (by omega) hne w M hM.2 hI;rw [ht] at h1;refine ((callsIn_wide (n:=1001)).1 h1).mono ?_;rintro e w' ⟨rfl,hb⟩;exact ⟨hb,[.string ⟨(dec n).toArray⟩],rfl,⟨rfl,rfl⟩,trivial⟩
    | [],hus=>exact hus.elim
    | _::_::_,hus=>exact hus.2.elim
  | [],hv=>exact hv.elim
  | _::_::_,hv=>exact hv.2.elim
end Go.Sy
namespace Go.Sy
open Go Go.Proofs Go.RowKit Go.Shelf Tryz Ord
attribute [local go_sem] Oper.semAt_some
def aH3:Tr:=aP 36 [(G3 0),(G3 2)] [(some 3)] [6,7] [39,39] 39 false (aP 64 [(G3 3),(G3 1)] [(some 3)] [8,9] [39,39] 39 true (.ret [(G3 4)]))
theorem PB:aN prog f246 (fun _=>none) [.v (some 3), .v (some 3), .ref 3]=aH3:=by kernel_rfl
def kJ (ps:List Rat) (c:Rat):Rat:=ps.foldr (fun a v=>v*c+a) 0
theorem OH (v c x:Rat) (A B C:Nat) (hv:Fit A v) (hc:Fit B c) (hx:Fit C x) (hA:A+B+C≤4294967296):aK prog 246 [(qT v:aG),(qT c:aG),(.one (.bC (qC x)):aG)] (.ret [qT (v*x+c)]):=by
 refine aD (args:=[.v (some 3), .v (some 3), .ref 3]) (ins:=[.v (qT v), .v (qT c), .ref (qC x)]) (hints:=(fun _=>none)) fo (by kernel_rfl) func246 ⟨rfl,rfl,rfl,trivial⟩ ?_;rw [PB];dsimp only [List.map,In.env,aA,aB];refine aC (cP v x A C hv hx (by omega)) rfl ?_;dsimp only [aA,aB];refine aC (kF (v*x) c _ B (hv.mul hx) hc (by omega)) rfl ?_;exact aL rfl
section
variable (M:Nat→Prop) (w:World) (B:Nat)
structure QV where
 q:Rat
 u0:Value
 u1:Value
 u2:Value
 fit:Fit B q
 rep:aW M w (qC q) [u0,u1,u2]
end
theorem VD (M:Nat→Prop) (w:World) (B:Nat) (hB:1≤B):Nonempty (QV M w B):=
 ⟨⟨0, .slice none 0 0, .bool false, .slice none 0 0,Fit.zero hB,aW.sub eV ⟨⟨rfl,rfl⟩,⟨rfl,rfl⟩,⟨rfl,rfl⟩,trivial⟩⟩⟩
def hv {M:Nat→Prop} {w:World} {B:Nat} (x:Rat) (pre:List (Nat×QV M w B)):Rat:=pre.foldl (fun v c=>v*x+c.2.q) 0
theorem kH {P:Program} {W:World} {b T j:Nat} {cs:Array Value} {u:Value} (h:W.heap[b]? = some (.cells cs T (0,0))) (hj:j<cs.size) (o:u.oneCell'=true) :
  (store ⟨b,j,none⟩ u).run P W = .ok () (W.setRow b (cs.setIfInBounds j u)):=by
 have hcell:W.cell? ⟨b,j,none⟩=some cs[j]:=by simp [World.cell?,h,hj]
 have hfro:W.frozen? ⟨b,j,none⟩=false:=by simp [World.frozen?,h]
 rw [run_store P W _ u _ o,hcell];simp [hfro,setCell_eq_setRow W b j cs T (0,0) u h]
theorem vS {P:Program} {W:World} {b T:Nat} {c0 c1 c2 u0 u1 u2:Value} (h:W.heap[b]? = some (.cells #[c0,c1,c2] T (0,0))) (o0:u0.oneCell'=true) (o1:u1.oneCell'=true) (o2:u2.oneCell'=true) :
  (((store ⟨b,0,none⟩ u0).run P W).andThen fun _ w'=>((store ⟨b,1,none⟩ u1).run P w').andThen fun _ w'=>(store ⟨b,2,none⟩ u2).run P w') = .ok () (W.setRow b #[u0,u1,u2]):=by
 rw [kH h (by simp) o0,Result.andThen_ok,kH (setRow_heap W b _ _ T (0,0) h) (by simp) o1,Result.andThen_ok,setRow_setRow,kH (setRow_heap W b _ _ T (0,0) h) (by simp) o2,setRow_setRow];rfl
theorem below_setRow {n:Nat} {A W:World} {g:Nat} (h:Below n A W) (hg:n≤g) (cs:Array Value):Below n A (W.setRow g cs):=
 ⟨h.os,h.tape,h.output,by simpa [World.setRow] using h.size,fun k hk=>by
  rw [setRow_other W g k cs (by omega)];exact h.block k hk⟩
theorem VA {M:Nat→Prop} {w:World} {B:Nat} (x:Rat) (pre:List (Nat×QV M w B)) (y:Nat×QV M w B):hv x (pre ++ [y])=hv x pre*x+y.2.q:=by simp [hv]
theorem TE {M:Nat→Prop} {w:World} {B C:Nat} {x:Rat} (hx:Fit C x):∀ (pre:List (Nat×QV M w B)) (v:Rat) (A:Nat),Fit A v→Fit (pre.length*(B+C+1)+A) (pre.foldl (fun v c=>v*x+c.2.q) v)
 | [],v,A,h=>by simpa using h
 | y::ys,v,A,h=>by
   have:=TE hx ys (v*x+y.2.q) _ ((h.mul hx).add y.2.fit);refine this.mono ?_;rw [List.length_cons,Nat.add_mul];omega
theorem bc3 {M:Nat→Prop} {w:World} {q:Rat} {vs:List Value} (h:cG M w [qT q] vs):∃ v0 v1 v2,pack vs = .agg #[v0,v1,v2]∧aW M w (qC q) [v0,v1,v2]:=by
 match vs,h with
 | [v],h=>
   obtain ⟨⟨us,rfl,hus⟩,_⟩:=h
   match us,hus with
   | [a,b,c],hus=>exact ⟨a,b,c,rfl,hus⟩
   | [],hus=>exact hus.elim
   | [_],hus=>exact hus.2.elim
   | [_,_],hus=>exact hus.2.2.elim
   | _::_::_::_::_,hus=>exact hus.2.2.2.elim
 | [],h=>exact h.elim
 | _::_::_,h=>exact h.2.elim
set_option maxRecDepth 100000 in
set_option maxHeartbeats 2000000 in
theorem Pm (M:Nat→Prop) (w:World) (B C:Nat) (x:Rat) (hx:Fit C x) (hM:dK M w) (hB:1≤B) [Inhabited (QV M w B)] (a:Option Addr) (cap:Nat) (ts:List (QV M w B)) (hlen:ts.length<4611686018427387904) (hbig:ts.length*(B+C+1)+B+C+1≤4294967296)
  (hI:ZZ QV.u0 QV.u1 QV.u2 w.heap.size w (.slice a ts.length cap) ts) (z0 z1 z2:Value) (hz:aW M w (qC 0) [z0,z1,z2]) (xp:Value) (hxp:(aI.bC (qC x)).rep M w xp) :
  CallsIn Fence.wide 1001 prog 245 #[.slice a ts.length cap, .agg #[z0,z1,z2], .func (.func 246) #[] #[xp]] w fun e W'=>Below w.heap.size w W'∧∃ u0 u1 u2,e = .returned (.agg #[u0,u1,u2])∧aW M W' (qC (hv x (bk ts ts.length))) [u0,u1,u2]:=by
 refine callsIn_of_wp_marks func245 rfl trivial ?_ rfl;simp only [ntmps245,List.size_toArray,List.length_cons,List.length_nil,Nat.reduceAdd,Nat.reduceSub,Array.replicate_succ,Array.replicate_zero,List.push_toArray,List.append_toArray,List.nil_append,List.cons_append];generalize hL:ts.length=L at hI hlen hbig ⊢
 gi_wp2_with (refine ⟨trivial,?_⟩;gi_at_call 248;refine (KD _ _ _ _ _).mono ?_;rintro e w' ⟨rfl,rfl⟩)
 obtain ⟨n0,hn0⟩:∃ n0,w.heap.size=n0:=⟨_,rfl⟩
 obtain ⟨hM,hMg⟩:=hM;rw [hn0] at hI hM ⊢;obtain ⟨W0,hW0⟩:∃ W0,((((w.alloc (.cells #[z0,z1,z2] 39)).alloc (.cells #[.func (.func 246) #[] #[xp]] 224)).alloc (.cells #[.slice none 0 0, .bool false, .slice none 0 0] 39)).alloc (.cells #[.slice a L cap] 72))=W0:=⟨_,rfl⟩
 have hs0:W0.heap.size=n0+4:=by rw [←hW0];simp [hn0]
 have hX0:W0.heap[n0]? = some (.cells #[z0,z1,z2] 39 (0,0)):=by rw [←hW0,heap_alloc_old _ _ _ (by simp;omega),heap_alloc_old _ _ _ (by simp;omega),heap_alloc_old _ _ _ (by simp;omega),←hn0];exact heap_alloc_new w _
 have hS0:W0.heap[n0+1]? = some (.cells #[.func (.func 246) #[] #[xp]] 224 (0,0)):=by
  rw [←hW0,heap_alloc_old _ _ _ (by simp;omega),heap_alloc_old _ _ _ (by simp;omega)];have:=heap_alloc_new (w.alloc (.cells #[z0,z1,z2] 39)) (.cells #[.func (.func 246) #[] #[xp]] 224);rw [World.size_alloc,hn0] at this;exact this
 have hR0:W0.heap[n0+2]? = some (.cells #[.slice none 0 0, .bool false, .slice none 0 0] 39 (0,0)):=by
  rw [←hW0,heap_alloc_old _ _ _ (by simp;omega)];have:=heap_alloc_new ((w.alloc (.cells #[z0,z1,z2] 39)).alloc (.cells #[.func (.func 246) #[] #[xp]] 224)) (.cells #[.slice none 0 0, .bool false, .slice none 0 0] 39);rw [World.size_alloc,World.size_alloc,hn0] at this;exact this
 have hP0:W0.heap[n0+3]? = some (.cells #[.slice a L cap] 72 (0,0)):=by
  rw [←hW0];have:=heap_alloc_new (((w.alloc (.cells #[z0,z1,z2] 39)).alloc (.cells #[.func (.func 246) #[] #[xp]] 224)).alloc (.cells #[.slice none 0 0, .bool false, .slice none 0 0] 39)) (.cells #[.slice a L cap] 72);rw [World.size_alloc,World.size_alloc,World.size_alloc,hn0] at this;exact this
 have hB0:Below n0 w W0:=by
  rw [←hW0];exact ((((Below.refl _ w).alloc (by omega) _).alloc (by simp;omega) _).alloc (by simp;omega) _).alloc (by simp;omega) _
 rw [hW0]
 refine wpIn_rangeFunc_ownH (w0:=W0) rfl (by omega) (gf:=281) (lb:=#[.pointer (some ⟨n0+1+1+1,0,none⟩)]) rfl trivial (enters_of func281 (by kernel_rfl) rfl)
  (Be (e0:=QV.u0) (e1:=QV.u1) (e2:=QV.u2) (n0+3) n0 (.slice a L cap) ts (by omega) W0 (by omega) (by omega) (aH hP0 rfl) (hI.below hB0)) Nz (NP (by omega) (by omega)) (Below.refl _ _) (fun _=>rfl)
  (fun pre W=>Below n0 w W∧n0+4≤W.heap.size∧W.heap[n0+1]? = some (.cells #[.func (.func 246) #[] #[xp]] 224 (0,0))∧W.heap[n0+2]? = some (.cells #[.slice none 0 0, .bool false, .slice none 0 0] 39 (0,0)) ∧
   ∃ u0 u1 u2,W.heap[n0]? = some (.cells #[u0,u1,u2] 39 (0,0))∧aW (fun b=>M b∨b=n0∨b=n0+2) W (qC (hv x pre)) [u0,u1,u2])
  (fun _ _ _=>False) ?own (fun _=>by intro s A B row hs;exact hs.elim) ?start
  (fun y a' W=>∃ b,n0+4≤b∧a' = { tmps:=#[.slice a L cap, .agg #[z0,z1,z2], .func (.func 246) #[] #[xp],undef, .pointer (some ⟨n0,0,none⟩), .pointer (some ⟨n0+1,0,none⟩), .pointer (some ⟨n0+1+1,0,none⟩),undef, .pointer (some ⟨b,0,none⟩), .slice a L cap, .func (.func 281) #[] #[.pointer (some ⟨n0+1+1+1,0,none⟩)], .int .i64 (y.1:Int), .agg #[y.2.u0,y.2.u1,y.2.u2],undef,undef,undef,undef,undef],defers:=[] } ∧ W.heap[b]? = some (.cells #[y.2.u0,y.2.u1,y.2.u2] 39 (0,0)))
  ?ax ?assign ?body ?done ?stop
 case own=>
  rintro s A A' row ⟨h1,h2,h3,h4,u0,u1,u2,h5,h6⟩ hg hr;have hr':∀ r,row=some r→∃ o:Obj,A.heap[r]? = some o∧o.isCells=false:=fun r e=>(hr r e).2;refine ⟨h1.grown hg (by omega) (fun k e=>by have:=(hr k e).1;omega),Nat.le_trans h2 hg.size,dY hg hr' h3 rfl,dY hg hr' h4 rfl,u0,u1,u2,dY hg hr' h5 rfl,h6.mono fun b o hb ho hc=>⟨hb,dY hg hr' ho hc⟩⟩
 case start=>
  refine ⟨hB0,by omega,hS0,hR0,z0,z1,z2,hX0,hz.mono fun b o hb ho hc=>?_⟩;have hlt:=(Array.getElem?_eq_some_iff.1 ho).1;exact ⟨fun h=>h.elim hb (by omega),(hB0.block b (by omega)).trans ho⟩
 case ax=>
  rintro y a' _ A A' row ⟨b,h1,h2,h3⟩ hg hr;exact ⟨b,h1,h2,dY hg (fun r e=>(hr r e).2) h3 rfl⟩
 case assign=>
  rintro l pre y W K ⟨h1,h2,h3,h4,u0,u1,u2,h5,h6⟩ hK
  gi_wp2
  obtain ⟨o0,o1,o2⟩:y.2.u0.oneCell'=true∧y.2.u1.oneCell'=true∧y.2.u2.oneCell'=true:=by
   have:=y.2.rep.one;exact ⟨this _ (by simp),this _ (by simp),this _ (by simp)⟩
  have hnew:=heap_alloc_new W (.cells #[.slice none 0 0, .bool false, .slice none 0 0] 39);rw [vS hnew o0 o1 o2];obtain ⟨W',hW'⟩:∃ W',(W.alloc (.cells #[.slice none 0 0, .bool false, .slice none 0 0] 39)).setRow W.heap.size #[y.2.u0,y.2.u1,y.2.u2]=W':=⟨_,rfl⟩
  have hold:∀ k,k<W.heap.size→W'.heap[k]? = W.heap[k]?:=fun k hk=>by rw [←hW',setRow_other _ _ _ _ (by omega),heap_alloc_old _ _ _ hk]
  have hself:W'.heap[W.heap.size]? = some (.cells #[y.2.u0,y.2.u1,y.2.u2] 39 (0,0)):=by rw [←hW'];exact setRow_heap _ _ _ _ _ _ hnew
  have hbel:Below W.heap.size W W':=by rw [←hW'];exact below_setRow ((Below.refl _ W).alloc (Nat.le_refl _) _) (Nat.le_refl _) _
  have hlt:∀ {k:Nat} {o:Obj},W.heap[k]? = some o→k<W.heap.size:=fun h=>(Array.getElem?_eq_some_iff.1 h).1;rw [hW']
  gi_wp2
  refine hK _ _ ⟨hbel.size,fun k o _ ho _=>(hold k (hlt ho)).trans ho⟩ ⟨hbel.mono (by omega),fun v hv=>?_⟩
   ⟨h1.trans (hbel.mono (by omega)),Nat.le_trans h2 hbel.size,(hold _ (hlt h3)).trans h3,(hold _ (hlt h4)).trans h4,u0,u1,u2,(hold _ (hlt h5)).trans h5,h6.mono fun b o hb ho _=>⟨hb,(hold b (hlt ho)).trans ho⟩⟩
   ⟨W.heap.size,by omega,rfl,hself⟩
  simp only [World.cell?,hold (n0+3) (by omega)] at hv ⊢;exact hv
 case body=>
  rintro l pre y a' W hl _ ⟨h1,h2,h3,h4,u0,u1,u2,h5,h6⟩ ⟨b,hb,rfl,hbc⟩ hlt;have hltW:∀ {k:Nat} {o:Obj},W.heap[k]? = some o→k<W.heap.size:=fun h=>(Array.getElem?_eq_some_iff.1 h).1;have c0:W.cell? ⟨n0,0,none⟩=some u0:=aH h5 rfl;have c1:W.cell? ⟨n0,1,none⟩=some u1:=aH h5 rfl;have c2:W.cell? ⟨n0,2,none⟩=some u2:=aH h5 rfl;have cs:W.cell? ⟨n0+1,0,none⟩=some (.func (.func 246) #[] #[xp]):=aH h3 rfl;have cb0:W.cell? ⟨b,0,none⟩=some y.2.u0:=aH hbc rfl;have cb1:W.cell? ⟨b,1,none⟩=some y.2.u1:=aH hbc rfl;have cb2:W.cell? ⟨b,2,none⟩=some y.2.u2:=aH hbc rfl;have hM1:∀ k,(M k∨k=n0∨k=n0+2)→k<W.heap.size:=fun k h=>h.elim (fun h=>by have:=hM k h;omega) (fun h=>by omega)
  have hkeep:bX M w (fun b=>M b∨b=n0∨b=n0+2) W:=fun k o hk ho _=>by
   have hlt:=(Array.getElem?_eq_some_iff.1 ho).1;exact ⟨fun h=>h.elim hk (by omega),(h1.block k (by omega)).trans ho⟩
  have hfit:Fit (pre.length*(B+C+1)+1) (hv x pre):=TE hx pre 0 1 (Fit.zero (Nat.le_refl 1))
  have hbound:pre.length*(B+C+1)+1+B+C≤4294967296:=by
   rw [hL] at hlt;have:=Nat.mul_le_mul_right (B+C+1) (Nat.le_of_lt hlt);omega
  have hcall:Calls prog 246 #[.agg #[u0,u1,u2], .agg #[y.2.u0,y.2.u1,y.2.u2],xp] W fun e w'=>Below W.heap.size W w'∧∃ v0 v1 v2,e = .returned (.agg #[v0,v1,v2])∧aW (fun b=>M b∨b=n0∨b=n0+2) w' (qC (hv x (pre ++ [y]))) [v0,v1,v2]:=by
   refine ((OH (hv x pre) y.2.q x _ _ _ hfit y.2.fit hx hbound).2 (fun b=>M b∨b=n0∨b=n0+2) W [.agg #[u0,u1,u2], .agg #[y.2.u0,y.2.u1,y.2.u2],xp] ⟨hM1,hMg.iY hkeep⟩ ⟨⟨[u0,u1,u2],rfl,h6⟩,⟨[_,_,_],rfl,y.2.rep.mono hkeep⟩,aI.mono _ hkeep hxp,trivial⟩).mono ?_;rintro e w' ⟨hb',vs,rfl,hvs⟩;rw [VA];obtain ⟨v0,v1,v2,e1,hr⟩:=bc3 hvs;exact ⟨hb',v0,v1,v2,by rw [e1],hr⟩
  gi_wp2_with (refine ⟨trivial,?_⟩;gi_at_call 246;refine (CallsIn.inRound l (callsIn_wide.2 hcall)).mono ?_;rintro e w' ⟨hbw,v0,v1,v2,rfl,hvr⟩)
  have hone:=hvr.one;have hbox:w'.heap[n0]? = some (.cells #[u0,u1,u2] 39 (0,0)):=(hbw.block n0 (hltW h5)).trans h5;rw [vS hbox (hone _ (by simp)) (hone _ (by simp)) (hone _ (by simp))];obtain ⟨W3,hW3⟩:∃ W3,w'.setRow n0 #[v0,v1,v2]=W3:=⟨_,rfl⟩
  have hself:W3.heap[n0]? = some (.cells #[v0,v1,v2] 39 (0,0)):=by rw [←hW3];exact setRow_heap _ _ _ _ _ _ hbox
  have hoth:∀ k,k≠n0→W3.heap[k]? = w'.heap[k]?:=fun k hk=>by rw [←hW3,setRow_other _ _ _ _ hk]
  have hold:∀ {k:Nat} {o:Obj},k≠n0→W.heap[k]? = some o→W3.heap[k]? = some o:=fun hk ho=>(hoth _ hk).trans ((hbw.block _ (hltW ho)).trans ho);have hbel:Below n0 W W3:=by rw [←hW3];exact below_setRow (hbw.mono (by omega)) (Nat.le_refl _) _
  rw [hW3]
  gi_wp2
  refine ⟨⟨hbel.size,fun k o hk ho _=>hold (by omega) ho⟩,⟨hbel,fun v hv=>?_⟩,h1.trans hbel,Nat.le_trans h2 hbel.size,hold (by omega) h3,hold (by omega) h4,v0,v1,v2,hself,hvr.mono fun k o hk ho _=>⟨hk,(hoth k fun e=>hk (.inr (.inl e))).trans ho⟩⟩;simp only [World.cell?,hoth (n0+3) (by omega),hbw.block (n0+3) (by omega)] at hv ⊢;exact hv
 case done=>
  rintro D ys W hD rfl ⟨h1,h2,h3,h4,u0,u1,u2,h5,h6⟩ hK;have c0:W.cell? ⟨n0,0,none⟩=some u0:=aH h5 rfl;have c1:W.cell? ⟨n0,1,none⟩=some u1:=aH h5 rfl;have c2:W.cell? ⟨n0,2,none⟩=some u2:=aH h5 rfl;have hone:=h6.one
  gi_wp2
  rw [vS h4 (hone _ (by simp)) (hone _ (by simp)) (hone _ (by simp))]
  gi_wp2
  obtain ⟨W3,hW3⟩:∃ W3,W.setRow (n0+2) #[u0,u1,u2]=W3:=⟨_,rfl⟩
  have hself:W3.heap[n0+2]? = some (.cells #[u0,u1,u2] 39 (0,0)):=by rw [←hW3];exact setRow_heap _ _ _ _ _ _ h4
  have hoth:∀ k,k≠n0+2→W3.heap[k]? = W.heap[k]?:=fun k hk=>by rw [←hW3,setRow_other _ _ _ _ hk]
  have hK3:W3.heap[D]? = some (.deferred (some [])):=(hoth D (by omega)).trans hK;have hbel:Below n0 W W3:=by rw [←hW3];exact below_setRow (Below.refl _ W) (by omega) _
  rw [hW3];obtain ⟨W4,hW4⟩:∃ W4,W3.putObj D (.deferred none)=W4:=⟨_,rfl⟩
  have hoth4:∀ k,k≠D→W4.heap[k]? = W3.heap[k]?:=fun k hk=>by rw [←hW4];exact World.putObj_heap_other (by omega)
  have hself4:W4.heap[n0+2]? = some (.cells #[u0,u1,u2] 39 (0,0)):=(hoth4 _ (by omega)).trans hself;have d0:W4.cell? ⟨n0+2,0,none⟩=some u0:=aH hself4 rfl;have d1:W4.cell? ⟨n0+2,1,none⟩=some u1:=aH hself4 rfl;have d2:W4.cell? ⟨n0+2,2,none⟩=some u2:=aH hself4 rfl;refine ⟨by simp, .inl ⟨_,_,rfl,run_takeDeferred hK3,?_⟩⟩;rw [hW4];refine ⟨.agg #[u0,u1,u2],?_,?_,u0,u1,u2,rfl,by rw [←hL];exact h6.mono fun k o hk ho hc=>⟨fun h=>hk (.inl h),(hoth4 k (by rintro rfl;rw [hK] at ho;cases ho;cases hc)).trans ((hoth k (by rintro rfl;exact hk (.inr (.inr rfl)))).trans ho)⟩⟩
  ·refine iK _ _ [_] ?_;simp [show f245.results = #[.cell 6 39] from rfl,mB,go_sem,d0,d1,d2]
  ·rw [←hn0] at h1 hbel;exact (h1.trans hbel).trans (by rw [←hW4];exact belowK_b (w:=w) (Nat.le_refl _) W3 D _ _ (by omega) hK3 rfl rfl)
 case stop=>
  rintro D c pre W hD _ h hK;exact h.elim
theorem oL {α:Type} (P:Nat→α→Prop):∀ n,(∀ i,i<n→∃ x,P i x)→∃ ts:List α,ts.length=n∧∀ (i:Nat) x,ts[i]? = some x→P i x
 | 0,_=>⟨[],rfl,fun i x h=>by simp at h⟩
 | n+1,h=>by
   obtain ⟨ts,h1,h2⟩:=oL P n fun i hi=>h i (by omega);obtain ⟨x,hx⟩:=h n (by omega);refine ⟨ts ++ [x],by simp [h1],fun i y hy=>?_⟩;rcases Nat.lt_or_ge i n with hi | hi
   ·rw [List.getElem?_append_left (by omega)] at hy;exact h2 i y hy
   ·rw [List.getElem?_append_right (by omega)] at hy
    have hin:i-ts.length=0:=by
     have:=(List.getElem?_eq_some_iff.1 hy).1;simp at this;omega
    rw [hin] at hy;simp only [List.getElem?_cons_zero,Option.some.injEq] at hy;subst hy;obtain rfl:i=n:=by omega
    exact hx
theorem ao2 {M:Nat→Prop} {w:World} {B:Nat} {v:Value} {ps:List Rat} (h:(sQ ps).rep M w v) (hp:∀ q∈ps,Fit B q) :
  ∃ (ts:List (QV M w B)) (a:Option Addr) (cap:Nat),v = .slice a ts.length cap∧ts.map QV.q=ps∧ZZ QV.u0 QV.u1 QV.u2 w.heap.size w v ts:=by
 obtain ⟨a,cap,rfl,hc,hm,hel⟩:=h;have hlen:(rQ ps).length=ps.length:=List.length_map _;rcases hel with h | ⟨b,off,cs,T,fz,rfl,hb,hh,hr⟩
 ·have:ps = []:=by cases ps<;>simp_all [rQ]
  subst this;exact ⟨[],a,cap,rfl,rfl,a,cap,rfl, .inl rfl⟩
 ·obtain ⟨ts,h1,h2⟩:=oL (fun i (x:QV M w B)=>ps[i]? = some x.q∧w.cell? ⟨b,off+i*3,none⟩=some x.u0∧w.cell? ⟨b,off+i*3+1,none⟩=some x.u1∧w.cell? ⟨b,off+i*3+2,none⟩=some x.u2) ps.length fun i hi=>by
   obtain ⟨q,hq⟩:∃ q,ps[i]? = some q:=⟨_,List.getElem?_eq_getElem hi⟩
   obtain ⟨_,hrep⟩:=hr i (qC q) (by rw [rQ,List.getElem?_map,hq];rfl)
   have hat:∀ j,j<3→((cs.toList.drop (off+i*3)).take 3)[j]? = cs[off+i*3+j]?:=fun j hj=>by
    rw [List.getElem?_take,if_pos hj,List.getElem?_drop];simp
   have hl:=hrep.length;generalize hus:(cs.toList.drop (off+i*3)).take 3=us at hrep hl hat
   match us,hrep with
   | [x0,x1,x2],hrep=>
     refine ⟨⟨q,x0,x1,x2,hp q (List.mem_of_getElem? hq),hrep⟩,hq,?_,?_,?_⟩
     ·have h0:=hat 0 (by omega);rw [Nat.add_zero] at h0;exact aH hh (by rw [←h0];rfl)
     ·exact aH hh (by rw [←hat 1 (by omega)];rfl)
     ·exact aH hh (by rw [←hat 2 (by omega)];rfl)
   | [],hrep=>exact hrep.elim
   | [_],hrep=>exact hrep.2.elim
   | [_,_],hrep=>exact hrep.2.2.elim
   | _::_::_::_::_,hrep=>exact hrep.2.2.2.elim
  refine ⟨ts,_,cap,by rw [hlen,h1],?_,_,cap,by rw [hlen,h1], .inr ⟨b,off,rfl,(Array.getElem?_eq_some_iff.1 hh).1,fun j v hj=>(h2 j v hj).2⟩⟩;refine List.ext_getElem? fun i=>?_;rw [List.getElem?_map];cases hi:ts[i]? with
  | none=>
    have:=List.getElem?_eq_none_iff.1 hi;rw [List.getElem?_eq_none_iff.2 (by omega)];rfl
  | some x=>rw [(h2 i x hi).1];rfl
theorem QU {α:Type} [Inhabited α] (vs:List α):(bk vs vs.length).map Prod.snd=vs.reverse:=by
 refine List.ext_getElem? fun i=>?_;rw [bk,List.map_map,List.getElem?_map];rcases Nat.lt_or_ge i vs.length with h | h
 ·rw [List.getElem?_range h,List.getElem?_reverse h];have h':vs.length-1-i<vs.length:=by omega
  simp [List.getElem?_eq_getElem h']
 ·rw [List.getElem?_eq_none_iff.2 (by simpa using h),List.getElem?_eq_none_iff.2 (by simpa using h)];rfl
theorem aM5 {M:Nat→Prop} {w:World} {B:Nat} [Inhabited (QV M w B)] (x:Rat) (ts:List (QV M w B)):hv x (bk ts ts.length)=kJ (ts.map QV.q) x:=by
 have h:hv x (bk ts ts.length)=((bk ts ts.length).map Prod.snd).foldl (fun v c=>v*x+c.q) 0:=by rw [hv,List.foldl_map]
 rw [h,QU,List.foldl_reverse,kJ,List.foldr_map]
theorem Le (ps:List Rat) (x:Rat) (B C:Nat) (hB:1≤B) (hp:∀ q∈ps,Fit B q) (hx:Fit C x) (hl:ps.length*(B+C+1)+B+C+1≤4294967296) :
  aK prog 245 [.one (sQ ps),qT 0, .one (.fX 246 [.bC (qC x)])] (.ret [qT (kJ ps x)]):=by
 refine ⟨bP (by kernel_rfl),fun M w vs hM hv=>?_⟩
 match vs,hv with
 | [v0,v1,v2],⟨k0,⟨us,k1,hus⟩,⟨fs,k2,hfs⟩,_⟩=>
   obtain ⟨ts,a,cap,rfl,hq,hsl⟩:=ao2 k0 hp;obtain ⟨iq⟩:=VD M w B hB
   haveI:Inhabited (QV M w B):=⟨iq⟩
   subst k1 k2
   match us,hus,fs,hfs with
   | [z0,z1,z2],hus,[xp],hfs=>
     have hlen:ps.length=ts.length:=by rw [←hq,List.length_map]
     rw [hlen] at hl;have h1:=Pm M w B C x hx hM hB a cap ts (by have:=Nat.le_mul_of_pos_right ts.length (show 0<B+C+1 by omega);omega) hl hsl z0 z1 z2 hus xp hfs.1;rw [aM5,hq] at h1;refine ((callsIn_wide (n:=1001)).1 h1).mono ?_;rintro e w' ⟨hb,u0,u1,u2,rfl,hr⟩;exact ⟨hb,[.agg #[u0,u1,u2]],rfl,⟨[u0,u1,u2],rfl,hr⟩,trivial⟩
   | [],hus,_,_=>exact hus.elim
   | [_],hus,_,_=>exact hus.2.elim
   | [_,_],hus,_,_=>exact hus.2.2.elim
   | _::_::_::_::_,hus,_,_=>exact hus.2.2.2.elim
   | [_,_,_],_,[],hfs=>exact hfs.elim
   | [_,_,_],_,_::_::_,hfs=>exact hfs.2.elim
 | [],hv=>exact hv.elim
 | [_],hv=>exact hv.2.elim
 | [_,_],hv=>exact hv.2.2.elim
 | _::_::_::_::_,hv=>exact hv.2.2.2.elim
def aN9:Tr:=aP 245 [(W 0 0),(.agg [tN,(tE (.bool false)),tN]),(.one (.fX 246 [(.ref 0 [(.u 1 0),(.u 1 1),(.u 1 2)])]))] [(some 3)] [5,6,7] [72,39,224] 39 true (.ret [(G3 2)])
theorem WG:aN prog f181 (fun _=>none) [.v none, .v (some 3)]=aN9:=by kernel_rfl
theorem Xu (ps:List Rat) (c:Rat) (B:Nat) (hB:1≤B) (hp:∀ q∈ps,Fit B q) (hc:Fit B c) (hl:ps.length*(2*B+2)+2*B+2≤4294967296):aK prog 181 [(.one (sQ ps):aG),(qT c:aG)] (.ret [qT (kJ ps c)]):=by
 refine aD (args:=[.v none, .v (some 3)]) (ins:=[.v (.one (sQ ps)), .v (qT c)]) (hints:=(fun _=>none)) fo (by kernel_rfl) func181 ⟨rfl,rfl,trivial⟩ ?_;rw [WG];dsimp only [List.map,In.env,aA,aB];have hl2:ps.length*(B+B+1)≤ps.length*(2*B+2):=Nat.mul_le_mul_left _ (by omega);refine BW (show aO [.one (sQ ps), .agg [.exact (.slice none 0 0), .bool false, .exact (.slice none 0 0)], .one (.fX 246 [.bC (qC c)])] [.one (sQ ps),qT 0, .one (.fX 246 [.bC (qC c)])] from ⟨aG.Sub.same,eV,aG.Sub.same,trivial⟩) (Le ps c B B hB hp hc (by omega)) rfl ?_;exact aL rfl
end Go.Sy
namespace Go.Sy
open Go Go.Proofs Tryz Ord
theorem HU {n H:Nat} (h:n<2^H):(dg n).length≤H:=CB (Nat.lt_of_lt_of_le h (Nat.pow_le_pow_left (by omega) H))
theorem HE (q:Rat) (H:Nat) (hf:Fit H q) (hH:H≤34359738360):aK prog 90 [(qT q:aG)] (.ret [bS (SK q)]):=by
 refine aD (args:=[.v (some 3)]) (ins:=[.v (qT q)]) (hints:=(fun _=>none)) fo (by kernel_rfl) func90 ⟨rfl,trivial⟩ ?_;rw [WY];dsimp only [List.map,In.env,aA,aB];have hd:=HU hf.2;have hn:=HU hf.1;have hp:=q.den_pos;have ln:=AN hf.1;have ld:=AN hf.2;rw [show SK q=((if q.num<0 then [45] else [])++dec q.num.natAbs)++if q.den=1 then [] else [47]++dec q.den from rfl];refine aC (Hn q.num.natAbs (by omega)) rfl ?_;dsimp only [aA,aB];refine vs _ rfl (fun h1=>?_) (fun h1=>?_)
 ·refine vn (CD (a:=[45]) (by simp only [List.length_cons,List.length_nil];omega)) rfl ?_;dsimp only [aA,aB];refine aC (zH (q.den-1)) rfl ?_;dsimp only [aA,aB];refine vn FA rfl ?_;dsimp only [aA,aB];refine vs _ rfl (fun h5=>?_) (fun h5=>?_)
  ·refine aC (eZ q (by omega)) rfl ?_;dsimp only [aA,aB];refine aC (Hn q.den (by omega)) rfl ?_;dsimp only [aA,aB];refine vn (CD (a:=[47]) (by simp only [List.length_cons,List.length_nil];omega)) rfl ?_;dsimp only [aA,aB];refine vn (CD (by simp only [List.length_append,List.length_cons,List.length_nil];omega)) rfl ?_;dsimp only [aA,aB];rw [if_pos h1,if_neg (by omega)];exact aL rfl
  rw [if_pos h1,if_pos (by omega),List.append_nil];exact aL rfl
 refine aC (zH (q.den-1)) rfl ?_;dsimp only [aA,aB];refine vn FA rfl ?_;dsimp only [aA,aB];refine vs _ rfl (fun h14=>?_) (fun h14=>?_)
 ·refine aC (eZ q (by omega)) rfl ?_;dsimp only [aA,aB];refine aC (Hn q.den (by omega)) rfl ?_;dsimp only [aA,aB];refine vn (CD (a:=[47]) (by simp only [List.length_cons,List.length_nil];omega)) rfl ?_;dsimp only [aA,aB];refine vn (CD (by simp only [List.length_append,List.length_cons,List.length_nil];omega)) rfl ?_;dsimp only [aA,aB];rw [if_neg h1,if_neg (by omega)];exact aL rfl
 rw [if_neg h1,if_pos (by omega),List.append_nil];exact aL rfl
end Go.Sy
