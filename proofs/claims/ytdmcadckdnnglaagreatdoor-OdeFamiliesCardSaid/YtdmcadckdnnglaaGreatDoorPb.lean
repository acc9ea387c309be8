/- Lists of rational numbers: Clone, Trim, Degree. slices.Backward over numbers; Horner's rule. Numbers as they are handed in. Decimal digits: so many of them, and those of a number. The texts of numbers. Contracts of the library, laid at this program. The text of a magnitude. Horner's rule over numbers. The text of a number; a number and one of the reference have the same text where they are equal.
-/
import Derived.Test.YtdmcadckdnnglaaGreatDoorRa
import Derived.Laws.Cover3
import Derived.RangeFuncFrom
import Derived.RangeFuncBox
import Derived.RangeFuncLeaves
import Derived.Shelf.Abstract
import Derived.WalkKit
import Derived.OwnWalkIn
import Derived.TacticsInMore
import Derived.LoopNIn
import Derived.LoopIn
import Derived.Test.YtdmcadckdnnglaaGreatDoorPa
import Derived.Lib.ItoaNum
import Derived.Lib.Repeat
import Derived.Shelf.Strings.Builder1
import Derived.Shelf.Strings.Builder2
import Derived.Shelf.Strings.BuilderF
import Derived.Shelf.Strings.BuilderK
import Derived.Shelf.Strconv.Itoa0
import Derived.Shelf.Strconv.Itoa1
import Derived.Shelf.LaysM
import Derived.Shelf.Strconv.Itoa2
import Derived.Shelf.Strconv.Itoa3
import Derived.Shelf.Strings.Prefix
import Derived.Shelf.Bits.Mul64
import Derived.Shelf.Strings.Repeat
import Derived.Test.YtdmcadckdnnglaaGreatDoorProg
import Derived.Test.YtdmcadckdnnglaaGreatDoorNb
import Derived.RangeFuncNested
set_option linter.unusedVariables false
set_option linter.unusedSimpArgs false
namespace Go.Sy
open Go Go.Proofs Tryz Ord
def Ua:Tr:=.need (.prim [(W 0 0),(.one (.c (.k (.slice none 0 0))))] none) (.binOp .eql 72 (tT 3) (.const (.slice none 0 0)) 72) 4 false (.split (.u 1 0) (.ret [(.one (.c (.k (.slice none 0 0))))]) (.need (.lit 3 []) (.buildSlice 72 0 #[]) 72 false (.need (.app 3 56 (some 2) (some (.u 0 0)) none) (.call ⟨.builtin .append,#[(tT 5),(tT 6)],#[72,72]⟩) 72 false (.ret [(.one (.c (.sr 3 3)))]))))
theorem Dq:aO prog f113 (fun _=>none) [.v none]=Ua:=by kernel_rfl
def Ug:Tr:=oX 5 0 (some 3) 39 12 (aU 35 [(G3 6)] [none] [13] [39] 3 false (bO .eql 3 14 0 7 0 4 (.split (.u 8 0) (bO .sub 3 17 1 2 0 3 (.back 0 [lV 9 0])) (.need (.prim [(W 0 0),(W 2 0)] none) (.slice 72 (tT 19) none (some (tT 20)) none) 72 false (aU 113 [(W 9 0)] [none] [21] [72] 72 true (.ret [(W 10 0)]))))))
def Te:Tr:=fX 0 0 4 72 (.loop 0 [lV 1 0] (bO .gtr 3 6 0 2 0 4 (.split (.u 3 0) (bO .sub 3 10 1 2 0 3 (qI 0 0 4 0 72 9 11 Ug)) (.need (.prim [(W 0 0),(W 2 0)] none) (.slice 72 (tT 19) none (some (tT 20)) none) 72 false (aU 113 [(W 4 0)] [none] [21] [72] 72 true (.ret [(W 5 0)]))))))
theorem LZ:aO prog f34 (fun _=>none) [.v none]=Te:=by kernel_rfl
def Sx:Tr:=aU 34 [(W 0 0)] [none] [3] [72] 72 false (fX 1 0 4 72 (bO .sub 3 5 1 2 0 3 (.ret [(W 3 0)])))
theorem HD:aO prog f95 (fun _=>none) [.v none]=Sx:=by kernel_rfl
def aF.Kc:aF where
 rep:=fun _ _ v=>∃ cap,v = .slice none 0 cap∧cap≤maxLen
 mono:=fun _ h=>h
 one:=by rintro M w v ⟨cap,rfl,_⟩;rfl
def aF.RB (sz:Nat) (ts:List (List aF)):aF where
 rep:=fun M w v=>(aF.slice sz ts).rep M w v∧∃ a l c,v = .slice (some a) l c
 mono:=fun hk h=>⟨aF.mono _ hk h.1,h.2⟩
 one:=fun h=>aF.one _ h.1
theorem aF.Sub.nn {sz:Nat} {ts:List (List aF)}:(aF.RB sz ts).Sub (.slice sz ts):=
 .inr ⟨fun M w v h=>by obtain ⟨_,a,l,c,rfl⟩:=h;exact ⟨some a,l,c,rfl⟩,fun M w v h=>h.1⟩
theorem En {sz:Nat} {ts:List (List aF)} {M:Nat→Prop} {w:World} {v:Value} (h:(aF.slice sz ts).rep M w v):(ts = []∧aF.Kc.rep M w v)∨(aF.RB sz ts).rep M w v:=by
 have h0:=h;obtain ⟨a,cap,rfl,hc,hm,hel⟩:=h;cases a with
 | some a=>exact .inr ⟨h0,a,_,_,rfl⟩
 | none=>
   rcases hel with rfl | ⟨b,off,cs,T,fz,e,_⟩
   ·exact .inl ⟨rfl,cap,rfl,hm⟩
   ·cases e
theorem Fq {P:Program} {f:FuncId} {sz:Nat} {ts:List (List aF)} {out:Out} (h1:ts = []→aJ P f [.one .Kc] out) (h2:aJ P f [.one (.RB sz ts)] out):aJ P f [.one (.slice sz ts)] out:=by
 refine ⟨h2.1,fun M w vs hM hv=>?_⟩
 match vs,hv with
 | [v],hv=>
   rcases En hv.1 with ⟨e,h⟩ | h
   ·exact (h1 e).2 M w [v] hM ⟨h,trivial⟩
   ·exact h2.2 M w [v] hM ⟨h,trivial⟩
 | [],hv=>exact hv.elim
 | _::_::_,hv=>exact hv.2.elim
section
variable {P:Program} {T U ty:TypeId} {x y:Operand}
theorem QZ {E sz b:Nat} (h:dB P T=some (E,sz,b)):aK P (.binOp .eql T x y U) ty [.one .Kc, .one (.exact (.slice none 0 0))] (.one (.bool true)):=by
 obtain ⟨ie,hu,_⟩:=bJ h;intro M w ρ o ho ht hr;obtain ⟨hx,hy⟩:=pK (x:=x) (y:=y) hr;obtain ⟨cap,hx,_⟩:=hx;have hy:ρ y = .slice none 0 0∧_:=hy;refine ⟨.bool true,?_,⟨rfl,rfl⟩⟩;simp [execOp,ho,hx,hy.1,eqGuard,binOp,run_equal_slice_nil w T E none 0 cap hu]
theorem Qv {E sz b sz':Nat} {ts:List (List aF)} (h:dB P T=some (E,sz,b)):aK P (.binOp .eql T x y U) ty [.one (.RB sz' ts), .one (.exact (.slice none 0 0))] (.one (.bool false)):=by
 obtain ⟨ie,hu,_⟩:=bJ h;intro M w ρ o ho ht hr;obtain ⟨hx,hy⟩:=pK (x:=x) (y:=y) hr;obtain ⟨_,a,l,c,hx⟩:=hx;have hy:ρ y = .slice none 0 0∧_:=hy;refine ⟨.bool false,?_,⟨rfl,rfl⟩⟩;simp [execOp,ho,hx,hy.1,eqGuard,binOp,run_equal_slice_nil w T E (some a) l c hu]
end
theorem Ik  :aJ prog 113 [(.one .Kc:aH)] (.ret [.one (.slice 3 [])]):=by
 refine aD (args:=[.v none]) (ins:=[.v (.one .Kc)]) (hints:=(fun _=>none)) fo (by kernel_rfl) func113 ⟨rfl,trivial⟩ ?_;rw [Dq];dsimp only [List.map,In.env,aA,aB];refine vn (QZ eE) rfl ?_;dsimp only [aA,aB];refine zW true rfl (fun _=>?_) (fun h=>by cases h);exact eP ⟨aF.Sub.nil,trivial⟩
theorem Hn (ts:List (List aF)) (hs:ts.length<1099511627776):aJ prog 113 [(.one (.RB 3 ts):aH)] (.ret [.one (.slice 3 ts)]):=by
 refine aD (args:=[.v none]) (ins:=[.v (.one (.RB 3 ts))]) (hints:=(fun _=>none)) fo (by kernel_rfl) func113 ⟨rfl,trivial⟩ ?_;rw [Dq];dsimp only [List.map,In.env,aA,aB];refine vn (Qv eE) rfl ?_;dsimp only [aA,aB];refine zW false rfl (fun h=>by cases h) (fun _=>?_);refine eS (us:=[]) rfl ?_;dsimp only [aA,aB];refine Qj (ts:=[]) (us:=ts) (vs:=ts) rfl (.inr aF.Sub.nn) rfl (by omega) (by simp only [maxLen];omega) ?_;exact aP rfl
theorem EA (ts:List (List aF)) (hs:ts.length<1099511627776):aJ prog 113 [.one (.slice 3 ts)] (.ret [.one (.slice 3 ts)]):=
 Fq (fun e=>by subst e;exact Ik) (Hn ts hs)
def dH {α:Type} (z:α→Bool):List α→Nat
 | []=>0
 | x::xs=>if dH z xs=0∧z x=true then 0 else dH z xs+1
theorem fE {α:Type} {z:α→Bool}:∀ l:List α,dH z l≤l.length
 | []=>Nat.le_refl _
 | x::xs=>by
   have:=fE (z:=z) xs;simp only [dH,List.length_cons];split<;>omega
theorem vE {α:Type} {z:α→Bool}:∀ {l:List α} {n:Nat},n≤l.length→(∀ i x,n≤i→l[i]? = some x→z x=true)→(n=0∨∃ x,l[n-1]? = some x∧z x=false)→dH z l=n
 | [],n,h,_,_=>by simp at h;subst h;rfl
 | x::xs,n,h,h1,h2=>by
   cases n with
   | zero=>
     have h3:=vE (z:=z) (l:=xs) (n:=0) (Nat.zero_le _) (fun i y _ hy=>h1 (i+1) y (Nat.zero_le _) (by simpa using hy)) (.inl rfl);have h4:=h1 0 x (Nat.zero_le _) rfl;simp [dH,h3,h4]
   | succ n=>
     have h3:=vE (z:=z) (l:=xs) (n:=n) (by simpa using h) (fun i y hi hy=>h1 (i+1) y (by omega) (by simpa using hy)) (by
      cases n with
      | zero=>exact .inl rfl
      | succ n=>
        rcases h2 with h2 | ⟨y,hy,hz⟩
        ·omega
        ·exact .inr ⟨y,by simpa using hy,hz⟩)
     simp only [dH,h3];rw [if_neg];rintro ⟨h4,h5⟩;subst h4;rcases h2 with h2 | ⟨y,hy,hz⟩
     ·omega
     ·simp at hy;subst hy;rw [h5] at hz;cases hz
theorem Eh {α β:Type} {z:β→Bool} (f:α→β):∀ l:List α,dH z (l.map f)=dH (fun a=>z (f a)) l
 | []=>rfl
 | x::xs=>by simp only [List.map_cons,dH,Eh f xs]
abbrev rQ (ps:List Rat):List (List aF):=ps.map qC
abbrev sQ (ps:List Rat):aF:=.slice 3 (rQ ps)
def zr (q:Rat):Bool:=decide (q=0)
def UZ (a:RQ):Bool:=decide (a.q=0)
def trim (ps:List Rat):List Rat:=ps.take (dH zr ps)
def iW (ps:List RQ):List RQ:=ps.take (dH UZ ps)
theorem mG (ps:List RQ):(iW ps).map RQ.q=trim (ps.map RQ.q):=by
 rw [trim,Eh,iW,List.map_take];rfl
theorem Gg {q:Rat}:zr q=decide (q.num.sign=0):=by rw [zr,decide_eq_decide];exact sign_zero.symm
theorem eO (ps:List Rat):(trim ps).length=dH zr ps:=by rw [trim,List.length_take];have:=fE (z:=zr) ps;omega
theorem BV (ps:List RQ):(iW ps).length=dH UZ ps:=by rw [iW,List.length_take];have:=fE (z:=UZ) ps;omega
theorem Co {E sz b T:Nat} {α:Type} {f:α→List aF} {ds:List α} {x:Operand} {ty:Nat} {y:Operand} {k:IntKind} {n:Int} {m:Nat} (h:dB prog T=some (E,sz,b)) (h0:0≤n) (hm:n.toNat=m) (hn:m≤ds.length):aK prog (.slice T x none (some y) none) ty [.one (.slice sz (ds.map f)), .one (.int k n)] (.one (.slice sz ((ds.take m).map f))):=by
 have:=HS (P:=prog) (T:=T) (x:=x) (y:=y) (ty:=ty) (k:=k) (n:=n) (ts:=ds.map f) h h0 (by rw [List.length_map,hm];exact hn);rw [hm,←List.map_take] at this;exact this
theorem rP (ps:List Rat) (hs:ps.length<1099511627776):aJ prog 34 [(.one (sQ ps):aH)] (.ret [.one (sQ (trim ps))]):=by
 refine aD (args:=[.v none]) (ins:=[.v (.one (sQ ps))]) (hints:=(fun _=>none)) fo (by kernel_rfl) func34 ⟨rfl,trivial⟩ ?_;rw [LZ];dsimp only [List.map,In.env,aA,aB];refine vn (aQ eE (List.length_map _)) rfl ?_;dsimp only [aA,aB];refine cJ {n:Nat // n≤ps.length∧∀ i q,n≤i→ps[i]? = some q→zr q=true} (fun g=>[.one (.int .i64 g.1)]) (fun g=>g.1) ⟨ps.length,Nat.le_refl _,fun i q hi hq=>by have:=(List.getElem?_eq_some_iff.1 hq).1;omega⟩ aN.rfl (fun _=>rfl) ?_;rintro ⟨n,hn,hz⟩;dsimp only [aA,aB] at hn hz ⊢;refine vn nE rfl ?_;dsimp only [aA,aB];refine vs _ rfl (fun h3=>?_) (fun h3=>?_)
 ·refine vn (aI (by omega) (by omega)) rfl ?_;dsimp only [aA,aB];obtain ⟨q,hq⟩:∃ q,ps[n-1]? = some q:=⟨_,List.getElem?_eq_getElem (by omega)⟩
  refine vn (bE eE (by omega) (by omega) hq) rfl ?_;dsimp only [aA,aB];refine vn (dQ nP (by decide) (by simp) (.inl rfl)) rfl ?_;dsimp only [aA,aB];refine aC (kU q) rfl ?_;dsimp only [aA,aB];refine vn cK rfl ?_;dsimp only [aA,aB];refine vs _ rfl (fun h9=>?_) (fun h9=>?_)
  ·refine vn (aI (by omega) (by omega)) rfl ?_;dsimp only [aA,aB]
   exact aV rfl ⟨⟨n-1,by omega,fun i r hi hr=>by
    rcases Nat.lt_or_ge i n with h | h
    ·rw [show i=n-1 by omega,hq] at hr;simp only [Option.some.injEq] at hr;subst hr;rw [Gg];simpa using h9
    ·exact hz i r h hr⟩,⟨aH.Sub.of_eq (congrArg (fun q=>aH.one (aF.int .i64 q)) (by show (n:Int)-1=((n-1:Nat):Int);omega)),trivial⟩,by show n-1<n;omega⟩
  refine vn (Co eE (by omega) (by omega) hn) rfl ?_;dsimp only [aA,aB];have ht:=vE hn hz (.inr ⟨q,hq,by rw [Gg];simpa using h9⟩);refine aC (EA _ (by rw [List.length_map,List.length_take];omega)) rfl ?_;dsimp only [aA,aB];rw [trim,ht];exact aP rfl
 refine vn (Co eE (by omega) (by omega) hn) rfl ?_;dsimp only [aA,aB];have ht:=vE hn hz (.inl (by omega));refine aC (EA _ (by rw [List.length_map,List.length_take];omega)) rfl ?_;dsimp only [aA,aB];rw [trim,ht];exact aP rfl
theorem sJ (ps:List Rat) (hs:ps.length<1099511627776):aJ prog 95 [(.one (sQ ps):aH)] (.ret [.one (.int .i64 ((dH zr ps:Int)-1))]):=by
 refine aD (args:=[.v none]) (ins:=[.v (.one (sQ ps))]) (hints:=(fun _=>none)) fo (by kernel_rfl) func95 ⟨rfl,trivial⟩ ?_;rw [HD];dsimp only [List.map,In.env,aA,aB];have hle:=fE (z:=zr) ps;have htl:=eO ps;refine aC (rP ps hs) rfl ?_;dsimp only [aA,aB];refine vn (aQ eE (List.length_map _)) rfl ?_;dsimp only [aA,aB];refine vn (aI (by omega) (by omega)) rfl ?_;dsimp only [aA,aB];rw [←htl];exact aP rfl
open Go Go.Proofs Go.RowKit Go.Shelf Tryz Ord
attribute [local go_sem] Oper.semAt_some
section
variable {α:Type} [Inhabited α] {e0 e1 e2:α→Value}
set_option maxRecDepth 100000 in
set_option maxHeartbeats 2000000 in
theorem HT (l Bs n₀ b off cap:Nat) (vs:List α) (hlen:vs.length<4611686018427387904) (hb:b<n₀) (J Jx:List (Nat×α)→World→Prop)
  (hY:∀ pre x W,J pre W→pre.length<vs.length→YieldAt Fence.wide (1000-1) prog l #[.int .i64 (x.1:Int),(.agg #[e0 x.2,e1 x.2,e2 x.2])] W fun e W'=>
   (e = .returned (.bool true)∧J (pre ++ [x]) W'∧Nn n₀ Bs W W')∨(e = .returned (.bool false)∧Jx (pre ++ [x]) W'))
  (W:World) (hBs:W.cell? ⟨Bs,0,none⟩=some (.slice (some ⟨b,off,none⟩) vs.length cap)) (hc:∀ j v,vs[j]? = some v→W.cell? ⟨b,off+j*3,none⟩=some (e0 v)∧W.cell? ⟨b,off+j*3+1,none⟩=some (e1 v)∧W.cell? ⟨b,off+j*3+2,none⟩=some (e2 v)) (h0:J [] W) :
  CallsIn Fence.wide 1000 prog 281 #[.func (.yield l) #[] #[], .pointer (some ⟨Bs,0,none⟩)] W fun e W'=>(∃ v,e = .returned v) ∧
   ((∃ ys,ys=bk vs vs.length∧J ys W')∨(∃ pre,(∃ k,k≤vs.length∧pre=bk vs k)∧Jx pre W')):=by
 refine callsIn_of_wp func281 rfl trivial ?_ rfl;simp only [ntmps281,List.size_toArray,List.length_cons,List.length_nil,Nat.reduceAdd,Nat.reduceSub,Array.replicate_succ,Array.replicate_zero,List.push_toArray,List.append_toArray,List.nil_append,List.cons_append];obtain ⟨N,hN⟩:∃ N,vs.length=N:=⟨_,rfl⟩
 rw [hN] at hBs hY hlen ⊢
 gi_wp2
 gi_loopw [3] (fun i wr=>∃ k:Nat,k≤N∧i = .int .i64 ((N:Int)-1-k)∧J (bk vs k) wr∧Below n₀ W wr∧wr.cell? ⟨Bs,0,none⟩=some (.slice (some ⟨b,off,none⟩) N cap))
  (fun i _=>(intOf i+1).toNat)
 case atStart=>exact ⟨0,Nat.zero_le _,by simp,h0,Below.refl _ _,hBs⟩
 case round=>
  obtain ⟨k,hk,rfl,hJs,hnx,hBx⟩:=hrel;have hmeas:(intOf (.int .i64 ((N:Int)-1-k))+1).toNat=N-k:=by simp [intOf];omega
  by_cases hlt:k<N
  ·have hv:vs[N-1-k]? = some (vs[N-1-k]?.getD default):=by rw [List.getElem?_eq_getElem (by omega)];rfl
   obtain ⟨hx0,hx1,hx2⟩:=hc _ _ hv;have hcx0:=(hnx.cell (p:=⟨b,off+(N-1-k)*3,none⟩) hb).trans hx0;have hcx1:=(hnx.cell (p:=⟨b,off+(N-1-k)*3+1,none⟩) hb).trans hx1;have hcx2:=(hnx.cell (p:=⟨b,off+(N-1-k)*3+2,none⟩) hb).trans hx2;clear hx0 hx1 hx2;obtain ⟨fn,tmps,assign,body,hy,hR⟩:=hY _ (N-1-k,vs[N-1-k]?.getD default) wr hJs (by rw [Ba];exact hlt);generalize hx:vs[N-1-k]?.getD default=x at hy hR hcx0 hcx1 hcx2;have hsucc:bk vs (k+1)=bk vs k ++ [(N-1-k,x)]:=by rw [Cs,hN,hx]
   have e1:(N:Int)-1-k=((N-1-k:Nat):Int):=by omega
   have hn1:N-1-k<N:=by omega
   rw [e1]
   gi_wp2
   refine hR.mono ?_;rintro e W3 (⟨rfl,hJ3,hk3⟩ | ⟨rfl,hJx3⟩)
   ·gi_wp2
    go_roundw
    case rel=>exact ⟨k+1,by omega,by congr 1;omega,by rw [hsucc];exact hJ3,hnx.trans hk3.1,hk3.2 _ hBx⟩
    case measure=>simp [intOf]
   ·gi_wp2
    refine bodyPost_ret (results_none rfl _ _ _) rfl ?_;exact ⟨⟨_,rfl⟩, .inr ⟨_,⟨k+1,by omega,rfl⟩,by rw [hsucc];exact hJx3⟩⟩
  ·obtain rfl:k=N:=by omega
   gi_wp2
   go_end0
   exact ⟨⟨_,rfl⟩, .inl ⟨_,rfl,hJs⟩⟩
set_option maxRecDepth 100000 in
set_option maxHeartbeats 1000000 in
theorem EO {α:Type} (l Bs:Nat) (a:Option Addr) (cap:Nat) (J:List (Nat×α)→World→Prop) (W:World) (hBs:W.cell? ⟨Bs,0,none⟩=some (.slice a 0 cap)) (h0:J [] W) :
  CallsIn Fence.wide 1000 prog 281 #[.func (.yield l) #[] #[], .pointer (some ⟨Bs,0,none⟩)] W fun e W'=>(∃ v,e = .returned v)∧J [] W':=by
 refine callsIn_of_wp func281 rfl trivial ?_ rfl;simp only [ntmps281,List.size_toArray,List.length_cons,List.length_nil,Nat.reduceAdd,Nat.reduceSub,Array.replicate_succ,Array.replicate_zero,List.push_toArray,List.append_toArray,List.nil_append,List.cons_append]
 gi_wp2
 gi_loopw [3] (fun i wr=>i = .int .i64 (-1)∧J [] wr) (fun _ _=>0)
 case atStart=>exact ⟨rfl,h0⟩
 case round=>
  obtain ⟨rfl,hJs⟩:=hrel
  gi_wp2
  go_end0
  exact ⟨⟨_,rfl⟩,hJs⟩
set_option maxHeartbeats 1000000 in
theorem EB (n:Nat) (a:Option Addr) (len cap:Nat) (w:World) :
  CallsIn Fence.wide n prog 248 #[.slice a len cap] w fun e w'=>e = .returned (.func (.func 281) #[] #[.pointer (some ⟨w.heap.size,0,none⟩)])∧w'=w.alloc (.cells #[.slice a len cap] 72):=by
 refine callsIn_of_wp func248 rfl trivial ?_ rfl;simp only [ntmps248,List.size_toArray,List.length_cons,List.length_nil,Nat.reduceAdd,Nat.reduceSub,Array.replicate_succ,Array.replicate_zero,List.push_toArray,List.append_toArray,List.nil_append,List.cons_append]
 gi_wp2
 go_ret
 exact ⟨rfl,rfl⟩
def Of (e0 e1 e2:α→Value) (n₀:Nat) (W:World) (sv:Value) (vs:List α):Prop:=
 ∃ a cap,sv = .slice a vs.length cap∧(vs = []∨∃ b off,a=some ⟨b,off,none⟩∧b<n₀∧∀ j v,vs[j]? = some v→W.cell? ⟨b,off+j*3,none⟩=some (e0 v)∧W.cell? ⟨b,off+j*3+1,none⟩=some (e1 v)∧W.cell? ⟨b,off+j*3+2,none⟩=some (e2 v))
theorem Of.below {α:Type} {e0 e1 e2:α→Value} {n₀:Nat} {A B:World} (h:Below n₀ A B) {sv:Value} {vs:List α}:Of e0 e1 e2 n₀ A sv vs→Of e0 e1 e2 n₀ B sv vs:=by
 rintro ⟨a,cap,e,rfl | ⟨b,off,rfl,hb,hc⟩⟩
 ·exact ⟨a,cap,e, .inl rfl⟩
 ·exact ⟨_,cap,e, .inr ⟨b,off,rfl,hb,fun j v hj=>⟨(h.cell (p:=⟨b,off+j*3,none⟩) hb).trans (hc j v hj).1,(h.cell (p:=⟨b,off+j*3+1,none⟩) hb).trans (hc j v hj).2.1,(h.cell (p:=⟨b,off+j*3+2,none⟩) hb).trans (hc j v hj).2.2⟩⟩⟩
theorem tU (Bs n₀:Nat) (sv:Value) (vs:List α) (hlen:vs.length<4611686018427387904) (w:World) (hBs:Bs<w.heap.size) (hn₀:n₀≤w.heap.size)
  (hc:w.cell? ⟨Bs,0,none⟩=some sv) (hI:Of e0 e1 e2 n₀ w sv vs) :
  SeqStopsK Fence.wide 1000 prog 281 #[.pointer (some ⟨Bs,0,none⟩)] (fun x:Nat×α=>#[Value.int .i64 (x.1:Int),(Value.agg #[e0 x.2,e1 x.2,e2 x.2])]) (Nn n₀ Bs) (fun ys=>ys=bk vs vs.length) (fun pre=>∃ k,k≤vs.length∧pre=bk vs k) vs.length w:=fun l J Jx W hW _ _ hY h0=>by
 have hc':=(hW.cell (p:=⟨Bs,0,none⟩) hBs).trans hc;obtain ⟨a,cap,rfl,rfl | ⟨b,off,rfl,hb,hcs⟩⟩:=hI.below (hW.mono hn₀)
 ·exact (EO (α:=α) l Bs a cap J W hc' h0).mono fun e W' ⟨he,hj⟩=>⟨he, .inl ⟨_,rfl,hj⟩⟩
 ·exact (HT (e0:=e0) (e1:=e1) (e2:=e2) l Bs n₀ b off cap vs hlen hb J Jx hY W hc' hcs h0)
end
end Go.Sy
namespace Go.Sy
open Go Go.Proofs Tryz Ord
structure cF where
 n:Int
 d:Int
 pow:Nat
structure cF.In (x:cF):Prop where
 n1:-9223372036854775808≤x.n
 n2:x.n<9223372036854775808
 d1:-9223372036854775808≤x.d
 d2:x.d<9223372036854775808
 p:x.pow<256
def cF.b (x:cF):Rat:=(x.n:Rat)/((if x.d=0 then 1 else x.d:Int):Rat)
def cF.v (x:cF):Rat:=x.b^(x.pow%4+1)
theorem _root_.Ord.Fit.pow {B:Nat} {q:Rat} (h:Fit B q) (hB:1≤B):∀ n,Fit (B*n+1) (q^n)
 | 0=>by rw [Rat.pow_zero];exact (Fit.int (n:=1) (B:=1) (by omega) (by decide)).mono (by omega)
 | n+1=>by
   rw [Rat.pow_succ];exact ((Ord.Fit.pow h hB n).mul h).mono (by rw [Nat.mul_add];omega)
theorem cF.In.fit {x:cF} (h:x.In):Fit 128 x.b:=by
 unfold cF.b;split
 ·exact (iA h.n1 h.n2).div (iA (n:=1) (by omega) (by omega))
 ·exact (iA h.n1 h.n2).div (iA h.d1 h.d2)
theorem cF.In.SS {x:cF} (h:x.In):Fit 513 x.v:=(h.fit.pow (by omega) _).mono (by omega)
def bT (l:List cF):List Rat:=l.map cF.v
def DE (l:List cF):List RQ:=l.map fun x=>RQ.of x.v
theorem Hy {α β:Type} {f:α→β} {l:List α} {i:Nat} {x:α} (h:l[i]? = some x):(l.take i).map f ++ [f x]=(l.take (i+1)).map f:=by
 rw [List.take_add_one,h,List.map_append];rfl
def cF.short (x:cF):Bool:=decide (x.pow%4=0∧x.n≤999 ∧ -999≤x.n∧x.d≤999 ∧ -999≤x.d)
def cF.QB (x:cF):Bool:=decide (x.pow%4=0∧x.n≤99 ∧ -99≤x.n∧x.d≤99 ∧ -99≤x.d)
open Go
abbrev Ux (d:Nat):UInt8:=UInt8.ofNat (48+d)
def jC:Nat→Nat→List UInt8
 | 0,_=>[]
 | k+1,n=>jC k (n/10) ++ [Ux (n%10)]
abbrev dec (n:Nat):List UInt8:=Lib.decDigits n
theorem sP {n:Nat} (h:n<10):dec n = [Ux n]:=by rw [dec,Lib.decDigits,dif_pos h]
theorem wY {n:Nat} (h:¬ n<10):dec n=dec (n/10) ++ [Ux (n%10)]:=by rw [dec,Lib.decDigits,dif_neg h]
theorem tG:∀ k n,(jC k n).length=k
 | 0,_=>rfl
 | k+1,n=>by rw [jC,List.length_append,tG k];rfl
theorem Du:∀ k n,jC k (n%10^k)=jC k n
 | 0,_=>rfl
 | k+1,n=>by
   have h1:n%10^(k+1)/10=n/10%10^k:=by
    rw [Nat.pow_succ,Nat.mul_comm,Nat.mod_mul_right_div_self]
   have h2:n%10^(k+1)%10=n%10:=Nat.mod_mod_of_dvd n ⟨10^k,by rw [Nat.pow_succ,Nat.mul_comm]⟩;rw [jC,jC,h1,h2,Du k]
theorem BP:∀ k,jC k 0=List.replicate k 48
 | 0=>rfl
 | k+1=>by rw [jC,Nat.zero_div,BP k,Nat.zero_mod,List.replicate_succ'];rfl
theorem Bc:∀ k n,0<n/10^k→dec n=dec (n/10^k)++jC k n
 | 0,n,_=>by simp [jC]
 | k+1,n,h=>by
   rw [Nat.pow_succ,Nat.mul_comm,←Nat.div_div_eq_div_mul] at h ⊢;have h10:¬ n<10:=fun hn=>by rw [Nat.div_eq_of_lt hn,Nat.zero_div] at h;omega
   rw [wY h10,Bc k (n/10) h,jC,List.append_assoc]
theorem KB {k m d:Nat} (hm:0<m) (hd:d<10^k):dec (d+10^k*m)=dec m++jC k d:=by
 have hp:0<10^k:=Nat.pow_pos (by omega);have e:(d+10^k*m)/10^k=m:=by rw [Nat.add_mul_div_left _ _ hp,Nat.div_eq_of_lt hd,Nat.zero_add]
 rw [Bc k _ (by rw [e];exact hm),e,←Du k (d+_),Nat.add_mul_mod_self_left,Nat.mod_eq_of_lt hd]
theorem iR:∀ {k n:Nat},0<k→n<10^k→(dec n).length≤k
 | k+1,n,_,h=>by
   by_cases h10:n<10
   ·rw [sP h10];simp
   ·rw [wY h10,List.length_append];have h1:n/10<10^k:=by rw [Nat.pow_succ] at h;omega
    have hk:0<k:=by rcases Nat.eq_zero_or_pos k with rfl | h2;· simp at h;omega
                    ·exact h2
    have:=iR hk h1;simp;omega
theorem Ds:∀ {k n:Nat},0<k→n<10^k→jC k n=List.replicate (k-(dec n).length) 48++dec n
 | k+1,n,_,h=>by
   by_cases h10:n<10
   ·rw [sP h10,jC,Nat.div_eq_of_lt h10,BP,Nat.mod_eq_of_lt h10];rfl
   ·have h1:n/10<10^k:=by rw [Nat.pow_succ] at h;omega
    have hk:0<k:=by rcases Nat.eq_zero_or_pos k with rfl | h2;· simp at h;omega
                    ·exact h2
    rw [wY h10,jC,Ds hk h1,List.append_assoc,List.length_append]
    congr 2;simp
theorem Ur (c:Nat):Lib.repeatL [48] c=List.replicate c 48:=by
 induction c with
 | zero=>rfl
 | succ c ih=>rw [Lib.repeatL,ih,List.replicate_succ];rfl
theorem KE:dec 0 = [48]:=by rw [sP (by omega)];rfl
def Vt (z:Int):List UInt8:=(if z<0 then [45] else [])++dec z.natAbs
def Kg (q:Rat):List UInt8:=Vt q.num++if q.den=1 then [] else 47::dec q.den
open Go Go.Proofs Tryz Ord
abbrev sT (l:List UInt8):aF:=.str ⟨l.toArray⟩
abbrev bS (l:List UInt8):aH:=.one (sT l)
section
variable {P:Program} {T U ty:TypeId} {x y z:Operand}
theorem xB {a b:List UInt8} (h:a.length+b.length≤9223372036854775807):aK P (.binOp .add T x y U) ty [bS a,bS b] (bS (a++b)):=by
 have e:(⟨(a++b).toArray⟩:ByteArray)=⟨a.toArray⟩++⟨b.toArray⟩:=by
  apply ByteArray.ext;rw [ByteArray.data_append];simp
 show aK P _ ty _ (.one (.str ⟨(a++b).toArray⟩));rw [e];exact Ix (by show ((a.toArray.size+b.toArray.size:Nat):Int)≤_;simp only [List.size_toArray];omega)
theorem EL {a b:List UInt8}:aK P (.binOp .eql T x y U) ty [bS a,bS b] (.one (.bool (decide (a=b)))):=by
 have:decide (a=b)=decide ((ByteArray.mk a.toArray).data=(ByteArray.mk b.toArray).data):=by
  rw [decide_eq_decide];exact ⟨fun h=>by rw [h],fun h=>by simpa using congrArg Array.toList h⟩
 rw [this];exact QM
end
def TJ:Tr:=.need (.prim [(W 3 0)] none) (.unOp .not 4 (tT 15)) 4 false (.split (.u 4 0) (aU 117 [(G3 0)] [(some 1)] [18] [39] 35 false (aU 178 [(G1 5)] [none] [19] [35] 9 false (.need (.prim [(.one (.c (.k (.string ⟨#[47]⟩)))),(W 6 0)] none) (.binOp .add 9 (.const (.string ⟨#[47]⟩)) (tT 20) 9) 9 false (cU .add 9 17 21 2 0 7 0 9 (.ret [(W 8 0)]))))) (.ret [(W 2 0)]))
def OM:Tr:=.need (.prim [(W 2 0)] none) (.unOp .not 4 (tT 15)) 4 false (.split (.u 3 0) (aU 117 [(G3 0)] [(some 1)] [18] [39] 35 false (aU 178 [(G1 4)] [none] [19] [35] 9 false (.need (.prim [(.one (.c (.k (.string ⟨#[47]⟩)))),(W 5 0)] none) (.binOp .add 9 (.const (.string ⟨#[47]⟩)) (tT 20) 9) 9 false (cU .add 9 17 21 1 0 6 0 9 (.ret [(W 7 0)]))))) (.ret [(W 1 0)]))
def TT:Tr:=aU 178 [(G1 0)] [none] [6] [35] 9 true (.split (.u 0 1) (.need (.prim [(.one (.c (.k (.string ⟨#[45]⟩)))),(W 1 0)] none) (.binOp .add 9 (.const (.string ⟨#[45]⟩)) (tT 11) 9) 9 false (aU 179 [(.agg [(U 0 2)])] [none] [14] [35] 4 true TJ)) (aU 179 [(.agg [(U 0 2)])] [none] [14] [35] 4 true OM))
theorem MD:aO prog f90 (fun _=>none) [.v (some 3)]=TT:=by kernel_rfl
theorem tJ {n H:Nat} (h:n<2^H):(dec n).length≤H+1:=
 iR (Nat.succ_pos H) (Nat.lt_of_lt_of_le h (Nat.le_trans (Nat.pow_le_pow_left (by omega) H) (Nat.pow_le_pow_right (by omega) (Nat.le_succ H))))
end Go.Sy
namespace Go.Proofs
open Go.Shelf
def Tryz.tA:Go.Shelf.Ren:=⟨fun | 169=>244 | n=>n,fun | 70=>284 | 9=>9 | 0=>0 | 72=>287 | 37=>285 | 127=>325 | 3=>3 | 5=>5 | n=>n,fun | n=>n⟩
theorem Tryz.Mh:Go.Proofs.Lays.n169 Tryz.prog Tryz.tA:={
 mixed:=by kernel_rfl
 f169:=Tryz.func244.trans (congrArg some (by kernel_rfl))
 t0:=Tryz.underlying0
 a0:=Tryz.isAgg0
 z0:=Tryz.sizeOf0
 v0:=Tryz.zeroValue0
 t3:=Tryz.underlying3
 a3:=Tryz.isAgg3
 z3:=Tryz.sizeOf3
 v3:=Tryz.zeroValue3
 t9:=Tryz.underlying9
 a9:=Tryz.isAgg9
 z9:=Tryz.sizeOf9
 v9:=Tryz.zeroValue9
 t37:=Tryz.underlying285
 a37:=Tryz.isAgg285
 z37:=Tryz.sizeOf285
 v37:=Tryz.zeroValue285
 t70:=Tryz.underlying284
 a70:=Tryz.isAgg284
 z70:=Tryz.sizeOf284
 v70:=Tryz.zeroValue284
 t72:=Tryz.underlying287
 a72:=Tryz.isAgg287
 z72:=Tryz.sizeOf287
 v72:=Tryz.zeroValue287
 t127:=Tryz.underlying325
 a127:=Tryz.isAgg325
 z127:=Tryz.sizeOf325
 v127:=Tryz.zeroValue325 }
theorem Tryz.qY:Builder.Extra Tryz.prog Tryz.tA:={
 sizeBuilder:=by kernel_rfl
 liesBuilder:=by kernel_rfl
 t5:=Tryz.underlying5
 a5:=Tryz.isAgg5
 z5:=Tryz.sizeOf5
 v5:=Tryz.zeroValue5
 infoByte:=by kernel_rfl
 cellsByte:=by kernel_rfl
 sizeByte:=by kernel_rfl
 neB5:=by decide }
open Go.RowKit in
theorem Tryz.Builder_String_any_k (B b:Nat) (l:List UInt8) (w:World) (h:Lib.IsBuilderF 287 5 B b (Lib.byteCells l) w) (hBw:B≤w.heap.size) :
  Calls Tryz.prog 244 #[.pointer (some ⟨b,0,none⟩)] w fun e w'=>e = .returned (.string ⟨l.toArray⟩)∧(Lib.IsBuilderF 287 5 B b (Lib.byteCells l) w'∧Below B w w'∧Lib.OthersKept 5 (some b) w w'):=Any.Builder_String_any_k Tryz.Mh Tryz.qY B b l w h hBw
def Tryz.Cz:Go.Shelf.Ren:=⟨fun | 171=>241 | 243=>275 | 246=>288 | 283=>295 | 284=>296 | 285=>297 | 286=>298 | 129=>301 | 317=>300 | 318=>302 | 319=>303 | 320=>304 | 337=>305 | 338=>306 | n=>n,fun | 3=>3 | 9=>9 | 2=>2 | 4=>4 | 171=>336 | 0=>0 | 53=>254 | 37=>285 | 5=>5 | 173=>339 | 212=>343 | 51=>255 | 20=>20 | 213=>344 | 46=>320 | 232=>347 | 233=>348 | n=>n,fun | 17=>0 | 18=>2 | 19=>3 | n=>n⟩
theorem Tryz.IB:Go.Proofs.LaysM.n171 Tryz.prog Tryz.Cz:={
 mixed:=by kernel_rfl
 f129:=Tryz.func301.trans (congrArg some (by kernel_rfl))
 f171:=Tryz.func241.trans (congrArg some (by kernel_rfl))
 f243:=Tryz.func275.trans (congrArg some (by kernel_rfl))
 f246:=Tryz.func288.trans (congrArg some (by kernel_rfl))
 f283:=Tryz.func295.trans (congrArg some (by kernel_rfl))
 f284:=Tryz.func296.trans (congrArg some (by kernel_rfl))
 f285:=Tryz.func297.trans (congrArg some (by kernel_rfl))
 f286:=Tryz.func298.trans (congrArg some (by kernel_rfl))
 f317:=Tryz.func300.trans (congrArg some (by kernel_rfl))
 f318:=Tryz.func302.trans (congrArg some (by kernel_rfl))
 f319:=Tryz.func303.trans (congrArg some (by kernel_rfl))
 f320:=Tryz.func304.trans (congrArg some (by kernel_rfl))
 f337:=Tryz.func305.trans (congrArg some (by kernel_rfl))
 f338:=Tryz.func306.trans (congrArg some (by kernel_rfl))
 t0:=Tryz.underlying0
 a0:=Tryz.isAgg0
 z0:=Tryz.sizeOf0
 v0:=Tryz.zeroValue0
 t2:=Tryz.underlying2
 a2:=Tryz.isAgg2
 z2:=Tryz.sizeOf2
 v2:=Tryz.zeroValue2
 t3:=Tryz.underlying3
 a3:=Tryz.isAgg3
 z3:=Tryz.sizeOf3
 v3:=Tryz.zeroValue3
 t4:=Tryz.underlying4
 a4:=Tryz.isAgg4
 z4:=Tryz.sizeOf4
 v4:=Tryz.zeroValue4
 t5:=Tryz.underlying5
 a5:=Tryz.isAgg5
 z5:=Tryz.sizeOf5
 v5:=Tryz.zeroValue5
 t9:=Tryz.underlying9
 a9:=Tryz.isAgg9
 z9:=Tryz.sizeOf9
 v9:=Tryz.zeroValue9
 t20:=Tryz.underlying20
 a20:=Tryz.isAgg20
 z20:=Tryz.sizeOf20
 v20:=Tryz.zeroValue20
 t37:=Tryz.underlying285
 a37:=Tryz.isAgg285
 z37:=Tryz.sizeOf285
 v37:=Tryz.zeroValue285
 t46:=Tryz.underlying320
 a46:=Tryz.isAgg320
 z46:=Tryz.sizeOf320
 v46:=Tryz.zeroValue320
 t51:=Tryz.underlying255
 a51:=Tryz.isAgg255
 z51:=Tryz.sizeOf255
 v51:=Tryz.zeroValue255
 t53:=Tryz.underlying254
 a53:=Tryz.isAgg254
 z53:=Tryz.sizeOf254
 v53:=Tryz.zeroValue254
 t171:=Tryz.underlying336
 a171:=Tryz.isAgg336
 z171:=Tryz.sizeOf336
 v171:=Tryz.zeroValue336
 t173:=Tryz.underlying339
 a173:=Tryz.isAgg339
 z173:=Tryz.sizeOf339
 v173:=Tryz.zeroValue339
 t212:=Tryz.underlying343
 a212:=Tryz.isAgg343
 z212:=Tryz.sizeOf343
 v212:=Tryz.zeroValue343
 t213:=Tryz.underlying344
 a213:=Tryz.isAgg344
 z213:=Tryz.sizeOf344
 t232:=Tryz.underlying347
 a232:=Tryz.isAgg347
 z232:=Tryz.sizeOf347
 v232:=Tryz.zeroValue347
 t233:=Tryz.underlying348
 a233:=Tryz.isAgg348
 z233:=Tryz.sizeOf348
 v233:=Tryz.zeroValue348
 g17:=by kernel_rfl
 g18:=by kernel_rfl
 g19:=by kernel_rfl
 i0:=by kernel_rfl
 i2:=by kernel_rfl
 i3:=by kernel_rfl
 i4:=by kernel_rfl
 i5:=by kernel_rfl
 i9:=by kernel_rfl
 i20:=by kernel_rfl
 i37:=by kernel_rfl
 i46:=by kernel_rfl
 i51:=by kernel_rfl
 i53:=by kernel_rfl
 i171:=by kernel_rfl
 i173:=by kernel_rfl
 i212:=by kernel_rfl
 i232:=by kernel_rfl
 i233:=by kernel_rfl
 m17:=by kernel_rfl
 m18:=by kernel_rfl
 m19:=by kernel_rfl }
open Go.RowKit Go.Sort Go.Lib in
theorem Tryz.strconv_Itoa (n:Int) (h0:-9223372036854775808≤n) (h1:n≤9223372036854775807) (w:World) (htab:Lib.TabIs Tryz.prog w "internal/strconv.uint64pow10" .u64 Lib.pow10Tab) :
  Calls Tryz.prog 241 #[.int .i64 n] w fun e w'=>e = .returned (.string ⟨(Lib.itoa n).toArray⟩)∧∃ k os,w'=grow (w.drewN k) os:=Any.strconv_Itoa Tryz.IB n h0 h1 w htab
def Tryz.tK:Go.Shelf.Ren:=⟨fun | 105=>243 | 212=>277 | 99=>278 | 165=>279 | 166=>242 | 170=>280 | 169=>244 | 263=>290 | 264=>291 | 206=>292 | 240=>276 | 241=>293 | 276=>289 | 277=>299 | n=>n,fun | 9=>9 | 3=>3 | 4=>4 | 20=>20 | 0=>0 | 46=>320 | 109=>321 | 5=>5 | 72=>287 | 76=>294 | 51=>255 | 146=>331 | 53=>254 | 148=>333 | 70=>284 | 37=>285 | 75=>293 | 127=>325 | 164=>329 | 80=>144 | n=>n,fun | n=>n⟩
theorem Tryz.GI:Go.Proofs.Lays.n105 Tryz.prog Tryz.tK:={
 mixed:=by kernel_rfl
 f99:=Tryz.func278.trans (congrArg some (by kernel_rfl))
 f105:=Tryz.func243.trans (congrArg some (by kernel_rfl))
 f165:=Tryz.func279.trans (congrArg some (by kernel_rfl))
 f166:=Tryz.func242.trans (congrArg some (by kernel_rfl))
 f169:=Tryz.func244.trans (congrArg some (by kernel_rfl))
 f170:=Tryz.func280.trans (congrArg some (by kernel_rfl))
 f206:=Tryz.func292.trans (congrArg some (by kernel_rfl))
 f212:=Tryz.func277.trans (congrArg some (by kernel_rfl))
 f240:=Tryz.func276.trans (congrArg some (by kernel_rfl))
 f241:=Tryz.func293.trans (congrArg some (by kernel_rfl))
 f263:=Tryz.func290.trans (congrArg some (by kernel_rfl))
 f264:=Tryz.func291.trans (congrArg some (by kernel_rfl))
 f276:=Tryz.func289.trans (congrArg some (by kernel_rfl))
 f277:=Tryz.func299.trans (congrArg some (by kernel_rfl))
 t0:=Tryz.underlying0
 a0:=Tryz.isAgg0
 z0:=Tryz.sizeOf0
 v0:=Tryz.zeroValue0
 t3:=Tryz.underlying3
 a3:=Tryz.isAgg3
 z3:=Tryz.sizeOf3
 v3:=Tryz.zeroValue3
 t4:=Tryz.underlying4
 a4:=Tryz.isAgg4
 z4:=Tryz.sizeOf4
 v4:=Tryz.zeroValue4
 t5:=Tryz.underlying5
 a5:=Tryz.isAgg5
 z5:=Tryz.sizeOf5
 v5:=Tryz.zeroValue5
 t9:=Tryz.underlying9
 a9:=Tryz.isAgg9
 z9:=Tryz.sizeOf9
 v9:=Tryz.zeroValue9
 t20:=Tryz.underlying20
 a20:=Tryz.isAgg20
 z20:=Tryz.sizeOf20
 v20:=Tryz.zeroValue20
 t37:=Tryz.underlying285
 a37:=Tryz.isAgg285
 z37:=Tryz.sizeOf285
 v37:=Tryz.zeroValue285
 t46:=Tryz.underlying320
 a46:=Tryz.isAgg320
 z46:=Tryz.sizeOf320
 v46:=Tryz.zeroValue320
 t51:=Tryz.underlying255
 a51:=Tryz.isAgg255
 z51:=Tryz.sizeOf255
 v51:=Tryz.zeroValue255
 t53:=Tryz.underlying254
 a53:=Tryz.isAgg254
 z53:=Tryz.sizeOf254
 v53:=Tryz.zeroValue254
 t70:=Tryz.underlying284
 a70:=Tryz.isAgg284
 z70:=Tryz.sizeOf284
 v70:=Tryz.zeroValue284
 t72:=Tryz.underlying287
 a72:=Tryz.isAgg287
 z72:=Tryz.sizeOf287
 v72:=Tryz.zeroValue287
 t75:=Tryz.underlying293
 a75:=Tryz.isAgg293
 z75:=Tryz.sizeOf293
 v75:=Tryz.zeroValue293
 t76:=Tryz.underlying294
 a76:=Tryz.isAgg294
 z76:=Tryz.sizeOf294
 v76:=Tryz.zeroValue294
 t109:=Tryz.underlying321
 a109:=Tryz.isAgg321
 z109:=Tryz.sizeOf321
 v109:=Tryz.zeroValue321
 t127:=Tryz.underlying325
 a127:=Tryz.isAgg325
 z127:=Tryz.sizeOf325
 v127:=Tryz.zeroValue325
 t146:=Tryz.underlying331
 a146:=Tryz.isAgg331
 z146:=Tryz.sizeOf331
 v146:=Tryz.zeroValue331
 t148:=Tryz.underlying333
 a148:=Tryz.isAgg333
 z148:=Tryz.sizeOf333
 v148:=Tryz.zeroValue333
 t164:=Tryz.underlying329
 a164:=Tryz.isAgg329
 z164:=Tryz.sizeOf329
 v164:=Tryz.zeroValue329 }
theorem Tryz.lF:Builder.Extra Tryz.prog Tryz.tK:={
 sizeBuilder:=by kernel_rfl
 liesBuilder:=by kernel_rfl
 t5:=Tryz.underlying5
 a5:=Tryz.isAgg5
 z5:=Tryz.sizeOf5
 v5:=Tryz.zeroValue5
 infoByte:=by kernel_rfl
 cellsByte:=by kernel_rfl
 sizeByte:=by kernel_rfl
 neB5:=by decide }
open Go.RowKit Go.Lib in
theorem Tryz.strings_Repeat (s:ByteArray) (c:Nat) (w:World) (hc:c≤9223372036854775807) (hlen:s.size*c≤140737488355328) :
  Calls Tryz.prog 243 #[.string s, .int .i64 c] w fun e w'=>e = .returned (.string ⟨(Lib.repeatL s.data.toList c).toArray⟩)∧Below w.heap.size w w':=Any.strings_Repeat Tryz.GI Tryz.lF s c w hc hlen
end Go.Proofs
namespace Go.Sy
open Go Go.Proofs Go.RowKit Go.Shelf Tryz Ord
attribute [local go_sem] Oper.semAt_some
abbrev D9:={d:Nat // d<1000000000}
instance:Inhabited D9:=⟨⟨0,by omega⟩⟩
abbrev Qs (d:D9):Value:=.int .u32 (d.1:Int)
def tx (L:Nat) (pre:List (Nat×D9)):List UInt8:=pre.foldl (fun t x=>t++if x.1+1<L then jC 9 x.2.1 else dec x.2.1) []
theorem Cf (L:Nat) (pre:List (Nat×D9)) (x:Nat×D9):tx L (pre ++ [x])=tx L pre++if x.1+1<L then jC 9 x.2.1 else dec x.2.1:=by simp [tx]
theorem De (L:Nat) (x:Nat×D9):(if x.1+1<L then jC 9 x.2.1 else dec x.2.1).length≤9:=by
 split
 ·rw [tG];omega
 ·exact iR (by omega) (by rw [show (10:Nat)^9=1000000000 by decide];exact x.2.2)
theorem QF (L:Nat) (pre:List (Nat×D9)):(tx L pre).length≤9*pre.length:=by
 have h:∀ (l:List (Nat×D9)) (t:List UInt8),(l.foldl (fun t x=>t++if x.1+1<L then jC 9 x.2.1 else dec x.2.1) t).length≤t.length+9*l.length:=by
  intro l
  induction l with
  | nil=>intro t;simp
  | cons x l ih=>
    intro t;have h1:=ih (t++if x.1+1<L then jC 9 x.2.1 else dec x.2.1);have h2:=De L x;rw [List.length_append] at h1;rw [List.foldl_cons,List.length_cons];omega
 have:=h pre []
 simpa [tx] using this
theorem KU (vs:List D9) (h0:∀ d,vs.getLast? = some d→d.1≠0):∀ k,0<k→k≤vs.length→0<lv ((vs.map Subtype.val).drop (vs.length-k))∧tx vs.length (bk vs k)=dec (lv ((vs.map Subtype.val).drop (vs.length-k)))
 | 0,h,_=>by omega
 | k+1,_,hk=>by
   have hlt:vs.length-(k+1)<vs.length:=by omega
   have hlt':vs.length-(k+1)<(vs.map Subtype.val).length:=by rw [List.length_map];exact hlt
   have hget:vs[vs.length-1-k]? = some vs[vs.length-(k+1)]:=by rw [show vs.length-1-k=vs.length-(k+1) by omega];exact List.getElem?_eq_getElem hlt
   have e1:(vs.map Subtype.val).drop (vs.length-(k+1))=vs[vs.length-(k+1)].1::(vs.map Subtype.val).drop (vs.length-k):=by
    rw [List.drop_eq_getElem_cons hlt',List.getElem_map,show vs.length-(k+1)+1=vs.length-k by omega]
   rw [Cs,Cf,hget,Option.getD_some,e1];show 0<val 1000000000 (_::_)∧_=dec (val 1000000000 (_::_));rw [val];rcases Nat.eq_zero_or_pos k with rfl | hk0
   ·have hd:vs[vs.length-(0+1)].1≠0:=h0 _ (by rw [List.getLast?_eq_getElem?];exact hget);have e2:(vs.map Subtype.val).drop (vs.length-0) = []:=by rw [List.drop_eq_nil_iff,List.length_map];omega
    rw [e2];dsimp only;rw [if_neg (by omega)];simp only [val,Nat.mul_zero,Nat.add_zero];exact ⟨by omega,by simp [bk,tx]⟩
   ·obtain ⟨h1,h2⟩:=KU vs h0 k hk0 (by omega);dsimp only;rw [if_pos (by omega),h2];have h3:(vs[vs.length-(k+1)]).1<10^9:=by rw [show (10:Nat)^9=1000000000 by decide];exact vs[vs.length-(k+1)].2
    have h4:=KB (m:=lv ((vs.map Subtype.val).drop (vs.length-k))) h1 h3;rw [show (10:Nat)^9=1000000000 by decide] at h4;have h5:0<lv ((vs.map Subtype.val).drop (vs.length-k)):=h1;exact ⟨by show 0<_+1000000000*lv _;omega,h4.symm⟩
theorem Dd {ds:List Nat} (h:Dg ds):∃ vs:List D9,vs.map Subtype.val=ds:=by
 induction ds with
 | nil=>exact ⟨[],rfl⟩
 | cons d ds ih=>
   obtain ⟨vs,hv⟩:=ih fun x hx=>h x (List.mem_cons_of_mem _ hx);exact ⟨⟨d,h d List.mem_cons_self⟩::vs,by rw [List.map_cons,hv]⟩
theorem Ay (w:World) (k:Nat) (os:Array Obj):Below w.heap.size w (Sort.grow (w.drewN k) os):=by
 refine ⟨rfl,rfl,rfl,?_,fun j hj=>?_⟩
 ·show w.heap.size≤(w.heap++os).size;rw [Array.size_append];omega
 ·show (w.heap++os)[j]? = _;exact Array.getElem?_append_left hj
theorem Ng (n:Nat) (hn:n≤9223372036854775807) (w:World) (M:Nat→Prop) (hM:Good M w) :
  Calls prog 241 #[.int .i64 (n:Int)] w fun e w'=>e = .returned (.string ⟨(dec n).toArray⟩)∧Below w.heap.size w w':=by
 obtain ⟨_,T,fz,h⟩:=hM (0,yG) (by simp [LR.Um])
 have htab:Lib.TabIs prog w "internal/strconv.uint64pow10" .u64 Lib.pow10Tab:=by
  unfold Lib.TabIs World.var?;rw [show prog.globalNamed "internal/strconv.uint64pow10" = some 0 by kernel_rfl];have h:w.heap[0]? = some (.cells yG T fz):=h;simp only [Option.bind_some,h];rfl
 refine (Tryz.strconv_Itoa (n:Int) (by omega) (by omega) w htab).mono ?_;rintro e w' ⟨rfl,k,os,rfl⟩;refine ⟨?_,Ay w k os⟩;rw [Lib.itoa_nonneg]
theorem HX (c:Nat) (hc:c≤9) (w:World):Calls prog 243 #[.string ⟨#[48]⟩, .int .i64 (c:Int)] w fun e w'=>e = .returned (.string ⟨(List.replicate c (48:UInt8)).toArray⟩)∧Below w.heap.size w w':=by
 refine (Tryz.strings_Repeat ⟨#[48]⟩ c w (by omega) (by show 1*c≤_;omega)).mono ?_;rintro e w' ⟨rfl,h⟩;exact ⟨by rw [←Ur],h⟩
theorem BW (B b:Nat) (bs:List Value) (s:ByteArray) (w:World) (h:Lib.IsBuilderF 287 5 B b bs w) (hlen:bs.length+s.size≤140737488355328) (hBw:B≤w.heap.size) :
  Calls prog 242 #[.pointer (some ⟨b,0,none⟩), .string s] w fun e w'=>e = .returned (.tuple #[.int .i64 s.size, .nilIface])∧(Lib.IsBuilderF 287 5 B b (bs++Lib.strCells s) w'∧Below B w w'∧Lib.OthersKept 5 (some b) w w'):=
 (Any.Builder_WriteString_k { Tryz.GI with } Tryz.lF B b bs s w h hlen hBw).mono fun e w' ⟨h1,h2,h3,h4⟩=>⟨h1, .inr h2,h3,h4⟩
theorem qS {T e B b:Nat} {bs:List Value} {A A':World} (h:Lib.IsBuilderF T e B b bs A) (k:∀ (j:Nat) (o:Obj),A.heap[j]? = some o→o.isCells=true→A'.heap[j]? = some o):Lib.IsBuilderF T e B b bs A':=by
 have one:∀ p,Lib.BuilderAtF T e B b p bs A→Lib.BuilderAtF T e B b p bs A':=by
  rintro p ⟨h1,v,h2,⟨h3,h4⟩,h5⟩;refine ⟨h1,v,k _ _ h2 rfl,⟨h3,?_⟩,h5⟩;rcases h4 with h4 | ⟨g,cap,cur,fz,h6,h7,h8,h9⟩
  ·exact .inl h4
  ·exact .inr ⟨g,cap,cur,fz,h6,h7,k _ _ h8 rfl,h9⟩
 exact h.elim (fun x=>.inl (one _ x)) (fun x=>.inr (one _ x))
theorem cW {A B:World} {row:Option Nat} (hg:A.grownBy B row) (hr:∀ r,row=some r→∃ o:Obj,A.heap[r]? = some o∧o.isCells=false) {b:Nat} {o:Obj} (ho:A.heap[b]? = some o) (hc:o.isCells=true):B.heap[b]? = some o:=by
 refine (hg.block b (Array.getElem?_eq_some_iff.1 ho).1 fun e=>?_).trans ho;obtain ⟨o',ho',hc'⟩:=hr b e.symm;rw [ho] at ho';cases ho';rw [hc] at hc';cases hc'
theorem aE {W:World} {b T:Nat} {cs:Array Value} {fz:Nat×Nat} (h:W.heap[b]? = some (.cells cs T fz)) {j:Nat} {v:Value} (hj:cs[j]? = some v):W.cell? ⟨b,j,none⟩=some v:=by
 simp only [World.cell?,h]
 simpa using hj
theorem fS {A A':World} (h:Below A.heap.size A A') (j:Nat) (o:Obj) (ho:A.heap[j]? = some o):A'.heap[j]? = some o:=(h.block j (Array.getElem?_eq_some_iff.1 ho).1).trans ho
set_option maxHeartbeats 1000000 in
theorem Gu (n:Nat) (a:Option Addr) (len cap:Nat) (w:World) :
  CallsIn Fence.wide n prog 179 #[.agg #[.slice a len cap]] w fun e w'=>e = .returned (.bool (decide ((len:Int)=0)))∧w'=w.alloc (.cells #[.slice a len cap] 35):=by
 refine callsIn_of_wp func179 rfl trivial ?_ rfl;simp only [ntmps179,List.size_toArray,List.length_cons,List.length_nil,Nat.reduceAdd,Nat.reduceSub,Array.replicate_succ,Array.replicate_zero,List.push_toArray,List.append_toArray,List.nil_append,List.cons_append]
 gi_wp2
 go_ret
 exact ⟨rfl,rfl⟩
theorem nine {d:Nat} (hd:d<1000000000):∃ c:Nat,c≤9∧wrap64 (9-((dec d).length:Int))=(c:Int)∧jC 9 d=List.replicate c 48++dec d:=by
 have hd':d<10^9:=by rw [show (10:Nat)^9=1000000000 by decide];exact hd
 have h1:(dec d).length≤9:=iR (by omega) hd';refine ⟨9-(dec d).length,by omega,?_,Ds (by omega) hd'⟩;rw [show (9:Int)-((dec d).length:Int)=((9-(dec d).length:Nat):Int) by omega];have hk:9-(dec d).length≤9:=Nat.sub_le _ _;generalize 9-(dec d).length=k at hk ⊢;unfold wrap64;omega
theorem lens (t d:List UInt8) (c:Nat) (hd:d.length≤9) (hc:c≤9) (ht:t.length≤10000000000000) :
  (Lib.byteCells t).length+(⟨Array.replicate c 48⟩:ByteArray).size≤140737488355328∧(Lib.byteCells t++Lib.strCells ⟨Array.replicate c 48⟩).length+(⟨d.toArray⟩:ByteArray).size≤140737488355328∧(Lib.byteCells t).length+(⟨d.toArray⟩:ByteArray).size≤140737488355328:=by
 have h1:(⟨Array.replicate c 48⟩:ByteArray).size=c:=Array.size_replicate;have h2:(⟨d.toArray⟩:ByteArray).size=d.length:=List.size_toArray;rw [List.length_append,Lib.strCells_length,Lib.byteCells_length,h1,h2];omega
theorem Bt {n0 L cap:Nat} {a:Option Addr} {W0 W W':World} {bs bs':List Value} (h2:Below (n0+2) W0 W) (h3:n0+4≤W.heap.size) (h4:W.heap[n0+3]? = some (.cells #[.slice a L cap] 33 (0,0)))
  (hb:Below (n0+2) W W') (ho:∀ k o,W.heap[k]? = some o→some k≠some (n0+2)→(∀ c fz,o ≠ .cells c 5 fz)→W'.heap[k]? = some o)
  (h1:Lib.IsBuilderF 287 5 (n0+2) (n0+2) bs W) (h1':Lib.IsBuilderF 287 5 (n0+2) (n0+2) bs' W') :
  KeepsOthers W W'∧Nn n0 (n0+3) W W'∧Lib.IsBuilderF 287 5 (n0+2) (n0+2) bs' W'∧Below (n0+2) W0 W'∧n0+4≤W'.heap.size∧W'.heap[n0+3]? = some (.cells #[.slice a L cap] 33 (0,0)):=by
 have h5:=ho _ _ h4 (by simp) (by intro c fz h;cases h)
 obtain ⟨cs,T,fz,hbc⟩:∃ cs T fz,W.heap[n0+2]? = some (.cells cs T fz):=by
  rcases h1 with ⟨_,v,h,_⟩ | ⟨_,v,h,_⟩
  ·exact ⟨_,_,_,h⟩
  ·exact ⟨_,_,_,h⟩
 refine ⟨⟨hb.size,fun k o hk hc=>ho k o hk ?_ (by rintro c fz rfl;cases hc)⟩,⟨hb.mono (by omega),fun v hv=>?_⟩,h1',h2.trans hb,Nat.le_trans h3 hb.size,h5⟩
 ·rintro e;cases e;rw [hbc] at hk;cases hk;cases hc
 ·simp only [World.cell?,h4,h5] at hv ⊢;exact hv
theorem Nq (n:Nat) (a:Option Addr) (len cap:Nat) (h:len≠0) (w:World) :
  CallsIn Fence.wide n prog 179 #[.agg #[.slice a len cap]] w fun e w'=>e = .returned (.bool false)∧w'=w.alloc (.cells #[.slice a len cap] 35):=by
 have:=Gu n a len cap w;rw [decide_eq_false (by omega)] at this;exact this
set_option maxRecDepth 100000 in
set_option maxHeartbeats 400000 in
theorem FC (a:Option Addr) (cap:Nat) (w:World) :
  CallsIn Fence.wide 1001 prog 178 #[.agg #[.slice a 0 cap]] w fun e W'=>e = .returned (.string ⟨#[48]⟩)∧Below w.heap.size w W':=by
 refine callsIn_of_wp func178 rfl trivial ?_ rfl;simp only [ntmps178,List.size_toArray,List.length_cons,List.length_nil,Nat.reduceAdd,Nat.reduceSub,Array.replicate_succ,Array.replicate_zero,List.push_toArray,List.append_toArray,List.nil_append,List.cons_append]
 gi_wp2_with (refine ⟨trivial,?_⟩;gi_at_call 179;refine (Gu _ _ 0 _ _).mono ?_;rintro e w' ⟨rfl,rfl⟩)
 go_ret
 exact ⟨rfl,((Below.refl _ w).alloc (Nat.le_refl _) _).alloc (by simp) _⟩
set_option maxRecDepth 100000 in
set_option maxHeartbeats 400000 in
theorem Kv (a:Option Addr) (cap:Nat) (vs:List D9) (hlen:vs.length≤1099511627776) (h0:vs.length≠0) (w:World) (M:Nat→Prop) (hM:Good M w) (hI:NX Qs w.heap.size w (.slice a vs.length cap) vs) :
  CallsIn Fence.wide 1001 prog 178 #[.agg #[.slice a vs.length cap]] w fun e W'=>e = .returned (.string ⟨(tx vs.length (bk vs vs.length)).toArray⟩)∧Below w.heap.size w W':=by
 refine callsIn_of_wp_marks func178 rfl trivial ?_ rfl;simp only [ntmps178,List.size_toArray,List.length_cons,List.length_nil,Nat.reduceAdd,Nat.reduceSub,Array.replicate_succ,Array.replicate_zero,List.push_toArray,List.append_toArray,List.nil_append,List.cons_append];generalize hL:vs.length=L at hI hlen h0 ⊢
 gi_wp2_with (refine ⟨trivial,?_⟩;gi_at_call 179;refine (Nq _ _ _ _ h0 _).mono ?_;rintro e w' ⟨rfl,rfl⟩)
 gi_wp2_with (refine ⟨trivial,?_⟩;gi_at_call 240;refine (CU _ _ _ _ _).mono ?_;rintro e w' ⟨rfl,rfl⟩)
 obtain ⟨n0,hn0⟩:∃ n0,w.heap.size=n0:=⟨_,rfl⟩
 rw [hn0] at hI ⊢;obtain ⟨W0,hW0⟩:∃ W0,((((w.alloc (.cells #[.slice a L cap] 35)).alloc (.cells #[.slice a L cap] 35)).alloc (.cells #[.pointer none, .slice none 0 0] 287)).alloc (.cells #[.slice a L cap] 33))=W0:=⟨_,rfl⟩
 have hs0:W0.heap.size=n0+4:=by rw [←hW0];simp [hn0]
 have hA0:W0.heap[n0]? = some (.cells #[.slice a L cap] 35 (0,0)):=by rw [←hW0,heap_alloc_old _ _ _ (by simp;omega),heap_alloc_old _ _ _ (by simp;omega),heap_alloc_old _ _ _ (by simp;omega),←hn0];exact heap_alloc_new w _
 have hT0:W0.heap[n0+2]? = some (.cells #[.pointer none, .slice none 0 0] 287 (0,0)):=by
  rw [←hW0,heap_alloc_old _ _ _ (by simp;omega)];have:=heap_alloc_new ((w.alloc (.cells #[.slice a L cap] 35)).alloc (.cells #[.slice a L cap] 35)) (.cells #[.pointer none, .slice none 0 0] 287);rw [World.size_alloc,World.size_alloc,hn0] at this;exact this
 have hP0:W0.heap[n0+3]? = some (.cells #[.slice a L cap] 33 (0,0)):=by
  rw [←hW0];have:=heap_alloc_new (((w.alloc (.cells #[.slice a L cap] 35)).alloc (.cells #[.slice a L cap] 35)).alloc (.cells #[.pointer none, .slice none 0 0] 287)) (.cells #[.slice a L cap] 33);rw [World.size_alloc,World.size_alloc,World.size_alloc,hn0] at this;exact this
 have hB0:Below n0 w W0:=by
  rw [←hW0];exact ((((Below.refl _ w).alloc (by omega) _).alloc (by simp;omega) _).alloc (by simp;omega) _).alloc (by simp;omega) _
 rw [hW0];have hG0:Good M W0:=hM.below hn0.symm hB0
 refine wpIn_rangeFunc_ownF (w0:=W0) rfl (by omega) (gf:=274) (lb:=#[.pointer (some ⟨n0+1+1+1,0,none⟩)]) rfl trivial (enters_of func274 (by kernel_rfl) rfl)
  (tP (enc:=Qs) (n0+3) n0 (.slice a L cap) vs (by omega) W0 (by omega) (by omega) (aE hP0 rfl) (hI.below hB0)) GG (GN (by omega) (by omega)) (Below.refl _ _) (fun _=>rfl)
  (fun pre W=>Lib.IsBuilderF 287 5 (n0+2) (n0+2) (Lib.byteCells (tx L pre)) W∧Below (n0+2) W0 W∧n0+4≤W.heap.size∧W.heap[n0+3]? = some (.cells #[.slice a L cap] 33 (0,0)))
  (fun _ _ _=>False) ?own (fun _=>by intro s A B row hs;exact hs.elim) ?start
  (fun x=>{ tmps:=#[.agg #[.slice a L cap], .pointer (some ⟨n0,0,none⟩), .string ⟨#[]⟩, .pointer (some ⟨n0+1+1,0,none⟩), .int .i64 (x.1:Int), .int .u32 (x.2.1:Int),undef, .agg #[.slice a L cap], .bool false, .pointer (some ⟨n0,0,none⟩), .slice a L cap, .func (.func 274) #[] #[.pointer (some ⟨n0+1+1+1,0,none⟩)], .int .i64 (x.1:Int), .int .u32 (x.2.1:Int),undef,undef,undef,undef,undef,undef,undef,undef,undef,undef,undef,undef,undef,undef,undef,undef,undef],defers:=[] }) ?assign ?body ?done ?stop
 case own=>
  rintro s A A' row ⟨h1,h2,h3,h4⟩ hg hr;exact ⟨qS h1 fun j o ho hc=>cW hg (fun r e=>(hr r e).2) ho hc,h2.grown hg (by omega) (fun k e=>by have:=(hr k e).1;omega),Nat.le_trans h3 hg.size,cW hg (fun r e=>(hr r e).2) h4 rfl⟩
 case start=>
  exact ⟨Lib.IsBuilderF.of (.inl ⟨Nat.le_refl _,_,hT0,⟨rfl, .inl ⟨rfl,rfl⟩⟩,by simp [Value.ownBlock]⟩),Below.refl _ _,by omega,hP0⟩
 case assign=>
  intro l x W K hK
  gi_wp2
  exact hK
 case body=>
  rintro l pre x W ⟨h1,h2,h3,h4⟩ hlt;have hG:Good M W:=hM.below hn0.symm (hB0.trans (h2.mono (by omega)));have hA:W.heap[n0]? = some (.cells #[.slice a L cap] 35 (0,0)):=(h2.block n0 (by omega)).trans hA0;have cA:W.cell? ⟨n0,0,none⟩=some (.slice a L cap):=aE hA rfl;have hx:x.2.1<1000000000:=x.2.2;obtain ⟨c,hc9,hci,hz⟩:=nine hx;have hpl:=QF L pre;have htx1:(x.1:Int)<(L:Int)-1→tx L (pre ++ [x])=tx L pre++List.replicate c 48++dec x.2.1:=fun h=>by rw [Cf,if_pos (by omega),hz,List.append_assoc]
  have htx2:¬ (x.1:Int)<(L:Int)-1→tx L (pre ++ [x])=tx L pre++dec x.2.1:=fun h=>by rw [Cf,if_neg (by omega)]
  have h32:n0+2≤W.heap.size:=by omega
  rw [hL] at hlt
  obtain ⟨lA,lB,lC⟩:=lens (tx L pre) (dec x.2.1) c (by have:(dec x.2.1).length≤9:=iR (by omega) (by rw [show (10:Nat)^9=1000000000 by decide];exact hx)
                                                       exact this) hc9 (by omega)
  have hcell:Lib.byteCells (tx L pre)++Lib.strCells ⟨Array.replicate c 48⟩++Lib.strCells ⟨(dec x.2.1).toArray⟩=Lib.byteCells (tx L pre++List.replicate c 48++dec x.2.1):=by
   rw [Lib.strCells_eq,Lib.strCells_eq,Lib.byteCells_append,Lib.byteCells_append];simp
  have hcell2:Lib.byteCells (tx L pre)++Lib.strCells ⟨(dec x.2.1).toArray⟩=Lib.byteCells (tx L pre++dec x.2.1):=by
   rw [Lib.strCells_eq,Lib.byteCells_append]
  by_cases hc:(x.1:Int)<(L:Int)-1
  all_goals gi_wp2_with (refine ⟨trivial,?_⟩;gi_at_call 241;refine (CallsIn.inRound l (callsIn_wide.2 (Ng x.2.1 (by omega) _ M hG))).mono ?_;rintro e w1 ⟨rfl,hb1⟩;have cA1:w1.cell? ⟨n0,0,none⟩=some (.slice a L cap):=(hb1.cell (p:=⟨n0,0,none⟩) (show n0<W.heap.size by omega)).trans cA)
  ·rw [hci]
   gi_wp2_with (refine ⟨trivial,?_⟩;gi_at_call 243;refine (CallsIn.inRound l (callsIn_wide.2 (HX c hc9 _))).mono ?_;rintro e w2 ⟨rfl,hb2⟩)
   have b2:Lib.IsBuilderF 287 5 (n0+2) (n0+2) (Lib.byteCells (tx L pre)) w2:=qS (qS h1 fun j o ho _=>fS hb1 j o ho) fun j o ho _=>fS hb2 j o ho;have s2:n0+2≤w2.heap.size:=Nat.le_trans (Nat.le_trans h32 hb1.size) hb2.size;have q:CallsIn (Fence.wide.inRound l) 998 prog 242 #[.pointer (some ⟨n0+1+1,0,none⟩), .string ⟨Array.replicate c 48⟩] w2 fun e w'=>e = .returned (.tuple #[.int .i64 (⟨Array.replicate c 48⟩:ByteArray).size, .nilIface])∧(Lib.IsBuilderF 287 5 (n0+2) (n0+2) (Lib.byteCells (tx L pre)++Lib.strCells ⟨Array.replicate c 48⟩) w'∧Below (n0+2) w2 w'∧Lib.OthersKept 5 (some (n0+2)) w2 w'):=CallsIn.inRound l (callsIn_wide.2 (BW (n0+2) (n0+2) _ ⟨Array.replicate c 48⟩ w2 b2 lA s2))
   gi_wp2_with (refine ⟨trivial,?_⟩;gi_at_call 242;refine q.mono ?_;clear q;rintro e w3 ⟨rfl,b3,hl3,ho3⟩)
   have s3:n0+2≤w3.heap.size:=Nat.le_trans s2 hl3.size;have q:CallsIn (Fence.wide.inRound l) 998 prog 242 #[.pointer (some ⟨n0+1+1,0,none⟩), .string ⟨(dec x.2.1).toArray⟩] w3 fun e w'=>e = .returned (.tuple #[.int .i64 (⟨(dec x.2.1).toArray⟩:ByteArray).size, .nilIface])∧(Lib.IsBuilderF 287 5 (n0+2) (n0+2) ((Lib.byteCells (tx L pre)++Lib.strCells ⟨Array.replicate c 48⟩)++Lib.strCells ⟨(dec x.2.1).toArray⟩) w'∧Below (n0+2) w3 w'∧Lib.OthersKept 5 (some (n0+2)) w3 w'):=CallsIn.inRound l (callsIn_wide.2 (BW (n0+2) (n0+2) _ ⟨(dec x.2.1).toArray⟩ w3 b3 lB s3))
   gi_wp2_with (refine ⟨trivial,?_⟩;gi_at_call 242;refine q.mono ?_;clear q;rintro e w4 ⟨rfl,b4,hl4,ho4⟩)
   rw [hcell,←htx1 hc] at b4;exact Bt h2 h3 h4 ((((hb1.mono h32).trans (hb2.mono (Nat.le_trans h32 hb1.size))).trans hl3).trans hl4) (fun k o ho hk hu=>ho4 k o (ho3 k o (fS hb2 k o (fS hb1 k o ho)) hk hu) hk hu) h1 b4
  ·have b1:Lib.IsBuilderF 287 5 (n0+2) (n0+2) (Lib.byteCells (tx L pre)) w1:=qS h1 fun j o ho _=>fS hb1 j o ho;have s1:n0+2≤w1.heap.size:=Nat.le_trans h32 hb1.size;have q:CallsIn (Fence.wide.inRound l) 998 prog 242 #[.pointer (some ⟨n0+1+1,0,none⟩), .string ⟨(dec x.2.1).toArray⟩] w1 fun e w'=>e = .returned (.tuple #[.int .i64 (⟨(dec x.2.1).toArray⟩:ByteArray).size, .nilIface])∧(Lib.IsBuilderF 287 5 (n0+2) (n0+2) (Lib.byteCells (tx L pre)++Lib.strCells ⟨(dec x.2.1).toArray⟩) w'∧Below (n0+2) w1 w'∧Lib.OthersKept 5 (some (n0+2)) w1 w'):=CallsIn.inRound l (callsIn_wide.2 (BW (n0+2) (n0+2) _ ⟨(dec x.2.1).toArray⟩ w1 b1 lC s1))
   gi_wp2_with (refine ⟨trivial,?_⟩;gi_at_call 242;refine q.mono ?_;clear q;rintro e w4 ⟨rfl,b4,hl4,ho4⟩)
   rw [hcell2,←htx2 hc] at b4;exact Bt h2 h3 h4 ((hb1.mono h32).trans hl4) (fun k o ho hk hu=>ho4 k o (fS hb1 k o ho) hk hu) h1 b4
 case done=>
  rintro D ys W hD rfl ⟨h1,h2,h3,h4⟩ hK;have s1:n0+2≤W.heap.size:=by omega
  have hbW:Below n0 w W:=hB0.trans (h2.mono (by omega))
  gi_wp2_with (refine ⟨trivial,?_⟩;gi_at_call 244;refine (callsIn_wide.2 (Tryz.Builder_String_any_k (n0+2) (n0+2) _ W h1 s1)).mono ?_;rintro e w1 ⟨rfl,b1,hl1,ho1⟩)
  have hne:some D≠some (n0+2):=by intro e;cases e;omega
  have hK1:=ho1 D _ hK hne (by intro c fz h;cases h);refine ⟨by simp, .inl ⟨_,_,rfl,run_takeDeferred hK1,?_⟩⟩;rw [hn0];refine ⟨_,results_tmp rfl _ _ _,rfl,(hbW.trans (hl1.mono (by omega))).trans ?_⟩;exact belowK_b (w:=w) (by omega) w1 D _ _ (by omega) hK1 rfl rfl
 case stop=>
  rintro D c pre W hD _ h hK;exact h.elim
theorem Cq (n:Nat) (hn:(dg n).length≤1099511627776):aJ prog 178 [mT n] (.ret [bS (dec n)]):=by
 by_cases h0:n=0
 ·subst h0;refine ⟨bG (by kernel_rfl),fun M w vs hM hv=>?_⟩
  match vs,hv with
  | [v],hv=>
    obtain ⟨⟨us,rfl,hus⟩,_⟩:=hv
    match us,hus with
    | [u],hus=>
      obtain ⟨a,cap,rfl,hel⟩:=Kw hus.1;have hl:((dg 0).map (fun d:Nat=>(d:Int))).length=0:=by rw [sC.2 rfl];rfl
      rw [hl];refine ((callsIn_wide (n:=1001)).1 (FC a cap w)).mono ?_;rintro e w' ⟨rfl,hb⟩;exact ⟨hb,[.string ⟨#[48]⟩],rfl,⟨by rw [KE],rfl⟩,trivial⟩
    | [],hus=>exact hus.elim
    | _::_::_,hus=>exact hus.2.elim
  | [],hv=>exact hv.elim
  | _::_::_,hv=>exact hv.2.elim
 ·refine ⟨bG (by kernel_rfl),fun M w vs hM hv=>?_⟩
  match vs,hv with
  | [v],hv=>
    obtain ⟨⟨us,rfl,hus⟩,_⟩:=hv
    match us,hus with
    | [u],hus=>
      obtain ⟨ds,hds⟩:=Dd (gT n);have hdl:(dg n).length=ds.length:=by rw [←hds,List.length_map]
      obtain ⟨a,cap,rfl,hel⟩:=Kw hus.1;have hl:((dg n).map (fun d:Nat=>(d:Int))).length=ds.length:=by rw [List.length_map,hdl]
      rw [hl]
      have hI:NX Qs w.heap.size w (.slice a ds.length cap) ds:=by
       refine ⟨a,cap,rfl,?_⟩;rcases hel with h | ⟨b,off,rfl,hb,hc⟩
       ·left
        have:(dg n).length=0:=by rw [←List.length_map (f:=fun d:Nat=>(d:Int)),h];rfl
        exact List.eq_nil_of_length_eq_zero (by omega)
       ·refine .inr ⟨b,off,rfl,hb,fun j v hj=>hc j _ ?_⟩;rw [←hds,List.map_map,List.getElem?_map,hj];rfl
      have hne:ds.length≠0:=fun h=>h0 (sC.1 (List.eq_nil_of_length_eq_zero (by omega)))
      have hlast:∀ d,ds.getLast? = some d→d.1≠0:=fun d hd=>by
       refine CG (B:=1000000000) (by omega) n d.1 ?_;show (dg n).getLast? = _;rw [←hds,List.getLast?_map,hd];rfl
      have ht:=(KU ds hlast ds.length (by omega) (Nat.le_refl _)).2;rw [Nat.sub_self,List.drop_zero,hds,eL] at ht;have h1:=Kv a cap ds (by omega) hne w M hM.2 hI;rw [ht] at h1;refine ((callsIn_wide (n:=1001)).1 h1).mono ?_;rintro e w' ⟨rfl,hb⟩;exact ⟨hb,[.string ⟨(dec n).toArray⟩],rfl,⟨rfl,rfl⟩,trivial⟩
    | [],hus=>exact hus.elim
    | _::_::_,hus=>exact hus.2.elim
  | [],hv=>exact hv.elim
  | _::_::_,hv=>exact hv.2.elim
end Go.Sy
namespace Go.Sy
open Go Go.Proofs Go.RowKit Go.Shelf Tryz Ord
attribute [local go_sem] Oper.semAt_some
def Sc:Tr:=aU 36 [(G3 0),(G3 2)] [(some 3)] [6,7] [39,39] 39 false (aU 64 [(G3 3),(G3 1)] [(some 3)] [8,9] [39,39] 39 true (.ret [(G3 4)]))
theorem HV:aO prog f246 (fun _=>none) [.v (some 3), .v (some 3), .ref 3]=Sc:=by kernel_rfl
def gZ (ps:List Rat) (c:Rat):Rat:=ps.foldr (fun a v=>v*c+a) 0
theorem Hp (v c x:Rat) (A B C:Nat) (hv:Fit A v) (hc:Fit B c) (hx:Fit C x) (hA:A+B+C≤4294967296):aJ prog 246 [(qT v:aH),(qT c:aH),(.one (.bM (qC x)):aH)] (.ret [qT (v*x+c)]):=by
 refine aD (args:=[.v (some 3), .v (some 3), .ref 3]) (ins:=[.v (qT v), .v (qT c), .ref (qC x)]) (hints:=(fun _=>none)) fo (by kernel_rfl) func246 ⟨rfl,rfl,rfl,trivial⟩ ?_;rw [HV];dsimp only [List.map,In.env,aA,aB];refine aC (eW v x A C hv hx (by omega)) rfl ?_;dsimp only [aA,aB];refine aC (oB (v*x) c _ B (hv.mul hx) hc (by omega)) rfl ?_;exact aP rfl
section
variable (M:Nat→Prop) (w:World) (B:Nat)
structure QV where
 q:Rat
 u0:Value
 u1:Value
 u2:Value
 fit:Fit B q
 rep:aL M w (qC q) [u0,u1,u2]
end
theorem LX (M:Nat→Prop) (w:World) (B:Nat) (hB:1≤B):Nonempty (QV M w B):=
 ⟨⟨0, .slice none 0 0, .bool false, .slice none 0 0,Fit.zero hB,aL.sub gW ⟨⟨rfl,rfl⟩,⟨rfl,rfl⟩,⟨rfl,rfl⟩,trivial⟩⟩⟩
def hv {M:Nat→Prop} {w:World} {B:Nat} (x:Rat) (pre:List (Nat×QV M w B)):Rat:=pre.foldl (fun v c=>v*x+c.2.q) 0
theorem fG {P:Program} {W:World} {b T j:Nat} {cs:Array Value} {u:Value} (h:W.heap[b]? = some (.cells cs T (0,0))) (hj:j<cs.size) (o:u.oneCell'=true) :
  (store ⟨b,j,none⟩ u).run P W = .ok () (W.setRow b (cs.setIfInBounds j u)):=by
 have hcell:W.cell? ⟨b,j,none⟩=some cs[j]:=by simp [World.cell?,h,hj]
 have hfro:W.frozen? ⟨b,j,none⟩=false:=by simp [World.frozen?,h]
 rw [run_store P W _ u _ o,hcell];simp [hfro,setCell_eq_setRow W b j cs T (0,0) u h]
theorem rZ {P:Program} {W:World} {b T:Nat} {c0 c1 c2 u0 u1 u2:Value} (h:W.heap[b]? = some (.cells #[c0,c1,c2] T (0,0))) (o0:u0.oneCell'=true) (o1:u1.oneCell'=true) (o2:u2.oneCell'=true) :
  (((store ⟨b,0,none⟩ u0).run P W).andThen fun _ w'=>((store ⟨b,1,none⟩ u1).run P w').andThen fun _ w'=>(store ⟨b,2,none⟩ u2).run P w') = .ok () (W.setRow b #[u0,u1,u2]):=by
 rw [fG h (by simp) o0,Result.andThen_ok,fG (setRow_heap W b _ _ T (0,0) h) (by simp) o1,Result.andThen_ok,setRow_setRow,fG (setRow_heap W b _ _ T (0,0) h) (by simp) o2,setRow_setRow];rfl
theorem below_setRow {n:Nat} {A W:World} {g:Nat} (h:Below n A W) (hg:n≤g) (cs:Array Value):Below n A (W.setRow g cs):=
 ⟨h.os,h.tape,h.output,by simpa [World.setRow] using h.size,fun k hk=>by
  rw [setRow_other W g k cs (by omega)];exact h.block k hk⟩
theorem LU {M:Nat→Prop} {w:World} {B:Nat} (x:Rat) (pre:List (Nat×QV M w B)) (y:Nat×QV M w B):hv x (pre ++ [y])=hv x pre*x+y.2.q:=by simp [hv]
theorem KL {M:Nat→Prop} {w:World} {B C:Nat} {x:Rat} (hx:Fit C x):∀ (pre:List (Nat×QV M w B)) (v:Rat) (A:Nat),Fit A v→Fit (pre.length*(B+C+1)+A) (pre.foldl (fun v c=>v*x+c.2.q) v)
 | [],v,A,h=>by simpa using h
 | y::ys,v,A,h=>by
   have:=KL hx ys (v*x+y.2.q) _ ((h.mul hx).add y.2.fit);refine this.mono ?_;rw [List.length_cons,Nat.add_mul];omega
theorem Vk {M:Nat→Prop} {w:World} {q:Rat} {vs:List Value} (h:bV M w [qT q] vs):∃ v0 v1 v2,pack vs = .agg #[v0,v1,v2]∧aL M w (qC q) [v0,v1,v2]:=by
 match vs,h with
 | [v],h=>
   obtain ⟨⟨us,rfl,hus⟩,_⟩:=h
   match us,hus with
   | [a,b,c],hus=>exact ⟨a,b,c,rfl,hus⟩
   | [],hus=>exact hus.elim
   | [_],hus=>exact hus.2.elim
   | [_,_],hus=>exact hus.2.2.elim
   | _::_::_::_::_,hus=>exact hus.2.2.2.elim
 | [],h=>exact h.elim
 | _::_::_,h=>exact h.2.elim
set_option maxRecDepth 100000 in
set_option maxHeartbeats 2000000 in
theorem HH (M:Nat→Prop) (w:World) (B C:Nat) (x:Rat) (hx:Fit C x) (hM:cM M w) (hB:1≤B) [Inhabited (QV M w B)] (a:Option Addr) (cap:Nat) (ts:List (QV M w B)) (hlen:ts.length<4611686018427387904) (hbig:ts.length*(B+C+1)+B+C+1≤4294967296)
  (hI:Of QV.u0 QV.u1 QV.u2 w.heap.size w (.slice a ts.length cap) ts) (z0 z1 z2:Value) (hz:aL M w (qC 0) [z0,z1,z2]) (xp:Value) (hxp:(aF.bM (qC x)).rep M w xp) :
  CallsIn Fence.wide 1001 prog 245 #[.slice a ts.length cap, .agg #[z0,z1,z2], .func (.func 246) #[] #[xp]] w fun e W'=>Below w.heap.size w W'∧∃ u0 u1 u2,e = .returned (.agg #[u0,u1,u2])∧aL M W' (qC (hv x (bk ts ts.length))) [u0,u1,u2]:=by
 refine callsIn_of_wp_marks func245 rfl trivial ?_ rfl;simp only [ntmps245,List.size_toArray,List.length_cons,List.length_nil,Nat.reduceAdd,Nat.reduceSub,Array.replicate_succ,Array.replicate_zero,List.push_toArray,List.append_toArray,List.nil_append,List.cons_append];generalize hL:ts.length=L at hI hlen hbig ⊢
 gi_wp2_with (refine ⟨trivial,?_⟩;gi_at_call 248;refine (EB _ _ _ _ _).mono ?_;rintro e w' ⟨rfl,rfl⟩)
 obtain ⟨n0,hn0⟩:∃ n0,w.heap.size=n0:=⟨_,rfl⟩
 obtain ⟨hM,hMg⟩:=hM;rw [hn0] at hI hM ⊢;obtain ⟨W0,hW0⟩:∃ W0,((((w.alloc (.cells #[z0,z1,z2] 39)).alloc (.cells #[.func (.func 246) #[] #[xp]] 224)).alloc (.cells #[.slice none 0 0, .bool false, .slice none 0 0] 39)).alloc (.cells #[.slice a L cap] 72))=W0:=⟨_,rfl⟩
 have hs0:W0.heap.size=n0+4:=by rw [←hW0];simp [hn0]
 have hX0:W0.heap[n0]? = some (.cells #[z0,z1,z2] 39 (0,0)):=by rw [←hW0,heap_alloc_old _ _ _ (by simp;omega),heap_alloc_old _ _ _ (by simp;omega),heap_alloc_old _ _ _ (by simp;omega),←hn0];exact heap_alloc_new w _
 have hS0:W0.heap[n0+1]? = some (.cells #[.func (.func 246) #[] #[xp]] 224 (0,0)):=by
  rw [←hW0,heap_alloc_old _ _ _ (by simp;omega),heap_alloc_old _ _ _ (by simp;omega)];have:=heap_alloc_new (w.alloc (.cells #[z0,z1,z2] 39)) (.cells #[.func (.func 246) #[] #[xp]] 224);rw [World.size_alloc,hn0] at this;exact this
 have hR0:W0.heap[n0+2]? = some (.cells #[.slice none 0 0, .bool false, .slice none 0 0] 39 (0,0)):=by
  rw [←hW0,heap_alloc_old _ _ _ (by simp;omega)];have:=heap_alloc_new ((w.alloc (.cells #[z0,z1,z2] 39)).alloc (.cells #[.func (.func 246) #[] #[xp]] 224)) (.cells #[.slice none 0 0, .bool false, .slice none 0 0] 39);rw [World.size_alloc,World.size_alloc,hn0] at this;exact this
 have hP0:W0.heap[n0+3]? = some (.cells #[.slice a L cap] 72 (0,0)):=by
  rw [←hW0];have:=heap_alloc_new (((w.alloc (.cells #[z0,z1,z2] 39)).alloc (.cells #[.func (.func 246) #[] #[xp]] 224)).alloc (.cells #[.slice none 0 0, .bool false, .slice none 0 0] 39)) (.cells #[.slice a L cap] 72);rw [World.size_alloc,World.size_alloc,World.size_alloc,hn0] at this;exact this
 have hB0:Below n0 w W0:=by
  rw [←hW0];exact ((((Below.refl _ w).alloc (by omega) _).alloc (by simp;omega) _).alloc (by simp;omega) _).alloc (by simp;omega) _
 rw [hW0]
 refine wpIn_rangeFunc_ownH (w0:=W0) rfl (by omega) (gf:=281) (lb:=#[.pointer (some ⟨n0+1+1+1,0,none⟩)]) rfl trivial (enters_of func281 (by kernel_rfl) rfl)
  (tU (e0:=QV.u0) (e1:=QV.u1) (e2:=QV.u2) (n0+3) n0 (.slice a L cap) ts (by omega) W0 (by omega) (by omega) (aE hP0 rfl) (hI.below hB0)) GG (GN (by omega) (by omega)) (Below.refl _ _) (fun _=>rfl)
  (fun pre W=>Below n0 w W∧n0+4≤W.heap.size∧W.heap[n0+1]? = some (.cells #[.func (.func 246) #[] #[xp]] 224 (0,0))∧W.heap[n0+2]? = some (.cells #[.slice none 0 0, .bool false, .slice none 0 0] 39 (0,0)) ∧
   ∃ u0 u1 u2,W.heap[n0]? = some (.cells #[u0,u1,u2] 39 (0,0))∧aL (fun b=>M b∨b=n0∨b=n0+2) W (qC (hv x pre)) [u0,u1,u2])
  (fun _ _ _=>False) ?own (fun _=>by intro s A B row hs;exact hs.elim) ?start
  (fun y a' W=>∃ b,n0+4≤b∧a' = { tmps:=#[.slice a L cap, .agg #[z0,z1,z2], .func (.func 246) #[] #[xp],undef, .pointer (some ⟨n0,0,none⟩), .pointer (some ⟨n0+1,0,none⟩), .pointer (some ⟨n0+1+1,0,none⟩),undef, .pointer (some ⟨b,0,none⟩), .slice a L cap, .func (.func 281) #[] #[.pointer (some ⟨n0+1+1+1,0,none⟩)], .int .i64 (y.1:Int), .agg #[y.2.u0,y.2.u1,y.2.u2],undef,undef,undef,undef,undef],defers:=[] } ∧ W.heap[b]? = some (.cells #[y.2.u0,y.2.u1,y.2.u2] 39 (0,0)))
  ?ax ?assign ?body ?done ?stop
 case own=>
  rintro s A A' row ⟨h1,h2,h3,h4,u0,u1,u2,h5,h6⟩ hg hr;have hr':∀ r,row=some r→∃ o:Obj,A.heap[r]? = some o∧o.isCells=false:=fun r e=>(hr r e).2;refine ⟨h1.grown hg (by omega) (fun k e=>by have:=(hr k e).1;omega),Nat.le_trans h2 hg.size,cW hg hr' h3 rfl,cW hg hr' h4 rfl,u0,u1,u2,cW hg hr' h5 rfl,h6.mono fun b o hb ho hc=>⟨hb,cW hg hr' ho hc⟩⟩
 case start=>
  refine ⟨hB0,by omega,hS0,hR0,z0,z1,z2,hX0,hz.mono fun b o hb ho hc=>?_⟩;have hlt:=(Array.getElem?_eq_some_iff.1 ho).1;exact ⟨fun h=>h.elim hb (by omega),(hB0.block b (by omega)).trans ho⟩
 case ax=>
  rintro y a' _ A A' row ⟨b,h1,h2,h3⟩ hg hr;exact ⟨b,h1,h2,cW hg (fun r e=>(hr r e).2) h3 rfl⟩
 case assign=>
  rintro l pre y W K ⟨h1,h2,h3,h4,u0,u1,u2,h5,h6⟩ hK
  gi_wp2
  obtain ⟨o0,o1,o2⟩:y.2.u0.oneCell'=true∧y.2.u1.oneCell'=true∧y.2.u2.oneCell'=true:=by
   have:=y.2.rep.one;exact ⟨this _ (by simp),this _ (by simp),this _ (by simp)⟩
  have hnew:=heap_alloc_new W (.cells #[.slice none 0 0, .bool false, .slice none 0 0] 39);rw [rZ hnew o0 o1 o2];obtain ⟨W',hW'⟩:∃ W',(W.alloc (.cells #[.slice none 0 0, .bool false, .slice none 0 0] 39)).setRow W.heap.size #[y.2.u0,y.2.u1,y.2.u2]=W':=⟨_,rfl⟩
  have hold:∀ k,k<W.heap.size→W'.heap[k]? = W.heap[k]?:=fun k hk=>by rw [←hW',setRow_other _ _ _ _ (by omega),heap_alloc_old _ _ _ hk]
  have hself:W'.heap[W.heap.size]? = some (.cells #[y.2.u0,y.2.u1,y.2.u2] 39 (0,0)):=by rw [←hW'];exact setRow_heap _ _ _ _ _ _ hnew
  have hbel:Below W.heap.size W W':=by rw [←hW'];exact below_setRow ((Below.refl _ W).alloc (Nat.le_refl _) _) (Nat.le_refl _) _
  have hlt:∀ {k:Nat} {o:Obj},W.heap[k]? = some o→k<W.heap.size:=fun h=>(Array.getElem?_eq_some_iff.1 h).1;rw [hW']
  gi_wp2
  refine hK _ _ ⟨hbel.size,fun k o _ ho _=>(hold k (hlt ho)).trans ho⟩ ⟨hbel.mono (by omega),fun v hv=>?_⟩
   ⟨h1.trans (hbel.mono (by omega)),Nat.le_trans h2 hbel.size,(hold _ (hlt h3)).trans h3,(hold _ (hlt h4)).trans h4,u0,u1,u2,(hold _ (hlt h5)).trans h5,h6.mono fun b o hb ho _=>⟨hb,(hold b (hlt ho)).trans ho⟩⟩
   ⟨W.heap.size,by omega,rfl,hself⟩
  simp only [World.cell?,hold (n0+3) (by omega)] at hv ⊢;exact hv
 case body=>
  rintro l pre y a' W hl _ ⟨h1,h2,h3,h4,u0,u1,u2,h5,h6⟩ ⟨b,hb,rfl,hbc⟩ hlt;have hltW:∀ {k:Nat} {o:Obj},W.heap[k]? = some o→k<W.heap.size:=fun h=>(Array.getElem?_eq_some_iff.1 h).1;have c0:W.cell? ⟨n0,0,none⟩=some u0:=aE h5 rfl;have c1:W.cell? ⟨n0,1,none⟩=some u1:=aE h5 rfl;have c2:W.cell? ⟨n0,2,none⟩=some u2:=aE h5 rfl;have cs:W.cell? ⟨n0+1,0,none⟩=some (.func (.func 246) #[] #[xp]):=aE h3 rfl;have cb0:W.cell? ⟨b,0,none⟩=some y.2.u0:=aE hbc rfl;have cb1:W.cell? ⟨b,1,none⟩=some y.2.u1:=aE hbc rfl;have cb2:W.cell? ⟨b,2,none⟩=some y.2.u2:=aE hbc rfl;have hM1:∀ k,(M k∨k=n0∨k=n0+2)→k<W.heap.size:=fun k h=>h.elim (fun h=>by have:=hM k h;omega) (fun h=>by omega)
  have hkeep:bF M w (fun b=>M b∨b=n0∨b=n0+2) W:=fun k o hk ho _=>by
   have hlt:=(Array.getElem?_eq_some_iff.1 ho).1;exact ⟨fun h=>h.elim hk (by omega),(h1.block k (by omega)).trans ho⟩
  have hfit:Fit (pre.length*(B+C+1)+1) (hv x pre):=KL hx pre 0 1 (Fit.zero (Nat.le_refl 1))
  have hbound:pre.length*(B+C+1)+1+B+C≤4294967296:=by
   rw [hL] at hlt;have:=Nat.mul_le_mul_right (B+C+1) (Nat.le_of_lt hlt);omega
  have hcall:Calls prog 246 #[.agg #[u0,u1,u2], .agg #[y.2.u0,y.2.u1,y.2.u2],xp] W fun e w'=>Below W.heap.size W w'∧∃ v0 v1 v2,e = .returned (.agg #[v0,v1,v2])∧aL (fun b=>M b∨b=n0∨b=n0+2) w' (qC (hv x (pre ++ [y]))) [v0,v1,v2]:=by
   refine ((Hp (hv x pre) y.2.q x _ _ _ hfit y.2.fit hx hbound).2 (fun b=>M b∨b=n0∨b=n0+2) W [.agg #[u0,u1,u2], .agg #[y.2.u0,y.2.u1,y.2.u2],xp] ⟨hM1,hMg.gS hkeep⟩ ⟨⟨[u0,u1,u2],rfl,h6⟩,⟨[_,_,_],rfl,y.2.rep.mono hkeep⟩,aF.mono _ hkeep hxp,trivial⟩).mono ?_;rintro e w' ⟨hb',vs,rfl,hvs⟩;rw [LU];obtain ⟨v0,v1,v2,e1,hr⟩:=Vk hvs;exact ⟨hb',v0,v1,v2,by rw [e1],hr⟩
  gi_wp2_with (refine ⟨trivial,?_⟩;gi_at_call 246;refine (CallsIn.inRound l (callsIn_wide.2 hcall)).mono ?_;rintro e w' ⟨hbw,v0,v1,v2,rfl,hvr⟩)
  have hone:=hvr.one;have hbox:w'.heap[n0]? = some (.cells #[u0,u1,u2] 39 (0,0)):=(hbw.block n0 (hltW h5)).trans h5;rw [rZ hbox (hone _ (by simp)) (hone _ (by simp)) (hone _ (by simp))];obtain ⟨W3,hW3⟩:∃ W3,w'.setRow n0 #[v0,v1,v2]=W3:=⟨_,rfl⟩
  have hself:W3.heap[n0]? = some (.cells #[v0,v1,v2] 39 (0,0)):=by rw [←hW3];exact setRow_heap _ _ _ _ _ _ hbox
  have hoth:∀ k,k≠n0→W3.heap[k]? = w'.heap[k]?:=fun k hk=>by rw [←hW3,setRow_other _ _ _ _ hk]
  have hold:∀ {k:Nat} {o:Obj},k≠n0→W.heap[k]? = some o→W3.heap[k]? = some o:=fun hk ho=>(hoth _ hk).trans ((hbw.block _ (hltW ho)).trans ho);have hbel:Below n0 W W3:=by rw [←hW3];exact below_setRow (hbw.mono (by omega)) (Nat.le_refl _) _
  rw [hW3]
  gi_wp2
  refine ⟨⟨hbel.size,fun k o hk ho _=>hold (by omega) ho⟩,⟨hbel,fun v hv=>?_⟩,h1.trans hbel,Nat.le_trans h2 hbel.size,hold (by omega) h3,hold (by omega) h4,v0,v1,v2,hself,hvr.mono fun k o hk ho _=>⟨hk,(hoth k fun e=>hk (.inr (.inl e))).trans ho⟩⟩;simp only [World.cell?,hoth (n0+3) (by omega),hbw.block (n0+3) (by omega)] at hv ⊢;exact hv
 case done=>
  rintro D ys W hD rfl ⟨h1,h2,h3,h4,u0,u1,u2,h5,h6⟩ hK;have c0:W.cell? ⟨n0,0,none⟩=some u0:=aE h5 rfl;have c1:W.cell? ⟨n0,1,none⟩=some u1:=aE h5 rfl;have c2:W.cell? ⟨n0,2,none⟩=some u2:=aE h5 rfl;have hone:=h6.one
  gi_wp2
  rw [rZ h4 (hone _ (by simp)) (hone _ (by simp)) (hone _ (by simp))]
  gi_wp2
  obtain ⟨W3,hW3⟩:∃ W3,W.setRow (n0+2) #[u0,u1,u2]=W3:=⟨_,rfl⟩
  have hself:W3.heap[n0+2]? = some (.cells #[u0,u1,u2] 39 (0,0)):=by rw [←hW3];exact setRow_heap _ _ _ _ _ _ h4
  have hoth:∀ k,k≠n0+2→W3.heap[k]? = W.heap[k]?:=fun k hk=>by rw [←hW3,setRow_other _ _ _ _ hk]
  have hK3:W3.heap[D]? = some (.deferred (some [])):=(hoth D (by omega)).trans hK;have hbel:Below n0 W W3:=by rw [←hW3];exact below_setRow (Below.refl _ W) (by omega) _
  rw [hW3];obtain ⟨W4,hW4⟩:∃ W4,W3.putObj D (.deferred none)=W4:=⟨_,rfl⟩
  have hoth4:∀ k,k≠D→W4.heap[k]? = W3.heap[k]?:=fun k hk=>by rw [←hW4];exact World.putObj_heap_other (by omega)
  have hself4:W4.heap[n0+2]? = some (.cells #[u0,u1,u2] 39 (0,0)):=(hoth4 _ (by omega)).trans hself;have d0:W4.cell? ⟨n0+2,0,none⟩=some u0:=aE hself4 rfl;have d1:W4.cell? ⟨n0+2,1,none⟩=some u1:=aE hself4 rfl;have d2:W4.cell? ⟨n0+2,2,none⟩=some u2:=aE hself4 rfl;refine ⟨by simp, .inl ⟨_,_,rfl,run_takeDeferred hK3,?_⟩⟩;rw [hW4];refine ⟨.agg #[u0,u1,u2],?_,?_,u0,u1,u2,rfl,by rw [←hL];exact h6.mono fun k o hk ho hc=>⟨fun h=>hk (.inl h),(hoth4 k (by rintro rfl;rw [hK] at ho;cases ho;cases hc)).trans ((hoth k (by rintro rfl;exact hk (.inr (.inr rfl)))).trans ho)⟩⟩
  ·refine oN _ _ [_] ?_;simp [show f245.results = #[.cell 6 39] from rfl,nM,go_sem,d0,d1,d2]
  ·rw [←hn0] at h1 hbel;exact (h1.trans hbel).trans (by rw [←hW4];exact belowK_b (w:=w) (Nat.le_refl _) W3 D _ _ (by omega) hK3 rfl rfl)
 case stop=>
  rintro D c pre W hD _ h hK;exact h.elim
theorem oD {α:Type} (P:Nat→α→Prop):∀ n,(∀ i,i<n→∃ x,P i x)→∃ ts:List α,ts.length=n∧∀ (i:Nat) x,ts[i]? = some x→P i x
 | 0,_=>⟨[],rfl,fun i x h=>by simp at h⟩
 | n+1,h=>by
   obtain ⟨ts,h1,h2⟩:=oD P n fun i hi=>h i (by omega);obtain ⟨x,hx⟩:=h n (by omega);refine ⟨ts ++ [x],by simp [h1],fun i y hy=>?_⟩;rcases Nat.lt_or_ge i n with hi | hi
   ·rw [List.getElem?_append_left (by omega)] at hy;exact h2 i y hy
   ·rw [List.getElem?_append_right (by omega)] at hy
    have hin:i-ts.length=0:=by
     have:=(List.getElem?_eq_some_iff.1 hy).1;simp at this;omega
    rw [hin] at hy;simp only [List.getElem?_cons_zero,Option.some.injEq] at hy;subst hy;obtain rfl:i=n:=by omega
    exact hx
theorem PR {M:Nat→Prop} {w:World} {B:Nat} {v:Value} {ps:List Rat} (h:(sQ ps).rep M w v) (hp:∀ q∈ps,Fit B q) :
  ∃ (ts:List (QV M w B)) (a:Option Addr) (cap:Nat),v = .slice a ts.length cap∧ts.map QV.q=ps∧Of QV.u0 QV.u1 QV.u2 w.heap.size w v ts:=by
 obtain ⟨a,cap,rfl,hc,hm,hel⟩:=h;have hlen:(rQ ps).length=ps.length:=List.length_map _;rcases hel with h | ⟨b,off,cs,T,fz,rfl,hb,hh,hr⟩
 ·have:ps = []:=by cases ps<;>simp_all [rQ]
  subst this;exact ⟨[],a,cap,rfl,rfl,a,cap,rfl, .inl rfl⟩
 ·obtain ⟨ts,h1,h2⟩:=oD (fun i (x:QV M w B)=>ps[i]? = some x.q∧w.cell? ⟨b,off+i*3,none⟩=some x.u0∧w.cell? ⟨b,off+i*3+1,none⟩=some x.u1∧w.cell? ⟨b,off+i*3+2,none⟩=some x.u2) ps.length fun i hi=>by
   obtain ⟨q,hq⟩:∃ q,ps[i]? = some q:=⟨_,List.getElem?_eq_getElem hi⟩
   obtain ⟨_,hrep⟩:=hr i (qC q) (by rw [rQ,List.getElem?_map,hq];rfl)
   have hat:∀ j,j<3→((cs.toList.drop (off+i*3)).take 3)[j]? = cs[off+i*3+j]?:=fun j hj=>by
    rw [List.getElem?_take,if_pos hj,List.getElem?_drop];simp
   have hl:=hrep.length;generalize hus:(cs.toList.drop (off+i*3)).take 3=us at hrep hl hat
   match us,hrep with
   | [x0,x1,x2],hrep=>
     refine ⟨⟨q,x0,x1,x2,hp q (List.mem_of_getElem? hq),hrep⟩,hq,?_,?_,?_⟩
     ·have h0:=hat 0 (by omega);rw [Nat.add_zero] at h0;exact aE hh (by rw [←h0];rfl)
     ·exact aE hh (by rw [←hat 1 (by omega)];rfl)
     ·exact aE hh (by rw [←hat 2 (by omega)];rfl)
   | [],hrep=>exact hrep.elim
   | [_],hrep=>exact hrep.2.elim
   | [_,_],hrep=>exact hrep.2.2.elim
   | _::_::_::_::_,hrep=>exact hrep.2.2.2.elim
  refine ⟨ts,_,cap,by rw [hlen,h1],?_,_,cap,by rw [hlen,h1], .inr ⟨b,off,rfl,(Array.getElem?_eq_some_iff.1 hh).1,fun j v hj=>(h2 j v hj).2⟩⟩;refine List.ext_getElem? fun i=>?_;rw [List.getElem?_map];cases hi:ts[i]? with
  | none=>
    have:=List.getElem?_eq_none_iff.1 hi;rw [List.getElem?_eq_none_iff.2 (by omega)];rfl
  | some x=>rw [(h2 i x hi).1];rfl
theorem IZ {α:Type} [Inhabited α] (vs:List α):(bk vs vs.length).map Prod.snd=vs.reverse:=by
 refine List.ext_getElem? fun i=>?_;rw [bk,List.map_map,List.getElem?_map];rcases Nat.lt_or_ge i vs.length with h | h
 ·rw [List.getElem?_range h,List.getElem?_reverse h];have h':vs.length-1-i<vs.length:=by omega
  simp [List.getElem?_eq_getElem h']
 ·rw [List.getElem?_eq_none_iff.2 (by simpa using h),List.getElem?_eq_none_iff.2 (by simpa using h)];rfl
theorem SP {M:Nat→Prop} {w:World} {B:Nat} [Inhabited (QV M w B)] (x:Rat) (ts:List (QV M w B)):hv x (bk ts ts.length)=gZ (ts.map QV.q) x:=by
 have h:hv x (bk ts ts.length)=((bk ts ts.length).map Prod.snd).foldl (fun v c=>v*x+c.q) 0:=by rw [hv,List.foldl_map]
 rw [h,IZ,List.foldl_reverse,gZ,List.foldr_map]
theorem EZ (ps:List Rat) (x:Rat) (B C:Nat) (hB:1≤B) (hp:∀ q∈ps,Fit B q) (hx:Fit C x) (hl:ps.length*(B+C+1)+B+C+1≤4294967296) :
  aJ prog 245 [.one (sQ ps),qT 0, .one (.dK 246 [.bM (qC x)])] (.ret [qT (gZ ps x)]):=by
 refine ⟨bG (by kernel_rfl),fun M w vs hM hv=>?_⟩
 match vs,hv with
 | [v0,v1,v2],⟨k0,⟨us,k1,hus⟩,⟨fs,k2,hfs⟩,_⟩=>
   obtain ⟨ts,a,cap,rfl,hq,hsl⟩:=PR k0 hp;obtain ⟨iq⟩:=LX M w B hB
   haveI:Inhabited (QV M w B):=⟨iq⟩
   subst k1 k2
   match us,hus,fs,hfs with
   | [z0,z1,z2],hus,[xp],hfs=>
     have hlen:ps.length=ts.length:=by rw [←hq,List.length_map]
     rw [hlen] at hl;have h1:=HH M w B C x hx hM hB a cap ts (by have:=Nat.le_mul_of_pos_right ts.length (show 0<B+C+1 by omega);omega) hl hsl z0 z1 z2 hus xp hfs.1;rw [SP,hq] at h1;refine ((callsIn_wide (n:=1001)).1 h1).mono ?_;rintro e w' ⟨hb,u0,u1,u2,rfl,hr⟩;exact ⟨hb,[.agg #[u0,u1,u2]],rfl,⟨[u0,u1,u2],rfl,hr⟩,trivial⟩
   | [],hus,_,_=>exact hus.elim
   | [_],hus,_,_=>exact hus.2.elim
   | [_,_],hus,_,_=>exact hus.2.2.elim
   | _::_::_::_::_,hus,_,_=>exact hus.2.2.2.elim
   | [_,_,_],_,[],hfs=>exact hfs.elim
   | [_,_,_],_,_::_::_,hfs=>exact hfs.2.elim
 | [],hv=>exact hv.elim
 | [_],hv=>exact hv.2.elim
 | [_,_],hv=>exact hv.2.2.elim
 | _::_::_::_::_,hv=>exact hv.2.2.2.elim
def SZ:Tr:=aU 245 [(W 0 0),(.agg [tN,(tE (.bool false)),tN]),(.one (.dK 246 [(.ref 0 [(.u 1 0),(.u 1 1),(.u 1 2)])]))] [(some 3)] [5,6,7] [72,39,224] 39 true (.ret [(G3 2)])
theorem Mt:aO prog f181 (fun _=>none) [.v none, .v (some 3)]=SZ:=by kernel_rfl
theorem MP (ps:List Rat) (c:Rat) (B:Nat) (hB:1≤B) (hp:∀ q∈ps,Fit B q) (hc:Fit B c) (hl:ps.length*(2*B+2)+2*B+2≤4294967296):aJ prog 181 [(.one (sQ ps):aH),(qT c:aH)] (.ret [qT (gZ ps c)]):=by
 refine aD (args:=[.v none, .v (some 3)]) (ins:=[.v (.one (sQ ps)), .v (qT c)]) (hints:=(fun _=>none)) fo (by kernel_rfl) func181 ⟨rfl,rfl,trivial⟩ ?_;rw [Mt];dsimp only [List.map,In.env,aA,aB];have hl2:ps.length*(B+B+1)≤ps.length*(2*B+2):=Nat.mul_le_mul_left _ (by omega);refine vM (show aN [.one (sQ ps), .agg [.exact (.slice none 0 0), .bool false, .exact (.slice none 0 0)], .one (.dK 246 [.bM (qC c)])] [.one (sQ ps),qT 0, .one (.dK 246 [.bM (qC c)])] from ⟨aH.Sub.same,gW,aH.Sub.same,trivial⟩) (EZ ps c B B hB hp hc (by omega)) rfl ?_;exact aP rfl
end Go.Sy
namespace Go.Sy
open Go Go.Proofs Tryz Ord
theorem LI {n H:Nat} (h:n<2^H):(dg n).length≤H:=wZ (Nat.lt_of_lt_of_le h (Nat.pow_le_pow_left (by omega) H))
theorem CH (q:Rat) (H:Nat) (hf:Fit H q) (hH:H≤34359738360):aJ prog 90 [(qT q:aH)] (.ret [bS (Kg q)]):=by
 refine aD (args:=[.v (some 3)]) (ins:=[.v (qT q)]) (hints:=(fun _=>none)) fo (by kernel_rfl) func90 ⟨rfl,trivial⟩ ?_;rw [MD];dsimp only [List.map,In.env,aA,aB];have hd:=LI hf.2;have hn:=LI hf.1;have hp:=q.den_pos;have ln:=tJ hf.1;have ld:=tJ hf.2;rw [show Kg q=((if q.num<0 then [45] else [])++dec q.num.natAbs)++if q.den=1 then [] else [47]++dec q.den from rfl];refine aC (Cq q.num.natAbs (by omega)) rfl ?_;dsimp only [aA,aB];refine vs _ rfl (fun h1=>?_) (fun h1=>?_)
 ·refine vn (xB (a:=[45]) (by simp only [List.length_cons,List.length_nil];omega)) rfl ?_;dsimp only [aA,aB];refine aC (vN (q.den-1)) rfl ?_;dsimp only [aA,aB];refine vn Df rfl ?_;dsimp only [aA,aB];refine vs _ rfl (fun h5=>?_) (fun h5=>?_)
  ·refine aC (eC q (by omega)) rfl ?_;dsimp only [aA,aB];refine aC (Cq q.den (by omega)) rfl ?_;dsimp only [aA,aB];refine vn (xB (a:=[47]) (by simp only [List.length_cons,List.length_nil];omega)) rfl ?_;dsimp only [aA,aB];refine vn (xB (by simp only [List.length_append,List.length_cons,List.length_nil];omega)) rfl ?_;dsimp only [aA,aB];rw [if_pos h1,if_neg (by omega)];exact aP rfl
  rw [if_pos h1,if_pos (by omega),List.append_nil];exact aP rfl
 refine aC (vN (q.den-1)) rfl ?_;dsimp only [aA,aB];refine vn Df rfl ?_;dsimp only [aA,aB];refine vs _ rfl (fun h14=>?_) (fun h14=>?_)
 ·refine aC (eC q (by omega)) rfl ?_;dsimp only [aA,aB];refine aC (Cq q.den (by omega)) rfl ?_;dsimp only [aA,aB];refine vn (xB (a:=[47]) (by simp only [List.length_cons,List.length_nil];omega)) rfl ?_;dsimp only [aA,aB];refine vn (xB (by simp only [List.length_append,List.length_cons,List.length_nil];omega)) rfl ?_;dsimp only [aA,aB];rw [if_neg h1,if_neg (by omega)];exact aP rfl
 rw [if_neg h1,if_pos (by omega),List.append_nil];exact aP rfl
end Go.Sy
