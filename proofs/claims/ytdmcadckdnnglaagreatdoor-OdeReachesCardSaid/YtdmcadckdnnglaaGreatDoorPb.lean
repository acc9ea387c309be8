/- Lists of rational numbers: Clone, Trim, Degree. slices.Backward over numbers; Horner's rule. Numbers as they are handed in.
-/
import Derived.Test.YtdmcadckdnnglaaGreatDoorRb
import Derived.Laws.Cover3
import Derived.RangeFuncFrom
import Derived.RangeFuncBox
import Derived.RangeFuncLeaves
import Derived.Shelf.Abstract
import Derived.WalkKit
import Derived.OwnWalkIn
import Derived.TacticsInMore
import Derived.LoopNIn
import Derived.LoopIn
set_option linter.unusedVariables false
set_option linter.unusedSimpArgs false
namespace Go.Sy
open Go Go.Proofs Tryz Ord
def at6:Tr:=.need (.prim [(W 0 0),(.one (.c (.k (.slice none 0 0))))] none) (.binOp .eql 72 (tT 3) (.const (.slice none 0 0)) 72) 4 false (.split (.u 1 0) (.ret [(.one (.c (.k (.slice none 0 0))))]) (.need (.lit 3 []) (.buildSlice 72 0 #[]) 72 false (.need (.app 3 56 (some 2) (some (.u 0 0)) none) (.call ⟨.builtin .append,#[(tT 5),(tT 6)],#[72,72]⟩) 72 false (.ret [(.one (.c (.sr 3 3)))]))))
theorem GU:aN prog f113 (fun _=>none) [.v none] = at6:=by kernel_rfl
def Ps:Tr:=aQ .sub 3 17 1 2 0 3 (.back 0 [lV 9 0])
def aC2:Tr:=dP 5 0 (some 3) 39 12 (aJ 35 [(G3 6)] [none] [13] [39] 3 false (aQ .eql 3 14 0 7 0 4 (.split (.u 8 0) Ps (.need (.prim [(W 0 0),(W 2 0)] none) (.slice 72 (tT 19) none (some (tT 20)) none) 72 false (aJ 113 [(W 9 0)] [none] [21] [72] 72 true (.ret [(W 10 0)]))))))
def ar7:Tr:=cM 0 0 4 72 (.loop 0 [lV 1 0] (aQ .gtr 3 6 0 2 0 4 (.split (.u 3 0) (aQ .sub 3 10 1 2 0 3 (eU 0 0 4 0 72 9 11 aC2)) (.need (.prim [(W 0 0),(W 2 0)] none) (.slice 72 (tT 19) none (some (tT 20)) none) 72 false (aJ 113 [(W 4 0)] [none] [21] [72] 72 true (.ret [(W 5 0)]))))))
theorem WX:aN prog f34 (fun _=>none) [.v none] = ar7:=by kernel_rfl
def XA:Tr:=aQ .sub 3 5 1 2 0 3 (.ret [(W 3 0)])
def aB0:Tr:=aJ 34 [(W 0 0)] [none] [3] [72] 72 false (cM 1 0 4 72 XA)
theorem MD:aN prog f95 (fun _=>none) [.v none] = aB0:=by kernel_rfl
def ax6:Tr:=dP 5 0 (some 4) 49 12 (aJ 46 [(G4 6)] [none] [13] [49] 3 false (aQ .eql 3 14 0 7 0 4 (.split (.u 8 0) Ps (.need (.prim [(W 0 0),(W 2 0)] none) (.slice 167 (tT 19) none (some (tT 20)) none) 167 false (.need (.app 4 64 none (some (.u 9 0)) none) (.call ⟨.builtin .append,#[(.const (.slice none 0 0)),(tT 21)],#[167,167]⟩) 167 false (.ret [(.one (.c (.sr 4 10)))]))))))
def av2:Tr:=cM 0 0 4 167 (.loop 0 [lV 1 0] (aQ .gtr 3 6 0 2 0 4 (.split (.u 3 0) (aQ .sub 3 10 1 2 0 3 (eU 0 0 4 0 167 9 11 ax6)) (.need (.prim [(W 0 0),(W 2 0)] none) (.slice 167 (tT 19) none (some (tT 20)) none) 167 false (.need (.app 4 64 none (some (.u 4 0)) none) (.call ⟨.builtin .append,#[(.const (.slice none 0 0)),(tT 21)],#[167,167]⟩) 167 false (.ret [(.one (.c (.sr 4 5)))]))))))
theorem Tb:aN prog f144 (fun _=>none) [.v none] = av2:=by kernel_rfl
def aB3:Tr:=aJ 144 [(W 0 0)] [none] [3] [167] 167 false (cM 1 0 4 167 XA)
theorem LN:aN prog f96 (fun _=>none) [.v none] = aB3:=by kernel_rfl
def aI.NF:aI where
 rep:=fun _ _ v=>∃ cap,v = .slice none 0 cap ∧ cap ≤ maxLen
 mono:=fun _ h=>h
 one:=by rintro M w v ⟨cap,rfl,_⟩; rfl
def aI.nnS (sz:Nat) (ts:List (List aI)):aI where
 rep:=fun M w v=>(aI.slice sz ts).rep M w v ∧ ∃ a l c,v = .slice (some a) l c
 mono:=fun hk h=>⟨aI.mono _ hk h.1,h.2⟩
 one:=fun h=>aI.one _ h.1
theorem aI.Sub.nn {sz:Nat} {ts:List (List aI)}:(aI.nnS sz ts).Sub (.slice sz ts):=
 .inr ⟨fun M w v h=>by obtain ⟨_,a,l,c,rfl⟩:=h; exact ⟨some a,l,c,rfl⟩,fun M w v h=>h.1⟩
theorem Hk {sz:Nat} {ts:List (List aI)} {M:Nat → Prop} {w:World} {v:Value} (h:(aI.slice sz ts).rep M w v):(ts = [] ∧ aI.NF.rep M w v) ∨ (aI.nnS sz ts).rep M w v:=by
 have h0:=h
 obtain ⟨a,cap,rfl,hc,hm,hel⟩:=h
 cases a with
 | some a=>exact .inr ⟨h0,a,_,_,rfl⟩
 | none=>
   rcases hel with rfl | ⟨b,off,cs,T,fz,e,_⟩
   ·exact .inl ⟨rfl,cap,rfl,hm⟩
   ·cases e
theorem JV {P:Program} {f:FuncId} {sz:Nat} {ts:List (List aI)} {out:Out} (h1:ts = [] → aL P f [.one .NF] out) (h2:aL P f [.one (.nnS sz ts)] out):aL P f [.one (.slice sz ts)] out:=by
 refine ⟨h2.1,fun M w vs hM hv=>?_⟩
 match vs,hv with
 | [v],hv=>
   rcases Hk hv.1 with ⟨e,h⟩ | h
   ·exact (h1 e).2 M w [v] hM ⟨h,trivial⟩
   ·exact h2.2 M w [v] hM ⟨h,trivial⟩
 | [],hv=>exact hv.elim
 | _ :: _ :: _,hv=>exact hv.2.elim
section
variable {P:Program} {T U ty:TypeId} {x y:Operand}
theorem Yo {E sz b:Nat} (h:dG P T = some (E,sz,b)):aV P (.binOp .eql T x y U) ty [.one .NF, .one (.exact (.slice none 0 0))] (.one (.bool true)):=by
 obtain ⟨ie,hu,_⟩:=cT h
 intro M w ρ o ho ht hr
 obtain ⟨hx,hy⟩:=qX (x:=x) (y:=y) hr
 obtain ⟨cap,hx,_⟩:=hx
 have hy:ρ y = .slice none 0 0 ∧ _:=hy
 refine ⟨.bool true,?_,⟨rfl,rfl⟩⟩
 simp [execOp,ho,hx,hy.1,eqGuard,binOp,run_equal_slice_nil w T E none 0 cap hu]
theorem Ym {E sz b sz':Nat} {ts:List (List aI)} (h:dG P T = some (E,sz,b)):aV P (.binOp .eql T x y U) ty [.one (.nnS sz' ts), .one (.exact (.slice none 0 0))] (.one (.bool false)):=by
 obtain ⟨ie,hu,_⟩:=cT h
 intro M w ρ o ho ht hr
 obtain ⟨hx,hy⟩:=qX (x:=x) (y:=y) hr
 obtain ⟨_,a,l,c,hx⟩:=hx
 have hy:ρ y = .slice none 0 0 ∧ _:=hy
 refine ⟨.bool false,?_,⟨rfl,rfl⟩⟩
 simp [execOp,ho,hx,hy.1,eqGuard,binOp,run_equal_slice_nil w T E (some a) l c hu]
end
theorem LR  :aL prog 113 [(.one .NF:aH)] (.ret [.one (.slice 3 [])]):=by
 refine aD (args:=[.v none]) (ins:=[.v (.one .NF)]) (hints:=(fun _=>none)) fo (by kernel_rfl) func113 ⟨rfl,trivial⟩ ?_
 rw [GU]
 dsimp only [List.map,In.env,aB,aA]
 refine vn (Yo iY) rfl ?_
 dsimp only [aB,aA]
 refine uY true rfl (fun _=>?_) (fun h=>by cases h)
 exact dA ⟨aI.Sub.nil,trivial⟩
theorem Nh (ts:List (List aI)) (hs:ts.length < 1099511627776):aL prog 113 [(.one (.nnS 3 ts):aH)] (.ret [.one (.slice 3 ts)]):=by
 refine aD (args:=[.v none]) (ins:=[.v (.one (.nnS 3 ts))]) (hints:=(fun _=>none)) fo (by kernel_rfl) func113 ⟨rfl,trivial⟩ ?_
 rw [GU]
 dsimp only [List.map,In.env,aB,aA]
 refine vn (Ym iY) rfl ?_
 dsimp only [aB,aA]
 refine uY false rfl (fun h=>by cases h) (fun _=>?_)
 refine bL (us:=[]) rfl ?_
 dsimp only [aB,aA]
 refine tR (ts:=[]) (us:=ts) (vs:=ts) rfl (.inr aI.Sub.nn) rfl (by omega) (by simp only [maxLen]; omega) ?_
 dsimp only [aB,aA]
 exact aK rfl
theorem GF (ts:List (List aI)) (hs:ts.length < 1099511627776):aL prog 113 [.one (.slice 3 ts)] (.ret [.one (.slice 3 ts)]):=
 JV (fun e=>by subst e; exact LR) (Nh ts hs)
def cV {α:Type} (z:α → Bool):List α → Nat
 | []=>0
 | x :: xs=>if cV z xs = 0 ∧ z x = true then 0 else cV z xs + 1
theorem gK {α:Type} {z:α → Bool}:∀ l:List α,cV z l ≤ l.length
 | []=>Nat.le_refl _
 | x :: xs=>by
   have:=gK (z:=z) xs
   simp only [cV,List.length_cons]; split <;> omega
theorem sV {α:Type} {z:α → Bool}:∀ {l:List α} {n:Nat},n ≤ l.length → (∀ i x,n ≤ i → l[i]? = some x → z x = true) → (n = 0 ∨ ∃ x,l[n - 1]? = some x ∧ z x = false) → cV z l = n
 | [],n,h,_,_=>by simp at h; subst h; rfl
 | x :: xs,n,h,h1,h2=>by
   cases n with
   | zero=>
     have h3:=sV (z:=z) (l:=xs) (n:=0) (Nat.zero_le _) (fun i y _ hy=>h1 (i + 1) y (Nat.zero_le _) (by simpa using hy)) (.inl rfl)
     have h4:=h1 0 x (Nat.zero_le _) rfl
     simp [cV,h3,h4]
   | succ n=>
     have h3:=sV (z:=z) (l:=xs) (n:=n) (by simpa using h) (fun i y hi hy=>h1 (i + 1) y (by omega) (by simpa using hy)) (by
      cases n with
      | zero=>exact .inl rfl
      | succ n=>
        rcases h2 with h2 | ⟨y,hy,hz⟩
        ·omega
        ·exact .inr ⟨y,by simpa using hy,hz⟩)
     simp only [cV,h3]
     rw [if_neg]
     rintro ⟨h4,h5⟩
     subst h4
     rcases h2 with h2 | ⟨y,hy,hz⟩
     ·omega
     ·simp at hy; subst hy; rw [h5] at hz; cases hz
theorem CS {α β:Type} {z:β → Bool} (f:α → β):∀ l:List α,cV z (l.map f) = cV (fun a=>z (f a)) l
 | []=>rfl
 | x :: xs=>by simp only [List.map_cons,cV,CS f xs]
abbrev rQ (ps:List Rat):List (List aI):=ps.map qC
abbrev sQ (ps:List Rat):aI:=.slice 3 (rQ ps)
abbrev rR (ps:List RQ):List (List aI):=ps.map rC
abbrev sR (ps:List RQ):aI:=.slice 4 (rR ps)
def zr (q:Rat):Bool:=decide (q = 0)
def Dk (a:RQ):Bool:=decide (a.q = 0)
def trim (ps:List Rat):List Rat:=ps.take (cV zr ps)
def eA (ps:List RQ):List RQ:=ps.take (cV Dk ps)
theorem pD (ps:List RQ):(eA ps).map RQ.q = trim (ps.map RQ.q):=by
 rw [trim,CS,eA,List.map_take]; rfl
theorem BA {q:Rat}:zr q = decide (q.num.sign = 0):=by rw [zr,decide_eq_decide]; exact sign_zero.symm
theorem eP (ps:List Rat):(trim ps).length = cV zr ps:=by rw [trim,List.length_take]; have:=gK (z:=zr) ps; omega
theorem vC (ps:List RQ):(eA ps).length = cV Dk ps:=by rw [eA,List.length_take]; have:=gK (z:=Dk) ps; omega
theorem vW {E sz b T:Nat} {α:Type} {f:α → List aI} {ds:List α} {x:Operand} {ty:Nat} {y:Operand} {k:IntKind} {n:Int} {m:Nat} (h:dG prog T = some (E,sz,b)) (h0:0 ≤ n) (hm:n.toNat = m) (hn:m ≤ ds.length):aV prog (.slice T x none (some y) none) ty [.one (.slice sz (ds.map f)), .one (.int k n)] (.one (.slice sz ((ds.take m).map f))):=by
 have:=EJ (P:=prog) (T:=T) (x:=x) (y:=y) (ty:=ty) (k:=k) (n:=n) (ts:=ds.map f) h h0 (by rw [List.length_map,hm]; exact hn)
 rw [hm,← List.map_take] at this
 exact this
theorem uK (ps:List Rat) (hs:ps.length < 1099511627776):aL prog 34 [(.one (sQ ps):aH)] (.ret [.one (sQ (trim ps))]):=by
 refine aD (args:=[.v none]) (ins:=[.v (.one (sQ ps))]) (hints:=(fun _=>none)) fo (by kernel_rfl) func34 ⟨rfl,trivial⟩ ?_
 rw [WX]
 dsimp only [List.map,In.env,aB,aA]
 refine vn (aO iY (List.length_map _)) rfl ?_
 dsimp only [aB,aA]
 refine bA {n:Nat // n ≤ ps.length ∧ ∀ i q,n ≤ i → ps[i]? = some q → zr q = true} (fun g=>[.one (.int .i64 g.1)]) (fun g=>g.1) ⟨ps.length,Nat.le_refl _,fun i q hi hq=>by have:=(List.getElem?_eq_some_iff.1 hq).1; omega⟩ aM.rfl (fun _=>rfl) ?_
 rintro ⟨n,hn,hz⟩
 dsimp only [aB,aA] at hn hz ⊢
 refine vn cP rfl ?_
 dsimp only [aB,aA]
 refine vs _ rfl (fun h3=>?_) (fun h3=>?_)
 ·refine vn (aG (by omega) (by omega)) rfl ?_
  dsimp only [aB,aA]
  obtain ⟨q,hq⟩:∃ q,ps[n - 1]? = some q:=⟨_,List.getElem?_eq_getElem (by omega)⟩
  refine vn (aR iY (by omega) (by omega) hq) rfl ?_
  dsimp only [aB,aA]
  refine vn (bV sZ (by decide) (by simp) (.inl rfl)) rfl ?_
  dsimp only [aB,aA]
  refine aC (dB q) rfl ?_
  dsimp only [aB,aA]
  refine vn bE rfl ?_
  dsimp only [aB,aA]
  refine vs _ rfl (fun h9=>?_) (fun h9=>?_)
  ·refine vn (aG (by omega) (by omega)) rfl ?_
   dsimp only [aB,aA]
   exact aP rfl ⟨⟨n - 1,by omega,fun i r hi hr=>by
    rcases Nat.lt_or_ge i n with h | h
    ·rw [show i = n - 1 by omega,hq] at hr
     simp only [Option.some.injEq] at hr
     subst hr
     rw [BA]; simpa using h9
    ·exact hz i r h hr⟩,⟨aH.Sub.of_eq (congrArg (fun q=>aH.one (aI.int .i64 q)) (by show (n:Int) - 1 = ((n - 1:Nat):Int); omega)),trivial⟩,by show n - 1 < n; omega⟩
  refine vn (vW iY (by omega) (by omega) hn) rfl ?_
  dsimp only [aB,aA]
  have ht:=sV hn hz (.inr ⟨q,hq,by rw [BA]; simpa using h9⟩)
  refine aC (GF _ (by rw [List.length_map,List.length_take]; omega)) rfl ?_
  dsimp only [aB,aA]
  rw [trim,ht]; exact aK rfl
 refine vn (vW iY (by omega) (by omega) hn) rfl ?_
 dsimp only [aB,aA]
 have ht:=sV hn hz (.inl (by omega))
 refine aC (GF _ (by rw [List.length_map,List.length_take]; omega)) rfl ?_
 dsimp only [aB,aA]
 rw [trim,ht]; exact aK rfl
theorem xL (ps:List Rat) (hs:ps.length < 1099511627776):aL prog 95 [(.one (sQ ps):aH)] (.ret [.one (.int .i64 ((cV zr ps:Int) - 1))]):=by
 refine aD (args:=[.v none]) (ins:=[.v (.one (sQ ps))]) (hints:=(fun _=>none)) fo (by kernel_rfl) func95 ⟨rfl,trivial⟩ ?_
 rw [MD]
 dsimp only [List.map,In.env,aB,aA]
 have hle:=gK (z:=zr) ps
 have htl:=eP ps
 refine aC (uK ps hs) rfl ?_
 dsimp only [aB,aA]
 refine vn (aO iY (List.length_map _)) rfl ?_
 dsimp only [aB,aA]
 refine vn (aG (by omega) (by omega)) rfl ?_
 dsimp only [aB,aA]
 rw [← htl]; exact aK rfl
theorem sO (ps:List RQ) (hs:ps.length < 1099511627776):aL prog 144 [(.one (sR ps):aH)] (.ret [.one (sR (eA ps))]):=by
 refine aD (args:=[.v none]) (ins:=[.v (.one (sR ps))]) (hints:=(fun _=>none)) fo (by kernel_rfl) func144 ⟨rfl,trivial⟩ ?_
 rw [Tb]
 dsimp only [List.map,In.env,aB,aA]
 refine vn (aO dZ (List.length_map _)) rfl ?_
 dsimp only [aB,aA]
 refine bA {n:Nat // n ≤ ps.length ∧ ∀ i q,n ≤ i → ps[i]? = some q → Dk q = true} (fun g=>[.one (.int .i64 g.1)]) (fun g=>g.1) ⟨ps.length,Nat.le_refl _,fun i q hi hq=>by have:=(List.getElem?_eq_some_iff.1 hq).1; omega⟩ aM.rfl (fun _=>rfl) ?_
 rintro ⟨n,hn,hz⟩
 dsimp only [aB,aA] at hn hz ⊢
 refine vn cP rfl ?_
 dsimp only [aB,aA]
 refine vs _ rfl (fun h3=>?_) (fun h3=>?_)
 ·refine vn (aG (by omega) (by omega)) rfl ?_
  dsimp only [aB,aA]
  obtain ⟨q,hq⟩:∃ q,ps[n - 1]? = some q:=⟨_,List.getElem?_eq_getElem (by omega)⟩
  refine vn (aR dZ (by omega) (by omega) hq) rfl ?_
  dsimp only [aB,aA]
  refine vn (bV qK (by decide) (by simp) (.inl rfl)) rfl ?_
  dsimp only [aB,aA]
  refine aC (Gd q) rfl ?_
  dsimp only [aB,aA]
  refine vn bE rfl ?_
  dsimp only [aB,aA]
  refine vs _ rfl (fun h9=>?_) (fun h9=>?_)
  ·refine vn (aG (by omega) (by omega)) rfl ?_
   dsimp only [aB,aA]
   exact aP rfl ⟨⟨n - 1,by omega,fun i r hi hr=>by
    rcases Nat.lt_or_ge i n with h | h
    ·rw [show i = n - 1 by omega,hq] at hr
     simp only [Option.some.injEq] at hr
     subst hr
     show zr q.q = true
     rw [BA]; simpa using h9
    ·exact hz i r h hr⟩,⟨aH.Sub.of_eq (congrArg (fun q=>aH.one (aI.int .i64 q)) (by show (n:Int) - 1 = ((n - 1:Nat):Int); omega)),trivial⟩,by show n - 1 < n; omega⟩
  refine vn (vW dZ (by omega) (by omega) hn) rfl ?_
  dsimp only [aB,aA]
  have ht:=sV (z:=Dk) hn hz (.inr ⟨q,hq,by show zr q.q = false; rw [BA]; simpa using h9⟩)
  refine tR (ts:=[]) (us:=rR (ps.take n)) (vs:=rR (ps.take n)) rfl (.inr aI.Sub.same) rfl (by rw [List.length_map,List.length_take]; omega) (by rw [List.length_map,List.length_take]; simp only [maxLen]; omega) ?_
  dsimp only [aB,aA]
  rw [eA,ht]; exact aK rfl
 refine vn (vW dZ (by omega) (by omega) hn) rfl ?_
 dsimp only [aB,aA]
 have ht:=sV (z:=Dk) hn hz (.inl (by omega))
 refine tR (ts:=[]) (us:=rR (ps.take n)) (vs:=rR (ps.take n)) rfl (.inr aI.Sub.same) rfl (by rw [List.length_map,List.length_take]; omega) (by rw [List.length_map,List.length_take]; simp only [maxLen]; omega) ?_
 dsimp only [aB,aA]
 rw [eA,ht]; exact aK rfl
theorem lF (ps:List RQ) (hs:ps.length < 1099511627776):aL prog 96 [(.one (sR ps):aH)] (.ret [.one (.int .i64 ((cV Dk ps:Int) - 1))]):=by
 refine aD (args:=[.v none]) (ins:=[.v (.one (sR ps))]) (hints:=(fun _=>none)) fo (by kernel_rfl) func96 ⟨rfl,trivial⟩ ?_
 rw [LN]
 dsimp only [List.map,In.env,aB,aA]
 have hle:=gK (z:=Dk) ps
 have htl:=vC ps
 refine aC (sO ps hs) rfl ?_
 dsimp only [aB,aA]
 refine vn (aO dZ (List.length_map _)) rfl ?_
 dsimp only [aB,aA]
 refine vn (aG (by omega) (by omega)) rfl ?_
 dsimp only [aB,aA]
 rw [← htl]; exact aK rfl
end Go.Sy
namespace Go.Sy
open Go Go.Proofs Go.RowKit Go.Shelf Tryz Ord
attribute [local go_sem] Oper.semAt_some
section
variable {α:Type} [Inhabited α] {e0 e1 e2:α → Value}
set_option maxRecDepth 100000 in
set_option maxHeartbeats 2000000 in
theorem Mx (l Bs n₀ b off cap:Nat) (vs:List α) (hlen:vs.length < 4611686018427387904) (hb:b < n₀) (J Jx:List (Nat × α) → World → Prop)
  (hY:∀ pre x W,J pre W → pre.length < vs.length → YieldAt Fence.wide (1000 - 1) prog l #[.int .i64 (x.1:Int),(.agg #[e0 x.2,e1 x.2,e2 x.2])] W fun e W'=>
   (e = .returned (.bool true) ∧ J (pre ++ [x]) W' ∧ Tq n₀ Bs W W') ∨ (e = .returned (.bool false) ∧ Jx (pre ++ [x]) W'))
  (W:World) (hBs:W.cell? ⟨Bs,0,none⟩ = some (.slice (some ⟨b,off,none⟩) vs.length cap)) (hc:∀ j v,vs[j]? = some v → W.cell? ⟨b,off + j * 3,none⟩ = some (e0 v) ∧ W.cell? ⟨b,off + j * 3 + 1,none⟩ = some (e1 v) ∧ W.cell? ⟨b,off + j * 3 + 2,none⟩ = some (e2 v)) (h0:J [] W) :
  CallsIn Fence.wide 1000 prog 281 #[.func (.yield l) #[] #[], .pointer (some ⟨Bs,0,none⟩)] W fun e W'=>(∃ v,e = .returned v) ∧
   ((∃ ys,ys = bk vs vs.length ∧ J ys W') ∨ (∃ pre,(∃ k,k ≤ vs.length ∧ pre = bk vs k) ∧ Jx pre W')):=by
 refine callsIn_of_wp func281 rfl trivial ?_ rfl
 simp only [ntmps281,List.size_toArray,List.length_cons,List.length_nil,Nat.reduceAdd,Nat.reduceSub,Array.replicate_succ,Array.replicate_zero,List.push_toArray,List.append_toArray,List.nil_append,List.cons_append]
 obtain ⟨N,hN⟩:∃ N,vs.length = N:=⟨_,rfl⟩
 rw [hN] at hBs hY hlen ⊢
 gi_wp2
 gi_loopw [3] (fun i wr=>∃ k:Nat,k ≤ N ∧ i = .int .i64 ((N:Int) - 1 - k) ∧ J (bk vs k) wr ∧ Below n₀ W wr ∧ wr.cell? ⟨Bs,0,none⟩ = some (.slice (some ⟨b,off,none⟩) N cap))
  (fun i _=>(intOf i + 1).toNat)
 case atStart=>exact ⟨0,Nat.zero_le _,by simp,h0,Below.refl _ _,hBs⟩
 case round=>
  obtain ⟨k,hk,rfl,hJs,hnx,hBx⟩:=hrel
  have hmeas:(intOf (.int .i64 ((N:Int) - 1 - k)) + 1).toNat = N - k:=by simp [intOf]; omega
  by_cases hlt:k < N
  ·have hv:vs[N - 1 - k]? = some (vs[N - 1 - k]?.getD default):=by rw [List.getElem?_eq_getElem (by omega)]; rfl
   obtain ⟨hx0,hx1,hx2⟩:=hc _ _ hv
   have hcx0:=(hnx.cell (p:=⟨b,off + (N - 1 - k) * 3,none⟩) hb).trans hx0
   have hcx1:=(hnx.cell (p:=⟨b,off + (N - 1 - k) * 3 + 1,none⟩) hb).trans hx1
   have hcx2:=(hnx.cell (p:=⟨b,off + (N - 1 - k) * 3 + 2,none⟩) hb).trans hx2
   clear hx0 hx1 hx2
   obtain ⟨fn,tmps,assign,body,hy,hR⟩:=hY _ (N - 1 - k,vs[N - 1 - k]?.getD default) wr hJs (by rw [EB]; exact hlt)
   generalize hx:vs[N - 1 - k]?.getD default = x at hy hR hcx0 hcx1 hcx2
   have hsucc:bk vs (k + 1) = bk vs k ++ [(N - 1 - k,x)]:=by rw [EY,hN,hx]
   have e1:(N:Int) - 1 - k = ((N - 1 - k:Nat):Int):=by omega
   have hn1:N - 1 - k < N:=by omega
   rw [e1]
   gi_wp2
   refine hR.mono ?_
   rintro e W3 (⟨rfl,hJ3,hk3⟩ | ⟨rfl,hJx3⟩)
   ·gi_wp2
    go_roundw
    case rel=>exact ⟨k + 1,by omega,by congr 1; omega,by rw [hsucc]; exact hJ3,hnx.trans hk3.1,hk3.2 _ hBx⟩
    case measure=>simp [intOf]
   ·gi_wp2
    refine bodyPost_ret (results_none rfl _ _ _) rfl ?_
    exact ⟨⟨_,rfl⟩, .inr ⟨_,⟨k + 1,by omega,rfl⟩,by rw [hsucc]; exact hJx3⟩⟩
  ·obtain rfl:k = N:=by omega
   gi_wp2
   go_end0
   exact ⟨⟨_,rfl⟩, .inl ⟨_,rfl,hJs⟩⟩
set_option maxRecDepth 100000 in
set_option maxHeartbeats 1000000 in
theorem Js {α:Type} (l Bs:Nat) (a:Option Addr) (cap:Nat) (J:List (Nat × α) → World → Prop) (W:World) (hBs:W.cell? ⟨Bs,0,none⟩ = some (.slice a 0 cap)) (h0:J [] W) :
  CallsIn Fence.wide 1000 prog 281 #[.func (.yield l) #[] #[], .pointer (some ⟨Bs,0,none⟩)] W fun e W'=>(∃ v,e = .returned v) ∧ J [] W':=by
 refine callsIn_of_wp func281 rfl trivial ?_ rfl
 simp only [ntmps281,List.size_toArray,List.length_cons,List.length_nil,Nat.reduceAdd,Nat.reduceSub,Array.replicate_succ,Array.replicate_zero,List.push_toArray,List.append_toArray,List.nil_append,List.cons_append]
 gi_wp2
 gi_loopw [3] (fun i wr=>i = .int .i64 (-1) ∧ J [] wr) (fun _ _=>0)
 case atStart=>exact ⟨rfl,h0⟩
 case round=>
  obtain ⟨rfl,hJs⟩:=hrel
  gi_wp2
  go_end0
  exact ⟨⟨_,rfl⟩,hJs⟩
set_option maxHeartbeats 1000000 in
theorem GB (n:Nat) (a:Option Addr) (len cap:Nat) (w:World) :
  CallsIn Fence.wide n prog 248 #[.slice a len cap] w fun e w'=>e = .returned (.func (.func 281) #[] #[.pointer (some ⟨w.heap.size,0,none⟩)]) ∧ w' = w.alloc (.cells #[.slice a len cap] 72):=by
 refine callsIn_of_wp func248 rfl trivial ?_ rfl
 simp only [ntmps248,List.size_toArray,List.length_cons,List.length_nil,Nat.reduceAdd,Nat.reduceSub,Array.replicate_succ,Array.replicate_zero,List.push_toArray,List.append_toArray,List.nil_append,List.cons_append]
 gi_wp2
 go_ret
 exact ⟨rfl,rfl⟩
def Xl (e0 e1 e2:α → Value) (n₀:Nat) (W:World) (sv:Value) (vs:List α):Prop:=
 ∃ a cap,sv = .slice a vs.length cap ∧ (vs = [] ∨ ∃ b off,a = some ⟨b,off,none⟩ ∧ b < n₀ ∧ ∀ j v,vs[j]? = some v → W.cell? ⟨b,off + j * 3,none⟩ = some (e0 v) ∧ W.cell? ⟨b,off + j * 3 + 1,none⟩ = some (e1 v) ∧ W.cell? ⟨b,off + j * 3 + 2,none⟩ = some (e2 v))
theorem Xl.below {α:Type} {e0 e1 e2:α → Value} {n₀:Nat} {A B:World} (h:Below n₀ A B) {sv:Value} {vs:List α}:Xl e0 e1 e2 n₀ A sv vs → Xl e0 e1 e2 n₀ B sv vs:=by
 rintro ⟨a,cap,e,rfl | ⟨b,off,rfl,hb,hc⟩⟩
 ·exact ⟨a,cap,e, .inl rfl⟩
 ·exact ⟨_,cap,e, .inr ⟨b,off,rfl,hb,fun j v hj=>⟨(h.cell (p:=⟨b,off + j * 3,none⟩) hb).trans (hc j v hj).1,(h.cell (p:=⟨b,off + j * 3 + 1,none⟩) hb).trans (hc j v hj).2.1,(h.cell (p:=⟨b,off + j * 3 + 2,none⟩) hb).trans (hc j v hj).2.2⟩⟩⟩
theorem An (Bs n₀:Nat) (sv:Value) (vs:List α) (hlen:vs.length < 4611686018427387904) (w:World) (hBs:Bs < w.heap.size) (hn₀:n₀ ≤ w.heap.size)
  (hc:w.cell? ⟨Bs,0,none⟩ = some sv) (hI:Xl e0 e1 e2 n₀ w sv vs) :
  SeqStopsK Fence.wide 1000 prog 281 #[.pointer (some ⟨Bs,0,none⟩)] (fun x:Nat × α=>#[Value.int .i64 (x.1:Int),(Value.agg #[e0 x.2,e1 x.2,e2 x.2])]) (Tq n₀ Bs) (fun ys=>ys = bk vs vs.length) (fun pre=>∃ k,k ≤ vs.length ∧ pre = bk vs k) vs.length w:=fun l J Jx W hW _ _ hY h0=>by
 have hc':=(hW.cell (p:=⟨Bs,0,none⟩) hBs).trans hc
 obtain ⟨a,cap,rfl,rfl | ⟨b,off,rfl,hb,hcs⟩⟩:=hI.below (hW.mono hn₀)
 ·exact (Js (α:=α) l Bs a cap J W hc' h0).mono fun e W' ⟨he,hj⟩=>⟨he, .inl ⟨_,rfl,hj⟩⟩
 ·exact (Mx (e0:=e0) (e1:=e1) (e2:=e2) l Bs n₀ b off cap vs hlen hb J Jx hY W hc' hcs h0)
end
end Go.Sy
namespace Go.Sy
open Go Go.Proofs Tryz Ord
def as9:Tr:=.need (.prim [(W 0 2),(.one (.c (.k (.int .u8 4))))] none) (.binOp .rem 5 (tT 31) (.const (.int .u8 4)) 5) 5 false (bK .lss 5 29 32 5 0 13 0 4 (.split (.u 14 0) (aJ 36 [(.agg [(U 6 0),(U 7 0),(U 8 0)]),(G3 2)] [(some 3)] [36,37] [39,39] 39 false (aJ 104 [(.agg [(U 9 0),(U 10 0),(U 11 0),(U 12 0)]),(G4 4)] [(some 4)] [39,40] [49,49] 49 true (.need (.prim [(W 5 0),(.one (.c (.k (.int .u8 1))))] none) (.binOp .add 5 (tT 34) (.const (.int .u8 1)) 5) 5 false (.back 0 [lV 17 0,lV 15 0,lV 15 1,lV 15 2,lV 16 0,lV 16 1,lV 16 2,lV 16 3])))) (.ret [(.agg [(U 6 0),(U 7 0),(U 8 0)]),(.agg [(U 9 0),(U 10 0),(U 11 0),(U 12 0)])])))
def XH:Tr:=.loop 0 [(.w (.one (.c (.k (.int .u8 0))))),lV 2 0,lV 2 1,lV 2 2,lV 4 0,lV 4 1,lV 4 2,lV 4 3] as9
def as8:Tr:=aQ .eql 2 11 0 0 1 4 (.split (.u 1 0) (aJ 120 [(W 0 0),(WK 1)] [(some 3),none] [16,18] [2,2] 90 false (aJ 79 [(W 0 0),(WK 1)] [(some 4)] [23,25] [2,2] 49 true XH)) (aJ 120 [(W 0 0),(W 0 1)] [(some 3),none] [16,18] [2,2] 90 false (aJ 79 [(W 0 0),(W 0 1)] [(some 4)] [23,25] [2,2] 49 true XH)))
theorem VA:aN prog f40 (fun _=>none) [.v (some 3)] = as8:=by kernel_rfl
def aI2:Tr:=aJ 40 [(G3 7)] [(some 3),(some 4)] [19] [26] 82 false (.need (.lit 3 [[(.u 8 0),(.u 8 1),(.u 8 2)]]) (.buildSlice 40 1 #[(0,(tT 24))]) 40 false (.need (.app 3 56 (some 2) none (some 10)) (.call ⟨.builtin .append,#[(tT 23),(tT 25)],#[40,40]⟩) 40 false (.need (.lit 4 [[(.u 9 0),(.u 9 1),(.u 9 2),(.u 9 3)]]) (.buildSlice 50 1 #[(0,(tT 28))]) 50 false (.need (.app 4 64 (some 3) none (some 12)) (.call ⟨.builtin .append,#[(tT 27),(tT 29)],#[50,50]⟩) 50 false (aQ .add 3 13 1 1 0 3 (.back 0 [lV 14 0, .row 11, .row 13]))))))
def ar2:Tr:=.loop 0 [lK 0, .nilrow, .nilrow] (cM 0 0 10 27 (bK .lss 3 9 11 1 0 4 0 4 (.split (.u 5 0) (eU 0 0 1 0 27 16 17 (dP 6 0 (some 3) 26 18 aI2)) (.ret [(.one (.c (.sr 3 2))),(.one (.c (.sr 4 3)))]))))
theorem WE:aN prog f71 (fun _=>none) [.v none] = ar2:=by kernel_rfl
def ND:Tr:=.ret [(W 6 0)]
def oU:Tr:=.ret [(tF false)]
def aB9:Tr:=aQ .leq 2 9 999 0 0 4 (.split (.u 3 0) (aQ .geq 2 14 (-999) 0 0 4 (.split (.u 4 0) (aQ .leq 2 19 999 0 1 4 (.split (.u 5 0) (aQ .geq 2 24 (-999) 0 1 4 ND) oU)) oU)) oU)
def aA6:Tr:=.need (.prim [(W 0 2),(.one (.c (.k (.int .u8 4))))] none) (.binOp .rem 5 (tT 4) (.const (.int .u8 4)) 5) 5 false (.need (.prim [(W 1 0),(.one (.c (.k (.int .u8 0))))] none) (.binOp .eql 5 (tT 5) (.const (.int .u8 0)) 5) 4 false (.split (.u 2 0) aB9 oU))
theorem Rz:aN prog f39 (fun _=>none) [.v (some 3)] = aA6:=by kernel_rfl
def Yz:Tr:=.split (.u 22 0) oU (aQ .gtr 2 54 99 18 1 4 (.split (.u 23 0) oU (aQ .lss 2 59 (-99) 18 1 4 (.split (.u 24 0) oU (aQ .add 3 28 1 10 0 3 (.back 1 [lV 9 0,lV 25 0]))))))
def ab6:Tr:=dP 17 0 (some 3) 26 36 (.need (.prim [(W 18 2),(.one (.c (.k (.int .u8 4))))] none) (.binOp .rem 5 (tT 39) (.const (.int .u8 4)) 5) 5 false (.need (.prim [(W 19 0),(.one (.c (.k (.int .u8 0))))] none) (.binOp .neq 5 (tT 40) (.const (.int .u8 0)) 5) 4 false (.split (.u 20 0) oU (aQ .gtr 2 44 99 18 0 4 (.split (.u 21 0) oU (aQ .lss 2 49 (-99) 18 0 4 Yz))))))
def ZF:Tr:=dP 11 0 none 27 24 (cM 12 0 25 27 (bK .lss 3 20 26 10 0 13 0 4 (.split (.u 14 0) (eU 0 0 2 0 22 31 32 (dP 15 0 none 27 33 (eU 16 0 10 0 27 34 35 ab6))) (aQ .add 3 11 1 2 0 3 (.back 0 [lV 9 0,lV 15 0])))))
def aG8:Tr:=eU 0 0 2 0 22 14 15 (dP 5 0 none 27 16 (cM 6 0 17 27 (aQ .gtr 3 18 4 7 0 4 (.split (.u 8 0) oU (.loop 1 [lV 1 0,lK 0] (eU 0 0 2 0 22 22 23 ZF))))))
def ay9:Tr:=.loop 0 [(.w (.one (.c (.k (.bool false))))),lK 0] (cM 0 0 8 22 (bK .lss 3 6 9 2 0 3 0 4 (.split (.u 4 0) aG8 (cM 0 0 63 22 (aQ .leq 3 64 6 5 0 4 ND)))))
theorem FQ:aN prog f55 (fun _=>none) [.v (some 2)] = ay9:=by kernel_rfl
structure bP where
 n:Int
 d:Int
 pow:Nat
abbrev nC (x:bP):List aI:=[.int .i64 x.n, .int .i64 x.d, .int .u8 x.pow]
abbrev nT (x:bP):aH:=.agg (nC x)
abbrev sN (l:List bP):aI:=.slice 3 (l.map nC)
structure bP.In (x:bP):Prop where
 n1:-9223372036854775808 ≤ x.n
 n2:x.n < 9223372036854775808
 d1:-9223372036854775808 ≤ x.d
 d2:x.d < 9223372036854775808
 p:x.pow < 256
def bP.b (x:bP):Rat:=(x.n:Rat) / ((if x.d = 0 then 1 else x.d:Int):Rat)
def bP.v (x:bP):Rat:=x.b ^ (x.pow % 4 + 1)
theorem _root_.Ord.Fit.pow {B:Nat} {q:Rat} (h:Fit B q) (hB:1 ≤ B):∀ n,Fit (B * n + 1) (q ^ n)
 | 0=>by rw [Rat.pow_zero]; exact (Fit.int (n:=1) (B:=1) (by omega) (by decide)).mono (by omega)
 | n + 1=>by
   rw [Rat.pow_succ]
   exact ((Ord.Fit.pow h hB n).mul h).mono (by rw [Nat.mul_add]; omega)
theorem bP.In.fit {x:bP} (h:x.In):Fit 128 x.b:=by
 unfold bP.b
 split
 ·exact (dH h.n1 h.n2).div (dH (n:=1) (by omega) (by omega))
 ·exact (dH h.n1 h.n2).div (dH h.d1 h.d2)
theorem bP.In.QT {x:bP} (h:x.In):Fit 513 x.v:=(h.fit.pow (by omega) _).mono (by omega)
theorem Bn (x:bP) (h:x.In):aL prog 40 [(nT x:aH)] (.ret [qT x.v,fB (.of x.v)]):=by
 refine aD (args:=[.v (some 3)]) (ins:=[.v (nT x)]) (hints:=(fun _=>none)) fo (by kernel_rfl) func40 ⟨rfl,trivial⟩ ?_
 rw [VA]
 dsimp only [List.map,In.env,aB,aA]
 have h1:=h.n1
 have h2:=h.n2
 have h3:=h.d1
 have h4:=h.d2
 have h5:=h.p
 have hf:=h.fit
 have hp:=fun i=>hf.pow (by omega) i
 have hm1:∀ i,i < 4 → aL prog 36 [qT (x.b ^ (i + 1)),qT x.b] (.ret [qT (x.b ^ (i + 1 + 1))]):=fun i hi=>by
  have:=fZ (x.b ^ (i + 1)) x.b _ _ (hp (i + 1)) hf (by omega)
  rw [← Rat.pow_succ] at this; exact this
 have hm2:∀ i,i < 4 → aL prog 104 [fB (.of (x.b ^ (i + 1))),fB (.of x.b)] (.ret [fB (.of (x.b ^ (i + 1 + 1)))]):=fun i hi=>by
  have:=gA (.of (x.b ^ (i + 1))) (.of x.b) _ _ (hp (i + 1)) hf (by omega)
  rw [RQ.Ft,RQ.Ft,← Rat.pow_succ] at this; exact this
 refine vn bE rfl ?_
 dsimp only [aB,aA]
 refine vs _ rfl (fun h1=>?_) (fun h1=>?_)
 ·have hb:x.b = (x.n:Rat) / ((1:Int):Rat):=by rw [bP.b,if_pos h1]
  have ho:=ZU x.n 1 h.n1 h2 (by omega) (by omega)
  rw [if_neg (by omega),if_neg (by omega),← hb] at ho
  refine aC ho rfl ?_
  dsimp only [aB,aA]
  have ho:=Ls x.n 1 (by omega) h.n1 h2 (by omega) (by omega)
  rw [← hb] at ho
  refine aC ho rfl ?_
  dsimp only [aB,aA]
  refine bA {i:Nat // i ≤ x.pow % 4} (fun g=>[.one (.int .u8 g.1), .one (dT (x.b ^ (g.1 + 1)).num.natAbs), .one (.bool (decide ((x.b ^ (g.1 + 1)).num < 0))), .one (dT ((x.b ^ (g.1 + 1)).den - 1)), .one (.int .i64 (x.b ^ (g.1 + 1)).num.sign), .one (bT (x.b ^ (g.1 + 1)).num.natAbs), .one (.int .i64 1), .one (bT (x.b ^ (g.1 + 1)).den)]) (fun g=>x.pow % 4 - g.1) ⟨0,Nat.zero_le _⟩ (by
   have e:x.b ^ (0 + 1) = x.b:=by rw [Rat.pow_succ,Rat.pow_zero,Rat.one_mul]
   simp only [e]; exact aM.rfl) (fun _=>rfl) ?_
  rintro ⟨i,hi⟩
  dsimp only [aB,aA] at hi ⊢
  refine vn (eS (by omega) (by omega)) rfl ?_
  dsimp only [aB,aA]
  refine vn aY rfl ?_
  dsimp only [aB,aA]
  refine vs _ rfl (fun h7=>?_) (fun h7=>?_)
  ·refine aC (hm1 i (by omega)) rfl ?_
   dsimp only [aB,aA]
   refine aC (hm2 i (by omega)) rfl ?_
   dsimp only [aB,aA]
   refine vn (Gw (by omega) (by omega)) rfl ?_
   dsimp only [aB,aA]
   exact aP rfl ⟨⟨i + 1,by omega⟩,aM.rfl,by show x.pow % 4 - (i + 1) < x.pow % 4 - i; omega⟩
  have hie:i = x.pow % 4:=by omega
  subst hie
  exact aK rfl
 have hb:x.b = (x.n:Rat) / (x.d:Rat):=by rw [bP.b,if_neg h1]
 have ho:=ZU x.n x.d h.n1 h2 h3 h4
 rw [if_neg h1,if_neg h1,← hb] at ho
 refine aC ho rfl ?_
 dsimp only [aB,aA]
 have ho:=Ls x.n x.d h1 h.n1 h2 h3 h4
 rw [← hb] at ho
 refine aC ho rfl ?_
 dsimp only [aB,aA]
 refine bA {i:Nat // i ≤ x.pow % 4} (fun g=>[.one (.int .u8 g.1), .one (dT (x.b ^ (g.1 + 1)).num.natAbs), .one (.bool (decide ((x.b ^ (g.1 + 1)).num < 0))), .one (dT ((x.b ^ (g.1 + 1)).den - 1)), .one (.int .i64 (x.b ^ (g.1 + 1)).num.sign), .one (bT (x.b ^ (g.1 + 1)).num.natAbs), .one (.int .i64 1), .one (bT (x.b ^ (g.1 + 1)).den)]) (fun g=>x.pow % 4 - g.1) ⟨0,Nat.zero_le _⟩ (by
  have e:x.b ^ (0 + 1) = x.b:=by rw [Rat.pow_succ,Rat.pow_zero,Rat.one_mul]
  simp only [e]; exact aM.rfl) (fun _=>rfl) ?_
 rintro ⟨i,hi⟩
 dsimp only [aB,aA] at hi ⊢
 refine vn (eS (by omega) (by omega)) rfl ?_
 dsimp only [aB,aA]
 refine vn aY rfl ?_
 dsimp only [aB,aA]
 refine vs _ rfl (fun h18=>?_) (fun h18=>?_)
 ·refine aC (hm1 i (by omega)) rfl ?_
  dsimp only [aB,aA]
  refine aC (hm2 i (by omega)) rfl ?_
  dsimp only [aB,aA]
  refine vn (Gw (by omega) (by omega)) rfl ?_
  dsimp only [aB,aA]
  exact aP rfl ⟨⟨i + 1,by omega⟩,aM.rfl,by show x.pow % 4 - (i + 1) < x.pow % 4 - i; omega⟩
 have hie:i = x.pow % 4:=by omega
 subst hie
 exact aK rfl
def cJ (l:List bP):List Rat:=l.map bP.v
def pK (l:List bP):List RQ:=l.map fun x=>RQ.of x.v
theorem jS {α β:Type} {f:α → β} {l:List α} {i:Nat} {x:α} (h:l[i]? = some x):(l.take i).map f ++ [f x] = (l.take (i + 1)).map f:=by
 rw [List.take_add_one,h,List.map_append]; rfl
theorem KP (l:List bP) (h:∀ x ∈ l,x.In) (hs:l.length < 1099511627776):aL prog 71 [(.one (sN l):aH)] (.ret [.one (sQ (cJ l)), .one (sR (pK l))]):=by
 refine aD (args:=[.v none]) (ins:=[.v (.one (sN l))]) (hints:=(fun _=>none)) fo (by kernel_rfl) func71 ⟨rfl,trivial⟩ ?_
 rw [WE]
 dsimp only [List.map,In.env,aB,aA]
 refine bA {i:Nat // i ≤ l.length} (fun g=>[.one (.int .i64 g.1), .rows (rQ ((l.take g.1).map bP.v)), .rows (rR ((l.take g.1).map fun x=>RQ.of x.v))]) (fun g=>l.length - g.1) ⟨0,Nat.zero_le _⟩ aM.rfl (fun _=>rfl) ?_
 rintro ⟨i,hi⟩
 dsimp only [aB,aA] at hi ⊢
 refine vn (aO Hr (List.length_map _)) rfl ?_
 dsimp only [aB,aA]
 refine vn aY rfl ?_
 dsimp only [aB,aA]
 refine vs _ rfl (fun h3=>?_) (fun h3=>?_)
 ·obtain ⟨x,hx⟩:∃ x,l[i]? = some x:=⟨_,List.getElem?_eq_getElem (by omega)⟩
  have hl1:((l.take i).map bP.v).length ≤ i:=by simp; omega
  have hl2:((l.take i).map fun x=>RQ.of x.v).length ≤ i:=by simp; omega
  refine vn (aR Hr (by omega) (by omega) hx) rfl ?_
  dsimp only [aB,aA]
  refine vn (bV ac7 (by decide) (by simp) (.inl rfl)) rfl ?_
  dsimp only [aB,aA]
  refine aC (Bn x (h x (List.mem_of_getElem? hx))) rfl ?_
  dsimp only [aB,aA]
  refine bL (us:=[qC x.v]) rfl ?_
  dsimp only [aB,aA]
  refine lP (xs:=(l.take i).map bP.v) (x:=x.v) (f:=qC) rfl rfl (by omega) (by simp only [maxLen]; omega) ?_
  rw [jS hx]
  dsimp only [aB,aA]
  refine bL (us:=[rC (RQ.of x.v)]) rfl ?_
  dsimp only [aB,aA]
  refine lP (xs:=(l.take i).map fun x:bP=>RQ.of x.v) (x:=RQ.of x.v) (f:=rC) rfl rfl (by omega) (by simp only [maxLen]; omega) ?_
  rw [jS (f:=fun x:bP=>RQ.of x.v) hx]
  dsimp only [aB,aA]
  refine vn (aE (by omega) (by omega)) rfl ?_
  dsimp only [aB,aA]
  exact aP rfl ⟨⟨i + 1,by omega⟩,aM.rfl,by show l.length - (i + 1) < l.length - i; omega⟩
 rw [show i = l.length by omega,List.take_length]; exact aK rfl
def bP.short (x:bP):Bool:=decide (x.pow % 4 = 0 ∧ x.n ≤ 999 ∧ -999 ≤ x.n ∧ x.d ≤ 999 ∧ -999 ≤ x.d)
def bP.Bf (x:bP):Bool:=decide (x.pow % 4 = 0 ∧ x.n ≤ 99 ∧ -99 ≤ x.n ∧ x.d ≤ 99 ∧ -99 ≤ x.d)
theorem uO (x:bP) (h:x.In):aL prog 39 [(nT x:aH)] (.ret [.one (.bool x.short)]):=by
 refine aD (args:=[.v (some 3)]) (ins:=[.v (nT x)]) (hints:=(fun _=>none)) fo (by kernel_rfl) func39 ⟨rfl,trivial⟩ ?_
 rw [Rz]
 dsimp only [List.map,In.env,aB,aA]
 refine vn (eS (by omega) (by omega)) rfl ?_
 dsimp only [aB,aA]
 refine vn bE rfl ?_
 dsimp only [aB,aA]
 refine vs _ rfl (fun h2=>?_) (fun h2=>?_)
 ·refine vn fQ rfl ?_
  dsimp only [aB,aA]
  refine vs _ rfl (fun h4=>?_) (fun h4=>?_)
  ·refine vn dJ rfl ?_
   dsimp only [aB,aA]
   refine vs _ rfl (fun h6=>?_) (fun h6=>?_)
   ·refine vn fQ rfl ?_
    dsimp only [aB,aA]
    refine vs _ rfl (fun h8=>?_) (fun h8=>?_)
    ·refine vn dJ rfl ?_
     dsimp only [aB,aA]
     refine aK ?_
     have:decide (-999 ≤ x.d) = x.short:=by unfold bP.short; rw [decide_eq_decide]; constructor <;> intro hh <;> omega
     rw [← this]; rfl
    refine aK ?_
    have:x.short = false:=by unfold bP.short; rw [decide_eq_false_iff_not]; omega
    rw [this]; rfl
   refine aK ?_
   have:x.short = false:=by unfold bP.short; rw [decide_eq_false_iff_not]; omega
   rw [this]; rfl
  refine aK ?_
  have:x.short = false:=by unfold bP.short; rw [decide_eq_false_iff_not]; omega
  rw [this]; rfl
 refine aK ?_
 have:x.short = false:=by unfold bP.short; rw [decide_eq_false_iff_not]; omega
 rw [this]; rfl
end Go.Sy
