/- Part. -/
import Derived.Test.YtdmcadckdnnglaaGreatDoorHc
set_option linter.all false
namespace Go.Sy
open Go Go.Proofs Tryz Ord
section
variable{E:j0}{ER:List (List RQ)}{X:Rat}{XR:RQ}
end
abbrev cF1(q:j0)(m:Nat)(lead aB:Rat)(st:Nat)(t:Rat)(k:Int)(n d j:Nat):List (List aE):=(List.range j).map fun l=>cr0 (.of (RC q m lead aB st t k n d l)) (.of (QA q m lead aB st t k n d l))
abbrev cF7(q:j0)(m:Nat)(lead aB:Rat)(st:Nat)(t:Rat)(k:Int)(n i:Nat):List (List aE):=(List.range i).map fun d=>[.slice 8 (cF1 q m lead aB st t k n d m)]
def bA9(E:j0)(X aB:Rat)(st:Nat)(t:Rat)(k:Int):List (List aE)×Int:=
 match ew E X aB st t (E.length-1-1) k with
 | some N=>(cF7 (aV E X) (E.length-1) (aG E X) aB st t k N (E.length-1),0)
 | none=>([],1)
section
variable{E:j0}{ER:List (List RQ)}{X:Rat}{XR:RQ}
def YX(hr:jO E X){aB t:Rat}{st:Nat}{k:Int}(hv:bp (aV E X) (E.length-1) (aG E X)=some (aB,st))(ht:vJ t)(h2:t.abs*2<=aB)(hk:k<=256):oQ E X aB st t k:=by
 have e:t.abs+t.abs=t.abs*2:=e9
 exact⟨hv,ht,by rw[e];exact h2,hk⟩
end
def bF4:Tr:=kp 0 0 0 3 3 (cC 1)
def bo2:aO prog f273 cT [.v none]=bF4:=aT
def aJ6:Tr:=iz 1 1 1 1 2
def ce7:Tr:=aM0 273 aJ6
def cq3:aO prog f235 cT [.v none]=ce7:=aT
def bZ0:Tr:=yF 235 0 3 3 40 39 (oh 208 0 3 5 40 39 (yQ 1 2 0 1 2))
def ap4:aO prog f162 cT [.v none]=bZ0:=aT
def bE6:Tr:=aF6 0 1 2 0 1 2 7 9 11 (aF6 0 1 2 3 4 5 13 15 17 (aF6 3 4 5 0 1 2 19 21 23 (.need (.callv (.u 0 0) [.agg [U 1 3,U 1 4,U 1 5],.agg [U 2 3,U 2 4,U 2 5]] [some 3]) (.call ⟨.value (tT 25),#[tT 27,tT 29],#[39,39]⟩) 39 true (.need (.lit 3 [[.u 3 0,.u 3 1,.u 3 2],[.u 4 0,.u 4 1,.u 4 2],[.u 5 0,.u 5 1,.u 5 2],[.u 6 0,.u 6 1,.u 6 2]]) (.buildSlice 40 4 #[(0,tT 12),(1,tT 18),(2,tT 24),(3,tT 30)]) 40 false (Dh 162 3 7 6 31 40 123 (yQ 8 8 3 4 5))))))
def bM6:aO prog f156 cT [.v none,.v (some 6),.v (some 6)]=bE6:=aT
def bG1:Tr:=.need (.call 156 [.one (.lp 36 []),G6 0,G6 1] [some 6]) (D5 156 #[.func 36,tT 5,tT 6] #[224,123,123]) 123 true (yQ 2 2 3 4 5)
def bK6:aO prog f67 cT [.v (some 6),.v (some 6)]=bG1:=aT
def bV7:Tr:=lZ 167 0 3 0 4 0 5 0 0 0 1 0 2 4 6 aJ6
def aO7:aO prog f80 cT [.v (some 6)]=bV7:=aT
def bL7:Tr:=eO 206 [G2 1] [none] [5] [47] 9 false (bD 2 0 6 9 (ot 136 0 2 8 47 (eO 206 [G2 4] [none] [9] [47] 9 false (bD 5 0 10 9 (dh 3 0 6 0 3 7 11 (cC 7))))))
def bR4:Tr:=RW 148 4 bL7
def bJ7:aO prog f159 cT [.v (some 4)]=bR4:=aT
def bW7:Tr:=aJ 3 0 (eO 141 [G4 0,G4 1] [some 4] [9,10] [49,49] 49 false (ot 60 4 4 11 49 (Dc 50 1 4 49 (eO 47 [G4 5,G4 6] [none] [12,13] [49,49] 3 false (ju 7 0 0 3 14 (cC 8)))))) (hx137Q )
def cg7:Tr:=eO 159 [G4 0] [none] [5] [49] 3 false (ju 2 0 6 3 6 bW7)
def aY3:aO prog f70 cT [.v (some 4),.v (some 4)]=cg7:=aT
def mD(l:j1):Nat->Rat
 | 0=>0
 | i+1=>if i=0\/l.getD i 0<mD l i then l.getD i 0 else mD l i
theorem Jd{l:j1}:∀i,i<=l.length->mD l i=0\/mD l i∈l
 | 0,_=>.inl rfl
 | i+1,h=>by
   rw[mD];split
   .exact .inr (cj (cS (show i<l.length by omega)))
   .exact Jd i O
def zb{l:j1}{B:Nat}(h:∀x∈l,Fit B x)(i:Nat)(hi:i<=l.length)(hB:1<=B:=by omega):Fit B (mD l i):=by
 rcases Jd i hi with e | e
 .rw[e];exact Fit.zero hB
 .exact h _ e
def ZD{a b:Rat}:mF a b<0↔a<b:=by
 unfold mF;by_cases h1:a<b
 .rw[aI h1];exact⟨fun h=>h1,fun h=>O⟩
 .rw[aD h1];by_cases h2:b<a
  .rw[aI h2];exact⟨fun _=>O,fun h=>absurd h h1⟩
  .rw[aD h2];exact⟨fun h=>O,fun h=>absurd h h1⟩
def bi8(c:Int):aK prog 273 [(.one (.int .i64 c):aF)] (.ret [.one (.bool (decide (c<0)))]):=by
 refine dB func273 bo2 ?_;apply vn az;exact aN
def Yr(l:j1)(B:Nat)(hl:∀x∈l,Fit B x)(hB:1<=B)(hB2:B<=8589934592)(hs:l.length<1099511627776):aK prog 258 [(.one (.lp 273 []):aF),(.one (sQ l):aF)] (.ret [qT (mD l l.length)]):=by
 refine dB func258 UJ ?_;apply vn (aZ vv (aX _));refine bC {i:Nat // i<=l.length} (fun g=>(.one (.int .i64 g.1):aF)::(qC (mD l g.1)).map .one) (fun g=>l.length-g.1) ⟨0,cG _⟩ ⟨aF.Sub.same,tX⟩ (fun _=>rfl) ?_;rintro⟨i,hi⟩;dsimp only[aP,aQ,List.map]at hi|-;refine uS az ?_ ?_<;>intro h3
 .have hil:i<l.length:=O
  have hfx:=hl _ (cj (cS hil));have hfm:=zb hl i hi hB;apply vn (aY vv (cS hil) (bV i));apply vn (ay mq dO bY (.inl rfl));refine uS bA ?_ ?_<;>intro h7
  .apply vn aC
   exact aa rfl ⟨⟨i+1,O⟩,(by
    dsimp only;rw[mD,aI (.inl O)];exact aR.rfl),by show l.length-(i+1)<l.length-i;omega⟩
  apply aA (ma _ _ B B hfx hfm);apply wD (f:=273) (caps:=[]) rfl (bi8 (mF (l.getD i 0) (mD l i))) rfl;refine p8 ?_ ?_<;>intro h12
  .apply vn aC
   exact aa rfl ⟨⟨i+1,O⟩,(by
    dsimp only;rw[mD,aI (.inr (ZD.1 h12))];exact aR.rfl),by show l.length-(i+1)<l.length-i;omega⟩
  apply vn aC
  exact aa rfl ⟨⟨i+1,O⟩,(by
   dsimp only;rw[mD,aD (by rintro(h | h);omega;exact h12 (ZD.2 h))];exact aR.rfl),by show l.length-(i+1)<l.length-i;omega⟩
 rw[show l.length=i by omega];exact aN
def bx1(l:j1)(B:Nat)(hl:∀x∈l,Fit B x)(hB:1<=B)(hB2:B<=8589934592)(hs:l.length<1099511627776):aK prog 235 [(.one (sQ l):aF)] (.ret [qT (mD l l.length)]):=by
 refine dB func235 cq3 ?_;apply aA (Yr l B hl hB hB2 hs);exact aN
def OL(l:j1)(B:Nat)(hl:∀x∈l,Fit B x)(hB:1<=B)(hB2:B<=8589934592)(hs:l.length<1099511627776):aK prog 162 [(.one (sQ l):aF)] (.ret [kP (mD l l.length) (lA l l.length)]):=by
 refine dB func162 ap4 ?_;apply aA (bx1 l B hl hB hB2 hs);apply aA (aQ1 l B hl hB hB2 hs);exact aN
abbrev hU(a b c d:Rat):List Rat:=[a*c,a*d,b*c,b*d]
def jq(a b c d:Rat):Rat:=mD (hU a b c d) 4
def jz(a b c d:Rat):Rat:=lA (hU a b c d) 4
def Ck{a b c d:Rat}{A B:Nat}(ha:Fit A a)(hb:Fit A b)(hc:Fit B c)(hd:Fit B d):∀x∈hU a b c d,Fit (A+B) x:=fun x hx=>by
 simp only[hU,ee,jm,jr]at hx;rcases hx with rfl | rfl | rfl | rfl
 .exact ha.mul hc
 .exact ha.mul hd
 .exact hb.mul hc
 .exact hb.mul hd
def Gl{a b c d:Rat}{A B:Nat}(h1:1<=A)(ha:Fit A a)(hb:Fit A b)(hc:Fit B c)(hd:Fit B d):Fit (A+B) (jq a b c d)/\Fit (A+B) (jz a b c d):=
 ⟨zb (Ck ha hb hc hd) 4 bY,vh (Ck ha hb hc hd) 4 bY⟩
def bH3(a b c d:Rat)(A B:Nat)(h1:1<=A)(ha:Fit A a)(hb:Fit A b)(hc:Fit B c)(hd:Fit B d)(h:A+B<=4294967296):aK prog 156 [(.one (.lp 36 []):aF),(kP a b:aF),(kP c d:aF)] (.ret [kP (jq a b c d) (jz a b c d)]):=by
 refine dB func156 bM6 ?_;apply wD (f:=36) (caps:=[]) rfl (cr a c A B ha hc) rfl;apply wD (f:=36) (caps:=[]) rfl (cr a d A B ha hd) rfl;apply wD (f:=36) (caps:=[]) rfl (cr b c A B hb hc) rfl;apply wD (f:=36) (caps:=[]) rfl (cr b d A B hb hd) rfl;apply bh (us:=rQ (hU a b c d));apply aA (OL (hU a b c d) (A+B) (Ck ha hb hc hd) O O bY);exact aN
def Cz(a b c d:Rat)(A B:Nat)(ha:Fit A a)(hb:Fit A b)(hc:Fit B c)(hd:Fit B d)(h1:1<=A:=by omega)(h:A+B<=4294967296:=by omega):aK prog 67 [(kP a b:aF),(kP c d:aF)] (.ret [kP (jq a b c d) (jz a b c d)]):=by
 refine dB func67 bK6 ?_;apply aA (bH3 a b c d A B h1 ha hb hc hd h);exact aN
def me(a b:Rat)(A B:Nat)(ha:Fit A a)(hb:Fit B b)(h:B+A<=4294967296:=by omega):aK prog 80 [(kP a b:aF)] (.ret [qT (b-a)]):=by
 refine dB func80 aO7 ?_;apply aA (Rp b a B A hb ha);exact aN
end Go.Sy
