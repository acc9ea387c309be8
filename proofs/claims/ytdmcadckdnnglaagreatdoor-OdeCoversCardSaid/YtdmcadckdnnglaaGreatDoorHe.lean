/- Part. -/
import Derived.Test.YtdmcadckdnnglaaGreatDoorHc
set_option linter.all false
namespace Go.Sy
open Go Go.Proofs Tryz Ord
section
variable{E:List (List Rat)}{ER:List (List RQ)}{X:Rat}{XR:RQ}
end
abbrev bR2(q:List (List Rat))(m:Nat)(lead aB:Rat)(st:Nat)(t:Rat)(k:Int)(n d j:Nat):List (List aE):=(List.range j).map fun l=>bD9 (.of (KY q m lead aB st t k n d l)) (.of (JS q m lead aB st t k n d l))
abbrev bR8(q:List (List Rat))(m:Nat)(lead aB:Rat)(st:Nat)(t:Rat)(k:Int)(n i:Nat):List (List aE):=(List.range i).map fun d=>[.slice 8 (bR2 q m lead aB st t k n d m)]
def aO2(E:List (List Rat))(X aB:Rat)(st:Nat)(t:Rat)(k:Int):List (List aE)×Int:=
 match dm E X aB st t (E.length-1-1) k with
 | some N=>(bR8 (aV E X) (E.length-1) (aF E X) aB st t k N (E.length-1),0)
 | none=>([],1)
section
variable{E:List (List Rat)}{ER:List (List RQ)}{X:Rat}{XR:RQ}
def Sf(hr:gT E X){aB t:Rat}{st:Nat}{k:Int}(hv:ba (aV E X) (E.length-1) (aF E X)=some (aB,st))(ht:rK t)(h2:t.abs*2<=aB)(hk:k<=256):kq E X aB st t k:=by
 have e:t.abs+t.abs=t.abs*2:=by grind
 exact⟨hv,ht,by rw[e];exact h2,hk⟩
end
def aS4:Tr:=iJ 0 0 0 3 3 (bI 1)
def aB9:aM prog f273 bZ [.v none]=aS4:=by kernel_rfl
def ZG:Tr:=fW 1 1 1 1 2
def br4:Tr:=ZS 273 ZG
def bD0:aM prog f235 bZ [.v none]=br4:=by kernel_rfl
def bl8:Tr:=uM 235 0 3 3 40 39 (lZ 208 0 3 5 40 39 (vD 1 2 0 1 2))
def VO:aM prog f162 bZ [.v none]=bl8:=by kernel_rfl
def aR7:Tr:=Yx 0 1 2 0 1 2 7 9 11 (Yx 0 1 2 3 4 5 13 15 17 (Yx 3 4 5 0 1 2 19 21 23 (.need (.callv (.u 0 0) [(.agg [(U 1 3),(U 1 4),(U 1 5)]),(.agg [(U 2 3),(U 2 4),(U 2 5)])] [(some 3)]) (.call ⟨.value (tT 25),#[(tT 27),(tT 29)],#[39,39]⟩) 39 true (.need (.lit 3 [[(.u 3 0),(.u 3 1),(.u 3 2)],[(.u 4 0),(.u 4 1),(.u 4 2)],[(.u 5 0),(.u 5 1),(.u 5 2)],[(.u 6 0),(.u 6 1),(.u 6 2)]]) (.buildSlice 40 4 #[(0,(tT 12)),(1,(tT 18)),(2,(tT 24)),(3,(tT 30))]) 40 false (wO 162 3 7 6 31 40 123 (vD 8 8 3 4 5))))))
def aZ4:aM prog f156 bZ [.v none,.v (some 6),.v (some 6)]=aR7:=by kernel_rfl
def aS9:Tr:=.need (.call 156 [(.one (.jO 36 [])),(G6 0),(G6 1)] [(some 6)]) (.call ⟨.value (.func 156),#[(.func 36),(tT 5),(tT 6)],#[224,123,123]⟩) 123 true (vD 2 2 3 4 5)
def aX5:aM prog f67 bZ [.v (some 6),.v (some 6)]=aS9:=by kernel_rfl
def bi4:Tr:=iQ 167 0 3 0 4 0 5 0 0 0 1 0 2 4 6 ZG
def ac5:aM prog f80 bZ [.v (some 6)]=bi4:=by kernel_rfl
def aY6:Tr:=dV 206 [(G2 1)] [none] [5] [47] 9 false (au 2 0 6 9 (nA 136 0 2 8 47 (dV 206 [(G2 4)] [none] [9] [47] 9 false (au 5 0 10 9 (fG 3 0 6 0 3 7 11 (bI 7))))))
def be1:Tr:=Mb 148 4 aY6
def aW6:aM prog f159 bZ [.v (some 4)]=be1:=by kernel_rfl
def bj3:Tr:=aH 3 0 (dV 141 [(G4 0),(G4 1)] [(some 4)] [9,10] [49,49] 49 false (nA 60 4 4 11 49 (DR 50 1 4 49 (dV 47 [(G4 5),(G4 6)] [none] [12,13] [49,49] 3 false (jb 7 0 0 3 14 (bI 8)))))) (hx163Q )
def bt4:Tr:=dV 159 [(G4 0)] [none] [5] [49] 3 false (jb 2 0 6 3 6 bj3)
def am8:aM prog f70 bZ [.v (some 4),.v (some 4)]=bt4:=by kernel_rfl
def iG(l:List Rat):Nat->Rat
 | 0=>0
 | i+1=>if i=0\/l.getD i 0<iG l i then l.getD i 0 else iG l i
theorem Eg{l:List Rat}:∀i,i<=l.length->iG l i=0\/iG l i∈l
 | 0,_=>.inl rfl
 | i+1,h=>by
   rw[iG];split
   ·exact .inr (bc (bX (show i<l.length by omega)))
   ·exact Eg i O
def rV{l:List Rat}{B:Nat}(h:∀x∈l,Fit B x)(i:Nat)(hi:i<=l.length)(hB:1<=B:=by omega):Fit B (iG l i):=by
 rcases Eg i hi with e | e
 ·rw[e];exact Fit.zero hB
 ·exact h _ e
def SN{a b:Rat}:ku a b<0↔a<b:=by
 unfold ku;by_cases h1:a<b
 ·rw[if_pos h1];exact⟨fun h=>h1,fun h=>O⟩
 ·rw[if_neg h1];by_cases h2:b<a
  ·rw[if_pos h2];exact⟨fun _=>O,fun h=>absurd h h1⟩
  ·rw[if_neg h2];exact⟨fun h=>O,fun h=>absurd h h1⟩
def ax0(c:Int):aL prog 273 [(.one (.int .i64 c):aG)] (.ret [.one (.bool (decide (c<0)))]):=by
 refine bw func273 aB9 ?_;apply vn ak;exact aK
def RC(l:List Rat)(B:Nat)(hl:∀x∈l,Fit B x)(hB:1<=B)(hB2:B<=8589934592)(hs:l.length<1099511627776):aL prog 258 [(.one (.jO 273 []):aG),(.one (sQ l):aG)] (.ret [qT (iG l l.length)]):=by
 refine bw func258 NX ?_;apply vn (aU sD (aR _));refine ao {i:Nat // i<=l.length} (fun g=>(.one (.int .i64 g.1):aG)::(qC (iG l g.1)).map .one) (fun g=>l.length-g.1) ⟨0,bO _⟩ ⟨aG.Sub.same,pn⟩ (fun _=>rfl) ?_;rintro⟨i,hi⟩;dsimp only[aO,aP,List.map]at hi|-;apply vn ak;refine vs _ rfl ?_ ?_<;>intro h3
 ·have hil:i<l.length:=O
  have hfx:=hl _ (bc (bX hil));have hfm:=rV hl i hi hB;apply vn (aZ sD (bX hil) (cS i));apply vn (bB ov (by decide) (by simp) (.inl rfl));apply vn bK;refine vs _ rfl ?_ ?_<;>intro h7
  ·apply vn aC
   exact aW rfl ⟨⟨i+1,O⟩,(by
    dsimp only;rw[iG,if_pos (.inl O)];exact aQ.rfl),by show l.length-(i+1)<l.length-i;omega⟩
  apply aA (pN _ _ B B hfx hfm);apply sO (f:=273) (caps:=[]) rfl (ax0 (ku (l.getD i 0) (iG l i))) rfl;refine vs _ rfl ?_ ?_<;>intro h12
  ·apply vn aC
   exact aW rfl ⟨⟨i+1,O⟩,(by
    dsimp only;rw[iG,if_pos (.inr (SN.1 h12))];exact aQ.rfl),by show l.length-(i+1)<l.length-i;omega⟩
  apply vn aC
  exact aW rfl ⟨⟨i+1,O⟩,(by
   dsimp only;rw[iG,if_neg (by rintro(h | h);omega;exact h12 (SN.2 h))];exact aQ.rfl),by show l.length-(i+1)<l.length-i;omega⟩
 rw[show l.length=i by omega];exact aK
def Xw(l:List Rat)(B:Nat)(hl:∀x∈l,Fit B x)(hB:1<=B)(hB2:B<=8589934592)(hs:l.length<1099511627776):aL prog 235 [(.one (sQ l):aG)] (.ret [qT (iG l l.length)]):=by
 refine bw func235 bD0 ?_;apply aA (RC l B hl hB hB2 hs);exact aK
def Ik(l:List Rat)(B:Nat)(hl:∀x∈l,Fit B x)(hB:1<=B)(hB2:B<=8589934592)(hs:l.length<1099511627776):aL prog 162 [(.one (sQ l):aG)] (.ret [ow (iG l l.length) (gZ l l.length)]):=by
 refine bw func162 VO ?_;apply aA (Xw l B hl hB hB2 hs);apply aA (Ud l B hl hB hB2 hs);exact aK
abbrev gW(a b c d:Rat):List Rat:=[a*c,a*d,b*c,b*d]
def kA(a b c d:Rat):Rat:=iG (gW a b c d) 4
def jx(a b c d:Rat):Rat:=gZ (gW a b c d) 4
def yY{a b c d:Rat}{A B:Nat}(ha:Fit A a)(hb:Fit A b)(hc:Fit B c)(hd:Fit B d):∀x∈gW a b c d,Fit (A+B) x:=fun x hx=>by
 simp only[gW,List.mem_cons,ja,gY]at hx;rcases hx with rfl | rfl | rfl | rfl
 ·exact ha.mul hc
 ·exact ha.mul hd
 ·exact hb.mul hc
 ·exact hb.mul hd
def Cm{a b c d:Rat}{A B:Nat}(h1:1<=A)(ha:Fit A a)(hb:Fit A b)(hc:Fit B c)(hd:Fit B d):Fit (A+B) (kA a b c d)/\Fit (A+B) (jx a b c d):=
 ⟨rV (yY ha hb hc hd) 4 (by simp),pY (yY ha hb hc hd) 4 (by simp)⟩
def aT9(a b c d:Rat)(A B:Nat)(h1:1<=A)(ha:Fit A a)(hb:Fit A b)(hc:Fit B c)(hd:Fit B d)(h:A+B<=4294967296):aL prog 156 [(.one (.jO 36 []):aG),(ow a b:aG),(ow c d:aG)] (.ret [ow (kA a b c d) (jx a b c d)]):=by
 refine bw func156 aZ4 ?_;apply sO (f:=36) (caps:=[]) rfl (bg a c A B ha hc) rfl;apply sO (f:=36) (caps:=[]) rfl (bg a d A B ha hd) rfl;apply sO (f:=36) (caps:=[]) rfl (bg b c A B hb hc) rfl;apply sO (f:=36) (caps:=[]) rfl (bg b d A B hb hd) rfl;apply bF (us:=rQ (gW a b c d));apply aA (Ik (gW a b c d) (A+B) (yY ha hb hc hd) O O (by simp));exact aK
def Rs(a b c d:Rat)(A B:Nat)(h1:1<=A)(ha:Fit A a)(hb:Fit A b)(hc:Fit B c)(hd:Fit B d)(h:A+B<=4294967296:=by omega):aL prog 67 [(ow a b:aG),(ow c d:aG)] (.ret [ow (kA a b c d) (jx a b c d)]):=by
 refine bw func67 aX5 ?_;apply aA (aT9 a b c d A B h1 ha hb hc hd h);exact aK
def sg(a b:Rat)(A B:Nat)(ha:Fit A a)(hb:Fit B b)(h:B+A<=4294967296:=by omega):aL prog 80 [(ow a b:aG)] (.ret [qT (b-a)]):=by
 refine bw func80 ac5 ?_;apply aA (KE b a B A hb ha);exact aK
end Go.Sy
