/- Tail of a small case.
-/
import Derived.Test.YtdmcadckdnnglaaGreatDoorYa
set_option linter.unusedVariables false
set_option linter.unusedSimpArgs false
namespace Go.Sy
open Go Go.Proofs Tryz Ord
def ao7:Tr:=aJ 21 [(G5 0)] [none] [12] [42] 55 true (aQ .neq 55 13 0 4 0 4 (.split (.u 5 0) (.ret [(.agg [tN,(tE (.bool false)),tN]),(WK 2)]) (aJ 121 [(.one (.gS 129 [(.ref 0 [(.u 0 0),(.u 0 1),(.u 0 2),(.u 0 3),(.u 0 4)]),(.ref 0 [(.u 2 0)]),(.ref 0 [(.u 3 0),(.u 3 1),(.u 3 2)]),(.ref 0 [(.u 1 0)]),(.ref 0 [(.k (.slice none 0 0)),(.k (.bool false)),(.k (.slice none 0 0))])]))] [none] [16] [1] 55 true (.ret [(.agg [tN,(tE (.bool false)),tN]),(W 6 0)]))))
theorem Uf:aN prog f45 (fun _=>none) [.v (some 5), .v none, .v none, .v (some 3)] = ao7:=by kernel_rfl
theorem Od {m N D S E T L a b c:Nat} (hq:pF m N D S E ≤ 2 ^ a) (hr:eO m N D S L ≤ 2 ^ b) (hd:D ≤ 2 ^ c) (ht:T ≤ 2 ^ 10):tI m N D S E T L ≤ 2 ^ (c + a * N + (10 + b * (N + 1))):=by
 unfold tI
 rw [Nat.pow_add 2 (c + a * N),Nat.pow_add 2 c,Nat.pow_mul 2 a N,Nat.pow_add 2 10,Nat.pow_mul 2 b]
 exact Nat.mul_le_mul (Nat.mul_le_mul hd (Nat.pow_le_pow_left hq N)) (Nat.mul_le_mul ht (Nat.pow_le_pow_left hr (N + 1)))
theorem Xo:dM ≤ 2 ^ 80000 ∧ ∀ m,m < 5 → pF m 1500 dM sM (cK 999) ≤ 2 ^ 150000 ∧ eO m 1500 dM sM 101 ≤ 2 ^ 80000 ∧ pF m 200 dM sM (cK 999) ≤ 2 ^ 150000 ∧ eO m 200 dM sM 101 ≤ 2 ^ 80000:=by decide +kernel
theorem Hy {m N D S E T L a b c B:Nat} (hq:pF m N D S E ≤ 2 ^ a) (hr:eO m N D S L ≤ 2 ^ b) (hd:D ≤ 2 ^ c) (ht:T ≤ 2 ^ 10) (hB:c + a * N + (10 + b * (N + 1)) < B):tI m N D S E T L < 2 ^ B:=
 Nat.lt_of_le_of_lt (Od hq hr hd ht) (Nat.pow_lt_pow_right (by decide) hB)
def Aw:Nat:=345160011
def Jj:Nat:=46160011
theorem Np (m:Nat) (hm:m < 5):tI m 1500 dM sM (cK 999) 999 101 < 2 ^ Aw:=by
 obtain ⟨h0,h⟩:=Xo
 obtain ⟨h1,h2,_,_⟩:=h m hm
 exact Hy h1 h2 h0 (by decide) (by decide)
theorem RY (m:Nat) (hm:m < 5):tI m 200 dM sM (cK 999) 999 101 < 2 ^ Jj:=by
 obtain ⟨h0,h⟩:=Xo
 obtain ⟨_,_,h1,h2⟩:=h m hm
 exact Hy h1 h2 h0 (by decide) (by decide)
section
variable {c:bI}
theorem jT.ax0 (h:jT c) (hok:okF c.E c.X c.Y = true):ad1 (cF c.E c.X) (c.E.length - 1) (bH c.E c.X) c.Y dM sM (cK 999) 999 101:=by
 obtain ⟨h2,h5,hyl,hld,_⟩:=kD hok
 have hm:=h.Tw
 obtain ⟨p,hp,hp0⟩:=lT hld (by omega)
 exact ⟨vT,fS _,al7,by omega,by omega,hm,(hm p (List.mem_of_getElem? hp)).2 _ (List.mem_of_getElem? hp0),hld,h.yb,by rw [cF,List.length_map]; omega⟩
theorem jT.YN (h:jT c) (hok:okF c.E c.X c.Y = true):kK Aw (cF c.E c.X) (c.E.length - 1) (bH c.E c.X) c.Y 1500:=by
 have h5:=(kD hok).2.1
 exact Ez (h.ax0 hok) (by omega) (by omega) (Np _ (by omega))
theorem jT.QH (h:jT c) (hok:okF c.E c.X c.Y = true):kK Jj (cF c.E c.X) (c.E.length - 1) (bH c.E c.X) c.Y 200:=by
 have h5:=(kD hok).2.1
 exact Ez (h.ax0 hok) (by omega) (by omega) (RY _ (by omega))
end
theorem lS {q:List (List Rat)} {m:Nat} {lead bG:Rat} {st:Nat} (hm:1 ≤ m) (h:dN q m lead = some (bG,st)):∃ hh,hh ≤ 62 ∧ bG = aX hh ∧ st ≤ 4096 ∧ m + aU q + m ≤ st:=by
 obtain ⟨hh,ii,hrv,f1,_,_,_,_,_⟩:=Ch (q:=q) (m:=m) (lead:=lead) hm
 rw [h] at hrv
 split at hrv
 ·cases hrv
 ·rename_i hc
  simp only [Option.some.injEq,Prod.mk.injEq] at hrv
  obtain ⟨rfl,rfl⟩:=hrv
  have h1:1 ≤ 2 ^ ii:=Nat.pow_pos (by omega)
  have h2:(m + aU q + m) * 1 ≤ (m + aU q + m) * 2 ^ ii:=Nat.mul_le_mul_left _ h1
  generalize (m + aU q + m) * 2 ^ ii = st at *
  exact ⟨hh,by omega,rfl,by omega,by omega⟩
def yRn (n:Nat):Nat:=cK 999 ^ n
def zRn (n:Nat):Nat:=999 ^ n
def pRn (n:Nat):Nat:=oG ^ n
def sRn (n:Nat):Nat:=4 ^ n
theorem ao0:yRn 3001 < 2 ^ 8388608 ∧ zRn 3001 * yRn 3001 < 2 ^ 8388608 ∧ pRn 3001 < 2 ^ 8388608 ∧ sRn 3001 * pRn 3001 < 2 ^ 8388608:=by decide +kernel
theorem Tc {hh j n:Nat} (h:hh ≤ 63) (hj:j ≤ n):Bd (pRn n) (sRn n) (aX hh ^ j):=by unfold pRn sRn; exact Bq (pH h) hj
theorem ab0 (n:Nat):pRn n ≠ 0:=by unfold pRn; exact GZ _
theorem YG (n:Nat):yRn n ≠ 0:=Nat.pos_iff_ne_zero.1 (Nat.pow_pos (Nat.pos_of_ne_zero (fS _)))
theorem aw2 {r:Rat} (hr:Bd (cK 999) 999 r) {j n:Nat} (hj:j ≤ n):Bd (yRn n) (zRn n) (r ^ j):=by
 unfold yRn zRn; exact (Bd.pow (fS _) hr j).mono (Nat.pow_dvd_pow _ hj) (Nat.pow_le_pow_right (by decide) hj)
theorem fI {r:Rat} (hr:Bd (cK 999) 999 r) {hh n d B:Nat} (h62:hh ≤ 62) (hn:n ≤ 1500) (hd:d ≤ 4) (hB:8388608 ≤ B):oC B (aX hh) n d r:=by
 obtain ⟨r1,r2,r3,r4⟩:=ao0
 have e1:∀ j,j ≤ 3001 → Fit 8388608 (r ^ j):=fun j hj=>(aw2 hr hj).fit (YG _) r1 r2
 have e2:∀ j,j ≤ 3001 → Fit 8388608 (aX hh ^ j):=fun j hj=>(Tc (Nat.le_trans h62 (by decide)) hj).fit (ab0 _) r3 r4
 clear r1 r2 r3 r4
 refine ⟨fun j hj=>?_,fun j hj=>(e1 j (by omega)).mono hB,fun j hj=>(e2 j (by omega)).mono hB⟩
 have hz:=pM (z:=(n:Int)) (N:=1504) j (by omega)
 have h2:(1504:Nat) ^ j ≤ 1504 ^ 4:=Nat.pow_le_pow_right (by omega) (by omega)
 have h3:(1504:Nat) ^ 4 = 5116716384256:=by decide
 rw [h3] at h2
 exact (dH (by omega) (by omega)).mono (by omega)
theorem FV {a:List Rat} {bG:Rat} {B n0 W st:Nat} (haf:∀ x ∈ a,Fit B x) (h1:1 ≤ B) (hrho:∀ j,j ≤ st → Fit B (bG ^ j)) (hw:n0 + W ≤ st):∀ k,k ≤ W → Fit (B + B) (EU a bG n0 k)
 | 0,_=>Fit.zero (by omega)
 | k + 1,hk=>by
   rw [EU]
   refine rO (by omega) (fun x hx=>?_) 2 (by simp)
   simp only [List.mem_cons,List.not_mem_nil,or_false] at hx
   rcases hx with rfl | rfl
   ·exact FV haf h1 hrho hw k (by omega)
   ·exact (gZ (kF h1 haf _)).mul (hrho _ (by omega))
theorem Jc (e:List (List Rat)) (c:Rat) (y:List Rat) (n d:Int) (r:Rat) (hck:aL prog 21 [fT e c y] (.ret [.one (.int .i64 2)])):aL prog 45 [(fT e c y:aH),(.one (.int .i64 n):aH),(.one (.int .i64 d):aH),(qT r:aH)] (.ret [qT 0, .one (.int .i64 2)]):=by
 refine aD (args:=[.v (some 5), .v none, .v none, .v (some 3)]) (ins:=[.v (fT e c y), .v (.one (.int .i64 n)), .v (.one (.int .i64 d)), .v (qT r)]) (hints:=(fun _=>none)) fo (by kernel_rfl) func45 ⟨rfl,rfl,rfl,rfl,trivial⟩ ?_
 rw [Uf]
 dsimp only [List.map,In.env,aB,aA]
 refine aC hck rfl ?_
 dsimp only [aB,aA]
 refine vn dR rfl ?_
 dsimp only [aB,aA]
 refine vs _ rfl (fun h2=>?_) (fun h2=>?_)
 ·exact dA ⟨fA,aH.Sub.same,trivial⟩
 exact absurd (by decide) h2
theorem aq3 {M:Nat → Prop} {w:World} {e:List (List Rat)} {c:Rat} {y:List Rat} {us:List Value} (h:aZ M w (fC e c y) us):∃ u0 u1 u2 u3 u4,us = [u0,u1,u2,u3,u4]:=am6 h
theorem uD (e:List (List Rat)) (c r:Rat) (y:List Rat) (d n er:Int) (v:Rat)
  (hck:aL prog 21 [fT e c y] (.ret [.one (.int .i64 0)])) (hcl:(v = 0 ∧ aL prog 129 [.one (.bM (fC e c y)), .one (.bM [.int .i64 d]), .one (.bM (qC r)), .one (.bM [.int .i64 n]), .one (.bM z3)] (.pan (MI er))) ∨ (er = 0 ∧ BD prog 129 39 [.one (.bM (fC e c y)), .one (.bM [.int .i64 d]), .one (.bM (qC r)), .one (.bM [.int .i64 n])] z3 [] (qC v))) :
  aL prog 45 [fT e c y, .one (.int .i64 n), .one (.int .i64 d),qT r] (.ret [qT v, .one (.int .i64 er)]):=by
 refine ⟨bO (by kernel_rfl),fun M w vs hM hv=>?_⟩
 match vs,hv with
 | [f,nv,dv,rv],hv=>
   obtain ⟨us,rfl,hus⟩:=hv.1
   obtain ⟨u0,u1,u2,u3,u4,rfl⟩:=aq3 hus
   have hn:nv = .int .i64 n:=hv.2.1.1
   have hd:dv = .int .i64 d:=hv.2.2.1.1
   obtain ⟨rs,rfl,hrs⟩:=hv.2.2.2.1
   obtain ⟨r0,r1,r2,rfl⟩:=UY hrs
   subst hn hd
   refine (SM M w hM e c r y d n er v hck hcl u0 u1 u2 u3 u4 r0 r1 r2 hus hrs).mono ?_
   rintro x w' ⟨hb,y0,y1,y2,rfl,hy⟩
   exact ⟨hb,[.agg #[y0,y1,y2], .int .i64 er],rfl,⟨_,rfl,hy⟩,⟨rfl,rfl⟩,trivial⟩
 | [],hv=>exact hv.elim
 | [_],hv=>exact hv.2.elim
 | [_,_],hv=>exact hv.2.2.elim
 | [_,_,_],hv=>exact hv.2.2.2.elim
 | _ :: _ :: _ :: _ :: _ :: _,hv=>exact hv.2.2.2.2.elim
def Tm (E:List (List Rat)) (X:Rat) (Y:List Rat) (bG:Rat) (st:Nat):Rat:=
 EU (bD (cF E X) (E.length - 1) (bH E X) Y st) bG (st - (E.length - 1 + aU (cF E X))) (E.length - 1 + aU (cF E X))
def rS (E:List (List Rat)) (X:Rat) (Y:List Rat) (n d:Int) (r:Rat):Rat × Int:=
 if okF E X Y = true then (match dN (cF E X) (E.length - 1) (bH E X) with
  | some (bG,st)=>if uH bG st n d r ∧ dV bG n d r < 1 then (wE (Tm E X Y bG st) bG n.toNat d.toNat r,0) else (0,3)
  | none=>(0,5)) else (0,2)
section
variable {c:bI}
theorem GK (h:jT c) (n d:Int) (r:Rat) (hr:Bd (cK 999) 999 r) (hrf:Fit 513 r) (hn1:-9223372036854775808 ≤ n) (hn2:n < 9223372036854775808) :
  aL prog 45 [fT c.E c.X c.Y, .one (.int .i64 n), .one (.int .i64 d),qT r] (.ret [qT (rS c.E c.X c.Y n d r).1, .one (.int .i64 (rS c.E c.X c.Y n d r).2)]):=by
 have hck:=Hz c.E c.X c.Y h.e1 h.xf (by have:=h.yl; omega)
 unfold rS
 by_cases hok:okF c.E c.X c.Y = true
 ·rw [if_pos hok] at hck ⊢
  have hrx:=KB hok
  obtain ⟨h2,h5,hyl,hld,hne⟩:=kD hok
  have hat:=xV h.toSmallX hrx
  have hre:=vO h.toSmallX hrx
  have S:=h.YN hok
  have hmB:=h.Tw
  unfold wA at hre
  cases hv:dN (cF c.E c.X) (c.E.length - 1) (bH c.E c.X) with
  | none=>rw [hv] at hre; exact uD _ _ _ _ _ _ 5 0 hck (.inl ⟨rfl,DT _ _ _ _ _ _ _ _ _ 5 hat hre⟩)
  | some x=>
    obtain ⟨bG,st⟩:=x
    rw [hv] at hre
    obtain ⟨hh,hh62,rfl,hst,hW⟩:=lS (by omega) hv
    have hrho1:Fit 8388608 (aX hh):=(fI hr hh62 (n:=1) (d:=0) (by omega) (by omega) (Nat.le_refl _)).o1
    dsimp only
    by_cases hc:uH (aX hh) st n d r ∧ dV (aX hh) n d r < 1
    ·rw [if_pos hc]
     obtain ⟨o1,o2,o3,o4,o5,o6,o7⟩:=hc.1
     obtain ⟨n',hn'⟩:∃ n':Nat,n = (n':Int):=⟨n.toNat,by omega⟩
     obtain ⟨d',hd'⟩:∃ d':Nat,d = (d':Int):=⟨d.toNat,by omega⟩
     subst hn' hd'
     rw [Int.toNat_natCast,Int.toNat_natCast]
     have C:oC (Aw + Aw) (aX hh) n' d' r:=fI hr hh62 (by omega) (by omega) (by decide)
     have hrho:∀ j,j ≤ 2 * st + 1 → Fit Aw (aX hh ^ j):=(fI hr hh62 (n:=st) (d:=0) (by omega) (by omega) (by decide)).fo
     refine uD _ _ _ _ _ _ 0 _ hck (.inr ⟨rfl,?_⟩)
     exact GX c.E c.X c.Y d' n' st r (cF c.E c.X) (c.E.length - 1) (bH c.E c.X) (aX hh) Aw 1500 (Aw + Aw) hat hre C (vM hh) hc.1 hc.2 S (by decide) (by omega) (by omega) (by omega) (Nat.le_refl _) (by decide) (by decide) (by rw [cF,List.length_map]; omega) hyl (fun p hp=>by have:=(hmB p hp).1; omega) hld (by omega) hrho
      (FV (fun x hx=>zP S (by omega) hx) (by decide) (fun j hj=>hrho j (by omega)) (st:=st) (by omega) _ (Nat.le_refl _))
    ·rw [if_neg hc]
     exact uD _ _ _ _ _ _ 3 0 hck (.inl ⟨rfl,Fc c.E c.X c.Y d n r _ _ _ (aX hh) st 8388608 hat hre (hrf.mono (by decide)) hrho1 (by decide) (by decide) hn1 hn2 (vM hh) (by omega) (fun h1 h2=>hc ⟨h1,h2⟩)⟩)
 ·rw [if_neg hok] at hck ⊢
  exact Jc c.E c.X c.Y n d r hck
end
end Go.Sy
