/- Part. -/
import Derived.Test.YtpaidpkaechleaaGreatDoorEd
set_option linter.all false
namespace Go.Sy
open Go Go.Proofs Tryz Ord
def Hg (k:Nat):Nat:=if k<6 then 0 else if k<15 then 1 else if k<23 then 2 else if k<29 then 3 else if k<40 then 4 else if k<48 then 5 else if k<53 then 6 else 7
theorem SR (k:Nat):Hg k≤11:=by unfold Hg;(repeat' split)<;>omega
theorem TA:∀ k,k<61→∀ m,m<Hg k→cE (rD (8*(m+1))) k≠cE (rH (8*(m+1))) k:=by decide +kernel
theorem Un:∀ k,k<61→cE (rD (8*(Hg k+1))) k=cE (rH (8*(Hg k+1))) k:=by decide +kernel
theorem Mq:∀ k:Nat,k<61→(lZ wV k (Ew k)).1=cE (rD (8*(Hg k+1))) k∧(lZ wV k (Ew k)).2=tP (rH (8*(Hg k+1))) k:=by decide +kernel
theorem kO (k:Int) (hk:k≤60):aJ prog 10 [.one (.int .i64 k)] (.ret [fI (.of (cE (rD (8*(Hg k.toNat+1))) k.toNat)) (.of (tP (rH (8*(Hg k.toNat+1))) k.toNat))]):=
 VQ k (Hg k.toNat) (SR _) (TA k.toNat (by omega)) (Un k.toNat (by omega))
theorem Kk (k:Nat) (hk:k<61:=by omega):Fit 5000 (lZ wV k (Ew k)).1∧Fit 5000 (lZ wV k (Ew k)).2:=by
 have hp:=Aq (Ew k) (by unfold Ew;split<;>(try split)<;>omega);exact ⟨(gZ hp.1).mono (by omega),(wP hp.2).mono (by omega)⟩
theorem nR (k:Int) (hk:k≤60):aJ prog 8 [cP (lZ wV k (Ew k.toNat)),fI (.of (cE (rD (8*(Hg k.toNat+1))) k.toNat)) (.of (tP (rH (8*(Hg k.toNat+1))) k.toNat))] (.ret [.one (.bool true)]):=by
 have h:=Mq k.toNat (by omega);have e:lZ wV k (Ew k.toNat)=lZ wV (k.toNat:Int) (Ew k.toNat):=by unfold lZ;rw [Int.toNat_natCast]
 rw [e];have hf:=Kk k.toNat;have hd:=jS _ _ (.of (cE (rD (8*(Hg k.toNat+1))) k.toNat)) (.of (tP (rH (8*(Hg k.toNat+1))) k.toNat)) 5000 hf.1 hf.2 (h.1▸hf.1) (h.2▸hf.2)
 rwa [decide_eq_true ⟨h.1,h.2⟩] at hd
structure Yw (x:Rat) (n k:Int) (a b:Rat) (e:Int):Prop where
 run:aJ prog 7 [qT x, .one (.int .i64 n), .one (.int .i64 k)] (.ret [cP (a,b), .one (.int .i64 e)])
 bad:n<1∨64<n→e=3∧a=0∧b=0
 opn:1≤n→n≤64→n%2=0→x.num<0→e=11∧a=0∧b=0
 ok:1≤n→n≤64→¬ (n%2=0∧x.num<0)→e=0∧∃ c d,aJ prog 14 [jO (.of x), .one (.int .i64 n), .one (.int .i64 k)] (.ret [fI c d])∧aJ prog 8 [cP (a,b),fI c d] (.ret [.one (.bool true)])
theorem kN (x:Rat) (n k:Int) (hx:Fit 1024 x) (hk:k≤60):∃ a b e,Yw x n k a b e:=by
 by_cases hb:n<1∨64<n
 ·exact ⟨0,0,3,EL x n k hb,fun _=>⟨rfl,rfl,rfl⟩,fun _ _=>by omega,fun _ _=>by omega⟩
 ·obtain ⟨m,rfl⟩:∃ m:Nat,n=(m:Int):=⟨n.toNat,by omega⟩
  have hm1:1≤m:=by omega
  have hm64:m≤64:=by omega
  by_cases ho:m%2=0∧x.num<0
  ·exact ⟨0,0,11,Ei x m k hm1 hm64 ho.2 ho.1,fun h=>absurd h hb,fun _ _ _ _=>⟨rfl,rfl,rfl⟩,fun _ _ h=>absurd ⟨by omega,ho.2⟩ h⟩
  ·obtain ⟨y,hy⟩:∃ y:Rat,y=if x.num<0 then -x else x:=⟨_,rfl⟩
   have hy0:0≤y.num:=by
    rw [hy];split
    ·rw [Rat.neg_num];omega
    ·omega
   have hyf:Fit 1024 y:=by
    rw [hy];split
    ·exact hx.neg
    ·exact hx
   obtain ⟨g,hg1,hg2⟩:=HJ hy0 k.toNat m;obtain ⟨r,hr1,hr2⟩:=Cz g m hm1;have hkm:k.toNat*m≤60*64:=Nat.mul_le_mul (by omega) hm64;obtain ⟨Z,hZ⟩:∃ Z:Nat,Z=5000:=⟨_,rfl⟩
   have hG:g<2^Z:=by
    have hf:=fS (hyf.mul (pU (kR k.toNat) m));rw [hg1] at hf
    have h1:g<2^(1024+((k.toNat+1)*m+1)):=by
     have:=hf.1
     rwa [Rat.num_intCast,Int.natAbs_natCast] at this
    refine Nat.lt_of_lt_of_le h1 (Nat.pow_le_pow_right (by omega) ?_);rw [Nat.add_mul,Nat.one_mul];clear h1;omega
   have hgr:r<2^Z:=Nat.lt_of_le_of_lt (Nat.le_trans (Nat.le_self_pow (by omega) r) hr1) hG;have hrf:Fit Z ((r:Int):Rat):=iZ hgr;have hdf:Fit 100 (gX k.toNat):=(EB _).mono (by omega)
   have hS:Fit 6000 (gY y m (gX k.toNat) r).1∧Fit 6000 (gY y m (gX k.toNat) r).2:=by
    unfold gY;split
    ·exact ⟨(hrf.mul hdf).mono (by omega),(hrf.mul hdf).mono (by omega)⟩
    ·exact ⟨(hrf.mul hdf).mono (by omega),((hrf.mul hdf).add hdf).mono (by omega)⟩
   have hF:=Kq (.of y) m k g r Z 1024 hy0 hg2 hr1 hr2 hG hm1 hm64 hyf;have hs:=Im (x:=.of y) (k:=k.toNat) (n:=m) (r:=r) (xq:=y) rfl;by_cases hneg:x.num<0
   ·rw [if_pos hneg] at hy;subst hy;have hodd:m%2=1:=by have:=fun h=>ho ⟨h,hneg⟩;omega
    refine ⟨_,_,0,JV x m k g r Z 1024 hg1 hr1 hr2 hG hm1 hm64 hneg hodd hx,fun h=>absurd h hb,fun _ _ h=>by omega,fun _ _ _=>⟨rfl,_,_,JT (.of x) m k _ _ hneg hF,?_⟩⟩;have hd:=jS (yB (gY (-x) m (gX k.toNat) r)).1 (yB (gY (-x) m (gX k.toNat) r)).2 (.of (-(nD (.of (-x)) m k.toNat r 0).2.q)) (.of (-(nD (.of (-x)) m k.toNat r 0).1.q)) 6000 hS.2.neg hS.1.neg (by rw [RQ.rX,hs.2];exact hS.2.neg) (by rw [RQ.rX,hs.1];exact hS.1.neg)
    rwa [decide_eq_true ⟨by rw [RQ.rX,hs.2];rfl,by rw [RQ.rX,hs.1];rfl⟩] at hd
   ·rw [if_neg hneg] at hy;subst hy;refine ⟨_,_,0,IM y m k g r Z 1024 hg1 hr1 hr2 hG hm1 hm64 hx,fun h=>absurd h hb,fun _ _ _ h=>absurd h hneg,fun _ _ _=>⟨rfl,_,_,hF,?_⟩⟩;have hd:=jS (gY y m (gX k.toNat) r).1 (gY y m (gX k.toNat) r).2 (nD (.of y) m k.toNat r 0).1 (nD (.of y) m k.toNat r 0).2 6000 hS.1 hS.2 (by rw [hs.1];exact hS.1) (by rw [hs.2];exact hS.2)
    rwa [decide_eq_true ⟨hs.1.symm,hs.2.symm⟩] at hd
open Go Go.Proofs Tryz Ord
def aQ:Tr:=.ret [(tF false)]
def pZ:Tr:=aC 12 [] [none] [] [] 4 true (.ret [(W 20 0)])
def uY:Tr:=.split (.u 19 0) pZ aQ
def qB:Tr:=aC 12 [] [none] [] [] 4 true (.ret [(W 21 0)])
def uL:Tr:=aC 12 [] [none] [] [] 4 true (.ret [(W 23 0)])
def pO:Tr:=.split (.u 22 0) uL aQ
def OI:Tr:=aN .eql 40 69 0 11 0 4 (.split (.u 18 0) (aC 13 [(G4 4)] [none] [72] [35] 3 false (aN .gtr 3 73 12 19 0 4 (.split (.u 20 0) qB (aC 14 [(G4 4),(W 9 0),(W 6 0)] [(some 8)] [77,78,79] [35,3,3] 46 false (aC 8 [(G6 10),(G8 21)] [none] [76,80] [39,46] 4 false pO))))) aQ)
def uT:Tr:=.split (.u 20 0) qB aQ
def uA:Tr:=aC 12 [] [none] [] [] 4 true (.ret [(W 22 0)])
def tY:Tr:=aC 12 [] [none] [] [] 4 true (.ret [(W 24 0)])
def AD:Tr:=.split (.u 23 0) tY aQ
def Oy:Tr:=aN .eql 40 69 0 11 0 4 (.split (.u 19 0) (aC 13 [(G4 4)] [none] [72] [35] 3 false (aN .gtr 3 73 12 20 0 4 (.split (.u 21 0) uA (aC 14 [(G4 4),(W 9 0),(W 6 0)] [(some 8)] [77,78,79] [35,3,3] 46 false (aC 8 [(G6 10),(G8 22)] [none] [76,80] [39,46] 4 false AD))))) aQ)
def Bp:Tr:=aC 12 [] [none] [] [] 4 true (.ret [(W 25 0)])
def BG:Tr:=.split (.u 24 0) Bp aQ
def Gf:Tr:=.split (.u 23 0) (aC 8 [(G6 10),(.agg [(tE (.int .i64 0)),tN,(tE (.int .i64 0)),tN,(tE (.int .i64 0)),tN,(tE (.int .i64 0)),tN])] [none] [62,63] [39,46] 4 false BG) aQ
def Gq:Tr:=aC 12 [] [none] [] [] 4 true (.ret [(W 26 0)])
def Pr:Tr:=aN .gtr 3 73 12 24 0 4 (.split (.u 25 0) Gq (aC 14 [(G4 4),(W 9 0),(W 6 0)] [(some 8)] [77,78,79] [35,3,3] 46 false (aC 8 [(G6 10),(G8 26)] [none] [76,80] [39,46] 4 false (.split (.u 27 0) (aC 12 [] [none] [] [] 4 true (.ret [(W 28 0)])) aQ))))
def Hc:Tr:=aN .eql 40 69 0 11 0 4 (.split (.u 23 0) (aC 13 [(G4 4)] [none] [72] [35] 3 false Pr) aQ)
def CS:Tr:=.split (.u 25 0) Gq aQ
def KT:Tr:=aN .eql 40 69 0 11 0 4 (.split (.u 21 0) (aC 13 [(G4 4)] [none] [72] [35] 3 false (aN .gtr 3 73 12 22 0 4 (.split (.u 23 0) tY (aC 14 [(G4 4),(W 9 0),(W 6 0)] [(some 8)] [77,78,79] [35,3,3] 46 false (aC 8 [(G6 10),(G8 24)] [none] [76,80] [39,46] 4 false CS))))) aQ)
def MX:Tr:=.split (.u 19 0) (aC 11 [(G4 4)] [none] [52] [35] 3 false (aN .lss 3 53 0 20 0 4 (.split (.u 21 0) (.need (.prim [(WK 11),(WK 0)] none) (.binOp .neq 40 (tT 56) (.const (I3 0)) 40) 4 false (.split (.u 22 0) (.need (.prim [(W 11 0),(WK 11)] none) (.binOp .eql 40 (tT 58) (tT 59) 40) 4 false Gf) Hc)) (.need (.prim [(WK 0),(WK 0)] none) (.binOp .neq 40 (tT 56) (.const (I3 0)) 40) 4 false (.split (.u 22 0) (.need (.prim [(W 11 0),(WK 0)] none) (.binOp .eql 40 (tT 58) (tT 59) 40) 4 false Gf) Hc))))) (.need (.prim [(WK 0),(WK 0)] none) (.binOp .neq 40 (tT 56) (.const (I3 0)) 40) 4 false (.split (.u 20 0) (.need (.prim [(W 11 0),(WK 0)] none) (.binOp .eql 40 (tT 58) (tT 59) 40) 4 false (.split (.u 21 0) (aC 8 [(G6 10),(.agg [(tE (.int .i64 0)),tN,(tE (.int .i64 0)),tN,(tE (.int .i64 0)),tN,(tE (.int .i64 0)),tN])] [none] [62,63] [39,46] 4 false pO) aQ)) KT))
def Og:Tr:=aN .gtr 3 45 64 9 0 4 (.split (.u 17 0) (.need (.prim [(WK 3),(WK 0)] none) (.binOp .neq 40 (tT 56) (.const (I3 0)) 40) 4 false (.split (.u 18 0) (.need (.prim [(W 11 0),(WK 3)] none) (.binOp .eql 40 (tT 58) (tT 59) 40) 4 false (.split (.u 19 0) (aC 8 [(G6 10),(.agg [(tE (.int .i64 0)),tN,(tE (.int .i64 0)),tN,(tE (.int .i64 0)),tN,(tE (.int .i64 0)),tN])] [none] [62,63] [39,46] 4 false uT) aQ)) Oy)) (aN .rem 3 48 2 9 0 3 (aN .eql 3 49 0 18 0 4 MX)))
def Nd:Tr:=aN .lss 3 42 1 9 0 4 (.split (.u 16 0) (.need (.prim [(WK 3),(WK 0)] none) (.binOp .neq 40 (tT 56) (.const (I3 0)) 40) 4 false (.split (.u 17 0) (.need (.prim [(W 11 0),(WK 3)] none) (.binOp .eql 40 (tT 58) (tT 59) 40) 4 false (.split (.u 18 0) (aC 8 [(G6 10),(.agg [(tE (.int .i64 0)),tN,(tE (.int .i64 0)),tN,(tE (.int .i64 0)),tN,(tE (.int .i64 0)),tN])] [none] [62,63] [39,46] 4 false uY) aQ)) OI)) Og)
def Qv:Tr:=aN .rem 3 27 12 1 0 3 (aC 7 [(G3 3),(W 9 0),(W 6 0)] [(some 6),none] [30,31,32] [30,3,3] 41 false (aC 9 [(W 6 0)] [(some 6)] [36] [3] 39 false (aC 10 [(W 6 0)] [(some 8)] [38] [3] 46 false (aC 8 [(G6 12),(G8 13)] [none] [37,39] [39,46] 4 true (.need (.prim [(W 14 0)] none) (.unOp .not 4 (tT 40)) 4 false (.split (.u 15 0) aQ Nd))))))
def pL:Tr:=aC 12 [] [none] [] [] 4 true (.ret [(W 19 0)])
def DS:Tr:=.split (.u 18 0) pL aQ
def Eb:Tr:=.need (.prim [(W 10 0),(WK 3)] none) (.binOp .eql 40 (tT 58) (tT 59) 40) 4 false (.split (.u 17 0) (aC 8 [(G6 9),(.agg [(tE (.int .i64 0)),tN,(tE (.int .i64 0)),tN,(tE (.int .i64 0)),tN,(tE (.int .i64 0)),tN])] [none] [62,63] [39,46] 4 false DS) aQ)
def qJ:Tr:=.split (.u 21 0) uA aQ
def Ee:Tr:=aC 8 [(G6 9),(G8 20)] [none] [76,80] [39,46] 4 false qJ
def Lj:Tr:=.split (.u 16 0) Eb (aN .eql 40 69 0 10 0 4 (.split (.u 17 0) (aC 13 [(G4 4)] [none] [72] [35] 3 false (aN .gtr 3 73 12 18 0 4 (.split (.u 19 0) pZ (aC 14 [(G4 4),(W 1 0),(W 6 0)] [(some 8)] [77,78,79] [35,3,3] 46 false Ee)))) aQ))
def DU:Tr:=.need (.prim [(W 10 0),(WK 3)] none) (.binOp .eql 40 (tT 58) (tT 59) 40) 4 false (.split (.u 18 0) (aC 8 [(G6 9),(.agg [(tE (.int .i64 0)),tN,(tE (.int .i64 0)),tN,(tE (.int .i64 0)),tN,(tE (.int .i64 0)),tN])] [none] [62,63] [39,46] 4 false uY) aQ)
def CL:Tr:=aC 8 [(G6 9),(G8 21)] [none] [76,80] [39,46] 4 false pO
def KC:Tr:=.split (.u 17 0) DU (aN .eql 40 69 0 10 0 4 (.split (.u 18 0) (aC 13 [(G4 4)] [none] [72] [35] 3 false (aN .gtr 3 73 12 19 0 4 (.split (.u 20 0) qB (aC 14 [(G4 4),(W 1 0),(W 6 0)] [(some 8)] [77,78,79] [35,3,3] 46 false CL)))) aQ))
def DC:Tr:=.split (.u 22 0) (aC 8 [(G6 9),(.agg [(tE (.int .i64 0)),tN,(tE (.int .i64 0)),tN,(tE (.int .i64 0)),tN,(tE (.int .i64 0)),tN])] [none] [62,63] [39,46] 4 false AD) aQ
def Df:Tr:=.need (.prim [(W 10 0),(WK 11)] none) (.binOp .eql 40 (tT 58) (tT 59) 40) 4 false DC
def DE:Tr:=aC 8 [(G6 9),(G8 25)] [none] [76,80] [39,46] 4 false (.split (.u 26 0) (aC 12 [] [none] [] [] 4 true (.ret [(W 27 0)])) aQ)
def Et:Tr:=aN .eql 40 69 0 10 0 4 (.split (.u 22 0) (aC 13 [(G4 4)] [none] [72] [35] 3 false (aN .gtr 3 73 12 23 0 4 (.split (.u 24 0) Bp (aC 14 [(G4 4),(W 1 0),(W 6 0)] [(some 8)] [77,78,79] [35,3,3] 46 false DE)))) aQ)
def CQ:Tr:=.need (.prim [(W 10 0),(WK 0)] none) (.binOp .eql 40 (tT 58) (tT 59) 40) 4 false DC
def Ek:Tr:=.need (.prim [(W 10 0),(WK 0)] none) (.binOp .eql 40 (tT 58) (tT 59) 40) 4 false (.split (.u 20 0) (aC 8 [(G6 9),(.agg [(tE (.int .i64 0)),tN,(tE (.int .i64 0)),tN,(tE (.int .i64 0)),tN,(tE (.int .i64 0)),tN])] [none] [62,63] [39,46] 4 false qJ) aQ)
def DY:Tr:=aC 8 [(G6 9),(G8 23)] [none] [76,80] [39,46] 4 false BG
def Mo:Tr:=.split (.u 19 0) Ek (aN .eql 40 69 0 10 0 4 (.split (.u 20 0) (aC 13 [(G4 4)] [none] [72] [35] 3 false (aN .gtr 3 73 12 21 0 4 (.split (.u 22 0) uL (aC 14 [(G4 4),(W 1 0),(W 6 0)] [(some 8)] [77,78,79] [35,3,3] 46 false DY)))) aQ))
def Kz:Tr:=aN .eql 3 49 0 17 0 4 (.split (.u 18 0) (aC 11 [(G4 4)] [none] [52] [35] 3 false (aN .lss 3 53 0 19 0 4 (.split (.u 20 0) (.need (.prim [(WK 11),(WK 0)] none) (.binOp .neq 40 (tT 56) (.const (I3 0)) 40) 4 false (.split (.u 21 0) Df Et)) (.need (.prim [(WK 0),(WK 0)] none) (.binOp .neq 40 (tT 56) (.const (I3 0)) 40) 4 false (.split (.u 21 0) CQ Et))))) (.need (.prim [(WK 0),(WK 0)] none) (.binOp .neq 40 (tT 56) (.const (I3 0)) 40) 4 false Mo))
def Lq:Tr:=.need (.prim [(W 13 0)] none) (.unOp .not 4 (tT 40)) 4 false (.split (.u 14 0) aQ (aN .lss 3 42 1 1 0 4 (.split (.u 15 0) (.need (.prim [(WK 3),(WK 0)] none) (.binOp .neq 40 (tT 56) (.const (I3 0)) 40) 4 false Lj) (aN .gtr 3 45 64 1 0 4 (.split (.u 16 0) (.need (.prim [(WK 3),(WK 0)] none) (.binOp .neq 40 (tT 56) (.const (I3 0)) 40) 4 false KC) (aN .rem 3 48 2 1 0 3 Kz))))))
def En:Tr:=aC 12 [] [none] [] [] 4 true (.ret [(W 18 0)])
def DP:Tr:=.split (.u 17 0) En aQ
def Ej:Tr:=.need (.prim [(W 9 0),(WK 3)] none) (.binOp .eql 40 (tT 58) (tT 59) 40) 4 false (.split (.u 16 0) (aC 8 [(G6 8),(.agg [(tE (.int .i64 0)),tN,(tE (.int .i64 0)),tN,(tE (.int .i64 0)),tN,(tE (.int .i64 0)),tN])] [none] [62,63] [39,46] 4 false DP) aQ)
def Du:Tr:=aC 8 [(G6 8),(G8 19)] [none] [76,80] [39,46] 4 false uT
def Ji:Tr:=.split (.u 15 0) Ej (aN .eql 40 69 0 9 0 4 (.split (.u 16 0) (aC 13 [(G4 4)] [none] [72] [35] 3 false (aN .gtr 3 73 12 17 0 4 (.split (.u 18 0) pL (aC 14 [(G4 4),(W 1 0),(W 6 0)] [(some 8)] [77,78,79] [35,3,3] 46 false Du)))) aQ))
def CA:Tr:=.need (.prim [(W 9 0),(WK 3)] none) (.binOp .eql 40 (tT 58) (tT 59) 40) 4 false (.split (.u 17 0) (aC 8 [(G6 8),(.agg [(tE (.int .i64 0)),tN,(tE (.int .i64 0)),tN,(tE (.int .i64 0)),tN,(tE (.int .i64 0)),tN])] [none] [62,63] [39,46] 4 false DS) aQ)
def Cn:Tr:=aC 8 [(G6 8),(G8 20)] [none] [76,80] [39,46] 4 false qJ
def Ke:Tr:=.split (.u 16 0) CA (aN .eql 40 69 0 9 0 4 (.split (.u 17 0) (aC 13 [(G4 4)] [none] [72] [35] 3 false (aN .gtr 3 73 12 18 0 4 (.split (.u 19 0) pZ (aC 14 [(G4 4),(W 1 0),(W 6 0)] [(some 8)] [77,78,79] [35,3,3] 46 false Cn)))) aQ))
def Eh:Tr:=.split (.u 21 0) (aC 8 [(G6 8),(.agg [(tE (.int .i64 0)),tN,(tE (.int .i64 0)),tN,(tE (.int .i64 0)),tN,(tE (.int .i64 0)),tN])] [none] [62,63] [39,46] 4 false pO) aQ
def CZ:Tr:=.need (.prim [(W 9 0),(WK 11)] none) (.binOp .eql 40 (tT 58) (tT 59) 40) 4 false Eh
def CW:Tr:=aC 8 [(G6 8),(G8 24)] [none] [76,80] [39,46] 4 false CS
def De:Tr:=aN .eql 40 69 0 9 0 4 (.split (.u 21 0) (aC 13 [(G4 4)] [none] [72] [35] 3 false (aN .gtr 3 73 12 22 0 4 (.split (.u 23 0) tY (aC 14 [(G4 4),(W 1 0),(W 6 0)] [(some 8)] [77,78,79] [35,3,3] 46 false CW)))) aQ)
def Ec:Tr:=.need (.prim [(W 9 0),(WK 0)] none) (.binOp .eql 40 (tT 58) (tT 59) 40) 4 false Eh
def CV:Tr:=.need (.prim [(W 9 0),(WK 0)] none) (.binOp .eql 40 (tT 58) (tT 59) 40) 4 false (.split (.u 19 0) (aC 8 [(G6 8),(.agg [(tE (.int .i64 0)),tN,(tE (.int .i64 0)),tN,(tE (.int .i64 0)),tN,(tE (.int .i64 0)),tN])] [none] [62,63] [39,46] 4 false uT) aQ)
def DN:Tr:=aC 8 [(G6 8),(G8 22)] [none] [76,80] [39,46] 4 false AD
def Jo:Tr:=.split (.u 18 0) CV (aN .eql 40 69 0 9 0 4 (.split (.u 19 0) (aC 13 [(G4 4)] [none] [72] [35] 3 false (aN .gtr 3 73 12 20 0 4 (.split (.u 21 0) uA (aC 14 [(G4 4),(W 1 0),(W 6 0)] [(some 8)] [77,78,79] [35,3,3] 46 false DN)))) aQ))
def JZ:Tr:=aN .eql 3 49 0 16 0 4 (.split (.u 17 0) (aC 11 [(G4 4)] [none] [52] [35] 3 false (aN .lss 3 53 0 18 0 4 (.split (.u 19 0) (.need (.prim [(WK 11),(WK 0)] none) (.binOp .neq 40 (tT 56) (.const (I3 0)) 40) 4 false (.split (.u 20 0) CZ De)) (.need (.prim [(WK 0),(WK 0)] none) (.binOp .neq 40 (tT 56) (.const (I3 0)) 40) 4 false (.split (.u 20 0) Ec De))))) (.need (.prim [(WK 0),(WK 0)] none) (.binOp .neq 40 (tT 56) (.const (I3 0)) 40) 4 false Jo))
def Ln:Tr:=.need (.prim [(W 12 0)] none) (.unOp .not 4 (tT 40)) 4 false (.split (.u 13 0) aQ (aN .lss 3 42 1 1 0 4 (.split (.u 14 0) (.need (.prim [(WK 3),(WK 0)] none) (.binOp .neq 40 (tT 56) (.const (I3 0)) 40) 4 false Ji) (aN .gtr 3 45 64 1 0 4 (.split (.u 15 0) (.need (.prim [(WK 3),(WK 0)] none) (.binOp .neq 40 (tT 56) (.const (I3 0)) 40) 4 false Ke) (aN .rem 3 48 2 1 0 3 JZ))))))
def SB:Tr:=.split (.u 7 0) (aN .leq 3 24 64 1 0 4 (.split (.u 8 0) Qv (aC 7 [(G3 3),(W 1 0),(W 6 0)] [(some 6),none] [30,31,32] [30,3,3] 41 false (aC 9 [(W 6 0)] [(some 6)] [36] [3] 39 false (aC 10 [(W 6 0)] [(some 8)] [38] [3] 46 false (aC 8 [(G6 11),(G8 12)] [none] [37,39] [39,46] 4 true Lq)))))) (aC 7 [(G3 3),(W 1 0),(W 6 0)] [(some 6),none] [30,31,32] [30,3,3] 41 false (aC 9 [(W 6 0)] [(some 6)] [36] [3] 39 false (aC 10 [(W 6 0)] [(some 8)] [38] [3] 46 false (aC 8 [(G6 10),(G8 11)] [none] [37,39] [39,46] 4 true Ln))))
def Lw:Tr:=.split (.u 16 0) Eb (aN .eql 40 69 0 10 0 4 (.split (.u 17 0) (aC 13 [(G4 4)] [none] [72] [35] 3 false (aN .gtr 3 73 12 18 0 4 (.split (.u 19 0) pZ (aC 14 [(G4 4),(W 8 0),(W 2 0)] [(some 8)] [77,78,79] [35,3,3] 46 false Ee)))) aQ))
def MB:Tr:=.split (.u 17 0) DU (aN .eql 40 69 0 10 0 4 (.split (.u 18 0) (aC 13 [(G4 4)] [none] [72] [35] 3 false (aN .gtr 3 73 12 19 0 4 (.split (.u 20 0) qB (aC 14 [(G4 4),(W 8 0),(W 2 0)] [(some 8)] [77,78,79] [35,3,3] 46 false CL)))) aQ))
def Dj:Tr:=aN .eql 40 69 0 10 0 4 (.split (.u 22 0) (aC 13 [(G4 4)] [none] [72] [35] 3 false (aN .gtr 3 73 12 23 0 4 (.split (.u 24 0) Bp (aC 14 [(G4 4),(W 8 0),(W 2 0)] [(some 8)] [77,78,79] [35,3,3] 46 false DE)))) aQ)
def Jn:Tr:=.split (.u 19 0) Ek (aN .eql 40 69 0 10 0 4 (.split (.u 20 0) (aC 13 [(G4 4)] [none] [72] [35] 3 false (aN .gtr 3 73 12 21 0 4 (.split (.u 22 0) uL (aC 14 [(G4 4),(W 8 0),(W 2 0)] [(some 8)] [77,78,79] [35,3,3] 46 false DY)))) aQ))
def JL:Tr:=aN .eql 3 49 0 17 0 4 (.split (.u 18 0) (aC 11 [(G4 4)] [none] [52] [35] 3 false (aN .lss 3 53 0 19 0 4 (.split (.u 20 0) (.need (.prim [(WK 11),(WK 0)] none) (.binOp .neq 40 (tT 56) (.const (I3 0)) 40) 4 false (.split (.u 21 0) Df Dj)) (.need (.prim [(WK 0),(WK 0)] none) (.binOp .neq 40 (tT 56) (.const (I3 0)) 40) 4 false (.split (.u 21 0) CQ Dj))))) (.need (.prim [(WK 0),(WK 0)] none) (.binOp .neq 40 (tT 56) (.const (I3 0)) 40) 4 false Jn))
def Ma:Tr:=.need (.prim [(W 13 0)] none) (.unOp .not 4 (tT 40)) 4 false (.split (.u 14 0) aQ (aN .lss 3 42 1 8 0 4 (.split (.u 15 0) (.need (.prim [(WK 3),(WK 0)] none) (.binOp .neq 40 (tT 56) (.const (I3 0)) 40) 4 false Lw) (aN .gtr 3 45 64 8 0 4 (.split (.u 16 0) (.need (.prim [(WK 3),(WK 0)] none) (.binOp .neq 40 (tT 56) (.const (I3 0)) 40) 4 false MB) (aN .rem 3 48 2 8 0 3 JL))))))
def Mt:Tr:=.split (.u 15 0) Ej (aN .eql 40 69 0 9 0 4 (.split (.u 16 0) (aC 13 [(G4 4)] [none] [72] [35] 3 false (aN .gtr 3 73 12 17 0 4 (.split (.u 18 0) pL (aC 14 [(G4 4),(W 1 0),(W 2 0)] [(some 8)] [77,78,79] [35,3,3] 46 false Du)))) aQ))
def Mx:Tr:=.split (.u 16 0) CA (aN .eql 40 69 0 9 0 4 (.split (.u 17 0) (aC 13 [(G4 4)] [none] [72] [35] 3 false (aN .gtr 3 73 12 18 0 4 (.split (.u 19 0) pZ (aC 14 [(G4 4),(W 1 0),(W 2 0)] [(some 8)] [77,78,79] [35,3,3] 46 false Cn)))) aQ))
def Dt:Tr:=aN .eql 40 69 0 9 0 4 (.split (.u 21 0) (aC 13 [(G4 4)] [none] [72] [35] 3 false (aN .gtr 3 73 12 22 0 4 (.split (.u 23 0) tY (aC 14 [(G4 4),(W 1 0),(W 2 0)] [(some 8)] [77,78,79] [35,3,3] 46 false CW)))) aQ)
def JI:Tr:=.split (.u 18 0) CV (aN .eql 40 69 0 9 0 4 (.split (.u 19 0) (aC 13 [(G4 4)] [none] [72] [35] 3 false (aN .gtr 3 73 12 20 0 4 (.split (.u 21 0) uA (aC 14 [(G4 4),(W 1 0),(W 2 0)] [(some 8)] [77,78,79] [35,3,3] 46 false DN)))) aQ))
def Kp:Tr:=aN .eql 3 49 0 16 0 4 (.split (.u 17 0) (aC 11 [(G4 4)] [none] [52] [35] 3 false (aN .lss 3 53 0 18 0 4 (.split (.u 19 0) (.need (.prim [(WK 11),(WK 0)] none) (.binOp .neq 40 (tT 56) (.const (I3 0)) 40) 4 false (.split (.u 20 0) CZ Dt)) (.need (.prim [(WK 0),(WK 0)] none) (.binOp .neq 40 (tT 56) (.const (I3 0)) 40) 4 false (.split (.u 20 0) Ec Dt))))) (.need (.prim [(WK 0),(WK 0)] none) (.binOp .neq 40 (tT 56) (.const (I3 0)) 40) 4 false JI))
def JD:Tr:=.need (.prim [(W 12 0)] none) (.unOp .not 4 (tT 40)) 4 false (.split (.u 13 0) aQ (aN .lss 3 42 1 1 0 4 (.split (.u 14 0) (.need (.prim [(WK 3),(WK 0)] none) (.binOp .neq 40 (tT 56) (.const (I3 0)) 40) 4 false Mt) (aN .gtr 3 45 64 1 0 4 (.split (.u 15 0) (.need (.prim [(WK 3),(WK 0)] none) (.binOp .neq 40 (tT 56) (.const (I3 0)) 40) 4 false Mx) (aN .rem 3 48 2 1 0 3 Kp))))))
def LC:Tr:=aN .leq 3 24 64 1 0 4 (.split (.u 7 0) (aN .rem 3 27 12 1 0 3 (aC 7 [(G3 3),(W 8 0),(W 2 0)] [(some 6),none] [30,31,32] [30,3,3] 41 false (aC 9 [(W 2 0)] [(some 6)] [36] [3] 39 false (aC 10 [(W 2 0)] [(some 8)] [38] [3] 46 false (aC 8 [(G6 11),(G8 12)] [none] [37,39] [39,46] 4 true Ma))))) (aC 7 [(G3 3),(W 1 0),(W 2 0)] [(some 6),none] [30,31,32] [30,3,3] 41 false (aC 9 [(W 2 0)] [(some 6)] [36] [3] 39 false (aC 10 [(W 2 0)] [(some 8)] [38] [3] 46 false (aC 8 [(G6 10),(G8 11)] [none] [37,39] [39,46] 4 true JD)))))
def Ja:Tr:=aN .eql 40 69 0 8 0 4 (.split (.u 15 0) (aC 13 [(G4 4)] [none] [72] [35] 3 false (aN .gtr 3 73 12 16 0 4 (.split (.u 17 0) En (aC 14 [(G4 4),(W 1 0),(W 2 0)] [(some 8)] [77,78,79] [35,3,3] 46 false (aC 8 [(G6 7),(G8 18)] [none] [76,80] [39,46] 4 false uY))))) aQ)
def JB:Tr:=.split (.u 14 0) (.need (.prim [(W 8 0),(WK 3)] none) (.binOp .eql 40 (tT 58) (tT 59) 40) 4 false (.split (.u 15 0) (aC 8 [(G6 7),(.agg [(tE (.int .i64 0)),tN,(tE (.int .i64 0)),tN,(tE (.int .i64 0)),tN,(tE (.int .i64 0)),tN])] [none] [62,63] [39,46] 4 false (.split (.u 16 0) (aC 12 [] [none] [] [] 4 true (.ret [(W 17 0)])) aQ)) aQ)) Ja
def MA:Tr:=aN .eql 40 69 0 8 0 4 (.split (.u 16 0) (aC 13 [(G4 4)] [none] [72] [35] 3 false (aN .gtr 3 73 12 17 0 4 (.split (.u 18 0) pL (aC 14 [(G4 4),(W 1 0),(W 2 0)] [(some 8)] [77,78,79] [35,3,3] 46 false (aC 8 [(G6 7),(G8 19)] [none] [76,80] [39,46] 4 false uT))))) aQ)
def DL:Tr:=.split (.u 20 0) (aC 8 [(G6 7),(.agg [(tE (.int .i64 0)),tN,(tE (.int .i64 0)),tN,(tE (.int .i64 0)),tN,(tE (.int .i64 0)),tN])] [none] [62,63] [39,46] 4 false qJ) aQ
def Em:Tr:=aN .eql 40 69 0 8 0 4 (.split (.u 20 0) (aC 13 [(G4 4)] [none] [72] [35] 3 false (aN .gtr 3 73 12 21 0 4 (.split (.u 22 0) uL (aC 14 [(G4 4),(W 1 0),(W 2 0)] [(some 8)] [77,78,79] [35,3,3] 46 false (aC 8 [(G6 7),(G8 23)] [none] [76,80] [39,46] 4 false BG))))) aQ)
def KY:Tr:=aN .eql 40 69 0 8 0 4 (.split (.u 18 0) (aC 13 [(G4 4)] [none] [72] [35] 3 false (aN .gtr 3 73 12 19 0 4 (.split (.u 20 0) qB (aC 14 [(G4 4),(W 1 0),(W 2 0)] [(some 8)] [77,78,79] [35,3,3] 46 false (aC 8 [(G6 7),(G8 21)] [none] [76,80] [39,46] 4 false pO))))) aQ)
def Ku:Tr:=.split (.u 16 0) (aC 11 [(G4 4)] [none] [52] [35] 3 false (aN .lss 3 53 0 17 0 4 (.split (.u 18 0) (.need (.prim [(WK 11),(WK 0)] none) (.binOp .neq 40 (tT 56) (.const (I3 0)) 40) 4 false (.split (.u 19 0) (.need (.prim [(W 8 0),(WK 11)] none) (.binOp .eql 40 (tT 58) (tT 59) 40) 4 false DL) Em)) (.need (.prim [(WK 0),(WK 0)] none) (.binOp .neq 40 (tT 56) (.const (I3 0)) 40) 4 false (.split (.u 19 0) (.need (.prim [(W 8 0),(WK 0)] none) (.binOp .eql 40 (tT 58) (tT 59) 40) 4 false DL) Em))))) (.need (.prim [(WK 0),(WK 0)] none) (.binOp .neq 40 (tT 56) (.const (I3 0)) 40) 4 false (.split (.u 17 0) (.need (.prim [(W 8 0),(WK 0)] none) (.binOp .eql 40 (tT 58) (tT 59) 40) 4 false (.split (.u 18 0) (aC 8 [(G6 7),(.agg [(tE (.int .i64 0)),tN,(tE (.int .i64 0)),tN,(tE (.int .i64 0)),tN,(tE (.int .i64 0)),tN])] [none] [62,63] [39,46] 4 false uY) aQ)) KY))
def Ko:Tr:=aN .gtr 3 45 64 1 0 4 (.split (.u 14 0) (.need (.prim [(WK 3),(WK 0)] none) (.binOp .neq 40 (tT 56) (.const (I3 0)) 40) 4 false (.split (.u 15 0) (.need (.prim [(W 8 0),(WK 3)] none) (.binOp .eql 40 (tT 58) (tT 59) 40) 4 false (.split (.u 16 0) (aC 8 [(G6 7),(.agg [(tE (.int .i64 0)),tN,(tE (.int .i64 0)),tN,(tE (.int .i64 0)),tN,(tE (.int .i64 0)),tN])] [none] [62,63] [39,46] 4 false DP) aQ)) MA)) (aN .rem 3 48 2 1 0 3 (aN .eql 3 49 0 15 0 4 Ku)))
def Ks:Tr:=aC 10 [(W 2 0)] [(some 8)] [38] [3] 46 false (aC 8 [(G6 9),(G8 10)] [none] [37,39] [39,46] 4 true (.need (.prim [(W 11 0)] none) (.unOp .not 4 (tT 40)) 4 false (.split (.u 12 0) aQ (aN .lss 3 42 1 1 0 4 (.split (.u 13 0) (.need (.prim [(WK 3),(WK 0)] none) (.binOp .neq 40 (tT 56) (.const (I3 0)) 40) 4 false JB) Ko)))))
def Uy:Tr:=aC 6 [(G3 0)] [(some 3),(some 4)] [13] [23] 36 false (aN .gtr 3 17 60 2 0 4 (.split (.u 5 0) (aN .rem 3 19 60 2 0 3 (aN .gtr 3 21 12 1 0 4 SB)) (aN .gtr 3 21 12 1 0 4 (.split (.u 6 0) LC (aC 7 [(G3 3),(W 1 0),(W 2 0)] [(some 6),none] [30,31,32] [30,3,3] 41 false (aC 9 [(W 2 0)] [(some 6)] [36] [3] 39 false Ks))))))
theorem AR:aI prog f3 (fun _=>none) [.v (some 3), .v none, .v none]=Uy:=by kernel_rfl
theorem bH (a b:Rat) (ha:a=0) (hb:b=0):aJ prog 8 [cP (a,b),fI .nil .nil] (.ret [.one (.bool true)]):=by
 subst ha;subst hb;exact It
set_option maxHeartbeats 4000000 in
set_option maxRecDepth 100000 in
theorem AQ (x:jM) (h:x.In) (n k:Int):aJ prog 3 [(nT x:aD),(.one (.int .i64 n):aD),(.one (.int .i64 k):aD)] (.ret [.one (.bool true)]):=by
 refine bO func3 AR ?_;have hvf:Fit 1024 x.v:=h.Zr.mono (by omega);apply aA (OV x h) rfl;apply vn bC rfl;refine vs _ rfl ?_ ?_<;>intro h2
 ·obtain ⟨k',hk'⟩:∃ k',k'=k%60:=⟨_,rfl⟩
  have hk60:k'≤60:=by omega
  apply vn (cK) rfl;rw [←hk'];apply vn bC rfl;dsimp only [aG,aH];refine vs _ rfl ?_ ?_<;>intro h5
  ·apply vn jK rfl;refine vs _ rfl ?_ ?_<;>intro h7
   ·obtain ⟨n',hn'⟩:∃ n',n'=n%12:=⟨_,rfl⟩
    apply vn (cK) rfl;rw [←hn'];dsimp only [aG,aH];obtain ⟨a,b,e,R⟩:=kN x.v n' k' hvf hk60;have hsg:x.v.num.sign<0↔x.v.num<0:=Int.sign_neg_iff;apply aA R.run rfl;apply aA (xA k' hk60) rfl;apply aA (kO k' hk60) rfl;apply aA (nR k' hk60) rfl;dsimp only [aG,aH];apply vn oN rfl;refine cB false rfl (fun h=>by cases h) (fun _=>?_);apply vn bA rfl;refine vs _ rfl ?_ ?_<;>intro h17
    ·have hE:=R.bad (by omega);apply vn bW rfl;refine cB true rfl (fun _=>?_) (fun h=>by cases h);apply vn aO rfl;dsimp only [aG,aH];refine vs _ rfl ?_ ?_<;>intro h21
     ·refine eP (show aM [cP (a,b), .agg [.int .i64 0, .exact (.slice none 0 0), .int .i64 0, .exact (.slice none 0 0), .int .i64 0, .exact (.slice none 0 0), .int .i64 0, .exact (.slice none 0 0)]] [cP (a,b),fI .nil .nil] from ⟨aD.Sub.same,gO,trivial⟩) (bH a b hE.2.1 hE.2.2) rfl ?_;refine cB true rfl (fun _=>?_) (fun h=>by cases h);apply aA aW rfl;exact aE rfl
     exact (h21 hE.1).elim
    apply vn bC rfl;refine vs _ rfl ?_ ?_<;>intro h43
    ·have hE:=R.bad (by omega);apply vn bW rfl;refine cB true rfl (fun _=>?_) (fun h=>by cases h);apply vn aO rfl;dsimp only [aG,aH];refine vs _ rfl ?_ ?_<;>intro h47
     ·refine eP (show aM [cP (a,b), .agg [.int .i64 0, .exact (.slice none 0 0), .int .i64 0, .exact (.slice none 0 0), .int .i64 0, .exact (.slice none 0 0), .int .i64 0, .exact (.slice none 0 0)]] [cP (a,b),fI .nil .nil] from ⟨aD.Sub.same,gO,trivial⟩) (bH a b hE.2.1 hE.2.2) rfl ?_;refine cB true rfl (fun _=>?_) (fun h=>by cases h);apply aA aW rfl;exact aE rfl
     exact (h47 hE.1).elim
    apply vn (cK) rfl;apply vn aO rfl;refine vs _ rfl ?_ ?_<;>intro h70
    ·apply aA (jV (.of x.v)) rfl;dsimp only [aG,aH];apply vn bA rfl;refine vs _ rfl ?_ ?_<;>intro h73
     ·have hE:=R.opn (by omega) (by omega) h70 (hsg.1 h73);apply vn bW rfl;refine cB true rfl (fun _=>?_) (fun h=>by cases h);apply vn aO rfl;refine vs _ rfl ?_ ?_<;>intro h77
      ·refine eP (show aM [cP (a,b), .agg [.int .i64 0, .exact (.slice none 0 0), .int .i64 0, .exact (.slice none 0 0), .int .i64 0, .exact (.slice none 0 0), .int .i64 0, .exact (.slice none 0 0)]] [cP (a,b),fI .nil .nil] from ⟨aD.Sub.same,gO,trivial⟩) (bH a b hE.2.1 hE.2.2) rfl ?_;dsimp only [aG,aH];refine cB true rfl (fun _=>?_) (fun h=>by cases h);apply aA aW rfl;exact aE rfl
      exact (h77 hE.1).elim
     obtain ⟨hE,c,d,hF,hS⟩:=R.ok (by omega) (by omega) (fun hh=>h73 (hsg.2 hh.2));apply vn bW rfl;refine cB false rfl (fun h=>by cases h) (fun _=>?_);apply vn aO rfl;refine vs _ rfl ?_ ?_<;>intro h109
     ·apply aA (iI (.of x.v) 1024 hvf) rfl;apply vn bC rfl;dsimp only [aG,aH];refine vs _ rfl ?_ ?_<;>intro h112
      ·apply aA aW rfl;exact aE rfl
      apply aA hF rfl;apply aA hS rfl;refine cB true rfl (fun _=>?_) (fun h=>by cases h);apply aA aW rfl;exact aE rfl
     exact (h109 hE).elim
    obtain ⟨hE,c,d,hF,hS⟩:=R.ok (by omega) (by omega) (fun hh=>h70 hh.1);apply vn bW rfl;refine cB false rfl (fun h=>by cases h) (fun _=>?_);apply vn aO rfl;dsimp only [aG,aH];refine vs _ rfl ?_ ?_<;>intro h133
    ·apply aA (iI (.of x.v) 1024 hvf) rfl;apply vn bC rfl;refine vs _ rfl ?_ ?_<;>intro h136
     ·apply aA aW rfl;exact aE rfl
     apply aA hF rfl;apply aA hS rfl;dsimp only [aG,aH];refine cB true rfl (fun _=>?_) (fun h=>by cases h);apply aA aW rfl;exact aE rfl
    exact (h133 hE).elim
   obtain ⟨a,b,e,R⟩:=kN x.v n k' hvf hk60;have hsg:x.v.num.sign<0↔x.v.num<0:=Int.sign_neg_iff;apply aA R.run rfl;apply aA (xA k' hk60) rfl;apply aA (kO k' hk60) rfl;apply aA (nR k' hk60) rfl;dsimp only [aG,aH];apply vn oN rfl;refine cB false rfl (fun h=>by cases h) (fun _=>?_);apply vn bA rfl;refine vs _ rfl ?_ ?_<;>intro h154
   ·have hE:=R.bad (by omega);apply vn bW rfl;refine cB true rfl (fun _=>?_) (fun h=>by cases h);apply vn aO rfl;dsimp only [aG,aH];refine vs _ rfl ?_ ?_<;>intro h158
    ·refine eP (show aM [cP (a,b), .agg [.int .i64 0, .exact (.slice none 0 0), .int .i64 0, .exact (.slice none 0 0), .int .i64 0, .exact (.slice none 0 0), .int .i64 0, .exact (.slice none 0 0)]] [cP (a,b),fI .nil .nil] from ⟨aD.Sub.same,gO,trivial⟩) (bH a b hE.2.1 hE.2.2) rfl ?_;refine cB true rfl (fun _=>?_) (fun h=>by cases h);apply aA aW rfl;exact aE rfl
    exact (h158 hE.1).elim
   apply vn bC rfl;refine vs _ rfl ?_ ?_<;>intro h180
   ·have hE:=R.bad (by omega);apply vn bW rfl;refine cB true rfl (fun _=>?_) (fun h=>by cases h);apply vn aO rfl;dsimp only [aG,aH];refine vs _ rfl ?_ ?_<;>intro h184
    ·refine eP (show aM [cP (a,b), .agg [.int .i64 0, .exact (.slice none 0 0), .int .i64 0, .exact (.slice none 0 0), .int .i64 0, .exact (.slice none 0 0), .int .i64 0, .exact (.slice none 0 0)]] [cP (a,b),fI .nil .nil] from ⟨aD.Sub.same,gO,trivial⟩) (bH a b hE.2.1 hE.2.2) rfl ?_;refine cB true rfl (fun _=>?_) (fun h=>by cases h);apply aA aW rfl;exact aE rfl
    exact (h184 hE.1).elim
   apply vn (cK) rfl;apply vn aO rfl;refine vs _ rfl ?_ ?_<;>intro h207
   ·apply aA (jV (.of x.v)) rfl;dsimp only [aG,aH];apply vn bA rfl;refine vs _ rfl ?_ ?_<;>intro h210
    ·have hE:=R.opn (by omega) (by omega) h207 (hsg.1 h210);apply vn bW rfl;refine cB true rfl (fun _=>?_) (fun h=>by cases h);apply vn aO rfl;refine vs _ rfl ?_ ?_<;>intro h214
     ·refine eP (show aM [cP (a,b), .agg [.int .i64 0, .exact (.slice none 0 0), .int .i64 0, .exact (.slice none 0 0), .int .i64 0, .exact (.slice none 0 0), .int .i64 0, .exact (.slice none 0 0)]] [cP (a,b),fI .nil .nil] from ⟨aD.Sub.same,gO,trivial⟩) (bH a b hE.2.1 hE.2.2) rfl ?_;dsimp only [aG,aH];refine cB true rfl (fun _=>?_) (fun h=>by cases h);apply aA aW rfl;exact aE rfl
     exact (h214 hE.1).elim
    obtain ⟨hE,c,d,hF,hS⟩:=R.ok (by omega) (by omega) (fun hh=>h210 (hsg.2 hh.2));apply vn bW rfl;refine cB false rfl (fun h=>by cases h) (fun _=>?_);apply vn aO rfl;refine vs _ rfl ?_ ?_<;>intro h246
    ·apply aA (iI (.of x.v) 1024 hvf) rfl;apply vn bC rfl;dsimp only [aG,aH];refine vs _ rfl ?_ ?_<;>intro h249
     ·apply aA aW rfl;exact aE rfl
     apply aA hF rfl;apply aA hS rfl;refine cB true rfl (fun _=>?_) (fun h=>by cases h);apply aA aW rfl;exact aE rfl
    exact (h246 hE).elim
   obtain ⟨hE,c,d,hF,hS⟩:=R.ok (by omega) (by omega) (fun hh=>h207 hh.1);apply vn bW rfl;refine cB false rfl (fun h=>by cases h) (fun _=>?_);apply vn aO rfl;dsimp only [aG,aH];refine vs _ rfl ?_ ?_<;>intro h270
   ·apply aA (iI (.of x.v) 1024 hvf) rfl;apply vn bC rfl;refine vs _ rfl ?_ ?_<;>intro h273
    ·apply aA aW rfl;exact aE rfl
    apply aA hF rfl;apply aA hS rfl;dsimp only [aG,aH];refine cB true rfl (fun _=>?_) (fun h=>by cases h);apply aA aW rfl;exact aE rfl
   exact (h270 hE).elim
  obtain ⟨a,b,e,R⟩:=kN x.v n k' hvf hk60;have hsg:x.v.num.sign<0↔x.v.num<0:=Int.sign_neg_iff;apply aA R.run rfl;apply aA (xA k' hk60) rfl;apply aA (kO k' hk60) rfl;apply aA (nR k' hk60) rfl;dsimp only [aG,aH];apply vn oN rfl;refine cB false rfl (fun h=>by cases h) (fun _=>?_);apply vn bA rfl;refine vs _ rfl ?_ ?_<;>intro h291
  ·have hE:=R.bad (by omega);apply vn bW rfl;refine cB true rfl (fun _=>?_) (fun h=>by cases h);apply vn aO rfl;dsimp only [aG,aH];refine vs _ rfl ?_ ?_<;>intro h295
   ·refine eP (show aM [cP (a,b), .agg [.int .i64 0, .exact (.slice none 0 0), .int .i64 0, .exact (.slice none 0 0), .int .i64 0, .exact (.slice none 0 0), .int .i64 0, .exact (.slice none 0 0)]] [cP (a,b),fI .nil .nil] from ⟨aD.Sub.same,gO,trivial⟩) (bH a b hE.2.1 hE.2.2) rfl ?_;refine cB true rfl (fun _=>?_) (fun h=>by cases h);apply aA aW rfl;exact aE rfl
   exact (h295 hE.1).elim
  apply vn bC rfl;refine vs _ rfl ?_ ?_<;>intro h317
  ·have hE:=R.bad (by omega);apply vn bW rfl;refine cB true rfl (fun _=>?_) (fun h=>by cases h);apply vn aO rfl;dsimp only [aG,aH];refine vs _ rfl ?_ ?_<;>intro h321
   ·refine eP (show aM [cP (a,b), .agg [.int .i64 0, .exact (.slice none 0 0), .int .i64 0, .exact (.slice none 0 0), .int .i64 0, .exact (.slice none 0 0), .int .i64 0, .exact (.slice none 0 0)]] [cP (a,b),fI .nil .nil] from ⟨aD.Sub.same,gO,trivial⟩) (bH a b hE.2.1 hE.2.2) rfl ?_;refine cB true rfl (fun _=>?_) (fun h=>by cases h);apply aA aW rfl;exact aE rfl
   exact (h321 hE.1).elim
  apply vn (cK) rfl;apply vn aO rfl;refine vs _ rfl ?_ ?_<;>intro h344
  ·apply aA (jV (.of x.v)) rfl;dsimp only [aG,aH];apply vn bA rfl;refine vs _ rfl ?_ ?_<;>intro h347
   ·have hE:=R.opn (by omega) (by omega) h344 (hsg.1 h347);apply vn bW rfl;refine cB true rfl (fun _=>?_) (fun h=>by cases h);apply vn aO rfl;refine vs _ rfl ?_ ?_<;>intro h351
    ·refine eP (show aM [cP (a,b), .agg [.int .i64 0, .exact (.slice none 0 0), .int .i64 0, .exact (.slice none 0 0), .int .i64 0, .exact (.slice none 0 0), .int .i64 0, .exact (.slice none 0 0)]] [cP (a,b),fI .nil .nil] from ⟨aD.Sub.same,gO,trivial⟩) (bH a b hE.2.1 hE.2.2) rfl ?_;dsimp only [aG,aH];refine cB true rfl (fun _=>?_) (fun h=>by cases h);apply aA aW rfl;exact aE rfl
    exact (h351 hE.1).elim
   obtain ⟨hE,c,d,hF,hS⟩:=R.ok (by omega) (by omega) (fun hh=>h347 (hsg.2 hh.2));apply vn bW rfl;refine cB false rfl (fun h=>by cases h) (fun _=>?_);apply vn aO rfl;refine vs _ rfl ?_ ?_<;>intro h383
   ·apply aA (iI (.of x.v) 1024 hvf) rfl;apply vn bC rfl;dsimp only [aG,aH];refine vs _ rfl ?_ ?_<;>intro h386
    ·apply aA aW rfl;exact aE rfl
    apply aA hF rfl;apply aA hS rfl;refine cB true rfl (fun _=>?_) (fun h=>by cases h);apply aA aW rfl;exact aE rfl
   exact (h383 hE).elim
  obtain ⟨hE,c,d,hF,hS⟩:=R.ok (by omega) (by omega) (fun hh=>h344 hh.1);apply vn bW rfl;refine cB false rfl (fun h=>by cases h) (fun _=>?_);apply vn aO rfl;dsimp only [aG,aH];refine vs _ rfl ?_ ?_<;>intro h407
  ·apply aA (iI (.of x.v) 1024 hvf) rfl;apply vn bC rfl;refine vs _ rfl ?_ ?_<;>intro h410
   ·apply aA aW rfl;exact aE rfl
   apply aA hF rfl;apply aA hS rfl;dsimp only [aG,aH];refine cB true rfl (fun _=>?_) (fun h=>by cases h);apply aA aW rfl;exact aE rfl
  exact (h407 hE).elim
 have hk60:k≤60:=by omega
 apply vn bC rfl;refine vs _ rfl ?_ ?_<;>intro h421
 ·apply vn jK rfl;refine vs _ rfl ?_ ?_<;>intro h423
  ·obtain ⟨n',hn'⟩:∃ n',n'=n%12:=⟨_,rfl⟩
   apply vn (cK) rfl;rw [←hn'];dsimp only [aG,aH];obtain ⟨a,b,e,R⟩:=kN x.v n' k hvf hk60;have hsg:x.v.num.sign<0↔x.v.num<0:=Int.sign_neg_iff;apply aA R.run rfl;apply aA (xA k hk60) rfl;apply aA (kO k hk60) rfl;apply aA (nR k hk60) rfl;dsimp only [aG,aH];apply vn oN rfl;refine cB false rfl (fun h=>by cases h) (fun _=>?_);apply vn bA rfl;refine vs _ rfl ?_ ?_<;>intro h433
   ·have hE:=R.bad (by omega);apply vn bW rfl;refine cB true rfl (fun _=>?_) (fun h=>by cases h);apply vn aO rfl;dsimp only [aG,aH];refine vs _ rfl ?_ ?_<;>intro h437
    ·refine eP (show aM [cP (a,b), .agg [.int .i64 0, .exact (.slice none 0 0), .int .i64 0, .exact (.slice none 0 0), .int .i64 0, .exact (.slice none 0 0), .int .i64 0, .exact (.slice none 0 0)]] [cP (a,b),fI .nil .nil] from ⟨aD.Sub.same,gO,trivial⟩) (bH a b hE.2.1 hE.2.2) rfl ?_;refine cB true rfl (fun _=>?_) (fun h=>by cases h);apply aA aW rfl;exact aE rfl
    exact (h437 hE.1).elim
   apply vn bC rfl;refine vs _ rfl ?_ ?_<;>intro h459
   ·have hE:=R.bad (by omega);apply vn bW rfl;refine cB true rfl (fun _=>?_) (fun h=>by cases h);apply vn aO rfl;dsimp only [aG,aH];refine vs _ rfl ?_ ?_<;>intro h463
    ·refine eP (show aM [cP (a,b), .agg [.int .i64 0, .exact (.slice none 0 0), .int .i64 0, .exact (.slice none 0 0), .int .i64 0, .exact (.slice none 0 0), .int .i64 0, .exact (.slice none 0 0)]] [cP (a,b),fI .nil .nil] from ⟨aD.Sub.same,gO,trivial⟩) (bH a b hE.2.1 hE.2.2) rfl ?_;refine cB true rfl (fun _=>?_) (fun h=>by cases h);apply aA aW rfl;exact aE rfl
    exact (h463 hE.1).elim
   apply vn (cK) rfl;apply vn aO rfl;refine vs _ rfl ?_ ?_<;>intro h486
   ·apply aA (jV (.of x.v)) rfl;dsimp only [aG,aH];apply vn bA rfl;refine vs _ rfl ?_ ?_<;>intro h489
    ·have hE:=R.opn (by omega) (by omega) h486 (hsg.1 h489);apply vn bW rfl;refine cB true rfl (fun _=>?_) (fun h=>by cases h);apply vn aO rfl;refine vs _ rfl ?_ ?_<;>intro h493
     ·refine eP (show aM [cP (a,b), .agg [.int .i64 0, .exact (.slice none 0 0), .int .i64 0, .exact (.slice none 0 0), .int .i64 0, .exact (.slice none 0 0), .int .i64 0, .exact (.slice none 0 0)]] [cP (a,b),fI .nil .nil] from ⟨aD.Sub.same,gO,trivial⟩) (bH a b hE.2.1 hE.2.2) rfl ?_;dsimp only [aG,aH];refine cB true rfl (fun _=>?_) (fun h=>by cases h);apply aA aW rfl;exact aE rfl
     exact (h493 hE.1).elim
    obtain ⟨hE,c,d,hF,hS⟩:=R.ok (by omega) (by omega) (fun hh=>h489 (hsg.2 hh.2));apply vn bW rfl;refine cB false rfl (fun h=>by cases h) (fun _=>?_);apply vn aO rfl;refine vs _ rfl ?_ ?_<;>intro h525
    ·apply aA (iI (.of x.v) 1024 hvf) rfl;apply vn bC rfl;dsimp only [aG,aH];refine vs _ rfl ?_ ?_<;>intro h528
     ·apply aA aW rfl;exact aE rfl
     apply aA hF rfl;apply aA hS rfl;refine cB true rfl (fun _=>?_) (fun h=>by cases h);apply aA aW rfl;exact aE rfl
    exact (h525 hE).elim
   obtain ⟨hE,c,d,hF,hS⟩:=R.ok (by omega) (by omega) (fun hh=>h486 hh.1);apply vn bW rfl;refine cB false rfl (fun h=>by cases h) (fun _=>?_);apply vn aO rfl;dsimp only [aG,aH];refine vs _ rfl ?_ ?_<;>intro h549
   ·apply aA (iI (.of x.v) 1024 hvf) rfl;apply vn bC rfl;refine vs _ rfl ?_ ?_<;>intro h552
    ·apply aA aW rfl;exact aE rfl
    apply aA hF rfl;apply aA hS rfl;dsimp only [aG,aH];refine cB true rfl (fun _=>?_) (fun h=>by cases h);apply aA aW rfl;exact aE rfl
   exact (h549 hE).elim
  obtain ⟨a,b,e,R⟩:=kN x.v n k hvf hk60;have hsg:x.v.num.sign<0↔x.v.num<0:=Int.sign_neg_iff;apply aA R.run rfl;apply aA (xA k hk60) rfl;apply aA (kO k hk60) rfl;apply aA (nR k hk60) rfl;dsimp only [aG,aH];apply vn oN rfl;refine cB false rfl (fun h=>by cases h) (fun _=>?_);apply vn bA rfl;refine vs _ rfl ?_ ?_<;>intro h570
  ·have hE:=R.bad (by omega);apply vn bW rfl;refine cB true rfl (fun _=>?_) (fun h=>by cases h);apply vn aO rfl;dsimp only [aG,aH];refine vs _ rfl ?_ ?_<;>intro h574
   ·refine eP (show aM [cP (a,b), .agg [.int .i64 0, .exact (.slice none 0 0), .int .i64 0, .exact (.slice none 0 0), .int .i64 0, .exact (.slice none 0 0), .int .i64 0, .exact (.slice none 0 0)]] [cP (a,b),fI .nil .nil] from ⟨aD.Sub.same,gO,trivial⟩) (bH a b hE.2.1 hE.2.2) rfl ?_;refine cB true rfl (fun _=>?_) (fun h=>by cases h);apply aA aW rfl;exact aE rfl
   exact (h574 hE.1).elim
  apply vn bC rfl;refine vs _ rfl ?_ ?_<;>intro h596
  ·have hE:=R.bad (by omega);apply vn bW rfl;refine cB true rfl (fun _=>?_) (fun h=>by cases h);apply vn aO rfl;dsimp only [aG,aH];refine vs _ rfl ?_ ?_<;>intro h600
   ·refine eP (show aM [cP (a,b), .agg [.int .i64 0, .exact (.slice none 0 0), .int .i64 0, .exact (.slice none 0 0), .int .i64 0, .exact (.slice none 0 0), .int .i64 0, .exact (.slice none 0 0)]] [cP (a,b),fI .nil .nil] from ⟨aD.Sub.same,gO,trivial⟩) (bH a b hE.2.1 hE.2.2) rfl ?_;refine cB true rfl (fun _=>?_) (fun h=>by cases h);apply aA aW rfl;exact aE rfl
   exact (h600 hE.1).elim
  apply vn (cK) rfl;apply vn aO rfl;refine vs _ rfl ?_ ?_<;>intro h623
  ·apply aA (jV (.of x.v)) rfl;dsimp only [aG,aH];apply vn bA rfl;refine vs _ rfl ?_ ?_<;>intro h626
   ·have hE:=R.opn (by omega) (by omega) h623 (hsg.1 h626);apply vn bW rfl;refine cB true rfl (fun _=>?_) (fun h=>by cases h);apply vn aO rfl;refine vs _ rfl ?_ ?_<;>intro h630
    ·refine eP (show aM [cP (a,b), .agg [.int .i64 0, .exact (.slice none 0 0), .int .i64 0, .exact (.slice none 0 0), .int .i64 0, .exact (.slice none 0 0), .int .i64 0, .exact (.slice none 0 0)]] [cP (a,b),fI .nil .nil] from ⟨aD.Sub.same,gO,trivial⟩) (bH a b hE.2.1 hE.2.2) rfl ?_;dsimp only [aG,aH];refine cB true rfl (fun _=>?_) (fun h=>by cases h);apply aA aW rfl;exact aE rfl
    exact (h630 hE.1).elim
   obtain ⟨hE,c,d,hF,hS⟩:=R.ok (by omega) (by omega) (fun hh=>h626 (hsg.2 hh.2));apply vn bW rfl;refine cB false rfl (fun h=>by cases h) (fun _=>?_);apply vn aO rfl;refine vs _ rfl ?_ ?_<;>intro h662
   ·apply aA (iI (.of x.v) 1024 hvf) rfl;apply vn bC rfl;dsimp only [aG,aH];refine vs _ rfl ?_ ?_<;>intro h665
    ·apply aA aW rfl;exact aE rfl
    apply aA hF rfl;apply aA hS rfl;refine cB true rfl (fun _=>?_) (fun h=>by cases h);apply aA aW rfl;exact aE rfl
   exact (h662 hE).elim
  obtain ⟨hE,c,d,hF,hS⟩:=R.ok (by omega) (by omega) (fun hh=>h623 hh.1);apply vn bW rfl;refine cB false rfl (fun h=>by cases h) (fun _=>?_);apply vn aO rfl;dsimp only [aG,aH];refine vs _ rfl ?_ ?_<;>intro h686
  ·apply aA (iI (.of x.v) 1024 hvf) rfl;apply vn bC rfl;refine vs _ rfl ?_ ?_<;>intro h689
   ·apply aA aW rfl;exact aE rfl
   apply aA hF rfl;apply aA hS rfl;dsimp only [aG,aH];refine cB true rfl (fun _=>?_) (fun h=>by cases h);apply aA aW rfl;exact aE rfl
  exact (h686 hE).elim
 obtain ⟨a,b,e,R⟩:=kN x.v n k hvf hk60;have hsg:x.v.num.sign<0↔x.v.num<0:=Int.sign_neg_iff;apply aA R.run rfl;apply aA (xA k hk60) rfl;apply aA (kO k hk60) rfl;apply aA (nR k hk60) rfl;dsimp only [aG,aH];apply vn oN rfl;refine cB false rfl (fun h=>by cases h) (fun _=>?_);apply vn bA rfl;refine vs _ rfl ?_ ?_<;>intro h707
 ·have hE:=R.bad (by omega);apply vn bW rfl;refine cB true rfl (fun _=>?_) (fun h=>by cases h);apply vn aO rfl;dsimp only [aG,aH];refine vs _ rfl ?_ ?_<;>intro h711
  ·refine eP (show aM [cP (a,b), .agg [.int .i64 0, .exact (.slice none 0 0), .int .i64 0, .exact (.slice none 0 0), .int .i64 0, .exact (.slice none 0 0), .int .i64 0, .exact (.slice none 0 0)]] [cP (a,b),fI .nil .nil] from ⟨aD.Sub.same,gO,trivial⟩) (bH a b hE.2.1 hE.2.2) rfl ?_;refine cB true rfl (fun _=>?_) (fun h=>by cases h);apply aA aW rfl;exact aE rfl
  exact (h711 hE.1).elim
 apply vn bC rfl;refine vs _ rfl ?_ ?_<;>intro h733
 ·have hE:=R.bad (by omega);apply vn bW rfl;refine cB true rfl (fun _=>?_) (fun h=>by cases h);apply vn aO rfl;dsimp only [aG,aH];refine vs _ rfl ?_ ?_<;>intro h737
  ·refine eP (show aM [cP (a,b), .agg [.int .i64 0, .exact (.slice none 0 0), .int .i64 0, .exact (.slice none 0 0), .int .i64 0, .exact (.slice none 0 0), .int .i64 0, .exact (.slice none 0 0)]] [cP (a,b),fI .nil .nil] from ⟨aD.Sub.same,gO,trivial⟩) (bH a b hE.2.1 hE.2.2) rfl ?_;refine cB true rfl (fun _=>?_) (fun h=>by cases h);apply aA aW rfl;exact aE rfl
  exact (h737 hE.1).elim
 apply vn (cK) rfl;apply vn aO rfl;refine vs _ rfl ?_ ?_<;>intro h760
 ·apply aA (jV (.of x.v)) rfl;dsimp only [aG,aH];apply vn bA rfl;refine vs _ rfl ?_ ?_<;>intro h763
  ·have hE:=R.opn (by omega) (by omega) h760 (hsg.1 h763);apply vn bW rfl;refine cB true rfl (fun _=>?_) (fun h=>by cases h);apply vn aO rfl;refine vs _ rfl ?_ ?_<;>intro h767
   ·refine eP (show aM [cP (a,b), .agg [.int .i64 0, .exact (.slice none 0 0), .int .i64 0, .exact (.slice none 0 0), .int .i64 0, .exact (.slice none 0 0), .int .i64 0, .exact (.slice none 0 0)]] [cP (a,b),fI .nil .nil] from ⟨aD.Sub.same,gO,trivial⟩) (bH a b hE.2.1 hE.2.2) rfl ?_;dsimp only [aG,aH];refine cB true rfl (fun _=>?_) (fun h=>by cases h);apply aA aW rfl;exact aE rfl
   exact (h767 hE.1).elim
  obtain ⟨hE,c,d,hF,hS⟩:=R.ok (by omega) (by omega) (fun hh=>h763 (hsg.2 hh.2));apply vn bW rfl;refine cB false rfl (fun h=>by cases h) (fun _=>?_);apply vn aO rfl;refine vs _ rfl ?_ ?_<;>intro h799
  ·apply aA (iI (.of x.v) 1024 hvf) rfl;apply vn bC rfl;dsimp only [aG,aH];refine vs _ rfl ?_ ?_<;>intro h802
   ·apply aA aW rfl;exact aE rfl
   apply aA hF rfl;apply aA hS rfl;refine cB true rfl (fun _=>?_) (fun h=>by cases h);apply aA aW rfl;exact aE rfl
  exact (h799 hE).elim
 obtain ⟨hE,c,d,hF,hS⟩:=R.ok (by omega) (by omega) (fun hh=>h760 hh.1);apply vn bW rfl;refine cB false rfl (fun h=>by cases h) (fun _=>?_);apply vn aO rfl;dsimp only [aG,aH];refine vs _ rfl ?_ ?_<;>intro h823
 ·apply aA (iI (.of x.v) 1024 hvf) rfl;apply vn bC rfl;refine vs _ rfl ?_ ?_<;>intro h826
  ·apply aA aW rfl;exact aE rfl
  apply aA hF rfl;apply aA hS rfl;dsimp only [aG,aH];refine cB true rfl (fun _=>?_) (fun h=>by cases h);apply aA aW rfl;exact aE rfl
 exact (h823 hE).elim
end Go.Sy
