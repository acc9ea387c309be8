/- Part. -/
import Derived.Test.YtdmcadckdnnglaaGreatDoorHe
set_option linter.all false
namespace Go.Sy
open Go Go.Proofs Tryz Ord
def Pj:Tr:=.back 0 [lV 12 0, .row 11]
def XN:Tr:=dR 41 0 (some 6) 123 78 (.need (.idx 8 (.u 33 0)) (.indexAddr 118 (tT 82) (tT 83)) 0 false (.need (.ldrow 8 (.u 33 0) 0 6 true) (.load 123 (tT 84)) 123 false (aJ 67 [(G6 42),(G6 43)] [(some 6)] [81,85] [123,123] 123 true (aJ 66 [(.agg [(U 34 0),(U 35 0),(U 36 0),(U 37 0),(U 38 0),(U 39 0)]),(G6 44)] [(some 6)] [80,86] [123,123] 123 true (aW .add 3 75 1 33 0 3 (.back 2 [lV 46 0,lV 45 0,lV 45 1,lV 45 2,lV 45 3,lV 45 4,lV 45 5]))))))
def ad4:Tr:=bO .lss 3 75 74 33 0 32 0 0 (.split (.u 40 0) (eN 31 0 33 0 118 73 75 XN) (aJ 229 [(.agg [(U 34 0),(U 35 0),(U 36 0),(U 37 0),(U 38 0),(U 39 0)]),(W 2 0)] [(some 6)] [90,91] [123,3] 123 true (.need (.lit 6 [[(.u 41 0),(.u 41 1),(.u 41 2),(.u 41 3),(.u 41 4),(.u 41 5)]]) (.buildSlice 118 1 #[(0,(tT 92))]) 118 false (.need (.app 6 112 (some 28) none (some 42)) (.call ⟨.builtin .append,#[(tT 89),(tT 93)],#[118,118]⟩) 118 false (aW .add 3 69 1 27 0 3 (.back 1 [lV 44 0, .row 43]))))))
def ak6:Tr:=.loop 1 [lK 0, .nilrow] (bO .lss 3 69 68 27 0 26 0 0 (.split (.u 29 0) (eN 25 0 27 0 109 67 69 (dR 30 0 none 118 71 (cU 31 0 73 118 (.loop 2 [lK 0,lN,(.w (.one (.c (.k (.bool false))))),lN,lN,(.w (.one (.c (.k (.bool false))))),lN] ad4)))) (aJ 64 [(.agg [(U 9 0),(U 10 0),(U 11 0)]),(G3 24)] [(some 3)] [97,98] [39,39] 39 true (aW .add 3 40 1 7 0 3 (.back 0 [lV 31 0, .row 28,lV 30 0,lV 30 1,lV 30 2])))))
def YQ:Tr:=aJ 167 [(G3 1),(.agg [(U 9 0),(U 10 0),(U 11 0)])] [(some 3)] [57,58] [39,39] 39 false (.need (.lit 3 [[(.u 18 0),(.u 18 1),(.u 18 2)],[(.u 20 0),(.u 20 1),(.u 20 2)]]) (.buildSlice 40 2 #[(0,(tT 56)),(1,(tT 59))]) 40 false (aJ 235 [(.one (.c (.sr 3 21)))] [(some 3)] [60] [40] 39 true (.need (.lit 3 [[(.u 19 0),(.u 19 1),(.u 19 2)],[(.u 22 0),(.u 22 1),(.u 22 2)]]) (.buildSlice 40 2 #[(0,(tT 55)),(1,(tT 61))]) 40 false (aJ 208 [(.one (.c (.sr 3 23)))] [(some 3)] [62] [40] 39 true (aJ 147 [(.agg [(U 16 0),(U 16 1),(U 16 2),(U 16 3),(U 16 4),(U 16 5),(U 16 6),(U 16 7),(U 16 8)]),(G3 24),(W 2 0)] [none] [64,65,66] [185,39,3] 109 true (cU 25 0 67 109 ak6))))))
def YZ:Tr:=aW .lss 3 42 64 7 0 4 (.need (.call 130 [(W 14 0),(WK 5)] []) (.call ⟨.value (.func 130),#[(tT 43),(.const (I3 5))],#[4,55]⟩) 0 true (aJ 100 [(W 0 0),(.agg [(U 9 0),(U 10 0),(U 11 0)])] [(some 5)] [46,47] [32,39] 171 true (aJ 123 [(G5 15)] [(some 9)] [48] [171] 185 true (.need (.call 202 [(WK 1)] [(some 3)]) (.call ⟨.value (.func 202),#[(.const (I3 1))],#[3]⟩) 39 true (aJ 36 [(.agg [(U 16 5),(U 16 6),(U 16 7)]),(G3 17)] [(some 3)] [51,52] [39,39] 39 true (aJ 65 [(G3 18)] [(some 3)] [54] [39] 39 false YQ))))))
def aJ8:Tr:=.split (.u 6 0) (eN 0 4 4 0 40 22 24 (dR 7 0 (some 3) 39 26 (aJ 227 [(G3 8)] [(some 6)] [29] [39] 123 true (.need (.lit 6 [[(.u 9 0),(.u 9 1),(.u 9 2),(.u 9 3),(.u 9 4),(.u 9 5)]]) (.buildSlice 118 1 #[(0,(tT 30))]) 118 false (.need (.app 6 112 (some 5) none (some 10)) (.call ⟨.builtin .append,#[(tT 28),(tT 31)],#[118,118]⟩) 118 false (aW .add 3 24 1 4 0 3 Pj)))))) (.loop 0 [lK 0, .row 5,lV 0 1,lV 0 2,lV 0 3] (aJ 38 [(.agg [(U 9 0),(U 10 0),(U 11 0)]),(G3 1)] [none] [36,37] [39,39] 3 true (aW .neq 3 38 0 12 0 4 (.split (.u 13 0) YZ (.ret [(.one (.c (.sr 6 8)))])))))
def aJ1:Tr:=cU 0 4 22 40 (.loop 0 [lK 0, .nilrow] (bO .lss 3 24 23 4 0 3 0 0 aJ8))
theorem Qk:aL prog f234 (look [(1,⟨[11],[(7,118)],[],[(10,[])]⟩)]) [.v (some 5), .v (some 3), .v none]=aJ1:=by kernel_rfl
theorem Se:aY aE.Sub [.one (.exact (.slice none 0 0)), .one (.bool false), .one (.exact (.slice none 0 0)), .one (.exact (.slice none 0 0)), .one (.bool false), .one (.exact (.slice none 0 0))] ((QT 0 0).map .one):=⟨eV.1,eV.2.1,eV.2.2.1,eV.1,eV.2.1,eV.2.2.1,trivial⟩
abbrev VS:=List (Rat×Rat)
abbrev vS (v:VS):List (List aG):=v.map fun p=>QT p.1 p.2
def AI (M v:Nat→Rat×Rat):Nat→Rat×Rat
 | 0=>(0,0)
 | l+1=>((AI M v l).1+KW (M l).1 (M l).2 (v l).1 (v l).2,(AI M v l).2+Ln (M l).1 (M l).2 (v l).1 (v l).2)
def uJ (m:Nat) (k:Int) (M:Nat→Nat→Rat×Rat) (v:VS) (d:Nat):Rat×Rat:=
 (mL (AI (M d) (fun l=>v.getD l (0,0)) m).1 k.toNat,SR (AI (M d) (fun l=>v.getD l (0,0)) m).2 k.toNat)
def yM (m:Nat) (k:Int) (M:Nat→Nat→Rat×Rat) (v:VS):VS:=(List.range m).map (uJ m k M v)
def eD (aF:Rat):Rat:=aF*mkRat 1 (2^1)
def eC (aF x c:Rat):Rat:=lZ [-(eD aF),mG [eD aF,x-c] 2] 2
def Ac (E:List (List Rat)) (c aF:Rat) (st:Nat) (t:Rat) (k:Int) (N:Nat):Nat→Nat→Rat×Rat:=fun d l=>
 (HW (bH E c) (E.length-1) (aQ E c) aF st t k N d l,Ho (bH E c) (E.length-1) (aQ E c) aF st t k N d l)
def xL (E:List (List Rat)) (x:Rat) (k:Int) (c:Rat):Option (Rat×(Nat→Nat→Rat×Rat)):=
 match cY (bH E c) (E.length-1) (aQ E c) with
 | none=>none
 | some (aF,st)=>match gI E c aF st (eC aF x c) (E.length-1-1) k with
   | none=>none
   | some N=>some (eC aF x c,Ac E c aF st (eC aF x c) k N)
def TN (E:List (List Rat)) (x:Rat) (k:Int) (r:Rat→VS→Option VS) (c:Rat) (v:VS):Option VS:=
 if c=x then some v else (xL E x k c).elim none fun z=>r (c+z.1) (yM (E.length-1) k z.2 v)
def gZ (E:List (List Rat)) (x:Rat) (k:Int):Nat→Rat→VS→Option VS
 | 0=>fun c v=>if c=x then some v else none
 | f+1=>fun c v=>TN E x k (gZ E x k f) c v
theorem xW {E:List (List Rat)} {x c:Rat} {k:Int} {v:VS} (h:c≠x):gZ E x k 0 c v=none:=if_neg h
theorem xV {E:List (List Rat)} {x c:Rat} {k:Int} {v:VS} (f:Nat) (h:c≠x) (hn:xL E x k c=none):gZ E x k f c v=none:=by
 cases f with
 | zero=>exact if_neg h
 | succ f=>show TN E x k (gZ E x k f) c v=none;unfold TN;rw [if_neg h,hn];rfl
theorem xN {E:List (List Rat)} {x c t:Rat} {k:Int} {v:VS} {M:Nat→Nat→Rat×Rat} (f:Nat) (h:c≠x) (hn:xL E x k c=some (t,M)):gZ E x k (f+1) c v=gZ E x k f (c+t) (yM (E.length-1) k M v):=by
 show TN E x k (gZ E x k f) c v=_;unfold TN;rw [if_neg h,hn];rfl
theorem rH {E:List (List Rat)} {x:Rat} {k:Int} {v:VS} (f:Nat):gZ E x k f x v=some v:=by
 cases f with
 | zero=>exact if_pos rfl
 | succ f=>exact if_pos rfl
theorem xH {E:List (List Rat)} {x c:Rat} {k:Int} (h:cY (bH E c) (E.length-1) (aQ E c)=none):xL E x k c=none:=by unfold xL;rw [h]
theorem wW {E:List (List Rat)} {x c aF:Rat} {st:Nat} {k:Int} (h:cY (bH E c) (E.length-1) (aQ E c)=some (aF,st)) (hn:gI E c aF st (eC aF x c) (E.length-1-1) k=none):xL E x k c=none:=by unfold xL;rw [h];dsimp only;rw [hn]
theorem AM {E:List (List Rat)} {x c aF:Rat} {st N:Nat} {k:Int} (h:cY (bH E c) (E.length-1) (aQ E c)=some (aF,st)) (hn:gI E c aF st (eC aF x c) (E.length-1-1) k=some N):xL E x k c=some (eC aF x c,Ac E c aF st (eC aF x c) k N):=by unfold xL;rw [h];dsimp only;rw [hn]
def Xo:Option VS→Out
 | some v=>.ret [.one (.slice 6 (vS v))]
 | none=>.pan (RY 5)
structure br0 (E:List (List Rat)) (x:Rat) (k:Int) (H:Nat) (c:Rat):Prop where
 hat:aM prog 100 [.one (eQ E),qT c] (.ret [Ig (bH E c) (E.length-1) (aQ E c)])
 hre:aM prog 123 [Ig (bH E c) (E.length-1) (aQ E c)] (yJ E c)
 rf:∀ aF st,cY (bH E c) (E.length-1) (aQ E c)=some (aF,st)→Fit 2097152 aF
 mx:∀ aF st,cY (bH E c) (E.length-1) (aQ E c)=some (aF,st)→aM prog 147 [.agg (Cn (bH E c) (E.length-1) (aQ E c) aF (st:Nat)),qT (eC aF x c), .one (.int .i64 k)] (NG (bH E c) (E.length-1) (aQ E c) aF st (eC aF x c) k (gI E c aF st (eC aF x c) (E.length-1-1) k))
 tf:∀ aF st,cY (bH E c) (E.length-1) (aQ E c)=some (aF,st)→Fit 2097152 (eC aF x c)
 ent:∀ aF st N,cY (bH E c) (E.length-1) (aQ E c)=some (aF,st)→gI E c aF st (eC aF x c) (E.length-1-1) k=some N→∀ d,d<E.length-1→∀ l,l<E.length-1 →
  Fit H (Ac E c aF st (eC aF x c) k N d l).1∧Fit H (Ac E c aF st (eC aF x c) k N d l).2
structure Sg (E:List (List Rat)) (x:Rat) (k:Int) (H W:Nat) (Inv:Nat→Rat→VS→Prop):Prop where
 few:∀ f c v,Inv f c v→Fit 1024 c∧v.length=E.length-1∧∀ p∈v,Fit W p.1∧Fit W p.2
 hop:∀ f c v,Inv f c v→c≠x→br0 E x k H c
 next:∀ f c v t M,Inv (f+1) c v→c≠x→xL E x k c=some (t,M)→Inv f (c+t) (yM (E.length-1) k M v)
theorem Ab {M v:Nat→Rat×Rat} {m H W:Nat} (hH:1≤H) (hM:∀ l,l<m→Fit H (M l).1∧Fit H (M l).2) (hv:∀ l,l<m→Fit W (v l).1∧Fit W (v l).2):∀ l,l≤m→Fit (l*(H+W+1)+1) (AI M v l).1∧Fit (l*(H+W+1)+1) (AI M v l).2
 | 0,_=>⟨Fit.zero (by omega),Fit.zero (by omega)⟩
 | l+1,h=>by
   obtain ⟨a1,a2⟩:=Ab hH hM hv l (by omega);obtain ⟨b1,b2⟩:=Io hH (hM l (by omega)).1 (hM l (by omega)).2 (hv l (by omega)).1 (hv l (by omega)).2;rw [AI,Nat.add_mul,Nat.one_mul];exact ⟨(a1.add b1).mono (by omega),(a2.add b2).mono (by omega)⟩
theorem Cg {v:VS} {l:Nat} (h:l<v.length:=by omega):v[l]? = some (v.getD l (0,0)):=by
 rw [dS,bI h];rfl
theorem Gm {aF:Rat} {B:Nat} (h:Fit B aF):Fit (B+257) (eD aF):=h.mul (kM (by omega))
theorem ZQ {a b:Rat}:lG a b≠0↔a≠b:=by
 unfold lG
 constructor
 ·rintro h rfl;exact h (by rw [if_neg (by grind),if_neg (by grind)])
 ·intro h;split
  ·omega
  ·split
   ·omega
   ·exact absurd (show a=b by grind) h
set_option maxHeartbeats 4000000 in
theorem Rs (E:List (List Rat)) (X:Rat) (Y:List Rat) (x:Rat) (k:Int) (H W:Nat) (Inv:Nat→Rat→VS→Prop) (P:Sg E x k H W Inv) (hk:k≤256) (hE1:2≤E.length) (hE5:E.length≤5) (hx:Fit 1024 x) (hyl:Y.length<1099511627776) (h0:Inv 64 X (Y.map fun y=>(y,y))) (hH:1≤H:=by omega) (hW:1≤W:=by omega) (hHW:5*(H+W+1)≤4294967296:=by omega):aM prog 234 [(fT E X Y:aE),(qT x:aE),(.one (.int .i64 k):aE)] (Xo (gZ E x k 64 X (Y.map fun y=>(y,y)))):=by
 refine cT (args:=[.v (some 5), .v (some 3), .v none]) (ins:=[.v (fT E X Y), .v (qT x), .v (.one (.int .i64 k))]) (hints:=(look [(1,⟨[11],[(7,118)],[],[(10,[])]⟩)])) fo (by kernel_rfl) func234 ⟨rfl,rfl,rfl,trivial⟩ ?_;rw [Qk];dsimp only [List.map,In.env,aD,aC];apply vn (aU wV (aP _)) rfl;refine bB {i:Nat // i≤Y.length} (fun g=>[.one (.int .i64 g.1), .rows (vS ((Y.take g.1).map fun y=>(y,y)))]) (fun g=>Y.length-g.1) ⟨0,bV _⟩ aN.rfl (fun _=>rfl) ?_;rintro ⟨i,hi⟩;dsimp only [aD,aC] at hi ⊢;apply vn aZ rfl;refine vs _ rfl ?_ ?_<;>intro h3
 ·obtain ⟨y,hy⟩:∃ y,Y[i]? = some y:=⟨_,bI (by omega)⟩
  apply vn (aV wV hy (Int.toNat_natCast i)) rfl;apply vn (bJ tA (by decide) (by simp) (.inl rfl)) rfl;dsimp only [aD,aC];apply aA (bv4 y) rfl;apply bP (us:=[QT y y]) rfl;refine qQ (ts:=vS ((Y.take i).map fun y=>(y,y))) (us:=[QT y y]) (vs:=vS ((Y.take (i+1)).map fun y=>(y,y))) rfl rfl (by rw [List.take_add_one,hy];simp) (by simp;omega) (by simp [maxLen];omega) ?_;dsimp only [aD,aC];apply vn (aB) rfl;dsimp only [aD,aC];exact aR rfl ⟨⟨i+1,by omega⟩,aN.rfl,by show Y.length-(i+1)<Y.length-i;omega⟩
 obtain rfl:i=Y.length:=by omega
 rw [List.take_length];obtain ⟨res,hres⟩:∃ res,gZ E x k 64 X (Y.map fun y=>(y,y))=res:=⟨_,rfl⟩
 rw [hres];refine bB {g:Nat×Rat×VS // g.1≤64∧Inv g.1 g.2.1 g.2.2∧gZ E x k g.1 g.2.1 g.2.2=res} (fun g=>(.one (.int .i64 (64-(g.1.1:Int))):aE) :: .rows (vS g.1.2.2)::(qC g.1.2.1).map .one) (fun g=>g.1.1) ⟨(64,X,Y.map fun y=>(y,y)),bC _,h0,hres⟩ aN.rfl (fun _=>rfl) ?_;rintro ⟨⟨f,c,v⟩,hf,hI,hr⟩;dsimp only [aD,aC,List.map] at hf hI hr ⊢;obtain ⟨hcf,hvl,hvf⟩:=P.few f c v hI;apply aA (tY c x 1024 1024 hcf hx) rfl;apply vn gD rfl;refine vs _ rfl (fun hne=>?_) (fun heq=>?_)
 ·have hcx:c≠x:=ZQ.1 hne;have HO:=P.hop f c v hI hcx;apply vn aZ rfl;dsimp only [aD,aC];rcases Nat.eq_zero_or_pos f with hf0 | hf0
  ·rw [show res=none by rw [←hr,hf0];exact xW hcx,show decide ((64:Int)-(f:Int)<64)=false from decide_eq_false (by omega)];exact vcp (sL 5) rfl
  obtain ⟨g,hg⟩:∃ g,f=g+1:=⟨f-1,by omega⟩
  rw [hg] at hr;rw [show decide ((64:Int)-(f:Int)<64)=true from decide_eq_true (by omega)];apply aA (sK 5) rfl;apply aA HO.hat rfl;dsimp only [aD,aC];have hre:=HO.hre;have hhop:xL E x k c=none→res=none:=fun e=>by rw [←hr];exact xV _ hcx e
  unfold yJ at hre;obtain ⟨rv,hv⟩:∃ rv,cY (bH E c) (E.length-1) (aQ E c)=rv:=⟨_,rfl⟩
  rw [hv] at hre;rcases rv with _ | ⟨aF,st⟩
  ·rw [hhop (xH hv)];exact vcp hre rfl
  have hrf:=HO.rf aF st hv;have htf:=HO.tf aF st hv;apply aA hre rfl;apply aA (yV 1) rfl;apply aA (dN aF (mkRat 1 (2^1)) 2097152 257 hrf (kM (by omega))) rfl;rw [show aF*mkRat 1 (2^1)=eD aF from rfl];have hhf:=Gm hrf;dsimp only [aD,aC];apply aA (DH (eD aF)) rfl;apply aA (HB x c 1024 1024 hx hcf) rfl;have hxc:=hx.sub hcf;apply bP (us:=rQ [eD aF,x-c]) rfl;dsimp only [aD,aC]
  apply aA (aw0 [eD aF,x-c] 2097409 (fun y hy=>by
   simp only [List.mem_cons,List.not_mem_nil,or_false] at hy;rcases hy with rfl | rfl
   ·exact hhf
   ·exact hxc.mono (by decide)) (by omega) (by omega) (by simp)) rfl
  have hmf:Fit 2097409 (mG [eD aF,x-c] 2):=uE (fun y hy=>by
   simp only [List.mem_cons,List.not_mem_nil,or_false] at hy;rcases hy with rfl | rfl
   ·exact hhf
   ·exact hxc.mono (by decide)) 2 (by simp)
  apply bP (us:=rQ [-(eD aF),mG [eD aF,x-c] 2]) rfl
  apply aA (Sz [-(eD aF),mG [eD aF,x-c] 2] 2097409 (fun y hy=>by
   simp only [List.mem_cons,List.not_mem_nil,or_false] at hy;rcases hy with rfl | rfl
   ·exact hhf.neg
   ·exact hmf) (by omega) (by omega) (by simp)) rfl
  rw [show lZ [-(eD aF),mG [eD aF,x-c] 2] [-(eD aF),mG [eD aF,x-c] 2].length=eC aF x c from rfl];dsimp only [aD,aC];have hmx:=HO.mx aF st hv;unfold NG at hmx;have hent:=HO.ent aF st;obtain ⟨no,hn⟩:∃ no,gI E c aF st (eC aF x c) (E.length-1-1) k=no:=⟨_,rfl⟩
  rw [hn] at hmx;rcases no with _ | N<;>dsimp only at hmx
  ·rw [hhop (wW hv hn)];exact vcp hmx rfl
  have hent:=hent N hv hn;have hsm:=AM hv hn;rw [hg] at hI;have hnx:=P.next g c v (eC aF x c) (Ac E c aF st (eC aF x c) k N) hI hcx hsm
  have hrs:gZ E x k g (c+eC aF x c) (yM (E.length-1) k (Ac E c aF st (eC aF x c) k N) v)=res:=by
   rw [←hr];exact (xN g hcx hsm).symm
  obtain ⟨M,hM⟩:∃ M,Ac E c aF st (eC aF x c) k N=M:=⟨_,rfl⟩
  obtain ⟨m,hm⟩:∃ m,E.length-1=m:=⟨_,rfl⟩
  apply aA hmx rfl;rw [show Rv (bH E c) (E.length-1) (aQ E c) aF st (eC aF x c) k N (E.length-1)=(List.range m).map fun d=>[.slice 6 ((List.range m).map fun l=>QT (M d l).1 (M d l).2)] by rw [←hM,←hm];rfl];rw [hM] at hent hnx hrs;rw [hm] at hent hnx hrs hvl;apply vn (aU aw7 ((aP _).trans oE)) rfl;refine bB {d:Nat // d≤m} (fun g=>[.one (.int .i64 g.1), .rows (vS ((List.range g.1).map (uJ m k M v)))]) (fun g=>m-g.1) ⟨0,bV _⟩ aN.rfl (fun _=>rfl) ?_;rintro ⟨d,hd⟩;dsimp only [aD,aC] at hd ⊢;apply vn aZ rfl;refine vs _ rfl ?_ ?_<;>intro h31
  ·have hdm:d<m:=by omega
   refine vn (aV aw7 (List.getElem?_range hdm) (Int.toNat_natCast d)) rfl ?_;apply vn (bG bA5) rfl;dsimp only [aD,aC];apply vn (aU tL ((aP _).trans oE)) rfl;dsimp only [aD,aC];have hdf:=fun l hl=>Ab (M:=M d) (v:=fun l=>v.getD l (0,0)) (m:=m) (W:=W) hH (fun l hl=>hent d hdm l hl) (fun l hl=>hvf _ (cI (Cg (v:=v)))) l hl;refine bB {l:Nat // l≤m} (fun g=>(.one (.int .i64 g.1):aE)::(QT (AI (M d) (fun l=>v.getD l (0,0)) g.1).1 (AI (M d) (fun l=>v.getD l (0,0)) g.1).2).map .one) (fun g=>m-g.1) ⟨0,bV _⟩ ⟨aE.Sub.same,Se⟩ (fun _=>rfl) ?_;rintro ⟨l,hl⟩;dsimp only [aD,aC,List.map] at hl ⊢;apply vn aZ rfl;refine vs _ rfl ?_ ?_<;>intro h37
   ·have hlm:l<m:=by omega
    refine vn (aV tL (List.getElem?_range hlm) (Int.toNat_natCast l)) rfl ?_;apply vn (bJ Gz (by decide) (by simp) (.inl rfl)) rfl;dsimp only [aD,aC];have hvx:=Cg (v:=v) (l:=l);refine kR rfl rfl (by omega) (by rw [aP];omega) ?_;refine Fw (m:=l) (t:=Cc (v.getD l (0,0)).1 (v.getD l (0,0)).2) rfl rfl (by omega) (by omega) hvx (.inl rfl) rfl ?_;dsimp only [aD,aC,IJ,List.drop,List.take];obtain ⟨e1,e2⟩:=hent d hdm l hlm;obtain ⟨w1,w2⟩:=hvf _ (cI hvx);apply aA (aJ2 (M d l).1 (M d l).2 (v.getD l (0,0)).1 (v.getD l (0,0)).2 H W hH e1 e2 w1 w2) rfl;dsimp only [aD,aC];obtain ⟨p1,p2⟩:=Io hH e1 e2 w1 w2;obtain ⟨d1,d2⟩:=hdf l (by omega);have hlx:l*(H+W+1)+1≤4*(H+W+1)+1:=Nat.succ_le_succ (Nat.mul_le_mul_right _ (by omega));apply aA (VF _ _ _ _ (l*(H+W+1)+1) (H+W) d1 d2 p1 p2) rfl;apply vn (aB) rfl;dsimp only [aD,aC];exact aR rfl ⟨⟨l+1,by omega⟩,aN.rfl,by show m-(l+1)<m-l;omega⟩
   obtain rfl:l=m:=by omega
   obtain ⟨d1,d2⟩:=hdf l (bC _);have hlx:l*(H+W+1)+1≤4*(H+W+1)+1:=Nat.succ_le_succ (Nat.mul_le_mul_right _ (by omega));apply aA (Sv _ _ k (l*(H+W+1)+1) hk d1 d2) rfl;apply bP (us:=[QT (uJ l k M v d).1 (uJ l k M v d).2]) rfl;refine qQ (ts:=vS ((List.range d).map (uJ l k M v))) (us:=[QT (uJ l k M v d).1 (uJ l k M v d).2]) (vs:=vS ((List.range (d+1)).map (uJ l k M v))) rfl rfl (by rw [List.range_succ];simp) (by simp;omega) (by simp [maxLen];omega) ?_;dsimp only [aD,aC];apply vn (aB) rfl;dsimp only [aD,aC];exact aR rfl ⟨⟨d+1,by omega⟩,aN.rfl,by show l-(d+1)<l-d;omega⟩
  obtain rfl:d=m:=by omega
  apply aA (mE c (eC aF x c) 1024 2097152 hcf htf) rfl;apply vn (aB) rfl
  exact aR rfl ⟨⟨(g,c+eC aF x c,yM d k M v),by dsimp only;omega,hnx,hrs⟩,aN.of_eq (by
   dsimp only;rw [show (64:Int)-(f:Int)+1=64-(g:Int) by omega];rfl),by show g<f;omega⟩
 have hcx:c=x:=Classical.byContradiction fun h=>heq (ZQ.2 h)
 rw [show res=some v by rw [←hr,hcx];exact rH f];exact aK rfl
open Go Go.Proofs Go.RowKit Tryz Ord
attribute [local go_sem] Oper.semAt_some
def aY0:Tr:=aJ 234 [(G5 0),(G3 1),(W 2 0)] [none] [4,5,6] [42,39,3] 118 true (.fail 4)
theorem FG:aL prog f233 (fun _=>none) [.ref 5, .ref 3, .ref 1, .ref 1]=aY0:=by kernel_rfl
def wE:Tr:=.retr [] 5
def wH:Tr:=.need (.strow 3 1 (.k (.int .i64 (0))) 0 [(.u 4 0)]) (.store 118 (.tmp 3) (.tmp 7)) 0 false wE
def wF:Tr:=.need (.call 234 [(.agg [(U 0 0),(U 0 1),(U 0 2),(U 0 3),(U 0 4)]),(.agg [(U 1 0),(U 1 1),(U 1 2)]),(W 2 0)] [none]) (.call ⟨.value (.func 234),#[(.tmp 4),(.tmp 5),(.tmp 6)],#[42,39,3]⟩) 118 true wH
theorem zD:Tk prog f233 (fun _=>none) [.ref 5, .ref 3, .ref 1] 118 1=wF:=by kernel_rfl
def aV6:Tr:=aJ 21 [(G5 0)] [none] [8] [42] 55 true (aW .neq 55 9 0 3 0 4 (.split (.u 4 0) (.ret [(.one (.c (.k (.slice none 0 0)))),(WK 2)]) (aJ 160 [(G5 0),(G3 1),(W 2 0)] [none,none] [11,12,13] [42,39,3] 130 true (.ret [(W 5 0),(W 6 0)]))))
theorem BG:aL prog f72 (fun _=>none) [.v (some 5), .v (some 3), .v none]=aV6:=by kernel_rfl
def Uu:Tr:=.ret [(.agg [tN,(tE (.bool false)),tN,tN,(tE (.bool false)),tN]),(WK 2)]
def Yq:Tr:=aJ 38 [(G3 22),(G3 2)] [none] [38,39] [39,39] 3 false (aW .leq 3 40 0 23 0 4 (.split (.u 24 0) (.need (.prim [(W 17 0),(WK 0)] none) (.indexAddr 118 (tT 43) (.const (I3 0))) 0 false (dR 25 0 (some 6) 123 44 (.ret [(G6 26),(WK 0)]))) (aW .eql 55 47 0 18 0 4 (.split (.u 25 0) (aW .mul 3 23 2 9 0 3 (.back 0 [lV 7 0,lK 14,lV 26 0,lV 10 0,lV 11 0,lV 12 0,lV 13 0,lV 14 0,lV 15 0])) (aW .mul 3 23 2 9 0 3 (.back 0 [lV 7 0,lV 18 0,lV 26 0,lV 10 0,lV 11 0,lV 12 0,lV 13 0,lV 14 0,lV 15 0]))))))
def YV:Tr:=aJ 160 [(G5 0),(G3 1),(W 9 0)] [none,none] [26,27,28] [42,39,3] 130 false (aW .eql 55 32 0 18 0 4 (.split (.u 19 0) (.need (.prim [(W 17 0),(WK 0)] none) (.indexAddr 118 (tT 35) (.const (I3 0))) 0 false (dR 20 0 (some 6) 123 36 (aJ 80 [(G6 21)] [(some 3)] [37] [123] 39 false Yq))) (aW .eql 55 47 0 18 0 4 (.split (.u 20 0) (aW .mul 3 23 2 9 0 3 (.back 0 [lV 7 0,lK 14,lV 21 0,lV 10 0,lV 11 0,lV 12 0,lV 13 0,lV 14 0,lV 15 0])) (aW .mul 3 23 2 9 0 3 (.back 0 [lV 7 0,lV 18 0,lV 21 0,lV 10 0,lV 11 0,lV 12 0,lV 13 0,lV 14 0,lV 15 0]))))))
def aT6:Tr:=aJ 35 [(G3 2)] [none] [16] [39] 3 false (aW .leq 3 17 0 5 0 4 (.split (.u 6 0) Uu (.loop 0 [lK 0,lK 14,lK 16,lN,(.w (.one (.c (.k (.bool false))))),lN,lN,(.w (.one (.c (.k (.bool false))))),lN] (aW .leq 3 21 128 9 0 4 (.split (.u 16 0) YV (.ret [(.agg [tN,(tE (.bool false)),tN,tN,(tE (.bool false)),tN]),(W 8 0)]))))))
def aZ3:Tr:=aJ 21 [(G5 0)] [none] [12] [42] 55 false (aW .neq 55 13 0 3 0 4 (.split (.u 4 0) Uu aT6))
theorem EU:aL prog f76 (fun _=>none) [.v (some 5), .v (some 3), .v (some 3)]=aZ3:=by kernel_rfl
theorem Iz {q:Rat}:q.num.sign≤0↔q≤0:=by
 have h:q≤0↔q.num≤0:=by rw [Rat.le_iff];simp
 rw [h];rcases Int.lt_trichotomy q.num 0 with h1 | h1 | h1
 ·rw [Int.sign_eq_neg_one_of_neg h1];omega
 ·rw [h1];simp
 ·rw [Int.sign_eq_one_of_pos h1];omega
theorem Ak (e:List (List Rat)) (c:Rat) (y:List Rat) (x:Rat) (k:Int) (hval:aM prog 234 [fT e c y,qT x, .one (.int .i64 k)] (.pan (RY 5))):aM prog 233 [(.one (.bU (fC e c y)):aE),(.one (.bU (qC x)):aE),(.one (.bU ([.int .i64 k])):aE),(.one (.bU ([.exact (.slice none 0 0)])):aE)] (.pan (RY 5)):=by
 refine dvr (ins:=[.ref (fC e c y), .ref (qC x), .ref ([.int .i64 k]), .ref ([.exact (.slice none 0 0)])]) func233 FG ?_;exact vcp hval rfl
theorem BV (e:List (List Rat)) (c:Rat) (y:List Rat) (x:Rat) (k:Int) (R:VS) (hval:aM prog 234 [fT e c y,qT x, .one (.int .i64 k)] (.ret [.one (.slice 6 (vS R))])):Cs prog 233 118 [(.one (.bU (fC e c y)):aE),(.one (.bU (qC x)):aE),(.one (.bU ([.int .i64 k])):aE)] ([.exact (.slice none 0 0)]) [] ([.slice 6 (vS R)]):=by
 refine Tc (a1:=[.ref 5, .ref 3, .ref 1]) (i1:=[.ref (fC e c y), .ref (qC x), .ref ([.int .i64 k])]) (n:=1) (hints:=(fun _=>none)) fo func233 ⟨rfl,rfl,rfl,trivial⟩ rfl rfl ?_;rw [zD];dsimp only [List.map,In.env,aD,aC];apply aA hval rfl;refine EX (ts:=[[.exact (.slice none 0 0)]]) (us:=[[.slice 6 (vS R)]]) rfl rfl (by omega) (cells:=[.exact (.slice none 0 0)]) rfl rfl ?_;dsimp only [aD,aC];exact Kg rfl rfl
set_option maxRecDepth 100000 in
set_option maxHeartbeats 1000000 in
theorem Bw (M:Nat→Prop) (w:World) (hM:eM M w) (e:List (List Rat)) (c:Rat) (y:List Rat) (x:Rat) (k er:Int) (cs':List aG)
  (hcl:(cs' = [.exact (.slice none 0 0)]∧aM prog 233 [.one (.bU (fC e c y)), .one (.bU (qC x)), .one (.bU [.int .i64 k]), .one (.bU [.exact (.slice none 0 0)])] (.pan (RY er)))∨(er=0∧Cs prog 233 118 [.one (.bU (fC e c y)), .one (.bU (qC x)), .one (.bU [.int .i64 k])] [.exact (.slice none 0 0)] [] cs')) (hc1:cs'.length=1)
  (u0 u1 u2 u3 u4 r0 r1 r2:Value) (hf:bD M w (fC e c y) [u0,u1,u2,u3,u4]) (hr:bD M w (qC x) [r0,r1,r2]) :
  Calls prog 160 #[.agg #[u0,u1,u2,u3,u4], .agg #[r0,r1,r2], .int .i64 k] w fun e w'=>Below w.heap.size w w'∧∃ v,e = .returned (.tuple #[v, .int .i64 er])∧bD M w' cs' [v]:=by
 have hmf:∀ (fn:Fn) (first cap:Array Value) (w:World),(Instr.makeFunc fn first cap).run prog w = .ok (.func fn first cap) w:=fun _ _ _ _=>rfl;obtain ⟨n0,hn0⟩:∃ n0,w.heap.size=n0:=⟨_,rfl⟩
 obtain ⟨o0,o1,o2,o3,o4⟩:u0.oneCell'=true∧u1.oneCell'=true∧u2.oneCell'=true∧u3.oneCell'=true∧u4.oneCell'=true:=by have:=hf.one;exact ⟨this _ (by simp),this _ (by simp),this _ (by simp),this _ (by simp),this _ (by simp)⟩
 obtain ⟨p0,p1,p2⟩:r0.oneCell'=true∧r1.oneCell'=true∧r2.oneCell'=true:=by have:=hr.one;exact ⟨this _ (by simp),this _ (by simp),this _ (by simp)⟩
 refine calls_of_wp func160 rfl ?_;simp only [ntmps160,List.size_toArray,List.length_cons,List.length_nil,Nat.reduceAdd,Nat.reduceSub,Array.replicate_succ,Array.replicate_zero,List.push_toArray,List.append_toArray,List.nil_append,List.cons_append];obtain ⟨Wa,hWa⟩:∃ Wa,((((w.alloc (.cells #[u0,u1,u2,u3,u4] 42)).alloc (.cells #[r0,r1,r2] 39)).alloc (.cells #[.int .i64 k] 3)).alloc (.cells #[.slice none 0 0] 118))=Wa:=⟨_,rfl⟩
 have hsa:Wa.heap.size=n0+4:=by rw [←hWa];simp [hn0]
 have hBa:Below w.heap.size w Wa:=by
  rw [←hWa];exact ((((Below.refl _ w).alloc (by omega) _).alloc (by simp) _).alloc (by simp;omega) _).alloc (by simp;omega) _
 have hF:Wa.heap[n0]? = some (.cells #[u0,u1,u2,u3,u4] 42 (0,0)):=by rw [←hWa,heap_alloc_old _ _ _ (by simp;omega),heap_alloc_old _ _ _ (by simp;omega),heap_alloc_old _ _ _ (by simp;omega),←hn0];exact heap_alloc_new w _
 have hR:Wa.heap[n0+1]? = some (.cells #[r0,r1,r2] 39 (0,0)):=by
  rw [←hWa,heap_alloc_old _ _ _ (by simp;omega),heap_alloc_old _ _ _ (by simp;omega)];have:=heap_alloc_new (w.alloc (.cells #[u0,u1,u2,u3,u4] 42)) (.cells #[r0,r1,r2] 39)
  rwa [World.size_alloc,hn0] at this
 have hK:Wa.heap[n0+2]? = some (.cells #[.int .i64 k] 3 (0,0)):=by
  rw [←hWa,heap_alloc_old _ _ _ (by simp;omega)];have:=heap_alloc_new ((w.alloc (.cells #[u0,u1,u2,u3,u4] 42)).alloc (.cells #[r0,r1,r2] 39)) (.cells #[.int .i64 k] 3)
  rwa [World.size_alloc,World.size_alloc,hn0] at this
 have hA:Wa.heap[n0+3]? = some (.cells #[.slice none 0 0] 118 (0,0)):=by
  rw [←hWa];have:=heap_alloc_new (((w.alloc (.cells #[u0,u1,u2,u3,u4] 42)).alloc (.cells #[r0,r1,r2] 39)).alloc (.cells #[.int .i64 k] 3)) (.cells #[.slice none 0 0] 118)
  rwa [World.size_alloc,World.size_alloc,World.size_alloc,hn0] at this
 have hMA:¬ M (n0+3):=fun h=>by have:=hM.1 _ h;omega
 have hk2:cK M w (fun b=>M b∨b=n0+3) Wa:=fun b o hb ho _=>by
  have hl:=(dQ.1 ho).1;exact ⟨fun h=>h.elim hb (by omega),(hBa.block b hl).trans ho⟩
 have hM2:eM (fun b=>M b∨b=n0+3) Wa:=⟨fun b hb=>by
  rcases hb with h | h
  ·have:=hM.1 b h;omega
  ·omega,hM.2.kD hk2⟩
 have hnm:∀ b,n0≤b→b<n0+3→¬ (M b∨b=n0+3):=fun b h1 h2 h=>h.elim (fun h=>by have:=hM.1 b h;omega) (by omega)
 have hca:=LM 233 (cH (by kernel_rfl)) M Wa (n0+3) 118 #[.slice none 0 0] [.exact (.slice none 0 0)] cs' [.one (.bU (fC e c y)), .one (.bU (qC x)), .one (.bU [.int .i64 k])] [.pointer (some ⟨n0,0,none⟩), .pointer (some ⟨n0+1,0,none⟩), .pointer (some ⟨n0+1+1,0,none⟩)] er hM2 hMA hA
  ⟨⟨n0,0,_,_,_,rfl,hnm _ (by omega) (by omega),hF,hf.mono hk2⟩,⟨n0+1,0,_,_,_,rfl,hnm _ (by omega) (by omega),hR,hr.mono hk2⟩,⟨n0+2,0,_,_,_,rfl,hnm _ (by omega) (by omega),hK,⟨⟨rfl,rfl⟩,trivial⟩⟩,trivial⟩ (fun _ _=>⟨⟨rfl,rfl⟩,trivial⟩) hcl
 simp only [aD,aC] at hca
 go_wp2_with (go_at_call 121;refine hca.mono ?_)
 rintro e w3 ⟨rfl,hg,us,hus,hrus⟩
 obtain ⟨v,rfl⟩:∃ v,us = #[v]:=by
  have:=hrus.length;rw [hc1] at this
  match us,this with
  | ⟨[v]⟩,_=>exact ⟨v,rfl⟩
 have cv:w3.cell? ⟨n0+3,0,none⟩=some v:=aI hus rfl;have hv1:v.oneCell'=true:=hrus.one v (by simp);have hfr:=aE3 hus 0
 go_wp2
 have st1:Sem.run prog (storeCells ⟨n0+1+1+1,0,none⟩ [v]) w3 = .ok () (w3.setRow (n0+3) #[v]):=by
  have:=lF (P:=prog) (j:=0) hus (by simp) hv1
  simpa [storeCells,Addr.add] using this
 rw [st1];have hs9:(w3.setRow (n0+3) #[v]).heap[n0+3]? = some (.cells #[v] 118 (0,0)):=setRow_heap _ _ _ _ _ _ hus
 have hbw:Below w.heap.size w w3:=⟨by rw [hg.os,hBa.os],by rw [hg.tape,hBa.tape],by rw [hg.output,hBa.output],by have:=hg.size;omega,fun j hj=>by
  rw [hg.block j (by omega) (fun e=>by simp only [aO] at e;omega),hBa.block j hj]⟩
 have hb9:Below w.heap.size w (w3.setRow (n0+3) #[v]):=below_setRow hbw _
 have hk9:cK (fun b=>M b∨b=n0+3) w3 M (w3.setRow (n0+3) #[v]):=fun b o hb ho _=>
  ⟨fun h=>hb (.inl h),by rw [setRow_other _ _ _ _ (fun e=>hb (.inr e))];exact ho⟩
 have hy9:=hrus.mono hk9;generalize w3.setRow (n0+3) #[v]=W9 at *;have t0:W9.cell? ⟨n0+3,0,none⟩=some v:=aI hs9 rfl;clear st1
 go_wp2
 simp [bodyPost,results,show f160.results = #[.cell 6 118, .tmp 7] from rfl,go_sem,t0];exact ⟨hb9,hy9⟩
theorem av1:aE.Sub (.agg [.exact (.slice none 0 0), .bool false, .exact (.slice none 0 0), .exact (.slice none 0 0), .bool false, .exact (.slice none 0 0)]) (Cc 0 0):=⟨eV.1,eV.2.1,eV.2.2.1,eV.1,eV.2.1,eV.2.2.1,trivial⟩
def evV (v:Option VS):VS×Int:=match v with | some v=>(v,0) | none=>([],5)
theorem Bv (e:List (List Rat)) (c:Rat) (y:List Rat) (x:Rat) (k:Int) (v:Option VS) (hval:aM prog 234 [fT e c y,qT x, .one (.int .i64 k)] (Xo v)) :
  aM prog 160 [fT e c y,qT x, .one (.int .i64 k)] (.ret [.one (.slice 6 (vS (evV v).1)), .one (.int .i64 (evV v).2)]):=by
 refine ⟨cH (by kernel_rfl),fun M w vs hM hv=>?_⟩
 match vs,hv with
 | [a,xv,kv],hv=>
   obtain ⟨us,rfl,hus⟩:=hv.1;obtain ⟨u0,u1,u2,u3,u4,rfl⟩:=bq3 hus;obtain ⟨xs,rfl,hxs⟩:=hv.2.1;obtain ⟨r0,r1,r2,rfl⟩:=XM hxs;have hk:kv = .int .i64 k:=hv.2.2.1.1;subst hk;cases v with
   | some R=>
     refine (Bw M w hM e c y x k 0 [.slice 6 (vS R)] (.inr ⟨rfl,BV e c y x k R hval⟩) rfl u0 u1 u2 u3 u4 r0 r1 r2 hus hxs).mono ?_;rintro r w' ⟨hb,v,rfl,hr⟩;exact ⟨hb,[v, .int .i64 0],rfl,hr.1,⟨rfl,rfl⟩,trivial⟩
   | none=>
     refine (Bw M w hM e c y x k 5 [.exact (.slice none 0 0)] (.inl ⟨rfl,Ak e c y x k hval⟩) rfl u0 u1 u2 u3 u4 r0 r1 r2 hus hxs).mono ?_;rintro r w' ⟨hb,v,rfl,hr⟩;exact ⟨hb,[v, .int .i64 5],rfl,aG.Sub.nil.rep hr.1,⟨rfl,rfl⟩,trivial⟩
 | [],hv=>exact hv.elim
 | [_],hv=>exact hv.2.elim
 | [_,_],hv=>exact hv.2.2.elim
 | _::_::_::_::_,hv=>exact hv.2.2.2.elim
theorem Fb (e:List (List Rat)) (c:Rat) (y:List Rat) (x:Rat) (k:Int) (hck:aM prog 21 [fT e c y] (.ret [.one (.int .i64 2)])):aM prog 72 [(fT e c y:aE),(qT x:aE),(.one (.int .i64 k):aE)] (.ret [.one (.slice 6 (vS [])), .one (.int .i64 2)]):=by
 refine bZ func72 BG ?_;apply aA hck rfl;apply vn gD rfl;refine vs _ rfl ?_ ?_<;>intro h2
 ·exact dA ⟨aG.Sub.nil,aE.Sub.same,trivial⟩
 exact absurd (by decide) h2
theorem wJ (e:List (List Rat)) (c:Rat) (y:List Rat) (x:Rat) (k:Int) (v:Option VS) (hck:aM prog 21 [fT e c y] (.ret [.one (.int .i64 0)])) (hval:aM prog 234 [fT e c y,qT x, .one (.int .i64 k)] (Xo v)):aM prog 72 [(fT e c y:aE),(qT x:aE),(.one (.int .i64 k):aE)] (.ret [.one (.slice 6 (vS (evV v).1)), .one (.int .i64 (evV v).2)]):=by
 refine bZ func72 BG ?_;apply aA hck rfl;apply vn gD rfl;refine vs _ rfl ?_ ?_<;>intro h2
 ·exact absurd rfl h2
 apply aA (Bv e c y x k v hval) rfl;exact aK rfl
theorem MB (e:List (List Rat)) (c:Rat) (y:List Rat) (x w:Rat) (hck:aM prog 21 [fT e c y] (.ret [.one (.int .i64 2)])):aM prog 76 [(fT e c y:aE),(qT x:aE),(qT w:aE)] (.ret [Cc 0 0, .one (.int .i64 2)]):=by
 refine bZ func76 EU ?_;apply aA hck rfl;apply vn gD rfl;refine vs _ rfl ?_ ?_<;>intro h2
 ·exact dA ⟨av1,aE.Sub.same,trivial⟩
 exact absurd (by decide) h2
theorem LL (e:List (List Rat)) (c:Rat) (y:List Rat) (x w:Rat) (hck:aM prog 21 [fT e c y] (.ret [.one (.int .i64 0)])) (hw:w≤0):aM prog 76 [(fT e c y:aE),(qT x:aE),(qT w:aE)] (.ret [Cc 0 0, .one (.int .i64 2)]):=by
 refine bZ func76 EU ?_;apply aA hck rfl;apply vn gD rfl;refine vs _ rfl ?_ ?_<;>intro h2
 ·exact absurd rfl h2
 apply aA (lQ w) rfl;dsimp only [aD,aC];apply vn eW rfl;refine vs _ rfl ?_ ?_<;>intro h6
 ·exact dA ⟨av1,aE.Sub.same,trivial⟩
 exact absurd (Iz.2 hw) h6
theorem No (e:List (List Rat)) (c:Rat) (y:List Rat) (x w:Rat) (a b:Rat) (R:VS) (B:Nat) (hck:aM prog 21 [fT e c y] (.ret [.one (.int .i64 0)])) (hw:¬ w≤0) (hval:aM prog 234 [fT e c y,qT x, .one (.int .i64 16)] (Xo (some ((a,b)::R)))) (ha:Fit B a) (hb:Fit B b) (hwf:Fit 1024 w) (hlt:b-a≤w) (hB:B≤1073741824:=by omega) (h64:1024≤B:=by omega):aM prog 76 [(fT e c y:aE),(qT x:aE),(qT w:aE)] (.ret [Cc a b, .one (.int .i64 0)]):=by
 refine bZ func76 EU ?_;apply aA hck rfl;apply vn gD rfl;refine vs _ rfl ?_ ?_<;>intro h2
 ·exact absurd rfl h2
 apply aA (lQ w) rfl;dsimp only [aD,aC];apply vn eW rfl;refine vs _ rfl ?_ ?_<;>intro h6
 ·exact absurd (Iz.1 h6) hw
 refine bB Unit (fun _=>[.one (.int .i64 0), .one (.int .i64 14), .one (.int .i64 16), .one (.exact (.slice none 0 0)), .one (.bool false), .one (.exact (.slice none 0 0)), .one (.exact (.slice none 0 0)), .one (.bool false), .one (.exact (.slice none 0 0))]) (fun _=>0) () aN.rfl (fun _=>rfl) ?_;intro _;dsimp only [aD,aC];apply vn eW rfl;refine mH true rfl (fun _=>?_) (fun h=>by cases h);apply aA (Bv e c y x 16 (some ((a,b)::R)) hval) rfl;rw [show evV (some ((a,b)::R))=((a,b)::R,0) from rfl];dsimp only;apply vn bK rfl;refine mH true rfl (fun _=>?_) (fun h=>by cases h);apply vn (aV tL (show ((a,b)::R)[0]? = some (a,b) from rfl) rfl) rfl;dsimp only [aD,aC];apply vn (bJ Gz (by decide) (by simp) (.inl rfl)) rfl;apply aA (KB a b B B ha hb) rfl;apply aA (tY (b-a) w (B+B+1) 1024 (hb.sub ha) hwf) rfl;dsimp only [aD,aC];apply vn eW rfl;refine vs _ rfl ?_ ?_<;>intro h19
 ·apply vn (aV tL (show ((a,b)::R)[0]? = some (a,b) from rfl) rfl) rfl;apply vn (bJ Gz (by decide) (by simp) (.inl rfl)) rfl;exact aK rfl
 exact absurd (jP.2 hlt) h19
end Go.Sy
namespace Go.Sy
open Go Go.Proofs Tryz Ord
def OY:Tr:=.ret [(.one (.c (.k (.slice none 0 0)))),(WK 1)]
def ak1:Tr:=dR 47 0 (some 8) 140 100 (.need (.idx 8 (.u 34 0)) (.indexAddr 119 (tT 102) (tT 103)) 0 false (.need (.ldrow 8 (.u 34 0) 0 8 true) (.load 140 (tT 104)) 140 false (aJ 166 [(G8 48),(G8 49)] [(some 8)] [101,105] [140,140] 140 true (aJ 165 [(.agg [(U 35 0),(U 36 0),(U 37 0),(U 38 0),(U 39 0),(U 40 0),(U 41 0),(U 42 0)]),(G8 50)] [(some 8)] [94,106] [140,140] 140 true (aW .add 3 92 1 34 0 3 (.back 2 [lV 52 0,lV 51 0,lV 51 1,lV 51 2,lV 51 3,lV 51 4,lV 51 5,lV 51 6,lV 51 7]))))))
def aj6:Tr:=bO .lss 3 88 90 34 0 43 0 4 (.split (.u 44 0) (eN 27 0 30 0 113 95 96 (dR 45 0 none 119 97 (eN 46 0 34 0 119 98 99 ak1))) (aJ 153 [(.agg [(U 35 0),(U 36 0),(U 37 0),(U 38 0),(U 39 0),(U 40 0),(U 41 0),(U 42 0)]),(W 2 0)] [(some 8)] [109,110] [140,3] 140 true (.need (.lit 8 [[(.u 45 0),(.u 45 1),(.u 45 2),(.u 45 3),(.u 45 4),(.u 45 5),(.u 45 6),(.u 45 7)]]) (.buildSlice 119 1 #[(0,(tT 111))]) 119 false (.need (.app 8 128 (some 31) none (some 46)) (.call ⟨.builtin .append,#[(tT 108),(tT 112)],#[119,119]⟩) 119 false (aW .add 3 86 1 30 0 3 (.back 1 [lV 48 0, .row 47]))))))
def ak9:Tr:=.loop 1 [lK 0, .nilrow] (cU 27 0 83 113 (bO .lss 3 82 84 30 0 32 0 4 (.split (.u 33 0) (.loop 2 [lK 0,lK 0,lN,lK 0,lN,lK 0,lN,lK 0,lN] (.need (.lenrow 8) (.call ⟨.builtin .len,#[(tT 89)],#[119]⟩) 3 false aj6)) (aJ 48 [(.agg [(U 9 0),(U 10 0),(U 11 0),(U 12 0)]),(G4 26)] [(some 4)] [115,116] [49,49] 49 true (aW .add 3 44 1 7 0 3 (.back 0 [lV 35 0, .row 31,lV 34 0,lV 34 1,lV 34 2,lV 34 3]))))))
def ap6:Tr:=aJ 164 [(.one (.c (.sr 4 23)))] [(some 4)] [66] [50] 49 true (.need (.lit 4 [[(.u 21 0),(.u 21 1),(.u 21 2),(.u 21 3)],[(.u 24 0),(.u 24 1),(.u 24 2),(.u 24 3)]]) (.buildSlice 50 2 #[(0,(tT 61)),(1,(tT 67))]) 50 false (aJ 140 [(.one (.c (.sr 4 25)))] [(some 4)] [68] [50] 49 true (aJ 61 [(W 0 0),(.agg [(U 9 0),(U 10 0),(U 11 0),(U 12 0)]),(G4 26),(W 2 0)] [none,none] [72,73,74,75] [44,49,49,3] 114 false (aW .gtr 3 79 0 28 0 4 (.split (.u 29 0) (.ret [(.one (.c (.k (.slice none 0 0)))),(W 28 0)]) ak9)))))
def ab7:Tr:=aW .eql 3 55 0 17 0 4 (.split (.u 18 0) OY (.need (.call 79 [(WK 1),(WK 2)] [(some 4)]) (.call ⟨.value (.func 79),#[(.const (I3 1)),(.const (I3 2))],#[2,2]⟩) 49 true (aJ 104 [(G4 16),(G4 19)] [(some 4)] [57,58] [49,49] 49 true (aJ 105 [(G4 20)] [(some 4)] [60] [49] 49 false (aJ 141 [(G4 1),(.agg [(U 9 0),(U 10 0),(U 11 0),(U 12 0)])] [(some 4)] [63,64] [49,49] 49 false (.need (.lit 4 [[(.u 20 0),(.u 20 1),(.u 20 2),(.u 20 3)],[(.u 22 0),(.u 22 1),(.u 22 2),(.u 22 3)]]) (.buildSlice 50 2 #[(0,(tT 62)),(1,(tT 65))]) 50 false ap6))))))
def ag4:Tr:=.loop 0 [lK 0, .row 4,lV 0 1,lV 0 2,lV 0 3,lV 0 4] (aJ 47 [(.agg [(U 9 0),(U 10 0),(U 11 0),(U 12 0)]),(G4 1)] [none] [40,41] [49,49] 3 true (aW .neq 3 42 0 13 0 4 (.split (.u 14 0) (aW .eql 3 46 64 7 0 4 (.split (.u 15 0) OY (aJ 43 [(W 0 0),(.agg [(U 9 0),(U 10 0),(U 11 0),(U 12 0)])] [(some 4),none] [50,51] [44,49] 87 false ab7))) (.ret [(.one (.c (.sr 8 8))),(WK 0)]))))
def aE1:Tr:=.split (.u 6 0) (eN 0 5 3 0 50 31 32 (dR 7 0 (some 4) 49 33 (aJ 163 [(G4 8)] [(some 8)] [34] [49] 140 true (.need (.lit 8 [[(.u 9 0),(.u 9 1),(.u 9 2),(.u 9 3),(.u 9 4),(.u 9 5),(.u 9 6),(.u 9 7)]]) (.buildSlice 119 1 #[(0,(tT 35))]) 119 false (.need (.app 8 128 (some 4) none (some 10)) (.call ⟨.builtin .append,#[(tT 29),(tT 36)],#[119,119]⟩) 119 false (aW .add 3 27 1 3 0 3 Pj)))))) ag4
def aL6:Tr:=.loop 0 [lK 0, .nilrow] (cU 0 5 24 50 (bO .lss 3 22 25 3 0 5 0 4 aE1))
theorem KP:aL prog f78 (look [(1,⟨[11],[(8,119)],[],[(10,[])]⟩)]) [.v (some 6), .v (some 4), .v none]=aL6:=by kernel_rfl
abbrev VR:=List (RQ×RQ)
abbrev XB (v:VR):List (List aG):=v.map fun p=>Az p.1 p.2
abbrev vQ (v:VR):VS:=v.map fun p=>(p.1.q,p.2.q)
def QG (aF x c:RQ):RQ:=nK [.of (-(eD aF.q)),kV [.of (eD aF.q), .of (x.q-c.q)] 2] 2
theorem aX7 (aF x c:RQ):(QG aF x c).q=eC aF.q x.q c.q:=by
 rw [QG,vX,List.map_cons,List.map_cons,List.map_nil,vO];rfl
def VQ (v:Option VR):List aE:=match v with
 | some v=>[.one (.slice 8 (XB v)), .one (.int .i64 0)]
 | none=>[.one (.slice 8 []), .one (.int .i64 1)]
structure bG3 (E:List (List Rat)) (ER:List (List RQ)) (x:Rat) (k:Int) (H:Nat) (c:RQ):Prop where
 re:aM prog 43 [.one (eR ER),fO c] (.ret [fO (iB E c.q).1, .one (.int .i64 (iB E c.q).2)])
 st:∀ aF st,cY (bH E c.q) (E.length-1) (aQ E c.q)=some (aF,st)→0<st∧Fit 2097152 aF∧Fit 2097152 (eC aF x c.q)
 mx:∀ aF st,cY (bH E c.q) (E.length-1) (aQ E c.q)=some (aF,st)→∀ u:RQ,u.q=eC aF x c.q→aM prog 61 [.one (eR ER),fO c,fO u, .one (.int .i64 k)] (.ret [.one (.slice 1 (Ad E c.q aF st (eC aF x c.q) k).1), .one (.int .i64 (Ad E c.q aF st (eC aF x c.q) k).2)])
 ent:∀ aF st N,cY (bH E c.q) (E.length-1) (aQ E c.q)=some (aF,st)→gI E c.q aF st (eC aF x c.q) (E.length-1-1) k=some N→∀ d,d<E.length-1→∀ l,l<E.length-1 →
  Fit H (Ac E c.q aF st (eC aF x c.q) k N d l).1∧Fit H (Ac E c.q aF st (eC aF x c.q) k N d l).2
structure by0 (E:List (List Rat)) (ER:List (List RQ)) (x:Rat) (k:Int) (H W:Nat) (Inv:Nat→RQ→VS→Prop):Prop where
 few:∀ f c v,Inv f c v→Fit 1024 c.q∧v.length=E.length-1∧∀ p∈v,Fit W p.1∧Fit W p.2
 hop:∀ f c v,Inv f c v→c.q≠x→bG3 E ER x k H c
 next:∀ f c v t M,Inv (f+1) c v→c.q≠x→xL E x k c.q=some (t,M)→Inv f (.of (c.q+t)) (yM (E.length-1) k M v)
theorem am4 (v:VR) (l:Nat):(vQ v).getD l (0,0)=((v.getD l (.nil, .nil)).1.q,(v.getD l (.nil, .nil)).2.q):=by
 rw [dS,dS,cL];cases v[l]? <;> rfl
theorem ap9 {v:VR} {l:Nat} (h:l<v.length:=by omega):v[l]? = some (v.getD l (.nil, .nil)):=by
 rw [dS,bI h];rfl
theorem ab1 (q:Rat):q*(((1:Int):Rat)/((2:Int):Rat))=eD q:=by
 rw [show ((1:Int):Rat)/((2:Int):Rat)=mkRat 1 (2^1) by decide +kernel];rfl
abbrev SS (v:VS):VR:=v.map fun p=>(.of p.1, .of p.2)
theorem HS (v:VS):vQ (SS v)=v:=by
 rw [vQ,SS,List.map_map];exact (List.map_congr_left fun x _=>rfl).trans (List.map_id v)
theorem Cx (Y:List RQ):vQ (Y.map fun y=>(y,y))=(Y.map RQ.q).map fun y=>(y,y):=by
 rw [vQ,List.map_map,List.map_map];rfl
theorem bx8:aY aE.Sub [.one (.int .i64 0), .one (.exact (.slice none 0 0)), .one (.int .i64 0), .one (.exact (.slice none 0 0)), .one (.int .i64 0), .one (.exact (.slice none 0 0)), .one (.int .i64 0), .one (.exact (.slice none 0 0))] ((Az .nil .nil).map .one):=⟨eI.1,eI.2.1,eI.2.2.1,eI.2.2.2.1,eI.1,eI.2.1,eI.2.2.1,eI.2.2.2.1,trivial⟩
set_option maxHeartbeats 4000000 in
theorem Jr (E:List (List Rat)) (ER:List (List RQ)) (X:RQ) (Y:List RQ) (x:RQ) (k:Int) (H W:Nat) (Inv:Nat→RQ→VS→Prop) (P:by0 E ER x.q k H W Inv) (hk:k≤256) (hE1:2≤E.length) (hE5:E.length≤5) (hx:Fit 1024 x.q) (hyl:Y.length<1099511627776) (h0:Inv 64 X ((Y.map RQ.q).map fun y=>(y,y))) (res:Option VS) (hres:gZ E x.q k 64 X.q ((Y.map RQ.q).map fun y=>(y,y))=res) (v0:VR) (hv0:v0=Y.map fun y=>(y,y)) (hnx:X.q=x.q→res=some (vQ v0)) (hH:1≤H:=by omega) (hW:1≤W:=by omega) (hHW:5*(H+W+1)≤1073741824:=by omega):aM prog 78 [(fR ER X Y:aE),(fO x:aE),(.one (.int .i64 k):aE)] (.ret (VQ (if X.q=x.q then some v0 else res.map SS))):=by
 refine cT (args:=[.v (some 6), .v (some 4), .v none]) (ins:=[.v (fR ER X Y), .v (fO x), .v (.one (.int .i64 k))]) (hints:=(look [(1,⟨[11],[(8,119)],[],[(10,[])]⟩)])) fo (by kernel_rfl) func78 ⟨rfl,rfl,rfl,trivial⟩ ?_;rw [KP];dsimp only [List.map,In.env,aD,aC];refine bB {i:Nat // i≤Y.length} (fun g=>[.one (.int .i64 g.1), .rows (XB ((Y.take g.1).map fun y=>(y,y)))]) (fun g=>Y.length-g.1) ⟨0,bV _⟩ aN.rfl (fun _=>rfl) ?_;rintro ⟨i,hi⟩;dsimp only [aD,aC] at hi ⊢;apply vn (aU yW (aP _)) rfl;apply vn aZ rfl;refine vs _ rfl ?_ ?_<;>intro h3
 ·obtain ⟨y,hy⟩:∃ y,Y[i]? = some y:=⟨_,bI (by omega)⟩
  apply vn (aV yW hy (Int.toNat_natCast i)) rfl;dsimp only [aD,aC];apply vn (bJ mR (by decide) (by simp) (.inl rfl)) rfl;apply aA (bn9 y) rfl;apply bP (us:=[Az y y]) rfl;dsimp only [aD,aC];refine qQ (ts:=XB ((Y.take i).map fun y=>(y,y))) (us:=[Az y y]) (vs:=XB ((Y.take (i+1)).map fun y=>(y,y))) rfl rfl (by rw [List.take_add_one,hy];simp) (by simp;omega) (by simp [maxLen];omega) ?_;apply vn (aB) rfl;dsimp only [aD,aC];exact aR rfl ⟨⟨i+1,by omega⟩,aN.rfl,by show Y.length-(i+1)<Y.length-i;omega⟩
 obtain rfl:i=Y.length:=by omega
 rw [List.take_length,←hv0];refine bB {g:Nat×RQ×VR // g.1≤64∧Inv g.1 g.2.1 (vQ g.2.2)∧gZ E x.q k g.1 g.2.1.q (vQ g.2.2)=res∧((g.2.1=X∧g.2.2=v0)∨(X.q≠x.q∧g.2.2=SS (vQ g.2.2)))} (fun g=>(.one (.int .i64 (64-(g.1.1:Int))):aE) :: .rows (XB g.1.2.2)::(rC g.1.2.1).map .one) (fun g=>g.1.1) ⟨(64,X,v0),bC _,by show Inv 64 X (vQ v0);rw [hv0,Cx];exact h0,by show gZ E x.q k 64 X.q (vQ v0)=res;rw [←hres,hv0,Cx], .inl ⟨rfl,rfl⟩⟩ aN.rfl (fun _=>rfl) ?_;rintro ⟨⟨f,c,v⟩,hf,hI,hr,hst⟩;dsimp only [aD,aC,List.map] at hf hI hr hst ⊢;obtain ⟨hcf,hvl,hvf⟩:=P.few f c _ hI;rw [aP] at hvl;apply aA (sJ c x 1024 1024 hcf hx) rfl;apply vn gD rfl;refine vs _ rfl (fun hne=>?_) (fun heq=>?_)
 ·have hcx:c.q≠x.q:=ZQ.1 hne
  have hXx:X.q≠x.q:=fun e=>by
   rcases hst with ⟨h1,_⟩ | ⟨h1,_⟩
   ·rw [h1] at hcx;exact hcx e
   ·exact h1 e
  rw [if_neg hXx];have HO:=P.hop f c _ hI hcx;apply vn bK rfl;dsimp only [aD,aC];refine vs _ rfl ?_ ?_<;>intro h16
  ·have hf0:f=0:=by omega
   rw [show res=none by rw [←hr,hf0];exact xW hcx];exact dA ⟨aG.Sub.nil,aE.Sub.same,trivial⟩
  obtain ⟨g,hg⟩:∃ g,f=g+1:=⟨f-1,by omega⟩
  rw [hg] at hr;have hhop:xL E x.q k c.q=none→res=none:=fun e=>by rw [←hr];exact xV _ hcx e
  apply aA HO.re rfl;apply vn bK rfl;dsimp only [aD,aC];obtain ⟨rv,hv⟩:∃ rv,cY (bH E c.q) (E.length-1) (aQ E c.q)=rv:=⟨_,rfl⟩
  rcases rv with _ | ⟨aF,st⟩
  ·rw [wL hv,hhop (xH hv)];refine mH true rfl (fun _=>?_) (fun h=>by cases h);exact dA ⟨aG.Sub.nil,aE.Sub.same,trivial⟩
  obtain ⟨hst0,hrf,htf⟩:=HO.st aF st hv;rw [wN hv];dsimp only;refine vs _ rfl (fun h=>absurd h (by omega)) (fun _=>?_);apply aA (EM 1 2) rfl;apply aA (eS (.of aF) (.of (((1:Int):Rat)/((2:Int):Rat))) 2097152 64 hrf (by rw [RQ.mS];decide +kernel)) rfl;rw [show (RQ.of aF).q*(RQ.of (((1:Int):Rat)/((2:Int):Rat))).q=eD aF from ab1 aF];have hhf:=Gm hrf;apply aA (Eo (.of (eD aF))) rfl;dsimp only [aD,aC];apply aA (CQ x c 1024 1024 hx hcf) rfl;have hxc:=hx.sub hcf;apply bP (us:=rR [.of (eD aF), .of (x.q-c.q)]) rfl
  apply aA (We [.of (eD aF), .of (x.q-c.q)] 2097409 (fun y hy=>by
   simp only [List.mem_cons,List.not_mem_nil,or_false] at hy;rcases hy with rfl | rfl
   ·exact hhf
   ·exact hxc.mono (by decide)) (by omega) (by omega) (by simp)) rfl
  have hmf:Fit 2097409 (kV [.of (eD aF), .of (x.q-c.q)] 2).q:=by
   rw [vO]
   exact uE (fun y hy=>by
    simp only [List.map_cons,List.map_nil,List.mem_cons,List.not_mem_nil,or_false] at hy;rcases hy with rfl | rfl
    ·exact hhf
    ·exact hxc.mono (by decide)) 2 (by simp)
  dsimp only [aD,aC];apply bP (us:=rR [.of (-(eD aF)),kV [.of (eD aF), .of (x.q-c.q)] 2]) rfl
  apply aA (Mh [.of (-(eD aF)),kV [.of (eD aF), .of (x.q-c.q)] 2] 2097409 (fun y hy=>by
   simp only [List.mem_cons,List.not_mem_nil,or_false] at hy;rcases hy with rfl | rfl
   ·exact hhf.neg
   ·exact hmf) (by omega) (by omega) (by simp)) rfl
  rw [show nK [.of (-(eD aF)),kV [.of (eD aF), .of (x.q-c.q)] 2] [RQ.of (-(eD aF)),kV [.of (eD aF), .of (x.q-c.q)] 2].length=QG (.of aF) x c from rfl];have hhq:(QG (.of aF) x c).q=eC aF x.q c.q:=aX7 _ _ _;dsimp only [aD,aC];have hmx:=HO.mx aF st hv (QG (.of aF) x c) hhq;have hent:=HO.ent aF st;apply aA hmx rfl;apply vn dH rfl;dsimp only [aD,aC];obtain ⟨no,hn⟩:∃ no,gI E c.q aF st (eC aF x.q c.q) (E.length-1-1) k=no:=⟨_,rfl⟩
  rcases no with _ | N
  ·rw [show Ad E c.q aF st (eC aF x.q c.q) k=([],1) by unfold Ad;rw [hn],hhop (wW hv hn)];refine mH true rfl (fun _=>?_) (fun h=>by cases h);exact dA ⟨aG.Sub.nil,aE.Sub.same,trivial⟩
  rw [show Ad E c.q aF st (eC aF x.q c.q) k=(UI (bH E c.q) (E.length-1) (aQ E c.q) aF st (eC aF x.q c.q) k N (E.length-1),0) by unfold Ad;rw [hn]];dsimp only;refine mH false rfl (fun h=>by cases h) (fun _=>?_);have hent:=hent N hv hn;have hsm:=AM hv hn;rw [hg] at hI;have hnx:=P.next g c _ (eC aF x.q c.q) (Ac E c.q aF st (eC aF x.q c.q) k N) hI hcx hsm
  have hrs:gZ E x.q k g (c.q+eC aF x.q c.q) (yM (E.length-1) k (Ac E c.q aF st (eC aF x.q c.q) k N) (vQ v))=res:=by
   rw [←hr];exact (xN g hcx hsm).symm
  obtain ⟨M,hM⟩:∃ M,Ac E c.q aF st (eC aF x.q c.q) k N=M:=⟨_,rfl⟩
  obtain ⟨m,hm⟩:∃ m,E.length-1=m:=⟨_,rfl⟩
  rw [show UI (bH E c.q) (E.length-1) (aQ E c.q) aF st (eC aF x.q c.q) k N (E.length-1)=(List.range m).map fun d=>[.slice 8 ((List.range m).map fun l=>Az (.of (M d l).1) (.of (M d l).2))] by rw [←hM,←hm];rfl];rw [hM] at hent hnx hrs;rw [hm] at hent hnx hrs hvl;refine bB {d:Nat // d≤m} (fun g=>[.one (.int .i64 g.1), .rows (XB (SS ((List.range g.1).map (uJ m k M (vQ v)))))]) (fun g=>m-g.1) ⟨0,bV _⟩ aN.rfl (fun _=>rfl) ?_;rintro ⟨d,hd⟩;dsimp only [aD,aC] at hd ⊢;apply vn (aU aw8 ((aP _).trans oE)) rfl;apply vn aZ rfl;refine vs _ rfl ?_ ?_<;>intro h37
  ·have hdm:d<m:=by omega
   have hdf:=fun l hl=>Ab (M:=M d) (v:=fun l=>(vQ v).getD l (0,0)) (m:=m) (W:=W) hH (fun l hl=>hent d hdm l hl) (fun l hl=>hvf _ (cI (Cg (v:=vQ v) (by rw [aP];omega)))) l hl;refine bB {g:Nat×RQ×RQ // g.1≤m∧(g.2.1.q,g.2.2.q)=AI (M d) (fun l=>(vQ v).getD l (0,0)) g.1} (fun g=>(.one (.int .i64 g.1.1):aE)::(Az g.1.2.1 g.1.2.2).map .one) (fun g=>m-g.1.1) ⟨(0, .nil, .nil),bV _,rfl⟩ ⟨aE.Sub.same,bx8⟩ (fun _=>rfl) ?_;rintro ⟨⟨l,s1,s2⟩,hl,hsd⟩;dsimp only [aD,aC,List.map] at hl hsd ⊢;obtain ⟨e1,e2⟩:=Prod.mk.inj (show (s1.q,s2.q)=((AI (M d) (fun l=>(vQ v).getD l (0,0)) l).1,(AI (M d) (fun l=>(vQ v).getD l (0,0)) l).2) from hsd);obtain ⟨d1,d2⟩:=hdf l hl;have hlx:l*(H+W+1)+1≤4*(H+W+1)+1:=Nat.succ_le_succ (Nat.mul_le_mul_right _ (by omega));rw [←e1] at d1;rw [←e2] at d2;refine KU rfl (aP _) ?_;rw [hvl];apply vn aZ rfl;refine vs _ rfl ?_ ?_<;>intro h41
   ·have hlm:l<m:=by omega
    refine vn (aV aw8 (List.getElem?_range hdm) (Int.toNat_natCast d)) rfl ?_;dsimp only [aD,aC];apply vn (bG bu1) rfl;refine vn (aV Vk (List.getElem?_range hlm) (Int.toNat_natCast l)) rfl ?_;apply vn (bJ av5 (by decide) (by simp) (.inl rfl)) rfl;dsimp only [aD,aC];have hvx:=ap9 (v:=v) (l:=l);refine kR rfl rfl (by omega) (by rw [aP];omega) ?_;refine Fw (m:=l) (t:=tR (v.getD l (.nil, .nil)).1 (v.getD l (.nil, .nil)).2) rfl rfl (by omega) (by omega) hvx (.inl rfl) rfl ?_;dsimp only [aD,aC,IJ,List.drop,List.take];obtain ⟨n1,n2⟩:=hent d hdm l hlm;obtain ⟨w1,w2⟩:=hvf _ (List.mem_map_of_mem (f:=fun p:RQ×RQ=>(p.1.q,p.2.q)) (cI hvx));apply aA (Yo (.of (M d l).1) (.of (M d l).2) (v.getD l (.nil, .nil)).1 (v.getD l (.nil, .nil)).2 H W hH n1 n2 w1 w2) rfl;dsimp only [aD,aC];obtain ⟨p1,p2⟩:=Io hH n1 n2 w1 w2;apply aA (XF s1 s2 (Eg (.of (M d l).1) (.of (M d l).2) (v.getD l (.nil, .nil)).1 (v.getD l (.nil, .nil)).2) (DI (.of (M d l).1) (.of (M d l).2) (v.getD l (.nil, .nil)).1 (v.getD l (.nil, .nil)).2) (l*(H+W+1)+1) (H+W) d1 d2 (by rw [Km];exact p1) (by rw [JV];exact p2)) rfl;apply vn (aB) rfl
    exact aR rfl ⟨⟨(l+1, .of (s1.q+(Eg (.of (M d l).1) (.of (M d l).2) (v.getD l (.nil, .nil)).1 (v.getD l (.nil, .nil)).2).q), .of (s2.q+(DI (.of (M d l).1) (.of (M d l).2) (v.getD l (.nil, .nil)).1 (v.getD l (.nil, .nil)).2).q)),by dsimp only;omega,by
     dsimp only;rw [AI,am4,Km,JV,←e1,←e2];rfl⟩,aN.rfl,by show m-(l+1)<m-l;omega⟩
   obtain rfl:l=m:=by omega
   apply aA (Sb s1 s2 k (l*(H+W+1)+1) hk d1 d2) rfl;rw [e1,e2];apply bP (us:=[Az (.of (uJ l k M (vQ v) d).1) (.of (uJ l k M (vQ v) d).2)]) rfl;refine qQ (ts:=XB (SS ((List.range d).map (uJ l k M (vQ v))))) (us:=[Az (.of (uJ l k M (vQ v) d).1) (.of (uJ l k M (vQ v) d).2)]) (vs:=XB (SS ((List.range (d+1)).map (uJ l k M (vQ v))))) rfl rfl (by rw [List.range_succ];simp) (by simp;omega) (by simp [maxLen];omega) ?_;dsimp only [aD,aC];apply vn (aB) rfl;dsimp only [aD,aC];exact aR rfl ⟨⟨d+1,by omega⟩,aN.rfl,by show l-(d+1)<l-d;omega⟩
  obtain rfl:d=m:=by omega
  apply aA (jK c (QG (.of aF) x c) 1024 2097152 hcf (by rw [hhq];exact htf)) rfl;rw [hhq];apply vn (aB) rfl
  exact aR rfl ⟨⟨(g, .of (c.q+eC aF x.q c.q),SS (yM d k M (vQ v))),by dsimp only;omega,by dsimp only;rw [HS];exact hnx,by dsimp only;rw [HS];exact hrs, .inr ⟨hXx,by dsimp only;rw [HS]⟩⟩,aN.of_eq (by
   dsimp only;rw [show (64:Int)-(f:Int)+1=64-(g:Int) by omega];rfl),by show g<f;omega⟩
 have hcx:c.q=x.q:=Classical.byContradiction fun h=>heq (ZQ.2 h)
 rw [show (if X.q=x.q then some v0 else res.map SS)=some v by
  rcases hst with ⟨h1,h2⟩ | ⟨h1,h2⟩
  ·rw [if_pos (by rw [←h1];exact hcx),h2]
  ·rw [if_neg h1,←hr,hcx,rH];show some (SS (vQ v))=some v;rw [←h2]]
 exact aK rfl
open Go Go.Proofs Tryz Ord
def aB7:Tr:=aJ 141 [(G4 1),(.agg [(U 0 1),(U 0 2),(U 0 3),(U 0 4)])] [(some 4)] [21,23] [49,49] 49 false (.need (.call 50 [(WK 2)] [(some 4)]) (.call ⟨.value (.func 50),#[(.const (I3 2))],#[2]⟩) 49 false (aJ 104 [(G4 6),(G4 7)] [(some 4)] [24,25] [49,49] 49 false (aJ 60 [(G4 8)] [(some 4)] [26] [49] 49 false (aJ 47 [(G4 9),(G4 2)] [none] [27,28] [49,49] 3 false (aW .leq 3 29 0 10 0 4 (.ret [(W 11 0)]))))))
def aS4:Tr:=aJ 43 [(W 0 0),(.agg [(U 0 1),(U 0 2),(U 0 3),(U 0 4)])] [(some 4),none] [9,11] [44,49] 87 false (aW .leq 3 15 24 3 0 4 (.split (.u 4 0) (aW .eql 3 18 0 3 0 4 (.split (.u 5 0) (.ret [(tF true)]) aB7)) (.ret [(tF false)])))
theorem Ds:aL prog f75 (fun _=>none) [.v (some 6), .v (some 4)]=aS4:=by kernel_rfl
def ba3:Tr:=aJ 90 [(G3 0)] [none] [4] [39] 9 false (.need (.prim [(.one (.c (.k (.string ⟨#[91]⟩)))),(W 1 0)] none) (.binOp .add 9 (.const (.string ⟨#[91]⟩)) (tT 5) 9) 9 false (.need (.prim [(W 2 0),(.one (.c (.k (.string ⟨#[32]⟩))))] none) (.binOp .add 9 (tT 6) (.const (.string ⟨#[32]⟩)) 9) 9 false (aJ 90 [(.agg [(U 0 3),(U 0 4),(U 0 5)])] [none] [9] [39] 9 false (bO .add 9 7 10 3 0 4 0 9 (.need (.prim [(W 5 0),(.one (.c (.k (.string ⟨#[93]⟩))))] none) (.binOp .add 9 (tT 11) (.const (.string ⟨#[93]⟩)) 9) 9 false (.ret [(W 6 0)]))))))
theorem Ym:aL prog f81 (fun _=>none) [.v (some 6)]=ba3:=by kernel_rfl
theorem IV {q:Rat} {H:Nat} (h:Fit H q):(tS q).length≤2*H+16:=by
 have h1:=mD h.1;have h2:=mD h.2;unfold tS lU;rw [eJ,eJ];split<;>split<;>simp <;> omega
def bC8 (a b:Rat):List UInt8:=(([91]++tS a) ++ [32])++tS b ++ [93]
theorem NT (a b:Rat) (H:Nat) (ha:Fit H a) (hb:Fit H b) (hH:H≤1073741824:=by omega):aM prog 81 [(Cc a b:aE)] (.ret [bS (bC8 a b)]):=by
 refine bZ func81 Ym ?_;have h1:=IV ha;have h2:=IV hb;apply aA (vJ a H ha) rfl;dsimp only [aD,aC];refine vn (lE (a:=[91]) (by simp only [List.length_cons,List.length_nil];omega)) rfl ?_;dsimp only [aD,aC];refine vn (lE (b:=[32]) (by simp only [List.length_cons,List.length_nil];omega)) rfl ?_;dsimp only [aD,aC];apply aA (vJ b H hb) rfl;dsimp only [aD,aC];refine vn (lE (by simp only [eJ,List.length_cons,List.length_nil];omega)) rfl ?_;dsimp only [aD,aC];refine vn (lE (b:=[93]) (by simp only [eJ,List.length_cons,List.length_nil];omega)) rfl ?_;exact aK rfl
def YS (q:Rat):Nat:=(lU (q.num.natAbs:Int)).length+(lU (q.den:Int)).length
theorem Ur {T ty:TypeId} {x:Operand} {l:List UInt8} (hu:prog.underlying T=some .string):bA prog (.call ⟨.builtin .len,#[x],#[T]⟩) ty [bS l] (.one (.int .i64 l.length)):=
 PZ hu (by show l.toArray.size=_;simp)
theorem aN9 (a:RQ) (H:Nat) (hf:Fit H a.q) (hH:H≤1073741824:=by omega):aM prog 159 [(fO a:aE)] (.ret [.one (.int .i64 (YS a.q))]):=by
 refine bZ func159 aH9 ?_;have h1:=zI (z:=(a.q.num.natAbs:Int)) (H:=H) (by rw [Int.natAbs_natCast];exact hf.1);have h2:=zI (z:=(a.q.den:Int)) (H:=H) (by rw [Int.natAbs_natCast];exact hf.2);apply aA (OF a.q.num) rfl;apply aA (sF (a.q.num.natAbs:Int) H (by rw [Int.natAbs_natCast];exact hf.1)) rfl;apply vn (Ur un9) rfl;dsimp only [aD,aC];apply aA (iW a) rfl;apply aA (sF (a.q.den:Int) H (by rw [Int.natAbs_natCast];exact hf.2)) rfl;apply vn (Ur un9) rfl;dsimp only [aD,aC];apply vn (aB) rfl;dsimp only [aD,aC];rw [show ((lU (a.q.num.natAbs:Int)).length:Int)+((lU (a.q.den:Int)).length:Int)=(YS a.q:Int) by unfold YS;omega];exact aK rfl
def Ot (x c:RQ):Bool:=if (YS x.q:Int)≤6 then decide (lG (x.q-c.q).abs ((1:Int):Rat)≤0) else false
theorem Zo (x c:RQ) (hx:Fit 1024 x.q) (hc:Fit 1024 c.q):aM prog 70 [(fO x:aE),(fO c:aE)] (.ret [.one (.bool (Ot x c))]):=by
 refine bZ func70 ac0 ?_;apply aA (aN9 x 1024 hx) rfl;apply vn eW rfl;refine vs _ rfl ?_ ?_<;>intro h2
 ·apply aA (CQ x c 1024 1024 hx hc) rfl;dsimp only [aD,aC];apply aA (sY (.of (x.q-c.q))) rfl;apply aA (gN 1) rfl;apply aA (sJ (.of (x.q-c.q).abs) (.of ((1:Int):Rat)) 4096 64 (gY ((hx.sub hc).mono (by decide))) (Fit.int (by omega) (by omega))) rfl;dsimp only [aD,aC];apply vn eW rfl;dsimp only [aD,aC];rw [show Ot x c=decide (lG (x.q-c.q).abs ((1:Int):Rat)≤0) from if_pos h2];exact aK rfl
 rw [show Ot x c=false from if_neg h2];exact aK rfl
theorem JB (E:List (List Rat)) (ER:List (List RQ)) (X:Rat) (XR:RQ) (YR:List RQ) (x:RQ) (h:SmallX E ER X XR) (hr:lJ E X) (hv:cY (bH E X) (E.length-1) (aQ E X)=none):aM prog 75 [(fR ER XR YR:aE),(fO x:aE)] (.ret [.one (.bool true)]):=by
 refine bZ func75 Ds ?_;have hre:=mQ h hr;rw [wL hv] at hre;apply aA hre rfl;apply vn eW rfl;refine mH true rfl (fun _=>?_) (fun h=>by cases h);apply vn bK rfl;dsimp only [aD,aC];refine mH true rfl (fun _=>?_) (fun h=>by cases h);exact aK rfl
theorem Jn (E:List (List Rat)) (ER:List (List RQ)) (X:Rat) (XR:RQ) (YR:List RQ) (x:RQ) (h:SmallX E ER X XR) (hr:lJ E X) (aF:Rat) (st:Nat) (hv:cY (bH E X) (E.length-1) (aQ E X)=some (aF,st)) (hx:Fit 1024 x.q) (hf:Fit 2097152 aF) (hst:0<st:=by omega):aM prog 75 [(fR ER XR YR:aE),(fO x:aE)] (.ret [.one (.bool (decide (((st:Nat):Int)≤24)&&decide (lG ((x.q-X)*((2:Int):Rat)).abs aF≤0)))]):=by
 refine bZ func75 Ds ?_;have hre:=mQ h hr;rw [wN hv] at hre;have hXf:Fit 1024 XR.q:=by rw [h.x];exact h.xf.mono (by omega)
 apply aA hre rfl;dsimp only;apply vn eW rfl;refine vs _ rfl ?_ ?_<;>intro h2
 ·apply vn bK rfl;dsimp only [aD,aC];refine vs _ rfl ?_ ?_<;>intro h4
  ·exact absurd h4 (by omega)
  apply aA (CQ x XR 1024 1024 hx hXf) rfl;apply aA (gN 2) rfl;apply aA (eS (.of (x.q-XR.q)) (.of ((2:Int):Rat)) 4096 64 ((hx.sub hXf).mono (by decide)) (Fit.int (by omega) (by omega))) rfl;dsimp only [aD,aC];apply aA (sY (.of ((x.q-XR.q)*((2:Int):Rat)))) rfl;apply aA (sJ (.of ((x.q-XR.q)*((2:Int):Rat)).abs) (.of aF) 8192 2097152 (gY ((((hx.sub hXf).mono (C:=4096) (by decide)).mul (Fit.int (B:=64) (by omega) (by omega))).mono (by omega))) hf) rfl;apply vn eW rfl;dsimp only [aD,aC];rw [decide_eq_true h2,Bool.true_and,←h.x];exact aK rfl
 rw [decide_eq_false h2,Bool.false_and];exact aK rfl
theorem RA (a b:Rat):mG [a,b] 2=if b<a then b else a:=by simp [mG]
theorem Uw (a b:Rat):lZ [a,b] 2=if a<b then b else a:=by simp [lZ]
theorem aa1 (q:Rat):eD q*2=q:=by
 unfold eD;rw [show mkRat 1 (2^1)=1/2 by decide +kernel];grind
theorem aC2 {t a:Rat} (h:t.abs≤a):-a≤t∧t≤a:=by
 unfold Rat.abs at h;split at h<;>constructor<;>grind
theorem QO {aF x c:Rat} (h:(x-c).abs*2≤aF):eC aF x c=x-c:=by
 have e:=aa1 aF;unfold eC;rw [RA,Uw];generalize eD aF=a at *;generalize x-c=d at *;obtain ⟨h1,h2⟩:=aC2 (t:=d) (a:=a) (by grind);split
 ·split<;>grind
 ·split<;>grind
theorem oB.sub {x c:Rat} (hx:oB x) (hc:oB c):xY (x-c):=by
 have h:=(hx.bd.mono (E:=x.den*c.den) (Nat.dvd_mul_right _ _) (bC _)).sub (Nat.mul_ne_zero (wY x) (wY c)) (hc.bd.mono (Nat.dvd_mul_left _ _) (bC _));refine ⟨Nat.le_trans (Nat.le_of_dvd (Nat.mul_pos x.den_pos c.den_pos) h.1) (Nat.le_trans (Nat.mul_le_mul hx.d hc.d) (by decide)),Nat.le_trans h.2 (Nat.mul_le_mul_right _ (by omega))⟩
theorem Tq {E:List (List Rat)} {x c t:Rat} {k:Int} {M:Nat→Nat→Rat×Rat} (h:xL E x k c=some (t,M)):∃ aF st N,cY (bH E c) (E.length-1) (aQ E c)=some (aF,st)∧gI E c aF st (eC aF x c) (E.length-1-1) k=some N∧t=eC aF x c∧M=Ac E c aF st (eC aF x c) k N:=by
 obtain ⟨rv,hv⟩:∃ rv,cY (bH E c) (E.length-1) (aQ E c)=rv:=⟨_,rfl⟩
 rcases rv with _ | ⟨aF,st⟩
 ·rw [xH hv] at h;cases h
 obtain ⟨no,hn⟩:∃ no,gI E c aF st (eC aF x c) (E.length-1-1) k=no:=⟨_,rfl⟩
 rcases no with _ | N
 ·rw [wW hv hn] at h;cases h
 rw [AM hv hn] at h;obtain ⟨h1,h2⟩:=Prod.mk.inj (Option.some.inj h);exact ⟨aF,st,N,hv,hn,h1.symm,h2.symm⟩
theorem MH {q:Rat} {H k:Nat} (h:Fit H q) (hk:k≤256:=by omega):Fit (H+257+257) (mL q k):=(zP (h.mul (lX hk))).mul (kM hk)
theorem TH {q:Rat} {H k:Nat} (h:Fit H q) (hk:k≤256:=by omega):Fit (H+257+257) (SR q k):=by
 unfold SR;rw [Rat.intCast_neg];exact (zP (h.mul (lX hk)).neg).neg.mul (kM hk)
theorem Xa {m H W d:Nat} {k:Int} {M:Nat→Nat→Rat×Rat} {v:VS} (hk:k≤256) (hH:1≤H) (hM:∀ l,l<m→Fit H (M d l).1∧Fit H (M d l).2) (hvl:v.length=m) (hv:∀ p∈v,Fit W p.1∧Fit W p.2):Fit (m*(H+W+1)+1+257+257) (uJ m k M v d).1∧Fit (m*(H+W+1)+1+257+257) (uJ m k M v d).2:=by
 obtain ⟨h1,h2⟩:=Ab (M:=M d) (v:=fun l=>v.getD l (0,0)) (m:=m) (W:=W) hH hM (fun l hl=>hv _ (cI (Cg))) m (bC _);exact ⟨MH h1,TH h2⟩
theorem Jl {m K:Nat} (h:m≤4:=by omega) (hK:K≤12000514:=by omega):m*K+1+257+257≤50000000:=by
 have h1:=Nat.mul_le_mul h hK;have h2:4*12000514=48002056:=by decide
 rw [h2] at h1;generalize m*K=z at *;omega
theorem UX {E:List (List Rat)} {x:Rat} {k:Int} {H W:Nat} {Inv:Nat→Rat→VS→Prop} (P:Sg E x k H W Inv) {w:VS}:∀ f c v,Inv f c v→gZ E x k f c v=some w→∃ g c',Inv g c' w:=by
 intro f
 induction f with
 | zero=>
   intro c v hI h;by_cases hc:c=x
   ·rw [hc,rH] at h;obtain rfl:=Option.some.inj h;exact ⟨_,_,hI⟩
   ·rw [xW hc] at h;cases h
 | succ f ih=>
   intro c v hI h;by_cases hc:c=x
   ·rw [hc,rH] at h;obtain rfl:=Option.some.inj h;exact ⟨_,_,hI⟩
   ·cases hm:xL E x k c with
    | none=>rw [xV _ hc hm] at h;cases h
    | some z=>
      obtain ⟨t,M⟩:=z;rw [xN f hc hm] at h;exact ih _ _ (P.next f c v t M hI hc hm) h
section
variable {E:List (List Rat)} {ER:List (List RQ)} {X:Rat} {XR:RQ}
def bD8 (E:List (List Rat)) (X x:Rat) (v0:VS) (f:Nat) (c:Rat) (v:VS):Prop:=(f=64∧c=X∧v=v0)∨(f=63∧c=x∧v.length=E.length-1∧∀ p∈v,Fit 50000000 p.1∧Fit 50000000 p.2)
structure uO (E:List (List Rat)) (X x:Rat) (v0:VS):Prop where
 hr:lJ E X
 xb:oB x
 vl:v0.length=E.length-1
 vf:∀ p∈v0,Fit 513 p.1∧Fit 513 p.2
 re:∀ aF st,cY (bH E X) (E.length-1) (aQ E X)=some (aF,st)→st≤24∧(x-X).abs*2≤aF
theorem uO.step {x:Rat} {v0:VS} {k:Int} (h:SmallX E ER X XR) (N:uO E X x v0) (hk:k≤256) {aF:Rat} {st:Nat} (hv:cY (bH E X) (E.length-1) (aQ E X)=some (aF,st)):eC aF x X=x-X∧pY E X aF st (eC aF x X) k∧Fit 2097152 aF∧0<st:=by
 obtain ⟨h1,h2⟩:=N.re aF st hv;have e:=QO h2;obtain ⟨l2,l5,_,_⟩:=N.hr.facts;obtain ⟨hh,hh62,hrho,_,hW⟩:=gA hv;have ht:xY (x-X):=N.xb.sub h.xb;refine ⟨e,by rw [e];exact bg0 N.hr hv (by omega) ht h2 hk,by rw [hrho];exact (hJ ht hh62 (n:=1) (d:=0) (by omega) (by omega) (bC _)).o1,by omega⟩
theorem uO.way {x:Rat} {v0:VS} {k:Int} (h:SmallX E ER X XR) (N:uO E X x v0) (hk:k≤256):Sg E x k 12000000 50000000 (bD8 E X x v0):=by
 obtain ⟨l2,l5,_,_⟩:=N.hr.facts;refine ⟨fun f c v hI=>?_,fun f c v hI hcx=>?_,fun f c v t M hI hcx hm=>?_⟩
 ·rcases hI with ⟨rfl,rfl,rfl⟩ | ⟨rfl,rfl,hl,hf⟩
  ·exact ⟨h.xb.fit.mono (by omega),N.vl,fun p hp=>⟨(N.vf p hp).1.mono (by omega),(N.vf p hp).2.mono (by omega)⟩⟩
  ·exact ⟨N.xb.fit.mono (by omega),hl,hf⟩
 ·rcases hI with ⟨rfl,rfl,rfl⟩ | ⟨rfl,rfl,hl,hf⟩
  ·refine ⟨PG h N.hr,Im h N.hr,fun aF st hv=>(N.step h hk hv).2.2.1,fun aF st hv=>?_,fun aF st hv=>?_,fun aF st n hv hn d hd l hl=>?_⟩
   ·exact PR (h.bv7 N.hr (N.step h hk hv).2.1)
   ·exact (N.step h hk hv).2.1.tf.mono (by omega)
   ·exact h.Mr N.hr (N.step h hk hv).2.1 hn hd hl
  ·exact absurd rfl hcx
 ·rcases hI with ⟨hf,rfl,rfl⟩ | ⟨_,rfl,hl,hf⟩
  ·obtain ⟨aF,st,n,hv,hn,rfl,rfl⟩:=Tq hm;obtain ⟨e,S,_,_⟩:=N.step h hk hv;refine .inr ⟨by omega,by rw [e];grind,by rw [yM,aP,oE],fun p hp=>?_⟩;obtain ⟨d,hd,rfl⟩:=gJ.1 hp;obtain ⟨f1,f2⟩:=Xa (d:=d) (H:=12000000) (W:=513) (M:=Ac E c aF st (eC aF x c) k n) hk (by omega) (fun l hl=>h.Mr N.hr S hn (List.mem_range.1 hd) hl) N.vl N.vf;exact ⟨f1.mono (Jl),f2.mono (Jl)⟩
  ·exact absurd rfl hcx
def bB7 (E:List (List Rat)) (XR:RQ) (x:Rat) (v0:VS) (f:Nat) (c:RQ) (v:VS):Prop:=(f=64∧c=XR∧v=v0)∨(f=63∧c.q=x∧v.length=E.length-1∧∀ p∈v,Fit 50000000 p.1∧Fit 50000000 p.2)
theorem uO.bC9 {x:Rat} {v0:VS} {k:Int} (h:SmallX E ER X XR) (N:uO E X x v0) (hk:k≤256):by0 E ER x k 12000000 50000000 (bB7 E XR x v0):=by
 have P:=N.way h hk;have hX:=h.x;subst hX;obtain ⟨l2,l5,_,_⟩:=N.hr.facts;refine ⟨fun f c v hI=>?_,fun f c v hI hcx=>?_,fun f c v t M hI hcx hm=>?_⟩
 ·rcases hI with ⟨rfl,rfl,rfl⟩ | ⟨rfl,rfl,hl,hf⟩
  ·exact P.few 64 c.q v (.inl ⟨rfl,rfl,rfl⟩)
  ·exact P.few 63 c.q v (.inr ⟨rfl,rfl,hl,hf⟩)
 ·rcases hI with ⟨rfl,rfl,rfl⟩ | ⟨rfl,rfl,hl,hf⟩
  ·refine ⟨mQ h N.hr,fun aF st hv=>⟨(N.step h hk hv).2.2.2,(N.step h hk hv).2.2.1,(N.step h hk hv).2.1.tf.mono (by omega)⟩,fun aF st hv u hu=>Fi h N.hr (N.step h hk hv).2.1 hu,fun aF st n hv hn d hd l hl=>?_⟩;exact h.Mr N.hr (N.step h hk hv).2.1 hn hd hl
  ·exact absurd rfl hcx
 ·rcases hI with ⟨hf,rfl,rfl⟩ | ⟨_,rfl,hl,hf⟩
  ·rcases P.next f c.q v t M (.inl ⟨hf,rfl,rfl⟩) hcx hm with ⟨h1,_,_⟩ | ⟨h1,h2,h3,h4⟩
   ·omega
   ·exact .inr ⟨h1,h2,h3,h4⟩
  ·exact absurd rfl hcx
end
end Go.Sy
