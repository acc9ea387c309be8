/- Part. -/
import Derived.Test.YtdmcadckdnnglaaGreatDoorHe
set_option linter.all false
namespace Go.Sy
open Go Go.Proofs Tryz Ord
def am3:Tr:=fP 0 4 4 0 40 22 24 (eS 7 0 (some 3) 39 26 (aM 227 [(G3 8)] [(some 6)] [29] [39] 123 true (.need (.lit 6 [[(.u 9 0),(.u 9 1),(.u 9 2),(.u 9 3),(.u 9 4),(.u 9 5)]]) (.buildSlice 118 1 #[(0,(tT 30))]) 118 false (.need (.app 6 112 (some 5) none (some 10)) (.call ⟨.builtin .append,#[(tT 28),(tT 31)],#[118,118]⟩) 118 false (bA .add 3 24 1 4 0 3 (.back 0 [lV 12 0, .row 11]))))))
def Wr:Tr:=eS 41 0 (some 6) 123 78 (.need (.idx 8 (.u 33 0)) (.indexAddr 118 (tT 82) (tT 83)) 0 false (.need (.ldrow 8 (.u 33 0) 0 6 true) (.load 123 (tT 84)) 123 false (aM 67 [(G6 42),(G6 43)] [(some 6)] [81,85] [123,123] 123 true (aM 66 [(.agg [(U 34 0),(U 35 0),(U 36 0),(U 37 0),(U 38 0),(U 39 0)]),(G6 44)] [(some 6)] [80,86] [123,123] 123 true (bA .add 3 75 1 33 0 3 (.back 2 [lV 46 0,lV 45 0,lV 45 1,lV 45 2,lV 45 3,lV 45 4,lV 45 5]))))))
def YU:Tr:=bM .lss 3 75 74 33 0 32 0 0 (.split (.u 40 0) (fP 31 0 33 0 118 73 75 Wr) (aM 229 [(.agg [(U 34 0),(U 35 0),(U 36 0),(U 37 0),(U 38 0),(U 39 0)]),(W 2 0)] [(some 6)] [90,91] [123,3] 123 true (.need (.lit 6 [[(.u 41 0),(.u 41 1),(.u 41 2),(.u 41 3),(.u 41 4),(.u 41 5)]]) (.buildSlice 118 1 #[(0,(tT 92))]) 118 false (.need (.app 6 112 (some 28) none (some 42)) (.call ⟨.builtin .append,#[(tT 89),(tT 93)],#[118,118]⟩) 118 false (bA .add 3 69 1 27 0 3 (.back 1 [lV 44 0, .row 43]))))))
def Wh:Tr:=.loop 1 [lK 0, .nilrow] (bM .lss 3 69 68 27 0 26 0 0 (.split (.u 29 0) (fP 25 0 27 0 109 67 69 (eS 30 0 none 118 71 (cV 31 0 73 118 (.loop 2 [lK 0,lN,(.w (.one (.c (.k (.bool false))))),lN,lN,(.w (.one (.c (.k (.bool false))))),lN] YU)))) (aM 64 [(.agg [(U 9 0),(U 10 0),(U 11 0)]),(G3 24)] [(some 3)] [97,98] [39,39] 39 true (bA .add 3 40 1 7 0 3 (.back 0 [lV 31 0, .row 28,lV 30 0,lV 30 1,lV 30 2])))))
def Zd:Tr:=aM 167 [(G3 1),(.agg [(U 9 0),(U 10 0),(U 11 0)])] [(some 3)] [57,58] [39,39] 39 false (.need (.lit 3 [[(.u 18 0),(.u 18 1),(.u 18 2)],[(.u 20 0),(.u 20 1),(.u 20 2)]]) (.buildSlice 40 2 #[(0,(tT 56)),(1,(tT 59))]) 40 false (aM 235 [(.one (.c (.sr 3 21)))] [(some 3)] [60] [40] 39 true (.need (.lit 3 [[(.u 19 0),(.u 19 1),(.u 19 2)],[(.u 22 0),(.u 22 1),(.u 22 2)]]) (.buildSlice 40 2 #[(0,(tT 55)),(1,(tT 61))]) 40 false (aM 208 [(.one (.c (.sr 3 23)))] [(some 3)] [62] [40] 39 true (aM 147 [(.agg [(U 16 0),(U 16 1),(U 16 2),(U 16 3),(U 16 4),(U 16 5),(U 16 6),(U 16 7),(U 16 8)]),(G3 24),(W 2 0)] [none] [64,65,66] [185,39,3] 109 true (cV 25 0 67 109 Wh))))))
def Vn:Tr:=bA .lss 3 42 64 7 0 4 (.need (.call 130 [(W 14 0),(WK 5)] []) (.call ⟨.value (.func 130),#[(tT 43),(.const (I3 5))],#[4,55]⟩) 0 true (aM 100 [(W 0 0),(.agg [(U 9 0),(U 10 0),(U 11 0)])] [(some 5)] [46,47] [32,39] 171 true (aM 123 [(G5 15)] [(some 9)] [48] [171] 185 true (.need (.call 202 [(WK 1)] [(some 3)]) (.call ⟨.value (.func 202),#[(.const (I3 1))],#[3]⟩) 39 true (aM 36 [(.agg [(U 16 5),(U 16 6),(U 16 7)]),(G3 17)] [(some 3)] [51,52] [39,39] 39 true (aM 65 [(G3 18)] [(some 3)] [54] [39] 39 false Zd))))))
def ae3:Tr:=bM .lss 3 24 23 4 0 3 0 0 (.split (.u 6 0) am3 (.loop 0 [lK 0, .row 5,lV 0 1,lV 0 2,lV 0 3] (aM 38 [(.agg [(U 9 0),(U 10 0),(U 11 0)]),(G3 1)] [none] [36,37] [39,39] 3 true (bA .neq 3 38 0 12 0 4 (.split (.u 13 0) Vn (.ret [(.one (.c (.sr 6 8)))]))))))
def aA4:Tr:=cV 0 4 22 40 (.loop 0 [lK 0, .nilrow] ae3)
theorem OQ:aL prog f234 (look [(1,⟨[11],[(7,118)],[],[(10,[])]⟩)]) [.v (some 5), .v (some 3), .v none]=aA4:=by kernel_rfl
theorem RF:aU aF.Sub [.one (.exact (.slice none 0 0)), .one (.bool false), .one (.exact (.slice none 0 0)), .one (.exact (.slice none 0 0)), .one (.bool false), .one (.exact (.slice none 0 0))] ((PU 0 0).map .one):=⟨fU.1,fU.2.1,fU.2.2.1,fU.1,fU.2.1,fU.2.2.1,trivial⟩
abbrev VS:=List (Rat×Rat)
abbrev vS (v:VS):List (List aE):=v.map fun p=>PU p.1 p.2
def wT (M v:Nat→Rat×Rat):Nat→Rat×Rat
 | 0=>(0,0)
 | l+1=>((wT M v l).1+vM (M l).1 (M l).2 (v l).1 (v l).2,(wT M v l).2+vI (M l).1 (M l).2 (v l).1 (v l).2)
def zN (m:Nat) (k:Int) (M:Nat→Nat→Rat×Rat) (v:VS) (d:Nat):Rat×Rat:=
 (pB (wT (M d) (fun l=>v.getD l (0,0)) m).1 k.toNat,PS (wT (M d) (fun l=>v.getD l (0,0)) m).2 k.toNat)
def pC (m:Nat) (k:Int) (M:Nat→Nat→Rat×Rat) (v:VS):VS:=(List.range m).map (zN m k M v)
def eU (aH:Rat):Rat:=aH*mkRat 1 (2^1)
def dQ (aH x c:Rat):Rat:=iK [-(eU aH),jD [eU aH,x-c] 2] 2
def AO (E:List (List Rat)) (c aH:Rat) (st:Nat) (t:Rat) (k:Int) (N:Nat):Nat→Nat→Rat×Rat:=fun d l=>
 (Lq (bW E c) (E.length-1) (aZ E c) aH st t k N d l,KB (bW E c) (E.length-1) (aZ E c) aH st t k N d l)
def vV (E:List (List Rat)) (x:Rat) (k:Int) (c:Rat):Option (Rat×(Nat→Nat→Rat×Rat)):=
 match dN (bW E c) (E.length-1) (aZ E c) with
 | none=>none
 | some (aH,st)=>match kJ E c aH st (dQ aH x c) (E.length-1-1) k with
   | none=>none
   | some N=>some (dQ aH x c,AO E c aH st (dQ aH x c) k N)
def PY (E:List (List Rat)) (x:Rat) (k:Int) (r:Rat→VS→Option VS) (c:Rat) (v:VS):Option VS:=
 if c=x then some v else (vV E x k c).elim none fun z=>r (c+z.1) (pC (E.length-1) k z.2 v)
def gE (E:List (List Rat)) (x:Rat) (k:Int):Nat→Rat→VS→Option VS
 | 0=>fun c v=>if c=x then some v else none
 | f+1=>fun c v=>PY E x k (gE E x k f) c v
theorem mK {E:List (List Rat)} {x c:Rat} {k:Int} {v:VS} (h:c≠x):gE E x k 0 c v=none:=if_neg h
theorem mO {E:List (List Rat)} {x c:Rat} {k:Int} {v:VS} (f:Nat) (h:c≠x) (hn:vV E x k c=none):gE E x k f c v=none:=by
 cases f with
 | zero=>exact if_neg h
 | succ f=>show PY E x k (gE E x k f) c v=none;unfold PY;rw [if_neg h,hn];rfl
theorem mW {E:List (List Rat)} {x c t:Rat} {k:Int} {v:VS} {M:Nat→Nat→Rat×Rat} (f:Nat) (h:c≠x) (hn:vV E x k c=some (t,M)):gE E x k (f+1) c v=gE E x k f (c+t) (pC (E.length-1) k M v):=by
 show PY E x k (gE E x k f) c v=_;unfold PY;rw [if_neg h,hn];rfl
theorem jU {E:List (List Rat)} {x:Rat} {k:Int} {v:VS} (f:Nat):gE E x k f x v=some v:=by
 cases f with
 | zero=>exact if_pos rfl
 | succ f=>exact if_pos rfl
theorem CH {E:List (List Rat)} {x c:Rat} {k:Int} (h:dN (bW E c) (E.length-1) (aZ E c)=none):vV E x k c=none:=by unfold vV;rw [h]
theorem BQ {E:List (List Rat)} {x c aH:Rat} {st:Nat} {k:Int} (h:dN (bW E c) (E.length-1) (aZ E c)=some (aH,st)) (hn:kJ E c aH st (dQ aH x c) (E.length-1-1) k=none):vV E x k c=none:=by unfold vV;rw [h];dsimp only;rw [hn]
theorem Gd {E:List (List Rat)} {x c aH:Rat} {st N:Nat} {k:Int} (h:dN (bW E c) (E.length-1) (aZ E c)=some (aH,st)) (hn:kJ E c aH st (dQ aH x c) (E.length-1-1) k=some N):vV E x k c=some (dQ aH x c,AO E c aH st (dQ aH x c) k N):=by unfold vV;rw [h];dsimp only;rw [hn]
def aw1:Option VS→Out
 | some v=>.ret [.one (.slice 6 (vS v))]
 | none=>.pan (Qf 5)
structure aL4 (E:List (List Rat)) (x:Rat) (k:Int) (H:Nat) (c:Rat):Prop where
 hat:aN prog 100 [.one (eQ E),qT c] (.ret [GR (bW E c) (E.length-1) (aZ E c)])
 hre:aN prog 123 [GR (bW E c) (E.length-1) (aZ E c)] (xZ E c)
 rf:∀ aH st,dN (bW E c) (E.length-1) (aZ E c)=some (aH,st)→Fit 2097152 aH
 mx:∀ aH st,dN (bW E c) (E.length-1) (aZ E c)=some (aH,st)→aN prog 147 [.agg (Bn (bW E c) (E.length-1) (aZ E c) aH (st:Nat)),qT (dQ aH x c), .one (.int .i64 k)] (KJ (bW E c) (E.length-1) (aZ E c) aH st (dQ aH x c) k (kJ E c aH st (dQ aH x c) (E.length-1-1) k))
 tf:∀ aH st,dN (bW E c) (E.length-1) (aZ E c)=some (aH,st)→Fit 2097152 (dQ aH x c)
 ent:∀ aH st N,dN (bW E c) (E.length-1) (aZ E c)=some (aH,st)→kJ E c aH st (dQ aH x c) (E.length-1-1) k=some N→∀ d,d<E.length-1→∀ l,l<E.length-1 →
  Fit H (AO E c aH st (dQ aH x c) k N d l).1∧Fit H (AO E c aH st (dQ aH x c) k N d l).2
structure Mg (E:List (List Rat)) (x:Rat) (k:Int) (H W:Nat) (Inv:Nat→Rat→VS→Prop):Prop where
 PR:∀ f c v,Inv f c v→Fit 1024 c∧v.length=E.length-1∧∀ p∈v,Fit W p.1∧Fit W p.2
 hop:∀ f c v,Inv f c v→c≠x→aL4 E x k H c
 next:∀ f c v t M,Inv (f+1) c v→c≠x→vV E x k c=some (t,M)→Inv f (c+t) (pC (E.length-1) k M v)
theorem Cj {M v:Nat→Rat×Rat} {m H W:Nat} (hH:1≤H) (hM:∀ l,l<m→Fit H (M l).1∧Fit H (M l).2) (hv:∀ l,l<m→Fit W (v l).1∧Fit W (v l).2):∀ l,l≤m→Fit (l*(H+W+1)+1) (wT M v l).1∧Fit (l*(H+W+1)+1) (wT M v l).2
 | 0,_=>⟨Fit.zero (by omega),Fit.zero (by omega)⟩
 | l+1,h=>by
   obtain ⟨a1,a2⟩:=Cj hH hM hv l (by omega);obtain ⟨b1,b2⟩:=NN hH (hM l (by omega)).1 (hM l (by omega)).2 (hv l (by omega)).1 (hv l (by omega)).2;rw [wT,Nat.add_mul,Nat.one_mul];exact ⟨(a1.add b1).mono (by omega),(a2.add b2).mono (by omega)⟩
theorem xW {v:VS} {l:Nat} (h:l<v.length:=by omega):v[l]? = some (v.getD l (0,0)):=by
 rw [eX,bI h];rfl
theorem Ot {aH:Rat} {B:Nat} (h:Fit B aH):Fit (B+257) (eU aH):=h.mul (kL (by omega))
theorem aH8 {a b:Rat}:lS a b≠0↔a≠b:=by
 unfold lS
 constructor
 ·rintro h rfl;exact h (by rw [if_neg (by grind),if_neg (by grind)])
 ·intro h;split
  ·omega
  ·split
   ·omega
   ·exact absurd (show a=b by grind) h
set_option maxHeartbeats 4000000 in
theorem Pr (E:List (List Rat)) (X:Rat) (Y:List Rat) (x:Rat) (k:Int) (H W:Nat) (Inv:Nat→Rat→VS→Prop) (P:Mg E x k H W Inv) (hk:k≤256) (hE1:2≤E.length) (hE5:E.length≤5) (hx:Fit 1024 x) (h0:Inv 64 X (Y.map fun y=>(y,y))) (hH:1≤H:=by omega) (hW:1≤W:=by omega) (hHW:5*(H+W+1)≤4294967296:=by omega) (hyl:Y.length<1099511627776:=by omega):aN prog 234 [(fT E X Y:aF),(qT x:aF),(.one (.int .i64 k):aF)] (aw1 (gE E x k 64 X (Y.map fun y=>(y,y)))):=by
 refine cP (args:=[.v (some 5), .v (some 3), .v none]) (ins:=[.v (fT E X Y), .v (qT x), .v (.one (.int .i64 k))]) (hints:=(look [(1,⟨[11],[(7,118)],[],[(10,[])]⟩)])) fo (by kernel_rfl) func234 ⟨rfl,rfl,rfl,trivial⟩ ?_;rw [OQ];dsimp only [List.map,In.env,aA,aB];apply vn (aQ rL (aP _)) rfl;dsimp only [aA,aB];refine bF {i:Nat // i≤Y.length} (fun g=>[.one (.int .i64 g.1), .rows (vS ((Y.take g.1).map fun y=>(y,y)))]) (fun g=>Y.length-g.1) ⟨0,bR _⟩ aO.rfl (fun _=>rfl) ?_;rintro ⟨i,hi⟩;dsimp only [aA,aB] at hi ⊢;apply vn bE rfl;dsimp only [aA,aB];refine vs _ rfl ?_ ?_<;>intro h3
 ·obtain ⟨y,hy⟩:∃ y,Y[i]? = some y:=⟨_,bI (by omega)⟩
  apply vn (aW rL hy (Int.toNat_natCast i)) rfl;dsimp only [aA,aB];apply vn (bO pO (by decide) (by simp) (.inl rfl)) rfl;dsimp only [aA,aB];apply aC (aG8 y) rfl;dsimp only [aA,aB];apply bL (us:=[PU y y]) rfl;dsimp only [aA,aB];refine rP (ts:=vS ((Y.take i).map fun y=>(y,y))) (us:=[PU y y]) (vs:=vS ((Y.take (i+1)).map fun y=>(y,y))) rfl rfl (by rw [List.take_add_one,hy];simp) (by simp;omega) (by simp [maxLen];omega) ?_;dsimp only [aA,aB];apply vn (aD) rfl;dsimp only [aA,aB];exact aR rfl ⟨⟨i+1,by omega⟩,aO.rfl,by show Y.length-(i+1)<Y.length-i;omega⟩
 obtain rfl:i=Y.length:=by omega
 rw [List.take_length];obtain ⟨res,hres⟩:∃ res,gE E x k 64 X (Y.map fun y=>(y,y))=res:=⟨_,rfl⟩
 rw [hres];refine bF {g:Nat×Rat×VS // g.1≤64∧Inv g.1 g.2.1 g.2.2∧gE E x k g.1 g.2.1 g.2.2=res} (fun g=>(.one (.int .i64 (64-(g.1.1:Int))):aF) :: .rows (vS g.1.2.2)::(qC g.1.2.1).map .one) (fun g=>g.1.1) ⟨(64,X,Y.map fun y=>(y,y)),bB _,h0,hres⟩ aO.rfl (fun _=>rfl) ?_;rintro ⟨⟨f,c,v⟩,hf,hI,hr⟩;dsimp only [aA,aB,List.map] at hf hI hr ⊢;obtain ⟨hcf,hvl,hvf⟩:=P.PR f c v hI;apply aC (wK c x 1024 1024 hcf hx) rfl;dsimp only [aA,aB];apply vn gI rfl;dsimp only [aA,aB];refine vs _ rfl (fun hne=>?_) (fun heq=>?_)
 ·have hcx:c≠x:=aH8.1 hne;have HO:=P.hop f c v hI hcx;apply vn bE rfl;dsimp only [aA,aB];rcases Nat.eq_zero_or_pos f with hf0 | hf0
  ·rw [show res=none by rw [←hr,hf0];exact mK hcx,show decide ((64:Int)-(f:Int)<64)=false from decide_eq_false (by omega)];exact vcp (rX 5) rfl
  obtain ⟨g,hg⟩:∃ g,f=g+1:=⟨f-1,by omega⟩
  rw [hg] at hr;rw [show decide ((64:Int)-(f:Int)<64)=true from decide_eq_true (by omega)];apply aC (rV 5) rfl;apply aC HO.hat rfl;dsimp only [aA,aB];have hre:=HO.hre;have hhop:vV E x k c=none→res=none:=fun e=>by rw [←hr];exact mO _ hcx e
  unfold xZ at hre;obtain ⟨rv,hv⟩:∃ rv,dN (bW E c) (E.length-1) (aZ E c)=rv:=⟨_,rfl⟩
  rw [hv] at hre;rcases rv with _ | ⟨aH,st⟩
  ·rw [hhop (CH hv)];exact vcp hre rfl
  have hrf:=HO.rf aH st hv;have htf:=HO.tf aH st hv;apply aC hre rfl;dsimp only [aA,aB];apply aC (xO 1) rfl;dsimp only [aA,aB];apply aC (cY aH (mkRat 1 (2^1)) 2097152 257 hrf (kL (by omega))) rfl;rw [show aH*mkRat 1 (2^1)=eU aH from rfl];have hhf:=Ot hrf;dsimp only [aA,aB];apply aC (CM (eU aH)) rfl;dsimp only [aA,aB];apply aC (KY x c 1024 1024 hx hcf) rfl;have hxc:=hx.sub hcf;dsimp only [aA,aB];apply bL (us:=rQ [eU aH,x-c]) rfl;dsimp only [aA,aB]
  apply aC (QM [eU aH,x-c] 2097409 (fun y hy=>by
   simp only [List.mem_cons,List.not_mem_nil,or_false] at hy;rcases hy with rfl | rfl
   ·exact hhf
   ·exact hxc.mono (by decide)) (by omega) (by omega) (by simp)) rfl
  have hmf:Fit 2097409 (jD [eU aH,x-c] 2):=sU (fun y hy=>by
   simp only [List.mem_cons,List.not_mem_nil,or_false] at hy;rcases hy with rfl | rfl
   ·exact hhf
   ·exact hxc.mono (by decide)) 2 (by simp)
  dsimp only [aA,aB];apply bL (us:=rQ [-(eU aH),jD [eU aH,x-c] 2]) rfl;dsimp only [aA,aB]
  apply aC (NH [-(eU aH),jD [eU aH,x-c] 2] 2097409 (fun y hy=>by
   simp only [List.mem_cons,List.not_mem_nil,or_false] at hy;rcases hy with rfl | rfl
   ·exact hhf.neg
   ·exact hmf) (by omega) (by omega) (by simp)) rfl
  rw [show iK [-(eU aH),jD [eU aH,x-c] 2] [-(eU aH),jD [eU aH,x-c] 2].length=dQ aH x c from rfl];dsimp only [aA,aB];have hmx:=HO.mx aH st hv;unfold KJ at hmx;have hent:=HO.ent aH st;obtain ⟨no,hn⟩:∃ no,kJ E c aH st (dQ aH x c) (E.length-1-1) k=no:=⟨_,rfl⟩
  rw [hn] at hmx;rcases no with _ | N<;>dsimp only at hmx
  ·rw [hhop (BQ hv hn)];exact vcp hmx rfl
  have hent:=hent N hv hn;have hsm:=Gd hv hn;rw [hg] at hI;have hnx:=P.next g c v (dQ aH x c) (AO E c aH st (dQ aH x c) k N) hI hcx hsm
  have hrs:gE E x k g (c+dQ aH x c) (pC (E.length-1) k (AO E c aH st (dQ aH x c) k N) v)=res:=by
   rw [←hr];exact (mW g hcx hsm).symm
  obtain ⟨M,hM⟩:∃ M,AO E c aH st (dQ aH x c) k N=M:=⟨_,rfl⟩
  obtain ⟨m,hm⟩:∃ m,E.length-1=m:=⟨_,rfl⟩
  apply aC hmx rfl;rw [show OU (bW E c) (E.length-1) (aZ E c) aH st (dQ aH x c) k N (E.length-1)=(List.range m).map fun d=>[.slice 6 ((List.range m).map fun l=>PU (M d l).1 (M d l).2)] by rw [←hM,←hm];rfl];rw [hM] at hent hnx hrs;rw [hm] at hent hnx hrs hvl;dsimp only [aA,aB];apply vn (aQ aa6 ((aP _).trans uG)) rfl;dsimp only [aA,aB];refine bF {d:Nat // d≤m} (fun g=>[.one (.int .i64 g.1), .rows (vS ((List.range g.1).map (zN m k M v)))]) (fun g=>m-g.1) ⟨0,bR _⟩ aO.rfl (fun _=>rfl) ?_;rintro ⟨d,hd⟩;dsimp only [aA,aB] at hd ⊢;apply vn bE rfl;dsimp only [aA,aB];refine vs _ rfl ?_ ?_<;>intro h31
  ·have hdm:d<m:=by omega
   refine vn (aW aa6 (List.getElem?_range hdm) (Int.toNat_natCast d)) rfl ?_;dsimp only [aA,aB];apply vn (bG aF4) rfl;dsimp only [aA,aB];apply vn (aQ vG ((aP _).trans uG)) rfl;dsimp only [aA,aB];have hdf:=fun l hl=>Cj (M:=M d) (v:=fun l=>v.getD l (0,0)) (m:=m) (W:=W) hH (fun l hl=>hent d hdm l hl) (fun l hl=>hvf _ (cS (xW (v:=v)))) l hl;refine bF {l:Nat // l≤m} (fun g=>(.one (.int .i64 g.1):aF)::(PU (wT (M d) (fun l=>v.getD l (0,0)) g.1).1 (wT (M d) (fun l=>v.getD l (0,0)) g.1).2).map .one) (fun g=>m-g.1) ⟨0,bR _⟩ ⟨aF.Sub.same,RF⟩ (fun _=>rfl) ?_;rintro ⟨l,hl⟩;dsimp only [aA,aB,List.map] at hl ⊢;apply vn bE rfl;dsimp only [aA,aB];refine vs _ rfl ?_ ?_<;>intro h37
   ·have hlm:l<m:=by omega
    refine vn (aW vG (List.getElem?_range hlm) (Int.toNat_natCast l)) rfl ?_;dsimp only [aA,aB];apply vn (bO NI (by decide) (by simp) (.inl rfl)) rfl;dsimp only [aA,aB];have hvx:=xW (v:=v) (l:=l);refine nA rfl rfl (by omega) (by rw [aP];omega) ?_;refine PH (m:=l) (t:=Cl (v.getD l (0,0)).1 (v.getD l (0,0)).2) rfl rfl (by omega) (by omega) hvx (.inl rfl) rfl ?_;dsimp only [aA,aB,NJ,List.drop,List.take];obtain ⟨e1,e2⟩:=hent d hdm l hlm;obtain ⟨w1,w2⟩:=hvf _ (cS hvx);apply aC (av2 (M d l).1 (M d l).2 (v.getD l (0,0)).1 (v.getD l (0,0)).2 H W hH e1 e2 w1 w2) rfl;dsimp only [aA,aB];obtain ⟨p1,p2⟩:=NN hH e1 e2 w1 w2;obtain ⟨d1,d2⟩:=hdf l (by omega);have hlx:l*(H+W+1)+1≤4*(H+W+1)+1:=Nat.succ_le_succ (Nat.mul_le_mul_right _ (by omega));apply aC (LI _ _ _ _ (l*(H+W+1)+1) (H+W) d1 d2 p1 p2) rfl;dsimp only [aA,aB];apply vn (aD) rfl;dsimp only [aA,aB];exact aR rfl ⟨⟨l+1,by omega⟩,aO.rfl,by show m-(l+1)<m-l;omega⟩
   obtain rfl:l=m:=by omega
   obtain ⟨d1,d2⟩:=hdf l (bB _);have hlx:l*(H+W+1)+1≤4*(H+W+1)+1:=Nat.succ_le_succ (Nat.mul_le_mul_right _ (by omega));apply aC (Ql _ _ k (l*(H+W+1)+1) hk d1 d2) rfl;dsimp only [aA,aB];apply bL (us:=[PU (zN l k M v d).1 (zN l k M v d).2]) rfl;dsimp only [aA,aB];refine rP (ts:=vS ((List.range d).map (zN l k M v))) (us:=[PU (zN l k M v d).1 (zN l k M v d).2]) (vs:=vS ((List.range (d+1)).map (zN l k M v))) rfl rfl (by rw [List.range_succ];simp) (by simp;omega) (by simp [maxLen];omega) ?_;dsimp only [aA,aB];apply vn (aD) rfl;dsimp only [aA,aB];exact aR rfl ⟨⟨d+1,by omega⟩,aO.rfl,by show l-(d+1)<l-d;omega⟩
  obtain rfl:d=m:=by omega
  apply aC (kA c (dQ aH x c) 1024 2097152 hcf htf) rfl;dsimp only [aA,aB];apply vn (aD) rfl
  exact aR rfl ⟨⟨(g,c+dQ aH x c,pC d k M v),by dsimp only;omega,hnx,hrs⟩,aO.of_eq (by
   dsimp only;rw [show (64:Int)-(f:Int)+1=64-(g:Int) by omega];rfl),by show g<f;omega⟩
 have hcx:c=x:=Classical.byContradiction fun h=>heq (aH8.2 h)
 rw [show res=some v by rw [←hr,hcx];exact jU f];exact aK rfl
open Go Go.Proofs Go.RowKit Tryz Ord
attribute [local go_sem] Oper.semAt_some
def al0:Tr:=aM 234 [(G5 0),(G3 1),(W 2 0)] [none] [4,5,6] [42,39,3] 118 true (.fail 4)
theorem Ee:aL prog f233 (fun _=>none) [.ref 5, .ref 3, .ref 1, .ref 1]=al0:=by kernel_rfl
def vD:Tr:=.retr [] 5
def vF:Tr:=.need (.strow 3 1 (.k (.int .i64 (0))) 0 [(.u 4 0)]) (.store 118 (.tmp 3) (.tmp 7)) 0 false vD
def vA:Tr:=.need (.call 234 [(.agg [(U 0 0),(U 0 1),(U 0 2),(U 0 3),(U 0 4)]),(.agg [(U 1 0),(U 1 1),(U 1 2)]),(W 2 0)] [none]) (.call ⟨.value (.func 234),#[(.tmp 4),(.tmp 5),(.tmp 6)],#[42,39,3]⟩) 118 true vF
theorem xS:QZ prog f233 (fun _=>none) [.ref 5, .ref 3, .ref 1] 118 1=vA:=by kernel_rfl
def au1:Tr:=aM 21 [(G5 0)] [none] [8] [42] 55 true (bA .neq 55 9 0 3 0 4 (.split (.u 4 0) (.ret [(.one (.c (.k (.slice none 0 0)))),(WK 2)]) (aM 160 [(G5 0),(G3 1),(W 2 0)] [none,none] [11,12,13] [42,39,3] 130 true (.ret [(W 5 0),(W 6 0)]))))
theorem HM:aL prog f72 (fun _=>none) [.v (some 5), .v (some 3), .v none]=au1:=by kernel_rfl
theorem yO (e:List (List Rat)) (c:Rat) (y:List Rat) (x:Rat) (k:Int) (hval:aN prog 234 [fT e c y,qT x, .one (.int .i64 k)] (.pan (Qf 5))):aN prog 233 [(.one (.bK (fC e c y)):aF),(.one (.bK (qC x)):aF),(.one (.bK ([.int .i64 k])):aF),(.one (.bK ([.exact (.slice none 0 0)])):aF)] (.pan (Qf 5)):=by
 refine dvr (ins:=[.ref (fC e c y), .ref (qC x), .ref ([.int .i64 k]), .ref ([.exact (.slice none 0 0)])]) func233 Ee ?_;exact vcp hval rfl
theorem Bc (e:List (List Rat)) (c:Rat) (y:List Rat) (x:Rat) (k:Int) (R:VS) (hval:aN prog 234 [fT e c y,qT x, .one (.int .i64 k)] (.ret [.one (.slice 6 (vS R))])):Bp prog 233 118 [(.one (.bK (fC e c y)):aF),(.one (.bK (qC x)):aF),(.one (.bK ([.int .i64 k])):aF)] ([.exact (.slice none 0 0)]) [] ([.slice 6 (vS R)]):=by
 refine Ti (a1:=[.ref 5, .ref 3, .ref 1]) (i1:=[.ref (fC e c y), .ref (qC x), .ref ([.int .i64 k])]) (n:=1) (hints:=(fun _=>none)) fo func233 ⟨rfl,rfl,rfl,trivial⟩ rfl rfl ?_;rw [xS];dsimp only [List.map,In.env,aA,aB];apply aC hval rfl;dsimp only [aA,aB];refine EY (ts:=[[.exact (.slice none 0 0)]]) (us:=[[.slice 6 (vS R)]]) rfl rfl (by omega) (cells:=[.exact (.slice none 0 0)]) rfl rfl ?_;dsimp only [aA,aB];exact Ji rfl rfl
set_option maxRecDepth 100000 in
set_option maxHeartbeats 1000000 in
theorem An (M:Nat→Prop) (w:World) (hM:eF M w) (e:List (List Rat)) (c:Rat) (y:List Rat) (x:Rat) (k er:Int) (cs':List aE)
  (hcl:(cs' = [.exact (.slice none 0 0)]∧aN prog 233 [.one (.bK (fC e c y)), .one (.bK (qC x)), .one (.bK [.int .i64 k]), .one (.bK [.exact (.slice none 0 0)])] (.pan (Qf er)))∨(er=0∧Bp prog 233 118 [.one (.bK (fC e c y)), .one (.bK (qC x)), .one (.bK [.int .i64 k])] [.exact (.slice none 0 0)] [] cs')) (hc1:cs'.length=1)
  (u0 u1 u2 u3 u4 r0 r1 r2:Value) (hf:aX M w (fC e c y) [u0,u1,u2,u3,u4]) (hr:aX M w (qC x) [r0,r1,r2]) :
  Calls prog 160 #[.agg #[u0,u1,u2,u3,u4], .agg #[r0,r1,r2], .int .i64 k] w fun e w'=>Below w.heap.size w w'∧∃ v,e = .returned (.tuple #[v, .int .i64 er])∧aX M w' cs' [v]:=by
 have hmf:∀ (fn:Fn) (first cap:Array Value) (w:World),(Instr.makeFunc fn first cap).run prog w = .ok (.func fn first cap) w:=fun _ _ _ _=>rfl;obtain ⟨n0,hn0⟩:∃ n0,w.heap.size=n0:=⟨_,rfl⟩
 obtain ⟨o0,o1,o2,o3,o4⟩:u0.oneCell'=true∧u1.oneCell'=true∧u2.oneCell'=true∧u3.oneCell'=true∧u4.oneCell'=true:=by have:=hf.one;exact ⟨this _ (by simp),this _ (by simp),this _ (by simp),this _ (by simp),this _ (by simp)⟩
 obtain ⟨p0,p1,p2⟩:r0.oneCell'=true∧r1.oneCell'=true∧r2.oneCell'=true:=by have:=hr.one;exact ⟨this _ (by simp),this _ (by simp),this _ (by simp)⟩
 refine calls_of_wp func160 rfl ?_;simp only [ntmps160,List.size_toArray,List.length_cons,List.length_nil,Nat.reduceAdd,Nat.reduceSub,Array.replicate_succ,Array.replicate_zero,List.push_toArray,List.append_toArray,List.nil_append,List.cons_append];obtain ⟨Wa,hWa⟩:∃ Wa,((((w.alloc (.cells #[u0,u1,u2,u3,u4] 42)).alloc (.cells #[r0,r1,r2] 39)).alloc (.cells #[.int .i64 k] 3)).alloc (.cells #[.slice none 0 0] 118))=Wa:=⟨_,rfl⟩
 have hsa:Wa.heap.size=n0+4:=by rw [←hWa];simp [hn0]
 have hBa:Below w.heap.size w Wa:=by
  rw [←hWa];exact ((((Below.refl _ w).alloc (by omega) _).alloc (by simp) _).alloc (by simp;omega) _).alloc (by simp;omega) _
 have hF:Wa.heap[n0]? = some (.cells #[u0,u1,u2,u3,u4] 42 (0,0)):=by rw [←hWa,heap_alloc_old _ _ _ (by simp;omega),heap_alloc_old _ _ _ (by simp;omega),heap_alloc_old _ _ _ (by simp;omega),←hn0];exact heap_alloc_new w _
 have hR:Wa.heap[n0+1]? = some (.cells #[r0,r1,r2] 39 (0,0)):=by
  rw [←hWa,heap_alloc_old _ _ _ (by simp;omega),heap_alloc_old _ _ _ (by simp;omega)];have:=heap_alloc_new (w.alloc (.cells #[u0,u1,u2,u3,u4] 42)) (.cells #[r0,r1,r2] 39)
  rwa [World.size_alloc,hn0] at this
 have hK:Wa.heap[n0+2]? = some (.cells #[.int .i64 k] 3 (0,0)):=by
  rw [←hWa,heap_alloc_old _ _ _ (by simp;omega)];have:=heap_alloc_new ((w.alloc (.cells #[u0,u1,u2,u3,u4] 42)).alloc (.cells #[r0,r1,r2] 39)) (.cells #[.int .i64 k] 3)
  rwa [World.size_alloc,World.size_alloc,hn0] at this
 have hA:Wa.heap[n0+3]? = some (.cells #[.slice none 0 0] 118 (0,0)):=by
  rw [←hWa];have:=heap_alloc_new (((w.alloc (.cells #[u0,u1,u2,u3,u4] 42)).alloc (.cells #[r0,r1,r2] 39)).alloc (.cells #[.int .i64 k] 3)) (.cells #[.slice none 0 0] 118)
  rwa [World.size_alloc,World.size_alloc,World.size_alloc,hn0] at this
 have hMA:¬ M (n0+3):=fun h=>by have:=hM.1 _ h;omega
 have hk2:cD M w (fun b=>M b∨b=n0+3) Wa:=fun b o hb ho _=>by
  have hl:=(dH.1 ho).1;exact ⟨fun h=>h.elim hb (by omega),(hBa.block b hl).trans ho⟩
 have hM2:eF (fun b=>M b∨b=n0+3) Wa:=⟨fun b hb=>by
  rcases hb with h | h
  ·have:=hM.1 b h;omega
  ·omega,hM.2.jI hk2⟩
 have hnm:∀ b,n0≤b→b<n0+3→¬ (M b∨b=n0+3):=fun b h1 h2 h=>h.elim (fun h=>by have:=hM.1 b h;omega) (by omega)
 have hca:=Ks 233 (cB (by kernel_rfl)) M Wa (n0+3) 118 #[.slice none 0 0] [.exact (.slice none 0 0)] cs' [.one (.bK (fC e c y)), .one (.bK (qC x)), .one (.bK [.int .i64 k])] [.pointer (some ⟨n0,0,none⟩), .pointer (some ⟨n0+1,0,none⟩), .pointer (some ⟨n0+1+1,0,none⟩)] er hM2 hMA hA
  ⟨⟨n0,0,_,_,_,rfl,hnm _ (by omega) (by omega),hF,hf.mono hk2⟩,⟨n0+1,0,_,_,_,rfl,hnm _ (by omega) (by omega),hR,hr.mono hk2⟩,⟨n0+2,0,_,_,_,rfl,hnm _ (by omega) (by omega),hK,⟨⟨rfl,rfl⟩,trivial⟩⟩,trivial⟩ (fun _ _=>⟨⟨rfl,rfl⟩,trivial⟩) hcl
 simp only [aA,aB] at hca
 go_wp2_with (go_at_call 121;refine hca.mono ?_)
 rintro e w3 ⟨rfl,hg,us,hus,hrus⟩
 obtain ⟨v,rfl⟩:∃ v,us = #[v]:=by
  have:=hrus.length;rw [hc1] at this
  match us,this with
  | ⟨[v]⟩,_=>exact ⟨v,rfl⟩
 have cv:w3.cell? ⟨n0+3,0,none⟩=some v:=aG hus rfl;have hv1:v.oneCell'=true:=hrus.one v (by simp);have hfr:=an8 hus 0
 go_wp2
 have st1:Sem.run prog (storeCells ⟨n0+1+1+1,0,none⟩ [v]) w3 = .ok () (w3.setRow (n0+3) #[v]):=by
  have:=kH (P:=prog) (j:=0) hus (by simp) hv1
  simpa [storeCells,Addr.add] using this
 rw [st1];have hs9:(w3.setRow (n0+3) #[v]).heap[n0+3]? = some (.cells #[v] 118 (0,0)):=setRow_heap _ _ _ _ _ _ hus
 have hbw:Below w.heap.size w w3:=⟨by rw [hg.os,hBa.os],by rw [hg.tape,hBa.tape],by rw [hg.output,hBa.output],by have:=hg.size;omega,fun j hj=>by
  rw [hg.block j (by omega) (fun e=>by simp only [aJ] at e;omega),hBa.block j hj]⟩
 have hb9:Below w.heap.size w (w3.setRow (n0+3) #[v]):=below_setRow hbw _
 have hk9:cD (fun b=>M b∨b=n0+3) w3 M (w3.setRow (n0+3) #[v]):=fun b o hb ho _=>
  ⟨fun h=>hb (.inl h),by rw [setRow_other _ _ _ _ (fun e=>hb (.inr e))];exact ho⟩
 have hy9:=hrus.mono hk9;generalize w3.setRow (n0+3) #[v]=W9 at *;have t0:W9.cell? ⟨n0+3,0,none⟩=some v:=aG hs9 rfl;clear st1
 go_wp2
 simp [bodyPost,results,show f160.results = #[.cell 6 118, .tmp 7] from rfl,go_sem,t0];exact ⟨hb9,hy9⟩
def HB (v:Option VS):VS×Int:=match v with | some v=>(v,0) | none=>([],5)
theorem IW (e:List (List Rat)) (c:Rat) (y:List Rat) (x:Rat) (k:Int) (v:Option VS) (hval:aN prog 234 [fT e c y,qT x, .one (.int .i64 k)] (aw1 v)) :
  aN prog 160 [fT e c y,qT x, .one (.int .i64 k)] (.ret [.one (.slice 6 (vS (HB v).1)), .one (.int .i64 (HB v).2)]):=by
 refine ⟨cB (by kernel_rfl),fun M w vs hM hv=>?_⟩
 match vs,hv with
 | [a,xv,kv],hv=>
   obtain ⟨us,rfl,hus⟩:=hv.1;obtain ⟨u0,u1,u2,u3,u4,rfl⟩:=aP4 hus;obtain ⟨xs,rfl,hxs⟩:=hv.2.1;obtain ⟨r0,r1,r2,rfl⟩:=Xb hxs;have hk:kv = .int .i64 k:=hv.2.2.1.1;subst hk;cases v with
   | some R=>
     refine (An M w hM e c y x k 0 [.slice 6 (vS R)] (.inr ⟨rfl,Bc e c y x k R hval⟩) rfl u0 u1 u2 u3 u4 r0 r1 r2 hus hxs).mono ?_;rintro r w' ⟨hb,v,rfl,hr⟩;exact ⟨hb,[v, .int .i64 0],rfl,hr.1,⟨rfl,rfl⟩,trivial⟩
   | none=>
     refine (An M w hM e c y x k 5 [.exact (.slice none 0 0)] (.inl ⟨rfl,yO e c y x k hval⟩) rfl u0 u1 u2 u3 u4 r0 r1 r2 hus hxs).mono ?_;rintro r w' ⟨hb,v,rfl,hr⟩;exact ⟨hb,[v, .int .i64 5],rfl,aE.Sub.nil.rep hr.1,⟨rfl,rfl⟩,trivial⟩
 | [],hv=>exact hv.elim
 | [_],hv=>exact hv.2.elim
 | [_,_],hv=>exact hv.2.2.elim
 | _::_::_::_::_,hv=>exact hv.2.2.2.elim
theorem Ep (e:List (List Rat)) (c:Rat) (y:List Rat) (x:Rat) (k:Int) (v:Option VS) (hck:aN prog 21 [fT e c y] (.ret [.one (.int .i64 0)])) (hval:aN prog 234 [fT e c y,qT x, .one (.int .i64 k)] (aw1 v)):aN prog 72 [(fT e c y:aF),(qT x:aF),(.one (.int .i64 k):aF)] (.ret [.one (.slice 6 (vS (HB v).1)), .one (.int .i64 (HB v).2)]):=by
 refine cM func72 HM ?_;apply aC hck rfl;dsimp only [aA,aB];apply vn gI rfl;dsimp only [aA,aB];refine vs _ rfl ?_ ?_<;>intro h2
 ·exact absurd rfl h2
 apply aC (IW e c y x k v hval) rfl;exact aK rfl
end Go.Sy
namespace Go.Sy
open Go Go.Proofs Tryz Ord
structure bc0 (E:List (List Rat)) (ER:List (List RQ)) (x:Rat) (k:Int) (H:Nat) (c:RQ):Prop where
 re:aN prog 43 [.one (eR ER),lI c] (.ret [lI (jJ E c.q).1, .one (.int .i64 (jJ E c.q).2)])
 st:∀ aH st,dN (bW E c.q) (E.length-1) (aZ E c.q)=some (aH,st)→0<st∧Fit 2097152 aH∧Fit 2097152 (dQ aH x c.q)
 mx:∀ aH st,dN (bW E c.q) (E.length-1) (aZ E c.q)=some (aH,st)→∀ u:RQ,u.q=dQ aH x c.q→aN prog 61 [.one (eR ER),lI c,lI u, .one (.int .i64 k)] (.ret [.one (.slice 1 (ZX E c.q aH st (dQ aH x c.q) k).1), .one (.int .i64 (ZX E c.q aH st (dQ aH x c.q) k).2)])
 ent:∀ aH st N,dN (bW E c.q) (E.length-1) (aZ E c.q)=some (aH,st)→kJ E c.q aH st (dQ aH x c.q) (E.length-1-1) k=some N→∀ d,d<E.length-1→∀ l,l<E.length-1 →
  Fit H (AO E c.q aH st (dQ aH x c.q) k N d l).1∧Fit H (AO E c.q aH st (dQ aH x c.q) k N d l).2
structure bg6 (E:List (List Rat)) (ER:List (List RQ)) (x:Rat) (k:Int) (H W:Nat) (Inv:Nat→RQ→VS→Prop):Prop where
 PR:∀ f c v,Inv f c v→Fit 1024 c.q∧v.length=E.length-1∧∀ p∈v,Fit W p.1∧Fit W p.2
 hop:∀ f c v,Inv f c v→c.q≠x→bc0 E ER x k H c
 next:∀ f c v t M,Inv (f+1) c v→c.q≠x→vV E x k c.q=some (t,M)→Inv f (.of (c.q+t)) (pC (E.length-1) k M v)
open Go Go.Proofs Tryz Ord
def Xk (q:Rat):Nat:=(yW (q.num.natAbs:Int)).length+(yW (q.den:Int)).length
theorem Ul {T ty:TypeId} {x:Operand} {l:List UInt8} (hu:prog.underlying T=some .string):aV prog (.call ⟨.builtin .len,#[x],#[T]⟩) ty [bS l] (.one (.int .i64 l.length)):=
 PN hu (by show l.toArray.size=_;simp)
theorem ar0 (a:RQ) (H:Nat) (hf:Fit H a.q) (hH:H≤1073741824:=by omega):aN prog 159 [(lI a:aF)] (.ret [.one (.int .i64 (Xk a.q))]):=by
 refine cM func159 ah5 ?_;have h1:=Ix (z:=(a.q.num.natAbs:Int)) (H:=H) (by rw [Int.natAbs_natCast];exact hf.1);have h2:=Ix (z:=(a.q.den:Int)) (H:=H) (by rw [Int.natAbs_natCast];exact hf.2);apply aC (Mj a.q.num) rfl;dsimp only [aA,aB];apply aC (Jp (a.q.num.natAbs:Int) H (by rw [Int.natAbs_natCast];exact hf.1)) rfl;dsimp only [aA,aB];apply vn (Ul un9) rfl;dsimp only [aA,aB];apply aC (kI a) rfl;dsimp only [aA,aB];apply aC (Jp (a.q.den:Int) H (by rw [Int.natAbs_natCast];exact hf.2)) rfl;dsimp only [aA,aB];apply vn (Ul un9) rfl;dsimp only [aA,aB];apply vn (aD) rfl;dsimp only [aA,aB];rw [show ((yW (a.q.num.natAbs:Int)).length:Int)+((yW (a.q.den:Int)).length:Int)=(Xk a.q:Int) by unfold Xk;omega];exact aK rfl
def Ml (x c:RQ):Bool:=if (Xk x.q:Int)≤6 then decide (lS (x.q-c.q).abs ((1:Int):Rat)≤0) else false
theorem WH (x c:RQ) (hx:Fit 1024 x.q) (hc:Fit 1024 c.q):aN prog 70 [(lI x:aF),(lI c:aF)] (.ret [.one (.bool (Ml x c))]):=by
 refine cM func70 Vh ?_;apply aC (ar0 x 1024 hx) rfl;dsimp only [aA,aB];apply vn iZ rfl;dsimp only [aA,aB];refine vs _ rfl ?_ ?_<;>intro h2
 ·apply aC (an3 x c 1024 1024 hx hc) rfl;dsimp only [aA,aB];apply aC (BC (.of (x.q-c.q))) rfl;dsimp only [aA,aB];apply aC (lD 1) rfl;dsimp only [aA,aB];apply aC (Kd (.of (x.q-c.q).abs) (.of ((1:Int):Rat)) 4096 64 (jV ((hx.sub hc).mono (by decide))) (Fit.int (by omega) (by omega))) rfl;dsimp only [aA,aB];apply vn iZ rfl;dsimp only [aA,aB];rw [show Ml x c=decide (lS (x.q-c.q).abs ((1:Int):Rat)≤0) from if_pos h2];exact aK rfl
 rw [show Ml x c=false from if_neg h2];exact aK rfl
theorem Dv (a b:Rat):jD [a,b] 2=if b<a then b else a:=by simp [jD]
theorem De (a b:Rat):iK [a,b] 2=if a<b then b else a:=by simp [iK]
theorem Bi (q:Rat):eU q*2=q:=by
 unfold eU;rw [show mkRat 1 (2^1)=1/2 by decide +kernel];grind
theorem Sf {t a:Rat} (h:t.abs≤a):-a≤t∧t≤a:=by
 unfold Rat.abs at h;split at h<;>constructor<;>grind
theorem Ok {aH x c:Rat} (h:(x-c).abs*2≤aH):dQ aH x c=x-c:=by
 have e:=Bi aH;unfold dQ;rw [Dv,De];generalize eU aH=a at *;generalize x-c=d at *;obtain ⟨h1,h2⟩:=Sf (t:=d) (a:=a) (by grind);split
 ·split<;>grind
 ·split<;>grind
theorem kG.sub {x c:Rat} (hx:kG x) (hc:kG c):vE (x-c):=by
 have h:=(hx.bd.mono (E:=x.den*c.den) (Nat.dvd_mul_right _ _) (bB _)).sub (Nat.mul_ne_zero (kZ x) (kZ c)) (hc.bd.mono (Nat.dvd_mul_left _ _) (bB _));refine ⟨Nat.le_trans (Nat.le_of_dvd (Nat.mul_pos x.den_pos c.den_pos) h.1) (Nat.le_trans (Nat.mul_le_mul hx.d hc.d) (by decide)),Nat.le_trans h.2 (Nat.mul_le_mul_right _ (by omega))⟩
theorem Jy {E:List (List Rat)} {x c t:Rat} {k:Int} {M:Nat→Nat→Rat×Rat} (h:vV E x k c=some (t,M)):∃ aH st N,dN (bW E c) (E.length-1) (aZ E c)=some (aH,st)∧kJ E c aH st (dQ aH x c) (E.length-1-1) k=some N∧t=dQ aH x c∧M=AO E c aH st (dQ aH x c) k N:=by
 obtain ⟨rv,hv⟩:∃ rv,dN (bW E c) (E.length-1) (aZ E c)=rv:=⟨_,rfl⟩
 rcases rv with _ | ⟨aH,st⟩
 ·rw [CH hv] at h;cases h
 obtain ⟨no,hn⟩:∃ no,kJ E c aH st (dQ aH x c) (E.length-1-1) k=no:=⟨_,rfl⟩
 rcases no with _ | N
 ·rw [BQ hv hn] at h;cases h
 rw [Gd hv hn] at h;obtain ⟨h1,h2⟩:=Prod.mk.inj (Option.some.inj h);exact ⟨aH,st,N,hv,hn,h1.symm,h2.symm⟩
theorem LR {q:Rat} {H k:Nat} (h:Fit H q) (hk:k≤256:=by omega):Fit (H+257+257) (pB q k):=(Bl (h.mul (mN hk))).mul (kL hk)
theorem Rg {q:Rat} {H k:Nat} (h:Fit H q) (hk:k≤256:=by omega):Fit (H+257+257) (PS q k):=by
 unfold PS;rw [Rat.intCast_neg];exact (Bl (h.mul (mN hk)).neg).neg.mul (kL hk)
theorem SU {m H W d:Nat} {k:Int} {M:Nat→Nat→Rat×Rat} {v:VS} (hk:k≤256) (hH:1≤H) (hM:∀ l,l<m→Fit H (M d l).1∧Fit H (M d l).2) (hvl:v.length=m) (hv:∀ p∈v,Fit W p.1∧Fit W p.2):Fit (m*(H+W+1)+1+257+257) (zN m k M v d).1∧Fit (m*(H+W+1)+1+257+257) (zN m k M v d).2:=by
 obtain ⟨h1,h2⟩:=Cj (M:=M d) (v:=fun l=>v.getD l (0,0)) (m:=m) (W:=W) hH hM (fun l hl=>hv _ (cS (xW))) m (bB _);exact ⟨LR h1,Rg h2⟩
theorem Il {m K:Nat} (h:m≤4:=by omega) (hK:K≤12000514:=by omega):m*K+1+257+257≤50000000:=by
 have h1:=Nat.mul_le_mul h hK;have h2:4*12000514=48002056:=by decide
 rw [h2] at h1;generalize m*K=z at *;omega
theorem RE {E:List (List Rat)} {x:Rat} {k:Int} {H W:Nat} {Inv:Nat→Rat→VS→Prop} (P:Mg E x k H W Inv) {w:VS}:∀ f c v,Inv f c v→gE E x k f c v=some w→∃ g c',Inv g c' w:=by
 intro f
 induction f with
 | zero=>
   intro c v hI h;by_cases hc:c=x
   ·rw [hc,jU] at h;obtain rfl:=Option.some.inj h;exact ⟨_,_,hI⟩
   ·rw [mK hc] at h;cases h
 | succ f ih=>
   intro c v hI h;by_cases hc:c=x
   ·rw [hc,jU] at h;obtain rfl:=Option.some.inj h;exact ⟨_,_,hI⟩
   ·cases hm:vV E x k c with
    | none=>rw [mO _ hc hm] at h;cases h
    | some z=>
      obtain ⟨t,M⟩:=z;rw [mW f hc hm] at h;exact ih _ _ (P.next f c v t M hI hc hm) h
section
variable {E:List (List Rat)} {ER:List (List RQ)} {X:Rat} {XR:RQ}
def bb4 (E:List (List Rat)) (X x:Rat) (v0:VS) (f:Nat) (c:Rat) (v:VS):Prop:=(f=64∧c=X∧v=v0)∨(f=63∧c=x∧v.length=E.length-1∧∀ p∈v,Fit 50000000 p.1∧Fit 50000000 p.2)
structure MO (E:List (List Rat)) (X x:Rat) (v0:VS):Prop where
 hr:kV E X
 xb:kG x
 vl:v0.length=E.length-1
 vf:∀ p∈v0,Fit 513 p.1∧Fit 513 p.2
 re:∀ aH st,dN (bW E X) (E.length-1) (aZ E X)=some (aH,st)→st≤24∧(x-X).abs*2≤aH
theorem MO.step {x:Rat} {v0:VS} {k:Int} (h:SmallX E ER X XR) (N:MO E X x v0) (hk:k≤256) {aH:Rat} {st:Nat} (hv:dN (bW E X) (E.length-1) (aZ E X)=some (aH,st)):dQ aH x X=x-X∧vN E X aH st (dQ aH x X) k∧Fit 2097152 aH∧0<st:=by
 obtain ⟨h1,h2⟩:=N.re aH st hv;have e:=Ok h2;obtain ⟨l2,l5,_,_⟩:=N.hr.facts;obtain ⟨hh,hh62,hrho,_,hW⟩:=iJ hv;have ht:vE (x-X):=N.xb.sub h.xb;refine ⟨e,by rw [e];exact Zr N.hr hv ht h2 hk,by rw [hrho];exact (iX ht hh62 (n:=1) (d:=0) (by omega) (by omega) (bB _)).o1,by omega⟩
theorem MO.way {x:Rat} {v0:VS} {k:Int} (h:SmallX E ER X XR) (N:MO E X x v0) (hk:k≤256):Mg E x k 12000000 50000000 (bb4 E X x v0):=by
 obtain ⟨l2,l5,_,_⟩:=N.hr.facts;refine ⟨fun f c v hI=>?_,fun f c v hI hcx=>?_,fun f c v t M hI hcx hm=>?_⟩
 ·rcases hI with ⟨rfl,rfl,rfl⟩ | ⟨rfl,rfl,hl,hf⟩
  ·exact ⟨h.xb.fit.mono (by omega),N.vl,fun p hp=>⟨(N.vf p hp).1.mono (by omega),(N.vf p hp).2.mono (by omega)⟩⟩
  ·exact ⟨N.xb.fit.mono (by omega),hl,hf⟩
 ·rcases hI with ⟨rfl,rfl,rfl⟩ | ⟨rfl,rfl,hl,hf⟩
  ·refine ⟨Fp h N.hr,yC h N.hr,fun aH st hv=>(N.step h hk hv).2.2.1,fun aH st hv=>?_,fun aH st hv=>?_,fun aH st n hv hn d hd l hl=>?_⟩
   ·exact FN (h.Zo N.hr (N.step h hk hv).2.1)
   ·exact (N.step h hk hv).2.1.tf.mono (by omega)
   ·exact h.GB N.hr (N.step h hk hv).2.1 hn hd hl
  ·exact absurd rfl hcx
 ·rcases hI with ⟨hf,rfl,rfl⟩ | ⟨_,rfl,hl,hf⟩
  ·obtain ⟨aH,st,n,hv,hn,rfl,rfl⟩:=Jy hm;obtain ⟨e,S,_,_⟩:=N.step h hk hv;refine .inr ⟨by omega,by rw [e];grind,by rw [pC,aP,uG],fun p hp=>?_⟩;obtain ⟨d,hd,rfl⟩:=gT.1 hp;obtain ⟨f1,f2⟩:=SU (d:=d) (H:=12000000) (W:=513) (M:=AO E c aH st (dQ aH x c) k n) hk (by omega) (fun l hl=>h.GB N.hr S hn (List.mem_range.1 hd) hl) N.vl N.vf;exact ⟨f1.mono (Il),f2.mono (Il)⟩
  ·exact absurd rfl hcx
end
end Go.Sy
