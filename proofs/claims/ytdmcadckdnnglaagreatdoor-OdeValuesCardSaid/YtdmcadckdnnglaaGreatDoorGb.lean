/- Part. -/
import Derived.Test.YtdmcadckdnnglaaGreatDoorYa
set_option linter.all false
namespace Go.Sy
open Go Go.Proofs Tryz Ord
def HK:Tr:=.ret [(tF false)]
def ay3:Tr:=aJ 44 [(G3 0),(G4 1)] [none] [6,8] [39,49] 4 false (.split (.u 2 0) (aJ 44 [(.agg [(U 0 3),(U 0 4),(U 0 5)]),(.agg [(U 1 4),(U 1 5),(U 1 6),(U 1 7)])] [none] [12,14] [39,49] 4 true (.ret [(W 3 0)])) HK)
theorem Ki:aL prog f77 (fun _=>none) [.v (some 6), .v (some 8)]=ay3:=by kernel_rfl
def aK3:Tr:=.need (.make [(.slice none 0 0),(.bool false),(.slice none 0 0)] 56 (.u 0 0) (.u 0 0)) (.makeSlice 40 (tT 6) (tT 6)) 40 false (.need (.call 68 [(WK 1)] [(some 3)]) (.call ⟨.value (.func 68),#[(.const (I3 1))],#[2]⟩) 39 true (.need (.idx 2 (.u 1 0)) (.indexAddr 40 (tT 8) (tT 9)) 0 false (.need (.strow 2 3 (.u 1 0) 0 [(.u 3 0),(.u 3 1),(.u 3 2)]) (.store 39 (tT 11) (tT 10)) 0 false (.ret [(.one (.c (.sr 3 4)))]))))
theorem ar0:aL prog f266 (fun _=>none) [.v none, .v none]=aK3:=by kernel_rfl
def aK9:Tr:=.need (.make [(.int .i64 0),(.slice none 0 0),(.int .i64 0),(.slice none 0 0)] 64 (.u 0 0) (.u 0 0)) (.makeSlice 50 (tT 6) (tT 6)) 50 false (.need (.call 50 [(WK 1)] [(some 4)]) (.call ⟨.value (.func 50),#[(.const (I3 1))],#[2]⟩) 49 true (.need (.idx 2 (.u 1 0)) (.indexAddr 50 (tT 8) (tT 9)) 0 false (.need (.strow 2 4 (.u 1 0) 0 [(.u 3 0),(.u 3 1),(.u 3 2),(.u 3 3)]) (.store 49 (tT 11) (tT 10)) 0 false (.ret [(.one (.c (.sr 4 4)))]))))
theorem ag9:aL prog f151 (fun _=>none) [.v none, .v none]=aK9:=by kernel_rfl
theorem Bo (a b:Rat) (c d:RQ) (B:Nat) (ha:Fit B a) (hb:Fit B b) (hc:Fit B c.q) (hd:Fit B d.q) (hB:B≤34359738360:=by omega):aM prog 77 [(Cc a b:aE),(tR c d:aE)] (.ret [.one (.bool (decide (a=c.q∧b=d.q)))]):=by
 refine bZ func77 Ki ?_;apply aA (Pm a c B ha hc hB) rfl;refine vs _ rfl ?_ ?_<;>intro h1
 ·apply aA (Pm b d B hb hd hB) rfl;dsimp only [aD,aC];rw [show decide (a=c.q∧b=d.q)=decide (b=d.q) by rw [decide_eq_decide];exact ⟨And.right,fun h=>⟨h1,h⟩⟩];exact aK rfl
 rw [show decide (a=c.q∧b=d.q)=false from decide_eq_false fun h=>h1 h.1];exact aK rfl
def bR (n i:Nat):List Rat:=(List.replicate n 0).set i 1
theorem YI (n i:Nat):aY (aY aG.Sub) ((List.replicate n z3).set i (qC 1)) ((bR n i).map qC):=by
 rw [bR,List.map_set,List.map_replicate];exact uP ⟨aG.Sub.same,aG.Sub.same,aG.Sub.same,trivial⟩ _ (rW eV n)
def zH (n i:Nat):List RQ:=(List.replicate n .nil).set i (.of 1)
theorem WC (n i:Nat):aY (aY aG.Sub) ((List.replicate n z4).set i (rC (.of 1))) ((zH n i).map rC):=by
 rw [zH,List.map_set,List.map_replicate];exact uP ⟨aG.Sub.same,aG.Sub.same,aG.Sub.same,aG.Sub.same,trivial⟩ _ (rW eI n)
theorem NJ (n i:Nat):(zH n i).map RQ.q=bR n i:=by
 rw [zH,bR,List.map_set,List.map_replicate];rfl
theorem ab6 (n i:Nat) (hi:i<n) (hn:n≤64):aM prog 266 [(.one (.int .i64 n):aE),(.one (.int .i64 i):aE)] (.ret [.one (sQ (bR n i))]):=by
 refine bZ func266 ar0 ?_;refine tQ (n:=n) (m:=n) (us:=List.replicate n z3) rfl rfl rfl (bC _) (by omega) (by simp only [maxLen];omega) ?_;apply aA (nQ 1) rfl;refine kR rfl rfl (by omega) (by rw [List.length_replicate];omega) ?_;refine EX (ts:=List.replicate n z3) (us:=(List.replicate n z3).set i (qC 1)) rfl rfl (by omega) (cells:=z3) (by rw [Int.toNat_natCast,List.getElem?_replicate,if_pos (by omega)]) (by rw [Int.toNat_natCast];rfl) ?_;exact dA ⟨aG.Sub.slice (YI n i),trivial⟩
theorem Oh (n i:Nat) (hi:i<n:=by omega) (hn:n≤64:=by omega):aM prog 151 [(.one (.int .i64 n):aE),(.one (.int .i64 i):aE)] (.ret [.one (sR (zH n i))]):=by
 refine bZ func151 ag9 ?_;refine tQ (n:=n) (m:=n) (us:=List.replicate n z4) rfl rfl rfl (bC _) (by omega) (by simp only [maxLen];omega) ?_;apply aA (gN 1) rfl;refine kR rfl rfl (by omega) (by rw [List.length_replicate];omega) ?_;refine EX (ts:=List.replicate n z4) (us:=(List.replicate n z4).set i (rC (.of 1))) rfl rfl (by omega) (cells:=z4) (by rw [Int.toNat_natCast,List.getElem?_replicate,if_pos (by omega)]) (by rw [Int.toNat_natCast];rfl) ?_;exact dA ⟨aG.Sub.slice (WC n i),trivial⟩
open Go Go.Proofs Tryz Ord
theorem Gj (n i:Nat):(bR n i).length=n:=by simp [bR]
open Go Go.Proofs Tryz Ord
def Om:Tr:=.ret [(tF true)]
def aE5:Tr:=.split (.u 8 0) (aJ 133 [(W 0 0),(W 2 0),(W 7 0),(G3 3)] [(some 3)] [13,14,15,16] [194,3,3,39] 39 false (aJ 38 [(G3 9),(G3 4)] [none] [17,18] [39,39] 3 true (aW .gtr 3 19 0 10 0 4 (.split (.u 11 0) HK (aW .add 3 10 1 7 0 3 (.back 0 [lV 6 0,lV 12 0])))))) Om
def ay9:Tr:=aW .add 3 8 1 1 0 3 (.loop 0 [(.w (.one (.c (.k (.bool false))))),lK 0] (bO .lss 3 10 9 7 0 5 0 4 aE5))
theorem Mb:aL prog f267 (fun _=>none) [.v none, .ref 1, .ref 1, .ref 3, .ref 3]=ay9:=by kernel_rfl
def lM (b aF:Rat) (n:Nat) (r goal:Rat) (d:Nat):Bool:=(List.range (d+1)).all fun i=>decide (gR b aF n i r≤goal)
set_option maxHeartbeats 1000000 in
theorem LN (a0 a1 a2 a3 a4:aG) (aF:Rat) (st:Int) (y a:List Rat) (b:Rat) (n d:Nat) (r goal:Rat) (B G:Nat) (C:∀ i,i≤d→nL B aF n i r) (hd:d≤n) (h0:aF≠0) (hb:Fit B b) (hB:B≤1073741824) (h64:64≤B) (hs1:∀ i,i≤d→dG aF n i r<1) (hgf:Fit G goal) (hG:G≤1073741824) (htf:∀ i,i≤d→Fit G (gR b aF n i r)) (hn:n<1099511627776:=by omega):aM prog 267 [(.one (.bU (Pd [a0,a1,a2,a3,a4] aF st y a b)):aE),(.one (.bU ([.int .i64 d])):aE),(.one (.bU ([.int .i64 n])):aE),(.one (.bU (qC r)):aE),(.one (.bU (qC goal)):aE)] (.ret [.one (.bool (lM b aF n r goal d))]):=by
 refine dvr (ins:=[.v (.one (.bU (Pd [a0,a1,a2,a3,a4] aF st y a b))), .ref ([.int .i64 d]), .ref ([.int .i64 n]), .ref (qC r), .ref (qC goal)]) func267 Mb ?_;apply vn (aB) rfl;refine bB {i:Nat // i≤d+1∧∀ j,j<i→gR b aF n j r≤goal} (fun g=>[.one (.bool false), .one (.int .i64 g.1)]) (fun g=>d+1-g.1) ⟨0,bV _,fun j hj=>by omega⟩ aN.rfl (fun _=>rfl) ?_;rintro ⟨i,hi,hle⟩;dsimp only [aD,aC] at hi hle ⊢;apply vn aZ rfl;refine vs _ rfl ?_ ?_<;>intro h3
 ·apply aA (Ph a0 a1 a2 a3 a4 aF st y a b n i r B (C i (by omega)) h0 hb (hs1 i (by omega)) hn h64) rfl;apply aA (tY _ _ G G (htf i (by omega)) hgf) rfl;dsimp only [aD,aC];apply vn dH rfl;refine vs _ rfl ?_ ?_<;>intro h7
  ·rw [show lM b aF n r goal d=false from by
    rw [lM,List.all_eq_false];exact ⟨i,List.mem_range.2 (by omega),by rw [decide_eq_true_iff];exact fun h=>absurd (jP.2 h) (by omega)⟩];exact aK rfl
  apply vn (aB) rfl
  exact aR rfl ⟨⟨i+1,by omega,fun j hj=>by
   rcases Nat.lt_or_ge j i with h | h
   ·exact hle j h
   ·rw [show j=i by omega];exact jP.1 (by omega)⟩,aN.rfl,by show d+1-(i+1)<d+1-i;omega⟩
 rw [show lM b aF n r goal d=true from by
  rw [lM,List.all_eq_true];exact fun j hj=>decide_eq_true (hle j (by rw [List.mem_range] at hj;omega))];exact aK rfl
open Go Go.Proofs Tryz Ord
def aB3:Tr:=.ret [(.agg [(U 0 0),(U 0 1),(U 0 2),(U 0 0),(U 0 1),(U 0 2)])]
theorem bC2:aL prog f227 (fun _=>none) [.v (some 3)]=aB3:=by kernel_rfl
def ay7:Tr:=eN 0 6 1 0 212 12 13 (dR 5 0 none 50 14 (aJ 127 [(W 0 0)] [none] [21] [44] 3 false (aJ 51 [(W 6 0),(.agg [(U 0 1),(U 0 2),(U 0 3),(U 0 4)]),(W 0 5),(W 7 0),(W 2 0),(W 3 0),(G4 4)] [(some 4)] [15,17,19,22,23,24,25] [50,49,3,3,3,3,49] 49 true (.ret [(G4 8)]))))
theorem aa9:aL prog f152 (fun _=>none) [.v (some 7), .v none, .v none, .v none, .v (some 4)]=ay7:=by kernel_rfl
abbrev plC (Q:List (List RQ)) (aF:RQ) (st:Int) (bs:List (List RQ)):List aG:=[eR Q]++rC aF ++ [.int .i64 st, .slice 1 (bs.map fun b=>[sR b])]
theorem bv4 (a:Rat):aM prog 227 [(qT a:aE)] (.ret [Cc a a]):=by
 refine bZ func227 bC2 ?_;exact aK rfl
set_option maxHeartbeats 1000000 in
theorem an3 (Q:List (List RQ)) (aF:RQ) (st l n d:Nat) (bs:List (List RQ)) (a:List RQ) (r:RQ) (B:Nat) (ha:bs[l]? = some a) (hq:∀ p∈Q,p.length<1099511627776) (C:nL B aF.q n d r.q) (hst:st≤n) (hW:Q.length-1+bE (fP Q)≤st) (hbl:bs.length<1099511627776) (haf:∀ x∈a,Fit B x.q) (h0:aF.q≠0) (hB:B≤536870912) (h64:64≤B) (hs1:dG aF.q n d r.q<1) (hql:Q.length≤64:=by omega) (hql0:1≤Q.length:=by omega) (hal:st≤a.length:=by omega) (hal2:a.length<1099511627776:=by omega) (hn:n<1073741824:=by omega) (hd:d≤n:=by omega):aM prog 152 [(.agg (plC Q aF (st:Nat) bs):aE),(.one (.int .i64 l):aE),(.one (.int .i64 n):aE),(.one (.int .i64 d):aE),(fO r:aE)] (.ret [fO (.of (gR (GP (a.map RQ.q) aF.q (st-(Q.length-1+bE (fP Q))) (Q.length-1+bE (fP Q))) aF.q n d r.q))]):=by
 refine bZ func152 aa9 ?_;apply vn (aV au8 ha (Int.toNat_natCast l)) rfl;apply vn (bG bF6) rfl;apply aA (Pa Q hq) rfl;rw [show (Q.length:Int)-1+(bE (fP Q):Nat)=((Q.length-1+bE (fP Q):Nat):Int) by omega];dsimp only [aD,aC];apply aA (aq8 a aF st (Q.length-1+bE (fP Q)) n d r B C hst hW hal hal2 haf hn hd h0 hB h64 hs1) rfl;exact aK rfl
open Go Go.Proofs Tryz Ord
def ap5:Tr:=eN 1 0 6 0 119 21 22 (dR 11 0 (some 8) 140 23 (aJ 77 [(G6 10),(G8 12)] [none] [20,24] [123,140] 4 true (.need (.prim [(W 13 0)] none) (.unOp .not 4 (tT 25)) 4 false (.split (.u 14 0) HK (aW .add 3 15 1 6 0 3 (.back 0 [lV 5 0,lV 15 0]))))))
def aL9:Tr:=.split (.u 4 0) HK (.loop 0 [(.w (.one (.c (.k (.bool false))))),lK 0] (cU 0 0 12 118 (bO .lss 3 11 13 6 0 7 0 4 (.split (.u 8 0) (eN 0 0 6 0 118 17 18 (dR 9 0 (some 6) 123 19 ap5)) Om))))
def aD0:Tr:=cU 0 0 6 118 (cU 1 0 8 119 (bO .neq 3 7 9 2 0 3 0 4 aL9))
theorem Td:aL prog f63 (fun _=>none) [.v none, .v none]=aD0:=by kernel_rfl
theorem Xl (w:List (RQ×RQ)) (B:Nat) (hw:∀ p∈w,Fit B p.1.q∧Fit B p.2.q) (hl:w.length<1099511627776) (hB:B≤34359738360:=by omega):aM prog 63 [(.one (.slice 6 (w.map fun p=>QT p.1.q p.2.q)):aE),(.one (.slice 8 (w.map fun p=>Az p.1 p.2)):aE)] (.ret [.one (.bool true)]):=by
 refine bZ func63 Td ?_;apply vn (aU tL (aP _)) rfl;apply vn (aU Vk (aP _)) rfl;apply vn gD rfl;dsimp only [aD,aC];refine vs _ rfl ?_ ?_<;>intro h3
 ·exact absurd rfl h3
 refine bB {i:Nat // i≤w.length} (fun g=>[.one (.bool false), .one (.int .i64 g.1)]) (fun g=>w.length-g.1) ⟨0,bV _⟩ aN.rfl (fun _=>rfl) ?_;rintro ⟨i,hi⟩;dsimp only [aD,aC] at hi ⊢;apply vn (aU tL (aP _)) rfl;apply vn aZ rfl;refine vs _ rfl ?_ ?_<;>intro h8
 ·obtain ⟨p,hp⟩:∃ p,w[i]? = some p:=⟨_,bI (by omega)⟩
  obtain ⟨hf1,hf2⟩:=hw p (cI hp);apply vn (aV tL hp (Int.toNat_natCast i)) rfl;dsimp only [aD,aC];apply vn (bJ Gz (by decide) (by simp) (.inl rfl)) rfl;apply vn (aV Vk hp (Int.toNat_natCast i)) rfl;apply vn (bJ av5 (by decide) (by simp) (.inl rfl)) rfl;dsimp only [aD,aC];have hk:=Bo p.1.q p.2.q p.1 p.2 B hf1 hf2 hf1 hf2 hB;rw [decide_eq_true (show p.1.q=p.1.q∧p.2.q=p.2.q from ⟨rfl,rfl⟩)] at hk;apply aA hk rfl;apply vn kW rfl;refine mH false rfl (fun h=>by cases h) (fun _=>?_);apply vn (aB) rfl;dsimp only [aD,aC];exact aR rfl ⟨⟨i+1,by omega⟩,aN.rfl,by show w.length-(i+1)<w.length-i;omega⟩
 exact aK rfl
open Go Go.Proofs Tryz Ord
theorem an2 (n l:Nat):∀ q∈bR n l,Bd (eL 999) 999 q:=fun q hq=>by
 rcases List.mem_or_eq_of_mem_set hq with h | rfl
 ·rw [(List.mem_replicate.1 h).2];exact Bd.zero
 ·exact Bd.one (by omega)
section
variable {E:List (List Rat)} {ER:List (List RQ)} {X:Rat} {XR:RQ}
theorem SmallX.as9 (h:SmallX E ER X XR) (hr:lJ E X) (l:Nat):aQ4 (bH E X) (E.length-1) (aQ E X) (bR (E.length-1) l) (dX X) sM (eL 999) 999 101:=by
 obtain ⟨h2,h5,hld,_⟩:=hr.facts;have hm:=h.RW;obtain ⟨p,hp,hp0⟩:=nG hld;exact ⟨yH X,rI _,aA0,by omega,by omega,hm,(hm p (cI hp)).2 _ (cI hp0),hld,an2 _ _,by rw [bH,aP];omega⟩
theorem SmallX.stU (h:SmallX E ER X XR) (hr:lJ E X) (l:Nat) {N:Nat} (hN:N≤4096) (h8:8≤N):iG (bN N) (bH E X) (E.length-1) (aQ E X) (bR (E.length-1) l) N:=by
 have h5:=hr.facts.2.1;exact Qz (h.as9 hr l) (aC3 h.xb hN _)
def Je:Nat:=bN 1500
theorem SmallX.yX (h:SmallX E ER X XR) (hr:lJ E X) (l:Nat):iG Je (bH E X) (E.length-1) (aQ E X) (bR (E.length-1) l) 1500:=h.stU hr l (by omega) (by omega)
end
open Go Go.Proofs Tryz Ord
section
variable {E:List (List Rat)} {ER:List (List RQ)} {X:Rat} {XR:RQ}
theorem SmallX.Ow (h:SmallX E ER X XR) (hr:lJ E X) (l n:Nat) (hl0:l<E.length-1) (hn:n≤1500) :
  aM prog 28 [.one (eR (Bn ER XR)), .one (sR (zH (E.length-1) l)), .one (.int .i64 n)] (.ret [.one (sR ((aX (bH E X) (E.length-1) (aQ E X) (bR (E.length-1) l) n).map RQ.of))]):=by
 obtain ⟨B,hBe⟩:∃ B,B=Je:=⟨_,rfl⟩
 have h64:64≤B:=by rw [hBe];decide
 have hB:B≤345160011:=by rw [hBe];decide
 obtain ⟨h2,h5,hld,_⟩:=hr.facts;obtain ⟨p,hp,hp0⟩:=nG hld;rw [←h.sh,fP,cL] at hp;obtain ⟨p0,hp1,rfl⟩:=Option.map_eq_some_iff.1 hp;rw [cL] at hp0;obtain ⟨l',hl',hl⟩:=Option.map_eq_some_iff.1 hp0;have hst:=h.yX hr l;rw [←hBe] at hst;rw [←h.sh,←hl,←NJ] at hst;have hul:(zH (E.length-1) l).length=E.length-1:=by simp [zH]
 have hd:=Qq (Bn ER XR) (zH (E.length-1) l) n 1500 B (E.length-1) l' p0 hp1 hl' (by
  rw [Bn,aP];have:=h.sim.1;rw [jI] at this;omega) hst hn h64 (fun q hq=>by
   obtain ⟨p,hp,rfl⟩:=gJ.1 hq;have hl:=(h.rq p hp).1;have:=Ae p [XR, .of ((1:Int):Rat)] p.length;simp only [List.length_cons,List.length_nil] at this;omega) (by rw [hl];exact hld)
 rw [h.sh,hl,NJ] at hd;exact hd
end
open Go Go.Proofs Tryz Ord
def az7:Tr:=.split (.u 16 0) (aJ 151 [(W 7 0),(W 8 0)] [none] [37,38] [3,3] 50 false (aJ 28 [(W 9 0),(W 17 0),(W 14 0)] [none] [36,39,41] [44,50,3] 50 true (.need (.lit 1 [[(.u 18 0)]]) (.buildSlice 212 1 #[(0,(tT 42))]) 212 false (.need (.app 1 24 (some 15) none (some 19)) (.call ⟨.builtin .append,#[(tT 34),(tT 43)],#[212,212]⟩) 212 false (aW .add 3 31 1 8 0 3 (.back 0 [lV 21 0,lV 9 0,lV 10 0,lV 11 0,lV 12 0,lV 13 0,lV 14 0, .row 20])))))) (.ret [(.agg [(U 9 0),(U 10 0),(U 11 0),(U 12 0),(U 13 0),(U 14 0),(.c (.sr 1 15))]),(tF true)])
def aR8:Tr:=aJ 43 [(W 0 0),(G4 1)] [(some 4),none] [14,15] [44,49] 87 false (aW .eql 3 22 0 4 0 4 (.split (.u 5 0) (.ret [(.agg [(U 2 0),(U 3 0),(U 3 1),(U 3 2),(U 3 3),(U 4 0),tN]),(tF false)]) (cU 0 0 25 44 (aW .sub 3 26 1 6 0 3 (.loop 0 [lK 0,lV 2 0,lV 3 0,lV 3 1,lV 3 2,lV 3 3,lV 4 0, .nilrow] (bO .lss 3 28 29 8 0 7 0 4 az7))))))
def aN3:Tr:=aJ 125 [(W 0 0),(G4 1)] [none] [9,10] [44,49] 44 true aR8
theorem bk8:aL prog f149 (fun _=>none) [.v none, .v (some 4)]=aN3:=by kernel_rfl
def wD (E:List (List Rat)) (X:Rat) (n l:Nat):List RQ:=(aX (bH E X) (E.length-1) (aQ E X) (bR (E.length-1) l) n).map RQ.of
def CG (E:List (List Rat)) (X:Rat) (n k:Nat):List (List RQ):=(List.range k).map (wD E X n)
theorem UF (E:List (List Rat)) (X:Rat) (n k:Nat):((CG E X n k).map fun b=>[sR b])=(List.range k).map fun l=>[sR (wD E X n l)]:=by rw [CG,List.map_map];rfl
set_option maxHeartbeats 1000000 in
theorem Xb (E:List (List Rat)) (ER:List (List RQ)) (X:Rat) (XR:RQ) (h:SmallX E ER X XR) (hr:lJ E X) (aF:Rat) (st:Nat) (hv:cY (bH E X) (E.length-1) (aQ E X)=some (aF,st)) (hst0:1≤st:=by omega) (hst:st≤1500:=by omega):aM prog 149 [(.one (eR ER):aE),(fO XR:aE)] (.ret [.agg (plC (Bn ER XR) (.of aF) (st:Nat) (CG E X st (E.length-1))), .one (.bool true)]):=by
 refine bZ func149 bk8 ?_;obtain ⟨B,h64,hB,hM⟩:=SU;have hre:=mQ h hr;rw [show iB E X=(.of aF,st) by unfold iB;rw [hv]] at hre;have hel:E.length=ER.length:=by have:=h.sim.1;rwa [jI] at this
 have h25:=hr.facts;apply aA (IX ER XR B (h.Mx (hM _ h.xb.d).2) h64 (by have:=h.erl;omega)) rfl;apply aA hre rfl;apply vn bK rfl;dsimp only [aD,aC];refine vs _ rfl ?_ ?_<;>intro h3
 ·exact absurd h3 (by omega)
 apply vn (aU kC (aP _)) rfl;apply vn (aH) rfl;dsimp only [aD,aC];rw [←hel,show (E.length:Int)-1=((E.length-1:Nat):Int) by omega];refine bB {l:Nat // l≤E.length-1} (fun g=>([.one (.int .i64 g.1), .one (eR (Bn ER XR))]:List aE)++(rC (.of aF)).map aE.one ++ [.one (.int .i64 st), .rows ((List.range g.1).map fun l=>[sR (wD E X st l)])]) (fun g=>E.length-1-g.1) ⟨0,bV _⟩ aN.rfl (fun _=>rfl) ?_;rintro ⟨l,hl⟩;dsimp only [aD,aC,List.map] at hl ⊢;apply vn aZ rfl;refine vs _ rfl ?_ ?_<;>intro h9
 ·apply aA (Oh (E.length-1) l) rfl;dsimp only [aD,aC];have hs:=h.Ow hr l st (by omega) hst;rw [show (aX (bH E X) (E.length-1) (aQ E X) (bR (E.length-1) l) st).map RQ.of=wD E X st l from rfl] at hs;apply aA hs rfl;apply bP (us:=[[sR (wD E X st l)]]) rfl;refine kK (xs:=List.range l) (x:=l) (f:=fun l=>[sR (wD E X st l)]) rfl rfl (by rw [oE];omega) (by simp only [maxLen];rw [oE];omega) ?_;rw [←List.range_succ];dsimp only [aD,aC];apply vn (aB) rfl;dsimp only [aD,aC];exact aR rfl ⟨⟨l+1,by omega⟩,aN.rfl,by show E.length-1-(l+1)<E.length-1-l;omega⟩
 obtain rfl:l=E.length-1:=by omega
 rw [show plC (Bn ER XR) (RQ.of aF) (st:Nat) (CG E X st (E.length-1)) = [eR (Bn ER XR)]++rC (.of aF) ++ [.int .i64 (st:Nat), .slice 1 ((List.range (E.length-1)).map fun l=>[sR (wD E X st l)])] by rw [←UF]];exact aK rfl
open Go Go.Proofs Tryz Ord
theorem vP {x y p q:Rat} (hp:0<p) (hq:0<q) (h:x*q≤y*p):x/p≤y/q:=by
 have hp0:p≠0:=by grind
 have hq0:q≠0:=by grind
 have h1:x/p*p=x:=Rat.div_mul_cancel hp0;have h2:y/q*q=y:=Rat.div_mul_cancel hq0;refine Rat.le_of_mul_le_mul_left (c:=p*q) ?_ (Rat.mul_pos hp hq);have e1:p*q*(x/p)=x*q:=by rw [show p*q*(x/p)=x/p*p*q by grind,h1]
 have e2:p*q*(y/q)=y*p:=by rw [show p*q*(y/q)=y/q*q*p by grind,h2]
 rw [e1,e2];exact h
theorem xC {x p:Rat} (hx:0≤x) (hp:0<p):0≤x/p:=by
 have:=vP (x:=0) (y:=x) hp hp (by rw [Rat.zero_mul];exact Rat.mul_nonneg hx (by grind))
 rwa [show (0:Rat)/p=0 by grind] at this
theorem Gs (z:Int):∀ d:Nat,bL (z+1) d*(z+1-d)=bL z d*(z+1)
 | 0=>by simp [bL]
 | d+1=>by
   have ih:=Gs z d
   rw [bL,bL,ih,show bL z d*(z+1)*(z+1-((d+1:Nat):Int))=bL z d*(z-d)*(z+1) by
    rw [show z+1-((d+1:Nat):Int)=z-d by omega,Int.mul_assoc,Int.mul_assoc,Int.mul_comm (z+1)]]
theorem HR {n:Nat}:∀ d:Nat,d≤n→0≤bL (n:Int) d
 | 0,_=>by simp [bL]
 | d+1,h=>by
   rw [bL];exact Int.mul_nonneg (HR d (by omega)) (by omega)
def YL (aF:Rat) (n d:Nat) (r:Rat):Rat:=((bL n d:Int):Rat)*r^(n-d)/aF^n
theorem Yf {aF r:Rat} {n d:Nat} (h0:0<aF) (hd:d≤n):YL aF (n+1) d r=YL aF n d r*dG aF n d r:=by
 have hp:aF^n≠0:=by have:=Rat.pow_pos (n:=n) h0;grind
 have hq:aF≠0:=by grind
 have hz:((((n:Int)+1-d:Int)):Rat)≠0:=Jp (by omega)
 have e:(((bL ((n+1:Nat):Int) d:Int)):Rat)*((((n:Int)+1-d:Int)):Rat)=((bL n d:Int):Rat)*((((n:Int)+1:Int)):Rat):=by
  rw [←Rat.intCast_mul,←Rat.intCast_mul,←Gs];rfl
 unfold YL dG;rw [show n+1-d=(n-d)+1 by omega,Rat.pow_succ,Rat.pow_succ];generalize (((bL ((n+1:Nat):Int) d:Int)):Rat)=f1 at *;generalize ((bL n d:Int):Rat)=f0 at *;generalize ((((n:Int)+1-d:Int)):Rat)=z at *;generalize ((((n:Int)+1:Int)):Rat)=w at *;generalize aF^n=p at *;generalize r^(n-d)=q at *;have e2:f1=f0*w/z:=by grind
 rw [e2];grind
theorem ML {aF r:Rat} {n d:Nat} (h0:0<aF) (hr:0≤r) (hd:d≤n):dG aF ((n+1:Nat):Int) d r≤dG aF n d r∧0≤dG aF n d r:=by
 have hz1:(0:Rat)<((((n+1:Nat):Int)+1-d:Int):Rat):=Rat.intCast_pos.2 (by omega);have hz0:(0:Rat)<(((n:Int)+1-d:Int):Rat):=Rat.intCast_pos.2 (by omega);have hq:=xC hr h0;refine ⟨?_,?_⟩
 ·unfold dG;refine Rat.mul_le_mul_of_nonneg_right (vP hz1 hz0 ?_) hq;rw [←Rat.intCast_mul,←Rat.intCast_mul];refine Rat.intCast_le_intCast.2 ?_
  have h1:(((n+1:Nat):Int)+1)*((n:Int)+1-d)=((n:Int)+2)*((n:Int)+1)-((n:Int)+2)*d:=by
   rw [show ((n+1:Nat):Int)+1=(n:Int)+2 by omega,Int.mul_sub]
  have h2:((n:Int)+1)*(((n+1:Nat):Int)+1-d)=((n:Int)+2)*((n:Int)+1)-((n:Int)+1)*d:=by
   rw [show ((n+1:Nat):Int)+1=(n:Int)+2 by omega,Int.mul_sub,Int.mul_comm ((n:Int)+1) ((n:Int)+2)]
  rw [h1,h2];have h3:((n:Int)+2)*d=((n:Int)+1)*d+d:=by rw [show (n:Int)+2=(n:Int)+1+1 by omega,Int.add_mul ((n:Int)+1) 1,Int.one_mul]
  omega
 ·unfold dG;exact Rat.mul_nonneg (xC (Rat.intCast_nonneg.2 (by omega)) hz0) hq
theorem Nd {b aF r:Rat} {n d:Nat} (hb:0≤b) (h0:0<aF) (hr:0≤r) (h1:dG aF n d r<1) (hd:d≤n:=by omega):gR b aF (n+1) d r≤gR b aF n d r∧dG aF ((n+1:Nat):Int) d r<1:=by
 obtain ⟨hs,hs0⟩:=ML (d:=d) h0 hr hd;have hu:=Yf (r:=r) h0 hd;have hu0:0≤YL aF n d r:=xC (Rat.mul_nonneg (Rat.intCast_nonneg.2 (HR d hd)) (Rat.pow_nonneg hr)) (Rat.pow_pos h0);have hbu:=Rat.mul_nonneg hb hu0;refine ⟨?_,by grind⟩;have t1:gR b aF (n+1) d r=b*YL aF (n+1) d r/(((1:Int):Rat)-dG aF ((n+1:Nat):Int) d r):=rfl;have t0:gR b aF n d r=b*YL aF n d r/(((1:Int):Rat)-dG aF n d r):=rfl;rw [t1,t0,hu];have one:((1:Int):Rat)=1:=by decide +kernel
 rw [one];generalize dG aF ((n+1:Nat):Int) d r=s1 at *;generalize dG aF n d r=s0 at *;generalize YL aF n d r=u at *;refine vP (by grind) (by grind) ?_
 have k1:b*(u*s0)≤b*u:=by
  have:=Rat.mul_le_mul_of_nonneg_left (a:=s0) (b:=1) (c:=b*u) (by grind) hbu
  grind
 have k2:0≤1-s0:=by grind
 have k3:=Rat.mul_le_mul_of_nonneg_right k1 k2;have k4:=Rat.mul_le_mul_of_nonneg_left (a:=1-s0) (b:=1-s1) (c:=b*u) (by grind) hbu
 grind
end Go.Sy
