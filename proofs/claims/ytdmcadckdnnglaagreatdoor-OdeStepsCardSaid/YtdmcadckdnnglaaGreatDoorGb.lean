/- Steps. -/
import Derived.Test.YtdmcadckdnnglaaGreatDoorGa
import Derived.Test.YtdmcadckdnnglaaGreatDoorWb
import Derived.Test.YtdmcadckdnnglaaGreatDoorYa
set_option linter.unusedVariables false
set_option linter.unusedSimpArgs false
namespace Go.Sy
open Go Go.Proofs Tryz Ord
def Gs:Tr:=.ret [(tF false)]
def ag4:Tr:=aK 44 [(G3 0),(G4 1)] [none] [6,8] [39,49] 4 false (.split (.u 2 0) (aK 44 [(.agg [(U 0 3),(U 0 4),(U 0 5)]),(.agg [(U 1 4),(U 1 5),(U 1 6),(U 1 7)])] [none] [12,14] [39,49] 4 true (.ret [(W 3 0)])) Gs)
theorem HT:aN prog f77 (fun _=>none) [.v (some 6), .v (some 8)]=ag4:=by kernel_rfl
def ZL:Tr:=.need (.make [(.slice none 0 0),(.bool false),(.slice none 0 0)] 56 (.u 0 0) (.u 0 0)) (.makeSlice 40 (tT 6) (tT 6)) 40 false (.need (.call 68 [(WK 1)] [(some 3)]) (.call ⟨.value (.func 68),#[(.const (I3 1))],#[2]⟩) 39 true (.need (.idx 2 (.u 1 0)) (.indexAddr 40 (tT 8) (tT 9)) 0 false (.need (.strow 2 3 (.u 1 0) 0 [(.u 3 0),(.u 3 1),(.u 3 2)]) (.store 39 (tT 11) (tT 10)) 0 false (.ret [(.one (.c (.sr 3 4)))]))))
theorem Xc:aN prog f266 (fun _=>none) [.v none, .v none]=ZL:=by kernel_rfl
def ao4:Tr:=.need (.make [(.int .i64 0),(.slice none 0 0),(.int .i64 0),(.slice none 0 0)] 64 (.u 0 0) (.u 0 0)) (.makeSlice 50 (tT 6) (tT 6)) 50 false (.need (.call 50 [(WK 1)] [(some 4)]) (.call ⟨.value (.func 50),#[(.const (I3 1))],#[2]⟩) 49 true (.need (.idx 2 (.u 1 0)) (.indexAddr 50 (tT 8) (tT 9)) 0 false (.need (.strow 2 4 (.u 1 0) 0 [(.u 3 0),(.u 3 1),(.u 3 2),(.u 3 3)]) (.store 49 (tT 11) (tT 10)) 0 false (.ret [(.one (.c (.sr 4 4)))]))))
theorem Yz:aN prog f151 (fun _=>none) [.v none, .v none]=ao4:=by kernel_rfl
theorem Im (a b:Rat) (c d:RQ) (B:Nat) (ha:Fit B a) (hb:Fit B b) (hc:Fit B c.q) (hd:Fit B d.q) (hB:B≤268435456):aM prog 77 [(OY a b:aF),(SJ c d:aF)] (.ret [.one (.bool (decide (a=c.q∧b=d.q)))]):=by
 refine aD (args:=[.v (some 6), .v (some 8)]) (ins:=[.v (OY a b), .v (SJ c d)]) (hints:=(fun _=>none)) fo (by kernel_rfl) func77 ⟨rfl,rfl,trivial⟩ ?_;rw [HT];dsimp only [List.map,In.env,aB,aA];refine aC (ML a c B ha hc hB) rfl ?_;dsimp only [aB,aA];refine vs _ rfl (fun h1=>?_) (fun h1=>?_)
 ·refine aC (ML b d B hb hd hB) rfl ?_;dsimp only [aB,aA];rw [show decide (a=c.q∧b=d.q)=decide (b=d.q) by rw [decide_eq_decide];exact ⟨And.right,fun h=>⟨h1,h⟩⟩];exact aL rfl
 rw [show decide (a=c.q∧b=d.q)=false from decide_eq_false fun h=>h1 h.1];exact aL rfl
def bK (n i:Nat):List Rat:=(List.replicate n 0).set i 1
theorem VB (n i:Nat):aY (aY aH.Sub) ((List.replicate n z3).set i (qC 1)) ((bK n i).map qC):=by
 rw [bK,List.map_set,List.map_replicate];exact sJ ⟨aH.Sub.same,aH.Sub.same,aH.Sub.same,trivial⟩ _ (qF iZ n)
def xW (n i:Nat):List RQ:=(List.replicate n .nil).set i (.of 1)
theorem SX (n i:Nat):aY (aY aH.Sub) ((List.replicate n z4).set i (rC (.of 1))) ((xW n i).map rC):=by
 rw [xW,List.map_set,List.map_replicate];exact sJ ⟨aH.Sub.same,aH.Sub.same,aH.Sub.same,aH.Sub.same,trivial⟩ _ (qF jL n)
theorem MJ (n i:Nat):(xW n i).map RQ.q=bK n i:=by
 rw [xW,bK,List.map_set,List.map_replicate];rfl
theorem Xx (n i:Nat) (hi:i<n) (hn:n≤64):aM prog 266 [(.one (.int .i64 n):aF),(.one (.int .i64 i):aF)] (.ret [.one (sQ (bK n i))]):=by
 refine aD (args:=[.v none, .v none]) (ins:=[.v (.one (.int .i64 n)), .v (.one (.int .i64 i))]) (hints:=(fun _=>none)) fo (by kernel_rfl) func266 ⟨rfl,rfl,trivial⟩ ?_;rw [Xc];dsimp only [List.map,In.env,aB,aA];refine rK (n:=n) (m:=n) (us:=List.replicate n z3) rfl rfl rfl (Nat.le_refl _) (by omega) (by simp only [maxLen];omega) ?_;dsimp only [aB,aA];refine aC (jP 1 (by omega) (by omega)) rfl ?_;dsimp only [aB,aA];refine kX rfl rfl (by omega) (by rw [List.length_replicate];omega) ?_;refine Dy (ts:=List.replicate n z3) (us:=(List.replicate n z3).set i (qC 1)) rfl rfl (by omega) (cells:=z3) (by rw [Int.toNat_natCast,List.getElem?_replicate,if_pos (by omega)]) (by rw [Int.toNat_natCast];rfl) ?_;dsimp only [aB,aA];exact eG ⟨aH.Sub.slice (VB n i),trivial⟩
theorem LJ (n i:Nat) (hi:i<n) (hn:n≤64):aM prog 151 [(.one (.int .i64 n):aF),(.one (.int .i64 i):aF)] (.ret [.one (sR (xW n i))]):=by
 refine aD (args:=[.v none, .v none]) (ins:=[.v (.one (.int .i64 n)), .v (.one (.int .i64 i))]) (hints:=(fun _=>none)) fo (by kernel_rfl) func151 ⟨rfl,rfl,trivial⟩ ?_;rw [Yz];dsimp only [List.map,In.env,aB,aA];refine rK (n:=n) (m:=n) (us:=List.replicate n z4) rfl rfl rfl (Nat.le_refl _) (by omega) (by simp only [maxLen];omega) ?_;dsimp only [aB,aA];refine aC (iL 1 (by omega) (by omega)) rfl ?_;dsimp only [aB,aA];refine kX rfl rfl (by omega) (by rw [List.length_replicate];omega) ?_;refine Dy (ts:=List.replicate n z4) (us:=(List.replicate n z4).set i (rC (.of 1))) rfl rfl (by omega) (cells:=z4) (by rw [Int.toNat_natCast,List.getElem?_replicate,if_pos (by omega)]) (by rw [Int.toNat_natCast];rfl) ?_;dsimp only [aB,aA];exact eG ⟨aH.Sub.slice (SX n i),trivial⟩
open Go Go.Proofs Tryz Ord
def ag1:Tr:=aK 43 [(W 0 0),(G4 1)] [(some 4),none] [8,9] [44,49] 87 false (aU .leq 3 13 24 3 0 4 (.ret [(W 4 0)]))
theorem SR:aN prog f58 (fun _=>none) [.v none, .v (some 4)]=ag1:=by kernel_rfl
theorem FL (n i:Nat):(bK n i).length=n:=by simp [bK]
open Go Go.Proofs Tryz Ord
def MF:Tr:=.ret [(tF true)]
def ap9:Tr:=.split (.u 8 0) (aK 133 [(W 0 0),(W 2 0),(W 7 0),(G3 3)] [(some 3)] [13,14,15,16] [194,3,3,39] 39 false (aK 38 [(G3 9),(G3 4)] [none] [17,18] [39,39] 3 true (aU .gtr 3 19 0 10 0 4 (.split (.u 11 0) Gs (aU .add 3 10 1 7 0 3 (.back 0 [lV 6 0,lV 12 0])))))) MF
def aw9:Tr:=aU .add 3 8 1 1 0 3 (.loop 0 [(.w (.one (.c (.k (.bool false))))),lK 0] (bJ .lss 3 10 9 7 0 5 0 4 ap9))
theorem Kz:aN prog f267 (fun _=>none) [.v none, .ref 1, .ref 1, .ref 3, .ref 3]=aw9:=by kernel_rfl
def kU (b aJ:Rat) (n:Nat) (r goal:Rat) (d:Nat):Bool:=(List.range (d+1)).all fun i=>decide (fX b aJ n i r≤goal)
set_option maxHeartbeats 1000000 in
theorem JS (a0 a1 a2 a3 a4:aH) (aJ:Rat) (st:Int) (y a:List Rat) (b:Rat) (n d:Nat) (r goal:Rat) (B G:Nat) (C:∀ i,i≤d→mJ B aJ n i r) (hn:n<1099511627776) (hd:d≤n) (h0:aJ≠0) (hb:Fit B b) (hB:B≤1073741824) (h64:64≤B) (hs1:∀ i,i≤d→cZ aJ n i r<1) (hgf:Fit G goal) (hG:G≤1073741824) (htf:∀ i,i≤d→Fit G (fX b aJ n i r)):aM prog 267 [(.one (.bE (KV [a0,a1,a2,a3,a4] aJ st y a b)):aF),(.one (.bE ([.int .i64 d])):aF),(.one (.bE ([.int .i64 n])):aF),(.one (.bE (qC r)):aF),(.one (.bE (qC goal)):aF)] (.ret [.one (.bool (kU b aJ n r goal d))]):=by
 refine aD (args:=[.v none, .ref 1, .ref 1, .ref 3, .ref 3]) (ins:=[.v (.one (.bE (KV [a0,a1,a2,a3,a4] aJ st y a b))), .ref ([.int .i64 d]), .ref ([.int .i64 n]), .ref (qC r), .ref (qC goal)]) (hints:=(fun _=>none)) fo (by kernel_rfl) func267 ⟨rfl,rfl,rfl,rfl,rfl,trivial⟩ ?_;rw [Kz];dsimp only [List.map,In.env,aB,aA];refine vn (aE (by omega) (by omega)) rfl ?_;dsimp only [aB,aA];refine bC {i:Nat // i≤d+1∧∀ j,j<i→fX b aJ n j r≤goal} (fun g=>[.one (.bool false), .one (.int .i64 g.1)]) (fun g=>d+1-g.1) ⟨0,Nat.zero_le _,fun j hj=>by omega⟩ aO.rfl (fun _=>rfl) ?_;rintro ⟨i,hi,hle⟩;dsimp only [aB,aA] at hi hle ⊢;refine vn bB rfl ?_;dsimp only [aB,aA];refine vs _ rfl (fun h3=>?_) (fun h3=>?_)
 ·refine aC (Lz a0 a1 a2 a3 a4 aJ st y a b n i r B (C i (by omega)) hn (by omega) h0 hb (by omega) h64 (hs1 i (by omega))) rfl ?_;dsimp only [aB,aA];refine aC (uZ _ _ G G (htf i (by omega)) hgf (by omega)) rfl ?_;dsimp only [aB,aA];refine vn dB rfl ?_;dsimp only [aB,aA];refine vs _ rfl (fun h7=>?_) (fun h7=>?_)
  ·rw [show kU b aJ n r goal d=false from by
    rw [kU,List.all_eq_false];exact ⟨i,List.mem_range.2 (by omega),by rw [decide_eq_true_iff];exact fun h=>absurd (fZ.2 h) (by omega)⟩];exact aL rfl
  refine vn (aE (by omega) (by omega)) rfl ?_;dsimp only [aB,aA]
  exact aR rfl ⟨⟨i+1,by omega,fun j hj=>by
   rcases Nat.lt_or_ge j i with h | h
   ·exact hle j h
   ·rw [show j=i by omega];exact fZ.1 (by omega)⟩,aO.rfl,by show d+1-(i+1)<d+1-i;omega⟩
 rw [show kU b aJ n r goal d=true from by
  rw [kU,List.all_eq_true];exact fun j hj=>decide_eq_true (hle j (by rw [List.mem_range] at hj;omega))];exact aL rfl
open Go Go.Proofs Tryz Ord
def ZJ:Tr:=.ret [(.agg [(U 0 0),(U 0 1),(U 0 2),(U 0 0),(U 0 1),(U 0 2)])]
theorem aX8:aN prog f227 (fun _=>none) [.v (some 3)]=ZJ:=by kernel_rfl
def ag0:Tr:=eD 0 6 1 0 212 12 13 (dI 5 0 none 50 14 (aK 127 [(W 0 0)] [none] [21] [44] 3 false (aK 51 [(W 6 0),(.agg [(U 0 1),(U 0 2),(U 0 3),(U 0 4)]),(W 0 5),(W 7 0),(W 2 0),(W 3 0),(G4 4)] [(some 4)] [15,17,19,22,23,24,25] [50,49,3,3,3,3,49] 49 true (.ret [(G4 8)]))))
theorem Yu:aN prog f152 (fun _=>none) [.v (some 7), .v none, .v none, .v none, .v (some 4)]=ag0:=by kernel_rfl
abbrev ZU (Q:List (List RQ)) (aJ:RQ) (st:Int) (bs:List (List RQ)):List aH:=[eR Q]++rC aJ ++ [.int .i64 st, .slice 1 (bs.map fun b=>[sR b])]
theorem aZ6 (a:Rat):aM prog 227 [(qT a:aF)] (.ret [OY a a]):=by
 refine aD (args:=[.v (some 3)]) (ins:=[.v (qT a)]) (hints:=(fun _=>none)) fo (by kernel_rfl) func227 ⟨rfl,trivial⟩ ?_;rw [aX8];dsimp only [List.map,In.env,aB,aA];exact aL rfl
theorem SK (E:List (List Rat)) (ER:List (List RQ)) (X:Rat) (XR:RQ) (h:SmallX E ER X XR) (hr:iK E X):aM prog 58 [(.one (eR ER):aF),(dE XR:aF)] (.ret [.one (.bool (decide ((fO E X).2≤24)))]):=by
 refine aD (args:=[.v none, .v (some 4)]) (ins:=[.v (.one (eR ER)), .v (dE XR)]) (hints:=(fun _=>none)) fo (by kernel_rfl) func58 ⟨rfl,rfl,trivial⟩ ?_;rw [SR];dsimp only [List.map,In.env,aB,aA];refine aC (qS h hr) rfl ?_;dsimp only [aB,aA];refine vn fV rfl ?_;dsimp only [aB,aA];rw [show decide (((fO E X).2:Int)≤24)=decide ((fO E X).2≤24) by rw [decide_eq_decide];omega];exact aL rfl
set_option maxHeartbeats 1000000 in
theorem Yx (Q:List (List RQ)) (aJ:RQ) (st l n d:Nat) (bs:List (List RQ)) (a:List RQ) (r:RQ) (B:Nat) (ha:bs[l]? = some a) (hq:∀ p∈Q,p.length<1099511627776) (hql:Q.length≤64) (hql0:1≤Q.length) (C:mJ B aJ.q n d r.q) (hst:st≤n) (hW:Q.length-1+bA (fG Q)≤st) (hal:st≤a.length) (hal2:a.length<1099511627776) (hbl:bs.length<1099511627776) (haf:∀ x∈a,Fit B x.q) (hn:n<1073741824) (hd:d≤n) (h0:aJ.q≠0) (hB:B≤536870912) (h64:64≤B) (hs1:cZ aJ.q n d r.q<1):aM prog 152 [(.agg (ZU Q aJ (st:Nat) bs):aF),(.one (.int .i64 l):aF),(.one (.int .i64 n):aF),(.one (.int .i64 d):aF),(dE r:aF)] (.ret [dE (.of (fX (FB (a.map RQ.q) aJ.q (st-(Q.length-1+bA (fG Q))) (Q.length-1+bA (fG Q))) aJ.q n d r.q))]):=by
 refine aD (args:=[.v (some 7), .v none, .v none, .v none, .v (some 4)]) (ins:=[.v (.agg (ZU Q aJ (st:Nat) bs)), .v (.one (.int .i64 l)), .v (.one (.int .i64 n)), .v (.one (.int .i64 d)), .v (dE r)]) (hints:=(fun _=>none)) fo (by kernel_rfl) func152 ⟨rfl,rfl,rfl,rfl,rfl,trivial⟩ ?_;rw [Yu];dsimp only [List.map,In.env,aB,aA];refine vn (aW Zk (by omega) (Int.toNat_natCast l) ha) rfl ?_;dsimp only [aB,aA];refine vn (bF bc6) rfl ?_;dsimp only [aB,aA];refine aC (LQ Q hq (by omega)) rfl ?_;rw [show (Q.length:Int)-1+(bA (fG Q):Nat)=((Q.length-1+bA (fG Q):Nat):Int) by omega];dsimp only [aB,aA];refine aC (XG a aJ st (Q.length-1+bA (fG Q)) n d r B C hst hW hal hal2 haf hn hd h0 hB h64 hs1) rfl ?_;exact aL rfl
open Go Go.Proofs Tryz Ord
def Xh:Tr:=eD 1 0 6 0 119 21 22 (dI 11 0 (some 8) 140 23 (aK 77 [(G6 10),(G8 12)] [none] [20,24] [123,140] 4 true (.need (.prim [(W 13 0)] none) (.unOp .not 4 (tT 25)) 4 false (.split (.u 14 0) Gs (aU .add 3 15 1 6 0 3 (.back 0 [lV 5 0,lV 15 0]))))))
def ao0:Tr:=.split (.u 4 0) Gs (.loop 0 [(.w (.one (.c (.k (.bool false))))),lK 0] (cB 0 0 12 118 (bJ .lss 3 11 13 6 0 7 0 4 (.split (.u 8 0) (eD 0 0 6 0 118 17 18 (dI 9 0 (some 6) 123 19 Xh)) MF))))
def an5:Tr:=cB 0 0 6 118 (cB 1 0 8 119 (bJ .neq 3 7 9 2 0 3 0 4 ao0))
theorem PJ:aN prog f63 (fun _=>none) [.v none, .v none]=an5:=by kernel_rfl
theorem TH (w:List (RQ×RQ)) (B:Nat) (hw:∀ p∈w,Fit B p.1.q∧Fit B p.2.q) (hB:B≤268435456) (hl:w.length<1099511627776):aM prog 63 [(.one (.slice 6 (w.map fun p=>snC p.1.q p.2.q)):aF),(.one (.slice 8 (w.map fun p=>Oa p.1 p.2)):aF)] (.ret [.one (.bool true)]):=by
 refine aD (args:=[.v none, .v none]) (ins:=[.v (.one (.slice 6 (w.map fun p=>snC p.1.q p.2.q))), .v (.one (.slice 8 (w.map fun p=>Oa p.1 p.2)))]) (hints:=(fun _=>none)) fo (by kernel_rfl) func63 ⟨rfl,rfl,trivial⟩ ?_;rw [PJ];dsimp only [List.map,In.env,aB,aA];refine vn (aP PO (List.length_map _)) rfl ?_;dsimp only [aB,aA];refine vn (aP Zs (List.length_map _)) rfl ?_;dsimp only [aB,aA];refine vn gO rfl ?_;dsimp only [aB,aA];refine vs _ rfl (fun h3=>?_) (fun h3=>?_)
 ·exact absurd rfl h3
 refine bC {i:Nat // i≤w.length} (fun g=>[.one (.bool false), .one (.int .i64 g.1)]) (fun g=>w.length-g.1) ⟨0,Nat.zero_le _⟩ aO.rfl (fun _=>rfl) ?_;rintro ⟨i,hi⟩;dsimp only [aB,aA] at hi ⊢;refine vn (aP PO (List.length_map _)) rfl ?_;dsimp only [aB,aA];refine vn bB rfl ?_;dsimp only [aB,aA];refine vs _ rfl (fun h8=>?_) (fun h8=>?_)
 ·obtain ⟨p,hp⟩:∃ p,w[i]? = some p:=⟨_,List.getElem?_eq_getElem (by omega)⟩
  obtain ⟨hf1,hf2⟩:=hw p (List.mem_of_getElem? hp);refine vn (aW PO (by omega) (Int.toNat_natCast i) hp) rfl ?_;dsimp only [aB,aA];refine vn (bO aH4 (by decide) (by simp) (.inl rfl)) rfl ?_;dsimp only [aB,aA];refine vn (aW Zs (by omega) (Int.toNat_natCast i) hp) rfl ?_;dsimp only [aB,aA];refine vn (bO aG3 (by decide) (by simp) (.inl rfl)) rfl ?_;dsimp only [aB,aA];have hk:=Im p.1.q p.2.q p.1 p.2 B hf1 hf2 hf1 hf2 hB;rw [decide_eq_true (show p.1.q=p.1.q∧p.2.q=p.2.q from ⟨rfl,rfl⟩)] at hk;refine aC hk rfl ?_;dsimp only [aB,aA];refine vn gX rfl ?_;dsimp only [aB,aA];refine rA false rfl (fun h=>by cases h) (fun _=>?_);refine vn (aE (by omega) (by omega)) rfl ?_;dsimp only [aB,aA];exact aR rfl ⟨⟨i+1,by omega⟩,aO.rfl,by show w.length-(i+1)<w.length-i;omega⟩
 exact aL rfl
open Go Go.Proofs Tryz Ord
theorem Yh (n l:Nat):∀ q∈bK n l,Bd (cG 999) 999 q:=fun q hq=>by
 rcases List.mem_or_eq_of_mem_set hq with h | rfl
 ·rw [(List.mem_replicate.1 h).2];exact Bd.zero
 ·exact Bd.one (by omega)
section
variable {E:List (List Rat)} {ER:List (List RQ)} {X:Rat} {XR:RQ}
theorem SmallX.Qu (h:SmallX E ER X XR) (hr:iK E X) (l:Nat):XU (bH E X) (E.length-1) (aQ E X) (bK (E.length-1) l) dM sM (cG 999) 999 101:=by
 obtain ⟨h2,h5,hld,_⟩:=hr.facts;have hm:=h.NY;obtain ⟨p,hp,hp0⟩:=jV hld (by omega);exact ⟨uJ,eP _,TF,by omega,by omega,hm,(hm p (List.mem_of_getElem? hp)).2 _ (List.mem_of_getElem? hp0),hld,Yh _ _,by rw [bH,List.length_map];omega⟩
theorem SmallX.Gv (h:SmallX E ER X XR) (hr:iK E X) (l:Nat):fU Nf (bH E X) (E.length-1) (aQ E X) (bK (E.length-1) l) 1500:=by
 have h5:=hr.facts.2.1;exact yY (h.Qu hr l) (by omega) (by omega) (NW _ (by omega))
theorem SmallX.TQ (h:SmallX E ER X XR) (hr:iK E X) (l:Nat):fU WU (bH E X) (E.length-1) (aQ E X) (bK (E.length-1) l) 200:=by
 have h5:=hr.facts.2.1;exact yY (h.Qu hr l) (by omega) (by omega) (HH _ (by omega))
end
open Go Go.Proofs Tryz Ord
section
variable {E:List (List Rat)} {ER:List (List RQ)} {X:Rat} {XR:RQ}
theorem SmallX.My (h:SmallX E ER X XR) (hr:iK E X) (l n:Nat) (hl0:l<E.length-1) (hn:n≤1500) :
  aM prog 28 [.one (eR (yJ ER XR)), .one (sR (xW (E.length-1) l)), .one (.int .i64 n)] (.ret [.one (sR ((aV (bH E X) (E.length-1) (aQ E X) (bK (E.length-1) l) n).map RQ.of))]):=by
 obtain ⟨B,hBe⟩:∃ B,B=Nf:=⟨_,rfl⟩
 have h64:64≤B:=by rw [hBe];decide
 have hB:B≤345160011:=by rw [hBe];decide
 obtain ⟨h2,h5,hld,_⟩:=hr.facts;obtain ⟨p,hp,hp0⟩:=jV hld (by omega);rw [←h.sh,fG,List.getElem?_map] at hp;obtain ⟨p0,hp1,rfl⟩:=Option.map_eq_some_iff.1 hp;rw [List.getElem?_map] at hp0;obtain ⟨l',hl',hl⟩:=Option.map_eq_some_iff.1 hp0;have hst:=h.Gv hr l;rw [←hBe] at hst;rw [←h.sh,←hl,←MJ] at hst;have hul:(xW (E.length-1) l).length=E.length-1:=by simp [xW]
 have hd:=Ot (yJ ER XR) (xW (E.length-1) l) n 1500 B (E.length-1) l' p0 hp1 hl' (by
  rw [yJ,List.length_map];have:=h.sim.1;rw [iD] at this;omega) hst hn (by omega) (by omega) (by omega) (by omega) h64 (by omega) (fun q hq=>by
   obtain ⟨p,hp,rfl⟩:=List.mem_map.1 hq;have hl:=(h.rq p hp).1;have:=yB p [XR, .of ((1:Int):Rat)] p.length;simp only [List.length_cons,List.length_nil] at this;omega) (by rw [hl];exact hld)
 rw [h.sh,hl,MJ] at hd;exact hd
end
open Go Go.Proofs Tryz Ord
def aw8:Tr:=.split (.u 16 0) (aK 151 [(W 7 0),(W 8 0)] [none] [37,38] [3,3] 50 false (aK 28 [(W 9 0),(W 17 0),(W 14 0)] [none] [36,39,41] [44,50,3] 50 true (.need (.lit 1 [[(.u 18 0)]]) (.buildSlice 212 1 #[(0,(tT 42))]) 212 false (.need (.app 1 24 (some 15) none (some 19)) (.call ⟨.builtin .append,#[(tT 34),(tT 43)],#[212,212]⟩) 212 false (aU .add 3 31 1 8 0 3 (.back 0 [lV 21 0,lV 9 0,lV 10 0,lV 11 0,lV 12 0,lV 13 0,lV 14 0, .row 20])))))) (.ret [(.agg [(U 9 0),(U 10 0),(U 11 0),(U 12 0),(U 13 0),(U 14 0),(.c (.sr 1 15))]),(tF true)])
def ak6:Tr:=aK 43 [(W 0 0),(G4 1)] [(some 4),none] [14,15] [44,49] 87 false (aU .eql 3 22 0 4 0 4 (.split (.u 5 0) (.ret [(.agg [(U 2 0),(U 3 0),(U 3 1),(U 3 2),(U 3 3),(U 4 0),tN]),(tF false)]) (cB 0 0 25 44 (aU .sub 3 26 1 6 0 3 (.loop 0 [lK 0,lV 2 0,lV 3 0,lV 3 1,lV 3 2,lV 3 3,lV 4 0, .nilrow] (bJ .lss 3 28 29 8 0 7 0 4 aw8))))))
def au6:Tr:=aK 125 [(W 0 0),(G4 1)] [none] [9,10] [44,49] 44 true ak6
theorem aF0:aN prog f149 (fun _=>none) [.v none, .v (some 4)]=au6:=by kernel_rfl
def uH (E:List (List Rat)) (X:Rat) (n l:Nat):List RQ:=(aV (bH E X) (E.length-1) (aQ E X) (bK (E.length-1) l) n).map RQ.of
def Ax (E:List (List Rat)) (X:Rat) (n k:Nat):List (List RQ):=(List.range k).map (uH E X n)
theorem Td (E:List (List Rat)) (X:Rat) (n k:Nat):((Ax E X n k).map fun b=>[sR b])=(List.range k).map fun l=>[sR (uH E X n l)]:=by rw [Ax,List.map_map];rfl
set_option maxHeartbeats 1000000 in
theorem Sa (E:List (List Rat)) (ER:List (List RQ)) (X:Rat) (XR:RQ) (h:SmallX E ER X XR) (hr:iK E X) (aJ:Rat) (st:Nat) (hv:eL (bH E X) (E.length-1) (aQ E X)=some (aJ,st)) (hst:st≤1500) (hst0:1≤st):aM prog 149 [(.one (eR ER):aF),(dE XR:aF)] (.ret [.agg (ZU (yJ ER XR) (.of aJ) (st:Nat) (Ax E X st (E.length-1))), .one (.bool true)]):=by
 refine aD (args:=[.v none, .v (some 4)]) (ins:=[.v (.one (eR ER)), .v (dE XR)]) (hints:=(fun _=>none)) fo (by kernel_rfl) func149 ⟨rfl,rfl,trivial⟩ ?_;rw [aF0];dsimp only [List.map,In.env,aB,aA];obtain ⟨B,h64,hB,_,hM,_⟩:=QP;have hre:=qS h hr;rw [show fO E X=(.of aJ,st) by unfold fO;rw [hv]] at hre;have hel:E.length=ER.length:=by have:=h.sim.1;rwa [iD] at this
 have h25:=hr.facts;refine aC (IV ER XR B (h.Kt hM) (by omega) h64 (by have:=h.erl;omega)) rfl ?_;dsimp only [aB,aA];refine aC hre rfl ?_;dsimp only [aB,aA];refine vn bL rfl ?_;dsimp only [aB,aA];refine vs _ rfl (fun h3=>?_) (fun h3=>?_)
 ·exact absurd h3 (by omega)
 refine vn (aP jN (List.length_map _)) rfl ?_;dsimp only [aB,aA];refine vn (aG (by omega) (by omega)) rfl ?_;dsimp only [aB,aA];rw [←hel,show (E.length:Int)-1=((E.length-1:Nat):Int) by omega];refine bC {l:Nat // l≤E.length-1} (fun g=>([.one (.int .i64 g.1), .one (eR (yJ ER XR))]:List aF)++(rC (.of aJ)).map aF.one ++ [.one (.int .i64 st), .rows ((List.range g.1).map fun l=>[sR (uH E X st l)])]) (fun g=>E.length-1-g.1) ⟨0,Nat.zero_le _⟩ aO.rfl (fun _=>rfl) ?_;rintro ⟨l,hl⟩;dsimp only [aB,aA,List.map] at hl ⊢;refine vn bB rfl ?_;dsimp only [aB,aA];refine vs _ rfl (fun h9=>?_) (fun h9=>?_)
 ·refine aC (LJ (E.length-1) l (by omega) (by omega)) rfl ?_;dsimp only [aB,aA];have hs:=h.My hr l st (by omega) hst;rw [show (aV (bH E X) (E.length-1) (aQ E X) (bK (E.length-1) l) st).map RQ.of=uH E X st l from rfl] at hs;refine aC hs rfl ?_;dsimp only [aB,aA];refine cL (us:=[[sR (uH E X st l)]]) rfl ?_;dsimp only [aB,aA];refine jQ (xs:=List.range l) (x:=l) (f:=fun l=>[sR (uH E X st l)]) rfl rfl (by rw [List.length_range];omega) (by simp only [maxLen];rw [List.length_range];omega) ?_;rw [←List.range_succ];dsimp only [aB,aA];refine vn (aE (by omega) (by omega)) rfl ?_;dsimp only [aB,aA];exact aR rfl ⟨⟨l+1,by omega⟩,aO.rfl,by show E.length-1-(l+1)<E.length-1-l;omega⟩
 obtain rfl:l=E.length-1:=by omega
 rw [show ZU (yJ ER XR) (RQ.of aJ) (st:Nat) (Ax E X st (E.length-1)) = [eR (yJ ER XR)]++rC (.of aJ) ++ [.int .i64 (st:Nat), .slice 1 ((List.range (E.length-1)).map fun l=>[sR (uH E X st l)])] by rw [←Td]];exact aL rfl
open Go Go.Proofs Tryz Ord
theorem zJ {x y p q:Rat} (hp:0<p) (hq:0<q) (h:x*q≤y*p):x/p≤y/q:=by
 have hp0:p≠0:=by grind
 have hq0:q≠0:=by grind
 have h1:x/p*p=x:=Rat.div_mul_cancel hp0;have h2:y/q*q=y:=Rat.div_mul_cancel hq0;refine Rat.le_of_mul_le_mul_left (c:=p*q) ?_ (Rat.mul_pos hp hq);have e1:p*q*(x/p)=x*q:=by rw [show p*q*(x/p)=x/p*p*q by grind,h1]
 have e2:p*q*(y/q)=y*p:=by rw [show p*q*(y/q)=y/q*q*p by grind,h2]
 rw [e1,e2];exact h
theorem FW {x p:Rat} (hx:0≤x) (hp:0<p):0≤x/p:=by
 have:=zJ (x:=0) (y:=x) hp hp (by rw [Rat.zero_mul];exact Rat.mul_nonneg hx (by grind))
 rwa [show (0:Rat)/p=0 by grind] at this
theorem Fv (z:Int):∀ d:Nat,bG (z+1) d*(z+1-d)=bG z d*(z+1)
 | 0=>by simp [bG]
 | d+1=>by
   have ih:=Fv z d
   rw [bG,bG,ih,show bG z d*(z+1)*(z+1-((d+1:Nat):Int))=bG z d*(z-d)*(z+1) by
    rw [show z+1-((d+1:Nat):Int)=z-d by omega,Int.mul_assoc,Int.mul_assoc,Int.mul_comm (z+1)]]
theorem Nc {n:Nat}:∀ d:Nat,d≤n→0≤bG (n:Int) d
 | 0,_=>by simp [bG]
 | d+1,h=>by
   rw [bG];exact Int.mul_nonneg (Nc d (by omega)) (by omega)
def unV (aJ:Rat) (n d:Nat) (r:Rat):Rat:=((bG n d:Int):Rat)*r^(n-d)/aJ^n
theorem Vn {aJ r:Rat} {n d:Nat} (h0:0<aJ) (hd:d≤n):unV aJ (n+1) d r=unV aJ n d r*cZ aJ n d r:=by
 have hp:aJ^n≠0:=by have:=Rat.pow_pos (n:=n) h0;grind
 have hq:aJ≠0:=by grind
 have hz:((((n:Int)+1-d:Int)):Rat)≠0:=Ln (by omega)
 have e:(((bG ((n+1:Nat):Int) d:Int)):Rat)*((((n:Int)+1-d:Int)):Rat)=((bG n d:Int):Rat)*((((n:Int)+1:Int)):Rat):=by
  rw [←Rat.intCast_mul,←Rat.intCast_mul,←Fv];rfl
 unfold unV cZ;rw [show n+1-d=(n-d)+1 by omega,Rat.pow_succ,Rat.pow_succ];generalize (((bG ((n+1:Nat):Int) d:Int)):Rat)=f1 at *;generalize ((bG n d:Int):Rat)=f0 at *;generalize ((((n:Int)+1-d:Int)):Rat)=z at *;generalize ((((n:Int)+1:Int)):Rat)=w at *;generalize aJ^n=p at *;generalize r^(n-d)=q at *;have e2:f1=f0*w/z:=by grind
 rw [e2];grind
theorem JT {aJ r:Rat} {n d:Nat} (h0:0<aJ) (hr:0≤r) (hd:d≤n):cZ aJ ((n+1:Nat):Int) d r≤cZ aJ n d r∧0≤cZ aJ n d r:=by
 have hz1:(0:Rat)<((((n+1:Nat):Int)+1-d:Int):Rat):=Rat.intCast_pos.2 (by omega);have hz0:(0:Rat)<(((n:Int)+1-d:Int):Rat):=Rat.intCast_pos.2 (by omega);have hq:=FW hr h0;refine ⟨?_,?_⟩
 ·unfold cZ;refine Rat.mul_le_mul_of_nonneg_right (zJ hz1 hz0 ?_) hq;rw [←Rat.intCast_mul,←Rat.intCast_mul];refine Rat.intCast_le_intCast.2 ?_
  have h1:(((n+1:Nat):Int)+1)*((n:Int)+1-d)=((n:Int)+2)*((n:Int)+1)-((n:Int)+2)*d:=by
   rw [show ((n+1:Nat):Int)+1=(n:Int)+2 by omega,Int.mul_sub]
  have h2:((n:Int)+1)*(((n+1:Nat):Int)+1-d)=((n:Int)+2)*((n:Int)+1)-((n:Int)+1)*d:=by
   rw [show ((n+1:Nat):Int)+1=(n:Int)+2 by omega,Int.mul_sub,Int.mul_comm ((n:Int)+1) ((n:Int)+2)]
  rw [h1,h2];have h3:((n:Int)+2)*d=((n:Int)+1)*d+d:=by rw [show (n:Int)+2=(n:Int)+1+1 by omega,Int.add_mul ((n:Int)+1) 1,Int.one_mul]
  omega
 ·unfold cZ;exact Rat.mul_nonneg (FW (Rat.intCast_nonneg.2 (by omega)) hz0) hq
theorem Ky {b aJ r:Rat} {n d:Nat} (hb:0≤b) (h0:0<aJ) (hr:0≤r) (hd:d≤n) (h1:cZ aJ n d r<1):fX b aJ (n+1) d r≤fX b aJ n d r∧cZ aJ ((n+1:Nat):Int) d r<1:=by
 obtain ⟨hs,hs0⟩:=JT (d:=d) h0 hr hd;have hu:=Vn (r:=r) h0 hd;have hu0:0≤unV aJ n d r:=FW (Rat.mul_nonneg (Rat.intCast_nonneg.2 (Nc d hd)) (Rat.pow_nonneg hr)) (Rat.pow_pos h0);have hbu:=Rat.mul_nonneg hb hu0;refine ⟨?_,by grind⟩;have t1:fX b aJ (n+1) d r=b*unV aJ (n+1) d r/(((1:Int):Rat)-cZ aJ ((n+1:Nat):Int) d r):=rfl;have t0:fX b aJ n d r=b*unV aJ n d r/(((1:Int):Rat)-cZ aJ n d r):=rfl;rw [t1,t0,hu];have one:((1:Int):Rat)=1:=by decide +kernel
 rw [one];generalize cZ aJ ((n+1:Nat):Int) d r=s1 at *;generalize cZ aJ n d r=s0 at *;generalize unV aJ n d r=u at *;refine zJ (by grind) (by grind) ?_
 have k1:b*(u*s0)≤b*u:=by
  have:=Rat.mul_le_mul_of_nonneg_left (a:=s0) (b:=1) (c:=b*u) (by grind) hbu
  grind
 have k2:0≤1-s0:=by grind
 have k3:=Rat.mul_le_mul_of_nonneg_right k1 k2;have k4:=Rat.mul_le_mul_of_nonneg_left (a:=1-s0) (b:=1-s1) (c:=b*u) (by grind) hbu
 grind
end Go.Sy
