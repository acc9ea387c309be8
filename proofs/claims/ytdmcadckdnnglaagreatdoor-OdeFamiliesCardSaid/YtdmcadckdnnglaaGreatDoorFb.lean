/- A drawn region: by an invariant on what has been done. The map of families: by hand. The map of families: its region, in every order. The map of families: the call.
-/
import Derived.Test.YtdmcadckdnnglaaGreatDoorSc
import Derived.Test.YtdmcadckdnnglaaGreatDoorYa
import Derived.Test.YtdmcadckdnnglaaGreatDoorSd
import Derived.Maps.OwnIn
import Derived.Maps.Views
import Derived.Carry
set_option linter.unusedVariables false
set_option linter.unusedSimpArgs false
namespace Go.Sy
section
variable {P:Program} {ops:Array Oper} {Q:Exit→Act→World→Prop}
theorem FN (I:(Nat→Bool)→Act→World→Prop)
  (step:∀ (L:Nat→Bool) (i:Nat) (o:Oper) (a:Act) (w:World),ops[i]? = some o→L i=false→(∀ j∈aR o,L j=true)→(∀ j o',ops[j]? = some o'→L j=true→∀ x∈aR o',L x=true)→I L a w→wpOp P ops Q i (I fun j=>L j || j==i) a w)
  (hlt:∀ i o,ops[i]? = some o→∀ j∈aR o,j<i)
  (fin:∀ (L:Nat→Bool) a w,(∀ j,j<ops.size→L j=true)→I L a w→Q .normal a w) :
  ∀ (fuel:Nat) (listed:Array Bool) a w,listed.size=ops.size→(∀ j o',ops[j]? = some o'→listed.getD j false=true→∀ x∈aR o',listed.getD x false=true)→((List.range ops.size).filter fun j=>!listed.getD j true).length≤fuel→I (fun j=>listed.getD j false) a w→wpAny P .any ops Q fuel listed a w:=by
 have hdone:∀ (listed:Array Bool) a w,listed.size=ops.size→Region.ready .any ops listed = []→I (fun j=>listed.getD j false) a w→Q .normal a w:=by
  intro listed a w hsz hr hI;refine fin _ a w ?_ hI;intro j
  induction j using Nat.strongRecOn with
  | _ j ih=>
    intro hj;cases hl:listed.getD j false with
    | true=>rfl
    | false=>
      exfalso
      obtain ⟨o,hoj⟩:∃ o,ops[j]? = some o:=⟨_,Array.getElem?_eq_getElem hj⟩
      have:j∈Region.ready .any ops listed:=by
       rw [mem_ready];refine ⟨?_,o,hoj,fun e he hb=>?_⟩
       ·have hjs:j<listed.size:=by omega
        simp only [Array.getD_eq_getD_getElem?,Array.getElem?_eq_getElem hjs,Option.getD_some] at hl ⊢;exact hl
       ·have hm:e.on∈aR o:=kZ.2 ⟨e,he,hb,rfl⟩;have hlt':=hlt j o hoj e.on hm;exact ih e.on hlt' (by omega)
      rw [hr] at this;cases this
 intro fuel
 induction fuel with
 | zero=>
   intro listed a w hsz hcl hfu hI
   have hr:Region.ready .any ops listed = []:=by
    apply List.eq_nil_iff_forall_not_mem.2;intro j hj;rw [mem_ready] at hj;obtain ⟨h1,o,h2,_⟩:=hj;have hjs:j<ops.size:=(Array.getElem?_eq_some_iff.1 h2).1
    have hm:j∈(List.range ops.size).filter fun j=>!listed.getD j true:=by
     rw [List.mem_filter];exact ⟨List.mem_range.2 hjs,by rw [h1];rfl⟩
    have hl:=List.length_pos_of_mem hm;omega
   exact ⟨hr,hdone listed a w hsz hr hI⟩
 | succ fuel ih=>
   intro listed a w hsz hcl hfu hI;refine ⟨fun hr=>hdone listed a w hsz hr hI,fun i hi=>?_⟩;rw [mem_ready] at hi;obtain ⟨hl,o,hoi,haft⟩:=hi;have his:i<ops.size:=(Array.getElem?_eq_some_iff.1 hoi).1;have hils:i<listed.size:=by omega
   have hlf:listed.getD i false=false:=by
    simp only [Array.getD_eq_getD_getElem?,Array.getElem?_eq_getElem hils,Option.getD_some] at hl ⊢;exact hl
   have hdeps:∀ j∈aR o,listed.getD j false=true:=fun j hj=>by
    obtain ⟨e,he,hb,rfl⟩:=kZ.1 hj;exact haft e he hb
   refine wpOp_mono ?_ (step (fun j=>listed.getD j false) i o a w hoi hlf hdeps hcl hI)
   ·intro a' w' hI'
    have hset:(fun j=>(listed.setIfInBounds i true).getD j false)=fun j=>listed.getD j false || j==i:=by
     funext j
     by_cases hji:j=i
     ·subst hji;simp [hils]
     ·rw [_root_.Go.getD_set_ne false (Ne.symm hji)];simp [hji]
    refine ih _ a' w' (by simp [hsz]) (fun j o' hj hl x hx=>?_) ?_ (by rw [hset];exact hI')
    ·have hs:=fun k=>congrFun hset k;rw [hs] at hl ⊢;rw [Bool.or_eq_true] at hl ⊢;rcases hl with hl | hl
     ·exact .inl (hcl j o' hj hl x hx)
     ·obtain rfl:j=i:=by simpa using hl
      rw [hoi] at hj;cases hj;exact .inl (hdeps x hx)
    have h1:((List.range ops.size).filter fun j=>!(listed.setIfInBounds i true).getD j true).length<((List.range ops.size).filter fun j=>!listed.getD j true).length:=by
     have e1:((List.range ops.size).filter fun j=>!(listed.setIfInBounds i true).getD j true)=((List.range ops.size).filter fun j=>!listed.getD j true).filter fun j=>j != i:=by
      rw [List.filter_filter];apply List.filter_congr;intro j _;by_cases hji:j=i
      ·subst hji;simp [hils]
      ·rw [_root_.Go.getD_set_ne true (Ne.symm hji)];simp [hji]
     rw [e1,List.length_filter_lt_length_iff_exists];refine ⟨i,?_,by simp⟩;rw [List.mem_filter];exact ⟨List.mem_range.2 his,by rw [hl];rfl⟩
    omega
end
open Go Go.Proofs Go.RowKit Tryz Ord
attribute [local go_sem] Oper.semAt_some
def Ar:Tr:=.ret [(.one (.ref 0 [(.u 2 0)])),(.one (.dK 218 [(.ref 0 [(.u 2 0)])]))]
def AA:Tr:=.need (.call 217 [(W 0 0),(.agg [(U 1 0),(U 1 1),(U 1 2)])] [none]) (.call ⟨.value (.func 217),#[(.tmp 3),(.tmp 4)],#[72,39]⟩) 72 true Ar
def AM:Tr:=.need (.call 68 [(WK (2))] [(some 3)]) (.call ⟨.value (.func 68),#[(.const (I3 (2)))],#[2]⟩) 39 true AA
def Ag:Tr:=.need (.call 216 [] [none]) (.call ⟨.value (.func 216),#[],#[]⟩) 72 true AM
theorem Da:nN prog 24 (fun _=>none) (eU [] (lJ f142)) [] ([1,2].map ResultVar.tmp) (some 2) false=Ag:=by kernel_rfl
theorem Pc  :vc prog (fun o=>gN o (.ret [.one (.bM [sQ fU]), .one (.dK 218 [.bM [sQ fU]])])) (nN prog 24 (fun _=>none) (eU [] (lJ f142)) [] ([1,2].map ResultVar.tmp) (some 2) false) ([].map In.env) []:=by
 rw [Da];dsimp only [List.map,In.env,aA,aB];refine aC NF rfl ?_;dsimp only [aA,aB];refine aC (fK 2 (by omega) (by omega)) rfl ?_;dsimp only [aA,aB];refine aC (mD [0,1] ((2:Int):Rat) 64 64 (by simp) (fun a ha=>(uZ a ha).fit (by omega) (by omega) (by omega)) (Fit.int (by omega) (by omega)) (by omega)) rfl ?_;exact aP rfl
theorem bW {P:Program} {ops:Array Oper} {Q:Exit→Act→World→Prop} {i:Nat} {o:Oper} {K:Act→World→Prop} {a:Act} {w:World} (ho:ops[i]? = some o) (hg:o.guard=none) (h:o.wp P a w K Q):wpOp P ops Q i K a w:=by
 unfold wpOp;rw [ho];simp only [Region.wanted,hg,if_true];exact .inl h
def Et:Nat→Option Nat
 | 0=>some 7 | 1=>some 8 | 2=>some 9 | 3=>some 10 | 5=>some 11 | 6=>some 12 | 7=>some 13 | 9=>some 14 | 10=>some 15 | 12=>some 16 | 13=>some 17 | 14=>some 18 | 15=>some 19
 | 17=>some 20 | 18=>some 21 | 19=>some 22 | 21=>some 23 | 22=>some 0 | _=>none
def Vh:aF:=⟨fun _ _ v=>v.oneCell'=true,fun _ h=>h,fun h=>h⟩
def PS (p1 v2:Value) (ob:Option Nat):Nat→Option aH
 | 0=>some (.one (.exact (.map ob))) | 21=>some (.one (.exact (.map ob))) | 22=>some (.one (.exact (.map ob)))
 | 1=>some (.one (sQ [0,1])) | 9=>some (.one (sQ [0,1])) | 2=>some (.one (.exact v2)) | 6=>some (.one (.exact v2))
 | 5=>some (.one (sQ fU)) | 17=>some (.one (sQ fU)) | 12=>some (qT ((1:Int):Rat)) | 13=>some (qT ((-1:Int):Rat))
 | 14=>some (.one Vh)
 | 10=>some (.agg [sQ [0,1], .exact (.func (.func 220) #[] #[])])
 | 18=>some (.one (.exact (.func (.func 223) #[] #[p1])))
 | 19=>some (.agg [sQ fU, .exact (.func (.func 223) #[] #[p1])])
 | _=>none
theorem rG:∀ i,i<23→∀ j,j<23→Et i=Et j→Et i=none∨i=j:=by decide
theorem Mc:∀ i,i<23→∀ d,Et i=some d→d<24∧d≠1∧d≠2:=by
 have h:∀ i,i<23→(Et i).all (fun d=>decide (d<24∧d≠1∧d≠2))=true:=by decide
 intro i hi d hd;have:=h i hi;rw [hd] at this
 simpa using this
abbrev hR:Value→Option (DataW Value×List MemPlace):=fun v=>some (.held v,[])
def HY (L:Nat→Bool):Nat:=(L 4).toNat+(L 8).toNat+(L 11).toNat+(L 16).toNat+(L 20).toNat
structure FI (M:Nat→Prop) (w0:World) (p1 v2:Value) (L:Nat→Bool) (ob:Option Nat) (a:Act) (W:World):Prop where
 sz:a.tmps.size=24
 df:a.defers = []
 bel:Below w0.heap.size w0 W
 t1:a.tmps.getD 1 Go.undef=p1
 t2:a.tmps.getD 2 Go.undef=v2
 p1r:(aF.bM [sQ fU]).rep M W p1
 sl:∀ j d t,j<23→L j=true→Et j=some d→PS p1 v2 ob j=some t→t.rep M W (a.tmps.getD d Go.undef)
 no:L 0=false→ob=none
 map:L 0=true→∃ b n D,ob=some b∧w0.heap.size≤b∧W.ownsMap prog 5 hR b n D∧Maps.IsMap D∧n≤HY L∧(L 11=true→∀ z,D.atKey (.int .u8 3) z = .held (a.tmps.getD 15 Go.undef))∧(L 20=true→∀ z,D.atKey (.int .u8 5) z = .held (a.tmps.getD 22 Go.undef))
 c11:L 11=true→L 10=true
 c20:L 20=true→L 19=true
abbrev Lx (L:Nat→Bool) (i:Nat):Nat→Bool:=fun j=>L j || j==i
theorem Di {a:Act} {d d':Nat} {v:Value} (h:d<a.tmps.size):(a.put (some d) v).tmps.getD d' Go.undef=if d'=d then v else a.tmps.getD d' Go.undef:=by
 show (a.tmps.setIfInBounds d v).getD d' Go.undef=_;split
 ·rename_i e;rw [e,Array.getD_eq_getD_getElem?,Array.getElem?_setIfInBounds_self_of_lt h];rfl
 ·rename_i e;rw [Array.getD_eq_getD_getElem?,Array.getElem?_setIfInBounds_ne (fun h=>e h.symm),←Array.getD_eq_getD_getElem?]
section
variable {M:Nat→Prop} {w0 W W':World} {p1 v2:Value} {L:Nat→Bool} {ob:Option Nat} {a:Act} {i d:Nat} {v:Value}
theorem hJ {j:Nat} (h:Lx L i j=true) (hne:j≠i):L j=true:=by
 have e:(j==i)=false:=by simpa using hne
 simpa [Lx,e] using h
theorem QT:HY L≤HY (Lx L i):=by
 have h:∀ j,(L j).toNat≤(Lx L i j).toNat:=fun j=>by
  unfold Lx;cases L j<;>simp
 unfold HY;have h1:=h 4;have h2:=h 8;have h3:=h 11;have h4:=h 16;have h5:=h 20;omega
theorem FI.put (I:FI M w0 p1 v2 L ob a W) (hi:i<23) (hLi:L i=false) (hd:Et i=some d) (h0:i≠0) (hb:Below W.heap.size W W') (hv:∀ t,PS p1 v2 ob i=some t→t.rep M W' v):FI M w0 p1 v2 (Lx L i) ob (a.put (some d) v) W':=by
 obtain ⟨hd24,hd1,hd2⟩:=Mc i hi d hd;have hk:bF M W M W':=bF.below hb;have hg:∀ d',(a.put (some d) v).tmps.getD d' Go.undef=if d'=d then v else a.tmps.getD d' Go.undef:=fun d'=>Di (by rw [I.sz];exact hd24)
 have h11:i≠11:=fun e=>by rw [e] at hd;cases hd
 have h20:i≠20:=fun e=>by rw [e] at hd;cases hd
 refine ⟨by show (a.tmps.setIfInBounds d v).size=24;rw [Array.size_setIfInBounds];exact I.sz,I.df,I.bel.trans (hb.mono I.bel.size),by rw [hg,if_neg (fun e=>hd1 e.symm)];exact I.t1,by rw [hg,if_neg (fun e=>hd2 e.symm)];exact I.t2,aF.mono _ hk I.p1r,fun j d' t hj hL hd' ht=>?_,fun h=>I.no ?_,fun h=>?_,fun h=>?_,fun h=>?_⟩
 ·rw [hg];by_cases hji:j=i
  ·subst hji;rw [hd] at hd';cases hd';rw [if_pos rfl];exact hv t ht
  ·have hne:d'≠d:=fun e=>by
    rcases rG j hj i hi (by rw [hd',hd,e]) with h | h
    ·rw [hd'] at h;cases h
    ·exact hji h
   rw [if_neg hne];exact aH.mH hk (I.sl j d' t hj (hJ hL hji) hd' ht)
 ·cases hL:L 0 with
  | false=>rfl
  | true=>simp [Lx,hL] at h
 ·obtain ⟨b,n,D,e,h1,h2,h3,h4,h5,h6⟩:=I.map (hJ h (fun e=>h0 e.symm));refine ⟨b,n,D,e,h1,?_,h3,Nat.le_trans h4 QT,fun h z=>?_,fun h z=>?_⟩
  ·exact h2.kept (row:=none) ⟨hb.os,hb.tape,hb.output,hb.size,fun k hk _=>hb.block k hk⟩ (by simp)
  ·have hl:=hJ h (fun e=>h11 e.symm)
   have hne:(15:Nat)≠d:=fun e=>by
    rcases rG 10 (by omega) i hi (by rw [hd,←e];rfl) with h | h
    ·cases h
    ·rw [←h,I.c11 hl] at hLi;cases hLi
   rw [hg,if_neg hne];exact h5 hl z
  ·have hl:=hJ h (fun e=>h20 e.symm)
   have hne:(22:Nat)≠d:=fun e=>by
    rcases rG 19 (by omega) i hi (by rw [hd,←e];rfl) with h | h
    ·cases h
    ·rw [←h,I.c20 hl] at hLi;cases hLi
   rw [hg,if_neg hne];exact h6 hl z
 ·have:=I.c11 (hJ h (fun e=>h11 e.symm));simp [Lx,this]
 ·have:=I.c20 (hJ h (fun e=>h20 e.symm));simp [Lx,this]
theorem FI.made (I:FI M w0 p1 v2 L ob a W) (hL0:L 0=false) (hL21:L 21=false) (hL22:L 22=false) (h11:L 11=false) (h20:L 20=false):FI M w0 p1 v2 (Lx L 0) (some W.heap.size) (a.put (some 7) (.map (some W.heap.size))) (W.alloc (.map #[] 0)):=by
 have hb:Below W.heap.size W (W.alloc (.map #[] 0)):=(Below.refl _ W).alloc (Nat.le_refl _) _;have hk:bF M W M (W.alloc (.map #[] 0)):=bF.below hb;have hob:=I.no hL0;have hg:∀ d',(a.put (some 7) (.map (some W.heap.size))).tmps.getD d' Go.undef=if d'=7 then .map (some W.heap.size) else a.tmps.getD d' Go.undef:=fun d'=>Di (by rw [I.sz];omega)
 refine ⟨by show (a.tmps.setIfInBounds 7 _).size=24;rw [Array.size_setIfInBounds];exact I.sz,I.df,I.bel.trans (hb.mono I.bel.size),by rw [hg,if_neg (by omega)];exact I.t1,by rw [hg,if_neg (by omega)];exact I.t2,aF.mono _ hk I.p1r,fun j d' t hj hL hd' ht=>?_,fun h=>by simp [Lx] at h,fun _=>?_,fun h=>?_,fun h=>?_⟩
 ·rw [hg];by_cases hji:j=0
  ·subst hji;cases hd';cases ht;rw [if_pos rfl];exact ⟨rfl,rfl⟩
  ·have hne:d'≠7:=fun e=>by
    rcases rG j hj 0 (by omega) (by rw [hd',e];rfl) with h | h
    ·rw [hd'] at h;cases h
    ·exact hji h
   have hLj:=hJ hL hji;rw [if_neg hne];refine aH.mH hk (I.sl j d' t hj hLj hd' ?_);have h21:j≠21:=fun e=>by rw [e,hL21] at hLj;cases hLj
   have h22:j≠22:=fun e=>by rw [e,hL22] at hLj;cases hLj
   rw [←ht];unfold PS;split<;>first | rfl | omega
 ·refine ⟨W.heap.size,0, .map [],rfl,I.bel.size,World.ownsMap_made W prog 5 hR,Maps.isMap_empty,Nat.zero_le _,fun h=>?_,fun h=>?_⟩
  ·rw [hJ h (by omega)] at h11;cases h11
  ·rw [hJ h (by omega)] at h20;cases h20
 ·rw [hJ h (by omega)] at h11;cases h11
 ·rw [hJ h (by omega)] at h20;cases h20
theorem NP:prog.underlying 206=some (.map 5 204):=by kernel_rfl
theorem FI.ins (I:FI M w0 p1 v2 L ob a W) {q:Int} (hq:(Lit.int .u8 q).wf=true) (hi:Et i=none) (hi23:i<23) (hL0:L 0=true) (hc:HY L+1=HY (Lx L i)) (h3:i=11→q=3∧L 10=true∧v=a.tmps.getD 15 Go.undef) (h5:i=20→q=5∧L 19=true∧v=a.tmps.getD 22 Go.undef) (n3:i≠11→q≠3) (n5:i≠20→q≠5) :
  ∃ w',(Instr.mapUpdate 206 (.map ob) (.int .u8 q) v).run prog W = .ok () w'∧FI M w0 p1 v2 (Lx L i) ob (a.put none Go.undef) w':=by
 obtain ⟨b,n,D,rfl,hb1,hown,hm,hn,ha3,ha5⟩:=I.map hL0;have K:=Maps.int_keyed (P:=prog) (k:=5) TB;have hkey:keyOf prog 5 (.int .u8 q)=some (.int .u8 q):=Maps.keyOf_int_mk TB hq
 have hc5:HY L≤5:=by
  have h:∀ j,(L j).toNat≤1:=fun j=>by cases L j<;>simp
  unfold HY;have h1:=h 4;have h2:=h 8;have h3:=h 11;have h4:=h 16;have h5:=h 20;omega
 obtain ⟨w',hrun,hown',hg⟩:=hown.update K NP (by simp [maxLen];omega) hkey (show hR v=some (.held v,[]) from rfl);obtain ⟨es,clk,hbm,_⟩:=hown
 have hk:bF M W M w':=fun k o hk ho hcl=>⟨hk,(hg.block k (Array.getElem?_eq_some_iff.1 ho).1 (fun e=>by
  simp only [Option.some.injEq] at e;rw [e,hbm] at ho;cases ho;cases hcl)).trans ho⟩
 have hIK:WideAt.IsKeyLit (Lit.int .u8 q):=K.key hkey;refine ⟨w',hrun,I.sz,I.df,⟨hg.os.trans I.bel.os,hg.tape.trans I.bel.tape,hg.output.trans I.bel.output,Nat.le_trans I.bel.size hg.size,fun k hk=>(hg.block k (Nat.lt_of_lt_of_le hk I.bel.size) (fun e=>by simp only [Option.some.injEq] at e;omega)).trans (I.bel.block k hk)⟩,I.t1,I.t2,aF.mono _ hk I.p1r,fun j d' t hj hL hd' ht=>?_,fun h=>?_,fun _=>?_,fun h=>?_,fun h=>?_⟩
 ·have hji:j≠i:=fun e=>by rw [e,hi] at hd';cases hd'
  exact aH.mH hk (I.sl j d' t hj (hJ hL hji) hd' ht)
 ·simp [Lx,hL0] at h
 ·refine ⟨b,n+1,D.put (.int .u8 q) (.held v),rfl,hb1,hown',hm.put _ _,by omega,fun h z=>?_,fun h z=>?_⟩
  ·show _=DataW.held (a.tmps.getD 15 Go.undef);by_cases e:i=11
   ·obtain ⟨rfl,_,hv⟩:=h3 e;rw [Maps.atKey_put_same hm hIK,hv]
   ·rw [Maps.atKey_put_other (fun h=>n3 e (Lit.int.inj h).2.symm)];exact ha3 (hJ h (fun h=>e h.symm)) z
  ·show _=DataW.held (a.tmps.getD 22 Go.undef);by_cases e:i=20
   ·obtain ⟨rfl,_,hv⟩:=h5 e;rw [Maps.atKey_put_same hm hIK,hv]
   ·rw [Maps.atKey_put_other (fun h=>n5 e (Lit.int.inj h).2.symm)];exact ha5 (hJ h (fun h=>e h.symm)) z
 ·by_cases e:i=11
  ·simp [Lx,(h3 e).2.1]
  ·have:=I.c11 (hJ h (fun h=>e h.symm));simp [Lx,this]
 ·by_cases e:i=20
  ·simp [Lx,(h5 e).2.1]
  ·have:=I.c20 (hJ h (fun h=>e h.symm));simp [Lx,this]
end
end Go.Sy
namespace Go.Sy
open Go Go.Proofs Go.RowKit Tryz Ord
noncomputable def bH:Array Oper:=match f142.body with
 | some (.seq _ (.seq _ (.seq _ (.seq (.region _ ops _) _))))=>ops
 | _=>#[]
theorem eJ {i:Nat} {o o':Oper} (h:bH[i]? = some o) (h':bH[i]? = some o'):o=o':=Option.some.inj (h.symm.trans h')
theorem gX:bH.size=23:=rfl
theorem Bw {v:Value} (h:v.oneCell'=true):v.cells = #[v]:=by
 cases v<;>simp_all [Value.oneCell',Value.cells]
theorem Qa {x y:Value} (hx:x.oneCell'=true) (hy:y.oneCell'=true) (w:World):(Instr.build 204 #[(0,x),(1,y)]).run prog w = .ok (.agg #[x,y]) w:=by
 obtain ⟨fs,hu,hp⟩:=rR (show vH prog 204=some [(0,1),(1,1)] by kernel_rfl);obtain ⟨i,zv,hi,hz,hzc,_,_⟩:=cV (show iZ prog 204=some [.slice none 0 0, .nilFunc] by kernel_rfl);refine run_build w 204 _ _ ?_;simp only [Program.built,hi,hu,hz,hp];simp [Instr.fill,Bw hx,Bw hy,hzc]
theorem qL {P:Program} {Q:Exit→Act→World→Prop} {K:Act→World→Prop} {M:Nat→Prop} {o:Oper} {c:Call} {x:Operand} {f:FuncId} {ts:List aH} {t:aH} {a:Act} {w:World} (ho:o.op = .call c) (hc:c.callee = .value x) (hx:a.eval x = .func (.func f) #[] #[]) (hd:aJ P f ts (.ret [t])) (hM:cM M w) (hargs:bV M w ts (c.args.toList.map a.eval)) (hK:∀ v w',Below w.heap.size w w'→t.rep M w' v→K (a.put o.dst v) w'):o.wp P a w K Q:=by
 unfold Oper.wp;rw [oS ho hc (cvs:=[]) hx hd.1];rw [Oper.upon_enter,List.append_nil];refine (hd.2 M w _ hM hargs).mono ?_;rintro e w' ⟨hb,vs,rfl,hr⟩
 match vs,hr with
 | [v],hr=>exact hK v w' hb hr.1
 | [],hr=>exact hr.elim
 | _::_::_,hr=>exact hr.2.elim
theorem Vl {u v:List Value} (hu3:u.length=3) (hv3:v.length=3) (w:World):∃ sl w',(Instr.buildSlice 72 2 #[(0, .agg u.toArray),(1, .agg v.toArray)]).run prog w = .ok sl w'∧sl.oneCell'=true∧Below w.heap.size w w':=by
 obtain ⟨ie,hu,hie,hies,hieb⟩:=bJ eE;obtain ⟨i,zv,hi,hz,hzc,_,hzs⟩:=cV (show iZ prog 39=some [.slice none 0 0, .bool false, .slice none 0 0] by kernel_rfl);rw [hie] at hi;simp only [Option.some.injEq] at hi;subst hi
 match u,hu3,v,hv3 with
 | [u0,u1,u2],_,[v0,v1,v2],_=>
   have h:=Go.run_buildSlice (P:=prog) w 72 39 2 #[(0, .agg #[u0,u1,u2]),(1, .agg #[v0,v1,v2])] #[u0,u1,u2,v0,v1,v2] ie zv hu hie hz (by rw [hies];decide) (by rw [hies];decide) (by
    rw [hies,hzc];simp [Instr.fill,Value.cells,Array.range];rfl)
   exact ⟨_,_,h,rfl,(Below.refl _ w).alloc (Nat.le_refl _) _⟩
theorem gR {a:Act} {o:Oper} {X Y:Operand} (ho:o.op = .build 204 #[(0,X),(1,Y)]) (hx:(a.eval X).oneCell'=true) (hy:(a.eval Y).oneCell'=true) (W:World):(execOp a.eval o).run prog W = .ok (.value (.agg #[a.eval X,a.eval Y])) W:=by
 have:=Qa hx hy W;simp only [execOp,ho,List.map_toArray,List.map_cons,List.map_nil,Sem.run_bind,this,Result.andThen_ok,Sem.run_pure]
theorem mP {a:Act} {o:Oper} {m k x:Operand} {W w':World} (ho:o.op = .insert 206 m k x) (h:(Instr.mapUpdate 206 (a.eval m) (a.eval k) (a.eval x)).run prog W = .ok () w'):(execOp a.eval o).run prog W = .ok .skip w':=by
 simp only [execOp,ho,Sem.run_bind,h,Result.andThen_ok,Sem.run_pure]
theorem Io {a:Act} {o:Oper} {X Y:Operand} {u v:List Value} (ho:o.op = .buildSlice 72 2 #[(0,X),(1,Y)]) (hx:a.eval X = .agg u.toArray) (hy:a.eval Y = .agg v.toArray) (hu:u.length=3) (hv:v.length=3) (W:World):∃ sl w',(execOp a.eval o).run prog W = .ok (.value sl) w'∧sl.oneCell'=true∧Below W.heap.size W w':=by
 obtain ⟨sl,w',h,h1,h2⟩:=Vl hu hv W;refine ⟨sl,w',?_,h1,h2⟩;simp only [execOp,ho,List.map_toArray,List.map_cons,List.map_nil,hx,hy,Sem.run_bind,h,Result.andThen_ok,Sem.run_pure]
theorem DQ {Q:Exit→Act→World→Prop} {K:Act→World→Prop} {M:Nat→Prop} {o:Oper} {x:Operand} {c:aF} {a:Act} {W:World} (ho:o.op = .load 72 x) (hr:(aF.bM [c]).rep M W (a.eval x)) (hK:∀ v,c.rep M W v→K (a.put o.dst v) W):o.wp prog a W K Q:=by
 obtain ⟨v,h,hv⟩:=dA (x:=x) (ty:=o.type) (c:=c) CB M W a.eval o ho rfl ⟨hr,trivial⟩;exact aW h (hK v hv)
theorem Mg {Q:Exit→Act→World→Prop} {K:Act→World→Prop} {o:Oper} {X Y:Operand} {u v:List Value} {a:Act} {W:World} (ho:o.op = .buildSlice 72 2 #[(0,X),(1,Y)]) (hx:a.eval X = .agg u.toArray) (hy:a.eval Y = .agg v.toArray) (hu:u.length=3) (hv:v.length=3) (hK:∀ sl w',sl.oneCell'=true→Below W.heap.size W w'→K (a.put o.dst sl) w'):o.wp prog a W K Q:=by
 obtain ⟨sl,w',h,h1,h2⟩:=Io ho hx hy hu hv W;exact aW h (hK sl w' h1 h2)
section
variable {M:Nat→Prop} {w0:World} {p1 v2:Value}
set_option maxRecDepth 100000 in
theorem Lb (hM:cM M w0) (h2:v2.oneCell'=true) (L:Nat→Bool) (i:Nat) (o:Oper) (a:Act) (W:World) (ho:bH[i]? = some o) (hL:L i=false) (hdep:∀ j∈aR o,L j=true) (hcl:∀ j o',bH[j]? = some o'→L j=true→∀ x∈aR o',L x=true)
  (h:∃ ob,FI M w0 p1 v2 L ob a W) (Q:Exit→Act→World→Prop):wpOp prog bH Q i (fun a W=>∃ ob,FI M w0 p1 v2 (Lx L i) ob a W) a W:=by
 obtain ⟨ob,I⟩:=h;have hi:i<23:=by rw [←gX];exact (Array.getElem?_eq_some_iff.1 ho).1
 have FM:cM M W:=⟨fun b hb=>Nat.lt_of_lt_of_le (hM.1 b hb) I.bel.size,hM.2.below rfl I.bel⟩
 have hob:L 0=true→a.tmps.getD 7 Go.undef = .map ob:=fun h0=>(I.sl 0 7 _ (by omega) h0 rfl rfl).1
 match i,hi with
 | 0,_=>
   obtain rfl:=eJ ho (rfl:bH[0]? = some _)
   have c0:∀ j o',bH[j]? = some o'→0∈aR o'→L j=false:=fun j o' h1 h2=>by
    cases hj:L j with
    | false=>rfl
    | true=>rw [hcl j o' h1 hj 0 h2] at hL;cases hL
   refine bW ho rfl (aW (v:=.map (some W.heap.size)) (w':=W.alloc (.map #[] 0)) rfl ⟨_,I.made hL (c0 21 _ rfl (by decide)) (c0 22 _ rfl (by decide)) (c0 11 _ rfl (by decide)) (c0 20 _ rfl (by decide))⟩)
 | 1,_=>
   obtain rfl:=eJ ho (rfl:bH[1]? = some _);refine bW ho rfl (qL rfl rfl rfl NF FM trivial fun v w' hb hr=>⟨ob,I.put (by omega) hL rfl (by omega) hb fun t ht=>?_⟩);cases ht;exact hr
 | 2,_=>
   obtain rfl:=eJ ho (rfl:bH[2]? = some _);refine bW ho rfl (aW rfl ⟨ob,I.put (by omega) hL rfl (by omega) (Below.refl _ _) fun t ht=>?_⟩);cases ht;exact ⟨I.t2,h2⟩
 | 3,_=>
   obtain rfl:=eJ ho (rfl:bH[3]? = some _);have hx:=I.sl 1 8 _ (by omega) (hdep 1 (by decide)) rfl rfl;have hy:=I.sl 2 9 _ (by omega) (hdep 2 (by decide)) rfl rfl;refine bW ho rfl (aW (gR rfl (aF.one _ hx) (aF.one _ hy) W) ⟨ob,I.put (by omega) hL rfl (by omega) (Below.refl _ _) fun t ht=>?_⟩);cases ht
 | 4,_=>
   obtain rfl:=eJ ho (rfl:bH[4]? = some _);have h0:=hdep 0 (by decide);obtain ⟨w',hr,I2⟩:=I.ins (i:=4) (v:=a.tmps.getD 10 Go.undef) (q:=1) (by decide) rfl (by omega) h0 (by simp [HY,Lx,hL]<;>omega) (fun e=>by omega) (fun e=>by omega) (by omega) (by omega);refine bW ho rfl (fF (mP rfl (by rw [show a.eval (.tmp 7) = .map ob from hob h0];exact hr)) ⟨ob,I2⟩)
 | 5,_=>
   obtain rfl:=eJ ho (rfl:bH[5]? = some _);refine bW ho rfl (DQ (c:=sQ fU) rfl (by show (aF.bM [sQ fU]).rep M W (a.tmps.getD 1 Go.undef);rw [I.t1];exact I.p1r) fun v hv=>⟨ob,I.put (by omega) hL rfl (by omega) (Below.refl _ _) fun t ht=>?_⟩);cases ht;exact hv
 | 6,_=>
   obtain rfl:=eJ ho (rfl:bH[6]? = some _);refine bW ho rfl (aW rfl ⟨ob,I.put (by omega) hL rfl (by omega) (Below.refl _ _) fun t ht=>?_⟩);cases ht;exact ⟨I.t2,h2⟩
 | 7,_=>
   obtain rfl:=eJ ho (rfl:bH[7]? = some _);have hx:=I.sl 5 11 _ (by omega) (hdep 5 (by decide)) rfl rfl;have hy:=I.sl 6 12 _ (by omega) (hdep 6 (by decide)) rfl rfl;refine bW ho rfl (aW (gR rfl (aF.one _ hx) (aF.one _ hy) W) ⟨ob,I.put (by omega) hL rfl (by omega) (Below.refl _ _) fun t ht=>?_⟩);cases ht
 | 8,_=>
   obtain rfl:=eJ ho (rfl:bH[8]? = some _);have h0:=hdep 0 (by decide);obtain ⟨w',hr,I2⟩:=I.ins (i:=8) (v:=a.tmps.getD 13 Go.undef) (q:=2) (by decide) rfl (by omega) h0 (by simp [HY,Lx,hL]<;>omega) (fun e=>by omega) (fun e=>by omega) (by omega) (by omega);refine bW ho rfl (fF (mP rfl (by rw [show a.eval (.tmp 7) = .map ob from hob h0];exact hr)) ⟨ob,I2⟩)
 | 9,_=>
   obtain rfl:=eJ ho (rfl:bH[9]? = some _);refine bW ho rfl (qL rfl rfl rfl NF FM trivial fun v w' hb hr=>⟨ob,I.put (by omega) hL rfl (by omega) hb fun t ht=>?_⟩);cases ht;exact hr
 | 10,_=>
   obtain rfl:=eJ ho (rfl:bH[10]? = some _);have hx:=I.sl 9 14 _ (by omega) (hdep 9 (by decide)) rfl rfl;refine bW ho rfl (aW (gR rfl (aF.one _ hx) rfl W) ⟨ob,I.put (by omega) hL rfl (by omega) (Below.refl _ _) fun t ht=>?_⟩);cases ht;exact ⟨[_,_],rfl,hx,⟨rfl,rfl⟩,trivial⟩
 | 11,_=>
   obtain rfl:=eJ ho (rfl:bH[11]? = some _);have h0:=hdep 0 (by decide);obtain ⟨w',hr,I2⟩:=I.ins (i:=11) (v:=a.tmps.getD 15 Go.undef) (q:=3) (by decide) rfl (by omega) h0 (by simp [HY,Lx,hL]<;>omega) (fun _=>⟨rfl,hdep 10 (by decide),rfl⟩) (fun e=>by omega) (by omega) (by omega);refine bW ho rfl (fF (mP rfl (by rw [show a.eval (.tmp 7) = .map ob from hob h0];exact hr)) ⟨ob,I2⟩)
 | 12,_=>
   obtain rfl:=eJ ho (rfl:bH[12]? = some _);refine bW ho rfl (qL rfl rfl rfl (fK 1 (by omega) (by omega)) FM ⟨⟨rfl,rfl⟩,trivial⟩ fun v w' hb hr=>⟨ob,I.put (by omega) hL rfl (by omega) hb fun t ht=>?_⟩);cases ht;exact hr
 | 13,_=>
   obtain rfl:=eJ ho (rfl:bH[13]? = some _);refine bW ho rfl (qL rfl rfl rfl (fK (-1) (by omega) (by omega)) FM ⟨⟨rfl,rfl⟩,trivial⟩ fun v w' hb hr=>⟨ob,I.put (by omega) hL rfl (by omega) hb fun t ht=>?_⟩);cases ht;exact hr
 | 14,_=>
   obtain rfl:=eJ ho (rfl:bH[14]? = some _);obtain ⟨us,e1,hu⟩:=I.sl 12 16 _ (by omega) (hdep 12 (by decide)) rfl rfl;obtain ⟨vs,e2,hv⟩:=I.sl 13 17 _ (by omega) (hdep 13 (by decide)) rfl rfl;refine bW ho rfl (Mg rfl e1 e2 hu.length.symm hv.length.symm fun sl w' h1 hb=>⟨ob,I.put (by omega) hL rfl (by omega) hb fun t ht=>?_⟩);cases ht;exact h1
 | 15,_=>
   obtain rfl:=eJ ho (rfl:bH[15]? = some _);have hx:=I.sl 14 18 _ (by omega) (hdep 14 (by decide)) rfl rfl;refine bW ho rfl (aW (gR rfl (aF.one _ hx) rfl W) ⟨ob,I.put (by omega) hL rfl (by omega) (Below.refl _ _) fun t ht=>?_⟩);cases ht
 | 16,_=>
   obtain rfl:=eJ ho (rfl:bH[16]? = some _);have h0:=hdep 0 (by decide);obtain ⟨w',hr,I2⟩:=I.ins (i:=16) (v:=a.tmps.getD 19 Go.undef) (q:=4) (by decide) rfl (by omega) h0 (by simp [HY,Lx,hL]<;>omega) (fun e=>by omega) (fun e=>by omega) (by omega) (by omega);refine bW ho rfl (fF (mP rfl (by rw [show a.eval (.tmp 7) = .map ob from hob h0];exact hr)) ⟨ob,I2⟩)
 | 17,_=>
   obtain rfl:=eJ ho (rfl:bH[17]? = some _);refine bW ho rfl (DQ (c:=sQ fU) rfl (by show (aF.bM [sQ fU]).rep M W (a.tmps.getD 1 Go.undef);rw [I.t1];exact I.p1r) fun v hv=>⟨ob,I.put (by omega) hL rfl (by omega) (Below.refl _ _) fun t ht=>?_⟩);cases ht;exact hv
 | 18,_=>
   obtain rfl:=eJ ho (rfl:bH[18]? = some _);refine bW ho rfl (aW rfl ⟨ob,I.put (by omega) hL rfl (by omega) (Below.refl _ _) fun t ht=>?_⟩);cases ht;exact ⟨by simp only [List.map_toArray,List.map_cons,List.map_nil];rw [←I.t1];rfl,rfl⟩
 | 19,_=>
   obtain rfl:=eJ ho (rfl:bH[19]? = some _);have hx:=I.sl 17 20 _ (by omega) (hdep 17 (by decide)) rfl rfl;have hy:=I.sl 18 21 _ (by omega) (hdep 18 (by decide)) rfl rfl;refine bW ho rfl (aW (gR rfl (aF.one _ hx) (aF.one _ hy) W) ⟨ob,I.put (by omega) hL rfl (by omega) (Below.refl _ _) fun t ht=>?_⟩);cases ht;exact ⟨[_,_],rfl,hx,hy,trivial⟩
 | 20,_=>
   obtain rfl:=eJ ho (rfl:bH[20]? = some _);have h0:=hdep 0 (by decide);obtain ⟨w',hr,I2⟩:=I.ins (i:=20) (v:=a.tmps.getD 22 Go.undef) (q:=5) (by decide) rfl (by omega) h0 (by simp [HY,Lx,hL]<;>omega) (fun e=>by omega) (fun _=>⟨rfl,hdep 19 (by decide),rfl⟩) (by omega) (by omega);refine bW ho rfl (fF (mP rfl (by rw [show a.eval (.tmp 7) = .map ob from hob h0];exact hr)) ⟨ob,I2⟩)
 | 21,_=>
   obtain rfl:=eJ ho (rfl:bH[21]? = some _);refine bW ho rfl (aW rfl ⟨ob,I.put (by omega) hL rfl (by omega) (Below.refl _ _) fun t ht=>?_⟩);cases ht;exact ⟨hob (hdep 0 (by decide)),rfl⟩
 | 22,_=>
   obtain rfl:=eJ ho (rfl:bH[22]? = some _);refine bW ho rfl (aW rfl ⟨ob,I.put (by omega) hL rfl (by omega) (Below.refl _ _) fun t ht=>?_⟩);cases ht;exact I.sl 21 23 _ (by omega) (hdep 21 (by decide)) rfl rfl
 | n+23,h=>omega
end
open Go Go.Proofs Go.RowKit Tryz Ord
attribute [local go_sem] Oper.semAt_some
theorem FL:∀ i o,bH[i]? = some o→∀ j∈aR o,j<i:=by
 intro i o ho;have hi:i<23:=by rw [←gX];exact (Array.getElem?_eq_some_iff.1 ho).1
 have h:(List.range 23).all (fun i=>match bH[i]? with | some o=>(aR o).all (fun j=>decide (j<i)) | none=>true)=true:=by kernel_rfl
 have h1:=List.all_eq_true.1 h i (List.mem_range.2 hi);rw [ho] at h1;intro j hj;exact of_decide_eq_true (List.all_eq_true.1 h1 j hj)
theorem xQ (n j:Nat):(Array.replicate n false).getD j false=false:=by
 rw [Array.getD_eq_getD_getElem?];cases h:(Array.replicate n false)[j]? with
 | none=>rfl
 | some b=>have:=(Array.getElem?_eq_some_iff.1 h).2;simp at this;subst this;rfl
structure Mo (M:Nat→Prop) (n0:Nat) (W:World) (v:Value):Prop where
 ex:∃ b n D u3 u5 p1,v = .map (some b)∧n0≤b∧W.ownsMap prog 5 hR b n D∧(∀ z,D.atKey (.int .u8 3) z = .held (.agg #[u3, .func (.func 220) #[] #[]]))∧(sQ [0,1]).rep M W u3 ∧
  (∀ z,D.atKey (.int .u8 5) z = .held (.agg #[u5, .func (.func 223) #[] #[p1]]))∧(sQ fU).rep M W u5∧(aF.bM [sQ fU]).rep M W p1
set_option maxRecDepth 100000 in
set_option maxHeartbeats 1000000 in
theorem DK (M:Nat→Prop) (w:World) (hM:cM M w):Calls prog 142 #[] w fun e w'=>Below w.heap.size w w'∧∃ v,e = .returned v∧Mo M w.heap.size w' v:=by
 refine calls_of_wp func142 rfl ?_;simp only [ntmps142,List.size_toArray,List.length_cons,List.length_nil,Nat.reduceAdd,Nat.reduceSub,Array.replicate_succ,Array.replicate_zero,List.push_toArray,List.append_toArray,List.nil_append,List.cons_append];refine FT (n:=2) (ins:=[]) (xs:=[]) fo trivial Pc (by kernel_rfl) hM rfl rfl trivial ?_ (by intro c v a' w' h;cases h);intro e a' W1 rs us hrs hex hB1 hsz hdf hrun hus;cases hrs;cases e with
 | exit id=>cases hex
 | ret=>cases hex
 | normal=>
 have huse:=iI hrun;subst huse;obtain ⟨h1,h2,_⟩:=hus;have h1:(aF.bM [sQ fU]).rep M W1 (a'.tmps.getD 1 Go.undef):=h1;have h2:(aF.dK 218 [.bM [sQ fU]]).rep M W1 (a'.tmps.getD 2 Go.undef):=h2;obtain ⟨t,ds⟩:=a';have hds:ds = []:=hdf;subst hds;have hsz:t.size=24:=hsz;have hM1:cM M W1:=⟨fun b hb=>Nat.lt_of_lt_of_le (hM.1 b hb) hB1.size,hM.2.below rfl hB1⟩
 show Code.wp _ (qV 2 _) _ _ _;simp only [qV];have hWd:Below W1.heap.size W1 { W1 with drawn:=W1.drawn+1 }:=⟨rfl,rfl,rfl,Nat.le_refl _,fun _ _=>rfl⟩
 refine wp_seq (wp_region_any (ops:=bH) fo (FN (fun L a W=>∃ ob,FI M W1 (t.getD 1 Go.undef) (t.getD 2 Go.undef) L ob a W) (fun L i o a W ho hL hdep hcl h=>Lb hM1 (aF.one _ h2) L i o a W ho hL hdep hcl h _) FL ?_ _ _ _ _ (by simp) ?_ (Nat.le_trans (List.length_filter_le _ _) (by simp [gX])) ?_))
 ·rintro L a W hall ⟨ob,I⟩;refine wp_ret ?_;obtain ⟨b,n,D,rfl,hb1,hown,hm,hn,ha3,ha5⟩:=I.map (hall 0 (by rw [gX];omega));have hL:∀ j,j<23→L j=true:=fun j hj=>hall j (by rw [gX];exact hj);obtain ⟨us,e3,hu3⟩:=I.sl 10 15 _ (by omega) (hL 10 (by omega)) rfl rfl;obtain ⟨vs,e5,hu5⟩:=I.sl 19 22 _ (by omega) (hL 19 (by omega)) rfl rfl;have e0:=(I.sl 22 0 _ (by omega) (hL 22 (by omega)) rfl rfl).1
  match us,hu3,vs,hu5 with
  | [u3,f3],hu3,[u5,f5],hu5=>
    have hf3:f3=_:=hu3.2.1.1;have hf5:f5=_:=hu5.2.1.1;subst hf3 hf5;rw [e3] at ha3;rw [e5] at ha5;simp [bodyPost,results,show f142.results = #[.tmp 0] from rfl,go_sem];rw [Array.getD_eq_getD_getElem?] at e0;rw [e0];exact ⟨I.df,hB1.trans (I.bel.mono hB1.size),⟨_,n,D,u3,u5,t.getD 1 Go.undef,rfl,Nat.le_trans hB1.size hb1,hown,ha3 (hL 11 (by omega)),hu3.1,ha5 (hL 20 (by omega)),hu5.1,I.p1r⟩⟩
  | [],h,_,_=>exact h.elim
  | [_],h,_,_=>exact h.2.elim
  | _::_::_::_,h,_,_=>exact h.2.2.elim
  | _,_,[],h=>exact h.elim
  | _,_,[_],h=>exact h.2.elim
  | _,_,_::_::_::_,h=>exact h.2.2.elim
 ·intro j o' ho hj;rw [xQ] at hj;cases hj
 ·have hF:∀ j,(Array.replicate bH.size false).getD j false=false:=xQ _;exact ⟨none,hsz,rfl,hWd,rfl,rfl,aF.mono _ (bF.below hWd) h1,fun j d t' hj hL=>(by rw [hF] at hL;cases hL),fun _=>rfl,fun h=>(by rw [hF] at h;cases h),fun h=>(by rw [hF] at h;cases h),fun h=>(by rw [hF] at h;cases h)⟩
end Go.Sy
