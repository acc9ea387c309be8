/- Part. -/
import Derived.Test.YtdmcadckdnnglaaGreatDoorKd
set_option linter.all false
namespace Go.Sy
section
variable{P:n7}{ops:n9}{Q:lg}
def Ym(I:(Nat->Bool)->Act->World->Prop)
  (step:∀(L:j7)(i:Nat)(o:Oper)(a:Act)(w:World),ops[i]?=some o->L i=false->(∀j∈bj o,L j=true)->(∀j o',ops[j]?=some o'->L j=true->∀x∈bj o',L x=true)->I L a w->wpOp P ops Q i (I fun j=>L j || j==i) a w)
  (hlt:∀i o,ops[i]?=some o->∀j∈bj o,j<i)
  (fin:∀(L:j7)a w,(∀j,j<ops.size->L j=true)->I L a w->Q .normal a w) :
  ∀(fuel:Nat)(listed:Array Bool)a w,listed.size=ops.size->(∀j o',ops[j]?=some o'->listed.getD j false=true->∀x∈bj o',listed.getD x false=true)->((List.range ops.size).filter fun j=>!listed.getD j true).length<=fuel->I (fun j=>listed.getD j false) a w->wpAny P .any ops Q fuel listed a w:=by
 have hdone:∀(listed:Array Bool)a w,listed.size=ops.size->Region.ready .any ops listed=[]->I (fun j=>listed.getD j false) a w->Q .normal a w:=by
  intro listed a w hsz hr hI;refine fin _ a w ?_ hI;intro j
  induction j using Nat.strongRecOn with
  | _ j ih=>
    intro hj;cases hl:listed.getD j false with
    | true=>rfl
    | false=>
      exfalso
      obtain⟨o,hoj⟩:∃o,ops[j]?=some o:=⟨_,wg hj⟩
      have:j∈Region.ready .any ops listed:=by
       rw[wx];refine⟨?_,o,hoj,fun e he hb=>?_⟩
       .have hjs:j<listed.size:=O
        simp only[iG,wg hjs,ib]at hl|-;exact hl
       .have hm:e.on∈bj o:=sA.2 ⟨e,he,hb,rfl⟩;have hlt':=hlt j o hoj e.on hm;exact ih e.on hlt' O
      rw[hr]at this;cases this
 intro fuel
 induction fuel with
 | zero=>
   intro listed a w hsz hcl hfu hI
   have hr:Region.ready .any ops listed=[]:=by
    apply ag1.2;intro j hj;rw[wx]at hj;obtain⟨h1,o,h2,_⟩:=hj;have hjs:j<ops.size:=(cf.1 h2).1
    have hm:j∈(List.range ops.size).filter fun j=>!listed.getD j true:=by
     rw[AU];exact⟨gO.2 hjs,by rw[h1];rfl⟩
    have hl:=Zm hm;omega
   exact⟨hr,hdone listed a w hsz hr hI⟩
 | succ fuel ih=>
   intro listed a w hsz hcl hfu hI;refine⟨fun hr=>hdone listed a w hsz hr hI,fun i hi=>?_⟩;rw[wx]at hi;obtain⟨hl,o,hoi,haft⟩:=hi;have his:i<ops.size:=(cf.1 hoi).1;have hils:i<listed.size:=O
   have hlf:listed.getD i false=false:=by
    simp only[iG,wg hils,ib]at hl|-;exact hl
   have hdeps:∀j∈bj o,listed.getD j false=true:=fun j hj=>by
    obtain⟨e,he,hb,rfl⟩:=sA.1 hj;exact haft e he hb
   refine wpOp_mono ?_ (step (fun j=>listed.getD j false) i o a w hoi hlf hdeps hcl hI)
   .intro a' w' hI'
    have hset:(fun j=>(listed.setIfInBounds i true).getD j false)=fun j=>listed.getD j false || j==i:=by
     funext j
     by_cases hji:j=i
     .subst hji;simp[hils]
     .rw[_root_.Go.getD_set_ne false (Ne.symm hji)];simp[hji]
    refine ih _ a' w' (by simp[hsz]) (fun j o' hj hl x hx=>?_) ?_ (by rw[hset];exact hI')
    .have hs:=fun k=>congrFun hset k;rw[hs]at hl|-;rw[pH]at hl|-;rcases hl with hl | hl
     .exact .inl (hcl j o' hj hl x hx)
     .obtain rfl:j=i:=by simpa using hl
      rw[hoi]at hj;cases hj;exact .inl (hdeps x hx)
    have h1:((List.range ops.size).filter fun j=>!(listed.setIfInBounds i true).getD j true).length<((List.range ops.size).filter fun j=>!listed.getD j true).length:=by
     have e1:((List.range ops.size).filter fun j=>!(listed.setIfInBounds i true).getD j true)=((List.range ops.size).filter fun j=>!listed.getD j true).filter fun j=>j != i:=by
      rw[List.filter_filter];apply List.filter_congr;intro j _;by_cases hji:j=i
      .subst hji;simp[hils]
      .rw[_root_.Go.getD_set_ne true (Ne.symm hji)];simp[hji]
     rw[e1,Zz];refine⟨i,?_,bY⟩;rw[AU];exact⟨gO.2 his,by rw[hl];rfl⟩
    omega
end
open Go Go.Proofs Go.RowKit Tryz Ord
def zE(E:j0)(X:Rat)(Y:j1)(k:Int):Nat->Rat->Rat->Except Int VS
 | 0,a,b=>match iP E X Y k a b with
   | some z=>.ok z
   | none=>.error (match rM E X Y k a b with
     | .error e=>e
     | .ok _=>14)
 | n+1,a,b=>match iP E X Y k a b with
   | some z=>.ok z
   | none=>match zE E X Y k n a (ao (a+b))with
     | .error e=>.error e
     | .ok x=>match zE E X Y k n (ao (a+b)) b with
       | .error e=>.error e
       | .ok y=>.ok (x++y)
def aK8{E:j0}{X:Rat}{Y:j1}{k:Int}:∀(n:Nat)(a b:Rat)(z:VS),zE E X Y k n a b=.ok z->vd E X Y k n a b=some z/\z.length<=2^n:=by
 have base:∀{a b:Rat}{z:VS}(n:Nat),iP E X Y k a b=some z->z.length<=2^n:=fun n h=>by
  have:1<=2^n:=aw O;rcases uM h with rfl | rfl | rfl<;>simp <;> omega
 intro n
 induction n with
 | zero=>
   intro a b z h;unfold zE at h;split at h
   .rename_i z' hz;cases h;exact⟨hz,base 0 hz⟩
   .cases h
 | succ n ih=>
   intro a b z h;unfold zE at h;unfold vd Af;split at h
   .rename_i z' hz;cases h;rw[hz];exact⟨rfl,base _ hz⟩
   .rename_i hz;split at h
    .cases h
    .rename_i x hx;split at h
     .cases h
     .rename_i y hy;cases h;obtain⟨h1,h2⟩:=ih _ _ _ hx;obtain⟨h3,h4⟩:=ih _ _ _ hy;unfold vd at h1 h3;rw[hz];dsimp only;rw[h1,h3];refine⟨rfl,?_⟩;rw[gK,bF];omega
def cm8{E:j0}{X:Rat}{Y:j1}{k:Int}:∀(n:Nat)(a b:Rat)(e:Int),zE E X Y k n a b=.error e->e=5\/e=14:=by
 intro n
 induction n with
 | zero=>
   intro a b e h;unfold zE at h;split at h
   .cases h
   .split at h
    .rename_i e' he;cases h;exact Oz he
    .cases h;exact .inr rfl
 | succ n ih=>
   intro a b e h;unfold zE at h;split at h
   .cases h
   .split at h
    .rename_i e' he;cases h;exact ih _ _ _ he
    .split at h
     .rename_i e' he;cases h;exact ih _ _ _ he
     .cases h
def bz0(M:j2)(w w':World)(c:Except Int VS)(e:Ending):Prop:=match c with
 | .ok z=>∃v,e=.returned v/\Ah M w w' 123 6 (vS z) v
 | .error er=>e=.panicked [{ v:=LR er,recovered:=false }]
def vK(E:j0)(X:Rat)(Y:j1)(k d:Int)(a b:Rat)(c:Except Int VS):Prop:=
 ∀(M:j2)(w:World)(vs:n5),cX M w->cW M w [fT E X Y,kP a b,.one (.int .i64 k),.one (.int .i64 d)] vs->Calls prog 172 vs.toArray w fun e w'=>Below w.heap.size w w'/\bz0 M w w' c e
def Ww{P:n7}{M:j2}{w:World}{T ty E sz by_ base:Nat}{ie:TypeInfo}{zv:Value}(hu:P.underlying T=some (.slice E))(hie:P.info? E=some ie)(hies:ie.size=sz)(hieb:ie.bytes=by_)(hz:ie.zero=some zv)(hzs:zv.cells.size=ie.size)(hpos:0<sz)
  {v u:Value} {ts us:List (List aE)} {xs:n5} (hown:w.ownsRow base E sz v ts.length xs) (hr:ai M w ts.flatten xs) (hsrc:Src w M sz us u) (hby:(ts.length+us.length)*by_<=140737488355328) (hm:ts.length+us.length<=maxLen) (hbase:base<=w.heap.size) (hvM:∀g,v.ownBlock=some g->M g) :
  ∃v' w' ys,(Builtin.append_ #[T,T] ty #[v,u]).run P w=.ok v' w'/\w'.ownsRow base E sz v' (ts++us).length ys/\w.grownBy w' v.ownBlock/\ai (fun b=>(M b/\v.ownBlock≠some b)\/v'.ownBlock=some b) w' (ts++us).flatten ys:=by
 cases hsrc with
 | nil c hv hus=>
   subst hv hus;have:=ux (P:=P) w T ty E ie hu hie base sz v ts.length c xs hown;refine⟨v,w,xs,this,by rw[dD];exact hown,⟨rfl,rfl,rfl,ah _,fun _ _ _=>rfl⟩,?_⟩;rw[dD];exact hr.mono fun b o hb ho _=>⟨fun h=>h.elim (fun h=>hb h.1) (fun h=>hb (hvM b h)),ho⟩
 | some ad c news hv hl hn hrn hsn=>
   subst hv;have hr':ai M w (ts++us).flatten (xs++news):=by rw[oB];exact hr.append hrn
   have hone:=hrn.one;have hzsz:zv.cells.size=sz:=by rw[hzs,hies]
   have main:∀v' w',(Builtin.append_ #[T,T] ty #[v,.slice (some ad) us.length c]).run P w=.ok v' w'->w'.ownsRow base E sz v' (ts.length+us.length) (xs++news)->w.grownBy w' v.ownBlock->(∀g,v'.ownBlock=some g->w.heap.size<=g\/v.ownBlock=some g) ->
     ∃v' w' ys,(Builtin.append_ #[T,T] ty #[v,.slice (some ad) us.length c]).run P w=.ok v' w'/\w'.ownsRow base E sz v' (ts++us).length ys/\w.grownBy w' v.ownBlock/\ai (fun b=>(M b/\v.ownBlock≠some b)\/v'.ownBlock=some b) w' (ts++us).flatten ys:=by
    intro v' w' hrv hown' hgr hg;refine⟨v',w',xs++news,hrv,by rw[gK];exact hown',hgr,hr'.mono fun b o hb ho _=>?_⟩;have hlt:=(cf.1 ho).1;refine⟨fun h=>?_,?_⟩
    .rcases h with h | h
     .exact hb h.1
     .rcases hg b h with h | h
      .omega
      .exact hb (hvM b h)
    .rw[hgr.block b hlt (fun e=>hb (hvM b e.symm))];exact ho
   rcases hown.2 with⟨hv,hn0⟩ | ⟨g,cap,cur,hv,hbg,hg,hnc,hcm,hcs,htake⟩
   .have hown2:w.ownsRow w.heap.size E sz v ts.length xs:=⟨hown.1,.inl ⟨hv,hn0⟩⟩
    obtain⟨v',w',hr1,hr2,hr3,_⟩:=Gj (P:=P) w w.heap.size T ty E ie zv sz by_ hu hie hz hies hieb hzsz hpos v ts.length xs hown2 ad us.length c news hl hn hone hm hby (ah _);exact main v' w' hr1 (mY hr2 hbase) hr3 (fun g hg=>.inl (hr2.lt g hg).1)
   .by_cases hroom:ts.length+us.length<=cap
    .obtain⟨w',hr1,hr2,hr3⟩:=run_append_fits (P:=P) w base T ty E ie sz hu hie hies g ts.length cap xs (by rw[<-hv];exact hown) ad us.length c news hl hn hone hroom;subst hv;exact main _ w' hr1 hr2 hr3 (fun g' hg'=>.inr hg')
    .have hm':ts.length+us.length<=9223372036854775807:=by simpa[maxLen]using hm
     obtain⟨v',w',hr1,hr2,hr3,_⟩:=Gj (P:=P) w base T ty E ie zv sz by_ hu hie hz hies hieb hzsz hpos v ts.length xs hown ad us.length c news hl hn hone hm hby hbase;have hr4:=run_append_grow (P:=P) w T ty E ie zv hu hie hz ⟨g,0,none⟩ ts.length cap xs (by rw[hown.1,hies]) (hown.cells (by rw[hv];rfl)) ad us.length c news (by rw[hl,hies]) hn O O (growslice_fits O (by rw[hieb];exact hby));refine main v' w' hr1 hr2 hr3 (fun g' hg'=>.inl ?_);rw[hv]at hr1;rw[hr4]at hr1
     have:v'=.slice (some ⟨w.heap.size,0,none⟩) (ts.length+us.length) (grownCap w (ts.length+us.length) cap E):=by
      injection hr1 with h1 h2;exact h1.symm
     rw[this]at hg';simp only[Value.ownBlock,aM]at hg';omega
theorem ai.part{M:j2}{w:World}{sz:Nat}:∀{ts:List (List aE)}{xs:n5},(∀t∈ts,t.length=sz)->ai M w ts.flatten xs->∀i t,ts[i]?=some t->ai M w t ((xs.drop (i*sz)).take sz)
 | [],_,_,_,i,t,h=>by simp at h
 | u::ts,xs,hl,hr,i,t,h=>by
   have hu:=hl u gG;rw[iY]at hr;cases i with
   | zero=>
     simp only[nL,aM]at h;subst h;have:=hr.take sz;rw[xD O,cU O]at this;rw[nV,gF];exact this
   | succ i=>
     have:=hr.drop sz;rw[wo O,List.drop_of_length_le O,List.nil_append]at this;have:=ai.part (fun t ht=>hl t (fj _ ht)) this i t (by simpa using h);rw[iX]at this;rw[Fg,iB];exact this
def Ah.slice{M N:j2}{w w':World}{E sz:Nat}{zs:List (List aE)}{v:Value}(h:Ah M w w' E sz zs v)(hN:∀b,N b->M b)(hv:∀b,N b->b<w.heap.size):(aE.slice sz zs).rep N w' v:=by
 obtain⟨xs,ho,hl,hr⟩:=h;rcases ho.2 with⟨rfl,h0⟩ | ⟨g,cap,cur,rfl,hbg,hg,hnc,hcm,hcs,ht⟩
 .have hz:zs=[]:=ij h0;subst hz;exact⟨none,0,rfl,ah _,cG _,.inl rfl⟩
 .refine⟨_,cap,rfl,hnc,hcm,.inr ⟨g,0,cur,E,(0,0),rfl,fun h=>?_,hg,fun i t hi=>⟨hl t (cj hi),?_⟩⟩⟩
  .have:=hv g h;omega
  .have hp:=ai.part hl hr i t hi;have hlen:i<zs.length:=(fK.1 hi).1;rw[<-ht,ox,pR]at hp;have h1:(i+1)*sz<=zs.length*sz:=cg _ hlen;rw[ba,cZ]at h1;rw[ek O]at hp;rw[bw];exact hp.mono fun b o hb ho _=>⟨fun h=>hb (.inl (hN b h)),ho⟩
def fQ{P:n7}{ops:n9}{Q:lg}{i:Nat}{o:Oper}{K:n6}{a:Act}{w:World}(ho:ops[i]?=some o)(hg:o.guard=none)(h:o.wp P a w K Q):wpOp P ops Q i K a w:=by
 unfold wpOp;rw[ho];simp only[Region.wanted,hg,bZ];exact .inl h
abbrev Lx(L:j7)(i:Nat):Nat->Bool:=fun j=>L j || j==i
def vP{a:Act}{d d':Nat}{v:Value}(h:d<a.tmps.size):(a.put (some d) v).tmps.getD d' undef=if d'=d then v else a.tmps.getD d' undef:=by
 show(a.tmps.setIfInBounds d v).getD d' undef=_;split
 .rename_i e;rw[e,iG,ab0 h];rfl
 .rename_i e;rw[iG,af6 (fun h=>e h.symm),<-iG]
def qE{L:j7}{i j:Nat}(h:Lx L i j=true)(hne:j≠i:=by omega):L j=true:=by
 have e:(j==i)=false:=by simpa using hne
 simpa[Lx,e]using h
def IV(n j:Nat):(Array.replicate n false).getD j false=false:=by
 rw[iG];cases h:(Array.replicate n false)[j]? with
 | none=>rfl
 | some b=>have:=(cf.1 h).2;simp at this;subst this;rfl
noncomputable def dm:Array Oper:=match cJ [1,1,1,1,1,1,1] (dJ f172)with
 | .seq (.region _ ops _) _=>ops
 | _=>#[]
def im{i:Nat}{o o':Oper}(h:dm[i]?=some o)(h':dm[i]?=some o'):o=o':=ke (h.symm.trans h')
def oG:dm.size=20:=rfl
def ay3{x y:n5}(hx:x.length=3)(hy:y.length=3)(w:World):(Instr.build 123 #[(0,.agg x.toArray),(1,.agg y.toArray)]).run prog w=.ok (.agg (x++y).toArray) w:=by
 obtain⟨fs,hu,hp⟩:=BB (show Gp prog 123=some [(0,3),(3,3)] by kernel_rfl);obtain⟨i,zv,hi,hz,hzc,_,_⟩:=iE (show ry prog 123=some [.slice none 0 0,.bool false,.slice none 0 0,.slice none 0 0,.bool false,.slice none 0 0] by kernel_rfl);refine run_build w 123 _ _ ?_;simp only[Program.built,hi,hu,hz,hp]
 match x,hx,y,hy with
 | [x0,x1,x2],_,[y0,y1,y2],_=>
   have ha:∀cs,(Value.agg cs).cells=cs:=fun _=>rfl;simp[Instr.fill,ha,hzc]
def cB9(E:j0)(X:Rat)(Y:j1)(a b m:Rat)(k d:Int):Nat->Option aF
 | 0=>some (fT E X Y) | 9=>some (fT E X Y)
 | 1=>some (.one (.aW ((cM a b).drop 0))) | 11=>some (.one (.aW ((cM a b).drop 3)))
 | 2=>some (qT a) | 3=>some (qT m) | 10=>some (qT m) | 12=>some (qT b)
 | 4=>some (kP a m) | 13=>some (kP m b)
 | 5=>some (.one (.int .i64 k)) | 14=>some (.one (.int .i64 k))
 | 6=>some (.one (.int .i64 d)) | 15=>some (.one (.int .i64 d))
 | 7=>some (.one (.int .i64 (d+1))) | 16=>some (.one (.int .i64 (d+1)))
 | _=>none
abbrev Nx(M:j2)(w0:World):Nat->Prop:=fun b=>M b\/w0.heap.size<=b
abbrev No(M:j2)(v:Value):Nat->Prop:=fun b=>M b\/v.ownBlock=some b
structure ZI(M:j2)(w0:World)(v4 v5 v6 v15:Value)(E:j0)(X:Rat)(Y:j1)(a b m:Rat)(k d:Int)(c1 c2:Except Int VS)(L:j7)(s:Act)(W:World):Prop where
 sz:s.tmps.size=120
 df:s.defers=[]
 bel:Below w0.heap.size w0 W
 t3:s.tmps.getD 3 undef=.int .i64 d
 t4:s.tmps.getD 4 undef=v4
 t5:s.tmps.getD 5 undef=v5
 t6:s.tmps.getD 6 undef=v6
 t15:s.tmps.getD 15 undef=v15
 sl:∀j t,j<17->L j=true->cB9 E X Y a b m k d j=some t->t.rep (Nx M w0) W (s.tmps.getD (101+j) undef)
 r1:L 8=true->L 18=false->∃x,c1=.ok x/\Ah M w0 W 123 6 (vS x) (s.tmps.getD 109 undef)
 r2:L 17=true->L 18=false->∃y,c2=.ok y/\(aE.slice 6 (vS y)).rep (No M (s.tmps.getD 109 undef)) W (s.tmps.getD 118 undef)
 r3:L 18=true->∃x y,c1=.ok x/\c2=.ok y/\Ah M w0 W 123 6 (vS (x++y)) (s.tmps.getD 119 undef)
 r4:L 19=true->s.tmps.getD 8 undef=s.tmps.getD 119 undef
section
variable{M:j2}{w0 W W':World}{v4 v5 v6 v15:Value}{E:j0}{X:Rat}{Y:j1}{a b m:Rat}{k d:Int}{c1 c2:Except Int VS}{L:j7}{s:Act}{i:Nat}{v:Value}
def Nj{w w':World}{base E sz n:Nat}{v:Value}{xs:n5}(h:w.ownsRow base E sz v n xs)(hb:Below w.heap.size w w'):w'.ownsRow base E sz v n xs:=by
 refine⟨h.1,?_⟩;rcases h.2 with hn | ⟨g,cap,cur,hv,hbg,hg,rest⟩
 .exact .inl hn
 .exact .inr ⟨g,cap,cur,hv,hbg,(hb.block g (cf.1 hg).1).trans hg,rest⟩
def Ah.below{w w' w'':World}{E sz:Nat}{zs:List (List aE)}{v:Value}(h:Ah M w w' E sz zs v)(hb:Below w'.heap.size w' w''):Ah M w w'' E sz zs v:=by
 obtain⟨xs,ho,hl,hr⟩:=h;exact⟨xs,Nj ho hb,hl,hr.mono (bq.below hb)⟩
def Nx.jc(h:Below w0.heap.size w0 W)(hb:∀b,b<w0.heap.size->W'.heap[b]?=W.heap[b]?):bq (Nx M w0) W (Nx M w0) W':=fun b o hn ho _=>
 ⟨hn,by rw[hb b (Nat.lt_of_not_le fun h=>hn (.inr h))];exact ho⟩
def ZI.put(I:ZI M w0 v4 v5 v6 v15 E X Y a b m k d c1 c2 L s W)(hi:i<17)(h8:i≠8)(hv:∀t,cB9 E X Y a b m k d i=some t->t.rep (Nx M w0) W v):ZI M w0 v4 v5 v6 v15 E X Y a b m k d c1 c2 (Lx L i) (s.put (some (101+i)) v) W:=by
 have hg:∀d',(s.put (some (101+i)) v).tmps.getD d' undef=if d'=101+i then v else s.tmps.getD d' undef:=fun d'=>vP (by rw[I.sz];omega)
 have g8:=hg 8;have g109:=hg 109;have g118:=hg 118;have g119:=hg 119;rw[aD O]at g8 g109 g118 g119;refine⟨by show(s.tmps.setIfInBounds _ v).size=120;rw[AE];exact I.sz,I.df,I.bel,by rw[hg,aD O];exact I.t3,by rw[hg,aD O];exact I.t4,by rw[hg,aD O];exact I.t5,by rw[hg,aD O];exact I.t6,by rw[hg,aD O];exact I.t15,fun j t hj hL ht=>?_,fun h1 h2=>?_,fun h1 h2=>?_,fun h1=>?_,fun h1=>?_⟩
 .rw[hg];by_cases hji:j=i
  .subst hji;rw[aI rfl];exact hv t ht
  .rw[aD O];exact I.sl j t hj (qE hL hji) ht
 .rw[g109];exact I.r1 (qE h1) (by cases h:L 18 with | false=>rfl | true=>simp[Lx,h]at h2)
 .rw[g109,g118];exact I.r2 (qE h1) (by cases h:L 18 with | false=>rfl | true=>simp[Lx,h]at h2)
 .rw[g119];exact I.r3 (qE h1)
 .rw[g8,g119];exact I.r4 (qE h1)
def ZI.one(I:ZI M w0 v4 v5 v6 v15 E X Y a b m k d c1 c2 L s W)(h17:L 17=false)(h18:L 18=false)(h19:L 19=false)(hb:Below W.heap.size W W'){x:VS}(hc:c1=.ok x)(hv:Ah M W W' 123 6 (vS x) v):ZI M w0 v4 v5 v6 v15 E X Y a b m k d c1 c2 (Lx L 8) (s.put (some 109) v) W':=by
 have hg:∀d',(s.put (some 109) v).tmps.getD d' undef=if d'=109 then v else s.tmps.getD d' undef:=fun d'=>vP (by rw[I.sz];omega)
 refine⟨by show(s.tmps.setIfInBounds _ v).size=120;rw[AE];exact I.sz,I.df,I.bel.trans (hb.mono I.bel.size),by rw[hg,aD O];exact I.t3,by rw[hg,aD O];exact I.t4,by rw[hg,aD O];exact I.t5,by rw[hg,aD O];exact I.t6,by rw[hg,aD O];exact I.t15,fun j t hj hL ht=>?_,fun h1 h2=>?_,fun h1 h2=>?_,fun h1=>?_,fun h1=>?_⟩
 .rw[hg];by_cases hji:j=8
  .subst hji;cases ht
  .rw[aD O];exact aF.iA (Nx.jc I.bel fun b h=>hb.block b (bt h I.bel.size)) (I.sl j t hj (qE hL hji) ht)
 .rw[hg,aI rfl];obtain⟨xs,ho,hl,hr⟩:=hv;exact⟨x,hc,xs,mY ho I.bel.size,hl,hr⟩
 .rw[qE h1]at h17;cases h17
 .rw[qE h1]at h18;cases h18
 .rw[qE h1]at h19;cases h19
def ZI.two(I:ZI M w0 v4 v5 v6 v15 E X Y a b m k d c1 c2 L s W)(h8:L 8=true)(h18:L 18=false)(h19:L 19=false)(hM:cX M w0)(hb:Below W.heap.size W W'){y:VS}(hc:c2=.ok y)(hv:Ah (No M (s.tmps.getD 109 undef)) W W' 123 6 (vS y) v):ZI M w0 v4 v5 v6 v15 E X Y a b m k d c1 c2 (Lx L 17) (s.put (some 118) v) W':=by
 have hg:∀d',(s.put (some 118) v).tmps.getD d' undef=if d'=118 then v else s.tmps.getD d' undef:=fun d'=>vP (by rw[I.sz];omega)
 obtain⟨x,hx,h1⟩:=I.r1 h8 h18
 have hlt:∀b,No M (s.tmps.getD 109 undef) b->b<W.heap.size:=fun b h=>by
  rcases h with h | h
  .exact bt (hM.1 b h) I.bel.size
  .obtain⟨xs,ho,_,_⟩:=h1;exact(ho.lt b h).2
 refine⟨by show(s.tmps.setIfInBounds _ v).size=120;rw[AE];exact I.sz,I.df,I.bel.trans (hb.mono I.bel.size),by rw[hg,aD O];exact I.t3,by rw[hg,aD O];exact I.t4,by rw[hg,aD O];exact I.t5,by rw[hg,aD O];exact I.t6,by rw[hg,aD O];exact I.t15,fun j t hj hL ht=>?_,fun _ _=>?_,fun _ _=>?_,fun h1=>?_,fun h1=>?_⟩
 .rw[hg,aD O];exact aF.iA (Nx.jc I.bel fun b h=>hb.block b (bt h I.bel.size)) (I.sl j t hj (qE hL) ht)
 .rw[hg,aD O];exact⟨x,hx,h1.below hb⟩
 .rw[hg,hg,aD O,aI rfl];exact⟨y,hc,hv.slice (fun b h=>h) hlt⟩
 .rw[qE h1]at h18;cases h18
 .rw[qE h1]at h19;cases h19
def ZI.three(I:ZI M w0 v4 v5 v6 v15 E X Y a b m k d c1 c2 L s W)(h18:L 18=false)(h19:L 19=false){x y:VS}(hx:c1=.ok x)(hy:c2=.ok y)(hgr:W.grownBy W' (s.tmps.getD 109 undef).ownBlock)(hown:∀g,(s.tmps.getD 109 undef).ownBlock=some g->w0.heap.size<=g)(hv:Ah M w0 W' 123 6 (vS (x++y)) v):ZI M w0 v4 v5 v6 v15 E X Y a b m k d c1 c2 (Lx L 18) (s.put (some 119) v) W':=by
 have hg:∀d',(s.put (some 119) v).tmps.getD d' undef=if d'=119 then v else s.tmps.getD d' undef:=fun d'=>vP (by rw[I.sz];omega)
 have hold:∀b,b<w0.heap.size->W'.heap[b]?=W.heap[b]?:=fun b h=>hgr.block b (bt h I.bel.size) fun e=>by have:=hown b e.symm;omega
 have hL18:Lx L 18 18=true:=by simp[Lx]
 refine⟨by show(s.tmps.setIfInBounds _ v).size=120;rw[AE];exact I.sz,I.df,⟨by rw[hgr.os,I.bel.os],by rw[hgr.tape,I.bel.tape],by rw[hgr.output,I.bel.output],an I.bel.size hgr.size,fun b h=>by rw[hold b h,I.bel.block b h]⟩,by rw[hg,aD O];exact I.t3,by rw[hg,aD O];exact I.t4,by rw[hg,aD O];exact I.t5,by rw[hg,aD O];exact I.t6,by rw[hg,aD O];exact I.t15,fun j t hj hL ht=>?_,fun _ h=>?_,fun _ h=>?_,fun _=>?_,fun h1=>?_⟩
 .rw[hg,aD O];exact aF.iA (Nx.jc I.bel hold) (I.sl j t hj (qE hL) ht)
 .rw[hL18]at h;cases h
 .rw[hL18]at h;cases h
 .rw[hg,aI rfl];exact⟨x,y,hx,hy,hv⟩
 .rw[qE h1]at h19;cases h19
def ZI.four(I:ZI M w0 v4 v5 v6 v15 E X Y a b m k d c1 c2 L s W)(h18:L 18=true):ZI M w0 v4 v5 v6 v15 E X Y a b m k d c1 c2 (Lx L 19) (s.put (some 8) (s.tmps.getD 119 undef)) W:=by
 have hg:∀d',(s.put (some 8) (s.tmps.getD 119 undef)).tmps.getD d' undef=if d'=8 then s.tmps.getD 119 undef else s.tmps.getD d' undef:=fun d'=>vP (by rw[I.sz];omega)
 have hL18:Lx L 19 18=true:=by simp[Lx,h18]
 refine⟨by show(s.tmps.setIfInBounds _ _).size=120;rw[AE];exact I.sz,I.df,I.bel,by rw[hg,aD O];exact I.t3,by rw[hg,aD O];exact I.t4,by rw[hg,aD O];exact I.t5,by rw[hg,aD O];exact I.t6,by rw[hg,aD O];exact I.t15,fun j t hj hL ht=>?_,fun _ h=>?_,fun _ h=>?_,fun _=>?_,fun _=>?_⟩
 .rw[hg,aD O];exact I.sl j t hj (qE hL) ht
 .rw[hL18]at h;cases h
 .rw[hL18]at h;cases h
 .rw[hg,aD O];exact I.r3 h18
 .rw[hg,hg,aI rfl,aD O]
end
def aC4{o:Oper}{c:Call}{x:n8}{E:j0}{X:Rat}{Y:j1}{k d:Int}{A B:Rat}{c1:Except Int VS}{s:Act}{W:World}{M:j2}{K:n6}{Q:lg}(ho:o.op=.call c)(hc:c.callee=.value x)(hx:s.eval x=.func (.func 172) #[] #[])
  (hd:vK E X Y k d A B c1) (hM:cX M W) (hargs:cW M W [fT E X Y,kP A B,.one (.int .i64 k),.one (.int .i64 d)] (c.args.toList.map s.eval)) (hK:∀z v w',c1=.ok z->Below W.heap.size W w'->Ah M W w' 123 6 (vS z) v->K (s.put o.dst v) w') (hP:∀er w',c1=.error er->Below W.heap.size W w'->Q (.panic [{ v:=LR er,recovered:=false }]) s w'):o.wp prog s W K Q:=by
 unfold Oper.wp;rw[wH ho hc (cvs:=[]) hx (bM aT)];rw[zM,dD];refine(hd M W _ hM hargs).mono ?_;rintro e w' ⟨hb,hz⟩;cases c1 with
 | ok z=>obtain⟨v,rfl,hv⟩:=hz;exact hK z v w' rfl hb hv
 | error er=>
   have hz:e=.panicked [{ v:=LR er,recovered:=false }]:=hz;subst hz;exact hP er w' rfl hb
def lJ{P:n7}{op:Op}{ty:TypeId}{args:List aF}{t:aF}{M:j2}{o:Oper}{s:Act}{W:World}{K:n6}{Q:lg}(hp:aq P op ty args t)(ho:o.op=op)(ht:o.type=ty)(hr:cW M W args (op.operands.toList.map s.eval))(hK:∀v,t.rep M W v->K (s.put o.dst v) W):o.wp P s W K Q:=by
 obtain⟨v,h,hv⟩:=hp M W s.eval o ho ht hr;exact de h (hK v hv)
def Xk{s:Act}{o:Oper}{p q:n8}{u v:n5}(ho:o.op=.build 123 #[(0,p),(1,q)])(hx:s.eval p=.agg u.toArray)(hy:s.eval q=.agg v.toArray)(hu:u.length=3)(hv:v.length=3)(W:World):(execOp s.eval o).run prog W=.ok (.value (.agg (u++v).toArray)) W:=by
 have:=ay3 hu hv W;simp only[execOp,ho,List.map_toArray,dy,jD,hx,hy,gv,this,gA,iW]
def VO{s:Act}{o:Oper}{p q:n8}{u v:n5}{W:World}{K:n6}{Q:lg}(ho:o.op=.build 123 #[(0,p),(1,q)])(hx:s.eval p=.agg u.toArray)(hy:s.eval q=.agg v.toArray)(hu:u.length=3)(hv:v.length=3)(hK:K (s.put o.dst (.agg (u++v).toArray)) W):o.wp prog s W K Q:=
 de (Xk ho hx hy hu hv W) hK
def aG5:∀i o,dm[i]?=some o->∀j∈bj o,j<i:=by
 intro i o ho;have hi:i<20:=by rw[<-oG];exact(cf.1 ho).1
 have h:(List.range 20).all (fun i=>match dm[i]? with | some o=>(bj o).all (fun j=>decide (j<i)) | none=>true)=true:=aT
 have h1:=gM.1 h i (gO.2 hi);rw[ho]at h1;intro j hj;exact gi (gM.1 h1 j hj)
section
variable{M:j2}{w0:World}{v4 v5 v6 v15:Value}{E:j0}{X:Rat}{Y:j1}{a b m:Rat}{k d:Int}{c1 c2:Except Int VS}
set_option maxRecDepth 100000 in
set_option maxHeartbeats 2000000 in
def aK7(hM:cX M w0)(P4:(aE.aW (fC E X Y)).rep M w0 v4)(P5:(aE.aW (cM a b)).rep M w0 v5)(P6:(aE.aW [.int .i64 k]).rep M w0 v6)(P15:(aE.aW (qC m)).rep M w0 v15)(hd0:0<=d)(hd1:d<=12)
  (hz1:vK E X Y k (d+1) a m c1) (hz2:vK E X Y k (d+1) m b c2) (hl:∀x y,c1=.ok x->c2=.ok y->x.length+y.length<=8192) (Q:lg)
  (hQ:∀er s' w',(c1=.error er\/∃x,c1=.ok x/\c2=.error er)->s'.defers=[]->Below w0.heap.size w0 w'->Q (.panic [{ v:=LR er,recovered:=false }]) s' w')
  (L:j7) (i:Nat) (o:Oper) (s:Act) (W:World) (ho:dm[i]?=some o) (hL:L i=false) (hdep:∀j∈bj o,L j=true) (hcl:∀j o',dm[j]?=some o'->L j=true->∀x∈bj o',L x=true)
  (I:ZI M w0 v4 v5 v6 v15 E X Y a b m k d c1 c2 L s W):wpOp prog dm Q i (ZI M w0 v4 v5 v6 v15 E X Y a b m k d c1 c2 (Lx L i)) s W:=by
 have hi:i<20:=by rw[<-oG];exact(cf.1 ho).1
 have hk:bq M w0 (Nx M w0) W:=fun b o hb ho _=>by
  have hlt:=(cf.1 ho).1;exact⟨fun h=>h.elim hb O,(I.bel.block b hlt).trans ho⟩
 have q4:(aE.aW (fC E X Y)).rep (Nx M w0) W (s.eval (.tmp 4)):=by show aE.rep _ _ W (s.tmps.getD 4 undef);rw[I.t4];exact aE.mono _ hk P4
 have q5:(aE.aW (cM a b)).rep (Nx M w0) W (s.eval (.tmp 5)):=by show aE.rep _ _ W (s.tmps.getD 5 undef);rw[I.t5];exact aE.mono _ hk P5
 have q6:(aE.aW [.int .i64 k]).rep (Nx M w0) W (s.eval (.tmp 6)):=by show aE.rep _ _ W (s.tmps.getD 6 undef);rw[I.t6];exact aE.mono _ hk P6
 have q15:(aE.aW (qC m)).rep (Nx M w0) W (s.eval (.tmp 15)):=by show aE.rep _ _ W (s.tmps.getD 15 undef);rw[I.t15];exact aE.mono _ hk P15
 have q3:s.eval (.tmp 3)=.int .i64 d:=I.t3
 have nolater:∀j o',dm[j]?=some o'->i∈bj o'->L j=false:=fun j o' h1 h2=>by
  cases hj:L j with
  | false=>rfl
  | true=>rw[hcl j o' h1 hj i h2]at hL;cases hL
 have FM:cX M W:=⟨fun b hb=>bt (hM.1 b hb) I.bel.size,hM.2.below rfl I.bel⟩
 have loadF:aq prog (.load 42 (.tmp 4)) 42 [.one (.aW (fC E X Y))] (fT E X Y):=ay (show oC prog 42=some (true,5) by kernel_rfl) dO bY (.inl rfl);have loadK:aq prog (.load 3 (.tmp 6)) 3 [.one (.aW [.int .i64 k])] (.one (.int .i64 k)):=ay YF dO bY (.inr rfl);have loadM:aq prog (.load 39 (.tmp 15)) 39 [.one (.aW (qC m))] (qT m):=ay mq dO bY (.inl rfl)
 match i,hi with
 | 0,_=>
   obtain rfl:=im ho (rfl:dm[0]?=some _);exact fQ ho rfl (lJ loadF rfl rfl ⟨q4,trivial⟩ fun v hv=>I.put O O fun t ht=>by cases ht;exact hv)
 | 1,_=>
   obtain rfl:=im ho (rfl:dm[1]?=some _);exact fQ ho rfl (lJ (jE Qv dO) rfl rfl ⟨q5,trivial⟩ fun v hv=>I.put O O fun t ht=>by cases ht;exact hv)
 | 2,_=>
   obtain rfl:=im ho (rfl:dm[2]?=some _);exact fQ ho rfl (lJ (t:=qT a) (ay (cells:=(cM a b).drop 0) mq dO bY (.inl rfl)) rfl rfl ⟨I.sl 1 _ O (hdep 1 dO) rfl,trivial⟩ fun v hv=>I.put O O fun t ht=>by cases ht;exact hv)
 | 3,_=>
   obtain rfl:=im ho (rfl:dm[3]?=some _);exact fQ ho rfl (lJ loadM rfl rfl ⟨q15,trivial⟩ fun v hv=>I.put O O fun t ht=>by cases ht;exact hv)
 | 4,_=>
   obtain rfl:=im ho (rfl:dm[4]?=some _);obtain⟨us,e1,hu⟩:=I.sl 2 _ O (hdep 2 dO) rfl;obtain⟨vs,e2,hv⟩:=I.sl 3 _ O (hdep 3 dO) rfl;refine fQ ho rfl (VO rfl e1 e2 hu.length.symm hv.length.symm (I.put O O fun t ht=>by cases ht;exact⟨us++vs,rfl,hu.append hv⟩))
 | 5,_=>
   obtain rfl:=im ho (rfl:dm[5]?=some _);exact fQ ho rfl (lJ loadK rfl rfl ⟨q6,trivial⟩ fun v hv=>I.put O O fun t ht=>by cases ht;exact hv)
 | 6,_=>
   obtain rfl:=im ho (rfl:dm[6]?=some _);refine fQ ho rfl (de rfl (I.put O O fun t ht=>by cases ht;exact⟨q3,rfl⟩))
 | 7,_=>
   obtain rfl:=im ho (rfl:dm[7]?=some _);exact fQ ho rfl (lJ (aC (a:=d) (b:=1)) rfl rfl ⟨I.sl 6 _ O (hdep 6 dO) rfl,⟨rfl,rfl⟩,trivial⟩ fun v hv=>I.put O O fun t ht=>by cases ht;exact hv)
 | 8,_=>
   obtain rfl:=im ho (rfl:dm[8]?=some _);have hkM:bq (Nx M w0) W M W:=fun b o hb ho _=>⟨fun h=>hb (.inl h),ho⟩
   have h17:=nolater 17 _ rfl dO;have h18:=nolater 18 _ rfl dO;have h19:=nolater 19 _ rfl dO
   refine fQ ho rfl (aC4 rfl rfl rfl hz1 FM ⟨aF.iA hkM (I.sl 0 _ O (hdep 0 dO) rfl),aF.iA hkM (I.sl 4 _ O (hdep 4 dO) rfl),aF.iA hkM (I.sl 5 _ O (hdep 5 dO) rfl),aF.iA hkM (I.sl 7 _ O (hdep 7 dO) rfl),trivial⟩
    (fun z v w' hc hb hv=>I.one h17 h18 h19 hb hc hv) fun er w' hc hb=>hQ er s w' (.inl hc) I.df (I.bel.trans (hb.mono I.bel.size)))
 | 9,_=>
   obtain rfl:=im ho (rfl:dm[9]?=some _);exact fQ ho rfl (lJ loadF rfl rfl ⟨q4,trivial⟩ fun v hv=>I.put O O fun t ht=>by cases ht;exact hv)
 | 10,_=>
   obtain rfl:=im ho (rfl:dm[10]?=some _);exact fQ ho rfl (lJ loadM rfl rfl ⟨q15,trivial⟩ fun v hv=>I.put O O fun t ht=>by cases ht;exact hv)
 | 11,_=>
   obtain rfl:=im ho (rfl:dm[11]?=some _);exact fQ ho rfl (lJ (jE Qu dO) rfl rfl ⟨q5,trivial⟩ fun v hv=>I.put O O fun t ht=>by cases ht;exact hv)
 | 12,_=>
   obtain rfl:=im ho (rfl:dm[12]?=some _);exact fQ ho rfl (lJ (t:=qT b) (ay (cells:=(cM a b).drop 3) mq dO bY (.inl rfl)) rfl rfl ⟨I.sl 11 _ O (hdep 11 dO) rfl,trivial⟩ fun v hv=>I.put O O fun t ht=>by cases ht;exact hv)
 | 13,_=>
   obtain rfl:=im ho (rfl:dm[13]?=some _);obtain⟨us,e1,hu⟩:=I.sl 10 _ O (hdep 10 dO) rfl;obtain⟨vs,e2,hv⟩:=I.sl 12 _ O (hdep 12 dO) rfl;refine fQ ho rfl (VO rfl e1 e2 hu.length.symm hv.length.symm (I.put O O fun t ht=>by cases ht;exact⟨us++vs,rfl,hu.append hv⟩))
 | 14,_=>
   obtain rfl:=im ho (rfl:dm[14]?=some _);exact fQ ho rfl (lJ loadK rfl rfl ⟨q6,trivial⟩ fun v hv=>I.put O O fun t ht=>by cases ht;exact hv)
 | 15,_=>
   obtain rfl:=im ho (rfl:dm[15]?=some _);refine fQ ho rfl (de rfl (I.put O O fun t ht=>by cases ht;exact⟨q3,rfl⟩))
 | 16,_=>
   obtain rfl:=im ho (rfl:dm[16]?=some _);exact fQ ho rfl (lJ (aC (a:=d) (b:=1)) rfl rfl ⟨I.sl 15 _ O (hdep 15 dO) rfl,⟨rfl,rfl⟩,trivial⟩ fun v hv=>I.put O O fun t ht=>by cases ht;exact hv)
 | 17,_=>
   obtain rfl:=im ho (rfl:dm[17]?=some _);have h8:=hdep 8 dO;have h18:=nolater 18 _ rfl dO;have h19:=nolater 19 _ rfl dO;obtain⟨x,hx,xs,hox,hlx,hrx⟩:=I.r1 h8 h18;have hown:∀g,(s.tmps.getD 109 undef).ownBlock=some g->w0.heap.size<=g/\g<W.heap.size:=hox.lt;have hkN:bq (Nx M w0) W (No M (s.tmps.getD 109 undef)) W:=fun b o hb ho _=>⟨fun h=>h.elim (fun h=>hb (.inl h)) (fun h=>hb (.inr (hown b h).1)),ho⟩
   have hk0:bq M w0 (No M (s.tmps.getD 109 undef)) W:=fun b o hb ho _=>by
    have hlt:=(cf.1 ho).1;exact⟨fun h=>h.elim hb (fun h=>by have:=(hown b h).1;omega),(I.bel.block b hlt).trans ho⟩
   have FN:cX (No M (s.tmps.getD 109 undef)) W:=⟨fun b hb=>hb.elim (fun h=>bt (hM.1 b h) I.bel.size) (fun h=>(hown b h).2),hM.2.jc hk0⟩
   refine fQ ho rfl (aC4 rfl rfl rfl hz2 FN ⟨aF.iA hkN (I.sl 9 _ O (hdep 9 dO) rfl),aF.iA hkN (I.sl 13 _ O (hdep 13 dO) rfl),aF.iA hkN (I.sl 14 _ O (hdep 14 dO) rfl),aF.iA hkN (I.sl 16 _ O (hdep 16 dO) rfl),trivial⟩
    (fun z v w' hc hb hv=>I.two h8 h18 h19 hM hb hc hv) fun er w' hc hb=>hQ er s w' (.inr ⟨x,hx,hc⟩) I.df (I.bel.trans (hb.mono I.bel.size)))
 | 18,_=>
   obtain rfl:=im ho (rfl:dm[18]?=some _);have h8:=hdep 8 dO;have h19:=nolater 19 _ rfl dO;obtain⟨x,hx,xs,hox,hlx,hrx⟩:=I.r1 h8 hL;obtain⟨y,hy,hry⟩:=I.r2 (hdep 17 dO) hL;have hown:∀g,(s.tmps.getD 109 undef).ownBlock=some g->w0.heap.size<=g/\g<W.heap.size:=hox.lt;obtain⟨ie,hu,hie,hies,hieb⟩:=dZ gV;obtain⟨i',zv,hi',hz,hzc,_,hzs⟩:=iE (show ry prog 123=some [.slice none 0 0,.bool false,.slice none 0 0,.slice none 0 0,.bool false,.slice none 0 0] by kernel_rfl);rw[hie]at hi';simp only[aM]at hi';subst hi';have hlen:=hl x y hx hy;obtain⟨v',w',ys,hrun,ho',hgr,hr'⟩:=Ww (P:=prog) (ty:=118) hu hie hies hieb hz hzs dO hox hrx (Cv hry) (by rw[aX,aX];omega) (by rw[aX,aX];simp only[maxLen];omega) I.bel.size (fun g h=>.inr h)
   have hrun2:∀o:Oper,o.op=.call { callee:=.builtin .append,args:=#[.tmp 109,.tmp 118],argTypes:=#[118,118] } -> o.type=118->(execOp s.eval o).run prog W=.ok (.value v') w':=fun o h1 h2=>by
    have hrun:(Builtin.append_ #[118,118] o.type #[s.eval (.tmp 109),s.eval (.tmp 118)]).run prog W=.ok v' w':=by rw[h2];exact hrun
    simp[execOp,h1,resolve,invoke,builtin,hrun]
   refine fQ ho rfl (de (hrun2 _ rfl rfl) (I.three hL h19 hx hy hgr (fun g h=>(hown g h).1) ⟨ys,by rw[vS,ep];exact ho',fun t ht=>by obtain⟨p,_,rfl⟩:=jf.1 ht;rfl,?_⟩));rw[vS,ep];refine hr'.mono fun g o hb ho _=>⟨fun h=>hb ?_,ho⟩
   rcases h with h | h
   .exact .inl ⟨.inl h,fun e=>by have:=(hown g e).1;have:=hM.1 g h;omega⟩
   .exact .inr h
 | 19,_=>
   obtain rfl:=im ho (rfl:dm[19]?=some _);refine fQ ho rfl (de rfl (I.four (hdep 18 dO)))
 | n+20,h=>omega
end
end Go.Sy
