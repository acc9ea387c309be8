/- Part. -/
import Derived.Test.YtacgmapjhpghkaaGreatDoorQc
import Derived.Test.YtacgmapjhpghkaaGreatDoorCards
import Derived.Test.YtacgmapjhpghkaaGreatDoorTie
import Derived.ProofKit
import Derived.OpenShut
import Derived.Deep.DeepHandedRow
import Derived.Deep.Strs
set_option linter.all false
namespace Go.Sy
open Go Go.Proofs Go.RowKit Go.ChangeShapes Go.WideShapes Tryz
section
variable{H:Type}{enc:TypeId×Value->H}{P:j5}
def Wd(P:j5)(t:TypeId)(d:DataW H):Prop:=∀n∈DataW.weights P t d,n<=reachBytes
theorem Am{e:TypeId}:∀{ds:List (DataW H)}{d:DataW H},d∈ds->∀n∈DataW.weights P e d,n∈DataW.weightsAll P e ds
 | [],_,h=>by cases h
 | x::xs,d,h=>fun n hn=>by
   rw[DataW.weightsAll];rcases cp.1 h with rfl | h
   .exact gV _ hn
   .exact ke _ (Am h n hn)
def sK:∀{ts:List TypeId}{ds:List (DataW H)}{j:Nat}{t:TypeId}{d:DataW H},ts[j]?=some t->ds[j]?=some d->∀n∈DataW.weights P t d,n∈DataW.weightsEach P ts ds:=fun h1 h2=>DataW.weights_mem_each h1 h2
def Wd.field{t:TypeId}{fs:Array Field}{parts:List (DataW H)}(ht:P.underlying t=some (.struct fs))(h:Wd P t (.agg parts)){j:Nat}{f:Field}{d:DataW H}(hf:fs[j]?=some f)(hd:parts[j]?=some d):Wd P f.type d:=fun n hn=>by
 refine h n ?_;rw[DataW.weights,ht];exact sK (ts:=fs.toList.map (·.type)) (by rw[dR,kU,hf];rfl) hd n hn
def Wd.elem{t e:TypeId}{es sp:List (DataW H)}(ht:P.underlying t=some (.slice e))(h:Wd P t (.slice es sp)){d:DataW H}(hd:d∈es):Wd P e d:=fun n hn=>by
 refine h n ?_;rw[DataW.weights,ht];exact cg _ (gV _ (Am hd n hn))
def Wd.len{t e:TypeId}{es sp:List (DataW H)}(ht:P.underlying t=some (.slice e))(h:Wd P t (.slice es sp))(hb:0<P.bytesOf e):es.length<=reachBytes:=by
 have:=h ((es.length+sp.length)*P.bytesOf e) (by rw[DataW.weights,ht];exact cE);have h2:(es.length+sp.length)*1<=(es.length+sp.length)*P.bytesOf e:=dz _ hb;omega
def VF{w:World}{a:Addr}{n:Nat}{cs:j0}(h:w.cells? 0 a n=some cs)(hn:0<n):∃b off all T fz,a=⟨b,off,none⟩/\w.heap[b]?=some (.cells all T fz):=by
 obtain⟨_,hl,hi⟩:=World.cells?_some h;have h0:=hi 0 hn;obtain⟨v,hv⟩:∃v,cs[0]?=some v:=⟨_,bM O⟩
 rw[hv,show a.add 0=a from rfl]at h0;unfold World.cell? at h0;obtain⟨b,off,sp⟩:=a;dsimp only at h0;split at h0
 .rename_i hb;cases sp with
  | some x=>simp at h0
  | none=>exact⟨b,off,_,_,_,rfl,hb⟩
 .cases h0
def aL0(b off k:Nat):(⟨b,off,none⟩:Addr).add k=⟨b,off+k,none⟩:=by
 unfold Addr.add;by_cases h:k=0
 .subst h;rfl
 .rw[aG h]
def Zb{w:World}{b off k n:Nat}{all:iS}{T:TypeId}{fz:Nat×Nat}{cs:j0}(h:w.cells? 0 ((⟨b,off,none⟩:Addr).add k) n=some cs)(hb:w.heap[b]?=some (.cells all T fz)):(all.toList.drop (off+k)).take n=cs:=by
 obtain⟨_,hl,hi⟩:=World.cells?_some h;refine gU fun i=>?_;rw[eh];split
 .rename_i hlt;rw[<-hi i hlt,aL0,aL0,fG];unfold World.cell?;rw[hb];simp
 .rw[jQ O]
abbrev noM:Nat->Prop:=fun _=>False
def av4{w:World}{t e:TypeId}{sz:Nat}(ht:P.underlying t=some (.slice e))(hc:P.cellsOf e=sz)(hb:0<P.bytesOf e){α:Type}(f:α->List aC)(Q:α->Prop)
  (helem:∀n cs x,DataW.trod enc P w 0 (fun _=>true) true n e cs=some x->Wd P e x.1->∃u,Q u/\(f u).length=sz/\an noM w (f u) cs)
  {fuel:Nat} {cs:j0} {x:DataW H×List MemPlace} (h:DataW.trod enc P w 0 (fun _=>true) true fuel t cs=some x) (hw:Wd P t x.1) (hsz:0<sz:=by omega) :
  ∃(l:List α)(v:Value),cs=[v]/\(∀u∈l,Q u)/\l.length<=reachBytes/\(aC.slice sz (l.map f)).rep noM w v:=by
 rcases Deep.open_slice ht h with⟨rfl,rfl⟩ | ⟨a,len,cap,m,n,D,Pl,rfl,_,hle,hcm,hm,rfl,hel⟩
 .exact⟨[],_,rfl,aT,by simp[reachBytes],none,0,rfl,aT,by simp[maxLen],.inl rfl⟩
 .rw[aF rfl]at hm;subst hm;have hlen:=hw.len ht hb;rw[aL,nL]at hlen
  obtain⟨l,hl1,hl2⟩:=pL (fun i (u:α)=>Q u/\(f u).length=sz/\∃cs',w.cells? 0 (a.add (i*sz)) sz=some cs'/\an noM w (f u) cs') len fun i hi=>by
   obtain⟨cs',h1,h2⟩:=hel i O;rw[hc]at h1;obtain⟨u,hu1,hu2,hu3⟩:=helem n cs' _ h2 (hw.elem ht (dm.2 ⟨i,fO.2 hi,rfl⟩));exact⟨u,hu1,hu2,cs',h1,hu3⟩
  refine⟨l,_,rfl,fun u hu=>?_,O,some a,m,by rw[aL,hl1],by rw[aL,hl1];exact hle,hcm,?_⟩
  .obtain⟨i,hi⟩:=kJ hu;exact(hl2 i u hi).1
  .rcases ju len with h0 | h0
   .left
    rw[ep (hl1.trans h0)];rfl
   .right
    obtain⟨u,hu⟩:∃u,l[0]?=some u:=⟨_,bM O⟩
    obtain⟨_,_,cs0,hc0,_⟩:=hl2 0 u hu;rw[ns,show a.add 0=a from rfl]at hc0;obtain⟨b,off,all,T,fz,rfl,hb'⟩:=VF hc0 hsz;refine⟨b,off,all,T,fz,rfl,fun h=>h,hb',fun i tt htt=>?_⟩;rw[dR,yM]at htt;obtain⟨u,hu,rfl⟩:=htt;obtain⟨_,hu2,cs',hc',hu3⟩:=hl2 i u hu;rw[Zb hc' hb'];exact⟨hu2,hu3⟩
end
section
variable{H:Type}{enc:TypeId×Value->H}
def aj1:prog.cellsOf 27=3:=aS
def bd6:0<prog.bytesOf 27:=by rw[show prog.bytesOf 27=24 by kernel_rfl];decide
def bJ9:prog.cellsOf 5=1:=aS
def aW6:prog.cellsOf 2=1:=aS
set_option maxRecDepth 100000 in
def Wz{w:World}{n:Nat}{cs:j0}{x:DataW H×List MemPlace}(h:DataW.trod enc prog w 0 (fun _=>true) true n 27 cs=some x):∃u:eO,u.In/\cs=[.int .i64 u.n,.int .i64 u.d,.int .u8 u.pow]:=by
 obtain⟨y0,y1,y2,m,rfl,hl,h0,h1,h2⟩:=Deep.trod_struct3 underlying27 h;rw[aj1]at hl
 match cs,hl with
 | [v0,v1,v2],_=>
   rw[show prog.cellsOf _=1 from aW6]at h0;rw[show prog.cellsOf _=1 from aW6]at h1;rw[show prog.cellsOf _=1 from bJ9]at h2;obtain⟨z0,e0,_,f0⟩:=Qr underlying2 h0;obtain⟨z1,e1,_,f1⟩:=Qr underlying2 h1;obtain⟨z2,e2,_,f2⟩:=Qr underlying5 h2;have e0':[v0]=[Value.int .i64 z0]:=e0;have e1':[v1]=[Value.int .i64 z1]:=e1;have e2':[v2]=[Value.int .u8 z2]:=e2;cases e0';cases e1';cases e2';have b0:=bounds_i64 f0;have b1:=bounds_i64 f1;have b2:=bounds_u8 f2;refine⟨⟨z0,z1,z2.toNat⟩,⟨b0.1,by dsimp only;omega,b1.1,by dsimp only;omega,by dsimp only;omega⟩,?_⟩;rw[show((z2.toNat:Nat):Int)=z2 by omega]
def Pp{w:World}{n:Nat}{cs:j0}{x:DataW H×List MemPlace}(h:DataW.trod enc prog w 0 (fun _=>true) true n 27 cs=some x):∃u:eO,u.In/\an noM w (nC u) cs:=by
 obtain⟨u,hu,rfl⟩:=Wz h;exact⟨u,hu,⟨rfl,rfl⟩,⟨rfl,rfl⟩,⟨rfl,rfl⟩,trivial⟩
def Ou{w:World}{n:Nat}{cs:j0}{x:DataW H×List MemPlace}(h:DataW.trod enc prog w 0 (fun _=>true) true n 22 cs=some x)(hw:Wd prog 22 x.1) :
  ∃(l:List eO)(v:Value),cs=[v]/\(∀u∈l,u.In)/\l.length<=reachBytes/\(sN l).rep noM w v:=
 av4 underlying22 aj1 bd6 nC eO.In (fun n cs x hx _=>by
  obtain⟨u,hu,rfl⟩:=Wz hx;exact⟨u,hu,rfl,⟨rfl,rfl⟩,⟨rfl,rfl⟩,⟨rfl,rfl⟩,trivial⟩) h hw
end
section
variable{H:Type}{enc:TypeId×Value->H}{P:j5}
def vJ(hl:laidOutB P=true){W W':World}{sp':c9}:∀{ts:List TypeId}{vs:j0}{ds:List (DataW H)}{ps:List MemPlace},(∀t∈ts,P.readableRec t=true/\t<P.types.size) ->
  DataW.TrodAll enc P W 0 (fun _=>true) true ts vs ds ps->(∀p∈ps,W.sameAt W' p)->(∀p∈ps,sp' p.block=true)->DataW.TrodAll enc P W' 0 sp' true ts vs ds ps
 | [],[],[],_,_,h,_,_=>h
 | t::ts,v::vs,d::ds,_,hr,h,h1,h2=>by
   obtain⟨p,q,k1,k2,rfl⟩:=h;refine⟨p,q,WideElems.Trod_stays hl (hr t aT).1 (hr t aT).2 k1 (fun x hx=>h1 x (by simp[hx])) (fun x hx=>h2 x (by simp[hx])),vJ hl (fun t ht=>hr t (cg _ ht)) k2 (fun x hx=>h1 x (by simp[hx])) (fun x hx=>h2 x (by simp[hx])),rfl⟩
 | [],_::_,_,_,_,h,_,_=>h.elim
 | [],[],_::_,_,_,h,_,_=>h.elim
 | _::_,[],_,_,_,h,_,_=>h.elim
 | _::_,_::_,[],_,_,h,_,_=>h.elim
def aa5{f:Func}{s:ChangeSpec}{apart fresh handsOn again:Bool}{W W':World}{args:iS}{ds gs:List (DataW H)}{before:List MemPlace}{T:TypeId}
  (hl:laidOutB P=true) (hts:∀t∈f.params.toList,P.readableRec t=true/\t<P.types.size) (hvars:s.vars=[])
  (hW:DataW.Whole enc P f.params.toList s.vars apart W args.toList ds gs before) (hres:(s.fn H (ds++gs)).results=[.lit (.bool true)]) (hargs:(s.fn H (ds++gs)).args=ds) (hvs:(s.fn H (ds++gs)).vars=[])
  (hb:Below W.heap.size W W') (hrt:f.resultTypes=#[T]) (hT:P.underlying T=some .bool) :
  s.post enc P f apart fresh handsOn again W args (.bool true) W':=by
 have hlt:∀p∈before,p.block<W.heap.size:=fun p hp=>hW.lt p hp;have hsame:∀p∈before,W.sameAt W' p:=fun p hp=>hb.same (hlt p hp);obtain⟨p,q,hA,hV,hps,hz,hn⟩:=hW;have hW:DataW.Whole enc P f.params.toList s.vars apart W args.toList ds gs before:=⟨p,q,hA,hV,hps,hz,hn⟩
 rw[hvars]at hV;obtain⟨rfl,rfl⟩:=trodVars_none hV;rw[cB]at hps;subst hps;have ha:∀sp:Nat->Bool,(∀p∈before,sp p.block=true)->DataW.TrodAll enc P W' 0 sp true f.params.toList args.toList ds before:=fun sp h=>vJ hl hts hA hsame h
 have hr:∀(b:Nat)(sp:c9)(hd:Bool),DataW.TrodAll enc P W' b sp hd f.resultTypes.toList ((Value.bool true).resultList f.resultTypes.size) [.lit (.bool true)] []:=fun b sp hd=>by
  rw[hrt];exact trodAll_mk1 (shut_bool hT true)
 have hold:∀p∈before,(fun b=>decide (b<W.heap.size)) p.block=true:=fun p hp=>by simpa using hlt p hp
 refine⟨ds,[],before,[],before,[],hW,?_,?_,?_,hb.frame _,fun _=>⟨?_,_,[],before,⟨[]++before,[],trodAll_append (ha (fun _=>true) (fun _ _=>rfl)) (hr 0 (fun _=>true) true),?_,aT,?_,?_⟩,fun p hp _=>hp⟩⟩
 .rw[hres];exact hr _ _ _
 .rw[hargs];exact ha _ hold
 .rw[hvars,hvs];rfl
 .exact ok_one hrt rfl (okWide_bool_mk hT true)
 .rw[hvars];exact(rfl:DataW.TrodVars enc P W' (fun _=>true) [] [] [])
 .intro b off hp;rw[hb.frozen (p:=⟨b,off,none⟩) (hlt _ hp)];exact hz b off hp
 .exact hn
end
def SP{W:World}{l:List (String×DataW Unit)}(hl:l.filter (fun x=>x.1 == "internal/strconv.uint64pow10")=[("internal/strconv.uint64pow10",Lib.tabData .u64 Lib.pow10Tab)])(h:laidMetH prog l W):Good noM W:=by
 have h1:=h.filter (fun x=>x.1 == "internal/strconv.uint64pow10");rw[hl]at h1;have h2:laidMet prog [("internal/strconv.uint64pow10",Lib.tabData .u64 Lib.pow10Tab)] W:=h1;intro x hx;have hx:x=(0,Gc):=by simpa[be4.Zy]using hx
 subst hx;have hg:prog.globalNamed "internal/strconv.uint64pow10" = some 0:=aS
 have ht:=Lib.tabIs_of_head (rest:=[]) hg (by kernel_rfl:(prog.globals[0]?).map (·.type)=some 292) underlying292 underlying236 aS aS h2;unfold Lib.TabIs World.var? at ht;rw[hg]at ht;dsimp only[Option.bind_some]at ht;refine⟨fun h=>h,?_⟩;split at ht
 .rename_i cs T fz he;cases ht;exact⟨T,fz,he⟩
 .cases ht
end Go.Sy
