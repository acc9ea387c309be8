/- Part. -/
import Derived.Test.YtacgmapjhpghkaaGreatDoorWe
set_option linter.all false
namespace Go.Sy
open Ord
def sm (f:Nat->Rat):Nat->Rat
 | 0=>0
 | n+1=>sm f n+f n
theorem RN {f g:Nat->Rat}:∀ n,(∀ i,i<n->f i=g i)->sm f n=sm g n
 | 0,_=>rfl
 | n+1,h=>by rw [sm,sm,RN n fun i hi=>h i (by omega),h n (by omega)]
theorem BZ {f:Nat->Rat}:∀ n,(∀ i,i<n->f i=0)->sm f n=0
 | 0,_=>rfl
 | n+1,h=>by rw [sm,BZ n fun i hi=>h i (by omega),h n (by omega)];grind
theorem Vs (f g:Nat->Rat) (a:Rat):∀ n,sm (fun i=>f i-a*g i) n=sm f n-a*sm g n
 | 0=>by simp only [sm];grind
 | n+1=>by rw [sm,sm,sm,Vs f g a n];grind
theorem VU {f:Nat->Rat} {k:Nat}:∀ {n},k<n->(∀ i,i<n->i≠k->f i=0)->sm f n=f k
 | 0,h,_=>by omega
 | n+1,hk,h=>by
   rw [sm];by_cases e:k=n
   .subst e;rw [BZ k fun i hi=>h i (by omega) (by omega)];grind
   .rw [VU (n:=n) (by omega) fun i hi=>h i (by omega),h n (by omega) (by omega)];grind
theorem Vu {f:Nat->Rat} {j k:Nat} (hj:j<k):∀ {n},k<n->(∀ i,i<n->i≠j->i≠k->f i=0)->sm f n=f j+f k
 | 0,h,_=>by omega
 | n+1,hk,h=>by
   rw [sm];by_cases e:k=n
   .subst e;rw [VU hj fun i hi h1=>h i (by omega) h1 (by omega)]
   .rw [Vu hj (n:=n) (by omega) fun i hi=>h i (by omega),h n (by omega) (by omega) (by omega)];grind
def oH (r:List Rat) (v:Nat->Rat):Rat:=sm (fun j=>r.getD j 0*v j) r.length
def QW (rows:List (List Rat)) (v:Nat->Rat):Prop:=∀ i,i<rows.length->oH (rows.getD i []) v=0
theorem fV {α:Type} {l:List α} {i:Nat} {d:α}:l.getD i d=(l[i]?).getD d:=iP
theorem gR {rows:List (List Rat)} {k i j:Nat} (hk:k<rows.length:=by omega) (hi:i<rows.length:=by omega):(kF rows k i).getD j []=if j=i then rows.getD k [] else if j=k then rows.getD i [] else rows.getD j []:=by
 rw [kF,fV,List.getElem?_set,List.length_set];by_cases h:i=j
 .rw [if_pos h,if_pos hi,if_pos h.symm];rfl
 .rw [if_neg h,if_neg (Ne.symm h),List.getElem?_set];by_cases h2:k=j
  .rw [if_pos h2,if_pos hk,if_pos h2.symm];rfl
  .rw [if_neg h2,if_neg (Ne.symm h2),<-fV]
theorem iG {k:Nat} {rows:List (List Rat)} {n j:Nat} (hj:j<rows.length):(dQ k rows n).getD j []=if j<n/\j≠k then iB k (rows.getD k []) (rows.getD j []) else rows.getD j []:=by
 have h1:rows[j]? = some (rows.getD j []):=by rw [fV,cC hj];rfl
 rw [fV,gW,h1];rfl
theorem pK {k:Nat} {p r:List Rat} {i:Nat} (hi:i<r.length):(iB k p r).getD i 0=if r.getD k 0=0\/i<k then r.getD i 0 else r.getD i 0-r.getD k 0/p.getD k 0*p.getD i 0:=by
 unfold iB;by_cases h:r.getD k 0=0
 .rw [if_pos h,if_pos (.inl h)]
 .rw [if_neg h];have h1:r[i]? = some (r.getD i 0):=by rw [fV,cC hi];rfl
  rw [fV,pB,h1,Option.map_some,Option.getD_some];by_cases h2:i<k
  .rw [if_neg (by omega),if_pos (.inr h2)]
  .rw [if_pos ⟨by omega,hi⟩,if_neg (by intro h3;rcases h3 with h3 | h3;exact h h3;exact h2 h3)]
structure GJ (n k:Nat) (rows:List (List Rat)):Prop where
 len:rows.length=n
 row:∀ i,i<n->(rows.getD i []).length=n+1
 off:∀ c,c<k->∀ i,i<n->i≠c->(rows.getD i []).getD c 0=0
 dia:∀ c,c<k->(rows.getD c []).getD c 0≠0
theorem GJ.swap {n k i:Nat} {rows:List (List Rat)} (h:GJ n k rows) (hk:k<n) (hi:i<n) (hki:k<=i):GJ n k (kF rows k i):=by
 have hl:=h.len;refine ⟨(lJ _ _ _).trans hl,fun j hj=>?_,fun c hc j hj hjc=>?_,fun c hc=>?_⟩
 .rw [gR];split
  .exact h.row k hk
  .split
   .exact h.row i hi
   .exact h.row j hj
 .rw [gR];split
  .exact h.off c hc k hk (by omega)
  .split
   .exact h.off c hc i hi (by omega)
   .exact h.off c hc j hj hjc
 .rw [gR,if_neg (by omega),if_neg (by omega)];exact h.dia c hc
theorem GJ.elim {n k:Nat} {rows:List (List Rat)} (h:GJ n k rows) (hk:k<n) (hp:(rows.getD k []).getD k 0≠0):GJ n (k+1) (dQ k rows n):=by
 have hl:=h.len
 have key:∀ j,j<n->∀ c,c<k->((dQ k rows n).getD j []).getD c 0=(rows.getD j []).getD c 0:=fun j hj c hc=>by
  rw [iG (by omega)];split
  .rw [pK (by rw [h.row j hj];omega),if_pos (.inr hc)]
  .rfl
 refine ⟨(gY _ _ _).trans hl,fun j hj=>?_,fun c hc j hj hjc=>?_,fun c hc=>?_⟩
 .rw [iG (by omega)];split
  .rw [mU];exact h.row j hj
  .exact h.row j hj
 .by_cases e:c=k
  .subst e;rw [iG (by omega),if_pos ⟨hj,hjc⟩,pK (by rw [h.row j hj];omega)];split
   .rename_i h1;rcases h1 with h1 | h1
    .exact h1
    .omega
   .rw [Rat.div_mul_cancel hp];grind
  .rw [key j hj c (by omega)];exact h.off c (by omega) j hj hjc
 .by_cases e:c=k
  .subst e;rw [iG (by omega),if_neg (by omega)];exact hp
  .rw [key c (by omega) c (by omega)];exact h.dia c (by omega)
theorem Yw {k:Nat} {p r:List Rat} {v:Nat->Rat} (hl:p.length=r.length) (h0:∀ c,c<k->p.getD c 0=0):oH (iB k p r) v=oH r v-(if r.getD k 0=0 then 0 else r.getD k 0/p.getD k 0)*oH p v:=by
 unfold oH;rw [mU,hl,<-Vs];refine RN _ fun i hi=>?_;rw [pK hi];by_cases h1:r.getD k 0=0
 .rw [if_pos (.inl h1),if_pos h1];grind
 .rw [if_neg h1];by_cases h2:i<k
  .rw [if_pos (.inr h2),h0 i h2];grind
  .rw [if_neg (by intro h3;rcases h3 with h3 | h3;exact h1 h3;exact h2 h3)];grind
theorem QW.swap {n k i:Nat} {rows:List (List Rat)} (hl:rows.length=n) (hk:k<n) (hi:i<n) (v:Nat->Rat):QW (kF rows k i) v↔QW rows v:=by
 constructor
 .intro h j hj;have hl2:(kF rows k i).length=n:=(lJ _ _ _).trans hl;by_cases e:j=k
  .subst e;have:=h i (by omega)
   rwa [gR,if_pos rfl] at this
  .by_cases e2:j=i
   .subst e2;have:=h k (by omega);rw [gR] at this;by_cases e3:k=j
    .rw [if_pos e3] at this;rwa [<-e3]
    .rwa [if_neg e3,if_pos rfl] at this
   .have:=h j (by omega)
    rwa [gR,if_neg e2,if_neg e] at this
 .intro h j hj;rw [lJ] at hj;rw [gR];split
  .exact h k (by omega)
  .split
   .exact h i (by omega)
   .exact h j hj
theorem QW.elim {n k:Nat} {rows:List (List Rat)} (h:GJ n k rows) (hk:k<n) (v:Nat->Rat):QW (dQ k rows n) v↔QW rows v:=by
 have hl:=h.len;have hp0:∀ c,c<k->(rows.getD k []).getD c 0=0:=fun c hc=>h.off c hc k hk (by omega)
 have hE:∀ j,j<n->j≠k->oH ((dQ k rows n).getD j []) v=oH (rows.getD j []) v-(if (rows.getD j []).getD k 0=0 then 0 else (rows.getD j []).getD k 0/(rows.getD k []).getD k 0)*oH (rows.getD k []) v:=fun j hj hjk=>by
  rw [iG (by omega),if_pos ⟨hj,hjk⟩,Yw (by rw [h.row k hk,h.row j hj]) hp0]
 have hK:(dQ k rows n).getD k []=rows.getD k []:=by rw [iG (by omega),if_neg (by omega)]
 have hlE:(dQ k rows n).length=n:=(gY _ _ _).trans hl
 constructor
 .intro hN j hj;have h1:=hN k (by omega);rw [hK] at h1;by_cases e:j=k
  .rw [e];exact h1
  .have h2:=hN j (by omega);rw [hE j (by omega) e,h1] at h2
   grind
 .intro hN j hj;rw [hlE] at hj;by_cases e:j=k
  .rw [e,hK];exact hN k (by omega)
  .rw [hE j hj e,hN k (by omega),hN j (by omega)];grind
theorem Yi {k i n:Nat} {rows:List (List Rat)} (hl:rows.length=n) (h:Um k rows=some i):k+i<n/\(rows.getD (k+i) []).getD k 0≠0:=by
 rw [Um,List.findIdx?_eq_some_iff_getElem] at h;obtain ⟨h1,h2,_⟩:=h;have h3:i<rows.length-k:=by rwa [List.length_drop] at h1
 refine ⟨by omega,?_⟩;rw [List.getElem_drop] at h2;have h4:k+i<rows.length:=by omega
 rw [show rows.getD (k+i) []=rows[k+i] by rw [fV,cC h4];rfl]
 simpa using h2
theorem XR {k n:Nat} {rows:List (List Rat)} (hl:rows.length=n) (h:Um k rows=none):∀ i,k<=i->i<n->(rows.getD i []).getD k 0=0:=by
 intro i hi hn;rw [Um,List.findIdx?_eq_none_iff] at h
 have h1:=h (rows.getD i []) (by
  rw [List.mem_iff_getElem?];refine ⟨i-k,?_⟩;rw [List.getElem?_drop,show k+(i-k)=i by omega,fV,cC (by omega)];rfl)
 simpa using h1
theorem Bb {n:Nat}:∀ (f k:Nat) (rows:List (List Rat)),GJ n k rows->k+f=n ->
  (∃ rs,jT f k rows=some rs/\GJ n n rs/\∀ v,QW rs v↔QW rows v)\/(∃ v,QW rows v/\v n=0/\∃ j,j<n/\v j≠0)
 | 0,k,rows,h,hkn=>by
   obtain rfl:k=n:=by omega
   exact .inl ⟨rows,rfl,h,fun v=>Iff.rfl⟩
 | f+1,k,rows,h,hkn=>by
   have hl:=h.len;cases hp:Um k rows with
   | some i=>
     obtain ⟨h1,h2⟩:=Yi hl hp;have g1:=h.swap (by omega) h1 (Nat.le_add_right k i)
     have hpk:((kF rows k (k+i)).getD k []).getD k 0≠0:=by
      rw [gR];split
      .rename_i e;rw [<-e] at h2;exact h2
      .rw [if_pos rfl];exact h2
     have g2:=g1.elim (by omega) hpk;have hN:∀ v,QW (dQ k (kF rows k (k+i)) n) v↔QW rows v:=fun v=>(QW.elim g1 (by omega) v).trans (QW.swap hl (by omega) h1 v);have hS:jT (f+1) k rows=jT f (k+1) (dQ k (kF rows k (k+i)) n):=by rw [jT,hp,hl]
     rw [hS];rcases Bb f (k+1) _ g2 (by omega) with ⟨rs,e1,e2,e3⟩ | ⟨v,e1,e2,e3⟩
     .exact .inl ⟨rs,e1,e2,fun v=>(e3 v).trans (hN v)⟩
     .exact .inr ⟨v,(hN v).1 e1,e2,e3⟩
   | none=>
     right
     have h0:=XR hl hp;refine ⟨fun j=>if j=k then 1 else if j<k then -((rows.getD j []).getD k 0/(rows.getD j []).getD j 0) else 0,fun i hi=>?_,?_,k,by omega,?_⟩
     .unfold oH;rw [h.row i (by omega)];by_cases e:i<k
      .rw [Vu e (n:=n+1) (by omega)]
       .dsimp only;rw [if_neg (by omega),if_pos e,if_pos rfl];have:=Rat.div_mul_cancel (a:=(rows.getD i []).getD k 0) (h.dia i e)
        grind
       .intro c hc h1 h2;dsimp only;rw [if_neg h2];split
        .rename_i h3;rw [h.off c h3 i (by omega) (by omega)];grind
        .grind
      .rw [BZ];intro c hc;dsimp only;by_cases h1:c=k
       .rw [h1,h0 i (by omega) (by omega)];grind
       .rw [if_neg h1];split
        .rename_i h3;rw [h.off c h3 i (by omega) (by omega)];grind
        .grind
     .dsimp only;rw [if_neg (by omega),if_neg (by omega)]
     .dsimp only;rw [if_pos rfl];decide
def Vh (n:Nat) (sol:List Rat) (j:Nat):Rat:=if j=n then -1 else sol.getD j 0
theorem AV {n:Nat} {rows:List (List Rat)} (hl:rows.length=n) (hr:∀ i,i<n->(rows.getD i []).length=n+1) (hns:∀ v:Nat->Rat,v n=0->QW rows v->∀ j,j<n->v j=0) :
  ∃ sol,gF rows=some sol/\sol.length=n/\QW rows (Vh n sol):=by
 rcases Bb n 0 rows ⟨hl,hr,fun c hc=>by omega,fun c hc=>by omega⟩ (by omega) with ⟨rs,e1,e2,e3⟩ | ⟨v,e1,e2,j,hj,e3⟩
 .have hlr:=e2.len;refine ⟨(List.range rs.length).map (lF rs),by rw [gF,hl,e1];rfl,by rw [aK,mV];exact hlr,(e3 _).1 fun i hi=>?_⟩
  have hs:∀ j,j<n->((List.range rs.length).map (lF rs)).getD j 0=(rs.getD j []).getD n 0/(rs.getD j []).getD j 0:=fun j hj=>by
   rw [fV,dL,List.getElem?_range (by omega),Option.map_some,Option.getD_some,lF,e2.row j hj];rfl
  unfold oH;rw [e2.row i (by omega),Vu (j:=i) (k:=n) (by omega) (by omega)]
  .rw [Vh,Vh,if_neg (by omega),if_pos rfl,hs i (by omega)];have:=Rat.div_mul_cancel (a:=(rs.getD i []).getD n 0) (e2.dia i (by omega))
   grind
  .intro c hc h1 h2;rw [Vh,if_neg h2,e2.off c (by omega) i (by omega) (by omega)];grind
 .exact absurd (hns v e2 e1 j hj) e3
open Go Go.Proofs Tryz Ord
theorem eS {r:List Rat} {k j:Nat} {a:Rat}:(r.set k a).getD j 0=if k=j/\k<r.length then a else r.getD j 0:=by
 rw [fV,List.getElem?_set];by_cases h:k=j
 .subst h;rw [if_pos rfl];by_cases h2:k<r.length
  .rw [if_pos h2,if_pos ⟨rfl,h2⟩];rfl
  .rw [if_neg h2,if_neg (fun h=>h2 h.2),fV,List.getElem?_eq_none (by omega)]
 .rw [if_neg h,if_neg (fun e=>h e.1),<-fV]
theorem fX {r:List Rat} {k:Nat} (hk:k<r.length) (a:Rat) (v:Nat->Rat):oH (r.set k a) v=oH r v+(a-r.getD k 0)*v k:=by
 unfold oH;rw [List.length_set];have h:=Vs (fun j=>(r.set k a).getD j 0*v j) (fun j=>r.getD j 0*v j) 1 r.length;rw [VU hk (fun i hi hne=>by rw [eS,if_neg (fun e=>hne e.1.symm)];grind)] at h;rw [eS,if_pos ⟨rfl,hk⟩] at h
 grind
theorem fH (n j:Nat):(List.replicate n (0:Rat)).getD j 0=0:=by
 rw [fV,List.getElem?_replicate];split<;>rfl
theorem wL (n:Nat) (v:Nat->Rat):oH (List.replicate n 0) v=0:=by
 unfold oH;refine BZ _ fun i hi=>?_;rw [fH];grind
theorem ZJ {h d:List Rat} {n i:Nat} (hi:1<=i) (hin:i+1<n) (v:Nat->Rat):oH (jD h d n i) v=h.getD (i-1) 0*v (i-1)+(h.getD (i-1) 0+h.getD i 0)*2*v i+h.getD i 0*v (i+1)+(d.getD i 0-d.getD (i-1) 0)*6*v n:=by
 unfold jD We;rw [fX (by simp only [List.length_set,List.length_replicate];omega),fX (by simp only [List.length_set,List.length_replicate];omega),fX (by simp only [List.length_set,List.length_replicate];omega),fX (by simp only [List.length_replicate];omega),wL];rw [eS,if_neg (by omega),eS,if_neg (by omega),eS,if_neg (by omega),eS,if_neg (by omega),eS,if_neg (by omega),eS,if_neg (by omega),fH,fH,fH,fH];have e2:((2:Int):Rat)=2:=rfl;have e6:((6:Int):Rat)=6:=rfl;rw [e2,e6]
 grind
theorem ag7 {n i:Nat} (hi:i<n) (v:Nat->Rat):oH (qR n i) v=v i:=by
 unfold qR;rw [fX (by simp only [List.length_set,List.length_replicate];omega),fX (by simp only [List.length_replicate];omega),wL];rw [eS,if_neg (by omega),fH,fH];have e1:((1:Int):Rat)=1:=rfl;rw [e1]
 grind
theorem am4 {h d:List Rat} {n:Nat} (hn:2<=n) (a:Rat) (v:Nat->Rat):oH (BF h d n a) v=h.getD 0 0*2*v 0+h.getD 0 0*v 1+(d.getD 0 0-a)*6*v n:=by
 unfold BF leR;rw [fX (by simp only [List.length_set,List.length_replicate];omega),fX (by simp only [List.length_set,List.length_replicate];omega),fX (by simp only [List.length_replicate];omega),wL];rw [eS,if_neg (by omega),eS,if_neg (by omega),eS,if_neg (by omega),fH,fH,fH];have e2:((2:Int):Rat)=2:=rfl;have e6:((6:Int):Rat)=6:=rfl;rw [e2,e6]
 grind
theorem ab0 {h d:List Rat} {n:Nat} (hn:2<=n) (b:Rat) (v:Nat->Rat):oH (Bt h d n b) v=h.getD (n-2) 0*v (n-2)+h.getD (n-2) 0*2*v (n-1)+(b-d.getD (n-2) 0)*6*v n:=by
 unfold Bt riR;rw [fX (by simp only [List.length_set,List.length_replicate];omega),fX (by simp only [List.length_set,List.length_replicate];omega),fX (by simp only [List.length_replicate];omega),wL];rw [eS,if_neg (by omega),eS,if_neg (by omega),eS,if_neg (by omega),fH,fH,fH];have e2:((2:Int):Rat)=2:=rfl;have e6:((6:Int):Rat)=6:=rfl;rw [e2,e6]
 grind
theorem aq5 (v:Nat->Rat):∀ n,0<n->∃ M j,j<n/\(v j=M\/v j = -M)/\∀ i,i<n -> -M<=v i/\v i<=M
 | 0,h=>by omega
 | 1,_=>by
   by_cases h:v 0<=0
   .refine ⟨-v 0,0,by omega, .inr (by grind),fun i hi=>?_⟩;obtain rfl:i=0:=by omega
    constructor<;>grind
   .refine ⟨v 0,0,by omega, .inl rfl,fun i hi=>?_⟩;obtain rfl:i=0:=by omega
    constructor<;>grind
 | n+2,_=>by
   obtain ⟨M,j,hj,hv,hall⟩:=aq5 v (n+1) (by omega);by_cases h:-M<=v (n+1)/\v (n+1)<=M
   .refine ⟨M,j,by omega,hv,fun i hi=>?_⟩;by_cases e:i=n+1
    .rw [e];exact h
    .exact hall i (by omega)
   .by_cases h2:v (n+1)<=0
    .refine ⟨-v (n+1),n+1,by omega, .inr (by grind),fun i hi=>?_⟩;by_cases e:i=n+1
     .rw [e];constructor<;>grind
     .have:=hall i (by omega);have:=hall j hj
      constructor<;>grind
    .refine ⟨v (n+1),n+1,by omega, .inl rfl,fun i hi=>?_⟩;by_cases e:i=n+1
     .rw [e];constructor<;>grind
     .have:=hall i (by omega);have:=hall j hj
      constructor<;>grind
theorem Ut {a x M:Rat} (ha:0<a) (h1:-M<=x) (h2:x<=M):-(a*M)<=a*x/\a*x<=a*M:=by
 have e1:=Rat.mul_le_mul_of_nonneg_left h1 (Rat.le_of_lt ha);have e2:=Rat.mul_le_mul_of_nonneg_left h2 (Rat.le_of_lt ha)
 constructor<;>grind
theorem ar4 {a b M x y z:Rat} (ha:0<a) (hb:0<b) (hx:-M<=x/\x<=M) (hz:-M<=z/\z<=M) (hy:y=M\/y = -M) (h:a*x+(a+b)*2*y+b*z=0):M<=0:=by
 have h1:=Ut ha hx.1 hx.2;have h2:=Ut hb hz.1 hz.2;refine Rat.not_lt.1 fun hM=>?_;have h3:=Rat.mul_pos ha hM;have h4:=Rat.mul_pos hb hM;rcases hy with e | e
 .rw [e] at h;grind
 .rw [e] at h;grind
theorem SA {n:Nat} {h v:Nat->Rat} (hpos:∀ i,i+1<n->0<h i) (hin:∀ i,1<=i->i+1<n->h (i-1)*v (i-1)+(h (i-1)+h i)*2*v i+h i*v (i+1)=0)
  (he:∀ M,(∀ i,i<n -> -M<=v i/\v i<=M)->(v 0=M\/v 0 = -M)\/(v (n-1)=M\/v (n-1) = -M)->M<=0):∀ j,j<n->v j=0:=by
 intro j hj;obtain ⟨M,k,hk,hv,hall⟩:=aq5 v n (by omega)
 have hM:M<=0:=by
  by_cases h0:k=0
  .rw [h0] at hv;exact he M hall (.inl hv)
  .by_cases h1:k+1=n
   .rw [show k=n-1 by omega] at hv;exact he M hall (.inr hv)
   .exact ar4 (hpos (k-1) (by omega)) (hpos k (by omega)) (hall (k-1) (by omega)) (hall (k+1) (by omega)) hv (hin k (by omega) (by omega))
 have:=hall j hj
 grind
theorem Cr (x:List Rat) {i:Nat} (hi:i+1<x.length:=by omega):(cX x).getD i 0=x.getD (i+1) 0-x.getD i 0:=by
 rw [cX,pF,fV,dL,List.getElem?_range (by omega)];rfl
theorem lT {x:List Rat} (hr:kE true x=true) {i:Nat} (hi:i+1<x.length:=by omega):0<(cX x).getD i 0:=by
 rw [Cr x hi];have:=Cc hr (Nat.lt_succ_self i) hi
 grind
open Go Go.Proofs Tryz Ord
theorem fS:Fit 2 2:=by unfold Fit;decide
def xP (v:Nat->Rat) (i F P:Nat):Prop:=∃ p q,v i=p-q*v (i+1)/\0<=q/\q<=1/\Fit F q/\Fit P p
theorem xP.next {v:Nat->Rat} {i F P H G:Nat} {a b g:Rat} (h:xP v i F P) (ha:0<a) (hb:0<b) (fa:Fit H a) (fb:Fit H b) (fg:Fit G g)
  (e:a*v i+(a+b)*2*v (i+1)+b*v (i+2)=g):xP v (i+1) (F+(4*H+6)) (P+F+G+(4*H+8)):=by
 obtain ⟨p,q,hv,h0,h1,fq,fp⟩:=h;have haq:0<=a*(1-q):=Rat.mul_nonneg (Rat.le_of_lt ha) (by grind);have hD:b<=(a+b)*2-a*q:=by grind
 have hD0:0<(a+b)*2-a*q:=by grind
 have fD:Fit (3*H+F+4) ((a+b)*2-a*q):=(((fa.add fb).mul fS).sub (fa.mul fq)).mono (by omega);generalize hDD:(a+b)*2-a*q=D at *;have hne:D≠0:=by intro e;rw [e] at hD0;exact absurd hD0 (by decide)
 have hb2:b/D*D=b:=Rat.div_mul_cancel hne;have hp2:(g-a*p)/D*D=g-a*p:=Rat.div_mul_cancel hne;refine ⟨(g-a*p)/D,b/D,?_,?_,?_,(fb.div fD).mono (by omega),((fg.sub (fa.mul fp)).div fD).mono (by omega)⟩
 .generalize (g-a*p)/D=p' at *;generalize b/D=q' at *
  have h3:(v (i+1)-(p'-q'*v (i+2)))*D=0:=by
   rw [hv] at e;have e2:v (i+1)*D=v (i+1)*((a+b)*2-a*q):=by rw [hDD]
   grind
  rcases Rat.mul_eq_zero.1 h3 with h4 | h4
  .grind
  .exact absurd h4 hne
 .refine Rat.not_lt.1 fun hn=>?_;have:=Rat.mul_pos (show 0 < -(b/D) by grind) hD0
  grind
 .refine Rat.not_lt.1 fun hn=>?_;have:=Rat.mul_pos (show 0<b/D-1 by grind) hD0
  grind
theorem xP.mono {v:Nat->Rat} {i F P F' P':Nat} (h:xP v i F P) (hF:F<=F') (hP:P<=P'):xP v i F' P':=by
 obtain ⟨p,q,h1,h2,h3,h4,h5⟩:=h;exact ⟨p,q,h1,h2,h3,h4.mono hF,h5.mono hP⟩
def Ry (H F:Nat) (i:Nat):Nat:=F+i*(4*H+6)
def Uj (H G F P:Nat):Nat->Nat
 | 0=>P
 | i+1=>Uj H G F P i+Ry H F i+G+(4*H+8)
theorem Tk {n:Nat} {h g v:Nat->Rat} {F P H G:Nat} (hpos:∀ i,i+1<n->0<h i) (fh:∀ i,i+1<n->Fit H (h i)) (fg:∀ i,i+2<n->Fit G (g (i+1)))
  (hin:∀ i,i+2<n->h i*v i+(h i+h (i+1))*2*v (i+1)+h (i+1)*v (i+2)=g (i+1)) (h0:xP v 0 F P):∀ i,i+1<n->xP v i (Ry H F i) (Uj H G F P i)
 | 0,_=>h0.mono (by rw [Ry];omega) (by rw [Uj];omega)
 | i+1,hi=>((Tk hpos fh fg hin h0 i (by omega)).next (hpos i (by omega)) (hpos (i+1) hi) (fh i (by omega)) (fh (i+1) hi) (fg i hi) (hin i hi)).mono (by rw [Ry,Ry,Nat.add_mul];omega) (by rw [Uj];exact aY _)
theorem YB (H G F P:Nat):∀ {i j:Nat},i<=j->Uj H G F P i<=Uj H G F P j:=fun {i j} hij=>by
 induction j with
 | zero=>rw [show i=0 by omega];exact aY _
 | succ j ih=>
   by_cases e:i=j+1
   .rw [e];exact aY _
   .have:=ih (by omega);rw [Uj];omega
theorem SI {n:Nat} {v:Nat->Rat} {F P V:Nat} (hn:1<=n) (h:∀ i,i+1<n->xP v i F P) (hl:Fit V (v (n-1))):∀ j,j<n->Fit (V+j*(P+F+1)) (v (n-1-j))
 | 0,_=>hl.mono (by omega)
 | j+1,hj=>by
   have ih:=SI hn h hl j (by omega);obtain ⟨p,q,e,_,_,fq,fp⟩:=h (n-1-(j+1)) (by omega);rw [show n-1-(j+1)+1=n-1-j by omega] at e;rw [e];exact (fp.sub (fq.mul ih)).mono (by rw [Nat.add_mul];omega)
theorem Ny {n:Nat} {v:Nat->Rat} {F P V B:Nat} (hn:1<=n) (h:∀ i,i+1<n->xP v i F P) (hl:Fit V (v (n-1))) (hB:V+n*(P+F+1)<=B):∀ i,i<n->Fit B (v i):=fun i hi=>by
 have:=SI hn h hl (n-1-i) (by omega);rw [show n-1-(n-1-i)=i by omega] at this;refine this.mono (Nat.le_trans (Nat.add_le_add_left (Nat.mul_le_mul_right _ ?_) _) hB);omega
open Go Go.Proofs Tryz Ord
theorem UA (x:Rat) (xs:List Rat):trim (x::xs)=if sK zr xs=0/\zr x=true then [] else x::trim xs:=by
 unfold trim;simp only [sK];split<;>simp
theorem iH:∀ (p:List Rat) (s:Nat),(trim p).getD s 0=p.getD s 0
 | [],s=>rfl
 | x::xs,s=>by
   have ih:=iH xs;rw [UA];split
   .rename_i h;have hx:x=0:=by simpa [zr] using h.2
    have ht:trim xs = []:=List.eq_nil_of_length_eq_zero (by rw [iA];exact h.1);cases s with
    | zero=>rw [hx];rfl
    | succ s=>
      have:=ih s;rw [ht] at this;exact this
   .cases s with
    | zero=>rfl
    | succ s=>exact ih s
def mZ (a b c d:Rat):List Rat:=trim [a,b,c,d]
theorem sZ (a b c d:Rat):oV (mZ a b c d):=hU _
theorem eJ (a b c d x:Rat):ev (mZ a b c d) x=a+b*x+c*x*x+d*x*x*x:=by
 rw [mZ,kW,bE,bE,bE,bE,dF];grind
theorem tL (a b c d:Rat):(mZ a b c d).length<=4:=fN _
theorem nL {a b c d:Rat} {A:Nat} (ha:Fit A a) (hb:Fit A b) (hc:Fit A c) (hd:Fit A d):∀ q∈mZ a b c d,Fit A q:=rK (fun q hq=>by
 simp only [List.mem_cons,List.not_mem_nil,or_false] at hq;rcases hq with rfl | rfl | rfl | rfl<;>assumption)
theorem YW (a b c d t:Rat):uZ [a,b,c,d] t=mZ (a+b*t+c*t*t+d*t*t*t) (b+2*c*t+3*d*t*t) (c+3*d*t) d:=
 Al (CM _ _) (sZ _ _ _ _) fun x=>by
  rw [Yt,eJ,bE,bE,bE,bE,dF];grind
theorem PB (f:Nat->Rat) (x:Rat) (m:Nat):∀ k,(∀ i,m<=i->f i=0)->ev ((List.range (m+k)).map f) x=ev ((List.range m).map f) x
 | 0,_=>rfl
 | k+1,h=>by
   rw [<-Nat.add_assoc,List.range_succ,List.map_append,Ng,PB f x m k h,List.map_cons,List.map_nil,h (m+k) (by omega),bE,dF];grind
theorem aA3 {f:Nat->Rat} {x:Rat} {m n:Nat} (hm:∀ i,m<=i->f i=0) (hn:∀ i,n<=i->f i=0):ev ((List.range m).map f) x=ev ((List.range n).map f) x:=by
 rcases Nat.le_total m n with h | h
 .have:=PB f x m (n-m) hm;rw [show m+(n-m)=n by omega] at this;exact this.symm
 .have:=PB f x n (m-n) hn;rw [show n+(m-n)=m by omega] at this;exact this
theorem rW (a b c d:Rat):cM (mZ a b c d)=mZ b (2*c) (3*d) 0:=by
 refine Al (hU _) (sZ _ _ _ _) fun x=>?_;have hg:∀ i,dvI (mZ a b c d) i = [a,b,c,d].getD (i+1) 0*(((i:Int)+1:Int):Rat):=fun i=>by rw [dvI,mZ,iH]
 rw [cM,kW,aA3 (n:=3),eJ]
 .show ev [dvI (mZ a b c d) 0,dvI (mZ a b c d) 1,dvI (mZ a b c d) 2] x=_;rw [hg,hg,hg,bE,bE,bE,dF];show ((0*x+d*3)*x+c*2)*x+b*1=_
  grind
 .intro i hi;rw [dvI,fV,List.getElem?_eq_none (by omega)];exact Rat.zero_mul _
 .intro i hi;rw [hg,fV,List.getElem?_eq_none (by simp only [List.length_cons,List.length_nil];omega)];exact Rat.zero_mul _
section
variable (x y m:List Rat) (i:Nat)
def cvB:Rat:=(bR x y).getD i 0-(cX x).getD i 0*((m.getD i 0+m.getD i 0+m.getD (i+1) 0)/6)
def Zd:Rat:=(m.getD (i+1) 0-m.getD i 0)/((cX x).getD i 0*6)
theorem yC:fZ x y m i=mZ (y.getD i 0+cvB x y m i * -(x.getD i 0)+m.getD i 0/2 * -(x.getD i 0) * -(x.getD i 0)+Zd x m i * -(x.getD i 0) * -(x.getD i 0) * -(x.getD i 0)) (cvB x y m i+2*(m.getD i 0/2) * -(x.getD i 0)+3*Zd x m i * -(x.getD i 0) * -(x.getD i 0)) (m.getD i 0/2+3*Zd x m i * -(x.getD i 0)) (Zd x m i):=
 YW _ _ _ _ _
theorem aN4 (t:Rat):ev (fZ x y m i) t=y.getD i 0+cvB x y m i*(t-x.getD i 0)+m.getD i 0/2*(t-x.getD i 0)*(t-x.getD i 0)+Zd x m i*(t-x.getD i 0)*(t-x.getD i 0)*(t-x.getD i 0):=by
 rw [yC,eJ];grind
theorem ad9 (t:Rat):ev (cM (fZ x y m i)) t=cvB x y m i+m.getD i 0*(t-x.getD i 0)+3*Zd x m i*(t-x.getD i 0)*(t-x.getD i 0):=by
 rw [yC,rW,eJ];grind
theorem VB (t:Rat):ev (cM (cM (fZ x y m i))) t=m.getD i 0+6*Zd x m i*(t-x.getD i 0):=by
 rw [yC,rW,rW,eJ];grind
end
theorem BW (x y m:List Rat) (i:Nat):(fZ x y m i).length<=4:=by rw [yC];exact tL _ _ _ _
theorem aC2 {x y:List Rat} (hr:kE true x=true) (hxy:y.length=x.length) {i:Nat} (hi:i+1<x.length):(bR x y).getD i 0*(cX x).getD i 0=y.getD (i+1) 0-y.getD i 0:=by
 have hp:=lT hr hi;have h0:(cX x).getD i 0≠0:=by intro e;rw [e] at hp;exact absurd hp (by decide)
 have hs:(bR x y).getD i 0=(y.getD (i+1) 0-y.getD i 0)/(cX x).getD i 0:=by
  rw [bR,fV,dL,List.getElem?_range (by rw [iD];omega),Option.map_some,Option.getD_some,Wr,yQ,if_neg h0,Cr y]
 rw [hs,Rat.div_mul_cancel h0]
theorem QF {x m:List Rat} (hr:kE true x=true) {i:Nat} (hi:i+1<x.length):Zd x m i*((cX x).getD i 0*6)=m.getD (i+1) 0-m.getD i 0:=by
 have hp:=lT hr hi;rw [Zd,Rat.div_mul_cancel];intro e;have:(cX x).getD i 0=0:=by grind
 rw [this] at hp;exact absurd hp (by decide)
section
variable {x y m:List Rat} {i:Nat} (hr:kE true x=true) (hxy:y.length=x.length) (hi:i+1<x.length)
include hr hxy hi
theorem OB:ev (fZ x y m i) (x.getD i 0)=y.getD i 0:=by rw [aN4];grind
theorem DN:ev (fZ x y m i) (x.getD (i+1) 0)=y.getD (i+1) 0:=by
 have h1:=aC2 hr hxy hi;have h2:=QF (m:=m) hr hi;rw [aN4,cvB];have hw:=Cr x hi;rw [<-hw];generalize (cX x).getD i 0=h at *;generalize (bR x y).getD i 0=s at *;generalize Zd x m i=d at *;have e:y.getD (i+1) 0=y.getD i 0+s*h:=by grind
 have e2:m.getD (i+1) 0=m.getD i 0+d*(h*6):=by grind
 rw [e,e2]
 grind
theorem ar2:ev (cM (fZ x y m i)) (x.getD i 0)=cvB x y m i:=by rw [ad9];grind
theorem Zr:ev (cM (fZ x y m i)) (x.getD (i+1) 0)=(bR x y).getD i 0+(cX x).getD i 0*((m.getD i 0+m.getD (i+1) 0+m.getD (i+1) 0)/6):=by
 have h2:=QF (m:=m) hr hi;rw [ad9,cvB];have hw:=Cr x hi;rw [<-hw];generalize (cX x).getD i 0=h at *;generalize (bR x y).getD i 0=s at *;generalize Zd x m i=d at *;have e2:m.getD (i+1) 0=m.getD i 0+d*(h*6):=by grind
 rw [e2]
 grind
theorem YM:ev (cM (cM (fZ x y m i))) (x.getD (i+1) 0)=m.getD (i+1) 0:=by
 have h2:=QF (m:=m) hr hi;rw [VB];have hw:=Cr x hi;rw [<-hw]
 grind
end
theorem FN {x y m:List Rat} {i:Nat} (hr:kE true x=true) (hxy:y.length=x.length) (hi:i+2<x.length)
  (he:(cX x).getD i 0*m.getD i 0+((cX x).getD i 0+(cX x).getD (i+1) 0)*2*m.getD (i+1) 0+(cX x).getD (i+1) 0*m.getD (i+2) 0=((bR x y).getD (i+1) 0-(bR x y).getD i 0)*6) :
  ev (cM (fZ x y m i)) (x.getD (i+1) 0)=ev (cM (fZ x y m (i+1))) (x.getD (i+1) 0):=by
 rw [Zr hr hxy (by omega),ar2 hr hxy (by omega),cvB]
 grind
open Go Go.Proofs Tryz Ord
def Aa (x y:List Rat) (r1 r2:List Rat):List (List Rat):=(List.range ((cX x).length-1)).map (fun j=>jD (cX x) (bR x y) x.length (j+1)) ++ [r1,r2]
section
variable {x y r1 r2:List Rat} (h2:2<=x.length)
include h2
theorem wS:(Aa x y r1 r2).length=x.length:=by
 rw [Aa,eC,aK,mV,iD];show x.length-1-1+2=_;omega
theorem Xu {i:Nat} (hi:i+2<x.length):(Aa x y r1 r2).getD i []=jD (cX x) (bR x y) x.length (i+1):=by
 have:=iD x;rw [Aa,fV,List.getElem?_append_left (by rw [aK,mV];omega),dL,List.getElem?_range (by omega)];rfl
theorem ac0:(Aa x y r1 r2).getD (x.length-2) []=r1:=by
 have:=iD x;rw [Aa,fV,List.getElem?_append_right (by rw [aK,mV];omega),aK,mV,show x.length-2-((cX x).length-1)=0 by omega];rfl
theorem an6:(Aa x y r1 r2).getD (x.length-1) []=r2:=by
 have:=iD x;rw [Aa,fV,List.getElem?_append_right (by rw [aK,mV];omega),aK,mV,show x.length-1-((cX x).length-1)=1 by omega];rfl
theorem Rs (h1:r1.length=x.length+1) (hr2:r2.length=x.length+1):∀ i,i<x.length->((Aa x y r1 r2).getD i []).length=x.length+1:=fun i hi=>by
 by_cases e:i+2<x.length
 .rw [Xu h2 e,uM]
 .by_cases e2:i+2=x.length
  .rw [show i=x.length-2 by omega,ac0 h2,h1]
  .rw [show i=x.length-1 by omega,an6 h2,hr2]
theorem rY {v:Nat->Rat} (hN:QW (Aa x y r1 r2) v):(∀ i,i+2<x.length->(cX x).getD i 0*v i+((cX x).getD i 0+(cX x).getD (i+1) 0)*2*v (i+1)+(cX x).getD (i+1) 0*v (i+2)+((bR x y).getD (i+1) 0-(bR x y).getD i 0)*6*v x.length=0)/\oH r1 v=0/\oH r2 v=0:=by
 have hl:=wS (y:=y) (r1:=r1) (r2:=r2) h2;refine ⟨fun i hi=>?_,?_,?_⟩
 .have:=hN i (by omega);rw [Xu h2 hi,ZJ (by omega) (by omega)] at this;exact this
 .have:=hN (x.length-2) (by omega)
  rwa [ac0 h2] at this
 .have:=hN (x.length-1) (by omega)
  rwa [an6 h2] at this
end
def AM (x y m:List Rat):Prop:=∀ i,i+2<x.length->(cX x).getD i 0*m.getD i 0+((cX x).getD i 0+(cX x).getD (i+1) 0)*2*m.getD (i+1) 0+(cX x).getD (i+1) 0*m.getD (i+2) 0=((bR x y).getD (i+1) 0-(bR x y).getD i 0)*6
theorem nZ {n j:Nat} (m:List Rat) (h:j<n:=by omega):Vh n m j=m.getD j 0:=if_neg (by omega)
theorem VF (n:Nat) (m:List Rat):Vh n m n = -1:=if_pos rfl
theorem Sg {x y m r1 r2:List Rat} (h2:2<=x.length) (hN:QW (Aa x y r1 r2) (Vh x.length m)):AM x y m:=fun i hi=>by
 have:=(rY h2 hN).1 i hi;rw [nZ m (show i<x.length by omega),nZ m (show i+1<x.length by omega),nZ m (show i+2<x.length by omega),VF] at this
 grind
theorem Xh {h M a b:Rat} (hh:0<h) (ha:a=M\/a = -M) (hb:-M<=b/\b<=M) (e:h*2*a+h*b=0):M<=0:=by
 have h1:=Ut hh hb.1 hb.2;refine Rat.not_lt.1 fun hM=>?_;have h3:=Rat.mul_pos hh hM;rcases ha with e2 | e2
 .rw [e2] at e;grind
 .rw [e2] at e;grind
section
variable {x y:List Rat} (h2:2<=x.length) (hr:kE true x=true)
include h2 hr
theorem aj6 (v:Nat->Rat) (hv:v x.length=0) (hN:QW (lH x y) v):∀ j,j<x.length->v j=0:=by
 obtain ⟨e1,e2,e3⟩:=rY (y:=y) h2 hN;rw [ag7 (by omega)] at e2 e3;refine SA (h:=fun i=>(cX x).getD i 0) (fun i hi=>lT hr hi) (fun i h1 hi=>?_) fun M hM he=>?_
 .have:=e1 (i-1) (by omega);rw [show i-1+1=i by omega,show i-1+2=i+1 by omega,hv] at this
  grind
 .rcases he with h | h<;>grind
theorem aa7 (a b:Rat) (v:Nat->Rat) (hv:v x.length=0) (hN:QW (uC x y a b) v):∀ j,j<x.length->v j=0:=by
 obtain ⟨e1,e2,e3⟩:=rY (y:=y) h2 hN;rw [am4 h2,hv] at e2;rw [ab0 h2,hv] at e3;refine SA (h:=fun i=>(cX x).getD i 0) (fun i hi=>lT hr hi) (fun i h1 hi=>?_) fun M hM he=>?_
 .have:=e1 (i-1) (by omega);rw [show i-1+1=i by omega,show i-1+2=i+1 by omega,hv] at this
  grind
 .rcases he with h | h
  .exact Xh (lT hr (i:=0)) h (hM 1 (by omega)) (by grind)
  .refine Xh (lT hr (i:=x.length-2)) h (hM (x.length-2) (by omega)) (by grind)
end
open Go Go.Proofs Tryz Ord
theorem tK:Fit 3 6:=by unfold Fit;decide
theorem af3:Fit 2 (1/2):=by unfold Fit;decide +kernel
theorem YF (H F:Nat) {i j:Nat} (h:i<=j:=by omega):Ry H F i<=Ry H F j:=Nat.add_le_add_left (Nat.mul_le_mul_right _ h) _
structure Ar (x y:List Rat):Prop where
 h2:2<=x.length
 h8:x.length<=8
 hr:kE true x=true
 hxy:y.length=x.length
 hx:∀ a∈x,Fit 40 a
 hy:∀ a∈y,Fit 40 a
section
variable {x y:List Rat} (D:Ar x y)
include D
theorem Ar.h (i:Nat):Fit 81 ((cX x).getD i 0):=aC (oB (by omega) D.hx) i
theorem Ar.d (i:Nat):Fit 162 ((bR x y).getD i 0):=aC (wH D.hx D.hy) i
theorem Ar.g (i:Nat):Fit 328 (((bR x y).getD (i+1) 0-(bR x y).getD i 0)*6):=(((D.d (i+1)).sub (D.d i)).mul tK).mono (by omega)
theorem Ar.dV {m:List Rat} (he:AM x y m) {F P:Nat} (h0:xP (fun j=>m.getD j 0) 0 F P):∀ i,i+1<x.length->xP (fun j=>m.getD j 0) i (Ry 81 F 7) (Uj 81 328 F P 7):=fun i hi=>by
 have h8:=D.h8;exact (Tk (h:=fun i=>(cX x).getD i 0) (g:=fun i=>((bR x y).getD i 0-(bR x y).getD (i-1) 0)*6) (fun i hi=>lT D.hr hi) (fun i _=>D.h i) (fun i _=>D.g i) (fun i hi=>he i hi) h0 i hi).mono (YF _ _) (YB _ _ _ _ (by omega))
theorem av1:∃ m,gF (lH x y)=some m/\m.length=x.length/\AM x y m/\m.getD 0 0=0/\m.getD (x.length-1) 0=0/\∀ a∈m,Fit 220000 a:=by
 have h2:=D.h2;have h8:=D.h8;obtain ⟨m,e1,e2,e3⟩:=AV (n:=x.length) (rows:=lH x y) (wS h2) (Rs h2 (xM _ _) (xM _ _)) (aj6 h2 D.hr);have he:=Sg h2 e3;obtain ⟨_,q1,q2⟩:=rY h2 e3;rw [ag7 (by omega),nZ m] at q1 q2;refine ⟨m,e1,e2,he,q1,q2,fun a ha=>?_⟩;obtain ⟨i,hi,rfl⟩:=List.mem_iff_getElem.1 ha;have h0:xP (fun j=>m.getD j 0) 0 1 1:=⟨0,0,by dsimp only;rw [q1];grind,by decide,by decide,Fit.zero (by omega),Fit.zero (by omega)⟩
 have:=Ny (n:=x.length) (v:=fun j=>m.getD j 0) (V:=1) (B:=220000) (by omega) (D.dV he h0) (by show Fit 1 (m.getD _ 0);rw [q2];exact Fit.zero (by omega)) (Nat.le_trans (Nat.add_le_add_left (Nat.mul_le_mul_right _ h8) _) (by decide)) i (by omega)
 rwa [show m.getD i 0=m[i] by rw [fV,cC hi];rfl] at this
theorem aD8 {a b:Rat} (fa:Fit 40 a) (fb:Fit 40 b):∃ m,gF (uC x y a b)=some m/\m.length=x.length/\AM x y m/\(cX x).getD 0 0*2*m.getD 0 0+(cX x).getD 0 0*m.getD 1 0=((bR x y).getD 0 0-a)*6 /\
  (cX x).getD (x.length-2) 0*m.getD (x.length-2) 0+(cX x).getD (x.length-2) 0*2*m.getD (x.length-1) 0=(b-(bR x y).getD (x.length-2) 0)*6/\∀ q∈m,Fit 260000 q:=by
 have h2:=D.h2;have h8:=D.h8;obtain ⟨m,e1,e2,e3⟩:=AV (n:=x.length) (rows:=uC x y a b) (wS h2) (Rs h2 (En _ _ _ _) (Dw _ _ _ _)) (aa7 h2 D.hr a b);have he:=Sg h2 e3;obtain ⟨_,q1,q2⟩:=rY h2 e3;rw [am4 h2,nZ m,nZ m,VF] at q1;rw [ab0 h2,nZ m,nZ m,VF] at q2;refine ⟨m,e1,e2,he,by grind,by grind,fun q hq=>?_⟩;obtain ⟨i,hi,rfl⟩:=List.mem_iff_getElem.1 hq;have hp0:=lT D.hr (i:=0);have n0:(cX x).getD 0 0≠0:=by intro e;rw [e] at hp0;exact absurd hp0 (by decide)
 have h0:xP (fun j=>m.getD j 0) 0 2 289:=by
  refine ⟨(((bR x y).getD 0 0-a)*6)/((cX x).getD 0 0*2),1/2,?_,by decide +kernel,by decide +kernel,af3,((((D.d 0).sub fa).mul tK).div ((D.h 0).mul fS)).mono (by omega)⟩;have hz:(cX x).getD 0 0*2≠0:=by grind
  have hc:=Rat.div_mul_cancel (a:=((bR x y).getD 0 0-a)*6) hz;dsimp only;generalize (((bR x y).getD 0 0-a)*6)/((cX x).getD 0 0*2)=p at *;have:(m.getD 0 0-(p-1/2*m.getD (0+1) 0))*((cX x).getD 0 0*2)=0:=by grind
  rcases Rat.mul_eq_zero.1 this with h | h
  .grind
  .exact absurd h hz
 have hR:=D.dV he h0
 have hlast:Fit 30000 (m.getD (x.length-1) 0):=by
  obtain ⟨p,q,e,g0,g1,fq,fp⟩:=hR (x.length-2) (by omega);have e:m.getD (x.length-2) 0=p-q*m.getD (x.length-2+1) 0:=e;rw [show x.length-2+1=x.length-1 by omega] at e;have hpn:=lT D.hr (i:=x.length-2);have fh:=D.h (x.length-2);have fd:=D.d (x.length-2);generalize (cX x).getD (x.length-2) 0=h at *
  have hz:(2-q)*h≠0:=by
   intro e;have:=Rat.mul_pos (show 0<2-q by grind) hpn;rw [e] at this;exact absurd this (by decide)
  have hv:m.getD (x.length-1) 0=((b-(bR x y).getD (x.length-2) 0)*6-h*p)/((2-q)*h):=by
   have hc:=Rat.div_mul_cancel (a:=(b-(bR x y).getD (x.length-2) 0)*6-h*p) hz;generalize ((b-(bR x y).getD (x.length-2) 0)*6-h*p)/((2-q)*h)=u at *;have:(m.getD (x.length-1) 0-u)*((2-q)*h)=0:=by rw [e] at q2;grind
   rcases Rat.mul_eq_zero.1 this with h | h
   .grind
   .exact absurd h hz
  rw [hv];exact (((((fb.sub fd).mul tK).sub (fh.mul fp)).div ((fS.sub fq).mul fh))).mono (by decide)
 have:=Ny (n:=x.length) (v:=fun j=>m.getD j 0) (V:=30000) (B:=260000) (by omega) hR hlast (Nat.le_trans (Nat.add_le_add_left (Nat.mul_le_mul_right _ h8) _) (by decide)) i (by omega)
 rwa [show m.getD i 0=m[i] by rw [fV,cC hi];rfl] at this
end
open Go Go.Proofs Tryz Ord
def Om (p:List Rat):Nat:=p.foldr (fun a d=>a.den*d) 1
theorem yG:∀ {p:List Rat} {a:Rat},a∈p->a.den∣Om p
 | b::p,a,h=>by
   rcases List.mem_cons.1 h with rfl | h
   .exact Nat.dvd_mul_right _ _
   .exact Nat.dvd_trans (yG h) (Nat.dvd_mul_left _ _)
theorem BT:∀ p:List Rat,Om p≠0
 | []=>by decide
 | a::p=>Nat.mul_ne_zero a.den_nz (BT p)
theorem BM {A:Nat}:∀ {p:List Rat},(∀ a∈p,Fit A a)->Om p<=2^(A*p.length)
 | [],_=>Nat.one_le_two_pow
 | a::p,h=>by
   have h1:=(h a (by simp)).2;have h2:=BM (A:=A) (p:=p) fun b hb=>h b (by simp [hb]);show a.den*Om p<=_;rw [List.length_cons,Nat.mul_add,Nat.mul_one,Nat.pow_add,Nat.mul_comm];exact Nat.mul_le_mul h2 (Nat.le_of_lt h1)
theorem tH {A D:Nat} {a:Rat} (h:Fit A a) (hd:a.den∣D):Bd D (2^A) a:=⟨hd,Nat.le_trans (Nat.le_of_lt h.1) (Nat.le_mul_of_pos_right _ a.den_pos)⟩
theorem ax4 {D E A:Nat} (hD:D<=2^(4*A)) (hE:E<=2^A):xJ D E (2^A) (2^A) 4<2^(16*A+40):=by
 unfold xJ;have hx:1<=2^A:=Nat.one_le_two_pow;have e4:(4*2^A+1)<=2^(A+3):=by rw [Nat.pow_add];omega
 have h1:(4*2^A+1)^4<=2^(4*A+12):=by
  rw [show 4*A+12=(A+3)*4 by omega,Nat.pow_mul];exact Nat.pow_le_pow_left e4 4
 have h2:2^A*(4*2^A+1)^4+1<=2^(5*A+13):=by
  have:=Nat.mul_le_mul_left (2^A) h1;rw [<-Nat.pow_add,show A+(4*A+12)=5*A+12 by omega] at this;have h3:1<=2^(5*A+12):=Nat.one_le_two_pow;rw [show 5*A+13=5*A+12+1 by omega,Nat.pow_succ];exact Nat.le_trans (Nat.add_le_add this h3) (Nat.le_of_eq (Nat.mul_two _).symm)
 have h3:2^A+1<=2^(A+1):=by rw [Nat.pow_succ];omega
 have h4:D*E^4*E<=2^(9*A):=by
  have a1:=Nat.pow_le_pow_left hE 4;rw [<-Nat.pow_mul] at a1;have:=Nat.mul_le_mul (Nat.mul_le_mul hD a1) hE;rw [<-Nat.pow_add,<-Nat.pow_add] at this
  rwa [show 4*A+A*4+A=9*A by omega] at this
 have h5:(4+1)*((2^A*(4*2^A+1)^4+1)*(2^A+1))<=2^(6*A+17):=by
  have:=Nat.mul_le_mul (show 4+1<=2^3 by decide) (Nat.mul_le_mul h2 h3);rw [<-Nat.pow_add,<-Nat.pow_add] at this
  rwa [show 3+(5*A+13+(A+1))=6*A+17 by omega] at this
 have:=Nat.mul_le_mul h4 h5;rw [<-Nat.pow_add] at this;exact Nat.lt_of_le_of_lt this (Nat.pow_lt_pow_right (by omega) (by omega))
theorem Yq (p:List Rat) (c:Rat) (A:Nat) (hp:∀ a∈p,Fit A a) (hc:Fit A c) (hl:p.length<=4) (hA:A<=100000000:=by omega):aQ prog 205 [.one (sQ p),qT c] (.ret [.one (sQ (uZ p c))]):=by
 refine Rv p c (Om p) c.den (2^A) (2^A) 4 (16*A+40) (fun a ha=>tH (hp a ha) (yG ha)) (tH hc (Nat.dvd_refl _)) hl (ax4 (Nat.le_trans (BM hp) (Nat.pow_le_pow_right (by omega) ?_)) (Nat.le_of_lt hc.2)) (BT p) c.den_nz Nat.one_le_two_pow;rw [Nat.mul_comm];exact Nat.mul_le_mul_right _ hl
open Go Go.Proofs Tryz Ord
theorem iX {A:Nat} {l:List Rat} {i:Nat} {a:Rat} (h:∀ q∈l,Fit A q) (ha:Fit A a):∀ q∈l.set i a,Fit A q:=fun q hq=>by
 rcases List.mem_or_eq_of_mem_set hq with hq | rfl
 .exact h q hq
 .exact ha
theorem BJ {A n:Nat} (hA:1<=A):∀ q∈List.replicate n (0:Rat),Fit A q:=fun q hq=>by rw [(List.mem_replicate.1 hq).2];exact Fit.zero hA
theorem xW:Fit 2 ((2:Int):Rat):=fS
theorem sA:Fit 3 ((6:Int):Rat):=tK
theorem Wv (x:List Rat) (i:Nat):(qR x.length i).length=x.length+1/\∀ a∈qR x.length i,Fit 400 a:=
 ⟨xM _ _,iX (iX (BJ (by omega)) (Fit.zero (by omega))) (Fit.int (n:=1) (by omega) (by decide +kernel))⟩
section
variable {x y:List Rat} (D:Ar x y)
include D
theorem Ar.giv:mR x y=true:=by
 have h8:=D.h8;rw [mR,decide_eq_true D.h2,decide_eq_true (show x.length<=40 by omega),decide_eq_true D.hxy,D.hr];rfl
theorem Ar.inn (i:Nat) (h1:1<=i):∀ a∈jD (cX x) (bR x y) x.length i,Fit 400 a:=
 iX (iX (iX (iX (BJ (by omega)) (((((D.d i).sub (D.d (i-1))).mul sA)).mono (by omega))) ((D.h _).mono (by omega))) ((((D.h _).add (D.h _)).mul xW).mono (by omega))) ((D.h _).mono (by omega))
theorem Ar.tab {r1 r2:List Rat} (h1:r1.length=x.length+1/\∀ a∈r1,Fit 400 a) (h2:r2.length=x.length+1/\∀ a∈r2,Fit 400 a):Oe x.length (x.length+1) 400 (Aa x y r1 r2):=by
 refine ⟨wS D.h2,fun r hr=>?_⟩;rw [Aa] at hr;rcases List.mem_append.1 hr with hr | hr
 .obtain ⟨j,_,rfl⟩:=eM.1 hr;exact ⟨uM _ _ _ _,D.inn _ (by omega)⟩
 .simp only [List.mem_cons,List.not_mem_nil,or_false] at hr;rcases hr with rfl | rfl
  .exact h1
  .exact h2
theorem Ar.bC1 {a:Rat} (fa:Fit 40 a):(BF (cX x) (bR x y) x.length a).length=x.length+1/\∀ q∈BF (cX x) (bR x y) x.length a,Fit 400 q:=
 ⟨En _ _ _ _,iX (iX (iX (BJ (by omega)) ((((D.d 0).sub fa).mul sA).mono (by omega))) (((D.h 0).mul xW).mono (by omega))) ((D.h 0).mono (by omega))⟩
theorem Ar.bv2 {b:Rat} (fb:Fit 40 b):(Bt (cX x) (bR x y) x.length b).length=x.length+1/\∀ q∈Bt (cX x) (bR x y) x.length b,Fit 400 q:=
 ⟨Dw _ _ _ _,iX (iX (iX (BJ (by omega)) (((fb.sub (D.d _)).mul sA).mono (by omega))) ((D.h _).mono (by omega))) (((D.h _).mul xW).mono (by omega))⟩
theorem Ar.aI1 {m:List Rat} (hm:∀ a∈m,Fit 800000 a) (i:Nat):∀ q∈cvP x y m i,Fit 2500000 q:=fun q hq=>by
 have fm:=fun j=>aC hm j;simp only [cvP,List.mem_cons,List.not_mem_nil,or_false] at hq;rcases hq with rfl | rfl | rfl | rfl
 .exact (aC D.hy _).mono (by omega)
 .exact ((D.d i).sub ((D.h i).mul ((((fm i).add (fm i)).add (fm (i+1))).div sA))).mono (by omega)
 .exact ((fm i).div xW).mono (by omega)
 .exact (((fm (i+1)).sub (fm i)).div ((D.h i).mul sA)).mono (by omega)
theorem Ar.shift {m:List Rat} (hm:∀ a∈m,Fit 800000 a) (i:Nat):aQ prog 205 [.one (sQ (cvP x y m i)),qT (-(x.getD i 0))] (.ret [.one (sQ (fZ x y m i))]):=
 Yq _ _ 2500000 (D.aI1 hm i) ((aC D.hx i).neg.mono (by omega)) (aY 4)
end
theorem aq3:∀ k,k<=8->gA 400 k<=1000000000:=fun k hk=>by
 match k,hk with
 | 0,_ | 1,_ | 2,_ | 3,_ | 4,_ | 5,_ | 6,_ | 7,_ | 8,_=>decide
theorem aW7 {x y m:List Rat} (D:Ar x y) (hm:∀ a∈m,Fit 800000 a) (hl:m.length=x.length) (hsol:gF (lH x y)=some m) :
  aQ prog 49 [.one (sQ x), .one (sQ y)] (.ret [.agg (uP x ((List.range (x.length-1)).map (fZ x y m))), .one (.int .i64 0)]):=by
 have h8:=D.h8;exact Dt x y m 800000 400 (by omega) (by omega) (fun a h=>(D.hx a h).mono (by omega)) (fun a h=>(D.hy a h).mono (by omega)) hm (by omega) D.h2 D.hxy hl D.giv (D.tab (Wv x 0) (Wv x _)) (by omega) (fun k hk=>aq3 k (by omega)) hsol (fun i _=>D.shift hm i)
theorem aY5 {x y m:List Rat} (D:Ar x y) {a b:Rat} (fa:Fit 40 a) (fb:Fit 40 b) (hm:∀ a∈m,Fit 800000 a) (hl:m.length=x.length) (hsol:gF (uC x y a b)=some m) :
  aQ prog 50 [.one (sQ x), .one (sQ y),qT a,qT b] (.ret [.agg (uP x ((List.range (x.length-1)).map (fZ x y m))), .one (.int .i64 0)]):=by
 have h8:=D.h8;exact Ea x y m a b 800000 400 (by omega) (by omega) (fun a h=>(D.hx a h).mono (by omega)) (fun a h=>(D.hy a h).mono (by omega)) (fa.mono (by omega)) (fb.mono (by omega)) hm (by omega) D.h2 D.hxy hl D.giv (D.tab (D.bC1 fa) (D.bv2 fb)) (by omega) (fun k hk=>aq3 k (by omega)) hsol (fun i _=>D.shift hm i)
end Go.Sy
