/- Part. -/
import Derived.Test.YtacgmapjhpghkaaGreatDoorWe
set_option linter.all false
namespace Go.Sy
open Ord
def sm (f:Nat->Rat):Nat->Rat
 | 0=>0
 | n+1=>sm f n+f n
theorem Rc {f g:Nat->Rat}:∀ n,(∀ i,i<n->f i=g i)->sm f n=sm g n
 | 0,_=>rfl
 | n+1,h=>by rw [sm,sm,Rc n fun i hi=>h i (by omega),h n (by omega)]
theorem BZ {f:Nat->Rat}:∀ n,(∀ i,i<n->f i=0)->sm f n=0
 | 0,_=>rfl
 | n+1,h=>by rw [sm,BZ n fun i hi=>h i (by omega),h n (by omega)];grind
theorem UH (f g:Nat->Rat) (a:Rat):∀ n,sm (fun i=>f i-a*g i) n=sm f n-a*sm g n
 | 0=>by simp only [sm];grind
 | n+1=>by rw [sm,sm,sm,UH f g a n];grind
theorem Vk {f:Nat->Rat} {k:Nat}:∀ {n},k<n->(∀ i,i<n->i≠k->f i=0)->sm f n=f k
 | 0,h,_=>by omega
 | n+1,hk,h=>by
   rw [sm];by_cases e:k=n
   .subst e;rw [BZ k fun i hi=>h i (by omega) (by omega)];grind
   .rw [Vk (n:=n) (by omega) fun i hi=>h i (by omega),h n (by omega) (by omega)];grind
theorem UJ {f:Nat->Rat} {j k:Nat} (hj:j<k):∀ {n},k<n->(∀ i,i<n->i≠j->i≠k->f i=0)->sm f n=f j+f k
 | 0,h,_=>by omega
 | n+1,hk,h=>by
   rw [sm];by_cases e:k=n
   .subst e;rw [Vk hj fun i hi h1=>h i (by omega) h1 (by omega)]
   .rw [UJ hj (n:=n) (by omega) fun i hi=>h i (by omega),h n (by omega) (by omega) (by omega)];grind
def lO (r:List Rat) (v:Nat->Rat):Rat:=sm (fun j=>r.getD j 0*v j) r.length
def NR (rows:List (List Rat)) (v:Nat->Rat):Prop:=∀ i,i<rows.length->lO (rows.getD i []) v=0
theorem fI {α:Type} {l:List α} {i:Nat} {d:α}:l.getD i d=(l[i]?).getD d:=gO
theorem gV {rows:List (List Rat)} {k i j:Nat} (hk:k<rows.length:=by omega) (hi:i<rows.length:=by omega):(kE rows k i).getD j []=if j=i then rows.getD k [] else if j=k then rows.getD i [] else rows.getD j []:=by
 rw [kE,fI,List.getElem?_set,List.length_set];by_cases h:i=j
 .rw [if_pos h,if_pos hi,if_pos h.symm];rfl
 .rw [if_neg h,if_neg (Ne.symm h),List.getElem?_set];by_cases h2:k=j
  .rw [if_pos h2,if_pos hk,if_pos h2.symm];rfl
  .rw [if_neg h2,if_neg (Ne.symm h2),<-fI]
theorem iD {k:Nat} {rows:List (List Rat)} {n j:Nat} (hj:j<rows.length):(dL k rows n).getD j []=if j<n/\j≠k then iB k (rows.getD k []) (rows.getD j []) else rows.getD j []:=by
 have h1:rows[j]? = some (rows.getD j []):=by rw [fI,bZ hj];rfl
 rw [fI,gZ,h1];rfl
theorem pC {k:Nat} {p r:List Rat} {i:Nat} (hi:i<r.length):(iB k p r).getD i 0=if r.getD k 0=0\/i<k then r.getD i 0 else r.getD i 0-r.getD k 0/p.getD k 0*p.getD i 0:=by
 unfold iB;by_cases h:r.getD k 0=0
 .rw [if_pos h,if_pos (.inl h)]
 .rw [if_neg h];have h1:r[i]? = some (r.getD i 0):=by rw [fI,bZ hi];rfl
  rw [fI,oS,h1,Option.map_some,Option.getD_some];by_cases h2:i<k
  .rw [if_neg (by omega),if_pos (.inr h2)]
  .rw [if_pos ⟨by omega,hi⟩,if_neg (by intro h3;rcases h3 with h3 | h3;exact h h3;exact h2 h3)]
structure GJ (n k:Nat) (rows:List (List Rat)):Prop where
 len:rows.length=n
 row:∀ i,i<n->(rows.getD i []).length=n+1
 off:∀ c,c<k->∀ i,i<n->i≠c->(rows.getD i []).getD c 0=0
 dia:∀ c,c<k->(rows.getD c []).getD c 0≠0
theorem GJ.swap {n k i:Nat} {rows:List (List Rat)} (h:GJ n k rows) (hk:k<n) (hi:i<n) (hki:k<=i):GJ n k (kE rows k i):=by
 have hl:=h.len;refine ⟨(lF _ _ _).trans hl,fun j hj=>?_,fun c hc j hj hjc=>?_,fun c hc=>?_⟩
 .rw [gV];split
  .exact h.row k hk
  .split
   .exact h.row i hi
   .exact h.row j hj
 .rw [gV];split
  .exact h.off c hc k hk (by omega)
  .split
   .exact h.off c hc i hi (by omega)
   .exact h.off c hc j hj hjc
 .rw [gV,if_neg (by omega),if_neg (by omega)];exact h.dia c hc
theorem GJ.elim {n k:Nat} {rows:List (List Rat)} (h:GJ n k rows) (hk:k<n) (hp:(rows.getD k []).getD k 0≠0):GJ n (k+1) (dL k rows n):=by
 have hl:=h.len
 have key:∀ j,j<n->∀ c,c<k->((dL k rows n).getD j []).getD c 0=(rows.getD j []).getD c 0:=fun j hj c hc=>by
  rw [iD (by omega)];split
  .rw [pC (by rw [h.row j hj];omega),if_pos (.inr hc)]
  .rfl
 refine ⟨(hC _ _ _).trans hl,fun j hj=>?_,fun c hc j hj hjc=>?_,fun c hc=>?_⟩
 .rw [iD (by omega)];split
  .rw [mR];exact h.row j hj
  .exact h.row j hj
 .by_cases e:c=k
  .subst e;rw [iD (by omega),if_pos ⟨hj,hjc⟩,pC (by rw [h.row j hj];omega)];split
   .rename_i h1;rcases h1 with h1 | h1
    .exact h1
    .omega
   .rw [Rat.div_mul_cancel hp];grind
  .rw [key j hj c (by omega)];exact h.off c (by omega) j hj hjc
 .by_cases e:c=k
  .subst e;rw [iD (by omega),if_neg (by omega)];exact hp
  .rw [key c (by omega) c (by omega)];exact h.dia c (by omega)
theorem XG {k:Nat} {p r:List Rat} {v:Nat->Rat} (hl:p.length=r.length) (h0:∀ c,c<k->p.getD c 0=0):lO (iB k p r) v=lO r v-(if r.getD k 0=0 then 0 else r.getD k 0/p.getD k 0)*lO p v:=by
 unfold lO;rw [mR,hl,<-UH];refine Rc _ fun i hi=>?_;rw [pC hi];by_cases h1:r.getD k 0=0
 .rw [if_pos (.inl h1),if_pos h1];grind
 .rw [if_neg h1];by_cases h2:i<k
  .rw [if_pos (.inr h2),h0 i h2];grind
  .rw [if_neg (by intro h3;rcases h3 with h3 | h3;exact h1 h3;exact h2 h3)];grind
theorem NR.swap {n k i:Nat} {rows:List (List Rat)} (hl:rows.length=n) (hk:k<n) (hi:i<n) (v:Nat->Rat):NR (kE rows k i) v↔NR rows v:=by
 constructor
 .intro h j hj;have hl2:(kE rows k i).length=n:=(lF _ _ _).trans hl;by_cases e:j=k
  .subst e;have:=h i (by omega)
   rwa [gV,if_pos rfl] at this
  .by_cases e2:j=i
   .subst e2;have:=h k (by omega);rw [gV] at this;by_cases e3:k=j
    .rw [if_pos e3] at this;rwa [<-e3]
    .rwa [if_neg e3,if_pos rfl] at this
   .have:=h j (by omega)
    rwa [gV,if_neg e2,if_neg e] at this
 .intro h j hj;rw [lF] at hj;rw [gV];split
  .exact h k (by omega)
  .split
   .exact h i (by omega)
   .exact h j hj
theorem NR.elim {n k:Nat} {rows:List (List Rat)} (h:GJ n k rows) (hk:k<n) (v:Nat->Rat):NR (dL k rows n) v↔NR rows v:=by
 have hl:=h.len;have hp0:∀ c,c<k->(rows.getD k []).getD c 0=0:=fun c hc=>h.off c hc k hk (by omega)
 have hE:∀ j,j<n->j≠k->lO ((dL k rows n).getD j []) v=lO (rows.getD j []) v-(if (rows.getD j []).getD k 0=0 then 0 else (rows.getD j []).getD k 0/(rows.getD k []).getD k 0)*lO (rows.getD k []) v:=fun j hj hjk=>by
  rw [iD (by omega),if_pos ⟨hj,hjk⟩,XG (by rw [h.row k hk,h.row j hj]) hp0]
 have hK:(dL k rows n).getD k []=rows.getD k []:=by rw [iD (by omega),if_neg (by omega)]
 have hlE:(dL k rows n).length=n:=(hC _ _ _).trans hl
 constructor
 .intro hN j hj;have h1:=hN k (by omega);rw [hK] at h1;by_cases e:j=k
  .rw [e];exact h1
  .have h2:=hN j (by omega);rw [hE j (by omega) e,h1] at h2
   grind
 .intro hN j hj;rw [hlE] at hj;by_cases e:j=k
  .rw [e,hK];exact hN k (by omega)
  .rw [hE j hj e,hN k (by omega),hN j (by omega)];grind
theorem Xr {k i n:Nat} {rows:List (List Rat)} (hl:rows.length=n) (h:TA k rows=some i):k+i<n/\(rows.getD (k+i) []).getD k 0≠0:=by
 rw [TA,List.findIdx?_eq_some_iff_getElem] at h;obtain ⟨h1,h2,_⟩:=h;have h3:i<rows.length-k:=by rwa [List.length_drop] at h1
 refine ⟨by omega,?_⟩;rw [List.getElem_drop] at h2;have h4:k+i<rows.length:=by omega
 rw [show rows.getD (k+i) []=rows[k+i] by rw [fI,bZ h4];rfl]
 simpa using h2
theorem Xc {k n:Nat} {rows:List (List Rat)} (hl:rows.length=n) (h:TA k rows=none):∀ i,k<=i->i<n->(rows.getD i []).getD k 0=0:=by
 intro i hi hn;rw [TA,List.findIdx?_eq_none_iff] at h
 have h1:=h (rows.getD i []) (by
  rw [List.mem_iff_getElem?];refine ⟨i-k,?_⟩;rw [List.getElem?_drop,show k+(i-k)=i by omega,fI,bZ (by omega)];rfl)
 simpa using h1
theorem AN {n:Nat}:∀ (f k:Nat) (rows:List (List Rat)),GJ n k rows->k+f=n ->
  (∃ rs,jW f k rows=some rs/\GJ n n rs/\∀ v,NR rs v↔NR rows v)\/(∃ v,NR rows v/\v n=0/\∃ j,j<n/\v j≠0)
 | 0,k,rows,h,hkn=>by
   obtain rfl:k=n:=by omega
   exact .inl ⟨rows,rfl,h,fun v=>Iff.rfl⟩
 | f+1,k,rows,h,hkn=>by
   have hl:=h.len;cases hp:TA k rows with
   | some i=>
     obtain ⟨h1,h2⟩:=Xr hl hp;have g1:=h.swap (by omega) h1 (Nat.le_add_right k i)
     have hpk:((kE rows k (k+i)).getD k []).getD k 0≠0:=by
      rw [gV];split
      .rename_i e;rw [<-e] at h2;exact h2
      .rw [if_pos rfl];exact h2
     have g2:=g1.elim (by omega) hpk;have hN:∀ v,NR (dL k (kE rows k (k+i)) n) v↔NR rows v:=fun v=>(NR.elim g1 (by omega) v).trans (NR.swap hl (by omega) h1 v);have hS:jW (f+1) k rows=jW f (k+1) (dL k (kE rows k (k+i)) n):=by rw [jW,hp,hl]
     rw [hS];rcases AN f (k+1) _ g2 (by omega) with ⟨rs,e1,e2,e3⟩ | ⟨v,e1,e2,e3⟩
     .exact .inl ⟨rs,e1,e2,fun v=>(e3 v).trans (hN v)⟩
     .exact .inr ⟨v,(hN v).1 e1,e2,e3⟩
   | none=>
     right
     have h0:=Xc hl hp;refine ⟨fun j=>if j=k then 1 else if j<k then -((rows.getD j []).getD k 0/(rows.getD j []).getD j 0) else 0,fun i hi=>?_,?_,k,by omega,?_⟩
     .unfold lO;rw [h.row i (by omega)];by_cases e:i<k
      .rw [UJ e (n:=n+1) (by omega)]
       .dsimp only;rw [if_neg (by omega),if_pos e,if_pos rfl];have:=Rat.div_mul_cancel (a:=(rows.getD i []).getD k 0) (h.dia i e)
        grind
       .intro c hc h1 h2;dsimp only;rw [if_neg h2];split
        .rename_i h3;rw [h.off c h3 i (by omega) (by omega)];grind
        .grind
      .rw [BZ];intro c hc;dsimp only;by_cases h1:c=k
       .rw [h1,h0 i (by omega) (by omega)];grind
       .rw [if_neg h1];split
        .rename_i h3;rw [h.off c h3 i (by omega) (by omega)];grind
        .grind
     .dsimp only;rw [if_neg (by omega),if_neg (by omega)]
     .dsimp only;rw [if_pos rfl];decide
def Uu (n:Nat) (sol:List Rat) (j:Nat):Rat:=if j=n then -1 else sol.getD j 0
theorem sD {n:Nat} {rows:List (List Rat)} (hl:rows.length=n) (hr:∀ i,i<n->(rows.getD i []).length=n+1) (hns:∀ v:Nat->Rat,v n=0->NR rows v->∀ j,j<n->v j=0) :
  ∃ sol,fG rows=some sol/\sol.length=n/\NR rows (Uu n sol):=by
 rcases AN n 0 rows ⟨hl,hr,fun c hc=>by omega,fun c hc=>by omega⟩ (by omega) with ⟨rs,e1,e2,e3⟩ | ⟨v,e1,e2,j,hj,e3⟩
 .have hlr:=e2.len;refine ⟨(List.range rs.length).map (lD rs),by rw [fG,hl,e1];rfl,by rw [aL,nZ];exact hlr,(e3 _).1 fun i hi=>?_⟩
  have hs:∀ j,j<n->((List.range rs.length).map (lD rs)).getD j 0=(rs.getD j []).getD n 0/(rs.getD j []).getD j 0:=fun j hj=>by
   rw [fI,dK,List.getElem?_range (by omega),Option.map_some,Option.getD_some,lD,e2.row j hj];rfl
  unfold lO;rw [e2.row i (by omega),UJ (j:=i) (k:=n) (by omega) (by omega)]
  .rw [Uu,Uu,if_neg (by omega),if_pos rfl,hs i (by omega)];have:=Rat.div_mul_cancel (a:=(rs.getD i []).getD n 0) (e2.dia i (by omega))
   grind
  .intro c hc h1 h2;rw [Uu,if_neg h2,e2.off c (by omega) i (by omega) (by omega)];grind
 .exact absurd (hns v e2 e1 j hj) e3
open Go Go.Proofs Tryz Ord
theorem cV {r:List Rat} {k j:Nat} {a:Rat}:(r.set k a).getD j 0=if k=j/\k<r.length then a else r.getD j 0:=by
 rw [fI,List.getElem?_set];by_cases h:k=j
 .subst h;rw [if_pos rfl];by_cases h2:k<r.length
  .rw [if_pos h2,if_pos ⟨rfl,h2⟩];rfl
  .rw [if_neg h2,if_neg (fun h=>h2 h.2),fI,List.getElem?_eq_none (by omega)]
 .rw [if_neg h,if_neg (fun e=>h e.1),<-fI]
theorem dH {r:List Rat} {k:Nat} (hk:k<r.length) (a:Rat) (v:Nat->Rat):lO (r.set k a) v=lO r v+(a-r.getD k 0)*v k:=by
 unfold lO;rw [List.length_set];have h:=UH (fun j=>(r.set k a).getD j 0*v j) (fun j=>r.getD j 0*v j) 1 r.length;rw [Vk hk (fun i hi hne=>by rw [cV,if_neg (fun e=>hne e.1.symm)];grind)] at h;rw [cV,if_pos ⟨rfl,hk⟩] at h
 grind
theorem dS (n j:Nat):(List.replicate n (0:Rat)).getD j 0=0:=by
 rw [fI,List.getElem?_replicate];split<;>rfl
theorem oE (n:Nat) (v:Nat->Rat):lO (List.replicate n 0) v=0:=by
 unfold lO;refine BZ _ fun i hi=>?_;rw [dS];grind
theorem Za {h d:List Rat} {n i:Nat} (hi:1<=i) (hin:i+1<n) (v:Nat->Rat):lO (jC h d n i) v=h.getD (i-1) 0*v (i-1)+(h.getD (i-1) 0+h.getD i 0)*2*v i+h.getD i 0*v (i+1)+(d.getD i 0-d.getD (i-1) 0)*6*v n:=by
 unfold jC Vt;rw [dH (by simp only [List.length_set,List.length_replicate];omega),dH (by simp only [List.length_set,List.length_replicate];omega),dH (by simp only [List.length_set,List.length_replicate];omega),dH (by simp only [List.length_replicate];omega),oE];rw [cV,if_neg (by omega),cV,if_neg (by omega),cV,if_neg (by omega),cV,if_neg (by omega),cV,if_neg (by omega),cV,if_neg (by omega),dS,dS,dS,dS];have e2:((2:Int):Rat)=2:=rfl;have e6:((6:Int):Rat)=6:=rfl;rw [e2,e6]
 grind
theorem ad5 {n i:Nat} (hi:i<n) (v:Nat->Rat):lO (qL n i) v=v i:=by
 unfold qL;rw [dH (by simp only [List.length_set,List.length_replicate];omega),dH (by simp only [List.length_replicate];omega),oE];rw [cV,if_neg (by omega),dS,dS];have e1:((1:Int):Rat)=1:=rfl;rw [e1]
 grind
theorem aj6 {h d:List Rat} {n:Nat} (hn:2<=n) (a:Rat) (v:Nat->Rat):lO (BC h d n a) v=h.getD 0 0*2*v 0+h.getD 0 0*v 1+(d.getD 0 0-a)*6*v n:=by
 unfold BC leR;rw [dH (by simp only [List.length_set,List.length_replicate];omega),dH (by simp only [List.length_set,List.length_replicate];omega),dH (by simp only [List.length_replicate];omega),oE];rw [cV,if_neg (by omega),cV,if_neg (by omega),cV,if_neg (by omega),dS,dS,dS];have e2:((2:Int):Rat)=2:=rfl;have e6:((6:Int):Rat)=6:=rfl;rw [e2,e6]
 grind
theorem ZF {h d:List Rat} {n:Nat} (hn:2<=n) (b:Rat) (v:Nat->Rat):lO (Bl h d n b) v=h.getD (n-2) 0*v (n-2)+h.getD (n-2) 0*2*v (n-1)+(b-d.getD (n-2) 0)*6*v n:=by
 unfold Bl riR;rw [dH (by simp only [List.length_set,List.length_replicate];omega),dH (by simp only [List.length_set,List.length_replicate];omega),dH (by simp only [List.length_replicate];omega),oE];rw [cV,if_neg (by omega),cV,if_neg (by omega),cV,if_neg (by omega),dS,dS,dS];have e2:((2:Int):Rat)=2:=rfl;have e6:((6:Int):Rat)=6:=rfl;rw [e2,e6]
 grind
theorem an7 (v:Nat->Rat):∀ n,0<n->∃ M j,j<n/\(v j=M\/v j = -M)/\∀ i,i<n -> -M<=v i/\v i<=M
 | 0,h=>by omega
 | 1,_=>by
   by_cases h:v 0<=0
   .refine ⟨-v 0,0,by omega, .inr (by grind),fun i hi=>?_⟩;obtain rfl:i=0:=by omega
    constructor<;>grind
   .refine ⟨v 0,0,by omega, .inl rfl,fun i hi=>?_⟩;obtain rfl:i=0:=by omega
    constructor<;>grind
 | n+2,_=>by
   obtain ⟨M,j,hj,hv,hall⟩:=an7 v (n+1) (by omega);by_cases h:-M<=v (n+1)/\v (n+1)<=M
   .refine ⟨M,j,by omega,hv,fun i hi=>?_⟩;by_cases e:i=n+1
    .rw [e];exact h
    .exact hall i (by omega)
   .by_cases h2:v (n+1)<=0
    .refine ⟨-v (n+1),n+1,by omega, .inr (by grind),fun i hi=>?_⟩;by_cases e:i=n+1
     .rw [e];constructor<;>grind
     .have:=hall i (by omega);have:=hall j hj
      constructor<;>grind
    .refine ⟨v (n+1),n+1,by omega, .inl rfl,fun i hi=>?_⟩;by_cases e:i=n+1
     .rw [e];constructor<;>grind
     .have:=hall i (by omega);have:=hall j hj
      constructor<;>grind
theorem TI {a x M:Rat} (ha:0<a) (h1:-M<=x) (h2:x<=M):-(a*M)<=a*x/\a*x<=a*M:=by
 have e1:=Rat.mul_le_mul_of_nonneg_left h1 (Rat.le_of_lt ha);have e2:=Rat.mul_le_mul_of_nonneg_left h2 (Rat.le_of_lt ha)
 constructor<;>grind
theorem Tw {a b M x y z:Rat} (ha:0<a) (hb:0<b) (hx:-M<=x/\x<=M) (hz:-M<=z/\z<=M) (hy:y=M\/y = -M) (h:a*x+(a+b)*2*y+b*z=0):M<=0:=by
 have h1:=TI ha hx.1 hx.2;have h2:=TI hb hz.1 hz.2;refine Rat.not_lt.1 fun hM=>?_;have h3:=Rat.mul_pos ha hM;have h4:=Rat.mul_pos hb hM;rcases hy with e | e
 .rw [e] at h;grind
 .rw [e] at h;grind
theorem Ep {n:Nat} {h v:Nat->Rat} (hpos:∀ i,i+1<n->0<h i) (hin:∀ i,1<=i->i+1<n->h (i-1)*v (i-1)+(h (i-1)+h i)*2*v i+h i*v (i+1)=0)
  (he:∀ M,(∀ i,i<n -> -M<=v i/\v i<=M)->(v 0=M\/v 0 = -M)\/(v (n-1)=M\/v (n-1) = -M)->M<=0):∀ j,j<n->v j=0:=by
 intro j hj;obtain ⟨M,k,hk,hv,hall⟩:=an7 v n (by omega)
 have hM:M<=0:=by
  by_cases h0:k=0
  .rw [h0] at hv;exact he M hall (.inl hv)
  .by_cases h1:k+1=n
   .rw [show k=n-1 by omega] at hv;exact he M hall (.inr hv)
   .exact Tw (hpos (k-1) (by omega)) (hpos k (by omega)) (hall (k-1) (by omega)) (hall (k+1) (by omega)) hv (hin k (by omega) (by omega))
 have:=hall j hj
 grind
theorem Cp (x:List Rat) {i:Nat} (hi:i+1<x.length:=by omega):(cJ x).getD i 0=x.getD (i+1) 0-x.getD i 0:=by
 rw [cJ,oV,fI,dK,List.getElem?_range (by omega)];rfl
theorem fY {x:List Rat} (hr:gC true x=true) {i:Nat} (hi:i+1<x.length:=by omega):0<(cJ x).getD i 0:=by
 rw [Cp x hi];have:=pU hr (Nat.lt_succ_self i) hi
 grind
open Go Go.Proofs Tryz Ord
theorem eY:Fit 2 2:=by unfold Fit;decide
def xK (v:Nat->Rat) (i F P:Nat):Prop:=∃ p q,v i=p-q*v (i+1)/\0<=q/\q<=1/\Fit F q/\Fit P p
theorem xK.next {v:Nat->Rat} {i F P H G:Nat} {a b g:Rat} (h:xK v i F P) (ha:0<a) (hb:0<b) (fa:Fit H a) (fb:Fit H b) (fg:Fit G g)
  (e:a*v i+(a+b)*2*v (i+1)+b*v (i+2)=g):xK v (i+1) (F+(4*H+6)) (P+F+G+(4*H+8)):=by
 obtain ⟨p,q,hv,h0,h1,fq,fp⟩:=h;have haq:0<=a*(1-q):=Rat.mul_nonneg (Rat.le_of_lt ha) (by grind);have hD:b<=(a+b)*2-a*q:=by grind
 have hD0:0<(a+b)*2-a*q:=by grind
 have fD:Fit (3*H+F+4) ((a+b)*2-a*q):=(((fa.add fb).mul eY).sub (fa.mul fq)).mono (by omega);generalize hDD:(a+b)*2-a*q=D at *;have hne:D≠0:=by intro e;rw [e] at hD0;exact absurd hD0 (by decide)
 have hb2:b/D*D=b:=Rat.div_mul_cancel hne;have hp2:(g-a*p)/D*D=g-a*p:=Rat.div_mul_cancel hne;refine ⟨(g-a*p)/D,b/D,?_,?_,?_,(fb.div fD).mono (by omega),((fg.sub (fa.mul fp)).div fD).mono (by omega)⟩
 .generalize (g-a*p)/D=p' at *;generalize b/D=q' at *
  have h3:(v (i+1)-(p'-q'*v (i+2)))*D=0:=by
   rw [hv] at e;have e2:v (i+1)*D=v (i+1)*((a+b)*2-a*q):=by rw [hDD]
   grind
  rcases Rat.mul_eq_zero.1 h3 with h4 | h4
  .grind
  .exact absurd h4 hne
 .refine Rat.not_lt.1 fun hn=>?_;have:=Rat.mul_pos (show 0 < -(b/D) by grind) hD0
  grind
 .refine Rat.not_lt.1 fun hn=>?_;have:=Rat.mul_pos (show 0<b/D-1 by grind) hD0
  grind
theorem xK.mono {v:Nat->Rat} {i F P F' P':Nat} (h:xK v i F P) (hF:F<=F') (hP:P<=P'):xK v i F' P':=by
 obtain ⟨p,q,h1,h2,h3,h4,h5⟩:=h;exact ⟨p,q,h1,h2,h3,h4.mono hF,h5.mono hP⟩
def yL (H F:Nat) (i:Nat):Nat:=F+i*(4*H+6)
def HR (H G F P:Nat):Nat->Nat
 | 0=>P
 | i+1=>HR H G F P i+yL H F i+G+(4*H+8)
theorem Sr {n:Nat} {h g v:Nat->Rat} {F P H G:Nat} (hpos:∀ i,i+1<n->0<h i) (fh:∀ i,i+1<n->Fit H (h i)) (fg:∀ i,i+2<n->Fit G (g (i+1)))
  (hin:∀ i,i+2<n->h i*v i+(h i+h (i+1))*2*v (i+1)+h (i+1)*v (i+2)=g (i+1)) (h0:xK v 0 F P):∀ i,i+1<n->xK v i (yL H F i) (HR H G F P i)
 | 0,_=>h0.mono (by rw [yL];omega) (by rw [HR];omega)
 | i+1,hi=>((Sr hpos fh fg hin h0 i (by omega)).next (hpos i (by omega)) (hpos (i+1) hi) (fh i (by omega)) (fh (i+1) hi) (fg i hi) (hin i hi)).mono (by rw [yL,yL,Nat.add_mul];omega) (by rw [HR];exact aY _)
theorem Nh (H G F P:Nat):∀ {i j:Nat},i<=j->HR H G F P i<=HR H G F P j:=fun {i j} hij=>by
 induction j with
 | zero=>rw [show i=0 by omega];exact aY _
 | succ j ih=>
   by_cases e:i=j+1
   .rw [e];exact aY _
   .have:=ih (by omega);rw [HR];omega
theorem RO {n:Nat} {v:Nat->Rat} {F P V:Nat} (hn:1<=n) (h:∀ i,i+1<n->xK v i F P) (hl:Fit V (v (n-1))):∀ j,j<n->Fit (V+j*(P+F+1)) (v (n-1-j))
 | 0,_=>hl.mono (by omega)
 | j+1,hj=>by
   have ih:=RO hn h hl j (by omega);obtain ⟨p,q,e,_,_,fq,fp⟩:=h (n-1-(j+1)) (by omega);rw [show n-1-(j+1)+1=n-1-j by omega] at e;rw [e];exact (fp.sub (fq.mul ih)).mono (by rw [Nat.add_mul];omega)
theorem Na {n:Nat} {v:Nat->Rat} {F P V B:Nat} (hn:1<=n) (h:∀ i,i+1<n->xK v i F P) (hl:Fit V (v (n-1))) (hB:V+n*(P+F+1)<=B):∀ i,i<n->Fit B (v i):=fun i hi=>by
 have:=RO hn h hl (n-1-i) (by omega);rw [show n-1-(n-1-i)=i by omega] at this;refine this.mono (Nat.le_trans (Nat.add_le_add_left (Nat.mul_le_mul_right _ ?_) _) hB);omega
open Go Go.Proofs Tryz Ord
theorem TQ (x:Rat) (xs:List Rat):trim (x::xs)=if sH zr xs=0/\zr x=true then [] else x::trim xs:=by
 unfold trim;simp only [sH];split<;>simp
theorem MV:∀ (p:List Rat) (s:Nat),(trim p).getD s 0=p.getD s 0
 | [],s=>rfl
 | x::xs,s=>by
   have ih:=MV xs;rw [TQ];split
   .rename_i h;have hx:x=0:=by simpa [zr] using h.2
    have ht:trim xs = []:=List.eq_nil_of_length_eq_zero (by rw [iA];exact h.1);cases s with
    | zero=>rw [hx];rfl
    | succ s=>
      have:=ih s;rw [ht] at this;exact this
   .cases s with
    | zero=>rfl
    | succ s=>exact ih s
def mU (a b c d:Rat):List Rat:=trim [a,b,c,d]
theorem sY (a b c d:Rat):oL (mU a b c d):=kM _
theorem eL (a b c d x:Rat):ev (mU a b c d) x=a+b*x+c*x*x+d*x*x*x:=by
 rw [mU,nP,bM,bM,bM,bM,dY];grind
theorem tJ (a b c d:Rat):(mU a b c d).length<=4:=fR _
theorem nB {a b c d:Rat} {A:Nat} (ha:Fit A a) (hb:Fit A b) (hc:Fit A c) (hd:Fit A d):∀ q∈mU a b c d,Fit A q:=rI (fun q hq=>by
 simp only [List.mem_cons,List.not_mem_nil,or_false] at hq;rcases hq with rfl | rfl | rfl | rfl<;>assumption)
theorem Yi (a b c d t:Rat):vC [a,b,c,d] t=mU (a+b*t+c*t*t+d*t*t*t) (b+2*c*t+3*d*t*t) (c+3*d*t) d:=
 Hm (CN _ _) (sY _ _ _ _) fun x=>by
  rw [XC,eL,bM,bM,bM,bM,dY];grind
theorem OY (f:Nat->Rat) (x:Rat) (m:Nat):∀ k,(∀ i,m<=i->f i=0)->ev ((List.range (m+k)).map f) x=ev ((List.range m).map f) x
 | 0,_=>rfl
 | k+1,h=>by
   rw [<-Nat.add_assoc,List.range_succ,List.map_append,MI,OY f x m k h,List.map_cons,List.map_nil,h (m+k) (by omega),bM,dY];grind
theorem ay2 {f:Nat->Rat} {x:Rat} {m n:Nat} (hm:∀ i,m<=i->f i=0) (hn:∀ i,n<=i->f i=0):ev ((List.range m).map f) x=ev ((List.range n).map f) x:=by
 rcases Nat.le_total m n with h | h
 .have:=OY f x m (n-m) hm;rw [show m+(n-m)=n by omega] at this;exact this.symm
 .have:=OY f x n (m-n) hn;rw [show n+(m-n)=m by omega] at this;exact this
theorem rV (a b c d:Rat):iQ (mU a b c d)=mU b (2*c) (3*d) 0:=by
 refine Hm (kM _) (sY _ _ _ _) fun x=>?_;have hg:∀ i,ZJ (mU a b c d) i = [a,b,c,d].getD (i+1) 0*(((i:Int)+1:Int):Rat):=fun i=>by rw [ZJ,mU,MV]
 rw [iQ,nP,ay2 (n:=3),eL]
 .show ev [ZJ (mU a b c d) 0,ZJ (mU a b c d) 1,ZJ (mU a b c d) 2] x=_;rw [hg,hg,hg,bM,bM,bM,dY];show ((0*x+d*3)*x+c*2)*x+b*1=_
  grind
 .intro i hi;rw [ZJ,fI,List.getElem?_eq_none (by omega)];exact Rat.zero_mul _
 .intro i hi;rw [hg,fI,List.getElem?_eq_none (by simp only [List.length_cons,List.length_nil];omega)];exact Rat.zero_mul _
section
variable (x y m:List Rat) (i:Nat)
def YL:Rat:=(bF x y).getD i 0-(cJ x).getD i 0*((m.getD i 0+m.getD i 0+m.getD (i+1) 0)/6)
def YO:Rat:=(m.getD (i+1) 0-m.getD i 0)/((cJ x).getD i 0*6)
theorem xT:fP x y m i=mU (y.getD i 0+YL x y m i * -(x.getD i 0)+m.getD i 0/2 * -(x.getD i 0) * -(x.getD i 0)+YO x m i * -(x.getD i 0) * -(x.getD i 0) * -(x.getD i 0)) (YL x y m i+2*(m.getD i 0/2) * -(x.getD i 0)+3*YO x m i * -(x.getD i 0) * -(x.getD i 0)) (m.getD i 0/2+3*YO x m i * -(x.getD i 0)) (YO x m i):=
 Yi _ _ _ _ _
theorem aL9 (t:Rat):ev (fP x y m i) t=y.getD i 0+YL x y m i*(t-x.getD i 0)+m.getD i 0/2*(t-x.getD i 0)*(t-x.getD i 0)+YO x m i*(t-x.getD i 0)*(t-x.getD i 0)*(t-x.getD i 0):=by
 rw [xT,eL];grind
theorem ab0 (t:Rat):ev (iQ (fP x y m i)) t=YL x y m i+m.getD i 0*(t-x.getD i 0)+3*YO x m i*(t-x.getD i 0)*(t-x.getD i 0):=by
 rw [xT,rV,eL];grind
theorem ag7 (t:Rat):ev (iQ (iQ (fP x y m i))) t=m.getD i 0+6*YO x m i*(t-x.getD i 0):=by
 rw [xT,rV,rV,eL];grind
end
theorem aC0 (x y m:List Rat) (i:Nat):(fP x y m i).length<=4:=by rw [xT];exact tJ _ _ _ _
theorem aA6 {x y:List Rat} (hr:gC true x=true) (hxy:y.length=x.length) {i:Nat} (hi:i+1<x.length):(bF x y).getD i 0*(cJ x).getD i 0=y.getD (i+1) 0-y.getD i 0:=by
 have hp:=fY hr hi;have h0:(cJ x).getD i 0≠0:=by intro e;rw [e] at hp;exact absurd hp (by decide)
 have hs:(bF x y).getD i 0=(y.getD (i+1) 0-y.getD i 0)/(cJ x).getD i 0:=by
  rw [bF,fI,dK,List.getElem?_range (by rw [gK];omega),Option.map_some,Option.getD_some,VC,yG,if_neg h0,Cp y]
 rw [hs,Rat.div_mul_cancel h0]
theorem PW {x m:List Rat} (hr:gC true x=true) {i:Nat} (hi:i+1<x.length):YO x m i*((cJ x).getD i 0*6)=m.getD (i+1) 0-m.getD i 0:=by
 have hp:=fY hr hi;rw [YO,Rat.div_mul_cancel];intro e;have:(cJ x).getD i 0=0:=by grind
 rw [this] at hp;exact absurd hp (by decide)
section
variable {x y m:List Rat} {i:Nat} (hr:gC true x=true) (hxy:y.length=x.length) (hi:i+1<x.length)
include hr hxy hi
theorem VL:ev (fP x y m i) (x.getD i 0)=y.getD i 0:=by rw [aL9];grind
theorem Ry:ev (fP x y m i) (x.getD (i+1) 0)=y.getD (i+1) 0:=by
 have h1:=aA6 hr hxy hi;have h2:=PW (m:=m) hr hi;rw [aL9,YL];have hw:=Cp x hi;rw [<-hw];generalize (cJ x).getD i 0=h at *;generalize (bF x y).getD i 0=s at *;generalize YO x m i=d at *;have e:y.getD (i+1) 0=y.getD i 0+s*h:=by grind
 have e2:m.getD (i+1) 0=m.getD i 0+d*(h*6):=by grind
 rw [e,e2]
 grind
theorem Tv:ev (iQ (fP x y m i)) (x.getD i 0)=YL x y m i:=by rw [ab0];grind
theorem NL:ev (iQ (fP x y m i)) (x.getD (i+1) 0)=(bF x y).getD i 0+(cJ x).getD i 0*((m.getD i 0+m.getD (i+1) 0+m.getD (i+1) 0)/6):=by
 have h2:=PW (m:=m) hr hi;rw [ab0,YL];have hw:=Cp x hi;rw [<-hw];generalize (cJ x).getD i 0=h at *;generalize (bF x y).getD i 0=s at *;generalize YO x m i=d at *;have e2:m.getD (i+1) 0=m.getD i 0+d*(h*6):=by grind
 rw [e2]
 grind
theorem QZ:ev (iQ (iQ (fP x y m i))) (x.getD i 0)=m.getD i 0:=by rw [ag7];grind
theorem Nr:ev (iQ (iQ (fP x y m i))) (x.getD (i+1) 0)=m.getD (i+1) 0:=by
 have h2:=PW (m:=m) hr hi;rw [ag7];have hw:=Cp x hi;rw [<-hw]
 grind
end
theorem ah1 {x y m:List Rat} {i:Nat} (hr:gC true x=true) (hxy:y.length=x.length) (hi:i+2<x.length)
  (he:(cJ x).getD i 0*m.getD i 0+((cJ x).getD i 0+(cJ x).getD (i+1) 0)*2*m.getD (i+1) 0+(cJ x).getD (i+1) 0*m.getD (i+2) 0=((bF x y).getD (i+1) 0-(bF x y).getD i 0)*6) :
  ev (iQ (fP x y m i)) (x.getD (i+1) 0)=ev (iQ (fP x y m (i+1))) (x.getD (i+1) 0):=by
 rw [NL hr hxy (by omega),Tv hr hxy (by omega),YL]
 grind
open Go Go.Proofs Tryz Ord
def uA (x y:List Rat) (r1 r2:List Rat):List (List Rat):=(List.range ((cJ x).length-1)).map (fun j=>jC (cJ x) (bF x y) x.length (j+1)) ++ [r1,r2]
section
variable {x y r1 r2:List Rat} (h2:2<=x.length)
include h2
theorem oI:(uA x y r1 r2).length=x.length:=by
 rw [uA,eE,aL,nZ,gK];show x.length-1-1+2=_;omega
theorem WD {i:Nat} (hi:i+2<x.length):(uA x y r1 r2).getD i []=jC (cJ x) (bF x y) x.length (i+1):=by
 have:=gK x;rw [uA,fI,List.getElem?_append_left (by rw [aL,nZ];omega),dK,List.getElem?_range (by omega)];rfl
theorem ZR:(uA x y r1 r2).getD (x.length-2) []=r1:=by
 have:=gK x;rw [uA,fI,List.getElem?_append_right (by rw [aL,nZ];omega),aL,nZ,show x.length-2-((cJ x).length-1)=0 by omega];rfl
theorem al1:(uA x y r1 r2).getD (x.length-1) []=r2:=by
 have:=gK x;rw [uA,fI,List.getElem?_append_right (by rw [aL,nZ];omega),aL,nZ,show x.length-1-((cJ x).length-1)=1 by omega];rfl
theorem Cz (h1:r1.length=x.length+1) (hr2:r2.length=x.length+1):∀ i,i<x.length->((uA x y r1 r2).getD i []).length=x.length+1:=fun i hi=>by
 by_cases e:i+2<x.length
 .rw [WD h2 e,oW]
 .by_cases e2:i+2=x.length
  .rw [show i=x.length-2 by omega,ZR h2,h1]
  .rw [show i=x.length-1 by omega,al1 h2,hr2]
theorem mL {v:Nat->Rat} (hN:NR (uA x y r1 r2) v):(∀ i,i+2<x.length->(cJ x).getD i 0*v i+((cJ x).getD i 0+(cJ x).getD (i+1) 0)*2*v (i+1)+(cJ x).getD (i+1) 0*v (i+2)+((bF x y).getD (i+1) 0-(bF x y).getD i 0)*6*v x.length=0)/\lO r1 v=0/\lO r2 v=0:=by
 have hl:=oI (y:=y) (r1:=r1) (r2:=r2) h2;refine ⟨fun i hi=>?_,?_,?_⟩
 .have:=hN i (by omega);rw [WD h2 hi,Za (by omega) (by omega)] at this;exact this
 .have:=hN (x.length-2) (by omega)
  rwa [ZR h2] at this
 .have:=hN (x.length-1) (by omega)
  rwa [al1 h2] at this
end
def Nq (x y m:List Rat):Prop:=∀ i,i+2<x.length->(cJ x).getD i 0*m.getD i 0+((cJ x).getD i 0+(cJ x).getD (i+1) 0)*2*m.getD (i+1) 0+(cJ x).getD (i+1) 0*m.getD (i+2) 0=((bF x y).getD (i+1) 0-(bF x y).getD i 0)*6
theorem gM {n j:Nat} (m:List Rat) (h:j<n:=by omega):Uu n m j=m.getD j 0:=if_neg (by omega)
theorem Py (n:Nat) (m:List Rat):Uu n m n = -1:=if_pos rfl
theorem Dl {x y m r1 r2:List Rat} (h2:2<=x.length) (hN:NR (uA x y r1 r2) (Uu x.length m)):Nq x y m:=fun i hi=>by
 have:=(mL h2 hN).1 i hi;rw [gM m (show i<x.length by omega),gM m (show i+1<x.length by omega),gM m (show i+2<x.length by omega),Py] at this
 grind
theorem Wr {h M a b:Rat} (hh:0<h) (ha:a=M\/a = -M) (hb:-M<=b/\b<=M) (e:h*2*a+h*b=0):M<=0:=by
 have h1:=TI hh hb.1 hb.2;refine Rat.not_lt.1 fun hM=>?_;have h3:=Rat.mul_pos hh hM;rcases ha with e2 | e2
 .rw [e2] at e;grind
 .rw [e2] at e;grind
section
variable {x y:List Rat} (h2:2<=x.length) (hr:gC true x=true)
include h2 hr
theorem ag9 (v:Nat->Rat) (hv:v x.length=0) (hN:NR (lE x y) v):∀ j,j<x.length->v j=0:=by
 obtain ⟨e1,e2,e3⟩:=mL (y:=y) h2 hN;rw [ad5 (by omega)] at e2 e3;refine Ep (h:=fun i=>(cJ x).getD i 0) (fun i hi=>fY hr hi) (fun i h1 hi=>?_) fun M hM he=>?_
 .have:=e1 (i-1) (by omega);rw [show i-1+1=i by omega,show i-1+2=i+1 by omega,hv] at this
  grind
 .rcases he with h | h<;>grind
theorem ZC (a b:Rat) (v:Nat->Rat) (hv:v x.length=0) (hN:NR (uH x y a b) v):∀ j,j<x.length->v j=0:=by
 obtain ⟨e1,e2,e3⟩:=mL (y:=y) h2 hN;rw [aj6 h2,hv] at e2;rw [ZF h2,hv] at e3;refine Ep (h:=fun i=>(cJ x).getD i 0) (fun i hi=>fY hr hi) (fun i h1 hi=>?_) fun M hM he=>?_
 .have:=e1 (i-1) (by omega);rw [show i-1+1=i by omega,show i-1+2=i+1 by omega,hv] at this
  grind
 .rcases he with h | h
  .exact Wr (fY hr (i:=0)) h (hM 1 (by omega)) (by grind)
  .refine Wr (fY hr (i:=x.length-2)) h (hM (x.length-2) (by omega)) (by grind)
end
open Go Go.Proofs Tryz Ord
theorem pQ:Fit 3 6:=by unfold Fit;decide
theorem ac4:Fit 2 (1/2):=by unfold Fit;decide +kernel
theorem Nj (H F:Nat) {i j:Nat} (h:i<=j:=by omega):yL H F i<=yL H F j:=Nat.add_le_add_left (Nat.mul_le_mul_right _ h) _
structure tM (x y:List Rat):Prop where
 h2:2<=x.length
 h8:x.length<=8
 hr:gC true x=true
 hxy:y.length=x.length
 hx:∀ a∈x,Fit 40 a
 hy:∀ a∈y,Fit 40 a
section
variable {x y:List Rat} (D:tM x y)
include D
theorem tM.h (i:Nat):Fit 81 ((cJ x).getD i 0):=aB (lS (by omega) D.hx) i
theorem tM.d (i:Nat):Fit 162 ((bF x y).getD i 0):=aB (qV D.hx D.hy) i
theorem tM.g (i:Nat):Fit 328 (((bF x y).getD (i+1) 0-(bF x y).getD i 0)*6):=(((D.d (i+1)).sub (D.d i)).mul pQ).mono (by omega)
theorem tM.dV {m:List Rat} (he:Nq x y m) {F P:Nat} (h0:xK (fun j=>m.getD j 0) 0 F P):∀ i,i+1<x.length->xK (fun j=>m.getD j 0) i (yL 81 F 7) (HR 81 328 F P 7):=fun i hi=>by
 have h8:=D.h8;exact (Sr (h:=fun i=>(cJ x).getD i 0) (g:=fun i=>((bF x y).getD i 0-(bF x y).getD (i-1) 0)*6) (fun i hi=>fY D.hr hi) (fun i _=>D.h i) (fun i _=>D.g i) (fun i hi=>he i hi) h0 i hi).mono (Nj _ _) (Nh _ _ _ _ (by omega))
theorem as5:∃ m,fG (lE x y)=some m/\m.length=x.length/\Nq x y m/\m.getD 0 0=0/\m.getD (x.length-1) 0=0/\∀ a∈m,Fit 220000 a:=by
 have h2:=D.h2;have h8:=D.h8;obtain ⟨m,e1,e2,e3⟩:=sD (n:=x.length) (rows:=lE x y) (oI h2) (Cz h2 (xJ _ _) (xJ _ _)) (ag9 h2 D.hr);have he:=Dl h2 e3;obtain ⟨_,q1,q2⟩:=mL h2 e3;rw [ad5 (by omega),gM m] at q1 q2;refine ⟨m,e1,e2,he,q1,q2,fun a ha=>?_⟩;obtain ⟨i,hi,rfl⟩:=List.mem_iff_getElem.1 ha;have h0:xK (fun j=>m.getD j 0) 0 1 1:=⟨0,0,by dsimp only;rw [q1];grind,by decide,by decide,Fit.zero (by omega),Fit.zero (by omega)⟩
 have:=Na (n:=x.length) (v:=fun j=>m.getD j 0) (V:=1) (B:=220000) (by omega) (D.dV he h0) (by show Fit 1 (m.getD _ 0);rw [q2];exact Fit.zero (by omega)) (Nat.le_trans (Nat.add_le_add_left (Nat.mul_le_mul_right _ h8) _) (by decide)) i (by omega)
 rwa [show m.getD i 0=m[i] by rw [fI,bZ hi];rfl] at this
theorem aB9 {a b:Rat} (fa:Fit 40 a) (fb:Fit 40 b):∃ m,fG (uH x y a b)=some m/\m.length=x.length/\Nq x y m/\(cJ x).getD 0 0*2*m.getD 0 0+(cJ x).getD 0 0*m.getD 1 0=((bF x y).getD 0 0-a)*6 /\
  (cJ x).getD (x.length-2) 0*m.getD (x.length-2) 0+(cJ x).getD (x.length-2) 0*2*m.getD (x.length-1) 0=(b-(bF x y).getD (x.length-2) 0)*6/\∀ q∈m,Fit 260000 q:=by
 have h2:=D.h2;have h8:=D.h8;obtain ⟨m,e1,e2,e3⟩:=sD (n:=x.length) (rows:=uH x y a b) (oI h2) (Cz h2 (Ey _ _ _ _) (DA _ _ _ _)) (ZC h2 D.hr a b);have he:=Dl h2 e3;obtain ⟨_,q1,q2⟩:=mL h2 e3;rw [aj6 h2,gM m,gM m,Py] at q1;rw [ZF h2,gM m,gM m,Py] at q2;refine ⟨m,e1,e2,he,by grind,by grind,fun q hq=>?_⟩;obtain ⟨i,hi,rfl⟩:=List.mem_iff_getElem.1 hq;have hp0:=fY D.hr (i:=0);have n0:(cJ x).getD 0 0≠0:=by intro e;rw [e] at hp0;exact absurd hp0 (by decide)
 have h0:xK (fun j=>m.getD j 0) 0 2 289:=by
  refine ⟨(((bF x y).getD 0 0-a)*6)/((cJ x).getD 0 0*2),1/2,?_,by decide +kernel,by decide +kernel,ac4,((((D.d 0).sub fa).mul pQ).div ((D.h 0).mul eY)).mono (by omega)⟩;have hz:(cJ x).getD 0 0*2≠0:=by grind
  have hc:=Rat.div_mul_cancel (a:=((bF x y).getD 0 0-a)*6) hz;dsimp only;generalize (((bF x y).getD 0 0-a)*6)/((cJ x).getD 0 0*2)=p at *;have:(m.getD 0 0-(p-1/2*m.getD (0+1) 0))*((cJ x).getD 0 0*2)=0:=by grind
  rcases Rat.mul_eq_zero.1 this with h | h
  .grind
  .exact absurd h hz
 have hR:=D.dV he h0
 have hlast:Fit 30000 (m.getD (x.length-1) 0):=by
  obtain ⟨p,q,e,g0,g1,fq,fp⟩:=hR (x.length-2) (by omega);have e:m.getD (x.length-2) 0=p-q*m.getD (x.length-2+1) 0:=e;rw [show x.length-2+1=x.length-1 by omega] at e;have hpn:=fY D.hr (i:=x.length-2);have fh:=D.h (x.length-2);have fd:=D.d (x.length-2);generalize (cJ x).getD (x.length-2) 0=h at *
  have hz:(2-q)*h≠0:=by
   intro e;have:=Rat.mul_pos (show 0<2-q by grind) hpn;rw [e] at this;exact absurd this (by decide)
  have hv:m.getD (x.length-1) 0=((b-(bF x y).getD (x.length-2) 0)*6-h*p)/((2-q)*h):=by
   have hc:=Rat.div_mul_cancel (a:=(b-(bF x y).getD (x.length-2) 0)*6-h*p) hz;generalize ((b-(bF x y).getD (x.length-2) 0)*6-h*p)/((2-q)*h)=u at *;have:(m.getD (x.length-1) 0-u)*((2-q)*h)=0:=by rw [e] at q2;grind
   rcases Rat.mul_eq_zero.1 this with h | h
   .grind
   .exact absurd h hz
  rw [hv];exact (((((fb.sub fd).mul pQ).sub (fh.mul fp)).div ((eY.sub fq).mul fh))).mono (by decide)
 have:=Na (n:=x.length) (v:=fun j=>m.getD j 0) (V:=30000) (B:=260000) (by omega) hR hlast (Nat.le_trans (Nat.add_le_add_left (Nat.mul_le_mul_right _ h8) _) (by decide)) i (by omega)
 rwa [show m.getD i 0=m[i] by rw [fI,bZ hi];rfl] at this
end
open Go Go.Proofs Tryz Ord
def NU (p:List Rat):Nat:=p.foldr (fun a d=>a.den*d) 1
theorem xY:∀ {p:List Rat} {a:Rat},a∈p->a.den∣NU p
 | b::p,a,h=>by
   rcases List.mem_cons.1 h with rfl | h
   .exact Nat.dvd_mul_right _ _
   .exact Nat.dvd_trans (xY h) (Nat.dvd_mul_left _ _)
theorem BQ:∀ p:List Rat,NU p≠0
 | []=>by decide
 | a::p=>Nat.mul_ne_zero a.den_nz (BQ p)
theorem BK {A:Nat}:∀ {p:List Rat},(∀ a∈p,Fit A a)->NU p<=2^(A*p.length)
 | [],_=>Nat.one_le_two_pow
 | a::p,h=>by
   have h1:=(h a (by simp)).2;have h2:=BK (A:=A) (p:=p) fun b hb=>h b (by simp [hb]);show a.den*NU p<=_;rw [List.length_cons,Nat.mul_add,Nat.mul_one,Nat.pow_add,Nat.mul_comm];exact Nat.mul_le_mul h2 (Nat.le_of_lt h1)
theorem tG {A D:Nat} {a:Rat} (h:Fit A a) (hd:a.den∣D):Bd D (2^A) a:=⟨hd,Nat.le_trans (Nat.le_of_lt h.1) (Nat.le_mul_of_pos_right _ a.den_pos)⟩
theorem av0 {D E A:Nat} (hD:D<=2^(4*A)) (hE:E<=2^A):xH D E (2^A) (2^A) 4<2^(16*A+40):=by
 unfold xH;have hx:1<=2^A:=Nat.one_le_two_pow;have e4:(4*2^A+1)<=2^(A+3):=by rw [Nat.pow_add];omega
 have h1:(4*2^A+1)^4<=2^(4*A+12):=by
  rw [show 4*A+12=(A+3)*4 by omega,Nat.pow_mul];exact Nat.pow_le_pow_left e4 4
 have h2:2^A*(4*2^A+1)^4+1<=2^(5*A+13):=by
  have:=Nat.mul_le_mul_left (2^A) h1;rw [<-Nat.pow_add,show A+(4*A+12)=5*A+12 by omega] at this;have h3:1<=2^(5*A+12):=Nat.one_le_two_pow;rw [show 5*A+13=5*A+12+1 by omega,Nat.pow_succ];exact Nat.le_trans (Nat.add_le_add this h3) (Nat.le_of_eq (Nat.mul_two _).symm)
 have h3:2^A+1<=2^(A+1):=by rw [Nat.pow_succ];omega
 have h4:D*E^4*E<=2^(9*A):=by
  have a1:=Nat.pow_le_pow_left hE 4;rw [<-Nat.pow_mul] at a1;have:=Nat.mul_le_mul (Nat.mul_le_mul hD a1) hE;rw [<-Nat.pow_add,<-Nat.pow_add] at this
  rwa [show 4*A+A*4+A=9*A by omega] at this
 have h5:(4+1)*((2^A*(4*2^A+1)^4+1)*(2^A+1))<=2^(6*A+17):=by
  have:=Nat.mul_le_mul (show 4+1<=2^3 by decide) (Nat.mul_le_mul h2 h3);rw [<-Nat.pow_add,<-Nat.pow_add] at this
  rwa [show 3+(5*A+13+(A+1))=6*A+17 by omega] at this
 have:=Nat.mul_le_mul h4 h5;rw [<-Nat.pow_add] at this;exact Nat.lt_of_le_of_lt this (Nat.pow_lt_pow_right (by omega) (by omega))
theorem Xz (p:List Rat) (c:Rat) (A:Nat) (hp:∀ a∈p,Fit A a) (hc:Fit A c) (hl:p.length<=4) (hA:A<=100000000:=by omega):aQ prog 205 [.one (sQ p),qT c] (.ret [.one (sQ (vC p c))]):=by
 refine QJ p c (NU p) c.den (2^A) (2^A) 4 (16*A+40) (fun a ha=>tG (hp a ha) (xY ha)) (tG hc (Nat.dvd_refl _)) hl (av0 (Nat.le_trans (BK hp) (Nat.pow_le_pow_right (by omega) ?_)) (Nat.le_of_lt hc.2)) (BQ p) c.den_nz Nat.one_le_two_pow;rw [Nat.mul_comm];exact Nat.mul_le_mul_right _ hl
open Go Go.Proofs Tryz Ord
theorem dR {A:Nat} {l:List Rat} {i:Nat} {a:Rat} (h:∀ q∈l,Fit A q) (ha:Fit A a):∀ q∈l.set i a,Fit A q:=fun q hq=>by
 rcases List.mem_or_eq_of_mem_set hq with hq | rfl
 .exact h q hq
 .exact ha
theorem oZ {A n:Nat} (hA:1<=A):∀ q∈List.replicate n (0:Rat),Fit A q:=fun q hq=>by rw [(List.mem_replicate.1 hq).2];exact Fit.zero hA
theorem oN:Fit 2 ((2:Int):Rat):=eY
theorem oP:Fit 3 ((6:Int):Rat):=pQ
theorem VH (x:List Rat) (i:Nat):(qL x.length i).length=x.length+1/\∀ a∈qL x.length i,Fit 400 a:=
 ⟨xJ _ _,dR (dR (oZ (by omega)) (Fit.zero (by omega))) (Fit.int (n:=1) (by omega) (by decide +kernel))⟩
section
variable {x y:List Rat} (D:tM x y)
include D
theorem tM.giv:mO x y=true:=by
 have h8:=D.h8;rw [mO,decide_eq_true D.h2,decide_eq_true (show x.length<=40 by omega),decide_eq_true D.hxy,D.hr];rfl
theorem tM.inn (i:Nat) (h1:1<=i):∀ a∈jC (cJ x) (bF x y) x.length i,Fit 400 a:=
 dR (dR (dR (dR (oZ (by omega)) (((((D.d i).sub (D.d (i-1))).mul oP)).mono (by omega))) ((D.h _).mono (by omega))) ((((D.h _).add (D.h _)).mul oN).mono (by omega))) ((D.h _).mono (by omega))
theorem tM.tab {r1 r2:List Rat} (h1:r1.length=x.length+1/\∀ a∈r1,Fit 400 a) (h2:r2.length=x.length+1/\∀ a∈r2,Fit 400 a):Ia x.length (x.length+1) 400 (uA x y r1 r2):=by
 refine ⟨oI D.h2,fun r hr=>?_⟩;rw [uA] at hr;rcases List.mem_append.1 hr with hr | hr
 .obtain ⟨j,_,rfl⟩:=eH.1 hr;exact ⟨oW _ _ _ _,D.inn _ (by omega)⟩
 .simp only [List.mem_cons,List.not_mem_nil,or_false] at hr;rcases hr with rfl | rfl
  .exact h1
  .exact h2
theorem tM.bE0 {a:Rat} (fa:Fit 40 a):(BC (cJ x) (bF x y) x.length a).length=x.length+1/\∀ q∈BC (cJ x) (bF x y) x.length a,Fit 400 q:=
 ⟨Ey _ _ _ _,dR (dR (dR (oZ (by omega)) ((((D.d 0).sub fa).mul oP).mono (by omega))) (((D.h 0).mul oN).mono (by omega))) ((D.h 0).mono (by omega))⟩
theorem tM.bw9 {b:Rat} (fb:Fit 40 b):(Bl (cJ x) (bF x y) x.length b).length=x.length+1/\∀ q∈Bl (cJ x) (bF x y) x.length b,Fit 400 q:=
 ⟨DA _ _ _ _,dR (dR (dR (oZ (by omega)) (((fb.sub (D.d _)).mul oP).mono (by omega))) ((D.h _).mono (by omega))) (((D.h _).mul oN).mono (by omega))⟩
theorem tM.aG5 {m:List Rat} (hm:∀ a∈m,Fit 800000 a) (i:Nat):∀ q∈YA x y m i,Fit 2500000 q:=fun q hq=>by
 have fm:=fun j=>aB hm j;simp only [YA,List.mem_cons,List.not_mem_nil,or_false] at hq;rcases hq with rfl | rfl | rfl | rfl
 .exact (aB D.hy _).mono (by omega)
 .exact ((D.d i).sub ((D.h i).mul ((((fm i).add (fm i)).add (fm (i+1))).div oP))).mono (by omega)
 .exact ((fm i).div oN).mono (by omega)
 .exact (((fm (i+1)).sub (fm i)).div ((D.h i).mul oP)).mono (by omega)
theorem tM.shift {m:List Rat} (hm:∀ a∈m,Fit 800000 a) (i:Nat):aQ prog 205 [.one (sQ (YA x y m i)),qT (-(x.getD i 0))] (.ret [.one (sQ (fP x y m i))]):=
 Xz _ _ 2500000 (D.aG5 hm i) ((aB D.hx i).neg.mono (by omega)) (aY 4)
theorem tM.as3 {m:List Rat} (hm:∀ a∈m,Fit 800000 a) (i:Nat):∀ q∈fP x y m i,Fit 9000000 q:=by
 have fm:=fun j=>aB hm j;have fx:=(aB D.hx i).neg;have fy:=aB D.hy i;have fB:Fit 2450000 (YL x y m i):=((D.d i).sub ((D.h i).mul ((((fm i).add (fm i)).add (fm (i+1))).div pQ))).mono (by omega);have fC:Fit 800005 (m.getD i 0/2):=((fm i).div eY).mono (by omega);have fD:Fit 1700000 (YO x m i):=(((fm (i+1)).sub (fm i)).div ((D.h i).mul pQ)).mono (by omega);have f3:Fit 2 3:=by unfold Fit;decide
 rw [xT];refine nB ?_ ?_ ?_ (fD.mono (by omega))
 .exact (((fy.add (fB.mul fx)).add ((fC.mul fx).mul fx)).add (((fD.mul fx).mul fx).mul fx)).mono (by omega)
 .exact ((fB.add ((eY.mul fC).mul fx)).add (((f3.mul fD).mul fx).mul fx)).mono (by omega)
 .exact (fC.add ((f3.mul fD).mul fx)).mono (by omega)
end
theorem an5:∀ k,k<=8->gA 400 k<=1000000000:=fun k hk=>by
 match k,hk with
 | 0,_ | 1,_ | 2,_ | 3,_ | 4,_ | 5,_ | 6,_ | 7,_ | 8,_=>decide
theorem aW2 {x y m:List Rat} (D:tM x y) (hm:∀ a∈m,Fit 800000 a) (hl:m.length=x.length) (hsol:fG (lE x y)=some m) :
  aQ prog 49 [.one (sQ x), .one (sQ y)] (.ret [.agg (pB x ((List.range (x.length-1)).map (fP x y m))), .one (.int .i64 0)]):=by
 have h8:=D.h8;exact Dx x y m 800000 400 (by omega) (by omega) (fun a h=>(D.hx a h).mono (by omega)) (fun a h=>(D.hy a h).mono (by omega)) hm (by omega) D.h2 D.hxy hl D.giv (D.tab (VH x 0) (VH x _)) (by omega) (fun k hk=>an5 k (by omega)) hsol (fun i _=>D.shift hm i)
theorem aY4 {x y m:List Rat} (D:tM x y) {a b:Rat} (fa:Fit 40 a) (fb:Fit 40 b) (hm:∀ a∈m,Fit 800000 a) (hl:m.length=x.length) (hsol:fG (uH x y a b)=some m) :
  aQ prog 50 [.one (sQ x), .one (sQ y),qT a,qT b] (.ret [.agg (pB x ((List.range (x.length-1)).map (fP x y m))), .one (.int .i64 0)]):=by
 have h8:=D.h8;exact Ei x y m a b 800000 400 (by omega) (by omega) (fun a h=>(D.hx a h).mono (by omega)) (fun a h=>(D.hy a h).mono (by omega)) (fa.mono (by omega)) (fb.mono (by omega)) hm (by omega) D.h2 D.hxy hl D.giv (D.tab (D.bE0 fa) (D.bw9 fb)) (by omega) (fun k hk=>an5 k (by omega)) hsol (fun i _=>D.shift hm i)
end Go.Sy
