/- Part. -/
set_option linter.all false
def av:=@Int.toNat_natCast
def an:=@List.length_cons
def bK:=@List.length_take
def bJ:=@List.length_set
def aG:=@if_neg
def dP:=@List.take_of_length_le
def aK:=@if_pos
def cU:=@Int.natAbs_natCast
def bo:=@List.length_nil
def bR:=@Bool.and_eq_true
def cN:=@Nat.mul_le_mul_right
def aq:=@Nat.le_trans
def eV:=@List.eq_nil_of_length_eq_zero
def cT:=@Array.length_toList
def bV:=@decide_eq_true
def cj:=@Nat.lt_of_lt_of_le
def eZ:=@List.getElem?_eq_none_iff
def eU:=@List.getElem?_append_left
def bt:=@List.map_append
def bw:=@List.append_nil
def cE:=@decide_eq_false
def bM:=@Nat.zero_add
def dc:=@List.mem_cons_of_mem
def cW:=@List.length_drop
def cw:=@List.size_toArray
def cK:=@Option.map_some
def dx:=@Array.replicate_succ
def dk:=@Array.replicate_zero
def dV:=@List.mem_cons_self
def dr:=@Nat.mul_le_mul_left
def di:=@List.append_toArray
def eX:=@List.length_replicate
def bh:=@Nat.pow_succ
def dm:=@List.getElem?_take
def dy:=@Bool.false_eq_true
def bq:=@Nat.add_zero
def dA:=@Option.some.inj
def cI:=@Prod.mk.injEq
def eO:=@List.length_reverse
def bX:=@Nat.add_mul
def iB:=@List.getElem?_append_right
def du:=@List.push_toArray
def dq:=@List.append_assoc
def gD:=@Int.sign_eq_one_of_pos
def cD:=@Nat.mul_comm
def dQ:=@Nat.min_eq_left
def ed:=@List.mem_singleton
def fV:=@List.mem_append_left
def jF:=@Array.getD_eq_getD_getElem?
def eh:=@Nat.lt_of_le_of_lt
def eo:=@List.getElem?_drop
def fW:=@List.map_congr_left
def jE:=@List.drop_eq_getElem_cons
def fJ:=@List.ext_getElem?
def dn:=@Int.natAbs_mul
def er:=@List.all_eq_true
def fA:=@Nat.div_eq_of_lt
def ew:=@Nat.mod_eq_of_lt
def cg:=@Prod.mk.inj
def hU:=@Nat.pow_le_pow_right
def iR:=@List.getElem?_eq_none
def iL:=@List.mem_of_mem_take
def fI:=@List.mem_append
def jf:=@Nat.div_lt_iff_lt_mul
def gO:=@Option.getD_some
def eW:=@Nat.mul_assoc
def ia:=@Nat.eq_zero_or_pos
def en:=@List.map_cons
def ez:=@List.mem_cons
def kd:=@Nat.le_mul_of_pos_right
def iU:=@List.flatten_cons
def gw:=@List.take_length
def lp:=@List.getElem?_cons_zero
def et:=@List.map_map
def ku:=@List.mem_append_right
def eP:=@Nat.pow_add
def eN:=@Nat.one_mul
def da:=@beq_iff_eq
def cS:=@if_false
def gx:=@List.range_succ
def lk:=@List.getElem?_set_self
def lq:=@Nat.div_div_eq_div_mul
def oa:=@Int.tdiv_eq_ediv_of_nonneg
def kx:=@Bool.or_eq_false_iff
def ga:=@List.drop_zero
def fU:=@Nat.sub_self
def ep:=@Nat.mul_add
def ej:=@Nat.pow_pos
def bz:=@if_true
def kv:=@List.getElem?_range
def iA:=@Nat.mul_le_mul
def fL:=@List.mem_range
def dZ:=@Nat.mul_one
def kA:=@Array.getElem?_toList
def jU:=@List.replicate_succ
def dU:=@Nat.mod_lt
def lI:=@List.drop_eq_nil_of_le
def gF:=@List.drop_drop
def eu:=@Nat.mul_zero
def jW:=@List.mem_replicate
def jS:=@Nat.add_sub_cancel
def lF:=@List.length_singleton
def iG:=@Int.natCast_mul
def ny:=@Int.sign_eq_neg_one_of_neg
def gi:=@Int.natAbs_neg
def qg:=@List.drop_append_of_le_length
def lP:=@List.mem_of_mem_drop
def oB:=@List.mem_or_eq_of_mem_set
def fY:=@Nat.lt_or_ge
def mW:=@List.take_append_drop
def gG:=@Nat.add_comm
def qM:=@Int.tmod_eq_emod_of_nonneg
def mC:=@List.getElem?_append
def iy:=@List.take_zero
def kF:=@decide_eq_decide
def mZ:=@List.take_succ_cons
def mM:=@List.flatten_append
def jB:=@List.map_take
def jA:=@Nat.add_assoc
def fu:=@Rat.not_lt
def qB:=@List.getElem?_cons_succ
def nt:=@Nat.add_mul_div_left
def oM:=@List.reverse_reverse
def tB:=@Nat.mul_lt_mul_of_pos_right
def ma:=@List.take_add_one
def mL:=@Nat.mul_left_comm
def mR:=@List.getElem?_set
def mH:=@decide_eq_true_eq
def kK:=@List.take_take
def eI:=@and_true
def lS:=@Nat.mod_add_div
def lL:=@Rat.num_eq_zero
def lG:=@Nat.mul_ne_zero
def se:=@Nat.add_mul_mod_self_left
def tC:=@Array.getElem?_eq_getElem
def nq:=@List.map_replicate
def oQ:=@Rat.div_mul_cancel
def kC:=@List.map_drop
def jY:=@Nat.gcd_comm
def vC:=@List.take_append_of_le_length
def qf:=@List.getElem?_of_mem
def iw:=@Nat.mul_pos
def oA:=@Decidable.not_not
def mV:=@Bool.or_eq_true
def qQ:=@Nat.div_mul_le_self
def qO:=@Nat.pow_le_pow_left
def sV:=@List.length_filter_le
def vw:=@List.getElem?_eq_some_iff
def nz:=@Rat.mul_eq_zero
def qG:=@of_decide_eq_true
def lX:=@Nat.zero_mul
def lR:=@Rat.pow_succ
def uZ:=@Nat.gcd_pos_of_pos_right
def mS:=@Rat.lt_irrefl
def tH:=@List.mem_map_of_mem
def vQ:=@List.getElem?_replicate
def nm:=@List.drop_take
def so:=@List.set_cons_zero
def mE:=@Nat.le_of_lt
def mY:=@decide_false
def mN:=@List.map_nil
def kD:=@Nat.not_lt
def pZ:=@Nat.div_le_self
def qY:=@Nat.div_lt_self
def qR:=@List.mem_filter
def wc:=@Nat.le_div_iff_mul_le
def vh:=@List.singleton_append
def vK:=@List.getElem?_toArray
def tI:=@Nat.lt_trichotomy
def mQ:=@Nat.div_pos
def Ae:=@Int.sign_eq_zero_iff_zero
def zN:=@Option.isNone_iff_eq_none
def zf:=@Array.size_setIfInBounds
def sU:=@Rat.num_intCast
def vA:=@Nat.one_le_two_pow
def mc:=@Int.not_lt
def zk:=@List.length_eq_zero_iff
def zW:=@decide_eq_false_iff_not
def oP:=@decide_true
def nw:=@Nat.div_one
def oL:=@Nat.le_refl
def zV:=@Nat.le_mul_of_pos_left
def zz:=@Rat.normalize_eq_mkRat
def zP:=@Option.map_eq_some_iff
def wC:=@Option.some.injEq
def vq:=@List.reverse_cons
def wR:=@Bool.not_eq_true'
def pW:=@Nat.pow_zero
def zi:=@List.getElem?_reverse
def vg:=@List.getElem_mem
def vx:=@Nat.lt_succ_self
def yx:=@List.mem_of_getElem?
def An:=@List.getElem?_set_ne
def pa:=@Rat.div_def
def Ad:=@List.drop_set_of_lt
def sf:=@List.map_set
def su:=@Nat.le_of_eq
def ss:=@Rat.pow_zero
def sq:=@Rat.le_of_lt
def kI:=@Ne.symm
def RH:=@List.getD_eq_getElem?_getD
def Nr:=@Array.getElem?_append_left
def ze:=@List.set_cons_succ
def Ao:=@Nat.mul_right_comm
def zH:=@Nat.gcd_zero_right
def zB:=@Rat.sub_eq_add_neg
def zZ:=@Nat.sub_add_cancel
def yy:=@Int.natAbs_add_le
def Af:=@Nat.dvd_mul_right
def sk:=@Nat.gcd_rec
def sy:=@Rat.mul_pos
def Nq:=@Option.isSome_iff_exists
def Ar:=@List.drop_length
def zE:=@Int.natCast_ediv
def zy:=@Nat.le_of_not_lt
def zm:=@Rat.normalize_eq
def Sd:=@List.range_succ_eq_map
def sn:=@Nat.mod_le
def tD:=@Array.ext'
def Aa:=@Nat.le_antisymm
def zp:=@Rat.den_intCast
def Al:=@List.cons.injEq
def Aj:=@Nat.two_pow_pos
def Mq:=@List.mem_iff_getElem?
def RJ:=@List.set_append_right
def YV:=@List.length_filter_lt_length_iff_exists
def QH:=@List.mem_iff_getElem
def Re:=@List.getElem?_mapIdx
def zU:=@List.mapM_cons
def vX:=@Nat.zero_le
def vD:=@Rat.one_mul
def oK:=@eq_comm
def MU:=@List.reverse_append
def Ak:=@List.take_add
def Qt:=@Int.ofNat_dvd_left
def RM:=@Nat.pos_of_ne_zero
def Rs:=@List.filter_append
def ad3:=@List.findIdx?_eq_some_iff_getElem
def NJ:=@Int.lt_trichotomy
def ML:=@List.flatMap_cons
def qe:=@Iff.rfl
def Zl:=@Array.getElem?_setIfInBounds_ne
def ab9:=@List.eq_nil_iff_forall_not_mem
def Nk:=@Option.getD_none
def QN:=@Int.natCast_emod
def NM:=@Nat.gcd_dvd_left
def MC:=@Nat.dvd_mul_left
def MZ:=@Nat.le_add_right
def QL:=@List.not_mem_nil
def af2:=@Rat.mul_le_mul_of_nonneg_left
def zj:=@Rat.neg_num
def Ax:=@Rat.neg_den
def Oe:=@Nat.div_add_mod
def RX:=@Int.ediv_nonneg
def NX:=@List.head?_cons
def QM:=@Rat.num_nonneg
def ac6:=@List.getLast?_eq_getElem?
def Zy:=@List.getLast?_eq_none_iff
def ad6:=@List.extract_eq_take_drop
def ZX:=@Int.mul_ediv_cancel_left
def ZY:=@List.getElem?_eq_getElem
def Mz:=@ByteArray.ext
def QX:=@List.all_cons
def ZE:=@List.getLast?_cons_cons
def ZL:=@Nat.mul_div_cancel_left
def Zo:=@List.append_cancel_left
def ZB:=@Nat.add_sub_cancel_left
def ae6:=@List.filter_cons_of_neg
def Zs:=@List.filter_cons_of_pos
def Zw:=@List.head?_eq_getElem?
def af4:=@List.reverse_replicate
def aa9:=@List.length_pos_of_mem
def NY:=@Nat.lt_trans
def Rc:=@Rat.mul_def'
def Rz:=@Rat.add_def'
def PD:=@Nat.succ_mul
def ae7:=@ByteArray.data_append
def Za:=@List.getElem?_zipIdx
def yz:=@true_and
def YW:=@List.take_set_of_le
def ac2:=@List.take_replicate
def ad9:=@Nat.lt_mul_div_succ
def ab8:=@List.drop_replicate
def ZH:=@Rat.mkRat_mul_mkRat
def YX:=@List.replicate_zero
def YJ:=@List.length_pos_iff
namespace Ord
def val(B:Nat):List Nat->Nat
 | []=>0
 | d::ds=>d+B*val B ds
def kj(B:Nat)(n:Nat):List Nat:=
 if h:1<B/\n≠0 then n%B::kj B (n/B)else[]
termination_by n
decreasing_by exact qY (by omega) h.1
theorem dJ(B:Nat):kj B 0=[]:=by rw[kj];simp
theorem ff{B n:Nat}(hB:1<B:=by omega)(h:n≠0:=by omega):kj B n=n%B::kj B (n/B):=by
 rw[kj,dif_pos ⟨hB,h⟩]
theorem vJ{B:Nat}(hB:1<B)(n:Nat):val B (kj B n)=n:=by
 induction n using Nat.strongRecOn with
 | _ n ih=>
   by_cases h:n=0
   ·subst h;rw[dJ];rfl
   ·rw[ff hB h,val,ih _ (qY (by omega) hB)];exact lS n B
theorem zK{B:Nat}(n:Nat)(hB:1<B:=by omega):∀d∈kj B n,d<B:=by
 induction n using Nat.strongRecOn with
 | _ n ih=>
   by_cases h:n=0
   ·subst h;rw[dJ];simp
   ·rw[ff hB h];intro d hd;rcases ez.1 hd with rfl | hd
    ·exact dU _ (by omega)
    ·exact ih _ (qY (by omega) hB) d hd
theorem jb(B:Nat)(xs ys:List Nat):val B (xs++ys)=val B xs+B^xs.length*val B ys:=by
 induction xs with
 | nil=>simp[val]
 | cons x xs ih=>simp[val,ih,ep,bh,jA,eW,mL,cD]
theorem WB{B:Nat}(hB:0<B)(xs:List Nat)(h:∀d∈xs,d<B):val B xs<B^xs.length:=by
 induction xs with
 | nil=>simp[val]
 | cons x xs ih=>
   have h1:=ih (fun d hd=>h d (dc _ hd));have h2:=h x dV;simp only[val,an,bh]
   calc x+B*val B xs<B+B*val B xs:=by omega
    _=B*(val B xs+1):=by rw[ep,dZ,gG]
    _<=B*B^xs.length:=dr _ h1
    _=B^xs.length*B:=cD _ _
theorem SB{B:Nat}(hB:1<B)(xs:List Nat)(h:∀d∈xs,d<B)(hl:∀d,xs.getLast? = some d->d≠0):kj B (val B xs)=xs:=by
 induction xs with
 | nil=>simp[val,dJ]
 | cons x xs ih=>
   have hx:=h x dV;have h1:∀d∈xs,d<B:=fun d hd=>h d (dc _ hd);cases xs with
   | nil=>
     have:x≠0:=hl x (by simp);simp only[val,eu,bq];rw[ff hB this,ew hx,fA hx,dJ]
   | cons y ys=>
     have e:=ih h1 (fun d hd=>hl d (by rw[ZE];exact hd))
     have hne:val B (y::ys)≠0:=by
      intro h0;rw[h0,dJ]at e;cases e
     have hne':val B (x::y::ys)≠0:=by
      rw[val];have:0<B*val B (y::ys):=iw (by omega) (by omega);omega
     rw[ff hB hne'];rw[val,se,ew hx,nt _ _ (by omega:0<B),fA hx,bM,e]
theorem QW{B:Nat}(hB:1<B)(n:Nat):∀d,(kj B n).getLast? = some d->d≠0:=by
 induction n using Nat.strongRecOn with
 | _ n ih=>
   by_cases h:n=0
   ·subst h;rw[dJ];simp
   ·rw[ff hB h];intro d hd;by_cases h2:n/B=0
    ·rw[h2,dJ]at hd;simp at hd;subst hd
     have:n<B:=by
      rcases fY n B with h3 | h3
      ·exact h3
      ·have:=mQ h3 (by omega);omega
     rw[ew this];exact h
    ·have e:kj B (n/B)≠[]:=by rw[ff hB h2];simp
     have:=ih (n/B) (qY (by omega) hB) d;apply this;rw[List.getLast?_cons]at hd;rw[List.getLast?_eq_some_getLast e]at hd|-
     simpa using hd
theorem kQ{B:Nat}{n k:Nat}(h:n<B^k:=by omega)(hB:1<B:=by omega):(kj B n).length<=k:=by
 induction k generalizing n with
 | zero=>have:n=0:=by simpa using h
         subst this;simp[dJ]
 | succ k ih=>
   by_cases h0:n=0
   ·subst h0;simp[dJ]
   ·rw[ff hB h0,an]
    have:n/B<B^k:=by
     rw[jf (by omega)];rw[bh]at h;exact h
    exact Nat.succ_le_succ (ih this)
theorem gy{B:Nat}(hB:1<B){n:Nat}(h:n≠0):B^((kj B n).length-1)<=n:=by
 induction n using Nat.strongRecOn with
 | _ n ih=>
   rw[ff hB h,an,jS];by_cases h2:n/B=0
   ·rw[h2,dJ];simp;omega
   ·have:=ih (n/B) (qY (by omega) hB) h2;have hl:0<(kj B (n/B)).length:=by rw[ff hB h2];simp
    obtain⟨k,hk⟩:∃k,(kj B (n/B)).length=k+1:=⟨_,(zZ hl).symm⟩
    rw[hk]at this|-;rw[jS]at this;rw[bh]
    calc B^k*B<=(n/B)*B:=cN _ this
     _<=n:=qQ n B
theorem lh{B:Nat}(hB:1<B)(n:Nat):n<B^(kj B n).length:=by
 have:=WB (by omega:0<B) (kj B n) (zK n hB)
 rwa[vJ hB]at this
end Ord
namespace Ord
def pd(B:Nat):Nat->Nat->List Nat
 | 0,_=>[]
 | n+1,x=>x%B::pd B n (x/B)
variable{B:Nat}
@[simp] theorem fE:∀(n x:Nat),(pd B n x).length=n
  | 0,_=>rfl
  | n+1,x=>by simp[pd,fE n]
theorem Ez(hB:0<B):∀(n x:Nat),∀d∈pd B n x,d<B
 | 0,_,d,h=>by cases h
 | n+1,x,d,h=>by
   rcases ez.1 h with rfl | h
   ·exact dU _ hB
   ·exact Ez hB n _ d h
theorem xJ:∀(n x:Nat),val B (pd B n x)=x%B^n
 | 0,x=>by simp[pd,val,Nat.mod_one]
 | n+1,x=>by
   rw[pd,val,xJ n,bh,cD (B^n) B,Nat.mod_mul]
theorem aF6(hB:0<B):∀(ds:List Nat),(∀d∈ds,d<B)->pd B ds.length (val B ds)=ds
 | [],_=>rfl
 | d::ds,h=>by
   have hd:=h d dV;rw[an,pd,val,se,ew hd,nt _ _ hB,fA hd,bM,aF6 hB ds fun x hx=>h x (dc _ hx)]
theorem Uw(hB:0<B){ds:List Nat}(h:∀d∈ds,d<B){n x:Nat}(hl:ds.length=n)(hv:val B ds=x):ds=pd B n x:=by
 subst hl hv;exact(aF6 hB ds h).symm
theorem BA:∀{n i:Nat}(x:Nat),i<n->(pd B n x)[i]?=some (x/B^i%B)
 | 0,_,_,h=>by omega
 | n+1,0,x,_=>by simp[pd]
 | n+1,i+1,x,h=>by
   rw[pd,qB,BA _ (by omega),lq,bh,cD B]
theorem RA:∀(n i x:Nat),(pd B n x).drop i=pd B (n-i) (x/B^i)
 | n,0,x=>by simp
 | 0,i+1,x=>by simp[pd]
 | n+1,i+1,x=>by
   rw[pd,List.drop_succ_cons,RA n i,lq,bh,cD B,Nat.add_sub_add_right]
theorem NZ:∀{n k:Nat}(x:Nat),k<=n->(pd B n x).take k=pd B k x
 | n,0,x,_=>by simp[pd]
 | 0,k+1,x,h=>by omega
 | n+1,k+1,x,h=>by rw[pd,mZ,NZ _ (by omega),pd]
theorem ZN(x:Nat)(hB:1<B:=by omega):kj B x=pd B (kj B x).length x:=Uw (by omega) (zK x hB) rfl (vJ hB x)
theorem ak0{n i k x y:Nat}(hx:x<B^n)(hy:y<B^k)(hB:0<B:=by omega)(hi:i+k<=n:=by omega):(pd B n x).take i++pd B k y++(pd B n x).drop (i+k)=pd B n (x%B^i+B^i*(y+B^k*(x/B^(i+k)))):=by
 apply Uw hB
 ·intro d hd;simp only[fI]at hd;rcases hd with(hd | hd) | hd
  ·exact Ez hB _ _ d (iL hd)
  ·exact Ez hB _ _ d hd
  ·exact Ez hB _ _ d (lP hd)
 ·simp;omega
 ·rw[jb,jb,NZ _ (by omega),RA,xJ,xJ,xJ,ew hy]
  have h3:x/B^(i+k)<B^(n-(i+k)):=by
   rw[jf (ej hB),<-eP,zZ hi];exact hx
  rw[ew h3];simp only[List.length_append,fE,eP,ep,eW,jA]
end Ord
namespace Ord
variable{B:Nat}
def DB(B:Nat)(ds:List Nat):Prop:=∀d∈ds,d<B
theorem DB.take{ds:List Nat}(h:DB B ds)(n:Nat):DB B (ds.take n):=fun d hd=>h d (iL hd)
theorem DB.drop{ds:List Nat}(h:DB B ds)(n:Nat):DB B (ds.drop n):=fun d hd=>h d (lP hd)
theorem DB.set{ds:List Nat}(h:DB B ds){i x:Nat}(hx:x<B):DB B (ds.set i x):=fun d hd=>by
 rcases oB hd with hd | rfl
 ·exact h d hd
 ·exact hx
theorem DB.get{ds:List Nat}(h:DB B ds){i d:Nat}(hd:ds[i]?=some d):d<B:=h d (yx hd)
theorem DB.getD{ds:List Nat}(hB:0<B)(h:DB B ds){i d:Nat}(hd:ds[i]?.getD 0=d):d<B:=by
 cases hx:ds[i]? with
 | none=>rw[hx]at hd;simp at hd;omega
 | some e=>rw[hx]at hd;simp at hd;subst hd;exact h.get hx
theorem DB.rep(hB:0<B)(n:Nat):DB B (List.replicate n 0):=fun d hd=>by
 obtain⟨_,rfl⟩:=jW.1 hd;exact hB
theorem DB.kj(hB:1<B)(n:Nat):DB B (kj B n):=zK n hB
theorem DB.append{xs ys:List Nat}(h:DB B xs)(k:DB B ys):DB B (xs++ys):=fun d hd=>(fI.1 hd).elim (h d) (k d)
theorem DB.rev{xs:List Nat}(h:DB B xs):DB B xs.reverse:=fun d hd=>h d (List.mem_reverse.1 hd)
theorem DB.lt{xs:List Nat}(hB:0<B)(h:DB B xs):val B xs<B^xs.length:=WB hB xs h
theorem val_one(d:Nat):val B [d]=d:=by simp[val]
theorem take_succ{ds:List Nat}{i d:Nat}(h:ds[i]?=some d):ds.take (i+1)=ds.take i++[d]:=by
 rw[ma,h];rfl
theorem gu{ds:List Nat}{i d:Nat}(h:ds[i]?=some d):val B (ds.take (i+1))=val B (ds.take i)+B^i*d:=by
 have hi:i<ds.length:=(vw.1 h).1;rw[take_succ h,jb,val_one,bK,dQ (by omega)]
theorem kB{ds:List Nat}{i d:Nat}(h:ds[i]?.getD 0=d):val B (ds.take (i+1))=val B (ds.take i)+B^i*d:=by
 cases hx:ds[i]? with
 | some e=>rw[hx]at h;simp at h;subst h;exact gu hx
 | none=>
   rw[hx]at h;simp at h;subst h;have:=eZ.1 hx;rw[dP (by omega),dP (by omega)];omega
theorem mI{os:List Nat}{i x:Nat}(h:i<os.length):val B ((os.set i x).take (i+1))=val B (os.take i)+B^i*x:=by
 rw[gu (d:=x) (by simp[h])];rw[YW (oL i)]
theorem YU(n:Nat):val B (List.replicate n 0)=0:=by
 induction n with
 | zero=>rfl
 | succ n ih=>rw[jU,val,ih];omega
theorem aO9{z:Nat}{os:List Nat}{j old n:Nat}(hj:os[j]?=some old)(hjn:j<n:=by omega):val B ((os.set j z).take n)+B^j*old=val B (os.take n)+B^j*z:=by
 induction os generalizing j n with
 | nil=>simp at hj
 | cons d os ih=>
   obtain⟨m,rfl⟩:∃m,n=m+1:=⟨n-1,by omega⟩
   cases j with
   | zero=>
     simp only[lp,wC]at hj;subst hj;simp only[so,mZ,val,pW];omega
   | succ j=>
     have:=ih (j:=j) (n:=m) (by simpa using hj) (by omega);simp only[ze,mZ,val,bh]at this|-;have h1:B^j*B*old=B*(B^j*old):=by rw[Ao,cD]
     have h2:B^j*B*z=B*(B^j*z):=by rw[Ao,cD]
     rw[h1,h2];have:=congrArg (fun t=>B*t) this;simp only[ep]at this;omega
structure GV(B:Nat)(xs ys:List Nat)(i:Nat)(os:List Nat):Prop where
 le:i<=xs.length
 len:os.length=xs.length+ys.length
 dg:DB B os
 eq:val B (os.take (i+ys.length))=val B (xs.take i)*val B ys
structure BIn(B:Nat)(xs ys:List Nat)(i x T k c:Nat)(os:List Nat):Prop where
 le:k<=ys.length
 len:os.length=xs.length+ys.length
 dg:DB B os
 c1:c<B
 eq:val B (os.take (i+ys.length))+B^(i+k)*c=T+x*(B^i*val B (ys.take k))
theorem GV.init(hB:0<B)(xs ys:List Nat):GV B xs ys 0 (List.replicate (xs.length+ys.length) 0):=⟨vX _,by simp,DB.rep hB _,by
 rw[ac2,YU];simp[val]⟩
theorem GV.inn(hB:0<B){xs ys os:List Nat}{i x:Nat}(h:GV B xs ys i os):BIn B xs ys i x (val B (xs.take i)*val B ys) 0 0 os:=⟨vX _,h.len,h.dg,by omega,by rw[h.eq];simp[val]⟩
theorem BIn.next{xs ys os:List Nat}{i x T k c y old z c':Nat}(h:BIn B xs ys i x T k c os)(hk:k<ys.length)(hy:ys[k]?=some y)(ho:os[i+k]?=some old)(hz:z<B)(hc:c'<B)(he:z+B*c'=c+(x*y+old)) :
  BIn B xs ys i x T (k+1) c' (os.set (i+k) z):=by
 refine⟨hk,by rw[bJ];exact h.len,h.dg.set hz,hc,?_⟩;have h1:=aO9 (B:=B) (z:=z) (n:=i+ys.length) ho;have h2:=congrArg (fun t=>B^(i+k)*t) he;have h3:=h.eq;rw[gu hy];simp only[ep]at h2|-;have e1:B^(i+(k+1))*c'=B^(i+k)*(B*c'):=by rw[<-jA,bh,eW]
 have e2:x*(B^i*(B^k*y))=B^(i+k)*(x*y):=by rw[eP];simp only[mL,eW]
 rw[e1,e2];omega
theorem BIn.out{xs ys os:List Nat}{i x c:Nat}(h:BIn B xs ys i x (val B (xs.take i)*val B ys) ys.length c os)(hx:xs[i]?=some x):GV B xs ys (i+1) (os.set (i+ys.length) c):=by
 have hi:i<xs.length:=(vw.1 hx).1;refine⟨hi,by rw[bJ];exact h.len,h.dg.set h.c1,?_⟩;have h3:=h.eq;rw[gw]at h3;rw[show i+1+ys.length=i+ys.length+1 by omega,mI (by rw[h.len];omega),gu hx,h3,bX]
 congr 1
 rw[mL,<-eW]
theorem GV.fin{xs ys os:List Nat}(h:GV B xs ys xs.length os):val B os=val B xs*val B ys:=by
 have:=h.eq;rw[dP (by rw[h.len];omega),gw]at this;exact this
structure FU(B:Nat)(xs ys:List Nat)(n:Nat)(s:Int)(i:Nat)(c:Int)(os:List Nat):Prop where
 le:i<=n
 c0:-1<=c
 c1:c<=1
 len:os.length=n
 dg:DB B os
 eq:(val B (os.take i):Int)+(B^i:Nat)*c=(val B (xs.take i):Int)+s*(val B (ys.take i):Int)
theorem FU.init(hB:0<B)(xs ys:List Nat)(n:Nat)(s:Int):FU B xs ys n s 0 0 (List.replicate n 0):=⟨vX _,by omega,by omega,by simp,DB.rep hB _,by simp[val]⟩
theorem FU.next{xs ys os:List Nat}{n i x y z:Nat}{s c c':Int}(h:FU B xs ys n s i c os)(hi:i<n)(hx:xs[i]?.getD 0=x)(hy:ys[i]?.getD 0=y)(hc0:-1<=c')(hc1:c'<=1)(hz:z<B)(he:(z:Int)+B*c'=x+s*y+c) :
  FU B xs ys n s (i+1) c' (os.set i z):=by
 refine⟨hi,hc0,hc1,by rw[bJ];exact h.len,h.dg.set hz,?_⟩;rw[mI (by rw[h.len];exact hi),kB hx,kB hy];have h1:=h.eq;have h2:=congrArg (fun t=>((B^i:Nat):Int)*t) he;simp only[bh,Int.natCast_add,iG,Int.mul_add]at h1 h2|-;have e1:((B^i:Nat):Int)*(B:Int)*c'=((B^i:Nat):Int)*((B:Int)*c'):=Int.mul_assoc _ _ _;have e2:s*(((B^i:Nat):Int)*(y:Int))=((B^i:Nat):Int)*(s*(y:Int)):=Int.mul_left_comm _ _ _;rw[e1,e2];omega
theorem FU.fin{xs ys os:List Nat}{n:Nat}{s c:Int}(hB:0<B)(h:FU B xs ys n s n c os)(hx:xs.length<=n)(hy:ys.length<=n){r:Nat}(hr:(r:Int)=(val B xs:Int)+s*(val B ys:Int))(hl:r<B^n):val B os=r:=by
 have h1:=h.eq;have hlen:=h.len;rw[dP (by omega),dP hx,dP hy,<-hr]at h1;have h2:=DB.lt hB h.dg;rw[hlen]at h2;have h3:=h.c0;have h4:=h.c1
 have:c=0:=by
  rcases(by omega:c=-1\/c=0\/c=1)with rfl | rfl | rfl
  ·omega
  ·rfl
  ·omega
 subst this;omega
structure jh(B:Nat)(xs ys:List Nat)(t:Nat)(i c b:Nat)(os:List Nat):Prop where
 le:i<=xs.length
 b1:b<=1
 c1:c<=t
 c2:ys.length<i->c=0
 len:os.length=xs.length
 dg:DB B os
 rest:os.drop i=xs.drop i
 eq:val B (os.take i)+t*val B (ys.take i)=val B (xs.take i)+B^i*(c+b)
theorem jh.init{xs:List Nat}(hx:DB B xs)(ys:List Nat)(t:Nat):jh B xs ys t 0 0 0 xs:=⟨vX _,by omega,by omega,fun _=>rfl,rfl,hx,rfl,by simp[val]⟩
theorem jh.get{xs ys os:List Nat}{t i c b x:Nat}(h:jh B xs ys t i c b os)(hx:xs[i]?=some x):os[i]?=some x:=by
 have:=congrArg (fun l=>l[0]?) h.rest;simp only[eo,bq]at this;rw[this,hx]
theorem jh.next{xs ys os:List Nat}{t i c b x y z b':Nat}(hB:0<B)(h:jh B xs ys t i c b os)(ht:t<B)(hx:xs[i]?=some x)(hy:ys[i]?.getD 0=y)(hyB:y<B)(hz:z<B)(hb:b'<=1)(he:z+(c+t*y)%B+b=x+B*b') :
  jh B xs ys t (i+1) ((c+t*y)/B) b' (os.set i z):=by
 have hi:i<xs.length:=(vw.1 hx).1;have hc:=h.c1;refine⟨hi,hb,?_,?_,by rw[bJ];exact h.len,h.dg.set hz,?_,?_⟩
 ·have:(c+t*y)/B<t+1:=by
   rw[jf hB];have h1:t*y<=t*(B-1):=dr _ (by omega)
   have h2:(t+1)*B=t*(B-1)+t+B:=by
    obtain⟨k,rfl⟩:∃k,B=k+1:=⟨B-1,by omega⟩
    simp only[jS,bX,ep];omega
   omega
  omega
 ·intro hlt
  have:y=0:=by
   rw[<-hy,eZ.2 (by omega)];rfl
  subst this;simp only[eu,bq];exact fA (by omega)
 ·rw[Ad (by omega)];have:=congrArg (List.drop 1) h.rest
  simpa[gF]using this
 ·have h1:=h.eq;have h2:=congrArg (fun q=>B^i*q) he;have h3:=congrArg (fun q=>B^i*q) (lS (c+t*y) B);rw[mI (by rw[h.len];exact hi),gu hx,kB hy,bh];simp only[ep]at h2 h3|-;have e2:t*(B^i*y)=B^i*(t*y):=mL _ _ _;have e3:B^i*B*((c+t*y)/B)=B^i*(B*((c+t*y)/B)):=eW _ _ _;have e4:B^i*B*b'=B^i*(B*b'):=eW _ _ _;rw[e2,e3,e4];simp only[ep]at h1;omega
theorem jh.fin{xs ys os:List Nat}{t c b:Nat}(hB:0<B)(h:jh B xs ys t xs.length c b os)(hx:DB B xs)(hl:ys.length<xs.length) :
  b=(if val B xs<t*val B ys then 1 else 0)/\os=pd B xs.length (val B xs+B^xs.length*b-t*val B ys):=by
 have h0:=h.c2 hl;subst h0;have h1:=h.eq;rw[dP (by rw[h.len];omega),gw,dP (by omega),bM]at h1;have h2:=DB.lt hB h.dg;rw[h.len]at h2;have hb:=h.b1
 constructor
 ·split<;>rcases(by omega:b=0\/b=1)with rfl | rfl<;>omega
 ·refine Uw hB h.dg h.len ?_;omega
end Ord
namespace Ord
theorem ax8{B X V n:Nat}(hV:0<V/B^n):X/V<=X/B^n/(V/B^n):=by
 rw[wc hV]
 have hp:0<B^n:=by
  rcases ia (B^n)with h | h
  ·rw[h,Nat.div_zero]at hV;omega
  ·exact h
 rw[wc hp,eW]
 calc X/V*(V/B^n*B^n)<=X/V*V:=dr _ (qQ _ _)
  _<=X:=qQ _ _
theorem wa{X V g:Nat}(hV:0<V)(h2:X<(g+1)*V)(h1:g*V<=X:=by omega):X/V=g:=by
 apply Aa
 ·have:X/V<g+1:=by rw[jf hV];exact h2
  omega
 ·rw[wc hV];exact h1
theorem Fw{B S V R Q i:Nat}(hB:0<B)(hV:0<V)(hS:S=R+V*B^(i+1)*Q)(hR:R/B^(i+1)<V) :
  R/B^i<V*B/\R/B^i/V<B/\S=(R%B^i+B^i*(R/B^i%V))+V*B^i*(R/B^i/V+B*Q)/\(R%B^i+B^i*(R/B^i%V))/B^i<V:=by
 have hp:0<B^i:=ej hB
 have h1:R/B^i<V*B:=by
  rw[jf hp];rw[jf (ej hB)]at hR;rw[bh,cD (B^i)]at hR;rw[eW];exact hR
 refine⟨h1,?_,?_,?_⟩
 ·rw[jf hV,cD];exact h1
 ·have e1:=lS R (B^i);have e2:=lS (R/B^i) V;rw[hS]
  conv=>lhs;rw[<-e1,<-e2]
  simp only[bh,ep];have:V*(B^i*B)*Q=V*B^i*(B*Q):=by simp only[eW]
  rw[this];have:B^i*(V*(R/B^i/V))=V*B^i*(R/B^i/V):=by rw[<-eW,cD (B^i)]
  rw[this];omega
 ·rw[nt _ _ hp,fA (dU _ hp),bM];exact dU _ hV
theorem xR{S V R Q:Nat}(hS:S=R+V*Q)(hR:R<V):Q=S/V/\R=S%V:=by
 constructor
 ·rw[hS,nt _ _ (by omega),fA hR,bM]
 ·rw[hS,se,ew hR]
theorem Ug{B R i n X':Nat}(hR:R/B^(i+n)=0):R%B^i+B^i*(X'+B^n*(R/B^(i+n)))=R%B^i+B^i*X':=by rw[hR,eu,bq]
end Ord
namespace Ord
def Fit(B:Nat)(q:Rat):Prop:=q.num.natAbs<2^B/\q.den<2^B
theorem Fit.mono{B C:Nat}{q:Rat}(h:Fit B q)(hBC:B<=C):Fit C q:=
 have:=hU (n:=2) (by omega) hBC
 ⟨cj h.1 this,cj h.2 this⟩
theorem Ka(n:Int)(g:Nat):(n/(g:Int)).natAbs<=n.natAbs+(if n<0 then 1 else 0)*0+(if(g:Int)∣n then 0 else 1):=by
 by_cases hg:g=0
 ·subst hg;simp
 ·by_cases hd:(g:Int)∣n
  ·rw[aK hd];obtain⟨k,rfl⟩:=hd;rw[ZX _ (by omega),dn];simp only[cU,eu,bq];exact zV _ (by omega)
  ·rw[aG hd];have h1:=Int.mul_ediv_add_emod n g;have h2:=Int.emod_nonneg n (b:=(g:Int)) (by omega);have h3:=Int.emod_lt_of_pos n (b:=(g:Int)) (by omega)
   have h4:(n/(g:Int)).natAbs*g<=n.natAbs+g:=by
    have:((n/(g:Int)).natAbs*g:Nat)=((g:Int)*(n/(g:Int))).natAbs:=by rw[dn,cU,cD]
    omega
   have h5:n.natAbs+g<=(n.natAbs+1)*g:=by
    rw[bX,eN];have:=kd n.natAbs (by omega:0<g);omega
   have:=Nat.le_of_mul_le_mul_right (aq h4 h5) (by omega);omega
theorem Fit.mkRat{B:Nat}{n:Int}{d:Nat}(hn:n.natAbs<2^B)(hd:d<2^B)(h0:d≠0):Fit B (mkRat n d):=by
 rw[<-zz h0,zm h0];refine⟨?_,eh (pZ _ _) hd⟩;have:=Ka n (n.natAbs.gcd d);rw[aK (Qt.2 (NM _ _))]at this;simp only[eu,bq]at this;show(n/_).natAbs<_;exact eh this hn
theorem two_pow_pos(B:Nat):0<2^B:=ej (by omega)
theorem bL{a b B C:Nat}(ha:a<2^B)(hb:b<2^C):a*b<2^(B+C):=by
 rw[eP];exact Nat.mul_lt_mul'' ha hb
theorem Fit.add{B C:Nat}{a b:Rat}(ha:Fit B a)(hb:Fit C b):Fit (B+C+1) (a+b):=by
 rw[Rz];have h1:=bL ha.1 hb.2;have h2:=bL hb.1 ha.2;have h3:=bL ha.2 hb.2;rw[gG C B]at h2;refine Fit.mkRat ?_ ?_ (lG a.den_nz b.den_nz)
 ·rw[bh]
  have:(a.num * ↑b.den+b.num * ↑a.den).natAbs<=a.num.natAbs*b.den+b.num.natAbs*a.den:=by
   refine aq (yy _ _) ?_;rw[dn,dn,cU,cU];exact oL _
  omega
 ·rw[bh];omega
theorem Fit.mul{B C:Nat}{a b:Rat}(ha:Fit B a)(hb:Fit C b):Fit (B+C) (a*b):=by
 rw[Rc];refine Fit.mkRat ?_ (bL ha.2 hb.2) (lG a.den_nz b.den_nz);rw[dn];exact bL ha.1 hb.1
theorem Fit.neg{B:Nat}{a:Rat}(ha:Fit B a):Fit B (-a):=by
 refine⟨?_,?_⟩
 ·rw[zj,gi];exact ha.1
 ·rw[Ax];exact ha.2
theorem Fit.sub{B C:Nat}{a b:Rat}(ha:Fit B a)(hb:Fit C b):Fit (B+C+1) (a-b):=by
 rw[zB];exact ha.add hb.neg
theorem Fit.inv{B:Nat}{a:Rat}(ha:Fit B a):Fit B a⁻¹:=by
 by_cases h:a=0
 ·subst h;rw[Rat.inv_zero];exact ha
 ·have hn:a.num≠0:=fun e=>h (lL.1 e);refine⟨?_,?_⟩
  ·rw[Rat.num_inv,dn,Int.natAbs_sign_of_ne_zero hn,cU,eN];exact ha.2
  ·rw[Rat.den_inv,aG hn];exact ha.1
theorem Fit.div{B C:Nat}{a b:Rat}(ha:Fit B a)(hb:Fit C b):Fit (B+C) (a/b):=by
 rw[pa];exact ha.mul hb.inv
theorem Fit.zero{B:Nat}(h:1<=B):Fit B 0:=by
 have:=hU (n:=2) (by omega) h;exact⟨by show(0:Int).natAbs<_;simp;omega,by show 1<_;omega⟩
theorem Fit.int{B:Nat}{n:Int}(hB:1<=B)(h:n.natAbs<2^B):Fit B (n:Rat):=by
 have:=hU (n:=2) (by omega) hB;exact⟨by rw[sU];exact h,by rw[zp];omega⟩
end Ord
namespace Ord
def bd(n:Nat):List Nat:=(kj 32768 n).reverse
def bv(ds:List Nat):Nat:=val 32768 ds.reverse
theorem gP(n:Nat):bv (bd n)=n:=by rw[bv,bd,oM,vJ (by omega)]
theorem jD(n:Nat):DB 32768 (bd n):=(DB.kj (by omega) n).rev
theorem Au:bd 0=[]:=by rw[bd,dJ];rfl
theorem CU{n:Nat}:bd n=[]↔n=0:=by
 constructor
 ·intro h;have:=congrArg bv h;rw[gP]at this;exact this
 ·rintro rfl;exact Au
theorem Xq(n:Nat):(bd n).length=(kj 32768 n).length:=by rw[bd,eO]
theorem zJ(d:Nat)(ds:List Nat):bv (d::ds)=bv ds+32768^ds.length*d:=by
 rw[bv,vq,jb,val_one,eO];rfl
theorem Am(ds:List Nat)(d:Nat):bv (ds++[d])=bv ds*32768+d:=by
 rw[bv,MU];simp only[vq,List.reverse_nil,List.nil_append,vh,val];rw[bv];omega
theorem ao3(xs ys:List Nat):bv (xs++ys)=bv xs*32768^ys.length+bv ys:=by
 rw[bv,MU,jb,eO,cD,gG];rfl
theorem bY5{ds:List Nat}(h:DB 32768 ds)(h0:∀d,ds.head? = some d->d≠0):bd (bv ds)=ds:=by
 rw[bd,bv,SB (by omega) _ h.rev,oM];intro d hd;rw[List.getLast?_reverse]at hd;exact h0 d hd
theorem VR{ds:List Nat}(h:DB 32768 ds):bv ds<32768^ds.length:=by
 have:=DB.lt (by omega) h.rev
 rwa[eO]at this
theorem Cd(n:Nat):n<32768^(bd n).length:=by rw[Xq];exact lh (by omega) n
theorem cf3{n:Nat}(h:n≠0):32768^((bd n).length-1)<=n:=by rw[Xq];exact gy (by omega) h
theorem jq{n k:Nat}(h:n<32768^k):(bd n).length<=k:=by rw[Xq];exact kQ h
theorem fj{m n:Nat}(h:m<=n):(bd m).length<=(bd n).length:=jq (eh h (Cd n))
theorem Te{n:Nat}(h:n<32768:=by omega)(h0:n≠0:=by omega):bd n=[n]:=by
 rw[bd,ff (by omega) h0,ew h,fA h,dJ];rfl
theorem SG(n i:Nat):((bd n).reverse[i]?).getD 0=n/32768^i%32768:=by
 rw[bd,oM];by_cases hi:i<(kj 32768 n).length
 ·rw[ZN n,BA _ hi];rfl
 ·rw[eZ.2 (by omega),Nk,fA,Nat.zero_mod];exact cj (lh (by omega) n) (hU (by omega) (by omega))
theorem zQ{ds:List Nat}{i:Nat}(h:i<ds.length:=by omega):ds[ds.length-1-i]?=ds.reverse[i]?:=by
 rw[zi h]
theorem RK{os:List Nat}{i z:Nat}(h:i<os.length):os.reverse.set (os.length-1-i) z=(os.set i z).reverse:=by
 apply fJ;intro j;rw[mR];simp only[eO];by_cases hj:j<os.length
 ·rw[zi hj,zi (by rw[bJ];exact hj),mR,bJ];by_cases e:os.length-1-i=j
  ·rw[aK e,aK (by omega),aK (by omega),aK (by omega)]
  ·rw[aG e,aG (by omega)]
 ·rw[eZ.2 (by simp;omega),eZ.2 (by simp;omega)];split
  ·split<;>first | rfl | omega
  ·rfl
theorem aj4{ds:List Nat}{d:Nat}(h:ds[0]?=some d):bv ds=bv (ds.drop 1)+32768^(ds.length-1)*d:=by
 cases ds with
 | nil=>simp at h
 | cons x xs=>simp only[lp,wC]at h;subst h;simp[zJ]
end Ord
namespace Ord
def ev(p:List Rat)(x:Rat):Rat:=p.foldr (fun a v=>v*x+a) 0
theorem ec(x:Rat):ev [] x=0:=rfl
theorem bP(a:Rat)(p:List Rat)(x:Rat):ev (a::p) x=ev p x*x+a:=rfl
theorem wj(p q:List Rat)(x:Rat):ev (p++q) x=ev p x+x^p.length*ev q x:=by
 induction p with
 | nil=>simp only[List.nil_append,ec,bo];grind
 | cons a p ih=>simp only[List.cons_append,bP,ih,an,lR];grind
theorem bA4(p:List Rat)(i:Nat)(a b x:Rat)(h:p[i]?=some a):ev (p.set i b) x=ev p x+(b-a)*x^i:=by
 induction p generalizing i with
 | nil=>simp at h
 | cons c p ih=>
   cases i with
   | zero=>
     simp only[lp,wC]at h;subst h;simp only[so,bP,ss];grind
   | succ i=>
     simp only[qB]at h;simp only[ze,bP,ih i h,lR];grind
theorem WA(n:Nat)(x:Rat):ev (List.replicate n 0) x=0:=by
 induction n with
 | zero=>rfl
 | succ n ih=>rw[jU,bP,ih];grind
theorem pk{p:List Rat}{i:Nat}{a:Rat}(h:p[i]?=some a)(x:Rat):ev (p.take (i+1)) x=ev (p.take i) x+a*x^i:=by
 have hi:i<p.length:=(vw.1 h).1;rw[ma,h,Option.toList_some,wj,bK,dQ (by omega),bP,ec];grind
theorem Fu(k:Rat)(p:List Rat)(x:Rat):ev (p.map (· * k)) x=ev p x*k:=by
 induction p with
 | nil=>rw[mN,ec];grind
 | cons a p ih=>rw[en,bP,bP,ih];grind
def syn(c:Rat):List Rat->List Rat
 | []=>[]
 | [_]=>[]
 | _::b::p=>ev (b::p) c::syn c (b::p)
theorem Ci(c:Rat):∀p:List Rat,(syn c p).length=p.length-1
 | []=>rfl
 | [_]=>rfl
 | _::b::p=>by
   have:=Ci c (b::p);simp only[an]at this;simp only[syn,an,this];omega
theorem aH1(c x:Rat):∀p:List Rat,ev p x=ev p c+(x-c)*ev (syn c p) x
 | []=>by simp only[ec,syn];grind
 | [a]=>by simp only[bP,ec,syn];grind
 | a::b::p=>by
   have ih:=aH1 c x (b::p);rw[bP a (b::p) x,bP a (b::p) c,syn,bP (ev (b::p) c)];generalize ev (b::p) x=u at *;generalize ev (b::p) c=v at *;generalize ev (syn c (b::p)) x=t at *;subst ih
   grind
theorem Vp(c:Rat):∀p:List Rat,ev p c=0->(∀a∈syn c p,a=0)->∀a∈p,a=0
 | [],_,_=>by simp
 | [a],h,_=>by
   rw[bP,ec]at h;intro x hx;simp only[ed]at hx;subst hx;grind
 | a::b::p,h,hs=>by
   rw[syn]at hs;have h1:ev (b::p) c=0:=hs _ dV;have ih:=Vp c (b::p) h1 fun y hy=>hs y (dc _ hy);rw[bP,h1]at h;intro x hx;rcases ez.1 hx with rfl | hx
   ·grind
   ·exact ih x hx
theorem LJ:∀(n:Nat)(p:List Rat),p.length<=n->(∀i:Nat,i<n->ev p (i:Rat)=0)->∀a∈p,a=0
 | 0,p,hl,_=>by
   have:p=[]:=eV (by omega);subst this;simp
 | n+1,p,hl,h=>by
   have h0:=h n (by omega);refine Vp _ p h0 (LJ n (syn (n:Rat) p) (by rw[Ci];omega) fun i hi=>?_);have h1:=h i (by omega);rw[aH1 (n:Rat) i p,h0]at h1
   have h2:((i:Rat)-(n:Rat))≠0:=by
    intro e;have e2:(i:Rat)=(n:Rat):=by grind
    have:=Rat.natCast_inj.1 e2;omega
   have h3:((i:Rat)-(n:Rat))*ev (syn (n:Rat) p) i=0:=by grind
   rcases nz.1 h3 with h4 | h4
   ·exact(h2 h4).elim
   ·exact h4
def dif:List Rat->List Rat->List Rat
 | [],q=>q.map (fun a=>-a)
 | a::p,[]=>a::p
 | a::p,b::q=>(a-b)::dif p q
theorem aG4:∀(p q:List Rat)(x:Rat),ev (dif p q) x=ev p x-ev q x
 | [],q,x=>by
   rw[dif,ec]
   induction q with
   | nil=>rw[mN,ec];grind
   | cons b q ih=>rw[en,bP,bP,ih];grind
 | a::p,[],x=>by rw[dif,ec];grind
 | a::p,b::q,x=>by rw[dif,bP,bP,bP,aG4 p q x];grind
def lz(p:List Rat):Prop:=∀a,p.getLast? = some a->a≠0
theorem lz.tail{a:Rat}{p:List Rat}(h:lz (a::p)):lz p:=fun b hb=>h b (by
 cases p with
 | nil=>cases hb
 | cons c p=>rw[ZE];exact hb)
theorem Ey{p:List Rat}(h:lz p)(h0:∀a∈p,a=0):p=[]:=by
 cases hp:p.getLast? with
 | none=>exact Zy.1 hp
 | some a=>exact(h a hp (h0 a (List.mem_of_getLast? hp))).elim
theorem TJ:∀{p q:List Rat},lz p->lz q->(∀a∈dif p q,a=0)->p=q
 | [],q,_,hq,h=>by
   rw[dif]at h;refine(Ey hq fun a ha=>?_).symm;have:=h (-a) (List.mem_map.2 ⟨a,ha,rfl⟩)
   grind
 | a::p,[],hp,_,h=>Ey hp h
 | a::p,b::q,hp,hq,h=>by
   rw[dif]at h;have h1:=h _ dV;have h2:=TJ hp.tail hq.tail fun x hx=>h x (dc _ hx);rw[h2,show a=b by grind]
theorem uR{p q:List Rat}(hp:lz p)(hq:lz q)(h:∀x,ev p x=ev q x):p=q:=
 TJ hp hq (LJ _ _ (oL _) fun i _=>by rw[aG4,h];grind)
end Ord
namespace Ord
def Bd(D S:Nat)(q:Rat):Prop:=q.den∣D/\q.num.natAbs<=S*q.den
theorem Bd.zero{D S:Nat}:Bd D S 0:=⟨⟨D,by simp⟩,by simp⟩
theorem Bd.one{D S:Nat}(h:1<=S):Bd D S 1:=⟨⟨D,by simp⟩,by simpa using h⟩
theorem Bd.int{D S:Nat}{n:Int}(h:n.natAbs<=S):Bd D S (n:Rat):=⟨⟨D,by simp⟩,by simpa using h⟩
theorem Bd.mono{D S E T:Nat}{q:Rat}(h:Bd D S q)(hD:D∣E)(hS:S<=T):Bd E T q:=
 ⟨Nat.dvd_trans h.1 hD,aq h.2 (cN _ hS)⟩
theorem Bd.le{D S T:Nat}{q:Rat}(h:Bd D S q)(hS:S<=T):Bd D T q:=h.mono (Nat.dvd_refl _) hS
theorem Bd.neg{D S:Nat}{q:Rat}(h:Bd D S q):Bd D S (-q):=⟨h.1,by show(-q.num).natAbs<=S*q.den;rw[gi];exact h.2⟩
theorem Bd.mk{D S:Nat}{n:Int}(h0:D≠0)(h:n.natAbs<=S*D):Bd D S (mkRat n D):=by
 rw[<-zz h0,zm h0];show D/n.natAbs.gcd D∣D/\(n/((n.natAbs.gcd D:Nat):Int)).natAbs<=S*(D/n.natAbs.gcd D);have hg:0<n.natAbs.gcd D:=uZ _ (by omega);have hd:=Nat.gcd_dvd_right n.natAbs D;have hn:=NM n.natAbs D;generalize n.natAbs.gcd D=g at *;obtain⟨d',rfl⟩:=hd;obtain⟨k,hk⟩:=Qt.2 hn;subst hk
 constructor
 ·rw[ZL _ hg];exact MC _ _
 ·rw[ZL _ hg,ZX _ (by omega)];rw[dn,cU,mL]at h;exact Nat.le_of_mul_le_mul_left h hg
theorem Bd.ex{D S:Nat}{q:Rat}(h:Bd D S q)(h0:D≠0):∃n:Int,q=mkRat n D/\n.natAbs<=S*D:=by
 obtain⟨⟨k,rfl⟩,h2⟩:=h;have hk:k≠0:=fun e=>h0 (by rw[e,eu]);refine⟨q.num*k,?_,?_⟩
 ·rw[cD q.den k,Int.mul_comm,Rat.mkRat_mul_left hk,Rat.mkRat_self]
 ·rw[dn,cU,<-eW];exact cN _ h2
theorem Bd.add{D S T:Nat}{a b:Rat}(h0:D≠0)(ha:Bd D S a)(hb:Bd D T b):Bd D (S+T) (a+b):=by
 obtain⟨m,rfl,hm⟩:=ha.ex h0;obtain⟨n,rfl,hn⟩:=hb.ex h0
 have e:mkRat m D+mkRat n D=mkRat (m+n) D:=by
  rw[Rat.mkRat_add_mkRat m n h0 h0,<-Int.add_mul,Rat.mkRat_mul_right h0]
 rw[e];refine Bd.mk h0 (aq (yy _ _) ?_);rw[bX];exact Nat.add_le_add hm hn
theorem Bd.sub{D S T:Nat}{a b:Rat}(h0:D≠0)(ha:Bd D S a)(hb:Bd D T b):Bd D (S+T) (a-b):=by
 rw[zB];exact ha.add h0 hb.neg
theorem Bd.mul{D E S T:Nat}{a b:Rat}(h0:D≠0)(h1:E≠0)(ha:Bd D S a)(hb:Bd E T b):Bd (D*E) (S*T) (a*b):=by
 obtain⟨m,rfl,hm⟩:=ha.ex h0;obtain⟨n,rfl,hn⟩:=hb.ex h1;rw[ZH];refine Bd.mk (lG h0 h1) ?_;rw[dn];have:=iA hm hn;rw[Nat.mul_mul_mul_comm]at this;exact this
theorem Bd.fit{D S B:Nat}{q:Rat}(h:Bd D S q)(h0:D≠0)(h1:D<2^B)(h2:S*D<2^B):Fit B q:=by
 have hd:=Nat.le_of_dvd (by omega) h.1;exact⟨eh (aq h.2 (dr _ hd)) h2,eh hd h1⟩
end Ord
namespace Ord
def iK(a:Rat)(q:List Rat)(i:Nat)(out:List Rat):Nat->List Rat
 | 0=>out
 | k+1=>(iK a q i out k).set (i+k) ((iK a q i out k).getD (i+k) 0+a*q.getD k 0)
def mulL(p q:List Rat):Nat->List Rat
 | 0=>List.replicate (p.length+q.length-1) 0
 | i+1=>if p.getD i 0=0 then mulL p q i else iK (p.getD i 0) q i (mulL p q i) q.length
theorem lT(a:Rat)(q:List Rat)(i:Nat)(out:List Rat):∀k,(iK a q i out k).length=out.length
 | 0=>rfl
 | k+1=>by rw[iK,bJ,lT a q i out k]
theorem iO(p q:List Rat):∀i,(mulL p q i).length=p.length+q.length-1
 | 0=>by rw[mulL,eX]
 | i+1=>by
   rw[mulL];split
   ·exact iO p q i
   ·rw[lT,iO p q i]
theorem aX{l:List Rat}{i:Nat}(h:i<l.length:=by omega):l[i]?=some (l.getD i 0):=by
 rw[RH,ZY h];rfl
theorem Vf(x:Rat)(i:Nat):∀k:Nat,x^(i+k)=x^i*x^k
 | 0=>by rw[bq,ss];grind
 | k+1=>by rw[<-jA,lR,Vf x i k,lR];grind
theorem KX(a:Rat)(q:List Rat)(i:Nat)(out:List Rat)(x:Rat)(hl:i+q.length<=out.length):∀k,k<=q.length->ev (iK a q i out k) x=ev out x+a*x^i*ev (q.take k) x
 | 0,_=>by rw[iK,iy,ec];grind
 | k+1,hk=>by
   have hget:=aX (l:=iK a q i out k) (i:=i+k) (by rw[lT];omega);rw[iK,bA4 _ _ _ _ x hget,KX a q i out x hl k (by omega),pk (aX (l:=q)) x,Vf]
   grind
theorem ZG(p q:List Rat)(x:Rat)(hq:0<q.length):∀i,i<=p.length->ev (mulL p q i) x=ev (p.take i) x*ev q x
 | 0,_=>by rw[mulL,WA,iy,ec];grind
 | i+1,hi=>by
   have ih:=ZG p q x hq i (by omega);rw[mulL,pk (aX (l:=p)) x];split
   ·rename_i h0;rw[ih,h0];grind
   ·rw[KX _ _ _ _ x (by rw[iO];omega) _ (oL _),ih,gw];grind
theorem mJ{D S:Nat}{l:List Rat}(h:∀a∈l,Bd D S a)(i:Nat):Bd D S (l.getD i 0):=by
 rw[RH];cases hi:l[i]? with
 | none=>exact Bd.zero
 | some a=>exact h a (yx hi)
def ce8(D S T:Nat)(i k:Nat)(l:List Rat):Prop:=∀j a,l[j]?=some a->Bd D (if i<=j/\j<i+k then S+T else S) a
theorem LZ{D E S T U:Nat}(h0:D≠0)(h1:E≠0){a:Rat}{q:List Rat}(ha:Bd D S a)(hq:∀b∈q,Bd E T b){i:Nat}{out:List Rat}(ho:∀x∈out,Bd (D*E) U x):∀k,ce8 (D*E) U (S*T) i k (iK a q i out k)
 | 0=>fun j x hx=>by
   rw[aG (by omega)];exact ho x (yx hx)
 | k+1=>fun j x hx=>by
   have ih:=LZ h0 h1 ha hq ho k (i:=i);rw[iK,mR]at hx;split at hx
   ·rename_i e;subst e;split at hx
    ·rename_i hlt;simp only[wC]at hx;subst hx;rw[aK (by omega)];refine Bd.add (lG h0 h1) ?_ (ha.mul h0 h1 (mJ hq k));have:=ih (i+k) _ (aX hlt);rw[aG (by omega)]at this;exact this
    ·cases hx
   ·have:=ih j x hx;refine this.le ?_;by_cases h2:i<=j/\j<i+k
    ·rw[aK h2,aK (by omega)];exact oL _
    ·rw[aG h2];split
     ·exact MZ _ _
     ·exact oL _
theorem De{D E S T U:Nat}(h0:D≠0)(h1:E≠0){a:Rat}{q:List Rat}(ha:Bd D S a)(hq:∀b∈q,Bd E T b){i:Nat}{out:List Rat}(ho:∀x∈out,Bd (D*E) U x)(k:Nat):∀x∈iK a q i out k,Bd (D*E) (U+S*T) x:=fun x hx=>by
 obtain⟨j,hj⟩:=Mq.1 hx;refine(LZ h0 h1 ha hq ho k j x hj).le ?_;split
 ·exact oL _
 ·exact MZ _ _
theorem vR{D E S T:Nat}(h0:D≠0)(h1:E≠0){p q:List Rat}(hp:∀a∈p,Bd D S a)(hq:∀b∈q,Bd E T b):∀i,∀x∈mulL p q i,Bd (D*E) (i*(S*T)) x
 | 0=>fun x hx=>by
   rw[mulL]at hx;obtain⟨_,rfl⟩:=jW.1 hx;exact Bd.zero
 | i+1=>fun x hx=>by
   rw[mulL]at hx;rw[bX,eN];split at hx
   ·exact(vR h0 h1 hp hq i x hx).le (MZ _ _)
   ·exact De h0 h1 (mJ hp i) hq (vR h0 h1 hp hq i) _ x hx
theorem CM{D E S T B n:Nat}(h0:D≠0)(h1:E≠0)(hX:D*E*((n+1)*((S+1)*(T+1)))<2^B) :
  (∀a,Bd D S a->Fit B a)/\(∀b,Bd E T b->Fit B b)/\(∀c(i:Nat),i<n->Bd (D*E) (i*(S*T)+S*T) c->Fit B c)/\(∀c,Bd (D*E) (S*T) c->Fit B c):=by
 have hD:0<D:=RM h0;have hE:0<E:=RM h1;have hDE:0<D*E:=iw hD hE
 have key:∀X,X<=(n+1)*((S+1)*(T+1))->X*(D*E)<2^B:=fun X h=>by
  refine eh ?_ hX;rw[cD];exact dr _ h
 have hST:(S+1)*(T+1)=S*T+S+T+1:=by rw[bX,ep];omega
 have hge:(S+1)*(T+1)<=(n+1)*((S+1)*(T+1)):=zV _ (by omega);have k1:=key 1 (by omega);have kS:=key S (by omega);have kT:=key T (by omega);have kST:=key (S*T) (by omega);have hDle:D<=D*E:=kd _ hE;have hEle:E<=D*E:=zV _ hD;refine⟨fun a ha=>ha.fit h0 (by omega) (eh (dr _ hDle) kS),fun b hb=>hb.fit h1 (by omega) (eh (dr _ hEle) kT),fun c i hi hc=>?_,fun c hc=>hc.fit (by omega) (by omega) kST⟩;refine hc.fit (by omega) (by omega) (key _ ?_);have e:i*(S*T)+S*T=(i+1)*(S*T):=by rw[bX,eN]
 rw[e];exact iA (by omega) (by omega)
end Ord
