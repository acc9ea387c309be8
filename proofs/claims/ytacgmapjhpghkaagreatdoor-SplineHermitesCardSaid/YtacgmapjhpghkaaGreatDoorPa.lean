/- Part. -/
set_option linter.all false
def al:=@Int.toNat_natCast
def ak:=@List.length_cons
def bH:=@List.length_set
def bL:=@List.length_take
def dD:=@List.take_of_length_le
def bX:=@List.length_nil
def bF:=@Nat.le_trans
def aH:=@if_neg
def cX:=@Int.natAbs_natCast
def bu:=@Nat.mul_le_mul_right
def bR:=@Bool.and_eq_true
def cB:=@Array.length_toList
def br:=@Nat.lt_of_lt_of_le
def aD:=@if_pos
def eO:=@List.eq_nil_of_length_eq_zero
def bI:=@Nat.zero_add
def eN:=@List.getElem?_append_left
def bh:=@Option.some.inj
def bj:=@List.append_nil
def dS:=@List.mem_cons_of_mem
def eX:=@List.getElem?_eq_none_iff
def dF:=@Nat.mul_le_mul_left
def cb:=@List.size_toArray
def dJ:=@List.mem_cons_self
def cJ:=@Option.map_some
def dk:=@Array.replicate_succ
def dp:=@Array.replicate_zero
def dR:=@List.mem_singleton
def cj:=@List.length_drop
def cP:=@List.map_append
def fW:=@List.getElem?_append_right
def dV:=@Nat.lt_of_le_of_lt
def bW:=@Nat.pow_succ
def dr:=@List.append_toArray
def dq:=@List.getElem?_take
def dm:=@Bool.false_eq_true
def cS:=@decide_eq_true
def cG:=@Prod.mk.injEq
def bo:=@Nat.mul_comm
def dc:=@List.append_assoc
def du:=@List.push_toArray
def dM:=@Nat.min_eq_left
def bf:=@Nat.add_mul
def cC:=@Nat.add_zero
def eW:=@List.length_reverse
def fZ:=@Int.sign_eq_one_of_pos
def ey:=@Nat.pow_le_pow_right
def iG:=@List.drop_eq_getElem_cons
def fV:=@List.length_replicate
def dh:=@decide_eq_false
def jL:=@Array.getD_eq_getD_getElem?
def bz:=@Nat.pow_add
def er:=@List.getElem?_drop
def gj:=@List.getElem?_eq_none
def eL:=@List.mem_append
def gq:=@List.mem_append_left
def eD:=@Nat.mul_le_mul
def eC:=@Int.natAbs_mul
def ec:=@Nat.div_eq_of_lt
def ed:=@Nat.mod_eq_of_lt
def iV:=@List.getElem?_set_self
def fH:=@List.ext_getElem?
def ck:=@Prod.mk.inj
def eu:=@List.all_eq_true
def fj:=@List.flatten_cons
def eh:=@Nat.mul_ne_zero
def iW:=@Bool.or_eq_false_iff
def fY:=@Option.getD_some
def eP:=@Nat.mul_assoc
def jH:=@List.mem_of_mem_take
def jl:=@Nat.div_lt_iff_lt_mul
def gH:=@List.take_length
def eU:=@List.mem_cons
def de:=@Nat.mul_one
def ic:=@Nat.eq_zero_or_pos
def jJ:=@List.map_congr_left
def jn:=@List.getElem?_of_mem
def kX:=@List.mem_append_right
def dy:=@Nat.one_mul
def ep:=@List.map_cons
def eV:=@Nat.sub_self
def gu:=@List.range_succ
def da:=@beq_iff_eq
def mI:=@List.getElem?_cons_zero
def mH:=@Nat.le_mul_of_pos_right
def gE:=@List.mem_range
def cN:=@if_false
def mG:=@Nat.div_div_eq_div_mul
def oq:=@Int.tdiv_eq_ediv_of_nonneg
def gi:=@List.drop_zero
def eY:=@Nat.mul_add
def jf:=@Array.getElem?_toList
def dZ:=@Nat.pow_pos
def bP:=@if_true
def iv:=@List.getElem?_range
def kV:=@List.drop_eq_nil_of_le
def fP:=@List.drop_drop
def jV:=@List.replicate_succ
def dY:=@Nat.mod_lt
def kI:=@List.getElem?_set_ne
def ee:=@Nat.mul_zero
def ef:=@List.map_map
def jg:=@List.mem_replicate
def cT:=@and_true
def kW:=@List.flatten_append
def iI:=@Int.natCast_mul
def oK:=@Int.sign_eq_neg_one_of_neg
def gX:=@Int.natAbs_neg
def jb:=@List.take_add_one
def jd:=@decide_eq_true_eq
def qB:=@List.drop_append_of_le_length
def oT:=@List.mem_or_eq_of_mem_set
def kU:=@Nat.add_sub_cancel
def fL:=@Nat.lt_or_ge
def iK:=@List.take_zero
def jZ:=@decide_eq_decide
def lS:=@List.take_succ_cons
def mW:=@List.take_append_drop
def gD:=@Nat.add_comm
def qV:=@Int.tmod_eq_emod_of_nonneg
def ix:=@List.take_take
def jX:=@Bool.or_eq_true
def qP:=@Array.getElem?_eq_getElem
def iJ:=@Nat.le_of_lt
def mb:=@Nat.one_le_two_pow
def mS:=@Rat.div_mul_cancel
def oN:=@Nat.add_mul_div_left
def nk:=@List.mem_of_mem_drop
def oU:=@List.reverse_reverse
def oG:=@List.getElem?_append
def nq:=@Nat.pow_lt_pow_right
def sS:=@Nat.mul_lt_mul_of_pos_right
def qS:=@Option.map_eq_some_iff
def ma:=@Nat.mul_left_comm
def kh:=@List.drop_take
def nu:=@Nat.pow_le_pow_left
def lh:=@Nat.mod_add_div
def lT:=@Rat.num_eq_zero
def lk:=@Rat.mul_eq_zero
def sV:=@Nat.add_mul_mod_self_left
def sf:=@Array.size_setIfInBounds
def kP:=@Nat.add_assoc
def ja:=@Nat.gcd_comm
def jc:=@Rat.pow_succ
def wG:=@List.take_append_of_le_length
def jA:=@Nat.mul_pos
def sa:=@List.getElem?_cons_succ
def oE:=@List.getElem?_set
def pb:=@Nat.div_mul_le_self
def lX:=@List.map_take
def qb:=@List.set_cons_zero
def sF:=@List.length_filter_le
def vm:=@List.getElem?_eq_some_iff
def qQ:=@Nat.dvd_mul_right
def vV:=@Nat.gcd_pos_of_pos_right
def vf:=@List.length_eq_zero_iff
def ve:=@decide_eq_false_iff_not
def sx:=@List.map_replicate
def mX:=@decide_false
def mZ:=@Nat.zero_mul
def mR:=@List.map_nil
def qX:=@Nat.div_le_self
def qR:=@Nat.div_lt_self
def oY:=@List.map_drop
def wo:=@Nat.le_div_iff_mul_le
def vz:=@List.getElem?_toArray
def gB:=@Ne.symm
def mO:=@Nat.div_pos
def lU:=@Rat.not_lt
def si:=@List.getElem_mem
def ns:=@Rat.pow_zero
def zh:=@Int.sign_eq_zero_iff_zero
def Am:=@Option.isNone_iff_eq_none
def vE:=@List.mem_map_of_mem
def qZ:=@Rat.lt_irrefl
def sY:=@Rat.num_intCast
def vP:=@List.set_cons_succ
def mh:=@Nat.not_lt
def Ao:=@List.getElem?_replicate
def oV:=@decide_true
def oD:=@Nat.div_one
def oJ:=@Nat.le_refl
def NS:=@List.findIdx?_eq_some_iff_getElem
def AB:=@Nat.le_mul_of_pos_left
def Aw:=@Rat.normalize_eq_mkRat
def wa:=@of_decide_eq_true
def uh:=@Option.some.injEq
def vr:=@List.reverse_cons
def qD:=@List.map_set
def pa:=@Nat.pow_zero
def qJ:=@Nat.dvd_refl
def zb:=@List.singleton_append
def AP:=@List.getElem?_reverse
def zj:=@List.mem_iff_getElem?
def zt:=@List.length_singleton
def wN:=@Nat.le_of_not_lt
def vH:=@Nat.le_add_right
def wC:=@List.not_mem_nil
def Ap:=@List.mem_of_getElem?
def Al:=@List.mem_iff_getElem
def lW:=@true_and
def we:=@Nat.le_antisymm
def wj:=@List.mem_filter
def zq:=@List.drop_set_of_lt
def sX:=@Nat.le_of_eq
def sy:=@Nat.succ_mul
def Oz:=@List.getD_eq_getElem?_getD
def PC:=@Array.getElem?_append_left
def zd:=@Nat.mul_right_comm
def AA:=@Nat.gcd_zero_right
def Af:=@Rat.sub_eq_add_neg
def Ar:=@Nat.sub_add_cancel
def AR:=@Int.natAbs_add_le
def zf:=@Bool.not_eq_true'
def se:=@Nat.gcd_rec
def sZ:=@Rat.mul_pos
def OV:=@Option.isSome_iff_exists
def Ay:=@List.drop_length
def Au:=@Int.natCast_ediv
def Aj:=@Rat.normalize_eq
def AN:=@Nat.dvd_mul_left
def AG:=@Nat.lt_succ_self
def QN:=@List.drop_of_length_le
def sC:=@Nat.mod_le
def tC:=@Array.ext'
def mQ:=@Iff.rfl
def AF:=@Rat.den_intCast
def AH:=@List.cons.injEq
def AQ:=@Nat.two_pow_pos
def OX:=@List.set_append_right
def YW:=@List.length_filter_lt_length_iff_exists
def MY:=@List.getElem?_mapIdx
def vg:=@Rat.div_def
def wR:=@Nat.zero_le
def oa:=@eq_comm
def AW:=@List.take_add
def AX:=@Bool.false_or
def QH:=@Int.ofNat_dvd_left
def Pc:=@Nat.pos_of_ne_zero
def PB:=@List.filter_append
def ux:=@Int.not_lt
def Pa:=@Nat.lt_trichotomy
def Qg:=@Int.lt_trichotomy
def Nl:=@List.flatMap_cons
def NK:=@List.getElem_drop
def MN:=@List.mem_range'_1
def AK:=@Rat.le_of_lt
def ab4:=@Array.getElem?_setIfInBounds_ne
def aa5:=@List.eq_nil_iff_forall_not_mem
def OS:=@Option.getD_none
def Rf:=@Int.natCast_emod
def Pu:=@Nat.gcd_dvd_left
def OU:=@Nat.lt_of_not_le
def YV:=@Rat.mul_le_mul_of_nonneg_left
def zm:=@Rat.neg_num
def AD:=@Rat.neg_den
def AL:=@Rat.one_mul
def Pm:=@Nat.div_add_mod
def Po:=@Int.ediv_nonneg
def ML:=@List.head?_cons
def NY:=@Rat.num_nonneg
def OI:=@List.mapM_cons
def wm:=@or_false
def YX:=@List.getLast?_eq_getElem?
def ZZ:=@List.getLast?_eq_none_iff
def Yv:=@List.extract_eq_take_drop
def Zb:=@List.getElem?_zip_eq_some
def ab6:=@Int.mul_ediv_cancel_left
def ZH:=@List.getElem?_eq_getElem
def NV:=@ByteArray.ext
def Qz:=@List.all_cons
def ZB:=@List.getLast?_cons_cons
def ab0:=@Nat.mul_div_cancel_left
def Zt:=@List.append_cancel_left
def YF:=@Nat.add_sub_cancel_left
def ZN:=@List.filter_cons_of_neg
def Yq:=@List.filter_cons_of_pos
def ZU:=@List.head?_eq_getElem?
def aa4:=@List.range_succ_eq_map
def ZQ:=@List.reverse_replicate
def Zm:=@List.length_pos_of_mem
def Nk:=@List.set_set
def MJ:=@Nat.lt_trans
def Nu:=@Rat.mul_def'
def Ru:=@Rat.add_def'
def Na:=@Bool.true_or
def YY:=@ByteArray.data_append
def Ym:=@List.getElem?_zipIdx
def PX:=@Nat.pow_mul
def YA:=@List.take_set_of_le
def YQ:=@List.take_replicate
def ZD:=@Nat.lt_mul_div_succ
def aa9:=@List.drop_replicate
def Zf:=@Rat.mkRat_mul_mkRat
def Zo:=@List.drop_succ_cons
def ab7:=@List.reverse_append
def YD:=@List.replicate_zero
def ZR:=@List.length_pos_iff
namespace Ord
def val(B:Nat):List Nat->Nat
 | []=>0
 | d::ds=>d+B*val B ds
def lG(B:Nat)(n:Nat):List Nat:=
 if h:1<B/\n≠0 then n%B::lG B (n/B)else[]
termination_by n
decreasing_by exact qR (by omega) h.1
theorem dN(B:Nat):lG B 0=[]:=by rw[lG];simp
theorem fR{B n:Nat}(hB:1<B:=by omega)(h:n≠0:=by omega):lG B n=n%B::lG B (n/B):=by
 rw[lG,dif_pos ⟨hB,h⟩]
theorem vM{B:Nat}(hB:1<B)(n:Nat):val B (lG B n)=n:=by
 induction n using Nat.strongRecOn with
 | _ n ih=>
   by_cases h:n=0
   ·subst h;rw[dN];rfl
   ·rw[fR hB h,val,ih _ (qR (by omega) hB)];exact lh n B
theorem zo{B:Nat}(n:Nat)(hB:1<B:=by omega):∀d∈lG B n,d<B:=by
 induction n using Nat.strongRecOn with
 | _ n ih=>
   by_cases h:n=0
   ·subst h;rw[dN];simp
   ·rw[fR hB h];intro d hd;rcases eU.1 hd with rfl | hd
    ·exact dY _ (by omega)
    ·exact ih _ (qR (by omega) hB) d hd
theorem jk(B:Nat)(xs ys:List Nat):val B (xs++ys)=val B xs+B^xs.length*val B ys:=by
 induction xs with
 | nil=>simp[val]
 | cons x xs ih=>simp[val,ih,eY,bW,kP,eP,ma,bo]
theorem Wh{B:Nat}(hB:0<B)(xs:List Nat)(h:∀d∈xs,d<B):val B xs<B^xs.length:=by
 induction xs with
 | nil=>simp[val]
 | cons x xs ih=>
   have h1:=ih (fun d hd=>h d (dS _ hd));have h2:=h x dJ;simp only[val,ak,bW]
   calc x+B*val B xs<B+B*val B xs:=by omega
    _=B*(val B xs+1):=by rw[eY,de,gD]
    _<=B*B^xs.length:=dF _ h1
    _=B^xs.length*B:=bo _ _
theorem RS{B:Nat}(hB:1<B)(xs:List Nat)(h:∀d∈xs,d<B)(hl:∀d,xs.getLast? = some d->d≠0):lG B (val B xs)=xs:=by
 induction xs with
 | nil=>simp[val,dN]
 | cons x xs ih=>
   have hx:=h x dJ;have h1:∀d∈xs,d<B:=fun d hd=>h d (dS _ hd);cases xs with
   | nil=>
     have:x≠0:=hl x (by simp);simp only[val,ee,cC];rw[fR hB this,ed hx,ec hx,dN]
   | cons y ys=>
     have e:=ih h1 (fun d hd=>hl d (by rw[ZB];exact hd))
     have hne:val B (y::ys)≠0:=by
      intro h0;rw[h0,dN]at e;cases e
     have hne':val B (x::y::ys)≠0:=by
      rw[val];have:0<B*val B (y::ys):=jA (by omega) (by omega);omega
     rw[fR hB hne'];rw[val,sV,ed hx,oN _ _ (by omega:0<B),ec hx,bI,e]
theorem Qu{B:Nat}(hB:1<B)(n:Nat):∀d,(lG B n).getLast? = some d->d≠0:=by
 induction n using Nat.strongRecOn with
 | _ n ih=>
   by_cases h:n=0
   ·subst h;rw[dN];simp
   ·rw[fR hB h];intro d hd;by_cases h2:n/B=0
    ·rw[h2,dN]at hd;simp at hd;subst hd
     have:n<B:=by
      rcases fL n B with h3 | h3
      ·exact h3
      ·have:=mO h3 (by omega);omega
     rw[ed this];exact h
    ·have e:lG B (n/B)≠[]:=by rw[fR hB h2];simp
     have:=ih (n/B) (qR (by omega) hB) d;apply this;rw[List.getLast?_cons]at hd;rw[List.getLast?_eq_some_getLast e]at hd|-
     simpa using hd
theorem kj{B:Nat}{n k:Nat}(h:n<B^k:=by omega)(hB:1<B:=by omega):(lG B n).length<=k:=by
 induction k generalizing n with
 | zero=>have:n=0:=by simpa using h
         subst this;simp[dN]
 | succ k ih=>
   by_cases h0:n=0
   ·subst h0;simp[dN]
   ·rw[fR hB h0,ak]
    have:n/B<B^k:=by
     rw[jl (by omega)];rw[bW]at h;exact h
    exact Nat.succ_le_succ (ih this)
theorem iA{B:Nat}(hB:1<B){n:Nat}(h:n≠0):B^((lG B n).length-1)<=n:=by
 induction n using Nat.strongRecOn with
 | _ n ih=>
   rw[fR hB h,ak,kU];by_cases h2:n/B=0
   ·rw[h2,dN];simp;omega
   ·have:=ih (n/B) (qR (by omega) hB) h2;have hl:0<(lG B (n/B)).length:=by rw[fR hB h2];simp
    obtain⟨k,hk⟩:∃k,(lG B (n/B)).length=k+1:=⟨_,(Ar hl).symm⟩
    rw[hk]at this|-;rw[kU]at this;rw[bW]
    calc B^k*B<=(n/B)*B:=bu _ this
     _<=n:=pb n B
theorem mA{B:Nat}(hB:1<B)(n:Nat):n<B^(lG B n).length:=by
 have:=Wh (by omega:0<B) (lG B n) (zo n hB)
 rwa[vM hB]at this
end Ord
namespace Ord
def pd(B:Nat):Nat->Nat->List Nat
 | 0,_=>[]
 | n+1,x=>x%B::pd B n (x/B)
variable{B:Nat}
@[simp] theorem ei:∀(n x:Nat),(pd B n x).length=n
  | 0,_=>rfl
  | n+1,x=>by simp[pd,ei n]
theorem FV(hB:0<B):∀(n x:Nat),∀d∈pd B n x,d<B
 | 0,_,d,h=>by cases h
 | n+1,x,d,h=>by
   rcases eU.1 h with rfl | h
   ·exact dY _ hB
   ·exact FV hB n _ d h
theorem xU:∀(n x:Nat),val B (pd B n x)=x%B^n
 | 0,x=>by simp[pd,val,Nat.mod_one]
 | n+1,x=>by
   rw[pd,val,xU n,bW,bo (B^n) B,Nat.mod_mul]
theorem aB8(hB:0<B):∀(ds:List Nat),(∀d∈ds,d<B)->pd B ds.length (val B ds)=ds
 | [],_=>rfl
 | d::ds,h=>by
   have hd:=h d dJ;rw[ak,pd,val,sV,ed hd,oN _ _ hB,ec hd,bI,aB8 hB ds fun x hx=>h x (dS _ hx)]
theorem TX(hB:0<B){ds:List Nat}(h:∀d∈ds,d<B){n x:Nat}(hl:ds.length=n)(hv:val B ds=x):ds=pd B n x:=by
 subst hl hv;exact(aB8 hB ds h).symm
theorem Cf:∀{n i:Nat}(x:Nat),i<n->(pd B n x)[i]?=some (x/B^i%B)
 | 0,_,_,h=>by omega
 | n+1,0,x,_=>by simp[pd]
 | n+1,i+1,x,h=>by
   rw[pd,sa,Cf _ (by omega),mG,bW,bo B]
theorem QU:∀(n i x:Nat),(pd B n x).drop i=pd B (n-i) (x/B^i)
 | n,0,x=>by simp
 | 0,i+1,x=>by simp[pd]
 | n+1,i+1,x=>by
   rw[pd,Zo,QU n i,mG,bW,bo B,Nat.add_sub_add_right]
theorem NX:∀{n k:Nat}(x:Nat),k<=n->(pd B n x).take k=pd B k x
 | n,0,x,_=>by simp[pd]
 | 0,k+1,x,h=>by omega
 | n+1,k+1,x,h=>by rw[pd,lS,NX _ (by omega),pd]
theorem Zq(x:Nat)(hB:1<B:=by omega):lG B x=pd B (lG B x).length x:=TX (by omega) (zo x hB) rfl (vM hB x)
theorem af7{n i k x y:Nat}(hx:x<B^n)(hy:y<B^k)(hB:0<B:=by omega)(hi:i+k<=n:=by omega):(pd B n x).take i++pd B k y++(pd B n x).drop (i+k)=pd B n (x%B^i+B^i*(y+B^k*(x/B^(i+k)))):=by
 apply TX hB
 ·intro d hd;simp only[eL]at hd;rcases hd with(hd | hd) | hd
  ·exact FV hB _ _ d (jH hd)
  ·exact FV hB _ _ d hd
  ·exact FV hB _ _ d (nk hd)
 ·simp;omega
 ·rw[jk,jk,NX _ (by omega),QU,xU,xU,xU,ed hy]
  have h3:x/B^(i+k)<B^(n-(i+k)):=by
   rw[jl (dZ hB),<-bz,Ar hi];exact hx
  rw[ed h3];simp only[List.length_append,ei,bz,eY,eP,kP]
end Ord
namespace Ord
variable{B:Nat}
def DB(B:Nat)(ds:List Nat):Prop:=∀d∈ds,d<B
theorem DB.take{ds:List Nat}(h:DB B ds)(n:Nat):DB B (ds.take n):=fun d hd=>h d (jH hd)
theorem DB.drop{ds:List Nat}(h:DB B ds)(n:Nat):DB B (ds.drop n):=fun d hd=>h d (nk hd)
theorem DB.set{ds:List Nat}(h:DB B ds){i x:Nat}(hx:x<B):DB B (ds.set i x):=fun d hd=>by
 rcases oT hd with hd | rfl
 ·exact h d hd
 ·exact hx
theorem DB.get{ds:List Nat}(h:DB B ds){i d:Nat}(hd:ds[i]?=some d):d<B:=h d (Ap hd)
theorem DB.getD{ds:List Nat}(hB:0<B)(h:DB B ds){i d:Nat}(hd:ds[i]?.getD 0=d):d<B:=by
 cases hx:ds[i]? with
 | none=>rw[hx]at hd;simp at hd;omega
 | some e=>rw[hx]at hd;simp at hd;subst hd;exact h.get hx
theorem DB.rep(hB:0<B)(n:Nat):DB B (List.replicate n 0):=fun d hd=>by
 obtain⟨_,rfl⟩:=jg.1 hd;exact hB
theorem DB.lG(hB:1<B)(n:Nat):DB B (lG B n):=zo n hB
theorem DB.append{xs ys:List Nat}(h:DB B xs)(k:DB B ys):DB B (xs++ys):=fun d hd=>(eL.1 hd).elim (h d) (k d)
theorem DB.rev{xs:List Nat}(h:DB B xs):DB B xs.reverse:=fun d hd=>h d (List.mem_reverse.1 hd)
theorem DB.lt{xs:List Nat}(hB:0<B)(h:DB B xs):val B xs<B^xs.length:=Wh hB xs h
theorem val_one(d:Nat):val B [d]=d:=by simp[val]
theorem take_succ{ds:List Nat}{i d:Nat}(h:ds[i]?=some d):ds.take (i+1)=ds.take i++[d]:=by
 rw[jb,h];rfl
theorem gz{ds:List Nat}{i d:Nat}(h:ds[i]?=some d):val B (ds.take (i+1))=val B (ds.take i)+B^i*d:=by
 have hi:i<ds.length:=(vm.1 h).1;rw[take_succ h,jk,val_one,bL,dM (by omega)]
theorem kH{ds:List Nat}{i d:Nat}(h:ds[i]?.getD 0=d):val B (ds.take (i+1))=val B (ds.take i)+B^i*d:=by
 cases hx:ds[i]? with
 | some e=>rw[hx]at h;simp at h;subst h;exact gz hx
 | none=>
   rw[hx]at h;simp at h;subst h;have:=eX.1 hx;rw[dD (by omega),dD (by omega)];omega
theorem mU{os:List Nat}{i x:Nat}(h:i<os.length):val B ((os.set i x).take (i+1))=val B (os.take i)+B^i*x:=by
 rw[gz (d:=x) (by simp[h])];rw[YA (oJ i)]
theorem Yz(n:Nat):val B (List.replicate n 0)=0:=by
 induction n with
 | zero=>rfl
 | succ n ih=>rw[jV,val,ih];omega
theorem aL5{z:Nat}{os:List Nat}{j old n:Nat}(hj:os[j]?=some old)(hjn:j<n:=by omega):val B ((os.set j z).take n)+B^j*old=val B (os.take n)+B^j*z:=by
 induction os generalizing j n with
 | nil=>simp at hj
 | cons d os ih=>
   obtain⟨m,rfl⟩:∃m,n=m+1:=⟨n-1,by omega⟩
   cases j with
   | zero=>
     simp only[mI,uh]at hj;subst hj;simp only[qb,lS,val,pa];omega
   | succ j=>
     have:=ih (j:=j) (n:=m) (by simpa using hj) (by omega);simp only[vP,lS,val,bW]at this|-;have h1:B^j*B*old=B*(B^j*old):=by rw[zd,bo]
     have h2:B^j*B*z=B*(B^j*z):=by rw[zd,bo]
     rw[h1,h2];have:=congrArg (fun t=>B*t) this;simp only[eY]at this;omega
structure Il(B:Nat)(xs ys:List Nat)(i:Nat)(os:List Nat):Prop where
 le:i<=xs.length
 len:os.length=xs.length+ys.length
 dg:DB B os
 eq:val B (os.take (i+ys.length))=val B (xs.take i)*val B ys
structure BIn(B:Nat)(xs ys:List Nat)(i x T k c:Nat)(os:List Nat):Prop where
 le:k<=ys.length
 len:os.length=xs.length+ys.length
 dg:DB B os
 c1:c<B
 eq:val B (os.take (i+ys.length))+B^(i+k)*c=T+x*(B^i*val B (ys.take k))
theorem Il.init(hB:0<B)(xs ys:List Nat):Il B xs ys 0 (List.replicate (xs.length+ys.length) 0):=⟨wR _,by simp,DB.rep hB _,by
 rw[YQ,Yz];simp[val]⟩
theorem Il.inn(hB:0<B){xs ys os:List Nat}{i x:Nat}(h:Il B xs ys i os):BIn B xs ys i x (val B (xs.take i)*val B ys) 0 0 os:=⟨wR _,h.len,h.dg,by omega,by rw[h.eq];simp[val]⟩
theorem BIn.next{xs ys os:List Nat}{i x T k c y old z c':Nat}(h:BIn B xs ys i x T k c os)(hk:k<ys.length)(hy:ys[k]?=some y)(ho:os[i+k]?=some old)(hz:z<B)(hc:c'<B)(he:z+B*c'=c+(x*y+old)) :
  BIn B xs ys i x T (k+1) c' (os.set (i+k) z):=by
 refine⟨hk,by rw[bH];exact h.len,h.dg.set hz,hc,?_⟩;have h1:=aL5 (B:=B) (z:=z) (n:=i+ys.length) ho;have h2:=congrArg (fun t=>B^(i+k)*t) he;have h3:=h.eq;rw[gz hy];simp only[eY]at h2|-;have e1:B^(i+(k+1))*c'=B^(i+k)*(B*c'):=by rw[<-kP,bW,eP]
 have e2:x*(B^i*(B^k*y))=B^(i+k)*(x*y):=by rw[bz];simp only[ma,eP]
 rw[e1,e2];omega
theorem BIn.out{xs ys os:List Nat}{i x c:Nat}(h:BIn B xs ys i x (val B (xs.take i)*val B ys) ys.length c os)(hx:xs[i]?=some x):Il B xs ys (i+1) (os.set (i+ys.length) c):=by
 have hi:i<xs.length:=(vm.1 hx).1;refine⟨hi,by rw[bH];exact h.len,h.dg.set h.c1,?_⟩;have h3:=h.eq;rw[gH]at h3;rw[show i+1+ys.length=i+ys.length+1 by omega,mU (by rw[h.len];omega),gz hx,h3,bf]
 congr 1
 rw[ma,<-eP]
theorem Il.fin{xs ys os:List Nat}(h:Il B xs ys xs.length os):val B os=val B xs*val B ys:=by
 have:=h.eq;rw[dD (by rw[h.len];omega),gH]at this;exact this
structure Hw(B:Nat)(xs ys:List Nat)(n:Nat)(s:Int)(i:Nat)(c:Int)(os:List Nat):Prop where
 le:i<=n
 c0:-1<=c
 c1:c<=1
 len:os.length=n
 dg:DB B os
 eq:(val B (os.take i):Int)+(B^i:Nat)*c=(val B (xs.take i):Int)+s*(val B (ys.take i):Int)
theorem Hw.init(hB:0<B)(xs ys:List Nat)(n:Nat)(s:Int):Hw B xs ys n s 0 0 (List.replicate n 0):=⟨wR _,by omega,by omega,by simp,DB.rep hB _,by simp[val]⟩
theorem Hw.next{xs ys os:List Nat}{n i x y z:Nat}{s c c':Int}(h:Hw B xs ys n s i c os)(hi:i<n)(hx:xs[i]?.getD 0=x)(hy:ys[i]?.getD 0=y)(hc0:-1<=c')(hc1:c'<=1)(hz:z<B)(he:(z:Int)+B*c'=x+s*y+c) :
  Hw B xs ys n s (i+1) c' (os.set i z):=by
 refine⟨hi,hc0,hc1,by rw[bH];exact h.len,h.dg.set hz,?_⟩;rw[mU (by rw[h.len];exact hi),kH hx,kH hy];have h1:=h.eq;have h2:=congrArg (fun t=>((B^i:Nat):Int)*t) he;simp only[bW,Int.natCast_add,iI,Int.mul_add]at h1 h2|-;have e1:((B^i:Nat):Int)*(B:Int)*c'=((B^i:Nat):Int)*((B:Int)*c'):=Int.mul_assoc _ _ _;have e2:s*(((B^i:Nat):Int)*(y:Int))=((B^i:Nat):Int)*(s*(y:Int)):=Int.mul_left_comm _ _ _;rw[e1,e2];omega
theorem Hw.fin{xs ys os:List Nat}{n:Nat}{s c:Int}(hB:0<B)(h:Hw B xs ys n s n c os)(hx:xs.length<=n)(hy:ys.length<=n){r:Nat}(hr:(r:Int)=(val B xs:Int)+s*(val B ys:Int))(hl:r<B^n):val B os=r:=by
 have h1:=h.eq;have hlen:=h.len;rw[dD (by omega),dD hx,dD hy,<-hr]at h1;have h2:=DB.lt hB h.dg;rw[hlen]at h2;have h3:=h.c0;have h4:=h.c1
 have:c=0:=by
  rcases(by omega:c=-1\/c=0\/c=1)with rfl | rfl | rfl
  ·omega
  ·rfl
  ·omega
 subst this;omega
structure jq(B:Nat)(xs ys:List Nat)(t:Nat)(i c b:Nat)(os:List Nat):Prop where
 le:i<=xs.length
 b1:b<=1
 c1:c<=t
 c2:ys.length<i->c=0
 len:os.length=xs.length
 dg:DB B os
 rest:os.drop i=xs.drop i
 eq:val B (os.take i)+t*val B (ys.take i)=val B (xs.take i)+B^i*(c+b)
theorem jq.init{xs:List Nat}(hx:DB B xs)(ys:List Nat)(t:Nat):jq B xs ys t 0 0 0 xs:=⟨wR _,by omega,by omega,fun _=>rfl,rfl,hx,rfl,by simp[val]⟩
theorem jq.get{xs ys os:List Nat}{t i c b x:Nat}(h:jq B xs ys t i c b os)(hx:xs[i]?=some x):os[i]?=some x:=by
 have:=congrArg (fun l=>l[0]?) h.rest;simp only[er,cC]at this;rw[this,hx]
theorem jq.next{xs ys os:List Nat}{t i c b x y z b':Nat}(hB:0<B)(h:jq B xs ys t i c b os)(ht:t<B)(hx:xs[i]?=some x)(hy:ys[i]?.getD 0=y)(hyB:y<B)(hz:z<B)(hb:b'<=1)(he:z+(c+t*y)%B+b=x+B*b') :
  jq B xs ys t (i+1) ((c+t*y)/B) b' (os.set i z):=by
 have hi:i<xs.length:=(vm.1 hx).1;have hc:=h.c1;refine⟨hi,hb,?_,?_,by rw[bH];exact h.len,h.dg.set hz,?_,?_⟩
 ·have:(c+t*y)/B<t+1:=by
   rw[jl hB];have h1:t*y<=t*(B-1):=dF _ (by omega)
   have h2:(t+1)*B=t*(B-1)+t+B:=by
    obtain⟨k,rfl⟩:∃k,B=k+1:=⟨B-1,by omega⟩
    simp only[kU,bf,eY];omega
   omega
  omega
 ·intro hlt
  have:y=0:=by
   rw[<-hy,eX.2 (by omega)];rfl
  subst this;simp only[ee,cC];exact ec (by omega)
 ·rw[zq (by omega)];have:=congrArg (List.drop 1) h.rest
  simpa[fP]using this
 ·have h1:=h.eq;have h2:=congrArg (fun q=>B^i*q) he;have h3:=congrArg (fun q=>B^i*q) (lh (c+t*y) B);rw[mU (by rw[h.len];exact hi),gz hx,kH hy,bW];simp only[eY]at h2 h3|-;have e2:t*(B^i*y)=B^i*(t*y):=ma _ _ _;have e3:B^i*B*((c+t*y)/B)=B^i*(B*((c+t*y)/B)):=eP _ _ _;have e4:B^i*B*b'=B^i*(B*b'):=eP _ _ _;rw[e2,e3,e4];simp only[eY]at h1;omega
theorem jq.fin{xs ys os:List Nat}{t c b:Nat}(hB:0<B)(h:jq B xs ys t xs.length c b os)(hx:DB B xs)(hl:ys.length<xs.length) :
  b=(if val B xs<t*val B ys then 1 else 0)/\os=pd B xs.length (val B xs+B^xs.length*b-t*val B ys):=by
 have h0:=h.c2 hl;subst h0;have h1:=h.eq;rw[dD (by rw[h.len];omega),gH,dD (by omega),bI]at h1;have h2:=DB.lt hB h.dg;rw[h.len]at h2;have hb:=h.b1
 constructor
 ·split<;>rcases(by omega:b=0\/b=1)with rfl | rfl<;>omega
 ·refine TX hB h.dg h.len ?_;omega
end Ord
namespace Ord
theorem au5{B X V n:Nat}(hV:0<V/B^n):X/V<=X/B^n/(V/B^n):=by
 rw[wo hV]
 have hp:0<B^n:=by
  rcases ic (B^n)with h | h
  ·rw[h,Nat.div_zero]at hV;omega
  ·exact h
 rw[wo hp,eP]
 calc X/V*(V/B^n*B^n)<=X/V*V:=dF _ (pb _ _)
  _<=X:=pb _ _
theorem wk{X V g:Nat}(hV:0<V)(h2:X<(g+1)*V)(h1:g*V<=X:=by omega):X/V=g:=by
 apply we
 ·have:X/V<g+1:=by rw[jl hV];exact h2
  omega
 ·rw[wo hV];exact h1
theorem Hd{B S V R Q i:Nat}(hB:0<B)(hV:0<V)(hS:S=R+V*B^(i+1)*Q)(hR:R/B^(i+1)<V) :
  R/B^i<V*B/\R/B^i/V<B/\S=(R%B^i+B^i*(R/B^i%V))+V*B^i*(R/B^i/V+B*Q)/\(R%B^i+B^i*(R/B^i%V))/B^i<V:=by
 have hp:0<B^i:=dZ hB
 have h1:R/B^i<V*B:=by
  rw[jl hp];rw[jl (dZ hB)]at hR;rw[bW,bo (B^i)]at hR;rw[eP];exact hR
 refine⟨h1,?_,?_,?_⟩
 ·rw[jl hV,bo];exact h1
 ·have e1:=lh R (B^i);have e2:=lh (R/B^i) V;rw[hS]
  conv=>lhs;rw[<-e1,<-e2]
  simp only[bW,eY];have:V*(B^i*B)*Q=V*B^i*(B*Q):=by simp only[eP]
  rw[this];have:B^i*(V*(R/B^i/V))=V*B^i*(R/B^i/V):=by rw[<-eP,bo (B^i)]
  rw[this];omega
 ·rw[oN _ _ hp,ec (dY _ hp),bI];exact dY _ hV
theorem xh{S V R Q:Nat}(hS:S=R+V*Q)(hR:R<V):Q=S/V/\R=S%V:=by
 constructor
 ·rw[hS,oN _ _ (by omega),ec hR,bI]
 ·rw[hS,sV,ed hR]
theorem TJ{B R i n X':Nat}(hR:R/B^(i+n)=0):R%B^i+B^i*(X'+B^n*(R/B^(i+n)))=R%B^i+B^i*X':=by rw[hR,ee,cC]
end Ord
namespace Ord
def Fit(B:Nat)(q:Rat):Prop:=q.num.natAbs<2^B/\q.den<2^B
theorem Fit.mono{B C:Nat}{q:Rat}(h:Fit B q)(hBC:B<=C):Fit C q:=
 have:=ey (n:=2) (by omega) hBC
 ⟨br h.1 this,br h.2 this⟩
theorem KH(n:Int)(g:Nat):(n/(g:Int)).natAbs<=n.natAbs+(if n<0 then 1 else 0)*0+(if(g:Int)∣n then 0 else 1):=by
 by_cases hg:g=0
 ·subst hg;simp
 ·by_cases hd:(g:Int)∣n
  ·rw[aD hd];obtain⟨k,rfl⟩:=hd;rw[ab6 _ (by omega),eC];simp only[cX,ee,cC];exact AB _ (by omega)
  ·rw[aH hd];have h1:=Int.mul_ediv_add_emod n g;have h2:=Int.emod_nonneg n (b:=(g:Int)) (by omega);have h3:=Int.emod_lt_of_pos n (b:=(g:Int)) (by omega)
   have h4:(n/(g:Int)).natAbs*g<=n.natAbs+g:=by
    have:((n/(g:Int)).natAbs*g:Nat)=((g:Int)*(n/(g:Int))).natAbs:=by rw[eC,cX,bo]
    omega
   have h5:n.natAbs+g<=(n.natAbs+1)*g:=by
    rw[bf,dy];have:=mH n.natAbs (by omega:0<g);omega
   have:=Nat.le_of_mul_le_mul_right (bF h4 h5) (by omega);omega
theorem Fit.mkRat{B:Nat}{n:Int}{d:Nat}(hn:n.natAbs<2^B)(hd:d<2^B)(h0:d≠0):Fit B (mkRat n d):=by
 rw[<-Aw h0,Aj h0];refine⟨?_,dV (qX _ _) hd⟩;have:=KH n (n.natAbs.gcd d);rw[aD (QH.2 (Pu _ _))]at this;simp only[ee,cC]at this;show(n/_).natAbs<_;exact dV this hn
theorem two_pow_pos(B:Nat):0<2^B:=dZ (by omega)
theorem bM{a b B C:Nat}(ha:a<2^B)(hb:b<2^C):a*b<2^(B+C):=by
 rw[bz];exact Nat.mul_lt_mul'' ha hb
theorem Fit.add{B C:Nat}{a b:Rat}(ha:Fit B a)(hb:Fit C b):Fit (B+C+1) (a+b):=by
 rw[Ru];have h1:=bM ha.1 hb.2;have h2:=bM hb.1 ha.2;have h3:=bM ha.2 hb.2;rw[gD C B]at h2;refine Fit.mkRat ?_ ?_ (eh a.den_nz b.den_nz)
 ·rw[bW]
  have:(a.num * ↑b.den+b.num * ↑a.den).natAbs<=a.num.natAbs*b.den+b.num.natAbs*a.den:=by
   refine bF (AR _ _) ?_;rw[eC,eC,cX,cX];exact oJ _
  omega
 ·rw[bW];omega
theorem Fit.mul{B C:Nat}{a b:Rat}(ha:Fit B a)(hb:Fit C b):Fit (B+C) (a*b):=by
 rw[Nu];refine Fit.mkRat ?_ (bM ha.2 hb.2) (eh a.den_nz b.den_nz);rw[eC];exact bM ha.1 hb.1
theorem Fit.neg{B:Nat}{a:Rat}(ha:Fit B a):Fit B (-a):=by
 refine⟨?_,?_⟩
 ·rw[zm,gX];exact ha.1
 ·rw[AD];exact ha.2
theorem Fit.sub{B C:Nat}{a b:Rat}(ha:Fit B a)(hb:Fit C b):Fit (B+C+1) (a-b):=by
 rw[Af];exact ha.add hb.neg
theorem Fit.inv{B:Nat}{a:Rat}(ha:Fit B a):Fit B a⁻¹:=by
 by_cases h:a=0
 ·subst h;rw[Rat.inv_zero];exact ha
 ·have hn:a.num≠0:=fun e=>h (lT.1 e);refine⟨?_,?_⟩
  ·rw[Rat.num_inv,eC,Int.natAbs_sign_of_ne_zero hn,cX,dy];exact ha.2
  ·rw[Rat.den_inv,aH hn];exact ha.1
theorem Fit.div{B C:Nat}{a b:Rat}(ha:Fit B a)(hb:Fit C b):Fit (B+C) (a/b):=by
 rw[vg];exact ha.mul hb.inv
theorem Fit.zero{B:Nat}(h:1<=B):Fit B 0:=by
 have:=ey (n:=2) (by omega) h;exact⟨by show(0:Int).natAbs<_;simp;omega,by show 1<_;omega⟩
theorem Fit.int{B:Nat}{n:Int}(hB:1<=B)(h:n.natAbs<2^B):Fit B (n:Rat):=by
 have:=ey (n:=2) (by omega) hB;exact⟨by rw[sY];exact h,by rw[AF];omega⟩
end Ord
namespace Ord
def bd(n:Nat):List Nat:=(lG 32768 n).reverse
def bv(ds:List Nat):Nat:=val 32768 ds.reverse
theorem gL(n:Nat):bv (bd n)=n:=by rw[bv,bd,oU,vM (by omega)]
theorem jF(n:Nat):DB 32768 (bd n):=(DB.lG (by omega) n).rev
theorem AU:bd 0=[]:=by rw[bd,dN];rfl
theorem DR{n:Nat}:bd n=[]↔n=0:=by
 constructor
 ·intro h;have:=congrArg bv h;rw[gL]at this;exact this
 ·rintro rfl;exact AU
theorem WO(n:Nat):(bd n).length=(lG 32768 n).length:=by rw[bd,eW]
theorem zk(d:Nat)(ds:List Nat):bv (d::ds)=bv ds+32768^ds.length*d:=by
 rw[bv,vr,jk,val_one,eW];rfl
theorem AO(ds:List Nat)(d:Nat):bv (ds++[d])=bv ds*32768+d:=by
 rw[bv,ab7];simp only[vr,List.reverse_nil,List.nil_append,zb,val];rw[bv];omega
theorem ak8(xs ys:List Nat):bv (xs++ys)=bv xs*32768^ys.length+bv ys:=by
 rw[bv,ab7,jk,eW,bo,gD];rfl
theorem bR1{ds:List Nat}(h:DB 32768 ds)(h0:∀d,ds.head? = some d->d≠0):bd (bv ds)=ds:=by
 rw[bd,bv,RS (by omega) _ h.rev,oU];intro d hd;rw[List.getLast?_reverse]at hd;exact h0 d hd
theorem Vw{ds:List Nat}(h:DB 32768 ds):bv ds<32768^ds.length:=by
 have:=DB.lt (by omega) h.rev
 rwa[eW]at this
theorem CM(n:Nat):n<32768^(bd n).length:=by rw[WO];exact mA (by omega) n
theorem bX5{n:Nat}(h:n≠0):32768^((bd n).length-1)<=n:=by rw[WO];exact iA (by omega) h
theorem jz{n k:Nat}(h:n<32768^k):(bd n).length<=k:=by rw[WO];exact kj h
theorem fT{m n:Nat}(h:m<=n):(bd m).length<=(bd n).length:=jz (dV h (CM n))
theorem Sq{n:Nat}(h:n<32768:=by omega)(h0:n≠0:=by omega):bd n=[n]:=by
 rw[bd,fR (by omega) h0,ed h,ec h,dN];rfl
theorem RV(n i:Nat):((bd n).reverse[i]?).getD 0=n/32768^i%32768:=by
 rw[bd,oU];by_cases hi:i<(lG 32768 n).length
 ·rw[Zq n,Cf _ hi];rfl
 ·rw[eX.2 (by omega),OS,ec,Nat.zero_mod];exact br (mA (by omega) n) (ey (by omega) (by omega))
theorem zy{ds:List Nat}{i:Nat}(h:i<ds.length:=by omega):ds[ds.length-1-i]?=ds.reverse[i]?:=by
 rw[AP h]
theorem Re{os:List Nat}{i z:Nat}(h:i<os.length):os.reverse.set (os.length-1-i) z=(os.set i z).reverse:=by
 apply fH;intro j;rw[oE];simp only[eW];by_cases hj:j<os.length
 ·rw[AP hj,AP (by rw[bH];exact hj),oE,bH];by_cases e:os.length-1-i=j
  ·rw[aD e,aD (by omega),aD (by omega),aD (by omega)]
  ·rw[aH e,aH (by omega)]
 ·rw[eX.2 (by simp;omega),eX.2 (by simp;omega)];split
  ·split<;>first | rfl | omega
  ·rfl
theorem af1{ds:List Nat}{d:Nat}(h:ds[0]?=some d):bv ds=bv (ds.drop 1)+32768^(ds.length-1)*d:=by
 cases ds with
 | nil=>simp at h
 | cons x xs=>simp only[mI,uh]at h;subst h;simp[zk]
end Ord
namespace Ord
def ev(p:List Rat)(x:Rat):Rat:=p.foldr (fun a v=>v*x+a) 0
theorem dA(x:Rat):ev [] x=0:=rfl
theorem au(a:Rat)(p:List Rat)(x:Rat):ev (a::p) x=ev p x*x+a:=rfl
theorem Ln(p q:List Rat)(x:Rat):ev (p++q) x=ev p x+x^p.length*ev q x:=by
 induction p with
 | nil=>simp only[List.nil_append,dA,bX];grind
 | cons a p ih=>simp only[List.cons_append,au,ih,ak,jc];grind
theorem bv2(p:List Rat)(i:Nat)(a b x:Rat)(h:p[i]?=some a):ev (p.set i b) x=ev p x+(b-a)*x^i:=by
 induction p generalizing i with
 | nil=>simp at h
 | cons c p ih=>
   cases i with
   | zero=>
     simp only[mI,uh]at h;subst h;simp only[qb,au,ns];grind
   | succ i=>
     simp only[sa]at h;simp only[vP,au,ih i h,jc];grind
theorem aq4(n:Nat)(x:Rat):ev (List.replicate n 0) x=0:=by
 induction n with
 | zero=>rfl
 | succ n ih=>rw[jV,au,ih];grind
theorem vD{p:List Rat}{i:Nat}{a:Rat}(h:p[i]?=some a)(x:Rat):ev (p.take (i+1)) x=ev (p.take i) x+a*x^i:=by
 have hi:i<p.length:=(vm.1 h).1;rw[jb,h,Option.toList_some,Ln,bL,dM (by omega),au,dA];grind
theorem Yg(k:Rat)(p:List Rat)(x:Rat):ev (p.map (· * k)) x=ev p x*k:=by
 induction p with
 | nil=>rw[mR,dA];grind
 | cons a p ih=>rw[ep,au,au,ih];grind
def syn(c:Rat):List Rat->List Rat
 | []=>[]
 | [_]=>[]
 | _::b::p=>ev (b::p) c::syn c (b::p)
theorem CT(c:Rat):∀p:List Rat,(syn c p).length=p.length-1
 | []=>rfl
 | [_]=>rfl
 | _::b::p=>by
   have:=CT c (b::p);simp only[ak]at this;simp only[syn,ak,this];omega
theorem aD4(c x:Rat):∀p:List Rat,ev p x=ev p c+(x-c)*ev (syn c p) x
 | []=>by simp only[dA,syn];grind
 | [a]=>by simp only[au,dA,syn];grind
 | a::b::p=>by
   have ih:=aD4 c x (b::p);rw[au a (b::p) x,au a (b::p) c,syn,au (ev (b::p) c)];generalize ev (b::p) x=u at *;generalize ev (b::p) c=v at *;generalize ev (syn c (b::p)) x=t at *;subst ih
   grind
theorem UU(c:Rat):∀p:List Rat,ev p c=0->(∀a∈syn c p,a=0)->∀a∈p,a=0
 | [],_,_=>by simp
 | [a],h,_=>by
   rw[au,dA]at h;intro x hx;simp only[dR]at hx;subst hx;grind
 | a::b::p,h,hs=>by
   rw[syn]at hs;have h1:ev (b::p) c=0:=hs _ dJ;have ih:=UU c (b::p) h1 fun y hy=>hs y (dS _ hy);rw[au,h1]at h;intro x hx;rcases eU.1 hx with rfl | hx
   ·grind
   ·exact ih x hx
theorem Mk:∀(n:Nat)(p:List Rat),p.length<=n->(∀i:Nat,i<n->ev p (i:Rat)=0)->∀a∈p,a=0
 | 0,p,hl,_=>by
   have:p=[]:=eO (by omega);subst this;simp
 | n+1,p,hl,h=>by
   have h0:=h n (by omega);refine UU _ p h0 (Mk n (syn (n:Rat) p) (by rw[CT];omega) fun i hi=>?_);have h1:=h i (by omega);rw[aD4 (n:Rat) i p,h0]at h1
   have h2:((i:Rat)-(n:Rat))≠0:=by
    intro e;have e2:(i:Rat)=(n:Rat):=by grind
    have:=Rat.natCast_inj.1 e2;omega
   have h3:((i:Rat)-(n:Rat))*ev (syn (n:Rat) p) i=0:=by grind
   rcases lk.1 h3 with h4 | h4
   ·exact(h2 h4).elim
   ·exact h4
def dif:List Rat->List Rat->List Rat
 | [],q=>q.map (fun a=>-a)
 | a::p,[]=>a::p
 | a::p,b::q=>(a-b)::dif p q
theorem aC9:∀(p q:List Rat)(x:Rat),ev (dif p q) x=ev p x-ev q x
 | [],q,x=>by
   rw[dif,dA]
   induction q with
   | nil=>rw[mR,dA];grind
   | cons b q ih=>rw[ep,au,au,ih];grind
 | a::p,[],x=>by rw[dif,dA];grind
 | a::p,b::q,x=>by rw[dif,au,au,au,aC9 p q x];grind
def nK(p:List Rat):Prop:=∀a,p.getLast? = some a->a≠0
theorem nK.tail{a:Rat}{p:List Rat}(h:nK (a::p)):nK p:=fun b hb=>h b (by
 cases p with
 | nil=>cases hb
 | cons c p=>rw[ZB];exact hb)
theorem FU{p:List Rat}(h:nK p)(h0:∀a∈p,a=0):p=[]:=by
 cases hp:p.getLast? with
 | none=>exact ZZ.1 hp
 | some a=>exact(h a hp (h0 a (List.mem_of_getLast? hp))).elim
theorem Te:∀{p q:List Rat},nK p->nK q->(∀a∈dif p q,a=0)->p=q
 | [],q,_,hq,h=>by
   rw[dif]at h;refine(FU hq fun a ha=>?_).symm;have:=h (-a) (List.mem_map.2 ⟨a,ha,rfl⟩)
   grind
 | a::p,[],hp,_,h=>FU hp h
 | a::p,b::q,hp,hq,h=>by
   rw[dif]at h;have h1:=h _ dJ;have h2:=Te hp.tail hq.tail fun x hx=>h x (dS _ hx);rw[h2,show a=b by grind]
theorem Gp{p q:List Rat}(hp:nK p)(hq:nK q)(h:∀x,ev p x=ev q x):p=q:=
 Te hp hq (Mk _ _ (oJ _) fun i _=>by rw[aC9,h];grind)
end Ord
namespace Ord
def Bd(D S:Nat)(q:Rat):Prop:=q.den∣D/\q.num.natAbs<=S*q.den
theorem Bd.zero{D S:Nat}:Bd D S 0:=⟨⟨D,by simp⟩,by simp⟩
theorem Bd.one{D S:Nat}(h:1<=S):Bd D S 1:=⟨⟨D,by simp⟩,by simpa using h⟩
theorem Bd.int{D S:Nat}{n:Int}(h:n.natAbs<=S):Bd D S (n:Rat):=⟨⟨D,by simp⟩,by simpa using h⟩
theorem Bd.mono{D S E T:Nat}{q:Rat}(h:Bd D S q)(hD:D∣E)(hS:S<=T):Bd E T q:=
 ⟨Nat.dvd_trans h.1 hD,bF h.2 (bu _ hS)⟩
theorem Bd.le{D S T:Nat}{q:Rat}(h:Bd D S q)(hS:S<=T):Bd D T q:=h.mono (qJ _) hS
theorem Bd.neg{D S:Nat}{q:Rat}(h:Bd D S q):Bd D S (-q):=⟨h.1,by show(-q.num).natAbs<=S*q.den;rw[gX];exact h.2⟩
theorem Bd.mk{D S:Nat}{n:Int}(h0:D≠0)(h:n.natAbs<=S*D):Bd D S (mkRat n D):=by
 rw[<-Aw h0,Aj h0];show D/n.natAbs.gcd D∣D/\(n/((n.natAbs.gcd D:Nat):Int)).natAbs<=S*(D/n.natAbs.gcd D);have hg:0<n.natAbs.gcd D:=vV _ (by omega);have hd:=Nat.gcd_dvd_right n.natAbs D;have hn:=Pu n.natAbs D;generalize n.natAbs.gcd D=g at *;obtain⟨d',rfl⟩:=hd;obtain⟨k,hk⟩:=QH.2 hn;subst hk
 constructor
 ·rw[ab0 _ hg];exact AN _ _
 ·rw[ab0 _ hg,ab6 _ (by omega)];rw[eC,cX,ma]at h;exact Nat.le_of_mul_le_mul_left h hg
theorem Bd.ex{D S:Nat}{q:Rat}(h:Bd D S q)(h0:D≠0):∃n:Int,q=mkRat n D/\n.natAbs<=S*D:=by
 obtain⟨⟨k,rfl⟩,h2⟩:=h;have hk:k≠0:=fun e=>h0 (by rw[e,ee]);refine⟨q.num*k,?_,?_⟩
 ·rw[bo q.den k,Int.mul_comm,Rat.mkRat_mul_left hk,Rat.mkRat_self]
 ·rw[eC,cX,<-eP];exact bu _ h2
theorem Bd.add{D S T:Nat}{a b:Rat}(h0:D≠0)(ha:Bd D S a)(hb:Bd D T b):Bd D (S+T) (a+b):=by
 obtain⟨m,rfl,hm⟩:=ha.ex h0;obtain⟨n,rfl,hn⟩:=hb.ex h0
 have e:mkRat m D+mkRat n D=mkRat (m+n) D:=by
  rw[Rat.mkRat_add_mkRat m n h0 h0,<-Int.add_mul,Rat.mkRat_mul_right h0]
 rw[e];refine Bd.mk h0 (bF (AR _ _) ?_);rw[bf];exact Nat.add_le_add hm hn
theorem Bd.sub{D S T:Nat}{a b:Rat}(h0:D≠0)(ha:Bd D S a)(hb:Bd D T b):Bd D (S+T) (a-b):=by
 rw[Af];exact ha.add h0 hb.neg
theorem Bd.mul{D E S T:Nat}{a b:Rat}(h0:D≠0)(h1:E≠0)(ha:Bd D S a)(hb:Bd E T b):Bd (D*E) (S*T) (a*b):=by
 obtain⟨m,rfl,hm⟩:=ha.ex h0;obtain⟨n,rfl,hn⟩:=hb.ex h1;rw[Zf];refine Bd.mk (eh h0 h1) ?_;rw[eC];have:=eD hm hn;rw[Nat.mul_mul_mul_comm]at this;exact this
theorem Bd.fit{D S B:Nat}{q:Rat}(h:Bd D S q)(h0:D≠0)(h1:D<2^B)(h2:S*D<2^B):Fit B q:=by
 have hd:=Nat.le_of_dvd (by omega) h.1;exact⟨dV (bF h.2 (dF _ hd)) h2,dV hd h1⟩
theorem Bd.Rb{B:Nat}{q:Rat}(h:Fit B q):Bd q.den (2^B) q:=by
 refine⟨qJ _,bF (iJ h.1) (mH _ q.den_pos)⟩
end Ord
namespace Ord
def iO(a:Rat)(q:List Rat)(i:Nat)(out:List Rat):Nat->List Rat
 | 0=>out
 | k+1=>(iO a q i out k).set (i+k) ((iO a q i out k).getD (i+k) 0+a*q.getD k 0)
def mulL(p q:List Rat):Nat->List Rat
 | 0=>List.replicate (p.length+q.length-1) 0
 | i+1=>if p.getD i 0=0 then mulL p q i else iO (p.getD i 0) q i (mulL p q i) q.length
theorem lg(a:Rat)(q:List Rat)(i:Nat)(out:List Rat):∀k,(iO a q i out k).length=out.length
 | 0=>rfl
 | k+1=>by rw[iO,bH,lg a q i out k]
theorem iQ(p q:List Rat):∀i,(mulL p q i).length=p.length+q.length-1
 | 0=>by rw[mulL,fV]
 | i+1=>by
   rw[mulL];split
   ·exact iQ p q i
   ·rw[lg,iQ p q i]
theorem aZ{l:List Rat}{i:Nat}(h:i<l.length:=by omega):l[i]?=some (l.getD i 0):=by
 rw[Oz,ZH h];rfl
theorem UK(x:Rat)(i:Nat):∀k:Nat,x^(i+k)=x^i*x^k
 | 0=>by rw[cC,ns];grind
 | k+1=>by rw[<-kP,jc,UK x i k,jc];grind
theorem Ls(a:Rat)(q:List Rat)(i:Nat)(out:List Rat)(x:Rat)(hl:i+q.length<=out.length):∀k,k<=q.length->ev (iO a q i out k) x=ev out x+a*x^i*ev (q.take k) x
 | 0,_=>by rw[iO,iK,dA];grind
 | k+1,hk=>by
   have hget:=aZ (l:=iO a q i out k) (i:=i+k) (by rw[lg];omega);rw[iO,bv2 _ _ _ _ x hget,Ls a q i out x hl k (by omega),vD (aZ (l:=q)) x,UK]
   grind
theorem Zl(p q:List Rat)(x:Rat)(hq:0<q.length):∀i,i<=p.length->ev (mulL p q i) x=ev (p.take i) x*ev q x
 | 0,_=>by rw[mulL,aq4,iK,dA];grind
 | i+1,hi=>by
   have ih:=Zl p q x hq i (by omega);rw[mulL,vD (aZ (l:=p)) x];split
   ·rename_i h0;rw[ih,h0];grind
   ·rw[Ls _ _ _ _ x (by rw[iQ];omega) _ (oJ _),ih,gH];grind
theorem kK{D S:Nat}{l:List Rat}(h:∀a∈l,Bd D S a)(i:Nat):Bd D S (l.getD i 0):=by
 rw[Oz];cases hi:l[i]? with
 | none=>exact Bd.zero
 | some a=>exact h a (Ap hi)
def bX2(D S T:Nat)(i k:Nat)(l:List Rat):Prop:=∀j a,l[j]?=some a->Bd D (if i<=j/\j<i+k then S+T else S) a
theorem Mu{D E S T U:Nat}(h0:D≠0)(h1:E≠0){a:Rat}{q:List Rat}(ha:Bd D S a)(hq:∀b∈q,Bd E T b){i:Nat}{out:List Rat}(ho:∀x∈out,Bd (D*E) U x):∀k,bX2 (D*E) U (S*T) i k (iO a q i out k)
 | 0=>fun j x hx=>by
   rw[aH (by omega)];exact ho x (Ap hx)
 | k+1=>fun j x hx=>by
   have ih:=Mu h0 h1 ha hq ho k (i:=i);rw[iO,oE]at hx;split at hx
   ·rename_i e;subst e;split at hx
    ·rename_i hlt;simp only[uh]at hx;subst hx;rw[aD (by omega)];refine Bd.add (eh h0 h1) ?_ (ha.mul h0 h1 (kK hq k));have:=ih (i+k) _ (aZ hlt);rw[aH (by omega)]at this;exact this
    ·cases hx
   ·have:=ih j x hx;refine this.le ?_;by_cases h2:i<=j/\j<i+k
    ·rw[aD h2,aD (by omega)];exact oJ _
    ·rw[aH h2];split
     ·exact vH _ _
     ·exact oJ _
theorem Ef{D E S T U:Nat}(h0:D≠0)(h1:E≠0){a:Rat}{q:List Rat}(ha:Bd D S a)(hq:∀b∈q,Bd E T b){i:Nat}{out:List Rat}(ho:∀x∈out,Bd (D*E) U x)(k:Nat):∀x∈iO a q i out k,Bd (D*E) (U+S*T) x:=fun x hx=>by
 obtain⟨j,hj⟩:=zj.1 hx;refine(Mu h0 h1 ha hq ho k j x hj).le ?_;split
 ·exact oJ _
 ·exact vH _ _
theorem vX{D E S T:Nat}(h0:D≠0)(h1:E≠0){p q:List Rat}(hp:∀a∈p,Bd D S a)(hq:∀b∈q,Bd E T b):∀i,∀x∈mulL p q i,Bd (D*E) (i*(S*T)) x
 | 0=>fun x hx=>by
   rw[mulL]at hx;obtain⟨_,rfl⟩:=jg.1 hx;exact Bd.zero
 | i+1=>fun x hx=>by
   rw[mulL]at hx;rw[bf,dy];split at hx
   ·exact(vX h0 h1 hp hq i x hx).le (vH _ _)
   ·exact Ef h0 h1 (kK hp i) hq (vX h0 h1 hp hq i) _ x hx
theorem DC{D E S T B n:Nat}(h0:D≠0)(h1:E≠0)(hX:D*E*((n+1)*((S+1)*(T+1)))<2^B) :
  (∀a,Bd D S a->Fit B a)/\(∀b,Bd E T b->Fit B b)/\(∀c(i:Nat),i<n->Bd (D*E) (i*(S*T)+S*T) c->Fit B c)/\(∀c,Bd (D*E) (S*T) c->Fit B c):=by
 have hD:0<D:=Pc h0;have hE:0<E:=Pc h1;have hDE:0<D*E:=jA hD hE
 have key:∀X,X<=(n+1)*((S+1)*(T+1))->X*(D*E)<2^B:=fun X h=>by
  refine dV ?_ hX;rw[bo];exact dF _ h
 have hST:(S+1)*(T+1)=S*T+S+T+1:=by rw[bf,eY];omega
 have hge:(S+1)*(T+1)<=(n+1)*((S+1)*(T+1)):=AB _ (by omega);have k1:=key 1 (by omega);have kS:=key S (by omega);have kT:=key T (by omega);have kST:=key (S*T) (by omega);have hDle:D<=D*E:=mH _ hE;have hEle:E<=D*E:=AB _ hD;refine⟨fun a ha=>ha.fit h0 (by omega) (dV (dF _ hDle) kS),fun b hb=>hb.fit h1 (by omega) (dV (dF _ hEle) kT),fun c i hi hc=>?_,fun c hc=>hc.fit (by omega) (by omega) kST⟩;refine hc.fit (by omega) (by omega) (key _ ?_);have e:i*(S*T)+S*T=(i+1)*(S*T):=by rw[bf,dy]
 rw[e];exact eD (by omega) (by omega)
end Ord
