/- Operations on integers that stay in their range: the result as it is.
-/
import Derived.Test.YtdmcadckdnnglaaGreatDoorSd
import Derived.Laws.BitsLemmas
import Derived.Laws.Bits64
import Derived.Laws.StructEq
import Derived.Laws.Strings
import Derived.Laws.Small
set_option linter.unusedVariables false
set_option linter.unusedSimpArgs false
namespace Go.Sy
section
variable {P:Program} {T U ty:TypeId} {x y:Operand} {a b:Int}
theorem dN {n:Int} (h1:-9223372036854775808≤n) (h2:n<9223372036854775808):IntKind.i64.wrap n=n:=by rw [IntKind.wrap_i64];omega
theorem Cn {n:Int} (h1:0≤n) (h2:n<18446744073709551616):IntKind.u64.wrap n=n:=by rw [IntKind.wrap_u64];omega
theorem JP {n:Int} (h1:0≤n) (h2:n<4294967296):IntKind.u32.wrap n=n:=by rw [IntKind.wrap_u32];omega
theorem aV9 {n:Int} (h1:0≤n) (h2:n<256):IntKind.u8.wrap n=n:=by rw [IntKind.wrap_u8];omega
theorem aE (h1:-9223372036854775808≤a+b) (h2:a+b<9223372036854775808):aX P (.binOp .add T x y U) ty [.one (.int .i64 a), .one (.int .i64 b)] (.one (.int .i64 (a+b))):=dW (dN h1 h2)
theorem aG (h1:-9223372036854775808≤a-b) (h2:a-b<9223372036854775808):aX P (.binOp .sub T x y U) ty [.one (.int .i64 a), .one (.int .i64 b)] (.one (.int .i64 (a-b))):=oP (dN h1 h2)
theorem pV (h1:-9223372036854775808≤a*b) (h2:a*b<9223372036854775808):aX P (.binOp .mul T x y U) ty [.one (.int .i64 a), .one (.int .i64 b)] (.one (.int .i64 (a*b))):=rY (dN h1 h2)
theorem gM (h0:0≤a) (h1:0<b) (h2:a<9223372036854775808):aX P (.binOp .quo T x y U) ty [.one (.int .i64 a), .one (.int .i64 b)] (.one (.int .i64 (a/b))):=pY (by omega) (by
 have h3:a/b≤a:=Int.ediv_le_self b h0;have h4:0≤a/b:=Int.ediv_nonneg h0 (by omega);rw [Int.tdiv_eq_ediv_of_nonneg h0,dN (by omega) (by omega)])
theorem vS {k:IntKind} (hu:∃ d,P.underlying T=some d) (hd:P.underlying U=some (.int .i64)) (h1:-9223372036854775808≤a) (h2:a<9223372036854775808):aX P (.convert T U x) ty [.one (.int k a)] (.one (.int .i64 a)):=iG hu hd (dN h1 h2)
theorem EP (h1:-9223372036854775808 ≤ -a) (h2:-a<9223372036854775808):aX P (.unOp .neg T x) ty [.one (.int .i64 a)] (.one (.int .i64 (-a))):=YN (by rw [Int.zero_sub];exact dN h1 h2)
theorem NP (h1:0≤a+b) (h2:a+b<18446744073709551616):aX P (.binOp .add T x y U) ty [.one (.int .u64 a), .one (.int .u64 b)] (.one (.int .u64 (a+b))):=dW (Cn h1 h2)
theorem Nn (h1:0≤a-b) (h2:a-b<18446744073709551616):aX P (.binOp .sub T x y U) ty [.one (.int .u64 a), .one (.int .u64 b)] (.one (.int .u64 (a-b))):=oP (Cn h1 h2)
theorem OB (h1:0≤a*b) (h2:a*b<18446744073709551616):aX P (.binOp .mul T x y U) ty [.one (.int .u64 a), .one (.int .u64 b)] (.one (.int .u64 (a*b))):=rY (Cn h1 h2)
theorem Fe (h0:0≤a) (h1:0<b) (h2:a<18446744073709551616):aX P (.binOp .quo T x y U) ty [.one (.int .u64 a), .one (.int .u64 b)] (.one (.int .u64 (a/b))):=pY (by omega) (by
 have h3:a/b≤a:=Int.ediv_le_self b h0;have h4:0≤a/b:=Int.ediv_nonneg h0 (by omega);rw [Int.tdiv_eq_ediv_of_nonneg h0,Cn (by omega) (by omega)])
theorem rO {k:IntKind} (hu:∃ d,P.underlying T=some d) (hd:P.underlying U=some (.int .u64)) (h1:0≤a) (h2:a<18446744073709551616):aX P (.convert T U x) ty [.one (.int k a)] (.one (.int .u64 a)):=iG hu hd (Cn h1 h2)
theorem lI (h1:0≤a+b) (h2:a+b<4294967296):aX P (.binOp .add T x y U) ty [.one (.int .u32 a), .one (.int .u32 b)] (.one (.int .u32 (a+b))):=dW (JP h1 h2)
theorem lH (h1:0≤a-b) (h2:a-b<4294967296):aX P (.binOp .sub T x y U) ty [.one (.int .u32 a), .one (.int .u32 b)] (.one (.int .u32 (a-b))):=oP (JP h1 h2)
theorem pZ {k:IntKind} (hu:∃ d,P.underlying T=some d) (hd:P.underlying U=some (.int .u32)) (h1:0≤a) (h2:a<4294967296):aX P (.convert T U x) ty [.one (.int k a)] (.one (.int .u32 a)):=iG hu hd (JP h1 h2)
theorem Jd (h1:0≤a+b) (h2:a+b<256):aX P (.binOp .add T x y U) ty [.one (.int .u8 a), .one (.int .u8 b)] (.one (.int .u8 (a+b))):=dW (aV9 h1 h2)
variable {k:IntKind}
theorem fL (h0:0≤a) (h1:0<b):aX P (.binOp .rem T x y U) ty [.one (.int k a), .one (.int k b)] (.one (.int k (a%b))):=Cw (by omega) (Int.tmod_eq_emod_of_nonneg h0)
theorem bL:aX P (.binOp .eql T x y U) ty [.one (.int k a), .one (.int k b)] (.one (.bool (decide (a=b)))):=TO
theorem gO:aX P (.binOp .neq T x y U) ty [.one (.int k a), .one (.int k b)] (.one (.bool (decide (a≠b)))):=by
 have:decide (a≠b) = !decide (a=b):=by by_cases h:a=b<;>simp [h]
 rw [this];exact Hv
theorem bB:aX P (.binOp .lss T x y U) ty [.one (.int k a), .one (.int k b)] (.one (.bool (decide (a<b)))):=uK
theorem fV:aX P (.binOp .leq T x y U) ty [.one (.int k a), .one (.int k b)] (.one (.bool (decide (a≤b)))):=aU0
theorem dB:aX P (.binOp .gtr T x y U) ty [.one (.int k a), .one (.int k b)] (.one (.bool (decide (b<a)))):=IP
theorem eH:aX P (.binOp .geq T x y U) ty [.one (.int k a), .one (.int k b)] (.one (.bool (decide (b≤a)))):=CB
theorem BF {p:Prop} [Decidable p]:aX P (.unOp .not T x) ty [.one (.bool (decide p))] (.one (.bool (decide (¬ p)))):=by
 have:decide (¬ p) = !decide p:=by by_cases h:p<;>simp [h]
 rw [this];exact gX
theorem bc8 {s t:ByteArray}:(s.toList==t.toList)=decide (s.data=t.data):=by
 rw [ByteArray.toList_eq,ByteArray.toList_eq];by_cases h:s.data=t.data
 ·simp [h]
 ·have:¬ s.data.toList=t.data.toList:=fun e=>h (Array.toList_inj.1 e);simp [h]
theorem ai9 {s t:ByteArray}:aX P (.binOp .eql T x y U) ty [.one (.str s), .one (.str t)] (.one (.bool (decide (s.data=t.data)))):=by
 rw [←bc8];exact Nl
theorem az5 {p q:Bool} (hu:P.underlying T=some .bool):aX P (.binOp .eql T x y U) ty [.one (.bool p), .one (.bool q)] (.one (.bool (decide (p=q)))):=by
 intro M w ρ o ho _ hr;obtain ⟨hx,hy⟩:=rU hr;have hx:ρ x = .bool p∧_:=hx;have hy:ρ y = .bool q∧_:=hy;exact ⟨.bool (decide (p=q)),by cases p<;>cases q<;>simp [execOp,ho,hx.1,hy.1,eqGuard,binOp,Op.equal,Op.maxDepth,run_equalIn_bool _ _ _ _ _ hu],⟨rfl,rfl⟩⟩
theorem ar6 {p q:Bool} (hu:P.underlying T=some .bool):aX P (.binOp .neq T x y U) ty [.one (.bool p), .one (.bool q)] (.one (.bool (decide (p≠q)))):=by
 intro M w ρ o ho _ hr;obtain ⟨hx,hy⟩:=rU hr;have hx:ρ x = .bool p∧_:=hx;have hy:ρ y = .bool q∧_:=hy;exact ⟨.bool (decide (p≠q)),by cases p<;>cases q<;>simp [execOp,ho,hx.1,hy.1,eqGuard,binOp,Op.equal,Op.maxDepth,run_equalIn_bool _ _ _ _ _ hu],⟨rfl,rfl⟩⟩
theorem aW {E sz b m:Nat} {n:Int} {α:Type} {f:α→List aH} {xs:List α} {d:α} (h:cM P T=some (E,sz,b)) (h0:0≤n) (hm:n.toNat=m) (hd:xs[m]? = some d) :
  aX P (.indexAddr T x y) ty [.one (.slice sz (xs.map f)), .one (.int k n)] (.one (.bE (f d))):=Zf h h0 (by rw [hm,List.getElem?_map,hd];rfl)
theorem Si {ts:Array TypeId}:aX P (.call ⟨.builtin .min,#[x,y],ts⟩) ty [.one (.int k a), .one (.int k b)] (.one (.int k (min a b))):=by
 intro M w ρ o ho ht hr;obtain ⟨hx,hy⟩:=rU (x:=x) (y:=y) hr;have hx:ρ x = .int k a∧_:=hx;have hy:ρ y = .int k b∧_:=hy;have e:(if b<a then b else a)=min a b:=by omega
 exact ⟨.int k (min a b),by simp [execOp,ho,resolve,invoke,builtin,hx.1,hy.1,run_min_int2,e],⟨rfl,rfl⟩⟩
theorem PC {ts:Array TypeId}:aX P (.call ⟨.builtin .max,#[x,y],ts⟩) ty [.one (.int k a), .one (.int k b)] (.one (.int k (max a b))):=by
 intro M w ρ o ho ht hr;obtain ⟨hx,hy⟩:=rU (x:=x) (y:=y) hr;have hx:ρ x = .int k a∧_:=hx;have hy:ρ y = .int k b∧_:=hy;have e:(if a<b then b else a)=max a b:=by omega
 exact ⟨.int k (max a b),by simp [execOp,ho,resolve,invoke,builtin,hx.1,hy.1,run_max_int2,e],⟨rfl,rfl⟩⟩
theorem bF {c:aH} (h:jM P T=some (false,1)):aX P (.load T x) ty [.one (.bE [c])] (.one c):=bO (n:=1) h (by decide) (by simp) (.inr rfl)
end
section
variable {P:Program} {post:Out→Prop} {bk:List (List aF→Prop)} {τ:Env} {op:Op} {ty:Nat} {last:Bool} {k:Tr} {α:Type} {f:α→List aH}
theorem cV {cid:Nat} {i:C0} {xs:List α} {ik:IntKind} {n:Int} (h1:τ[cid]? = some (.rows (xs.map f))) (h2:c0 τ i = .int ik n) (h0:0≤n) (hn:n<xs.length) (hk:vc P post k τ bk):vc P post (.need (.idx cid i) op ty last k) τ bk:=
 kX h1 h2 h0 (by rw [List.length_map];exact hn) hk
theorem NH {cid off sz m:Nat} {ag:Bool} {i:C0} {xs:List α} {d:α} {ik:IntKind} {n:Int} {t:aF} (h1:τ[cid]? = some (.rows (xs.map f))) (h2:c0 τ i = .int ik n) (h0:0≤n) (hm:n.toNat=m) (hd:xs[m]? = some d) (hag:ag=true∨sz=1) (ht:Mi ag (((f d).drop off).take sz)=t) (hk:vc P post k (τ ++ [t]) bk):vc P post (.need (.ldrow cid i off sz ag) op ty last k) τ bk:=
 vld h1 h2 h0 (by rw [hm,List.getElem?_map,hd];rfl) hag ht hk
theorem pQ {cid off m:Nat} {i:C0} {xs:List α} {d:α} {c:aH} {ik:IntKind} {n:Int} (h1:τ[cid]? = some (.rows (xs.map f))) (h2:c0 τ i = .int ik n) (h0:0≤n) (hm:n.toNat=m) (hd:xs[m]? = some d) (hc:(f d)[off]? = some c) (hk:vc P post k (τ ++ [.one c]) bk):vc P post (.need (.ldrow cid i off 1 false) op ty last k) τ bk:=by
 refine NH h1 h2 h0 hm hd (.inr rfl) ?_ hk;obtain ⟨hlt,he⟩:=List.getElem?_eq_some_iff.1 hc;rw [List.drop_eq_getElem_cons hlt,he];rfl
theorem lR {cid sz off m:Nat} {i:C0} {cs:List C0} {xs:List α} {d d':α} {ik:IntKind} {n:Int} (h1:τ[cid]? = some (.rows (xs.map f))) (h2:c0 τ i = .int ik n) (h0:0≤n) (hm:n.toNat=m) (hd:xs[m]? = some d)
  (hu:(f d).take off++cs.map (c0 τ)++(f d).drop (off+cs.length)=f d') (hk:vc P post k (τ ++ [.rows ((xs.set m d').map f)]) bk):vc P post (.need (.strow cid sz i off cs) op ty last k) τ bk:=
 Dy h1 h2 h0 (by rw [hm,List.getElem?_map,hd];rfl) (by rw [hm,hu,List.map_set]) hk
theorem CZ {z:List Value} {b:Nat} {l c:C0} {n:Nat} {m:Int} {kl kc:IntKind} (a:α) (h1:c0 τ l = .int kl m) (h2:c0 τ c = .int kc m) (hmn:m=n) (hu:z.map .exact=f a) (hb:b*n≤140737488355328) (hm:n≤maxLen) (hk:vc P post k (τ ++ [.rows ((List.replicate n a).map f)]) bk):vc P post (.need (.make z b l c) op ty last k) τ bk:=
 rK (n:=n) (m:=n) (by rw [←hmn];exact h1) (by rw [←hmn];exact h2) (by rw [hu,List.map_replicate]) (Nat.le_refl _) hb hm hk
theorem jQ {sz b:Nat} {cid:Option Nat} {src:Option C0} {row:Option Nat} {xs:List α} {x:α} (h1:Ti τ cid (xs.map f)) (h2:Ui τ sz src row [f x]) (hb:(xs.length+1)*b≤140737488355328) (hm:xs.length+1≤maxLen) (hk:vc P post k (τ ++ [.rows ((xs ++ [x]).map f)]) bk):vc P post (.need (.app sz b cid src row) op ty last k) τ bk:=
 uE (ts:=xs.map f) (us:=[f x]) h1 h2 (by rw [List.map_append];rfl) (by rw [List.length_map,List.length_append];exact hb) (by rw [List.length_map,List.length_append];exact hm) hk
theorem SY {cid E b2:Nat} {s:SW} {x y:Operand} {T U:Nat} {xs zs ws:List α} (hf:∀ a,(f a).length=1) (h1:τ[cid]? = some (.rows (zs.map f))) (h2:oK τ s = .one (.slice 1 (xs.map f))) (hT:cM P T=some (E,1,b2)) (hle:xs.length≤zs.length) (hne:zs ≠ []) (hw:xs++zs.drop xs.length=ws)
  (hk:vc P post k (τ ++ [.one (.int .i64 xs.length), .rows (ws.map f)]) bk):vc P post (.need (.rop cid E 1 none [] [s] [none]) (.call ⟨.builtin .copy,#[x,y],#[T,U]⟩) ty last k) τ bk:=by
 have hall:∀ l:List α,∀ t∈l.map f,t.length=1:=fun l t ht=>by
  obtain ⟨a,_,rfl⟩:=List.mem_map.1 ht;exact hf a
 refine OD (n:=0) (us:=zs.map f) h1 ⟨rfl,rfl⟩ (by simpa using hne) rfl (by rw [List.map_singleton,h2];exact Sc (sz2:=0) hT (by simpa using hle) (hall xs) (hall zs)) rfl ?_
 have e1:List.take 0 (zs.map f)++(xs.map f++(zs.map f).drop (xs.map f).length)++(zs.map f).drop (0+(zs.map f).length)=ws.map f:=by
  rw [List.take_zero,List.nil_append,Nat.zero_add,List.drop_length,List.append_nil,List.length_map,←List.map_drop,←List.map_append,hw]
 rw [e1,List.length_map];exact hk
end
abbrev W (i j:Nat):SW:=.one (.c (.u i j))
abbrev U (i j:Nat):SC:=.c (.u i j)
abbrev WK (n:Int):SW:=.one (.c (.k (.int .i64 n)))
abbrev I3 (n:Int):Value:=.int .i64 n
abbrev G1 (i:Nat):SW:=.agg [U i 0]
abbrev G2 (i:Nat):SW:=.agg [U i 0,U i 1]
abbrev G3 (i:Nat):SW:=.agg [U i 0,U i 1,U i 2]
abbrev G4 (i:Nat):SW:=.agg [U i 0,U i 1,U i 2,U i 3]
abbrev G5 (i:Nat):SW:=.agg [U i 0,U i 1,U i 2,U i 3,U i 4]
abbrev G6 (i:Nat):SW:=.agg [U i 0,U i 1,U i 2,U i 3,U i 4,U i 5]
abbrev G8 (i:Nat):SW:=.agg [U i 0,U i 1,U i 2,U i 3,U i 4,U i 5,U i 6,U i 7]
abbrev tE (v:Value):SC:=.c (.k v)
abbrev tN:SC:=.c (.k (.slice none 0 0))
abbrev tF (b:Bool):SW:=.one (.c (.k (.bool b)))
abbrev lV (i j:Nat):LV:=.w (W i j)
abbrev lK (z:Int):LV:=.w (WK z)
abbrev lN:LV:=.w (.one tN)
abbrev tT (n:Nat):Operand:=.tmp n
def aU (o:BinOp) (T t:Nat) (z:Int) (i j ty:Nat) (k:Tr):Tr:=.need (.prim [W i j,WK z] none) (.binOp o T (.tmp t) (.const (I3 z)) T) ty false k
def bJ (o:BinOp) (T t u i j m n ty:Nat) (k:Tr):Tr:=.need (.prim [W i j,W m n] none) (.binOp o T (.tmp t) (.tmp u) T) ty false k
def aK (f:Nat) (as:List SW) (sh:List (Option Nat)) (ts tys:List Nat) (ty:Nat) (l:Bool) (k:Tr):Tr:=.need (.call f as sh) (.call ⟨.value (.func f),(ts.map Operand.tmp).toArray,tys.toArray⟩) ty l k
def cB (i j t T:Nat) (k:Tr):Tr:=.need (.prim [W i j] none) (.call ⟨.builtin .len,#[(.tmp t)],#[T]⟩) 3 false k
def eD (i j m n T t u:Nat) (k:Tr):Tr:=.need (.prim [W i j,W m n] none) (.indexAddr T (.tmp t) (.tmp u)) 0 false k
def dI (i j:Nat) (sh:Option Nat) (T t:Nat) (k:Tr):Tr:=.need (.prim [W i j] sh) (.load T (.tmp t)) T false k
end Go.Sy
