/- Part. -/
import Derived.Test.YtacgmapjhpghkaaGreatDoorXa
import Derived.Test.YtacgmapjhpghkaaGreatDoorWf
set_option linter.all false
namespace Go.Sy
open Go Go.Proofs Tryz Ord
def ap7(A:Nat)(ps:List (List Rat)):Prop:=∀p∈ps,p.length<=4/\∀a∈p,Fit A a
theorem ap7.dv{A:Nat}{ps:List (List Rat)}(hA:1<=A)(h:ap7 A ps):ap7 (A+12) (xk ps):=fun p hp=>by
 obtain⟨q,hq,rfl⟩:=dH.1 hp;have:=h q hq;have hl:=zM q;exact⟨by omega,ab4 hA this.2⟩
abbrev Jt:=Rat×List Rat
def jAt(l:List Jt)(i:Nat):Jt:=l.getD i (0,[])
def ce6(l:List Jt):Nat->Nat
 | 0=>0
 | i+1=>ce6 l i+(jAt l i).2.length
structure JOk(A:Nat)(l:List Jt):Prop where
 hA1:1<=A
 hA:A<=10000000
 hl:l.length<=50
 el:∀j∈l,Fit A j.1/\1<=j.2.length/\j.2.length<=6/\∀v∈j.2,Fit A v
 sum:ce6 l l.length<=41
 once:∀i,i<l.length->(l.take i).any (fun k=>decide (k.1=(jAt l i).1))=false
open Go Go.Proofs Go.RowKit Tryz Ord
def LY(p:List Rat):Nat->List Rat
 | 0=>p
 | r+1=>ly (LY p r)
def QR(x v:Rat)(r:Nat)(s:List Rat×List Rat):Rat:=VU (v-tX (LY s.1 r) x) (tX (LY s.2 r) x)
def PM(x v:Rat)(r:Nat)(s:List Rat×List Rat):List Rat×List Rat:=(kH s.1 (wi s.2 (QR x v r s)),fP s.2 [-x,((1:Int):Rat)])
def tn(x:Rat)(vs:List Rat)(s:List Rat×List Rat):Nat->List Rat×List Rat
 | 0=>s
 | r+1=>PM x (vs.getD r 0) r (tn x vs s r)
structure SmS(A:Nat)(s:List Rat×List Rat):Prop where
 l1:s.1.length<=9
 l2:s.2.length<=9
 f1:∀a∈s.1,Fit A a
 f2:∀a∈s.2,Fit A a
attribute [local go_sem] Oper.semAt_some
end Go.Sy
