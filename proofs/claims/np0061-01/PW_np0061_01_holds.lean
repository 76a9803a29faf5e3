import PyProof.Rows.All
import Wide.All
import OpenK.AllK
import Wide.FinOn
import Lean
import PySem.Challenge.RW_np0061_01
set_option compiler.extract_closed false
set_option genSizeOf false
open PySem PySem.W PySem.Spec PySem.Calls PyProof.Rows PySem.SeqAt
set_option Elab.async false
set_option linter.all false
set_option maxRecDepth 100000
namespace Mine
def wV:=@Nat.le_trans
def wW:=@Nat.le_of_ble_eq_true
def wX:=@Nat.le_of_eq
def wY:=@Nat.le_of_lt
def wZ:=@Nat.lt_of_le_of_lt
def w0:=@Nat.lt_of_lt_of_le
def w6:=@Nat.le_refl
def w7:=@List.getElem?_eq_getElem
def w8:=@Nat.le_of_not_lt
def w9:=@Nat.le_add_right
def xc:=@Nat.add_le_add_right
def xd:=@Nat.zero_le
def xe:=@Nat.add_le_add_left
def xf:=@Heap.lt_size
def xg:=@Option.some.inj
def xh:=@Nat.not_lt_zero
def xi:=@Nat.lt_succ_of_le
def xj:=@Nat.le_add_left
def xk:=@Nat.lt_succ_self
def xl:=@Nat.lt_irrefl
def xm:=@Nat.succ_le_of_lt
def xn:=@Nat.not_le_of_lt
def xq:=@Nat.lt_of_not_le
section
local macro_rules | `(tactic| o_head $_) => `(tactic| contradiction)
set_option maxHeartbeats 8000000 in
set_option Elab.async true in
theorem hdx (F:False):PySem.Challenge.rw_np0061_01.Holds:=by
  refine holds_law F.elim fun said=> ?_
  k_head
end
section
@[elab_as_elim] theorem ah {α:Sort _}{a b:α}{f:α→Prop}(h:a=b)(x:f b):f a:=h▸x
@[elab_as_elim] theorem ch {α:Sort _}{a b:α}{f:α→Prop}(h:b=a)(x:f b):f a:=h▸x
theorem nn {α:Type _}{b:α}{P:Prop}(h:none=some b):P:=nomatch h
theorem sn {α:Type _}{b:α}{P:Prop}(h:some b=none):P:=nomatch h
theorem tf {P:Prop}(h:true=false):P:=nomatch h
theorem ft {P:Prop}(h:false=true):P:=nomatch h
theorem sj {α:Type _}{a b:α}{P:Prop}(K:a=b→P):some a=some b→P:=fun h=>K (xg h)
theorem oY {α β:Type _}{a c:α}{b d:β}{P:Prop}(K:a=c→b=d→P):some (a,b)=some (c,d)→P:=fun h=>K (congrArg Prod.fst (xg h)) (congrArg Prod.snd (xg h))
theorem uA {p:Prop}{q:Prop}{P:Prop}(K:p→q→P):(p∧q)→P:=fun h=>K h.1 h.2
theorem uE {α:Sort _}{p:α→Prop}{P:Prop}(K:∀x:α,p x→P):(∃x:α,p x)→P:=fun h=>h.elim fun x h=>K x h
theorem dc {p:Prop}{q:Prop}{r:Prop}{P:Prop}(K:p→q→r→P):(p∧q∧r)→P:=fun h=>K h.1 h.2.1 h.2.2
theorem tD {p:Prop}{α:Sort _}{q:α→Prop}{P:Prop}(K:p→∀x:α,q x→P):(p∧∃x:α,q x)→P:=fun h=>h.2.elim fun x h0=>K h.1 x h0
theorem aY {α:Sort _}{p:α→Prop}{q:α→Prop}{P:Prop}(K:∀x:α,p x→q x→P):(∃x:α,p x∧q x)→P:=fun h=>h.elim fun x h=>K x h.1 h.2
theorem eu {α:Sort _}{β:α→Sort _}{p:(x:α)→(y:β x)→Prop}{P:Prop}(K:∀x:α,∀y:β x,p x y→P):(∃x:α,∃y:β x,p x y)→P:=fun h=>h.elim fun x h=>h.elim fun y h=>K x y h
theorem dF {p:Prop}{q:Prop}{r:Prop}{s:Prop}{P:Prop}(K:p→q→r→s→P):(p∧q∧r∧s)→P:=fun h=>K h.1 h.2.1 h.2.2.1 h.2.2.2
theorem dR {p:Prop}{α:Sort _}{q:α→Prop}{r:α→Prop}{P:Prop}(K:p→∀x:α,q x→r x→P):(p∧∃x:α,q x∧r x)→P:=fun h=>h.2.elim fun x h0=>K h.1 x h0.1 h0.2
theorem oZ {p:Prop}{α:Sort _}{β:α→Sort _}{q:(x:α)→(y:β x)→Prop}{P:Prop}(K:p→∀x:α,∀y:β x,q x y→P):(p∧∃x:α,∃y:β x,q x y)→P:=fun h=>h.2.elim fun x h0=>h0.elim fun y h1=>K h.1 x y h1
theorem bI {α:Sort _}{p:α→Prop}{q:α→Prop}{r:α→Prop}{P:Prop}(K:∀x:α,p x→q x→r x→P):(∃x:α,p x∧q x∧r x)→P:=fun h=>h.elim fun x h=>K x h.1 h.2.1 h.2.2
theorem fD {α:Sort _}{β:α→Sort _}{p:(x:α)→(y:β x)→Prop}{q:(x:α)→(y:β x)→Prop}{P:Prop}(K:∀x:α,∀y:β x,p x y→q x y→P):(∃x:α,∃y:β x,p x y∧q x y)→P:=fun h=>h.elim fun x h=>h.elim fun y h=>K x y h.1 h.2
theorem gG {α:Sort _}{β:α→Sort _}{γ:(x:α)→(y:β x)→Sort _}{p:(x:α)→(y:β x)→(z:γ x y)→Prop}{P:Prop}(K:∀x:α,∀y:β x,∀z:γ x y,p x y z→P):(∃x:α,∃y:β x,∃z:γ x y,p x y z)→P:=fun h=>h.elim fun x h=>h.elim fun y h=>h.elim fun z h=>K x y z h
theorem cf {p:Prop}{q:Prop}{r:Prop}{s:Prop}{t:Prop}{P:Prop}(K:p→q→r→s→t→P):(p∧q∧r∧s∧t)→P:=fun h=>K h.1 h.2.1 h.2.2.1 h.2.2.2.1 h.2.2.2.2
theorem fC {p:Prop}{q:Prop}{α:Sort _}{β:α→Sort _}{r:(x:α)→(y:β x)→Prop}{P:Prop}(K:p→q→∀x:α,∀y:β x,r x y→P):(p∧q∧∃x:α,∃y:β x,r x y)→P:=fun h=>h.2.2.elim fun x h0=>h0.elim fun y h1=>K h.1 h.2.1 x y h1
theorem cq {p:Prop}{α:Sort _}{q:α→Prop}{r:α→Prop}{s:α→Prop}{P:Prop}(K:p→∀x:α,q x→r x→s x→P):(p∧∃x:α,q x∧r x∧s x)→P:=fun h=>h.2.elim fun x h0=>K h.1 x h0.1 h0.2.1 h0.2.2
theorem kr {p:Prop}{α:Sort _}{β:α→Sort _}{q:(x:α)→(y:β x)→Prop}{r:(x:α)→(y:β x)→Prop}{P:Prop}(K:p→∀x:α,∀y:β x,q x y→r x y→P):(p∧∃x:α,∃y:β x,q x y∧r x y)→P:=fun h=>h.2.elim fun x h0=>h0.elim fun y h1=>K h.1 x y h1.1 h1.2
theorem rt {α:Sort _}{p:α→Prop}{q:α→Prop}{β:α→Sort _}{r:(x:α)→(y:β x)→Prop}{P:Prop}(K:∀x:α,p x→q x→∀y:β x,r x y→P):(∃x:α,p x∧q x∧∃y:β x,r x y)→P:=fun h=>h.elim fun x h0=>h0.2.2.elim fun y h1=>K x h0.1 h0.2.1 y h1
theorem cg {α:Sort _}{β:α→Sort _}{p:(x:α)→(y:β x)→Prop}{q:(x:α)→(y:β x)→Prop}{r:(x:α)→(y:β x)→Prop}{P:Prop}(K:∀x:α,∀y:β x,p x y→q x y→r x y→P):(∃x:α,∃y:β x,p x y∧q x y∧r x y)→P:=fun h=>h.elim fun x h=>h.elim fun y h=>K x y h.1 h.2.1 h.2.2
theorem c6 {α:Sort _}{β:α→Sort _}{γ:(x:α)→(y:β x)→Sort _}{p:(x:α)→(y:β x)→(z:γ x y)→Prop}{q:(x:α)→(y:β x)→(z:γ x y)→Prop}{P:Prop}(K:∀x:α,∀y:β x,∀z:γ x y,p x y z→q x y z→P):(∃x:α,∃y:β x,∃z:γ x y,p x y z∧q x y z)→P:=fun h=>h.elim fun x h=>h.elim fun y h=>h.elim fun z h=>K x y z h.1 h.2
theorem gV {p:Prop}{q:Prop}{r:Prop}{α:Sort _}{s:α→Prop}{t:α→Prop}{P:Prop}(K:p→q→r→∀x:α,s x→t x→P):(p∧q∧r∧∃x:α,s x∧t x)→P:=fun h=>h.2.2.2.elim fun x h0=>K h.1 h.2.1 h.2.2.1 x h0.1 h0.2
theorem et {p:Prop}{α:Sort _}{q:α→Prop}{r:α→Prop}{s:α→Prop}{t:α→Prop}{P:Prop}(K:p→∀x:α,q x→r x→s x→t x→P):(p∧∃x:α,q x∧r x∧s x∧t x)→P:=fun h=>h.2.elim fun x h0=>K h.1 x h0.1 h0.2.1 h0.2.2.1 h0.2.2.2
theorem lj {p:Prop}{α:Sort _}{β:α→Sort _}{q:(x:α)→(y:β x)→Prop}{r:(x:α)→(y:β x)→Prop}{s:(x:α)→(y:β x)→Prop}{P:Prop}(K:p→∀x:α,∀y:β x,q x y→r x y→s x y→P):(p∧∃x:α,∃y:β x,q x y∧r x y∧s x y)→P:=fun h=>h.2.elim fun x h0=>h0.elim fun y h1=>K h.1 x y h1.1 h1.2.1 h1.2.2
theorem bP {α:Sort _}{p:α→Prop}{q:α→Prop}{r:α→Prop}{s:α→Prop}{t:α→Prop}{P:Prop}(K:∀x:α,p x→q x→r x→s x→t x→P):(∃x:α,p x∧q x∧r x∧s x∧t x)→P:=fun h=>h.elim fun x h=>K x h.1 h.2.1 h.2.2.1 h.2.2.2.1 h.2.2.2.2
theorem bk {α:Sort _}{β:α→Sort _}{p:(x:α)→(y:β x)→Prop}{q:(x:α)→(y:β x)→Prop}{r:(x:α)→(y:β x)→Prop}{s:(x:α)→(y:β x)→Prop}{P:Prop}(K:∀x:α,∀y:β x,p x y→q x y→r x y→s x y→P):(∃x:α,∃y:β x,p x y∧q x y∧r x y∧s x y)→P:=fun h=>h.elim fun x h=>h.elim fun y h=>K x y h.1 h.2.1 h.2.2.1 h.2.2.2
theorem bz {α:Sort _}{β:α→Sort _}{γ:(x:α)→(y:β x)→Sort _}{p:(x:α)→(y:β x)→(z:γ x y)→Prop}{q:(x:α)→(y:β x)→(z:γ x y)→Prop}{r:(x:α)→(y:β x)→(z:γ x y)→Prop}{P:Prop}(K:∀x:α,∀y:β x,∀z:γ x y,p x y z→q x y z→r x y z→P):(∃x:α,∃y:β x,∃z:γ x y,p x y z∧q x y z∧r x y z)→P:=fun h=>h.elim fun x h=>h.elim fun y h=>h.elim fun z h=>K x y z h.1 h.2.1 h.2.2
theorem iQ {p:Prop}{q:Prop}{r:Prop}{s:Prop}{t:Prop}{i:Prop}{j:Prop}{P:Prop}(K:p→q→r→s→t→i→j→P):(p∧q∧r∧s∧t∧i∧j)→P:=fun h=>K h.1 h.2.1 h.2.2.1 h.2.2.2.1 h.2.2.2.2.1 h.2.2.2.2.2.1 h.2.2.2.2.2.2
theorem d9 {p:Prop}{q:Prop}{r:Prop}{α:Sort _}{β:α→Sort _}{s:(x:α)→(y:β x)→Prop}{t:(x:α)→(y:β x)→Prop}{P:Prop}(K:p→q→r→∀x:α,∀y:β x,s x y→t x y→P):(p∧q∧r∧∃x:α,∃y:β x,s x y∧t x y)→P:=fun h=>h.2.2.2.elim fun x h0=>h0.elim fun y h1=>K h.1 h.2.1 h.2.2.1 x y h1.1 h1.2
theorem bJ {α:Sort _}{β:α→Sort _}{γ:(x:α)→(y:β x)→Sort _}{p:(x:α)→(y:β x)→(z:γ x y)→Prop}{q:(x:α)→(y:β x)→(z:γ x y)→Prop}{r:(x:α)→(y:β x)→(z:γ x y)→Prop}{s:(x:α)→(y:β x)→(z:γ x y)→Prop}{P:Prop}(K:∀x:α,∀y:β x,∀z:γ x y,p x y z→q x y z→r x y z→s x y z→P):(∃x:α,∃y:β x,∃z:γ x y,p x y z∧q x y z∧r x y z∧s x y z)→P:=fun h=>h.elim fun x h=>h.elim fun y h=>h.elim fun z h=>K x y z h.1 h.2.1 h.2.2.1 h.2.2.2
theorem ll {α:Sort _}{β:α→Sort _}{γ:(x:α)→(y:β x)→Sort _}{δ:(x:α)→(y:β x)→(z:γ x y)→Sort _}{p:(x:α)→(y:β x)→(z:γ x y)→(u:δ x y z)→Prop}{q:(x:α)→(y:β x)→(z:γ x y)→(u:δ x y z)→Prop}{r:(x:α)→(y:β x)→(z:γ x y)→(u:δ x y z)→Prop}{P:Prop}(K:∀x:α,∀y:β x,∀z:γ x y,∀u:δ x y z,p x y z u→q x y z u→r x y z u→P):(∃x:α,∃y:β x,∃z:γ x y,∃u:δ x y z,p x y z u∧q x y z u∧r x y z u)→P:=fun h=>h.elim fun x h=>h.elim fun y h=>h.elim fun z h=>h.elim fun u h=>K x y z u h.1 h.2.1 h.2.2
theorem gW {α:Sort _}{β:α→Sort _}{p:(x:α)→(y:β x)→Prop}{q:(x:α)→(y:β x)→Prop}{γ:(x:α)→(y:β x)→Sort _}{δ:(x:α)→(y:β x)→(z:γ x y)→Sort _}{r:(x:α)→(y:β x)→(z:γ x y)→(u:δ x y z)→Prop}{s:(x:α)→(y:β x)→(z:γ x y)→(u:δ x y z)→Prop}{t:(x:α)→(y:β x)→(z:γ x y)→(u:δ x y z)→Prop}{P:Prop}(K:∀x:α,∀y:β x,p x y→q x y→∀z:γ x y,∀u:δ x y z,r x y z u→s x y z u→t x y z u→P):(∃x:α,∃y:β x,p x y∧q x y∧∃z:γ x y,∃u:δ x y z,r x y z u∧s x y z u∧t x y z u)→P:=fun h=>h.elim fun x h0=>h0.elim fun y h1=>h1.2.2.elim fun z h2=>h2.elim fun u h3=>K x y h1.1 h1.2.1 z u h3.1 h3.2.1 h3.2.2
inductive V where
  | none | bool (b:Bool) | int (i:Int) | str (s:Str) | ref (a:Addr) | tup (vs:List V) | ty (n:String) | bi (n:String)
noncomputable abbrev TM:=Addr→Option (List Value)
mutual
noncomputable def RV (T:TM):V→Value→Prop
  | .none,v=>v= .none
  | .bool b,v=>v= .bool b
  | .int i,v=>∃t,v= .int i t
  | .str s,v=>∃t,v= .str s t
  | .ref a,v=>v= .ref a
  | .tup xs,v=>∃a vs,v= .ref a∧T a=some vs∧bS T xs vs
  | .ty n,v=>v= .type n
  | .bi n,v=>v= .builtin n
noncomputable def bS (T:TM):List V→List Value→Prop
  | [],vs=>vs=[]
  | x::xs,vs=>∃v r,vs=v::r∧RV T x v∧bS T xs r
end
noncomputable def cC (T T':TM):Prop:=∀a vs,T a=some vs→T' a=some vs
theorem cC.refl (T:TM):cC T T:=fun _ _ h=>h
theorem cC.trans {T₁ T₂ T₃:TM}(x:cC T₁ T₂)(y:cC T₂ T₃):cC T₁ T₃:=fun a vs h=>y a vs (x a vs h)
mutual
theorem RV.mono {T T':TM}(h:cC T T'):∀(x:V) {v:Value},RV T x v→RV T' x v
  | .none,_,e=>e
  | .bool _,_,e=>e
  | .int _,_,e=>e
  | .str _,_,e=>e
  | .ref _,_,e=>e
  | .tup xs,_,⟨a,vs,e,ht,hs⟩=>⟨a,vs,e,h _ _ ht,bS.mono h xs hs⟩
  | .ty _,_,e=>e
  | .bi _,_,e=>e
theorem bS.mono {T T':TM}(h:cC T T'):∀(xs:List V) {vs:List Value},bS T xs vs→bS T' xs vs
  | [],_,e=>e
  | x::xs,_,⟨v,r,e,hv,hr⟩=>⟨v,r,e,RV.mono h x hv,bS.mono h xs hr⟩
end
theorem bS.length {T:TM}:∀{xs:List V} {vs:List Value},bS T xs vs→vs.length=xs.length
  | [],_,e=>by refine ah e ?_;rfl
  | _::_,_,⟨_,_,e,_,hr⟩=>by exact ah e (ah List.length_cons (ah List.length_cons (ah (bS.length hr) rfl)))
theorem bS.get {T:TM}:∀{xs:List V} {vs:List Value},bS T xs vs→∀(i:Nat) (x:V),xs[i]?=some x→∃v,vs[i]?=some v∧RV T x v
  | [],_,_,i,x,h=>by simp at h
  | y::ys,_,⟨v,r,e,hv,hr⟩,i,x,h=>by
    subst e
    cases i with
    | zero=>simp at h;subst h;exact⟨v,rfl,hv⟩
    | succ i=>exact bS.get hr i x (by simpa using h)
theorem bS.append {T:TM}:∀{xs:List V} {vs:List Value} {ys ws},bS T xs vs→bS T ys ws→bS T (xs++ys) (vs++ws)
  | [],_,_,_,e,h=>by cases e;exact h
  | _::_,_,_,_,⟨v,r,e,hv,hr⟩,h=>by subst e;exact⟨v,r++_,rfl,hv,bS.append hr h⟩
theorem bS.one {T:TM}{x:V}{v:Value}(h:RV T x v):bS T [x] [v]:=⟨v,[],rfl,h,rfl⟩
theorem bS.take {T:TM}:∀(n:Nat) {xs:List V} {vs:List Value},bS T xs vs→bS T (xs.take n) (vs.take n)
  | 0,_,_,_=>rfl
  | n+1,[],_,e=>by cases e;rfl
  | n+1,_::_,_,⟨v,r,e,hv,hr⟩=>by subst e;exact⟨v,r.take n,rfl,hv,bS.take n hr⟩
theorem bS.drop {T:TM}:∀(n:Nat) {xs:List V} {vs:List Value},bS T xs vs→bS T (xs.drop n) (vs.drop n)
  | 0,_,_,h=>h
  | n+1,[],_,e=>by cases e;rfl
  | n+1,_::_,_,⟨v,r,e,_,hr⟩=>by subst e;exact bS.drop n hr
theorem bS.reverse {T:TM}:∀{xs:List V} {vs:List Value},bS T xs vs→bS T xs.reverse vs.reverse
  | [],_,e=>by cases e;rfl
  | _::_,_,⟨v,r,e,hv,hr⟩=>by
    subst e;refine ah List.reverse_cons (ah List.reverse_cons ?_);exact bS.append (bS.reverse hr) (bS.one hv)
inductive bL where
  | list (xs:List V)
  | clist (xs:List V)
  | sdict (es:List (Str×V))
  | idict (es:List (Int×V))
  | inst (C:Addr) (ats:List (Str×V))
  | stat (C:Addr)
theorem tC {xs ys:List V}{P:Prop}(K:xs=ys→P):some (bL.list xs)=some (bL.list ys)→P:=fun h=>K (bL.list.inj (xg h))
theorem rm {c:Prop}[Decidable c]{α:Sort _}{a b x:α}{P:Prop}(K:c→a=x→P)(L:¬c→b=x→P):(if c then a else b)=x→P:=fun h=>if q:c then K q ((if_pos q).symm.trans h) else L q ((if_neg q).symm.trans h)
theorem yb {a b:Nat}(h:a<b)(c:Nat):c+(b-a)-1=c+(b-(a+1)):=Nat.add_sub_assoc (Nat.sub_pos_of_lt h) c
theorem yc {i j:Nat}(h:i<j):i+(j-i-1)+1=j:=(congrArg (i+ ·) (Nat.sub_add_cancel (Nat.sub_pos_of_lt h))).trans (Nat.add_sub_cancel' (wY h))
theorem yd {a b:Nat}(h:a<b)(h2:¬a+1<b):b-1=a:=Nat.sub_eq_of_eq_add (Nat.le_antisymm (w8 h2) h)
theorem ye {j:Nat}(h:(j+1)%2=0):(j+1)/2=j/2+1∧j/2+1≤j:=have q:=Nat.succ_div_of_mod_eq_zero h;⟨q,Nat.le_of_lt_succ (wZ (wX q.symm) (Nat.div_lt_self (Nat.succ_pos j) (w6 2)))⟩
theorem yf {j:Nat}(h:¬(j+1)%2=0):(j+1)/2=j/2:=Nat.succ_div_of_mod_ne_zero h
theorem yg {j n:Nat}(h:j<n)(h2:(j+1)%2=0):j/2<n∧j/2+1<n:=⟨wZ (Nat.div_le_self _ _) h,wZ (ye h2).2 h⟩
theorem yh {j:Nat}(h:(j+1)%2=0):¬j/2+1=j+1:=fun q=>Nat.not_succ_le_self _ (wV (wX q.symm) (ye h).2)
theorem yi {n i:Nat}(h:i<n)(h2:i+1<n):n-(i+2)<n-i:=Nat.lt_trans (Nat.sub_lt_sub_left h2 (xk (i+1))) (Nat.sub_lt_sub_left h (xk i))
theorem iz {j:Int}{n:Nat}(h:j.toNat<n)(h2:n≤16777216):j<2^63:=Int.lt_trans (Int.lt_of_le_of_lt (Int.self_le_toNat j) (Int.ofNat_lt.mpr (w0 h h2))) (by decide)
theorem ip {n j:Nat}(e:n=j+1): -1+(n:Int)=j:=by refine ah e ?_;rewrite [Int.natCast_succ];rewrite [Int.add_comm];rewrite [Int.add_assoc];exact Int.add_zero _
theorem iq {n:Nat}(h:n≤16777216):(n:Int)<2^63:=Int.lt_of_le_of_lt (Int.ofNat_le.mpr h) (by decide)
theorem wg {n:Nat}{j:Int}(h: -(n:Int)≤j)(h2:n≤16777216): -2^63≤j:=Int.le_trans (Int.neg_le_neg (Int.le_of_lt (iq h2))) h
theorem yk {a n L:Nat}(h:3≤n)(k:a+n<L):a+1+(n-1)<L:=by rewrite [Nat.add_assoc];refine ah (Nat.add_sub_cancel' (Nat.le_of_succ_le (Nat.le_of_succ_le h))) ?_;exact k
theorem yl {a n L:Nat}(h:3≤n)(k:a+8*n<L):a+1+8*(n-1)<L:=by
  refine wZ ?_ k;rw [Nat.add_assoc];refine xe ?_ a;refine wV (xc (show 1≤8*1 by decide) _) ?_;rewrite [←Nat.mul_add];refine ah (Nat.add_sub_cancel' (Nat.le_of_succ_le (Nat.le_of_succ_le h))) ?_;exact w6 _
theorem ad {i a:Nat}(h:i<a):a-(i+1)<a-i:=Nat.sub_lt_sub_left h (xk i)
theorem aa {a i k:Nat}(h:a-i=k+1):a-(i+1)=k:=congrArg Nat.pred h
theorem ab {a i k:Nat}(h:a-i=k+1):i<a:=Nat.lt_of_sub_eq_succ h
theorem ac {a i:Nat}(h:a-i=0)(h2:i≤a):i=a:=Nat.le_antisymm h2 (Nat.le_of_sub_eq_zero h)
theorem ae {i a:Nat}(h:i<a):(a+1)-(i+1)<(a+1)-i:=ad (Nat.lt_succ_of_lt h)
theorem ag {i a b:Nat}(h:i<a)(h2:i<b):i<min a b:=Nat.lt_min.mpr ⟨h,h2⟩
theorem ai {a:Nat}(h:0<a):a-1<a:=Nat.sub_lt h Nat.one_pos
theorem ar {m n k:Nat}(h:m≤n)(q:Nat.ble k m=true):k≤n:=wV (wW q) h
theorem au {m n n' k:Nat}(e:n≤n'+1)(h:m≤n)(q:Nat.ble (k+1) m=true):k≤n':=Nat.le_of_succ_le_succ (wV (wV (wW q) h) e)
theorem aq {m n n' k:Nat}(e:n=n'+1)(h:m≤n)(q:Nat.ble (k+1) m=true):k≤n':=au (wX e) h q
theorem pE {i a b:Nat}(e:a=b)(h:i<a):i<b:=e▸h
theorem og {i a b:Nat}(e:b=a)(h:i<a):i<b:=e▸h
noncomputable abbrev AH:=Addr→Option bL
noncomputable def AH.set (σ:AH)(a:Addr)(o:bL):AH:=fun b=>if b=a then some o else σ b
noncomputable def aH (σ σ':AH):Prop:=∀a o,σ a=some o→σ' a=some o
theorem aH.refl (σ:AH):aH σ σ:=fun _ _ h=>h
theorem aH.trans {σ₁ σ₂ σ₃:AH}(x:aH σ₁ σ₂)(y:aH σ₂ σ₃):aH σ₁ σ₃:=fun a o h=>y a o (x a o h)
theorem aH.set {σ:AH}{a:Addr}{o:bL}(h:σ a=Option.none):aH σ (σ.set a o):=fun b o' e=>by
  unfold AH.set;rw [if_neg];exact e;rintro rfl;rw [h] at e;exact nn e
theorem wq (σ:AH)(a:Addr)(o:bL):(σ.set a o) a=some o:=by exact if_pos rfl
theorem wp {σ:AH}{a b:Addr}{o:bL}(h:b≠a):(σ.set a o) b=σ b:=by exact if_neg h
set_option genInjectivity false in
structure Bs where
  prog:Program
  w:World
  K:Frag
  p:Program
  loose:List Str
  mg:Str→Option Value
  mb:Str→Option Value
  sig:Addr
noncomputable abbrev Bs.M (B:Bs):Model:=model B.prog B.w
structure pz (B:Bs)(h:Heap):Prop where
  k:B.K.In h
  t:TopRead B.p B.loose B.mg B.mb h
  l:h.NoLimit
theorem pz.keeps {B:Bs}{h h':Heap}(x:pz B h)(k:∀b o,h.get? b=some o→h'.get? b=some o):pz B h':=⟨x.k.keeps k,x.t.keeps k,x.l.keeps k⟩
noncomputable def fV (T:TM):List DictEntry→List (Str×V)→Prop
  | [],xs=>xs=[]
  | e::es,xs=>∃x v r,xs=(x,v)::r∧(∃t,e.key= .str x t)∧RV T v e.val∧fV T es r
theorem fV.mono {T T':TM}(h:cC T T'):∀{es xs},fV T es xs→fV T' es xs
  | [],_,e=>e
  | _::_,_,⟨x,v,r,e,hk,hv,hr⟩=>⟨x,v,r,e,hk,RV.mono h v hv,fV.mono h hr⟩
noncomputable def dU {K:Type}(T:TM):List (K×V)→List (K×Value)→Prop
  | [],ks=>ks=[]
  | x::xs,ks=>∃v r,ks=(x.1,v)::r∧RV T x.2 v∧dU T xs r
theorem dU.mono {K:Type}{T T':TM}(h:cC T T'):∀{xs:List (K×V)} {ks},dU T xs ks→dU T' xs ks
  | [],_,e=>e
  | x::_,_,⟨v,r,e,hv,hr⟩=>⟨v,r,e,RV.mono h x.2 hv,dU.mono h hr⟩
set_option genInjectivity false in
structure Fc where
  env:Env
  h₀:Heap
  snap:List (Addr×Obj)
  frs:List Env
  pin:List (Addr×Obj)
  sh:Shared
structure Qt (o:Obj):Prop where
  d:∀es ep,o.data≠ .dict es ep
  c:∀v,o.data≠ .cell v
structure FcOk (B:Bs)(Γ:Fc):Prop where
  stat:pz B Γ.h₀
  kind:Γ.env.scope.kind= .function
  glb:Γ.env.globals=mainGlobals
  blt:Γ.env.builtins=builtinsNs
  frs:∀e∈Γ.frs,e.scope.kind≠ .module∧∃L,e.frame=some L∧(L=Γ.env.locals∨∃o,(L,o)∈Γ.snap)
  snf:∀p∈Γ.snap,∃es ep,p.2.data= .dict es ep
  pnf:∀p∈Γ.pin,Qt p.2
  sn0:∀p∈Γ.snap,Γ.h₀.get? p.1=none
  snL:∀p∈Γ.snap,p.1≠Γ.env.locals
structure mB (B:Bs)(Γ:Fc):Prop extends FcOk B Γ where
  hd:∃outer,Γ.frs=Γ.env::outer
  fr:Γ.env.frame=some Γ.env.locals
noncomputable def dd (B:Bs)(T:TM)(h₀ h:Heap)(own:List Addr)(dof:Addr→Addr)(a:Addr):bL→Prop
  | .list xs=>a∈own∧∃vs,h.PlainList a vs.toArray∧bS T xs vs∧xs.length≤sizeLine
  | .clist xs=>∃vs,h.IsList a vs.toArray∧bS T xs vs∧xs.length≤sizeLine
  | .sdict es=>a∈own∧∃ks,h.DictOf (strKind B.prog B.w) a ks∧dU T es ks∧es.length≤sizeLine∧a≠1
  | .idict es=>a∈own∧∃ks,h.DictOf (intKind B.prog B.w) a ks∧dU T es ks∧es.length≤sizeLine∧a≠1
  | .inst C ats=>a∈own∧dof a∈own∧h.get? a=some (instObj C (dof a))∧∃es n,h.get? (dof a)=some (dictOf es n)∧fV T es ats
  | .stat C=>∃d sl o,B.K.lookup a=some ⟨.ref C,some d, .plain,sl⟩∧B.K.lookup d=some o
noncomputable def bL.isDict:bL→Bool
  | .sdict _ | .idict _=>true
  | _=>false
noncomputable def bL.isInst:bL→Bool
  | .inst .. =>true
  | _=>false
structure SI (B:Bs)(Γ:Fc)(T:TM)(mc kc:Str→Option Value)(σ:AH)(own:List Addr)(dof:Addr→Addr)(h:Heap):Prop where
  ns:h.Ns Γ.env.locals mc
  keep:∀b o,Γ.h₀.get? b=some o→h.get? b=some o
  above:Γ.h₀.objs.size≤Γ.env.locals
  ow:∀a∈own,a≠Γ.env.locals∧Γ.h₀.get? a=none∧True∧∃o,h.get? a=some o∧∀v,o.data≠ .cell v
  sn:∀p∈Γ.snap,(∃sl,h.get? p.1=some {p.2 with slots:=sl})∧p.1∉own
  pn:∀p∈Γ.pin,h.get? p.1=some p.2∧p.1∉own
  pt:∀p∈Γ.pin,T p.1=none
  cl:∀x c,Γ.env.cells.lookup x=some c→h.IsCell c (kc x)
  tp:∀a vs,T a=some vs→h.TupAt a vs
  ob:∀a o,σ a=some o→dd B T Γ.h₀ h own dof a o
  inj:∀a o a' o',σ a=some o→o.isInst=true→σ a'=some o'→o'.isInst=true→dof a=dof a'→a=a'
  dsj:∀a o b o',σ a=some o→o.isInst=true→σ b=some o'→o'.isDict=true→dof a≠b
noncomputable def Sm (s s':Shared):Prop:=s'.gens=s.gens∧s'.drawn=s.drawn∧s'.os=s.os
inductive S (B:Bs)(Γ:Fc)(T:TM)(mc kc:Str→Option Value)(σ:AH)(s:Shared):Prop
  | mk (own:List Addr) (dof:Addr→Addr) (I:SI B Γ T mc kc σ own dof s.heap) (hm:Sm Γ.sh s)
end
section
theorem gU {a b:String}(h:Value.type a=Value.type b)(n:(a==b)=false:=by decide):False:=by
  have:=Value.type.inj h;subst this;simp at n
theorem SI.fr {B:Bs}{Γ:Fc}{T:TM}{mc kc σ own dof h}(I:SI B Γ T mc kc σ own dof h):Fr Γ.h₀ Γ.env.locals h mc:=⟨I.ns,I.keep,I.above⟩
theorem kR {h h':Heap}{a:Addr}{items:Array Value}(x:h.IsList a items)(k:∀b o,h.get? b=some o→h'.get? b=some o):h'.IsList a items:=
  let ⟨o,ho,r⟩:=x;⟨o,k _ _ ho,r⟩
theorem kQ {h h':Heap}{a:Addr}{v:Option Value}(x:h.IsCell a v)(k:∀b o,h.get? b=some o→h'.get? b=some o):h'.IsCell a v:=
  let ⟨o,ho,r⟩:=x;⟨o,k _ _ ho,r⟩
theorem dd.keeps {B:Bs}{T:TM}{h₀ h h':Heap}{own:List Addr}{dof:Addr→Addr}{a:Addr}{o:bL}(k:∀b o,h.get? b=some o→h'.get? b=some o)
    (x:dd B T h₀ h own dof a o):dd B T h₀ h' own dof a o:=by
  cases o with
  | list xs=>refine dR ?_ x;clear x;intro ha vs h1 h2;exact⟨ha,vs,h1.at fun o=>k a o,h2⟩
  | clist xs=>refine aY ?_ x;clear x;intro vs h1 h2;exact⟨vs,kR h1 k,h2⟩
  | sdict es=>refine dR ?_ x;clear x;intro ha ks h1 h2;exact⟨ha,ks,h1.keep k,h2⟩
  | idict es=>refine dR ?_ x;clear x;intro ha ks h1 h2;exact⟨ha,ks,h1.keep k,h2⟩
  | inst C ats=>refine d9 ?_ x;clear x;intro ha hd h1 es n h2 h3;exact⟨ha,hd,k _ _ h1,es,n,k _ _ h2,h3⟩
  | stat C=>exact x
theorem dd.mono {B:Bs}{T T':TM}{h₀ h:Heap}{own own':List Addr}{dof:Addr→Addr}{a:Addr}{o:bL}(hT:cC T T')(ho:∀a∈own,a∈own')
    (x:dd B T h₀ h own dof a o):dd B T' h₀ h own' dof a o:=by
  cases o with
  | list xs=>refine cq ?_ x;clear x;intro ha vs h1 h2 h3;exact⟨ho _ ha,vs,h1,bS.mono hT _ h2,h3⟩
  | clist xs=>refine bI ?_ x;clear x;intro vs h1 h2 h3;exact⟨vs,h1,bS.mono hT _ h2,h3⟩
  | sdict es=>refine cq ?_ x;clear x;intro ha ks h1 h2 h3;exact⟨ho _ ha,ks,h1,dU.mono hT h2,h3⟩
  | idict es=>refine cq ?_ x;clear x;intro ha ks h1 h2 h3;exact⟨ho _ ha,ks,h1,dU.mono hT h2,h3⟩
  | inst C ats=>refine d9 ?_ x;clear x;intro ha hd h1 es n h2 h3;exact⟨ho _ ha,ho _ hd,h1,es,n,h2,fV.mono hT h3⟩
  | stat C=>exact x
theorem SI.keeps {B:Bs}{Γ:Fc}{T:TM}{mc kc σ own dof h h'}(I:SI B Γ T mc kc σ own dof h)(k:∀b o,h.get? b=some o→h'.get? b=some o):SI B Γ T mc kc σ own dof h' where
  ns:=I.ns.keeps k
  keep:=fun b o e=>k b o (I.keep b o e)
  above:=I.above
  ow:=fun a ha=>let ⟨h1,h2,h3,o,h4,h5⟩:=I.ow a ha;⟨h1,h2,h3,o,k _ _ h4,h5⟩
  pt:=I.pt
  sn:=fun p hp=>let ⟨⟨sl,h1⟩,h2⟩:=I.sn p hp;⟨⟨sl,k _ _ h1⟩,h2⟩
  pn:=fun p hp=>⟨k _ _ (I.pn p hp).1,(I.pn p hp).2⟩
  cl:=fun x c e=>kQ (I.cl x c e) k
  tp:=fun a vs e=>(I.tp a vs e).keeps k
  ob:=fun a o e=>(I.ob a o e).keeps k
  inj:=I.inj
  dsj:=I.dsj
theorem SI.weak {B:Bs}{Γ:Fc}{T:TM}{mc kc σ σ' own dof h}(I:SI B Γ T mc kc σ own dof h)(w:aH σ' σ):SI B Γ T mc kc σ' own dof h:=
  { I with ob:=fun a o e=>I.ob a o (w a o e),inj:=fun a o a' o' h1 h2 h3 h4=>I.inj a o a' o' (w _ _ h1) h2 (w _ _ h3) h4,dsj:=fun a o b o' h1 h2 h3 h4=>I.dsj a o b o' (w _ _ h1) h2 (w _ _ h3) h4}
theorem SI.addr {B:Bs}{Γ:Fc}{T:TM}{mc kc σ own dof h}(I:SI B Γ T mc kc σ own dof h){a:Addr}{o:Obj}(h1:a≠Γ.env.locals)(h2:Γ.h₀.get? a=none)(h3:True)(h4:h.get? a=some o)(h5:∀v,o.data≠ .cell v)
    (h6:∀p∈Γ.snap,p.1≠a) (h7:∀p∈Γ.pin,p.1≠a):SI B Γ T mc kc σ (a::own) dof h where
  ns:=I.ns
  keep:=I.keep
  above:=I.above
  ow:=fun b hb=>by
    rcases List.mem_cons.mp hb with rfl | hb
    · exact⟨h1,h2,h3,o,h4,h5⟩
    · exact I.ow b hb
  pt:=I.pt
  sn:=fun p hp=>⟨(I.sn p hp).1,fun hm=>by
    rcases List.mem_cons.mp hm with e | hm
    · exact h6 p hp e
    · exact(I.sn p hp).2 hm⟩
  pn:=fun p hp=>⟨(I.pn p hp).1,fun hm=>by
    rcases List.mem_cons.mp hm with e | hm
    · exact h7 p hp e
    · exact(I.pn p hp).2 hm⟩
  cl:=I.cl
  tp:=I.tp
  ob:=fun b o e=>(I.ob b o e).mono (cC.refl T) fun _ q=> .tail _ q
  inj:=I.inj
  dsj:=I.dsj
theorem wn {σ:AH}{a b:Addr}{o o':bL}{P:Prop}(h:(σ.set a o) b=some o')(h1:b=a→o=o'→P)(h2:b≠a→σ b=some o'→P):P:=by
  by_cases q:b=a
  · exact h1 q (xg ((wq σ a o).symm.trans (q▸h)))
  · exact h2 q ((wp q).symm.trans h)
theorem SI.track {B:Bs}{Γ:Fc}{T:TM}{mc kc σ own dof h}(I:SI B Γ T mc kc σ own dof h){a:Addr}{o:bL}(h1:dd B T Γ.h₀ h own dof a o)(h2:o.isInst=false)
    (h3:∀b o',σ b=some o'→o'.isInst=true→o.isDict=true→dof b≠a):SI B Γ T mc kc (σ.set a o) own dof h where
  ns:=I.ns
  keep:=I.keep
  above:=I.above
  ow:=I.ow
  pt:=I.pt
  sn:=I.sn
  pn:=I.pn
  cl:=I.cl
  tp:=I.tp
  ob:=fun b o' e=>wn e (fun q z=>by rw [q,←z];exact h1) fun _ e=>I.ob b o' e
  inj:=fun b o' b' o'' e1 i1 e2 i2=>wn e1 (fun _ z=>ft (h2.symm.trans ((congrArg bL.isInst z).trans i1))) fun _ e1=>wn e2 (fun _ z=>ft (h2.symm.trans ((congrArg bL.isInst z).trans i2))) fun _ e2=>I.inj b o' b' o'' e1 i1 e2 i2
  dsj:=fun b o' b' o'' e1 i1 e2 i2=>wn e1 (fun _ z=>ft (h2.symm.trans ((congrArg bL.isInst z).trans i1))) fun _ e1=>wn e2 (fun q z w=>h3 b o' e1 i1 ((congrArg bL.isDict z).trans i2) (w.trans q)) fun _ e2=>I.dsj b o' b' o'' e1 i1 e2 i2
theorem SI.trackInst {B:Bs}{Γ:Fc}{T:TM}{mc kc σ own dof h}(I:SI B Γ T mc kc σ own dof h){a d C:Addr}{ats:List (Str×V)}{es:List DictEntry}{n:Nat}(ha:a∈own)(hd:d∈own)
    (h1:h.get? a=some (instObj C d)) (h2:h.get? d=some (dictOf es n)) (h3:fV T es ats) (h4:σ a=none)
    (h5:∀b o',σ b=some o'→o'.isInst=true→dof b≠d) (h6:∀b o',σ b=some o'→o'.isDict=true→d≠b):
    SI B Γ T mc kc (σ.set a (.inst C ats)) own (fun b=>if b=a then d else dof b) h where
  ns:=I.ns
  keep:=I.keep
  above:=I.above
  ow:=I.ow
  pt:=I.pt
  sn:=I.sn
  pn:=I.pn
  cl:=I.cl
  tp:=I.tp
  ob:=fun b o' e=>wn e (fun q z=>by
      rw [q,←z];have w:(fun x=>if x=a then d else dof x) a=d:=if_pos rfl;exact⟨ha,ah w hd,ah w h1,es,n,ah w h2,h3⟩) fun q e=>by
      have h7:=I.ob b o' e
      cases o' with
      | inst C' ats'=>
        have w:(fun x=>if x=a then d else dof x) b=dof b:=if_neg q;exact⟨h7.1,ah w h7.2.1,ah w h7.2.2.1,h7.2.2.2.imp fun _ z=>z.imp fun _ z=>⟨ah w z.1,z.2⟩⟩
      | _=>exact h7
  inj:=fun b o' b' o'' e1 i1 e2 i2 e3=>wn e1
    (fun q1 _=>wn e2 (fun q2 _=>q1.trans q2.symm) fun q2 e2=>absurd ((if_neg q2).symm.trans (e3.symm.trans (if_pos q1))) (h5 b' o'' e2 i2))
    fun q1 e1=>wn e2 (fun q2 _=>absurd ((if_neg q1).symm.trans (e3.trans (if_pos q2))) (h5 b o' e1 i1)) fun q2 e2=>I.inj b o' b' o'' e1 i1 e2 i2 ((if_neg q1).symm.trans (e3.trans (if_neg q2)))
  dsj:=fun b o' b' o'' e1 i1 e2 i2=>wn e2 (fun _ z=>ft ((congrArg bL.isDict z).trans i2)) fun _ e2=>wn e1
    (fun q1 _ w=>h6 b' o'' e2 i2 ((if_pos q1).symm.trans w)) fun q1 e1 w=>I.dsj b o' b' o'' e1 i1 e2 i2 ((if_neg q1).symm.trans w)
theorem oM {h:Heap}{a b:Addr}{vs:Array Value}{o:Obj}(x:h.IsList a vs)(ho:h.get? b=some o)(hc:o.cls≠ .type "list"):a≠b:=by
  rintro rfl;refine bI ?_ x;clear x;intro o' h1 h2 _;rw [h1] at ho;(refine sj ?_ ho;clear ho;intro e1;subst e1);exact hc h2
theorem rl {h h':Heap}{a x:Addr}{vs:Array Value}(p:h.IsList a vs)(hs:Heap.SameBut x h h')(n:a≠x):h'.IsList a vs:=
  let ⟨o,ho,r⟩:=p;⟨o,(hs.2 a n).trans ho,r⟩
theorem dx {h h':Heap}{x c:Addr}{v:Option Value}(hs:Heap.SameBut x h h')(n:c≠x)(k:h.IsCell c v):h'.IsCell c v:=let ⟨o,z⟩:=k;⟨o,(hs.2 c n).trans z.1,z.2⟩
theorem dd.same {B:Bs}{T:TM}{h₀ h h':Heap}{own:List Addr}{dof:Addr→Addr}{a:Addr}{W:Addr→Prop}{oa:bL}(k:∀b o,¬W b→h.get? b=some o→h'.get? b=some o)(nl:∀vs,h.IsList a vs→¬W a)(nd:oa.isDict=true→a∈own→¬W a)
    (ni:oa.isInst=true→a∈own→∀C,h.get? a=some (instObj C (dof a))→¬W a) (n2:oa.isInst=true→dof a∈own→∀es n,h.get? (dof a)=some (dictOf es n)→¬W (dof a))
    (h1:dd B T h₀ h own dof a oa):dd B T h₀ h' own dof a oa:=by
  cases oa with
  | list xs=>exact⟨h1.1,h1.2.imp fun vs z=>⟨z.1.at fun o w=>k a o (nl _ z.1.isList) w,z.2⟩⟩
  | clist xs=>exact h1.imp fun vs z=>⟨z.1.imp fun o w=>⟨k a o (nl _ z.1) w.1,w.2⟩,z.2⟩
  | sdict es=>exact⟨h1.1,h1.2.imp fun ks z=>⟨z.1.imp fun o w=>w.imp fun es w=>w.imp fun ep w=>⟨k a o (nd rfl h1.1) w.1,w.2⟩,z.2⟩⟩
  | idict es=>exact⟨h1.1,h1.2.imp fun ks z=>⟨z.1.imp fun o w=>w.imp fun es w=>w.imp fun ep w=>⟨k a o (nd rfl h1.1) w.1,w.2⟩,z.2⟩⟩
  | inst C ats=>exact⟨h1.1,h1.2.1,k a _ (ni rfl h1.1 _ h1.2.2.1) h1.2.2.1,h1.2.2.2.imp fun es z=>z.imp fun n z=>⟨k _ _ (n2 rfl h1.2.1 _ _ z.1) z.1,z.2⟩⟩
  | stat C=>exact h1
theorem SI.chg {B:Bs}{Γ:Fc}{T:TM}{mc mc' kc kc' σ σ' own dof h h'}(I:SI B Γ T mc kc σ own dof h){W:Addr→Prop}(k:∀b o,¬W b→h.get? b=some o→h'.get? b=some o)(ns:h'.Ns Γ.env.locals mc')(k0:∀b,W b→Γ.h₀.get? b=none)
    (ow:∀a∈own,W a→∃o,h'.get? a=some o∧∀v,o.data≠ .cell v) (sn:∀p∈Γ.snap,¬W p.1) (pn:∀p∈Γ.pin,¬W p.1) (cl:∀y c,Γ.env.cells.lookup y=some c→h'.IsCell c (kc' y)) (tp:∀a vs,T a=some vs→h.TupAt a vs→¬W a)
    (ob:∀a o,σ' a=some o→dd B T Γ.h₀ h' own dof a o) (inj:∀a o a' o',σ' a=some o→o.isInst=true→σ' a'=some o'→o'.isInst=true→dof a=dof a'→a=a')
    (dsj:∀a o b o',σ' a=some o→o.isInst=true→σ' b=some o'→o'.isDict=true→dof a≠b):SI B Γ T mc' kc' σ' own dof h' where
  ns:=ns
  keep:=fun b o e=>k b o (fun q=>nn ((k0 b q).symm.trans e)) (I.keep b o e)
  above:=I.above
  ow:=fun a ha=>⟨(I.ow a ha).1,(I.ow a ha).2.1,trivial,Classical.byCases (p:=W a) (ow a ha) fun q=>(I.ow a ha).2.2.2.imp fun o z=>⟨k a o q z.1,z.2⟩⟩
  pt:=I.pt
  sn:=fun p hp=>⟨(I.sn p hp).1.imp fun sl z=>k _ _ (sn p hp) z,(I.sn p hp).2⟩
  pn:=fun p hp=>⟨k _ _ (pn p hp) (I.pn p hp).1,(I.pn p hp).2⟩
  cl:=cl
  tp:=fun a vs e=>(I.tp a vs e).imp fun ot z=>z.imp fun n z=>⟨k a _ (tp a vs e (I.tp a vs e)) z.1,z.2⟩
  ob:=ob
  inj:=inj
  dsj:=dsj
theorem qx {h h':Heap}{x:Addr}(hs:Heap.SameBut x h h')(b:Addr)(o:Obj)(n:¬b=x)(e:h.get? b=some o):h'.get? b=some o:=(hs.2 b n).trans e
theorem SI.upd {B:Bs}{Γ:Fc}{T:TM}{mc kc σ own dof h h'}(I:SI B Γ T mc kc σ own dof h){x:Addr}{o o':bL}{ox ox':Obj}(hx:σ x=some o)(hi:o.isInst=false)(hi':o'.isInst=false)(hd:o'.isDict=true→o.isDict=true)
    (hown:x∈own) (hs:Heap.SameBut x h h') (hox:h.get? x=some ox) (hcl:ox.cls= .type "list"∨(ox.cls= .type "dict"∧o.isDict=true)) (hk:∀v,ox.data≠ .cell v) (hox':h'.get? x=some ox') (hcell:∀v,ox'.data≠ .cell v)
    (hnew:dd B T Γ.h₀ h' own dof x o'):SI B Γ T mc kc (σ.set x o') own dof h':=
  have xo:=I.ow x hown;have e0:∀{o},h.get? x=some o→ox=o:=fun z=>xg (hox.symm.trans z)
  I.chg (W:=(·=x)) (qx hs) (I.ns.sameBut hs (Ne.symm xo.1)) (fun _ q=>q▸xo.2.1) (fun _ _ q=>⟨ox',q▸hox',hcell⟩) (fun p hp q=>(I.sn p hp).2 (q▸hown)) (fun p hp q=>(I.pn p hp).2 (q▸hown))
    (fun y c e=>dx hs (fun q=>(I.cl y c e).elim fun oc z=>hk _ ((congrArg Obj.data (e0 (q▸z.1))).trans z.2)) (I.cl y c e))
    (fun _ vs _ z q=>z.elim fun ot z=>z.elim fun n z=>hcl.elim (fun c=>gU (c.symm.trans ((congrArg Obj.cls (e0 (q▸z.1))).trans z.2.1))) fun c=>gU (c.1.symm.trans ((congrArg Obj.cls (e0 (q▸z.1))).trans z.2.1)))
    (fun a oa e=>wn e (fun q z=>by rw [q,←z];exact hnew) fun q e=>dd.same (qx hs) (fun _ _=>q) (fun _ _=>q) (fun _ _ _ _=>q)
      (fun i _ es n h4 w=>hcl.elim (fun c=>gU (c.symm.trans (congrArg Obj.cls (e0 (w▸h4))))) fun c=>I.dsj a oa x o e i hx c.2 w) (I.ob a oa e))
    (fun a oa a' oa' e1 i1 e2 i2 e3=>wn e1 (fun _ z=>ft (hi'.symm.trans ((congrArg bL.isInst z).trans i1))) fun _ e1=>wn e2 (fun _ z=>ft (hi'.symm.trans ((congrArg bL.isInst z).trans i2))) fun _ e2=>I.inj a oa a' oa' e1 i1 e2 i2 e3)
    fun a oa b ob e1 i1 e2 i2=>wn e1 (fun _ z=>ft (hi'.symm.trans ((congrArg bL.isInst z).trans i1))) fun _ e1=>wn e2 (fun q z=>q▸I.dsj a oa x o e1 i1 hx (hd ((congrArg bL.isDict z).trans i2))) fun _ e2=>I.dsj a oa b ob e1 i1 e2 i2
theorem SI.updInst {B:Bs}{Γ:Fc}{T:TM}{mc kc σ own dof h h'}(I:SI B Γ T mc kc σ own dof h){x C:Addr}{ats ats':List (Str×V)}{es:List DictEntry}{n:Nat}(hx:σ x=some (.inst C ats))
    (hs:Heap.SameBut (dof x) h h') (hox':h'.get? (dof x)=some (dictOf es n)) (hE:fV T es ats'):SI B Γ T mc kc (σ.set x (.inst C ats')) own dof h':=by
  refine d9 ?_ (I.ob x _ hx);intro hown hdown hox es₀ n₀ hod hE₀;have xo:=I.ow _ hdown;have e0:∀{o},h.get? (dof x)=some o→dictOf es₀ n₀=o:=fun z=>xg (hod.symm.trans z);have f:∀b ob,(σ.set x (.inst C ats')) b=some ob→ob.isInst=true→∃ob',σ b=some ob'∧ob'.isInst=true:=fun b ob e i=>wn e (fun q _=>⟨_,q▸hx,rfl⟩) fun _ e=>⟨ob,e,i⟩;exact I.chg (W:=(·=dof x)) (qx hs) (I.ns.sameBut hs (Ne.symm xo.1)) (fun _ q=>q▸xo.2.1) (fun _ _ q=>⟨dictOf es n,q▸hox',fun _ z=>nomatch z⟩) (fun p hp q=>(I.sn p hp).2 (q▸hdown)) (fun p hp q=>(I.pn p hp).2 (q▸hdown))
    (fun y c e=>dx hs (fun q=>(I.cl y c e).elim fun oc z=>nomatch ((congrArg Obj.data (e0 (q▸z.1))).trans z.2)) (I.cl y c e))
    (fun _ vs _ z q=>z.elim fun ot z=>z.elim fun n z=>gU ((congrArg Obj.cls (e0 (q▸z.1))).trans z.2.1))
    (fun a oa e=>wn e (fun q z=>by rw [q,←z];exact⟨hown,hdown,(hs.2 _ fun q=>nomatch (congrArg Obj.cls (xg (hox.symm.trans ((congrArg h.get? q).trans hod))):Value.ref _=Value.type "dict")).trans hox,es,n,hox',hE⟩) fun q e=>dd.same (qx hs) (fun _ z=>oM z hod (fun z=>gU z)) (fun i _=>Ne.symm (I.dsj x _ a _ hx rfl e i)) (fun _ _ _ z w=>nomatch (congrArg Obj.cls (xg (z.symm.trans ((congrArg h.get? w).trans hod))):Value.ref _=Value.type "dict"))
      (fun i _ _ _ _ z=>q (I.inj a _ x _ e i hx rfl z)) (I.ob a oa e))
    (fun a oa a' oa' e1 i1 e2 i2 e3=>(f a oa e1 i1).elim fun _ f1=>(f a' oa' e2 i2).elim fun _ f2=>I.inj a _ a' _ f1.1 f1.2 f2.1 f2.2 e3)
    fun a oa b ob e1 i1 e2 i2=>(f a oa e1 i1).elim fun _ f=>wn e2 (fun _ z=>ft ((congrArg bL.isDict z).trans i2)) fun _ e2=>I.dsj a _ b ob f.1 f.2 e2 i2
theorem SI.local {B:Bs}{Γ:Fc}{T:TM}{mc mc' kc σ own dof h h'}(G:FcOk B Γ)(I:SI B Γ T mc kc σ own dof h)(hn:h'.Ns Γ.env.locals mc')(hs:Heap.SameBut Γ.env.locals h h'):SI B Γ T mc' kc σ own dof h':=by
  refine bJ ?_ I.ns;intro oL esL epL hoL hdL _ _;have ne:∀a∈own,a≠Γ.env.locals:=fun a ha=>(I.ow a ha).1;have dn:∀{b o},h.get? b=some o→(∀es ep,o.data≠ .dict es ep)→b≠Γ.env.locals:=fun e q z=>q _ _ ((congrArg Obj.data (xg ((z▸e).symm.trans hoL))).trans hdL);exact I.chg (W:=(·=Γ.env.locals)) (qx hs) hn (fun _ q=>q▸Option.eq_none_iff_forall_ne_some.mpr fun o e=>absurd (xf e) (Nat.not_lt_of_le I.above)) (fun a ha q=>absurd q (ne a ha)) (fun p hp=>G.snL p hp) (fun p hp=>dn (I.pn p hp).1 (G.pnf p hp).d)
    (fun y c e=>dx hs ((I.cl y c e).elim fun oc z=>dn z.1 fun es ep w=>nomatch z.2.symm.trans w) (I.cl y c e))
    (fun _ vs _ z=>z.elim fun ot z=>z.elim fun n z=>dn z.1 fun es ep w=>nomatch z.2.2.symm.trans w)
    (fun a oa e=>dd.same (qx hs) (fun _ z=>z.elim fun ob z=>z.2.2.elim fun n d=>dn z.1 fun es ep w=>nomatch d.symm.trans w) (fun _=>ne a) (fun _ ha _ _=>ne a ha) (fun _ hd _ _ _=>ne _ hd) (I.ob a oa e)) I.inj I.dsj
theorem SI.cell {B:Bs}{Γ:Fc}{T:TM}{mc kc σ own dof h h'}(G:FcOk B Γ)(I:SI B Γ T mc kc σ own dof h){c:Addr}{v v₀:Option Value}{kc':Str→Option Value}(hc0:Γ.h₀.get? c=none)(hc:h.IsCell c v₀)(hn:h'.IsCell c v)(hs:Heap.SameBut c h h')
    (hk:∀x d,Γ.env.cells.lookup x=some d→kc' x=if d=c then v else kc x):SI B Γ T mc kc' σ own dof h':=by
  refine aY ?_ hc;clear hc;intro oc hoc hdc;have e0:∀{b o},h.get? b=some o→b=c→o.data= .cell v₀:=fun e q=>(congrArg Obj.data (xg ((q▸e).symm.trans hoc))).trans hdc;have ne:∀a∈own,a≠c:=fun a ha q=>(I.ow a ha).2.2.2.elim fun o z=>z.2 _ (e0 z.1 q);exact I.chg (W:=(·=c)) (qx hs) (I.ns.sameBut hs fun q=>I.ns.elim fun oL z=>z.elim fun es z=>z.elim fun ep z=>nomatch z.2.1.symm.trans (e0 z.1 q)) (fun _ q=>q▸hc0) (fun a ha q=>absurd q (ne a ha))
    (fun p hp q=>(I.sn p hp).1.elim fun sl z=>(G.snf p hp).elim fun es w=>w.elim fun ep w=>have k:=e0 z q;nomatch w.symm.trans k)
    (fun p hp q=>(G.pnf p hp).c _ (e0 (I.pn p hp).1 q))
    (fun y d e=>by
      refine ah (hk y d e) ?_
      by_cases q:d=c
      · exact ah (if_pos q) (q▸hn)
      · exact ah (if_neg q) (dx hs q (I.cl y d e)))
    (fun _ vs _ z q=>z.elim fun ot z=>z.elim fun n z=>nomatch z.2.2.symm.trans (e0 z.1 q))
    (fun a oa e=>dd.same (qx hs) (fun _ z q=>z.elim fun ob z=>z.2.2.elim fun n d=>nomatch d.symm.trans (e0 z.1 q)) (fun _=>ne a) (fun _ ha _ _=>ne a ha) (fun _ hd _ _ _=>ne _ hd) (I.ob a oa e)) I.inj I.dsj
end
section
inductive cB where
  | loc (v:Option V) | cel (v:Option V) | fre (v:V) | glob (v:V)
noncomputable abbrev ax:=List (Str×cB)
noncomputable def lk:ax→Str→Option cB
  | [],_=>none
  | (k,s)::r,x=>if k=x then some s else lk r x
theorem qY (k:Str)(s:cB)(r:ax)(y:Str):lk ((k,s)::r) y=if k=y then some s else lk r y:=rfl
noncomputable def cB.put:cB→V→cB
  | .loc _,v=> .loc (some v)
  | .cel _,v=> .cel (some v)
  | s,_=>s
noncomputable def setL:ax→Str→V→ax
  | [],_,_=>[]
  | (k,s)::r,x,v=>if k=x then(k,s.put v)::r else(k,s)::setL r x v
theorem gT (k:Str)(s:cB)(r:ax)(x:Str)(v:V):setL ((k,s)::r) x v=if k=x then(k,s.put v)::r else(k,s)::setL r x v:=rfl
theorem iJ (x:Str)(v:V):∀(m:ax) (y:Str),lk (setL m x v) y=if y=x then(lk m x).map (·.put v) else lk m y
  | [],_=>(ite_self _).symm
  | (k,s)::r,y=>by
    have ih:=iJ x v r y
    by_cases h:k=x
    · subst h
      by_cases q:y=k
      · subst q;simp [gT,qY]
      · have q':¬k=y:=fun e=>q e.symm;simp [gT,qY,q,q']
    · by_cases q:y=x
      · subst q;simp only [gT,if_neg h,qY,ih,if_true]
      · simp only [gT,if_neg h,qY,ih,if_neg q]
noncomputable def dy (B:Bs)(x:Str)(v:V):Prop:=
  ∃cv,(∀T,RV T v cv)∧(nsIn B.K mainGlobals x=some (some cv)∨(nsIn B.K mainGlobals x=some none∧bootBuiltins x=some cv∧x≠"__name__"))
noncomputable def lA (T:TM)(v:Option V)(cv:Option Value):Prop:=∀x,v=some x→∃c,cv=some c∧RV T x c
theorem lA.mono {T T':TM}(h:cC T T'){v cv}(x:lA T v cv):lA T' v cv:=fun y e=>let ⟨c,h1,h2⟩:=x y e;⟨c,h1,RV.mono h _ h2⟩
noncomputable def gg (B:Bs)(Γ:Fc)(T:TM)(mc kc:Str→Option Value)(x:Str):cB→Prop
  | .loc v=>Γ.env.kindOf x=some .local∧lA T v (mc x)
  | .cel v=>Γ.env.kindOf x=some .cell∧(∃c,Γ.env.cells.lookup x=some c∧Γ.h₀.get? c=none∧∀y,Γ.env.cells.lookup y=some c→y=x)∧lA T v (kc x)
  | .fre v=>(Γ.env.kindOf x=some .cell∨(Γ.env.kindOf x=some .free∧(x==("__classdict__":Str))=false))∧(∃c,Γ.env.cells.lookup x=some c)∧lA T (some v) (kc x)
  | .glob v=>Γ.env.kindOf x=some .globalImplicit∧dy B x v
theorem gg.mono {B:Bs}{Γ:Fc}{T T':TM}{mc kc:Str→Option Value}{x:Str}(h:cC T T'):∀{s:cB},gg B Γ T mc kc x s→gg B Γ T' mc kc x s
  | .loc _,⟨a,b⟩=>⟨a,b.mono h⟩
  | .cel _,⟨a,c,b⟩=>⟨a,c,b.mono h⟩
  | .fre _,⟨a,c,b⟩=>⟨a,c,b.mono h⟩
  | .glob _,e=>e
noncomputable def bT (B:Bs)(Γ:Fc)(T:TM)(mc kc:Str→Option Value)(m:ax):Prop:=∀x sl,lk m x=some sl→(x==("__debug__":Str))=false∧gg B Γ T mc kc x sl
theorem bT.mono {B:Bs}{Γ:Fc}{T T':TM}{mc kc:Str→Option Value}{m:ax}(h:cC T T')(x:bT B Γ T mc kc m):bT B Γ T' mc kc m:=fun n sl e=>⟨(x n sl e).1,(x n sl e).2.mono h⟩
inductive cM where
  | next | brk | cont | ret (v:V)
noncomputable def RF (T:TM):cM→Flow→Prop
  | .next,f=>f= .next
  | .brk,f=>f= .brk
  | .cont,f=>f= .cont
  | .ret v,f=>∃w,f= .ret w∧RV T v w
inductive nW (y:Str)(o:Obj):Prop
  | mk (es:Array DictEntry) (ep:Nat) (t:Tok) (h1:o.data= .dict es ep) (h2:StrKeys es) (h3:UniqKeys es) (h4:nsFind es "symbol"=some (.str y t))
inductive we (Γ:Fc)(own:List Addr)(e:Addr)(h:Heap)(vs:Array Value)(P:Value→Prop):Prop
  | mk (Tb:Addr) (oT:Obj) (ts:Array Value) (fl:Value) (h1:vs[1]?=some (.ref Tb)) (h2:Tb≠e) (h3:h.get? Tb=some oT) (h4:oT.data= .fields ts) (h5:ts[3]?=some fl) (h6:P fl) (h7:Tb∉own) (h8:Γ.h₀.get? Tb=none) (h9:∀p∈Γ.pin,p.1≠Tb)
inductive rD (B:Bs)(Γ:Fc)(own:List Addr)(e:Addr)(y:Str)(h:Heap):Prop
  | mk (oe:Obj) (vs:Array Value) (d:Addr) (es:Obj) (n:Nat) (a0:Value) (h1:h.get? e=some oe) (h2:oe.cls= .ref 38) (h3:oe.dict=some d) (h4:oe.data= .fields vs) (h5:vs[0]?=some a0) (h6:d∈own) (h7:h.get? d=some es) (h8:nW y es)
    (h9:e∉own) (h10:Γ.h₀.get? e=none) (h11:∀p∈Γ.pin,p.1≠e) (h12:vs[1]?=some .none∨we Γ own e h vs fun fl=>fl= .none∨∃L,Γ.env.frame=some L∧fl=rawInt L)
structure ea (n:Nat)(Γ:Fc)(A:Around):Prop where
  frames:A.frames=some Γ.frs
  handled:A.handled=none
  depth:A.depth+n<recursionLimit
  units:A.units+8*n<cLine
inductive PQ (B:Bs)(Γ:Fc)(T:TM)(mc kc:Str→Option Value)(Q:V→AH→Prop)(v:Value)(s':Shared):Prop
  | mk (T':TM) (σ':AH) (x:V) (h1:cC T T') (h2:S B Γ T' mc kc σ' s') (h3:RV T' x v) (h4:Q x σ')
inductive PE (B:Bs)(Γ:Fc)(T:TM)(E:Str→AH→Prop)(ev:Value)(s':Shared):Prop
  | mk (e:Addr) (T':TM) (mc' kc':Str→Option Value) (σ':AH) (y:Str) (own:List Addr) (dof:Addr→Addr) (h1:ev= .ref e) (h2:cC T T') (h3:SI B Γ T' mc' kc' σ' own dof s'.heap) (h4:Sm Γ.sh s') (h5:rD B Γ own e y s'.heap) (h6:E y σ')
inductive PF (B:Bs)(Γ:Fc)(T:TM)(Q:cM→ax→AH→Prop)(f:Flow)(s':Shared):Prop
  | mk (T':TM) (mc' kc':Str→Option Value) (m':ax) (σ':AH) (x:cM) (h1:cC T T') (h2:S B Γ T' mc' kc' σ' s') (h3:bT B Γ T' mc' kc' m') (h4:RF T' x f) (h5:Q x m' σ')
inductive BQ (B:Bs)(Γ:Fc)(T:TM)(mc kc:Str→Option Value)(Q:Bool→AH→Prop)(b:Bool)(s':Shared):Prop
  | mk (T':TM) (σ':AH) (h1:cC T T') (h2:S B Γ T' mc kc σ' s') (h3:Q b σ')
theorem PE.mono {B:Bs}{Γ:Fc}{T T':TM}{E:Str→AH→Prop}(h:cC T T'){v s}:PE B Γ T' E v s→PE B Γ T E v s:=
  fun⟨e,T₁,mc',kc',σ',y,own,dof,h1,h2,h3,h4,h5,h6⟩=>⟨e,T₁,mc',kc',σ',y,own,dof,h1,h.trans h2,h3,h4,h5,h6⟩
theorem PQ.mono {B:Bs}{Γ:Fc}{T T':TM}{mc kc:Str→Option Value}{Q:V→AH→Prop}(h:cC T T'){v s}:PQ B Γ T' mc kc Q v s→PQ B Γ T mc kc Q v s:=
  fun⟨T₁,σ',x,h1,h2,h3,h4⟩=>⟨T₁,σ',x,h.trans h1,h2,h3,h4⟩
theorem PF.mono {B:Bs}{Γ:Fc}{T T':TM}{Q:cM→ax→AH→Prop}(h:cC T T'){v s}:PF B Γ T' Q v s→PF B Γ T Q v s:=
  fun⟨T₁,a,b,c,d,e,h1,h2,h3,h4,h5⟩=>⟨T₁,a,b,c,d,e,h.trans h1,h2,h3,h4,h5⟩
noncomputable def EV (B:Bs)(n:Nat)(m:ax)(e:Expr)(Q:V→AH→Prop)(E:Str→AH→Prop)(σ:AH):Prop:=
  ∀Γ A T mc kc s,FcOk B Γ→ea n Γ A→S B Γ T mc kc σ s→bT B Γ T mc kc m→wpAny B.M A (eval e Γ.env) (PQ B Γ T mc kc Q) (PE B Γ T E) s
noncomputable def TV (B:Bs)(n:Nat)(m:ax)(e:Expr)(Q:Bool→AH→Prop)(E:Str→AH→Prop)(σ:AH):Prop:=
  ∀Γ A T mc kc s,FcOk B Γ→ea n Γ A→S B Γ T mc kc σ s→bT B Γ T mc kc m→
    wpAny B.M A (isTrue e Γ.env (eval e Γ.env)) (BQ B Γ T mc kc Q) (PE B Γ T E) s
noncomputable def P1 (B:Bs)(n:Nat)(t:Value→Sem Value)(x:V)(Q:V→AH→Prop)(E:Str→AH→Prop)(σ:AH):Prop:=
  ∀Γ A T mc kc s v,FcOk B Γ→ea n Γ A→S B Γ T mc kc σ s→RV T x v→wpAny B.M A (t v) (PQ B Γ T mc kc Q) (PE B Γ T E) s
noncomputable def P2 (B:Bs)(n:Nat)(t:Value→Value→Sem Value)(x y:V)(Q:V→AH→Prop)(E:Str→AH→Prop)(σ:AH):Prop:=
  ∀Γ A T mc kc s v w,FcOk B Γ→ea n Γ A→S B Γ T mc kc σ s→RV T x v→RV T y w→wpAny B.M A (t v w) (PQ B Γ T mc kc Q) (PE B Γ T E) s
noncomputable def CV (B:Bs)(n:Nat)(f:V)(xs:List V)(Q:V→AH→Prop)(E:Str→AH→Prop)(σ:AH):Prop:=
  ∀Γ A T mc kc s vf vs,FcOk B Γ→ea n Γ A→S B Γ T mc kc σ s→RV T f vf→bS T xs vs→wpAny B.M A (call vf vs) (PQ B Γ T mc kc Q) (PE B Γ T E) s
noncomputable def SV (B:Bs)(n:Nat)(m:ax)(st:Stmt)(Q:cM→ax→AH→Prop)(E:Str→AH→Prop)(σ:AH):Prop:=
  ∀Γ A T mc kc s,mB B Γ→ea n Γ A→S B Γ T mc kc σ s→bT B Γ T mc kc m→wpAny B.M A (exec st Γ.env) (PF B Γ T Q) (PE B Γ T E) s
noncomputable def bu (B:Bs)(n:Nat)(m:ax)(st:List Stmt)(Q:cM→ax→AH→Prop)(E:Str→AH→Prop)(σ:AH):Prop:=
  ∀Γ A T mc kc s,mB B Γ→ea n Γ A→S B Γ T mc kc σ s→bT B Γ T mc kc m→wpAny B.M A (execs st Γ.env) (PF B Γ T Q) (PE B Γ T E) s
noncomputable def mU:Const→Option V
  | .none=>some .none
  | .bool b=>some (.bool b)
  | .int i=>some (.int i)
  | .str s=>some (.str s)
  | _=>none
section
variable {B:Bs}{n:Nat}{m:ax}{Q:V→AH→Prop}{E:Str→AH→Prop}{σ:AH}
theorem PQ.here {Γ:Fc}{T:TM}{mc kc:Str→Option Value}{s:Shared}{v:Value}{x:V}(HS:S B Γ T mc kc σ s)(hv:RV T x v)(q:Q x σ):PQ B Γ T mc kc Q v s:=⟨T,σ,x,cC.refl T,HS,hv,q⟩
theorem S.toks {Γ:Fc}{T:TM}{mc kc:Str→Option Value}{s:Shared}(HS:S B Γ T mc kc σ s)(t:Nat):S B Γ T mc kc σ {s with toks:=t}:=let ⟨own,dof,I,hm⟩:=HS;⟨own,dof,I,hm⟩
theorem S.keeps {Γ:Fc}{T:TM}{mc kc:Str→Option Value}{s:Shared}(HS:S B Γ T mc kc σ s){h':Heap}(k:∀b o,s.heap.get? b=some o→h'.get? b=some o)(t:Nat):S B Γ T mc kc σ {s with heap:=h',toks:=t}:=
  let ⟨own,dof,I,r⟩:=HS;⟨own,dof,I.keeps k,r⟩
theorem EV.mono {e:Expr}{Q':V→AH→Prop}(h:EV B n m e Q E σ)(k:∀v σ,Q v σ→Q' v σ):EV B n m e Q' E σ:=
  fun Γ A T mc kc s G HA HS HL=>wpAny_mono (h Γ A T mc kc s G HA HS HL) (fun _ _ ⟨T',σ',x,h1,h2,h3,h4⟩=>⟨T',σ',x,h1,h2,h3,k _ _ h4⟩) fun _ _ x=>x
theorem cj {c:Const}{kd:Nat}{pos:Pos}{v:V}(hc:mU c=some v)(q:Q v σ):EV B n m (.Constant c kd pos) Q E σ:=by
  intro Γ A T mc kc s G HA HS HL
  cases c<;>first | ((first | exact nn hc | (refine sj ?_ hc;clear hc;intro e1;subst e1));done) | skip
  · (refine sj ?_ hc;clear hc;intro e1;subst e1);exact wpAny_Constant_none (PQ.here (x:= .none) HS rfl q)
  · (refine sj ?_ hc;clear hc;intro e1;subst e1);exact wpAny_Constant_bool (PQ.here (x:= .bool _) HS rfl q)
  · (refine sj ?_ hc;clear hc;intro e1;subst e1);exact wpAny_Constant_int (PQ.here (x:= .int _) (HS.toks _) ⟨_,rfl⟩ q)
  · (refine sj ?_ hc;clear hc;intro e1;subst e1);exact wpAny_Constant_str (PQ.here (x:= .str _) (HS.toks _) ⟨_,rfl⟩ q)
theorem iD {x:Str}{pos:Pos}{sl:cB}{v:V}(hl:lk m x=some sl)(hs:sl= .loc (some v)∨sl= .cel (some v)∨sl= .fre v∨sl= .glob v)(q:Q v σ):EV B n m (.Name x pos) Q E σ:=by
  intro Γ A T mc kc s G HA HS HL;refine uA ?_ (HL x sl hl);intro hd hx;obtain ⟨own,dof,I,hm⟩:=id HS
  rcases hs with rfl | rfl | rfl | rfl
  · refine uA ?_ hx;clear hx;intro hk ho;refine aY ?_ (ho v rfl);intro c hc hv;exact wpAny_Name (wpAny_loadName_local G.kind hk I.ns hc (PQ.here HS hv q)) hd
  · refine dc ?_ hx;clear hx;intro hk;refine aY ?_;intro c hc _ ho;refine aY ?_ (ho v rfl);intro cv hcv hv;have hcell:=I.cl x c hc;rw [hcv] at hcell;exact wpAny_Name (wpAny_loadName_cell G.kind hk hc hcell (PQ.here HS hv q)) hd
  · refine dc ?_ hx;clear hx;intro hk;refine uE ?_;intro c hc ho;refine aY ?_ (ho v rfl);intro cv hcv hv;have hcell:=I.cl x c hc;rw [hcv] at hcell
    rcases hk with hk | ⟨hk,hn⟩
    · exact wpAny_Name (wpAny_loadName_cell G.kind hk hc hcell (PQ.here HS hv q)) hd
    · exact wpAny_Name (wpAny_loadName_free G.kind hk hc hcell (PQ.here HS hv q) hn) hd
  · refine dR ?_ hx;clear hx;intro hk cv hv hg;have X:=G.stat.k;have T₀:=G.stat.t
    rcases hg with hg | ⟨h1,h2,h3⟩
    · exact Name_function_global G.kind hk (loadGlobal_global (by refine ah G.glb ?_;exact T₀.g.keeps I.keep) (mg_of X T₀.g hg) (PQ.here HS (hv T) q)) hd
    · exact Name_function_global G.kind hk (loadGlobal_builtin (by refine ah G.glb ?_;exact T₀.g.keeps I.keep) (mg_none_of X T₀.g h1) (by refine ah G.blt ?_;exact T₀.b.keeps I.keep) ((T₀.builtins x h3).trans h2) (PQ.here HS (hv T) q)) hd
end
end
section
section
variable {B:Bs}{n:Nat}{m:ax}{Q:V→AH→Prop}{E:Str→AH→Prop}{σ:AH}
theorem P2.go {t:Value→Value→Sem Value}{x y:V}(h:P2 B n t x y Q E σ){Γ:Fc}{A:Around}{T₀ T:TM}{mc kc:Str→Option Value}{s:Shared}{v w:Value}(G:FcOk B Γ)(HA:ea n Γ A)(hT:cC T₀ T)(HS:S B Γ T mc kc σ s)(hx:RV T x v)(hy:RV T y w):
    wpAny B.M A (t v w) (PQ B Γ T₀ mc kc Q) (PE B Γ T₀ E) s:=
  wpAny_mono (h Γ A T mc kc s v w G HA HS hx hy) (fun _ _=>PQ.mono hT) fun _ _=>PE.mono hT
theorem P1.go {t:Value→Sem Value}{x:V}(h:P1 B n t x Q E σ){Γ:Fc}{A:Around}{T₀ T:TM}{mc kc:Str→Option Value}{s:Shared}{v:Value}(G:FcOk B Γ)(HA:ea n Γ A)(hT:cC T₀ T)(HS:S B Γ T mc kc σ s)(hx:RV T x v):
    wpAny B.M A (t v) (PQ B Γ T₀ mc kc Q) (PE B Γ T₀ E) s:=
  wpAny_mono (h Γ A T mc kc s v G HA HS hx) (fun _ _=>PQ.mono hT) fun _ _=>PE.mono hT
theorem EV.two {l r:Expr}{R:V→V→AH→Prop}{Γ:Fc}{A:Around}{T:TM}{mc kc:Str→Option Value}{s:Shared}{P:Value→Value→Shared→Prop}
    (h:EV B n m l (fun a σ₁=>EV B n m r (fun b σ₂=>R a b σ₂) E σ₁) E σ) (G:FcOk B Γ) (HA:ea n Γ A) (HS:S B Γ T mc kc σ s) (HL:bT B Γ T mc kc m)
    (k:∀T' σ' s' a b v w,cC T T'→S B Γ T' mc kc σ' s'→RV T' a v→RV T' b w→R a b σ'→P v w s'):
    wpAny B.M A (eval l Γ.env) (fun v s₁=>wpAny B.M A (eval r Γ.env) (fun w s₂=>P v w s₂) (PE B Γ T E) s₁) (PE B Γ T E) s:=by
  refine wpAny_mono (h Γ A T mc kc s G HA HS HL) ?_ fun _ _ x=>x;rintro v s₁ ⟨T₁,σ₁,a,hT₁,HS₁,hv,h₁⟩;refine wpAny_mono (h₁ Γ A T₁ mc kc s₁ G HA HS₁ (HL.mono hT₁)) ?_ fun _ _=>PE.mono hT₁;rintro w s₂ ⟨T₂,σ₂,b,hT₂,HS₂,hw,h₂⟩;exact k T₂ σ₂ s₂ a b v w (hT₁.trans hT₂) HS₂ (RV.mono hT₂ a hv) hw h₂
theorem dK {l op r pos}(h:EV B n m l (fun a σ₁=>EV B n m r (fun b σ₂=>P2 B n (binaryOp op) a b Q E σ₂) E σ₁) E σ):EV B n m (.BinOp l op r pos) Q E σ:=
  fun Γ A T mc kc s G HA HS HL=>wpAny_BinOp (EV.two h G HA HS HL fun _ _ _ _ _ _ _ hT HS' ha hb h'=>h'.go G HA hT HS' ha hb)
theorem iU {l op r pos}(h:EV B n m l (fun a σ₁=>EV B n m r (fun b σ₂=>P2 B n (compareOp op) a b Q E σ₂) E σ₁) E σ)(hb:behindInMarks op r=false):EV B n m (.Compare l [op] [r] pos) Q E σ:=by
  intro Γ A T mc kc s G HA HS HL
  refine(?_:wpAny B.M A (eval l Γ.env>>=fun lv=>compareChain pos lv [op] (markedEach [op] [r] (evalEach [r] Γ.env))) _ _ s)
  have e:markedEach [op] [r] (evalEach [r] Γ.env)=[eval r Γ.env]:=by refine(?_:[markedBehindIn op r (eval r Γ.env)]=_);exact ah (markedBehindIn_of_false hb) rfl
  refine ah e ?_;refine wpAny_bind (wpAny_mono (EV.two h G HA HS HL (P:=fun v w s₂=>wpAny B.M A (compareOp op v w) (PQ B Γ T mc kc Q) (PE B Γ T E) s₂) fun _ _ _ _ _ _ _ hT HS' ha hb h'=>h'.go G HA hT HS' ha hb) (fun v s₁ h₁=> ?_) fun _ _ x=>x);exact wpAny_bind (wpAny_holding (wpAny_mono h₁ (fun w s₂ h₂=>wpAny_bind (wpAny_standAt (wpAny_operating h₂))) fun _ _ x=>x))
theorem iV {op x pos}(h:EV B n m x (fun a σ₁=>P1 B n (unaryOp op) a Q E σ₁) E σ):EV B n m (.UnaryOp op x pos) Q E σ:=by
  intro Γ A T mc kc s G HA HS HL;refine wpAny_UnaryOp (wpAny_mono (h Γ A T mc kc s G HA HS HL) ?_ fun _ _ x=>x);rintro v s₁ ⟨T₁,σ₁,a,hT₁,HS₁,hv,h₁⟩;exact h₁.go G HA hT₁ HS₁ hv
theorem BQ.mono {Γ:Fc}{T T':TM}{mc kc:Str→Option Value}{Q:Bool→AH→Prop}(h:cC T T'){b s}:BQ B Γ T' mc kc Q b s→BQ B Γ T mc kc Q b s:=fun⟨T₁,σ',h1,h2,h3⟩=>⟨T₁,σ',h.trans h1,h2,h3⟩
theorem gj {e:Expr}{Q:Bool→AH→Prop}(h:EV B n m e (fun v σ₁=>∃b,v= .bool b∧Q b σ₁) E σ)
    (he:∀env whole,isTrue e env whole=(do let v ←whole;standAt e.pos;holding [v] (truthy v))):TV B n m e Q E σ:=by
  intro Γ A T mc kc s G HA HS HL;rw [he];refine wpAny_bind (wpAny_mono (h Γ A T mc kc s G HA HS HL) ?_ fun _ _ x=>x);rintro v s₁ ⟨T₁,σ₁,a,hT₁,HS₁,hv,b,rfl,h₁⟩;have hv':v= .bool b:=hv;subst hv';exact wpAny_bind (wpAny_standAt (wpAny_holding (wpAny_truthy_bool ⟨T₁,σ₁,hT₁,HS₁,h₁⟩)))
theorem cD {l op r pos}{Q:Bool→AH→Prop}(h:EV B n m l (fun a σ₁=>EV B n m r (fun b σ₂=>P2 B n (compareOp op) a b (fun v σ₃=>∃b,v= .bool b∧Q b σ₃) E σ₂) E σ₁) E σ)(hb:behindInMarks op r=false):TV B n m (.Compare l [op] [r] pos) Q E σ:=by
  intro Γ A T mc kc s G HA HS HL
  refine(?_:wpAny B.M A (eval l Γ.env>>=fun lv=>testChain pos lv [op] (markedEach [op] [r] (evalEach [r] Γ.env))) _ _ s)
  have e:markedEach [op] [r] (evalEach [r] Γ.env)=[eval r Γ.env]:=by refine(?_:[markedBehindIn op r (eval r Γ.env)]=_);exact ah (markedBehindIn_of_false hb) rfl
  refine ah e ?_;refine wpAny_bind (wpAny_mono (EV.two h G HA HS HL (P:=fun v w s₂=>wpAny B.M A (compareOp op v w) (PQ B Γ T mc kc (fun v σ₃=>∃b,v= .bool b∧Q b σ₃)) (PE B Γ T E) s₂) fun _ _ _ _ _ _ _ hT HS' ha hb h'=>h'.go G HA hT HS' ha hb) (fun v s₁ h₁=> ?_) fun _ _ x=>x);refine wpAny_bind (wpAny_holding (wpAny_mono h₁ (fun w s₂ h₂=>wpAny_bind (wpAny_standAt (wpAny_bind (wpAny_operating (wpAny_mono h₂ ?_ fun _ _ x=>x))))) fun _ _ x=>x));rintro c s₃ ⟨T₃,σ₃,x,hT₃,HS₃,hx,b,rfl,h₃⟩;have hv':c= .bool b:=hx;subst hv';exact wpAny_holding (wpAny_truthy_bool ⟨T₃,σ₃,hT₃,HS₃,h₃⟩)
theorem gJ {x pos}{Q:Bool→AH→Prop}(h:TV B n m x (fun b σ₁=>Q (!b) σ₁) E σ):TV B n m (.UnaryOp .Not x pos) Q E σ:=
  fun Γ A T mc kc s G HA HS HL=>wpAny_isTrue_Not (wpAny_mono (h Γ A T mc kc s G HA HS HL) (fun _ _ ⟨T',σ',h1,h2,h3⟩=>⟨T',σ',h1,h2,h3⟩) fun _ _ x=>x)
noncomputable def nZ (B:Bs)(n:Nat)(m:ax)(op:BoolOp)(E:Str→AH→Prop):List Expr→(Bool→AH→Prop)→AH→Prop
  | [],Q,σ=>Q (op== .And) σ
  | x::r,Q,σ=>TV B n m x (fun b σ₁=>match op,b with
    | .And,false=>Q false σ₁
    | .Or,true=>Q true σ₁
    | _,_=>nZ B n m op E r Q σ₁) E σ
theorem mI {op:BoolOp}{Γ:Fc}{A:Around}{mc kc:Str→Option Value}(G:FcOk B Γ)(HA:ea n Γ A){Q:Bool→AH→Prop}{T₀:TM}:∀(xs:List Expr) {T:TM} {s:Shared} {σ:AH},cC T₀ T→nZ B n m op E xs Q σ→S B Γ T mc kc σ s→bT B Γ T mc kc m→
    wpAny B.M A (allTrue op xs Γ.env) (BQ B Γ T₀ mc kc Q) (PE B Γ T₀ E) s:=by
  intro xs
  induction xs with
  | nil=>exact fun hT h HS _=>wpAny_pure ⟨_,_,hT,HS,h⟩
  | cons x r ih=>
    intro T s σ hT h HS HL
    have key:∀b s₁,BQ B Γ T mc kc (fun b σ₁=>match op,b with
      | .And,false=>Q false σ₁
      | .Or,true=>Q true σ₁
      | _,_=>nZ B n m op E r Q σ₁) b s₁→wpAny B.M A (match op,b with
        | .And,false=>pure false
        | .Or,true=>pure true
        | _,_=>allTrue op r Γ.env) (BQ B Γ T₀ mc kc Q) (PE B Γ T₀ E) s₁:=by
      rintro b s₁ ⟨T₁,σ₁,hT₁,HS₁,h₁⟩;have rest:nZ B n m op E r Q σ₁→wpAny B.M A (allTrue op r Γ.env) (BQ B Γ T₀ mc kc Q) (PE B Γ T₀ E) s₁:=fun z=>ih (hT.trans hT₁) z HS₁ (HL.mono hT₁)
      cases op<;>cases b
      · exact wpAny_pure ⟨T₁,σ₁,hT.trans hT₁,HS₁,h₁⟩
      · exact rest h₁
      · exact rest h₁
      · exact wpAny_pure ⟨T₁,σ₁,hT.trans hT₁,HS₁,h₁⟩
    exact wpAny_bind (wpAny_mono (h Γ A T mc kc s G HA HS HL) key fun _ _=>PE.mono hT)
theorem bR {op xs pos}{Q:Bool→AH→Prop}(h:nZ B n m op E xs Q σ):TV B n m (.BoolOp op xs pos) Q E σ:=
  fun Γ A T mc kc s G HA HS HL=>wpAny_isTrue_BoolOp (mI G HA xs (cC.refl T) h HS HL)
theorem aV {t b o pos}(h:TV B n m t (fun c σ₁=>if c then EV B n m b Q E σ₁ else EV B n m o Q E σ₁) E σ):EV B n m (.IfExp t b o pos) Q E σ:=by
  intro Γ A T mc kc s G HA HS HL;rw [arm_eval_IfExp];refine wpAny_bind (wpAny_mono (h Γ A T mc kc s G HA HS HL) ?_ fun _ _ x=>x);rintro c s₁ ⟨T₁,σ₁,hT₁,HS₁,h₁⟩
  cases c
  · exact wpAny_mono (h₁ Γ A T₁ mc kc s₁ G HA HS₁ (HL.mono hT₁)) (fun _ _=>PQ.mono hT₁) fun _ _=>PE.mono hT₁
  · exact wpAny_mono (h₁ Γ A T₁ mc kc s₁ G HA HS₁ (HL.mono hT₁)) (fun _ _=>PQ.mono hT₁) fun _ _=>PE.mono hT₁
noncomputable def pD (B:Bs)(n:Nat)(m:ax)(op:BoolOp)(E:Str→AH→Prop):List Expr→(V→AH→Prop)→AH→Prop
  | [],_,_=>False
  | [x],Q,σ=>EV B n m x Q E σ
  | x::r,Q,σ=>EV B n m x (fun v σ₁=>match op,v with
    | .And, .bool false=>Q v σ₁
    | .Or, .bool true=>Q v σ₁
    | _, .bool _=>pD B n m op E r Q σ₁
    | _,_=>False) E σ
theorem om {op:BoolOp}{pos:Pos}{Γ:Fc}{A:Around}{mc kc:Str→Option Value}(G:FcOk B Γ)(HA:ea n Γ A){T₀:TM}:∀(xs:List Expr) {T:TM} {s:Shared} {σ:AH},cC T₀ T→pD B n m op E xs Q σ→S B Γ T mc kc σ s→bT B Γ T mc kc m→
    wpAny B.M A (boolOp pos op (evalEach xs Γ.env)) (PQ B Γ T₀ mc kc Q) (PE B Γ T₀ E) s:=by
  intro xs
  induction xs with
  | nil=>exact fun _ h=>h.elim
  | cons x r ih=>
   intro T s σ hT h HS HL
   cases r with
   | nil=>exact wpAny_mono (h Γ A T mc kc s G HA HS HL) (fun _ _=>PQ.mono hT) fun _ _=>PE.mono hT
   | cons y r=>
    show wpAny B.M A (eval x Γ.env>>=fun v=>standAt pos>>=fun _=>holding [v] (truthy v)>>=fun t=>match op,t with
      | .And,false | .Or,true=>pure v
      | _,_=>boolOp pos op (evalEach (y::r) Γ.env)) _ _ s
    refine wpAny_bind (wpAny_mono (h Γ A T mc kc s G HA HS HL) ?_ fun _ _=>PE.mono hT);rintro v s₁ ⟨T₁,σ₁,a,hT₁,HS₁,hv,h₁⟩;have rest:pD B n m op E (y::r) Q σ₁→wpAny B.M A (boolOp pos op (evalEach (y::r) Γ.env)) (PQ B Γ T₀ mc kc Q) (PE B Γ T₀ E) s₁:=fun z=>ih (hT.trans hT₁) z HS₁ (HL.mono hT₁)
    cases a with
    | bool b=>
      have hv':v= .bool b:=hv;subst hv';refine wpAny_bind (wpAny_standAt (wpAny_bind (wpAny_holding (wpAny_truthy_bool ?_))))
      cases op<;>cases b
      · exact wpAny_pure ⟨T₁,σ₁, .bool false,hT.trans hT₁,HS₁,hv,h₁⟩
      · exact rest h₁
      · exact rest h₁
      · exact wpAny_pure ⟨T₁,σ₁, .bool true,hT.trans hT₁,HS₁,hv,h₁⟩
    | _=>cases op<;>exact h₁.elim
theorem dG {op xs pos}(h:pD B n m op E xs Q σ):EV B n m (.BoolOp op xs pos) Q E σ:=
  fun _ _ T _ _ _ G HA HS HL=>om G HA xs (cC.refl T) h HS HL
noncomputable def iE (B:Bs)(n:Nat)(m:ax)(E:Str→AH→Prop):List Expr→(List V→AH→Prop)→AH→Prop
  | [],Q,σ=>Q [] σ
  | x::r,Q,σ=>EV B n m x (fun v σ₁=>iE B n m E r (fun vs σ₂=>Q (v::vs) σ₂) σ₁) E σ
noncomputable def bo:List Expr→Bool
  | []=>true
  | .Starred .. ::_=>false
  | _::r=>bo r
theorem dj {e:Expr}{r:List Expr}{env:Env}(h:bo (e::r)=true):starEach (e::r) env=(false,eval e env)::starEach r env∧bo r=true:=by
  cases e<;>first | (exact ft h;done) | exact⟨rfl,h⟩
theorem dQ {pos:Pos}{Γ:Fc}{A:Around}{mc kc:Str→Option Value}(G:FcOk B Γ)(HA:ea n Γ A){T₀:TM}{P:List Value→Shared→Prop}:∀(xs:List Expr) {R:List V→AH→Prop} {pre:List V} {pv:List Value} {T:TM} {s:Shared} {σ:AH},bo xs=true→cC T₀ T→iE B n m E xs R σ→S B Γ T mc kc σ s→bT B Γ T mc kc m→
    bS T pre pv→(∀T' σ' s' vs ws,cC T₀ T'→S B Γ T' mc kc σ' s'→bS T' (pre++vs) (pv++ws)→R vs σ'→P ws s')→
    wpAny B.M A (spliced (backTo pos (starEach xs Γ.env))) P (PE B Γ T₀ E) s
  | [],R,pre,pv,T,s,σ,_,hT,h,HS,_,hp,k=>wpAny_items_nil (k T σ s [] [] hT HS (by simpa using hp) h)
  | x::r,R,pre,pv,T,s,σ,hn,hT,h,HS,HL,hp,k=>by
    refine uA ?_ (dj (env:=Γ.env) hn);intro he hn';refine ah he ?_;refine wpAny_bind (wpAny_mono (h Γ A T mc kc s G HA HS HL) ?_ fun _ _=>PE.mono hT);rintro v s₁ ⟨T₁,σ₁,a,hT₁,HS₁,hv,h₁⟩;refine wpAny_bind (wpAny_pure (wpAny_bind (wpAny_holding ?_)));refine dQ G HA (pre:=pre++[a]) (pv:=pv++[v]) r hn' (hT.trans hT₁) h₁ HS₁ (HL.mono hT₁) (bS.append (bS.mono hT₁ _ hp) (bS.one hv)) fun T' σ' s' vs ws hT' HS' hr hq=> ?_;exact wpAny_pure (k T' σ' s' (a::vs) (v::ws) hT' HS' (by simpa using hr) hq)
end
end
section
section
variable {T:TM}{v:Value}{P:Value→Prop}
@[elab_as_elim] theorem eN (h:RV T .none v)(k:P .none):P v:=ah (f:=P) h k
@[elab_as_elim] theorem eB {b:Bool}(h:RV T (.bool b) v)(k:P (.bool b)):P v:=ah (f:=P) h k
@[elab_as_elim] theorem eR {a:Addr}(h:RV T (.ref a) v)(k:P (.ref a)):P v:=ah (f:=P) h k
@[elab_as_elim] theorem eY {n:String}(h:RV T (.ty n) v)(k:P (.type n)):P v:=ah (f:=P) h k
@[elab_as_elim] theorem eF {n:String}(h:RV T (.bi n) v)(k:P (.builtin n)):P v:=ah (f:=P) h k
@[elab_as_elim] theorem eI {i:Int}(h:RV T (.int i) v)(k:∀t,P (.int i t)):P v:=Exists.elim h fun t h=>ah (f:=P) h (k t)
@[elab_as_elim] theorem eS {i:Str}(h:RV T (.str i) v)(k:∀t,P (.str i t)):P v:=Exists.elim h fun t h=>ah (f:=P) h (k t)
@[elab_as_elim] theorem eT {xs:List V}(h:RV T (.tup xs) v)(k:∀a vs,T a=some vs→bS T xs vs→P (.ref a)):P v:=
  Exists.elim h fun a h=>Exists.elim h fun vs h=>ah (f:=P) h.1 (k a vs h.2.1 h.2.2)
variable {vs:List Value}{R:List Value→Prop}
@[elab_as_elim] theorem eZ (h:bS T [] vs)(k:R []):R vs:=ah (f:=R) h k
@[elab_as_elim] theorem eC {x:V}{xs:List V}(h:bS T (x::xs) vs)(k:∀v r,RV T x v→bS T xs r→R (v::r)):R vs:=
  Exists.elim h fun v h=>Exists.elim h fun r h=>ah (f:=R) h.1 (k v r h.2.1 h.2.2)
end
inductive qB:V→V→Bool→Prop
  | b (x y:Bool):qB (.bool x) (.bool y) (x==y)
  | i (x y:Int):qB (.int x) (.int y) (x==y)
  | s (x y:Str):qB (.str x) (.str y) (x==y)
inductive qt:List V→List V→Bool→Prop
  | n:qt [] [] true
  | l {y:V} {ys:List V}:qt [] (y::ys) false
  | r {x:V} {xs:List V}:qt (x::xs) [] false
  | c {x y:V} {xs ys:List V} {a b:Bool} (h:qB x y a) (h2:qt xs ys b):qt (x::xs) (y::ys) (a&&b)
inductive mw (σ:AH):V→V→Bool→Prop
  | t {xs ys:List V} {b:Bool} (h:qt xs ys b):mw σ (.tup xs) (.tup ys) b
  | l {a c:Addr} {xs ys:List V} {b:Bool} (h1:σ a=some (.list xs)) (h2:σ c=some (.list ys)) (h:qt xs ys b):mw σ (.ref a) (.ref c) b
  | a {x y:V} {b:Bool} (h:qB x y b):mw σ x y b
theorem qB.eq {x y:V}{b:Bool}(h:qB x y b){T:TM}{A:Around}{s:Shared}{v w:Value}:RV T x v→RV T y w→EqAt A s v w b:=
  qB.casesOn h (fun _ _ hv hw=>eB hv (eB hw (EqAt.bool_bool _ _))) (fun _ _ hv hw=>eI hv fun _=>eI hw fun _=>EqAt.int_int _ _ _ _) fun _ _ hv hw=>eS hv fun _=>eS hw fun _=>EqAt.str_str _ _ _ _
theorem qt.all {A:Around}{s:Shared}{T:TM}{xs ys:List V}{b:Bool}(h:qt xs ys b):∀{vs ws:List Value},bS T xs vs→bS T ys ws→
    ∃f:Nat→Bool,(∀j (h1:j<vs.length) (h2:j<ws.length),EqAt A s vs[j] ws[j] (f j))∧((List.range (min vs.length ws.length)).all f&&vs.length==ws.length)=b:=by
  induction h with
  | n=>exact fun hv hw=>eZ hv (eZ hw ⟨fun _=>true,fun _ h=>absurd h (xh _),rfl⟩)
  | l=>exact fun hv hw=>eZ hv (eC hw fun _ _ _ _=>⟨fun _=>true,fun _ h=>absurd h (xh _),Bool.and_false _⟩)
  | r=>exact fun hv hw=>eZ hw (eC hv fun _ _ _ _=>⟨fun _=>true,fun _ _ h=>absurd h (xh _),Bool.and_false _⟩)
  | @c x y xs ys a b h h2 ih=>
    refine fun hv hw=>eC hv fun v r hv1 hr=>eC hw fun w r' hw1 hr'=>aY ?_ (ih hr hr');intro f h3 h4;refine⟨fun j=>Nat.casesOn j a f,fun j=>Nat.casesOn j (fun _ _=>h.eq hv1 hw1) fun j h1 h2=>h3 j (Nat.lt_of_succ_lt_succ h1) (Nat.lt_of_succ_lt_succ h2), ?_⟩
    refine ah List.length_cons (ah List.length_cons ?_);rewrite [Nat.add_min_add_right];refine ah List.range_succ_eq_map (ah List.all_cons (ah List.all_map (ch h4 ?_)));rewrite [Bool.and_assoc];exact congrArg (a&& ·) (congrArg (((List.range _).all f)&& ·) (Bool.eq_iff_iff.mpr (by rw [beq_iff_eq,beq_iff_eq];exact Nat.succ_inj)))
theorem er {T:TM}{h:Heap}(ht:∀a vs,T a=some vs→h.TupAt a vs){a:Addr}{vs:List Value}(e:T a=some vs):h.IsTuple a vs.toArray:=
  let ⟨o,n,h1,h2,h3⟩:=ht a vs e;⟨o,h1,h2,n,h3⟩
theorem SI.tups {B:Bs}{Γ:Fc}{T:TM}{mc kc σ own dof h}(I:SI B Γ T mc kc σ own dof h):∀a vs,T a=some vs→h.TupAt a vs:=fun a vs e=>I.tp a vs e
theorem SI.list {B:Bs}{Γ:Fc}{T:TM}{mc kc σ own dof h}(I:SI B Γ T mc kc σ own dof h){a:Addr}{xs:List V}(h1:σ a=some (.list xs)∨σ a=some (.clist xs)):∃vs,h.IsList a vs.toArray∧bS T xs vs∧xs.length≤sizeLine:=by
  rcases h1 with h1 | h1
  · refine dR ?_ (I.ob a _ h1);intro _ vs h2 h3;exact⟨vs,h2.isList,h3⟩
  · refine aY ?_ (I.ob a _ h1);intro vs h2 h3;exact⟨vs,h2,h3⟩
theorem SI.stands {B:Bs}{Γ:Fc}{T:TM}{mc kc σ own dof h}(G:FcOk B Γ)(I:SI B Γ T mc kc σ own dof h){a:Addr}{o:bL}(h1:σ a=some o):∃ob,h.get? a=some ob∧ob.cls≠ .type "tuple":=by
  cases o with
  | list xs=>refine dR ?_ (I.ob a _ h1);intro _ vs;refine uE ?_;intro k h2 _;exact⟨_,h2,fun z=>gU z⟩
  | clist xs=>refine aY ?_ (I.ob a _ h1);intro vs;refine bI ?_;intro ob h2 h3 _ _;exact⟨ob,h2,by refine ah h3 ?_;exact fun z=>gU z⟩
  | sdict es=>refine dR ?_ (I.ob a _ h1);intro _ ks;refine bz ?_;intro ob _ _ h2 h3 _ _;exact⟨ob,h2,by refine ah h3.1 ?_;exact fun z=>gU z⟩
  | idict es=>refine dR ?_ (I.ob a _ h1);intro _ ks;refine bz ?_;intro ob _ _ h2 h3 _ _;exact⟨ob,h2,by refine ah h3.1 ?_;exact fun z=>gU z⟩
  | inst C ats=>refine dF ?_ (I.ob a _ h1);intro _ _ h2 _;exact⟨_,h2,by intro z;cases z⟩
  | stat C=>refine c6 ?_ (I.ob a _ h1);intro d sl o h2 h3;exact⟨_,I.keep _ _ (G.stat.k _ _ h2),by intro z;cases z⟩
section
variable {B:Bs}{n:Nat}{Q:V→AH→Prop}{E:Str→AH→Prop}{σ:AH}
theorem mw.rc {Γ:Fc}{A:Around}{T:TM}{mc kc:Str→Option Value}{own dof}{s:Shared}(I:SI B Γ T mc kc σ own dof s.heap)(hu:A.units<cLine){x y:V}{b:Bool}{v w:Value}(h:mw σ x y b)(hv:RV T x v)(hw:RV T y w):RcAt A s v w b∧RcNeAt A s v w (!b):=by
  induction h with
  | a h=>exact qB.casesOn (motive:=fun x y b _=>RV T x v→RV T y w→RcAt A s v w b∧RcNeAt A s v w (!b)) h (fun _ _ hv hw=>eB hv (eB hw ⟨RcAt.bool_bool _ _,RcNeAt.bool_bool _ _⟩)) (fun _ _ hv hw=>eI hv fun _=>eI hw fun _=>⟨RcAt.int_int _ _ _ _,RcNeAt.int_int _ _ _ _⟩) (fun _ _ hv hw=>eS hv fun _=>eS hw fun _=>⟨RcAt.str_str _ _ _ _,RcNeAt.str_str _ _ _ _⟩) hv hw
  | t h=>
    refine eT hv fun a vs h1 h2=>eT hw fun a' ws h3 h4=>aY ?_ (h.all (A:=A.in1) (s:=s) h2 h4);intro f h5 h6;exact h6▸⟨RcAt.tuples (er I.tups h1) (er I.tups h3) hu h5,RcNeAt.tuples (er I.tups h1) (er I.tups h3) hu h5⟩
  | l h1 h2 h=>
    refine bI ?_ (I.list (.inl h1));intro vs l1 r1 _;refine bI ?_ (I.list (.inl h2));intro ws l2 r2 _;refine eR hv (eR hw (aY ?_ (h.all (A:=A.in1) (s:=s) r1 r2)));intro f h5 h6
    by_cases q:vs.length=ws.length
    · rw [←q,Nat.min_self,beq_self_eq_true,Bool.and_true] at h6;exact h6▸⟨RcAt.lists l1 l2 q hu h5,RcNeAt.lists l1 l2 q hu h5⟩
    · have q2:(vs.length==ws.length)=false:=beq_false_of_ne q;rw [q2,Bool.and_false] at h6;have q3:(vs.toArray.size !=ws.toArray.size)=true:=congrArg (!·) q2;exact h6▸⟨RcAt.lists_lengths l1 l2 q3 hu,RcNeAt.lists_lengths l1 l2 q3 hu⟩
inductive lm:Operator→Int→Int→Int→Prop
  | add {a b:Int}:lm .Add a b (a+b)
  | sub {a b:Int}:lm .Sub a b (a-b)
  | mod {a b:Int} (h:0<b):lm .Mod a b (a%b)
  | mul {a b:Int} (h1:0≤a) (h2:a<2^62) (h3:0≤b) (h4:b<2^62):lm .Mult a b (a*b)
  | div {a b:Int} (h1:0<b) (h2:b<2^62):lm .FloorDiv a b (a/b)
theorem mf {a b:Int}(hb:b.natAbs<2^63):Builtin.divisionGoesByPylong a b=false:=by
  unfold Builtin.divisionGoesByPylong;dsimp only;have h1:(if (b==0)=true then 0 else b.natAbs.log2/30+1)≤300:=by
    split
    · exact xd _
    · rename_i h
      have hb0:b.natAbs≠0:=fun z=>h (beq_iff_eq.mpr (Int.natAbs_eq_zero.mp z));have:b.natAbs.log2<63:=(Nat.log2_lt hb0).mpr hb;exact wV (Nat.succ_le_succ (Nat.div_le_self _ _)) (wV this (by decide))
  refine ah (show (decide ((if (b==0)=true then 0 else b.natAbs.log2/30+1)>300))=false from decide_eq_false (Nat.not_lt.mpr h1)) ?_;rfl
theorem gf {op:Operator}{a b c:Int}(h:lm op a b c)(q:Q (.int c) σ):P2 B n (binaryOp op) (.int a) (.int b) Q E σ:=by
  refine fun Γ A T mc kc s v w G HA HS hv hw=>eI hv fun t=>eI hw fun u=> ?_
  have p:∀k u,PQ B Γ T mc kc Q (.int c u) {s with toks:=k}:=fun k _=>PQ.here (HS.toks k) (x:= .int _) ⟨_,rfl⟩ q
  induction h with
  | add=>exact PyProof.Rows.add_int (p _ _)
  | sub=>exact PyProof.Rows.sub_int (p _ _)
  | mod h=>exact mod_int' (Ne.symm (Int.ne_of_lt h)) (by refine ah (Int.fmod_eq_emod_of_nonneg _ (Int.le_of_lt h)) ?_;exact p _ _)
  | mul h1 h2 h3 h4=>exact PyProof.Rows.mul_int (p _ _) (.of_left (intBits_le_64 (Int.lt_of_lt_of_le ((by decide)) h1) (Int.lt_of_lt_of_le h2 ((by decide)))))
  | div h1 h2=>exact PyProof.Rows.floordiv_int (Ne.symm (Int.ne_of_lt h1)) (by refine ah (Int.fdiv_eq_ediv_of_nonneg _ (Int.le_of_lt h1)) ?_;exact p _ _) (.inl (mf (by omega)))
end
end
section
noncomputable def V.kind:V→Nat
  | .none=>0 | .bool _=>1 | .int _=>2 | .str _=>3 | .ref _=>4 | .tup _=>4 | .ty _=>8 | .bi _=>9
inductive jF (σ:AH):V→V→Bool→Prop
  | r {a b:Addr} {o o':bL} (h:σ a=some o) (h':σ b=some o'):jF σ (.ref a) (.ref b) (a==b)
  | n:jF σ .none .none true
  | d {x:V} (h:Nat.ble 1 x.kind=true) (h':Nat.ble x.kind 7=true):jF σ x .none false
  | i {i:Int} {a:Addr}:jF σ (.int i) (.ref a) false
  | j {i:Int} {a:Addr}:jF σ (.ref a) (.int i) false
inductive jO:List V→List Str→Prop
  | n:jO [] []
  | c {s:Str} {ys:List V} {l:List Str} (h:jO ys l):jO (.str s::ys) (s::l)
inductive sH (σ:AH):V→V→Bool→Prop
  | s {s:Str} {ys:List V} {l:List Str} (h:jO ys l):sH σ (.str s) (.tup ys) (l.any (·==s))
  | b {b:Bool} {a:Addr} {l:List Bool} (h:σ a=some (.list (l.map V.bool))):sH σ (.bool b) (.ref a) (l.any (·==b))
  | i {i:Int} {a:Addr} {es:List (Int×V)} (h:σ a=some (.idict es)):sH σ (.int i) (.ref a) (es.any fun e=>e.1==i)
inductive fc (σ:AH):CmpOp→V→V→Bool→Prop
  | eq {x y:V} {b:Bool} (h:mw σ x y b):fc σ .Eq x y b
  | ne {x y:V} {b c:Bool} (h:mw σ x y b) (e:(!b)=c):fc σ .NotEq x y c
  | is {x y:V} {b:Bool} (h:jF σ x y b):fc σ .Is x y b
  | isn {x y:V} {b c:Bool} (h:jF σ x y b) (e:(!b)=c):fc σ .IsNot x y c
  | in_ {x y:V} {b:Bool} (h:sH σ x y b):fc σ .In x y b
  | nin {x y:V} {b c:Bool} (h:sH σ x y b) (e:(!b)=c):fc σ .NotIn x y c
  | lt {a b:Int}:fc σ .Lt (.int a) (.int b) (decide (a<b))
  | le {a b:Int}:fc σ .LtE (.int a) (.int b) (decide (a≤b))
  | gt {a b:Int}:fc σ .Gt (.int a) (.int b) (decide (b<a))
  | ge {a b:Int}:fc σ .GtE (.int a) (.int b) (decide (b≤a))
section
variable {K:Type}{T:TM}{ks:List (K×Value)}{R:List (K×Value)→Prop}
@[elab_as_elim] theorem kZ (h:dU T [] ks)(k:R []):R ks:=ah (f:=R) h k
@[elab_as_elim] theorem kC {x:K×V}{xs:List (K×V)}(h:dU T (x::xs) ks)(k:∀v r,RV T x.2 v→dU T xs r→R ((x.1,v)::r)):R ks:=
  Exists.elim h fun v h=>Exists.elim h fun r h=>ah (f:=R) h.1 (k v r h.2.1 h.2.2)
end
theorem jO.all {T:TM}{ys:List V}{l:List Str}(h:jO ys l):∀{vs:List Value},bS T ys vs→∀s:Str,(vs.any fun v=>v.isStr s)=l.any (·==s)∧∀v∈vs,∃x t,v= .str x t:=by
  induction h with
  | n=>exact fun h s=>eZ h ⟨rfl,fun _ h=>nomatch h⟩
  | @c y ys l _ ih=>
    exact fun h s=>eC h fun v r hv hr=>eS hv fun t=>⟨congrArg (_ || ·) (ih hr s).1,fun w hw=>(List.mem_cons.mp hw).elim (fun e=>⟨y,t,e⟩) ((ih hr s).2 w)⟩
theorem wE {T:TM}:∀{l:List Bool} {vs:List Value},bS T (l.map V.bool) vs→vs=l.map Value.bool:=by
  intro l
  induction l with
  | nil=>exact fun h=>eZ h rfl
  | cons b l ih=>exact fun h=>eC (R:=fun vs=>vs=(b::l).map Value.bool) h fun v r hv hr=>eB hv (congrArg _ (ih hr))
theorem dU.any {K:Type}{T:TM}(p:K→Bool):∀{es:List (K×V)} {ks:List (K×Value)},dU T es ks→(ks.any fun e=>p e.1)=es.any fun e=>p e.1:=by
  intro es
  induction es with
  | nil=>exact fun h=>kZ h rfl
  | cons x xs ih=>exact fun h=>kC h fun v r _ hr=>congrArg (p x.1 || ·) (ih hr)
theorem dU.length {K:Type}{T:TM}:∀{es:List (K×V)} {ks:List (K×Value)},dU T es ks→ks.length=es.length:=by
  intro es
  induction es with
  | nil=>exact fun h=>kZ h rfl
  | cons x xs ih=>exact fun h=>kC h fun v r _ hr=>congrArg Nat.succ (ih hr)
noncomputable def fO {K:Type}[DecidableEq K]:List (K×V)→K→Option V
  | [],_=>none
  | e::r,k=>if e.1=k then some e.2 else fO r k
theorem dU.look {K:Type}[DecidableEq K]{T:TM}(k:K):∀{es:List (K×V)} {ks:List (K×Value)},dU T es ks→(fO es k=none∧valueAt ks k=none)∨∃x v,fO es k=some x∧valueAt ks k=some v∧RV T x v:=by
  intro es
  induction es with
  | nil=>exact fun h=>kZ h (.inl ⟨rfl,rfl⟩)
  | cons y xs ih=>
    refine fun h=>kC h fun v r hv hr=> ?_
    refine(?_:((if y.1=k then some y.2 else fO xs k)=none∧Option.map _ (List.find? _ _)=none)∨∃x v',(if y.1=k then some y.2 else fO xs k)=some x∧Option.map _ (List.find? _ _)=some v'∧RV T x v')
    refine ah List.find?_cons ?_
    by_cases q:y.1=k
    · refine ah (if_pos q) (ah (decide_eq_true (p:=(y.1,v).1=k) q) ?_);exact .inr ⟨_,v,rfl,rfl,hv⟩
    · refine ah (if_neg q) (ah (decide_eq_false (p:=(y.1,v).1=k) q) ?_);exact ih hr
theorem dU.get {K:Type}[DecidableEq K]{T:TM}{es:List (K×V)}{ks:List (K×Value)}(k:K)(h:dU T es ks)(x:V)(e:fO es k=some x):∃v,valueAt ks k=some v∧RV T x v:=by
  rcases h.look k with q | q
  · exact nn (q.1.symm.trans e)
  · refine cg ?_ q;intro y v h1 h2 h3;exact⟨v,h2,xg (h1.symm.trans e)▸h3⟩
theorem jD {K:Type}[DecidableEq K](ks:List (K×Value))(k:K):(valueAt ks k).isSome=ks.any fun e=>e.1=k:=by
  refine ah Option.isSome_map ?_;rewrite [Bool.eq_iff_iff];rewrite [List.find?_isSome];simp
section
variable {B:Bs}{n:Nat}{Q:V→AH→Prop}{E:Str→AH→Prop}{σ:AH}
theorem j8 {Γ:Fc}{A:Around}{T:TM}{mc kc:Str→Option Value}{own dof}{s:Shared}{x y:V}{v w:Value}{b:Bool}{R:Bool→Shared→Prop}{E':Value→Shared→Prop}(G:FcOk B Γ)(I:SI B Γ T mc kc σ own dof s.heap)(h:jF σ x y b)(hv:RV T x v)(hw:RV T y w)(q:R b s):
    wpAny B.M A (isSame v w) R E' s:=by
  induction h with
  | @r a c o o' z1 z2=>
    refine eR hv (eR hw ?_);refine aY ?_ (I.stands G z1);intro ob1 k1 t1;refine aY ?_ (I.stands G z2);intro ob2 k2 _
    by_cases ac:a=c
    · subst ac;exact wpAny_isSame_ref_self (beq_self_eq_true a▸q)
    · exact wpAny_isSame_ref_other ac k1 k2 t1 (beq_false_of_ne ac▸q)
  | n=>exact eN hv (eN hw (wpAny_isSame_plain rfl q))
  | @d x h h'=>
    refine eN hw ?_
    cases x with
    | none=>exact ft h
    | bool _=>exact eB hv (wpAny_isSame_plain rfl q)
    | int _=>exact eI hv fun _=>wpAny_isSame_plain rfl q
    | str _=>exact eS hv fun _=>wpAny_isSame_plain rfl q
    | ref _=>exact eR hv (wpAny_isSame_plain rfl q)
    | tup _=>exact eT hv fun _ _ _ _=>wpAny_isSame_plain rfl q
    | ty _=>exact ft h'
    | bi _=>exact ft h'
  | i=>exact eI hv fun _=>eR hw (wpAny_isSame_plain rfl q)
  | j=>exact eR hv (eI hw fun _=>wpAny_isSame_plain rfl q)
theorem rg {a b:V}{d:Bool}(h:sH σ a b d){Γ:Fc}{A:Around}{T:TM}{mc kc:Str→Option Value}{s:Shared}{v w:Value}{own:List Addr}{dof:Addr→Addr}(I:SI B Γ T mc kc σ own dof s.heap)(hv:RV T a v)(hw:RV T b w)(R:Value→Shared→Prop)(E':Value→Shared→Prop)
    :((∀t,R (.bool d) {s with toks:=t})→wpAny B.M A (compareOp .In v w) R E' s)∧((∀t,R (.bool !d) {s with toks:=t})→wpAny B.M A (compareOp .NotIn v w) R E' s):=by
  induction h with
  | @s str ys l h1=>
    refine eS hv fun t=>eT hw fun a' vs h2 h3=> ?_;have l1:=er I.tups h2;refine uA ?_ (h1.all h3 str);intro e2 e3;have he:∀y,y∈vs.toArray→EqAt A.in1 s y (.str str t) (y.isStr str):=fun y hy=>by
      refine eu ?_ (e3 y (List.mem_toArray.mp hy));rintro x u rfl;exact EqAt.str_str _ _ _ _
    have e4:(vs.toArray.any fun v=>v.isStr str)=_:=List.any_toArray.trans e2;exact⟨fun k=>in_tupleAt _ l1 he (e4▸k s.toks),fun k=>notIn_tupleAt _ l1 he (e4▸k s.toks)⟩
  | @b bb x l e1=>
    refine bI ?_ (I.list (.inl e1));intro vs l1 r1 _;refine eB hv (eR hw ?_);have hvs:=wE r1;have eb:∀z:Bool,(Value.bool z== .bool bb)=(z==bb):=by cases bb<;>decide
    have e2:(vs.toArray.any fun v=>v== .bool bb)=l.any (·==bb):=by
      refine ah hvs (ah List.any_toArray (ah List.any_map ?_));exact congrArg (List.any l) (funext eb)
    have he:∀y,y∈vs.toArray→EqAt A.in1 s y (.bool bb) (y== .bool bb):=fun y hy=>by
      rw [hvs,List.mem_toArray] at hy;refine aY ?_ (List.mem_map.mp hy);rintro z _ rfl;rw [eb];exact EqAt.bool_bool z bb
    exact⟨fun k=>in_listAt _ l1 he (e2▸k s.toks),fun k=>notIn_listAt _ l1 he (e2▸k s.toks)⟩
  | @i i x es e1=>
    refine et ?_ (I.ob x _ e1);intro _ ks d1 r1 _ hne1;refine eI hv fun t=>eR hw ?_;have hd:(x==sysModules)=false:=beq_false_of_ne hne1;have e2:(valueAt ks i).isSome=es.any fun e=>e.1==i:=by
      rewrite [jD];refine ch (dU.any (fun k=>k==i) r1) ?_;congr 1
    exact⟨fun k=>wpAny_in_of (intKind_is _ _ _ _) hd d1.mapOf (e2▸k (s.toks+1)),fun k=>wpAny_notIn_of (intKind_is _ _ _ _) hd d1.mapOf (e2▸k (s.toks+1))⟩
theorem ef {op:CmpOp}{a b:V}{c:Bool}(h:fc σ op a b c)(q:Q (.bool c) σ)(hn:0<n):P2 B n (compareOp op) a b Q E σ:=by
  intro Γ A T mc kc s v w G HA HS hv hw;have hu:A.units<cLine:=wZ (w9 _ _) HA.units
  have fin:∀t,PQ B Γ T mc kc Q (.bool c) {s with toks:=t}:=fun t=>PQ.here (x:= .bool c) (HS.toks t) rfl q
  obtain ⟨own,dof,I,hm⟩:=HS
  induction h with
  | eq h=>exact(h.rc I hu hv hw).1 _ _ _ _ (fin s.toks)
  | ne h e=>exact(h.rc I hu hv hw).2 _ _ _ _ (e▸fin s.toks)
  | is h=>exact wpAny_bind (j8 G I h hv hw (wpAny_pure (fin s.toks)))
  | isn h e=>exact wpAny_bind (j8 G I h hv hw (wpAny_pure (e▸fin s.toks)))
  | in_ h=>exact(rg h I hv hw _ _).1 fin
  | nin h e=>exact(rg h I hv hw _ _).2 (e▸fin)
  | lt=>exact eI hv fun _=>eI hw fun _=>PyProof.Rows.lt_int (fin s.toks)
  | le=>exact eI hv fun _=>eI hw fun _=>PyProof.Rows.le_int (fin s.toks)
  | gt=>exact eI hv fun _=>eI hw fun _=>PyProof.Rows.gt_int (fin s.toks)
  | ge=>exact eI hv fun _=>eI hw fun _=>PyProof.Rows.ge_int (fin s.toks)
end
end
section
theorem ba (a b:String):(Str.ofString a=Str.ofString b)=(a=b):=by
  apply propext
  constructor
  · intro h;rw [Str.ofString_eq_toList,Str.ofString_eq_toList] at h;have h1:a.toList.map Char.toNat=b.toList.map Char.toNat:=by
      have:=congrArg Str.cps h
      simpa using this
    have inj:∀(x y:List Char),x.map Char.toNat=y.map Char.toNat→x=y:=by
      intro x
      induction x with
      | nil=>intro y hy;cases y with
        | nil=>rfl
        | cons _ _=>simp at hy
      | cons c x ih=>intro y hy;cases y with
        | nil=>simp at hy
        | cons d y=>
          simp only [List.map_cons,List.cons.injEq] at hy;have:c=d:=by
            have:=hy.1;exact Char.toNat_inj.mp this
          exact ah this (ah (ih y hy.2) rfl)
    exact String.toList_inj.mp (inj _ _ h1)
  · rintro rfl;rfl
theorem cG (a b:String):(Str.ofString a==Str.ofString b)=(a==b):=by
  rw [Bool.eq_iff_iff,beq_iff_eq,beq_iff_eq,ba]
set_option genInjectivity false in
inductive nV where
  | int | bool | non | str | cons | sym
noncomputable def nV.val:nV→Value
  | .int=> .type "int" | .bool=> .type "bool" | .non=> .type "NoneType" | .str=> .type "str" | .cons=> .ref 82 | .sym=> .ref 58
noncomputable def nV.isCons (k:nV):Bool:=match k with
  | .cons=>true | _=>false
noncomputable def nV.isInt (k:nV):Bool:=match k with
  | .int=>true | .bool=>true | _=>false
noncomputable def nV.isBool (k:nV):Bool:=match k with
  | .bool=>true | _=>false
noncomputable def sr (k:nV)(v:V):Option Bool:=match v with
  | .ref a=>if a=82 then some k.isCons else if a=125∨a=146∨a=104∨a=181 then some false else none
  | .ty n=>if n="int" then some k.isInt else if n="bool" then some k.isBool else none
  | _=>none
noncomputable abbrev pF (x y:V):bL:= .inst 82 [("car",x),("cdr",y)]
inductive qp (σ:AH):V→nV→Prop
  | int {i:Int}:qp σ (.int i) .int
  | bool {b:Bool}:qp σ (.bool b) .bool
  | non:qp σ .none .non
  | str {s:Str}:qp σ (.str s) .str
  | cons {a:Addr} {ats:List (Str×V)} (h:σ a=some (.inst 82 ats)):qp σ (.ref a) .cons
  | sym {a:Addr} (h:σ a=some (.stat 58)):qp σ (.ref a) .sym
structure sR (K:Frag)(D:Addr):Prop where
  g:plainGet K D "__class__"=true
  d:hasDictIn K D=true
  a:findIn K (.ref D) "__class__"=some (some (.builtin "object.__class__"))
  n:specialIn K (.builtin "object.__class__") "__get__"=some (some (.builtin "getset_descriptor.__get__"))
  t:takesIn K (.builtin "object.__class__")=some true
  m:mroIn K D (.type "object")=some true
noncomputable def pM (K:Frag)(C:Addr)(name:Str):Prop:=plainGet K C name=true∧hasDictIn K C=true∧∃attr,findIn K (.ref C) name=some attr∧noGet K attr=true
noncomputable def qg (K:Frag)(C:Addr)(name:Str):Prop:=findIn K (.ref C) "__setattr__"=some (some (.builtin "object.__setattr__"))∧plainOver K C=true∧takerIn K C name=some none∧hasDictIn K C=true
structure KO (K:Frag):Prop where
  isi:∀k c b cv,sr k c=some b→RV (fun _=>none) c cv→kitOne K k.val cv=some b
  own82:sR K 82
  own58:sR K 58
  car:pM K 82 "car"
  cdr:pM K 82 "cdr"
  scar:qg K 82 "car"
  scdr:qg K 82 "cdr"
  mak:makesIn K 82=true
noncomputable def oE:List (Str×V)→Str→Option V
  | [],_=>none
  | e::r,k=>if e.1=k then some e.2 else oE r k
inductive qo (σ:AH):V→Str→V→Prop
  | car {a:Addr} {x y:V} (h:σ a=some (pF x y)):qo σ (.ref a) "car" x
  | cdr {a:Addr} {x y:V} (h:σ a=some (pF x y)):qo σ (.ref a) "cdr" y
noncomputable def ta (xs:List V)(k:Int):Option V:=if 0≤k then xs[k.toNat]? else if-(xs.length:Int)≤k then xs[(k+xs.length).toNat]? else none
noncomputable def v7 (xs:List V)(k:Int):Option V:=if 0≤k∧k<1000 then xs[k.toNat]? else none
inductive eJ (σ:AH):V→V→V→Prop
  | l {a:Addr} {xs:List V} {k:Int} {v:V} (h:σ a=some (.list xs)∨σ a=some (.clist xs)) (h2:ta xs k=some v):eJ σ (.ref a) (.int k) v
  | i {a:Addr} {es:List (Int×V)} {k:Int} {v:V} (h:σ a=some (.idict es)) (h2:fO es k=some v):eJ σ (.ref a) (.int k) v
  | s {a:Addr} {es:List (Str×V)} {k:Str} {v:V} (h:σ a=some (.sdict es)) (h2:fO es k=some v):eJ σ (.ref a) (.str k) v
  | t {xs:List V} {k:Int} {v:V} (h:v7 xs k=some v):eJ σ (.tup xs) (.int k) v
inductive nw (σ:AH):V→Int→Prop
  | l {a:Addr} {xs:List V} (h:σ a=some (.list xs)):nw σ (.ref a) xs.length
  | c {a:Addr} {xs:List V} (h:σ a=some (.clist xs)):nw σ (.ref a) xs.length
theorem nw.l' {σ:AH}{a:Addr}{xs:List V}{k:Int}(h:σ a=some (.list xs))(e:(xs.length:Int)=k):nw σ (.ref a) k:=e▸ .l h
theorem nw.c' {σ:AH}{a:Addr}{xs:List V}{k:Int}(h:σ a=some (.clist xs))(e:(xs.length:Int)=k):nw σ (.ref a) k:=e▸ .c h
inductive qz (σ:AH):V→List V→V→Prop
  | len {x:V} {k:Int} (h:nw σ x k):qz σ (.bi "len") [x] (.int k)
  | isi {x c:V} {k:nV} {b:Bool} (h:qp σ x k) (h2:sr k c=some b):qz σ (.bi "isinstance") [x,c] (.bool b)
  | abs {i:Int}:qz σ (.bi "abs") [.int i] (.int (if i<0 then-i else i))
  | max {a b:Int}:qz σ (.bi "max") [.int a, .int b] (.int (if b>a then b else a))
  | int {b:Bool}:qz σ (.ty "int") [.bool b] (.int (if b then 1 else 0))
theorem oD {e:DictEntry}{es:List DictEntry}{y name:Str}{t:Tok}(hk:e.key= .str y t):getL name (e::es)=if y=name then some (some e.val) else getL name es:=by
  unfold getL
  by_cases q:y=name
  · exact ah (if_pos q) (ah List.find?_cons (ah (show e.key.isStr name=true by rw [hk];exact beq_iff_eq.mpr q) rfl))
  · refine ah (if_neg q) (ah List.find?_cons (ah (show e.key.isStr name=false by rw [hk];exact beq_false_of_ne q) (ah List.any_cons (ah (show e.refKey=false by unfold DictEntry.refKey;rw [hk]) ?_))));rewrite [Bool.false_or];rfl
theorem pJ {T:TM}{name:Str}{x:V}:∀{es:List DictEntry} {xs:List (Str×V)},fV T es xs→oE xs name=some x→∃v,getL name es=some (some v)∧RV T x v:=by
  intro es
  induction es with
  | nil=>exact fun e h=>nn ((congrArg (oE · name) e).symm.trans h)
  | cons e es ih=>
    intro xs h;refine bJ ?_ h;intro y v r e1;refine uE ?_;intro t hk hv hr h;have h:(if y=name then some v else oE r name)=some x:=(congrArg (oE · name) e1).symm.trans h;refine ah (oD hk) ?_
    by_cases q:y=name
    · rw [if_pos q] at h;refine ah (if_pos q) ?_;exact⟨e.val,rfl,xg h▸hv⟩
    · rw [if_neg q] at h;refine ah (if_neg q) ?_;exact ih hr h
theorem oI {T:TM}{x:V}{v:Value}(h:RV T x v)(k:x.kind<8):handedIn v=true:=by
  cases x with
  | none=>exact eN h rfl
  | bool _=>exact eB h rfl
  | int _=>exact eI h fun _=>rfl
  | str _=>exact eS h fun _=>rfl
  | ref _=>exact eR h rfl
  | tup _=>exact eT h fun _ _ _ _=>rfl
  | ty _=>exact absurd k (xl 8)
  | bi _=>exact absurd k (Nat.not_lt.mpr (Nat.le_succ 8))
theorem SI.instAt {B:Bs}{Γ:Fc}{T:TM}{mc kc σ own dof h}(I:SI B Γ T mc kc σ own dof h){a C:Addr}{ats:List (Str×V)}(e:σ a=some (.inst C ats)):∃es n,h.get? (dof a)=some (dictOf es n)∧fV T es ats∧W.InstAt h a (instObj C (dof a)) C (some (dictOf es n)):=by
  refine d9 ?_ (I.ob a _ e);intro _ _ h1 es n h2 h3;exact⟨es,n,h2,h3,h1,rfl,rfl,h2⟩
section
variable {B:Bs}{n:Nat}{m:ax}{Q:V→AH→Prop}{E:Str→AH→Prop}{σ:AH}
theorem kA {v:V}{x:Str}{r:V}{ex:Bool}(K:KO B.K)(h:qo σ v x r)(hr:r.kind<8)(q:Q r σ):P1 B n (fun o=>getAttr o x ex) v Q E σ:=by
  intro Γ A T mc kc s vv G HA HS hv;obtain ⟨own,dof,I,hm⟩:=id HS;have go:∀a x' y' z,σ a=some (pF x' y')→pM B.K 82 z→oE [("car",x'),("cdr",y')] z=some r→wpAny B.M A (getAttr (.ref a) z ex) (PQ B Γ T mc kc Q) (PE B Γ T E) s:=fun a x' y' z e hg h=>by
    refine cg ?_ (I.instAt e);intro es k h1 h2 h3;refine aY ?_ (pJ h2 h);intro w h4 h5;refine dc ?_ hg;intro g1 g2;refine aY ?_;intro attr g3 g4;exact get_own I.fr G.stat.k h3 g1 g2 g3 g4 h4 (oI h5 hr) (PQ.here (HS.toks _) h5 q)
  induction h with
  | car h=>exact eR hv (go _ _ _ _ h K.car (if_pos rfl))
  | cdr h=>exact eR hv (go _ _ _ _ h K.cdr ((if_neg (by rw [ba];decide)).trans (if_pos rfl)))
theorem eK {value:Expr}{x:Str}{pos:Pos}(h:EV B n m value (fun o σ₁=>P1 B n (fun o=>getAttr o x true) o Q E σ₁) E σ)(hb:∀env whole,attributeBase value x env whole=whole):EV B n m (.Attribute value x pos) Q E σ:=by
  intro Γ A T mc kc s G HA HS HL;refine Attribute_any_ (wpAny_mono (h Γ A T mc kc s G HA HS HL) ?_ fun _ _ x=>x) (by rw [arm_eval_Attribute,hb]);rintro v s₁ ⟨T₁,σ₁,a,hT₁,HS₁,hv,h₁⟩;exact h₁.go G HA hT₁ HS₁ hv
theorem It.run {value slice:Expr}{o i r:V}(h:eJ σ o i r)(hs:∀o i,subscripted slice false o i=operate [o,i] (getItem o i)){Γ:Fc}{A:Around}{T:TM}{mc kc:Str→Option Value}{own dof}{s:Shared}{v w:Value}{P E':Value→Shared→Prop}(I:SI B Γ T mc kc σ own dof s.heap)(hv:RV T o v)(hw:RV T i w)
    (k:∀w t,RV T r w→P w {s with toks:=t}):wpAny B.M A (subscriptTail value slice v w) P E' s:=by
  induction h with
  | @l a xs j r e hx=>
    refine bI ?_ (I.list e);intro vs l1 r1 hz;have hl:=r1.length;refine eR hv (eI hw fun t=> ?_);rw [sizeLine_eq] at hz
    delta ta at hx
    (with_reducible refine rm ?_ ?_ hx<;>(clear hx;intro _ hx))
    · rename_i h0
      refine aY ?_ (r1.get j.toNat r hx);intro x hx1 hx2;have hk:j.toNat<xs.length:=(List.getElem?_eq_some_iff.mp hx).1;exact tail_any l1.typeIs slot_list_getitem.lookup (wpAny_getItem_list l1 h0 (iz hk hz) (List.getElem?_toArray.trans hx1) (k _ s.toks hx2)) (hs _ _)
    · (with_reducible refine rm ?_ ?_ hx<;>(clear hx;intro _ hx))
      · rename_i h0 h1
        refine aY ?_ (r1.get _ r hx);intro x hx1 hx2;rw [←hl] at h1 hx1;exact tail_any l1.typeIs slot_list_getitem.lookup (wpAny_getItem_list_neg l1 (Int.not_le.mp h0) h1 (wg h1 (hl.symm▸hz)) (List.getElem?_toArray.trans hx1) (k _ s.toks hx2)) (hs _ _)
      · exact nn hx
  | i e h=>
    refine cq ?_ (I.ob _ _ e);intro _ ks d1 r1 _;refine eR hv (eI hw fun t=>aY ?_ (dU.get _ r1 _ h));intro x h1 h2;exact tail_any d1.typeIs slot_dict_getitem.lookup (wpAny_getItem_of (intKind_is _ _ _ _) d1.mapOf h1 (k _ _ h2)) (hs _ _)
  | s e h=>
    refine cq ?_ (I.ob _ _ e);intro _ ks d1 r1 _;refine eR hv (eS hw fun t=>aY ?_ (dU.get _ r1 _ h));intro x h1 h2;exact tail_any d1.typeIs slot_dict_getitem.lookup (wpAny_getItem_of (strKind_is _ _ _ _) d1.mapOf h1 (k _ _ h2)) (hs _ _)
  | @t xs j r h=>
    refine eT hv fun a vs h2 h3=>eI hw fun t=> ?_
    delta v7 at h
    (with_reducible refine rm ?_ ?_ h<;>(clear h;intro _ h))
    · rename_i h0
      refine aY ?_ (h3.get j.toNat r h);intro x hx1 hx2;have l1:=er I.tups h2;have hk:j.toNat<vs.length:=(List.getElem?_eq_some_iff.mp hx1).1;exact tail_any (T:="tuple") (let ⟨ob,o1,o2,_⟩:=l1;⟨ob,o1,o2⟩) slot_tuple_getitem.lookup (PyProof.Rows.getItem_tuple (j:=j.toNat) l1 (Int.le_trans (by decide) h0.1) (Int.lt_trans h0.2 (by decide)) (seqIndex_of h0.1 ((Int.toNat_lt h0.1).mp hk)) (List.getElem?_toArray.trans hx1) (k _ s.toks hx2)) (hs _ _)
    · exact nn h
theorem dW {value slice:Expr}{o i r:V}(h:eJ σ o i r)(hs:∀o i,subscripted slice false o i=operate [o,i] (getItem o i))(q:Q r σ):P2 B n (subscriptTail value slice) o i Q E σ:=
  fun _ _ _ _ _ _ _ _ _ _ HS hv hw=>S.casesOn HS fun own dof I hm=>It.run h hs I hv hw fun _ t hx=>PQ.here (S.toks ⟨own,dof,I,hm⟩ t) hx q
theorem bM {value slice:Expr}{pos:Pos}(h:EV B n m value (fun o σ₁=>EV B n m slice (fun i σ₂=>P2 B n (subscriptTail value slice) o i Q E σ₂) E σ₁) E σ):EV B n m (.Subscript value slice pos) Q E σ:=
  fun Γ A T mc kc s G HA HS HL=>Subscript_ (EV.two h G HA HS HL fun _ _ _ _ _ _ _ hT HS' ha hb h'=>h'.go G HA hT HS' ha hb)
theorem qy {f:V}{xs:List V}{r:V}(K:KO B.K)(h:qz σ f xs r)(q:Q r σ):CV B n f xs Q E σ:=by
  intro Γ A T mc kc s vf vs G HA HS hf hv;obtain ⟨own,dof,I,hm⟩:=id HS
  induction h with
  | @len x k h=>
    refine eC hv fun v r hv1 hv2=>eZ hv2 ?_;have go:∀a xs,(σ a=some (.list xs)∨σ a=some (.clist xs))→(xs.length:Int)=k→wpAny B.M A (call (.builtin "len") [.ref a]) (PQ B Γ T mc kc Q) (PE B Γ T E) s:=fun a xs e e2=>by
      refine bI ?_ (I.list e);intro vs l1 r1 hz;rw [←r1.length] at hz e2;rw [sizeLine_eq] at hz;exact call_len_list l1 (iq (by assumption)) (PQ.here (x:= .int k) (HS.toks _) ⟨_,congrArg (Value.int · _) e2⟩ q)
    refine eF hf ?_
    cases h with
    | l e=>exact eR hv1 (go _ _ (.inl e) rfl)
    | c e=>exact eR hv1 (go _ _ (.inr e) rfl)
  | @isi x c k b h1 h3=>
    refine eC hv fun v r' hv1 hv2=>eC hv2 fun v2 r2 hv2 hv3=>eZ hv3 ?_;refine eF hf ?_;have X:=G.stat.k.keeps I.keep;have hc:RV (fun _=>none) c v2:=by
      cases c with
      | tup _=>exact nn h3
      | _=>exact hv2
    have e:=K.isi k c b v2 h3 hc
    have fin:∀tk,PQ B Γ T mc kc Q (.bool b) {s with toks:=tk}:=fun tk=>PQ.here (x:= .bool b) (HS.toks tk) rfl q
    cases h1 with
    | non=>exact eN hv1 (kia_one (H:=fun _=>True) kitx_none X trivial e (fun z=>nomatch z) fin)
    | bool=>exact eB hv1 (kia_one (H:=fun _=>True) kitx_bool X trivial e (fun z=>nomatch z) fin)
    | int=>exact eI hv1 fun _=>kia_one (H:=fun _=>True) kitx_int X trivial e (fun z=>nomatch z) fin
    | str=>exact eS hv1 fun _=>kia_one (H:=fun _=>True) kitx_str X trivial e (fun z=>nomatch z) fin
    | cons e1=>
      refine eR hv1 (cg ?_ (I.instAt e1));intro es k' _ _ h5;exact kia_one (kitx_own K.own82.g K.own82.d K.own82.a K.own82.n K.own82.t K.own82.m) X h5 e (fun z=>nomatch z) fin
    | sym e1=>
      refine eR hv1 (c6 ?_ (I.ob _ _ e1));intro d sl o o1 o2;have h5:W.InstAt s.heap _ ⟨.ref 58,some d, .plain,sl⟩ 58 (some o):=⟨X _ _ o1,rfl,rfl,X _ _ o2⟩;exact kia_one (kitx_own K.own58.g K.own58.d K.own58.a K.own58.n K.own58.t K.own58.m) X h5 e (fun z=>nomatch z) fin
  | @abs i=>
    refine eC hv fun v r hv1 hv2=>eZ hv2 (eI hv1 fun t=> ?_);exact eF hf (call_abs_int fun u tk=>PQ.here (x:= .int _) (HS.toks _) ⟨_,rfl⟩ q)
  | @max a b=>
    refine eC hv fun v r hv1 hv2=>eC hv2 fun v2 r2 hv2 hv3=>eZ hv3 (eI hv1 fun t=>eI hv2 fun u=> ?_);refine eF hf (max_two_ints HA.handled fun h' tk hk=> ?_);have h:=PQ.here (Q:=Q) (x:= .int (if b>a then b else a)) (v:= .int (if b>a then b else a) (if b>a then u else t)) (HS.keeps hk tk) ⟨_,rfl⟩ q
    by_cases c:b>a
    · rw [if_pos c,if_pos c] at h;refine ah (if_pos c) ?_;exact h
    · rw [if_neg c,if_neg c] at h;refine ah (if_neg c) ?_;exact h
  | @int b=>
    refine eC hv fun v r hv1 hv2=>eZ hv2 (eB hv1 ?_);exact eY hf (call_int_bool (PQ.here (x:= .int _) (HS.toks _) ⟨_,rfl⟩ q))
end
end
section
section
variable {B:Bs}{n:Nat}{m:ax}{Q:V→AH→Prop}{E:Str→AH→Prop}{σ:AH}
noncomputable abbrev sG (vs:List Value):Obj:={cls:= .type "tuple",data:= .seq vs.toArray}
noncomputable abbrev em (vs:List Value)(n:Nat):Obj:={cls:= .type "list",data:= .seq vs.toArray n}
theorem S.size {Γ:Fc}{T:TM}{mc kc:Str→Option Value}{s:Shared}{own dof}(G:FcOk B Γ)(I:SI B Γ T mc kc σ own dof s.heap):1<s.heap.objs.size:=by
  have h3:(3:Nat)<s.heap.objs.size:=(G.stat.t.g.keeps I.keep).lt;exact Nat.lt_of_succ_lt (wZ (wW rfl) h3)
theorem SI.freshA {Γ:Fc}{T:TM}{mc kc:Str→Option Value}{h:Heap}{own dof}(G:FcOk B Γ)(I:SI B Γ T mc kc σ own dof h)(o:Obj)(hf:o.isFreed=false)(hc:∀v,o.data≠ .cell v)(hg:1<h.objs.size):
    SI B Γ T mc kc σ (h.objs.size::own) dof (h.push o)∧σ h.objs.size=none∧T h.objs.size=none:=by
  have keep:∀b ob,h.get? b=some ob→(h.push o).get? b=some ob:=fun b ob e=>Heap.get?_push_of_some o e;refine⟨(I.keeps keep).addr ?_ ?_ trivial (Heap.get?_push_size _ hf) hc ?_ ?_, ?_, ?_⟩
  · exact Nat.ne_of_gt I.ns.lt
  · cases q:Γ.h₀.get? h.objs.size with
    | none=>rfl
    | some x=>exact absurd (xf (I.keep _ _ q)) (xl _)
  · intro p hp q;refine uA ?_ (I.sn p hp);refine uE ?_;intro sl h1 _;exact absurd (xf h1) (by refine ah q ?_;exact xl _)
  · intro p hp q;exact absurd (xf (I.pn p hp).1) (by refine ah q ?_;exact xl _)
  · cases q:σ h.objs.size with
    | none=>rfl
    | some x=>
      exfalso
      have h1:=I.ob _ _ q;have go:∀ob,h.get? h.objs.size=some ob→False:=fun ob e=>absurd (xf e) (xl _)
      cases x with
      | list xs=>refine dR ?_ h1;clear h1;intro _ vs;refine uE ?_;intro k z _;exact go _ z
      | clist xs=>refine aY ?_ h1;clear h1;intro vs;refine aY ?_;intro ob z _ _;exact go _ z
      | sdict es=>refine dR ?_ h1;clear h1;intro _ ks;refine c6 ?_;intro ob _ _ z _ _;exact go _ z
      | idict es=>refine dR ?_ h1;clear h1;intro _ ks;refine c6 ?_;intro ob _ _ z _ _;exact go _ z
      | inst C ats=>refine dF ?_ h1;clear h1;intro _ _ z _;exact go _ z
      | stat C=>refine c6 ?_ h1;clear h1;intro d sl ob z _;exact go _ (I.keep _ _ (G.stat.k _ _ z))
  · cases q:T h.objs.size with
    | none=>rfl
    | some vs=>refine fD ?_ (I.tp _ _ q);intro ot k h1 _;exact absurd (xf h1) (xl _)
theorem iE.mono:∀{xs:List Expr} {R R':List V→AH→Prop} {σ:AH},iE B n m E xs R σ→(∀vs σ,vs.length=xs.length→R vs σ→R' vs σ)→iE B n m E xs R' σ
  | [],_,_,_,h,k=>k [] _ rfl h
  | x::r,_,_,_,h,k=>EV.mono h fun v σ₁ h₁=>iE.mono h₁ fun vs σ₂ hl h₂=>k _ _ (ah List.length_cons (ah List.length_cons (ah hl rfl))) h₂
theorem wy {xs:List Expr}{R:List V→AH→Prop}{σ:AH}(h:iE B n m E xs R σ):iE B n m E xs (fun vs σ=>R vs σ∧vs.length=xs.length) σ:=h.mono fun _ _ hl h=>⟨h,hl⟩
theorem ng {Γ:Fc}{A:Around}{T:TM}{mc kc:Str→Option Value}{s:Shared}{xs:List V}{vs:List Value}{P E':Value→Shared→Prop}(G:FcOk B Γ)(HS:S B Γ T mc kc σ s)(hv:bS T xs vs)(hz:vs.length≤sizeLine)
    (k:∀T' s',cC T T'→S B Γ T' mc kc σ s'→RV T' (.tup xs) (.ref s.heap.objs.size)→P (.ref s.heap.objs.size) s'):wpAny B.M A (newTuple vs) P E' s:=by
  obtain ⟨own,dof,I,hm⟩:=id HS;refine dc ?_ (I.freshA G (sG vs) rfl (by intro v z;cases z) (S.size G I));intro I' hσ hT;have hle:cC T (fun a=>if a=s.heap.objs.size then some vs else T a):=fun a ws e=>by
    by_cases q:a=s.heap.objs.size
    · rw [q,hT] at e;exact nn e
    · exact(if_neg q).trans e
  refine wpAny_newObj_type (k _ _ hle ⟨_,dof,{I' with tp:=fun a ws e=> ?_,ob:=fun a o e=>(I'.ob a o e).mono hle fun _ q=>q,pt:=fun p hp=>(if_neg fun q=>absurd (xf (I.pn p hp).1) (by refine ah q ?_;exact xl _)).trans (I.pt p hp)},hm⟩ ?_) (by refine(?_:vs.toArray.size≤sizeLine);simpa using hz)
  · by_cases q:a=s.heap.objs.size
    · rw [if_pos q] at e;(refine sj ?_ e;clear e;intro e1;subst e1);subst q;exact⟨_,0,Heap.get?_push_size _ rfl,rfl,rfl⟩
    · rw [if_neg q] at e;exact I'.tp a ws e
  · exact⟨_,vs,rfl,if_pos rfl,bS.mono hle _ hv⟩
theorem j9 {Γ:Fc}{A:Around}{T:TM}{mc kc:Str→Option Value}{s:Shared}{xs:List V}{vs:List Value}{P E':Value→Shared→Prop}(G:FcOk B Γ)(HS:S B Γ T mc kc σ s)(hv:bS T xs vs)(hz:xs.length≤sizeLine)
    (k:∀s',σ s.heap.objs.size=none→S B Γ T mc kc (σ.set s.heap.objs.size (.list xs)) s'→P (.ref s.heap.objs.size) s'):wpAny B.M A (newList vs) P E' s:=by
  obtain ⟨own,dof,I,hm⟩:=id HS;refine dc ?_ (I.freshA G (em vs 0) rfl (by intro v z;cases z) (S.size G I));intro I' hσ hT;refine wpAny_newObj_type (k _ hσ ⟨_,dof,I'.track (o:= .list xs) ⟨.head _,vs,⟨0,Heap.get?_push_size _ rfl⟩,hv,hz⟩ rfl (fun _ _ _ _ h=>by exact ft h),hm⟩) (by refine(?_:vs.toArray.size≤sizeLine);simpa [hv.length] using hz)
theorem dl {elts:List Expr}{k:Nat}{pos:Pos}(hn:bo elts=true)(hz:elts.length≤1000)(h:iE B n m E elts (fun vs σ₁=>Q (.tup vs) σ₁) σ):EV B n m (.Tuple elts k pos) Q E σ:=by
  intro Γ A T mc kc s G HA HS HL;refine Tuple_ (dQ G HA (pre:=[]) (pv:=[]) elts hn (cC.refl T) (wy h) HS HL rfl fun T' σ' s' vs ws hT HS' hr hq=> ?_);refine ng G HS' hr (by have:=hr.length;rw [List.nil_append,List.nil_append] at this;refine ah this (ah hq.2 (ah sizeLine_eq ?_));exact wV (show elts.length≤1000 by assumption) (by decide)) fun T'' s'' hT' HS'' hv=> ?_;exact⟨T'',σ',_,hT.trans hT',HS'',hv,hq.1⟩
theorem a9 {elts:List Expr}{pos:Pos}(hn:bo elts=true)(hz:elts.length≤1000)(h:iE B n m E elts (fun vs σ₁=>∀a,σ₁ a=none→Q (.ref a) (σ₁.set a (.list vs))) σ):EV B n m (.List elts pos) Q E σ:=by
  intro Γ A T mc kc s G HA HS HL;refine List_ (dQ G HA (pre:=[]) (pv:=[]) elts hn (cC.refl T) (wy h) HS HL rfl fun T' σ' s' vs ws hT HS' hr hq=> ?_);refine j9 G HS' hr (by rewrite [List.nil_append];refine ah hq.2 (ah sizeLine_eq ?_);exact wV hz (wW rfl)) fun s'' hσ HS''=> ?_;exact⟨T',_, .ref _,hT,HS'',rfl,hq.1 _ hσ⟩
end
end
section
section
variable {B:Bs}{n:Nat}{m:ax}{Q:V→AH→Prop}{E:Str→AH→Prop}{σ:AH}
noncomputable def ec (B:Bs):V→Prop
  | .ref a=>keepIn B.K (.ref a)=true
  | .bi _ | .ty _=>True
  | _=>False
theorem CV.go {f:V}{xs:List V}(h:CV B n f xs Q E σ){Γ:Fc}{A:Around}{T₀ T:TM}{mc kc:Str→Option Value}{s:Shared}{vf:Value}{vs:List Value}(G:FcOk B Γ)(HA:ea n Γ A)(hT:cC T₀ T)(HS:S B Γ T mc kc σ s)(hf:RV T f vf)(hx:bS T xs vs):
    wpAny B.M A (call vf vs) (PQ B Γ T₀ mc kc Q) (PE B Γ T₀ E) s:=
  wpAny_mono (h Γ A T mc kc s vf vs G HA HS hf hx) (fun _ _=>PQ.mono hT) fun _ _=>PE.mono hT
theorem js {env:Env}{pos:Pos}:∀{es:List Expr},bo es=true→(backTo pos (starEach es env)).any (·.1)=false:=by
  intro es
  induction es with
  | nil=>exact fun _=>rfl
  | cons e r ih=>
    refine fun h=>uA ?_ (dj (env:=env) h);exact fun h1 h2=>ah (f:=fun x=>(backTo pos x).any (·.1)=false) h1 (ih h2)
theorem ii {M:Model}{A:Around}{s:Shared}{f:Value}{E':Value→Shared→Prop}{pos:Pos}{env:Env}{P:Args→Shared→Prop}{es:List Expr}(h0:bo es=true)(h:wpAny M A (spliced (backTo pos (starEach es env))) (fun vs s'=>P ⟨vs,[]⟩ s') E' s):wpAny M A (evalArgs f true (backTo pos (starEach es env)) []) P E' s:=by
  cases es with
  | nil=>
    refine wpAny_bind (wpAny_mono h (fun vs s' h'=> ?_) fun _ _ x=>x);exact wpAny_holding (wpAny_bind (wpAny_pure (wpAny_bind (wpAny_pure (wpAny_pure h')))))
  | cons e r=>
    refine uA ?_ (dj (env:=env) h0);intro h1 h2;rw [h1] at h;refine ah h1 ?_;exact evalArgs_plain h
theorem jc {Γ:Fc}{A:Around}{T₀ T:TM}{mc kc:Str→Option Value}{s:Shared}{f:V}{vf:Value}{args:List Expr}{pos pos':Pos}{first:List V}{fv:List Value}(G:FcOk B Γ)(HA:ea n Γ A)(hT:cC T₀ T)(HS:S B Γ T mc kc σ s)(HL:bT B Γ T mc kc m)
    (hk:ec B f) (hf:RV T f vf) (hfv:bS T first fv) (hn:bo args=true) (h:iE B n m E args (fun vs σ₁=>CV B n f (first++vs) Q E σ₁) σ):
    wpAny B.M A (callWith pos vf fv (backTo pos' (starEach args Γ.env)) []) (PQ B Γ T₀ mc kc Q) (PE B Γ T₀ E) s:=by
  obtain ⟨own₀,dof₀,I₀,_⟩:=id HS;have hK:∀h,B.K.In h→∃k,(k=Keeper.frame∨k=Keeper.machine∨k=Keeper.boundFrame)∧Looks B.M h (keeperOf vf) k:=by
    intro hp X;clear h
    cases f with
    | ref a=>cases (show vf= .ref a from hf);exact keeps_K hk hp X
    | ty a=>cases (show vf= .type a from hf);exact⟨.machine, .inr (.inl rfl),Looks.of_pure rfl⟩
    | bi a=>cases (show vf= .builtin a from hf);exact⟨.machine, .inr (.inl rfl),Looks.of_pure rfl⟩
    | _=>exact hk.elim
  have body:wpAny B.M A (spliced (backTo pos' (starEach args Γ.env))) (fun ws s₁=>B.K.In s₁.heap∧wpAny B.M A (call vf (fv++ws)) (PQ B Γ T₀ mc kc Q) (PE B Γ T₀ E) s₁) (PE B Γ T₀ E) s:=by
    refine dQ G HA (pre:=f::first) (pv:=vf::fv) args hn hT h HS HL ⟨vf,fv,rfl,hf,hfv⟩ fun T' σ' s' vs ws hT' HS' hr hq=> ?_;obtain ⟨own,dof,I,_⟩:=id HS';refine cg ?_ hr;clear hr;intro v' r' e h1 h2
    cases e
    exact⟨G.stat.k.keeps I.keep,CV.go hq G HA hT' HS' h1 h2⟩
  refine callWith_of (P:=fun h=>B.K.In h) (by refine ah (js hn) ?_;rfl) hK (ii hn body)
theorem b8 {func:Expr}{args:List Expr}{pos:Pos}(hn:bo args=true)(h:EV B n m func (fun f σ₁=>ec B f∧iE B n m E args (fun vs σ₂=>CV B n f vs Q E σ₂) σ₁) E σ)
    (hc:∀env,eval (.Call func args [] pos) env=(do callWith pos (←eval func env) [] (backTo pos (starEach args env)) (backToKw pos (keywordEach [] env)))):EV B n m (.Call func args [] pos) Q E σ:=by
  intro Γ A T mc kc s G HA HS HL;rw [hc];refine wpAny_bind (wpAny_mono (h Γ A T mc kc s G HA HS HL) ?_ fun _ _ x=>x);rintro v s₁ ⟨T₁,σ₁,f,hT₁,HS₁,hv,hk,h₁⟩;exact jc G HA hT₁ HS₁ (HL.mono hT₁) hk hv (first:=[]) (fv:=[]) rfl hn h₁
theorem lD {t b o pos}{Q:Bool→AH→Prop}(h:TV B n m t (fun c σ₁=>if c then TV B n m b Q E σ₁ else TV B n m o Q E σ₁) E σ):TV B n m (.IfExp t b o pos) Q E σ:=by
  intro Γ A T mc kc s G HA HS HL;rw [arm_isTrue_IfExp];refine wpAny_bind (wpAny_mono (h Γ A T mc kc s G HA HS HL) ?_ fun _ _ x=>x);rintro c s₁ ⟨T₁,σ₁,hT₁,HS₁,h₁⟩
  cases c
  · exact wpAny_mono (h₁ Γ A T₁ mc kc s₁ G HA HS₁ (HL.mono hT₁)) (fun _ _=>BQ.mono hT₁) fun _ _=>PE.mono hT₁
  · exact wpAny_mono (h₁ Γ A T₁ mc kc s₁ G HA HS₁ (HL.mono hT₁)) (fun _ _=>BQ.mono hT₁) fun _ _=>PE.mono hT₁
noncomputable def cB.val:cB→Option V
  | .loc v=>v
  | .cel v=>v
  | .fre v=>some v
  | .glob v=>some v
inductive NA:Expr→Prop
  | n {x:Str} {p:Pos}:NA (.Name x p)
  | s {a b:Expr} {p:Pos}:NA (.Subscript a b p)
inductive AB:Expr→Prop
  | n {x:Str} {p:Pos}:AB (.Name x p)
  | s {a b:Expr} {p:Pos}:AB (.Subscript a b p)
  | a {a:Expr} {x:Str} {p:Pos}:AB (.Attribute a x p)
  | c {x:Str} {q:Pos} {a:Expr} {r:List Expr} {k:List Keyword} {p:Pos}:AB (.Call (.Name x q) (a::r) k p)
inductive NS:Expr→Prop
  | n {x:Str} {p:Pos}:NS (.Name x p)
  | c {c:Const} {k:Nat} {p:Pos}:NS (.Constant c k p)
  | s {a b:Expr} {p:Pos}:NS (.Subscript a b p)
  | b {a b:Expr} {o:Operator} {p:Pos}:NS (.BinOp a o b p)
  | u {a:Expr} {o:UnaryOp} {p:Pos}:NS (.UnaryOp o a p)
  | f {f:Expr} {r:List Expr} {k:List Keyword} {p:Pos}:NS (.Call f r k p)
theorem kG {v:Expr}(h:AB v)(x:Str)(env:Env)(whole:Sem Value):attributeBase v x env whole=whole:=by cases h<;>rfl
theorem iM {sl:Expr}(h:NS sl)(o i:Value):subscripted sl false o i=operate [o,i] (getItem o i):=by cases h<;>rfl
theorem be {func:Expr}(h:NA func)(args:List Expr)(pos:Pos)(env:Env):eval (.Call func args [] pos) env=(do callWith pos (←eval func env) [] (backTo pos (starEach args env)) (backToKw pos (keywordEach [] env))):=by cases h<;>rfl
noncomputable def small (v:V):Option V:=if v.kind<8 then some v else none
theorem oP {f:V}{vs:List V}{r:V}(h:qz σ f vs r):ec B f:=by cases h<;>exact trivial
end
end
section
theorem dd.base {B:Bs}{T:TM}{h₀ h₀' h:Heap}{own:List Addr}{dof:Addr→Addr}{a:Addr}{o:bL}(x:dd B T h₀ h own dof a o):dd B T h₀' h own dof a o:=by
  cases o<;>exact x
noncomputable def frL (Γ:Fc):List Addr:=Γ.frs.filterMap (·.frame)
theorem FcOk.frL {B:Bs}{Γ:Fc}(G:FcOk B Γ){b:Addr}(hb:b∈frL Γ):b=Γ.env.locals∨∃o,(b,o)∈Γ.snap:=by
  refine aY ?_ (List.mem_filterMap.mp hb);intro e he hf;refine dR ?_ (G.frs e he);intro _ L hL h;rw [hL] at hf;(refine sj ?_ hf;clear hf;intro e1;subst e1);exact h
theorem SI.slots {B:Bs}{Γ:Fc}{T:TM}{mc kc σ own dof h h'}(G:FcOk B Γ)(I:SI B Γ T mc kc σ own dof h)(hid:List Addr)(hh:∀b∈hid,b∉own∧Γ.h₀.get? b=none∧∀p∈Γ.pin,p.1≠b)
    (st:∀b o,h.get? b=some o→b∉hid→b∉frL Γ→h'.get? b=some o) (up:h.UpToSlots h'):SI B Γ T mc kc σ own dof h':=by
  have nfr:∀b,b∈frL Γ→b∉own∧Γ.h₀.get? b=none∧∃o es ep,h.get? b=some o∧o.data= .dict es ep:=fun b hb=>by
    rcases G.frL hb with rfl | ⟨o,ho⟩
    · refine⟨fun q=>(I.ow _ q).1 rfl, ?_, ?_⟩
      · cases q:Γ.h₀.get? Γ.env.locals with
        | none=>rfl
        | some o=>exact absurd (xf q) (Nat.not_lt.mpr I.above)
      · refine bz ?_ I.ns;intro o es ep h1 h2 _;exact⟨o,es,ep,h1,h2⟩
    · refine uA ?_ (I.sn _ ho);refine uE ?_;intro sl h1 h2;refine eu ?_ (G.snf _ ho);intro es ep h3;exact⟨h2,G.sn0 _ ho,_,es,ep,h1,h3⟩
  have ownS:∀a∈own,∀o,h.get? a=some o→h'.get? a=some o:=fun a ha o e=>st a o e (fun q=>(hh a q).1 ha) fun q=>(nfr a q).1 ha
  exact
  { ns:=up.ns I.ns
    keep:=fun b o e=>st b o (I.keep b o e) (fun q=>by rw [(hh b q).2.1] at e;exact nn e) fun q=>by rw [(nfr b q).2.1] at e;exact nn e
    above:=I.above
    ow:=fun a ha=>let ⟨h1,h2,h3,o,h4,h5⟩:=I.ow a ha;⟨h1,h2,h3,o,ownS a ha o h4,h5⟩
    pt:=I.pt
    sn:=fun p hp=>by
      refine uA ?_ (I.sn p hp);refine uE ?_;intro sl h1 h2;refine eu ?_ (G.snf p hp);intro es ep h3;refine uE ?_ (up _ _ h1 (fun vs q=>by have:p.2.data= .fields vs:=q;rw [h3] at this;cases this));intro sl' h4;exact⟨⟨sl',h4⟩,h2⟩
    pn:=fun p hp=>⟨st _ _ (I.pn p hp).1 (fun q=>(hh _ q).2.2 p hp rfl) (fun q=>by
      refine fC ?_ (nfr _ q);intro _ _ o es;refine aY ?_;intro ep h1 h2;rw [(I.pn p hp).1] at h1;(refine sj ?_ h1;clear h1;intro e1;subst e1)
      exact(G.pnf p hp).d _ _ h2),(I.pn p hp).2⟩
    cl:=fun x c e=>by
      refine aY ?_ (I.cl x c e);intro oc h1 h2;refine uE ?_ (up _ _ h1 (fun vs q=>by rw [h2] at q;cases q));intro sl h3;exact⟨_,h3,h2⟩
    tp:=fun a vs e=>(I.tp a vs e).of_slots up
    ob:=fun a oa e=>by
      have h1:=I.ob a oa e
      cases oa with
      | list xs=>refine dR ?_ h1;clear h1;intro ha vs;refine uE ?_;intro k z h3;exact⟨ha,vs,⟨k,ownS a ha _ z⟩,h3⟩
      | clist xs=>
        refine aY ?_ h1;clear h1;intro vs;refine rt ?_;intro ob z1 z2 k z3 h3;refine uE ?_ (up _ _ z1 (fun vs q=>by rw [z3] at q;cases q));intro sl h4;exact⟨vs,⟨_,h4,z2,k,z3⟩,h3⟩
      | sdict es=>refine dR ?_ h1;clear h1;intro ha ks;refine c6 ?_;intro ob es' ep z r h3;exact⟨ha,ks,⟨ob,es',ep,ownS a ha _ z,r⟩,h3⟩
      | idict es=>refine dR ?_ h1;clear h1;intro ha ks;refine c6 ?_;intro ob es' ep z r h3;exact⟨ha,ks,⟨ob,es',ep,ownS a ha _ z,r⟩,h3⟩
      | inst C ats=>refine d9 ?_ h1;clear h1;intro ha hd h2 es n h3 h4;exact⟨ha,hd,ownS a ha _ h2,es,n,ownS _ hd _ h3,h4⟩
      | stat C=>exact h1
    inj:=I.inj
    dsj:=I.dsj}
theorem SI.frames {B:Bs}{Γ:Fc}{T:TM}{mc kc σ own dof h}{base:Heap}(G:FcOk B Γ)(I:SI B Γ T mc kc σ own dof h)(hb:∀b∈frL Γ,base.get? b=none):h.FunFrames base Γ.frs:=by
  have key:∀l:List Env,(∀e∈l,e∈Γ.frs)→h.FunFrames base l:=by
    intro l
    induction l with
    | nil=>intro _;trivial
    | cons e r ih=>
      intro hl;have he:=hl e (.head _);refine dR ?_ (G.frs e he);intro hk L hL hs;refine⟨hk,⟨L, ?_⟩,ih fun x hx=>hl x (.tail _ hx)⟩;have hm:L∈frL Γ:=List.mem_filterMap.mpr ⟨e,he,hL⟩
      rcases hs with rfl | ⟨o,ho⟩
      · refine bz ?_ I.ns;intro o es ep h1 h2 _;exact⟨o,hL,hb _ hm,h1,fun vs q=>by rw [h2] at q;cases q⟩
      · refine uA ?_ (I.sn _ ho);refine uE ?_;intro sl h1 h2;refine eu ?_ (G.snf _ ho);intro es ep h3;exact⟨_,hL,hb _ hm,h1,fun vs q=>by have:o.data= .fields vs:=q;rw [h3] at this;cases this⟩
  exact key _ fun _ h=>h
inductive rE (B:Bs)(Γ:Fc)(own:List Addr)(e:Addr)(y:Str)(h:Heap)(P:Value→Prop):Prop
  | mk (oe:Obj) (vs:Array Value) (d:Addr) (es:Obj) (n:Nat) (a0:Value) (Tb:Addr) (oT:Obj) (ts:Array Value) (fl:Value) (h1:h.get? e=some oe) (h2:oe.cls= .ref 38) (h3:oe.dict=some d) (h4:oe.data= .fields vs) (h5:vs[0]?=some a0) (h6:d∈own) (h7:h.get? d=some es) (h8:nW y es)
    (h9:e∉own) (h10:Γ.h₀.get? e=none) (h11:∀p∈Γ.pin,p.1≠e) (h12:vs[1]?=some (.ref Tb)) (h13:Tb≠e) (h14:h.get? Tb=some oT) (h15:oT.data= .fields ts) (h16:ts[3]?=some fl) (h17:P fl) (h18:Tb∉own) (h19:Γ.h₀.get? Tb=none) (h20:∀p∈Γ.pin,p.1≠Tb)
theorem rE.toI {B:Bs}{Γ:Fc}{own e y h}{P:Value→Prop}(x:rE B Γ own e y h P)(hP:∀v,P v→v= .none∨∃L,Γ.env.frame=some L∧v=rawInt L):rD B Γ own e y h:=by
  obtain ⟨oe,vs,d,es,n,a0,Tb,oT,ts,fl,h1,h2,h3,h4,h5,h6,h7,h8,h9,h10,h11,h12,h13,h14,h15,h16,h17,h18,h19,h20⟩:=x;exact⟨oe,vs,d,es,n,a0,h1,h2,h3,h4,h5,h6,h7,h8,h9,h10,h11, .inr ⟨Tb,oT,ts,fl,h12,h13,h14,h15,h16,hP fl h17,h18,h19,h20⟩⟩
inductive rh (B:Bs)(Γ:Fc)(T:TM)(E:Str→AH→Prop)(P:Value→Prop)(ev:Value)(s':Shared):Prop
  | mk (e:Addr) (T':TM) (mc' kc':Str→Option Value) (σ':AH) (y:Str) (own:List Addr) (dof:Addr→Addr) (h1:ev= .ref e) (h2:cC T T') (h3:SI B Γ T' mc' kc' σ' own dof s'.heap) (h4:Sm Γ.sh s') (h5:rE B Γ own e y s'.heap P) (h6:E y σ')
theorem rh.toE {B:Bs}{Γ:Fc}{T:TM}{E:Str→AH→Prop}{P:Value→Prop}{v s}(hP:∀v,P v→v= .none∨∃L,Γ.env.frame=some L∧v=rawInt L):rh B Γ T E P v s→PE B Γ T E v s:=
  fun⟨e,T',mc',kc',σ',y,own,dof,h1,h2,h3,h4,h5,h6⟩=>⟨e,T',mc',kc',σ',y,own,dof,h1,h2,h3,h4,h5.toI hP,h6⟩
section
variable {B:Bs}{n:Nat}{m:ax}{Q:V→AH→Prop}{E:Str→AH→Prop}{σ:AH}
theorem jt {Γ:Fc}{A:Around}{T T':TM}{mc' kc' σ' own dof}{s:Shared}{e:Addr}{y:Str}{hadNext:Bool}{head:Value}{E':Value→Shared→Prop}(G:mB B Γ)(hA:A.frames=some Γ.frs)(hT:cC T T')(I:SI B Γ T' mc' kc' σ' own dof s.heap)(hm:Sm Γ.sh s)(hev:E y σ')
    {oe:Obj} {vs:Array Value} {d:Addr} {es:Obj} {a0:Value} (h1:s.heap.get? e=some oe) (h2:oe.cls= .ref 38) (h3:oe.dict=some d) (h4:oe.data= .fields vs) (h5:vs[0]?=some a0) (hz:1<vs.size) (h6:d∈own) (h7:s.heap.get? d=some es) (h8:nW y es)
    (h9:e∉own) (h10:Γ.h₀.get? e=none) (h11:∀p∈Γ.pin,p.1≠e):
    wpAny B.M A (do let a ←frameOf Γ.env;let pl ←entryPlaceOf Γ.env.locals hadNext;let b ←EntryCells.newEntry head a .none (rawInt Γ.env.locals) .none pl;setField (.ref e) 1 b)
      (fun _ s'=>rh B Γ T E (fun v=>v=rawInt Γ.env.locals) (.ref e) s') E' s:=by
  refine uE ?_ G.hd;intro outer hout;have ne_fr:e∉frL Γ:=fun q=>by
    rcases G.frL q with rfl | ⟨o,ho⟩
    · refine bz ?_ I.ns;intro o es ep z1 z2 _;rw [h1] at z1;(refine sj ?_ z1;clear z1;intro e1;subst e1);rw [h4] at z2;cases z2
    · refine uA ?_ (I.sn _ ho);refine uE ?_;intro sl z1 _;refine eu ?_ (G.snf _ ho);intro es2 ep2 z2;rw [h1] at z1;(refine sj ?_ z1;clear z1;intro e1;subst e1);have:o.data= .fields vs:=h4;rw [z2] at this;cases this
  have hfun:=I.frames (base:=hideAll s.heap (frL Γ)) G.toFcOk fun b hb=>hideAll_none _ hb;rw [hout] at hfun hA;refine wpAny_bind (wpAny_frameOf_fun hA hfun G.fr fun h₁ hs₁=> ?_);have hs1:∀b,b∉frL Γ→h₁.get? b=s.heap.get? b:=fun b hb=>hs₁.2.1 b (by unfold frL at hb;rw [hout] at hb;exact hb);refine wpAny_bind (wpAny_entryPlaceOf fun pl hpl=> ?_);refine wpAny_bind (wpAny_newObj_type ?_ (hpl.sizeOk5 _ _ _ _ _));have he₁:h₁.get? e=some oe:=(hs1 e ne_fr).trans h1;generalize hobj:({cls:= .type "traceback",dict:=none,data:= .fields ([head, .ref Γ.env.locals, .none,rawInt Γ.env.locals, .none]++(if pl.isEmpty then List.replicate 6 Value.none else pl)).toArray}:Obj)=tbo;have he₂:=Heap.get?_push_of_some (h:=h₁) tbo he₁;have hfreed:tbo.isFreed=false:=by refine ch hobj ?_;rfl
  have hTe:h₁.objs.size≠e:=Nat.ne_of_gt (xf he₁);refine wpAny_setField (o:=oe) he₂ h4 hz ?_;have hd₃:=Obj.data_mapFields h4 (·.setIfInBounds 1 (Value.ref h₁.objs.size));have he₃:=Heap.get?_update_self (Obj.mapFields (·.setIfInBounds 1 (Value.ref h₁.objs.size))) he₂ (Obj.isFreed_of_fields hd₃);have hT₃:=(Heap.get?_update_other (h₁.push tbo) (Obj.mapFields (·.setIfInBounds 1 (Value.ref h₁.objs.size))) (Ne.symm hTe)).trans (Heap.get?_push_size h₁ hfreed);have keep:∀b o,b≠e→h₁.get? b=some o→((h₁.push tbo).update e (Obj.mapFields (·.setIfInBounds 1 (Value.ref h₁.objs.size)))).get? b=some o:=fun b o hbe hb=>by
    refine ah (Heap.get?_update_other _ _ (Ne.symm hbe)) ?_;exact Heap.get?_push_of_some _ hb
  have stands:∀b o,s.heap.get? b=some o→b≠h₁.objs.size:=fun b o hb q=>by
    refine uE ?_ (hs₁.2.2 b o hb);intro sl z;exact absurd (xf z) (by refine ah q ?_;exact xl _)
  have I':=I.slots (h':=(h₁.push tbo).update e (Obj.mapFields (·.setIfInBounds 1 (Value.ref h₁.objs.size)))) G.toFcOk [e] (fun b hb=>by refine ah (List.mem_singleton.mp hb) ?_;exact⟨h9,h10,h11⟩)
    (fun b o x n1 n2=>keep b o (fun q=>n1 (by refine ah q ?_;exact .head _)) ((hs1 b n2).trans x)) fun b o x nf=>by
      refine uE ?_ (hs₁.2.2 b o x);intro sl z;exact⟨sl,keep b _ (fun q=>by rw [q,h1] at x;(refine sj ?_ x;clear x;intro e1;subst e1);exact nf vs h4) z⟩
  have hdne:d≠e:=fun q=>h9 (q▸h6);have hd_fr:d∉frL Γ:=fun q=>by
    rcases G.frL q with z | ⟨o',ho'⟩
    · exact(I.ow _ h6).1 z
    · exact(I.sn _ ho').2 h6
  have hdict:(Obj.mapFields (·.setIfInBounds 1 (Value.ref h₁.objs.size)) oe).dict=oe.dict:=by
    obtain ⟨c,d,dt,sl⟩:=oe;cases dt<;>rfl
  refine⟨e,T',mc',kc',σ',y,own,dof,rfl,hT,I',hm,⟨_,_,d,es,0,a0,h₁.objs.size,tbo,_,rawInt Γ.env.locals,he₃,(Obj.cls_mapFields _ _).trans h2,hdict.trans h3,hd₃, ?_,h6,keep d _ hdne ((hs1 d hd_fr).trans h7),h8,h9,h10,h11,by simp [hz],hTe,hT₃,by exact congrArg _ hobj.symm, ?_,rfl, ?_, ?_, ?_⟩,hev⟩
  · refine ah (Array.getElem?_setIfInBounds_ne (by decide)) ?_;exact h5
  · simp
  · intro q;refine gV ?_ (I.ow _ q);intro _ _ _ o z _;exact stands _ o z rfl
  · cases q:Γ.h₀.get? h₁.objs.size with
    | none=>rfl
    | some o=>exact absurd rfl (stands _ o (I.keep _ _ q))
  · intro p hp;exact stands _ _ (I.pn p hp).1
theorem kX {Γ:Fc}{A:Around}{T:TM}{s:Shared}{ev:Value}{E':Value→Shared→Prop}(G:mB B Γ)(hA:A.frames=some Γ.frs)(h:PE B Γ T E ev s):
    wpAny B.M A (noteFrame ev Γ.env) (fun _ s'=>rh B Γ T E (fun v=>v=rawInt Γ.env.locals) ev s') E' s:=by
  obtain ⟨e,T',mc',kc',σ',y,own,dof,rfl,hT,I,hm,⟨oe,vs,d,es,n,a0,h1,h2,h3,h4,h5,h6,h7,h8,h9,h10,h11,hst⟩,hev⟩:=h;unfold noteFrame;simp only [G.fr]
  rcases hst with hst | ⟨Tb,oT,ts,fl,h12,h13,h14,h15,h16,h17,h18,h19,h20⟩
  · refine wpAny_bind (wpAny_field h1 h4 hst ?_);refine ah (if_neg (by decide)) ?_;exact jt G hA hT I hm hev h1 h2 h3 h4 h5 (Array.getElem?_eq_some_iff.mp hst).1 h6 h7 h8 h9 h10 h11
  · have hz1:=(Array.getElem?_eq_some_iff.mp h12).1;refine wpAny_bind (wpAny_field h1 h4 h12 ?_);refine ah (if_pos (show (Value.ref Tb !=Value.none)=true from by simp)) ?_;refine wpAny_bind (wpAny_field h14 h15 h16 ?_)
    by_cases q:fl=rawInt Γ.env.locals
    · refine ah (if_pos (by rw [q];simp [rawInt])) ?_;exact wpAny_pure ⟨e,T',mc',kc',σ',y,own,dof,rfl,hT,I,hm,⟨oe,vs,d,es,n,a0,Tb,oT,ts,fl,h1,h2,h3,h4,h5,h6,h7,h8,h9,h10,h11,h12,h13,h14,h15,h16,q,h18,h19,h20⟩,hev⟩
    · have q':fl= .none:=by
        rcases h17 with z | ⟨L,hL,z⟩
        · exact z
        · rw [G.fr] at hL;(refine sj ?_ hL;clear hL;intro e1;subst e1);exact absurd z q
      subst q';refine ah (if_neg (show¬((Value.none==rawInt Γ.env.locals)=true) from by simp [rawInt])) ?_;refine wpAny_bind (wpAny_setField h14 h15 (Array.getElem?_eq_some_iff.mp h16).1 ?_);have other:∀b,b≠Tb→(s.heap.update Tb (Obj.mapFields (·.setIfInBounds 3 Value.none))).get? b=s.heap.get? b:=fun b hb=>Heap.get?_update_other _ _ (Ne.symm hb);have I':=I.slots (h':=s.heap.update Tb (Obj.mapFields (·.setIfInBounds 3 Value.none))) G.toFcOk [Tb] (fun b hb=>by refine ah (List.mem_singleton.mp hb) ?_;exact⟨h18,h19,h20⟩)
        (fun b o x n1 n2=>(other b (fun z=>n1 (by refine ah z ?_;exact .head _))).trans x) (fun b o x nf=>⟨o.slots,(other b (fun z=>by rw [z,h14] at x;(refine sj ?_ x;clear x;intro e1;subst e1);exact nf ts h15)).trans x⟩)
      exact jt (s:={s with heap:=s.heap.update Tb (Obj.mapFields (·.setIfInBounds 3 Value.none))}) G hA hT I' hm hev ((other e (Ne.symm h13)).trans h1) h2 h3 h4 h5 hz1 h6 ((other d (fun z=>h18 (z▸h6))).trans h7) h8 h9 h10 h11
theorem fH {Γ:Fc}{A:Around}{T:TM}{s:Shared}{ev:Value}{E':Value→Shared→Prop}{P:Value→Prop}{x:Option Addr}(G:FcOk B Γ)(h:rh B Γ T E P ev s):
    wpAny B.M A (setFlight ev x) (fun _ s'=>rh B Γ T E (fun v=>v=x.elim .none fun f=>rawInt f) ev s') E' s:=by
  obtain ⟨e,T',mc',kc',σ',y,own,dof,rfl,hT,I,hm,⟨oe,vs,d,es,n,a0,Tb,oT,ts,fl,h1,h2,h3,h4,h5,h6,h7,h8,h9,h10,h11,h12,h13,h14,h15,h16,h17,h18,h19,h20⟩,hev⟩:=h;refine wpAny_bind (wpAny_field h1 h4 h12 ?_);refine ah (if_pos (show (Value.ref Tb !=Value.none)=true from by simp)) ?_;have hz3:=(Array.getElem?_eq_some_iff.mp h16).1;refine wpAny_setField h14 h15 hz3 ?_;have other:∀b,b≠Tb→(s.heap.update Tb (Obj.mapFields (·.setIfInBounds 3 (x.elim Value.none fun f=>rawInt f)))).get? b=s.heap.get? b:=fun b hb=>Heap.get?_update_other _ _ (Ne.symm hb);have I':=I.slots (h':=s.heap.update Tb (Obj.mapFields (·.setIfInBounds 3 (x.elim Value.none fun f=>rawInt f)))) G [Tb] (fun b hb=>by refine ah (List.mem_singleton.mp hb) ?_;exact⟨h18,h19,h20⟩)
    (fun b o x n1 n2=>(other b (fun z=>n1 (by refine ah z ?_;exact .head _))).trans x) (fun b o x nf=>⟨o.slots,(other b (fun z=>by rw [z,h14] at x;(refine sj ?_ x;clear x;intro e1;subst e1);exact nf ts h15)).trans x⟩)
  exact⟨e,T',mc',kc',σ',y,own,dof,rfl,hT,I',hm,⟨oe,vs,d,es,n,a0,Tb,_,_,_,(other e (Ne.symm h13)).trans h1,h2,h3,h4,h5,h6,(other d (fun z=>h18 (z▸h6))).trans h7,h8,h9,h10,h11,h12,h13,Heap.get?_update_self _ h14 (Obj.isFreed_of_fields (Obj.data_mapFields h15 _)),Obj.data_mapFields h15 _,by simp [hz3],rfl,h18,h19,h20⟩,hev⟩
theorem pS {Γ:Fc}{A:Around}{T:TM}{s:Shared}{ev:Value}{E':Value→Shared→Prop}(G:mB B Γ)(hA:A.frames=some Γ.frs)(h:PE B Γ T E ev s):
    wpAny B.M A (leaving Γ.env ev) (fun _ s'=>rh B Γ T E (fun v=>v= .none) ev s') E' s:=by
  exact wpAny_bind (wpAny_mono (kX (E':=E') G hA h) (fun _ _ h'=>fH (x:=none) G.toFcOk h') fun _ _ x=>x)
theorem ke {Γ:Fc}{A:Around}{T:TM}(G:mB B Γ)(hA:A.frames=some Γ.frs):PassesOwn B.M A Γ.env (PE B Γ T E):=by
  intro ev s h;refine wpAny_mono (kX (E':=cameBackBy B.M A Γ.env (PE B Γ T E)) G hA h) (fun _ s' h'=> ?_) fun _ _ x=>x;have h'':=h';obtain ⟨e,T',mc',kc',σ',y,own,dof,rfl,hT,I,hm,⟨oe,vs,d,es,n,a0,Tb,oT,ts,fl,h1,h2,h3,h4,h5,h6,h7,h8,h9,h10,h11,h12,_⟩,hev⟩:=h'';refine wpAny_bind (wpAny_field h1 h4 h12 ?_);refine ah (if_neg (show¬((Value.ref Tb==Value.none)=true) from by simp)) ?_;refine wpAny_mono (fH (x:=Γ.env.frame) (E':=PE B Γ T E) G.toFcOk h') (fun _ _ h2=>h2.toE fun v hv=> ?_) fun _ _ x=>x;subst hv;exact .inr ⟨_,G.fr,by refine ah G.fr ?_;rfl⟩
end
end
section
noncomputable def zl:List Str→List V→Str→Option V
  | [],_,_=>none
  | p::ps,vs,x=>match vs with
    | []=>none
    | v::vs=>if p=x then some v else zl ps vs x
noncomputable def qM (G:Str→Option V)(ps:List Str)(vs:List V)(x:Str)(k:NameKind):Option cB:=match k with
  | .local=>some (.loc (zl ps vs x))
  | .cell=>some (.cel (zl ps vs x))
  | .globalImplicit=>(G x).map .glob
  | _=>none
noncomputable def li (f:Str→NameKind→Option cB):List (Str×NameKind)→ax
  | []=>[]
  | e::r=>match f e.1 e.2 with
    | some s=>(e.1,s)::li f r
    | none=>li f r
noncomputable abbrev iA (G:Str→Option V)(ps:List Str)(vs:List V):List (Str×NameKind)→ax:=li (qM G ps vs)
noncomputable def bp:ax→List (Option V)→ax
  | [],_=>[]
  | e::r,vs=>match e.2 with
    | .loc _=>(match vs with | v::vs=>(e.1, .loc v)::bp r vs | []=>e::bp r [])
    | .cel _=>(match vs with | v::vs=>(e.1, .cel v)::bp r vs | []=>e::bp r [])
    | _=>e::bp r vs
theorem kS {f:Str→NameKind→Option cB}{x:Str}{s:cB}:∀{names:List (Str×NameKind)},lk (li f names) x=some s→∃k,(x,k)∈names∧f x k=some s:=by
  intro names
  induction names with
  | nil=>exact fun h=>nn h
  | cons e r ih=>
    intro h;have old:lk (li f r) x=some s→∃k,(x,k)∈e::r∧f x k=some s:=fun h=>(ih h).elim fun k h=>⟨k, .tail _ h.1,h.2⟩
    have h:lk (match f e.1 e.2 with | some s=>(e.1,s)::li f r | none=>li f r) x=some s:=h
    cases q:f e.1 e.2 with
    | none=>rw [q] at h;exact old h
    | some s'=>
      rw [q] at h;have h:(if e.1=x then some s' else lk (li f r) x)=some s:=h
      by_cases c:e.1=x
      · rw [if_pos c] at h;exact⟨e.2,c▸ .head _,c▸q.trans h⟩
      · rw [if_neg c] at h;exact old h
noncomputable def fL (scope:Scope)(ps:List Str):Bool:=
  scope.names.all (fun p=>scope.names.lookup p.1==some p.2&&(p.1==("__debug__":Str))==false)&&ps.all (fun p=>scope.names.lookup p==some .local || scope.names.lookup p==some .cell)
section
variable {kf:Str→Option NameKind}{x:Str}
theorem oj:∀(ps:List Str) (vals:List Value) (m:Str→Option Value),x∉ps→bindL kf (ps.zip vals) m x=m x:=by
  intro ps
  induction ps with
  | nil=>exact fun _ _ _=>rfl
  | cons p ps ih=>
    intro vals m h
    cases vals with
    | nil=>rfl
    | cons v vals=>
      refine(ih vals _ fun q=>h (.tail _ q)).trans ?_
      by_cases c:kf p=some .local
      · refine ah (if_pos c) ?_;exact if_neg fun(q:x=p)=>h (q▸ .head _)
      · exact ah (if_neg c) rfl
theorem oi:∀(ps:List Str) (vals:List Value) (m:Str→Option Value),x∉ps→bindC kf (ps.zip vals) m x=m x:=by
  intro ps
  induction ps with
  | nil=>exact fun _ _ _=>rfl
  | cons p ps ih=>
    intro vals m h
    cases vals with
    | nil=>rfl
    | cons v vals=>
      refine(ih vals _ fun q=>h (.tail _ q)).trans ?_
      by_cases c:kf p=some .local
      · exact ah (if_pos c) rfl
      · refine ah (if_neg c) ?_;exact if_neg fun(q:x=p)=>h (q▸ .head _)
variable {T:TM}{y:V}
theorem fE:∀(ps:List Str) (vs:List V) (vals:List Value),ps.Nodup→bS T vs vals→zl ps vs x=some y→∃c,RV T y c∧(kf x=some .local→∀m,bindL kf (ps.zip vals) m x=some c)∧(kf x=some .cell→∀m,bindC kf (ps.zip vals) m x=some c):=by
  intro ps
  induction ps with
  | nil=>exact fun _ _ _ _ h=>nn h
  | cons p ps ih=>
    intro vs vals hn hr h
    cases vs with
    | nil=>exact nn h
    | cons v vs=>
      refine uA ?_ (List.nodup_cons.mp hn);intro h1 h2;refine eC hr fun c r hc hr=> ?_
      by_cases q:p=x
      · subst q;exact⟨c,xg ((if_pos rfl).symm.trans h)▸hc,fun hk m=>(oj ps r _ h1).trans (by refine ah (if_pos hk) ?_;exact if_pos rfl),fun hk m=>(oi ps r _ h1).trans (by refine ah (if_neg (by rw [hk];exact nofun)) ?_;exact if_pos rfl)⟩
      · refine bI ?_ (ih vs r h2 hr ((if_neg q).symm.trans h));intro c' h3 h4 h5;exact⟨c',h3,fun hk _=>h4 hk _,fun hk _=>h5 hk _⟩
end
theorem c8 {x:Str}:∀(names:List (Str×NameKind)) (n:Nat) (acc:List (Str×Addr)),(acc.lookup x).isSome=true∨(x,NameKind.cell)∈names→((cellsFrom n names acc).lookup x).isSome=true:=by
  intro names
  induction names with
  | nil=>exact fun _ _ h=>h.elim id fun h=>nomatch h
  | cons e r ih=>
    intro n acc h
    refine(?_:((if (e.2==NameKind.cell)=true then cellsFrom (n+1) r ((e.1,n)::acc) else cellsFrom n r acc).lookup x).isSome=true)
    by_cases hk:(e.2==NameKind.cell)=true
    · refine ah (if_pos hk) ?_;refine ih _ _ ?_
      by_cases q:(x==e.1)=true
      · left;refine ah List.lookup_cons (ah q ?_);rfl
      · refine ah List.lookup_cons (ah (Bool.eq_false_iff.mpr q) ?_);exact h.imp id fun h=>(List.mem_cons.mp h).elim (fun z=>absurd (beq_iff_eq.mpr (congrArg Prod.fst z)) q) id
    · refine ah (if_neg hk) ?_;exact ih _ _ (h.imp id fun h=>(List.mem_cons.mp h).elim (fun z=>absurd (by refine ch z ?_;rfl) hk) id)
inductive pf (K:Frag)(f:Addr)(ps:List Str)(ds:List V)(body:List Stmt)(scope:Scope):Prop
  | mk (name qual:Str) (params:Arguments) (dV kV doc pm:Value) (an:Option Addr) (cdv ct oc:Value) (od:Option Addr) (osl:Array (Option Value))
    (h1:K.lookup f=some ⟨oc,od, .func (fnOf name qual params body scope dV kV doc pm an cdv ct),osl⟩) (h2:codeIn K cdv qual=true) (h3:scope.isCoroutine=false) (h4:scope.isGenerator=false) (h5:scope.kind= .function)
    (h6:fL scope ps=true) (h7:ps.Nodup)
    (h8:∀s vals,K.In s.heap→vals.length+ds.length=ps.length→∃dv,(∀T,bS T ds dv)∧BindsTo s (fnOf name qual params body scope dV kV doc pm an cdv ct) ⟨vals,[]⟩ (ps.zip (vals++dv)))
noncomputable abbrev sN (K:Frag)(f:Addr)(ps:List Str)(body:List Stmt)(scope:Scope):Prop:=pf K f ps [] body scope
section
variable {B:Bs}{n:Nat}{m:ax}{Q:V→AH→Prop}{E:Str→AH→Prop}{σ:AH}
noncomputable abbrev eH (Γ:Fc)(env:Env)(own:List Addr)(oL:Obj)(s:Shared):Fc:=
  { env:=env,h₀:=hideAll s.heap (own++Γ.env.locals::Γ.snap.map (·.1)),snap:=(Γ.env.locals,oL)::Γ.snap,frs:=env::Γ.frs,pin:=Γ.pin,sh:=s}
theorem eG {Γ:Fc}{env:Env}{oL:Obj}{T mc kc own dof}{s:Shared}(G:FcOk B Γ)(I:SI B Γ T mc kc σ own dof s.heap):Γ.h₀.StaysIn (eH Γ env own oL s).h₀:=fun b o e=>
  hideAll_get _ (I.keep b o e) fun q=>by
    rcases List.mem_append.mp q with q | q
    · rw [(I.ow b q).2.1] at e;exact nn e
    · rcases List.mem_cons.mp q with rfl | q
      · exact absurd (xf e) (Nat.not_lt.mpr I.above)
      · refine aY ?_ (List.mem_map.mp q);rintro p hp rfl;rw [G.sn0 p hp] at e;exact nn e
theorem qX {Γ:Fc}{env:Env}{oL:Obj}{T mc kc own dof}{s:Shared}(G:FcOk B Γ)(I:SI B Γ T mc kc σ own dof s.heap){b:Addr}{o:Obj}(h:s.heap.get? b=some o)(h1:b∉own)(h2:∀es ep,o.data≠ .dict es ep):(eH Γ env own oL s).h₀.get? b=some o:=
  hideAll_get _ h fun q=>by
    rcases List.mem_append.mp q with q | q
    · exact h1 q
    · rcases List.mem_cons.mp q with rfl | q
      · refine bz ?_ I.ns;intro o' es ep z1 z2 _;rw [h] at z1;(refine sj ?_ z1;clear z1;intro e1;subst e1);exact h2 _ _ z2
      · refine aY ?_ (List.mem_map.mp q);rintro p hp rfl;refine uA ?_ (I.sn p hp);refine uE ?_;intro sl z1 _;refine eu ?_ (G.snf p hp);intro es ep z2;rw [h] at z1;(refine sj ?_ z1;clear z1;intro e1;subst e1);exact h2 _ _ z2
theorem SI.back {Γ:Fc}{env:Env}{oL:Obj}{T T' mc kc mc' kc' own dof own' dof'}{σ':AH}{s:Shared}{h:Heap}(G:FcOk B Γ)(I:SI B Γ T mc kc σ own dof s.heap)(hoL:s.heap.get? Γ.env.locals=some oL)
    (I':SI B (eH Γ env own oL s) T' mc' kc' σ' own' dof' h):SI B Γ T' mc kc σ' own' dof' h:=by
  have hst:=eG (env:=env) (oL:=oL) G I;refine uA ?_ (I'.sn _ (.head _));refine uE ?_;intro sl hL hLo
  exact
  { ns:=by
      refine bz ?_ I.ns;intro o' es ep z1 z2 z3;rw [hoL] at z1;(refine sj ?_ z1;clear z1;intro e1;subst e1);exact⟨_,es,ep,hL,z2,z3⟩
    keep:=fun b o e=>I'.keep b o (hst b o e)
    above:=I.above
    ow:=fun a ha=>by
      refine dF ?_ (I'.ow a ha);intro h1 h2 h3 h4;refine⟨fun q=>hLo (q▸ha), ?_,h3,h4⟩
      cases q:Γ.h₀.get? a with
      | none=>rfl
      | some o=>have h5:=hst a o q;rw [h2] at h5;exact nn h5
    sn:=fun p hp=>I'.sn p (.tail _ hp)
    pn:=I'.pn
    pt:=I'.pt
    cl:=fun x c e=>by
      refine aY ?_ (I.cl x c e);intro oc h1 h2;have h3:=qX (env:=env) (oL:=oL) G I h1 (fun q=>by refine gV ?_ (I.ow _ q);intro _ _ _ o z z2;rw [h1] at z;(refine sj ?_ z;clear z;intro e1;subst e1);exact z2 _ h2) (fun es ep z=>by rw [h2] at z;cases z);exact⟨oc,I'.keep _ _ h3,h2⟩
    tp:=I'.tp
    ob:=fun a o e=>(I'.ob a o e).base
    inj:=I'.inj
    dsj:=I'.dsj}
theorem su {Γ:Fc}{env:Env}{oL:Obj}{T mc kc own dof}{s s':Shared}{ev:Value}(G:FcOk B Γ)(I:SI B Γ T mc kc σ own dof s.heap)(hm:Sm Γ.sh s)(hoL:s.heap.get? Γ.env.locals=some oL)
    (h:rh B (eH Γ env own oL s) T E (fun v=>v= .none) ev s'):PE B Γ T E ev s':=by
  obtain ⟨e,T',mc',kc',σ',y,own',dof',rfl,hT,I',hm',⟨oe,vs,d,es,n,a0,Tb,oT,ts,fl,h1,h2,h3,h4,h5,h6,h7,h8,h9,h10,h11,h12,h13,h14,h15,h16,h17,h18,h19,h20⟩,hev⟩:=h;have hst:=eG (env:=env) (oL:=oL) G I;have fr:∀b,(eH Γ env own oL s).h₀.get? b=none→Γ.h₀.get? b=none:=fun b hb=>by
    cases q:Γ.h₀.get? b with
    | none=>rfl
    | some o=>exact nn (hb.symm.trans (hst b o q))
  exact⟨e,T',mc,kc,σ',y,own',dof',rfl,hT,I.back G hoL I',⟨hm'.1.trans hm.1,hm'.2.1.trans hm.2.1,hm'.2.2.trans hm.2.2⟩,
    ⟨oe,vs,d,es,n,a0,h1,h2,h3,h4,h5,h6,h7,h8,h9,fr e h10,h11, .inr ⟨Tb,oT,ts,fl,h12,h13,h14,h15,h16, .inl h17,h18,fr Tb h19,h20⟩⟩,hev⟩
noncomputable def CC (B:Bs)(n:Nat)(f:V)(xs:List V)(Q:V→AH→Prop)(E:Str→AH→Prop)(σ:AH):Prop:=
  ∀Γ A T mc kc s vf vs,FcOk B Γ→ea n Γ A→S B Γ T mc kc σ s→RV T f vf→bS T xs vs→
    codeAny B.M A (.call vf ⟨vs,[]⟩) (fun r s'=>match r with | .ok (.ret v)=>PQ B Γ T mc kc Q v s' | .ok _=>False | .error e=>PE B Γ T E e s') s
theorem CC.cv {f:V}{xs:List V}(h:CC B n f xs Q E σ):CV B n f xs Q E σ:=fun Γ A T mc kc s vf vs G HA HS hf hv=>wpAny_call (h Γ A T mc kc s vf vs G HA HS hf hv)
theorem iR {G:Str→Option V}{f:Addr}{ps:List Str}{ds:List V}{body:List Stmt}{scope:Scope}{xs₀:List V}(F:pf B.K f ps ds body scope)(hG:∀x v,G x=some v→dy B x v)(hl₀:xs₀.length+ds.length=ps.length)
    {Γ:Fc} {A:Around} {T:TM} {mc kc:Str→Option Value} {s:Shared} {vs₀:List Value} {own:List Addr} {dof:Addr→Addr} {R:Result→Shared→Prop} (G₀:FcOk B Γ) (HA:ea (n+1) Γ A) (I:SI B Γ T mc kc σ own dof s.heap) (hv₀:bS T xs₀ vs₀)
    (h:∀env oL mc' kc' s',s.heap.get? Γ.env.locals=some oL→mB B (eH Γ env own oL s)→ea n (eH Γ env own oL s) (A.deeper env)→SI B (eH Γ env own oL s) T mc' kc' σ own dof s'.heap→Sm s s'→(∀b o,s.heap.get? b=some o→s'.heap.get? b=some o)→
      bT B (eH Γ env own oL s) T mc' kc' (iA G ps (xs₀++ds) scope.names)→
      wpAny B.M (A.deeper env) (execs body env) (fun fl s₁=>R (.ok (.ret (match fl with | .ret v=>v | _=> .none))) s₁) (fun ev s₁=>wpAny B.M (A.deeper env) (leaving env ev) (fun _ s₂=>R (.error ev) s₂) (fun e' s₂=>R (.error e') s₂) s₁) s'):
    codeAny B.M A (.call (.ref f) ⟨vs₀,[]⟩) R s:=by
  obtain ⟨name,qual,params,dV,kV,doc,pm,an,cdv,ct,oc,od,osl,ho,hcd,hco,hgen,hk,hok,hnd,hbind⟩:=F;have X:=G₀.stat.k.keeps I.keep;have hok':=hok;unfold fL at hok';refine uA ?_ (Bool.and_eq_true_iff.mp hok');intro ok1 ok2;have ok1':∀x k,(x,k)∈scope.names→scope.names.lookup x=some k∧(x==("__debug__":Str))=false:=fun x k hm=>by
    have:=List.all_eq_true.mp ok1 _ hm;simp only [Bool.and_eq_true,beq_iff_eq] at this;exact this
  refine aY ?_ (hbind s vs₀ X (by refine ah hv₀.length ?_;exact hl₀));intro dv hdv hbind;generalize hxs:xs₀++ds=xs at h;generalize hvs:vs₀++dv=vs at hbind;have hv:bS T xs vs:=by refine ch hxs (ch hvs ?_);exact bS.append hv₀ (hdv T)
  have hl:xs.length=ps.length:=by refine ch hxs (ah List.length_append ?_);exact hl₀
  have hlv:vs.length=ps.length:=hv.length.trans hl;refine codeAny_call_function (fd:=fnOf name qual params body scope dV kV doc pm an cdv ct) (body:=body) (by have:=HA.depth;lia) (X _ _ ho) rfl hco hgen rfl (codeRec_of X hcd) ?_;refine hbind _ _ _ _ ?_;have memL:∀x k,scope.names.lookup x=some k→(x,k)∈scope.names:=fun x k e=>mem_of_lookup e;refine wpAny_newFunctionEnv_cells hk (fun b hb=> ?_) fun env he s' x=> ?_
  · have hp:b.1∈ps:=(List.of_mem_zip hb).1;have:=List.all_eq_true.mp ok2 _ hp;simp only [Bool.or_eq_true,beq_iff_eq] at this
    rcases this with h1 | h1
    · exact .inl h1
    · exact .inr ⟨h1,c8 _ _ _ (.inr (memL _ _ h1))⟩
  refine⟨(G₀.stat.l.keeps I.keep).keeps x.toInCall.keep,codeAny_func ?_⟩;refine bz ?_ (id I.ns);intro oL esL epL hoL hdL hrL;have hlt:∀b o,s.heap.get? b=some o→b≠s.heap.objs.size:=fun b o e q=>absurd (xf e) (by refine ah q ?_;exact xl _);have eL:env.locals=s.heap.objs.size:=by refine ah he ?_;rfl
  have eC:env.cells=cellsFrom (s.heap.objs.size+1) scope.names []:=by refine ah he ?_;rfl
  have eS:env.scope=scope:=by refine ah he ?_;rfl
  have hst:=eG (env:=env) (oL:=oL) G₀ I;have G':mB B (eH Γ env own oL s):=
  { stat:=G₀.stat.keeps hst
    kind:=by refine ah eS ?_;exact hk
    glb:=by refine ah he ?_;rfl
    blt:=by refine ah he ?_;rfl
    frs:=fun e hm=>by
      rcases List.mem_cons.mp hm with rfl | hm
      · exact⟨by refine ah eS (ah hk ?_);decide,_,by refine ah he ?_;rfl, .inl (by refine ah he ?_;rfl)⟩
      · refine dR ?_ (G₀.frs e hm);intro h1 L h2 h3;refine⟨h1,L,h2, .inr ?_⟩
        rcases h3 with rfl | ⟨o,h3⟩
        · exact⟨_, .head _⟩
        · exact⟨o, .tail _ h3⟩
    snf:=fun p hp=>by
      rcases List.mem_cons.mp hp with rfl | hp
      · exact⟨_,_,hdL⟩
      · exact G₀.snf p hp
    pnf:=G₀.pnf
    sn0:=fun p hp=>hideAll_none _ (by
      rcases List.mem_cons.mp hp with rfl | hp
      · exact List.mem_append_right _ (.head _)
      · exact List.mem_append_right _ (.tail _ (List.mem_map_of_mem hp)))
    snL:=fun p hp=>by
      refine(?_:p.1≠env.locals)
      refine ah eL ?_
      rcases List.mem_cons.mp hp with rfl | hp
      · exact hlt _ _ hoL
      · refine uA ?_ (I.sn p hp);refine uE ?_;intro sl h1 _;exact hlt _ _ h1
    hd:=⟨_,rfl⟩
    fr:=by refine ah he ?_;rfl}
  have HA':ea n (eH Γ env own oL s) (A.deeper env):=
    ⟨Around.frames_deeper HA.frames,HA.handled,by refine(?_:A.depth+1+n<_);rw [Nat.add_assoc,Nat.add_comm 1];exact HA.depth,by refine(?_:A.units+3+8*n<_);refine wZ ?_ HA.units;rw [Nat.mul_succ,Nat.add_comm (8*n),←Nat.add_assoc];exact xc (xe (by decide) _) _⟩
  have HI:SI B (eH Γ env own oL s) T (bindL env.kindOf (ps.zip vs) fun _=>none) (bindC env.kindOf (ps.zip vs) fun _=>none) σ own dof s'.heap:=
  { ns:=x.toInCall.ns
    keep:=fun b o e=>x.toInCall.keep b o (of_hideAll _ e)
    above:=by refine(?_:(hideAll s.heap _).objs.size≤_);rw [hideAll_size];exact x.toInCall.fresh
    ow:=fun a ha=>by
      refine gV ?_ (I.ow a ha);intro h1 h2 h3 o h4 h5;exact⟨by refine(?_:a≠env.locals);refine ah eL ?_;exact hlt _ _ h4,hideAll_none _ (List.mem_append_left _ ha),h3,o,x.toInCall.keep _ _ h4,h5⟩
    sn:=fun p hp=>by
      rcases List.mem_cons.mp hp with rfl | hp
      · exact⟨⟨oL.slots,x.toInCall.keep _ _ hoL⟩,fun q=>(I.ow _ q).1 rfl⟩
      · refine uA ?_ (I.sn p hp);refine uE ?_;intro sl h1 h2;exact⟨⟨sl,x.toInCall.keep _ _ h1⟩,h2⟩
    pn:=fun p hp=>⟨x.toInCall.keep _ _ (I.pn p hp).1,(I.pn p hp).2⟩
    pt:=I.pt
    cl:=fun y c e=>x.cell y c e
    tp:=fun a ws e=>(I.tp a ws e).keeps x.toInCall.keep
    ob:=fun a o e=>((I.ob a o e).keeps x.toInCall.keep).base
    inj:=I.inj
    dsj:=I.dsj}
  have hsm:Sm s s':=by refine eu ?_ x.toInCall.same;rintro h' tk rfl;exact⟨rfl,rfl,rfl⟩
  have HR:bT B (eH Γ env own oL s) T (bindL env.kindOf (ps.zip vs) fun _=>none) (bindC env.kindOf (ps.zip vs) fun _=>none) (iA G ps xs scope.names):=by
    intro y sl e;refine aY ?_ (kS e);intro k h1 h2;refine uA ?_ (ok1' y k h1);intro h3 h4;have hkind:env.kindOf y=some k:=by refine(?_:env.scope.names.lookup y=_);refine ah eS ?_;exact h3
    refine⟨h4, ?_⟩
    cases k with
    | «local»=>
      (refine sj ?_ h2;clear h2;intro e1;subst e1)
      exact⟨hkind,fun v hv'=>(fE ps xs vs hnd hv hv').elim fun c h=>⟨c,h.2.1 hkind _,h.1⟩⟩
    | cell=>
      (refine sj ?_ h2;clear h2;intro e1;subst e1)
      refine uE ?_ (Option.isSome_iff_exists.mp (c8 scope.names (s.heap.objs.size+1) [] (.inr h1)));intro c hc;rw [←eC] at hc;refine⟨hkind,⟨c,hc, ?_,fun z hz=> ?_⟩,fun v hv'=>(fE ps xs vs hnd hv hv').elim fun c h=>⟨c,h.2.2 hkind _,h.1⟩⟩
      · cases q:(eH Γ env own oL s).h₀.get? c with
        | none=>rfl
        | some o=>
          have h5:=xf (of_hideAll _ q);have h6:=x.above y c (mem_of_lookup hc);rw [eL] at h6;exact absurd h5 (Nat.not_lt.mpr (wY h6))
      · exact name_of_addr x.apart (mem_of_lookup hz) (mem_of_lookup hc)
    | globalImplicit=>
      refine aY ?_ (Option.map_eq_some_iff.mp h2);rintro v h5 rfl;exact⟨hkind,hG y v h5⟩
    | _=>exact nn h2
  exact h env oL _ _ s' hoL G' HA' HI hsm x.toInCall.keep HR
theorem o6 {G:Str→Option V}{f:Addr}{ps:List Str}{ds:List V}{body:List Stmt}{scope:Scope}{xs₀:List V}(F:pf B.K f ps ds body scope)(hG:∀x v,G x=some v→dy B x v)(hl₀:xs₀.length+ds.length=ps.length)
    (h:bu B n (iA G ps (xs₀++ds) scope.names) body (fun fl _ σ'=>Q (match fl with | .ret v=>v | _=> .none) σ') E σ):CC B (n+1) (.ref f) xs₀ Q E σ:=by
  intro Γ A T mc kc s vf vs₀ G₀ HA HS hf hv₀
  cases (show vf= .ref f from hf)
  obtain ⟨own,dof,I,hm⟩:=id HS;refine iR F hG hl₀ G₀ HA I hv₀ fun env oL mc' kc' s' hoL G' HA' HI hsm _ HR=> ?_;have key:=h (eH Γ env own oL s) (A.deeper env) T _ _ s' G' HA' ⟨own,dof,HI,hsm⟩ HR;refine wpAny_mono key (fun fl s₁ h₁=> ?_) fun ev s₁ h₁=> ?_
  · obtain ⟨T',mc',kc',m',σ',x',hT,⟨own',dof',I',hm'⟩,HL',hx',hq⟩:=h₁;refine⟨T',σ',_,hT,⟨own',dof',I.back G₀ hoL I', ?_⟩, ?_,hq⟩
    · exact⟨hm'.1.trans hm.1,hm'.2.1.trans hm.2.1,hm'.2.2.trans hm.2.2⟩
    · cases x' with
      | ret v=>refine aY ?_ hx';clear hx';rintro w' rfl hw;exact hw
      | next=>cases (show fl= .next from hx');rfl
      | brk=>cases (show fl= .brk from hx');rfl
      | cont=>cases (show fl= .cont from hx');rfl
  · have:=pS (Γ:=eH Γ env own oL s) (A:=A.deeper env) (E':=fun e' s''=>PE B Γ T E e' s'') G' HA'.frames h₁;exact wpAny_mono this (fun _ s₂ h₂=>su G₀ I hm hoL h₂) fun _ _ x=>x
theorem rb {G:Str→Option V}{f:Addr}{ps:List Str}{body:List Stmt}{scope:Scope}{xs:List V}(F:sN B.K f ps body scope)(hG:∀x v,G x=some v→dy B x v)(hl:xs.length=ps.length)
    (h:bu B n (iA G ps xs scope.names) body (fun fl _ σ'=>Q (match fl with | .ret v=>v | _=> .none) σ') E σ):CC B (n+1) (.ref f) xs Q E σ:=o6 F hG hl (by rw [List.append_nil];exact h)
theorem rz {G:Str→Option V}{f:Addr}{ps:List Str}{ds:List V}{body:List Stmt}{scope:Scope}{xs:List V}(F:pf B.K f ps ds body scope)(hG:∀x v,G x=some v→dy B x v)(hl:xs.length+ds.length=ps.length)
    (h:bu B n (iA G ps (xs++ds) scope.names) body (fun fl _ σ'=>Q (match fl with | .ret v=>v | _=> .none) σ') E σ):CV B (n+1) (.ref f) xs Q E σ:=(o6 F hG hl h).cv
theorem sM {G:Str→Option V}{f:Addr}{ps:List Str}{body:List Stmt}{scope:Scope}{xs:List V}(F:sN B.K f ps body scope)(hG:∀x v,G x=some v→dy B x v)(hl:xs.length=ps.length)
    (h:bu B n (iA G ps xs scope.names) body (fun fl _ σ'=>Q (match fl with | .ret v=>v | _=> .none) σ') E σ):CV B (n+1) (.ref f) xs Q E σ:=(rb F hG hl h).cv
end
end
section
noncomputable def qf:ax→List Str→List V→ax
  | m,x::xs,v::vs=>qf (setL m x v) xs vs
  | m,_,_=>m
noncomputable def cB.mine:cB→Bool
  | .loc _=>true
  | .cel _=>true
  | _=>false
theorem gv {m:ax}{x y:Str}{v:V}(h:y≠x):lk (setL m x v) y=lk m y:=(iJ x v m y).trans (if_neg h)
theorem nL {m:ax}{x:Str}{v:V}:lk (setL m x v) x=(lk m x).map (·.put v):=(iJ x v m x).trans (if_pos rfl)
theorem l5 {m:ax}{a b:Str}{u w:V}(h:a≠b):lk (setL (setL m a u) b w) b=lk (setL (setL m b w) a u) b:=
  nL.trans ((congrArg _ (gv h.symm)).trans ((gv h.symm).trans nL).symm)
theorem qZ {m:ax}{a b:Str}{u w:V}(h:a≠b)(y:Str):lk (setL (setL m a u) b w) y=lk (setL (setL m b w) a u) y:=
  if hb:y=b then(by refine ah hb ?_;exact l5 h) else if ha:y=a then(by refine ah ha ?_;exact(l5 h.symm).symm) else((gv hb).trans (gv ha)).trans ((gv ha).trans (gv hb)).symm
noncomputable def il:Option cB→Bool
  | some s=>s.mine
  | none=>false
noncomputable def da (m:ax)(x:Str):Bool:=il (lk m x)
theorem pT {v:V}:∀{o:Option cB},il o=true→il (o.map (·.put v))=true
  | some (.loc _),_=>rfl
  | some (.cel _),_=>rfl
theorem ik {m:ax}{x y:Str}{v:V}(h:da m y=true):da (setL m x v) y=true:=
  if q:y=x then q▸(congrArg il nL).trans (pT (q▸h)) else(congrArg il (gv q)).trans h
noncomputable def vY (o:Option cB):Bool:=match o with
  | some (.loc _)=>true
  | _=>false
noncomputable def eE (m:ax)(x:Str):Bool:=vY (lk m x)
theorem eE.is {m:ax}{x:Str}(h:eE m x=true):∃o,lk m x=some (.loc o):=by
  unfold eE at h
  revert h
  cases lk m x with
  | none=>exact fun h=>ft h
  | some s=>cases s with
    | loc o=>exact fun _=>⟨o,rfl⟩
    | _=>exact fun h=>ft h
theorem jn {m:ax}{x:Str}{o:Option V}(h:lk m x=some (.loc o)):da m x=true:=congrArg il h
@[elab_as_elim] theorem RF.elim {T:TM}{P:cM→Flow→Prop}{x:cM}{f:Flow}(h:RF T x f)(n:P .next .next)(b:P .brk .brk)(c:P .cont .cont)(r:∀v w,RV T v w→P (.ret v) (.ret w)):P x f:=by
  cases x with
  | next=>exact ah h n
  | brk=>exact ah h b
  | cont=>exact ah h c
  | ret v=>refine aY ?_ h;intro w e q;exact ah e (r v w q)
section
variable {B:Bs}{n:Nat}{m:ax}{E:Str→AH→Prop}{σ:AH}
theorem gg.congr {Γ:Fc}{T:TM}{mc kc mc' kc':Str→Option Value}{x:Str}{sl:cB}(h1:mc' x=mc x)(h2:kc' x=kc x)(h:gg B Γ T mc kc x sl):gg B Γ T mc' kc' x sl:=by
  refine(?_:gg B Γ T (fun _=>mc' x) (fun _=>kc' x) x sl)
  refine ah h1 (ah h2 ?_);exact h
theorem lA.here {T:TM}{v:V}{w:Value}{o:Option Value}(h:o=some w)(hv:RV T v w):lA T (some v) o:=fun _ hz=>⟨w,h,xg hz▸hv⟩
theorem bT.set {Γ:Fc}{T:TM}{mc kc mc' kc':Str→Option Value}{x:Str}{sl:cB}{v:V}(HL:bT B Γ T mc kc m)(e:lk m x=some sl)(h1:∀y,y≠x→mc' y=mc y)(h2:∀y,y≠x→kc' y=kc y)(h3:gg B Γ T mc' kc' x (sl.put v)):bT B Γ T mc' kc' (setL m x v):=fun y sl' e'=>by
  by_cases q:y=x
  · rw [q] at e'⊢;exact xg ((congrArg (Option.map (·.put v)) e).symm.trans (nL.symm.trans e'))▸⟨(HL _ _ e).1,h3⟩
  · have h:=HL y sl' ((gv q).symm.trans e');exact⟨h.1,h.2.congr (h1 y q) (h2 y q)⟩
theorem bT.stored {Γ:Fc}{T:TM}{mc kc:Str→Option Value}{x:Str}{v:V}{w:Value}{o:Option V}(HL:bT B Γ T mc kc m)(hx:lk m x=some (.loc o))(hv:RV T v w):bT B Γ T (fun y=>if y=x then some w else mc y) kc (setL m x v):=
  HL.set hx (fun _ q=>if_neg q) (fun _ _=>rfl) ⟨(HL x _ hx).2.1, .here (if_pos rfl) hv⟩
theorem fM {Γ:Fc}{A:Around}{T:TM}{mc kc:Str→Option Value}{s:Shared}{x:Str}{v:V}{w:Value}{o:Option V}{P:Unit→Shared→Prop}{E':Value→Shared→Prop}(G:FcOk B Γ)(HS:S B Γ T mc kc σ s)(HL:bT B Γ T mc kc m)(hx:lk m x=some (.loc o))(hv:RV T v w)
    (k:∀mc' s',S B Γ T mc' kc σ s'→bT B Γ T mc' kc (setL m x v)→P () s'):wpAny B.M A (storeName Γ.env x w) P E' s:=
  S.casesOn HS fun own dof I hm=>wpAny_storeName_local (HL x _ hx).2.1 I.ns (fun _ hn' hs'=>k _ _ ⟨own,dof,I.local G hn' hs',hm⟩ (HL.stored hx hv)) (by refine ah G.kind ?_;rfl)
theorem iN {Γ:Fc}{A:Around}{T:TM}{mc kc:Str→Option Value}{s:Shared}{x:Str}{v:V}{w:Value}{P:Unit→Shared→Prop}{E':Value→Shared→Prop}(G:FcOk B Γ)(HS:S B Γ T mc kc σ s)(HL:bT B Γ T mc kc m)(hx:da m x=true)(hv:RV T v w)
    (k:∀mc' kc' s',S B Γ T mc' kc' σ s'→bT B Γ T mc' kc' (setL m x v)→P () s'):wpAny B.M A (storeName Γ.env x w) P E' s:=by
  cases e:lk m x with
  | none=>exact ft ((congrArg il e).symm.trans hx)
  | some sl=>cases sl with
    | loc o=>exact fM G HS HL e hv fun mc'=>k mc' kc
    | cel o=>
      obtain ⟨own,dof,I,hm⟩:=HS;refine dc ?_ (HL x _ e).2;intro hk;refine bI ?_;intro c hc hc0 hu ho;refine wpAny_storeName_cell G.kind hk hc (I.cl x c hc) fun h' hn' hs'=> ?_;have I':=I.cell (kc':=fun y=>if y=x then some w else kc y) G hc0 (I.cl x c hc) hn' hs' fun y d e'=>by
        by_cases q:d=c
        · refine ah (if_pos q) ?_;exact if_pos (hu y (q▸e'))
        · refine ah (if_neg q) ?_;exact if_neg fun z=>q (xg (e'.symm.trans ((congrArg (fun y=>Γ.env.cells.lookup y) z).trans hc)))
      exact k mc _ _ ⟨own,dof,I',hm⟩ (HL.set e (fun _ _=>rfl) (fun _ q=>if_neg q) ⟨hk,⟨c,hc,hc0,hu⟩, .here (if_pos rfl) hv⟩)
    | _=>exact ft ((congrArg il e).symm.trans hx)
theorem aj {Q:cM→ax→AH→Prop}(q:Q .next m σ):bu B n m [] Q E σ:=
  fun Γ A T mc kc s G HA HS HL=>wpAny_execs_nil ⟨T,mc,kc,m,σ, .next,cC.refl T,HS,HL,rfl,q⟩
theorem iZ {st:Stmt}{rest:List Stmt}{Q:cM→ax→AH→Prop}(h:SV B n m st (fun fl m' σ'=>match fl with | .next=>bu B n m' rest Q E σ' | f=>Q f m' σ') E σ):bu B n m (st::rest) Q E σ:=by
  intro Γ A T mc kc s G HA HS HL;refine wpAny_execs_cons (wpAny_mono (h Γ A T mc kc s G HA HS HL) ?_ fun _ _ x=>x);rintro f s' ⟨T',mc',kc',m',σ',x,hT,HS',HL',hf,hq⟩
  revert hq
  refine RF.elim hf (fun hq=>wpAny_mono (hq Γ A T' mc' kc' s' G HA HS' HL') (fun _ _=>PF.mono hT) fun _ _=>PE.mono hT) (fun hq=> ?_) (fun hq=> ?_) (fun v w hw hq=> ?_)
  · exact⟨T',mc',kc',m',σ', .brk,hT,HS',HL',rfl,hq⟩
  · exact⟨T',mc',kc',m',σ', .cont,hT,HS',HL',rfl,hq⟩
  · exact⟨T',mc',kc',m',σ', .ret v,hT,HS',HL',⟨w,rfl,hw⟩,hq⟩
theorem bu.mono {st:List Stmt}{Q Q':cM→ax→AH→Prop}(h:bu B n m st Q E σ)(k:∀f m σ,Q f m σ→Q' f m σ):bu B n m st Q' E σ:=
  fun Γ A T mc kc s G HA HS HL=>wpAny_mono (h Γ A T mc kc s G HA HS HL) (fun _ _ ⟨a,b,c,d,e,f,h1,h2,h3,h4,h5⟩=>⟨a,b,c,d,e,f,h1,h2,h3,h4,k _ _ _ h5⟩) fun _ _ x=>x
theorem SV.mono {st:Stmt}{Q Q':cM→ax→AH→Prop}(h:SV B n m st Q E σ)(k:∀f m σ,Q f m σ→Q' f m σ):SV B n m st Q' E σ:=
  fun Γ A T mc kc s G HA HS HL=>wpAny_mono (h Γ A T mc kc s G HA HS HL) (fun _ _ ⟨a,b,c,d,e,f,h1,h2,h3,h4,h5⟩=>⟨a,b,c,d,e,f,h1,h2,h3,h4,k _ _ _ h5⟩) fun _ _ x=>x
theorem CV.mono {f:V}{xs:List V}{Q Q':V→AH→Prop}{E':Str→AH→Prop}(h:CV B n f xs Q E σ)(k:∀v σ,Q v σ→Q' v σ)(kE:∀y σ,E y σ→E' y σ):CV B n f xs Q' E' σ:=
  fun Γ A T mc kc s vf vs G HA HS hf hv=>wpAny_mono (h Γ A T mc kc s vf vs G HA HS hf hv) (fun _ _ ⟨T',σ',x,h1,h2,h3,h4⟩=>⟨T',σ',x,h1,h2,h3,k _ _ h4⟩)
    fun _ _ ⟨e,T',mc',kc',σ',y,own,dof,h1,h2,h3,h4,h5,h6⟩=>⟨e,T',mc',kc',σ',y,own,dof,h1,h2,h3,h4,h5,kE _ _ h6⟩
theorem lB {pos:Pos}{Q:cM→ax→AH→Prop}(q:Q .cont m σ):SV B n m (.Continue pos) Q E σ:=fun Γ A T mc kc s G HA HS HL=>by
  rw [arm_exec_Continue];exact wpAny_bind (wpAny_standAt (wpAny_pure ⟨T,mc,kc,m,σ, .cont,cC.refl T,HS,HL,rfl,q⟩))
theorem cV {e:Expr}{pos:Pos}{Q:cM→ax→AH→Prop}(h:EV B n m e (fun v σ'=>Q (.ret v) m σ') E σ):SV B n m (.Return (some e) pos) Q E σ:=fun Γ A T mc kc s G HA HS HL=>by
  refine wpAny_Return_some (wpAny_mono (h Γ A T mc kc s G.toFcOk HA HS HL) ?_ fun _ _ x=>x);rintro v s' ⟨T',σ',x,hT,HS',hv,hq⟩;exact⟨T',mc,kc,m,σ', .ret x,hT,HS',HL.mono hT,⟨v,rfl,hv⟩,hq⟩
theorem iH {e:Expr}{pos:Pos}{Q:cM→ax→AH→Prop}(h:EV B n m e (fun _ σ'=>Q .next m σ') E σ)(hs:∀env,swapsWith e none pos.line env=pure false:=by intro _;rfl):SV B n m (.Expr e pos) Q E σ:=fun Γ A T mc kc s G HA HS HL=>by
  refine wpAny_Expr_any (wpAny_mono (h Γ A T mc kc s G.toFcOk HA HS HL) ?_ fun _ _ x=>x) (by unfold interactive;refine ah G.kind ?_;rfl) (hs _);rintro v s' ⟨T',σ',x,hT,HS',hv,hq⟩;exact⟨T',mc,kc,m,σ', .next,hT,HS',HL.mono hT,rfl,hq⟩
theorem cU {x:Str}{xp pos:Pos}{e:Expr}{Q:cM→ax→AH→Prop}(hx:da m x=true)(h:EV B n m e (fun v σ'=>Q .next (setL m x v) σ') E σ)
    (hs:∀env,swapsWith e (some (.Name x xp)) pos.line env=pure false:=by intro _;rfl):SV B n m (.Assign [.Name x xp] e pos) Q E σ:=fun Γ A T mc kc s G HA HS HL=>by
  refine wpAny_Assign_Name (wpAny_mono (h Γ A T mc kc s G.toFcOk HA HS HL) ?_ fun _ _ x=>x) (hs _);rintro v s' ⟨T',σ',y,hT,HS',hv,hq⟩;exact iN G.toFcOk HS' (HL.mono hT) hx hv fun mc' kc' s'' HS'' HL''=>⟨T',mc',kc',_,σ', .next,hT,HS'',HL'',rfl,hq⟩
theorem ew {t:Expr}{body orelse:List Stmt}{pos:Pos}{Q:cM→ax→AH→Prop}(h:TV B n m t (fun b σ'=>if b then bu B n m body Q E σ' else bu B n m orelse Q E σ') E σ):SV B n m (.If t body orelse pos) Q E σ:=fun Γ A T mc kc s G HA HS HL=>by
  refine wpAny_If (wpAny_mono (h Γ A T mc kc s G.toFcOk HA HS HL) ?_ fun _ _ x=>x);rintro b s' ⟨T',σ',hT,HS',hq⟩
  cases b
  · exact wpAny_mono (hq Γ A T' mc kc s' G HA HS' (HL.mono hT)) (fun _ _=>PF.mono hT) fun _ _=>PE.mono hT
  · exact wpAny_mono (hq Γ A T' mc kc s' G HA HS' (HL.mono hT)) (fun _ _=>PF.mono hT) fun _ _=>PE.mono hT
inductive sQ:List Expr→List Str→Prop
  | nil:sQ [] []
  | cons {x:Str} {p:Pos} {es:List Expr} {r:List Str} (h:sQ es r):sQ (.Name x p::es) (x::r)
theorem lH {Γ:Fc}{A:Around}{P:Unit→Shared→Prop}{E':Value→Shared→Prop}(G:FcOk B Γ){es:List Expr}{names:List Str}(hn:sQ es names):∀(m:ax) (xs:List V) (vs:List Value) (T:TM) (mc kc:Str→Option Value) (s:Shared),(∀x∈names,da m x=true)→
    S B Γ T mc kc σ s→bT B Γ T mc kc m→bS T xs vs→xs.length=names.length→(∀mc' kc' s',S B Γ T mc' kc' σ s'→bT B Γ T mc' kc' (qf m names xs)→P () s')→
    wpAny B.M A (assignInOrder ((assignEach es Γ.env).map (·.2)) vs) P E' s:=by
  induction hn with
  | nil=>
    intro m xs vs T mc kc s _ HS HL hv hl k;have e:=List.length_eq_zero_iff.mp hl;rw [e] at hv k;refine ah (show vs=[] from hv) ?_;exact wpAny_pure (k mc kc s HS HL)
  | @cons x p es r _ ih=>
    intro m xs vs T mc kc s hmine HS HL hv hl k
    cases xs with
    | nil=>exact nomatch hl
    | cons y ys=>
      refine cg ?_ hv;intro v ws e hv1 hv2;refine ah e ?_;refine assignInOrder_cons (wpAny_assign_Name (iN G HS HL (hmine x (.head _)) hv1 fun mc' kc' s' HS' HL'=> ?_));exact ih (setL m x y) ys ws T mc' kc' s' (fun z hz=>ik (hmine z (.tail _ hz))) HS' HL' hv2 (Nat.succ.inj hl) k
theorem wG {Γ:Fc}{A:Around}{T:TM}{mc kc:Str→Option Value}{s:Shared}{xs:List V}{v:Value}{k:Nat}{P:List Value→Shared→Prop}{E':Value→Shared→Prop}(HA:A.handled=none)(HS:S B Γ T mc kc σ s)(hv:RV T (.tup xs) v)(hk:k=xs.length)
    (h:∀vs s',S B Γ T mc kc σ s'→bS T xs vs→P vs s'):wpAny B.M A (unpackItems v k none) P E' s:=by
  obtain ⟨own,dof,I,hm⟩:=id HS;refine cg ?_ hv;clear hv;rintro a vs rfl h1 h2;have hsz:k=vs.toArray.size:=by simp [h2.length,hk]
  subst hsz;refine unpackItems_tuple HA (er I.tups h1) fun h' he=> ?_
  have:S B Γ T mc kc σ {s with heap:=h'}:=⟨own,dof,I.keeps fun b o e=>he b o (Nat.ne_of_lt (xf e)) e,hm⟩
  exact h vs _ this h2
theorem aS {es:List Expr}{names:List Str}{k:Nat}{tp pos:Pos}{e:Expr}{Q:cM→ax→AH→Prop}(hn:sQ es names)(hx:names.all (da m)=true)
    (h:EV B n m e (fun v σ'=>∃xs,v= .tup xs∧xs.length=names.length∧Q .next (qf m names xs) σ') E σ)
    (hs:∀env,swapsWithSole [.Tuple es k tp] e pos.line env=pure false:=by intro _;rfl)
    (hw:∀env,swappedStores [.Tuple es k tp] e env=pure none:=by intro _;rfl)
    (hl:∀env,(assignEach es env).length=names.length∧(assignEach es env).findIdx? (·.1)=none:=by intro _;exact⟨rfl,rfl⟩):SV B n m (.Assign [.Tuple es k tp] e pos) Q E σ:=fun Γ A T mc kc s G HA HS HL=>by
  refine Assign_Tuple (wpAny_mono (h Γ A T mc kc s G.toFcOk HA HS HL) ?_ fun _ _ x=>x) (hs _) (hw _);rintro v s' ⟨T',σ',y,hT,HS',hv,xs,rfl,hlen,hq⟩;rw [assign_Tuple];refine wpAny_bind (wpAny_standAt ?_);unfold unpack;refine ah ((hl Γ.env).1) (ah ((hl Γ.env).2) ?_);refine wpAny_bind (wpAny_holding (wG HA.handled HS' hv hlen.symm fun vs s'' HS'' hvs=> ?_));exact lH G.toFcOk hn m xs vs T' mc kc s'' (List.all_eq_true.mp hx) HS'' (HL.mono hT) hvs hlen fun mc' kc' s₃ HS₃ HL₃=>⟨T',mc',kc',_,σ', .next,hT,HS₃,HL₃,rfl,hq⟩
theorem bT.same {Γ:Fc}{T:TM}{mc kc:Str→Option Value}{m m':ax}(h:bT B Γ T mc kc m)(e:∀y,lk m' y=lk m y):bT B Γ T mc kc m':=fun y sl z=>h y sl ((e y).symm.trans z)
theorem mD {es:List Expr}{a b:Str}{k:Nat}{tp pos:Pos}{e:Expr}{oa ob:Option V}{Q:cM→ax→AH→Prop}(ha:lk m a=some (.loc oa))(hb:lk m b=some (.loc ob))(hab:a≠b)
    (hw:∀env:Env,env.scope.kind= .function→env.kindOf a=some .local→env.kindOf b=some .local→swappedStores [.Tuple es k tp] e env=pure (some [a,b]))
    (h:EV B n m e (fun v σ'=>∃u w,v= .tup [u,w]∧Q .next (setL (setL m a u) b w) σ') E σ)
    (hs:∀env,swapsWithSole [.Tuple es k tp] e pos.line env=pure false:=by intro _;rfl):SV B n m (.Assign [.Tuple es k tp] e pos) Q E σ:=fun Γ A T mc kc s G HA HS HL=>by
  refine Assign_Tuple_swapped (names:=[a,b]) (wpAny_mono (h Γ A T mc kc s G.toFcOk HA HS HL) ?_ fun _ _ x=>x) (hs _) (hw _ G.kind (HL _ _ ha).2.1 (HL _ _ hb).2.1);rintro v s' ⟨T',σ',y,hT,HS',hv,u,w,rfl,hq⟩;refine wG HA.handled HS' hv rfl fun vs s'' HS'' hvs=> ?_;refine cg ?_ hvs;rintro x1 r rfl g1 g2;refine cg ?_ g2;rintro x2 r rfl g3 g4;refine ah (show r=[] from g4) ?_;exact assignInOrder_cons (bindName_ (iN G.toFcOk HS'' (HL.mono hT) (jn hb) g3 fun mc1 kc1 s1 HS1 HL1=>assignInOrder_cons (bindName_ (iN G.toFcOk HS1 HL1 (ik (jn ha)) g1 fun mc2 kc2 s2 HS2 HL2=>wpAny_pure ⟨T',mc2,kc2,_,σ', .next,hT,HS2,HL2.same (qZ hab),rfl,hq⟩))))
noncomputable def trn (I:ax→AH→Prop)(Q:cM→ax→AH→Prop)(f:cM)(m:ax)(σ:AH):Prop:=match f with
  | .next=>I m σ
  | .cont=>I m σ
  | .brk=>Q .next m σ
  | .ret v=>Q (.ret v) m σ
theorem wI {st:List Stmt}{I J:ax→AH→Prop}{Q:cM→ax→AH→Prop}(h:bu B n m st (trn I Q) E σ)(k:∀m σ,I m σ→J m σ):bu B n m st (trn J Q) E σ:=
  h.mono fun f m σ h=>by
    cases f with
    | next=>exact k _ _ h
    | cont=>exact k _ _ h
    | brk=>exact h
    | ret v=>exact h
noncomputable def LP (B:Bs)(Γ:Fc)(A:Around)(T:TM)(Q:cM→ax→AH→Prop)(E:Str→AH→Prop)(r:Result)(s':Shared):Prop:=match r with
  | .ok f=>PF B Γ T Q f s'
  | .error e=>cameBackBy B.M A Γ.env (PE B Γ T E) e s'
theorem LP.mono {Γ:Fc}{A:Around}{T₀ T:TM}{Q:cM→ax→AH→Prop}(hT:cC T₀ T)(r:Result)(s:Shared)(h:LP B Γ A T Q E r s):LP B Γ A T₀ Q E r s:=by
  cases r with
  | ok f=>exact PF.mono hT h
  | error e=>exact wpAny_mono h (fun _ _ x=>PE.mono hT x) fun _ _ x=>PE.mono hT x
noncomputable def LV (B:Bs)(n:Nat)(m:ax)(test:Expr)(body:List Stmt)(Q:cM→ax→AH→Prop)(E:Str→AH→Prop)(σ:AH):Prop:=
  ∀Γ A T mc kc s,mB B Γ→ea n Γ A→S B Γ T mc kc σ s→bT B Γ T mc kc m→codeAny B.M A (.whileLoop test body [] Γ.env) (LP B Γ A T Q E) s
theorem cc {test:Expr}{body:List Stmt}{pos:Pos}{Q:cM→ax→AH→Prop}(h:LV B n m test body Q E σ):SV B n m (.While test body [] pos) Q E σ:=
  fun Γ A T mc kc s G HA HS HL=>wpAny_While (h Γ A T mc kc s G HA HS HL)
theorem ky {test:Expr}{body:List Stmt}{Q:cM→ax→AH→Prop}
    (h:TV B n m test (fun b σ₁=>if b then bu B n m body (trn (fun m' σ₂=>LV B n m' test body Q E σ₂) Q) E σ₁ else Q .next m σ₁) E σ):LV B n m test body Q E σ:=by
  intro Γ A T mc kc s G HA HS HL;refine whl_turn (k:=0) (Q:=PF B Γ T Q) (ke G HA.frames) (wpAny_mono (h Γ A T mc kc s G.toFcOk HA HS HL) ?_ fun _ _ x=>x);rintro b s₁ ⟨T₁,σ₁,hT,HS₁,h₁⟩
  cases b with
  | false=>exact WhlIf.no rfl (wpAny_execs_nil ⟨T₁,mc,kc,m,σ₁, .next,hT,HS₁,HL.mono hT,rfl,h₁⟩)
  | true=>
    refine WhlIf.yes rfl (wpAny_mono (h₁ Γ A T₁ mc kc s₁ G HA HS₁ (HL.mono hT)) ?_ fun _ _=>PE.mono hT);rintro f s₂ ⟨T₂,mc₂,kc₂,m₂,σ₂,x,hT₂,HS₂,HL₂,hf,hq⟩;have hT':=hT.trans hT₂;have go:LV B n m₂ test body Q E σ₂→codeAny B.M A (.whileLoop test body [] Γ.env) _ s₂:=fun hq=>codeAny_mono (hq Γ A T₂ mc₂ kc₂ s₂ G HA HS₂ HL₂) (LP.mono hT')
    revert hq
    refine RF.elim hf go (fun hq=> ?_) go (fun v w hw hq=> ?_)
    · exact⟨T₂,mc₂,kc₂,m₂,σ₂, .next,hT',HS₂,HL₂,rfl,hq⟩
    · exact⟨T₂,mc₂,kc₂,m₂,σ₂, .ret v,hT',HS₂,HL₂,⟨w,rfl,hw⟩,hq⟩
end
end
section
theorem wt (σ:AH)(a:Addr)(o o':bL):(σ.set a o).set a o'=σ.set a o':=by
  funext b;unfold AH.set;by_cases h:b=a<;>simp [h]
noncomputable def iB:List (Str×V)→Str→V→List (Str×V)
  | [],k,v=>[(k,v)]
  | e::r,k,v=>if e.1=k then(e.1,v)::r else e::iB r k v
noncomputable def fz (h:Int)(key v:Value)(name:Str):List DictEntry→List DictEntry
  | []=>[⟨h,key,v⟩]
  | e::r=>if e.key.isStr name then{e with val:=v}::r else e::fz h key v name r
theorem gP (h:Int)(key v:Value)(name:Str)(e:DictEntry)(r:List DictEntry):fz h key v name (e::r)=if e.key.isStr name then{e with val:=v}::r else e::fz h key v name r:=rfl
theorem pV (h:Int)(key v:Value)(name:Str):fz h key v name []=[⟨h,key,v⟩]:=rfl
theorem nJ (s n:Str)(t:Tok):(Value.str s t).isStr n=(s==n):=rfl
theorem mi (h:Int)(key v:Value)(name:Str)(es:List DictEntry):(fz h key v name es).length≤es.length+1:=by
  induction es with
  | nil=>exact w6 _
  | cons e r ih=>
    refine ah (gP ..) ?_
    by_cases q:e.key.isStr name=true
    · exact ah (if_pos q) (Nat.le_succ _)
    · exact ah (if_neg q) (Nat.succ_le_succ ih)
theorem qh (e:Str×V)(r:List (Str×V))(k:Str)(v:V):iB (e::r) k v=if e.1=k then(e.1,v)::r else e::iB r k v:=rfl
theorem fA (name:Str)(h:Int)(key v:Value)(es:List DictEntry)(n:Nat):∃n',Obj.putName name h key v (dictOf es n)=dictOf (fz h key v name es) n':=by
  refine ah Obj.putName_eq ?_
  have key1:∀es:List DictEntry,(es.findIdx? (·.key.isStr name)=none→fz h key v name es=es++[⟨h,key,v⟩])∧∀i,es.findIdx? (·.key.isStr name)=some i→fz h key v name es=es.modify i fun e=>{e with val:=v}:=by
    intro es
    induction es with
    | nil=>exact⟨fun _=>rfl,fun i hi=>by simp at hi⟩
    | cons e r ih=>
      refine ah List.findIdx?_cons ?_
      by_cases q:e.key.isStr name=true
      · simp only [q,if_true,gP];refine⟨fun z=>(sn z),fun i hi=> ?_⟩
        (refine sj ?_ hi;clear hi;intro e1;subst e1);rfl
      · rw [Bool.not_eq_true] at q;simp only [q,Bool.false_eq_true,if_false,gP];refine⟨fun z=> ?_,fun i hi=> ?_⟩
        · rw [Option.map_eq_none_iff] at z;refine ah (ih.1 z) ?_;rfl
        · refine aY ?_ (Option.map_eq_some_iff.mp hi);rintro j hj rfl;refine ah (ih.2 j hj) ?_;rfl
  refine(?_:∃n',Obj.putNameByArray name h key v (dictOf es n)=_)
  simp only [dictOf,Obj.putNameByArray,List.findIdx?_toArray]
  cases q:es.findIdx? (·.key.isStr name) with
  | none=>exact⟨n+1,by simp [(key1 es).1 q]⟩
  | some i=>exact⟨n,by simp [(key1 es).2 i q]⟩
theorem ji {T:TM}{h:Int}{name:Str}{tk:Tok}{v:V}{w:Value}(hv:RV T v w):∀{es:List DictEntry} {ats:List (Str×V)},fV T es ats→fV T (fz h (.str name tk) w name es) (iB ats name v)
  | [],_,e=>by cases e;exact⟨name,v,[],rfl,⟨tk,rfl⟩,hv,rfl⟩
  | e::es,_,⟨x,u,r,e1,⟨t,hk⟩,hu,hr⟩=>by
    subst e1;refine ah (gP ..) (ah (qh ..) ?_);have q:e.key.isStr name=decide (x=name):=by refine ah hk ?_;by_cases z:x=name<;>rfl
    by_cases z:x=name
    · subst z;refine ah (if_pos (by rw [q];simp)) (ah (if_pos rfl) ?_);exact⟨x,v,r,rfl,⟨t,hk⟩,hv,hr⟩
    · refine ah (if_neg (by rw [q];simp [z])) (ah (if_neg z) ?_);exact⟨x,u,_,rfl,⟨t,hk⟩,hu,ji hv hr⟩
theorem lU {T:TM}:∀{es:List DictEntry} {ats:List (Str×V)},fV T es ats→es.length=ats.length
  | [],_,e=>by cases e;rfl
  | _::_,_,⟨_,_,_,e,_,_,hr⟩=>by subst e;exact ah List.length_cons (ah List.length_cons (ah (lU hr) rfl))
theorem jh {T:TM}:∀{es:List DictEntry} {ats:List (Str×V)},fV T es ats→es.any (·.refKey)=false
  | [],_,_=>rfl
  | e::_,_,⟨_,_,_,_,⟨t,hk⟩,_,hr⟩=>by refine ah List.any_cons (ah (jh hr) ?_);simp [DictEntry.refKey,hk]
theorem qi (ats:List (Str×V))(k:Str)(v:V):(iB ats k v).length≤ats.length+1:=by
  induction ats with
  | nil=>exact w6 _
  | cons e r ih=>
    refine ah (qh ..) ?_
    by_cases q:e.1=k
    · exact ah (if_pos q) (Nat.le_succ _)
    · exact ah (if_neg q) (Nat.succ_le_succ ih)
section
variable {B:Bs}{n:Nat}{m:ax}{Q:V→AH→Prop}{E:Str→AH→Prop}{σ:AH}
theorem oS {Γ:Fc}{A:Around}{T:TM}{mc kc:Str→Option Value}{s:Shared}{a:Addr}{ats:List (Str×V)}{name:Str}{v:V}{w:Value}{P:Unit→Shared→Prop}{E':Value→Shared→Prop}(K:KO B.K)(G:FcOk B Γ)(HS:S B Γ T mc kc σ s)
    (e:σ a=some (.inst 82 ats)) (hn:name="car"∨name="cdr") (hz:ats.length≤900) (hv:RV T v w) (k:∀s',S B Γ T mc kc (σ.set a (.inst 82 (iB ats name v))) s'→P () s'):wpAny B.M A (setAttr (.ref a) name w) P E' s:=by
  obtain ⟨own,dof,I,hm⟩:=id HS;refine cg ?_ (I.instAt e);intro es n hd hE IA;have X:=G.stat.k.keeps I.keep;have hs:qg B.K 82 name:=by
    rcases hn with rfl | rfl
    · exact K.scar
    · exact K.scdr
  refine dF ?_ hs;clear hs;intro h1 h2 h3 h4;refine set_plain X IA h1 ?_
  refine osa_open (s:={s with toks:=s.toks+1}) X IA h2 h3 fun b=> ?_;refine aY ?_ (any_some (show (clsIn B.K 82).any (·.hasDict)=true from h4));intro cd hc hd';refine uE ?_ (fA name (PyData.keyHash B.w.params name) (.str name (s.toks+1)) w es n);intro n' hput;have hlen:(fz (PyData.keyHash B.w.params name) (.str name (s.toks+1)) w name es).length≤901:=by
    refine ah (lU (ji hv hE)) ?_;exact wV (qi ats name v) (Nat.succ_le_succ (by assumption))
  have hnew:(s.heap.update (dof a) (Obj.putName name (PyData.keyHash B.w.params name) (.str name (s.toks+1)) w)).get? (dof a)=some (dictOf (fz (PyData.keyHash B.w.params name) (.str name (s.toks+1)) w name es) n'):=by
    refine ch hput ?_;exact Heap.get?_update_self _ hd (by refine ah hput ?_;rfl)
  have hsb:Heap.SameBut (dof a) s.heap (s.heap.update (dof a) (Obj.putName name (PyData.keyHash B.w.params name) (.str name (s.toks+1)) w)):=Heap.SameBut.update ..;obtain ⟨hx,hcl,hn0,_⟩:=IA
  refine wpAny_bind (wpAny_pure (wpAny_bind (wpAny_bind (wpAny_loadPart hx (wpAny_bind (Looks.here (s:={s with toks:=s.toks+1}) (looks_clsIn X hc) ?_))))));refine ah hd' ?_;refine wpAny_pure (a:=some (dof a)) (wpAny_bind (wpAny_pure (wpAny_bind ?_)));refine wpAny_bind (wpAny_bind (wpAny_askSetting (wpAny_pure (wpAny_bind (wpAny_mkText (wpAny_bind (wpAny_loadPart hd ?_)))))));have c:(!es.toArray.any (·.key.isStr name)&&es.toArray.any (·.refKey))=false:=by
    refine ch Array.any_toList (ch Array.any_toList ?_);simp [jh hE]
  dsimp only;rewrite [aRefKeyMayBeTheName_at];refine ah c ?_;refine wpAny_updatePart hd ?_;refine wpAny_bind (wpAny_lookBehind hnew (pastItsLine_dict (by refine ah List.size_toArray (ah sizeLine_eq ?_);exact wV hlen (wW rfl))) ?_);exact wpAny_pure (k _ ⟨own,dof,I.updInst e hsb hnew (ji hv hE),hm⟩)
theorem cm {o e:Expr}{attr:Str}{ap pos:Pos}{Q:cM→ax→AH→Prop}(K:KO B.K)(hn:attr="car"∨attr="cdr")
    (h:EV B n m e (fun v σ₁=>EV B n m o (fun ov σ₂=>∃a ats,ov= .ref a∧σ₂ a=some (.inst 82 ats)∧ats.length≤900∧Q .next m (σ₂.set a (.inst 82 (iB ats attr v)))) E σ₁) E σ)
    (hs:∀env,swapsWith e (some (.Attribute o attr ap)) pos.line env=pure false:=by intro _;rfl):SV B n m (.Assign [.Attribute o attr ap] e pos) Q E σ:=fun Γ A T mc kc s G HA HS HL=>by
  refine plainObj_wpAny_Assign_Attribute (EV.two h G.toFcOk HA HS HL fun T' σ' s' v ov w wo hT HS' hv ho h'=> ?_) (hs _);refine bk ?_ h';clear h';rintro a ats rfl h1 h2 hq
  cases (show wo= .ref a from ho)
  exact oS K G.toFcOk HS' h1 hn h2 hv fun s'' HS''=>⟨T',mc,kc,m,_, .next,hT,HS'',HL.mono hT,rfl,hq⟩
theorem wF {Γ:Fc}{T:TM}{mc kc:Str→Option Value}{s s':Shared}{a:Addr}{xs ys:List V}{vs ws:List Value}{h':Heap}(G:FcOk B Γ)(HS:S B Γ T mc kc σ s)(e:σ a=some (.list xs))(hsb:Heap.SameBut a s.heap h')(hp:h'.PlainList a ws.toArray)(hv:bS T ys ws)(hz:ys.length≤sizeLine)(hs:s'.heap=h')(hg:s'.gens=s.gens∧s'.drawn=s.drawn∧s'.os=s.os):
    S B Γ T mc kc (σ.set a (.list ys)) s':=by
  subst hs;obtain ⟨own,dof,I,hm⟩:=HS;refine dR ?_ (I.ob a _ e);intro ha vs;refine uE ?_;intro k h1 _;refine uE ?_ (id hp);intro k' h2;exact⟨own,dof,I.upd e rfl rfl (fun z=>by exact ft z) ha hsb h1 (.inl rfl) (by intro v z;cases z) h2 (by intro v z;cases z) ⟨ha,ws,hp,hv,hz⟩,hg.1.trans hm.1,hg.2.1.trans hm.2.1,hg.2.2.trans hm.2.2⟩
noncomputable def lg (es:List (Int×V))(k:Int)(v:V):List (Int×V):=
  if es.any (fun kv=>kv.1=k) then es.map (fun kv=>if kv.1=k then(kv.1,v) else kv) else es++[(k,v)]
theorem kY {K:Type}[DecidableEq K]{T:TM}(k:K):∀{xs:List (K×V)} {ks:List (K×Value)},dU T xs ks→ks.any (fun kv=>kv.1=k)=xs.any (fun kv=>kv.1=k)
  | [],_,e=>by cases e;rfl
  | x::xs,_,⟨v,r,e,_,hr⟩=>by subst e;exact ah List.any_cons (ah List.any_cons (ah (kY k hr) rfl))
theorem k7 {K:Type}[DecidableEq K]{T:TM}(k:K){v:V}{w:Value}(hv:RV T v w):∀{xs:List (K×V)} {ks:List (K×Value)},dU T xs ks→dU T (xs.map fun kv=>if kv.1=k then(kv.1,v) else kv) (ks.map fun kv=>if kv.1=k then(kv.1,w) else kv)
  | [],_,e=>by cases e;rfl
  | x::xs,_,⟨u,r,e,hu,hr⟩=>by
    subst e
    by_cases q:x.1=k
    · exact⟨w,_,by simp [q],by simp [q];exact hv,k7 k hv hr⟩
    · exact⟨u,_,by simp [q],by simp [q];exact hu,k7 k hv hr⟩
theorem f9 {K:Type}{T:TM}{k:K}{v:V}{w:Value}(hv:RV T v w):∀{xs:List (K×V)} {ks:List (K×Value)},dU T xs ks→dU T (xs++[(k,v)]) (ks++[(k,w)])
  | [],_,e=>by cases e;exact⟨w,[],rfl,hv,rfl⟩
  | x::xs,_,⟨u,r,e,hu,hr⟩=>by subst e;exact⟨u,_,rfl,hu,f9 hv hr⟩
theorem nj {T:TM}{k:Int}{v:V}{w:Value}{xs:List (Int×V)}{ks:List (Int×Value)}(h:dU T xs ks)(hv:RV T v w):dU T (lg xs k v) (stored ks k w):=by
  unfold lg stored;refine ah (kY k h) ?_
  split
  · exact k7 k hv h
  · exact f9 hv h
inductive qH (σ:AH):V→V→V→AH→Prop
  | l {a:Addr} {xs:List V} {k:Int} {v:V} (h:σ a=some (.list xs)) (j:Nat) (e:k=j) (hj:j<xs.length):qH σ (.ref a) (.int k) v (σ.set a (.list (xs.set j v)))
  | d {a:Addr} {es:List (Int×V)} {k:Int} {v:V} (h:σ a=some (.idict es)) (hz:es.length<100000):qH σ (.ref a) (.int k) v (σ.set a (.idict (lg es k v)))
theorem bS.set {T:TM}{v:V}{w:Value}(hv:RV T v w):∀{xs:List V} {vs:List Value} (i:Nat),bS T xs vs→bS T (xs.set i v) (vs.set i w):=by
  intro xs
  induction xs with
  | nil=>exact fun i e=>eZ (R:=fun vs=>bS T ([].set i v) (vs.set i w)) e rfl
  | cons x xs ih=>exact fun i e=>eC (R:=fun vs=>bS T ((x::xs).set i v) (vs.set i w)) e fun u r hu hr=>Nat.casesOn (motive:=fun i=>bS T ((x::xs).set i v) ((u::r).set i w)) i ⟨w,r,rfl,hv,hr⟩ fun i=>⟨u,_,rfl,hu,ih i hr⟩
theorem oW {Γ:Fc}{A:Around}{T:TM}{mc kc:Str→Option Value}{s:Shared}{o i v:V}{ov iv w:Value}{σ':AH}{P:Unit→Shared→Prop}{E':Value→Shared→Prop}(G:FcOk B Γ)(HS:S B Γ T mc kc σ s)(ho:RV T o ov)(hi:RV T i iv)(hv:RV T v w)
    (h:qH σ o i v σ') (k:∀s',S B Γ T mc kc σ' s'→P () s'):wpAny B.M A (setItem ov iv w) P E' s:=by
  obtain ⟨own,dof,I,hm⟩:=id HS
  induction h with
  | @l a xs _ _ e j e2 hj=>
    refine cq ?_ (I.ob a _ e);intro ha vs;refine uE ?_;intro nn h1 hr hz;refine eR ho (eI hi fun t=> ?_);have hl:=hr.length;rw [←hl] at hj;rw [sizeLine_eq,←hl] at hz;subst e2;refine ki_setAt (n:=nn) h1 (Int.natCast_nonneg _) (iq (wV (wY hj) hz)) (Int.ofNat_lt.mpr hj) ?_;refine k _ (wF (ws:=vs.set j w) (vs:=vs) G HS e (Heap.SameBut.update ..) ?_ (bS.set hv _ hr) (by refine ah List.length_set (ah sizeLine_eq (ch hl ?_));exact hz) rfl ⟨rfl,rfl,rfl⟩);have:=PySem.IsL.update h1 (·.setIfInBounds j w);rw [show vs.toArray.setIfInBounds j w=(vs.set j w).toArray from List.setIfInBounds_toArray ..] at this;exact⟨_,this⟩
  | @d a es j v e hj=>
    refine et ?_ (I.ob a _ e);intro ha ks d1 hr hz hne1;refine eR ho (eI hi fun t=> ?_);have hl:=dU.length hr;refine bJ ?_ d1;intro ob de dp z1 z2 z3 _;refine wpAny_setItem_pairs (knd:=intKind B.prog B.w) (k:=j) (hsz:=by refine ah hl (ah sizeLine_eq ?_);exact wV (wY hj) (by decide)) (intKind_is _ _ _ _) d1 fun h' d2 hs'=> ?_;refine bJ ?_ d2;intro ob' de' dp' y1 y2 y3 _;have hlen:(lg es j v).length≤sizeLine:=by
      refine ah sizeLine_eq ?_;unfold lg;split
      · rw [List.length_map];exact wV (wY hj) (by decide)
      · refine ah List.length_append ?_;exact wV (xm hj) (by decide)
    exact k _ ⟨own,dof,I.upd e rfl rfl (fun _=>rfl) ha hs' z1 (.inr ⟨z2.1,rfl⟩) (fun u z=>nomatch z3.symm.trans z) y1 (fun u z=>nomatch y3.symm.trans z) ⟨ha,_,d2,nj hr hv,hlen,hne1⟩,hm⟩
theorem wx {e1 e2 e3:Expr}{R:V→V→V→AH→Prop}{Γ:Fc}{A:Around}{T:TM}{mc kc:Str→Option Value}{s:Shared}{P:Value→Value→Value→Shared→Prop}
    (h:EV B n m e1 (fun a σ₁=>EV B n m e2 (fun b σ₂=>EV B n m e3 (fun c σ₃=>R a b c σ₃) E σ₂) E σ₁) E σ) (G:FcOk B Γ) (HA:ea n Γ A) (HS:S B Γ T mc kc σ s) (HL:bT B Γ T mc kc m)
    (k:∀T' σ' s' a b c v w u,cC T T'→S B Γ T' mc kc σ' s'→RV T' a v→RV T' b w→RV T' c u→R a b c σ'→P v w u s'):
    wpAny B.M A (eval e1 Γ.env) (fun v s₁=>wpAny B.M A (eval e2 Γ.env) (fun w s₂=>wpAny B.M A (eval e3 Γ.env) (fun u s₃=>P v w u s₃) (PE B Γ T E) s₂) (PE B Γ T E) s₁) (PE B Γ T E) s:=by
  refine wpAny_mono (h Γ A T mc kc s G HA HS HL) ?_ fun _ _ x=>x;rintro v s₁ ⟨T₁,σ₁,a,hT₁,HS₁,hv,h₁⟩;refine wpAny_mono (EV.two h₁ G HA HS₁ (HL.mono hT₁) (P:=fun w u s'=>P v w u s') fun T' σ' s' b c w u hT HS' hb hc hq=>k T' σ' s' a b c v w u (hT₁.trans hT) HS' (RV.mono hT a hv) hb hc hq) (fun w s₂ h₂=>wpAny_mono h₂ (fun _ _ x=>x) fun _ _=>PE.mono hT₁) fun _ _=>PE.mono hT₁
theorem bX {o i e:Expr}{ip pos:Pos}{Q:cM→ax→AH→Prop}
    (h:EV B n m e (fun v σ₁=>EV B n m o (fun ov σ₂=>EV B n m i (fun iv σ₃=>∃σ',qH σ₃ ov iv v σ'∧Q .next m σ') E σ₂) E σ₁) E σ)
    (hs:∀env,swapsWith e (some (.Subscript o i ip)) pos.line env=pure false:=by intro _;rfl):SV B n m (.Assign [.Subscript o i ip] e pos) Q E σ:=fun Γ A T mc kc s G HA HS HL=>by
  refine wpAny_Assign_Subscript (wx h G.toFcOk HA HS HL fun T' σ' s' a b c v w u hT HS' ha hb hc hq=> ?_) (hs _);refine aY ?_ hq;clear hq;intro σ'' h1 h2;exact oW G.toFcOk HS' hb hc ha h1 fun s'' HS''=>⟨T',mc,kc,m,_, .next,hT,HS'',HL.mono hT,rfl,h2⟩
end
end
section
section
variable {B:Bs}{n:Nat}{m:ax}{Q:V→AH→Prop}{E:Str→AH→Prop}{σ:AH}
inductive rf (σ:AH):V→Str→String→Prop
  | append {a:Addr} {xs:List V} (h:σ a=some (.list xs)):rf σ (.ref a) "append" "list.append"
  | pop {a:Addr} {xs:List V} (h:σ a=some (.list xs)):rf σ (.ref a) "pop" "list.pop"
  | extend {a:Addr} {xs:List V} (h:σ a=some (.list xs)):rf σ (.ref a) "extend" "list.extend"
  | index {a:Addr} {xs:List V} (h:σ a=some (.list xs)):rf σ (.ref a) "index" "list.index"
  | get {a:Addr} {xs:List (Int×V)} (h:σ a=some (.idict xs)):rf σ (.ref a) "get" "dict.get"
theorem rf.run {x:V}{name:Str}{id:String}{Γ:Fc}{A:Around}{T:TM}{mc kc:Str→Option Value}{own dof}{s:Shared}{ov:Value}{pl:Sem Bool}{R:Value×List Value→Shared→Prop}{E':Value→Shared→Prop}(h:rf σ x name id)(I:SI B Γ T mc kc σ own dof s.heap)(hv:RV T x ov)(q:R (.builtin id,[ov]) s):wpAny B.M A (getMethod ov name pl) R E' s:=by
  have isL:∀{a xs},σ a=some (.list xs)→s.TypeIs (.ref a) "list"∧(∀b,Value.ref a= .ref b→∃ob,s.heap.get? b=some ob∧ob.dict=none):=fun e=>by
    refine dR ?_ (I.ob _ _ e);intro _ vs;refine uE ?_;intro k h1 _;exact⟨⟨_,h1,rfl⟩,fun b hb=>Value.ref.inj hb▸⟨_,h1,rfl⟩⟩
  revert q
  induction h with
  | append e=>exact eR hv fun q=>getMethod_builtin (isL e).1 PySem.F.plainAttrs_list PySem.F.slot_list_append PySem.F.type_list_append (isL e).2 q
  | pop e=>exact eR hv fun q=>getMethod_builtin (isL e).1 PySem.F.plainAttrs_list PySem.F.slot_list_pop PySem.F.type_list_pop (isL e).2 q
  | extend e=>exact eR hv fun q=>getMethod_builtin (isL e).1 PySem.F.plainAttrs_list PySem.F.slot_list_extend PySem.F.type_list_extend (isL e).2 q
  | index e=>exact eR hv fun q=>getMethod_builtin (isL e).1 PySem.F.plainAttrs_list PySem.F.slot_list_index PySem.F.type_list_index (isL e).2 q
  | get e=>
    refine dR ?_ (I.ob _ _ e);intro _ ks d1 _;exact eR hv fun q=>getMethod_builtin d1.typeIs PySem.F.plainAttrs_dict PySem.F.slot_dict_get PySem.F.type_dict_get (fun b hb=>d1.mapOf.noDict b hb) q
theorem nh {env:Env}{pos:Pos}:∀{es:List Expr},bo es=true→(backTo pos (starEach es env)).all (fun x=> !x.1)=true:=by
  intro es
  induction es with
  | nil=>exact fun _=>rfl
  | cons e r ih=>
    refine fun h=>uA ?_ (dj (env:=env) h);exact fun h1 h2=>ah (f:=fun x=>(backTo pos x).all (fun x=> !x.1)=true) h1 (ih h2)
theorem cb {o:Expr}{name:Str}{ap pos:Pos}{args:List Expr}(hb:AB o)(hn:bo args=true)(hl:args.length<30)(hp:(ap.endLine==pos.line)=true)
    (h:EV B n m o (fun ov σ₁=>∃id,rf σ₁ ov name id∧iE B n m E args (fun vs σ₂=>CV B n (.bi id) (ov::vs) Q E σ₂) σ₁) E σ):EV B n m (.Call (.Attribute o name ap) args [] pos) Q E σ:=by
  intro Γ A T mc kc s G HA HS HL;have hform:methodCallForm (args.length+([]:List Keyword).length) (backTo pos (starEach args Γ.env)) (backToKw pos (keywordEach [] Γ.env))=true:=by
    unfold methodCallForm;refine ah (nh hn) ?_;exact decide_eq_true hl
  have hpos:methodCallPos true o Γ.env ap pos=pure pos:=by unfold methodCallPos;refine ah hp ?_;rfl
  rw [arm_eval_Call,kG hb];refine wpAny_bind (wpAny_mono (h Γ A T mc kc s G HA HS HL) ?_ fun _ _ x=>x);rintro ov s₁ ⟨T₁,σ₁,x,hT,⟨own,dof,I,hm⟩,hv,id,h1,h2⟩;refine wpAny_bind (wpAny_standAt ?_);unfold methodCall;refine ah hform ?_;exact wpAny_bind (wpAny_holding (h1.run I hv (wpAny_bind (wpAny_of_eq hpos (jc G HA hT ⟨own,dof,I,hm⟩ (HL.mono hT) (f:= .bi id) trivial rfl (first:=[x]) (fv:=[ov]) ⟨ov,[],rfl,hv,rfl⟩ hn h2)))))
theorem gI {a:Addr}{xs:List V}{v:V}(e:σ a=some (.list xs))(hz:xs.length<sizeLine)(q:Q .none (σ.set a (.list (xs++[v])))):CV B n (.bi "list.append") [.ref a,v] Q E σ:=by
  refine fun Γ A T mc kc s vf vs G HA HS hf hv=>eF hf (eC hv fun v1 _ hv1 hv=>eR hv1 (eC hv fun w _ hw hv=>eZ hv ?_));obtain ⟨own,dof,I,hm⟩:=id HS;refine cq ?_ (I.ob a _ e);intro ha us hp hr hz';refine wpAny_list_append_plain hp (fun h' hp' hs=> ?_) (by refine ah List.size_toArray (ah hr.length ?_);exact wY hz);exact⟨T,_, .none,cC.refl T,wF (ws:=us++[w]) (vs:=us) G HS e hs (by simpa using hp') (bS.append hr (bS.one hw)) (by refine ah List.length_append ?_;exact hz) rfl ⟨rfl,rfl,rfl⟩,rfl,q⟩
theorem iT {a:Addr}{xs:List V}{v:V}(e:σ a=some (.list (xs++[v])))(q:Q v (σ.set a (.list xs))):CV B n (.bi "list.pop") [.ref a] Q E σ:=by
  refine fun Γ A T mc kc s vf vs G HA HS hf hv=>eF hf (eC hv fun v1 _ hv1 hv=>eR hv1 (eZ hv ?_));obtain ⟨own,dof,I,hm⟩:=id HS;refine cq ?_ (I.ob a _ e);intro ha us;refine uE ?_;intro k hp hr hz';have hl:us.length=xs.length+1:=hr.length.trans List.length_append;refine aY ?_ (hr.get xs.length v List.getElem?_concat_length);intro y h1 hry;have hrp:bS T xs (us.take xs.length):=by have:=bS.take xs.length hr;rwa [List.take_left] at this
  have hy:us.toArray[us.toArray.size-1]?=some y:=by refine ah List.size_toArray (ah hl ?_);rewrite [Nat.add_sub_cancel];exact List.getElem?_toArray.trans h1
  refine call_meets PySem.F.slot_list_pop ⟨_,hp,rfl⟩ PySem.F.entry_list_pop (PySem.F.args_list_pop_1 _) (PySem.MeetsSeq.list_pop_last a _ k y hy (by refine ah List.size_toArray (ah hl ?_);simpa using hz')) ⟨hp, ?_⟩;have hnew:=PySem.IsL.update hp (fun xs=>xs.eraseIdxIfInBounds (us.toArray.size-1));have hd:us.take xs.length++[y]=us:=by rw [List.getElem?_eq_some_iff] at h1;refine uE ?_ h1;intro h1 h2;exact ch h2 (ah (List.take_append_getElem h1) (ch hl (ah List.take_length rfl)))
  have he:us.toArray.eraseIdxIfInBounds (us.toArray.size-1)=(us.take xs.length).toArray:=by
    have:=kl_erase (us.take xs.length) [] y;rw [List.append_nil,hd] at this;refine ch this (ah List.size_toArray (ah hl ?_));rewrite [Nat.add_sub_cancel];exact ah List.length_take (ah hl (ah (Nat.min_eq_left (Nat.le_succ _)) rfl))
  rw [he] at hnew;exact⟨T,_,v,cC.refl T,wF (ws:=us.take xs.length) (vs:=us) G HS e (Heap.SameBut.update ..) ⟨_,hnew⟩ hrp (by simp at hz';exact wV (w9 _ _) hz') rfl ⟨rfl,rfl,rfl⟩,hry,q⟩
theorem nT {a b:Addr}{xs ys:List V}(e:σ a=some (.list xs))(e2:σ b=some (.list ys))(hz:xs.length+ys.length≤sizeLine)(q:Q .none (σ.set a (.list (xs++ys)))):CV B n (.bi "list.extend") [.ref a, .ref b] Q E σ:=by
  refine fun Γ A T mc kc s vf vs G HA HS hf hv=>eF hf (eC hv fun v1 _ hv1 hv=>eR hv1 (eC hv fun v2 _ hv2 hv=>eR hv2 (eZ hv ?_)));obtain ⟨own,dof,I,hm⟩:=id HS;refine cq ?_ (I.ob a _ e);intro ha us;refine uE ?_;intro k hp hr hz';refine cq ?_ (I.ob b _ e2);intro hb ws;refine uE ?_;intro k2 hp2 hr2 hz2;have hsz:us.toArray.size+ws.toArray.size≤sizeLine:=by refine ah List.size_toArray (ah List.size_toArray (ah hr.length (ah hr2.length ?_)));exact hz
  refine call_meets PySem.F.slot_list_extend ⟨_,hp,rfl⟩ PySem.F.entry_list_extend (PySem.F.args_list_extend_2 _ _) (AutoSeq1.list_extend_list_list_0 a us.toArray k b ws.toArray k2 (extend_door hsz) (wV (w9 _ _) hsz)) ⟨hp,hp2, ?_⟩;have hnew:=PySem.IsL.update hp (fun x=>x++ws.toArray);rw [show us.toArray++ws.toArray=(us++ws).toArray from List.append_toArray ..] at hnew;exact⟨T,_, .none,cC.refl T,wF (ws:=us++ws) (vs:=us) G HS e (Heap.SameBut.update ..) ⟨_,hnew⟩ (bS.append hr hr2) (by refine ah List.length_append ?_;exact hz) rfl ⟨rfl,rfl,rfl⟩,rfl,q⟩
theorem rA {a:Addr}{es:List (Int×V)}{i:Int}(e:σ a=some (.idict es))(q:Q ((fO es i).getD .none) σ):CV B n (.bi "dict.get") [.ref a, .int i, .none] Q E σ:=by
  refine fun Γ A T mc kc s vf vs G HA HS hf hv=>eF hf (eC hv fun v1 _ hv1 hv=>eR hv1 (eC hv fun v2 _ hv2 hv=>eI hv2 fun t=>eC hv fun v3 _ hv3 hv=>eN hv3 (eZ hv ?_)));obtain ⟨own,dof,I,hm⟩:=id HS;refine et ?_ (I.ob a _ e);intro ha ks d1 hr hz' hne1;refine call_meetsIn PySem.F.slot_dict_get d1.typeIs PySem.F.entry_dict_get (PySem.F.args_dict_get_3 _ _ _) (meets_dict_get_default (intKind B.prog B.w) a (intKind_is _ _ i t) (beq_false_of_ne hne1) .none) ⟨_,d1.mapOf, ?_⟩
  rcases hr.look i with h | h
  · rw [h.1] at q;refine ah h.2 ?_;exact PQ.here (x:= .none) (HS.toks _) rfl q
  · refine cg ?_ h;intro x v h1 h2 h3;rw [h1] at q;refine ah h2 ?_;exact PQ.here (x:=x) (HS.toks _) h3 q
end
end
section
set_option genInjectivity false in
inductive gH where
  | lst (l:Addr) (i:Nat)
  | rng (x left step:Int)
  | tup (xs:List V) (i:Nat)
  | zip (TI TO i1 i2 l1 l2:Addr) (j:Nat)
noncomputable def gH.aux (s:gH):List Addr:=match s with
  | .zip TI TO i1 i2 _ _ _=>[TI,TO,i1,i2]
  | _=>[]
noncomputable def fj (T:TM)(h:Heap)(I:Addr)(s:gH):Prop:=match s with
  | .lst l i=>h.IsListIter I l i
  | .rng x k st=>IsRangeIter h I x k st
  | .tup xs i=>∃t vs,T t=some vs∧bS T xs vs∧h.IsTupleIter I t i
  | .zip TI TO i1 i2 l1 l2 j=>ZipApart I TI TO i1 i2 l1 l2∧IsZip h I TI TO .none∧IsPair h TI (.ref i1) (.ref i2)∧(∃a b,IsPair h TO a b)∧h.IsListIter i1 l1 j∧h.IsListIter i2 l2 j
theorem Qt.fields {o:Obj}{vs:Array Value}(h:o.data= .fields vs):Qt o:=⟨fun _ _ e=>(nomatch h.symm.trans e),fun _ e=>(nomatch h.symm.trans e)⟩
structure rL (T:TM)(I:Addr)(src:gH)(L:List (Addr×Obj))(h:Heap):Prop where
  at_:∀p∈L,h.get? p.1=some p.2∧p.1∈I::src.aux∧Qt p.2
  cov:∀b∈I::src.aux,∃p∈L,p.1=b
  keep:∀T' h',cC T T'→(∀p∈L,h'.get? p.1=some p.2)→fj T' h' I src
theorem rL.one {T:TM}{I:Addr}{src:gH}{h:Heap}{o:Obj}(ha:src.aux=[])(h1:h.get? I=some o)(q:Qt o)(k:∀T' h',cC T T'→h'.get? I=some o→fj T' h' I src):∃L,rL T I src L h:=
  ⟨[(I,o)],fun _ hp=>List.mem_singleton.mp hp▸⟨h1, .head _,q⟩,fun b hb=>⟨(I,o), .head _,(List.mem_singleton.mp (ha▸hb)).symm⟩,fun T' h' hT e=>k T' h' hT (e _ (.head _))⟩
theorem sx {α:Type}{P:α→Prop}{a b c d e:α}(ha:P a)(hb:P b)(hc:P c)(hd:P d)(he:P e):∀p∈[a,b,c,d,e],P p:=by simp [ha,hb,hc,hd,he]
theorem fj.pin {T:TM}{h:Heap}{I:Addr}{src:gH}(x:fj T h I src):∃L,rL T I src L h:=by
  cases src with
  | lst l i=>refine bI ?_ x;intro o h1 h2 h3;exact rL.one rfl h1 (.fields h3) fun T' h' _ e=>⟨o,e,h2,h3⟩
  | rng a k st=>exact rL.one rfl x (.fields rfl) fun T' h' _ e=>e
  | tup xs i=>refine cg ?_ x;intro t vs hT hv;refine bI ?_;intro o h1 h2 h3;exact rL.one rfl h1 (.fields h3) fun T' h' hT' e=>⟨t,vs,hT' _ _ hT,bS.mono hT' _ hv,o,e,h2,h3⟩
  | zip TI TO i1 i2 l1 l2 j=>
    refine dF ?_ x;intro D y1 y2;refine uA ?_;refine eu ?_;intro a b y3;refine uA ?_;refine bI ?_;intro o4 y4 z4 w4;refine bI ?_;intro o5 y5 z5 w5;have sq:∀{a b:Value},Qt ({cls:= .type "tuple",data:= .seq #[a,b]}:Obj):=⟨fun _ _ e=>(nomatch e),fun _ e=>(nomatch e)⟩;exact⟨[(I,_),(TI,_),(TO,_),(i1,o4),(i2,o5)],sx ⟨y1, .head _, .fields rfl⟩ ⟨y2, .tail _ (.head _),sq⟩ ⟨y3, .tail _ (.tail _ (.head _)),sq⟩ ⟨y4, .tail _ (.tail _ (.tail _ (.head _))), .fields w4⟩ ⟨y5, .tail _ (.tail _ (.tail _ (.tail _ (.head _)))), .fields w5⟩,
      sx ⟨_, .head _,rfl⟩ ⟨_, .tail _ (.head _),rfl⟩ ⟨_, .tail _ (.tail _ (.head _)),rfl⟩ ⟨_, .tail _ (.tail _ (.tail _ (.head _))),rfl⟩ ⟨_, .tail _ (.tail _ (.tail _ (.tail _ (.head _)))),rfl⟩,
      fun T' h' _ e=>⟨D,e _ (.head _),e _ (.tail _ (.head _)),⟨a,b,e _ (.tail _ (.tail _ (.head _)))⟩,⟨o4,e _ (.tail _ (.tail _ (.tail _ (.head _)))),z4,w4⟩,⟨o5,e _ (.tail _ (.tail _ (.tail _ (.tail _ (.head _))))),z5,w5⟩⟩⟩
section
variable {B:Bs}{n:Nat}{m:ax}{E:Str→AH→Prop}{σ:AH}
structure iY (Γ:Fc)(own:List Addr)(I:Addr):Prop where
  o:I∉own
  z:Γ.h₀.get? I=none
  p:∀p∈Γ.pin,p.1≠I
theorem SI.butF {Γ:Fc}{T:TM}{mc kc own dof}{h h':Heap}{I:Addr}{o:Obj}{vs:Array Value}(G:FcOk B Γ)(X:SI B Γ T mc kc σ own dof h)(H:iY Γ own I)(ho:h.get? I=some o)(hd:o.data= .fields vs)(e:Heap.ExtBut I h h'):SI B Γ T mc kc σ own dof h':=
  X.slots G [I] (fun b hb=>List.mem_singleton.mp hb▸⟨H.o,H.z,H.p⟩) (fun b o hb hn _=>e b o (fun q=>hn (q▸ .head _)) hb) fun b ob hb hf=>⟨ob.slots,e b ob (fun q=>hf vs (xg (ho.symm.trans (q▸hb))▸hd)) hb⟩
theorem SI.but {Γ:Fc}{T T':TM}{mc kc own dof}{h h':Heap}{I:Addr}{src:gH}(G:FcOk B Γ)(X:SI B Γ T mc kc σ own dof h)(H:iY Γ own I)(hi:fj T' h I src)(e:Heap.ExtBut I h h'):SI B Γ T mc kc σ own dof h':=by
  cases src with
  | lst l i=>exact bI (fun o h1 _ h3=>X.butF G H h1 h3 e) hi
  | rng a k st=>exact X.butF G H hi rfl e
  | tup xs i=>exact cg (fun t vs _ _=>bI fun o h1 _ h3=>X.butF G H h1 h3 e) hi
  | zip=>exact X.butF G H hi.2.1 rfl e
theorem iY.one {Γ:Fc}{T:TM}{own:List Addr}{I:Addr}(H:iY Γ own I∧T I=none):∀b∈[I],iY Γ own b∧T b=none:=fun _ hb=>List.mem_singleton.mp hb▸H
theorem SI.hidden {Γ:Fc}{T:TM}{mc kc own dof}{h:Heap}{b:Addr}(X:SI B Γ T mc kc σ own dof h)(hb:h.get? b=none):iY Γ own b∧T b=none:=by
  have ne:∀{a ob},h.get? a=some ob→a≠b:=fun e q=>nn (hb.symm.trans (q▸e));refine⟨⟨fun q=> ?_, ?_,fun p hp=>ne (X.pn p hp).1⟩, ?_⟩
  · refine gV ?_ (X.ow _ q);intro _ _ _ ob z _;exact ne z rfl
  · cases q:Γ.h₀.get? b with
    | none=>rfl
    | some x=>exact absurd rfl (ne (X.keep _ _ q))
  · cases q:T b with
    | none=>rfl
    | some x=>exact fD (fun _ _ z _=>absurd rfl (ne z)) (X.tp _ _ q)
theorem fI {h:Heap}{b:Addr}(hb:h.objs.size≤b):h.get? b=none:=by
  cases e:h.get? b with
  | none=>rfl
  | some o=>exact absurd (xf e) (Nat.not_lt.mpr hb)
theorem SI.hidNew {Γ:Fc}{T:TM}{mc kc own dof}{h:Heap}(G:FcOk B Γ)(X:SI B Γ T mc kc σ own dof h)(o:Obj):SI B Γ T mc kc σ own dof (h.push o)∧iY Γ own h.objs.size∧T h.objs.size=none:=
  ⟨X.keeps fun b ob e=>Heap.get?_push_of_some _ e,X.hidden (fI (w6 _))⟩
noncomputable abbrev eo (Γ:Fc)(L:List (Addr×Obj)):Fc:={Γ with pin:=L++Γ.pin}
theorem FcOk.pin {Γ:Fc}{L:List (Addr×Obj)}(G:FcOk B Γ)(hL:∀p∈L,Qt p.2):FcOk B (eo Γ L):=
  { stat:=G.stat,kind:=G.kind,glb:=G.glb,blt:=G.blt,frs:=G.frs,snf:=G.snf,sn0:=G.sn0,snL:=G.snL
    pnf:=fun p hp=>(List.mem_append.mp hp).elim (hL p) (G.pnf p)}
theorem mB.pin {Γ:Fc}{L:List (Addr×Obj)}(G:mB B Γ)(hL:∀p∈L,Qt p.2):mB B (eo Γ L):={G.toFcOk.pin hL with hd:=G.hd,fr:=G.fr}
theorem SI.pin {Γ:Fc}{T:TM}{mc kc own dof}{h:Heap}{L:List (Addr×Obj)}(X:SI B Γ T mc kc σ own dof h)(hL:∀p∈L,(h.get? p.1=some p.2∧p.1∉own)∧T p.1=none):SI B (eo Γ L) T mc kc σ own dof h:=
  { ns:=X.ns,keep:=X.keep,above:=X.above,ow:=X.ow,sn:=X.sn,cl:=X.cl,tp:=X.tp,ob:=X.ob,inj:=X.inj,dsj:=X.dsj
    pn:=fun p hp=>(List.mem_append.mp hp).elim (fun hp=>(hL p hp).1) (X.pn p)
    pt:=fun p hp=>(List.mem_append.mp hp).elim (fun hp=>(hL p hp).2) (X.pt p)}
theorem SI.unpin {Γ:Fc}{T:TM}{mc kc own dof}{h:Heap}{L:List (Addr×Obj)}(X:SI B (eo Γ L) T mc kc σ own dof h):SI B Γ T mc kc σ own dof h∧∀p∈L,(h.get? p.1=some p.2∧p.1∉own)∧T p.1=none:=
  ⟨{ns:=X.ns,keep:=X.keep,above:=X.above,ow:=X.ow,sn:=X.sn,cl:=X.cl,tp:=X.tp,ob:=X.ob,inj:=X.inj,dsj:=X.dsj,pn:=fun p hp=>X.pn p (List.mem_append_right _ hp),pt:=fun p hp=>X.pt p (List.mem_append_right _ hp)},fun p hp=>⟨X.pn p (List.mem_append_left _ hp),X.pt p (List.mem_append_left _ hp)⟩⟩
theorem PE.unpin {Γ:Fc}{T:TM}{L:List (Addr×Obj)}{v s}:PE B (eo Γ L) T E v s→PE B Γ T E v s:=by
  rintro ⟨e,T',mc',kc',σ',y,own,dof,h1,h2,h3,h4,⟨oe,vs,d,es,n,a0,x1,x2,x3,x4,x5,x6,x7,x8,x9,x10,x11,x12⟩,h6⟩;refine⟨e,T',mc',kc',σ',y,own,dof,h1,h2,h3.unpin.1,h4,⟨oe,vs,d,es,n,a0,x1,x2,x3,x4,x5,x6,x7,x8,x9,x10,fun p hp=>x11 p (List.mem_append_right _ hp), ?_⟩,h6⟩
  rcases x12 with z | ⟨Tb,oT,ts,fl,y1,y2,y3,y4,y5,y6,y7,y8,y9⟩
  · exact .inl z
  · exact .inr ⟨Tb,oT,ts,fl,y1,y2,y3,y4,y5,y6,y7,y8,fun p hp=>y9 p (List.mem_append_right _ hp)⟩
inductive IP (B:Bs)(Γ:Fc)(T:TM)(mc kc:Str→Option Value)(Q:gH→AH→Prop)(it:Value)(s:Shared):Prop
  | mk (I:Addr) (T':TM) (σ':AH) (src:gH) (own:List Addr) (dof:Addr→Addr) (h1:it= .ref I) (h2:cC T T') (h3:SI B Γ T' mc kc σ' own dof s.heap) (h4:Sm Γ.sh s) (h5:∀b∈I::src.aux,iY Γ own b∧T' b=none) (h6:fj T' s.heap I src) (h7:Q src σ')
noncomputable def IV (B:Bs)(n:Nat)(m:ax)(e:Expr)(Q:gH→AH→Prop)(E:Str→AH→Prop)(σ:AH):Prop:=
  ∀Γ A T mc kc s,FcOk B Γ→ea n Γ A→S B Γ T mc kc σ s→bT B Γ T mc kc m→
    wpAny B.M A (eval e Γ.env) (fun x s₁=>wpAny B.M A (pyIter x) (IP B Γ T mc kc Q) (PE B Γ T E) s₁) (PE B Γ T E) s
theorem bA {e:Expr}{Q:gH→AH→Prop}(h:EV B n m e (fun v σ₁=>∃l xs,v= .ref l∧(σ₁ l=some (.list xs)∨σ₁ l=some (.clist xs))∧Q (.lst l 0) σ₁) E σ):IV B n m e Q E σ:=by
  intro Γ A T mc kc s G HA HS HL;refine wpAny_mono (h Γ A T mc kc s G HA HS HL) ?_ fun _ _ x=>x;rintro v s₁ ⟨T₁,σ₁,x,hT,⟨own,dof,I,hm⟩,hv,l,xs,e,hl,hq⟩;rw [e] at hv;refine eR hv (bI ?_ (I.list hl));intro vs l1 r1 hz;refine uA ?_ (I.hidNew G {cls:= .type "list_iterator",data:= .fields #[.ref l, .int 0 0]});intro I' H;exact wpAny_pyIter_list l1 ⟨_,T₁,σ₁, .lst l 0,own,dof,rfl,hT,I',hm,iY.one H,⟨_,Heap.get?_push_size _ rfl,rfl,rfl⟩,hq⟩
theorem pg {e:Expr}{Q:gH→AH→Prop}(h:EV B n m e (fun v σ₁=>∃xs,v= .tup xs∧Q (.tup xs 0) σ₁) E σ):IV B n m e Q E σ:=by
  intro Γ A T mc kc s G HA HS HL;refine wpAny_mono (h Γ A T mc kc s G HA HS HL) ?_ fun _ _ x=>x;rintro v s₁ ⟨T₁,σ₁,x,hT,⟨own,dof,I,hm⟩,hv,xs,e,hq⟩;rw [e] at hv;refine eT hv fun t vs hTt hvs=>uA ?_ (I.hidNew G {cls:= .type "tuple_iterator",data:= .fields #[.ref t, .int 0 0]});intro I' H;exact iter_tuple (er I.tups hTt) ⟨_,T₁,σ₁, .tup xs 0,own,dof,rfl,hT,I',hm,iY.one H,⟨t,vs,hTt,hvs,_,Heap.get?_push_size _ rfl,rfl,rfl⟩,hq⟩
theorem eX {Γ:Fc}{A:Around}{T₀ T:TM}{mc kc:Str→Option Value}{s:Shared}{f:V}{vf:Value}{args:List Expr}{pos pos':Pos}{first:List V}{fv:List Value}{R:List V→AH→Prop}{P:Value→Shared→Prop}(G:FcOk B Γ)(HA:ea n Γ A)(hT:cC T₀ T)(HS:S B Γ T mc kc σ s)(HL:bT B Γ T mc kc m)
    (hk:ec B f) (hf:RV T f vf) (hfv:bS T first fv) (hn:bo args=true) (h:iE B n m E args R σ)
    (k:∀T' σ' s' vs ws vf',cC T₀ T'→S B Γ T' mc kc σ' s'→vf'=vf→RV T' f vf'→bS T' (first++vs) (fv++ws)→R vs σ'→wpAny B.M A (call vf (fv++ws)) P (PE B Γ T₀ E) s'):
    wpAny B.M A (callWith pos vf fv (backTo pos' (starEach args Γ.env)) []) P (PE B Γ T₀ E) s:=by
  have hK:∀h,B.K.In h→∃k,(k=Keeper.frame∨k=Keeper.machine∨k=Keeper.boundFrame)∧Looks B.M h (keeperOf vf) k:=by
    clear h
    cases f with
    | ref a=>exact eR hf fun hp X=>keeps_K hk hp X
    | ty a=>exact eY hf fun _ _=>⟨.machine, .inr (.inl rfl),Looks.of_pure rfl⟩
    | bi a=>exact eF hf fun _ _=>⟨.machine, .inr (.inl rfl),Looks.of_pure rfl⟩
    | _=>exact hk.elim
  have body:wpAny B.M A (spliced (backTo pos' (starEach args Γ.env))) (fun ws s₁=>B.K.In s₁.heap∧wpAny B.M A (call vf (fv++ws)) P (PE B Γ T₀ E) s₁) (PE B Γ T₀ E) s:=by
    refine dQ G HA (pre:=f::first) (pv:=vf::fv) args hn hT h HS HL ⟨vf,fv,rfl,hf,hfv⟩ fun T' σ' s' vs ws hT' HS' hr hq=> ?_;refine cg ?_ hr;intro v' r' e h1 h2;rw [←(List.cons.inj e).1] at h1;rw [←(List.cons.inj e).2] at h2;exact⟨S.casesOn HS' fun own dof I _=>G.stat.k.keeps I.keep,k T' σ' s' vs ws vf hT' HS' rfl h1 h2 hq⟩
  exact callWith_of (P:=fun h=>B.K.In h) (by refine ah (js hn) ?_;rfl) hK (ii hn body)
theorem j4 {a:Int}(h0: -1≤a):Builtin.Range.rangeSize a (-1) (-1)=a+1:=by
  unfold Builtin.Range.rangeSize;refine ah (if_neg (by decide)) ?_
  split
  · rw [Int.ediv_neg,Int.ediv_neg,Int.ediv_one];omega
  · omega
theorem nr {a:Int}(h0: -1≤a)(h1:a<2^62):Builtin.Range.small a (-1) (-1)=true:=by
  unfold Builtin.Range.small;refine ah (j4 h0) ?_;simp only [Builtin.Range.rangeFitsLong,Bool.and_eq_true,Bool.or_eq_true,decide_eq_true_eq,beq_iff_eq,show¬((-1:Int)>0) by decide,if_false]
  exact⟨⟨⟨⟨⟨Int.le_trans (by decide) h0,Int.lt_trans h1 (by decide)⟩,by decide⟩,by decide⟩,Int.le_trans (by decide) (Int.add_le_add_right h0 1),Int.lt_trans (Int.add_lt_add_right h1 1) (by decide)⟩, .inr (by decide)⟩
theorem ml {Γ:Fc}{A:Around}{T T':TM}{mc kc:Str→Option Value}{own dof}{s:Shared}{a b st k:Int}{t u v:Tok}{tk:Nat}{Q:gH→AH→Prop}{E':Value→Shared→Prop}(G:FcOk B Γ)(hT:cC T T')(I:SI B Γ T' mc kc σ own dof s.heap)(hm:Sm Γ.sh s)(hsz:Builtin.Range.rangeSize a b st=k)(hsm:Builtin.Range.small a b st=true)(hq:Q (.rng a k st) σ):
    wpAny B.M A (pyIter (.ref s.heap.objs.size)) (IP B Γ T mc kc Q) E' {s with heap:=s.heap.push {cls:= .type "range",data:= .fields #[.int a t, .int b u, .int st v]},toks:=tk}:=by
  refine uA ?_ (I.hidNew G {cls:= .type "range",data:= .fields #[.int a t, .int b u, .int st v]});intro I1 _;refine uA ?_ (I1.hidNew G {cls:= .type "range_iterator",data:= .fields #[rawInt a,rawInt (Builtin.Range.rangeSize a b st),rawInt st]});intro I2 H;exact wpAny_pyIter_range (IsRange.new ..) hsm ⟨_,T',σ, .rng a k st,own,dof,rfl,hT,I2,hm,iY.one H,hsz▸Heap.get?_push_size _ rfl,hq⟩
theorem fi {rp pos:Pos}{args:List Expr}{Q:gH→AH→Prop}(hl:lk m "range"=some (.glob (.ty "range")))(hn:bo args=true)
    (h:iE B n m E args (fun vs σ₁=>(∃k,vs=[.int k]∧0≤k∧k<2^62∧Q (.rng 0 k 1) σ₁)∨(∃a,vs=[.int a, .int (-1), .int (-1)]∧-1≤a∧a<2^62∧Q (.rng a (a+1) (-1)) σ₁)) σ):IV B n m (.Call (.Name "range" rp) args [] pos) Q E σ:=by
  intro Γ A T mc kc s G HA HS HL;rw [be .n];refine wpAny_bind (wpAny_mono (iD (B:=B) (n:=n) (E:=E) (σ:=σ) (Q:=fun v σ₁=>v= .ty "range"∧σ₁=σ) hl (.inr (.inr (.inr rfl))) ⟨rfl,rfl⟩ Γ A T mc kc s G HA HS HL) ?_ fun _ _ x=>x);rintro v s₁ ⟨T₁,σ₁,x,hT,HS₁,hv,e1,e2⟩;rw [e1] at hv;rw [e2] at HS₁;refine eY hv (eX G HA hT HS₁ (HL.mono hT) (f:= .ty "range") trivial rfl (first:=[]) (fv:=[]) rfl hn h ?_);rintro T' σ' s' vs ws vf' hT' ⟨own,dof,I,hm⟩ _ _ hr hq;rw [List.nil_append,List.nil_append] at hr;rw [List.nil_append]
  rcases hq with hq | hq
  · refine bI ?_ hq;intro k e h0;refine uA ?_;intro h1 hq;rw [e] at hr;refine eC hr fun w _ hw hr=>eZ hr (eI hw fun t=>call_range_1 (ml G hT' I hm ?_ (small_one (by decide) (by decide) (Int.le_trans (by decide) h0) h1) hq));rw [rangeSize_one]
    by_cases q:0<k
    · refine ah (if_pos q) ?_;rewrite [Int.sub_zero];rfl
    · exact(if_neg q).trans (Int.le_antisymm h0 (Int.not_lt.mp q))
  · refine bI ?_ hq;intro a e h0;refine uA ?_;intro h1 hq;rw [e] at hr;exact eC hr fun w _ hw hr=>eI hw fun t=>eC hr fun w2 _ hw2 hr=>eI hw2 fun u=>eC hr fun w3 _ hw3 hr=>eI hw3 fun v=>eZ hr (call_range_3 (by decide) (ml G hT' I hm (j4 h0) (nr h0 h1) hq) (.inl (mf (by decide))))
noncomputable def FV (B:Bs)(n:Nat)(m:ax)(src:gH)(target:Expr)(body:List Stmt)(Q:cM→ax→AH→Prop)(E:Str→AH→Prop)(σ:AH):Prop:=
  ∀Γ A T mc kc s I own dof,mB B Γ→ea n Γ A→SI B Γ T mc kc σ own dof s.heap→Sm Γ.sh s→bT B Γ T mc kc m→(∀b∈I::src.aux,iY Γ own b∧T b=none)→fj T s.heap I src→
    codeAny B.M A (.forLoop target (.ref I) body [] Γ.env) (LP B Γ A T Q E) s
theorem dB {target iter:Expr}{body:List Stmt}{pos:Pos}{Q:cM→ax→AH→Prop}(h:IV B n m iter (fun src σ₁=>FV B n m src target body Q E σ₁) E σ)
    (hs:∀env x,foldedSetIterable iter env x=pure x:=by intro _ _;rfl):SV B n m (.For target iter body [] pos) Q E σ:=by
  intro Γ A T mc kc s G HA HS HL;refine wpAny_For (wpAny_mono (h Γ A T mc kc s G.toFcOk HA HS HL) (fun x s₁ h₁=>wpAny_mono h₁ ?_ fun _ _ x=>x) fun _ _ x=>x) (hs _);rintro it s₂ ⟨I,T',σ',src,own,dof,e,hT,X,hm,H,hi,hq⟩;exact ah (f:=fun it=>codeAny B.M A (.forLoop target it body [] Γ.env) _ s₂) e (codeAny_mono (hq Γ A T' mc kc s₂ I own dof G HA X hm (HL.mono hT) H hi) (LP.mono hT))
noncomputable def NX (B:Bs)(n:Nat)(src src':gH)(x:V)(σ:AH):Prop:=
  ∀Γ A T mc kc s I own dof (P:Option Value→Shared→Prop) (E':Value→Shared→Prop),FcOk B Γ→ea n Γ A→SI B Γ T mc kc σ own dof s.heap→Sm Γ.sh s→(∀b∈I::src.aux,iY Γ own b∧T b=none)→fj T s.heap I src→
      (∀v s',SI B Γ T mc kc σ own dof s'.heap→Sm Γ.sh s'→fj T s'.heap I src'→RV T x v→P (some v) s')→wpAny B.M A (pyNext (.ref I)) P E' s
noncomputable def NE (B:Bs)(n:Nat)(src:gH)(σ:AH):Prop:=
  ∀Γ A T mc kc s I own dof (P:Option Value→Shared→Prop) (E':Value→Shared→Prop),FcOk B Γ→ea n Γ A→SI B Γ T mc kc σ own dof s.heap→Sm Γ.sh s→(∀b∈I::src.aux,iY Γ own b∧T b=none)→fj T s.heap I src→
      (∀s',SI B Γ T mc kc σ own dof s'.heap→Sm Γ.sh s'→P none s')→wpAny B.M A (pyNext (.ref I)) P E' s
theorem po {l:Addr}{i:Nat}{xs:List V}{v:V}(e:σ l=some (.list xs)∨σ l=some (.clist xs))(hv:xs[i]?=some v):NX B n (.lst l i) (.lst l (i+1)) v σ:=by
  intro Γ A T mc kc s I own dof P E' G HA X hm H hi k;refine bI ?_ (X.list e);intro vs l1 r1 hz;refine aY ?_ (r1.get i v hv);intro w hw hr;exact wpAny_pyNext_list_item hi l1 (List.getElem?_toArray.trans hw) fun h' hi' hs=>k w _ (X.but G (H _ (.head _)).1 hi hs.extBut) hm hi' hr
theorem pi {l:Addr}{i:Nat}{xs:List V}(e:σ l=some (.list xs)∨σ l=some (.clist xs))(hv:xs.length≤i):NE B n (.lst l i) σ:=by
  intro Γ A T mc kc s I own dof P E' G HA X hm H hi k;refine bI ?_ (X.list e);intro vs l1 r1 hz;exact wpAny_pyNext_list_end HA.handled hi l1 (List.getElem?_toArray.trans (List.getElem?_eq_none (r1.length▸hv))) fun h' hs=>k _ (X.but G (H _ (.head _)).1 hi hs) hm
theorem rJ {i:Nat}{xs:List V}{v:V}(hv:xs[i]?=some v):NX B n (.tup xs i) (.tup xs (i+1)) v σ:=by
  intro Γ A T mc kc s I own dof P E' G HA X hm H hi k;refine cg ?_ hi;intro t vs hT r1 hit;refine aY ?_ (r1.get i v hv);intro w hw hr;exact next_tuple_item hit (er X.tups hT) (List.getElem?_toArray.trans hw) fun h' hi' hs=>k w _ (X.but G (H _ (.head _)).1 hi hs.extBut) hm ⟨t,vs,hT,r1,hi'⟩ hr
theorem rI {i:Nat}{xs:List V}(hv:xs.length≤i):NE B n (.tup xs i) σ:=by
  intro Γ A T mc kc s I own dof P E' G HA X hm H hi k;refine cg ?_ hi;intro t vs hT r1 hit;exact next_tuple_end HA.handled hit (er X.tups hT) (List.getElem?_toArray.trans (List.getElem?_eq_none (r1.length▸hv))) fun h' hs=>k _ (X.but G (H _ (.head _)).1 hi hs) hm
theorem pq {a k st:Int}(hk:0<k):NX B n (.rng a k st) (.rng (a+st) (k-1) st) (.int a) σ:=by
  intro Γ A T mc kc s I own dof P E' G HA X hm H hi kk;exact wpAny_pyNext_range_item hi hk fun h' hi' hs=>kk _ _ (X.but G (H _ (.head _)).1 hi hs.extBut) hm hi' ⟨_,rfl⟩
theorem pj {a k st:Int}(hk:k≤0):NE B n (.rng a k st) σ:=by
  intro Γ A T mc kc s I own dof P E' G HA X hm H hi kk;exact wpAny_pyNext_range_end HA.handled hi hk fun h' hs=>kk _ (X.but G (H _ (.head _)).1 hi hs) hm
noncomputable def pc (B:Bs)(A:Around)(R:Result→Shared→Prop)(fin:Fin)(s':Shared):Prop:=match fin with
  | .done f=>R (.ok f) s'
  | .again c'=>c'.quiet=true∧codeAny B.M A c' R s'
noncomputable def nH (target:Expr)(it:Value)(body:List Stmt)(env:Env)(o:Option Value):Sem Fin:=match o with
  | none=>again (.block [] env)
  | some v=>do
    letOwnedTupleGo target it v
    assign target env v
    match ←execs body env with
    | .next | .cont=>again (.forLoop target it body [] env)
    | .brk=>pure (.done .next)
    | .ret v=>pure (.done (.ret v))
theorem lW {Γ:Fc}{A:Around}{I:Addr}{target:Expr}{body:List Stmt}{R:Result→Shared→Prop}{s:Shared}
    (h:∀E',wpAny B.M A (pyNext (.ref I)) (fun o s₁=>wpAny B.M A (nH target (.ref I) body Γ.env o) (pc B A R) (notedBy B.M A Γ.env fun e s'=>R (.error e) s') s₁) E' s):codeAny B.M A (.forLoop target (.ref I) body [] Γ.env) R s:=by
  refine codeAny_of_tree ?_;refine wpAny_noted ?_;exact wpAny_bind (wpAny_standAt (wpAny_bind (wpAny_onRaise (h _))))
noncomputable def tu (B:Bs)(n:Nat)(src src':gH)(target:Expr)(m m₁:ax)(σ:AH):Prop:=
  ∀Γ A T mc kc s I own dof (P:Shared→Prop) (PP:Option Value→Shared→Prop) (E':Value→Shared→Prop),FcOk B Γ→ea n Γ A→SI B Γ T mc kc σ own dof s.heap→Sm Γ.sh s→bT B Γ T mc kc m→(∀b∈I::src.aux,iY Γ own b∧T b=none)→fj T s.heap I src→
    (∀v s',(∀E1,wpAny B.M A (letOwnedTupleGo target (.ref I) v) (fun _ s₂=>wpAny B.M A (assign target Γ.env v) (fun _ s₃=>P s₃) E1 s₂) E1 s')→PP (some v) s')→
    (∀L h mc' s',rL T I src' L h→S B (eo Γ L) T mc' kc σ s'→bT B (eo Γ L) T mc' kc m₁→P s')→wpAny B.M A (pyNext (.ref I)) PP E' s
theorem NX.name {src src':gH}{x:Str}{px:Pos}{v:V}(hn:NX B n src src' v σ)(ha:src'.aux=src.aux)(hx:∃o,lk m x=some (.loc o)):tu B n src src' (.Name x px) m (setL m x v) σ:=by
  intro Γ A T mc kc s I own dof P PP E' G HA X hm HL H hi hPP k;refine uE ?_ hx;intro o ho;refine hn Γ A T mc kc s I own dof _ _ G HA X hm H hi fun v s₁ X₁ hm₁ hi₁ hv=>hPP v s₁ fun E1=>wpAny_of_eq (show letOwnedTupleGo (.Name x px) (.ref I) v=pure () from rfl) ?_;refine uE ?_ hi₁.pin;intro L p;exact wpAny_assign_Name (fM (Γ:=eo Γ L) (G.pin fun q hq=>(p.at_ q hq).2.2) ⟨own,dof,X₁.pin fun q hq=>⟨⟨(p.at_ q hq).1,(H q.1 (ha▸(p.at_ q hq).2.1)).1.o⟩,(H q.1 (ha▸(p.at_ q hq).2.1)).2⟩,hm₁⟩ HL ho hv fun mc' s' HS' HL'=>k L _ mc' s' p HS' HL')
theorem iF {src src':gH}{target:Expr}{m₁:ax}{body:List Stmt}{Q:cM→ax→AH→Prop}(hn:tu B n src src' target m m₁ σ)(ha:src'.aux=src.aux)
    (h:bu B n m₁ body (trn (fun m' σ₂=>FV B n m' src' target body Q E σ₂) Q) E σ):FV B n m src target body Q E σ:=by
  intro Γ A T mc kc s I own dof G HA X hm HL H hi;refine lW fun _=>hn Γ A T mc kc s I own dof _ _ _ G.toFcOk HA X hm HL H hi (fun v s' hgo=>wpAny_bind (wpAny_mono (hgo _) (fun _ _ h=>wpAny_bind h) fun _ _ x=>x)) fun L h₀ mc₂ s₂ p HS₂ HL₂=> ?_;have G₁:mB B (eo Γ L):=G.pin fun q hq=>(p.at_ q hq).2.2;have HA₁:ea n (eo Γ L) A:=⟨HA.frames,HA.handled,HA.depth,HA.units⟩;refine wpAny_bind (wpAny_mono (h (eo Γ L) A T mc₂ kc s₂ G₁ HA₁ HS₂ HL₂) ?_ fun e s' he=>ke G HA.frames e s' he.unpin);rintro f s₃ ⟨T₃,mc₃,kc₃,m₃,σ₃,y,hT,⟨own₃,dof₃,X₃,hm₃⟩,HL₃,hf,hq⟩;refine uA ?_ X₃.unpin;intro X₃' hI;have cont:FV B n m₃ src' target body Q E σ₃→wpAny B.M A (again (.forLoop target (.ref I) body [] Γ.env)) (pc B A (LP B Γ A T Q E)) (notedBy B.M A Γ.env fun e s'=>LP B Γ A T Q E (.error e) s') s₃:=fun z=>
    wpAny_pure ⟨rfl,codeAny_mono (z Γ A T₃ mc₃ kc₃ s₃ I own₃ dof₃ G HA X₃' hm₃ HL₃ (fun b hb=>(p.cov b hb).elim fun q hq=>⟨⟨hq.2▸(hI q hq.1).1.2,(H b (ha▸hb)).1.z,(H b (ha▸hb)).1.p⟩,hq.2▸(hI q hq.1).2⟩) (p.keep _ _ hT fun q hq=>(hI q hq).1.1)) (LP.mono hT)⟩
  have HS₃:S B Γ T₃ mc₃ kc₃ σ₃ s₃:=⟨own₃,dof₃,X₃',hm₃⟩
  revert hq
  exact RF.elim hf cont (fun hq=>wpAny_pure ⟨T₃,mc₃,kc₃,m₃,σ₃, .next,hT,HS₃,HL₃,rfl,hq⟩) cont (fun v w hw hq=>wpAny_pure ⟨T₃,mc₃,kc₃,m₃,σ₃, .ret v,hT,HS₃,HL₃,⟨w,rfl,hw⟩,hq⟩)
theorem qQ {Γ:Fc}{A:Around}{T T₀:TM}{mc kc:Str→Option Value}{own dof}{s:Shared}{I:Addr}{target:Expr}{body:List Stmt}{Q:cM→ax→AH→Prop}{E':Value→Shared→Prop}(hT:cC T₀ T)(X:SI B Γ T mc kc σ own dof s.heap)(hm:Sm Γ.sh s)(HL:bT B Γ T mc kc m)(q:Q .next m σ):
    wpAny B.M A (nH target (.ref I) body Γ.env none) (pc B A (LP B Γ A T₀ Q E)) E' s:=
  wpAny_pure ⟨rfl,codeAny_block (wpAny_execs_nil ⟨T,mc,kc,m,σ, .next,hT,⟨own,dof,X,hm⟩,HL,rfl,q⟩)⟩
theorem iG {src:gH}{target:Expr}{body:List Stmt}{Q:cM→ax→AH→Prop}(hnext:NE B n src σ)(q:Q .next m σ):FV B n m src target body Q E σ:=
  fun Γ A T mc kc s I own dof G HA X hm HL H hi=>lW fun _=>hnext Γ A T mc kc s I own dof _ _ G.toFcOk HA X hm H hi fun s₁ X₁ hm₁=>qQ (cC.refl T) X₁ hm₁ HL q
theorem rF {l:Addr}{i:Nat}{xs:List V}{x:Str}{px:Pos}{v:V}{body:List Stmt}{Q:cM→ax→AH→Prop}(e:σ l=some (.list xs)∨σ l=some (.clist xs))(hv:xs[i]?=some v)(hx:eE m x=true)
    (h:bu B n (setL m x v) body (trn (fun m' σ₂=>FV B n m' (.lst l (i+1)) (.Name x px) body Q E σ₂) Q) E σ):FV B n m (.lst l i) (.Name x px) body Q E σ:=iF ((po e hv).name rfl (eE.is hx)) rfl h
theorem mx {l:Addr}{i:Nat}{xs:List V}{target:Expr}{body:List Stmt}{Q:cM→ax→AH→Prop}(e:σ l=some (.list xs)∨σ l=some (.clist xs))(hv:xs.length≤i)(q:Q .next m σ):FV B n m (.lst l i) target body Q E σ:=iG (pi e hv) q
theorem o9 {i:Nat}{xs:List V}{x:Str}{px:Pos}{v:V}{body:List Stmt}{Q:cM→ax→AH→Prop}(hv:xs[i]?=some v)(hx:eE m x=true)
    (h:bu B n (setL m x v) body (trn (fun m' σ₂=>FV B n m' (.tup xs (i+1)) (.Name x px) body Q E σ₂) Q) E σ):FV B n m (.tup xs i) (.Name x px) body Q E σ:=iF ((rJ hv).name rfl (eE.is hx)) rfl h
theorem mz {i:Nat}{xs:List V}{target:Expr}{body:List Stmt}{Q:cM→ax→AH→Prop}(hv:xs.length≤i)(q:Q .next m σ):FV B n m (.tup xs i) target body Q E σ:=iG (rI hv) q
theorem my {a k st:Int}{x:Str}{px:Pos}{body:List Stmt}{Q:cM→ax→AH→Prop}(hk:0<k)(hx:eE m x=true)
    (h:bu B n (setL m x (.int a)) body (trn (fun m' σ₂=>FV B n m' (.rng (a+st) (k-1) st) (.Name x px) body Q E σ₂) Q) E σ):FV B n m (.rng a k st) (.Name x px) body Q E σ:=iF ((pq hk).name rfl (eE.is hx)) rfl h
theorem eM {a k st:Int}{target:Expr}{body:List Stmt}{Q:cM→ax→AH→Prop}(hk:k≤0)(q:Q .next m σ):FV B n m (.rng a k st) target body Q E σ:=iG (pj hk) q
end
end
section
section
variable {m:ax}{σ:AH}
structure Ep (m:ax)(σ:AH)(e:Expr)(v:V):Prop where
  ev:∀{B:Bs} {n:Nat} {Q:V→AH→Prop} {E:Str→AH→Prop},KO B.K→0<n→Q v σ→EV B n m e Q E σ
  tv:∀{B:Bs} {n:Nat} {Q:Bool→AH→Prop} {E:Str→AH→Prop} {b:Bool},KO B.K→0<n→v= .bool b→Q b σ→TV B n m e Q E σ
structure ly (m:ax)(σ:AH)(es:List Expr)(vs:List V):Prop where
  st:bo es=true
  ev:∀{B:Bs} {n:Nat} {R:List V→AH→Prop} {E:Str→AH→Prop},KO B.K→0<n→R vs σ→iE B n m E es R σ
structure qr (m:ax)(σ:AH)(op:BoolOp)(es:List Expr)(v:V):Prop where
  ev:∀{B:Bs} {n:Nat} {Q:V→AH→Prop} {E:Str→AH→Prop},KO B.K→0<n→Q v σ→pD B n m op E es Q σ
  tv:∀{B:Bs} {n:Nat} {Q:Bool→AH→Prop} {E:Str→AH→Prop} {b:Bool},KO B.K→0<n→v= .bool b→Q b σ→nZ B n m op E es Q σ
noncomputable def rn (m:ax)(x:Str):Option V:=(lk m x).bind cB.val
theorem Ep.of {e:Expr}{v:V}(h:∀{B:Bs} {n:Nat} {Q:V→AH→Prop} {E:Str→AH→Prop},KO B.K→0<n→Q v σ→EV B n m e Q E σ)
    (he:∀env whole,isTrue e env whole=(do let v ←whole;standAt e.pos;holding [v] (truthy v))):Ep m σ e v:=
  ⟨h,fun K hn hv q=>gj (h K hn ⟨_,hv,q⟩) he⟩
theorem ak {c:Const}{k:Nat}{p:Pos}{v:V}(h:mU c=some v):Ep m σ (.Constant c k p) v:= .of (fun _ _ q=>cj h q) fun _ _=>rfl
theorem af {x:Str}{p:Pos}{v:V}(h:rn m x=some v):Ep m σ (.Name x p) v:= .of (fun _ _ q=>by
    refine aY ?_ (Option.bind_eq_some_iff.mp h);intro sl h1 h2;refine iD h1 ?_ q
    cases sl<;>(first | (refine sj ?_ h2;clear h2;intro e1;subst e1) | cases (h2))<;>simp) fun _ _=>rfl
theorem gs {x:Str}{p:Pos}{s:cB}{v:V}(h:lk m x=some s)(h2:s.val=some v):Ep m σ (.Name x p) v:=af (by unfold rn;refine ah h ?_;exact h2)
theorem cR {l r:Expr}{op:Operator}{p:Pos}{a b c:Int}(h1:Ep m σ l (.int a))(h2:Ep m σ r (.int b))(h3:lm op a b c):Ep m σ (.BinOp l op r p) (.int c):=
  .of (fun K hn q=>dK (h1.ev K hn (h2.ev K hn (gf h3 q)))) fun _ _=>rfl
theorem ek {x:Expr}{p:Pos}{a:Int}(h1:Ep m σ x (.int a)):Ep m σ (.UnaryOp .USub x p) (.int (-a)):=
  .of (fun K hn q=>iV (h1.ev K hn fun Γ A T mc kc s w G HA HS hw=>by
      refine uE ?_ hw;clear hw;rintro t rfl;exact PyProof.Rows.neg_int (PQ.here (x:= .int _) (HS.toks _) ⟨_,rfl⟩ q))) fun _ _=>rfl
theorem oA {x:Expr}{p:Pos}{b:Bool}(h1:Ep m σ x (.bool b)):Ep m σ (.UnaryOp .Not x p) (.bool !b):=
  ⟨fun K hn q=>iV (h1.ev K hn fun Γ A T mc kc s w G HA HS hw=>by
      cases (show w= .bool b from hw)
      exact not_value (wpAny_truthy_bool (PQ.here (x:= .bool _) HS rfl q))),fun K hn h q=>gJ (h1.tv K hn rfl (by cases h;exact q))⟩
theorem bU {op:BoolOp}{xs:List Expr}{p:Pos}{v:V}(h:qr m σ op xs v):Ep m σ (.BoolOp op xs p) v:=
  ⟨fun K hn q=>dG (h.ev K hn q),fun K hn hv q=>bR (h.tv K hn hv q)⟩
theorem dw {op:BoolOp}{x:Expr}{v:V}(h:Ep m σ x v):qr m σ op [x] v:=
  ⟨fun K hn q=>h.ev K hn q,fun K hn hv q=>h.tv K hn hv (by cases op<;>rename_i b<;>cases b<;>exact q)⟩
theorem cX {x y:Expr}{r:List Expr}(h:Ep m σ x (.bool false)):qr m σ .And (x::y::r) (.bool false):=
  ⟨fun K hn q=>h.ev K hn q,fun K hn hv q=>h.tv K hn rfl (by cases hv;exact q)⟩
theorem cY {x y:Expr}{r:List Expr}{v:V}(h:Ep m σ x (.bool true))(h2:qr m σ .And (y::r) v):qr m σ .And (x::y::r) v:=
  ⟨fun K hn q=>h.ev K hn (h2.ev K hn q),fun K hn hv q=>h.tv K hn rfl (h2.tv K hn hv q)⟩
theorem nG {x y:Expr}{r:List Expr}(h:Ep m σ x (.bool true)):qr m σ .Or (x::y::r) (.bool true):=
  ⟨fun K hn q=>h.ev K hn q,fun K hn hv q=>h.tv K hn rfl (by cases hv;exact q)⟩
theorem j6 {x y:Expr}{r:List Expr}{v:V}(h:Ep m σ x (.bool false))(h2:qr m σ .Or (y::r) v):qr m σ .Or (x::y::r) v:=
  ⟨fun K hn q=>h.ev K hn (h2.ev K hn q),fun K hn hv q=>h.tv K hn rfl (h2.tv K hn hv q)⟩
theorem lV {x y:Expr}{a b:Bool}(h:Ep m σ x (.bool a))(h2:Ep m σ y (.bool b)):qr m σ .And [x,y] (.bool (a&&b)):=by
  cases a
  · exact cX h
  · exact cY h (dw h2)
theorem nF {x y:Expr}{a b:Bool}(h:Ep m σ x (.bool a))(h2:Ep m σ y (.bool b)):qr m σ .Or [x,y] (.bool (a || b)):=by
  cases a
  · exact j6 h (dw h2)
  · exact nG h
theorem fu {t b o:Expr}{p:Pos}{v:V}(h:Ep m σ t (.bool true))(h2:Ep m σ b v):Ep m σ (.IfExp t b o p) v:=
  ⟨fun K hn q=>aV (h.tv K hn rfl (h2.ev K hn q)),fun K hn hv q=>lD (h.tv K hn rfl (h2.tv K hn hv q))⟩
theorem j5 {t b o:Expr}{p:Pos}{v:V}(h:Ep m σ t (.bool false))(h2:Ep m σ o v):Ep m σ (.IfExp t b o p) v:=
  ⟨fun K hn q=>aV (h.tv K hn rfl (h2.ev K hn q)),fun K hn hv q=>lD (h.tv K hn rfl (h2.tv K hn hv q))⟩
theorem aC {l r:Expr}{op:CmpOp}{p:Pos}{a b:V}{c:Bool}(hb:behindInMarks op r=false)(h1:Ep m σ l a)(h2:Ep m σ r b)(h3:fc σ op a b c):Ep m σ (.Compare l [op] [r] p) (.bool c):=
  ⟨fun K hn q=>iU (h1.ev K hn (h2.ev K hn (ef h3 q hn))) hb,fun K hn hv q=>cD (h1.ev K hn (h2.ev K hn (ef h3 ⟨_,hv,q⟩ hn))) hb⟩
theorem bh {func:Expr}{args:List Expr}{p:Pos}{f v:V}{vs:List V}(ha:NA func)(h1:Ep m σ func f)(h2:ly m σ args vs)(h3:qz σ f vs v):Ep m σ (.Call func args [] p) v:=
  .of (fun K hn q=>b8 h2.st (h1.ev K hn ⟨oP h3,h2.ev K hn (qy K h3 q)⟩) fun env=>be ha args _ env) fun _ _=>rfl
theorem cF {e:Expr}{x:Str}{p:Pos}{a v:V}(ha:AB e)(h1:Ep m σ e a)(h2:qo σ a x v)(h3:v.kind<8):Ep m σ (.Attribute e x p) v:=
  .of (fun K hn q=>eK (h1.ev K hn (kA K h2 h3 q)) fun env w=>kG ha x env w) fun _ _=>rfl
theorem a6 {e i:Expr}{p:Pos}{a b v:V}(ha:NS i)(h1:Ep m σ e a)(h2:Ep m σ i b)(h3:eJ σ a b v):Ep m σ (.Subscript e i p) v:=
  .of (fun K hn q=>bM (h1.ev K hn (h2.ev K hn (dW h3 (iM ha) q)))) fun _ _=>rfl
theorem sY:ly m σ [] []:=⟨rfl,fun _ _ q=>q⟩
theorem aW {e:Expr}{es:List Expr}{v:V}{vs:List V}(hs:bo (e::es)=bo es)(h1:Ep m σ e v)(h2:ly m σ es vs):ly m σ (e::es) (v::vs):=⟨hs.trans h2.st,fun K hn q=>h1.ev K hn (h2.ev K hn q)⟩
theorem bD {es:List Expr}{k:Nat}{p:Pos}{vs:List V}(hz:es.length≤1000)(h:ly m σ es vs):Ep m σ (.Tuple es k p) (.tup vs):=
  ⟨fun K hn q=>dl h.st hz (h.ev K hn q),fun _ _ hv _=>nomatch hv⟩
theorem av {x:Str}{c:Const}{k:Nat}{p p2 p3:Pos}{a b v:V}(h1:rn m x=some a)(h2:mU c=some b)(h3:eJ σ a b v):Ep m σ (.Subscript (.Name x p) (.Constant c k p2) p3) v:=a6 .c (af h1) (ak h2) h3
theorem bQ {x s t:Str}{k:Nat}{p p2 p3:Pos}(h1:rn m x=some (.str s)):Ep m σ (.Compare (.Name x p) [.Eq] [.Constant (.str t) k p2] p3) (.bool (s==t)):=aC rfl (af h1) (ak rfl) (.eq (.a (.s _ _)))
theorem aA {e:Expr}{v:V}(hs:bo [e]=true)(h:Ep m σ e v):ly m σ [e] [v]:=aW hs h sY
theorem aD {e e2:Expr}{v v2:V}(hs:bo [e,e2]=true)(h:Ep m σ e v)(h2:Ep m σ e2 v2):ly m σ [e,e2] [v,v2]:=⟨hs,fun K hn q=>h.ev K hn (h2.ev K hn q)⟩
theorem bG {e e2 e3:Expr}{v v2 v3:V}(hs:bo [e,e2,e3]=true)(h:Ep m σ e v)(h2:Ep m σ e2 v2)(h3:Ep m σ e3 v3):ly m σ [e,e2,e3] [v,v2,v3]:=⟨hs,fun K hn q=>h.ev K hn (h2.ev K hn (h3.ev K hn q))⟩
theorem d6 {e e2 e3 e4:Expr}{v v2 v3 v4:V}(hs:bo [e,e2,e3,e4]=true)(h:Ep m σ e v)(h2:Ep m σ e2 v2)(h3:Ep m σ e3 v3)(h4:Ep m σ e4 v4):ly m σ [e,e2,e3,e4] [v,v2,v3,v4]:=⟨hs,fun K hn q=>h.ev K hn (h2.ev K hn (h3.ev K hn (h4.ev K hn q)))⟩
theorem jj {x s t u:Str}{k k2 k3:Nat}{p p2 p3 p4 p5:Pos}(h1:rn m x=some (.str s)):Ep m σ (.Compare (.Name x p) [.In] [.Tuple [.Constant (.str t) k p2, .Constant (.str u) k2 p3] k3 p4] p5) (.bool ([t,u].any (·==s))):=aC rfl (af h1) (bD (wW rfl) (aD rfl (ak rfl) (ak rfl))) (.in_ (.s (.c (.c .n))))
theorem gr {x s t u r:Str}{k k2 k3 k4:Nat}{p p2 p3 p4 p5 p6:Pos}(h1:rn m x=some (.str s)):Ep m σ (.Compare (.Name x p) [.In] [.Tuple [.Constant (.str t) k p2, .Constant (.str u) k2 p3, .Constant (.str r) k4 p6] k3 p4] p5) (.bool ([t,u,r].any (·==s))):=aC rfl (af h1) (bD (wW rfl) (bG rfl (ak rfl) (ak rfl) (ak rfl))) (.in_ (.s (.c (.c (.c .n)))))
end
end
section
section
variable {B:Bs}{n:Nat}{m:ax}{Q:V→AH→Prop}{E:Str→AH→Prop}{σ:AH}
noncomputable def kE (m:ax)(σ:AH)(e:Expr)(P:V→Prop):Prop:=∃v,Ep m σ e v∧P v
noncomputable def lZ (m:ax)(σ:AH)(es:List Expr)(P:List V→Prop):Prop:=∃v,ly m σ es v∧P v
theorem kE.mk {e:Expr}{P:V→Prop}{v:V}(h:Ep m σ e v)(q:P v):kE m σ e P:=⟨v,h,q⟩
theorem lZ.mk {e:List Expr}{P:List V→Prop}{v:List V}(h:ly m σ e v)(q:P v):lZ m σ e P:=⟨v,h,q⟩
theorem wU {e:Expr}{es:List Expr}{f:V}{vs:List V}{P:V→Prop}{R:V→List V→Prop}(h:Ep m σ e f)(h2:ly m σ es vs)(q:P f∧R f vs):kE m σ e fun f=>P f∧lZ m σ es (R f):=⟨f,h,q.1,vs,h2,q.2⟩
theorem bn {e:Expr}(K:KO B.K)(hn:0<n)(h:kE m σ e fun v=>Q v σ):EV B n m e Q E σ:=h.elim fun _ h=>h.1.ev K hn h.2
theorem dZ {e:Expr}{Q:Bool→AH→Prop}(K:KO B.K)(hn:0<n)(h:kE m σ e fun v=>∃b,v= .bool b∧Q b σ):TV B n m e Q E σ:=
  h.elim fun _ h=>h.2.elim fun _ q=>h.1.tv K hn q.1 q.2
theorem fh {es:List Expr}{R:List V→AH→Prop}(K:KO B.K)(hn:0<n)(h:lZ m σ es fun vs=>R vs σ):iE B n m E es R σ:=h.elim fun _ h=>h.1.ev K hn h.2
theorem aK {func:Expr}{args:List Expr}{pos:Pos}(K:KO B.K)(hn:0<n)(ha:NA func)(hs:bo args=true)
    (h:kE m σ func fun f=>ec B f∧lZ m σ args fun vs=>CV B n f vs Q E σ):EV B n m (.Call func args [] pos) Q E σ:=
  h.elim fun _ h=>b8 hs (h.1.ev K hn ⟨h.2.1,fh K hn h.2.2⟩) fun env=>be ha args _ env
theorem dq {func:Expr}{args:List Expr}{pos:Pos}{Q:Bool→AH→Prop}(K:KO B.K)(hn:0<n)(ha:NA func)(hs:bo args=true)
    (h:kE m σ func fun f=>ec B f∧lZ m σ args fun vs=>CV B n f vs (fun v σ₁=>∃b,v= .bool b∧Q b σ₁) E σ):TV B n m (.Call func args [] pos) Q E σ:=
  gj (aK K hn ha hs h) fun _ _=>rfl
theorem aE {e:Expr}{v:V}(K:KO B.K)(hn:0<n)(h:Ep m σ e v)(q:Q v σ):EV B n m e Q E σ:=h.ev K hn q
theorem lE {e:Expr}{b:Bool}{Q:Bool→AH→Prop}(K:KO B.K)(hn:0<n)(h:Ep m σ e (.bool b))(q:Q b σ):TV B n m e Q E σ:=h.tv K hn rfl q
theorem re {es:List Expr}{vs:List V}{R:List V→AH→Prop}(K:KO B.K)(hn:0<n)(h:ly m σ es vs)(q:R vs σ):iE B n m E es R σ:=h.ev K hn q
theorem cr {func:Expr}{args:List Expr}{pos:Pos}{f:V}{vs:List V}(K:KO B.K)(hn:0<n)(ha:NA func)(h1:Ep m σ func f)(h2:ly m σ args vs)(hk:ec B f)(h:CV B n f vs Q E σ):EV B n m (.Call func args [] pos) Q E σ:=
  b8 h2.st (h1.ev K hn ⟨hk,h2.ev K hn h⟩) fun env=>be ha args _ env
theorem n9 {func:Expr}{args:List Expr}{pos:Pos}{f:V}{vs:List V}{Q:Bool→AH→Prop}(K:KO B.K)(hn:0<n)(ha:NA func)(h1:Ep m σ func f)(h2:ly m σ args vs)(hk:ec B f)(h:CV B n f vs (fun v σ₁=>∃b,v= .bool b∧Q b σ₁) E σ):TV B n m (.Call func args [] pos) Q E σ:=
  gj (cr K hn ha h1 h2 hk h) fun _ _=>rfl
theorem qV {xs:List V}{j:Nat}{v:V}(e:xs.length=j+1)(h:xs[j]?=some v):ta xs (-1)=some v:=by
  delta ta
  refine ah (if_neg (by decide)) (ah (if_pos (Int.neg_le_neg (Int.ofNat_le.mpr (show 1≤xs.length from e▸Nat.succ_le_succ (xd j))))) (ah (ip e) ?_));exact h
theorem qU {xs:List V}{j:Nat}{v:V}(h:xs[j]?=some v):ta xs (j:Int)=some v:=(if_pos (Int.natCast_nonneg j)).trans h
theorem eJ.nat {σ:AH}{a:Addr}{xs:List V}{j:Nat}{v:V}(h:σ a=some (.list xs))(e:xs[j]?=some v):eJ σ (.ref a) (.int (j:Int)) v:= .l (.inl h) (qU e)
theorem eJ.last {σ:AH}{a:Addr}{xs:List V}{j:Nat}{v:V}(h:σ a=some (.list xs))(e2:xs.length=j+1)(e:xs[j]?=some v):eJ σ (.ref a) (.int (-1)) v:= .l (.inl h) (qV e2 e)
theorem jF.f {σ:AH}{x:V}(h:x.kind=4):jF σ x .none false:= .d (by refine ah h ?_;rfl) (by refine ah h ?_;rfl)
end
end
section
open Builtin Builtin.ObjectAttr Builtin.Getset_descriptor
section
variable {prog:Program}{w:World}{K:Frag}{A:Around}{E:Value→Shared→Prop}{s:Shared}
theorem ti {x C:Addr}{ox:Obj}{od:Option Obj}{name:Str}{tk:Tok}{v:Value}{cd:ClassData}{R:Result→Shared→Prop}(X:K.In s.heap)(I:W.InstAt s.heap x ox C od)(hc:clsIn K C=some cd)(hne:cd.mro.isEmpty=false)(hobj:cd.mro.contains (.type "object")=true)
    (hpass:refuseLoop (.ref x) "__setattr__" cd.mro=pure ()) (ht:takerIn K C name=some none)
    (h:∀b,wpAny (model prog w) A.in1 (storeInOwnDict (.ref x) (.ref C) (.str name tk) name v b)
      (fun fin s'=>match fin with | .done f=>R (.ok f) s' | .again c'=>c'.quiet=true∧codeAny (model prog w) A c' R s') (fun e s'=>R (.error e) s') s):
    codeAny (model prog w) A (.call (.builtin "object.__setattr__") ⟨[.ref x, .str name tk,v],[]⟩) R s:=by
  have SF:=PySem.F.store_object;have sub:Looks (model prog w) s.heap (isInstance (.ref x) (.type "object")) true:=I.type.andThen (looks_mroIn X (by unfold mroIn;refine ah hc ?_;rewrite [Option.bind_some];exact ah (if_neg (by rw [hne];decide)) (ah hobj rfl)));refine codeAny_call_builtin SF.slot.plain SF.entry (@check_slot (model prog w) _ _ s "object.__setattr__" "object" "__setattr__" (.ref x) [.str name tk,v] [] _ SF.kind SF.split sub (SF.args (.ref x) (.str name tk) v) ?_);refine aY ?_ (Option.bind_eq_some_iff.mp ht);intro attr ha hr;have hm:Looks (model prog w) s.heap (mroOf (.ref C)) cd.mro:=(looks_clsIn X hc).andThen .now;have L3:Looks (model prog w) s.heap (storeTaker? attr) none:=by
    cases attr with
    | none=>exact .now
    | some a=>
      refine aY ?_ (Option.map_eq_some_iff.mp hr);intro b hb hb'
      refine(looks_takesIn X hb).andThen ?_
      cases b<;>first | exact .now | exact sn hb'
  rw [osa_eq,refuse_eq];refine wpAny_bind (wpAny_bind (I.type.here (wpAny_bind (hm.here ?_))));refine ah hpass ?_;refine wpAny_pure (wpAny_bind (I.type.here (wpAny_bind ((looks_findIn X ha).here (wpAny_bind (L3.here ?_))))));exact h _
theorem kn {d:Addr}{es:List DictEntry}{n:Nat}{name:Str}{tk:Tok}{v:Value}{P:Fin→Shared→Prop}(hd:s.heap.get? d=some (dictOf es n))(hr:es.any (·.refKey)=false)(hz:(fz (PyData.keyHash w.params name) (.str name s.toks) v name es).length≤900)
    (k:∀h' n',h'.get? d=some (dictOf (fz (PyData.keyHash w.params name) (.str name s.toks) v name es) n')→Heap.SameBut d s.heap h'→P (.done (.ret .none)) {s with heap:=h',toks:=s.toks+1}):
    wpAny (model prog w) A (storeInDict d (.str name tk) name v) P E s:=by
  refine uE ?_ (fA name (PyData.keyHash w.params name) (.str name s.toks) v es n);intro n' hput;have hnew:(s.heap.update d (Obj.putName name (PyData.keyHash w.params name) (.str name s.toks) v)).get? d=some (dictOf (fz (PyData.keyHash w.params name) (.str name s.toks) v name es) n'):=by
    refine ch hput ?_;exact Heap.get?_update_self _ hd (by refine ah hput ?_;rfl)
  refine wpAny_bind (wpAny_pure (wpAny_bind ?_));refine wpAny_bind (wpAny_bind (wpAny_askSetting (wpAny_pure (wpAny_bind (wpAny_mkText (wpAny_bind (wpAny_loadPart hd ?_)))))));have c:(!es.toArray.any (·.key.isStr name)&&es.toArray.any (·.refKey))=false:=by
    refine ch Array.any_toList (ch Array.any_toList ?_);simp [hr]
  dsimp only;rewrite [aRefKeyMayBeTheName_at];refine ah c ?_;refine wpAny_updatePart hd ?_;refine wpAny_bind (wpAny_lookBehind hnew (pastItsLine_dict (by refine ah List.size_toArray (ah sizeLine_eq ?_);exact wV (show _≤900 by assumption) (by decide))) ?_);exact wpAny_pure (k _ _ hnew (Heap.SameBut.update ..))
end
section
variable {B:Bs}{n:Nat}{m:ax}{Q:V→AH→Prop}{E:Str→AH→Prop}{σ:AH}
theorem dd.swap {T T':TM}{h₀ h₀' h h':Heap}{own own':List Addr}{dof:Addr→Addr}{a:Addr}{o:bL}(x:dd B T h₀ h own dof a o)(y:dd B T' h₀' h' own' dof a o):dd B T h₀ h own' dof a o:=by
  cases o with
  | list xs=>exact⟨y.1,x.2⟩
  | clist xs=>exact x
  | sdict es=>exact⟨y.1,x.2⟩
  | idict es=>exact⟨y.1,x.2⟩
  | inst C ats=>exact⟨y.1,y.2.1,x.2.2⟩
  | stat C=>exact x
theorem SI.drop {Γ Γ':Fc}{T T':TM}{mc kc mc' kc' own dof}{e:Addr}{h h':Heap}(I:SI B Γ T mc kc σ (e::own) dof h)(I₀:SI B Γ' T' mc' kc' σ own dof h'):SI B Γ T mc kc σ own dof h:=
  { I with
    ow:=fun a ha=>I.ow a (.tail _ ha)
    sn:=fun p hp=>⟨(I.sn p hp).1,fun q=>(I.sn p hp).2 (.tail _ q)⟩
    pn:=fun p hp=>⟨(I.pn p hp).1,fun q=>(I.pn p hp).2 (.tail _ q)⟩
    ob:=fun a o e=>(I.ob a o e).swap (I₀.ob a o e)}
theorem gz {Γ:Fc}{A:Around}{T:TM}{mc kc own dof}{s:Shared}{x:Str}{p:Pos}{v:V}{P E':Value→Shared→Prop}(G:FcOk B Γ)(I:SI B Γ T mc kc σ own dof s.heap)(HL:bT B Γ T mc kc m)(hl:lk m x=some (.loc (some v)))(k:∀c,RV T v c→P c s):
    wpAny B.M A (eval (.Name x p) Γ.env) P E' s:=by
  refine dc ?_ (HL x _ hl);intro hd hk ho;refine aY ?_ (ho v rfl);intro c hc hv;exact wpAny_Name (wpAny_loadName_local G.kind hk I.ns hc (k c hv)) hd
theorem SI.exc {Γ:Fc}{T:TM}{mc kc own dof}{h h':Heap}{e:Addr}{vs:Array Value}{o:Obj}(G:FcOk B Γ)(I:SI B Γ T mc kc σ own dof h)(H:iY Γ own e)(ho:h.get? e=some o)(hd:o.data= .fields vs)(k:∀b ob,b≠e→h.get? b=some ob→h'.get? b=some ob):SI B Γ T mc kc σ own dof h':=
  I.butF G H ho hd fun b ob hb hx=>k b ob hb hx
end
end
section
noncomputable def cH (env:Env):List (Str×NameKind)→List (Str×Addr)→List (Str×Addr)
  | [],acc=>acc
  | e::r,acc=>if e.2== .free then cH env r ((e.1,(env.cells.lookup e.1).getD 0)::acc) else cH env r acc
theorem fS {env:Env}{scope:Scope}(h:∀x,(x,NameKind.free)∈scope.names→∃c,env.cells.lookup x=some c):closureFor scope env=pure (cH env scope.names []):=by
  have key:∀(l:List (Str×NameKind)) (acc:List (Str×Addr)),(∀x,(x,NameKind.free)∈l→∃c,env.cells.lookup x=some c)→
      (forIn l acc fun x r=>if (x.2==NameKind.free)=true then(do let c ←cellOf env x.1;pure (ForInStep.yield ((x.1,c)::r))) else pure (ForInStep.yield r))=(pure (cH env l acc):Sem (List (Str×Addr))):=by
    intro l
    induction l with
    | nil=>exact fun acc _=>rfl
    | cons p r ih=>
      intro acc hl;rw [List.forIn_cons]
      show _=pure (if (p.2==NameKind.free)=true then cH env r ((p.1,(env.cells.lookup p.1).getD 0)::acc) else cH env r acc)
      by_cases hk:(p.2==NameKind.free)=true
      · refine uE ?_ (hl p.1 (eq_of_beq hk▸ .head _));intro c hc;refine ah (if_pos hk) (ah (if_pos hk) (ah (show cellOf env p.1=pure c by unfold cellOf;rw [hc]) (ah hc ?_)));exact ih _ fun y hy=>hl y (.tail _ hy)
      · refine ah (if_neg hk) (ah (if_neg hk) ?_);exact ih _ fun y hy=>hl y (.tail _ hy)
  exact(bind_pure _).trans (key scope.names [] h)
section
variable {env:Env}{y:Str}{c:Addr}
theorem gm:∀(l:List (Str×NameKind)) (acc:List (Str×Addr)),(∀x,(x,NameKind.free)∈l→∃c,env.cells.lookup x=some c)→(cH env l acc).lookup y=some c→acc.lookup y=some c∨env.cells.lookup y=some c:=by
  intro l
  induction l with
  | nil=>exact fun _ _ h=> .inl h
  | cons p r ih=>
    intro acc hl h;have h:(if (p.2==NameKind.free)=true then cH env r ((p.1,(env.cells.lookup p.1).getD 0)::acc) else cH env r acc).lookup y=some c:=h
    by_cases hk:(p.2==NameKind.free)=true
    · rw [if_pos hk] at h;refine uE ?_ (hl p.1 (eq_of_beq hk▸ .head _));intro d hd
      refine(ih _ (fun y hy=>hl y (.tail _ hy)) h).elim (fun h1=> ?_) .inr
      rw [hd,List.lookup_cons] at h1
      by_cases q:(y==p.1)=true
      · rw [q] at h1;exact .inr (eq_of_beq q▸hd.trans h1)
      · rw [Bool.eq_false_iff.mpr q] at h1;exact .inl h1
    · rw [if_neg hk] at h;exact ih _ (fun y hy=>hl y (.tail _ hy)) h
theorem jd:∀(l:List (Str×NameKind)) (acc:List (Str×Addr)),((∃c,acc.lookup y=some c)∨(y,NameKind.free)∈l)→∃c,(cH env l acc).lookup y=some c:=by
  intro l
  induction l with
  | nil=>exact fun _ h=>h.elim id fun h=>nomatch h
  | cons p r ih=>
    intro acc h
    refine(?_:∃c,(if (p.2==NameKind.free)=true then cH env r ((p.1,(env.cells.lookup p.1).getD 0)::acc) else cH env r acc).lookup y=some c)
    by_cases hk:(p.2==NameKind.free)=true
    · refine ah (if_pos hk) ?_;refine ih _ ?_;refine ah List.lookup_cons ?_
      by_cases q:(y==p.1)=true
      · refine ah q ?_;exact .inl ⟨_,rfl⟩
      · refine ah (Bool.eq_false_iff.mpr q) ?_;exact h.imp id fun h=>(List.mem_cons.mp h).elim (fun z=>absurd (beq_iff_eq.mpr (congrArg Prod.fst z)) q) id
    · refine ah (if_neg hk) ?_;exact ih _ (h.imp id fun h=>(List.mem_cons.mp h).elim (fun z=>absurd (by refine ch z ?_;rfl) hk) id)
theorem fy {x:Str}{k:NameKind}:∀{names:List (Str×NameKind)},names.lookup x=some k→
    (names.map fun(n,k)=>if (k==NameKind.free&&env.scope.kind== .function&&env.kindOf n==some .cell) then(n,NameKind.cell) else(n,k)).lookup x=some (if (k==NameKind.free&&env.scope.kind== .function&&env.kindOf x==some .cell) then .cell else k):=by
  intro names
  induction names with
  | nil=>exact fun h=>nn h
  | cons p r ih=>
    intro h;have e:∀(c:Prop) [Decidable c],(if c then(p.1,NameKind.cell) else(p.1,p.2))=(p.1,if c then .cell else p.2):=fun c _=>by
      by_cases q:c
      · exact ah (if_pos q) (ah (if_pos q) rfl)
      · exact ah (if_neg q) (ah (if_neg q) rfl)
    rw [List.map_cons,List.lookup_cons,e];rw [List.lookup_cons] at h
    by_cases q:(x==p.1)=true
    · rw [q] at h;rw [show p.2=k from xg h,←eq_of_beq q,beq_self_eq_true]
    · rw [Bool.eq_false_iff.mpr q] at h;rw [Bool.eq_false_iff.mpr q];exact ih h
end
noncomputable def qL (G:Str→Option V)(m:ax)(x:Str)(k:NameKind):Option cB:=match k with
  | .local=>some (.loc none)
  | .globalImplicit=>(G x).map .glob
  | .free=>match lk m x with
    | some (.cel (some v))=>some (.fre v)
    | _=>none
  | _=>none
noncomputable abbrev qJ (G:Str→Option V)(m:ax):List (Str×NameKind)→ax:=li (qL G m)
noncomputable def rj (o:Option cB):Bool:=match o with
  | some (.cel (some _))=>true | _=>false
noncomputable def jv (m:ax)(scope:Scope):Bool:=
  scope.names.all (fun p=>scope.names.lookup p.1==some p.2&&((p.1==("__debug__":Str))==false&&(!(p.2== .cell)&&(!(p.2== .free) || rj (lk m p.1)))))
section
variable {m:ax}{scope:Scope}
theorem fK (hok:jv m scope=true)(y:Str)(k':NameKind)(hm:(y,k')∈scope.names):scope.names.lookup y=some k'∧(y==("__debug__":Str))=false∧k'≠ .cell∧(k'= .free→∃v,lk m y=some (.cel (some v))):=by
  refine uA ?_ (Bool.and_eq_true_iff.mp (List.all_eq_true.mp hok _ hm));intro h1 h;refine uA ?_ (Bool.and_eq_true_iff.mp h);intro h2 h;refine uA ?_ (Bool.and_eq_true_iff.mp h);intro h3 h4;refine⟨eq_of_beq h1,eq_of_beq h2,fun q=> ?_,fun q=> ?_⟩
  · subst q;exact ft h3
  · subst q;have h4:rj (lk m y)=true:=h4
    revert h4
    generalize lk m y=o
    cases o with
    | none=>exact fun h=>ft h
    | some s=>cases s with
      | cel v=>cases v with
        | none=>exact fun h=>ft h
        | some v=>exact fun _=>⟨v,rfl⟩
      | _=>exact fun h=>ft h
end
section
variable {B:Bs}{n:Nat}{m:ax}{E:Str→AH→Prop}{σ:AH}
theorem SI.refr' {Γ:Fc}{T mc kc own dof}{h:Heap}{f:List Env}(I:SI B {Γ with frs:=f} T mc kc σ own dof h):SI B Γ T mc kc σ own dof h:=
  { pt:=I.pt,ns:=I.ns,keep:=I.keep,above:=I.above,ow:=I.ow,sn:=I.sn,pn:=I.pn,cl:=I.cl,tp:=I.tp,ob:=I.ob,inj:=I.inj,dsj:=I.dsj}
theorem SI.butNs {Γ:Fc}{T mc kc own dof}{h h':Heap}{C:Addr}{oC:Obj}{es:Array DictEntry}{ep:Nat}(G:FcOk B Γ)(I:SI B Γ T mc kc σ own dof h)(ho:h.get? C=some oC)(hd:oC.data= .dict es ep)(h1:C∉own)(h2:Γ.h₀.get? C=none)(h3:C≠Γ.env.locals)(h4:∀p∈Γ.snap,p.1≠C)(hs:Heap.SameBut C h h'):SI B Γ T mc kc σ own dof h':=by
  have ne:∀{b o},h.get? b=some o→(∀es ep,o.data≠ .dict es ep)→b≠C:=fun e q z=>q _ _ ((congrArg Obj.data (xg ((z▸e).symm.trans ho))).trans hd);have neo:∀a∈own,a≠C:=fun a ha q=>h1 (q▸ha);exact I.chg (W:=(·=C)) (qx hs) (I.ns.sameBut hs (Ne.symm h3)) (fun _ q=>q▸h2) (fun a ha q=>absurd q (neo a ha)) h4 (fun p hp=>ne (I.pn p hp).1 (G.pnf p hp).d)
    (fun y c e=>dx hs ((I.cl y c e).elim fun oc z=>ne z.1 fun es ep w=>nomatch z.2.symm.trans w) (I.cl y c e))
    (fun _ vs _ z=>z.elim fun ot z=>z.elim fun n z=>ne z.1 fun es ep w=>nomatch z.2.2.symm.trans w)
    (fun a oa e=>dd.same (qx hs) (fun _ z=>z.elim fun ob z=>z.2.2.elim fun n d=>ne z.1 fun es ep w=>nomatch d.symm.trans w) (fun _=>neo a) (fun _ ha _ _=>neo a ha) (fun _ hd _ _ _=>neo _ hd) (I.ob a oa e)) I.inj I.dsj
inductive MP (B:Bs)(Γ:Fc)(T:TM)(kc:Str→Option Value)(Q:AH→Prop)(s:Shared):Prop
  | mk (T':TM) (mc':Str→Option Value) (σ':AH) (own':List Addr) (dof':Addr→Addr) (h1:cC T T') (h2:SI B Γ T' mc' kc σ' own' dof' s.heap) (h3:Sm Γ.sh s) (h4:Q σ')
noncomputable def MR (B:Bs)(Γ:Fc)(T:TM)(kc:Str→Option Value)(Q:AH→Prop)(r:Result)(s:Shared):Prop:=match r with
  | .ok _=>MP B Γ T kc Q s
  | .error _=>False
theorem MR.mono {Γ:Fc}{T₀ T:TM}{kc:Str→Option Value}{Q:AH→Prop}(hT:cC T₀ T)(r:Result)(s:Shared)(h:MR B Γ T kc Q r s):MR B Γ T₀ kc Q r s:=by
  cases r with
  | ok f=>exact MP.casesOn h fun a b c d e h1 h2 h3 h4=>⟨a,b,c,d,e,hT.trans h1,h2,h3,h4⟩
  | error e=>exact h
noncomputable def MV (B:Bs)(n:Nat)(m:ax)(src:gH)(e:Expr)(D:Addr)(Q:AH→Prop)(σ:AH):Prop:=
  ∀Γ A T mc kc s I own dof,FcOk B Γ→ea n Γ A→SI B Γ T mc kc σ own dof s.heap→Sm Γ.sh s→bT B Γ T mc kc m→(∀b∈I::src.aux,iY Γ own b∧T b=none)→fj T s.heap I src→codeAny B.M A (.compLoop e 0 (.ref I) (.ref D) Γ.env) (MR B Γ T kc Q) s
theorem PE.none {Γ:Fc}{T:TM}{v s}(h:PE B Γ T (fun _ _=>False) v s):False:=PE.casesOn h fun _ _ _ _ _ _ _ _ _ _ _ _ _ h=>h
noncomputable def qK (elt target iter:Expr)(ifs:List Expr)(scope:Scope)(pos:Pos)(it acc:Value)(env:Env)(o:Option Value):Sem Fin:=match o with
  | none=>pure (.done .next)
  | some v=>do
    letOwnedTupleGo target it v
    assign target env v
    let ok ←forIn ifs true fun c r=>if r=true then do let ok ←isTrue c env (eval c env);pure (ForInStep.yield ok) else pure (ForInStep.yield r)
    if ok=true then do
      (do let _ ←call (.builtin "list.append") [acc,←eval elt env])
      again (.compLoop (.ListComp elt [⟨target,iter,ifs,0⟩] scope pos) 0 it acc env)
    else again (.compLoop (.ListComp elt [⟨target,iter,ifs,0⟩] scope pos) 0 it acc env)
theorem lN {Γ:Fc}{A:Around}{I D:Addr}{elt target iter:Expr}{ifs:List Expr}{scope:Scope}{pos:Pos}{R:Result→Shared→Prop}{s:Shared}
    (h:∀E',wpAny B.M A (pyNext (.ref I)) (fun o s₁=>wpAny B.M A (qK elt target iter ifs scope pos (.ref I) (.ref D) Γ.env o) (pc B A R) E' s₁) E' s):codeAny B.M A (.compLoop (.ListComp elt [⟨target,iter,ifs,0⟩] scope pos) 0 (.ref I) (.ref D) Γ.env) R s:=by
  refine codeAny_of_tree ?_;refine wpAny_noted ?_;rw [compTurn_list];exact wpAny_bind (wpAny_standAt (wpAny_bind (wpAny_mono (h _) (fun o _ h=>by cases o<;>exact h) fun _ _ x=>x)))
theorem kz {src:gH}{elt target iter:Expr}{ifs:List Expr}{scope:Scope}{pos:Pos}{D:Addr}{Q:AH→Prop}(hn:NE B n src σ)(q:Q σ):MV B n m src (.ListComp elt [⟨target,iter,ifs,0⟩] scope pos) D Q σ:=
  fun Γ A T mc kc s I own dof G HA X hm HL H hi=>lN fun _=>hn Γ A T mc kc s I own dof _ _ G HA X hm H hi fun s₁ X₁ hm₁=>wpAny_pure ⟨T,mc,σ,own,dof,cC.refl T,X₁,hm₁,q⟩
noncomputable def pP (B:Bs)(n:Nat)(m:ax)(l:List Expr)(Q:Bool→AH→Prop)(σ:AH):Prop:=match l with
  | []=>Q true σ
  | c::r=>match r with
    | []=>TV B n m c Q (fun _ _=>False) σ
    | _=>False
theorem pP.run {ifs:List Expr}{Q:Bool→AH→Prop}(h:pP B n m ifs Q σ){Γ:Fc}{A:Around}{T:TM}{mc kc:Str→Option Value}{s:Shared}{E':Value→Shared→Prop}(G:FcOk B Γ)(HA:ea n Γ A)(HS:S B Γ T mc kc σ s)(HL:bT B Γ T mc kc m):
    wpAny B.M A (forIn ifs true fun c r=>if r=true then do let ok ←isTrue c Γ.env (eval c Γ.env);pure (ForInStep.yield ok) else pure (ForInStep.yield r)) (BQ B Γ T mc kc Q) E' s:=by
  cases ifs with
  | nil=>exact wpAny_tests_nil ⟨T,σ,cC.refl T,HS,h⟩
  | cons c r=>cases r with
    | cons=>exact h.elim
    | nil=>exact wpAny_tests_one (wpAny_mono (h Γ A T mc kc s G HA HS HL) (fun _ _ x=>x) fun _ _ x=>x.none.elim)
theorem ny {src src':gH}{elt target iter:Expr}{ifs:List Expr}{scope:Scope}{pos:Pos}{D:Addr}{m₁:ax}{Q:AH→Prop}{J:AH→Prop}(hn:tu B n src src' target m m₁ σ)(ha:src'.aux=src.aux)
    (h:pP B n m₁ ifs (fun b σ₁=>if b then EV B n m₁ elt (fun v σ₂=>∃xs,σ₂ D=some (.list xs)∧xs.length<sizeLine∧J (σ₂.set D (.list (xs++[v])))) (fun _ _=>False) σ₁ else J σ₁) σ)
    (ih:∀σ',J σ'→MV B n m₁ src' (.ListComp elt [⟨target,iter,ifs,0⟩] scope pos) D Q σ'):MV B n m src (.ListComp elt [⟨target,iter,ifs,0⟩] scope pos) D Q σ:=by
  intro Γ A T mc kc s I own dof G HA X hm HL H hi;refine lN fun E'=>hn Γ A T mc kc s I own dof _ _ _ G HA X hm HL H hi (fun v s' hgo=>wpAny_bind (wpAny_mono (hgo _) (fun _ _ h=>wpAny_bind h) fun _ _ x=>x)) fun L h₀ mc₂ s₂ p HS₂ HL₂=> ?_;have G₁:FcOk B (eo Γ L):=G.pin fun q hq=>(p.at_ q hq).2.2;have HA₁:ea n (eo Γ L) A:=⟨HA.frames,HA.handled,HA.depth,HA.units⟩;have cont:∀T₃ σ₃ s₃,cC T T₃→S B (eo Γ L) T₃ mc₂ kc σ₃ s₃→J σ₃→wpAny B.M A (again (.compLoop (.ListComp elt [⟨target,iter,ifs,0⟩] scope pos) 0 (.ref I) (.ref D) Γ.env)) (pc B A (MR B Γ T kc Q)) E' s₃:=by
    rintro T₃ σ₃ s₃ hT ⟨own₃,dof₃,X₃,hm₃⟩ z;refine uA ?_ X₃.unpin;intro X₃' hI;exact wpAny_pure ⟨rfl,codeAny_mono (ih _ z Γ A T₃ mc₂ kc s₃ I own₃ dof₃ G HA X₃' hm₃ (HL₂.mono hT) (fun b hb=>(p.cov b hb).elim fun q hq=>⟨⟨hq.2▸(hI q hq.1).1.2,(H b (ha▸hb)).1.z,(H b (ha▸hb)).1.p⟩,hq.2▸(hI q hq.1).2⟩) (p.keep _ _ hT fun q hq=>(hI q hq).1.1)) (MR.mono hT)⟩
  refine wpAny_bind (wpAny_mono (h.run (Γ:=eo Γ L) G₁ HA₁ HS₂ HL₂) ?_ fun _ _ x=>x);rintro b s₃ ⟨T₃,σ₃,hT₃,HS₃,hb⟩
  cases b with
  | false=>exact cont T₃ σ₃ s₃ hT₃ HS₃ hb
  | true=>
    refine wpAny_bind (wpAny_bind (wpAny_mono (hb (eo Γ L) A T₃ mc₂ kc s₃ G₁ HA₁ HS₃ (HL₂.mono hT₃)) ?_ fun _ _ x=>x.none.elim));rintro y s₄ ⟨T₄,σ₄,z,hT₄,HS₄,hz,xs,hxs,hlen,hq⟩;refine wpAny_bind (wpAny_mono (gI (B:=B) (n:=n) (E:=fun _ _=>False) (Q:=fun _ σ'=>J σ') hxs hlen hq (eo Γ L) A T₄ mc₂ kc s₄ (.builtin "list.append") [.ref D,y] G₁ HA₁ HS₄ rfl ⟨_,_,rfl,rfl,y,[],rfl,hz,rfl⟩) ?_ fun _ _ x=>x.none.elim);rintro _ s₅ ⟨T₅,σ₅,_,hT₅,HS₅,_,hq⟩;exact wpAny_pure (cont T₅ _ s₅ ((hT₃.trans hT₄).trans hT₅) HS₅ hq)
end
end
section
section
variable {B:Bs}{n:Nat}{m:ax}{E:Str→AH→Prop}{σ:AH}
theorem oN {T:TM}{A:Around}{s:Shared}{I:Addr}{src:gH}{Q E':Value→Shared→Prop}(hi:fj T s.heap I src)(q:Q (.ref I) s):wpAny B.M A (pyIter (.ref I)) Q E' s:=by
  cases src with
  | lst l i=>exact wpAny_pyIter_listiter hi q
  | rng x k st=>exact wpAny_pyIter_rangeiter hi q
  | tup xs i=>exact cg (fun t vs _ _ hi=>wpAny_pyIter_tupleiter hi q) hi
  | zip=>exact wpAny_pyIter_zip hi.2.1 q
theorem SI.hide {Γ:Fc}{T mc kc own dof}{h:Heap}(G:FcOk B Γ)(X:SI B Γ T mc kc σ own dof h):∀{L:List Addr},(∀b∈L,iY Γ own b∧∃o,h.get? b=some o∧Qt o)→SI B Γ T mc kc σ (L++own) dof h:=by
  intro L
  induction L with
  | nil=>exact fun _=>X
  | cons a L ih=>
    intro hL;refine dR ?_ (hL a (.head _));intro H o ho q;refine SI.addr (ih fun b hb=>hL b (.tail _ hb)) (fun e=> ?_) H.z trivial ho q.c (fun p hp e=> ?_) H.p
    · refine bz ?_ X.ns;intro oL es ep h1 h2 _;rw [←e,ho] at h1;exact q.d _ _ (xg h1▸h2)
    · refine uA ?_ (X.sn p hp);refine uE ?_;intro sl h1 _;refine eu ?_ (G.snf p hp);intro es ep h2;rw [e,ho] at h1;exact q.d es ep (xg h1▸h2)
noncomputable abbrev je (Γ:Fc)(env:Env)(own:List Addr)(oL:Obj)(s:Shared):Fc:={eH Γ env own oL s with frs:=Γ.frs}
structure mu (Γ:Fc)(own:List Addr)(C:Addr)(h:Heap):Prop where
  ns:∃m,h.Ns C m
  o:C∉own
  z:Γ.h₀.get? C=none
  l:C≠Γ.env.locals
  s:∀p∈Γ.snap,p.1≠C
theorem SI.cmpEnd {Γ:Fc}{T mc kc own dof}{h h':Heap}{C:Addr}(G:FcOk B Γ)(I:SI B Γ T mc kc σ own dof h)(x:mu Γ own C h)(hs:Heap.SameBut C h h'):SI B Γ T mc kc σ own dof h':=by
  obtain ⟨⟨m,o,es,ep,ho,hd,_⟩,h1,h2,h3,h4⟩:=x;exact I.butNs G ho hd h1 h2 h3 h4 hs
theorem jR {G:Str→Option V}{elt target iter:Expr}{ifs:List Expr}{scope:Scope}{pos:Pos}{Q:Addr→AH→Prop}(hG:∀x v,G x=some v→dy B x v)(hok:jv m scope=true)(hkind:scope.kind= .function)
    (h:IV B n m iter (fun src σ₁=>∀D,σ₁ D=none→MV B n (qJ G m scope.names) src (.ListComp elt [⟨target,iter,ifs,0⟩] scope pos) D (Q D) (σ₁.set D (.list []))) E σ)
    {Γ:Fc} {A:Around} {T:TM} {mc kc:Str→Option Value} {s:Shared} (G₀:FcOk B Γ) (HA:ea n Γ A) (HS:S B Γ T mc kc σ s) (HL:bT B Γ T mc kc m) {RR:Value→Addr→Result→Shared→Prop}
    (k:∀T' σ' D C own' dof' s' f,cC T T'→SI B Γ T' mc kc σ' own' dof' s'.heap→Sm Γ.sh s'→mu Γ own' C s'.heap→Q D σ'→RR (.ref D) C (.ok f) s'):
    closureFor scope Γ.env=pure (cH Γ.env scope.names [])∧
    wpAny B.M A (eval iter Γ.env) (fun x' s₁=>wpAny B.M A (pyIter x') (fun it s₂=>wpAny B.M A (newList []) (fun acc s₃=>
      wpAny B.M A (newFunctionEnv scope Γ.env.globals (cH Γ.env scope.names []) [] Γ.env.qual none .none (some Γ.env)) (fun cenv s₄=>
        codeAny B.M A (.compStart (.ListComp elt [⟨target,iter,ifs,0⟩] scope pos) 0 it acc {cenv with scope:=relabel scope Γ.env}) (RR acc cenv.locals) s₄) (PE B Γ T E) s₃) (PE B Γ T E) s₂) (PE B Γ T E) s₁) (PE B Γ T E) s:=by
  have okm:=fK hok;have hfree:∀y,(y,NameKind.free)∈scope.names→∃c,Γ.env.cells.lookup y=some c:=fun y hm=>by
    refine uE ?_ ((okm y _ hm).2.2.2 rfl);intro v hv;refine dF ?_ (HL y _ hv);intro _ _;refine aY ?_;intro c hc _ _;exact⟨c,hc⟩
  refine⟨fS hfree,wpAny_mono (h Γ A T mc kc s G₀ HA HS HL) (fun x' s₁ h₁=>wpAny_mono h₁ ?_ fun _ _ e=>e) fun _ _ e=>e⟩;rintro it s₂ ⟨I,T',σ',src,own,dof,e0,hT,X,hm,H,hi,hq⟩;refine ah e0 ?_;refine dc ?_ (X.freshA G₀ (em [] 0) rfl (by intro v z;cases z) (S.size G₀ X));intro X1 hσ1 hT1;refine uE ?_ hi.pin;intro LP p;have hiA:∀b∈I::src.aux,∃o,s₂.heap.get? b=some o∧Qt o:=fun b hb=>(p.cov b hb).elim fun q hq=>hq.2▸⟨_,(p.at_ q hq.1).1,(p.at_ q hq.1).2.2⟩;have hD1:(s₂.heap.push (em [] 0)).get? s₂.heap.objs.size=some (em [] 0):=Heap.get?_push_size _ rfl;have X2:=X1.track (o:= .list []) ⟨.head _,[],⟨0,hD1⟩,rfl,by simp⟩ rfl (fun _ _ _ _ h=>by exact ft h)
  have X3:SI B Γ T' mc kc (σ'.set s₂.heap.objs.size (.list [])) ((I::src.aux)++s₂.heap.objs.size::own) dof (s₂.heap.push (em [] 0)):=
    X2.hide G₀ fun b hb=>(hiA b hb).elim fun o ho=>⟨⟨fun q=>(List.mem_cons.mp q).elim (fun q=>absurd q (Nat.ne_of_lt (xf ho.1))) (H b hb).1.o,(H b hb).1.z,(H b hb).1.p⟩,o,Heap.get?_push_of_some _ ho.1,ho.2⟩
  refine wpAny_newObj_type (wpAny_newFunctionEnv (fun y hy=>(okm y.1 y.2 hy).2.2.1) (by intro y hy;simp at hy) (fun h₁ hns₁ hsb₁=> ?_) hkind);dsimp only at hns₁ hsb₁⊢
  obtain ⟨sb,hbase⟩:∃sb:Shared,({s₂ with heap:=s₂.heap.push (em [] 0)}:Shared)=sb:=⟨_,rfl⟩;have hbh:s₂.heap.push (em [] 0)=sb.heap:=ch hbase rfl;have hsz:sb.heap.objs.size=s₂.heap.objs.size+1:=by refine ch hbh ?_;rewrite [Heap.size_push];rfl
  have hsm:Sm s₂ sb:=by refine ch hbase ?_;exact⟨rfl,rfl,rfl⟩
  have hns₁:h₁.Ns sb.heap.objs.size (fun y=>([]:List (Str×Value)).reverse.lookup y):=by refine ch hbase ?_;exact hns₁
  have hsb₁:Heap.SameBut sb.heap.objs.size (sb.heap.push {cls:= .type "dict",data:= .dict #[]}) h₁:=by refine ch hbase ?_;exact hsb₁
  have goal:codeAny B.M A (.compStart (.ListComp elt [⟨target,iter,ifs,0⟩] scope pos) 0 (.ref I) (.ref s₂.heap.objs.size) (compEnvC scope (cH Γ.env scope.names []) sb.heap.objs.size Γ.env)) (RR (.ref s₂.heap.objs.size) sb.heap.objs.size) {sb with heap:=h₁,toks:=sb.toks+([]:List (Str×Value)).length}:=by
    rw [hbh] at X3;refine bz ?_ (id X3.ns);intro oL esL epL hoL hdL hrL;have old:∀b o,sb.heap.get? b=some o→h₁.get? b=some o:=fun b o e=>(hsb₁.2 b (Nat.ne_of_lt (xf e))).trans (Heap.get?_push_of_some _ e);have hlt:∀b o,sb.heap.get? b=some o→b≠sb.heap.objs.size:=fun b o e=>Nat.ne_of_lt (xf e);generalize hcenv:compEnvC scope (cH Γ.env scope.names []) sb.heap.objs.size Γ.env=cenv;have eL:cenv.locals=sb.heap.objs.size:=by refine ch hcenv ?_;rfl
    have G':FcOk B (je Γ cenv ((I::src.aux)++s₂.heap.objs.size::own) oL sb):=
    { stat:=G₀.stat.keeps (eG (env:=cenv) (oL:=oL) G₀ X3)
      kind:=by refine(?_:cenv.scope.kind=_);refine ch hcenv ?_;exact hkind
      glb:=by refine(?_:cenv.globals=_);refine ch hcenv ?_;exact G₀.glb
      blt:=by refine(?_:cenv.builtins=_);refine ch hcenv ?_;exact G₀.blt
      frs:=fun e he=>by
        refine dR ?_ (G₀.frs e he);intro h1 L h2 h3;refine⟨h1,L,h2, .inr ?_⟩
        rcases h3 with rfl | ⟨o,h3⟩
        · exact⟨_, .head _⟩
        · exact⟨o, .tail _ h3⟩
      snf:=fun p hp=>by
        rcases List.mem_cons.mp hp with rfl | hp
        · exact⟨_,_,hdL⟩
        · exact G₀.snf p hp
      pnf:=G₀.pnf
      sn0:=fun p hp=>hideAll_none _ (by
        rcases List.mem_cons.mp hp with rfl | hp
        · exact List.mem_append_right _ (.head _)
        · exact List.mem_append_right _ (.tail _ (List.mem_map_of_mem hp)))
      snL:=fun p hp=>by
        refine(?_:p.1≠cenv.locals)
        refine ah eL ?_
        rcases List.mem_cons.mp hp with rfl | hp
        · exact hlt _ _ hoL
        · refine uA ?_ (X3.sn p hp);refine uE ?_;intro sl h1 _;exact hlt _ _ h1}
    have HA':ea n (je Γ cenv ((I::src.aux)++s₂.heap.objs.size::own) oL sb) A:=⟨HA.frames,HA.handled,HA.depth,HA.units⟩;have HI:SI B (je Γ cenv ((I::src.aux)++s₂.heap.objs.size::own) oL sb) T' (fun y=>([]:List (Str×Value)).reverse.lookup y) kc (σ'.set s₂.heap.objs.size (.list [])) (s₂.heap.objs.size::own) dof h₁:=
    { ns:=by refine(?_:h₁.Ns cenv.locals _);refine ah eL ?_;exact hns₁
      keep:=fun b o e=>old b o (of_hideAll _ e)
      above:=by refine(?_:(hideAll sb.heap _).objs.size≤cenv.locals);rewrite [hideAll_size];refine ah eL ?_;exact w6 _
      ow:=fun a ha=>by
        refine gV ?_ (X3.ow a (List.mem_append_right _ ha));intro x1 x2 x3 o x4 x5;exact⟨by refine(?_:a≠cenv.locals);refine ah eL ?_;exact hlt _ _ x4,hideAll_none _ (List.mem_append_left _ (List.mem_append_right _ ha)),x3,o,old _ _ x4,x5⟩
      sn:=fun p hp=>by
        rcases List.mem_cons.mp hp with rfl | hp
        · exact⟨⟨oL.slots,old _ _ hoL⟩,fun q=>(X3.ow _ (List.mem_append_right _ q)).1 rfl⟩
        · refine uA ?_ (X3.sn p hp);refine uE ?_;intro sl x1 x2;exact⟨⟨sl,old _ _ x1⟩,fun q=>x2 (List.mem_append_right _ q)⟩
      pn:=fun p hp=>⟨old _ _ (X3.pn p hp).1,fun q=>(X3.pn p hp).2 (List.mem_append_right _ q)⟩
      pt:=X3.pt
      cl:=fun y c e=>by
        have e':(cH Γ.env scope.names []).lookup y=some c:=by rw [←hcenv] at e;exact e
        rcases gm scope.names [] hfree e' with h1 | h1
        · simp at h1
        · refine aY ?_ (X3.cl y c h1);intro oc x1 x2;exact⟨oc,old _ _ x1,x2⟩
      tp:=fun a vs e=>(X3.tp a vs e).keeps old
      ob:=fun a o e=>by
        have y:=X2.ob a o e;have z:=(X3.ob a o e).keeps old
        exact(z.swap y).base
      inj:=X3.inj
      dsj:=X3.dsj}
    have HH:∀b∈I::src.aux,iY (je Γ cenv ((I::src.aux)++s₂.heap.objs.size::own) oL sb) (s₂.heap.objs.size::own) b∧T' b=none:=fun b hb=>
      ⟨⟨fun q=>(List.mem_cons.mp q).elim (fun q=>(hiA b hb).elim fun o ho=>absurd q (Nat.ne_of_lt (xf ho.1))) (H b hb).1.o,hideAll_none _ (List.mem_append_left _ (List.mem_append_left _ hb)),(H b hb).1.p⟩,(H b hb).2⟩
    have HR:bT B (je Γ cenv ((I::src.aux)++s₂.heap.objs.size::own) oL sb) T' (fun y=>([]:List (Str×Value)).reverse.lookup y) kc (qJ G m scope.names):=by
      intro y sl e;refine aY ?_ (kS e);intro k' h1 h2;refine dF ?_ (okm y k' h1);intro h3 h4 h5 h6;have hkd:cenv.kindOf y=some (if (k'==NameKind.free&&Γ.env.scope.kind== .function&&Γ.env.kindOf y==some .cell) then .cell else k'):=by
        refine ch hcenv ?_;exact fy h3
      refine⟨h4, ?_⟩
      cases k' with
      | «local»=>
        (refine sj ?_ h2;clear h2;intro e1;subst e1)
        exact⟨by refine(?_:cenv.kindOf y=_);refine ah hkd ?_;rfl,fun v hv=>nn hv⟩
      | free=>
        refine uE ?_ (h6 rfl);intro v hv
        have h2:(match lk m y with | some (.cel (some v))=>some (.fre v) | _=>none)=some sl:=h2
        rw [hv] at h2
        (refine sj ?_ h2;clear h2;intro e1;subst e1)
        refine dF ?_ (HL y _ hv);intro hd hk0;refine aY ?_;intro c hc _ ho;refine⟨.inl ?_, ?_,ho.mono hT⟩
        · refine(?_:cenv.kindOf y=_)
          refine ah hkd ?_;rewrite [if_pos];rfl;refine ah G₀.kind (ah hk0 ?_);rfl
        · refine(?_:∃c,cenv.cells.lookup y=some c)
          refine ch hcenv ?_;exact jd scope.names [] (.inr h1)
      | globalImplicit=>
        refine aY ?_ (Option.map_eq_some_iff.mp h2);intro v hv e;exact e▸⟨by refine(?_:cenv.kindOf y=_);refine ah hkd ?_;rfl,hG y v hv⟩
      | _=>exact nn h2
    have hiC:fj T' h₁ I src:=p.keep _ _ (cC.refl T') fun q hq=>old _ _ (by refine ch hbh ?_;exact Heap.get?_push_of_some _ (p.at_ q hq).1)
    have loop:=hq s₂.heap.objs.size hσ1 (je Γ cenv ((I::src.aux)++s₂.heap.objs.size::own) oL sb) A T' _ kc {sb with heap:=h₁,toks:=sb.toks+([]:List (Str×Value)).length} I (s₂.heap.objs.size::own) dof G' HA' HI ⟨rfl,rfl,rfl⟩ HR HH hiC
    have fin:codeAny B.M A (.compLoop (.ListComp elt [⟨target,iter,ifs,0⟩] scope pos) 0 (.ref I) (.ref s₂.heap.objs.size) cenv) (RR (.ref s₂.heap.objs.size) sb.heap.objs.size) {sb with heap:=h₁,toks:=sb.toks+([]:List (Str×Value)).length}:=by
      refine codeAny_mono loop fun r s' hr=> ?_
      cases r with
      | error e=>exact hr.elim
      | ok f=>
        obtain ⟨T₂,mc₂,σ₂,own₂,dof₂,hT₂,X₂,hm₂,hQ⟩:=hr;have Xb:=X3.back (env:=cenv) G₀ hoL X₂.refr';refine k T₂ σ₂ _ _ own₂ dof₂ s' f (hT.trans hT₂) Xb ⟨hm₂.1.trans (hsm.1.trans hm.1),hm₂.2.1.trans (hsm.2.1.trans hm.2.1),hm₂.2.2.trans (hsm.2.2.trans hm.2.2)⟩ ?_ hQ;refine⟨⟨mc₂,by have:=X₂.ns;rwa [show (je Γ cenv ((I::src.aux)++s₂.heap.objs.size::own) oL sb).env.locals=cenv.locals from rfl,eL] at this⟩,fun q=> ?_, ?_, ?_, ?_⟩
        · have:=(X₂.ow _ q).1;exact this eL.symm
        · cases q:Γ.h₀.get? sb.heap.objs.size with
          | none=>rfl
          | some o=>exact absurd rfl (hlt _ _ (X3.keep _ _ q))
        · intro q;exact hlt _ _ hoL q.symm
        · intro p hp q;refine uA ?_ (X3.sn p hp);refine uE ?_;intro sl x1 _;exact hlt _ _ x1 q
    exact codeAny_compStart_list fin (oN hiC fin)
  rw [←hbase] at goal;exact goal
theorem cS {G:Str→Option V}{elt target iter:Expr}{ifs:List Expr}{scope:Scope}{pos:Pos}{Q:V→AH→Prop}(hG:∀x v,G x=some v→dy B x v)(hok:jv m scope=true)(hkind:scope.kind= .function)
    (h:IV B n m iter (fun src σ₁=>∀D,σ₁ D=none→MV B n (qJ G m scope.names) src (.ListComp elt [⟨target,iter,ifs,0⟩] scope pos) D (Q (.ref D)) (σ₁.set D (.list []))) E σ)
    (hs:∀env x,foldedSetIterable iter env x=pure x:=by intro _ _;rfl):EV B n m (.ListComp elt [⟨target,iter,ifs,0⟩] scope pos) Q E σ:=by
  intro Γ A T mc kc s G₀ HA HS HL;obtain ⟨h1,h2⟩:=jR (Q:=fun D=>Q (.ref D)) hG hok hkind h G₀ HA HS HL (RR:=fun acc C=>compPost B.M A (PE B Γ T E) none (PQ B Γ T mc kc Q) acc C)
    fun T' σ' D C own' dof' s' f hT X hm hC hq=>⟨_,hC.ns.choose_spec,fun h' hs'=>⟨T',σ', .ref D,hT,⟨own',dof',X.cmpEnd G₀ hC hs',hm⟩,rfl,hq⟩⟩
  rw [eval_ListComp];refine wpAny_comprehension_free (use:=none) rfl (hs _) h1 hkind (fun y hy hl=> ?_) h2
  exact((fK hok y.1 y.2 hy).1).trans (congrArg _ hl)
theorem bj {G:Str→Option V}{elt target iter:Expr}{y:Str}{py pos spos:Pos}{ifs:List Expr}{scope:Scope}{Q:cM→ax→AH→Prop}(hG:∀x v,G x=some v→dy B x v)(hok:jv m scope=true)(hkind:scope.kind= .function){o:Option V}(hy:lk m y=some (.loc o))
    (hsw:∀env:Env,env.scope.kind= .function→env.kindOf y=some .local→swapsWith (.ListComp elt [⟨target,iter,ifs,0⟩] scope pos) (some (.Name y py)) spos.line env=pure true)
    (h:IV B n m iter (fun src σ₁=>∀D,σ₁ D=none→MV B n (qJ G m scope.names) src (.ListComp elt [⟨target,iter,ifs,0⟩] scope pos) D (fun σ'=>Q .next (setL m y (.ref D)) σ') (σ₁.set D (.list []))) E σ)
    (hs:∀env x,foldedSetIterable iter env x=pure x:=by intro _ _;rfl):SV B n m (.Assign [.Name y py] (.ListComp elt [⟨target,iter,ifs,0⟩] scope pos) spos) Q E σ:=by
  intro Γ A T mc kc s G₀ HA HS HL;have hmine:da m y=true:=by unfold da;refine ah hy ?_;rfl
  obtain ⟨h1,h2⟩:=jR (Q:=fun D σ'=>Q .next (setL m y (.ref D)) σ') hG hok hkind h G₀.toFcOk HA HS HL (RR:=fun acc C=>compPost B.M A (PE B Γ T E) (some (assign (.Name y py) Γ.env)) (fun _ s'=>PF B Γ T Q .next s') acc C)
    fun T' σ' D C own' dof' s' f hT X hm hC hq=>by
      obtain ⟨⟨mC,oC,esC,epC,hoC,hdC,hrC⟩,c1,c2,c3,c4⟩:=id hC;refine wpAny_assign_Name (wpAny_storeName_local (HL y _ hy).2.1 X.ns (fun h' hn' hs'=> ?_) (by refine ah G₀.kind ?_;rfl));have X':=X.local G₀.toFcOk hn' hs';have hC':mu Γ own' C h':=⟨⟨mC,oC,esC,epC,(hs'.2 C c3).trans hoC,hdC,hrC⟩,c1,c2,c3,c4⟩;refine⟨mC,hC'.ns.choose_spec |>fun _=>⟨oC,esC,epC,(hs'.2 C c3).trans hoC,hdC,hrC⟩,fun h'' hs''=> ?_⟩;refine⟨T',_,kc,setL m y (.ref D),σ', .next,hT,⟨own',dof',X'.cmpEnd G₀.toFcOk hC' hs'',hm⟩, ?_,rfl,hq⟩
      exact(HL.mono hT).stored hy rfl
  refine ah (exec_Assign_Name_used _ _ _ _ (hsw _ G₀.kind (HL y _ hy).2.1)) ?_;refine wpAny_bind (wpAny_standAt (wpAny_bind ?_));refine wpAny_bind (wpAny_mono (wpAny_comprehension_free (use:=some (assign (.Name y py) Γ.env)) (Q:=fun _ s'=>PF B Γ T Q .next s') rfl (hs _) h1 hkind (fun z hz hl=> ?_) h2) (fun _ s' hq=>wpAny_pure (wpAny_pure hq)) fun _ _ e=>e)
  exact((fK hok z.1 z.2 hz).1).trans (congrArg _ hl)
end
end
section
inductive sI:Option Int→Option Int→Option Int→List V→List V→Prop
  | rev {xs:List V}:sI none none (some (-1)) xs xs.reverse
  | take {xs:List V} {i:Int} (k:Nat) (e:i=k):sI none (some i) none xs (xs.take k)
  | init {xs:List V} {j:Nat} (e:j=xs.length-1):sI none (some (-1)) none xs (xs.take j)
  | drop {xs:List V} {i:Int} (k:Nat) (e:i=k):sI (some i) none none xs (xs.drop k)
theorem sD {T:TM}{lo hi st:Option Int}{xs ys:List V}{vs:List Value}(h:sI lo hi st xs ys)(hv:bS T xs vs):bS T ys (slicePick vs.toArray lo hi st).toList∧st≠some 0∧ys.length≤xs.length:=by
  induction h with
  | rev=>exact⟨by rw [krv_pick];exact hv.reverse,nofun,wX List.length_reverse⟩
  | take k e=>exact⟨by refine ah e ?_;rewrite [slicePick_upto'];exact hv.take k,nofun,List.length_take_le' _ _⟩
  | init e=>
    refine⟨?_,nofun,List.length_take_le' _ _⟩;refine ah (show (-(1:Int))= -((1:Nat):Int) from rfl) (ah (slicePick_butLast vs.toArray 1 (w6 1)) (ah e (ch hv.length ?_)));exact hv.take _
  | drop k e=>exact⟨by refine ah e ?_;rewrite [slicePick_from'];exact hv.drop k,nofun,by refine ah List.length_drop ?_;exact Nat.sub_le _ _⟩
section
variable {B:Bs}{n:Nat}{m:ax}{Q:V→AH→Prop}{E:Str→AH→Prop}{σ:AH}
theorem wu {f:V}{xs:List V}{σ₀:AH}(h:CV B n f xs (fun v σ'=>aH σ₀ σ'∧Q v σ₀) E σ):CV B n f xs Q E σ:=
  fun Γ A T mc kc s vf vs G HA HS hf hv=>wpAny_mono (h Γ A T mc kc s vf vs G HA HS hf hv) (fun _ _ ⟨T',σ',x,h1,⟨own,dof,I,hm⟩,h3,hle,hq⟩=>⟨T',σ₀,x,h1,⟨own,dof,I.weak hle,hm⟩,h3,hq⟩) fun _ _ x=>x
theorem TV.mono {e:Expr}{Q Q':Bool→AH→Prop}(h:TV B n m e Q E σ)(k:∀v σ,Q v σ→Q' v σ):TV B n m e Q' E σ:=
  fun Γ A T mc kc s G HA HS HL=>wpAny_mono (h Γ A T mc kc s G HA HS HL) (fun _ _ ⟨T',σ',h1,h2,h4⟩=>⟨T',σ',h1,h2,k _ _ h4⟩) fun _ _ x=>x
noncomputable def PV (B:Bs)(n:Nat)(m:ax)(E:Str→AH→Prop):Option Expr→(Option Int→AH→Prop)→AH→Prop
  | none,R,σ=>R none σ
  | some e,R,σ=>EV B n m e (fun v σ₁=>∃i,v= .int i∧R (some i) σ₁) E σ
theorem PV.run {o:Option Expr}{R:Option Int→AH→Prop}{Γ:Fc}{A:Around}{T:TM}{mc kc:Str→Option Value}{s:Shared}{P:Value→Shared→Prop}(h:PV B n m E o R σ)(G:FcOk B Γ)(HA:ea n Γ A)(HS:S B Γ T mc kc σ s)(HL:bT B Γ T mc kc m)
    (k:∀T' σ' s' i v,cC T T'→S B Γ T' mc kc σ' s'→IsPart v i→R i σ'→P v s'):wpAny B.M A (evalPart o Γ.env) P (PE B Γ T E) s:=by
  cases o with
  | none=>rw [evalPart_none];exact wpAny_pure (k T σ s none .none (cC.refl T) HS .none h)
  | some e=>
    rw [evalPart_some];refine wpAny_mono (h Γ A T mc kc s G HA HS HL) ?_ fun _ _ x=>x;rintro v s' ⟨T',σ',x,hT,HS',hv,i,rfl,hq⟩;refine uE ?_ (show∃t,v= .int i t from hv);rintro t rfl;exact k T' σ' s' (some i) _ hT HS' (.int i t) hq
theorem cJ {value:Expr}{lower upper step:Option Expr}{p pos:Pos}
    (h:EV B n m value (fun ov σ₁=>PV B n m E lower (fun lo σ₂=>PV B n m E upper (fun hi σ₃=>PV B n m E step (fun st σ₄=>∃a xs ys,ov= .ref a∧(σ₄ a=some (.list xs)∨σ₄ a=some (.clist xs))∧sI lo hi st xs ys∧
      ∀b,σ₄ b=none→Q (.ref b) (σ₄.set b (.list ys))) σ₃) σ₂) σ₁) E σ):EV B n m (.Subscript value (.Slice lower upper step p) pos) Q E σ:=by
  intro Γ A T mc kc s G HA HS HL;refine Subscript_ (wpAny_mono (h Γ A T mc kc s G HA HS HL) ?_ fun _ _ x=>x);rintro o s₁ ⟨T₁,σ₁,ov,hT₁,HS₁,hov,h₁⟩;refine wpAny_mono (wpAny_Slice (PV.run h₁ G HA HS₁ (HL.mono hT₁) fun T₂ σ₂ s₂ lo vl hT₂ HS₂ pl h₂=> ?_)) (fun _ _ x=>x) fun _ _=>PE.mono hT₁;refine wpAny_mono (PV.run h₂ G HA HS₂ ((HL.mono hT₁).mono hT₂) fun T₃ σ₃ s₃ hi vu hT₃ HS₃ pu h₃=> ?_) (fun _ _ x=>x) fun _ _=>PE.mono hT₂
  refine wpAny_mono (PV.run h₃ G HA HS₃ (((HL.mono hT₁).mono hT₂).mono hT₃) (P:=fun st s₄=>wpAny B.M A (subscriptTail value (.Slice lower upper step p) o (.ref s₄.heap.objs.size)) (PQ B Γ T mc kc Q) (PE B Γ T E) {s₄ with heap:=s₄.heap.push {cls:= .type "slice",data:= .fields #[vl,vu,st]}}) fun T₄ σ₄ s₄ st vs hT₄ HS₄ ps h₄=> ?_) (fun _ _ x=>x) fun _ _=>PE.mono (hT₂.trans hT₃);refine bJ ?_ h₄;clear h₄;rintro a xs ys rfl hl hsl hq
  cases (show o= .ref a from hov)
  obtain ⟨own,dof,I,hm⟩:=HS₄;refine uA ?_ (I.hidNew G {cls:= .type "slice",data:= .fields #[vl,vu,vs]});intro I' H;refine bI ?_ (I'.list hl);intro us l1 r1 hz;refine dc ?_ (sD hsl r1);intro s1 s2 s3;have hsb:∃ops,subscripted (.Slice lower upper step p) false (.ref a) (.ref s₄.heap.objs.size)=operate ops (getItem (.ref a) (.ref s₄.heap.objs.size)):=by
    cases step with
    | none=>exact⟨_,rfl⟩
    | some e=>exact⟨_,rfl⟩
  refine uE ?_ hsb;clear hsb;intro ops hsb
  refine dc ?_ (I'.freshA G (em (slicePick us.toArray lo hi st).toList 0) rfl (by intro v z;cases z) (S.size (s:={s₄ with heap:=s₄.heap.push {cls:= .type "slice",data:= .fields #[vl,vu,vs]}}) G I'));intro I2 hσ2 _
  refine tail_any (s:={s₄ with heap:=s₄.heap.push {cls:= .type "slice",data:= .fields #[vl,vu,vs]}}) l1.typeIs slot_list_getitem.lookup (wpAny_getItem_list_slice (lo:=lo) (hi:=hi) (st:=st) l1 (Heap.IsSliceOf.new ..) pl pu ps s2 ?_ (by simpa [r1.length] using hz)) hsb;refine⟨T₄,σ₄.set _ (.list ys), .ref _,((hT₁.trans hT₂).trans hT₃).trans hT₄,⟨_,dof,I2.track (o:= .list ys) ⟨.head _,(slicePick us.toArray lo hi st).toList,⟨0, ?_⟩,s1,wV s3 hz⟩ rfl (fun _ _ _ _ h=>by exact ft h),hm⟩,rfl,hq _ hσ2⟩;have:=Heap.get?_push_size (s₄.heap.push {cls:= .type "slice",data:= .fields #[vl,vu,vs]}) (o:=em (slicePick us.toArray lo hi st).toList 0) rfl
  simpa using this
theorem kB {a b:Addr}{xs ys:List V}(e1:σ a=some (.list xs))(e2:σ b=some (.list ys))(hz:xs.length+ys.length≤sizeLine)(q:∀c,σ c=none→Q (.ref c) (σ.set c (.list (xs++ys)))):P2 B n (binaryOp .Add) (.ref a) (.ref b) Q E σ:=by
  intro Γ A T mc kc s v w G HA HS hv hw
  cases (show v= .ref a from hv)
  cases (show w= .ref b from hw)
  obtain ⟨own,dof,I,hm⟩:=HS;refine cq ?_ (I.ob a _ e1);intro _ us;refine uE ?_;intro k h1 r1 _;refine cq ?_ (I.ob b _ e2);intro _ ws;refine uE ?_;intro k2 h2 r2 _;refine dc ?_ (I.freshA G (em (us++ws) 0) rfl (by intro v z;cases z) (S.size G I));intro I2 hσ2 _;refine concat_meets ⟨_,h1,rfl⟩ ⟨_,h2,rfl⟩ noFill_list_add seq_list_add PySem.F.slot_list_add PySem.F.entry_list_add (PySem.F.args_list_add_2 _ _) (list_addW a b us.toArray ws.toArray k k2 none none #[] #[] (by simp [r1.length,r2.length];exact hz)) ⟨h1,h2, ?_⟩;refine ah (show us.toArray++ws.toArray=(us++ws).toArray by simp) ?_;refine⟨T,σ.set _ (.list (xs++ys)), .ref _,cC.refl T,⟨_,dof,I2.track (o:= .list (xs++ys)) ⟨.head _,us++ws,⟨0,Heap.get?_push_size _ rfl⟩,bS.append r1 r2,by simp;exact hz⟩ rfl (fun _ _ _ _ h=>by exact ft h),hm⟩,rfl,q _ hσ2⟩
theorem lq {a:Addr}{bs:List Bool}{j:Nat}(e:σ a=some (.list (bs.map V.bool)))(hj:bs[j]?=some true)(hno:∀i,i<j→bs[i]?=some false)(q:Q (.int j) σ):CV B n (.bi "list.index") [.ref a, .bool true] Q E σ:=by
  intro Γ A T mc kc s vf vs G HA HS hf hv
  cases (show vf= .builtin "list.index" from hf)
  refine gW ?_ hv;clear hv;rintro v1 _ rfl hv1 v2 _ rfl hv2 hv3
  cases hv3
  cases (show v1= .ref a from hv1)
  cases (show v2= .bool true from hv2)
  obtain ⟨own,dof,I,hm⟩:=id HS;refine cq ?_ (I.ob a _ e);intro _ us;refine uE ?_;intro k h1 r1 hz;have hus:=wE r1;have hlen:us.length=bs.length:=by refine ah hus ?_;simp
  have hj':j<bs.length:=(List.getElem?_eq_some_iff.mp hj).1;rw [sizeLine_eq] at hz;have hjs:j<us.toArray.size:=by simpa [hlen] using hj'
  have hat:∀i (hi:i<us.toArray.size),us.toArray[i]= .bool (bs[i]'(by simpa [hlen] using hi)):=fun i hi=>by
    subst hus;simp
  refine call_meets PySem.F.slot_list_index ⟨_,h1,rfl⟩ PySem.F.entry_list_index (PySem.F.args_list_index_2 _ _) (SeqAt.list_indexAt a us.toArray k none #[] (.bool true) (fun y=>y== .bool true) j hjs (by simp at hz;lia) ?_ fun i hi hij=> ?_) ⟨h1,fun y hy=> ?_, ?_⟩
  · refine ah (hat j hjs) ?_;have:bs[j]=true:=by rw [w7 hj'] at hj;simpa using hj
    refine ah this ?_;rfl
  · refine ah (hat i hi) ?_;have hi':i<bs.length:=by simpa [hlen] using hi
    have:bs[i]=false:=by have:=hno i hij;rw [w7 hi'] at this;simpa using this
    refine ah this ?_;decide
  · rw [hus] at hy;simp at hy
    rcases hy with⟨_,rfl⟩ | ⟨_,rfl⟩
    · have:=EqAt.bool_bool (A:=A.in1) (s:=s) false true;refine ah (show (Value.bool false==Value.bool true)=(false==true) by decide) ?_;exact this
    · have:=EqAt.bool_bool (A:=A.in1) (s:=s) true true;refine ah (show (Value.bool true==Value.bool true)=(true==true) by decide) ?_;exact this
  · exact PQ.here (x:= .int j) (HS.toks _) ⟨_,rfl⟩ q
end
end
section
section
variable {B:Bs}{n:Nat}{m:ax}{E:Str→AH→Prop}{σ:AH}
noncomputable def ln (B:Bs)(n:Nat)(rest:List Stmt)(Q:cM→ax→AH→Prop)(E:Str→AH→Prop)(f:cM)(m:ax)(σ:AH):Prop:=match f with
  | .next=>bu B n m rest Q E σ
  | f=>Q f m σ
theorem ay {rest:List Stmt}{Q:cM→ax→AH→Prop}(h:bu B n m rest Q E σ):ln B n rest Q E .next m σ:=h
theorem fe {rest:List Stmt}{Q:cM→ax→AH→Prop}{v:V}(h:Q (.ret v) m σ):ln B n rest Q E (.ret v) m σ:=h
theorem rr {rest:List Stmt}{Q:cM→ax→AH→Prop}(h:Q .cont m σ):ln B n rest Q E .cont m σ:=h
theorem ao {st:Stmt}{rest:List Stmt}{Q:cM→ax→AH→Prop}(h:SV B n m st (ln B n rest Q E) E σ):bu B n m (st::rest) Q E σ:=
  iZ (h.mono fun f m σ h=>by cases f<;>exact h)
theorem bv {I:ax→AH→Prop}{Q:cM→ax→AH→Prop}(h:I m σ):trn I Q .next m σ:=h
theorem tm {I:ax→AH→Prop}{Q:cM→ax→AH→Prop}(h:I m σ):trn I Q .cont m σ:=h
theorem qn {I:ax→AH→Prop}{Q:cM→ax→AH→Prop}{v:V}(h:Q (.ret v) m σ):trn I Q (.ret v) m σ:=h
theorem dz {ι:Type}{test:Expr}{body:List Stmt}{Q:cM→ax→AH→Prop}(I:ι→ax→AH→Prop)(μ:ι→Nat)
    (step:∀i m σ,I i m σ→TV B n m test (fun b σ₁=>if b then bu B n m body (trn (fun m' σ₂=>∃i',μ i'<μ i∧I i' m' σ₂) Q) E σ₁ else Q .next m σ₁) E σ):
    ∀i m σ,I i m σ→LV B n m test body Q E σ:=by
  have key:∀k i m σ,μ i<k→I i m σ→LV B n m test body Q E σ:=by
    intro k
    induction k with
    | zero=>exact fun i m σ h=>absurd h (xh _)
    | succ k ih=>
      refine fun i m σ hk hI=>ky ((step i m σ hI).mono fun b σ₁ h=> ?_)
      cases b with
      | false=>exact h
      | true=>exact wI h fun m' σ₂ h=>h.elim fun i' h=>ih i' m' σ₂ (w0 h.1 (Nat.le_of_lt_succ hk)) h.2
  exact fun i m σ h=>key (μ i+1) i m σ (xk _) h
theorem gc {N:Nat}{I R:Nat→ax→AH→Prop}(fin:∀m σ,I N m σ→R N m σ)(step:∀i m σ,i<N→I i m σ→(∀m' σ',I (i+1) m' σ'→R (i+1) m' σ')→R i m σ)(i:Nat)(m:ax)(σ:AH)(hi:i≤N)(h:I i m σ):R i m σ:=by
  have key:∀k i m σ,i+k=N→I i m σ→R i m σ:=by
    intro k
    induction k with
    | zero=>exact fun i m σ e h=>(show i=N from e)▸fin m σ ((show i=N from e)▸h)
    | succ k ih=>exact fun i m σ e h=>step i m σ (e▸Nat.lt_add_of_pos_right (Nat.succ_pos k)) h fun m' σ' h'=>ih (i+1) m' σ' ((Nat.add_right_comm i 1 k).trans e) h'
  exact key (N-i) i m σ (Nat.add_sub_cancel' hi) h
theorem cT {l:Addr}{xs:List V}{x:Str}{px:Pos}{body:List Stmt}{Q:cM→ax→AH→Prop}(I:Nat→ax→AH→Prop)(hl:∀i m σ,I i m σ→i≤xs.length→σ l=some (.list xs)∨σ l=some (.clist xs))
    (step:∀i v m σ,I i m σ→xs[i]?=some v→eE m x=true∧bu B n (setL m x v) body (trn (I (i+1)) Q) E σ) (fin:∀m σ,I xs.length m σ→Q .next m σ):
    ∀i m σ,i≤xs.length→I i m σ→FV B n m (.lst l i) (.Name x px) body Q E σ:=by
  exact gc (fun m σ h=>mx (hl _ _ _ h (w6 _)) (w6 _) (fin _ _ h)) fun i m σ hi h ih=>
    uA (fun h1 h2=>rF (hl _ _ _ h (wY hi)) (w7 hi) h1 (wI h2 ih)) (step i _ m σ h (w7 hi))
theorem mA {xs:List V}{x:Str}{px:Pos}{body:List Stmt}{Q:cM→ax→AH→Prop}(I:Nat→ax→AH→Prop)
    (step:∀i v m σ,I i m σ→xs[i]?=some v→eE m x=true∧bu B n (setL m x v) body (trn (I (i+1)) Q) E σ) (fin:∀m σ,I xs.length m σ→Q .next m σ):
    ∀i m σ,i≤xs.length→I i m σ→FV B n m (.tup xs i) (.Name x px) body Q E σ:=by
  exact gc (fun m σ h=>mz (w6 _) (fin _ _ h)) fun i m σ hi h ih=>
    uA (fun h1 h2=>o9 (w7 hi) h1 (wI h2 ih)) (step i _ m σ h (w7 hi))
theorem jM {N:Nat}{x:Str}{px:Pos}{body:List Stmt}{Q:cM→ax→AH→Prop}(I:Nat→ax→AH→Prop)
    (step:∀i m σ,I i m σ→i<N→eE m x=true∧bu B n (setL m x (.int i)) body (trn (I (i+1)) Q) E σ) (fin:∀m σ,I N m σ→Q .next m σ):
    ∀i m σ,i≤N→I i m σ→FV B n m (.rng i (N-i) 1) (.Name x px) body Q E σ:=by
  refine gc (R:=fun(i:Nat) m σ=>FV B n m (.rng i (N-i) 1) (.Name x px) body Q E σ) (fun m σ h=>eM (Int.le_of_eq (Int.sub_self _)) (fin _ _ h)) fun i m σ hi h ih=>
    uA (fun h1 h2=>my (Int.sub_pos_of_lt (Int.ofNat_lt.mpr hi)) h1 (wI h2 ?_)) (step i m σ h hi)
  refine ah (show ((N:Int)-i-1)=(N:Int)-((i+1:Nat):Int) from Int.sub_sub _ _ _) ?_;exact ih
theorem lz {x:Str}{px:Pos}{body:List Stmt}{Q:cM→ax→AH→Prop}(I:Nat→ax→AH→Prop)
    (step:∀i m σ,I (i+1) m σ→eE m x=true∧bu B n (setL m x (.int i)) body (trn (I i) Q) E σ) (fin:∀m σ,I 0 m σ→Q .next m σ):
    ∀i m σ,I i m σ→FV B n m (.rng ((i:Int)-1) ((i:Int)-1+1) (-1)) (.Name x px) body Q E σ:=by
  intro i
  induction i with
  | zero=>exact fun m σ h=>eM (by decide) (fin _ _ h)
  | succ k ih=>
    refine fun m σ h=>uA ?_ (step k m σ h);intro h1 h2;refine ah (show (((k+1:Nat):Int)-1)=(k:Int) from Int.add_sub_cancel (k:Int) 1) ?_;refine my (Int.lt_add_one_of_le (Int.natCast_nonneg k)) h1 (wI h2 ?_);refine ah (show ((k:Int)+1-1)=(k:Int)-1+1 from(Int.add_sub_cancel _ _).trans (Int.sub_add_cancel _ _).symm) ?_;exact ih
theorem nz {src src':gH}{x:Str}{px:Pos}{elt iter:Expr}{ifs:List Expr}{scope:Scope}{pos:Pos}{D:Addr}{v:V}{Q:AH→Prop}{J:ax→AH→Prop}(hn:NX B n src src' v σ)(ha:src'.aux=src.aux)
    (h:(∃o,lk m x=some (.loc o))∧pP B n (setL m x v) ifs (fun b σ₁=>if b then EV B n (setL m x v) elt (fun u σ₂=>∃ys,σ₂ D=some (.list ys)∧ys.length<sizeLine∧J (setL m x v) (σ₂.set D (.list (ys++[u])))) (fun _ _=>False) σ₁ else J (setL m x v) σ₁) σ)
    (ih:∀m' σ',J m' σ'→MV B n m' src' (.ListComp elt [⟨.Name x px,iter,ifs,0⟩] scope pos) D Q σ'):MV B n m src (.ListComp elt [⟨.Name x px,iter,ifs,0⟩] scope pos) D Q σ:=
  ny (J:=J (setL m x v)) (hn.name ha h.1) ha h.2 (ih _)
theorem cw {l:Addr}{xs:List V}{x:Str}{px:Pos}{elt iter:Expr}{ifs:List Expr}{scope:Scope}{pos:Pos}{D:Addr}{Q:AH→Prop}(I:Nat→ax→AH→Prop)(hl:∀i m σ,I i m σ→i≤xs.length→σ l=some (.list xs)∨σ l=some (.clist xs))
    (step:∀i v m σ,I i m σ→xs[i]?=some v→(∃o,lk m x=some (.loc o))∧pP B n (setL m x v) ifs (fun b σ₁=>if b then EV B n (setL m x v) elt (fun u σ₂=>∃ys,σ₂ D=some (.list ys)∧ys.length<sizeLine∧I (i+1) (setL m x v) (σ₂.set D (.list (ys++[u])))) (fun _ _=>False) σ₁ else I (i+1) (setL m x v) σ₁) σ)
    (fin:∀m σ,I xs.length m σ→Q σ):
    ∀i m σ,i≤xs.length→I i m σ→MV B n m (.lst l i) (.ListComp elt [⟨.Name x px,iter,ifs,0⟩] scope pos) D Q σ:=by
  exact gc (fun m σ h=>kz (pi (hl _ _ _ h (w6 _)) (w6 _)) (fin _ _ h)) fun i m σ hi h ih=>
    nz (po (hl _ _ _ h (wY hi)) (w7 hi)) rfl (step i _ m σ h (w7 hi)) ih
end
end
section
theorem wm {a b:Str}{pa pb tp vp:Pos}{k kk:Nat}{v1 v2:Expr}(hab:a≠b)(hl:(pb.line==pa.line)=true)(hs:([v1,v2].any fun | .Starred .. =>true | _=>false)=false)(hf:[v1,v2].all (foldedForSure 8)=false)(hc:[v1,v2].all (constantsAlone 8)=false)(env:Env)(hk:env.scope.kind= .function)
    (e1:env.kindOf a=some .local) (e2:env.kindOf b=some .local):swappedStores [.Tuple [.Name a pa, .Name b pb] k tp] (.Tuple [v1,v2] kk vp) env=pure (some [a,b]):=by
  have hb:env.blockKind= .function:=by unfold Env.blockKind;refine ah hk ?_;rfl
  have hba:(b==a)=false:=by simpa using Ne.symm hab
  have hab':(a==b)=false:=by simpa using hab
  have hfm:([Expr.Name a pa,Expr.Name b pb].filterMap fun
    | .Name id pos=>if env.kindOf id==some .local&&pos.line==pa.line then some id else none
    | _=>none)=[a,b]:=by
    simp only [List.filterMap_cons,List.filterMap_nil,e1,e2,beq_self_eq_true,Bool.and_self,hl,if_true]
  have hed:[a,b].eraseDups.length=2:=by
    simp [List.eraseDups,List.eraseDupsBy,List.eraseDupsBy.loop,hba,hab']
  refine(if_neg (by rewrite [hb];exact Bool.false_ne_true)).trans ((if_neg fun h=>Bool.false_ne_true (hs.symm.trans h)).trans ?_)
  refine(congrArg (fun X:List Str=>(if X.length !=2 || X.eraseDups.length !=X.length then pure none else if [v1,v2].all (foldedForSure 8) then pure none else(if [v1,v2].all (constantsAlone 8) then(do unsupported "assign.tuple-of-constant-expressions:order-of-the-stores";pure (some X)) else pure (some X)):Sem (Option (List Str)))) hfm).trans ?_
  refine(if_neg ?_).trans ((if_neg ?_).trans (if_neg ?_))
  · rewrite [hed];exact Bool.false_ne_true
  · rewrite [hf];exact Bool.false_ne_true
  · rewrite [hc];exact Bool.false_ne_true
section
variable {B:Bs}{n:Nat}{m:ax}{E:Str→AH→Prop}{σ:AH}{Q:cM→ax→AH→Prop}{rest:List Stmt}
theorem aX {x:Str}{xp pos:Pos}{e:Expr}(K:KO B.K)(hn:0<n)(hx:da m x=true)(hs:∀env,swapsWith e (some (.Name x xp)) pos.line env=pure false)(h:kE m σ e fun v=>bu B n (setL m x v) rest Q E σ):bu B n m (.Assign [.Name x xp] e pos::rest) Q E σ:=
  ao (cU hx (bn K hn h) hs)
theorem c7 {x:Str}{xp pos cpos:Pos}{func:Expr}{args:List Expr}(K:KO B.K)(hn:0<n)(hx:da m x=true)(ha:NA func)(hst:bo args=true)(h:kE m σ func fun f=>ec B f∧lZ m σ args fun vs=>CV B n f vs (fun v σ'=>bu B n (setL m x v) rest Q E σ') E σ):bu B n m (.Assign [.Name x xp] (.Call func args [] cpos) pos::rest) Q E σ:=
  ao (cU hx (aK K hn ha hst h) fun _=>rfl)
theorem bE {x:Str}{xp pos:Pos}{e:Expr}(hx:da m x=true)(hs:∀env,swapsWith e (some (.Name x xp)) pos.line env=pure false)(h:EV B n m e (fun v σ'=>bu B n (setL m x v) rest Q E σ') E σ):bu B n m (.Assign [.Name x xp] e pos::rest) Q E σ:=
  ao (cU hx h hs)
theorem aL {e:Expr}{pos:Pos}(K:KO B.K)(hn:0<n)(h:kE m σ e fun v=>Q (.ret v) m σ):bu B n m (.Return (some e) pos::rest) Q E σ:=
  ao (cV (bn K hn h))
theorem dm {func:Expr}{args:List Expr}{pos cpos:Pos}(K:KO B.K)(hn:0<n)(ha:NA func)(hst:bo args=true)(h:kE m σ func fun f=>ec B f∧lZ m σ args fun vs=>CV B n f vs (fun v σ'=>Q (.ret v) m σ') E σ):bu B n m (.Return (some (.Call func args [] cpos)) pos::rest) Q E σ:=
  ao (cV (aK K hn ha hst h))
theorem aJ {e:Expr}{pos:Pos}(h:EV B n m e (fun v σ'=>Q (.ret v) m σ') E σ):bu B n m (.Return (some e) pos::rest) Q E σ:=ao (cV h)
theorem jN {func:Expr}{args:List Expr}{pos cpos:Pos}(K:KO B.K)(hn:0<n)(ha:NA func)(hst:bo args=true)(h:kE m σ func fun f=>ec B f∧lZ m σ args fun vs=>CV B n f vs (fun _ σ'=>bu B n m rest Q E σ') E σ):bu B n m (.Expr (.Call func args [] cpos) pos::rest) Q E σ:=
  ao (iH (aK K hn ha hst h))
theorem a7 {t:Expr}{body orelse:List Stmt}{pos:Pos}(K:KO B.K)(hn:0<n)(h:kE m σ t fun v=>∃b,v= .bool b∧if b=true then bu B n m body (ln B n rest Q E) E σ else bu B n m orelse (ln B n rest Q E) E σ):bu B n m (.If t body orelse pos::rest) Q E σ:=
  h.elim fun _ h=>h.2.elim fun _ q=>ao (ew (h.1.tv K hn q.1 (by rename_i b;cases b<;>simpa using q.2)))
theorem iI {func:Expr}{args:List Expr}{body orelse:List Stmt}{pos cpos:Pos}(K:KO B.K)(hn:0<n)(ha:NA func)(hst:bo args=true)
    (h:kE m σ func fun f=>ec B f∧lZ m σ args fun vs=>CV B n f vs (fun v σ'=>∃b,v= .bool b∧if b=true then bu B n m body (ln B n rest Q E) E σ' else bu B n m orelse (ln B n rest Q E) E σ') E σ):bu B n m (.If (.Call func args [] cpos) body orelse pos::rest) Q E σ:=
  ao (ew (dq K hn ha hst h))
theorem ey {func:Expr}{args:List Expr}{body orelse:List Stmt}{pos cpos npos:Pos}(K:KO B.K)(hn:0<n)(ha:NA func)(hst:bo args=true)
    (h:kE m σ func fun f=>ec B f∧lZ m σ args fun vs=>CV B n f vs (fun v σ'=>∃b,v= .bool b∧if b=false then bu B n m body (ln B n rest Q E) E σ' else bu B n m orelse (ln B n rest Q E) E σ') E σ):bu B n m (.If (.UnaryOp .Not (.Call func args [] cpos) npos) body orelse pos::rest) Q E σ:=by
  refine ao (ew (gJ (dq K hn ha hst ?_)));refine rt ?_ h;clear h;intro f h1 h2 vs;refine uA ?_;intro h4 h5;refine⟨f,h1,h2,vs,h4,h5.mono (fun v σ' ⟨b,h6,h7⟩=>⟨b,h6, ?_⟩) fun _ _ x=>x⟩
  cases b<;>simpa using h7
theorem cx {x:Str}{xp pos:Pos}{e:Expr}{v:V}(K:KO B.K)(hn:0<n)(hx:da m x=true)(hs:∀env,swapsWith e (some (.Name x xp)) pos.line env=pure false)(h1:Ep m σ e v)(h:bu B n (setL m x v) rest Q E σ):bu B n m (.Assign [.Name x xp] e pos::rest) Q E σ:=
  ao (cU hx (h1.ev K hn h) hs)
theorem kD {x:Str}{xp pos cpos:Pos}{func:Expr}{args:List Expr}{f:V}{vs:List V}(K:KO B.K)(hn:0<n)(hx:da m x=true)(ha:NA func)(h1:Ep m σ func f)(h2:ly m σ args vs)(hk:ec B f)(h:CV B n f vs (fun v σ'=>bu B n (setL m x v) rest Q E σ') E σ):bu B n m (.Assign [.Name x xp] (.Call func args [] cpos) pos::rest) Q E σ:=
  ao (cU hx (cr K hn ha h1 h2 hk h) fun _=>rfl)
theorem aN {e:Expr}{pos:Pos}{v:V}(K:KO B.K)(hn:0<n)(h1:Ep m σ e v)(h:Q (.ret v) m σ):bu B n m (.Return (some e) pos::rest) Q E σ:=
  ao (cV (h1.ev K hn h))
theorem cA {func:Expr}{args:List Expr}{pos cpos:Pos}{f:V}{vs:List V}(K:KO B.K)(hn:0<n)(ha:NA func)(h1:Ep m σ func f)(h2:ly m σ args vs)(hk:ec B f)(h:CV B n f vs (fun v σ'=>Q (.ret v) m σ') E σ):bu B n m (.Return (some (.Call func args [] cpos)) pos::rest) Q E σ:=
  ao (cV (cr K hn ha h1 h2 hk h))
theorem qG {t:Expr}{body orelse:List Stmt}{pos:Pos}(K:KO B.K)(hn:0<n)(h1:Ep m σ t (.bool true))(h:bu B n m body (ln B n rest Q E) E σ):bu B n m (.If t body orelse pos::rest) Q E σ:=a7 K hn ⟨_,h1,true,rfl,if_pos rfl▸h⟩
theorem nB {t:Expr}{body orelse:List Stmt}{pos:Pos}(K:KO B.K)(hn:0<n)(h1:Ep m σ t (.bool false))(h:bu B n m orelse (ln B n rest Q E) E σ):bu B n m (.If t body orelse pos::rest) Q E σ:=a7 K hn ⟨_,h1,false,rfl,h⟩
theorem qF {t:Expr}{body:List Stmt}{pos:Pos}(K:KO B.K)(hn:0<n)(h1:Ep m σ t (.bool false))(h:bu B n m rest Q E σ):bu B n m (.If t body [] pos::rest) Q E σ:=nB K hn h1 (aj h)
theorem bO {t:Expr}{body orelse:List Stmt}{pos:Pos}{b:Bool}(K:KO B.K)(hn:0<n)(h1:Ep m σ t (.bool b))(e:b=true)(h:bu B n m body (ln B n rest Q E) E σ):bu B n m (.If t body orelse pos::rest) Q E σ:=qG K hn (e▸h1) h
theorem rM {t:Expr}{body orelse:List Stmt}{pos:Pos}{b:Bool}(K:KO B.K)(hn:0<n)(h1:Ep m σ t (.bool b))(e:b=false)(h:bu B n m orelse (ln B n rest Q E) E σ):bu B n m (.If t body orelse pos::rest) Q E σ:=nB K hn (e▸h1) h
theorem eg {t:Expr}{body:List Stmt}{pos:Pos}{b:Bool}(K:KO B.K)(hn:0<n)(h1:Ep m σ t (.bool b))(e:b=false)(h:bu B n m rest Q E σ):bu B n m (.If t body [] pos::rest) Q E σ:=qF K hn (e▸h1) h
theorem aM {x s t:Str}{k:Nat}{body:List Stmt}{p p2 p3 pos:Pos}(K:KO B.K)(hn:0<n)(h1:rn m x=some (.str s))(e:(s==t)=false)(h:bu B n m rest Q E σ):bu B n m (.If (.Compare (.Name x p) [.Eq] [.Constant (.str t) k p2] p3) body [] pos::rest) Q E σ:=eg K hn (bQ h1) e h
theorem bW {x s t u:Str}{k k2 k3:Nat}{body:List Stmt}{p p2 p3 p4 p5 pos:Pos}(K:KO B.K)(hn:0<n)(h1:rn m x=some (.str s))(e:[t,u].any (·==s)=false)(h:bu B n m rest Q E σ):bu B n m (.If (.Compare (.Name x p) [.In] [.Tuple [.Constant (.str t) k p2, .Constant (.str u) k2 p3] k3 p4] p5) body [] pos::rest) Q E σ:=eg K hn (jj h1) e h
theorem bN {t:Expr}{body orelse:List Stmt}{pos:Pos}{b:Bool}(K:KO B.K)(hn:0<n)(h1:Ep m σ t (.bool b))(h:if b=true then bu B n m body (ln B n rest Q E) E σ else bu B n m orelse (ln B n rest Q E) E σ):bu B n m (.If t body orelse pos::rest) Q E σ:=
  a7 K hn ⟨_,h1,b,rfl,h⟩
theorem dY {a b:Str}{pa pb tp vp pos:Pos}{k kk:Nat}{v1 v2:Expr}{oa ob:Option V}(ha:lk m a=some (.loc oa))(hb:lk m b=some (.loc ob))(hab:decide (a=b)=false)(hl:(pb.line==pa.line)=true)(hs:([v1,v2].any fun | .Starred .. =>true | _=>false)=false)(hf:[v1,v2].all (foldedForSure 8)=false)(hc:[v1,v2].all (constantsAlone 8)=false)
    (h:EV B n m (.Tuple [v1,v2] kk vp) (fun v σ'=>∃u w,v= .tup [u,w]∧bu B n (setL (setL m a u) b w) rest Q E σ') E σ):bu B n m (.Assign [.Tuple [.Name a pa, .Name b pb] k tp] (.Tuple [v1,v2] kk vp) pos::rest) Q E σ:=
  ao (mD ha hb (of_decide_eq_false hab) (wm (of_decide_eq_false hab) hl hs hf hc) h)
theorem cz {o e:Expr}{ap pos cpos:Pos}(K:KO B.K)(hn:0<n)(hb:AB o)(hst:bo [e]=true)(hp:(ap.endLine==cpos.line)=true)
    (h:kE m σ o fun ov=>kE m σ e fun v=>∃a xs,ov= .ref a∧σ a=some (.list xs)∧xs.length<sizeLine∧bu B n m rest Q E (σ.set a (.list (xs++[v])))):bu B n m (.Expr (.Call (.Attribute o "append" ap) [e] [] cpos) pos::rest) Q E σ:=by
  refine aY ?_ h;clear h;intro ov h1;refine aY ?_;intro v h3;refine bk ?_;rintro a xs rfl h4 h5 h6;refine ao (iH (cb hb hst (by simp) hp (h1.ev K hn ⟨"list.append", ?_, ?_⟩)))
  · exact .append h4
  · exact h3.ev K hn (gI h4 h5 h6)
theorem cP {t:Expr}{R R':AH→Prop}(K:KO B.K)(hn:0<n)(h:kE m σ t fun v=>∃b,v= .bool b∧if b=true then R σ else R' σ):TV B n m t (fun b σ₁=>if b then R σ₁ else R' σ₁) E σ:=by
  refine aY ?_ h;clear h;intro v h1;refine aY ?_;rintro b rfl h3;exact h1.tv K hn rfl (by cases b<;>simpa using h3)
theorem dr {t:Expr}{R R':AH→Prop}{b:Bool}(K:KO B.K)(hn:0<n)(h1:Ep m σ t (.bool b))(h:if b=true then R σ else R' σ):TV B n m t (fun b σ₁=>if b then R σ₁ else R' σ₁) E σ:=cP K hn ⟨_,h1,b,rfl,h⟩
theorem wv {f:V}{xs:List V}{Q:V→AH→Prop}{σ₀:AH}(h:CV B n f xs Q (fun y σ'=>aH σ₀ σ'∧E y σ₀) σ):CV B n f xs Q E σ:=
  fun Γ A T mc kc s vf vs G HA HS hf hv=>wpAny_mono (h Γ A T mc kc s vf vs G HA HS hf hv) (fun _ _ x=>x)
    fun _ _ ⟨e,T',mc',kc',σ',y,own,dof,h1,h2,h3,h4,h5,hle,h6⟩=>⟨e,T',mc',kc',σ₀,y,own,dof,h1,h2,h3.weak hle,h4,h5,h6⟩
theorem aF {p q:Prop}(h:p):if true=true then p else q:=by simpa using h
theorem az {p q:Prop}(h:q):if false=true then p else q:=by simpa using h
theorem ss {p q:Prop}(h:p):if false=false then p else q:=by simpa using h
theorem jo {p q:Prop}(h:q):if true=false then p else q:=by simpa using h
end
end
section
section
variable {B:Bs}{n:Nat}{m:ax}{Q:V→AH→Prop}{E:Str→AH→Prop}{σ:AH}
theorem SI.noneAt {Γ:Fc}{T:TM}{mc kc own dof}{h:Heap}(G:FcOk B Γ)(I:SI B Γ T mc kc σ own dof h){a:Addr}(ha:h.get? a=none):σ a=none:=by
  cases q:σ a with
  | none=>rfl
  | some x=>refine aY ?_ (I.stands G q);intro ob h1 _;rw [ha] at h1;exact nn h1
theorem SI.newL {Γ:Fc}{T:TM}{mc kc own dof}{h h':Heap}{D:Addr}{ys:Array Value}(G:FcOk B Γ)(I:SI B Γ T mc kc σ own dof h)(hD:h.get? D=none)(k:∀b o,h.get? b=some o→h'.get? b=some o)(hp:h'.PlainList D ys){xs:List V}(hr:bS T xs ys.toList)(hz:xs.length≤sizeLine):
    SI B Γ T mc kc (σ.set D (.list xs)) (D::own) dof h':=by
  refine uE ?_ (id hp);intro kk hp';have ne:∀b o,h.get? b=some o→b≠D:=fun b o e q=>by rw [q,hD] at e;exact nn e
  refine((I.keeps k).addr ?_ ?_ trivial hp' (by intro v z;cases z) ?_ ?_).track (o:= .list xs) ⟨.head _,ys.toList,by simpa using hp,hr,hz⟩ rfl (fun _ _ _ _ h=>by exact ft h)
  · refine c6 ?_ I.ns;intro o es ep h1 _;exact(ne _ _ h1).symm
  · cases q:Γ.h₀.get? D with
    | none=>rfl
    | some o=>exact absurd rfl (ne _ _ (I.keep _ _ q))
  · intro p hp q;refine uA ?_ (I.sn p hp);refine uE ?_;intro sl h1 _;exact ne _ _ h1 q
  · intro p hp q;exact ne _ _ (I.pn p hp).1 q
theorem lx {elt o:Expr}{x y:Str}{px p1 p2 p3 ap vp pos:Pos}{scope:Scope}{own:Addr}(hok:jv m scope=true)(hx:scope.names.lookup x=some .local)(hy:(y,NameKind.free)∈scope.names)(hxy:x≠y)(hkind:scope.kind= .function)(hb:AB o)(hl:(ap.endLine==vp.line)=true)(K:KO B.K)(hn:0<n)
    (hv:lk m y=some (.cel (some (.ref own)))) (ho:(σ own).isSome=true)
    (h:kE m σ o fun ov=>∃d es,ov= .ref d∧σ d=some (.idict es)∧(∀e∈es,∃a,e.2=V.ref a∧(σ a).isSome=true∧a≠own)∧∀D,σ D=none→Q (.ref D) (σ.set D (.list []))):
    EV B n m (.ListComp elt [⟨.Name x px, .Call (.Attribute o "values" ap) [] [] vp,[.Compare (.Name x p1) [.Is] [.Name y p2] p3],0⟩] scope pos) Q E σ:=by
  intro Γ A T mc kc s G HA HS HL;refine aY ?_ h;clear h;intro ov h1;refine bk ?_;rintro d es rfl h2 h3 h4;have hxl:=hx;have okm:=fK hok;have hfree:∀y,(y,NameKind.free)∈scope.names→∃c,Γ.env.cells.lookup y=some c:=fun y hm=>by
    refine uE ?_ ((okm y _ hm).2.2.2 rfl);intro v hv;refine dF ?_ (HL y _ hv);intro _ _;refine aY ?_;intro c hc _ _;exact⟨c,hc⟩
  have hdx:=(okm x _ (mem_of_lookup hx)).2.1;refine wpAny_ListComp_free (env:=Γ.env) (cl:=cH Γ.env scope.names []) (fun _=>false) (fun _ _=>True) (fS hfree) (fun z hz=>(okm z.1 z.2 hz).2.2.1) hkind (fun z hz hl=>by exact((okm z.1 z.2 hz).1).trans (congrArg _ hl)) hxl ?_ (fun _=>rfl);rw [arm_eval_Call,kG hb];refine wpAny_bind (wpAny_mono ((h1.ev (E:=E) (Q:=fun v σ'=>v= .ref d∧σ'=σ) K hn ⟨rfl,rfl⟩) Γ A T mc kc s G HA HS HL) ?_ fun _ _ x=>x);rintro ov s₁ ⟨T₁,σ₁,ovv,hT,HS₁,hov,rfl,rfl⟩
  cases (show ov= .ref d from hov)
  obtain ⟨ow,dof,I,hm⟩:=id HS₁;refine et ?_ (I.ob d _ h2);intro _ kks d1 d2 d3 d4;have hds:(d==sysModules)=false:=by simp only [beq_eq_false_iff_ne,ne_eq];exact d4
  have hpos:methodCallPos true o Γ.env ap vp=pure vp:=by unfold methodCallPos;simp [hl]
  have hform:methodCallForm (([]:List Expr).length+([]:List Keyword).length) (backTo vp (starEach [] Γ.env)) (backToKw vp (keywordEach [] Γ.env))=true:=rfl;refine wpAny_bind (wpAny_standAt ?_);refine ah hform ?_;refine wpAny_bind (wpAny_holding (getMethod_builtin d1.typeIs PySem.F.plainAttrs_dict PySem.F.slot_dict_values PySem.F.type_dict_values (fun b hb=>by cases hb;exact d1.mapOf.noDict d rfl) (wpAny_bind (wpAny_of_eq hpos ?_))));refine method_meetsIn PySem.F.slot_dict_values PySem.F.entry_dict_values rfl (PySem.evalArgs_none ⟨rfl,d1.typeIs,PySem.F.args_dict_values_1 _,_,meets_dict_values (intKind B.prog B.w) d hds,⟨kks,d1⟩, ?_⟩);refine uE ?_ d1.dictAt;intro ep dA;have hview:(s₁.heap.push {cls:= .type "dict_values",data:= .fields #[.ref d]}).IsValuesView s₁.heap.objs.size d:=⟨_,Heap.get?_push_size _ rfl,rfl,rfl⟩;have dA2:=dA.push {cls:= .type "dict_values",data:= .fields #[.ref d]};refine wpAny_pyIter_values (knd:=intKind B.prog B.w) hview dA2 ?_;dsimp only;generalize hh2:s₁.heap.push {cls:= .type "dict_values",data:= .fields #[.ref d]}=h2h at*;have k12:∀b o,s₁.heap.get? b=some o→h2h.get? b=some o:=fun b o e=>by refine ch hh2 ?_;exact Heap.get?_push_of_some _ e
  have hI:(h2h.push {cls:= .type "dict_valueiterator",data:= .fields #[.ref d, .int 0 0, .int kks.length 0, .int ep 0]}).IsValIter h2h.objs.size d 0 kks.length ep:=⟨_,Heap.get?_push_size _ rfl,rfl,rfl⟩;have dA3:=dA2.push {cls:= .type "dict_valueiterator",data:= .fields #[.ref d, .int 0 0, .int kks.length 0, .int ep 0]};have k23:∀b o,h2h.get? b=some o→(h2h.push {cls:= .type "dict_valueiterator",data:= .fields #[.ref d, .int 0 0, .int kks.length 0, .int ep 0]}).get? b=some o:=fun b o e=>Heap.get?_push_of_some _ e;have hsz:(h2h.push {cls:= .type "dict_valueiterator",data:= .fields #[.ref d, .int 0 0, .int kks.length 0, .int ep 0]}).objs.size=h2h.objs.size+1:=by rw [Heap.size_push]
  have hdlt:d<h2h.objs.size:=by refine fD ?_ dA2;clear dA2;intro o _ ho _;exact xf ho
  generalize h2h.push {cls:= .type "dict_valueiterator",data:= .fields #[.ref d, .int 0 0, .int kks.length 0, .int ep 0]}=h3h at*;have I3:SI B Γ T₁ mc kc σ₁ ow dof h3h:=I.keeps fun b o e=>k23 b o (k12 b o e);have old:∀b o,s₁.heap.get? b=some o→b≠h2h.objs.size:=fun b o e=>Nat.ne_of_lt (xf (k12 b o e));refine⟨h2h.objs.size,[h2h.objs.size,d],[h2h.objs.size],kks.length,_,_,rfl,Walks.dictValues (knd:=intKind B.prog B.w) HA.handled h2h.objs.size d (Nat.ne_of_lt hdlt) kks ep,by refine ah (dU.length d2) ?_;exact d3,⟨hI,dA3⟩, ?_, ?_, ?_⟩
  · intro b hb;simp at hb
    rcases hb with rfl | rfl
    · refine(?_:_<h3h.objs.size);refine ah hsz ?_;exact xk _
    · refine(?_:_<h3h.objs.size);refine ah hsz ?_;exact Nat.lt_succ_of_lt hdlt
  · refine⟨fun C i v s₃ m₃ E' hC hP hns tz hk htk=> ?_,fun C i v s₃ m₃ E' hC hP hp=>by exact ft hp⟩
    obtain ⟨kx,hkx⟩:=hP;have hval:∃a,v= .ref a∧(σ₁ a).isSome=true∧a≠own:=by
      have:∀{xs:List (Int×V)} {zs:List (Int×Value)} (i:Nat),dU T₁ xs zs→(∀e∈xs,∃a,e.2=V.ref a∧(σ₁ a).isSome=true∧a≠own)→zs[i]?=some (kx,v)→∃a,v= .ref a∧(σ₁ a).isSome=true∧a≠own:=by
        intro xs
        induction xs with
        | nil=>intro zs i hr _ hz;cases hr;exact nn hz
        | cons e xs ih=>
          intro zs i hr hx hz;refine cg ?_ hr;clear hr;rintro u r rfl hu hr
          cases i with
          | zero=>
            simp at hz;refine bI ?_ (hx e (.head _));intro a h5 h6 h7;rw [h5] at hu;exact⟨a,by refine ch hz.2 ?_;exact hu,h6,h7⟩
          | succ i=>exact ih i hr (fun e he=>hx e (.tail _ he)) (by simpa using hz)
      exact this i d2 h3 hkx
    refine bI ?_ hval;clear hval;rintro a rfl ha1 ha2;refine uE ?_ (Option.isSome_iff_exists.mp ha1);intro oa ha1;refine uE ?_ (Option.isSome_iff_exists.mp ho);intro oo ho1;refine aY ?_ (I.stands G ha1);intro ca hca hcat;refine aY ?_ (I.stands G ho1);intro co hco hcot;have kk:∀b o,s₁.heap.get? b=some o→s₃.heap.get? b=some o:=fun b o e=>hk b o (by simp;exact old b o e) (k23 b o (k12 b o e));refine dF ?_ (HL y _ hv);intro hdy hk0;refine bI ?_;intro cy hcy hcy1 hcy2 hoy;refine aY ?_ (hoy _ rfl);intro cv hcv hcv2
    cases (show cv= .ref own from hcv2)
    refine uE ?_ (jd (env:=Γ.env) (y:=y) scope.names [] (.inr hy));intro c' hc';have hc'':Γ.env.cells.lookup y=some c':=(gm scope.names [] hfree hc').elim (fun q=>by simp at q) id;refine aY ?_ (I.cl y c' hc'');intro oc hoc hoc2;rw [hcv] at hoc2;have hkx:(compEnvC scope (cH Γ.env scope.names []) C Γ.env).kindOf x=some .local:=lookup_relabel_local hxl;have hky:(compEnvC scope (cH Γ.env scope.names []) C Γ.env).kindOf y=some .cell:=by
      have:=fy (env:=Γ.env) (okm y _ hy).1
      refine(?_:List.lookup y _=_)
      exact this.trans (congrArg some (if_pos (by refine ah G.kind (ah hk0 ?_);rfl)))
    have hkf:(compEnvC scope (cH Γ.env scope.names []) C Γ.env).scope.kind= .function:=hkind;refine wpAny_tests_one ?_
    refine(?_:wpAny B.M A (eval (.Name x p1) _>>=fun lv=>testChain p3 lv [.Is] (markedEach [.Is] [.Name y p2] (evalEach [.Name y p2] _))) _ _ s₃)
    refine wpAny_bind (wpAny_Name (wpAny_loadName_local hkf hkx hns tz ?_) hdx)
    refine(?_:wpAny B.M A (holding [.ref a] (eval (.Name y p2) _)>>=fun rv=>standAt p3>>=fun _=>operate [.ref a,rv] (compareOp .Is (.ref a) rv)>>=fun c=>holding [c] (truthy c)) _ _ s₃)
    refine wpAny_bind (wpAny_holding (wpAny_Name (wpAny_loadName_cell hkf hky (show (compEnvC scope (cH Γ.env scope.names []) C Γ.env).cells.lookup y=some c' from hc') ⟨oc,kk _ _ hoc,hoc2⟩ ?_) hdy));refine wpAny_bind (wpAny_standAt (wpAny_bind (wpAny_operating ?_)));refine wpAny_bind (wpAny_isSame_ref_other ha2 (kk _ _ hca) (kk _ _ hco) hcat (wpAny_pure (wpAny_holding (wpAny_truthy_bool ⟨rfl,s₃.heap,s₃.toks,rfl,fun b o e=>e⟩))))
  · intro D h' tk ys vs hD hl hpl hlen hP hF hk;have hys:ys=#[]:=by
      have hnil:vs.filter (fun _=>false)=[]:=List.filter_eq_nil_iff.mpr (by simp);have:=hF.length;rw [hnil] at this;rw [List.length_nil] at this;exact Array.eq_empty_of_size_eq_zero (by simpa using this.symm)
    subst hys;have kk:∀b o,s₁.heap.get? b=some o→h'.get? b=some o:=fun b o e=>hk b o (by simp;exact old b o e) (k23 b o (k12 b o e));have hD1:s₁.heap.get? D=none:=by
      cases e:s₁.heap.get? D with
      | none=>rfl
      | some o=>rw [show h3h.get? D=_ from k23 D o (k12 D o e)] at hD;exact sn hD
    exact⟨T₁,_, .ref D,hT,⟨_,dof,I.newL G hD1 kk hpl (xs:=[]) rfl (by simp),hm⟩,rfl,h4 D (I.noneAt G hD1)⟩
end
end
section
section
variable {B:Bs}{n:Nat}{m:ax}{E:Str→AH→Prop}{σ:AH}
theorem SI.butAll {Γ:Fc}{T:TM}{mc kc own dof}{h h':Heap}{wr:List Addr}(G:FcOk B Γ)(X:SI B Γ T mc kc σ own dof h)
    (hw:∀b∈wr,(iY Γ own b∧T b=none)∧∃ob,h.get? b=some ob∧Qt ob∧ob.cls≠ .type "list") (k:∀b o,b∉wr→h.get? b=some o→h'.get? b=some o):SI B Γ T mc kc σ own dof h':=by
  have nd:∀b o,h.get? b=some o→(∃es ep,o.data= .dict es ep)→b∉wr:=fun b o e ⟨es,ep,hd⟩ q=>by
    refine cq ?_ (hw b q);intro _ ob h1 h2 _;exact h2.d _ _ (xg (e.symm.trans h1)▸hd)
  have no:∀b∈own,b∉wr:=fun b hb q=>(hw b q).1.1.o hb;have cn:∀b o,h.get? b=some o→(∃v,o.data= .cell v)→b∉wr:=fun b o e ⟨v,hd⟩ q=>(hw b q).2.elim fun ob z=>z.2.1.c _ (xg (e.symm.trans z.1)▸hd);exact X.chg (W:=(·∈wr)) k (X.ns.at' fun o e=>X.ns.elim fun oL z=>z.elim fun es z=>z.elim fun ep z=>k _ _ (nd _ _ z.1 ⟨_,_,z.2.1⟩) e) (fun b q=>(hw b q).1.1.z) (fun a ha q=>absurd q (no a ha))
    (fun p hp=>(X.sn p hp).1.elim fun sl z=>nd _ _ z (G.snf p hp)) (fun p hp q=>(hw _ q).1.1.p p hp rfl) (fun x c e=>(X.cl x c e).imp fun o z=>⟨k _ _ (cn _ _ z.1 ⟨_,z.2⟩) z.1,z.2⟩)
    (fun a vs e _ q=>nn ((hw a q).1.2.symm.trans e)) (fun a oa e=>dd.same k (fun vs z q=>z.elim fun o z=>(hw a q).2.elim fun ob y=>y.2.2 (xg (z.1.symm.trans y.1)▸z.2.1)) (fun _=>no a) (fun _ ha _ _=>no a ha) (fun _ hd _ _ _=>no _ hd) (X.ob a oa e)) X.inj X.dsj
theorem vZ {α:Type}{P:α→Prop}{a b c d:α}(ha:P a)(hb:P b)(hc:P c)(hd:P d):∀p∈[a,b,c,d],P p:=by simp [ha,hb,hc,hd]
section
variable {TI TO i1 i2 l1 l2:Addr}{j:Nat}{xs ys:List V}
theorem nS {Γ:Fc}{T:TM}{own:List Addr}{h:Heap}{I:Addr}(H:∀b∈I::(gH.zip TI TO i1 i2 l1 l2 j).aux,iY Γ own b∧T b=none)(hi:fj T h I (.zip TI TO i1 i2 l1 l2 j)):∀b∈[I,TO,i1,i2],(iY Γ own b∧T b=none)∧∃ob,h.get? b=some ob∧Qt ob∧ob.cls≠ .type "list":=by
  refine dF ?_ hi;intro _ y1 _;refine uA ?_;refine eu ?_;intro a b y3;refine uA ?_;refine bI ?_;intro o4 y4 z4 w4;refine bI ?_;intro o5 y5 z5 w5;exact vZ ⟨H _ (.head _),_,y1, .fields rfl,fun e=>gU e⟩ ⟨H _ (.tail _ (.tail _ (.head _))),_,y3,⟨fun _ _ e=>(nomatch e),fun _ e=>(nomatch e)⟩,fun e=>gU e⟩ ⟨H _ (.tail _ (.tail _ (.tail _ (.head _)))),_,y4, .fields w4,fun e=>gU (z4.symm.trans e)⟩ ⟨H _ (.tail _ (.tail _ (.tail _ (.tail _ (.head _))))),_,y5, .fields w5,fun e=>gU (z5.symm.trans e)⟩
theorem ph {e1 e2:Expr}{zp pos:Pos}{Q:gH→AH→Prop}(hl:lk m "zip"=some (.glob (.ty "zip")))(hn:bo [e1,e2]=true)
    (h:iE B n m E [e1,e2] (fun vs σ₁=>∃l1 l2 xs ys,vs=[.ref l1, .ref l2]∧σ₁ l1=some (.list xs)∧σ₁ l2=some (.list ys)∧∀TI TO i1 i2,Q (.zip TI TO i1 i2 l1 l2 0) σ₁) σ):IV B n m (.Call (.Name "zip" zp) [e1,e2] [] pos) Q E σ:=by
  intro Γ A T mc kc s G HA HS HL;rw [be .n];refine wpAny_bind (wpAny_mono (iD (B:=B) (n:=n) (E:=E) (σ:=σ) (Q:=fun v σ₁=>v= .ty "zip"∧σ₁=σ) hl (.inr (.inr (.inr rfl))) ⟨rfl,rfl⟩ Γ A T mc kc s G HA HS HL) ?_ fun _ _ x=>x);rintro v s₁ ⟨T₁,σ₁,x,hT,HS₁,hv,e1,e2⟩;rw [e1] at hv;rw [e2] at HS₁;refine eY hv (eX G HA hT HS₁ (HL.mono hT) (f:= .ty "zip") trivial rfl (first:=[]) (fv:=[]) rfl hn h ?_);rintro T' σ' s' vs ws vf' hT' ⟨own,dof,I,hm⟩ _ _ hr;refine ll ?_;intro l1 l2 xs ys e g1;refine uA ?_;intro g2 hq;rw [List.nil_append,List.nil_append,e] at hr;rw [List.nil_append];refine bI ?_ (I.list (.inl g1));intro us1 p1 r1 _;refine bI ?_ (I.list (.inl g2));intro us2 p2 r2 _;refine eC hr fun w1 _ h1 hr=>eR h1 (eC hr fun w2 _ h2 hr=>eR h2 (eZ hr (call_zip_2 p1 p2 fun h' hz hTI hTO hi1 hi2 hsz hk=>wpAny_pyIter_zip hz ?_)));refine⟨_,T',σ', .zip _ _ _ _ l1 l2 0,own,dof,rfl,hT',I.keeps hk,hm, ?_,⟨zipApart_new (aY (fun _ e _=>xf e) p1) (aY (fun _ e _=>xf e) p2),hz,hTI,⟨_,_,hTO⟩,hi1,hi2⟩,hq _ _ _ _⟩;exact sx (I.hidden (fI (w9 _ 4))) (I.hidden (fI (w9 _ 2))) (I.hidden (fI (w9 _ 3))) (I.hidden (fI (w6 _))) (I.hidden (fI (w9 _ 1)))
theorem mr {Γ:Fc}{T:TM}{A:Around}{mc kc own dof}{h:Heap}{I:Addr}(HA:ea n Γ A)(X:SI B Γ T mc kc σ own dof h)(e1:σ l1=some (.list xs))(e2:σ l2=some (.list ys))(hi:fj T h I (.zip TI TO i1 i2 l1 l2 j)):
    ∃vs ws:List Value,bS T xs vs∧bS T ys ws∧(IsZip h I TI TO .none∧IsPair h TI (.ref i1) (.ref i2)∧(∃a b,IsPair h TO a b)∧h.IsListIter i1 l1 j∧h.IsListIter i2 l2 j∧h.IsList l1 vs.toArray∧h.IsList l2 ws.toArray):=by
  refine bI ?_ (X.list (.inl e1));intro vs p1 r1 _;refine bI ?_ (X.list (.inl e2));intro ws p2 r2 _;refine cf ?_ hi;intro _ y1 y2 y3;refine uA ?_;intro y4 y5;exact⟨vs,ws,r1,r2,y1,y2,y3,y4,y5,p1,p2⟩
theorem pk (e1:σ l1=some (.list xs))(e2:σ l2=some (.list ys))(hj:min xs.length ys.length=j):NE B n (.zip TI TO i1 i2 l1 l2 j) σ:=by
  intro Γ A T mc kc s I own dof P E' G HA X hm H hi k;refine cg ?_ (mr HA X e1 e2 hi);intro vs ws r1 r2 st;have W:=WalksT.zip2 (prog:=B.prog) (w:=B.w) (A:=A) HA.handled I TI TO i1 i2 l1 l2 hi.1 vs.toArray ws.toArray;rw [List.size_toArray,List.size_toArray,r1.length,r2.length,hj] at W;exact W.done s _ _ st fun h₂ tk hk=>k _ (X.butAll G (nS H hi) hk) hm
theorem cK {x:Expr}{r:List Expr}{R:List V→AH→Prop}(h:EV B n m x (fun v σ₁=>iE B n m E r (fun vs σ₂=>R (v::vs) σ₂) σ₁) E σ):iE B n m E (x::r) R σ:=h
theorem nA {xa xb:Str}{pa pb pt:Pos}{kt:Nat}(e1:σ l1=some (.list xs))(e2:σ l2=some (.list ys)){u v:V}(hu:xs[j]?=some u)(hv:ys[j]?=some v)(ha:∃o,lk m xa=some (.loc o))(hb:∃o,lk m xb=some (.loc o))(hab:xa≠xb):
    tu B n (.zip TI TO i1 i2 l1 l2 j) (.zip TI TO i1 i2 l1 l2 (j+1)) (.Tuple [.Name xa pa, .Name xb pb] kt pt) m (setL (setL m xa u) xb v) σ:=by
  intro Γ A T mc kc s I own dof P PP E' G HA X hm HL H hi hPP k;refine cg ?_ (mr HA X e1 e2 hi);intro vs ws r1 r2 st;have W:=WalksT.zip2 (prog:=B.prog) (w:=B.w) (A:=A) HA.handled I TI TO i1 i2 l1 l2 hi.1 vs.toArray ws.toArray;refine W.item j s _ _ (by refine ah List.size_toArray (ah List.size_toArray (ah r1.length (ah r2.length ?_)));exact ag (List.getElem?_eq_some_iff.mp hu).1 (List.getElem?_eq_some_iff.mp hv).1) st fun Tn vals hh tk hPt hsz hTn hMid hk=>hPP _ _ fun E1=>W.go _ _ _ j Tn _ _ _ hMid fun h₂ hst₂ hk₂=> ?_;have X2:SI B Γ T mc kc σ own dof h₂:=X.butAll G (nS H hi) fun b o hb e=>hk₂ b o hb (hk b o hb e);refine cg ?_ hPt;intro x y hx hy e;rw [e] at hTn;have hTn2:h₂.IsTuple Tn #[x,y]:=let ⟨o,e,r⟩:=hTn;⟨o,hk₂ _ o (W.apart j Tn _ hMid) e,r⟩;refine aY ?_ (r1.get j u hu);intro x' hx' hxv;refine aY ?_ (r2.get j v hv);intro y' hy' hyv;rw [show x'=x from xg (hx'.symm.trans (List.getElem?_toArray.symm.trans hx))] at hxv;rw [show y'=y from xg (hy'.symm.trans (List.getElem?_toArray.symm.trans hy))] at hyv;refine wpAny_assign_Tuple HA.handled hTn2 rfl rfl fun h₃ hx₃=> ?_;have old₃:∀b o,h₂.get? b=some o→h₃.get? b=some o:=fun b o e=>hx₃ b o (Nat.ne_of_lt (xf e)) e;have X3:=X2.keeps old₃;have st₃:=W.frame (j+1) h₂ h₃ hst₂ fun b _ o=>old₃ b o;have hi₃:fj T h₃ I (.zip TI TO i1 i2 l1 l2 (j+1)):=⟨hi.1,st₃.1,st₃.2.1,st₃.2.2.1,st₃.2.2.2.1,st₃.2.2.2.2.1⟩;refine uE ?_ hi₃.pin;intro L p;refine uE ?_ ha;intro oa hao;refine uE ?_ hb;intro ob hbo;have G₁:FcOk B (eo Γ L):=G.pin fun q hq=>(p.at_ q hq).2.2;have X4:SI B (eo Γ L) T mc kc σ own dof h₃:=X3.pin fun q hq=>⟨⟨(p.at_ q hq).1,(H q.1 (p.at_ q hq).2.1).1.o⟩,(H q.1 (p.at_ q hq).2.1).2⟩;exact wpAny_bind (wpAny_holding (wpAny_assign_Name (fM (Γ:=eo Γ L) G₁ ⟨own,dof,X4,hm⟩ HL hao hxv fun mc1 s4 HS4 HL4=>wpAny_bind (wpAny_holding (wpAny_assign_Name (fM (Γ:=eo Γ L) G₁ HS4 HL4 ((gv (Ne.symm hab)).trans hbo) hyv fun mc2 s5 HS5 HL5=>wpAny_pure (k L _ mc2 s5 p HS5 HL5)))))))
end
end
end
section
section
variable {prog:Program}{w:World}{K:Type}[DecidableEq K]{knd:PySem.KeyKind prog w K}{A:Around}{E:Value→Shared→Prop}{s:Shared}
theorem lT {d:Addr}{kvs:List (K×Value)}{k:K}{key v:Value}{Q:Unit→Shared→Prop}(hkey:knd.is k key=true)(hm:s.heap.DictOf knd d kvs)(hfr:¬(kvs.any fun kv=>decide (kv.1=k))=true)
    (hsz:kvs.length≤sizeLine) (hQ:∀h',h'.DictOf knd d (kvs++[(k,v)])→Heap.SameBut d s.heap h'→Q () {s with heap:=h'}):
    wpAny (model prog w) A (dictPut d (knd.hash k) key v) Q E s:=by
  refine bJ ?_ hm;clear hm;intro o es ep ho hc hd;refine dc ?_;intro hk hp hn;have hes:es.size≤sizeLine:=by
                                      have e1:=hp.length;have e2:es.toList.length=es.size:=rfl;lia
  refine wpAny_bind (wpAny_dictFind_of hkey ho hd hk ?_);have hidx:(es.findIdx? fun e=>knd.is k e.key)=kvs.findIdx? fun kv=>decide (kv.1=k):=by
    refine ch (hp.findIdx k) ?_;obtain ⟨l⟩:=es;simp
  cases hi:es.findIdx? fun e=>knd.is k e.key with
  | some i=>exact absurd (any_of_findIdx_some (hidx▸hi)) hfr
  | none=>
    have hnot:k∉kvs.map (·.1):=not_mem_of_findIdx_none (hidx▸hi);refine wpAny_updateDictKeys (hz:=hes) ho hd (hQ _ ⟨_,_,ep+1,Heap.get?_update_self _ ho (Obj.isFreed_of_dict (Obj.data_mapDictKeys hd _)),
      hc.mapDictKeys _,Obj.data_mapDictKeys hd _,hk.push hkey _, ?_, ?_⟩ (Heap.SameBut.update ..))
    · have:=hp.append hkey (knd.hash k) v;obtain ⟨l⟩:=es
      simpa using this
    · refine ah List.map_append ?_;rewrite [List.nodup_append];refine⟨hn,by simp, ?_⟩
      intro a ha b hb;simp only [List.map_cons,List.map_nil,List.mem_singleton] at hb;subst hb;exact fun e=>hnot (e▸ha)
theorem oQ {d o:Addr}{kvs more:List (K×Value)}{Q:Unit→Shared→Prop}(hdo:d≠o)(hoS:(o==sysModules)=false)(hd:s.heap.DictOf knd d kvs)(ho:s.heap.DictOf knd o more)(hne:kvs≠[])(hnd:((kvs++more).map (·.1)).Nodup)
    (hsz:kvs.length+more.length≤sizeLine) (hQ:∀h',h'.DictOf knd d (kvs++more)→h'.DictOf knd o more→Heap.SameBut d s.heap h'→Q () {s with heap:=h'}):
    wpAny (model prog w) A (mergeMapping d (.ref o) false) Q E s:=by
  refine bJ ?_ (id hd);intro od esd epd hod hcd hdd;refine dc ?_;intro hkd hpd hnd';refine bJ ?_ (id ho);intro oo eso epo hoo hco hdo';refine dc ?_;intro hko hpo hno;have hlen:more.length=eso.size:=by refine ch hpo.length ?_;rfl
  refine wpAny_bind (wpAny_isInstance ho.typeIs isSubtype_dict_dict ?_);simp only [if_true];refine wpAny_bind (wpAny_specialOf ho.typeIs PySem.F.slot_dict_iter.lookup ?_);refine wpAny_bind (wpAny_pure ?_);simp only [beq_self_eq_true];refine ah (if_neg (by rw [hoS];exact Bool.false_ne_true)) ?_;refine wpAny_bind (wpAny_dictEntries hod hdd ?_);have hemp:esd.isEmpty=false:=by
    cases h:esd.isEmpty
    · rfl
    · exfalso
      have h0:esd=#[]:=Array.isEmpty_iff.mp h;have:=hpd.length;rw [h0] at this;exact hne (List.length_eq_zero_iff.mp (by simpa using this.symm))
  refine ah hemp ?_;simp only [Bool.false_eq_true,if_false];refine wpAny_bind (wpAny_dictEntries hoo hdo' ?_);refine wpAny_bind (wpAny_dictEpoch hoo hdo' ?_);refine wpAny_bind ?_;refine ah List.range_eq_range' ?_;refine wpAny_forIn_list _
    (fun rest _ s'=>∃h' i,s'={s with heap:=h'}∧rest=List.range' i (eso.size-i)∧i≤eso.size∧h'.DictOf knd d (kvs++more.take i)∧h'.get? o=some oo∧Heap.SameBut d s.heap h')
    _ ?_ ?_ _ _ ⟨s.heap,0,rfl,by simp,xd _,by simpa using hd,hoo,Heap.SameBut.refl _ _⟩
  · intro x rest b s';refine bk ?_;rintro h' i rfl hr hi;refine dc ?_;intro hd' hoo' hs';have hlt:i<eso.size:=by
      rcases Nat.lt_or_ge i eso.size with h | h
      · exact h
      · rw [Nat.sub_eq_zero_of_le h] at hr;simp at hr
    obtain ⟨rfl,hrest⟩:x=i∧rest=List.range' (i+1) (eso.size-(i+1)):=by
      have e:eso.size-i=(eso.size-(i+1))+1:=(Nat.succ_pred_eq_of_pos (Nat.sub_pos_of_lt hlt)).symm;rw [e,List.range'_succ] at hr
      injection hr with h1 h2
      exact⟨h1,h2⟩
    refine wpAny_bind (wpAny_dictEntries hoo' hdo' ?_);refine ah (Array.getElem?_eq_getElem hlt) ?_;have hxm:x<more.length:=by refine ah hlen ?_;exact hlt
    obtain ⟨kv,hkv⟩:∃kv,more[x]?=some kv:=⟨more[x]'hxm,w7 _⟩;obtain ⟨k,v⟩:=kv;refine uA ?_ (hpo.get? (e:=eso[x]) (by simp [hlt]) hkv);intro hkey hval;refine aY ?_ (hko eso[x] (Array.getElem_mem hlt));intro k' hkey' hhash;obtain rfl:k'=k:=knd.inj _ _ _ hkey' hkey;have htake:more.take (x+1)=more.take x++[(k',v)]:=by
      refine ch (List.take_append_getElem hxm) ?_
      congr 2
      rw [w7 hxm] at hkv;exact xg hkv
    have hfr:¬((kvs++more.take x).any fun kv=>decide (kv.1=k'))=true:=by
      rw [List.any_eq_true];refine aY ?_;intro q hq he;have he':q.1=k':=of_decide_eq_true he;have hsub:((kvs++more.take (x+1)).map (·.1)).Nodup:=by
        refine hnd.sublist ?_
        exact(List.Sublist.append_left (List.take_sublist _ _) _).map _
      rw [htake,←List.append_assoc,List.map_append,List.nodup_append] at hsub;exact hsub.2.2 q.1 (List.mem_map.mpr ⟨q,hq,rfl⟩) k' (by simp) he'
    refine(?_:wpAny _ _ (holding [eso[x].key,eso[x].val] (dictPut d eso[x].hash eso[x].key eso[x].val)>>=_) _ _ _)
    refine ah hhash (ah hval ?_)
    refine wpAny_bind (wpAny_holding (lT (s:={s with heap:=h'}) hkey hd' hfr (by refine ah List.length_append (ah List.length_take ?_);exact wV (xe (Nat.min_le_right _ _) _) hsz) fun h'' hd'' hs''=> ?_));have hoo'':h''.get? o=some oo:=(hs''.2 o (Ne.symm hdo)).trans hoo';refine wpAny_bind (wpAny_dictEpoch hoo'' hdo' ?_);refine ah (if_neg (by simp)) ?_;exact wpAny_pure ⟨h'',x+1,rfl,hrest,hlt,by refine ah htake ?_;rewrite [←List.append_assoc];exact hd'',hoo'',hs'.trans hs''⟩
  · intro b s';refine bk ?_;rintro h' i rfl hr hi;refine dc ?_;intro hd' hoo' hs';have hin:i=eso.size:=by
      rcases Nat.lt_or_ge i eso.size with h | h
      · have e:eso.size-i=(eso.size-(i+1))+1:=(Nat.succ_pred_eq_of_pos (Nat.sub_pos_of_lt h)).symm;rw [e,List.range'_succ] at hr;exact nomatch hr
      · exact Nat.le_antisymm hi h
    refine wpAny_pure (hQ h' ?_ ⟨oo,eso,epo,hoo',hco,hdo',hko,hpo,hno⟩ hs');rw [hin,←hlen,List.take_length] at hd';exact hd'
end
end
section
section
variable {M:Model}{A:Around}{E:Value→Shared→Prop}{s:Shared}
theorem kO {its:List (Sem Value×Sem Value)}{R:Addr→Shared→Prop}{Q:Value→Shared→Prop}(h17:17<its.length)(h34:its.length<34)(h1:wpAny M A (subDict (its.take 17)) R E s)
    (h2:∀d s',R d s'→wpAny M A (subDict (its.drop 17)) (fun sub s₂=>∀E',wpAny M A (mergeMapping d (.ref sub) false) (fun _ s₃=>Q (.ref d) s₃) E' s₂) E s'):wpAny M A (dictDisplay (its.map fun p=>(some p.1,p.2))) Q E s:=by
  refine wpAny_bind (wpAny_forIn_list (s:=s) _ (fun rest st s'=>(∃i,i<17∧rest=(its.drop i).map (fun p=>(some p.1,p.2))∧st=(none,its.take i)∧s'=s)∨(∃d i,17≤i∧i≤its.length∧rest=(its.drop i).map (fun p=>(some p.1,p.2))∧st=(some d,(its.take i).drop 17)∧R d s')) _ ?_ ?_ _ _ (.inl ⟨0,wW rfl,rfl,rfl,rfl⟩))
  · rintro x rest b s' (⟨i,hi,hr,rfl,rfl⟩ | ⟨d,i,hi,hi2,hr,rfl,hR⟩)
    · have hlt:i<its.length:=wZ (wY hi) h17;rw [List.drop_eq_getElem_cons hlt,List.map_cons] at hr;refine uA ?_ (List.cons.inj hr);rintro rfl rfl;have htk:its.take i++[(its[i].1,its[i].2)]=its.take (i+1):=List.take_append_getElem hlt;dsimp only;refine ah htk ?_
      by_cases h16:i=16
      · subst h16;have hl:((its.take (16+1)).length==17)=true:=by rewrite [beq_iff_eq];exact List.length_take.trans (Nat.min_eq_left hlt)
        have hne:(its.take (16+1)).isEmpty=false:=by
          rw [List.isEmpty_eq_false_iff];intro q;rw [q] at hl;exact ft hl
        refine ah (if_pos hl) ?_;simp only [hne,Bool.false_eq_true,if_false];refine wpAny_bind (wpAny_bind (wpAny_mono h1 (fun d s' hR=>wpAny_pure (wpAny_pure (.inr ⟨d,17,by exact wW rfl,by exact ar hlt rfl,rfl, ?_,hR⟩))) fun _ _ x=>x));simp
      · have hl:¬((its.take (i+1)).length==17)=true:=by rewrite [beq_iff_eq];refine ah List.length_take ?_;exact fun q=>h16 (Nat.succ.inj ((Nat.min_eq_left hlt).symm.trans q))
        refine ah (if_neg hl) ?_;exact wpAny_pure (.inl ⟨i+1,by exact Nat.add_lt_add_right (Nat.lt_of_le_of_ne (Nat.le_of_lt_succ (w0 hi (wW rfl))) h16) _,rfl,rfl,rfl⟩)
    · rcases Nat.lt_or_ge i its.length with hlt | hge
      · rw [List.drop_eq_getElem_cons hlt,List.map_cons] at hr;refine uA ?_ (List.cons.inj hr);rintro rfl rfl;have htk:(its.take i).drop 17++[(its[i].1,its[i].2)]=(its.take (i+1)).drop 17:=by
          exact ch (List.take_append_getElem hlt) (ah (List.drop_append_of_le_length (by simp;exact Nat.le_min_of_le_of_le hi (wV hi hi2))) rfl)
        dsimp only;refine ah htk ?_;have hl:¬(((its.take (i+1)).drop 17).length==17)=true:=by rewrite [beq_iff_eq];refine ah List.length_drop (ah List.length_take ?_);exact fun q=>absurd (wV (wX q.symm) (Nat.sub_le_sub_right (wV (Nat.min_le_right _ _) (Nat.le_of_lt_succ ‹its.length<34›)) 17)) (by decide)
        refine ah (if_neg hl) ?_;exact wpAny_pure (.inr ⟨d,i+1,by exact wV hi (w9 _ _),by exact hlt,rfl,rfl,hR⟩)
      · rw [List.drop_of_length_le hge] at hr;cases hr
  · rintro b s' (⟨i,hi,hr,rfl,rfl⟩ | ⟨d,i,hi,hi2,hr,rfl,hR⟩)
    · have:=congrArg List.length hr;simp at this;exact absurd (Nat.le_of_sub_eq_zero this.symm) (xn (Nat.lt_trans hi h17))
    · have hie:i=its.length:=by have:=congrArg List.length hr;simp at this;exact ac (Eq.symm this) hi2
      subst hie;refine ah List.take_length ?_;have hne:(its.drop 17).isEmpty=false:=by
        rw [List.isEmpty_eq_false_iff];intro q;have:=congrArg List.length q;rw [List.length_drop] at this;exact absurd (Nat.le_of_sub_eq_zero this) (xn h17)
      dsimp only;simp only [hne,Bool.false_eq_true,if_false];refine wpAny_bind (wpAny_bind (wpAny_holding (wpAny_mono (h2 d s' hR) (fun sub s₂ h₂=> ?_) fun _ _ x=>x)));refine wpAny_bind (wpAny_onRaise (wpAny_holding (wpAny_mono (h₂ _) (fun _ s₃ h₃=>wpAny_pure (wpAny_pure h₃)) fun _ _ x=>x)))
end
section
variable {B:Bs}{n:Nat}{m:ax}{Q:V→AH→Prop}{E:Str→AH→Prop}{σ:AH}
noncomputable def rK (B:Bs)(Γ:Fc)(A:Around)(p:Sem Value×Sem Value)(q:Str×V):Prop:=
  (∀(s:Shared) (P E':Value→Shared→Prop),(∀t tk,P (.str q.1 t) {s with toks:=tk})→wpAny B.M A p.1 P E' s)∧
  (∀(T:TM) (mc kc:Str→Option Value) (σ:AH) (s:Shared) (P E':Value→Shared→Prop),S B Γ T mc kc σ s→(∀w,RV T q.2 w→P w s)→wpAny B.M A p.2 P E' s)
noncomputable def ci (B:Bs)(Γ:Fc)(A:Around):List (Sem Value×Sem Value)→List (Str×V)→Prop
  | [],[]=>True
  | p::ps,q::qs=>rK B Γ A p q∧ci B Γ A ps qs
  | _,_=>False
theorem ci.len {Γ:Fc}{A:Around}:∀{ps:List (Sem Value×Sem Value)} {qs:List (Str×V)},ci B Γ A ps qs→ps.length=qs.length
  | [],[],_=>rfl
  | _::_,_::_,h=>by exact ah List.length_cons (ah List.length_cons (ah (ci.len h.2) rfl))
  | [],_::_,h=>h.elim
  | _::_,[],h=>h.elim
theorem ci.take {Γ:Fc}{A:Around}:∀(i:Nat) {ps:List (Sem Value×Sem Value)} {qs:List (Str×V)},ci B Γ A ps qs→ci B Γ A (ps.take i) (qs.take i)
  | 0,_,_,_=>trivial
  | i+1,[],[],_=>trivial
  | i+1,_::_,_::_,h=>⟨h.1,ci.take i h.2⟩
  | _,[],_::_,h=>h.elim
  | _,_::_,[],h=>h.elim
theorem ci.drop {Γ:Fc}{A:Around}:∀(i:Nat) {ps:List (Sem Value×Sem Value)} {qs:List (Str×V)},ci B Γ A ps qs→ci B Γ A (ps.drop i) (qs.drop i)
  | 0,_,_,h=>h
  | i+1,[],[],_=>trivial
  | i+1,_::_,_::_,h=>ci.drop i h.2
  | _,[],_::_,h=>h.elim
  | _,_::_,[],h=>h.elim
theorem jZ {Γ:Fc}{A:Around}{T:TM}{mc kc:Str→Option Value}{s:Shared}{d:Addr}{es:List (Str×V)}{k:Str}{t:Tok}{v:V}{w:Value}{P:Unit→Shared→Prop}{E':Value→Shared→Prop}(G:FcOk B Γ)(HS:S B Γ T mc kc σ s)
    (e:σ d=some (.sdict es)) (hf:∀x∈es,x.1≠k) (hz:es.length≤1000) (hv:RV T v w) (kk:∀s',S B Γ T mc kc (σ.set d (.sdict (es++[(k,v)]))) s'→P () s'):wpAny B.M A (dictSet d (.str k t) w) P E' s:=by
  obtain ⟨own,dof,I,hm⟩:=id HS;refine et ?_ (I.ob d _ e);intro ha ks d1 hr hz' hne1;have hl:=dU.length hr;refine bJ ?_ (id d1);intro ob de dp z1 z2 z3 _;refine wpAny_dictSet_pairs (knd:=strKind B.prog B.w) (k:=k) (hsz:=by refine ah hl (ah sizeLine_eq ?_);exact wV hz (wW rfl)) (strKind_is _ _ _ _) d1 fun h' d2 hs'=> ?_;have hst:stored ks k w=ks++[(k,w)]:=by
    unfold stored;rw [if_neg];intro q;rw [kY k hr] at q;rw [List.any_eq_true] at q;refine aY ?_ q;clear q;intro x hx he;exact hf x hx (of_decide_eq_true he)
  rw [hst] at d2;refine bJ ?_ (id d2);intro ob' de' dp' y1 y2 y3 _;exact kk _ ⟨own,dof,I.upd e rfl rfl (fun _=>rfl) ha hs' z1 (.inr ⟨z2.1,rfl⟩) (by intro u z;rw [z3] at z;cases z) y1 (by intro u z;rw [y3] at z;cases z) ⟨ha,_,d2,f9 hv hr,by refine ah List.length_append (ah sizeLine_eq ?_);simp;exact wV hz (wW rfl),hne1⟩,hm⟩
theorem md {Γ:Fc}{T:TM}{mc kc:Str→Option Value}{s:Shared}(G:FcOk B Γ)(HS:S B Γ T mc kc σ s):σ s.heap.objs.size=none∧S B Γ T mc kc (σ.set s.heap.objs.size (.sdict [])) {s with heap:=s.heap.push {cls:= .type "dict",data:= .dict #[]}}:=by
  obtain ⟨own,dof,I,hm⟩:=id HS;refine dc ?_ (I.freshA G ({cls:= .type "dict",data:= .dict #[]}) rfl (by intro v z;cases z) (S.size G I));intro I' hσ hT;have h1:=S.size G I;refine⟨hσ,_,dof,I'.track (o:= .sdict []) ⟨.head _,[],Heap.DictOf.new _,rfl,by simp,Nat.ne_of_gt h1⟩ rfl (fun b o' h2 h3 _ q=> ?_),hm⟩
  cases o' with
  | inst Cc ats=>
    refine d9 ?_ (I.ob b _ h2);intro _ _ _ es k h4 _;rw [q] at h4;exact absurd (xf h4) (xl _)
  | _=>exact ft h3
theorem io {es more:List (Str×V)}{p:Str×V}(h:((es++p::more).map (·.1)).Nodup):∀x∈es,x.1≠p.1:=fun x hx q=>by
  rw [List.map_append,List.nodup_append] at h;exact h.2.2 x.1 (List.mem_map.mpr ⟨x,hx,rfl⟩) p.1 (by simp) q
theorem fB {Γ:Fc}{A:Around}{T:TM}{mc kc:Str→Option Value}{d:Addr}(G:FcOk B Γ):∀(qs es:List (Str×V)) (vs:List (Value×Value)) (σ:AH) (s:Shared) {P:PUnit→Shared→Prop} {E':Value→Shared→Prop},S B Γ T mc kc σ s→σ d=some (.sdict es)→((es++qs).map (·.1)).Nodup→(es++qs).length≤1000→
    (vs.length=qs.length∧∀i (h1:i<vs.length) (h2:i<qs.length),(∃t,vs[i].1= .str qs[i].1 t)∧RV T qs[i].2 vs[i].2)→
    (∀s',S B Γ T mc kc (σ.set d (.sdict (es++qs))) s'→P PUnit.unit s')→
    wpAny B.M A (forIn vs PUnit.unit fun(x:Value×Value) (_:PUnit)=>(do dictSet d x.1 x.2;pure (ForInStep.yield PUnit.unit):Sem (ForInStep PUnit))) P E' s
  | [],es,vs,σ,s,P,E',HS,e,hnd,hz,⟨hl,hv⟩,k=>by
    have:vs=[]:=List.length_eq_zero_iff.mp hl;subst this;refine ah List.forIn_nil ?_;have hσ:σ.set d (.sdict (es++[]))=σ:=by
      rw [List.append_nil];funext b;unfold AH.set;split
      · rename_i q;exact ah q (ah e rfl)
      · rfl
    rw [hσ] at k;exact wpAny_pure (k s HS)
  | q::qs,es,vs,σ,s,P,E',HS,e,hnd,hz,⟨hl,hv⟩,k=>by
    cases vs with
    | nil=>cases hl
    | cons v vs=>
      refine uA ?_ (hv 0 (by simp) (by simp));refine uE ?_;intro t h1 h2;simp only [List.getElem_cons_zero] at h1 h2;rw [List.forIn_cons];refine wpAny_bind (wpAny_bind ?_);refine ah h1 ?_;refine jZ G HS e (io hnd) (by simp at hz;exact wV (w9 _ _) hz) h2 fun s' HS'=>wpAny_pure ?_;refine fB G qs (es++[(q.1,q.2)]) vs _ s' HS' (wq _ _ _) (by simpa using hnd) (by simpa using hz) ⟨by simpa using hl,fun i g1 g2=>hv (i+1) (by simpa using g1) (by simpa using g2)⟩ fun s'' HS''=>k s'' ?_
      rw [wt] at HS''
      simpa using HS''
theorem ij {Γ:Fc}{A:Around}{T:TM}{mc kc:Str→Option Value}:∀(ps:List (Sem Value×Sem Value)) (qs:List (Str×V)) (σ:AH) (s:Shared) {P:List (Value×Value)→Shared→Prop} {E':Value→Shared→Prop},ci B Γ A ps qs→S B Γ T mc kc σ s→
    (∀vs tk,(vs.length=qs.length∧∀i (h1:i<vs.length) (h2:i<qs.length),(∃t,vs[i].1= .str qs[i].1 t)∧RV T qs[i].2 vs[i].2)→P vs {s with toks:=tk})→wpAny B.M A (evalPairs ps) P E' s
  | [],[],σ,s,P,E',_,HS,k=>evalPairs_nil (k [] s.toks ⟨rfl,fun i h=>absurd h (xh _)⟩)
  | p::ps,q::qs,σ,s,P,E',h,HS,k=>by
    refine evalPairs_cons (h.1.1 s _ _ fun t tk=> ?_);refine h.1.2 T mc kc σ _ _ _ (HS.toks tk) fun w hw=> ?_;refine ij ps qs σ _ h.2 (HS.toks tk) fun vs tk2 ⟨hl,hv⟩=> ?_;refine k (_::vs) tk2 ⟨by simp [hl],fun i h1 h2=> ?_⟩
    cases i with
    | zero=>exact⟨⟨t,rfl⟩,hw⟩
    | succ i=>exact hv i (by simpa using h1) (by simpa using h2)
  | [],_::_,_,_,_,_,h,_,_=>h.elim
  | _::_,[],_,_,_,_,h,_,_=>h.elim
theorem kq {Γ:Fc}{A:Around}{T:TM}{mc kc:Str→Option Value}{s:Shared}{ps:List (Sem Value×Sem Value)}{qs:List (Str×V)}{P:Addr→Shared→Prop}{E':Value→Shared→Prop}(G:FcOk B Γ)(HS:S B Γ T mc kc σ s)(h:ci B Γ A ps qs)(hnd:(qs.map (·.1)).Nodup)(hz:qs.length≤1000)
    (k:∀d s',σ d=none→S B Γ T mc kc (σ.set d (.sdict qs)) s'→P d s'):wpAny B.M A (subDict ps) P E' s:=by
  refine uA ?_ (md G HS);intro hd HS';have hlen:=h.len;refine wpAny_bind (wpAny_alloc ?_);refine wpAny_bind (wpAny_holding ?_)
  by_cases hl:ps.length≤15
  · refine ah (if_pos hl) ?_;refine wpAny_bind (ij ps qs _ _ h HS' fun vs tk hvs=> ?_);refine wpAny_holding ?_;refine wpAny_bind (fB G qs [] vs _ _ (HS'.toks tk) (wq _ _ _) (by simpa using hnd) (by simpa using hz) hvs fun s'' HS''=>wpAny_pure (wpAny_pure ?_));rw [wt] at HS'';exact k _ _ hd (by simpa using HS'')
  · refine ah (if_neg hl) ?_;refine wpAny_bind (wpAny_rule ?_);refine wpAny_bind (wpAny_mono (Q:=fun _ s'=>P s.heap.objs.size s') (wpAny_forIn_list _ (fun rest _ s'=>∃i,i≤ps.length∧rest=ps.drop i∧S B Γ T mc kc (σ.set s.heap.objs.size (.sdict (qs.take i))) s') (fun _ s'=>P s.heap.objs.size s') ?_ ?_ ps PUnit.unit ⟨0,xd _,rfl,by simpa using HS'⟩) (fun _ _ x=>wpAny_pure (wpAny_pure x)) fun _ _ x=>x)
    · intro x rest b s';refine bI ?_;intro i hi hr HSi
      rcases Nat.lt_or_ge i ps.length with hlt | hge
      · rw [List.drop_eq_getElem_cons hlt] at hr;refine uA ?_ (List.cons.inj hr);rintro rfl rfl;have hq:i<qs.length:=pE hlen hlt;have hp:=(h.drop i);rw [List.drop_eq_getElem_cons hlt,List.drop_eq_getElem_cons hq] at hp;have hsplit:qs.take i++qs[i]::qs.drop (i+1)=qs:=by refine ch (List.drop_eq_getElem_cons hq) ?_;rewrite [List.take_append_drop];rfl
        refine wpAny_bind (hp.1.1 s' _ _ fun t tk=> ?_);refine wpAny_bind (wpAny_holding (hp.1.2 T mc kc _ _ _ _ (HSi.toks tk) fun w hw=> ?_));refine wpAny_bind (wpAny_holding (jZ G (HSi.toks tk) (wq _ _ _) (io (more:=qs.drop (i+1)) (by refine ah hsplit ?_;exact hnd)) (by refine ah List.length_take ?_;exact wV (Nat.min_le_right _ _) hz) hw fun s'' HS''=>wpAny_pure ⟨i+1,hlt,rfl, ?_⟩));rw [wt] at HS'';refine ch (List.take_append_getElem hq) ?_;exact HS''
      · rw [List.drop_of_length_le hge] at hr;cases hr
    · intro b s';refine bI ?_;intro i hi hr HSi;have hie:i=ps.length:=by have:=congrArg List.length hr;simp at this;exact ac (Eq.symm this) hi
      subst hie;rw [List.take_of_length_le (wV (wX rfl) (wX hlen.symm))] at HSi;exact k _ _ hd HSi
inductive sP (m:ax):List (Option Expr)→List Expr→List (Str×V)→Prop
  | nil:sP m [] [] []
  | cons {k x:Str} {kd:Nat} {p px:Pos} {f:V} {ks vs l} (hx:lk m x=some (.glob f)) (h:sP m ks vs l):sP m (some (.Constant (.str k) kd p)::ks) (.Name x px::vs) ((k,f)::l)
theorem sv {Γ:Fc}{A:Around}{T:TM}{mc kc:Str→Option Value}(G:FcOk B Γ)(HL:bT B Γ T mc kc m)(pos:Pos){keys:List (Option Expr)}{values:List Expr}{l:List (Str×V)}(h:sP m keys values l):
    ∃ps,(evalEachOpt keys Γ.env).zip ((evalEach values Γ.env).map fun v=>do let x ←v;standAt pos;pure x)=ps.map (fun p=>(some p.1,p.2))∧ci B Γ A ps l:=by
  induction h with
  | nil=>exact⟨[],rfl,trivial⟩
  | @cons k x kd p px f ks vs l hx h ih=>
    refine aY ?_ ih;clear ih;intro ps h2 h3;refine⟨(eval (.Constant (.str k) kd p) Γ.env,do let x ←eval (.Name x px) Γ.env;standAt pos;pure x)::ps, ?_,⟨fun s P E' hP=>wpAny_Constant_str (k:=kd) (pos:=p) (env:=Γ.env) (hP _ _),fun T' mc' kc' σ' s P E' HS hP=> ?_⟩,h3⟩
    · rewrite [List.map_cons,←h2];rfl
    · refine dc ?_ (HL x _ hx);intro hd hk;refine aY ?_;intro cv hv hg;obtain ⟨own,dof,I,hm⟩:=HS;have T₀:=G.stat.t;have q:wpAny B.M A (standAt pos>>=fun _=>pure cv) P E' s:=wpAny_bind (wpAny_standAt (wpAny_pure (hP _ (hv T'))));refine wpAny_bind ?_
      rcases hg with hg | ⟨h1,h2,h3⟩
      · exact Name_function_global G.kind hk (loadGlobal_global (by refine ah G.glb ?_;exact T₀.g.keeps I.keep) (mg_of G.stat.k T₀.g hg) q) hd
      · exact Name_function_global G.kind hk (loadGlobal_builtin (by refine ah G.glb ?_;exact T₀.g.keeps I.keep) (mg_none_of G.stat.k T₀.g h1) (by refine ah G.blt ?_;exact T₀.b.keeps I.keep) ((T₀.builtins x h3).trans h2) q) hd
theorem lw {keys:List (Option Expr)}{values:List Expr}{pos:Pos}{l:List (Str×V)}(hk:sP m keys values l)(h17:17<l.length)(h34:l.length<34)(hnd:(l.map (·.1)).Nodup)(q:∀d σ',aH σ σ'→σ d=none→σ' d=some (.sdict l)→Q (.ref d) σ'):EV B n m (.Dict keys values pos) Q E σ:=by
  intro Γ A T mc kc s G HA HS HL;refine aY ?_ (sv (A:=A) G HL pos hk);intro ps h1 h2;have hlen:=h2.len;rewrite [arm_eval_Dict];refine ah h1 ?_;have hsplit:l.take 17++l.drop 17=l:=List.take_append_drop 17 l;have hnd2:((l.take 17++l.drop 17).map (·.1)).Nodup:=by refine ah hsplit ?_;exact hnd
  refine wpAny_bind (wpAny_standAt (kO (og hlen h17) (wZ (wX hlen) h34) (kq (P:=fun d s'=>σ d=none∧S B Γ T mc kc (σ.set d (.sdict (l.take 17))) s') G HS (h2.take 17) (hnd.sublist ((List.take_sublist _ _).map _)) (by refine ah List.length_take ?_;exact wV (wV (Nat.min_le_left _ _) (w6 _)) (wW rfl)) fun d s' g1 g2=>⟨g1,g2⟩) ?_));intro d s';refine uA ?_;intro hd HS';refine kq G HS' (h2.drop 17) (hnd.sublist ((List.drop_sublist _ _).map _)) (by refine ah List.length_drop ?_;exact wV (wV (Nat.sub_le _ _) (wY h34)) (wW rfl)) fun d2 s₂ hd2 HS₂ E'=> ?_;have hne:d≠d2:=fun q=>by rw [←q,wq] at hd2;exact sn hd2
  obtain ⟨own,dof,I,hm⟩:=id HS₂;have e1:((σ.set d (.sdict (l.take 17))).set d2 (.sdict (l.drop 17))) d=some (.sdict (l.take 17)):=(wp hne).trans (wq _ _ _);have e2:((σ.set d (.sdict (l.take 17))).set d2 (.sdict (l.drop 17))) d2=some (.sdict (l.drop 17)):=wq _ _ _;refine et ?_ (I.ob d _ e1);intro ha ks1 d1 r1 z1 ne1;refine et ?_ (I.ob d2 _ e2);intro ha2 ks2 dd2 r2 z2 ne2;have hk1:=dU.length r1;have hk2:=dU.length r2;have keysOf:∀{xs:List (Str×V)} {zs:List (Str×Value)},dU T xs zs→zs.map (·.1)=xs.map (·.1):=by
    intro xs
    induction xs with
    | nil=>intro zs h;cases h;rfl
    | cons x xs ih=>intro zs h;refine cg ?_ h;clear h;rintro v r rfl _ hr;simp [ih hr]
  have happ:∀{xs ys:List (Str×V)} {zs ws:List (Str×Value)},dU T xs zs→dU T ys ws→dU T (xs++ys) (zs++ws):=by
    intro xs
    induction xs with
    | nil=>intro ys zs ws h h';cases h;exact h'
    | cons x xs ih=>intro ys zs ws h h';refine cg ?_ h;clear h;rintro v r rfl hv hr;exact⟨v,_,rfl,hv,ih hr h'⟩
  rw [List.length_take] at hk1;rw [List.length_drop] at hk2;refine bJ ?_ (id d1);intro ob de dp y1 y2 y3 _;refine oQ (knd:=strKind B.prog B.w) hne (by simp only [beq_eq_false_iff_ne,ne_eq];exact ne2) d1 dd2 (fun q=>by rw [q] at hk1;simp at hk1;exact Nat.ne_of_lt (ag (wW rfl) (wZ (wW rfl) h17)) hk1) (by refine ah List.map_append (ah (keysOf r1) (ah (keysOf r2) (ch List.map_append ?_)));exact hnd2) (by refine ah sizeLine_eq ?_;exact wV (Nat.add_le_add (wV (wX hk1) (wV (Nat.min_le_left _ _) (w6 _))) (wV (wX hk2) (wV (Nat.sub_le _ _) (wY h34)))) (wW rfl)) fun h' d3 d4 hs'=> ?_
  refine bJ ?_ (id d3);intro ob' de' dp' x1 x2 x3 _;refine⟨T,((σ.set d (.sdict (l.take 17))).set d2 (.sdict (l.drop 17))).set d (.sdict l), .ref d,cC.refl T,⟨own,dof,I.upd e1 rfl rfl (fun _=>rfl) ha hs' y1 (.inr ⟨y2.1,rfl⟩) (by intro u z;rw [y3] at z;cases z) x1 (by intro u z;rw [x3] at z;cases z) ⟨ha,_,d3, ?_,by refine ah sizeLine_eq ?_;exact wV (wY h34) (wW rfl),ne1⟩,hm⟩,rfl,q d _ ?_ hd (wq _ _ _)⟩
  · have:=happ r1 r2;rw [hsplit] at this;exact this
  · intro a o e;have n1:a≠d:=fun q=>by rw [q,hd] at e;exact nn e
    have n2:a≠d2:=fun q=>by rw [wp (Ne.symm hne)] at hd2;rw [q,hd2] at e;exact nn e
    refine ah (wp n1) (ah (wp n2) (ah (wp n1) ?_));exact e
end
end
section
open Lean
local macro_rules | `(tactic| walk_at "u1") => do
  let f:=fun(s:String)=>mkIdent (mkPrivateNameCore `PySem.Builtin.List.W1All (`PySem.Builtin++s.toName))
  `(tactic| unfold $(f "gallop"))
noncomputable abbrev KD:=PyProof.Rows.Keyed
noncomputable def nI:Bool→KD→Array KD→Nat→Nat→Nat→StateT SortSt Sem (Option Nat):=sortPriv%PySem.Builtin.gallop
noncomputable def IK (p:KD):Prop:=∃n t,p.1= .int n t
section
variable {prog:Program}{w:World}{A:Around}{E:Value→Shared→Prop}{s:Shared}
theorem kT {x y:KD}{st:SortSt}{Q:Option Bool→SortSt→Prop}(hx:IK x)(hy:IK y)(hk:kindOf st=oneType')(h:∀b,Q (some b) st):wpS (model prog w) A E s (lt' x y) Q st:=by
  obtain ⟨⟨xv,xp⟩,⟨yv,yp⟩⟩:=(⟨x,y⟩:KD×KD);refine eu ?_ hx;clear hx;intro a t hx;refine eu ?_ hy;clear hy;intro b u hy;rw [lt'_eq];refine wpS_bind (wpS_get ?_);refine ah hk ?_;rewrite [keyLt'_oneType];refine ah hx (ah hy ?_);refine wpS_bind (wpS_lift (wpAny_attempt (oneLt_int ⟨rfl, ?_⟩)));exact wpS_pure (h _)
theorem gq {arr:Array KD}{i:Nat}{st:SortSt}{Q:KD→SortSt→Prop}(hi:i<arr.size)(h:Q (arr[i]'hi) st):wpS (model prog w) A E s (elem' arr i) Q st:=by
  rewrite [elem'_eq];refine ah (getElem?_pos arr i hi) ?_;exact wpS_pure h
theorem bC {α σ:Type}{c:Prop}[Decidable c]{M:Model}{a b:StateT σ Sem α}{Q:α→σ→Prop}{st:σ}(h1:c→wpS M A E s a Q st)(h2:¬c→wpS M A E s b Q st):wpS M A E s (if c then a else b) Q st:=by
  split
  · exact h1 ‹_›
  · exact h2 ‹_›
theorem mJ {left:Bool}{key:KD}{arr:Array KD}{i:Nat}{st:SortSt}{Q:Option Bool→SortSt→Prop}(hi:i<arr.size)(hx:IK key)(hy:IK (arr[i]'hi))(hk:kindOf st=oneType')(h:∀b,Q (some b) st):
    wpS (model prog w) A E s (do let x ←elem' arr i;if left=true then lt' x key else do let r ←lt' key x;pure (Option.map (fun x=> !x) r)) Q st:=by
  refine wpS_bind (gq hi ?_);refine bC (fun _=>kT hy hx hk h) fun _=>wpS_bind (kT hx hy hk fun b=>wpS_pure (h _))
theorem mX {left:Bool}{key:KD}{arr:Array KD}{base n hint:Nat}{st:SortSt}{Q:Option Nat→SortSt→Prop}(hx:IK key)(hy:∀i,i<n→∃h:base+i<arr.size,IK (arr[base+i]'h))(hh:hint<n)(hk:kindOf st=oneType')(h:∀k,k≤n→Q (some k) st):
    wpS (model prog w) A E s (nI left key arr base n hint) Q st:=by
  have hb:∀{i:Nat} {Q':Option Bool→SortSt→Prop},i<n→(∀b,Q' (some b) st)→wpS (model prog w) A E s (do let x ←elem' arr (base+i);if left=true then lt' x key else do let r ←lt' key x;pure (Option.map (fun x=> !x) r)) Q' st:=by
    intro i Q' hi hq;refine uE ?_ (hy i hi);intro h1 h2;exact mJ h1 hx h2 hk hq
  unfold nI;walk_at "u1";refine wpS_bind (hb hh fun b=> ?_);refine bC (fun _=> ?_) fun _=> ?_
  · refine wpS_bind (wpS_mono (wpS_forRange (I:=fun _ c st'=>st=st'∧∃lo hi,c=(none,lo,hi)) (Q:=fun c st'=>st=st'∧∃lo hi,c=(none,lo,hi)) ?_ (fun _ _ x=>x) ⟨rfl,_,_,rfl⟩) ?_)
    · intro i c st' _ hi;refine oZ ?_;rintro rfl lo hi rfl;refine bC (fun _=>wpS_pure ⟨rfl,_,_,rfl⟩) fun hlt=>wpS_bind (hb (by dsimp only at hlt⊢;exact Nat.add_lt_of_lt_sub' ((xq hlt))) fun b=> ?_);refine bC (fun _=>wpS_pure ⟨rfl,_,_,rfl⟩) fun _=>wpS_pure ⟨rfl,_,_,rfl⟩
    · intro c st';refine oZ ?_;rintro rfl lo hi rfl;refine wpS_bind (wpS_mono (wpS_forRange (I:=fun _ c st'=>st=st'∧∃lo hi,c=(none,lo,hi)∧hi≤n) (Q:=fun c st'=>st=st'∧∃lo hi,c=(none,lo,hi)∧hi≤n) ?_ (fun _ _ x=>x) ⟨rfl,_,_,rfl,by lia⟩) ?_)
      · intro i c st' _ hi;refine kr ?_;rintro rfl lo hi rfl hle;refine bC (fun _=>wpS_pure ⟨rfl,_,_,rfl,hle⟩) fun hlt=>wpS_bind (hb (by dsimp only at hlt⊢;lia) fun b=> ?_);refine bC (fun _=>wpS_pure ⟨rfl,_,_,rfl,hle⟩) fun _=>wpS_pure ⟨rfl,_,_,rfl,by dsimp only at hlt⊢;lia⟩
      · intro c st';refine kr ?_;rintro rfl lo hi rfl hle;exact wpS_pure (h _ hle)
  · refine wpS_bind (wpS_mono (wpS_forRange (I:=fun _ c st'=>st=st'∧∃lo hi,c=(none,lo,hi)) (Q:=fun c st'=>st=st'∧∃lo hi,c=(none,lo,hi)) ?_ (fun _ _ x=>x) ⟨rfl,_,_,rfl⟩) ?_)
    · intro i c st' _ hi;refine oZ ?_;rintro rfl lo hi rfl;refine bC (fun _=>wpS_pure ⟨rfl,_,_,rfl⟩) fun hlt=>wpS_bind (hb (by dsimp only at hlt⊢;exact wZ (Nat.sub_le _ _) hh) fun b=> ?_);refine bC (fun _=>wpS_pure ⟨rfl,_,_,rfl⟩) fun _=>wpS_pure ⟨rfl,_,_,rfl⟩
    · intro c st';refine oZ ?_;rintro rfl lo hi rfl;refine wpS_bind (wpS_mono (wpS_forRange (I:=fun _ c st'=>st=st'∧∃lo hi,c=(none,lo,hi)∧hi≤n) (Q:=fun c st'=>st=st'∧∃lo hi,c=(none,lo,hi)∧hi≤n) ?_ (fun _ _ x=>x) ⟨rfl,_,_,rfl,wY (wZ (Nat.sub_le _ _) hh)⟩) ?_)
      · intro i c st' _ hi;refine kr ?_;rintro rfl lo hi rfl hle;refine bC (fun _=>wpS_pure ⟨rfl,_,_,rfl,hle⟩) fun hlt=>wpS_bind (hb (by dsimp only at hlt⊢;lia) fun b=> ?_);refine bC (fun _=>wpS_pure ⟨rfl,_,_,rfl,hle⟩) fun _=>wpS_pure ⟨rfl,_,_,rfl,by dsimp only at hlt⊢;lia⟩
      · intro c st';refine kr ?_;rintro rfl lo hi rfl hle;exact wpS_pure (h _ hle)
end
end
section
open Lean
local macro_rules | `(tactic| walk_at "u1") => do
  let f:=fun(s:String)=>mkIdent (mkPrivateNameCore `PySem.Builtin.List.W1All (`PySem.Builtin++s.toName))
  `(tactic| unfold $(f "mergeLo"))
local macro_rules | `(tactic| walk_at "u2") => do
  let f:=fun(s:String)=>mkIdent (mkPrivateNameCore `PySem.Builtin.List.W1All (`PySem.Builtin++s.toName))
  `(tactic| unfold $(f "mergeHi"))
local macro_rules | `(tactic| walk_at "u3") => do
  let f:=fun(s:String)=>mkIdent (mkPrivateNameCore `PySem.Builtin.List.W1All (`PySem.Builtin++s.toName))
  `(tactic| unfold $(f "setMinGallop"))
noncomputable def l9:Array KD→Array KD→StateT SortSt Sem (Array KD):=sortPriv%PySem.Builtin.mergeLo
noncomputable def l7:Array KD→Array KD→StateT SortSt Sem (Array KD):=sortPriv%PySem.Builtin.mergeHi
noncomputable def qc:Nat→StateT SortSt Sem Unit:=sortPriv%PySem.Builtin.setMinGallop
noncomputable def Sg (st st':SortSt):Prop:=∃g,st'=SortSt.mk' (PyProof.Rows.kindOf st) (arrOf st) (pendingOf st) g (failedOf st)
theorem Sg.refl (st:SortSt):Sg st st:=⟨gallopOf st,rfl⟩
theorem Sg.set {st st':SortSt}(h:Sg st st')(g:Nat):Sg st (SortSt.mk' (PyProof.Rows.kindOf st') (arrOf st') (pendingOf st') g (failedOf st')):=by
  refine uE ?_ h;clear h;rintro g' rfl;exact⟨g,rfl⟩
noncomputable def AG (G:KD→Prop)(a:Array KD):Prop:=∀p∈a.toList,G p
section
variable {G:KD→Prop}{a b c:Array KD}
theorem AG.at (h:AG G a){i:Nat}(hi:i<a.size):G (a[i]'hi):=h _ (by simp)
theorem AG.push (h:AG G a){p:KD}(hp:G p):AG G (a.push p):=fun q hq=>by
  rw [Array.toList_push] at hq
  exact(List.mem_append.mp hq).elim (h q) fun hq=>List.mem_singleton.mp hq▸hp
theorem AG.app (h:AG G a)(h2:AG G b):AG G (a++b):=fun q hq=>by
  rw [Array.toList_append] at hq
  exact(List.mem_append.mp hq).elim (h q) (h2 q)
theorem AG.ext (h:AG G a)(i j:Nat):AG G (a.extract i j):=fun q hq=>by
  rw [Array.toList_extract] at hq;exact h q (List.mem_of_mem_drop (List.mem_of_mem_take hq))
theorem AG.rev (h:AG G a):AG G a.reverse:=fun q hq=>by
  rw [Array.toList_reverse] at hq;exact h q (List.mem_reverse.mp hq)
theorem AG.one {p:KD}(h:G p):AG G #[p]:=fun _ hq=>List.mem_singleton.mp hq▸h
theorem AG.all3 (h:AG G a)(h2:AG G b)(h3:AG G c){i j k l:Nat}:AG G (a++b.extract i j++c.extract k l):=(h.app (h2.ext _ _)).app (h3.ext _ _)
theorem AG.all3r (h:AG G a)(h2:AG G b)(h3:AG G c){i j k l:Nat}:AG G (b.extract i j++c.extract k l++a.reverse):=((h2.ext _ _).app (h3.ext _ _)).app h.rev
end
structure JL (G:KD→Prop)(a b:Array KD)(st:SortSt)(N:Nat)(out:Array KD)(ia ib:Nat)(st':SortSt):Prop where
  sg:Sg st st'
  go:AG G out
  ha:ia+1<a.size
  hb:ib<b.size
  hN:N≤ia+ib
noncomputable def WL {τ:Type}(G:KD→Prop)(a b:Array KD)(st:SortSt)(N:Nat)(c:Option (Array KD)×Array KD×Nat×Nat×τ)(st':SortSt):Prop:=
  (∃R,c.1=some R∧AG G R∧Sg st st')∨(c.1=none∧JL G a b st N c.2.1 c.2.2.1 c.2.2.2.1 st')
structure JH (G:KD→Prop)(a b:Array KD)(st:SortSt)(N:Nat)(out:Array KD)(na nb:Nat)(st':SortSt):Prop where
  sg:Sg st st'
  go:AG G out
  a1:1≤na
  ha:na≤a.size
  b1:2≤nb
  hb:nb≤b.size
  hN:N+na+nb≤a.size+b.size
noncomputable def WH {τ:Type}(G:KD→Prop)(a b:Array KD)(st:SortSt)(N:Nat)(c:Option (Array KD)×Nat×Nat×Array KD×τ)(st':SortSt):Prop:=
  (∃R,c.1=some R∧AG G R∧Sg st st')∨(c.1=none∧JH G a b st N c.2.2.2.1 c.2.1 c.2.2.1 st')
theorem Sg.kind {st st':SortSt}(h:Sg st st')(hk:PyProof.Rows.kindOf st=oneType'):PyProof.Rows.kindOf st'=oneType':=by
  refine uE ?_ h;clear h;rintro g rfl;exact hk
section
variable {prog:Program}{w:World}{A:Around}{E:Value→Shared→Prop}{s:Shared}
theorem qe {g:Nat}{st:SortSt}{Q:Unit→SortSt→Prop}(h:Q () (SortSt.mk' (PyProof.Rows.kindOf st) (arrOf st) (pendingOf st) g (failedOf st))):wpS (model prog w) A E s (qc g) Q st:=by
  unfold qc;walk_at "u3";exact wpS_modify h
theorem pX {r:String}{st:SortSt}{Q:Unit→SortSt→Prop}(h:Q () st):wpS (model prog w) A E s (liftM (rule r):StateT SortSt Sem Unit) Q st:=
  wpS_lift (wpAny_rule ⟨rfl,h⟩)
theorem oU {g:Nat}{st st1:SortSt}{Q:Unit→SortSt→Prop}(h1:Sg st st1)(h:∀st2,Sg st st2→Q () st2):wpS (model prog w) A E s (qc g) Q st1:=qe (h _ (h1.set g))
theorem ce {arr:Array KD}{i:Nat}{st:SortSt}{β:Type}{f:KD→StateT SortSt Sem β}{Q:β→SortSt→Prop}(hi:i<arr.size)(h:wpS (model prog w) A E s (f (arr[i]'hi)) Q st):wpS (model prog w) A E s ((sortPriv%PySem.Builtin.elem) arr i>>=f) Q st:=wpS_bind (gq hi h)
theorem te {x y:KD}{st0 st:SortSt}{β:Type}{f:Option Bool→StateT SortSt Sem β}{Q:β→SortSt→Prop}(hx:IK x)(hy:IK y)(sg:Sg st0 st)(hk:PyProof.Rows.kindOf st0=oneType')(h:∀b,wpS (model prog w) A E s (f (some b)) Q st):wpS (model prog w) A E s ((sortPriv%PySem.Builtin.lt) x y>>=f) Q st:=wpS_bind (kT hx hy (sg.kind hk) h)
theorem lf {g:Nat}{st st1:SortSt}{β:Type}{f:Unit→StateT SortSt Sem β}{Q:β→SortSt→Prop}(h1:Sg st st1)(h:∀st2,Sg st st2→wpS (model prog w) A E s (f ()) Q st2):wpS (model prog w) A E s ((sortPriv%PySem.Builtin.setMinGallop) g>>=f) Q st1:=wpS_bind (oU h1 h)
theorem eA {left:Bool}{key:KD}{arr:Array KD}{base n hint:Nat}{st0 st:SortSt}{β:Type}{f:Option Nat→StateT SortSt Sem β}{Q:β→SortSt→Prop}(hx:IK key)(ka:∀i (h:i<arr.size),IK (arr[i]'h))(hsz:base+n≤arr.size)(hh:hint<n)(sg:Sg st0 st)(hk:PyProof.Rows.kindOf st0=oneType')(h:∀k,k≤n→wpS (model prog w) A E s (f (some k)) Q st):
    wpS (model prog w) A E s ((sortPriv%PySem.Builtin.gallop) left key arr base n hint>>=f) Q st:=wpS_bind (mX hx (fun i hi=>⟨w0 (Nat.add_lt_add_left hi _) hsz,ka _ (w0 (Nat.add_lt_add_left hi _) hsz)⟩) hh (sg.kind hk) h)
theorem gS {r:String}{st:SortSt}{β:Type}{f:Unit→StateT SortSt Sem β}{Q:β→SortSt→Prop}(h:wpS (model prog w) A E s (f ()) Q st):wpS (model prog w) A E s ((liftM (rule r):StateT SortSt Sem Unit)>>=f) Q st:=wpS_bind (pX h)
theorem bZ {α σ:Type}{x y:Nat}{M:Model}{a b:StateT σ Sem α}{Q:α→σ→Prop}{st:σ}(h1:x=y→wpS M A E s a Q st)(h2:x≠y→wpS M A E s b Q st):wpS M A E s (if (x==y)=true then a else b) Q st:=
  bC (fun h=>h1 (beq_iff_eq.mp h)) fun h=>h2 fun e=>h (beq_iff_eq.mpr e)
theorem b7 {α σ:Type}{c:Prop}[Decidable c]{M:Model}{a b:StateT σ Sem α}{Q:α→σ→Prop}{st:σ}(h1:wpS M A E s a Q st)(h2:wpS M A E s b Q st):wpS M A E s (if c then a else b) Q st:=bC (fun _=>h1) fun _=>h2
theorem e8 {β γ:Type}{N:Nat}{f:Nat→β→StateT SortSt Sem (ForInStep β)}{g:β→StateT SortSt Sem γ}{c₀:β}{st:SortSt}{Q:γ→SortSt→Prop}(I:Nat→β→SortSt→Prop)(R:β→SortSt→Prop)
    (step:∀i c st',i<N→I i c st'→wpS (model prog w) A E s (f i c) (fun r st''=>match r with | .done c'=>R c' st'' | .yield c'=>I (i+1) c' st'') st') (fin:∀c st',I N c st'→R c st') (h0:I 0 c₀ st) (k:∀c st',R c st'→wpS (model prog w) A E s (g c) Q st'):
    wpS (model prog w) A E s (forIn [:N] c₀ f>>=g) Q st:=
  wpS_bind (wpS_mono (wpS_forRange (I:=I) (Q:=R) (fun i c st' _ hi h=>step i c st' hi h) (fun c st' h=>fin c st' (Nat.zero_max N▸h)) h0) k)
theorem n1 {N i j:Nat}(h:N≤i+j):N+1≤i+1+j:=wV (Nat.succ_le_succ h) (wX (Nat.add_right_comm i j 1))
theorem n2 {N y i j:Nat}(h:N+y≤i+j):N+1≤i+1+j:=wV (Nat.succ_le_succ (wV (w9 N y) h)) (wX (Nat.add_right_comm i j 1))
theorem n3 {N y i j:Nat}(h:N+y≤i+j):N+1≤i+(j+1):=by exact xm (wZ (w9 _ _) (wZ h (xk _)))
theorem nQ {α σ:Type}{c:Prop}[Decidable c]{M:Model}{f:Nat→StateT σ Sem α}{x y:Nat}{Q:α→σ→Prop}{st:σ}(h:∀g,wpS M A E s (f g) Q st):wpS M A E s (if c then f x else f y) Q st:=b7 (h x) (h y)
theorem nR {α β γ σ:Type}{M:Model}{m:StateT σ Sem γ}{Q:γ→σ→Prop}{st:σ}(jp:Unit→α→β→StateT σ Sem γ)(P:α→β→Prop)(h:∀o i,P o i→wpS M A E s (jp () o i) Q st)(k:(∀o i,P o i→wpS M A E s (jp () o i) Q st)→wpS M A E s m Q st):wpS M A E s m Q st:=k h
theorem n8 {k n i:Nat}(h:k≤n-i)(h2:i≤n):i+k≤n:=w8 (fun z=>xn (Nat.sub_lt_left_of_lt_add h2 z) h)
theorem n6 {x N k:Nat}(h:x+1+N≤k):N+1≤k:=wV (Nat.le_of_lt_succ (Nat.lt_add_of_pos_left (w0 (wW rfl) (xj _ _)))) h
theorem n7 {N k:Nat}(h:N+1≤k):N+1≤k:=h
theorem ma {G:KD→Prop}{a b:Array KD}{st:SortSt}{Q:Array KD→SortSt→Prop}(hG:∀p,G p→IK p)(ga:AG G a)(gb:AG G b)(hna:0<a.size)(hnb:0<b.size)(hk:PyProof.Rows.kindOf st=oneType')
    (h:∀out st',Sg st st'→AG G out→Q out st'):wpS (model prog w) A E s (l9 a b) Q st:=by
  have ka:∀i (h:i<a.size),IK (a[i]'h):=fun i h=>hG _ (ga.at h);have kb:∀i (h:i<b.size),IK (b[i]'h):=fun i h=>hG _ (gb.at h);unfold l9;walk_at "u1";refine gS ?_
  extract_lets-underBinder-merge-useContext total done lastOfA
  refine ce hnb ?_
  extract_lets-underBinder-merge-useContext out ia ib
  have go:AG G out:= .one (gb.at hnb);refine bZ (fun _=>wpS_pure (h _ _ (Sg.refl _) (go.all3 ga gb))) fun hc1=> ?_;refine bZ (fun _=>wpS_pure (h _ _ (Sg.refl _) (go.all3 gb ga))) fun hc2=> ?_;refine wpS_bind (wpS_get ?_)
  extract_lets-underBinder-merge-useContext mg
  refine e8 (I:=fun x c st'=>JL G a b st (x+1) c.2.1 c.2.2.1 c.2.2.2.1 st') (R:=fun c st'=>∃R,c.1=some R∧AG G R∧Sg st st') ?_ ?_ ⟨Sg.refl _,go,Nat.lt_of_le_of_ne hna hc2,Nat.lt_of_le_of_ne hnb hc1,w6 _⟩ ?_
  · intro x c st1 hx J
    extract_lets-underBinder-merge-useContext s1 out1 s2 ia1 s3 ib1 mg1 ac1 bc1
    have J1:JL G a b st (x+1) out1 ia1 ib1 st1:=J;refine e8 (I:=fun y c st'=>JL G a b st (x+1+y) c.2.1 c.2.2.1 c.2.2.2.1 st') (R:=WL G a b st (x+1+1)) ?_ ?_ J1 ?_
    · intro y c2 st2 hy J
      extract_lets-underBinder-merge-useContext t1 out2 t2 ia2 t3 ib2 t4 ac2 bc2
      have J2:JL G a b st (x+1+y) out2 ia2 ib2 st2:=J
      clear_value out2 ia2 ib2 ac2 bc2
      obtain ⟨sg,go,h1,h2,hN⟩:=J2;refine ce h2 (ce (Nat.lt_of_succ_lt h1) (te (kb _ _) (ka _ _) sg hk fun bw=> ?_));refine b7 (ce h2 ?_) (ce (Nat.lt_of_succ_lt h1) ?_)
      · extract_lets-underBinder-merge-useContext out3 ib3 bc3
        have g3:AG G out3:=go.push (gb.at h2);exact bZ (fun _=>wpS_pure (.inl ⟨_,rfl,g3.all3 ga gb,sg⟩)) fun hc=>b7 (wpS_pure (.inr ⟨rfl,sg,g3,h1,Nat.lt_of_le_of_ne h2 hc,n3 hN⟩)) (wpS_pure ⟨sg,g3,h1,Nat.lt_of_le_of_ne h2 hc,Nat.succ_le_succ hN⟩)
      · extract_lets-underBinder-merge-useContext out3 ia3 ac3
        have g3:AG G out3:=go.push (ga.at (Nat.lt_of_succ_lt h1));exact bZ (fun _=>wpS_pure (.inl ⟨_,rfl,g3.all3 gb ga,sg⟩)) fun hc=>b7 (wpS_pure (.inr ⟨rfl,sg,g3,Nat.lt_of_le_of_ne h1 hc,h2,n2 hN⟩)) (wpS_pure ⟨sg,g3,Nat.lt_of_le_of_ne h1 hc,h2,n1 hN⟩)
    · intro c2 st2 J;exact absurd (wV (n6 J.hN) (Nat.add_le_add (wY (Nat.lt_of_succ_lt J.ha)) (wY J.hb))) (Nat.not_succ_le_self _)
    · rintro ⟨r,c2⟩ st2 (⟨R,hr,gR,sg⟩ | ⟨hr,J⟩)
      · cases (show r=some R from hr)
        exact wpS_pure ⟨R,rfl,gR,sg⟩
      · cases (show r=none from hr)
        extract_lets-underBinder-merge-useContext r2 t1 out2 t2 ia2 t3 ib2 t4 ac2 bc2
        refine gS ?_
        extract_lets-underBinder-merge-useContext mg2
        refine e8 (I:=fun y c st'=>JL G a b st (x+1+1+y) c.2.1 c.2.2.1 c.2.2.2.1 st') (R:=WL G a b st (x+1+1)) ?_ ?_ J ?_
        · intro y c3 st3 hy J
          extract_lets-underBinder-merge-useContext u1 out3 u2 ia3 u3 ib3 u4 mg3 u5 ac3 bc3 jp
          have J3:JL G a b st (x+1+1+y) out3 ia3 ib3 st3:=J
          clear_value out3 ia3 ib3 mg3 ac3 bc3
          obtain ⟨sg,go,h1,h2,hN⟩:=J3;refine nQ fun g=>lf sg fun st4 sg4=>ce h2 (eA (kb _ _) ka (wX (Nat.add_sub_cancel' (wY (Nat.lt_of_succ_lt h1)))) (Nat.sub_pos_of_lt (Nat.lt_of_succ_lt h1)) sg4 hk fun k hk2=> ?_)
          dsimp-zeta only
          extract_lets-underBinder-merge-useContext ac4 jp2 out5 ia5
          refine nR jp2 (fun o i=>AG G o∧i+1<a.size∧x+1+1+y≤i+ib3) ?_ fun hj2=> ?_
          · intro o i;refine dc ?_;intro g4 h4 hN4;refine ce h2 ?_
            extract_lets-underBinder-merge-useContext out4 ib4
            have g5:AG G out4:=g4.push (gb.at h2);refine bZ (fun _=>wpS_pure (.inl ⟨_,rfl,g5.all3 ga gb,sg4⟩)) fun hc=> ?_;have h5:ib4<b.size:=Nat.lt_of_le_of_ne h2 hc;refine ce (Nat.lt_of_succ_lt h4) (eA (ka _ _) kb (wX (Nat.add_sub_cancel' (wY h5))) (Nat.sub_pos_of_lt h5) sg4 hk fun k hk3=> ?_)
            dsimp-zeta only
            extract_lets-underBinder-merge-useContext bc4 jp3 out6 ib6
            refine nR jp3 (fun o j=>AG G o∧j<b.size∧ib4≤j) ?_ fun hj3=> ?_
            · intro o j;refine dc ?_;intro g6 h6 hj;refine ce (Nat.lt_of_succ_lt h4) ?_
              extract_lets-underBinder-merge-useContext out7 ia7
              have g7:AG G out7:=g6.push (ga.at (Nat.lt_of_succ_lt h4));have hN7:x+1+1+(y+1)≤ia7+j:=wV (Nat.succ_le_succ (wV hN4 (xe (wY hj) i))) (wX (Nat.succ_add i j).symm);exact bZ (fun _=>wpS_pure (.inl ⟨_,rfl,g7.all3 gb ga,sg4⟩)) fun hc=>b7 (wpS_pure (.inr ⟨rfl,sg4,g7,Nat.lt_of_le_of_ne h4 hc,h6,wV (w9 _ _) hN7⟩)) (wpS_pure ⟨sg4,g7,Nat.lt_of_le_of_ne h4 hc,h6,hN7⟩)
            · refine bC (fun _=> ?_) fun _=>hj3 _ _ ⟨g5,h5,w6 _⟩;have g6:AG G out6:=g5.app (gb.ext _ _);exact bZ (fun _=>wpS_pure (.inl ⟨_,rfl,g6.all3 ga gb,sg4⟩)) fun hc=>hj3 _ _ ⟨g6,Nat.lt_of_le_of_ne (n8 hk3 (wY h5)) hc,w9 _ _⟩
          · refine bC (fun _=> ?_) fun _=>hj2 _ _ ⟨go,h1,hN⟩;have g5:AG G out5:=go.app (ga.ext _ _);exact bZ (fun _=>wpS_pure (.inl ⟨_,rfl,g5.all3 gb ga,sg4⟩)) fun hc=>bZ (fun _=>wpS_pure (.inl ⟨_,rfl,g5.all3 ga gb,sg4⟩)) fun hc'=>hj2 _ _ ⟨g5,Nat.lt_of_le_of_ne (Nat.lt_of_le_of_ne (n8 hk2 (wY (Nat.lt_of_succ_lt h1))) hc') hc,wV hN (xc (w9 _ _) _)⟩
        · intro c3 st3 J;exact absurd (wV (n6 J.hN) (Nat.add_le_add (wY (Nat.lt_of_succ_lt J.ha)) (wY J.hb))) (Nat.not_succ_le_self _)
        · rintro ⟨r,c3⟩ st3 (⟨R,hr,gR,sg⟩ | ⟨hr,J⟩)
          · cases (show r=some R from hr)
            exact wpS_pure ⟨R,rfl,gR,sg⟩
          · cases (show r=none from hr)
            extract_lets-underBinder-merge-useContext r3 v1 out3 v2 ia3 v3 ib3 v4 mg3 v5 ac3 bc3 mg4
            refine lf J.sg fun st4 sg4=>wpS_pure ?_;exact⟨sg4,J.go,J.ha,J.hb,J.hN⟩
  · intro c st1 J;exact absurd (wV (n7 J.hN) (Nat.add_le_add (wY (Nat.lt_of_succ_lt J.ha)) (wY J.hb))) (Nat.not_succ_le_self _)
  · rintro ⟨r,c⟩ st1;refine bI ?_;intro R hr gR sg
    cases (show r=some R from hr)
    exact wpS_pure (h _ _ sg gR)
theorem td {n m:Nat}(h:n≤m):0+n≤m:=wV (wX (Nat.add_comm _ _)) h
theorem m1 {S N na nb:Nat}(h:N+na+nb≤S)(h2:1≤na):N+1+(na-1)+nb≤S:=by rewrite [Nat.add_assoc N 1];refine ah (Nat.add_sub_cancel' h2) ?_;exact h
theorem m2 {S N na nb:Nat}(h:N+na+nb≤S)(h2:2≤nb):N+1+na+(nb-1)≤S:=by refine ah (Nat.add_right_comm N 1 na) ?_;rewrite [Nat.add_assoc (N+na) 1];refine ah (Nat.add_sub_cancel' (wY h2)) ?_;exact h
theorem m3 {S N y na nb:Nat}(h:N+y+na+nb≤S)(h2:1≤na):N+1+(na-1)+nb≤S:=m1 (wV (xc (xc (w9 N y) na) nb) h) h2
theorem m4 {S N y na nb:Nat}(h:N+y+na+nb≤S)(h2:2≤nb):N+1+na+(nb-1)≤S:=m2 (wV (xc (xc (w9 N y) na) nb) h) h2
theorem m5 {S N na nb i j:Nat}(h:N+i+nb≤S)(h1:1≤i)(h2:2≤nb)(h3:j≤nb-1):N+1+(i-1)+j≤S:=by rewrite [Nat.add_assoc N 1];refine ah (Nat.add_sub_cancel' h1) ?_;exact wV (xe (wV h3 (Nat.sub_le _ _)) _) h
theorem m6 {S x na nb:Nat}(h:x+1+S+na+nb≤S):False:=absurd h (xn (w0 (Nat.lt_add_of_pos_left (Nat.succ_pos x)) (wV (w9 _ na) (w9 _ nb))))
theorem m7 {S na nb:Nat}(h:S+1+na+nb≤S):False:=xn (w0 (w0 (xk _) (w9 _ _)) (w9 _ _)) h
theorem m8 {n:Nat}(h:0<n)(h2:n≠1):2≤n:=xm (Nat.lt_of_le_of_ne h (Ne.symm h2))
theorem m9 {n:Nat}(h:2≤n)(h2:n-1≠1):2≤n-1:=m8 (Nat.sub_pos_of_lt h) h2
theorem tA {n m:Nat}(h:1≤n)(h2:n≤m):n-1<m:=w0 (Nat.sub_lt h Nat.one_pos) h2
theorem wh {S N y na nb:Nat}(h:N+(y+1)+na+nb≤S):N+na+nb≤S:=wV (xc (xc (w9 N _) _) _) h
theorem wi {n m N k:Nat}(h:N+n+k≤m){i:Nat}(h2:i≤n):N+i+k≤m:=wV (xc (xe h2 N) k) h
theorem l8 {G:KD→Prop}{a b:Array KD}{st:SortSt}{Q:Array KD→SortSt→Prop}(hG:∀p,G p→IK p)(ga:AG G a)(gb:AG G b)(hna:0<a.size)(hnb:0<b.size)(hk:PyProof.Rows.kindOf st=oneType')
    (h:∀out st',Sg st st'→AG G out→Q out st'):wpS (model prog w) A E s (l7 a b) Q st:=by
  have ka:∀i (h:i<a.size),IK (a[i]'h):=fun i h=>hG _ (ga.at h);have kb:∀i (h:i<b.size),IK (b[i]'h):=fun i h=>hG _ (gb.at h);unfold l7;walk_at "u2";refine gS ?_
  extract_lets-underBinder-merge-useContext total done firstOfB na nb
  refine ce (Nat.sub_lt hna Nat.one_pos) ?_
  extract_lets-underBinder-merge-useContext out
  have go:AG G out:= .one (ga.at _);refine bZ (fun _=>wpS_pure (h _ _ (Sg.refl _) (go.all3r ga gb))) fun hc1=> ?_;refine bZ (fun _=>wpS_pure (h _ _ (Sg.refl _) (go.all3r gb ga))) fun hc2=> ?_;refine wpS_bind (wpS_get ?_)
  extract_lets-underBinder-merge-useContext mg
  refine e8 (I:=fun x c st'=>JH G a b st (x+1) c.2.2.2.1 c.2.1 c.2.2.1 st') (R:=fun c st'=>∃R,c.1=some R∧AG G R∧Sg st st') ?_ ?_ ⟨Sg.refl _,go,Nat.pos_of_ne_zero hc1,Nat.sub_le _ _,m8 hnb hc2,w6 _,m1 (N:=0) (wX (by rw [Nat.zero_add])) hna⟩ ?_
  · intro x c st1 hx J
    extract_lets-underBinder-merge-useContext s1 na1 s2 nb1 s3 out1 mg1 ac1 bc1
    have J1:JH G a b st (x+1) out1 na1 nb1 st1:=J;refine e8 (I:=fun y c st'=>JH G a b st (x+1+y) c.2.2.2.1 c.2.1 c.2.2.1 st') (R:=WH G a b st (x+1+1)) ?_ ?_ J1 ?_
    · intro y c2 st2 hy J
      extract_lets-underBinder-merge-useContext t1 na2 t2 nb2 t3 out2 t4 ac2 bc2
      have J2:JH G a b st (x+1+y) out2 na2 nb2 st2:=J
      clear_value out2 na2 nb2 ac2 bc2
      obtain ⟨sg,go,a1,h1,b1,h2,hN⟩:=J2;have ia:=tA a1 h1;have ib:=tA (Nat.le_of_succ_le b1) h2;refine ce ib (ce ia (te (kb _ _) (ka _ _) sg hk fun aw=> ?_));refine b7 ?_ ?_
      · extract_lets-underBinder-merge-useContext na3
        refine ce ia ?_
        extract_lets-underBinder-merge-useContext out3 ac3 bc3
        have g3:AG G out3:=go.push (ga.at ia);exact bZ (fun _=>wpS_pure (.inl ⟨_,rfl,g3.all3r ga gb,sg⟩)) fun hc=>b7 (wpS_pure (.inr ⟨rfl,sg,g3,Nat.pos_of_ne_zero hc,wY ia,b1,h2,m3 hN a1⟩)) (wpS_pure ⟨sg,g3,Nat.pos_of_ne_zero hc,wY ia,b1,h2,m1 hN a1⟩)
      · extract_lets-underBinder-merge-useContext nb3
        refine ce ib ?_
        extract_lets-underBinder-merge-useContext out3 bc3 ac3
        have g3:AG G out3:=go.push (gb.at ib);exact bZ (fun _=>wpS_pure (.inl ⟨_,rfl,g3.all3r gb ga,sg⟩)) fun hc=>b7 (wpS_pure (.inr ⟨rfl,sg,g3,a1,h1,m9 b1 hc,wY ib,m4 hN b1⟩)) (wpS_pure ⟨sg,g3,a1,h1,m9 b1 hc,wY ib,m2 hN b1⟩)
    · intro c2 st2 J
      exact(m6 J.hN).elim
    · rintro ⟨r,c2⟩ st2 (⟨R,hr,gR,sg⟩ | ⟨hr,J⟩)
      · cases (show r=some R from hr)
        exact wpS_pure ⟨R,rfl,gR,sg⟩
      · cases (show r=none from hr)
        extract_lets-underBinder-merge-useContext r2 t1 na2 t2 nb2 t3 out2 t4 ac2 bc2
        refine gS ?_
        extract_lets-underBinder-merge-useContext mg2
        refine e8 (I:=fun y c st'=>JH G a b st (x+1+1+y) c.2.2.2.1 c.2.1 c.2.2.1 st') (R:=WH G a b st (x+1+1)) ?_ ?_ J ?_
        · intro y c3 st3 hy J
          extract_lets-underBinder-merge-useContext u1 na3 u2 nb3 u3 out3 u4 mg3 u5 ac3 bc3 jp
          have J3:JH G a b st (x+1+1+y) out3 na3 nb3 st3:=J
          clear_value out3 na3 nb3 mg3 ac3 bc3
          obtain ⟨sg,go,a1,h1,b1,h2,hN⟩:=J3;have ib:=tA (Nat.le_of_succ_le b1) h2;refine nQ fun g=>lf sg fun st4 sg4=>ce ib (eA (kb _ _) ka (td h1) (Nat.sub_lt a1 Nat.one_pos) sg4 hk fun at1 hk2=> ?_)
          dsimp-zeta only
          extract_lets-underBinder-merge-useContext k1 ac4 jp2 out5 na5
          refine nR jp2 (fun i o=>AG G o∧1≤i∧i≤a.size∧x+1+1+y+i+nb3≤a.size+b.size) ?_ fun hj2=> ?_
          · intro i o;refine dF ?_;intro g4 a4 h4 hN4;have ia:=tA a4 h4;refine ce ib ?_
            extract_lets-underBinder-merge-useContext out4
            have g5:AG G out4:=g4.push (gb.at ib);refine bZ (fun _=>wpS_pure (.inl ⟨_,rfl,g5.all3r gb ga,sg4⟩)) fun hc=> ?_;have b5:2≤nb3-1:=m9 b1 hc;refine ce ia (eA (ka _ _) kb (td (wY ib)) (Nat.sub_lt (Nat.le_of_succ_le b5) Nat.one_pos) sg4 hk fun at2 hk3=> ?_)
            dsimp-zeta only
            extract_lets-underBinder-merge-useContext k2 bc4 jp3 out6 nb6
            refine nR jp3 (fun j o=>AG G o∧2≤j∧j≤nb3-1) ?_ fun hj3=> ?_
            · intro j o;refine dc ?_;intro g6 b6 hj;refine ce ia ?_
              extract_lets-underBinder-merge-useContext out7
              have g7:AG G out7:=g6.push (ga.at ia);have hN7:x+1+1+(y+1)+(i-1)+j≤a.size+b.size:=m5 (na:=0) hN4 a4 b1 hj;have h6:=wV hj (wY ib);exact bZ (fun _=>wpS_pure (.inl ⟨_,rfl,g7.all3r ga gb,sg4⟩)) fun hc=>b7 (wpS_pure (.inr ⟨rfl,sg4,g7,Nat.pos_of_ne_zero hc,wY ia,b6,h6,wh hN7⟩)) (wpS_pure ⟨sg4,g7,Nat.pos_of_ne_zero hc,wY ia,b6,h6,hN7⟩)
            · refine bC (fun _=> ?_) fun _=>hj3 _ _ ⟨g5,b5,w6 _⟩;have g6:AG G out6:=g5.app (gb.ext _ _).rev;exact bZ (fun _=>wpS_pure (.inl ⟨_,rfl,g6.all3r gb ga,sg4⟩)) fun hc=>bZ (fun _=>wpS_pure (.inl ⟨_,rfl,g6.all3r ga gb,sg4⟩)) fun hc'=>hj3 _ _ ⟨g6,m8 (Nat.pos_of_ne_zero hc') hc,hk3⟩
          · refine bC (fun _=> ?_) fun _=>hj2 _ _ ⟨go,a1,h1,hN⟩;have g5:AG G out5:=go.app (ga.ext _ _).rev;exact bZ (fun _=>wpS_pure (.inl ⟨_,rfl,g5.all3r ga gb,sg4⟩)) fun hc=>hj2 _ _ ⟨g5,Nat.pos_of_ne_zero hc,wV hk2 h1,wi hN hk2⟩
        · intro c3 st3 J
          exact(m6 J.hN).elim
        · rintro ⟨r,c3⟩ st3 (⟨R,hr,gR,sg⟩ | ⟨hr,J⟩)
          · cases (show r=some R from hr)
            exact wpS_pure ⟨R,rfl,gR,sg⟩
          · cases (show r=none from hr)
            refine lf J.sg fun st4 sg4=>wpS_pure ?_;exact⟨sg4,J.go,J.a1,J.ha,J.b1,J.hb,J.hN⟩
  · intro c st1 J
    exact(m7 J.hN).elim
  · rintro ⟨r,c⟩ st1;refine bI ?_;intro R hr gR sg
    cases (show r=some R from hr)
    exact wpS_pure (h _ _ sg gR)
end
end
section
open Lean
local macro_rules | `(tactic| walk_at "u1") => do
  let f:=fun(s:String)=>mkIdent (mkPrivateNameCore `PySem.Builtin.List.W1All (`PySem.Builtin++s.toName))
  `(tactic| unfold $(f "mergeAt"))
local macro_rules | `(tactic| walk_at "u2") => do
  let f:=fun(s:String)=>mkIdent (mkPrivateNameCore `PySem.Builtin.List.W1All (`PySem.Builtin++s.toName))
  `(tactic| unfold $(f "countRun"))
local macro_rules | `(tactic| walk_at "u3") => do
  let f:=fun(s:String)=>mkIdent (mkPrivateNameCore `PySem.Builtin.List.W1All (`PySem.Builtin++s.toName))
  `(tactic| unfold $(f "binarySort"))
local macro_rules | `(tactic| walk_at "u4") => do
  let f:=fun(s:String)=>mkIdent (mkPrivateNameCore `PySem.Builtin.List.W1All (`PySem.Builtin++s.toName))
  `(tactic| unfold $(f "sortRuns"))
structure SP (G:KD→Prop)(N:Nat)(st:SortSt):Prop where
  ag:AG G (arrOf st)
  size:(arrOf st).size=N
  kind:PyProof.Rows.kindOf st=oneType'
  failed:failedOf st=none
section
variable {prog:Program}{w:World}{A:Around}{E:Value→Shared→Prop}{s:Shared}{G:KD→Prop}{N:Nat}
theorem gN {i j:Nat}{st:SortSt}{β:Type}{f:Option Bool→StateT SortSt Sem β}{Q:β→SortSt→Prop}(hP:SP G N st)(h0:∀p,G p→IK p)(hi:i<N)(hj:j<N)(h:∀b,wpS (model prog w) A E s (f (some b)) Q st):
    wpS (model prog w) A E s ((sortPriv%PySem.Builtin.ltAt) i j>>=f) Q st:=by
  refine wpS_bind ?_
  refine(?_:wpS (model prog w) A E s (ltAt' i j) _ st)
  rw [ltAt'_eq];have hs:=hP.size;refine wpS_bind (wpS_get (wpS_bind (gq (hs.symm▸hi) (wpS_bind (gq (hs.symm▸hj) (kT (h0 _ (hP.ag.at _)) (h0 _ (hP.ag.at _)) hP.kind h))))))
theorem SP.arr {st:SortSt}(h:SP G N st){xs:Array KD}(hp:xs.Perm (arrOf st)):SP G N (setArr st xs):=
  ⟨fun p hx=>h.ag p ((Array.perm_iff_toList_perm.mp hp).mem_iff.mp hx),hp.size_eq.trans h.size,h.kind,h.failed⟩
theorem nN {i j:Nat}{st:SortSt}{β:Type}{f:Unit→StateT SortSt Sem β}{Q:β→SortSt→Prop}(hP:SP G N st)(h:∀st',SP G N st'→pendingOf st'=pendingOf st→wpS (model prog w) A E s (f ()) Q st'):
    wpS (model prog w) A E s ((sortPriv%PySem.Builtin.reverseSlice) i j>>=f) Q st:=by
  refine wpS_bind ?_
  refine(?_:wpS (model prog w) A E s (reverseSlice' i j) _ st)
  rw [reverseSlice'_eq];exact wpS_modify (h _ (hP.arr (mirror_perm _ _ _ _)) rfl)
theorem sy {i j:Nat}{st:SortSt}{β:Type}{f:Unit→StateT SortSt Sem β}{Q:β→SortSt→Prop}(hP:SP G N st)(h:∀st',SP G N st'→pendingOf st'=pendingOf st→wpS (model prog w) A E s (f ()) Q st'):
    wpS (model prog w) A E s ((sortPriv%PySem.Builtin.moveDown) i j>>=f) Q st:=by
  refine wpS_bind ?_
  refine(?_:wpS (model prog w) A E s (moveDown' i j) _ st)
  rw [moveDown'_eq];exact wpS_modify (h _ (hP.arr (bubble_perm _ _ _)) rfl)
structure SQ (G:KD→Prop)(N:Nat)(p:Array (Nat×Nat×Nat))(st:SortSt):Prop where
  sp:SP G N st
  pd:pendingOf st=p
theorem rx {α σ:Type}{M:Model}{m:StateT σ Sem α}{Q:α→σ→Prop}{st:σ}(jp:Unit→StateT σ Sem α)(P:σ→Prop)(h:∀st',P st'→wpS M A E s (jp ()) Q st')(k:(∀st',P st'→wpS M A E s (jp ()) Q st')→wpS M A E s m Q st):wpS M A E s m Q st:=k h
theorem gB {β γ:Type}{a b:Nat}{f:Nat→β→StateT SortSt Sem (ForInStep β)}{g:β→StateT SortSt Sem γ}{c₀:β}{st:SortSt}{Q:γ→SortSt→Prop}(I:Nat→β→SortSt→Prop)(R:β→SortSt→Prop)
    (step:∀i c st',a≤i→i<b→I i c st'→wpS (model prog w) A E s (f i c) (fun r st''=>match r with | .done c'=>R c' st'' | .yield c'=>I (i+1) c' st'') st') (fin:∀c st',I (max a b) c st'→R c st') (h0:I a c₀ st) (k:∀c st',R c st'→wpS (model prog w) A E s (g c) Q st'):
    wpS (model prog w) A E s (forIn [a:b] c₀ f>>=g) Q st:=
  wpS_bind (wpS_mono (wpS_forRange (I:=I) (Q:=R) step fin h0) k)
theorem kM {lo nrem:Nat}{st:SortSt}{Q:Option Nat→SortSt→Prop}(h0:∀p,G p→IK p)(hP:SP G N st)(h1:1≤nrem)(hn:lo+nrem≤N)
    (h:∀m st',SP G N st'→pendingOf st'=pendingOf st→1≤m→m≤nrem→Q (some m) st'):wpS (model prog w) A E s (countRun' lo nrem) Q st:=by
  have key:∀{i:Nat},i<nrem→lo+i<N:=fun hi=>w0 (Nat.add_lt_add_left hi lo) hn;have key1:∀{i:Nat},i<nrem→lo+i-1<N:=fun hi=>wZ (Nat.sub_le _ _) (key hi);unfold countRun';walk_at "u2"
  extract_lets-underBinder-merge-useContext n
  refine gB (I:=fun i c st'=>SQ G N (pendingOf st) st'∧c=(none,i)) (R:=fun c st'=>SQ G N (pendingOf st) st'∧∃m,c=(none,m)∧1≤m∧m≤nrem) ?_ ?_ ⟨⟨hP,rfl⟩,rfl⟩ ?_
  · intro i c st1 h1i h2i;refine uA ?_;rintro S1 rfl
    extract_lets-underBinder-merge-useContext s1
    refine gN S1.sp h0 (key h2i) (key1 h2i) fun b=> ?_;exact b7 (wpS_pure ⟨S1,_,rfl,h1i,wY h2i⟩) (wpS_pure ⟨S1,rfl⟩)
  · intro c st1;refine uA ?_;rintro S1 rfl;exact⟨S1,_,rfl,Nat.le_max_left _ _,Nat.max_le.mpr ⟨h1,w6 _⟩⟩
  · intro c st1;refine cq ?_;rintro S1 m rfl hm1 hm2
    extract_lets-underBinder-merge-useContext r1 n1
    refine bZ (fun _=>wpS_pure (h _ _ S1.sp S1.pd hm1 hm2)) fun hne=> ?_;have hm3:m<nrem:=Nat.lt_of_le_of_ne hm2 hne
    extract_lets-underBinder-merge-useContext jp
    refine rx jp (SQ G N (pendingOf st)) (fun st2 S2=> ?_) fun hj=> ?_
    · refine gS ?_
      extract_lets-underBinder-merge-useContext n2 q2
      refine gB (I:=fun i c st'=>SQ G N (pendingOf st) st'∧∃q,c=(none,i,q)) (R:=fun c st'=>SQ G N (pendingOf st) st'∧∃m q,c=(none,m,q)∧1≤m∧m≤nrem) ?_ ?_ ⟨S2,_,rfl⟩ ?_
      · intro i c st3 h1i h2i;refine tD ?_;rintro S3 q rfl
        extract_lets-underBinder-merge-useContext s3 n3 s4 q3
        refine gN S3.sp h0 (key h2i) (key1 h2i) fun b=> ?_
        dsimp-zeta only
        extract_lets-underBinder-merge-useContext jp2 jp3
        have hj2:∀u g st',SQ G N (pendingOf st) st'→wpS (model prog w) A E s (jp2 u g) (fun r st''=>match r with | .done c'=>SQ G N (pendingOf st) st''∧∃m q,c'=(none,m,q)∧1≤m∧m≤nrem | .yield c'=>SQ G N (pendingOf st) st''∧∃q,c'=(none,i+1,q)) st':=fun u g st' S'=>wpS_pure ⟨S',_,rfl⟩
        refine b7 ?_ ?_
        · refine b7 (nN S3.sp fun st4 P4 hp4=>hj2 () _ _ ⟨P4,hp4.trans S3.pd⟩) (hj2 () _ _ S3)
        · refine gN S3.sp h0 (key1 h2i) (key h2i) fun b=> ?_;exact b7 (wpS_pure ⟨S3,_,_,rfl,wV (xj 1 m) h1i,wY h2i⟩) (hj2 () _ _ S3)
      · intro c st3;refine tD ?_;rintro S3 q rfl;exact⟨S3,_,_,rfl,wV hm1 (wV (Nat.le_succ m) (Nat.le_max_left _ _)),Nat.max_le.mpr ⟨hm3,w6 _⟩⟩
      · intro c st3;refine lj ?_;rintro S3 m3 q rfl hm4 hm5
        extract_lets-underBinder-merge-useContext r3 s5 n4 q4
        dsimp-zeta only [r3]
        extract_lets-underBinder-merge-useContext jp4
        refine rx jp4 (SQ G N (pendingOf st)) (fun st4 S4=> ?_) fun hj4=>b7 (nN S3.sp fun st4 P4 hp4=>hj4 _ ⟨P4,hp4.trans S3.pd⟩) (hj4 _ S3);refine nN S4.sp fun st5 P5 hp5=> ?_;have S5:SQ G N (pendingOf st) st5:=⟨P5,hp5.trans S4.pd⟩;refine gB (I:=fun i c st'=>SQ G N (pendingOf st) st'∧c=(none,i)) (R:=fun c st'=>SQ G N (pendingOf st) st'∧∃m,c=(none,m)∧1≤m∧m≤nrem) ?_ ?_ ⟨S5,rfl⟩ ?_
        · intro i c st6 h1i h2i;refine uA ?_;rintro S6 rfl
          extract_lets-underBinder-merge-useContext s6
          refine gN S6.sp h0 (key h2i) (key1 h2i) fun b=> ?_;exact b7 (wpS_pure ⟨S6,_,rfl,wV hm4 h1i,wY h2i⟩) (wpS_pure ⟨S6,rfl⟩)
        · intro c st6;refine uA ?_;rintro S6 rfl;exact⟨S6,_,rfl,wV hm4 (Nat.le_max_left _ _),Nat.max_le.mpr ⟨hm5,w6 _⟩⟩
        · intro c st6;refine cq ?_;rintro S6 m6 rfl h6 h7;exact wpS_pure (h _ _ S6.sp S6.pd h6 h7)
    · refine b7 ?_ (hj _ S1);refine gN S1.sp h0 (w0 (Nat.lt_add_of_pos_right h1) hn) (key1 hm3) fun b=> ?_;exact b7 (wpS_pure (h _ _ S1.sp S1.pd hm1 hm2)) (nN S1.sp fun st4 P4 hp4=>hj _ ⟨P4,hp4.trans S1.pd⟩)
noncomputable def gk:Nat→Nat→Nat→StateT SortSt Sem Bool:=sortPriv%PySem.Builtin.binarySort
theorem i7 {lo n ok:Nat}{st:SortSt}{Q:Bool→SortSt→Prop}(h0:∀p,G p→IK p)(hP:SP G N st)(hn:lo+n≤N)
    (h:∀st',SP G N st'→pendingOf st'=pendingOf st→Q true st'):wpS (model prog w) A E s (gk lo n ok) Q st:=by
  have key:∀{i:Nat},i<n→lo+i<N:=fun hi=>w0 (Nat.add_lt_add_left hi lo) hn;unfold gk;walk_at "u3";refine gB (I:=fun i c st'=>SQ G N (pendingOf st) st'∧c=(none,())) (R:=fun c st'=>SQ G N (pendingOf st) st'∧c=(none,())) ?_ (fun _ _ x=>x) ⟨⟨hP,rfl⟩,rfl⟩ ?_
  · intro k c st1 h1i h2i;refine uA ?_;rintro S1 rfl
    extract_lets-underBinder-merge-useContext l0 r0
    refine gB (I:=fun i c st'=>st1=st'∧∃l r,c=(none,l,r)∧r≤k) (R:=fun c st'=>st1=st'∧∃l r,c=(none,l,r)∧r≤k) ?_ (fun _ _ x=>x) ⟨rfl,_,_,rfl,w6 _⟩ ?_
    · intro i c st' hi1 hi2;refine kr ?_;rintro rfl l r rfl hr
      extract_lets-underBinder-merge-useContext s2 l2 r2 m2
      refine bC (fun _=>wpS_pure ⟨rfl,_,_,rfl,hr⟩) fun hlr=> ?_;have hm:m2≤k:=by have h1:¬l ≥ r:=hlr;lia
      have hmk:m2<n:=wZ hm h2i;refine gN S1.sp h0 (key h2i) (key hmk) fun b=> ?_;exact b7 (wpS_pure ⟨rfl,_,_,rfl,hm⟩) (wpS_pure ⟨rfl,_,_,rfl,hr⟩)
    · intro c st';refine kr ?_;rintro rfl l r rfl hr;exact sy S1.sp fun st2 P2 hp2=>wpS_pure ⟨⟨P2,hp2.trans S1.pd⟩,rfl⟩
  · intro c st1;refine uA ?_;rintro S1 rfl;exact wpS_pure (h _ S1.sp S1.pd)
theorem q9 {σ:Type}{M:Model}{st st':σ}{Q:PUnit→σ→Prop}(h:Q ⟨⟩ st'):wpS M A E s (set st':StateT σ Sem PUnit) Q st:=by
  unfold wpS;rw [StateT.run_set];exact wpAny_pure ⟨rfl,h⟩
theorem ru {off:Nat}:∀(l:List (KD×Nat)) (arr:Array KD),(∀x∈l,G x.1)→AG G arr→AG G (l.foldl (fun a x=>a.setIfInBounds (off+x.2) x.1) arr)∧(l.foldl (fun a x=>a.setIfInBounds (off+x.2) x.1) arr).size=arr.size
  | [],arr,_,h=>⟨h,rfl⟩
  | x::l,arr,hl,h=>by
    obtain ⟨h1,h2⟩:=ru (off:=off) l (arr.setIfInBounds (off+x.2) x.1) (fun y hy=>hl y (.tail _ hy)) fun p hp=>by
      rw [Array.toList_setIfInBounds] at hp
      exact(List.mem_or_eq_of_mem_set hp).elim (h p) fun e=>e▸hl x (.head _)
    exact⟨h1,h2.trans (Array.size_setIfInBounds ..)⟩
theorem wj {sa na sb nb N k z:Nat}(e:sa+na=sb)(h:sb+nb≤N)(hz:z=N)(hnb:1≤nb)(hc:na-k≠0):sa+k+(na-k)-1<z:=by
  refine ah hz ?_;rewrite [Nat.add_assoc];refine ah (Nat.add_sub_cancel' (wY (Nat.lt_of_sub_ne_zero hc))) (ah e ?_);exact wZ (Nat.sub_le _ _) (w0 (Nat.lt_add_of_pos_right hnb) h)
theorem l6 {i sa na pa sb nb pb:Nat}{st:SortSt}{Q:Bool→SortSt→Prop}(h0:∀p,G p→IK p)(hP:SP G N st)(e1:(pendingOf st)[i]?=some (sa,na,pa))(e2:(pendingOf st)[i+1]?=some (sb,nb,pb))(hab:sa+na=sb)(hna:1≤na)(hnb:1≤nb)(hsb:sb+nb≤N)
    (h:∀b st',SP G N st'→pendingOf st'=((pendingOf st).setIfInBounds i (sa,na+nb,pa)).eraseIdxIfInBounds (i+1)→Q b st'):wpS (model prog w) A E s (mergeAt' i) Q st:=by
  unfold mergeAt';walk_at "u1";refine wpS_bind (wpS_get ?_);refine ah e1 (ah e2 ?_);refine wpS_bind (q9 ?_);have P1:SP G N (SortSt.mk' (PyProof.Rows.kindOf st) (arrOf st) (((pendingOf st).setIfInBounds i (sa,na+nb,pa)).eraseIdxIfInBounds (i+1)) (gallopOf st) (failedOf st)):=⟨hP.ag,hP.size,hP.kind,hP.failed⟩;have hs:(arrOf st).size=N:=hP.size;have hs':((sortPriv%PySem.Builtin.SortState.a) st).size=N:=hP.size;have hk2:∀j (h:j<(arrOf st).size),IK ((arrOf st)[j]'h):=fun j h=>h0 _ (hP.ag.at h);refine ce (w0 (w0 (Nat.lt_add_of_pos_right hnb) hsb) (wX hs.symm)) (eA (hk2 _ _) hk2 (wV (wX hab) (wV (wV (w9 _ _) hsb) (wX hs.symm))) (ar hna rfl) (Sg.refl _) P1.kind fun k hk=> ?_);refine bZ (fun _=>wpS_pure (h _ _ P1 rfl)) fun hc=> ?_;refine ce (wj hab hsb hs' hnb hc) (eA (hk2 _ _) hk2 (wV hsb (wX hs.symm)) (ad hnb) (Sg.refl _) P1.kind fun m hm=> ?_);refine bZ (fun _=>wpS_pure (h _ _ P1 rfl)) fun hc2=> ?_
  extract_lets-underBinder-merge-useContext x y
  have gx:AG G x:=hP.ag.ext _ _;have gy:AG G y:=hP.ag.ext _ _;have zx:0<x.size:=by refine ah Array.size_extract (ah (show (arrOf st).size=N from hs) (ah (Nat.min_eq_left (wV (w9 _ _) hsb)) ?_));exact Nat.sub_pos_of_lt (hab▸Nat.add_lt_add_left (Nat.lt_of_sub_ne_zero hc) sa)
  have zy:0<y.size:=by refine ah Array.size_extract (ah (show (arrOf st).size=N from hs) ?_);exact Nat.sub_pos_of_lt (Nat.lt_min.mpr ⟨Nat.lt_add_of_pos_right (Nat.pos_of_ne_zero hc2),w0 (Nat.lt_add_of_pos_right hnb) hsb⟩)
  have fin:∀{out:Array KD} {st2:SortSt},Sg (SortSt.mk' (PyProof.Rows.kindOf st) (arrOf st) (((pendingOf st).setIfInBounds i (sa,na+nb,pa)).eraseIdxIfInBounds (i+1)) (gallopOf st) (failedOf st)) st2→AG G out→wpS (model prog w) A E s
      ((modify fun z:SortSt=>setArr z (out.toList.zipIdx.foldl (fun a x=>a.setIfInBounds (sa+k+x.2) x.1) (arrOf z)))>>=fun _=>(do return (failedOf (←get)).isNone)) Q st2:=by
    intro out st2;refine uE ?_;rintro g rfl go;refine wpS_bind (wpS_modify (wpS_bind (wpS_get (wpS_pure (h _ _ ?_ rfl)))));refine uA ?_ (ru (G:=G) (off:=sa+k) out.toList.zipIdx (arrOf st) (fun z hz=>go _ (List.fst_mem_of_mem_zipIdx hz)) hP.ag);intro w1 w2;exact⟨w1,w2.trans hs,P1.kind,P1.failed⟩
  refine b7 (wpS_bind (ma h0 gx gy zx zy P1.kind fun out st2 sg2 hout=> ?_)) (wpS_bind (l8 h0 gx gy zx zy P1.kind fun out st2 sg2 hout=> ?_))
  · exact fin sg2 hout
  · exact fin sg2 hout
end
end
section
open Lean
local macro_rules | `(tactic| walk_at "u4") => do
  let f:=fun(s:String)=>mkIdent (mkPrivateNameCore `PySem.Builtin.List.W1All (`PySem.Builtin++s.toName))
  `(tactic| unfold $(f "sortRuns"))
noncomputable def RC:List (Nat×Nat×Nat)→Nat→Nat→Prop
  | [],a,e=>a=e
  | r::l,a,e=>r.1=a∧1≤r.2.1∧RC l (a+r.2.1) e
theorem v8 {lo N m:Nat}(h1:1≤m)(h:m≤N-lo):lo≤N:=wY (Nat.lt_of_sub_pos (w0 h1 h))
theorem wk {lo N m:Nat}(h1:1≤m)(h:m≤N-lo):lo+m≤N:=Nat.add_le_of_le_sub' (v8 h1 h) h
theorem RC.le:∀{l:List (Nat×Nat×Nat)} {a e:Nat},RC l a e→a≤e
  | [],_,_,h=>wX h
  | r::l,a,e,⟨_,_,h⟩=>by have:=RC.le h;exact Nat.le_of_lt_succ (wZ (w9 _ _) (wZ this (xk _)))
theorem RC.push:∀{l:List (Nat×Nat×Nat)} {a e n w:Nat},RC l a e→1≤n→RC (l++[(e,n,w)]) a (e+n)
  | [],a,e,n,w,h,hn=>by
    have h:a=e:=h;subst h;exact⟨rfl,hn,rfl⟩
  | r::l,a,e,n,w,⟨h1,h2,h3⟩,hn=>⟨h1,h2,RC.push h3 hn⟩
theorem RC.two:∀{l:List (Nat×Nat×Nat)} {a e i:Nat} {r r':Nat×Nat×Nat},RC l a e→l[i]?=some r→l[i+1]?=some r'→r.1+r.2.1=r'.1∧1≤r.2.1∧1≤r'.2.1∧r'.1+r'.2.1≤e∧∀w,RC ((l.set i (r.1,r.2.1+r'.2.1,w)).eraseIdx (i+1)) a e
  | [],_,_,_,_,_,_,h,_=>by simp at h
  | [x],_,_,i,_,_,_,_,h=>by simp at h
  | x::y::l,a,e,0,r,r',⟨h1,h2,h3,h4,h5⟩,hx,hy=>by
    simp at hx hy;subst hx hy;refine⟨by lia,h2,h4, ?_,fun w=> ?_⟩
    · have:=h5.le;lia
    · refine⟨h1,by exact wV h2 (w9 _ _), ?_⟩
      refine ah (show a+(x.2.1+y.2.1)=a+x.2.1+y.2.1 by exact Eq.symm (Nat.add_assoc _ _ _)) ?_;exact h5
  | x::y::l,a,e,i+1,r,r',⟨h1,h2,h3⟩,hx,hy=>by
    refine cf ?_ (RC.two (l:=y::l) h3 (by simpa using hx) (by simpa using hy));intro k1 k2 k3 k4 k5;exact⟨k1,k2,k3,k4,fun w=>⟨h1,h2,k5 w⟩⟩
theorem RC.modify:∀{l:List (Nat×Nat×Nat)} {a e i:Nat} {w:Nat},RC l a e→RC (l.modify i fun x=>(x.1,x.2.1,w)) a e
  | [],_,_,i,_,h=>by cases i<;>exact h
  | x::l,a,e,0,w,⟨h1,h2,h3⟩=>⟨h1,h2,h3⟩
  | x::l,a,e,i+1,w,⟨h1,h2,h3⟩=>⟨h1,h2,RC.modify h3⟩
structure SR (G:KD→Prop)(N lo:Nat)(st:SortSt):Prop where
  sp:SP G N st
  rc:RC (pendingOf st).toList 0 lo
  le:lo≤N
section
variable {prog:Program}{w:World}{A:Around}{E:Value→Shared→Prop}{s:Shared}{G:KD→Prop}{N:Nat}
theorem jr {i lo:Nat}{st:SortSt}{Q:Bool→SortSt→Prop}(h0:∀p,G p→IK p)(R:SR G N lo st)(hi:i+1<(pendingOf st).size)(h:∀b st',SR G N lo st'→Q b st'):wpS (model prog w) A E s (mergeAt' i) Q st:=by
  obtain ⟨r,hr⟩:∃r,(pendingOf st)[i]?=some r:=⟨_,getElem?_pos (pendingOf st) i (Nat.lt_of_succ_lt hi)⟩;obtain ⟨r',hr'⟩:∃r,(pendingOf st)[i+1]?=some r:=⟨_,getElem?_pos _ (i+1) hi⟩;refine cf ?_ (R.rc.two (by rw [Array.getElem?_toList];exact hr) (by exact Array.getElem?_toList.trans hr'));intro k1 k2 k3 k4 k5;refine l6 h0 R.sp (sa:=r.1) (na:=r.2.1) (pa:=r.2.2) (sb:=r'.1) (nb:=r'.2.1) (pb:=r'.2.2) hr hr' k1 k2 k3 (wV k4 R.le) fun b st' P' hp'=>h b st' ⟨P', ?_,R.le⟩;refine ah hp' (ah Array.toList_eraseIdxIfInBounds (ah Array.toList_setIfInBounds ?_));exact k5 _
theorem SR.push {lo n v:Nat}{st:SortSt}(R:SR G N lo st)(hn:1≤n)(hl:lo+n≤N):SR G N (lo+n) (SortSt.mk' (PyProof.Rows.kindOf st) (arrOf st) ((pendingOf st).push (lo,n,v)) (gallopOf st) (failedOf st)):=
  ⟨⟨R.sp.ag,R.sp.size,R.sp.kind,R.sp.failed⟩,by have:=R.rc.push (w:=v) hn;rw [←Array.toList_push] at this;exact this,hl⟩
theorem SR.modify {lo i v:Nat}{st:SortSt}(R:SR G N lo st):SR G N lo (SortSt.mk' (PyProof.Rows.kindOf st) (arrOf st) ((pendingOf st).modify i fun x=>(x.1,x.2.1,v)) (gallopOf st) (failedOf st)):=
  ⟨⟨R.sp.ag,R.sp.size,R.sp.kind,R.sp.failed⟩,by have:=R.rc.modify (i:=i) (w:=v);rw [←Array.toList_modify] at this;exact this,R.le⟩
theorem tq {α γ σ:Type}{M:Model}{m:StateT σ Sem γ}{Q:γ→σ→Prop}{st:σ}(jp:Unit→α→StateT σ Sem γ)(P:α→σ→Prop)(h:∀o st',P o st'→wpS M A E s (jp () o) Q st')(k:(∀o st',P o st'→wpS M A E s (jp () o) Q st')→wpS M A E s m Q st):wpS M A E s m Q st:=k h
theorem qW {n:Nat}{c:Prop}[Decidable c](h:¬n≤1):(if c then n-2-1 else n-2)+1<n:=by
  have b:n-2+1<n:=Nat.lt_of_lt_of_eq (xk (n-2+1)) (Nat.sub_add_cancel (xq h))
  by_cases q:c
  · refine ah (if_pos q) ?_;exact wZ (xc (Nat.sub_le _ 1) 1) b
  · refine ah (if_neg q) ?_;exact b
theorem lh {st:SortSt}{Q:Unit→SortSt→Prop}(h0:∀p,G p→IK p)(hP:SP G N st)(hpd:pendingOf st=#[])(h:∀st',SP G N st'→Q () st'):wpS (model prog w) A E s sortRuns' Q st:=by
  unfold sortRuns';walk_at "u4";refine wpS_bind (wpS_get ?_);have hs:((sortPriv%PySem.Builtin.SortState.a) st).size=N:=hP.size;refine ah hs ?_
  extract_lets-underBinder-merge-useContext size minrun lo0
  refine e8 (I:=fun x c st'=>∃lo,c=(none,lo)∧SR G N lo st') (R:=fun c st'=>SP G N st'∧∃lo,c.1=some ()∨(c.1=none∧SR G N lo st')) ?_ ?_ ⟨0,rfl,hP,by refine ah hpd ?_;rfl,xd _⟩ ?_
  · intro x c st1 hx;refine aY ?_;rintro lo rfl R
    extract_lets-underBinder-merge-useContext lo1
    refine bC (fun _=>wpS_pure ⟨R.sp,lo, .inr ⟨rfl,R⟩⟩) fun hlt=> ?_;have hlo:lo<N:=xq hlt;refine wpS_bind (kM h0 R.sp (Nat.sub_pos_of_lt hlo) (wX (Nat.add_sub_cancel' (wY hlo))) fun m st2 P2 hp2 hm1 hm2=> ?_);have R2:SR G N lo st2:=⟨P2,by refine ah hp2 ?_;exact R.rc,R.le⟩
    dsimp-zeta only
    extract_lets-underBinder-merge-useContext n0 jp
    refine tq jp (fun n st'=>SR G N lo st'∧1≤n∧lo+n≤N) ?_ fun hj=> ?_
    · intro n st3;refine dc ?_;intro R3 hn1 hn2;refine wpS_bind (wpS_get ?_)
      extract_lets-underBinder-merge-useContext jp2
      have hj2:∀st',SR G N lo st'→wpS (model prog w) A E s (jp2 ()) (fun r st''=>match r with | .done c'=>SP G N st''∧∃lo,c'.1=some ()∨(c'.1=none∧SR G N lo st'') | .yield c'=>∃lo,c'=(none,lo)∧SR G N lo st'') st':=
        fun st' R'=>wpS_bind (wpS_modify (wpS_pure ⟨_,rfl,R'.push hn1 hn2⟩))
      rcases hbk:(pendingOf st3).back? with _ | ⟨s1,n1,w1⟩
      · exact hj2 _ R3
      · dsimp-zeta only
        extract_lets-underBinder-merge-useContext pw
        refine e8 (I:=fun x c st'=>c=(none,())∧SR G N lo st') (R:=fun c st'=>SR G N lo st') ?_ (fun _ _ x=>x.2) ⟨rfl,R3⟩ ?_
        · intro y c st5 hy;refine uA ?_;rintro rfl R5;refine wpS_bind (wpS_get ?_)
          extract_lets-underBinder-merge-useContext p
          by_cases hp1:(pendingOf st5).size>1
          · refine ah (if_pos (show p.size>1 from hp1)) ?_
            split
            · refine bC (fun _=>wpS_pure R5) fun _=>wpS_bind (jr h0 R5 (i:=(pendingOf st5).size-2) (by exact Nat.add_lt_of_lt_sub (Nat.sub_lt_sub_left hp1 (wW rfl))) fun b st6 R6=> ?_);exact b7 (wpS_pure R6) (wpS_pure ⟨rfl,R6⟩)
            · exact wpS_pure R5
          · refine ah (if_neg (show¬p.size>1 from hp1)) ?_;exact wpS_pure R5
        · rintro ⟨c,u⟩ st5 R5
          cases c with
          | some r=>exact wpS_pure ⟨R5.sp,lo, .inl rfl⟩
          | none=>exact wpS_bind (wpS_modify (hj2 _ R5.modify))
    · refine bC (fun hmr=> ?_) fun _=>hj _ _ ⟨R2,hm1,wk hm1 hm2⟩;refine gS ?_
      extract_lets-underBinder-merge-useContext force
      have hf1:1≤force:=by have h1:m<minrun:=hmr;have h2:m≤N-lo:=hm2;refine(?_:1≤min (N-lo) minrun);exact Nat.le_min_of_le_of_le (wV hm1 hm2) (wY (wZ hm1 hmr))
      have hf2:lo+force≤N:=wV (xe (Nat.min_le_left _ _) lo) (wX (Nat.add_sub_of_le (v8 hm1 hm2)));refine wpS_bind (i7 h0 R2.sp hf2 fun st3 P3 hp3=> ?_);exact bC (fun q=>by simp at q) fun _=>hj _ _ ⟨⟨P3,by refine ah hp3 ?_;exact R2.rc,R.le⟩,hf1,hf2⟩
  · intro c st1;refine aY ?_;rintro lo rfl R;exact⟨R.sp,lo, .inr ⟨rfl,R⟩⟩
  · rintro ⟨c,lo1⟩ st1;refine tD ?_;rintro P1 lo (hc | ⟨hc,R⟩)
    · cases (show c=some () from hc)
      exact wpS_pure (h _ P1)
    · cases (show c=none from hc)
      extract_lets-underBinder-merge-useContext r1 l1
      refine e8 (I:=fun x c st'=>c=(none,())∧SR G N lo st') (R:=fun c st'=>SR G N lo st') ?_ (fun _ _ x=>x.2) ⟨rfl,R⟩ ?_
      · intro y c st5 hy;refine uA ?_;rintro rfl R5;refine wpS_bind (wpS_get ?_)
        extract_lets-underBinder-merge-useContext p i2 bf i3
        refine bC (fun _=>wpS_pure R5) fun hsz=> ?_;refine wpS_bind (jr h0 R5 (qW hsz) fun b st6 R6=> ?_);exact b7 (wpS_pure R6) (wpS_pure ⟨rfl,R6⟩)
      · rintro ⟨c,u⟩ st5 R5
        cases c with
        | some r=>exact wpS_pure (h _ R5.sp)
        | none=>exact wpS_pure (h _ R5.sp)
end
end
section
open Lean
section
variable {prog:Program}{w:World}{A:Around}{E:Value→Shared→Prop}{s:Shared}
local macro_rules | `(tactic| walk_at "u1") => do
  let f:=mkIdent (mkPrivateNameCore `PySem.Builtin.List.Common `PySem.Builtin.List.silentSize)
  let g:=mkIdent (mkPrivateNameCore `PySem.Builtin.List.Common `PySem.Builtin.List.silentSizes)
  `(tactic| unfold $f $g)
theorem oJ {d:Addr}{Q:Bool→Shared→Prop}(hT:s.TypeIs (.ref d) "dict")(h:Q false s):wpAny (model prog w) A (Builtin.List.listLengthHint (.ref d)) Q E s:=by
  refine wpAny_bind (wpAny_specialOf hT PySem.F.slot_dict_len.lookup ?_);refine ah (show splitId "dict.__len__"=some ("dict","__len__") from by decide+kernel) ?_;refine wpAny_bind (wpAny_isInstance (b:=true) hT (by rw [isSubtype_type];kernel_rfl) ?_);refine ah (if_neg (by decide)) ?_;walk_at "u1";refine ah (if_pos (by decide+kernel)) ?_;refine wpAny_bind (wpAny_typeOf hT ?_);exact wpAny_pure h
theorem kL {d:Addr}{kvs:List (Int×Value)}{ep:Nat}{Q:List Value→Shared→Prop}(hh:A.handled=none)(hd:(d==sysModules)=false)(hm:s.heap.DictAt (intKind prog w) d kvs ep)(hn:kvs.length≤sizeLine)
    (hQ:∀s' acc,(∀b o,s.heap.get? b=some o→s'.heap.get? b=some o)→s'.gens=s.gens→s'.drawn=s.drawn→s'.os=s.os→ItemsOf (fun i v=>∃k x,kvs[i]?=some (k,x)∧(intKind prog w).is k v=true) acc kvs.length→Q acc.toList s'):
    wpAny (model prog w) A (collect (.ref d)) Q E s:=by
  refine wpAny_bind (wpAny_runValue (codeAny_builtin PySem.F.entry_proto_collect ?_));refine ah (Around.under_plainId PySem.F.plain_proto_collect _) ?_;refine wpAny_bind (wpAny_newObj_type ?_);refine wpAny_pure ⟨plainId_quiet PySem.F.plain_list_iadd _,codeAny_builtin PySem.F.entry_list_iadd ?_⟩;refine ah (Around.under_plainId PySem.F.plain_list_iadd _) ?_;have hS₁:(s.heap.push {cls:= .type "list",data:= .seq ([]:List Value).toArray}).get? s.heap.objs.size=some {cls:= .type "list",data:= .seq ([]:List Value).toArray}:=Heap.get?_push_size _ rfl;have hdlt:d<s.heap.objs.size:=by refine fD ?_ hm;clear hm;intro o _ ho _;exact xf ho
  have k1:∀b o,s.heap.get? b=some o→(s.heap.push {cls:= .type "list",data:= .seq ([]:List Value).toArray}).get? b=some o:=fun b o e=>Heap.get?_push_of_some _ e;have hm1:=hm.push {cls:= .type "list",data:= .seq ([]:List Value).toArray};have hz1:(s.heap.push {cls:= .type "list",data:= .seq ([]:List Value).toArray}).objs.size=s.heap.objs.size+1:=by rw [Heap.size_push]
  refine(?_:wpAny _ A.in1 (Builtin.List.listExtendWith (.ref s.heap.objs.size) (.ref d) (.ref s.heap.objs.size)) _ _ {s with heap:=s.heap.push {cls:= .type "list",data:= .seq ([]:List Value).toArray}})
  generalize hS:s.heap.objs.size=S at*;generalize s.heap.push {cls:= .type "list",data:= .seq ([]:List Value).toArray}=h1 at*
  have hT:({s with heap:=h1}:Shared).TypeIs (.ref d) "dict":=hm1.dictOf.typeIs;refine wpAny_bind (wpAny_typeOf hT ?_);have e1:Builtin.List.listSameRef (.ref S) (.ref d)=false:=by simp only [Builtin.List.listSameRef,beq_eq_false_iff_ne,ne_eq];exact Nat.ne_of_gt hdlt
  refine ah (if_neg (by rw [e1];decide)) ?_;refine wpAny_bind (wpAny_pyIter_dict hd hm1 ?_);refine wpAny_bind (wpAny_holding ?_);have hI:((h1.push {cls:= .type "dict_keyiterator",data:= .fields #[.ref d, .int 0 0, .int kvs.length 0, .int ep 0]}).IsKeyIter h1.objs.size d 0 kvs.length ep):=⟨_,Heap.get?_push_size _ rfl,rfl,rfl⟩;have hm2:=hm1.push {cls:= .type "dict_keyiterator",data:= .fields #[.ref d, .int 0 0, .int kvs.length 0, .int ep 0]};have k2:∀b o,h1.get? b=some o→(h1.push {cls:= .type "dict_keyiterator",data:= .fields #[.ref d, .int 0 0, .int kvs.length 0, .int ep 0]}).get? b=some o:=fun b o e=>Heap.get?_push_of_some _ e;dsimp only at hI⊢;rw [hz1] at hI⊢;generalize h1.push {cls:= .type "dict_keyiterator",data:= .fields #[.ref d, .int 0 0, .int kvs.length 0, .int ep 0]}=h2 at*
  have hT2:({s with heap:=h2}:Shared).TypeIs (.ref d) "dict":=hm2.dictOf.typeIs;refine oJ hT2 ?_;refine ah (if_pos (by decide+kernel)) ?_;refine wpAny_bind (wpAny_rule ?_);refine wpAny_bind ?_;have hS₂:=k2 _ _ hS₁;refine wpAny_bind (wpAny_updateSeq hS₂ rfl ?_);have hS₃:=Heap.get?_update_self (Obj.mapSeq (·.push Value.none)) hS₂ rfl;refine wpAny_updateSeq hS₃ rfl ?_;have hS₄:=Heap.get?_update_self (Obj.mapSeq (·.pop)) hS₃ rfl;have oth:∀b o,b≠S→h2.get? b=some o→((h2.update S (Obj.mapSeq (·.push Value.none))).update S (Obj.mapSeq (·.pop))).get? b=some o:=
    fun b o hb e=>(Heap.get?_update_other _ _ (Ne.symm hb)).trans ((Heap.get?_update_other _ _ (Ne.symm hb)).trans e)
  have W:=(Walks.dictKeys (knd:=intKind prog w) (A:=A.in1) hh (S+1) d (Nat.ne_of_lt (Nat.lt_succ_of_lt hdlt)) kvs ep).toS;have hSd:S≠d:=Nat.ne_of_gt hdlt;have hI4:((h2.update S (Obj.mapSeq (·.push Value.none))).update S (Obj.mapSeq (·.pop))).IsKeyIter (S+1) d 0 kvs.length ep:=hI.at fun o e=>oth _ _ (Nat.succ_ne_self S) e;have hm4:((h2.update S (Obj.mapSeq (·.push Value.none))).update S (Obj.mapSeq (·.pop))).DictAt (intKind prog w) d kvs ep:=hm2.at' fun o e=>oth _ _ (Ne.symm hSd) e;refine wpAny_pure ⟨plainId_quiet PySem.F.plain_extend_loop _,codeAny_extend_loopS W hn S (by simp;exact hSd) _ _ 0 _ _ _ rfl (xd _) ⟨hI4,hm4⟩ hS₄ (ItemsOf.nil _) fun s' acc' c' hmv hS' hacc=> ?_⟩
  refine(?_:wpAny _ A (load S>>=_) _ _ s')
  refine wpAny_bind (wpAny_load hS' ?_);refine wpAny_pure (hQ s' acc' (fun b o e=> ?_) hmv.gens hmv.drawn hmv.os hacc);have hb:b<S:=by refine ch hS ?_;exact xf e
  exact hmv.heap b o (by simp;exact⟨Nat.ne_of_lt hb,Nat.ne_of_lt (Nat.lt_succ_of_lt hb)⟩) (oth b o (Nat.ne_of_lt hb) (k2 b o (k1 b o e)))
noncomputable def GV (vs:List Value)(p:KD):Prop:=IK p∧p.2∈vs
theorem mh {vs:List Value}(hi:∀v∈vs,∃n t,v= .int n t):AG (GV vs) (pairsOf vs):=by
  intro p hp;rw [pairsOf_toList] at hp;exact⟨hi _ (mem_zip_self hp).2,(List.of_mem_zip hp).2⟩
theorem ql {vs:List Value}{xs:Array KD}(hp:AG (GV vs) xs):∀v∈(xs.map (·.2)).toList,v∈vs:=by
  intro v hv;rw [Array.toList_map] at hv;refine aY ?_ (List.mem_map.mp hv);rintro p h1 rfl
  exact(hp p h1).2
theorem jJ {a:Addr}{vs:List Value}{n:Nat}{P:Fin→Shared→Prop}(ho:s.heap.get? a=some (seqObj "list" vs.toArray n))(hi:∀v∈vs,∃n t,v= .int n t)(hl:vs.length≤100)
    (h:∀out:Array Value,(∀v∈out.toList,v∈vs)→out.size=vs.length→P (.done (.ret .none)) {s with heap:=sortedHeap s.heap a vs out}):wpAny (model prog w) A (Builtin.«list.sort» ⟨[.ref a],[]⟩) P E s:=by
  rw [list_sort_plain];have ha:a<s.heap.objs.size:=xf ho;refine wpAny_bind (listItems_at ho rfl ?_);refine wpAny_bind (listUpdate_at ho rfl ?_ (by simp;refine ah sizeLine_eq ?_;exact wV hl (wW rfl)));obtain ⟨e1,ho1⟩:∃e1,(s.heap.update a (Obj.mapSeq fun _=>#[])).get? a=some (seqObj "list" #[] e1):=⟨_,get?_update_seq ho (fun _=>#[])⟩;refine wpAny_bind (seqEpoch_at ho1 rfl ?_);refine wpAny_bind (wpAny_newTuple ?_);refine wpAny_bind (wpAny_newList ?_);refine wpAny_holding ?_;have ho6:(((s.heap.update a (Obj.mapSeq fun _=>#[])).push (seqObj "tuple" vs.toArray 0)).push (seqObj "list" #[] 0)).get? a=some (seqObj "list" #[] e1):=by
    refine ah (Heap.get?_push_ne _ _ _ (by rw [size_push',Heap.size_update];exact Nat.ne_of_lt (Nat.lt_succ_of_lt ha))) (ah (Heap.get?_push_ne _ _ _ (by rw [Heap.size_update];exact Nat.ne_of_lt ha)) ?_);exact ho1
  dsimp only;have hsz:vs.toArray.size=vs.length:=rfl
  by_cases h2:vs.toArray.size<2
  · refine ah (if_pos h2) (ah (if_pos h2) ?_);refine wpAny_bind (wpAny_pure ?_);rw [StateT.run_pure];refine wpAny_bind (wpAny_pure ?_);refine wpAny_bind (seqEpoch_at ho6 rfl ?_);refine wpAny_bind (listUpdate_at ho6 rfl ?_ (hsz2:=by refine ah Array.size_map ?_;refine(?_:(pairsOf vs).size≤_);rewrite [pairsOf_size];refine ah sizeLine_eq ?_;exact wV (wV (wX hsz.symm) (wY h2)) (wW rfl)));simp only [bne_self_eq_false,Bool.false_eq_true,if_false];exact wpAny_pure (h _ (ql (mh hi)) ((Array.size_map ..).trans (pairsOf_size _)))
  · refine ah (if_neg h2) (ah (if_neg h2) ?_);have hk:keyKind' vs.toArray=pure oneType':=by
      match vs,hi,hsz,h2 with
      | [],_,_,h2=>simp at h2
      | [_],_,_,h2=>simp at h2
      | v₁::v₂::rest,hi,_,_=>exact keyKind_ints (intsAre_map _ hi)
    refine ah hk ?_;refine wpAny_bind (wpAny_pure ?_);refine wpAny_bind (wpAny_mono (lh (G:=GV vs) (N:=(pairsOf vs).size) (st:=SortSt.mk' oneType' (vs.toArray.zip vs.toArray) #[] 7 none)
      (Q:=fun _ st'=>SP (GV vs) (pairsOf vs).size st') (fun p h=>h.1) ⟨mh hi,rfl,rfl,rfl⟩ rfl fun st' P'=>P') ?_ fun _ _ e=>e)
    rintro ⟨⟨⟩,st'⟩ s' ⟨rfl,hp,hsz,_,hf⟩;dsimp only;refine wpAny_bind (seqEpoch_at ho6 rfl ?_);refine wpAny_bind (listUpdate_at ho6 rfl ?_ (hsz2:=by refine wV (wX ((Array.size_map ..).trans (hsz.trans (pairsOf_size _)))) ?_;refine ah sizeLine_eq ?_;exact wV hl (wW rfl)))
    refine ah hf ?_;simp only [bne_self_eq_false,Bool.false_eq_true,if_false];exact wpAny_pure (h _ (ql hp) ((Array.size_map ..).trans (hsz.trans (pairsOf_size _))))
end
section
variable {B:Bs}{n:Nat}{m:ax}{Q:V→AH→Prop}{E:Str→AH→Prop}{σ:AH}
theorem wD {K:Type}{T:TM}:∀{xs:List (K×V)} {ks:List (K×Value)},dU T xs ks→ks.map Prod.fst=xs.map Prod.fst
  | [],_,rfl=>rfl
  | x::xs,_,⟨v,r,rfl,_,h⟩=>by exact ah List.map_cons (ah List.map_cons (ah (wD h) rfl))
theorem nU {a:Addr}{es:List (Int×V)}(e:σ a=some (.idict es))(hz:es.length≤100)
    (q:∀b (kk:List Int),σ b=none→(∀z∈kk,z∈es.map Prod.fst)→kk.length=es.length→Q (.ref b) (σ.set b (.list (kk.map V.int)))):CV B n (.bi "sorted") [.ref a] Q E σ:=by
  intro Γ A T mc kc s vf vs G HA HS hf hv
  cases (show vf= .builtin "sorted" from hf)
  refine cg ?_ hv;clear hv;rintro v1 _ rfl hv1 hv4
  cases hv4
  cases (show v1= .ref a from hv1)
  obtain ⟨own,dof,I,hm⟩:=id HS;refine et ?_ (I.ob a _ e);intro ha ks d1 hr hz' hne1;have hd:(a==sysModules)=false:=by
    simp only [beq_eq_false_iff_ne,ne_eq];exact hne1
  refine uE ?_ d1.dictAt;intro ep dA;have hlen:ks.length=es.length:=dU.length hr;refine Calls.call_function_entry kind_sorted plain_sorted entry_sorted (args_sorted1 _) ?_;refine wpAny_bind (m:=checkCount "sorted" 1 1 _) (wpAny_pure ?_);refine wpAny_bind (kL (show A.in1.handled=none from HA.handled) hd dA (by refine ah hlen (ah sizeLine_eq ?_);exact wV hz (wW rfl)) fun s1 acc hk hg hdr hos hacc=> ?_);have hints:∀v∈acc.toList,∃n t,v= .int n t∧n∈es.map Prod.fst:=by
    intro v hv;refine eu ?_ (List.getElem_of_mem hv);intro j hj hjv;refine fD ?_ (hacc.2 j v (ch Array.getElem?_toList (ah (w7 hj) (ah hjv rfl))));intro k x hkx hkv;refine uE ?_ (Value.isInt_shape hkv);rintro t rfl;refine⟨k,t,rfl, ?_⟩;refine ch (wD hr) ?_;exact List.mem_map_of_mem (f:=Prod.fst) (List.mem_of_getElem? hkx)
  have hacl:acc.toList.length≤100:=by refine ah Array.length_toList (ah hacc.1 (ah hlen ?_));exact hz
  refine wpAny_bind (wpAny_newList ?_);have hoL:(s1.heap.push (seqObj "list" acc.toList.toArray 0)).get? s1.heap.objs.size=some (seqObj "list" acc.toList.toArray 0):=Heap.get?_push_size _ rfl;have hD:s.heap.get? s1.heap.objs.size=none:=by
    cases h:s.heap.get? s1.heap.objs.size with
    | none=>rfl
    | some o=>exact absurd (xf (hk _ _ h)) (xl _)
  have hk2:∀b o,s.heap.get? b=some o→(s1.heap.push (seqObj "list" acc.toList.toArray 0)).get? b=some o:=fun b o e=>Heap.get?_push_of_some _ (hk b o e);have hlt:∀b o,s.heap.get? b=some o→b<s1.heap.objs.size:=fun b o e=>xf (hk b o e);have hsz:(s1.heap.push (seqObj "list" acc.toList.toArray 0)).objs.size=s1.heap.objs.size+1:=size_push' _ _;generalize s1.heap.objs.size=D at*;generalize s1.heap.push (seqObj "list" acc.toList.toArray 0)=h2 at*;refine wpAny_bind (wpAny_holding (wpAny_call_entry slot_list_sort ⟨_,hoL,rfl⟩ entry_list_sort (jJ (n:=0) hoL (fun v hv=>by refine fD ?_ (hints v hv);intro n t h _;exact⟨n,t,h⟩) hacl fun out hout hosz=>⟨_,rfl, ?_⟩) (args_list_sort _)));refine wpAny_pure ⟨_,rfl, ?_⟩;refine uE ?_ (sortedHeap_at (vs:=acc.toList) (out:=out) hoL);intro ee hat;have hrv:∀l:List Value,(∀v∈l,∃n t,v= .int n t)→bS T ((l.map numOf).map V.int) l:=by
    intro l
    induction l with
    | nil=>intro _;rfl
    | cons v l ih=>
      intro h;refine eu ?_ (h _ (.head _));rintro n t rfl;exact⟨_,_,rfl,⟨t,rfl⟩,ih fun v hv=>h v (.tail _ hv)⟩
  have hout2:∀v∈out.toList,∃n t,v= .int n t∧n∈es.map Prod.fst:=fun v hv=>hints v (hout v hv);have hol:out.toList.length=es.length:=ah Array.length_toList (ah hosz (ah Array.length_toList (ah hacc.1 (ah hlen rfl))));refine⟨T,_, .ref D,cC.refl T,⟨_,dof,I.newL G hD (fun b o e=> ?_) ⟨ee,hat⟩ (hrv out.toList fun v hv=>by refine fD ?_ (hout2 v hv);intro n t h _;exact⟨n,t,h⟩) (by rewrite [List.length_map];rewrite [List.length_map];refine ah hol ?_;exact hz'), ?_⟩,rfl,q D _ (I.noneAt G hD) ?_ (by rewrite [List.length_map];exact ah hol rfl)⟩
  · refine ah (sortedHeap_old (Nat.ne_of_lt (hlt b o e)) (by rw [hsz];exact Nat.lt_succ_of_lt (hlt b o e))) ?_;exact hk2 b o e
  · exact⟨hg.trans hm.1,hdr.trans hm.2.1,hos.trans hm.2.2⟩
  · intro z hz;refine aY ?_ (List.mem_map.mp hz);rintro v hv rfl;refine fD ?_ (hout2 v hv);rintro n t rfl h;exact h
end
end
section
structure sV (B:Bs)(n:Nat)(A:Around)(σ:AH)(s:Shared):Prop where
  stat:pz B s.heap
  frames:A.frames=some []
  handled:A.handled=none
  depth:A.depth+n<recursionLimit
  units:A.units+8*n<cLine
  ob:∀a o,σ a=some o→dd B (fun _=>none) s.heap s.heap [] id a o∧o.isInst=false
noncomputable def TC (B:Bs)(n:Nat)(f:Addr)(xs:List V)(Q:V→AH→Prop)(σ:AH):Prop:=
  ∀A s vs,sV B n A σ s→bS (fun _=>none) xs vs→wpAny B.M A (call (.ref f) vs) (fun v s'=>(∀b o,s.heap.get? b=some o→s'.heap.get? b=some o)∧Sm s s'∧∃T' σ' x,RV T' x v∧Q x σ') (fun _ _=>False) s
section
variable {B:Bs}{n:Nat}{Q:V→AH→Prop}{σ:AH}
theorem sT {G:Str→Option V}{f:Addr}{ps:List Str}{body:List Stmt}{scope:Scope}{xs:List V}(F:sN B.K f ps body scope)(hG:∀x v,G x=some v→dy B x v)(hl₀:xs.length=ps.length)
    (h:bu B n (iA G ps xs scope.names) body (fun fl _ σ'=>Q (match fl with | .ret v=>v | _=> .none) σ') (fun _ _=>False) σ):TC B (n+1) f xs Q σ:=by
  intro A s vs O hv;refine wpAny_call ?_;obtain ⟨name,qual,params,dV,kV,doc,pm,an,cdv,ct,oc,od,osl,ho,hcd,hco,hgen,hk,hok,hnd,hbind⟩:=F;have X:=O.stat.k;have hok':=hok;unfold fL at hok';refine uA ?_ (Bool.and_eq_true_iff.mp hok');intro ok1 ok2;have ok1':∀x k,(x,k)∈scope.names→scope.names.lookup x=some k∧(x==("__debug__":Str))=false:=fun x k hm=>by
    have:=List.all_eq_true.mp ok1 _ hm;simp only [Bool.and_eq_true,beq_iff_eq] at this;exact this
  refine aY ?_ (hbind s vs X (by exact hv.length.trans hl₀));intro dv hdv hbind;have hdv0:dv=[]:=hdv (fun _=>none);subst hdv0;rw [List.append_nil] at hbind;have hlv:vs.length=ps.length:=hv.length.trans hl₀;refine codeAny_call_function (fd:=fnOf name qual params body scope dV kV doc pm an cdv ct) (body:=body) (by have:=O.depth;lia) (X _ _ ho) rfl hco hgen rfl (codeRec_of X hcd) ?_;refine hbind _ _ _ _ ?_;have memL:∀x k,scope.names.lookup x=some k→(x,k)∈scope.names:=fun x k e=>mem_of_lookup e;refine wpAny_newFunctionEnv_cells hk (fun b hb=> ?_) fun env he s' x=> ?_
  · have hp:b.1∈ps:=(List.of_mem_zip hb).1;have:=List.all_eq_true.mp ok2 _ hp;simp only [Bool.or_eq_true,beq_iff_eq] at this
    rcases this with h1 | h1
    · exact .inl h1
    · exact .inr ⟨h1,c8 _ _ _ (.inr (memL _ _ h1))⟩
  refine⟨O.stat.l.keeps x.toInCall.keep,codeAny_func ?_⟩;have eL:env.locals=s.heap.objs.size:=by refine ah he ?_;rfl
  have eC:env.cells=cellsFrom (s.heap.objs.size+1) scope.names []:=by refine ah he ?_;rfl
  have eS:env.scope=scope:=by refine ah he ?_;rfl
  have G':mB B ({env:=env,h₀:=s.heap,snap:=[],frs:=[env],pin:=[],sh:=s}:Fc):=
  { stat:=O.stat
    kind:=by refine ah eS ?_;exact hk
    glb:=by refine ah he ?_;rfl
    blt:=by refine ah he ?_;rfl
    frs:=fun e hm=>by
      rcases List.mem_cons.mp hm with rfl | hm
      · exact⟨by refine ah eS (ah hk ?_);decide,_,by refine ah he ?_;rfl, .inl (by refine ah he ?_;rfl)⟩
      · cases hm
    snf:=fun p hp=>by cases hp
    pnf:=fun p hp=>by cases hp
    sn0:=fun p hp=>by cases hp
    snL:=fun p hp=>by cases hp
    hd:=⟨_,rfl⟩
    fr:=by refine ah he ?_;rfl}
  have HA':ea n ({env:=env,h₀:=s.heap,snap:=[],frs:=[env],pin:=[],sh:=s}:Fc) (A.deeper env):=
    ⟨Around.frames_deeper O.frames,O.handled,wZ (wX (Nat.add_right_comm _ 1 _)) O.depth,wZ (wV (wX (Nat.add_assoc _ 3 _)) (xe (wV (wX (Nat.add_comm 3 _)) (xe (wW rfl) _)) _)) O.units⟩
  have HI:SI B ({env:=env,h₀:=s.heap,snap:=[],frs:=[env],pin:=[],sh:=s}:Fc) (fun _=>none) (bindL env.kindOf (ps.zip vs) fun _=>none) (bindC env.kindOf (ps.zip vs) fun _=>none) σ [] id s'.heap:=
  { ns:=x.toInCall.ns
    keep:=fun b o e=>x.toInCall.keep b o e
    above:=x.toInCall.fresh
    ow:=fun a ha=>by cases ha
    sn:=fun p hp=>by cases hp
    pn:=fun p hp=>by cases hp
    pt:=fun p hp=>by cases hp
    cl:=fun y c e=>x.cell y c e
    tp:=fun a ws e=>by exact nn e
    ob:=fun a o e=>(O.ob a o e).1.keeps x.toInCall.keep
    inj:=fun a o a' o' e i _ _ _=>by rw [(O.ob a o e).2] at i;exact ft i
    dsj:=fun a o b o' e i _ _=>by rw [(O.ob a o e).2] at i;exact ft i}
  have hsm:Sm s s':=by refine eu ?_ x.toInCall.same;rintro h' tk rfl;exact⟨rfl,rfl,rfl⟩
  have HR:bT B ({env:=env,h₀:=s.heap,snap:=[],frs:=[env],pin:=[],sh:=s}:Fc) (fun _=>none) (bindL env.kindOf (ps.zip vs) fun _=>none) (bindC env.kindOf (ps.zip vs) fun _=>none) (iA G ps xs scope.names):=by
    intro y sl e;refine aY ?_ (kS e);intro k h1 h2;refine uA ?_ (ok1' y k h1);intro h3 h4;have hkind:env.kindOf y=some k:=by refine(?_:env.scope.names.lookup y=_);refine ah eS ?_;exact h3
    refine⟨h4, ?_⟩
    cases k with
    | «local»=>
      (refine sj ?_ h2;clear h2;intro e1;subst e1)
      exact⟨hkind,fun v hv'=>(fE ps xs vs hnd hv hv').elim fun c h=>⟨c,h.2.1 hkind _,h.1⟩⟩
    | cell=>
      (refine sj ?_ h2;clear h2;intro e1;subst e1)
      refine uE ?_ (Option.isSome_iff_exists.mp (c8 scope.names (s.heap.objs.size+1) [] (.inr h1)));intro c hc;rw [←eC] at hc;refine⟨hkind,⟨c,hc, ?_,fun z hz=> ?_⟩,fun v hv'=>(fE ps xs vs hnd hv hv').elim fun c h=>⟨c,h.2.2 hkind _,h.1⟩⟩
      · cases q:s.heap.get? c with
        | none=>rfl
        | some o=>
          have h5:=xf q;have h6:=x.above y c (mem_of_lookup hc);rw [eL] at h6;exact absurd h5 (Nat.not_lt.mpr (wY h6))
      · exact name_of_addr x.apart (mem_of_lookup hz) (mem_of_lookup hc)
    | globalImplicit=>
      refine aY ?_ (Option.map_eq_some_iff.mp h2);rintro v h5 rfl;exact⟨hkind,hG y v h5⟩
    | _=>exact nn h2
  have key:=h ({env:=env,h₀:=s.heap,snap:=[],frs:=[env],pin:=[],sh:=s}:Fc) (A.deeper env) (fun _=>none) _ _ s' G' HA' ⟨[],id,HI,hsm⟩ HR;refine wpAny_mono key (fun fl s₁ h₁=> ?_) fun ev s₁ h₁=> ?_
  · obtain ⟨T',mc',kc',m',σ',x',hT,⟨own',dof',I',hm'⟩,HL',hx',hq⟩:=h₁;refine⟨I'.keep,hm',T',σ',_, ?_,hq⟩
    cases x' with
    | ret v=>refine aY ?_ hx';clear hx';rintro w' rfl hw;exact hw
    | next=>cases (show fl= .next from hx');rfl
    | brk=>cases (show fl= .brk from hx');rfl
    | cont=>cases (show fl= .cont from hx');rfl
  · obtain ⟨_,_,_,_,_,_,_,_,_,_,_,_,_,hq⟩:=h₁;exact hq.elim
end
end
section
section
variable {M:Model}{A:Around}{E:Value→Shared→Prop}{s:Shared}
theorem jG {its:List (Sem Value×Sem Value)}{Q:Value→Shared→Prop}(h0:its≠[])(h17:its.length<17)(h1:wpAny M A (subDict its) (fun d s'=>Q (.ref d) s') E s):wpAny M A (dictDisplay (its.map fun p=>(some p.1,p.2))) Q E s:=by
  refine wpAny_bind (wpAny_forIn_list (s:=s) _ (fun rest st s'=>∃i,i≤its.length∧rest=(its.drop i).map (fun p=>(some p.1,p.2))∧st=(none,its.take i)∧s'=s) _ ?_ ?_ _ _ ⟨0,xd _,rfl,rfl,rfl⟩)
  · intro x rest b s';refine bI ?_;intro i hi hr;refine uA ?_;rintro rfl rfl
    rcases Nat.lt_or_ge i its.length with hlt | hge
    · rw [List.drop_eq_getElem_cons hlt,List.map_cons] at hr;refine uA ?_ (List.cons.inj hr);rintro rfl rfl;have htk:its.take i++[(its[i].1,its[i].2)]=its.take (i+1):=List.take_append_getElem hlt;dsimp only;refine ah htk ?_;have hl:¬((its.take (i+1)).length==17)=true:=by rewrite [beq_iff_eq];refine ah List.length_take ?_;exact fun z=>Nat.ne_of_lt (wZ (Nat.min_le_right _ _) h17) z
      refine ah (if_neg hl) ?_;exact wpAny_pure ⟨i+1,hlt,rfl,rfl,rfl⟩
    · rw [List.drop_of_length_le hge] at hr;cases hr
  · intro b s';refine bI ?_;intro i hi hr;refine uA ?_;rintro rfl rfl;have hie:i=its.length:=by have:=congrArg List.length hr;simp at this;exact ac (Eq.symm this) hi
    subst hie;refine ah List.take_length ?_;have hne:its.isEmpty=false:=by rw [List.isEmpty_eq_false_iff];exact h0
    simp only [hne,Bool.false_eq_true,if_false];refine wpAny_bind (wpAny_bind (wpAny_mono h1 (fun d s' hR=>wpAny_pure (wpAny_pure hR)) fun _ _ x=>x))
end
section
variable {B:Bs}{n:Nat}{m:ax}{Q:V→AH→Prop}{E:Str→AH→Prop}{σ:AH}
theorem o8 {k1 k2 k3:Str}{d1 d2 d3:Nat}{p1 p2 p3 pos:Pos}{v1 v2 v3:Expr}(hnd:[k1,k2,k3].Nodup)
    (h:∀d,σ d=none→EV B n m v1 (fun x1 σ1=>EV B n m v2 (fun x2 σ2=>EV B n m v3 (fun x3 σ3=>σ3 d=some (.sdict [])∧Q (.ref d) (σ3.set d (.sdict [(k1,x1),(k2,x2),(k3,x3)]))) E σ2) E σ1) E (σ.set d (.sdict []))):
    EV B n m (.Dict [some (.Constant (.str k1) d1 p1),some (.Constant (.str k2) d2 p2),some (.Constant (.str k3) d3 p3)] [v1,v2,v3] pos) Q E σ:=by
  intro Γ A T mc kc s G HA HS HL;rw [arm_eval_Dict];refine wpAny_bind (wpAny_standAt ?_);refine jG (its:=[(eval (.Constant (.str k1) d1 p1) Γ.env,do let x ←eval v1 Γ.env;standAt pos;pure x),(eval (.Constant (.str k2) d2 p2) Γ.env,do let x ←eval v2 Γ.env;standAt pos;pure x),(eval (.Constant (.str k3) d3 p3) Γ.env,do let x ←eval v3 Γ.env;standAt pos;pure x)]) (by simp) (by simp) ?_;refine uA ?_ (md G HS);intro hd HS';have h:=h _ hd;refine wpAny_bind (wpAny_alloc ?_);refine wpAny_bind (wpAny_holding ?_);refine ah (if_pos (by simp)) ?_;generalize s.heap.objs.size=d at*;refine wpAny_bind (evalPairs_cons (show wpAny B.M A (eval (.Constant (.str k1) d1 p1) Γ.env) _ _ _ from wpAny_Constant_str ?_));refine wpAny_bind (wpAny_mono (h Γ A T mc kc _ G HA (HS'.toks _) HL) ?_ fun _ _ x=>x);rintro w1 s1 ⟨T1,σ1,x1,hT1,HS1,hx1,h⟩;refine wpAny_bind (wpAny_standAt (wpAny_pure ?_));refine evalPairs_cons (show wpAny B.M A (eval (.Constant (.str k2) d2 p2) Γ.env) _ _ _ from wpAny_Constant_str ?_);refine wpAny_bind (wpAny_mono (h Γ A T1 mc kc _ G HA (HS1.toks _) (HL.mono hT1)) ?_ fun _ _ x=>PE.mono hT1 x);rintro w2 s2 ⟨T2,σ2,x2,hT2,HS2,hx2,h⟩;refine wpAny_bind (wpAny_standAt (wpAny_pure ?_));refine evalPairs_cons (show wpAny B.M A (eval (.Constant (.str k3) d3 p3) Γ.env) _ _ _ from wpAny_Constant_str ?_);refine wpAny_bind (wpAny_mono (h Γ A T2 mc kc _ G HA (HS2.toks _) ((HL.mono hT1).mono hT2)) ?_ fun _ _ x=>PE.mono (hT1.trans hT2) x);rintro w3 s3 ⟨T3,σ3,x3,hT3,HS3,hx3,hd3,hq⟩;refine wpAny_bind (wpAny_standAt (wpAny_pure ?_));refine evalPairs_nil ?_;refine wpAny_holding ?_;refine wpAny_bind (fB G [(k1,x1),(k2,x2),(k3,x3)] [] _ _ _ HS3 hd3 (by simpa using hnd) (by simp) ⟨rfl,fun i g1 g2=> ?_⟩ fun s'' HS''=>wpAny_pure (wpAny_pure ?_))
  · match i,g2 with
    | 0,_=>exact⟨⟨_,rfl⟩,RV.mono (hT2.trans hT3) _ hx1⟩
    | 1,_=>exact⟨⟨_,rfl⟩,RV.mono hT3 _ hx2⟩
    | 2,_=>exact⟨⟨_,rfl⟩,hx3⟩
  · exact⟨T3,_, .ref d,(hT1.trans hT2).trans hT3,HS'',rfl,hq⟩
end
end
section
noncomputable abbrev HK:=hdx.heap_1_1
theorem rH (P:Params)(k:nV):kitOne (HK P) k.val (.ref 82)=some k.isCons∧(kitOne (HK P) k.val (.ref 125)=some false∧kitOne (HK P) k.val (.ref 146)=some false∧kitOne (HK P) k.val (.ref 104)=some false∧kitOne (HK P) k.val (.ref 181)=some false)∧kitOne (HK P) k.val (.type "int")=some k.isInt∧kitOne (HK P) k.val (.type "bool")=some k.isBool:=by
  cases k<;>exact⟨rfl,⟨rfl,rfl,rfl,rfl⟩,rfl,rfl⟩
theorem qC (P:Params):KO (HK P) where
  isi:=by
    intro k c b cv h hr;have ko:=rH P k
    cases c<;>first | exact nn h | skip
    · rename_i a
      cases (show cv= .ref a from hr)
      have h:(if a=82 then some k.isCons else if a=125∨a=146∨a=104∨a=181 then some false else none)=some b:=h
      by_cases e:a=82
      · rw [if_pos e] at h;subst e;exact ko.1.trans h
      · rw [if_neg e] at h
        by_cases e2:a=125∨a=146∨a=104∨a=181
        · rw [if_pos e2] at h
          rcases e2 with rfl | rfl | rfl | rfl
          · exact ko.2.1.1.trans h
          · exact ko.2.1.2.1.trans h
          · exact ko.2.1.2.2.1.trans h
          · exact ko.2.1.2.2.2.trans h
        · rw [if_neg e2] at h;exact nn h
    · rename_i x
      cases (show cv= .type x from hr)
      have h:(if x="int" then some k.isInt else if x="bool" then some k.isBool else none)=some b:=h
      by_cases e:x="int"
      · rw [if_pos e] at h;subst e;exact ko.2.2.1.trans h
      · rw [if_neg e] at h
        by_cases e2:x="bool"
        · rw [if_pos e2] at h;subst e2;exact ko.2.2.2.trans h
        · rw [if_neg e2] at h;exact nn h
  own82:=⟨rfl,rfl,rfl,rfl,rfl,rfl⟩
  own58:=⟨rfl,rfl,rfl,rfl,rfl,rfl⟩
  car:=⟨rfl,rfl,_,rfl,rfl⟩
  cdr:=⟨rfl,rfl,_,rfl,rfl⟩
  scar:=⟨rfl,rfl,rfl,rfl⟩
  scdr:=⟨rfl,rfl,rfl,rfl⟩
  mak:=rfl
end
section
noncomputable def s0:List (Str×V):=
  [("LispSignal", .ref 38),("Symbol", .ref 58),("NIL", .ref 64),("Cons", .ref 82),("Text", .ref 104),("Vector", .ref 125),("ByteCode", .ref 146),("Opaque", .ref 181),
   ("list_of", .ref 193),("split_list", .ref 200),("items_of", .ref 207),("is_whole", .ref 214),("is_list", .ref 221),("LONGEST", .int 100000)]
noncomputable def s7:List (Str×V):=
  [("wrong", .ref 228),("need_list", .ref 235),("need_cons", .ref 242),
   ("need_whole", .ref 249),("things_of", .ref 256),("car_of", .ref 263),("cdr_of", .ref 270),("lisp_car", .ref 277),("lisp_cdr", .ref 284),("lisp_cons", .ref 291),("lisp_list", .ref 298),("lisp_setcar", .ref 305),
   ("lisp_setcdr", .ref 312),("lisp_proper_list_p", .ref 319),("MOST_STEPS", .int 100000),("eq", .ref 326),("parts_of", .ref 331),("are_of_one_class", .ref 338),("equal_by", .ref 345),("are_any", .ref 352),("equal", .ref 359),
   ("ring_of", .ref 366),("rest_at", .ref 373)]
noncomputable def s8:List (Str×V):=
  [("lisp_nthcdr", .ref 380),("lisp_nth", .ref 387),("lisp_take", .ref 394),("lisp_last", .ref 401),("lisp_butlast", .ref 408),("last_pair", .ref 415),("lisp_nconc", .ref 422),
   ("lisp_memq", .ref 429),("lisp_member", .ref 436),("rest_from", .ref 443),("left_out", .ref 450),("lisp_delq", .ref 457),("lisp_remq", .ref 462),("pair_with", .ref 469),("lisp_assq", .ref 476),("lisp_assoc", .ref 483),
   ("lisp_rassq", .ref 490),("lisp_copy_alist", .ref 495),("_law_deck", .ref 500)]
noncomputable def s9:List (Str×V):=
  [("_law_draw", .ref 507),("_law_cell", .ref 514),("_law_chain", .ref 521),("_law_proper", .ref 528),("_law_made", .ref 535),("_law_like", .ref 542),
   ("_law_part", .ref 549),("_law_nthcdr", .ref 556),("_law_simple", .ref 563),("_law_ends", .ref 570),("_law_sought", .ref 575),("_law_reaches", .ref 582),("_law_is_same", .ref 587),("_law_holds", .ref 594),
   ("isinstance", .bi "isinstance"),("len", .bi "len"),("abs", .bi "abs"),("max", .bi "max"),("int", .ty "int"),("bool", .ty "bool"),("range", .ty "range"),("zip", .ty "zip"),("sorted", .bi "sorted"),
   ("_law_thing", .ref 601),("_law_deed", .ref 608),("_law_args", .ref 615),("_law_is_right", .ref 620)]
noncomputable def lY:List (Str×V):=s0++s7++s8++s9
noncomputable def qu:List (Str×V)→Str→Option V
  | [],_=>none
  | (k,v)::r,x=>if k=x then some v else qu r x
theorem nK:∀{l:List (Str×V)} {x:Str} {v:V},qu l x=some v→(x,v)∈l
  | [],_,_,h=>by exact nn h
  | (k,w)::r,x,v,h=>by
    unfold qu at h
    (with_reducible refine rm ?_ ?_ h<;>(clear h;intro _ h))
    · rename_i e;(refine sj ?_ h;clear h;intro e1;subst e1);subst e;exact .head _
    · exact .tail _ (nK h)
noncomputable def pW (K:Frag)(l:List (Str×V)):Bool:=l.all fun e=>match e.2 with
  | .ref a=>(match nsIn K mainGlobals e.1 with | some (some (.ref b))=>b==a | _=>false)
  | .int i=>(match nsIn K mainGlobals e.1 with | some (some (.int j _))=>j==i | _=>false)
  | .bi n=>(match nsIn K mainGlobals e.1,bootBuiltins e.1 with | some none,some (.builtin m)=>m==n&& !(e.1==("__name__":Str)) | _,_=>false)
  | .ty n=>(match nsIn K mainGlobals e.1,bootBuiltins e.1 with | some none,some (.type m)=>m==n&& !(e.1==("__name__":Str)) | _,_=>false)
  | _=>false
theorem mj {B:Bs}{l:List (Str×V)}(h:pW B.K l=true){x:Str}{v:V}(hm:(x,v)∈l):dy B x v:=by
  have h1:=List.all_eq_true.mp h _ hm;dsimp only at h1
  cases v<;>dsimp only at h1<;>first | (exact ft h1;done) | skip
  · rename_i i
    cases e:nsIn B.K mainGlobals x with
    | none=>rw [e] at h1;exact ft h1
    | some o=>
      rw [e] at h1
      cases o with
      | none=>exact ft h1
      | some v=>cases v with
        | int j t=>cases (eq_of_beq h1);exact⟨_,fun T=>⟨t,rfl⟩, .inl e⟩
        | _=>exact ft h1
  · rename_i a
    cases e:nsIn B.K mainGlobals x with
    | none=>rw [e] at h1;exact ft h1
    | some o=>
      rw [e] at h1
      cases o with
      | none=>exact ft h1
      | some v=>cases v with
        | ref b=>cases (eq_of_beq h1);exact⟨_,fun T=>rfl, .inl e⟩
        | _=>exact ft h1
  · rename_i a
    cases e:nsIn B.K mainGlobals x with
    | none=>rw [e] at h1;exact ft h1
    | some o=>cases o with
      | some o=>rw [e] at h1;exact ft h1
      | none=>cases e2:bootBuiltins x with
        | none=>rw [e,e2] at h1;exact ft h1
        | some v=>
          rw [e,e2] at h1
          cases v with
          | type m=>
            refine uA ?_ (Bool.and_eq_true_iff.mp h1);clear h1;intro h1 h2
            cases (eq_of_beq h1)
            exact⟨_,fun T=>rfl, .inr ⟨e,e2,fun q=>by rw [q] at h2;exact ft h2⟩⟩
          | _=>exact ft h1
  · rename_i a
    cases e:nsIn B.K mainGlobals x with
    | none=>rw [e] at h1;exact ft h1
    | some o=>cases o with
      | some o=>rw [e] at h1;exact ft h1
      | none=>cases e2:bootBuiltins x with
        | none=>rw [e,e2] at h1;exact ft h1
        | some v=>
          rw [e,e2] at h1
          cases v with
          | builtin m=>
            refine uA ?_ (Bool.and_eq_true_iff.mp h1);clear h1;intro h1 h2
            cases (eq_of_beq h1)
            exact⟨_,fun T=>rfl, .inr ⟨e,e2,fun q=>by rw [q] at h2;exact ft h2⟩⟩
          | _=>exact ft h1
theorem qT (P:Params):pW (HK P) lY=true:=by kernel_rfl
theorem dD {B:Bs}{P:Params}(hK:B.K=HK P):∀x v,qu lY x=some v→dy B x v:=fun x v h=>mj (by refine ah hK ?_;exact qT P) (nK h)
end
section
end
section
inductive W where
  | num (i:Int) | nil | cell (k:Nat)
  deriving DecidableEq
noncomputable abbrev St:=List (W×W)
noncomputable def W.isCell (w:W):Bool:=match w with
  | .cell _=>true | _=>false
noncomputable def ev (P:Nat→Addr)(w:W):V:=match w with
  | .num i=> .int i
  | .nil=> .ref 64
  | .cell k=> .ref (P k)
noncomputable def Ok (D:Nat→Prop)(w:W):Prop:=match w with
  | .cell k=>D k
  | _=>True
structure Lk (σ:AH)(C:St)(D:Nat→Prop)(P:Nat→Addr):Prop where
  nil:σ 64=some (.stat 58)
  at_:∀k,D k→∃a d,C[k]?=some (a,d)∧Ok D a∧Ok D d∧σ (P k)=some (pF (ev P a) (ev P d))
  inj:∀j k,D j→D k→P j=P k→j=k
noncomputable def W.cls (w:W):nV:=match w with
  | .num _=> .int | .nil=> .sym | .cell _=> .cons
section
variable {σ:AH}{C:St}{D:Nat→Prop}{P:Nat→Addr}
theorem bB {x:V}{w:W}{b:Bool}(h:qp σ x w.cls)(h2:w.isCell=b):qz σ (.bi "isinstance") [x, .ref 82] (.bool b):= .isi h (by subst h2;cases w<;>rfl)
theorem Lk.ne (L:Lk σ C D P){k:Nat}(h:D k):P k≠64:=by
  refine bk ?_ (L.at_ k h);intro a d _ _ _ h1;intro e;rw [e,L.nil] at h1;cases h1
theorem Lk.cls (L:Lk σ C D P){w:W}(h:Ok D w):qp σ (ev P w) w.cls:=by
  cases w with
  | num i=>exact .int
  | nil=>exact .sym L.nil
  | cell k=>refine bk ?_ (L.at_ k h);intro a d _ _ _ h1;exact .cons h1
theorem jF.r' {a b:Addr}{o o':bL}{c:Bool}(h:σ a=some o)(h':σ b=some o')(e:(a==b)=c):jF σ (.ref a) (.ref b) c:=e▸ .r h h'
theorem Lk.is (L:Lk σ C D P){w v:W}(h:Ok D w)(h':Ok D v)(hn:∀i j,w= .num i→v= .num j→False):jF σ (ev P w) (ev P v) (decide (w=v)):=by
  have hc:∀k,D k→∃o,σ (P k)=some o:=fun k hk=>by refine bk ?_ (L.at_ k hk);intro a d _ _ _ h1;exact⟨_,h1⟩
  cases w with
  | num i=>cases v with
    | num j=>exact(hn i j rfl rfl).elim
    | _=>exact .i
  | nil=>cases v with
    | num j=>exact .j
    | nil=>exact .r' L.nil L.nil rfl
    | cell k=>exact(hc k h').elim fun o ho=> .r' L.nil ho (beq_false_of_ne (Ne.symm (L.ne h')))
  | cell k=>cases v with
    | num j=>exact .j
    | nil=>exact(hc k h).elim fun o ho=> .r' ho L.nil (beq_false_of_ne (L.ne h))
    | cell j=>
      refine(hc k h).elim fun o ho=>(hc j h').elim fun o' ho'=> .r' ho ho' ?_
      rewrite [Bool.eq_iff_iff];rewrite [beq_iff_eq];refine ah decide_eq_true_eq ?_;exact⟨fun e=>congrArg _ (L.inj k j h h' e),fun e=>congrArg P (W.cell.inj e)⟩
theorem Lk.car (L:Lk σ C D P){k:Nat}{a d:W}(h:D k)(e:C[k]?=some (a,d)):qo σ (.ref (P k)) "car" (ev P a)∧qo σ (.ref (P k)) "cdr" (ev P d)∧Ok D a∧Ok D d∧σ (P k)=some (pF (ev P a) (ev P d)):=by
  refine bk ?_ (L.at_ k h);intro a' d' h0 h1 h2 h3;rw [e] at h0;(refine oY ?_ h0;clear h0;intro e1 e2;subst e1;subst e2);exact⟨.car h3, .cdr h3,h1,h2,h3⟩
theorem aO (P:Nat→Addr)(w:W):(ev P w).kind<8:=by cases w<;>exact wW rfl
end
end
section
section
noncomputable abbrev sf:Nat→(List Value→Prop)→Prop
  | 0,p=>p []
  | n+1,p=>∀a,sf n fun l=>p (a::l)
theorem lF:∀{vs:List Value} {p:List Value→Prop},sf vs.length p→p vs
  | [],_,h=>h
  | a::vs,p,h=>lF (vs:=vs) (p:=fun l=>p (a::l)) (h a)
noncomputable def jH (K:Frag)(f:Addr):FuncData:=match List.lookup f K with
  | some ⟨_,_, .func F,_⟩=>F
  | _=>default
noncomputable def qw (K:Frag)(f:Addr):List Str:=(jH K f).params.args.map (·.arg)
noncomputable def oh (K:Frag)(f:Addr):List Stmt:=match (jH K f).body with
  | .stmts b=>b
  | _=>[]
noncomputable def th (K:Frag)(ps:List Str):FuncData→Bool
  | ⟨_,q,_, .stmts _,sc,g,[],_,_,_,_,_,cd,_,bt⟩=>g==mainGlobals&&bt==builtinsNs&&codeIn K cd q&& !sc.isCoroutine&& !sc.isGenerator&&(match sc.kind with | .function=>true | _=>false)&&fL sc ps&&decide ps.Nodup
  | _=>false
noncomputable def sz (K:Frag)(f:Addr):Bool:=match List.lookup f K with
  | some ⟨_,_, .func F,_⟩=>th K (qw K f) F
  | _=>false
noncomputable def mK (K:Frag)(f:Addr)(n:Nat):Prop:=sf n fun vs=>bindArgs (jH K f) ⟨vs,[]⟩=pure ((qw K f).zip vs)
theorem q5 {K:Frag}{ps:List Str}{F:FuncData}(h:th K ps F=true):∃name qual params body scope dV kV doc pm an cdv ct,F=fnOf name qual params body scope dV kV doc pm an cdv ct∧codeIn K cdv qual=true∧scope.isCoroutine=false∧scope.isGenerator=false∧scope.kind= .function∧fL scope ps=true∧ps.Nodup:=by
  obtain ⟨nm,q,pa,bd,sc,g,cl,dV,kV,doc,pm,an,cd,ct,bt⟩:=F
  cases bd with
  | expr b=>exact ft h
  | stmts b=>
    cases cl with
    | cons a r=>exact ft h
    | nil=>
      have h':(g==mainGlobals&&bt==builtinsNs&&codeIn K cd q&& !sc.isCoroutine&& !sc.isGenerator&&(match sc.kind with | .function=>true | _=>false)&&fL sc ps&&decide ps.Nodup)=true:=h
      simp only [Bool.and_eq_true,beq_iff_eq,Bool.not_eq_true',decide_eq_true_eq] at h';obtain ⟨⟨⟨⟨⟨⟨⟨e1,e2⟩,h1⟩,h2⟩,h3⟩,h4⟩,h5⟩,h6⟩:=h';subst e1;subst e2;refine⟨_,_,_,_,_,_,_,_,_,_,_,_,rfl,h1,h2,h3, ?_,h5,h6⟩
      cases hk:sc.kind<;>rw [hk] at h4<;>first | rfl | exact ft h4
theorem rG {K:Frag}{f:Addr}(h:sz K f=true)(hb:mK K f (qw K f).length):sN K f (qw K f) (oh K f) (jH K f).scope:=by
  unfold sz at h
  cases e:List.lookup f K with
  | none=>rw [e] at h;exact ft h
  | some o=>
    obtain ⟨oc,od,dt,osl⟩:=o
    cases dt with
    | func F=>
      rw [e] at h;obtain ⟨name,qual,params,body,scope,dV,kV,doc,pm,an,cdv,ct,rfl,h1,h2,h3,h4,h5,h6⟩:=q5 h;have hf:jH K f=fnOf name qual params body scope dV kV doc pm an cdv ct:=by unfold jH;exact ah e rfl
      have hbd:oh K f=body:=by unfold oh;exact ah hf rfl
      refine ah hbd (ah hf ?_);refine⟨name,qual,params,dV,kV,doc,pm,an,cdv,ct,oc,od,osl,e,h1,h2,h3,h4,h5,h6,fun s vals _ hl=>⟨[],fun _=>rfl, ?_⟩⟩;rw [List.append_nil];unfold mK at hb;rw [show (qw K f).length=vals.length from hl.symm,hf] at hb;exact BindsTo.of_eq (lF hb)
    | _=>rw [e] at h;exact ft h
end
section
variable {B:Bs}{P:Params}{n:Nat}{m:ax}{Q:V→AH→Prop}{E:Str→AH→Prop}{σ:AH}{f:Addr}
noncomputable abbrev si:Nat→(List V→Prop)→Prop
  | 0,p=>p []
  | n+1,p=>∀a,si n fun l=>p (a::l)
theorem lG:∀{vs:List V} {p:List V→Prop},si vs.length p→p vs
  | [],_,h=>h
  | a::vs,p,h=>lG (vs:=vs) (p:=fun l=>p (a::l)) (h a)
structure a5 (P:Params)(f:Addr)(T:ax)(k:Nat):Prop where
  ok:sz (HK P) f=true
  hl:(qw (HK P) f).length=k
  hb:mK (HK P) f k
  hm:si k fun xs=>iA (qu lY) (qw (HK P) f) xs (jH (HK P) f).scope.names=bp T (xs.map some)
theorem a5.fn {T:ax}{k:Nat}(g:a5 P f T k):sN (HK P) f (qw (HK P) f) (oh (HK P) f) (jH (HK P) f).scope:=
  rG g.ok (by refine ah g.hl ?_;exact g.hb)
theorem a5.tab {T:ax}{xs:List V}(g:a5 P f T xs.length):iA (qu lY) (qw (HK P) f) xs (jH (HK P) f).scope.names=bp T (xs.map some):=lG (p:=fun xs=>iA (qu lY) (qw (HK P) f) xs (jH (HK P) f).scope.names=bp T (xs.map some)) g.hm
theorem iS {xs:List V}{T:ax}{bd:List Stmt}(hB:B.K=HK P)(g:a5 P f T xs.length)(hd:oh (HK P) f=bd)(hn:2≤n)
    (h:∀n',n=n'+1→0<n'→bu B n' (bp T (xs.map some)) bd (fun fl _ σ'=>Q (match fl with | .ret v=>v | _=> .none) σ') E σ):CV B n (.ref f) xs Q E σ:=by
  obtain ⟨n',rfl⟩:∃n',n=n'+1:=⟨n-1,(Nat.sub_add_cancel (Nat.le_of_succ_le (show 2≤n by assumption))).symm⟩;have h1:=h n' rfl (Nat.lt_of_succ_lt_succ hn);rw [←g.tab,←hd] at h1;exact sM (by refine ah hB ?_;exact g.fn) (dD hB) g.hl.symm h1
variable {x y z u:V}{T:ax}{b:Stmt}{r:List Stmt}
theorem cO (hB:B.K=HK P)(g:a5 P f T 1)(hd:oh (HK P) f=b::r)(hn:2≤n)
    (h:∀n',n=n'+1→0<n'→bu B n' (bp T [some x]) (b::r) (fun fl _ σ'=>Q (match fl with | .ret v=>v | _=> .none) σ') E σ):CV B n (.ref f) [x] Q E σ:=iS hB g hd hn h
theorem bm (hB:B.K=HK P)(g:a5 P f T 2)(hd:oh (HK P) f=b::r)(hn:2≤n)
    (h:∀n',n=n'+1→0<n'→bu B n' (bp T [some x,some y]) (b::r) (fun fl _ σ'=>Q (match fl with | .ret v=>v | _=> .none) σ') E σ):CV B n (.ref f) [x,y] Q E σ:=iS hB g hd hn h
theorem bg (hB:B.K=HK P)(g:a5 P f T 3)(hd:oh (HK P) f=b::r)(hn:2≤n)
    (h:∀n',n=n'+1→0<n'→bu B n' (bp T [some x,some y,some z]) (b::r) (fun fl _ σ'=>Q (match fl with | .ret v=>v | _=> .none) σ') E σ):CV B n (.ref f) [x,y,z] Q E σ:=iS hB g hd hn h
theorem rB (hB:B.K=HK P)(g:a5 P f T 4)(hd:oh (HK P) f=b::r)(hn:2≤n)
    (h:∀n',n=n'+1→0<n'→bu B n' (bp T [some x,some y,some z,some u]) (b::r) (fun fl _ σ'=>Q (match fl with | .ret v=>v | _=> .none) σ') E σ):CV B n (.ref f) [x,y,z,u] Q E σ:=iS hB g hd hn h
theorem mt {v w:V}(hB:B.K=HK P)(g:a5 P f T 6)(hd:oh (HK P) f=b::r)(hn:2≤n)
    (h:∀n',n=n'+1→0<n'→bu B n' (bp T [some x,some y,some z,some u,some v,some w]) (b::r) (fun fl _ σ'=>Q (match fl with | .ret v=>v | _=> .none) σ') E σ):CV B n (.ref f) [x,y,z,u,v,w] Q E σ:=iS hB g hd hn h
noncomputable abbrev tl (x:Str):Str×cB:=(x, .loc none)
noncomputable abbrev tc (x:Str):Str×cB:=(x, .cel none)
noncomputable abbrev tg (x:Str)(v:V):Str×cB:=(x, .glob v)
noncomputable abbrev tr (x:Str)(a:Addr):Str×cB:=(x, .glob (.ref a))
noncomputable abbrev tb (x:String):Str×cB:=(Str.ofString x, .glob (.bi x))
noncomputable abbrev tt (x:String):Str×cB:=(Str.ofString x, .glob (.ty x))
noncomputable def tE:ax:=[tl "things",tl "tail",tl "found",tl "place",tt "range",tb "len",tr "Cons" 82]
noncomputable def tF:ax:=[tl "datum",tl "things",tl "at",tl "slow",tb "isinstance",tr "Cons" 82,tb "len"]
theorem uS:a5 P 200 tF 1:=⟨by kernel_rfl,by kernel_rfl,fun _=>by kernel_rfl,fun _=>by kernel_rfl⟩
noncomputable def tG:ax:=[tl "datum",tl "things",tl "tail",tr "split_list" 200,tr "NIL" 64]
theorem sZ:a5 P 207 tG 1:=⟨by kernel_rfl,by kernel_rfl,fun _=>by kernel_rfl,fun _=>by kernel_rfl⟩
noncomputable def tH:ax:=[tl "datum",tb "isinstance",tt "int",tt "bool"]
theorem uT:a5 P 214 tH 1:=⟨by kernel_rfl,by kernel_rfl,fun _=>by kernel_rfl,fun _=>by kernel_rfl⟩
noncomputable def tI:ax:=[tl "datum",tr "NIL" 64,tb "isinstance",tr "Cons" 82]
theorem uU:a5 P 221 tI 1:=⟨by kernel_rfl,by kernel_rfl,fun _=>by kernel_rfl,fun _=>by kernel_rfl⟩
noncomputable def tK:ax:=[tl "value",tr "is_list" 221,tr "wrong" 228]
theorem uV:a5 P 235 tK 1:=⟨by kernel_rfl,by kernel_rfl,fun _=>by kernel_rfl,fun _=>by kernel_rfl⟩
noncomputable def tL:ax:=[tl "value",tb "isinstance",tr "Cons" 82,tr "wrong" 228]
theorem uW:a5 P 242 tL 1:=⟨by kernel_rfl,by kernel_rfl,fun _=>by kernel_rfl,fun _=>by kernel_rfl⟩
noncomputable def tM:ax:=[tl "value",tr "is_whole" 214,tr "wrong" 228]
theorem uX:a5 P 249 tM 1:=⟨by kernel_rfl,by kernel_rfl,fun _=>by kernel_rfl,fun _=>by kernel_rfl⟩
noncomputable def tN:ax:=[tl "value",tl "things",tl "tail",tr "need_list" 235,tr "split_list" 200,tr "LispSignal" 38,tr "NIL" 64,tr "wrong" 228]
theorem uY:a5 P 256 tN 1:=⟨by kernel_rfl,by kernel_rfl,fun _=>by kernel_rfl,fun _=>by kernel_rfl⟩
noncomputable def tO:ax:=[tl "value",tb "isinstance",tr "Cons" 82,tr "need_list" 235]
theorem uZ:a5 P 263 tO 1:=⟨by kernel_rfl,by kernel_rfl,fun _=>by kernel_rfl,fun _=>by kernel_rfl⟩
noncomputable def tP:ax:=[tl "value",tb "isinstance",tr "Cons" 82,tr "need_list" 235]
theorem u0:a5 P 270 tP 1:=⟨by kernel_rfl,by kernel_rfl,fun _=>by kernel_rfl,fun _=>by kernel_rfl⟩
noncomputable def tQ:ax:=[tl "world",tl "args",tr "car_of" 263]
theorem u6:a5 P 277 tQ 2:=⟨by kernel_rfl,by kernel_rfl,fun _ _=>by kernel_rfl,fun _ _=>by kernel_rfl⟩
noncomputable def tR:ax:=[tl "world",tl "args",tr "cdr_of" 270]
theorem u7:a5 P 284 tR 2:=⟨by kernel_rfl,by kernel_rfl,fun _ _=>by kernel_rfl,fun _ _=>by kernel_rfl⟩
noncomputable def tS:ax:=[tl "world",tl "args",tr "Cons" 82]
theorem u8:a5 P 291 tS 2:=⟨by kernel_rfl,by kernel_rfl,fun _ _=>by kernel_rfl,fun _ _=>by kernel_rfl⟩
noncomputable def tT:ax:=[tl "world",tl "args",tr "list_of" 193]
theorem u9:a5 P 298 tT 2:=⟨by kernel_rfl,by kernel_rfl,fun _ _=>by kernel_rfl,fun _ _=>by kernel_rfl⟩
noncomputable def tU:ax:=[tl "world",tl "args",tr "need_cons" 242]
theorem va:a5 P 305 tU 2:=⟨by kernel_rfl,by kernel_rfl,fun _ _=>by kernel_rfl,fun _ _=>by kernel_rfl⟩
noncomputable def tV:ax:=[tl "world",tl "args",tr "need_cons" 242]
theorem vb:a5 P 312 tV 2:=⟨by kernel_rfl,by kernel_rfl,fun _ _=>by kernel_rfl,fun _ _=>by kernel_rfl⟩
noncomputable def tW:ax:=[tl "world",tl "args",tl "things",tr "is_list" 221,tr "items_of" 207,tr "NIL" 64,tb "len"]
theorem vc:a5 P 319 tW 2:=⟨by kernel_rfl,by kernel_rfl,fun _ _=>by kernel_rfl,fun _ _=>by kernel_rfl⟩
noncomputable def tX:ax:=[tl "one",tl "other",tr "is_whole" 214]
theorem vd:a5 P 326 tX 2:=⟨by kernel_rfl,by kernel_rfl,fun _ _=>by kernel_rfl,fun _ _=>by kernel_rfl⟩
noncomputable def tY:ax:=[tl "one",tl "other",tb "isinstance",tr "Cons" 82,tr "Vector" 125,tr "ByteCode" 146,tb "len",tt "zip",tr "Text" 104,tr "Opaque" 181]
theorem ve:a5 P 331 tY 2:=⟨by kernel_rfl,by kernel_rfl,fun _ _=>by kernel_rfl,fun _ _=>by kernel_rfl⟩
noncomputable def tZ:ax:=[tl "one",tl "other",tl "word",tr "Cons" 82,tr "Vector" 125,tr "ByteCode" 146,tr "Text" 104,tr "Opaque" 181,tb "isinstance"]
theorem vg:a5 P 338 tZ 2:=⟨by kernel_rfl,by kernel_rfl,fun _ _=>by kernel_rfl,fun _ _=>by kernel_rfl⟩
noncomputable def t5:ax:=[tl "one",tl "other",tl "strings_alike",tl "waiting",tl "steps",tl "left",tl "right",tl "parts",tb "len",tg "MOST_STEPS" (.int 100000),tr "LispSignal" 38,tr "eq" 326,tr "are_of_one_class" 338,tr "parts_of" 331,tb "isinstance",tr "Text" 104]
theorem vh:a5 P 345 t5 3:=⟨by kernel_rfl,by kernel_rfl,fun _ _ _=>by kernel_rfl,fun _ _ _=>by kernel_rfl⟩
noncomputable def t6:ax:=[tl "one",tl "other",tr "equal_by" 345,tr "are_any" 352]
theorem vi:a5 P 359 t6 2:=⟨by kernel_rfl,by kernel_rfl,fun _ _=>by kernel_rfl,fun _ _=>by kernel_rfl⟩
noncomputable def t7:ax:=[tl "value",tl "slow",tl "fast",tl "ahead",tl "here",tl "many",tb "isinstance",tr "Cons" 82]
theorem vj:a5 P 366 t7 1:=⟨by kernel_rfl,by kernel_rfl,fun _=>by kernel_rfl,fun _=>by kernel_rfl⟩
noncomputable def t8:ax:=[tl "many",tl "value",tl "ring",tl "left",tl "here",tr "ring_of" 366,tr "NIL" 64,tr "cdr_of" 270]
theorem vk:a5 P 373 t8 2:=⟨by kernel_rfl,by kernel_rfl,fun _ _=>by kernel_rfl,fun _ _=>by kernel_rfl⟩
noncomputable def t9:ax:=[tl "world",tl "args",tr "rest_at" 373,tr "need_whole" 249]
theorem vm:a5 P 380 t9 2:=⟨by kernel_rfl,by kernel_rfl,fun _ _=>by kernel_rfl,fun _ _=>by kernel_rfl⟩
noncomputable def ua:ax:=[tl "world",tl "args",tr "car_of" 263,tr "rest_at" 373,tr "need_whole" 249]
theorem vn:a5 P 387 ua 2:=⟨by kernel_rfl,by kernel_rfl,fun _ _=>by kernel_rfl,fun _ _=>by kernel_rfl⟩
noncomputable def ub:ax:=[tl "world",tl "args",tl "many",tl "found",tl "here",tr "need_whole" 249,tr "need_list" 235,tb "isinstance",tr "Cons" 82,tb "len",tg "LONGEST" (.int 100000),tr "NIL" 64,tr "wrong" 228,tr "list_of" 193]
theorem vo:a5 P 394 ub 2:=⟨by kernel_rfl,by kernel_rfl,fun _ _=>by kernel_rfl,fun _ _=>by kernel_rfl⟩
noncomputable def uc:ax:=[tl "world",tl "args",tl "many",tl "things",tl "tail",tb "len",tr "NIL" 64,tr "need_whole" 249,tr "split_list" 200,tr "need_list" 235,tr "LispSignal" 38,tr "rest_at" 373,tb "max"]
theorem vq:a5 P 401 uc 2:=⟨by kernel_rfl,by kernel_rfl,fun _ _=>by kernel_rfl,fun _ _=>by kernel_rfl⟩
noncomputable def ud:ax:=[tl "world",tl "args",tl "many",tl "things",tb "len",tr "NIL" 64,tr "need_whole" 249,tr "things_of" 256,tr "list_of" 193,tb "max"]
theorem vr:a5 P 408 ud 2:=⟨by kernel_rfl,by kernel_rfl,fun _ _=>by kernel_rfl,fun _ _=>by kernel_rfl⟩
noncomputable def ue:ax:=[tl "value",tl "here",tr "ring_of" 366,tr "LispSignal" 38,tb "isinstance",tr "Cons" 82]
theorem vt:a5 P 415 ue 1:=⟨by kernel_rfl,by kernel_rfl,fun _=>by kernel_rfl,fun _=>by kernel_rfl⟩
noncomputable def uf:ax:=[tl "world",tl "args",tl "found",tl "place",tb "len",tr "NIL" 64,tt "range",tr "need_list" 235,tr "last_pair" 415]
theorem vw:a5 P 422 uf 2:=⟨by kernel_rfl,by kernel_rfl,fun _ _=>by kernel_rfl,fun _ _=>by kernel_rfl⟩
noncomputable def ug:ax:=[tl "world",tl "args",tr "rest_from" 443,tr "eq" 326]
theorem vx:a5 P 429 ug 2:=⟨by kernel_rfl,by kernel_rfl,fun _ _=>by kernel_rfl,fun _ _=>by kernel_rfl⟩
noncomputable def uh:ax:=[tl "world",tl "args",tr "rest_from" 443,tr "equal" 359]
theorem vy:a5 P 436 uh 2:=⟨by kernel_rfl,by kernel_rfl,fun _ _=>by kernel_rfl,fun _ _=>by kernel_rfl⟩
noncomputable def ui:ax:=[tl "thing",tl "value",tl "is_same",tl "here",tl "slow",tl "turn",tr "need_list" 235,tb "isinstance",tr "Cons" 82,tr "LispSignal" 38,tr "NIL" 64,tr "wrong" 228]
theorem vz:a5 P 443 ui 3:=⟨by kernel_rfl,by kernel_rfl,fun _ _ _=>by kernel_rfl,fun _ _ _=>by kernel_rfl⟩
noncomputable def uj:ax:=[tl "thing",tl "value",tl "is_same",tl "first",tl "here",tr "things_of" 256,tb "isinstance",tr "Cons" 82]
theorem vA:a5 P 450 uj 3:=⟨by kernel_rfl,by kernel_rfl,fun _ _ _=>by kernel_rfl,fun _ _ _=>by kernel_rfl⟩
noncomputable def uk:ax:=[tl "world",tl "args",tr "left_out" 450,tr "eq" 326]
theorem vB:a5 P 457 uk 2:=⟨by kernel_rfl,by kernel_rfl,fun _ _=>by kernel_rfl,fun _ _=>by kernel_rfl⟩
noncomputable def ul:ax:=[tl "world",tc "args",tr "list_of" 193,tr "things_of" 256]
theorem vC:a5 P 462 ul 2:=⟨by kernel_rfl,by kernel_rfl,fun _ _=>by kernel_rfl,fun _ _=>by kernel_rfl⟩
noncomputable def um:ax:=[tl "key",tl "value",tl "is_same",tl "is_by_cdr",tl "own",tr "things_of" 256,tb "isinstance",tr "Cons" 82,tr "NIL" 64]
theorem vD:a5 P 469 um 4:=⟨by kernel_rfl,by kernel_rfl,fun _ _ _ _=>by kernel_rfl,fun _ _ _ _=>by kernel_rfl⟩
noncomputable def un:ax:=[tl "world",tl "args",tr "pair_with" 469,tr "eq" 326]
theorem vE:a5 P 476 un 2:=⟨by kernel_rfl,by kernel_rfl,fun _ _=>by kernel_rfl,fun _ _=>by kernel_rfl⟩
noncomputable def uo:ax:=[tl "world",tl "args",tr "pair_with" 469,tr "equal" 359]
theorem vF:a5 P 483 uo 2:=⟨by kernel_rfl,by kernel_rfl,fun _ _=>by kernel_rfl,fun _ _=>by kernel_rfl⟩
noncomputable def uq:ax:=[tl "world",tl "args",tr "pair_with" 469,tr "eq" 326]
theorem vG:a5 P 490 uq 2:=⟨by kernel_rfl,by kernel_rfl,fun _ _=>by kernel_rfl,fun _ _=>by kernel_rfl⟩
noncomputable def ur:ax:=[tl "world",tl "args",tl "found",tr "things_of" 256,tr "list_of" 193]
theorem vH:a5 P 495 ur 2:=⟨by kernel_rfl,by kernel_rfl,fun _ _=>by kernel_rfl,fun _ _=>by kernel_rfl⟩
noncomputable def ut:ax:=[tl "script",tb "len"]
theorem vI:a5 P 500 ut 1:=⟨by kernel_rfl,by kernel_rfl,fun _=>by kernel_rfl,fun _=>by kernel_rfl⟩
noncomputable def uu:ax:=[tl "deck",tl "many",tl "mixed",tb "len"]
theorem vJ:a5 P 507 uu 2:=⟨by kernel_rfl,by kernel_rfl,fun _ _=>by kernel_rfl,fun _ _=>by kernel_rfl⟩
noncomputable def uv:ax:=[tl "state",tl "first",tl "rest",tb "len"]
theorem vK:a5 P 514 uv 3:=⟨by kernel_rfl,by kernel_rfl,fun _ _ _=>by kernel_rfl,fun _ _ _=>by kernel_rfl⟩
noncomputable def uw:ax:=[tl "state",tl "value",tl "things",tl "cells"]
theorem vL:a5 P 521 uw 2:=⟨by kernel_rfl,by kernel_rfl,fun _ _=>by kernel_rfl,fun _ _=>by kernel_rfl⟩
noncomputable def ux:ax:=[tl "state",tl "value",tl "things",tl "cells",tl "end",tr "_law_chain" 521]
theorem vM:a5 P 528 ux 2:=⟨by kernel_rfl,by kernel_rfl,fun _ _=>by kernel_rfl,fun _ _=>by kernel_rfl⟩
noncomputable def uy:ax:=[tl "state",tl "things",tl "end",tl "thing",tr "_law_cell" 514]
theorem vN:a5 P 535 uy 3:=⟨by kernel_rfl,by kernel_rfl,fun _ _ _=>by kernel_rfl,fun _ _ _=>by kernel_rfl⟩
noncomputable def uz:ax:=[tl "state",tl "one",tl "other",tl "left",tl "right",tr "_law_like" 542]
theorem qS:a5 P 542 uz 3:=⟨by kernel_rfl,by kernel_rfl,fun _ _ _=>by kernel_rfl,fun _ _ _=>by kernel_rfl⟩
noncomputable def uB:ax:=[tl "state",tl "value",tl "at"]
theorem vO:a5 P 549 uB 3:=⟨by kernel_rfl,by kernel_rfl,fun _ _ _=>by kernel_rfl,fun _ _ _=>by kernel_rfl⟩
noncomputable def uC:ax:=[tl "state",tl "many",tl "value",tr "_law_part" 549]
theorem vP:a5 P 556 uC 3:=⟨by kernel_rfl,by kernel_rfl,fun _ _ _=>by kernel_rfl,fun _ _ _=>by kernel_rfl⟩
noncomputable def uD:ax:=[tl "state",tl "word",tl "args",tl "found",tl "things",tl "cells",tl "end",tr "_law_cell" 514,tr "_law_made" 535,tr "_law_part" 549,tt "int",tr "_law_nthcdr" 556,tr "_law_proper" 528,tb "len",tr "_law_chain" 521,tr "_law_ends" 570]
theorem gM:a5 P 563 uD 3:=⟨by kernel_rfl,by kernel_rfl,fun _ _ _=>by kernel_rfl,fun _ _ _=>by kernel_rfl⟩
noncomputable def uG:ax:=[tc "state",tc "word",tc "args",tl "things",tl "cells",tl "end",tl "own",tl "same",tl "at",tl "key",tl "new",tl "cell",tl "kept",tl "rest",tr "_law_chain" 521,tt "int",tr "_law_like" 542,tr "_law_made" 535,tt "zip"]
theorem lX:a5 P 575 uG 3:=⟨by kernel_rfl,by kernel_rfl,fun _ _ _=>by kernel_rfl,fun _ _ _=>by kernel_rfl⟩
noncomputable def uH:ax:=[tl "state",tl "value",tl "goal",tl "met",tl "waiting",tl "here"]
theorem vQ:a5 P 582 uH 3:=⟨by kernel_rfl,by kernel_rfl,fun _ _ _=>by kernel_rfl,fun _ _ _=>by kernel_rfl⟩
noncomputable def uI:ax:=[tl "state",tl "told_here",tl "due",tl "waiting",tc "own",tl "value",tl "known",tb "isinstance",tr "Cons" 82,tr "NIL" 64,tt "bool",tt "int"]
theorem vR:a5 P 587 uI 3:=⟨by kernel_rfl,by kernel_rfl,fun _ _ _=>by kernel_rfl,fun _ _ _=>by kernel_rfl⟩
noncomputable def uJ:ax:=[tl "state",tl "index",tl "own",tb "sorted",tr "_law_is_same" 587]
theorem vS:a5 P 594 uJ 1:=⟨by kernel_rfl,by kernel_rfl,fun _=>by kernel_rfl,fun _=>by kernel_rfl⟩
noncomputable def uK:ax:=[tl "state",tl "value",tr "NIL" 64]
theorem vT:a5 P 601 uK 2:=⟨by kernel_rfl,by kernel_rfl,fun _ _=>by kernel_rfl,fun _ _=>by kernel_rfl⟩
noncomputable def uL:ax:=[tl "word",tl "args",tl "defs",tl "error",tr "lisp_cons" 291,tr "lisp_list" 298,tr "lisp_car" 277,tr "lisp_cdr" 284,tr "lisp_setcar" 305,tr "lisp_setcdr" 312,tr "lisp_nth" 387,tr "lisp_nthcdr" 380,tr "lisp_take" 394,tr "lisp_last" 401,tr "lisp_butlast" 408,tr "lisp_nconc" 422,tr "lisp_memq" 429,tr "lisp_member" 436,tr "lisp_delq" 457,tr "lisp_remq" 462,tr "lisp_assq" 476,tr "lisp_assoc" 483,tr "lisp_rassq" 490,tr "lisp_copy_alist" 495,tr "lisp_proper_list_p" 319,tr "LispSignal" 38]
theorem vU:a5 P 608 uL 2:=⟨by kernel_rfl,by kernel_rfl,fun _ _=>by kernel_rfl,fun _ _=>by kernel_rfl⟩
noncomputable def uM:ax:=[tl "deck",tl "state",tl "word",tl "pool",tl "one",tl "other",tr "_law_draw" 507,tb "len"]
theorem vV:a5 P 615 uM 3:=⟨by kernel_rfl,by kernel_rfl,fun _ _ _=>by kernel_rfl,fun _ _ _=>by kernel_rfl⟩
noncomputable def uN:ax:=[tl "deck",tc "state",tl "words",tl "word",tc "args",tl "told_here",tl "simple",tl "due",tr "_law_draw" 507,tb "len",tr "_law_args" 615,tr "_law_reaches" 582,tr "_law_chain" 521,tr "_law_deed" 608,tr "_law_simple" 563,tr "_law_sought" 575,tr "_law_holds" 594,tr "_law_is_same" 587]
theorem vW:a5 P 620 uN 2:=⟨by kernel_rfl,by kernel_rfl,fun _ _=>by kernel_rfl,fun _ _=>by kernel_rfl⟩
noncomputable def uO:ax:=[tl "script",tc "deck",tl "state",tl "start",tl "turn",tl "value",tl "things",tr "_law_deck" 500,tt "range",tr "_law_made" 535,tr "_law_draw" 507,tr "_law_chain" 521,tr "_law_is_same" 587,tr "lisp_list" 298,tr "_law_is_right" 620]
theorem vX:a5 P 625 uO 1:=⟨by kernel_rfl,by kernel_rfl,fun _=>by kernel_rfl,fun _=>by kernel_rfl⟩
noncomputable def tw:ax:=[tl "self",tl "symbol",tl "data"]
theorem tx:a5 P 35 tw 3:=⟨by kernel_rfl,by kernel_rfl,fun _ _ _=>by kernel_rfl,fun _ _ _=>by kernel_rfl⟩
noncomputable def tJ:ax:=[tl "name",tl "value",tr "LispSignal" 38]
theorem qR:a5 P 228 tJ 2:=⟨by kernel_rfl,by kernel_rfl,fun _ _=>by kernel_rfl,fun _ _=>by kernel_rfl⟩
noncomputable def uF:ax:=[tl "state",tl "word",tl "args",tl "things",tl "cells",tl "end",tl "found",tl "own",tr "_law_made" 535,tr "_law_chain" 521]
theorem so:a5 P 570 uF 6:=⟨by kernel_rfl,by kernel_rfl,fun _ _ _ _ _ _=>by kernel_rfl,fun _ _ _ _ _ _=>by kernel_rfl⟩
noncomputable def wb:ax:=[tl "self",tl "car",tl "cdr"]
theorem wf:a5 P 79 wb 3:=⟨by kernel_rfl,by kernel_rfl,fun _ _ _=>by kernel_rfl,fun _ _ _=>by kernel_rfl⟩
end
end
section
section
variable {B:Bs}{Pr:Params}{n:Nat}{m:ax}{Q:V→AH→Prop}{E:Str→AH→Prop}{σ:AH}
theorem b9 (hB:B.K=HK Pr):KO B.K:=by refine ah hB ?_;exact qC Pr
theorem sL {f:Addr}{xs:List V}{T:ax}{bd:List Stmt}(hB:B.K=HK Pr)(g:a5 Pr f T xs.length)(hd:oh (HK Pr) f=bd)(hn:2≤n)
    (h:∀n',n=n'+1→0<n'→bu B n' (bp T (xs.map some)) bd (fun fl _ σ'=>Q (match fl with | .ret v=>v | _=> .none) σ') E σ):CC B n (.ref f) xs Q E σ:=by
  obtain ⟨n',rfl⟩:∃n',n=n'+1:=⟨n-1,Eq.symm (Nat.sub_add_cancel (wV (wW rfl) hn))⟩;have h1:=h n' rfl (Nat.lt_of_succ_lt_succ hn);rw [←g.tab,←hd] at h1;exact rb (by refine ah hB ?_;exact g.fn) (dD hB) g.hl.symm h1
theorem ry {f:Addr}{x y z:V}{T:ax}{b:Stmt}{r:List Stmt}(hB:B.K=HK Pr)(g:a5 Pr f T 3)(hd:oh (HK Pr) f=b::r)(hn:2≤n)
    (h:∀n',n=n'+1→0<n'→bu B n' (bp T [some x,some y,some z]) (b::r) (fun fl _ σ'=>Q (match fl with | .ret v=>v | _=> .none) σ') E σ):CC B n (.ref f) [x,y,z] Q E σ:=sL hB g hd hn h
theorem sk (hB:B.K=HK Pr)(hn:2≤n){a:Addr}{x y:V}(e:σ a=some (.inst 82 [])):CC B n (.ref 79) [.ref a,x,y] (fun v σ'=>v= .none∧σ'=σ.set a (pF x y)) E σ:=by
  have K:=b9 hB;refine ry hB wf rfl hn ?_;intro n' hn' hp;refine iZ (cm K (.inl rfl) (bn K hp ?_));refine kE.mk (af rfl) ?_;refine bn K hp ?_;refine kE.mk (af rfl) ?_;refine⟨a,[],rfl,e,by simp, ?_⟩
  refine iZ (cm K (.inr rfl) (bn K hp ?_));refine kE.mk (af rfl) ?_;refine bn K hp ?_;refine kE.mk (af rfl) ?_;refine⟨a,_,rfl,wq _ _ _,wW rfl, ?_⟩;refine aj ⟨rfl, ?_⟩;exact wt ..
theorem ku (hB:B.K=HK Pr)(hn:3≤n){x y:V}(q:∀a,σ a=none→Q (.ref a) (σ.set a (pF x y))):CV B n (.ref 82) [x,y] Q E σ:=by
  intro Γ A T mc kc s vf vs G HA HS hf hv
  cases (show vf= .ref 82 from hf)
  obtain ⟨own,dof,I,hm⟩:=id HS;have X:=G.stat.k.keeps I.keep;rw [hB] at X;have hsz:=S.size G I;refine dc ?_ (I.freshA G emptyDict rfl (by intro v z;cases z) hsz);intro I1 hσ1 _;have hsz2:(s.heap.push emptyDict).objs.size=s.heap.objs.size+1:=Heap.size_push ..;refine dc ?_ (I1.freshA G (instObj 82 s.heap.objs.size) rfl (by intro v z;cases z) (w0 (w0 hsz (w9 _ _)) (wX hsz2.symm)));intro I2 hσ2 _;rw [hsz2] at I2 hσ2;have hd:((s.heap.push emptyDict).push (instObj 82 s.heap.objs.size)).get? s.heap.objs.size=some (dictOf [] 0):=Heap.get?_push_of_some _ (Heap.get?_push_size _ rfl);have hx:((s.heap.push emptyDict).push (instObj 82 s.heap.objs.size)).get? (s.heap.objs.size+1)=some (instObj 82 s.heap.objs.size):=by
    have:=Heap.get?_push_size (s.heap.push emptyDict) (o:=instObj 82 s.heap.objs.size) rfl
    rwa [hsz2] at this
  have I3:=I2.trackInst (.head _) (.tail _ (.head _)) hx hd (es:=[]) (ats:=[]) rfl hσ2 (fun b o' e hi q=>by
      cases o'<;>first | ((first | exact ft hi | cases (hi));done) | skip
      refine d9 ?_ (I.ob b _ e);intro _ _ _ es k h4 _;rw [q] at h4;exact absurd (xf h4) (xl _))
    (fun b o' e _ q=>by rw [←q,hσ1] at e;exact nn e)
  have hvs:bS T [.ref (s.heap.objs.size+1),x,y] (.ref (s.heap.objs.size+1)::vs):=⟨_,_,rfl,rfl,hv⟩;have hinit:=sk (E:=fun _ _=>False) (σ:=σ.set (s.heap.objs.size+1) (.inst 82 [])) (n:=n-1) (x:=x) (y:=y) hB (Nat.le_sub_of_add_le hn) (wq _ _ _);have HA':ea (n-1) Γ (A.under (.builtin "type.__call__" ⟨.ref 82::vs,[]⟩)):=by
    have h1:=HA.depth;have h2:=HA.units;have h3:=depth_under_make A 82 vs;have h4:(Code.builtin "type.__call__" ⟨.ref 82::vs,[]⟩).cUnits=1:=by kernel_rfl
    refine⟨HA.frames,HA.handled,h3▸yk (by assumption) h1, ?_⟩;refine ah h4 ?_;exact yl (by assumption) h2
  obtain ⟨hh,g,d,t,os⟩:=s;refine wpAny_call (make_core (makes_of X rfl) (looks_findIn X (r:=some (.ref 79)) rfl) (fun self=>bind_fn X self rfl) (.inl rfl) ?_);refine codeAny_mono (hinit Γ _ T mc kc _ (.ref 79) _ G HA' ⟨_,_,I3,hm⟩ rfl hvs) ?_;intro r s' hr
  cases r with
  | error e=>
    obtain ⟨_,_,_,_,_,_,_,_,_,_,_,_,_,h⟩:=hr;exact h.elim
  | ok fl=>
    cases fl with
    | ret v=>
      obtain ⟨T',σ',w,hT,HS',hw,rfl,rfl⟩:=hr;refine⟨hw,T',_, .ref _,hT,HS',rfl, ?_⟩;rw [wt];exact q _ hσ2
    | _=>exact hr.elim
end
end
section
open Builtin Builtin.ObjectAttr Builtin.Getset_descriptor
set_option pp.maxSteps 4000
section
variable {prog:Program}{w:World}{A:Around}{s:Shared}{Pr:Params}{E':Value→Shared→Prop}
theorem nP:findIn (HK Pr) (.ref 38) "__setattr__"=some (some (.builtin "object.__setattr__")):=rfl
theorem km {name:Str}(h:name="symbol"∨name="data"):takerIn (HK Pr) 38 name=some none:=by
  rcases h with rfl | rfl<;>rfl
theorem qO {e:Addr}{vs:Array Value}{sl:Array (Option Value)}{name:Str}{v:Value}{P:Unit→Shared→Prop}(X:(HK Pr).In s.heap)(he:s.heap.get? e=some ⟨.ref 38,none, .fields vs,sl⟩)(hn:name="symbol"∨name="data")
    (k:∀h' hs tk t' n',h'.get? e=some ⟨.ref 38,some s.heap.objs.size, .fields vs,sl⟩→h'.get? s.heap.objs.size=some (dictOf (fz hs (.str name tk) v name []) n')→(∀b o,b≠e→s.heap.get? b=some o→h'.get? b=some o)→P () {s with heap:=h',toks:=t'}):
    wpAny (model prog w) A (setAttr (.ref e) name v) P E' s:=by
  have I:W.InstAt s.heap e ⟨.ref 38,none, .fields vs,sl⟩ 38 none:=⟨he,rfl,rfl,(by trivial)⟩;have hlt:=xf he;refine set_plain X I nP ?_
  refine ti (s:={s with toks:=s.toks+1}) X I (cd:=_) rfl rfl rfl (by rw [refuseLoop_ref];exact PySem.F.store_Exception.passes (.ref e)) (km hn) fun b=> ?_
  refine wpAny_bind (wpAny_pure (wpAny_bind (wpAny_bind (wpAny_loadPart he (wpAny_bind (Looks.here (s:={s with toks:=s.toks+1}) (looks_clsIn X (C:=38) rfl) ?_))))));have hx1:(s.heap.push emptyDict).get? e=some ⟨.ref 38,none, .fields vs,sl⟩:=Heap.get?_push_of_some _ he;have hne:e≠s.heap.objs.size:=Nat.ne_of_lt hlt;refine wpAny_bind (wpAny_alloc (wpAny_bind (wpAny_update hx1 ?_)));refine wpAny_pure ?_
  have hd:((s.heap.push emptyDict).update e (fun o=>{o with dict:=some s.heap.objs.size})).get? s.heap.objs.size=some (dictOf [] 0):=(Heap.get?_update_other _ _ hne).trans (Heap.get?_push_size _ rfl)
  have hx2:((s.heap.push emptyDict).update e (fun o=>{o with dict:=some s.heap.objs.size})).get? e=some ⟨.ref 38,some s.heap.objs.size, .fields vs,sl⟩:=Heap.get?_update_self _ hx1 rfl
  refine kn (w:=w) (s:={s with heap:=(s.heap.push emptyDict).update e (fun o=>{o with dict:=some s.heap.objs.size}),toks:=s.toks+1}) hd rfl (wV (mi ..) (wW rfl)) fun h' n' h1 h2=> ?_;refine k h' _ _ _ n' ((h2.2 e hne).trans hx2) h1 fun b o hb ho=>(h2.2 b (Nat.ne_of_lt (xf ho))).trans ((Heap.get?_update_other _ _ (Ne.symm hb)).trans (Heap.get?_push_of_some _ ho))
theorem qP {e d:Addr}{vs:Array Value}{sl:Array (Option Value)}{es:List DictEntry}{n:Nat}{name:Str}{v:Value}{P:Unit→Shared→Prop}(X:(HK Pr).In s.heap)(he:s.heap.get? e=some ⟨.ref 38,some d, .fields vs,sl⟩)(hd:s.heap.get? d=some (dictOf es n))(hn:name="symbol"∨name="data")
    (hr:es.any (·.refKey)=false) (hz:∀hs tk,(fz hs (.str name tk) v name es).length≤900)
    (k:∀h' hs tk t' n',h'.get? e=some ⟨.ref 38,some d, .fields vs,sl⟩→h'.get? d=some (dictOf (fz hs (.str name tk) v name es) n')→Heap.SameBut d s.heap h'→P () {s with heap:=h',toks:=t'}):
    wpAny (model prog w) A (setAttr (.ref e) name v) P E' s:=by
  have I:W.InstAt s.heap e ⟨.ref 38,some d, .fields vs,sl⟩ 38 (some (dictOf es n)):=⟨he,rfl,rfl,hd⟩;have hne:e≠d:=fun q=>by rw [q,hd] at he;cases he
  refine set_plain X I nP ?_
  refine ti (s:={s with toks:=s.toks+1}) X I (cd:=_) rfl rfl rfl (by rw [refuseLoop_ref];exact PySem.F.store_Exception.passes (.ref e)) (km hn) fun b=> ?_
  refine wpAny_bind (wpAny_pure (wpAny_bind (wpAny_bind (wpAny_loadPart he (wpAny_bind (Looks.here (s:={s with toks:=s.toks+1}) (looks_clsIn X (C:=38) rfl) ?_))))));refine wpAny_pure ?_
  refine kn (w:=w) (s:={s with toks:=s.toks+1}) hd hr (hz _ _) fun h' n' h1 h2=> ?_;exact k h' _ _ _ n' ((h2.2 e hne).trans he) h1 h2
end
section
variable {B:Bs}{Pr:Params}{n:Nat}{m:ax}{Q:V→AH→Prop}{E:Str→AH→Prop}{σ:AH}
theorem wH {Γ:Fc}{T:TM}{mc kc own dof}{h h':Heap}{d:Addr}{o:Obj}(I:SI B Γ T mc kc σ own dof h)(I':SI B Γ T mc kc σ own dof h')(hd:h.get? d=none)(ho:h'.get? d=some o)(hc:∀v,o.data≠ .cell v):SI B Γ T mc kc σ (d::own) dof h':=by
  have fr:∀b ob,h.get? b=some ob→b≠d:=fun b ob e q=>by rw [q,hd] at e;exact nn e
  refine I'.addr (fun q=> ?_) ?_ trivial ho hc (fun p hp=> ?_) fun p hp=> ?_
  · refine c6 ?_ I.ns;intro oL _ _ h1 _;exact fr _ _ h1 q.symm
  · cases q:Γ.h₀.get? d with
    | none=>rfl
    | some x=>exact absurd rfl (fr _ _ (I.keep _ _ q))
  · refine uA ?_ (I.sn p hp);refine uE ?_;intro sl h1 _;exact fr _ _ h1
  · exact fr _ _ (I.pn p hp).1
theorem qk (hB:B.K=HK Pr)(hn:1≤n){Γ:Fc}{A:Around}{T:TM}{mc kc own dof}{s:Shared}{e:Addr}{y:Str}{ty:Tok}{z:V}{w:Value}{vs:Array Value}{R:Result→Shared→Prop}(G:FcOk B Γ)(HA:ea (n+1) Γ A)(I₀:SI B Γ T mc kc σ own dof s.heap)
    (hI:SI B Γ T mc kc σ (e::own) dof s.heap) (he:s.heap.get? e=some ⟨.ref 38,none, .fields vs,#[]⟩) (heo:e∉own) (hw:RV T z w)
    (k:∀d s' od,SI B Γ T mc kc σ (d::own) dof s'.heap→Sm s s'→s'.heap.get? e=some ⟨.ref 38,some d, .fields vs,#[]⟩→s'.heap.get? d=some od→nW y od→d≠e→R (.ok (.ret .none)) s'):
    codeAny B.M A (.call (.ref 35) ⟨[.ref e, .str y ty,w],[]⟩) R s:=by
  refine' iR (B:=B) (n:=n) (σ:=σ) (G:=qu lY) (xs₀:=[.ref e, .str y,z]) (T:=T) (dof:=dof) (own:=e::own) (Γ:=Γ) ?F (dD hB) ?hl G HA hI ⟨_,_,rfl,rfl,_,_,rfl,⟨ty,rfl⟩,w,[],rfl,hw,rfl⟩ ?_
  case F=>refine ah hB ?_;exact tx.fn
  case hl=>first | exact tx.hl.symm | exact qR.hl.symm
  intro env oL mc' kc' s₁ hoL G' HA' I1 hsm keep HR;rw [List.append_nil,tx.tab (xs:=[.ref e, .str y,z])] at HR;have I2:=I1.drop I₀;have H:iY (eH Γ env (e::own) oL s) own e:=⟨heo,hideAll_none _ (List.mem_append_left _ (.head _)),fun p hp q=>(hI.pn p hp).2 (q▸ .head _)⟩;have he1:=keep e _ he;have X1:(HK Pr).In s₁.heap:=by have:=G'.stat.k.keeps I1.keep;rwa [hB] at this
  have l0:lk (bp tw ([.ref e, .str y,z].map some)) "self"=some (.loc (some (.ref e))):=rfl;have l1:lk (bp tw ([.ref e, .str y,z].map some)) "symbol"=some (.loc (some (.str y))):=rfl;have l2:lk (bp tw ([.ref e, .str y,z].map some)) "data"=some (.loc (some z)):=rfl;refine wpAny_execs_cons (plainObj_wpAny_Assign_Attribute (gz G'.toFcOk I2 HR l1 fun c hc=>gz G'.toFcOk I2 HR l0 fun ov hov=> ?_) rfl);refine uE ?_ hc;clear hc;rintro tc rfl
  cases (show ov= .ref e from hov)
  refine qO X1 he1 (.inl rfl) fun h2 hs tk t2 n2 e2 d2 k2=> ?_;have I3:=I2.exc G'.toFcOk H he1 rfl k2;have hdn:s₁.heap.get? s₁.heap.objs.size=none:=by
    cases q:s₁.heap.get? s₁.heap.objs.size with
    | none=>rfl
    | some o=>exact absurd (xf q) (xl _)
  have hde:s₁.heap.objs.size≠e:=fun q=>by rw [q,he1] at hdn;exact sn hdn
  have X2:(HK Pr).In h2:=by have:=G'.stat.k.keeps I3.keep;rwa [hB] at this
  refine wpAny_execs_cons (plainObj_wpAny_Assign_Attribute (gz (s:={s₁ with heap:=h2,toks:=t2}) G'.toFcOk I3 HR l2 fun c hc=>gz (s:={s₁ with heap:=h2,toks:=t2}) G'.toFcOk I3 HR l0 fun ov hov=> ?_) rfl)
  cases (show ov= .ref e from hov)
  refine qP (s:={s₁ with heap:=h2,toks:=t2}) X2 e2 d2 (.inr rfl) rfl (fun _ _=>wV (mi ..) (wW rfl)) fun h3 hs3 tk3 t3 n3 e3 d3 k3=> ?_;have I5:=I2.exc G'.toFcOk H he1 rfl (h':=h3) fun b o hb ho=>(k3.2 b (fun q=>by rw [q,hdn] at ho;exact nn ho)).trans (k2 b o hb ho);have I6:=wH I2 I5 hdn d3 (by intro v q;cases q);refine wpAny_execs_nil ?_;refine k s₁.heap.objs.size _ _ (hI.back G hoL I6) ⟨hsm.1,hsm.2.1,hsm.2.2⟩ e3 d3 ?_ hde;refine⟨_,_,tc,rfl, ?_, ?_, ?_⟩
  · intro en hen;simp [gP,pV,nJ,ba] at hen
    rcases hen with rfl | rfl
    · exact⟨_,_,rfl⟩
    · exact⟨_,_,rfl⟩
  · refine(?_:List.Pairwise _ _)
    simp [gP,pV,nJ,ba]
  · rfl
end
section
variable {B:Bs}{Pr:Params}{n:Nat}{m:ax}{Q:V→AH→Prop}{E:Str→AH→Prop}{σ:AH}
inductive jL (Γ:Fc)(own:List Addr)(e:Addr)(y:Str)(h:Heap):Prop
  | mk (oe:Obj) (vs:Array Value) (d:Addr) (od:Obj) (a0:Value) (h1:h.get? e=some oe) (h2:oe.cls= .ref 38) (h3:oe.dict=some d) (h4:oe.data= .fields vs) (h5:vs[0]?=some a0) (h6:d∈own) (h7:h.get? d=some od) (h8:nW y od) (h9:e∉own) (h10:Γ.h₀.get? e=none) (h11:∀p∈Γ.pin,p.1≠e) (h12:vs[1]?=some .none)
theorem jL.toI {Γ:Fc}{own e y h}(x:jL Γ own e y h):rD B Γ own e y h:=by
  obtain ⟨oe,vs,d,od,a0,h1,h2,h3,h4,h5,h6,h7,h8,h9,h10,h11,h12⟩:=x;exact⟨oe,vs,d,od,0,a0,h1,h2,h3,h4,h5,h6,h7,h8,h9,h10,h11, .inl h12⟩
theorem qj (hB:B.K=HK Pr)(hn:3≤n){Γ:Fc}{A:Around}{T:TM}{mc kc own dof}{s:Shared}{y:Str}{ty:Tok}{z:V}{w:Value}{P E':Value→Shared→Prop}(G:FcOk B Γ)(HA:ea n Γ A)(I:SI B Γ T mc kc σ own dof s.heap)(hm:Sm Γ.sh s)(hw:RV T z w)
    (k:∀e d s',SI B Γ T mc kc σ (d::own) dof s'.heap→Sm Γ.sh s'→jL Γ (d::own) e y s'.heap→P (.ref e) s'):wpAny B.M A (call (.ref 38) [.str y ty,w]) P E' s:=by
  have X:(HK Pr).In s.heap:=by have:=G.stat.k.keeps I.keep;rwa [hB] at this
  obtain ⟨hp,g,d0,tk,os⟩:=s;have hN:hp.Ns 37 (hp.nsMap 37):= .of_isNs (isNs_of_in X (show nsOkIn (HK Pr) 37=true by kernel_rfl));have hi:hp.nsMap 37 "__init__"=some (.ref 35):=by
    refine bJ ?_ hN;clear hN;intro o es ep ho hd _ hf;have:=X 37 _ rfl;rw [ho] at this;(refine sj ?_ this;clear this;intro e1;subst e1);cases hd
    rw [←hf];rfl
  refine wpAny_call_exc_init (F:=PySem.F.excBase_Exception) (X 38 _ rfl) hN hi (X 35 _ rfl) rfl fun h' e hmade=> ?_;refine bI ?_ hmade.there;intro tt het htn htt;have I₀:=I.keeps hmade.keeps;have hI:SI B Γ T mc kc σ (e::own) dof h':=wH I I₀ hmade.new het (by intro v q;cases q);have heo:e∉own:=fun q=>by refine gV ?_ (I.ow e q);intro _ _ _ o h4 _;rw [hmade.new] at h4;exact nn h4
  have HA':ea (n-1) Γ (A.under (.builtin "type.__call__" ⟨.ref 38::[.str y ty,w],[]⟩)):=by
    have h1:=HA.depth;have h2:=HA.units;have h3:=depth_under_make A 38 [.str y ty,w];have h4:(Code.builtin "type.__call__" ⟨.ref 38::[.str y ty,w],[]⟩).cUnits=1:=by kernel_rfl
    refine⟨HA.frames,HA.handled,h3▸yk (by assumption) h1, ?_⟩;refine ah h4 ?_;exact yl (by assumption) h2
  have HA'':ea (n-2+1) Γ (A.under (.builtin "type.__call__" ⟨.ref 38::[.str y ty,w],[]⟩)):=by
    have:n-2+1=n-1:=Nat.sub_add_cancel (Nat.le_sub_one_of_lt (Nat.le_of_succ_le (show 3≤n by assumption)));refine ah this ?_;exact HA'
  refine wpAny_call (qk hB (Nat.le_sub_of_add_le hn) G HA'' I₀ hI het heo hw fun d s' od I6 hsm e3 d3 hsym hde=> ?_);refine⟨rfl,k e d s' I6 ⟨hsm.1.trans hm.1,hsm.2.1.trans hm.2.1,hsm.2.2.trans hm.2.2⟩ ⟨_,_,d,od, .ref tt,e3,rfl,rfl,rfl,rfl, .head _,d3,hsym, ?_, ?_, ?_,rfl⟩⟩
  · intro q
    rcases List.mem_cons.mp q with q | q
    · exact hde q.symm
    · exact heo q
  · cases q:Γ.h₀.get? e with
    | none=>rfl
    | some o=>have:=I.keep _ _ q;rw [hmade.new] at this;exact nn this
  · intro p hp' q;have:=(I.pn p hp').1;rw [q,hmade.new] at this;exact nn this
theorem pR {Γ:Fc}{env:Env}{oL:Obj}{T mc kc own dof own' e y}{s:Shared}{h:Heap}(G:FcOk B Γ)(I:SI B Γ T mc kc σ own dof s.heap)(x:jL (eH Γ env own oL s) own' e y h):jL Γ own' e y h:=by
  obtain ⟨oe,vs,d,od,a0,h1,h2,h3,h4,h5,h6,h7,h8,h9,h10,h11,h12⟩:=x;have hst:=eG (env:=env) (oL:=oL) G I;refine⟨oe,vs,d,od,a0,h1,h2,h3,h4,h5,h6,h7,h8,h9, ?_,h11,h12⟩
  cases q:Γ.h₀.get? e with
  | none=>rfl
  | some o=>exact nn (h10.symm.trans (hst e o q))
theorem nt (hB:B.K=HK Pr)(hn:4≤n){Γ:Fc}{A:Around}{T:TM}{mc kc own dof}{s:Shared}{nm:Str}{tn:Tok}{z:V}{w:Value}{P E':Value→Shared→Prop}(G:FcOk B Γ)(HA:ea n Γ A)(I:SI B Γ T mc kc σ own dof s.heap)(hm:Sm Γ.sh s)(hw:RV T z w)
    (k:∀e s' T' own' dof',cC T T'→SI B Γ T' mc kc σ own' dof' s'.heap→Sm Γ.sh s'→jL Γ own' e "wrong-type-argument" s'.heap→P (.ref e) s'):wpAny B.M A (call (.ref 228) [.str nm tn,w]) P E' s:=by
  have K:=b9 hB;refine wpAny_call ?_;have HA1:ea (n-1+1) Γ A:=by refine ah (Nat.sub_add_cancel (wV (by decide) (show 4≤n by assumption))) ?_;exact HA
  refine' iR (B:=B) (n:=n-1) (σ:=σ) (G:=qu lY) (xs₀:=[.str nm,z]) (T:=T) (dof:=dof) (own:=own) (Γ:=Γ) ?F (dD hB) ?hl G HA1 I ⟨_,_,rfl,⟨tn,rfl⟩,w,[],rfl,hw,rfl⟩ ?_
  case F=>refine ah hB ?_;exact qR.fn
  case hl=>first | exact tx.hl.symm | exact qR.hl.symm
  intro env oL mc' kc' s₁ hoL G' HA' I1 hsm keep HR;rw [List.append_nil,qR.tab (xs:=[.str nm,z])] at HR;refine wpAny_execs_cons (wpAny_Return_some ?_);rw [be .n];have hp:0<n-1:=Nat.lt_sub_of_add_lt (w0 (wW rfl) hn);refine wpAny_bind (wpAny_mono (bn (E:=fun _ _=>False) (σ:=σ) (Q:=fun v σ₁=>v= .ref 38∧σ₁=σ) K hp ⟨_,af rfl,rfl,rfl⟩ (eH Γ env own oL s) (A.deeper env) T mc' kc' s₁ G'.toFcOk HA' ⟨own,dof,I1,hsm⟩ HR) ?_ fun _ _ h=>by obtain ⟨_,_,_,_,_,_,_,_,_,_,_,_,_,h⟩:=h;exact h.elim);rintro v s₂ ⟨T₁,σ₁,x,hT,HS₁,hv,hx,hσ⟩;subst hx;rw [hσ] at HS₁
  cases (show v= .ref 38 from hv)
  refine eX (E:=fun _ _=>False) (R:=fun vs σ₁=>∃l,vs=[.str "wrong-type-argument", .ref l]∧aH σ σ₁) G'.toFcOk HA' (cC.refl T₁) HS₁ (HR.mono hT) (f:= .ref 38) (first:=[]) (fv:=[]) (show keepIn B.K (.ref 38)=true by refine ah hB ?_;rfl) rfl rfl rfl ?_ ?_ |>fun h=>wpAny_mono h (fun _ _ h=>h) fun _ _ h=>by obtain ⟨_,_,_,_,_,_,_,_,_,_,_,_,_,h⟩:=h;exact h.elim
  · refine cj rfl (a9 rfl (by decide) (fh K hp ⟨_,aD rfl (af rfl) (af rfl), ?_⟩));intro a ha;exact⟨a,rfl,aH.set ha⟩
  · intro T₂ σ₂ s₃ vs ws vf' hT₂ HS₂ _ _ hr;refine aY ?_;rintro l rfl hle;refine gW ?_ hr;clear hr;rintro w1 _ rfl;refine uE ?_;rintro t1 rfl w2 _ rfl hw2 hw3
    cases hw3
    obtain ⟨own2,dof2,I2,hm2⟩:=HS₂;refine qj (n:=n-1) (σ:=σ) hB (Nat.le_sub_of_add_le hn) G'.toFcOk HA' (I2.weak hle) hm2 hw2 fun e d s₄ I4 hm4 hex=> ?_;refine k e s₄ T₂ _ _ (hT.trans hT₂) (I.back G hoL I4) ⟨hm4.1.trans hm.1,hm4.2.1.trans hm.2.1,hm4.2.2.trans hm.2.2⟩ (pR G I hex)
end
end
section
section
variable {prog:Program}{w:World}{A:Around}{s:Shared}{Pr:Params}{E':Value→Shared→Prop}{env:Env}
theorem oR {x:Sem Value}{Q:Flow→Shared→Prop}(hh:A.handled=none)
    (h:wpAny (model prog w) A x (fun v s₁=>∃e od vs sl,v= .ref e∧(HK Pr).In s₁.heap∧s₁.heap.get? e=some ⟨.ref 38,od, .fields vs,sl⟩∧vs[1]?=some .none∧E' (.ref e) s₁) E' s):wpAny (model prog w) A (raiseStmt env (some x) none) Q E' s:=by
  refine wpAny_bind (wpAny_mono h (fun v s₁ h₁=> ?_) fun _ _ x=>x);refine ll ?_ h₁;clear h₁;rintro e od vs sl rfl X;refine dc ?_;intro he hv hE;obtain ⟨hp,g,d,tk,os⟩:=s₁;have t1:Looks (model prog w) hp (typeOf (.ref e)) (.ref 38):=(Looks.ld he).andThen .now;have l1:Looks (model prog w) hp (isSubtype (.ref 38) (.type "BaseException")) true:=looks_mroIn X (by rfl);have l2:Looks (model prog w) hp (isInstance (.ref e) (.type "BaseException")) true:=t1.andThen l1;have he':hp.get? e=some ⟨.ref 38,od, .fields vs,sl⟩:=he;have hC:hp.get? 38=some (excClassObj "LispSignal" "LispSignal" 38 37 [.type "Exception"] [.type "Exception", .type "BaseException", .type "object"] true [] [] false none none (some (.ref 22)) none (some (.str "LispSignal" 196)) (some (.str "LispSignal" 204)) (some (.bool true)) "Exception.__new__"):=X 38 _ rfl;have hcB:(Value.ref 38::[.type "Exception", .type "BaseException", .type "object"]).contains (.type "BaseException")=true:=by decide+kernel
  have hf:∀(Q:Value→Shared→Prop),Q .none ⟨hp,g,d,tk,os⟩→wpAny (model prog w) A (field (.ref e) 1) Q E' ⟨hp,g,d,tk,os⟩:=fun Q q=>wpAny_field he' rfl hv q
  repeat (first | with_reducible refine wpAny_loadPart_at he' ?_ | with_reducible refine wpAny_loadPart_at hC ?_ | (with_reducible refine wpAny_isSubtype_exc hC ?_;refine ah hcB ?_) | with_reducible refine hf _ ?_ | wp_step)
  exact wpAny_raiseNew_none hh hE
end
section
variable {B:Bs}{Pr:Params}{n:Nat}{m:ax}{E:Str→AH→Prop}{σ:AH}
theorem cL (hB:B.K=HK Pr)(hn:5≤n){Q:cM→ax→AH→Prop}{nm:Str}{arg:Expr}{p1 p2 p3 pos:Pos}{kd:Nat}(hl:lk m "wrong"=some (.glob (.ref 228)))(ha:bo [arg]=true)(h:kE m σ arg fun _=>E "wrong-type-argument" σ):
    SV B n m (.Raise (some (.Call (.Name "wrong" p1) [.Constant (.str nm) kd p3,arg] [] p2)) none pos) Q E σ:=by
  have K:=b9 hB;intro Γ A T mc kc s G HA HS HL;rw [arm_exec_Raise];refine wpAny_bind (wpAny_standAt ?_);refine oR (Pr:=Pr) HA.handled ?_;refine wpAny_bind ?_;rw [be .n];have hp:0<n:=ar hn rfl;refine wpAny_bind (wpAny_mono (iD (B:=B) (n:=n) (E:=E) (σ:=σ) (Q:=fun v σ₁=>v= .ref 228∧σ₁=σ) hl (.inr (.inr (.inr rfl))) ⟨rfl,rfl⟩ Γ A T mc kc s G.toFcOk HA HS HL) ?_ fun _ _ x=>x);rintro v s₁ ⟨T₁,σ₁,x,hT,HS₁,hv,hx,hσ⟩;subst hx;rw [hσ] at HS₁
  cases (show v= .ref 228 from hv)
  refine eX (R:=fun vs σ₁=>(∃z,vs=[.str nm,z])∧σ₁=σ∧E "wrong-type-argument" σ) G.toFcOk HA hT HS₁ (HL.mono hT) (f:= .ref 228) (first:=[]) (fv:=[]) (show keepIn B.K (.ref 228)=true by refine ah hB ?_;rfl) rfl rfl ha ?_ ?_
  · refine cj rfl ?_;refine aY ?_ h;clear h;intro z h1 h2;exact h1.ev K hp ⟨⟨z,rfl⟩,rfl,h2⟩
  · intro T₂ σ₂ s₃ vs ws vf' hT₂ HS₂ _ _ hr;refine dc ?_;refine uE ?_;rintro z rfl rfl hE;refine gW ?_ hr;clear hr;rintro w1 _ rfl;refine uE ?_;rintro t1 rfl w2 _ rfl hw2 hw3
    cases hw3
    obtain ⟨own2,dof2,I2,hm2⟩:=HS₂;refine nt (n:=n) hB (wV (wW rfl) hn) G.toFcOk HA I2 hm2 hw2 fun e s₄ T' own' dof' hT' I4 hm4 hex=> ?_;refine wpAny_bind (wpAny_standAt (wpAny_pure ?_));have hex':=hex;obtain ⟨oe,vs,d,od,a0,h1,h2,h3,h4,_,_,_,_,_,_,_,h12⟩:=hex;obtain ⟨oc,odd,oda,osl⟩:=oe;dsimp only at h2 h4;subst h2;subst h4;refine⟨e,odd,vs,osl,rfl, ?_,h1,h12,e,T',_,_,σ₂,_,own',dof',rfl,hT₂.trans hT',I4,hm4,hex'.toI,hE⟩;have:=G.stat.k.keeps I4.keep
    rwa [hB] at this
end
end
local macro_rules | `(tactic| walk_at "m") => `(tactic| refine (let m0 := _; let Q0 := _; let E0 := _; (?_ : bu _ _ m0 _ Q0 E0 _)))
section
section
variable {B:Bs}{Pr:Params}{n:Nat}{Q:V→AH→Prop}{E:Str→AH→Prop}{σ:AH}{C:St}{D:Nat→Prop}{P:Nat→Addr}
noncomputable def W.isNil (w:W):Bool:=match w with
  | .nil=>true | _=>false
noncomputable def W.isNum (w:W):Bool:=match w with
  | .num _=>true | _=>false
theorem wK (w:W):w.cls.isCons=w.isCell:=by cases w<;>rfl
theorem wL (w:W):w.cls.isInt=w.isNum:=by cases w<;>rfl
theorem wJ (w:W):w.cls.isBool=false:=by cases w<;>rfl
theorem Lk.isNil (L:Lk σ C D P){w:W}(h:Ok D w):jF σ (ev P w) (.ref 64) w.isNil:=by
  cases w with
  | num i=>exact .i
  | nil=>exact .r' L.nil L.nil rfl
  | cell k=>refine bk ?_ (L.at_ k h);intro a d _ _ _ h1;exact .r' h1 L.nil (beq_false_of_ne (L.ne h))
theorem aR (P:Nat→Addr)(w:W):small (ev P w)=some (ev P w):=by exact if_pos (aO P w)
theorem fW (hB:B.K=HK Pr)(hn:2≤n){w:W}(L:Lk σ C D P)(hw:Ok D w)(q:Q (.bool w.isNum) σ):CV B n (.ref 214) [ev P w] Q E σ:=by
  have K:=b9 hB;have i2:=L.cls hw;refine cO (by assumption) uT rfl hn ?_;intro n' hn' hp;walk_at "m";refine ao (cV (bn K hp ?_));refine kE.mk (bU (lV (bh .n (af rfl) (aD rfl (af rfl) (af rfl)) (.isi i2 rfl)) (oA (bh .n (af rfl) (aD rfl (af rfl) (af rfl)) (.isi i2 rfl))))) ?_;refine fe ?_;simp only [wL,wJ]
  cases h:w.isNum<;>simpa [h] using q
theorem jP (hB:B.K=HK Pr)(hn:2≤n){w:W}(L:Lk σ C D P)(hw:Ok D w)(q:Q (.bool (!w.isNum)) σ):CV B n (.ref 221) [ev P w] Q E σ:=by
  have K:=b9 hB;have i1:=L.isNil hw;have i2:=L.cls hw;refine cO (by assumption) uU rfl hn ?_;intro n' hn' hp;walk_at "m";refine ao (cV (bn K hp ?_));refine kE.mk (bU (nF (aC rfl (af rfl) (af rfl) (.is i1)) (bh .n (af rfl) (aD rfl (af rfl) (af rfl)) (bB i2 rfl)))) ?_;refine fe ?_
  try rfl
  cases w<;>exact q
theorem aB (hB:B.K=HK Pr){a:Addr}(h:keepIn (HK Pr) (.ref a)=true):ec B (.ref a):=by refine(?_:keepIn B.K (.ref a)=true);refine ah hB ?_;exact h
theorem bF (hB:B.K=HK Pr)(hn:6≤n){w:W}(L:Lk σ C D P)(hw:Ok D w)(q:w.isNum=false→Q (ev P w) σ)(qE:w.isNum=true→E "wrong-type-argument" σ):CV B n (.ref 235) [ev P w] Q E σ:=by
  have K:=b9 hB;refine cO (by assumption) uV rfl (ar hn rfl) ?_;intro n' hn' hp;walk_at "m";refine ao (ew (gJ (dq K hp .n rfl ?_)));refine wU (af rfl) (aA rfl (af rfl)) ?_;refine⟨aB hB rfl,jP hB (Nat.le_of_lt_succ (w0 (w0 (wW rfl) hn) (wX hn'))) L hw ⟨_,rfl, ?_⟩⟩
  cases h:w.isNum
  · simp only [Bool.not_false,Bool.not_true,Bool.false_eq_true,if_false];refine aj ?_;refine ay ?_;walk_at "m";refine ao (cV (bn K hp ?_))
    (refine kE.mk (af rfl) ?_;refine fe ?_)<;>exact q h
  · simp only [Bool.not_false,Bool.not_true,if_true];refine ao (cL hB (Nat.le_of_lt_succ (w0 hn (wX hn'))) rfl rfl ?_);refine kE.mk (af rfl) ?_<;>exact qE h
end
end
section
noncomputable def aI (ks:List Nat)(e:W)(j:Nat):W:=match ks[j]? with
  | some k=> .cell k
  | none=>e
structure bK (C:St)(w:W)(ks:List Nat)(as:List W)(e:W):Prop where
  len:as.length=ks.length
  zero:aI ks e 0=w
  get:∀j k,ks[j]?=some k→∃a,as[j]?=some a∧C[k]?=some (a,aI ks e (j+1))
  stop:e.isCell=false
  nd:ks.Nodup
theorem aQ {ks:List Nat}{e:W}{j:Nat}(h:j<ks.length):aI ks e j= .cell (ks[j]'h):=by
  unfold aI;exact ah (w7 h) rfl
theorem aP {ks:List Nat}{e:W}{j:Nat}(h:ks.length≤j):aI ks e j=e:=by
  unfold aI;exact ah (List.getElem?_eq_none h) rfl
theorem e9:∀{l:List Nat},l.Nodup→∀{i j:Nat} (hi:i<l.length) (hj:j<l.length),l[i]=l[j]→i=j
  | [],_,i,_,hi,_,_=>absurd hi (xh i)
  | a::l,h,i,j,hi,hj,e=>by
    refine uA ?_ (List.nodup_cons.mp h);intro h1 h2
    cases i with
    | zero=>cases j with
      | zero=>rfl
      | succ j=>simp only [List.getElem_cons_zero,List.getElem_cons_succ] at e;exact absurd (e▸List.getElem_mem _) h1
    | succ i=>cases j with
      | zero=>simp only [List.getElem_cons_zero,List.getElem_cons_succ] at e;exact absurd (e▸List.getElem_mem _) h1
      | succ j=>
        simp only [List.getElem_cons_succ] at e;exact congrArg _ (e9 h2 (by simpa using hi) (by simpa using hj) e)
section
variable {C:St}{w e:W}{ks:List Nat}{as:List W}{σ:AH}{D:Nat→Prop}{P:Nat→Addr}
theorem bK.at (h:bK C w ks as e){j:Nat}(hj:j<ks.length):∃(ha:j<as.length),C[ks[j]]?=some (as[j],aI ks e (j+1)):=by
  have ha:j<as.length:=by refine ah h.len ?_;exact hj
  refine aY ?_ (h.get j ks[j] (w7 hj));intro a h1 h2;rw [w7 ha] at h1
  (refine sj ?_ h1;clear h1;intro e1;subst e1)
  exact⟨ha,h2⟩
theorem bK.ne (h:bK C w ks as e){i j:Nat}(hi:i<ks.length)(hij:i≠j):aI ks e i≠aI ks e j:=by
  refine ah (aQ hi) ?_
  by_cases hj:j<ks.length
  · refine ah (aQ hj) ?_;intro q;exact hij (e9 h.nd hi hj (W.cell.inj q))
  · refine ah (aP ((w8 hj))) ?_;intro q;have:=h.stop;rw [←q] at this;exact tf this
theorem bK.okPos (h:bK C w ks as e)(L:Lk σ C D P)(hw:Ok D w):∀j,Ok D (aI ks e j)
  | 0=>by refine ah h.zero ?_;exact hw
  | j+1=>by
    by_cases hj:j<ks.length
    · refine uE ?_ (h.at hj);intro ha hc;have:=h.okPos L hw j;rw [aQ hj] at this;refine bk ?_ (L.at_ _ this);intro a d h1 _ h2 _;rw [hc] at h1;(refine oY ?_ h1;clear h1;intro e1 e2;subst e1;subst e2);exact h2
    · have:=h.okPos L hw j;rw [aP (by(first | exact(w8 hj) | exact wV ((w8 hj)) (w9 _ _)))] at this⊢
      exact this
theorem bK.okD (h:bK C w ks as e)(L:Lk σ C D P)(hw:Ok D w){j:Nat}(hj:j<ks.length):D ks[j]:=by
  have:=h.okPos L hw j;rw [aQ hj] at this;exact this
theorem bK.okA (h:bK C w ks as e)(L:Lk σ C D P)(hw:Ok D w){j:Nat}(hj:j<as.length):Ok D as[j]:=by
  have hj':j<ks.length:=by refine ch h.len ?_;exact hj
  refine uE ?_ (h.at hj');intro ha hc;refine bk ?_ (L.at_ _ (h.okD L hw hj'));intro a d h1 h2 _ _;rw [hc] at h1;(refine oY ?_ h1;clear h1;intro e1 e2;subst e1;subst e2);exact h2
theorem bK.okAs (h:bK C w ks as e)(L:Lk σ C D P)(hw:Ok D w):∀a∈as,Ok D a:=fun a ha=>by
  refine eu ?_ (List.getElem_of_mem ha);rintro j hj rfl;exact h.okA L hw hj
theorem bK.car (h:bK C w ks as e)(L:Lk σ C D P)(hw:Ok D w){j:Nat}(hj:j<ks.length):
    ∃(ha:j<as.length),aI ks e j= .cell ks[j]∧qo σ (ev P (aI ks e j)) "car" (ev P as[j])∧qo σ (ev P (aI ks e j)) "cdr" (ev P (aI ks e (j+1)))∧σ (P ks[j])=some (pF (ev P as[j]) (ev P (aI ks e (j+1)))):=by
  refine uE ?_ (h.at hj);intro ha hc;refine cf ?_ (L.car (h.okD L hw hj) hc);intro h1 h2 _ _ h3;refine ah (aQ hj) ?_;exact⟨ha,rfl,h1,h2,h3⟩
theorem bK.cellAt (h:bK C w ks as e)(j:Nat):(aI ks e j).isCell=decide (j<ks.length):=by
  by_cases hj:j<ks.length
  · refine ah (aQ hj) ?_;simp [W.isCell,hj]
  · refine ah (aP (by exact(w8 hj))) (ah h.stop ?_);simp [hj]
end
noncomputable def dO:Nat→List W→W→St
  | _,[],_=>[]
  | N,r::rs,e=>(r,e)::dO (N+1) rs (.cell N)
noncomputable def dS (N k:Nat)(e:W):W:=if k=0 then e else .cell (N+k-1)
theorem cN:∀(N:Nat) (rs:List W) (e:W),(dO N rs e).length=rs.length
  | _,[],_=>rfl
  | N,_::rs,_=>congrArg (·+1) (cN (N+1) rs _)
structure cu (σ:AH)(C:St)(D:Nat→Prop)(P:Nat→Addr)(σ':AH)(C':St)(D':Nat→Prop)(P':Nat→Addr):Prop where
  le:aH σ σ'
  pre:∃X,C'=C++X
  dom:∀k,D' k ↔ D k∨(C.length≤k∧k<C'.length)
  at_:∀k,D k→P' k=P k
  lk:Lk σ' C' D' P'
theorem Lk.lt {σ:AH}{C:St}{D:Nat→Prop}{P:Nat→Addr}(L:Lk σ C D P){k:Nat}(h:D k):k<C.length:=by
  refine fD ?_ (L.at_ k h);intro a d h1 _
  exact(List.getElem?_eq_some_iff.mp h1).1
theorem cu.refl {σ:AH}{C:St}{D:Nat→Prop}{P:Nat→Addr}(L:Lk σ C D P):cu σ C D P σ C D P:=
  ⟨aH.refl σ,⟨[],by simp⟩,fun k=>⟨.inl,fun h=>h.elim id fun h=>absurd h.2 (Nat.not_lt.mpr h.1)⟩,fun _ _=>rfl,L⟩
theorem cu.okq {σ σ':AH}{C C':St}{D D':Nat→Prop}{P P':Nat→Addr}(G:cu σ C D P σ' C' D' P'){w:W}(h:Ok D w):Ok D' w:=by
  cases w with
  | cell k=>exact(G.dom k).mpr (.inl h)
  | _=>trivial
theorem cu.evq {σ σ':AH}{C C':St}{D D':Nat→Prop}{P P':Nat→Addr}(G:cu σ C D P σ' C' D' P'){w:W}(h:Ok D w):ev P' w=ev P w:=by
  cases w with
  | cell k=>exact congrArg V.ref (G.at_ k h)
  | _=>rfl
theorem cu.trans {σ σ' σ'':AH}{C C' C'':St}{D D' D'':Nat→Prop}{P P' P'':Nat→Addr}(G:cu σ C D P σ' C' D' P')(G':cu σ' C' D' P' σ'' C'' D'' P''):cu σ C D P σ'' C'' D'' P'':=by
  refine uE ?_ G.pre;intro X hX;refine uE ?_ G'.pre;intro Y hY;refine⟨G.le.trans G'.le,⟨X++Y,by refine ah hY (ah hX ?_);rewrite [List.append_assoc];rfl⟩,fun k=> ?_,fun k hk=> ?_,G'.lk⟩
  · rw [G'.dom k,G.dom k];have h1:C'.length=C.length+X.length:=(congrArg _ hX).trans List.length_append;have h2:C''.length=C'.length+Y.length:=(congrArg _ hY).trans List.length_append
    constructor
    · rintro ((h | h) | h)
      · exact .inl h
      · exact .inr ⟨h.1,by refine ah h2 ?_;exact w0 h.2 (w9 _ _)⟩
      · exact .inr ⟨wV (h1▸w9 _ _) h.1,h.2⟩
    · rintro (h | h)
      · exact .inl (.inl h)
      · by_cases q:k<C'.length
        · exact .inl (.inr ⟨h.1,q⟩)
        · exact .inr ⟨w8 q,h.2⟩
  · exact(G'.at_ k ((G.dom k).mpr (.inl hk))).trans (G.at_ k hk)
theorem cu.one {σ:AH}{C:St}{D:Nat→Prop}{P:Nat→Addr}(L:Lk σ C D P){a:Addr}{x y:W}(hx:Ok D x)(hy:Ok D y)(ha:σ a=none):
    cu σ C D P (σ.set a (pF (ev P x) (ev P y))) (C++[(x,y)]) (fun k=>D k∨k=C.length) (fun k=>if k=C.length then a else P k):=by
  have hne:∀k,D k→k≠C.length:=fun k hk=>Nat.ne_of_lt (L.lt hk);have hev:∀w,Ok D w→ev (fun k=>if k=C.length then a else P k) w=ev P w:=fun w hw=>by
    cases w with
    | cell k=>simp only [ev,if_neg (hne k hw)]
    | _=>rfl
  have hok:∀w,Ok D w→Ok (fun k=>D k∨k=C.length) w:=fun w hw=>by
    cases w with
    | cell k=>exact .inl hw
    | _=>trivial
  have hP:∀k,D k→P k≠a:=fun k hk q=>by
    refine bk ?_ (L.at_ k hk);intro _ _ _ _ _ h;rw [q,ha] at h;exact nn h
  refine⟨aH.set ha,⟨_,rfl⟩,fun k=> ?_,fun k hk=>if_neg (hne k hk), ?_⟩
  · refine ah List.length_append (ah List.length_singleton ?_)
    constructor
    · rintro (h | rfl)
      · exact .inl h
      · exact .inr ⟨w6 _,xk _⟩
    · rintro (h | h)
      · exact .inl h
      · exact .inr (Nat.le_antisymm (Nat.le_of_lt_succ h.2) h.1)
  · refine⟨aH.set ha _ _ L.nil,fun k hk=> ?_,fun j k hj hk e=> ?_⟩
    · rcases hk with hk | rfl
      · refine bk ?_ (L.at_ k hk);intro p d h1 h2 h3 h4;refine⟨p,d, ?_,hok _ h2,hok _ h3, ?_⟩
        · exact(List.getElem?_append_left (L.lt hk)).trans h1
        · refine ah (if_neg (hne k hk)) (ah (hev _ h2) (ah (hev _ h3) ?_));exact aH.set ha _ _ h4
      · refine⟨x,y,by simp,hok _ hx,hok _ hy, ?_⟩
        refine ah (if_pos rfl) (ah (hev _ hx) (ah (hev _ hy) ?_));exact wq _ _ _
    · rcases hj with hj | rfl<;>rcases hk with hk | rfl
      · rw [if_neg (hne j hj),if_neg (hne k hk)] at e;exact L.inj j k hj hk e
      · rw [if_neg (hne j hj),if_pos rfl] at e;exact absurd e (hP j hj)
      · rw [if_neg (hne k hk),if_pos rfl] at e;exact absurd e.symm (hP k hk)
      · rfl
end
section
theorem pU (j:Nat):((j:Int)%2==0)=decide (j%2=0):=by
  rewrite [Bool.eq_iff_iff];rewrite [beq_iff_eq];refine ah decide_eq_true_eq ?_;exact Int.ofNat_inj (m:=j%2) (n:=0)
theorem fT {α β:Type}(f:α→β)(as:List α)(j:Nat)(h:j<as.length):(as.take j).map f++[f as[j]]=(as.take (j+1)).map f:=by
  refine ch (List.take_append_getElem h) (ah List.map_append ?_);rfl
section
variable {σ:AH}{C:St}{D:Nat→Prop}{P:Nat→Addr}{w e:W}{ks:List Nat}{as:List W}
theorem Lk.setNew (L:Lk σ C D P){l:Addr}{o:bL}(hl:σ l=none):Lk (σ.set l o) C D P:=
  ⟨aH.set hl _ _ L.nil,fun k hk=>by
    refine bk ?_ (L.at_ k hk);intro a d h1 h2 h3 h4;exact⟨a,d,h1,h2,h3,aH.set hl _ _ h4⟩,L.inj⟩
theorem bK.carF (h:bK C w ks as e)(L:Lk σ C D P)(hw:Ok D w){j:Nat}(hj:j<ks.length):
    ∃(ha:j<as.length),qo σ (ev P (aI ks e j)) "car" (ev P as[j])∧qo σ (ev P (aI ks e j)) "cdr" (ev P (aI ks e (j+1))):=
  let ⟨ha,_,h1,h2,_⟩:=h.car L hw hj;⟨ha,h1,h2⟩
end
section
variable {B:Bs}{Pr:Params}{n:Nat}{Q:V→AH→Prop}{E:Str→AH→Prop}{σ:AH}{C:St}{D:Nat→Prop}{P:Nat→Addr}{w e:W}{ks:List Nat}{as:List W}
noncomputable def sU:ax:=[("datum", .loc none),("things", .loc none),("at", .loc none),("slow", .loc none),("isinstance", .glob (.bi "isinstance")),("Cons", .glob (.ref 82)),("len", .glob (.bi "len"))]
theorem dE (hB:B.K=HK Pr)(hn:2≤n)(L:Lk σ C D P)(hw:Ok D w)(h:bK C w ks as e)(hz:ks.length≤1000)(q:∀l,σ l=none→Q (.tup [.ref l,ev P e]) (σ.set l (.list (as.map (ev P))))):CV B n (.ref 200) [ev P w] Q E σ:=by
  have K:=b9 hB;refine cO (by assumption) uS rfl hn ?_;intro n' hn' hp;refine bE rfl (fun _=>rfl) (a9 rfl (by decide) ?_);intro l hl;walk_at "m";refine aX K hp rfl (fun _=>rfl) ?_;refine kE.mk (af rfl) ?_;walk_at "m";refine aX K hp rfl (fun _=>rfl) ?_;refine kE.mk (af rfl) ?_;walk_at "m";refine ao (cc ?_);have hle:=h.len;refine dz (fun(j:Nat) m σ'=>j≤ks.length∧m=(bp sU [(some (ev P w)),(some (.ref l)),(some (ev P (aI ks e j))),(some (ev P (aI ks e (j/2))))])∧σ'=σ.set l (.list ((as.take j).map (ev P)))) (fun j=>ks.length-j) ?_ 0 _ _ ⟨xd _,by refine ah h.zero ?_;rfl,by first | rfl | simp⟩
  intro j m σ';refine dc ?_;rintro hj rfl rfl;have L1:Lk (σ.set l (.list ((as.take j).map (ev P)))) C D P:=L.setNew hl;have i2:=L1.cls (h.okPos L1 hw j);have i3:=h.cellAt j;refine cP K hp ?_;refine kE.mk (bh .n (af rfl) (aD rfl (af rfl) (af rfl)) (bB i2 i3)) ?_
  try rfl
  refine⟨_,rfl, ?_⟩
  by_cases hlt:j<ks.length
  · refine aY ?_ (h.carF L1 hw hlt);intro ha hc2 hc3;have sm:=aR P as[j];have v6:=aR P (aI ks e (j+1));refine ah (decide_eq_true hlt) ?_;refine aF (cz K hp .n rfl rfl ?_);refine kE.mk (af rfl) (kE.mk (cF .n (af rfl) hc2 (aO _ _)) ?_);refine⟨l,_,rfl,wq _ _ _,by simp [sizeLine_eq];exact wZ (wV (Nat.min_le_right _ _) (wV (wX hle) hz)) (wW rfl), ?_⟩
    rewrite [wt];refine ah (fT (ev P) as j ha) ?_;have L2:Lk (σ.set l (.list ((as.take (j+1)).map (ev P)))) C D P:=L.setNew hl;refine aY ?_ (h.carF L2 hw hlt);intro _ hc2 hc3;have hsz:σ.set l (.list ((as.take (j+1)).map (ev P))) l=some (.list ((as.take (j+1)).map (ev P))):=wq _ _ _;have hlen:((as.take (j+1)).map (ev P)).length=j+1:=by simp;exact Nat.min_eq_left ha
    generalize hys:(as.take (j+1)).map (ev P)=ys at*;refine aX K hp rfl (fun _=>rfl) ?_;refine kE.mk (cF .n (af rfl) hc3 (aO _ _)) ?_;walk_at "m";refine a7 K hp ?_;refine kE.mk (aC rfl (cR (bh .n (af rfl) (aA rfl (af rfl)) (.len (.l hsz))) (ak rfl) (.mod (by decide))) (ak rfl) (.eq (.a (.i _ _)))) ?_;refine⟨_,rfl, ?_⟩;refine ah hlen ?_;rewrite [pU]
    by_cases hpar:(j+1)%2=0
    · refine ah (decide_eq_true hpar) ?_;have hslt:j/2<ks.length:=wZ (Nat.div_le_self _ _) (by assumption);refine aY ?_ (h.carF L2 hw hslt);intro _ _ hc4;have sm3:=aR P (aI ks e (j/2+1));have i4:=L2.is (h.okPos L2 hw (j+1)) (h.okPos L2 hw (j/2+1)) (fun a b e1 e2=>by
        have:=h.cellAt (j/2+1);rw [e2] at this;exact absurd (wZ (ye hpar).2 (by assumption)) (of_decide_eq_false this.symm))
      rw [decide_eq_false (Ne.symm (h.ne (i:=j/2+1) (j:=j+1) (yg (by assumption) hpar).2 (yh hpar)))] at i4;refine aF (aX K hp rfl (fun _=>rfl) ?_);refine kE.mk (cF .n (af rfl) hc4 (aO _ _)) ?_;walk_at "m";refine a7 K hp ?_;refine kE.mk (aC rfl (af rfl) (af rfl) (.is i4)) ?_;refine⟨_,rfl,az (aj ?_)⟩;refine ay ?_;walk_at "m";refine aj ?_;refine ay ?_;walk_at "m";refine aj ?_;refine bv ?_;refine⟨j+1,ad hlt,pE hle ‹_›, ?_,ch hys rfl⟩;refine ah ((ye (by assumption)).1) ?_<;>rfl
    · refine ah (decide_eq_false hpar) ?_;refine az (aj ?_);refine ay ?_;walk_at "m";refine aj ?_;refine bv ?_;refine⟨j+1,ad hlt,pE hle ‹_›, ?_,ch hys rfl⟩;refine ah (yf (by assumption)) ?_<;>rfl
  · refine ah (decide_eq_false hlt) ?_;refine az ?_;refine ay ?_;walk_at "m";refine aL K hp ?_;refine kE.mk (bD (wW rfl) (aD rfl (af rfl) (af rfl))) ?_;refine ah (aP ((w8 hlt))) (ah (List.take_of_length_le (wV (wX hle) ((w8 hlt)))) ?_);exact q l hl
end
end
section
section
variable {B:Bs}{Pr:Params}{n:Nat}{Q:V→AH→Prop}{E:Str→AH→Prop}{σ:AH}{C:St}{D:Nat→Prop}{P:Nat→Addr}{w e:W}{ks:List Nat}{as:List W}
theorem hZ (hB:B.K=HK Pr)(hn:6≤n)(L:Lk σ C D P)(hw:Ok D w)(q:w.isCell=true→Q (ev P w) σ)(qE:w.isCell=false→E "wrong-type-argument" σ):CV B n (.ref 242) [ev P w] Q E σ:=by
  have K:=b9 hB;have i2:=L.cls hw;refine cO (by assumption) uW rfl (ar hn rfl) ?_;intro n' hn' hp;refine a7 K hp ?_;refine kE.mk (oA (bh .n (af rfl) (aD rfl (af rfl) (af rfl)) (bB i2 rfl))) ?_
  try rw [wK]
  refine⟨_,rfl, ?_⟩
  cases h:w.isCell
  · refine aF (ao (cL hB (aq hn' hn rfl) rfl rfl ?_));refine kE.mk (af rfl) ?_<;>exact qE h
  · refine az (aj ?_);refine ay ?_;walk_at "m";refine aL K hp ?_;refine kE.mk (af rfl) ?_<;>exact q h
theorem eW (hB:B.K=HK Pr)(hn:6≤n){i:Int}(L:Lk σ C D P)(q:Q (.int i) σ):CV B n (.ref 249) [.int i] Q E σ:=by
  have K:=b9 hB;refine cO (by assumption) uX rfl (ar hn rfl) ?_;intro n' hn' hp;refine ey K hp .n rfl ?_;refine wU (af rfl) (aA rfl (af rfl)) ?_;refine⟨aB hB rfl,fW hB (aq hn' hn rfl) (w:= .num i) L trivial ⟨_,rfl,jo (aj ?_)⟩⟩;refine ay ?_;walk_at "m";refine aL K hp ?_;refine kE.mk (af rfl) ?_;assumption
theorem j7 (P:Nat→Addr)(w:W):jF σ (ev P w) .none false:=by cases w<;>exact .d rfl rfl
theorem me {e:W}(h:e.isNil=true):e= .nil:=by cases e<;>first | rfl | exact ft h
theorem du (hB:B.K=HK Pr)(hn:7≤n)(L:Lk σ C D P)(hw:Ok D w)(h:bK C w ks as e)(hz:ks.length≤1000)(q:e= .nil→∀l,σ l=none→Q (.ref l) (σ.set l (.list (as.map (ev P)))))(qE:e≠ .nil→E "wrong-type-argument" σ):CV B n (.ref 256) [ev P w] Q E σ:=by
  have K:=b9 hB;refine wv (σ₀:=σ) ?_;refine cO (by assumption) uY rfl (ar hn rfl) ?_;intro n' hn' hp;refine jN K hp .n rfl ?_;refine wU (af rfl) (aA rfl (af rfl)) ?_;refine⟨aB hB rfl,bF hB (aq hn' hn rfl) L hw (fun hnum=> ?_) fun hnum=>⟨aH.refl σ,qE fun he=> ?_⟩⟩
  · refine ao (aS (.cons (.cons .nil)) rfl (aK K hp .n rfl ?_));refine wU (af rfl) (aA rfl (af rfl)) ?_;refine⟨aB hB rfl,dE hB (aq hn' hn rfl) L hw h hz fun l hl=>⟨_,rfl,rfl, ?_⟩⟩;refine ay ?_;walk_at "m";have he:Ok D e:=by have:=h.okPos L hw ks.length;rwa [aP (w6 _)] at this
    have L1:Lk (σ.set l (.list (as.map (ev P)))) C D P:=L.setNew hl;have i1:=j7 (σ:=σ.set l (.list (as.map (ev P)))) P e;have i2:=L1.isNil he;refine a7 K hp ?_;refine kE.mk (aC rfl (af rfl) (ak rfl) (.is i1)) ?_;refine⟨_,rfl,az (aj ?_)⟩;refine ay ?_;walk_at "m";refine a7 K hp ?_;refine kE.mk (aC rfl (af rfl) (af rfl) (.isn i2 rfl)) ?_;refine⟨_,rfl, ?_⟩
    cases hen:e.isNil
    · refine aF (ao (cL hB (aq hn' hn rfl) rfl rfl ?_));refine kE.mk (af rfl) ?_<;>exact⟨aH.set hl,qE fun q=>by subst q;exact tf hen⟩
    · refine az (aj ?_);refine ay ?_;walk_at "m";refine aL K hp ?_;refine kE.mk (af rfl) ?_<;>exact q (me hen) l hl
  · subst he;have:=h.zero
    cases w<;>first | ((first | exact ft hnum | cases (hnum));done) | skip
    unfold aI at this
    (first | (with_reducible refine rm ?_ ?_ this<;>(clear this;intro _ this)) | split at this)<;>cases this
theorem mM (hB:B.K=HK Pr)(hn:3≤n)(L:Lk σ C D P)(hw:Ok D w)(h:bK C w ks as e)(hz:ks.length≤1000)(q:e= .nil→∀l,σ l=none→Q (.ref l) (σ.set l (.list (as.map (ev P)))))(q':e≠ .nil→Q .none σ):CV B n (.ref 207) [ev P w] Q E σ:=by
  have K:=b9 hB
  by_cases hen:e= .nil
  · refine cO (by assumption) sZ rfl (ar hn rfl) ?_;intro n' hn' hp;refine ao (aS (.cons (.cons .nil)) rfl (aK K hp .n rfl ?_));refine wU (af rfl) (aA rfl (af rfl)) ?_;refine⟨aB hB rfl,dE hB (aq hn' hn rfl) L hw h hz fun l hl=>⟨_,rfl,rfl, ?_⟩⟩;refine ay ?_;walk_at "m";have L1:Lk (σ.set l (.list (as.map (ev P)))) C D P:=L.setNew hl;have i2:=L1.isNil (w:=e) (by refine ah hen ?_;trivial);rw [show e.isNil=true by refine ah hen ?_;rfl] at i2
    refine aL K hp ?_;refine kE.mk (fu (aC rfl (af rfl) (af rfl) (.is i2)) (af rfl)) ?_;exact q hen l hl
  · refine wu (σ₀:=σ) ?_;refine cO (by assumption) sZ rfl (ar hn rfl) ?_;intro n' hn' hp;refine ao (aS (.cons (.cons .nil)) rfl (aK K hp .n rfl ?_));refine wU (af rfl) (aA rfl (af rfl)) ?_;refine⟨aB hB rfl,dE hB (aq hn' hn rfl) L hw h hz fun l hl=>⟨_,rfl,rfl, ?_⟩⟩;refine ay ?_;walk_at "m";have L1:Lk (σ.set l (.list (as.map (ev P)))) C D P:=L.setNew hl;have he:Ok D e:=by have:=h.okPos L hw ks.length;rwa [aP (w6 _)] at this
    have i2:=L1.isNil he;have i3:e.isNil=false:=by cases e<;>first | rfl | exact absurd rfl hen
    rw [i3] at i2;refine aL K hp ?_;refine kE.mk (j5 (aC rfl (af rfl) (af rfl) (.is i2)) (ak rfl)) ?_;exact⟨aH.set hl,q' hen⟩
noncomputable def fs (C:St):W→Option W
  | .nil=>some .nil
  | .cell k=>(C[k]?).map (·.2)
  | .num _=>none
noncomputable def fq (C:St):W→Option W
  | .nil=>some .nil
  | .cell k=>(C[k]?).map (·.1)
  | .num _=>none
theorem lI (hB:B.K=HK Pr)(hn:8≤n)(L:Lk σ C D P)(hw:Ok D w)(q:∀v,fq C w=some v→Ok D v→Q (ev P v) σ)(qE:w.isNum=true→E "wrong-type-argument" σ):CV B n (.ref 263) [ev P w] Q E σ:=by
  have K:=b9 hB;have i2:=L.cls hw;refine cO (by assumption) uZ rfl (ar hn rfl) ?_;intro n' hn' hp;refine aJ (aV (cP K hp ?_));refine kE.mk (bh .n (af rfl) (aD rfl (af rfl) (af rfl)) (bB i2 rfl)) ?_
  try rw [wK]
  refine⟨_,rfl, ?_⟩
  cases w with
  | num i=>
    refine az (aK K hp .n rfl ?_);refine wU (af rfl) (aA rfl (af rfl)) ?_;refine⟨aB hB rfl,bF hB (aq hn' hn rfl) L hw (fun h=>by exact tf h) fun h=>qE rfl⟩
  | nil=>
    refine az (aK K hp .n rfl ?_);refine wU (af rfl) (aA rfl (af rfl)) ?_;refine⟨aB hB rfl,bF hB (aq hn' hn rfl) L hw (fun h=>q .nil rfl trivial) fun h=>ft h⟩
  | cell k=>
    refine bk ?_ (L.at_ k hw);intro a d h1 h2 h3 h4;refine dc ?_ (L.car hw h1);intro f1 f2 _;refine aF (eK (aK K hp .n rfl ?_) (fun _ _=>rfl));refine wU (af rfl) (aA rfl (af rfl)) ?_;refine⟨aB hB rfl,bF hB (aq hn' hn rfl) L hw (fun h=>kA K f1 (aO P a) (q a (by simp [fq,h1]) h2)) fun h=>ft h⟩
theorem lJ (hB:B.K=HK Pr)(hn:8≤n)(L:Lk σ C D P)(hw:Ok D w)(q:∀v,fs C w=some v→Ok D v→Q (ev P v) σ)(qE:w.isNum=true→E "wrong-type-argument" σ):CV B n (.ref 270) [ev P w] Q E σ:=by
  have K:=b9 hB;have i2:=L.cls hw;refine cO (by assumption) u0 rfl (ar hn rfl) ?_;intro n' hn' hp;refine aJ (aV (cP K hp ?_));refine kE.mk (bh .n (af rfl) (aD rfl (af rfl) (af rfl)) (bB i2 rfl)) ?_
  try rw [wK]
  refine⟨_,rfl, ?_⟩
  cases w with
  | num i=>
    refine az (aK K hp .n rfl ?_);refine wU (af rfl) (aA rfl (af rfl)) ?_;refine⟨aB hB rfl,bF hB (aq hn' hn rfl) L hw (fun h=>by exact tf h) fun h=>qE rfl⟩
  | nil=>
    refine az (aK K hp .n rfl ?_);refine wU (af rfl) (aA rfl (af rfl)) ?_;refine⟨aB hB rfl,bF hB (aq hn' hn rfl) L hw (fun h=>q .nil rfl trivial) fun h=>ft h⟩
  | cell k=>
    refine bk ?_ (L.at_ k hw);intro a d h1 h2 h3 h4;refine dc ?_ (L.car hw h1);intro f1 f2 _;refine aF (eK (aK K hp .n rfl ?_) (fun _ _=>rfl));refine wU (af rfl) (aA rfl (af rfl)) ?_;refine⟨aB hB rfl,bF hB (aq hn' hn rfl) L hw (fun h=>kA K f2 (aO P d) (q d (by simp [fs,h1]) h3)) fun h=>ft h⟩
theorem kH (hB:B.K=HK Pr)(hn:3≤n){v:W}(L:Lk σ C D P)(hw:Ok D w)(hv:Ok D v)(q:Q (.bool (decide (w=v))) σ):CV B n (.ref 326) [ev P w,ev P v] Q E σ:=by
  have K:=b9 hB;refine bm (by assumption) vd rfl (ar hn rfl) ?_;intro n' hn' hp;have call1:∀(R:V→AH→Prop),R (.bool w.isNum) σ→CV B n' (.ref 214) [ev P w] R E σ:=fun R hR=>fW hB (aq hn' hn rfl) L hw hR;have call2:∀(R:V→AH→Prop),R (.bool v.isNum) σ→CV B n' (.ref 214) [ev P v] R E σ:=fun R hR=>fW hB (aq hn' hn rfl) L hv hR;refine ao (ew (bR (dq K hp .n rfl ?_)));refine wU (af rfl) (aA rfl (af rfl)) ?_;refine⟨aB hB rfl,call1 _ ⟨_,rfl, ?_⟩⟩;have whole:∀(Q':cM→ax→AH→Prop) (m:ax),True:=fun _ _=>trivial
  cases h1:w.isNum
  · refine dq K hp .n rfl ?_;refine wU (af rfl) (aA rfl (af rfl)) ?_;refine⟨aB hB rfl,call2 _ ⟨_,rfl, ?_⟩⟩
    cases h2:v.isNum
    · refine aj ?_;refine ay ?_;walk_at "m";have i3:=L.is hw hv (fun i j e1 _=>by subst e1;exact tf h1);refine aL K hp ?_
      (refine kE.mk (aC rfl (af rfl) (af rfl) (.is i3)) ?_;assumption)<;>exact q
    · refine aJ (dG (aK K hp .n rfl ?_));refine wU (af rfl) (aA rfl (af rfl)) ?_;refine⟨aB hB rfl,call1 _ ?_⟩;refine ah h1 ?_;refine fe ?_;have:decide (w=v)=false:=decide_eq_false fun e=>by subst e;rw [h1] at h2;exact ft h2
      rw [this] at q;exact q
  · refine aJ (dG (aK K hp .n rfl ?_));refine wU (af rfl) (aA rfl (af rfl)) ?_;refine⟨aB hB rfl,call1 _ ?_⟩;refine ah h1 ?_;refine aK K hp .n rfl ?_;refine wU (af rfl) (aA rfl (af rfl)) ?_;refine⟨aB hB rfl,call2 _ ?_⟩
    cases h2:v.isNum
    · refine fe ?_;have:decide (w=v)=false:=decide_eq_false fun e=>by subst e;rw [h1] at h2;exact tf h2
      rw [this] at q;exact q
    · cases w<;>first | ((first | exact ft h1 | cases (h1));done) | skip
      cases v<;>first | ((first | exact ft h2 | cases (h2));done) | skip
      rename_i i j
      refine bn K hp ?_;simp only [ev];refine kE.mk (aC rfl (af rfl) (af rfl) (.eq (.a (.i _ _)))) ?_;refine fe ?_;have:decide (W.num i=W.num j)=(i==j):=by rewrite [Bool.eq_iff_iff];refine ah decide_eq_true_eq ?_;rewrite [beq_iff_eq];exact⟨fun e=>by cases e;rfl,fun e=>congrArg _ e⟩
      rw [this] at q;exact q
end
end
section
section
variable {B:Bs}{Pr:Params}{n:Nat}{Q:V→AH→Prop}{E:Str→AH→Prop}{σ:AH}{C:St}{D:Nat→Prop}{P:Nat→Addr}{w e:W}{ks:List Nat}{as:List W}
theorem rC {f:Addr}{ps:List Str}{ds:List V}{body:List Stmt}{scope:Scope}{xs:List V}{m:ax}(hB:B.K=HK Pr)(F:pf (HK Pr) f ps ds body scope)(hl:xs.length+ds.length=ps.length)(hn:2≤n)(hm:iA (qu lY) ps (xs++ds) scope.names=m)
    (h:∀n',n=n'+1→0<n'→bu B n' m body (fun fl _ σ'=>Q (match fl with | .ret v=>v | _=> .none) σ') E σ):CV B n (.ref f) xs Q E σ:=by
  obtain ⟨n',rfl⟩:∃n',n=n'+1:=⟨n-1,Eq.symm (Nat.sub_add_cancel (wV (wW rfl) hn))⟩;subst hm;exact rz (by refine ah hB ?_;exact F) (dD hB) hl (h n' rfl (Nat.lt_of_succ_lt_succ hn))
theorem gw:∀(rs:List W) (N:Nat) (x e:W),dO N (rs++[x]) e=dO N rs e++[(x,dS N rs.length e)]
  | [],N,x,e=>rfl
  | r::rs,N,x,e=>by
    refine ah List.cons_append ?_;rewrite [dO];rewrite [dO];refine ah (gw rs (N+1) x (.cell N)) (ah List.cons_append ?_)
    congr 2
    unfold dS
    cases rs with
    | nil=>rfl
    | cons _ _=>simp;exact Nat.add_right_comm _ _ _
noncomputable def rO:ax:=[("things", .loc none),("tail", .loc none),("found", .loc none),("place", .loc none),("range", .glob (.ty "range")),("len", .glob (.bi "len")),("Cons", .glob (.ref 82))]
theorem dH (hB:B.K=HK Pr)(hn:4≤n)(L:Lk σ C D P){l:Addr}(hl:σ l=some (.list (as.map (ev P))))(hz:as.length≤1000)(hok:∀a∈as,Ok D a)
    (q:∀σ' D' P',cu σ C D P σ' (C++dO C.length as.reverse .nil) D' P'→Ok D' (dS C.length as.length .nil)→Q (ev P' (dS C.length as.length .nil)) σ'):CV B n (.ref 193) [.ref l] Q E σ:=by
  have K:=b9 hB
  refine' rC (m:=bp tE [some (.ref l),some (.ref 64)]) (ps:=["things","tail"]) (ds:=[.ref 64]) hB ?F rfl (ar hn rfl) ?hm ?_
  case F=>
    refine⟨_,_,_,_,_,_,_,_,_,_,_,_,_,rfl,rfl,rfl,rfl,rfl,rfl,by simp [ba],fun s vals X hl=> ?_⟩
    match vals,hl with
    | [a],_=>exact⟨[.ref 64],fun _=>⟨_,_,rfl,rfl,rfl⟩,BindsTo.of_defaults rfl (X _ _ rfl) rfl rfl rfl⟩
  case hm=>kernel_rfl
  intro n' hn' hp;walk_at "m";refine aX K hp rfl (fun _=>rfl) ?_;refine kE.mk (af rfl) ?_;walk_at "m";refine ao (dB (fi rfl rfl (fh K hp ?_)));refine lZ.mk (bG rfl (cR (bh .n (af rfl) (aA rfl (af rfl)) (.len (.l hl))) (ak rfl) .sub) (ek (ak rfl)) (ek (ak rfl))) ?_;refine .inr ⟨_,rfl,by simp;lia,by simp;lia, ?_⟩
  have hlen:(as.map (ev P)).length=as.length:=by simp
  simp only [hlen];refine lz (fun(i:Nat) m σ'=>i≤as.length∧∃D' P' o,cu σ C D P σ' (C++dO C.length (as.drop i).reverse .nil) D' P'∧Ok D' (dS C.length (as.length-i) .nil)∧m=(bp rO [(some (.ref l)),(some (.ref 64)),(some (ev P' (dS C.length (as.length-i) .nil))),o])) ?_ ?_ as.length _ _ ?_
  · intro i m σ';refine oZ ?_;intro hi D' P';refine bI ?_;rintro o G hok' rfl;refine⟨rfl, ?_⟩;have hl':=G.le _ _ hl;have hget:(as.map (ev P))[i]?=some (ev P as[i]):=by refine ah List.getElem?_map (ah (w7 (by exact hi)) ?_);rfl
    have hit:eJ σ' (.ref l) (.int i) (ev P as[i]):=by
      exact .nat hl' hget
    walk_at "m";refine c7 K hp rfl .n rfl ?_;refine wU (af rfl) (aD rfl (a6 .n (af rfl) (af rfl) hit) (af rfl)) ?_;refine⟨aB hB rfl,ku hB (by exact aq hn' hn rfl) fun a ha=> ?_⟩;have ok1:Ok D as[i]:=hok _ (List.getElem_mem _);have G1:=cu.one G.lk (G.okq ok1) hok' ha;rw [G.evq ok1] at G1;refine aj ?_;refine bv ?_;have hC:(C++dO C.length (as.drop (i+1)).reverse .nil).length=C.length+(as.length-(i+1)):=by refine ah List.length_append ?_;rewrite [cN];exact ah List.length_reverse (ah List.length_drop rfl)
    have hCC:C++dO C.length (as.drop i).reverse .nil=C++dO C.length (as.drop (i+1)).reverse .nil++[(as[i],dS C.length (as.length-(i+1)) .nil)]:=by
      refine ah (List.drop_eq_getElem_cons (by exact hi)) (ah List.reverse_cons ?_);rewrite [gw];refine ah List.length_reverse (ah List.length_drop ?_);rewrite [List.append_assoc];rfl
    have hH:dS C.length (as.length-i) .nil= .cell (C.length+(as.length-(i+1))):=by
      unfold dS;refine ah (if_neg (by exact Nat.sub_ne_zero_of_lt hi)) ?_;exact congrArg _ (yb (show i<as.length by assumption) _)
    rw [←hCC] at G1;rw [hC] at G1;refine⟨by exact wY hi,_,_,some (.int i),G.trans G1, ?_, ?_⟩
    · refine ah hH ?_;exact .inr rfl
    · refine ah hH ?_;simp only [ev,if_true];rfl
  · intro m σ';refine oZ ?_;intro hi D' P';refine bI ?_;rintro o G hok' rfl;refine ay ?_;walk_at "m";refine aL K hp ?_;refine kE.mk (af rfl) ?_;exact q _ _ _ G hok'
  · refine⟨w6 _,D,P,none, ?_, ?_, ?_⟩
    · refine ah (List.drop_of_length_le (w6 _)) ?_;simp only [List.reverse_nil,dO,List.append_nil];exact cu.refl L
    · rw [Nat.sub_self];trivial
    · rw [Nat.sub_self];rfl
end
end
section
section
variable {B:Bs}{Pr:Params}{n:Nat}{Q:V→AH→Prop}{E:Str→AH→Prop}{σ:AH}{C:St}{D:Nat→Prop}{P:Nat→Addr}{w e:W}{ks:List Nat}{as:List W}
noncomputable def rP:ax:=[("value", .loc none),("slow", .loc none),("fast", .loc none),("ahead", .loc none),("here", .loc none),("many", .loc none),("isinstance", .glob (.bi "isinstance")),("Cons", .glob (.ref 82))]
theorem jQ (hB:B.K=HK Pr)(hn:2≤n)(L:Lk σ C D P)(hw:Ok D w)(h:bK C w ks as e)(q:Q .none σ):CV B n (.ref 366) [ev P w] Q E σ:=by
  have K:=b9 hB;refine cO (by assumption) vj rfl hn ?_;intro n' hn' hp;refine dY rfl rfl rfl rfl rfl rfl rfl (bn K hp ?_)
  · refine kE.mk (bD (wW rfl) (aD rfl (af rfl) (af rfl))) ?_;refine⟨_,_,rfl, ?_⟩;walk_at "m";refine ao (cc ?_);refine dz (fun(i:Nat) m σ'=>2*i≤ks.length∧m=(bp rP [(some (ev P w)),(some (ev P (aI ks e i))),(some (ev P (aI ks e (2*i))))])∧σ'=σ) (fun i=>ks.length-2*i) ?_ 0 _ _ ⟨xd _,by refine ah h.zero ?_;rfl,rfl⟩
    intro i m σ';refine dc ?_;rintro hi rfl rfl;have i1:=L.cls (h.okPos L hw (2*i));have i2:=L.cls (h.okPos L hw (2*i+1));have c1:=h.cellAt (2*i);have c2:=h.cellAt (2*i+1);refine cP K hp ?_
    by_cases h1:2*i<ks.length
    · refine aY ?_ (h.carF L hw h1);intro _ _ a1;have s1:=aR P (aI ks e (2*i+1));rw [decide_eq_true h1] at c1;refine kE.mk (bU (cY (bh .n (af rfl) (aD rfl (af rfl) (af rfl)) (bB i1 c1)) (dw (bh .n (af rfl) (aD rfl (cF .n (af rfl) a1 (aO _ _)) (af rfl)) (bB i2 c2))))) ?_
      try rfl
      by_cases h2:2*i+1<ks.length
      · refine ah (decide_eq_true h2) ?_;refine⟨_,rfl,aF ?_⟩;refine aY ?_ (h.carF L hw h2);intro _ _ a2;have s2:=aR P (aI ks e (2*i+1+1));refine aY ?_ (h.carF L hw (j:=i) (Nat.lt_of_succ_lt (wZ (xc (Nat.le_mul_of_pos_left i (wW rfl)) 1) h2)));intro _ _ a3;have s3:=aR P (aI ks e (i+1));refine dY rfl rfl rfl rfl rfl rfl rfl (bn K hp ?_)
        · refine kE.mk (bD (wW rfl) (aD rfl (cF .n (af rfl) a3 (aO _ _)) (cF .a (cF .n (af rfl) a1 (aO _ _)) a2 (aO _ _)))) ?_;refine⟨_,_,rfl, ?_⟩;walk_at "m";have i4:=L.is (h.okPos L hw (i+1)) (h.okPos L hw (2*i+1+1)) (fun a b e1 e2=>by
            have:=h.cellAt (i+1);rw [e1] at this;exact absurd (wZ (xc (Nat.le_mul_of_pos_left i (wW rfl)) 1) h2) (of_decide_eq_false this.symm))
          rw [decide_eq_false (h.ne (i:=i+1) (j:=2*i+1+1) (wZ (xc (Nat.le_mul_of_pos_left i (wW rfl)) 1) h2) (Nat.ne_of_lt (Nat.add_lt_add_right (xi (Nat.le_mul_of_pos_left i (wW rfl))) 1)))] at i4;refine a7 K hp ?_;refine kE.mk (aC rfl (af rfl) (af rfl) (.is i4)) ?_;refine⟨_,rfl,az (aj ?_)⟩;refine ay ?_;walk_at "m";refine aj ?_;refine bv ?_;exact⟨i+1,yi h1 h2,h2,by refine ah (show 2*(i+1)=2*i+1+1 by exact rfl) ?_;rfl,(by trivial)⟩
      · refine ah (decide_eq_false h2) ?_;refine⟨_,rfl,az ?_⟩;refine ay ?_;walk_at "m";refine aL K hp ?_
        (refine kE.mk (ak rfl) ?_;assumption)<;>exact q
    · rw [decide_eq_false h1] at c1;refine kE.mk (bU (cX (bh .n (af rfl) (aD rfl (af rfl) (af rfl)) (bB i1 c1)))) ?_
      try rfl
      refine⟨_,rfl,az ?_⟩;refine ay ?_;walk_at "m";refine aL K hp ?_
      (refine kE.mk (ak rfl) ?_;assumption)<;>exact q
end
end
section
section
variable {B:Bs}{Pr:Params}{n:Nat}{Q:V→AH→Prop}{E:Str→AH→Prop}{σ:AH}{C:St}{D:Nat→Prop}{P:Nat→Addr}{w e x y:W}{ks:List Nat}{as:List W}{al:Addr}
theorem aT {u:V}{r:List V}(h:σ al=some (.list (u::r))):eJ σ (.ref al) (.int 0) u:= .l (.inl h) rfl
theorem bV {u v:V}{r:List V}(h:σ al=some (.list (u::v::r))):eJ σ (.ref al) (.int 1) v:= .l (.inl h) rfl
theorem el {u v:V}(h:σ al=some (.list [u,v])):eJ σ (.ref al) (.int (-1)) v:= .l (.inl h) rfl
theorem mY {u:V}(h:σ al=some (.list [u])):eJ σ (.ref al) (.int (-1)) u:= .l (.inl h) rfl
theorem ja (hB:B.K=HK Pr)(hn:9≤n)(L:Lk σ C D P)(hx:Ok D x)(ha:σ al=some (.list [ev P x]))(q:∀v,fq C x=some v→Ok D v→Q (ev P v) σ)(qE:x.isNum=true→E "wrong-type-argument" σ):CV B n (.ref 277) [.none, .ref al] Q E σ:=by
  have K:=b9 hB;have h0:=aT ha;refine bm (by assumption) u6 rfl (ar hn rfl) ?_;intro n' hn' hp;refine dm K hp .n rfl ?_;refine wU (af rfl) (aA rfl (av rfl rfl h0)) ?_;exact⟨aB hB rfl,lI hB (aq hn' hn rfl) L hx q qE⟩
theorem jb (hB:B.K=HK Pr)(hn:9≤n)(L:Lk σ C D P)(hx:Ok D x)(ha:σ al=some (.list [ev P x]))(q:∀v,fs C x=some v→Ok D v→Q (ev P v) σ)(qE:x.isNum=true→E "wrong-type-argument" σ):CV B n (.ref 284) [.none, .ref al] Q E σ:=by
  have K:=b9 hB;have h0:=aT ha;refine bm (by assumption) u7 rfl (ar hn rfl) ?_;intro n' hn' hp;refine dm K hp .n rfl ?_;refine wU (af rfl) (aA rfl (av rfl rfl h0)) ?_;exact⟨aB hB rfl,lJ hB (aq hn' hn rfl) L hx q qE⟩
theorem lM (hB:B.K=HK Pr)(hn:4≤n)(L:Lk σ C D P)(hx:Ok D x)(hy:Ok D y)(ha:σ al=some (.list [ev P x,ev P y]))
    (q:∀σ' D' P',cu σ C D P σ' (C++[(x,y)]) D' P'→Ok D' (.cell C.length)→Q (ev P' (.cell C.length)) σ'):CV B n (.ref 291) [.none, .ref al] Q E σ:=by
  have K:=b9 hB;have h0:=aT ha;have h1:=bV ha;refine bm (by assumption) u8 rfl (ar hn rfl) ?_;intro n' hn' hp;refine dm K hp .n rfl ?_;refine wU (af rfl) (aD rfl (av rfl rfl h0) (av rfl rfl h1)) ?_;refine⟨aB hB rfl,ku hB (aq hn' hn rfl) fun a ha'=> ?_⟩;have:=q _ _ _ (cu.one L hx hy ha') (.inr rfl)
  simpa only [ev,if_true] using this
theorem hJ (hB:B.K=HK Pr)(hn:5≤n)(L:Lk σ C D P)(ha:σ al=some (.list (as.map (ev P))))(hz:as.length≤1000)(hok:∀a∈as,Ok D a)
    (q:∀σ' D' P',cu σ C D P σ' (C++dO C.length as.reverse .nil) D' P'→Ok D' (dS C.length as.length .nil)→Q (ev P' (dS C.length as.length .nil)) σ'):CV B n (.ref 298) [.none, .ref al] Q E σ:=by
  have K:=b9 hB;refine bm (by assumption) u9 rfl (ar hn rfl) ?_;intro n' hn' hp;refine dm K hp .n rfl ?_;refine wU (af rfl) (aA rfl (af rfl)) ?_;exact⟨aB hB rfl,dH hB (aq hn' hn rfl) L ha hz hok q⟩
theorem Lk.upd (L:Lk σ C D P){k:Nat}{a d a' d':W}(hk:D k)(hc:C[k]?=some (a,d))(ha:Ok D a')(hd:Ok D d'):Lk (σ.set (P k) (pF (ev P a') (ev P d'))) (C.set k (a',d')) D P:=by
  have hlt:=L.lt hk;refine⟨(wp (Ne.symm (L.ne hk))).trans L.nil,fun j hj=> ?_,L.inj⟩
  by_cases q:j=k
  · subst q;exact⟨a',d',List.getElem?_set_self hlt,ha,hd,wq _ _ _⟩
  · refine bk ?_ (L.at_ j hj);intro p r h1 h2 h3 h4;refine⟨p,r,by exact(List.getElem?_set_ne (Ne.symm q)).trans h1,h2,h3, ?_⟩
    refine ah (wp (fun e=>q (L.inj j k hj hk e))) ?_;exact h4
noncomputable def Kp (σ σ':AH):Prop:=∀a o,σ a=some o→o.isInst=false→σ' a=some o
theorem Kp.refl (σ:AH):Kp σ σ:=fun _ _ h _=>h
theorem Kp.trans {σ₁ σ₂ σ₃:AH}(x:Kp σ₁ σ₂)(y:Kp σ₂ σ₃):Kp σ₁ σ₃:=fun a o h i=>y a o (x a o h i) i
theorem Kp.of {σ σ':AH}(h:aH σ σ'):Kp σ σ':=fun a o e _=>h a o e
theorem Kp.inst {a:Addr}{C':Addr}{ats ats':List (Str×V)}(h:σ a=some (.inst C' ats)):Kp σ (σ.set a (.inst C' ats')):=fun b o e i=>by
  by_cases q:b=a
  · subst q;rw [h] at e;(refine sj ?_ e;clear e;intro e1;subst e1);exact tf i
  · exact(wp q).trans e
theorem mS:¬(Str.ofString "car"=Str.ofString "cdr"):=by rw [ba];decide
theorem ei (hB:B.K=HK Pr)(hn:7≤n)(L:Lk σ C D P)(hx:Ok D x)(hy:Ok D y)(ha:σ al=some (.list [ev P x,ev P y]))
    (q:∀k a d σ',x= .cell k→C[k]?=some (a,d)→Kp σ σ'→Lk σ' (C.set k (y,d)) D P→Q (ev P y) σ') (qE:x.isCell=false→E "wrong-type-argument" σ):CV B n (.ref 305) [.none, .ref al] Q E σ:=by
  have K:=b9 hB;have h0:=aT ha;have h1:=bV ha;refine bm (by assumption) va rfl (ar hn rfl) ?_;intro n' hn' hp;refine ao (cm K (.inl rfl) (bn K hp ?_));refine kE.mk (av rfl rfl h1) ?_;refine aK K hp .n rfl ?_;refine wU (af rfl) (aA rfl (av rfl rfl h0)) ?_;refine⟨aB hB rfl,hZ hB (aq hn' hn rfl) L hx (fun hc=> ?_) qE⟩
  cases x with
  | cell k=>
    refine bk ?_ (L.at_ k hx);intro a d e1 e2 e3 e4;refine⟨P k,_,rfl,e4,by simp, ?_⟩
    refine ay ?_;walk_at "m";have hcns:iB [("car",ev P a),("cdr",ev P d)] "car" (ev P y)=([("car",ev P y),("cdr",ev P d)]:List (Str×V)):=rfl;refine ah hcns ?_;have kp:=Kp.inst (ats':=[("car",ev P y),("cdr",ev P d)]) e4;have h2:=bV (kp _ _ ha rfl);refine aL K hp ?_;refine kE.mk (av rfl rfl h2) ?_;exact q k a d _ rfl e1 kp (L.upd hx e1 hy e3)
  | _=>exact ft hc
theorem ej (hB:B.K=HK Pr)(hn:7≤n)(L:Lk σ C D P)(hx:Ok D x)(hy:Ok D y)(ha:σ al=some (.list [ev P x,ev P y]))
    (q:∀k a d σ',x= .cell k→C[k]?=some (a,d)→Kp σ σ'→Lk σ' (C.set k (a,y)) D P→Q (ev P y) σ') (qE:x.isCell=false→E "wrong-type-argument" σ):CV B n (.ref 312) [.none, .ref al] Q E σ:=by
  have K:=b9 hB;have h0:=aT ha;have h1:=bV ha;refine bm (by assumption) vb rfl (ar hn rfl) ?_;intro n' hn' hp;refine ao (cm K (.inr rfl) (bn K hp ?_));refine kE.mk (av rfl rfl h1) ?_;refine aK K hp .n rfl ?_;refine wU (af rfl) (aA rfl (av rfl rfl h0)) ?_;refine⟨aB hB rfl,hZ hB (aq hn' hn rfl) L hx (fun hc=> ?_) qE⟩
  cases x with
  | cell k=>
    refine bk ?_ (L.at_ k hx);intro a d e1 e2 e3 e4;refine⟨P k,_,rfl,e4,by simp, ?_⟩
    refine ay ?_;walk_at "m";have hcns:iB [("car",ev P a),("cdr",ev P d)] "cdr" (ev P y)=([("car",ev P a),("cdr",ev P y)]:List (Str×V)):=rfl;refine ah hcns ?_;have kp:=Kp.inst (ats':=[("car",ev P a),("cdr",ev P y)]) e4;have h2:=bV (kp _ _ ha rfl);refine aL K hp ?_;refine kE.mk (av rfl rfl h2) ?_;exact q k a d _ rfl e1 kp (L.upd hx e1 e2 hy)
  | _=>exact ft hc
theorem fR (hB:B.K=HK Pr)(hn:4≤n)(L:Lk σ C D P)(hx:Ok D x)(h:bK C x ks as e)(hz:ks.length≤1000)(ha:σ al=some (.list [ev P x]))(q:e= .nil→Q (.int ks.length) σ)(q':e≠ .nil→Q (.ref 64) σ):CV B n (.ref 319) [.none, .ref al] Q E σ:=by
  have K:=b9 hB;have h0:=aT ha;refine wu (σ₀:=σ) ?_;refine bm (by assumption) vc rfl (ar hn rfl) ?_;intro n' hn' hp;have fin:∀(r:V) (σ':AH) (m:ax),True:=fun _ _ _=>trivial;refine bE rfl (fun _=>rfl) (aV (dq K hp .n rfl ?_));refine wU (af rfl) (aA rfl (av rfl rfl h0)) ?_;refine⟨aB hB rfl,jP hB (aq hn' hn rfl) L hx ⟨_,rfl, ?_⟩⟩
  cases hnum:x.isNum
  · refine aK K hp .n rfl ?_;refine wU (af rfl) (aA rfl (av rfl rfl h0)) ?_;refine⟨aB hB rfl,mM hB (aq hn' hn rfl) L hx h hz (fun he l hl=> ?_) fun he=> ?_⟩
    · walk_at "m";have hl1:(σ.set l (.list (as.map (ev P)))) l=some (.list (as.map (ev P))):=wq _ _ _;have hlen:(as.map (ev P)).length=ks.length:=by simp [h.len]
      have i1:jF (σ.set l (.list (as.map (ev P)))) (.ref l) .none false:= .f rfl;generalize as.map (ev P)=zs at*;refine aL K hp ?_;refine kE.mk (j5 (aC rfl (af rfl) (ak rfl) (.is i1)) (bh .n (af rfl) (aA rfl (af rfl)) (.len (.l hl1)))) ?_;refine⟨aH.set hl, ?_⟩
      first | trivial | (refine ah hlen ?_;exact q he) | exact q he
    · walk_at "m";have i1:jF σ .none .none true:= .n;refine aL K hp ?_;refine kE.mk (fu (aC rfl (af rfl) (ak rfl) (.is i1)) (af rfl)) ?_;refine⟨aH.refl σ, ?_⟩
      first | trivial | exact q' he
  · refine bn K hp ?_;refine kE.mk (ak rfl) ?_;walk_at "m";have i1:jF σ .none .none true:= .n;refine aL K hp ?_;refine kE.mk (fu (aC rfl (af rfl) (ak rfl) (.is i1)) (af rfl)) ?_;refine⟨aH.refl σ,q' fun he=> ?_⟩;have:=h.zero;subst he
    cases x<;>first | ((first | exact ft hnum | cases (hnum));done) | skip
    unfold aI at this
    (first | (with_reducible refine rm ?_ ?_ this<;>(clear this;intro _ this)) | split at this)<;>cases this
end
end
section
section
variable {B:Bs}{Pr:Params}{n:Nat}{Q:V→AH→Prop}{E:Str→AH→Prop}{σ:AH}{C:St}{D:Nat→Prop}{P:Nat→Addr}{w e x y:W}{ks:List Nat}{as:List W}{al:Addr}
noncomputable def rQ:ax:=[("many", .loc none),("value", .loc none),("ring", .loc none),("left", .loc none),("here", .loc none),("ring_of", .glob (.ref 366)),("NIL", .glob (.ref 64)),("cdr_of", .glob (.ref 270))]
theorem gK (hB:B.K=HK Pr)(hn:9≤n)(L:Lk σ C D P)(hw:Ok D w)(h:bK C w ks as e){j:Nat}(q:j≤ks.length∨e= .nil→Ok D (aI ks e j)→Q (ev P (aI ks e j)) σ)(qE:ks.length<j→e≠ .nil→E "wrong-type-argument" σ):CV B n (.ref 373) [.int j,ev P w] Q E σ:=by
  have K:=b9 hB;refine bm (by assumption) vk rfl (ar hn rfl) ?_;intro n' hn' hp;refine c7 K hp rfl .n rfl ?_;refine wU (af rfl) (aA rfl (af rfl)) ?_;refine⟨aB hB rfl,jQ hB (aq hn' hn rfl) L hw h ?_⟩;walk_at "m";refine aX K hp rfl (fun _=>rfl) ?_;refine kE.mk (af rfl) ?_;walk_at "m";have i1:jF σ .none .none true:= .n;refine a7 K hp ?_;refine kE.mk (bU (cX (aC rfl (af rfl) (ak rfl) (.isn i1 rfl)))) ?_;refine⟨_,rfl,az (aj ?_)⟩;refine ay ?_;walk_at "m";refine aX K hp rfl (fun _=>rfl) ?_;refine kE.mk (af rfl) ?_;walk_at "m";refine ao (cc ?_);have he:Ok D e:=by have:=h.okPos L hw ks.length;rwa [aP (w6 _)] at this
  refine dz (fun(i:Nat) m σ'=>i≤j∧(i≤ks.length)∧m=(bp rQ [(some (.int j)),(some (ev P w)),(some (.none)),(some (.int ((j:Int)-(i:Int)))),(some (ev P (aI ks e i)))])∧σ'=σ) (fun i=>j-i) ?_ 0 _ _ ⟨xd _,xd _,by refine ah h.zero ?_;first | rfl | simp,rfl⟩
  intro i m σ';refine dF ?_;rintro hij hik rfl hσ;subst hσ;have hok:=h.okPos L hw i;have i2:=L.isNil hok;refine cP K hp ?_
  by_cases hlt:i<j
  · have h1:decide ((0:Int)<(j:Int)-(i:Int))=true:=decide_eq_true (by lia);refine kE.mk (bU (lV (aC rfl (af rfl) (ak rfl) .gt) (aC rfl (af rfl) (af rfl) (.isn i2 rfl)))) ?_;refine⟨_,rfl, ?_⟩;refine ah h1 ?_
    cases hnil:(aI ks e i).isNil
    · refine aF (c7 K hp rfl .n rfl ?_);refine wU (af rfl) (aA rfl (af rfl)) ?_;refine⟨aB hB rfl,lJ hB (aq hn' hn rfl) L hok (fun v hv hvo=> ?_) fun hnum=>qE ?_ ?_⟩
      · walk_at "m";have hik':i<ks.length:=by
          by_cases q':i<ks.length
          · exact q'
          · rw [aP ((w8 q'))] at hv hnil
            exfalso
            have:=h.stop
            cases e<;>first | ((first | exact tf hnil | cases (hnil));done) | ((first | exact tf this | cases (this));done) | (exact nn hv;done)
        refine uE ?_ (h.at hik');intro hai hc;have hv':v=aI ks e (i+1):=by
          rw [aQ hik'] at hv;simp only [fs,hc,Option.map] at hv
          (refine sj ?_ hv;clear hv;intro e1;subst e1);rfl
        subst hv';refine aX K hp rfl (fun _=>rfl) ?_;refine kE.mk (cR (af rfl) (ak rfl) .sub) ?_;walk_at "m";refine aj ?_;refine bv ?_;exact⟨i+1,ad hlt,hlt,hik',by(try dsimp+zetaDelta only);(try refine ah (Int.sub_sub _ _ _:(j:Int)-(i:Int)-1=(j:Int)-((i+1:Nat):Int)) ?_);rfl,(by trivial)⟩
      · have:¬i<ks.length:=fun q'=>by rw [aQ q'] at hnum;exact ft hnum
        exact Nat.lt_of_succ_lt_succ (Nat.succ_lt_succ (wZ ((w8 this)) hlt))
      · intro he';have:¬i<ks.length:=fun q'=>by rw [aQ q'] at hnum;exact ft hnum
        rw [aP ((w8 this)),he'] at hnum;exact ft hnum
    · refine az ?_;refine ay ?_;walk_at "m";refine aL K hp ?_;have hge:¬i<ks.length:=fun q'=>by rw [aQ q'] at hnil;exact ft hnil
      have hpe:=aP (ks:=ks) (e:=e) (j:=i) (by exact(w8 hge));rw [hpe] at hnil;have hpj:=aP (ks:=ks) (e:=e) (j:=j) (by exact wY (wZ ((w8 hge)) hlt));rw [hpj] at q;have q1:=q (.inr (me hnil)) he;refine kE.mk (af rfl) ?_<;>(refine ah hpe ?_;exact q1)
  · have h1:decide ((0:Int)<(j:Int)-(i:Int))=false:=decide_eq_false (by lia);have hij':i=j:=by exact Nat.le_antisymm hij ((w8 hlt))
    subst hij';refine kE.mk (bU (lV (aC rfl (af rfl) (ak rfl) .gt) (aC rfl (af rfl) (af rfl) (.isn i2 rfl)))) ?_;refine ah h1 ?_;refine⟨_,rfl,az ?_⟩;refine ay ?_;walk_at "m";refine aL K hp ?_;have q1:=q (.inl hik) hok
    (refine kE.mk (af rfl) ?_;assumption)<;>exact q1
noncomputable def rR:ax:=[("value", .loc none),("here", .loc none),("ring_of", .glob (.ref 366)),("LispSignal", .glob (.ref 38)),("isinstance", .glob (.bi "isinstance")),("Cons", .glob (.ref 82))]
theorem lK (hB:B.K=HK Pr)(hn:3≤n)(L:Lk σ C D P)(hw:Ok D w)(h:bK C w ks as e)(hk:0<ks.length)(q:Q (ev P (aI ks e (ks.length-1))) σ):CV B n (.ref 415) [ev P w] Q E σ:=by
  have K:=b9 hB;refine cO (by assumption) vt rfl (ar hn rfl) ?_;intro n' hn' hp;refine ao (ew (cD (aK K hp .n rfl ?_) rfl));refine wU (af rfl) (aA rfl (af rfl)) ?_;refine⟨aB hB rfl,jQ hB (aq hn' hn rfl) L hw h ?_⟩;refine cj rfl ?_;refine ef (c:=false) (.isn .n rfl) ?_ hp;refine⟨_,rfl,az (aj ?_)⟩;refine ay ?_;walk_at "m";refine aX K hp rfl (fun _=>rfl) ?_;refine kE.mk (af rfl) ?_;walk_at "m";refine ao (cc ?_);refine dz (fun(i:Nat) m σ'=>i<ks.length∧m=(bp rR [(some (ev P w)),(some (ev P (aI ks e i)))])∧σ'=σ) (fun i=>ks.length-i) ?_ 0 _ _ ⟨hk,by refine ah h.zero ?_;rfl,rfl⟩
  intro i m σ';refine dc ?_;rintro hi rfl hσ;subst hσ;refine aY ?_ (h.carF L hw hi);intro _ _ a1;have s1:=aR P (aI ks e (i+1));have i1:=L.cls (h.okPos L hw (i+1));have c1:=h.cellAt (i+1);refine cP K hp ?_;refine kE.mk (bh .n (af rfl) (aD rfl (cF .n (af rfl) a1 (aO _ _)) (af rfl)) (bB i1 c1)) ?_
  try rfl
  refine⟨_,rfl, ?_⟩
  by_cases hlt:i+1<ks.length
  · refine ah (decide_eq_true hlt) ?_;refine aF (aX K hp rfl (fun _=>rfl) ?_);refine kE.mk (cF .n (af rfl) a1 (aO _ _)) ?_;walk_at "m";refine aj ?_;refine bv ?_;exact⟨i+1,ad hi,hlt,rfl,(by trivial)⟩
  · refine ah (decide_eq_false hlt) ?_;refine az ?_;refine ay ?_;walk_at "m";have hi':ks.length-1=i:=yd (by assumption) hlt;rw [hi'] at q;refine aL K hp ?_
    (refine kE.mk (af rfl) ?_;assumption)<;>exact q
end
end
section
section
variable {B:Bs}{Pr:Params}{n:Nat}{Q:V→AH→Prop}{E:Str→AH→Prop}{σ:AH}{C:St}{D:Nat→Prop}{P:Nat→Addr}{w e x y:W}{ks:List Nat}{as:List W}{al:Addr}{j:Nat}
theorem fQ (hB:B.K=HK Pr)(hn:11≤n)(L:Lk σ C D P)(hw:Ok D w)(h:bK C w ks as e)(ha:σ al=some (.list [.int j,ev P w]))(q:j≤ks.length∨e= .nil→Ok D (aI ks e j)→Q (ev P (aI ks e j)) σ)(qE:ks.length<j→e≠ .nil→E "wrong-type-argument" σ):CV B n (.ref 380) [.none, .ref al] Q E σ:=by
  have K:=b9 hB;have h0:=aT ha;have h1:=bV ha;refine bm (by assumption) vm rfl (ar hn rfl) ?_;intro n' hn' hp;walk_at "m";refine aJ (b8 rfl (bn K hp ?_) (fun env=>be .n _ _ env));refine kE.mk (af rfl) ?_;refine⟨aB hB rfl,aK K hp .n rfl ?_⟩;refine wU (af rfl) (aA rfl (av rfl rfl h0)) ?_;refine⟨aB hB rfl,eW hB (aq hn' hn rfl) L (bn K hp ?_)⟩;refine kE.mk (av rfl rfl h1) ?_;exact gK hB (aq hn' hn rfl) L hw h q qE
theorem fY (hB:B.K=HK Pr)(hn:11≤n)(L:Lk σ C D P)(hw:Ok D w)(h:bK C w ks as e)(ha:σ al=some (.list [.int j,ev P w]))(q:∀v,(j≤ks.length∨e= .nil)→fq C (aI ks e j)=some v→Ok D v→Q (ev P v) σ)(qE:(ks.length<j∧e≠ .nil)∨(j≤ks.length∨e= .nil)∧(aI ks e j).isNum=true→E "wrong-type-argument" σ):CV B n (.ref 387) [.none, .ref al] Q E σ:=by
  have K:=b9 hB;have h0:=aT ha;have h1:=bV ha;refine bm (by assumption) vn rfl (ar hn rfl) ?_;intro n' hn' hp;walk_at "m";refine aJ (b8 rfl (bn K hp ?_) (fun env=>be .n _ _ env));refine kE.mk (af rfl) ?_;refine⟨aB hB rfl,b8 rfl (bn K hp ?_) (fun env=>be .n _ _ env)⟩;refine kE.mk (af rfl) ?_;refine⟨aB hB rfl,aK K hp .n rfl ?_⟩;refine wU (af rfl) (aA rfl (av rfl rfl h0)) ?_;refine⟨aB hB rfl,eW hB (aq hn' hn rfl) L (bn K hp ?_)⟩;refine kE.mk (av rfl rfl h1) ?_;exact gK hB (aq hn' hn rfl) L hw h (fun hj hok=>lI hB (aq hn' hn rfl) L hok (fun v hv ho=>q v hj hv ho) fun hnum=>qE (.inr ⟨hj,hnum⟩)) fun h1 h2=>qE (.inl ⟨h1,h2⟩)
theorem tz:∀n:Nat,(if ((n:Int)-1)>0 then((n:Int)-1) else 0)=((n-1:Nat):Int)
  | 0=>rfl
  | 1=>rfl
  | k+2=>by
    have e:((k+2:Nat):Int)-1=((k+1:Nat):Int):=Int.add_sub_cancel ((k+1:Nat):Int) 1;rw [e];exact if_pos (Int.natCast_pos.mpr (Nat.succ_pos k))
theorem gZ (hB:B.K=HK Pr)(hn:11≤n)(L:Lk σ C D P)(hw:Ok D w)(h:bK C w ks as e)(hz:ks.length≤1000)(ha:σ al=some (.list [ev P w]))(q:w.isNum=false→Ok D (aI ks e (ks.length-1))→Q (ev P (aI ks e (ks.length-1))) σ)(qE:w.isNum=true→E "wrong-type-argument" σ):CV B n (.ref 401) [.none, .ref al] Q E σ:=by
  have K:=b9 hB;refine wu (σ₀:=σ) (wv (σ₀:=σ) ?_);have h0:=aT ha;have hlen:([ev P w]).length=1:=rfl;refine bm (by assumption) vq rfl (ar hn rfl) ?_;intro n' hn' hp;walk_at "m";refine aX K hp rfl (fun _=>rfl) ?_;refine kE.mk (fu (bU (nG (aC rfl (bh .n (af rfl) (aA rfl (af rfl)) (.len (.l ha))) (ak rfl) .lt))) (ak rfl)) ?_;walk_at "m";refine ao (aS (.cons (.cons .nil)) rfl (b8 rfl (bn K hp ?_) (fun env=>be .n _ _ env)));refine kE.mk (af rfl) ?_;refine⟨aB hB rfl,aK K hp .n rfl ?_⟩;refine wU (af rfl) (aA rfl (av rfl rfl h0)) ?_;refine⟨aB hB rfl,bF hB (aq hn' hn rfl) L hw (fun hnum=> ?_) fun hnum=>⟨aH.refl σ,qE hnum⟩⟩;refine dE hB (aq hn' hn rfl) L hw h hz fun l hl=>⟨_,rfl,rfl, ?_⟩;refine ay ?_;walk_at "m";have L1:Lk (σ.set l (.list (as.map (ev P)))) C D P:=L.setNew hl;have i1:=j7 (σ:=σ.set l (.list (as.map (ev P)))) P e;have hl1:(σ.set l (.list (as.map (ev P)))) l=some (.list (as.map (ev P))):=wq _ _ _;have hlen1:(as.map (ev P)).length=ks.length:=by simp [h.len]
  have h0':=aT (aH.set hl _ _ ha:(σ.set l (.list (as.map (ev P)))) al=_);have hle:aH σ (σ.set l (.list (as.map (ev P)))):=aH.set hl;generalize as.map (ev P)=zs at*;refine a7 K hp ?_;refine kE.mk (aC rfl (af rfl) (ak rfl) (.is i1)) ?_;refine⟨_,rfl,az (aj ?_)⟩;refine ay ?_;walk_at "m";refine aJ (aV (cP K hp ?_));refine kE.mk (aC rfl (af rfl) (ak rfl) .gt) ?_;refine⟨_,rfl,aF (aK K hp .n rfl ?_)⟩;refine wU (af rfl) (aD rfl (bh .n (af rfl) (aD rfl (ak rfl) (cR (bh .n (af rfl) (aA rfl (af rfl)) (.len (.l hl1))) (bh .n (af rfl) (aD rfl (ak rfl) (af rfl)) .max) .sub)) .max) (av rfl rfl h0')) ?_;refine⟨aB hB rfl, ?_⟩;have hmax:(if ((ks.length:Int)-(if (1:Int)>0 then 1 else 0))>0 then((ks.length:Int)-(if (1:Int)>0 then 1 else 0)) else 0)=((ks.length-1:Nat):Int):=tz _;have q1:=q hnum;have key:=gK (n:=n') (Q:=fun v σ'=>aH σ σ'∧Q v σ) (E:=fun y σ'=>aH σ σ'∧E y σ) hB (aq hn' hn rfl) L1 hw h (j:=ks.length-1) (fun _ hok=>⟨hle,q1 hok⟩) (fun hlt=>absurd hlt (Nat.not_lt.mpr (Nat.sub_le _ _)));rw [←hmax] at key
  simpa [hlen1] using key
theorem fm (hB:B.K=HK Pr)(hn:9≤n)(L:Lk σ C D P)(hw:Ok D w)(h:bK C w ks as e)(hz:ks.length≤1000)(ha:σ al=some (.list [ev P w]))
    (q:e= .nil→∀σ' D' P',cu σ C D P σ' (C++dO C.length (as.take (as.length-1)).reverse .nil) D' P'→Ok D' (dS C.length (as.length-1) .nil)→Q (ev P' (dS C.length (as.length-1) .nil)) σ') (qE:e≠ .nil→E "wrong-type-argument" σ):CV B n (.ref 408) [.none, .ref al] Q E σ:=by
  have K:=b9 hB;refine wv (σ₀:=σ) ?_;have h0:=aT ha;have hlen:([ev P w]).length=1:=rfl;refine bm (by assumption) vr rfl (ar hn rfl) ?_;intro n' hn' hp;walk_at "m";refine aX K hp rfl (fun _=>rfl) ?_;refine kE.mk (fu (bU (nG (aC rfl (bh .n (af rfl) (aA rfl (af rfl)) (.len (.l ha))) (ak rfl) .lt))) (ak rfl)) ?_;walk_at "m";refine a7 K hp ?_;refine kE.mk (aC rfl (af rfl) (ak rfl) .le) ?_;refine⟨_,rfl,az (aj ?_)⟩;refine ay ?_;walk_at "m";refine c7 K hp rfl .n rfl ?_;refine wU (af rfl) (aA rfl (av rfl rfl h0)) ?_;refine⟨aB hB rfl,du hB (aq hn' hn rfl) L hw h hz (fun he l hl=> ?_) fun he=>⟨aH.refl σ,qE he⟩⟩;walk_at "m";have L1:Lk (σ.set l (.list (as.map (ev P)))) C D P:=L.setNew hl;have hl1:(σ.set l (.list (as.map (ev P)))) l=some (.list (as.map (ev P))):=wq _ _ _;have hlen1:(as.map (ev P)).length=as.length:=by simp
  have hle:aH σ (σ.set l (.list (as.map (ev P)))):=aH.set hl;have hmax:(if ((as.length:Int)-1)>0 then((as.length:Int)-1) else 0)=((as.length-1:Nat):Int):=tz _;refine aJ (b8 rfl (bn K hp ?_) (fun env=>be .n _ _ env));refine kE.mk (af rfl) ?_;refine⟨aB hB rfl,cJ (bn K hp ?_)⟩;refine kE.mk (af rfl) ?_;refine bn K hp ?_;refine kE.mk (bh .n (af rfl) (aD rfl (ak rfl) (cR (bh .n (af rfl) (aA rfl (af rfl)) (.len (.l hl1))) (af rfl) .sub)) .max) ?_;refine⟨_,rfl,l,as.map (ev P),(as.take (as.length-1)).map (ev P),rfl, .inl (wq _ _ _), ?_,fun b hb=> ?_⟩
  · refine ah List.map_take ?_;exact .take _ (by rw [List.length_map];exact hmax)
  · have L2:=L1.setNew (o:= .list ((as.take (as.length-1)).map (ev P))) hb;refine dH (as:=as.take (as.length-1)) hB (by exact aq hn' hn rfl) L2 (wq _ _ _) (by simp;have:=h.len;exact wY (wZ (wV (wX this) hz) (wW rfl))) (fun a ha'=>h.okAs L hw a (List.mem_of_mem_take ha')) fun σ' D' P' G hok=> ?_;have G':cu σ C D P σ' (C++dO C.length (as.take (as.length-1)).reverse .nil) D' P':=⟨(hle.trans (aH.set hb)).trans G.le,G.pre,G.dom,G.at_,G.lk⟩;have hlt:(as.take (as.length-1)).length=as.length-1:=by simp
    rw [hlt] at hok⊢;exact q he σ' D' P' G' hok
end
end
section
section
variable {B:Bs}{Pr:Params}{n:Nat}{Q:V→AH→Prop}{E:Str→AH→Prop}{σ:AH}{C:St}{D:Nat→Prop}{P:Nat→Addr}{w e x y:W}{ks:List Nat}{as:List W}{al:Addr}{j:Nat}
theorem cu.pre_le {σ₀:AH}{C':St}{D':Nat→Prop}{P':Nat→Addr}{σ':AH}(G:cu σ C D P σ' C' D' P')(h:aH σ₀ σ):cu σ₀ C D P σ' C' D' P':=⟨h.trans G.le,G.pre,G.dom,G.at_,G.lk⟩
noncomputable def rS:ax:=[("world", .loc none),("args", .loc none),("many", .loc none),("found", .loc none),("here", .loc none),("need_whole", .glob (.ref 249)),("need_list", .glob (.ref 235)),("isinstance", .glob (.bi "isinstance")),("Cons", .glob (.ref 82)),("len", .glob (.bi "len")),("LONGEST", .glob (.int 100000)),("NIL", .glob (.ref 64)),("wrong", .glob (.ref 228)),("list_of", .glob (.ref 193))]
theorem hV (hB:B.K=HK Pr)(hn:9≤n)(L:Lk σ C D P)(hw:Ok D w)(h:bK C w ks as e)(hz:ks.length≤1000)(ha:σ al=some (.list [.int j,ev P w]))(hnE:w.isNum=true→E "wrong-type-argument" σ)
    (q:w.isNum=false→(j≤as.length∨e= .nil)→∀σ' D' P',cu σ C D P σ' (C++dO C.length (as.take j).reverse .nil) D' P'→Ok D' (dS C.length (as.take j).length .nil)→Q (ev P' (dS C.length (as.take j).length .nil)) σ') (qE:as.length<j→e≠ .nil→E "wrong-type-argument" σ):CV B n (.ref 394) [.none, .ref al] Q E σ:=by
  have K:=b9 hB;refine wv (σ₀:=σ) ?_;have h0:=aT ha;have h1:=bV ha;refine bm (by assumption) vo rfl (ar hn rfl) ?_;intro n' hn' hp;refine c7 K hp rfl .n rfl ?_;refine wU (af rfl) (aA rfl (av rfl rfl h0)) ?_;refine⟨aB hB rfl,eW hB (aq hn' hn rfl) L ?_⟩;walk_at "m";refine bE rfl (fun _=>rfl) (a9 rfl (by decide) ?_);intro l hl;walk_at "m";have hle0:aH σ (σ.set l (.list [])):=aH.set hl;have h1':=bV (hle0 _ _ ha);refine c7 K hp rfl .n rfl ?_;refine wU (af rfl) (aA rfl (av rfl rfl h1')) ?_;refine⟨aB hB rfl,bF hB (aq hn' hn rfl) (L.setNew hl) hw (fun hnum=> ?_) fun hnum=>⟨aH.set hl,hnE hnum⟩⟩;walk_at "m";refine ao (cc ?_);have hlen:=h.len;refine dz (fun(i:Nat) m σ'=>i≤as.length∧i≤j∧m=(bp rS [(some (.none)),(some (.ref al)),(some (.int (j:Int))),(some (.ref l)),(some (ev P (aI ks e i)))])∧σ'=σ.set l (.list ((as.take i).map (ev P)))) (fun i=>as.length-i) ?_ 0 _ _ ⟨xd _,xd _,by refine ah h.zero ?_;rfl,by first | rfl | simp⟩
  intro i m σ';refine dF ?_;rintro hi hij rfl rfl;have L1:Lk (σ.set l (.list ((as.take i).map (ev P)))) C D P:=L.setNew hl;have i1:=L1.cls (h.okPos L1 hw i);have i2:=L1.isNil (h.okPos L1 hw i);have c1:=h.cellAt i;have hl1:(σ.set l (.list ((as.take i).map (ev P)))) l=some (.list ((as.take i).map (ev P))):=wq _ _ _;have hlen1:((as.take i).map (ev P)).length=i:=by simp;exact Nat.min_eq_left hi
  have hle1:aH σ (σ.set l (.list ((as.take i).map (ev P)))):=aH.set hl;refine cP K hp ?_
  by_cases hlt:i<ks.length
  · refine aY ?_ (h.carF L1 hw hlt);intro ha1 a1 a2;have s1:=aR P as[i];have s2:=aR P (aI ks e (i+1));rw [decide_eq_true hlt] at c1
    by_cases hj:i<j
    · have d1:decide ((i:Int)<(j:Int))=true:=decide_eq_true (Int.ofNat_lt.mpr hj);have d2:decide ((i:Int)<100000)=true:=decide_eq_true (Int.ofNat_lt.mpr (wZ (wY (w0 hlt hz)) (wW rfl)));generalize hzs:(as.take i).map (ev P)=zs at*;have x1:fc (σ.set l (.list zs)) .Lt (.int zs.length) (.int j) true:=by refine ah hlen1 ?_;exact d1▸ .lt
      have x2:fc (σ.set l (.list zs)) .Lt (.int zs.length) (.int 100000) true:=by refine ah hlen1 ?_;exact d2▸ .lt
      refine kE.mk (bU (cY (v:= .bool true) (bh .n (af rfl) (aD rfl (af rfl) (af rfl)) (bB i1 c1)) (cY (aC rfl (bh .n (af rfl) (aA rfl (af rfl)) (.len (.l hl1))) (af rfl) x1) (dw (aC rfl (bh .n (af rfl) (aA rfl (af rfl)) (.len (.l hl1))) (af rfl) x2))))) ?_;clear x2 d2;refine⟨_,rfl,aF (cz K hp .n rfl rfl ?_)⟩;refine kE.mk (af rfl) (kE.mk (cF .n (af rfl) a1 (aO _ _)) ?_);refine⟨l,_,rfl,hl1,by refine ah hlen1 (ah sizeLine_eq ?_);exact wZ (wY (w0 hlt hz)) (wW rfl), ?_⟩
      rewrite [wt];refine ch hzs (ah (fT (ev P) as i ha1) ?_);have L2:Lk (σ.set l (.list ((as.take (i+1)).map (ev P)))) C D P:=L.setNew hl;refine aY ?_ (h.carF L2 hw hlt);intro _ _ a3;refine aX K hp rfl (fun _=>rfl) ?_;refine kE.mk (cF .n (af rfl) a3 (aO _ _)) ?_;walk_at "m";refine aj ?_;refine bv ?_;exact⟨i+1,by exact ad ‹_›,by exact og hlen hlt,by exact hj,rfl,rfl⟩
    · have d1:decide ((i:Int)<(j:Int))=false:=decide_eq_false (by exact fun z=>Int.not_lt_of_ge (Int.ofNat_le.mpr ((w8 hj))) z);generalize hzs:(as.take i).map (ev P)=zs at*;have x1:fc (σ.set l (.list zs)) .Lt (.int zs.length) (.int j) false:=by refine ah hlen1 ?_;exact d1▸ .lt
      refine kE.mk (bU (cY (v:= .bool false) (bh .n (af rfl) (aD rfl (af rfl) (af rfl)) (bB i1 c1)) (cX (aC rfl (bh .n (af rfl) (aA rfl (af rfl)) (.len (.l hl1))) (af rfl) x1)))) ?_;refine⟨_,rfl,az ?_⟩;refine ay ?_;walk_at "m";refine a7 K hp ?_;refine kE.mk (bU (cX (aC rfl (bh .n (af rfl) (aA rfl (af rfl)) (.len (.l hl1))) (af rfl) x1))) ?_;refine⟨_,rfl,az (aj ?_)⟩;refine ay ?_;walk_at "m";have hij':i=j:=by exact Nat.le_antisymm hij ((w8 hj))
      subst hij';refine dm K hp .n rfl ?_;refine wU (af rfl) (aA rfl (af rfl)) ?_;subst hzs;refine⟨aB hB rfl,dH (as:=as.take i) hB (by exact aq hn' hn rfl) L1 hl1 (by simp;exact wV (Nat.min_le_right _ _) (wV (wX hlen) hz)) (fun a ha'=>h.okAs L hw a (List.mem_of_mem_take ha')) fun σ' D' P' G hok=> ?_⟩;exact q hnum (.inl hi) σ' D' P' (G.pre_le hle1) hok
  · rw [decide_eq_false hlt] at c1;have hik:i=ks.length:=by exact Nat.le_antisymm (wV hi (wX hlen)) ((w8 hlt))
    subst hik;have hpe:=aP (ks:=ks) (e:=e) (j:=ks.length) (by exact wX rfl);rw [hpe] at i1 i2 c1⊢;generalize hzs:(as.take ks.length).map (ev P)=zs at*;refine kE.mk (bU (cX (bh .n (af rfl) (aD rfl (af rfl) (af rfl)) (bB i1 c1)))) ?_
    try simp only [wK,c1]
    refine⟨_,rfl,az ?_⟩;refine ay ?_;walk_at "m";refine a7 K hp ?_;have fin:∀(hh:j≤as.length∨e= .nil),as.take j=as.take ks.length:=fun _=>by
      exact(List.take_of_length_le (by exact wV (wX hlen) hij)).trans ((List.take_of_length_le (by exact wX hlen)).symm)
    have ret:(j≤as.length∨e= .nil)→CV B n' (.ref 193) [.ref l] Q (fun y σ'=>aH σ σ'∧E y σ) (σ.set l (.list zs)):=fun hh=>by
      subst hzs;refine dH (as:=as.take ks.length) hB (by exact aq hn' hn rfl) L1 hl1 (by simp;exact wV (Nat.min_le_left _ _) hz) (fun a ha'=>h.okAs L hw a (List.mem_of_mem_take ha')) fun σ' D' P' G hok=> ?_;have:=q hnum hh σ' D' P';rw [fin hh] at this;exact this (G.pre_le hle1) hok
    by_cases hj:ks.length<j
    · have d1:decide ((ks.length:Int)<(j:Int))=true:=decide_eq_true (by exact Int.ofNat_lt.mpr hj);refine kE.mk (bU (lV (aC rfl (bh .n (af rfl) (aA rfl (af rfl)) (.len (.l hl1))) (af rfl) .lt) (aC rfl (af rfl) (af rfl) (.isn i2 rfl)))) ?_;refine⟨_,rfl, ?_⟩;refine ah hlen1 (ah d1 ?_)
      cases hen:e.isNil
      · refine aF (ao (cL hB (by exact aq hn' hn rfl) rfl rfl ?_));refine kE.mk (af rfl) ?_;exact⟨(by trivial),qE (by exact wZ (wX hlen) hj) (fun he=>by subst he;exact tf hen)⟩
      · refine az (aj ?_);refine ay ?_;walk_at "m";refine dm K hp .n rfl ?_;refine wU (af rfl) (aA rfl (af rfl)) ?_;exact⟨aB hB rfl,ret (.inr (me hen))⟩
    · have d1:decide ((ks.length:Int)<(j:Int))=false:=decide_eq_false (by exact fun z=>Int.not_lt_of_ge (Int.ofNat_le.mpr ((w8 hj))) z);refine kE.mk (bU (lV (aC rfl (bh .n (af rfl) (aA rfl (af rfl)) (.len (.l hl1))) (af rfl) .lt) (aC rfl (af rfl) (af rfl) (.isn i2 rfl)))) ?_;refine ah hlen1 (ah d1 ?_);refine⟨_,rfl,az (aj ?_)⟩;refine ay ?_;walk_at "m";refine dm K hp .n rfl ?_;refine wU (af rfl) (aA rfl (af rfl)) ?_;exact⟨aB hB rfl,ret (.inl (by exact wV ((w8 hj)) (wX hlen.symm)))⟩
end
end
section
section
variable {B:Bs}{Pr:Params}{n:Nat}{Q:V→AH→Prop}{E:Str→AH→Prop}{σ:AH}{C:St}{D:Nat→Prop}{P:Nat→Addr}{w e x y:W}{ks:List Nat}{as:List W}{al:Addr}{j:Nat}
theorem eU (hB:B.K=HK Pr)(hn:8≤n)(L:Lk σ C D P)(hx:Ok D x)(hy:Ok D y)(h:bK C x ks as e)(ha:σ al=some (.list [ev P x,ev P y]))(qE:x.isNum=true→E "wrong-type-argument" σ)(q0:x= .nil→Q (ev P y) σ)
    (q:∀(hk:0<ks.length) σ' a,C[ks[ks.length-1]]?=some (a,e)→Kp σ σ'→Lk σ' (C.set ks[ks.length-1] (a,y)) D P→Q (ev P x) σ'):CV B n (.ref 422) [.none, .ref al] Q E σ:=by
  have K:=b9 hB;have h0:=aT ha;have h1:=el ha;have hlen:([ev P x,ev P y]).length=2:=rfl;have i2:=L.isNil hx;refine bm (by assumption) vw rfl (ar hn rfl) ?_;intro n' hn' hp;refine aX K hp rfl (fun _=>rfl) ?_;refine kE.mk (fu (aC rfl (bh .n (af rfl) (aA rfl (af rfl)) (.len (.l ha))) (ak rfl) .gt) (a6 .u (af rfl) (ek (ak rfl)) h1)) ?_;walk_at "m";refine ao (dB (fi rfl rfl (fh K hp ?_)));refine lZ.mk (bG rfl (cR (bh .n (af rfl) (aA rfl (af rfl)) (.len (.l ha))) (ak rfl) .sub) (ek (ak rfl)) (ek (ak rfl))) ?_;refine ah (show ((([ev P x,ev P y]:List V).length:Int)-2)=0 from rfl) ?_;refine .inr ⟨_,rfl,by decide,by decide, ?_⟩
  refine my (by decide) rfl ?_;walk_at "m";refine ao (ew (cD (aK K hp .n rfl ?_) rfl));refine wU (af rfl) (aA rfl (a6 .n (af rfl) (af rfl) h0)) ?_;refine⟨aB hB rfl,bF hB (aq hn' hn rfl) L hx (fun hnum=> ?_) qE⟩;refine bn K hp ?_;refine kE.mk (af rfl) ?_;refine ef (c:= !x.isNil) (.isn i2 rfl) ⟨_,rfl, ?_⟩ hp
  cases hnil:x.isNil
  · refine aF (ao (cm K (.inr rfl) (bn K hp ?_)));have hkl:0<ks.length:=by
      by_cases q':0<ks.length
      · exact q'
      · have:=h.zero;rw [aP ((w8 q'))] at this;have h2:=h.stop;subst this
        cases e<;>first | ((first | exact tf hnil | cases (hnil));done) | ((first | exact tf hnum | cases (hnum));done) | (exact tf h2;done)
    refine kE.mk (af rfl) ?_;refine aK K hp .n rfl ?_;refine wU (af rfl) (aA rfl (a6 .n (af rfl) (af rfl) h0)) ?_;refine⟨aB hB rfl,lK hB (aq hn' hn rfl) L hx h hkl ?_⟩;refine bI ?_ (h.car L hx (j:=ks.length-1) (ad hkl));intro ha1 _ _;refine uA ?_;intro _ hc4;have hpe:aI ks e (ks.length-1+1)=e:=aP (wX (Eq.symm (Nat.sub_add_cancel hkl)));rw [hpe] at hc4;have hcc:=(h.at (j:=ks.length-1) (ad hkl)).2;rw [hpe] at hcc;refine ah (aQ (ad hkl)) ?_;refine⟨P ks[ks.length-1],_,rfl,hc4,by simp, ?_⟩
    refine ay ?_;walk_at "m";have hcns:iB [("car",ev P as[ks.length-1]),("cdr",ev P e)] "cdr" (ev P y)=([("car",ev P as[ks.length-1]),("cdr",ev P y)]:List (Str×V)):=rfl;refine ah hcns ?_;have kp:=Kp.inst (ats':=[("car",ev P as[ks.length-1]),("cdr",ev P y)]) hc4;have h2:=aT (kp _ _ ha rfl);have L2:=L.upd (h.okD L hx (ad hkl)) hcc (h.okA L hx ha1) hy;have q1:=q hkl _ _ hcc kp L2;refine aX K hp rfl (fun _=>rfl) ?_;refine kE.mk (a6 .n (af rfl) (af rfl) h2) ?_;walk_at "m";refine aj ?_;refine ay ?_;walk_at "m";refine aj ?_;refine bv ?_;refine eM (by decide) ?_;refine ay ?_;walk_at "m";refine aL K hp ?_
    (refine kE.mk (af rfl) ?_;assumption)<;>exact q1
  · refine az (aj ?_);refine ay ?_;walk_at "m";refine aj ?_;refine bv ?_;refine eM (by decide) ?_;refine ay ?_;walk_at "m";have q1:=q0 (me hnil);refine aL K hp ?_
    (refine kE.mk (af rfl) ?_;assumption)<;>exact q1
noncomputable def rT:ax:=[("thing", .loc none),("value", .loc none),("is_same", .loc none),("here", .loc none),("slow", .loc none),("turn", .loc none),("need_list", .glob (.ref 235)),("isinstance", .glob (.bi "isinstance")),("Cons", .glob (.ref 82)),("LispSignal", .glob (.ref 38)),("NIL", .glob (.ref 64)),("wrong", .glob (.ref 228))]
theorem ie (hB:B.K=HK Pr)(hn:8≤n)(L:Lk σ C D P)(hx:Ok D x)(hw:Ok D w)(h:bK C w ks as e)(f:W→Bool){s:V}(hk:ec B s)
    (hs:∀a∈as,∀(R:V→AH→Prop) (n':Nat),n≤n'+1→R (.bool (f a)) σ→CV B n' s [ev P x,ev P a] R E σ)
    (qE:(∀a∈as,f a=false)→e≠ .nil→E "wrong-type-argument" σ)
    (q:∀i (hi:i<as.length),f as[i]=true→(∀i' (hi':i'<as.length),i'<i→f as[i']=false)→Q (ev P (aI ks e i)) σ)
    (q0:(∀a∈as,f a=false)→e= .nil→Q (.ref 64) σ):CV B n (.ref 443) [ev P x,ev P w,s] Q E σ:=by
  have K:=b9 hB;have hlen:=h.len;refine bg (by assumption) vz rfl (ar hn rfl) ?_;intro n' hn' hp;refine c7 K hp rfl .n rfl ?_;refine wU (af rfl) (aA rfl (af rfl)) ?_;refine⟨aB hB rfl,bF hB (aq hn' hn rfl) L hw (fun hnum=> ?_) fun hnum=>qE ?_ ?_⟩
  rotate_left
  · intro a ha;have h0:=h.zero;have:ks=[]:=by
      cases ks with
      | nil=>rfl
      | cons k ks=>subst h0;exact ft hnum
    subst this;rw [List.length_eq_zero_iff.mp hlen] at ha;cases ha
  · intro he;have h0:=h.zero;subst he
    cases w<;>first | ((first | exact ft hnum | cases (hnum));done) | skip
    unfold aI at h0
    (first | (with_reducible refine rm ?_ ?_ h0<;>(clear h0;intro _ h0)) | split at h0)<;>cases h0
  walk_at "m";refine aX K hp rfl (fun _=>rfl) ?_;refine kE.mk (af rfl) ?_;walk_at "m";refine aX K hp rfl (fun _=>rfl) ?_;refine kE.mk (ak rfl) ?_;walk_at "m";refine ao (cc ?_);refine dz (fun(i:Nat) m σ'=>i≤as.length∧(∀i' (hi':i'<as.length),i'<i→f as[i']=false)∧m=(bp rT [(some (ev P x)),(some (ev P w)),(some (s)),(some (ev P (aI ks e i))),(some (ev P (aI ks e (i/2)))),(some (.int (i:Int)))])∧σ'=σ) (fun i=>as.length-i) ?_ 0 _ _ ⟨xd _,fun _ _ h=>absurd h (xh _),by refine ah h.zero ?_;rfl,rfl⟩
  intro i m σ';refine dF ?_;rintro hi hno rfl hσ;subst hσ;have i1:=L.cls (h.okPos L hw i);have c1:=h.cellAt i;refine cP K hp ?_;refine kE.mk (bh .n (af rfl) (aD rfl (af rfl) (af rfl)) (bB i1 c1)) ?_
  try rfl
  refine⟨_,rfl, ?_⟩
  by_cases hlt:i<ks.length
  · refine aY ?_ (h.carF L hw hlt);intro ha1 a1 a2;have s1:=aR P as[i];have s2:=aR P (aI ks e (i+1));refine ah (decide_eq_true hlt) ?_;refine aF (iI K hp .n rfl ?_);refine wU (af rfl) (aD rfl (af rfl) (cF .n (af rfl) a1 (aO _ _))) ?_;refine⟨(by trivial),hs as[i] (List.getElem_mem _) _ _ (wX hn') ⟨_,rfl, ?_⟩⟩
    cases hf:f as[i]
    · refine az (aj ?_);refine ay ?_;walk_at "m";refine aX K hp rfl (fun _=>rfl) ?_;refine kE.mk (cF .n (af rfl) a2 (aO _ _)) ?_;walk_at "m";refine aX K hp rfl (fun _=>rfl) ?_;refine kE.mk (cR (af rfl) (ak rfl) .add) ?_;walk_at "m";refine a7 K hp ?_;refine kE.mk (aC rfl (cR (af rfl) (ak rfl) (.mod (by decide))) (ak rfl) (.eq (.a (.i _ _)))) ?_;have hp1:((i:Int)+1)=((i+1:Nat):Int):=rfl;refine⟨_,rfl, ?_⟩;refine ah hp1 ?_;rewrite [pU];have fin:∀(i':Nat) (hi':i'<as.length),i'<i+1→f as[i']=false:=fun i' hi' hlt'=>by
        by_cases q':i'=i
        · subst q';exact hf
        · exact hno i' hi' (Nat.lt_of_le_of_ne (Nat.le_of_lt_succ hlt') q')
      by_cases hpar:(i+1)%2=0
      · refine ah (decide_eq_true hpar) ?_;have hslt:i/2<ks.length:=wZ (Nat.div_le_self _ _) (by assumption);refine aY ?_ (h.carF L hw hslt);intro _ _ hc4;have sm3:=aR P (aI ks e (i/2+1));have i4:=L.is (h.okPos L hw (i+1)) (h.okPos L hw (i/2+1)) (fun a b e1 e2=>by
          have:=h.cellAt (i/2+1);rw [e2] at this;exact absurd (wZ (ye hpar).2 (by assumption)) (of_decide_eq_false this.symm))
        rw [decide_eq_false (Ne.symm (h.ne (i:=i/2+1) (j:=i+1) (yg (by assumption) hpar).2 (yh hpar)))] at i4;refine aF (aX K hp rfl (fun _=>rfl) ?_);refine kE.mk (cF .n (af rfl) hc4 (aO _ _)) ?_;walk_at "m";refine a7 K hp ?_;refine kE.mk (bU (cX (aC rfl (af rfl) (af rfl) (.is i4)))) ?_;refine⟨_,rfl,az (aj ?_)⟩;refine ay ?_;walk_at "m";refine aj ?_;refine ay ?_;walk_at "m";refine aj ?_;refine bv ?_;exact⟨i+1,ad ha1,og hlen hlt,fun i' hi' h''=>fin i' hi' h'',by refine ah ((ye (by assumption)).1) ?_<;>rfl,(by trivial)⟩
      · refine ah (decide_eq_false hpar) ?_;refine az (aj ?_);refine ay ?_;walk_at "m";refine aj ?_;refine bv ?_;exact⟨i+1,ad ha1,og hlen hlt,fun i' hi' h''=>fin i' hi' h'',by refine ah (yf (by assumption)) ?_<;>rfl,(by trivial)⟩
    · have q1:=q i ha1 hf hno;refine aF (aL K hp ?_)
      (refine kE.mk (af rfl) ?_;refine fe (qn (fe ?_));assumption)<;>exact q1
  · refine ah (decide_eq_false hlt) ?_;refine az ?_;refine ay ?_;walk_at "m";have hpe:=aP (ks:=ks) (e:=e) (j:=i) ((w8 hlt));have hall:∀a∈as,f a=false:=fun a ha=>by
      refine eu ?_ (List.getElem_of_mem ha);rintro i' hi' rfl;exact hno i' hi' (w0 (w0 hi' (wX hlen)) (w8 hlt))
    have he:Ok D e:=by have:=h.okPos L hw i;rwa [hpe] at this
    have i2:=L.isNil he
    try dsimp+zetaDelta only
    refine ah hpe ?_;refine a7 K hp ?_;clear i1 c1 hs;refine kE.mk (aC rfl (af rfl) (af rfl) (.isn i2 rfl)) ?_;refine⟨_,rfl, ?_⟩
    cases hen:e.isNil
    · have qE1:=qE hall (fun he=>by subst he;exact tf hen);refine aF (ao (cL hB (by exact aq hn' hn rfl) rfl rfl ?_))
      (refine kE.mk (af rfl) ?_;assumption)<;>exact qE1
    · have q1:=q0 hall (me hen);refine az (aj ?_);refine ay ?_;walk_at "m";refine aL K hp ?_
      (refine kE.mk (af rfl) ?_;assumption)<;>exact q1
end
end
section
inductive br (C:St):W→W→Bool→Nat→Prop
  | eq {a:W}:br C a a true 1
  | no {a b:W}:a≠b→(a.isCell=false∨b.isCell=false)→br C a b false 1
  | carF {i j:Nat} {a1 d1 a2 d2:W} {n:Nat}:i≠j→C[i]?=some (a1,d1)→C[j]?=some (a2,d2)→br C a1 a2 false n→br C (.cell i) (.cell j) false (n+1)
  | cdr {i j:Nat} {a1 d1 a2 d2:W} {n k:Nat} {b:Bool}:i≠j→C[i]?=some (a1,d1)→C[j]?=some (a2,d2)→br C a1 a2 true n→br C d1 d2 b k→br C (.cell i) (.cell j) b (n+k+1)
section
variable {B:Bs}{n:Nat}{E:Str→AH→Prop}{C:St}
theorem qD {test:Expr}{body:List Stmt}{Q:cM→ax→AH→Prop}(b0:Bool)(N:Nat)(bH:Nat→List (W×W)→ax→AH→Prop)
    (step_eq:∀s rest x m σ,bH s (rest++[(x,x)]) m σ→s+1≤N→TV B n m test (fun b σ₁=>b=true∧bu B n m body (trn (bH (s+1) rest) Q) E σ₁) E σ)
    (step_no:∀s rest x y m σ,b0=false→x≠y→(x.isCell=false∨y.isCell=false)→bH s (rest++[(x,y)]) m σ→s+1≤N→TV B n m test (fun b σ₁=>b=true∧bu B n m body (trn (fun _ _=>False) Q) E σ₁) E σ)
    (step_cell:∀s rest i j a1 d1 a2 d2 m σ,i≠j→C[i]?=some (a1,d1)→C[j]?=some (a2,d2)→bH s (rest++[(.cell i, .cell j)]) m σ→s+1≤N→TV B n m test (fun b σ₁=>b=true∧bu B n m body (trn (bH (s+1) (rest++[(d1,d2),(a1,a2)])) Q) E σ₁) E σ)
    {x y:W} {b:Bool} {k:Nat} (h:br C x y b k):
    ∀s rest m σ,bH s (rest++[(x,y)]) m σ→s+k≤N→(b=false→b0=false)→(b=true→∀m' σ',bH (s+k) rest m' σ'→LV B n m' test body Q E σ')→LV B n m test body Q E σ:=by
  have turn:∀(I:ax→AH→Prop) m σ,TV B n m test (fun b σ₁=>b=true∧bu B n m body (trn I Q) E σ₁) E σ→(∀m' σ',I m' σ'→LV B n m' test body Q E σ')→LV B n m test body Q E σ:=by
    intro I m σ h hI;refine ky (h.mono fun b σ₁ hb=> ?_);refine uA ?_ hb;clear hb;rintro rfl hb;simp only [if_true];refine hb.mono fun f m' σ₂ h'=> ?_
    cases f with
    | next=>exact hI _ _ h'
    | cont=>exact hI _ _ h'
    | brk=>exact h'
    | ret v=>exact h'
  induction h with
  | eq=>
    intro s rest m σ hG hs _ k;exact turn _ m σ (step_eq s rest _ m σ hG hs) (k rfl)
  | no h1 h2=>
    intro s rest m σ hG hs hb _;exact turn _ m σ (step_no s rest _ _ m σ (hb rfl) h1 h2 hG hs) (fun _ _ h=>h.elim)
  | carF h1 h2 h3 h4 ih=>
    intro s rest m σ hG hs hb _;refine turn _ m σ (step_cell s rest _ _ _ _ _ _ m σ h1 h2 h3 hG (wV (xe (wV (wW rfl) (xj _ _)) _) hs)) fun m' σ' hG'=> ?_;refine ih (s+1) (rest++[(_,_)]) m' σ' (by simpa using hG') (wV (wX (Nat.add_right_comm _ _ _)) hs) hb (fun h=>by exact ft h)
  | cdr h1 h2 h3 h4 h5 ih1 ih2=>
    intro s rest m σ hG hs hb k;refine turn _ m σ (step_cell s rest _ _ _ _ _ _ m σ h1 h2 h3 hG (wV (xe (wV (wW rfl) (xj _ _)) _) hs)) fun m' σ' hG'=> ?_;refine ih1 (s+1) (rest++[(_,_)]) m' σ' (by simpa using hG') (by lia) (fun h=>by exact tf h) fun _ m₂ σ₂ hG₂=> ?_;refine ih2 _ rest m₂ σ₂ hG₂ (by lia) hb fun hb' m₃ σ₃ hG₃=>k hb' m₃ σ₃ ?_;have e:∀a b c:Nat,a+1+b+c=a+(b+c+1):=fun a b c=>(Nat.add_assoc _ _ _).trans ((Nat.add_right_comm a 1 (b+c)));rw [←e];exact hG₃
end
end
section
section
variable {B:Bs}{Pr:Params}{n:Nat}{Q:V→AH→Prop}{E:Str→AH→Prop}{σ:AH}{C:St}{D:Nat→Prop}{P:Nat→Addr}{w e x y:W}{ks:List Nat}{as:List W}{al:Addr}{j:Nat}
theorem Lk.le {σ':AH}(L:Lk σ C D P)(h:aH σ σ'):Lk σ' C D P:=⟨h _ _ L.nil,fun k hk=>by
    refine bk ?_ (L.at_ k hk);intro a d h1 h2 h3 h4;exact⟨a,d,h1,h2,h3,h _ _ h4⟩,L.inj⟩
noncomputable def rU:ax:=[("one", .loc none),("other", .loc none),("word", .loc none),("Cons", .glob (.ref 82)),("Vector", .glob (.ref 125)),("ByteCode", .glob (.ref 146)),("Text", .glob (.ref 104)),("Opaque", .glob (.ref 181)),("isinstance", .glob (.bi "isinstance"))]
theorem ic (hB:B.K=HK Pr)(hn:2≤n)(L:Lk σ C D P)(hx:Ok D x)(hy:Ok D y)(q:Q (.bool (x.isCell&&y.isCell)) σ):CV B n (.ref 338) [ev P x,ev P y] Q E σ:=by
  have K:=b9 hB;have i1:=L.cls hx;have i2:=L.cls hy;refine bm (by assumption) vg rfl hn ?_;intro n' hn' hp;walk_at "m";refine ao (dB (pg (bn K hp ?_)));refine kE.mk (bD (wW rfl) (aW rfl (af rfl) (d6 rfl (af rfl) (af rfl) (af rfl) (af rfl)))) ?_;refine⟨_,rfl, ?_⟩
  cases hc:x.isCell
  · refine mA (fun(i:Nat) m σ'=>(∃o,m=(bp rU [(some (ev P x)),(some (ev P y)),o]))∧σ'=σ) ?_ ?_ 0 _ _ (xd _) ⟨⟨none,rfl⟩,rfl⟩
    · intro i v m σ';refine uA ?_;refine uE ?_;rintro o rfl hσ hv;subst hσ;refine⟨rfl, ?_⟩;have hi:sr x.cls v=some false:=by
        have hm:=List.mem_of_getElem? hv;simp at hm
        rcases hm with rfl | rfl | rfl | rfl | rfl
        · exact congrArg some ((wK x).trans hc)
        · rfl
        · rfl
        · rfl
        · rfl
      walk_at "m";refine eg ‹_› ‹_› (bh .n (af rfl) (aD rfl (af rfl) (af rfl)) (.isi i1 hi)) (by rfl) ?_;refine aj ?_;refine bv ?_;exact⟨⟨_,rfl⟩,(by trivial)⟩
    · intro m σ';refine uA ?_;refine uE ?_;rintro o rfl hσ;subst hσ;refine ay ?_;walk_at "m";rw [hc] at q;refine aL K hp ?_
      (refine kE.mk (ak rfl) ?_;assumption)<;>exact q
  · refine o9 (v:= .ref 82) rfl rfl ?_;walk_at "m";refine a7 K hp ?_;refine kE.mk (bh .n (af rfl) (aD rfl (af rfl) (af rfl)) (bB i1 hc)) ?_;refine⟨_,rfl,aF (aL K hp ?_)⟩;refine kE.mk (bh .n (af rfl) (aD rfl (af rfl) (af rfl)) (bB i2 rfl)) ?_;refine fe (qn (fe ?_))
    try rw [wK]
    rw [hc,Bool.true_and] at q;exact q
theorem mR (hB:B.K=HK Pr)(hn:2≤n)(L:Lk σ C D P){i j:Nat}{a1 d1 a2 d2:W}(hi:D i)(hj:D j)(h1:C[i]?=some (a1,d1))(h2:C[j]?=some (a2,d2))(q:∀l,σ l=none→Q (.ref l) (σ.set l (.list [.tup [ev P d1,ev P d2], .tup [ev P a1,ev P a2]]))):CV B n (.ref 331) [ev P (.cell i),ev P (.cell j)] Q E σ:=by
  have K:=b9 hB;have i1:=L.cls (w:= .cell i) hi;refine dc ?_ (L.car hi h1);intro f1 f2 _;refine dc ?_ (L.car hj h2);intro f3 f4 _;have s1:=aR P a1;have s2:=aR P a2;have s3:=aR P d1;have s4:=aR P d2;refine bm (by assumption) ve rfl hn ?_;intro n' hn' hp;walk_at "m";refine a7 K hp ?_;simp only [ev] at i1⊢;refine kE.mk (bh .n (af rfl) (aD rfl (af rfl) (af rfl)) (bB i1 rfl)) ?_
  try rfl
  refine⟨_,rfl,aF (aJ (a9 rfl (by decide) ?_))⟩;refine re ‹_› ‹_› (aD rfl (bD (wW rfl) (aD rfl (cF .n (af rfl) f2 (aO _ _)) (cF .n (af rfl) f4 (aO _ _)))) (bD (wW rfl) (aD rfl (cF .n (af rfl) f1 (aO _ _)) (cF .n (af rfl) f3 (aO _ _))))) ?_;exact q
noncomputable def cZ (P:Nat→Addr)(z:W×W):V:= .tup [ev P z.1,ev P z.2]
noncomputable def rV:ax:=[("one", .loc none),("other", .loc none),("strings_alike", .loc none),("waiting", .loc none),("steps", .loc none),("left", .loc none),("right", .loc none),("parts", .loc none),("len", .glob (.bi "len")),("MOST_STEPS", .glob (.int 100000)),("LispSignal", .glob (.ref 38)),("eq", .glob (.ref 326)),("are_of_one_class", .glob (.ref 338)),("parts_of", .glob (.ref 331)),("isinstance", .glob (.bi "isinstance")),("Text", .glob (.ref 104))]
theorem mL (hB:B.K=HK Pr)(hn:5≤n)(L:Lk σ C D P)(hx:Ok D x)(hy:Ok D y){b:Bool}{k:Nat}(h:br C x y b k)(hk:k≤100000)(q:Q (.bool b) σ):CV B n (.ref 345) [ev P x,ev P y, .ref 352] Q E σ:=by
  have K:=b9 hB;refine wu (σ₀:=σ) ?_;refine bg (by assumption) vh rfl (ar hn rfl) ?_;intro n' hn' hp;walk_at "m";refine bE rfl (fun _=>rfl) (a9 rfl (by decide) (fh K hp ?_));refine lZ.mk (aA rfl (bD (wW rfl) (aD rfl (af rfl) (af rfl)))) ?_;intro wl hwl;refine aX K hp rfl (fun _=>rfl) ?_;refine kE.mk (ak rfl) ?_;walk_at "m";refine ao (cc ?_);have L':∀σ',aH σ σ'→Lk σ' C D P:=fun σ' h=>L.le h;refine qD (C:=C) b 100000 (fun s ps m σ'=>(∀z∈ps,Ok D z.1∧Ok D z.2)∧ps.length≤s+1∧(∃ol orr op,m=(bp rV [(some (ev P x)),(some (ev P y)),(some (.ref 352)),(some (.ref wl)),(some (.int (s:Int))),ol,orr,op]))∧aH σ σ'∧σ' wl=some (.list (ps.map (cZ P)))) ?_ ?_ ?_ h 0 [] _ _ ⟨by simpa using ⟨hx,hy⟩,by first | rfl | simp,⟨none,none,none,rfl⟩,aH.set hwl,wq _ _ _⟩ (xe hk _) (fun h=>h) ?_
  · intro s rest z m σ';refine cf ?_;intro hok hlen;refine gG ?_;rintro ol orr op rfl hle hw hs;have hlen1:(rest.map (cZ P)++[cZ P (z,z)]).length=rest.length+1:=by simp
    refine uA ?_ (hok (z,z) (by simp));intro hu hv;have hlen':rest.length≤s:=by simpa using hlen
    have hokr:∀z∈rest,Ok D z.1∧Ok D z.2:=fun z hz=>hok z (List.mem_append_left _ hz);clear hok hlen;rw [List.map_append,List.map_singleton] at hw;refine dZ K hp ?_;have hle2:aH σ (σ'.set wl (.list (rest.map (cZ P)))):=fun a o ho=>by
      by_cases qa:a=wl
      · subst qa;rw [hwl] at ho;exact nn ho
      · exact(wp qa).trans (hle a o ho)
    have L2:=L' _ hle2;have hw2:(σ'.set wl (.list (rest.map (cZ P)))) wl=some (.list (rest.map (cZ P))):=wq _ _ _;generalize hzs:rest.map (cZ P)=zs at*;refine kE.mk (aC rfl (bh .n (af rfl) (aA rfl (af rfl)) (.len (.l hw))) (ak rfl) .gt) ?_;refine⟨true,by exact congrArg _ (decide_eq_true (by exact Int.ofNat_lt.mpr (w0 (w0 (wW rfl) (xj _ _)) (wX hlen1.symm)))),rfl, ?_⟩
    refine aX K hp rfl (fun _=>rfl) ?_;refine kE.mk (cR (af rfl) (ak rfl) .add) ?_;walk_at "m";refine a7 K hp ?_;refine kE.mk (aC rfl (af rfl) (af rfl) .gt) ?_;refine⟨_,rfl, ?_⟩;refine ah (decide_eq_false (by exact fun z=>Int.not_lt_of_ge (Int.add_one_le_of_lt (Int.ofNat_lt.mpr hs)) z)) ?_;refine az (aj ?_);refine ay ?_;walk_at "m";refine ao (aS (.cons (.cons .nil)) rfl (cb .n rfl (by decide) (by decide) (bn K hp ?_)));refine kE.mk (af rfl) ?_;refine⟨"list.pop", .pop hw,iT hw ⟨[ev P (z),ev P (z)],rfl,rfl, ?_⟩⟩;refine ay ?_;walk_at "m";refine iI K hp .n rfl ?_;refine wU (af rfl) (aD rfl (af rfl) (af rfl)) ?_;refine⟨aB hB rfl,kH (w:=z) (v:=z) hB (by exact aq hn' hn rfl) L2 hu hv ⟨_,rfl, ?_⟩⟩;refine ah (decide_eq_true rfl) ?_;refine aF (ao (lB ?_));refine rr (rr (tm ?_));exact⟨hokr,by exact wV (wV hlen' (w9 _ _)) (w9 _ _),⟨_,_,_,by dsimp+zetaDelta only;refine ah (show (s:Int)+1=((s+1:Nat):Int) by exact rfl) ?_<;>rfl⟩,hle2,hw2⟩
  · intro s rest u v m σ' hb huv hcell;refine cf ?_;intro hok hlen;refine gG ?_;rintro ol orr op rfl hle hw hs;have hlen1:(rest.map (cZ P)++[cZ P (u,v)]).length=rest.length+1:=by simp
    refine uA ?_ (hok (u,v) (by simp));intro hu hv;have hlen':rest.length≤s:=by simpa using hlen
    have hokr:∀z∈rest,Ok D z.1∧Ok D z.2:=fun z hz=>hok z (List.mem_append_left _ hz);clear hok hlen;rw [List.map_append,List.map_singleton] at hw;refine dZ K hp ?_;have hle2:aH σ (σ'.set wl (.list (rest.map (cZ P)))):=fun a o ho=>by
      by_cases qa:a=wl
      · subst qa;rw [hwl] at ho;exact nn ho
      · exact(wp qa).trans (hle a o ho)
    have L2:=L' _ hle2;have hw2:(σ'.set wl (.list (rest.map (cZ P)))) wl=some (.list (rest.map (cZ P))):=wq _ _ _;generalize hzs:rest.map (cZ P)=zs at*;refine kE.mk (aC rfl (bh .n (af rfl) (aA rfl (af rfl)) (.len (.l hw))) (ak rfl) .gt) ?_;refine⟨true,by exact congrArg _ (decide_eq_true (by exact Int.ofNat_lt.mpr (w0 (w0 (wW rfl) (xj _ _)) (wX hlen1.symm)))),rfl, ?_⟩
    refine aX K hp rfl (fun _=>rfl) ?_;refine kE.mk (cR (af rfl) (ak rfl) .add) ?_;walk_at "m";refine a7 K hp ?_;refine kE.mk (aC rfl (af rfl) (af rfl) .gt) ?_;refine⟨_,rfl, ?_⟩;refine ah (decide_eq_false (by exact fun z=>Int.not_lt_of_ge (Int.add_one_le_of_lt (Int.ofNat_lt.mpr hs)) z)) ?_;refine az (aj ?_);refine ay ?_;walk_at "m";refine ao (aS (.cons (.cons .nil)) rfl (cb .n rfl (by decide) (by decide) (bn K hp ?_)));refine kE.mk (af rfl) ?_;refine⟨"list.pop", .pop hw,iT hw ⟨[ev P (u),ev P (v)],rfl,rfl, ?_⟩⟩;refine ay ?_;walk_at "m";refine iI K hp .n rfl ?_;refine wU (af rfl) (aD rfl (af rfl) (af rfl)) ?_;refine⟨aB hB rfl,kH (w:=u) (v:=v) hB (by exact aq hn' hn rfl) L2 hu hv ⟨_,rfl, ?_⟩⟩;refine ah (decide_eq_false huv) ?_;refine az (aj ?_);refine ay ?_;walk_at "m";refine ey K hp .n rfl ?_;refine wU (af rfl) (aD rfl (af rfl) (af rfl)) ?_;refine⟨aB hB rfl,ic (x:=u) (y:=v) hB (by exact aq hn' hn rfl) L2 hu hv ⟨_,rfl, ?_⟩⟩
    have hcc:(u.isCell&&v.isCell)=false:=by rcases hcell with h | h<;>refine ah h ?_<;>simp
    refine ah hcc ?_;subst hb;refine ss (aL K hp ?_);refine kE.mk (ak rfl) ?_;refine fe (qn (fe ?_))
    first | exact⟨(by trivial),q⟩ | exact⟨(by trivial),(by trivial)⟩ | trivial
  · intro s rest i j a1 d1 a2 d2 m σ' hij h1 h2;refine cf ?_;intro hok hlen;refine gG ?_;rintro ol orr op rfl hle hw hs;have hlen1:(rest.map (cZ P)++[cZ P (.cell i, .cell j)]).length=rest.length+1:=by simp
    refine uA ?_ (hok (.cell i, .cell j) (by simp));intro hu hv;have hlen':rest.length≤s:=by simpa using hlen
    have hokr:∀z∈rest,Ok D z.1∧Ok D z.2:=fun z hz=>hok z (List.mem_append_left _ hz);clear hok hlen;rw [List.map_append,List.map_singleton] at hw;refine dZ K hp ?_;have hle2:aH σ (σ'.set wl (.list (rest.map (cZ P)))):=fun a o ho=>by
      by_cases qa:a=wl
      · subst qa;rw [hwl] at ho;exact nn ho
      · exact(wp qa).trans (hle a o ho)
    have L2:=L' _ hle2;have hw2:(σ'.set wl (.list (rest.map (cZ P)))) wl=some (.list (rest.map (cZ P))):=wq _ _ _;generalize hzs:rest.map (cZ P)=zs at*;refine kE.mk (aC rfl (bh .n (af rfl) (aA rfl (af rfl)) (.len (.l hw))) (ak rfl) .gt) ?_;refine⟨true,by exact congrArg _ (decide_eq_true (by exact Int.ofNat_lt.mpr (w0 (w0 (wW rfl) (xj _ _)) (wX hlen1.symm)))),rfl, ?_⟩
    refine aX K hp rfl (fun _=>rfl) ?_;refine kE.mk (cR (af rfl) (ak rfl) .add) ?_;walk_at "m";refine a7 K hp ?_;refine kE.mk (aC rfl (af rfl) (af rfl) .gt) ?_;refine⟨_,rfl, ?_⟩;refine ah (decide_eq_false (by exact fun z=>Int.not_lt_of_ge (Int.add_one_le_of_lt (Int.ofNat_lt.mpr hs)) z)) ?_;refine az (aj ?_);refine ay ?_;walk_at "m";refine ao (aS (.cons (.cons .nil)) rfl (cb .n rfl (by decide) (by decide) (bn K hp ?_)));refine kE.mk (af rfl) ?_;refine⟨"list.pop", .pop hw,iT hw ⟨[ev P (.cell i),ev P (.cell j)],rfl,rfl, ?_⟩⟩;refine ay ?_;walk_at "m";refine iI K hp .n rfl ?_;refine wU (af rfl) (aD rfl (af rfl) (af rfl)) ?_;refine⟨aB hB rfl,kH (w:= .cell i) (v:= .cell j) hB (by exact aq hn' hn rfl) L2 hu hv ⟨_,rfl, ?_⟩⟩;refine ah (decide_eq_false (fun h=>hij (W.cell.inj h))) ?_;refine az (aj ?_);refine ay ?_;walk_at "m";refine ey K hp .n rfl ?_;refine wU (af rfl) (aD rfl (af rfl) (af rfl)) ?_;refine⟨aB hB rfl,ic (x:= .cell i) (y:= .cell j) hB (by exact aq hn' hn rfl) L2 hu hv ⟨_,rfl, ?_⟩⟩;refine jo (aj ?_);refine ay ?_;walk_at "m";refine c7 K hp rfl .n rfl ?_;refine wU (af rfl) (aD rfl (af rfl) (af rfl)) ?_;refine⟨aB hB rfl,mR hB (by exact aq hn' hn rfl) L2 hu hv h1 h2 fun l hl=> ?_⟩;walk_at "m";have hne:wl≠l:=fun q=>by rw [←q,hw2] at hl;exact sn hl
    have hle3:aH σ ((σ'.set wl (.list zs)).set l (.list [.tup [ev P d1,ev P d2], .tup [ev P a1,ev P a2]])):=hle2.trans (aH.set hl);have L3:=L' _ hle3;have i1:jF ((σ'.set wl (.list zs)).set l (.list [.tup [ev P d1,ev P d2], .tup [ev P a1,ev P a2]])) (.ref l) .none false:= .f rfl;have i2:=L3.cls (w:= .cell i) hu;simp only [W.cls] at i2;have hw3:((σ'.set wl (.list zs)).set l (.list [.tup [ev P d1,ev P d2], .tup [ev P a1,ev P a2]])) wl=some (.list zs):=(wp hne).trans hw2;have hl3:((σ'.set wl (.list zs)).set l (.list [.tup [ev P d1,ev P d2], .tup [ev P a1,ev P a2]])) l=some (.list [.tup [ev P d1,ev P d2], .tup [ev P a1,ev P a2]]):=wq _ _ _;refine bk ?_ (L.at_ i hu);intro _ _ _ ok1 ok2 _;refine cf ?_ (L.car hu h1);intro ea1 ea2 ok3 ok4 _;refine cf ?_ (L.car hv h2);intro eb1 eb2 ok5 ok6 _;refine a7 K hp ?_;refine kE.mk (bU (j6 (aC rfl (af rfl) (ak rfl) (.is i1)) (dw (bU (cX (bh .n (af rfl) (aD rfl (af rfl) (af rfl)) (.isi i2 rfl))))))) ?_
    try simp only [or_false,false_or,or_true,true_or,if_true]
    refine⟨_,rfl,az (aj ?_)⟩;refine ay ?_;walk_at "m";refine ao (iH (cb .n rfl (by decide) (by decide) (bn K hp ?_)));have hzl:zs.length≤100001:=by simp at hlen1;exact wV (wV (wX hlen1) (wV hlen' (wV (w9 _ _) hs))) (wW rfl)
    refine kE.mk (af rfl) ?_;refine⟨"list.extend", .extend hw3,bn K hp ?_⟩;refine kE.mk (af rfl) ?_;refine nT hw3 hl3 (by simp [sizeLine_eq];exact wV hzl (wW rfl)) ?_;refine aj ?_;refine bv ?_;have hdd:d1=d1:=rfl;refine⟨fun z hz=> ?_,by simp;exact hlen',⟨_,_,_,by dsimp+zetaDelta only;refine ah (show (s:Int)+1=((s+1:Nat):Int) by exact rfl) ?_<;>rfl⟩,fun a o ho=> ?_, ?_⟩
    · rcases List.mem_append.mp hz with hz | hz
      · exact hokr z hz
      · simp at hz
        rcases hz with rfl | rfl
        · exact⟨ok4,ok6⟩
        · exact⟨ok3,ok5⟩
    · by_cases qa:a=wl
      · subst qa;rw [hwl] at ho;exact nn ho
      · exact(wp qa).trans (hle3 a o ho)
    · rewrite [wq];refine ah List.map_append (ah (‹rest.map (cZ P)=zs›) ?_);rfl
  · intro hb m' σ';refine cf ?_;intro _ _;refine gG ?_;rintro ol orr op rfl hle hw;subst hb;refine ky (dZ K hp ?_);simp only [List.map_nil] at hw;refine kE.mk (aC rfl (bh .n (af rfl) (aA rfl (af rfl)) (.len (.l hw))) (ak rfl) .gt) ?_;refine⟨false,rfl, ?_⟩;walk_at "m";refine aL K hp ?_;refine kE.mk (ak rfl) ?_
    first | exact⟨(by trivial),q⟩ | exact⟨hle,q⟩ | trivial
theorem nC (hB:B.K=HK Pr)(hn:6≤n)(L:Lk σ C D P)(hx:Ok D x)(hy:Ok D y){b:Bool}{k:Nat}(h:br C x y b k)(hk:k≤100000)(q:Q (.bool b) σ):CV B n (.ref 359) [ev P x,ev P y] Q E σ:=by
  have K:=b9 hB;refine bm (by assumption) vi rfl (ar hn rfl) ?_;intro n' hn' hp;walk_at "m";refine dm K hp .n rfl ?_;refine wU (af rfl) (bG rfl (af rfl) (af rfl) (af rfl)) ?_;exact⟨aB hB rfl,mL hB (aq hn' hn rfl) L hx hy h hk q⟩
end
end
section
section
variable {B:Bs}{Pr:Params}{n:Nat}{Q:V→AH→Prop}{E:Str→AH→Prop}{σ:AH}{C:St}{D:Nat→Prop}{P:Nat→Addr}{w e x y:W}{ks:List Nat}{as:List W}{al:Addr}{j:Nat}
noncomputable def aG (C:St)(bc:Bool)(f:W→Bool):W→Bool
  | .cell k=>match C[k]? with
    | some (a,d)=>f (if bc then d else a)
    | none=>false
  | _=>false
noncomputable def rW:ax:=[("key", .loc none),("value", .loc none),("is_same", .loc none),("is_by_cdr", .loc none),("own", .loc none),("things_of", .glob (.ref 256)),("isinstance", .glob (.bi "isinstance")),("Cons", .glob (.ref 82)),("NIL", .glob (.ref 64))]
theorem fp (hB:B.K=HK Pr)(hn:8≤n)(L:Lk σ C D P)(hx:Ok D x)(hw:Ok D w)(h:bK C w ks as e)(hz:ks.length≤1000)(f:W→Bool){s:V}{bc:Bool}(hk:ec B s)
    (hs:∀k a d, .cell k∈as→C[k]?=some (a,d)→∀σ',aH σ σ'→∀(R:V→AH→Prop) (E':Str→AH→Prop) (n':Nat),n≤n'+1→R (.bool (f (if bc then d else a))) σ'→CV B n' s [ev P x,ev P (if bc then d else a)] R E' σ')
    (qE:e≠ .nil→E "wrong-type-argument" σ)
    (q:e= .nil→∀i (hi:i<as.length),aG C bc f as[i]=true→(∀i' (hi':i'<as.length),i'<i→aG C bc f as[i']=false)→Q (ev P as[i]) σ)
    (q0:e= .nil→(∀a∈as,aG C bc f a=false)→Q (.ref 64) σ):CV B n (.ref 469) [ev P x,ev P w,s, .bool bc] Q E σ:=by
  have K:=b9 hB;refine wu (σ₀:=σ) (wv (σ₀:=σ) ?_);refine rB (by assumption) vD rfl (ar hn rfl) ?_;intro n' hn' hp;walk_at "m";refine ao (dB (bA (aK K hp .n rfl ?_)));have hs0:True:=trivial;refine wU (af rfl) (aA rfl (af rfl)) ?_;refine⟨aB hB rfl,du hB (aq hn' hn rfl) L hw h hz (fun he l hl=>⟨l,_,rfl, .inl (wq _ _ _), ?_⟩) fun he=>⟨aH.refl σ,qE he⟩⟩;have hle:aH σ (σ.set l (.list (as.map (ev P)))):=aH.set hl;have hl1:(σ.set l (.list (as.map (ev P)))) l=some (.list (as.map (ev P))):=wq _ _ _;have L1:Lk (σ.set l (.list (as.map (ev P)))) C D P:=L.le hle;have hlen:(as.map (ev P)).length=as.length:=by simp
  refine cT (xs:=as.map (ev P)) (fun(i:Nat) m σ'=>(∀i' (hi':i'<as.length),i'<i→aG C bc f as[i']=false)∧(∃o,m=(bp rW [(some (ev P x)),(some (ev P w)),(some (s)),(some (.bool bc)),o]))∧σ'=σ.set l (.list (as.map (ev P)))) ?_ ?_ ?_ 0 _ _ (xd _) ⟨fun _ _ h=>absurd h (xh _),⟨none,rfl⟩,rfl⟩
  · intro i m σ';refine dc ?_;rintro _ _ rfl _;exact .inl hl1
  · intro i v m σ';refine dc ?_;intro hno;refine uE ?_;rintro o rfl rfl hv;rw [List.getElem?_map] at hv;refine aY ?_ (Option.map_eq_some_iff.mp hv);rintro a hv2 rfl;refine uE ?_ (List.getElem?_eq_some_iff.mp hv2);intro hi hai;refine⟨rfl, ?_⟩;have hok:Ok D a:=h.okAs L hw a (hai▸List.getElem_mem _);have i1:=L1.cls hok;have fin:aG C bc f a=false→∀i' (hi':i'<as.length),i'<i+1→aG C bc f as[i']=false:=fun hf i' hi' hlt=>by
      by_cases q':i'=i
      · subst q';refine ah hai ?_;exact hf
      · exact hno i' hi' (by exact Nat.lt_of_le_of_ne (Nat.le_of_lt_succ hlt) q')
    walk_at "m";refine ao (ew (bR (dZ K hp ?_)));refine kE.mk (bh .n (af rfl) (aD rfl (af rfl) (af rfl)) (bB i1 rfl)) ?_
    try rw [wK]
    refine⟨_,rfl, ?_⟩
    cases a with
    | cell k=>
      refine bk ?_ (L.at_ k hok);intro pa pd h1 h2 h3 _;refine dc ?_ (L1.car hok h1);intro f1 f2 _;rw [show V.ref (P k)=ev P (.cell k) from rfl] at f1 f2;have s1:=aR P pa;have s2:=aR P pd;refine dq K hp .n rfl ?_;have hhit:aG C bc f (.cell k)=f (if bc then pd else pa):=by simp only [aG,h1]
      have hmem:W.cell k∈as:=hai▸List.getElem_mem _
      cases bc
      · refine wU (af rfl) (aD rfl (af rfl) (j5 (af rfl) (cF .n (af rfl) f1 (aO _ _)))) ?_;refine⟨hk,hs k pa pd hmem h1 _ hle _ _ _ (by exact wX hn') ⟨_,rfl, ?_⟩⟩
        cases hf:f (if false=true then pd else pa)
        · refine aj ?_;refine ay ?_;walk_at "m";refine aj ?_;refine bv ?_;rw [hf] at hhit;exact⟨fin hhit,⟨_,rfl⟩,(by trivial)⟩
        · rw [hf] at hhit;have q1:=q he i hi (hai▸hhit) hno;rw [hai] at q1;refine aN ‹_› ‹_› (by exact af rfl) ?_;exact⟨hle,q1⟩
      · refine wU (af rfl) (aD rfl (af rfl) (fu (af rfl) (cF .n (af rfl) f2 (aO _ _)))) ?_;refine⟨hk,hs k pa pd hmem h1 _ hle _ _ _ (by exact wX hn') ⟨_,rfl, ?_⟩⟩
        cases hf:f (if true=true then pd else pa)
        · refine aj ?_;refine ay ?_;walk_at "m";refine aj ?_;refine bv ?_;rw [hf] at hhit;exact⟨fin hhit,⟨_,rfl⟩,(by trivial)⟩
        · rw [hf] at hhit;have q1:=q he i hi (hai▸hhit) hno;rw [hai] at q1;refine aN ‹_› ‹_› (by exact af rfl) ?_;exact⟨hle,q1⟩
    | _=>
      refine aj ?_;refine ay ?_;walk_at "m";refine aj ?_;refine bv ?_;exact⟨fin rfl,⟨_,rfl⟩,(by trivial)⟩
  · intro m σ';refine dc ?_;intro hno;refine uE ?_;rintro o rfl rfl;refine ay ?_;walk_at "m";have q1:=q0 he (fun a ha=>by
      refine eu ?_ (List.getElem_of_mem ha);rintro i' hi' rfl;exact hno i' hi' (by refine ah hlen ?_;exact hi'))
    refine aN ‹_› ‹_› (by exact af rfl) ?_;exact⟨hle,q1⟩
end
end
section
noncomputable def dg (C:St)(k:Nat)(d:W):St:=match C[k]? with
  | some (a,_)=>C.set k (a,d)
  | none=>C
theorem gF (C:St)(k:Nat)(d:W):(dg C k d).length=C.length:=by unfold dg;split<;>simp
theorem dI {C:St}{k:Nat}{a d0 d:W}(h:C[k]?=some (a,d0)):(dg C k d)[k]?=some (a,d):=by
  unfold dg;refine ah h ?_;exact List.getElem?_set_self (List.getElem?_eq_some_iff.mp h).1
theorem d8 {C:St}{k j:Nat}{d:W}(h:j≠k):(dg C k d)[j]?=C[j]?:=by
  unfold dg
  split
  · exact List.getElem?_set_ne (Ne.symm h)
  · rfl
theorem ki {C:St}{k:Nat}{a d:W}(h:C[k]?=some (a,d)):dg C k d=C:=by
  unfold dg;refine ah h ?_;apply List.ext_getElem?;intro j
  by_cases q:j=k
  · subst q;exact(List.getElem?_set_self (List.getElem?_eq_some_iff.mp h).1).trans h.symm
  · exact List.getElem?_set_ne (Ne.symm q)
theorem kj (C:St)(k:Nat)(d d':W):dg (dg C k d) k d'=dg C k d':=by
  cases h:C[k]? with
  | none=>
    have:dg C k d=C:=by unfold dg;exact ah h rfl
    exact ah this rfl
  | some p=>
    obtain ⟨a,d0⟩:=p;apply List.ext_getElem?;intro j
    by_cases q:j=k
    · subst q;exact(dI (dI h)).trans ((dI h).symm)
    · exact(d8 q).trans ((d8 q).trans ((d8 q).symm))
noncomputable def bq:St→List Nat→W→St
  | C,[],_=>C
  | C,[k],e=>dg C k e
  | C,k1::k2::r,e=>bq (dg C k1 (.cell k2)) (k2::r) e
theorem jx:∀(K:List Nat) (C:St) (e:W) {j:Nat},j∉K→(bq C K e)[j]?=C[j]?
  | [],_,_,_,_=>rfl
  | [k],C,e,j,h=>d8 (fun q=>h (q▸ .head _))
  | k1::k2::r,C,e,j,h=>by
    have hne:j≠k1:=fun q=>h (by refine ah q ?_;exact .head _);exact ah (jx (k2::r) _ e (fun q=>h (.tail _ q))) (ah (d8 hne) rfl)
theorem c5:∀(K:List Nat) (C:St) (e:W),(bq C K e).length=C.length
  | [],_,_=>rfl
  | [k],C,e=>gF C k e
  | k1::k2::r,C,e=>(c5 (k2::r) _ _).trans (gF ..)
theorem gC:∀(K:List Nat) (C:St) (k:Nat) (e e':W),dg (bq C (K++[k]) e) k e'=bq C (K++[k]) e'
  | [],C,k,e,e'=>kj C k e e'
  | [k1],C,k,e,e'=>by
    exact kj _ k e e'
  | k1::k2::r,C,k,e,e'=>by
    exact gC (k2::r) _ k e e'
theorem gE:∀(K:List Nat) (C:St) (k1 k2:Nat) (e:W),bq C (K++[k1]++[k2]) e=dg (bq C (K++[k1]) (.cell k2)) k2 e
  | [],C,k1,k2,e=>rfl
  | [k0],C,k1,k2,e=>by
    rfl
  | k0::k0'::r,C,k1,k2,e=>by
    exact gE (k0'::r) _ k1 k2 e
theorem jw:∀(K:List Nat) (C:St) (k:Nat) (e:W) {a d:W},(K++[k]).Nodup→C[k]?=some (a,d)→(bq C (K++[k]) e)[k]?=some (a,e)
  | [],C,k,e,a,d,_,h=>dI h
  | [k1],C,k,e,a,d,hn,h=>by
    have:k≠k1:=by simp at hn;exact fun q=>hn q.symm
    exact dI (by exact(d8 this).trans h)
  | k1::k2::r,C,k,e,a,d,hn,h=>by
    have hn':(k1::(k2::r++[k])).Nodup:=hn;refine uA ?_ (List.nodup_cons.mp hn');intro h1 h2;have:k≠k1:=fun q=>h1 (by refine ch q ?_;simp);exact jw (k2::r) _ k e h2 (by exact(d8 this).trans h)
noncomputable def aZ (ks:List Nat)(as:List W)(x:W)(j:Nat):List Nat:=(((ks.zip as).take j).filter fun p=>p.2≠x).map (·.1)
theorem cE {ks:List Nat}{as:List W}{x:W}{j:Nat}(h1:j<ks.length)(h2:j<as.length):aZ ks as x (j+1)=aZ ks as x j++if as[j]=x then[] else[ks[j]]:=by
  unfold aZ;have hz:j<(ks.zip as).length:=by simp;exact ag h1 h2
  refine ch (List.take_append_getElem hz) ?_;rewrite [List.filter_append];refine ah List.map_append ?_
  congr 1
  refine ah List.getElem_zip ?_
  by_cases q:as[j]=x<;>simp [q]
theorem df {ks:List Nat}{as:List W}{x:W}{j:Nat}(hl:as.length=ks.length):(aZ ks as x j).Sublist (ks.take j):=by
  have:((ks.zip as).take j).map (·.1)=ks.take j:=by
    refine ah List.map_take ?_;have:(ks.zip as).map (·.1)=ks:=by
      rw [List.map_fst_zip];exact wV (wX rfl) (wX hl.symm)
    exact congrArg _ this
  refine ch this ?_
  exact(List.filter_sublist).map _
noncomputable def ez (C:St)(N:Nat)(acc:St×List W)(a:W):St×List W:=match a with
  | .cell k=>match C[k]? with
    | some p=>(acc.1++[p],acc.2++[.cell (N+acc.1.length)])
    | none=>(acc.1,acc.2++[a])
  | a=>(acc.1,acc.2++[a])
noncomputable def cW (C:St)(as:List W):St×List W:=as.foldl (ez C C.length) ([],[])
theorem e7 (C:St)(as:List W):(cW C as).2.length=as.length:=by
  have key:∀(as:List W) (acc:St×List W),(as.foldl (ez C C.length) acc).2.length=acc.2.length+as.length:=by
    intro as
    induction as with
    | nil=>intro acc;rfl
    | cons a r ih=>
      intro acc;refine ah List.foldl_cons ?_;rewrite [ih];refine ah List.length_cons ?_;have:(ez C C.length acc a).2.length=acc.2.length+1:=by
        unfold ez
        cases a with
        | cell k=>dsimp only;split<;>simp
        | _=>simp
      lia
  have h:=key as ([],[]);unfold cW
  simpa using h
end
section
section
variable {B:Bs}{Pr:Params}{n:Nat}{Q:V→AH→Prop}{E:Str→AH→Prop}{σ:AH}{C:St}{D:Nat→Prop}{P:Nat→Addr}{w e x y:W}{ks:List Nat}{as:List W}{al:Addr}{j:Nat}
noncomputable def sJ:List Nat→W
  | []=> .nil
  | k::_=> .cell k
theorem Lk.updD (L:Lk σ C D P){k:Nat}{a d d':W}(hk:D k)(hc:C[k]?=some (a,d))(hd:Ok D d'):Lk (σ.set (P k) (pF (ev P a) (ev P d'))) (dg C k d') D P:=by
  refine cg ?_ (L.at_ k hk);intro a' d0 h1 h2 _;rw [hc] at h1;(refine oY ?_ h1;clear h1;intro e1 e2;subst e1;subst e2);have:=L.upd hk hc h2 hd;unfold dg;refine ah hc ?_;exact this
theorem jI (h:bK C w ks as e){p:Nat}(hp:p<ks.length):ks[p]∉aZ ks as x p:=fun hm=>by
  have h1:=(df h.len).subset hm;refine eu ?_ (List.getElem_of_mem h1);intro t ht he;rw [List.getElem_take] at he;have:=e9 h.nd (by simp at ht;exact w0 ht (Nat.min_le_right _ _)) hp he;simp at ht;lia
theorem oO (h:bK C w ks as e)(p:Nat):(aZ ks as x p).Nodup:=(h.nd.sublist (List.take_sublist _ _)).sublist (df h.len)
noncomputable def mE:ax:=[("thing", .loc none),("value", .loc none),("is_same", .loc none),("first", .loc none),("here", .loc none),("things_of", .glob (.ref 256)),("isinstance", .glob (.bi "isinstance")),("Cons", .glob (.ref 82))]
theorem mQ (hB:B.K=HK Pr)(hn:8≤n)(L:Lk σ C D P)(hx:Ok D x)(hw:Ok D w)(h:bK C w ks as e)(hz:ks.length≤1000)(qE:e≠ .nil→E "wrong-type-argument" σ)
    (q:e= .nil→∀σ',Kp σ σ'→Lk σ' (bq C (aZ ks as x ks.length) .nil) D P→Q (ev P (sJ (aZ ks as x ks.length))) σ'):CV B n (.ref 450) [ev P x,ev P w, .ref 326] Q E σ:=by
  have K:=b9 hB;have hlen:=h.len;refine wv (σ₀:=σ) ?_;refine bg (by assumption) vA rfl (ar hn rfl) ?_;intro n' hn' hp;walk_at "m";refine jN K hp .n rfl ?_;refine wU (af rfl) (aA rfl (af rfl)) ?_;refine⟨aB hB rfl,du hB (aq hn' hn rfl) L hw h hz (fun he l hl=> ?_) fun he=>⟨aH.refl σ,qE he⟩⟩;have hle:aH σ (σ.set l (.list (as.map (ev P)))):=aH.set hl;have L1:Lk (σ.set l (.list (as.map (ev P)))) C D P:=L.le hle;generalize σ.set l (.list (as.map (ev P)))=σ1 at*;refine cx ‹_› ‹_› rfl (fun _=>rfl) (af rfl) ?_;refine ao (cc ?_);refine dz (fun(i:Nat) m σ'=>i≤ks.length∧aZ ks as x i=[]∧m=(bp mE [(some (ev P x)),(some (ev P w)),(some (.ref 326)),(some (ev P (aI ks e i)))])∧σ'=σ1) (fun i=>ks.length-i) ?_ 0 _ _ ⟨xd _,rfl,by refine ah h.zero ?_;rfl,rfl⟩
  intro i m σ';refine dF ?_;rintro hi hk0 rfl hσ;subst hσ;have hok:=h.okPos L1 hw i;have i1:=L1.cls hok;have c1:=h.cellAt i;refine TV.mono (Q:=fun b σ₂=>σ₂=σ'∧(b=true ↔∃hi:i<as.length,as[i]=x)) ?_ ?_
  · refine bR ?_;refine lE ‹_› ‹_› (bh .n (af rfl) (aD rfl (af rfl) (af rfl)) (bB i1 c1)) ?_
    by_cases hlt:i<ks.length
    · refine ah (decide_eq_true hlt) ?_;refine aY ?_ (h.carF L1 hw hlt);intro ha1 a1 a2;have s1:=aR P as[i];refine n9 ‹_› ‹_› .n (af rfl) (aD rfl (af rfl) (cF .n (af rfl) a1 (aO _ _))) (aB ‹_› rfl) ?_;refine kH hB (aq hn' hn rfl) L1 hx (h.okA L1 hw ha1) ⟨_,rfl, ?_⟩
      by_cases hxa:x=as[i]
      · refine ah (decide_eq_true hxa) ?_;exact⟨rfl,by simp;exact⟨ha1,hxa.symm⟩⟩
      · refine ah (decide_eq_false hxa) ?_;exact⟨rfl,by simp;exact fun _ q=>hxa q.symm⟩
    · refine ah (decide_eq_false hlt) ?_;exact⟨(by trivial),by simp;intro h1;exact fun z=>Nat.ne_of_gt (wZ (w8 hlt) h1) hlen⟩
  intro b σ₂;refine uA ?_;intro hσ₂ hb;subst hσ₂
  cases hbb:b
  · rw [hbb] at hb;have hno:∀hi:i<as.length,as[i]≠x:=fun hi he=>by have:=hb.mpr ⟨hi,he⟩;exact ft this
    refine az ?_;refine ay ?_;walk_at "m";refine cx ‹_› ‹_› rfl (fun _=>rfl) (af rfl) ?_;refine ao (cc ?_);have kp1:Kp σ σ₂:=Kp.of hle;refine dz (fun(p:Nat) m σ'=>Kp σ σ'∧((∃(i':Nat) (K:List Nat) (hi':i'<ks.length),i'<p∧p≤ks.length∧aZ ks as x p=K++[ks[i']]∧sJ (aZ ks as x p)=aI ks e i∧Lk σ' (bq C (aZ ks as x p) (aI ks e p)) D P∧m=(bp mE [(some (ev P x)),(some (ev P w)),(some (.ref 326)),(some (ev P (aI ks e i))),(some (ev P (.cell ks[i'])))]))∨
      (p=ks.length+1∧sJ (aZ ks as x ks.length)=aI ks e i∧Lk σ' (bq C (aZ ks as x ks.length) .nil) D P∧m=(bp mE [(some (ev P x)),(some (ev P w)),(some (.ref 326)),(some (ev P (aI ks e i))),(some (ev P e))])))) (fun p=>ks.length+1-p) ?_ (if i<ks.length then i+1 else ks.length+1) _ _ ?_
    · intro p m σ';refine uA ?_;intro kp hcase
      rcases hcase with⟨i',KK,hi',hip,hpl,hkp,hhd,L2,rfl⟩ | ⟨hpe,hhd,L2,rfl⟩
      · have hD:=h.okD L hw hi';have hnd:=oO (x:=x) h p;have hC:(bq C (aZ ks as x p) (aI ks e p))[ks[i']]?=some (as[i']'(og hlen hi'),aI ks e p):=by
          rw [hkp] at hnd⊢;exact jw KK C ks[i'] _ hnd (h.at hi').2
        refine cf ?_ (L2.car hD hC);intro f1 f2 ok1 ok2 hat;rw [show V.ref (P ks[i'])=ev P (.cell ks[i']) from rfl] at f1 f2;have s2:=aR P (aI ks e p);have j1:=L2.cls (w:= .cell ks[i']) hD;have j2:=L2.cls (h.okPos L hw p);have c2:=h.cellAt p;refine cP K hp ?_;refine kE.mk (bh .n (af rfl) (aD rfl (af rfl) (af rfl)) (bB j1 rfl)) ?_
        try rfl
        refine⟨_,rfl,aF ?_⟩;have hnext:∀(hp':p<ks.length),∃(ha:p<as.length),(bq C (aZ ks as x p) (aI ks e p))[ks[p]]?=some (as[p],aI ks e (p+1)):=fun hp'=>by
          refine uE ?_ (h.at hp');intro ha hc;refine⟨ha, ?_⟩
          exact(jx _ _ _ (jI h hp')).trans hc
        refine ao (ew (TV.mono (Q:=fun b σ₂=>σ₂=σ'∧(b=true ↔∃hi:p<as.length,as[p]=x)) (bR (dZ K hp ?_)) ?_))
        · refine kE.mk (bh .n (af rfl) (aD rfl (cF .n (af rfl) f2 (aO _ _)) (af rfl)) (bB j2 c2)) ?_;refine⟨_,rfl, ?_⟩
          by_cases hlt:p<ks.length
          · refine ah (decide_eq_true hlt) ?_;refine uE ?_ (hnext hlt);intro ha1 hcp;refine cf ?_ (L2.car (h.okD L hw hlt) hcp);intro g1 g2 _ _ _;rw [show V.ref (P ks[p])=ev P (.cell ks[p]) from rfl,←aQ (e:=e) hlt] at g1;have s3:=aR P as[p];refine n9 ‹_› ‹_› .n (af rfl) (aD rfl (af rfl) (cF .a (cF .n (af rfl) f2 (aO _ _)) g1 (aO _ _))) (aB ‹_› rfl) ?_;refine kH hB (aq hn' hn rfl) L2 hx (h.okA L hw ha1) ⟨_,rfl, ?_⟩
            by_cases hxa:x=as[p]
            · refine ah (decide_eq_true hxa) ?_;exact⟨rfl,by simp;exact⟨ha1,hxa.symm⟩⟩
            · refine ah (decide_eq_false hxa) ?_;exact⟨rfl,by simp;exact fun _ q=>hxa q.symm⟩
          · refine ah (decide_eq_false hlt) ?_;exact⟨(by trivial),by simp;intro h1;exact fun z=>Nat.ne_of_gt (wZ (w8 hlt) h1) hlen⟩
        · intro b σ₃;refine uA ?_;intro hσ₃ hb;subst hσ₃
          cases hbb:b
          · rw [hbb] at hb;have hno:∀hi:p<as.length,as[p]≠x:=fun hi he=>by have:=hb.mpr ⟨hi,he⟩;exact ft this
            refine az (?_);refine cx ‹_› ‹_› rfl (fun _=>rfl) (cF .n (af rfl) f2 (aO _ _)) ?_;refine aj ?_;refine ay ?_;walk_at "m";refine aj ?_;refine bv ?_
            by_cases hlt:p<ks.length
            · refine⟨p+1,ae hlt,kp, .inl ⟨p,aZ ks as x p,hlt,xk _,hlt, ?_, ?_, ?_, ?_⟩⟩
              · exact(cE hlt (og hlen hlt)).trans (congrArg _ (if_neg (hno (og hlen hlt))))
              · refine ah (cE hlt (og hlen hlt)) (ah (if_neg (hno (og hlen hlt))) (ch hhd (ah hkp ?_)))
                cases KK<;>rfl
              · refine uE ?_ (hnext hlt);intro ha1 hcp;have e1:bq C (aZ ks as x (p+1)) (aI ks e (p+1))=bq C (aZ ks as x p) (aI ks e p):=by
                  refine ah (cE hlt (by exact ha1)) (ah (if_neg (hno (by exact ha1))) (ah hkp ?_));rewrite [gE];refine ch hkp (ah (aQ hlt) ?_);rw [aQ hlt] at hcp;exact ki hcp
                refine ah e1 ?_;exact L2
              · dsimp+zetaDelta only;refine ah (aQ hlt) ?_<;>try rfl
            · have hpl':p=ks.length:=by exact Nat.le_antisymm hpl ((w8 hlt))
              subst hpl';refine⟨ks.length+1,by exact Nat.sub_lt_sub_left (xk _) (xk _),kp, .inr ⟨rfl,hhd, ?_, ?_⟩⟩
              · rw [aP (w6 _),he] at L2;exact L2
              · dsimp+zetaDelta only;refine ah (aP (w6 _)) ?_<;>try rfl
          · rw [hbb] at hb;refine uE ?_ (hb.mp rfl);intro hi1 hxa;have hlt:p<ks.length:=by exact pE hlen hi1
            refine uE ?_ (hnext hlt);intro ha1 hcp;refine cf ?_ (L2.car (h.okD L hw hlt) hcp);intro g1 g2 _ gok _;rw [show V.ref (P ks[p])=ev P (.cell ks[p]) from rfl,←aQ (e:=e) hlt] at g2;have s3:=aR P (aI ks e (p+1));refine aF (ao (cm K (.inr rfl) ?_));refine aE ‹_› ‹_› (by exact cF .a (cF .n (af rfl) f2 (aO _ _)) g2 (aO _ _)) ?_;refine aE ‹_› ‹_› (by exact af rfl) ?_;refine⟨P ks[i'],_,rfl,hat,by simp, ?_⟩
            refine ay ?_;walk_at "m";have hcns:iB [("car",ev P (as[i']'(by exact og hlen hi'))),("cdr",ev P (aI ks e p))] "cdr" (ev P (aI ks e (p+1)))=([("car",ev P (as[i']'(by exact og hlen hi'))),("cdr",ev P (aI ks e (p+1)))]:List (Str×V)):=by simp [iB,mS]
            refine ah hcns ?_;refine aj ?_;refine ay ?_;walk_at "m";refine aj ?_;refine bv ?_;have hks:aZ ks as x (p+1)=aZ ks as x p:=by refine ah (cE hlt hi1) (ah (if_pos hxa) ?_);rewrite [List.append_nil];rfl
            refine⟨p+1,by exact ae hlt,kp.trans (Kp.inst hat), .inl ⟨i',KK,hi',by exact w0 hip (w9 _ _),by exact pE hlen ha1,by refine ah hks ?_;exact hkp,by refine ah hks ?_;exact hhd, ?_,rfl⟩⟩
            have L3:=L2.updD hD hC (h.okPos L hw (p+1));refine ah hks ?_;rw [hkp,gC,←hkp] at L3;exact L3
      · subst hpe;have heok:Ok D e:=by refine ah he ?_;trivial
        have j1:=L2.cls heok;refine cP K hp ?_;refine kE.mk (bh .n (af rfl) (aD rfl (af rfl) (af rfl)) (bB j1 rfl)) ?_;refine ah h.stop ?_;refine⟨_,rfl,az ?_⟩;refine ay ?_;walk_at "m";have q1:=q he σ' kp L2;rw [hhd] at q1;refine aN ‹_› ‹_› (by exact af rfl) ?_;exact q1
    · refine⟨kp1, ?_⟩
      by_cases hlt:i<ks.length
      · refine ah (if_pos hlt) ?_<;>try rfl
        left
        have hks:aZ ks as x (i+1)=[]++[ks[i]]:=by
          exact ah (cE hlt (by exact og hlen hlt)) (ah hk0 (ah (if_neg (hno (by exact og hlen hlt))) rfl))
        refine⟨i,[],hlt,by exact xk _,by exact hlt,hks, ?_, ?_, ?_⟩
        · refine ah hks (ah (aQ hlt) ?_);rfl
        · refine ah hks ?_<;>try rfl
          refine(?_:Lk σ₂ (dg C ks[i] (aI ks e (i+1))) D P)
          refine ah (ki (h.at hlt).2) ?_;exact L1
        · dsimp+zetaDelta only;refine ah (aQ hlt) ?_<;>try rfl
      · refine ah (if_neg hlt) ?_<;>try rfl
        right
        have hie:i=ks.length:=by exact Nat.le_antisymm hi ((w8 hlt))
        subst hie;refine⟨rfl, ?_, ?_, ?_⟩
        · refine ah hk0 (ah (aP (w6 _)) (ah he ?_));rfl
        · refine ah hk0 ?_;exact L1
        · dsimp+zetaDelta only;refine ah (aP (w6 _)) ?_<;>try rfl
  · rw [hbb] at hb;refine uE ?_ (hb.mp rfl);intro hi1 hxa;have hlt:i<ks.length:=by exact pE hlen hi1
    refine aY ?_ (h.carF L1 hw hlt);intro ha1 a1 a2;have s2:=aR P (aI ks e (i+1));refine aF (?_);refine cx ‹_› ‹_› rfl (fun _=>rfl) (by exact cF .n (af rfl) a2 (aO _ _)) ?_;refine aj ?_;refine bv ?_;exact⟨i+1,by exact ad hlt,by exact pE hlen ha1,by refine ah (cE hlt hi1) (ah hk0 (ah (if_pos hxa) ?_));rfl,rfl,(by trivial)⟩
end
end
section
section
variable {B:Bs}{Pr:Params}{n:Nat}{Q:V→AH→Prop}{E:Str→AH→Prop}{σ:AH}{C:St}{D:Nat→Prop}{P:Nat→Addr}{w e x y:W}{ks:List Nat}{as:List W}{al:Addr}{j:Nat}
theorem hU (hB:B.K=HK Pr)(hn:9≤n)(L:Lk σ C D P)(hx:Ok D x)(hw:Ok D w)(h:bK C w ks as e)(hz:ks.length≤1000)(ha:σ al=some (.list [ev P x,ev P w]))(qE:e≠ .nil→E "wrong-type-argument" σ)
    (q:e= .nil→∀σ' D' P',cu σ C D P σ' (C++dO C.length (as.filter (·≠x)).reverse .nil) D' P'→Ok D' (dS C.length (as.filter (·≠x)).length .nil)→Q (ev P' (dS C.length (as.filter (·≠x)).length .nil)) σ'):CV B n (.ref 462) [.none, .ref al] Q E σ:=by
  have K:=b9 hB;have h0:=aT ha;have h1:=bV ha;refine wv (σ₀:=σ) ?_;refine bm (by assumption) vC rfl (ar hn rfl) ?_;intro n' hn' hp;refine aJ (b8 rfl ?_ (fun env=>be .n _ _ env));refine aE ‹_› ‹_› (af rfl) ?_;refine⟨aB hB rfl,cS (dD hB) rfl rfl (bA ?_)⟩;refine cr ‹_› ‹_› .n (af rfl) (aA rfl (av rfl rfl h1)) (aB ‹_› rfl) ?_;refine du hB (aq hn' hn rfl) L hw h hz (fun he l hl=>⟨l,_,rfl, .inl (wq _ _ _),fun Dd hDd=> ?_⟩) fun he=>⟨aH.refl σ,qE he⟩;have hle1:aH σ (σ.set l (.list (as.map (ev P)))):=aH.set hl;have hl1:(σ.set l (.list (as.map (ev P)))) l=some (.list (as.map (ev P))):=wq _ _ _;generalize σ.set l (.list (as.map (ev P)))=σ1 at*;have hleD:∀o,aH σ (σ1.set Dd o):=fun o=>hle1.trans (aH.set hDd);have hne:l≠Dd:=fun q=>by rw [←q,hl1] at hDd;exact sn hDd
  refine cw (xs:=as.map (ev P)) (fun(i:Nat) m σ'=>(∃o,m=([(".0", .loc none),("own", .loc o),("eq", .glob (.ref 326)),("args", .fre (.ref al))]:ax))∧σ'=σ1.set Dd (.list (((as.take i).filter (·≠x)).map (ev P)))) ?_ ?_ ?_ 0 _ _ (xd _) ⟨⟨none,rfl⟩,by first | rfl | simp⟩
  · intro i m σ';refine uA ?_;rintro _ rfl _;exact .inl ((wp hne).trans hl1)
  · intro i v m σ';refine uA ?_;refine uE ?_;rintro o rfl rfl hv;rw [List.getElem?_map] at hv;refine aY ?_ (Option.map_eq_some_iff.mp hv);rintro a hv2 rfl;refine uE ?_ (List.getElem?_eq_some_iff.mp hv2);intro hi hai;have hok:Ok D a:=h.okAs L hw a (hai▸List.getElem_mem _);have hle2:=hleD (.list (((as.take i).filter (·≠x)).map (ev P)));have L2:Lk _ C D P:=L.le hle2;have h2:=aT (hle2 _ _ ha);have hsD:(σ1.set Dd (.list (((as.take i).filter (·≠x)).map (ev P)))) Dd=some (.list (((as.take i).filter (·≠x)).map (ev P))):=wq _ _ _;have hlD:(((as.take i).filter (·≠x)).map (ev P)).length≤1000:=by
      have:=List.length_filter_le (fun z=>decide (z≠x)) (as.take i);have h3:=h.len;simp only [List.length_map,List.length_take] at this⊢;exact Nat.le_of_lt_succ (wZ this (wZ (wV (Nat.min_le_right _ _) (wV (wX h3) hz)) (wW rfl)))
    have hstep:(as.take (i+1)).filter (·≠x)=(as.take i).filter (·≠x)++if a=x then[] else[a]:=by
      refine ch (List.take_append_getElem hi) ?_;rewrite [List.filter_append];refine ah hai ?_
      congr 1
      by_cases q':a=x<;>simp [q']
    refine⟨⟨o,rfl⟩, ?_⟩;refine gJ ?_;refine n9 ‹_› ‹_› .n (by exact af rfl) (by exact aD rfl (av rfl rfl h2) (af rfl)) (aB ‹_› rfl) ?_;refine kH hB (by exact aq hn' hn rfl) L2 hx hok ⟨_,rfl, ?_⟩
    by_cases hxa:x=a
    · refine ah (decide_eq_true hxa) ?_<;>try rfl
      refine⟨⟨_,rfl⟩, ?_⟩;refine ah hstep (ah (if_pos hxa.symm) ?_);rewrite [List.append_nil];rfl
    · refine ah (decide_eq_false hxa) ?_<;>try rfl
      refine aE ‹_› ‹_› (by exact af rfl) ?_;refine⟨_,hsD,by refine ah sizeLine_eq ?_;exact wZ hlD (wW rfl),⟨_,rfl⟩, ?_⟩
      rewrite [wt];refine ah hstep (ah (if_neg (fun q'=>hxa q'.symm)) (ah List.map_append ?_));rfl
  · intro m σ';refine uA ?_;rintro _ rfl;rewrite [List.length_map];refine ah List.take_length ?_;have L2:Lk _ C D P:=L.le (hleD (.list ((as.filter (·≠x)).map (ev P))));have hlen:=List.length_filter_le (fun z=>decide (z≠x)) as;refine dH hB (by exact aq hn' hn rfl) L2 (wq _ _ _) (by have h3:=h.len;exact Nat.le_of_lt_succ (wZ (wV hlen (wV (wX h3) hz)) (wW rfl))) (fun a ha'=>h.okAs L hw a (List.mem_filter.mp ha').1) fun σ' D' P' G hok=>q he σ' D' P' (G.pre_le (hleD _)) hok
theorem fo (hB:B.K=HK Pr)(hn:10≤n)(L:Lk σ C D P)(hx:Ok D x)(hw:Ok D w)(h:bK C w ks as e)(ha:σ al=some (.list [ev P x,ev P w]))
    (qE:(∀a∈as,decide (x=a)=false)→e≠ .nil→E "wrong-type-argument" σ)
    (q:∀i (hi:i<as.length),decide (x=as[i])=true→(∀i' (hi':i'<as.length),i'<i→decide (x=as[i'])=false)→Q (ev P (aI ks e i)) σ)
    (q0:(∀a∈as,decide (x=a)=false)→e= .nil→Q (.ref 64) σ):CV B n (.ref 429) [.none, .ref al] Q E σ:=by
  have K:=b9 hB;have h0:=aT ha;have h1:=bV ha;refine bm (by assumption) vx rfl (ar hn rfl) ?_;intro n' hn' hp;refine cA ‹_› ‹_› .n (af rfl) (bG rfl (av rfl rfl h0) (av rfl rfl h1) (af rfl)) (aB ‹_› rfl) ?_;exact ie hB (aq hn' hn rfl) L hx hw h (fun a=>decide (x=a)) (aB hB rfl) (fun a ha' R n'' hn'' hR=>kH hB (w8 (fun z=>xn (wZ (wV (wX hn') (xc (wV hn'' (xc (wY z) _)) _)) (wW rfl)) hn)) L hx (h.okAs L hw a ha') hR) qE q q0
theorem eh (hB:B.K=HK Pr)(hn:10≤n)(L:Lk σ C D P)(hx:Ok D x)(hw:Ok D w)(h:bK C w ks as e)(ha:σ al=some (.list [ev P x,ev P w]))(f:W→Bool)(hf:∀a∈as,∃k,br C x a (f a) k∧k≤100000)
    (qE:(∀a∈as,f a=false)→e≠ .nil→E "wrong-type-argument" σ)
    (q:∀i (hi:i<as.length),f as[i]=true→(∀i' (hi':i'<as.length),i'<i→f as[i']=false)→Q (ev P (aI ks e i)) σ)
    (q0:(∀a∈as,f a=false)→e= .nil→Q (.ref 64) σ):CV B n (.ref 436) [.none, .ref al] Q E σ:=by
  have K:=b9 hB;have h0:=aT ha;have h1:=bV ha;refine bm (by assumption) vy rfl (ar hn rfl) ?_;intro n' hn' hp;refine cA ‹_› ‹_› .n (af rfl) (bG rfl (av rfl rfl h0) (av rfl rfl h1) (af rfl)) (aB ‹_› rfl) ?_;refine ie hB (aq hn' hn rfl) L hx hw h f (aB hB rfl) (fun a ha' R n'' hn'' hR=> ?_) qE q q0;refine aY ?_ (hf a ha');intro k h2 h3;exact nC hB (w8 (fun z=>xn (wZ (wV (wX hn') (xc (wV hn'' (xc (wY z) _)) _)) (wW rfl)) hn)) L hx (h.okAs L hw a ha') h2 h3 hR
theorem gY (hB:B.K=HK Pr)(hn:9≤n)(L:Lk σ C D P)(hx:Ok D x)(hw:Ok D w)(h:bK C w ks as e)(hz:ks.length≤1000)(ha:σ al=some (.list [ev P x,ev P w]))(qE:e≠ .nil→E "wrong-type-argument" σ)
    (q:e= .nil→∀σ',Kp σ σ'→Lk σ' (bq C (aZ ks as x ks.length) .nil) D P→Q (ev P (sJ (aZ ks as x ks.length))) σ'):CV B n (.ref 457) [.none, .ref al] Q E σ:=by
  have K:=b9 hB;have h0:=aT ha;have h1:=bV ha;refine bm (by assumption) vB rfl (ar hn rfl) ?_;intro n' hn' hp;refine cA ‹_› ‹_› .n (af rfl) (bG rfl (av rfl rfl h0) (av rfl rfl h1) (af rfl)) (aB ‹_› rfl) ?_;exact mQ hB (aq hn' hn rfl) L hx hw h hz qE q
theorem fk (hB:B.K=HK Pr)(hn:10≤n)(L:Lk σ C D P)(hx:Ok D x)(hw:Ok D w)(h:bK C w ks as e)(hz:ks.length≤1000)(ha:σ al=some (.list [ev P x,ev P w]))
    (qE:e≠ .nil→E "wrong-type-argument" σ)
    (q:e= .nil→∀i (hi:i<as.length),aG C false (fun a=>decide (x=a)) as[i]=true→(∀i' (hi':i'<as.length),i'<i→aG C false (fun a=>decide (x=a)) as[i']=false)→Q (ev P as[i]) σ)
    (q0:e= .nil→(∀a∈as,aG C false (fun a=>decide (x=a)) a=false)→Q (.ref 64) σ):CV B n (.ref 476) [.none, .ref al] Q E σ:=by
  have K:=b9 hB;have h0:=aT ha;have h1:=bV ha;refine bm (by assumption) vE rfl (ar hn rfl) ?_;intro n' hn' hp;refine cA ‹_› ‹_› .n (af rfl) (d6 rfl (av rfl rfl h0) (av rfl rfl h1) (af rfl) (ak rfl)) (aB ‹_› rfl) ?_;refine fp hB (aq hn' hn rfl) L hx hw h hz (fun a=>decide (x=a)) (bc:=false) (aB hB rfl) (fun k a d hm hc σ' hle R E' n'' hn'' hR=> ?_) qE q q0;have L2:=L.le hle;refine cf ?_ (L.car (h.okAs L hw _ hm:D k) hc);intro _ _ ok1 ok2 _;exact kH hB (w8 (fun z=>xn (wZ (wV (wX hn') (xc (wV hn'' (xc (wY z) _)) _)) (wW rfl)) hn)) L2 hx (by first | exact ok1 | exact ok2) hR
theorem eV (hB:B.K=HK Pr)(hn:10≤n)(L:Lk σ C D P)(hx:Ok D x)(hw:Ok D w)(h:bK C w ks as e)(hz:ks.length≤1000)(ha:σ al=some (.list [ev P x,ev P w]))
    (qE:e≠ .nil→E "wrong-type-argument" σ)
    (q:e= .nil→∀i (hi:i<as.length),aG C true (fun a=>decide (x=a)) as[i]=true→(∀i' (hi':i'<as.length),i'<i→aG C true (fun a=>decide (x=a)) as[i']=false)→Q (ev P as[i]) σ)
    (q0:e= .nil→(∀a∈as,aG C true (fun a=>decide (x=a)) a=false)→Q (.ref 64) σ):CV B n (.ref 490) [.none, .ref al] Q E σ:=by
  have K:=b9 hB;have h0:=aT ha;have h1:=bV ha;refine bm (by assumption) vG rfl (ar hn rfl) ?_;intro n' hn' hp;refine cA ‹_› ‹_› .n (af rfl) (d6 rfl (av rfl rfl h0) (av rfl rfl h1) (af rfl) (ak rfl)) (aB ‹_› rfl) ?_;refine fp hB (aq hn' hn rfl) L hx hw h hz (fun a=>decide (x=a)) (bc:=true) (aB hB rfl) (fun k a d hm hc σ' hle R E' n'' hn'' hR=> ?_) qE q q0;have L2:=L.le hle;refine cf ?_ (L.car (h.okAs L hw _ hm:D k) hc);intro _ _ ok1 ok2 _;exact kH hB (w8 (fun z=>xn (wZ (wV (wX hn') (xc (wV hn'' (xc (wY z) _)) _)) (wW rfl)) hn)) L2 hx (by first | exact ok1 | exact ok2) hR
theorem eQ (hB:B.K=HK Pr)(hn:10≤n)(L:Lk σ C D P)(hx:Ok D x)(hw:Ok D w)(h:bK C w ks as e)(hz:ks.length≤1000)(ha:σ al=some (.list [ev P x,ev P w]))(f:W→Bool)(hf:∀k a d, .cell k∈as→C[k]?=some (a,d)→∃n,br C x a (f a) n∧n≤100000)
    (qE:e≠ .nil→E "wrong-type-argument" σ)
    (q:e= .nil→∀i (hi:i<as.length),aG C false f as[i]=true→(∀i' (hi':i'<as.length),i'<i→aG C false f as[i']=false)→Q (ev P as[i]) σ)
    (q0:e= .nil→(∀a∈as,aG C false f a=false)→Q (.ref 64) σ):CV B n (.ref 483) [.none, .ref al] Q E σ:=by
  have K:=b9 hB;have h0:=aT ha;have h1:=bV ha;refine bm (by assumption) vF rfl (ar hn rfl) ?_;intro n' hn' hp;refine cA ‹_› ‹_› .n (af rfl) (d6 rfl (av rfl rfl h0) (av rfl rfl h1) (af rfl) (ak rfl)) (aB ‹_› rfl) ?_;refine fp hB (aq hn' hn rfl) L hx hw h hz f (bc:=false) (aB hB rfl) (fun k a d hm hc σ' hle R E' n'' hn'' hR=> ?_) qE q q0;have L2:=L.le hle;refine cf ?_ (L.car (h.okAs L hw _ hm:D k) hc);intro _ _ ok1 ok2 _;refine aY ?_ (hf k a d hm hc);intro m h2 h3;exact nC hB (w8 (fun z=>xn (wZ (wV (wX hn') (xc (wV hn'' (xc (wY z) _)) _)) (wW rfl)) hn)) L2 hx ok1 h2 h3 hR
end
end
section
theorem o0 {elt:Expr}{gens:List Comprehension}{scope:Scope}{pos py:Pos}{y:Str}{line:Nat}(hl:(py.line==pos.line)=true)(hn:(scope.names.any fun(n,k)=>n==y&&(k== .local || k== .cell))=false)(env:Env)(hk:env.scope.kind= .function)(hy:env.kindOf y=some .local):
    swapsWith (.ListComp elt gens scope pos) (some (.Name y py)) line env=pure true:=by
  have hb:env.blockKind= .function:=by unfold Env.blockKind;refine ah hk ?_;rfl
  unfold swapsWith
  refine(?_:(pure (env.blockKind== .function&&env.kindOf y==some .local&&py.line==pos.line&& !(scope.names.any fun(n,k)=>n==y&&(k== .local || k== .cell))):Sem Bool)=pure true)
  refine ah hb (ah hy (ah hl (ah hn ?_)));rfl
section
variable {B:Bs}{Pr:Params}{n:Nat}{Q:V→AH→Prop}{E:Str→AH→Prop}{σ:AH}{C:St}{D:Nat→Prop}{P:Nat→Addr}{w e x y:W}{ks:List Nat}{as:List W}{al:Addr}{j:Nat}
theorem lO (C:St)(as:List W){i:Nat}(hi:i<as.length):cW C (as.take (i+1))=ez C C.length (cW C (as.take i)) as[i]:=by
  unfold cW;refine ch (List.take_append_getElem hi) (ah List.foldl_append ?_);rfl
theorem cu.setOut {σ':AH}{C':St}{D':Nat→Prop}{P':Nat→Addr}{d:Addr}{xs ys:List V}(G:cu σ C D P σ' C' D' P')(h1:σ d=none)(h2:σ' d=some (.list xs)):cu σ C D P (σ'.set d (.list ys)) C' D' P':=by
  refine⟨fun a o ho=> ?_,G.pre,G.dom,G.at_, ?_⟩
  · by_cases qa:a=d
    · subst qa;rw [h1] at ho;exact nn ho
    · exact(wp qa).trans (G.le a o ho)
  · refine⟨(wp fun q=>by rw [←q,G.lk.nil] at h2;cases h2).trans G.lk.nil,fun k hk=> ?_,G.lk.inj⟩;refine bk ?_ (G.lk.at_ k hk);intro a b e1 e2 e3 e4;exact⟨a,b,e1,e2,e3,(wp fun q=>by rw [←q,e4] at h2;cases h2).trans e4⟩
noncomputable def rX:ax:=[(".0", .loc none),("own", .loc none),("isinstance", .glob (.bi "isinstance")),("Cons", .glob (.ref 82))]
theorem d5 (hB:B.K=HK Pr)(hn:9≤n)(L:Lk σ C D P)(hw:Ok D w)(h:bK C w ks as e)(hz:ks.length≤1000)(ha:σ al=some (.list [ev P w]))(qE:e≠ .nil→E "wrong-type-argument" σ)
    (q:e= .nil→∀σ' D' P',cu σ C D P σ' (C++(cW C as).1++dO (C.length+(cW C as).1.length) (cW C as).2.reverse .nil) D' P'→Ok D' (dS (C.length+(cW C as).1.length) as.length .nil)→Q (ev P' (dS (C.length+(cW C as).1.length) as.length .nil)) σ'):CV B n (.ref 495) [.none, .ref al] Q E σ:=by
  have K:=b9 hB;have h0:=aT ha;refine wv (σ₀:=σ) ?_;refine bm (by assumption) vH rfl (ar hn rfl) ?_;intro n' hn' hp;walk_at "m";refine ao (bj (dD hB) rfl rfl rfl (fun env hk hy=>o0 rfl rfl env hk hy) (bA ?_));refine cr ‹_› ‹_› .n (af rfl) (aA rfl (av rfl rfl h0)) (aB ‹_› rfl) ?_;refine du hB (aq hn' hn rfl) L hw h hz (fun he l hl=>⟨l,_,rfl, .inl (wq _ _ _),fun Dd hDd=> ?_⟩) fun he=>⟨aH.refl σ,qE he⟩;have hle1:aH σ (σ.set l (.list (as.map (ev P)))):=aH.set hl;have hl1:(σ.set l (.list (as.map (ev P)))) l=some (.list (as.map (ev P))):=wq _ _ _;generalize σ.set l (.list (as.map (ev P)))=σ1 at*;have hne:l≠Dd:=fun q=>by rw [←q,hl1] at hDd;exact sn hDd
  have L1:Lk σ1 C D P:=L.le hle1;have hD0:∀o,aH σ1 (σ1.set Dd o):=fun o=>aH.set hDd;refine cw (xs:=as.map (ev P)) (fun(i:Nat) m σ'=>(∃o,m=(bp rX [none,o]))∧
    ∃D' P',cu σ1 C D P σ' (C++(cW C (as.take i)).1) D' P'∧(∀b∈(cW C (as.take i)).2,Ok D' b)∧σ' Dd=some (.list ((cW C (as.take i)).2.map (ev P')))) ?_ ?_ ?_ 0 _ _ (xd _) ⟨⟨none,rfl⟩,D,P, ?_, ?_, ?_⟩
  · intro i m σ';refine lj ?_;intro _ D' P' G _ _ _;exact .inl (G.le _ _ hl1)
  · intro i v m σ';refine lj ?_;refine uE ?_;rintro o rfl D' P' G hoks hsD hv;rw [List.getElem?_map] at hv;refine aY ?_ (Option.map_eq_some_iff.mp hv);rintro a hv2 rfl;refine uE ?_ (List.getElem?_eq_some_iff.mp hv2);intro hi hai;have hok:Ok D a:=h.okAs L hw a (hai▸List.getElem_mem _);have hcl:=e7 C (as.take i);have h3:=h.len;have hlD:(((cW C (as.take i)).2).map (ev P')).length<sizeLine:=by
      rewrite [List.length_map];refine ah hcl (ah List.length_take (ah sizeLine_eq ?_));exact wZ (wV (Nat.min_le_right _ _) (wV (wX h3) hz)) (wW rfl)
    have hstep:=lO C as hi;rw [hai] at hstep;have hmap:∀(σ2:AH) (D2:Nat→Prop) (P2:Nat→Addr) (C2:St),cu σ' (C++(cW C (as.take i)).1) D' P' σ2 C2 D2 P2→(cW C (as.take i)).2.map (ev P')=(cW C (as.take i)).2.map (ev P2):=fun σ2 D2 P2 C2 G2=>by
      apply List.map_congr_left;intro b hb
      exact(G2.evq (hoks b hb)).symm
    refine⟨⟨o,rfl⟩, ?_⟩;have hev:ev P' a=ev P a:=G.evq hok;have i1:=G.lk.cls (G.okq hok);rw [hev] at i1;refine aV (cP K hp ?_);refine kE.mk (bh .n (af rfl) (aD rfl (af rfl) (af rfl)) (bB i1 rfl)) ?_
    try rw [wK]
    refine⟨_,rfl, ?_⟩
    cases a with
    | cell k=>
      refine bk ?_ (L.at_ k hok);intro pa pd g1 g2 g3 _;have g1':(C++(cW C (as.take i)).1)[k]?=some (pa,pd):=by exact(List.getElem?_append_left (L.lt hok)).trans g1
      refine cf ?_ (G.lk.car (G.okq hok:D' k) g1');intro f1 f2 ok1 ok2 _;rw [show V.ref (P' k)=ev P' (.cell k) from rfl,hev] at f1 f2;have s1:=aR P' pa;have s2:=aR P' pd;refine aF ?_;refine cr ‹_› ‹_› .n (af rfl) (aD rfl (cF .n (af rfl) f1 (aO _ _)) (cF .n (af rfl) f2 (aO _ _))) (aB ‹_› rfl) ?_;refine ku hB (aq hn' hn rfl) fun c hc=> ?_;have G1:=cu.one G.lk ok1 ok2 hc;have hst:ez C C.length (cW C (as.take i)) (.cell k)=((cW C (as.take i)).1++[(pa,pd)],(cW C (as.take i)).2++[.cell (C.length+(cW C (as.take i)).1.length)]):=by
        unfold ez;simp only [g1]
      have hlen:(C++(cW C (as.take i)).1).length=C.length+(cW C (as.take i)).1.length:=by exact List.length_append
      rw [hlen] at G1;have hG2:=G.trans G1;rw [List.append_assoc] at hG2;have hsD1:=G1.le _ _ hsD;refine⟨_,hsD1,hlD,⟨_,rfl⟩,(fun k=>D' k∨k=C.length+(cW C (as.take i)).1.length),(fun k=>if k=C.length+(cW C (as.take i)).1.length then c else P' k), ?_, ?_, ?_⟩
      · refine ah hstep (ah hst ?_)<;>try rfl
        exact hG2.setOut hDd hsD1
      · refine ah hstep (ah hst ?_)<;>try rfl
        intro b hb
        rcases List.mem_append.mp hb with hb | hb
        · exact G1.okq (hoks b hb)
        · refine ah (List.mem_singleton.mp hb) ?_;exact .inr rfl
      · (refine ah hstep (ah hst ?_);rewrite [wq];refine ah List.map_append (ah (hmap _ _ _ _ G1) ?_))<;>try rfl
        simp only [List.map_cons,List.map_nil,ev,if_true]
    | num z=>
      refine az ?_;refine aE ‹_› ‹_› (by exact af rfl) ?_;refine⟨_,hsD,hlD,⟨_,rfl⟩,D',P', ?_, ?_, ?_⟩
      · refine ah hstep ?_;exact G.setOut hDd hsD
      · refine ah hstep ?_<;>try rfl
        intro b hb
        rcases List.mem_append.mp hb with hb | hb
        · exact hoks b hb
        · refine ah (List.mem_singleton.mp hb) ?_;trivial
      · (refine ah hstep ?_;rewrite [wq])<;>try rfl
        refine(?_:_=some (bL.list (((cW C (as.take i)).2++[W.num z]).map (ev P'))))
        refine ah List.map_append ?_;rfl
    | nil=>
      refine az ?_;refine aE ‹_› ‹_› (by exact af rfl) ?_;refine⟨_,hsD,hlD,⟨_,rfl⟩,D',P', ?_, ?_, ?_⟩
      · refine ah hstep ?_;exact G.setOut hDd hsD
      · refine ah hstep ?_<;>try rfl
        intro b hb
        rcases List.mem_append.mp hb with hb | hb
        · exact hoks b hb
        · refine ah (List.mem_singleton.mp hb) ?_;trivial
      · (refine ah hstep ?_;rewrite [wq])<;>try rfl
        refine(?_:_=some (bL.list (((cW C (as.take i)).2++[W.nil]).map (ev P'))))
        refine ah List.map_append ?_;rfl
  · intro m σ';refine lj ?_;intro _ D' P' G hoks hsD;rw [List.length_map,List.take_length] at G hoks hsD;refine ay ?_;walk_at "m";have hcl:=e7 C as;have h3:=h.len;refine cA ‹_› ‹_› .n (by exact af rfl) (by exact aA rfl (af rfl)) (aB ‹_› rfl) ?_;refine dH hB (by exact aq hn' hn rfl) G.lk hsD (by exact wV (wX hcl) (wV (wX h3) hz)) hoks fun σ'' D'' P'' G' hok=> ?_;have hlen:(C++(cW C as).1).length=C.length+(cW C as).1.length:=by exact List.length_append
    rw [hlen] at G';rw [hlen,hcl] at hok⊢;exact q he σ'' D'' P'' ((G.trans G').pre_le hle1) hok
  · simp only [List.take_zero,cW,List.foldl_nil,List.append_nil];exact⟨hD0 _,⟨[],by simp⟩,fun k=>⟨.inl,fun h=>h.elim id fun h=>absurd h.2 (Nat.not_lt.mpr h.1)⟩,fun _ _=>rfl,L1.le (hD0 _)⟩
  · intro b hb;simp [cW] at hb
  · simp only [List.take_zero,cW,List.foldl_nil,List.map_nil];exact wq _ _ _
end
end
section
noncomputable def W.v (w:W):V:=match w with
  | .num i=> .tup [.str "number", .int i]
  | .nil=> .tup [.str "nil"]
  | .cell k=> .tup [.str "cell", .int k]
noncomputable def W.tag (w:W):Str:=match w with
  | .num _=>"number" | .nil=>"nil" | .cell _=>"cell"
theorem wT (σ:AH)(w:W):eJ σ w.v (.int 0) (.str w.tag):=by cases w<;>exact .t rfl
theorem wP (σ:AH)(k:Nat):eJ σ (W.cell k).v (.int 1) (.int k):= .t rfl
theorem wS (σ:AH)(i:Int):eJ σ (W.num i).v (.int 1) (.int i):= .t rfl
theorem wM (w:W):(w.tag==Str.ofString "cell")=w.isCell:=by
  cases w<;>simp only [W.tag,W.isCell,cG]<;>decide
theorem wO (w:W):(w.tag==Str.ofString "number")= !(w.isCell || decide (w= .nil)):=by
  cases w<;>simp only [W.tag,W.isCell,cG]<;>first | decide | rfl
theorem wN (w:W):(w.tag==Str.ofString "nil")=decide (w= .nil):=by
  cases w<;>simp only [W.tag,cG]<;>first | decide | rfl
theorem mw.t' {σ:AH}{xs ys:List V}{b c:Bool}(h:qt xs ys b)(e:b=c):mw σ (.tup xs) (.tup ys) c:=e▸ .t h
theorem W.eqv (σ:AH)(w v:W):mw σ w.v v.v (decide (w=v)):=by
  have ne:∀{a b:String} {x:Bool},(a==b)=false→((Str.ofString a==Str.ofString b)&&x)=false:=fun h=>by rewrite [cG];refine ah h ?_;rfl
  have eq:∀{a:Str} {x:Bool},((a==a)&&x)=x:=fun{a x}=>by rw [beq_self_eq_true];rfl
  cases w with
  | num i=>cases v with
    | num j=>exact .t' (.c (.s _ _) (.c (.i i j) .n)) (eq.trans ((Bool.and_true _).trans (Bool.eq_iff_iff.mpr (by rewrite [beq_iff_eq];refine ah decide_eq_true_eq ?_;exact⟨congrArg W.num,W.num.inj⟩))))
    | nil=>exact .t' (.c (.s _ _) .r) (Bool.and_false _)
    | cell j=>exact .t' (.c (.s _ _) (.c (.i _ _) .n)) (ne rfl)
  | nil=>cases v with
    | num j=>exact .t' (.c (.s _ _) .l) (Bool.and_false _)
    | nil=>exact .t' (.c (.s _ _) .n) eq
    | cell j=>exact .t' (.c (.s _ _) .l) (Bool.and_false _)
  | cell i=>cases v with
    | num j=>exact .t' (.c (.s _ _) (.c (.i _ _) .n)) (ne rfl)
    | nil=>exact .t' (.c (.s _ _) .r) (Bool.and_false _)
    | cell j=>exact .t' (.c (.s _ _) (.c (.i i j) .n)) (eq.trans ((Bool.and_true _).trans (Bool.eq_iff_iff.mpr (by rewrite [beq_iff_eq];refine ah decide_eq_true_eq ?_;exact⟨fun h=>congrArg W.cell (Int.ofNat.inj h),fun h=>congrArg _ (W.cell.inj h)⟩))))
theorem wQ (w:W):w.v.kind=4:=by cases w<;>rfl
theorem wR (σ:AH)(w:W):jF σ w.v .none false:= .f (wQ w)
structure CS (σ:AH)(st Lc Lp Lo:Addr)(ls:List Addr)(C:St):Prop where
  st:σ st=some (.sdict [("cells", .ref Lc),("pairs", .ref Lp),("pool", .ref Lo)])
  cells:σ Lc=some (.list (ls.map V.ref))
  len:ls.length=C.length
  at_:∀(k:Nat) a d,C[k]?=some (a,d)→∃b,ls[k]?=some b∧σ b=some (.list [a.v,d.v])
  nd:ls.Nodup
section
variable {σ σ':AH}{st Lc Lp Lo:Addr}{ls:List Addr}{C:St}
theorem CS.le (S:CS σ st Lc Lp Lo ls C)(h:aH σ σ'):CS σ' st Lc Lp Lo ls C:=
  ⟨h _ _ S.st,h _ _ S.cells,S.len,fun k a d e=>let ⟨b,h1,h2⟩:=S.at_ k a d e;⟨b,h1,h _ _ h2⟩,S.nd⟩
theorem CS.iC (S:CS σ st Lc Lp Lo ls C):eJ σ (.ref st) (.str "cells") (.ref Lc):= .s S.st (if_pos rfl)
theorem CS.iP (S:CS σ st Lc Lp Lo ls C):eJ σ (.ref st) (.str "pairs") (.ref Lp):= .s S.st ((if_neg (by rw [ba];decide)).trans (if_pos rfl))
theorem CS.iO (S:CS σ st Lc Lp Lo ls C):eJ σ (.ref st) (.str "pool") (.ref Lo):= .s S.st ((if_neg (by rw [ba];decide)).trans ((if_neg (by rw [ba];decide)).trans (if_pos rfl)))
theorem CS.iK (S:CS σ st Lc Lp Lo ls C){k:Nat}{a d:W}(h:C[k]?=some (a,d)):∃b,ls[k]?=some b∧eJ σ (.ref Lc) (.int k) (.ref b)∧eJ σ (.ref b) (.int 0) a.v∧eJ σ (.ref b) (.int 1) d.v∧σ b=some (.list [a.v,d.v]):=by
  refine aY ?_ (S.at_ k a d h);intro b h1 h2;exact⟨b,h1, .nat S.cells (by refine ah List.getElem?_map (ah h1 ?_);rfl), .l (.inl h2) rfl, .l (.inl h2) rfl,h2⟩
theorem CS.lenF (S:CS σ st Lc Lp Lo ls C):nw σ (.ref Lc) (C.length:Int):= .l' S.cells (by rewrite [List.length_map];exact ah S.len rfl)
theorem CS.ne (S:CS σ st Lc Lp Lo ls C){b:Addr}(h:b∈ls):b≠Lc∧b≠st∧σ b≠none:=by
  refine eu ?_ (List.getElem_of_mem h);rintro k hk rfl;have hk':k<C.length:=by refine ch S.len ?_;exact hk
  refine aY ?_ (S.at_ k (C[k]).1 (C[k]).2 (w7 hk'));intro b h1 h2;rw [w7 hk] at h1
  (refine sj ?_ h1;clear h1;intro e1;subst e1)
  refine⟨fun q=> ?_,fun q=> ?_,fun q=> ?_⟩
  · rw [q,S.cells] at h2
    have h3:=congrArg (fun o=>match o with | some (bL.list (x::_))=>(match x with | .tup _=>true | _=>false) | _=>false) h2
    cases e:ls with
    | nil=>rw [e] at hk;exact absurd hk (xh _)
    | cons x xs=>
      rw [e] at h3
      cases hc:(C[k]).1<;>rw [hc] at h3<;>exact ft h3
  · rw [q,S.st] at h2;cases h2
  · rw [q] at h2;exact nn h2
end
structure aU (σ:AH)(st Lc Lp Lo:Addr)(ls:List Addr)(C:St)(σ':AH)(ls':List Addr)(C':St):Prop where
  cs:CS σ' st Lc Lp Lo ls' C'
  fr:∀a o,σ a=some o→a≠Lc→a∉ls→σ' a=some o
  new:∀b∈ls',b∈ls∨σ b=none
section
variable {σ σ' σ'':AH}{st Lc Lp Lo:Addr}{ls ls' ls'':List Addr}{C C' C'':St}
theorem aU.refl (S:CS σ st Lc Lp Lo ls C):aU σ st Lc Lp Lo ls C σ ls C:=⟨S,fun _ _ h _ _=>h,fun _ h=> .inl h⟩
theorem aU.trans (x:aU σ st Lc Lp Lo ls C σ' ls' C')(y:aU σ' st Lc Lp Lo ls' C' σ'' ls'' C'')(hLc:σ Lc≠none):aU σ st Lc Lp Lo ls C σ'' ls'' C'':=by
  refine⟨y.cs,fun a o h h1 h2=>y.fr a o (x.fr a o h h1 h2) h1 fun q=> ?_,fun b hb=> ?_⟩
  · rcases x.new a q with h3 | h3
    · exact h2 h3
    · rw [h] at h3;exact sn h3
  · rcases y.new b hb with h3 | h3
    · exact x.new b h3
    · cases e:σ b with
      | none=>exact .inr rfl
      | some o=>
        by_cases q1:b∈ls
        · exact .inl q1
        · by_cases q2:b=Lc
          · rw [q2,x.cs.cells] at h3;exact sn h3
          · rw [x.fr b o e q2 q1] at h3;exact sn h3
theorem aU.le {σ₀:AH}(x:aU σ st Lc Lp Lo ls C σ' ls' C')(h:aH σ₀ σ):aU σ₀ st Lc Lp Lo ls C σ' ls' C':=
  ⟨x.cs,fun a o e h1 h2=>x.fr a o (h _ _ e) h1 h2,fun b hb=>by
    rcases x.new b hb with h3 | h3
    · exact .inl h3
    · cases e:σ₀ b with
      | none=>exact .inr rfl
      | some o=>rw [h _ _ e] at h3;exact sn h3⟩
end
end
section
section
variable {B:Bs}{Pr:Params}{n:Nat}{Q:V→AH→Prop}{E:Str→AH→Prop}{σ:AH}{st Lc Lp Lo:Addr}{ls:List Addr}{C:St}{w x y e:W}{ks:List Nat}{as:List W}
theorem lC {m:ax}{Q:cM→ax→AH→Prop}{rest:List Stmt}{o e:Expr}{ap pos cpos:Pos}(K:KO B.K)(hn:0<n)(hb:AB o)(hst:bo [e]=true)(hp:(ap.endLine==cpos.line)=true)
    (h:kE m σ o fun ov=>∃a xs,ov= .ref a∧σ a=some (.list xs)∧EV B n m e (fun v σ'=>∃xs,σ' a=some (.list xs)∧xs.length<sizeLine∧bu B n m rest Q E (σ'.set a (.list (xs++[v])))) E σ):bu B n m (.Expr (.Call (.Attribute o "append" ap) [e] [] cpos) pos::rest) Q E σ:=by
  refine aY ?_ h;clear h;intro ov h1;refine cg ?_;rintro a xs rfl h4 h5;refine ao (iH (cb hb hst (by simp) hp (h1.ev K hn ⟨"list.append", ?_, ?_⟩)))
  · exact .append h4
  · exact EV.mono h5 fun v σ' ⟨ys,h6,h7,h8⟩=>gI h6 h7 h8
theorem CS.add (S:CS σ st Lc Lp Lo ls C){b:Addr}(hb:σ b=none)(x y:W):aU σ st Lc Lp Lo ls C ((σ.set b (.list [x.v,y.v])).set Lc (.list ((ls++[b]).map V.ref))) (ls++[b]) (C++[(x,y)]):=by
  have hbL:b≠Lc:=fun q=>by rw [q,S.cells] at hb;exact sn hb
  have hbs:b≠st:=fun q=>by rw [q,S.st] at hb;exact sn hb
  have hbl:b∉ls:=fun q=>(S.ne q).2.2 hb;have hst:st≠Lc:=fun q=>by have:=S.st;rw [q,S.cells] at this;cases this
  have keep:∀a o,σ a=some o→a≠Lc→((σ.set b (.list [x.v,y.v])).set Lc (.list ((ls++[b]).map V.ref))) a=some o:=fun a o h h1=>by
    refine ah (wp h1) (ah (wp (fun q=>by rw [q,hb] at h;cases h)) ?_);exact h
  refine⟨⟨keep _ _ S.st hst,wq _ _ _,by simp [S.len],fun k a d h=> ?_, ?_⟩,fun a o h h1 _=>keep a o h h1,fun c hc=> ?_⟩
  · by_cases hk:k<C.length
    · rw [List.getElem?_append_left hk] at h;refine aY ?_ (S.at_ k a d h);intro c h1 h2;have hm:c∈ls:=List.mem_of_getElem? h1;exact⟨c,by exact(List.getElem?_append_left (by rw [S.len];exact hk)).trans h1,keep _ _ h2 (S.ne hm).1⟩
    · rw [List.getElem?_append_right ((w8 hk))] at h;have hk':k-C.length=0:=by
        rcases Nat.eq_zero_or_pos (k-C.length) with q | q
        · exact q
        · rw [List.getElem?_eq_none (by simp;exact ar q rfl)] at h;exact nn h
      rw [hk'] at h;simp only [List.getElem?_cons_zero,Option.some.injEq,Prod.mk.injEq] at h;refine uA ?_ h;clear h;rintro rfl rfl;refine⟨b, ?_,(wp hbL).trans (wq _ _ _)⟩;refine ah (List.getElem?_append_right (by rw [S.len];exact(w8 hk))) (ah S.len (ah hk' ?_));rfl
  · rw [List.nodup_append];refine⟨S.nd,by simp, ?_⟩
    intro p hp q hq;refine ah (List.mem_singleton.mp hq) ?_;exact fun r=>hbl (r▸hp)
  · rcases List.mem_append.mp hc with h | h
    · exact .inl h
    · refine ah (List.mem_singleton.mp h) ?_;exact .inr hb
theorem fX (hB:B.K=HK Pr)(hn:2≤n)(S:CS σ st Lc Lp Lo ls C)(hz:C.length<1000)
    (q:∀σ' ls',aU σ st Lc Lp Lo ls C σ' ls' (C++[(x,y)])→Q (W.cell C.length).v σ'):CV B n (.ref 514) [.ref st,x.v,y.v] Q E σ:=by
  have K:=b9 hB;refine bg (by assumption) vK rfl hn ?_;intro n' hn' hp;have i1:=S.iC;refine lC K hp .s rfl rfl ?_;refine kE.mk (av rfl rfl i1) ?_;refine⟨Lc,_,rfl,S.cells,a9 rfl (by simp) ?_⟩;refine aE ‹_› ‹_› (af rfl) ?_;refine aE ‹_› ‹_› (af rfl) ?_;intro b hb;have hbL:b≠Lc:=fun q=>by rw [q,S.cells] at hb;exact sn hb
  refine⟨_,(wp (Ne.symm hbL)).trans S.cells,by rewrite [List.length_map];refine ah S.len (ah sizeLine_eq ?_);exact wZ (wY hz) (wW rfl), ?_⟩
  have hL:=S.add hb x y;rw [List.map_append] at hL;refine ah (show [V.ref b]=[b].map V.ref from rfl) ?_;generalize ((σ.set b _).set Lc _)=σ' at*;have i2:=hL.cs.iC;have i3:=hL.cs.lenF;refine aN ‹_› ‹_› (by exact bD (wW rfl) (aD rfl (ak rfl) (cR (bh .n (af rfl) (aA rfl (av rfl rfl i2)) (.len i3)) (ak rfl) .sub))) ?_
  refine ah List.length_append ?_;have e1:((C.length+[(x,y)].length:Nat):Int)-1=(C.length:Int):=by simp
  refine ah e1 ?_;exact q σ' _ hL
end
end
section
theorem fb (σ:AH)(w:W):mw σ (.str w.tag) (.str "cell") w.isCell:=wM w▸ .a (.s _ _)
theorem sF (σ:AH)(w:W):mw σ (.str w.tag) (.str "number") w.isNum:=by
  have h:w.isNum=(w.tag==Str.ofString "number"):=by refine ah (wO w) ?_;cases w<;>rfl
  exact h▸ .a (.s _ _)
theorem sE (σ:AH)(w:W):mw σ (.str w.tag) (.str "nil") (decide (w= .nil)):=wN w▸ .a (.s _ _)
theorem c9 (σ:AH)(w v:W):mw σ w.v v.v (decide (w=v)):=W.eqv σ w v
section
variable {B:Bs}{Pr:Params}{n:Nat}{Q:V→AH→Prop}{E:Str→AH→Prop}{σ:AH}{st Lc Lp Lo:Addr}{ls:List Addr}{C:St}{w x y e:W}{ks:List Nat}{as:List W}
noncomputable def rY:ax:=[("state", .loc none),("value", .loc none),("things", .loc none),("cells", .loc none)]
theorem a8 (hB:B.K=HK Pr)(hn:2≤n)(S:CS σ st Lc Lp Lo ls C)(h:bK C w ks as e)(hz:ks.length≤1000)
    (q:∀σ' lt lc,aH σ σ'→σ lt=none→σ lc=none→lt≠lc→σ' lt=some (.list (as.map W.v))→σ' lc=some (.list (ks.map fun k=>(W.cell k).v))→Q (.tup [.ref lt, .ref lc,e.v]) σ'):CV B n (.ref 521) [.ref st,w.v] Q E σ:=by
  have K:=b9 hB;have hlen:=h.len;refine bm (by assumption) vL rfl hn ?_;intro n' hn' hp;refine dY rfl rfl rfl rfl rfl rfl rfl (dl rfl (by simp) (a9 rfl (by simp) ?_));intro lt hlt;refine a9 rfl (by simp) ?_;intro lc hlc;refine⟨_,_,rfl, ?_⟩;walk_at "m";have hne:lt≠lc:=fun q=>by rw [←q,wq] at hlc;exact sn hlc
  have hlc0:σ lc=none:=by rw [wp (Ne.symm hne)] at hlc;exact hlc
  refine ao (cc ?_);refine dz (fun(i:Nat) m σ'=>i≤ks.length∧aH σ σ'∧σ' lt=some (.list ((as.take i).map W.v))∧σ' lc=some (.list ((ks.take i).map fun k=>(W.cell k).v))∧m=(bp rY [(some (.ref st)),(some ((aI ks e i).v)),(some (.ref lt)),(some (.ref lc))])) (fun i=>ks.length-i) ?_ 0 _ _ ⟨xd _,(aH.set hlt).trans (aH.set hlc),(wp hne).trans (wq _ _ _),wq _ _ _,by refine ah h.zero ?_;rfl⟩
  intro i m σ';refine cf ?_;rintro hi hle h1 h2 rfl;have S1:=S.le hle;have i1:=wT σ' (aI ks e i);have i2:=fb σ' (aI ks e i);rw [h.cellAt] at i2;refine dr ‹_› ‹_› (by exact aC rfl (av rfl rfl i1) (ak rfl) (.eq i2)) ?_
  by_cases hlt':i<ks.length
  · refine ah (decide_eq_true hlt') ?_<;>try rfl
    refine uE ?_ (h.at hlt');intro ha hc;refine ah (aQ hlt') ?_;have k1:(ks.take (i+1)).map (fun k=>(W.cell k).v)=(ks.take i).map (fun k=>(W.cell k).v)++[(W.cell ks[i]).v]:=by
      refine ch (List.take_append_getElem hlt') (ah List.map_append ?_);rfl
    have k2:(as.take (i+1)).map W.v=(as.take i).map W.v++[as[i].v]:=by
      refine ch (List.take_append_getElem ha) (ah List.map_append ?_);rfl
    refine aF (cz K hp .n rfl rfl ?_);refine kE.mk (af rfl) (kE.mk (af rfl) ?_);refine⟨lc,_,rfl,h2,by rewrite [List.length_map];refine ah List.length_take (ah sizeLine_eq ?_);exact wZ (wV (Nat.min_le_right _ _) hz) (wW rfl), ?_⟩
    refine ch k1 ?_;have hle2:aH σ (σ'.set lc (.list ((ks.take (i+1)).map fun k=>(W.cell k).v))):=fun a o ho=>by
      refine ah (wp (fun q=>by rw [q,hlc0] at ho;cases ho)) ?_;exact hle a o ho
    have g1:(σ'.set lc (.list ((ks.take (i+1)).map fun k=>(W.cell k).v))) lt=some (.list ((as.take i).map W.v)):=(wp hne).trans h1;have g2:(σ'.set lc (.list ((ks.take (i+1)).map fun k=>(W.cell k).v))) lc=some (.list ((ks.take (i+1)).map fun k=>(W.cell k).v)):=wq _ _ _;generalize σ'.set lc (.list ((ks.take (i+1)).map fun k=>(W.cell k).v))=σ2 at*;have S2:=S.le hle2;refine bP ?_ (S2.iK hc);intro b f1 f2 f3 f4 f5;have f0:=S2.iC;have v1:=wP σ2 ks[i];refine cz K hp .n rfl rfl ?_;refine kE.mk (af rfl) (kE.mk (a6 .c (a6 .s (av rfl rfl f0) (av rfl rfl v1) f2) (ak rfl) f3) ?_);refine⟨lt,_,rfl,g1,by rewrite [List.length_map];refine ah List.length_take (ah sizeLine_eq ?_);exact wZ (wV (Nat.min_le_right _ _) (wV (wX hlen) hz)) (wW rfl), ?_⟩
    refine ch k2 ?_;have hle3:aH σ (σ2.set lt (.list ((as.take (i+1)).map W.v))):=fun a o ho=>by
      refine ah (wp (fun q=>by rw [q,hlt] at ho;cases ho)) ?_;exact hle2 a o ho
    have g3:(σ2.set lt (.list ((as.take (i+1)).map W.v))) lt=some (.list ((as.take (i+1)).map W.v)):=wq _ _ _;have g4:(σ2.set lt (.list ((as.take (i+1)).map W.v))) lc=some (.list ((ks.take (i+1)).map fun k=>(W.cell k).v)):=(wp (Ne.symm hne)).trans g2;generalize σ2.set lt (.list ((as.take (i+1)).map W.v))=σ3 at*;have S3:=S.le hle3;refine bP ?_ (S3.iK hc);intro b f1 f2 f3 f4 f5;have f0:=S3.iC;have v1:=wP σ3 ks[i];refine cx ‹_› ‹_› rfl (fun _=>rfl) (by exact a6 .c (a6 .s (av rfl rfl f0) (av rfl rfl v1) f2) (ak rfl) f4) ?_;refine aj ?_;refine bv ?_;exact⟨i+1,by exact ad hlt',by exact pE hlen ha,hle3,g3,g4,rfl⟩
  · refine ah (decide_eq_false hlt') ?_<;>try rfl
    have hi':i=ks.length:=by exact Nat.le_antisymm hi ((w8 hlt'))
    subst hi';rw [List.take_of_length_le (by exact wX hlen)] at h1;rw [List.take_length] at h2;refine az ?_;refine ay ?_;walk_at "m";refine aN ‹_› ‹_› (by exact bD (wW rfl) (bG rfl (af rfl) (af rfl) (af rfl))) ?_;refine ah (aP (w6 _)) ?_;exact q σ' lt lc hle hlt hlc0 hne h1 h2
theorem kI (hB:B.K=HK Pr)(hn:4≤n)(S:CS σ st Lc Lp Lo ls C)(h:bK C w ks as e)(hz:ks.length≤1000)
    (q:e= .nil→∀σ' lt,aH σ σ'→σ lt=none→σ' lt=some (.list (as.map W.v))→Q (.ref lt) σ') (q':e≠ .nil→∀σ',aH σ σ'→Q .none σ'):CV B n (.ref 528) [.ref st,w.v] Q E σ:=by
  have K:=b9 hB;refine bm (by assumption) vM rfl (ar hn rfl) ?_;intro n' hn' hp;refine ao (aS (.cons (.cons (.cons .nil))) rfl ?_);refine cr ‹_› ‹_› .n (af rfl) (aD rfl (af rfl) (af rfl)) (aB ‹_› rfl) ?_;refine a8 hB (aq hn' hn rfl) S h hz fun σ' lt lc hle g1 g2 g3 g4 g5=>⟨_,rfl,rfl, ?_⟩;refine ay ?_;walk_at "m";have i1:=c9 σ' e .nil;refine aL K hp ?_
  by_cases he:e= .nil
  · rw [decide_eq_true he] at i1;refine kE.mk (fu (aC rfl (af rfl) (bD (wW rfl) (aA rfl (ak rfl))) (.eq i1)) (af rfl)) ?_;exact q he σ' lt hle g1 g4
  · rw [decide_eq_false he] at i1;refine kE.mk (j5 (aC rfl (af rfl) (bD (wW rfl) (aA rfl (ak rfl))) (.eq i1)) (ak rfl)) ?_;exact q' he σ' hle
end
end
section
noncomputable def oV:Option W→V
  | none=> .none | some w=>w.v
section
variable {B:Bs}{Pr:Params}{n:Nat}{Q:V→AH→Prop}{E:Str→AH→Prop}{σ:AH}{st Lc Lp Lo:Addr}{ls:List Addr}{C:St}{w x y e:W}{ks:List Nat}{as:List W}
noncomputable def rZ:ax:=[("state", .loc none),("things", .loc none),("end", .loc none),("thing", .loc none),("_law_cell", .glob (.ref 514))]
theorem cQ (hB:B.K=HK Pr)(hn:3≤n)(S:CS σ st Lc Lp Lo ls C){la:Addr}(ha:σ la=some (.list (as.map W.v)))(hz:C.length+as.length<1000)
    (q:∀σ' ls',aU σ st Lc Lp Lo ls C σ' ls' (C++dO C.length as.reverse e)→Q (dS C.length as.length e).v σ'):CV B n (.ref 535) [.ref st, .ref la,e.v] Q E σ:=by
  have K:=b9 hB;refine bg (by assumption) vN rfl (ar hn rfl) ?_;intro n' hn' hp;refine ao (dB (bA (cJ ?_)));refine aE ‹_› ‹_› (af rfl) ?_;refine aE ‹_› ‹_› (ek (ak rfl)) ?_;refine⟨-1,rfl,la,as.map W.v,as.reverse.map W.v,rfl, .inl ha,by refine ah List.map_reverse ?_;exact .rev,fun b hb=>⟨b,_,rfl, .inl (wq _ _ _), ?_⟩⟩
  have hle:aH σ (σ.set b (.list (as.reverse.map W.v))):=aH.set hb;have hb1:(σ.set b (.list (as.reverse.map W.v))) b=some (.list (as.reverse.map W.v)):=wq _ _ _;have S1:=S.le hle;have hbL:b≠Lc:=fun q=>by rw [q,S.cells] at hb;exact sn hb
  have hbl:b∉ls:=fun q=>(S.ne q).2.2 hb;generalize σ.set b (.list (as.reverse.map W.v))=σ1 at*;refine cT (xs:=as.reverse.map W.v) (fun(i:Nat) m σ'=>∃ls' o,aU σ1 st Lc Lp Lo ls C σ' ls' (C++dO C.length (as.reverse.take i) e)∧m=(bp rZ [(some (.ref st)),(some (.ref la)),(some ((dS C.length i e).v)),o])) ?_ ?_ ?_ 0 _ _ (xd _) ⟨ls,none,by simpa [dO] using aU.refl S1,rfl⟩
  · intro i m σ';refine fD ?_;rintro ls' o hL rfl _;exact .inl (hL.fr _ _ hb1 hbL hbl)
  · intro i v m σ';refine fD ?_;rintro ls' o hL rfl hv;rw [List.getElem?_map] at hv;refine aY ?_ (Option.map_eq_some_iff.mp hv);rintro a hv2 rfl;refine uE ?_ (List.getElem?_eq_some_iff.mp hv2);intro hi hai;refine⟨rfl, ?_⟩;walk_at "m";refine c7 K hp rfl .n rfl ?_;refine wU (af rfl) (bG rfl (af rfl) (af rfl) (af rfl)) ?_;have hl:(dO C.length (as.reverse.take i) e).length=i:=by rewrite [cN];exact List.length_take.trans (Nat.min_eq_left (wY hi))
    have hl2:(C++dO C.length (as.reverse.take i) e).length=C.length+i:=by exact List.length_append.trans (congrArg _ hl)
    refine⟨aB hB rfl,fX hB (by exact aq hn' hn rfl) hL.cs (by refine ah hl2 ?_;simp at hi;exact wZ (wY (Nat.add_lt_add_left hi _)) hz) fun σ'' ls'' hL'=> ?_⟩;refine aj ?_;refine bv ?_;refine⟨ls'',some a.v, ?_, ?_⟩
    · have e1:C++dO C.length (as.reverse.take (i+1)) e=C++dO C.length (as.reverse.take i) e++[(a,dS C.length i e)]:=by
        refine ch (List.take_append_getElem hi) (ah hai ?_);rewrite [gw];rewrite [List.append_assoc]
        congr 5
        refine ah List.length_take ?_;exact Nat.min_eq_left (wY hi)
      refine ah e1 ?_;exact hL.trans hL' (by refine ah S1.cells ?_;simp)
    · refine ah hl2 ?_<;>try rfl
      try rw [show dS C.length (i+1) e= .cell (C.length+i) from by unfold dS;rw [if_neg (by lia)];rfl]
  · intro m σ';refine fD ?_;rintro ls' o hL rfl;rw [List.length_map,List.take_length,List.length_reverse] at*;refine ay ?_;walk_at "m";refine aN ‹_› ‹_› (by exact af rfl) ?_;exact q σ' ls' (hL.le hle)
theorem eP (hB:B.K=HK Pr)(hn:2≤n)(S:CS σ st Lc Lp Lo ls C){d:Bool}(hx:∀k,x= .cell k→k<C.length)(q:Q (oV (if d then fs C x else fq C x)) σ):CV B n (.ref 549) [.ref st,x.v, .int (if d then 1 else 0)] Q E σ:=by
  have K:=b9 hB;refine bg (by assumption) vO rfl hn ?_;intro n' hn' hp;have i0:=c9 σ x .nil;have i1:=wT σ x;have i2:=fb σ x;refine bN ‹_› ‹_› (aC rfl (af rfl) (bD (wW rfl) (aA rfl (ak rfl))) (.eq i0)) ?_
  cases x with
  | nil=>
    refine aF ?_;refine aN ‹_› ‹_› (af rfl) ?_;have:oV (if d then fs C .nil else fq C .nil)=W.nil.v:=by cases d<;>rfl
    rw [this] at q;exact q
  | num i=>
    refine az (aj ?_);refine ay ?_;walk_at "m";refine aN ‹_› ‹_› (j5 (aC rfl (av rfl rfl i1) (ak rfl) (.eq i2)) (ak rfl)) ?_;have:oV (if d then fs C (.num i) else fq C (.num i))= .none:=by cases d<;>rfl
    rw [this] at q;exact q
  | cell k=>
    refine az (aj ?_);refine ay ?_;walk_at "m";have hk:=hx k rfl;refine bP ?_ (S.iK (a:=C[k].1) (d:=C[k].2) (w7 hk));intro b f1 f2 f3 f4 f5;have f0:=S.iC;have v1:=wP σ k;refine aL K hp ?_
    cases d
    · have:oV (if false then fs C (.cell k) else fq C (.cell k))=C[k].1.v:=by simp [fq,oV,w7 hk]
      rw [this] at q;refine kE.mk (fu (aC rfl (av rfl rfl i1) (ak rfl) (.eq i2)) (a6 .n (a6 .s (av rfl rfl f0) (av rfl rfl v1) f2) (af rfl) f3)) ?_;exact q
    · have:oV (if true then fs C (.cell k) else fq C (.cell k))=C[k].2.v:=by simp [fs,oV,w7 hk]
      rw [this] at q;refine kE.mk (fu (aC rfl (av rfl rfl i1) (ak rfl) (.eq i2)) (a6 .n (a6 .s (av rfl rfl f0) (av rfl rfl v1) f2) (af rfl) f4)) ?_;exact q
noncomputable def pA:ax:=[("state", .loc none),("many", .loc none),("value", .loc none),("_law_part", .glob (.ref 549))]
theorem gl (hB:B.K=HK Pr)(hn:4≤n)(S:CS σ st Lc Lp Lo ls C)(h:bK C w ks as e){j:Nat}(q:Q (oV (if j≤ks.length∨e= .nil then some (aI ks e j) else none)) σ):CV B n (.ref 556) [.ref st, .int j,w.v] Q E σ:=by
  have K:=b9 hB;refine bg (by assumption) vP rfl (ar hn rfl) ?_;intro n' hn' hp;refine ao (cc ?_);have pos:∀i,i≤ks.length∨e= .nil→∀k,aI ks e i= .cell k→k<C.length:=fun i _ k hk=>by
    by_cases hi:i<ks.length
    · refine uE ?_ (h.at hi);intro ha hc;rw [aQ hi] at hk;cases hk
      exact(List.getElem?_eq_some_iff.mp hc).1
    · rw [aP ((w8 hi))] at hk;have:=h.stop;rw [hk] at this;exact tf this
  refine dz (fun(i:Nat) m σ'=>i≤j∧σ'=σ∧((∃i',i'≤i∧(i'≤ks.length∨e= .nil)∧(i'<i→e= .nil∧ks.length≤i')∧m=(bp pA [(some (.ref st)),(some (.int ((j:Int)-i))),(some ((aI ks e i').v))]))∨(ks.length<i∧e≠ .nil∧m=(bp pA [(some (.ref st)),(some (.int ((j:Int)-i))),(some (.none))])))) (fun i=>j-i) ?_ 0 _ _ ⟨xd _,rfl, .inl ⟨0,w6 _, .inl (xd _),fun h=>absurd h (xl _),by refine ah h.zero ?_;first | rfl | simp⟩⟩
  intro i m σ';refine dc ?_;intro hi hσ hcase;subst hσ
  rcases hcase with⟨i',h1,h2,h3,rfl⟩ | ⟨h1,h2,rfl⟩
  · have i1:=wR σ' (aI ks e i');have i2:=c9 σ' (aI ks e i') .nil;refine cP K hp ?_
    by_cases hm:i<j
    · have hd:decide ((0:Int)<(j:Int)-i)=true:=by simp;exact hm
      have i3:fc σ' .Gt (.int ((j:Int)-i)) (.int 0) true:=hd▸ .gt;have i4:fc σ' .IsNot (aI ks e i').v .none true:= .isn i1 rfl;refine kE.mk (bU (cY (aC rfl (af rfl) (ak rfl) i3) (cY (aC rfl (af rfl) (ak rfl) i4) (dw (aC rfl (af rfl) (bD (wW rfl) (aA rfl (ak rfl))) (.ne i2 rfl)))))) ?_;refine⟨_,rfl, ?_⟩
      by_cases hnl:aI ks e i'= .nil
      · refine ah (decide_eq_true hnl) ?_;refine az ?_;refine ay ?_;walk_at "m";have hr:aI ks e j= .nil∧e= .nil:=by
          have hge:ks.length≤i':=by
            rcases Nat.lt_or_ge i' ks.length with hq | hq
            · rw [aQ hq] at hnl;cases hnl
            · exact hq
          rw [aP hge] at hnl;refine ah (aP (wY (wZ (wV hge h1) hm))) ?_;exact⟨hnl,hnl⟩
        rw [if_pos (.inr hr.2)] at q;refine aN ‹_› ‹_› (af rfl) ?_;refine ah hnl ?_;rw [hr.1] at q;exact q
      · refine ah (decide_eq_false hnl) ?_;refine aF ?_;have hii:i'=i:=by
          rcases Nat.lt_or_ge i' i with hq | hq
          · refine uA ?_ (h3 hq);intro g1 g2;rw [aP g2] at hnl;exact absurd g1 hnl
          · exact Nat.le_antisymm h1 hq
        subst hii;refine dY rfl rfl rfl rfl rfl rfl rfl (dl rfl (by simp) ?_);refine cr ‹_› ‹_› .n (af rfl) (by exact bG rfl (af rfl) (af rfl) (ak rfl)) (aB ‹_› rfl) ?_;refine eP (d:=true) hB (by exact aq hn' hn rfl) S (pos _ h2) ?_;refine aE ‹_› ‹_› (by exact cR (af rfl) (ak rfl) .sub) ?_;refine⟨_,_,rfl, ?_⟩;walk_at "m";refine aj ?_;refine bv ?_;refine⟨i'+1,by exact ad hm,by exact hm,(by trivial), ?_⟩
        have e1:(j:Int)-i'-1=(j:Int)-((i'+1:Nat):Int):=Int.sub_sub _ _ _
        (try dsimp+zetaDelta only);refine ah e1 ?_
        rcases Nat.lt_or_ge i' ks.length with hq | hq
        · left
          refine uE ?_ (h.at hq);intro ha hc;refine⟨i'+1,w6 _, .inl hq,fun hh=>absurd hh (xl _), ?_⟩;refine ah (aQ hq) ?_;simp only [fs,hc,Option.map,oV,if_true]<;>rfl
        · rw [aP hq] at hnl⊢;have hnum:fs C e=none:=by
            have:=h.stop
            cases e with
            | num z=>rfl
            | nil=>exact absurd rfl hnl
            | cell k=>exact tf this
          right
          refine⟨by exact xi hq,hnl, ?_⟩
          refine ah hnum ?_;rfl
    · have hij:i=j:=by exact Nat.le_antisymm hi ((w8 hm))
      subst hij;have hd:decide ((0:Int)<(i:Int)-i)=false:=by simp
      have i3:fc σ' .Gt (.int ((i:Int)-i)) (.int 0) false:=hd▸ .gt;refine kE.mk (bU (cX (aC rfl (af rfl) (ak rfl) i3))) ?_;refine⟨_,rfl,az ?_⟩;refine ay ?_;walk_at "m";refine aN ‹_› ‹_› (by exact af rfl) ?_;have hr:aI ks e i'=aI ks e i∧(i≤ks.length∨e= .nil):=by
        rcases Nat.lt_or_ge i' i with hq | hq
        · refine uA ?_ (h3 hq);intro g1 g2;refine ah (aP g2) (ah (aP (by lia)) ?_);exact⟨rfl, .inr g1⟩
        · have:i'=i:=by exact Nat.le_antisymm h1 hq
          subst this;exact⟨rfl,h2⟩
      rw [if_pos hr.2] at q;refine ah hr.1 ?_;exact q
  · refine cP K hp ?_
    rw [if_neg (by intro hh;rcases hh with hh | hh;exact xn (wZ hh h1) hi;exact h2 hh)] at q
    by_cases hm:i<j
    · have hd:decide ((0:Int)<(j:Int)-i)=true:=by simp;exact hm
      have i3:fc σ' .Gt (.int ((j:Int)-i)) (.int 0) true:=hd▸ .gt;have i4:fc σ' .IsNot .none .none false:= .isn .n rfl;refine kE.mk (bU (cY (aC rfl (af rfl) (ak rfl) i3) (cX (aC rfl (af rfl) (ak rfl) i4)))) ?_;refine⟨_,rfl,az ?_⟩;refine ay ?_;walk_at "m";refine aN ‹_› ‹_› (by exact af rfl) ?_;exact q
    · have hij:i=j:=by exact Nat.le_antisymm hi ((w8 hm))
      subst hij;have hd:decide ((0:Int)<(i:Int)-i)=false:=by simp
      have i3:fc σ' .Gt (.int ((i:Int)-i)) (.int 0) false:=hd▸ .gt;refine kE.mk (bU (cX (aC rfl (af rfl) (ak rfl) i3))) ?_;refine⟨_,rfl,az ?_⟩;refine ay ?_;walk_at "m";refine aN ‹_› ‹_› (by exact af rfl) ?_;exact q
end
end
section
noncomputable def ir (rk:Nat→Nat):W→Nat
  | .cell j=>rk j+1
  | _=>0
noncomputable def Rk (C:St)(rk:Nat→Nat):Prop:=∀(k:Nat) a d,C[k]?=some (a,d)→ir rk a≤rk k∧ir rk d≤rk k
section
variable {B:Bs}{Pr:Params}{n:Nat}{Q:V→AH→Prop}{E:Str→AH→Prop}{σ:AH}{st Lc Lp Lo:Addr}{ls:List Addr}{C:St}{w x y e:W}{ks:List Nat}{as:List W}
theorem lu {m:ax}{pos:Pos}(h:∀a,σ a=none→Q (.ref a) (σ.set a (.idict []))):EV B n m (.Dict [] [] pos) Q E σ:=by
  intro Γ A T mc kc s G HA HS HL;obtain ⟨own,dof,I,hm⟩:=id HS;refine dc ?_ (I.freshA G ({cls:= .type "dict",data:= .dict #[]}) rfl (by intro v z;cases z) (S.size G I));intro I' hσ hT;have h1:=S.size G I;refine wpAny_Dict_empty ⟨T,_, .ref _,cC.refl T,⟨_,dof,I'.track (o:= .idict []) ⟨.head _,[],Heap.DictOf.new _,rfl,by simp,Nat.ne_of_gt h1⟩ rfl (fun b o' h2 h3 _ q=> ?_),hm⟩,rfl,h _ hσ⟩
  cases o' with
  | inst Cc ats=>
    refine d9 ?_ (I.ob b _ h2);intro _ _ _ es k h4 _;rw [q] at h4;exact absurd (xf h4) (xl _)
  | _=>exact ft h3
theorem lL (hB:B.K=HK Pr)(hn:2≤n)(S:CS σ st Lc Lp Lo ls C){es:List (Int×V)}(hp:σ Lp=some (.idict es)){P:Nat→Addr}(hx:∀k,x= .cell k→fO es (k:Int)=some (.ref (P k)))(q:Q (ev P x) σ):CV B n (.ref 601) [.ref st,x.v] Q E σ:=by
  have K:=b9 hB;refine bm (by assumption) vT rfl hn ?_;intro n' hn' hp';have i1:=wT σ x;have i2:=fb σ x;have i3:=sE σ x;refine a7 K hp' ?_;refine kE.mk (aC rfl (av rfl rfl i1) (ak rfl) (.eq i2)) ?_;refine⟨_,rfl, ?_⟩
  cases x with
  | cell k=>
    have f0:=S.iP;have v1:=wP σ k;have f1:eJ σ (.ref Lp) (.int k) (.ref (P k)):= .i hp (hx k rfl);refine aF (aL K hp' ?_);refine kE.mk (a6 .s (av rfl rfl f0) (av rfl rfl v1) f1) ?_;exact q
  | nil=>
    refine az (aj ?_);refine ay ?_;walk_at "m";refine aL K hp' ?_;refine kE.mk (fu (aC rfl (av rfl rfl i1) (ak rfl) (.eq i3)) (af rfl)) ?_;exact q
  | num i=>
    have v1:=wS σ i;refine az (aj ?_);refine ay ?_;walk_at "m";refine aL K hp' ?_;refine kE.mk (j5 (aC rfl (av rfl rfl i1) (ak rfl) (.eq i3)) (av rfl rfl v1)) ?_;exact q
theorem i9 (hB:B.K=HK Pr)(S:CS σ st Lc Lp Lo ls C){rk:Nat→Nat}(hr:Rk C rk){b:Bool}{k:Nat}(h:br C x y b k):∀{n:Nat} {Q:V→AH→Prop} {E:Str→AH→Prop},ir rk x+3≤n→Q (.bool b) σ→CV B n (.ref 542) [.ref st,x.v,y.v] Q E σ:=by
  have K:=b9 hB
  induction h with
  | @eq a=>
    intro n Q E hn q;refine bg (by assumption) qS rfl (ar hn rfl) ?_;intro n' hn' hp;walk_at "m";have i1:=wT σ a;have i2:=fb σ a;have i3:=c9 σ a a;have i4:=c9 σ a a;rw [decide_eq_true rfl] at i3 i4
    have hc:∀b:Bool,(match b with | true=>true | false=>false)=b:=fun b=>by cases b<;>rfl
    refine a7 K hp ?_
    cases hcell:a.isCell
    · rw [hcell] at i2;refine kE.mk (bU (cX (aC rfl (av rfl rfl i1) (ak rfl) (.eq i2)))) ?_;refine⟨_,rfl,az (aj ?_)⟩;refine ay ?_;walk_at "m";refine aN ‹_› ‹_› (aC rfl (af rfl) (af rfl) (.eq i4)) ?_;exact q
    · rw [hcell] at i2;refine kE.mk (bU (cY (aC rfl (av rfl rfl i1) (ak rfl) (.eq i2)) (cY (aC rfl (av rfl rfl i1) (ak rfl) (.eq i2)) (dw (aC rfl (af rfl) (af rfl) (.ne i4 rfl)))))) ?_;refine⟨_,rfl,az (aj ?_)⟩;refine ay ?_;walk_at "m";refine aN ‹_› ‹_› (aC rfl (af rfl) (af rfl) (.eq i4)) ?_;exact q
  | @no a b hne hc=>
    intro n Q E hn q;refine bg (by assumption) qS rfl (ar hn rfl) ?_;intro n' hn' hp;walk_at "m";have i1:=wT σ a;have i2:=fb σ a;have j1:=wT σ b;have j2:=fb σ b;have i4:=c9 σ a b;rw [decide_eq_false hne] at i4;refine a7 K hp ?_
    cases hcell:a.isCell
    · rw [hcell] at i2;refine kE.mk (bU (cX (aC rfl (av rfl rfl i1) (ak rfl) (.eq i2)))) ?_;refine⟨_,rfl,az (aj ?_)⟩;refine ay ?_;walk_at "m";refine aN ‹_› ‹_› (aC rfl (af rfl) (af rfl) (.eq i4)) ?_;exact q
    · rw [hcell] at i2;have hb:b.isCell=false:=hc.elim (fun hh=>by rw [hh] at hcell;exact ft hcell) id;rw [hb] at j2;refine kE.mk (bU (cY (aC rfl (av rfl rfl i1) (ak rfl) (.eq i2)) (cX (aC rfl (av rfl rfl j1) (ak rfl) (.eq j2))))) ?_;refine⟨_,rfl,az (aj ?_)⟩;refine ay ?_;walk_at "m";refine aN ‹_› ‹_› (aC rfl (af rfl) (af rfl) (.eq i4)) ?_;exact q
  | @carF i j a1 d1 a2 d2 m hne h1 h2 h3 ih=>
    intro n Q E hn q;refine bg (by assumption) qS rfl (ar hn rfl) ?_;intro n' hn' hp;walk_at "m";have i1:=wT σ (.cell i);have i2:=fb σ (.cell i);have j1:=wT σ (.cell j);have j2:=fb σ (.cell j);have i3:=c9 σ (.cell i) (.cell j);rw [decide_eq_false (fun q=>hne (W.cell.inj q))] at i3;refine bO ‹_› ‹_› (bU (cY (aC rfl (av rfl rfl i1) (ak rfl) (.eq j2)) (cY (aC rfl (av rfl rfl j1) (ak rfl) (.eq j2)) (dw (aC rfl (af rfl) (af rfl) (.ne i3 rfl)))))) (by rfl) ?_;refine bP ?_ (S.iK h1);intro b1 f1 f2 f3 f4 f5;refine bP ?_ (S.iK h2);intro b2 g1 g2 g3 g4 g5;have f0:=S.iC;have v1:=wP σ i;have v2:=wP σ j;refine dY rfl rfl rfl rfl rfl rfl rfl ?_;refine aE ‹_› ‹_› (bD (wW rfl) (aD rfl (a6 .s (av rfl rfl f0) (av rfl rfl v1) f2) (a6 .s (av rfl rfl f0) (av rfl rfl v2) g2))) ?_;refine⟨_,_,rfl, ?_⟩;walk_at "m";refine aJ (dG ?_);refine cr ‹_› ‹_› .n (af rfl) (bG rfl (af rfl) (av rfl rfl f3) (av rfl rfl g3)) (aB ‹_› rfl) ?_;refine ih ?_ ?_
    · have:=(hr i a1 d1 h1).1;simp only [ir] at hn;lia
    · exact q
  | @cdr i j a1 d1 a2 d2 m k b hne h1 h2 h3 h4 ih1 ih2=>
    intro n Q E hn q;refine bg (by assumption) qS rfl (ar hn rfl) ?_;intro n' hn' hp;walk_at "m";have i1:=wT σ (.cell i);have i2:=fb σ (.cell i);have j1:=wT σ (.cell j);have j2:=fb σ (.cell j);have i3:=c9 σ (.cell i) (.cell j);rw [decide_eq_false (fun q=>hne (W.cell.inj q))] at i3;refine bO ‹_› ‹_› (bU (cY (aC rfl (av rfl rfl i1) (ak rfl) (.eq j2)) (cY (aC rfl (av rfl rfl j1) (ak rfl) (.eq j2)) (dw (aC rfl (af rfl) (af rfl) (.ne i3 rfl)))))) (by rfl) ?_;refine bP ?_ (S.iK h1);intro b1 f1 f2 f3 f4 f5;refine bP ?_ (S.iK h2);intro b2 g1 g2 g3 g4 g5;have f0:=S.iC;have v1:=wP σ i;have v2:=wP σ j;refine dY rfl rfl rfl rfl rfl rfl rfl ?_;refine aE ‹_› ‹_› (bD (wW rfl) (aD rfl (a6 .s (av rfl rfl f0) (av rfl rfl v1) f2) (a6 .s (av rfl rfl f0) (av rfl rfl v2) g2))) ?_;refine⟨_,_,rfl, ?_⟩;walk_at "m";refine aJ (dG (aK K hp .n rfl ?_));refine wU (af rfl) (bG rfl (af rfl) (av rfl rfl f3) (av rfl rfl g3)) ?_;have:=hr i a1 d1 h1;simp only [ir] at hn;refine⟨aB hB rfl,ih1 (by lia) ?_⟩;refine cr ‹_› ‹_› .n (af rfl) (bG rfl (af rfl) (av rfl rfl f4) (av rfl rfl g4)) (aB ‹_› rfl) ?_;exact ih2 (by lia) q
end
end
section
section
variable {B:Bs}{Pr:Params}{n:Nat}{Q:V→AH→Prop}{E:Str→AH→Prop}{σ:AH}{st Lc Lp Lo:Addr}{ls:List Addr}{C:St}{w x y e:W}{ks:List Nat}{as:List W}
theorem lr {a b c:Nat}(h:a<b):3*(b-(a+1))+(c+2)<3*(b-a)+(c+1):=by
  have e:b-a=b-(a+1)+1:=(Nat.succ_pred_eq_of_pos (Nat.sub_pos_of_lt h)).symm;rw [e,Nat.mul_succ,Nat.add_assoc];exact Nat.add_lt_add_left (w0 (xk (c+2)) (wV (Nat.le_succ _) (wX (Nat.add_comm (c+1) 3)))) _
theorem kP {a b:Addr}{xs:List V}(ha:σ a=some (.list xs))(hb:σ b=none):mw (σ.set b (.list [])) (.ref a) (.ref b) (decide (xs=[])):=by
  have hne:a≠b:=fun q=>by rw [q,hb] at ha;exact nn ha
  refine .l ((wp hne).trans ha) (wq _ _ _) ?_
  cases xs with
  | nil=>exact .n
  | cons x xs=>exact .r
theorem gi {m:ax}{e:Expr}{lp pos:Pos}{Q:Bool→AH→Prop}(K:KO B.K)(hn:0<n)(h:kE m σ e fun v=>∃a xs,v= .ref a∧σ a=some (.list xs)∧∀b,σ b=none→Q (!decide (xs=[])) (σ.set b (.list []))):TV B n m (.Compare e [.NotEq] [.List [] lp] pos) Q E σ:=by
  refine aY ?_ h;clear h;intro v h1;refine cg ?_;rintro a xs rfl h2 h3;refine cD (h1.ev K hn (a9 rfl (by simp) fun b hb=>ef (c:= !decide (xs=[])) (.ne (kP h2 hb) rfl) ⟨_,rfl,h3 b hb⟩ hn)) rfl
theorem pC {m:ax}{e:Expr}{lp pos:Pos}{Q:Bool→AH→Prop}(K:KO B.K)(hn:0<n)(h:kE m σ e fun v=>∃a xs,v= .ref a∧σ a=some (.list xs)∧∀b,σ b=none→Q (decide (xs=[])) (σ.set b (.list []))):TV B n m (.Compare e [.Eq] [.List [] lp] pos) Q E σ:=by
  refine aY ?_ h;clear h;intro v h1;refine cg ?_;rintro a xs rfl h2 h3;refine cD (h1.ev K hn (a9 rfl (by simp) fun b hb=>ef (c:=decide (xs=[])) (.eq (kP h2 hb)) ⟨_,rfl,h3 b hb⟩ hn)) rfl
theorem im:∀(N:Nat) (l:List Nat),l.Nodup→(∀x∈l,x<N)→l.length≤N
  | 0,l,_,h=>by
    cases l with
    | nil=>simp
    | cons x l=>exact absurd (h x (.head _)) (xh _)
  | N+1,l,hn,h=>by
    by_cases q:N∈l
    · have:=im N (l.erase N) (hn.erase N) fun x hx=>by
        have h1:=(hn.mem_erase_iff).mp hx;exact Nat.lt_of_le_of_ne (Nat.le_of_lt_succ (h x h1.2)) h1.1
      rw [List.length_erase_of_mem q] at this;exact w8 (fun z=>xn (Nat.lt_sub_of_add_lt z) this)
    · have:=im N l hn fun x hx=>by
        have h1:=h x hx;have:x≠N:=fun r=>q (r▸hx);exact Nat.lt_of_le_of_ne (Nat.le_of_lt_succ h1) this
      exact Nat.le_add_right_of_le this
noncomputable def Cl (C:St)(M:Nat→Prop):Prop:=∀(k:Nat) a d,M k→C[k]?=some (a,d)→Ok M a∧Ok M d
noncomputable def nc (M:List Nat):List (Int×V):=M.map fun(k:Nat)=>((k:Int),V.bool true)
noncomputable def jK (M:List Nat):bL:= .idict (nc M)
theorem kU (M:List Nat)(k:Nat):(nc M).any (fun e=>e.1==(k:Int))=decide (k∈M):=by
  rewrite [Bool.eq_iff_iff];rewrite [List.any_eq_true];refine ah decide_eq_true_eq ?_
  constructor
  · refine aY ?_;intro e h1 h2;refine aY ?_ (List.mem_map.mp h1);rintro j h3 rfl;have:j=k:=by
                       have h4:((j:Int)==(k:Int))=true:=h2;exact Int.ofNat_inj.mp (eq_of_beq h4)
    exact this▸h3
  · intro h;exact⟨_,List.mem_map.mpr ⟨k,h,rfl⟩,by simp⟩
theorem Ok.mono {D D':Nat→Prop}(h:∀k,D k→D' k){w:W}(x:Ok D w):Ok D' w:=by
  cases w with
  | cell k=>exact h k x
  | _=>trivial
noncomputable def mF:ax:=[("state", .loc none),("value", .loc none),("goal", .loc none),("met", .loc none),("waiting", .loc none),("here", .loc none)]
theorem fP (hB:B.K=HK Pr)(hn:3≤n)(S:CS σ st Lc Lp Lo ls C)(hC:Cl C (·<C.length))(hx:Ok (·<C.length) x)(hz:C.length≤1000)
    (q:∀r,(r=false→∀g,y= .cell g→∃M,Cl C M∧Ok M x∧¬M g)→Q (.bool r) σ):CV B n (.ref 582) [.ref st,x.v,y.v] Q E σ:=by
  have K:=b9 hB;refine wu (σ₀:=σ) ?_;refine bg (by assumption) vQ rfl (ar hn rfl) ?_;intro n' hn' hp;walk_at "m";refine dY rfl rfl rfl rfl rfl rfl rfl (dl rfl (by simp) (lu ?_));intro am ham;refine a9 rfl (by simp) ?_;refine aE ‹_› ‹_› (by exact af rfl) ?_;intro aw haw;refine⟨_,_,rfl, ?_⟩;walk_at "m";have hne:am≠aw:=fun q=>by rw [←q,wq] at haw;exact sn haw
  have haw0:σ aw=none:=by rw [wp (Ne.symm hne)] at haw;exact haw
  refine ao (cc ?_);refine dz (ι:=List Nat×List W) (fun i m σ'=>aH σ σ'∧i.1.Nodup∧(∀k∈i.1,k<C.length)∧(∀w∈i.2,Ok (·<C.length) w)∧(∀k∈i.1,∀a d,C[k]?=some (a,d)→(Ok (·∈i.1) a∨a∈i.2)∧(Ok (·∈i.1) d∨d∈i.2))∧(Ok (·∈i.1) x∨x∈i.2)∧i.2.length≤2*i.1.length+1∧
    σ' am=some (jK i.1)∧(∃aw' o,m=(bp mF [(some (.ref st)),(some (x.v)),(some (y.v)),(some (.ref am)),(some (.ref aw')),o])∧σ aw'=none∧aw'≠am∧σ' aw'=some (.list (i.2.map W.v)))) (fun i=>3*(C.length-i.1.length)+i.2.length) ?_ ([],[x]) _ _ ?_
  · rintro ⟨M,ws⟩ m σ';refine iQ ?_;intro hle hnd hM hws hcl hxx;refine fC ?_;intro hlen hm aw' o;refine dF ?_;rintro rfl ha1 ha2 ha3;dsimp only at*;have hML:M.length≤C.length:=im _ _ hnd hM;refine gi K hp ?_;refine kE.mk (af rfl) ?_;refine⟨aw',_,rfl,ha3,fun b hb=> ?_⟩;have hleb:aH σ' (σ'.set b (.list [])):=aH.set hb;have hle1:=hle.trans hleb;have hm1:=hleb _ _ hm;have ha31:=hleb _ _ ha3;generalize σ'.set b (.list [])=σ1 at*
    rcases List.eq_nil_or_concat ws with rfl | ⟨ws',w,rfl⟩
    · refine az ?_;refine ay ?_;walk_at "m";have hclM:Cl C (·∈M):=fun k a d hk hc=>by
        refine uA ?_ (hcl k hk a d hc);intro h1 h2;exact⟨h1.elim id (fun h=>by cases h),h2.elim id (fun h=>by cases h)⟩
      have hxM:Ok (·∈M) x:=hxx.elim id (fun h=>by cases h);have j1:=wT σ1 y;have j2:=fb σ1 y;refine aL K hp ?_
      cases y with
      | cell g=>
        have v1:=wP σ1 g;have i1:fc σ1 .In (.int (g:Int)) (.ref am) (decide (g∈M)):=by
          rw [←kU];exact .in_ (.i hm1)
        refine kE.mk (bU (cY (aC rfl (av rfl rfl j1) (ak rfl) (.eq j2)) (dw (aC rfl (av rfl rfl v1) (af rfl) i1)))) ?_;refine⟨hle1,q _ fun hr g' hg=> ?_⟩
        cases hg
        exact⟨_,hclM,hxM,by simpa using hr⟩
      | num i=>
        refine kE.mk (bU (cX (aC rfl (av rfl rfl j1) (ak rfl) (.eq j2)))) ?_;exact⟨hle1,q _ fun _ g hg=>by cases hg⟩
      | nil=>
        refine kE.mk (bU (cX (aC rfl (av rfl rfl j1) (ak rfl) (.eq j2)))) ?_;exact⟨hle1,q _ fun _ g hg=>by cases hg⟩
    · rw [List.concat_eq_append] at*;rw [List.map_append] at ha31⊢;refine ah (show decide (List.map W.v ws'++List.map W.v [w]=[])=false by simp) ?_;refine aF (bE rfl (fun _=>rfl) (cb .n rfl (by decide) (by decide) ?_));refine aE ‹_› ‹_› (by exact af rfl) ?_;refine⟨"list.pop", .pop ha31,iT (xs:=ws'.map W.v) ha31 ?_⟩;walk_at "m";have hle2:aH σ (σ1.set aw' (.list (ws'.map W.v))):=fun a o ho=>by
        refine ah (wp (fun q=>by rw [q,ha1] at ho;cases ho)) ?_;exact hle1 a o ho
      have hm2:(σ1.set aw' (.list (ws'.map W.v))) am=some (jK M):=(wp (Ne.symm ha2)).trans hm1;have ha32:(σ1.set aw' (.list (ws'.map W.v))) aw'=some (.list (ws'.map W.v)):=wq _ _ _;generalize σ1.set aw' (.list (ws'.map W.v))=σ2 at*;have j1:=wT σ2 w;have j2:=fb σ2 w;have skip:(Ok (·∈M) w)→∀z:W,(Ok (·∈M) z∨z∈ws'++[w])→(Ok (·∈M) z∨z∈ws'):=fun hw z hz=>by
        rcases hz with h | h
        · exact .inl h
        · rcases List.mem_append.mp h with h | h
          · exact .inr h
          · refine ah (List.mem_singleton.mp h) ?_;exact .inl hw
      have nocell:Ok (·∈M) w→∀{Q':cM→ax→AH→Prop},(∀m' σ₂,(∃i':List Nat×List W,3*(C.length-i'.1.length)+i'.2.length<3*(C.length-M.length)+(ws'++[w]).length∧(aH σ σ₂∧i'.1.Nodup∧(∀k∈i'.1,k<C.length)∧(∀w∈i'.2,Ok (·<C.length) w)∧(∀k∈i'.1,∀a d,C[k]?=some (a,d)→(Ok (·∈i'.1) a∨a∈i'.2)∧(Ok (·∈i'.1) d∨d∈i'.2))∧(Ok (·∈i'.1) x∨x∈i'.2)∧i'.2.length≤2*i'.1.length+1∧
    σ₂ am=some (jK i'.1)∧(∃aw' o,m'=(bp mF [(some (.ref st)),(some (x.v)),(some (y.v)),(some (.ref am)),(some (.ref aw')),o])∧σ aw'=none∧aw'≠am∧σ₂ aw'=some (.list (i'.2.map W.v)))))→Q' .next m' σ₂)→bu B n' (bp mF [(some (.ref st)),(some (x.v)),(some (y.v)),(some (.ref am)),(some (.ref aw')),(some (w.v))]) [] Q' E σ2:=fun hw Q' hQ=>by
        refine aj (hQ _ _ ?_);refine⟨(M,ws'),by simp,hle2,hnd,hM,fun w hw=>hws w (List.mem_append_left _ hw),fun k hk a d hc=> ?_,skip hw _ hxx,by simp at hlen⊢;exact wV hlen (w9 _ _),hm2,aw',_,rfl,ha1,ha2,ha32⟩
        refine uA ?_ (hcl k hk a d hc);intro h1 h2;exact⟨skip hw _ h1,skip hw _ h2⟩
      refine a7 K hp ?_
      cases w with
      | num i=>
        refine kE.mk (bU (cX (aC rfl (av rfl rfl j1) (ak rfl) (.eq j2)))) ?_;refine⟨_,rfl,az (aj ?_)⟩;refine ay ?_;walk_at "m";exact nocell trivial fun m' σ₂ h=>by refine bv ?_;exact h
      | nil=>
        refine kE.mk (bU (cX (aC rfl (av rfl rfl j1) (ak rfl) (.eq j2)))) ?_;refine⟨_,rfl,az (aj ?_)⟩;refine ay ?_;walk_at "m";exact nocell trivial fun m' σ₂ h=>by refine bv ?_;exact h
      | cell k=>
        have v1:=wP σ2 k;have i1:fc σ2 .NotIn (.int (k:Int)) (.ref am) (!decide (k∈M)):=by
          rw [←kU];exact .nin (.i hm2) rfl
        refine kE.mk (bU (cY (aC rfl (av rfl rfl j1) (ak rfl) (.eq j2)) (dw (aC rfl (av rfl rfl v1) (af rfl) i1)))) ?_;refine⟨_,rfl, ?_⟩
        by_cases hk:k∈M
        · refine ah (decide_eq_true hk) ?_<;>try rfl
          refine az (aj ?_);refine ay ?_;walk_at "m";exact nocell hk fun m' σ₂ h=>by refine bv ?_;exact h
        · refine ah (decide_eq_false hk) ?_<;>try rfl
          have hkC:k<C.length:=hws (.cell k) (by simp);have hML':M.length<C.length:=by
            have:=im C.length (k::M) (List.nodup_cons.mpr ⟨hk,hnd⟩) (fun z hz=>by
              rcases List.mem_cons.mp hz with rfl | hz
              · exact hkC
              · exact hM z hz)
            simp only [List.length_cons] at this;exact this
          have hw':ws'.length≤2*M.length:=by simp at hlen;exact hlen
          refine aF (ao (bX ?_));refine aE ‹_› ‹_› (by exact ak rfl) ?_;refine aE ‹_› ‹_› (by exact af rfl) ?_;refine aE ‹_› ‹_› (by exact av rfl rfl v1) ?_;have hset:lg (nc M) (k:Int) (.bool true)=nc (M++[k]):=by
            unfold lg;have:=kU M k;rw [if_neg]
            · simp [nc]
            · have e1:(nc M).any (fun kv=>decide (kv.1=(k:Int)))=decide (k∈M):=by
                refine ch this ?_;congr 1
              refine ah e1 ?_;simpa using hk
          refine⟨σ2.set am (jK (M++[k])),by rewrite [jK];refine ch hset ?_;exact .d hm2 (by rw [nc,List.length_map];exact wZ (wY (w0 hML' hz)) (wW rfl)), ?_⟩
          refine ay ?_;walk_at "m";have hle3:aH σ (σ2.set am (jK (M++[k]))):=fun a o ho=>by
            refine ah (wp (fun q=>by rw [q,ham] at ho;cases ho)) ?_;exact hle2 a o ho
          have hm3:(σ2.set am (jK (M++[k]))) am=some (jK (M++[k])):=wq _ _ _;have ha33:(σ2.set am (jK (M++[k]))) aw'=some (.list (ws'.map W.v)):=(wp ha2).trans ha32;generalize σ2.set am (jK (M++[k]))=σ3 at*;have S3:=S.le hle3;refine bP ?_ (S3.iK (a:=C[k].1) (d:=C[k].2) (w7 hkC));intro b1 f1 f2 f3 f4 f5;have f0:=S3.iC;have v3:=wP σ3 k;refine bE rfl (fun _=>rfl) (dK ?_);refine aE ‹_› ‹_› (by exact af rfl) ?_;refine aE ‹_› ‹_› (by exact a6 .s (av rfl rfl f0) (av rfl rfl v3) f2) ?_;refine kB ha33 f5 (by rewrite [List.length_map];refine ah sizeLine_eq ?_;simp;exact wV (wV hw' (Nat.mul_le_mul_left _ (wY (w0 hML' hz)))) (wW rfl)) fun c hc=> ?_
          walk_at "m";refine aj ?_;refine ay ?_;walk_at "m";refine aj ?_;refine bv ?_;have hcne:c≠am:=fun q=>by rw [q,hm3] at hc;exact sn hc
          have hle4:aH σ3 (σ3.set c (.list (ws'.map W.v++[C[k].1.v,C[k].2.v]))):=aH.set hc;have hc0:σ c=none:=by
            cases e:σ c with
            | none=>rfl
            | some o=>rw [hle3 _ _ e] at hc;exact sn hc
          have gain:∀z:W,(Ok (·∈M) z∨z∈ws'++[.cell k])→(Ok (·∈M++[k]) z∨z∈ws'++[C[k].1,C[k].2]):=fun z hz=>by
            rcases hz with h | h
            · exact .inl (h.mono fun j hj=>List.mem_append_left _ hj)
            · rcases List.mem_append.mp h with h | h
              · exact .inr (List.mem_append_left _ h)
              · refine ah (List.mem_singleton.mp h) ?_;exact .inl (by refine(?_:k∈M++[k]);simp)
          refine⟨(M++[k],ws'++[C[k].1,C[k].2]),by simp;exact lr (by assumption),hle3.trans hle4, ?_, ?_, ?_, ?_,gain _ hxx,by simp;exact Nat.add_le_add hw' (wW rfl),hle4 _ _ hm3,c,_,rfl,hc0,hcne, ?_⟩
          · rw [List.nodup_append]<;>try rfl
            exact⟨hnd,by simp,fun a ha b hb=>by refine ah (List.mem_singleton.mp hb) ?_;exact fun r=>hk (r▸ha)⟩
          · intro j hj
            rcases List.mem_append.mp hj with hj | hj
            · exact hM j hj
            · refine ah (List.mem_singleton.mp hj) ?_;exact hkC
          · intro z hz;refine uA ?_ (hC k C[k].1 C[k].2 hkC (w7 hkC));intro c1 c2
            rcases List.mem_append.mp hz with hz | hz
            · exact hws z (List.mem_append_left _ hz)
            · simp at hz
              rcases hz with rfl | rfl
              · exact c1
              · exact c2
          · intro j hj a d hc'
            rcases List.mem_append.mp hj with hj | hj
            · refine uA ?_ (hcl j hj a d hc');intro h1 h2;exact⟨gain _ h1,gain _ h2⟩
            · rw [List.mem_singleton.mp hj] at hc';rw [w7 hkC] at hc'
              cases hc'':C[k] with
              | mk u v=>
                rw [hc''] at hc'
                (refine oY ?_ hc';clear hc';intro e1 e2;subst e1;subst e2)
                exact⟨.inr (by simp), .inr (by simp)⟩
          · rewrite [wq];refine ah List.map_append ?_;rfl
  · refine⟨(aH.set ham).trans (aH.set haw),by simp,by simp,by simpa using hx,by simp, .inr (by simp),by simp, ?_,aw,none,rfl,haw0,Ne.symm hne, ?_⟩
    · exact(wp hne).trans (wq _ _ _)
    · exact wq _ _ _
end
end
section
noncomputable def Dk (σ:AH)(dk:Addr)(N:Nat):Prop:=∃(d0:Addr) (ds:List Int) (i:Nat),σ dk=some (.list [.ref d0, .int i])∧σ d0=some (.list (ds.map V.int))∧ds≠[]∧(∀d∈ds,0≤d∧d<2^40)∧ds.length≤100∧i≤N∧d0≠dk
theorem Dk.frame {σ σ':AH}{dk:Addr}{N:Nat}(h:Dk σ dk N)(k:∀a xs (i:Int),σ a=some (.list xs)→V.int i∈xs→σ' a=some (.list xs)):Dk σ' dk N:=by
  refine bJ ?_ h;clear h;intro d0 ds i h1 h2 h3;refine dF ?_;intro h4 h5 h6 h7;refine⟨d0,ds,i,k _ _ i h1 (by simp), ?_,h3,h4,h5,h6,h7⟩
  cases ds with
  | nil=>exact absurd rfl h3
  | cons d ds=>exact k _ _ d h2 (by simp)
theorem Dk.le {σ σ':AH}{dk:Addr}{N:Nat}(h:Dk σ dk N)(k:aH σ σ'):Dk σ' dk N:=h.frame fun _ _ _ e _=>k _ _ e
section
variable {B:Bs}{Pr:Params}{n:Nat}{Q:V→AH→Prop}{E:Str→AH→Prop}{σ:AH}{st Lc Lp Lo:Addr}{ls:List Addr}{C:St}{w x y e:W}{ks:List Nat}{as:List W}
theorem CS.notL (S:CS σ st Lc Lp Lo ls C){a:Addr}{xs:List V}{i:Int}(h:σ a=some (.list xs))(hi:V.int i∈xs):a≠Lc∧a∉ls∧a≠st:=by
  refine⟨fun q=> ?_,fun q=> ?_,fun q=> ?_⟩
  · rw [q,S.cells] at h;(refine tC ?_ h;clear h;intro e1;subst e1);refine aY ?_ (List.mem_map.mp hi);intro b _ hb
    cases hb
  · refine eu ?_ (List.getElem_of_mem q);rintro k hk rfl;have hk':k<C.length:=by refine ch S.len ?_;exact hk
    refine aY ?_ (S.at_ k (C[k]).1 (C[k]).2 (w7 hk'));intro b h1 h2;rw [w7 hk] at h1
    (refine sj ?_ h1;clear h1;intro e1;subst e1)
    rw [h] at h2;(refine tC ?_ h2;clear h2;intro e1;subst e1)
    cases hc:(C[k]).1<;>cases hd:(C[k]).2<;>rw [hc,hd] at hi<;>simp [W.v] at hi
  · rw [q,S.st] at h;cases h
theorem Dk.step {σ':AH}{ls':List Addr}{C':St}{dk:Addr}{N:Nat}(h:Dk σ dk N)(S:CS σ st Lc Lp Lo ls C)(x:aU σ st Lc Lp Lo ls C σ' ls' C'):Dk σ' dk N:=h.frame fun a xs i e hi=>by
  refine dc ?_ (S.notL e hi);intro h1 h2 _;exact x.fr a _ e h1 h2
theorem eO (hB:B.K=HK Pr)(hn:2≤n){dk:Addr}{N:Nat}(h:Dk σ dk N)(hN:N<1000000){many:Int}(hm:0<many)(hm2:many<2^40)
    (q:∀r σ',0≤r→r<many→Dk σ' dk (N+1)→(∀a o,σ a=some o→a≠dk→σ' a=some o)→Q (.int r) σ'):CV B n (.ref 507) [.ref dk, .int many] Q E σ:=by
  have K:=b9 hB;refine bJ ?_ h;clear h;intro d0 ds i h1 h2 h3;refine dF ?_;intro h4 h5 h6 h7;refine bm (by assumption) vJ rfl hn ?_;intro n' hn' hp;have t1:eJ σ (.ref dk) (.int 1) (.int i):= .l (.inl h1) rfl;refine ao (bX ?_);refine aE ‹_› ‹_› (cR (av rfl rfl t1) (ak rfl) .add) ?_;refine aE ‹_› ‹_› (af rfl) ?_;refine aE ‹_› ‹_› (ak rfl) ?_;refine⟨σ.set dk (.list [.ref d0, .int ((i:Int)+1)]), .l h1 1 rfl (wW rfl), ?_⟩;refine ay ?_;walk_at "m";have fr:∀a o,σ a=some o→a≠dk→(σ.set dk (.list [.ref d0, .int ((i:Int)+1)])) a=some o:=fun a o ho ha=>(wp ha).trans ho;have g1:(σ.set dk (.list [.ref d0, .int ((i:Int)+1)])) dk=some (.list [.ref d0, .int ((i:Int)+1)]):=wq _ _ _;have g2:=fr _ _ h2 h7;generalize σ.set dk (.list [.ref d0, .int ((i:Int)+1)])=σ1 at*;have D1:Dk σ1 dk (N+1):=⟨d0,ds,i+1,ah g1 (ah (show ((i+1:Nat):Int)=(i:Int)+1 by exact rfl) rfl),g2,h3,h4,h5,xc h6 _,h7⟩;have t0:eJ σ1 (.ref dk) (.int 0) (.ref d0):= .l (.inl g1) rfl;have t2:eJ σ1 (.ref dk) (.int 1) (.int ((i:Int)+1)):= .l (.inl g1) rfl;have t3:nw σ1 (.ref d0) (ds.length:Int):= .l' g2 (by rw [List.length_map]);have item:∀(j:Int) (hj:0≤j) (hj2:j<ds.length),∃d,0≤d∧d<2^40∧eJ σ1 (.ref d0) (.int j) (.int d):=fun j hj hj2=>by
    have hl:j.toNat<ds.length:=(Int.toNat_lt hj).mpr hj2;refine⟨ds[j.toNat],(h4 _ (List.getElem_mem _)).1,(h4 _ (List.getElem_mem _)).2, ?_⟩;exact .l (.inl g2) ((if_pos hj).trans (by refine ah List.getElem?_map (ah (w7 hl) ?_);rfl))
  refine bN ‹_› ‹_› (aC rfl (av rfl rfl t2) (bh .n (af rfl) (aA rfl (av rfl rfl t0)) (.len t3)) .lt) ?_;have hlen:0<(ds.length:Int):=by
    cases ds with
    | nil=>exact absurd rfl h3
    | cons d ds=>simp only [List.length_cons];exact Int.ofNat_lt.mpr (w0 (wW rfl) (xj _ _))
  by_cases hlt:(i:Int)+1<ds.length
  · refine ah (decide_eq_true hlt) ?_;refine bI ?_ (item ((i:Int)+1-1) (Int.le_trans (Int.natCast_nonneg i) (Int.le_of_eq (Int.add_sub_cancel _ _).symm)) (Int.lt_of_le_of_lt (Int.le_of_lt (Int.sub_lt_self _ ((by decide)))) hlt));intro d d1 d2 d3;have m1:=lm.mod (a:=d) hm;refine aF ?_;refine aN ‹_› ‹_› (cR (a6 .b (av rfl rfl t0) (cR (av rfl rfl t2) (ak rfl) .sub) d3) (af rfl) m1) ?_;exact q _ _ (Int.emod_nonneg _ (Int.ne_of_gt hm)) (Int.emod_lt_of_pos _ hm) D1 fr
  · refine ah (decide_eq_false hlt) ?_;refine az (aj ?_);refine ay ?_;walk_at "m";have m0:=lm.mod (a:=(i:Int)+1) hlen;refine bI ?_ (item (((i:Int)+1)%ds.length) (Int.emod_nonneg _ (Int.ne_of_gt hlen)) (Int.emod_lt_of_pos _ hlen));intro d d1 d2 d3;have m1:=lm.mul (a:=d) (b:=69069) d1 (Int.lt_of_lt_of_le d2 ((by decide))) ((by decide)) ((by decide));have m2:=lm.mul (a:=(i:Int)+1) (b:=40503) (Int.add_nonneg (Int.natCast_nonneg _) ((by decide))) (Int.lt_trans (Int.add_lt_add_right (Int.ofNat_lt.mpr (wZ h6 ‹N<1000000›)) 1) (by decide)) ((by decide)) ((by decide));have m3:=lm.mod (a:=d*69069+((i:Int)+1)*40503+12345) (b:=4294967291) ((by decide));have e1:=Int.emod_nonneg (d*69069+((i:Int)+1)*40503+12345) (b:=4294967291) ((by decide));have e2:=Int.emod_lt_of_pos (d*69069+((i:Int)+1)*40503+12345) (b:=4294967291) ((by decide));refine cx ‹_› ‹_› rfl (fun _=>rfl) (cR (cR (cR (cR (a6 .b (av rfl rfl t0) (cR (av rfl rfl t2) (bh .n (af rfl) (aA rfl (av rfl rfl t0)) (.len t3)) m0) d3) (ak rfl) m1) (cR (av rfl rfl t2) (ak rfl) m2) .add) (ak rfl) .add) (ak rfl) m3) ?_;generalize (d*69069+((i:Int)+1)*40503+12345)%4294967291=x at*;have m4:=lm.mod (a:=x) (b:=65521) ((by decide));have e3:=Int.emod_nonneg x (b:=65521) ((by decide));have e4:=Int.emod_lt_of_pos x (b:=65521) ((by decide));have m5:=lm.mul (a:=x) (b:=x%65521+1) e1 (Int.lt_of_lt_of_le e2 ((by decide))) (Int.add_nonneg (Int.emod_nonneg _ ((by decide))) ((by decide))) (Int.lt_trans (Int.add_lt_add_right e4 1) (by decide));have m6:=lm.mod (a:=x*(x%65521+1)+((i:Int)+1)) (b:=2147483629) ((by decide));have e5:=Int.emod_nonneg (x*(x%65521+1)+((i:Int)+1)) (b:=2147483629) ((by decide));have e6:=Int.emod_lt_of_pos (x*(x%65521+1)+((i:Int)+1)) (b:=2147483629) ((by decide));have m7:=lm.div (a:=(x*(x%65521+1)+((i:Int)+1))%2147483629) (b:=128) ((by decide)) ((by decide));have m8:=lm.mod (a:=(x*(x%65521+1)+((i:Int)+1))%2147483629/128) hm;refine aN ‹_› ‹_› (cR (cR (cR (cR (cR (af rfl) (cR (cR (af rfl) (ak rfl) m4) (ak rfl) .add) m5) (av rfl rfl t2) .add) (ak rfl) m6) (ak rfl) m7) (af rfl) m8) ?_;exact q _ _ (Int.emod_nonneg _ (Int.ne_of_gt hm)) (Int.emod_lt_of_pos _ hm) D1 fr
noncomputable def r8:ax:=[(".0", .loc none),("cell", .loc none),("abs", .glob (.bi "abs"))]
theorem mO (hB:B.K=HK Pr)(hn:2≤n){sc:Addr}{xs:List Int}(h:σ sc=some (.clist (xs.map V.int)))(hz:xs.length≤1000000)
    (q:∀dk σ',aH σ σ'→Dk σ' dk 0→Q (.ref dk) σ'):CV B n (.ref 500) [.ref sc] Q E σ:=by
  have K:=b9 hB;refine cO (by assumption) vI rfl hn ?_;intro n' hn' hp;refine aJ (a9 rfl (by simp) (dK (cS (dD hB) rfl rfl (bA (cJ ?_)))));refine aE ‹_› ‹_› (af rfl) ?_;refine aE ‹_› ‹_› (ak rfl) ?_;refine⟨40,rfl,sc,xs.map V.int,(xs.take 40).map V.int,rfl, .inr h,by refine ah List.map_take ?_;exact .take 40 rfl,fun b hb=>⟨b,_,rfl, .inl (wq _ _ _),fun Dd hDd=> ?_⟩⟩
  have hle1:aH σ (σ.set b (.list ((xs.take 40).map V.int))):=aH.set hb;have hb1:(σ.set b (.list ((xs.take 40).map V.int))) b=some (.list ((xs.take 40).map V.int)):=wq _ _ _;generalize σ.set b (.list ((xs.take 40).map V.int))=σ1 at*;have hne:b≠Dd:=fun q=>by rw [←q,hb1] at hDd;exact sn hDd
  have hlt:(xs.take 40).length≤40:=by simp;exact wV (Nat.min_le_left _ _) (w6 _)
  refine cw (xs:=(xs.take 40).map V.int) (fun(i:Nat) m σ'=>(∃o,m=(bp r8 [none,o]))∧∃ds:List Int,ds.length=i∧(∀d∈ds,0≤d∧d<2^40)∧σ'=σ1.set Dd (.list (ds.map V.int))) ?_ ?_ ?_ 0 _ _ (xd _) ⟨⟨none,rfl⟩,[],rfl,by first | rfl | simp,rfl⟩
  · intro i m σ';refine cq ?_;rintro _ ds _ _ rfl _;exact .inl ((wp hne).trans hb1)
  · intro i v m σ';refine cq ?_;refine uE ?_;rintro o rfl ds hdl hds rfl hv;rw [List.getElem?_map] at hv;refine aY ?_ (Option.map_eq_some_iff.mp hv);rintro z hv2 rfl;have hi:i<(xs.take 40).length:=(List.getElem?_eq_some_iff.mp hv2).1;refine⟨⟨o,rfl⟩, ?_⟩;have m1:=lm.mod (a:=if z<0 then-z else z) (b:=1000003) (by exact(by decide));have e5:=Int.emod_nonneg (if z<0 then-z else z) (b:=1000003) (by exact(by decide));have e6:=Int.emod_lt_of_pos (if z<0 then-z else z) (b:=1000003) (by exact(by decide))
    refine(?_:EV B n' _ _ _ _ _)
    refine aE ‹_› ‹_› (by exact cR (bh .n (af rfl) (aA rfl (af rfl)) .abs) (ak rfl) m1) ?_;refine⟨_,wq _ _ _,by rewrite [List.length_map];refine ah sizeLine_eq ?_;exact wZ (wV (wX hdl) (wY (w0 hi hlt))) (wW rfl),⟨_,rfl⟩,ds++[(if z<0 then-z else z)%1000003],by simp [hdl], ?_, ?_⟩
    · intro d hd
      rcases List.mem_append.mp hd with hd | hd
      · exact hds d hd
      · refine ah (List.mem_singleton.mp hd) ?_;exact⟨e5,Int.lt_trans e6 (by decide)⟩
    · rewrite [wt];refine ah List.map_append ?_;rfl
  · intro m σ';refine cq ?_;rintro _ ds hdl hds rfl;rw [List.length_map] at hdl;have hle2:aH σ (σ1.set Dd (.list (ds.map V.int))):=hle1.trans (aH.set hDd);have g1:(σ1.set Dd (.list (ds.map V.int))) Dd=some (.list (ds.map V.int)):=wq _ _ _;generalize σ1.set Dd (.list (ds.map V.int))=σ2 at*;have h2:=hle2 _ _ h;have t3:nw σ2 (.ref sc) (xs.length:Int):= .c' h2 (by rw [List.length_map]);refine a9 rfl (by simp) ?_;refine aE ‹_› ‹_› (by exact cR (bh .n (af rfl) (aA rfl (af rfl)) (.len t3)) (ak rfl) .add) ?_;intro c hc;have hc1:(σ2.set c (.list [.int ((xs.length:Int)+5)])) c=some (.list [.int ((xs.length:Int)+5)]):=wq _ _ _;have hle3:aH σ2 (σ2.set c (.list [.int ((xs.length:Int)+5)])):=aH.set hc;have g2:=hle3 _ _ g1;generalize σ2.set c (.list [.int ((xs.length:Int)+5)])=σ3 at*;refine kB g2 hc1 (by rewrite [List.length_map];refine ah sizeLine_eq ?_;simp;exact wV (wV (wX hdl) hlt) (wW rfl)) fun d0 hd0=> ?_;refine aE ‹_› ‹_› (by exact ak rfl) ?_;intro dk hdk;have hd1:(σ3.set d0 (.list (ds.map V.int++[.int ((xs.length:Int)+5)]))) d0=some (.list (ds.map V.int++[.int ((xs.length:Int)+5)])):=wq _ _ _;have hne2:d0≠dk:=fun q=>by rw [←q,hd1] at hdk;exact sn hdk
    refine q dk _ (((hle2.trans hle3).trans (aH.set hd0)).trans (aH.set hdk)) ⟨d0,ds++[(xs.length:Int)+5],0,wq _ _ _, ?_,by simp, ?_,by simp;exact wV (wV (wX hdl) hlt) (wW rfl),w6 _,hne2⟩
    · refine ah (wp hne2) ?_;rewrite [wq];refine ah List.map_append ?_;rfl
    · intro d hd
      rcases List.mem_append.mp hd with hd | hd
      · exact hds d hd
      · refine ah (List.mem_singleton.mp hd) ?_;exact⟨Int.add_nonneg (Int.natCast_nonneg _) (by decide),Int.lt_of_le_of_lt (Int.add_le_add_right (Int.ofNat_le.mpr (by assumption)) 5) (by decide)⟩
end
end
section
noncomputable def gA (P:Nat→Addr)(ps:List Nat):List (Int×V):=ps.map fun(k:Nat)=>((k:Int),V.ref (P k))
theorem iL (P:Nat→Addr):∀(ps:List Nat) (k:Nat),fO (gA P ps) (k:Int)=if k∈ps then some (.ref (P k)) else none
  | [],k=>(if_neg List.not_mem_nil).symm
  | j::ps,k=>by
    have ih:=iL P ps k;unfold gA at ih⊢;refine ah List.map_cons ?_;refine(?_:(if ((j:Int)=k) then some (V.ref (P j)) else fO (ps.map fun(k:Nat)=>((k:Int),V.ref (P k))) (k:Int))=_)
    by_cases q:j=k
    · subst q;simp
    · (refine ah (if_neg (by exact fun z=>q (Int.ofNat_inj.mp z))) (ah ih ?_))
      by_cases q2:k∈ps
      · exact(if_pos q2).trans ((if_pos (.tail _ q2)).symm)
      · (exact(if_neg q2).trans ((if_neg (by intro h;rcases List.mem_cons.mp h with h | h;exact q h.symm;exact q2 h)).symm))
theorem q6 (P:Nat→Addr)(ps:List Nat){k:Nat}(h:k∉ps):lg (gA P ps) (k:Int) (.ref (P k))=gA P (ps++[k]):=by
  unfold lg;rewrite [if_neg];rewrite [gA];rewrite [gA];refine ah List.map_append ?_;rfl;intro q;rw [List.any_eq_true] at q;refine aY ?_ q;clear q;intro e h1 h2;refine aY ?_ (List.mem_map.mp h1);rintro j h3 rfl;have h4:decide ((j:Int)=(k:Int))=true:=h2;rw [decide_eq_true_eq] at h4;have:j=k:=Int.ofNat_inj.mp h4;exact h (this▸h3)
noncomputable def dT (a:Addr)(σ σ':AH):Prop:=∀b o,σ b=some o→b≠a→σ' b=some o
theorem dT.refl (a:Addr)(σ:AH):dT a σ σ:=fun _ _ h _=>h
theorem dT.trans {a:Addr}{σ₁ σ₂ σ₃:AH}(x:dT a σ₁ σ₂)(y:dT a σ₂ σ₃):dT a σ₁ σ₃:=fun b o h n=>y b o (x b o h n) n
theorem dT.le {a:Addr}{σ₁ σ₂ σ₃:AH}(x:dT a σ₁ σ₂)(y:aH σ₂ σ₃):dT a σ₁ σ₃:=fun b o h n=>y b o (x b o h n)
theorem dT.new {a:Addr}{σ₁ σ₂:AH}{c:Addr}{o:bL}(x:dT a σ₁ σ₂)(h:σ₁ c=none):dT a σ₁ (σ₂.set c o):=fun b o' e n=>by
  exact(wp (fun q=>by rw [q,h] at e;cases e)).trans (x b o' e n)
theorem dT.self {a:Addr}{σ₁ σ₂:AH}{o:bL}(x:dT a σ₁ σ₂):dT a σ₁ (σ₂.set a o):=fun b o' e n=>by
  exact(wp n).trans (x b o' e n)
section
variable {B:Bs}{Pr:Params}{n:Nat}{Q:V→AH→Prop}{E:Str→AH→Prop}{σ σ':AH}{st Lc Lp Lo:Addr}{ls:List Addr}{C:St}{D:Nat→Prop}{P:Nat→Addr}{w x y e:W}{ks:List Nat}{as:List W}{ps:List Nat}
theorem Lk.frX (L:Lk σ C D P){es:List (Int×V)}(h:σ Lp=some (.idict es))(k:dT Lp σ σ'):Lk σ' C D P:=by
  refine⟨k _ _ L.nil (fun q=>by rw [←q,L.nil] at h;cases h),fun j hj=> ?_,L.inj⟩;refine bk ?_ (L.at_ j hj);intro a d h1 h2 h3 h4;exact⟨a,d,h1,h2,h3,k _ _ h4 (fun q=>by rw [←q,h4] at h;cases h)⟩
theorem CS.frX (S:CS σ st Lc Lp Lo ls C){es:List (Int×V)}(h:σ Lp=some (.idict es))(k:dT Lp σ σ'):CS σ' st Lc Lp Lo ls C:=by
  refine⟨k _ _ S.st (fun q=>by rw [←q,S.st] at h;cases h),k _ _ S.cells (fun q=>by rw [←q,S.cells] at h;cases h),S.len,fun j a d e=> ?_,S.nd⟩;refine aY ?_ (S.at_ j a d e);intro b h1 h2;exact⟨b,h1,k _ _ h2 (fun q=>by rw [←q,h2] at h;cases h)⟩
noncomputable def ms (P:Nat→Addr)(w:W):V:= .tup [ev P w,w.v]
theorem dX {m:ax}{t:Expr}{body orelse rest:List Stmt}{pos:Pos}{Q:cM→ax→AH→Prop}(h:TV B n m t (fun b σ₁=>if b=true then bu B n m body (ln B n rest Q E) E σ₁ else bu B n m orelse (ln B n rest Q E) E σ₁) E σ):bu B n m (.If t body orelse pos::rest) Q E σ:=by
  refine ao (ew (TV.mono h fun b σ₁ hb=> ?_))
  cases b<;>simpa using hb
noncomputable def mG:ax:=[("state", .loc none),("told_here", .loc none),("due", .loc none),("waiting", .loc none),("own", .cel none),("value", .loc none),("known", .loc none),("isinstance", .glob (.bi "isinstance")),("Cons", .glob (.ref 82)),("NIL", .glob (.ref 64)),("bool", .glob (.ty "bool")),("int", .glob (.ty "int"))]
theorem di (hB:B.K=HK Pr)(hn:2≤n)(S:CS σ st Lc Lp Lo ls C)(L:Lk σ C D P)(hp:σ Lp=some (.idict (gA P ps)))(hnd:ps.Nodup)(hps:∀k∈ps,D k)(hw:Ok D w)(hz:C.length≤1000)
    (q:∀σ' ps',(∀k∈ps,k∈ps')→ps'.Nodup→(∀k∈ps',D k)→Ok (·∈ps') w→(Cl C (·∈ps)→Cl C (·∈ps'))→σ' Lp=some (.idict (gA P ps'))→dT Lp σ σ'→Q (.bool true) σ'):CV B n (.ref 587) [.ref st,ev P w,w.v] Q E σ:=by
  have K:=b9 hB;refine bg (by assumption) vR rfl hn ?_;intro n' hn' hp0;walk_at "m";refine bE rfl (fun _=>rfl) (a9 rfl (by simp) ?_);refine aE ‹_› ‹_› (bD (wW rfl) (aD rfl (af rfl) (af rfl))) ?_;intro wl hwl;walk_at "m";have hlp:wl≠Lp:=fun q=>by rw [q,hp] at hwl;exact sn hwl
  refine ao (cc ?_);refine dz (ι:=List Nat×List W) (fun i m σ'=>(∀k∈ps,k∈i.1)∧i.1.Nodup∧(∀k∈i.1,D k)∧(∀z∈i.2,Ok D z)∧(∀k∈i.1,k∈ps∨∀a d,C[k]?=some (a,d)→(Ok (·∈i.1) a∨a∈i.2)∧(Ok (·∈i.1) d∨d∈i.2))∧(Ok (·∈i.1) w∨w∈i.2)∧i.2.length≤i.1.length+1∧
    dT Lp σ σ'∧σ' Lp=some (.idict (gA P i.1))∧σ' wl=some (.list (i.2.map (ms P)))∧∃o1 o2 o3,m=(bp mG [(some (.ref st)),(some (ev P w)),(some (w.v)),(some (.ref wl)),o1,o2,o3])) (fun i=>3*(C.length-i.1.length)+i.2.length) ?_ (ps,[w]) _ _ ?_
  · rintro ⟨ps',ws⟩ m σ';refine iQ ?_;intro hsub hnd' hD' hws hcl hww;refine cf ?_;intro hlen hfr hp' hwl';refine gG ?_;rintro o1 o2 o3 rfl;dsimp only at*;have hPL:ps'.length≤C.length:=im _ _ hnd' fun k hk=>L.lt (hD' k hk);refine gi K hp0 ?_;refine kE.mk (af rfl) ?_;refine⟨wl,_,rfl,hwl',fun b hb=> ?_⟩;have hleb:aH σ' (σ'.set b (.list [])):=aH.set hb;have hfr1:=hfr.le hleb;have hp1:=hleb _ _ hp';have hwl1:=hleb _ _ hwl';generalize σ'.set b (.list [])=σ1 at*
    rcases List.eq_nil_or_concat ws with rfl | ⟨ws',z,rfl⟩
    · refine az ?_;refine ay ?_;walk_at "m";refine aN ‹_› ‹_› (by exact ak rfl) ?_;refine q σ1 ps' hsub hnd' hD' (hww.elim id fun h=>by cases h) (fun hc k a d hk hkc=> ?_) hp1 hfr1
      rcases hcl k hk with h | h
      · refine uA ?_ (hc k a d h hkc);intro h1 h2;exact⟨h1.mono hsub,h2.mono hsub⟩
      · refine uA ?_ (h a d hkc);intro h1 h2;exact⟨h1.elim id (fun h=>by cases h),h2.elim id (fun h=>by cases h)⟩
    · rw [List.concat_eq_append] at*;rw [List.map_append] at hwl1⊢;refine ah (show decide (List.map (ms P) ws'++List.map (ms P) [z]=[])=false by simp) ?_;have hz1:Ok D z:=hws z (by simp);refine aF (ao (aS (.cons (.cons .nil)) rfl (cb .n rfl (by decide) (by decide) ?_)));refine aE ‹_› ‹_› (by exact af rfl) ?_;refine⟨"list.pop", .pop hwl1,iT (xs:=ws'.map (ms P)) hwl1 ⟨_,rfl,rfl, ?_⟩⟩;refine ay ?_;walk_at "m";have hfr2:dT Lp σ (σ1.set wl (.list (ws'.map (ms P)))):=hfr1.new hwl;have hp2:(σ1.set wl (.list (ws'.map (ms P)))) Lp=some (.idict (gA P ps')):=(wp (Ne.symm hlp)).trans hp1;have hwl2:(σ1.set wl (.list (ws'.map (ms P)))) wl=some (.list (ws'.map (ms P))):=wq _ _ _;generalize σ1.set wl (.list (ws'.map (ms P)))=σ2 at*;have L2:=L.frX hp hfr2;have S2:=S.frX hp hfr2;have j1:=wT σ2 z;have j2:=fb σ2 z;have skip:(Ok (·∈ps') z)→∀z':W,(Ok (·∈ps') z'∨z'∈ws'++[z])→(Ok (·∈ps') z'∨z'∈ws'):=fun hw z hz=>by
        rcases hz with h | h
        · exact .inl h
        · rcases List.mem_append.mp h with h | h
          · exact .inr h
          · refine ah (List.mem_singleton.mp h) ?_;exact .inl hw
      have done:Ok (·∈ps') z→∀o3,∃i':List Nat×List W,3*(C.length-i'.1.length)+i'.2.length<3*(C.length-ps'.length)+(ws'++[z]).length∧((∀k∈ps,k∈i'.1)∧i'.1.Nodup∧(∀k∈i'.1,D k)∧(∀z∈i'.2,Ok D z)∧(∀k∈i'.1,k∈ps∨∀a d,C[k]?=some (a,d)→(Ok (·∈i'.1) a∨a∈i'.2)∧(Ok (·∈i'.1) d∨d∈i'.2))∧(Ok (·∈i'.1) w∨w∈i'.2)∧i'.2.length≤i'.1.length+1∧
    dT Lp σ σ2∧σ2 Lp=some (.idict (gA P i'.1))∧σ2 wl=some (.list (i'.2.map (ms P)))∧∃o1 o2 o3',(bp mG [(some (.ref st)),(some (ev P w)),(some (w.v)),(some (.ref wl)),(some (ev P z)),(some (z.v)),o3])=(bp mG [(some (.ref st)),(some (ev P w)),(some (w.v)),(some (.ref wl)),o1,o2,o3'])):=fun hz o3=>by
        refine⟨(ps',ws'),by simp,hsub,hnd',hD',fun y hy=>hws y (List.mem_append_left _ hy),fun k hk=> ?_,skip hz _ hww,by simp at hlen⊢;exact wV hlen (w9 _ _),hfr2,hp2,hwl2,_,_,_,rfl⟩
        rcases hcl k hk with h | h
        · exact .inl h
        · exact .inr fun a d hc=>⟨skip hz _ (h a d hc).1,skip hz _ (h a d hc).2⟩
      refine bN ‹_› ‹_› (by exact aC rfl (av rfl rfl j1) (ak rfl) (.eq j2)) ?_
      cases z with
      | num i=>
        have j3:=sE σ2 (.num i);rw [decide_eq_false (by simp)] at j3;refine az ?_;refine rM ‹_› ‹_› (by exact aC rfl (av rfl rfl j1) (ak rfl) (.eq j3)) (by rfl) ?_;refine a7 K hp0 ?_;have v1:=wS σ2 i;have c1:fc σ2 .NotEq (.int i) (.int i) false:= .ne (b:=true) (beq_self_eq_true i▸ .a (.i i i)) rfl;refine kE.mk (bU (j6 (bh .n (af rfl) (aD rfl (af rfl) (af rfl)) (.isi .int rfl)) (nF (oA (bh .n (af rfl) (aD rfl (af rfl) (af rfl)) (.isi .int rfl))) (aC rfl (af rfl) (av rfl rfl v1) c1)))) ?_;refine⟨_,rfl,az (aj ?_)⟩;refine ay ?_;walk_at "m"
        iterate 5 (try (refine aj ?_;((first | refine ay ?_ | refine bv ?_);try walk_at "m")))
        exact done trivial _
      | nil=>
        have j3:=sE σ2 .nil;rw [decide_eq_true rfl] at j3;refine az ?_;refine bO ‹_› ‹_› (by exact aC rfl (av rfl rfl j1) (ak rfl) (.eq j3)) (by rfl) ?_;refine a7 K hp0 ?_;have c1:fc σ2 .IsNot (.ref 64) (.ref 64) false:= .isn (b:=true) (.r' L2.nil L2.nil rfl) rfl;refine kE.mk (aC rfl (af rfl) (af rfl) c1) ?_;refine⟨_,rfl,az (aj ?_)⟩;refine ay ?_;walk_at "m"
        iterate 5 (try (refine aj ?_;((first | refine ay ?_ | refine bv ?_);try walk_at "m")))
        exact done trivial _
      | cell k=>
        have hk:D k:=hz1;have f0:=S2.iP;have v1:=wP σ2 k;have g0:=iL P ps' k;refine aF (bE rfl (fun _=>rfl) (cb .s rfl (by decide) (by decide) ?_));refine aE ‹_› ‹_› (by exact av rfl rfl f0) ?_;refine⟨"dict.get", .get hp2, ?_⟩;refine aE ‹_› ‹_› (by exact av rfl rfl v1) ?_;refine aE ‹_› ‹_› (by exact ak rfl) ?_;refine rA hp2 ?_;refine ah g0 ?_;walk_at "m";refine bk ?_ (L2.at_ k hk);intro a d ck oka okd hat;have hkC:k<C.length:=L.lt hk;have cl1:qp σ2 (.ref (P k)) .cons:=L2.cls (w:= .cell k) hk
        by_cases hkp:k∈ps'
        · dsimp+zetaDelta only;refine ah (if_pos hkp) ?_<;>try rfl
          have c1:fc σ2 .IsNot (.ref (P k)) .none true:= .isn (.f rfl) rfl;have c2:fc σ2 .IsNot (.ref (P k)) (.ref (P k)) false:= .isn (b:=true) (.r' hat hat (beq_self_eq_true _)) rfl;have c3:fc σ2 .Is (.ref (P k)) .none false:= .is (.f rfl);refine eg ‹_› ‹_› (by exact bU (nF (oA (bh .n (af rfl) (aD rfl (af rfl) (af rfl)) (.isi cl1 rfl))) (bU (cY (aC rfl (af rfl) (ak rfl) c1) (dw (aC rfl (af rfl) (af rfl) c2)))))) (by rfl) ?_
          refine eg ‹_› ‹_› (by exact aC rfl (af rfl) (ak rfl) c3) (by rfl) ?_
          iterate 5 (try (refine aj ?_;((first | refine ay ?_ | refine bv ?_);try walk_at "m")))
          exact done hkp _
        · dsimp+zetaDelta only;refine ah (if_neg hkp) ?_<;>try rfl
          have c1:fc σ2 .IsNot .none .none false:= .isn .n rfl;have c3:fc σ2 .Is .none .none true:= .is .n;refine eg ‹_› ‹_› (by exact bU (nF (oA (bh .n (af rfl) (aD rfl (af rfl) (af rfl)) (.isi cl1 rfl))) (bU (cX (aC rfl (af rfl) (ak rfl) c1))))) (by rfl) ?_
          refine bO ‹_› ‹_› (by exact aC rfl (af rfl) (ak rfl) c3) (by rfl) ?_;refine dX (cD (lx (y:="own") (own:=P k) rfl rfl (by simp) (by rw [ne_eq,ba];decide) rfl .s rfl K hp0 rfl (by refine ah hat ?_;rfl) ?_) rfl);refine kE.mk (av rfl rfl f0) ?_;refine⟨Lp,_,rfl,hp2,fun e he=> ?_,fun Dd hDd=>a9 rfl (by simp) fun b2 hb2=>ef (c:=false) ?_ ⟨_,rfl,az (aj ?_)⟩ hp0⟩
          · refine aY ?_ (List.mem_map.mp he);rintro j hj rfl;refine⟨P j,rfl, ?_,fun q=>hkp ?_⟩
            · refine bk ?_ (L2.at_ j (hD' j hj));intro _ _ _ _ _ hh;refine ah hh ?_;rfl
            · refine ch (L.inj j k (hD' j hj) hk q) ?_;exact hj
          · exact .ne (kP (wq _ _ _) hb2) rfl
          refine ay ?_;walk_at "m";have hDσ:σ Dd=none:=by
            cases e:σ Dd with
            | none=>rfl
            | some o=>
              by_cases qd:Dd=Lp
              · rw [qd,hp2] at hDd;exact sn hDd
              · rw [hfr2 _ _ e qd] at hDd;exact sn hDd
          have hleD:aH σ2 ((σ2.set Dd (.list [])).set b2 (.list [])):=(aH.set hDd).trans (aH.set hb2);have hfr3:=hfr2.le hleD;have hp3:=hleD _ _ hp2;have hwl3:=hleD _ _ hwl2;generalize (σ2.set Dd (.list [])).set b2 (.list [])=σ3 at*;have S3:=S.frX hp hfr3;have f3:=S3.iP;have v3:=wP σ3 k;refine ao (bX ?_);refine aE ‹_› ‹_› (by exact af rfl) ?_;refine aE ‹_› ‹_› (by exact av rfl rfl f3) ?_;refine aE ‹_› ‹_› (by exact av rfl rfl v3) ?_;refine⟨σ3.set Lp (.idict (gA P (ps'++[k]))),q6 P ps' hkp▸ .d hp3 (by rw [gA,List.length_map];exact wZ (wV hPL hz) (wW rfl)), ?_⟩;refine ay ?_;walk_at "m";have hfr4:dT Lp σ (σ3.set Lp (.idict (gA P (ps'++[k])))):=hfr3.self;have hp4:(σ3.set Lp (.idict (gA P (ps'++[k])))) Lp=some (.idict (gA P (ps'++[k]))):=wq _ _ _;have hwl4:(σ3.set Lp (.idict (gA P (ps'++[k])))) wl=some (.list (ws'.map (ms P))):=(wp hlp).trans hwl3;generalize σ3.set Lp (.idict (gA P (ps'++[k])))=σ4 at*;have S4:=S.frX hp hfr4;have L4:=L.frX hp hfr4;refine cf ?_ (L4.car hk ck);intro a1 a2 _ _ _;refine bP ?_ (S4.iK ck);intro b1 f1 f2 f4 f5 f6;have f0':=S4.iC;have v4:=wP σ4 k;have s1:=aR P a;have s2:=aR P d;have hlen':ws'.length≤ps'.length:=by simp at hlen;exact hlen
          refine cz K hp0 .n rfl rfl ?_;refine kE.mk (af rfl) (kE.mk (bD (wW rfl) (aD rfl (cF .n (af rfl) a1 (aO _ _)) (a6 .c (a6 .s (av rfl rfl f0') (av rfl rfl v4) f2) (ak rfl) f4))) ?_);refine⟨wl,_,rfl,hwl4,by rewrite [List.length_map];refine ah sizeLine_eq ?_;exact wZ (wV hlen' (wV hPL hz)) (wW rfl), ?_⟩
          have hfr5:dT Lp σ (σ4.set wl (.list (ws'.map (ms P)++[.tup [ev P a,a.v]]))):=hfr4.new hwl;have hp5:(σ4.set wl (.list (ws'.map (ms P)++[.tup [ev P a,a.v]]))) Lp=some (.idict (gA P (ps'++[k]))):=(wp (Ne.symm hlp)).trans hp4;have hwl5:(σ4.set wl (.list (ws'.map (ms P)++[.tup [ev P a,a.v]]))) wl=some (.list (ws'.map (ms P)++[.tup [ev P a,a.v]])):=wq _ _ _;generalize σ4.set wl (.list (ws'.map (ms P)++[.tup [ev P a,a.v]]))=σ5 at*;have S5:=S.frX hp hfr5;have L5:=L.frX hp hfr5;refine cf ?_ (L5.car hk ck);intro a1 a2 _ _ _;refine bP ?_ (S5.iK ck);intro b1 f1 f2 f4 f5 f6;have f0':=S5.iC;have v4:=wP σ5 k;refine cz K hp0 .n rfl rfl ?_;refine kE.mk (af rfl) (kE.mk (bD (wW rfl) (aD rfl (cF .n (af rfl) a2 (aO _ _)) (a6 .c (a6 .s (av rfl rfl f0') (av rfl rfl v4) f2) (ak rfl) f5))) ?_);refine⟨wl,_,rfl,hwl5,by refine ah List.length_append ?_;rewrite [List.length_map];refine ah sizeLine_eq ?_;simp;exact wZ (xc (wV hlen' (wV hPL hz)) _) (wW rfl), ?_⟩
          iterate 5 (try (refine aj ?_;((first | refine ay ?_ | refine bv ?_);try walk_at "m")))
          have hML':ps'.length<C.length:=by
            have:=im C.length (k::ps') (List.nodup_cons.mpr ⟨hkp,hnd'⟩) (fun z hz=>by
              rcases List.mem_cons.mp hz with rfl | hz
              · exact hkC
              · exact L.lt (hD' z hz))
            simp only [List.length_cons] at this;exact this
          have gain:∀z:W,(Ok (·∈ps') z∨z∈ws'++[.cell k])→(Ok (·∈ps'++[k]) z∨z∈ws'++[a]++[d]):=fun z hz=>by
            rcases hz with h | h
            · exact .inl (h.mono fun j hj=>List.mem_append_left _ hj)
            · rcases List.mem_append.mp h with h | h
              · exact .inr (List.mem_append_left _ (List.mem_append_left _ h))
              · refine ah (List.mem_singleton.mp h) ?_;exact .inl (by refine(?_:k∈ps'++[k]);simp)
          refine⟨(ps'++[k],ws'++[a]++[d]),by simp;lia,fun j hj=>List.mem_append_left _ (hsub j hj), ?_, ?_, ?_, ?_,gain _ hww,by simp;exact hlen',hfr5.new hwl,(wp (Ne.symm hlp)).trans hp5, ?_,_,_,_,rfl⟩
          · rw [List.nodup_append]<;>try rfl
            exact⟨hnd',by simp,fun a ha b hb=>by refine ah (List.mem_singleton.mp hb) ?_;exact fun r=>hkp (r▸ha)⟩
          · intro j hj
            rcases List.mem_append.mp hj with hj | hj
            · exact hD' j hj
            · refine ah (List.mem_singleton.mp hj) ?_;exact hk
          · intro z hz
            rcases List.mem_append.mp hz with hz | hz
            · rcases List.mem_append.mp hz with hz | hz
              · exact hws z (List.mem_append_left _ hz)
              · refine ah (List.mem_singleton.mp hz) ?_;exact oka
            · refine ah (List.mem_singleton.mp hz) ?_;exact okd
          · intro j hj
            rcases List.mem_append.mp hj with hj | hj
            · rcases hcl j hj with h | h
              · exact .inl h
              · exact .inr fun a' d' hc=>⟨gain _ (h a' d' hc).1,gain _ (h a' d' hc).2⟩
            · refine ah (List.mem_singleton.mp hj) ?_<;>try rfl
              refine .inr fun a' d' hc=> ?_;rw [ck] at hc;(refine oY ?_ hc;clear hc;intro e1 e2;subst e1;subst e2);exact⟨.inr (by simp), .inr (by simp)⟩
          · rewrite [wq];refine ah List.map_append (ah List.map_append ?_);rfl
  · refine⟨fun _ h=>h,hnd,hps,by simpa using hw,fun k hk=> .inl hk, .inr (by simp),by simp,(dT.refl _ _).new hwl,(wp (Ne.symm hlp)).trans hp, ?_,none,none,none,rfl⟩
    exact wq _ _ _
end
end
section
section
variable {B:Bs}{Pr:Params}{n:Nat}{Q:V→AH→Prop}{E:Str→AH→Prop}{σ:AH}{st Lc Lp Lo:Addr}{ls:List Addr}{C:St}{w x y e:W}{ks:List Nat}{as:List W}{al:Addr}{j:Nat}
theorem CS.upd (S:CS σ st Lc Lp Lo ls C){k:Nat}{a d:W}(h:C[k]?=some (a,d))(a' d':W):∃b,ls[k]?=some b∧σ b=some (.list [a.v,d.v])∧aU σ st Lc Lp Lo ls C (σ.set b (.list [a'.v,d'.v])) ls (C.set k (a',d')):=by
  refine aY ?_ (S.at_ k a d h);intro b h1 h2;have hb:b∈ls:=List.mem_of_getElem? h1;refine dc ?_ (S.ne hb);intro n1 n2 n3;have hk:k<C.length:=(List.getElem?_eq_some_iff.mp h).1;refine⟨b,h1,h2,⟨(wp (Ne.symm n2)).trans S.st,(wp (Ne.symm n1)).trans S.cells,S.len.trans List.length_set.symm,fun i p r hi=> ?_,S.nd⟩,fun c o hc _ hn=>(wp (fun q=>hn (by refine ah q ?_;exact hb))).trans hc,fun _ h=> .inl h⟩
  by_cases q:i=k
  · subst q;rw [List.getElem?_set_self hk] at hi
    (refine oY ?_ hi;clear hi;intro e1 e2;subst e1;subst e2)
    exact⟨b,h1,wq _ _ _⟩
  · rw [List.getElem?_set_ne (Ne.symm q)] at hi;refine aY ?_ (S.at_ i p r hi);intro c g1 g2;refine⟨c,g1,(wp fun qq=>q ?_).trans g2⟩;subst qq;refine uE ?_ (List.getElem?_eq_some_iff.mp g1);intro l1 e1;refine uE ?_ (List.getElem?_eq_some_iff.mp h1);intro l2 e2;exact e9 S.nd l1 l2 (e1.trans e2.symm)
theorem sA (hB:B.K=HK Pr)(hn:4≤n)(S:CS σ st Lc Lp Lo ls C)(hz:C.length<1000)(ha:σ al=some (.list [x.v,y.v]))(q:∀σ' ls',aU σ st Lc Lp Lo ls C σ' ls' (C++[(x,y)])→Q (W.cell C.length).v σ'):CV B n (.ref 563) [.ref st, .str "cons", .ref al] Q E σ:=by
  have K:=b9 hB;have h0:=aT ha;have h1:=bV ha;refine bg (by assumption) gM rfl (ar hn rfl) ?_;intro n' hn' hp;walk_at "m";refine bO ‹_› ‹_› (bQ rfl) (by rfl) ?_;refine cA ‹_› ‹_› .n (af rfl) (bG rfl (af rfl) (av rfl rfl h0) (av rfl rfl h1)) (aB ‹_› rfl) ?_;exact fX hB (aq hn' hn rfl) S hz q
theorem sB (hB:B.K=HK Pr)(hn:4≤n)(S:CS σ st Lc Lp Lo ls C)(hz:C.length+as.length<1000)(ha:σ al=some (.list (as.map W.v)))(q:∀σ' ls',aU σ st Lc Lp Lo ls C σ' ls' (C++dO C.length as.reverse .nil)→Q (dS C.length as.length .nil).v σ'):CV B n (.ref 563) [.ref st, .str "list", .ref al] Q E σ:=by
  have K:=b9 hB;refine bg (by assumption) gM rfl (ar hn rfl) ?_;intro n' hn' hp;walk_at "m";refine aM ‹_› ‹_› rfl rfl ?_;refine bO ‹_› ‹_› (bQ rfl) (by rfl) ?_;refine cA ‹_› ‹_› .n (af rfl) (bG rfl (af rfl) (af rfl) (bD (wW rfl) (aA rfl (ak rfl)))) (aB ‹_› rfl) ?_;exact cQ (e:= .nil) hB (aq hn' hn rfl) S ha hz q
theorem ro (hB:B.K=HK Pr)(hn:4≤n)(S:CS σ st Lc Lp Lo ls C)(hx:∀k,x= .cell k→k<C.length)(ha:σ al=some (.list [x.v]))(q:Q (oV (fq C x)) σ):CV B n (.ref 563) [.ref st, .str "car", .ref al] Q E σ:=by
  have K:=b9 hB;have h0:=aT ha;refine bg (by assumption) gM rfl (ar hn rfl) ?_;intro n' hn' hp;walk_at "m";refine aM ‹_› ‹_› rfl rfl ?_;refine aM ‹_› ‹_› rfl rfl ?_;refine bO ‹_› ‹_› (jj rfl) (by rfl) ?_;refine cA ‹_› ‹_› .n (af rfl) (bG rfl (af rfl) (av rfl rfl h0) (bh .n (af rfl) (aA rfl (bQ rfl)) .int)) (aB ‹_› rfl) ?_;exact eP (d:=false) hB (aq hn' hn rfl) S hx q
theorem rq (hB:B.K=HK Pr)(hn:4≤n)(S:CS σ st Lc Lp Lo ls C)(hx:∀k,x= .cell k→k<C.length)(ha:σ al=some (.list [x.v]))(q:Q (oV (fs C x)) σ):CV B n (.ref 563) [.ref st, .str "cdr", .ref al] Q E σ:=by
  have K:=b9 hB;have h0:=aT ha;refine bg (by assumption) gM rfl (ar hn rfl) ?_;intro n' hn' hp;walk_at "m";refine aM ‹_› ‹_› rfl rfl ?_;refine aM ‹_› ‹_› rfl rfl ?_;refine bO ‹_› ‹_› (jj rfl) (by rfl) ?_;refine cA ‹_› ‹_› .n (af rfl) (bG rfl (af rfl) (av rfl rfl h0) (bh .n (af rfl) (aA rfl (bQ rfl)) .int)) (aB ‹_› rfl) ?_;exact eP (d:=true) hB (aq hn' hn rfl) S hx q
theorem jz (hB:B.K=HK Pr)(hn:4≤n)(S:CS σ st Lc Lp Lo ls C)(hx:∀k,x= .cell k→k<C.length)(ha:σ al=some (.list [x.v,y.v]))(q0:x.isCell=false→Q .none σ)
    (q:∀k a d σ',x= .cell k→C[k]?=some (a,d)→aU σ st Lc Lp Lo ls C σ' ls (C.set k (y,d))→Q y.v σ') (hal:∀b∈ls,b≠al):CV B n (.ref 563) [.ref st, .str "setcar", .ref al] Q E σ:=by
  have K:=b9 hB;have h0:=aT ha;have h1:=bV ha;refine bg (by assumption) gM rfl (ar hn rfl) ?_;intro n' hn' hp;walk_at "m";refine aM ‹_› ‹_› rfl rfl ?_;refine aM ‹_› ‹_› rfl rfl ?_;refine bW ‹_› ‹_› rfl rfl ?_;refine bO ‹_› ‹_› (jj rfl) (by rfl) ?_;have i1:=wT σ x;have i2:=fb σ x;refine bN ‹_› ‹_› (aC rfl (a6 .c (av rfl rfl h0) (ak rfl) i1) (ak rfl) (.ne i2 rfl)) ?_
  cases x with
  | cell k=>
    refine az (aj ?_);refine ay ?_;walk_at "m";have hk:=hx k rfl;have hc:C[k]?=some (C[k].1,C[k].2):=w7 hk;refine bP ?_ (S.iK hc);intro b f1 f2 f3 f4 f5;refine bI ?_ (S.upd hc y C[k].2);intro b' g1 g2 g3;rw [f1] at g1;(refine sj ?_ g1;clear g1;intro e1;subst e1);have f0:=S.iC;have v1:=wP σ k;refine ao (bX ?_);refine aE ‹_› ‹_› (av rfl rfl h1) ?_;refine aE ‹_› ‹_› (a6 .s (av rfl rfl f0) (a6 .c (av rfl rfl h0) (ak rfl) v1) f2) ?_;refine aE ‹_› ‹_› (bh .n (af rfl) (aA rfl (bQ rfl)) .int) ?_;refine⟨σ.set b (.list [y.v,C[k].2.v]), .l f5 0 (by rw [cG];rfl) (wW rfl), ?_⟩;refine ay ?_;walk_at "m";have h1':eJ (σ.set b (.list [y.v,C[k].2.v])) (.ref al) (.int 1) y.v:=bV ((wp (Ne.symm (hal b (List.mem_of_getElem? f1)))).trans ha);refine aN ‹_› ‹_› (av rfl rfl h1') ?_;exact q k _ _ _ rfl hc g3
  | num i=>
    refine aF ?_;refine aN ‹_› ‹_› (ak rfl) ?_;exact q0 rfl
  | nil=>
    refine aF ?_;refine aN ‹_› ‹_› (ak rfl) ?_;exact q0 rfl
theorem jA (hB:B.K=HK Pr)(hn:4≤n)(S:CS σ st Lc Lp Lo ls C)(hx:∀k,x= .cell k→k<C.length)(ha:σ al=some (.list [x.v,y.v]))(q0:x.isCell=false→Q .none σ)
    (q:∀k a d σ',x= .cell k→C[k]?=some (a,d)→aU σ st Lc Lp Lo ls C σ' ls (C.set k (a,y))→Q y.v σ') (hal:∀b∈ls,b≠al):CV B n (.ref 563) [.ref st, .str "setcdr", .ref al] Q E σ:=by
  have K:=b9 hB;have h0:=aT ha;have h1:=bV ha;refine bg (by assumption) gM rfl (ar hn rfl) ?_;intro n' hn' hp;walk_at "m";refine aM ‹_› ‹_› rfl rfl ?_;refine aM ‹_› ‹_› rfl rfl ?_;refine bW ‹_› ‹_› rfl rfl ?_;refine bO ‹_› ‹_› (jj rfl) (by rfl) ?_;have i1:=wT σ x;have i2:=fb σ x;refine bN ‹_› ‹_› (aC rfl (a6 .c (av rfl rfl h0) (ak rfl) i1) (ak rfl) (.ne i2 rfl)) ?_
  cases x with
  | cell k=>
    refine az (aj ?_);refine ay ?_;walk_at "m";have hk:=hx k rfl;have hc:C[k]?=some (C[k].1,C[k].2):=w7 hk;refine bP ?_ (S.iK hc);intro b f1 f2 f3 f4 f5;refine bI ?_ (S.upd hc C[k].1 y);intro b' g1 g2 g3;rw [f1] at g1;(refine sj ?_ g1;clear g1;intro e1;subst e1);have f0:=S.iC;have v1:=wP σ k;refine ao (bX ?_);refine aE ‹_› ‹_› (av rfl rfl h1) ?_;refine aE ‹_› ‹_› (a6 .s (av rfl rfl f0) (a6 .c (av rfl rfl h0) (ak rfl) v1) f2) ?_;refine aE ‹_› ‹_› (bh .n (af rfl) (aA rfl (bQ rfl)) .int) ?_;refine⟨σ.set b (.list [C[k].1.v,y.v]), .l f5 1 (by rw [cG];rfl) (wW rfl), ?_⟩;refine ay ?_;walk_at "m";have h1':eJ (σ.set b (.list [C[k].1.v,y.v])) (.ref al) (.int 1) y.v:=bV ((wp (Ne.symm (hal b (List.mem_of_getElem? f1)))).trans ha);refine aN ‹_› ‹_› (av rfl rfl h1') ?_;exact q k _ _ _ rfl hc g3
  | num i=>
    refine aF ?_;refine aN ‹_› ‹_› (ak rfl) ?_;exact q0 rfl
  | nil=>
    refine aF ?_;refine aN ‹_› ‹_› (ak rfl) ?_;exact q0 rfl
theorem mn (hB:B.K=HK Pr)(hn:6≤n)(S:CS σ st Lc Lp Lo ls C)(h:bK C w ks as e)(ha:σ al=some (.list [(W.num j).v,w.v]))(q:Q (oV (if j≤ks.length∨e= .nil then some (aI ks e j) else none)) σ):CV B n (.ref 563) [.ref st, .str "nthcdr", .ref al] Q E σ:=by
  have K:=b9 hB;have h0:=aT ha;have h1:=bV ha;have v1:=wS σ j;refine bg (by assumption) gM rfl (ar hn rfl) ?_;intro n' hn' hp;walk_at "m";refine aM ‹_› ‹_› rfl rfl ?_;refine aM ‹_› ‹_› rfl rfl ?_;refine bW ‹_› ‹_› rfl rfl ?_;refine bW ‹_› ‹_› rfl rfl ?_;refine bO ‹_› ‹_› (bQ rfl) (by rfl) ?_;refine cA ‹_› ‹_› .n (af rfl) (bG rfl (af rfl) (a6 .c (av rfl rfl h0) (ak rfl) v1) (av rfl rfl h1)) (aB ‹_› rfl) ?_;exact gl hB (aq hn' hn rfl) S h q
theorem bK.posLt (h:bK C w ks as e)(i k:Nat)(hk:aI ks e i= .cell k):k<C.length:=by
  by_cases hi:i<ks.length
  · refine uE ?_ (h.at hi);intro ha hc;rw [aQ hi] at hk;cases hk
    exact(List.getElem?_eq_some_iff.mp hc).1
  · rw [aP ((w8 hi))] at hk;have:=h.stop;rw [hk] at this;exact tf this
theorem p8 (hB:B.K=HK Pr)(hn:6≤n)(S:CS σ st Lc Lp Lo ls C)(h:bK C w ks as e)(ha:σ al=some (.list [(W.num j).v,w.v]))(q:Q (oV (if j≤ks.length∨e= .nil then fq C (aI ks e j) else none)) σ):CV B n (.ref 563) [.ref st, .str "nth", .ref al] Q E σ:=by
  have K:=b9 hB;have h0:=aT ha;have h1:=bV ha;have v1:=wS σ j;refine bg (by assumption) gM rfl (ar hn rfl) ?_;intro n' hn' hp;walk_at "m";refine aM ‹_› ‹_› rfl rfl ?_;refine aM ‹_› ‹_› rfl rfl ?_;refine bW ‹_› ‹_› rfl rfl ?_;refine bW ‹_› ‹_› rfl rfl ?_;refine aM ‹_› ‹_› rfl rfl ?_;refine bO ‹_› ‹_› (bQ rfl) (by rfl) ?_;refine kD ‹_› ‹_› rfl .n (af rfl) (bG rfl (af rfl) (a6 .c (av rfl rfl h0) (ak rfl) v1) (av rfl rfl h1)) (aB ‹_› rfl) ?_;refine gl hB (aq hn' hn rfl) S h ?_
  by_cases hc:j≤ks.length∨e= .nil
  · rw [if_pos hc] at q⊢;walk_at "m";have i1:=wR σ (aI ks e j);have i2:fc σ .Is (oV (some (aI ks e j))) .none false:= .is i1;refine aJ (aV ?_);refine dr ‹_› ‹_› (aC rfl (af rfl) (ak rfl) i2) ?_;refine az ?_;refine cr ‹_› ‹_› .n (af rfl) (bG rfl (af rfl) (af rfl) (ak rfl)) (aB ‹_› rfl) ?_;exact eP (d:=false) hB (aq hn' hn rfl) S (h.posLt j) q
  · rw [if_neg hc] at q⊢;walk_at "m";have i2:fc σ .Is (oV none) .none true:= .is .n;refine aJ (aV ?_);refine dr ‹_› ‹_› (aC rfl (af rfl) (ak rfl) i2) ?_;refine aF ?_;refine aE ‹_› ‹_› (ak rfl) ?_;exact q
theorem mo (hB:B.K=HK Pr)(hn:6≤n)(S:CS σ st Lc Lp Lo ls C)(h:bK C w ks as e)(hz:ks.length≤1000)(ha:σ al=some (.list [w.v]))(q:Q (oV (some (if e= .nil then .num ks.length else .nil))) σ):CV B n (.ref 563) [.ref st, .str "proper", .ref al] Q E σ:=by
  have K:=b9 hB;have h0:=aT ha;refine wu (σ₀:=σ) ?_;refine bg (by assumption) gM rfl (ar hn rfl) ?_;intro n' hn' hp;walk_at "m";refine aM ‹_› ‹_› rfl rfl ?_;refine aM ‹_› ‹_› rfl rfl ?_;refine bW ‹_› ‹_› rfl rfl ?_;refine bW ‹_› ‹_› rfl rfl ?_;refine aM ‹_› ‹_› rfl rfl ?_;refine aM ‹_› ‹_› rfl rfl ?_;refine bO ‹_› ‹_› (bQ rfl) (by rfl) ?_;refine kD ‹_› ‹_› rfl .n (af rfl) (aD rfl (af rfl) (av rfl rfl h0)) (aB ‹_› rfl) ?_;refine kI hB (aq hn' hn rfl) S h hz (fun he σ' lt hle g1 g2=> ?_) fun he σ' hle=> ?_
  · rw [if_pos he] at q;walk_at "m";have i2:fc σ' .Is (.ref lt) .none false:= .is (.f rfl);have i3:nw σ' (.ref lt) (ks.length:Int):= .l' g2 (by rewrite [List.length_map];exact ah h.len rfl);refine aJ (aV ?_);refine dr ‹_› ‹_› (aC rfl (af rfl) (ak rfl) i2) ?_;refine az ?_;refine aE ‹_› ‹_› (bD (wW rfl) (aD rfl (ak rfl) (bh .n (af rfl) (aA rfl (af rfl)) (.len i3)))) ?_;exact⟨hle,q⟩
  · rw [if_neg he] at q;walk_at "m";have i2:fc σ' .Is .none .none true:= .is .n;refine aJ (aV ?_);refine dr ‹_› ‹_› (aC rfl (af rfl) (ak rfl) i2) ?_;refine aF ?_;refine aE ‹_› ‹_› (bD (wW rfl) (aA rfl (ak rfl))) ?_;exact⟨hle,q⟩
theorem qb (hB:B.K=HK Pr)(hn:6≤n)(S:CS σ st Lc Lp Lo ls C)(h:bK C w ks as e)(hz:C.length+as.length<1000)(ha:σ al=some (.list [(W.num j).v,w.v]))
    (q0:w.isNum=true∨(as.length<j∧e≠ .nil)→∀σ',aH σ σ'→Q .none σ')
    (q:¬(w.isNum=true∨(as.length<j∧e≠ .nil))→∀σ' ls',aU σ st Lc Lp Lo ls C σ' ls' (C++dO C.length (as.take j).reverse .nil)→Q (dS C.length (as.take j).length .nil).v σ'):CV B n (.ref 563) [.ref st, .str "take", .ref al] Q E σ:=by
  have K:=b9 hB;have h1:=el ha;have hlen:=h.len;refine bg (by assumption) gM rfl (ar hn rfl) ?_;intro n' hn' hp;walk_at "m";refine aM ‹_› ‹_› rfl rfl ?_;refine aM ‹_› ‹_› rfl rfl ?_;refine bW ‹_› ‹_› rfl rfl ?_;refine bW ‹_› ‹_› rfl rfl ?_;refine aM ‹_› ‹_› rfl rfl ?_;refine aM ‹_› ‹_› rfl rfl ?_;refine aM ‹_› ‹_› rfl rfl ?_;refine ao (aS (.cons (.cons (.cons .nil))) rfl ?_);refine cr ‹_› ‹_› .n (af rfl) (aD rfl (af rfl) (a6 .u (af rfl) (ek (ak rfl)) h1)) (aB ‹_› rfl) ?_;refine a8 hB (aq hn' hn rfl) S h (wV (wX hlen.symm) (wV (xj _ _) (wY hz))) fun σ' lt lc hle g1 g2 g3 g4 g5=>⟨_,rfl,rfl, ?_⟩;refine ay ?_;walk_at "m";refine bO ‹_› ‹_› (bQ rfl) (by rfl) ?_;have S':=S.le hle;have k0:=aT (hle _ _ ha);have k1:=bV (hle _ _ ha);have v1:=wS σ' j;have i1:=wT σ' w;have i2:=sF σ' w;have i3:nw σ' (.ref lt) (as.length:Int):= .l' g4 (by rw [List.length_map]);have i4:fc σ' .Lt (.int (as.length:Int)) (.int (j:Int)) (decide ((as.length:Int)<j)):= .lt;have i5:=c9 σ' e .nil;refine a7 K hp ?_
  by_cases hnum:w.isNum=true
  · rw [hnum] at i2;refine kE.mk (bU (nG (aC rfl (a6 .c (av rfl rfl k1) (ak rfl) i1) (ak rfl) (.eq i2)))) ?_;refine⟨_,rfl,aF ?_⟩;refine aN ‹_› ‹_› (ak rfl) ?_;exact q0 (.inl hnum) σ' hle
  · have hnum':w.isNum=false:=by simpa using hnum
    rw [hnum'] at i2
    by_cases hj:as.length<j
    · rw [decide_eq_true (Int.ofNat_lt.mpr hj)] at i4
      by_cases he:e= .nil
      · rw [decide_eq_true he] at i5;refine kE.mk (bU (j6 (aC rfl (a6 .c (av rfl rfl k1) (ak rfl) i1) (ak rfl) (.eq i2)) (dw (bU (cY (aC rfl (bh .n (af rfl) (aA rfl (af rfl)) (.len i3)) (a6 .c (av rfl rfl k0) (ak rfl) v1) i4) (dw (aC rfl (af rfl) (bD (wW rfl) (aA rfl (ak rfl))) (.ne i5 rfl)))))))) ?_;refine⟨_,rfl,az (aj ?_)⟩;refine ay ?_;walk_at "m";refine aJ (b8 rfl ?_ (fun env=>be .n _ _ env));refine aE ‹_› ‹_› (af rfl) ?_;refine⟨aB hB rfl, ?_⟩;refine aE ‹_› ‹_› (af rfl) ?_;refine cJ ?_;refine aE ‹_› ‹_› (af rfl) ?_;refine aE ‹_› ‹_› (a6 .c (av rfl rfl k0) (ak rfl) v1) ?_;refine⟨(j:Int),rfl,lt,as.map W.v,(as.take j).map W.v,rfl, .inl g4,by refine ah List.map_take ?_;exact .take j rfl,fun b hb=> ?_⟩
        refine aE ‹_› ‹_› (bD (wW rfl) (aA rfl (ak rfl))) ?_;refine cQ (e:= .nil) hB (aq hn' hn rfl) (S'.le (aH.set hb)) (wq _ _ _) (by simp;exact wZ (xe (Nat.min_le_right _ _) _) hz) fun σ'' ls' hL=>q (fun hh=>hh.elim hnum fun hh=>hh.2 he) σ'' ls' (hL.le (hle.trans (aH.set hb)))
      · rw [decide_eq_false he] at i5;refine kE.mk (bU (j6 (aC rfl (a6 .c (av rfl rfl k1) (ak rfl) i1) (ak rfl) (.eq i2)) (dw (bU (cY (aC rfl (bh .n (af rfl) (aA rfl (af rfl)) (.len i3)) (a6 .c (av rfl rfl k0) (ak rfl) v1) i4) (dw (aC rfl (af rfl) (bD (wW rfl) (aA rfl (ak rfl))) (.ne i5 rfl)))))))) ?_;refine⟨_,rfl,aF ?_⟩;refine aN ‹_› ‹_› (ak rfl) ?_;exact q0 (.inr ⟨hj,he⟩) σ' hle
    · rw [decide_eq_false (fun z=>Int.not_lt_of_ge (Int.ofNat_le.mpr ((w8 hj))) z)] at i4;refine kE.mk (bU (j6 (aC rfl (a6 .c (av rfl rfl k1) (ak rfl) i1) (ak rfl) (.eq i2)) (dw (bU (cX (aC rfl (bh .n (af rfl) (aA rfl (af rfl)) (.len i3)) (a6 .c (av rfl rfl k0) (ak rfl) v1) i4)))))) ?_;refine⟨_,rfl,az (aj ?_)⟩;refine ay ?_;walk_at "m";refine aJ (b8 rfl ?_ (fun env=>be .n _ _ env));refine aE ‹_› ‹_› (af rfl) ?_;refine⟨aB hB rfl, ?_⟩;refine aE ‹_› ‹_› (by exact af rfl) ?_;refine cJ ?_;refine aE ‹_› ‹_› (by exact af rfl) ?_;refine aE ‹_› ‹_› (by exact a6 .c (av rfl rfl k0) (ak rfl) v1) ?_;refine⟨(j:Int),rfl,lt,as.map W.v,(as.take j).map W.v,rfl, .inl g4,by refine ah List.map_take ?_;exact .take j rfl,fun b hb=> ?_⟩
      refine aE ‹_› ‹_› (by exact bD (wW rfl) (aA rfl (ak rfl))) ?_;refine cQ (e:= .nil) hB (by exact aq hn' hn rfl) (S'.le (aH.set hb)) (wq _ _ _) (by simp;exact wZ (xe (wV (Nat.min_le_left _ _) ((w8 hj))) _) hz) fun σ'' ls' hL=>q (fun hh=>hh.elim hnum fun hh=>hj hh.1) σ'' ls' (hL.le (hle.trans (aH.set hb)))
end
end
section
section
variable {B:Bs}{Pr:Params}{n:Nat}{Q:V→AH→Prop}{E:Str→AH→Prop}{σ:AH}{st Lc Lp Lo:Addr}{ls:List Addr}{C:St}{w x y e e':W}{ks ks':List Nat}{as as':List W}{al:Addr}{j:Nat}
theorem p0 (hB:B.K=HK Pr)(hn:6≤n)(S:CS σ st Lc Lp Lo ls C)(h:bK C w ks as e)(hz:ks.length≤1000)(ha:σ al=some (.list [w.v]))(q0:w.isNum=true→Q .none σ)(q:w.isNum=false→Q (aI ks e (ks.length-1)).v σ):CV B n (.ref 563) [.ref st, .str "last", .ref al] Q E σ:=by
  have K:=b9 hB;have h1:=mY ha;refine wu (σ₀:=σ) ?_;refine bg (by assumption) gM rfl (ar hn rfl) ?_;intro n' hn' hp;refine aM ‹_› ‹_› rfl rfl ?_;refine aM ‹_› ‹_› rfl rfl ?_;refine bW ‹_› ‹_› rfl rfl ?_;refine bW ‹_› ‹_› rfl rfl ?_;refine aM ‹_› ‹_› rfl rfl ?_;refine aM ‹_› ‹_› rfl rfl ?_;refine aM ‹_› ‹_› rfl rfl ?_;refine ao (aS (.cons (.cons (.cons .nil))) rfl ?_);refine cr ‹_› ‹_› .n (af rfl) (aD rfl (af rfl) (a6 .u (af rfl) (ek (ak rfl)) h1)) (aB ‹_› rfl) ?_;refine a8 hB (aq hn' hn rfl) S h hz fun σ' lt lc hle g1 g2 g3 g4 g5=>⟨_,rfl,rfl, ?_⟩;refine ay ?_;walk_at "m";refine aM ‹_› ‹_› rfl rfl ?_;refine cA ‹_› ‹_› .n (af rfl) (aW rfl (af rfl) (aW rfl (af rfl) (d6 rfl (af rfl) (af rfl) (af rfl) (af rfl)))) (aB ‹_› rfl) ?_;refine mt (by assumption) so rfl (aq hn' hn rfl) ?_;intro n'' hn'' hp;refine bO ‹_› ‹_› (bQ rfl) (by rfl) ?_;have k0:=aT (hle _ _ ha);have i1:=wT σ' w;have i2:=sF σ' w;refine bN ‹_› ‹_› (aC rfl (a6 .c (av rfl rfl k0) (ak rfl) i1) (ak rfl) (.eq i2)) ?_
  cases hnum:w.isNum
  · refine az (aj ?_);refine ay ?_;walk_at "m";refine aJ (aV (gi K hp ?_));refine kE.mk (af rfl) ?_;refine⟨lc,_,rfl,g5,fun b hb=> ?_⟩;have hle2:aH σ' (σ'.set b (.list [])):=aH.set hb;have hleT:=hle.trans hle2;have g6:=hle2 _ _ g5;generalize σ'.set b (.list [])=σ2 at*
    rcases Nat.eq_zero_or_pos ks.length with hk | hk
    · have hnil:ks=[]:=List.length_eq_zero_iff.mp hk;subst hnil;refine az ?_;refine aE ‹_› ‹_› (bD (wW rfl) (aA rfl (ak rfl))) ?_;refine⟨hleT, ?_⟩;have hw:aI [] e 0= .nil:=by
        have h0:=h.zero;have hs:=h.stop;refine ah h0 ?_;rw [aP (xd _)] at h0;subst h0
        cases e with
        | num i=>exact tf hnum
        | nil=>rfl
        | cell k=>exact tf hs
      have:=q hnum;rw [show ([]:List Nat).length-1=0 from rfl,hw] at this;exact this
    · have:decide (ks.map (fun k=>(W.cell k).v)=[])=false:=by
        rw [decide_eq_false_iff_not];intro q;rw [List.map_eq_nil_iff] at q;rw [q] at hk;exact absurd hk (xl _)
      refine ah this ?_;refine aF (bn K hp ?_);have i3:eJ σ2 (.ref lc) (.int (-1)) (W.cell (ks[ks.length-1]'(ad hk))).v:=by
        exact .last (j:=ks.length-1) g6 (by rw [List.length_map];exact Eq.symm (Nat.sub_add_cancel hk)) (by refine ah List.getElem?_map (ah (w7 (ad hk)) ?_);rfl)
      refine kE.mk (a6 .u (af rfl) (ek (ak rfl)) i3) ?_;refine⟨hleT, ?_⟩;have:=q hnum;rw [aQ (ad hk)] at this;exact this
  · refine aF ?_;refine aN ‹_› ‹_› (ak rfl) ?_;exact⟨hle,q0 hnum⟩
theorem kh (hB:B.K=HK Pr)(hn:6≤n)(S:CS σ st Lc Lp Lo ls C)(h:bK C w ks as e)(hz:C.length+as.length<1000)(ha:σ al=some (.list [w.v]))
    (q0:e≠ .nil→∀σ',aH σ σ'→Q .none σ')
    (q:e= .nil→∀σ' ls',aU σ st Lc Lp Lo ls C σ' ls' (C++dO C.length (as.take (as.length-1)).reverse .nil)→Q (dS C.length (as.length-1) .nil).v σ'):CV B n (.ref 563) [.ref st, .str "butlast", .ref al] Q E σ:=by
  have K:=b9 hB;have h1:=mY ha;have hlen:=h.len;refine bg (by assumption) gM rfl (ar hn rfl) ?_;intro n' hn' hp;refine aM ‹_› ‹_› rfl rfl ?_;refine aM ‹_› ‹_› rfl rfl ?_;refine bW ‹_› ‹_› rfl rfl ?_;refine bW ‹_› ‹_› rfl rfl ?_;refine aM ‹_› ‹_› rfl rfl ?_;refine aM ‹_› ‹_› rfl rfl ?_;refine aM ‹_› ‹_› rfl rfl ?_;refine ao (aS (.cons (.cons (.cons .nil))) rfl ?_);refine cr ‹_› ‹_› .n (af rfl) (aD rfl (af rfl) (a6 .u (af rfl) (ek (ak rfl)) h1)) (aB ‹_› rfl) ?_;refine a8 hB (aq hn' hn rfl) S h (wV (wX hlen.symm) (wV (xj _ _) (wY hz))) fun σ' lt lc hle g1 g2 g3 g4 g5=>⟨_,rfl,rfl, ?_⟩;refine ay ?_;walk_at "m";refine aM ‹_› ‹_› rfl rfl ?_;refine cA ‹_› ‹_› .n (af rfl) (aW rfl (af rfl) (aW rfl (af rfl) (d6 rfl (af rfl) (af rfl) (af rfl) (af rfl)))) (aB ‹_› rfl) ?_;refine mt (by assumption) so rfl (aq hn' hn rfl) ?_;intro n'' hn'' hp;refine aM ‹_› ‹_› rfl rfl ?_;refine bO ‹_› ‹_› (bQ rfl) (by rfl) ?_;have i5:=c9 σ' e .nil;refine aJ (aV ?_);refine dr ‹_› ‹_› (aC rfl (af rfl) (bD (wW rfl) (aA rfl (ak rfl))) (.ne i5 rfl)) ?_
  by_cases he:e= .nil
  · refine ah (decide_eq_true he) ?_;refine az (b8 rfl ?_ (fun env=>be .n _ _ env));refine aE ‹_› ‹_› (af rfl) ?_;refine⟨aB hB rfl, ?_⟩;refine aE ‹_› ‹_› (af rfl) ?_;refine cJ ?_;refine aE ‹_› ‹_› (af rfl) ?_;refine aE ‹_› ‹_› (ek (ak rfl)) ?_;refine⟨-1,rfl,lt,as.map W.v,(as.take (as.length-1)).map W.v,rfl, .inl g4,by refine ah List.map_take ?_;exact .init (by rw [List.length_map]),fun b hb=> ?_⟩
    refine aE ‹_› ‹_› (bD (wW rfl) (aA rfl (ak rfl))) ?_;refine cQ (e:= .nil) hB (w8 (fun z=>xn (wZ (wV (wX hn') (xc (wV (wX hn'') (xc (wY z) _)) _)) (wW rfl)) hn)) ((S.le hle).le (aH.set hb)) (wq _ _ _) (by simp;exact wZ (xe (Nat.sub_le _ _) _) hz) fun σ'' ls' hL=> ?_;refine ah (show (as.take (as.length-1)).length=as.length-1 by simp) ?_;exact q he σ'' ls' (hL.le (hle.trans (aH.set hb)))
  · refine ah (decide_eq_false he) ?_;refine aF ?_;refine aE ‹_› ‹_› (ak rfl) ?_;exact q0 he σ' hle
theorem k9 (hB:B.K=HK Pr)(hn:6≤n)(S:CS σ st Lc Lp Lo ls C)(h':bK C y ks' as' e')(hz':ks'.length≤1000)(h:bK C x ks as e)(hz:ks.length≤1000)(ha:σ al=some (.list [x.v,y.v]))(hal:∀b∈ls,b≠al)
    (q0:x.isNum=true→∀σ',aH σ σ'→Q .none σ') (q1:x= .nil→∀σ',aH σ σ'→Q y.v σ')
    (q:∀(hk:0<ks.length) a σ',C[ks[ks.length-1]]?=some (a,e)→aU σ st Lc Lp Lo ls C σ' ls (C.set ks[ks.length-1] (a,y))→Q x.v σ'):CV B n (.ref 563) [.ref st, .str "nconc", .ref al] Q E σ:=by
  have K:=b9 hB;have h1:=el ha;refine bg (by assumption) gM rfl (ar hn rfl) ?_;intro n' hn' hp;refine aM ‹_› ‹_› rfl rfl ?_;refine aM ‹_› ‹_› rfl rfl ?_;refine bW ‹_› ‹_› rfl rfl ?_;refine bW ‹_› ‹_› rfl rfl ?_;refine aM ‹_› ‹_› rfl rfl ?_;refine aM ‹_› ‹_› rfl rfl ?_;refine aM ‹_› ‹_› rfl rfl ?_;refine ao (aS (.cons (.cons (.cons .nil))) rfl ?_);refine cr ‹_› ‹_› .n (af rfl) (aD rfl (af rfl) (a6 .u (af rfl) (ek (ak rfl)) h1)) (aB ‹_› rfl) ?_;refine a8 hB (aq hn' hn rfl) S h' hz' fun σ' lt lc hle g1 g2 g3 g4 g5=>⟨_,rfl,rfl, ?_⟩;refine ay ?_;walk_at "m";refine aM ‹_› ‹_› rfl rfl ?_;refine cA ‹_› ‹_› .n (af rfl) (aW rfl (af rfl) (aW rfl (af rfl) (d6 rfl (af rfl) (af rfl) (af rfl) (af rfl)))) (aB ‹_› rfl) ?_;refine mt (by assumption) so rfl (aq hn' hn rfl) ?_;intro n'' hn'' hp;refine aM ‹_› ‹_› rfl rfl ?_;refine aM ‹_› ‹_› rfl rfl ?_;have k0:=aT (hle _ _ ha);have k1:=bV (hle _ _ ha);have i1:=wT σ' x;have i2:=sF σ' x;have S':=S.le hle;refine cx ‹_› ‹_› rfl (fun _=>rfl) (av rfl rfl k1) ?_;refine bN ‹_› ‹_› (aC rfl (a6 .c (av rfl rfl k0) (ak rfl) i1) (ak rfl) (.eq i2)) ?_
  cases hnum:x.isNum
  · refine az (aj ?_);refine ay ?_;walk_at "m";refine bE rfl (fun _=>rfl) (bM ?_);refine cr ‹_› ‹_› .n (af rfl) (aD rfl (af rfl) (av rfl rfl k0)) (aB ‹_› rfl) ?_;refine a8 hB (w8 (fun z=>xn (wZ (wV (wX hn') (xc (wV (wX hn'') (xc (wY z) _)) _)) (wW rfl)) hn)) S' h hz fun σ2 lt2 lc2 hle2 g1 g2 g3 g4 g5=> ?_;refine aE ‹_› ‹_› (ak rfl) ?_;refine dW (r:= .ref lc2) (.t rfl) (iM (by constructor)) ?_;walk_at "m";have hleT:=hle.trans hle2;refine dX (pC K hp ?_);refine kE.mk (af rfl) ?_;refine⟨lc2,_,rfl,g5,fun b hb=> ?_⟩;have hle3:aH σ2 (σ2.set b (.list [])):=aH.set hb;have hleU:=hleT.trans hle3;have g6:=hle3 _ _ g5;generalize σ2.set b (.list [])=σ3 at*;have S3:=S.le hleU;have m0:=aT (hleU _ _ ha);have m1:=bV (hleU _ _ ha)
    rcases Nat.eq_zero_or_pos ks.length with hk | hk
    · have hnil:ks=[]:=List.length_eq_zero_iff.mp hk;subst hnil;have hw:x= .nil:=by
        have h0:=h.zero;have hs:=h.stop;rw [aP (xd _)] at h0;subst h0
        cases e with
        | num i=>exact tf hnum
        | nil=>rfl
        | cell k=>exact tf hs
      refine aF ?_;refine aN ‹_› ‹_› (af rfl) ?_;exact q1 hw σ3 hleU
    · have:decide (ks.map (fun k=>(W.cell k).v)=[])=false:=by
        rw [decide_eq_false_iff_not];intro q;rw [List.map_eq_nil_iff] at q;rw [q] at hk;exact absurd hk (xl _)
      refine ah this ?_;refine az (aj ?_);refine ay ?_;walk_at "m";have i3:eJ σ3 (.ref lc2) (.int (-1)) (W.cell (ks[ks.length-1]'(ad hk))).v:=by
        exact .last (j:=ks.length-1) g6 (by rw [List.length_map];exact Eq.symm (Nat.sub_add_cancel hk)) (by refine ah List.getElem?_map (ah (w7 (ad hk)) ?_);rfl)
      refine uE ?_ (h.at (j:=ks.length-1) (ad hk));intro hla hc;rw [aP (wX (Eq.symm (Nat.sub_add_cancel hk)))] at hc;refine bP ?_ (S3.iK hc);intro b1 f1 f2 f3 f4 f5;refine bI ?_ (S3.upd hc as[ks.length-1] y);intro b' u1 u2 u3;rw [f1] at u1;(refine sj ?_ u1;clear u1;intro e1;subst e1);have f0:=S3.iC;have v1:=wP σ3 (ks[ks.length-1]'(ad hk));refine ao (bX ?_);refine aE ‹_› ‹_› (af rfl) ?_;refine aE ‹_› ‹_› (a6 .s (av rfl rfl f0) (a6 .c (a6 .u (af rfl) (ek (ak rfl)) i3) (ak rfl) v1) f2) ?_;refine aE ‹_› ‹_› (ak rfl) ?_;refine⟨σ3.set b1 (.list [as[ks.length-1].v,y.v]), .l f5 1 rfl (wW rfl), ?_⟩;refine ay ?_;walk_at "m";have h1':eJ (σ3.set b1 (.list [as[ks.length-1].v,y.v])) (.ref al) (.int 0) x.v:=aT ((wp (Ne.symm (hal b1 (List.mem_of_getElem? f1)))).trans (hleU _ _ ha));refine aN ‹_› ‹_› (av rfl rfl h1') ?_;exact q hk _ _ hc (u3.le hleU)
  · refine aF ?_;refine aN ‹_› ‹_› (ak rfl) ?_;exact q0 hnum σ' hle
end
end
section
theorem gu {α:Type}(f:α→Bool):∀(as:List α),(∃a∈as,f a=true)→∃i,∃(hi:i<as.length),f as[i]=true∧∀i' (hi':i'<as.length),i'<i→f as[i']=false
  | [],h=>by refine aY ?_ h;clear h;intro _ h _;cases h
  | a::as,h=>by
    cases q:f a
    · have h':∃a∈as,f a=true:=by
        refine aY ?_ h;clear h;intro b h1 h2
        rcases List.mem_cons.mp h1 with rfl | h1
        · rw [q] at h2;exact ft h2
        · exact⟨b,h1,h2⟩
      refine fD ?_ (gu f as h');intro i hi h3 h4;refine⟨i+1,by simp;exact hi,by simpa using h3,fun i' hi' hlt=> ?_⟩
      cases i' with
      | zero=>simpa using q
      | succ i'=>simpa using h4 i' (by simpa using hi') (Nat.lt_of_succ_lt_succ hlt)
    · exact⟨0,by simp,by simpa using q,fun i' _ h=>absurd h (xh _)⟩
theorem br.self {C:St}{x y:W}{b:Bool}{k:Nat}(h:br C x y b k)(e:x=y):b=true:=by
  induction h with
  | eq=>rfl
  | no h _=>exact absurd e h
  | carF h _ _ _ _=>exact absurd (W.cell.inj e) h
  | cdr h _ _ _ _ _ _=>exact absurd (W.cell.inj e) h
theorem br.symm {C:St}{x y:W}{b:Bool}{k:Nat}(h:br C x y b k):br C y x b k:=by
  induction h with
  | eq=>exact .eq
  | no h1 h2=>exact .no (Ne.symm h1) h2.symm
  | carF h1 h2 h3 h4 ih=>exact .carF (Ne.symm h1) h3 h2 ih
  | cdr h1 h2 h3 h4 h5 ih1 ih2=>exact .cdr (Ne.symm h1) h3 h2 ih1 ih2
section
variable {B:Bs}{Pr:Params}{n:Nat}{Q:V→AH→Prop}{E:Str→AH→Prop}{σ:AH}{st Lc Lp Lo:Addr}{ls:List Addr}{C:St}{w x y e:W}{ks:List Nat}{as:List W}{al:Addr}{j:Nat}
theorem kl:∀(m:ax) (x:Str) (u v:V),setL (setL m x u) x v=setL m x v
  | [],_,_,_=>rfl
  | (k,s)::r,x,u,v=>by
    by_cases q:k=x
    · subst q;simp only [gT,if_true];cases s<;>rfl
    · simp only [gT,if_neg q,kl r x u v]
theorem ed {α:Type}{m:ax}{l Dd:Addr}{as:List α}{c:α→V}{x:Str}{px:Pos}{elt iter:Expr}{scope:Scope}{pos:Pos}{Q:AH→Prop}(g:α→V)(hl:σ l=some (.list (as.map c))∨σ l=some (.clist (as.map c)))(hD:σ Dd=none)(hx:∃o,lk m x=some (.loc o))(hz:as.length≤1000000)
    (helt:∀a∈as,∀(ys:List V) (R:V→AH→Prop),R (g a) (σ.set Dd (.list ys))→EV B n (setL m x (c a)) elt R (fun _ _=>False) (σ.set Dd (.list ys)))
    (fin:Q (σ.set Dd (.list (as.map g)))):MV B n m (.lst l 0) (.ListComp elt [⟨.Name x px,iter,[],0⟩] scope pos) Dd Q (σ.set Dd (.list [])):=by
  have hne:l≠Dd:=fun q=>by rw [←q] at hD;rcases hl with h | h<;>rw [hD] at h<;>exact nn h
  refine cw (xs:=as.map c) (fun(i:Nat) m' σ'=>(m'=m∨∃u,m'=setL m x u)∧σ'=σ.set Dd (.list ((as.take i).map g))) ?_ ?_ ?_ 0 _ _ (xd _) ⟨.inl rfl,by first | rfl | simp⟩
  · intro i m' σ';refine uA ?_;rintro _ rfl _
    rcases hl with h | h
    · exact .inl ((wp hne).trans h)
    · exact .inr ((wp hne).trans h)
  · intro i v m' σ';refine uA ?_;rintro hm rfl hv;rw [List.getElem?_map] at hv;refine aY ?_ (Option.map_eq_some_iff.mp hv);rintro a hv2 rfl;refine uE ?_ (List.getElem?_eq_some_iff.mp hv2);intro hi hvi;have hs:setL m' x (c a)=setL m x (c a):=by
      rcases hm with rfl | ⟨u,rfl⟩
      · rfl
      · exact kl _ _ _ _
    have hlk:∃o,lk m' x=some (.loc o):=by
      refine uE ?_ hx;clear hx;intro o ho
      rcases hm with rfl | ⟨u,rfl⟩
      · exact⟨o,ho⟩
      · exact⟨some u,by rewrite [iJ];refine ah (if_pos rfl) (ah ho ?_);rfl⟩
    refine⟨hlk, ?_⟩;refine ah hs ?_;refine helt a (hvi▸List.getElem_mem _) _ _ ⟨_,wq _ _ _,by rewrite [List.length_map];refine ah List.length_take (ah sizeLine_eq ?_);exact wZ (wV (Nat.min_le_right _ _) hz) (wW rfl), .inr ⟨c a,rfl⟩, ?_⟩
    rewrite [wt];refine ch (List.take_append_getElem hi) (ah hvi (ah List.map_append ?_));rfl
  · intro m' σ';refine uA ?_;rintro _ rfl;rewrite [List.length_map];refine ah List.take_length ?_;exact fin
theorem np (hB:B.K=HK Pr)(hn:6≤n)(S:CS σ st Lc Lp Lo ls C)(h:bK C w ks as e)(hz:ks.length≤1000)(ha:σ al=some (.list [x.v,w.v]))
    (q:∀i (hi:i<as.length),decide (x=as[i])=true→(∀i' (hi':i'<as.length),i'<i→decide (x=as[i'])=false)→Q (aI ks e i).v σ)
    (q0:(∀a∈as,decide (x=a)=false)→e= .nil→Q W.nil.v σ) (qN:(∀a∈as,decide (x=a)=false)→e≠ .nil→Q .none σ):CV B n (.ref 575) [.ref st, .str "memq", .ref al] Q E σ:=by
  refine wu (σ₀:=σ) ?_;have K:=b9 hB;have h1:=el ha;have hlen:=h.len;refine bg (by assumption) lX rfl (ar hn rfl) ?_;intro n' hn' hp;refine ao (aS (.cons (.cons (.cons .nil))) rfl ?_);refine cr ‹_› ‹_› .n (af rfl) (aD rfl (af rfl) (a6 .u (af rfl) (ek (ak rfl)) h1)) (aB ‹_› rfl) ?_;refine a8 hB (aq hn' hn rfl) S h hz fun σ' lt lc hle g1 g2 g3 g4 g5=>⟨_,rfl,rfl, ?_⟩;refine ay ?_;walk_at "m";have S0:=S.le hle;refine ao (bj (dD hB) rfl rfl rfl (fun env hk hy=>o0 rfl rfl env hk hy) (bA ?_));refine aE ‹_› ‹_› (af rfl) ?_;refine⟨lt,_,rfl, .inl g4,fun lsm hlsm=> ?_⟩;refine ed (as:=as) (c:=W.v) (g:=fun a=>V.bool ((fun a=>decide (x=a)) a)) (.inl g4) hlsm ⟨_,rfl⟩ (wV (wV (wX hlen) hz) (wW rfl)) (fun a ha2 ys R hR=> ?_) ?_
  · skip
    have hleY:aH σ' (σ'.set lsm (.list ys)):=aH.set hlsm;have k0:=aT (hleY _ _ (hle _ _ ha));refine aV ?_;refine dr ‹_› ‹_› (bQ rfl) ?_;refine az (bn K hp ?_);have k1:=c9 (σ'.set lsm (.list ys)) x a;refine kE.mk (aC rfl (av rfl rfl k0) (af rfl) (.eq k1)) ?_;exact hR
  refine ah (show as.map (fun a=>V.bool ((fun a=>decide (x=a)) a))=(as.map (fun a=>decide (x=a))).map V.bool by simp) ?_
  refine ay ?_;walk_at "m";have hle1:aH σ' (σ'.set lsm (.list ((as.map (fun a=>decide (x=a))).map V.bool))):=aH.set hlsm;have g6:(σ'.set lsm (.list ((as.map (fun a=>decide (x=a))).map V.bool))) lsm=some (.list ((as.map (fun a=>decide (x=a))).map V.bool)):=wq _ _ _;have hleT:=hle.trans hle1;have G4:=hle1 _ _ g4;have G5:=hle1 _ _ g5;generalize σ'.set lsm (.list ((as.map (fun a=>decide (x=a))).map V.bool))=σ1 at*;have S1:=S.le hleT;have c0:=aT (hleT _ _ ha);refine bO ‹_› ‹_› (jj rfl) (by rfl) ?_;have i1:fc σ1 .In (.bool true) (.ref lsm) ((as.map (fun a=>decide (x=a))).any (·==true)):=by
    exact .in_ (.b g6)
  refine bN ‹_› ‹_› (aC rfl (ak rfl) (af rfl) i1) ?_
  cases hany:(as.map (fun a=>decide (x=a))).any (·==true)
  · refine az (aj ?_);refine ay ?_;walk_at "m";have hno:∀a∈as,(fun a=>decide (x=a)) a=false:=fun a ha=>by
      have:=List.any_eq_false.mp hany _ (List.mem_map.mpr ⟨a,ha,rfl⟩)
      simpa using this
    have i2:=c9 σ1 e .nil;refine aJ (aV ?_);refine dr ‹_› ‹_› (aC rfl (af rfl) (bD (wW rfl) (aA rfl (ak rfl))) (.eq i2)) ?_
    by_cases he:e= .nil
    · refine ah (decide_eq_true he) ?_;refine aF ?_;refine aE ‹_› ‹_› (bD (wW rfl) (aA rfl (ak rfl))) ?_;exact⟨hleT,q0 hno he⟩
    · refine ah (decide_eq_false he) ?_;refine az ?_;refine aE ‹_› ‹_› (ak rfl) ?_;exact⟨hleT,qN hno he⟩
  · have hsome:∃a∈as,(fun a=>decide (x=a)) a=true:=by
      refine aY ?_ (List.any_eq_true.mp hany);intro b h2 h3;refine aY ?_ (List.mem_map.mp h2);rintro a h4 rfl;exact⟨a,h4,by simpa using h3⟩
    refine fD ?_ (gu (fun a=>decide (x=a)) as hsome);intro i hi hi1 hi2;refine aF (aJ (bM ?_));refine aE ‹_› ‹_› (af rfl) ?_;refine cb .n rfl (by decide) (by decide) ?_;refine aE ‹_› ‹_› (af rfl) ?_;refine⟨"list.index", .index g6, ?_⟩;refine aE ‹_› ‹_› (ak rfl) ?_;refine lq (j:=i) g6 (by refine ah List.getElem?_map (ah (w7 hi) ?_);exact congrArg some hi1) (fun i' hlt=>by refine ah List.getElem?_map (ah (w7 (wZ (wY hlt) hi)) ?_);exact congrArg some (hi2 i' (wZ (wY hlt) hi) hlt)) ?_
    refine dW (r:=(aI ks e i).v) ?_ (iM (by constructor)) ⟨hleT,q i hi hi1 hi2⟩;have hik:i<ks.length:=pE hlen hi;exact .nat G5 (by refine ah List.getElem?_map (ah (w7 hik) (ah (aQ hik) ?_));rfl)
theorem jy (hB:B.K=HK Pr)(S:CS σ st Lc Lp Lo ls C)(h:bK C w ks as e)(hz:ks.length≤1000)(ha:σ al=some (.list [x.v,w.v])){rk:Nat→Nat}(hr:Rk C rk)(hn:ir rk x+6≤n)(f:W→Bool)(hf:∀a∈as,∃k,br C x a (f a) k)
    (q:∀i (hi:i<as.length),f as[i]=true→(∀i' (hi':i'<as.length),i'<i→f as[i']=false)→Q (aI ks e i).v σ)
    (q0:(∀a∈as,f a=false)→e= .nil→Q W.nil.v σ) (qN:(∀a∈as,f a=false)→e≠ .nil→Q .none σ):CV B n (.ref 575) [.ref st, .str "member", .ref al] Q E σ:=by
  refine wu (σ₀:=σ) ?_;have K:=b9 hB;have h1:=el ha;have hlen:=h.len;refine bg (by assumption) lX rfl (ar hn rfl) ?_;intro n' hn' hp;refine ao (aS (.cons (.cons (.cons .nil))) rfl ?_);refine cr ‹_› ‹_› .n (af rfl) (aD rfl (af rfl) (a6 .u (af rfl) (ek (ak rfl)) h1)) (aB ‹_› rfl) ?_;refine a8 hB (aq hn' hn rfl) S h hz fun σ' lt lc hle g1 g2 g3 g4 g5=>⟨_,rfl,rfl, ?_⟩;refine ay ?_;walk_at "m";have S0:=S.le hle;refine ao (bj (dD hB) rfl rfl rfl (fun env hk hy=>o0 rfl rfl env hk hy) (bA ?_));refine aE ‹_› ‹_› (af rfl) ?_;refine⟨lt,_,rfl, .inl g4,fun lsm hlsm=> ?_⟩;refine ed (as:=as) (c:=W.v) (g:=fun a=>V.bool ((f) a)) (.inl g4) hlsm ⟨_,rfl⟩ (wV (wV (wX hlen) hz) (wW rfl)) (fun a ha2 ys R hR=> ?_) ?_
  · skip
    have hleY:aH σ' (σ'.set lsm (.list ys)):=aH.set hlsm;have k0:=aT (hleY _ _ (hle _ _ ha));refine aV ?_;refine dr ‹_› ‹_› (bQ rfl) ?_;refine aF (aK K hp .n rfl ?_);refine uE ?_ (hf a ha2);intro kk hk;refine wU (af rfl) (bG rfl (af rfl) (av rfl rfl k0) (af rfl)) ?_;exact⟨aB hB rfl,i9 hB (S0.le hleY) hr hk (wY (Nat.lt_of_succ_lt (Nat.lt_of_succ_lt_succ (w0 hn (wX hn'))))) hR⟩
  refine ah (show as.map (fun a=>V.bool ((f) a))=(as.map (f)).map V.bool by simp) ?_;refine ay ?_;walk_at "m";have hle1:aH σ' (σ'.set lsm (.list ((as.map (f)).map V.bool))):=aH.set hlsm;have g6:(σ'.set lsm (.list ((as.map (f)).map V.bool))) lsm=some (.list ((as.map (f)).map V.bool)):=wq _ _ _;have hleT:=hle.trans hle1;have G4:=hle1 _ _ g4;have G5:=hle1 _ _ g5;generalize σ'.set lsm (.list ((as.map (f)).map V.bool))=σ1 at*;have S1:=S.le hleT;have c0:=aT (hleT _ _ ha);refine bO ‹_› ‹_› (jj rfl) (by rfl) ?_;have i1:fc σ1 .In (.bool true) (.ref lsm) ((as.map (f)).any (·==true)):=by
    exact .in_ (.b g6)
  refine bN ‹_› ‹_› (aC rfl (ak rfl) (af rfl) i1) ?_
  cases hany:(as.map (f)).any (·==true)
  · refine az (aj ?_);refine ay ?_;walk_at "m";have hno:∀a∈as,(f) a=false:=fun a ha=>by
      have:=List.any_eq_false.mp hany _ (List.mem_map.mpr ⟨a,ha,rfl⟩)
      simpa using this
    have i2:=c9 σ1 e .nil;refine aJ (aV ?_);refine dr ‹_› ‹_› (aC rfl (af rfl) (bD (wW rfl) (aA rfl (ak rfl))) (.eq i2)) ?_
    by_cases he:e= .nil
    · refine ah (decide_eq_true he) ?_;refine aF ?_;refine aE ‹_› ‹_› (bD (wW rfl) (aA rfl (ak rfl))) ?_;exact⟨hleT,q0 hno he⟩
    · refine ah (decide_eq_false he) ?_;refine az ?_;refine aE ‹_› ‹_› (ak rfl) ?_;exact⟨hleT,qN hno he⟩
  · have hsome:∃a∈as,(f) a=true:=by
      refine aY ?_ (List.any_eq_true.mp hany);intro b h2 h3;refine aY ?_ (List.mem_map.mp h2);rintro a h4 rfl;exact⟨a,h4,by simpa using h3⟩
    refine fD ?_ (gu (f) as hsome);intro i hi hi1 hi2;refine aF (aJ (bM ?_));refine aE ‹_› ‹_› (af rfl) ?_;refine cb .n rfl (by decide) (by decide) ?_;refine aE ‹_› ‹_› (af rfl) ?_;refine⟨"list.index", .index g6, ?_⟩;refine aE ‹_› ‹_› (ak rfl) ?_;refine lq (j:=i) g6 (by refine ah List.getElem?_map (ah (w7 hi) ?_);exact congrArg some hi1) (fun i' hlt=>by refine ah List.getElem?_map (ah (w7 (wZ (wY hlt) hi)) ?_);exact congrArg some (hi2 i' (wZ (wY hlt) hi) hlt)) ?_
    refine dW (r:=(aI ks e i).v) ?_ (iM (by constructor)) ⟨hleT,q i hi hi1 hi2⟩;have hik:i<ks.length:=pE hlen hi;exact .nat G5 (by refine ah List.getElem?_map (ah (w7 hik) (ah (aQ hik) ?_));rfl)
noncomputable def mH:ax:=[("state", .cel none),("word", .cel none),("args", .cel none),("things", .loc none),("cells", .loc none),("end", .loc none),("own", .loc none),("same", .loc none),("at", .loc none),("key", .loc none),("new", .loc none),("cell", .loc none),("kept", .loc none),("rest", .loc none),("_law_chain", .glob (.ref 521)),("int", .glob (.ty "int")),("_law_like", .glob (.ref 542)),("_law_made", .glob (.ref 535)),("zip", .glob (.ty "zip"))]
theorem nk (hB:B.K=HK Pr)(hn:6≤n)(S:CS σ st Lc Lp Lo ls C)(h:bK C w ks as e)(hz:ks.length≤1000)(hC:∀k, .cell k∈as→k<C.length)(ha:σ al=some (.list [x.v,w.v]))
    (qN:e≠ .nil→Q .none σ)
    (q:e= .nil→∀i (hi:i<as.length),aG C false (fun a=>decide (x=a)) as[i]=true→(∀i' (hi':i'<as.length),i'<i→aG C false (fun a=>decide (x=a)) as[i']=false)→Q (as[i]).v σ)
    (q0:e= .nil→(∀a∈as,aG C false (fun a=>decide (x=a)) a=false)→Q W.nil.v σ):CV B n (.ref 575) [.ref st, .str "assq", .ref al] Q E σ:=by
  refine wu (σ₀:=σ) ?_;have K:=b9 hB;have h1:=el ha;have hlen:=h.len;refine bg (by assumption) lX rfl (ar hn rfl) ?_;intro n' hn' hp;refine ao (aS (.cons (.cons (.cons .nil))) rfl ?_);refine cr ‹_› ‹_› .n (af rfl) (aD rfl (af rfl) (a6 .u (af rfl) (ek (ak rfl)) h1)) (aB ‹_› rfl) ?_;refine a8 hB (aq hn' hn rfl) S h hz fun σ' lt lc hle g1 g2 g3 g4 g5=>⟨_,rfl,rfl, ?_⟩;refine ay ?_;walk_at "m";have S0:=S.le hle;refine ao (bj (dD hB) rfl rfl rfl (fun env hk hy=>o0 rfl rfl env hk hy) (bA ?_));refine aE ‹_› ‹_› (af rfl) ?_;refine⟨lt,_,rfl, .inl g4,fun lsm hlsm=> ?_⟩;refine ed (as:=as) (c:=W.v) (g:=fun a=>V.bool ((fun a=>decide (x=a)) a)) (.inl g4) hlsm ⟨_,rfl⟩ (wV (wV (wX hlen) hz) (wW rfl)) (fun a ha2 ys R hR=> ?_) ?_
  · skip
    have hleY:aH σ' (σ'.set lsm (.list ys)):=aH.set hlsm;have k0:=aT (hleY _ _ (hle _ _ ha));refine aV ?_;refine dr ‹_› ‹_› (bQ rfl) ?_;refine az (bn K hp ?_);have k1:=c9 (σ'.set lsm (.list ys)) x a;refine kE.mk (aC rfl (av rfl rfl k0) (af rfl) (.eq k1)) ?_;exact hR
  refine ah (show as.map (fun a=>V.bool ((fun a=>decide (x=a)) a))=(as.map (fun a=>decide (x=a))).map V.bool by simp) ?_
  refine ay ?_;walk_at "m";have hle1:aH σ' (σ'.set lsm (.list ((as.map (fun a=>decide (x=a))).map V.bool))):=aH.set hlsm;have g6:(σ'.set lsm (.list ((as.map (fun a=>decide (x=a))).map V.bool))) lsm=some (.list ((as.map (fun a=>decide (x=a))).map V.bool)):=wq _ _ _;have hleT:=hle.trans hle1;have G4:=hle1 _ _ g4;have G5:=hle1 _ _ g5;generalize σ'.set lsm (.list ((as.map (fun a=>decide (x=a))).map V.bool))=σ1 at*;have S1:=S.le hleT;have c0:=aT (hleT _ _ ha);refine bW ‹_› ‹_› rfl rfl ?_;have i2:=c9 σ1 e .nil;refine bN ‹_› ‹_› (aC rfl (af rfl) (bD (wW rfl) (aA rfl (ak rfl))) (.ne i2 rfl)) ?_
  by_cases he:e= .nil
  · refine ah (decide_eq_true he) ?_;refine az (aj ?_);refine ay ?_;walk_at "m";refine bO ‹_› ‹_› (gr rfl) (by rfl) ?_;refine cx ‹_› ‹_› rfl (fun _=>rfl) (bh .n (af rfl) (aA rfl (bQ rfl)) .int) ?_;refine ao (dB (bA ?_));refine aE ‹_› ‹_› (af rfl) ?_;refine⟨lt,_,rfl, .inl G4, ?_⟩;refine cT (xs:=as.map W.v) (fun(i:Nat) m σ'=>(∀i' (hi':i'<as.length),i'<i→aG C false (fun a=>decide (x=a)) as[i']=false)∧σ'=σ1∧∃o1 o2,m=(bp mH [(some (.ref st)),(some (.str "assq")),(some (.ref al)),(some (.ref lt)),(some (.ref lc)),(some (e.v)),o1,(some (.ref lsm)),(some (.int 0)),o2])) ?_ ?_ ?_ 0 _ _ (xd _) ⟨fun _ _ h=>absurd h (xh _),rfl,none,none,rfl⟩
    · intro i m σ';refine dc ?_;rintro _ rfl _ _;exact .inl G4
    · intro i v m σ';refine fC ?_;rintro hno rfl o1 o2 rfl hv;rw [List.getElem?_map] at hv;refine aY ?_ (Option.map_eq_some_iff.mp hv);rintro a hv2 rfl;refine uE ?_ (List.getElem?_eq_some_iff.mp hv2);intro hi hai;subst hai;refine⟨rfl, ?_⟩;walk_at "m";have j1:=wT σ' as[i];have j2:=fb σ' as[i];have nx:aG C false (fun a=>decide (x=a)) as[i]=false→∀i' (hi':i'<as.length),i'<i+1→aG C false (fun a=>decide (x=a)) as[i']=false:=fun hf i' hi' hlt=>by
        rcases Nat.lt_or_ge i' i with h1 | h1
        · exact hno i' hi' h1
        · have:i'=i:=Nat.le_antisymm (Nat.le_of_lt_succ hlt) h1;subst this;exact hf
      refine bN ‹_› ‹_› (aC rfl (av rfl rfl j1) (ak rfl) (.eq j2)) ?_
      cases hcell:as[i].isCell
      · refine az (aj ?_);refine ay ?_;walk_at "m";refine aj ?_;refine bv ?_;refine⟨nx ?_,(by trivial),_,_,rfl⟩
        cases hh:as[i] with
        | cell k=>rw [hh] at hcell;exact tf hcell
        | num _=>rfl
        | nil=>rfl
      · refine aF ?_
        cases hh:as[i] with
        | num _=>rw [hh] at hcell;exact ft hcell
        | nil=>rw [hh] at hcell;exact ft hcell
        | cell k=>
          have hkC:k<C.length:=hC k (hh▸List.getElem_mem _);have hck:C[k]?=some (C[k].1,C[k].2):=w7 hkC;refine bP ?_ (S1.iK hck);intro b1 f1 f2 f3 f4 f5;have f0:=S1.iC;have v1:=wP σ' k;have hP:aG C false (fun a=>decide (x=a)) as[i]=(fun a=>decide (x=a)) C[k].1:=by refine ah hh ?_;simp [aG,hck]
          rw [hh] at nx hP
          (try dsimp+zetaDelta only);(try refine ah hh ?_)
          refine cx ‹_› ‹_› rfl (fun _=>rfl) (by exact a6 .n (a6 .s (av rfl rfl f0) (av rfl rfl v1) f2) (af rfl) f3) ?_;refine dX ?_;refine bR (dZ K hp ?_);have k1:=c9 σ' C[k].1 x;refine kE.mk (aC rfl (af rfl) (av rfl rfl c0) (.eq k1)) ?_;refine⟨_,rfl, ?_⟩
          by_cases hx:C[k].1=x
          · refine ah (decide_eq_true hx) ?_<;>try rfl
            have hit:(fun a=>decide (x=a)) C[k].1=true:=decide_eq_true hx.symm
            refine(?_:bu B n' _ _ _ _ _)
            refine aN ‹_› ‹_› (by exact af rfl) ?_;have:=q he i hi (by refine ah hh (ah hP ?_);exact hit) hno;rw [hh] at this;exact⟨hleT,this⟩
          · refine ah (decide_eq_false hx) ?_<;>try rfl
            refine bR ?_;refine lE ‹_› ‹_› (by exact bQ rfl) ?_
            refine(?_:bu B n' _ _ _ _ _)
            refine aj ?_;refine ay ?_;walk_at "m";refine aj ?_;refine ay ?_;walk_at "m";refine aj ?_;refine bv ?_;refine⟨nx (by refine ah hP ?_;exact decide_eq_false (Ne.symm hx)),(by trivial),_,_,rfl⟩
    · intro m σ';refine fC ?_;rintro hno rfl o1 o2 rfl;rw [List.length_map] at hno;refine ay ?_;walk_at "m";refine aN ‹_› ‹_› (by exact bD (wW rfl) (aA rfl (ak rfl))) ?_;refine⟨hleT,q0 he fun a ha=> ?_⟩;refine eu ?_ (List.getElem_of_mem ha);rintro i hi rfl;exact hno i hi hi
  · refine ah (decide_eq_false he) ?_<;>try rfl
    refine aF ?_;refine aN ‹_› ‹_› (by exact ak rfl) ?_;exact⟨hleT,qN he⟩
theorem lb (hB:B.K=HK Pr)(hn:6≤n)(S:CS σ st Lc Lp Lo ls C)(h:bK C w ks as e)(hz:ks.length≤1000)(hC:∀k, .cell k∈as→k<C.length)(ha:σ al=some (.list [x.v,w.v]))
    (qN:e≠ .nil→Q .none σ)
    (q:e= .nil→∀i (hi:i<as.length),aG C true (fun a=>decide (x=a)) as[i]=true→(∀i' (hi':i'<as.length),i'<i→aG C true (fun a=>decide (x=a)) as[i']=false)→Q (as[i]).v σ)
    (q0:e= .nil→(∀a∈as,aG C true (fun a=>decide (x=a)) a=false)→Q W.nil.v σ):CV B n (.ref 575) [.ref st, .str "rassq", .ref al] Q E σ:=by
  refine wu (σ₀:=σ) ?_;have K:=b9 hB;have h1:=el ha;have hlen:=h.len;refine bg (by assumption) lX rfl (ar hn rfl) ?_;intro n' hn' hp;refine ao (aS (.cons (.cons (.cons .nil))) rfl ?_);refine cr ‹_› ‹_› .n (af rfl) (aD rfl (af rfl) (a6 .u (af rfl) (ek (ak rfl)) h1)) (aB ‹_› rfl) ?_;refine a8 hB (aq hn' hn rfl) S h hz fun σ' lt lc hle g1 g2 g3 g4 g5=>⟨_,rfl,rfl, ?_⟩;refine ay ?_;walk_at "m";have S0:=S.le hle;refine ao (bj (dD hB) rfl rfl rfl (fun env hk hy=>o0 rfl rfl env hk hy) (bA ?_));refine aE ‹_› ‹_› (af rfl) ?_;refine⟨lt,_,rfl, .inl g4,fun lsm hlsm=> ?_⟩;refine ed (as:=as) (c:=W.v) (g:=fun a=>V.bool ((fun a=>decide (x=a)) a)) (.inl g4) hlsm ⟨_,rfl⟩ (wV (wV (wX hlen) hz) (wW rfl)) (fun a ha2 ys R hR=> ?_) ?_
  · skip
    have hleY:aH σ' (σ'.set lsm (.list ys)):=aH.set hlsm;have k0:=aT (hleY _ _ (hle _ _ ha));refine aV ?_;refine dr ‹_› ‹_› (bQ rfl) ?_;refine az (bn K hp ?_);have k1:=c9 (σ'.set lsm (.list ys)) x a;refine kE.mk (aC rfl (av rfl rfl k0) (af rfl) (.eq k1)) ?_;exact hR
  refine ah (show as.map (fun a=>V.bool ((fun a=>decide (x=a)) a))=(as.map (fun a=>decide (x=a))).map V.bool by simp) ?_
  refine ay ?_;walk_at "m";have hle1:aH σ' (σ'.set lsm (.list ((as.map (fun a=>decide (x=a))).map V.bool))):=aH.set hlsm;have g6:(σ'.set lsm (.list ((as.map (fun a=>decide (x=a))).map V.bool))) lsm=some (.list ((as.map (fun a=>decide (x=a))).map V.bool)):=wq _ _ _;have hleT:=hle.trans hle1;have G4:=hle1 _ _ g4;have G5:=hle1 _ _ g5;generalize σ'.set lsm (.list ((as.map (fun a=>decide (x=a))).map V.bool))=σ1 at*;have S1:=S.le hleT;have c0:=aT (hleT _ _ ha);refine bW ‹_› ‹_› rfl rfl ?_;have i2:=c9 σ1 e .nil;refine bN ‹_› ‹_› (aC rfl (af rfl) (bD (wW rfl) (aA rfl (ak rfl))) (.ne i2 rfl)) ?_
  by_cases he:e= .nil
  · refine ah (decide_eq_true he) ?_;refine az (aj ?_);refine ay ?_;walk_at "m";refine bO ‹_› ‹_› (gr rfl) (by rfl) ?_;refine cx ‹_› ‹_› rfl (fun _=>rfl) (bh .n (af rfl) (aA rfl (bQ rfl)) .int) ?_;refine ao (dB (bA ?_));refine aE ‹_› ‹_› (af rfl) ?_;refine⟨lt,_,rfl, .inl G4, ?_⟩;refine cT (xs:=as.map W.v) (fun(i:Nat) m σ'=>(∀i' (hi':i'<as.length),i'<i→aG C true (fun a=>decide (x=a)) as[i']=false)∧σ'=σ1∧∃o1 o2,m=(bp mH [(some (.ref st)),(some (.str "rassq")),(some (.ref al)),(some (.ref lt)),(some (.ref lc)),(some (e.v)),o1,(some (.ref lsm)),(some (.int 1)),o2])) ?_ ?_ ?_ 0 _ _ (xd _) ⟨fun _ _ h=>absurd h (xh _),rfl,none,none,rfl⟩
    · intro i m σ';refine dc ?_;rintro _ rfl _ _;exact .inl G4
    · intro i v m σ';refine fC ?_;rintro hno rfl o1 o2 rfl hv;rw [List.getElem?_map] at hv;refine aY ?_ (Option.map_eq_some_iff.mp hv);rintro a hv2 rfl;refine uE ?_ (List.getElem?_eq_some_iff.mp hv2);intro hi hai;subst hai;refine⟨rfl, ?_⟩;walk_at "m";have j1:=wT σ' as[i];have j2:=fb σ' as[i];have nx:aG C true (fun a=>decide (x=a)) as[i]=false→∀i' (hi':i'<as.length),i'<i+1→aG C true (fun a=>decide (x=a)) as[i']=false:=fun hf i' hi' hlt=>by
        rcases Nat.lt_or_ge i' i with h1 | h1
        · exact hno i' hi' h1
        · have:i'=i:=Nat.le_antisymm (Nat.le_of_lt_succ hlt) h1;subst this;exact hf
      refine bN ‹_› ‹_› (aC rfl (av rfl rfl j1) (ak rfl) (.eq j2)) ?_
      cases hcell:as[i].isCell
      · refine az (aj ?_);refine ay ?_;walk_at "m";refine aj ?_;refine bv ?_;refine⟨nx ?_,(by trivial),_,_,rfl⟩
        cases hh:as[i] with
        | cell k=>rw [hh] at hcell;exact tf hcell
        | num _=>rfl
        | nil=>rfl
      · refine aF ?_
        cases hh:as[i] with
        | num _=>rw [hh] at hcell;exact ft hcell
        | nil=>rw [hh] at hcell;exact ft hcell
        | cell k=>
          have hkC:k<C.length:=hC k (hh▸List.getElem_mem _);have hck:C[k]?=some (C[k].1,C[k].2):=w7 hkC;refine bP ?_ (S1.iK hck);intro b1 f1 f2 f3 f4 f5;have f0:=S1.iC;have v1:=wP σ' k;have hP:aG C true (fun a=>decide (x=a)) as[i]=(fun a=>decide (x=a)) C[k].2:=by refine ah hh ?_;simp [aG,hck]
          rw [hh] at nx hP
          (try dsimp+zetaDelta only);(try refine ah hh ?_)
          refine cx ‹_› ‹_› rfl (fun _=>rfl) (by exact a6 .n (a6 .s (av rfl rfl f0) (av rfl rfl v1) f2) (af rfl) f4) ?_;refine dX ?_;refine bR (dZ K hp ?_);have k1:=c9 σ' C[k].2 x;refine kE.mk (aC rfl (af rfl) (av rfl rfl c0) (.eq k1)) ?_;refine⟨_,rfl, ?_⟩
          by_cases hx:C[k].2=x
          · refine ah (decide_eq_true hx) ?_<;>try rfl
            have hit:(fun a=>decide (x=a)) C[k].2=true:=decide_eq_true hx.symm
            refine(?_:bu B n' _ _ _ _ _)
            refine aN ‹_› ‹_› (by exact af rfl) ?_;have:=q he i hi (by refine ah hh (ah hP ?_);exact hit) hno;rw [hh] at this;exact⟨hleT,this⟩
          · refine ah (decide_eq_false hx) ?_<;>try rfl
            refine bR ?_;refine lE ‹_› ‹_› (by exact bQ rfl) ?_
            refine(?_:bu B n' _ _ _ _ _)
            refine aj ?_;refine ay ?_;walk_at "m";refine aj ?_;refine ay ?_;walk_at "m";refine aj ?_;refine bv ?_;refine⟨nx (by refine ah hP ?_;exact decide_eq_false (Ne.symm hx)),(by trivial),_,_,rfl⟩
    · intro m σ';refine fC ?_;rintro hno rfl o1 o2 rfl;rw [List.length_map] at hno;refine ay ?_;walk_at "m";refine aN ‹_› ‹_› (by exact bD (wW rfl) (aA rfl (ak rfl))) ?_;refine⟨hleT,q0 he fun a ha=> ?_⟩;refine eu ?_ (List.getElem_of_mem ha);rintro i hi rfl;exact hno i hi hi
  · refine ah (decide_eq_false he) ?_<;>try rfl
    refine aF ?_;refine aN ‹_› ‹_› (by exact ak rfl) ?_;exact⟨hleT,qN he⟩
theorem k8 (hB:B.K=HK Pr){rk:Nat→Nat}(hr:Rk C rk)(f:W→Bool)(hf:∀k a d, .cell k∈as→C[k]?=some (a,d)→∃n,br C x a (f a) n)(hn0:6≤n)(hn:∀k, .cell k∈as→rk k+6≤n)(S:CS σ st Lc Lp Lo ls C)(h:bK C w ks as e)(hz:ks.length≤1000)(hC:∀k, .cell k∈as→k<C.length)(ha:σ al=some (.list [x.v,w.v]))
    (qN:e≠ .nil→Q .none σ)
    (q:e= .nil→∀i (hi:i<as.length),aG C false (f) as[i]=true→(∀i' (hi':i'<as.length),i'<i→aG C false (f) as[i']=false)→Q (as[i]).v σ)
    (q0:e= .nil→(∀a∈as,aG C false (f) a=false)→Q W.nil.v σ):CV B n (.ref 575) [.ref st, .str "assoc", .ref al] Q E σ:=by
  refine wu (σ₀:=σ) ?_;have K:=b9 hB;have h1:=el ha;have hlen:=h.len;refine bg (by assumption) lX rfl (ar hn0 rfl) ?_;intro n' hn' hp;refine ao (aS (.cons (.cons (.cons .nil))) rfl ?_);refine cr ‹_› ‹_› .n (af rfl) (aD rfl (af rfl) (a6 .u (af rfl) (ek (ak rfl)) h1)) (aB ‹_› rfl) ?_;refine a8 hB (aq hn' hn0 rfl) S h hz fun σ' lt lc hle g1 g2 g3 g4 g5=>⟨_,rfl,rfl, ?_⟩;refine ay ?_;walk_at "m";have S0:=S.le hle;refine ao (bj (dD hB) rfl rfl rfl (fun env hk hy=>o0 rfl rfl env hk hy) (bA ?_));refine aE ‹_› ‹_› (af rfl) ?_;refine⟨lt,_,rfl, .inl g4,fun lsm hlsm=> ?_⟩;refine ed (as:=as) (c:=W.v) (g:=fun a=>V.bool ((fun a=>decide (x=a)) a)) (.inl g4) hlsm ⟨_,rfl⟩ (wV (wV (wX hlen) hz) (wW rfl)) (fun a ha2 ys R hR=> ?_) ?_
  · skip
    have hleY:aH σ' (σ'.set lsm (.list ys)):=aH.set hlsm;have k0:=aT (hleY _ _ (hle _ _ ha));refine aV ?_;refine dr ‹_› ‹_› (bQ rfl) ?_;refine az (bn K hp ?_);have k1:=c9 (σ'.set lsm (.list ys)) x a;refine kE.mk (aC rfl (av rfl rfl k0) (af rfl) (.eq k1)) ?_;exact hR
  refine ah (show as.map (fun a=>V.bool ((fun a=>decide (x=a)) a))=(as.map (fun a=>decide (x=a))).map V.bool by simp) ?_
  refine ay ?_;walk_at "m";have hle1:aH σ' (σ'.set lsm (.list ((as.map (fun a=>decide (x=a))).map V.bool))):=aH.set hlsm;have g6:(σ'.set lsm (.list ((as.map (fun a=>decide (x=a))).map V.bool))) lsm=some (.list ((as.map (fun a=>decide (x=a))).map V.bool)):=wq _ _ _;have hleT:=hle.trans hle1;have G4:=hle1 _ _ g4;have G5:=hle1 _ _ g5;generalize σ'.set lsm (.list ((as.map (fun a=>decide (x=a))).map V.bool))=σ1 at*;have S1:=S.le hleT;have c0:=aT (hleT _ _ ha);refine bW ‹_› ‹_› rfl rfl ?_;have i2:=c9 σ1 e .nil;refine bN ‹_› ‹_› (aC rfl (af rfl) (bD (wW rfl) (aA rfl (ak rfl))) (.ne i2 rfl)) ?_
  by_cases he:e= .nil
  · refine ah (decide_eq_true he) ?_;refine az (aj ?_);refine ay ?_;walk_at "m";refine bO ‹_› ‹_› (gr rfl) (by rfl) ?_;refine cx ‹_› ‹_› rfl (fun _=>rfl) (bh .n (af rfl) (aA rfl (bQ rfl)) .int) ?_;refine ao (dB (bA ?_));refine aE ‹_› ‹_› (af rfl) ?_;refine⟨lt,_,rfl, .inl G4, ?_⟩;refine cT (xs:=as.map W.v) (fun(i:Nat) m σ'=>(∀i' (hi':i'<as.length),i'<i→aG C false (f) as[i']=false)∧σ'=σ1∧∃o1 o2,m=(bp mH [(some (.ref st)),(some (.str "assoc")),(some (.ref al)),(some (.ref lt)),(some (.ref lc)),(some (e.v)),o1,(some (.ref lsm)),(some (.int 0)),o2])) ?_ ?_ ?_ 0 _ _ (xd _) ⟨fun _ _ h=>absurd h (xh _),rfl,none,none,rfl⟩
    · intro i m σ';refine dc ?_;rintro _ rfl _ _;exact .inl G4
    · intro i v m σ';refine fC ?_;rintro hno rfl o1 o2 rfl hv;rw [List.getElem?_map] at hv;refine aY ?_ (Option.map_eq_some_iff.mp hv);rintro a hv2 rfl;refine uE ?_ (List.getElem?_eq_some_iff.mp hv2);intro hi hai;subst hai;refine⟨rfl, ?_⟩;walk_at "m";have j1:=wT σ' as[i];have j2:=fb σ' as[i];have nx:aG C false (f) as[i]=false→∀i' (hi':i'<as.length),i'<i+1→aG C false (f) as[i']=false:=fun hf i' hi' hlt=>by
        rcases Nat.lt_or_ge i' i with h1 | h1
        · exact hno i' hi' h1
        · have:i'=i:=Nat.le_antisymm (Nat.le_of_lt_succ hlt) h1;subst this;exact hf
      refine bN ‹_› ‹_› (aC rfl (av rfl rfl j1) (ak rfl) (.eq j2)) ?_
      cases hcell:as[i].isCell
      · refine az (aj ?_);refine ay ?_;walk_at "m";refine aj ?_;refine bv ?_;refine⟨nx ?_,(by trivial),_,_,rfl⟩
        cases hh:as[i] with
        | cell k=>rw [hh] at hcell;exact tf hcell
        | num _=>rfl
        | nil=>rfl
      · refine aF ?_
        cases hh:as[i] with
        | num _=>rw [hh] at hcell;exact ft hcell
        | nil=>rw [hh] at hcell;exact ft hcell
        | cell k=>
          have hkC:k<C.length:=hC k (hh▸List.getElem_mem _);have hck:C[k]?=some (C[k].1,C[k].2):=w7 hkC;refine bP ?_ (S1.iK hck);intro b1 f1 f2 f3 f4 f5;have f0:=S1.iC;have v1:=wP σ' k;have hP:aG C false (f) as[i]=(f) C[k].1:=by refine ah hh ?_;simp [aG,hck]
          rw [hh] at nx hP
          (try dsimp+zetaDelta only);(try refine ah hh ?_)
          refine cx ‹_› ‹_› rfl (fun _=>rfl) (a6 .n (a6 .s (av rfl rfl f0) (av rfl rfl v1) f2) (af rfl) f3) ?_;refine dX ?_;refine bR (dZ K hp ?_);have k1:=c9 σ' C[k].1 x;refine kE.mk (aC rfl (af rfl) (av rfl rfl c0) (.eq k1)) ?_;refine⟨_,rfl, ?_⟩
          by_cases hx:C[k].1=x
          · refine ah (decide_eq_true hx) ?_<;>try rfl
            have hit:(f) C[k].1=true:=by refine uE ?_ (hf k C[k].1 C[k].2 (hh▸List.getElem_mem _) hck);intro kk hkk;rw [hx] at hkk⊢;exact hkk.self rfl
            refine(?_:bu B n' _ _ _ _ _)
            refine aN ‹_› ‹_› (by exact af rfl) ?_;have:=q he i hi (by refine ah hh (ah hP ?_);exact hit) hno;rw [hh] at this;exact⟨hleT,this⟩
          · refine ah (decide_eq_false hx) ?_<;>try rfl
            refine bR ?_;refine lE ‹_› ‹_› (by exact bQ rfl) ?_;refine dq K hp .n rfl ?_;refine wU (af rfl) (bG rfl (af rfl) (af rfl) (av rfl rfl c0)) ?_;refine uE ?_ (hf k C[k].1 C[k].2 (hh▸List.getElem_mem _) hck);intro kk hkk;have hrk:=(hr k _ _ hck).1;refine⟨aB hB rfl,i9 hB S1 hr hkk.symm (by have:=hn k (hh▸List.getElem_mem _);lia) ⟨_,rfl, ?_⟩⟩
            cases hfk:f C[k].1
            · refine(?_:bu B n' _ _ _ _ _)
              refine aj ?_;refine ay ?_;walk_at "m";refine aj ?_;refine ay ?_;walk_at "m";refine aj ?_;refine bv ?_;exact⟨nx (by refine ah hP ?_;exact hfk),(by trivial),_,_,rfl⟩
            · refine(?_:bu B n' _ _ _ _ _)
              refine aN ‹_› ‹_› (by exact af rfl) ?_;have:=q he i hi (by refine ah hh (ah hP ?_);exact hfk) hno;rw [hh] at this;exact⟨hleT,this⟩
    · intro m σ';refine fC ?_;rintro hno rfl o1 o2 rfl;rw [List.length_map] at hno;refine ay ?_;walk_at "m";refine aN ‹_› ‹_› (by exact bD (wW rfl) (aA rfl (ak rfl))) ?_;refine⟨hleT,q0 he fun a ha=> ?_⟩;refine eu ?_ (List.getElem_of_mem ha);rintro i hi rfl;exact hno i hi hi
  · refine ah (decide_eq_false he) ?_<;>try rfl
    refine aF ?_;refine aN ‹_› ‹_› (by exact ak rfl) ?_;exact⟨hleT,qN he⟩
end
end
section
section
variable {B:Bs}{Pr:Params}{n:Nat}{Q:V→AH→Prop}{E:Str→AH→Prop}{σ:AH}{st Lc Lp Lo:Addr}{ls:List Addr}{C:St}{w x y e:W}{ks:List Nat}{as:List W}{al:Addr}{j:Nat}
theorem p9 (hB:B.K=HK Pr)(hn:6≤n)(S:CS σ st Lc Lp Lo ls C)(h:bK C w ks as e)(hz:C.length+ks.length<1000)(ha:σ al=some (.list [x.v,w.v]))
    (qN:e≠ .nil→∀σ',aH σ σ'→Q .none σ')
    (q:e= .nil→∀σ' ls',aU σ st Lc Lp Lo ls C σ' ls' (C++dO C.length (as.filter (·≠x)).reverse .nil)→Q (dS C.length (as.filter (·≠x)).length .nil).v σ'):CV B n (.ref 575) [.ref st, .str "remq", .ref al] Q E σ:=by
  have K:=b9 hB;have h1:=el ha;have hlen:=h.len;refine bg (by assumption) lX rfl (ar hn rfl) ?_;intro n' hn' hp;walk_at "m";refine ao (aS (.cons (.cons (.cons .nil))) rfl ?_);refine cr ‹_› ‹_› .n (af rfl) (aD rfl (af rfl) (a6 .u (af rfl) (ek (ak rfl)) h1)) (aB ‹_› rfl) ?_;refine a8 hB (aq hn' hn rfl) S h (wV (xj _ _) (wY hz)) fun σ' lt lc hle g1 g2 g3 g4 g5=>⟨_,rfl,rfl, ?_⟩;refine ay ?_;walk_at "m";have S0:=S.le hle;refine ao (bj (dD hB) rfl rfl rfl (fun env hk hy=>o0 rfl rfl env hk hy) (bA ?_));refine aE ‹_› ‹_› (af rfl) ?_;refine⟨lt,_,rfl, .inl g4,fun lsm hlsm=> ?_⟩;refine ed (as:=as) (c:=W.v) (g:=fun a=>V.bool ((fun a=>decide (x=a)) a)) (.inl g4) hlsm ⟨_,rfl⟩ (wV (wV (wX hlen) (wV (xj _ _) (wY hz))) (wW rfl)) (fun a ha2 ys R hR=> ?_) ?_
  · skip
    have hleY:aH σ' (σ'.set lsm (.list ys)):=aH.set hlsm;have k0:=aT (hleY _ _ (hle _ _ ha));refine aV ?_;refine dr ‹_› ‹_› (bQ rfl) ?_;refine az (bn K hp ?_);have k1:=c9 (σ'.set lsm (.list ys)) x a;refine kE.mk (aC rfl (av rfl rfl k0) (af rfl) (.eq k1)) ?_;exact hR
  refine ah (show as.map (fun a=>V.bool ((fun a=>decide (x=a)) a))=(as.map (fun a=>decide (x=a))).map V.bool by simp) ?_
  refine ay ?_;walk_at "m";have hle1:aH σ' (σ'.set lsm (.list ((as.map (fun a=>decide (x=a))).map V.bool))):=aH.set hlsm;have g6:(σ'.set lsm (.list ((as.map (fun a=>decide (x=a))).map V.bool))) lsm=some (.list ((as.map (fun a=>decide (x=a))).map V.bool)):=wq _ _ _;have hleT:=hle.trans hle1;have G4:=hle1 _ _ g4;have G5:=hle1 _ _ g5;generalize σ'.set lsm (.list ((as.map (fun a=>decide (x=a))).map V.bool))=σ1 at*;have S1:=S.le hleT;have c0:=aT (hleT _ _ ha);refine bW ‹_› ‹_› rfl rfl ?_;have i2:=c9 σ1 e .nil;refine bN ‹_› ‹_› (aC rfl (af rfl) (bD (wW rfl) (aA rfl (ak rfl))) (.ne i2 rfl)) ?_
  by_cases he:e= .nil
  · refine ah (decide_eq_true he) ?_;refine az (aj ?_);refine ay ?_;walk_at "m";refine eg ‹_› ‹_› (gr rfl) (by rfl) ?_;refine bO ‹_› ‹_› (bQ rfl) (by rfl) ?_;refine aJ (b8 rfl ?_ (fun env=>be .n _ _ env));refine aE ‹_› ‹_› (af rfl) ?_;refine⟨aB hB rfl, ?_⟩;refine aE ‹_› ‹_› (af rfl) ?_;refine cS (dD hB) rfl rfl (bA ?_);refine aE ‹_› ‹_› (af rfl) ?_;refine⟨lt,_,rfl, .inl G4,fun Dd hDd=> ?_⟩;have hleD:∀o,aH σ1 (σ1.set Dd o):=fun o=>aH.set hDd;have hne:lt≠Dd:=fun q=>by rw [←q,G4] at hDd;exact sn hDd
    refine cw (xs:=as.map W.v) (fun(i:Nat) m σ'=>(∃o,m=([(".0", .loc none),("own", .loc o),("args", .fre (.ref al))]:ax))∧σ'=σ1.set Dd (.list (((as.take i).filter (·≠x)).map W.v))) ?_ ?_ ?_ 0 _ _ (xd _) ⟨⟨none,rfl⟩,by first | rfl | simp⟩
    · intro i m σ';refine uA ?_;rintro _ rfl _;exact .inl ((wp hne).trans G4)
    · intro i v m σ';refine uA ?_;refine uE ?_;rintro o rfl rfl hv;rw [List.getElem?_map] at hv;refine aY ?_ (Option.map_eq_some_iff.mp hv);rintro a hv2 rfl;refine uE ?_ (List.getElem?_eq_some_iff.mp hv2);intro hi hai;have hle2:=hleD (.list (((as.take i).filter (·≠x)).map W.v));have h2:=aT (hle2 _ _ (hleT _ _ ha));have hsD:(σ1.set Dd (.list (((as.take i).filter (·≠x)).map W.v))) Dd=some (.list (((as.take i).filter (·≠x)).map W.v)):=wq _ _ _;have hlD:(((as.take i).filter (·≠x)).map W.v).length≤1000:=by
        have:=List.length_filter_le (fun z=>decide (z≠x)) (as.take i);simp only [List.length_map,List.length_take] at this⊢;exact Nat.le_of_lt_succ (wZ this (wZ (wV (Nat.min_le_right _ _) (wV (wX hlen) (wV (xj _ _) (wY hz)))) (wW rfl)))
      have hstep:(as.take (i+1)).filter (·≠x)=(as.take i).filter (·≠x)++if a=x then[] else[a]:=by
        refine ch (List.take_append_getElem hi) ?_;rewrite [List.filter_append];refine ah hai ?_
        congr 1
        by_cases q':a=x<;>simp [q']
      have c1:=c9 (σ1.set Dd (.list (((as.take i).filter (·≠x)).map W.v))) a x;refine⟨⟨o,rfl⟩, ?_⟩;refine lE ‹_› ‹_› (by exact aC rfl (af rfl) (av rfl rfl h2) (.ne c1 rfl)) ?_
      by_cases hxa:a=x
      · refine ah (decide_eq_true hxa) ?_<;>try rfl
        refine⟨⟨_,rfl⟩, ?_⟩;refine ah hstep (ah (if_pos hxa) ?_);rewrite [List.append_nil];rfl
      · refine ah (decide_eq_false hxa) ?_<;>try rfl
        refine(?_:EV B n' _ _ _ _ _)
        refine aE ‹_› ‹_› (by exact af rfl) ?_;refine⟨_,hsD,by refine ah sizeLine_eq ?_;exact wZ hlD (wW rfl),⟨_,rfl⟩, ?_⟩
        rewrite [wt];refine ah hstep (ah (if_neg hxa) (ah List.map_append ?_));rfl
    · intro m σ';refine uA ?_;rintro _ rfl;rewrite [List.length_map];refine ah List.take_length ?_;refine aE ‹_› ‹_› (by exact bD (wW rfl) (aA rfl (ak rfl))) ?_;have hlen2:=List.length_filter_le (fun z=>decide (z≠x)) as;refine cQ (e:= .nil) hB (by exact aq hn' hn rfl) (S1.le (hleD _)) (wq _ _ _) (by exact wZ (xe (wV hlen2 (wX hlen)) _) hz) fun σ'' ls' hL=>q he σ'' ls' (hL.le (hleT.trans (hleD _)))
  · refine ah (decide_eq_false he) ?_<;>try rfl
    refine aF ?_;refine aN ‹_› ‹_› (by exact ak rfl) ?_;exact qN he σ1 hleT
theorem gp (C:St)(as:List W):(cW C as).1.length≤as.length:=by
  have:∀(as:List W) (acc:St×List W),(as.foldl (ez C C.length) acc).1.length≤acc.1.length+as.length:=by
    intro as
    induction as with
    | nil=>intro acc;simp
    | cons a as ih=>
      intro acc;refine ah List.foldl_cons ?_;have h1:=ih (ez C C.length acc a);have h2:(ez C C.length acc a).1.length≤acc.1.length+1:=by
        unfold ez
        split<;>(try split)<;>simp
      exact wV h1 (wV (xc h2 _) (wX (Nat.add_right_comm _ 1 _)))
  simpa [cW] using this as ([],[])
theorem aU.setOut {σ':AH}{ls':List Addr}{C':St}{d:Addr}{o:bL}(x:aU σ st Lc Lp Lo ls C σ' ls' C')(h1:σ d=none)(h2:d∉ls')(h3:d≠Lc)(h4:d≠st):aU σ st Lc Lp Lo ls C (σ'.set d o) ls' C':=by
  refine⟨⟨(wp (Ne.symm h4)).trans x.cs.st,(wp (Ne.symm h3)).trans x.cs.cells,x.cs.len,fun k a p e=> ?_,x.cs.nd⟩,fun a ob e q1 q2=>(wp fun q=>by rw [q,h1] at e;exact nn e).trans (x.fr a ob e q1 q2),x.new⟩;refine aY ?_ (x.cs.at_ k a p e);intro b e1 e2;exact⟨b,e1,(wp fun q=>h2 (by refine ch q ?_;exact List.mem_of_getElem? e1)).trans e2⟩
theorem pY (hB:B.K=HK Pr)(hn:6≤n)(S:CS σ st Lc Lp Lo ls C)(h:bK C w ks as e)(hz:C.length+2*ks.length<1000)(hC:∀k, .cell k∈as→k<C.length)(ha:σ al=some (.list [w.v]))
    (qN:e≠ .nil→∀σ',aH σ σ'→Q .none σ')
    (q:e= .nil→∀σ' ls',aU σ st Lc Lp Lo ls C σ' ls' (C++(cW C as).1++dO (C.length+(cW C as).1.length) (cW C as).2.reverse .nil)→Q (dS (C.length+(cW C as).1.length) as.length .nil).v σ'):CV B n (.ref 575) [.ref st, .str "copy-alist", .ref al] Q E σ:=by
  have K:=b9 hB;have h1:=mY ha;have hlen:=h.len;refine bg (by assumption) lX rfl (ar hn rfl) ?_;intro n' hn' hp;walk_at "m";refine ao (aS (.cons (.cons (.cons .nil))) rfl ?_);refine cr ‹_› ‹_› .n (af rfl) (aD rfl (af rfl) (a6 .u (af rfl) (ek (ak rfl)) h1)) (aB ‹_› rfl) ?_;refine a8 hB (aq hn' hn rfl) S h (wV (Nat.le_mul_of_pos_left _ (wW rfl)) (wV (xj _ _) (wY hz))) fun σ' lt lc hle g1 g2 g3 g4 g5=>⟨_,rfl,rfl, ?_⟩;refine ay ?_;walk_at "m";have S0:=S.le hle;refine ao (bj (dD hB) rfl rfl rfl (fun env hk hy=>o0 rfl rfl env hk hy) (bA ?_));refine aE ‹_› ‹_› (af rfl) ?_;refine⟨lt,_,rfl, .inl g4,fun lsm hlsm=> ?_⟩;refine ed (as:=as) (c:=W.v) (g:=fun a=>V.bool ((fun a=>decide (w=a)) a)) (.inl g4) hlsm ⟨_,rfl⟩ (wV (wX h.len) (wV (wV (Nat.le_mul_of_pos_left _ (wW rfl)) (wV (xj _ _) (wY hz))) (wW rfl))) (fun a ha2 ys R hR=> ?_) ?_
  · skip
    have hleY:aH σ' (σ'.set lsm (.list ys)):=aH.set hlsm;have k0:=aT (hleY _ _ (hle _ _ ha));refine aV ?_;refine dr ‹_› ‹_› (bQ rfl) ?_;refine az (bn K hp ?_);have k1:=c9 (σ'.set lsm (.list ys)) w a;refine kE.mk (aC rfl (av rfl rfl k0) (af rfl) (.eq k1)) ?_;exact hR
  refine ah (show as.map (fun a=>V.bool ((fun a=>decide (w=a)) a))=(as.map (fun a=>decide (w=a))).map V.bool by simp) ?_
  refine ay ?_;walk_at "m";have hle1:aH σ' (σ'.set lsm (.list ((as.map (fun a=>decide (w=a))).map V.bool))):=aH.set hlsm;have g6:(σ'.set lsm (.list ((as.map (fun a=>decide (w=a))).map V.bool))) lsm=some (.list ((as.map (fun a=>decide (w=a))).map V.bool)):=wq _ _ _;have hleT:=hle.trans hle1;have G4:=hle1 _ _ g4;have G5:=hle1 _ _ g5;generalize σ'.set lsm (.list ((as.map (fun a=>decide (w=a))).map V.bool))=σ1 at*;have S1:=S.le hleT;have c0:=aT (hleT _ _ ha);refine bW ‹_› ‹_› rfl rfl ?_;have i2:=c9 σ1 e .nil;refine bN ‹_› ‹_› (aC rfl (af rfl) (bD (wW rfl) (aA rfl (ak rfl))) (.ne i2 rfl)) ?_
  by_cases he:e= .nil
  · refine ah (decide_eq_true he) ?_;refine az (aj ?_);refine ay ?_;walk_at "m";refine eg ‹_› ‹_› (gr rfl) (by rfl) ?_;refine aM ‹_› ‹_› rfl rfl ?_;refine bO ‹_› ‹_› (bQ rfl) (by rfl) ?_;refine ao (bj (dD hB) rfl rfl rfl (fun env hk hy=>o0 rfl rfl env hk hy) (bA ?_));refine aE ‹_› ‹_› (af rfl) ?_;refine⟨lt,_,rfl, .inl G4,fun Dd hDd=> ?_⟩;have hDL:Dd≠Lc:=fun q=>by rw [q,S1.cells] at hDd;exact sn hDd
    have hDs:Dd≠st:=fun q=>by rw [q,S1.st] at hDd;exact sn hDd
    have hDl:Dd∉ls:=fun q=>(S1.ne q).2.2 hDd;have hltL:lt≠Lc:=fun q=>by have:=S.cells;rw [←q,g1] at this;exact nn this
    have hltl:lt∉ls:=fun q=>(S.ne q).2.2 g1;have hcl:=e7 C as;refine cw (xs:=as.map W.v) (fun(i:Nat) m σ'=>(∃o,m=([(".0", .loc none),("own", .loc o),("_law_cell", .glob (.ref 514)),("state", .fre (.ref st))]:ax))∧∃ls',aU σ1 st Lc Lp Lo ls C σ' ls' (C++(cW C (as.take i)).1)∧Dd∉ls'∧σ' Dd=some (.list ((cW C (as.take i)).2.map W.v))) ?_ ?_ ?_ 0 _ _ (xd _) ⟨⟨none,rfl⟩,ls, ?_,hDl,wq _ _ _⟩
    · intro i m σ';refine cq ?_;intro _ ls' hL _ _ _;exact .inl (hL.fr _ _ G4 hltL hltl)
    · intro i v m σ';refine cq ?_;refine uE ?_;rintro o rfl ls' hL hDn hsD hv;rw [List.getElem?_map] at hv;refine aY ?_ (Option.map_eq_some_iff.mp hv);rintro a hv2 rfl;refine uE ?_ (List.getElem?_eq_some_iff.mp hv2);intro hi hai;have hcl:=e7 C (as.take i);have hstep:=lO C as hi;rw [hai] at hstep;have hlD:((cW C (as.take i)).2.map W.v).length<sizeLine:=by
        rewrite [List.length_map];refine ah hcl (ah List.length_take (ah sizeLine_eq ?_));exact wZ (Nat.min_le_right _ _) (wZ (wX h.len) (wZ (wV (Nat.le_mul_of_pos_left _ (wW rfl)) (wV (xj _ _) (wY hz))) (wW rfl)))
      have j1:=wT σ' a;have j2:=fb σ' a;refine⟨⟨o,rfl⟩, ?_⟩;refine aV ?_;refine dr ‹_› ‹_› (aC rfl (av rfl rfl j1) (ak rfl) (.eq j2)) ?_;have stay:a.isCell=false→ez C C.length (cW C (as.take i)) a=((cW C (as.take i)).1,(cW C (as.take i)).2++[a]):=fun hh=>by
        cases a with
        | cell k=>exact tf hh
        | num _=>rfl
        | nil=>rfl
      cases hcell:a.isCell
      · refine az ?_;refine aE ‹_› ‹_› (af rfl) ?_;refine⟨_,hsD,hlD,⟨_,rfl⟩,ls', ?_,hDn, ?_⟩
        · refine ah hstep (ah (stay hcell) ?_);exact hL.setOut hDd hDn hDL hDs
        · refine ah hstep (ah (stay hcell) ?_);rewrite [wq];refine ah List.map_append ?_;rfl
      · cases a with
        | num _=>exact ft hcell
        | nil=>exact ft hcell
        | cell k=>
          have hkC:k<C.length:=hC k (hai▸List.getElem_mem _);have hck:(C++(cW C (as.take i)).1)[k]?=some (C[k].1,C[k].2):=by exact(List.getElem?_append_left hkC).trans (w7 hkC)
          refine bP ?_ (hL.cs.iK hck);intro b1 f1 f2 f3 f4 f5;have f0:=hL.cs.iC;have v1:=wP σ' k;have hst:ez C C.length (cW C (as.take i)) (.cell k)=((cW C (as.take i)).1++[(C[k].1,C[k].2)],(cW C (as.take i)).2++[.cell (C.length+(cW C (as.take i)).1.length)]):=by
            unfold ez;simp only [w7 hkC]
          have hc1:=gp C (as.take i);refine aF ?_;refine cr ‹_› ‹_› .n (by exact af rfl) (by exact bG rfl (af rfl) (a6 .c (a6 .s (av rfl rfl f0) (av rfl rfl v1) f2) (ak rfl) f3) (a6 .c (a6 .s (av rfl rfl f0) (av rfl rfl v1) f2) (ak rfl) f4)) (aB ‹_› rfl) ?_;refine fX hB (by exact aq hn' hn rfl) hL.cs (by refine ah List.length_append ?_;simp only [List.length_take] at hc1;exact wZ (xe (wV hc1 (wV (Nat.min_le_right _ _) (wX h.len))) _) (wZ (xe (Nat.le_mul_of_pos_left _ (wW rfl)) _) hz)) fun σ'' ls'' hL'=> ?_
          have hDn2:Dd∉ls'':=fun q=>by
            rcases hL'.new _ q with h | h
            · exact hDn h
            · rw [hsD] at h;exact sn h
          have hsD2:=hL'.fr _ _ hsD hDL hDn;refine⟨_,hsD2,hlD,⟨_,rfl⟩,ls'', ?_,hDn2, ?_⟩
          · refine ah hstep (ah hst ?_);rewrite [←List.append_assoc];exact(hL.trans hL' (by refine ah S1.cells ?_;simp)).setOut hDd hDn2 hDL hDs
          · refine ah hstep (ah hst ?_);rewrite [wq];refine ah List.map_append (ah List.length_append ?_);rfl
    · intro m σ';refine cq ?_;intro _ ls' hL hDn hsD;rw [List.length_map,List.take_length] at hL hsD;refine ay ?_;walk_at "m";have hc1:=gp C as;refine cA ‹_› ‹_› .n (by exact af rfl) (by exact bG rfl (af rfl) (af rfl) (bD (wW rfl) (aA rfl (ak rfl)))) (aB ‹_› rfl) ?_;refine cQ (e:= .nil) hB (by exact aq hn' hn rfl) hL.cs hsD (by refine ah List.length_append ?_;exact wZ (wV (wX (Nat.add_assoc ..)) (xe (wV (Nat.add_le_add (wV hc1 (wX h.len)) (wX ((e7 C as).trans h.len))) (wX (Nat.two_mul _).symm)) _)) hz) fun σ'' ls'' hL'=> ?_
      have hlen2:(C++(cW C as).1).length=C.length+(cW C as).1.length:=by exact List.length_append
      rw [hlen2] at hL'⊢;refine ah hcl ?_;exact q he σ'' ls'' ((hL.trans hL' (by refine ah S1.cells ?_;simp)).le hleT)
    · simp only [List.take_zero,cW,List.foldl_nil,List.append_nil]
      exact(aU.refl S1).setOut hDd hDl hDL hDs
  · refine ah (decide_eq_false he) ?_<;>try rfl
    refine aF ?_;refine aN ‹_› ‹_› (by exact ak rfl) ?_;exact qN he σ1 hleT
end
end
section
noncomputable def dC:St→List Nat→List W→St
  | C,k::ks,r::rs=>dC (dg C k r) ks rs
  | C,_,_=>C
theorem ix:∀(C:St) (K:List Nat) (rs:List W) {j:Nat} (h1:j<K.length) (h2:j<rs.length),dC C (K.take (j+1)) (rs.take (j+1))=dg (dC C (K.take j) (rs.take j)) K[j] rs[j]
  | _,_::_,_::_,0,_,_=>rfl
  | C,k::K,r::rs,_+1,h1,h2=>ix (dg C k r) K rs (Nat.lt_of_succ_lt_succ h1) (Nat.lt_of_succ_lt_succ h2)
  | _,[],_,_,h1,_=>absurd h1 (xh _)
  | _,_::_,[],_,_,h2=>absurd h2 (xh _)
theorem jE:∀(C:St) (K:List Nat) (rs:List W),(dC C K rs).length=C.length
  | _,_::K,_::rs=>(jE _ K rs).trans (gF ..)
  | _,[],_=>rfl
  | _,_::_,[]=>rfl
theorem iy:∀(K:List Nat) (C:St) (rs:List W),dC C K (rs.take K.length)=dC C K rs
  | [],_,_=>rfl
  | _::_,_,[]=>rfl
  | _::K,_,_::rs=>iy K _ rs
theorem fU:∀(K:List Nat) (C:St),dC C K ((K.drop 1).map W.cell++[.nil])=bq C K .nil
  | [],_=>rfl
  | [_],_=>rfl
  | k1::k2::r,C=>fU (k2::r) (dg C k1 (.cell k2))
section
variable {B:Bs}{Pr:Params}{n:Nat}{Q:V→AH→Prop}{E:Str→AH→Prop}{σ:AH}{st Lc Lp Lo:Addr}{ls:List Addr}{C:St}{w x y e:W}{ks:List Nat}{as:List W}{al:Addr}{j:Nat}
noncomputable def r9:ax:=[("state", .cel none),("word", .cel none),("args", .cel none),("things", .loc none),("cells", .loc none),("end", .loc none),("own", .loc none),("same", .loc none),("at", .loc none),("key", .loc none),("new", .loc none),("cell", .loc none),("kept", .loc none),("rest", .loc none),("_law_chain", .glob (.ref 521)),("int", .glob (.ty "int")),("_law_like", .glob (.ref 542)),("_law_made", .glob (.ref 535)),("zip", .glob (.ty "zip"))]
theorem pZ (hB:B.K=HK Pr)(hn:6≤n)(S:CS σ st Lc Lp Lo ls C)(h:bK C w ks as e)(hz:C.length+ks.length<1000)(ha:σ al=some (.list [x.v,w.v]))
    (qN:e≠ .nil→∀σ',aH σ σ'→Q .none σ')
    (q:e= .nil→∀σ',aU σ st Lc Lp Lo ls C σ' ls (bq C (aZ ks as x ks.length) .nil)→Q (sJ (aZ ks as x ks.length)).v σ'):CV B n (.ref 575) [.ref st, .str "delq", .ref al] Q E σ:=by
  have K:=b9 hB;have h1:=el ha;have hlen:=h.len;refine bg (by assumption) lX rfl (ar hn rfl) ?_;intro n' hn' hp;walk_at "m";refine ao (aS (.cons (.cons (.cons .nil))) rfl ?_);refine cr ‹_› ‹_› .n (af rfl) (aD rfl (af rfl) (a6 .u (af rfl) (ek (ak rfl)) h1)) (aB ‹_› rfl) ?_;refine a8 hB (aq hn' hn rfl) S h (wV (xj _ _) (wY hz)) fun σ' lt lc hle g1 g2 g3 g4 g5=>⟨_,rfl,rfl, ?_⟩;refine ay ?_;walk_at "m";have S0:=S.le hle;refine ao (bj (dD hB) rfl rfl rfl (fun env hk hy=>o0 rfl rfl env hk hy) (bA ?_));refine aE ‹_› ‹_› (af rfl) ?_;refine⟨lt,_,rfl, .inl g4,fun lsm hlsm=> ?_⟩;refine ed (as:=as) (c:=W.v) (g:=fun a=>V.bool ((fun a=>decide (x=a)) a)) (.inl g4) hlsm ⟨_,rfl⟩ (wV (wV (wX hlen) (wV (xj _ _) (wY hz))) (wW rfl)) (fun a ha2 ys R hR=> ?_) ?_
  · skip
    have hleY:aH σ' (σ'.set lsm (.list ys)):=aH.set hlsm;have k0:=aT (hleY _ _ (hle _ _ ha));refine aV ?_;refine dr ‹_› ‹_› (bQ rfl) ?_;refine az (bn K hp ?_);have k1:=c9 (σ'.set lsm (.list ys)) x a;refine kE.mk (aC rfl (av rfl rfl k0) (af rfl) (.eq k1)) ?_;exact hR
  refine ah (show as.map (fun a=>V.bool ((fun a=>decide (x=a)) a))=(as.map (fun a=>decide (x=a))).map V.bool by simp) ?_
  refine ay ?_;walk_at "m";have hle1:aH σ' (σ'.set lsm (.list ((as.map (fun a=>decide (x=a))).map V.bool))):=aH.set hlsm;have g6:(σ'.set lsm (.list ((as.map (fun a=>decide (x=a))).map V.bool))) lsm=some (.list ((as.map (fun a=>decide (x=a))).map V.bool)):=wq _ _ _;have hleT:=hle.trans hle1;have G4:=hle1 _ _ g4;have G5:=hle1 _ _ g5;generalize σ'.set lsm (.list ((as.map (fun a=>decide (x=a))).map V.bool))=σ1 at*;have S1:=S.le hleT;have c0:=aT (hleT _ _ ha);refine bW ‹_› ‹_› rfl rfl ?_;have i2:=c9 σ1 e .nil;refine bN ‹_› ‹_› (aC rfl (af rfl) (bD (wW rfl) (aA rfl (ak rfl))) (.ne i2 rfl)) ?_
  by_cases he:e= .nil
  · refine ah (decide_eq_true he) ?_;refine az (aj ?_);refine ay ?_;walk_at "m";refine eg ‹_› ‹_› (gr rfl) (by rfl) ?_;refine aM ‹_› ‹_› rfl rfl ?_;refine aM ‹_› ‹_› rfl rfl ?_;refine ao (bj (dD hB) rfl rfl rfl (fun env hk hy=>o0 rfl rfl env hk hy) (ph rfl rfl ?_));refine re ‹_› ‹_› (aD rfl (af rfl) (af rfl)) ?_;refine⟨lc,lsm,_,_,rfl,G5,g6,fun TI TO i1 i2 Dk hDk=> ?_⟩;have hl2:min (ks.map fun k=>(W.cell k).v).length ((as.map fun a=>decide (x=a)).map V.bool).length=ks.length:=by simp [hlen]
    have nD:∀{l:Addr} {o o':bL},σ1 l=some o→(σ1.set Dk o') l=some o:=fun e=>(wp fun q=>nn (hDk.symm.trans (q▸e))).trans e;refine gc (N:=ks.length) (R:=fun j m σ'=>MV B n' m (.zip TI TO i1 i2 lc lsm j) _ Dk _ σ') (I:=fun j m σ'=>(∃o1 o2,m=([(".0", .loc none),("cell", .loc o1),("is_same_here", .loc o2)]:ax))∧σ'=σ1.set Dk (.list ((aZ ks as x j).map fun k=>(W.cell k).v))) ?_ ?_ 0 _ _ (xd _) ⟨⟨none,none,rfl⟩,rfl⟩
    rotate_left
    · intro j m σ' hj;refine uA ?_;refine eu ?_;rintro o1 o2 rfl rfl ih;have hja:j<as.length:=hlen▸hj;refine ny (nA (nD G5) (nD g6) (u:=(W.cell ks[j]).v) (v:= .bool (decide (x=as[j]))) (by refine ah List.getElem?_map (ah (w7 hj) ?_);rfl) (by refine ah List.getElem?_map (ah List.getElem?_map (ah (w7 hja) ?_));rfl) ⟨_,rfl⟩ ⟨_,rfl⟩ (by rw [ne_eq,ba];decide)) rfl (J:=fun σ'=>σ'=σ1.set Dk (.list ((aZ ks as x (j+1)).map fun k=>(W.cell k).v))) ?_ (fun σ' h=>ih _ _ ⟨⟨_,_,rfl⟩,h⟩);refine ah (cE hj hja) ?_
      refine(?_:TV B n' _ _ _ _ _)
      refine lE ‹_› ‹_› (by exact oA (af rfl)) ?_
      by_cases hxa:as[j]=x
      · refine ah (decide_eq_true hxa.symm) (ah (if_pos hxa) ?_);rewrite [List.append_nil];exact rfl
      · refine ah (decide_eq_false (Ne.symm hxa)) (ah (if_neg hxa) ?_)
        refine(?_:EV B n' _ _ _ _ _)
        refine aE ‹_› ‹_› (by exact af rfl) ?_;have h5:=(df (x:=x) (j:=j) hlen).length_le;refine⟨_,wq _ _ _,by rewrite [List.length_map];refine ah sizeLine_eq ?_;rw [List.length_take] at h5;exact wZ (wV h5 (wV (Nat.min_le_right _ _) (wV (xj _ _) (wY hz)))) (wW rfl), ?_⟩
        rewrite [wt];refine ah List.map_append ?_;rfl
    intro m σ';refine uA ?_;rintro _ rfl;refine kz (pk (nD G5) (nD g6) hl2) ?_;clear nD hl2;refine ay ?_;walk_at "m";have hKlen:(aZ ks as x ks.length).length≤ks.length:=by
      have:=(df (x:=x) (j:=ks.length) hlen).length_le
      simpa using this
    have hKmem:∀k∈aZ ks as x ks.length,k<C.length:=fun k hk=>by
      have h1:=(df (x:=x) (j:=ks.length) hlen).subset hk;rw [List.take_length] at h1;refine eu ?_ (List.getElem_of_mem h1);rintro t ht rfl;refine uE ?_ (h.at ht);intro _ hc
      exact(List.getElem?_eq_some_iff.mp hc).1
    generalize aZ ks as x ks.length=KK at*;have hle2:aH σ1 (σ1.set Dk (.list (KK.map fun k=>(W.cell k).v))):=aH.set hDk;have gD:(σ1.set Dk (.list (KK.map fun k=>(W.cell k).v))) Dk=some (.list (KK.map fun k=>(W.cell k).v)):=wq _ _ _;have hDl:Dk∉ls:=fun q=>(S1.ne q).2.2 hDk;have hDL:Dk≠Lc:=fun q=>by rw [q,S1.cells] at hDk;exact sn hDk
    generalize σ1.set Dk (.list (KK.map fun k=>(W.cell k).v))=σ2 at*;have S2:=S1.le hle2;refine ao (dB (ph rfl rfl (cK ?_)));refine aE ‹_› ‹_› (by exact af rfl) ?_;refine cK ?_;refine dK (cJ ?_);refine aE ‹_› ‹_› (by exact af rfl) ?_;refine aE ‹_› ‹_› (by exact ak rfl) ?_;refine⟨1,rfl,Dk,KK.map (fun k=>(W.cell k).v),((KK.drop 1).map W.cell).map W.v,rfl, .inl gD,by refine ah List.map_map (ah List.map_drop ?_);exact .drop 1 rfl,fun b1 hb1=>a9 rfl (by simp) ?_⟩
    refine aE ‹_› ‹_› (by exact bD (wW rfl) (aA rfl (ak rfl))) ?_;intro b2 hb2;have hle3:aH σ2 (σ2.set b1 (.list (((KK.drop 1).map W.cell).map W.v))):=aH.set hb1;have gb1:(σ2.set b1 (.list (((KK.drop 1).map W.cell).map W.v))) b1=some (.list (((KK.drop 1).map W.cell).map W.v)):=wq _ _ _;generalize σ2.set b1 (.list (((KK.drop 1).map W.cell).map W.v))=σ3 at*;have hle4:aH σ3 (σ3.set b2 (.list [V.tup [.str "nil"]])):=aH.set hb2;have gb2:(σ3.set b2 (.list [V.tup [.str "nil"]])) b2=some (.list ([W.nil].map W.v)):=wq _ _ _;have gb1':=hle4 _ _ gb1;generalize σ3.set b2 (.list [V.tup [.str "nil"]])=σ4 at*;refine kB gb1' gb2 (by simp [sizeLine_eq];exact wV (wV hKlen (wV (xj _ _) (wY hz))) (wW rfl)) fun b3 hb3=> ?_;refine ch List.map_append ?_;have hle5:aH σ4 (σ4.set b3 (.list (((KK.drop 1).map W.cell++[W.nil]).map W.v))):=aH.set hb3;have gb3:(σ4.set b3 (.list (((KK.drop 1).map W.cell++[W.nil]).map W.v))) b3=some (.list (((KK.drop 1).map W.cell++[W.nil]).map W.v)):=wq _ _ _;have S4:=(S2.le hle3).le hle4;have hb3l:b3∉ls:=fun q=>(S4.ne q).2.2 hb3;have hb3L:b3≠Lc:=fun q=>by rw [q,S4.cells] at hb3;exact sn hb3
    have gD5:=hle5 _ _ (hle4 _ _ (hle3 _ _ gD));have hleA:aH σ (σ4.set b3 (.list (((KK.drop 1).map W.cell++[W.nil]).map W.v))):=(((hleT.trans hle2).trans hle3).trans hle4).trans hle5;have S5:=S4.le hle5;generalize σ4.set b3 (.list (((KK.drop 1).map W.cell++[W.nil]).map W.v))=σ5 at*;refine⟨Dk,b3,_,_,rfl,gD5,gb3,fun TI TO i1 i2=> ?_⟩;have hl2:min (KK.map fun k=>(W.cell k).v).length (((KK.drop 1).map W.cell++[W.nil]).map W.v).length=KK.length:=by simp;lia
    refine gc (N:=KK.length) (R:=fun j m σ'=>FV B n' m (.zip TI TO i1 i2 Dk b3 j) _ _ _ _ σ') (I:=fun j m σ'=>(∃o1 o2,m=(bp r9 [(some (.ref st)),(some (.str "delq")),(some (.ref al)),(some (.ref lt)),(some (.ref lc)),(some (e.v)),none,(some (.ref lsm)),none,none,none,o1,(some (.ref Dk)),o2]))∧aU σ5 st Lc Lp Lo ls C σ' ls (dC C (KK.take j) (((KK.drop 1).map W.cell++[W.nil]).take j))) ?_ ?_ 0 _ _ (xd _) ⟨⟨none,none,rfl⟩,aU.refl S5⟩
    rotate_left
    · intro j m σ' hj1;refine uA ?_;refine eu ?_;rintro o1 o2 rfl hL ih;have hj2:j<((KK.drop 1).map W.cell++[W.nil]).length:=by simp;exact xi (Nat.le_sub_of_add_le hj1)
      have f1:=hL.fr _ _ gD5 hDL hDl;have f2:=hL.fr _ _ gb3 hb3L hb3l;have hkC:KK[j]<(dC C (KK.take j) (((KK.drop 1).map W.cell++[W.nil]).take j)).length:=by rw [jE];exact hKmem _ (List.getElem_mem _)
      obtain ⟨a0,d0,hck⟩:∃a0 d0,(dC C (KK.take j) (((KK.drop 1).map W.cell++[W.nil]).take j))[KK[j]]?=some (a0,d0):=⟨_,_,w7 hkC⟩;refine bP ?_ (hL.cs.iK hck);intro b u1 u2 u3 u4 u5;refine bI ?_ (hL.cs.upd hck a0 (((KK.drop 1).map W.cell++[W.nil])[j]));intro b' w1 w2 w3;rw [u1] at w1;(refine sj ?_ w1;clear w1;intro e1;subst e1);have f0:=hL.cs.iC;have f3:eJ σ' (W.cell KK[j]).v (.int 1) (.int KK[j]):=wP _ _;refine iF (nA f1 f2 (u:=(W.cell KK[j]).v) (v:=(((KK.drop 1).map W.cell++[W.nil])[j]).v) (by refine ah List.getElem?_map (ah (w7 hj1) ?_);rfl) (by refine ah List.getElem?_map (ah (w7 hj2) ?_);rfl) ⟨_,rfl⟩ ⟨_,rfl⟩ (by rw [ne_eq,ba];decide)) rfl (wI ?_ ih);walk_at "m";refine ao (bX ?_);refine aE ‹_› ‹_› (by exact af rfl) ?_;refine aE ‹_› ‹_› (by exact a6 .s (av rfl rfl f0) (av rfl rfl f3) u2) ?_;refine aE ‹_› ‹_› (by exact ak rfl) ?_;refine⟨_, .l u5 1 rfl (wW rfl), ?_⟩;refine ay ?_;walk_at "m";refine aj ⟨⟨_,_,rfl⟩, ?_⟩;have e1:dg (dC C (KK.take j) (((KK.drop 1).map W.cell++[W.nil]).take j)) KK[j] (((KK.drop 1).map W.cell++[W.nil])[j])=(dC C (KK.take j) (((KK.drop 1).map W.cell++[W.nil]).take j)).set KK[j] (a0,((KK.drop 1).map W.cell++[W.nil])[j]):=by
        unfold dg;exact ah hck rfl
      refine ah (ix C KK _ hj1 hj2) (ah e1 ?_);exact hL.trans w3 (by refine ah S5.cells ?_;simp)
    intro m σ';refine uA ?_;refine eu ?_;rintro o1 o2 rfl hL;refine iG (pk (hL.fr _ _ gD5 hDL hDl) (hL.fr _ _ gb3 hb3L hb3l) hl2) ?_;rw [List.take_length,iy,fU] at hL;have f1:=hL.fr _ _ gD5 hDL hDl;have hLσ:=hL.le hleA;refine ay ?_;walk_at "m";refine aJ (aV (gi K hp ?_));refine kE.mk (af rfl) ?_;refine⟨Dk,_,rfl,f1,fun b hb=> ?_⟩;have hle6:aH σ' (σ'.set b (.list [])):=aH.set hb;have f3:=hle6 _ _ f1;have hne:b∉ls:=fun q=>(hLσ.cs.ne q).2.2 hb;have hL6:aU σ st Lc Lp Lo ls C (σ'.set b (.list [])) ls (bq C KK .nil):=by
      refine⟨hLσ.cs.le hle6,fun a o e h1 h2=>hle6 _ _ (hLσ.fr a o e h1 h2),hLσ.new⟩
    have fin:=q he _ hL6;generalize σ'.set b (.list [])=σ6 at*
    cases KK with
    | nil=>
      refine az ?_;refine aE ‹_› ‹_› (by exact bD (wW rfl) (aA rfl (ak rfl))) ?_;exact fin
    | cons k0 KK=>
      refine aF (bn K hp ?_);have i3:eJ σ6 (.ref Dk) (.int 0) (W.cell k0).v:=aT f3;refine kE.mk (av rfl rfl i3) ?_;exact fin
  · refine ah (decide_eq_false he) ?_<;>try rfl
    refine aF ?_;refine aN ‹_› ‹_› (by exact ak rfl) ?_;exact qN he σ1 hleT
end
end
section
section
variable {prog:Program}{w:World}{A:Around}{E:Value→Shared→Prop}{s:Shared}{Pr:Params}
theorem pK {e:Addr}{oe od:Obj}{y:Str}{t:Tok}{Q:Value→Shared→Prop}(X:(HK Pr).In s.heap)(I:InstAt s.heap e oe 38 (some od))(hl:lookIn "symbol" od=some (some (.str y t)))(h:∀tk,Q (.str y t) {s with toks:=tk}):
    wpAny (model prog w) A (getAttr (.ref e) "symbol" true) Q E s:=by
  have L0:=I.type (M:=model prog w);have L1:=looks_findIn (M:=model prog w) X (show findIn (HK Pr) (.ref 38) "__getattribute__"=some (some (.builtin "BaseException.__getattribute__")) from rfl);have L2:=looks_findIn (M:=model prog w) X (show findIn (HK Pr) (.ref 38) "__getattr__"=some none from rfl);have L3:=looks_find (M:=model prog w) X I (findObj_own (K:=HK Pr) (C:=38) (name:="symbol") (v:= .str y t) rfl (show findIn (HK Pr) (.ref 38) "symbol"=some none from rfl) rfl hl);have L4:=looks_mroIn (M:=model prog w) X (show mroIn (HK Pr) 38 (.type "BaseException")=some true from rfl);have hk:builtinKind "BaseException.__getattribute__"=some .slot:=by decide+kernel
  have hsplit:splitId "BaseException.__getattribute__"=some ("BaseException","__getattribute__"):=by decide+kernel
  have f3:=F.excAttr_ValueError.ga.bind (.ref e);obtain ⟨hh,g,d,tk,os⟩:=s;refine wpAny_bind (wpAny_mkText (wpAny_holding (wpAny_bind (L0.at (wpAny_bind (L1.at ?_))))));unfold getAttrByItsOwn hookBefore;refine wpAny_bind ?_;refine ah (if_pos (show onTheHeap (.ref 38)=true from rfl)) ?_;refine L2.at ?_;refine wpAny_bind (wpAny_attempt (wpAny_holding ?_))
  refine(?_:wpAny _ _ (boundAndCalled _ _ _) _ _ _)
  refine wpAny_bind (wpAny_of_eq f3 (wpAny_call ?_));have ha:=F.args_bexc_ga (.ref e) (.str "symbol" tk);refine codeAny_call_builtin F.excAttr_ValueError.ga.plain F.entry_bexc_ga ?_;simp only [checkBuiltinCall,hk,hsplit];refine wpAny_bind (wpAny_bind ?_);refine L0.at (L4.at ?_);refine ah (if_neg (by decide)) ?_;have ha':argsOk "BaseException.__getattribute__" ⟨[.ref e]++[.str "symbol" tk],[]⟩:=ha;unfold argsOk at ha';refine wpAny_of_eq ha' ?_;unfold Builtin.«object.__getattribute__»;refine wpAny_bind (wpAny_of_eq (a:=(.ref e,[.str "symbol" tk])) rfl ?_);dsimp only;refine wpAny_bind (wpAny_of_eq (a:=("symbol":Str)) rfl ?_);refine wpAny_bind (L0.at (wpAny_bind (L3.at ?_)));refine wpAny_pure ?_
  refine(?_:wpAny _ _ (handedOut (.str y t)) _ _ _)
  exact wpAny_pure (h _)
end
section
variable {B:Bs}{Pr:Params}{n:Nat}{m:ax}{E:Str→AH→Prop}{σ:AH}
theorem q8 {Pr:Params}:exmOne (HK Pr) (.ref 38) (.ref 38)=some true:=by rfl
theorem mZ {y:Str}{o:Obj}(h:nW y o):∃t,lookIn "symbol" o=some (some (.str y t)):=by
  obtain ⟨es,ep,t,h1,h2,h3,h4⟩:=h;refine⟨t, ?_⟩;unfold lookIn;refine ah h1 ?_;dsimp only;unfold nsFind findBy at h4;rw [←Array.find?_toList] at h4
  cases q:es.toList.find? (fun e=>e.key.isStr "symbol") with
  | none=>rw [q] at h4;exact nn h4
  | some e=>
    rw [q] at h4;simp only [Option.map_some,Option.some.injEq] at h4
    refine(?_:some (some e.val)=_)
    exact ah h4 rfl
theorem nY (hB:B.K=HK Pr){body:List Stmt}{x sg:Str}{pt p1 p2 p3 p4 p5 hp pos:Pos}{kd:Nat}{o:Option V}{Q:cM→ax→AH→Prop}(hx:lk m x=some (.loc o))(hl:lk m "LispSignal"=some (.glob (.ref 38)))
    (h:bu B n m body (fun fl m' σ'=>match fl with | .next=>False | f=>Q f m' σ') (fun y σ'=>∀b,σ' b=none→Q (.ret (.ref b)) [] (σ'.set b (.list [.str sg, .str y]))) σ):
    SV B n m (.Try body [.ExceptHandler (some (.Name "LispSignal" pt)) (some x) [.Return (some (.List [.Constant (.str sg) kd p1, .Attribute (.Name x p2) "symbol" p3] p4)) p5] hp] [] [] pos) Q E σ:=by
  intro Γ A T mc kc s G HA HS HL;have hfr:=HA.frames;refine wpAny_Try_except (wpAny_mono (h Γ A T mc kc s G HA HS HL) ?_ ?_)
  · rintro f s' ⟨T',mc',kc',m',σ',y,hT,HS',HL',hf,hq⟩
    cases y with
    | next=>exact hq.elim
    | brk=>cases (show f= .brk from hf);exact⟨T',mc',kc',m',σ', .brk,hT,HS',HL',rfl,hq⟩
    | cont=>cases (show f= .cont from hf);exact⟨T',mc',kc',m',σ', .cont,hT,HS',HL',rfl,hq⟩
    | ret v=>refine aY ?_ hf;clear hf;rintro w rfl hw;exact⟨T',mc',kc',m',σ', .ret v,hT,HS',HL',⟨w,rfl,hw⟩,hq⟩
  · intro ev s₁ hPE;refine wpAny_mono (kX G hfr hPE) ?_ fun _ _ x=>x;intro _ s₂ h₂;refine wpAny_mono (fH G.toFcOk (x:=none) h₂) ?_ fun _ _ x=>x;intro _ s₃ h₃;have hP0:∀v,v=(Option.none:Option Addr).elim Value.none (fun f=>rawInt f)→v= .none∨∃L,Γ.env.frame=some L∧v=rawInt L:=fun v hv=> .inl hv;obtain ⟨e,T',mc',kc',σ',y,own,dof,rfl,hT,I,hm,hX,hE⟩:=id h₃;obtain ⟨oe,vs,d,es,nn,a0,Tb,oT,ts,fl,x1,x2,x3,x4,x5,x6,x7,x8,x9,x10,x11,x12,x13,x14,x15,x16,x17,x18,x19,x20⟩:=hX;refine dc ?_ (HL "LispSignal" _ hl);intro hd0 hk0;refine aY ?_;intro cv hcv hg;have X0:(HK Pr).In Γ.h₀:=by refine ch hB ?_;exact G.stat.k
    have XK:(HK Pr).In s₃.heap:=X0.keeps I.keep;have T₀:=G.stat.t;have evalName:∀(A':Around) (P E':Value→Shared→Prop),P (.ref 38) s₃→wpAny B.M A' (eval (.Name "LispSignal" pt) Γ.env) P E' s₃:=fun A' P E' q=>by
      have hc:cv= .ref 38:=hcv T;subst hc
      rcases hg with hg | ⟨h1,h2,h3⟩
      · exact Name_function_global G.kind hk0 (loadGlobal_global (by refine ah G.glb ?_;exact T₀.g.keeps I.keep) (mg_of G.stat.k T₀.g hg) q) hd0
      · exact Name_function_global G.kind hk0 (loadGlobal_builtin (by refine ah G.glb ?_;exact T₀.g.keeps I.keep) (mg_none_of G.stat.k T₀.g h1) (by refine ah G.blt ?_;exact T₀.b.keeps I.keep) ((T₀.builtins _ h3).trans h2) q) hd0
    have LT:Looks B.M s₃.heap (typeOf (.ref e)) (.ref 38):=by
      have:Looks B.M s₃.heap (typeOf (.ref e)) oe.cls:=(Looks.ld (part:=none) x1).andThen .now;rw [x2] at this;exact this
    refine wpAny_handleBy_cons (codeAny_handlers_test (evalName _ _ _ ?_)) (by intro q;cases q)
    refine(exm_one XK LT q8).here ?_
    refine codeAny_handlers_suite_as ?_;refine wpAny_mono (fH (T:=T) (P:=fun v=>v=(none:Option Addr).elim Value.none (fun f=>rawInt f)) (E:=fun y' σ''=>y'=y∧σ''=σ') G.toFcOk (x:=none) ⟨e,T',mc',kc',σ',y,own,dof,rfl,hT,I,hm,⟨oe,vs,d,es,nn,a0,Tb,oT,ts,fl,x1,x2,x3,x4,x5,x6,x7,x8,x9,x10,x11,x12,x13,x14,x15,x16,x17,x18,x19,x20⟩,rfl,rfl⟩) ?_ fun _ _ x=>x;rintro _ s₄ ⟨e',T₄,mc₄,kc₄,σ₄,y₄,own₄,dof₄,hee,hT₄,I₄,hm₄,hX₄,rfl,rfl⟩
    cases hee
    obtain ⟨oe,vs,d,es,nn,a0,Tb,oT,ts,fl,x1,x2,x3,x4,x5,x6,x7,x8,x9,x10,x11,x12,x13,x14,x15,x16,x17,x18,x19,x20⟩:=hX₄;have hkx:=(HL x _ hx).2.1;have hpp:(Γ.env.scope.kind== .class || (Γ.env.scope.kind== .module&&Γ.env.locals !=Γ.env.globals))=false:=by refine ah G.kind ?_;rfl
    refine wpAny_storeName_local hkx I₄.ns (fun h5 hn5 hs5=> ?_) hpp;have I5:=I₄.local G.toFcOk hn5 hs5;have eL:e≠Γ.env.locals:=fun q=>by
      refine bz ?_ I₄.ns;intro oL esL epL hoL hdL _;rw [←q,x1] at hoL;(refine sj ?_ hoL;clear hoL;intro e1;subst e1);rw [x4] at hdL;cases hdL
    have dL:d≠Γ.env.locals:=(I₄.ow d x6).1;have x1':h5.get? e=some oe:=(hs5.2 e eL).trans x1;have x7':h5.get? d=some es:=(hs5.2 d dL).trans x7;refine uE ?_ (mZ x8);intro tt hlk;have hval:(fun y=>if y=x then some (Value.ref e) else mc₄ y) x=some (.ref e):=if_pos rfl;have XK5:(HK Pr).In h5:=X0.keeps I5.keep;have I0:InstAt h5 e oe 38 (some es):=⟨x1',x2,by unfold notCls;exact ah x4 rfl,by refine ah x3 ?_;exact x7'⟩
    have evName:∀(A':Around) (P E':Value→Shared→Prop) tk,P (.ref e) {s₄ with heap:=h5,toks:=tk}→wpAny B.M A' (eval (.Name x p2) Γ.env) P E' {s₄ with heap:=h5,toks:=tk}:=fun A' P E' tk q=>wpAny_Name (wpAny_loadName_local G.kind hkx hn5 hval q) (HL x _ hx).1
    refine wpAny_execs_cons (wpAny_Return_some ?_);refine List_ ?_
    refine(?_:wpAny B.M _ (eval (.Constant (.str sg) kd p1) Γ.env>>=fun v=>(pure [v])>>=fun here=>holding here (spliced (backTo p4 (starEach [.Attribute (.Name x p2) "symbol" p3] Γ.env)))>>=fun rest=>pure (here++rest)) _ _ _)
    refine wpAny_bind (wpAny_Constant_str (wpAny_bind (wpAny_pure (wpAny_bind (wpAny_holding ?_)))))
    refine(?_:wpAny B.M _ (eval (.Attribute (.Name x p2) "symbol" p3) Γ.env>>=fun v=>(pure [v])>>=fun here=>holding here (spliced (backTo p4 (starEach [] Γ.env)))>>=fun rest=>pure (here++rest)) _ _ _)
    refine wpAny_bind (Attribute_any_ (evName _ _ _ _ ?_) (by rw [arm_eval_Attribute];rfl));refine pK XK5 I0 hlk fun tk2=> ?_;refine wpAny_bind (wpAny_pure (wpAny_bind (wpAny_holding (wpAny_pure ?_))));refine wpAny_pure (wpAny_pure ?_)
    refine j9 (xs:=[.str sg, .str y₄]) (T:=T₄) (kc:=kc₄) (σ:=σ₄) G.toFcOk (s:={s₄ with heap:=h5,toks:=tk2}) ⟨own₄,dof₄,I5,hm₄⟩ ⟨_,_,rfl,⟨_,rfl⟩,_,_,rfl,⟨_,rfl⟩,rfl⟩ (by simp [sizeLine_eq]) fun s6 hσ6 HS6=> ?_;obtain ⟨own6,dof6,I6,hm6⟩:=HS6;refine wpAny_nameGoes hkx I6.ns hpp fun h7 m7 hn7 hs7=> ?_;exact⟨T₄,m7,kc₄,[],_, .ret (.ref _),hT₄,⟨own6,dof6,I6.local G.toFcOk hn7 hs7,hm6⟩,(fun z sl hz=>by cases hz),⟨_,rfl,rfl⟩,hE _ hσ6⟩
end
end
section
noncomputable def fG:List (Str×V):=[("cons", .ref 291),("list", .ref 298),("car", .ref 277),("cdr", .ref 284),("setcar", .ref 305),("setcdr", .ref 312),("nth", .ref 387),("nthcdr", .ref 380),("take", .ref 394),("last", .ref 401),("butlast", .ref 408),("nconc", .ref 422),("memq", .ref 429),("member", .ref 436),("delq", .ref 457),("remq", .ref 462),("assq", .ref 476),("assoc", .ref 483),("rassq", .ref 490),("copy-alist", .ref 495),("proper", .ref 319)]
noncomputable def jS:List String:=["cons","list","car","cdr","setcar","setcdr","nth","nthcdr","take","last","butlast","nconc","memq","member","delq","remq","assq","assoc","rassq","copy-alist","proper"]
theorem mV:(fG.map (·.1)).Nodup:=by
  have e:fG.map (·.1)=jS.map Str.ofString:=rfl;refine ah e ?_;unfold List.Nodup;rw [List.pairwise_map];have h:jS.Nodup:=by decide
  exact List.Pairwise.imp (fun hab q=>hab ((ba _ _).mp q)) h
set_option maxHeartbeats 400000
section
variable {B:Bs}{Pr:Params}{n:Nat}{Q:V→AH→Prop}{E:Str→AH→Prop}{σ:AH}{al:Addr}
theorem mP (hB:B.K=HK Pr)(hn:3≤n){wd:Str}{f:Addr}(hw:fO fG wd=some (.ref f))(hkf:ec B (.ref f))
    (h:∀n' σ1,n=n'+1→aH σ σ1→CV B n' (.ref f) [.none, .ref al] (fun v σ'=>∀b,σ' b=none→Q (.ref b) (σ'.set b (.list [.str "told",v]))) (fun y σ'=>∀b,σ' b=none→Q (.ref b) (σ'.set b (.list [.str "signal", .str y]))) σ1):CV B n (.ref 608) [.str wd, .ref al] Q E σ:=by
  have K:=b9 hB;refine bm (by assumption) vU rfl (ar hn rfl) ?_;intro n' hn' hp;obtain ⟨l,hl⟩:∃l,l=fG:=⟨_,rfl⟩;have hw':fO l wd=some (.ref f):=by refine ah hl ?_;exact hw
  have hnd:(l.map (·.1)).Nodup:=by refine ah hl ?_;exact mV
  have hlen:l.length=21:=by refine ah hl ?_;rfl
  refine ao ?_;refine cU ?a ?b ?c
  case a=>rfl
  case c=>(intro env;rfl)
  refine @lw B n' _ _ E σ _ _ _ l ?x1 (w0 (wW rfl) (wX hlen.symm)) (wZ (wX hlen) (wW rfl)) hnd ?x2
  case x1=>
    refine ah hl ?_
    repeat (refine .cons rfl ?_)
    exact .nil
  intro d σ1 hle hd hd1;refine ay ?_;walk_at "m";have i1:eJ σ1 (.ref d) (.str wd) (.ref f):= .s hd1 hw';refine ao ?_;refine nY hB (o:=none) ?y1 ?y2 ?y3
  case y1=>rfl
  case y2=>rfl
  refine aJ (a9 rfl (by simp) ?_);refine aE ‹_› ‹_› (by exact ak rfl) ?_;refine aK K hp .s rfl ?_;refine wU (a6 .n (af rfl) (af rfl) i1) (aD rfl (ak rfl) (af rfl)) ?_;refine⟨hkf,(h n' σ1 hn' hle).mono (fun v σ' hv=> ?_) fun y σ' hy=> ?_⟩
  · exact fun b hb=>hv b hb
  · exact hy
end
end
section
section
variable {B:Bs}{Pr:Params}{n:Nat}{Q:V→AH→Prop}{E:Str→AH→Prop}{σ:AH}{st Lc Lp Lo:Addr}{ls:List Addr}{C:St}{D:Nat→Prop}{P:Nat→Addr}{w x y e:W}{ks:List Nat}{as:List W}{ps:List Nat}
noncomputable def sd:ax:=[("state", .loc none),("index", .loc none),("own", .loc none),("sorted", .glob (.bi "sorted")),("_law_is_same", .glob (.ref 587))]
theorem gX (hB:B.K=HK Pr)(hn:4≤n)(S:CS σ st Lc Lp Lo ls C)(L:Lk σ C D P)(hp:σ Lp=some (.idict (gA P ps)))(hnd:ps.Nodup)(hps:∀k∈ps,D k)(hcl:Cl C (·∈ps))(hz:C.length≤100)
    (q:∀σ' ps',(∀k∈ps,k∈ps')→ps'.Nodup→(∀k∈ps',D k)→Cl C (·∈ps')→σ' Lp=some (.idict (gA P ps'))→dT Lp σ σ'→Q (.bool true) σ'):CV B n (.ref 594) [.ref st] Q E σ:=by
  have K:=b9 hB;refine cO (by assumption) vS rfl (ar hn rfl) ?_;intro n' hn' hp0;walk_at "m";have f0:=S.iP;have hpl:ps.length≤C.length:=im _ _ hnd fun k hk=>L.lt (hps k hk);refine ao (dB (bA (aK K hp0 .n rfl ?_)));refine wU (af rfl) (aA rfl (av rfl rfl f0)) ?_;refine⟨(by trivial),nU hp (by simp only [gA,List.length_map];exact wV hpl hz) fun b kk hb hkk hkz=>⟨b,_,rfl, .inl (wq _ _ _), ?_⟩⟩;have hle:aH σ (σ.set b (.list (kk.map V.int))):=aH.set hb;have gb:(σ.set b (.list (kk.map V.int))) b=some (.list (kk.map V.int)):=wq _ _ _;have hbL:b≠Lp:=fun q=>by rw [q,hp] at hb;exact sn hb
  have fr0:dT Lp σ (σ.set b (.list (kk.map V.int))):=(dT.refl Lp σ).le hle;have hp1:=hle _ _ hp;generalize σ.set b (.list (kk.map V.int))=σ1 at*;refine cT (xs:=kk.map V.int) (fun(i:Nat) m σ'=>∃ps',(∀k∈ps,k∈ps')∧ps'.Nodup∧(∀k∈ps',D k)∧Cl C (·∈ps')∧σ' Lp=some (.idict (gA P ps'))∧dT Lp σ1 σ'∧∃o1 o2,m=(bp sd [(some (.ref st)),o1,o2])) ?_ ?_ ?_ 0 _ _ (xd _) ⟨ps,fun _ h=>h,hnd,hps,hcl,hp1,dT.refl _ _,none,none,rfl⟩
  · intro i m σ';refine bP ?_;intro ps' _ _ _ _;refine dc ?_;intro _ hf _ _;exact .inl (hf _ _ gb hbL)
  · intro i v m σ';refine bP ?_;intro ps' hsub hnd' hD' hcl';refine fC ?_;rintro hp' hf o1 o2 rfl hv;rw [List.getElem?_map] at hv;refine aY ?_ (Option.map_eq_some_iff.mp hv);rintro z hv2 rfl;have hz1:=hkk z (List.mem_of_getElem? hv2);refine aY ?_ (List.mem_map.mp hz1);intro p hpm hpz;refine aY ?_ (List.mem_map.mp hpm);rintro k hk rfl;have hpz:(k:Int)=z:=hpz;subst hpz;have hkp:=hsub k hk;have frT:=fr0.trans hf;have S':=S.frX hp frT;have L':=L.frX hp frT;refine bk ?_ (L'.at_ k (hD' k hkp));intro a d ck oka okd hat;refine uA ?_ (hcl' k a d hkp ck);intro ca cd;have f1:=S'.iP;have f2:=S'.iC;have g0:eJ σ' (.ref Lp) (.int (k:Int)) (.ref (P k)):=by
      exact .i hp' (by rewrite [iL];exact ah (if_pos hkp) rfl)
    refine⟨rfl, ?_⟩;walk_at "m";refine cx ‹_› ‹_› rfl (fun _=>rfl) (a6 .n (av rfl rfl f1) (af rfl) g0) ?_;refine cf ?_ (L'.car (hD' k hkp) ck);intro a1 a2 _ _ _;refine bP ?_ (S'.iK ck);intro b1 u1 u2 u3 u4 u5;have s1:=aR P a;refine ey K hp0 .n rfl ?_;refine wU (af rfl) (bG rfl (af rfl) (cF .n (af rfl) a1 (aO _ _)) (a6 .c (a6 .n (av rfl rfl f2) (af rfl) u2) (ak rfl) u3)) ?_;refine⟨aB hB rfl,di hB (aq hn' hn rfl) S' L' hp' hnd' hD' oka (wV hz (wW rfl)) fun σ2 ps2 h1 h2 h3 h4 h5 h6 h7=>⟨_,rfl,jo ?_⟩⟩;refine aj ?_;refine ay ?_;walk_at "m";have frT2:=frT.trans h7;have S2:=S.frX hp frT2;have L2:=L.frX hp frT2;refine cf ?_ (L2.car (hD' k hkp) ck);intro a1 a2 _ _ _;refine bP ?_ (S2.iK ck);intro b1 u1 u2 u3 u4 u5;have f3:=S2.iC;have s2:=aR P d;refine ey K hp0 .n rfl ?_;refine wU (af rfl) (bG rfl (af rfl) (cF .n (af rfl) a2 (aO _ _)) (a6 .c (a6 .n (av rfl rfl f3) (af rfl) u2) (ak rfl) u4)) ?_;refine⟨aB hB rfl,di hB (aq hn' hn rfl) S2 L2 h6 h2 h3 okd (wV hz (wW rfl)) fun σ3 ps3 r1 r2 r3 r4 r5 r6 r7=>⟨_,rfl,jo ?_⟩⟩;refine aj ?_;refine ay ?_;walk_at "m";refine aj ?_;refine bv ?_;exact⟨ps3,fun k hk=>r1 k (h1 k (hsub k hk)),r2,r3,r5 (h5 hcl'),r6,(hf.trans h7).trans r7,_,_,rfl⟩
  · intro m σ';refine bP ?_;intro ps' hsub hnd' hD' hcl';refine fC ?_;rintro hp' hf o1 o2 rfl;refine ay ?_;walk_at "m";refine aN ‹_› ‹_› (ak rfl) ?_;exact q σ' ps' hsub hnd' hD' hcl' hp' (fr0.trans hf)
end
end
section
noncomputable def f7 (p:Nat→Bool):Nat→Nat
  | 0=>0
  | N+1=>f7 p N+(if p N then 1 else 0)
theorem mT (p:Nat→Bool):∀N,f7 p N≤N
  | 0=>w6 _
  | N+1=>Nat.add_le_add (mT p N) (by cases p N<;>decide)
theorem gn {p q:Nat→Bool}(h:∀i,p i=true→q i=true):∀N,f7 p N≤f7 q N
  | 0=>w6 _
  | N+1=>by
    have:=gn h N
    refine(?_:f7 p N+(if p N then 1 else 0)≤f7 q N+(if q N then 1 else 0))
    by_cases hp:p N=true
    · refine ah (if_pos hp) (ah (if_pos (h _ hp)) ?_);exact xc this _
    · refine ah (if_neg hp) ?_;split<;>(first | exact Nat.add_le_add this (wW rfl) | exact this)
theorem gL {p q:Nat→Bool}(h:∀i,p i=true→q i=true){j:Nat}(h1:q j=true)(h2:p j=false):∀N,j<N→f7 p N+1≤f7 q N
  | 0,hj=>absurd hj (xh _)
  | N+1,hj=>by
    refine(?_:f7 p N+(if p N then 1 else 0)+1≤f7 q N+(if q N then 1 else 0))
    by_cases hjN:j=N
    · subst hjN;have:=gn h j;refine ah (if_pos h1) (ah h2 ?_)
      simp;exact this
    · have:=gL h h1 h2 N (Nat.lt_of_le_of_ne (Nat.le_of_lt_succ hj) hjN)
      by_cases hp:p N=true
      · refine ah (if_pos hp) (ah (if_pos (h _ hp)) ?_);exact xc this _
      · refine ah (if_neg hp) ?_;split<;>(first | exact Nat.le_add_right_of_le this | exact this)
theorem kK {p q:Nat→Bool}(h:∀i,p i=true→q i=true){j k:Nat}(hjk:j≠k)(h1:q j=true)(h2:p j=false)(h3:q k=true)(h4:p k=false){N:Nat}(hj:j<N)(hk:k<N):f7 p N+2≤f7 q N:=by
  have a1:=gL (p:=p) (q:=fun i=>p i || decide (i=j)) (fun i hi=>by simp [hi]) (j:=j) (by simp) h2 N hj;have a2:=gL (p:=fun i=>p i || decide (i=j)) (q:=q) (fun i hi=>by
    simp at hi
    rcases hi with hi | rfl
    · exact h i hi
    · exact h1) (j:=k) h3 (by simp [h4];exact fun e=>hjk e.symm) N hk
  exact xm (wZ a1 a2)
theorem Rk.comp {C:St}{rk:Nat→Nat}(R:Rk C rk)(hC:Cl C (·<C.length)):∃rk',Rk C rk'∧∀k,rk' k≤C.length:=by
  refine⟨fun k=>f7 (fun i=>decide (rk i<rk k)) C.length,fun k a d h=> ?_,fun k=>mT _ _⟩;have hk:k<C.length:=(List.getElem?_eq_some_iff.mp h).1;refine uA ?_ (hC k a d hk h);intro oa od;refine uA ?_ (R k a d h);intro ra rd;have key:∀w:W,Ok (·<C.length) w→ir rk w≤rk k→ir (fun k=>f7 (fun i=>decide (rk i<rk k)) C.length) w≤f7 (fun i=>decide (rk i<rk k)) C.length:=by
    intro w ow rw_
    cases w with
    | num i=>exact xd _
    | nil=>exact xd _
    | cell j=>
      have rw_:rk j+1≤rk k:=rw_;exact gL (fun i hi=>by simp at hi⊢;exact w0 (w0 hi (w9 _ _)) rw_) (j:=j) (by simp;exact rw_) (by simp) _ ow
  exact⟨key a oa ra,key d od rd⟩
theorem bK.exists {C:St}{rk:Nat→Nat}(R:Rk C rk)(hC:Cl C (·<C.length)):∀(n:Nat) (w:W),ir rk w≤n→Ok (·<C.length) w→∃ks as e,bK C w ks as e∧(∀k∈ks,k<C.length∧rk k<ir rk w):=by
  intro n
  induction n with
  | zero=>
    intro w hr ow;refine⟨[],[],w,⟨rfl,rfl,fun j k h=>by simp at h, ?_,List.nodup_nil⟩,fun k h=>by cases h⟩
    cases w with
    | cell k=>exact absurd hr (by simp [ir])
    | num _=>rfl
    | nil=>rfl
  | succ n ih=>
    intro w hr ow
    cases w with
    | num i=>exact⟨[],[], .num i,⟨rfl,rfl,fun j k h=>by simp at h,rfl,List.nodup_nil⟩,fun k h=>by cases h⟩
    | nil=>exact⟨[],[], .nil,⟨rfl,rfl,fun j k h=>by simp at h,rfl,List.nodup_nil⟩,fun k h=>by cases h⟩
    | cell k=>
      have hk:k<C.length:=ow;obtain ⟨⟨a,d⟩,hc⟩:∃p,C[k]?=some p:=⟨_,w7 hk⟩;refine uA ?_ (R k a d hc);intro ra rd;refine uA ?_ (hC k a d hk hc);intro oa od;have hr:rk k+1≤n+1:=hr;refine c6 ?_ (ih d (wV rd (Nat.le_of_lt_succ hr)) od);intro ks as e hch hks;refine⟨k::ks,a::as,e,⟨by simp [hch.len],rfl, ?_,hch.stop,List.nodup_cons.mpr ⟨fun hm=> ?_,hch.nd⟩⟩, ?_⟩
      · intro j k' hj
        cases j with
        | zero=>
          simp at hj;subst hj;refine⟨a,rfl, ?_⟩;refine ah hc ?_;exact ah hch.zero rfl
        | succ j=>exact hch.get j k' (by simpa using hj)
      · have:=(hks k hm).2;lia
      · intro j hj
        rcases List.mem_cons.mp hj with rfl | hj
        · exact⟨hk,xk _⟩
        · have:=hks j hj;exact⟨this.1,by exact w0 this.2 (wV rd (w9 _ _))⟩
theorem br.exists {C:St}{rk:Nat→Nat}(R:Rk C rk)(hC:Cl C (·<C.length)):∀(n:Nat) (x y:W),ir rk x≤n→Ok (·<C.length) x→Ok (·<C.length) y→∃b k,br C x y b k:=by
  intro n
  induction n with
  | zero=>
    intro x y hr ox oy
    by_cases q:x=y
    · subst q;exact⟨_,_, .eq⟩
    · refine⟨_,_, .no q (.inl ?_)⟩
      cases x with
      | cell k=>exact absurd hr (by simp [ir])
      | num _=>rfl
      | nil=>rfl
  | succ n ih=>
    intro x y hr ox oy
    by_cases q:x=y
    · subst q;exact⟨_,_, .eq⟩
    · cases x with
      | num i=>exact⟨_,_, .no q (.inl rfl)⟩
      | nil=>exact⟨_,_, .no q (.inl rfl)⟩
      | cell i=>
        cases y with
        | num j=>exact⟨_,_, .no q (.inr rfl)⟩
        | nil=>exact⟨_,_, .no q (.inr rfl)⟩
        | cell j=>
          have hi:i<C.length:=ox;have hj:j<C.length:=oy;obtain ⟨⟨a1,d1⟩,h1⟩:∃p,C[i]?=some p:=⟨_,w7 hi⟩;obtain ⟨⟨a2,d2⟩,h2⟩:∃p,C[j]?=some p:=⟨_,w7 hj⟩;refine uA ?_ (R i a1 d1 h1);intro ra rd;refine uA ?_ (hC i a1 d1 hi h1);intro oa1 od1;refine uA ?_ (hC j a2 d2 hj h2);intro oa2 od2;have hr:rk i+1≤n+1:=hr;have hne:i≠j:=fun e=>q (congrArg _ e);refine eu ?_ (ih a1 a2 (wV ra (Nat.le_of_lt_succ hr)) oa1 oa2);intro b k hl
          cases b with
          | false=>exact⟨_,_, .carF hne h1 h2 hl⟩
          | true=>
            refine eu ?_ (ih d1 d2 (wV rd (Nat.le_of_lt_succ hr)) od1 od2);intro b' k' hl';exact⟨_,_, .cdr hne h1 h2 hl hl'⟩
noncomputable def hW (hf:Nat→Nat):W→Nat
  | .cell j=>hf j
  | _=>0
noncomputable def oK (C:St):Nat→Nat→Nat
  | 0,_=>0
  | f+1,k=>match C[k]? with
    | some (a,d)=>max (hW (oK C f) a) (hW (oK C f) d)+1
    | none=>0
theorem pO (C:St)(f k:Nat):oK C (f+1) k=match C[k]? with
    | some (a,d)=>max (hW (oK C f) a) (hW (oK C f) d)+1
    | none=>0:=rfl
theorem jm {C:St}{rk:Nat→Nat}(R:Rk C rk):∀(f1 f2 k:Nat),rk k<f1→rk k<f2→oK C f1 k=oK C f2 k
  | 0,_,_,h,_=>absurd h (xh _)
  | _+1,0,_,_,h=>absurd h (xh _)
  | f1+1,f2+1,k,h1,h2=>by
    refine ah (pO ..) (ah (pO ..) ?_)
    cases hc:C[k]? with
    | none=>rfl
    | some p=>
      obtain ⟨a,d⟩:=p;refine uA ?_ (R k a d hc);intro ra rd;have key:∀w:W,ir rk w≤rk k→hW (oK C f1) w=hW (oK C f2) w:=by
        intro w hw
        cases w with
        | num _=>rfl
        | nil=>rfl
        | cell j=>
          have hw:rk j+1≤rk k:=hw;exact jm R f1 f2 j (Nat.lt_of_succ_lt_succ (wZ hw h1)) (Nat.lt_of_succ_lt_succ (wZ hw h2))
      dsimp only;exact ah (key a ra) (ah (key d rd) rfl)
theorem oB {C:St}{rk:Nat→Nat}(R:Rk C rk):∃hf:Nat→Nat,∀k a d,C[k]?=some (a,d)→hf k=max (hW hf a) (hW hf d)+1:=by
  refine⟨fun k=>oK C (rk k+1) k,fun k a d hc=> ?_⟩;refine uA ?_ (R k a d hc);intro ra rd;have key:∀w:W,ir rk w≤rk k→hW (oK C (rk k)) w=hW (fun k=>oK C (rk k+1) k) w:=by
    intro w hw
    cases w with
    | num _=>rfl
    | nil=>rfl
    | cell j=>
      have hw:rk j+1≤rk k:=hw;exact jm R _ _ j hw (xk _)
  refine(?_:oK C (rk k+1) k=_)
  refine ch (key a ra) (ch (key d rd) ?_);exact ah (pO ..) (ah hc rfl)
theorem br.invT {C:St}{u v:W}{b:Bool}{n:Nat}{P:Prop}(h:br C u v b n)(hb:b=true)(ne:u≠v)(K:∀i j a1 d1 a2 d2 n1 n2,u= .cell i→v= .cell j→i≠j→C[i]?=some (a1,d1)→C[j]?=some (a2,d2)→br C a1 a2 true n1→br C d1 d2 true n2→n=n1+n2+1→P):P:=by
  induction h with
  | eq=>exact absurd rfl ne
  | no _ _=>exact ft hb
  | carF _ _ _ _ _=>exact ft hb
  | cdr q h1 h2 l1 l2 _ _=>exact K _ _ _ _ _ _ _ _ rfl rfl q h1 h2 l1 (hb▸l2) rfl
theorem br.invC {C:St}{p q n:Nat}{P:Prop}(h:br C (.cell p) (.cell q) true n)(ne:p≠q)(K:∀a1 d1 a2 d2 n1 n2,C[p]?=some (a1,d1)→C[q]?=some (a2,d2)→br C a1 a2 true n1→br C d1 d2 true n2→n=n1+n2+1→P):P:=
  h.invT rfl (fun e=>ne (W.cell.inj e)) fun _ _ _ _ _ _ _ _ e1 e2 _=>by cases (W.cell.inj e1);cases (W.cell.inj e2);exact K _ _ _ _ _ _
theorem wA {C:St}{x y:W}{b:Bool}{n:Nat}(h:br C x y b n)(e:x=y):n=1:=by
  induction h with
  | eq=>rfl
  | no q _=>exact absurd e q
  | carF q _ _ _ _=>exact absurd (W.cell.inj e) q
  | cdr q _ _ _ _ _ _=>exact absurd (W.cell.inj e) q
theorem wB {C:St}{hf:Nat→Nat}(H:∀k a d,C[k]?=some (a,d)→hf k=max (hW hf a) (hW hf d)+1){x y:W}{b:Bool}{n:Nat}(h:br C x y b n):b=true→hW hf x=hW hf y:=by
  induction h with
  | eq=>intro _;rfl
  | no _ _=>intro q;exact ft q
  | carF _ _ _ _ _=>intro q;exact ft q
  | cdr hne h1 h2 l1 l2 i1 i2=>
    intro q
    refine(?_:hf _=hf _)
    exact ah (H _ _ _ h1) (ah (H _ _ _ h2) (ah (i1 rfl) (ah (i2 q) rfl)))
noncomputable def Lw (C:St)(m:Nat)(w:W):Prop:=∀j a d,w= .cell j→C[j]?=some (a,d)→Ok (·<m) a∧Ok (·<m) d
noncomputable def pe (C:St)(m:Nat):Prop:=Cl C (·<m)∧∀(k:Nat) a d,C[k]?=some (a,d)→Lw C m a
noncomputable def GB:Nat→Nat
  | 0=>1
  | c+1=>2*2^((c+1)/2)+GB c
theorem iX:∀c,1≤GB c
  | 0=>w6 _
  | c+1=>by have:=iX c;exact Nat.le_add_left_of_le this
theorem kw {c c':Nat}(h:c≤c'):GB c≤GB c':=by
  induction h with
  | refl=>exact w6 _
  | step _ ih=>exact wV ih (xj _ _)
theorem sO:GB 24=24571:=by decide
section
variable {C:St}{hf:Nat→Nat}{m:Nat}
theorem v6 {a b A:Nat}(h:a+1≤A)(h2:b+1≤A):a+b+1+1≤A*2:=wV (wX (Nat.add_add_add_comm a b 1 1)) (wV (Nat.add_le_add h h2) (wX (Nat.mul_two A).symm))
theorem uP (H:∀k a d,C[k]?=some (a,d)→hf k=max (hW hf a) (hW hf d)+1)(hm:Cl C (·<m)):∀(h p q n:Nat),p<m→q<m→p≠q→hf p≤h→br C (.cell p) (.cell q) true n→n+1≤2*2^(f7 (fun i=>decide (hf i≤hf p)) m/2):=by
  intro h
  induction h with
  | zero=>
    intro p q n hp hq hne hh hl;exact hl.invC hne fun _ _ _ _ _ _ h1 _ _ _ _=>by rw [H _ _ _ h1] at hh;exact w8 (fun z=>xn (w0 (wW rfl) (xj _ _)) hh)
  | succ h ih=>
    intro p q n hp hq hne hh hl;have hpq:hf p=hf q:=wB H hl rfl;refine hl.invC hne fun a1 d1 a2 d2 n1 n2 h1 h2 l1 l2 hn=> ?_;subst hn;refine uA ?_ (hm p a1 d1 hp h1);intro oa1 od1;refine uA ?_ (hm q a2 d2 hq h2);intro oa2 od2;have e1:=H _ _ _ h1;generalize hc:f7 (fun i=>decide (hf i≤hf p)) m=c;have hc2:2≤c:=by
      have:=kK (p:=fun _=>false) (q:=fun i=>decide (hf i≤hf p)) (fun i hi=>by exact ft hi) hne (by simp) rfl (by simp;exact wV (wX rfl) (wX hpq.symm)) rfl hp hq;have h0:f7 (fun _=>false) m≤f7 (fun i=>decide (hf i≤hf p)) m:=gn (fun i hi=>by exact ft hi) m;exact Nat.le_of_lt_succ (wZ (xj _ _) (wZ this (wZ (wX hc) (xk _))))
    have key:∀(u v:W) (k:Nat),Ok (·<m) u→Ok (·<m) v→hW hf u<hf p→br C u v true k→k+1≤2*2^((c-2)/2):=by
      intro u v k ou ov hu hl
      by_cases huv:u=v
      · refine ah (wA hl huv) ?_;exact Nat.mul_le_mul_left 2 Nat.one_le_two_pow
      · cases hl with
        | eq=>exact absurd rfl huv
        | cdr hne' g1 g2 k1 k2=>
          rename_i i j _ _ _ _ _ _
          have hu:hf i<hf p:=hu;have:=ih i j _ ou ov hne' (Nat.le_of_lt_succ (w0 hu hh)) (.cdr hne' g1 g2 k1 k2);refine wV this (Nat.mul_le_mul_left 2 (Nat.pow_le_pow_right (wW rfl) (Nat.div_le_div_right ?_)));have:=kK (p:=fun t=>decide (hf t≤hf i)) (q:=fun t=>decide (hf t≤hf p)) (fun t ht=>by simp at ht⊢;exact wY (wZ ht hu)) hne (by simp) (by simp;exact hu) (by simp;exact wV (wX rfl) (wX hpq.symm)) (by simp;exact pE hpq hu) hp hq;exact Nat.le_sub_of_add_le (wV this (wX hc))
    have b1:=key a1 a2 n1 oa1 oa2 (w0 (xi (Nat.le_max_left _ _)) (wX e1.symm)) l1;have b2:=key d1 d2 n2 od1 od2 (w0 (xi (Nat.le_max_right _ _)) (wX e1.symm)) l2;have e2:c/2=(c-2)/2+1:=Nat.div_eq_sub_div (by decide) hc2;refine ah e2 ?_;rewrite [Nat.pow_succ];exact wV (v6 b1 b2) (wX (Nat.mul_assoc ..))
theorem sW (H:∀k a d,C[k]?=some (a,d)→hf k=max (hW hf a) (hW hf d)+1)(hm:Cl C (·<m)){p q n:Nat}(hp:Lw C m (.cell p))(hq:q<m)(hne:p≠q)(hl:br C (.cell p) (.cell q) true n):n+1≤4*2^(f7 (fun i=>decide (hf i<hf q)) m/2):=by
  have hpq:hf p=hf q:=wB H hl rfl;refine hl.invC hne fun a1 d1 a2 d2 n1 n2 h1 h2 l1 l2 hn=> ?_;subst hn;refine uA ?_ (hp p a1 d1 rfl h1);intro oa1 od1;refine uA ?_ (hm q a2 d2 hq h2);intro oa2 od2;have e1:=H _ _ _ h1;generalize hc:f7 (fun i=>decide (hf i<hf q)) m=c;have key:∀(u v:W) (k:Nat),Ok (·<m) u→Ok (·<m) v→hW hf u<hf p→br C u v true k→k+1≤2*2^(c/2):=by
    intro u v k ou ov hu hl
    by_cases huv:u=v
    · refine ah (wA hl huv) ?_;exact Nat.mul_le_mul_left 2 Nat.one_le_two_pow
    · cases hl with
      | eq=>exact absurd rfl huv
      | cdr hne' g1 g2 k1 k2=>
        rename_i i j _ _ _ _ _ _
        have hu:hf i<hf p:=hu;have:=uP H hm (hf i) i j _ ou ov hne' (w6 _) (.cdr hne' g1 g2 k1 k2);refine wV this (Nat.mul_le_mul_left 2 (Nat.pow_le_pow_right (wW rfl) (Nat.div_le_div_right ?_)));refine ch hc ?_;exact gn (fun t ht=>by simp at ht⊢;exact w0 (wZ ht hu) (wX hpq)) m
  have b1:=key a1 a2 n1 oa1 oa2 (w0 (xi (Nat.le_max_left _ _)) (wX e1.symm)) l1;have b2:=key d1 d2 n2 od1 od2 (w0 (xi (Nat.le_max_right _ _)) (wX e1.symm)) l2;exact wV (v6 b1 b2) (wX (Nat.mul_right_comm 2 _ 2))
theorem uQ (H:∀k a d,C[k]?=some (a,d)→hf k=max (hW hf a) (hW hf d)+1)(F:pe C m):∀(h:Nat) (x w:W) (b:Bool) (n:Nat),hW hf w≤h→Ok (·<m) w→br C x w b n→n≤GB (f7 (fun i=>decide (hf i≤hW hf w)) m):=by
  intro h
  induction h with
  | zero=>
    intro x w b n hh ow hl
    induction hl with
    | eq=>exact iX _
    | no _ _=>exact iX _
    | carF _ _ h2 _ _=>exact absurd (wV (wX (H _ _ _ h2).symm) hh) (Nat.not_succ_le_zero _)
    | cdr _ _ h2 _ _ _ _=>exact absurd (wV (wX (H _ _ _ h2).symm) hh) (Nat.not_succ_le_zero _)
  | succ h ih=>
    intro x w b n hh ow hl
    induction hl with
    | eq=>exact iX _
    | no _ _=>exact iX _
    | @carF p q a1 d1 a2 d2 n1 hne h1 h2 l1 _=>
      have hq:q<m:=ow;refine uA ?_ (F.1 q a2 d2 hq h2);intro oa2 od2;have e2:=H _ _ _ h2;have hh:hf q≤h+1:=hh;have b1:=ih a1 a2 false n1 (wV (Nat.le_max_left _ _) (Nat.le_of_succ_le_succ (wV (wX e2.symm) hh))) oa2 l1;have hc:=gL (p:=fun t=>decide (hf t≤hW hf a2)) (q:=fun t=>decide (hf t≤hf q)) (fun t ht=>by simp at ht⊢;exact wV (wV (wV ht (Nat.le_max_left _ _)) (w9 _ _)) (wX e2.symm)) (j:=q) (by simp) (by simp;exact w0 (xi (Nat.le_max_left _ _)) (wX e2.symm)) m hq
      refine(?_:n1+1≤GB (f7 (fun t=>decide (hf t≤hf q)) m))
      obtain ⟨c,hc'⟩:∃c,f7 (fun t=>decide (hf t≤hf q)) m=c+1:=⟨_,(Nat.sub_add_cancel (ar hc rfl)).symm⟩;rw [hc'] at hc⊢;have b2:=kw (show f7 (fun t=>decide (hf t≤hW hf a2)) m≤c by exact Nat.le_of_lt_succ hc);exact wV (Nat.add_le_add (wV b1 b2) (wV Nat.one_le_two_pow (Nat.le_mul_of_pos_left _ (wW rfl)))) (wX (Nat.add_comm (GB c) (2*2^((c+1)/2))))
    | @cdr p q a1 d1 a2 d2 n1 n2 b hne h1 h2 l1 l2 r1 r2=>
      clear r1 r2;have hq:q<m:=ow;refine uA ?_ (F.1 q a2 d2 hq h2);intro oa2 od2;have e2:=H _ _ _ h2;have hh:hf q≤h+1:=hh;have b1:=ih d1 d2 b n2 (wV (Nat.le_max_right _ _) (Nat.le_of_succ_le_succ (wV (wX e2.symm) hh))) od2 l2;have hc:=gL (p:=fun t=>decide (hf t≤hW hf d2)) (q:=fun t=>decide (hf t≤hf q)) (fun t ht=>by simp at ht⊢;exact wV (wV (wV ht (Nat.le_max_right _ _)) (w9 _ _)) (wX e2.symm)) (j:=q) (by simp) (by simp;exact w0 (xi (Nat.le_max_right _ _)) (wX e2.symm)) m hq
      refine(?_:n1+n2+1≤GB (f7 (fun t=>decide (hf t≤hf q)) m))
      have b3:n1+1≤2*2^(f7 (fun t=>decide (hf t≤hf q)) m/2):=by
        by_cases haa:a1=a2
        · refine ah (wA l1 haa) ?_;exact Nat.mul_le_mul_left 2 Nat.one_le_two_pow
        · cases l1 with
          | eq=>exact absurd rfl haa
          | cdr hne' g1 g2 k1 k2=>
            rename_i i j _ _ _ _ _ _
            have hj:j<m:=oa2;have:=sW H F.1 (F.2 _ _ _ h1) hj hne' (.cdr hne' g1 g2 k1 k2);have hji:hf j<hf q:=w0 (xi (Nat.le_max_left (hW hf (.cell j)) _)) (wX e2.symm);have hc2:=kK (p:=fun t=>decide (hf t<hf j)) (q:=fun t=>decide (hf t≤hf q)) (fun t ht=>by simp at ht⊢;exact wY (wZ (wY ht) hji)) (j:=j) (k:=q) (fun e=>by rw [e] at hji;exact xn hji (wX rfl)) (by simp;exact wY hji) (by simp) (by simp) (by simp;exact wY hji) hj hq;have e3:f7 (fun t=>decide (hf t<hf j)) m/2+1≤f7 (fun t=>decide (hf t≤hf q)) m/2:=wV (wX (Nat.add_div_right _ (wW rfl)).symm) (Nat.div_le_div_right hc2);have e4:=Nat.pow_le_pow_right (n:=2) (by exact wW rfl) e3;exact wV this (wV (wX ((Nat.mul_right_comm 2 _ 2).symm.trans (Nat.mul_assoc 2 _ 2))) (Nat.mul_le_mul_left 2 e4))
      obtain ⟨c,hc'⟩:∃c,f7 (fun t=>decide (hf t≤hf q)) m=c+1:=⟨_,(Nat.sub_add_cancel (by exact ar hc rfl)).symm⟩;rw [hc'] at hc b3⊢;have b2:=kw (show f7 (fun t=>decide (hf t≤hW hf d2)) m≤c by exact Nat.le_of_lt_succ hc);exact wV (wX (Nat.add_right_comm n1 n2 1)) (Nat.add_le_add b3 (wV b1 b2))
theorem uR (H:∀k a d,C[k]?=some (a,d)→hf k=max (hW hf a) (hW hf d)+1)(F:pe C m)(hm:m≤24){x w:W}{b:Bool}{n:Nat}(hw:Lw C m w)(hl:br C x w b n):n≤49143:=by
  have key:∀(u v:W) (b:Bool) (k:Nat),Ok (·<m) v→br C u v b k→k≤24571:=by
    intro u v b k ov hl;have h1:=uQ H F _ u v b k (w6 _) ov hl;have h2:=kw (wV (mT (fun i=>decide (hf i≤hW hf v)) m) hm);exact wV h1 (wV h2 (wX sO))
  induction hl with
  | eq=>exact wW rfl
  | no _ _=>exact wW rfl
  | carF _ h1 h2 l1 _=>
    exact wV (xc (key _ _ _ _ (hw _ _ _ rfl h2).1 l1) 1) (wW rfl)
  | cdr _ h1 h2 l1 l2 _ _=>
    exact xc (Nat.add_le_add (key _ _ _ _ (hw _ _ _ rfl h2).1 l1) (key _ _ _ _ (hw _ _ _ rfl h2).2 l2)) 1
end
theorem wz {C:St}{rk:Nat→Nat}{m:Nat}(R:Rk C rk)(hC:Cl C (·<C.length))(F:pe C m)(hm:m≤24){x y:W}(ox:Ok (·<C.length) x)(oy:Ok (·<C.length) y)(hy:Lw C m y):∃b k,br C x y b k∧k≤100000:=by
  refine uE ?_ (oB R);intro hf H;refine eu ?_ (br.exists R hC _ x y (w6 _) ox oy);intro b k hl;exact⟨b,k,hl,wV (uR H F hm hy hl) (wW rfl)⟩
end
section
structure bH (C:St):Prop where
  cl:Cl C (·<C.length)
  rk:∃rk,Rk C rk
  fine:∃m,m≤24∧pe C m
  len:C.length≤72
theorem bH.rk' {C:St}(G:bH C):∃rk,Rk C rk∧∀k,rk k≤72:=by
  refine uE ?_ G.rk;intro rk R;refine aY ?_ (R.comp G.cl);intro rk' R' h;exact⟨rk',R',fun k=>wV (h k) G.len⟩
theorem bH.chn {C:St}(G:bH C){w:W}(ow:Ok (·<C.length) w):∃ks as e,bK C w ks as e∧ks.length≤C.length∧as.length≤C.length:=by
  refine uE ?_ G.rk;intro rk R;refine c6 ?_ (bK.exists R G.cl _ w (w6 _) ow);intro ks as e h h2;have:=im C.length ks h.nd fun k hk=>(h2 k hk).1;exact⟨ks,as,e,h,this,by refine ah h.len ?_;exact this⟩
theorem f8 {C:St}(h:Cl C (·<C.length)):pe C C.length:=⟨h,fun k a d hk j a' d' hj hc=>by
  subst hj;have hlt:k<C.length:=(List.getElem?_eq_some_iff.mp hk).1;exact h j a' d' (h k _ d hlt hk).1 hc⟩
theorem Ok.none {D:Nat→Prop}{w:W}(h:w.isCell=false):Ok D w:=by
  cases w with
  | cell k=>exact tf h
  | num _=>trivial
  | nil=>trivial
theorem fw {C X:St}(G:bH C)(h24:C.length≤24)(hX:C.length+X.length≤72)(h:∀(k:Nat) a d,C.length≤k→(C++X)[k]?=some (a,d)→Ok (·<k) a∧Ok (·<k) d∧Lw (C++X) C.length a):bH (C++X):=by
  have old:∀k,k<C.length→(C++X)[k]?=C[k]?:=fun k hk=>List.getElem?_append_left hk;have bnd:∀k a d,(C++X)[k]?=some (a,d)→k<(C++X).length:=fun k a d hk=>(List.getElem?_eq_some_iff.mp hk).1;refine⟨?_, ?_,⟨C.length,h24, ?_, ?_⟩,by refine ah List.length_append ?_;exact hX⟩
  · intro k a d hk hc
    by_cases hlt:k<C.length
    · rw [old k hlt] at hc;refine uA ?_ (G.cl k a d hlt hc);intro o1 o2;exact⟨o1.mono fun j hj=>by refine ah List.length_append ?_;exact w0 hj (w9 _ _),o2.mono fun j hj=>by refine ah List.length_append ?_;exact w0 hj (w9 _ _)⟩
    · refine dc ?_ (h k a d ((w8 hlt)) hc);intro o1 o2 _;exact⟨o1.mono fun j hj=>wZ (wY hj) hk,o2.mono fun j hj=>wZ (wY hj) hk⟩
  · refine aY ?_ G.rk';intro rk R hb;refine⟨fun k=>if k<C.length then rk k else 100+k,fun k a d hc=> ?_⟩;have key:∀w:W,Ok (·<k) w→(k<C.length→Ok (·<C.length) w∧ir rk w≤rk k)→ir (fun k=>if k<C.length then rk k else 100+k) w≤if k<C.length then rk k else 100+k:=by
      intro w ow hw
      cases w with
      | num _=>exact xd _
      | nil=>exact xd _
      | cell j=>
        have ow:j<k:=ow
        refine(?_:(if j<C.length then rk j else 100+j)+1≤_)
        by_cases hk:k<C.length
        · refine uA ?_ (hw hk);intro _ h2;refine ah (if_pos (by exact w0 ow (wY hk))) (ah (if_pos hk) ?_);exact h2
        · refine ah (if_neg hk) ?_;have:=hb j
          split<;>(first | exact Nat.le_add_right_of_le (wV (xc this _) (wW rfl)) | exact xm (Nat.add_lt_add_left ow _))
    by_cases hlt:k<C.length
    · have hc':=hc;rw [old k hlt] at hc';refine uA ?_ (G.cl k a d hlt hc');intro o1 o2;refine uA ?_ (R k a d hc');intro r1 r2;have qW:∀w:W,Ok (·<C.length) w→ir rk w≤rk k→ir (fun k=>if k<C.length then rk k else 100+k) w≤if k<C.length then rk k else 100+k:=by
        intro w ow hw
        cases w with
        | num _=>exact xd _
        | nil=>exact xd _
        | cell j=>
          have ow:j<C.length:=ow
          refine(?_:(if j<C.length then rk j else 100+j)+1≤_)
          refine ah (if_pos ow) (ah (if_pos hlt) ?_);exact hw
      exact⟨qW a o1 r1,qW d o2 r2⟩
    · refine dc ?_ (h k a d (by exact(w8 hlt)) hc);intro o1 o2 _;exact⟨key a o1 fun q=>absurd q hlt,key d o2 fun q=>absurd q hlt⟩
  · intro k a d hk hc;rw [old k hk] at hc;exact G.cl k a d hk hc
  · intro k a d hc
    by_cases hlt:k<C.length
    · rw [old k hlt] at hc;intro j a' d' hj hc';subst hj;have hj:j<C.length:=(G.cl k _ d hlt hc).1;rw [old j hj] at hc';exact G.cl j a' d' hj hc'
    · exact(h k a d (by exact(w8 hlt)) hc).2.2
theorem wC {C X:St}(hC:Cl C (·<C.length)){w:W}(ow:Ok (·<C.length) w):Lw (C++X) C.length w:=fun j a d hj hc=>by
  subst hj;have hj:j<C.length:=ow;rw [List.getElem?_append_left hj] at hc;exact hC j a d hj hc
theorem oF {C:St}(G:bH C)(h24:C.length≤24){x y:W}(ox:Ok (·<C.length) x)(oy:Ok (·<C.length) y):bH (C++[(x,y)]):=by
  refine fw G h24 (by simp;exact wV h24 (wW rfl)) fun k a d hk hc=> ?_;have hlt:k<(C++[(x,y)]).length:=(List.getElem?_eq_some_iff.mp hc).1;have hk':k=C.length:=by simp at hlt;exact Nat.le_antisymm (Nat.le_of_lt_succ hlt) hk
  subst hk';rw [List.getElem?_append_right (w6 _),Nat.sub_self] at hc
  (refine oY ?_ hc;clear hc;intro e1 e2;subst e1;subst e2)
  exact⟨ox,oy,wC G.cl ox⟩
theorem kW:∀(rs:List W) (N:Nat) (e:W) (i:Nat) (a d:W),(dO N rs e)[i]?=some (a,d)→a∈rs∧(d=e∨∃j,d= .cell j∧N≤j∧j<N+i)
  | [],N,e,i,a,d,h=>nn h
  | r::rs,N,e,0,a,d,h=>⟨List.mem_cons.mpr (.inl (congrArg Prod.fst (xg h)).symm), .inl (congrArg Prod.snd (xg h):e=d).symm⟩
  | r::rs,N,e,i+1,a,d,h=>
    have q:=kW rs (N+1) (.cell N) i a d h
    ⟨.tail _ q.1, .inr (q.2.elim (fun z=>⟨N,z,w6 _,xi (w9 _ _)⟩) fun⟨j,z,h3,h4⟩=>⟨j,z,wY h3,w0 h4 (wX (Nat.add_right_comm _ _ _))⟩)⟩
theorem eD {C:St}(G:bH C)(h24:C.length≤24){rs:List W}(hr:∀r∈rs,Ok (·<C.length) r)(hl:rs.length≤48):bH (C++dO C.length rs .nil):=by
  refine fw G h24 (by rw [cN];exact Nat.add_le_add h24 hl) fun k a d hk hc=> ?_;rw [List.getElem?_append_right hk] at hc;refine uA ?_ (kW _ _ _ _ _ _ hc);intro h1 h2;refine⟨(hr a h1).mono fun j hj=>w0 hj hk, ?_,wC G.cl (hr a h1)⟩
  rcases h2 with rfl | ⟨j,rfl,h3,h4⟩
  · trivial
  · exact w0 h4 (wX (Nat.add_sub_cancel' hk))
theorem fF (C:St)(N:Nat):∀(as:List W),(∀k, .cell k∈as→k<C.length)→∀acc:St×List W,(∀p∈acc.1,∃k:Nat,C[k]?=some p)→(∀w∈acc.2,w.isCell=false∨∃i,i<acc.1.length∧w= .cell (N+i))→
    (∀p∈(as.foldl (ez C N) acc).1,∃k:Nat,C[k]?=some p)∧(∀w∈(as.foldl (ez C N) acc).2,w.isCell=false∨∃i,i<(as.foldl (ez C N) acc).1.length∧w= .cell (N+i))
  | [],_,acc,h1,h2=>⟨h1,h2⟩
  | a::as,hC,acc,h1,h2=>by
    refine ah List.foldl_cons ?_;have hC':∀k, .cell k∈as→k<C.length:=fun k hk=>hC k (.tail _ hk)
    cases a with
    | num i=>
      refine fF C N as hC' _ h1 fun w hw=> ?_
      rcases List.mem_append.mp hw with hw | hw
      · exact h2 w hw
      · refine ah (List.mem_singleton.mp hw) ?_;exact .inl rfl
    | nil=>
      refine fF C N as hC' _ h1 fun w hw=> ?_
      rcases List.mem_append.mp hw with hw | hw
      · exact h2 w hw
      · refine ah (List.mem_singleton.mp hw) ?_;exact .inl rfl
    | cell k=>
      have hk:=hC k (.head _);obtain ⟨p,hp⟩:∃p,C[k]?=some p:=⟨_,w7 hk⟩;have e:ez C N acc (.cell k)=(acc.1++[p],acc.2++[.cell (N+acc.1.length)]):=by unfold ez;dsimp only;exact ah hp rfl
      refine ah e ?_;refine fF C N as hC' _ (fun q hq=> ?_) fun w hw=> ?_
      · rcases List.mem_append.mp hq with hq | hq
        · exact h1 q hq
        · refine ah (List.mem_singleton.mp hq) ?_;exact⟨k,hp⟩
      · rcases List.mem_append.mp hw with hw | hw
        · rcases h2 w hw with h | ⟨i,hi,rfl⟩
          · exact .inl h
          · exact .inr ⟨i,by simp;exact w0 hi (w9 _ _),rfl⟩
        · refine ah (List.mem_singleton.mp hw) ?_;exact .inr ⟨acc.1.length,by simp,rfl⟩
theorem oG {C:St}(G:bH C)(h24:C.length≤24){as:List W}(ha:∀a∈as,Ok (·<C.length) a)(hl:as.length≤24):bH (C++(cW C as).1++dO (C.length+(cW C as).1.length) (cW C as).2.reverse .nil):=by
  refine uA ?_ (fF C C.length as (fun k hk=>ha _ hk) ([],[]) (fun _ h=>by cases h) (fun _ h=>by cases h));intro p1 p2;have e1:(as.foldl (ez C C.length) ([],[]))=cW C as:=rfl;rw [e1] at p1 p2;have l1:=gp C as;have l2:=e7 C as;generalize cW C as=R at*;rw [List.append_assoc];refine fw G h24 (by refine ah List.length_append ?_;rewrite [cN];refine ah List.length_reverse ?_;exact Nat.add_le_add h24 (Nat.add_le_add (wV l1 hl) (wV (wX l2) hl))) fun k a d hk hc=> ?_
  by_cases hlt:k<C.length+R.1.length
  · rw [List.getElem?_append_right hk,List.getElem?_append_left (Nat.sub_lt_left_of_lt_add hk hlt)] at hc;refine uE ?_ (p1 _ (List.mem_of_getElem? hc));intro j hj;have hjl:j<C.length:=(List.getElem?_eq_some_iff.mp hj).1;refine uA ?_ (G.cl j a d hjl hj);intro o1 o2;exact⟨o1.mono fun j hj=>w0 hj hk,o2.mono fun j hj=>w0 hj hk,wC G.cl o1⟩
  · have hc0:=hc;have hle:=w8 hlt;rw [List.getElem?_append_right hk,List.getElem?_append_right (Nat.le_sub_of_add_le' hle)] at hc;refine uA ?_ (kW _ _ _ _ _ _ hc);intro h1 h2;have h1:=p2 a (List.mem_reverse.mp h1);have od:Ok (·<k) d:=by
      rcases h2 with rfl | ⟨j,rfl,h3,h4⟩
      · trivial
      · exact Nat.lt_of_lt_of_eq h4 (by rewrite [Nat.sub_sub];exact ah (Nat.add_sub_cancel' hle) rfl)
    rcases h1 with h1 | ⟨i,hi,rfl⟩
    · exact⟨Ok.none h1,od,fun j a' d' hj=>by rw [hj] at h1;exact tf h1⟩
    · refine⟨w0 (Nat.add_lt_add_left hi _) hle,od,fun j a' d' hj hc'=> ?_⟩
      cases hj
      rw [List.getElem?_append_right (w9 _ _),List.getElem?_append_left (by rw [Nat.add_sub_cancel_left];exact hi)] at hc';refine uE ?_ (p1 _ (List.mem_of_getElem? hc'));intro j hj;have hjl:j<C.length:=(List.getElem?_eq_some_iff.mp hj).1;exact G.cl j a' d' hjl hj
theorem nO {C:St}{k j:Nat}{p:W×W}{a d:W}(h:(C.set k p)[j]?=some (a,d)):(j=k∧p=(a,d))∨(j≠k∧C[j]?=some (a,d)):=by
  rw [List.getElem?_set] at h
  by_cases q:k=j
  · subst q;rw [if_pos rfl] at h
    (first | (with_reducible refine rm ?_ ?_ h<;>(clear h;intro _ h)) | split at h)
    · (refine oY ?_ h;clear h;intro e1 e2;subst e1;subst e2);exact .inl ⟨rfl,rfl⟩
    · exact nn h
  · rw [if_neg q] at h;exact .inr ⟨fun e=>q e.symm,h⟩
theorem kJ {C:St}{D:Nat→Prop}(h:Cl C D){k:Nat}{a d a' d' y:W}(hk:C[k]?=some (a,d))(ha:a'=a∨a'=y)(hd:d'=d∨d'=y)(hy:Ok D y):Cl (C.set k (a',d')) D:=by
  intro j u v hj hc
  rcases nO hc with⟨rfl,e⟩ | ⟨_,hc⟩
  · cases e
    refine uA ?_ (h j a d hj hk);intro o1 o2
    exact⟨by rcases ha with rfl | rfl<;>assumption,by rcases hd with rfl | rfl<;>assumption⟩
  · exact h j u v hj hc
theorem jk {C:St}(G:bH C)(h24:C.length≤24){k:Nat}{a d a' d' y:W}(hk:C[k]?=some (a,d))(ha:a'=a∨a'=y)(hd:d'=d∨d'=y)(oy:Ok (·<C.length) y){M:Nat→Prop}(hM:Cl C M)(hMy:Ok M y)(hMk:¬M k):bH (C.set k (a',d')):=by
  have hcl:Cl (C.set k (a',d')) (·<(C.set k (a',d')).length):=by
    refine ah List.length_set ?_;exact kJ G.cl hk ha hd oy
  refine⟨hcl, ?_,⟨_, ?_,f8 hcl⟩,by refine ah List.length_set ?_;exact G.len⟩
  · refine aY ?_ G.rk';intro rk R hb
    classical
    refine⟨fun j=>if M j then rk j else rk j+100,fun j u v hc=> ?_⟩;have okM:∀w:W,Ok M w→ir (fun j=>if M j then rk j else rk j+100) w=ir rk w:=by
      intro w ow
      cases w with
      | num _=>rfl
      | nil=>rfl
      | cell i=>have ow:M i:=ow;exact congrArg _ (if_pos ow)
    have any:∀w:W,ir (fun j=>if M j then rk j else rk j+100) w≤ir rk w+100:=by
      intro w
      cases w with
      | num _=>exact xd _
      | nil=>exact xd _
      | cell i=>refine(?_:(if M i then rk i else rk i+100)+1≤rk i+1+100);split<;>(first | exact w9 _ _ | exact wX rfl)
    have yb:ir rk y≤73:=by
      cases y with
      | num _=>exact xd _
      | nil=>exact xd _
      | cell i=>have:=hb i;exact xc this _
    rcases nO hc with⟨rfl,e⟩ | ⟨hne,hc⟩
    · cases e
      refine uA ?_ (R _ a d hk);intro r1 r2
      refine(?_:_≤(if M j then rk j else rk j+100)∧_≤(if M j then rk j else rk j+100))
      refine ah (if_neg hMk) ?_
      constructor
      · rcases ha with rfl | rfl
        · exact wV (any a') (xc r1 100)
        · refine ah (okM _ hMy) ?_;exact wV yb (wV (wW rfl) (xj _ _))
      · rcases hd with rfl | rfl
        · exact wV (any d') (xc r2 100)
        · refine ah (okM _ hMy) ?_;exact wV yb (wV (wW rfl) (xj _ _))
    · refine uA ?_ (R j u v hc);intro r1 r2
      refine(?_:_≤(if M j then rk j else rk j+100)∧_≤(if M j then rk j else rk j+100))
      by_cases hj:M j
      · refine uA ?_ (hM j u v hj hc);intro o1 o2;refine ah (if_pos hj) (ah (okM _ o1) (ah (okM _ o2) ?_));exact⟨r1,r2⟩
      · refine ah (if_neg hj) ?_;exact⟨wV (any u) (xc r1 100),wV (any v) (xc r2 100)⟩
  · refine ah List.length_set ?_;exact h24
theorem jB {C:St}{k j:Nat}{e a d:W}(h:(dg C k e)[j]?=some (a,d)):C[j]?=some (a,d)∨(∃d0,C[j]?=some (a,d0))∧d=e∧j=k:=by
  by_cases q:j=k
  · rw [q] at h⊢
    cases hc:C[k]? with
    | none=>exact nn ((List.getElem?_eq_none (wV (wX (gF C k e)) (List.getElem?_eq_none_iff.mp hc))).symm.trans h)
    | some p=>
      have z:=xg ((dI hc).symm.trans h);exact .inr ⟨⟨p.2,congrArg (fun a=>some (a,p.2)) (congrArg Prod.fst z)⟩,(congrArg Prod.snd z).symm,rfl⟩
  · exact .inl ((d8 q).symm.trans h)
theorem dP {R:Nat→W→Prop}:∀(K:List Nat) (C:St) (e:W),K.Pairwise (fun k j=>R k (.cell j))→(∀k∈K,R k e)→∀(j:Nat) a d,(bq C K e)[j]?=some (a,d)→C[j]?=some (a,d)∨(∃d0,C[j]?=some (a,d0))∧R j d
  | [],_,_,_,_,_,_,_,h=> .inl h
  | [_],_,_,_,hR,_,_,_,h=>(jB h).imp_right fun⟨x,y,z⟩=>⟨x,y▸z▸hR _ (.head _)⟩
  | _::k2::r,_,e,hp,hR,j,a,d,h=>
    (dP (k2::r) _ e (List.pairwise_cons.mp hp).2 (fun k hk=>hR k (.tail _ hk)) j a d h).elim (fun h=>(jB h).imp_right fun⟨x,y,z⟩=>⟨x,y▸z▸(List.pairwise_cons.mp hp).1 _ (.head _)⟩)
      fun⟨⟨_,h⟩,hr⟩=> .inr ⟨(jB h).elim (fun h=>⟨_,h⟩) (·.1),hr⟩
theorem bK.walk {C:St}{w e:W}{ks:List Nat}{as:List W}(h:bK C w ks as e){R:Nat→Nat→Prop}(one:∀k j a,C[k]?=some (a, .cell j)→R k j)(tr:∀i j k,R i j→R j k→R i k):ks.Pairwise R:=by
  rw [List.pairwise_iff_getElem];have key:∀n i (hi:i<ks.length) (hj:i+n+1<ks.length),R ks[i] ks[i+n+1]:=by
    intro n
    induction n with
    | zero=>
      intro i hi hj;refine uE ?_ (h.at hi);intro ha hc;rw [aQ hj] at hc;exact one _ _ _ hc
    | succ n ih=>
      intro i hi hj;have h1:=ih i hi (Nat.lt_of_succ_lt hj);refine uE ?_ (h.at (show i+n+1<ks.length from Nat.lt_of_succ_lt hj));intro ha hc;rw [aQ (show i+n+1+1<ks.length from hj)] at hc;exact tr _ _ _ h1 (one _ _ _ hc)
  intro i j hi hj hij;have e1:=yc hij;have:=key (j-i-1) i hi (e1.symm▸hj);simp only [e1] at this;exact this
section
variable {C:St}{w e x:W}{ks:List Nat}{as:List W}
theorem fx (h:bK C w ks as e):(aZ ks as x ks.length).Sublist ks:=(df h.len).trans (List.take_sublist _ _)
theorem gQ (h:bK C w ks as e){M:Nat→Prop}(hM:Cl C M):Cl (bq C (aZ ks as x ks.length) .nil) M:=by
  have hp:ks.Pairwise (fun k j=>M k→M j):=h.walk (fun k j a hc hk=>(hM k _ _ hk hc).2) (fun _ _ _ f g x=>g (f x));intro k a d hk hc
  rcases dP (R:=fun k d=>M k→Ok M d) _ C .nil (hp.sublist (fx h)) (fun _ _ _=>trivial) k a d hc with h1 | ⟨⟨d0,h1⟩,hr⟩
  · exact hM k a d hk h1
  · exact⟨(hM k a d0 hk h1).1,hr hk⟩
theorem oH (G:bH C)(h:bK C w ks as e):bH (bq C (aZ ks as x ks.length) .nil):=by
  refine⟨by rw [c5];exact gQ h G.cl, ?_, ?_,by rw [c5];exact G.len⟩
  · refine uE ?_ G.rk;intro rk R;have hp:ks.Pairwise (fun k j=>rk j+1≤rk k):=h.walk (fun k j a hc=>(R k _ _ hc).2) (fun _ _ _ f g=>by exact wV (wV g (w9 _ _)) f);refine⟨rk,fun k a d hc=> ?_⟩
    rcases dP (R:=fun k d=>ir rk d≤rk k) _ C .nil (hp.sublist (fx h)) (fun _ _=>xd _) k a d hc with h1 | ⟨⟨d0,h1⟩,hr⟩
    · exact R k a d h1
    · exact⟨(R k a d0 h1).1,hr⟩
  · refine bI ?_ G.fine;intro m hm F1 F2;refine⟨m,hm,gQ h F1, ?_⟩;have hp:ks.Pairwise (fun k j=>Lw C m (.cell k)→j<m):=by
      have:=h.walk (R:=fun k j=>(Lw C m (.cell k)→j<m)∧(k<m→j<m)) (fun k j a hc=>⟨fun hl=>(hl k _ _ rfl hc).2,fun hk=>(F1 k _ _ hk hc).2⟩) (fun _ _ _ f g=>⟨fun hl=>g.2 (f.1 hl),fun hk=>g.2 (f.2 hk)⟩);exact this.imp fun h=>h.1
    intro k a d hc j a' d' hj hc';have hcar:∃d0,C[k]?=some (a,d0):=by
      rcases dP (R:=fun k d=>True) _ C .nil ((hp.sublist (fx h)).imp fun _=>trivial) (fun _ _=>trivial) k a d hc with h1 | ⟨h1,_⟩
      · exact⟨_,h1⟩
      · exact h1
    refine uE ?_ hcar;clear hcar;intro d0 hcar;have hl:=F2 k a d0 hcar
    rcases dP (R:=fun k d=>Lw C m (.cell k)→Ok (·<m) d) _ C .nil (hp.sublist (fx h)) (fun _ _ _=>trivial) j a' d' hc' with h1 | ⟨⟨d1,h1⟩,hr⟩
    · exact hl j a' d' hj h1
    · subst hj;exact⟨(hl j a' d1 rfl h1).1,hr hl⟩
theorem pQ {k:Nat}(h:bK C w ks as e)(hk:k∈aZ ks as x ks.length):k∈ks:=(fx h).subset hk
end
end
section
noncomputable def v9 (f:Addr)(xs:List W)(C:St):Option (W×St)→Prop
  | none=>∀{B:Bs} {Pr:Params} {n:Nat} {Q:V→AH→Prop} {E:Str→AH→Prop} {σ:AH} {P:Nat→Addr} {al:Addr},B.K=HK Pr→40≤n→Lk σ C (·<C.length) P→σ al=some (.list (xs.map (ev P)))→E "wrong-type-argument" σ→CV B n (.ref f) [.none, .ref al] Q E σ
  | some (w,C')=>∀{B:Bs} {Pr:Params} {n:Nat} {Q:V→AH→Prop} {E:Str→AH→Prop} {σ:AH} {P:Nat→Addr} {al:Addr},B.K=HK Pr→40≤n→Lk σ C (·<C.length) P→σ al=some (.list (xs.map (ev P)))→
    (∀σ' P',Kp σ σ'→Lk σ' C' (·<C'.length) P'→(∀k,k<C.length→P' k=P k)→Q (ev P' w) σ')→CV B n (.ref f) [.none, .ref al] Q E σ
noncomputable def wa (g:Addr)(wd:Str)(xs:List W)(C:St):Option (W×St)→Prop
  | none=>∀{B:Bs} {Pr:Params} {n:Nat} {Q:V→AH→Prop} {E:Str→AH→Prop} {σ:AH} {st Lc Lp Lo:Addr} {ls:List Addr} {al:Addr},B.K=HK Pr→100≤n→CS σ st Lc Lp Lo ls C→σ al=some (.list (xs.map W.v))→(∀b∈ls,b≠al)→(∀σ',aH σ σ'→Q .none σ')→CV B n (.ref g) [.ref st, .str wd, .ref al] Q E σ
  | some (w,C')=>∀{B:Bs} {Pr:Params} {n:Nat} {Q:V→AH→Prop} {E:Str→AH→Prop} {σ:AH} {st Lc Lp Lo:Addr} {ls:List Addr} {al:Addr},B.K=HK Pr→100≤n→CS σ st Lc Lp Lo ls C→σ al=some (.list (xs.map W.v))→(∀b∈ls,b≠al)→(∀σ' ls',aU σ st Lc Lp Lo ls C σ' ls' C'→Q w.v σ')→CV B n (.ref g) [.ref st, .str wd, .ref al] Q E σ
noncomputable def sK (C:St)(ps:List Nat):Option (W×St)→Prop
  | none=>True
  | some (w,C')=>bH C'∧Ok (·<C'.length) w∧C.length≤C'.length∧Cl C' (·∈ps)
noncomputable def dJ (f g:Addr)(wd:Str)(xs:List W)(C:St)(ps:List Nat):Prop:=∃r,v9 f xs C r∧wa g wd xs C r∧sK C ps r
theorem cu.told {σ σ':AH}{C C':St}{D':Nat→Prop}{P P':Nat→Addr}(G:cu σ C (·<C.length) P σ' C' D' P'):Kp σ σ'∧Lk σ' C' (·<C'.length) P'∧∀k,k<C.length→P' k=P k:=by
  have hd:∀k,D' k ↔ k<C'.length:=fun k=>by
    rw [G.dom];refine uE ?_ G.pre;rintro X rfl;refine ah List.length_append ?_;exact⟨fun h=>h.elim (fun h=>w0 h (w9 _ _)) (·.2),fun h=>(Nat.lt_or_ge k C.length).imp id fun q=>⟨q,h⟩⟩
  have hD:D'=(·<C'.length):=funext fun k=>propext (hd k);subst hD;exact⟨Kp.of G.le,G.lk,G.at_⟩
theorem fZ {C X:St}{ps:List Nat}(h:Cl C (·∈ps))(hp:∀k∈ps,k<C.length):Cl (C++X) (·∈ps):=fun k a d hk hc=>by
  rw [List.getElem?_append_left (hp k hk)] at hc;exact h k a d hk hc
section
variable {C:St}{ps:List Nat}{x y w:W}
theorem qv (h:Ok (·<C.length) x):∀k,x= .cell k→k<C.length:=fun k e=>by subst e;exact h
theorem nE (G:bH C)(h:Ok (·<C.length) x){v:W}(hv:fq C x=some v):Ok (·<C.length) v:=by
  cases x with
  | num _=>exact nn hv
  | nil=>(refine sj ?_ hv;clear hv;intro e1;subst e1);trivial
  | cell k=>
    have hk:k<C.length:=h;obtain ⟨⟨a,d⟩,hc⟩:∃p,C[k]?=some p:=⟨_,w7 hk⟩;rw [fq,hc] at hv
    (refine sj ?_ hv;clear hv;intro e1;subst e1)
    exact(G.cl k a d hk hc).1
theorem qI (G:bH C)(h:Ok (·<C.length) x){v:W}(hv:fs C x=some v):Ok (·<C.length) v:=by
  cases x with
  | num _=>exact nn hv
  | nil=>(refine sj ?_ hv;clear hv;intro e1;subst e1);trivial
  | cell k=>
    have hk:k<C.length:=h;obtain ⟨⟨a,d⟩,hc⟩:∃p,C[k]?=some p:=⟨_,w7 hk⟩;rw [fs,hc] at hv
    (refine sj ?_ hv;clear hv;intro e1;subst e1)
    exact(G.cl k a d hk hc).2
theorem ju (h:x.isNum=true):fq C x=none∧fs C x=none:=by
  cases x with
  | num _=>exact⟨rfl,rfl⟩
  | nil=>exact ft h
  | cell k=>exact ft h
theorem bK.okPos' {ks:List Nat}{as:List W}{e:W}(h:bK C w ks as e){D:Nat→Prop}(hD:Cl C D)(hw:Ok D w):∀j,Ok D (aI ks e j)
  | 0=>by refine ah h.zero ?_;exact hw
  | j+1=>by
    by_cases hj:j<ks.length
    · refine uE ?_ (h.at hj);intro ha hc;have:=h.okPos' hD hw j;rw [aQ hj] at this
      exact(hD _ _ _ this hc).2
    · have:=h.okPos' hD hw j;rw [aP (by(first | exact(w8 hj) | exact wV ((w8 hj)) (w9 _ _)))] at this⊢
      exact this
theorem bK.okAs' {ks:List Nat}{as:List W}{e:W}(h:bK C w ks as e){D:Nat→Prop}(hD:Cl C D)(hw:Ok D w):∀a∈as,Ok D a:=fun a ha=>by
  refine eu ?_ (List.getElem_of_mem ha);rintro j hj rfl;refine uE ?_ (h.at (show j<ks.length by refine ch h.len ?_;exact hj));intro ha hc;have:=h.okPos' hD hw j;rw [aQ (by refine ch h.len ?_;exact hj)] at this
  exact(hD _ _ _ this hc).1
theorem pG (G:bH C)(hp:Cl C (·∈ps))(ox:Ok (·<C.length) x):dJ 277 563 "car" [x] C ps:=by
  cases hv:fq C x with
  | none=>
    refine⟨none,fun hB hn L ha hE=>ja hB (ar hn rfl) L ox ha (fun v h=>by rw [hv] at h;exact nn h) fun _=>hE,fun hB hn S ha hal h=>ro hB (ar hn rfl) S (qv ox) ha ?_,trivial⟩;refine ah hv ?_;exact h _ (aH.refl _)
  | some v=>
    refine⟨some (v,C),fun hB hn L ha h=>ja hB (ar hn rfl) L ox ha (fun u hu _=> ?_) (fun hq=> ?_),fun hB hn S ha hal h=>ro hB (ar hn rfl) S (qv ox) ha ?_,G,nE G ox hv,w6 _,hp⟩
    · rw [hv] at hu
      (refine sj ?_ hu;clear hu;intro e1;subst e1)
      exact h _ _ (Kp.refl _) L fun _ _=>rfl
    · rw [(ju hq).1] at hv;exact nn hv
    · refine ah hv ?_;exact h _ _ (aU.refl S)
theorem pH (G:bH C)(hp:Cl C (·∈ps))(ox:Ok (·<C.length) x):dJ 284 563 "cdr" [x] C ps:=by
  cases hv:fs C x with
  | none=>
    refine⟨none,fun hB hn L ha hE=>jb hB (ar hn rfl) L ox ha (fun v h=>by rw [hv] at h;exact nn h) fun _=>hE,fun hB hn S ha hal h=>rq hB (ar hn rfl) S (qv ox) ha ?_,trivial⟩;refine ah hv ?_;exact h _ (aH.refl _)
  | some v=>
    refine⟨some (v,C),fun hB hn L ha h=>jb hB (ar hn rfl) L ox ha (fun u hu _=> ?_) (fun hq=> ?_),fun hB hn S ha hal h=>rq hB (ar hn rfl) S (qv ox) ha ?_,G,qI G ox hv,w6 _,hp⟩
    · rw [hv] at hu
      (refine sj ?_ hu;clear hu;intro e1;subst e1)
      exact h _ _ (Kp.refl _) L fun _ _=>rfl
    · rw [(ju hq).2] at hv;exact nn hv
    · refine ah hv ?_;exact h _ _ (aU.refl S)
theorem jU (G:bH C)(h24:C.length≤24)(hp:Cl C (·∈ps))(hps:∀k∈ps,k<C.length)(ox:Ok (·<C.length) x)(oy:Ok (·<C.length) y):dJ 291 563 "cons" [x,y] C ps:=by
  refine⟨some (.cell C.length,C++[(x,y)]),fun hB hn L ha h=>lM hB (ar hn rfl) L ox oy ha fun σ' D' P' Gr _=> ?_,fun hB hn S ha hal h=>sA hB (ar hn rfl) S (wZ h24 (wW rfl)) ha h,oF G h24 ox oy, ?_, ?_,fZ hp hps⟩
  · refine dc ?_ Gr.told;intro h1 h2 h3;exact h _ _ h1 h2 h3
  · refine(?_:C.length<(C++[(x,y)]).length)
    simp
  · simp
theorem gO {N k:Nat}{D:Nat→Prop}(h:∀i,i<k→D (N+i)):Ok D (dS N k .nil):=by
  unfold dS
  split
  · trivial
  · rename_i hk
    have:=h (k-1) (Nat.sub_lt (Nat.pos_of_ne_zero hk) Nat.one_pos);rw [←Nat.add_sub_assoc (Nat.pos_of_ne_zero hk) N] at this;exact this
theorem jW (G:bH C)(h24:C.length≤24)(hp:Cl C (·∈ps))(hps:∀k∈ps,k<C.length){xs:List W}(hx:∀a∈xs,Ok (·<C.length) a)(hl:xs.length≤24):dJ 298 563 "list" xs C ps:=by
  refine⟨some (dS C.length xs.length .nil,C++dO C.length xs.reverse .nil),fun hB hn L ha h=>hJ hB (ar hn rfl) L ha (wV hl (wW rfl)) hx fun σ' D' P' Gr _=> ?_,fun hB hn S ha hal h=>sB hB (ar hn rfl) S (wZ (Nat.add_le_add h24 hl) (wW rfl)) ha h,eD G h24 (fun r hr=>hx r (List.mem_reverse.mp hr)) (by simp;exact wV hl (wW rfl)), ?_,by simp,fZ hp hps⟩
  · refine dc ?_ Gr.told;intro h1 h2 h3;exact h _ _ h1 h2 h3
  · exact gO fun i hi=>by refine ah List.length_append ?_;rewrite [cN];refine ah List.length_reverse ?_;exact Nat.add_lt_add_left hi _
theorem lR (G:bH C)(h24:C.length≤24)(hp:Cl C (·∈ps))(ox:Ok (·<C.length) x)(oy:Ok (·<C.length) y)(py:Ok (·∈ps) y)(hM:∀k,x= .cell k→∃M,Cl C M∧Ok M y∧¬M k):dJ 305 563 "setcar" [x,y] C ps:=by
  cases x with
  | num i=>exact⟨none,fun hB hn L ha hE=>ei hB (ar hn rfl) L ox oy ha (fun k _ _ _ q=>by cases q) fun _=>hE,fun hB hn S ha hal h=>jz hB (ar hn rfl) S (qv ox) ha (fun _=>h _ (aH.refl _)) (fun k _ _ _ q=>by cases q) hal,trivial⟩
  | nil=>exact⟨none,fun hB hn L ha hE=>ei hB (ar hn rfl) L ox oy ha (fun k _ _ _ q=>by cases q) fun _=>hE,fun hB hn S ha hal h=>jz hB (ar hn rfl) S (qv ox) ha (fun _=>h _ (aH.refl _)) (fun k _ _ _ q=>by cases q) hal,trivial⟩
  | cell k=>
    have hk:k<C.length:=ox;obtain ⟨⟨a,d⟩,hc⟩:∃p,C[k]?=some p:=⟨_,w7 hk⟩;refine bI ?_ (hM k rfl);intro M m1 m2 m3;refine⟨some (y,C.set k (y,d)),fun hB hn L ha h=>ei hB (ar hn rfl) L ox oy ha (fun k' a' d' σ' e hc' hkp hlk=> ?_) (fun q=>by exact tf q),fun hB hn S ha hal h=>jz hB (ar hn rfl) S (qv ox) ha (fun q=>by exact tf q) (fun k' a' d' σ' e hc' hst=> ?_) hal,jk G h24 hc (y:=y) (.inr rfl) (.inl rfl) oy m1 m2 m3,by refine ah List.length_set ?_;exact oy,by refine ah List.length_set ?_;exact w6 _,kJ hp hc (y:=y) (.inr rfl) (.inl rfl) py⟩
    · cases e
      rw [hc] at hc'
      (refine oY ?_ hc';clear hc';intro e1 e2;subst e1;subst e2)
      exact h _ _ hkp (by refine ah List.length_set ?_;exact hlk) fun _ _=>rfl
    · cases e
      rw [hc] at hc'
      (refine oY ?_ hc';clear hc';intro e1 e2;subst e1;subst e2)
      exact h _ _ hst
theorem lS (G:bH C)(h24:C.length≤24)(hp:Cl C (·∈ps))(ox:Ok (·<C.length) x)(oy:Ok (·<C.length) y)(py:Ok (·∈ps) y)(hM:∀k,x= .cell k→∃M,Cl C M∧Ok M y∧¬M k):dJ 312 563 "setcdr" [x,y] C ps:=by
  cases x with
  | num i=>exact⟨none,fun hB hn L ha hE=>ej hB (ar hn rfl) L ox oy ha (fun k _ _ _ q=>by cases q) fun _=>hE,fun hB hn S ha hal h=>jA hB (ar hn rfl) S (qv ox) ha (fun _=>h _ (aH.refl _)) (fun k _ _ _ q=>by cases q) hal,trivial⟩
  | nil=>exact⟨none,fun hB hn L ha hE=>ej hB (ar hn rfl) L ox oy ha (fun k _ _ _ q=>by cases q) fun _=>hE,fun hB hn S ha hal h=>jA hB (ar hn rfl) S (qv ox) ha (fun _=>h _ (aH.refl _)) (fun k _ _ _ q=>by cases q) hal,trivial⟩
  | cell k=>
    have hk:k<C.length:=ox;obtain ⟨⟨a,d⟩,hc⟩:∃p,C[k]?=some p:=⟨_,w7 hk⟩;refine bI ?_ (hM k rfl);intro M m1 m2 m3;refine⟨some (y,C.set k (a,y)),fun hB hn L ha h=>ej hB (ar hn rfl) L ox oy ha (fun k' a' d' σ' e hc' hkp hlk=> ?_) (fun q=>by exact tf q),fun hB hn S ha hal h=>jA hB (ar hn rfl) S (qv ox) ha (fun q=>by exact tf q) (fun k' a' d' σ' e hc' hst=> ?_) hal,jk G h24 hc (y:=y) (.inl rfl) (.inr rfl) oy m1 m2 m3,by refine ah List.length_set ?_;exact oy,by refine ah List.length_set ?_;exact w6 _,kJ hp hc (y:=y) (.inl rfl) (.inr rfl) py⟩
    · cases e
      rw [hc] at hc'
      (refine oY ?_ hc';clear hc';intro e1 e2;subst e1;subst e2)
      exact h _ _ hkp (by refine ah List.length_set ?_;exact hlk) fun _ _=>rfl
    · cases e
      rw [hc] at hc'
      (refine oY ?_ hc';clear hc';intro e1 e2;subst e1;subst e2)
      exact h _ _ hst
theorem lQ (G:bH C)(hp:Cl C (·∈ps))(ox:Ok (·<C.length) x):dJ 319 563 "proper" [x] C ps:=by
  refine bz ?_ (G.chn ox);intro ks as e h hz hz';have:=G.len
  by_cases he:e= .nil
  · refine⟨some (.num ks.length,C),fun hB hn L ha q=>fR hB (ar hn rfl) L ox h (wV (wV hz this) (wW rfl)) ha (fun _=>q _ _ (Kp.refl _) L fun _ _=>rfl) (fun q=>absurd he q),fun hB hn S ha hal q=>mo hB (ar hn rfl) S h (wV (wV hz this) (wW rfl)) ha ?_,G,trivial,w6 _,hp⟩;refine ah (if_pos he) ?_;exact q _ _ (aU.refl S)
  · refine⟨some (.nil,C),fun hB hn L ha q=>fR hB (ar hn rfl) L ox h (wV (wV hz this) (wW rfl)) ha (fun q=>absurd q he) (fun _=>q _ _ (Kp.refl _) L fun _ _=>rfl),fun hB hn S ha hal q=>mo hB (ar hn rfl) S h (wV (wV hz this) (wW rfl)) ha ?_,G,trivial,w6 _,hp⟩;refine ah (if_neg he) ?_;exact q _ _ (aU.refl S)
theorem lP (G:bH C)(hp:Cl C (·∈ps))(ox:Ok (·<C.length) x){j:Nat}:dJ 380 563 "nthcdr" [.num j,x] C ps:=by
  refine bz ?_ (G.chn ox);intro ks as e h hz hz';have:=G.len
  by_cases he:j≤ks.length∨e= .nil
  · refine⟨some (aI ks e j,C),fun hB hn L ha q=>fQ hB (ar hn rfl) L ox h ha (fun _ _=>q _ _ (Kp.refl _) L fun _ _=>rfl) (fun q1 q2=>absurd he (by rintro (h | h);lia;exact q2 h)),fun hB hn S ha hal q=>mn hB (ar hn rfl) S h ha ?_,G,h.okPos' G.cl ox j,w6 _,hp⟩
    refine ah (if_pos he) ?_;exact q _ _ (aU.refl S)
  · refine⟨none,fun hB hn L ha q=>fQ hB (ar hn rfl) L ox h ha (fun q _=>absurd q he) (fun q1 q2=>q),fun hB hn S ha hal q=>mn hB (ar hn rfl) S h ha ?_,trivial⟩;refine ah (if_neg he) ?_;exact q _ (aH.refl _)
theorem pI (G:bH C)(hp:Cl C (·∈ps))(ox:Ok (·<C.length) x){j:Nat}:dJ 387 563 "nth" [.num j,x] C ps:=by
  refine bz ?_ (G.chn ox);intro ks as e h hz hz';have:=G.len;have op:=h.okPos' G.cl ox j
  by_cases he:j≤ks.length∨e= .nil
  · cases hv:fq C (aI ks e j) with
    | none=>
      refine⟨none,fun hB hn L ha q=>fY hB (ar hn rfl) L ox h ha (fun v _ q _=>by rw [hv] at q;exact nn q) (fun _=>q),fun hB hn S ha hal q=>p8 hB (ar hn rfl) S h ha ?_,trivial⟩;refine ah (if_pos he) (ah hv ?_);exact q _ (aH.refl _)
    | some v=>
      refine⟨some (v,C),fun hB hn L ha q=>fY hB (ar hn rfl) L ox h ha (fun u _ hu _=> ?_) (fun hq=> ?_),fun hB hn S ha hal q=>p8 hB (ar hn rfl) S h ha ?_,G,nE G op hv,w6 _,hp⟩
      · rw [hv] at hu
        (refine sj ?_ hu;clear hu;intro e1;subst e1)
        exact q _ _ (Kp.refl _) L fun _ _=>rfl
      · rcases hq with⟨q1,q2⟩ | ⟨_,q2⟩
        · exact absurd he (by rintro (h | h);lia;exact q2 h)
        · rw [(ju q2).1] at hv;exact nn hv
      · refine ah (if_pos he) (ah hv ?_);exact q _ _ (aU.refl S)
  · refine⟨none,fun hB hn L ha q=>fY hB (ar hn rfl) L ox h ha (fun _ q _ _=>absurd q he) (fun _=>q),fun hB hn S ha hal q=>p8 hB (ar hn rfl) S h ha ?_,trivial⟩;refine ah (if_neg he) ?_;exact q _ (aH.refl _)
theorem oq (G:bH C)(hp:Cl C (·∈ps))(ox:Ok (·<C.length) x):dJ 401 563 "last" [x] C ps:=by
  refine bz ?_ (G.chn ox);intro ks as e h hz hz';have:=G.len
  cases hn:x.isNum with
  | true=>exact⟨none,fun hB hn' L ha q=>gZ hB (ar hn' rfl) L ox h (wV (wV hz this) (wW rfl)) ha (fun q _=>by rw [hn] at q;exact tf q) (fun _=>q),fun hB hn' S ha hal q=>p0 hB (ar hn' rfl) S h (wV (wV hz this) (wW rfl)) ha (fun _=>q _ (aH.refl _)) (fun q=>by rw [hn] at q;exact tf q),trivial⟩
  | false=>exact⟨some (aI ks e (ks.length-1),C),fun hB hn' L ha q=>gZ hB (ar hn' rfl) L ox h (wV (wV hz this) (wW rfl)) ha (fun _ _=>q _ _ (Kp.refl _) L fun _ _=>rfl) (fun q=>by rw [hn] at q;exact ft q),fun hB hn' S ha hal q=>p0 hB (ar hn' rfl) S h (wV (wV hz this) (wW rfl)) ha (fun q=>by rw [hn] at q;exact ft q) (fun _=>q _ _ (aU.refl S)),G,h.okPos' G.cl ox _,w6 _,hp⟩
theorem kN (G:bH C)(h24:C.length≤24)(hp:Cl C (·∈ps))(hps:∀k∈ps,k<C.length)(ox:Ok (·<C.length) x):dJ 408 563 "butlast" [x] C ps:=by
  refine bz ?_ (G.chn ox);intro ks as e h hz hz'
  by_cases he:e= .nil
  · refine⟨some (dS C.length (as.length-1) .nil,C++dO C.length (as.take (as.length-1)).reverse .nil),fun hB hn L ha q=>fm hB (ar hn rfl) L ox h (wV (wV hz h24) (wW rfl)) ha (fun _ σ' D' P' Gr _=> ?_) (fun q=>absurd he q),fun hB hn S ha hal q=>kh hB (ar hn rfl) S h (wZ (Nat.add_le_add h24 (wV hz' h24)) (wW rfl)) ha (fun q=>absurd he q) (fun _ σ' ls' hst=>q _ _ hst),eD G h24 (fun r hr=>h.okAs' G.cl ox r (List.mem_of_mem_take (List.mem_reverse.mp hr))) (by simp;exact wV (wV hz' h24) (wW rfl)), ?_,by simp,fZ hp hps⟩
    · refine dc ?_ Gr.told;intro h1 h2 h3;exact q _ _ h1 h2 h3
    · exact gO fun i hi=>by refine ah List.length_append ?_;rewrite [cN];refine ah List.length_reverse (ah List.length_take ?_);exact Nat.add_lt_add_left (w0 hi (Nat.le_min_of_le_of_le (wX rfl) (Nat.sub_le _ _))) _
  · exact⟨none,fun hB hn L ha q=>fm hB (ar hn rfl) L ox h (wV (wV hz h24) (wW rfl)) ha (fun q=>absurd q he) (fun _=>q),fun hB hn S ha hal q=>kh hB (ar hn rfl) S h (wZ (Nat.add_le_add h24 (wV hz' h24)) (wW rfl)) ha (fun _=>q) (fun q=>absurd q he),trivial⟩
theorem oz (G:bH C)(h24:C.length≤24)(hp:Cl C (·∈ps))(hps:∀k∈ps,k<C.length)(ox:Ok (·<C.length) x){j:Nat}:dJ 394 563 "take" [.num j,x] C ps:=by
  refine bz ?_ (G.chn ox);intro ks as e h hz hz'
  by_cases he:x.isNum=true∨(as.length<j∧e≠ .nil)
  · refine⟨none,fun hB hn L ha q=>hV hB (ar hn rfl) L ox h (wV (wV hz h24) (wW rfl)) ha (fun _=>q) (fun q1 q2=> ?_) (fun _ _=>q),fun hB hn S ha hal q=>qb hB (ar hn rfl) S h (wZ (Nat.add_le_add h24 (wV hz' h24)) (wW rfl)) ha (fun _=>q) (fun q=>absurd he q),trivial⟩
    rcases he with he | ⟨he1,he2⟩
    · rw [he] at q1;exact tf q1
    · rcases q2 with q2 | q2
      · lia
      · exact absurd q2 he2
  · refine⟨some (dS C.length (as.take j).length .nil,C++dO C.length (as.take j).reverse .nil),fun hB hn L ha q=>hV hB (ar hn rfl) L ox h (wV (wV hz h24) (wW rfl)) ha (fun q=>absurd (.inl q) he) (fun _ _ σ' D' P' Gr _=> ?_) (fun q1 q2=>absurd (.inr ⟨q1,q2⟩) he),fun hB hn S ha hal q=>qb hB (ar hn rfl) S h (wZ (Nat.add_le_add h24 (wV hz' h24)) (wW rfl)) ha (fun q=>absurd q he) (fun _ σ' ls' hst=>q _ _ hst),eD G h24 (fun r hr=>h.okAs' G.cl ox r (List.mem_of_mem_take (List.mem_reverse.mp hr))) (by simp;exact wV (wV (Nat.min_le_right _ _) (wV hz' h24)) (wW rfl)), ?_,by simp,fZ hp hps⟩
    · refine dc ?_ Gr.told;intro h1 h2 h3;exact q _ _ h1 h2 h3
    · exact gO fun i hi=>by refine ah List.length_append ?_;rewrite [cN];refine ah List.length_reverse ?_;exact Nat.add_lt_add_left hi _
theorem mW (G:bH C)(h24:C.length≤24)(hp:Cl C (·∈ps))(ox:Ok (·<C.length) x)(oy:Ok (·<C.length) y)(py:Ok (·∈ps) y)(hM:∀ks as e,bK C x ks as e→∀k∈ks,∃M,Cl C M∧Ok M y∧¬M k):dJ 422 563 "nconc" [x,y] C ps:=by
  refine bz ?_ (G.chn ox);intro ks as e h hz hz';refine bz ?_ (G.chn oy);intro ks' as' e' h' hy hy'
  by_cases h0:0<ks.length
  · have hlast:ks.length-1<ks.length:=ad h0;refine uE ?_ (h.at hlast);intro hla hc;rw [aP (wX (Eq.symm (Nat.sub_add_cancel h0)))] at hc;have hxc:x= .cell ks[0]:=h.zero.symm.trans (aQ h0);refine bI ?_ (hM ks as e h ks[ks.length-1] (List.getElem_mem _));intro M m1 m2 m3;refine⟨some (x,C.set ks[ks.length-1] (as[ks.length-1],y)),fun hB hn L ha q=>eU hB (ar hn rfl) L ox oy h ha (fun q=>by rw [hxc] at q;exact ft q) (fun q=>by rw [hxc] at q;cases q) (fun hk σ' a' hc' hkp hlk=> ?_),fun hB hn S ha hal q=>k9 hB (ar hn rfl) S h' (wV (wV hy h24) (wW rfl)) h (wV (wV hz h24) (wW rfl)) ha hal (fun q=>by rw [hxc] at q;exact ft q) (fun q=>by rw [hxc] at q;cases q) (fun hk a' σ' hc' hst=> ?_),jk G h24 hc (y:=y) (.inl rfl) (.inr rfl) oy m1 m2 m3,by refine ah List.length_set ?_;exact ox,by refine ah List.length_set ?_;exact w6 _,kJ hp hc (y:=y) (.inl rfl) (.inr rfl) py⟩
    · rw [hc] at hc'
      cases hc'
      exact q _ _ hkp (by refine ah List.length_set ?_;exact hlk) fun _ _=>rfl
    · rw [hc] at hc'
      cases hc'
      exact q _ _ hst
  · have hk0:ks=[]:=List.eq_nil_of_length_eq_zero (by exact Nat.eq_zero_of_le_zero ((w8 h0)));subst hk0;have hxe:e=x:=h.zero
    cases x with
    | num i=>exact⟨none,fun hB hn L ha q=>eU hB (by exact ar hn rfl) L ox oy h ha (fun _=>q) (fun q=>by cases q) (fun hk=>absurd hk (xl 0)),fun hB hn S ha hal q=>k9 hB (by exact ar hn rfl) S h' (by exact wV (wV hy h24) (wW rfl)) h (by exact wW rfl) ha hal (fun _=>q) (fun q=>by cases q) (fun hk=>absurd hk (xl 0)),trivial⟩
    | nil=>exact⟨some (y,C),fun hB hn L ha q=>eU hB (by exact ar hn rfl) L ox oy h ha (fun q=>by exact ft q) (fun _=>q _ _ (Kp.refl _) L fun _ _=>rfl) (fun hk=>absurd hk (xl 0)),fun hB hn S ha hal q=>k9 hB (by exact ar hn rfl) S h' (by exact wV (wV hy h24) (wW rfl)) h (by exact wW rfl) ha hal (fun q=>by exact ft q) (fun _ σ' hle=>q _ _ ⟨S.le hle,fun a o e _ _=>hle _ _ e,fun b hb=> .inl hb⟩) (fun hk=>absurd hk (xl 0)),G,oy,w6 _,hp⟩
    | cell k=>have:=h.stop;rw [hxe] at this;exact tf this
end
end
section
theorem bY {α:Type}{f:α→Bool}{as:List α}{i j:Nat}(hi:i<as.length)(hj:j<as.length)(h1:f as[i]=true)(h2:∀i' (hi':i'<as.length),i'<i→f as[i']=false)(h3:f as[j]=true)(h4:∀i' (hi':i'<as.length),i'<j→f as[i']=false):i=j:=by
  rcases Nat.lt_trichotomy i j with h | h | h
  · have:=h4 i hi h;rw [h1] at this;exact tf this
  · exact h
  · have:=h2 j hj h;rw [h3] at this;exact tf this
theorem jl {α:Type}(f:α→Bool)(as:List α):(∃i,∃(hi:i<as.length),f as[i]=true∧∀i' (hi':i'<as.length),i'<i→f as[i']=false)∨(∀a∈as,f a=false):=by
  by_cases h:∃a∈as,f a=true
  · exact .inl (gu f as h)
  · refine .inr fun a ha=> ?_
    cases q:f a with
    | false=>rfl
    | true=>exact absurd ⟨a,ha,q⟩ h
theorem bx {α:Type}{f:α→Bool}{as:List α}(h:∀a∈as,f a=false){i:Nat}(hi:i<as.length)(q:f as[i]=true):False:=by
  rw [h _ (List.getElem_mem hi)] at q;exact ft q
section
variable {C:St}{ps:List Nat}{x y w:W}
open Classical in
noncomputable def cp (C:St)(x:W)(a:W):Bool:=if h:∃b,∃k,br C x a b k∧k≤100000 then h.choose else false
theorem jq {C:St}{x a:W}(h:∃b,∃k,br C x a b k∧k≤100000):∃k,br C x a (cp C x a) k∧k≤100000:=by
  unfold cp;refine ah (dif_pos h) ?_;exact h.choose_spec
theorem jX (G:bH C)(hp:Cl C (·∈ps))(ox:Ok (·<C.length) x)(ow:Ok (·<C.length) w):dJ 429 575 "memq" [x,w] C ps:=by
  refine bz ?_ (G.chn ow);intro ks as e h hz hz';have hlen:=G.len
  rcases jl (fun a=>decide (x=a)) as with⟨i,hi,h1,h2⟩ | hno
  · refine⟨some (aI ks e i,C),fun hB hn L ha q=>fo hB (ar hn rfl) L ox ow h ha (fun h3 _=>absurd h1 (fun h1=>bx h3 hi h1)) (fun j hj h3 h4=> ?_) (fun h3 _=>absurd h1 (fun h1=>bx h3 hi h1)),fun hB hn S ha hal q=>np hB (ar hn rfl) S h (wV (wV hz hlen) (wW rfl)) ha (fun j hj h3 h4=> ?_) (fun h3 _=>absurd h1 (fun h1=>bx h3 hi h1)) (fun h3 _=>absurd h1 (fun h1=>bx h3 hi h1)),G,h.okPos' G.cl ow i,w6 _,hp⟩
    · obtain rfl:=bY (f:=fun a=>decide (x=a)) hi hj h1 h2 h3 h4;exact q _ _ (Kp.refl _) L fun _ _=>rfl
    · obtain rfl:=bY (f:=fun a=>decide (x=a)) hi hj h1 h2 h3 h4;exact q _ _ (aU.refl S)
  · by_cases he:e= .nil
    · exact⟨some (.nil,C),fun hB hn L ha q=>fo hB (ar hn rfl) L ox ow h ha (fun _ h4=>absurd he h4) (fun j hj h3 h4=>(bx hno hj h3).elim) (fun _ _=>q _ _ (Kp.refl _) L fun _ _=>rfl),fun hB hn S ha hal q=>np hB (ar hn rfl) S h (wV (wV hz hlen) (wW rfl)) ha (fun j hj h3 h4=>(bx hno hj h3).elim) (fun _ _=>q _ _ (aU.refl S)) (fun _ h4=>absurd he h4),G,trivial,w6 _,hp⟩
    · exact⟨none,fun hB hn L ha q=>fo hB (ar hn rfl) L ox ow h ha (fun _ _=>q) (fun j hj h3 h4=>(bx hno hj h3).elim) (fun _ h4=>absurd h4 he),fun hB hn S ha hal q=>np hB (ar hn rfl) S h (wV (wV hz hlen) (wW rfl)) ha (fun j hj h3 h4=>(bx hno hj h3).elim) (fun _ h4=>absurd h4 he) (fun _ _=>q _ (aH.refl _)),trivial⟩
theorem ig (G:bH C)(hp:Cl C (·∈ps))(ox:Ok (·<C.length) x)(ow:Ok (·<C.length) w):dJ 436 575 "member" [x,w] C ps:=by
  refine bz ?_ (G.chn ow);intro ks as e h hz hz';have hlen:=G.len;refine aY ?_ G.rk';intro rk R hrk;refine aY ?_ G.fine;intro m hm F;have hf:∀a∈as,∃k,br C x a (cp C x a) k∧k≤100000:=fun a ha=>jq (by
    refine eu ?_ (List.getElem_of_mem ha);rintro j hj rfl;refine uE ?_ (h.at (show j<ks.length by refine ch h.len ?_;exact hj));intro _ hc;exact wz R G.cl F hm ox (h.okAs' G.cl ow _ ha) (F.2 _ _ _ hc))
  have hf':∀a∈as,∃k,br C x a (cp C x a) k:=fun a ha=>(hf a ha).imp fun _ h=>h.1;have hrx:ir rk x≤73:=by
    cases x with
    | num _=>exact xd _
    | nil=>exact xd _
    | cell i=>have:=hrk i;exact xc this _
  rcases jl (cp C x) as with⟨i,hi,h1,h2⟩ | hno
  · refine⟨some (aI ks e i,C),fun hB hn L ha q=>eh hB (ar hn rfl) L ox ow h ha (cp C x) hf (fun h3 _=>absurd h1 (fun h1=>bx h3 hi h1)) (fun j hj h3 h4=> ?_) (fun h3 _=>absurd h1 (fun h1=>bx h3 hi h1)),fun hB hn S ha hal q=>jy hB S h (wV (wV hz hlen) (wW rfl)) ha R (wV (wV (xc hrx _) (wW rfl)) hn) (cp C x) hf' (fun j hj h3 h4=> ?_) (fun h3 _=>absurd h1 (fun h1=>bx h3 hi h1)) (fun h3 _=>absurd h1 (fun h1=>bx h3 hi h1)),G,h.okPos' G.cl ow i,w6 _,hp⟩
    · obtain rfl:=bY (f:=cp C x) hi hj h1 h2 h3 h4;exact q _ _ (Kp.refl _) L fun _ _=>rfl
    · obtain rfl:=bY (f:=cp C x) hi hj h1 h2 h3 h4;exact q _ _ (aU.refl S)
  · by_cases he:e= .nil
    · exact⟨some (.nil,C),fun hB hn L ha q=>eh hB (ar hn rfl) L ox ow h ha (cp C x) hf (fun _ h4=>absurd he h4) (fun j hj h3 h4=>(bx hno hj h3).elim) (fun _ _=>q _ _ (Kp.refl _) L fun _ _=>rfl),fun hB hn S ha hal q=>jy hB S h (wV (wV hz hlen) (wW rfl)) ha R (wV (wV (xc hrx _) (wW rfl)) hn) (cp C x) hf' (fun j hj h3 h4=>(bx hno hj h3).elim) (fun _ _=>q _ _ (aU.refl S)) (fun _ h4=>absurd he h4),G,trivial,w6 _,hp⟩
    · exact⟨none,fun hB hn L ha q=>eh hB (ar hn rfl) L ox ow h ha (cp C x) hf (fun _ _=>q) (fun j hj h3 h4=>(bx hno hj h3).elim) (fun _ h4=>absurd h4 he),fun hB hn S ha hal q=>jy hB S h (wV (wV hz hlen) (wW rfl)) ha R (wV (wV (xc hrx _) (wW rfl)) hn) (cp C x) hf' (fun j hj h3 h4=>(bx hno hj h3).elim) (fun _ h4=>absurd h4 he) (fun _ _=>q _ (aH.refl _)),trivial⟩
theorem jT (G:bH C)(h24:C.length≤24)(hp:Cl C (·∈ps))(ox:Ok (·<C.length) x)(ow:Ok (·<C.length) w):dJ 476 575 "assq" [x,w] C ps:=by
  refine bz ?_ (G.chn ow);intro ks as e h hz hz';have oas:=h.okAs' G.cl ow;have hC:∀k, .cell k∈as→k<C.length:=fun k hk=>oas _ hk
  by_cases he:e= .nil
  · rcases jl (aG C false (fun a=>decide (x=a))) as with⟨i,hi,h1,h2⟩ | hno
    · refine⟨some (as[i],C),fun hB hn L ha q=>fk hB (ar hn rfl) L ox ow h (wV (wV hz h24) (wW rfl)) ha (fun q=>absurd he q) (fun _ j hj h3 h4=> ?_) (fun _ h3=>absurd h1 (fun h1=>bx h3 hi h1)),fun hB hn S ha hal q=>nk hB (ar hn rfl) S h (wV (wV hz h24) (wW rfl)) hC ha (fun q=>absurd he q) (fun _ j hj h3 h4=> ?_) (fun _ h3=>absurd h1 (fun h1=>bx h3 hi h1)),G,oas _ (List.getElem_mem _),w6 _,hp⟩
      · obtain rfl:=bY (f:=aG C false (fun a=>decide (x=a))) hi hj h1 h2 h3 h4;exact q _ _ (Kp.refl _) L fun _ _=>rfl
      · obtain rfl:=bY (f:=aG C false (fun a=>decide (x=a))) hi hj h1 h2 h3 h4;exact q _ _ (aU.refl S)
    · exact⟨some (.nil,C),fun hB hn L ha q=>fk hB (ar hn rfl) L ox ow h (wV (wV hz h24) (wW rfl)) ha (fun q=>absurd he q) (fun _ j hj h3 h4=>(bx hno hj h3).elim) (fun _ _=>q _ _ (Kp.refl _) L fun _ _=>rfl),fun hB hn S ha hal q=>nk hB (ar hn rfl) S h (wV (wV hz h24) (wW rfl)) hC ha (fun q=>absurd he q) (fun _ j hj h3 h4=>(bx hno hj h3).elim) (fun _ _=>q _ _ (aU.refl S)),G,trivial,w6 _,hp⟩
  · exact⟨none,fun hB hn L ha q=>fk hB (ar hn rfl) L ox ow h (wV (wV hz h24) (wW rfl)) ha (fun _=>q) (fun q=>absurd q he) (fun q=>absurd q he),fun hB hn S ha hal q=>nk hB (ar hn rfl) S h (wV (wV hz h24) (wW rfl)) hC ha (fun _=>q _ (aH.refl _)) (fun q=>absurd q he) (fun q=>absurd q he),trivial⟩
theorem jg (G:bH C)(h24:C.length≤24)(hp:Cl C (·∈ps))(ox:Ok (·<C.length) x)(ow:Ok (·<C.length) w):dJ 490 575 "rassq" [x,w] C ps:=by
  refine bz ?_ (G.chn ow);intro ks as e h hz hz';have oas:=h.okAs' G.cl ow;have hC:∀k, .cell k∈as→k<C.length:=fun k hk=>oas _ hk
  by_cases he:e= .nil
  · rcases jl (aG C true (fun a=>decide (x=a))) as with⟨i,hi,h1,h2⟩ | hno
    · refine⟨some (as[i],C),fun hB hn L ha q=>eV hB (ar hn rfl) L ox ow h (wV (wV hz h24) (wW rfl)) ha (fun q=>absurd he q) (fun _ j hj h3 h4=> ?_) (fun _ h3=>absurd h1 (fun h1=>bx h3 hi h1)),fun hB hn S ha hal q=>lb hB (ar hn rfl) S h (wV (wV hz h24) (wW rfl)) hC ha (fun q=>absurd he q) (fun _ j hj h3 h4=> ?_) (fun _ h3=>absurd h1 (fun h1=>bx h3 hi h1)),G,oas _ (List.getElem_mem _),w6 _,hp⟩
      · obtain rfl:=bY (f:=aG C true (fun a=>decide (x=a))) hi hj h1 h2 h3 h4;exact q _ _ (Kp.refl _) L fun _ _=>rfl
      · obtain rfl:=bY (f:=aG C true (fun a=>decide (x=a))) hi hj h1 h2 h3 h4;exact q _ _ (aU.refl S)
    · exact⟨some (.nil,C),fun hB hn L ha q=>eV hB (ar hn rfl) L ox ow h (wV (wV hz h24) (wW rfl)) ha (fun q=>absurd he q) (fun _ j hj h3 h4=>(bx hno hj h3).elim) (fun _ _=>q _ _ (Kp.refl _) L fun _ _=>rfl),fun hB hn S ha hal q=>lb hB (ar hn rfl) S h (wV (wV hz h24) (wW rfl)) hC ha (fun q=>absurd he q) (fun _ j hj h3 h4=>(bx hno hj h3).elim) (fun _ _=>q _ _ (aU.refl S)),G,trivial,w6 _,hp⟩
  · exact⟨none,fun hB hn L ha q=>eV hB (ar hn rfl) L ox ow h (wV (wV hz h24) (wW rfl)) ha (fun _=>q) (fun q=>absurd q he) (fun q=>absurd q he),fun hB hn S ha hal q=>lb hB (ar hn rfl) S h (wV (wV hz h24) (wW rfl)) hC ha (fun _=>q _ (aH.refl _)) (fun q=>absurd q he) (fun q=>absurd q he),trivial⟩
theorem jf (G:bH C)(h24:C.length≤24)(hp:Cl C (·∈ps))(ox:Ok (·<C.length) x)(ow:Ok (·<C.length) w):dJ 483 575 "assoc" [x,w] C ps:=by
  refine bz ?_ (G.chn ow);intro ks as e h hz hz';have oas:=h.okAs' G.cl ow;have hC:∀k, .cell k∈as→k<C.length:=fun k hk=>oas _ hk;refine aY ?_ G.rk';intro rk R hrk;have hf:∀(k:Nat) a d, .cell k∈as→C[k]?=some (a,d)→∃n,br C x a (cp C x a) n∧n≤100000:=fun k a d hk hc=>jq (wz R G.cl (f8 G.cl) h24 ox (G.cl k a d (hC k hk) hc).1 ((f8 G.cl).2 k a d hc));have hf':∀(k:Nat) a d, .cell k∈as→C[k]?=some (a,d)→∃n,br C x a (cp C x a) n:=fun k a d hk hc=>(hf k a d hk hc).imp fun _ h=>h.1
  by_cases he:e= .nil
  · rcases jl (aG C false (cp C x)) as with⟨i,hi,h1,h2⟩ | hno
    · refine⟨some (as[i],C),fun hB hn L ha q=>eQ hB (ar hn rfl) L ox ow h (wV (wV hz h24) (wW rfl)) ha (cp C x) hf (fun q=>absurd he q) (fun _ j hj h3 h4=> ?_) (fun _ h3=>absurd h1 (fun h1=>bx h3 hi h1)),fun hB hn S ha hal q=>k8 hB R (cp C x) hf' (ar hn rfl) (fun k _=>by have:=hrk k;exact wY (w0 (wZ (xc this _) (wW rfl)) hn)) S h (wV (wV hz h24) (wW rfl)) hC ha (fun q=>absurd he q) (fun _ j hj h3 h4=> ?_) (fun _ h3=>absurd h1 (fun h1=>bx h3 hi h1)),G,oas _ (List.getElem_mem _),w6 _,hp⟩
      · obtain rfl:=bY (f:=aG C false (cp C x)) hi hj h1 h2 h3 h4;exact q _ _ (Kp.refl _) L fun _ _=>rfl
      · obtain rfl:=bY (f:=aG C false (cp C x)) hi hj h1 h2 h3 h4;exact q _ _ (aU.refl S)
    · exact⟨some (.nil,C),fun hB hn L ha q=>eQ hB (ar hn rfl) L ox ow h (wV (wV hz h24) (wW rfl)) ha (cp C x) hf (fun q=>absurd he q) (fun _ j hj h3 h4=>(bx hno hj h3).elim) (fun _ _=>q _ _ (Kp.refl _) L fun _ _=>rfl),fun hB hn S ha hal q=>k8 hB R (cp C x) hf' (ar hn rfl) (fun k _=>by have:=hrk k;exact wY (w0 (wZ (xc this _) (wW rfl)) hn)) S h (wV (wV hz h24) (wW rfl)) hC ha (fun q=>absurd he q) (fun _ j hj h3 h4=>(bx hno hj h3).elim) (fun _ _=>q _ _ (aU.refl S)),G,trivial,w6 _,hp⟩
  · exact⟨none,fun hB hn L ha q=>eQ hB (ar hn rfl) L ox ow h (wV (wV hz h24) (wW rfl)) ha (cp C x) hf (fun _=>q) (fun q=>absurd q he) (fun q=>absurd q he),fun hB hn S ha hal q=>k8 hB R (cp C x) hf' (ar hn rfl) (fun k _=>by have:=hrk k;exact wY (w0 (wZ (xc this _) (wW rfl)) hn)) S h (wV (wV hz h24) (wW rfl)) hC ha (fun _=>q _ (aH.refl _)) (fun q=>absurd q he) (fun q=>absurd q he),trivial⟩
theorem jY (G:bH C)(h24:C.length≤24)(hp:Cl C (·∈ps))(hps:∀k∈ps,k<C.length)(ox:Ok (·<C.length) x)(ow:Ok (·<C.length) w):dJ 462 575 "remq" [x,w] C ps:=by
  refine bz ?_ (G.chn ow);intro ks as e h hz hz'
  by_cases he:e= .nil
  · have hfl:=List.length_filter_le (fun a=>decide (a≠x)) as;refine⟨some (dS C.length (as.filter (·≠x)).length .nil,C++dO C.length (as.filter (·≠x)).reverse .nil),fun hB hn L ha q=>hU hB (ar hn rfl) L ox ow h (wV (wV hz h24) (wW rfl)) ha (fun q=>absurd he q) (fun _ σ' D' P' Gr _=> ?_),fun hB hn S ha hal q=>p9 hB (ar hn rfl) S h (wZ (Nat.add_le_add h24 (wV hz h24)) (wW rfl)) ha (fun q=>absurd he q) (fun _ σ' ls' hst=>q _ _ hst),eD G h24 (fun r hr=>h.okAs' G.cl ow r (List.mem_filter.mp (List.mem_reverse.mp hr)).1) (by refine ah List.length_reverse ?_;exact wV (wV hfl (wV hz' h24)) (wW rfl)), ?_,by simp,fZ hp hps⟩
    · refine dc ?_ Gr.told;intro h1 h2 h3;exact q _ _ h1 h2 h3
    · exact gO fun i hi=>by refine ah List.length_append ?_;rewrite [cN];refine ah List.length_reverse ?_;exact Nat.add_lt_add_left hi _
  · exact⟨none,fun hB hn L ha q=>hU hB (by exact ar hn rfl) L ox ow h (by exact wV (wV hz h24) (wW rfl)) ha (fun _=>q) (fun q=>absurd q he),fun hB hn S ha hal q=>p9 hB (by exact ar hn rfl) S h (by exact wZ (Nat.add_le_add h24 (wV hz h24)) (wW rfl)) ha (fun _=>q) (fun q=>absurd q he),trivial⟩
theorem on (G:bH C)(h24:C.length≤24)(hp:Cl C (·∈ps))(hps:∀k∈ps,k<C.length)(ow:Ok (·<C.length) w):dJ 495 575 "copy-alist" [w] C ps:=by
  refine bz ?_ (G.chn ow);intro ks as e h hz hz'
  by_cases he:e= .nil
  · have hl1:=gp C as;have hl2:=e7 C as;refine⟨some (dS (C.length+(cW C as).1.length) as.length .nil,C++(cW C as).1++dO (C.length+(cW C as).1.length) (cW C as).2.reverse .nil),fun hB hn L ha q=>d5 hB (ar hn rfl) L ow h (wV (wV hz h24) (wW rfl)) ha (fun q=>absurd he q) (fun _ σ' D' P' Gr _=> ?_),fun hB hn S ha hal q=>pY hB (ar hn rfl) S h (wZ (Nat.add_le_add h24 (Nat.mul_le_mul_left _ (wV hz h24))) (wW rfl)) (fun k hk=>h.okAs' G.cl ow _ hk) ha (fun q=>absurd he q) (fun _ σ' ls' hst=>q _ _ hst),oG G h24 (h.okAs' G.cl ow) (wV hz' h24), ?_,by simp only [List.length_append];exact wV (w9 _ _) (w9 _ _),by rw [List.append_assoc];exact fZ hp hps⟩
    · refine dc ?_ Gr.told;intro h1 h2 h3;exact q _ _ h1 h2 h3
    · exact gO fun i hi=>by simp only [List.length_append,cN,List.length_reverse];exact Nat.add_lt_add_left (w0 hi (wX hl2.symm)) _
  · exact⟨none,fun hB hn L ha q=>d5 hB (ar hn rfl) L ow h (wV (wV hz h24) (wW rfl)) ha (fun _=>q) (fun q=>absurd q he),fun hB hn S ha hal q=>pY hB (ar hn rfl) S h (wZ (Nat.add_le_add h24 (Nat.mul_le_mul_left _ (wV hz h24))) (wW rfl)) (fun k hk=>h.okAs' G.cl ow _ hk) ha (fun _=>q) (fun q=>absurd q he),trivial⟩
theorem jV (G:bH C)(hp:Cl C (·∈ps))(ox:Ok (·<C.length) x)(ow:Ok (·<C.length) w):dJ 457 575 "delq" [x,w] C ps:=by
  refine bz ?_ (G.chn ow);intro ks as e h hz hz';have hlen:=G.len
  by_cases he:e= .nil
  · refine⟨some (sJ (aZ ks as x ks.length),bq C (aZ ks as x ks.length) .nil),fun hB hn L ha q=>gY hB (ar hn rfl) L ox ow h (wV (wV hz hlen) (wW rfl)) ha (fun q=>absurd he q) (fun _ σ' hkp hlk=>q _ _ hkp (by rw [c5];exact hlk) fun _ _=>rfl),fun hB hn S ha hal q=>pZ hB (ar hn rfl) S h (wZ (Nat.add_le_add hlen (wV hz hlen)) (wW rfl)) ha (fun q=>absurd he q) (fun _ σ' hst=>q _ _ hst),oH G h, ?_,by rw [c5];exact w6 _,gQ h hp⟩
    rw [c5]
    cases hk:aZ ks as x ks.length with
    | nil=>trivial
    | cons k r=>
      have hm:=pQ h (show k∈aZ ks as x ks.length by refine ah hk ?_;exact .head _);refine eu ?_ (List.getElem_of_mem hm);rintro j hj rfl;have:=h.okPos' G.cl ow j;rw [aQ hj] at this;exact this
  · exact⟨none,fun hB hn L ha q=>gY hB (ar hn rfl) L ox ow h (wV (wV hz hlen) (wW rfl)) ha (fun _=>q) (fun q=>absurd q he),fun hB hn S ha hal q=>pZ hB (ar hn rfl) S h (wZ (Nat.add_le_add hlen (wV hz hlen)) (wW rfl)) ha (fun _=>q) (fun q=>absurd q he),trivial⟩
end
end
section
noncomputable def ff (wd:Str)(L:List Str):Bool:=L.any (·==wd)
noncomputable def gd (wd:Str)(pool xs:List W):Prop:=
  if ff wd ["car","cdr","last","butlast","copy-alist","proper"]=true then∃a∈pool,xs=[a]
  else if ff wd ["nth","nthcdr","take"]=true then∃j:Nat,∃a∈pool,xs=[.num j,a]
  else if (wd==Str.ofString "list")=true then(∃a∈pool,xs=[a])∨∃a∈pool,∃b∈pool,xs=[a,b]
  else(∃a∈pool,∃b∈pool,xs=[a,b])∨(ff wd ["memq","member","delq","remq","assq","assoc","rassq"]=true∧∃i:Int,∃b∈pool,xs=[.num i,b])
section
variable {B:Bs}{Pr:Params}{n:Nat}{Q:V→AH→Prop}{E:Str→AH→Prop}{σ:AH}{st Lc Lp Lo dk:Addr}{ls:List Addr}{C:St}{pool:List W}{wd:Str}{N:Nat}{m:ax}
theorem dN {b:Bool}{X Y:Prop}(h:b=true)(x:X):if b=true then X else Y:=by refine ah (if_pos h) ?_;exact x
theorem dM {b:Bool}{X Y:Prop}(h:¬b=true)(y:Y):if b=true then X else Y:=by refine ah (if_neg h) ?_;exact y
theorem kF {x y:Expr}{pos:Pos}{R:Bool→AH→Prop}(h:TV B n m x (fun b σ₁=>if b=true then TV B n m y R E σ₁ else R false σ₁) E σ):TV B n m (.BoolOp .And [x,y] pos) R E σ:=
  bR (TV.mono h fun b σ₁ hb=>by
    cases b with
    | false=>exact hb
    | true=>exact TV.mono hb fun b σ₂ hb=>by cases b<;>exact hb)
theorem se {x y:Expr}{pos:Pos}{R:Bool→AH→Prop}(h:TV B n m x (fun b σ₁=>if b=true then R true σ₁ else TV B n m y R E σ₁) E σ):TV B n m (.BoolOp .Or [x,y] pos) R E σ:=
  bR (TV.mono h fun b σ₁ hb=>by
    cases b with
    | true=>exact hb
    | false=>exact TV.mono hb fun b σ₂ hb=>by cases b<;>exact hb)
theorem qA {x y:Expr}{pos:Pos}{R:V→AH→Prop}(h:EV B n m x (fun v σ₁=>∃b,v= .bool b∧if b=true then EV B n m y R E σ₁ else R (.bool false) σ₁) E σ):EV B n m (.BoolOp .And [x,y] pos) R E σ:=
  dG (EV.mono h fun v σ₁ hb=>by
    refine aY ?_ hb;clear hb;rintro b rfl hb
    cases b<;>exact hb)
theorem Dk.ne (h:Dk σ dk N):(∀es,σ dk≠some (.sdict es))∧∀pool:List W,σ dk≠some (.list (pool.map W.v)):=by
  refine c6 ?_ h;clear h;intro d0 ds i h1 _;refine⟨fun es q=>(by rw [h1] at q;cases q),fun pool q=> ?_⟩;rw [h1] at q
  cases pool with
  | nil=>cases q
  | cons w pool=>
    have:=(List.cons.inj (bL.list.inj (xg q))).1
    cases w<;>cases this
theorem nu (K:KO B.K)(hB:B.K=HK Pr)(hn:2≤n){pos p1 p2 p3 p4 p5 p6 p7:Pos}(l1:lk m "pool"=some (.loc (some (.ref Lo))))(l2:lk m "_law_draw"=some (.glob (.ref 507)))(l3:lk m "deck"=some (.loc (some (.ref dk))))(l4:lk m "len"=some (.glob (.bi "len")))
    (hO:σ Lo=some (.list (pool.map W.v))) (h0:0<pool.length) (hpl:pool.length≤1000) (hD:Dk σ dk N) (hN:N<1000000)
    (q:∀a∈pool,∀σ',Dk σ' dk (N+1)→dT dk σ σ'→Q a.v σ'):
    EV B n m (.Subscript (.Name "pool" p1) (.Call (.Name "_law_draw" p2) [.Name "deck" p3, .Call (.Name "len" p4) [.Name "pool" p5] [] p6] [] p7) pos) Q E σ:=by
  have hp:0<n:=ar hn rfl;have f1:nw σ (.ref Lo) (pool.length:Int):= .l' hO (by rw [List.length_map]);refine bM ?_;refine aE ‹_› ‹_› (gs l1 rfl) ?_;refine cr ‹_› ‹_› .n (gs l2 rfl) (aD rfl (gs l3 rfl) (bh .n (gs l4 rfl) (aA rfl (gs l1 rfl)) (.len f1))) (aB ‹_› rfl) ?_;refine eO hB hn hD hN (Int.ofNat_lt.mpr h0) (by lia) fun r σ' h1 h2 h3 h4=> ?_;obtain ⟨k,rfl⟩:∃k:Nat,r=k:=⟨r.toNat,Eq.symm (Int.toNat_of_nonneg h1)⟩;have hk:k<pool.length:=(Int.ofNat_lt.mp h2);have hL:Lo≠dk:=fun e=>by rw [e] at hO;exact hD.ne.2 _ hO
  have g1:=h4 _ _ hO hL;refine dW (r:=(pool[k]).v) ?_ (fun _ _=>rfl) (q _ (List.getElem_mem hk) _ h3 h4);exact .nat g1 (by refine ah List.getElem?_map (ah (w7 hk) ?_);rfl)
theorem fg (K:KO B.K)(hB:B.K=HK Pr)(hn:2≤n){pos p2 p3 p4:Pos}{kd:Nat}{many:Int}(l2:lk m "_law_draw"=some (.glob (.ref 507)))(l3:lk m "deck"=some (.loc (some (.ref dk))))
    (hm:0<many) (hm2:many<2^40) (hD:Dk σ dk N) (hN:N<1000000)
    (q:∀(j:Nat),(j:Int)<many→∀σ',Dk σ' dk (N+1)→dT dk σ σ'→Q (.int j) σ'):
    EV B n m (.Call (.Name "_law_draw" p2) [.Name "deck" p3, .Constant (.int many) kd p4] [] pos) Q E σ:=by
  have hp:0<n:=ar hn rfl;refine cr ‹_› ‹_› .n (gs l2 rfl) (aD rfl (gs l3 rfl) (ak rfl)) (aB ‹_› rfl) ?_;refine eO hB hn hD hN hm hm2 fun r σ' h1 h2 h3 h4=> ?_;obtain ⟨k,rfl⟩:∃k:Nat,r=k:=⟨r.toNat,Eq.symm (Int.toNat_of_nonneg h1)⟩;exact q k h2 σ' h3 h4
theorem Dk.set (h:Dk σ dk N){a:Addr}{o:bL}(ha:σ a=none):Dk (σ.set a o) dk N:=h.le (aH.set ha)
theorem Dk.up {N':Nat}(h:Dk σ dk N)(hN:N≤N'):Dk σ dk N':=by
  refine bJ ?_ h;clear h;intro d0 ds i h1 h2 h3;refine dF ?_;intro h4 h5 h6 h7;exact⟨d0,ds,i,h1,h2,h3,h4,h5,wV h6 hN,h7⟩
theorem dT.none {a b:Addr}{σ σ':AH}(F:dT a σ σ')(h:σ' b=none)(hab:b≠a):σ b=none:=by
  cases e:σ b with
  | none=>rfl
  | some o=>rw [F _ _ e hab] at h;exact sn h
theorem Dk.fresh {σ':AH}{b:Addr}(D:Dk σ' dk N)(F:dT dk σ σ')(hb:σ' b=none):σ b=none∧∀o,dT dk σ (σ'.set b o):=by
  refine c6 ?_ D;clear D;intro d0 ds i h1 _;have hne:b≠dk:=fun e=>by rw [e,h1] at hb;exact sn hb
  exact⟨F.none hb hne,fun o c o' e n=>by
    have:=F c o' e n;refine ah (wp (fun q=>by rw [q,hb] at this;cases this)) ?_;exact this⟩
theorem mN (hB:B.K=HK Pr)(hn:4≤n)(S:CS σ st Lc Lp Lo ls C)(hO:σ Lo=some (.list (pool.map W.v)))(h0:0<pool.length)(hpl:pool.length≤1000)(hD:Dk σ dk N)(hN:N<900000)
    (q:∀al σ' xs,gd wd pool xs→σ al=none→σ' al=some (.list (xs.map W.v))→Dk σ' dk (N+5)→dT dk σ σ'→Q (.ref al) σ'):CV B n (.ref 615) [.ref dk, .ref st, .str wd] Q E σ:=by
  have K:=b9 hB;have f0:=S.iO;refine bg (by assumption) vV rfl (ar hn rfl) ?_;intro n' hn' hp;walk_at "m";refine cx ‹_› ‹_› rfl (fun _=>rfl) (av rfl rfl f0) ?_;walk_at "m";refine dY rfl rfl rfl rfl rfl rfl rfl (dl rfl (by decide) ?_);refine cK (nu (n:=n') (N:=N) K hB (aq hn' hn rfl) rfl rfl rfl rfl hO h0 hpl hD (wZ (wY hN) (wW rfl)) fun one h1 σ1 D1 F1=> ?_);have hL:Lo≠dk:=fun e=>by rw [e] at hO;exact hD.ne.2 _ hO
  have hO1:=F1 _ _ hO hL;refine cK (nu (n:=n') (N:=N+1) K hB (aq hn' hn rfl) rfl rfl rfl rfl hO1 h0 hpl D1 (wZ (xc (wY hN) _) (wW rfl)) fun other h2 σ2 D2 F2=>⟨_,_,rfl, ?_⟩);have F12:=F1.trans F2;walk_at "m"
  by_cases b1:ff wd ["car","cdr","last","butlast","copy-alist","proper"]=true
  · refine bN ‹_› ‹_› (aC rfl (af rfl) (bD (wW rfl) (aW rfl (ak rfl) (aW rfl (ak rfl) (d6 rfl (ak rfl) (ak rfl) (ak rfl) (ak rfl))))) (.in_ (.s (.c (.c (.c (.c (.c (.c .n))))))))) ?_;refine dN b1 ?_;refine aJ (a9 rfl (by decide) ?_);refine aE ‹_› ‹_› (af rfl) ?_;intro b hb;exact q b _ [one] (by unfold gd;refine ah (if_pos b1) ?_;exact⟨one,h1,rfl⟩) (D2.fresh F12 hb).1 (wq _ _ _) ((D2.set hb).up (xm (Nat.add_lt_add_left (wW rfl) _))) ((D2.fresh F12 hb).2 _)
  refine bN ‹_› ‹_› (by exact aC rfl (af rfl) (bD (wW rfl) (aW rfl (ak rfl) (aW rfl (ak rfl) (d6 rfl (ak rfl) (ak rfl) (ak rfl) (ak rfl))))) (.in_ (.s (.c (.c (.c (.c (.c (.c .n))))))))) ?_
  refine dM b1 ?_;refine aj ?_;refine ay ?_;walk_at "m"
  by_cases b2:ff wd ["nth","nthcdr","take"]=true
  · refine bN ‹_› ‹_› (by exact gr rfl) ?_;refine dN b2 ?_;refine aJ (a9 rfl (by decide) (dl rfl (by decide) ?_));refine aE ‹_› ‹_› (by exact ak rfl) ?_;refine fg (n:=n') (N:=N+2) K hB (by exact aq hn' hn rfl) rfl rfl (by decide) (by decide) D2 (by exact wZ (xc (wY hN) _) (wW rfl)) fun j hj σ3 D3 F3=> ?_;refine aE ‹_› ‹_› (by exact af rfl) ?_;intro b hb;exact q b _ [.num j,one] (by unfold gd;refine ah (if_neg b1) (ah (if_pos b2) ?_);exact⟨j,one,h1,rfl⟩) (D3.fresh (F12.trans F3) hb).1 (wq _ _ _) ((D3.set hb).up (by exact xm (Nat.add_lt_add_left (wW rfl) _))) ((D3.fresh (F12.trans F3) hb).2 _)
  refine bN ‹_› ‹_› (by exact gr rfl) ?_;refine dM b2 ?_;refine aj ?_;refine ay ?_;walk_at "m"
  by_cases b3:(wd==Str.ofString "list")=true
  · refine bN ‹_› ‹_› (by exact bQ rfl) ?_;refine dN b3 ?_;refine aJ (cJ (a9 rfl (by decide) ?_));refine aE ‹_› ‹_› (by exact af rfl) ?_;refine aE ‹_› ‹_› (by exact af rfl) ?_;intro b hb;refine dK (cj rfl (fg (n:=n') (N:=N+2) K hB (by exact aq hn' hn rfl) rfl rfl (by decide) (by decide) (D2.set hb) (by exact wZ (xc (wY hN) _) (wW rfl)) fun j hj σ3 D3 F3=>gf .add ⟨_,rfl, ?_⟩));have g3:=F3 _ _ (wq σ2 b _) (fun e=>by
      refine c6 ?_ D2;clear D2;intro d0 ds i h1 _;rw [e,h1] at hb;exact sn hb)
    have hF:=(D2.fresh F12 hb).2 (.list [one.v,other.v]);refine⟨b,_,([one,other].take (1+j)).map W.v,rfl, .inl g3, ?_,fun c hc=> ?_⟩
    · refine ah List.map_take ?_;exact .take _ (by exact rfl)
    · refine q c _ ([one,other].take (1+j)) ?_ (D3.fresh (hF.trans F3) hc).1 (wq _ _ _) ((D3.set hc).up (by exact xm (Nat.add_lt_add_left (wW rfl) _))) ((D3.fresh (hF.trans F3) hc).2 _);unfold gd;refine ah (if_neg b1) (ah (if_neg b2) (ah (if_pos b3) ?_))
      cases j with
      | zero=>exact .inl ⟨one,h1,rfl⟩
      | succ j=>
        have hj0:j=0:=by exact Nat.le_antisymm (Nat.le_of_lt_succ (Nat.lt_of_succ_lt_succ (((Int.ofNat_lt (m:=2)).mp hj)))) (Nat.le_of_lt_succ (Nat.succ_pos _))
        subst hj0;exact .inr ⟨one,h1,other,h2,rfl⟩
  refine bN ‹_› ‹_› (by exact bQ rfl) ?_;refine dM b3 ?_;refine aj ?_;refine ay ?_;walk_at "m";have fin:∀σ3,Dk σ3 dk (N+3)→dT dk σ σ3→∀b,σ3 b=none→Q (.ref b) (σ3.set b (.list [one.v,other.v])):=by
    intro σ3 D3 F3 b hb;exact q b _ [one,other] (by unfold gd;refine ah (if_neg b1) (ah (if_neg b2) (ah (if_neg b3) ?_));exact .inl ⟨one,h1,other,h2,rfl⟩) (D3.fresh F3 hb).1 (wq _ _ _) ((D3.set hb).up (by exact xe (wW rfl) _)) ((D3.fresh F3 hb).2 _)
  refine dX (kF ?_);refine lE ‹_› ‹_› (by exact aC rfl (af rfl) (bD (wW rfl) (aW rfl (ak rfl) (aW rfl (ak rfl) (aW rfl (ak rfl) (d6 rfl (ak rfl) (ak rfl) (ak rfl) (ak rfl)))))) (.in_ (.s (.c (.c (.c (.c (.c (.c (.c .n)))))))))) ?_
  by_cases b4:ff wd ["memq","member","delq","remq","assq","assoc","rassq"]=true
  · refine dN b4 (cD (fg (n:=n') (N:=N+2) K hB (by exact aq hn' hn rfl) rfl rfl (by decide) (by decide) D2 (by exact wZ (xc (wY hN) _) (wW rfl)) fun j hj σ3 D3 F3=>cj rfl (ef (c:=decide ((j:Int)=0)) (.eq (.a (.i _ _))) ⟨_,rfl, ?_⟩ hp)) rfl)
    by_cases hj0:(j:Int)=0
    · refine dN (by simp [hj0]) ?_;refine aJ (a9 rfl (by decide) (dl rfl (by decide) ?_));refine aE ‹_› ‹_› (by exact ak rfl) ?_;refine cK (fg (n:=n') (N:=N+3) K hB (by exact aq hn' hn rfl) rfl rfl (by decide) (by decide) D3 (by exact wZ (xc (wY hN) _) (wW rfl)) fun j2 hj2 σ4 D4 F4=> ?_);refine aE ‹_› ‹_› (by exact af rfl) ?_;intro b hb;have hF:=(F12.trans F3).trans F4;exact q b _ [.num j2,other] (by unfold gd;refine ah (if_neg b1) (ah (if_neg b2) (ah (if_neg b3) ?_));exact .inr ⟨b4,j2,other,h2,rfl⟩) (D4.fresh hF hb).1 (wq _ _ _) ((D4.set hb).up (by exact wY (xk _))) ((D4.fresh hF hb).2 _)
    · refine dM (by simp;exact fun z=>hj0 (Int.ofNat_inj.mpr z)) (aj ?_);refine ay ?_;walk_at "m";refine aJ (a9 rfl (by decide) ?_);refine aE ‹_› ‹_› (by exact af rfl) ?_;refine aE ‹_› ‹_› (by exact af rfl) ?_;exact fin σ3 D3 (F12.trans F3)
  · refine dM b4 (aj ?_);refine ay ?_;walk_at "m";refine aJ (a9 rfl (by decide) ?_);refine aE ‹_› ‹_› (by exact af rfl) ?_;refine aE ‹_› ‹_› (by exact af rfl) ?_;exact fin σ2 (D2.up (by exact wY (xk _))) F12
end
end
section
noncomputable def dh:List Str:=["cons","cons","list","setcar","setcdr","nconc","delq","remq","memq","member","assq","assoc","rassq","copy-alist","car","cdr","nth","nthcdr","take","last","butlast","proper"]
noncomputable def fN:List Str:=["car","cdr","memq","member","delq","last","nth","proper"]
noncomputable def iw:List Str:=["cons","list","car","cdr","setcar","setcdr","nth","nthcdr","take","last","butlast","nconc","proper"]
noncomputable def iu:List Str:=["setcar","setcdr","nconc"]
noncomputable def o7 (C:St)(b:W)(k:Nat):Prop:=∃M,Cl C M∧Ok M b∧¬M k
structure ri (wd:Str)(xs:List W)(C:St)(ps:List Nat)(f g:Addr):Prop where
  deed:dJ f g wd xs C ps
  tab:fO fG wd=some (.ref f)
  keep:∀{B:Bs} {Pr:Params},B.K=HK Pr→ec B (.ref f)
  which:(ff wd iw=true∧g=563)∨(ff wd iw=false∧g=575)
section
variable {C:St}{ps:List Nat}{pool xs:List W}{wd:Str}
theorem tB (hlt:∀k∈ps,k<C.length){w:W}(h:Ok (·∈ps) w):Ok (·<C.length) w:=h.mono hlt
theorem cI {p:Str→Prop}{a:Str}{l:List Str}(h:p a)(t:∀x∈l,p x):∀x∈a::l,p x:=List.forall_mem_cons.2 ⟨h,t⟩
theorem oX {M:Prop}(hS:gd wd pool xs)(h:ff wd ["car","cdr","last","butlast","copy-alist","proper"]=true)(k:∀a∈pool,xs=[a]→M):M:=by
  rw [gd,if_pos h] at hS;exact hS.elim fun a h=>k a h.1 h.2
theorem sC {M:Prop}(hS:gd wd pool xs)(h:ff wd ["car","cdr","last","butlast","copy-alist","proper"]=false)(h':ff wd ["nth","nthcdr","take"]=true)(k:∀j:Nat,∀a∈pool,xs=[.num j,a]→M):M:=by
  rw [gd,if_neg (by refine ah h ?_;exact Bool.false_ne_true),if_pos h'] at hS;exact hS.elim fun j h=>h.elim fun a h=>k j a h.1 h.2
theorem v0 {M:Prop}(hS:gd wd pool xs)(h:ff wd ["car","cdr","last","butlast","copy-alist","proper"]=false)(h':ff wd ["nth","nthcdr","take"]=false)(h3:(wd==Str.ofString "list")=true)(k:∀a∈pool,xs=[a]→M)(k':∀a∈pool,∀b∈pool,xs=[a,b]→M):M:=by
  rw [gd,if_neg (by refine ah h ?_;exact Bool.false_ne_true),if_neg (by refine ah h' ?_;exact Bool.false_ne_true),if_pos h3] at hS;exact hS.elim (fun h=>h.elim fun a h=>k a h.1 h.2) fun h=>h.elim fun a h=>h.2.elim fun b q=>k' a h.1 b q.1 q.2
theorem mq {M:Prop}(hS:gd wd pool xs)(h:(ff wd ["car","cdr","last","butlast","copy-alist","proper"] || ff wd ["nth","nthcdr","take"] || wd==Str.ofString "list")=false)(k:∀a∈pool,∀b∈pool,xs=[a,b]→M)(k':∀i:Int,∀b∈pool,xs=[.num i,b]→M):M:=by
  rw [Bool.or_eq_false_iff,Bool.or_eq_false_iff] at h;rw [gd,if_neg (by refine ah h.1.1 ?_;exact Bool.false_ne_true),if_neg (by refine ah h.1.2 ?_;exact Bool.false_ne_true),if_neg (by refine ah h.2 ?_;exact Bool.false_ne_true)] at hS;exact hS.elim (fun h=>h.elim fun a h=>h.2.elim fun b q=>k a h.1 b q.1 q.2) fun h=>h.2.elim fun i h=>h.elim fun b q=>k' i b q.1 q.2
theorem nq {M:Prop}(hS:gd wd pool xs)(h:(ff wd ["car","cdr","last","butlast","copy-alist","proper"] || ff wd ["nth","nthcdr","take"] || wd==Str.ofString "list" || ff wd ["memq","member","delq","remq","assq","assoc","rassq"])=false)(k:∀a∈pool,∀b∈pool,xs=[a,b]→M):M:=by
  rw [Bool.or_eq_false_iff] at h;refine mq hS h.1 k ?_;rw [Bool.or_eq_false_iff,Bool.or_eq_false_iff] at h;rw [gd,if_neg (by refine ah h.1.1.1 ?_;exact Bool.false_ne_true),if_neg (by refine ah h.1.1.2 ?_;exact Bool.false_ne_true),if_neg (by refine ah h.1.2 ?_;exact Bool.false_ne_true),h.2] at hS;exact hS.elim (fun h=>h.elim fun a h=>h.2.elim fun b q _ _ _ _=>k a h.1 b q.1 q.2) fun h=>nomatch h.1
theorem d7 (hz:C.length≤24∨wd∈fN)(h:ff wd fN=false):C.length≤24:=hz.elim id fun q=>by
  rw [ff,List.any_eq_false] at h;exact absurd (beq_self_eq_true wd) (h wd q)
noncomputable def RP (C:St)(ps:List Nat)(pool:List W)(wd:Str):Prop:=∀xs,(C.length≤24∨wd∈fN)→gd wd pool xs→(ff wd iu=true→∀a b,xs=[a,b]→∀k,a= .cell k→o7 C b k)→((wd==Str.ofString "nconc")=true→∀a b,xs=[a,b]→∀ks as e,bK C a ks as e→∀k∈ks,o7 C b k)→∃f g,ri wd xs C ps f g
theorem RP.mk (f g:Addr)(ht:fO fG wd=some (.ref f))(hk:∀{B:Bs} {Pr:Params},B.K=HK Pr→ec B (.ref f))(hw:(ff wd iw=true∧g=563)∨(ff wd iw=false∧g=575))
    (h:∀xs,(C.length≤24∨wd∈fN)→gd wd pool xs→(ff wd iu=true→∀a b,xs=[a,b]→∀k,a= .cell k→o7 C b k)→((wd==Str.ofString "nconc")=true→∀a b,xs=[a,b]→∀ks as e,bK C a ks as e→∀k∈ks,o7 C b k)→dJ f g wd xs C ps):RP C ps pool wd:=
  fun xs a b c d=>⟨f,g,h xs a b c d,ht,hk,hw⟩
theorem tj (G:bH C)(hp:Cl C (·∈ps))(hlt:∀k∈ps,k<C.length)(hok:∀w∈pool,Ok (·∈ps) w)(hw:wd∈dh)(hz:C.length≤24∨wd∈fN)(hS:gd wd pool xs)
    (hM:ff wd iu=true→∀a b,xs=[a,b]→∀k,a= .cell k→o7 C b k) (hN:(wd==Str.ofString "nconc")=true→∀a b,xs=[a,b]→∀ks as e,bK C a ks as e→∀k∈ks,o7 C b k):∃f g,ri wd xs C ps f g:=by
  have ok2:∀w∈pool,Ok (·<C.length) w:=fun w h=>tB hlt (hok w h);have okn:∀i,Ok (·<C.length) (.num i):=fun _=>trivial
  suffices H:∀wd∈dh,RP C ps pool wd from H wd hw xs hz hS hM hN
  clear hw hz hS hM hN;refine cI (RP.mk 291 563 rfl (fun hB=>aB hB rfl) (.inl ⟨rfl,rfl⟩) fun xs hz hS hM hN=> ?_) ?_
  · have h24:=d7 hz rfl;exact nq hS rfl fun a ha b hb e=>e▸jU G h24 hp hlt (ok2 a ha) (ok2 b hb)
  refine cI (RP.mk 291 563 rfl (fun hB=>aB hB rfl) (.inl ⟨rfl,rfl⟩) fun xs hz hS hM hN=> ?_) ?_
  · have h24:=d7 hz rfl;exact nq hS rfl fun a ha b hb e=>e▸jU G h24 hp hlt (ok2 a ha) (ok2 b hb)
  refine cI (RP.mk 298 563 rfl (fun hB=>aB hB rfl) (.inl ⟨rfl,rfl⟩) fun xs hz hS hM hN=> ?_) ?_
  · have h24:=d7 hz rfl;exact v0 hS rfl rfl rfl (fun a ha e=>e▸jW G h24 hp hlt (List.forall_mem_singleton.2 (ok2 a ha)) (wW rfl)) fun a ha b hb e=>e▸jW G h24 hp hlt (List.forall_mem_cons.2 ⟨ok2 a ha,List.forall_mem_singleton.2 (ok2 b hb)⟩) (wW rfl)
  refine cI (RP.mk 305 563 rfl (fun hB=>aB hB rfl) (.inl ⟨rfl,rfl⟩) fun xs hz hS hM hN=> ?_) ?_
  · have h24:=d7 hz rfl;exact nq hS rfl fun a ha b hb e=>e▸lR G h24 hp (ok2 a ha) (ok2 b hb) (hok b hb) (hM rfl a b e)
  refine cI (RP.mk 312 563 rfl (fun hB=>aB hB rfl) (.inl ⟨rfl,rfl⟩) fun xs hz hS hM hN=> ?_) ?_
  · have h24:=d7 hz rfl;exact nq hS rfl fun a ha b hb e=>e▸lS G h24 hp (ok2 a ha) (ok2 b hb) (hok b hb) (hM rfl a b e)
  refine cI (RP.mk 422 563 rfl (fun hB=>aB hB rfl) (.inl ⟨rfl,rfl⟩) fun xs hz hS hM hN=> ?_) ?_
  · have h24:=d7 hz rfl;exact nq hS rfl fun a ha b hb e=>e▸mW G h24 hp (ok2 a ha) (ok2 b hb) (hok b hb) (hN rfl a b e)
  refine cI (RP.mk 457 575 rfl (fun hB=>aB hB rfl) (.inr ⟨rfl,rfl⟩) fun xs hz hS hM hN=> ?_) ?_
  · exact mq hS rfl (fun a ha b hb e=>e▸jV G hp (ok2 a ha) (ok2 b hb)) fun i b hb e=>e▸jV G hp (okn i) (ok2 b hb)
  refine cI (RP.mk 462 575 rfl (fun hB=>aB hB rfl) (.inr ⟨rfl,rfl⟩) fun xs hz hS hM hN=> ?_) ?_
  · have h24:=d7 hz rfl;exact mq hS rfl (fun a ha b hb e=>e▸jY G h24 hp hlt (ok2 a ha) (ok2 b hb)) fun i b hb e=>e▸jY G h24 hp hlt (okn i) (ok2 b hb)
  refine cI (RP.mk 429 575 rfl (fun hB=>aB hB rfl) (.inr ⟨rfl,rfl⟩) fun xs hz hS hM hN=> ?_) ?_
  · exact mq hS rfl (fun a ha b hb e=>e▸jX G hp (ok2 a ha) (ok2 b hb)) fun i b hb e=>e▸jX G hp (okn i) (ok2 b hb)
  refine cI (RP.mk 436 575 rfl (fun hB=>aB hB rfl) (.inr ⟨rfl,rfl⟩) fun xs hz hS hM hN=> ?_) ?_
  · exact mq hS rfl (fun a ha b hb e=>e▸ig G hp (ok2 a ha) (ok2 b hb)) fun i b hb e=>e▸ig G hp (okn i) (ok2 b hb)
  refine cI (RP.mk 476 575 rfl (fun hB=>aB hB rfl) (.inr ⟨rfl,rfl⟩) fun xs hz hS hM hN=> ?_) ?_
  · have h24:=d7 hz rfl;exact mq hS rfl (fun a ha b hb e=>e▸jT G h24 hp (ok2 a ha) (ok2 b hb)) fun i b hb e=>e▸jT G h24 hp (okn i) (ok2 b hb)
  refine cI (RP.mk 483 575 rfl (fun hB=>aB hB rfl) (.inr ⟨rfl,rfl⟩) fun xs hz hS hM hN=> ?_) ?_
  · have h24:=d7 hz rfl;exact mq hS rfl (fun a ha b hb e=>e▸jf G h24 hp (ok2 a ha) (ok2 b hb)) fun i b hb e=>e▸jf G h24 hp (okn i) (ok2 b hb)
  refine cI (RP.mk 490 575 rfl (fun hB=>aB hB rfl) (.inr ⟨rfl,rfl⟩) fun xs hz hS hM hN=> ?_) ?_
  · have h24:=d7 hz rfl;exact mq hS rfl (fun a ha b hb e=>e▸jg G h24 hp (ok2 a ha) (ok2 b hb)) fun i b hb e=>e▸jg G h24 hp (okn i) (ok2 b hb)
  refine cI (RP.mk 495 575 rfl (fun hB=>aB hB rfl) (.inr ⟨rfl,rfl⟩) fun xs hz hS hM hN=> ?_) ?_
  · have h24:=d7 hz rfl;exact oX hS rfl fun a ha e=>e▸on G h24 hp hlt (ok2 a ha)
  refine cI (RP.mk 277 563 rfl (fun hB=>aB hB rfl) (.inl ⟨rfl,rfl⟩) fun xs hz hS hM hN=> ?_) ?_
  · exact oX hS rfl fun a ha e=>e▸pG G hp (ok2 a ha)
  refine cI (RP.mk 284 563 rfl (fun hB=>aB hB rfl) (.inl ⟨rfl,rfl⟩) fun xs hz hS hM hN=> ?_) ?_
  · exact oX hS rfl fun a ha e=>e▸pH G hp (ok2 a ha)
  refine cI (RP.mk 387 563 rfl (fun hB=>aB hB rfl) (.inl ⟨rfl,rfl⟩) fun xs hz hS hM hN=> ?_) ?_
  · exact sC hS rfl rfl fun j a ha e=>e▸pI G hp (ok2 a ha)
  refine cI (RP.mk 380 563 rfl (fun hB=>aB hB rfl) (.inl ⟨rfl,rfl⟩) fun xs hz hS hM hN=> ?_) ?_
  · have h24:=d7 hz rfl;exact sC hS rfl rfl fun j a ha e=>e▸lP G hp (ok2 a ha)
  refine cI (RP.mk 394 563 rfl (fun hB=>aB hB rfl) (.inl ⟨rfl,rfl⟩) fun xs hz hS hM hN=> ?_) ?_
  · have h24:=d7 hz rfl;exact sC hS rfl rfl fun j a ha e=>e▸oz G h24 hp hlt (ok2 a ha)
  refine cI (RP.mk 401 563 rfl (fun hB=>aB hB rfl) (.inl ⟨rfl,rfl⟩) fun xs hz hS hM hN=> ?_) ?_
  · exact oX hS rfl fun a ha e=>e▸oq G hp (ok2 a ha)
  refine cI (RP.mk 408 563 rfl (fun hB=>aB hB rfl) (.inl ⟨rfl,rfl⟩) fun xs hz hS hM hN=> ?_) ?_
  · have h24:=d7 hz rfl;exact oX hS rfl fun a ha e=>e▸kN G h24 hp hlt (ok2 a ha)
  refine cI (RP.mk 319 563 rfl (fun hB=>aB hB rfl) (.inl ⟨rfl,rfl⟩) fun xs hz hS hM hN=> ?_) ?_
  · exact oX hS rfl fun a ha e=>e▸lQ G hp (ok2 a ha)
  exact fun _ h=>nomatch h
end
end
section
structure sS (C:St)(ps:List Nat)(pool:List W):Prop where
  good:bH C
  nd:ps.Nodup
  lt:∀k∈ps,k<C.length
  pcl:Cl C (·∈ps)
  pok:∀w∈pool,Ok (·∈ps) w
  p3:3≤pool.length
structure Hp (σ:AH)(st Lc Lp Lo dk:Addr)(ls:List Addr)(C:St)(P:Nat→Addr)(ps:List Nat)(pool:List W)(N:Nat):Prop where
  cs:CS σ st Lc Lp Lo ls C
  pr:σ Lp=some (.idict (gA P ps))
  pl:σ Lo=some (.list (pool.map W.v))
  dk:Dk σ dk N
section
variable {B:Bs}{Pr:Params}{n:Nat}{Q:V→AH→Prop}{E:Str→AH→Prop}{σ σ':AH}{st Lc Lp Lo dk:Addr}{ls ls':List Addr}{C C':St}{P P':Nat→Addr}{ps:List Nat}{pool:List W}{wd:Str}{N N':Nat}{m:ax}{rest:List Stmt}
theorem gh {s:Stmt}{I:ax→AH→Prop}{Q:cM→ax→AH→Prop}(h:SV B n m s (fun fl m' σ'=>fl= .next∧I m' σ') E σ)(k:∀m' σ',I m' σ'→bu B n m' rest Q E σ'):bu B n m (s::rest) Q E σ:=
  ao (h.mono fun f m σ h=>by
    refine uA ?_ h;clear h;rintro rfl h2;exact k _ _ h2)
theorem nM {pool:List W}{i:Int}:V.int i∉pool.map W.v:=fun h=>by
  refine aY ?_ (List.mem_map.mp h);intro w _ hw
  cases w<;>cases hw
theorem Hp.dkNe (H:Hp σ st Lc Lp Lo dk ls C P ps pool N):dk≠Lc∧dk∉ls∧dk≠st∧dk≠Lp∧dk≠Lo:=by
  have h0:=H.dk.ne;refine c6 ?_ H.dk;intro d0 ds i h1 _;refine dc ?_ (H.cs.notL h1 (i:=i) (by simp));intro a b c;exact⟨a,b,c,fun e=>(by rw [e,H.pr] at h1;cases h1),fun e=>h0.2 pool (by refine ah e ?_;exact H.pl)⟩
theorem CS.mv (S:CS σ st Lc Lp Lo ls C)(h:∀a o,σ a=some o→(a=st∨a=Lc∨a∈ls)→σ' a=some o):CS σ' st Lc Lp Lo ls C:=
  ⟨h _ _ S.st (.inl rfl),h _ _ S.cells (.inr (.inl rfl)),S.len,fun k a d e=>let ⟨b,h1,h2⟩:=S.at_ k a d e;⟨b,h1,h _ _ h2 (.inr (.inr (List.mem_of_getElem? h1)))⟩,S.nd⟩
theorem Hp.frDk (H:Hp σ st Lc Lp Lo dk ls C P ps pool N)(F:dT dk σ σ')(D:Dk σ' dk N'):Hp σ' st Lc Lp Lo dk ls C P ps pool N':=by
  refine cf ?_ H.dkNe;intro a b c d e;refine⟨H.cs.mv fun x o hx hh=>F x o hx ?_,F _ _ H.pr d.symm,F _ _ H.pl e.symm,D⟩
  rcases hh with rfl | rfl | hh
  · exact c.symm
  · exact a.symm
  · exact fun e=>b (e▸hh)
theorem Lk.frDk (L:Lk σ C (·<C.length) P)(D:Dk σ dk N)(F:dT dk σ σ'):Lk σ' C (·<C.length) P:=by
  refine c6 ?_ D;clear D;intro d0 ds i h1 _;refine⟨F _ _ L.nil fun e=>(by rw [←e,L.nil] at h1;cases h1),fun k hk=> ?_,L.inj⟩;refine bk ?_ (L.at_ k hk);intro a d h2 h3 h4 h5;exact⟨a,d,h2,h3,h4,F _ _ h5 fun e=>(by rw [←e,h5] at h1;cases h1)⟩
theorem Hp.kp (H:Hp σ st Lc Lp Lo dk ls C P ps pool N)(k:Kp σ σ'):Hp σ' st Lc Lp Lo dk ls C P ps pool N:=by
  refine⟨H.cs.mv fun x o hx hh=>k x o hx ?_,k _ _ H.pr rfl,k _ _ H.pl rfl,H.dk.frame fun a xs i e _=>k _ _ e rfl⟩
  rcases hh with rfl | rfl | hh
  · rw [H.cs.st] at hx;(refine sj ?_ hx;clear hx;intro e1;subst e1);rfl
  · rw [H.cs.cells] at hx;(refine sj ?_ hx;clear hx;intro e1;subst e1);rfl
  · refine eu ?_ (List.getElem_of_mem hh);rintro j hj rfl;have hj':j<C.length:=by refine ch H.cs.len ?_;exact hj
    refine aY ?_ (H.cs.at_ j (C[j]).1 (C[j]).2 (w7 hj'));intro b h1 h2;rw [w7 hj] at h1
    (refine sj ?_ h1;clear h1;intro e1;subst e1)
    rw [h2] at hx;(refine sj ?_ hx;clear hx;intro e1;subst e1);rfl
theorem Hp.le (H:Hp σ st Lc Lp Lo dk ls C P ps pool N)(k:aH σ σ'):Hp σ' st Lc Lp Lo dk ls C P ps pool N:=H.kp (Kp.of k)
theorem Hp.pOf (H:Hp σ st Lc Lp Lo dk ls C P ps pool N)(hlt:∀k∈ps,k<C.length)(h:∀k,k<C.length→P' k=P k):Hp σ st Lc Lp Lo dk ls C P' ps pool N:=
  ⟨H.cs,by
    refine ah H.pr ?_;have:gA P ps=gA P' ps:=by
      exact List.map_congr_left fun k hk=>by exact ah (h k (hlt k hk)) rfl
    exact ah this rfl,H.pl,H.dk⟩
theorem CS.lsObj (S:CS σ st Lc Lp Lo ls C){b:Addr}(h:b∈ls):∃x y:W,σ b=some (.list [x.v,y.v]):=by
  refine eu ?_ (List.getElem_of_mem h);rintro j hj rfl;have hj':j<C.length:=by refine ch S.len ?_;exact hj
  refine aY ?_ (S.at_ j (C[j]).1 (C[j]).2 (w7 hj'));intro b h1 h2;rw [w7 hj] at h1
  (refine sj ?_ h1;clear h1;intro e1;subst e1)
  exact⟨_,_,h2⟩
theorem Hp.out (H:Hp σ st Lc Lp Lo dk ls C P ps pool N)(p3:3≤pool.length):Lo≠Lc∧Lo∉ls∧Lp≠Lc∧Lp∉ls∧Lo≠st∧Lp≠Lo∧Lp≠st:=by
  refine⟨fun e=> ?_,fun e=> ?_,fun e=> ?_,fun e=> ?_,fun e=> ?_,fun e=> ?_,fun e=> ?_⟩
  · have:=H.pl;rw [e,H.cs.cells] at this
    cases pool with
    | nil=>simp at p3
    | cons w pool=>
      cases ls with
      | nil=>cases this
      | cons l ls=>
        have:=(List.cons.inj (bL.list.inj (xg this))).1
        cases w<;>cases this
  · refine eu ?_ (H.cs.lsObj e);intro x y h;rw [H.pl] at h;have:=congrArg List.length (bL.list.inj (xg h));simp at this;lia
  · have:=H.pr;rw [e,H.cs.cells] at this
    cases this
  · refine eu ?_ (H.cs.lsObj e);intro x y h;rw [H.pr] at h
    cases h
  · have:=H.pl;rw [e,H.cs.st] at this
    cases this
  · have:=H.pr;rw [e,H.pl] at this
    cases this
  · have:=H.pr;rw [e,H.cs.st] at this
    cases this
theorem Hp.step (H:Hp σ st Lc Lp Lo dk ls C P ps pool N)(p3:3≤pool.length)(x:aU σ st Lc Lp Lo ls C σ' ls' C'):Hp σ' st Lc Lp Lo dk ls' C' P ps pool N:=by
  refine cf ?_ (H.out p3);intro h1 h2 h3 h4 _;exact⟨x.cs,x.fr _ _ H.pr h3 h4,x.fr _ _ H.pl h1 h2,H.dk.step H.cs x⟩
theorem Lk.step {D:Nat→Prop}(L:Lk σ C' D P)(S:CS σ st Lc Lp Lo ls C)(x:aU σ st Lc Lp Lo ls C σ' ls' C'):Lk σ' C' D P:=by
  have key:∀a o,σ a=some o→(∀xs,o≠ .list xs)→σ' a=some o:=fun a o h hl=>x.fr a o h (fun e=>by rw [e,S.cells] at h;(refine sj ?_ h;clear h;intro e1;subst e1);exact hl _ rfl) fun e=>by
    refine eu ?_ (S.lsObj e);intro x y h';rw [h] at h';exact hl _ (xg h')
  refine⟨key _ _ L.nil fun _ q=>(by cases q),fun k hk=> ?_,L.inj⟩;refine bk ?_ (L.at_ k hk);intro a d h2 h3 h4 h5;exact⟨a,d,h2,h3,h4,key _ _ h5 fun _ q=>(by cases q)⟩
theorem Hp.frLp {ps':List Nat}(H:Hp σ st Lc Lp Lo dk ls C P ps pool N)(p3:3≤pool.length)(F:dT Lp σ σ')(h:σ' Lp=some (.idict (gA P ps'))):Hp σ' st Lc Lp Lo dk ls C P ps' pool N:=by
  refine iQ ?_ (H.out p3);intro h1 h2 h3 h4 h5 h6 h7;refine⟨H.cs.frX H.pr F,h,F _ _ H.pl h6.symm,H.dk.frame fun a xs i e _=>F _ _ e fun q=> ?_⟩;rw [q,H.pr] at e;cases e
end
end
section
section
variable {B:Bs}{Pr:Params}{n:Nat}{Q:V→AH→Prop}{E:Str→AH→Prop}{σ σ':AH}{st Lc Lp Lo dk:Addr}{ls ls':List Addr}{C C':St}{P P':Nat→Addr}{ps:List Nat}{pool:List W}{wd:Str}{N N':Nat}{m:ax}{rest:List Stmt}
theorem Hp.up (H:Hp σ st Lc Lp Lo dk ls C P ps pool N)(h:N≤N'):Hp σ st Lc Lp Lo dk ls C P ps pool N':=⟨H.cs,H.pr,H.pl,H.dk.up h⟩
theorem Hp.push (H:Hp σ st Lc Lp Lo dk ls C P ps pool N)(p3:3≤pool.length)(w:W):Hp (σ.set Lo (.list ((pool++[w]).map W.v))) st Lc Lp Lo dk ls C P ps (pool++[w]) N:=by
  refine iQ ?_ (H.out p3);intro h1 h2 h3 h4 h5 h6 h7;refine⟨H.cs.mv fun x o hx hh=>(wp ?_).trans hx,(wp h6).trans H.pr,wq _ _ _,H.dk.frame fun a xs i e hi=>(wp fun q=> ?_).trans e⟩
  · rcases hh with rfl | rfl | hh
    · exact h5.symm
    · exact h1.symm
    · exact fun e=>h2 (e▸hh)
  · rw [q,H.pl] at e
    (refine tC ?_ e;clear e;intro e1;subst e1)
    exact nM hi
theorem Lk.setL {D:Nat→Prop}{a:Addr}{xs ys:List V}(L:Lk σ C D P)(h:σ a=some (.list xs)):Lk (σ.set a (.list ys)) C D P:=by
  refine⟨(wp fun e=> ?_).trans L.nil,fun k hk=> ?_,L.inj⟩
  · have:=L.nil;rw [e,h] at this;cases this
  · refine bk ?_ (L.at_ k hk);intro x d h2 h3 h4 h5;refine⟨x,d,h2,h3,h4,(wp fun e=> ?_).trans h5⟩;rw [e,h] at h5;cases h5
theorem nv {L:List Str}{wl:Addr}{r:Int}{value slice:Expr}(g:σ wl=some (.list (L.map V.str)))(h1:0≤r)(h2:r<L.length)(hs:∀o i,subscripted slice false o i=operate [o,i] (getItem o i))(q:∀wd∈L,Q (.str wd) σ):P2 B n (subscriptTail value slice) (.ref wl) (.int r) Q E σ:=by
  obtain ⟨k,rfl⟩:∃k:Nat,r=k:=⟨r.toNat,Eq.symm (Int.toNat_of_nonneg h1)⟩;have hk:k<L.length:=(Int.ofNat_lt.mp h2);refine dW (r:= .str L[k]) ?_ hs (q _ (List.getElem_mem hk));exact .nat g (by refine ah List.getElem?_map (ah (w7 hk) ?_);rfl)
theorem fJ {wd:Str}{l:List Str}(h:ff wd l=true):wd∈l:=(List.any_eq_true.1 h).elim fun y q=>beq_iff_eq.1 q.2▸q.1
theorem q7 {wd:Str}{pool xs:List W}(h:ff wd iu=true)(hS:gd wd pool xs):∃a∈pool,∃b∈pool,xs=[a,b]:=
  have H:∀wd∈iu,(ff wd ["car","cdr","last","butlast","copy-alist","proper"] || ff wd ["nth","nthcdr","take"] || wd==Str.ofString "list" || ff wd ["memq","member","delq","remq","assq","assoc","rassq"])=false:=cI rfl (cI rfl (cI rfl fun _ h=>nomatch h))
  nq hS (H wd (fJ h)) fun a ha b hb e=>⟨a,ha,b,hb,e⟩
theorem jC {pool:List W}{a:W}(ha:a∈pool):gd (Str.ofString "proper") pool [a]:=by
  rewrite [gd];refine ah (if_pos (show ff (Str.ofString "proper") ["car","cdr","last","butlast","copy-alist","proper"]=true from rfl)) ?_;exact⟨a,ha,rfl⟩
theorem pL {wd:Str}(h:wd∈fN):wd∈dh:=by
  have H:∀w∈fN,ff w dh=true:=cI rfl (cI rfl (cI rfl (cI rfl (cI rfl (cI rfl (cI rfl (cI rfl fun _ h=>nomatch h)))))));exact fJ (H wd h)
theorem kg {ks:List Nat}{e:W}(he:e.isCell=false){j k:Nat}(h:aI ks e j= .cell k):ks[j]?=some k:=by
  unfold aI at h
  split at h
  · rename_i k' hk
    cases h
    exact hk
  · rw [h] at he;exact tf he
theorem bK.fun_pos {w e e':W}{ks ks':List Nat}{as as':List W}(h:bK C w ks as e)(h':bK C w ks' as' e'):∀j,aI ks e j=aI ks' e' j
  | 0=>by exact h.zero.trans h'.zero.symm
  | j+1=>by
    have ih:=h.fun_pos h' j
    by_cases hj:j<ks.length
    · rw [aQ hj] at ih;have h2:=kg h'.stop ih.symm;refine uE ?_ (List.getElem?_eq_some_iff.mp h2);intro hj' e2;refine uE ?_ (h.at hj);intro _ c1;refine uE ?_ (h'.at hj');intro _ c2;rw [e2,c1] at c2
      exact(Prod.mk.inj (xg c2)).2
    · have e1:aI ks e j=e:=aP ((w8 hj));have hj':¬j<ks'.length:=fun hj'=>by
        rw [e1,aQ hj'] at ih;have:=h.stop;rw [ih] at this;exact tf this
      exact ah (aP (wV ((w8 hj)) (w9 _ _))) (ah (aP (show ks'.length≤j+1 by exact wV ((w8 hj')) (w9 _ _))) (ch e1 (ah ih (ah (aP ((w8 hj'))) rfl))))
theorem bK.fun_mem {w e e':W}{ks ks':List Nat}{as as':List W}(h:bK C w ks as e)(h':bK C w ks' as' e'){k:Nat}(hk:k∈ks'):k∈ks:=by
  refine eu ?_ (List.getElem_of_mem hk);rintro j hj rfl;have:=h.fun_pos h' j;rw [aQ hj] at this;exact List.mem_of_getElem? (kg h.stop this)
theorem gd.ok {xs:List W}{D:Nat→Prop}(h:gd wd pool xs)(hok:∀w∈pool,Ok D w):∀w∈xs,Ok D w:=by
  unfold gd at h
  split at h
  · refine aY ?_ h;clear h;rintro a ha rfl;intro w hw;simp at hw;subst hw;exact hok _ ha
  · split at h
    · refine fD ?_ h;clear h;rintro j a ha rfl;intro w hw;simp at hw
      rcases hw with rfl | rfl
      · trivial
      · exact hok _ ha
    · split at h
      · rcases h with⟨a,ha,rfl⟩ | ⟨a,ha,b,hb,rfl⟩
        · intro w hw;simp at hw;subst hw;exact hok _ ha
        · intro w hw;simp at hw
          rcases hw with rfl | rfl
          · exact hok _ ha
          · exact hok _ hb
      · rcases h with⟨a,ha,b,hb,rfl⟩ | ⟨_,i,b,hb,rfl⟩
        · intro w hw;simp at hw
          rcases hw with rfl | rfl
          · exact hok _ ha
          · exact hok _ hb
        · intro w hw;simp at hw
          rcases hw with rfl | rfl
          · trivial
          · exact hok _ hb
theorem gd.len {xs:List W}(h:gd wd pool xs):xs.length≤2:=by
  unfold gd at h
  split at h
  · refine aY ?_ h;clear h;rintro a ha rfl;simp
  · split at h
    · refine fD ?_ h;clear h;rintro j a ha rfl;simp
    · split at h
      · rcases h with⟨a,ha,rfl⟩ | ⟨a,ha,b,hb,rfl⟩<;>simp
      · rcases h with⟨a,ha,b,hb,rfl⟩ | ⟨_,i,b,hb,rfl⟩<;>simp
set_option maxHeartbeats 1000000 in
noncomputable def i6:ax:=[("deck", .loc none),("state", .cel none),("words", .loc none),("word", .loc none),("args", .cel none),("told_here", .loc none),("simple", .loc none),("due", .loc none),("_law_draw", .glob (.ref 507)),("len", .glob (.bi "len")),("_law_args", .glob (.ref 615)),("_law_reaches", .glob (.ref 582)),("_law_chain", .glob (.ref 521)),("_law_deed", .glob (.ref 608)),("_law_simple", .glob (.ref 563)),("_law_sought", .glob (.ref 575)),("_law_holds", .glob (.ref 594)),("_law_is_same", .glob (.ref 587))]
theorem i8 (hB:B.K=HK Pr)(hn:200≤n)(U:sS C ps pool)(H:Hp σ st Lc Lp Lo dk ls C P ps pool N)(L:Lk σ C (·<C.length) P)(hN:N<800000)(hpz:pool.length≤900)
    (q:∀σ' ls' C' P' ps' pool',sS C' ps' pool'→Hp σ' st Lc Lp Lo dk ls' C' P' ps' pool' (N+10)→Lk σ' C' (·<C'.length) P'→pool'.length≤pool.length+1→Q (.bool true) σ'):CV B n (.ref 620) [.ref dk, .ref st] Q E σ:=by
  have K:=b9 hB;have hGl:=U.good.len;refine bm (by assumption) vW rfl (ar hn rfl) ?_;intro n' hn' hp;walk_at "m";refine bE ?_ ?_ ?_
  · rfl
  · exact fun _=>rfl
  refine a9 ?_ ?_ ?_
  · rfl
  · simp
  refine fh ?_ ?_ ?_
  · exact K
  · exact hp
  refine lZ.mk (aW rfl (ak rfl) (aW rfl (ak rfl) (aW rfl (ak rfl) (aW rfl (ak rfl) (aW rfl (ak rfl) (aW rfl (ak rfl) (aW rfl (ak rfl) (aW rfl (ak rfl) (aW rfl (ak rfl) (aW rfl (ak rfl) (aW rfl (ak rfl) (aW rfl (ak rfl) (aW rfl (ak rfl) (aW rfl (ak rfl) (aW rfl (ak rfl) (aW rfl (ak rfl) (aW rfl (ak rfl) (aW rfl (ak rfl) (d6 rfl (ak rfl) (ak rfl) (ak rfl) (ak rfl)))))))))))))))))))) ?_;intro wl hwl;walk_at "m";have g1:(σ.set wl (.list (dh.map V.str))) wl=some (.list (dh.map V.str)):=wq _ _ _;refine uA ?_ (H.dk.fresh (dT.refl dk σ) hwl);intro _ F1;have F1:=F1 (.list (dh.map V.str));have D1:=H.dk.set (o:= .list (dh.map V.str)) hwl
  refine(?_:bu B n' _ _ _ _ (σ.set wl (.list (dh.map V.str))))
  generalize σ.set wl (.list (dh.map V.str))=σ1 at*;have f1:nw σ1 (.ref wl) (22:Int):= .l' g1 (by rfl);have hwd:wl≠dk:=fun e=>by
    refine c6 ?_ H.dk;intro d0 ds i h1 _;rw [e,h1] at hwl;exact sn hwl
  refine bE rfl (fun _=>rfl) (bM ?_);refine aE ‹_› ‹_› (by exact af rfl) ?_;refine cr ‹_› ‹_› .n (by exact af rfl) (by exact aD rfl (af rfl) (bh .n (af rfl) (aA rfl (af rfl)) (.len f1))) (aB ‹_› rfl) ?_;refine eO hB (by exact aq hn' hn rfl) D1 (by exact wZ (wY hN) (wW rfl)) (by decide) (by decide) fun r σ2 h1 h2 D2 F2=>nv (F2 _ _ g1 hwd) h1 h2 (fun _ _=>rfl) fun wd0 hw0=> ?_;have F12:=F1.trans F2;have H2:=H.frDk F12 D2;walk_at "m";have f2:=H2.cs.iC;have f3:=H2.cs.lenF;refine gh (I:=fun m' σ'=>∃wd,m'=(bp i6 [(some (.ref dk)),(some (.ref st)),(some (.ref wl)),(some (.str wd))])∧wd∈dh∧(C.length≤24∨wd∈fN)∧dT dk σ σ'∧Dk σ' dk (N+2)) (ew (dZ K hp ?_)) ?_
  · refine kE.mk (aC rfl (bh .n (af rfl) (aA rfl (av rfl rfl f2)) (.len f3)) (ak rfl) .gt) ?_;refine⟨_,rfl, ?_⟩
    by_cases hz:C.length≤24
    · refine dM (by simp;exact Int.ofNat_le.mpr hz) (aj ⟨rfl,wd0,rfl,hw0, .inl hz,F12,D2.up (by exact xe (wW rfl) _)⟩)
    · refine dN (by simp;exact Int.ofNat_lt.mpr ((xq hz))) ?_;refine bE ?_ ?_ ?_
      · rfl
      · exact fun _=>rfl
      refine bM ?_;refine a9 ?_ ?_ ?_
      · rfl
      · simp
      refine fh ?_ ?_ ?_
      · exact K
      · exact hp
      refine lZ.mk (aW rfl (ak rfl) (aW rfl (ak rfl) (aW rfl (ak rfl) (aW rfl (ak rfl) (d6 rfl (ak rfl) (ak rfl) (ak rfl) (ak rfl)))))) ?_;intro fl hfl;have g2:(σ2.set fl (.list (fN.map V.str))) fl=some (.list (fN.map V.str)):=wq _ _ _;refine uA ?_ (D2.fresh F12 hfl);intro _ F3;have F3:=F3 (.list (fN.map V.str));have D3:=D2.set (o:= .list (fN.map V.str)) hfl;have hfd:fl≠dk:=fun e=>by
        refine c6 ?_ D2;clear D2;intro d0 ds i h1 _;rw [e,h1] at hfl;exact sn hfl
      refine(?_:EV B n' _ _ _ _ (σ2.set fl (.list (fN.map V.str))))
      generalize σ2.set fl (.list (fN.map V.str))=σ3 at*;refine fg (N:=N+1) K hB (by exact aq hn' hn rfl) rfl rfl (by decide) (by decide) D3 (by exact wZ (xc (wY hN) _) (wW rfl)) fun j hj σ4 D4 F4=>nv (F4 _ _ g2 hfd) (by exact Int.natCast_nonneg _) hj (fun _ _=>rfl) fun wd1 hw1=>aj ?_;refine⟨rfl,wd1, ?_,pL hw1, .inr hw1,F3.trans F4,D4⟩;rfl
  intro m' σ3;refine bP ?_;rintro wd rfl hw hz F3 D3;have H3:=H.frDk F3 D3;refine kD ‹_› ‹_› rfl .n (by exact af rfl) (by exact bG rfl (af rfl) (af rfl) (af rfl)) (aB ‹_› rfl) ?_;refine mN hB (by exact aq hn' hn rfl) H3.cs H3.pl (by have:=U.p3;exact ar this rfl) (by exact wV hpz (wW rfl)) D3 (by exact wZ (xc (wY hN) _) (wW rfl)) fun al σ4 xs hS hal ga D4 F4=> ?_;have F34:=F3.trans F4;have H4:=H.frDk F34 D4;have L4:=L.frDk H.dk F34;have hals:∀b∈ls,b≠al:=fun b hb e=>by rw [e] at hb;exact(H3.cs.ne hb).2.2 hal
  clear D3 H3 F3 F4 hal D4 F34 H2 F12 f2 f3 D2 F2 D1 F1 g1 f1;walk_at "m";refine gh (I:=fun m' σ'=>∃wd al xs,m'=(bp i6 [(some (.ref dk)),(some (.ref st)),(some (.ref wl)),(some (.str wd)),(some (.ref al))])∧wd∈dh∧(C.length≤24∨wd∈fN)∧gd wd pool xs∧σ' al=some (.list (xs.map W.v))∧aH σ4 σ'∧(∀b∈ls,b≠al)∧(ff wd iu=true→∀a b,xs=[a,b]→∀k,a= .cell k→o7 C b k)) (ew (kF (dZ K hp ?_))) ?_
  · refine kE.mk (gr rfl) ?_;refine⟨_,rfl, ?_⟩
    by_cases b1:ff wd iu=true
    · have hab:∃a∈pool,∃b∈pool,xs=[a,b]:=by
        exact q7 b1 hS
      refine aY ?_ hab;clear hab;intro a ha;refine aY ?_;rintro b hb rfl;have i0:=aT ga;have i1:=bV ga;refine dN b1 ?_;refine n9 ‹_› ‹_› .n (by exact af rfl) (by exact bG rfl (af rfl) (av rfl rfl i1) (av rfl rfl i0)) (aB ‹_› rfl) ?_;refine fP hB (by exact aq hn' hn rfl) H4.cs U.good.cl (tB U.lt (U.pok b hb)) (by exact wV hGl (wW rfl)) fun r hr=>⟨_,rfl, ?_⟩
      cases r with
      | true=>
        refine cx ‹_› ‹_› rfl (fun _=>rfl) (by exact ak rfl) ?_;walk_at "m";refine bE rfl (fun _=>rfl) (cJ ?_);refine aE ‹_› ‹_› (by exact af rfl) ?_;refine aE ‹_› ‹_› (by exact ak rfl) ?_;refine⟨1,rfl,al,_,[a.v],rfl, .inl ga, .take 1 rfl,fun al' hal'=>aj ⟨rfl,"proper",al',[a], ?_, ?_, ?_, ?_,wq _ _ _,aH.set hal', ?_, ?_⟩⟩
        · rfl
        · exact fJ rfl
        · exact .inr (fJ rfl)
        · exact jC ha
        · exact fun b hb e=>(H4.cs.ne hb).2.2 (by refine ah e ?_;exact hal')
        · intro h;exact absurd (show false=true from h) Bool.false_ne_true
      | false=>exact aj ⟨rfl,wd,al,[a,b],rfl,hw,hz,hS,ga,aH.refl _,hals,fun _ a' b' e k hk=>by cases e;exact hr rfl k hk⟩
    · refine dM b1 (aj ⟨rfl,wd,al,xs,rfl,hw,hz,hS,ga,aH.refl _,hals,fun h=>absurd h b1⟩)
  intro m' σ5;refine bJ ?_;rintro wd al xs rfl hw hz;refine cf ?_;intro hS ga hle5 hals hM;have H5:=H4.le hle5;have L5:=L4.le hle5;clear H4 L4 hle5;refine gh (I:=fun m' σ'=>∃wd al xs,m'=(bp i6 [(some (.ref dk)),(some (.ref st)),(some (.ref wl)),(some (.str wd)),(some (.ref al))])∧wd∈dh∧(C.length≤24∨wd∈fN)∧gd wd pool xs∧σ' al=some (.list (xs.map W.v))∧aH σ5 σ'∧(∀b∈ls,b≠al)∧(ff wd iu=true→∀a b,xs=[a,b]→∀k,a= .cell k→o7 C b k)∧((wd==Str.ofString "nconc")=true→∀a b,xs=[a,b]→∀ks as e,bK C a ks as e→∀k∈ks,o7 C b k)) (ew (kF (dZ K hp ?_))) ?_
  · refine kE.mk (bQ rfl) ?_;refine⟨_,rfl, ?_⟩
    by_cases b1:(wd==Str.ofString "nconc")=true
    · have hwd':=beq_iff_eq.mp b1;subst hwd';have hab:∃a∈pool,∃b∈pool,xs=[a,b]:=by
        exact nq hS rfl fun a ha b hb e=>⟨a,ha,b,hb,e⟩
      refine aY ?_ hab;clear hab;intro a ha;refine aY ?_;rintro b hb rfl;have i0:=aT ga;have i1:=bV ga;have oka:=tB U.lt (U.pok a ha);have okb:=tB U.lt (U.pok b hb);refine bz ?_ (U.good.chn oka);intro ks as e hch hz1 hz2;refine dN b1 (cD (cS (dD hB) rfl rfl (bA (bM ?_))) rfl);refine cr ‹_› ‹_› .n (by exact af rfl) (by exact aD rfl (af rfl) (av rfl rfl i0)) (aB ‹_› rfl) ?_;refine a8 hB (by exact aq hn' hn rfl) H5.cs hch (by exact wV (wV hz1 hGl) (wW rfl)) fun σ6 lt lc hle6 hlt hlc hne g6 g7=>cj rfl (dW (r:= .ref lc) (.t rfl) (fun _ _=>rfl) ⟨lc,_,rfl, .inl g7,fun Dd hDd=> ?_⟩);have S6:=H5.cs.le hle6;have hneD:lc≠Dd:=fun q=>by rw [←q,g7] at hDd;exact sn hDd
      refine cw (xs:=ks.map fun k=>(W.cell k).v) (fun(i:Nat) m σ'=>(∃o,m=([(".0", .loc none),("cell", .loc o),("_law_reaches", .glob (.ref 582)),("args", .fre (.ref al)),("state", .fre (.ref st))]:ax))∧∃ys,σ'=σ6.set Dd (.list ys)∧ys.length≤i∧(ys=[]→∀k∈ks.take i,o7 C b k)) ?_ ?_ ?_ 0 _ _ (xd _) ⟨⟨none,rfl⟩,[],rfl,w6 _,fun _ k hk=>by simp at hk⟩
      · intro i m σ';refine dR ?_;rintro _ ys rfl _ _;exact .inl ((wp hneD).trans g7)
      · intro i v m σ';refine cq ?_;refine uE ?_;rintro o rfl ys rfl hyl hys hv;rw [List.getElem?_map] at hv;refine aY ?_ (Option.map_eq_some_iff.mp hv);rintro k hv2 rfl;refine uE ?_ (List.getElem?_eq_some_iff.mp hv2);intro hi hki;have hle7:aH σ6 (σ6.set Dd (.list ys)):=aH.set hDd;have j1:=bV (hle7 _ _ (hle6 _ _ ga));have gD:(σ6.set Dd (.list ys)) Dd=some (.list ys):=wq _ _ _;refine⟨⟨o,rfl⟩, ?_⟩
        refine(?_:TV B n' _ _ _ _ _)
        refine n9 ‹_› ‹_› .n (by exact af rfl) (by exact bG rfl (af rfl) (av rfl rfl j1) (af rfl)) (aB ‹_› rfl) ?_;refine fP hB (by exact aq hn' hn rfl) (S6.le hle7) U.good.cl okb (by exact wV hGl (wW rfl)) fun r hr=>⟨_,rfl, ?_⟩
        cases r with
        | true=>
          refine(?_:EV B n' _ _ _ _ _)
          refine aE ‹_› ‹_› (by exact ak rfl) ?_;refine⟨_,gD,by refine ah sizeLine_eq ?_;exact wZ hyl (wZ (wY (w0 hi (wV hz1 hGl))) (wW rfl)),⟨_,rfl⟩,_,by rw [wt],by simp;exact hyl,fun q=>by simp at q⟩
        | false=>
          refine⟨⟨_,rfl⟩,ys,rfl,by exact wV hyl (w9 _ _),fun hy k' hk'=> ?_⟩
          rw [←List.take_append_getElem hi,List.mem_append] at hk'
          rcases hk' with hk' | hk'
          · exact hys hy k' hk'
          · refine ah (List.mem_singleton.mp hk') (ah hki ?_)<;>try rfl
            exact hr rfl k rfl
      · intro m σ';refine cq ?_;rintro _ ys rfl hyl hys;rw [List.length_map] at hyl hys;have hys:ys=[]→∀k∈ks,o7 C b k:=fun hy k hk=>hys hy k (by refine ah List.take_length ?_;exact hk);have gD:(σ6.set Dd (.list ys)) Dd=some (.list ys):=wq _ _ _;have hle7:aH σ5 (σ6.set Dd (.list ys)):=hle6.trans (aH.set hDd);have H7:=H5.le hle7;have ga7:=hle7 _ _ ga;generalize σ6.set Dd (.list ys)=σ7 at*;refine a9 rfl (by simp) ?_;intro bl hbl;refine ef (c:= !decide (ys=[])) (.ne (kP gD hbl) rfl) ⟨_,rfl, ?_⟩ hp;have hle8:aH σ5 (σ7.set bl (.list [])):=hle7.trans (aH.set hbl);have H8:=H5.le hle8;have ga8:=hle8 _ _ ga;generalize σ7.set bl (.list [])=σ8 at*
        by_cases hy:ys=[]
        · refine dM (by simp [hy]) (aj ⟨rfl,_,al,[a,b],rfl,hw,hz,hS,ga8,hle8,hals,hM,fun _ a' b' e1 ks' as' e' hch' k hk=> ?_⟩)
          cases e1
          exact hys hy k (hch.fun_mem hch' hk)
        · refine dN (by simp [hy]) ?_;refine cx ‹_› ‹_› rfl (fun _=>rfl) (by exact ak rfl) ?_;walk_at "m";refine bE rfl (fun _=>rfl) (cJ ?_);refine aE ‹_› ‹_› (by exact af rfl) ?_;refine aE ‹_› ‹_› (by exact ak rfl) ?_;refine⟨1,rfl,al,_,[a.v],rfl, .inl ga8, .take 1 rfl,fun al' hal'=>aj ⟨rfl,"proper",al',[a], ?_, ?_, ?_, ?_,wq _ _ _,hle8.trans (aH.set hal'), ?_, ?_, ?_⟩⟩
          · rfl
          · exact fJ rfl
          · exact .inr (fJ rfl)
          · exact jC ha
          · exact fun b hb e=>(H8.cs.ne hb).2.2 (by refine ah e ?_;exact hal')
          · intro h;exact absurd (show false=true from h) Bool.false_ne_true
          · intro h;exact absurd (show false=true from h) Bool.false_ne_true
    · refine dM b1 (aj ⟨rfl,wd,al,xs,rfl,hw,hz,hS,ga,aH.refl _,hals,hM,fun h=>absurd h b1⟩)
  intro m' σ6;refine bJ ?_;rintro wd al xs rfl hw hz;refine cf ?_;intro hS ga hle6 hals;refine uA ?_;intro hM hN;have H6:=H5.le hle6;have L6:=L5.le hle6;clear H5 L5 hle6;refine eu ?_ (tj U.good U.pcl U.lt U.pok hw hz hS hM hN);intro f g R;have hxok:∀w∈xs,Ok (·∈ps) w:=hS.ok U.pok;have hxl:xs.length≤2:=hS.len;clear hM hN hw hz hS;obtain ⟨r,hE,hL,hA⟩:=R.deed;refine bE rfl (fun _=>rfl) (b8 rfl ?_ (fun env=>be .n _ _ env));refine aE ‹_› ‹_› (by exact af rfl) ?_;refine⟨aB hB rfl, ?_⟩;refine aE ‹_› ‹_› (by exact af rfl) ?_;refine cS (dD hB) rfl rfl (bA ?_);refine aE ‹_› ‹_› (by exact af rfl) ?_;refine⟨al,_,rfl, .inl ga,fun Dd hDd=> ?_⟩;refine ed (as:=xs) (c:=W.v) (g:=ev P) (.inl ga) hDd ⟨_,rfl⟩ (by exact wV hxl (wW rfl)) (fun a ha ys Rr hR=> ?_) ?_
  · refine aK K hp .n rfl ?_;refine wU (af rfl) (aD rfl (af rfl) (af rfl)) ?_;have hle7:aH σ6 (σ6.set Dd (.list ys)):=aH.set hDd;refine⟨aB hB rfl,lL hB (by exact aq hn' hn rfl) (H6.le hle7).cs (H6.le hle7).pr (P:=P) (fun k hk=> ?_) hR⟩;have hk':=hxok a ha;rw [hk] at hk';have hk':k∈ps:=hk';rewrite [iL];exact ah (if_pos hk') rfl
  have hle7:aH σ6 (σ6.set Dd (.list (xs.map (ev P)))):=aH.set hDd;have gD:(σ6.set Dd (.list (xs.map (ev P)))) Dd=some (.list (xs.map (ev P))):=wq _ _ _;have H7:=H6.le hle7;have L7:=L6.le hle7;have ga7:=hle7 _ _ ga;generalize σ6.set Dd (.list (xs.map (ev P)))=σ7 at*;clear hle7 H6 L6 ga;refine mP hB (by exact aq hn' hn rfl) R.tab (R.keep hB) fun n'' σ8 hn'' hle8=> ?_;have H8:=H7.le hle8;have L8:=L7.le hle8;have ga8:=hle8 _ _ ga7;have gD8:=hle8 _ _ gD;clear hle8 H7 L7 ga7 gD
  cases r with
  | none=>
    refine hE hB (by exact w8 (fun z=>xn (wZ (wV (wX hn') (xc (wV (wX hn'') (xc (wY z) _)) _)) (wW rfl)) hn)) L8 gD8 fun b hb=> ?_
    walk_at "m";have hle9:aH σ8 (σ8.set b (.list [.str "signal", .str "wrong-type-argument"])):=aH.set hb;have gb:(σ8.set b (.list [.str "signal", .str "wrong-type-argument"])) b=some (.list [.str "signal", .str "wrong-type-argument"]):=wq _ _ _;have H10:=H8.le hle9;have L10:=L8.le hle9;have ga10:=hle9 _ _ ga8;generalize σ8.set b (.list [.str "signal", .str "wrong-type-argument"])=σ10 at*;clear H8 L8 ga8 gD8 hle9;refine aX ?_ ?_ ?_ ?_ ?_
    · exact K
    · exact hp
    · rfl
    · exact fun _=>rfl
    refine kE.mk (bD (wW rfl) (aW rfl (ak rfl) (aW rfl (ak rfl) (aW rfl (ak rfl) (aW rfl (ak rfl) (aW rfl (ak rfl) (aW rfl (ak rfl) (aW rfl (ak rfl) (aW rfl (ak rfl) (aW rfl (ak rfl) (d6 rfl (ak rfl) (ak rfl) (ak rfl) (ak rfl)))))))))))) ?_;walk_at "m";refine gh (I:=fun m' σ'=>m'=(bp i6 [(some (.ref dk)),(some (.ref st)),(some (.ref wl)),(some (.str wd)),(some (.ref al)),(some (.ref b)),(some (.tup (iw.map .str))),(some (.none))])∧aH σ10 σ') (cU rfl (aV (dZ K hp ?_))) ?_
    · refine kE.mk (aC rfl (af rfl) (af rfl) (.in_ (.s (.c (.c (.c (.c (.c (.c (.c (.c (.c (.c (.c (.c (.c .n)))))))))))))))) ?_;refine⟨_,rfl, ?_⟩
      rcases R.which with⟨b1,rfl⟩ | ⟨b1,rfl⟩
      · refine dN b1 ?_;refine cr ‹_› ‹_› .n (by exact af rfl) (by exact bG rfl (af rfl) (af rfl) (af rfl)) (aB ‹_› rfl) ?_;refine hL hB (by exact aq hn' hn rfl) H10.cs ga10 hals fun σ' hle=>⟨(by trivial), ?_,hle⟩;rfl
      · refine dM (show¬ff wd iw=true by refine ah b1 ?_;simp) ?_;refine cr ‹_› ‹_› .n (by exact af rfl) (by exact bG rfl (af rfl) (af rfl) (af rfl)) (aB ‹_› rfl) ?_;refine hL hB (by exact aq hn' hn rfl) H10.cs ga10 hals fun σ' hle=>⟨(by trivial), ?_,hle⟩;rfl
    intro m' σ11;refine uA ?_;rintro rfl hle11;have H11:=H10.le hle11;have L11:=L10.le hle11;have gb11:=hle11 _ _ gb;clear H10 L10 gb ga10 hle11;refine bO ‹_› ‹_› (by exact aC rfl (af rfl) (ak rfl) (.is .n)) (by rfl) ?_;refine aJ (qA (iU ?_ rfl));refine aE ‹_› ‹_› (by exact af rfl) ?_;refine a9 rfl (by simp) ?_;refine aE ‹_› ‹_› (by exact ak rfl) ?_;refine aE ‹_› ‹_› (by exact ak rfl) ?_;intro c hc;have hle12:aH σ11 (σ11.set c (.list [.str "signal", .str "wrong-type-argument"])):=aH.set hc;have hcm:fc (σ11.set c (.list [.str "signal", .str "wrong-type-argument"])) .Eq (.ref b) (.ref c) true:= .eq (b:=true) (by
      have h:((Str.ofString "signal"=="signal")&&((Str.ofString "wrong-type-argument"=="wrong-type-argument")&&true))=true:=by rw [beq_self_eq_true,beq_self_eq_true];rfl
      exact h▸ .l (hle12 _ _ gb11) (wq _ _ _) (.c (.s _ _) (.c (.s _ _) .n)))
    refine ef hcm ⟨true,rfl, ?_⟩ hp;have H12:=H11.le hle12;have L12:=L11.le hle12;generalize σ11.set c (.list [.str "signal", .str "wrong-type-argument"])=σ12 at*;refine aF ?_;refine cr ‹_› ‹_› .n (by exact af rfl) (by exact aA rfl (af rfl)) (aB ‹_› rfl) ?_;refine gX hB (by exact aq hn' hn rfl) H12.cs L12 H12.pr U.nd U.lt U.pcl (by exact wV hGl (wW rfl)) fun σ13 ps' h1 h2 h3 h4 h5 h6=> ?_;exact q σ13 ls C P ps' pool ⟨U.good,h2,h3,h4,fun w hw=>(U.pok w hw).mono h1,U.p3⟩ ((H12.frLp U.p3 h6 h5).up (by exact xm (Nat.add_lt_add_left (wW rfl) _))) (L12.frX H12.pr h6) (by exact w9 _ _)
  | some wc=>
    obtain ⟨w,C1⟩:=wc;refine dF ?_ hA;clear hA;intro G1 okw hlen1 pcl1;have G1l:=G1.len;refine hE hB (by exact w8 (fun z=>xn (wZ (wV (wX hn') (xc (wV (wX hn'') (xc (wY z) _)) _)) (wW rfl)) hn)) L8 gD8 fun σ9 P1 hkp L9 hP1 b hb=> ?_
    walk_at "m";have hle9:aH σ9 (σ9.set b (.list [.str "told",ev P1 w])):=aH.set hb;have gb:(σ9.set b (.list [.str "told",ev P1 w])) b=some (.list [.str "told",ev P1 w]):=wq _ _ _;have H10:=((H8.kp hkp).pOf U.lt hP1).le hle9;have L10:=L9.le hle9;have ga10:=hle9 _ _ (hkp _ _ ga8 rfl);have hbn:∀x∈ls,x≠b:=fun x hx e=>(((H8.kp hkp).cs.ne hx).2.2) (by refine ah e ?_;exact hb);have hbL:b≠Lc:=fun e=>by have:=(H8.kp hkp).cs.cells;rw [←e,hb] at this;exact nn this
    generalize σ9.set b (.list [.str "told",ev P1 w])=σ10 at*;clear H8 L8 ga8 gD8 hle9 L9 hkp hb;refine aX ?_ ?_ ?_ ?_ ?_
    · exact K
    · exact hp
    · rfl
    · exact fun _=>rfl
    refine kE.mk (bD (wW rfl) (aW rfl (ak rfl) (aW rfl (ak rfl) (aW rfl (ak rfl) (aW rfl (ak rfl) (aW rfl (ak rfl) (aW rfl (ak rfl) (aW rfl (ak rfl) (aW rfl (ak rfl) (aW rfl (ak rfl) (d6 rfl (ak rfl) (ak rfl) (ak rfl) (ak rfl)))))))))))) ?_;walk_at "m";refine gh (I:=fun m' σ'=>m'=(bp i6 [(some (.ref dk)),(some (.ref st)),(some (.ref wl)),(some (.str wd)),(some (.ref al)),(some (.ref b)),(some (.tup (iw.map .str))),(some (w.v))])∧∃ls',aU σ10 st Lc Lp Lo ls C σ' ls' C1) (cU rfl (aV (dZ K hp ?_))) ?_
    · refine kE.mk (aC rfl (af rfl) (af rfl) (.in_ (.s (.c (.c (.c (.c (.c (.c (.c (.c (.c (.c (.c (.c (.c .n)))))))))))))))) ?_;refine⟨_,rfl, ?_⟩
      rcases R.which with⟨b1,rfl⟩ | ⟨b1,rfl⟩
      · refine dN b1 ?_;refine cr ‹_› ‹_› .n (by exact af rfl) (by exact bG rfl (af rfl) (af rfl) (af rfl)) (aB ‹_› rfl) ?_;refine hL hB (by exact aq hn' hn rfl) H10.cs ga10 hals fun σ' ls' hst=>⟨(by trivial), ?_,ls',hst⟩;rfl
      · refine dM (show¬ff wd iw=true by refine ah b1 ?_;simp) ?_;refine cr ‹_› ‹_› .n (by exact af rfl) (by exact bG rfl (af rfl) (af rfl) (af rfl)) (aB ‹_› rfl) ?_;refine hL hB (by exact aq hn' hn rfl) H10.cs ga10 hals fun σ' ls' hst=>⟨(by trivial), ?_,ls',hst⟩;rfl
    intro m' σ11;refine tD ?_;rintro rfl ls' hst;have H11:=H10.step U.p3 hst;have L11:=L10.step H10.cs hst;have gb11:=hst.fr _ _ gb hbL fun h=>hbn b h rfl;clear H10 L10 gb ga10 hst hbn hbL;have lt1:∀k∈ps,k<C1.length:=fun k hk=>w0 (U.lt k hk) hlen1;refine eg ‹_› ‹_› (by exact aC rfl (af rfl) (ak rfl) (.is (wR _ _))) (by rfl) ?_;have j0:=aT gb11;have j1:=bV gb11;refine dX (se ?_);refine lE ‹_› ‹_› (by exact aC rfl (av rfl rfl j0) (ak rfl) (.ne (.a (.s _ _)) rfl)) ?_;refine az (gJ ?_);refine n9 ‹_› ‹_› .n (by exact af rfl) (by exact bG rfl (af rfl) (av rfl rfl j1) (af rfl)) (aB ‹_› rfl) ?_;refine di hB (by exact aq hn' hn rfl) H11.cs L11 H11.pr U.nd lt1 okw (by exact wV G1l (wW rfl)) fun σ12 ps' h1 h2 h3 h4 h5 h6 h7=>⟨_,rfl, ?_⟩;have H12:=H11.frLp U.p3 h7 h6;have L12:=L11.frX H11.pr h7;clear H11 L11 gb11 j0 j1 h7 h6;refine az (aj ?_);refine ay ?_;walk_at "m";have i0:=H12.cs.iO;refine cz K hp .s rfl rfl ?_;refine kE.mk (av rfl rfl i0) (kE.mk (af rfl) ?_);refine⟨Lo,pool.map W.v,rfl,H12.pl,by refine ah sizeLine_eq ?_;rewrite [List.length_map];exact wZ hpz (wW rfl), ?_⟩
    have H13:=H12.push U.p3 w;have L13:=L12.setL (xs:=pool.map W.v) (ys:=pool.map W.v++[w.v]) H12.pl;rw [show pool.map W.v++[w.v]=(pool++[w]).map W.v by simp] at L13⊢
    generalize σ12.set Lo (.list ((pool++[w]).map W.v))=σ13 at*;clear H12 L12 i0;refine cA ‹_› ‹_› .n (by exact af rfl) (by exact aA rfl (af rfl)) (aB ‹_› rfl) ?_;refine gX hB (by exact aq hn' hn rfl) H13.cs L13 H13.pr h2 h3 (h5 pcl1) (by exact wV G1l (wW rfl)) fun σ14 ps'' k1 k2 k3 k4 k5 k6=> ?_;have p3':3≤(pool++[w]).length:=by have:=U.p3;simp;exact ar this rfl
    refine q σ14 ls' C1 P1 ps'' (pool++[w]) ⟨G1,k2,k3,k4,fun x hx=> ?_,p3'⟩ ((H13.frLp p3' k6 k5).up (by exact xm (Nat.add_lt_add_left (wW rfl) _))) (L13.frX H13.pr k6) (by simp)
    rcases List.mem_append.mp hx with hx | hx
    · exact(U.pok x hx).mono fun k hk=>k1 k (h1 k hk)
    · refine ah (List.mem_singleton.mp hx) ?_<;>try rfl
      exact h4.mono k1
end
end
section
section
variable {B:Bs}{n:Nat}{m:ax}{Q:V→AH→Prop}{E:Str→AH→Prop}{σ:AH}
theorem nX {N:Nat}{x:Str}{px:Pos}{elt iter:Expr}{scope:Scope}{pos:Pos}{D:Addr}{Q:AH→Prop}(I:Nat→ax→AH→Prop)
    (step:∀i m σ,I i m σ→i<N→(∃o,lk m x=some (.loc o))∧EV B n (setL m x (.int i)) elt (fun u σ₂=>∃ys,σ₂ D=some (.list ys)∧ys.length<sizeLine∧I (i+1) (setL m x (.int i)) (σ₂.set D (.list (ys++[u])))) (fun _ _=>False) σ)
    (fin:∀m σ,I N m σ→Q σ):
    ∀i m σ,i≤N→I i m σ→MV B n m (.rng i (N-i) 1) (.ListComp elt [⟨.Name x px,iter,[],0⟩] scope pos) D Q σ:=by
  refine gc (R:=fun(i:Nat) m σ=>MV B n m (.rng i (N-i) 1) (.ListComp elt [⟨.Name x px,iter,[],0⟩] scope pos) D Q σ) (fun m σ h=>kz (pj (by omega)) (fin _ _ h)) fun i m σ hi h ih=>nz (pq (by omega)) rfl (step i m σ h hi) ?_;refine ah (Int.sub_sub _ _ _:((N:Int)-i-1)=(N:Int)-((i+1:Nat):Int)) ?_;exact ih
end
end
section
section
variable {C X:St}{w e:W}{ks:List Nat}{as:List W}
theorem bK.cons' {k:Nat}{a:W}(h:bK C w ks as e)(hk:C[k]?=some (a,w))(hn:k∉ks):bK C (.cell k) (k::ks) (a::as) e:=by
  refine⟨by simp [h.len],rfl, ?_,h.stop,List.nodup_cons.mpr ⟨hn,h.nd⟩⟩
  intro j k' hj
  cases j with
  | zero=>
    simp at hj;subst hj;refine⟨a,rfl, ?_⟩;refine ah hk ?_;exact ah h.zero rfl
  | succ j=>exact h.get j k' (by simpa using hj)
theorem bK.app (h:bK C w ks as e):bK (C++X) w ks as e:=⟨h.len,h.zero,fun j k hj=>by
  refine aY ?_ (h.get j k hj);intro a h1 h2;refine⟨a,h1, ?_⟩;refine ah (List.getElem?_append_left (List.getElem?_eq_some_iff.mp h2).1) ?_;exact h2,h.stop,h.nd⟩
theorem ww (C:St):∀as:List W,∃ks,bK (C++dO C.length as.reverse .nil) (dS C.length as.length .nil) ks as .nil∧∀k∈ks,k<C.length+as.length
  | []=>⟨[],⟨rfl,rfl,fun j k h=>by simp at h,rfl,List.nodup_nil⟩,fun k h=>by cases h⟩
  | a::as=>by
    refine aY ?_ (ww C as);intro ks h hk;have e1:C++dO C.length (a::as).reverse .nil=(C++dO C.length as.reverse .nil)++[(a,dS C.length as.length .nil)]:=by
      refine ah List.reverse_cons ?_;rewrite [gw];refine ah List.length_reverse ?_;rewrite [List.append_assoc];rfl
    have e2:dS C.length (a::as).length .nil= .cell (C.length+as.length):=by
      unfold dS;refine ah (if_neg (by simp)) ?_;rfl
    have hl:(C++dO C.length as.reverse .nil).length=C.length+as.length:=by refine ah List.length_append ?_;rewrite [cN];exact ah List.length_reverse rfl
    refine⟨(C.length+as.length)::ks, ?_, ?_⟩
    · refine ah e1 (ah e2 ?_);refine h.app.cons' ?_ (fun hm=>by have:=hk _ hm;lia);refine ah (List.getElem?_append_right (by exact wX hl)) (ah hl ?_);rewrite [Nat.sub_self];rfl
    · intro k hk'
      rcases List.mem_cons.mp hk' with rfl | hk'
      · simp
      · have:=hk k hk'
        simp;exact Nat.lt_succ_of_lt this
end
section
variable {B:Bs}{Pr:Params}{n:Nat}{Q:V→AH→Prop}{E:Str→AH→Prop}{σ σ':AH}{st Lc Lp Lo dk sc:Addr}{ls ls':List Addr}{C C':St}{P P':Nat→Addr}{ps:List Nat}{pool:List W}{wd:Str}{N N':Nat}{m:ax}{rest:List Stmt}
theorem rN {f:Addr}{x:V}{T:ax}{b:Stmt}{r:List Stmt}(hB:B.K=HK Pr)(g:a5 Pr f T 1)(hd:oh (HK Pr) f=b::r)(hn:2≤n)
    (h:∀n',n=n'+1→0<n'→bu B n' (bp T [some x]) (b::r) (fun fl _ σ'=>Q (match fl with | .ret v=>v | _=> .none) σ') (fun _ _=>False) σ):TC B n f [x] Q σ:=by
  obtain ⟨n',rfl⟩:∃n',n=n'+1:=⟨n-1,Eq.symm (Nat.sub_add_cancel (wV (wW rfl) hn))⟩;have h1:=h n' rfl (Nat.lt_of_succ_lt_succ hn);rw [←hd] at h1;have h2:=g.tab (xs:=[x]);rw [show bp T [some x]=bp T ([x].map some) from rfl,←h2] at h1;exact sT (by refine ah hB ?_;exact g.fn) (dD hB) g.hl.symm h1
theorem iW (K:KO B.K)(hB:B.K=HK Pr)(hn:2≤n){pos p2 p3 p4:Pos}{kd:Nat}{many:Int}{sl:cB}(l2:lk m "_law_draw"=some (.glob (.ref 507)))(l3:lk m "deck"=some sl)(hsl:sl.val=some (.ref dk))
    (hm:0<many) (hm2:many<2^40) (hD:Dk σ dk N) (hN:N<1000000)
    (q:∀(j:Nat),(j:Int)<many→∀σ',Dk σ' dk (N+1)→dT dk σ σ'→Q (.int j) σ'):
    EV B n m (.Call (.Name "_law_draw" p2) [.Name "deck" p3, .Constant (.int many) kd p4] [] pos) Q E σ:=by
  have hp:0<n:=ar hn rfl;have key:∀sl',sl'=sl→(sl'= .loc (some (.ref dk))∨sl'= .cel (some (.ref dk))∨sl'= .fre (.ref dk)∨sl'= .glob (.ref dk)):=by
    intro sl' e;subst e
    cases sl'<;>simp only [cB.val,Option.some.injEq] at hsl<;>subst hsl<;>simp
  refine aK K hp .n rfl ?_
  rcases key sl rfl with rfl | rfl | rfl | rfl
  all_goals
    refine wU (gs l2 rfl) (aD rfl (gs l3 rfl) (ak rfl)) ?_;refine⟨aB hB rfl,eO hB hn hD hN hm hm2 fun r σ' h1 h2 h3 h4=> ?_⟩;obtain ⟨k,rfl⟩:∃k:Nat,r=k:=⟨r.toNat,Eq.symm (Int.toNat_of_nonneg h1)⟩;exact q k h2 σ' h3 h4
end
end
section
section
variable {B:Bs}{Pr:Params}{n:Nat}{Q:V→AH→Prop}{σ σ':AH}{st Lc Lp Lo dk sc:Addr}{ls ls':List Addr}{C C':St}{P P':Nat→Addr}{ps:List Nat}{pool:List W}{wd:Str}{N N':Nat}{m:ax}{rest:List Stmt}
theorem Lk.step2 {C₂:St}{D:Nat→Prop}(L:Lk σ C₂ D P)(S:CS σ st Lc Lp Lo ls C)(x:aU σ st Lc Lp Lo ls C σ' ls' C'):Lk σ' C₂ D P:=by
  have key:∀a o,σ a=some o→(∀xs,o≠ .list xs)→σ' a=some o:=fun a o h hl=>x.fr a o h (fun e=>by rw [e,S.cells] at h;(refine sj ?_ h;clear h;intro e1;subst e1);exact hl _ rfl) fun e=>by
    refine eu ?_ (S.lsObj e);intro x y h';rw [h] at h';exact hl _ (xg h')
  refine⟨key _ _ L.nil fun _ q=>(by cases q),fun k hk=> ?_,L.inj⟩;refine bk ?_ (L.at_ k hk);intro a d h2 h3 h4 h5;exact⟨a,d,h2,h3,h4,key _ _ h5 fun _ q=>(by cases q)⟩
theorem Hp.pOf2 {M:Nat}(H:Hp σ st Lc Lp Lo dk ls C P ps pool N)(hlt:∀k∈ps,k<M)(h:∀k,k<M→P' k=P k):Hp σ st Lc Lp Lo dk ls C P' ps pool N:=
  ⟨H.cs,by
    refine ah H.pr ?_;have:gA P ps=gA P' ps:=by
      exact List.map_congr_left fun k hk=>by exact ah (h k (hlt k hk)) rfl
    exact ah this rfl,H.pl,H.dk⟩
noncomputable def db:List W:=[.num 0, .num 1, .nil]
theorem pN:bH []:=by
  refine⟨fun k a d h=>absurd h (xh _),⟨fun _=>0,fun k a d h=>by simp at h⟩,⟨0,wW rfl,fun k a d h=>absurd h (xh _),fun k a d h=>by simp at h⟩,by simp⟩
set_option maxHeartbeats 1000000 in
noncomputable def pB:ax:=[("script", .loc none),("deck", .cel none),("state", .loc none),("start", .loc none),("turn", .loc none),("value", .loc none),("things", .loc none),("_law_deck", .glob (.ref 500)),("range", .glob (.ty "range")),("_law_made", .glob (.ref 535)),("_law_draw", .glob (.ref 507)),("_law_chain", .glob (.ref 521)),("_law_is_same", .glob (.ref 587)),("lisp_list", .glob (.ref 298)),("_law_is_right", .glob (.ref 620))]
theorem sX (hB:B.K=HK Pr)(hn:300≤n){xs:List Int}(h:σ sc=some (.clist (xs.map V.int)))(hz:xs.length≤1000000)(h64:σ 64=some (.stat 58))(q:∀σ',Q (.bool true) σ'):TC B n 625 [.ref sc] Q σ:=by
  have K:=b9 hB;refine rN (by assumption) vX rfl (ar hn rfl) ?_;intro n' hn' hp;walk_at "m";refine kD ‹_› ‹_› rfl .n (af rfl) (aA rfl (af rfl)) (aB ‹_› rfl) ?_;refine mO hB (aq hn' hn rfl) h hz fun dk σ1 hle1 D1=> ?_;have g64:=hle1 _ _ h64;clear h hle1 h64;walk_at "m";refine bE ?_ ?_ ?_
  · rfl
  · exact fun _=>rfl
  refine o8 ?_ ?_
  · simp [ba]
  intro st hst;refine a9 ?_ ?_ ?_
  · rfl
  · simp
  intro Lc hLc;refine lu ?_;intro Lp hLp;refine a9 ?_ ?_ ?_
  · rfl
  · simp
  refine fh ?_ ?_ ?_
  · exact K
  · exact hp
  refine lZ.mk (bG rfl (bD (wW rfl) (aD rfl (ak rfl) (ak rfl))) (bD (wW rfl) (aD rfl (ak rfl) (ak rfl))) (bD (wW rfl) (aA rfl (ak rfl)))) ?_;intro Lo hLo;have n1:Lc≠st:=fun e=>by rw [e,wq] at hLc;exact sn hLc
  have n2:Lp≠Lc:=fun e=>by rw [e,wq] at hLp;exact sn hLp
  have n3:Lp≠st:=fun e=>by rw [wp (by refine ah e ?_;exact n1.symm),e,wq] at hLp;exact sn hLp
  have n4:Lo≠Lp:=fun e=>by rw [e,wq] at hLo;exact sn hLo
  have n5:Lo≠Lc:=fun e=>by rw [wp (by refine ah e ?_;exact n2.symm),e,wq] at hLo;exact sn hLo
  have n6:Lo≠st:=fun e=>by rw [wp (by refine ah e ?_;exact n3.symm),wp (by refine ah e ?_;exact n1.symm),e,wq] at hLo;exact sn hLo
  have D4:=(((D1.set (o:= .sdict []) hst).set (o:= .list []) hLc).set (o:= .idict []) hLp).set (o:= .list (db.map W.v)) hLo;have gst:((((σ1.set st (.sdict [])).set Lc (.list [])).set Lp (.idict [])).set Lo (.list (db.map W.v))) st=some (.sdict []):=by
    refine ah (wp n6.symm) (ah (wp n3.symm) (ah (wp n1.symm) ?_));rewrite [wq];rfl
  refine⟨gst, ?_⟩;walk_at "m";have g64':((((σ1.set st (.sdict [])).set Lc (.list [])).set Lp (.idict [])).set Lo (.list (db.map W.v))) 64=some (.stat 58):=(aH.set hLo) _ _ ((aH.set hLp) _ _ ((aH.set hLc) _ _ ((aH.set hst) _ _ g64)));have hs64:(64:Addr)≠st:=fun e=>by rw [←e,g64] at hst;exact sn hst
  have k1:((((((σ1.set st (.sdict [])).set Lc (.list [])).set Lp (.idict [])).set Lo (.list (db.map W.v))).set st (.sdict [("cells", .ref Lc),("pairs", .ref Lp),("pool", .ref Lo)]))) st=some (.sdict [("cells", .ref Lc),("pairs", .ref Lp),("pool", .ref Lo)]):=wq _ _ _;have k2:((((((σ1.set st (.sdict [])).set Lc (.list [])).set Lp (.idict [])).set Lo (.list (db.map W.v))).set st (.sdict [("cells", .ref Lc),("pairs", .ref Lp),("pool", .ref Lo)]))) Lc=some (.list []):=by
    refine ah (wp n1) (ah (wp n5.symm) (ah (wp n2.symm) ?_));rewrite [wq];rfl
  have k3:((((((σ1.set st (.sdict [])).set Lc (.list [])).set Lp (.idict [])).set Lo (.list (db.map W.v))).set st (.sdict [("cells", .ref Lc),("pairs", .ref Lp),("pool", .ref Lo)]))) Lp=some (.idict []):=by
    refine ah (wp n3) (ah (wp n4.symm) ?_);rewrite [wq];rfl
  have k4:((((((σ1.set st (.sdict [])).set Lc (.list [])).set Lp (.idict [])).set Lo (.list (db.map W.v))).set st (.sdict [("cells", .ref Lc),("pairs", .ref Lp),("pool", .ref Lo)]))) Lo=some (.list (db.map W.v)):=by
    refine ah (wp n6) ?_;rewrite [wq];rfl
  have k5:((((((σ1.set st (.sdict [])).set Lc (.list [])).set Lp (.idict [])).set Lo (.list (db.map W.v))).set st (.sdict [("cells", .ref Lc),("pairs", .ref Lp),("pool", .ref Lo)]))) 64=some (.stat 58):=(wp hs64).trans g64';have k6:Dk ((((((σ1.set st (.sdict [])).set Lc (.list [])).set Lp (.idict [])).set Lo (.list (db.map W.v))).set st (.sdict [("cells", .ref Lc),("pairs", .ref Lp),("pool", .ref Lo)]))) dk 0:=D4.frame fun a xs i e _=>(wp fun q=>by rw [q,gst] at e;cases e).trans e;clear D4 gst g64' n1 n2 n3 n4 n5 n6 hLo hLp hLc hst hs64 g64 D1
  refine(?_:bu B n' _ _ _ _ ((((((σ1.set st (.sdict [])).set Lc (.list [])).set Lp (.idict [])).set Lo (.list (db.map W.v))).set st (.sdict [("cells", .ref Lc),("pairs", .ref Lp),("pool", .ref Lo)]))))
  generalize ((((((σ1.set st (.sdict [])).set Lc (.list [])).set Lp (.idict [])).set Lo (.list (db.map W.v))).set st (.sdict [("cells", .ref Lc),("pairs", .ref Lp),("pool", .ref Lo)])))=σ2 at*;have H2:Hp σ2 st Lc Lp Lo dk [] [] (fun _=>0) [] db 0:=⟨⟨k1,k2,rfl,fun k a d h=>by simp at h,List.nodup_nil⟩,k3,k4,k6⟩
  have L2:Lk σ2 [] (·<([]:St).length) (fun _=>0):=⟨k5,fun k hk=>absurd hk (xh _),fun j k hj=>absurd hj (xh _)⟩
  have U2:sS [] [] db:=⟨pN,List.nodup_nil,fun k hk=>(by cases hk),fun k a d hk=>(by cases hk),fun w hw=>(by simp [db] at hw;rcases hw with rfl | rfl | rfl<;>trivial),by simp [db]⟩
  clear k1 k2 k3 k4 k5 k6;refine ao (dB (fi rfl rfl (cK (cj rfl (.inl ⟨3,rfl,by exact(by decide),by exact(by decide), ?_⟩)))));refine jM (N:=3) (fun(i:Nat) m σ=>∃ls C P ps pool N o1 o2 o3,m=(bp pB [(some (.ref sc)),(some (.ref dk)),(some (.ref st)),o1,none,o2,o3])∧sS C ps pool∧Hp σ st Lc Lp Lo dk ls C P ps pool N∧Lk σ C (·<C.length) P∧C.length≤3*i∧pool.length=3+i∧N≤4*i) ?_ ?_ 0 _ _ (by exact wW rfl) ⟨[],[],fun _=>0,[],db,0,none,none,none,rfl,U2,H2,L2,by first | rfl | simp,by simp [db],by exact wW rfl⟩
  · clear H2 L2 U2;intro i m σ;refine gG ?_;intro ls C P;refine gG ?_;intro ps pool N;refine bJ ?_;rintro o1 o2 o3 rfl U H;refine dF ?_;intro L hcl hpl hN hi;refine⟨rfl, ?_⟩;walk_at "m";refine bE rfl (fun _=>rfl) (b8 rfl ?_ (fun env=>be .n _ _ env));refine aE ‹_› ‹_› (by exact af rfl) ?_;refine⟨aB hB rfl, ?_⟩;refine aE ‹_› ‹_› (by exact af rfl) ?_;refine cS (dD hB) rfl rfl (fi rfl rfl (cK (dK (cj rfl (iW (n:=n') (N:=N) K hB (by exact aq hn' hn rfl) rfl rfl rfl (by decide) (by decide) H.dk (by exact wZ (wV hN (Nat.mul_le_mul_left _ (wY hi))) (wW rfl)) fun j hj σ4 D4 F4=>gf .add (.inl ⟨_,rfl,by exact Int.add_nonneg ((by decide)) (Int.natCast_nonneg _),by lia,fun Dd hDd=> ?_⟩))))));have H4:=H.frDk F4 D4;have L4:=L.frDk H.dk F4;clear H L F4;have hdkD:dk≠Dd:=fun e=>by
      refine c6 ?_ D4;clear D4;intro d0 ds i h1 _;rw [e,hDd] at h1;exact nn h1
    refine ah (show ((1:Int)+(j:Int))=(((1+j:Nat):Int)-((0:Nat):Int)) by exact rfl) ?_;refine nX (N:=1+j) (fun(t:Nat) m σ'=>(∃o,m=([(".0", .loc none),("turn", .loc o),("_law_draw", .glob (.ref 507)),("deck", .fre (.ref dk))]:ax))∧∃vs:List Int,vs.length=t∧σ' Dd=some (.list ((vs.map W.num).map W.v))∧Dk σ' dk (N+1+t)∧dT dk σ4 σ') ?_ ?_ 0 _ _ (by exact wW rfl) ⟨⟨none,rfl⟩,[],rfl,wq _ _ _,D4.set hDd,(D4.fresh (dT.refl dk σ4) hDd).2 _⟩
    · intro t m σ';refine et ?_;refine uE ?_;rintro o rfl vs hvl gD D5 F5 ht;refine⟨⟨_,rfl⟩, ?_⟩;refine dl rfl (by simp) (cK (cj rfl (cK (iW (n:=n') (N:=N+1+t) K hB (by exact aq hn' hn rfl) rfl rfl rfl (by decide) (by decide) D5 (by exact wZ (Nat.add_le_add (xc (wV hN (Nat.mul_le_mul_left _ (wY hi))) _) (wY (w0 ht (xe (wY ((Int.ofNat_lt (m:=3)).mp hj)) _)))) (wW rfl)) fun j2 hj2 σ6 D6 F6=> ?_))))
      have gD6:=F6 _ _ gD hdkD.symm;refine⟨_,gD6,by refine ah sizeLine_eq ?_;simp;exact wZ (wV (wX hvl) (wY (w0 ht (xe (wY ((Int.ofNat_lt (m:=3)).mp hj)) _)))) (wW rfl),⟨_,rfl⟩,vs++[(j2:Int)],by simp [hvl], ?_,D6.frame fun a xs' i' e hi'=>(wp fun q=> ?_).trans e,fun a o' e hne=> ?_⟩
      · rw [wq]<;>try rfl
        simp;rfl
      · rw [q,gD6] at e
        (refine tC ?_ e;clear e;intro e1;subst e1)
        exact nM hi'
      · have:=F6 _ _ (F5 _ _ e hne) hne;refine ah (wp fun q=>by rw [q,hDd] at e;cases e) ?_;exact this
    · intro m σ5;refine et ?_;intro _ vs hvl gD D5 F5;have H5:=H4.frDk F5 D5;have L5:=L4.frDk D4 F5;clear H4 L4 F5 D4;refine aE ‹_› ‹_› (by exact bD (wW rfl) (aA rfl (ak rfl))) ?_;refine cQ hB (by exact aq hn' hn rfl) H5.cs (as:=vs.map W.num) (e:= .nil) gD (by simp;exact wZ (Nat.add_le_add (wV hcl (Nat.mul_le_mul_left _ (wY hi))) (wV (wX hvl) (xe (wY ((Int.ofNat_lt (m:=3)).mp hj)) _))) (wW rfl)) fun σ6 ls6 hst=> ?_
      have H6:=H5.step U.p3 hst;have L6:Lk σ6 C (·<C.length) P:=L5.step2 H5.cs hst;clear H5 L5 hst gD;walk_at "m";refine aY ?_ (ww C (vs.map W.num));intro ks hch _;have hvl3:vs.length≤3:=by exact wV (wX hvl) (Nat.le_of_lt_succ (Nat.add_lt_of_lt_sub' (((Int.ofNat_lt (m:=3)).mp hj))))
      have hl6:(C++dO C.length (vs.map W.num).reverse .nil).length=C.length+vs.length:=by refine ah List.length_append ?_;rewrite [cN];simp
      have G6:bH (C++dO C.length (vs.map W.num).reverse .nil):=eD U.good (by exact wV (wV hcl (Nat.mul_le_mul_left _ (wY hi))) (wW rfl)) (fun r hr=>by
        refine aY ?_ (List.mem_map.mp (List.mem_reverse.mp hr));rintro z _ rfl;trivial) (by simp;exact wV (wV (wX hvl) (xe (wY ((Int.ofNat_lt (m:=3)).mp hj)) _)) (wW rfl))
      have ow:Ok (·<(C++dO C.length (vs.map W.num).reverse .nil).length) (dS C.length (vs.map W.num).length .nil):=gO fun i hi=>by refine ah hl6 ?_;simp at hi;exact Nat.add_lt_add_left hi _
      have hkl:ks.length=vs.length:=by refine ch hch.len ?_;simp
      have pcl6:Cl (C++dO C.length (vs.map W.num).reverse .nil) (·∈ps):=fZ U.pcl U.lt;have lt6:∀k∈ps,k<(C++dO C.length (vs.map W.num).reverse .nil).length:=fun k hk=>by refine ah hl6 ?_;exact w0 (U.lt k hk) (w9 _ _)
      refine ao (bj (dD hB) rfl rfl rfl (fun env hk hy=>o0 rfl rfl env hk hy) (bA (bM ?_)));refine cr ‹_› ‹_› .n (by exact af rfl) (by exact aD rfl (af rfl) (af rfl)) (aB ‹_› rfl) ?_;refine a8 hB (by exact aq hn' hn rfl) H6.cs hch (by exact wV (wV (wX hkl) (wV (wX hvl) (xe (wY ((Int.ofNat_lt (m:=3)).mp hj)) _))) (wW rfl)) fun σ7 lt lc hle7 hlt hlc hne g7 g8=>cj rfl (dW (r:= .ref lt) (.t rfl) (fun _ _=>rfl) ⟨lt,_,rfl, .inl g7,fun D2 hD2=> ?_⟩)
      have H7:=H6.le hle7;have L7:=L6.le hle7;clear H6 L6 hlt hlc hne g8 hle7;refine ed (as:=vs) (c:=fun i=>(W.num i).v) (g:=V.int) (.inl (by refine ah g7 (ah List.map_map ?_);rfl)) hD2 ⟨_,rfl⟩ (by exact wV (wV (wX hvl) (xe (wY ((Int.ofNat_lt (m:=3)).mp hj)) _)) (wW rfl)) (fun a ha ys R hR=> ?_) ?_
      · have v1:=wS (σ7.set D2 (.list ys)) a;refine aE ‹_› ‹_› (by exact av rfl rfl v1) ?_;exact hR
      have hle8:aH σ7 (σ7.set D2 (.list (vs.map V.int))):=aH.set hD2;have g9:(σ7.set D2 (.list (vs.map V.int))) D2=some (.list ((vs.map W.num).map (ev P))):=by rewrite [wq];refine ah List.map_map ?_;rfl
      have H8:=H7.le hle8;have L8:=L7.le hle8;generalize σ7.set D2 (.list (vs.map V.int))=σ8 at*;clear H7 L7 hle8 g7 hD2;refine ay ?_;walk_at "m";refine dX (gJ (gj (b8 rfl ?_ (fun env=>be .n _ _ env)) (fun _ _=>rfl)));refine aE ‹_› ‹_› (by exact af rfl) ?_;refine⟨aB hB rfl, ?_⟩;refine aE ‹_› ‹_› (by exact af rfl) ?_;refine aK K hp .n rfl ?_;refine wU (af rfl) (aD rfl (ak rfl) (af rfl)) ?_;refine⟨aB hB rfl,hJ hB (by exact aq hn' hn rfl) L8 g9 (by simp;exact wV (wV (wX hvl) (xe (wY ((Int.ofNat_lt (m:=3)).mp hj)) _)) (wW rfl)) (fun a ha=>by
        refine aY ?_ (List.mem_map.mp ha);rintro z _ rfl;trivial) fun σ9 D' P' Gr _=>bn K hp ?_⟩
      refine kE.mk (af rfl) ?_;refine dc ?_ Gr.told;intro kp L9 hP';have H9:=(H8.kp kp).pOf2 U.lt hP';clear H8 L8 g9 kp hP' Gr;refine di hB (by exact aq hn' hn rfl) H9.cs L9 H9.pr U.nd lt6 ow (by exact wV (wV (wX hl6) (Nat.add_le_add (wV hcl (Nat.mul_le_mul_left _ (wY hi))) (wV (wX hvl) (xe (wY ((Int.ofNat_lt (m:=3)).mp hj)) _)))) (wW rfl)) fun σ10 ps' h1 h2 h3 h4 h5 h6 h7=>⟨_,rfl,az (aj ?_)⟩
      have H10:=H9.frLp U.p3 h7 h6;have L10:=L9.frX H9.pr h7;clear H9 L9 h7 h6;refine ay ?_;walk_at "m";have i0:=H10.cs.iO;refine cz K hp .s rfl rfl ?_;refine kE.mk (av rfl rfl i0) (kE.mk (af rfl) ?_);refine⟨Lo,pool.map W.v,rfl,H10.pl,by refine ah sizeLine_eq ?_;rewrite [List.length_map];exact wZ (wV (wX hpl) (xe (wY hi) _)) (wW rfl), ?_⟩
      have H11:=H10.push U.p3 (dS C.length (vs.map W.num).length .nil);have L11:=L10.setL (xs:=pool.map W.v) (ys:=pool.map W.v++[(dS C.length (vs.map W.num).length .nil).v]) H10.pl;rw [show pool.map W.v++[(dS C.length (vs.map W.num).length .nil).v]=(pool++[dS C.length (vs.map W.num).length .nil]).map W.v by simp] at L11⊢
      generalize σ10.set Lo (.list ((pool++[dS C.length (vs.map W.num).length .nil]).map W.v))=σ11 at*;refine aj ?_;refine bv ?_;refine⟨ls6,_,P',ps',_,_,_,_,_,rfl,⟨G6,h2,h3,h5 pcl6,fun x hx=> ?_,by have:=U.p3;simp;exact ar this rfl⟩,H11,L11,by refine ah hl6 ?_;lia,by simp;exact Nat.le_antisymm (xm (wZ (wX hpl) (xk _))) (xm (xq (fun z=>Nat.ne_of_lt z hpl))),by lia⟩
      rcases List.mem_append.mp hx with hx | hx
      · exact(U.pok x hx).mono h1
      · refine ah (List.mem_singleton.mp hx) ?_<;>try rfl
        exact h4
  · clear H2 L2 U2;intro m σ;refine gG ?_;intro ls C P;refine gG ?_;intro ps pool N;refine bJ ?_;rintro o1 o2 o3 rfl U H;refine dF ?_;intro L hcl hpl hN;refine ay ?_;walk_at "m";refine ao (dB (fi rfl rfl (cK (dK (cj rfl (iW (n:=n') (N:=N) K hB (by exact aq hn' hn rfl) rfl rfl rfl (by decide) (by decide) H.dk (by exact wZ hN (wW rfl)) fun j hj σ4 D4 F4=>gf .add (.inl ⟨_,rfl,by exact Int.add_nonneg ((by decide)) (Int.natCast_nonneg _),by lia, ?_⟩)))))));have H4:=H.frDk F4 D4;have L4:=L.frDk H.dk F4;clear H L F4 D4;refine ah (show ((4:Int)+(j:Int))=(((4+j:Nat):Int)-((0:Nat):Int)) by exact rfl) ?_;refine jM (N:=4+j) (fun(i:Nat) m σ=>∃ls C P ps pool N o1 o2 o3 o4,m=(bp pB [(some (.ref sc)),(some (.ref dk)),(some (.ref st)),o1,o4,o2,o3])∧sS C ps pool∧Hp σ st Lc Lp Lo dk ls C P ps pool N∧Lk σ C (·<C.length) P∧pool.length≤6+i∧N≤20+10*i) ?_ ?_ 0 _ _ (by exact wW rfl) ⟨ls,C,P,ps,pool,_,o1,o2,o3,none,rfl,U,H4,L4,by exact wX hpl,by exact wV (xc hN _) (wW rfl)⟩
    · clear H4 L4 U;intro i m σ;refine gG ?_;intro ls C P;refine gG ?_;intro ps pool N;refine ll ?_;rintro o1 o2 o3 o4 rfl U;refine dF ?_;intro H L hpl hN hi;refine⟨rfl, ?_⟩;walk_at "m";refine ey K hp .n rfl ?_;refine wU (af rfl) (aD rfl (af rfl) (af rfl)) ?_;refine⟨aB hB rfl,i8 hB (by exact aq hn' hn rfl) U H L (by exact wZ (wV hN (xe (Nat.mul_le_mul_left _ (wY (w0 hi (xe (wY ((Int.ofNat_lt (m:=9)).mp hj)) _)))) _)) (wW rfl)) (by exact wV (wV hpl (xe (wY (w0 hi (xe (wY ((Int.ofNat_lt (m:=9)).mp hj)) _))) _)) (wW rfl)) fun σ' ls' C' P' ps' pool' U' H' L' hpl'=>⟨_,rfl,jo (aj ?_)⟩⟩
      refine ay ?_;walk_at "m";exact aj ⟨ls',C',P',ps',pool',_,_,_,_,_,rfl,U',H',L',by exact wV hpl' (xc hpl _),by exact xc hN _⟩
    · intro m σ;refine gG ?_;intro ls C P;refine gG ?_;intro ps pool N;refine gG ?_;intro o1 o2 o3;refine aY ?_;rintro o4 rfl _;refine ay ?_;walk_at "m";refine aN ‹_› ‹_› (by exact ak rfl) ?_;exact q σ
end
end
section
theorem mm {T:TM}:∀{vs:List Value} {ns:List Int},IntsAre vs ns→bS T (ns.map V.int) vs
  | _,_, .nil=>rfl
  | _,_, .cons n t h=>⟨_,_,rfl,⟨t,rfl⟩,mm h⟩
theorem sw (P:Params):nsIn (HK P) mainGlobals (Str.ofString "law")=some (some (.ref 625)):=by kernel_rfl
theorem qm (P:Params):∃d sl o,(HK P).lookup 64=some ⟨.ref 58,some d, .plain,sl⟩∧(HK P).lookup d=some o:=⟨_,_,_,rfl,rfl⟩
theorem top_run {prog:Program}{w:World}{p:Program}{loose:List Str}{mean:ExcName→Option Value}{mg mb:Str→Option Value}{s₁:Shared}{fa sc:Addr}{vs:List Value}{ns:List Int}{R:Value→Shared→Prop}{E:Value→Shared→Prop}(KX:(HK w.params).In s₁.heap)(T:Top p loose mean mg mb s₁.heap)
    (hmg:mg (Str.ofString "law")=some (.ref fa)) (hL:s₁.heap.IsList sc vs.toArray) (hI:IntsAre vs ns) (hz:ns.length≤100) (q:∀s',(∀b o,s₁.heap.get? b=some o→s'.heap.get? b=some o)→Sm s₁ s'→R (.bool true) s'):wpAny (model prog w) callerA (call (.ref fa) [.ref sc]) R E s₁:=by
  have hfa:fa=625:=by
    have h1:=mg_of KX T.g (sw w.params);rw [hmg] at h1
    cases h1;rfl
  subst hfa;have h64:sc≠64:=fun e=>by
    refine c6 ?_ (qm w.params);intro d sl o h1 _;have h2:=KX _ _ h1;refine bI ?_ hL;clear hL;intro o' h3 h4 _;rw [e,h2] at h3
    (refine sj ?_ h3;clear h3;intro e1;subst e1)
    cases h4
  have hc:=sX (B:=⟨prog,w,HK w.params,p,loose,mg,mb,0⟩) (Pr:=w.params) (n:=600) (σ:=fun a=>if a=sc then some (.clist (ns.map V.int)) else if a=64 then some (.stat 58) else none) (sc:=sc) (xs:=ns) (Q:=fun x _=>x= .bool true) rfl (wW rfl) (if_pos rfl) (wV hz (wW rfl)) ((if_neg h64.symm).trans (if_pos rfl)) (fun _=>rfl);refine wpAny_mono (hc callerA s₁ [.ref sc] ⟨⟨KX,topRead_of T,T.nolimit⟩,rfl,rfl,by decide,by decide,fun a o h=> ?_⟩ ⟨_,_,rfl,rfl,rfl⟩) (fun v s' h=> ?_) fun _ _ h=>h.elim
  · by_cases ha:a=sc
    · subst ha;rw [if_pos rfl] at h
      (refine sj ?_ h;clear h;intro e1;subst e1)
      exact⟨⟨vs,hL,mm hI,by refine ah sizeLine_eq ?_;rewrite [List.length_map];exact wV hz (wW rfl)⟩,rfl⟩
    · rw [if_neg ha] at h
      by_cases ha2:a=64
      · subst ha2;rw [if_pos rfl] at h
        (refine sj ?_ h;clear h;intro e1;subst e1)
        exact⟨qm w.params,rfl⟩
      · rw [if_neg ha2] at h;exact nn h
  · refine fC ?_ h;clear h;intro h1 h2 T' σ';refine aY ?_;intro x h3 h4;subst h4
    cases (show v= .bool true from h3)
    exact q s' h1 h2
end
namespace fin
def A:=True
def tw12141802397888321627:=A
def tw4684940682943077961:=A
def tw4312942655851389009:=A
def tw10098057777631523497:=A
def tw4928979718650693569:=A
def tw11466478281803324712:=A
def tw9218923581257491847:=A
def tw17570709534508481193:=A
def tw17933470926392208243:=A
def tw17416127249078093707:=A
def tw12996517811204074000:=A
def tw4879674094562380441:=A
def tw11414674201277728305:=A
def tw13162651487661262736:=A
def tw15815952407149668801:=A
def tw15344004072050561172:=A
def tw16510490156224867327:=A
def tw10580198807604790814:=A
def tw6707113841082798463:=A
def tw9746901515087519452:=A
def tw13177410634674063896:=A
def tw480829909506669009:=A
def tw16906536467411238026:=A
def tw3314143786362844604:=A
def tw8408514402456403777:=A
def tw12409915417874342407:=A
def tw12740692763255036000:=A
def tw3105451386036433885:=A
def tw13383306551100868464:=A
def tw13337293482115323266:=A
def tw612862322836996645:=A
def tw15566928917628492161:=A
def tw8416529770105884409:=A
def tw15149952090015108872:=A
def tw17821466097196317003:=A
def tw16496857829328116044:=A
def tw8269367382603917829:=A
def tw9387745189664136937:=A
def tw4924110625330727750:=A
def tw8119881530291889089:=A
def tw5734618986648460908:=A
def tw13294311002278339166:=A
def tw6381419901266130222:=A
def tw4171678462856256454:=A
def tw4768634762848416435:=A
def tw12237877928780879103:=A
def tw12629903358213643309:=A
def tw11079828417688620724:=A
def tw5678346346211369953:=A
def tw2321816554428607280:=A
def tw5293390819737331289:=A
def tw7380833856163905736:=A
def tw18295790063311454060:=A
def tw16175276709679454751:=A
def tw15564276425815640635:=A
def tw2866121171748074186:=A
def tw10147658903529517814:=A
def tw12711679700452659978:=A
def tw3683778510129048087:=A
def tw4950403968356008110:=A
def tw10874316729293906858:=A
def tw12118000046449163591:=A
def tw14574801432027512755:=A
def tw1625080806587739848:=A
def tw999798209818781672:=A
def tw3810338749695602999:=A
def tw10895054467252067526:=A
def tw8352470293576582857:=A
def tw16401934584784274106:=A
def tw15688172546075569117:=A
def tw17656766251404061198:=A
def tw7995362448368537469:=A
def tw1976505206021243879:=A
def tw5897612983314593646:=A
def tw13790858721211988464:=A
def tw16115155874713506467:=A
def tw12649782002744950493:=A
def tw17197158672614542318:=A
def tw6207176494656529804:=A
def tw6081921254191324426:=A
def tw15205425988870721313:=A
def tw13870153662132920491:=A
def tw3199103547748192838:=A
def tw14517287926952318261:=A
def tw3173534031939492945:=A
def tw7000300075881102575:=A
def tw2656788454239962097:=A
def tw14497727239971306367:=A
def tw3975253019698251321:=A
def tw8383268338085895543:=A
def tw16958243865122950064:=A
def tw3343445320678177929:=A
def tw17067295170570645592:=A
def tw8643116662766533202:=A
def tw10383673109516279431:=A
def tw14210890002308233579:=A
def tw757079261281740938:=A
def tw1982079694162106894:=A
def tw8025084765662995669:=A
def tw6068950659093879613:=A
def tw807531904560671035:=A
def tw17743408960866722510:=A
def tw12464766053444552404:=A
def tw17449020081951674710:=A
def tw1613116972386908190:=A
def tw5098551885099359569:=A
def tw17861066769153400444:=A
def tw2462912638960843985:=A
def tw6127190174262240918:=A
def tw10875463905939285979:=A
def tw8919302590299486024:=A
def tw7613857476909055813:=A
def tw5901363791540438844:=A
def tw5486226609284752418:=A
def tw12696600883282566439:=A
def tw18105285910621931680:=A
def tw15533503492667675913:=A
def tw4588413851689716618:=A
def tw6454446336052903152:=A
def tw1887099378405440850:=A
def tw14431720936831517352:=A
def tw4868334931027891882:=A
def tw891787732878383699:=A
def tw11336253725339858928:=A
def tw15832999045522443761:=A
def tw544173102793226557:=A
def tw16275787546110486726:=A
def tw6650461044873433052:=A
def tw16656299143469825513:=A
def tw3404873503106905745:=A
def tw10242451874928486539:=A
def tw13467322939085005891:=A
def tw11615019562542576733:=A
def tw8272817396058243321:=A
def tw8399098705505230059:=A
def tw2305881189932309285:=A
def tw9001875181463519149:=A
def tw4218790737952374519:=A
def tw17204297501091165112:=A
def tw799341379326975648:=A
def tw1921391257341544841:=A
def tw3459265974087741279:=A
def tw670465573061467203:=A
def tw10936777179133785780:=A
def tw4788878847521262168:=A
def tw1014637456484912126:=A
def tw7976502392129159676:=A
def tw13724452099449386491:=A
def tw8577089030196625639:=A
def tw15989303212955285315:=A
def tw8590288500278120515:=A
def tw12829507556594621215:=A
def tw5776136370200156792:=A
def tw18195182924450695511:=A
def tw14856888987745899463:=A
def tw1819255440876223710:=A
def tw12876116671307685997:=A
def tw2512408688544751470:=A
def tw12869217540446652890:=A
def tw428092273266315144:=A
def tw12550770813317053977:=A
def tw6766378078585498003:=A
def tw6498334528663615478:=A
def tw3810570522144960214:=A
def tw4170516301191304579:=A
def tw14139026862911339306:=A
def tw15201286185872193147:=A
def tw846297522682114974:=A
def tw7613945582906998725:=A
def tw12494888245299231016:=A
def tw9722632081671974098:=A
def tw4640724917100965312:=A
def tw4769821431679368130:=A
def tw1252854909445205041:=A
def tw11192643925408225281:=A
def tw14560573928864763818:=A
def tw2367325634123391141:=A
def tw17662344363894024548:=A
def tw10925335251469727208:=A
def tw12876064707754696378:=A
def tw16285329926789087883:=A
def tw15373703851562958014:=A
def tw5805905742469029177:=A
def tw16103849850496634939:=A
def tw4209717502836232480:=A
def tw3125960719983571848:=A
def tw18230178534529381785:=A
def tw4570111826955561243:=A
def tw2910385600587045654:=A
def tw17963964198891936676:=A
def tw12962497063298326498:=A
def tw17362494058136835672:=A
def tw452842511749404161:=A
def tw9746214513668125432:=A
def tw1535588207084551279:=A
def tw10599938827571368224:=A
def tw16530489862217454893:=A
def tw876206183137641144:=A
def tw6667815254911646788:=A
def tw1397303283331804279:=A
def tw12135189313929291683:=A
def tw13925877587632400325:=A
def tw10196768644732416780:=A
def tw7522001649326652513:=A
def tw6712194924023145494:=A
def tw16109372258727991565:=A
def tw8559517257967667466:=A
def tw5102460946473063141:=A
def tw14814673180317915700:=A
def tw12977279227502587607:=A
def tw2304379251839397102:=A
def tw18373065035072037172:=A
def tw17896612028031085017:=A
def tw16229209127682248589:=A
def tw4719063310657182621:=A
def tw6455845175183424153:=A
def tw6515953530934532768:=A
def tw11587955951900863698:=A
def tw16237762584071213788:=A
def tw11151619158091525091:=A
def tw15309079848183770524:=A
def tw11273041486466551846:=A
def tw5073790198343104882:=A
def tw17123178472405020103:=A
def tw7803649310394182010:=A
def tw2608567993692976607:=A
def tw17784850919643140607:=A
def tw2976117146107443816:=A
def tw6766580051018981234:=A
def tw9544026089342320630:=A
def tw4040260094072895976:=A
def tw7282745182861764756:=A
def tw8018989035897545986:=A
def tw8330952907988395303:=A
def tw1422313219903470601:=A
def tw5320702786494000081:=A
def tw17869975865946814897:=A
def tw13066358836101814915:=A
def tw7451905468542833597:=A
def tw14568449535678555946:=A
def tw7779959011674639804:=A
def tw10829458402184033698:=A
def tw7845872953664198349:=A
def tw17974384156558142227:=A
def tw6531376189190222733:=A
def tw9806666330580929782:=A
def tw17041991840579044601:=A
def tw11953781441336167498:=A
def tw2086631506510373192:=A
def tw13423622936843584764:=A
def tw1012361349325877821:=A
def tw4898026214463823928:=A
def tw17698704350827878285:=A
def tw16256441300576474876:=A
def tw7684487725183542926:=A
def tw14166196953294261902:=A
def tw11454252539852477091:=A
def tw2236755162388048479:=A
def tw18387650150990424433:=A
def tw17260493314774615805:=A
def tw7249652514872940865:=A
def tw9725021084223525626:=A
def tw2537931557510868981:=A
def tw7890596953891613788:=A
def tw17719728818120068181:=A
def tw1635022588487117616:=A
def tw17130245016438642246:=A
def tw16307707646766795581:=A
def tw15399907426655090358:=A
def tw7470013935711676318:=A
def tw8668149382578428375:=A
def tw15741700470354863883:=A
def tw8289400949097046189:=A
def tw5796354222422608987:=A
def tw6566618420281934:=A
def tw3222278782482380304:=A
def tw5402249366112354979:=A
def tw17164383140453370395:=A
def tw3268265519342814607:=A
def tw17347454772498655404:=A
def tw14679806638718605512:=A
def tw16205109500356779066:=A
def tw3974152918291533672:=A
def tw4754365596532378047:=A
def tw6232080684201472732:=A
def tw7321584467024264148:=A
def tw3955986520655104412:=A
def tw3812028171767442716:=A
def tw10070804522480449196:=A
def tw16570786720924097770:=A
def tw12291753297600562012:=A
def tw10671828304227620169:=A
def tw11897717083992391400:=A
def tw3998398428148030388:=A
def tw3456623496861543869:=A
def tw3762306804915933987:=A
def tw18082680734076937219:=A
def tw11040825799340251285:=A
def tw6435670951450185984:=A
def tw4265850918314828415:=A
def tw5071919506433949198:=A
def tw9260378047223084069:=A
def tw6449190631224713292:=A
def tw3112429581023547943:=A
def tw5647864574477489665:=A
def tw333583748066197110:=A
def tw18255404467826089762:=A
def tw17637551073024348614:=A
def tw14333544728242365436:=A
def tw17971676594858020690:=A
def tw17430205856086898164:=A
def tw8569027658895312972:=A
def tw13021059552284102479:=A
def tw888132650186811988:=A
def tw828056024939588000:=A
def tw14728723275428758510:=A
def tw3028926083550364057:=A
def tw5115476493328737885:=A
def tw803859442106103436:=A
def tw1080700006314346644:=A
def tw7661832156752021035:=A
def tw14075178694198228753:=A
def tw10907391636593693970:=A
def tw1951045429614898598:=A
def tw12221555665107904926:=A
def tw12557769604369416430:=A
def tw12149302876761508202:=A
def tw6058378993454661626:=A
def tw2775396313129547428:=A
def tw7830629276484211593:=A
def tw982560976839675504:=A
def tw12833947400113492166:=A
def tw14345562132136545540:=A
def tw7716820226725407877:=A
def tw5962627729488381771:=A
def tw7929640520542984453:=A
def tw884059145510264010:=A
def tw10699407837109476802:=A
def tw9247658263007524724:=A
def tw3506512066687448480:=A
def tw9610726530385051774:=A
def tw8281523328739849912:=A
def tw16269368082590959529:=A
def tw14793013804824869981:=A
def tw15459455144867644326:=A
def tw13814004702073501669:=A
def tw3029852977388229646:=A
def tw13158425560686309300:=A
def tw2316539691658765527:=A
def tw13700621096757390547:=A
def tw2671655128345628175:=A
def tw14279960228734115912:=A
def tw9221430085559818832:=A
def tw1088692219920020602:=A
def tw15942684835789789487:=A
def tw2051409578822353534:=A
def tw15144710454662140524:=A
def tw4424551920762525699:=A
def tw500868675978126160:=A
def tw14541005305830221311:=A
def tw857469055436470443:=A
def tw7439575562449295702:=A
def tw9445451236469955387:=A
def tw12847644182280273618:=A
def tw7844069586390513008:=A
def tw17132207802985990308:=A
def tw10818889477481085253:=A
def tw11277574374343807151:=A
def tw3857263333814641470:=A
def tw2067723777617599883:=A
def tw5266742908149448401:=A
def tw9917203430921899224:=A
def tw6846200578177281708:=A
def tw12932903420030652473:=A
def tw5227809002895711924:=A
def tw17186005699333237546:=A
def tw10234915967203826555:=A
def tw6878024787957991413:=A
def tw10007411396671696613:=A
def tw11607805686811502034:=A
def tw12356021495744459628:=A
def tw14786503066443513839:=A
def tw5196160543931855155:=A
def tw1450881378762983150:=A
def tw18164189302063226315:=A
def tw11936995450923721628:=A
def tw1035503724928835527:=A
def tw7070210977369740762:=A
def tw8331973007464152698:=A
def tw9839346839192117915:=A
def tw6341822008880759003:=A
def tw10696652717036330658:=A
def tw12809788781938459499:=A
def tw15234240111613058569:=A
def tw6289197191216398940:=A
def tw17495881415371897999:=A
def tw11227884535216515135:=A
def tw4329306826757983850:=A
def tw15523922138108190246:=A
def tw7468727024169554154:=A
def tw17701328389417463424:=A
def tw17108682257543074861:=A
def tw8999559765510592377:=A
def tw14134379338385194387:=A
def tw16488607150827929282:=A
def tw7822013112032934038:=A
def tw9757074474933493440:=A
def tw13295704053362595847:=A
def tw4180101509539245183:=A
def tw9962418760945406050:=A
def tw12718612220689870738:=A
def tw3788772014149755174:=A
def tw5634151482396758240:=A
def tw8472697214298850164:=A
def tw17570509445847580414:=A
def tw3794220679723124481:=A
def tw6385529401280152062:=A
def tw9524518906428321964:=A
def tw11414119711712004833:=A
def tw7773504467932542270:=A
def tw2565351972500760935:=A
def tw8896352889252549814:=A
def tw3211687289105081006:=A
def tw9712136527352899355:=A
def tw2377308710366028375:=A
def tw8776770756819070316:=A
def tw15225332579556243176:=A
def tw4723787954990577340:=A
def tw16867096813858660809:=A
def tw9825859731914700964:=A
def tw5679570950571409650:=A
def tw16448676403291746579:=A
def tw1105837973531982728:=A
def tw12780881840741157306:=A
def tw3302319216010004292:=A
def tw1713156846745171867:=A
def tw2103456241558337223:=A
def tw8088732932480780420:=A
def tw9059937348426287209:=A
def tw14239432107786713131:=A
def tw7177338460636591580:=A
def tw7786677914034681988:=A
def tw2896703901015224195:=A
def tw220677088936066577:=A
def tw3885313090954376144:=A
def tw1128348596072947701:=A
def tw10393886385942881009:=A
def tw12292906935544458286:=A
def tw13326868189938593150:=A
def tw16584127079891442865:=A
def tw15476544859757588837:=A
def tw8126443298418566877:=A
def tw17311274769643918242:=A
def tw7334248845499685764:=A
def tw2503846163805864124:=A
def tw6400248389586479577:=A
def tw5106123347721008290:=A
def tw16798467561266328274:=A
def tw12612204703400128841:=A
def tw4144819383078699286:=A
def tw11147117730913898307:=A
def tw4806268862455609328:=A
def tw9297318355482256503:=A
def tw14637358334870819178:=A
def tw7028063314416541132:=A
def tw1209720653154232198:=A
def tw9509447333196811905:=A
def tw11209750170652599755:=A
def tw3432132637015033673:=A
def tw6815667921103612162:=A
def tw3906754673857718949:=A
def tw2090205506522743130:=A
def tw14254621764821748828:=A
def tw17425937995043322649:=A
def tw373065315874586923:=A
def tw14111491100615862519:=A
def tw10708223146118651492:=A
def tw16708981103961760564:=A
def tw4043148821406017626:=A
def tw1390109508276135513:=A
def tw12171577908484138354:=A
def tw3863403702602939814:=A
def tw7130589087949165531:=A
def tw2885147992704089249:=A
def tw6525817661751114472:=A
def tw6380807493870290408:=A
def tw7021976415091001641:=A
def tw15069271281064182630:=A
def tw15216479089859931547:=A
def tw423345284130997744:=A
def tw4992356995671143779:=A
def tw9659392335347125073:=A
def tw16903924287465469464:=A
def tw5792265106169080782:=A
def tw9597861255099599992:=A
def tw2711489104339610207:=A
def tw12586190556516072552:=A
def tw11906472874536768445:=A
def tw1903126291601959907:=A
def tw16771295499568265973:=A
def tw4499257904209204147:=A
def tw7193555501269276637:=A
def tw18404063521330658252:=A
def tw17220895691602665673:=A
def tw10194128795564708546:=A
def tw10998343915150870288:=A
def tw2320886540369039338:=A
def tw8004206274103572539:=A
def tw3373110491918621954:=A
def tw12239064139714945176:=A
def tw15434440284735832900:=A
def tw17109930996152030393:=A
def tw18087328562809068087:=A
def tw7348594602126897846:=A
def tw862447977868951606:=A
def tw3008263204520378139:=A
def tw13272504610945704091:=A
def tw824797018042769846:=A
def tw12072802829135307789:=A
def tw15083174532876359662:=A
def tw14658254696389335927:=A
def tw7336344344812659824:=A
def tw13412572060209156058:=A
def tw13523910257889291827:=A
def tw520194297998822909:=A
def tw13278809456085556237:=A
def tw11325060847842403200:=A
def tw2277568627679802767:=A
def tw5230622158679508976:=A
def tw17267618260052754613:=A
def tw9038226972742754082:=A
def tw5593514722818144331:=A
def tw10411508006071892022:=A
def tw1921165311934587177:=A
def tw5514125408013525434:=A
def tw9578429878718019509:=A
def tw16192418988078311159:=A
def tw8166985623705000286:=A
def tw2021336271155450331:=A
def tw5978438607452443526:=A
def tw6848912972918003917:=A
def tw15530151957754944063:=A
def tw7636574776371312073:=A
def tw5741801548637672665:=A
def tw7033882931294258662:=A
def tw10891054232620793217:=A
def tw12480679962508375977:=A
def tw3063928826164606928:=A
def tw15734922763202457661:=A
def tw1250750463660198617:=A
def tw18330652542560668889:=A
def tw17744370242668122805:=A
def tw14787430101999643098:=A
def tw7039413970001822932:=A
def tw10008192347212855730:=A
def tw2008552940280697342:=A
def tw16780285593410833145:=A
def tw18077804314712431955:=A
def tw16407147864228438881:=A
def tw3566906360513015687:=A
def tw16889484823980962733:=A
def tw1306319669024162852:=A
def tw14232876856209179772:=A
def tw17923595913812447142:=A
def tw14785452698993717334:=A
def tw2030070087189672399:=A
def tw60464790676949430:=A
def tw16231027417747320569:=A
def tw13491076748231791703:=A
def tw4664219291091312563:=A
def tw1387329636951720631:=A
def tw8331262601564567269:=A
def tw13775552575860308106:=A
def tw5194711676709984005:=A
def tw1249118550022496774:=A
def tw11112386831996348380:=A
def tw8746713215350891367:=A
def tw8903759264055726994:=A
end fin
set_option maxRecDepth 100000 in
set_option maxHeartbeats 8000000 in
set_option Elab.async true in
theorem fin:PySem.Challenge.rw_np0061_01.Holds:=by
  (w_on;o_law;o_head (kHook hdx.heap_1_1 [2,3,15,17,18,20,21,22,29,31,32,34,35,36,37,38,39,49,51,52,54,55,56,57,58,59,60,63,64,73,75,76,78,79,80,81,82,83,84,94,95,97,98,100,101,102,103,104,105,106,116,118,119,121,122,123,124,125,126,127,137,139,140,142,143,144,145,146,147,148,158,160,161,163,164,165,167,168,170,171,172,174,175,177,178,179,180,181,182,183,186,187,189,190,192,193,194,196,197,199,200,201,203,204,206,207,208,210,211,213,214,215,217,218,220,221,222,224,225,227,228,229,231,232,234,235,236,238,239,241,242,243,245,246,248,249,250,252,253,255,256,257,259,260,262,263,264,266,267,269,270,271,273,274,276,277,278,280,281,283,284,285,287,288,290,291,292,294,295,297,298,299,301,302,304,305,306,308,309,311,312,313,315,316,318,319,320,322,323,325,326,327,330,331,332,334,335,337,338,339,341,342,344,345,346,348,349,351,352,353,355,356,358,359,360,362,363,365,366,367,369,370,372,373,374,376,377,379,380,381,383,384,386,387,388,390,391,393,394,395,397,398,400,401,402,404,405,407,408,409,411,412,414,415,416,418,419,421,422,423,425,426,428,429,430,432,433,435,436,437,439,440,442,443,444,446,447,449,450,451,453,454,456,457,458,461,462,463,465,466,468,469,470,472,473,475,476,477,479,480,482,483,484,486,487,489,490,491,494,495,496,499,500,501,503,504,506,507,508,510,511,513,514,515,517,518,520,521,522,524,525,527,528,529,531,532,534,535,536,538,539,541,542,543,545,546,548,549,550,552,553,555,556,557,559,560,562,563,564,566,567,569,570,571,574,575,576,578,579,581,582,583,586,587,588,590,591,593,594,595,597,598,600,601,602,604,605,607,608,609,611,612,614,615,616,619,620,621,624,625] (fun _=>by kernel_rfl));(case hw=>w_witness2))
  k_fill
  intro w s₀ s₁ mg mb G Y fa o pm cd doc dV kV ho hd hcd hD hmg hg args vals as hpre hlay hrd hwl hlo;have KX:=kIn_of Y;refine Ground.open G ?_;intro T B D TE TW;clear hcd hD hd
  wrow_args hpre hlay hrd hwl hlo
  have hI:=‹IntsAre _ _›;refine Mine.top_run KX T hmg ‹s₁.heap.IsList _ _› hI (by lia) fun s' h1 h2=> ?_;exact GoodW.toG ⟨.inl ⟨.bool true, .bool true,[],rfl,fun _=>rfl, .bool true,by wrow_post,fun _=>⟨List.nodup_nil,fun a ha=>nomatch ha⟩⟩,h1,h2.2.2,h2.1.trans hg⟩
end Mine
theorem PySem.Challenge.cw_np0061_01_holds : PySem.Challenge.rw_np0061_01.Holds :=
  Mine.fin
