import PyProof.Rows.All
import PySem.Syntax
import Wide.All
import OpenK.AllK
import Wide.FinOn
import KE.KRevSl
import PyProof.IsiPairs
import PyProof.LetGo
import PyProof.IsiNone
import PyProof.AttrMissHeap
import KE.KDictOf
import PyProof.WalksPairs
import PyProof.WalksEnum
import PyProof.RangeFor
import Lean
import PySem.Challenge.RW_nt0067_01
set_option linter.all false
set_option tactic.hygienic false
set_option backward.match.sparseCases false
section
namespace Mine
open PySem Sem
theorem runs_size{M:Model}{Γ:Ctx}{p:Pos}{t:Sem Fin}{fs:List Frame}{s s':Shared}{e:End}(h:Runs M Γ p t fs s e s'):s.heap.objs.size≤s'.heap.objs.size:=by
  induction h<;>(try simp only[Shared.setGen,Heap.size_push,Heap.size_update]at *)<;>lia
theorem wakes_size{M:Model}{Γ:Ctx}{p:Pos}{g:Nat}{r:Resume}{s s':Shared}{res:GenResult}(h:Wakes M Γ p g r s res s'):s.heap.objs.size≤s'.heap.objs.size:=by
  unfold Wakes at h
  split at h
  · exact h.elim
  · split at h
    · obtain⟨e₁,s₁,hr,_,_,rfl⟩:=h;exact(runs_size hr:(s.setGen g .running).heap.objs.size≤s₁.heap.objs.size)
    · rw[h.2];exact Nat.le_refl _
    · rw[h.2];exact Nat.le_refl _
  · obtain⟨e₁,s₁,hr,_,_,rfl⟩:=h;exact(runs_size hr:(s.setGen g .running).heap.objs.size≤s₁.heap.objs.size)
  · rw[h.2];exact Nat.le_refl _
  · rw[h.2];exact Nat.le_refl _
theorem wp_size{α:Type}(M:Model)(Γ:Ctx)(n:Nat)(t:Sem α):∀ (Q:α→Pos→Shared→Prop) (E:Value→Pos→Shared→Prop) (p:Pos) (s:Shared),n≤s.heap.objs.size→wp M Γ t Q E p s→
    wp M Γ t (fun a p' s'=>n≤s'.heap.objs.size∧Q a p' s') (fun e p' s'=>n≤s'.heap.objs.size∧E e p' s') p s:=by
  induction t with
  | pure a=>intro Q E p s hn h;exact⟨hn,h⟩
  | raise e=>intro Q E p s hn h;exact⟨hn,h⟩
  | unsupported _=>intro Q E p s _ h;exact h
  | finish _=>intro Q E p s _ h;exact h
  | rule _ k ih=>intro Q E p s hn h;exact ih () Q E p s hn h
  | «at» p' k ih=>intro Q E p s hn h;exact ih () Q E p' s hn h
  | load a _ k ih=>intro Q E p s hn h;obtain⟨o,ho,h⟩:=h;exact⟨o,ho,ih o Q E p s hn h⟩
  | update a _ f k ih=>intro Q E p s hn h;exact⟨h.1,ih () Q E p _ (by show n≤(s.heap.update _ _).objs.size;rw[Heap.size_update];exact hn) h.2⟩
  | loadIfAlive a k ih=>intro Q E p s hn h;exact ih _ Q E p s hn h
  | point _ k ih=>intro Q E p s hn h;exact ih () Q E p s hn h
  | register _ _=>intro Q E p s _ h;exact h
  | alloc o k ih=>intro Q E p s hn h;exact ih _ Q E p _ (by show n≤(s.heap.push _).objs.size;rw[Heap.size_push];lia) h
  | fresh k ih=>intro Q E p s hn h;exact ih _ Q E p _ hn h
  | ask k ih=>intro Q E p s hn h;exact ih _ Q E p s hn h
  | choose src m k ih=>intro Q E p s hn h;exact⟨h.1,ih _ Q E p _ hn h.2⟩
  | os q _ k ih=>intro Q E p s hn h;exact ih _ Q E p _ hn h
  | call c hd _ _ k ih=>intro Q E p s hn h;obtain⟨r,s',hr,h⟩:=h;exact⟨r,s',hr,ih r Q E p s' (Nat.le_trans hn (runs_size hr)) h⟩
  | handled own k ih=>intro Q E p s hn h;exact ih _ Q E p s hn h
  | genState g k ih=>intro Q E p s hn h;obtain⟨st,hs,h⟩:=h;exact⟨st,hs,ih _ Q E p s hn h⟩
  | newGen c k ih=>intro Q E p s hn h;exact ih _ Q E p _ hn h
  | resume g r _ k ih=>intro Q E p s hn h;obtain⟨res,s',hw,h⟩:=h;exact⟨res,s',hw,ih res Q E p s' (Nat.le_trans hn (wakes_size hw)) h⟩
  | yield _ _ _ _=>intro Q E p s _ h;exact h
  | stack k ih=>intro Q E p s hn h;exact ih _ Q E p s hn h
  | fork _ _=>intro Q E p s _ h;exact h
  | thread k ih=>intro Q E p s hn h;exact ih _ Q E p s hn h
  | await _ _ _ _ _=>intro Q E p s _ h;exact h
theorem sized{α:Type}{M:Model}{A:Around}{s:Shared}{t:Sem α}{Q:α→Shared→Prop}{E:Value→Shared→Prop}(h:wpAny M A t (fun a s'=>s.heap.objs.size≤s'.heap.objs.size→Q a s') E s):wpAny M A t Q E s:=
  fun Γ p hΓ=>Sem.wp_mono M Γ t (fun zz zz zz q=>q.2 q.1) (fun zz zz zz q=>q.2) p s (wp_size M Γ _ t _ _ p s (Nat.le_refl _) (h Γ p hΓ))
end Mine
end
section
set_option genInjectivity false
set_option genSizeOf false
set_option genSizeOfSpec false
namespace Mine
open PySem (CmpOp)
inductive V where
  | undef
  | none
  | bool (b:Bool)
  | int (i:Int)
  | str (n:Nat)
  | tup (vs:List V)
  | lst (vs:List V)
  | dct (ks:List V) (vs:List V)
  | inst (c:Nat) (vs:List V)
  | ref (i:Nat)
  deriving Inhabited
set_option genCtorIdx false
inductive O where
  | list (vs:List V)
  | dict (ks:List V) (vs:List V)
  | inst (c:Nat) (vs:List V)
  | frz (v:V)
  | lock (vs:List V)
  deriving Inhabited
set_option genCtorIdx true
inductive Bop where|add|sub|mul|mod|fdiv
inductive Bi where|len|list|dict|max|sorted|isBool|int
set_option genCtorIdx false
inductive Tp where
  | one (i:Nat)
  | two (i j:Nat)
inductive Ex where
  | none
  | bool (b:Bool)
  | int (i:Int)
  | str (n:Nat)
  | var (i:Nat)
  | cst (g:Nat)
  | tup (es:List Ex)
  | lst (own:Bool) (es:List Ex)
  | dct (own:Bool) (kvs:List Ex)
  | bin (op:Bop) (l r:Ex)
  | cmp (op:CmpOp) (l r:Ex)
  | cmp2 (o1 o2:CmpOp) (a b c:Ex)
  | and (es:List Ex)
  | or (es:List Ex)
  | not (e:Ex)
  | neg (e:Ex)
  | ite (c t e:Ex)
  | item (o i:Ex)
  | slc (o:Ex) (lo hi:Option Ex)
  | rev (o:Ex)
  | attr (o:Ex) (n:Nat)
  | call (f:Nat) (args:List Ex)
  | new (c:Nat) (args:List Ex)
  | meth (o:Ex) (m:Nat) (args:List Ex)
  | bi (b:Bi) (own:Bool) (args:List Ex)
  | range (args:List Ex)
  | enum (e:Ex)
  | zip (a b:Ex)
  | comp (tp:Tp) (it elt:Ex) (conds:List Ex)
  | compL (tp:Tp) (it elt:Ex) (conds:List Ex)
  | frz (e:Ex)
  deriving Inhabited
inductive Tg where
  | var (i:Nat)
  | attr (o:Ex) (n:Nat)
  | item (o i:Ex)
  deriving Inhabited
inductive St where
  | assign (t:Tg) (e:Ex)
  | unpack (ts:List Tg) (e:Ex)
  | expr (e:Ex)
  | ret (e:Ex)
  | ite (c:Ex) (t e:List St)
  | whil (c:Ex) (b:List St)
  | for_ (tp:Tp) (it:Ex) (b:List St)
  | brk
  | cont
  | pass
  deriving Inhabited
inductive Fl where
  | next|brk|cont|ret (v:V)
  deriving Inhabited
structure Fn where
  slots:Nat
  params:Nat
  dflts:List V
  pure:Bool
  body:List St
  deriving Inhabited
structure Tab where
  fns:Nat→Option Fn
  csts:Nat→Option V
  attr:Nat→Nat→Option Nat
  meth:Nat→Nat→Option Nat
  init:Nat→Option (Bool×Nat)
  chr:Nat→Nat→Option Nat
abbrev Hp:=List O
abbrev Res(α:Type):=Option (α×Hp)
noncomputable def slot:List V→Nat→V
  | [],_=>.undef
  | v::_,0=>v
  | _::r,n+1=>slot r n
noncomputable def put:List V→Nat→V→List V
  | [],_,_=>[]
  | _::r,0,v=>v::r
  | x::r,n+1,v=>x::put r n v
noncomputable def cell:Hp→Nat→Option O
  | [],_=>.none
  | o::_,0=>some o
  | _::r,n+1=>cell r n
noncomputable def setC:Hp→Nat→O→Hp
  | [],_,_=>[]
  | _::r,0,o=>o::r
  | x::r,n+1,o=>x::setC r n o
noncomputable def view (H:Hp):V→V
  | .ref i=>match cell H i with
    | some (.frz v)=>v
    | _=>.ref i
  | v=>v
noncomputable def lim:Nat:=100000
noncomputable def flat (n:Nat) (v:V):Bool:=match v with
  | .ref _=>false
  | .undef=>false
  | .tup vs=>match n with
    | 0=>false
    | n+1=>vs.all (flat n)
  | _=>true
noncomputable abbrev flatV (v:V):Bool:=flat 4 v
abbrev Rs:=Option (V×Hp)
noncomputable def bd {α β:Type} (x:Option α) (k:α→Option β):Option β:=match x with|some a=>k a|none=>none
noncomputable def b2 {α β γ:Type} (x:Option (α×β)) (k:α→β→Option γ):Option γ:=match x with|some (a,b)=>k a b|none=>none
noncomputable def gd {β:Type} (b:Bool) (t:Option β):Option β:=match b with|true=>t|false=>none
noncomputable def cs {β:Type} (b:Bool) (t e:β):β:=match b with|true=>t|false=>e
noncomputable def oc {α β:Type} (x:Option α) (f:α→β) (e:β):β:=match x with|some a=>f a|none=>e
noncomputable def bx {α β:Type} (x:Option α) (k:α→Option β):Option β:=match x with|some a=>k a|none=>none
noncomputable def bp {α β γ:Type} (x:Option (α×β)) (k:α→β→Option γ):Option γ:=match x with|some (a,b)=>k a b|none=>none
noncomputable def gx {β:Type} (b:Bool) (t:Option β):Option β:=match b with|true=>t|false=>none
noncomputable def cx {β:Type} (b:Bool) (t e:β):β:=match b with|true=>t|false=>e
noncomputable def ox {α β:Type} (x:Option α) (f:α→β) (e:β):β:=match x with|some a=>f a|none=>e
abbrev KV:=V→Hp→Rs
abbrev KL:=List V→Hp→Rs
abbrev KF:=Fl→List V→Hp→Rs
abbrev KB:=Bool→Rs
noncomputable def eachS (f:V→Hp→Res V):List V→Hp→Res (List V)
  | [],H=>some ([],H)
  | v::r,H=>b2 (f v H) fun a H=>b2 (eachS f r H) fun b H=>some (a::b,H)
noncomputable def frz:Nat→V→Hp→Res V
  | 0,_,_=>none
  | n+1,v,H=>match v with
    | .undef=>none
    | .tup vs=>b2 (eachS (frz n) vs H) fun us H=>some (.tup us,H)
    | .ref i=>bd (cell H i) fun o=>match o with
      | .list vs=>b2 (eachS (frz n) vs H) fun us H=>some (.lst us,setC H i (.frz (.lst us)))
      | .dict ks vs=>b2 (eachS (frz n) vs H) fun us H=>some (.dct ks us,setC H i (.frz (.dct ks us)))
      | .inst c vs=>b2 (eachS (frz n) vs H) fun us H=>some (.inst c us,setC H i (.frz (.inst c us)))
      | .frz v=>some (v,H)
      | .lock _=>none
    | v=>some (v,H)
noncomputable def con (H:Hp) (v:V):V:=match v with
  | .ref i=>match cell H i with
    | some (.list vs)=>.lst vs
    | some (.lock vs)=>.lst vs
    | some (.dict ks vs)=>.dct ks vs
    | some (.inst c vs)=>.inst c vs
    | some (.frz v)=>v
    | none=>.undef
  | v=>v
noncomputable def seqC:V→Option (List V)
  | .lst vs=>some vs
  | .tup vs=>some vs
  | _=>none
noncomputable def lstC:V→Option (List V)
  | .lst vs=>some vs
  | _=>none
noncomputable def dctC:V→Option (List V×List V)
  | .dct ks vs=>some (ks,vs)
  | _=>none
noncomputable def insC:V→Option (Nat×List V)
  | .inst c vs=>some (c,vs)
  | _=>none
noncomputable def intC:V→Option Int
  | .int i=>some i
  | _=>none
noncomputable def tupC:V→Option (List V)
  | .tup vs=>some vs
  | _=>none
noncomputable def refC:V→Option Nat
  | .ref i=>some i
  | _=>none
noncomputable def flatK (H:Hp) (v:V) (K:List V→Rs):Rs:=match v with
  | .lst vs=>K vs
  | v=>bx (lstC (con H v)) fun vs=>gd (vs.all flatV) (K vs)
noncomputable def eqA:V→V→Option Bool
  | .none,b=>(match b with
    | .none=>some true
    | .int _=>some false
    | .str _=>some false
    | _=>none)
  | .int a,b=>(match b with
    | .none=>some false
    | .int c=>some (a==c)
    | .str _=>some false
    | _=>none)
  | .str a,b=>(match b with
    | .none=>some false
    | .int _=>some false
    | .str c=>some (a==c)
    | _=>none)
  | .bool a,b=>(match b with
    | .bool c=>some (a==c)
    | _=>none)
  | _,_=>none
noncomputable def eqvs (f:V→V→Option Bool):List V→List V→Option Bool
  | [],b=>some b.isEmpty
  | a::r,b=>match b with
    | []=>some false
    | b::t=>bd (f a b) fun x=>bd (eqvs f r t) fun y=>some (x&&y)
noncomputable def eqv:Nat→V→V→Option Bool
  | 0,a,b=>eqA a b
  | n+1,a,b=>match a with
    | .lst a=>bd (lstC b) fun b=>eqvs (eqv n) a b
    | .tup a=>bd (tupC b) fun b=>eqvs (eqv n) a b
    | a=>eqA a b
noncomputable def eqV (a b:V):Option Bool:=eqv 4 a b
noncomputable def memV (x:V):List V→Option Bool
  | []=>some false
  | y::r=>bd (eqV y x) fun a=>bd (memV x r) fun b=>some (a||b)
noncomputable def truth:V→Option Bool
  | .none=>some false
  | .bool b=>some b
  | .int i=>some (i != 0)
  | _=>none
noncomputable def keyOk:V→Bool
  | .none=>true
  | .int _=>true
  | .str _=>true
  | _=>false
noncomputable def keyEq (a b:V):Bool:=match a with
  | .none=>(match b with|.none=>true|_=>false)
  | .int i=>(match b with|.int j=>i==j|_=>false)
  | .str i=>(match b with|.str j=>i==j|_=>false)
  | _=>false
noncomputable def look (k:V):List V→List V→Option V
  | [],_=>none
  | a::ks,vs=>match vs with
    | []=>none
    | v::vs=>cs (keyEq k a) (some v) (look k ks vs)
noncomputable def store (k v:V):List V→List V→List V×List V
  | [],_=>([k],[v])
  | a::ks,vs=>match vs with
    | []=>([k],[v])
    | u::vs=>cs (keyEq k a) (a::ks,v::vs) (a::(store k v ks vs).1,u::(store k v ks vs).2)
noncomputable def storeAll:List V→List V→List V→List V→List V×List V
  | [],_,ks,vs=>(ks,vs)
  | k::r,t,ks,vs=>match t with
    | []=>(ks,vs)
    | v::t=>storeAll r t (store k v ks vs).1 (store k v ks vs).2
noncomputable def isNone:V→Option Bool
  | .none=>some true
  | .undef=>none
  | _=>some false
noncomputable def eqK (a b:V) (K:KB):Rs:=match a with
  | .lst _=>bd (eqV a b) K
  | .tup _=>bd (eqV a b) K
  | _=>bx (eqA a b) K
noncomputable def inK (x v:V) (K:KB):Rs:=match v with
  | .lst vs=>bd (memV x vs) K
  | .tup vs=>bx (memV x vs) K
  | .dct ks vs=>gx (keyOk x) (K (look x ks vs).isSome)
  | _=>none
noncomputable def i2 (a b:V) (f:Int→Int→Bool) (K:KB):Rs:=bx (intC a) fun x=>bx (intC b) fun y=>K (f x y)
noncomputable def cmpK (H:Hp) (op:CmpOp) (a b:V) (K:KB):Rs:=match op with
  | .Eq=>eqK (con H a) (con H b) K
  | .NotEq=>eqK (con H a) (con H b) fun x=>K !x
  | .Lt=>i2 a b (fun x y=>decide (x<y)) K
  | .LtE=>i2 a b (fun x y=>decide (x≤y)) K
  | .Gt=>i2 a b (fun x y=>decide (x>y)) K
  | .GtE=>i2 a b (fun x y=>decide (x≥y)) K
  | .Is=>(match b with
    | .none=>bx (isNone a) K
    | _=>none)
  | .IsNot=>(match b with
    | .none=>bx (isNone a) fun x=>K !x
    | _=>none)
  | .In=>inK a (con H b) K
  | .NotIn=>inK a (con H b) fun x=>K !x
noncomputable def small (i:Int):Bool:=decide (i.natAbs<4611686018427387904)
noncomputable def addL (H:Hp) (a b:V) (K:V→Rs):Rs:=flatK H a fun xs=>flatK H b fun ys=>gd (decide (xs.length+ys.length<lim)) (K (.lst (xs++ys)))
noncomputable def mulL (H:Hp) (a b:V) (K:V→Rs):Rs:=flatK H a fun xs=>bx (intC b) fun n=>gd (decide (0≤n)) (gd (small n) (gd (decide (n.toNat*xs.length<lim)) (K (.lst (List.replicate n.toNat xs).flatten))))
noncomputable def binK (H:Hp) (op:Bop) (a b:V) (K:V→Rs):Rs:=match op with
  | .add=>ox (intC a) (fun x=>bx (intC b) fun y=>K (.int (x+y))) (addL H a b K)
  | .sub=>bx (intC a) fun x=>bx (intC b) fun y=>K (.int (x - y))
  | .mul=>ox (intC a) (fun x=>bx (intC b) fun y=>gd (small x) (gd (small y) (K (.int (x*y))))) (mulL H a b K)
  | .mod=>bx (intC a) fun x=>bx (intC b) fun y=>gd (decide (0<y)) (K (.int (x.fmod y)))
  | .fdiv=>bx (intC a) fun x=>bx (intC b) fun y=>gd (decide (0<y)) (gd (decide (y<1073741824)) (K (.int (x.fdiv y))))
noncomputable def nth:List V→Nat→Option V
  | [],_=>none
  | v::r,k=>match k with
    | 0=>some v
    | k+1=>nth r k
noncomputable def at_ (vs:List V) (k:Int):Option V:=match k with
  | .ofNat n=>nth vs n
  | .negSucc n=>gd (decide (n<vs.length)) (nth vs (vs.length - (n+1)))
noncomputable def itemC (i v:V) (K:V→Rs):Rs:=match v with
  | .lst vs=>bx (intC i) fun k=>bd (at_ vs k) K
  | .tup vs=>bx (intC i) fun k=>bd (at_ vs k) K
  | .dct ks vs=>gx (keyOk i) (bd (look i ks vs) K)
  | _=>none
noncomputable def itemK (T:Tab) (H:Hp) (o i:V) (K:V→Rs):Rs:=match o with
  | .str n=>bx (intC i) fun k=>gd (decide (0≤k)) (bd (T.chr n k.toNat) fun m=>K (.str m))
  | o=>itemC i (con H o) K
noncomputable def clip (k:Int) (n:Nat):Nat:=match k with
  | .ofNat m=>min m n
  | .negSucc m=>n - (m+1)
noncomputable def bound (v:V) (n d:Nat) (K:Nat→Rs):Rs:=match v with
  | .none=>K d
  | .int k=>gd (small k) (K (clip k n))
  | _=>none
noncomputable def sliceK (H:Hp) (o lo hi:V) (K:V→Rs):Rs:=flatK H o fun vs=>gd (decide (vs.length<lim)) (bound lo vs.length 0 fun a=>bound hi vs.length vs.length fun b=>K (.lst ((vs.take b).drop a)))
noncomputable def revK (H:Hp) (o:V) (K:V→Rs):Rs:=flatK H o fun vs=>gd (decide (vs.length<lim)) (K (.lst vs.reverse))
noncomputable def attrK (T:Tab) (H:Hp) (o:V) (n:Nat) (K:V→Rs):Rs:=bp (insC (con H o)) fun c vs=>bx (T.attr c n) fun k=>bx (nth vs k) K
noncomputable def mkList (own:Bool) (vs:List V) (H:Hp) (K:KV):Rs:=cx own (K (.ref H.length) (H++[.list vs])) (gd (vs.all flatV) (K (.lst vs) H))
noncomputable def mkDct (own:Bool) (a b:List V) (H:Hp) (K:KV):Rs:=gx (a.all keyOk&&decide (a.length<lim)) (cx own (K (.ref H.length) (H++[.dict (storeAll a b [] []).1 (storeAll a b [] []).2])) (gx (b.all flatV) (K (.dct (storeAll a b [] []).1 (storeAll a b [] []).2) H)))
noncomputable def pair1 (v:V):Option (V×V):=bd (tupC v) fun l=>match l with
  | [a,b]=>some (a,b)
  | _=>none
noncomputable def pairs:List V→Option (List V×List V)
  | []=>some ([],[])
  | v::r=>b2 (pair1 v) fun k u=>b2 (pairs r) fun a b=>some (k::a,u::b)
noncomputable def a1 {β:Type} (args:List V) (f:V→Option β):Option β:=match args with
  | [v]=>f v
  | _=>none
noncomputable def a2 {β:Type} (args:List V) (f:V→V→Option β):Option β:=match args with
  | [v,w]=>f v w
  | _=>none
noncomputable def isBool:V→Option Bool
  | .bool _=>some true
  | .int _=>some false
  | .str _=>some false
  | .none=>some false
  | _=>none
noncomputable def boolC:V→Option Bool
  | .bool b=>some b
  | _=>none
noncomputable def biK (b:Bi) (own:Bool) (args:List V) (H:Hp) (K:KV):Rs:=match b with
  | .len=>a1 args fun v=>bx (seqC (con H v)) fun vs=>K (.int vs.length) H
  | .list=>a1 args fun v=>bx (lstC (con H v)) fun vs=>gd (decide (vs.length<lim)) (mkList own vs H K)
  | .dict=>a1 args fun v=>bx (lstC (con H v)) fun vs=>b2 (pairs vs) fun ks us=>gd (ks.all keyOk) (gd (us.all flatV) (gd (decide (vs.length<lim)) (K (.dct (storeAll ks us [] []).1 (storeAll ks us [] []).2) H)))
  | .max=>a2 args fun v w=>bx (intC v) fun x=>bx (intC w) fun y=>K (.int (cs (decide (y>x)) y x)) H
  | .sorted=>a1 args fun v=>bx (lstC (con H v)) fun vs=>gd vs.isEmpty (mkList own [] H K)
  | .isBool=>a1 args fun v=>bx (isBool v) fun b=>K (.bool b) H
  | .int=>a1 args fun v=>bx (boolC v) fun b=>K (.int (cs b 1 0)) H
noncomputable def rangeL:Nat→Int→List V
  | 0,_=>[]
  | n+1,a=>.int a::rangeL n (a+1)
noncomputable def rangeAB (a b:Int) (K:List V→Rs):Rs:=gd (small a) (gd (small b) (gd (decide ((b - a).toNat<lim)) (K (rangeL (b - a).toNat a))))
noncomputable def rangeK (vs:List V) (K:List V→Rs):Rs:=match vs with
  | []=>none
  | v::r=>match r with
    | []=>bx (intC v) fun b=>rangeAB 0 b K
    | w::r=>gx r.isEmpty (bx (intC v) fun a=>bx (intC w) fun b=>rangeAB a b K)
noncomputable def enumL:Int→List V→List V
  | _,[]=>[]
  | k,v::r=>.tup [.int k,v]::enumL (k+1) r
noncomputable def zipL:List V→List V→List V
  | [],_=>[]
  | a::r,b=>match b with
    | []=>[]
    | b::t=>.tup [a,b]::zipL r t
noncomputable def frzK (v:V) (H:Hp) (K:KV):Rs:=match v with
  | .tup vs=>b2 (frz 8 (.tup vs) H) K
  | .ref i=>b2 (frz 8 (.ref i) H) K
  | .undef=>none
  | v=>K v H
noncomputable def walkL (v:V) (H:Hp) (K:KL):Rs:=frzK v H fun u H=>bx (lstC u) fun vs=>K vs H
noncomputable def walkK (v:V) (H:Hp) (K:KL):Rs:=match v with
  | .tup vs=>K vs H
  | v=>walkL v H K
noncomputable def bindTp (tp:Tp) (v:V) (loc:List V):Option (List V):=match tp with
  | .one i=>some (put loc i v)
  | .two i j=>bp (pair1 v) fun a b=>some (put (put loc i a) j b)
noncomputable def tpAll (tp:Tp) (vs:List V) (t:Rs):Rs:=match tp with
  | .one _=>t
  | .two _ _=>gd (vs.all fun v=>(pair1 v).isSome) t
noncomputable def bindC (tp:Tp) (v:V) (loc:List V):Option (List V):=match tp with
  | .one _=>some (loc++[v])
  | .two _ _=>bp (pair1 v) fun a b=>some (loc++[a,b])
noncomputable def own (H:Hp) (o:V) (f:Nat→List V→Rs):Rs:=bx (refC o) fun i=>bx (cell H i) fun c=>match c with
  | .list vs=>f i vs
  | _=>none
noncomputable def popL:List V→Option (List V×V)
  | []=>none
  | v::r=>match r with
    | []=>some ([],v)
    | w::r=>b2 (popL (w::r)) fun a b=>some (v::a,b)
noncomputable def index (x:V) (k:Int):List V→Option Int
  | []=>none
  | v::r=>cs (keyEq x v) (some k) (index x (k+1) r)
noncomputable def methK (m:Nat) (o:V) (args:List V) (H:Hp) (K:KV):Rs:=match m with
  | 0=>own H o fun i vs=>a1 args fun v=>gd (decide (vs.length<lim)) (K .none (setC H i (.list (vs++[v]))))
  | 1=>own H o fun i vs=>gx args.isEmpty (b2 (popL vs) fun r v=>K v (setC H i (.list r)))
  | 2=>own H o fun i vs=>a1 args fun w=>bx (lstC (con H w)) fun us=>gd (decide (vs.length+us.length<lim)) (K .none (setC H i (.list (vs++us))))
  | 3=>a1 args fun x=>bx (lstC o) fun vs=>gd (keyOk x&&vs.all keyOk) (bd (index x 0 vs) fun i=>K (.int i) H)
  | 4=>bp (dctC (con H o)) fun ks vs=>match args with
    | []=>none
    | k::r=>gx (keyOk k) (match r with
      | []=>K ((look k ks vs).getD .none) H
      | d::r=>gx r.isEmpty (K ((look k ks vs).getD d) H))
  | _=>none
noncomputable def kindV (H:Hp) (m:Nat) (o:V):Bool:=match m with
  | 0=>(lstC (con H o)).isSome
  | 1=>(lstC (con H o)).isSome
  | 2=>(lstC (con H o)).isSome
  | 3=>(lstC (con H o)).isSome
  | 4=>(dctC (con H o)).isSome
  | _=>false
noncomputable def setAttrK (T:Tab) (o:V) (n:Nat) (v:V) (H:Hp) (K:Hp→Rs):Rs:=bx (refC o) fun i=>bx (cell H i) fun x=>match x with
  | .inst c vs=>bx (T.attr c n) fun k=>cx (decide (k<vs.length)) (K (setC H i (.inst c (put vs k v)))) (gx (decide (k=vs.length)) (K (setC H i (.inst c (vs++[v])))))
  | _=>none
noncomputable def setItemK (o i v:V) (H:Hp) (K:Hp→Rs):Rs:=bx (refC o) fun r=>bx (cell H r) fun x=>match x with
  | .list vs=>bx (intC i) fun k=>gd (decide (0≤k)&&decide (k<vs.length)) (K (setC H r (.list (put vs k.toNat v))))
  | .dict ks vs=>gx (keyOk i) (gd (decide (ks.length<lim)) (K (setC H r (.dict (store i v ks vs).1 (store i v ks vs).2))))
  | _=>none
abbrev Orc:=Nat→List V→Hp→Res V
noncomputable def byTwo:List V→Option (List V×List V)
  | []=>some ([],[])
  | k::r=>match r with
    | []=>none
    | v::r=>b2 (byTwo r) fun a b=>some (k::a,v::b)
noncomputable def noneC:V→Option Unit
  | .none=>some ()
  | _=>none
noncomputable def newK (T:Tab) (C:Orc) (c:Nat) (args:List V) (H:Hp) (K:KV):Rs:=bp (T.init c) fun p f=>cx p
  (bp (eachS (frz 8) args H) fun us H=>b2 (C f (.ref 0::us) [.inst c []]) fun u H1=>bx (noneC u) fun zz=>b2 (frz 8 (.ref 0) H1) fun v zz=>K v H)
  (b2 (C f (.ref H.length::args) (H++[.inst c []])) fun u H1=>bx (noneC u) fun zz=>K (.ref H.length) H1)
noncomputable def negV (v:V):Option V:=bd (intC v) fun i=>some (.int (-i))
noncomputable def listO:Option O→Option (List V)
  | some (.list vs)=>some vs
  | _=>none
noncomputable def lockO:Option O→Option (List V)
  | some (.lock vs)=>some vs
  | _=>none
noncomputable def slotV (v:V):Option V:=match v with|.undef=>none|v=>some v
noncomputable def turnsX:{n:Nat // n=1000}:=Classical.choice ⟨⟨1000,rfl⟩⟩
noncomputable def turns:Nat:=turnsX.1
theorem turns_is:turns=1000:=turnsX.2
noncomputable def frame (fn:Fn) (args:List V):Option (List V):=gd (decide (args.length≤fn.params)&&decide (fn.params≤args.length+fn.dflts.length)) (some (args++fn.dflts.drop (fn.dflts.length - (fn.params - args.length))++List.replicate (fn.slots - fn.params) .undef))
noncomputable def as_ (b:Bool) (v:V):V:=match v with
  | .bool _=>.bool b
  | v=>v
noncomputable def consO (o:Option V) (us:List V):List V:=match o with|some v=>v::us|none=>us
noncomputable def nx {β:Type} (f:Fl) (a b:β):β:=match f with|.next=>a|_=>b
noncomputable def compK1 (f:V→Hp→(Option V→Hp→Rs)→Rs):List V→Hp→KL→Rs
  | [],H,K=>K [] H
  | v::r,H,K=>f v H fun o H=>compK1 f r H fun us H=>K (consO o us) H
noncomputable def compK2 (f:V→Hp→(Option V→Hp→Rs)→Rs) (i:Nat):Nat→Nat→Hp→KL→Rs
  | 0,_,_,_=>none
  | n+1,k,H,K=>bx (lockO (cell H i)) fun ws=>oc (nth ws k) (fun v=>f v H fun o H=>compK2 f i n (k+1) H fun us H=>K (consO o us) H) (K [] H)
noncomputable def forK (f:V→List V→Hp→KF→Rs):List V→List V→Hp→KF→Rs
  | [],loc,H,K=>K .next loc H
  | v::r,loc,H,K=>f v loc H fun fl loc H=>match fl with
    | .next=>forK f r loc H K
    | .cont=>forK f r loc H K
    | .brk=>K .next loc H
    | .ret v=>K (.ret v) loc H
noncomputable def whileK (c:List V→Hp→(Bool→Hp→Rs)→Rs) (f:List V→Hp→KF→Rs):Nat→List V→Hp→KF→Rs
  | 0,_,_,_=>none
  | n+1,loc,H,K=>c loc H fun b H=>cs b (f loc H fun fl loc H=>match fl with
    | .next=>whileK c f n loc H K
    | .cont=>whileK c f n loc H K
    | .brk=>K .next loc H
    | .ret v=>K (.ret v) loc H) (K .next loc H)
section
variable(T:Tab)(C:Orc)
abbrev EB:=(List V→Hp→KV→Rs)×(List V→Hp→KL→Rs)
noncomputable def itOf (f:List V→Hp→KV→Rs):EB:=(f,fun loc H K=>f loc H fun v H=>walkK v H K)
mutual
noncomputable def evB:Ex→EB
  | .none=>itOf fun zz H K=>K .none H
  | .bool b=>itOf fun zz H K=>K (.bool b) H
  | .int i=>itOf fun zz H K=>K (.int i) H
  | .str n=>itOf fun zz H K=>K (.str n) H
  | .var i=>itOf fun loc H K=>bx (slotV (slot loc i)) fun v=>K (view H v) H
  | .cst g=>itOf fun zz H K=>bx (T.csts g) fun v=>K v H
  | .tup es=>itOf fun loc H K=>evEs es loc H fun vs H=>gx (decide (vs.length<lim)) (K (.tup vs) H)
  | .lst o es=>itOf fun loc H K=>evEs es loc H fun vs H=>gx (decide (vs.length<lim)) (mkList o vs H K)
  | .dct own es=>itOf fun loc H K=>evEs es loc H fun vs H=>bp (byTwo vs) fun a b=>mkDct own a b H K
  | .bin op l r=>itOf fun loc H K=>(evB l).1 loc H fun a H=>(evB r).1 loc H fun b H=>binK H op a b fun v=>K v H
  | .cmp op l r=>itOf fun loc H K=>(evB l).1 loc H fun a H=>(evB r).1 loc H fun b H=>cmpK H op a b fun v=>K (.bool v) H
  | .cmp2 o1 o2 x y z=>itOf fun loc H K=>(evB x).1 loc H fun a H=>(evB y).1 loc H fun b H=>cmpK H o1 a b fun v=>
    cs v ((evB z).1 loc H fun c H=>cmpK H o2 b c fun v=>K (.bool v) H) (K (.bool false) H)
  | .and es=>itOf fun loc H K=>evAn es loc H K
  | .or es=>itOf fun loc H K=>evOr es loc H K
  | .not e=>itOf fun loc H K=>(evB e).1 loc H fun v H=>bx (truth v) fun b=>K (.bool (!b)) H
  | .neg e=>itOf fun loc H K=>(evB e).1 loc H fun v H=>bx (negV v) fun v=>K v H
  | .ite c t e=>itOf fun loc H K=>(evB c).1 loc H fun v H=>bx (truth v) fun b=>cs b ((evB t).1 loc H K) ((evB e).1 loc H K)
  | .item o i=>itOf fun loc H K=>(evB o).1 loc H fun a H=>(evB i).1 loc H fun b H=>itemK T H a b fun v=>K (view H v) H
  | .slc o lo hi=>itOf fun loc H K=>(evB o).1 loc H fun a H=>evO lo loc H fun l H=>evO hi loc H fun h H=>sliceK H a l h fun v=>K v H
  | .rev o=>itOf fun loc H K=>(evB o).1 loc H fun a H=>revK H a fun v=>K v H
  | .attr o n=>itOf fun loc H K=>(evB o).1 loc H fun a H=>attrK T H a n fun v=>K (view H v) H
  | .call f es=>itOf fun loc H K=>evEs es loc H fun vs H=>b2 (C f vs H) K
  | .new c es=>itOf fun loc H K=>evEs es loc H fun vs H=>newK T C c vs H K
  | .meth o m es=>itOf fun loc H K=>(evB o).1 loc H fun a H=>ox (insC (con H a))
      (fun c=>bx (T.meth c.1 m) fun f=>evEs es loc H fun vs H=>b2 (C f (a::vs) H) K)
      (gx (kindV H m a) (evEs es loc H fun vs H=>methK m a vs H fun v H=>K (view H v) H))
  | .bi b o es=>itOf fun loc H K=>evEs es loc H fun vs H=>biK b o vs H K
  | .range es=>(fun zz zz zz=>none,fun loc H K=>evEs es loc H fun vs H=>rangeK vs fun us=>K us H)
  | .enum e=>(fun zz zz zz=>none,fun loc H K=>(evB e).1 loc H fun v H=>walkL v H fun vs H=>K (enumL 0 vs) H)
  | .zip a b=>(fun zz zz zz=>none,fun loc H K=>(evB a).1 loc H fun x H=>(evB b).1 loc H fun y H=>walkL x H fun xs H=>walkL y H fun ys H=>K (zipL xs ys) H)
  | .comp tp it elt conds=>itOf fun loc H K=>(evB it).2 loc H fun vs H=>tpAll tp vs (compK1 (fun v H K=>bx (bindC tp v loc) fun loc=>evIf conds loc H fun b H=>cs b ((evB elt).1 loc H fun v H=>K (some v) H) (K none H)) vs H fun us H=>gd (decide (us.length<lim)&&us.all flatV) (K (.lst us) H))
  | .compL tp it elt conds=>itOf fun loc H K=>(evB it).1 loc H fun v H=>bx (refC v) fun i=>bx (listO (cell H i)) fun ws=>compK2 (fun v H K=>bx (bindC tp v loc) fun loc=>evIf conds loc H fun b H=>cs b ((evB elt).1 loc H fun v H=>K (some v) H) (K none H)) i (ws.length+1) 0 (setC H i (.lock ws)) fun us H=>bx (lockO (cell H i)) fun ws=>gd (decide (us.length<lim)&&us.all flatV) (K (.lst us) (setC H i (.list ws)))
  | .frz e=>itOf fun loc H K=>(evB e).1 loc H fun v H=>frzK v H K
noncomputable def evEs:List Ex→List V→Hp→KL→Rs
  | [],_,H,K=>K [] H
  | e::r,loc,H,K=>(evB e).1 loc H fun v H=>evEs r loc H fun vs H=>K (v::vs) H
noncomputable def evO:Option Ex→List V→Hp→KV→Rs
  | .none,_,H,K=>K .none H
  | some e,loc,H,K=>(evB e).1 loc H K
noncomputable def evAn:List Ex→List V→Hp→KV→Rs
  | [],_,_,_=>none
  | e::r,loc,H,K=>match r with
    | []=>(evB e).1 loc H K
    | _::_=>(evB e).1 loc H fun v H=>bx (truth v) fun b=>cs b (evAn r loc H K) (K (as_ false v) H)
noncomputable def evOr:List Ex→List V→Hp→KV→Rs
  | [],_,_,_=>none
  | e::r,loc,H,K=>match r with
    | []=>(evB e).1 loc H K
    | _::_=>(evB e).1 loc H fun v H=>bx (truth v) fun b=>cs b (K (as_ true v) H) (evOr r loc H K)
noncomputable def evIf:List Ex→List V→Hp→(Bool→Hp→Rs)→Rs
  | [],_,H,K=>K true H
  | e::r,loc,H,K=>(evB e).1 loc H fun v H=>bx (truth v) fun b=>cs b (evIf r loc H K) (K false H)
end
noncomputable def evK (e:Ex):List V→Hp→KV→Rs:=(evB T C e).1
noncomputable def evIt (e:Ex):List V→Hp→KL→Rs:=(evB T C e).2
noncomputable def stK (t:Tg) (v:V) (loc:List V) (H:Hp) (K:List V→Hp→Rs):Rs:=match t with
  | .var i=>K (put loc i v) H
  | .attr o n=>evK T C o loc H fun a H=>setAttrK T a n v H fun H=>K loc H
  | .item o i=>evK T C o loc H fun a H=>evK T C i loc H fun b H=>setItemK a b v H fun H=>K loc H
noncomputable def stKs:List Tg→List V→List V→Hp→(List V→Hp→Rs)→Rs
  | [],[],loc,H,K=>K loc H
  | t::ts,v::vs,loc,H,K=>stK T C t v loc H fun loc H=>stKs ts vs loc H K
  | _,_,_,_,_=>none
mutual
noncomputable def exS:St→List V→Hp→KF→Rs
  | .assign t e,loc,H,K=>evK T C e loc H fun v H=>stK T C t v loc H fun loc H=>K .next loc H
  | .unpack ts e,loc,H,K=>evK T C e loc H fun v H=>bx (tupC v) fun vs=>gx (Nat.beq vs.length ts.length) (stKs T C ts vs loc H fun loc H=>K .next loc H)
  | .expr e,loc,H,K=>evK T C e loc H fun zz H=>K .next loc H
  | .ret e,loc,H,K=>evK T C e loc H fun v H=>K (.ret v) loc H
  | .ite c t e,loc,H,K=>evK T C c loc H fun v H=>bx (truth v) fun b=>cs b (exL t loc H K) (exL e loc H K)
  | .whil c b,loc,H,K=>whileK (fun loc H K=>evK T C c loc H fun v H=>bx (truth v) fun b=>K b H) (fun loc H K=>exL b loc H K) turns loc H K
  | .for_ tp it b,loc,H,K=>evIt T C it loc H fun vs H=>tpAll tp vs (forK (fun v loc H K=>bx (bindTp tp v loc) fun loc=>exL b loc H K) vs loc H K)
  | .brk,loc,H,K=>K .brk loc H
  | .cont,loc,H,K=>K .cont loc H
  | .pass,loc,H,K=>K .next loc H
noncomputable def exL:List St→List V→Hp→KF→Rs
  | [],loc,H,K=>K .next loc H
  | s::r,loc,H,K=>exS s loc H fun fl loc H=>nx fl (exL r loc H K) (K fl loc H)
end
noncomputable def outK (fl:Fl) (H:Hp) (K:KV):Rs:=match fl with
  | .ret v=>K v H
  | .next=>K .none H
  | _=>none
noncomputable def rnIn (fn:Fn) (args:List V) (H:Hp) (K:KV):Rs:=bx (frame fn args) fun loc=>exL T C fn.body loc H fun fl zz H=>outK fl H K
noncomputable def rnFn (fn:Fn) (args:List V) (H:Hp):Rs:=
  cx fn.pure (bp (eachS (frz 8) args H) fun us H1=>rnIn T C fn us [] fun v H2=>frzK v H2 fun u zz=>some (u,H1)) (rnIn T C fn args H fun v H=>some (v,H))
end
noncomputable def callF (T:Tab):Nat→Orc
  | 0=>fun zz zz zz=>none
  | d+1=>fun f args H=>bx (T.fns f) fun fn=>rnFn T (callF T d) fn args H
end Mine
end
section
namespace Mine
noncomputable def fn0:Fn:=⟨1,1,[],true,[.whil (.bool true) [.pass]]⟩
noncomputable def fn1:Fn:=⟨2,2,[],true,[.ret (.comp (.one 2) (.var 0) (.meth (.var 1) 4 [.str 27,.var 2]) [])]⟩
noncomputable def fn2:Fn:=⟨7,2,[],true,[.assign (.var 2) (.lst true []),.assign (.var 3) (.int 0),.for_ (.two 4 5) (.enum (.var 0)) [.ite (.cmp .Eq (.meth (.var 1) 4 [.str 27,.var 5]) (.cst 5)) [.assign (.var 6) (.and [.cmp .Eq (.var 5) (.cst 6),.cmp .Lt (.bin .add (.var 4) (.int 1)) (.bi .len false [.var 0]),.cmp .Eq (.item (.var 0) (.bin .add (.var 4) (.int 1))) (.cst 7)]),.ite (.not (.var 6)) [.expr (.meth (.var 2) 0 [.tup [.var 3,.bin .add (.var 4) (.int 1)]]),.assign (.var 3) (.bin .add (.var 4) (.int 1))] []] []],.ite (.cmp .Lt (.var 3) (.bi .len false [.var 0])) [.expr (.meth (.var 2) 0 [.tup [.var 3,.bi .len true [.var 0]]])] [],.ret (.var 2)]⟩
noncomputable def fn3:Fn:=⟨6,1,[],true,[.assign (.var 1) (.dct true []),.assign (.var 2) (.lst true []),.for_ (.two 3 4) (.enum (.var 0)) [.ite (.cmp .In (.var 4) (.cst 3)) [.expr (.meth (.var 2) 0 [.frz (.var 3)])] [.ite (.and [.cmp .Eq (.var 4) (.str 22),.cmp .NotEq (.var 2) (.lst false [])]) [.assign (.var 5) (.meth (.var 2) 1 []),.assign (.item (.var 1) (.var 5)) (.var 3),.assign (.item (.var 1) (.var 3)) (.var 5)] [.ite (.cmp .Eq (.var 4) (.cst 5)) [.assign (.var 2) (.lst true [])] []]]],.ret (.var 1)]⟩
noncomputable def fn4:Fn:=⟨6,4,[],true,[.assign (.var 4) (.var 1),.whil (.cmp .Lt (.var 4) (.var 2)) [.assign (.var 5) (.item (.var 0) (.var 4)),.ite (.cmp .In (.var 5) (.cst 1)) [.ret (.var 5)] [],.ite (.cmp .Eq (.var 5) (.cst 5)) [.ret (.none)] [],.ite (.cmp .In (.var 5) (.cst 3)) [.ite (.cmp .NotIn (.var 4) (.var 3)) [.ret (.none)] [],.assign (.var 4) (.item (.var 3) (.var 4))] [],.assign (.var 4) (.bin .add (.var 4) (.int 1))],.ret (.none)]⟩
noncomputable def fn5:Fn:=⟨3,2,[],true,[.ite (.or [.cmp .Eq (.var 1) (.str 74),.cmp .Eq (.var 1) (.str 75)]) [.ret (.ite (.cmp .Eq (.var 1) (.str 74)) (.int 0) (.int 1))] [],.assign (.var 2) (.call 4 [.var 0,.int 0,.bi .len false [.var 0],.call 3 [.var 0]]),.ite (.cmp .Is (.var 2) (.none)) [.ret (.ite (.cmp .Eq (.var 1) (.str 78)) (.int 1) (.int 0))] [],.ret (.ite (.cmp .Eq (.var 2) (.str 0)) (.int 0) (.int 1))]⟩
noncomputable def fn6:Fn:=⟨4,4,[],false,[.assign (.attr (.var 0) 6) (.var 1),.assign (.attr (.var 0) 7) (.var 2),.assign (.attr (.var 0) 8) (.var 3)]⟩
noncomputable def fn7:Fn:=⟨3,3,[],false,[.assign (.attr (.var 0) 9) (.var 2),.assign (.attr (.var 0) 10) (.lst true [.new 0 [.var 1,.none,.bool false]]),.assign (.attr (.var 0) 11) (.int 0),.assign (.attr (.var 0) 12) (.int 0),.assign (.attr (.var 0) 13) (.int 0)]⟩
noncomputable def fn8:Fn:=⟨1,1,[],false,[.ret (.item (.attr (.var 0) 10) (.neg (.int 1)))]⟩
noncomputable def fn9:Fn:=⟨3,2,[],false,[.assign (.var 2) (.attr (.meth (.var 0) 34 []) 6),.ite (.var 1) [.ret (.bin .add (.bin .add (.var 2) (.int 1)) (.bin .mod (.var 2) (.int 2)))] [],.ret (.bin .sub (.bin .add (.var 2) (.int 2)) (.bin .mod (.var 2) (.int 2)))]⟩
noncomputable def fn10:Fn:=⟨2,2,[],false,[.ret (.and [.cmp .LtE (.var 1) (.attr (.var 0) 9),.cmp .Eq (.attr (.var 0) 11) (.int 0),.cmp .Eq (.attr (.var 0) 12) (.int 0)])]⟩
noncomputable def fn11:Fn:=⟨4,3,[],false,[.assign (.var 3) (.meth (.var 0) 31 [.var 1]),.ite (.meth (.var 0) 32 [.var 3]) [.expr (.meth (.attr (.var 0) 10) 0 [.new 0 [.var 3,.var 2,.bool false]])] [.ite (.cmp .Eq (.attr (.var 0) 11) (.int 0)) [.assign (.attr (.var 0) 12) (.bin .add (.attr (.var 0) 12) (.int 1))] []]]⟩
noncomputable def fn12:Fn:=⟨3,2,[],false,[.assign (.var 2) (.meth (.var 0) 31 [.var 1]),.ite (.meth (.var 0) 32 [.var 2]) [.assign (.attr (.var 0) 13) (.bin .add (.attr (.var 0) 13) (.int 1)),.expr (.meth (.attr (.var 0) 10) 0 [.new 0 [.var 2,.none,.bool true]])] [.assign (.attr (.var 0) 11) (.bin .add (.attr (.var 0) 11) (.int 1))]]⟩
noncomputable def fn13:Fn:=⟨1,1,[],false,[.ite (.cmp .Gt (.attr (.var 0) 11) (.int 0)) [.assign (.attr (.var 0) 11) (.bin .sub (.attr (.var 0) 11) (.int 1))] [.ite (.cmp .Gt (.attr (.var 0) 13) (.int 0)) [.assign (.attr (.var 0) 12) (.int 0),.whil (.not (.attr (.meth (.var 0) 34 []) 8)) [.expr (.meth (.attr (.var 0) 10) 1 [])],.expr (.meth (.attr (.var 0) 10) 1 []),.assign (.attr (.var 0) 13) (.bin .sub (.attr (.var 0) 13) (.int 1))] []]]⟩
noncomputable def fn14:Fn:=⟨1,1,[],false,[.ite (.cmp .Gt (.attr (.var 0) 11) (.int 0)) [.ret (.none)] [],.ite (.cmp .Gt (.attr (.var 0) 12) (.int 0)) [.assign (.attr (.var 0) 12) (.bin .sub (.attr (.var 0) 12) (.int 1))] [.ite (.and [.not (.attr (.meth (.var 0) 34 []) 8),.cmp .Gt (.bi .len false [.attr (.var 0) 10]) (.int 1)]) [.expr (.meth (.attr (.var 0) 10) 1 [])] []]]⟩
noncomputable def fn15:Fn:=⟨12,3,[V.int 125],true,[.assign (.var 3) (.new 1 [.var 1,.var 2]),.assign (.var 4) (.call 3 [.var 0]),.assign (.var 5) (.lst true []),.assign (.var 6) (.lst true []),.for_ (.two 7 8) (.enum (.var 0)) [.ite (.cmp .In (.var 8) (.cst 4)) [.expr (.meth (.var 5) 0 [.none]),.expr (.meth (.var 6) 0 [.str 12]),.ite (.cmp .In (.var 8) (.cst 2)) [.assign (.var 9) (.or [.cmp .Eq (.var 8) (.str 15),.cmp .Eq (.var 8) (.str 17)]),.assign (.var 10) (.ite (.or [.cmp .Eq (.var 8) (.str 17),.cmp .Eq (.var 8) (.str 16)]) (.ite (.var 9) (.str 1) (.str 0)) (.none)),.expr (.meth (.var 3) 35 [.var 9,.var 10])] [.ite (.cmp .Eq (.var 8) (.str 18)) [.expr (.meth (.var 3) 37 [])] []]] [.ite (.cmp .Eq (.var 8) (.cst 5)) [.expr (.meth (.var 5) 0 [.frz (.var 1)]),.expr (.meth (.var 6) 0 [.frz (.var 8)])] [.ite (.cmp .Eq (.var 8) (.str 22)) [.expr (.meth (.var 3) 38 [])] [],.assign (.var 11) (.meth (.var 3) 34 []),.expr (.meth (.var 5) 0 [.attr (.var 11) 6]),.expr (.meth (.var 6) 0 [.ite (.cmp .IsNot (.attr (.var 11) 7) (.none)) (.attr (.var 11) 7) (.var 8)]),.ite (.cmp .In (.var 8) (.cst 3)) [.expr (.meth (.var 3) 39 [.call 16 [.var 0,.var 7,.var 4]])] []]]],.ret (.tup [.var 5,.var 6])]⟩
noncomputable def fn16:Fn:=⟨4,3,[],true,[.ite (.cmp .NotEq (.item (.var 0) (.var 1)) (.str 21)) [.ret (.cmp .Eq (.item (.var 0) (.var 1)) (.str 20))] [],.assign (.var 3) (.call 4 [.var 0,.bin .add (.var 1) (.int 1),.meth (.var 2) 4 [.var 1,.bi .len false [.var 0]],.var 2]),.ret (.or [.cmp .Eq (.var 3) (.str 1),.cmp .Eq (.var 3) (.str 2)])]⟩
noncomputable def fn17:Fn:=⟨5,1,[],true,[.assign (.var 1) (.lst true []),.assign (.var 2) (.none),.for_ (.two 3 4) (.enum (.var 0)) [.ite (.cmp .IsNot (.var 4) (.none)) [.ite (.cmp .NotEq (.var 4) (.var 2)) [.expr (.meth (.var 1) 0 [.lst true []])] [],.expr (.meth (.item (.var 1) (.neg (.int 1))) 0 [.frz (.var 3)]),.assign (.var 2) (.var 4)] []],.ret (.var 1)]⟩
noncomputable def fn18:Fn:={ slots:=7,params:=7,dflts:=[V.tup []],pure:=false,body:=[.assign (.attr (.var 0) 14) (.var 1),.assign (.attr (.var 0) 5) (.var 2),.assign (.attr (.var 0) 6) (.var 3),.assign (.attr (.var 0) 15) (.var 4),.assign (.attr (.var 0) 16) (.var 5),.assign (.attr (.var 0) 17) (.bi .list true [.var 6])] }
noncomputable def fn19:Fn:=⟨2,2,[],true,[.ret (.ite (.cmp .Eq (.bin .mod (.bi .max false [.var 0,.var 1]) (.int 2)) (.int 1)) (.str 1) (.str 0))]⟩
noncomputable def fn20:Fn:=⟨4,4,[],true,[.assign (.var 1) (.bin .add (.var 1) (.var 2)),.whil (.cmp2 .LtE .Lt (.int 0) (.var 1) (.bi .len false [.var 0])) [.ite (.cmp .IsNot (.item (.var 0) (.var 1)) (.none)) [.ret (.item (.var 0) (.var 1))] [],.assign (.var 1) (.bin .add (.var 1) (.var 2))],.ret (.var 3)]⟩
noncomputable def fn21:Fn:=⟨9,3,[],true,[.assign (.var 3) (.call 17 [.var 1]),.assign (.var 4) (.dct true []),.for_ (.two 5 6) (.enum (.var 3)) [.assign (.item (.var 4) (.item (.var 6) (.int 0))) (.var 5)],.assign (.var 7) (.lst true []),.for_ (.one 6) (.var 3) [.ite (.and [.cmp .Eq (.item (.var 0) (.item (.var 6) (.int 0))) (.str 22),.cmp .In (.item (.var 6) (.int 0)) (.var 2)]) [.cont] [],.assign (.var 8) (.bi .list true [.var 6]),.whil (.and [.cmp .In (.item (.var 0) (.item (.var 8) (.neg (.int 1)))) (.cst 3),.cmp .In (.item (.var 8) (.neg (.int 1))) (.var 2)]) [.expr (.meth (.var 8) 2 [.item (.var 3) (.item (.var 4) (.item (.var 2) (.item (.var 8) (.neg (.int 1)))))])],.expr (.meth (.var 7) 0 [.frz (.var 8)])],.ret (.var 7)]⟩
noncomputable def fn22:Fn:=⟨14,5,[V.none],true,[.assign (.var 5) (.call 3 [.var 0]),.assign (.var 6) (.lst true []),.for_ (.one 7) (.call 21 [.var 0,.var 1,.var 5]) [.assign (.var 8) (.item (.var 7) (.int 0)),.assign (.var 9) (.item (.var 7) (.neg (.int 1))),.assign (.var 10) (.item (.var 1) (.var 8)),.assign (.var 11) (.call 19 [.var 10,.call 20 [.var 1,.var 8,.neg (.int 1),.var 3]]),.ite (.and [.cmp .In (.item (.var 0) (.var 9)) (.cst 3),.cmp .NotIn (.var 9) (.var 5)]) [.assign (.var 12) (.call 19 [.var 10,.var 3])] [.assign (.var 12) (.call 19 [.var 10,.call 20 [.var 1,.var 9,.int 1,.var 3]])],.assign (.var 13) (.ite (.cmp .IsNot (.var 4) (.none)) (.comp (.one 14) (.var 7) (.item (.var 4) (.var 14)) []) (.lst true [])),.expr (.meth (.var 6) 0 [.new 2 [.var 7,.comp (.one 14) (.var 7) (.item (.var 2) (.var 14)) [],.var 10,.var 11,.var 12,.var 13]])],.ret (.var 6)]⟩
noncomputable def fn23:Fn:=⟨7,7,[],false,[.assign (.attr (.var 0) 18) (.var 1),.assign (.attr (.var 0) 19) (.bin .add (.var 1) (.bi .len false [.var 2])),.assign (.attr (.var 0) 17) (.var 2),.assign (.attr (.var 0) 20) (.var 3),.assign (.attr (.var 0) 21) (.var 4),.assign (.attr (.var 0) 22) (.var 5),.assign (.attr (.var 0) 5) (.var 6)]⟩
noncomputable def fn24:Fn:=⟨1,1,[],true,[.ret (.call 22 [.attr (.var 0) 21,.attr (.var 0) 22,.attr (.var 0) 5,.attr (.var 0) 20,.attr (.var 0) 17])]⟩
noncomputable def fn25:Fn:=⟨12,4,[V.str 23,V.int 125],true,[.assign (.var 4) (.lst true []),.for_ (.two 5 6) (.call 2 [.var 0,.var 1]) [.assign (.var 7) (.slc (.var 0) (some (.var 5)) (some (.var 6))),.assign (.var 8) (.call 1 [.var 7,.var 1]),.assign (.var 9) (.call 5 [.var 8,.var 2]),.unpack [.var 10,.var 11] (.call 15 [.var 8,.var 9,.var 3]),.expr (.meth (.var 4) 0 [.new 3 [.var 5,.var 7,.var 9,.var 8,.var 10,.var 11]])],.ret (.var 4)]⟩
noncomputable def fn26:Fn:=⟨5,2,[],true,[.assign (.var 2) (.lst true []),.assign (.var 3) (.var 1),.for_ (.one 4) (.var 0) [.ite (.cmp .Eq (.var 4) (.str 8)) [.assign (.var 4) (.ite (.cmp .In (.var 3) (.cst 9)) (.str 9) (.var 3))] [],.expr (.meth (.var 2) 0 [.frz (.var 4)]),.assign (.var 3) (.var 4)],.ret (.var 2)]⟩
noncomputable def fn27:Fn:=⟨5,2,[],true,[.assign (.var 2) (.lst true []),.assign (.var 3) (.var 1),.for_ (.one 4) (.var 0) [.ite (.cmp .In (.var 4) (.tup [.str 0,.str 1,.str 2])) [.assign (.var 3) (.var 4)] [],.expr (.meth (.var 2) 0 [.ite (.and [.cmp .Eq (.var 4) (.str 3),.cmp .Eq (.var 3) (.str 2)]) (.str 4) (.var 4)])],.ret (.var 2)]⟩
noncomputable def fn28:Fn:=⟨1,1,[],true,[.ret (.comp (.one 1) (.var 0) (.ite (.cmp .Eq (.var 1) (.str 2)) (.str 1) (.var 1)) [])]⟩
noncomputable def fn29:Fn:=⟨5,1,[],true,[.assign (.var 1) (.bi .list true [.var 0]),.for_ (.one 2) (.range [.int 1,.bin .sub (.bi .len false [.var 0]) (.int 1)]) [.unpack [.var 3,.var 4] (.tup [.item (.var 0) (.var 2),.item (.var 0) (.bin .sub (.var 2) (.int 1))]),.ite (.cmp .Eq (.var 4) (.item (.var 0) (.bin .add (.var 2) (.int 1)))) [.ite (.or [.and [.cmp .Eq (.var 3) (.str 7),.cmp .In (.var 4) (.cst 12)],.and [.cmp .Eq (.var 3) (.str 5),.cmp .Eq (.var 4) (.str 3)]]) [.assign (.item (.var 1) (.var 2)) (.var 4)] []] []],.ret (.var 1)]⟩
noncomputable def fn30:Fn:=⟨6,2,[],true,[.assign (.var 2) (.lst true []),.assign (.var 3) (.none),.for_ (.two 4 5) (.enum (.var 0)) [.ite (.and [.cmp .In (.var 5) (.var 1),.cmp .Is (.var 3) (.none)]) [.assign (.var 3) (.var 4)] [.ite (.and [.cmp .NotIn (.var 5) (.var 1),.cmp .IsNot (.var 3) (.none)]) [.expr (.meth (.var 2) 0 [.tup [.var 3,.var 4]]),.assign (.var 3) (.none)] []]],.ite (.cmp .IsNot (.var 3) (.none)) [.expr (.meth (.var 2) 0 [.tup [.var 3,.bi .len true [.var 0]]])] [],.ret (.var 2)]⟩
noncomputable def fn31:Fn:=⟨6,5,[],true,[.assign (.var 5) (.ite (.cmp .Gt (.var 1) (.int 0)) (.item (.var 0) (.bin .sub (.var 1) (.int 1))) (.var 3)),.ret (.tup [.var 5,.ite (.cmp .Lt (.var 2) (.bi .len false [.var 0])) (.item (.var 0) (.var 2)) (.var 4)])]⟩
noncomputable def fn32:Fn:=⟨5,1,[],true,[.assign (.var 1) (.bi .list true [.var 0]),.for_ (.two 2 3) (.call 30 [.var 0,.tup [.str 6]]) [.ite (.cmp .In (.str 3) (.call 31 [.var 0,.var 2,.var 3,.none,.none])) [.for_ (.one 4) (.range [.var 2,.var 3]) [.assign (.item (.var 1) (.var 4)) (.str 3)]] []],.ret (.var 1)]⟩
noncomputable def fn33:Fn:=⟨1,1,[],true,[.ret (.comp (.one 1) (.var 0) (.ite (.cmp .In (.var 1) (.cst 11)) (.str 9) (.var 1)) [])]⟩
noncomputable def fn34:Fn:=⟨5,2,[],true,[.assign (.var 2) (.lst true []),.assign (.var 3) (.var 1),.for_ (.one 4) (.var 0) [.ite (.cmp .In (.var 4) (.tup [.str 0,.str 1])) [.assign (.var 3) (.var 4)] [],.expr (.meth (.var 2) 0 [.ite (.and [.cmp .Eq (.var 4) (.str 3),.cmp .Eq (.var 3) (.str 0)]) (.str 0) (.var 4)])],.ret (.var 2)]⟩
noncomputable def fn35:Fn:=⟨3,2,[],true,[.assign (.var 2) (.call 28 [.call 27 [.call 26 [.var 0,.var 1],.var 1]]),.ret (.call 34 [.call 33 [.call 32 [.call 29 [.var 2]]],.var 1])]⟩
noncomputable def fn36:Fn:=⟨1,1,[],true,[.ret (.call 35 [.attr (.var 0) 5,.attr (.var 0) 15])]⟩
noncomputable def fn37:Fn:=⟨3,2,[],true,[.assign (.var 2) (.meth (.var 1) 4 [.str 24,.var 0]),.ite (.and [.cmp .IsNot (.var 2) (.none),.cmp .Eq (.item (.var 2) (.int 0)) (.str 76),.cmp .Eq (.bi .len false [.item (.var 2) (.int 1)]) (.int 1)]) [.ret (.item (.item (.var 2) (.int 1)) (.int 0))] [],.ret (.var 0)]⟩
noncomputable def fn38:Fn:=⟨10,3,[],true,[.assign (.var 3) (.lst true []),.assign (.var 4) (.lst true []),.for_ (.two 5 6) (.enum (.var 0)) [.assign (.var 7) (.ite (.cmp .Eq (.item (.var 1) (.var 5)) (.str 9)) (.meth (.var 2) 4 [.str 61,.var 6]) (.none)),.ite (.and [.cmp .IsNot (.var 7) (.none),.cmp .Eq (.item (.var 7) (.int 0)) (.str 79)]) [.ite (.cmp .GtE (.bi .len false [.var 4]) (.cst 8)) [.brk] [],.expr (.meth (.var 4) 0 [.tup [.call 37 [.item (.var 7) (.int 1),.var 2],.var 5]])] [.ite (.cmp .IsNot (.var 7) (.none)) [.assign (.var 8) (.call 37 [.var 6,.var 2]),.assign (.var 9) (.bin .sub (.bi .len false [.var 4]) (.int 1)),.whil (.and [.cmp .GtE (.var 9) (.int 0),.cmp .NotEq (.item (.item (.var 4) (.var 9)) (.int 0)) (.var 8)]) [.assign (.var 9) (.bin .sub (.var 9) (.int 1))],.ite (.cmp .GtE (.var 9) (.int 0)) [.expr (.meth (.var 3) 0 [.tup [.item (.item (.var 4) (.var 9)) (.int 1),.var 5]]),.assign (.var 4) (.slc (.var 4) none (some (.var 9)))] []] []]],.ret (.bi .sorted false [.var 3])]⟩
noncomputable def fn39:Fn:=⟨2,2,[],true,[.ret (.call 38 [.attr (.var 0) 17,.attr (.var 0) 5,.var 1])]⟩
noncomputable def fn40:Fn:=⟨1,1,[],true,[.ite (.cmp .Eq (.var 0) (.str 0)) [.ret (.str 0)] [],.ret (.ite (.or [.cmp .Eq (.var 0) (.str 1),.cmp .In (.var 0) (.cst 12)]) (.str 1) (.none))]⟩
noncomputable def fn41:Fn:=⟨1,1,[],true,[.ret (.ite (.cmp .Eq (.bin .mod (.var 0) (.int 2)) (.int 0)) (.str 0) (.str 1))]⟩
noncomputable def fn42:Fn:=⟨8,4,[],true,[.assign (.var 4) (.call 41 [.var 2]),.assign (.var 5) (.bool false),.for_ (.one 6) (.slc (.var 0) (some (.bin .add (.item (.var 1) (.int 0)) (.int 1))) (some (.item (.var 1) (.int 1)))) [.assign (.var 7) (.call 40 [.var 6]),.ite (.cmp .Eq (.var 7) (.var 4)) [.ret (.var 4)] [],.assign (.var 5) (.or [.var 5,.cmp .IsNot (.var 7) (.none)])],.ite (.not (.var 5)) [.ret (.none)] [],.for_ (.one 6) (.rev (.slc (.var 0) none (some (.item (.var 1) (.int 0))))) [.assign (.var 7) (.call 40 [.var 6]),.ite (.cmp .IsNot (.var 7) (.none)) [.ret (.var 7)] []],.ret (.var 3)]⟩
noncomputable def fn43:Fn:=⟨10,5,[],true,[.assign (.var 5) (.bi .list true [.var 0]),.for_ (.one 6) (.var 1) [.assign (.var 7) (.call 42 [.var 5,.var 6,.var 2,.var 3]),.ite (.cmp .IsNot (.var 7) (.none)) [.for_ (.one 8) (.var 6) [.assign (.item (.var 5) (.var 8)) (.var 7),.assign (.var 9) (.bin .add (.var 8) (.int 1)),.whil (.and [.cmp .Lt (.var 9) (.bi .len false [.var 5]),.cmp .Eq (.item (.var 4) (.var 9)) (.str 8)]) [.assign (.item (.var 5) (.var 9)) (.var 7),.assign (.var 9) (.bin .add (.var 9) (.int 1))]]] []],.ret (.var 5)]⟩
noncomputable def fn44:Fn:=⟨11,4,[],true,[.assign (.var 4) (.bi .list true [.var 0]),.for_ (.two 5 6) (.call 30 [.var 0,.cst 10]) [.unpack [.var 7,.var 8] (.call 31 [.var 0,.var 5,.var 6,.var 2,.var 3]),.assign (.var 9) (.call 40 [.var 7]),.ite (.cmp .NotEq (.var 9) (.call 40 [.var 8])) [.assign (.var 9) (.call 41 [.var 1])] [],.for_ (.one 10) (.range [.var 5,.var 6]) [.assign (.item (.var 4) (.var 10)) (.var 9)]],.ret (.var 4)]⟩
noncomputable def fn45:Fn:=⟨6,3,[V.none],true,[.assign (.var 3) (.attr (.var 0) 5),.assign (.var 4) (.ite (.cmp .Is (.var 2) (.none)) (.var 3) (.var 2)),.assign (.var 5) (.call 43 [.var 3,.call 39 [.var 0,.var 1],.attr (.var 0) 6,.attr (.var 0) 15,.var 4]),.ret (.call 44 [.var 5,.attr (.var 0) 6,.attr (.var 0) 15,.attr (.var 0) 16])]⟩
noncomputable def fn46:Fn:=⟨2,2,[],true,[.ite (.cmp .Eq (.bin .mod (.var 1) (.int 2)) (.int 0)) [.ret (.bin .add (.var 1) (.ite (.cmp .In (.var 0) (.cst 12)) (.int 2) (.ite (.cmp .Eq (.var 0) (.str 1)) (.int 1) (.int 0))))] [],.ret (.ite (.cmp .Eq (.var 0) (.str 1)) (.var 1) (.bin .add (.var 1) (.int 1)))]⟩
noncomputable def fn47:Fn:=⟨2,2,[],true,[.ret (.comp (.one 2) (.var 0) (.call 46 [.var 2,.var 1]) [])]⟩
noncomputable def fn48:Fn:=⟨4,2,[],true,[.assign (.var 2) (.call 36 [.var 0]),.assign (.var 3) (.new 2 [.attr (.var 0) 14,.var 2,.attr (.var 0) 6,.attr (.var 0) 15,.attr (.var 0) 16,.attr (.var 0) 17]),.ret (.call 47 [.call 45 [.var 3,.var 1,.attr (.var 0) 5],.attr (.var 0) 6])]⟩
noncomputable def fn49:Fn:=⟨6,2,[],true,[.assign (.var 2) (.bi .list true [.attr (.var 0) 22]),.for_ (.one 3) (.meth (.var 0) 23 []) [.for_ (.two 4 5) (.zip (.attr (.var 3) 14) (.call 48 [.var 3,.var 1])) [.assign (.item (.var 2) (.var 4)) (.var 5)]],.ret (.var 2)]⟩
noncomputable def fn50:Fn:=⟨6,4,[V.str 23,V.int 125],true,[.assign (.var 4) (.lst true []),.for_ (.one 5) (.call 25 [.var 0,.var 1,.var 2,.var 3]) [.expr (.meth (.var 4) 2 [.call 49 [.var 5,.var 1]])],.ret (.var 4)]⟩
noncomputable def fn51:Fn:=⟨5,2,[],true,[.assign (.var 2) (.int 0),.assign (.var 3) (.bi .len true [.var 0]),.whil (.cmp .Lt (.var 2) (.var 3)) [.assign (.var 4) (.bin .fdiv (.bin .add (.var 2) (.var 3)) (.int 2)),.ite (.cmp .LtE (.item (.var 0) (.var 4)) (.var 1)) [.assign (.var 2) (.bin .add (.var 4) (.int 1))] [.assign (.var 3) (.var 4)]],.ret (.bin .sub (.var 2) (.int 1))]⟩
noncomputable def fn52:Fn:=⟨2,2,[],true,[.ret (.and [.cmp .Eq (.var 0) (.var 1),.cmp .Eq (.bi .isBool false [.var 0]) (.bi .isBool false [.var 1])])]⟩
noncomputable def fn53:Fn:=⟨2,2,[],false,[.assign (.attr (.var 0) 24) (.var 1),.assign (.attr (.var 0) 25) (.lst true [.int 0]),.assign (.attr (.var 0) 26) (.lst true [.var 1])]⟩
noncomputable def fn54:Fn:=⟨2,2,[],true,[.ret (.item (.attr (.var 0) 26) (.call 51 [.attr (.var 0) 25,.var 1]))]⟩
noncomputable def fn55:Fn:=⟨9,4,[],false,[.ite (.cmp .Gt (.var 1) (.var 2)) [.ret (.none)] [],.assign (.var 4) (.bin .add (.call 51 [.attr (.var 0) 25,.bin .sub (.var 1) (.int 1)]) (.int 1)),.assign (.var 5) (.bin .add (.call 51 [.attr (.var 0) 25,.bin .add (.var 2) (.int 1)]) (.int 1)),.assign (.var 6) (.item (.attr (.var 0) 26) (.bin .sub (.var 5) (.int 1))),.unpack [.var 7,.var 8] (.tup [.lst true [.var 1],.lst true [.var 3]]),.ite (.and [.cmp .Lt (.var 2) (.cst 13),.not (.call 52 [.var 6,.var 3])]) [.expr (.meth (.var 7) 0 [.bin .add (.var 2) (.int 1)]),.expr (.meth (.var 8) 0 [.frz (.var 6)])] [],.ite (.and [.cmp .Gt (.var 4) (.int 0),.call 52 [.item (.attr (.var 0) 26) (.bin .sub (.var 4) (.int 1)),.var 3]]) [.unpack [.var 7,.var 8] (.tup [.slc (.var 7) (some (.int 1)) none,.slc (.var 8) (some (.int 1)) none])] [],.assign (.attr (.var 0) 25) (.bin .add (.bin .add (.slc (.attr (.var 0) 25) none (some (.var 4))) (.var 7)) (.slc (.attr (.var 0) 25) (some (.var 5)) none)),.assign (.attr (.var 0) 26) (.bin .add (.bin .add (.slc (.attr (.var 0) 26) none (some (.var 4))) (.var 8)) (.slc (.attr (.var 0) 26) (some (.var 5)) none))]⟩
noncomputable def fn56:Fn:=⟨1,1,[],true,[.expr (.call 0 [.int 0])]⟩
noncomputable def fn57:Fn:=⟨2,2,[],true,[.expr (.call 0 [.int 1])]⟩
noncomputable def fn58:Fn:=⟨2,0,[],true,[.assign (.var 0) (.dct true [.str 25,.str 33,.str 26,.int 0,.str 27,.str 0,.str 28,.str 34,.str 29,.str 35,.str 30,.str 36,.str 31,.str 37,.str 32,.str 38]),.for_ (.one 1) (.tup [.str 39,.str 40,.str 41]) [.assign (.item (.var 0) (.var 1)) (.str 42)],.for_ (.one 1) (.tup [.str 43,.str 44,.str 45,.str 46,.str 47,.str 48,.str 49,.str 50,.str 51,.str 52,.str 53,.str 54,.str 55]) [.assign (.item (.var 0) (.var 1)) (.bool false)],.for_ (.one 1) (.tup [.str 24,.str 56,.str 57,.str 58,.str 59,.str 60,.str 61,.str 62,.str 63,.str 64,.str 65,.str 66,.str 67]) [.assign (.item (.var 0) (.var 1)) (.none)],.for_ (.one 1) (.tup [.str 68,.str 69,.str 70,.str 71]) [.assign (.item (.var 0) (.var 1)) (.tup [])],.assign (.item (.var 0) (.str 72)) (.tup [.str 73,.tup []]),.ret (.var 0)]⟩
noncomputable def fn59:Fn:=⟨1,1,[],false,[.assign (.attr (.var 0) 27) (.call 58 []),.assign (.attr (.var 0) 28) (.dct true []),.assign (.attr (.var 0) 29) (.dct true []),.assign (.attr (.var 0) 30) (.dct true [])]⟩
noncomputable def fn60:Fn:=⟨5,5,[],false,[.expr (.meth (.meth (.var 0) 36 [.var 1]) 33 [.var 2,.var 3,.var 4])]⟩
noncomputable def fn61:Fn:=⟨3,3,[],true,[.ite (.cmp .In (.var 1) (.attr (.var 0) 28)) [.ret (.meth (.item (.attr (.var 0) 28) (.var 1)) 4 [.var 2])] [],.ret (.meth (.attr (.var 0) 27) 4 [.var 1])]⟩
noncomputable def fn62:Fn:=⟨2,2,[],false,[.ite (.cmp .NotIn (.var 1) (.attr (.var 0) 28)) [.assign (.item (.attr (.var 0) 28) (.var 1)) (.new 4 [.meth (.attr (.var 0) 27) 4 [.var 1]])] [],.ret (.item (.attr (.var 0) 28) (.var 1))]⟩
noncomputable def fn63:Fn:=⟨1,0,[],true,[.assign (.var 0) (.lst true [.str 0,.str 1,.str 2,.str 3,.str 4,.str 5,.str 6,.str 7,.str 8,.str 9,.str 10,.str 11,.str 12]),.ret (.bin .add (.var 0) (.lst false [.str 13,.str 14,.str 15,.str 16,.str 17,.str 18,.str 19,.str 20,.str 21,.str 22]))]⟩
noncomputable def fn64:Fn:=⟨6,2,[],false,[.assign (.item (.var 0) (.int 1)) (.bin .add (.item (.var 0) (.int 1)) (.int 1)),.unpack [.var 2,.var 3] (.tup [.item (.var 0) (.int 1),.item (.var 0) (.int 0)]),.ite (.cmp .LtE (.var 2) (.bi .len false [.var 3])) [.ret (.bin .mod (.item (.var 3) (.bin .sub (.var 2) (.int 1))) (.var 1))] [],.assign (.var 4) (.ite (.cmp .NotEq (.var 3) (.lst false [])) (.item (.var 3) (.bin .mod (.var 2) (.bi .len false [.var 3]))) (.int 7)),.assign (.var 5) (.bin .mod (.bin .mul (.bin .add (.bin .add (.bin .mod (.var 4) (.int 2147483629)) (.bin .mul (.bin .mul (.int 60013) (.var 2)) (.var 2))) (.int 17)) (.int 48271)) (.int 2147483647)),.assign (.var 5) (.bin .mod (.bin .add (.bin .mul (.var 5) (.var 5)) (.var 2)) (.int 2147483579)),.ret (.bin .mod (.bin .fdiv (.var 5) (.int 64)) (.var 1))]⟩
noncomputable def fn65:Fn:=⟨6,1,[],true,[.unpack [.var 1,.var 2] (.tup [.lst true [],.dct true []]),.for_ (.two 3 4) (.enum (.var 0)) [.ite (.cmp .In (.var 4) (.tup [.str 19,.str 20,.str 21])) [.expr (.meth (.var 1) 0 [.frz (.var 3)])] [.ite (.and [.cmp .Eq (.var 4) (.str 22),.cmp .NotEq (.var 1) (.lst false [])]) [.assign (.var 5) (.meth (.var 1) 1 []),.unpack [.item (.var 2) (.var 5),.item (.var 2) (.var 3)] (.tup [.var 3,.var 5])] []]],.ret (.var 2)]⟩
noncomputable def fn66:Fn:=⟨4,4,[],true,[.whil (.cmp .Lt (.var 2) (.var 3)) [.ite (.cmp .Eq (.item (.var 0) (.var 2)) (.str 0)) [.ret (.int 0)] [],.ite (.cmp .In (.item (.var 0) (.var 2)) (.tup [.str 1,.str 2])) [.ret (.int 1)] [],.assign (.var 2) (.ite (.cmp .In (.item (.var 0) (.var 2)) (.tup [.str 19,.str 20,.str 21])) (.meth (.var 1) 4 [.var 2,.var 3]) (.bin .add (.var 2) (.int 1)))],.ret (.none)]⟩
noncomputable def fn67:Fn:=⟨15,3,[],true,[.unpack [.var 3,.var 4,.var 5,.var 6] (.tup [.call 65 [.var 0],.lst true [.tup [.var 1,.none,.bool false]],.int 0,.int 0]),.unpack [.var 7,.var 8] (.tup [.lst true [],.bi .list true [.var 0]]),.for_ (.two 9 10) (.enum (.var 0)) [.assign (.var 11) (.item (.var 4) (.neg (.int 1))),.ite (.cmp .In (.var 10) (.tup [.str 14,.str 16,.str 15,.str 17,.str 19,.str 20,.str 21])) [.unpack [.var 12,.var 13] (.tup [.cmp .Eq (.item (.var 10) (.int 2)) (.str 80),.cmp .Eq (.item (.var 10) (.int 0)) (.str 1)]),.ite (.cmp .Eq (.var 10) (.str 21)) [.assign (.var 13) (.cmp .Eq (.call 66 [.var 0,.var 3,.bin .add (.var 9) (.int 1),.meth (.var 3) 4 [.var 9,.bi .len false [.var 0]]]) (.int 1))] [],.assign (.var 14) (.bin .add (.item (.var 11) (.int 0)) (.int 1)),.ite (.cmp .NotEq (.bin .mod (.var 14) (.int 2)) (.bi .int false [.var 13])) [.assign (.var 14) (.bin .add (.var 14) (.int 1))] [],.expr (.meth (.var 7) 0 [.ite (.var 12) (.item (.var 11) (.int 0)) (.none)]),.ite (.and [.var 12,.cmp .IsNot (.item (.var 11) (.int 1)) (.none)]) [.assign (.item (.var 8) (.var 9)) (.item (.var 11) (.int 1))] [],.ite (.and [.cmp .LtE (.var 14) (.var 2),.cmp .Eq (.var 5) (.int 0),.cmp .Eq (.var 6) (.int 0)]) [.expr (.meth (.var 4) 0 [.tup [.var 14,.ite (.cmp .Eq (.item (.var 10) (.int 2)) (.str 81)) (.item (.var 10) (.int 0)) (.none),.var 12]])] [.ite (.var 12) [.assign (.var 6) (.bin .add (.var 6) (.int 1))] [.ite (.cmp .Eq (.var 6) (.int 0)) [.assign (.var 5) (.bin .add (.var 5) (.int 1))] []]]] [.ite (.cmp .Eq (.var 10) (.str 18)) [.expr (.meth (.var 7) 0 [.none]),.ite (.and [.cmp .Eq (.var 6) (.int 0),.cmp .Gt (.var 5) (.int 0)]) [.assign (.var 5) (.bin .sub (.var 5) (.int 1))] [.ite (.and [.cmp .Eq (.var 6) (.int 0),.not (.item (.var 11) (.int 2)),.cmp .Gt (.bi .len false [.var 4]) (.int 1)]) [.expr (.meth (.var 4) 1 [])] []]] [.ite (.cmp .Eq (.var 10) (.str 22)) [.ite (.cmp .Gt (.var 6) (.int 0)) [.assign (.var 6) (.bin .sub (.var 6) (.int 1))] [.ite (.cmp .NotEq (.compL (.one 15) (.var 4) (.var 15) [.item (.var 15) (.int 2)]) (.lst false [])) [.assign (.var 5) (.int 0),.whil (.not (.item (.item (.var 4) (.neg (.int 1))) (.int 2))) [.expr (.meth (.var 4) 1 [])],.expr (.meth (.var 4) 1 [])] []],.expr (.meth (.var 7) 0 [.item (.item (.var 4) (.neg (.int 1))) (.int 0)]),.assign (.item (.var 8) (.var 9)) (.ite (.cmp .Is (.item (.item (.var 4) (.neg (.int 1))) (.int 1)) (.none)) (.var 10) (.item (.item (.var 4) (.neg (.int 1))) (.int 1)))] [.ite (.cmp .Eq (.var 10) (.str 13)) [.expr (.meth (.var 7) 0 [.frz (.var 1)])] [.expr (.meth (.var 7) 0 [.ite (.cmp .Eq (.var 10) (.str 12)) (.none) (.item (.var 11) (.int 0))]),.assign (.item (.var 8) (.var 9)) (.ite (.cmp .Is (.item (.var 11) (.int 1)) (.none)) (.var 10) (.item (.var 11) (.int 1)))]]]]],.ret (.tup [.var 7,.var 8])]⟩
noncomputable def fn68:Fn:=⟨12,2,[],true,[.unpack [.var 2,.var 3,.var 4] (.tup [.lst true [],.call 65 [.var 0],.none]),.for_ (.two 5 6) (.enum (.var 1)) [.ite (.cmp .IsNot (.var 6) (.none)) [.ite (.cmp .Eq (.var 6) (.var 4)) [.expr (.meth (.item (.var 2) (.neg (.int 1))) 0 [.frz (.var 5)])] [.expr (.meth (.var 2) 0 [.lst true [.var 5]])],.assign (.var 4) (.var 6)] []],.assign (.var 8) (.bi .dict true [.compL (.one 12) (.var 2) (.tup [.item (.var 12) (.neg (.int 1)),.bool true]) [.cmp .In (.item (.var 0) (.item (.var 12) (.neg (.int 1)))) (.tup [.str 19,.str 20,.str 21])]]),.assign (.var 9) (.bi .dict true [.comp (.one 12) (.var 2) (.tup [.item (.var 12) (.int 0),.var 12]) []]),.assign (.var 10) (.lst true []),.for_ (.one 7) (.var 2) [.ite (.not (.and [.cmp .Eq (.item (.var 0) (.item (.var 7) (.int 0))) (.str 22),.cmp .In (.meth (.var 3) 4 [.item (.var 7) (.int 0)]) (.var 8)])) [.assign (.var 11) (.bi .list true [.var 7]),.whil (.and [.cmp .In (.item (.var 11) (.neg (.int 1))) (.var 8),.cmp .In (.meth (.var 3) 4 [.item (.var 11) (.neg (.int 1))]) (.var 9)]) [.assign (.var 11) (.bin .add (.var 11) (.item (.var 9) (.item (.var 3) (.item (.var 11) (.neg (.int 1))))))],.expr (.meth (.var 10) 0 [.frz (.var 11)])] []],.ret (.var 10)]⟩
noncomputable def fn69:Fn:=⟨9,4,[],true,[.assign (.var 4) (.item (.var 1) (.item (.var 2) (.int 0))),.assign (.var 5) (.comp (.one 9) (.slc (.var 1) none (some (.item (.var 2) (.int 0)))) (.var 9) [.cmp .IsNot (.var 9) (.none)]),.assign (.var 6) (.comp (.one 9) (.slc (.var 1) (some (.bin .add (.item (.var 2) (.neg (.int 1))) (.int 1))) none) (.var 9) [.cmp .IsNot (.var 9) (.none)]),.assign (.var 7) (.bi .max true [.var 4,.ite (.cmp .NotEq (.var 5) (.lst false [])) (.item (.var 5) (.neg (.int 1))) (.var 3)]),.assign (.var 8) (.bi .max true [.var 4,.ite (.or [.cmp .Eq (.var 6) (.lst false []),.cmp .In (.item (.var 0) (.item (.var 2) (.neg (.int 1)))) (.tup [.str 19,.str 20,.str 21])]) (.var 3) (.item (.var 6) (.int 0))]),.ret (.tup [.item (.str 77) (.bin .mod (.var 7) (.int 2)),.item (.str 77) (.bin .mod (.var 8) (.int 2))])]⟩
noncomputable def fn70:Fn:=⟨4,3,[],true,[.for_ (.one 3) (.rev (.slc (.var 0) none (some (.var 1)))) [.ite (.cmp .In (.var 3) (.tup [.str 0,.str 1,.str 2])) [.ret (.var 3)] []],.ret (.var 2)]⟩
noncomputable def fn71:Fn:=⟨8,2,[],true,[.assign (.var 2) (.lst true []),.for_ (.one 3) (.var 0) [.ite (.cmp .Eq (.var 3) (.str 8)) [.assign (.var 3) (.ite (.cmp .Eq (.var 2) (.lst false [])) (.var 1) (.ite (.cmp .In (.item (.var 2) (.neg (.int 1))) (.tup [.str 19,.str 20,.str 21,.str 22])) (.str 9) (.item (.var 2) (.neg (.int 1)))))] [],.expr (.meth (.var 2) 0 [.frz (.var 3)])],.assign (.var 5) (.comp (.two 8 9) (.enum (.var 2)) (.ite (.and [.cmp .Eq (.var 9) (.str 3),.cmp .Eq (.call 70 [.var 2,.var 8,.var 1]) (.str 2)]) (.str 4) (.var 9)) []),.assign (.var 5) (.comp (.one 8) (.var 5) (.ite (.cmp .Eq (.var 8) (.str 2)) (.str 1) (.var 8)) []),.assign (.var 2) (.bi .list true [.var 5]),.for_ (.one 4) (.range [.int 1,.bin .sub (.bi .len false [.var 5]) (.int 1)]) [.ite (.and [.cmp .Eq (.item (.var 5) (.bin .sub (.var 4) (.int 1))) (.item (.var 5) (.bin .add (.var 4) (.int 1))),.cmp .In (.tup [.item (.var 5) (.var 4),.item (.var 5) (.bin .sub (.var 4) (.int 1))]) (.tup [.tup [.str 5,.str 3],.tup [.str 7,.str 3],.tup [.str 7,.str 4]])]) [.assign (.item (.var 2) (.var 4)) (.item (.var 5) (.bin .sub (.var 4) (.int 1)))] []],.assign (.var 5) (.bi .list true [.var 2]),.for_ (.one 4) (.range [.bi .len false [.var 2]]) [.ite (.cmp .Eq (.item (.var 2) (.var 4)) (.str 6)) [.unpack [.var 6,.var 7] (.tup [.var 4,.var 4]),.whil (.and [.cmp .Gt (.var 6) (.int 0),.cmp .Eq (.item (.var 2) (.var 6)) (.str 6)]) [.assign (.var 6) (.bin .sub (.var 6) (.int 1))],.whil (.and [.cmp .Lt (.var 7) (.bin .sub (.bi .len false [.var 2]) (.int 1)),.cmp .Eq (.item (.var 2) (.var 7)) (.str 6)]) [.assign (.var 7) (.bin .add (.var 7) (.int 1))],.assign (.item (.var 5) (.var 4)) (.ite (.cmp .In (.str 3) (.tup [.item (.var 2) (.var 6),.item (.var 2) (.var 7)])) (.str 3) (.str 6))] []],.assign (.var 2) (.comp (.one 8) (.var 5) (.ite (.cmp .In (.var 8) (.tup [.str 5,.str 6,.str 7])) (.str 9) (.var 8)) []),.ret (.comp (.two 8 9) (.enum (.var 2)) (.ite (.and [.cmp .Eq (.var 9) (.str 3),.cmp .Eq (.call 70 [.var 2,.var 8,.var 1]) (.str 0)]) (.str 0) (.var 9)) [])]⟩
noncomputable def fn72:Fn:=⟨12,4,[],true,[.assign (.var 4) (.dct true [.str 0,.str 0,.str 1,.str 1,.str 3,.str 1,.str 4,.str 1]),.assign (.var 5) (.lst true []),.for_ (.two 6 7) (.enum (.var 0)) [.ite (.cmp .NotIn (.var 7) (.var 4)) [.assign (.var 8) (.comp (.one 12) (.slc (.var 0) none (some (.var 6))) (.item (.var 4) (.var 12)) [.cmp .In (.var 12) (.var 4)]),.assign (.var 9) (.comp (.one 12) (.slc (.var 0) (some (.var 6)) none) (.item (.var 4) (.var 12)) [.cmp .In (.var 12) (.var 4)]),.unpack [.var 10,.var 11] (.tup [.ite (.cmp .NotEq (.var 8) (.lst false [])) (.item (.var 8) (.neg (.int 1))) (.var 2),.ite (.cmp .NotEq (.var 9) (.lst false [])) (.item (.var 9) (.int 0)) (.var 3)]),.assign (.var 7) (.ite (.cmp .Eq (.var 10) (.var 11)) (.var 10) (.item (.str 77) (.bin .mod (.var 1) (.int 2))))] [],.ite (.cmp .Eq (.bin .mod (.var 1) (.int 2)) (.int 0)) [.expr (.meth (.var 5) 0 [.bin .add (.var 1) (.item (.dct false [.str 0,.int 0,.str 1,.int 1,.str 3,.int 2,.str 4,.int 2]) (.var 7))])] [.expr (.meth (.var 5) 0 [.bin .add (.var 1) (.bi .int false [.cmp .NotEq (.var 7) (.str 1)])])]],.ret (.var 5)]⟩
noncomputable def fn73:Fn:=⟨14,3,[],true,[.assign (.var 3) (.call 66 [.var 0,.call 65 [.var 0],.int 0,.bi .len false [.var 0]]),.assign (.var 4) (.item (.dct false [.str 74,.int 0,.str 75,.int 1,.str 23,.or [.var 3,.int 0],.str 78,.ite (.cmp .Is (.var 3) (.none)) (.int 1) (.var 3)]) (.var 1)),.unpack [.var 5,.var 6] (.call 67 [.var 0,.var 4,.var 2]),.assign (.var 7) (.bi .list true [.var 5]),.for_ (.one 8) (.call 68 [.var 0,.var 5]) [.unpack [.var 9,.var 10] (.call 69 [.var 0,.var 5,.var 8,.var 4]),.assign (.var 12) (.call 71 [.comp (.one 14) (.var 8) (.item (.var 6) (.var 14)) [],.var 9]),.for_ (.two 11 13) (.zip (.var 8) (.call 72 [.var 12,.item (.var 5) (.item (.var 8) (.int 0)),.var 9,.var 10])) [.assign (.item (.var 7) (.var 11)) (.var 13)]],.ret (.var 7)]⟩
noncomputable def fn74:Fn:=⟨13,1,[],false,[.unpack [.var 1,.var 2,.var 3] (.tup [.lst true [.bi .list false [.slc (.var 0) none (some (.int 20))],.int 0],.call 63 [],.new 5 []]),.for_ (.two 4 5) (.enum (.var 2)) [.expr (.meth (.var 3) 33 [.str 27,.bin .add (.int 65) (.var 4),.bin .add (.int 65) (.var 4),.var 5])],.assign (.var 6) (.item (.lst false [.str 23,.str 75,.str 74,.str 78]) (.call 64 [.var 1,.int 4])),.assign (.var 7) (.item (.lst false [.int 125,.int 3,.int 4,.int 5]) (.call 64 [.var 1,.int 4])),.assign (.var 8) (.comp (.one 13) (.range [.bin .add (.int 1) (.call 64 [.var 1,.int 10])]) (.item (.var 2) (.call 64 [.var 1,.int 23])) []),.unpack [.var 9,.var 10,.var 11] (.tup [.comp (.one 13) (.var 8) (.bin .add (.int 65) (.meth (.var 2) 3 [.var 13])) [],.lst true [],.lst true []]),.for_ (.one 5) (.var 8) [.expr (.meth (.var 11) 0 [.frz (.var 5)]),.ite (.cmp .Eq (.var 5) (.str 13)) [.unpack [.var 10,.var 11] (.tup [.bin .add (.var 10) (.call 73 [.var 11,.var 6,.var 7]),.lst true []])] []],.assign (.var 10) (.bin .add (.var 10) (.call 73 [.var 11,.var 6,.var 7])),.assign (.var 12) (.bi .list true [.var 9]),.ite (.or [.cmp .NotEq (.call 50 [.var 9,.var 3,.var 6,.var 7]) (.var 10),.cmp .NotEq (.var 9) (.var 12)]) [.ret (.bool false)] [],.ite (.cmp .Lt (.call 64 [.var 1,.int 6]) (.int 5)) [.ret (.bool true)] [],.assign (.var 8) (.bin .add (.bin .mul (.lst false [.str 15]) (.bin .add (.int 58) (.call 64 [.var 1,.int 12]))) (.lst false [.str 0])),.ret (.cmp .Eq (.call 50 [.comp (.one 13) (.var 8) (.bin .add (.int 65) (.meth (.var 2) 3 [.var 13])) [],.var 3,.var 6]) (.call 73 [.var 8,.var 6,.int 125]))]⟩
noncomputable def fnX:List Fn:=[fn0,fn1,fn2,fn3,fn4,fn5,fn6,fn7,fn8,fn9,fn10,fn11,fn12,fn13,fn14,fn15,fn16,fn17,fn18,fn19,fn20,fn21,fn22,fn23,fn24,fn25,fn26,fn27,fn28,fn29,fn30,fn31,fn32,fn33,fn34,fn35,fn36,fn37,fn38,fn39,fn40,fn41,fn42,fn43,fn44,fn45,fn46,fn47,fn48,fn49,fn50,fn51,fn52,fn53,fn54,fn55,fn56,fn57,fn58,fn59,fn60,fn61,fn62,fn63,fn64,fn65,fn66,fn67,fn68,fn69,fn70,fn71,fn72,fn73,fn74]
end Mine
end
section
namespace Mine
noncomputable def cstV:List V:=[.int 125,.tup [.str 0,.str 1,.str 2],.tup [.str 15,.str 14,.str 17,.str 16],.tup [.str 19,.str 20,.str 21],.tup [.str 15,.str 14,.str 17,.str 16,.str 18,.str 12],.str 13,.int 13,.int 10,.int 63,.tup [.str 19,.str 20,.str 21,.str 22],.tup [.str 13,.str 11,.str 10,.str 9,.str 19,.str 20,.str 21,.str 22],.tup [.str 5,.str 6,.str 7],.tup [.str 3,.str 4],.int 1114111]
noncomputable def fnI:List (Bool×List V):=[(true,[]),
  (true,[]),
  (true,[]),
  (true,[]),
  (true,[]),
  (true,[]),
  (false,[]),
  (false,[]),
  (false,[]),
  (false,[]),
  (false,[]),
  (false,[]),
  (false,[]),
  (false,[]),
  (false,[]),
  (true,[.int 125]),
  (true,[]),
  (true,[]),
  (false,[.tup []]),
  (true,[]),
  (true,[]),
  (true,[]),
  (true,[.none]),
  (false,[]),
  (true,[]),
  (true,[.str 23,.int 125]),
  (true,[]),
  (true,[]),
  (true,[]),
  (true,[]),
  (true,[]),
  (true,[]),
  (true,[]),
  (true,[]),
  (true,[]),
  (true,[]),
  (true,[]),
  (true,[]),
  (true,[]),
  (true,[]),
  (true,[]),
  (true,[]),
  (true,[]),
  (true,[]),
  (true,[]),
  (true,[.none]),
  (true,[]),
  (true,[]),
  (true,[]),
  (true,[]),
  (true,[.str 23,.int 125]),
  (true,[]),
  (true,[]),
  (false,[]),
  (true,[]),
  (false,[]),
  (true,[]),
  (true,[]),
  (true,[]),
  (false,[]),
  (false,[]),
  (true,[]),
  (false,[]),
  (true,[]),
  (false,[]),
  (true,[]),
  (true,[]),
  (true,[]),
  (true,[]),
  (true,[]),
  (true,[]),
  (true,[]),
  (true,[]),
  (true,[]),
  (false,[])]
noncomputable def attrT:List (List Nat):=[[6,7,8],[9,10,11,12,13],[14,5,6,15,16,17],[18,19,17,20,21,22,5],[24,25,26],[27,28,29,30]]
noncomputable def methT:List (List (Nat×Nat)):=[[],[(34,8),(31,9),(32,10),(35,11),(39,12),(38,13),(37,14)],[],[(23,24)],[(4,54),(33,55)],[(33,60),(4,61),(36,62)]]
noncomputable def initT:List (Bool×Nat):=[(true,6),(false,7),(true,18),(true,23),(false,53),(false,59)]
noncomputable def chrT:List (Nat×Nat×Nat):=[(0,0,0),(1,0,1),(2,0,86),(2,1,0),(3,0,85),(3,1,35),(4,0,86),(4,1,35),(5,0,85),(5,1,11),(6,0,85),(7,1,11),(8,0,35),(8,1,11),(9,0,81),(9,1,35),(10,1,11),(11,0,11),(12,0,13),(12,1,35),(13,0,13),(14,0,0),(14,1,1),(14,2,85),(15,0,1),(15,1,0),(15,2,85),(16,0,0),(16,1,1),(16,2,81),(17,0,1),(17,1,0),(17,2,81),(18,0,83),(18,1,84),(18,2,82),(19,0,0),(19,1,1),(19,2,80),(20,0,1),(20,1,0),(20,2,80),(21,0,82),(21,1,11),(21,2,80),(22,0,83),(22,1,84),(22,2,80),(77,0,0),(77,1,1)]
noncomputable def attrOf (c n:Nat):Option Nat:=(attrT[c]?).bind fun l=>l.idxOf? n
noncomputable def methOf (c m:Nat):Option Nat:=(methT[c]?).bind fun l=>l.lookup m
noncomputable def chrOf (n i:Nat):Option Nat:=(chrT.find? fun x=>x.1==n&&x.2.1==i).map (·.2.2)
noncomputable def tabOf (fns:List Fn):Tab where
  fns i:=fns[i]?
  csts i:=cstV[i]?
  attr:=attrOf
  meth:=methOf
  init c:=initT[c]?
  chr:=chrOf
noncomputable abbrev TB:Tab:=tabOf fnX
end Mine
end
section
set_option genInjectivity false
set_option genSizeOf false
namespace Mine
open PySem (Str Scope NameKind Stmt)
structure Cx where
  strL:List Str
  fns:List Str
  clss:List Str
  csts:List Str
  names:List Str
  tops:List Str
noncomputable def idx (x:Str):List Str→Option Nat
  | []=>.none
  | y::r=>if x=y then some 0 else(idx x r).map (·+1)
structure Bk where
  scope:Scope
  slots:List (Str×Nat)
  size:Nat
noncomputable def isGlob (B:Bk) (x:Str):Bool:=decide (B.scope.names.lookup x=some .globalImplicit)&&(B.slots.lookup x).isNone
noncomputable def isOwn (B:Bk) (x:Str):Option Nat:=match B.scope.names.lookup x with
  | some .local=>B.slots.lookup x
  | some .cell=>B.slots.lookup x
  | some .free=>B.slots.lookup x
  | _=>.none
noncomputable def isOwnW (B:Bk) (x:Str):Option Nat:=match B.scope.names.lookup x with
  | some .local=>B.slots.lookup x
  | some .cell=>B.slots.lookup x
  | _=>.none
noncomputable def compBk (B:Bk) (sc:Scope) (ts:List Str):Bk:=
  { scope:=sc,slots:=(ts.zipIdx B.size)++B.slots,size:=B.size+ts.length }
noncomputable def nameOf:PySem.Expr→Option Str
  | .Name x _=>some x
  | _=>none
noncomputable def tupOf:PySem.Expr→Option (List PySem.Expr)
  | .Tuple l _ _=>some l
  | _=>none
noncomputable def twoN:List PySem.Expr→Option (List Str)
  | []=>none
  | a::r=>match r with
    | []=>none
    | b::r=>gx r.isEmpty (bx (nameOf a) fun x=>bx (nameOf b) fun y=>some [x,y])
noncomputable def tpNames (t:PySem.Expr):Option (List Str):=oc (nameOf t) (fun x=>some [x]) (bx (tupOf t) twoN)
theorem oc_h{α:Type}{o:Option α}{P:α→Prop}{a:α}(h:o=some a)(k:oc o P True):P a:=by subst h;exact k
theorem cond_t{b:Bool}{P:Prop}(h:b=true)(k:cond b P True):P:=by subst h;exact k
theorem nameOf_inv{e:PySem.Expr}{x:Str}(h:nameOf e=some x):∃ p,e=.Name x p:=oc_h (P:=fun x=>∃ p,e=.Name x p) h (by cases e<;>first|exact trivial|exact⟨_,rfl⟩)
theorem tupOf_inv{e:PySem.Expr}{l:List PySem.Expr}(h:tupOf e=some l):∃ k p,e=.Tuple l k p:=oc_h (P:=fun l=>∃ k p,e=.Tuple l k p) h (by cases e<;>first|exact trivial|exact⟨_,_,rfl⟩)
noncomputable def tpLen:Tp→Nat
  | .one _=>1
  | .two _ _=>2
noncomputable def itOk:Ex→Nat→Bool
  | .enum _,n=>n==2
  | .zip _ _,n=>n==2
  | .range _,n=>n==1
  | _,_=>true
noncomputable def compOk (B:Bk) (sc:Scope) (ts:List Str):Bool:=
  (B.slots.lookup (".0" : Str)).isNone&&sc.names.all (fun p=>p.2 != .free||(decide (B.scope.names.lookup p.1=some .cell)||decide (B.scope.names.lookup p.1=some .free))&&(B.slots.lookup p.1).isSome&&decide (sc.names.lookup p.1=some .free))&&decide (sc.kind=.function)&&sc.names.all (fun p=>p.2 != .cell&&(p.2 != .local||(ts.contains p.1||p.1==(".0" : Str))&&decide (sc.names.lookup p.1=some .local)))&&ts.all (fun x=>decide (sc.names.lookup x=some .local)&&x != (".0" : Str))&&decide ts.Nodup
noncomputable def noName:PySem.Expr→Bool
  | .Name ..=>false
  | _=>true
noncomputable def noSuper:PySem.Expr→Bool
  | .Call g _ _ _=>noName g
  | _=>true
noncomputable def biOf (x:Str):Option Bi:=
  if x=("len" : Str)then some .len else if x=("list" : Str)then some .list else if x=("dict" : Str)then some .dict else
  if x=("max" : Str)then some .max else if x=("sorted" : Str)then some .sorted else if x=("int" : Str)then some .int else .none
noncomputable def notComp:PySem.Expr→Bool
  | .ListComp ..=>false
  | .SetComp ..=>false
  | .DictComp ..=>false
  | _=>true
noncomputable def swapSafe (e:PySem.Expr):Bool:=oc (tupOf e) (fun vs=>!(vs.all (PySem.constantsAlone 8))) true
noncomputable def varOf:Tg→Option Nat
  | .var i=>some i
  | _=>.none
noncomputable def ownNames (sc:Scope):List Str:=sc.names.filterMap fun (x,k)=>match k with
  | .local|.cell=>some x
  | _=>.none
noncomputable def defBk (params:List Str) (sc:Scope):Bk:=
  let l:=params++(ownNames sc).filter fun x=>!params.contains x
  { scope:=sc,slots:=l.zipIdx,size:=l.length }
noncomputable def defsIn:List Stmt→List (Str×PySem.Arguments×List Stmt×Scope)
  | []=>[]
  | .FunctionDef n a b _ _ _ sc _ _ _::r=>(n,a,b,sc)::defsIn r
  | _::r=>defsIn r
noncomputable def defsAll:List Stmt→List (Str×PySem.Arguments×List Stmt×Scope)
  | []=>[]
  | .FunctionDef n a b _ _ _ sc _ _ _::r=>(n,a,b,sc)::defsAll r
  | .ClassDef n _ _ b _ _ _ _ _ _ _::r=>((defsIn b).map fun d=>(n++("." : Str)++d.1,d.2))++defsAll r
  | _::r=>defsAll r
end Mine
end
section
namespace Mine
open PySem (Str Scope NameKind Stmt Operator UnaryOp CmpOp BoolOp Pos Const)
section
variable{α β:Type}
noncomputable def mapO (f:α→Option β):List α→Option (List β)
  | []=>some []
  | e::r=>bx (f e) fun a=>bx (mapO f r) fun b=>some (a::b)
noncomputable def optO (f:α→Option β):Option α→Option (Option β)
  | none=>some none
  | some e=>bx (f e) fun a=>some (some a)
end
section
variable(X:Cx)(f:Bk→Bool→PySem.Expr→Option Ex)(B:Bk)(own:Bool)
noncomputable def mapKV:List (Option PySem.Expr)→List PySem.Expr→Option (List Ex)
  | [],vs=>gx vs.isEmpty (some [])
  | k::ks,vs=>bx k fun k=>match vs with
    | []=>none
    | v::vs=>bx (f B false k) fun a=>bx (f B false v) fun b=>bx (mapKV ks vs) fun r=>some (a::b::r)
noncomputable def cConst:Const→Option Ex
  | .none=>some .none
  | .bool b=>some (.bool b)
  | .int i=>some (.int i)
  | .str x=>bx (idx x X.«strL») fun n=>some (.str n)
  | _=>none
noncomputable def bopOf:Operator→Option Bop
  | .Add=>some .add
  | .Sub=>some .sub
  | .Mult=>some .mul
  | .Mod=>some .mod
  | .FloorDiv=>some .fdiv
  | _=>none
noncomputable def unO (a:Ex):UnaryOp→Option Ex
  | .Not=>some (.not a)
  | .USub=>some (.neg a)
  | _=>none
noncomputable def cCmp (a:Ex) (ops:List CmpOp) (bs:List Ex):Option Ex:=match ops with
  | []=>none
  | o1::ops=>match bs with
    | []=>none
    | b::bs=>match ops with
      | []=>gx bs.isEmpty (some (.cmp o1 a b))
      | o2::ops=>match bs with
        | []=>none
        | c::bs=>gx (ops.isEmpty&&bs.isEmpty) (some (.cmp2 o1 o2 a b c))
noncomputable def isOne:PySem.Expr→Bool
  | .Constant c _ _=>(match c with
    | .int i=>decide (i=1)
    | _=>false)
  | _=>false
noncomputable def isM1:PySem.Expr→Bool
  | .UnaryOp op x _=>(match op with
    | .USub=>isOne x
    | _=>false)
  | _=>false
noncomputable def cSub (v i:PySem.Expr):Option Ex:=match i with
  | .Slice lo hi st _=>oc st (fun s=>gx (isM1 s&&lo.isNone&&hi.isNone) (bx (f B false v) fun a=>some (.rev a)))
      (bx (f B false v) fun a=>bx (optO (f B false) lo) fun l=>bx (optO (f B false) hi) fun h=>some (.slc a l h))
  | i=>bx (f B false v) fun a=>bx (f B false i) fun b=>some (.item a b)
noncomputable def isName:PySem.Expr→Bool
  | .Name ..=>true
  | _=>false
noncomputable def soleName:List PySem.Expr→Option PySem.Expr
  | []=>none
  | e::r=>gx (isName e&&r.isEmpty) (some e)
noncomputable def methArgs (k:Nat) (args:List PySem.Expr):Option (List Ex):=cs (Nat.beq k 0)
  (oc (soleName args) (fun e=>bx (f B false e) fun v=>some [.frz v]) (mapO (f B true) args)) (mapO (f B false) args)
noncomputable def oneX (g:Ex→Ex):List Ex→Option Ex
  | []=>none
  | a::r=>gx r.isEmpty (some (g a))
noncomputable def twoX (g:Ex→Ex→Ex):List Ex→Option Ex
  | []=>none
  | a::r=>match r with
    | []=>none
    | b::r=>gx r.isEmpty (some (g a b))
noncomputable def isBoolN (e:PySem.Expr):Bool:=match e with
  | .Name c _=>decide (c=("bool" : Str))&&isGlob B c
  | _=>false
noncomputable def cIsB (args:List PySem.Expr):Option Ex:=match args with
  | []=>none
  | a::r=>match r with
    | []=>none
    | b::r=>gx (isBoolN B b&&r.isEmpty) (bx (f B false a) fun v=>some (.bi .isBool false [v]))
noncomputable def cZip (g:Str) (args:List PySem.Expr):Option Ex:=
  cs (decide (g=("zip" : Str))) (bx (mapO (f B false) args) fun l=>twoX .zip l) (gx (decide (g=("isinstance" : Str))) (cIsB f B args))
noncomputable def cEnum (g:Str) (args:List PySem.Expr):Option Ex:=
  cs (decide (g=("enumerate" : Str))) (bx (mapO (f B false) args) fun l=>oneX .enum l) (cZip f B g args)
noncomputable def cRng (g:Str) (args:List PySem.Expr):Option Ex:=
  cs (decide (g=("range" : Str))) (bx (mapO (f B false) args) fun l=>some (.range l)) (cEnum f B g args)
noncomputable def cBi (g:Str) (args:List PySem.Expr):Option Ex:=
  oc (biOf g) (fun b=>bx (mapO (f B false) args) fun l=>some (.bi b own l)) (cRng f B g args)
noncomputable def cNew (g:Str) (args:List PySem.Expr):Option Ex:=
  oc (idx g X.clss) (fun k=>bx (mapO (f B false) args) fun l=>some (.new k l)) (cBi f B own g args)
noncomputable def cName (g:Str) (args:List PySem.Expr):Option Ex:=
  oc (gx (X.tops.contains g) (idx g X.fns)) (fun k=>bx (mapO (f B false) args) fun l=>some (.call k l)) (cNew X f B own g args)
noncomputable def cCall (g:PySem.Expr) (args:List PySem.Expr) (ps:Pos):Option Ex:=match g with
  | .Attribute o m ap=>gx (noSuper o&&(ap.endLine==ps.line)&&decide (args.length<30)) (bx (f B false o) fun a=>bx (idx m X.names) fun k=>bx (methArgs f B k args) fun l=>some (.meth a k l))
  | .Name g _=>gx (isGlob B g&&decide (g≠("__debug__" : Str))) (cName X f B own g args)
  | _=>none
noncomputable def cCompE (iter:PySem.Expr) (ts:List Str) (i v:Ex) (l:List Ex):Option Ex:=
  gx (itOk i ts.length) (cs (isName iter&&!l.isEmpty) (gx (decide (ts.length=1)) (some (.compL (.one B.size) i v l))) (some (.comp (if ts.length=1 then .one B.size else .two B.size (B.size+1)) i v l)))
noncomputable def cCompT (elt iter:PySem.Expr) (ifs:List PySem.Expr) (sc:Scope) (ts:List Str):Option Ex:=
  gx (compOk B sc ts) (bx (f B false iter) fun i=>bx (f (compBk B sc ts) false elt) fun v=>bx (mapO (f (compBk B sc ts) false) ifs) (cCompE B iter ts i v))
noncomputable def cComp (elt:PySem.Expr) (gens:List PySem.Comprehension) (sc:Scope):Option Ex:=match gens with
  | []=>none
  | g::r=>gx (r.isEmpty&&decide (g.is_async=0)) (bx (tpNames g.target) (cCompT f B elt g.iter g.ifs sc))
noncomputable def boolX (l:List Ex):BoolOp→Ex
  | .And=>.and l
  | .Or=>.or l
noncomputable def cE:PySem.Expr→Option Ex
  | .Constant c _ _=>cConst X c
  | .Name x _=>gx (decide (x≠("__debug__" : Str))&&decide (x≠("__classdict__" : Str))) (oc (isOwn B x) (fun i=>some (.var i)) (gx (isGlob B x) (bx (idx x X.csts) fun g=>some (.cst g))))
  | .Tuple es _ _=>bx (mapO (f B own) es) fun l=>some (.tup l)
  | .List es _=>bx (mapO (f B false) es) fun l=>some (.lst own l)
  | .Dict ks vs _=>gx (decide (ks.length≤15)) (bx (mapKV f B ks vs) fun l=>some (.dct own l))
  | .BinOp l op r _=>bx (bopOf op) fun o=>bx (f B false l) fun a=>bx (f B false r) fun b=>some (.bin o a b)
  | .UnaryOp op x _=>bx (f B false x) fun a=>unO a op
  | .BoolOp op es _=>bx (mapO (f B false) es) fun l=>some (boolX l op)
  | .IfExp c t e _=>bx (f B false c) fun a=>bx (f B own t) fun b=>bx (f B own e) fun d=>some (.ite a b d)
  | .Compare l ops rs _=>bx (f B false l) fun a=>bx (mapO (f B false) rs) fun bs=>cCmp a ops bs
  | .Subscript v i _=>cSub f B v i
  | .Attribute v a _=>gx (noSuper v) (bx (f B false v) fun o=>bx (idx a X.names) fun k=>some (.attr o k))
  | .Call g args kws ps=>gx kws.isEmpty (cCall X f B own g args ps)
  | .ListComp elt gens sc _=>cComp f B elt gens sc
  | _=>none
end
noncomputable def cmpE (X:Cx):Nat→Bk→Bool→PySem.Expr→Option Ex
  | 0=>fun zz zz zz=>none
  | n+1=>fun B own e=>cE X (cmpE X n) B own e
section
variable(X:Cx)(f:Bk→Bool→PySem.Expr→Option Ex)(B:Bk)
noncomputable def isSlice:PySem.Expr→Bool
  | .Slice ..=>true
  | _=>false
noncomputable def cT:PySem.Expr→Option Tg
  | .Name x _=>bx (isOwnW B x) fun i=>some (.var i)
  | .Attribute o a _=>bx (f B false o) fun v=>bx (idx a X.names) fun k=>some (.attr v k)
  | .Subscript o i _=>gx (!isSlice i) (bx (f B false o) fun a=>bx (f B false i) fun b=>some (.item a b))
  | _=>none
noncomputable def cTp (B:Bk):PySem.Expr→Option Tp
  | .Name x _=>bx (isOwnW B x) fun i=>some (.one i)
  | .Tuple es _ _=>(match es with
    | []=>none
    | e1::r=>match r with
      | []=>none
      | e2::r=>gx r.isEmpty (bx (nameOf e1) fun x=>bx (nameOf e2) fun y=>bx (isOwnW B x) fun i=>bx (isOwnW B y) fun j=>some (.two i j)))
  | _=>none
noncomputable def cAsg (t v:PySem.Expr):Option St:=match t with
  | .Tuple ts _ _=>bx (mapO (cT X f B) ts) fun l=>bx (f B true v) fun e=>gx (swapSafe v&&decide (l.filterMap varOf).Nodup) (some (.unpack l e))
  | t=>bx (cT X f B t) fun l=>bx (f B true v) fun e=>some (.assign l e)
noncomputable def cS (fs:Bk→Stmt→Option St):Stmt→Option St
  | .Assign ts v _=>(match ts with
    | []=>none
    | t::r=>gx r.isEmpty (cAsg X f B t v))
  | .Expr v _=>gx (notComp v) (bx (f B false v) fun a=>some (.expr a))
  | .Return v _=>oc v (fun v=>bx (f B false v) fun a=>some (.ret a)) (some (.ret .none))
  | .If c t e _=>bx (f B false c) fun a=>bx (mapO (fs B) t) fun b=>bx (mapO (fs B) e) fun d=>some (.ite a b d)
  | .While c b o _=>gx o.isEmpty (bx (f B false c) fun a=>bx (mapO (fs B) b) fun l=>some (.whil a l))
  | .For t it b o _=>gx o.isEmpty (bx (cTp B t) fun p=>bx (f B false it) fun i=>bx (mapO (fs B) b) fun l=>gx (itOk i (tpLen p)) (some (.for_ p i l)))
  | .Break _=>some .brk
  | .Continue _=>some .cont
  | .Pass _=>some .pass
  | _=>none
end
noncomputable def cmpS (X:Cx):Nat→Bk→Stmt→Option St
  | 0=>fun zz zz=>none
  | n+1=>fun B s=>cS X (cmpE X 30) B (cmpS X n) s
noncomputable def cmpFn (X:Cx) (pure:Bool) (dflts:List V) (d:PySem.Arguments×List Stmt×Scope):Option Fn:=
  bx (mapO (cmpS X 30 (defBk (d.1.args.map (·.arg)) d.2.2)) d.2.1) fun b=>some { slots:=(defBk (d.1.args.map (·.arg)) d.2.2).size,params:=(d.1.args.map (·.arg)).length,dflts,pure,body:=b }
end Mine
end
section
namespace Mine
open PySem (Str)
noncomputable def strT:List Str:=[Str.ofString "L",Str.ofString "R",Str.ofString "AL",Str.ofString "EN",Str.ofString "AN",Str.ofString "ES",Str.ofString "ET",Str.ofString "CS",Str.ofString "NSM",Str.ofString "ON",Str.ofString "WS",Str.ofString "S",Str.ofString "BN",Str.ofString "B",Str.ofString "LRE",Str.ofString "RLE",Str.ofString "LRO",Str.ofString "RLO",Str.ofString "PDF",Str.ofString "LRI",Str.ofString "RLI",Str.ofString "FSI",Str.ofString "PDI",Str.ofString "auto",Str.ofString "dm",Str.ofString "gc",Str.ofString "ccc",Str.ofString "bc",Str.ofString "lb",Str.ofString "ea",Str.ofString "sc",Str.ofString "jt",Str.ofString "incb",Str.ofString "Cn",Str.ofString "XX",Str.ofString "N",Str.ofString "Zzzz",Str.ofString "U",Str.ofString "None",Str.ofString "gcb",Str.ofString "wb",Str.ofString "sb",Str.ofString "Other",Str.ofString "ex",Str.ofString "sd",Str.ofString "cased",Str.ofString "ci",Str.ofString "ep",Str.ofString "di",Str.ofString "ids",Str.ofString "idc",Str.ofString "xids",Str.ofString "xidc",Str.ofString "pat_syn",Str.ofString "pat_ws",Str.ofString "idst",Str.ofString "uc",Str.ofString "lc",Str.ofString "tc",Str.ofString "cf",Str.ofString "bm",Str.ofString "bpb",Str.ofString "scx",Str.ofString "nt",Str.ofString "nv",Str.ofString "name",Str.ofString "conf",Str.ofString "nfkc_cf",Str.ofString "suc",Str.ofString "slc",Str.ofString "stc",Str.ofString "alias",Str.ofString "idna",Str.ofString "disallowed",Str.ofString "ltr",Str.ofString "rtl",Str.ofString "",Str.ofString "LR",Str.ofString "auto-rtl",Str.ofString "o",Str.ofString "I",Str.ofString "O",Str.ofString "F",Str.ofString "P",Str.ofString "D",Str.ofString "E",Str.ofString "A"]
noncomputable def fnT:List Str:=[Str.ofString "_wall",Str.ofString "bidi_kinds",Str.ofString "paragraphs",Str.ofString "isolate_pairs",Str.ofString "bidi_first_strong",Str.ofString "bidi_base",Str.ofString "BidiEntry.__init__",Str.ofString "BidiStack.__init__",Str.ofString "BidiStack.last",Str.ofString "BidiStack.further",Str.ofString "BidiStack.is_free",Str.ofString "BidiStack.embed",Str.ofString "BidiStack.isolate",Str.ofString "BidiStack.end_isolate",Str.ofString "BidiStack.end_embedding",Str.ofString "explicit",Str.ofString "bidi_is_right_isolate",Str.ofString "level_runs",Str.ofString "BidiSequence.__init__",Str.ofString "bidi_direction",Str.ofString "bidi_level_beside",Str.ofString "bidi_joined_runs",Str.ofString "isolating_sequences",Str.ofString "BidiParagraph.__init__",Str.ofString "BidiParagraph.sequences",Str.ofString "bidi_paragraphs",Str.ofString "bidi_marks",Str.ofString "bidi_arabic_numbers",Str.ofString "bidi_arabic_letters",Str.ofString "bidi_separators",Str.ofString "bidi_runs",Str.ofString "bidi_beside",Str.ofString "bidi_terminators",Str.ofString "bidi_left_overs",Str.ofString "bidi_left_numbers",Str.ofString "weak_classes",Str.ofString "weak",Str.ofString "bidi_bracket_key",Str.ofString "bracket_pairs_of",Str.ofString "bracket_pairs",Str.ofString "bidi_strong",Str.ofString "bidi_embedding",Str.ofString "bidi_bracket_direction",Str.ofString "bracket_classes",Str.ofString "neutral_classes",Str.ofString "neutral",Str.ofString "implicit_level",Str.ofString "implicit",Str.ofString "sequence_levels",Str.ofString "paragraph_levels",Str.ofString "bidi_levels",Str.ofString "place_by_half",Str.ofString "range_are_like",Str.ofString "RangeMap.__init__",Str.ofString "RangeMap.get",Str.ofString "RangeMap.put",Str.ofString "RangeMap.ranges",Str.ofString "RangeMap.set_of",Str.ofString "data_defaults",Str.ofString "Data.__init__",Str.ofString "Data.put",Str.ofString "Data.get",Str.ofString "Data.map_of",Str.ofString "_law_kinds",Str.ofString "_law_draw",Str.ofString "_law_mates",Str.ofString "_law_strong",Str.ofString "_law_embedded",Str.ofString "_law_rows",Str.ofString "_law_sides",Str.ofString "_law_back",Str.ofString "_law_weak",Str.ofString "_law_between",Str.ofString "_law_levels",Str.ofString "law"]
noncomputable def clsT:List Str:=[Str.ofString "BidiEntry",Str.ofString "BidiStack",Str.ofString "BidiSequence",Str.ofString "BidiParagraph",Str.ofString "RangeMap",Str.ofString "Data"]
noncomputable def cstT:List Str:=[Str.ofString "MAX_DEPTH",Str.ofString "STRONG",Str.ofString "EMBEDDINGS",Str.ofString "INITIATORS",Str.ofString "REMOVED",Str.ofString "SEPARATOR",Str.ofString "CARRIAGE_RETURN",Str.ofString "LINE_FEED",Str.ofString "MOST_BRACKETS",Str.ofString "ISOLATE_SIGNS",Str.ofString "NEUTRALS",Str.ofString "LEFT_OVERS",Str.ofString "NUMBERS",Str.ofString "MAX_CODE"]
noncomputable def nameT:List Str:=[Str.ofString "append",Str.ofString "pop",Str.ofString "extend",Str.ofString "index",Str.ofString "get",Str.ofString "classes",Str.ofString "level",Str.ofString "override",Str.ofString "is_isolate",Str.ofString "depth",Str.ofString "entries",Str.ofString "over_isolates",Str.ofString "over_embeddings",Str.ofString "valid_isolates",Str.ofString "places",Str.ofString "sos",Str.ofString "eos",Str.ofString "codes",Str.ofString "begin",Str.ofString "end",Str.ofString "base",Str.ofString "kinds",Str.ofString "levels",Str.ofString "sequences",Str.ofString "default",Str.ofString "starts",Str.ofString "values",Str.ofString "defaults",Str.ofString "maps",Str.ofString "properties",Str.ofString "words",Str.ofString "further",Str.ofString "is_free",Str.ofString "put",Str.ofString "last",Str.ofString "embed",Str.ofString "map_of",Str.ofString "end_embedding",Str.ofString "end_isolate",Str.ofString "isolate"]
noncomputable def topT:List Str:=[Str.ofString "_wall",Str.ofString "bidi_kinds",Str.ofString "paragraphs",Str.ofString "isolate_pairs",Str.ofString "bidi_first_strong",Str.ofString "bidi_base",Str.ofString "explicit",Str.ofString "bidi_is_right_isolate",Str.ofString "level_runs",Str.ofString "bidi_direction",Str.ofString "bidi_level_beside",Str.ofString "bidi_joined_runs",Str.ofString "isolating_sequences",Str.ofString "bidi_paragraphs",Str.ofString "bidi_marks",Str.ofString "bidi_arabic_numbers",Str.ofString "bidi_arabic_letters",Str.ofString "bidi_separators",Str.ofString "bidi_runs",Str.ofString "bidi_beside",Str.ofString "bidi_terminators",Str.ofString "bidi_left_overs",Str.ofString "bidi_left_numbers",Str.ofString "weak_classes",Str.ofString "weak",Str.ofString "bidi_bracket_key",Str.ofString "bracket_pairs_of",Str.ofString "bracket_pairs",Str.ofString "bidi_strong",Str.ofString "bidi_embedding",Str.ofString "bidi_bracket_direction",Str.ofString "bracket_classes",Str.ofString "neutral_classes",Str.ofString "neutral",Str.ofString "implicit_level",Str.ofString "implicit",Str.ofString "sequence_levels",Str.ofString "paragraph_levels",Str.ofString "bidi_levels",Str.ofString "place_by_half",Str.ofString "range_are_like",Str.ofString "data_defaults",Str.ofString "_law_kinds",Str.ofString "_law_draw",Str.ofString "_law_mates",Str.ofString "_law_strong",Str.ofString "_law_embedded",Str.ofString "_law_rows",Str.ofString "_law_sides",Str.ofString "_law_back",Str.ofString "_law_weak",Str.ofString "_law_between",Str.ofString "_law_levels",Str.ofString "law"]
noncomputable def cxT:Cx:=⟨strT,fnT,clsT,cstT,nameT,topT⟩
end Mine
end
section
set_option genSizeOf false
namespace Mine
open PySem PySem.W PySem.Calls PyProof.Rows
inductive Key where
  | none
  | int (i:Int)
  | str (x:Str)
  deriving DecidableEq
set_option genInjectivity false
structure Foot where
  a:Addr
  d:Addr:=0
set_option genInjectivity false in
structure Wd where
  prog:Program
  w:World
  T:Tab
  S:Nat→Option Str
  N:Nat→Option Str
  AN:Nat→List Str
  cls:Nat→Option Addr
  fn:Nat→Option Addr
  K:Frag
  h₀:Heap
  lo:sysModules<h₀.objs.size
  Sinj:∀ a b x,S a=some x→S b=some x→a=b
  chr:∀ n i m x,T.chr n i=some m→S n=some x→i<1000∧∃ c,x.cps[i]?=some c∧S m=some ⟨#[c]⟩
def EntR(e:DictEntry)(x:Str):Prop:=∃ t,e.key=.str x t
def EntsR:List DictEntry→List Str→Prop
  | [],_=>True
  | e::es,l=>match l with
    | []=>False
    | x::l=>EntR e x∧EntsR es l
def vKey:Value→Option Key
  | .none=>some .none
  | .int i _=>some (.int i)
  | .str x _=>some (.str x)
  | _=>none
def keyIs(k:Key)(v:Value):Bool:=decide (vKey v=some k)
theorem key_elim{P:Key→Value→Prop}(h1:P .none .none)(h2:∀ i t,P (.int i) (.int i t))(h3:∀ x t,P (.str x) (.str x t)){k:Key}{v:Value}(h:keyIs k v=true):P k v:=by
  have h:vKey v=some k:=of_decide_eq_true h
  cases v with
  | none=>cases h;exact h1
  | int i t=>cases h;exact h2 i t
  | str x t=>cases h;exact h3 x t
  | _=>cases h
def keyV(X:Wd):V→Option Key
  | .none=>some .none
  | .int i=>some (.int i)
  | .str n=>(X.S n).map .str
  | _=>none
def keyHash(w:World):Key→Int
  | .none=>0xFCA86420
  | .int i=>hashInt i
  | .str x=>hashStr w x
theorem pyHash_none{prog:Program}{w:World}{A:Around}{E:Value→Shared→Prop}{s:Shared}{Q:Int→Shared→Prop}(h:Q 0xFCA86420 { s with toks:=s.toks+1 }) :
    wpAny (model prog w) A (pyHash .none) Q E s:=by
  have hT:s.TypeIs .none "NoneType":=rfl
  unfold pyHash
  have hv:[Value.none].any Value.onHeap=false:=rfl
  refine wpAny_bind ?_
  rw[cRoomFor,if_neg (by rw[hv];exact Bool.false_ne_true)];refine wpAny_pure ?_
  refine wpAny_bind (wpAny_specialOf hT F.slot_NoneType_hash.lookup ?_)
  show wpAny _ _ (if(some (Value.builtin "NoneType.__hash__")==some Value.none)=true then _ else _) Q E s
  rw[if_neg (by rw[beq_builtin_none];exact Bool.false_ne_true)]
  refine wpAny_bind (wpAny_specialOf hT F.slot_NoneType_hash.lookup ?_)
  show wpAny _ _ (callSpecialIfBoundUnlessNone? .none "__hash__" _ >>= _) Q E s
  refine wpAny_bind (wpAny_callSpecialIfBoundUnlessNone?_slot hT F.slot_NoneType_hash
    (wpAny_call_entry F.slot_NoneType_hash hT F.entry_NoneType_hash
      (show wpAny _ _ (do let _ ←slotArgs "__hash__" 0 ⟨[.none],[]⟩;retInt 0xFCA86420) _ _ s from ?_) (F.args_NoneType_hash_1 _)))
  refine wpAny_bind (wpAny_pure ?_)
  exact wpAny_ret_mkInt (wpAny_pure h)
def keyK(prog:Program)(w:World):KeyKind prog w Key where
  is:=keyIs
  hash:=keyHash w
  inj:=fun v a b ha hb=>Option.some.inj ((of_decide_eq_true ha).symm.trans (of_decide_eq_true hb))
  byValue:=fun k v h=>key_elim (P:=fun zz v=>carriedByValue v=true) rfl (fun zz zz=>rfl) (fun zz zz=>rfl) h
  pyHash:=fun {A E s k v Q} h q=>key_elim (P:=fun k v=>Q (keyHash w k) _→wpAny (model prog w) A (pyHash v) Q E s) (fun q=>pyHash_none q) (fun zz zz q=>wpAny_pyHash_int q) (fun zz zz q=>wpAny_pyHash_str q) h q
  eqBool:=fun {A E s a b u v Q} hu hv q=>by
    refine key_elim (P:=fun a u=>Q (decide (a=b)) s→wpAny (model prog w) A (eqBool u v) Q E s) (fun q=>?_) (fun i t q=>?_) (fun x t q=>?_) hu q
    · exact key_elim (P:=fun b v=>Q (decide (.none=b)) s→wpAny (model prog w) A (eqBool .none v) Q E s) (fun q=>SeqAt.EqAt.same .none prog w E Q q) (fun i t q=>SeqAt.EqAt.none_int i t prog w E Q q) (fun x t q=>SeqAt.EqAt.none_str x t prog w E Q q) hv q
    · exact key_elim (P:=fun b v=>Q (decide (.int i=b)) s→wpAny (model prog w) A (eqBool (.int i t) v) Q E s) (fun q=>SeqAt.EqAt.int_none i t prog w E Q q) (fun j u q=>wpAny_eqBool_int ((show decide (Key.int i=.int j)=(i==j)from decide_eq_decide.mpr ⟨fun h=>Key.noConfusion h id,fun h=>h▸rfl⟩)▸q)) (fun y u q=>SeqAt.EqAt.int_str i t y u prog w E Q q) hv q
    · exact key_elim (P:=fun b v=>Q (decide (.str x=b)) s→wpAny (model prog w) A (eqBool (.str x t) v) Q E s) (fun q=>SeqAt.EqAt.str_none x t prog w E Q q) (fun j u q=>SeqAt.EqAt.str_int x t j u prog w E Q q) (fun y u q=>wpAny_eqBool_str ((show decide (Key.str x=.str y)=decide (x=y)from decide_eq_decide.mpr ⟨fun h=>Key.noConfusion h id,fun h=>h▸rfl⟩)▸q)) hv q
  «strs»:=fun k x t v h=>by
    cases show some (Key.str x)=some k from of_decide_eq_true h
    cases v with
    | str y u=>
      show decide (some (Key.str y)=some (Key.str x))=(y==x)
      by_cases e:y=x
      · subst e;rw[decide_eq_true rfl,beq_self_eq_true]
      · rw[beq_eq_false_iff_ne.mpr e];exact decide_eq_false fun h=>e (Key.str.inj (Option.some.inj h))
    | _=>rfl
abbrev dk(X:Wd):KeyKind X.prog X.w Key:=keyK X.prog X.w
theorem IsL.list{h:Heap}{a:Addr}{items:Array Value}{n:Nat}(l:IsL h a items n):h.IsList a items:=⟨_,l,rfl,n,rfl⟩
structure Dct(X:Wd)(h:Heap)(a:Addr)(ks:List V)(kvs:List (Key×Value)):Prop where
  sys:(a==sysModules)=false
  is:h.DictOf (dk X) a kvs
  keys:ks.map (keyV X)=kvs.map fun p=>some p.1
  few:ks.length≤lim
structure Ins(X:Wd)(h:Heap)(c:Nat)(a d C:Addr)(es:List DictEntry)(n:Nat):Prop where
  cls:X.cls c=some C
  at_:h.get? a=some (instObj C d)
  dict:h.get? d=some (dictOf es n)
  ents:EntsR es (X.AN c)
inductive Is(P At:Addr→Prop):Value→Prop where
  | mk {a}:¬P a→At a→Is P At (.ref a)
inductive LstAt(h:Heap)(len:Nat)(R:List Value→Prop)(a:Addr):Prop where
  | mk {xs n}:len<lim+1→IsL h a xs n→R xs.toList→LstAt h len R a
inductive TupAt(h:Heap)(len:Nat)(R:List Value→Prop)(a:Addr):Prop where
  | mk {xs}:len<lim→h.IsTuple a xs→R xs.toList→TupAt h len R a
inductive DctAt(X:Wd)(h:Heap)(ks:List V)(R:List Value→Prop)(a:Addr):Prop where
  | mk {kvs}:Dct X h a ks kvs→R (kvs.map (·.2))→DctAt X h ks R a
inductive InsAt(X:Wd)(h:Heap)(c:Nat)(R:List Value→Prop)(a d:Addr):Prop where
  | mk {C es n}:Ins X h c a d C es n→R (es.map (·.val))→InsAt X h c R a d
inductive Ins2(P:Addr→Prop)(At:Addr→Addr→Prop)(a:Addr):Prop where
  | mk {d}:¬P d→At a d→Ins2 P At a
section
variable(X:Wd)(h:Heap)(P:Addr→Prop)
mutual
def VR:V→List Foot→Value→Prop
  | .undef,_,_=>False
  | .none,_,x=>x=.none
  | .bool b,_,x=>x=.bool b
  | .int i,_,x=>∃ t,x=.int i t
  | .str n,_,x=>∃ y t,X.S n=some y∧x=.str y t
  | .tup vs,ρ,x=>Is P (TupAt h vs.length (VRs vs ρ)) x
  | .lst vs,_,x=>Is P (LstAt h vs.length (VRs vs [])) x
  | .dct ks vs,_,x=>Is P (DctAt X h ks (VRs vs [])) x
  | .inst c vs,_,x=>Is P (Ins2 P (InsAt X h c (VRs vs []))) x
  | .ref i,ρ,x=>∃ f,ρ[i]?=some f∧x=.ref f.a
def VRs:List V→List Foot→List Value→Prop
  | [],_,xs=>xs=[]
  | v::vs,ρ,xs=>match xs with
    | []=>False
    | x::xs=>VR v ρ x∧VRs vs ρ xs
end
end
def Keep(h:Heap)(P:Addr→Prop)(h':Heap)(P':Addr→Prop):Prop:=∀ b o,h.get? b=some o→¬P b→¬P' b∧h'.get? b=some o
theorem Dct.ex{X:Wd}{h:Heap}{a:Addr}{ks:List V}{kvs:List (Key×Value)}(l:Dct X h a ks kvs):∃ o,h.get? a=some o:=l.is.imp fun zz q=>q.elim fun zz q=>q.elim fun zz q=>q.1
section
variable{h h':Heap}{P P' At:Addr→Prop}{len:Nat}{R R':List Value→Prop}{a:Addr}{x:Value}{C:Prop}{Q:Value→Prop}
theorem Is.el(r:Is P At x)(q:∀ a,¬P a→At a→Q (.ref a)):Q x:=Is.rec (motive:=fun x zz=>Q x) (fun n l=>q _ n l) r
theorem LstAt.el(r:LstAt h len R a)(q:∀ xs n,len<lim+1→IsL h a xs n→R xs.toList→C):C:=LstAt.rec (motive:=fun zz=>C) (fun l m n=>q _ _ l m n) r
theorem TupAt.el(r:TupAt h len R a)(q:∀ xs,len<lim→h.IsTuple a xs→R xs.toList→C):C:=TupAt.rec (motive:=fun zz=>C) (fun l m n=>q _ l m n) r
theorem DctAt.el{X:Wd}{ks:List V}(r:DctAt X h ks R a)(q:∀ kvs,Dct X h a ks kvs→R (kvs.map (·.2))→C):C:=DctAt.rec (motive:=fun zz=>C) (fun l m=>q _ l m) r
theorem InsAt.el{X:Wd}{c:Nat}{d:Addr}(r:InsAt X h c R a d)(q:∀ K es n,Ins X h c a d K es n→R (es.map (·.val))→C):C:=InsAt.rec (motive:=fun zz=>C) (fun l m=>q _ _ _ l m) r
theorem Ins2.el{At:Addr→Addr→Prop}(r:Ins2 P At a)(q:∀ d,¬P d→At a d→C):C:=Ins2.rec (motive:=fun zz=>C) (fun l m=>q _ l m) r
theorem LstAt.to(r:LstAt h len R a)(e:∀ o,h.get? a=some o→h'.get? a=some o)(f:∀ xs,R xs→R' xs):LstAt h' len R' a:=r.el fun zz zz l m n=>.mk l (e _ m) (f _ n)
theorem TupAt.to(r:TupAt h len R a)(e:∀ o,h.get? a=some o→h'.get? a=some o)(f:∀ xs,R xs→R' xs):TupAt h' len R' a:=r.el fun zz l m n=>.mk l (m.imp fun zz q=>⟨e _ q.1,q.2⟩) (f _ n)
theorem Dct.to{X:Wd}{ks:List V}{kvs:List (Key×Value)}(l:Dct X h a ks kvs)(e:∀ o,h.get? a=some o→h'.get? a=some o):Dct X h' a ks kvs:=
  ⟨l.sys,l.is.imp fun o=>Exists.imp fun zz=>Exists.imp fun zz q=>⟨e o q.1,q.2⟩,l.keys,l.few⟩
theorem DctAt.to{X:Wd}{ks:List V}(r:DctAt X h ks R a)(e:∀ o,h.get? a=some o→h'.get? a=some o)(f:∀ xs,R xs→R' xs):DctAt X h' ks R' a:=r.el fun zz l m=>.mk (l.to e) (f _ m)
theorem InsAt.to{X:Wd}{c:Nat}{d:Addr}(r:InsAt X h c R a d)(e:∀ o,h.get? a=some o→h'.get? a=some o)(e':∀ o,h.get? d=some o→h'.get? d=some o)(f:∀ xs,R xs→R' xs):InsAt X h' c R' a d:=r.el fun zz zz zz l m=>.mk ⟨l.cls,e _ l.at_,e' _ l.dict,l.ents⟩ (f _ m)
end
section
variable{X:Wd}{h h':Heap}{P P' At At':Addr→Prop}
theorem Keep.is{x:Value}(k:Keep h P h' P')(r:Is P At x)(ex:∀ a,At a→∃ o,h.get? a=some o)(f:∀ a,(∀ o,h.get? a=some o→h'.get? a=some o)→At a→At' a):Is P' At' x:=
  r.el fun a n l=>.mk ((ex a l).elim fun o e=>(k a o e n).1) (f a (fun o e=>(k a o e n).2) l)
theorem LstAt.ex{len R a}(r:LstAt h len R a):∃ o,h.get? a=some o:=r.el fun zz zz zz l zz=>⟨_,l⟩
theorem TupAt.ex{len R a}(r:TupAt h len R a):∃ o,h.get? a=some o:=r.el fun zz zz l zz=>l.imp fun zz q=>q.1
theorem DctAt.ex{ks R a}(r:DctAt X h ks R a):∃ o,h.get? a=some o:=r.el fun zz l zz=>l.ex
theorem InsAt.ex{c R a d}(r:InsAt X h c R a d):∃ o,h.get? a=some o:=r.el fun zz zz zz l zz=>⟨_,l.at_⟩
theorem InsAt.ex'{c R a d}(r:InsAt X h c R a d):∃ o,h.get? d=some o:=r.el fun zz zz zz l zz=>⟨_,l.dict⟩
mutual
theorem VR.mono(k:Keep h P h' P'):∀ {v:V} {ρ ρ':List Foot} {x:Value},ρ <+: ρ'→VR X h P v ρ x→VR X h' P' v ρ' x
  | .undef,_,_,_,_,r=>r
  | .none,_,_,_,_,r=>r
  | .bool _,_,_,_,_,r=>r
  | .int _,_,_,_,_,r=>r
  | .str _,_,_,_,_,r=>r
  | .tup _,_,_,_,e,r=>k.is r (fun zz l=>l.ex) fun zz q l=>l.to q fun zz=>VRs.mono k e
  | .lst _,_,_,_,_,r=>k.is r (fun zz l=>l.ex) fun zz q l=>l.to q fun zz=>VRs.mono k List.prefix_rfl
  | .dct _ _,_,_,_,_,r=>k.is r (fun zz l=>l.ex) fun zz q l=>l.to q fun zz=>VRs.mono k List.prefix_rfl
  | .inst _ _,_,_,_,_,r=>k.is r (fun zz l=>l.el fun zz zz l=>l.ex) fun zz q l=>l.el fun d n l=>.mk (l.ex'.elim fun o e=>(k d o e n).1) (l.to q (fun o e=>(k d o e n).2) fun zz=>VRs.mono k List.prefix_rfl)
  | .ref _,_,_,_,e,r=>r.imp fun f q=>⟨e.elim fun t e=>by rw[←e,List.getElem?_append_left (List.getElem?_eq_some_iff.mp q.1).1];exact q.1,q.2⟩
theorem VRs.mono(k:Keep h P h' P'):∀ {vs:List V} {ρ ρ':List Foot} {xs:List Value},ρ <+: ρ'→VRs X h P vs ρ xs→VRs X h' P' vs ρ' xs
  | [],_,_,_,_,r=>r
  | _::_,_,_,[],_,r=>r
  | _::_,_,_,_::_,e,⟨r,q⟩=>⟨VR.mono k e r,VRs.mono k e q⟩
end
theorem VRs.length:∀ {vs:List V} {ρ:List Foot} {xs:List Value},VRs X h P vs ρ xs→vs.length=xs.length
  | [],_,_,r=>congrArg List.length r.symm
  | _::_,_,_::_,⟨_,q⟩=>congrArg (·+1) q.length
end
section
variable(X:Wd)(h:Heap)(P:Addr→Prop)(ρ:List Foot)
def CellR(o:O)(f:Foot):Prop:=match o with
  | .list vs=>LstAt h vs.length (VRs X h P vs ρ) f.a
  | .lock vs=>LstAt h vs.length (VRs X h P vs ρ) f.a
  | .dict ks vs=>DctAt X h ks (VRs X h P vs ρ) f.a
  | .inst c vs=>f.a≠f.d∧InsAt X h c (VRs X h P vs ρ) f.a f.d
  | .frz v=>VR X h P v [] (.ref f.a)
end
def ownOf:O→Foot→List Addr
  | .frz _,_=>[]
  | .inst _ _,f=>[f.a,f.d]
  | _,f=>[f.a]
def owned:Hp→List Foot→List Addr
  | [],_=>[]
  | o::H,ρ=>match ρ with
    | []=>[]
    | f::ρ=>ownOf o f++owned H ρ
def Mut(Z:Addr→Prop)(H:Hp)(ρ:List Foot):Addr→Prop:=fun a=>Z a∨a∈owned H ρ
structure Inv(X:Wd)(Z:Addr→Prop)(s:Shared)(ρ:List Foot)(H:Hp):Prop where
  len:ρ.length=H.length
  cells:∀ i o f,cell H i=some o→ρ[i]?=some f→CellR X s.heap (Mut Z H ρ) ρ o f
  nodup:(owned H ρ).Nodup
  base:∀ b o,X.h₀.get? b=some o→s.heap.get? b=some o
  apart:∀ a∈owned H ρ,X.h₀.get? a=none∧¬Z a
  size:X.h₀.objs.size≤s.heap.objs.size
  zlow:∀ a,Z a→a<s.heap.objs.size
  znew:∀ a,Z a→X.h₀.get? a=none
structure StepF(F:Addr→Prop)(s:Shared)(ρ:List Foot)(H:Hp)(s':Shared)(ρ':List Foot)(H':Hp):Prop where
  ext:ρ <+: ρ'
  keep:∀ b o,s.heap.get? b=some o→b ∉ owned H ρ→¬F b→s'.heap.get? b=some o
  new:∀ a,a∈owned H' ρ'→a∈owned H ρ∨s.heap.objs.size≤a
  size:s.heap.objs.size≤s'.heap.objs.size
  gens:s'.gens=s.gens
  os:s'.os=s.os
end Mine
end
section
set_option genInjectivity false
set_option genSizeOf false
namespace Mine
open PySem PySem.W PySem.Calls PyProof.Rows
abbrev Step:=StepF (fun zz=>False)
structure Cg(X:Wd)(Z:Addr→Prop) where
  s:Shared
  ρ:List Foot
  H:Hp
  I:Inv X Z s ρ H
section
variable{X:Wd}{Z:Addr→Prop}
abbrev Cg.P(σ:Cg X Z):Addr→Prop:=Mut Z σ.H σ.ρ
abbrev Cg.vr(σ:Cg X Z)(v:V)(x:Value):Prop:=VR X σ.s.heap σ.P v σ.ρ x
abbrev Cg.vrs(σ:Cg X Z)(vs:List V)(xs:List Value):Prop:=VRs X σ.s.heap σ.P vs σ.ρ xs
abbrev Cg.fr(σ:Cg X Z)(v:V)(x:Value):Prop:=VR X σ.s.heap σ.P v [] x
abbrev Cg.frs(σ:Cg X Z)(vs:List V)(xs:List Value):Prop:=VRs X σ.s.heap σ.P vs [] xs
abbrev To(σ τ:Cg X Z):Prop:=Step σ.s σ.ρ σ.H τ.s τ.ρ τ.H
end
theorem Keep.refl{h:Heap}{P:Addr→Prop}:Keep h P h P:=fun zz zz e n=>⟨n,e⟩
theorem Keep.grow{h h':Heap}{P:Addr→Prop}(k:∀ b o,h.get? b=some o→h'.get? b=some o):Keep h P h' P:=fun b o e n=>⟨n,k b o e⟩
theorem VR.up{X:Wd}{h:Heap}{P:Addr→Prop}{ρ:List Foot}{v x}(r:VR X h P v [] x):VR X h P v ρ x:=r.mono Keep.refl List.nil_prefix
theorem VRs.up{X:Wd}{h:Heap}{P:Addr→Prop}{ρ:List Foot}{v x}(r:VRs X h P v [] x):VRs X h P v ρ x:=r.mono Keep.refl List.nil_prefix
section
variable{F Z:Addr→Prop}{s s₁ s₂:Shared}{ρ ρ₁ ρ₂:List Foot}{H H₁ H₂:Hp}
theorem StepF.refl:StepF F s ρ H s ρ H:=⟨List.prefix_rfl,fun zz zz e zz zz=>e,fun zz h=>.inl h,Nat.le_refl _,rfl,rfl⟩
theorem StepF.trans(a:StepF F s ρ H s₁ ρ₁ H₁)(b:StepF F s₁ ρ₁ H₁ s₂ ρ₂ H₂):StepF F s ρ H s₂ ρ₂ H₂ where
  ext:=a.ext.trans b.ext
  keep:=fun x o e n f=>b.keep x o (a.keep x o e n f) (fun q=>(a.new x q).elim n fun q=>absurd (Heap.lt_size e) (Nat.not_lt.mpr q)) f
  new:=fun x q=>(b.new x q).elim (a.new x) fun q=>.inr (Nat.le_trans a.size q)
  size:=Nat.le_trans a.size b.size
  gens:=b.gens.trans a.gens
  os:=b.os.trans a.os
theorem StepF.weak(a:Step s ρ H s₁ ρ₁ H₁):StepF F s ρ H s₁ ρ₁ H₁:=⟨a.ext,fun b o e n zz=>a.keep b o e n id,a.new,a.size,a.gens,a.os⟩
theorem StepF.kp(a:StepF F s ρ H s₁ ρ₁ H₁)(f:∀ b,F b→Z b):Keep s.heap (Mut Z H ρ) s₁.heap (Mut Z H₁ ρ₁):=
  fun b o e n=>⟨fun q=>q.elim (fun q=>n (.inl q)) fun q=>(a.new b q).elim (fun q=>n (.inr q)) fun q=>absurd (Heap.lt_size e) (Nat.not_lt.mpr q),a.keep b o e (fun q=>n (.inr q)) fun q=>n (.inl (f b q))⟩
end
section
variable{X:Wd}{Z:Addr→Prop}{σ τ:Cg X Z}
theorem To.kp(t:To σ τ):Keep σ.s.heap σ.P τ.s.heap τ.P:=StepF.kp t fun zz h=>h.elim
theorem To.vr(t:To σ τ){v x}(r:σ.vr v x):τ.vr v x:=r.mono t.kp t.ext
theorem To.vrs(t:To σ τ){v x}(r:σ.vrs v x):τ.vrs v x:=r.mono t.kp t.ext
theorem To.fr(t:To σ τ){v x}(r:σ.fr v x):τ.fr v x:=r.mono t.kp List.prefix_rfl
theorem To.frs(t:To σ τ){v x}(r:σ.frs v x):τ.frs v x:=r.mono t.kp List.prefix_rfl
end
theorem cell_eq(H:Hp)(i:Nat):cell H i=H[i]?:=by
  induction H generalizing i with
  | nil=>rfl
  | cons a H ih=>cases i with
    | zero=>rfl
    | succ i=>exact ih i
theorem owned_mem{H:Hp}{ρ:List Foot}{i:Nat}{o:O}{f:Foot}(e:cell H i=some o)(hf:ρ[i]?=some f){a:Addr}(ha:a∈ownOf o f):a∈owned H ρ:=by
  induction H generalizing i ρ with
  | nil=>cases e
  | cons b H ih=>cases ρ with
    | nil=>cases hf
    | cons g ρ=>cases i with
      | zero=>cases e;cases hf;exact List.mem_append_left _ ha
      | succ i=>exact List.mem_append_right _ (ih e hf)
theorem owned_inv{H:Hp}{ρ:List Foot}{a:Addr}(h:a∈owned H ρ):∃ i o f,cell H i=some o∧ρ[i]?=some f∧a∈ownOf o f:=by
  induction H generalizing ρ with
  | nil=>cases h
  | cons o H ih=>cases ρ with
    | nil=>cases h
    | cons f ρ=>exact(List.mem_append.mp h).elim (fun q=>⟨0,o,f,rfl,rfl,q⟩) fun q=>let ⟨i,r⟩:=ih q;⟨i+1,r⟩
theorem owned_append{H:Hp}{ρ:List Foot}(e:ρ.length=H.length)(o:O)(f:Foot):owned (H++[o]) (ρ++[f])=owned H ρ++ownOf o f:=by
  induction H generalizing ρ with
  | nil=>cases ρ with
    | nil=>exact List.append_nil _
    | cons=>cases e
  | cons b H ih=>cases ρ with
    | nil=>cases e
    | cons g ρ=>exact(congrArg (ownOf b g++·) (ih (Nat.succ.inj e))).trans (List.append_assoc ..).symm
theorem cell_set_ne{H:Hp}{i j:Nat}(o:O)(h:j≠i):cell (setC H i o) j=cell H j:=by
  induction H generalizing i j with
  | nil=>rfl
  | cons b H ih=>cases i with
    | zero=>cases j with
      | zero=>exact absurd rfl h
      | succ j=>rfl
    | succ i=>cases j with
      | zero=>rfl
      | succ j=>exact ih fun e=>h (congrArg _ e)
theorem cell_set_same{H:Hp}{i:Nat}{o o':O}(h:cell H i=some o'):cell (setC H i o) i=some o:=by
  induction H generalizing i with
  | nil=>cases h
  | cons b H ih=>cases i with
    | zero=>rfl
    | succ i=>exact ih h
theorem setC_length(H:Hp)(i:Nat)(o:O):(setC H i o).length=H.length:=by
  induction H generalizing i with
  | nil=>rfl
  | cons b H ih=>cases i with
    | zero=>rfl
    | succ i=>exact congrArg (·+1) (ih i)
theorem set_sub{H:Hp}{ρ:List Foot}{i:Nat}{o o':O}{f:Foot}(e:cell H i=some o)(hf:ρ[i]?=some f)(hs:(ownOf o' f).Sublist (ownOf o f)):(owned (setC H i o') ρ).Sublist (owned H ρ):=by
  induction H generalizing ρ i with
  | nil=>cases e
  | cons b H ih=>cases ρ with
    | nil=>cases hf
    | cons g ρ=>cases i with
      | zero=>cases e;cases hf;exact List.Sublist.append hs (List.Sublist.refl _)
      | succ i=>exact List.Sublist.append (List.Sublist.refl _) (ih e hf)
theorem owned_apart{H:Hp}{ρ:List Foot}(n:(owned H ρ).Nodup){i j:Nat}{o o':O}{f f':Foot}(e:cell H i=some o)(hf:ρ[i]?=some f)(e':cell H j=some o')(hf':ρ[j]?=some f')(hij:i≠j){a:Addr}(ha:a∈ownOf o f):a ∉ ownOf o' f':=by
  induction H generalizing ρ i j with
  | nil=>cases e
  | cons b H ih=>cases ρ with
    | nil=>cases hf
    | cons g ρ=>
      have n:=List.nodup_append.mp n
      cases i with
      | zero=>cases j with
        | zero=>exact absurd rfl hij
        | succ j=>cases e;cases hf;exact fun hb=>n.2.2 a ha a (owned_mem (i:=j) e' hf' hb) rfl
      | succ i=>cases j with
        | zero=>cases e';cases hf';exact fun hb=>n.2.2 a hb a (owned_mem (i:=i) e hf ha) rfl
        | succ j=>exact ih n.2.1 e hf e' hf' fun q=>hij (congrArg _ q)
section
variable{X:Wd}{h h':Heap}{P P':Addr→Prop}{ρ ρ':List Foot}{o:O}{f:Foot}
theorem CellR.mono(r:CellR X h P ρ o f)(k:Keep h P h' P')(k':∀ b ob,h.get? b=some ob→b∈ownOf o f→h'.get? b=some ob)(e:ρ <+: ρ'):CellR X h' P' ρ' o f:=by
  cases o with
  | list vs=>exact LstAt.to r (fun o e=>k' _ o e (.head _)) fun zz=>VRs.mono k e
  | lock vs=>exact LstAt.to r (fun o e=>k' _ o e (.head _)) fun zz=>VRs.mono k e
  | dict ks vs=>exact DctAt.to r (fun o e=>k' _ o e (.head _)) fun zz=>VRs.mono k e
  | inst c vs=>exact⟨r.1,r.2.to (fun o e=>k' _ o e (.head _)) (fun o e=>k' _ o e (.tail _ (.head _))) fun zz=>VRs.mono k e⟩
  | frz v=>exact VR.mono k List.prefix_rfl r
theorem CellR.lt(r:CellR X h P ρ o f){a:Addr}(ha:a∈ownOf o f):a<h.objs.size:=by
  cases o with
  | list vs=>exact(List.mem_singleton.mp ha)▸(LstAt.ex r).elim fun zz e=>Heap.lt_size e
  | lock vs=>exact(List.mem_singleton.mp ha)▸(LstAt.ex r).elim fun zz e=>Heap.lt_size e
  | dict ks vs=>exact(List.mem_singleton.mp ha)▸(DctAt.ex r).elim fun zz e=>Heap.lt_size e
  | inst c vs=>exact(List.mem_cons.mp ha).elim (fun e=>e▸r.2.ex.elim fun zz e=>Heap.lt_size e) fun e=>(List.mem_singleton.mp e)▸r.2.ex'.elim fun zz e=>Heap.lt_size e
  | frz v=>cases ha
end
section
variable{X:Wd}{Z:Addr→Prop}{s:Shared}{ρ:List Foot}{H:Hp}
theorem Inv.owned_lt(I:Inv X Z s ρ H){a:Addr}(h:a∈owned H ρ):a<s.heap.objs.size:=let ⟨i,o,f,h1,h2,h3⟩:=owned_inv h;(I.cells i o f h1 h2).lt h3
theorem Inv.fresh(I:Inv X Z s ρ H){a:Addr}(ha:s.heap.objs.size≤a):¬Mut Z H ρ a:=fun q=>Nat.not_lt.mpr ha (q.elim (I.zlow a) I.owned_lt)
end
section
variable{X:Wd}{Z:Addr→Prop}
noncomputable def Cg.grow (σ:Cg X Z) (h':Heap) (t:Nat) (k:∀ b o,σ.s.heap.get? b=some o→h'.get? b=some o) (sz:σ.s.heap.objs.size≤h'.objs.size):Cg X Z where
  s:={ σ.s with heap:=h',toks:=t }
  ρ:=σ.ρ
  H:=σ.H
  I:=⟨σ.I.len,fun i o f a b=>(σ.I.cells i o f a b).mono (Keep.grow k) (fun b o e zz=>k b o e) List.prefix_rfl,σ.I.nodup,fun b o e=>k _ _ (σ.I.base b o e),σ.I.apart,Nat.le_trans σ.I.size sz,fun a q=>Nat.lt_of_lt_of_le (σ.I.zlow a q) sz,σ.I.znew⟩
theorem To.grow{σ:Cg X Z}{h':Heap}{t:Nat}{k sz}:To σ (σ.grow h' t k sz):=⟨List.prefix_rfl,fun b o e zz zz=>k b o e,fun zz q=>.inl q,sz,rfl,rfl⟩
noncomputable def Cg.tok (σ:Cg X Z) (t:Nat):Cg X Z:=⟨{ σ.s with toks:=t },σ.ρ,σ.H,⟨σ.I.len,σ.I.cells,σ.I.nodup,σ.I.base,σ.I.apart,σ.I.size,σ.I.zlow,σ.I.znew⟩⟩
theorem To.tok{σ:Cg X Z}{t:Nat}:To σ (σ.tok t):=⟨List.prefix_rfl,fun zz zz e zz zz=>e,fun zz q=>.inl q,Nat.le_refl _,rfl,rfl⟩
theorem push_old{h:Heap}{o:Obj}(b:Addr)(ob:Obj)(e:h.get? b=some ob):(h.push o).get? b=some ob:=Heap.get?_push_of_some o e
theorem push_size{h:Heap}{o:Obj}:h.objs.size≤(h.push o).objs.size:=by rw[Heap.size_push];exact Nat.le_succ _
noncomputable def Cg.push (σ:Cg X Z) (o:Obj) (t:Nat):Cg X Z:=σ.grow (σ.s.heap.push o) t push_old push_size
theorem To.push{σ:Cg X Z}{o:Obj}{t:Nat}:To σ (σ.push o t):=To.grow
noncomputable def Cg.set (σ:Cg X Z) {i:Nat} {o:O} (o':O) {f:Foot} (e:cell σ.H i=some o) (hf:σ.ρ[i]?=some f) (h':Heap) (t:Nat)
    (k:∀ b ob,σ.s.heap.get? b=some ob→b ∉ ownOf o f→h'.get? b=some ob) (sz:σ.s.heap.objs.size≤h'.objs.size) (hs:(ownOf o' f).Sublist (ownOf o f))
    (c:Keep σ.s.heap σ.P h' (Mut Z (setC σ.H i o') σ.ρ)→CellR X h' (Mut Z (setC σ.H i o') σ.ρ) σ.ρ o' f):Cg X Z where
  s:={ σ.s with heap:=h',toks:=t }
  ρ:=σ.ρ
  H:=setC σ.H i o'
  I:={
    len:=by rw[setC_length];exact σ.I.len
    cells:=fun j b g h1 h2=>by
      have kp:Keep σ.s.heap σ.P h' (Mut Z (setC σ.H i o') σ.ρ):=fun a ob q n=>⟨fun q=>n (q.imp id fun q=>(set_sub e hf hs).subset q),k a ob q fun m=>n (.inr (owned_mem e hf m))⟩
      by_cases hj:j=i
      · subst hj
        cases(cell_set_same e).symm.trans h1
        cases hf.symm.trans h2
        exact c kp
      · rw[cell_set_ne _ hj]at h1
        exact(σ.I.cells j b g h1 h2).mono kp (fun a ob q m=>k a ob q fun n=>owned_apart σ.I.nodup h1 h2 e hf hj m n) List.prefix_rfl
    nodup:=(set_sub e hf hs).nodup σ.I.nodup
    base:=fun b ob q=>k _ _ (σ.I.base b ob q) fun m=>Option.some_ne_none _ (q.symm.trans (σ.I.apart b (owned_mem e hf m)).1)
    apart:=fun a q=>σ.I.apart a ((set_sub e hf hs).subset q)
    size:=Nat.le_trans σ.I.size sz
    zlow:=fun a q=>Nat.lt_of_lt_of_le (σ.I.zlow a q) sz
    znew:=σ.I.znew }
theorem To.set{σ:Cg X Z}{i:Nat}{o o':O}{f:Foot}{e hf h' t k sz hs c}:To σ (σ.set (i:=i) (o:=o) (f:=f) o' e hf h' t k sz hs c):=
  ⟨List.prefix_rfl,fun b ob q n zz=>k b ob q fun m=>n (owned_mem e hf m),fun zz q=>.inl ((set_sub e hf hs).subset q),sz,rfl,rfl⟩
theorem Cg.last{σ:Cg X Z}{f:Foot}:(σ.ρ++[f])[σ.H.length]?=some f:=by rw[←σ.I.len,List.getElem?_append_right (Nat.le_refl _),Nat.sub_self];rfl
end
end Mine
end
section
namespace Mine
open PySem PySem.W PySem.Calls PyProof.Rows
open PySem.SeqAt (EqAt RcAt RcNeAt)
theorem nn{α:Type}{w:α}{C:Prop}(h:none=some w):C:=Option.noConfusion rfl (heq_of_eq h)
theorem bx_inv{α β:Type}{x:Option α}{k:α→Option β}{w:β}(h:bx x k=some w):∃ a,x=some a∧k a=some w:=by
  cases x with
  | none=>cases h
  | some a=>exact⟨a,rfl,h⟩
theorem bp_inv{α β γ:Type}{x:Option (α×β)}{k:α→β→Option γ}{w:γ}(h:bp x k=some w):∃ a b,x=some (a,b)∧k a b=some w:=by
  cases x with
  | none=>cases h
  | some a=>exact⟨a.1,a.2,rfl,h⟩
theorem gx_inv{β:Type}{b:Bool}{t:Option β}{w:β}(h:gx b t=some w):b=true∧t=some w:=by
  cases b with
  | false=>cases h
  | true=>exact⟨rfl,h⟩
theorem cs_inv{β:Type}{b:Bool}{t e:Option β}{w:β}(h:cs b t e=some w):(b=true∧t=some w)∨(b=false∧e=some w):=by
  cases b with
  | false=>exact .inr ⟨rfl,h⟩
  | true=>exact .inl ⟨rfl,h⟩
section
variable{X:Wd}{h:Heap}{P:Addr→Prop}{ρ ρ':List Foot}
theorem VRs.cons_inv{v:V}{vs:List V}{xs:List Value}{R:List Value→Prop}(r:VRs X h P (v::vs) ρ xs)(k:∀ x ys,VR X h P v ρ x→VRs X h P vs ρ ys→R (x::ys)):R xs:=by
  cases xs with
  | nil=>exact r.elim
  | cons x ys=>exact k x ys r.1 r.2
theorem nth_get{vs:List V}{i:Nat}:nth vs i=vs[i]?:=by
  induction vs generalizing i with
  | nil=>rfl
  | cons a vs ih=>cases i with
    | zero=>rfl
    | succ i=>exact ih
theorem VRs.get{vs:List V}{xs:List Value}(r:VRs X h P vs ρ xs){i:Nat}{v:V}(e:nth vs i=some v):∃ x,xs[i]?=some x∧VR X h P v ρ x:=by
  induction vs generalizing xs i with
  | nil=>cases e
  | cons a vs ih=>cases xs with
    | nil=>exact r.elim
    | cons x ys=>cases i with
      | zero=>cases e;exact⟨x,rfl,r.1⟩
      | succ i=>exact ih r.2 e
theorem VRs.append{vs us:List V}{xs ys:List Value}(r:VRs X h P vs ρ xs)(q:VRs X h P us ρ ys):VRs X h P (vs++us) ρ (xs++ys):=by
  induction vs generalizing xs with
  | nil=>cases r;exact q
  | cons a vs ih=>exact r.cons_inv (R:=fun xs=>VRs X h P _ ρ (xs++ys)) fun x zs p r=>⟨p,ih r⟩
theorem VRs.take{vs:List V}{xs:List Value}(r:VRs X h P vs ρ xs)(n:Nat):VRs X h P (vs.take n) ρ (xs.take n):=by
  induction n generalizing vs xs with
  | zero=>exact rfl
  | succ n ih=>cases vs with
    | nil=>cases r;exact rfl
    | cons a vs=>exact r.cons_inv (R:=fun xs=>VRs X h P _ ρ (xs.take _)) fun x zs p r=>⟨p,ih r⟩
theorem VRs.drop{vs:List V}{xs:List Value}(r:VRs X h P vs ρ xs)(n:Nat):VRs X h P (vs.drop n) ρ (xs.drop n):=by
  induction n generalizing vs xs with
  | zero=>exact r
  | succ n ih=>cases vs with
    | nil=>cases r;exact rfl
    | cons a vs=>exact r.cons_inv (R:=fun xs=>VRs X h P _ ρ (xs.drop _)) fun x zs p r=>ih r
theorem VRs.snoc{vs:List V}{xs:List Value}{v:V}{x:Value}(r:VRs X h P vs ρ xs)(q:VR X h P v ρ x):VRs X h P (vs++[v]) ρ (xs++[x]):=r.append ⟨q,rfl⟩
theorem VRs.reverse{vs:List V}{xs:List Value}(r:VRs X h P vs ρ xs):VRs X h P vs.reverse ρ xs.reverse:=by
  induction vs generalizing xs with
  | nil=>cases r;exact rfl
  | cons a vs ih=>exact r.cons_inv (R:=fun xs=>VRs X h P _ ρ xs.reverse) fun x zs p r=>by rw[List.reverse_cons,List.reverse_cons];exact(ih r).snoc p
theorem VRs.put{vs:List V}{xs:List Value}(r:VRs X h P vs ρ xs){v:V}{x:Value}(q:VR X h P v ρ x)(i:Nat):VRs X h P (Mine.put vs i v) ρ (xs.set i x):=by
  induction vs generalizing xs i with
  | nil=>cases r;exact rfl
  | cons a vs ih=>cases xs with
    | nil=>exact r.elim
    | cons y ys=>cases i with
      | zero=>exact⟨q,r.2⟩
      | succ i=>exact⟨r.1,ih r.2 i⟩
theorem VRs.size{vs:List V}{xs:Array Value}(r:VRs X h P vs ρ xs.toList):xs.size=vs.length:=by rw[r.length,Array.length_toList]
theorem VRs.of_all{f:V→Bool}(hf:∀ {v x},f v=true→VR X h P v ρ x→VR X h P v [] x){vs:List V}{xs:List Value}(e:vs.all f=true)(r:VRs X h P vs ρ xs):VRs X h P vs [] xs:=by
  induction vs generalizing xs with
  | nil=>exact r
  | cons v vs ih=>
    have e:=(Bool.and_eq_true _ _).mp e
    exact r.cons_inv (R:=fun xs=>VRs X h P _ [] xs) fun x ys p r=>⟨hf e.1 p,ih e.2 r⟩
theorem VR.flat{n:Nat}{v:V}{x:Value}(e:flat n v=true)(r:VR X h P v ρ x):VR X h P v [] x:=by
  induction n generalizing v x with
  | zero=>cases v with
    | ref i=>cases e
    | tup vs=>cases e
    | _=>exact r
  | succ n ih=>cases v with
    | ref i=>cases e
    | tup vs=>exact Keep.refl.is r (fun zz l=>l.ex) fun zz q l=>l.to q fun zz=>VRs.of_all ih e
    | _=>exact r
theorem VRs.flat{vs:List V}{xs:List Value}(e:vs.all flatV=true)(r:VRs X h P vs ρ xs):VRs X h P vs [] xs:=VRs.of_all VR.flat e r
abbrev NoP:Addr→Prop:=fun zz=>False
variable(X h P ρ)in
def SV(v:V)(x:Value):Prop:=match v with
  | .lst vs=>Is NoP (LstAt h vs.length (VRs X h P vs ρ)) x
  | .dct ks vs=>Is NoP (DctAt X h ks (VRs X h P vs ρ)) x
  | .inst c vs=>Is NoP (Ins2 NoP (InsAt X h c (VRs X h P vs ρ))) x
  | v=>VR X h P v ρ x
theorem VR.sv{v:V}{x:Value}(r:VR X h P v ρ x):SV X h P ρ v x:=by
  cases v with
  | lst vs=>exact Is.el r fun a zz l=>.mk id (l.to (fun zz=>id) fun zz=>VRs.up)
  | dct ks vs=>exact Is.el r fun a zz l=>.mk id (l.to (fun zz=>id) fun zz=>VRs.up)
  | inst c vs=>exact Is.el r fun a zz l=>.mk id (l.el fun d zz l=>.mk id (l.to (fun zz=>id) (fun zz=>id) fun zz=>VRs.up))
  | _=>exact r
variable{v:V}{x:Value}{k:List V→Rs}{w:V×Hp}{Q:Value→Prop}
theorem lst_el(r:SV X h P ρ v x)(e:bx (lstC v) k=some w)(q:∀ a xs n vs,vs.length<lim+1→IsL h a xs n→VRs X h P vs ρ xs.toList→k vs=some w→Q (.ref a)):Q x:=by
  cases v with
  | lst vs=>exact Is.el r fun a zz l=>l.el fun xs n h1 h2 h3=>q a xs n vs h1 h2 h3 e
  | _=>exact nn e
theorem int_el{k:Int→Rs}(r:VR X h P v ρ x)(e:bx (intC v) k=some w)(q:∀ i t,k i=some w→Q (.int i t)):Q x:=by
  cases v with
  | int i=>exact let ⟨t,h⟩:=r;h▸q i t e
  | _=>exact nn e
theorem int_ox{k:Int→Rs}{z:Rs}(r:VR X h P v ρ x)(e:ox (intC v) k z=some w)(q:∀ i t,k i=some w→Q (.int i t))(g:z=some w→Q x):Q x:=by
  cases v with
  | int i=>exact let ⟨t,h⟩:=r;h▸q i t e
  | _=>exact g e
theorem ins_el{k:Nat→List V→Rs}(r:SV X h P ρ v x)(e:bp (insC v) k=some w)(q:∀ a d C es n c vs,Ins X h c a d C es n→VRs X h P vs ρ (es.map (·.val))→k c vs=some w→Q (.ref a)):Q x:=by
  cases v with
  | inst c vs=>exact Is.el r fun a zz l=>l.el fun d zz l=>l.el fun C es n h2 h3=>q a d C es n c vs h2 h3 e
  | _=>exact nn e
theorem dct_el{k:List V→List V→Rs}(r:SV X h P ρ v x)(e:bp (dctC v) k=some w)(q:∀ a kvs ks vs,Dct X h a ks kvs→VRs X h P vs ρ (kvs.map (·.2))→k ks vs=some w→Q (.ref a)):Q x:=by
  cases v with
  | dct ks vs=>exact Is.el r fun a zz l=>l.el fun kvs h2 h3=>q a kvs ks vs h2 h3 e
  | _=>exact nn e
end
section
variable{X:Wd}{Z:Addr→Prop}(σ:Cg X Z){v:V}{x:Value}{Q:Value→Prop}
theorem Cg.at_{i:Nat}{o:O}(r:σ.vr (.ref i) x)(e:cell σ.H i=some o)(q:∀ f,σ.ρ[i]?=some f→CellR X σ.s.heap σ.P σ.ρ o f→Q (.ref f.a)):Q x:=
  let ⟨f,h1,h2⟩:=r;h2▸q f h1 (σ.I.cells i o f e h1)
theorem Cg.foot{i:Nat}{o:O}(e:cell σ.H i=some o):∃ f,σ.ρ[i]?=some f:=by
  rw[cell_eq]at e
  exact⟨_,List.getElem?_eq_getElem (σ.I.len▸(List.getElem?_eq_some_iff.mp e).1)⟩
theorem Cg.con(r:σ.vr v x):SV X σ.s.heap σ.P σ.ρ (con σ.H v) x:=by
  cases v with
  | ref i=>
    have g:∀ o,cell σ.H i=some o→SV X σ.s.heap σ.P σ.ρ (Mine.con σ.H (.ref i)) x:=fun o e=>σ.at_ r e fun f hf c=>by
      unfold Mine.con;dsimp only;rw[e]
      cases o with
      | list vs=>exact .mk id c
      | lock vs=>exact .mk id c
      | dict ks vs=>exact .mk id c
      | inst c' vs=>exact .mk id (.mk id c.2)
      | frz v=>exact(VR.up c).sv
    cases e:cell σ.H i with
    | some o=>exact g o e
    | none=>
      have ⟨f,h1,_⟩:=r
      rw[cell_eq,List.getElem?_eq_none_iff,←σ.I.len,←List.getElem?_eq_none_iff,h1]at e
      cases e
  | _=>exact r.sv
theorem Cg.view(r:σ.vr v x):σ.vr (view σ.H v) x:=by
  cases v with
  | ref i=>
    cases e:cell σ.H i with
    | none=>unfold Mine.view;dsimp only;rw[e];exact r
    | some o=>
      cases o with
      | frz u=>unfold Mine.view;dsimp only;rw[e];exact σ.at_ r e fun f hf c=>VR.up c
      | _=>unfold Mine.view;dsimp only;rw[e];exact r
  | _=>exact r
theorem Cg.flat_el{k:List V→Rs}{w:V×Hp}(r:σ.vr v x)(e:flatK σ.H v k=some w)(q:∀ a xs n vs,vs.length<lim+1→IsL σ.s.heap a xs n→σ.frs vs xs.toList→k vs=some w→Q (.ref a)):Q x:=by
  have g:(bx (lstC (Mine.con σ.H v)) fun vs=>gd (vs.all flatV) (k vs))=some w→Q x:=fun e=>lst_el (σ.con r) e fun a xs n vs h1 h2 h3 e=>q a xs n vs h1 h2 (h3.flat (gx_inv e).1) (gx_inv e).2
  cases v with
  | lst vs=>exact Is.el r fun a zz l=>l.el fun xs n h1 h2 h3=>q a xs n vs h1 h2 h3 e
  | _=>exact g e
end
section
variable{X:Wd}{s:Shared}{P:Addr→Prop}
theorem str_beq{a b:Nat}{x y:Str}(ha:X.S a=some x)(hb:X.S b=some y):(a==b)=(x==y):=by
  by_cases h:a=b
  · subst h;cases ha.symm.trans hb;rw[beq_self_eq_true,beq_self_eq_true]
  · rw[beq_eq_false_iff_ne.mpr h,beq_eq_false_iff_ne.mpr fun q=>h (X.Sinj _ _ _ ha (by rw[q];exact hb))]
structure Eq3(A:Around)(s:Shared)(x y:Value)(c:Bool):Prop where
  rc:RcAt A s x y c
  eq:EqAt A s x y c
  ne:RcNeAt A s x y (!c)
theorem eqA_ok{A:Around}{ρ ρ':List Foot}{a b:V}{x y:Value}{c:Bool}(ra:SV X s.heap P ρ a x)(rb:SV X s.heap P ρ' b y)(e:eqA a b=some c):Eq3 A s x y c:=by
  cases a with
  | none=>
    cases ra
    cases b with
    | none=>cases e;cases rb;exact⟨RcAt.none_none,EqAt.same _,RcNeAt.none_none⟩
    | int i=>cases e;exact let ⟨t,h⟩:=rb;h▸⟨RcAt.none_int _ _,EqAt.none_int _ _,RcNeAt.none_int _ _⟩
    | str i=>cases e;exact let ⟨y,t,_,h⟩:=rb;h▸⟨RcAt.none_str _ _,EqAt.none_str _ _,RcNeAt.none_str _ _⟩
    | _=>exact nn e
  | int i=>
    obtain⟨t,rfl⟩:=ra
    cases b with
    | none=>cases e;cases rb;exact⟨RcAt.int_none _ _,EqAt.int_none _ _,RcNeAt.int_none _ _⟩
    | int j=>cases e;exact let ⟨t,h⟩:=rb;h▸⟨RcAt.int_int _ _ _ _,EqAt.int_int _ _ _ _,RcNeAt.int_int _ _ _ _⟩
    | str j=>cases e;exact let ⟨y,t,_,h⟩:=rb;h▸⟨RcAt.int_str _ _ _ _,EqAt.int_str _ _ _ _,RcNeAt.int_str _ _ _ _⟩
    | _=>exact nn e
  | str i=>
    obtain⟨z,t,hs,rfl⟩:=ra
    cases b with
    | none=>cases e;cases rb;exact⟨RcAt.str_none _ _,EqAt.str_none _ _,RcNeAt.str_none _ _⟩
    | int j=>cases e;exact let ⟨t,h⟩:=rb;h▸⟨RcAt.str_int _ _ _ _,EqAt.str_int _ _ _ _,RcNeAt.str_int _ _ _ _⟩
    | str j=>cases e;exact let ⟨y,t,h',h⟩:=rb;h▸(str_beq hs h')▸⟨RcAt.str_str _ _ _ _,EqAt.str_str _ _ _ _,RcNeAt.str_str _ _ _ _⟩
    | _=>exact nn e
  | bool i=>
    cases ra
    cases b with
    | bool j=>cases e;cases rb;exact⟨RcAt.bool_bool _ _,EqAt.bool_bool _ _,RcNeAt.bool_bool _ _⟩
    | _=>exact nn e
  | _=>exact nn e
theorem eqA_same{ρ ρ':List Foot}{a b:V}{x:Value}{c:Bool}(ra:SV X s.heap P ρ a x)(rb:SV X s.heap P ρ' b x)(e:eqA a b=some c):c=true:=by
  cases a with
  | none=>cases ra;cases b with
    | none=>cases e;rfl
    | int i=>exact let ⟨t,h⟩:=rb;Value.noConfusion h
    | str i=>exact let ⟨y,t,_,h⟩:=rb;Value.noConfusion h
    | _=>exact nn e
  | int i=>obtain⟨t,rfl⟩:=ra;cases b with
    | none=>cases rb
    | int j=>cases e;obtain⟨t,h⟩:=rb;cases h;exact beq_self_eq_true i
    | str j=>exact let ⟨y,t,_,h⟩:=rb;Value.noConfusion h
    | _=>exact nn e
  | str i=>obtain⟨z,t,hs,rfl⟩:=ra;cases b with
    | none=>cases rb
    | int j=>exact let ⟨t,h⟩:=rb;Value.noConfusion h
    | str j=>cases e;obtain⟨y,t,h',h⟩:=rb;cases h;exact(str_beq hs h').trans (beq_self_eq_true _)
    | _=>exact nn e
  | bool i=>cases ra;cases b with
    | bool j=>cases e;cases rb;cases i<;>rfl
    | _=>exact nn e
  | _=>exact nn e
theorem eqvs_ok{A:Around}{ρ ρ':List Foot}{f:V→V→Option Bool}(hf:∀ {a b x y c},f a b=some c→VR X s.heap P a ρ x→VR X s.heap P b ρ' y→EqAt A s x y c){as bs:List V}{xs ys:List Value}{c:Bool}(e:eqvs f as bs=some c)
    (r:VRs X s.heap P as ρ xs) (q:VRs X s.heap P bs ρ' ys):∃ g:Nat→Bool,(∀ j x y,xs[j]?=some x→ys[j]?=some y→EqAt A s x y (g j))∧c=((List.range (min xs.length ys.length)).all g&&xs.length==ys.length):=by
  induction as generalizing bs xs ys c with
  | nil=>
    cases r
    refine⟨fun zz=>true,fun j x y h=>(by cases h),?_⟩
    cases bs with
    | nil=>cases q;cases e;rfl
    | cons b bs=>cases ys with
      | nil=>exact q.elim
      | cons y ys=>cases e;rfl
  | cons a as ih=>
    cases xs with
    | nil=>exact r.elim
    | cons x xs=>cases bs with
      | nil=>cases q;cases e;exact⟨fun zz=>true,fun j x y zz h=>(by cases h),rfl⟩
      | cons b bs=>cases ys with
        | nil=>exact q.elim
        | cons y ys=>
          obtain⟨d,h1,e⟩:=bx_inv e
          obtain⟨d',h2,e⟩:=bx_inv e
          cases e
          obtain⟨g,hg,hc⟩:=ih h2 r.2 q.2
          refine⟨fun j=>match j with|0=>d|j+1=>g j,fun j u v hu hv=>?_,?_⟩
          · cases j with
            | zero=>cases hu;cases hv;exact hf h1 r.1 q.1
            | succ j=>exact hg j u v hu hv
          · rw[hc,List.length_cons,List.length_cons,Nat.succ_min_succ,List.range_succ_eq_map,List.all_cons,List.all_map,←Bool.and_assoc]
            congr 1
            rw[Bool.eq_iff_iff,beq_iff_eq,beq_iff_eq,Nat.add_right_cancel_iff]
theorem eqvs_same{ρ ρ':List Foot}{f:V→V→Option Bool}(hf:∀ {a b x c},f a b=some c→VR X s.heap P a ρ x→VR X s.heap P b ρ' x→c=true){as bs:List V}{xs:List Value}{c:Bool}(e:eqvs f as bs=some c)
    (r:VRs X s.heap P as ρ xs) (q:VRs X s.heap P bs ρ' xs):c=true:=by
  induction as generalizing bs xs c with
  | nil=>cases r;cases bs with
    | nil=>cases e;rfl
    | cons b bs=>exact q.elim
  | cons a as ih=>
    cases xs with
    | nil=>exact r.elim
    | cons x xs=>cases bs with
      | nil=>cases q
      | cons b bs=>
        obtain⟨d,h1,e⟩:=bx_inv e
        obtain⟨d',h2,e⟩:=bx_inv e
        cases e
        rw[hf h1 r.1 q.1,ih h2 r.2 q.2];rfl
theorem tupC_inv{v:V}{β:Type}{k:List V→Option β}{w:β}(e:bd (tupC v) k=some w):∃ vs,v=.tup vs∧k vs=some w:=by
  cases v with
  | tup vs=>exact⟨vs,rfl,e⟩
  | _=>exact nn e
theorem lstC_inv{v:V}{β:Type}{k:List V→Option β}{w:β}(e:bd (lstC v) k=some w):∃ vs,v=.lst vs∧k vs=some w:=by
  cases v with
  | lst vs=>exact⟨vs,rfl,e⟩
  | _=>exact nn e
theorem tup_same{h:Heap}{a:Addr}{xs ys:Array Value}(p:h.IsTuple a xs)(q:h.IsTuple a ys):xs=ys:=
  let ⟨_,h1,_,_,h2⟩:=p;let ⟨_,g1,_,_,g2⟩:=q;by cases h1.symm.trans g1;cases h2.symm.trans g2;rfl
theorem IsL.same{h:Heap}{a:Addr}{xs ys:Array Value}{n n':Nat}(p:IsL h a xs n)(q:IsL h a ys n'):xs=ys:=by
  cases p.symm.trans q;rfl
theorem Is.ref{P At:Addr→Prop}{a:Addr}(r:Is P At (.ref a)):At a:=match r with|.mk _ h=>h
theorem sv_lst{h:Heap}{ρ:List Foot}{vs:List V}{a:Addr}{C:Prop}(r:SV X h P ρ (.lst vs) (.ref a))(q:∀ xs n,IsL h a xs n→VRs X h P vs ρ xs.toList→C):C:=(Is.ref r).el fun xs n zz h1 h2=>q xs n h1 h2
theorem sv_tup{h:Heap}{ρ:List Foot}{vs:List V}{a:Addr}{C:Prop}(r:SV X h P ρ (.tup vs) (.ref a))(q:∀ xs,h.IsTuple a xs→VRs X h P vs ρ xs.toList→C):C:=(Is.ref r).el fun xs zz h1 h2=>q xs h1 h2
theorem eqv_same{n:Nat}{ρ ρ':List Foot}{a b:V}{x:Value}{c:Bool}(e:eqv n a b=some c)(ra:SV X s.heap P ρ a x)(rb:SV X s.heap P ρ' b x):c=true:=by
  induction n generalizing ρ ρ' a b x c with
  | zero=>exact eqA_same ra rb e
  | succ n ih=>
    cases a with
    | lst as=>
      obtain⟨bs,rfl,e⟩:=lstC_inv e
      exact Is.el (Q:=fun x=>SV X s.heap P ρ' (.lst bs) x→c=true) ra (fun l zz h=>h.el fun xs m zz h1 h2 rb=>sv_lst rb fun ys m' g1 g2=>eqvs_same (fun e p q=>ih e p.sv q.sv) e h2 (IsL.same h1 g1▸g2)) rb
    | tup as=>
      obtain⟨bs,rfl,e⟩:=tupC_inv e
      exact Is.el (Q:=fun x=>SV X s.heap P ρ' (.tup bs) x→c=true) ra (fun l zz h=>h.el fun xs zz h1 h2 rb=>sv_tup rb fun ys g1 g2=>eqvs_same (fun e p q=>ih e p.sv q.sv) e h2 (tup_same h1 g1▸g2)) rb
    | _=>exact eqA_same ra rb e
theorem arr_get{xs:Array Value}{j:Nat}(h:j<xs.size):xs.toList[j]?=some xs[j]:=by rw[Array.getElem?_toList];exact Array.getElem?_eq_getElem h
theorem eqv_ok{n:Nat}{A:Around}{ρ ρ':List Foot}{a b:V}{x y:Value}{c:Bool}(hu:A.units+n<cLine)(e:eqv n a b=some c)(ra:SV X s.heap P ρ a x)(rb:SV X s.heap P ρ' b y):Eq3 A s x y c:=by
  induction n generalizing A ρ ρ' a b x y c with
  | zero=>exact eqA_ok ra rb e
  | succ n ih=>
    have hu0:A.units<cLine:=Nat.lt_of_le_of_lt (Nat.le_add_right _ _) hu
    have hu1:A.in1.units+n<cLine:=by show A.units+1+n<cLine;rw[Nat.add_assoc,Nat.add_comm 1];exact hu
    have back:∀ {l b':Addr},SV X s.heap P ρ a (.ref l)→SV X s.heap P ρ' b (.ref b')→RcAt A s (.ref l) (.ref b') c→RcNeAt A s (.ref l) (.ref b') (!c)→Eq3 A s (.ref l) (.ref b') c:=fun {l b'} ra rb r r'=>by
      refine⟨r,?_,r'⟩
      by_cases q:l=b'
      · subst q;rw[eqv_same e ra rb];exact EqAt.same _
      · exact EqAt.of_refs q r
    cases a with
    | lst as=>
      obtain⟨bs,rfl,e⟩:=lstC_inv e
      refine Is.el (Q:=fun x=>SV X s.heap P ρ (.lst as) x→Eq3 A s x y c) ra (fun l zz h ra=>Is.el (Q:=fun y=>SV X s.heap P ρ' (.lst bs) y→Eq3 A s (.ref l) y c) rb (fun l' zz h' rb=>?_) rb) ra
      refine sv_lst ra fun xs m h1 h2=>sv_lst rb fun ys m' g1 g2=>?_
      obtain⟨g,hg,hc⟩:=eqvs_ok (A:=A.in1) (fun e p q=>(ih hu1 e p.sv q.sv).eq) e h2 g2
      rw[Array.length_toList,Array.length_toList]at hc
      by_cases hs:xs.size=ys.size
      · rw[hs,Nat.min_self,beq_self_eq_true,Bool.and_true,←hs]at hc
        subst hc
        exact back ra rb (RcAt.lists (IsL.list h1) (IsL.list g1) hs hu0 fun j a b=>hg j _ _ (arr_get a) (arr_get b)) (RcNeAt.lists (IsL.list h1) (IsL.list g1) hs hu0 fun j a b=>hg j _ _ (arr_get a) (arr_get b))
      · rw[beq_eq_false_iff_ne.mpr hs,Bool.and_false]at hc
        subst hc
        exact back ra rb (RcAt.lists_lengths (IsL.list h1) (IsL.list g1) (bne_iff_ne.mpr hs) hu0) (RcNeAt.lists_lengths (IsL.list h1) (IsL.list g1) (bne_iff_ne.mpr hs) hu0)
    | tup as=>
      obtain⟨bs,rfl,e⟩:=tupC_inv e
      refine Is.el (Q:=fun x=>SV X s.heap P ρ (.tup as) x→Eq3 A s x y c) ra (fun l zz h ra=>Is.el (Q:=fun y=>SV X s.heap P ρ' (.tup bs) y→Eq3 A s (.ref l) y c) rb (fun l' zz h' rb=>?_) rb) ra
      refine sv_tup ra fun xs h1 h2=>sv_tup rb fun ys g1 g2=>?_
      obtain⟨g,hg,hc⟩:=eqvs_ok (A:=A.in1) (fun e p q=>(ih hu1 e p.sv q.sv).eq) e h2 g2
      rw[Array.length_toList,Array.length_toList]at hc
      subst hc
      exact back ra rb (RcAt.tuples h1 g1 hu0 fun j a b=>hg j _ _ (arr_get a) (arr_get b)) (RcNeAt.tuples h1 g1 hu0 fun j a b=>hg j _ _ (arr_get a) (arr_get b))
    | _=>exact eqA_ok ra rb e
theorem mem_ok{A:Around}{ρ ρ':List Foot}{v:V}{x:Value}(hu:A.units+4<cLine)(q:VR X s.heap P v ρ' x){vs:List V}{xs:List Value}{c:Bool}(e:memV v vs=some c)(r:VRs X s.heap P vs ρ xs) :
    ∃ f:Value→Bool,(∀ y∈xs,EqAt A s y x (f y))∧xs.any f=c:=by
  have key:∃ b:Nat→Bool,(∀ i y,xs[i]?=some y→EqAt A s y x (b i))∧(c=true↔∃ i y,xs[i]?=some y∧b i=true):=by
    induction vs generalizing xs c with
    | nil=>cases r;cases e;exact⟨fun zz=>true,fun i y h=>(by cases h),fun h=>(by cases h),fun ⟨i,y,h,_⟩=>(by cases h)⟩
    | cons u vs ih=>
      cases xs with
      | nil=>exact r.elim
      | cons y xs=>
        obtain⟨d,h1,e⟩:=bx_inv e
        obtain⟨d',h2,e⟩:=bx_inv e
        cases e
        obtain⟨b,g1,g2⟩:=ih h2 r.2
        refine⟨fun j=>match j with|0=>d|j+1=>b j,fun j z hz=>?_,?_⟩
        · cases j with
          | zero=>cases hz;exact(eqv_ok hu h1 r.1.sv q.sv).eq
          | succ j=>exact g1 j z hz
        · rw[Bool.or_eq_true,g2]
          exact⟨fun h=>h.elim (fun h=>⟨0,y,rfl,h⟩) fun ⟨i,z,h3,h4⟩=>⟨i+1,z,h3,h4⟩,fun ⟨i,z,h3,h4⟩=>by
            cases i with
            | zero=>exact .inl h4
            | succ i=>exact .inr ⟨i,z,h3,h4⟩⟩
  obtain⟨b,g1,g2⟩:=key
  classical
  refine⟨fun y=>decide (∃ i,xs[i]?=some y∧b i=true),fun y hy=>?_,?_⟩
  · show EqAt A s y x (decide _)
    by_cases h:∃ i,xs[i]?=some y∧b i=true
    · rw[decide_eq_true h];exact let ⟨i,h1,h2⟩:=h;h2▸g1 i y h1
    · rw[decide_eq_false h]
      obtain⟨i,hi⟩:=List.getElem?_of_mem hy
      have:=g1 i y hi
      cases hb:b i with
      | false=>rwa [hb]at this
      | true=>exact absurd ⟨i,hi,hb⟩ h
  · rw[Bool.eq_iff_iff,g2,List.any_eq_true]
    exact⟨fun ⟨y,_,h⟩=>let ⟨i,h1,h2⟩:=of_decide_eq_true h;⟨i,y,h1,h2⟩,fun ⟨i,y,h1,h2⟩=>⟨y,List.mem_of_getElem? h1,decide_eq_true ⟨i,h1,h2⟩⟩⟩
end
end Mine
end
section
namespace Mine
open PySem PySem.W PySem.Calls PyProof.Rows
open PySem.SeqAt (EqAt RcAt RcNeAt)
def Room(A:Around)(d:Nat):Prop:=A.handled=none∧A.depth+3*d+10<recursionLimit∧A.units+40*d+200<cLine
theorem Room.units{A:Around}{d:Nat}(r:Room A d):A.units+200<cLine:=Nat.lt_of_le_of_lt (Nat.add_le_add_right (Nat.le_add_right _ _) _) r.2.2
theorem Room.u{A:Around}{d:Nat}(r:Room A d){n:Nat}(h:n≤200):A.units+n<cLine:=Nat.lt_of_le_of_lt (Nat.add_le_add_left h _) r.units
theorem lim_size:lim+1≤sizeLine:=by rw[sizeLine_eq];decide
theorem lim_is:lim=100000:=rfl
section
variable{X:Wd}{h:Heap}{P:Addr→Prop}{ρ:List Foot}
theorem VR.key{v:V}{x:Value}(e:keyOk v=true)(r:VR X h P v ρ x):∃ k,keyV X v=some k∧keyIs k x=true:=by
  cases v with
  | none=>exact⟨.none,rfl,by cases r;exact decide_eq_true rfl⟩
  | int i=>exact r.elim fun t h=>⟨.int i,rfl,by rw[h];exact decide_eq_true rfl⟩
  | str n=>exact r.elim fun y h=>h.elim fun t h=>⟨.str y,congrArg (Option.map Key.str) h.1,by rw[h.2];exact decide_eq_true rfl⟩
  | _=>exact Bool.noConfusion e
theorem keyEq_eq{u v:V}{k l:Key}(a:keyV X u=some k)(b:keyV X v=some l):keyEq u v=decide (l=k):=by
  have n:∀ {n:Nat} {k:Key},(X.S n).map Key.str=some k→∃ x,X.S n=some x∧k=.str x:=fun h=>(Option.map_eq_some_iff.mp h).imp fun zz q=>⟨q.1,q.2.symm⟩
  cases u with
  | none=>cases a;cases v with
    | none=>cases b;rfl
    | int j=>cases b;rfl
    | str m=>obtain⟨x,_,rfl⟩:=n b;rfl
    | _=>exact nn b
  | int i=>cases a;cases v with
    | none=>cases b;rfl
    | int j=>cases b;exact decide_eq_decide.mpr ⟨fun h=>h▸rfl,fun h=>(Key.int.inj h).symm⟩
    | str m=>obtain⟨x,_,rfl⟩:=n b;rfl
    | _=>exact nn b
  | str i=>obtain⟨x,hx,rfl⟩:=n a;cases v with
    | none=>cases b;rfl
    | int j=>cases b;rfl
    | str m=>
      obtain⟨y,hy,rfl⟩:=n b
      exact(str_beq hx hy).trans (Bool.eq_iff_iff.mpr ⟨fun h=>decide_eq_true (eq_of_beq h▸rfl),fun h=>Key.str.inj (of_decide_eq_true h)▸beq_self_eq_true _⟩)
    | _=>exact nn b
  | _=>exact nn a
theorem val_hit{k:Key}{p:Key×Value}{kvs:List (Key×Value)}(h:p.1=k):valueAt (p::kvs) k=some p.2:=by simp[valueAt,h]
theorem val_miss{k:Key}{p:Key×Value}{kvs:List (Key×Value)}(h:p.1≠k):valueAt (p::kvs) k=valueAt kvs k:=by simp[valueAt,h]
theorem look_at{u:V}{k:Key}(ku:keyV X u=some k){ks vs:List V}{kvs:List (Key×Value)}(a:ks.map (keyV X)=kvs.map fun p=>some p.1)(b:VRs X h P vs ρ (kvs.map (·.2))) :
    (look u ks vs=none∧valueAt kvs k=none)∨∃ v x,look u ks vs=some v∧valueAt kvs k=some x∧VR X h P v ρ x:=by
  induction ks generalizing vs kvs with
  | nil=>cases kvs with
    | nil=>exact .inl ⟨rfl,rfl⟩
    | cons=>cases a
  | cons q ks ih=>cases kvs with
    | nil=>cases a
    | cons p kvs=>cases vs with
      | nil=>exact nomatch (show _::_=[]from b)
      | cons v vs=>
        have a:=List.cons.inj a
        have e:=keyEq_eq ku a.1
        unfold look;rw[e]
        by_cases hk:p.1=k
        · rw[decide_eq_true hk,val_hit hk];exact .inr ⟨v,p.2,rfl,rfl,b.1⟩
        · rw[decide_eq_false hk,val_miss hk];exact ih a.2 b.2
end
section
variable{X:Wd}{Z:Addr→Prop}(σ:Cg X Z){A:Around}{d:Nat}{w:V×Hp}{Q:Value→Shared→Prop}{E:Value→Shared→Prop}
theorem truth_ok{v:V}{x:Value}{k:Bool→Rs}{Q:Bool→Shared→Prop}(r:σ.vr v x)(e:bx (truth v) k=some w)(q:∀ b,truth v=some b→k b=some w→Q b σ.s):wpAny (model X.prog X.w) A (truthy x) Q E σ.s:=by
  cases v with
  | none=>cases r;exact truthy_none (q _ rfl e)
  | bool b=>cases r;exact wpAny_truthy_bool (q _ rfl e)
  | int i=>exact r.elim fun t h=>h▸truthy_int (q _ rfl e)
  | _=>exact nn e
def Kc(σ:Cg X Z)(K:KB)(w:V×Hp)(Q:Value→Shared→Prop):Prop:=∀ τ c,To σ τ→τ.H=σ.H→K c=some w→Q (.bool c) τ.s
variable{σ}
theorem Kc.here{K:KB}(q:Kc σ K w Q){c:Bool}(e:K c=some w):Q (.bool c) σ.s:=q σ c StepF.refl rfl e
theorem Kc.tok{K:KB}(q:Kc σ K w Q){c:Bool}{t:Nat}(e:K c=some w):Q (.bool c) { σ.s with toks:=t }:=q (σ.tok t) c To.tok rfl e
theorem eqK_inv{a b:V}{K:KB}(e:eqK a b K=some w):∃ c,eqV a b=some c∧K c=some w:=by
  cases a with
  | _=>exact bx_inv e
theorem in_ok(hr:Room A d){a b:V}{x y:Value}{K:KB}(ra:σ.vr a x)(rb:SV X σ.s.heap σ.P σ.ρ b y)(e:inK a b K=some w) :
    (Kc σ K w Q→wpAny (model X.prog X.w) A (compareOp .In x y) Q E σ.s)∧(∀ K':KB,(∀ c,K c=K' (!c))→Kc σ K' w Q→wpAny (model X.prog X.w) A (compareOp .NotIn x y) Q E σ.s):=by
  have hu:A.in1.units+4<cLine:=by show A.units+1+4<cLine;rw[Nat.add_assoc];exact hr.u (by decide)
  cases b with
  | lst vs=>
    obtain⟨c,hc,e⟩:=bx_inv e
    exact Is.el (Q:=fun y=>(_→wpAny _ A (compareOp .In x y) Q E σ.s)∧(∀ K':KB,(∀ c,K c=K' (!c))→Kc σ K' w Q→wpAny _ A (compareOp .NotIn x y) Q E σ.s)) rb fun l zz h=>h.el fun xs n zz h1 h2=>by
      obtain⟨f,hf,rfl⟩:=mem_ok (A:=A.in1) hu ra hc h2
      rw[Array.any_toList]at e
      exact⟨fun q=>SeqAt.in_listAt f (IsL.list h1) (fun y hy=>hf y hy.val) (q.here e),fun K' hK q=>SeqAt.notIn_listAt f (IsL.list h1) (fun y hy=>hf y hy.val) (q.here ((hK _).symm.trans e))⟩
  | tup vs=>
    obtain⟨c,hc,e⟩:=bx_inv e
    exact Is.el (Q:=fun y=>(_→wpAny _ A (compareOp .In x y) Q E σ.s)∧(∀ K':KB,(∀ c,K c=K' (!c))→Kc σ K' w Q→wpAny _ A (compareOp .NotIn x y) Q E σ.s)) rb fun l zz h=>h.el fun xs zz h1 h2=>by
      obtain⟨f,hf,rfl⟩:=mem_ok (A:=A.in1) hu ra hc h2
      rw[Array.any_toList]at e
      exact⟨fun q=>SeqAt.in_tupleAt f h1 (fun y hy=>hf y hy.val) (q.here e),fun K' hK q=>SeqAt.notIn_tupleAt f h1 (fun y hy=>hf y hy.val) (q.here ((hK _).symm.trans e))⟩
  | dct ks vs=>
    obtain⟨hk,e⟩:=gx_inv e
    obtain⟨k,kr,hi⟩:=VR.key hk ra
    exact Is.el (Q:=fun y=>(_→wpAny _ A (compareOp .In x y) Q E σ.s)∧(∀ K':KB,(∀ c,K c=K' (!c))→Kc σ K' w Q→wpAny _ A (compareOp .NotIn x y) Q E σ.s)) rb fun l zz h=>h.el fun kvs h1 h2=>by
      have hs:(look a ks vs).isSome=(valueAt kvs k).isSome:=(look_at kr h1.keys h2).elim (fun q=>by rw[q.1,q.2];rfl) fun ⟨_,_,q1,q2,_⟩=>by rw[q1,q2];rfl
      rw[hs]at e
      exact⟨fun q=>wpAny_in_of hi h1.sys h1.is.mapOf (q.tok e),fun K' hK q=>wpAny_notIn_of hi h1.sys h1.is.mapOf (q.tok ((hK _).symm.trans e))⟩
  | _=>exact nn e
theorem i2_el{P:Addr→Prop}{h:Heap}{ρ:List Foot}{a b:V}{x y:Value}{f:Int→Int→Bool}{K:KB}{R:Value→Value→Prop}(ra:VR X h P a ρ x)(rb:VR X h P b ρ y)(e:i2 a b f K=some w)(q:∀ i j t u,K (f i j)=some w→R (.int i t) (.int j u)):R x y:=
  int_el (Q:=fun x=>R x y) ra e fun i t e=>int_el (Q:=fun y=>R (.int i t) y) rb e fun j u e=>q i j t u e
theorem none_el{a:V}{x:Value}{K:KB}{C:Prop}(ra:σ.vr a x)(e:bx (isNone a) K=some w)(q:K (x==Value.none)=some w→C):C:=by
  cases a with
  | none=>cases ra;exact q e
  | undef=>exact nn e
  | bool b=>cases ra;exact q e
  | int i=>exact ra.elim fun t h=>q (by rw[h];exact e)
  | str i=>exact ra.elim fun y h=>h.elim fun t h=>q (by rw[h.2];exact e)
  | ref i=>exact ra.elim fun f h=>q (by rw[h.2];exact e)
  | _=>exact(Is.el (Q:=fun x=>(x==Value.none)=false) ra fun zz zz zz=>rfl)▸q |> fun q=>q e
theorem cmp_ok(hr:Room A d){op:CmpOp}{a b:V}{x y:Value}{K:KB}(ra:σ.vr a x)(rb:σ.vr b y)(e:cmpK σ.H op a b K=some w)(q:Kc σ K w Q):wpAny (model X.prog X.w) A (compareOp op x y) Q E σ.s:=by
  cases op with
  | Eq=>
    obtain⟨c,h,e⟩:=eqK_inv e
    exact(eqv_ok (A:=A) (hr.u (by decide)) h (σ.con ra) (σ.con rb)).rc _ _ _ _ (q.here e)
  | NotEq=>
    obtain⟨c,h,e⟩:=eqK_inv e
    exact(eqv_ok (A:=A) (hr.u (by decide)) h (σ.con ra) (σ.con rb)).ne _ _ _ _ (q.here e)
  | Lt=>exact i2_el (R:=fun x y=>wpAny _ A (compareOp .Lt x y) Q E σ.s) ra rb e fun i j t u e=>lt_int (q.here e)
  | LtE=>exact i2_el (R:=fun x y=>wpAny _ A (compareOp .LtE x y) Q E σ.s) ra rb e fun i j t u e=>PyProof.Rows.le_int (q.here e)
  | Gt=>exact i2_el (R:=fun x y=>wpAny _ A (compareOp .Gt x y) Q E σ.s) ra rb e fun i j t u e=>gt_int (q.here e)
  | GtE=>exact i2_el (R:=fun x y=>wpAny _ A (compareOp .GtE x y) Q E σ.s) ra rb e fun i j t u e=>PyProof.Rows.ge_int (q.here e)
  | Is=>cases b with
    | none=>cases rb;exact none_el ra e fun e=>is_none (q.here e)
    | _=>exact nn e
  | IsNot=>cases b with
    | none=>cases rb;exact none_el ra e fun e=>isNot_none (q.here e)
    | _=>exact nn e
  | In=>exact(in_ok hr ra (σ.con rb) e).1 q
  | NotIn=>exact(in_ok hr ra (σ.con rb) e).2 K (fun zz=>rfl) q
end
end Mine
end
section
namespace Mine
open PySem PySem.W PySem.Calls PyProof.Rows
def opOf:Bop→Operator
  | .add=>.Add
  | .sub=>.Sub
  | .mul=>.Mult
  | .mod=>.Mod
  | .fdiv=>.FloorDiv
theorem small_is{i:Int}(h:small i=true) : -4611686018427387904<i∧i<4611686018427387904:=by
  have h:i.natAbs<4611686018427387904:=of_decide_eq_true h
  omega
section
variable{X:Wd}{Z:Addr→Prop}{A:Around}{d:Nat}{w:V×Hp}{Q:Value→Shared→Prop}{E:Value→Shared→Prop}
def Kn(σ:Cg X Z)(K:V→Rs)(w:V×Hp)(Q:Value→Shared→Prop):Prop:=∀ τ v x,To σ τ→τ.H=σ.H→τ.vr v x→K v=some w→Q x τ.s
variable{σ:Cg X Z}{K:V→Rs}
theorem Kn.here(q:Kn σ K w Q){v:V}{x:Value}(r:σ.vr v x)(e:K v=some w):Q x σ.s:=q σ v x StepF.refl rfl r e
theorem Kn.tok(q:Kn σ K w Q){v:V}{x:Value}{t:Nat}(r:σ.vr v x)(e:K v=some w):Q x { σ.s with toks:=t }:=q (σ.tok t) v x To.tok rfl r e
theorem Kn.int(q:Kn σ K w Q){i:Int}{u:Tok}{t:Nat}(e:K (.int i)=some w):Q (.int i u) { σ.s with toks:=t }:=q.tok (v:=.int i) ⟨u,rfl⟩ e
theorem Kn.list(q:Kn σ K w Q){vs:List V}{xs:Array Value}{t:Nat}(e:K (.lst vs)=some w)(hl:vs.length<lim+1)(r:σ.frs vs xs.toList):Q (.ref σ.s.heap.objs.size) { σ.s with heap:=σ.s.heap.push { cls:=.type "list",data:=.seq xs },toks:=t }:=
  q (σ.push { cls:=.type "list",data:=.seq xs } t) (.lst vs) (.ref σ.s.heap.objs.size) To.push rfl (.mk (σ.I.fresh (Nat.le_refl _)) (.mk hl (Heap.get?_push_size _ rfl) (r.mono (Keep.grow push_old) List.prefix_rfl))) e
theorem add_ok{a b:V}{x y:Value}(ra:σ.vr a x)(rb:σ.vr b y)(e:addL σ.H a b K=some w)(q:Kn σ K w Q):wpAny (model X.prog X.w) A (binaryOp .Add x y) Q E σ.s:=
  σ.flat_el (Q:=fun x=>wpAny _ A (binaryOp .Add x y) Q E σ.s) ra e fun l us n xs zz ho r1 e=>σ.flat_el (Q:=fun y=>wpAny _ A (binaryOp .Add (.ref l) y) Q E σ.s) rb e fun l2 us2 n2 ys zz ho2 r2 e=>by
    obtain⟨hl,e⟩:=gx_inv e
    have hl:us.size+us2.size<lim:=by rw[r1.size,r2.size];exact of_decide_eq_true hl
    refine concat_meets ⟨_,ho,rfl⟩ ⟨_,ho2,rfl⟩ noFill_list_add seq_list_add PySem.F.slot_list_add PySem.F.entry_list_add (PySem.F.args_list_add_2 _ _) (list_addW l l2 us us2 n n2 _ _ _ _ (Nat.le_trans (Nat.le_of_lt hl) (Nat.le_of_succ_le lim_size))) ⟨ho,ho2,?_⟩
    exact q.list e (by rw[List.length_append,←r1.size,←r2.size];exact Nat.lt_succ_of_lt hl) (by rw[Array.toList_append];exact r1.append r2)
theorem mul_ok{a b:V}{x y:Value}(ra:σ.vr a x)(rb:σ.vr b y)(e:mulL σ.H a b K=some w)(q:Kn σ K w Q):wpAny (model X.prog X.w) A (binaryOp .Mult x y) Q E σ.s:=
  σ.flat_el (Q:=fun x=>wpAny _ A (binaryOp .Mult x y) Q E σ.s) ra e fun l its n xs zz ho r e=>int_el (Q:=fun y=>wpAny _ A (binaryOp .Mult (.ref l) y) Q E σ.s) rb e fun k u e=>by
    obtain⟨h0,e⟩:=gx_inv e
    obtain⟨h1,e⟩:=gx_inv e
    obtain⟨h2,e⟩:=gx_inv e
    have h0:=of_decide_eq_true h0
    have h1:=small_is h1
    have h2:=of_decide_eq_true h2
    have zs:=r.size
    have hmul:its.size*k.toNat<lim:=by rw[Nat.mul_comm,zs];exact h2
    have hlim:=lim_is
    refine wpAny_binaryOp_repeat_ref (T:="list") (U:="int") (by decide) ⟨_,ho,rfl⟩ (fun s'=>typeIs_int s' k u) noFill_list_mul F.fills_int_mul F.slot_int_rmul repeat_list F.slot_int_index.lookup
      (call_meets F.slot_int_rmul (typeIs_int σ.s k u) F.entry_int_rmul (F.args_int_rmul_2 _ _) (lm_int_rmul_list_any k u l its n none #[])
        ⟨ho,rfl,⟨_,ho,rfl⟩,call_meets F.slot_list_mul ⟨_,ho,rfl⟩ F.entry_list_mul (F.args_list_mul_2 _ _)
          (lm_list_mul_any l its n none #[] k u (by simp[Builtin.List.listFitsIndex];lia) (by lia) (by simp[Builtin.List.listTooLong,sizeLine];lia))
          ⟨ho,?_⟩⟩)
    rw[listMul_foldl_if]
    refine q.list e ?_ ?_
    · rw[List.length_flatten,List.map_replicate,List.sum_replicate_nat,Nat.mul_comm,←zs];exact Nat.lt_succ_of_lt hmul
    · show VRs X σ.s.heap σ.P _ [] (List.replicate k.toNat its.toList).flatten
      clear e h0 h2 hmul h1
      induction k.toNat with
      | zero=>exact rfl
      | succ m ih=>rw[List.replicate_succ,List.replicate_succ,List.flatten_cons,List.flatten_cons];exact r.append ih
theorem ints_el{a b:V}{x y:Value}{k:Int→Int→Rs}{R:Value→Value→Prop}(ra:σ.vr a x)(rb:σ.vr b y)(e:(bx (intC a) fun i=>bx (intC b) fun j=>k i j)=some w)(q:∀ i j t u,k i j=some w→R (.int i t) (.int j u)):R x y:=
  int_el (Q:=fun x=>R x y) ra e fun i t e=>int_el (Q:=fun y=>R (.int i t) y) rb e fun j u e=>q i j t u e
theorem bin_ok{op:Bop}{a b:V}{x y:Value}(ra:σ.vr a x)(rb:σ.vr b y)(e:binK σ.H op a b K=some w)(q:Kn σ K w Q):wpAny (model X.prog X.w) A (binaryOp (opOf op) x y) Q E σ.s:=by
  cases op with
  | add=>exact int_ox (Q:=fun x=>wpAny _ A (binaryOp .Add x y) Q E σ.s) ra e (fun i t e=>int_el (Q:=fun y=>wpAny _ A (binaryOp .Add (.int i t) y) Q E σ.s) rb e fun j u e=>PyProof.Rows.add_int (q.int e)) fun e=>add_ok ra rb e q
  | sub=>exact ints_el (R:=fun x y=>wpAny _ A (binaryOp .Sub x y) Q E σ.s) ra rb e fun i j t u e=>PyProof.Rows.sub_int (q.int e)
  | mul=>
    exact int_ox (Q:=fun x=>wpAny _ A (binaryOp .Mult x y) Q E σ.s) ra e (fun i t e=>int_el (Q:=fun y=>wpAny _ A (binaryOp .Mult (.int i t) y) Q E σ.s) rb e fun j u e=>by
      have h1:=small_is (gx_inv e).1
      exact PyProof.Rows.mul_int (q.int (gx_inv (gx_inv e).2).2) (IntMulOk.of_left (intBits_le_64 (by lia) (by lia)))) fun e=>mul_ok ra rb e q
  | mod=>exact ints_el (R:=fun x y=>wpAny _ A (binaryOp .Mod x y) Q E σ.s) ra rb e fun i j t u e=>PyProof.Rows.mod_int (Int.ne_of_gt (of_decide_eq_true (gx_inv e).1)) (q.int (gx_inv e).2)
  | fdiv=>
    exact ints_el (R:=fun x y=>wpAny _ A (binaryOp .FloorDiv x y) Q E σ.s) ra rb e fun i j t u e=>by
      have h1:=of_decide_eq_true (gx_inv e).1
      have h2:=of_decide_eq_true (gx_inv (gx_inv e).2).1
      exact PyProof.Rows.floordiv_int (by lia) (q.int (gx_inv (gx_inv e).2).2) (.inl (PyProof.noPylong_small (by lia)))
theorem sub_ops(slice:PySem.Expr)(o i:Value):∃ vs,subscripted slice false o i=operate vs (getItem o i):=by
  cases slice with
  | Slice lo hi st p=>cases st with
    | none=>exact⟨_,rfl⟩
    | some _=>exact⟨_,rfl⟩
  | _=>exact⟨_,rfl⟩
theorem tail_ok{s:Shared}{value slice:PySem.Expr}{o i:Value}{T id:String}(hT:s.TypeIs o T)(hl:typeLookup (.type T) "__getitem__" = pure (some (.builtin id)))
    (h:wpAny (model X.prog X.w) A (getItem o i) Q E s):wpAny (model X.prog X.w) A (subscriptTail value slice o i) Q E s:=by
  unfold subscriptTail
  refine wpAny_bind ?_
  rw[getitemInPython_of_ne hT.not_modules]
  refine wpAny_bind (wpAny_specialOf hT hl ?_)
  have fin:wpAny (model X.prog X.w) A (subscripted slice false o i) (fun r s₃=>wpAny (model X.prog X.w) A (letTemporaryGo value o r >>= fun zz=>pure r) Q E s₃) E s:=by
    obtain⟨vs,e⟩:=sub_ops slice o i
    rw[e]
    exact wpAny_operating (wpAny_mono h (fun r s₃ h₃=>wpAny_bind (wpAny_letTemporaryGo (wpAny_pure h₃))) fun zz zz x=>x)
  first
    | exact wpAny_pure (wpAny_bind fin)
    | exact wpAny_bind (wpAny_pure (wpAny_bind fin))
    | exact wpAny_bind fin
theorem at_el{h:Heap}{P:Addr→Prop}{ρ:List Foot}{vs:List V}{xs:Array Value}{k:Int}{v:V}{C:Prop}(r:VRs X h P vs ρ xs.toList)(hl:vs.length<lim+1)(e:at_ vs k=some v)
    (q:∀ j x,-(2 ^ 63)≤k→k<2 ^ 63→seqIndex? k xs.size=some j→xs[j]?=some x→VR X h P v ρ x→(0≤k→k.toNat=j)→(k<0→-(xs.size:Int)≤k∧(k+xs.size).toNat=j)→C):C:=by
  have zs:=r.size
  have:=lim_is
  have g:∀ j,nth vs j=some v→∃ x,xs[j]?=some x∧VR X h P v ρ x:=fun j e=>(r.get e).imp fun x q=>⟨by rw[←Array.getElem?_toList];exact q.1,q.2⟩
  cases k with
  | ofNat n=>
    obtain⟨x,hx,rx⟩:=g n e
    have hn:=(Array.getElem?_eq_some_iff.mp hx).1
    exact q n x (by lia) (by lia) (seqIndex_of (Int.natCast_nonneg n) (by lia)) hx rx (fun zz=>rfl) fun h=>absurd h (by lia)
  | negSucc n=>
    obtain⟨hn,e⟩:=gx_inv e
    obtain⟨x,hx,rx⟩:=g _ e
    have hn:n<xs.size:=zs▸of_decide_eq_true hn
    have e1:(Int.negSucc n+(xs.size:Int)).toNat=vs.length - (n+1):=by rw[zs,Int.negSucc_eq,Int.add_comm,←Int.sub_eq_add_neg];exact Int.toNat_sub _ (n+1)
    have e2 : -(xs.size:Int)≤Int.negSucc n:=Int.neg_le_neg (Int.ofNat_le.mpr hn)
    exact q _ x (by lia) (Int.lt_trans (Int.negSucc_lt_zero n) (by decide)) (by rw[←e1];exact seqIndex_neg (Int.negSucc_lt_zero n) (by lia)) hx rx (fun h=>absurd (Int.negSucc_lt_zero n) (Int.not_lt.mpr h)) fun zz=>⟨e2,e1⟩
theorem item_ok{value slice:PySem.Expr}{a b:V}{x y:Value}(ra:σ.vr a x)(rb:σ.vr b y)(e:itemK X.T σ.H a b K=some w)(q:Kn σ K w Q):wpAny (model X.prog X.w) A (subscriptTail value slice x y) Q E σ.s:=by
  have main:∀ {v:V},SV X σ.s.heap σ.P σ.ρ v x→itemC b v K=some w→wpAny (model X.prog X.w) A (subscriptTail value slice x y) Q E σ.s:=fun {v} r e=>by
    cases v with
    | lst vs=>
      exact Is.el (Q:=fun x=>wpAny _ A (subscriptTail value slice x y) Q E σ.s) r fun l zz h=>h.el fun xs n hl h1 h2=>int_el (Q:=fun y=>wpAny _ A (subscriptTail value slice (.ref l) y) Q E σ.s) rb e fun k t e=>by
        obtain⟨v,hv,e⟩:=bx_inv e
        refine tail_ok (IsL.list h1).typeIs slot_list_getitem.lookup (at_el h2 hl hv fun j z a1 a2 a3 a4 a5 a6 a7=>?_)
        by_cases h0:0≤k
        · exact wpAny_getItem_list (IsL.list h1) h0 a2 ((a6 h0).symm▸a4) (q.here a5 e)
        · exact wpAny_getItem_list_neg (IsL.list h1) (Int.not_le.mp h0) (a7 (Int.not_le.mp h0)).1 a1 ((a7 (Int.not_le.mp h0)).2.symm▸a4) (q.here a5 e)
    | tup vs=>
      exact Is.el (Q:=fun x=>wpAny _ A (subscriptTail value slice x y) Q E σ.s) r fun l zz h=>h.el fun xs hl h1 h2=>int_el (Q:=fun y=>wpAny _ A (subscriptTail value slice (.ref l) y) Q E σ.s) rb e fun k t e=>by
        obtain⟨v,hv,e⟩:=bx_inv e
        exact tail_ok (h1.imp fun o h=>⟨h.1,h.2.1⟩) F.slot_tuple_getitem.lookup (at_el h2 (Nat.lt_succ_of_lt hl) hv fun j z a1 a2 a3 a4 a5 zz zz=>PyProof.Rows.getItem_tuple (h1.imp fun o h=>⟨h.1,h.2.1,h.2.2⟩) a1 a2 a3 a4 (q.here a5 e))
    | dct ks vs=>
      obtain⟨hk,e⟩:=gx_inv e
      obtain⟨v,hv,e⟩:=bx_inv e
      obtain⟨k,kr,hi⟩:=VR.key hk rb
      exact Is.el (Q:=fun x=>wpAny _ A (subscriptTail value slice x y) Q E σ.s) r fun l zz h=>h.el fun kvs h1 h2=>(look_at kr h1.keys h2).elim (fun g=>nn (g.1.symm.trans hv)) fun ⟨v',u,g1,g2,g3⟩=>by
        cases hv.symm.trans g1
        exact tail_ok h1.is.typeIs slot_dict_getitem.lookup (wpAny_getItem_of hi h1.is.mapOf g2 (q.tok g3 e))
    | _=>exact nn e
  cases a with
  | str n=>
    exact ra.elim fun st h=>h.elim fun t h=>int_el (Q:=fun y=>wpAny _ A (subscriptTail value slice x y) Q E σ.s) rb e fun k u e=>by
      obtain⟨h0,e⟩:=gx_inv e
      obtain⟨m,hm,e⟩:=bx_inv e
      obtain⟨hb,c,hc,hs'⟩:=X.chr _ _ _ _ hm h.1
      have h0:=of_decide_eq_true h0
      have hsz:k.toNat<st.length:=(Array.getElem?_eq_some_iff.mp hc).1
      rw[h.2]
      refine tail_ok (typeIs_str σ.s _ _) slot_str_getitem.lookup (PyProof.Rows.getItem_str (c:=c) ?_ ?_ (q.tok (v:=.str m) ⟨_,_,hs',rfl⟩ e))
      · have a1:¬(k < -(2 ^ 63:Int)):=by lia
        have a2:¬(k≥2 ^ 63):=by lia
        rw[decide_eq_false a1,decide_eq_false a2];rfl
      · rw[seqIndex_of h0 (by lia)];exact hc
  | _=>exact main (σ.con ra) e
end
end Mine
end
section
namespace Mine
open PySem PySem.W PySem.Calls PyProof.Rows
section
variable{X:Wd}{Z:Addr→Prop}{A:Around}{d:Nat}{w:V×Hp}{Q:Value→Shared→Prop}{E:Value→Shared→Prop}{σ:Cg X Z}{K:V→Rs}
theorem clip_eq(k:Int)(n:Nat):clipAt n k=clip k n:=by
  cases k with
  | ofNat m=>exact clipAt_nat n m
  | negSucc m=>
    unfold clipAt
    rw[if_pos (Int.negSucc_lt_zero m),Int.negSucc_eq,Int.add_comm,←Int.sub_eq_add_neg]
    show(max 0 (min ((n:Int) - ((m+1:Nat):Int)) n)).toNat=n - (m+1)
    rw[Int.min_eq_left (Int.sub_le_self _ (Int.natCast_nonneg _)),Int.max_comm,←Int.ofNat_toNat]
    exact Int.toNat_sub n (m+1)
theorem bound_el{P:Addr→Prop}{h:Heap}{ρ:List Foot}{v:V}{x:Value}{n d:Nat}{k:Nat→Rs}{C:Prop}(r:VR X h P v ρ x)(e:bound v n d k=some w)(q:∀ p,IsPart x p→k (p.elim d (clip · n))=some w→C):C:=by
  cases v with
  | none=>cases r;exact q none .none e
  | int i=>exact r.elim fun t h=>q (some i) (h▸.int i t) (gx_inv e).2
  | _=>exact nn e
theorem slice_ok{a lo hi:V}{x l h:Value}(ra:σ.vr a x)(rl:σ.vr lo l)(rh:σ.vr hi h)(e:sliceK σ.H a lo hi K=some w){sl:Addr}(hs:σ.s.heap.IsSliceOf sl l h .none)(q:Kn σ K w Q) :
    σ.s.TypeIs x "list"∧wpAny (model X.prog X.w) A (getItem x (.ref sl)) Q E σ.s:=
  σ.flat_el (Q:=fun x=>σ.s.TypeIs x "list"∧wpAny (model X.prog X.w) A (getItem x (.ref sl)) Q E σ.s) ra e fun b xs n vs hl h1 r e=>⟨(IsL.list h1).typeIs,bound_el rl (gx_inv e).2 fun p1 i1 e=>bound_el rh e fun p2 i2 e=>by
    have c:∀ p:Option Int,∀ m:Nat,p.elim m (clipAt xs.size)=p.elim m (clip · vs.length):=fun p m=>by
      cases p with
      | none=>rfl
      | some k=>exact(clip_eq k _).trans (by rw[r.size];rfl)
    refine wpAny_getItem_list_slice (IsL.list h1) hs i1 i2 .none nofun ?_ (r.size▸Nat.le_trans (Nat.le_of_lt_succ hl) (Nat.le_of_succ_le lim_size))
    refine q.list (t:=σ.s.toks) e ?_ ?_
    · rw[List.length_drop,List.length_take];exact Nat.lt_of_le_of_lt (Nat.le_trans (Nat.sub_le _ _) (Nat.min_le_right _ _)) hl
    · rw[slicePick_plain,c,c,r.size,List.drop_take];exact(r.drop _).take _⟩
theorem rev_ok{a:V}{x:Value}{t:Tok}(ra:σ.vr a x)(e:revK σ.H a K=some w){sl:Addr}(hs:σ.s.heap.IsSliceOf sl .none .none (.int (-1) t))(q:Kn σ K w Q) :
    σ.s.TypeIs x "list"∧wpAny (model X.prog X.w) A (getItem x (.ref sl)) Q E σ.s:=
  σ.flat_el (Q:=fun x=>σ.s.TypeIs x "list"∧wpAny (model X.prog X.w) A (getItem x (.ref sl)) Q E σ.s) ra e fun b xs n vs hl h1 r e=>⟨(IsL.list h1).typeIs,by
    refine wpAny_getItem_list_slice (IsL.list h1) hs .none .none (.int _ _) nofun ?_ (r.size▸Nat.le_trans (Nat.le_of_lt_succ hl) (Nat.le_of_succ_le lim_size))
    refine q.list (t:=σ.s.toks) (gx_inv e).2 (by rw[List.length_reverse];exact hl) ?_
    rw[krv_pick];exact r.reverse⟩
end
section
variable{X:Wd}
theorem VR.handed{h:Heap}{P:Addr→Prop}{ρ:List Foot}{v:V}{x:Value}(r:VR X h P v ρ x):handedIn x=true:=by
  cases v with
  | undef=>exact r.elim
  | none=>cases r;rfl
  | bool b=>cases r;rfl
  | int i=>exact r.elim fun t h=>h▸rfl
  | str n=>exact r.elim fun y h=>h.elim fun t h=>h.2▸rfl
  | ref i=>exact r.elim fun f h=>h.2▸rfl
  | _=>exact Is.el (Q:=fun x=>handedIn x=true) r fun zz zz zz=>rfl
theorem EntsR.len:∀ {es:List DictEntry} {l:List Str},EntsR es l→es.length≤l.length
  | [],_,_=>Nat.zero_le _
  | _::_,_::_,r=>Nat.succ_le_succ (EntsR.len r.2)
theorem EntsR.noRef:∀ {es:List DictEntry} {l:List Str},EntsR es l→es.any (·.refKey)=false
  | [],_,_=>rfl
  | e::_,_::_,r=>by
    rw[List.any_cons,EntsR.noRef r.2,show e.refKey=false from r.1.elim fun t h=>by unfold DictEntry.refKey;rw[h]];rfl
theorem isStr_eq{e:DictEntry}{x y:Str}(h:EntR e x):e.key.isStr y=(x==y):=h.elim fun t h=>by rw[h];rfl
theorem EntsR.find:∀ {es:List DictEntry} {l:List Str},EntsR es l→l.Nodup→∀ {k:Nat} {name:Str} {e:DictEntry},l[k]?=some name→es[k]?=some e→es.find? (fun e=>e.key.isStr name)=some e
  | [],_,_,_,_,_,_,_,he=>by cases he
  | a::es,x::l,r,nd,k,name,e,hk,he=>by
    rw[List.nodup_cons]at nd
    rw[List.find?_cons,isStr_eq r.1]
    cases k with
    | zero=>cases hk;cases he;rw[beq_self_eq_true]
    | succ k=>rw[beq_eq_false_iff_ne.mpr fun (q:x=name)=>nd.1 (q▸List.mem_of_getElem? hk)];exact EntsR.find r.2 nd.2 hk he
theorem EntsR.get{es:List DictEntry}{l:List Str}(r:EntsR es l)(nd:l.Nodup){k:Nat}{name:Str}(hk:l[k]?=some name){e:DictEntry}(he:es[k]?=some e):getL name es=some (some e.val):=by
  unfold getL;rw[r.find nd hk he]
theorem EntsR.nofind:∀ {es:List DictEntry} {l:List Str},EntsR es l→∀ {name:Str},name ∉ l→es.find? (fun e=>e.key.isStr name)=none
  | [],_,_,_,_=>rfl
  | a::es,x::l,r,name,hn=>by
    rw[List.find?_cons,isStr_eq r.1,beq_eq_false_iff_ne.mpr fun (q:x=name)=>hn (q▸.head _)];exact EntsR.nofind r.2 fun h=>hn (.tail _ h)
theorem EntsR.miss{es:List DictEntry}{l:List Str}(r:EntsR es l){name:Str}(hn:name ∉ l):getL name es=some none:=by
  unfold getL;rw[r.nofind hn,r.noRef];rfl
theorem nth_map{α:Type}{f:α→Value}{l:List α}{i:Nat}{x:Value}(h:(l.map f)[i]?=some x):∃ a,l[i]?=some a∧f a=x:=by
  rw[List.getElem?_map]at h;exact Option.map_eq_some_iff.mp h
structure ClsOk(X:Wd)(c:Nat)(C:Addr):Prop where
  dict:hasDictIn X.K C=true
  get:plainGet X.K C "" = true
  set:findIn X.K (.ref C) "__setattr__" = some (some (.builtin "object.__setattr__"))
  over:plainOver X.K C=true
  nodup:(X.AN c).Nodup
  few:(X.AN c).length≤1000
  attr:∀ n k,X.T.attr c n=some k→∃ name,X.N n=some name∧(X.AN c)[k]?=some name∧findIn X.K (.ref C) name=some none
  meth:∀ m f,X.T.meth c m=some f→∃ name a,X.N m=some name∧name ∉ X.AN c∧findIn X.K (.ref C) name=some (some (.ref a))∧isFn X.K (.ref a)=true∧X.fn f=some a
  makes:makesIn X.K C=true
  init:∀ b f,X.T.init c=some (b,f)→∃ a,findIn X.K (.ref C) "__init__" = some (some (.ref a))∧isFn X.K (.ref a)=true∧X.fn f=some a
end
section
variable{X:Wd}{Z:Addr→Prop}{A:Around}{d:Nat}{w:V×Hp}{Q:Value→Shared→Prop}{E:Value→Shared→Prop}{σ:Cg X Z}{K:V→Rs}
theorem Cg.kin(σ:Cg X Z)(k:X.K.In X.h₀):X.K.In σ.s.heap:=fun a o e=>σ.I.base _ _ (k a o e)
theorem Ins.inst{h:Heap}{c:Nat}{a d C:Addr}{es:List DictEntry}{n:Nat}(i:Ins X h c a d C es n):InstAt h a (instObj C d) C (some (dictOf es n)):=⟨i.at_,rfl,rfl,i.dict⟩
theorem attr_ok(kin:X.K.In X.h₀)(cl:∀ c C,X.cls c=some C→ClsOk X c C){a:V}{x:Value}{n:Nat}{name:Str}{ex:Bool}(ra:σ.vr a x)(hn:X.N n=some name)(e:attrK X.T σ.H a n K=some w)(q:Kn σ K w Q) :
    wpAny (model X.prog X.w) A (getAttr x name ex) Q E σ.s:=
  ins_el (Q:=fun x=>wpAny _ A (getAttr x name ex) Q E σ.s) (σ.con ra) e fun l dx C es m c vs h1 h2 e=>by
    obtain⟨k,hk,e⟩:=bx_inv e
    obtain⟨v,hv,e⟩:=bx_inv e
    have ok:=cl c C h1.cls
    obtain⟨nm,e1,e2,e3⟩:=ok.attr n k hk
    cases hn.symm.trans e1
    obtain⟨y,hy,ry⟩:=h2.get hv
    obtain⟨en,he,rfl⟩:=nth_map hy
    refine get_value (σ.kin kin) h1.inst (plainGet_of ok.get).1 (findObj_own ok.dict e3 (by rfl) ?_) ry.handed (q.tok ry e)
    rw[lookIn_dict];exact h1.ents.get ok.nodup e2 he
end
end Mine
end
section
namespace Mine
open PySem PySem.W PySem.Calls PyProof.Rows Builtin Builtin.ObjectAttr
theorem stored_miss{k:Key}{x:Value}{p:Key×Value}{kvs:List (Key×Value)}(h:p.1≠k):stored (p::kvs) k x=p::stored kvs k x:=by
  unfold stored
  rw[List.any_cons,decide_eq_false h,Bool.false_or,List.map_cons,if_neg h]
  split<;>rfl
theorem stored_hit{k:Key}{x:Value}{p:Key×Value}{kvs:List (Key×Value)}(h:p.1=k)(nd:k ∉ kvs.map (·.1)):stored (p::kvs) k x=(p.1,x)::kvs:=by
  unfold stored
  rw[List.any_cons,decide_eq_true h,Bool.true_or,if_pos rfl,List.map_cons,if_pos h]
  exact congrArg _ ((List.map_congr_left fun kv hm=>if_neg fun (e:kv.1=k)=>nd (e▸List.mem_map_of_mem hm)).trans (List.map_id _))
theorem store_at{X:Wd}{h:Heap}{P:Addr→Prop}{ρ:List Foot}{u:V}{k:Key}(ku:keyV X u=some k){v:V}{x:Value}(rv:VR X h P v ρ x){ks vs:List V}{kvs:List (Key×Value)}(nd:(kvs.map (·.1)).Nodup)(a:ks.map (keyV X)=kvs.map fun p=>some p.1)(b:VRs X h P vs ρ (kvs.map (·.2))) :
    (store u v ks vs).1.map (keyV X)=(stored kvs k x).map (fun p=>some p.1)∧VRs X h P (store u v ks vs).2 ρ ((stored kvs k x).map (·.2))∧(store u v ks vs).1.length≤ks.length+1:=by
  induction ks generalizing vs kvs with
  | nil=>cases kvs with
    | nil=>exact⟨congrArg (·::[]) ku,⟨rv,rfl⟩,Nat.le_refl _⟩
    | cons=>cases a
  | cons q ks ih=>cases kvs with
    | nil=>cases a
    | cons p kvs=>cases vs with
      | nil=>exact nomatch (show _::_=[]from b)
      | cons w ws=>
        have a:=List.cons.inj a
        have nd:=List.nodup_cons.mp nd
        unfold store;dsimp only;rw[keyEq_eq ku a.1]
        by_cases hk:p.1=k
        · rw[decide_eq_true hk,stored_hit hk (hk▸nd.1)]
          exact⟨congr (congrArg _ a.1) a.2,⟨rv,b.2⟩,Nat.le_succ _⟩
        · rw[decide_eq_false hk,stored_miss hk]
          have i:=ih nd.2 a.2 b.2
          exact⟨congr (congrArg _ a.1) i.1,⟨b.1,i.2.1⟩,Nat.succ_le_succ i.2.2⟩
theorem setItem_list{prog:Program}{w:World}{A:Around}{E:Value→Shared→Prop}{s:Shared}{l:Addr}{items:Array Value}{ne:Nat}{k:Int}{t:Tok}{v:Value}{Q:Unit→Shared→Prop}(ho:IsL s.heap l items ne)
    (h0:0≤k) (hfit:k<2 ^ 63) (hn:k<items.size) (hQ:Q () { s with heap:=s.heap.update l (Obj.mapSeq (·.setIfInBounds k.toNat v)) }):wpAny (model prog w) A (setItem (.ref l) (.int k t) v) Q E s:=by
  have hl:=IsL.list ho
  unfold setItem
  try with_reducible refine wpAny_holding ?_
  first|refine wpAny_bind (wpAny_pure ?_)|skip
  refine wpAny_bind (wpAny_sequenceKey hl.typeIs (by decide) ?_)
  refine wpAny_bind (wpAny_callSpecial?_slot (name:=Str.ofString "__setitem__") hl.typeIs slot_list_setitem
    (wpAny_call_entry slot_list_setitem hl.typeIs entry_list_setitem ?_ (args_list_setitem _ _ _)))
  show wpAny _ _ (Builtin.List.listSubscript? (.int k t)>>= _) _ _ s
  refine wpAny_bind (wpAny_listSubscript_int (fitsIndex_of h0 hfit) ?_)
  clear hfit
  obtain⟨j,rfl⟩:=Int.eq_ofNat_of_zero_le h0
  have hx':items[j]?=some items[j]:=Array.getElem?_eq_getElem (Int.ofNat_lt.mp hn)
  show wpAny _ _ ((seqItemAt l j >>= fun r=>pure (r.map (j,·)))>>= _) _ _ s
  refine wpAny_bind (wpAny_bind (wpAny_seqItemAt ho rfl (wpAny_pure ?_)))
  rw[hx']
  show wpAny _ _ (setSeqItemAt l j v >>= _) _ _ s
  refine wpAny_bind (wpAny_setSeqItemAt ho rfl ?_)
  first
    | exact wpAny_bind (wpAny_pure (wpAny_pure ⟨.none,rfl,wpAny_pure hQ⟩))
    | exact wpAny_pure ⟨.none,rfl,wpAny_pure hQ⟩
section
variable{X:Wd}{Z:Addr→Prop}
noncomputable def Cg.items (σ:Cg X Z) {i:Nat} {vs:List V} {f:Foot} (e:cell σ.H i=some (.list vs)) (hf:σ.ρ[i]?=some f) {xs:Array Value} {n:Nat} (l:IsL σ.s.heap f.a xs n) (g:Array Value→Array Value) {us:List V} (hu:us.length<lim+1)
    (r:∀ {P'},Keep σ.s.heap σ.P (σ.s.heap.update f.a (Obj.mapSeq g)) P'→VRs X (σ.s.heap.update f.a (Obj.mapSeq g)) P' us σ.ρ (g xs).toList):Cg X Z:=
  σ.set (.list us) e hf (σ.s.heap.update f.a (Obj.mapSeq g)) σ.s.toks (fun b ob q n=>((Heap.SameBut.update ..).2 b fun h=>n (h▸.head _)).trans q) (Nat.le_of_eq (Heap.SameBut.update ..).1.symm) (List.Sublist.refl _) fun kp=>.mk hu (l.update g) (r kp)
variable{A:Around}{d:Nat}{w:V×Hp}{E:Value→Shared→Prop}{σ:Cg X Z}
def Kh(σ:Cg X Z)(K:Hp→Rs)(w:V×Hp)(Q:Unit→Shared→Prop):Prop:=∀ τ,To σ τ→K τ.H=some w→Q () τ.s
theorem ref_el{v:V}{x:Value}{k:Nat→O→Rs}{Q:Value→Prop}(r:σ.vr v x)(e:(bx (refC v) fun i=>bx (cell σ.H i) (k i))=some w)(q:∀ i o f,cell σ.H i=some o→σ.ρ[i]?=some f→CellR X σ.s.heap σ.P σ.ρ o f→k i o=some w→Q (.ref f.a)):Q x:=by
  cases v with
  | ref i=>exact r.elim fun f h=>(bx_inv (x:=cell σ.H i) e).elim fun o g=>h.2▸q i o f g.1 h.1 (σ.I.cells i o f g.1 h.1) g.2
  | _=>exact nn e
theorem setItem_ok{K:Hp→Rs}{Q:Unit→Shared→Prop}{a b v:V}{x y z:Value}(ra:σ.vr a x)(rb:σ.vr b y)(rv:σ.vr v z)(e:setItemK a b v σ.H K=some w)(q:Kh σ K w Q):wpAny (model X.prog X.w) A (setItem x y z) Q E σ.s:=
  ref_el (Q:=fun x=>wpAny _ A (setItem x y z) Q E σ.s) ra e fun i o f hc hf cr e=>by
    cases o with
    | list vs=>
      exact LstAt.el cr fun xs n hl h1 r=>int_el (Q:=fun y=>wpAny _ A (setItem (.ref f.a) y z) Q E σ.s) rb e fun k t e=>by
        obtain⟨hk,e⟩:=gx_inv e
        have hk:=(Bool.and_eq_true _ _).mp hk
        have h0:=of_decide_eq_true hk.1
        have h2:k<xs.size:=r.size▸of_decide_eq_true hk.2
        have:=lim_is
        have:=r.size
        exact setItem_list h1 h0 (by lia) h2 (q (σ.items hc hf h1 (·.setIfInBounds k.toNat z) (us:=put vs k.toNat v) (by
          have:∀ (vs:List V) i,(put vs i v).length=vs.length:=fun vs=>by
            induction vs with
            | nil=>exact fun zz=>rfl
            | cons a vs ih=>exact fun i=>by cases i with
              | zero=>rfl
              | succ i=>exact congrArg (·+1) (ih i)
          rw[this];exact hl) fun kp=>by rw[Array.toList_setIfInBounds];exact(r.mono kp List.prefix_rfl).put (rv.mono kp List.prefix_rfl) _) To.set e)
    | dict ks vs=>
      exact DctAt.el cr fun kvs h1 r=>by
        obtain⟨hk,e⟩:=gx_inv e
        obtain⟨hl,e⟩:=gx_inv e
        have hl:=of_decide_eq_true hl
        obtain⟨key,kr,hi⟩:=VR.key hk rb
        have hkl:kvs.length=ks.length:=by have:=congrArg List.length h1.keys;rw[List.length_map,List.length_map]at this;exact this.symm
        refine wpAny_setItem_pairs hi h1.is (fun h' hd' sb=>?_) (by rw[hkl];exact Nat.le_of_lt (Nat.lt_of_lt_of_le hl (Nat.le_of_succ_le lim_size)))
        have st:=store_at kr rv (by obtain⟨_,_,_,_,_,_,_,_,nd⟩:=h1.is;exact nd) h1.keys r
        exact q (σ.set (.dict (store b v ks vs).1 (store b v ks vs).2) hc hf h' _ (fun b ob q n=>(sb.2 b fun h=>n (h▸.head _)).trans q) (Nat.le_of_eq sb.1.symm) (List.Sublist.refl _) fun kp=>.mk ⟨h1.sys,hd',st.1,Nat.le_trans st.2.2 hl⟩ (st.2.1.mono kp List.prefix_rfl)) To.set e
    | _=>exact nn e
theorem EntsR.put:∀ {es:List DictEntry} {l:List Str},EntsR es l→l.Nodup→∀ {k:Nat} {name:Str},l[k]?=some name→∀ {hsh:Int} {t:Tok} {v:Value},k≤es.length→
    EntsR (putL name hsh (.str name t) v es) l∧(putL name hsh (.str name t) v es).map (·.val)=if k<es.length then(es.map (·.val)).set k v else es.map (·.val)++[v]
  | [],x::l,_,_,k,name,hk,_,t,_,hl=>by
    cases Nat.le_zero.mp hl;cases hk;exact⟨⟨⟨t,rfl⟩,trivial⟩,rfl⟩
  | e::es,x::l,r,nd,k,name,hk,hsh,t,v,hl=>by
    have nd:=List.nodup_cons.mp nd
    unfold putL
    rw[isStr_eq r.1]
    cases k with
    | zero=>cases hk;rw[beq_self_eq_true,if_pos rfl];exact⟨⟨r.1,r.2⟩,rfl⟩
    | succ k=>
      rw[beq_eq_false_iff_ne.mpr fun (q:x=name)=>nd.1 (q▸List.mem_of_getElem? hk),if_neg Bool.false_ne_true]
      have i:=EntsR.put r.2 nd.2 hk (hsh:=hsh) (t:=t) (v:=v) (Nat.le_of_succ_le_succ hl)
      refine⟨⟨r.1,i.1⟩,?_⟩
      rw[List.map_cons,i.2]
      by_cases hk:k<es.length
      · rw[if_pos hk];exact(if_pos (Nat.succ_lt_succ hk)).symm
      · rw[if_neg hk];exact(if_neg fun h=>hk (Nat.lt_of_succ_lt_succ h)).symm
theorem osa_own{prog:Program}{w:World}{s:Shared}{K:Frag}{x C dx:Addr}{R:Result→Shared→Prop}{name:Str}{tk:Tok}{v:Value}{es:List DictEntry}{n:Nat}(Y:K.In s.heap)
    (I:InstAt s.heap x (instObj C dx) C (some (dictOf es n))) (hp:plainOver K C=true) (ht:takerIn K C name=some none) (hh:(clsIn K C).any (·.hasDict)=true) (hr:es.any (·.refKey)=false)
    {es':List DictEntry} {n':Nat} (e:Obj.putName name (PyData.keyHash w.params name) (.str name s.toks) v (dictOf es n)=dictOf es' n') (hz:es'.length≤1000)
    (h:∀ h',h'.get? dx=some (dictOf es' n')→Heap.SameBut dx s.heap h'→R (.ok (.ret .none)) { s with heap:=h',toks:=s.toks+1 }) :
    codeAny (model prog w) A (.call (.builtin "object.__setattr__") ⟨[.ref x,.str name tk,v],[]⟩) R s:=by
  refine osa_open Y I hp ht fun b=>?_
  obtain⟨cd,hc,hd'⟩:=any_some hh
  have D:s.heap.get? dx=some (dictOf es n):=I.4
  have D':(s.heap.update dx (Obj.putName name (PyData.keyHash w.params name) (.str name s.toks) v)).get? dx=some (dictOf es' n'):=e▸Heap.get?_update_self _ D (e▸rfl)
  refine wpAny_bind (wpAny_pure (wpAny_bind (wpAny_bind (wpAny_loadPart I.1 (wpAny_bind ((looks_clsIn Y hc).here ?_))))))
  rw[hd']
  refine wpAny_pure (a:=some dx) (wpAny_bind (wpAny_pure (wpAny_bind ?_)))
  unfold nsSet
  refine wpAny_bind (wpAny_bind (wpAny_askSetting (wpAny_pure (wpAny_bind (wpAny_mkText (wpAny_bind (wpAny_loadPart D ?_)))))))
  have c:aRefKeyMayBeTheName name es.toArray=false:=by
    rw[aRefKeyMayBeTheName_at,←Array.any_toList,←Array.any_toList,hr,Bool.and_false]
  show wpAny _ _ (if aRefKeyMayBeTheName name es.toArray=true then _ else _) _ _ _
  rw[c]
  refine wpAny_updatePart D ?_
  refine wpAny_bind (wpAny_lookBehind D' (pastItsLine_dict (by rw[List.size_toArray,sizeLine_eq];lia)) ?_)
  exact wpAny_pure (h _ D' (Heap.SameBut.update ..))
theorem setAttr_ok(kin:X.K.In X.h₀)(cl:∀ c C,X.cls c=some C→ClsOk X c C){K:Hp→Rs}{Q:Unit→Shared→Prop}{a v:V}{x y:Value}{n:Nat}{name:Str}(ra:σ.vr a x)(rv:σ.vr v y)(hn:X.N n=some name)(e:setAttrK X.T a n v σ.H K=some w)(q:Kh σ K w Q) :
    wpAny (model X.prog X.w) A (setAttr x name y) Q E σ.s:=
  ref_el (Q:=fun x=>wpAny _ A (setAttr x name y) Q E σ.s) ra e fun i o f hc hf cr e=>by
    cases o with
    | inst c vs=>
      obtain⟨k,hk,e⟩:=bx_inv e
      exact InsAt.el cr.2 fun C es m h1 r=>by
        have ok:=cl c C h1.cls
        obtain⟨nm,e1,e2,e3⟩:=ok.attr n k hk
        cases hn.symm.trans e1
        have hlen:vs.length=es.length:=by rw[r.length,List.length_map]
        have main:∀ us,k≤es.length→(∀ {h' P'},Keep σ.s.heap σ.P h' P'→VRs X h' P' us σ.ρ (if k<es.length then(es.map (·.val)).set k y else es.map (·.val)++[y]))→K (setC σ.H i (.inst c us))=some w→wpAny (model X.prog X.w) A (setAttr (.ref f.a) name y) Q E σ.s:=fun us hkl hv e=>by
          have p:=h1.ents.put ok.nodup e2 (hsh:=PyData.keyHash X.w.params name) (t:=σ.s.toks+1) (v:=y) hkl
          refine set_plain (σ.kin kin) h1.inst ok.set ?_
          refine osa_own (s:={ σ.s with toks:=σ.s.toks+1 }) (σ.kin kin) h1.inst ok.over (by unfold takerIn;rw[e3];rfl) ok.dict h1.ents.noRef (putName_dict ..) (Nat.le_trans p.1.len ok.few) fun h' D' sb=>?_
          exact q (σ.set (.inst c us) hc hf h' _ (fun b ob q n=>(sb.2 b fun h=>n (h▸.tail _ (.head _))).trans q) (Nat.le_of_eq sb.1.symm) (List.Sublist.refl _) fun kp=>⟨cr.1,.mk ⟨h1.cls,(sb.2 f.a cr.1).trans h1.at_,D',p.1⟩ (p.2▸hv kp)⟩) To.set e
        rcases cs_inv e with⟨h,e⟩|⟨h,e⟩
        · have h:k<es.length:=hlen▸of_decide_eq_true h
          exact main _ (Nat.le_of_lt h) (fun kp=>by rw[if_pos h];exact(r.mono kp List.prefix_rfl).put (rv.mono kp List.prefix_rfl) _) e
        · obtain⟨h,e⟩:=gx_inv e
          have h:k=es.length:=hlen▸of_decide_eq_true h
          exact main _ (Nat.le_of_eq h) (fun kp=>by rw[if_neg (h▸Nat.lt_irrefl _)];exact(r.mono kp List.prefix_rfl).snoc (rv.mono kp List.prefix_rfl)) e
    | _=>exact nn e
end
end Mine
end
section
namespace Mine
open PySem PySem.W PySem.Calls PyProof.Rows
open PySem.SeqAt (EqAt)
def mId:Nat→String
  | 0=>"list.append"
  | 1=>"list.pop"
  | 2=>"list.extend"
  | 3=>"list.index"
  | _=>"dict.get"
def mName:Nat→Str
  | 0=>"append"
  | 1=>"pop"
  | 2=>"extend"
  | 3=>"index"
  | _=>"get"
theorem mCases{P:Nat→Prop}{m:Nat}(h:m≤4)(h0:P 0)(h1:P 1)(h2:P 2)(h3:P 3)(h4:P 4):P m:=by
  cases m with
  | zero=>exact h0
  | succ m=>cases m with
    | zero=>exact h1
    | succ m=>cases m with
      | zero=>exact h2
      | succ m=>cases m with
        | zero=>exact h3
        | succ m=>exact(Nat.le_zero.mp (Nat.le_of_add_le_add_right (b:=4) h))▸h4
def mTy(m:Nat):String:=match m with
  | 4=>"dict"
  | _=>"list"
theorem mSlot(m:Nat)(h:m≤4):Slot (mTy m) (mName m) (mId m):=mCases (P:=fun m=>Slot (mTy m) (mName m) (mId m)) h F.slot_list_append F.slot_list_pop F.slot_list_extend F.slot_list_index F.slot_dict_get
theorem mType(m:Nat)(h:m≤4):typeOf (.builtin (mId m))=pure (.type "method_descriptor"):=mCases (P:=fun m=>typeOf (.builtin (mId m))=pure (.type "method_descriptor")) h F.type_list_append F.type_list_pop F.type_list_extend F.type_list_index F.type_dict_get
theorem mPlain(m:Nat)(h:m≤4):PlainAttrs (mTy m):=mCases (P:=fun m=>PlainAttrs (mTy m)) h F.plainAttrs_list F.plainAttrs_list F.plainAttrs_list F.plainAttrs_list F.plainAttrs_dict
theorem popL_eq:∀ {vs r:List V} {v:V},popL vs=some (r,v)→vs=r++[v]
  | [_],_,_,h=>by cases h;rfl
  | a::b::vs,r,v,h=>by
    obtain⟨r',v',h1,h2⟩:=bp_inv h
    cases h2
    rw[popL_eq h1];rfl
theorem VRs.append_inv{X:Wd}{h:Heap}{P:Addr→Prop}{ρ:List Foot}{us:List V}:∀ {vs:List V} {xs:List Value},VRs X h P (vs++us) ρ xs→∃ ys zs,xs=ys++zs∧VRs X h P vs ρ ys∧VRs X h P us ρ zs
  | [],xs,r=>⟨[],xs,rfl,rfl,r⟩
  | _::_,x::_,r=>(VRs.append_inv r.2).elim fun ys h=>h.elim fun zs h=>⟨x::ys,zs,congrArg (x::·) h.1,⟨r.1,h.2.1⟩,h.2.2⟩
theorem index_spec{x:V}{vs:List V}{k j:Int}(e:index x k vs=some j):∃ m:Nat,j=k+m∧∃ h:m<vs.length,keyEq x vs[m]=true∧∀ i (hi:i<vs.length),i<m→keyEq x vs[i]=false:=by
  induction vs generalizing k with
  | nil=>cases e
  | cons v vs ih=>
    rcases cs_inv e with⟨h,e⟩|⟨h,e⟩
    · cases e;exact⟨0,(Int.add_zero _).symm,Nat.succ_pos _,h,fun i zz hi=>absurd hi (Nat.not_lt_zero _)⟩
    · obtain⟨m,rfl,h1,h2,h3⟩:=ih e
      refine⟨m+1,by rw[Int.add_assoc,Int.add_comm 1];rfl,Nat.succ_lt_succ h1,h2,fun i hi hm=>?_⟩
      cases i with
      | zero=>exact h
      | succ i=>exact h3 i (Nat.lt_of_succ_lt_succ hi) (Nat.lt_of_succ_lt_succ hm)
section
variable{X:Wd}{Z:Addr→Prop}{A:Around}{w:V×Hp}{Q:Value→Shared→Prop}{E:Value→Shared→Prop}{σ:Cg X Z}{K:KV}
def Kv(σ:Cg X Z)(K:KV)(w:V×Hp)(Q:Value→Shared→Prop):Prop:=∀ τ v x,To σ τ→τ.vr v x→K v τ.H=some w→Q x τ.s
theorem Kv.here(q:Kv σ K w Q){v:V}{x:Value}(r:σ.vr v x)(e:K v σ.H=some w):Q x σ.s:=q σ v x StepF.refl r e
theorem Kv.tok(q:Kv σ K w Q){v:V}{x:Value}{t:Nat}(r:σ.vr v x)(e:K v σ.H=some w):Q x { σ.s with toks:=t }:=q (σ.tok t) v x To.tok r e
theorem Kv.from{τ:Cg X Z}(q:Kv σ K w Q)(t:To σ τ):Kv τ K w Q:=fun υ v x t' r e=>q υ v x (t.trans t') r e
theorem Kv.kn(q:Kv σ K w Q):Kn σ (fun v=>K v σ.H) w Q:=fun τ v x t h r e=>q τ v x t r (h▸e)
theorem Kv.kc(q:Kv σ K w Q):Kc σ (fun c=>K (.bool c) σ.H) w Q:=fun τ c t h e=>q τ (.bool c) (.bool c) t rfl (h▸e)
theorem own_el{v:V}{x:Value}{k:Nat→List V→Rs}{Q:Value→Prop}(r:σ.vr v x)(e:own σ.H v k=some w)
    (q:∀ i vs f xs n,cell σ.H i=some (.list vs)→σ.ρ[i]?=some f→vs.length<lim+1→IsL σ.s.heap f.a xs n→σ.vrs vs xs.toList→k i vs=some w→Q (.ref f.a)):Q x:=
  ref_el r e fun i o f hc hf cr e=>by
    cases o with
    | list vs=>exact LstAt.el cr fun xs n h1 h2 h3=>q i vs f xs n hc hf h1 h2 h3 e
    | _=>exact nn e
theorem a1_el{args:List V}{xs:List Value}{k:V→Rs}{Q:List Value→Prop}(r:σ.vrs args xs)(e:a1 args k=some w)(q:∀ v x,σ.vr v x→k v=some w→Q [x]):Q xs:=by
  cases args with
  | nil=>exact nn e
  | cons v args=>cases args with
    | cons v args=>exact nn e
    | nil=>cases xs with
      | nil=>exact r.elim
      | cons x xs=>cases r.2;exact q v x r.1 e
theorem a2_el{args:List V}{xs:List Value}{k:V→V→Rs}{Q:List Value→Prop}(r:σ.vrs args xs)(e:a2 args k=some w)(q:∀ v x u y,σ.vr v x→σ.vr u y→k v u=some w→Q [x,y]):Q xs:=by
  cases args with
  | nil=>exact nn e
  | cons v args=>cases args with
    | nil=>exact nn e
    | cons u args=>cases args with
      | cons v args=>exact nn e
      | nil=>cases xs with
        | nil=>exact r.elim
        | cons x xs=>cases xs with
          | nil=>exact r.2.elim
          | cons y xs=>cases r.2.2;exact q v x u y r.1 r.2.1 e
theorem append_ok{a:V}{args:List V}{x:Value}{xs:List Value}(ra:σ.vr a x)(rs:σ.vrs args xs)(e:methK 0 a args σ.H K=some w)(q:Kv σ K w Q):wpAny (model X.prog X.w) A (call (.builtin "list.append") (x::xs)) Q E σ.s:=
  own_el (Q:=fun x=>wpAny _ A (call (.builtin "list.append") (x::xs)) Q E σ.s) ra e fun i vs f its n hc hf hl h1 r e=>a1_el (Q:=fun xs=>wpAny _ A (call (.builtin "list.append") (.ref f.a::xs)) Q E σ.s) rs e fun v y rv e=>by
    obtain⟨hl,e⟩:=gx_inv e
    have hl:=of_decide_eq_true hl
    refine call_meets F.slot_list_append ⟨_,h1,rfl⟩ F.entry_list_append (F.args_list_append_2 _ _) (list_append f.a its n _ (r.size▸Nat.le_of_lt (Nat.lt_of_lt_of_le hl (Nat.le_of_succ_le lim_size)))) ⟨h1,?_⟩
    exact q (σ.items hc hf h1 (fun xs=>xs.push y) (us:=vs++[v]) (by rw[List.length_append];exact Nat.succ_lt_succ hl) fun kp=>by rw[Array.toList_push];exact(r.mono kp List.prefix_rfl).snoc (rv.mono kp List.prefix_rfl)) .none .none To.set rfl e
theorem pop_ok{a:V}{args:List V}{x:Value}{xs:List Value}(ra:σ.vr a x)(rs:σ.vrs args xs)(e:methK 1 a args σ.H K=some w)(q:Kv σ K w Q):wpAny (model X.prog X.w) A (call (.builtin "list.pop") (x::xs)) Q E σ.s:=
  own_el (Q:=fun x=>wpAny _ A (call (.builtin "list.pop") (x::xs)) Q E σ.s) ra e fun i vs f its n hc hf hl h1 r e=>by
    obtain⟨ha,e⟩:=gx_inv e
    obtain⟨us,v,hp,e'⟩:=bp_inv e
    cases args with
    | cons=>cases ha
    | nil=>
    cases rs
    cases popL_eq hp
    obtain⟨ys,zs,hy,r1,r2⟩:=r.append_inv
    cases zs with
    | nil=>exact r2.elim
    | cons y zs=>
      cases r2.2
      have hs:its.size - 1=ys.length:=by rw[←Array.length_toList,hy,List.length_append];rfl
      have hle:us.length+1<lim+1:=by rw[List.length_append]at hl;exact hl
      have he:(its.eraseIdxIfInBounds (its.size - 1)).toList=ys:=by
        have hlt:its.size - 1<its.size:=by rw[hs,←Array.length_toList,hy,List.length_append];exact Nat.lt_succ_self _
        rw[Array.eraseIdxIfInBounds,dif_pos hlt,Array.toList_eraseIdx,hs,hy,List.eraseIdx_append_of_length_le (Nat.le_refl _),Nat.sub_self]
        exact List.append_nil ys
      refine call_meets F.slot_list_pop ⟨_,h1,rfl⟩ F.entry_list_pop (F.args_list_pop_1 _) (MeetsSeq.list_pop_last f.a its n y (by rw[←Array.getElem?_toList,hs,hy,List.getElem?_append_right (Nat.le_refl _),Nat.sub_self];rfl) (by rw[r.size];exact Nat.le_trans (Nat.le_of_lt_succ hl) (Nat.le_of_succ_le lim_size))) ⟨h1,?_⟩
      have τ:∀ {P':Addr→Prop},Keep σ.s.heap σ.P (σ.s.heap.update f.a (Obj.mapSeq fun xs=>xs.eraseIdxIfInBounds (its.size - 1))) P'→VRs X (σ.s.heap.update f.a (Obj.mapSeq fun xs=>xs.eraseIdxIfInBounds (its.size - 1))) P' us σ.ρ (its.eraseIdxIfInBounds (its.size - 1)).toList:=fun kp=>by rw[he];exact r1.mono kp List.prefix_rfl
      have t:To σ (σ.items hc hf h1 (fun xs=>xs.eraseIdxIfInBounds (its.size - 1)) (us:=us) (Nat.lt_of_succ_lt hle) τ):=To.set
      exact q _ v y t (t.vr r2.1) e'
theorem extend_ok{a:V}{args:List V}{x:Value}{xs:List Value}(ra:σ.vr a x)(rs:σ.vrs args xs)(e:methK 2 a args σ.H K=some w)(q:Kv σ K w Q):wpAny (model X.prog X.w) A (call (.builtin "list.extend") (x::xs)) Q E σ.s:=
  own_el (Q:=fun x=>wpAny _ A (call (.builtin "list.extend") (x::xs)) Q E σ.s) ra e fun i vs f its n hc hf hl h1 r e=>a1_el (Q:=fun xs=>wpAny _ A (call (.builtin "list.extend") (.ref f.a::xs)) Q E σ.s) rs e fun v y rv e=>
    lst_el (Q:=fun y=>wpAny _ A (call (.builtin "list.extend") [.ref f.a,y]) Q E σ.s) (σ.con rv) e fun b ys n2 us zz hb r2 e=>by
    obtain⟨hl,e⟩:=gx_inv e
    have hl:=of_decide_eq_true hl
    have hsz:its.size+ys.size<sizeLine:=by rw[r.size,r2.size];exact Nat.lt_of_lt_of_le hl (Nat.le_of_succ_le lim_size)
    have hd:¬(!its.isEmpty&&Builtin.List.listTooLong (its.size+ys.size))=true:=fun hh=>by
      have h2:=((Bool.and_eq_true _ _).mp hh).2
      have hlim:=lim_is
      unfold Builtin.List.listTooLong at h2
      rw[r.size,r2.size]at h2
      simp[sizeLine]at h2
      lia
    refine call_meets F.slot_list_extend ⟨_,h1,rfl⟩ F.entry_list_extend (F.args_list_extend_2 _ _) (AutoSeq1.list_extend_list_list_0 f.a its n b ys n2 hd (Nat.le_of_lt (Nat.lt_of_le_of_lt (Nat.le_add_right _ _) hsz)) (Nat.le_succ_of_le (Nat.le_of_lt hsz))) ⟨h1,hb,?_⟩
    exact q (σ.items hc hf h1 (fun xs=>xs++ys) (us:=vs++us) (by rw[List.length_append];exact Nat.lt_succ_of_lt hl) fun kp=>by rw[Array.toList_append];exact(r.mono kp List.prefix_rfl).append (r2.mono kp List.prefix_rfl)) .none .none To.set rfl e
theorem index_ok{a:V}{args:List V}{x:Value}{xs:List Value}(ra:σ.vr a x)(rs:σ.vrs args xs)(e:methK 3 a args σ.H K=some w)(q:Kv σ K w Q):wpAny (model X.prog X.w) A (call (.builtin "list.index") (x::xs)) Q E σ.s:=
  a1_el (Q:=fun xs=>wpAny _ A (call (.builtin "list.index") (x::xs)) Q E σ.s) rs e fun v y rv e=>lst_el (Q:=fun x=>wpAny _ A (call (.builtin "list.index") [x,y]) Q E σ.s) ra.sv e fun l its n vs hl h1 r e=>by
    obtain⟨hk,e⟩:=gx_inv e
    obtain⟨j,hj,e⟩:=bx_inv e
    have hk:=(Bool.and_eq_true _ _).mp hk
    obtain⟨m,rfl,g1,g2,g3⟩:=index_spec hj
    rw[Int.zero_add]at e
    obtain⟨key,kr,hi⟩:=VR.key hk.1 rv
    have zs:=r.size
    have hlim:=lim_is
    have kat:∀ i (h:i<its.size),∃ k',vKey its[i]=some k'∧keyIs k' its[i]=true∧keyEq v (vs[i]'(zs▸h))=decide (k'=key):=fun i h=>by
      obtain⟨u,hu,ru⟩:=r.get (i:=i) (nth_get.trans (List.getElem?_eq_getElem (zs▸h)))
      rw[Array.getElem?_toList,Array.getElem?_eq_getElem h]at hu
      cases hu
      obtain⟨k',a1,a2⟩:=VR.key (List.all_eq_true.mp hk.2 _ (List.getElem_mem _)) ru
      exact⟨k',of_decide_eq_true a2,a2,keyEq_eq kr a1⟩
    refine call_meets F.slot_list_index ⟨_,h1,rfl⟩ F.entry_list_index (F.args_list_index_2 _ _) (SeqAt.list_indexAt l its n none #[] _ (fun w=>decide (vKey w=some key)) m (zs▸g1) (by lia) ?_ fun i hi' him=>?_) ⟨h1,fun u hu=>?_,q.tok (v:=.int m) ⟨_,rfl⟩ e⟩
    · obtain⟨k',a1,_,a3⟩:=kat m (zs▸g1)
      rw[a1];exact decide_eq_true (congrArg some (of_decide_eq_true (a3.symm.trans g2)))
    · obtain⟨k',a1,_,a3⟩:=kat i hi'
      rw[a1];exact decide_eq_false fun h=>of_decide_eq_false (a3.symm.trans (g3 i (zs▸hi') him)) (Option.some.inj h)
    · obtain⟨i,h,rfl⟩:=Array.getElem_of_mem hu
      obtain⟨k',a1,a2,_⟩:=kat i h
      intro prog w E Q hq
      replace hq:Q (decide (vKey its[i]=some key)) _:=hq
      rw[a1]at hq
      exact(keyK prog w).eqBool a2 hi ((show decide (k'=key)=decide (some k'=some key)from decide_eq_decide.mpr ⟨congrArg some,Option.some.inj⟩)▸hq)
theorem get_ok{a:V}{args:List V}{x:Value}{xs:List Value}(ra:σ.vr a x)(rs:σ.vrs args xs)(e:methK 4 a args σ.H K=some w)(q:Kv σ K w Q):wpAny (model X.prog X.w) A (call (.builtin "dict.get") (x::xs)) Q E σ.s:=
  dct_el (Q:=fun x=>wpAny _ A (call (.builtin "dict.get") (x::xs)) Q E σ.s) (σ.con ra) e fun l kvs ks vs hd r e=>by
    cases args with
    | nil=>exact nn e
    | cons k args=>
      obtain⟨hk,e⟩:=gx_inv e
      cases xs with
      | nil=>exact rs.elim
      | cons y xs=>
        obtain⟨key,kr,hi⟩:=VR.key hk rs.1
        have g:∀ d z,σ.vr d z→K ((look k ks vs).getD d) σ.H=some w→Q ((valueAt kvs key).getD z) { σ.s with toks:=σ.s.toks+1 }:=fun d z rd e=>(look_at kr hd.keys r).elim (fun g=>by rw[g.1]at e;rw[g.2];exact q.tok rd e) fun ⟨u,v,g1,g2,g3⟩=>by
          rw[g1]at e;rw[g2];exact q.tok g3 e
        cases args with
        | nil=>
          cases rs.2
          exact call_meetsIn F.slot_dict_get hd.is.typeIs F.entry_dict_get (F.args_dict_get_2 _ _) (meets_dict_get (dk X) l hi hd.sys) ⟨_,hd.is.mapOf,g .none .none rfl e⟩
        | cons df args=>
          obtain⟨ha,e⟩:=gx_inv e
          cases args with
          | cons=>cases ha
          | nil=>cases xs with
            | nil=>exact rs.2.elim
            | cons z xs=>
              cases rs.2.2
              exact call_meetsIn F.slot_dict_get hd.is.typeIs F.entry_dict_get (F.args_dict_get_3 _ _ _) (meets_dict_get_default (dk X) l hi hd.sys _) ⟨_,hd.is.mapOf,g df z rs.2.1 e⟩
theorem meth_ok{m:Nat}{a:V}{args:List V}{x:Value}{xs:List Value}(hm:m≤4)(ra:σ.vr a x)(rs:σ.vrs args xs)(e:methK m a args σ.H K=some w)(q:Kv σ K w Q):wpAny (model X.prog X.w) A (call (.builtin (mId m)) (x::xs)) Q E σ.s:=
  mCases (P:=fun m=>methK m a args σ.H K=some w→wpAny (model X.prog X.w) A (call (.builtin (mId m)) (x::xs)) Q E σ.s) hm (fun e=>append_ok ra rs e q) (fun e=>pop_ok ra rs e q) (fun e=>extend_ok ra rs e q) (fun e=>index_ok ra rs e q) (fun e=>get_ok ra rs e q) e
end
end Mine
end
section
namespace Mine
open PySem PySem.W PySem.Calls PyProof.Rows
theorem b2_inv{α β γ:Type}{x:Option (α×β)}{k:α→β→Option γ}{w:γ}(h:b2 x k=some w):∃ a b,x=some (a,b)∧k a b=some w:=bp_inv h
theorem pr{α β:Type}{a a':α}{b b':β}{P:α→β→Prop}(e:some (a,b)=some (a',b'))(p:P a b):P a' b':=by cases e;exact p
structure Frz(H H1:Hp):Prop where
  len:H1.length=H.length
  cells:∀ j,cell H1 j=cell H j∨∃ v,cell H1 j=some (.frz v)
theorem Frz.refl{H:Hp}:Frz H H:=⟨rfl,fun zz=>.inl rfl⟩
theorem Frz.trans{H H1 H2:Hp}(a:Frz H H1)(b:Frz H1 H2):Frz H H2:=⟨b.len.trans a.len,fun j=>(b.cells j).elim (fun e=>e▸a.cells j) .inr⟩
theorem Frz.set{H H1:Hp}(a:Frz H H1){i:Nat}{o:O}(e:cell H1 i=some o)(v:V):Frz H (setC H1 i (.frz v)):=
  a.trans ⟨setC_length ..,fun j=>(Decidable.em (j=i)).elim (fun h=>.inr ⟨v,by rw[h];exact cell_set_same e⟩) fun h=>.inl (cell_set_ne _ h)⟩
theorem Frz.get{H H1:Hp}(a:Frz H H1){i:Nat}{o:O}(e:cell H i=some o):∃ o',cell H1 i=some o':=(a.cells i).elim (fun h=>⟨o,h.trans e⟩) fun h=>h.imp' _ fun zz=>id
theorem Frz.owned{H H1:Hp}(a:Frz H H1){ρ:List Foot}{b:Addr}(h:b∈owned H1 ρ):b∈owned H ρ:=by
  obtain⟨j,o,f,h1,h2,h3⟩:=owned_inv h
  rcases a.cells j with e|⟨v,e⟩
  · exact owned_mem (e▸h1) h2 h3
  · cases h1.symm.trans e;cases h3
section
variable{X:Wd}{Z:Addr→Prop}{s:Shared}{ρ:List Foot}{H:Hp}
theorem Frz.kp{H1:Hp}(a:Frz H H1):Keep s.heap (Mut Z H ρ) s.heap (Mut Z H1 ρ):=fun zz zz e n=>⟨fun q=>n (q.imp id a.owned),e⟩
theorem Frz.to(σ:Cg X Z){H1:Hp}(a:Frz σ.H H1)(I:Inv X Z σ.s σ.ρ H1):To σ ⟨σ.s,σ.ρ,H1,I⟩:=⟨List.prefix_rfl,fun zz zz e zz zz=>e,fun zz q=>.inl (a.owned q),Nat.le_refl _,rfl,rfl⟩
theorem Frz.free{H1:Hp}(I:Inv X Z s ρ H)(a:Frz H H1){i:Nat}{o o1:O}{f:Foot}(e:cell H i=some o)(hf:ρ[i]?=some f)(e1:cell H1 i=some o1)(v:V){b:Addr}(hb:b∈ownOf o f):¬Mut Z (setC H1 i (.frz v)) ρ b:=by
  rintro(z|q)
  · exact(I.apart b (owned_mem e hf hb)).2 z
  · obtain⟨j,o',f',h1,h2,h3⟩:=owned_inv q
    by_cases hj:j=i
    · subst hj
      cases(cell_set_same e1).symm.trans h1;cases h3
    · rw[cell_set_ne _ hj]at h1
      rcases a.cells j with e2|⟨u,e2⟩
      · exact owned_apart I.nodup e hf (e2▸h1) h2 (fun q=>hj q.symm) hb h3
      · cases h1.symm.trans e2;cases h3
structure FrzTo(X:Wd)(Z:Addr→Prop)(s:Shared)(ρ:List Foot)(H H':Hp):Prop where
  inv:Inv X Z s ρ H'
  frz:Frz H H'
def FrzV{X:Wd}{Z:Addr→Prop}(σ:Cg X Z)(x:Value)(u:V)(H':Hp):Prop:=FrzTo X Z σ.s σ.ρ σ.H H'∧VR X σ.s.heap (Mut Z H' σ.ρ) u [] x
def FrzVs{X:Wd}{Z:Addr→Prop}(σ:Cg X Z)(xs:List Value)(us:List V)(H':Hp):Prop:=FrzTo X Z σ.s σ.ρ σ.H H'∧VRs X σ.s.heap (Mut Z H' σ.ρ) us [] xs
def FrzOk(X:Wd)(f:V→Hp→Res V):Prop:=∀ {Z:Addr→Prop} (σ:Cg X Z) {v u:V} {H':Hp} {x:Value},f v σ.H=some (u,H')→σ.vr v x→FrzV σ x u H'
theorem each_ok{f:V→Hp→Res V}(hf:FrzOk X f)(σ:Cg X Z){vs us:List V}{H':Hp}{xs:List Value}(e:eachS f vs σ.H=some (us,H'))(r:σ.vrs vs xs):FrzVs σ xs us H':=by
  induction vs generalizing σ us xs H' with
  | nil=>exact pr (P:=FrzVs σ xs) e ⟨⟨σ.I,Frz.refl⟩,r⟩
  | cons v vs ih=>
    cases xs with
    | nil=>exact r.elim
    | cons x xs=>
      obtain⟨a,H1,h1,e⟩:=b2_inv e
      obtain⟨b,H2,h2,e⟩:=b2_inv e
      exact pr e (let p:=hf σ h1 r.1;let q:=ih (⟨σ.s,σ.ρ,H1,p.1.inv⟩:Cg X Z) h2 (r.2.mono p.1.frz.kp List.prefix_rfl);⟨⟨q.1.inv,p.1.frz.trans q.1.frz⟩,p.2.mono q.1.frz.kp List.prefix_rfl,q.2⟩)
theorem freeze(σ:Cg X Z){i:Nat}{o:O}{f:Foot}(hc:cell σ.H i=some o)(hf:σ.ρ[i]?=some f){v:V}{H1:Hp}(p:FrzTo X Z σ.s σ.ρ σ.H H1)
    (c:Keep σ.s.heap (Mut Z H1 σ.ρ) σ.s.heap (Mut Z (setC H1 i (.frz v)) σ.ρ)→(∀ b∈ownOf o f,¬Mut Z (setC H1 i (.frz v)) σ.ρ b)→VR X σ.s.heap (Mut Z (setC H1 i (.frz v)) σ.ρ) v [] (.ref f.a)) :
    FrzV σ (.ref f.a) v (setC H1 i (.frz v)):=by
  obtain⟨o1,e1⟩:=p.frz.get hc
  have g:=fun kp=>c kp fun b hb=>p.frz.free σ.I hc hf e1 v hb
  exact⟨⟨((⟨σ.s,σ.ρ,H1,p.inv⟩:Cg X Z).set (.frz v) e1 hf σ.s.heap σ.s.toks (fun zz zz e zz=>e) (Nat.le_refl _) (List.nil_sublist _) g).I,p.frz.set e1 v⟩,g (Frz.kp (Frz.refl.set e1 v))⟩
theorem frz_ok(n:Nat):FrzOk X (frz n):=by
  induction n with
  | zero=>exact fun zz zz zz zz zz e=>nn e
  | succ n ih=>
    intro Z σ v u H' x e r
    cases v with
    | undef=>exact nn e
    | tup vs=>
      obtain⟨us,H1,h1,e⟩:=b2_inv e
      exact pr e (Is.el (Q:=fun x=>FrzV σ x (.tup us) H1) r fun a np l=>l.el fun xs hl h2 q=>
        let p:=each_ok ih σ h1 q;⟨p.1,.mk (fun m=>np (m.imp id p.1.frz.owned)) (.mk (p.2.length.trans q.length.symm▸hl) h2 p.2)⟩)
    | ref i=>
      obtain⟨o,hc,e⟩:=bx_inv e
      refine σ.at_ (Q:=fun x=>FrzV σ x u H') r hc fun f hf cr=>?_
      cases o with
      | list vs=>
        obtain⟨us,H1,h1,e⟩:=b2_inv e
        exact pr e (LstAt.el cr fun xs m hl h2 q=>let p:=each_ok ih σ h1 q;freeze σ hc hf p.1 fun kp fr=>.mk (fr _ (.head _)) (.mk (p.2.length.trans q.length.symm▸hl) h2 (p.2.mono kp List.prefix_rfl)))
      | dict ks vs=>
        obtain⟨us,H1,h1,e⟩:=b2_inv e
        exact pr e (DctAt.el cr fun kvs h2 q=>let p:=each_ok ih σ h1 q;freeze σ hc hf p.1 fun kp fr=>.mk (fr _ (.head _)) (.mk h2 (p.2.mono kp List.prefix_rfl)))
      | inst c vs=>
        obtain⟨us,H1,h1,e⟩:=b2_inv e
        exact pr e (InsAt.el cr.2 fun C es m h2 q=>let p:=each_ok ih σ h1 q;freeze σ hc hf p.1 fun kp fr=>.mk (fr _ (.head _)) (.mk (fr _ (.tail _ (.head _))) (.mk h2 (p.2.mono kp List.prefix_rfl))))
      | frz v=>exact pr e ⟨⟨σ.I,Frz.refl⟩,cr⟩
      | lock vs=>exact nn e
    | _=>exact pr e ⟨⟨σ.I,Frz.refl⟩,r⟩
end
section
variable{X:Wd}{Z:Addr→Prop}{A:Around}{w:V×Hp}{σ:Cg X Z}{K:KV}
theorem frzK_eq(v:V)(H:Hp)(K:KV):frzK v H K=b2 (frz 8 v H) K:=by cases v<;>rfl
theorem frzK_ok{v:V}{x:Value}(r:σ.vr v x)(e:frzK v σ.H K=some w){C:Prop}(q:∀ (τ:Cg X Z) u,τ.s=σ.s→To σ τ→τ.fr u x→K u τ.H=some w→C):C:=by
  rw[frzK_eq]at e
  obtain⟨u,H',h,e⟩:=b2_inv e
  have p:=frz_ok 8 σ h r
  exact q ⟨σ.s,σ.ρ,H',p.1.inv⟩ u rfl (p.1.frz.to σ p.1.inv) p.2 e
end
end Mine
end
section
namespace Mine
open PySem PySem.W PySem.Calls PyProof.Rows
def With(Z T:Addr→Prop):Addr→Prop:=fun a=>Z a∨T a
structure News(s:Shared)(h':Heap)(T:Addr→Prop):Prop where
  old:∀ b o,s.heap.get? b=some o→h'.get? b=some o
  size:s.heap.objs.size≤h'.objs.size
  lo:∀ a,T a→s.heap.objs.size≤a
  hi:∀ a,T a→a<h'.objs.size
theorem News.no{s:Shared}{h':Heap}{T:Addr→Prop}(n:News s h' T){b:Addr}{o:Obj}(e:s.heap.get? b=some o):¬T b:=fun z=>Nat.not_lt.mpr (n.lo b z) (Heap.lt_size e)
theorem news1{s:Shared}{o:Obj}:News s (s.heap.push o) (fun a=>a=s.heap.objs.size):=
  ⟨push_old,push_size,fun zz h=>Nat.le_of_eq h.symm,fun a h=>by rw[Heap.size_push];exact(show a=s.heap.objs.size from h)▸Nat.lt_succ_self _⟩
section
variable{X:Wd}{Z Z' T F G:Addr→Prop}{σ:Cg X Z}{h' h₂:Heap}{t t':Nat}
theorem News.keep{s:Shared}{ρ:List Foot}{H:Hp}(n:News s h' T):Keep s.heap (Mut Z H ρ) h' (Mut (With Z T) H ρ):=fun zz o e m=>⟨fun q=>q.elim (fun q=>q.elim (fun q=>m (.inl q)) (n.no e)) fun q=>m (.inr q),n.old _ o e⟩
noncomputable def Cg.widen (σ:Cg X Z) (n:News σ.s h' T) (t:Nat):Cg X (With Z T) where
  s:={ σ.s with heap:=h',toks:=t }
  ρ:=σ.ρ
  H:=σ.H
  I:={
    len:=σ.I.len
    cells:=fun i o f a b=>(σ.I.cells i o f a b).mono n.keep (fun b o e zz=>n.old b o e) List.prefix_rfl
    nodup:=σ.I.nodup
    base:=fun b o e=>n.old _ _ (σ.I.base b o e)
    apart:=fun a q=>⟨(σ.I.apart a q).1,fun z=>z.elim (σ.I.apart a q).2 fun z=>Nat.not_lt.mpr (n.lo a z) (σ.I.owned_lt q)⟩
    size:=Nat.le_trans σ.I.size n.size
    zlow:=fun a z=>z.elim (fun z=>Nat.lt_of_lt_of_le (σ.I.zlow a z) n.size) (n.hi a)
    znew:=fun a z=>z.elim (σ.I.znew a) fun z=>by
      cases e:X.h₀.get? a with
      | none=>rfl
      | some o=>exact absurd (Nat.lt_of_lt_of_le (Heap.lt_size e) σ.I.size) (Nat.not_lt.mpr (n.lo a z)) }
abbrev ToF(F:Addr→Prop)(σ τ:Cg X Z):Prop:=StepF F σ.s σ.ρ σ.H τ.s τ.ρ τ.H
theorem ToF.vr{σ τ:Cg X Z}(t:ToF F σ τ)(f:∀ b,F b→Z b){v x}(r:σ.vr v x):τ.vr v x:=r.mono (StepF.kp t f) t.ext
theorem ToF.vrs{σ τ:Cg X Z}(t:ToF F σ τ)(f:∀ b,F b→Z b){v x}(r:σ.vrs v x):τ.vrs v x:=r.mono (StepF.kp t f) t.ext
theorem StepF.loose{s s₁:Shared}{ρ ρ₁:List Foot}{H H₁:Hp}(st:StepF F s ρ H s₁ ρ₁ H₁)(h:∀ a,F a→G a):StepF G s ρ H s₁ ρ₁ H₁:=⟨st.ext,fun b o e n f=>st.keep b o e n fun q=>f (h b q),st.new,st.size,st.gens,st.os⟩
theorem News.apart(n:News σ.s h' T){τ:Cg X (With Z T)}{a:Addr}(h:T a):X.h₀.get? a=none∧a ∉ owned τ.H τ.ρ∧¬Z a:=
  ⟨τ.I.znew a (.inr h),fun q=>(τ.I.apart a q).2 (.inr h),fun z=>Nat.not_lt.mpr (n.lo a h) (σ.I.zlow a z)⟩
theorem back_keep{s:Shared}{ρ:List Foot}{H:Hp}(k:∀ b o,s.heap.get? b=some o→¬T b→h₂.get? b=some o):Keep s.heap (Mut (With Z T) H ρ) h₂ (Mut Z H ρ):=
  fun b o q m=>⟨fun z=>m (z.imp .inl id),k b o q fun z=>m (.inl (.inr z))⟩
noncomputable def Cg.leave (σ:Cg X Z) (n:News σ.s h' T) (τ:Cg X (With Z T)) (h₂:Heap) (t':Nat) (k:∀ b o,τ.s.heap.get? b=some o→¬T b→h₂.get? b=some o) (sz:τ.s.heap.objs.size≤h₂.objs.size):Cg X Z where
  s:={ τ.s with heap:=h₂,toks:=t' }
  ρ:=τ.ρ
  H:=τ.H
  I:={
    len:=τ.I.len
    cells:=fun i o f a b=>(τ.I.cells i o f a b).mono (back_keep k) (fun b o q m=>k b o q fun z=>(n.apart (τ:=τ) z).2.1 (owned_mem ‹cell τ.H i=some _› ‹τ.ρ[i]?=some _› m)) List.prefix_rfl
    nodup:=τ.I.nodup
    base:=fun b o e=>k b o (τ.I.base b o e) fun z=>Option.some_ne_none _ (e.symm.trans (n.apart (τ:=τ) z).1)
    apart:=fun a q=>⟨(τ.I.apart a q).1,fun z=>(τ.I.apart a q).2 (.inl z)⟩
    size:=Nat.le_trans τ.I.size sz
    zlow:=fun a z=>Nat.lt_of_lt_of_le (τ.I.zlow a (.inl z)) sz
    znew:=σ.I.znew }
theorem ToF.leave(n:News σ.s h' T){τ:Cg X (With Z T)}(st:ToF F (σ.widen n t) τ)(hF:∀ b,F b→σ.s.heap.objs.size≤b∨G b){k sz}:ToF G σ (σ.leave n τ h₂ t' k sz) where
  ext:=st.ext
  keep:=fun b o e q g=>k b o (st.keep b o (n.old b o e) q fun z=>(hF b z).elim (fun z=>Nat.not_lt.mpr z (Heap.lt_size e)) g) (n.no e)
  new:=fun a q=>(st.new a q).imp id fun q=>Nat.le_trans n.size q
  size:=Nat.le_trans n.size (Nat.le_trans st.size sz)
  gens:=st.gens
  os:=st.os
noncomputable def Cg.adopt (σ:Cg X Z) (n:News σ.s h' T) (τ:Cg X (With Z T)) (h₂:Heap) (t':Nat) (k:∀ b o,τ.s.heap.get? b=some o→¬T b→h₂.get? b=some o) (sz:τ.s.heap.objs.size≤h₂.objs.size)
    (o:O) (f:Foot) (own:∀ a∈ownOf o f,T a) (nd:(ownOf o f).Nodup) (c:Keep τ.s.heap τ.P h₂ (Mut Z (τ.H++[o]) (τ.ρ++[f]))→CellR X h₂ (Mut Z (τ.H++[o]) (τ.ρ++[f])) (τ.ρ++[f]) o f):Cg X Z where
  s:={ τ.s with heap:=h₂,toks:=t' }
  ρ:=τ.ρ++[f]
  H:=τ.H++[o]
  I:={
    len:=by rw[List.length_append,List.length_append,τ.I.len];rfl
    cells:=fun j b g h1 h2=>by
      have kp:Keep τ.s.heap τ.P h₂ (Mut Z (τ.H++[o]) (τ.ρ++[f])):=fun b ob q m=>⟨fun z=>m (z.elim (fun z=>.inl (.inl z)) fun z=>by
        rw[owned_append τ.I.len]at z
        exact(List.mem_append.mp z).elim .inr fun z=>.inl (.inr (own b z))),k b ob q fun z=>m (.inl (.inr z))⟩
      rw[cell_eq]at h1
      by_cases hj:j<τ.H.length
      · rw[List.getElem?_append_left hj,←cell_eq]at h1
        rw[List.getElem?_append_left (τ.I.len▸hj)]at h2
        exact(τ.I.cells j b g h1 h2).mono kp (fun a ob q m=>k a ob q fun z=>(n.apart (τ:=τ) z).2.1 (owned_mem h1 h2 m)) (List.prefix_append _ _)
      · have hj:=Nat.not_lt.mp hj
        rw[List.getElem?_append_right hj]at h1
        rw[List.getElem?_append_right (τ.I.len▸hj),τ.I.len]at h2
        revert h1 h2
        cases j - τ.H.length with
        | zero=>intro h1 h2;cases h1;cases h2;exact c kp
        | succ m=>intro h1;cases h1
    nodup:=by
      rw[owned_append τ.I.len,List.nodup_append]
      exact⟨τ.I.nodup,nd,fun a ha b hb e=>(n.apart (τ:=τ) (own b hb)).2.1 (e▸ha)⟩
    base:=fun b o e=>k b o (τ.I.base b o e) fun z=>Option.some_ne_none _ (e.symm.trans (n.apart (τ:=τ) z).1)
    apart:=fun a q=>by
      rw[owned_append τ.I.len]at q
      exact(List.mem_append.mp q).elim (fun q=>⟨(τ.I.apart a q).1,fun z=>(τ.I.apart a q).2 (.inl z)⟩) fun q=>let p:=n.apart (τ:=τ) (own a q);⟨p.1,p.2.2⟩
    size:=Nat.le_trans τ.I.size sz
    zlow:=fun a z=>Nat.lt_of_lt_of_le (τ.I.zlow a (.inl z)) sz
    znew:=σ.I.znew }
theorem To.adopt(n:News σ.s h' T){τ:Cg X (With Z T)}(st:To (σ.widen n t) τ){k sz o f own nd c}:To σ (σ.adopt n τ h₂ t' k sz o f own nd c) where
  ext:=st.ext.trans (List.prefix_append _ _)
  keep:=fun b o e q zz=>k b o (st.keep b o (n.old b o e) q id) (n.no e)
  new:=fun a q=>by
    rw[show(σ.adopt n τ h₂ t' k sz o f own nd c).H=τ.H++[o]from rfl,show(σ.adopt n τ h₂ t' k sz o f own nd c).ρ=τ.ρ++[f]from rfl,owned_append τ.I.len]at q
    exact(List.mem_append.mp q).elim (fun q=>(st.new a q).imp id fun q=>Nat.le_trans n.size q) fun q=>.inr (n.lo a (own a q))
  size:=Nat.le_trans n.size (Nat.le_trans st.size sz)
  gens:=st.gens
  os:=st.os
noncomputable def Cg.zone (σ:Cg X Z) (h':Heap) (t:Nat) (hF:∀ a,F a→Z a) (k:∀ b o,σ.s.heap.get? b=some o→¬F b→h'.get? b=some o) (sz:σ.s.heap.objs.size≤h'.objs.size):Cg X Z where
  s:={ σ.s with heap:=h',toks:=t }
  ρ:=σ.ρ
  H:=σ.H
  I:={
    len:=σ.I.len
    cells:=fun i o f a b=>(σ.I.cells i o f a b).mono (fun b o q m=>⟨m,k b o q fun z=>m (.inl (hF b z))⟩) (fun b o q m=>k b o q fun z=>(σ.I.apart b (owned_mem ‹cell σ.H i=some _› ‹σ.ρ[i]?=some _› m)).2 (hF b z)) List.prefix_rfl
    nodup:=σ.I.nodup
    base:=fun b o e=>k b o (σ.I.base b o e) fun z=>Option.some_ne_none _ (e.symm.trans (σ.I.znew b (hF b z)))
    apart:=σ.I.apart
    size:=Nat.le_trans σ.I.size sz
    zlow:=fun a z=>Nat.lt_of_lt_of_le (σ.I.zlow a z) sz
    znew:=σ.I.znew }
theorem ToF.zone{hF k sz}:ToF F σ (σ.zone (F:=F) h' t hF k sz):=⟨List.prefix_rfl,fun b o e zz nf=>k b o e nf,fun zz q=>.inl q,sz,rfl,rfl⟩
theorem shrink_keep{h:Heap}{H:Hp}{ρ:List Foot}(k:∀ a,Z' a→Z a):Keep h (Mut Z H ρ) h (Mut Z' H ρ):=fun b zz e n=>⟨fun q=>n (q.imp (k b) id),e⟩
def Cg.shrink(σ:Cg X Z)(h:∀ a,Z' a→Z a):Cg X Z':=⟨σ.s,σ.ρ,σ.H,{
  len:=σ.I.len
  cells:=fun i o f a b=>(σ.I.cells i o f a b).mono (shrink_keep h) (fun zz zz e zz=>e) List.prefix_rfl
  nodup:=σ.I.nodup
  base:=σ.I.base
  apart:=fun a q=>⟨(σ.I.apart a q).1,fun z=>(σ.I.apart a q).2 (h a z)⟩
  size:=σ.I.size
  zlow:=fun a z=>σ.I.zlow a (h a z)
  znew:=fun a z=>σ.I.znew a (h a z) }⟩
def Cg.pure(σ:Cg X Z):Cg X σ.P:=⟨σ.s,[],[],{
  len:=rfl
  cells:=fun i o f a=>nn a
  nodup:=.nil
  base:=σ.I.base
  apart:=fun zz q=>nomatch q
  size:=σ.I.size
  zlow:=fun a z=>z.elim (σ.I.zlow a) σ.I.owned_lt
  znew:=fun a z=>z.elim (σ.I.znew a) fun q=>(σ.I.apart a q).1 }⟩
theorem pure_keep:Keep σ.s.heap σ.P σ.s.heap (Mut σ.P [] []):=fun zz zz e n=>⟨fun q=>q.elim n (fun q=>nomatch q),e⟩
def Cg.unpure(σ:Cg X Z)(τ:Cg X σ.P)(t:To σ.pure τ):Cg X Z:=⟨τ.s,σ.ρ,σ.H,{
  len:=σ.I.len
  cells:=fun i o f a b=>(σ.I.cells i o f a b).mono (fun b o e n=>⟨n,t.keep b o e (fun q=>nomatch q) id⟩) (fun b o e zz=>t.keep b o e (fun q=>nomatch q) id) List.prefix_rfl
  nodup:=σ.I.nodup
  base:=τ.I.base
  apart:=σ.I.apart
  size:=τ.I.size
  zlow:=fun a z=>τ.I.zlow a (.inl z)
  znew:=σ.I.znew }⟩
theorem To.unpure{τ:Cg X σ.P}(t:To σ.pure τ):To σ (σ.unpure τ t):=⟨List.prefix_rfl,fun b o e zz zz=>t.keep b o e (fun q=>nomatch q) id,fun zz q=>.inl q,t.size,t.gens,t.os⟩
theorem unpure_vr{τ:Cg X σ.P}(t:To σ.pure τ){v:V}{x:Value}(r:τ.fr v x):(σ.unpure τ t).vr v x:=r.mono (fun zz zz e n=>⟨fun q=>n (.inl q),e⟩) List.nil_prefix
end
end Mine
end
section
set_option genInjectivity false
set_option genSizeOf false
namespace Mine
open PySem PySem.W PySem.Calls PyProof.Rows
structure WdOk(X:Wd)(cx:Cx):Prop where
  kin:X.K.In X.h₀
  cls:∀ c C,X.cls c=some C→ClsOk X c C
  txt:∀ x n,idx x cx.«strL» = some n→X.S n=some x
  names:∀ x n,idx x cx.names=some n→X.N n=some x
  mg:∃ mg,X.h₀.Ns mainGlobals mg
  mb:∃ mb,X.h₀.Ns builtinsNs mb∧∀ x v,x≠("__name__" : Str)→bootBuiltins x=some v→mb x=some v
  csts:∀ x g v,idx x cx.csts=some g→X.T.csts g=some v→∃ y,nsIn X.K mainGlobals x=some (some y)∧VR X X.h₀ (fun a=>X.h₀.get? a=none) v [] y
  fns:∀ x k,cx.tops.contains x=true→idx x cx.fns=some k→∃ a,nsIn X.K mainGlobals x=some (some (.ref a))∧X.fn k=some a
  clss:∀ x k,idx x cx.clss=some k→∃ C,nsIn X.K mainGlobals x=some (some (.ref C))∧X.cls k=some C
  bis:∀ x:Str,(x = "len"∨x = "list"∨x = "dict"∨x = "max"∨x = "sorted"∨x = "int"∨x = "range"∨x = "enumerate"∨x = "zip"∨x = "isinstance"∨x = "bool")→nsIn X.K mainGlobals x=some none
  keep:∀ k a,X.fn k=some a→keepIn X.K (.ref a)=true
  keepC:∀ k C,X.cls k=some C→keepIn X.K (.ref C)=true
  meths:X.N 0=some "append"∧X.N 1=some "pop"∧X.N 2=some "extend"∧X.N 3=some "index"∧X.N 4=some "get"
structure EnvOk(env:Env)(B:Bk):Prop where
  kind:env.scope.kind=.function
  names:∀ x k,B.scope.names.lookup x=some k→env.kindOf x=some k∨(k=.free∧env.kindOf x=some .cell)
  glob:env.globals=mainGlobals
  blt:env.builtins=builtinsNs
def IsC(B:Bk)(x:Str):Prop:=B.scope.names.lookup x=some .cell∨B.scope.names.lookup x=some .free
def CelAt(X:Wd){Z:Addr→Prop}(σ:Cg X Z)(env:Env)(x:Str)(v:V):Prop:=
  ∃ c ov,env.cells.lookup x=some c∧Z c∧X.h₀.get? c=none∧σ.s.heap.IsCell c ov∧(v≠.undef→∃ y,ov=some y∧σ.vr v y)
structure Frm(X:Wd)(env:Env)(B:Bk){Z:Addr→Prop}(σ:Cg X Z)(loc:List V):Prop where
  ns:∃ m,σ.s.heap.Ns env.locals m∧∀ x i,B.slots.lookup x=some i→B.scope.names.lookup x=some .local→slot loc i≠.undef→∃ v,m x=some v∧σ.vr (slot loc i) v
  cells:∀ x i,B.slots.lookup x=some i→IsC B x→CelAt X σ env x (slot loc i)
  zl:Z env.locals
  inj:∀ x y c,IsC B x→IsC B y→B.slots.lookup x≠none→B.slots.lookup y≠none→env.cells.lookup x=some c→env.cells.lookup y=some c→x=y
  sinj:∀ x y i,B.slots.lookup x=some i→B.slots.lookup y=some i→x=y
  len:loc.length=B.size
  slt:∀ x i,B.slots.lookup x=some i→i<B.size
section
variable{X:Wd}{env:Env}{B:Bk}{Z F:Addr→Prop}{σ τ:Cg X Z}{loc:List V}
theorem Frm.zc(f:Frm X env B σ loc){x:Str}{i:Nat}{c:Addr}(h1:B.slots.lookup x=some i)(h2:IsC B x)(h3:env.cells.lookup x=some c):Z c:=
  (f.cells x i h1 h2).elim fun c' h=>h.elim fun ov h=>(Option.some.inj (h3.symm.trans h.1))▸h.2.1
theorem Frm.apart(f:Frm X env B σ loc)(t:ToF F σ τ)(hF:∀ a,F a→Z a)(hl:¬F env.locals)(hc:∀ x i c,B.slots.lookup x=some i→IsC B x→env.cells.lookup x=some c→¬F c):Frm X env B τ loc where
  ns:=f.ns.imp fun m h=>⟨h.1.imp fun o=>Exists.imp fun es=>Exists.imp fun ep h=>⟨t.keep _ _ h.1 (fun q=>(σ.I.apart _ q).2 f.zl) hl,h.2⟩,fun x i h1 h2 h3=>(h.2 x i h1 h2 h3).imp fun v h=>⟨h.1,ToF.vr t hF h.2⟩⟩
  cells:=fun x i h1 h2=>(f.cells x i h1 h2).imp fun c=>Exists.imp fun ov h=>⟨h.1,h.2.1,h.2.2.1,h.2.2.2.1.imp fun o q=>⟨t.keep _ _ q.1 (fun q=>(σ.I.apart _ q).2 h.2.1) (hc x i c h1 h2 h.1),q.2⟩,fun q=>(h.2.2.2.2 q).imp fun v h=>⟨h.1,ToF.vr t hF h.2⟩⟩
  zl:=f.zl
  inj:=f.inj
  sinj:=f.sinj
  len:=f.len
  slt:=f.slt
theorem Frm.to(f:Frm X env B σ loc)(t:To σ τ):Frm X env B τ loc:=f.apart t (fun zz h=>h.elim) id fun zz zz zz zz zz zz=>id
end
section
variable(X:Wd)(A:Around)(C:Orc)(env:Env)(B:Bk)
def Kt{X:Wd}{Z:Addr→Prop}(σ:Cg X Z)(K:Bool→Hp→Rs)(w:V×Hp)(Q:Bool→Shared→Prop):Prop:=∀ τ b,To σ τ→K b τ.H=some w→Q b τ.s
def Kl{X:Wd}{Z:Addr→Prop}(σ:Cg X Z)(K:KL)(w:V×Hp)(Q:List Value→Shared→Prop):Prop:=∀ τ vs xs,To σ τ→τ.vrs vs xs→K vs τ.H=some w→Q xs τ.s
def PE(e:PySem.Expr)(ex:Ex):Prop:=∀ {Z} (σ:Cg X Z) {loc K w Q E},evK X.T C ex loc σ.H K=some w→Frm X env B σ loc→Kv σ K w Q→wpAny (model X.prog X.w) A (eval e env) Q E σ.s
def PT(e:PySem.Expr)(ex:Ex):Prop:=∀ {Z} (σ:Cg X Z) {loc K w Q E},evK X.T C ex loc σ.H (fun v H=>bx (truth v) fun b=>K b H)=some w→Frm X env B σ loc→Kt σ K w Q→wpAny (model X.prog X.w) A (isTrue e env (eval e env)) Q E σ.s
def PEs(es:List PySem.Expr)(exs:List Ex):Prop:=∀ {Z} (σ:Cg X Z) {pos loc K w Q E},evEs X.T C exs loc σ.H K=some w→Frm X env B σ loc→Kl σ K w Q→wpAny (model X.prog X.w) A (spliced (backTo pos (starEach es env))) Q E σ.s
end
section
variable{X:Wd}{A:Around}{C:Orc}{env:Env}{B:Bk}{cx:Cx}
theorem PE.none{k pos}:PE X A C env B (.Constant .none k pos) .none:=fun zz zz zz zz zz zz ev zz q=>Constant_none (q.here (v:=.none) rfl ev)
theorem PE.bool{b k pos}:PE X A C env B (.Constant (.bool b) k pos) (.bool b):=fun zz zz zz zz zz zz ev zz q=>Constant_bool (q.here (v:=.bool b) rfl ev)
theorem PE.int{i k pos}:PE X A C env B (.Constant (.int i) k pos) (.int i):=fun zz zz zz zz zz zz ev zz q=>wpAny_Constant_int (q.tok (v:=.int i) ⟨_,rfl⟩ ev)
theorem PE.str{x n k pos}(h:X.S n=some x):PE X A C env B (.Constant (.str x) k pos) (.str n):=fun zz zz zz zz zz zz ev zz q=>Calls.Constant_str (q.tok (v:=.str n) ⟨_,_,h,rfl⟩ ev)
theorem slotV_inv{v:V}{k:V→Rs}{w:V×Hp}(e:bx (slotV v) k=some w):v≠.undef∧k v=some w:=by
  cases v with
  | undef=>exact nn e
  | _=>exact⟨nofun,e⟩
theorem isOwn_inv{x:Str}{i:Nat}(h:isOwn B x=some i):B.slots.lookup x=some i∧(B.scope.names.lookup x=some .local∨IsC B x):=by
  unfold isOwn at h
  unfold IsC
  cases e:B.scope.names.lookup x with
  | none=>rw[e]at h;exact nn h
  | some k=>
    rw[e]at h
    cases k with
    | «local»=>exact⟨h,.inl rfl⟩
    | cell=>exact⟨h,.inr (.inl rfl)⟩
    | free=>exact⟨h,.inr (.inr rfl)⟩
    | _=>exact nn h
theorem PE.var(hE:EnvOk env B){x:Str}{i:Nat}{pos}(h:isOwn B x=some i)(hd:x≠("__debug__" : Str)) (hc:x≠("__classdict__" : Str)):PE X A C env B (.Name x pos) (.var i):=fun σ zz K w Q E ev F q=>by
  obtain⟨h0,ev⟩:=slotV_inv ev
  obtain⟨hi,hk⟩:=isOwn_inv h
  refine wpAny_Name ?_ (beq_eq_false_iff_ne.mpr hd)
  have fin:∀ {y},σ.vr _ y→Q y σ.s:=fun r=>q.here (σ.view r) ev
  rcases hk with hk|hk
  · obtain⟨m,hm,hv⟩:=F.ns
    obtain⟨y,hy,ry⟩:=hv x i hi hk h0
    rcases hE.names x _ hk with e|⟨e,_⟩
    · exact wpAny_loadName_local hE.kind e hm hy (fin ry)
    · cases e
  · obtain⟨c,ov,hl,_,_,hcell,hv⟩:=F.cells x i hi hk
    obtain⟨y,rfl,ry⟩:=hv h0
    have cell:=fun (e:env.kindOf x=some .cell)=>wpAny_loadName_cell (M:=model X.prog X.w) (A:=A) (E:=E) hE.kind e hl hcell (fin ry)
    rcases hk with hk|hk
    · rcases hE.names x _ hk with e|⟨e,_⟩
      · exact cell e
      · cases e
    · rcases hE.names x _ hk with e|⟨_,e⟩
      · exact wpAny_loadName_free hE.kind e hl hcell (fin ry) (beq_eq_false_iff_ne.mpr hc)
      · exact cell e
theorem glob_at(hE:EnvOk env B){x:Str}(h:isGlob B x=true):env.kindOf x=some .globalImplicit:=
  (hE.names x _ (of_decide_eq_true ((Bool.and_eq_true _ _).mp h).1)).elim id fun e=>NameKind.noConfusion e.1
variable{Z:Addr→Prop}{σ:Cg X Z}{Q:Value→Shared→Prop}{E:Value→Shared→Prop}
theorem global_ok(W:WdOk X cx)(hE:EnvOk env B){x:Str}{pos}{y:Value}(h:isGlob B x=true)(hd:x≠("__debug__" : Str)) (hy:nsIn X.K mainGlobals x=some (some y)) (q:Q y σ.s) :
    wpAny (model X.prog X.w) A (eval (.Name x pos) env) Q E σ.s:=by
  obtain⟨mg,hg⟩:=W.mg
  exact Calls.Name_function_global hE.kind (glob_at hE h) (Calls.loadGlobal_global (by rw[hE.glob];exact hg.keeps σ.I.base) (mg_of W.kin hg hy) q) (beq_eq_false_iff_ne.mpr hd)
theorem builtin_ok(W:WdOk X cx)(hE:EnvOk env B){x:Str}{pos}{y:Value}(h:isGlob B x=true)(hd:x≠("__debug__" : Str)) (hn:x≠("__name__" : Str)) (hy:nsIn X.K mainGlobals x=some none) (hb:bootBuiltins x=some y) (q:Q y σ.s) :
    wpAny (model X.prog X.w) A (eval (.Name x pos) env) Q E σ.s:=by
  obtain⟨mg,hg⟩:=W.mg
  obtain⟨mb,hmb,hbb⟩:=W.mb
  exact Calls.Name_function_global hE.kind (glob_at hE h) (Calls.loadGlobal_builtin (by rw[hE.glob];exact hg.keeps σ.I.base) (mg_none_of W.kin hg hy) (by rw[hE.blt];exact hmb.keeps σ.I.base) (hbb x y hn hb) q) (beq_eq_false_iff_ne.mpr hd)
theorem base_keep:Keep X.h₀ (fun a=>X.h₀.get? a=none) σ.s.heap σ.P:=fun b o e n=>⟨fun q=>n (q.elim (σ.I.znew b) fun q=>(σ.I.apart b q).1),σ.I.base b o e⟩
theorem PE.cst(W:WdOk X cx)(hE:EnvOk env B){x:Str}{g:Nat}{pos}(h:isGlob B x=true)(hd:x≠("__debug__" : Str)) (hi:idx x cx.csts=some g):PE X A C env B (.Name x pos) (.cst g):=fun σ zz K w Q zz ev F q=>by
  obtain⟨v,hv,ev⟩:=bx_inv ev
  obtain⟨y,hy,ry⟩:=W.csts x g v hi hv
  exact global_ok W hE h hd hy (q.here (ry.mono base_keep List.nil_prefix) ev)
theorem PE.bin{op:Bop}{l r:PySem.Expr}{a b:Ex}{pos}(hl:PE X A C env B l a)(hr:PE X A C env B r b):PE X A C env B (.BinOp l (opOf op) r pos) (.bin op a b):=fun σ zz zz zz zz zz ev F q=>
  wpAny_BinOp (hl σ ev F fun τ zz zz t ra ev=>hr τ ev (F.to t) fun υ zz zz t' rb ev=>bin_ok (t'.vr ra) rb ev (q.from (t.trans t')).kn)
def notSet:PySem.Expr→Bool
  | .Set ..=>false
  | _=>true
theorem notSet_marks{op:CmpOp}{e:PySem.Expr}(h:notSet e=true):behindInMarks op e=false:=by
  cases e with
  | Set=>cases h
  | _=>rfl
theorem notSet_folded{e:PySem.Expr}(h:notSet e=true)(env:Env)(x:Value):foldedSetIterable e env x=pure x:=by
  cases e with
  | Set=>cases h
  | _=>rfl
theorem PE.cmp{d:Nat}(room:Room A d){op:CmpOp}{l r:PySem.Expr}{a b:Ex}{pos}(hl:PE X A C env B l a)(hr:PE X A C env B r b)(hs:notSet r=true):PE X A C env B (.Compare l [op] [r] pos) (.cmp op a b):=fun σ zz zz zz zz zz ev F q=>
  wpAny_Compare1 (hl σ ev F fun τ zz zz t ra ev=>hr τ ev (F.to t) fun υ zz zz t' rb ev=>cmp_ok room (t'.vr ra) rb ev (q.from (t.trans t')).kc) (notSet_marks hs)
theorem PT.cmp{d:Nat}(room:Room A d){op:CmpOp}{l r:PySem.Expr}{a b:Ex}{pos}(hl:PE X A C env B l a)(hr:PE X A C env B r b)(hs:notSet r=true):PT X A C env B (.Compare l [op] [r] pos) (.cmp op a b):=fun σ zz zz zz zz zz ev F q=>
  wpAny_isTrue_Compare1 (hl σ ev F fun τ zz zz t ra ev=>hr τ ev (F.to t) fun υ zz zz t' rb ev=>cmp_ok room (t'.vr ra) rb ev fun φ c t'' h e=>wpAny_truthy_bool (q φ c ((t.trans t').trans t'') (h▸e))) (notSet_marks hs)
theorem PE.cmp2{d:Nat}(room:Room A d){o1 o2:CmpOp}{l r q:PySem.Expr}{a b c:Ex}{pos}(hl:PE X A C env B l a)(hr:PE X A C env B r b)(hq:PE X A C env B q c)(hs:notSet q=true) :
    PE X A C env B (.Compare l [o1,o2] [r,q] pos) (.cmp2 o1 o2 a b c)∧PT X A C env B (.Compare l [o1,o2] [r,q] pos) (.cmp2 o1 o2 a b c):=by
  have hm:markedEach [o1,o2] [r,q] (evalEach [r,q] env)=[eval r env,eval q env]:=by
    show[eval r env,markedBehindIn o2 q (eval q env)]=_
    unfold markedBehindIn;rw[notSet_marks hs]
  constructor
  · intro Z σ loc K w Q E ev F k
    rw[arm_eval_Compare,hm]
    refine wpAny_bind (hl σ ev F fun τ zz zz t ra ev=>wpAny_bind (wpAny_holding (hr τ ev (F.to t) fun υ zz zz t' rb ev=>wpAny_bind (wpAny_standAt (wpAny_bind (wpAny_holding (cmp_ok room (t'.vr ra) rb ev fun φ v t'' h e=>?_)))))))
    refine wpAny_bind (wpAny_release (wpAny_bind (wpAny_holding (wpAny_truthy_bool ?_))))
    have t3:=(t.trans t').trans t''
    rw[←h]at e
    cases v with
    | true=>exact wpAny_bind (wpAny_holding (hq φ e (F.to t3) fun ψ zz zz t4 rc ev=>wpAny_bind (wpAny_standAt (wpAny_operating (cmp_ok room (t4.vr (t''.vr rb)) rc ev (k.from (t3.trans t4)).kc)))))
    | false=>exact wpAny_pure (k φ (.bool false) _ t3 rfl e)
  · intro Z σ loc K w Q E ev F k
    rw[arm_isTrue_Compare,hm]
    refine wpAny_bind (hl σ ev F fun τ zz zz t ra ev=>wpAny_bind (wpAny_holding (hr τ ev (F.to t) fun υ zz zz t' rb ev=>wpAny_bind (wpAny_standAt (wpAny_bind (wpAny_holding (cmp_ok room (t'.vr ra) rb ev fun φ v t'' h e=>?_)))))))
    refine wpAny_bind (wpAny_release (wpAny_bind (wpAny_holding (wpAny_truthy_bool ?_))))
    have t3:=(t.trans t').trans t''
    rw[←h]at e
    cases v with
    | true=>exact wpAny_bind (wpAny_holding (hq φ e (F.to t3) fun ψ zz zz t4 rc ev=>wpAny_bind (wpAny_standAt (wpAny_bind (wpAny_operating (cmp_ok room (t4.vr (t''.vr rb)) rc ev fun ω c t5 h e=>wpAny_holding (wpAny_truthy_bool (k ω c ((t3.trans t4).trans t5) (h▸e)))))))))
    | false=>exact wpAny_pure (k φ false t3 e)
end
end Mine
end
section
namespace Mine
open PySem PySem.W PySem.Calls PyProof.Rows
section
variable{X:Wd}{A:Around}{C:Orc}{env:Env}{B:Bk}{cx:Cx}
theorem PT.of{e:PySem.Expr}{ex:Ex}(h:PE X A C env B e ex)(he:∀ env whole,isTrue e env whole=(do let v ←whole;standAt e.pos;holding [v] (truthy v))):PT X A C env B e ex:=fun σ zz zz zz zz zz ev F q=>
  wpAny_isTrue_value (h σ ev F fun τ zz zz t r ev=>truth_ok τ r ev fun b zz e=>q τ b t e) (he _ _)
theorem PE.not{x:PySem.Expr}{a:Ex}{pos}(h:PE X A C env B x a):PE X A C env B (.UnaryOp .Not x pos) (.not a):=fun σ zz zz zz zz zz ev F q=>
  wpAny_UnaryOp (h σ ev F fun τ zz zz t r ev=>not_value (truth_ok τ r ev fun b zz e=>q τ (.bool !b) _ t rfl e))
theorem PT.not{x:PySem.Expr}{a:Ex}{pos}(h:PT X A C env B x a):PT X A C env B (.UnaryOp .Not x pos) (.not a):=fun σ zz zz zz zz zz ev F q=>
  wpAny_isTrue_Not (h σ (K:=fun b H=>_) ev F fun τ b t e=>q τ (!b) t e)
theorem PE.neg{x:PySem.Expr}{a:Ex}{pos}(h:PE X A C env B x a):PE X A C env B (.UnaryOp .USub x pos) (.neg a):=fun σ zz K w Q E ev F q=>
  wpAny_UnaryOp (h σ ev F fun τ v x t r ev=>by
    cases v with
    | int i=>exact r.elim fun u h=>h▸PyProof.Rows.neg_int ((q.from t).tok (v:=.int (-i)) ⟨_,rfl⟩ ev)
    | _=>exact nn ev)
theorem PE.ite{c t f:PySem.Expr}{a b d:Ex}{pos}(hc:PT X A C env B c a)(ht:PE X A C env B t b)(hf:PE X A C env B f d):PE X A C env B (.IfExp c t f pos) (.ite a b d):=fun σ loc K w Q E ev F q=>
  wpAny_IfExp (hc σ (K:=fun t H=>cs t (evK X.T C b loc H K) (evK X.T C d loc H K)) ev F fun τ v t e=>by
    cases v with
    | true=>rw[if_pos rfl];exact ht τ e (F.to t) (q.from t)
    | false=>rw[if_neg Bool.false_ne_true];exact hf τ e (F.to t) (q.from t))
theorem PT.ite{c t f:PySem.Expr}{a b d:Ex}{pos}(hc:PT X A C env B c a)(ht:PT X A C env B t b)(hf:PT X A C env B f d):PT X A C env B (.IfExp c t f pos) (.ite a b d):=fun σ loc K w Q E ev F q=>by
  rw[arm_isTrue_IfExp]
  refine wpAny_bind (hc σ (K:=fun t H=>cs t (evK X.T C b loc H fun v H=>bx (truth v) fun b=>K b H) (evK X.T C d loc H fun v H=>bx (truth v) fun b=>K b H)) ev F fun τ v t e=>?_)
  cases v with
  | true=>rw[if_pos rfl];exact ht τ e (F.to t) fun υ b t' e=>q υ b (t.trans t') e
  | false=>rw[if_neg Bool.false_ne_true];exact hf τ e (F.to t) fun υ b t' e=>q υ b (t.trans t') e
def notStar:PySem.Expr→Bool
  | .Starred ..=>false
  | _=>true
theorem star_cons{e:PySem.Expr}(h:notStar e=true)(r:List PySem.Expr)(env:Env):starEach (e::r) env=(false,eval e env)::starEach r env:=by
  cases e with
  | Starred=>cases h
  | _=>rfl
structure G1(X:Wd)(A:Around)(C:Orc)(env:Env)(B:Bk)(e:PySem.Expr)(ex:Ex):Prop where
  pe:PE X A C env B e ex
  pt:PT X A C env B e ex
  star:notStar e=true
inductive PLs(X:Wd)(A:Around)(C:Orc)(env:Env)(B:Bk):List PySem.Expr→List Ex→Prop where
  | nil:PLs X A C env B [] []
  | cons {e ex es exs}:G1 X A C env B e ex→PLs X A C env B es exs→PLs X A C env B (e::es) (ex::exs)
theorem Kl.from{X:Wd}{Z:Addr→Prop}{σ τ:Cg X Z}{K:KL}{w:V×Hp}{Q:List Value→Shared→Prop}(q:Kl σ K w Q)(t:To σ τ):Kl τ K w Q:=fun υ v x t' r e=>q υ v x (t.trans t') r e
theorem PLs.all{es:List PySem.Expr}{exs:List Ex}(h:PLs X A C env B es exs):PEs X A C env B es exs:=by
  induction h with
  | nil=>exact fun σ zz zz zz zz zz zz ev F q=>wpAny_items_nil (q σ [] [] StepF.refl rfl ev)
  | cons h1 _ ih=>exact fun σ zz zz zz zz zz zz ev F q=>wpAny_items_cons (h1.pe σ ev F fun τ v x t r ev=>ih τ ev (F.to t) fun υ vs xs t' rs e=>q υ (v::vs) (x::xs) (t.trans t') ⟨t'.vr r,rs⟩ e) (star_cons h1.star _ _)
theorem PLs.plain{es:List PySem.Expr}{exs:List Ex}(h:PLs X A C env B es exs)(pos:Pos):(backTo pos (starEach es env)).any (·.1)=false:=by
  induction h with
  | nil=>rfl
  | cons h _ ih=>rw[star_cons h.star];exact ih
theorem PE.tup{es:List PySem.Expr}{exs:List Ex}{k pos}(h:PEs X A C env B es exs):PE X A C env B (.Tuple es k pos) (.tup exs):=fun σ zz zz zz zz zz ev F q=>
  wpAny_Tuple (h σ ev F fun τ vs xs t rs ev=>by
    obtain⟨hl,ev⟩:=gx_inv ev
    have hl:=of_decide_eq_true hl
    refine⟨by rw[←rs.length];exact Nat.le_of_lt (Nat.lt_of_lt_of_le hl (Nat.le_of_succ_le lim_size)),q (τ.push { cls:=.type "tuple",data:=.seq xs.toArray } τ.s.toks) (.tup vs) _ (t.trans To.push) ?_ ev⟩
    exact .mk (τ.I.fresh (Nat.le_refl _)) (.mk hl ⟨_,Heap.get?_push_size _ rfl,rfl,_,rfl⟩ (rs.mono (Keep.grow push_old) List.prefix_rfl)))
theorem new_list{Z:Addr→Prop}{σ:Cg X Z}{own:Bool}{vs:List V}{K:KV}{w:V×Hp}{Q:Value→Shared→Prop}(hv:vs.length<lim)(e:mkList own vs σ.H K=some w){h':Heap}{t:Nat}{l:Addr}{xs:Array Value}{n:Nat}
    (k:∀ b ob,σ.s.heap.get? b=some ob→h'.get? b=some ob) (sz:σ.s.heap.objs.size≤h'.objs.size) (ho:IsL h' l xs n) (hb:σ.s.heap.objs.size≤l) (r:σ.vrs vs xs.toList) (q:Kv σ K w Q):Q (.ref l) { σ.s with heap:=h',toks:=t }:=by
  have nw:News σ.s h' (·=l):=⟨k,sz,fun a h=>h▸hb,fun a h=>h▸Heap.lt_size ho⟩
  cases own with
  | true=>
    refine q (σ.adopt nw (σ.widen nw t) h' t (fun zz zz e zz=>e) (Nat.le_refl _) (.list vs) ⟨l,0⟩ (fun a h=>List.mem_singleton.mp h) (List.pairwise_singleton ..) fun kp=>.mk (Nat.lt_succ_of_lt hv) ho ((r.mono nw.keep List.prefix_rfl).mono kp (List.prefix_append _ _))) (.ref σ.H.length) _ (To.adopt nw StepF.refl) ⟨_,Cg.last,rfl⟩ e
  | false=>
    obtain⟨hf,e⟩:=gx_inv e
    exact q (σ.grow h' t k sz) (.lst vs) _ To.grow (.mk (σ.I.fresh hb) (.mk (Nat.lt_succ_of_lt hv) ho ((r.flat hf).mono (Keep.grow k) List.prefix_rfl))) e
theorem PE.lst{own:Bool}{es:List PySem.Expr}{exs:List Ex}{pos}(h:PEs X A C env B es exs):PE X A C env B (.List es pos) (.lst own exs):=fun σ zz zz zz zz zz ev F q=>
  wpAny_List (h σ ev F fun τ vs xs t rs ev=>by
    obtain⟨hl,ev⟩:=gx_inv ev
    have hl:=of_decide_eq_true hl
    exact⟨by rw[←rs.length];exact Nat.le_of_lt (Nat.lt_of_lt_of_le hl (Nat.le_of_succ_le lim_size)),new_list (t:=τ.s.toks) hl ev push_old push_size (Heap.get?_push_size _ rfl) (Nat.le_refl _) rs (q.from t)⟩)
theorem PE.item{o i:PySem.Expr}{a b:Ex}{pos}(ho:PE X A C env B o a)(hi:PE X A C env B i b):PE X A C env B (.Subscript o i pos) (.item a b):=fun σ zz zz zz zz zz ev F q=>by
  rw[eval_Subscript]
  exact wpAny_bind (ho σ ev F fun τ zz zz t ra ev=>wpAny_bind (wpAny_holding (hi τ ev (F.to t) fun υ zz zz t' rb ev=>wpAny_bind (wpAny_standAt (item_ok (t'.vr ra) rb ev fun φ v z t'' h r e=>q φ _ z ((t.trans t').trans t'') (φ.view r) (by rw[h];exact e))))))
def PO(X:Wd)(A:Around)(C:Orc)(env:Env)(B:Bk)(e:Option PySem.Expr)(ex:Option Ex):Prop:=∀ {Z} (σ:Cg X Z) {loc K w Q E},evO X.T C ex loc σ.H K=some w→Frm X env B σ loc→Kv σ K w Q→wpAny (model X.prog X.w) A (evalPart e env) Q E σ.s
theorem PO.none:PO X A C env B Option.none Option.none:=fun zz zz zz zz zz zz ev zz q=>wpAny_pure (q.here (v:=.none) rfl ev)
theorem PO.some{e:PySem.Expr}{ex:Ex}(h:PE X A C env B e ex):PO X A C env B (Option.some e) (Option.some ex):=fun σ zz zz zz zz zz ev F q=>h σ ev F q
theorem PE.slc{o:PySem.Expr}{lo hi:Option PySem.Expr}{a:Ex}{l h:Option Ex}{p pos}(ho:PE X A C env B o a)(hl:PO X A C env B lo l)(hh:PO X A C env B hi h):PE X A C env B (.Subscript o (.Slice lo hi Option.none p) pos) (.slc a l h):=fun σ zz zz zz zz zz ev F q=>by
  rw[eval_Subscript]
  refine wpAny_bind (ho σ ev F fun τ zz zz t1 ra ev=>wpAny_bind (wpAny_holding (wpAny_Slice (hl τ ev (F.to t1) fun υ zz y t2 rl ev=>hh υ ev (F.to (t1.trans t2)) fun φ zz z t3 rh ev=>wpAny_pure (wpAny_bind (wpAny_standAt ?_))))))
  have t4:To φ (φ.push { cls:=.type "slice",data:=.fields #[y,z,.none] } φ.s.toks):=To.push
  have p:=slice_ok (A:=A) (E:=‹_›) (t4.vr (t3.vr (t2.vr ra))) (t4.vr (t3.vr rl)) (t4.vr rh) ev (Heap.IsSliceOf.new _ _ _ _) (q.from (((t1.trans t2).trans t3).trans t4)).kn
  exact tail_ok p.1 slot_list_getitem.lookup p.2
theorem PE.rev{o:PySem.Expr}{a:Ex}{k p1 p2 p pos}(ho:PE X A C env B o a):PE X A C env B (.Subscript o (.Slice Option.none Option.none (Option.some (.UnaryOp .USub (.Constant (.int 1) k p1) p2)) p) pos) (.rev a):=fun σ zz zz zz zz zz ev F q=>by
  rw[eval_Subscript]
  refine wpAny_bind (ho σ ev F fun τ zz zz t ra ev=>wpAny_bind (wpAny_holding (wpAny_Slice (wpAny_pure (wpAny_pure (wpAny_UnaryOp (wpAny_Constant_int (PyProof.Rows.neg_int (wpAny_bind (wpAny_standAt ?_))))))))))
  have t4:To τ (τ.push { cls:=.type "slice",data:=.fields #[Value.none,.none,.int (-1) (τ.s.toks+1)] } (τ.s.toks+1+1)):=To.push
  have p:=rev_ok (A:=A) (E:=‹_›) (t4.vr ra) ev (Heap.IsSliceOf.new τ.s.heap .none .none (.int (-1) (τ.s.toks+1))) (q.from (t.trans t4)).kn
  exact tail_ok p.1 slot_list_getitem.lookup p.2
theorem base_whole{o:PySem.Expr}{attr:Str}{env:Env}{whole:Sem Value}(h:noSuper o=true):attributeBase o attr env whole=whole:=by
  have k:cond (noSuper o) (attributeBase o attr env whole=whole) True:=by
    cases o<;>first|exact trivial|exact rfl|skip
    cases func<;>first|exact trivial|exact rfl
  rw[h]at k
  exact k
theorem PE.attr(W:WdOk X cx){o:PySem.Expr}{n:Str}{a:Ex}{k:Nat}{pos}(hs:noSuper o=true)(ho:PE X A C env B o a)(hn:idx n cx.names=Option.some k):PE X A C env B (.Attribute o n pos) (.attr a k):=fun σ zz zz zz zz zz ev F q=>by
  rw[arm_eval_Attribute,base_whole hs]
  exact wpAny_bind (ho σ ev F fun τ zz zz t ra ev=>wpAny_bind (wpAny_standAt (wpAny_bind (wpAny_holding (attr_ok W.kin W.cls ra (W.names _ _ hn) ev fun φ v z t'' h r e=>wpAny_bind (wpAny_letTemporaryGo (wpAny_pure (q φ _ z (t.trans t'') (φ.view r) (by rw[h];exact e)))))))))
theorem as_eq{v:V}{b:Bool}(h:truth v=Option.some b):as_ b v=v:=by
  cases v with
  | bool c=>cases h;rfl
  | _=>rfl
theorem as_truth{v:V}{b:Bool}(h:truth v=Option.some b):truth (as_ b v)=Option.some b:=(as_eq h).symm▸h
theorem fun_bx{P R:V→Hp→Bool→Rs}(h:∀ v H b,truth v=Option.some b→P v H b=R v H b):(fun v H=>bx (truth v) (P v H))=fun v H=>bx (truth v) (R v H):=
  funext fun v=>funext fun H=>by
    cases e:truth v with
    | none=>rfl
    | some b=>exact h v H b e
theorem PE.and{es:List PySem.Expr}{exs:List Ex}{pos}(h:PLs X A C env B es exs):PE X A C env B (.BoolOp .And es pos) (.and exs):=fun σ loc K w Q E ev F q=>by
  rw[arm_eval_BoolOp]
  induction h generalizing σ with
  | nil=>exact nn ev
  | cons h1 hr ih=>
    cases hr with
    | nil=>exact h1.pe σ ev F q
    | cons g1 gr=>
      refine wpAny_bind (h1.pe σ ev F fun τ v x t r ev=>wpAny_bind (wpAny_standAt (wpAny_bind (wpAny_holding (truth_ok τ r ev fun b hb e=>?_)))))
      cases b with
      | true=>exact ih τ e (F.to t) (q.from t)
      | false=>exact wpAny_pure (q τ v x t r (as_eq hb▸e))
theorem PE.or{es:List PySem.Expr}{exs:List Ex}{pos}(h:PLs X A C env B es exs):PE X A C env B (.BoolOp .Or es pos) (.or exs):=fun σ loc K w Q E ev F q=>by
  rw[arm_eval_BoolOp]
  induction h generalizing σ with
  | nil=>exact nn ev
  | cons h1 hr ih=>
    cases hr with
    | nil=>exact h1.pe σ ev F q
    | cons g1 gr=>
      refine wpAny_bind (h1.pe σ ev F fun τ v x t r ev=>wpAny_bind (wpAny_standAt (wpAny_bind (wpAny_holding (truth_ok τ r ev fun b hb e=>?_)))))
      cases b with
      | true=>exact wpAny_pure (q τ v x t r (as_eq hb▸e))
      | false=>exact ih τ e (F.to t) (q.from t)
theorem PT.and{es:List PySem.Expr}{exs:List Ex}{pos}(h:PLs X A C env B es exs):PT X A C env B (.BoolOp .And es pos) (.and exs):=fun σ loc K w Q E ev F q=>by
  refine wpAny_isTrue_BoolOp ?_
  induction h generalizing σ with
  | nil=>exact nn ev
  | cons h1 hr ih=>
    cases hr with
    | nil=>exact wpAny_allTrue_And_cons (h1.pt σ ev F fun τ b t e=>by
        cases b with
        | false=>exact q τ false t e
        | true=>exact wpAny_allTrue_And_nil (q τ true t e))
    | @cons g gx gs gxs g1 gr=>
      refine wpAny_allTrue_And_cons (h1.pt σ (w:=w) (K:=fun b H=>cs b (evAn X.T C (gx::gxs) loc H fun v H=>bx (truth v) fun b=>K b H) (K false H)) ?_ F fun τ b t e=>?_)
      · rw[←ev]
        refine(congrArg (evK X.T C _ loc σ.H) (fun_bx fun v H b hb=>?_)).trans rfl
        cases b with
        | true=>rfl
        | false=>exact(congrArg (bx · fun b=>K b H) (as_truth hb)).symm
      · cases b with
        | true=>exact ih τ e (F.to t) fun υ b t' e=>q υ b (t.trans t') e
        | false=>exact q τ false t e
theorem PT.or{es:List PySem.Expr}{exs:List Ex}{pos}(h:PLs X A C env B es exs):PT X A C env B (.BoolOp .Or es pos) (.or exs):=fun σ loc K w Q E ev F q=>by
  refine wpAny_isTrue_BoolOp ?_
  induction h generalizing σ with
  | nil=>exact nn ev
  | cons h1 hr ih=>
    cases hr with
    | nil=>exact wpAny_allTrue_Or_cons (h1.pt σ ev F fun τ b t e=>by
        cases b with
        | false=>exact wpAny_allTrue_Or_nil (q τ false t e)
        | true=>exact q τ true t e)
    | @cons g gx gs gxs g1 gr=>
      refine wpAny_allTrue_Or_cons (h1.pt σ (w:=w) (K:=fun b H=>cs b (K true H) (evOr X.T C (gx::gxs) loc H fun v H=>bx (truth v) fun b=>K b H)) ?_ F fun τ b t e=>?_)
      · rw[←ev]
        refine(congrArg (evK X.T C _ loc σ.H) (fun_bx fun v H b hb=>?_)).trans rfl
        cases b with
        | false=>rfl
        | true=>exact(congrArg (bx · fun b=>K b H) (as_truth hb)).symm
      · cases b with
        | true=>exact q τ true t e
        | false=>exact ih τ e (F.to t) fun υ b t' e=>q υ b (t.trans t') e
end
end Mine
end
section
namespace Mine
open PySem PySem.W PySem.Calls PyProof.Rows
noncomputable def biFn:Bi→Value
  | .len=>.builtin "len"
  | .list=>.type "list"
  | .dict=>.type "dict"
  | .max=>.builtin "max"
  | .sorted=>.builtin "sorted"
  | .isBool=>.builtin "isinstance"
  | .int=>.type "int"
noncomputable def biRest:Bi→List Value
  | .isBool=>[.type "bool"]
  | _=>[]
section
variable{X:Wd}{h:Heap}{P:Addr→Prop}{ρ:List Foot}{v:V}{x:Value}{w:V×Hp}{Q:Value→Prop}
theorem seq_el{k:List V→Rs}(r:SV X h P ρ v x)(e:bx (seqC v) k=some w)(q1:∀ a xs n vs,xs.size<lim+1→IsL h a xs n→vs.length=xs.size→k vs=some w→Q (.ref a))(q2:∀ a xs vs,xs.size<lim+1→h.IsTuple a xs→vs.length=xs.size→k vs=some w→Q (.ref a)):Q x:=by
  cases v with
  | lst vs=>exact Is.el r fun a zz l=>l.el fun xs n h1 h2 h3=>q1 a xs n vs (h3.size▸h1) h2 h3.size.symm e
  | tup vs=>exact Is.el r fun a zz l=>l.el fun xs h1 h2 h3=>q2 a xs vs (h3.size▸Nat.lt_succ_of_lt h1) h2 h3.size.symm e
  | _=>exact nn e
theorem pair_el{v k u:V}(r:VR X h P v ρ x)(e:pair1 v=some (k,u))(q:∀ a y z,h.IsTuple a #[y,z]→VR X h P k ρ y→VR X h P u ρ z→Q (.ref a)):Q x:=by
  obtain⟨l,hl,e⟩:=bx_inv e
  cases v with
  | tup vs=>
    cases hl
    cases l with
    | nil=>exact nn e
    | cons a l=>cases l with
      | nil=>exact nn e
      | cons b l=>cases l with
        | cons c l=>exact nn e
        | nil=>
          refine pr (P:=fun k u=>(∀ a y z,h.IsTuple a #[y,z]→VR X h P k ρ y→VR X h P u ρ z→Q (.ref a))→Q x) e (fun q=>?_) q
          exact Is.el r fun t zz l=>l.el fun xs zz h2 h3=>h3.cons_inv (R:=fun ys=>ys=xs.toList→Q (.ref t)) (fun y ys ry rs=>rs.cons_inv (R:=fun ys=>y::ys=xs.toList→Q (.ref t)) fun z zs rz rn e=>by
            cases rn
            exact q t y z (show h.IsTuple t [y,z].toArray by rw[e];exact h2) ry rz) rfl
  | _=>exact nn hl
end
theorem stored_nodup{kvs:List (Key×Value)}(nd:(kvs.map (·.1)).Nodup)(k:Key)(v:Value):((stored kvs k v).map (·.1)).Nodup:=by
  induction kvs with
  | nil=>exact List.pairwise_singleton ..
  | cons p kvs ih=>
    have nd:=List.nodup_cons.mp nd
    by_cases h:p.1=k
    · rw[stored_hit h (h▸nd.1)];exact List.nodup_cons.mpr nd
    · rw[stored_miss h]
      refine List.nodup_cons.mpr ⟨fun m=>?_,ih nd.2⟩
      obtain⟨kv,m,e⟩:=List.mem_map.mp m
      unfold stored at m
      split at m
      · obtain⟨kv',m',rfl⟩:=List.mem_map.mp m
        refine nd.1 (List.mem_map.mpr ⟨kv',m',e▸?_⟩)
        split<;>rfl
      · rcases List.mem_append.mp m with m|m
        · exact nd.1 (e▸List.mem_map_of_mem m)
        · cases List.mem_singleton.mp m;exact h e.symm
section
variable{X:Wd}{h:Heap}{P:Addr→Prop}{ρ:List Foot}
structure Ents(X:Wd)(h:Heap)(P:Addr→Prop)(ρ:List Foot)(ks vs:List V)(kvs:List (Key×Value))(n:Nat):Prop where
  nd:(kvs.map (·.1)).Nodup
  keys:ks.map (keyV X)=kvs.map fun p=>some p.1
  vals:VRs X h P vs ρ (kvs.map (·.2))
  few:ks.length≤n
theorem Ents.nil:Ents X h P ρ [] [] [] 0:=⟨.nil,rfl,rfl,Nat.le_refl _⟩
theorem Ents.store{ks vs:List V}{kvs:List (Key×Value)}{n:Nat}(c:Ents X h P ρ ks vs kvs n){u v:V}{k:Key}{x:Value}(ku:keyV X u=some k)(rv:VR X h P v ρ x):Ents X h P ρ (store u v ks vs).1 (store u v ks vs).2 (stored kvs k x) (n+1):=
  let p:=store_at ku rv c.nd c.keys c.vals;⟨stored_nodup c.nd k x,p.1,p.2.1,Nat.le_trans p.2.2 (Nat.succ_le_succ c.few)⟩
theorem Ents.len{ks vs:List V}{kvs:List (Key×Value)}{n:Nat}(c:Ents X h P ρ ks vs kvs n):kvs.length≤n:=by
  have:=congrArg List.length c.keys
  rw[List.length_map,List.length_map]at this
  exact this▸c.few
theorem Ents.merged{as bs ks vs:List V}{kvs acc:List (Key×Value)}{n:Nat}(c:Ents X h P ρ ks vs acc n)(a1:as.map (keyV X)=kvs.map fun p=>some p.1)(a2:VRs X h P bs ρ (kvs.map (·.2))):Ents X h P ρ (storeAll as bs ks vs).1 (storeAll as bs ks vs).2 (merged acc kvs) (n+as.length):=by
  induction as generalizing bs ks vs kvs acc n with
  | nil=>cases kvs with
    | nil=>exact c
    | cons=>cases a1
  | cons a as ih=>cases kvs with
    | nil=>cases a1
    | cons p kvs=>cases bs with
      | nil=>exact nomatch (show _::_=[]from a2)
      | cons b bs=>
        have a1:=List.cons.inj a1
        have:=ih (c.store a1.1 a2.1) a1.2 a2.2
        rw[Nat.add_assoc,Nat.add_comm 1]at this
        exact this
end
set_option maxRecDepth 100000
theorem entry_dict_loop:entryFor table "dict.update.loop" = some Builtin.«dict.update.loop»:=entryFor_of_tree (by kernel_rfl)
theorem miss_list_keys:typeLookup (.type "list") "keys" = pure none:=by rw[typeLookup_type,builtinLookup_eq_fast];kernel_rfl
section
variable{prog:Program}{w:World}{A:Around}{E:Value→Shared→Prop}{s:Shared}
theorem list_no_keys{a:Addr}{xs:Array Value}{k:Nat}{Q:Option Value→Shared→Prop}(hx:IsL s.heap a xs k)(hA:A.handled=none)
    (h:∀ h' tk,(∀ b o,s.heap.get? b=some o→h'.get? b=some o)→Q none { s with heap:=h',toks:=tk }):wpAny (model prog w) A (getAttr? (.ref a) "keys") Q E s:=by
  obtain⟨hp,g,d,tk,os⟩:=s
  have hT:∀ tk',(⟨hp,g,d,tk',os⟩:Shared).TypeIs (.ref a) "list":=fun zz=>⟨_,hx,rfl⟩
  have f1:=sub_AttributeError
  have f3:=F.slot_list_getattribute.lookup
  have f4:=F.slot_list_getattribute.bind (.ref a)
  have f5:=am_list_getattr_none
  unfold getAttr? getAttrBy? getAttrBy
  repeat (any_goals (first|assumption|exact hT _|((with_reducible show wpAny _ _ (call (Value.builtin "list.__getattribute__") _ _) _ _ _);refine call_meets F.slot_list_getattribute (hT _) am_entry_list_getattribute (F.args_list_getattribute_2 _ _) (meets_getattribute_miss_list a xs k #[] "keys" _ miss_list_keys (by decide +kernel) (by size_fits)) ⟨hx,hA,fun h' tk' e hx'=>?_⟩)|wp_step))
  obtain⟨t',u',he⟩:=hx'.there
  show wpAny _ _ (getattributeRaised _ _ _ _ _ _ _) _ _ _
  unfold getattributeRaised
  repeat (any_goals (first|assumption|wp_step))
  exact h _ _ hx'.keeps
theorem pairItems_tuple{t:Addr}{items:Array Value}{Q:List Value→Shared→Prop}(ht:s.heap.IsTuple t items)(h:Q items.toList s):wpAny (model prog w) A (Builtin.Dict.pairItems (.ref t)) Q E s:=by
  obtain⟨o,ho,hc,n,hd⟩:=ht
  have hT:s.TypeIs (.ref t) "tuple":=⟨o,ho,hc⟩
  unfold Builtin.Dict.pairItems
  refine wpAny_bind (wpAny_typeOf hT ?_)
  rw[if_pos (by decide +kernel)]
  exact wpAny_bind (wpAny_seqItems ho hd (wpAny_pure h))
end
theorem DictOf.keep{prog:Program}{w:World}{h h':Heap}{D:Addr}{kvs:List (Key×Value)}(d:h.DictOf (keyK prog w) D kvs)(e:∀ o,h.get? D=some o→h'.get? D=some o):h'.DictOf (keyK prog w) D kvs:=
  d.imp fun o=>Exists.imp fun zz=>Exists.imp fun zz q=>⟨e o q.1,q.2⟩
section
variable{X:Wd}{Z:Addr→Prop}{A:Around}
theorem dict_loop(σ:Cg X Z){D It l:Addr}{items:Array Value}{n:Nat}(hA:A.handled=none)(ho:IsL σ.s.heap l items n)(hD:σ.s.heap.objs.size≤D)(hI:σ.s.heap.objs.size≤It)(hDI:D≠It)(hlim:items.size<lim){R:Result→Shared→Prop}{us:List V} :
    ∀ {p:List V×List V} {ks vs:List V} {i:Nat} {h:Heap} {tk:Nat} {j:Int} {kvs:List (Key×Value)},pairs us=some p→p.1.all keyOk=true→σ.vrs us (items.toList.drop i)→Ents X σ.s.heap σ.P σ.ρ ks vs kvs i→i≤items.size→
      (∀ b ob,σ.s.heap.get? b=some ob→h.get? b=some ob)→h.DictOf (dk X) D kvs→h.IsListIter It l i→
      (∀ h' tk kvs',(∀ b ob,σ.s.heap.get? b=some ob→h'.get? b=some ob)→h'.DictOf (dk X) D kvs'→Ents X σ.s.heap σ.P σ.ρ (storeAll p.1 p.2 ks vs).1 (storeAll p.1 p.2 ks vs).2 kvs' items.size→R (.ok (.ret .none)) { σ.s with heap:=h',toks:=tk })→
      codeAny (model X.prog X.w) A (.builtin "dict.update.loop" ⟨[.ref D,.ref It,.int j 0,.none],[]⟩) R { σ.s with heap:=h,toks:=tk }:=by
  induction us with
  | nil=>
    intro p ks vs i h tk j kvs hp hk r c hi old hd hit hR
    cases hp
    have hend:=List.drop_eq_nil_iff.mp (show items.toList.drop i=[]from r)
    refine codeAny_builtin entry_dict_loop ?_
    unfold Builtin.«dict.update.loop»
    refine wpAny_bind (wpAny_pyNext_list_end hA hit (IsL.list (old _ _ ho)) (Array.getElem?_eq_none hend) fun h' eb=>?_)
    refine wpAny_bind (wpAny_pure (wpAny_pure ?_))
    exact hR h' tk kvs (fun b ob e=>eb b ob (fun q=>Nat.not_lt.mpr (q▸hI) (Heap.lt_size e)) (old b ob e)) (DictOf.keep hd fun o=>eb _ _ hDI) { c with few:=Nat.le_trans c.few hi }
  | cons v us ih=>
    intro p ks vs i h tk j kvs hp hk r c hi old hd hit hR
    obtain⟨a,b,hab,hp⟩:=b2_inv hp
    obtain⟨as,bs,hr,hp⟩:=b2_inv hp
    cases hp
    have hk:=(Bool.and_eq_true _ _).mp hk
    cases hx:items.toList.drop i with
    | nil=>rw[hx]at r;exact r.elim
    | cons x xs=>
      rw[hx]at r
      have hx1:items[i]?=some x:=by rw[←Array.getElem?_toList,←Nat.add_zero i,←List.getElem?_drop,hx];rfl
      have hx2:items.toList.drop (i+1)=xs:=by rw[←List.drop_drop,hx];rfl
      have hlt:=(Array.getElem?_eq_some_iff.mp hx1).1
      refine pair_el (Q:=fun x=>items[i]?=some x→codeAny (model X.prog X.w) A (.builtin "dict.update.loop" ⟨[.ref D,.ref It,.int j 0,.none],[]⟩) R { σ.s with heap:=h,toks:=tk }) r.1 hab (fun t y z hT ry rz hx=>?_) hx1
      obtain⟨key,kr,hi⟩:=VR.key hk.1 ry
      refine codeAny_builtin entry_dict_loop ?_
      unfold Builtin.«dict.update.loop»
      refine wpAny_bind (wpAny_pyNext_list_item hit (IsL.list (old _ _ ho)) hx fun h' hit' sb=>?_)
      have old':∀ b ob,σ.s.heap.get? b=some ob→h'.get? b=some ob:=fun b ob e=>(sb.2 b fun q=>Nat.not_lt.mpr (q▸hI) (Heap.lt_size e)).trans (old b ob e)
      refine wpAny_bind (wpAny_holding (wpAny_bind (wpAny_tryCatch (pairItems_tuple (hT.imp fun o q=>⟨old' _ _ q.1,q.2⟩) ?_))))
      refine wpAny_holding ?_
      unfold dictSet
      refine wpAny_holding (wpAny_bind ((dk X).pyHash hi ?_))
      refine wpAny_dictSetHashed_pairs (knd:=dk X) (hsz:=Nat.le_trans c.len (Nat.le_trans (Nat.le_of_lt (Nat.lt_trans hlt hlim)) (Nat.le_of_succ_le lim_size))) hi (DictOf.keep hd fun o e=>(sb.2 _ hDI).trans e) fun h'' hd'' sb'=>?_
      refine wpAny_pure ⟨Code.quiet_builtin _ (by decide +kernel),?_⟩
      exact ih hr hk.2 (hx2▸r.2) (c.store kr rz) hlt (fun b ob e=>(sb'.2 b fun q=>Nat.not_lt.mpr (q▸hD) (Heap.lt_size e)).trans (old' b ob e)) hd'' (hit'.at fun o e=>(sb'.2 _ (Ne.symm hDI)).trans e) hR
variable{w:V×Hp}{Q:Value→Shared→Prop}{E:Value→Shared→Prop}{σ:Cg X Z}{K:KV}
theorem Ents.to{h h':Heap}{P P':Addr→Prop}{ρ ρ':List Foot}{ks vs:List V}{kvs:List (Key×Value)}{n:Nat}(c:Ents X h P ρ ks vs kvs n)(f:VRs X h P vs ρ (kvs.map (·.2))→VRs X h' P' vs ρ' (kvs.map (·.2))):Ents X h' P' ρ' ks vs kvs n:=⟨c.nd,c.keys,f c.vals,c.few⟩
theorem Ents.flat{h:Heap}{P:Addr→Prop}{ρ:List Foot}{p:List V×List V}(hf:p.2.all flatV=true){ks vs:List V}(hv:vs.all flatV=true):(storeAll p.1 p.2 ks vs).2.all flatV=true:=by
  obtain⟨as,bs⟩:=p
  induction as generalizing bs ks vs with
  | nil=>exact hv
  | cons a as ih=>cases bs with
    | nil=>exact hv
    | cons b bs=>
      have hf:=(Bool.and_eq_true _ _).mp hf
      refine ih ?_ bs hf.2
      clear ih
      induction ks generalizing vs with
      | nil=>exact(Bool.and_eq_true _ _).mpr ⟨hf.1,rfl⟩
      | cons k ks ih=>cases vs with
        | nil=>exact(Bool.and_eq_true _ _).mpr ⟨hf.1,rfl⟩
        | cons v vs=>
          have hv:=(Bool.and_eq_true _ _).mp hv
          show(cs (keyEq a k) (k::ks,b::vs) (k::(Mine.store a b ks vs).1,v::(Mine.store a b ks vs).2)).2.all flatV=true
          cases keyEq a k with
          | true=>exact(Bool.and_eq_true _ _).mpr ⟨hf.1,hv.2⟩
          | false=>exact(Bool.and_eq_true _ _).mpr ⟨hv.1,ih hv.2⟩
theorem dict_ok(hh:A.handled=none){own:Bool}{args:List V}{xs:List Value}(rs:σ.vrs args xs)(e:biK .dict own args σ.H K=some w)(q:Kv σ K w Q):wpAny (model X.prog X.w) A (call (.type "dict") xs) Q E σ.s:=
  a1_el (Q:=fun xs=>wpAny _ A (call (.type "dict") xs) Q E σ.s) rs e fun v x rv e=>lst_el (Q:=fun x=>wpAny _ A (call (.type "dict") [x]) Q E σ.s) (σ.con rv) e fun l items n vs zz L r e=>by
    obtain⟨ks,us,hp,e⟩:=b2_inv e
    obtain⟨hk,e⟩:=gx_inv e
    obtain⟨hf,e⟩:=gx_inv e
    obtain⟨hlim,e⟩:=gx_inv e
    have hlim:=of_decide_eq_true hlim
    refine callType_codes (Q₁:=fun obj s₁=>obj=.ref σ.s.heap.objs.size∧s₁={ σ.s with heap:=σ.s.heap.push { cls:=.type "dict",data:=.dict #[] } }) F.kt_called_dict (F.kt_typeCall_dict_1 _) F.entry_dict_init (kt_code_dict_new _ ⟨rfl,rfl⟩) ?_
    rintro obj s₁ ⟨rfl,rfl⟩
    have hnew:(σ.s.heap.push { cls:=.type "dict",data:=.dict #[] }).DictOf (dk X) σ.s.heap.objs.size []:=Heap.DictOf.new σ.s.heap
    have L1:=push_old (o:={ cls:=.type "dict",data:=.dict #[] }) _ _ L
    refine⟨hnew.typeIs,F.args_dict_init_2 _ _,?_⟩
    unfold Builtin.«dict.__init__»
    refine wpAny_bind ?_
    unfold Builtin.Dict.selfAndRest
    refine wpAny_bind (wpAny_notOrdered_dict hnew.typeIs ?_)
    show wpAny _ _ (pure (σ.s.heap.objs.size,[Value.ref l])) _ _ _
    refine wpAny_pure ?_
    show wpAny _ _ (Builtin.Dict.updateFrom "dict.__init__" σ.s.heap.objs.size (.ref l) [] .none) _ _ _
    unfold Builtin.Dict.updateFrom
    have hT:({ σ.s with heap:=σ.s.heap.push { cls:=.type "dict",data:=.dict #[] } }:Shared).TypeIs (.ref l) "list":=⟨_,L1,rfl⟩
    refine wpAny_bind (wpAny_typeOf hT ?_)
    rw[if_pos (by decide +kernel)]
    refine wpAny_bind (sized (list_no_keys L1 hh fun h' tk k sz=>?_))
    dsimp only
    rw[if_pos (by rfl)]
    refine wpAny_bind (wpAny_rule ?_)
    refine wpAny_bind (wpAny_pyIter_list (IsL.list (k _ _ L1)) ?_)
    refine wpAny_pure ⟨Code.quiet_builtin _ (by decide +kernel),?_⟩
    have sz:σ.s.heap.objs.size<h'.objs.size:=Nat.lt_of_lt_of_le (by rw[Heap.size_push];exact Nat.lt_succ_self _) sz
    refine dict_loop (A:=A.in1) (us:=vs) (i:=0) (tk:=tk) (kvs:=[]) (p:=(ks,us)) σ hh L (Nat.le_refl _) (Nat.le_of_lt sz) (Nat.ne_of_lt sz) (r.size▸hlim) hp hk r Ents.nil (Nat.zero_le _) (fun b ob e=>push_old _ _ (k _ _ (push_old _ _ e))) (DictOf.keep hnew fun o e=>push_old _ _ (k _ _ e)) ⟨_,Heap.get?_push_size _ rfl,rfl,rfl⟩ fun h₂ tk₂ kvs old hd₂ c=>⟨rfl,?_⟩
    have sz₂:σ.s.heap.objs.size≤h₂.objs.size:=hd₂.elim fun o q=>q.elim fun zz q=>q.elim fun zz q=>Nat.le_of_lt (Heap.lt_size q.1)
    exact q (σ.grow h₂ tk₂ old sz₂) (.dct _ _) _ To.grow (.mk (σ.I.fresh (Nat.le_refl _)) (.mk ⟨beq_false_of_ne (Nat.ne_of_gt (Nat.lt_of_lt_of_le X.lo σ.I.size)),hd₂,c.keys,Nat.le_trans c.few (Nat.le_of_lt (r.size▸hlim))⟩ ((c.vals.flat (Ents.flat (h:=h₂) (P:=fun zz=>True) (ρ:=[]) (p:=(ks,us)) hf rfl)).mono (Keep.grow old) List.prefix_rfl))) e
end
section
variable{X:Wd}{Z:Addr→Prop}{A:Around}{w:V×Hp}{Q:Value→Shared→Prop}{E:Value→Shared→Prop}{σ:Cg X Z}{K:KV}{own:Bool}{args:List V}{xs:List Value}
theorem le_line{n:Nat}(h:n<lim+1):n≤sizeLine:=Nat.le_trans (Nat.le_of_lt_succ h) (Nat.le_of_succ_le lim_size)
theorem lt_word{n:Nat}(h:n<lim+1):(n:Int)<2 ^ 63:=by
  have:=lim_is
  lia
theorem len_ok(rs:σ.vrs args xs)(e:biK .len own args σ.H K=some w)(q:Kv σ K w Q):wpAny (model X.prog X.w) A (call (.builtin "len") xs) Q E σ.s:=
  a1_el (Q:=fun xs=>wpAny _ A (call (.builtin "len") xs) Q E σ.s) rs e fun v x r e=>seq_el (Q:=fun x=>wpAny _ A (call (.builtin "len") [x]) Q E σ.s) (σ.con r) e
    (fun a xs n vs hl h1 h2 e=>Calls.call_len_list (IsL.list h1) (lt_word hl) (q.tok (v:=.int vs.length) ⟨_,by rw[h2]⟩ e))
    fun a xs vs hl h1 h2 e=>PyProof.Rows.len_tuple (h1.imp fun o h=>⟨h.1,h.2.1,h.2.2⟩) (lt_word hl) (q.tok (v:=.int vs.length) ⟨_,by rw[h2]⟩ e)
theorem list_ok(rs:σ.vrs args xs)(e:biK .list own args σ.H K=some w)(q:Kv σ K w Q):wpAny (model X.prog X.w) A (call (.type "list") xs) Q E σ.s:=
  a1_el (Q:=fun xs=>wpAny _ A (call (.type "list") xs) Q E σ.s) rs e fun v x r e=>lst_el (Q:=fun x=>wpAny _ A (call (.type "list") [x]) Q E σ.s) (σ.con r) e fun a xs n vs hl h1 r e=>by
    obtain⟨hl,e⟩:=gx_inv e
    exact sized (call_list_seq a (.inl rfl) h1 rfl rfl (fun h' c' k ho sz=>new_list (t:=σ.s.toks) (of_decide_eq_true hl) e k sz ho (Nat.le_refl _) r q) (le_line (r.size▸‹vs.length<lim+1›)))
theorem max_ok(hh:A.handled=none)(rs:σ.vrs args xs)(e:biK .max own args σ.H K=some w)(q:Kv σ K w Q):wpAny (model X.prog X.w) A (call (.builtin "max") xs) Q E σ.s:=
  a2_el (Q:=fun xs=>wpAny _ A (call (.builtin "max") xs) Q E σ.s) rs e fun v x u y rv ru e=>int_el (Q:=fun x=>wpAny _ A (call (.builtin "max") [x,y]) Q E σ.s) rv e fun i t e=>int_el (Q:=fun y=>wpAny _ A (call (.builtin "max") [.int i t,y]) Q E σ.s) ru e fun j u e=>
    sized (max_two_ints hh fun h' tk k sz=>q (σ.grow h' tk k sz) (.int (cs (decide (j>i)) j i)) _ To.grow (by
      by_cases h:j>i
      · rw[if_pos h,decide_eq_true h];exact⟨_,rfl⟩
      · rw[if_neg h,decide_eq_false h];exact⟨_,rfl⟩) e)
theorem sorted_ok(rs:σ.vrs args xs)(e:biK .sorted own args σ.H K=some w)(q:Kv σ K w Q):wpAny (model X.prog X.w) A (call (.builtin "sorted") xs) Q E σ.s:=
  a1_el (Q:=fun xs=>wpAny _ A (call (.builtin "sorted") xs) Q E σ.s) rs e fun v x r e=>lst_el (Q:=fun x=>wpAny _ A (call (.builtin "sorted") [x]) Q E σ.s) (σ.con r) e fun a xs n vs hl h1 r e=>by
    obtain⟨h0,e⟩:=gx_inv e
    cases vs with
    | cons v vs=>cases h0
    | nil=>
      have hy:xs=[].toArray:=Array.toList_inj.mp r
      cases hy
      refine sized (sorted_ints (vs:=[]) (ns:=[]) (IsL.list h1) .nil (by decide) fun out ns' a1 a2 a3 sz=>?_)
      cases List.perm_nil.mp a2
      cases ho:out.toList with
      | cons=>rw[ho]at a1;cases a1
      | nil=>exact(sortedAll_at σ.s.heap [] out).elim fun ep he=>new_list (t:=σ.s.toks) (of_decide_eq_true rfl) e (fun b o q=>sortedAll_old q) sz he (Nat.le_succ _) ho q
theorem isBool_ok(rs:σ.vrs args xs)(e:biK .isBool own args σ.H K=some w)(q:Kv σ K w Q):wpAny (model X.prog X.w) A (call (.builtin "isinstance") (xs++[.type "bool"])) Q E σ.s:=
  a1_el (Q:=fun xs=>wpAny _ A (call (.builtin "isinstance") (xs++[.type "bool"])) Q E σ.s) rs e fun v x r e=>by
    cases v with
    | none=>cases r;exact IsiPair.NoneType_bool (q.tok (v:=.bool false) rfl e)
    | bool b=>cases r;exact IsiPair.bool_bool (q.here (v:=.bool true) rfl e)
    | int i=>exact r.elim fun t h=>h▸IsiPair.int_bool (q.tok (v:=.bool false) rfl e)
    | str i=>exact r.elim fun y h=>h.elim fun t h=>h.2▸IsiPair.str_bool (q.tok (v:=.bool false) rfl e)
    | _=>exact nn e
theorem int_ok(rs:σ.vrs args xs)(e:biK .int own args σ.H K=some w)(q:Kv σ K w Q):wpAny (model X.prog X.w) A (call (.type "int") xs) Q E σ.s:=
  a1_el (Q:=fun xs=>wpAny _ A (call (.type "int") xs) Q E σ.s) rs e fun v x r e=>by
    cases v with
    | bool b=>cases r;exact call_int_bool (q.tok (v:=.int (cs b 1 0)) (by cases b<;>exact⟨_,rfl⟩) e)
    | _=>exact nn e
theorem bi_ok(hh:A.handled=none){b:Bi}(rs:σ.vrs args xs)(e:biK b own args σ.H K=some w)(q:Kv σ K w Q):wpAny (model X.prog X.w) A (call (biFn b) (xs++biRest b)) Q E σ.s:=by
  cases b with
  | isBool=>exact isBool_ok rs e q
  | len=>exact(List.append_nil xs).symm▸len_ok rs e q
  | list=>exact(List.append_nil xs).symm▸list_ok rs e q
  | dict=>exact(List.append_nil xs).symm▸dict_ok hh rs e q
  | max=>exact(List.append_nil xs).symm▸max_ok hh rs e q
  | sorted=>exact(List.append_nil xs).symm▸sorted_ok rs e q
  | int=>exact(List.append_nil xs).symm▸int_ok rs e q
end
end Mine
end
section
namespace Mine
open PySem PySem.W PySem.Calls PyProof.Rows
def Room2(A:Around)(d:Nat):Prop:=A.handled=none∧A.depth+3*d+8<recursionLimit∧A.units+40*d+180<cLine
def OrcOk(X:Wd)(C:Orc)(d:Nat):Prop:=∀ {f args v H' a A xs R} {Z:Addr→Prop} (σ:Cg X Z),C f args σ.H=some (v,H')→X.fn f=some a→Room2 A d→σ.vrs args xs→
  (∀ (τ:Cg X Z) x,To σ τ→τ.H=H'→τ.vr v x→R (.ok (.ret x)) τ.s)→codeAny (model X.prog X.w) A (.call (.ref a) ⟨xs,[]⟩) R σ.s
theorem Room.to2{A:Around}{d:Nat}(r:Room A d):Room2 A d:=⟨r.1,by have:=r.2.1;lia,by have:=r.2.2;lia⟩
section
variable{X:Wd}{A:Around}{C:Orc}{env:Env}{B:Bk}{cx:Cx}{d:Nat}{Z Z':Addr→Prop}{σ:Cg X Z}{K:KV}{w:V×Hp}{Q:Value→Shared→Prop}{E:Value→Shared→Prop}
theorem OrcOk.call(O:OrcOk X C d){f:Nat}{args:List V}(e:b2 (C f args σ.H) K=some w){a:Addr}(ha:X.fn f=some a){xs:List Value}(room:Room2 A d)(r:σ.vrs args xs)(q:Kv σ K w Q) :
    wpAny (model X.prog X.w) A (call (.ref a) xs) Q E σ.s:=by
  obtain⟨v,H',h,e⟩:=b2_inv e
  exact wpAny_call (O σ h ha room r fun τ x t eH rx=>q τ v x t rx (eH▸e))
theorem bp_at{α β γ:Type}{x:Option (α×β)}{a:α}{b:β}{k:α→β→Option γ}{w:γ}(e:bp x k=some w)(h:x=some (a,b)):k a b=some w:=by subst h;exact e
inductive PKV(X:Wd)(A:Around)(C:Orc)(env:Env)(B:Bk):List (Option PySem.Expr)→List PySem.Expr→List Ex→Prop where
  | nil:PKV X A C env B [] [] []
  | cons {k v ks vs a b l}:PE X A C env B k a→PE X A C env B v b→PKV X A C env B ks vs l→PKV X A C env B (some k::ks) (v::vs) (a::b::l)
theorem PKV.shape{ks:List (Option PySem.Expr)}{vs:List PySem.Expr}{l:List Ex}(h:PKV X A C env B ks vs l):ks.all (·.isSome)=true∧ks.length=vs.length:=by
  induction h with
  | nil=>exact⟨rfl,rfl⟩
  | cons _ _ _ ih=>exact⟨by rw[List.all_cons,ih.1];rfl,congrArg (·+1) ih.2⟩
def Kd{X:Wd}{Z:Addr→Prop}(σ:Cg X Z)(K:KL)(w:V×Hp)(Q:List (Value×Value)→Shared→Prop):Prop:=∀ τ us as bs ps,To σ τ→byTwo us=some (as,bs)→τ.vrs as (ps.map (·.1))→τ.vrs bs (ps.map (·.2))→K us τ.H=some w→Q ps τ.s
theorem PKV.pairs{ks:List (Option PySem.Expr)}{vs:List PySem.Expr}{l:List Ex}(h:PKV X A C env B ks vs l){pos:Pos}{loc:List V}(σ:Cg X Z){K:KL}{Q:List (Value×Value)→Shared→Prop}(ev:evEs X.T C l loc σ.H K=some w)(F:Frm X env B σ loc)(q:Kd σ K w Q) :
    wpAny (model X.prog X.w) A (evalPairs (pairTrees ks vs env pos)) Q E σ.s:=by
  induction h generalizing σ K Q with
  | nil=>exact evalPairs_nil (q σ [] [] [] [] StepF.refl rfl rfl rfl ev)
  | cons hk hv _ ih=>
    exact evalPairs_cons (hk σ ev F fun τ a x t rx ev=>wpAny_bind (hv τ ev (F.to t) fun υ b y t' ry ev=>wpAny_bind (wpAny_standAt (wpAny_pure (ih υ ev (F.to (t.trans t')) fun φ us as bs ps t'' h r1 r2 e=>q φ (a::b::us) (a::as) (b::bs) ((x,y)::ps) ((t.trans t').trans t'') (congrArg (b2 · fun a' b'=>some (a::a',b::b')) h) ⟨To.vr (t'.trans t'') rx,r1⟩ ⟨t''.vr ry,r2⟩ e)))))
theorem carries_of{h:Heap}{P:Addr→Prop}{ρ:List Foot}{as bs:List V}{ps:List (Value×Value)}(hk:as.all keyOk=true)(ra:VRs X h P as ρ (ps.map (·.1)))(rb:VRs X h P bs ρ (ps.map (·.2))) :
    ∃ kvs:List (Key×Value),Carries (dk X) ps kvs∧as.map (keyV X)=kvs.map (fun p=>some p.1)∧VRs X h P bs ρ (kvs.map (·.2)):=by
  induction ps generalizing as bs with
  | nil=>cases as with
    | nil=>exact⟨[],trivial,rfl,rb⟩
    | cons a as=>exact ra.elim
  | cons p ps ih=>cases as with
    | nil=>exact nomatch (show _::_=[]from ra)
    | cons a as=>cases bs with
      | nil=>exact nomatch (show _::_=[]from rb)
      | cons b bs=>
        have hk:=(Bool.and_eq_true _ _).mp hk
        obtain⟨k,kr,hi⟩:=VR.key hk.1 ra.1
        obtain⟨kvs,c,g1,g2⟩:=ih hk.2 ra.2 rb.2
        exact⟨(k,p.2)::kvs,⟨hi,rfl,c⟩,congr (congrArg _ kr) g1,rb.1,g2⟩
theorem Frm.keep{loc:List V}(f:Frm X env B σ loc){τ:Cg X Z'}(k:∀ b o,σ.s.heap.get? b=some o→τ.s.heap.get? b=some o)(kp:Keep σ.s.heap σ.P τ.s.heap τ.P)(e:σ.ρ <+: τ.ρ)(hz:∀ a,Z a→Z' a):Frm X env B τ loc where
  ns:=f.ns.imp fun m h=>⟨h.1.imp fun o=>Exists.imp fun es=>Exists.imp fun ep h=>⟨k _ _ h.1,h.2⟩,fun x i h1 h2 h3=>(h.2 x i h1 h2 h3).imp fun v h=>⟨h.1,h.2.mono kp e⟩⟩
  cells:=fun x i h1 h2=>(f.cells x i h1 h2).imp fun c=>Exists.imp fun ov h=>⟨h.1,hz _ h.2.1,h.2.2.1,h.2.2.2.1.imp fun o q=>⟨k _ _ q.1,q.2⟩,fun q=>(h.2.2.2.2 q).imp fun v h=>⟨h.1,h.2.mono kp e⟩⟩
  zl:=hz _ f.zl
  inj:=f.inj
  sinj:=f.sinj
  len:=f.len
  slt:=f.slt
theorem Frm.widen{loc:List V}{T:Addr→Prop}{h':Heap}(f:Frm X env B σ loc)(n:News σ.s h' T){t:Nat}:Frm X env B (σ.widen n t) loc:=f.keep n.old n.keep List.prefix_rfl fun zz=>.inl
theorem PE.dct{own:Bool}{ks:List (Option PySem.Expr)}{vs:List PySem.Expr}{l:List Ex}{pos}(h:PKV X A C env B ks vs l)(hl:ks.length≤15):PE X A C env B (.Dict ks vs pos) (.dct own l):=fun {Z} σ loc K w Q E ev F q=>by
  have nw:=news1 (s:=σ.s) (o:={ cls:=.type "dict",data:=.dict #[] })
  have hd0:(σ.s.heap.push { cls:=.type "dict",data:=.dict #[] }).DictOf (dk X) σ.s.heap.objs.size []:=Heap.DictOf.new _
  have sys:(σ.s.heap.objs.size==sysModules)=false:=beq_false_of_ne (Nat.ne_of_gt (Nat.lt_of_lt_of_le X.lo σ.I.size))
  have main:∀ (τ:Cg X (With Z (·=σ.s.heap.objs.size))) {as bs:List V} {h₂:Heap} {t:Nat} {kvs:List (Key×Value)},To (σ.widen nw σ.s.toks) τ→as.map (keyV X)=kvs.map (fun p=>some p.1)→τ.vrs bs (kvs.map (·.2))→mkDct own as bs τ.H K=some w→
      h₂.DictOf (dk X) σ.s.heap.objs.size (merged [] kvs)→Heap.SameBut σ.s.heap.objs.size τ.s.heap h₂→Q (.ref σ.s.heap.objs.size) { τ.s with heap:=h₂,toks:=t }:=by
    intro τ as bs h₂ t kvs st ka rb e hd sb
    have k:∀ b o,τ.s.heap.get? b=some o→¬b=σ.s.heap.objs.size→h₂.get? b=some o:=fun b o e n=>(sb.2 b n).trans e
    obtain⟨hc,e⟩:=gx_inv e
    have hlim:=Nat.le_of_lt (of_decide_eq_true ((Bool.and_eq_true _ _).mp hc).2)
    cases own with
    | true=>
      refine q (σ.adopt nw τ h₂ t k (Nat.le_of_eq sb.1.symm) (.dict _ _) ⟨σ.s.heap.objs.size,0⟩ (fun a h=>List.mem_singleton.mp h) (List.pairwise_singleton ..) fun kp=>?_) (.ref τ.H.length) _ (To.adopt nw st) ⟨_,Cg.last,rfl⟩ e
      have c:=Ents.nil.merged ka (rb.mono (ρ':=τ.ρ++[⟨σ.s.heap.objs.size,0⟩]) kp (List.prefix_append _ _))
      exact .mk ⟨sys,hd,c.keys,Nat.le_trans c.few (by rw[Nat.zero_add];exact hlim)⟩ c.vals
    | false=>
      obtain⟨hf,e⟩:=gx_inv e
      have c:=Ents.nil.merged ka ((rb.flat hf).mono (back_keep k) List.prefix_rfl)
      exact q (σ.leave nw τ h₂ t k (Nat.le_of_eq sb.1.symm)) (.dct _ _) _ (ToF.leave nw st fun zz h=>h.elim) (.mk (fun q=>q.elim (nw.apart (τ:=τ) rfl).2.2 (nw.apart (τ:=τ) rfl).2.1) (.mk ⟨sys,hd,c.keys,Nat.le_trans c.few (by rw[Nat.zero_add];exact hlim)⟩ c.vals)) e
  cases h with
  | nil=>exact wpAny_Dict_empty (main (σ.widen nw σ.s.toks) (kvs:=[]) (as:=[]) (bs:=[]) (t:=σ.s.toks) StepF.refl rfl rfl ev hd0 (Heap.SameBut.refl _ _))
  | cons hk hv hr=>
    have hh:=PKV.cons hk hv hr
    refine wpAny_Dict_pairs (knd:=dk X) (zip_pairTrees _ _ _ _ hh.shape.1 hh.shape.2) (by simp[pairTrees]) (by rw[pairTrees_length _ _ _ _ hh.shape.1 hh.shape.2];exact hl) ?_
    refine hh.pairs (σ.widen nw σ.s.toks) (loc:=loc) (K:=fun vs H=>bp (byTwo vs) fun a b=>mkDct own a b H K) (w:=w) ev (F.widen nw) fun τ us as bs ps t hb ra rb e=>?_
    replace e:mkDct own as bs τ.H K=some w:=bp_at (k:=fun a b=>mkDct own a b τ.H K) e hb
    obtain⟨kvs,c,g1,g2⟩:=carries_of ((Bool.and_eq_true _ _).mp (gx_inv e).1).1 ra rb
    exact⟨kvs,c,DictOf.keep hd0 fun o e=>t.keep _ _ e (fun q=>Nat.lt_irrefl _ (σ.I.owned_lt q)) id,fun h₂ hd sb=>main τ t g1 g2 e hd sb⟩
theorem PE.frz{e:PySem.Expr}{a:Ex}(h:PE X A C env B e a):PE X A C env B e (.frz a):=fun σ zz zz zz zz zz ev F q=>
  h σ ev F fun τ v x t r ev=>frzK_ok r ev fun υ u es t' r e=>es▸q υ u x (t.trans t') r.up e
theorem call_by{f:Value}{first:List Value}{es:List PySem.Expr}{exs:List Ex}(h:PLs X A C env B es exs){pos:Pos}{P:Heap→Prop}(hk:∀ h,P h→∃ k,(k=Keeper.frame∨k=Keeper.machine∨k=Keeper.boundFrame)∧Looks (model X.prog X.w) h (keeperOf f) k)
    {loc:List V} {K:KL} (ev:evEs X.T C exs loc σ.H K=some w) (F:Frm X env B σ loc) (k:Kl σ K w fun xs s=>P s.heap∧wpAny (model X.prog X.w) A (call f (first++xs)) Q E s) :
    wpAny (model X.prog X.w) A (callWith pos f first (backTo pos (starEach es env)) []) Q E σ.s:=by
  refine callWith_of (by rw[h.plain];rfl) hk ?_
  cases h with
  | nil=>exact PySem.evalArgs_none (k σ [] [] StepF.refl rfl ev)
  | cons h1 hr=>
    have:=PLs.all (PLs.cons h1 hr) σ (pos:=pos) (E:=E) ev F k
    rw[star_cons h1.star]at this ⊢
    exact Calls.evalArgs_plain this
theorem PE.call(W:WdOk X cx)(hE:EnvOk env B)(O:OrcOk X C d)(room:Room A d){f:Str}{p pos}{es:List PySem.Expr}{exs:List Ex}{n:Nat}(hg:isGlob B f=true)(hd:f≠("__debug__" : Str)) (ht:cx.tops.contains f=true) (hi:idx f cx.fns=some n) (h:PLs X A C env B es exs) :
    PE X A C env B (.Call (.Name f p) es [] pos) (.call n exs):=fun σ zz zz zz zz zz ev F q=>
  (W.fns f n ht hi).elim fun a ha=>wpAny_Call_Name_kw (global_ok W hE hg hd ha.1 (call_by h (keeps_K (W.keep n a ha.2)) ev F fun τ vs xs t r e=>⟨τ.kin W.kin,O.call e ha.2 room.to2 r (q.from t)⟩))
theorem under_type{A:Around}{Cl:Addr}{xs:List Value}{d:Nat}(r:Room A d):Room2 (A.under (.builtin "type.__call__" ⟨.ref Cl::xs,[]⟩)) d:=by
  have h:=r.2
  refine⟨r.1,?_,?_⟩
  · show A.depth+1+3*d+8<_
    lia
  · show A.units+1+40*d+180<_
    lia
theorem new_ok(W:WdOk X cx)(O:OrcOk X C d)(room:Room A d){c:Nat}{Cl:Addr}(hC:X.cls c=some Cl){args:List V}(e:newK X.T C c args σ.H K=some w){xs:List Value}(r:σ.vrs args xs)(q:Kv σ K w Q) :
    wpAny (model X.prog X.w) A (call (.ref Cl) xs) Q E σ.s:=by
  have ok:=W.cls c Cl hC
  have adopt:∀ {Z:Addr→Prop} (τ:Cg X Z),∃ υ:Cg X Z,υ.s={ τ.s with heap:=(τ.s.heap.push emptyDict).push (instObj Cl τ.s.heap.objs.size) }∧υ.H=τ.H++[.inst c []]∧υ.ρ=τ.ρ++[⟨τ.s.heap.objs.size+1,τ.s.heap.objs.size⟩]∧To τ υ:=by
    intro Z τ
    have nw:News τ.s ((τ.s.heap.push emptyDict).push (instObj Cl τ.s.heap.objs.size)) (fun a=>a=τ.s.heap.objs.size+1∨a=τ.s.heap.objs.size):=⟨fun b o e=>push_old _ _ (push_old _ _ e),Nat.le_trans push_size push_size,fun a h=>h.elim (fun h=>h▸Nat.le_succ _) fun h=>Nat.le_of_eq h.symm,fun a h=>by
      rw[Heap.size_push,Heap.size_push]
      exact h.elim (fun h=>h▸Nat.lt_succ_self _) fun h=>h▸Nat.lt_succ_of_lt (Nat.lt_succ_self _)⟩
    have hx:((τ.s.heap.push emptyDict).push (instObj Cl τ.s.heap.objs.size)).get? (τ.s.heap.objs.size+1)=some (instObj Cl τ.s.heap.objs.size):=by
      have:=Heap.get?_push_size (o:=instObj Cl τ.s.heap.objs.size) (τ.s.heap.push emptyDict) rfl
      rwa [Heap.size_push]at this
    have hd:((τ.s.heap.push emptyDict).push (instObj Cl τ.s.heap.objs.size)).get? τ.s.heap.objs.size=some (dictOf [] 0):=push_old _ _ (Heap.get?_push_size _ rfl)
    exact⟨τ.adopt nw (τ.widen nw τ.s.toks) ((τ.s.heap.push emptyDict).push (instObj Cl τ.s.heap.objs.size)) τ.s.toks (fun zz zz e zz=>e) (Nat.le_refl _) (.inst c []) ⟨τ.s.heap.objs.size+1,τ.s.heap.objs.size⟩ (fun a h=>(List.mem_cons.mp h).imp id List.mem_singleton.mp) (List.nodup_cons.mpr ⟨fun h=>Nat.succ_ne_self _ (List.mem_singleton.mp h),List.pairwise_singleton ..⟩) (fun kp=>⟨Nat.succ_ne_self _,.mk (C:=Cl) (es:=[]) (n:=0) ⟨hC,hx,hd,trivial⟩ rfl⟩),rfl,rfl,rfl,To.adopt nw StepF.refl⟩
  have go:∀ {b:Bool} {k:Nat} {R:Result→Shared→Prop},X.T.init c=some (b,k)→(∀ fI,X.fn k=some fI→codeAny (model X.prog X.w) (A.under (.builtin "type.__call__" ⟨.ref Cl::xs,[]⟩)) (.call (.ref fI) ⟨.ref (σ.s.heap.objs.size+1)::xs,[]⟩) (InitBack (σ.s.heap.objs.size+1) R) { σ.s with heap:=(σ.s.heap.push emptyDict).push (instObj Cl σ.s.heap.objs.size) })→
      codeAny (model X.prog X.w) A (.call (.ref Cl) ⟨xs,[]⟩) R σ.s:=fun hk h=>
    (ok.init _ _ hk).elim fun fI p=>make_core (makes_of (σ.kin W.kin) ok.makes) (looks_findIn (σ.kin W.kin) p.1) (fun self=>bind_fn (σ.kin W.kin) self (beq_iff_eq.mp p.2.1)) (.inl rfl) (h fI p.2.2)
  obtain⟨b,f,hk,e⟩:=bp_inv e
  refine wpAny_call (go hk fun fI hfI=>?_)
  cases b with
  | true=>
    obtain⟨us,H1,e1,e⟩:=bp_inv e
    obtain⟨u,H2,e2,e⟩:=b2_inv e
    obtain⟨_,hu,e'⟩:=bx_inv e
    obtain⟨v,_,e3,e4⟩:=b2_inv e'
    have p:=each_ok (frz_ok 8) σ e1 r
    let σ1:Cg X Z:=⟨σ.s,σ.ρ,H1,p.1.inv⟩
    obtain⟨υ,hs,hH,hρ,t⟩:=adopt σ1.pure
    have r0:υ.vr (.ref 0) (.ref (σ.s.heap.objs.size+1)):=⟨⟨σ.s.heap.objs.size+1,σ.s.heap.objs.size⟩,by rw[hρ];rfl,rfl⟩
    refine hs▸O υ (show C f (.ref 0::us) υ.H=some (u,H2)from hH▸e2) hfI (under_type room) ⟨r0,To.vrs t (VRs.mono (pure_keep (σ:=σ1)) List.prefix_rfl p.2)⟩ fun τ x t' eH rx=>?_
    cases u with
    | none=>
      cases rx
      subst eH
      have p3:=frz_ok 8 τ e3 (t'.vr r0)
      exact⟨rfl,q (σ1.unpure _ ((t.trans t').trans (p3.1.frz.to τ p3.1.inv))) v _ ((p.1.frz.to σ p.1.inv).trans (To.unpure _)) (unpure_vr _ p3.2) e4⟩
    | _=>exact nn hu
  | false=>
    obtain⟨u,H1,e2,e⟩:=b2_inv e
    obtain⟨_,hu,e4⟩:=bx_inv e
    obtain⟨υ,hs,hH,hρ,t⟩:=adopt σ
    have r0:υ.vr (.ref σ.H.length) (.ref (σ.s.heap.objs.size+1)):=⟨⟨σ.s.heap.objs.size+1,σ.s.heap.objs.size⟩,by rw[hρ];exact Cg.last,rfl⟩
    refine hs▸O υ (show C f (.ref σ.H.length::args) υ.H=some (u,H1)from hH▸e2) hfI (under_type room) ⟨r0,t.vrs r⟩ fun τ x t' eH rx=>?_
    cases u with
    | none=>
      cases rx
      subst eH
      exact⟨rfl,q τ (.ref σ.H.length) _ (t.trans t') (t'.vr r0) e4⟩
    | _=>exact nn hu
theorem PE.new(W:WdOk X cx)(hE:EnvOk env B)(O:OrcOk X C d)(room:Room A d){f:Str}{p pos}{es:List PySem.Expr}{exs:List Ex}{n:Nat}(hg:isGlob B f=true)(hd:f≠("__debug__" : Str)) (hi:idx f cx.clss=some n) (h:PLs X A C env B es exs) :
    PE X A C env B (.Call (.Name f p) es [] pos) (.new n exs):=fun σ zz zz zz zz zz ev F q=>
  (W.clss f n hi).elim fun a ha=>wpAny_Call_Name_kw (global_ok W hE hg hd ha.1 (call_by h (keeps_K (W.keepC n a ha.2)) ev F fun τ vs xs t r e=>⟨τ.kin W.kin,new_ok W O room ha.2 e r (q.from t)⟩))
theorem methodCall_ok{o:PySem.Expr}{name:Str}{ap pos:Pos}{es:List PySem.Expr}{exs:List Ex}(h:PLs X A C env B es exs)(hl:(ap.endLine==pos.line)=true)(hf:es.length<30){ov:Value}{f:Value}{first:List Value}{s:Shared}
    (g:∀ (pl:Sem Bool) (Q:Value×List Value→Shared→Prop),Q (f,first) s→wpAny (model X.prog X.w) A (getMethod ov name pl) Q E s)
    (k:wpAny (model X.prog X.w) A (callWith pos f first (backTo pos (starEach es env)) []) Q E s) :
    wpAny (model X.prog X.w) A (methodCall o name ap pos env ov (es.length+([]:List Keyword).length) (backTo pos (starEach es env)) (backToKw pos (keywordEach [] env))) Q E s:=by
  have hform:methodCallForm (es.length+([]:List Keyword).length) (backTo pos (starEach es env)) (backToKw pos (keywordEach [] env))=true:=by
    have h1:(backTo pos (starEach es env)).all (fun x=>!x.1)=true:=by rw[←List.not_any_eq_all_not,h.plain];rfl
    unfold methodCallForm
    rw[h1]
    exact decide_eq_true hf
  have hpos:methodCallPos true o env ap pos=pure pos:=by unfold methodCallPos;rw[hl];rfl
  unfold methodCall
  rw[hform]
  exact wpAny_bind (wpAny_holding (g _ _ (wpAny_bind (wpAny_of_eq hpos k))))
theorem kind_at{m:Nat}{a:V}{x:Value}(e:kindV σ.H m a=true)(r:σ.vr a x):m≤4∧σ.s.TypeIs x (mTy m)∧∀ l,x=.ref l→∃ ob,σ.s.heap.get? l=some ob∧ob.dict=none:=by
  have isL:(lstC (con σ.H a)).isSome=true→σ.s.TypeIs x "list"∧∀ l,x=.ref l→∃ ob,σ.s.heap.get? l=some ob∧ob.dict=none:=fun e=>
    (Option.isSome_iff_exists.mp e).elim fun vs h=>lst_el (Q:=fun x=>σ.s.TypeIs x "list"∧∀ l,x=.ref l→∃ ob,σ.s.heap.get? l=some ob∧ob.dict=none) (w:=(.none,[])) (k:=fun zz=>some (.none,[])) (σ.con r) (by rw[h];rfl) fun a xs n vs zz h1 zz zz=>⟨(IsL.list h1).typeIs,fun l e=>Value.ref.inj e▸⟨_,h1,rfl⟩⟩
  have isD:(dctC (con σ.H a)).isSome=true→σ.s.TypeIs x "dict"∧∀ l,x=.ref l→∃ ob,σ.s.heap.get? l=some ob∧ob.dict=none:=fun e=>
    (Option.isSome_iff_exists.mp e).elim fun vs h=>dct_el (Q:=fun x=>σ.s.TypeIs x "dict"∧∀ l,x=.ref l→∃ ob,σ.s.heap.get? l=some ob∧ob.dict=none) (w:=(.none,[])) (k:=fun zz zz=>some (.none,[])) (σ.con r) (by rw[h];rfl) fun a kvs ks vs h1 zz zz=>⟨h1.is.typeIs,fun l e=>Value.ref.inj e▸h1.is.imp fun o q=>q.elim fun zz q=>q.elim fun zz q=>⟨q.1,q.2.1.2.1⟩⟩
  cases m with
  | zero=>exact⟨by decide,isL e⟩
  | succ m=>cases m with
    | zero=>exact⟨by decide,isL e⟩
    | succ m=>cases m with
      | zero=>exact⟨by decide,isL e⟩
      | succ m=>cases m with
        | zero=>exact⟨by decide,isL e⟩
        | succ m=>cases m with
          | zero=>exact⟨by decide,isD e⟩
          | succ m=>exact absurd e Bool.false_ne_true
theorem PE.meth(W:WdOk X cx)(O:OrcOk X C d)(room:Room A d){o:PySem.Expr}{name:Str}{ap pos:Pos}{a:Ex}{m:Nat}{es:List PySem.Expr}{exs:List Ex}(hs:noSuper o=true)(hl:(ap.endLine==pos.line)=true)(hf:es.length<30)(ho:PE X A C env B o a)(hn:idx name cx.names=some m)
    (h:PLs X A C env B es exs):PE X A C env B (.Call (.Attribute o name ap) es [] pos) (.meth a m exs):=fun σ loc K w Q E ev F q=>by
  rw[arm_eval_Call,base_whole hs]
  refine wpAny_bind (ho σ ev F fun τ v x t r ev=>wpAny_bind (wpAny_standAt ?_))
  cases hc:insC (con τ.H v)with
  | some c=>
    rw[hc]at ev
    obtain⟨f,hm,ev⟩:=bx_inv ev
    refine ins_el (Q:=fun x=>τ.vr v x→wpAny _ A (methodCall o name ap pos env x (es.length+([]:List Keyword).length) (backTo pos (starEach es env)) (backToKw pos (keywordEach [] env))) Q E τ.s) (k:=fun c' zz=>if c'=c.1 then some w else Option.none) (w:=w) (τ.con r) (by rw[hc];exact if_pos rfl) (fun l dx Cl es' n c' vs h1 h2 hcc r=>?_) r
    have hcc:c'=c.1:=Decidable.of_not_not fun h=>nn ((if_neg h).symm.trans hcc)
    subst hcc
    obtain⟨nm,fa,g1,g2,g3,g4,g5⟩:=(W.cls _ Cl h1.cls).meth m f hm
    cases(W.names _ _ hn).symm.trans g1
    have ok:=W.cls _ Cl h1.cls
    refine methodCall_ok (f:=.ref fa) (first:=[.ref l]) h hl hf (fun pl Q q=>method_fn (τ.kin W.kin) h1.inst (plainGet_of ok.get).1 (plainGet_of ok.get).2 g3 (beq_iff_eq.mp g4) (by show(lookIn name (dictOf es' n)).map _=_;rw[lookIn_dict,h1.ents.miss g2];rfl) q) ?_
    exact call_by h (keeps_K (W.keep f fa g5)) ev (F.to t) fun υ vs xs t' rs e=>⟨υ.kin W.kin,O.call e g5 room.to2 ⟨t'.vr r,rs⟩ (q.from (t.trans t'))⟩
  | none=>
    rw[hc]at ev
    obtain⟨hk,ev⟩:=gx_inv ev
    obtain⟨hM,hT,hdn⟩:=kind_at hk r
    have hname:name=mName m:=by
      have h1:=W.names _ _ hn
      obtain⟨m0,m1,m2,m3,m4⟩:=W.meths
      exact mCases (P:=fun m=>X.N m=some name→name=mName m) hM (fun h=>Option.some.inj (h.symm.trans m0)) (fun h=>Option.some.inj (h.symm.trans m1)) (fun h=>Option.some.inj (h.symm.trans m2)) (fun h=>Option.some.inj (h.symm.trans m3)) (fun h=>Option.some.inj (h.symm.trans m4)) h1
    rw[hname]
    refine methodCall_ok (f:=.builtin (mId m)) (first:=[x]) h hl hf (fun pl Q q=>getMethod_builtin hT (mPlain m hM) (mSlot m hM) (mType m hM) hdn q) ?_
    exact call_by h (P:=fun zz=>True) (fun h zz=>⟨.machine,.inr (.inl rfl),Looks.of_pure rfl⟩) ev (F.to t) fun υ vs xs t' rs e=>⟨trivial,meth_ok hM (t'.vr r) rs e fun φ u y t'' ru e=>q φ _ y ((t.trans t').trans t'') (φ.view ru) e⟩
end
end Mine
end
section
namespace Mine
open PySem PySem.W PySem.Calls PyProof.Rows
def FW(env:Env)(B:Bk):Addr→Prop:=fun a=>a=env.locals∨∃ x i,B.slots.lookup x=some i∧B.scope.names.lookup x=some .cell∧env.cells.lookup x=some a
theorem slot_put_same{loc:List V}{i:Nat}{v:V}(h:i<loc.length):slot (put loc i v) i=v:=by
  induction loc generalizing i with
  | nil=>exact absurd h (Nat.not_lt_zero _)
  | cons a l ih=>cases i with
    | zero=>rfl
    | succ i=>exact ih (Nat.lt_of_succ_lt_succ h)
theorem slot_put_ne{loc:List V}{i j:Nat}{v:V}(h:j≠i):slot (put loc i v) j=slot loc j:=by
  induction loc generalizing i j with
  | nil=>rfl
  | cons a l ih=>cases i with
    | zero=>cases j with
      | zero=>exact absurd rfl h
      | succ j=>rfl
    | succ i=>cases j with
      | zero=>rfl
      | succ j=>exact ih fun e=>h (congrArg _ e)
theorem put_length(loc:List V)(i:Nat)(v:V):(put loc i v).length=loc.length:=by
  induction loc generalizing i with
  | nil=>rfl
  | cons a l ih=>cases i with
    | zero=>rfl
    | succ i=>exact congrArg (·+1) (ih i)
theorem cell_ne_ns{h:Heap}{c L:Addr}{ov:Option Value}{m:Str→Option Value}(hc:h.IsCell c ov)(hn:h.Ns L m):c≠L:=fun e=>
  hc.elim fun o p=>hn.elim fun o' q=>q.elim fun es q=>q.elim fun ep q=>by
    have:=p.2.symm.trans ((congrArg Obj.data (Option.some.inj (p.1.symm.trans (e▸q.1)))).trans q.2.1)
    cases this
section
variable{X:Wd}{A:Around}{env:Env}{B:Bk}{Z Z' T F:Addr→Prop}{σ τ:Cg X Z}{loc:List V}{E:Value→Shared→Prop}
theorem Frm.fw(F:Frm X env B σ loc)(a:Addr)(h:FW env B a):Z a:=h.elim (fun h=>h▸F.zl) fun h=>h.elim fun x h=>h.elim fun i h=>F.zc h.1 (.inl h.2.1) h.2.2
theorem isOwnW_inv{x:Str}{i:Nat}(h:isOwnW B x=some i):B.slots.lookup x=some i∧(B.scope.names.lookup x=some .local∨B.scope.names.lookup x=some .cell):=by
  unfold isOwnW at h
  cases e:B.scope.names.lookup x with
  | none=>rw[e]at h;exact nn h
  | some k=>
    rw[e]at h
    cases k with
    | «local»=>exact⟨h,.inl rfl⟩
    | cell=>exact⟨h,.inr rfl⟩
    | _=>exact nn h
theorem kinds_apart{x y:Str}{k l:NameKind}(h:k≠l)(h1:B.scope.names.lookup x=some k)(h2:B.scope.names.lookup y=some l):x≠y:=fun e=>h (Option.some.inj (h1.symm.trans (e▸h2)))
theorem isC_ne{x y:Str}(h1:B.scope.names.lookup x=some .local)(h2:IsC B y):y≠x:=fun e=>h2.elim (fun q=>kinds_apart (k:=.local) (l:=.cell) nofun h1 q e.symm) fun q=>kinds_apart (k:=.local) (l:=.free) nofun h1 q e.symm
theorem store_ok(hE:EnvOk env B)(F:Frm X env B σ loc){x:Str}{i:Nat}(hx:isOwnW B x=some i){v:V}{y:Value}(r:σ.vr v y){Q:Unit→Shared→Prop}(q:∀ τ,ToF (FW env B) σ τ→τ.H=σ.H→Frm X env B τ (put loc i v)→Q () τ.s) :
    wpAny (model X.prog X.w) A (storeName env x y) Q E σ.s:=by
  obtain⟨hx,hk⟩:=isOwnW_inv hx
  obtain⟨m,hm,hv⟩:=F.ns
  have hil:i<loc.length:=F.len▸F.slt x i hx
  have ne:∀ {z j},B.slots.lookup z=some j→z≠x→slot (put loc i v) j=slot loc j:=fun h1 h=>slot_put_ne fun e=>h (F.sinj _ x i (e▸h1) hx)
  rcases hk with hk|hk
  · rcases hE.names x _ hk with e|⟨e,_⟩
    · refine wpAny_storeName_local e hm (fun h' hm' sb=>?_) (by rw[hE.kind];rfl)
      have k:∀ b o,σ.s.heap.get? b=some o→¬FW env B b→h'.get? b=some o:=fun b o e n=>(sb.2 b fun q=>n (.inl q)).trans e
      have t:ToF (FW env B) σ (σ.zone h' (σ.s.toks+1) F.fw k (Nat.le_of_eq sb.1.symm)):=ToF.zone
      refine q _ t rfl ⟨⟨_,hm',fun z j h1 h2 h3=>?_⟩,fun z j h1 h2=>?_,F.zl,F.inj,F.sinj,(put_length ..).trans F.len,F.slt⟩
      · by_cases hz:z=x
        · subst hz
          cases h1.symm.trans hx
          rw[slot_put_same hil]
          exact⟨y,if_pos rfl,t.vr F.fw r⟩
        · rw[ne h1 hz]at h3 ⊢
          exact(hv z j h1 h2 h3).imp fun u h=>⟨(if_neg hz).trans h.1,t.vr F.fw h.2⟩
      · unfold CelAt
        rw[ne h1 (isC_ne hk h2)]
        exact(F.cells z j h1 h2).imp fun c=>Exists.imp fun ov h=>⟨h.1,h.2.1,h.2.2.1,h.2.2.2.1.sameBut sb (cell_ne_ns h.2.2.2.1 hm),fun g=>(h.2.2.2.2 g).imp fun u h=>⟨h.1,t.vr F.fw h.2⟩⟩
    · cases e
  · rcases hE.names x _ hk with e|⟨e,_⟩
    · obtain⟨c,ov,e1,z,n,hcell,_⟩:=F.cells x i hx (.inl hk)
      refine wpAny_storeName_cell hE.kind e e1 hcell fun h' hc' sb=>?_
      have k:∀ b o,σ.s.heap.get? b=some o→¬FW env B b→h'.get? b=some o:=fun b o e n=>(sb.2 b fun q=>n (.inr ⟨x,i,hx,hk,q▸e1⟩)).trans e
      have t:ToF (FW env B) σ (σ.zone h' σ.s.toks F.fw k (Nat.le_of_eq sb.1.symm)):=ToF.zone
      refine q _ t rfl ⟨⟨m,hm.sameBut sb (Ne.symm (cell_ne_ns hcell hm)),fun z j h1 h2 h3=>?_⟩,fun z j h1 h2=>?_,F.zl,F.inj,F.sinj,(put_length ..).trans F.len,F.slt⟩
      · rw[ne h1 (kinds_apart (k:=.local) (l:=.cell) nofun h2 hk)]at h3 ⊢
        exact(hv z j h1 h2 h3).imp fun u h=>⟨h.1,t.vr F.fw h.2⟩
      · unfold CelAt
        by_cases hz:z=x
        · subst hz
          cases h1.symm.trans hx
          rw[slot_put_same hil]
          exact⟨c,some y,e1,‹Z c›,n,hc',fun zz=>⟨y,rfl,t.vr F.fw r⟩⟩
        · rw[ne h1 hz]
          exact(F.cells z j h1 h2).imp fun c'=>Exists.imp fun ov' h=>⟨h.1,h.2.1,h.2.2.1,h.2.2.2.1.sameBut sb fun e=>hz (F.inj z x c h2 (.inl hk) (fun q=>nn (q.symm.trans h1)) (fun q=>nn (q.symm.trans hx)) (e▸h.1) e1),fun g=>(h.2.2.2.2 g).imp fun u h=>⟨h.1,t.vr F.fw h.2⟩⟩
    · cases e
inductive TgtOk:Bool→PySem.Expr→Prop where
  | one {x p}:TgtOk false (.Name x p)
  | two {es k p}:TgtOk true (.Tuple es k p)
def AllTwo(two:Bool)(vs:List V):Prop:=two=true→∀ v∈vs,(pair1 v).isSome=true
structure Qt(T:Addr→Prop)(σ τ:Cg X Z):Prop where
  to:ToF T σ τ
  H:τ.H=σ.H
  ρ:τ.ρ=σ.ρ
structure Hd(T:Addr→Prop)(σ:Cg X Z)(τ:Cg X Z'):Prop where
  own:∀ b o,T b→σ.s.heap.get? b=some o→τ.s.heap.get? b=some o
  kp:Keep σ.s.heap σ.P τ.s.heap τ.P
  ext:σ.ρ <+: τ.ρ
theorem ToF.hd(t:ToF F σ τ)(hF:∀ a,F a→Z a)(hT:∀ a,T a→Z a)(h:∀ a,F a→¬T a):Hd T σ τ:=⟨fun b o hb e=>t.keep b o e (fun q=>(σ.I.apart b q).2 (hT b hb)) fun f=>h b f hb,StepF.kp t hF,t.ext⟩
theorem Hd.widen{T':Addr→Prop}{h':Heap}{t:Nat}(n:News σ.s h' T'):Hd T σ (σ.widen n t):=⟨fun b o zz=>n.old b o,n.keep,List.prefix_rfl⟩
noncomputable def Cg.quiet (σ:Cg X Z) (hT:∀ a,T a→Z a) (h':Heap) (t:Nat) (k:∀ b o,¬T b→σ.s.heap.get? b=some o→h'.get? b=some o) (sz:σ.s.heap.objs.size≤h'.objs.size):Cg X Z:=σ.zone h' t hT (fun b o e n=>k b o n e) sz
theorem Qt.quiet{h':Heap}{t:Nat}{hT k sz}:Qt T σ (σ.quiet (T:=T) hT h' t k sz):=⟨ToF.zone,rfl,rfl⟩
theorem Qt.trans{υ:Cg X Z}(a:Qt T σ τ)(b:Qt T τ υ):Qt T σ υ:=⟨a.to.trans b.to,b.H.trans a.H,b.ρ.trans a.ρ⟩
variable(X A)in
structure PrG(T:Addr→Prop)(I:Addr)(tgt:PySem.Expr)(S:Type)(nxt:S→Hp→Option (Option (V×S)))(Live:∀ Z,Cg X Z→S→Prop):Prop where
  item:∀ {Z} (σ:Cg X Z) {c c' v} {Q:Option Value→Shared→Prop} {E:Value→Shared→Prop},(∀ a,T a→Z a)→Live Z σ c→nxt c σ.H=some (some (v,c'))→
    (∀ τ x,Qt T σ τ→τ.vr v x→(∀ {Q':Unit→Shared→Prop} {E':Value→Shared→Prop},(∀ υ,Qt T σ υ→υ.vr v x→Live Z υ c'→Q' () υ.s)→wpAny (model X.prog X.w) A (letOwnedTupleGo tgt (.ref I) x) Q' E' τ.s)→Q (some x) τ.s)→
    wpAny (model X.prog X.w) A (pyNext (.ref I)) Q E σ.s
  done:∀ {Z} (σ:Cg X Z) {c} {Q:Option Value→Shared→Prop} {E:Value→Shared→Prop},(∀ a,T a→Z a)→Live Z σ c→nxt c σ.H=some none→(∀ τ,Qt T σ τ→Q none τ.s)→wpAny (model X.prog X.w) A (pyNext (.ref I)) Q E σ.s
  stable:∀ {Z Z'} {σ:Cg X Z} {τ:Cg X Z'} {c},Live Z σ c→Hd T σ τ→Live Z' τ c
  self:∀ {Z} {σ:Cg X Z} {c} {Q:Value→Shared→Prop} {E:Value→Shared→Prop},Live Z σ c→Q (.ref I) σ.s→wpAny (model X.prog X.w) A (pyIter (.ref I)) Q E σ.s
noncomputable def nxtL:List V→Hp→Option (Option (V×List V))
  | [],_=>some none
  | v::r,_=>some (some (v,r))
variable(X A)in
structure Pr(T:Addr→Prop)(I:Addr)(tgt:PySem.Expr)(Live:∀ Z,Cg X Z→List V→Prop):Prop where
  item:∀ {Z} (σ:Cg X Z) {c v} {Q:Option Value→Shared→Prop} {E:Value→Shared→Prop},(∀ a,T a→Z a)→Live Z σ (v::c)→
    (∀ τ x,Qt T σ τ→τ.vr v x→(∀ {Q':Unit→Shared→Prop} {E':Value→Shared→Prop},(∀ υ,Qt T σ υ→υ.vr v x→Live Z υ c→Q' () υ.s)→wpAny (model X.prog X.w) A (letOwnedTupleGo tgt (.ref I) x) Q' E' τ.s)→Q (some x) τ.s)→
    wpAny (model X.prog X.w) A (pyNext (.ref I)) Q E σ.s
  done:∀ {Z} (σ:Cg X Z) {Q:Option Value→Shared→Prop} {E:Value→Shared→Prop},(∀ a,T a→Z a)→Live Z σ []→(∀ τ,Qt T σ τ→Q none τ.s)→wpAny (model X.prog X.w) A (pyNext (.ref I)) Q E σ.s
  stable:∀ {Z Z'} {σ:Cg X Z} {τ:Cg X Z'} {c},Live Z σ c→Hd T σ τ→Live Z' τ c
  self:∀ {Z} {σ:Cg X Z} {c} {Q:Value→Shared→Prop} {E:Value→Shared→Prop},Live Z σ c→Q (.ref I) σ.s→wpAny (model X.prog X.w) A (pyIter (.ref I)) Q E σ.s
theorem Pr.toG{I:Addr}{tgt:PySem.Expr}{Live:∀ Z,Cg X Z→List V→Prop}(p:Pr X A T I tgt Live):PrG X A T I tgt (List V) nxtL Live where
  item:=fun σ c c' v Q E hT l n k=>by
    cases c with
    | nil=>cases n
    | cons a r=>cases n;exact p.item σ hT l k
  done:=fun σ c Q E hT l n k=>by
    cases c with
    | nil=>exact p.done σ hT l k
    | cons a r=>cases n
  stable:=p.stable
  self:=p.self
theorem drop_cons{us rest:List V}{v:V}{i:Nat}(h:v::rest=us.drop i):nth us i=some v∧rest=us.drop (i+1):=
  ⟨by rw[nth_get,←Nat.add_zero i,←List.getElem?_drop,←h];rfl,by rw[←List.drop_drop,←h];rfl⟩
theorem drop_nil{us:List V}{i:Nat}(h:[]=us.drop i):us.length≤i:=List.drop_eq_nil_iff.mp h.symm
def LiveL(X:Wd)(l I:Addr)(two:Bool)(Z:Addr→Prop)(σ:Cg X Z)(c:List V):Prop:=∃ us i,σ.fr (.lst us) (.ref l)∧σ.s.heap.IsListIter I l i∧c=us.drop i∧AllTwo two us
theorem nth_mem{vs:List V}{i:Nat}{v:V}(h:nth vs i=some v):v∈vs:=List.mem_of_getElem? (nth_get▸h)
theorem go_two{two:Bool}{tgt:PySem.Expr}(ht:TgtOk two tgt){v:V}{x:Value}{h:Heap}{P:Addr→Prop}{ρ:List Foot}(r:VR X h P v ρ x){us:List V}(h2:AllTwo two us)(m:v∈us){I:Value}{Q:Unit→Shared→Prop}{s:Shared}
    (go:∀ {es k p t},wpAny (model X.prog X.w) A (letOwnedTupleGo (.Tuple es k p) I (.ref t)) Q E s) (q:Q () s):wpAny (model X.prog X.w) A (letOwnedTupleGo tgt I x) Q E s:=by
  cases ht with
  | one=>exact wpAny_pure q
  | two=>exact(Option.isSome_iff_exists.mp (h2 rfl v m)).elim fun p hp=>pair_el (Q:=fun x=>wpAny _ A (letOwnedTupleGo _ I x) Q E s) r hp fun zz zz zz zz zz zz=>go
theorem Pr.list(hh:A.handled=none){l I:Addr}{two:Bool}{tgt:PySem.Expr}(ht:TgtOk two tgt):Pr X A (·=I) I tgt (LiveL X l I two) where
  item:=fun σ c v Q E hT ⟨us,i,r,hit,hd,h2⟩ k=>by
    obtain⟨hv,hr⟩:=drop_cons hd
    refine Is.el (Q:=fun x=>x=.ref l→wpAny _ A (pyNext (.ref I)) Q E σ.s) r (fun a np L e=>?_) rfl
    cases e
    refine L.el fun xs n hl h1 q=>?_
    obtain⟨x,hx,rx⟩:=q.get hv
    rw[Array.getElem?_toList]at hx
    refine wpAny_pyNext_list_item hit (IsL.list h1) hx fun h' hit' sb=>?_
    have qu:Qt (·=I) σ (σ.quiet hT h' σ.s.toks (fun b o n e=>(sb.2 b n).trans e) (Nat.le_of_eq sb.1.symm)):=Qt.quiet
    have rx:=qu.to.vr hT (VR.up rx)
    exact k _ x qu rx fun go=>go_two ht rx h2 (nth_mem hv) (wpAny_letOwnedTupleGo_listiter hit' (go _ qu rx ⟨us,i+1,VR.mono (StepF.kp qu.to hT) List.prefix_rfl r,hit',hr,h2⟩)) (go _ qu rx ⟨us,i+1,VR.mono (StepF.kp qu.to hT) List.prefix_rfl r,hit',hr,h2⟩)
  done:=fun σ Q E hT ⟨us,i,r,hit,hd,h2⟩ k=>by
    refine Is.el (Q:=fun x=>x=.ref l→wpAny _ A (pyNext (.ref I)) Q E σ.s) r (fun a np L e=>?_) rfl
    cases e
    exact L.el fun xs n hl h1 q=>sized (wpAny_pyNext_list_end hh hit (IsL.list h1) (Array.getElem?_eq_none (q.size▸drop_nil hd)) fun h' eb sz=>k _ (Qt.quiet (hT:=hT) (h':=h') (t:=σ.s.toks) (k:=fun b o n e=>eb b o n e) (sz:=sz)))
  stable:=fun ⟨us,i,r,hit,hd,h2⟩ h=>⟨us,i,r.mono h.kp List.prefix_rfl,hit.at fun o=>h.own _ o rfl,hd,h2⟩
  self:=fun ⟨us,i,r,hit,hd,h2⟩ q=>wpAny_pyIter_listiter hit q
theorem letGo_tupiter{s:Shared}{elts:List PySem.Expr}{x1}{pos:Pos}{I l T:Addr}{i:Nat}{Q:Unit→Shared→Prop}(hit:s.heap.IsTupleIter I l i)(hQ:Q () s) :
    wpAny (model X.prog X.w) A (letOwnedTupleGo (.Tuple elts x1 pos) (.ref I) (.ref T)) Q E s:=by
  obtain⟨o,ho,hc,hd⟩:=hit
  unfold letOwnedTupleGo
  refine wpAny_bind (wpAny_load ho ?_)
  rw[hc,hd]
  show wpAny _ A (if(["enumerate","zip","dict_itemiterator","dict_reverseitemiterator","odict_iterator","itertools.zip_longest","itertools.pairwise"].contains "tuple_iterator"&&
      (#[.ref l,.int i 0]:Array Value)[0]?==some (rawInt T))=true then _ else _) Q E s
  rw[if_neg (by
    intro h
    rw[show(["enumerate","zip","dict_itemiterator","dict_reverseitemiterator","odict_iterator","itertools.zip_longest","itertools.pairwise"].contains "tuple_iterator")=false from by decide,Bool.false_and]at h
    cases h)]
  exact wpAny_pure hQ
def LiveT(X:Wd)(l I:Addr)(two:Bool)(Z:Addr→Prop)(σ:Cg X Z)(c:List V):Prop:=∃ us i,σ.vr (.tup us) (.ref l)∧σ.s.heap.IsTupleIter I l i∧c=us.drop i∧AllTwo two us
theorem Pr.tuple(hh:A.handled=none){l I:Addr}{two:Bool}{tgt:PySem.Expr}(ht:TgtOk two tgt):Pr X A (·=I) I tgt (LiveT X l I two) where
  item:=fun σ c v Q E hT ⟨us,i,r,hit,hd,h2⟩ k=>by
    obtain⟨hv,hr⟩:=drop_cons hd
    refine Is.el (Q:=fun x=>x=.ref l→wpAny _ A (pyNext (.ref I)) Q E σ.s) r (fun a np L e=>?_) rfl
    cases e
    refine L.el fun xs hl h1 q=>?_
    obtain⟨x,hx,rx⟩:=q.get hv
    rw[Array.getElem?_toList]at hx
    refine wpAny_pyNext_tuple_item hit (h1.imp fun o h=>⟨h.1,h.2.1,h.2.2⟩) hx fun h' hit' sb=>?_
    have qu:Qt (·=I) σ (σ.quiet hT h' σ.s.toks (fun b o n e=>(sb.2 b n).trans e) (Nat.le_of_eq sb.1.symm)):=Qt.quiet
    have rx:=qu.to.vr hT rx
    exact k _ x qu rx fun go=>go_two ht rx h2 (nth_mem hv) (letGo_tupiter hit' (go _ qu rx ⟨us,i+1,qu.to.vr hT r,hit',hr,h2⟩)) (go _ qu rx ⟨us,i+1,qu.to.vr hT r,hit',hr,h2⟩)
  done:=fun σ Q E hT ⟨us,i,r,hit,hd,h2⟩ k=>by
    refine Is.el (Q:=fun x=>x=.ref l→wpAny _ A (pyNext (.ref I)) Q E σ.s) r (fun a np L e=>?_) rfl
    cases e
    exact L.el fun xs hl h1 q=>sized (wpAny_pyNext_tuple_end hh hit (h1.imp fun o h=>⟨h.1,h.2.1,h.2.2⟩) (Array.getElem?_eq_none (q.size▸drop_nil hd)) fun h' eb sz=>k _ (Qt.quiet (hT:=hT) (h':=h') (t:=σ.s.toks) (k:=fun b o n e=>eb b o n e) (sz:=sz)))
  stable:=fun ⟨us,i,r,hit,hd,h2⟩ h=>⟨us,i,r.mono h.kp h.ext,hit.imp fun o q=>⟨h.own _ _ rfl q.1,q.2⟩,hd,h2⟩
  self:=fun ⟨us,i,r,hit,hd,h2⟩ q=>wpAny_pyIter_tupleiter hit q
def LiveR(X:Wd)(I:Addr)(Z:Addr→Prop)(σ:Cg X Z)(c:List V):Prop:=∃ (x:Int) (n:Nat),IsRangeIter σ.s.heap I x n 1∧c=rangeL n x
theorem Pr.range(hh:A.handled=none){I:Addr}{x:Str}{p:Pos}:Pr X A (·=I) I (.Name x p) (LiveR X I) where
  item:=fun σ c v Q E hT ⟨x,n,hit,hd⟩ k=>by
    cases n with
    | zero=>cases hd
    | succ n=>
      cases hd
      refine wpAny_pyNext_range_item hit (Int.natCast_pos.mpr (Nat.succ_pos _)) fun h' hit' sb=>?_
      have qu:Qt (·=I) σ (σ.quiet hT h' (σ.s.toks+1) (fun b o n e=>(sb.2 b n).trans e) (Nat.le_of_eq sb.1.symm)):=Qt.quiet
      rw[show((n+1:Nat):Int) - 1=n from Int.add_sub_cancel (n:Int) 1]at hit'
      exact k _ _ qu ⟨_,rfl⟩ fun go=>wpAny_pure (go _ qu ⟨_,rfl⟩ ⟨x+1,n,hit',rfl⟩)
  done:=fun σ Q E hT ⟨x,n,hit,hd⟩ k=>by
    cases n with
    | zero=>exact sized (wpAny_pyNext_range_end hh hit (Int.le_refl _) fun h' eb sz=>k _ (Qt.quiet (hT:=hT) (h':=h') (t:=σ.s.toks) (k:=fun b o n e=>eb b o n e) (sz:=sz)))
    | succ n=>cases hd
  stable:=fun ⟨x,n,hit,hd⟩ h=>⟨x,n,h.own _ _ rfl hit,hd⟩
  self:=fun ⟨x,n,hit,hd⟩ q=>wpAny_pyIter_rangeiter hit q
end
end Mine
end
section
namespace Mine
open PySem PySem.W PySem.Calls PyProof.Rows
def TN(m n:Nat):Addr→Prop:=fun a=>m≤a∧a<m+n
theorem TN.at{m n k:Nat}(h:k<n):TN m n (m+k):=⟨Nat.le_add_right _ _,Nat.add_lt_add_left h m⟩
theorem ofs{n a b:Nat}(h:a≠b):n+a≠n+b:=fun e=>h (Nat.add_left_cancel e)
theorem TN.out{m n k l:Nat}(h:¬TN m n l)(hk:k<n):l≠m+k:=fun e=>h (e▸TN.at hk)
theorem TN.news{s:Shared}{h':Heap}{n:Nat}(e:h'.objs.size=s.heap.objs.size+n)(k:∀ b o,s.heap.get? b=some o→h'.get? b=some o):News s h' (TN s.heap.objs.size n):=⟨k,e▸Nat.le_add_right _ _,fun zz h=>h.1,fun a h=>e▸h.2⟩
section
variable{X:Wd}{A:Around}{env:Env}{B:Bk}{Z Z' T F:Addr→Prop}{σ τ:Cg X Z}{loc:List V}{E:Value→Shared→Prop}
theorem tup2{h:Heap}{P:Addr→Prop}{ρ:List Foot}{t:Addr}{y z:Value}{a b:V}(hT:h.IsTuple t #[y,z])(np:¬P t)(ra:VR X h P a ρ y)(rb:VR X h P b ρ z):VR X h P (.tup [a,b]) ρ (.ref t):=
  .mk np (.mk (show 2<lim by rw[lim_is];decide) hT ⟨ra,rb,rfl⟩)
def LiveE(X:Wd)(m l:Nat)(Z:Addr→Prop)(σ:Cg X Z)(c:List V):Prop:=∃ us i,σ.fr (.lst us) (.ref l)∧(∃ old,IsEnum σ.s.heap (m+1) (m+0) ((i:Nat):Int) old)∧σ.s.heap.IsListIter (m+0) l i∧c=enumL i (us.drop i)
theorem enum_cons{us rest:List V}{v:V}{i:Nat}(h:v::rest=enumL i (us.drop i)):∃ u,nth us i=some u∧v=.tup [.int i,u]∧rest=enumL ((i+1:Nat):Int) (us.drop (i+1)):=by
  cases hd:us.drop i with
  | nil=>rw[hd]at h;cases h
  | cons u r=>
    rw[hd]at h
    have p:=drop_cons hd.symm
    cases h
    exact⟨u,p.1,rfl,by rw[←p.2];rfl⟩
theorem enum_nil{us:List V}{k:Int}{i:Nat}(h:[]=enumL k (us.drop i)):us.length≤i:=by
  cases hd:us.drop i with
  | nil=>exact drop_nil hd.symm
  | cons u r=>rw[hd]at h;cases h
theorem tn2{m b:Nat}(h:b∈[m+1,m+0]):TN m 2 b:=(List.mem_cons.mp h).elim (fun e=>e▸TN.at (by decide)) fun h=>List.mem_singleton.mp h▸TN.at (k:=0) (by decide)
theorem Pr.enum(hh:A.handled=none){m l:Nat}{es k p}:Pr X A (TN m 2) (m+1) (.Tuple es k p) (LiveE X m l) where
  item:=fun σ c v Q E hT ⟨us,i,r,he,hit,hd⟩ kk=>by
    obtain⟨u,hu,rfl,hr⟩:=enum_cons hd
    refine Is.el (Q:=fun x=>x=.ref l→wpAny _ A (pyNext (.ref (m+1))) Q E σ.s) r (fun a np L e=>?_) rfl
    cases e
    refine L.el fun xs n hl h1 q=>?_
    obtain⟨x,hx,rx⟩:=q.get hu
    rw[Array.getElem?_toList]at hx
    have no:¬TN m 2 l:=fun h=>np (.inl (hT l h))
    have W:=WalksT.enumerate (prog:=X.prog) (w:=X.w) (A:=A) hh (m+1) (m+0) l (ofs (by decide)) (TN.out no (by decide)) (TN.out no (by decide)) xs
    refine sized (W.item i σ.s _ E (Array.getElem?_eq_some_iff.mp hx).1 ⟨he,hit,IsL.list h1⟩ fun T' vals h' tk hP hge hT' hm hk sz=>?_)
    obtain⟨t,x',hx',rfl⟩:=hP
    cases hx.symm.trans hx'
    have qu:Qt (TN m 2) σ (σ.quiet hT h' tk (fun b o n e=>hk b o (fun m=>n (tn2 m)) e) sz):=Qt.quiet
    have rt:(σ.quiet hT h' tk (fun b o n e=>hk b o (fun m=>n (tn2 m)) e) sz).vr (.tup [.int i,u]) (.ref T'):=tup2 hT' (σ.I.fresh hge) ⟨_,rfl⟩ (qu.to.vr hT (VR.up rx))
    refine kk _ _ qu rt fun {Q' E'} k2=>sized (W.go es k p i T' _ _ _ hm fun h'' st hk2 sz2=>?_)
    have qu2:=qu.trans (Qt.quiet (hT:=hT) (h':=h'') (t:=tk) (k:=fun b o n e=>hk2 b o (fun m=>n (tn2 m)) e) (sz:=sz2))
    exact k2 _ qu2 (tup2 (hT'.imp fun o q=>⟨hk2 _ _ (fun m=>Nat.not_lt.mpr hge (σ.I.zlow _ (hT _ (tn2 m)))) q.1,q.2⟩) (σ.I.fresh hge) ⟨_,rfl⟩ (qu2.to.vr hT (VR.up rx))) ⟨us,i+1,VR.mono (StepF.kp qu2.to hT) List.prefix_rfl r,st.1,st.2.1,hr⟩
  done:=fun σ Q E hT ⟨us,i,r,he,hit,hd⟩ kk=>by
    refine Is.el (Q:=fun x=>x=.ref l→wpAny _ A (pyNext (.ref (m+1))) Q E σ.s) r (fun a np L e=>?_) rfl
    cases e
    exact L.el fun xs n hl h1 q=>he.elim fun old he=>sized (wpAny_pyNext_enum_end hh he hit (IsL.list h1) (Array.getElem?_eq_none (q.size▸enum_nil hd)) fun h' eb sz=>kk _ (Qt.quiet (hT:=hT) (h':=h') (t:=σ.s.toks) (k:=fun b o n e=>eb b o (fun q=>n (q▸TN.at (k:=0) (by decide))) e) (sz:=sz)))
  stable:=fun ⟨us,i,r,he,hit,hd⟩ h=>⟨us,i,r.mono h.kp List.prefix_rfl,he.imp fun old e=>h.own _ _ (TN.at (by decide)) e,hit.at fun o=>h.own _ o (TN.at (by decide)),hd⟩
  self:=fun ⟨us,i,r,he,hit,hd⟩ q=>he.elim fun old he=>wpAny_pyIter_enum he q
def LiveZ(X:Wd)(m l1 l2:Nat)(Z:Addr→Prop)(σ:Cg X Z)(c:List V):Prop:=
  ∃ us ws i,σ.fr (.lst us) (.ref l1)∧σ.fr (.lst ws) (.ref l2)∧(IsZip σ.s.heap (m+4) (m+2) (m+3) .none∧IsPair σ.s.heap (m+2) (.ref (m+0)) (.ref (m+1))∧(∃ a b,IsPair σ.s.heap (m+3) a b)∧σ.s.heap.IsListIter (m+0) l1 i∧σ.s.heap.IsListIter (m+1) l2 i)∧c=zipL (us.drop i) (ws.drop i)
theorem zip_cons{us ws rest:List V}{v:V}{i:Nat}(h:v::rest=zipL (us.drop i) (ws.drop i)):∃ a b,nth us i=some a∧nth ws i=some b∧v=.tup [a,b]∧rest=zipL (us.drop (i+1)) (ws.drop (i+1)):=by
  cases hd:us.drop i with
  | nil=>rw[hd]at h;cases h
  | cons a r=>
    cases hw:ws.drop i with
    | nil=>rw[hd,hw]at h;cases h
    | cons b t=>
      rw[hd,hw]at h
      have p:=drop_cons hd.symm
      have q:=drop_cons hw.symm
      cases h
      exact⟨a,b,p.1,q.1,rfl,by rw[←p.2,←q.2]⟩
theorem zip_nil{us ws:List V}{i:Nat}(h:[]=zipL (us.drop i) (ws.drop i)):us.length≤i∨ws.length≤i:=by
  cases hd:us.drop i with
  | nil=>exact .inl (drop_nil hd.symm)
  | cons a r=>
    cases hw:ws.drop i with
    | nil=>exact .inr (drop_nil hw.symm)
    | cons b t=>rw[hd,hw]at h;cases h
theorem in5{m b:Nat}(h:b∈[m+4,m+3,m+0,m+1]):TN m 5 b:=
  (List.mem_cons.mp h).elim (fun e=>e▸TN.at (by decide)) fun h=>(List.mem_cons.mp h).elim (fun e=>e▸TN.at (by decide)) fun h=>(List.mem_cons.mp h).elim (fun e=>e▸TN.at (k:=0) (by decide)) fun h=>List.mem_singleton.mp h▸TN.at (by decide)
theorem zip_apart{m l1 l2:Nat}(h1:¬TN m 5 l1)(h2:¬TN m 5 l2):ZipApart (m+4) (m+2) (m+3) (m+0) (m+1) l1 l2:=
  ⟨ofs (by decide),ofs (by decide),ofs (by decide),ofs (by decide),ofs (by decide),ofs (by decide),ofs (by decide),ofs (by decide),ofs (by decide),ofs (by decide),TN.out h1 (by decide),TN.out h1 (by decide),TN.out h1 (by decide),TN.out h1 (by decide),TN.out h2 (by decide),TN.out h2 (by decide),TN.out h2 (by decide),TN.out h2 (by decide)⟩
theorem ref_el2{R:Addr→Addr→Prop}{P:Addr→Prop}{At1 At2:Addr→Prop}{l1 l2:Addr}(r1:Is P At1 (.ref l1))(r2:Is P At2 (.ref l2))(q:¬P l1→¬P l2→At1 l1→At2 l2→R l1 l2):R l1 l2:=
  Is.el (Q:=fun x=>x=.ref l1→R l1 l2) r1 (fun a n1 L1 e=>Value.ref.inj e▸Is.el (Q:=fun x=>x=.ref l2→R l1 l2) r2 (fun b n2 L2 e'=>q (Value.ref.inj e▸n1) (Value.ref.inj e'▸n2) (Value.ref.inj e▸L1) (Value.ref.inj e'▸L2)) rfl) rfl
theorem Pr.zip(hh:A.handled=none){m l1 l2:Nat}{es k p}:Pr X A (TN m 5) (m+4) (.Tuple es k p) (LiveZ X m l1 l2) where
  item:=fun σ c v Q E hT ⟨us,ws,i,r1,r2,hz,hd⟩ kk=>by
    obtain⟨ua,ub,hu,hw,rfl,hr⟩:=zip_cons hd
    refine ref_el2 (R:=fun zz zz=>wpAny _ A (pyNext (.ref (m+4))) Q E σ.s) r1 r2 fun np1 np2 L1 L2=>L1.el fun xs n1 hl1 h1 q1=>L2.el fun ys n2 hl2 h2 q2=>?_
    obtain⟨x,hx,rx⟩:=q1.get hu
    obtain⟨y,hy,ry⟩:=q2.get hw
    rw[Array.getElem?_toList]at hx hy
    have W:=WalksT.zip2 (prog:=X.prog) (w:=X.w) (A:=A) hh (m+4) (m+2) (m+3) (m+0) (m+1) l1 l2 (zip_apart (fun h=>np1 (.inl (hT _ h))) fun h=>np2 (.inl (hT _ h))) xs ys
    refine sized (W.item i σ.s _ E (Nat.lt_min.mpr ⟨(Array.getElem?_eq_some_iff.mp hx).1,(Array.getElem?_eq_some_iff.mp hy).1⟩) ⟨hz.1,hz.2.1,hz.2.2.1,hz.2.2.2.1,hz.2.2.2.2,IsL.list h1,IsL.list h2⟩ fun T' vals h' tk hP hge hT' hm hk sz=>?_)
    obtain⟨x',y',hx',hy',rfl⟩:=hP
    cases hx.symm.trans hx'
    cases hy.symm.trans hy'
    have qu:Qt (TN m 5) σ (σ.quiet hT h' tk (fun b o n e=>hk b o (fun m=>n (in5 m)) e) sz):=Qt.quiet
    refine kk _ _ qu (tup2 hT' (σ.I.fresh hge) (qu.to.vr hT (VR.up rx)) (qu.to.vr hT (VR.up ry))) fun {Q' E'} k2=>sized (W.go es k p i T' _ _ _ hm fun h'' st hk2 sz2=>?_)
    have qu2:=qu.trans (Qt.quiet (hT:=hT) (h':=h'') (t:=tk) (k:=fun b o n e=>hk2 b o (fun m=>n (in5 m)) e) (sz:=sz2))
    exact k2 _ qu2 (tup2 (hT'.imp fun o q=>⟨hk2 _ _ (fun m=>Nat.not_lt.mpr hge (σ.I.zlow _ (hT _ (in5 m)))) q.1,q.2⟩) (σ.I.fresh hge) (qu2.to.vr hT (VR.up rx)) (qu2.to.vr hT (VR.up ry)))
      ⟨us,ws,i+1,VR.mono (StepF.kp qu2.to hT) List.prefix_rfl r1,VR.mono (StepF.kp qu2.to hT) List.prefix_rfl r2,⟨st.1,st.2.1,st.2.2.1,st.2.2.2.1,st.2.2.2.2.1⟩,hr⟩
  done:=fun σ Q E hT ⟨us,ws,i,r1,r2,hz,hd⟩ kk=>by
    refine ref_el2 (R:=fun zz zz=>wpAny _ A (pyNext (.ref (m+4))) Q E σ.s) r1 r2 fun np1 np2 L1 L2=>L1.el fun xs n1 hl1 h1 q1=>L2.el fun ys n2 hl2 h2 q2=>?_
    obtain⟨ta,tb,hTO⟩:=hz.2.2.1
    exact sized (wpAny_pyNext_zip_end hh (zip_apart (fun h=>np1 (.inl (hT _ h))) fun h=>np2 (.inl (hT _ h))) hz.1 hz.2.1 hTO hz.2.2.2.1 hz.2.2.2.2 (IsL.list h1) (IsL.list h2) ((zip_nil hd).imp (fun h=>Array.getElem?_eq_none (q1.size▸h)) fun h=>Array.getElem?_eq_none (q2.size▸h)) fun h' eb sz=>
      kk _ (Qt.quiet (hT:=hT) (h':=h') (t:=σ.s.toks) (k:=fun b o n e=>eb b o (TN.out n (by decide)) (TN.out n (by decide)) (TN.out n (k:=0) (by decide)) (TN.out n (by decide)) e) (sz:=sz)))
  stable:=fun ⟨us,ws,i,r1,r2,hz,hd⟩ h=>⟨us,ws,i,r1.mono h.kp List.prefix_rfl,r2.mono h.kp List.prefix_rfl,⟨h.own _ _ (TN.at (by decide)) hz.1,h.own _ _ (TN.at (by decide)) hz.2.1,hz.2.2.1.imp fun a=>Exists.imp fun b q=>h.own _ _ (TN.at (by decide)) q,hz.2.2.2.1.at fun o=>h.own _ o (TN.at (by decide)),hz.2.2.2.2.at fun o=>h.own _ o (TN.at (by decide))⟩,hd⟩
  self:=fun ⟨us,ws,i,r1,r2,hz,hd⟩ q=>wpAny_pyIter_zip hz.1 q
noncomputable def nxtK (i:Nat) (k:Nat) (H:Hp):Option (Option (V×Nat)):=bx (lockO (cell H i)) fun ws=>some (oc (nth ws k) (fun v=>some (v,k+1)) none)
theorem nth_none{vs:List V}{i:Nat}(h:nth vs i=none):vs.length≤i:=List.getElem?_eq_none_iff.mp (nth_get▸h)
theorem lockO_inv{o:Option O}{ws:List V}(h:lockO o=some ws):o=some (.lock ws):=by
  cases o with
  | none=>cases h
  | some o=>cases o with
    | lock vs=>cases h;rfl
    | _=>cases h
def LiveK(X:Wd)(I:Addr)(i:Nat)(Z:Addr→Prop)(σ:Cg X Z)(k:Nat):Prop:=∃ f:Foot,σ.ρ[i]?=some f∧σ.s.heap.IsListIter I f.a k
theorem Pr.lock(hh:A.handled=none){I:Addr}{i:Nat}{x:Str}{p:Pos}:PrG X A (·=I) I (.Name x p) Nat (nxtK i) (LiveK X I i) where
  item:=fun σ c c' v Q E hT ⟨f,hf,hit⟩ hn k=>by
    obtain⟨ws,hc,hn⟩:=bx_inv hn
    have cr:=σ.I.cells i _ f (lockO_inv hc) hf
    cases hu:nth ws c with
    | none=>rw[hu]at hn;cases hn
    | some u=>
      rw[hu]at hn
      cases hn
      refine LstAt.el cr fun xs n hl h1 q=>?_
      obtain⟨x,hx,rx⟩:=q.get hu
      rw[Array.getElem?_toList]at hx
      refine wpAny_pyNext_list_item hit (IsL.list h1) hx fun h' hit' sb=>?_
      have qu:Qt (·=I) σ (σ.quiet hT h' σ.s.toks (fun b o n e=>(sb.2 b n).trans e) (Nat.le_of_eq sb.1.symm)):=Qt.quiet
      exact k _ x qu (qu.to.vr hT rx) fun go=>wpAny_pure (go _ qu (qu.to.vr hT rx) ⟨f,hf,hit'⟩)
  done:=fun σ c Q E hT ⟨f,hf,hit⟩ hn k=>by
    obtain⟨ws,hc,hn⟩:=bx_inv hn
    have cr:=σ.I.cells i _ f (lockO_inv hc) hf
    cases hu:nth ws c with
    | some u=>rw[hu]at hn;cases hn
    | none=>exact LstAt.el cr fun xs n hl h1 q=>sized (wpAny_pyNext_list_end hh hit (IsL.list h1) (Array.getElem?_eq_none (q.size▸nth_none hu)) fun h' eb sz=>k _ (Qt.quiet (hT:=hT) (h':=h') (t:=σ.s.toks) (k:=fun b o n e=>eb b o n e) (sz:=sz)))
  stable:=fun ⟨f,hf,hit⟩ h=>⟨f,h.ext.elim fun t e=>by rw[←e,List.getElem?_append_left (List.getElem?_eq_some_iff.mp hf).1];exact hf,hit.at fun o=>h.own _ o rfl⟩
  self:=fun ⟨f,hf,hit⟩ q=>wpAny_pyIter_listiter hit q
end
end Mine
end
section
namespace Mine
open PySem PySem.W PySem.Calls PyProof.Rows
noncomputable def plainIt:Ex→Bool
  | .range _=>false
  | .enum _=>false
  | .zip _ _=>false
  | _=>true
theorem evIt_plain{T:Tab}{C:Orc}{ex:Ex}(h:plainIt ex=true):evIt T C ex=fun loc H K=>evK T C ex loc H fun v H=>walkK v H K:=by
  cases ex with
  | range=>cases h
  | enum=>cases h
  | zip=>cases h
  | _=>rfl
section
variable{X:Wd}{A:Around}{C:Orc}{env:Env}{B:Bk}{cx:Cx}{d:Nat}
variable(X A C env B)in
def PIt(e:PySem.Expr)(ex:Ex)(two:Bool):Prop:=∀ {Z} (σ:Cg X Z) {loc K w} {Q:Value→Shared→Prop} {E:Value→Shared→Prop},evIt X.T C ex loc σ.H K=some w→Frm X env B σ loc→
  (∀ (τ:Cg X Z) {vs h' t T I} (n:News τ.s h' T),To σ τ→K vs τ.H=some w→vs.length<lim+1→(∀ tgt,TgtOk two tgt→AllTwo two vs→∃ Live,Pr X A T I tgt Live∧Live _ (τ.widen n t) vs)→Q (.ref I) (τ.widen n t).s)→
  wpAny (model X.prog X.w) A (eval e env) (fun xv s₁=>wpAny (model X.prog X.w) A (pyIter xv) Q E s₁) E σ.s
theorem iter_list{Z:Addr→Prop}(hh:A.handled=none){τ:Cg X Z}{us:List V}{x:Value}(r:τ.fr (.lst us) x){Q:Value→Shared→Prop}{E:Value→Shared→Prop}{two:Bool}
    (k:∀ {h' t T I} (n:News τ.s h' T),us.length<lim+1→(∀ tgt,TgtOk two tgt→AllTwo two us→∃ Live,Pr X A T I tgt Live∧Live _ (τ.widen n t) us)→Q (.ref I) (τ.widen n t).s):wpAny (model X.prog X.w) A (pyIter x) Q E τ.s:=by
  refine Is.el (Q:=fun x=>τ.fr (.lst us) x→wpAny _ A (pyIter x) Q E τ.s) r (fun l np L r=>L.el fun xs n hl h1 q=>wpAny_pyIter_list (IsL.list h1) (k (t:=τ.s.toks) news1 hl fun tgt ht h2=>⟨_,Pr.list hh ht,us,0,VR.mono news1.keep List.prefix_rfl r,⟨_,Heap.get?_push_size _ rfl,rfl,rfl⟩,rfl,h2⟩)) r
theorem PIt.plain(hh:A.handled=none){e:PySem.Expr}{ex:Ex}{two:Bool}(h:PE X A C env B e ex)(hp:plainIt ex=true):PIt X A C env B e ex two:=fun σ loc K w Q E ev F k=>by
  rw[evIt_plain hp]at ev
  refine h σ ev F fun τ v x t r ev=>?_
  have main:walkL v τ.H K=some w→wpAny (model X.prog X.w) A (pyIter x) Q E τ.s:=fun e=>frzK_ok r e fun υ u es t' r e=>by
    cases u with
    | lst us=>exact es▸iter_list hh r fun n hl g=>k υ n (t.trans t') e hl g
    | _=>exact nn e
  cases v with
  | tup us=>exact Is.el (Q:=fun x=>τ.vr (.tup us) x→wpAny _ A (pyIter x) Q E τ.s) r (fun l np L r=>L.el fun xs hl h1 q=>wpAny_pyIter_tuple (h1.imp fun o h=>⟨h.1,h.2.1,h.2.2⟩) (k τ (t:=τ.s.toks) news1 t ev (Nat.lt_succ_of_lt hl) fun tgt ht h2=>⟨_,Pr.tuple hh ht,us,0,VR.mono news1.keep List.prefix_rfl r,⟨_,Heap.get?_push_size _ rfl,rfl,rfl⟩,rfl,h2⟩)) r
  | _=>exact main ev
theorem boot_range:bootBuiltins "range" = some (.type "range"):=by decide +kernel
theorem boot_enum:bootBuiltins "enumerate" = some (.type "enumerate"):=by decide +kernel
theorem boot_zip:bootBuiltins "zip" = some (.type "zip"):=by decide +kernel
theorem keeps_type{M:Model}{T:String}(h:Heap)(_:True):∃ k,(k=Keeper.frame∨k=Keeper.machine∨k=Keeper.boundFrame)∧Looks M h (keeperOf (.type T)) k:=⟨.machine,.inr (.inl rfl),Looks.of_pure rfl⟩
theorem range_len(n:Nat)(a:Int):(rangeL n a).length=n:=by
  induction n generalizing a with
  | zero=>rfl
  | succ n ih=>exact congrArg (·+1) (ih _)
theorem enum_len(k:Int)(vs:List V):(enumL k vs).length=vs.length:=by
  induction vs generalizing k with
  | nil=>rfl
  | cons v vs ih=>exact congrArg (·+1) (ih _)
theorem zip_len(vs us:List V):(zipL vs us).length≤vs.length:=by
  induction vs generalizing us with
  | nil=>exact Nat.le_refl _
  | cons v vs ih=>cases us with
    | nil=>exact Nat.zero_le _
    | cons u us=>exact Nat.succ_le_succ (ih us)
theorem range_size(a b:Int):Builtin.Range.rangeSize a b 1=(b - a).toNat:=by
  rw[rangeSize_one]
  split<;>lia
theorem PIt.range(W:WdOk X cx)(hE:EnvOk env B)(hh:A.handled=none){p pos}{es:List PySem.Expr}{exs:List Ex}(hg:isGlob B "range" = true) (h:PLs X A C env B es exs) :
    PIt X A C env B (.Call (.Name "range" p) es [] pos) (.range exs) false:=fun σ loc K w Q E ev F k=>by
  refine wpAny_Call_Name_kw (builtin_ok W hE hg (by decide) (by decide) (W.bis _ (by simp)) boot_range (call_by h (keeps_type (T:="range")) ev F fun τ us xs t r e=>⟨trivial,?_⟩))
  show wpAny _ A (call (.type "range") xs) _ _ _
  have mk:∀ {a b:Int} {n u v:Tok} {tk:Nat},rangeAB a b (fun us=>K us τ.H)=some w→
      wpAny (model X.prog X.w) A (pyIter (.ref τ.s.heap.objs.size)) Q E { τ.s with heap:=τ.s.heap.push { cls:=.type "range",data:=.fields #[.int a n,.int b u,.int 1 v] },toks:=tk }:=by
    intro a b n u v tk e
    obtain⟨ha,e⟩:=gx_inv e
    obtain⟨hb,e⟩:=gx_inv e
    obtain⟨hl,e⟩:=gx_inv e
    have hl:=of_decide_eq_true hl
    have ha:=small_is ha
    have hb:=small_is hb
    refine wpAny_pyIter_range (IsRange.new ..) (small_one (by lia) (by lia) (by lia) (by lia)) ?_
    refine k (τ.push { cls:=.type "range",data:=.fields #[Value.int a n,.int b u,.int 1 v] } tk) (t:=tk) news1 (t.trans To.push) e (by rw[range_len];exact Nat.lt_succ_of_lt hl) fun tgt ht zz=>?_
    cases ht
    exact⟨_,Pr.range hh,a,(b - a).toNat,by rw[←range_size];exact Heap.get?_push_size _ rfl,rfl⟩
  cases us with
  | nil=>exact nn e
  | cons v us=>cases xs with
    | nil=>exact r.elim
    | cons x xs=>cases us with
      | nil=>
        cases r.2
        exact int_el (Q:=fun x=>wpAny _ A (call (.type "range") [x]) _ _ _) r.1 e fun i t e=>call_range_1 (mk e)
      | cons u us=>
        obtain⟨h0,e⟩:=gx_inv e
        cases us with
        | cons=>cases h0
        | nil=>cases xs with
          | nil=>exact r.2.elim
          | cons y xs=>
            cases r.2.2
            exact int_el (Q:=fun x=>wpAny _ A (call (.type "range") [x,y]) _ _ _) r.1 e fun i t e=>int_el (Q:=fun y=>wpAny _ A (call (.type "range") [_,y]) _ _ _) r.2.1 e fun j u e=>call_range_2 (mk e)
theorem walkL_ok{Z:Addr→Prop}{σ:Cg X Z}{v:V}{x:Value}{K:KL}{w:V×Hp}(r:σ.vr v x)(e:walkL v σ.H K=some w){D:Prop}(q:∀ (τ:Cg X Z) us,τ.s=σ.s→To σ τ→τ.fr (.lst us) x→K us τ.H=some w→D):D:=
  frzK_ok r e fun τ u es t r e=>by
    cases u with
    | lst us=>exact q τ us es t r e
    | _=>exact nn e
theorem PIt.enum(W:WdOk X cx)(hE:EnvOk env B)(hh:A.handled=none){p pos}{e:PySem.Expr}{ex:Ex}(hg:isGlob B "enumerate" = true) (h:G1 X A C env B e ex) :
    PIt X A C env B (.Call (.Name "enumerate" p) [e] [] pos) (.enum ex) true:=fun σ loc K w Q E ev F k=>by
  refine wpAny_Call_Name_kw (builtin_ok W hE hg (by decide) (by decide) (W.bis _ (by simp)) boot_enum (call_by (K:=fun vs H=>a1 vs fun v=>walkL v H fun vs H=>K (enumL 0 vs) H) (.cons h .nil) (keeps_type (T:="enumerate")) ev F fun τ us xs t r e=>⟨trivial,?_⟩))
  show wpAny _ A (call (.type "enumerate") xs) _ _ _
  refine a1_el (Q:=fun xs=>wpAny _ A (call (.type "enumerate") xs) _ _ _) r e fun v x r e=>walkL_ok r e fun υ us es t' r e=>es▸?_
  refine Is.el (Q:=fun x=>υ.fr (.lst us) x→wpAny _ A (call (.type "enumerate") [x]) _ _ υ.s) r (fun l np L r=>L.el fun ys n hl h1 q=>call_enumerate_list (IsL.list h1) fun h' he hit hsz hk=>?_) r
  exact wpAny_pyIter_enum he (k υ (t:=υ.s.toks) (TN.news hsz hk) (t.trans t') e ((enum_len ..).symm▸hl) fun tgt ht zz=>by cases ht;exact⟨_,Pr.enum hh,us,0,VR.mono (TN.news hsz hk).keep List.prefix_rfl r,⟨_,he⟩,hit,rfl⟩)
theorem PIt.zip(W:WdOk X cx)(hE:EnvOk env B)(hh:A.handled=none){p pos}{e1 e2:PySem.Expr}{x1 x2:Ex}(hg:isGlob B "zip" = true) (h1:G1 X A C env B e1 x1) (h2:G1 X A C env B e2 x2) :
    PIt X A C env B (.Call (.Name "zip" p) [e1,e2] [] pos) (.zip x1 x2) true:=fun σ loc K w Q E ev F k=>by
  refine wpAny_Call_Name_kw (builtin_ok W hE hg (by decide) (by decide) (W.bis _ (by simp)) boot_zip (call_by (K:=fun vs H=>a2 vs fun v u=>walkL v H fun xs H=>walkL u H fun ys H=>K (zipL xs ys) H) (.cons h1 (.cons h2 .nil)) (keeps_type (T:="zip")) ev F fun τ us xs t r e=>⟨trivial,?_⟩))
  show wpAny _ A (call (.type "zip") xs) _ _ _
  refine a2_el (Q:=fun xs=>wpAny _ A (call (.type "zip") xs) _ _ _) r e fun v x u y rx ry e=>walkL_ok rx e fun υ us es t1 rx e=>walkL_ok (t1.vr ry) e fun φ vs es' t2 ry e=>(es'.trans es)▸?_
  refine Is.el (Q:=fun x=>φ.fr (.lst us) x→wpAny _ A (call (.type "zip") [x,y]) _ _ φ.s) (t2.fr rx) (fun l1 zz L1 rx=>L1.el fun xs zz hl g1 zz=>Is.el (Q:=fun y=>φ.fr (.lst vs) y→wpAny _ A (call (.type "zip") [.ref l1,y]) _ _ φ.s) ry (fun l2 zz L2 ry=>L2.el fun ys zz zz g2 zz=>call_zip_2 (IsL.list g1) (IsL.list g2) fun h' hz hTI hTO i1 i2 hsz hk=>?_) ry) (t2.fr rx)
  exact wpAny_pyIter_zip hz (k φ (t:=φ.s.toks) (TN.news hsz hk) ((t.trans t1).trans t2) e (Nat.lt_of_le_of_lt (zip_len ..) hl) fun tgt ht zz=>by cases ht;exact⟨_,Pr.zip hh,us,vs,0,VR.mono (TN.news hsz hk).keep List.prefix_rfl rx,VR.mono (TN.news hsz hk).keep List.prefix_rfl ry,⟨hz,hTI,⟨_,_,hTO⟩,i1,i2⟩,rfl⟩)
end
end Mine
end
section
namespace Mine
open PySem PySem.W PySem.Calls PyProof.Rows
section
variable{X:Wd}{A:Around}{env:Env}{B:Bk}{Z:Addr→Prop}{σ:Cg X Z}{loc:List V}
noncomputable def closList (cells:List (Str×Addr)):List (Str×NameKind)→List (Str×Addr)→List (Str×Addr)
  | [],cs=>cs
  | (n,k)::r,cs=>closList cells r (match k==.free with
    | true=>(match cells.lookup n with|some c=>(n,c)::cs|none=>cs)
    | false=>cs)
theorem closure_ok{sc:Scope}(h:∀ x,(x,NameKind.free)∈sc.names→∃ c,env.cells.lookup x=some c):closureFor sc env=pure (closList env.cells sc.names []):=by
  have key:∀ (l:List (Str×NameKind)) (cs:List (Str×Addr)),(∀ x,(x,NameKind.free)∈l→∃ c,env.cells.lookup x=some c)→
      (forIn l cs (fun x r=>match x with
        | (name,kind)=>if(kind==.free)=true then do let c ←cellOf env name;pure (ForInStep.yield ((name,c)::r))else pure (ForInStep.yield r)):Sem (List (Str×Addr)))=pure (closList env.cells l cs):=by
    intro l
    induction l with
    | nil=>exact fun cs zz=>rfl
    | cons p l ih=>
      intro cs hl
      obtain⟨n,k⟩:=p
      rw[List.forIn_cons]
      by_cases hk:k=.free
      · subst hk
        obtain⟨c,hc⟩:=hl n (.head _)
        have:=ih ((n,c)::cs) fun x hx=>hl x (.tail _ hx)
        dsimp only
        rw[if_pos (show(NameKind.free==NameKind.free)=true from rfl)]
        unfold cellOf
        rw[hc]
        refine Eq.trans this ?_
        show _=pure (closList env.cells l (match env.cells.lookup n with|some c=>(n,c)::cs|none=>cs))
        rw[hc]
      · have hb:(k==NameKind.free)=false:=beq_eq_false_iff_ne.mpr hk
        have:=ih cs fun x hx=>hl x (.tail _ hx)
        dsimp only
        rw[hb,if_neg Bool.false_ne_true]
        refine Eq.trans this ?_
        show _=pure (closList env.cells l (match k==NameKind.free with|true=>(match env.cells.lookup n with|some c=>(n,c)::cs|none=>cs)|false=>cs))
        rw[hb]
  have:=key sc.names [] h
  unfold closureFor
  refine Eq.trans (congrArg (· >>= _) this) rfl
theorem clos_sub{cells:List (Str×Addr)}:∀ {l:List (Str×NameKind)} {cs:List (Str×Addr)} {x:Str} {c:Addr},(∀ y d,(y,d)∈cs→cells.lookup y=some d)→(x,c)∈closList cells l cs→cells.lookup x=some c
  | [],cs,x,c,h,q=>h x c q
  | (n,k)::l,cs,x,c,h,q=>clos_sub (l:=l) (fun y e hm=>by
      cases hb:(k==NameKind.free)with
      | false=>rw[hb]at hm;exact h y e hm
      | true=>
        rw[hb]at hm
        cases hd:cells.lookup n with
        | none=>rw[hd]at hm;exact h y e hm
        | some d=>
          rw[hd]at hm
          rcases List.mem_cons.mp hm with e|hm
          · cases e;exact hd
          · exact h y e hm) q
theorem clos_keep{cells:List (Str×Addr)}:∀ {l:List (Str×NameKind)} {cs:List (Str×Addr)} {x:Str} {c:Addr},(x,c)∈cs→(x,c)∈closList cells l cs
  | [],cs,x,c,q=>q
  | (n,k)::l,cs,x,c,q=>clos_keep (l:=l) (by
      cases(k==NameKind.free)with
      | false=>exact q
      | true=>cases cells.lookup n with
        | none=>exact q
        | some d=>exact .tail _ q)
theorem clos_has{cells:List (Str×Addr)}:∀ {l:List (Str×NameKind)} {cs:List (Str×Addr)} {x:Str} {c:Addr},(x,NameKind.free)∈l→cells.lookup x=some c→(x,c)∈closList cells l cs
  | (n,k)::l,cs,x,c,q,hc=>(List.mem_cons.mp q).elim (fun e=>clos_keep (l:=l) (by cases e;rw[hc];exact .head _)) fun q=>clos_has (l:=l) q hc
theorem lookup_of_all{l:List (Str×Addr)}{x:Str}{c:Addr}(h:∀ d,(x,d)∈l→d=c)(hm:(x,c)∈l):l.lookup x=some c:=by
  induction l with
  | nil=>cases hm
  | cons p l ih=>
    obtain⟨y,d⟩:=p
    by_cases e:x=y
    · subst e
      rw[List.lookup_cons,beq_self_eq_true]
      exact congrArg some (h d (.head _))
    · rw[List.lookup_cons,beq_false_of_ne e]
      exact ih (fun d hd=>h d (.tail _ hd)) ((List.mem_cons.mp hm).elim (fun q=>absurd (congrArg (·.1) q) e) id)
theorem clos_lookup{cells:List (Str×Addr)}{l:List (Str×NameKind)}{x:Str}{c:Addr}(h:(x,NameKind.free)∈l)(hc:cells.lookup x=some c):(closList cells l []).lookup x=some c:=
  lookup_of_all (fun d hd=>Option.some.inj ((clos_sub (cells:=cells) (fun y d q=>absurd q List.not_mem_nil) hd).symm.trans hc)) (clos_has h hc)
theorem lookup_mem{β:Type}{l:List (Str×β)}{x:Str}{b:β}(h:l.lookup x=some b):(x,b)∈l:=by
  induction l with
  | nil=>cases h
  | cons p l ih=>
    rw[List.lookup_cons]at h
    cases e:x==p.1 with
    | true=>rw[e]at h;cases h;rw[eq_of_beq e];exact .head _
    | false=>rw[e]at h;exact .tail _ (ih h)
theorem lookup_append{β:Type}{l r:List (Str×β)}{x:Str}:(l++r).lookup x=(l.lookup x).or (r.lookup x):=by
  induction l with
  | nil=>rfl
  | cons p l ih=>
    rw[List.cons_append,List.lookup_cons,List.lookup_cons]
    cases x==p.1 with
    | true=>rfl
    | false=>exact ih
theorem zip_lookup{ts:List Str}{n:Nat}{x:Str}{i:Nat}(h:(ts.zipIdx n).lookup x=some i):∃ k,i=n+k∧ts[k]?=some x:=by
  induction ts generalizing n with
  | nil=>cases h
  | cons t ts ih=>
    rw[List.zipIdx_cons,List.lookup_cons]at h
    cases e:x==t with
    | true=>rw[e]at h;cases h;exact⟨0,rfl,congrArg some (eq_of_beq e).symm⟩
    | false=>rw[e]at h;exact(ih h).elim fun k q=>⟨k+1,by rw[q.1,Nat.add_assoc,Nat.add_comm 1],q.2⟩
theorem zip_none{ts:List Str}{n:Nat}{x:Str}(h:(ts.zipIdx n).lookup x=none):x ∉ ts:=by
  induction ts generalizing n with
  | nil=>exact List.not_mem_nil
  | cons t ts ih=>
    rw[List.zipIdx_cons,List.lookup_cons]at h
    cases e:x==t with
    | true=>rw[e]at h;cases h
    | false=>rw[e]at h;exact fun hm=>(List.mem_cons.mp hm).elim (fun q=>by rw[q,beq_self_eq_true]at e;cases e) (ih h)
structure CompOk(B:Bk)(sc:Scope)(ts:List Str):Prop where
  dot:B.slots.lookup (".0" : Str)=none
  free:∀ x,(x,NameKind.free)∈sc.names→IsC B x∧(∃ i,B.slots.lookup x=some i)∧sc.names.lookup x=some .free
  kind:sc.kind=.function
  cell:∀ x,(x,NameKind.cell) ∉ sc.names
  own:∀ x,(x,NameKind.local)∈sc.names→(x∈ts∨x = ".0")∧sc.names.lookup x=some .local
  tgt:∀ x∈ts,sc.names.lookup x=some .local∧x≠".0"
  nodup:ts.Nodup
theorem and_t{a b:Bool}(h:(a&&b)=true):a=true∧b=true:=(Bool.and_eq_true _ _).mp h
theorem or_t{a b:Bool}(h:(a||b)=true):a=true∨b=true:=(Bool.or_eq_true _ _).mp h
theorem compOk_is{B:Bk}{sc:Scope}{ts:List Str}(h:compOk B sc ts=true):CompOk B sc ts:=by
  obtain⟨h,h6⟩:=and_t h
  obtain⟨h,h5⟩:=and_t h
  obtain⟨h,h4⟩:=and_t h
  obtain⟨h,h3⟩:=and_t h
  obtain⟨h1,h2⟩:=and_t h
  have h4:=List.all_eq_true.mp h4
  refine⟨Option.isNone_iff_eq_none.mp h1,fun x hx=>?_,of_decide_eq_true h3,fun x hx=>?_,fun x hx=>?_,fun x hx=>?_,of_decide_eq_true h6⟩
  · rcases or_t (List.all_eq_true.mp h2 _ hx)with e|e
    · cases e
    · obtain⟨e,e3⟩:=and_t e
      obtain⟨e1,e2⟩:=and_t e
      exact⟨(or_t e1).imp of_decide_eq_true of_decide_eq_true,Option.isSome_iff_exists.mp e2,of_decide_eq_true e3⟩
  · exact absurd (and_t (h4 _ hx)).1 Bool.false_ne_true
  · rcases or_t (and_t (h4 _ hx)).2 with e|e
    · cases e
    · exact⟨(or_t (and_t e).1).imp List.contains_iff_mem.mp eq_of_beq,of_decide_eq_true (and_t e).2⟩
  · have:=and_t (List.all_eq_true.mp h5 x hx)
    exact⟨of_decide_eq_true this.1,bne_iff_ne.mp this.2⟩
theorem slot_append_left{l r:List V}{i:Nat}(h:i<l.length):slot (l++r) i=slot l i:=by
  induction l generalizing i with
  | nil=>exact absurd h (Nat.not_lt_zero _)
  | cons a l ih=>cases i with
    | zero=>rfl
    | succ i=>exact ih (Nat.lt_of_succ_lt_succ h)
theorem slot_append_right{l r:List V}{i:Nat}:slot (l++r) (l.length+i)=slot r i:=by
  induction l with
  | nil=>rw[List.length_nil,Nat.zero_add];rfl
  | cons a l ih=>rw[List.length_cons,Nat.succ_add];exact ih
theorem slot_get{l:List V}{i:Nat}{v:V}(h:l[i]?=some v):slot l i=v:=by
  induction l generalizing i with
  | nil=>cases h
  | cons a l ih=>cases i with
    | zero=>cases h;rfl
    | succ i=>exact ih h
noncomputable abbrev cEnv (sc:Scope) (C:Addr) (env:Env):Env:=compEnvC sc (closList env.cells sc.names []) C env
theorem relabel_at{x:Str}{k:NameKind}:∀ {l:List (Str×NameKind)},l.lookup x=some k→
    (l.map fun (n,k)=>if(k==NameKind.free&&env.scope.kind==.function&&env.kindOf n==some .cell)then(n,NameKind.cell)else(n,k)).lookup x=some k∨(k=.free∧(l.map fun (n,k)=>if(k==NameKind.free&&env.scope.kind==.function&&env.kindOf n==some .cell)then(n,NameKind.cell)else(n,k)).lookup x=some .cell):=by
  intro l
  induction l with
  | nil=>intro h;cases h
  | cons p l ih=>
    intro h
    obtain⟨n,q⟩:=p
    rw[List.map_cons]
    rw[List.lookup_cons]at h
    dsimp only
    by_cases hc:(q==NameKind.free&&env.scope.kind==.function&&env.kindOf n==some .cell)=true
    · rw[if_pos hc,List.lookup_cons]
      cases e:x==n with
      | true=>rw[e]at h;cases h;exact .inr ⟨eq_of_beq (and_t (and_t hc).1).1,rfl⟩
      | false=>rw[e]at h;exact ih h
    · rw[if_neg hc,List.lookup_cons]
      cases e:x==n with
      | true=>rw[e]at h;cases h;exact .inl rfl
      | false=>rw[e]at h;exact ih h
theorem env_comp(hE:EnvOk env B){sc:Scope}{ts:List Str}{C:Addr}(ok:CompOk B sc ts):EnvOk (cEnv sc C env) (compBk B sc ts) where
  kind:=ok.kind
  names:=fun x k h=>relabel_at h
  glob:=hE.glob
  blt:=hE.blt
theorem comp_slots(F:Frm X env B σ loc){sc:Scope}{ts:List Str}{x:Str}{i:Nat}(h:(compBk B sc ts).slots.lookup x=some i):(∃ k,i=B.size+k∧ts[k]?=some x)∨(x ∉ ts∧B.slots.lookup x=some i∧i<B.size):=by
  replace h:(ts.zipIdx B.size++B.slots).lookup x=some i:=h
  rw[lookup_append]at h
  cases hz:(ts.zipIdx B.size).lookup x with
  | some j=>rw[hz]at h;cases h;exact .inl (zip_lookup hz)
  | none=>rw[hz]at h;exact .inr ⟨zip_none hz,h,F.slt x i h⟩
theorem comp_free{sc:Scope}{ts:List Str}(ok:CompOk B sc ts){C:Addr}{x:Str}(hk:IsC (compBk B sc ts) x):(x,NameKind.free)∈sc.names:=hk.elim (fun h=>absurd (lookup_mem h) (ok.cell x)) lookup_mem
theorem comp_cell(F:Frm X env B σ loc){sc:Scope}{ts:List Str}(ok:CompOk B sc ts){x:Str}{i:Nat}(h:(compBk B sc ts).slots.lookup x=some i)(hk:IsC (compBk B sc ts) x):(x,NameKind.free)∈sc.names∧B.slots.lookup x=some i∧i<B.size:=by
  have hm:=comp_free (C:=0) ok hk
  refine⟨hm,(comp_slots F h).elim (fun ⟨k,_,e⟩=>?_) fun e=>e.2⟩
  cases(ok.tgt x (List.mem_of_getElem? e)).1.symm.trans (ok.free x hm).2.2
theorem clos_inv{sc:Scope}{x:Str}{c:Addr}(h:(closList env.cells sc.names []).lookup x=some c):env.cells.lookup x=some c:=clos_sub (fun y d q=>absurd q List.not_mem_nil) (lookup_mem h)
theorem frame_comp(F:Frm X env B σ loc){sc:Scope}{ts:List Str}(ok:CompOk B sc ts){C:Addr}{m:Str→Option Value}(hC:σ.s.heap.Ns C m)(zC:Z C){vs:List V}(hl:vs.length=ts.length)
    (hv:∀ (i:Nat) (x:Str),ts[i]?=some x→∃ v y,vs[i]?=some v∧m x=some y∧σ.vr v y):Frm X (cEnv sc C env) (compBk B sc ts) σ (loc++vs) where
  ns:=⟨m,hC,fun x i h1 h2 h3=>(comp_slots F h1).elim (fun ⟨k,hi,e⟩=>by
      obtain⟨v,y,g1,g2,g3⟩:=hv k x e
      rw[hi,←F.len,slot_append_right,slot_get g1]
      exact⟨y,g2,g3⟩) fun e=>(ok.own x (lookup_mem h2)).1.elim (fun h=>absurd h e.1) fun h=>nn (ok.dot.symm.trans (h▸e.2.1))⟩
  cells:=fun x i h1 h2=>by
    have p:=comp_cell F ok h1 h2
    obtain⟨c,ov,e,q⟩:=F.cells x i p.2.1 (ok.free x p.1).1
    rw[slot_append_left (F.len▸p.2.2)]
    exact⟨c,ov,clos_lookup p.1 e,q⟩
  zl:=zC
  inj:=fun x y c h1 h2 h3 h4 h5 h6=>(Option.ne_none_iff_exists'.mp h3).elim fun i g1=>(Option.ne_none_iff_exists'.mp h4).elim fun j g2=>by
    have p:=comp_cell F ok g1 h1
    have q:=comp_cell F ok g2 h2
    exact F.inj x y c (ok.free x p.1).1 (ok.free y q.1).1 (fun e=>nn (e.symm.trans p.2.1)) (fun e=>nn (e.symm.trans q.2.1)) (clos_inv h5) (clos_inv h6)
  sinj:=fun x y i h1 h2=>(comp_slots F h1).elim
    (fun ⟨k,a1,a2⟩=>(comp_slots F h2).elim (fun ⟨l,b1,b2⟩=>Option.some.inj (a2.symm.trans (Nat.add_left_cancel (a1.symm.trans b1)▸b2))) fun b=>absurd b.2.2 (Nat.not_lt.mpr (a1▸Nat.le_add_right _ _)))
    fun a=>(comp_slots F h2).elim (fun ⟨l,b1,b2⟩=>absurd a.2.2 (Nat.not_lt.mpr (b1▸Nat.le_add_right _ _))) fun b=>F.sinj x y i a.2.1 b.2.1
  len:=by show _=B.size+ts.length;rw[List.length_append,F.len,hl]
  slt:=fun x i h=>(comp_slots F h).elim (fun ⟨k,a1,a2⟩=>a1▸Nat.add_lt_add_left (List.getElem?_eq_some_iff.mp a2).1 _) fun a=>Nat.lt_of_lt_of_le a.2.2 (Nat.le_add_right _ _)
end
end Mine
end
section
namespace Mine
open PySem PySem.W PySem.Calls PyProof.Rows
section
variable{S:Type}
noncomputable def cmpG (nxt:S→Hp→Option (Option (V×S))) (f:V→Hp→(Option V→Hp→Rs)→Rs):Nat→S→Hp→KL→Rs
  | 0,_,_,_=>none
  | n+1,c,H,K=>bx (nxt c H) fun o=>oc o (fun p=>f p.1 H fun a H=>cmpG nxt f n p.2 H fun us H=>K (consO a us) H) (K [] H)
theorem comp1{f:V→Hp→(Option V→Hp→Rs)→Rs}{vs:List V}{H:Hp}{K:KL}:compK1 f vs H K=cmpG nxtL f (vs.length+1) vs H K:=by
  induction vs generalizing H K with
  | nil=>rfl
  | cons v r ih=>exact congrArg (f v H) (funext fun o=>funext fun H=>ih)
theorem comp2{f:V→Hp→(Option V→Hp→Rs)→Rs}{i n k:Nat}{H:Hp}{K:KL}:compK2 f i n k H K=cmpG (nxtK i) f n k H K:=by
  induction n generalizing k H K with
  | zero=>rfl
  | succ n ih=>
    unfold compK2 cmpG nxtK
    cases lockO (cell H i)with
    | none=>rfl
    | some ws=>
      show oc (nth ws k) _ _=oc (oc (nth ws k) (fun v=>some (v,k+1)) none) _ _
      cases nth ws k with
      | none=>rfl
      | some v=>exact congrArg (f v H) (funext fun o=>funext fun H=>ih)
end
noncomputable def turnK (T:Tab) (C:Orc) (tp:Tp) (elt:Ex) (conds:List Ex) (loc:List V) (v:V) (H:Hp) (K:Option V→Hp→Rs):Rs:=
  bx (bindC tp v loc) fun loc=>evIf T C conds loc H fun b H=>cs b (evK T C elt loc H fun v H=>K (some v) H) (K none H)
noncomputable def tpOf (ts:List Str) (n:Nat):Tp:=if ts.length=1 then .one n else .two n (n+1)
theorem tp_inv{t:PySem.Expr}{ts:List Str}(h:tpNames t=some ts):(∃ x p,t=.Name x p∧ts=[x])∨∃ x p y p2 k p3,t=.Tuple [.Name x p,.Name y p2] k p3∧ts=[x,y]:=by
  have h:oc (nameOf t) (fun x=>some [x]) (bx (tupOf t) twoN)=some ts:=h
  cases hn:nameOf t with
  | some x=>
    rw[hn]at h
    cases h
    obtain⟨p,e⟩:=nameOf_inv hn
    exact .inl ⟨x,p,e,rfl⟩
  | none=>
    rw[hn]at h
    obtain⟨l,h1,h⟩:=bx_inv h
    obtain⟨k,p3,e⟩:=tupOf_inv h1
    cases l with
    | nil=>exact nn h
    | cons a r=>cases r with
      | nil=>exact nn h
      | cons b r=>
        obtain⟨h0,h⟩:=gx_inv h
        obtain⟨x,hx,h⟩:=bx_inv h
        obtain⟨y,hy,h⟩:=bx_inv h
        cases h
        obtain⟨p,rfl⟩:=nameOf_inv hx
        obtain⟨q,rfl⟩:=nameOf_inv hy
        cases r with
        | nil=>exact .inr ⟨x,p,y,q,k,p3,e,rfl⟩
        | cons=>exact absurd h0 Bool.false_ne_true
def NoE:Value→Shared→Prop:=fun zz zz=>False
section
variable{X:Wd}{A:Around}{Cc:Orc}{env:Env}{B:Bk}{cx:Cx}{d:Nat}{Z T:Addr→Prop}{σ:Cg X Z}{loc:List V}{E:Value→Shared→Prop}
theorem comp_loop{elt target iter:PySem.Expr}{ifs:List PySem.Expr}{scope:Scope}{pos:Pos}{it acc:Value}{env:Env}{R:Result→Shared→Prop}(I:Nat→Shared→Prop)
    (turn:∀ n s,I n s→wpAny (model X.prog X.w) A (pyNext it) (fun r s₁=>match r with
      | none=>R (.ok .next) s₁
      | some v=>wpAny (model X.prog X.w) A (letOwnedTupleGo target it v) (fun zz s₀=>wpAny (model X.prog X.w) A (assign target env v) (fun zz s₂=>
          wpAny (model X.prog X.w) A (forIn ifs true fun c r=>if r=true then do let ok ←isTrue c env (eval c env);pure (ForInStep.yield ok)else pure (ForInStep.yield r)) (fun ok s₃=>
            if ok=true then wpAny (model X.prog X.w) A (eval elt env) (fun x s₄=>
              wpAny (model X.prog X.w) A (call (.builtin "list.append") [acc,x]) (fun zz s₅=>∃ m,m<n∧I m s₅) NoE s₄) NoE s₃
            else ∃ m,m<n∧I m s₃) NoE s₂) NoE s₀) NoE s₁) NoE s)
    (n:Nat) {s:Shared} (h:I n s):codeAny (model X.prog X.w) A (.compLoop (.ListComp elt [⟨target,iter,ifs,0⟩] scope pos) 0 it acc env) R s:=by
  refine codeAny_loop rfl I (fun n s hI=>?_) n h
  show wpAny _ A ((compTurn (.ListComp elt [⟨target,iter,ifs,0⟩] scope pos) 0 it acc env).onRaise (fun x=>do noteFrame x env;theTreesLotGoes x)) _ _ s
  refine wpAny_noted ?_
  rw[compTurn_list]
  refine wpAny_bind (wpAny_standAt (wpAny_bind (wpAny_mono (turn n s hI) (fun r s₁ h₁=>?_) fun zz zz h'=>h'.elim)))
  cases r with
  | none=>exact wpAny_pure h₁
  | some v=>
    refine wpAny_bind (wpAny_mono h₁ (fun zz s₀ h₀'=>?_) fun zz zz h'=>h'.elim)
    refine wpAny_bind (wpAny_mono h₀' (fun zz s₂ h₂=>wpAny_bind (wpAny_mono h₂ (fun ok s₃ h₃=>?_) fun zz zz h'=>h'.elim)) fun zz zz h'=>h'.elim)
    cases ok with
    | false=>exact wpAny_pure ⟨rfl,h₃⟩
    | true=>
      exact wpAny_bind (wpAny_bind (wpAny_mono h₃ (fun x s₄ h₄=>wpAny_bind (wpAny_mono h₄ (fun zz s₅ h₅=>wpAny_pure (wpAny_pure ⟨rfl,h₅⟩)) fun zz zz h'=>h'.elim)) fun zz zz h'=>h'.elim))
theorem tests_ok{ifs:List PySem.Expr}{conds:List Ex}(h:PLs X A Cc env B ifs conds){K:Bool→Hp→Rs}{w:V×Hp}{Q:Bool→Shared→Prop}(ev:evIf X.T Cc conds loc σ.H K=some w)(F:Frm X env B σ loc)(q:Kt σ K w Q) :
    wpAny (model X.prog X.w) A (forIn ifs true fun c r=>if r=true then do let ok ←isTrue c env (eval c env);pure (ForInStep.yield ok)else pure (ForInStep.yield r)) Q E σ.s:=by
  have rest:∀ (l:List PySem.Expr) (s:Shared) (Q:Bool→Shared→Prop) (E:Value→Shared→Prop),Q false s→wpAny (model X.prog X.w) A (forIn l false fun c r=>if r=true then do let ok ←isTrue c env (eval c env);pure (ForInStep.yield ok)else pure (ForInStep.yield r)) Q E s:=by
    intro l
    induction l with
    | nil=>exact fun s Q E q=>wpAny_pure q
    | cons c l ih=>intro s Q E q;rw[List.forIn_cons];exact wpAny_bind (wpAny_pure (ih s Q E q))
  induction h generalizing σ Q with
  | nil=>exact wpAny_pure (q σ true StepF.refl ev)
  | cons h1 _ ih=>
    rw[List.forIn_cons]
    exact wpAny_bind (wpAny_bind (h1.pt σ (K:=fun b H=>cs b (evIf X.T Cc _ loc H K) (K false H)) ev F fun τ b t e=>by
      cases b with
      | true=>exact wpAny_pure (ih e (F.to t) fun υ b t' e=>q υ b (t.trans t') e)
      | false=>exact wpAny_pure (rest _ _ _ _ (q τ false t e))))
def FA(env:Env)(B:Bk):Addr→Prop:=fun a=>a=env.locals∨∃ x i,B.slots.lookup x=some i∧IsC B x∧env.cells.lookup x=some a
theorem FW.fa{a:Addr}(h:FW env B a):FA env B a:=h.imp id fun h=>h.imp fun x=>Exists.imp fun i h=>⟨h.1,.inl h.2.1,h.2.2⟩
theorem Frm.fa(F:Frm X env B σ loc){a:Addr}(h:FA env B a):Z a:=h.elim (fun h=>h▸F.zl) fun h=>h.elim fun x h=>h.elim fun i h=>F.zc h.1 h.2.1 h.2.2
theorem Frm.off{F:Addr→Prop}{τ:Cg X Z}(f:Frm X env B σ loc)(t:ToF F σ τ)(hF:∀ a,F a→Z a)(h:∀ a,FA env B a→¬F a):Frm X env B τ loc:=f.apart t hF (h _ (.inl rfl)) fun x i c h1 h2 h3=>h _ (.inr ⟨x,i,h1,h2,h3⟩)
theorem assign_comp(hh:A.handled=none){sc:Scope}{ts:List Str}{t:PySem.Expr}(ok:CompOk B sc ts)(ht:tpNames t=some ts){C:Addr}{m:Str→Option Value}(F:Frm X env B σ loc)(zC:Z C)(hC:∀ a,FA env B a→a≠C)(hn:σ.s.heap.Ns C m){v:V}{x:Value}(r:σ.vr v x)
    {loc':List V} (hb:bindC (tpOf ts B.size) v loc=some loc') {Q:Unit→Shared→Prop} (q:∀ τ m',ToF (·=C) σ τ→τ.H=σ.H→Frm X env B τ loc→Frm X (cEnv sc C env) (compBk B sc ts) τ loc'→τ.s.heap.Ns C m'→Q () τ.s) :
    wpAny (model X.prog X.w) A (assign t (cEnv sc C env) x) Q E σ.s:=by
  have zF:∀ a,a=C→Z a:=fun a h=>h▸zC
  have fin:∀ {h':Heap} {tk:Nat} {m':Str→Option Value} {vs:List V},h'.Ns C m'→(∀ b o,b≠C→σ.s.heap.get? b=some o→h'.get? b=some o)→σ.s.heap.objs.size≤h'.objs.size→vs.length=ts.length→
      (∀ (i:Nat) (x:Str),ts[i]?=some x→∃ v y,vs[i]?=some v∧m' x=some y∧σ.vr v y)→loc'=loc++vs→Q () { σ.s with heap:=h',toks:=tk }:=fun {h' tk m' vs} hn' k sz hl hv e=>by
    have qu:Qt (·=C) σ (σ.quiet zF h' tk k sz):=Qt.quiet
    have F':=F.off qu.to zF hC
    exact q _ m' qu.to rfl F' (e▸frame_comp F' ok hn' zC hl fun i x hx=>(hv i x hx).imp fun v=>Exists.imp fun y h=>⟨h.1,h.2.1,qu.to.vr zF h.2.2⟩) hn'
  rcases tp_inv ht with⟨z,p,rfl,rfl⟩|⟨z,p,z2,p2,k,p3,rfl,rfl⟩
  · have hk:(cEnv sc C env).kindOf z=some .local:=lookup_relabel_local (ok.tgt z (.head _)).1
    exact wpAny_assign_Name (wpAny_storeName_local hk hn (fun h' hn' sb=>fin (vs:=[v]) hn' (fun b o hb e=>(sb.2 b hb).trans e) (Nat.le_of_eq sb.1.symm) rfl (fun i y hy=>by
      cases i with
      | zero=>cases hy;exact⟨v,x,rfl,if_pos rfl,r⟩
      | succ i=>cases hy) (Option.some.inj hb).symm) (by rw[show(cEnv sc C env).scope.kind=.function from ok.kind];rfl))
  · obtain⟨a,b,hp,hb⟩:=bp_inv hb
    refine pair_el (Q:=fun x=>wpAny (model X.prog X.w) A (assign (.Tuple [.Name z p,.Name z2 p2] k p3) (cEnv sc C env) x) Q E σ.s) r hp fun tt y y2 hT ra rb=>?_
    have hk:(cEnv sc C env).kindOf z=some .local:=lookup_relabel_local (ok.tgt z (.head _)).1
    have hk2:(cEnv sc C env).kindOf z2=some .local:=lookup_relabel_local (ok.tgt z2 (.tail _ (.head _))).1
    have hzz:z≠z2:=fun e=>(List.nodup_cons.mp ok.nodup).1 (e▸.head _)
    exact sized (kcp_assign (env:=cEnv sc C env) hh hT hk hk2 (by rw[show(cEnv sc C env).scope.kind=.function from ok.kind];rfl) hn fun h' tk hn' k sz=>fin (vs:=[a,b]) hn' (fun b o hb e=>k b o hb e) sz rfl (fun i q hq=>by
      cases i with
      | zero=>cases hq;exact⟨a,y,rfl,(if_neg hzz).trans (if_pos rfl),ra⟩
      | succ i=>cases i with
        | zero=>cases hq;exact⟨b,y2,rfl,if_pos rfl,rb⟩
        | succ i=>cases hq) (Option.some.inj hb).symm)
def Own(D C:Addr)(T:Addr→Prop):Addr→Prop:=fun a=>(a=D∨a=C)∨T a
structure TurnAt(env:Env)(B:Bk)(T:Addr→Prop)(D C:Addr)(σ:Cg X Z)(loc acc:List V)(τ:Cg X Z):Prop where
  st:ToF (Own D C T) σ τ
  fr:Frm X env B τ loc
  ns:∃ m,τ.s.heap.Ns C m
  acc:∃ ys,τ.s.heap.PlainList D ys∧τ.vrs acc ys.toList
theorem comp_core(hh:A.handled=none){S:Type}{nxt:S→Hp→Option (Option (V×S))}{It D C:Addr}{Live:∀ Z,Cg X Z→S→Prop}{sc:Scope}{ts:List Str}{t elt iter:PySem.Expr}{ifs:List PySem.Expr}{ex:Ex}{conds:List Ex}
    (P:PrG X A T It t S nxt Live) (ok:CompOk B sc ts) (ht:tpNames t=some ts) (helt:PE X A Cc (cEnv sc C env) (compBk B sc ts) elt ex) (hifs:PLs X A Cc (cEnv sc C env) (compBk B sc ts) ifs conds)
    (hDC:D≠C) (hTD:¬T D) (hTC:¬T C) (hT:∀ a,T a→Z a) (zD:Z D) (zC:Z C) (zf:∀ a,FA env B a→¬Own D C T a) {c:S} (live₀:Live Z σ c) (at₀:TurnAt env B T D C σ loc [] σ)
    {n:Nat} (hn:n≤lim+1) {w:V×Hp} {K:KL} (run:cmpG nxt (turnK X.T Cc (tpOf ts B.size) ex conds loc) n c σ.H K=some w) {pos:Pos} {R:Result→Shared→Prop}
    (hR:∀ τ us,TurnAt env B T D C σ loc us τ→K us τ.H=some w→R (.ok .next) τ.s) :
    codeAny (model X.prog X.w) A (.compLoop (.ListComp elt [⟨t,iter,ifs,0⟩] sc pos) 0 (.ref It) (.ref D) (cEnv sc C env)) R σ.s:=by
  have zT:∀ a,a=C→Z a:=fun a h=>h▸zC
  have zA:∀ a,a=D→Z a:=fun a h=>h▸zD
  have step:∀ {τ υ:Cg X Z} {F:Addr→Prop} {acc:List V},TurnAt env B T D C σ loc acc τ→ToF F τ υ→(∀ a,F a→Z a)→(∀ a,F a→Own D C T a∧a≠D∧a≠C)→TurnAt env B T D C σ loc acc υ:=fun {τ υ F acc} a s hF h=>
    ⟨a.st.trans (s.loose fun a q=>(h a q).1),a.fr.off s hF fun b q r=>zf b q (h b r).1,a.ns.imp fun m g=>g.at' fun o e=>s.keep _ _ e (fun q=>(τ.I.apart _ q).2 zC) fun q=>(h _ q).2.2 rfl,a.acc.imp fun ys g=>⟨g.1.at fun o e=>s.keep _ _ e (fun q=>(τ.I.apart _ q).2 zD) fun q=>(h _ q).2.1 rfl,s.vrs hF g.2⟩⟩
  have tT:∀ a,T a→Own D C T a∧a≠D∧a≠C:=fun a h=>⟨.inr h,fun e=>hTD (e▸h),fun e=>hTC (e▸h)⟩
  refine comp_loop (fun n s=>∃ τ c K₁ acc,τ.s=s∧cmpG nxt (turnK X.T Cc (tpOf ts B.size) ex conds loc) n c τ.H K₁=some w∧(∀ us H,K₁ us H=K (acc++us) H)∧acc.length+n≤lim+1∧Live Z τ c∧TurnAt env B T D C σ loc acc τ) ?_ n ⟨σ,c,K,[],rfl,run,fun zz zz=>rfl,by rw[List.length_nil,Nat.zero_add];exact hn,live₀,at₀⟩
  rintro n s ⟨τ,c,K₁,acc,rfl,run,hK,hl,live,a⟩
  cases n with
  | zero=>cases run
  | succ n=>
    obtain⟨o,ho,run⟩:=bx_inv run
    cases o with
    | none=>exact P.done τ hT live ho fun υ q=>hR υ acc (step a q.to hT tT) (((List.append_nil acc)▸hK [] υ.H).symm.trans (q.H▸run))
    | some p=>
      obtain⟨loc',hb,run⟩:=bx_inv run
      refine P.item τ hT live ho fun υ x q r go=>go fun υ q r live=>?_
      have a:=step a q.to hT tT
      obtain⟨m,hm⟩:=a.ns
      refine assign_comp hh ok ht a.fr zC (fun b h e=>zf b h (.inl (.inr e))) hm r hb fun φ m' t1 eH F1 F2 hm'=>?_
      have live:=P.stable live (t1.hd zT hT fun b e h=>hTC (e▸h))
      have a:TurnAt env B T D C σ loc acc φ:=⟨a.st.trans (t1.loose fun b e=>.inl (.inr e)),F1,⟨m',hm'⟩,a.acc.imp fun ys g=>⟨g.1.at fun o e=>t1.keep _ _ e (fun q=>(υ.I.apart _ q).2 zD) hDC,t1.vrs zT g.2⟩⟩
      have no:∀ {τ υ:Cg X Z} {c:S},Live Z τ c→To τ υ→Live Z υ c:=fun l t=>P.stable l (ToF.hd t (fun zz h=>h.elim) hT fun zz h=>h.elim)
      rw[show τ.H=φ.H from(eH.trans q.H).symm]at run
      refine tests_ok hifs (K:=fun b H=>cs b (evK X.T Cc ex loc' H fun v H=>cmpG nxt _ n p.2 H fun us H=>K₁ (v::us) H) (cmpG nxt _ n p.2 H fun us H=>K₁ us H)) run F2 fun ψ b t2 e=>?_
      cases b with
      | false=>exact⟨n,Nat.lt_succ_self _,ψ,p.2,_,acc,rfl,e,hK,Nat.le_of_succ_le hl,no live t2,step a t2 (fun zz h=>h.elim) fun zz h=>h.elim⟩
      | true=>
        refine helt ψ e (F2.to t2) fun ω v y t3 ry e=>?_
        have a:=step (step a t2 (fun zz h=>h.elim) fun zz h=>h.elim) t3 (fun zz h=>h.elim) fun zz h=>h.elim
        have live:=no (no live t2) t3
        obtain⟨ys,hD,rs⟩:=a.acc
        refine wpAny_list_append_plain hD (fun h' hD' sb=>?_) (by rw[rs.size];exact le_line (Nat.lt_of_le_of_lt (Nat.le_of_lt_succ (Nat.lt_of_lt_of_le (Nat.lt_add_of_pos_right (Nat.succ_pos n)) hl)) (Nat.lt_succ_self _)))
        let χ:=ω.quiet zA h' ω.s.toks (fun b o n e=>(sb.2 b n).trans e) (Nat.le_of_eq sb.1.symm)
        have qu:Qt (·=D) ω χ:=Qt.quiet
        have live':Live Z χ p.2:=P.stable live (qu.to.hd zA hT fun b e h=>hTD (e▸h))
        have a':TurnAt env B T D C σ loc (acc++[v]) χ:=⟨a.st.trans (qu.to.loose fun b e=>.inl (.inl e)),a.fr.off qu.to zA fun b h e=>zf b h (.inl (.inl e)),a.ns.imp fun m g=>g.sameBut sb (Ne.symm hDC),_,hD',by
          rw[Array.toList_push]
          exact(qu.to.vrs zA rs).snoc (qu.to.vr zA ry)⟩
        exact⟨n,Nat.lt_succ_self _,χ,p.2,_,acc++[v],rfl,e,fun us H=>(hK _ H).trans (by rw[List.append_assoc];rfl),by rw[List.length_append,Nat.add_assoc,Nat.add_comm [v].length];exact hl,live',a'⟩
end
end Mine
end
section
namespace Mine
open PySem PySem.W PySem.Calls PyProof.Rows
section
variable{X:Wd}{A:Around}{Cc:Orc}{env:Env}{B:Bk}{cx:Cx}{d:Nat}{Z Z' T:Addr→Prop}{σ τ:Cg X Z}{loc:List V}{E:Value→Shared→Prop}
variable(X A Cc env B)in
inductive SrcAt(t:PySem.Expr)(f:V→Hp→(Option V→Hp→Rs)→Rs)(σ:Cg X Z)(loc:List V)(Kr:List V→Hp→Prop):Value→Shared→Prop where
  | mk {τ:Cg X Z} {h' tk It T} {n:News τ.s h' T} {S nxt Live c m K w}:To σ τ→PrG X A T It t S nxt Live→Live _ (τ.widen n tk) c→cmpG nxt f m c τ.H K=some w→(∀ us H,K us H=some w→Kr us H)→m≤lim+1→SrcAt t f σ loc Kr (.ref It) (τ.widen n tk).s
structure CompEnd(env:Env)(B:Bk)(σ:Cg X Z)(loc:List V)(D C:Addr){τ:Cg X Z}{T:Addr→Prop}{h₁:Heap}(n:News τ.s h₁ (Own D C T))(us:List V)(t₁:Nat)(υ:Cg X (With Z (Own D C T))):Prop where
  to:To σ τ
  DC:D≠C
  TD:¬T D
  at_:TurnAt env B T D C (τ.widen n t₁) loc us υ
variable{sc:Scope}{ts:List Str}{t elt iter:PySem.Expr}{ifs:List PySem.Expr}{ex ix:Ex}{conds:List Ex}{pos:Pos}{Kr:List V→Hp→Prop}
theorem comp_block(hh:A.handled=none)(ok:CompOk B sc ts)(ht:tpNames t=some ts)
    (helt:∀ C,PE X A Cc (cEnv sc C env) (compBk B sc ts) elt ex) (hifs:∀ C,PLs X A Cc (cEnv sc C env) (compBk B sc ts) ifs conds) (F₀:Frm X env B σ loc) {RR:Value→Addr→Result→Shared→Prop} {it:Value} {s₂:Shared} (src:SrcAt X A t (turnK X.T Cc (tpOf ts B.size) ex conds loc) σ loc Kr it s₂)
    (hRR:∀ {D C} {τ:Cg X Z} {T h₁} {n:News τ.s h₁ (Own D C T)} {us t₁ υ},CompEnd env B σ loc D C n us t₁ υ→Kr us υ.H→RR (.ref D) C (.ok .next) υ.s) :
    wpAny (model X.prog X.w) A (newList []) (fun acc s₃=>wpAny (model X.prog X.w) A (newFunctionEnv sc env.globals (closList env.cells sc.names []) [] env.qual none .none (some env)) (fun cenv s₄=>
      codeAny (model X.prog X.w) A (.compStart (.ListComp elt [⟨t,iter,ifs,0⟩] sc pos) 0 it acc { cenv with scope:=relabel sc env }) (RR acc cenv.locals) s₄) E s₃) E s₂:=by
  cases src with
  | @mk τ h' tk It T nw S nxt Live c m K w st₀ P live run kr hm=>
  refine wpAny_newObj_type (wpAny_newFunctionEnv (fun y hy e=>ok.cell y.1 (e▸hy)) (fun y hy=>absurd hy List.not_mem_nil) (fun h₁ hns₁ hsb₁=>?_) ok.kind)
  have e1:((τ.widen nw tk).s.heap.push { cls:=.type "list",dict:=none,data:=.seq ([]:List Value).toArray }).objs.size=h'.objs.size+1:=Heap.size_push ..
  rw[e1]at hns₁ hsb₁
  have hDC:h'.objs.size≠h'.objs.size+1:=Nat.ne_of_lt (Nat.lt_succ_self _)
  have old:∀ b o,h'.get? b=some o→h₁.get? b=some o:=fun b o e=>hsb₁.extBut b o (Nat.ne_of_lt (Nat.lt_succ_of_lt (Heap.lt_size e))) (push_old _ _ (push_old _ _ e))
  have hsz:h₁.objs.size=h'.objs.size+2:=hsb₁.1.trans (by rw[Heap.size_push,e1])
  have hTD:¬T h'.objs.size:=fun q=>Nat.lt_irrefl _ (nw.hi _ q)
  have hTC:¬T (h'.objs.size+1):=fun q=>Nat.not_lt.mpr (Nat.le_succ _) (nw.hi _ q)
  have nA:News τ.s h₁ (Own h'.objs.size (h'.objs.size+1) T):=⟨fun b o e=>old b o (nw.old b o e),hsz▸Nat.le_trans nw.size (Nat.le_add_right _ _),fun a h=>h.elim (fun h=>Nat.le_trans nw.size (h.elim (fun e=>Nat.le_of_eq e.symm) fun e=>e▸Nat.le_succ _)) (nw.lo a),fun a h=>hsz▸h.elim (fun h=>h.elim (fun e=>e▸Nat.lt_add_of_pos_right (by decide)) fun e=>e▸Nat.lt_succ_self _) fun h=>Nat.lt_of_lt_of_le (nw.hi a h) (Nat.le_add_right _ _)⟩
  have live₁:Live _ (τ.widen nA tk) c:=P.stable live ⟨fun b o zz=>old b o,fun b o e n=>⟨fun q=>q.elim (fun q=>q.elim (fun z=>n (.inl (.inl z))) fun q=>q.elim (fun q=>Nat.lt_irrefl _ (Nat.lt_of_lt_of_le (Heap.lt_size e) (q.elim (fun e=>Nat.le_of_eq e.symm) fun e=>e▸Nat.le_succ _))) fun t=>n (.inl (.inr t))) fun q=>n (.inr q),old b o e⟩,List.prefix_rfl⟩
  have loop:=comp_core (pos:=pos) (iter:=iter) (R:=RR (.ref h'.objs.size) (h'.objs.size+1)) hh (σ:=τ.widen nA tk) P ok ht (helt _) (hifs _) hDC hTD hTC (fun a h=>.inr (.inr h)) (.inr (.inl (.inl rfl))) (.inr (.inl (.inr rfl))) (fun a h q=>Nat.not_lt.mpr (nA.lo a q) (τ.I.zlow a ((F₀.to st₀).fa h))) live₁
    ⟨StepF.refl,(F₀.to st₀).widen nA,⟨_,hns₁⟩,#[],⟨_,hsb₁.extBut _ _ hDC (push_old _ _ (Heap.get?_push_size _ rfl))⟩,rfl⟩ hm run fun υ us a e=>hRR ⟨st₀,hDC,hTD,a⟩ (kr _ _ e)
  show codeAny _ A (.compStart _ 0 (.ref It) (.ref h'.objs.size) (cEnv sc _ env)) (RR (.ref h'.objs.size) _) _
  rw[e1]
  exact codeAny_compStart_list loop (P.self live₁ loop)
theorem comp_clos(F:Frm X env B σ loc)(ok:CompOk B sc ts):closureFor sc env=pure (closList env.cells sc.names []):=
  closure_ok fun x hx=>(ok.free x hx).2.1.elim fun i h=>(F.cells x i h (ok.free x hx).1).imp fun c h=>h.elim fun ov h=>h.1
theorem comp_eval(hh:A.handled=none)(ok:CompOk B sc ts)(ht:tpNames t=some ts)(hs:notSet iter=true)
    (helt:∀ C,PE X A Cc (cEnv sc C env) (compBk B sc ts) elt ex) (hifs:∀ C,PLs X A Cc (cEnv sc C env) (compBk B sc ts) ifs conds) (F:Frm X env B σ loc) {Q:Value→Shared→Prop}
    (src:wpAny (model X.prog X.w) A (eval iter env) (fun xv s₁=>wpAny (model X.prog X.w) A (pyIter xv) (SrcAt X A t (turnK X.T Cc (tpOf ts B.size) ex conds loc) σ loc Kr) E s₁) E σ.s)
    (hK:∀ us H,Kr us H→us.length<lim∧us.all flatV=true) (q:∀ φ us x,To σ φ→φ.fr (.lst us) x→Kr us φ.H→Q x φ.s) :
    wpAny (model X.prog X.w) A (eval (.ListComp elt [⟨t,iter,ifs,0⟩] sc pos) env) Q E σ.s:=by
  rw[eval_ListComp]
  refine wpAny_comprehension_free (use:=none) rfl (fun x=>notSet_folded hs env x) (comp_clos F ok) ok.kind (fun x hx hl=>(ok.own x.1 (hl▸hx)).2) (wpAny_mono src (fun xv s₁ h₁=>wpAny_mono h₁ (fun it s₂ h₂=>?_) fun zz zz e=>e) fun zz zz e=>e)
  refine comp_block hh ok ht helt hifs F h₂ (RR:=fun acc C=>compPost (model X.prog X.w) A E none Q acc C) fun {D C τ T h₁ n us t₁ υ} c e=>?_
  obtain⟨m,hn⟩:=c.at_.ns
  refine⟨m,hn,fun h'' sb=>?_⟩
  have k:∀ b o,υ.s.heap.get? b=some o→¬Own D C T b→h''.get? b=some o:=fun b o e n=>(sb.2 b fun q=>n (.inl (.inr q))).trans e
  obtain⟨ys,hD,rs⟩:=c.at_.acc
  have f:=hK us _ e
  exact q (τ.leave n υ h'' υ.s.toks k (Nat.le_of_eq sb.1.symm)) us (.ref D) (c.to.trans (ToF.leave n c.at_.st fun b h=>.inl (n.lo b h))) ((hD.extBut sb.extBut c.DC).elim fun m hl=>.mk (fun q=>q.elim (n.apart (τ:=υ) (.inl (.inl rfl))).2.2 (n.apart (τ:=υ) (.inl (.inl rfl))).2.1) (.mk (Nat.lt_succ_of_lt f.1) hl ((rs.flat f.2).mono (back_keep k) List.prefix_rfl))) e
theorem Frm.shrink(f:Frm X env B σ loc)(h:∀ a,Z' a→Z a)(hf:∀ a,FA env B a→Z' a):Frm X env B (σ.shrink h) loc where
  ns:=f.ns.imp fun m g=>⟨g.1,fun x i h1 h2 h3=>(g.2 x i h1 h2 h3).imp fun v q=>⟨q.1,q.2.mono (shrink_keep h) List.prefix_rfl⟩⟩
  cells:=fun x i h1 h2=>(f.cells x i h1 h2).imp fun c=>Exists.imp fun ov g=>⟨g.1,hf _ (.inr ⟨x,i,h1,h2,g.1⟩),g.2.2.1,g.2.2.2.1,fun q=>(g.2.2.2.2 q).imp fun v q=>⟨q.1,q.2.mono (shrink_keep h) List.prefix_rfl⟩⟩
  zl:=hf _ (.inl rfl)
  inj:=f.inj
  sinj:=f.sinj
  len:=f.len
  slt:=f.slt
theorem Frm.leave{h' h₂:Heap}{t':Nat}(n:News σ.s h' T)(f₀:Frm X env B σ loc){loc':List V}{υ:Cg X (With Z T)}(f:Frm X env B υ loc'){k:∀ b o,υ.s.heap.get? b=some o→¬T b→h₂.get? b=some o}{sz}:Frm X env B (σ.leave n υ h₂ t' k sz) loc' where
  ns:=f.ns.imp fun m g=>⟨g.1.at' fun o e=>k _ _ e fun z=>(n.apart (τ:=υ) z).2.2 f₀.zl,fun x i h1 h2 h3=>(g.2 x i h1 h2 h3).imp fun v q=>⟨q.1,q.2.mono (back_keep k) List.prefix_rfl⟩⟩
  cells:=fun x i h1 h2=>(f.cells x i h1 h2).imp fun c=>Exists.imp fun ov g=>⟨g.1,f₀.zc h1 h2 g.1,g.2.2.1,g.2.2.2.1.imp fun o q=>⟨k _ _ q.1 fun z=>(n.apart (τ:=υ) z).2.2 (f₀.zc h1 h2 g.1),q.2⟩,fun q=>(g.2.2.2.2 q).imp fun v q=>⟨q.1,q.2.mono (back_keep k) List.prefix_rfl⟩⟩
  zl:=f₀.zl
  inj:=f.inj
  sinj:=f.sinj
  len:=f.len
  slt:=f.slt
theorem comp_assign(hh:A.handled=none)(hE:EnvOk env B)(ok:CompOk B sc ts)(ht:tpNames t=some ts)(hs:notSet iter=true)
    (helt:∀ C,PE X A Cc (cEnv sc C env) (compBk B sc ts) elt ex) (hifs:∀ C,PLs X A Cc (cEnv sc C env) (compBk B sc ts) ifs conds) (F:Frm X env B σ loc) {Q:Flow→Shared→Prop} {spos py:Pos} {y:Str} {i:Nat} (hy:isOwnW B y=some i)
    (hsw:swapsWith (.ListComp elt [⟨t,iter,ifs,0⟩] sc pos) (some (.Name y py)) spos.line env=pure true)
    (src:wpAny (model X.prog X.w) A (eval iter env) (fun xv s₁=>wpAny (model X.prog X.w) A (pyIter xv) (SrcAt X A t (turnK X.T Cc (tpOf ts B.size) ex conds loc) σ loc Kr) E s₁) E σ.s)
    (hK:∀ us H,Kr us H→us.length<lim∧us.all flatV=true) (q:∀ φ us,ToF (FW env B) σ φ→Frm X env B φ (put loc i (.lst us))→Kr us φ.H→Q .next φ.s) :
    wpAny (model X.prog X.w) A (exec (.Assign [.Name y py] (.ListComp elt [⟨t,iter,ifs,0⟩] sc pos) spos) env) Q E σ.s:=by
  rw[exec_Assign_Name_used _ _ _ _ hsw]
  refine wpAny_bind (wpAny_standAt (wpAny_bind ?_))
  show wpAny _ A (do let _ ←comprehension (.ListComp elt [⟨t,iter,ifs,0⟩] sc pos) sc env _ (newList []) false (eval iter env) (some (assign (.Name y py) env))) _ _ σ.s
  refine wpAny_bind (wpAny_mono (wpAny_comprehension_free (use:=some (assign (.Name y py) env)) (Q:=fun zz=>Q .next) rfl (fun x=>notSet_folded hs env x) (comp_clos F ok) ok.kind
    (fun x hx hl=>(ok.own x.1 (hl▸hx)).2) (wpAny_mono src (fun xv s₁ h₁=>wpAny_mono h₁ (fun it s₂ h₂=>?_) fun zz zz e=>e) fun zz zz e=>e)) (fun zz s' hq=>wpAny_pure (wpAny_pure hq)) fun zz zz e=>e)
  refine comp_block hh ok ht helt hifs F h₂ (RR:=fun acc C=>compPost (model X.prog X.w) A E (some (assign (.Name y py) env)) (fun zz=>Q .next) acc C) fun {D C τ T h₁ n us t₁ υ} c e=>?_
  show wpAny _ A (assign (.Name y py) env (.ref D)) _ _ _
  obtain⟨m,hn⟩:=c.at_.ns
  obtain⟨ys,hD,rs⟩:=c.at_.acc
  have f:=hK us _ e
  have sub:∀ a,(a=C∨T a)→Own D C T a:=fun a h=>h.elim (fun h=>.inl (.inr h)) .inr
  have subZ:∀ a,With Z (fun a=>a=C∨T a) a→With Z (Own D C T) a:=fun a h=>h.imp id (sub a)
  have n₂:News τ.s h₁ (fun a=>a=C∨T a):=⟨n.old,n.size,fun a h=>n.lo a (sub a h),fun a h=>n.hi a (sub a h)⟩
  have Fτ:=F.to c.to
  have F₂:Frm X env B (υ.shrink subZ) loc:=c.at_.fr.shrink subZ fun a h=>.inl (Fτ.fa h)
  have tD:=n.apart (τ:=υ) (a:=D) (.inl (.inl rfl))
  have tC:=n.apart (τ:=υ) (a:=C) (.inl (.inr rfl))
  have rD:(υ.shrink subZ).fr (.lst us) (.ref D):=hD.elim fun m hl=>.mk (fun q=>q.elim (fun q=>q.elim tD.2.2 fun q=>q.elim c.DC c.TD) tD.2.1) (.mk (Nat.lt_succ_of_lt f.1) hl ((rs.flat f.2).mono (shrink_keep subZ) List.prefix_rfl))
  refine wpAny_assign_Name (store_ok hE F₂ hy rD.up fun φ t3 eH F3=>?_)
  refine⟨m,hn.at' fun o e=>t3.keep _ _ e tC.2.1 fun q=>tC.2.2 (Fτ.fw C q),fun h₃ sb=>?_⟩
  have k:∀ b o,φ.s.heap.get? b=some o→¬(b=C∨T b)→h₃.get? b=some o:=fun b o e n=>(sb.2 b fun q=>n (.inl q)).trans e
  have st:ToF (fun a=>Own D C T a∨FW env B a) (τ.widen n₂ t₁) φ:=StepF.trans (StepF.loose c.at_.st fun a h=>.inl h) (StepF.loose t3 fun a h=>.inr h)
  exact q (τ.leave n₂ φ h₃ φ.s.toks k (Nat.le_of_eq sb.1.symm)) us (StepF.trans (StepF.weak c.to) (ToF.leave n₂ st fun b h=>h.imp (n.lo b) id)) (Fτ.leave n₂ F3) (show Kr us φ.H from eH▸e)
end
end Mine
end
section
namespace Mine
open PySem PySem.W PySem.Calls PyProof.Rows
section
variable{X:Wd}{A:Around}{Cc:Orc}{env:Env}{B:Bk}{cx:Cx}{d:Nat}{Z:Addr→Prop}{σ:Cg X Z}{loc:List V}{E:Value→Shared→Prop}
theorem tgt_of{t:PySem.Expr}{ts:List Str}(ht:tpNames t=some ts):TgtOk (ts.length==2) t:=by
  rcases tp_inv ht with⟨z,p,rfl,rfl⟩|⟨z,p,z2,p2,k,p3,rfl,rfl⟩
  · exact .one
  · exact .two
theorem tp_two{tp:Tp}{vs:List V}{k:Rs}{w:V×Hp}(h:tpAll tp vs k=some w):AllTwo (tpLen tp==2) vs∧k=some w:=by
  cases tp with
  | one i=>exact⟨nofun,h⟩
  | two i j=>exact⟨fun zz=>List.all_eq_true.mp (gx_inv h).1,(gx_inv h).2⟩
theorem tpOf_len{t:PySem.Expr}{ts:List Str}(ht:tpNames t=some ts)(n:Nat):tpLen (tpOf ts n)=ts.length:=by
  rcases tp_inv ht with⟨z,p,rfl,rfl⟩|⟨z,p,z2,p2,k,p3,rfl,rfl⟩
  · rfl
  · rfl
theorem src_it{iter t:PySem.Expr}{ix:Ex}{ts:List Str}(ht:tpNames t=some ts)(h:PIt X A Cc env B iter ix (ts.length==2)){f:V→Hp→(Option V→Hp→Rs)→Rs}{K:KL}{w:V×Hp}{Kr:List V→Hp→Prop}
    (ev:evIt X.T Cc ix loc σ.H (fun vs H=>tpAll (tpOf ts B.size) vs (compK1 f vs H K))=some w) (F:Frm X env B σ loc) (kr:∀ us H,K us H=some w→Kr us H) :
    wpAny (model X.prog X.w) A (eval iter env) (fun xv s₁=>wpAny (model X.prog X.w) A (pyIter xv) (SrcAt X A t f σ loc Kr) E s₁) E σ.s:=
  h σ ev F fun τ vs h' tk T I n st e hl k=>by
    have p:=tp_two e
    rw[tpOf_len ht]at p
    exact(k t (tgt_of ht) p.1).elim fun Live q=>.mk (tk:=tk) (n:=n) st q.1.toG q.2 (comp1.symm.trans p.2) kr hl
noncomputable def Cg.lock (σ:Cg X Z) {i:Nat} {ws:List V} {f:Foot} (hc:cell σ.H i=some (.list ws)) (hf:σ.ρ[i]?=some f):Cg X Z:=
  σ.set (.lock ws) hc hf σ.s.heap σ.s.toks (fun zz zz e zz=>e) (Nat.le_refl _) (List.Sublist.refl _) fun kp=>LstAt.to (σ.I.cells i _ f hc hf) (fun zz e=>e) fun zz=>VRs.mono kp List.prefix_rfl
noncomputable def Cg.unlock (σ:Cg X Z) {i:Nat} {ws:List V} {f:Foot} (hc:cell σ.H i=some (.lock ws)) (hf:σ.ρ[i]?=some f):Cg X Z:=
  σ.set (.list ws) hc hf σ.s.heap σ.s.toks (fun zz zz e zz=>e) (Nat.le_refl _) (List.Sublist.refl _) fun kp=>LstAt.to (σ.I.cells i _ f hc hf) (fun zz e=>e) fun zz=>VRs.mono kp List.prefix_rfl
theorem listO_inv{o:Option O}{ws:List V}(h:listO o=some ws):o=some (.list ws):=by
  cases o with
  | none=>cases h
  | some o=>cases o with
    | list vs=>cases h;rfl
    | _=>cases h
theorem src_lock(hh:A.handled=none){iter:PySem.Expr}{x:Str}{px:Pos}{ix:Ex}(h:PE X A Cc env B iter ix){f:V→Hp→(Option V→Hp→Rs)→Rs}{K:Nat→KL}{w:V×Hp}{Kr:List V→Hp→Prop}
    (ev:evK X.T Cc ix loc σ.H (fun v H=>bx (refC v) fun i=>bx (listO (cell H i)) fun ws=>compK2 f i (ws.length+1) 0 (setC H i (.lock ws)) (K i))=some w) (F:Frm X env B σ loc) (kr:∀ i us H,K i us H=some w→Kr us H) :
    wpAny (model X.prog X.w) A (eval iter env) (fun xv s₁=>wpAny (model X.prog X.w) A (pyIter xv) (SrcAt X A (.Name x px) f σ loc Kr) E s₁) E σ.s:=
  h σ ev F fun τ v y t r e=>by
    cases v with
    | ref i=>
      obtain⟨ws,hc,e⟩:=bx_inv (show(bx (listO (cell τ.H i)) fun ws=>compK2 f i (ws.length+1) 0 (setC τ.H i (.lock ws)) (K i))=some w from e)
      have hc:=listO_inv hc
      exact r.elim fun ft g=>g.2▸LstAt.el (τ.I.cells i _ ft hc g.1) fun xs n hl h1 q=>wpAny_pyIter_list (IsL.list h1)
        (.mk (τ:=τ.lock hc g.1) (tk:=τ.s.toks) (n:=news1) (t.trans To.set) (Pr.lock (i:=i) hh) ⟨ft,g.1,⟨_,Heap.get?_push_size _ rfl,rfl,rfl⟩⟩ (comp2.symm.trans e) (kr i) hl)
    | _=>exact nn e
section
variable{sc:Scope}{ts:List Str}{t elt iter:PySem.Expr}{ifs:List PySem.Expr}{ex ix:Ex}{conds:List Ex}{pos:Pos}
noncomputable def KrC (K:KV) (w:V×Hp) (us:List V) (H:Hp):Prop:=gd (decide (us.length<lim)&&us.all flatV) (K (.lst us) H)=some w
theorem KrC.ok{K:KV}{w:V×Hp}(us:List V)(H:Hp)(h:KrC K w us H):us.length<lim∧us.all flatV=true:=⟨of_decide_eq_true (and_t (gx_inv h).1).1,(and_t (gx_inv h).1).2⟩
noncomputable def KrL (K:KV) (w:V×Hp) (us:List V) (H:Hp):Prop:=∃ i,(bx (lockO (cell H i)) fun ws=>gd (decide (us.length<lim)&&us.all flatV) (K (.lst us) (setC H i (.list ws))))=some w
theorem KrL.inv{K:KV}{w:V×Hp}{us:List V}{H:Hp}(h:KrL K w us H):∃ i ws,cell H i=some (.lock ws)∧us.length<lim∧us.all flatV=true∧K (.lst us) (setC H i (.list ws))=some w:=
  h.imp fun i h=>(bx_inv h).imp fun ws h=>⟨lockO_inv h.1,of_decide_eq_true (and_t (gx_inv h.2).1).1,(and_t (gx_inv h.2).1).2,(gx_inv h.2).2⟩
theorem KrL.ok{K:KV}{w:V×Hp}(us:List V)(H:Hp)(h:KrL K w us H):us.length<lim∧us.all flatV=true:=h.inv.elim fun i h=>h.elim fun ws h=>⟨h.2.1,h.2.2.1⟩
theorem PE.comp(hh:A.handled=Option.none)(ok:CompOk B sc ts)(ht:tpNames t=some ts)(hs:notSet iter=true)(hi:PIt X A Cc env B iter ix (ts.length==2))
    (helt:∀ C,PE X A Cc (cEnv sc C env) (compBk B sc ts) elt ex) (hifs:∀ C,PLs X A Cc (cEnv sc C env) (compBk B sc ts) ifs conds) :
    PE X A Cc env B (.ListComp elt [⟨t,iter,ifs,0⟩] sc pos) (.comp (tpOf ts B.size) ix ex conds):=fun σ loc K w Q E ev F q=>
  comp_eval hh ok ht hs helt hifs F (src_it (Kr:=KrC K w) ht hi ev F fun us H e=>e) KrC.ok fun φ us x t r e=>q φ (.lst us) x t r.up (gx_inv e).2
theorem PE.compL(hh:A.handled=Option.none){x:Str}{px:Pos}(ok:CompOk B sc [x])(hs:notSet iter=true)(hi:PE X A Cc env B iter ix)
    (helt:∀ C,PE X A Cc (cEnv sc C env) (compBk B sc [x]) elt ex) (hifs:∀ C,PLs X A Cc (cEnv sc C env) (compBk B sc [x]) ifs conds) :
    PE X A Cc env B (.ListComp elt [⟨.Name x px,iter,ifs,0⟩] sc pos) (.compL (.one B.size) ix ex conds):=fun σ loc K w Q E ev F q=>
  comp_eval hh ok rfl hs helt hifs F (src_lock (Kr:=KrL K w) hh hi ev F fun i us H e=>⟨i,e⟩) KrL.ok fun φ us x t r e=>e.inv.elim fun i h=>h.elim fun ws h=>(φ.foot h.1).elim fun f hf=>
    q (φ.unlock h.1 hf) (.lst us) x (t.trans To.set) (To.vr To.set r.up) h.2.2.2
end
def FlR{X:Wd}{Z:Addr→Prop}(σ:Cg X Z):Fl→Flow→Prop
  | .next,f=>f=.next
  | .brk,f=>f=.brk
  | .cont,f=>f=.cont
  | .ret v,f=>∃ x,f=.ret x∧σ.vr v x
def Ks{X:Wd}(env:Env)(B:Bk){Z:Addr→Prop}(σ:Cg X Z)(K:KF)(w:V×Hp)(Q:Flow→Shared→Prop):Prop:=∀ τ fl f loc,ToF (FW env B) σ τ→Frm X env B τ loc→FlR τ fl f→K fl loc τ.H=some w→Q f τ.s
section
variable(X:Wd)(A:Around)(Cc:Orc)(env:Env)(B:Bk)
def PS(st:Stmt)(x:St):Prop:=∀ {Z} (σ:Cg X Z) {loc K w Q E},exS X.T Cc x loc σ.H K=some w→Frm X env B σ loc→Ks env B σ K w Q→wpAny (model X.prog X.w) A (exec st env) Q E σ.s
def PSs(st:List Stmt)(x:List St):Prop:=∀ {Z} (σ:Cg X Z) {loc K w Q E},exL X.T Cc x loc σ.H K=some w→Frm X env B σ loc→Ks env B σ K w Q→wpAny (model X.prog X.w) A (execs st env) Q E σ.s
end
theorem Ks.from{τ:Cg X Z}{K:KF}{w:V×Hp}{Q:Flow→Shared→Prop}(q:Ks env B σ K w Q)(t:ToF (FW env B) σ τ):Ks env B τ K w Q:=fun υ fl f loc t' F r e=>q υ fl f loc (StepF.trans t t') F r e
theorem Ks.here{K:KF}{w:V×Hp}{Q:Flow→Shared→Prop}(q:Ks env B σ K w Q){fl:Fl}{f:Flow}(F:Frm X env B σ loc)(r:FlR σ fl f)(e:K fl loc σ.H=some w):Q f σ.s:=q σ fl f loc StepF.refl F r e
theorem PS.pass{pos}:PS X A Cc env B (.Pass pos) .pass:=fun σ zz zz zz zz zz ev F q=>wpAny_bind (wpAny_standAt (wpAny_pure (q.here F (fl:=.next) rfl ev)))
theorem PS.brk{pos}:PS X A Cc env B (.Break pos) .brk:=fun σ zz zz zz zz zz ev F q=>wpAny_bind (wpAny_standAt (wpAny_pure (q.here F (fl:=.brk) rfl ev)))
theorem PS.cont{pos}:PS X A Cc env B (.Continue pos) .cont:=fun σ zz zz zz zz zz ev F q=>wpAny_bind (wpAny_standAt (wpAny_pure (q.here F (fl:=.cont) rfl ev)))
theorem PS.ret{e:PySem.Expr}{ex:Ex}{pos}(h:PE X A Cc env B e ex):PS X A Cc env B (.Return (some e) pos) (.ret ex):=fun σ zz zz zz zz zz ev F q=>
  wpAny_Return_some (h σ ev F fun τ v x t r e=>q τ (.ret v) _ _ (StepF.weak t) (F.to t) ⟨x,rfl,r⟩ e)
theorem PS.retn{pos}:PS X A Cc env B (.Return none pos) (.ret .none):=fun σ zz zz zz zz zz ev F q=>wpAny_Return_none (q.here F (fl:=.ret .none) ⟨_,rfl,rfl⟩ ev)
theorem notComp_swaps{e:PySem.Expr}(h:notComp e=true)(t:Option PySem.Expr)(n:Nat)(env:Env):swapsWith e t n env=pure false:=by
  cases e with
  | ListComp=>cases h
  | SetComp=>cases h
  | DictComp=>cases h
  | _=>rfl
theorem PS.expr(hE:EnvOk env B){e:PySem.Expr}{ex:Ex}{pos}(h:PE X A Cc env B e ex)(hc:notComp e=true):PS X A Cc env B (.Expr e pos) (.expr ex):=fun σ zz zz zz zz zz ev F q=>
  wpAny_Expr_any (h σ ev F fun τ v x t r e=>q τ .next _ _ (StepF.weak t) (F.to t) rfl e) (by unfold interactive;rw[hE.kind];rfl) (notComp_swaps hc _ _ _)
theorem PS.ite{c:PySem.Expr}{cx:Ex}{t e:List Stmt}{tx ex:List St}{pos}(hc:PT X A Cc env B c cx)(ht:PSs X A Cc env B t tx)(he:PSs X A Cc env B e ex):PS X A Cc env B (.If c t e pos) (.ite cx tx ex):=fun σ loc K w Q E ev F q=>
  wpAny_If (hc σ (K:=fun b H=>cs b (exL X.T Cc tx loc H K) (exL X.T Cc ex loc H K)) ev F fun τ b t' e'=>by
    cases b with
    | true=>rw[if_pos rfl];exact ht τ e' (F.to t') (q.from (StepF.weak t'))
    | false=>rw[if_neg Bool.false_ne_true];exact he τ e' (F.to t') (q.from (StepF.weak t')))
theorem PSs.nil:PSs X A Cc env B [] []:=fun σ zz zz zz zz zz ev F q=>wpAny_execs_nil (q.here F (fl:=.next) rfl ev)
theorem PSs.cons{st:Stmt}{x:St}{r:List Stmt}{xs:List St}(h:PS X A Cc env B st x)(hr:PSs X A Cc env B r xs):PSs X A Cc env B (st::r) (x::xs):=fun σ loc K w Q E ev F q=>
  wpAny_execs_cons (h σ ev F fun τ fl f loc t F1 r e=>by
    cases fl with
    | next=>cases r;exact hr τ e F1 (q.from t)
    | brk=>cases r;exact q τ .brk _ _ t F1 rfl e
    | cont=>cases r;exact q τ .cont _ _ t F1 rfl e
    | ret v=>obtain⟨x,rfl,r⟩:=r;exact q τ (.ret v) _ _ t F1 ⟨x,rfl,r⟩ e)
end
end Mine
end
section
namespace Mine
open PySem PySem.W PySem.Calls PyProof.Rows
section
variable{X:Wd}{A:Around}{Cc:Orc}{env:Env}{B:Bk}{cx:Cx}{d:Nat}{Z:Addr→Prop}{σ:Cg X Z}{loc:List V}{E:Value→Shared→Prop}
theorem PS.whil{c:PySem.Expr}{ce:Ex}{b:List Stmt}{bx:List St}{pos}(hc:PT X A Cc env B c ce)(hb:PSs X A Cc env B b bx):PS X A Cc env B (.While c b [] pos) (.whil ce bx):=fun {Z} σ loc K w Q E ev F q=>by
  refine wpAny_While (codeAny_whileLoop (fun n s=>∃ (τ:Cg X Z) (loc:List V),τ.s=s∧whileK (fun loc H K=>evK X.T Cc ce loc H fun v H=>Mine.bx (truth v) fun b=>K b H) (fun loc H K=>exL X.T Cc bx loc H K) n loc τ.H K=some w∧ToF (FW env B) σ τ∧Frm X env B τ loc) ?_ turns ⟨σ,loc,rfl,ev,StepF.refl,F⟩)
  rintro n s ⟨τ,loc,rfl,ev,st,F⟩
  cases n with
  | zero=>cases ev
  | succ n=>
    refine hc τ (K:=fun b H=>cs b (exL X.T Cc bx loc H fun fl loc H=>match fl with
      | .next=>whileK (fun loc H K=>evK X.T Cc ce loc H fun v H=>Mine.bx (truth v) fun b=>K b H) (fun loc H K=>exL X.T Cc bx loc H K) n loc H K
      | .cont=>whileK (fun loc H K=>evK X.T Cc ce loc H fun v H=>Mine.bx (truth v) fun b=>K b H) (fun loc H K=>exL X.T Cc bx loc H K) n loc H K
      | .brk=>K .next loc H
      | .ret v=>K (.ret v) loc H) (K .next loc H)) ev F fun υ b t e=>?_
    have st:=StepF.trans st (StepF.weak t)
    have F:=F.to t
    cases b with
    | false=>rw[if_neg Bool.false_ne_true];exact wpAny_execs_nil (q υ .next _ loc st F rfl e)
    | true=>
      rw[if_pos rfl]
      refine hb υ e F fun φ fl f loc t2 F r e=>?_
      have st:=StepF.trans st t2
      cases fl with
      | next=>cases r;exact⟨n,Nat.lt_succ_self _,φ,loc,rfl,e,st,F⟩
      | cont=>cases r;exact⟨n,Nat.lt_succ_self _,φ,loc,rfl,e,st,F⟩
      | brk=>cases r;exact q φ .next _ loc st F rfl e
      | ret v=>obtain⟨x,rfl,r⟩:=r;exact q φ (.ret v) _ loc st F ⟨x,rfl,r⟩ e
theorem unpack_sized{prog:Program}{w:World}{A:Around}{E:Value→Shared→Prop}{s:Shared}{t:Addr}{items:Array Value}{targets:List (Bool×(Value→Sem Unit))}{Q:Unit→Shared→Prop}(hh:A.handled=none)(ht:s.heap.IsTuple t items)
    (hn:targets.length=items.size) (hstar:targets.findIdx? (·.1)=none)
    (h:∀ h',(∀ b o,s.heap.get? b=some o→h'.get? b=some o)→s.heap.objs.size≤h'.objs.size→wpAny (model prog w) A (assignInOrder (targets.map (·.2)) items.toList) Q E { s with heap:=h' }) :
    wpAny (model prog w) A (unpack (.ref t) targets) Q E s:=by
  unfold unpack
  rw[hn,hstar]
  exact wpAny_bind (wpAny_holding (sized (wpAny_unpackItems_tuple hh ht fun h' he sz=>h h' (fun b o e=>he b o (Nat.ne_of_lt (Heap.lt_size e)) e) sz)))
inductive TpOk(B:Bk):PySem.Expr→Tp→Prop where
  | one {x p i}:isOwnW B x=some i→TpOk B (.Name x p) (.one i)
  | two {x y px py k p i j}:isOwnW B x=some i→isOwnW B y=some j→TpOk B (.Tuple [.Name x px,.Name y py] k p) (.two i j)
theorem assign_tp(hh:A.handled=none)(hE:EnvOk env B){t:PySem.Expr}{tp:Tp}(ht:TpOk B t tp)(F:Frm X env B σ loc){v:V}{x:Value}(r:σ.vr v x){loc':List V}(hb:bindTp tp v loc=some loc'){Q:Unit→Shared→Prop}(q:∀ τ,ToF (FW env B) σ τ→τ.H=σ.H→Frm X env B τ loc'→Q () τ.s) :
    wpAny (model X.prog X.w) A (assign t env x) Q E σ.s:=by
  cases ht with
  | one h=>
    cases hb
    exact wpAny_assign_Name (store_ok hE F h r q)
  | @two a b pa pb k p i j h1 h2=>
    obtain⟨u,v',hp,hb⟩:=bp_inv hb
    cases hb
    refine pair_el (Q:=fun x=>wpAny _ A (assign (.Tuple [.Name a pa,.Name b pb] k p) env x) Q E σ.s) r hp fun tt y z hT ry rz=>?_
    rw[arm_assign_Tuple]
    refine wpAny_bind (wpAny_standAt (unpack_sized hh hT rfl rfl fun h₁ k0 sz=>?_))
    have t1:To σ (σ.grow h₁ σ.s.toks k0 sz):=To.grow
    exact assignInOrder_cons (wpAny_assign_Name (store_ok hE (F.to t1) h1 (t1.vr ry) fun τ t2 e2 F2=>assignInOrder_cons (wpAny_assign_Name (store_ok hE F2 h2 (t2.vr (F.to t1).fw (t1.vr rz)) fun υ t3 e3 F3=>assignInOrder_nil (q υ (StepF.trans (StepF.weak t1) (StepF.trans t2 t3)) (e3.trans e2) F3)))))
theorem tgt_tp{t:PySem.Expr}{tp:Tp}(ht:TpOk B t tp):TgtOk (tpLen tp==2) t:=by
  cases ht with
  | one=>exact .one
  | two=>exact .two
theorem FlR.to{Z':Addr→Prop}{τ:Cg X Z'}{fl:Fl}{f:Flow}(r:FlR σ fl f)(k:∀ v x,σ.vr v x→τ.vr v x):FlR τ fl f:=by
  cases fl with
  | ret v=>exact r.imp fun x h=>⟨h.1,k _ _ h.2⟩
  | _=>exact r
theorem PS.for(hh:A.handled=none)(hE:EnvOk env B){t iter:PySem.Expr}{tp:Tp}{ix:Ex}{b:List Stmt}{bx:List St}{pos}(ht:TpOk B t tp)(hs:notSet iter=true)(hi:PIt X A Cc env B iter ix (tpLen tp==2))(hb:PSs X A Cc env B b bx) :
    PS X A Cc env B (.For t iter b [] pos) (.for_ tp ix bx):=fun {Z} σ loc K w Q E ev F q=>by
  refine wpAny_For (hi σ ev F fun τ vs h' tk T I n st e hl k=>?_) fun x=>notSet_folded hs env x
  obtain⟨h2,e⟩:=tp_two e
  obtain⟨Live,P,live⟩:=k t (tgt_tp ht) h2
  have Fτ:=F.to st
  have zT:∀ a,T a→With Z T a:=fun a h=>.inr h
  have nT:∀ a,FA env B a→¬T a:=fun a h q=>Nat.not_lt.mpr (n.lo a q) (τ.I.zlow a (Fτ.fa h))
  have zW:∀ a,FW env B a→With Z T a:=fun a h=>.inl (Fτ.fw a h)
  have fin:∀ {υ:Cg X (With Z T)} {fl f loc},ToF (fun a=>T a∨FW env B a) (τ.widen n tk) υ→Frm X env B υ loc→FlR υ fl f→K fl loc υ.H=some w→Q f υ.s:=fun {υ fl f loc} t F r e=>
    q (τ.leave n υ υ.s.heap υ.s.toks (fun zz zz e zz=>e) (Nat.le_refl _)) fl f loc (StepF.trans (StepF.weak st) (ToF.leave n t fun b h=>h.imp (n.lo b) id)) (Fτ.leave n F) (r.to fun v x r=>r.mono (back_keep fun zz zz e zz=>e) List.prefix_rfl) e
  refine codeAny_forLoop_any (fun m s=>∃ (υ:Cg X (With Z T)) (vs loc:List V),m=vs.length∧υ.s=s∧forK (fun v loc H K=>Mine.bx (bindTp tp v loc) fun loc=>exL X.T Cc bx loc H K) vs loc υ.H K=some w∧Live _ υ vs∧ToF (fun a=>T a∨FW env B a) (τ.widen n tk) υ∧Frm X env B υ loc) ?_ vs.length ⟨τ.widen n tk,vs,loc,rfl,rfl,e,live,StepF.refl,Fτ.widen n⟩
  rintro m s ⟨υ,vs,loc,rfl,rfl,ev,live,st,F⟩
  cases vs with
  | nil=>exact P.done υ zT live fun φ qu=>wpAny_execs_nil (fin (StepF.trans st (StepF.loose qu.to fun a h=>.inl h)) (F.off qu.to zT nT) (fl:=.next) rfl (qu.H▸ev))
  | cons v r=>
    obtain⟨loc2,hb2,ev⟩:=bx_inv ev
    refine P.item υ zT live fun φ x qu rx go=>go fun φ qu rx live=>assign_tp hh hE ht (F.off qu.to zT nT) rx hb2 fun χ t3 eH F3=>?_
    have st:=StepF.trans st (StepF.trans (StepF.loose qu.to fun a h=>.inl h) (StepF.loose t3 fun a h=>.inr h))
    have live:Live _ χ r:=P.stable live (t3.hd zW zT fun a h=>nT a h.fa)
    refine hb χ (show exL X.T Cc bx loc2 χ.H _=some w from(eH.trans qu.H)▸ev) F3 fun ψ fl f loc t4 F4 r' e=>?_
    have st:=StepF.trans st (StepF.loose t4 fun a h=>.inr h)
    have live:Live _ ψ r:=P.stable live (t4.hd zW zT fun a h=>nT a h.fa)
    cases fl with
    | next=>cases r';exact⟨r.length,Nat.lt_succ_self _,ψ,r,loc,rfl,rfl,e,live,st,F4⟩
    | cont=>cases r';exact⟨r.length,Nat.lt_succ_self _,ψ,r,loc,rfl,rfl,e,live,st,F4⟩
    | brk=>cases r';exact fin st F4 (fl:=.next) rfl e
    | ret v=>obtain⟨x,rfl,r'⟩:=r';exact fin st F4 (fl:=.ret v) ⟨x,rfl,r'⟩ e
def Ka{X:Wd}(env:Env)(B:Bk){Z:Addr→Prop}(σ:Cg X Z)(K:List V→Hp→Rs)(w:V×Hp)(Q:Unit→Shared→Prop):Prop:=∀ τ loc,ToF (FW env B) σ τ→Frm X env B τ loc→K loc τ.H=some w→Q () τ.s
variable(X A Cc env B)in
def PTg(t:PySem.Expr)(tg:Tg):Prop:=∀ {Z} (σ:Cg X Z) {loc v x K w Q E},stK X.T Cc tg v loc σ.H K=some w→Frm X env B σ loc→σ.vr v x→Ka env B σ K w Q→wpAny (model X.prog X.w) A (assign t env x) Q E σ.s
theorem PTg.var(hE:EnvOk env B){x:Str}{i:Nat}{p}(h:isOwnW B x=some i):PTg X A Cc env B (.Name x p) (.var i):=fun σ zz zz zz zz zz zz zz ev F r q=>
  wpAny_assign_Name (store_ok hE F h r fun τ t e F=>q τ _ t F (e▸ev))
theorem PTg.attr(W:WdOk X cx){o:PySem.Expr}{ox:Ex}{n:Str}{k:Nat}{p}(ho:PE X A Cc env B o ox)(hn:idx n cx.names=some k):PTg X A Cc env B (.Attribute o n p) (.attr ox k):=fun σ zz zz zz zz zz zz zz ev F r q=>by
  rw[assign_Attribute]
  exact wpAny_bind (wpAny_holding (ho σ ev F fun τ a z t ra e=>wpAny_bind (wpAny_standAt (wpAny_bind (wpAny_holding (setAttr_ok W.kin W.cls ra (t.vr r) (W.names n k hn) e fun υ t2 e=>wpAny_release (q υ _ (StepF.weak (t.trans t2)) (F.to (t.trans t2)) e)))))))
theorem PTg.item{o i:PySem.Expr}{ox ix:Ex}{p}(ho:PE X A Cc env B o ox)(hi:PE X A Cc env B i ix):PTg X A Cc env B (.Subscript o i p) (.item ox ix):=fun σ zz zz zz zz zz zz zz ev F r q=>by
  rw[assign_Subscript]
  exact wpAny_bind (wpAny_holding (ho σ ev F fun τ a z t ra e=>wpAny_bind (wpAny_holding (hi τ e (F.to t) fun υ b y t2 rb e=>wpAny_bind (wpAny_standAt (wpAny_bind (wpAny_holding (setItem_ok (t2.vr ra) rb (To.vr (t.trans t2) r) e fun φ t3 e=>wpAny_release (q φ _ (StepF.weak ((t.trans t2).trans t3)) (F.to ((t.trans t2).trans t3)) e)))))))))
inductive PTgs(X:Wd)(A:Around)(Cc:Orc)(env:Env)(B:Bk):List PySem.Expr→List Tg→Prop where
  | nil:PTgs X A Cc env B [] []
  | cons {t tg ts tgs}:PTg X A Cc env B t tg→notStar t=true→(∀ x p,t=.Name x p→∃ i,tg=.var i∧isOwnW B x=some i)→PTgs X A Cc env B ts tgs→PTgs X A Cc env B (t::ts) (tg::tgs)
theorem each_cons{t:PySem.Expr}(h:notStar t=true)(r:List PySem.Expr)(env:Env):assignEach (t::r) env=(false,assign t env)::assignEach r env:=by
  cases t with
  | Starred=>cases h
  | _=>rfl
theorem PTgs.len{ts:List PySem.Expr}{tgs:List Tg}(h:PTgs X A Cc env B ts tgs):(assignEach ts env).length=tgs.length∧(assignEach ts env).findIdx? (·.1)=none:=by
  induction h with
  | nil=>exact⟨rfl,rfl⟩
  | cons _ hs _ _ ih=>
    rw[each_cons hs,List.findIdx?_cons,ih.2]
    exact⟨congrArg (·+1) ih.1,rfl⟩
end
end Mine
end
section
set_option backward.match.sparseCases true
namespace Mine
open PySem PySem.W PySem.Calls PyProof.Rows
def nameIn(env:Env)(line:Nat):PySem.Expr→Option Str
  | .Name id pos=>if env.kindOf id==some .local&&pos.line==line then some id else none
  | _=>none
theorem nameIn_inv{env:Env}{line:Nat}{t:PySem.Expr}{x:Str}(h:nameIn env line t=some x):∃ p,t=.Name x p:=oc_h (P:=fun x=>∃ p,t=.Name x p) h (by
  cases t with
  | Name id pos=>
    show oc (if(env.kindOf id==some .local&&pos.line==line)=true then some id else none) _ True
    by_cases c:(env.kindOf id==some .local&&pos.line==line)=true
    · rw[if_pos c];exact⟨pos,rfl⟩
    · rw[if_neg c];exact trivial
  | _=>exact trivial)
theorem swap_eq{ts vs:List PySem.Expr}{k p k2 p2}{env:Env}:∃ (b1 b2:Bool) (U:Sem (Option (List Str))) (line:Nat),swappedStores [.Tuple ts k p] (.Tuple vs k2 p2) env =
    if b1=true then pure none else if b2=true then pure none else if((ts.filterMap (nameIn env line)).length != ts.length||(ts.filterMap (nameIn env line)).eraseDups.length != (ts.filterMap (nameIn env line)).length)=true then pure none else
    if vs.all (foldedForSure 8)=true then pure none else if vs.all (constantsAlone 8)=true then U else pure (some (ts.filterMap (nameIn env line))):=⟨_,_,_,(Option.map (fun (x:PySem.Expr)=>x.pos.line) ts.head?).getD 0,rfl⟩
theorem swap_cases{ts:List PySem.Expr}{k p}{value:PySem.Expr}{env:Env}(hc:swapSafe value=true) :
    swappedStores [.Tuple ts k p] value env=pure none∨∃ line,swappedStores [.Tuple ts k p] value env=pure (some (ts.filterMap (nameIn env line)))∧(ts.filterMap (nameIn env line)).length=ts.length:=by
  cases ht:tupOf value with
  | none=>
    have e:oc (tupOf value) (fun zz=>True) (swappedStores [.Tuple ts k p] value env=pure none):=by
      clear hc ht
      cases value<;>first|exact trivial|exact rfl
    rw[ht]at e
    exact .inl e
  | some vs=>
    have hd:oc (tupOf value) (fun vs=>!(vs.all (constantsAlone 8))) true=true:=hc
    rw[ht]at hd
    have hd:(vs.all (constantsAlone 8))=false:=Bool.not_eq_true' _▸hd
    clear hc
    obtain⟨k2,p2,rfl⟩:=tupOf_inv ht
    obtain⟨b1,b2,U,line,e⟩:=swap_eq (ts:=ts) (vs:=vs) (k:=k) (p:=p) (k2:=k2) (p2:=p2) (env:=env)
    rw[hd,if_neg (show ¬false=true from Bool.false_ne_true)]at e
    generalize vs.all (foldedForSure 8)=b4 at e
    generalize hN:((ts.filterMap (nameIn env line)).length != ts.length||(ts.filterMap (nameIn env line)).eraseDups.length != (ts.filterMap (nameIn env line)).length)=b3 at e
    cases b1 with
    | true=>exact .inl e
    | false=>cases b2 with
      | true=>exact .inl e
      | false=>cases b3 with
        | true=>exact .inl e
        | false=>cases b4 with
          | true=>exact .inl e
          | false=>exact .inr ⟨line,e,Decidable.of_not_not fun h=>Bool.false_ne_true (hN.symm.trans ((Bool.or_eq_true _ _).mpr (.inl (bne_iff_ne.mpr h))))⟩
noncomputable def putAll:List (Nat×V)→List V→List V
  | [],loc=>loc
  | p::r,loc=>putAll r (put loc p.1 p.2)
theorem put_comm{loc:List V}{i j:Nat}{a b:V}(h:i≠j):put (put loc i a) j b=put (put loc j b) i a:=by
  induction loc generalizing i j with
  | nil=>rfl
  | cons x l ih=>cases i with
    | zero=>cases j with
      | zero=>exact absurd rfl h
      | succ j=>rfl
    | succ i=>cases j with
      | zero=>rfl
      | succ j=>exact congrArg (x::·) (ih fun e=>h (congrArg _ e))
theorem putAll_put{l:List (Nat×V)}{loc:List V}{i:Nat}{a:V}(h:∀ p∈l,i≠p.1):putAll l (put loc i a)=put (putAll l loc) i a:=by
  induction l generalizing loc with
  | nil=>rfl
  | cons p l ih=>exact(congrArg (putAll l) (put_comm (h p (.head _)))).trans (ih fun p hp=>h p (.tail _ hp))
theorem putAll_append{l r:List (Nat×V)}{loc:List V}:putAll (l++r) loc=putAll r (putAll l loc):=by
  induction l generalizing loc with
  | nil=>rfl
  | cons p l ih=>exact ih
theorem putAll_rev{l:List (Nat×V)}{loc:List V}(h:(l.map (·.1)).Nodup):putAll l.reverse loc=putAll l loc:=by
  induction l generalizing loc with
  | nil=>rfl
  | cons p l ih=>
    have h:=List.nodup_cons.mp h
    rw[List.reverse_cons,putAll_append,ih h.2]
    exact(putAll_put fun q hq e=>h.1 (List.mem_map.mpr ⟨q,hq,e.symm⟩)).symm
section
variable{X:Wd}{A:Around}{Cc:Orc}{env:Env}{B:Bk}{cx:Cx}{d:Nat}{Z:Addr→Prop}{σ:Cg X Z}{loc:List V}{E:Value→Shared→Prop}
theorem PTgs.all{ts:List PySem.Expr}{tgs:List Tg}(h:PTgs X A Cc env B ts tgs){vs:List V}{xs:List Value}{K:List V→Hp→Rs}{w:V×Hp}{Q:Unit→Shared→Prop}(ev:stKs X.T Cc tgs vs loc σ.H K=some w)(F:Frm X env B σ loc)(r:σ.vrs vs xs)(q:Ka env B σ K w Q) :
    wpAny (model X.prog X.w) A (assignInOrder ((assignEach ts env).map (·.2)) xs) Q E σ.s:=by
  induction h generalizing σ vs xs loc Q with
  | nil=>cases vs with
    | nil=>exact assignInOrder_nil (q σ loc StepF.refl F ev)
    | cons v vs=>exact nn ev
  | cons h hs _ _ ih=>cases vs with
    | nil=>exact nn ev
    | cons v vs=>cases xs with
      | nil=>exact r.elim
      | cons x xs=>
        rw[each_cons hs]
        exact assignInOrder_cons (h σ ev F r.1 fun τ loc t F1 e=>ih e F1 (t.vrs F.fw r.2) fun υ loc t2 F2 e=>q υ loc (StepF.trans t t2) F2 e)
theorem stores_rev(hE:EnvOk env B){l:List (Str×Nat×V×Value)}(F:Frm X env B σ loc)(h:∀ p∈l,isOwnW B p.1=some p.2.1∧σ.vr p.2.2.1 p.2.2.2){Q:Unit→Shared→Prop}(q:∀ τ,ToF (FW env B) σ τ→τ.H=σ.H→Frm X env B τ (putAll (l.map fun p=>(p.2.1,p.2.2.1)) loc)→Q () τ.s) :
    wpAny (model X.prog X.w) A (assignInOrder ((l.map (·.1)).map fun n=>bindName env n) (l.map fun p=>p.2.2.2)) Q E σ.s:=by
  induction l generalizing σ loc Q with
  | nil=>exact assignInOrder_nil (q σ StepF.refl rfl F)
  | cons p l ih=>
    have h0:=h p (.head _)
    exact assignInOrder_cons (wpAny_bindName (store_ok hE F h0.1 h0.2 fun τ t e F1=>ih F1 (fun p hp=>⟨(h p (.tail _ hp)).1,t.vr F.fw (h p (.tail _ hp)).2⟩) fun υ t2 e2 F2=>q υ (StepF.trans t t2) (e2.trans e) F2))
theorem names_stores{ts:List PySem.Expr}{tgs:List Tg}(h:PTgs X A Cc env B ts tgs){line:Nat}(hl:(ts.filterMap (nameIn env line)).length=ts.length){vs:List V}{xs:List Value}{K:List V→Hp→Rs}{w:V×Hp}
    (ev:stKs X.T Cc tgs vs loc σ.H K=some w) (r:σ.vrs vs xs) :
    ∃ l:List (Str×Nat×V×Value),ts.filterMap (nameIn env line)=l.map (·.1)∧xs=l.map (fun p=>p.2.2.2)∧tgs.filterMap varOf=l.map (fun p=>p.2.1)∧K (putAll (l.map fun p=>(p.2.1,p.2.2.1)) loc) σ.H=some w∧∀ p∈l,isOwnW B p.1=some p.2.1∧σ.vr p.2.2.1 p.2.2.2:=by
  induction h generalizing vs xs loc with
  | nil=>cases vs with
    | nil=>cases r;exact⟨[],rfl,rfl,rfl,ev,fun p hp=>absurd hp List.not_mem_nil⟩
    | cons v vs=>exact nn ev
  | @cons t tg ts tgs h hs hn _ ih=>cases vs with
    | nil=>exact nn ev
    | cons v vs=>cases xs with
      | nil=>exact r.elim
      | cons y ys=>
        rw[List.filterMap_cons]at hl ⊢
        cases hx:nameIn env line t with
        | none=>rw[hx]at hl;exact absurd (hl▸List.length_filterMap_le (nameIn env line) ts) (Nat.not_succ_le_self _)
        | some x=>
          rw[hx]at hl
          obtain⟨p,rfl⟩:=nameIn_inv hx
          obtain⟨i,rfl,hi⟩:=hn x p rfl
          obtain⟨l,a1,a2,a3,a4,a6⟩:=ih (Nat.succ.inj hl) ev r.2
          exact⟨(x,i,v,y)::l,congrArg (x::·) a1,congrArg (y::·) a2,congrArg (i::·) a3,a4,fun p hp=>(List.mem_cons.mp hp).elim (fun e=>e▸⟨hi,r.1⟩) (a6 p)⟩
theorem tup_el{v:V}{x:Value}{k:List V→Rs}{w:V×Hp}{Q:Value→Prop}(r:σ.vr v x)(e:bx (tupC v) k=some w)(q:∀ t xs vs,σ.s.heap.IsTuple t xs→σ.vrs vs xs.toList→k vs=some w→Q (.ref t)):Q x:=by
  cases v with
  | tup vs=>exact Is.el r fun t zz L=>L.el fun xs zz h1 h2=>q t xs vs h1 h2 e
  | _=>exact nn e
theorem PS.unpack(hh:A.handled=none)(hE:EnvOk env B){ts:List PySem.Expr}{tgs:List Tg}{value:PySem.Expr}{ex:Ex}{k p pos}(ht:PTgs X A Cc env B ts tgs)(h:PE X A Cc env B value ex)(hs:swapSafe value=true)(hn:(tgs.filterMap varOf).Nodup):PS X A Cc env B (.Assign [.Tuple ts k p] value pos) (.unpack tgs ex):=fun {Z} σ loc K w Q E ev F q=>by
  have hsw:swapsWithSole [.Tuple ts k p] value pos.line env=pure false:=by cases value<;>rfl
  rcases swap_cases (ts:=ts) (k:=k) (p:=p) (env:=env) hs with hw|⟨line,hw,hlen⟩
  · refine Assign_Tuple (h σ ev F fun τ v x t r e=>tup_el (Q:=fun x=>wpAny _ A (assign (.Tuple ts k p) env x) _ _ τ.s) r e fun tt xs vs hT rs e=>?_) hsw hw
    obtain⟨hl,e⟩:=gx_inv e
    have l:=ht.len
    rw[arm_assign_Tuple]
    refine wpAny_bind (wpAny_standAt (unpack_sized hh hT (by rw[l.1,rs.size];exact(Nat.eq_of_beq_eq_true hl).symm) l.2 fun h₁ k0 sz=>?_))
    have t2:To τ (τ.grow h₁ τ.s.toks k0 sz):=To.grow
    exact ht.all (σ:=τ.grow h₁ τ.s.toks k0 sz) e ((F.to t).to t2) (t2.vrs rs) fun υ loc t3 F3 e=>q υ .next _ loc (StepF.trans (StepF.weak (t.trans t2)) t3) F3 rfl e
  · refine Assign_Tuple_swapped (h σ ev F fun τ v x t r e=>tup_el (Q:=fun x=>wpAny (model X.prog X.w) A (unpackItems x (ts.filterMap (nameIn env line)).length none) _ _ τ.s) r e fun tt xs vs hT rs e=>?_) hsw hw
    obtain⟨l,a1,a2,a3,a4,a6⟩:=names_stores ht hlen (gx_inv e).2 rs
    have hl:(ts.filterMap (nameIn env line)).length=xs.size:=by rw[a1,←Array.length_toList,a2,List.length_map,List.length_map]
    rw[hl]
    refine sized (wpAny_unpackItems_tuple hh hT fun h₁ he sz=>?_)
    have t2:To τ (τ.grow h₁ τ.s.toks (fun b o e=>he b o (Nat.ne_of_lt (Heap.lt_size e)) e) sz):=To.grow
    rw[a1,a2,←List.map_reverse,←List.map_reverse]
    refine stores_rev (σ:=τ.grow h₁ τ.s.toks (fun b o e=>he b o (Nat.ne_of_lt (Heap.lt_size e)) e) sz) hE ((F.to t).to t2) (fun p hp=>⟨(a6 p (List.mem_reverse.mp hp)).1,t2.vr (a6 p (List.mem_reverse.mp hp)).2⟩) fun υ t3 eH F3=>?_
    rw[List.map_reverse,putAll_rev (by rw[List.map_map];exact a3▸hn)]at F3
    exact q υ .next _ _ (StepF.trans (StepF.weak (t.trans t2)) t3) F3 rfl (eH▸a4)
end
end Mine
end
section
namespace Mine
open PySem PySem.W PySem.Calls PyProof.Rows
noncomputable def biName:Bi→Str
  | .len=>"len"
  | .list=>"list"
  | .dict=>"dict"
  | .max=>"max"
  | .sorted=>"sorted"
  | .isBool=>"isinstance"
  | .int=>"int"
theorem boot_bi(b:Bi):bootBuiltins (biName b)=some (biFn b):=by cases b<;>decide +kernel
theorem boot_bool:bootBuiltins "bool" = some (.type "bool"):=by decide +kernel
theorem biOf_name{x:Str}{b:Bi}(h:biOf x=some b):x=biName b∧biRest b=[]:=by
  unfold biOf at h
  repeat' split at h
  all_goals first|(cases h;done)|(cases h;rename_i q;exact⟨q,rfl⟩)
theorem keeps_bi{M:Model}(b:Bi)(h:Heap)(_:True):∃ k,(k=Keeper.frame∨k=Keeper.machine∨k=Keeper.boundFrame)∧Looks M h (keeperOf (biFn b)) k:=⟨.machine,.inr (.inl rfl),by cases b<;>exact Looks.of_pure rfl⟩
theorem bi_names(b:Bi):biName b≠("__debug__" : Str)∧biName b≠("__name__" : Str)∧(biName b = "len"∨biName b = "list"∨biName b = "dict"∨biName b = "max"∨biName b = "sorted"∨biName b = "int"∨biName b = "range"∨biName b = "enumerate"∨biName b = "zip"∨biName b = "isinstance"∨biName b = "bool"):=by cases b<;>decide
section
variable{X:Wd}{A:Around}{C:Orc}{env:Env}{B:Bk}{cx:Cx}{d:Nat}
theorem PE.bi(W:WdOk X cx)(hE:EnvOk env B)(hh:A.handled=Option.none){b:Bi}{own:Bool}{p pos}{es:List PySem.Expr}{exs:List Ex}(hb:biRest b=[])(hg:isGlob B (biName b)=true)(h:PLs X A C env B es exs) :
    PE X A C env B (.Call (.Name (biName b) p) es [] pos) (.bi b own exs):=fun σ loc K w Q E ev F q=>
  wpAny_Call_Name_kw (builtin_ok W hE hg (bi_names b).1 (bi_names b).2.1 (W.bis _ (bi_names b).2.2) (boot_bi b) (call_by h (keeps_bi b) ev F fun τ vs xs t r e=>⟨trivial,by
    have:=bi_ok (A:=A) (E:=E) hh r e (q.from t)
    rw[hb,List.append_nil]at this
    exact this⟩))
theorem PE.isbool(W:WdOk X cx)(hE:EnvOk env B)(hh:A.handled=Option.none){p p2 pos}{e:PySem.Expr}{ex:Ex}(hg:isGlob B "isinstance" = true) (hg2:isGlob B "bool" = true) (h:PE X A C env B e ex) (hs:notStar e=true) :
    PE X A C env B (.Call (.Name "isinstance" p) [e,.Name "bool" p2] [] pos) (.bi .isBool false [ex]):=fun σ loc K w Q E ev F q=>by
  refine wpAny_Call_Name_kw (builtin_ok W hE hg (bi_names .isBool).1 (bi_names .isBool).2.1 (W.bis _ (bi_names .isBool).2.2) (boot_bi .isBool) ?_)
  refine callWith_of (P:=fun zz=>True) (by rw[star_cons hs];rfl) (fun h t=>keeps_bi .isBool h t) ?_
  have key:wpAny (model X.prog X.w) A (spliced (backTo pos (starEach [e,.Name "bool" p2] env))) (fun vs s'=>True∧wpAny (model X.prog X.w) A (PySem.call (biFn .isBool) ([]++vs)) Q E s') E σ.s:=
    wpAny_items_cons (h σ ev F fun τ v x t r e=>wpAny_items_cons (builtin_ok W hE hg2 (by decide) (by decide) (W.bis _ (by decide)) boot_bool (wpAny_items_nil ⟨trivial,bi_ok (A:=A) (E:=E) hh (b:=.isBool) (own:=false) (args:=[v]) (xs:=[x]) ⟨r,rfl⟩ e (q.from t)⟩)) rfl) (star_cons hs _ _)
  rw[star_cons hs]at key ⊢
  exact Calls.evalArgs_plain key
structure Good(X:Wd)(A:Around)(C:Orc)(env:Env)(B:Bk)(e:PySem.Expr)(ex:Ex):Prop extends G1 X A C env B e ex where
  it:∀ n,n=1∨n=2→itOk ex n=true→PIt X A C env B e ex (n==2)
  set:notSet e=true
  pa:∀ y p pos i,isOwnW B y=some i→PS X A C env B (.Assign [.Name y p] e pos) (.assign (.var i) ex)
theorem ps_assign_name(hE:EnvOk env B){e:PySem.Expr}{ex:Ex}{y:Str}{p pos}{i:Nat}(h:PE X A C env B e ex)(hs:swapsWith e (some (.Name y p)) pos.line env=pure false)(hy:isOwnW B y=some i):PS X A C env B (.Assign [.Name y p] e pos) (.assign (.var i) ex):=fun σ zz zz zz zz zz ev F q=>
  wpAny_Assign_Name (h σ ev F fun τ v x t r e=>store_ok hE (F.to t) hy r fun υ t2 eH F2=>q υ .next _ _ (StepF.trans (StepF.weak t) t2) F2 rfl (eH▸e)) hs
theorem Good.mk1(hE:EnvOk env B)(hh:A.handled=none){e:PySem.Expr}{ex:Ex}(pe:PE X A C env B e ex)(pt:PT X A C env B e ex)(hp:plainIt ex=true)(h1:notSet e=true)(h2:notStar e=true)(h3:notComp e=true):Good X A C env B e ex:=
  ⟨⟨pe,pt,h2⟩,fun zz zz zz=>PIt.plain hh pe hp,h1,fun zz zz zz zz hy=>ps_assign_name hE pe (notComp_swaps h3 _ _ _) hy⟩
theorem Good.mk0(hE:EnvOk env B)(hh:A.handled=none){e:PySem.Expr}{ex:Ex}(pe:PE X A C env B e ex)(he:∀ env whole,isTrue e env whole=(do let v ←whole;standAt e.pos;holding [v] (truthy v)))(hp:plainIt ex=true)(h1:notSet e=true)(h2:notStar e=true)(h3:notComp e=true):Good X A C env B e ex:=
  Good.mk1 hE hh pe (PT.of pe he) hp h1 h2 h3
theorem Good.mkIt(hE:EnvOk env B){e:PySem.Expr}{ex:Ex}(dead:∀ loc H K,evK X.T C ex loc H K=none)(it:∀ n,n=1∨n=2→itOk ex n=true→PIt X A C env B e ex (n==2))(h1:notSet e=true)(h2:notStar e=true)(h3:notComp e=true):Good X A C env B e ex:=
  have pe:PE X A C env B e ex:=fun σ zz zz zz zz zz ev=>nn ((dead _ _ _).symm.trans ev)
  ⟨⟨pe,fun σ zz zz zz zz zz ev=>nn ((dead _ _ _).symm.trans ev),h2⟩,it,h1,fun zz zz zz zz hy=>ps_assign_name hE pe (notComp_swaps h3 _ _ _) hy⟩
section
variable{sc:Scope}{ts:List Str}{t elt iter:PySem.Expr}{ifs:List PySem.Expr}{ex ix:Ex}{conds:List Ex}{pos:Pos}
theorem swaps_comp{elt:PySem.Expr}{gens:List Comprehension}{sc:Scope}{pos:Pos}{y:Str}{p:Pos}{n:Nat}:∃ b,swapsWith (.ListComp elt gens sc pos) (some (.Name y p)) n env=pure b:=⟨_,rfl⟩
theorem Good.comp(hE:EnvOk env B)(hh:A.handled=none)(ok:CompOk B sc ts)(ht:tpNames t=some ts)(hs:notSet iter=true)(hi:PIt X A C env B iter ix (ts.length==2))
    (helt:∀ a,PE X A C (cEnv sc a env) (compBk B sc ts) elt ex) (hifs:∀ a,PLs X A C (cEnv sc a env) (compBk B sc ts) ifs conds) :
    Good X A C env B (.ListComp elt [⟨t,iter,ifs,0⟩] sc pos) (.comp (tpOf ts B.size) ix ex conds):=by
  have pe:PE X A C env B (.ListComp elt [⟨t,iter,ifs,0⟩] sc pos) (.comp (tpOf ts B.size) ix ex conds):=PE.comp hh ok ht hs hi helt hifs
  refine⟨⟨pe,PT.of pe fun zz zz=>rfl,rfl⟩,fun zz zz zz=>PIt.plain hh pe rfl,rfl,fun y p ps i hy=>?_⟩
  obtain⟨b,hb⟩:=swaps_comp (env:=env) (elt:=elt) (gens:=[⟨t,iter,ifs,0⟩]) (sc:=sc) (pos:=pos) (y:=y) (p:=p) (n:=ps.line)
  cases b with
  | false=>exact ps_assign_name hE pe hb hy
  | true=>exact fun σ loc K w Q E ev F q=>comp_assign hh hE ok ht hs helt hifs F hy hb (src_it (Kr:=KrC (fun v H=>K .next (put loc i v) H) w) ht hi ev F fun us H e=>e) KrC.ok fun φ us t F e=>q φ .next _ _ t F rfl (gx_inv e).2
theorem Good.compL(hE:EnvOk env B)(hh:A.handled=none){x:Str}{px:Pos}(ok:CompOk B sc [x])(hs:notSet iter=true)(hi:PE X A C env B iter ix)
    (helt:∀ a,PE X A C (cEnv sc a env) (compBk B sc [x]) elt ex) (hifs:∀ a,PLs X A C (cEnv sc a env) (compBk B sc [x]) ifs conds) :
    Good X A C env B (.ListComp elt [⟨.Name x px,iter,ifs,0⟩] sc pos) (.compL (.one B.size) ix ex conds):=by
  have pe:PE X A C env B (.ListComp elt [⟨.Name x px,iter,ifs,0⟩] sc pos) (.compL (.one B.size) ix ex conds):=PE.compL hh ok hs hi helt hifs
  refine⟨⟨pe,PT.of pe fun zz zz=>rfl,rfl⟩,fun zz zz zz=>PIt.plain hh pe rfl,rfl,fun y p ps i hy=>?_⟩
  obtain⟨b,hb⟩:=swaps_comp (env:=env) (elt:=elt) (gens:=[⟨.Name x px,iter,ifs,0⟩]) (sc:=sc) (pos:=pos) (y:=y) (p:=p) (n:=ps.line)
  cases b with
  | false=>exact ps_assign_name hE pe hb hy
  | true=>exact fun σ loc K w Q E ev F q=>comp_assign hh hE ok rfl hs helt hifs F hy hb (src_lock (Kr:=KrL (fun v H=>K .next (put loc i v) H) w) hh hi ev F fun i us H e=>⟨i,e⟩) KrL.ok fun φ us t F e=>e.inv.elim fun j h=>h.elim fun ws h=>(φ.foot h.1).elim fun f hf=>q (φ.unlock h.1 hf) .next _ _ (StepF.trans t (StepF.weak To.set)) (F.to To.set) rfl h.2.2.2
end
end
end Mine
end
section
namespace Mine
open PySem PySem.W PySem.Calls PyProof.Rows
theorem ox_inv{α β:Type}{x:Option α}{f:α→Option β}{e:Option β}{w:β}(h:oc x f e=some w):(∃ a,x=some a∧f a=some w)∨(x=none∧e=some w):=by
  cases x with
  | none=>exact .inr ⟨rfl,h⟩
  | some a=>exact .inl ⟨a,rfl,h⟩
section
variable{α β:Type}{w:β}{P:Prop}
theorem bx_e{x:Option α}{f:α→Option β}(h:bx x f=some w)(k:∀ a,x=some a→f a=some w→P):P:=by
  cases x with
  | none=>exact nn h
  | some a=>exact k a rfl h
theorem gx_e{b:Bool}{t:Option β}(h:gx b t=some w)(k:b=true→t=some w→P):P:=by
  cases b with
  | false=>exact nn h
  | true=>exact k rfl h
theorem ox_e{x:Option α}{f:α→Option β}{e:Option β}(h:oc x f e=some w)(k1:∀ a,x=some a→f a=some w→P)(k2:e=some w→P):P:=by
  cases x with
  | none=>exact k2 h
  | some a=>exact k1 a rfl h
theorem cs_e{b:Bool}{t e:Option β}(h:cs b t e=some w)(k1:b=true→t=some w→P)(k2:e=some w→P):P:=by
  cases b with
  | false=>exact k2 h
  | true=>exact k1 rfl h
theorem so_e{a b:α}{P:α→Prop}(h:some a=some b)(k:P a):P b:=Option.some.inj h▸k
end
theorem isEmpty_nil{α:Type}{l:List α}(h:l.isEmpty=true):l=[]:=by
  cases l with
  | nil=>rfl
  | cons=>cases h
section
variable{X:Wd}{A:Around}{C:Orc}{cx:Cx}{d:Nat}{B:Bk}{env:Env}{own:Bool}{ex:Ex}{f:Bk→Bool→PySem.Expr→Option Ex}
variable(X A C)in
def Snd(f:Bk→Bool→PySem.Expr→Option Ex):Prop:=∀ {B env own e ex},EnvOk env B→f B own e=some ex→Good X A C env B e ex
inductive Gs(X:Wd)(A:Around)(C:Orc)(env:Env)(B:Bk):List PySem.Expr→List Ex→Prop where
  | nil:Gs X A C env B [] []
  | cons {e ex es exs}:Good X A C env B e ex→Gs X A C env B es exs→Gs X A C env B (e::es) (ex::exs)
theorem Gs.pls{es:List PySem.Expr}{exs:List Ex}(h:Gs X A C env B es exs):PLs X A C env B es exs:=by
  induction h with
  | nil=>exact .nil
  | cons g _ ih=>exact .cons g.toG1 ih
theorem Snd.es(S:Snd X A C f)(hE:EnvOk env B){es:List PySem.Expr}{exs:List Ex}(h:mapO (f B own) es=some exs):Gs X A C env B es exs:=by
  induction es generalizing exs with
  | nil=>exact so_e h (.nil)
  | cons e r ih=>
    refine bx_e h fun a h1 h=>?_
    refine bx_e h fun b h2 h=>?_
    exact so_e h (.cons (S hE h1) (ih h2))
theorem Snd.o(S:Snd X A C f)(hE:EnvOk env B){e:Option PySem.Expr}{ex:Option Ex}(h:optO (f B own) e=some ex):PO X A C env B e ex:=by
  cases e with
  | none=>cases h;exact PO.none
  | some e=>
    refine bx_e h fun a h1 h=>?_
    cases h
    exact PO.some (S hE h1).pe
theorem Snd.kv(S:Snd X A C f)(hE:EnvOk env B){ks:List (Option PySem.Expr)}{vs:List PySem.Expr}{l:List Ex}(h:mapKV f B ks vs=some l):PKV X A C env B ks vs l:=by
  induction ks generalizing vs l with
  | nil=>
    refine gx_e h fun h1 h=>?_
    cases h
    obtain rfl:=isEmpty_nil h1
    exact .nil
  | cons k ks ih=>
    obtain⟨k,rfl,h⟩:=bx_inv h
    cases vs with
    | nil=>cases h
    | cons v vs=>
      refine bx_e (show(bx (f B false k) fun a=>bx (f B false v) fun b=>bx (mapKV f B ks vs) fun r=>some (a::b::r))=some l from h) fun a h1 h=>?_
      refine bx_e h fun b h2 h=>?_
      refine bx_e h fun r h3 h=>?_
      exact so_e h (.cons (S hE h1).pe (S hE h2).pe (ih h3))
theorem g_const(W:WdOk X cx)(hE:EnvOk env B)(hh:A.handled=none){c k p}(h:cConst cx c=some ex):Good X A C env B (.Constant c k p) ex:=by
  cases c with
  | none=>exact so_e h (Good.mk0 hE hh PE.none (fun zz zz=>rfl) rfl rfl rfl rfl)
  | bool b=>exact so_e h (Good.mk0 hE hh PE.bool (fun zz zz=>rfl) rfl rfl rfl rfl)
  | int i=>exact so_e h (Good.mk0 hE hh PE.int (fun zz zz=>rfl) rfl rfl rfl rfl)
  | str x=>
    refine bx_e h fun n h1 h=>?_
    exact so_e h (Good.mk0 hE hh (PE.str (W.txt x n h1)) (fun zz zz=>rfl) rfl rfl rfl rfl)
  | _=>cases h
theorem g_name(W:WdOk X cx)(hE:EnvOk env B)(hh:A.handled=none){x p}(h:cE cx f B own (.Name x p)=some ex):Good X A C env B (.Name x p) ex:=by
  refine gx_e h fun h0 h=>?_
  have h0:=and_t h0
  refine ox_e h (fun i hi h=>?_) fun h=>?_
  · exact so_e h (Good.mk0 hE hh (PE.var hE hi (of_decide_eq_true h0.1) (of_decide_eq_true h0.2)) (fun zz zz=>rfl) rfl rfl rfl rfl)
  · refine gx_e h fun hg h=>?_
    obtain⟨g,hg',h⟩:=bx_inv h
    exact so_e h (Good.mk0 hE hh (PE.cst W hE hg (of_decide_eq_true h0.1) hg') (fun zz zz=>rfl) rfl rfl rfl rfl)
theorem g_bin(S:Snd X A C f)(hE:EnvOk env B)(hh:A.handled=none){l op r p}(h:cE cx f B own (.BinOp l op r p)=some ex):Good X A C env B (.BinOp l op r p) ex:=by
  refine bx_e h fun o h0 h=>?_
  refine bx_e h fun a h1 h=>?_
  refine bx_e h fun b h2 h=>?_
  cases h
  have:opOf o=op:=by cases op<;>cases h0<;>rfl
  subst this
  exact Good.mk0 hE hh (PE.bin (S hE h1).pe (S hE h2).pe) (fun zz zz=>rfl) rfl rfl rfl rfl
theorem g_un(S:Snd X A C f)(hE:EnvOk env B)(hh:A.handled=none){op x p}(h:cE cx f B own (.UnaryOp op x p)=some ex):Good X A C env B (.UnaryOp op x p) ex:=by
  refine bx_e h fun a h1 h=>?_
  have g:=S hE h1
  cases op with
  | Not=>exact so_e h (Good.mk1 hE hh (PE.not g.pe) (PT.not g.pt) rfl rfl rfl rfl)
  | USub=>exact so_e h (Good.mk0 hE hh (PE.neg g.pe) (fun zz zz=>rfl) rfl rfl rfl rfl)
  | _=>cases h
theorem g_bool(S:Snd X A C f)(hE:EnvOk env B)(hh:A.handled=none){op es p}(h:cE cx f B own (.BoolOp op es p)=some ex):Good X A C env B (.BoolOp op es p) ex:=by
  refine bx_e h fun l h1 h=>?_
  have g:=(S.es hE h1).pls
  cases op with
  | And=>exact so_e h (Good.mk1 hE hh (PE.and g) (PT.and g) rfl rfl rfl rfl)
  | Or=>exact so_e h (Good.mk1 hE hh (PE.or g) (PT.or g) rfl rfl rfl rfl)
theorem mapO_1{α β:Type}{f:α→Option β}{es:List α}{a:β}(h:mapO f es=some [a]):∃ e,es=[e]∧f e=some a:=by
  cases es with
  | nil=>exact absurd (Option.some.inj h) (fun e=>List.cons_ne_nil _ _ e.symm)
  | cons e r=>
    refine bx_e h fun b h1 k=>bx_e k fun l h2 k=>?_
    have q:=List.cons.inj (Option.some.inj k)
    cases r with
    | nil=>exact⟨e,rfl,h1.trans (congrArg some q.1)⟩
    | cons e2 r=>exact bx_e h2 fun c zz h2=>bx_e h2 fun d zz h2=>absurd ((Option.some.inj h2).trans q.2) (List.cons_ne_nil _ _)
theorem mapO_2{α β:Type}{f:α→Option β}{es:List α}{a b:β}(h:mapO f es=some [a,b]):∃ e1 e2,es=[e1,e2]∧f e1=some a∧f e2=some b:=by
  cases es with
  | nil=>exact absurd (Option.some.inj h) (fun e=>List.cons_ne_nil _ _ e.symm)
  | cons e r=>
    refine bx_e h fun c h1 k=>bx_e k fun l h2 k=>?_
    have q:=List.cons.inj (Option.some.inj k)
    obtain⟨e2,rfl,h3⟩:=mapO_1 (h2.trans (congrArg some q.2))
    exact⟨e,e2,rfl,h1.trans (congrArg some q.1),h3⟩
theorem cmp_e{a:Ex}{ops:List CmpOp}{bs:List Ex}(h:cCmp a ops bs=some ex):(∃ o b,ops=[o]∧bs=[b]∧.cmp o a b=ex)∨∃ o1 o2 b c,ops=[o1,o2]∧bs=[b,c]∧.cmp2 o1 o2 a b c=ex:=by
  cases ops with
  | nil=>exact nn h
  | cons o1 ops=>cases bs with
    | nil=>exact nn h
    | cons b bs=>cases ops with
      | nil=>exact gx_e h fun h0 h=>.inl ⟨o1,b,rfl,congrArg (b::·) (isEmpty_nil h0),Option.some.inj h⟩
      | cons o2 ops=>cases bs with
        | nil=>exact nn h
        | cons c bs=>exact gx_e h fun h0 h=>.inr ⟨o1,o2,b,c,congrArg (o1::o2::·) (isEmpty_nil (and_t h0).1),congrArg (b::c::·) (isEmpty_nil (and_t h0).2),Option.some.inj h⟩
theorem g_cmp(S:Snd X A C f)(room:Room A d)(hE:EnvOk env B){l ops rs p}(h:cE cx f B own (.Compare l ops rs p)=some ex):Good X A C env B (.Compare l ops rs p) ex:=by
  refine bx_e h fun a h1 k=>bx_e k fun bs h2 k=>?_
  clear h
  have g:=S hE h1
  rcases cmp_e k with⟨o,b,rfl,rfl,rfl⟩|⟨o1,o2,b,c,rfl,rfl,rfl⟩
  · obtain⟨e1,rfl,h3⟩:=mapO_1 h2
    have g1:=S hE h3
    exact Good.mk1 hE room.1 (PE.cmp room g.pe g1.pe g1.set) (PT.cmp room g.pe g1.pe g1.set) rfl rfl rfl rfl
  · obtain⟨e1,e2,rfl,h3,h4⟩:=mapO_2 h2
    have g2:=S hE h4
    have p2:=PE.cmp2 (X:=X) (A:=A) (C:=C) (env:=env) (B:=B) (pos:=p) (o1:=o1) (o2:=o2) room g.pe (S hE h3).pe g2.pe g2.set
    exact Good.mk1 hE room.1 p2.1 p2.2 rfl rfl rfl rfl
theorem isOne_inv{s:PySem.Expr}(h:isOne s=true):∃ k p,s=.Constant (.int 1) k p:=cond_t h (by
  cases s with
  | Constant c k p=>cases c with
    | int i=>
      show cond (decide (i=1)) _ True
      by_cases e:i=1
      · subst e;exact⟨k,p,rfl⟩
      · rw[decide_eq_false e];exact trivial
    | _=>exact trivial
  | _=>exact trivial)
theorem isM1_inv{s:PySem.Expr}(h:isM1 s=true):∃ k p1 p2,s=.UnaryOp .USub (.Constant (.int 1) k p1) p2:=cond_t h (by
  cases s with
  | UnaryOp op x p=>cases op with
    | USub=>
      show cond (isOne x) _ True
      cases e:isOne x with
      | false=>exact trivial
      | true=>
        obtain⟨k,p1,rfl⟩:=isOne_inv e
        exact⟨k,p1,p,rfl⟩
    | _=>exact trivial
  | _=>exact trivial)
theorem g_sub(S:Snd X A C f)(hE:EnvOk env B)(hh:A.handled=none){v i p}(h:cSub f B v i=some ex):Good X A C env B (.Subscript v i p) ex:=by
  have item:∀ {i:PySem.Expr},(bx (f B false v) fun a=>bx (f B false i) fun b=>some (.item a b))=some ex→Good X A C env B (.Subscript v i p) ex:=fun {i} h=>by
    refine bx_e h fun a h1 h=>?_
    refine bx_e h fun b h2 h=>?_
    exact so_e h (Good.mk0 hE hh (PE.item (S hE h1).pe (S hE h2).pe) (fun zz zz=>rfl) rfl rfl rfl rfl)
  cases i with
  | Slice lo hi st q=>
    rcases ox_inv h with⟨s,rfl,h⟩|⟨rfl,h⟩
    · refine gx_e h fun h0 h=>?_
      refine bx_e h fun a h1 h=>?_
      cases h
      have h0:=and_t h0
      have h2:=and_t h0.1
      cases Option.isNone_iff_eq_none.mp h0.2
      cases Option.isNone_iff_eq_none.mp h2.2
      obtain⟨k,p1,p2,rfl⟩:=isM1_inv h2.1
      exact Good.mk0 hE hh (PE.rev (S hE h1).pe) (fun zz zz=>rfl) rfl rfl rfl rfl
    · refine bx_e h fun a h1 h=>?_
      refine bx_e h fun b h2 h=>?_
      refine bx_e h fun c h3 h=>?_
      exact so_e h (Good.mk0 hE hh (PE.slc (S hE h1).pe (S.o hE h2) (S.o hE h3)) (fun zz zz=>rfl) rfl rfl rfl rfl)
  | _=>exact item h
theorem isName_inv{e:PySem.Expr}(h:isName e=true):∃ x p,e=.Name x p:=cond_t h (by cases e<;>first|exact trivial|exact⟨_,_,rfl⟩)
theorem methArgs_ok(S:Snd X A C f)(hE:EnvOk env B){k:Nat}{args:List PySem.Expr}{l:List Ex}(h:methArgs f B k args=some l):PLs X A C env B args l:=by
  refine cs_e h (fun zz h=>?_) fun h=>?_
  · refine ox_e h (fun e h0 h=>?_) fun h=>?_
    · refine bx_e h fun v h1 h=>?_
      cases h
      cases args with
      | nil=>cases h0
      | cons a r=>
        obtain⟨hn,h0⟩:=gx_inv h0
        cases h0
        have hn:=and_t hn
        obtain rfl:=isEmpty_nil hn.2
        obtain⟨x,p,rfl⟩:=isName_inv hn.1
        have pe:PE X A C env B (.Name x p) (.frz v):=PE.frz (S hE h1).pe
        exact .cons ⟨pe,PT.of pe fun zz zz=>rfl,rfl⟩ .nil
    · exact(S.es hE h).pls
  · exact(S.es hE h).pls
theorem g_isb(W:WdOk X cx)(S:Snd X A C f)(hE:EnvOk env B)(hh:A.handled=none){args:List PySem.Expr}{p ps}(hg:isGlob B "isinstance" = true) (h:cIsB f B args=some ex):Good X A C env B (.Call (.Name "isinstance" p) args [] ps) ex:=by
  cases args with
  | nil=>cases h
  | cons a r=>cases r with
    | nil=>cases h
    | cons b r=>
      refine gx_e h fun h0 h=>?_
      refine bx_e h fun v h1 h=>?_
      cases h
      have h0:=and_t h0
      obtain rfl:=isEmpty_nil h0.2
      cases b with
      | Name c q=>
        have h2:=and_t h0.1
        cases of_decide_eq_true h2.1
        have g:=S hE h1
        exact Good.mk0 hE hh (PE.isbool W hE hh hg h2.2 g.pe g.star) (fun zz zz=>rfl) rfl rfl rfl rfl
      | _=>exact absurd h0.1 Bool.false_ne_true
theorem one_it{n:Nat}(h:(n==1)=true):n=1:=eq_of_beq h
theorem one_e{g:Ex→Ex}{l:List Ex}(h:oneX g l=some ex):∃ a,l=[a]∧g a=ex:=by
  cases l with
  | nil=>exact nn h
  | cons a r=>exact gx_e h fun h0 h=>⟨a,congrArg (a::·) (isEmpty_nil h0),Option.some.inj h⟩
theorem two_e{g:Ex→Ex→Ex}{l:List Ex}(h:twoX g l=some ex):∃ a b,l=[a,b]∧g a b=ex:=by
  cases l with
  | nil=>exact nn h
  | cons a r=>cases r with
    | nil=>exact nn h
    | cons b r=>exact gx_e h fun h0 h=>⟨a,b,congrArg (a::b::·) (isEmpty_nil h0),Option.some.inj h⟩
section
variable(W:WdOk X cx)(S:Snd X A C f)(hE:EnvOk env B)(hh:A.handled=none){g:Str}{p ps:Pos}{args:List PySem.Expr}(hg:isGlob B g=true)
include W S hE hh hg
theorem g_zip(h:cZip f B g args=some ex):Good X A C env B (.Call (.Name g p) args [] ps) ex:=by
  refine cs_e h (fun h0 k=>bx_e k fun l h1 k=>?_) fun k=>gx_e k fun h0 k=>?_
  · obtain rfl:=of_decide_eq_true h0
    obtain⟨a,b,rfl,rfl⟩:=two_e k
    obtain⟨e1,e2,rfl,h3,h4⟩:=mapO_2 h1
    exact Good.mkIt hE (fun zz zz zz=>rfl) (fun n zz hn=>by obtain rfl:=(eq_of_beq hn:n=2);exact PIt.zip W hE hh hg (S hE h3).toG1 (S hE h4).toG1) rfl rfl rfl
  · obtain rfl:=of_decide_eq_true h0
    exact g_isb W S hE hh hg k
theorem g_enum(h:cEnum f B g args=some ex):Good X A C env B (.Call (.Name g p) args [] ps) ex:=by
  refine cs_e h (fun h0 k=>bx_e k fun l h1 k=>?_) (g_zip W S hE hh hg)
  obtain rfl:=of_decide_eq_true h0
  obtain⟨a,rfl,rfl⟩:=one_e k
  obtain⟨e,rfl,h2⟩:=mapO_1 h1
  exact Good.mkIt hE (fun zz zz zz=>rfl) (fun n zz hn=>by obtain rfl:=(eq_of_beq hn:n=2);exact PIt.enum W hE hh hg (S hE h2).toG1) rfl rfl rfl
theorem g_rng(h:cRng f B g args=some ex):Good X A C env B (.Call (.Name g p) args [] ps) ex:=by
  refine cs_e h (fun h0 k=>bx_e k fun l h1 k=>?_) (g_enum W S hE hh hg)
  obtain rfl:=of_decide_eq_true h0
  exact so_e k (Good.mkIt hE (fun zz zz zz=>rfl) (fun n zz hn=>by obtain rfl:=one_it hn;exact PIt.range W hE hh hg (S.es hE h1).pls) rfl rfl rfl)
theorem g_bi(h:cBi f B own g args=some ex):Good X A C env B (.Call (.Name g p) args [] ps) ex:=
  ox_e h (fun b hb h=>bx_e h fun l h1 h=>so_e h (by
    obtain⟨rfl,hr⟩:=biOf_name hb
    exact Good.mk0 hE hh (PE.bi W hE hh hr hg (S.es hE h1).pls) (fun zz zz=>rfl) rfl rfl rfl rfl)) (g_rng W S hE hh hg)
end
theorem g_call(W:WdOk X cx)(O:OrcOk X C d)(room:Room A d)(S:Snd X A C f)(hE:EnvOk env B){g:Str}{p ps:Pos}{args:List PySem.Expr}(hg:isGlob B g=true)(hd:g≠("__debug__" : Str)) (h:cName cx f B own g args=some ex):Good X A C env B (.Call (.Name g p) args [] ps) ex:=
  ox_e h (fun k hk h=>bx_e h fun l h1 h=>gx_e hk fun ht hk=>so_e h (Good.mk0 hE room.1 (PE.call W hE O room hg hd ht hk (S.es hE h1).pls) (fun zz zz=>rfl) rfl rfl rfl rfl)) fun h=>
  ox_e h (fun k hk h=>bx_e h fun l h1 h=>so_e h (Good.mk0 hE room.1 (PE.new W hE O room hg hd hk (S.es hE h1).pls) (fun zz zz=>rfl) rfl rfl rfl rfl)) (g_bi W S hE room.1 hg)
theorem tp_len{t:PySem.Expr}{ts:List Str}(h:tpNames t=some ts):ts.length=1∨ts.length=2:=by
  rcases tp_inv h with⟨x,p,_,rfl⟩|⟨x,p,y,p2,k,p3,_,rfl⟩
  · exact .inl rfl
  · exact .inr rfl
theorem tp_one{t:PySem.Expr}{ts:List Str}(h:tpNames t=some ts)(h1:ts.length=1):∃ x p,t=.Name x p∧ts=[x]:=by
  rcases tp_inv h with e|⟨x,p,y,p2,k,p3,_,rfl⟩
  · exact e
  · exact absurd h1 (show ¬2=1 by decide)
theorem g_compT(S:Snd X A C f)(hE:EnvOk env B)(hh:A.handled=none){t elt iter:PySem.Expr}{ifs:List PySem.Expr}{sc:Scope}{p:Pos}{ts:List Str}(ht:tpNames t=some ts)(h:cCompT f B elt iter ifs sc ts=some ex):Good X A C env B (.ListComp elt [⟨t,iter,ifs,0⟩] sc p) ex:=by
  refine gx_e h fun ok h=>bx_e h fun i h1 h=>bx_e h fun v h2 h=>bx_e h fun l h3 h=>gx_e h fun hit h=>?_
  have ok:=compOk_is ok
  have g1:=S hE h1
  have g2:∀ a,PE X A C (cEnv sc a env) (compBk B sc ts) elt v:=fun a=>(S (env_comp (C:=a) hE ok) h2).pe
  have g3:∀ a,PLs X A C (cEnv sc a env) (compBk B sc ts) ifs l:=fun a=>(S.es (env_comp (C:=a) hE ok) h3).pls
  refine cs_e h (fun zz k=>gx_e k fun hl k=>so_e k ?_) fun k=>so_e k (Good.comp hE hh ok ht g1.set (g1.it _ (tp_len ht) hit) g2 g3)
  clear h k
  obtain⟨x,px,rfl,rfl⟩:=tp_one ht (of_decide_eq_true hl)
  exact Good.compL hE hh ok g1.set g1.pe g2 g3
theorem g_comp(S:Snd X A C f)(hE:EnvOk env B)(hh:A.handled=none){elt gens sc p}(h:cComp f B elt gens sc=some ex):Good X A C env B (.ListComp elt gens sc p) ex:=by
  cases gens with
  | nil=>exact nn h
  | cons g r=>cases g with
    | mk t iter ifs a=>
      refine gx_e h fun h0 k=>bx_e k fun ts ht k=>?_
      clear h
      obtain rfl:=isEmpty_nil (and_t h0).1
      obtain rfl:=(of_decide_eq_true (and_t h0).2:a=0)
      exact g_compT S hE hh ht k
theorem step_ok(W:WdOk X cx)(O:OrcOk X C d)(room:Room A d)(S:Snd X A C f):Snd X A C (cE cx f):=fun {B env own e ex} hE h=>by
  have hh:=room.1
  cases e with
  | Constant c k p=>exact g_const W hE hh h
  | Name x p=>exact g_name W hE hh h
  | Tuple es k p=>
    refine bx_e h fun l h1 h=>?_
    exact so_e h (Good.mk0 hE hh (PE.tup (S.es hE h1).pls.all) (fun zz zz=>rfl) rfl rfl rfl rfl)
  | List es p=>
    refine bx_e h fun l h1 h=>?_
    exact so_e h (Good.mk0 hE hh (PE.lst (S.es hE h1).pls.all) (fun zz zz=>rfl) rfl rfl rfl rfl)
  | Dict ks vs p=>
    refine gx_e h fun h0 h=>?_
    refine bx_e h fun l h1 h=>?_
    exact so_e h (Good.mk0 hE hh (PE.dct (S.kv hE h1) (of_decide_eq_true h0)) (fun zz zz=>rfl) rfl rfl rfl rfl)
  | BinOp l op r p=>exact g_bin S hE hh h
  | UnaryOp op x p=>exact g_un S hE hh h
  | BoolOp op es p=>exact g_bool S hE hh h
  | IfExp c t e p=>
    refine bx_e h fun a h1 h=>?_
    refine bx_e h fun b h2 h=>?_
    refine bx_e h fun c h3 h=>?_
    cases h
    have g1:=S hE h1
    have g2:=S hE h2
    have g3:=S hE h3
    exact Good.mk1 hE hh (PE.ite g1.pt g2.pe g3.pe) (PT.ite g1.pt g2.pt g3.pt) rfl rfl rfl rfl
  | Compare l ops rs p=>exact g_cmp S room hE h
  | Subscript v i p=>exact g_sub S hE hh h
  | Attribute v a p=>
    refine gx_e h fun h0 h=>?_
    refine bx_e h fun o h1 h=>?_
    refine bx_e h fun k h2 h=>?_
    exact so_e h (Good.mk0 hE hh (PE.attr W h0 (S hE h1).pe h2) (fun zz zz=>rfl) rfl rfl rfl rfl)
  | Call g args kws ps=>
    refine gx_e h fun h0 h=>?_
    obtain rfl:=isEmpty_nil h0
    cases g with
    | Attribute o m ap=>
      refine gx_e h fun h0 h=>?_
      refine bx_e h fun a h1 h=>?_
      refine bx_e h fun k h2 h=>?_
      refine bx_e h fun l h3 h=>?_
      cases h
      have h0:=and_t h0
      have h4:=and_t h0.1
      exact Good.mk0 hE hh (PE.meth W O room h4.1 h4.2 (of_decide_eq_true h0.2) (S hE h1).pe h2 (methArgs_ok S hE h3)) (fun zz zz=>rfl) rfl rfl rfl rfl
    | Name g p=>
      refine gx_e h fun h0 h=>?_
      exact g_call W O room S hE (and_t h0).1 (of_decide_eq_true (and_t h0).2) h
    | _=>exact nn h
  | ListComp elt gens sc p=>exact g_comp S hE hh h
  | _=>exact nn h
theorem cmpE_ok(W:WdOk X cx)(O:OrcOk X C d)(room:Room A d):∀ n,Snd X A C (cmpE cx n)
  | 0=>fun zz h=>nn h
  | n+1=>fun hE h=>step_ok (f:=cmpE cx n) W O room (cmpE_ok W O room n) hE h
end
end Mine
end
section
namespace Mine
open PySem PySem.W PySem.Calls PyProof.Rows
section
variable{X:Wd}{A:Around}{C:Orc}{cx:Cx}{d:Nat}{B:Bk}{env:Env}{f:Bk→Bool→PySem.Expr→Option Ex}{fs:Bk→Stmt→Option St}
structure GT(X:Wd)(A:Around)(C:Orc)(env:Env)(B:Bk)(t:PySem.Expr)(tg:Tg):Prop where
  at_:PTg X A C env B t tg
  star:notStar t=true
  name:∀ x p,t=.Name x p→∃ i,tg=Tg.var i∧isOwnW B x=some i
theorem cT_ok(W:WdOk X cx)(S:Snd X A C f)(hE:EnvOk env B){t:PySem.Expr}{tg:Tg}(h:cT cx f B t=some tg):GT X A C env B t tg:=by
  cases t with
  | Name x p=>
    obtain⟨i,hi,h⟩:=bx_inv h
    cases h
    exact⟨PTg.var hE hi,rfl,fun y q e=>by cases e;exact⟨i,rfl,hi⟩⟩
  | Attribute o a p=>
    obtain⟨v,h1,h⟩:=bx_inv h
    obtain⟨k,h2,h⟩:=bx_inv h
    cases h
    exact⟨PTg.attr W (S hE h1).pe h2,rfl,nofun⟩
  | Subscript o i p=>
    obtain⟨_,h⟩:=gx_inv h
    obtain⟨a,h1,h⟩:=bx_inv h
    obtain⟨b,h2,h⟩:=bx_inv h
    cases h
    exact⟨PTg.item (S hE h1).pe (S hE h2).pe,rfl,nofun⟩
  | _=>cases h
theorem cTs_ok(W:WdOk X cx)(S:Snd X A C f)(hE:EnvOk env B){ts:List PySem.Expr}{tgs:List Tg}(h:mapO (cT cx f B) ts=some tgs):PTgs X A C env B ts tgs:=by
  induction ts generalizing tgs with
  | nil=>cases h;exact .nil
  | cons t ts ih=>
    obtain⟨a,h1,h⟩:=bx_inv h
    obtain⟨b,h2,h⟩:=bx_inv h
    cases h
    have g:=cT_ok W S hE h1
    exact .cons g.at_ g.star g.name (ih h2)
theorem cTp_ok{t:PySem.Expr}{tp:Tp}(h:cTp B t=some tp):TpOk B t tp:=by
  cases t with
  | Name x p=>
    obtain⟨i,hi,h⟩:=bx_inv h
    cases h
    exact .one hi
  | Tuple es k p=>cases es with
    | nil=>cases h
    | cons e1 r=>cases r with
      | nil=>cases h
      | cons e2 r=>
        obtain⟨h0,h⟩:=gx_inv h
        cases isEmpty_nil h0
        obtain⟨x,h1,h⟩:=bx_inv h
        obtain⟨y,h2,h⟩:=bx_inv h
        obtain⟨i,h3,h⟩:=bx_inv h
        obtain⟨j,h4,h⟩:=bx_inv h
        cases h
        obtain⟨p1,rfl⟩:=nameOf_inv h1
        obtain⟨p2,rfl⟩:=nameOf_inv h2
        exact .two h3 h4
  | _=>cases h
theorem ps_assign{t e:PySem.Expr}{tg:Tg}{ex:Ex}{pos:Pos}(g:GT X A C env B t tg)(h:PE X A C env B e ex)(hs:swapsWithSole [t] e pos.line env=pure false)(hw:swappedStores [t] e env=pure none) :
    PS X A C env B (.Assign [t] e pos) (.assign tg ex):=fun σ zz zz zz zz zz ev F q=>
  wpAny_Assign_stores (h σ ev F fun τ v x t' r e=>by
    rw[each_cons g.star]
    exact g.at_ τ e (F.to t') r fun υ loc t2 F2 e=>q υ .next _ loc (StepF.trans (StepF.weak t') t2) F2 rfl e) hs hw
variable(X A C)in
def SndS(fs:Bk→Stmt→Option St):Prop:=∀ {B env st x},EnvOk env B→fs B st=some x→PS X A C env B st x
theorem SndS.l(S:SndS X A C fs)(hE:EnvOk env B){l:List Stmt}{x:List St}(h:mapO (fs B) l=some x):PSs X A C env B l x:=by
  induction l generalizing x with
  | nil=>cases h;exact PSs.nil
  | cons s r ih=>
    obtain⟨a,h1,h⟩:=bx_inv h
    obtain⟨b,h2,h⟩:=bx_inv h
    cases h
    exact PSs.cons (S hE h1) (ih h2)
theorem cAsg_ok(W:WdOk X cx)(S:Snd X A C f)(hE:EnvOk env B)(hh:A.handled=none){t v:PySem.Expr}{x:St}{p:Pos}(h:cAsg cx f B t v=some x):PS X A C env B (.Assign [t] v p) x:=by
  cases t with
  | Tuple ts k q=>
    obtain⟨l,h1,h⟩:=bx_inv h
    obtain⟨e,h2,h⟩:=bx_inv h
    obtain⟨h0,h⟩:=gx_inv h
    cases h
    exact PS.unpack hh hE (cTs_ok W S hE h1) (S hE h2).pe (and_t h0).1 (of_decide_eq_true (and_t h0).2)
  | Name y q=>
    obtain⟨l,h1,h⟩:=bx_inv h
    obtain⟨e,h2,h⟩:=bx_inv h
    cases h
    obtain⟨i,rfl,hi⟩:=(cT_ok W S hE h1).name y q rfl
    exact(S hE h2).pa _ _ _ _ hi
  | Attribute o m q=>
    obtain⟨l,h1,h⟩:=bx_inv h
    obtain⟨e,h2,h⟩:=bx_inv h
    cases h
    exact ps_assign (cT_ok W S hE h1) (S hE h2).pe (by cases v<;>rfl) rfl
  | Subscript o i q=>
    obtain⟨l,h1,h⟩:=bx_inv h
    obtain⟨e,h2,h⟩:=bx_inv h
    cases h
    exact ps_assign (cT_ok W S hE h1) (S hE h2).pe (by cases v<;>rfl) rfl
  | _=>exact nn h
theorem tpLen_is(tp:Tp):tpLen tp=1∨tpLen tp=2:=by
  cases tp with
  | one=>exact .inl rfl
  | two=>exact .inr rfl
theorem cS_ok(W:WdOk X cx)(S:Snd X A C f)(hh:A.handled=none)(Ss:SndS X A C fs):SndS X A C (fun B s=>cS cx f B fs s):=fun {B env st x} hE h=>by
  cases st with
  | Assign ts v p=>cases ts with
    | nil=>exact nn h
    | cons t r=>
      obtain⟨h0,h⟩:=gx_inv h
      cases isEmpty_nil h0
      exact cAsg_ok W S hE hh h
  | Expr v p=>
    obtain⟨h0,h⟩:=gx_inv h
    obtain⟨a,h1,h⟩:=bx_inv h
    cases h
    exact PS.expr hE (S hE h1).pe h0
  | Return v p=>cases v with
    | none=>cases h;exact PS.retn
    | some v=>
      obtain⟨a,h1,h⟩:=bx_inv (show(bx (f B false v) fun a=>some (St.ret a))=some x from h)
      cases h
      exact PS.ret (S hE h1).pe
  | If c t e p=>
    obtain⟨a,h1,h⟩:=bx_inv h
    obtain⟨b,h2,h⟩:=bx_inv h
    obtain⟨c,h3,h⟩:=bx_inv h
    cases h
    exact PS.ite (S hE h1).pt (Ss.l hE h2) (Ss.l hE h3)
  | While c b o p=>
    obtain⟨h0,h⟩:=gx_inv h
    cases isEmpty_nil h0
    obtain⟨a,h1,h⟩:=bx_inv h
    obtain⟨l,h2,h⟩:=bx_inv h
    cases h
    exact PS.whil (S hE h1).pt (Ss.l hE h2)
  | For t it b o p=>
    obtain⟨h0,h⟩:=gx_inv h
    cases isEmpty_nil h0
    obtain⟨tp,h1,h⟩:=bx_inv h
    obtain⟨i,h2,h⟩:=bx_inv h
    obtain⟨l,h3,h⟩:=bx_inv h
    obtain⟨hit,h⟩:=gx_inv h
    cases h
    have g:=S hE h2
    have hb:PSs X A C env B b l:=Ss.l hE h3
    have hi:PIt X A C env B it i (tpLen tp==2):=g.it _ (tpLen_is tp) hit
    have r:PS X A C env B (.For t it b [] p) (.for_ tp i l):=PS.for hh hE (cTp_ok h1) g.set hi hb
    exact @r
  | Break p=>cases h;exact PS.brk
  | Continue p=>cases h;exact PS.cont
  | Pass p=>cases h;exact PS.pass
  | _=>exact nn h
theorem cmpS_ok(W:WdOk X cx)(O:OrcOk X C d)(room:Room A d):∀ n,SndS X A C (cmpS cx n)
  | 0=>fun zz h=>nn h
  | n+1=>fun hE h=>cS_ok W (cmpE_ok W O room 30) room.1 (cmpS_ok W O room n) hE h
end
end Mine
end
section
namespace Mine
open PySem PySem.W PySem.Calls PyProof.Rows
theorem zip_lookup_some{names:List Str}{xs:List Value}{i:Nat}{n:Str}{x:Value}(nd:names.Nodup)(h1:names[i]?=some n)(h2:xs[i]?=some x):(names.zip xs).lookup n=some x:=by
  induction names generalizing xs i with
  | nil=>cases h1
  | cons m names ih=>cases xs with
    | nil=>cases h2
    | cons y xs=>
      rw[List.zip_cons_cons,List.lookup_cons]
      cases i with
      | zero=>cases h1;cases h2;rw[beq_self_eq_true]
      | succ i=>
        have nd:=List.nodup_cons.mp nd
        rw[beq_false_of_ne fun (e:n=m)=>nd.1 (e▸List.mem_of_getElem? h1)]
        exact ih nd.2 h1 h2
theorem zip_lookup_none{names:List Str}{xs:List Value}{i:Nat}{n:Str}(nd:names.Nodup)(h1:names[i]?=some n)(h2:xs.length≤i):(names.zip xs).lookup n=none:=by
  induction names generalizing xs i with
  | nil=>cases h1
  | cons m names ih=>cases xs with
    | nil=>rfl
    | cons y xs=>
      rw[List.zip_cons_cons,List.lookup_cons]
      cases i with
      | zero=>exact absurd h2 (Nat.not_succ_le_zero _)
      | succ i=>
        have nd:=List.nodup_cons.mp nd
        rw[beq_false_of_ne fun (e:n=m)=>nd.1 (e▸List.mem_of_getElem? h1)]
        exact ih nd.2 h1 (Nat.le_of_succ_le_succ h2)
theorem zip_snoc{names:List Str}{xs:List Value}{d:Value}{n:Str}(h:names[xs.length]?=some n):names.zip (xs++[d])=names.zip xs++[(n,d)]:=by
  induction names generalizing xs with
  | nil=>cases h
  | cons m names ih=>cases xs with
    | nil=>cases h;exact congrArg (_::·) (List.zip_nil_right (l:=names))
    | cons x xs=>exact congrArg ((m,x)::·) (ih h)
theorem forIn_pure{α β:Type}{l:List α}{f:α→β→Sem (ForInStep β)}{g:α→β→β}(h:∀ x∈l,∀ c,f x c=pure (.yield (g x c)))(c:β):forIn l c f=pure (l.foldl (fun c x=>g x c) c):=by
  induction l generalizing c with
  | nil=>rfl
  | cons a l ih=>
    rw[List.forIn_cons,h a (.head _)]
    exact ih (fun x hx=>h x (.tail _ hx)) _
noncomputable def fillIn (p:Str×Value) (slots:List (Str×Value)):List (Str×Value):=if(slots.lookup p.1).isNone then slots++[(p.1,p.2)]else slots
theorem fill_all{names:List Str}(nd:names.Nodup):∀ (ds:List Value) (k:Nat) (ys:List Value),k+ds.length=names.length→k≤ys.length→ys.length≤names.length→
    ((names.drop k).zip ds).foldl (fun c x=>fillIn x c) (names.zip ys)=names.zip (ys++ds.drop (ys.length - k)):=by
  intro ds
  induction ds with
  | nil=>intro k ys h1 h2 h3;rw[List.zip_nil_right,List.drop_nil,List.append_nil];rfl
  | cons d ds ih=>
    intro k ys h1 h2 h3
    have h1':k+1+ds.length=names.length:=by rw[Nat.add_assoc,Nat.add_comm 1];exact h1
    have hk:k<names.length:=h1'▸Nat.lt_of_lt_of_le (Nat.lt_succ_self k) (Nat.le_add_right _ _)
    have hn:=List.getElem?_eq_getElem hk
    rw[List.drop_eq_getElem_cons hk,List.zip_cons_cons,List.foldl_cons]
    rcases Nat.lt_or_eq_of_le h2 with hy|hy
    · have:fillIn (names[k],d) (names.zip ys)=names.zip ys:=by
        unfold fillIn;rw[zip_lookup_some nd hn (List.getElem?_eq_getElem hy)];rfl
      rw[this,ih (k+1) ys h1' hy h3]
      obtain⟨m,hm⟩:=Nat.exists_eq_add_of_lt hy
      rw[show ys.length - k=(ys.length - (k+1))+1 from by rw[hm,Nat.add_assoc,Nat.add_sub_cancel_left,Nat.add_comm m,←Nat.add_assoc,Nat.add_sub_cancel_left,Nat.add_comm]];rfl
    · have:fillIn (names[k],d) (names.zip ys)=names.zip (ys++[d]):=by
        unfold fillIn;rw[zip_lookup_none nd hn (Nat.le_of_eq hy.symm),zip_snoc (n:=names[k]) (by rw[←hy];exact hn)];rfl
      have hl:(ys++[d]).length=k+1:=by rw[List.length_append,←hy];rfl
      rw[this,ih (k+1) (ys++[d]) h1' (Nat.le_of_eq hl.symm) (by rw[hl];exact hk),hl,←hy,Nat.sub_self,Nat.sub_self,List.append_assoc];rfl
theorem zip_all{names:List Str}{ys:List Value}(nd:names.Nodup)(h:ys.length=names.length):names.filterMap (fun n=>((names.zip ys).lookup n).map (n,·))=names.zip ys:=by
  have key:∀ (rest:List Str) (k:Nat),names.drop k=rest→rest.filterMap (fun n=>((names.zip ys).lookup n).map (n,·))=rest.zip (ys.drop k):=by
    intro rest
    induction rest with
    | nil=>exact fun zz zz=>rfl
    | cons n rest ih=>
      intro k e
      have hlt:k<names.length:=Nat.not_le.mp fun q=>by rw[List.drop_eq_nil_iff.mpr q]at e;cases e
      rw[List.drop_eq_getElem_cons hlt]at e
      have e:=List.cons.inj e
      have hy:k<ys.length:=h▸hlt
      rw[List.filterMap_cons,zip_lookup_some nd (e.1▸List.getElem?_eq_getElem hlt) (List.getElem?_eq_getElem hy),List.drop_eq_getElem_cons hy,List.zip_cons_cons]
      exact congrArg ((n,ys[k])::·) (ih (k+1) e.2)
  exact key names 0 rfl
structure PlainPar(p:Arguments)(names:List Str):Prop where
  args:p.args.map (·.arg)=names
  posonly:p.posonlyargs=[]
  kwonly:p.kwonlyargs=[]
  vararg:p.vararg=none
  kwarg:p.kwarg=none
def DfltsAt(h:Heap)(v:Value)(ds:List Value):Prop:=(ds=[]∧v=.none)∨∃ T o items n,v=.ref T∧h.get? T=some o∧o.data=.seq items n∧items.toList=ds
noncomputable def tailB (names:List Str) (xs ds:List Value) (x y:Sem (List (Str×Value))):Sem (List (Str×Value)):=
  if(decide (xs.length>names.length)&&true)=true then x
  else if(!(List.filter (fun n=>(List.lookup n (names.zip xs)).isNone) (List.take (names.length - (ds.drop (ds.length - names.length)).length) names)).isEmpty)=true then y
  else forIn ((names.drop (names.length - (ds.drop (ds.length - names.length)).length)).zip (ds.drop (ds.length - names.length))) (names.zip xs) (fun x c=>if(c.lookup x.1).isNone=true then pure (.yield (c++[(x.1,x.2)]))else pure (.yield c))>>= fun s=>pure ((names++[]).filterMap fun n=>(s.lookup n).map (n,·))
theorem bind_shape{fd:FuncData}{p:Arguments}(e:fd.params=p)(ha:p.posonlyargs=[])(hk:p.kwonlyargs=[])(hv:p.vararg=none)(hw:p.kwarg=none)(xs:List Value) :
    ∃ X Y:Option (Array Value)→Sem (List (Str×Value)),bindArgs fd ⟨xs,[]⟩=seqItems? fd.defaults >>= fun o=>tailB (p.args.map (·.arg)) xs ((o.getD #[]).toList) (X o) (Y o):=by
  cases p;cases fd;cases e;cases ha;cases hk;cases hv;cases hw
  exact⟨_,_,rfl⟩
theorem sub_flip{a d n:Nat}(h0:d≤n)(h1:a≤n):a - (n - d)=d - (n - a):=by
  rw[Nat.sub_sub_right _ h0,Nat.sub_sub_right _ h1,Nat.add_comm]
theorem tailB_ok{M:Model}{A:Around}{Q:List (Str×Value)→Shared→Prop}{E:Value→Shared→Prop}{s:Shared}{names:List Str}{xs ds:List Value}{x y:Sem (List (Str×Value))}(nd:names.Nodup)
    (h0:ds.length≤names.length) (h1:xs.length≤names.length) (h2:names.length≤xs.length+ds.length) (q:Q (names.zip (xs++ds.drop (ds.length - (names.length - xs.length)))) s) :
    wpAny M A (tailB names xs ds x y) Q E s:=by
  obtain⟨j,hj⟩:=Nat.exists_eq_add_of_le h0
  have hj':names.length - ds.length=j:=by rw[hj,Nat.add_sub_cancel_left]
  have hjx:j≤xs.length:=Nat.le_of_add_le_add_left (a:=ds.length) (hj▸Nat.add_comm ..▸h2)
  have hm:List.filter (fun n=>(List.lookup n (names.zip xs)).isNone) (List.take j names)=[]:=List.filter_eq_nil_iff.mpr fun a ha=>by
    obtain⟨i,hi,rfl⟩:=List.getElem_of_mem ha
    rw[List.length_take]at hi
    rw[List.getElem_take,zip_lookup_some nd (List.getElem?_eq_getElem (Nat.lt_of_lt_of_le hi (Nat.min_le_right ..))) (List.getElem?_eq_getElem (Nat.lt_of_lt_of_le hi (Nat.le_trans (Nat.min_le_left ..) hjx)))]
    exact Bool.false_ne_true
  have hf:=fill_all nd ds j xs (by rw[Nat.add_comm];exact hj.symm) hjx h1
  rw[←hj',sub_flip h0 h1]at hf
  have hz:(xs++ds.drop (ds.length - (names.length - xs.length))).length=names.length:=by
    rw[List.length_append,List.length_drop,Nat.sub_sub_self (Nat.sub_le_iff_le_add'.mpr h2),Nat.add_sub_cancel' h1]
  unfold tailB
  rw[if_neg (fun h=>Nat.not_lt.mpr h1 (of_decide_eq_true (and_t h).1)),Nat.sub_eq_zero_of_le h0,List.drop_zero,hj',hm,if_neg (show ¬(!([]:List Str).isEmpty)=true from Bool.false_ne_true),←hj',List.append_nil]
  refine wpAny_bind (wpAny_of_eq ((forIn_pure (g:=fillIn) (fun x zz c=>?_) _).trans (congrArg pure hf)) (wpAny_pure ?_))
  · unfold fillIn;split<;>rfl
  · rw[zip_all nd hz];exact q
theorem load_ok{M:Model}{A:Around}{Q:Option (Array Value)→Shared→Prop}{E:Value→Shared→Prop}{s:Shared}{v:Value}{ds:List Value}(hd:DfltsAt s.heap v ds)(h:∀ o,(o.getD #[]).toList=ds→Q o s):wpAny M A (seqItems? v) Q E s:=by
  rcases hd with⟨rfl,e⟩|⟨T,o,items,n,e,ho,hdt,rfl⟩
  · rw[e];exact wpAny_pure (h none rfl)
  · rw[e];exact wpAny_seqItems ho hdt (h (some items) rfl)
theorem binds_ok{s:Shared}{fd:FuncData}{names:List Str}{xs ds:List Value}(P:PlainPar fd.params names)(nd:names.Nodup)
    (hd:DfltsAt s.heap fd.defaults ds) (h0:ds.length≤names.length) (h1:xs.length≤names.length) (h2:names.length≤xs.length+ds.length) :
    BindsTo s fd ⟨xs,[]⟩ (names.zip (xs++ds.drop (ds.length - (names.length - xs.length)))):=fun M A E Q q=>by
  obtain⟨X,Y,e⟩:=bind_shape rfl P.posonly P.kwonly P.vararg P.kwarg xs
  rw[e,P.args]
  exact wpAny_bind (load_ok hd fun o ho=>by rw[ho];exact tailB_ok nd h0 h1 h2 q)
end Mine
end
section
namespace Mine
open PySem PySem.W PySem.Calls PyProof.Rows
structure DefOk(names:List Str)(sc:Scope):Prop where
  par:∀ x∈names,sc.names.lookup x=some .local∨sc.names.lookup x=some .cell
  free:∀ x,(x,NameKind.free) ∉ sc.names
  nodup:(names++(ownNames sc).filter fun x=>!names.contains x).Nodup
  kind:sc.kind=.function
  co:sc.isCoroutine=false
  gen:sc.isGenerator=false
theorem bindL_keep{kindOf:Str→Option NameKind}{x:Str}:∀ {names:List Str} {vals:List Value} {m:Str→Option Value},x ∉ names→bindL kindOf (names.zip vals) m x=m x
  | [],_,_,_=>rfl
  | n::names,[],_,_=>rfl
  | n::names,y::vals,m,hn=>by
    rw[List.zip_cons_cons]
    unfold bindL
    rw[bindL_keep fun h=>hn (.tail _ h)]
    split
    · exact if_neg fun (e:x=n)=>hn (e▸.head _)
    · rfl
theorem bindC_keep{kindOf:Str→Option NameKind}{x:Str}:∀ {names:List Str} {vals:List Value} {m:Str→Option Value},x ∉ names→PySem.bindC kindOf (names.zip vals) m x=m x
  | [],_,_,_=>rfl
  | n::names,[],_,_=>rfl
  | n::names,y::vals,m,hn=>by
    rw[List.zip_cons_cons]
    unfold PySem.bindC
    rw[bindC_keep fun h=>hn (.tail _ h)]
    split
    · rfl
    · exact if_neg fun (e:x=n)=>hn (e▸.head _)
theorem bindL_at{kindOf:Str→Option NameKind}{x:Str}{v:Value}(hk:kindOf x=some .local):∀ {names:List Str} {vals:List Value} {m:Str→Option Value} {i:Nat},names.Nodup→names[i]?=some x→vals[i]?=some v→bindL kindOf (names.zip vals) m x=some v
  | [],_,_,_,_,h,_=>nomatch h
  | n::names,[],_,_,_,_,h=>nomatch h
  | n::names,y::vals,m,i,nd,h,hv=>by
    have nd:=List.nodup_cons.mp nd
    rw[List.zip_cons_cons]
    unfold bindL
    cases i with
    | zero=>
      cases h
      cases hv
      rw[if_pos hk,bindL_keep nd.1]
      exact if_pos rfl
    | succ i=>exact bindL_at hk nd.2 h hv
theorem bindC_at{kindOf:Str→Option NameKind}{x:Str}{v:Value}(hk:kindOf x≠some .local):∀ {names:List Str} {vals:List Value} {m:Str→Option Value} {i:Nat},names.Nodup→names[i]?=some x→vals[i]?=some v→PySem.bindC kindOf (names.zip vals) m x=some v
  | [],_,_,_,_,h,_=>nomatch h
  | n::names,[],_,_,_,_,h=>nomatch h
  | n::names,y::vals,m,i,nd,h,hv=>by
    have nd:=List.nodup_cons.mp nd
    rw[List.zip_cons_cons]
    unfold PySem.bindC
    cases i with
    | zero=>
      cases h
      cases hv
      rw[if_neg hk,bindC_keep nd.1]
      exact if_pos rfl
    | succ i=>exact bindC_at hk nd.2 h hv
theorem lookup_ex{β:Type}{l:List (Str×β)}{x:Str}{b:β}(h:(x,b)∈l):∃ c,l.lookup x=some c:=by
  induction l with
  | nil=>cases h
  | cons p l ih=>
    rw[List.lookup_cons]
    cases e:x==p.1 with
    | true=>exact⟨_,rfl⟩
    | false=>exact(List.mem_cons.mp h).elim (fun q=>by rw[←q,beq_self_eq_true]at e;cases e) ih
theorem cellsFrom_has:∀ (names:List (Str×NameKind)) (n:Nat) (acc:List (Str×Addr)) (x:Str),((x,NameKind.cell)∈names∨∃ c,(x,c)∈acc)→∃ c,(cellsFrom n names acc).lookup x=some c
  | [],n,acc,x,h=>h.elim (fun h=>absurd h List.not_mem_nil) fun ⟨c,h⟩=>lookup_ex h
  | (y,k)::r,n,acc,x,h=>by
    unfold cellsFrom
    split
    · exact cellsFrom_has r _ _ x (h.elim (fun h=>(List.mem_cons.mp h).elim (fun e=>.inr ⟨n,(congrArg (·.1) e:x=y)▸.head _⟩) .inl) fun ⟨c,h⟩=>.inr ⟨c,.tail _ h⟩)
    · rename_i hk
      exact cellsFrom_has r _ _ x (h.imp (fun h=>(List.mem_cons.mp h).elim (fun e=>absurd ((congrArg (·.2) e:NameKind.cell=k)▸rfl) hk) id) id)
theorem slot_rep(k j:Nat):slot (List.replicate k .undef) j=.undef:=by
  induction k generalizing j with
  | zero=>rfl
  | succ k ih=>cases j with
    | zero=>rfl
    | succ j=>exact ih j
section
variable{X:Wd}{A:Around}{Z:Addr→Prop}{σ:Cg X Z}
theorem frame_def{fd:FuncData}{a:Addr}{names:List Str}(D:DefOk names fd.scope){s₁:Shared}{vals:List Value}{vs:List V}{k:Nat}(hl:vs.length=names.length)(hk:names.length+k=(defBk names fd.scope).size)
    (rs:σ.vrs vs vals) (c:InCallC σ.s (callEnvC fd σ.s.heap.objs.size a).locals (bindL (callEnvC fd σ.s.heap.objs.size a).kindOf (names.zip vals) fun zz=>none) (callEnvC fd σ.s.heap.objs.size a).cells (PySem.bindC (callEnvC fd σ.s.heap.objs.size a).kindOf (names.zip vals) fun zz=>none) s₁) :
    ∃ T h₁ t₁,∃ n:News σ.s h₁ T,s₁=(σ.widen n t₁).s∧Frm X (callEnvC fd σ.s.heap.objs.size a) (defBk names fd.scope) (σ.widen n t₁) (vs++List.replicate k .undef)∧∀ b,FW (callEnvC fd σ.s.heap.objs.size a) (defBk names fd.scope) b→T b:=by
  obtain⟨h₁,t₁,rfl⟩:=c.toInCall.same
  have hlt:σ.s.heap.objs.size<h₁.objs.size:=c.toInCall.ns.elim fun o h=>h.elim fun es h=>h.elim fun ep h=>Heap.lt_size h.1
  have nw:News σ.s h₁ (fun b=>b=σ.s.heap.objs.size∨∃ n,(callEnvC fd σ.s.heap.objs.size a).cells.lookup n=some b):=⟨c.toInCall.keep,Nat.le_of_lt hlt,fun b h=>h.elim (fun h=>Nat.le_of_eq h.symm) fun ⟨n,h⟩=>Nat.le_of_lt (c.above n b (mem_of_lookup h)),fun b h=>h.elim (fun h=>h▸hlt) fun ⟨n,h⟩=>(c.cell n b h).lt⟩
  have nd:names.Nodup:=(List.nodup_append.mp D.nodup).1
  have sl:∀ {x i},(defBk names fd.scope).slots.lookup x=some i→(names++(ownNames fd.scope).filter fun x=>!names.contains x)[i]?=some x:=fun {x i} h=>(zip_lookup h).elim fun k q=>by rw[q.1,Nat.zero_add];exact q.2
  have got:∀ {x i},(defBk names fd.scope).slots.lookup x=some i→slot (vs++List.replicate k .undef) i≠.undef→∃ v,names[i]?=some x∧vals[i]?=some v∧σ.vr (slot (vs++List.replicate k .undef) i) v:=fun {x i} h1 h2=>by
    rcases Nat.lt_or_ge i vs.length with hi|hi
    · rw[slot_append_left hi]
      have h3:=sl h1
      rw[List.getElem?_append_left (hl▸hi)]at h3
      obtain⟨v,hv,rv⟩:=rs.get (nth_get.trans (List.getElem?_eq_getElem hi))
      exact⟨v,h3,hv,by rw[slot_get (List.getElem?_eq_getElem hi)];exact rv⟩
    · obtain⟨j,rfl⟩:=Nat.exists_eq_add_of_le hi
      exact absurd (slot_append_right.trans (slot_rep k j)) h2
  refine⟨_,h₁,t₁,nw,rfl,⟨⟨_,c.toInCall.ns,fun x i h1 h2 h3=>(got h1 h3).imp fun v g=>⟨bindL_at h2 nd g.1 g.2.1,g.2.2.mono nw.keep List.prefix_rfl⟩⟩,fun x i h1 h2=>?_,.inr (.inl rfl),fun x y b zz zz zz zz h5 h6=>name_of_addr c.apart (mem_of_lookup h5) (mem_of_lookup h6),fun x y i h1 h2=>Option.some.inj ((sl h1).symm.trans (sl h2)),by rw[List.length_append,List.length_replicate,hl];exact hk,fun x i h=>(List.getElem?_eq_some_iff.mp (sl h)).1⟩,fun b hb=>hb.imp id fun ⟨x,i,_,_,h3⟩=>⟨x,h3⟩⟩
  have h2:fd.scope.names.lookup x=some .cell:=h2.elim id fun h=>absurd (lookup_mem h) (D.free x)
  obtain⟨b,hb⟩:=cellsFrom_has fd.scope.names (σ.s.heap.objs.size+1) [] x (.inl (lookup_mem h2))
  refine⟨b,_,hb,.inr (.inr ⟨x,hb⟩),?_,c.cell x b hb,fun h3=>(got h1 h3).imp fun v g=>⟨bindC_at (fun e=>?_) nd g.1 g.2.1,g.2.2.mono nw.keep List.prefix_rfl⟩⟩
  · cases e:X.h₀.get? b with
    | none=>rfl
    | some o=>exact absurd (Nat.lt_of_lt_of_le (Heap.lt_size e) σ.I.size) (Nat.not_lt.mpr (Nat.le_of_lt (c.above x b (mem_of_lookup hb))))
  · cases h2.symm.trans e
structure FnOk(X:Wd)(cx:Cx)(fn:Fn)(a:Addr)(o:Obj)(fd:FuncData)(body:List Stmt)(names:List Str)(m:Nat):Prop where
  there:X.h₀.get? a=some o
  data:o.data=.func fd
  code:X.h₀.CodeRec fd.code fd.qualname
  stm:fd.body=.stmts body
  clo:fd.closure=[]
  glob:fd.globals=mainGlobals
  blt:fd.builtins=builtinsNs
  par:PlainPar fd.params names
  ok:DefOk names fd.scope
  params:fn.params=names.length
  slots:fn.slots=(defBk names fd.scope).size
  cmp:mapO (cmpS cx m (defBk names fd.scope)) body=some fn.body
  few:fn.dflts.length≤names.length
  dflts:∃ ds,DfltsAt X.h₀ fd.defaults ds∧VRs X X.h₀ (fun a=>X.h₀.get? a=none) fn.dflts [] ds
variable{cx:Cx}{d:Nat}
theorem run_in(W:WdOk X cx)(nl:X.h₀.NoLimit)(O:OrcOk X (callF X.T d) d){fn:Fn}{a:Addr}{o:Obj}{fd:FuncData}{body:List Stmt}{names:List Str}{m:Nat}(F:FnOk X cx fn a o fd body names m){K:KV}{w:V×Hp}{args:List V}{xs:List Value}
    (e:rnIn X.T (callF X.T d) fn args σ.H K=some w) (room:Room2 A (d+1)) (r:σ.vrs args xs) {R:Result→Shared→Prop} (q:∀ τ v x,To σ τ→τ.vr v x→K v τ.H=some w→R (.ok (.ret x)) τ.s) :
    codeAny (model X.prog X.w) A (.call (.ref a) ⟨xs,[]⟩) R σ.s:=by
  obtain⟨loc,hf,e⟩:=bx_inv e
  obtain⟨hlen,hf⟩:=gx_inv hf
  cases hf
  have hl1:=of_decide_eq_true (and_t hlen).1
  have hl2:=of_decide_eq_true (and_t hlen).2
  have rl:=r.length
  obtain⟨ds,hds,rd⟩:=F.dflts
  have rd:σ.vrs fn.dflts ds:=rd.mono base_keep List.nil_prefix
  have hds:DfltsAt σ.s.heap fd.defaults ds:=hds.imp id fun ⟨T,o,it,n,h1,h2,h3,h4⟩=>⟨T,o,it,n,h1,σ.I.base _ _ h2,h3,h4⟩
  have dl:=rd.length
  have hp:=F.params
  have few:=F.few
  have B:=binds_ok (s:=σ.s) (fd:=fd) (names:=names) (xs:=xs) (ds:=ds) F.par (List.nodup_append.mp F.ok.nodup).1 hds (dl▸few) (by rw[←rl,←hp];exact hl1) (by rw[←rl,←dl,←hp];exact hl2)
  rw[←dl,←rl,←hp]at B
  have rs:=r.append (rd.drop (fn.dflts.length - (fn.params - args.length)))
  have hvl:(args++fn.dflts.drop (fn.dflts.length - (fn.params - args.length))).length=names.length:=by rw[List.length_append,List.length_drop];lia
  refine codeAny_call_function (by have:=room.2.1;lia) (σ.I.base _ _ F.there) F.data F.ok.co F.ok.gen F.stm (F.code.imp fun c=>Exists.imp fun oc=>Exists.imp fun vs=>Exists.imp fun tq h=>⟨h.1,σ.I.base _ _ h.2.1,h.2.2⟩) (B _ _ _ _ ?_)
  rw[F.clo]
  refine wpAny_newFunctionEnv_cells F.ok.kind (fun x hx=>(F.ok.par x.1 (List.of_mem_zip (show(x.1,x.2)∈_ from hx)).1).imp id fun h=>⟨h,(cellsFrom_has fd.scope.names (σ.s.heap.objs.size+1) [] x.1 (.inl (lookup_mem h))).elim fun b hb=>by rw[hb];rfl⟩) fun env he s₁ c=>?_
  subst he
  refine⟨nl.at fun o e=>c.toInCall.keep _ _ (σ.I.base _ _ e),codeAny_func ?_⟩
  have hk:names.length+(fn.slots - fn.params)=(defBk names fd.scope).size:=by
    rw[F.slots,hp]
    exact Nat.add_sub_cancel' (show names.length≤(names++_).length by rw[List.length_append];exact Nat.le_add_right _ _)
  obtain⟨T,h₁,t₁,nw,rfl,Fr,hT⟩:=frame_def (a:=a) (k:=fn.slots - fn.params) F.ok hvl hk rs c
  have room':Room (A.deeper (callEnvC fd σ.s.heap.objs.size a)) d:=⟨room.1,by have:=room.2.1;show A.depth+1+_+_<_;lia,by have:=room.2.2;show A.units+3+_+_<_;lia⟩
  have sS:SndS X (A.deeper (callEnvC fd σ.s.heap.objs.size a)) (callF X.T d) (cmpS cx m):=cmpS_ok W @O room' m
  have body:PSs X (A.deeper (callEnvC fd σ.s.heap.objs.size a)) (callF X.T d) (callEnvC fd σ.s.heap.objs.size a) (defBk names fd.scope) body fn.body:=SndS.l @sS (show EnvOk (callEnvC fd σ.s.heap.objs.size a) (defBk names fd.scope)from⟨F.ok.kind,fun x k h=>.inl h,F.glob,F.blt⟩) F.cmp
  have fin:∀ (τ:Cg X (With Z T)) {v x},ToF (FW (callEnvC fd σ.s.heap.objs.size a) (defBk names fd.scope)) (σ.widen nw t₁) τ→τ.vr v x→K v τ.H=some w→R (.ok (.ret x)) τ.s:=fun τ v x st r e=>
    q (σ.leave nw τ τ.s.heap τ.s.toks (fun zz zz e zz=>e) (Nat.le_refl _)) v x (ToF.leave nw st fun b hb=>.inl (nw.lo b (hT b hb))) (r.mono (back_keep fun zz zz e zz=>e) List.prefix_rfl) e
  refine body (σ.widen nw t₁) e Fr fun τ fl f loc st F2 r e=>?_
  cases fl with
  | ret v=>obtain⟨x,rfl,r⟩:=r;exact fin τ st r e
  | next=>cases r;exact fin τ st (v:=.none) rfl e
  | _=>exact nn e
def Fns(X:Wd)(cx:Cx):Prop:=∀ f fn a,X.T.fns f=some fn→X.fn f=some a→∃ o fd body names m,FnOk X cx fn a o fd body names m
theorem orc_all(W:WdOk X cx)(nl:X.h₀.NoLimit)(fns:Fns X cx):∀ d,OrcOk X (callF X.T d) d
  | 0=>fun zz e=>nn e
  | d+1=>fun σ e ha room r q=>by
    have O:OrcOk X (callF X.T d) d:=orc_all W nl fns d
    obtain⟨fn,hfn,e⟩:=bx_inv e
    obtain⟨o,fd,body,names,m,F⟩:=fns _ fn _ hfn ha
    rcases cs_inv e with⟨_,e⟩|⟨_,e⟩
    · obtain⟨us,H1,e1,e⟩:=bp_inv e
      have p:=each_ok (frz_ok 8) σ e1 r
      exact run_in (σ:=Cg.pure ⟨σ.s,σ.ρ,H1,p.1.inv⟩) W nl @O F e room (VRs.mono (pure_keep (σ:=⟨σ.s,σ.ρ,H1,p.1.inv⟩)) List.prefix_rfl p.2) fun τ u x t r e=>frzK_ok r e fun υ u es t' r e=>
        have i:=Prod.mk.inj (Option.some.inj e)
        es▸q (Cg.unpure ⟨σ.s,σ.ρ,H1,p.1.inv⟩ υ (t.trans t')) x ((p.1.frz.to σ p.1.inv).trans (To.unpure _)) i.2 (i.1▸unpure_vr _ r)
    · exact run_in W nl @O F e room r fun τ u x t r e=>
        have i:=Prod.mk.inj (Option.some.inj e)
        q τ x t i.2 (i.1▸r)
end
end Mine
end
section
namespace Mine
open PySem PySem.W PySem.Calls PyProof.Rows
noncomputable def fnA:List Addr:=[21,30,37,44,51,58,72,93,100,107,114,121,128,135,142,157,164,171,187,201,208,215,221,235,242,257,268,275,280,287,294,301,308,313,320,327,334,341,348,355,362,369,376,383,390,398,405,410,417,424,432,439,446,460,467,474,481,488,502,516,523,530,537,551,558,565,572,577,582,587,594,599,604,609,614]
noncomputable def clsA:List Addr:=[75,145,190,245,491,540]
noncomputable def fdO:Obj→Option FuncData
  | ⟨_,_,.func fd,_⟩=>some fd
  | _=>none
noncomputable def fdIn (K:Frag) (a:Addr):Option FuncData:=bx (K.lookup a) fdO
noncomputable def stmtsOf (fd:FuncData):Option (List Stmt):=match fd.body with
  | .stmts b=>some b
  | _=>none
noncomputable def fnFrom (K:Frag) (i:Nat):Option Fn:=bx fnA[i]? fun a=>bp fnI[i]? fun p ds=>bx (fdIn K a) fun fd=>bx (stmtsOf fd) fun b=>cmpFn cxT p ds (fd.params,b,fd.scope)
noncomputable def all2 (f:V→Value→Bool):List V→List Value→Bool
  | [],xs=>xs.isEmpty
  | v::vs,xs=>match xs with
    | []=>false
    | x::xs=>f v x&&all2 f vs xs
noncomputable def seqO:Obj→Option (List Value)
  | ⟨_,_,.seq items _,_⟩=>some items.toList
  | _=>none
noncomputable def tupO (o:Obj):Option (List Value):=gx (decide (o.cls=.type "tuple")) (seqO o)
noncomputable def vrIn (K:Frag):Nat→V→Value→Bool
  | n,v,x=>match v with
    | .none=>decide (x=.none)
    | .bool b=>decide (x=.bool b)
    | .int i=>(match x with
      | .int j _=>decide (i=j)
      | _=>false)
    | .str n=>(match x with
      | .str y _=>decide (strT[n]?=some y)
      | _=>false)
    | .tup vs=>(match n with
      | 0=>false
      | n+1=>match x with
        | .ref a=>oc (bx (K.lookup a) tupO) (fun xs=>decide (vs.length<lim)&&all2 (vrIn K n) vs xs) false
        | _=>false)
    | _=>false
noncomputable def paramsOk (p:Arguments):Bool:=p.posonlyargs.isEmpty&&p.kwonlyargs.isEmpty&&p.vararg.isNone&&p.kwarg.isNone
noncomputable def dfltsIn (K:Frag) (ds:List V) (fd:FuncData):Bool:=match fd.defaults with
  | .none=>ds.isEmpty
  | .ref T=>oc (bx (K.lookup T) seqO) (fun xs=>all2 (vrIn K 4) ds xs) false
  | _=>false
noncomputable def defB (K:Frag) (a:Addr) (ds:List V) (fd:FuncData) (names:List Str):Bool:=
  names.all (fun x=>decide (fd.scope.names.lookup x=some .local)||decide (fd.scope.names.lookup x=some .cell))&&(fd.scope.names.all (fun p=>decide (p.2≠.free))&&(decide ((names++(ownNames fd.scope).filter fun x=>!names.contains x).Nodup)&&
    (decide (fd.scope.kind=.function)&&(!fd.scope.isCoroutine&&(!fd.scope.isGenerator&&(paramsOk fd.params&&(fd.closure.isEmpty&&(decide (fd.globals=mainGlobals)&&(decide (fd.builtins=builtinsNs)&&(codeIn K fd.code fd.qualname&&(decide (ds.length≤names.length)&&(dfltsIn K ds fd&&keepIn K (.ref a)))))))))))))
noncomputable def defIn (K:Frag) (i:Nat):Bool:=oc fnA[i]? (fun a=>oc fnI[i]? (fun p=>oc (fdIn K a) (fun fd=>defB K a p.2 fd (fd.params.args.map (·.arg))) false) false) false
noncomputable def fnAtB (i:Nat) (v:Option (Option Value)):Bool:=oc fnA[i]? (fun a=>v==some (some (.ref a))) false
noncomputable def topIn (K:Frag) (x:Str):Bool:=oc (idx x fnT) (fun k=>fnAtB k (nsIn K mainGlobals x)) true
noncomputable def isFnAt (K:Frag) (f:Nat):Bool:=oc fnA[f]? (fun a=>isFn K (.ref a)) false
noncomputable def clsB (K:Frag) (C:Addr) (x:Str) (as:List Nat) (ms:List (Nat×Nat)) (f:Nat):Bool:=
  nsIn K mainGlobals x==some (some (.ref C))&&(keepIn K (.ref C)&&(hasDictIn K C&&(plainGet K C ""&&(findIn K (.ref C) "__setattr__" == some (some (.builtin "object.__setattr__"))&&(plainOver K C&&
      (makesIn K C&&(as.all (fun n=>oc nameT[n]? (fun x=>findIn K (.ref C) x==some none) false)&&(ms.all (fun p=>oc nameT[p.1]? (fun x=>!as.contains p.1&&(fnAtB p.2 (findIn K (.ref C) x)&&isFnAt K p.2)) false)&&
      (fnAtB f (findIn K (.ref C) "__init__")&&isFnAt K f)))))))))
noncomputable def clsIn' (K:Frag) (c:Nat):Bool:=oc clsA[c]? (fun C=>oc clsT[c]? (fun x=>oc attrT[c]? (fun as=>oc methT[c]? (fun ms=>oc initT[c]? (fun p=>clsB K C x as ms p.2) false) false) false) false) false
noncomputable def cstIn (K:Frag) (i:Nat):Bool:=oc cstT[i]? (fun x=>oc cstV[i]? (fun v=>oc (bx (nsIn K mainGlobals x) id) (fun y=>vrIn K 4 v y) false) false) false
noncomputable def biNames:List Str:=["len","list","dict","max","sorted","int","range","enumerate","zip","isinstance","bool"]
structure FragOk(K:Frag):Prop where
  defs:(List.range 75).all (defIn K)=true
  tops:topT.all (topIn K)=true
  clss:(List.range 6).all (clsIn' K)=true
  csts:(List.range 14).all (cstIn K)=true
  bis:biNames.all (fun x=>nsIn K mainGlobals x==some none)=true
theorem oc_t{α:Type}{x:Option α}{f:α→Bool}(h:oc x f false=true):∃ a,x=some a∧f a=true:=by
  cases x with
  | none=>cases h
  | some a=>exact⟨a,rfl,h⟩
theorem oc_at{α:Type}{x:Option α}{f:α→Bool}{e:Bool}{a:α}(h:oc x f e=true)(hx:x=some a):f a=true:=by subst hx;exact h
theorem bx_at{α β:Type}{x:Option α}{a:α}{k:α→Option β}{w:Option β}(e:bx x k=w)(h:x=some a):k a=w:=by subst h;exact e
section
variable{K:Frag}{h:Heap}
theorem idx_get{x:Str}{l:List Str}{n:Nat}(e:idx x l=some n):l[n]?=some x:=by
  induction l generalizing n with
  | nil=>cases e
  | cons y l ih=>
    unfold idx at e
    by_cases h:x=y
    · rw[if_pos h]at e;cases e;rw[h];rfl
    · rw[if_neg h]at e
      obtain⟨m,hm,rfl⟩:=Option.map_eq_some_iff.mp e
      exact ih hm
theorem strT_nodup:strT.Nodup:=by decide +kernel
theorem nodup_get{l:List Str}(nd:l.Nodup){a b:Nat}{x:Str}(h1:l[a]?=some x)(h2:l[b]?=some x):a=b:=by
  obtain⟨p,rfl⟩:=List.getElem?_eq_some_iff.mp h1
  obtain⟨q,e⟩:=List.getElem?_eq_some_iff.mp h2
  exact((List.getElem_inj nd).mp e).symm
theorem chr_ok:chrT.all (fun x=>decide (x.2.1<1000)&&oc strT[x.1]? (fun y=>oc y.cps[x.2.1]? (fun c=>decide (strT[x.2.2]?=some ⟨#[c]⟩)) false) true)=true:=by decide +kernel
noncomputable def wdOf (p:Program) (w:World) (K:Frag) (h₀:Heap) (lo:sysModules<h₀.objs.size):Wd where
  prog:=p
  w:=w
  T:=TB
  S n:=strT[n]?
  N n:=nameT[n]?
  AN c:=((attrT[c]?).getD []).filterMap fun n=>nameT[n]?
  cls c:=clsA[c]?
  fn f:=fnA[f]?
  K:=K
  h₀:=h₀
  lo:=lo
  Sinj:=fun zz zz zz h1 h2=>nodup_get strT_nodup h1 h2
  chr:=fun n i m x e hs=>by
    obtain⟨t,ht,rfl⟩:=Option.map_eq_some_iff.mp (show((chrT.find? fun x=>x.1==n&&x.2.1==i).map (·.2.2))=some m from e)
    have hp:=and_t (List.find?_some (p:=fun x:Nat×Nat×Nat=>x.1==n&&x.2.1==i) ht)
    cases eq_of_beq hp.1
    cases eq_of_beq hp.2
    have:=and_t (List.all_eq_true.mp chr_ok t (List.mem_of_find?_eq_some ht))
    have h1:=oc_at this.2 hs
    obtain⟨c,hc,h2⟩:=oc_t h1
    exact⟨of_decide_eq_true this.1,c,hc,of_decide_eq_true h2⟩
variable{p:Program}{w:World}{lo:sysModules<h.objs.size}
theorem seqO_inv{o:Obj}{xs:List Value}(h:seqO o=some xs):∃ items n,o.data=.seq items n∧items.toList=xs:=by
  obtain⟨c,d,dt,t⟩:=o
  cases dt with
  | seq items n=>cases h;exact⟨items,n,rfl,rfl⟩
  | _=>cases h
theorem vrsIn_of{f:V→Value→Bool}(ih:∀ {v x},f v x=true→VR (wdOf p w K h lo) h (fun a=>h.get? a=none) v [] x){vs:List V}{xs:List Value}(e:all2 f vs xs=true):VRs (wdOf p w K h lo) h (fun a=>h.get? a=none) vs [] xs:=by
  induction vs generalizing xs with
  | nil=>exact isEmpty_nil e
  | cons v vs ihv=>cases xs with
    | nil=>cases e
    | cons x xs=>exact⟨ih (and_t e).1,ihv (and_t e).2⟩
theorem vrIn_ok(kin:K.In h){n:Nat}{v:V}{x:Value}(e:vrIn K n v x=true):VR (wdOf p w K h lo) h (fun a=>h.get? a=none) v [] x:=by
  induction n generalizing v x with
  | zero=>cases v with
    | none=>exact(of_decide_eq_true (show decide (x=.none)=true from e):x=.none)
    | bool b=>exact(of_decide_eq_true (show decide (x=.bool b)=true from e):x=.bool b)
    | int i=>cases x with
      | int j t=>cases of_decide_eq_true (show decide (i=j)=true from e);exact⟨t,rfl⟩
      | _=>cases e
    | str i=>cases x with
      | str y t=>exact⟨y,t,of_decide_eq_true e,rfl⟩
      | _=>cases e
    | _=>cases e
  | succ n ih=>cases v with
    | none=>exact(of_decide_eq_true (show decide (x=.none)=true from e):x=.none)
    | bool b=>exact(of_decide_eq_true (show decide (x=.bool b)=true from e):x=.bool b)
    | int i=>cases x with
      | int j t=>cases of_decide_eq_true (show decide (i=j)=true from e);exact⟨t,rfl⟩
      | _=>cases e
    | str i=>cases x with
      | str y t=>exact⟨y,t,of_decide_eq_true e,rfl⟩
      | _=>cases e
    | tup vs=>cases x with
      | ref a=>
        obtain⟨xs,hx,e⟩:=oc_t e
        obtain⟨o,ho,hx⟩:=bx_inv hx
        obtain⟨hc,hx⟩:=gx_inv hx
        obtain⟨items,m,hd,rfl⟩:=seqO_inv hx
        have hg:=kin _ _ ho
        exact .mk (fun q=>nn (q.symm.trans hg)) (.mk (of_decide_eq_true (and_t e).1) ⟨o,hg,of_decide_eq_true hc,m,hd⟩ (vrsIn_of ih (and_t e).2))
      | _=>cases e
    | _=>cases e
theorem rng_at{n:Nat}{f:Nat→Bool}(h:(List.range n).all f=true){i:Nat}(hi:i<n):f i=true:=List.all_eq_true.mp h i (List.mem_range.mpr hi)
theorem map_at{α:Type}{f:Nat→α}{l:List α}{n i:Nat}(e:(List.range n).map f=l){v:α}(hv:l[i]?=some v):f i=v∧i<n:=by
  subst e
  rw[List.getElem?_map,Option.map_eq_some_iff]at hv
  obtain⟨j,hj,rfl⟩:=hv
  obtain⟨h1,h2⟩:=List.getElem?_eq_some_iff.mp hj
  rw[List.getElem_range]at h2
  rw[List.length_range]at h1
  exact⟨congrArg f h2,h1⟩
theorem fnA_len{i:Nat}{a:Addr}(h:fnA[i]?=some a):i<75:=(List.getElem?_eq_some_iff.mp h).1
theorem clsA_len{i:Nat}{a:Addr}(h:clsA[i]?=some a):i<6:=(List.getElem?_eq_some_iff.mp h).1
theorem def_at(F:FragOk K){i:Nat}{a:Addr}(ha:fnA[i]?=some a):∃ p fd,fnI[i]?=some p∧fdIn K a=some fd∧defB K a p.2 fd (fd.params.args.map (·.arg))=true:=by
  have h:=rng_at F.defs (fnA_len ha)
  unfold defIn at h
  have h:=oc_at h ha
  obtain⟨p,hp,q⟩:=oc_t h
  obtain⟨fd,hf,q⟩:=oc_t q
  exact⟨p,fd,hp,hf,q⟩
theorem keep_ok(F:FragOk K){i:Nat}{a:Addr}(ha:fnA[i]?=some a):keepIn K (.ref a)=true:=
  (def_at F ha).elim fun p h=>h.elim fun fd h=>(and_t (and_t (and_t (and_t (and_t (and_t (and_t (and_t (and_t (and_t (and_t (and_t (and_t h.2.2).2).2).2).2).2).2).2).2).2).2).2).2).2
theorem not_t{b:Bool}(h:(!b)=true):b=false:=by
  cases b with
  | false=>rfl
  | true=>cases h
theorem fns_ok(F:FragOk K)(hf:(List.range 75).map (fnFrom K)=fnX.map some)(kin:K.In h):Fns (wdOf p w K h lo) cxT:=by
  intro i fn a hfn ha
  have ha:fnA[i]?=some a:=ha
  have h2:=(map_at hf (show(fnX.map some)[i]?=some (some fn)by rw[List.getElem?_map,show fnX[i]?=some fn from hfn];rfl)).1
  obtain⟨pd,fd,hI,hfd,q⟩:=def_at F ha
  unfold fnFrom at h2
  have h2:=bx_at h2 ha
  have h2:=bp_at h2 hI
  have h2:=bx_at h2 hfd
  obtain⟨b,hb,h2⟩:=bx_inv h2
  unfold cmpFn at h2
  dsimp only at h2
  obtain⟨bd,hc,h2⟩:=bx_inv h2
  have hc:mapO (cmpS cxT 30 (defBk (fd.params.args.map (·.arg)) fd.scope)) b=some bd:=hc
  cases h2
  obtain⟨q1,q⟩:=and_t q
  obtain⟨q2,q⟩:=and_t q
  obtain⟨q3,q⟩:=and_t q
  obtain⟨q4,q⟩:=and_t q
  obtain⟨q5,q⟩:=and_t q
  obtain⟨q6,q⟩:=and_t q
  obtain⟨q7,q⟩:=and_t q
  obtain⟨q9,q⟩:=and_t q
  obtain⟨q10,q⟩:=and_t q
  obtain⟨q11,q⟩:=and_t q
  obtain⟨q12,q⟩:=and_t q
  obtain⟨q13,q⟩:=and_t q
  obtain⟨q14,_⟩:=and_t q
  obtain⟨o,ho,hod⟩:=bx_inv hfd
  have hod:o.data=.func fd:=by
    obtain⟨c,d,dt,t⟩:=o
    cases dt with
    | func f=>cases hod;rfl
    | _=>cases hod
  have hs:fd.body=.stmts b:=by
    unfold stmtsOf at hb
    cases e:fd.body with
    | stmts l=>rw[e]at hb;cases hb;rfl
    | _=>rw[e]at hb;cases hb
  have e1:({ slots:=(defBk (fd.params.args.map (·.arg)) fd.scope).size,params:=(fd.params.args.map (·.arg)).length,dflts:=pd.2,pure:=pd.1,body:=bd }:Fn).params=(fd.params.args.map (·.arg)).length:=rfl
  have e2:({ slots:=(defBk (fd.params.args.map (·.arg)) fd.scope).size,params:=(fd.params.args.map (·.arg)).length,dflts:=pd.2,pure:=pd.1,body:=bd }:Fn).slots=(defBk (fd.params.args.map (·.arg)) fd.scope).size:=rfl
  have e3:mapO (cmpS cxT 30 (defBk (fd.params.args.map (·.arg)) fd.scope)) b=some ({ slots:=(defBk (fd.params.args.map (·.arg)) fd.scope).size,params:=(fd.params.args.map (·.arg)).length,dflts:=pd.2,pure:=pd.1,body:=bd }:Fn).body:=hc
  have r1:=and_t q7
  have r2:=and_t r1.1
  have r3:=and_t r2.1
  refine⟨o,fd,b,fd.params.args.map (·.arg),30,kin _ _ ho,hod,codeRec_of kin q12,hs,isEmpty_nil q9,of_decide_eq_true q10,of_decide_eq_true q11,⟨rfl,isEmpty_nil r3.1,isEmpty_nil r3.2,Option.isNone_iff_eq_none.mp r2.2,Option.isNone_iff_eq_none.mp r1.2⟩,
    ⟨fun x hx=>(or_t (List.all_eq_true.mp q1 x hx)).imp of_decide_eq_true of_decide_eq_true,fun x hx=>of_decide_eq_true (List.all_eq_true.mp q2 _ hx) rfl,of_decide_eq_true q3,of_decide_eq_true q4,not_t q5,not_t q6⟩,e1,e2,?_,of_decide_eq_true q13,?_⟩
  · exact e3
  unfold dfltsIn at q14
  unfold DfltsAt
  cases e:fd.defaults with
  | none=>rw[e]at q14;exact⟨[],.inl ⟨rfl,rfl⟩,isEmpty_nil q14▸rfl⟩
  | ref T=>
    rw[e]at q14
    obtain⟨xs,hx,q14⟩:=oc_t q14
    obtain⟨o',ho',hx⟩:=bx_inv hx
    obtain⟨items,m,hd,rfl⟩:=seqO_inv hx
    exact⟨items.toList,.inr ⟨T,o',items,m,rfl,kin _ _ ho',hd,rfl⟩,vrsIn_of (vrIn_ok kin) q14⟩
  | _=>rw[e]at q14;cases q14
end
end Mine
end
section
namespace Mine
open PySem PySem.W PySem.Calls PyProof.Rows
theorem nameT_nodup:nameT.Nodup:=by decide +kernel
theorem attrT_ok:attrT.all (fun l=>decide l.Nodup&&(decide (l.length≤1000)&&l.all fun n=>decide (n<nameT.length)))=true:=by decide +kernel
theorem names_at{l:List Nat}(h:∀ n∈l,n<nameT.length){k n:Nat}(hk:l[k]?=some n):(l.filterMap fun n=>nameT[n]?)[k]?=nameT[n]?:=by
  induction l generalizing k with
  | nil=>cases hk
  | cons m l ih=>
    rw[List.filterMap_cons,List.getElem?_eq_getElem (h m (.head _))]
    cases k with
    | zero=>cases hk;exact(List.getElem?_eq_getElem (h _ (.head _))).symm
    | succ k=>exact ih (fun n hn=>h n (.tail _ hn)) hk
theorem names_nodup{l:List Nat}(nd:l.Nodup)(h:∀ n∈l,n<nameT.length):(l.filterMap fun n=>nameT[n]?).Nodup:=by
  induction l with
  | nil=>exact .nil
  | cons n l ih=>
    have nd:=List.nodup_cons.mp nd
    have hn:=List.getElem?_eq_getElem (h n (.head _))
    rw[List.filterMap_cons,hn,List.nodup_cons]
    exact⟨fun hm=>(List.mem_filterMap.mp hm).elim fun m e=>nd.1 (nodup_get nameT_nodup e.2 hn▸e.1),ih nd.2 fun n hn=>h n (.tail _ hn)⟩
theorem lookup_memN{β:Type}{l:List (Nat×β)}{x:Nat}{b:β}(h:l.lookup x=some b):(x,b)∈l:=by
  induction l with
  | nil=>cases h
  | cons p l ih=>
    rw[List.lookup_cons]at h
    cases e:x==p.1 with
    | true=>rw[e]at h;cases h;rw[eq_of_beq e];exact .head _
    | false=>rw[e]at h;exact .tail _ (ih h)
theorem idxOf_get{l:List Nat}{n k:Nat}(e:l.idxOf? n=some k):l[k]?=some n:=by
  induction l generalizing k with
  | nil=>cases e
  | cons a l ih=>
    rw[List.idxOf?_cons]at e
    cases h:a==n with
    | true=>rw[h]at e;cases e;exact congrArg some (eq_of_beq h)
    | false=>
      rw[h]at e
      obtain⟨m,hm,rfl⟩:=Option.map_eq_some_iff.mp e
      exact ih hm
section
variable{K:Frag}{h:Heap}{p:Program}{w:World}{lo:sysModules<h.objs.size}
theorem fnAtB_inv{f:Nat}{v:Option (Option Value)}(e:fnAtB f v=true):∃ a,fnA[f]?=some a∧v=some (some (.ref a)):=(oc_t e).imp fun a q=>⟨q.1,eq_of_beq q.2⟩
theorem cls_at(F:FragOk K){c:Nat}{C:Addr}(hC:clsA[c]?=some C):∃ x as ms p,clsT[c]?=some x∧attrT[c]?=some as∧methT[c]?=some ms∧initT[c]?=some p∧clsB K C x as ms p.2=true:=by
  have h1:=rng_at F.clss (clsA_len hC)
  unfold clsIn' at h1
  have h1:=oc_at h1 hC
  obtain⟨x,hx,h1⟩:=oc_t h1
  obtain⟨as,ha,h1⟩:=oc_t h1
  obtain⟨ms,hm,h1⟩:=oc_t h1
  obtain⟨p,hp,h1⟩:=oc_t h1
  exact⟨x,as,ms,p,hx,ha,hm,hp,h1⟩
theorem cls_ok(F:FragOk K):∀ c C,(wdOf p w K h lo).cls c=some C→ClsOk (wdOf p w K h lo) c C:=fun c C hC=>by
  obtain⟨x,as,ms,ip,q2,q3,q4,q5,r⟩:=cls_at F hC
  obtain⟨r2,r⟩:=and_t r
  obtain⟨r3,r⟩:=and_t r
  obtain⟨r4,r⟩:=and_t r
  obtain⟨r5,r⟩:=and_t r
  obtain⟨r6,r⟩:=and_t r
  obtain⟨r7,r⟩:=and_t r
  obtain⟨r8,r⟩:=and_t r
  obtain⟨r9,r⟩:=and_t r
  obtain⟨r10,r⟩:=and_t r
  obtain⟨r11,r12⟩:=and_t r
  have hat:=and_t (List.all_eq_true.mp attrT_ok as (List.mem_of_getElem? q3))
  have s2:=and_t hat.2
  have s3:∀ n∈as,n<nameT.length:=fun n hn=>of_decide_eq_true (List.all_eq_true.mp s2.2 n hn)
  have hAN:(wdOf p w K h lo).AN c=as.filterMap fun n=>nameT[n]?:=by show((attrT[c]?).getD []).filterMap _=_;rw[q3];rfl
  have fnC:∀ {f:Nat} {a:Addr},isFnAt K f=true→fnA[f]?=some a→isFn K (.ref a)=true:=fun e ha=>by unfold isFnAt at e;have e:=oc_at e ha;exact e
  refine⟨r4,r5,eq_of_beq r6,r7,by rw[hAN];exact names_nodup (of_decide_eq_true hat.1) s3,by rw[hAN];exact Nat.le_trans (List.length_filterMap_le _ _) (of_decide_eq_true s2.1),fun n k hk=>?_,fun m f' hm=>?_,r8,fun b' f' hi=>?_⟩
  · replace hk:((attrT[c]?).bind fun l=>l.idxOf? n)=some k:=hk
    rw[q3]at hk
    have hn:=idxOf_get hk
    have hlt:=List.getElem?_eq_getElem (s3 n (List.mem_of_getElem? hn))
    have h9:=List.all_eq_true.mp r9 n (List.mem_of_getElem? hn)
    have h9:=oc_at h9 hlt
    exact⟨_,hlt,by rw[hAN,names_at s3 hn];exact hlt,eq_of_beq h9⟩
  · replace hm:((methT[c]?).bind fun l=>l.lookup m)=some f':=hm
    rw[q4]at hm
    obtain⟨x',hn,t⟩:=oc_t (List.all_eq_true.mp r10 _ (lookup_memN hm))
    have t1:=and_t t
    have t2:=and_t t1.2
    obtain⟨a,ha,hv⟩:=fnAtB_inv t2.1
    refine⟨x',a,hn,fun hx=>?_,hv,fnC t2.2 ha,ha⟩
    rw[hAN]at hx
    obtain⟨n,hn',e⟩:=List.mem_filterMap.mp hx
    cases nodup_get nameT_nodup e hn
    exact Bool.false_ne_true ((not_t t1.1).symm.trans (List.contains_iff_mem.mpr hn'))
  · cases q5.symm.trans hi
    obtain⟨a,ha,hv⟩:=fnAtB_inv r11
    exact⟨a,hv,fnC r12 ha,ha⟩
theorem wd_ok(F:FragOk K)(kin:K.In h){mg mb:Str→Option Value}(hg:h.Ns mainGlobals mg)(hb:h.Ns builtinsNs mb)(hbb:∀ x:Str,x≠"__name__"→mb x=bootBuiltins x):WdOk (wdOf p w K h lo) cxT where
  kin:=kin
  cls:=cls_ok F
  txt:=fun x n e=>idx_get e
  names:=fun x n e=>idx_get e
  mg:=⟨mg,hg⟩
  mb:=⟨mb,hb,fun x v hn hv=>(hbb x hn).trans hv⟩
  csts:=fun x g v hx hv=>by
    have h1:=rng_at F.csts (show g<14 from(List.getElem?_eq_some_iff.mp (show cstV[g]?=some v from hv)).1)
    unfold cstIn at h1
    have h1:=oc_at h1 (show cstT[g]?=some x from idx_get hx)
    have h1:=oc_at h1 (show cstV[g]?=some v from hv)
    obtain⟨y,hy,h1⟩:=oc_t h1
    obtain⟨y',hy,e⟩:=bx_inv hy
    cases e
    exact⟨y,hy,vrIn_ok kin h1⟩
  fns:=fun x k ht hk=>by
    have h1:=List.all_eq_true.mp F.tops x (List.contains_iff_mem.mp ht)
    unfold topIn at h1
    have h1:=oc_at h1 (show idx x fnT=some k from hk)
    exact(fnAtB_inv h1).imp fun a q=>⟨q.2,q.1⟩
  clss:=fun x k hk=>by
    have hx:clsT[k]?=some x:=idx_get hk
    have hl:k<6:=(List.getElem?_eq_some_iff.mp hx).1
    have h1:=rng_at F.clss hl
    unfold clsIn' at h1
    obtain⟨C,hC,h1⟩:=oc_t h1
    have h1:=oc_at h1 hx
    obtain⟨as,ha,h1⟩:=oc_t h1
    obtain⟨ms,hm,h1⟩:=oc_t h1
    obtain⟨p,hp,h1⟩:=oc_t h1
    exact⟨C,eq_of_beq (and_t h1).1,hC⟩
  bis:=fun x hx=>eq_of_beq (List.all_eq_true.mp F.bis x (by rcases hx with rfl|rfl|rfl|rfl|rfl|rfl|rfl|rfl|rfl|rfl|rfl<;>decide))
  keep:=fun k a ha=>keep_ok F ha
  keepC:=fun k C hC=>(cls_at F hC).elim fun x q=>q.elim fun as q=>q.elim fun ms q=>q.elim fun p q=>(and_t (and_t q.2.2.2.2).2).1
  meths:=⟨rfl,rfl,rfl,rfl,rfl⟩
def LawTrue:Prop:=∀ l:List Int,l.length≤63→∃ H,callF TB 20 74 [.lst (l.map V.int)] []=some (.bool true,H)
theorem ints_at{X:Wd}{P:Addr→Prop}:∀ {l:List Int} {vs:List Value},vs.length=l.length→(∀ i (hi:i<l.length),∃ t,vs[i]?=some (.int l[i] t))→VRs X h P (l.map V.int) [] vs
  | [],vs,e,_=>List.length_eq_zero_iff.mp e
  | i::l,[],e,_=>nomatch e
  | i::l,x::vs,e,hv=>⟨(hv 0 (Nat.succ_pos _)).imp fun t ht=>Option.some.inj ht,ints_at (Nat.succ.inj e) fun k hk=>hv (k+1) (Nat.succ_lt_succ hk)⟩
theorem law_walk(L:LawTrue)(F:FragOk K)(hf:(List.range 75).map (fnFrom K)=fnX.map some)(kin:K.In h){mg mb:Str→Option Value}(hg:h.Ns mainGlobals mg)(hb:h.Ns builtinsNs mb)(hbb:∀ x:Str,x≠"__name__"→mb x=bootBuiltins x) (nl:h.NoLimit) {gens drawn toks os}
    {A:Around} (room:Room2 A 20) {a:Addr} (ha:mg "law" = some (.ref a)) {l:List Int} {b:Addr} {vs:List Value} (hl:l.length≤63) (hlen:vs.length=l.length) (hv:∀ i (hi:i<l.length),∃ t,vs[i]?=some (.int l[i] t)) (ho:h.get? b=some { cls:=.type "list",data:=.seq vs.toArray }) (lo:sysModules<h.objs.size) :
    wpAny (model p w) A (call (.ref a) [.ref b]) (fun v s'=>v=.bool true∧(∀ x o,h.get? x=some o→s'.heap.get? x=some o)∧s'.gens=gens∧s'.os=os) NoE ⟨h,gens,drawn,toks,os⟩:=by
  have W:WdOk (wdOf p w K h lo) cxT:=wd_ok F kin hg hb hbb
  have O:OrcOk (wdOf p w K h lo) (callF TB 20) 20:=orc_all W nl (fns_ok F hf kin) 20
  have hlaw:nsIn K mainGlobals "law" = some (some (.ref 614)):=by
    have:=List.all_eq_true.mp F.tops "law" (by decide +kernel)
    unfold topIn at this
    have:=oc_at this (show idx "law" fnT=some 74 by decide +kernel)
    exact eq_of_beq this
  cases ha.symm.trans (mg_of kin hg hlaw)
  obtain⟨HL,eL⟩:=L l hl
  let σ:Cg (wdOf p w K h lo) (fun zz=>False):=⟨⟨h,gens,drawn,toks,os⟩,[],[],⟨rfl,fun i o f e=>nn e,.nil,fun b o e=>e,fun a h=>absurd h List.not_mem_nil,Nat.le_refl _,fun a h=>h.elim,fun a h=>h.elim⟩⟩
  have r:σ.vr (.lst (l.map V.int)) (.ref b):=.mk (fun q=>q.elim id fun q=>nomatch q) (.mk (by rw[List.length_map,lim_is];exact Nat.lt_of_le_of_lt hl (by decide)) ho (ints_at hlen hv))
  exact OrcOk.call (σ:=σ) (K:=fun v H=>some (v,H)) (w:=(.bool true,HL)) O (args:=[.lst (l.map V.int)]) (by rw[eL];rfl) (a:=614) rfl room ⟨r,rfl⟩ fun τ v x t rx e=>by
    have e:=Prod.mk.inj (Option.some.inj e)
    cases e.1
    exact⟨rx,fun x o e=>t.keep x o e (fun q=>nomatch q) id,t.gens,t.os⟩
end
end Mine
end
section
namespace Mine
open PySem PySem.W PySem.Calls PyProof.Rows
abbrev rowL:RowW:=PySem.Challenge.rw_nt0067_01.row.toRowW
theorem has_int{R:WRecords}{d:WData}(h:WShape.has R d .int=true):∃ i,d=.int i:=by
  have n:∀ {b:Bool},b=true→b=false→False:=fun h1 h2=>Bool.false_ne_true (h2.symm.trans h1)
  cases d with
  | int i=>exact⟨i,rfl⟩
  | _=>exact(n h rfl).elim
theorem has_items{R:WRecords}{ds:List WData}(h:WShape.hasItems R ds .int=true):∃ l:List Int,ds=l.map WData.int:=by
  induction ds with
  | nil=>exact⟨[],rfl⟩
  | cons d ds ih=>
    unfold WShape.hasItems at h
    rw[Bool.and_eq_true]at h
    obtain⟨i,rfl⟩:=has_int h.1
    obtain⟨l,rfl⟩:=ih h.2
    exact⟨i::l,rfl⟩
theorem args_are{args:List WData}(h:rowL.claim.pre args=true):∃ l:List Int,args=[.list (l.map WData.int)]∧l.length≤63:=by
  obtain⟨h1,h2⟩:=pre_splitW (r:=rowL) h
  obtain⟨d,r,rfl,h3,h4⟩:=hasAllW_cons h1
  have:=hasAllW_nil h4
  subst this
  have:∃ l:List Int,d=.list (l.map WData.int):=by
    have n:∀ {b:Bool},b=true→b=false→False:=fun h1 h2=>Bool.false_ne_true (h2.symm.trans h1)
    cases d with
    | list ds=>
      have h3:WShape.hasItems rowL.records ds .int=true:=by
        unfold WShape.has at h3
        rw[show(WShape.list .int).arms=[.list .int]from by unfold WShape.arms;rfl]at h3
        have h3:(WShape.hasItems rowL.records ds .int||false)=true:=h3
        rwa [Bool.or_false]at h3
      obtain⟨l,rfl⟩:=has_items h3
      exact⟨l,rfl⟩
    | _=>exact(n h3 rfl).elim
  obtain⟨l,rfl⟩:=this
  refine⟨l,rfl,?_⟩
  have h2:WTm.holds _ (.and (.not (.lt (.lit (.int 63)) (.len (.arg 0)))) (.lit (.bool true))) _=true:=h2
  unfold WTm.holds at h2
  simp only[WTm.value,List.getElem?_cons_zero,List.length_map]at h2
  have e:less? (WData.int 63) (WData.int ↑l.length)=some (decide ((63:Int)<(l.length:Int))):=by unfold less?;rfl
  rw[e]at h2
  by_cases hl:(63:Int)<(l.length:Int)
  · rw[decide_eq_true hl]at h2;cases h2
  · lia
theorem well_ints{P:Params}{h:Heap}:∀ {l:List Int} {vs:List Value},WellAll P h vs (l.map WData.int)→vs.length=l.length∧∀ i (hi:i<l.length),∃ t,vs[i]?=some (.int l[i] t)
  | [],vs,w=>by cases w;exact⟨rfl,fun i hi=>absurd hi (Nat.not_lt_zero _)⟩
  | i::l,vs,w=>by
    cases w with
    | cons w1 w2=>
      cases w1
      obtain⟨h1,h2⟩:=well_ints w2
      exact⟨congrArg (·+1) h1,fun k=>match k with
        | 0=>fun zz=>⟨_,rfl⟩
        | k+1=>fun hk=>h2 k (Nat.lt_of_succ_lt_succ hk)⟩
theorem post_true(args:List WData):rowL.claim.post args (.bool true) args=true:=by
  show(WShape.has rowL.records (.bool true) .bool&&WTm.holds rowL.records (.eq .res (.lit (.bool true))) { args:=args,res:=some (.bool true),after:=args })=true
  rw[Bool.and_eq_true]
  constructor
  · rfl
  · unfold WTm.holds
    simp only[WTm.value]
    have e:same (WData.bool true) (WData.bool true)=true:=by unfold same;rfl
    rw[e]
set_option tactic.hygienic true in
theorem finish(L:LawTrue){q:Program}{loose:List Str}{XP:(Str→Option Value)→Heap→Prop}{K:Params→Frag}{as:List Addr}{e:∀ P,as=(K P).map (·.1)}{d:DefRec}{kwd:List (Str×PySem.Expr)}
    (F:∀ P,FragOk (K P)) (hf:∀ P,(List.range 75).map (fnFrom (K P))=fnX.map some) (hd:d.name = "law") :
    WalkO q loose XP (kHook K as e).says rowL d kwd fun f vs=>PySem.call f vs:=by
  intro w s₀ s₁ mg mb G Y a o pm cd doc dV kV ho hod hcd hD hmg hg args vals as hpre hlay hrd hwl hlo
  have kin:(K w.params).In s₁.heap:=kIn_of Y
  obtain⟨l,rfl,hl⟩:=args_are hpre
  cases hwl with
  | cons w1 w2=>
    cases w2
    cases w1 with
    | list hb wl=>
      rename_i b vs
      obtain⟨h1,h2⟩:=well_ints wl
      rw[hd]at hmg
      have room:Room2 callerA 20:=⟨rfl,by decide,by decide⟩
      refine wpAny_mono (law_walk L (F w.params) (hf w.params) kin G.T.g G.T.b (fun x hx=>G.T.builtins x hx) G.T.nolimit (gens:=s₁.gens) (drawn:=s₁.drawn) (toks:=s₁.toks) (os:=s₁.os) room hmg hl h1 h2 hb G.low) (fun v s' ⟨hv,hk,hgs,hos⟩=>?_) fun zz zz f=>f.elim
      subst hv
      have good:GoodW rowL.claim (classAt s₀.heap) (ExcName.means s₀.heap) [.list (l.map WData.int)] s₁ (.ok (.ret (.bool true))) s':=
        ⟨.inl ⟨.bool true,.bool true,[],rfl,fun cls=>rfl,.bool true,post_true _,fun zz=>⟨.nil,fun a h=>by cases h⟩⟩,hk,hos,hgs.trans hg⟩
      exact good.toG
end Mine
end
section
namespace Mine
theorem b2_ok{α β γ:Type}{x:Option (α×β)}{a:α}{b:β}{k:α→β→Option γ}{r:Option γ}(h:x=some (a,b))(g:k a b=r):b2 x k=r:=by subst h;exact g
theorem bd_ok{α β:Type}{x:Option α}{a:α}{k:α→Option β}{r:Option β}(h:x=some a)(g:k a=r):bd x k=r:=by subst h;exact g
theorem gd_ok{β:Type}{b:Bool}{t r:Option β}(h:b=true)(g:t=r):gd b t=r:=by subst h;exact g
theorem gl_ok{β:Type}{a b:Nat}{t r:Option β}(h:a<b)(g:t=r):gd (decide (a<b)) t=r:=gd_ok (decide_eq_true h) g
theorem cs_ok{β:Type}{b:Bool}{t e r:β}(h:b=true→t=r)(g:b=false→e=r):cs b t e=r:=by cases b;exact g rfl;exact h rfl
theorem bx_ok{α β:Type}{x:Option α}{a:α}{k:α→Option β}{r:Option β}(h:x=some a)(g:k a=r):bx x k=r:=by subst h;exact g
theorem bp_ok{α β γ:Type}{x:Option (α×β)}{a:α}{b:β}{k:α→β→Option γ}{r:Option γ}(h:x=some (a,b))(g:k a b=r):bp x k=r:=by subst h;exact g
theorem gx_ok{β:Type}{b:Bool}{t r:Option β}(h:b=true)(g:t=r):gx b t=r:=by subst h;exact g
theorem cs_t{β:Type}{b:Bool}{t e r:β}(h:b=true)(g:t=r):cs b t e=r:=by subst h;exact g
theorem cs_f{β:Type}{b:Bool}{t e r:β}(h:b=false)(g:e=r):cs b t e=r:=by subst h;exact g
theorem cs_d{β:Type}{p:Prop}[Decidable p]{t e r:β}(h:p→t=r)(g:¬p→e=r):cs (decide p) t e=r:=cs_ok (fun q=>h (of_decide_eq_true q)) fun q=>g (of_decide_eq_false q)
section
variable{α υ σ:Type}{f:V→List V→Hp→KF→Rs}{l:List α}{u:υ}{K:KF}{r:Rs}
theorem for_u(e:α→V)(S:List α→υ→σ)(L:σ→List V)(G:σ→Hp)(t:σ→α→(σ→Rs)→Rs)
    (hf:∀ s x K,f (e x) (L s) (G s) K=t s x fun s=>K .next (L s) (G s))
    (h:∀ N pre x u,pre.length<l.length→(∀ u',N (S (pre++[x]) u')=r)→t (S pre u) x N=r)
    (hK:∀ u,K .next (L (S l u)) (G (S l u))=r):forK f (l.map e) (L (S [] u)) (G (S [] u)) K=r:=by
  suffices ∀ (m pre:List α) u,pre++m=l→forK f (m.map e) (L (S pre u)) (G (S pre u)) K=r from this l [] u rfl
  intro m
  induction m with
  | nil=>intro pre u hl;rw[List.append_nil]at hl;exact hl▸hK u
  | cons x m ih=>
    intro pre u hl
    exact(hf _ _ _).trans (h _ pre x u (by rw[←hl];simp) fun u'=>ih _ u' (by rw[←hl];simp))
end
section
variable{α υ:Type}{f:V→List V→Hp→KF→Rs}{l:List α}{u:υ}{K:KF}{r:Rs}
theorem for_d(e:α→V)(L:List α→υ→List V)(G:List α→υ→Hp)
    (h:∀ pre x u K,pre.length<l.length→(∀ u',K .next (L (pre++[x]) u') (G (pre++[x]) u')=r)→f (e x) (L pre u) (G pre u) K=r)
    (hK:∀ u,K .next (L l u) (G l u)=r):forK f (l.map e) (L [] u) (G [] u) K=r:=by
  suffices ∀ (m pre:List α) u,pre++m=l→forK f (m.map e) (L pre u) (G pre u) K=r from this l [] u rfl
  intro m
  induction m with
  | nil=>intro pre u hl;rw[List.append_nil]at hl;exact hl▸hK u
  | cons x m ih=>intro pre u hl;exact h pre x u _ (by rw[←hl];simp) fun u'=>ih _ u' (by rw[←hl];simp)
end
section
variable{α:Type}{f:V→Hp→(Option V→Hp→Rs)→Rs}{l:List α}{H:Hp}{K:KL}{r:Rs}
theorem comp_f(e:α→V)(g:α→Option V)(h:∀ x∈l,∀ K,f (e x) H K=K (g x) H)(hK:K (l.filterMap g) H=r):compK1 f (l.map e) H K=r:=by
  induction l generalizing K with
  | nil=>exact hK
  | cons x l ih=>
    refine(h x (.head _) _).trans (ih (fun x hx=>h x (.tail _ hx)) ?_)
    rw[←hK,List.filterMap_cons]
    cases g x<;>rfl
theorem comp_m(e g:α→V)(h:∀ x∈l,∀ K,f (e x) H K=K (some (g x)) H)(hK:K (l.map g) H=r):compK1 f (l.map e) H K=r:=
  comp_f e (fun x=>some (g x)) h (by rw[show(fun x=>some (g x))=some ∘ g from rfl,List.filterMap_eq_map];exact hK)
end
theorem all_m{α:Type}{p:V→Bool}(e:α→V)(h:∀ x,p (e x)=true){l:List α}:(l.map e).all p=true:=by
  induction l with
  | nil=>rfl
  | cons x l ih=>rw[List.map_cons,List.all_cons,h,ih];rfl
theorem lm{α:Type}{e:α→V}{l:List α}{n:Nat}(h:l.length<n):(l.map e).length<n:=by rw[List.length_map];exact h
theorem lg{α:Type}{e:α→V}{l:List α}{n:Nat}(h:n<l.length):n<(l.map e).length:=by rw[List.length_map];exact h
theorem held{α:Type}(e:α→V)(h:∀ x,flatV (e x)=true){l:List α}(hl:l.length<lim){t r:Rs}(g:t=r):gd (decide ((l.map e).length<lim)&&(l.map e).all flatV) t=r:=
  gd_ok (by rw[List.length_map,decide_eq_true hl,all_m e h];rfl) g
theorem app_m{α:Type}(e:α→V){l:List α}{y:α}:l.map e++[e y]=(l++[y]).map e:=by rw[List.map_append];rfl
theorem in1{x a:Nat}:(a==x||false)=decide (x=a):=by rw[Bool.or_false,Bool.eq_iff_iff,beq_iff_eq,decide_eq_true_iff];exact eq_comm
theorem in_s{x a:Nat}{b:Bool}{p:Prop}[Decidable p](h:b=decide p):(a==x||b)=decide (x=a∨p):=by
  rw[h,Bool.eq_iff_iff,Bool.or_eq_true,beq_iff_eq,decide_eq_true_iff,decide_eq_true_iff,eq_comm]
theorem in2{x a b:Nat}:(a==x||(b==x||false))=decide (x=a∨x=b):=in_s in1
theorem in3{x a b c:Nat}:(a==x||(b==x||(c==x||false)))=decide (x=a∨x=b∨x=c):=in_s in2
theorem in4{x a b c d:Nat}:(a==x||(b==x||(c==x||(d==x||false))))=decide (x=a∨x=b∨x=c∨x=d):=in_s in3
theorem nth_m{α:Type}{e:α→V}{l:List α}{k:Nat}{x:α}(h:l[k]?=some x):nth (l.map e) k=some (e x):=by
  induction l generalizing k with
  | nil=>cases h
  | cons a l ih=>cases k with
    | zero=>cases h;rfl
    | succ k=>exact ih h
theorem at_m{α:Type}{e:α→V}{l:List α}{i:Int}{k:Nat}{x:α}(h:l[k]?=some x)(hi:i=k):at_ (l.map e) i=some (e x):=by rw[hi];exact nth_m h
theorem put_m{α:Type}{e:α→V}{l:List α}{k:Nat}{x:α}:put (l.map e) k (e x)=(l.set k x).map e:=by
  induction l generalizing k with
  | nil=>rfl
  | cons a l ih=>cases k with
    | zero=>rfl
    | succ k=>exact congrArg (e a::·) ih
theorem at_some{α:Type}{l:List α}{k:Nat}(h:k<l.length):∃ x,l[k]?=some x:=⟨_,List.getElem?_eq_getElem h⟩
theorem small_of{a:Int}(h : -1000000<a∧a<1000000):small a=true:=decide_eq_true (by
  cases a with
  | ofNat n=>exact Nat.lt_trans (Int.ofNat_lt.1 h.2) (by decide)
  | negSucc n=>exact Nat.lt_trans (Int.ofNat_lt.1 (Int.neg_lt_of_neg_lt h.1)) (by decide))
theorem rd_1{n:Nat}:((n:Int) - 1 - 1).toNat=n - 2:=(congrArg Int.toNat (Int.sub_sub ..)).trans (Int.toNat_sub n 2)
theorem rd_2{n:Nat}(h:n<100000) : -1000000<(n:Int) - 1∧(n:Int) - 1<1000000:=
  ⟨Int.lt_of_lt_of_le (b:=0 - 1) (by decide) (Int.sub_le_sub_right (Int.natCast_nonneg n) 1),Int.lt_of_le_of_lt (Int.sub_le_self _ (by decide)) (Int.lt_trans (Int.ofNat_lt.2 h) (by decide))⟩
theorem rd_3{n:Nat}(h:n<100000):(n:Int) - 1 - 1<100000:=Int.lt_of_le_of_lt (Int.sub_le_self _ (by decide)) (Int.lt_of_le_of_lt (Int.sub_le_self _ (by decide)) (Int.ofNat_lt.2 h))
theorem rd_k{n k:Nat}(h:k<n - 2):k<n∧k+1<n∧k+2<n:=have g:=Nat.add_lt_of_lt_sub h;⟨Nat.lt_of_succ_lt (Nat.lt_of_succ_lt g),Nat.lt_of_succ_lt g,g⟩
theorem p1{k:Nat}:(1+(k:Int)).toNat=k+1:=congrArg Int.toNat (Int.add_comm 1 k)
theorem p1s{k:Nat}:1+(k:Int) - 1=k:=(congrArg (· - 1) (Int.add_comm ..)).trans (Int.add_sub_cancel ..)
theorem p1a{k:Nat}:1+(k:Int)=(k+1:Nat):=Int.add_comm ..
theorem p1p{k:Nat}:1+(k:Int)+1=(k+2:Nat):=congrArg (·+1) (Int.add_comm ..)
section
variable{υ:Type}{f:V→List V→Hp→KF→Rs}{u:υ}{K:KF}{r:Rs}
theorem range_l{n:Nat}{a:Int}(L:Nat→υ→List V)(G:Nat→υ→Hp)
    (h:∀ k u K,k<n→(∀ u',K .next (L (k+1) u') (G (k+1) u')=r)→f (.int (a+k)) (L k u) (G k u) K=r)
    (hK:∀ u,K .next (L n u) (G n u)=r):forK f (rangeL n a) (L 0 u) (G 0 u) K=r:=by
  suffices ∀ m k u,k+m=n→forK f (rangeL m (a+(k:Nat))) (L k u) (G k u) K=r by simpa using this n 0 u (Nat.zero_add n)
  intro m
  induction m with
  | zero=>intro k u hk;exact(show k=n from hk)▸hK u
  | succ m ih=>
    intro k u hk
    refine h k u _ (hk▸Nat.lt_add_of_pos_right (Nat.succ_pos m)) fun u'=>?_
    exact(Int.add_assoc a k 1).symm▸ih (k+1) u' ((Nat.succ_add_eq_add_succ k m).trans hk)
theorem range_d{n:Nat}{a b:Int}(L:Nat→υ→List V)(G:Nat→υ→Hp)(hn:(b - a).toNat=n)(h2 : -1000000<b∧b<1000000)(h3:b - a<100000)
    (h:∀ k u K,k<n→(∀ u',K .next (L (k+1) u') (G (k+1) u')=r)→f (.int (a+k)) (L k u) (G k u) K=r)
    (hK:∀ u,K .next (L n u) (G n u)=r):gd (small b) (gd (decide ((b - a).toNat<lim)) (forK f (rangeL (b - a).toNat a) (L 0 u) (G 0 u) K))=r:=
  gd_ok (small_of h2) (gd_ok (decide_eq_true ((Int.toNat_lt' (by decide)).2 h3)) (by rw[hn];exact range_l L G h hK))
end
theorem each_map{α:Type}(e:α→V){n:Nat}(h:∀ x H,frz n (e x) H=some (e x,H)){l:List α}{H:Hp}:eachS (frz n) (l.map e) H=some (l.map e,H):=by
  induction l with
  | nil=>rfl
  | cons x l ih=>exact b2_ok (h x H) (b2_ok ih rfl)
theorem ret_map{α:Type}(e:α→V)(h:∀ x H,frz 7 (e x) H=some (e x,H)){l:List α}{H:Hp}{k:V→Hp→Rs}{r:Rs}(g:k (.lst (l.map e)) (.frz (.lst (l.map e))::H)=r):b2 (frz 8 (.ref 0) (.list (l.map e)::H)) k=r:=
  b2_ok (b2_ok (each_map e h) rfl) g
theorem ret_str{l:List Nat}{H:Hp}{k:V→Hp→Rs}{r:Rs}(g:k (.lst (l.map V.str)) (.frz (.lst (l.map V.str))::H)=r):b2 (frz 8 (.ref 0) (.list (l.map V.str)::H)) k=r:=ret_map V.str (fun zz zz=>rfl) g
noncomputable def mapPre {α β:Type} (g:List α→α→β):List α→List α→List β
  | _,[]=>[]
  | p,x::r=>g p x::mapPre g (p++[x]) r
theorem mapPre_snoc{α β:Type}(g:List α→α→β)(l p:List α)(x:α):mapPre g p (l++[x])=mapPre g p l++[g (p++l) x]:=by
  induction l generalizing p with
  | nil=>simp[mapPre]
  | cons a l ih=>simp[mapPre,ih]
@[simp] theorem mapPre_length{α β:Type}(g:List α→α→β)(l p:List α):(mapPre g p l).length=l.length:=by
  induction l generalizing p with
  | nil=>rfl
  | cons a l ih=>simp[mapPre,ih]
theorem mapPre_congr{α β:Type}{g g':List α→α→β}:∀ (l p:List α),(∀ q x r,p++l=q++x::r→p.length≤q.length→g q x=g' q x)→mapPre g p l=mapPre g' p l:=by
  intro l
  induction l with
  | nil=>intros;rfl
  | cons a l ih=>
    intro p h
    simp only[mapPre]
    rw[h p a l rfl (Nat.le_refl _),ih (p++[a]) fun q x r e hq=>h q x r (by simpa using e) (by simp at hq;lia)]
section
variable{α σ:Type}{f:V→List V→Hp→KF→Rs}{l:List α}{K:KF}{r:Rs}
theorem for_i(e:α→V)(L:σ→List V)(G:σ→Hp)(I:List α→σ→Prop)
    (h:∀ pre x post s N,l=pre++x::post→I pre s→(∀ s',I (pre++[x]) s'→N .next (L s') (G s')=r)→f (e x) (L s) (G s) N=r)
    (hK:∀ s,I l s→K .next (L s) (G s)=r) {s:σ} (h0:I [] s):forK f (l.map e) (L s) (G s) K=r:=by
  suffices ∀ (m pre:List α) s,l=pre++m→I pre s→forK f (m.map e) (L s) (G s) K=r from this l [] s rfl h0
  intro m
  induction m with
  | nil=>intro pre s hl hi;rw[List.append_nil]at hl;exact hK s (hl▸hi)
  | cons x m ih=>exact fun pre s hl hi=>h pre x m s _ hl hi fun s' hi'=>ih (pre++[x]) s' (hl.trans (List.append_assoc pre [x] m).symm) hi'
theorem range_i{n:Nat}{a:Int}(L:σ→List V)(G:σ→Hp)(I:Nat→σ→Prop)
    (h:∀ k s N,k<n→I k s→(∀ s',I (k+1) s'→N .next (L s') (G s')=r)→f (.int (a+k)) (L s) (G s) N=r)
    (hK:∀ s,I n s→K .next (L s) (G s)=r) {s:σ} (h0:I 0 s):forK f (rangeL n a) (L s) (G s) K=r:=by
  suffices ∀ m k s,k+m=n→I k s→forK f (rangeL m (a+(k:Nat))) (L s) (G s) K=r by have:=this n 0 s (Nat.zero_add n) h0;rw[Int.natCast_zero,Int.add_zero]at this;exact this
  intro m
  induction m with
  | zero=>exact fun k s hk hi=>hK s (hk▸hi)
  | succ m ih=>
    intro k s hk hi
    refine h k s _ (hk▸Nat.lt_add_of_pos_right (Nat.succ_pos _)) hi fun s' hi'=>?_
    have:=ih (k+1) s' (by rw[←hk,Nat.add_assoc,Nat.add_comm 1]) hi'
    rw[Int.natCast_add,←Int.add_assoc]at this
    exact this
end
theorem small_n{a:Nat}(h:a<100000):small (a:Int)=true:=decide_eq_true (show a<4611686018427387904 from Nat.lt_trans h (by decide))
theorem range_n{f:V→List V→Hp→KF→Rs}{loc:List V}{H:Hp}{K:KF}{r:Rs}(a b:Nat)(ha:a<100000)(hb:b<100000)(g:forK f (rangeL (b - a) a) loc H K=r) :
    gd (small (a:Int)) (gd (small (b:Int)) (gd (decide (((b:Int) - a).toNat<lim)) (forK f (rangeL ((b:Int) - a).toNat a) loc H K)))=r:=
  gd_ok (small_n ha) (gd_ok (small_n hb) (by rw[Int.toNat_sub];exact gl_ok (Nat.lt_of_le_of_lt (Nat.sub_le _ _) hb) g))
theorem rng_l{C:Orc}{i:Nat}{e1 e2:Ex}{b s:List St}{loc:List V}{H:Hp}{K:KF}{r:Rs}(h:(evEs TB C [e1,e2] loc H fun vs H=>rangeK vs fun us=>forK (fun v loc H K=>exL TB C b (put loc i v) H K) us loc H fun fl loc H=>nx fl (exL TB C s loc H K) (K fl loc H))=r):exL TB C (.for_ (.one i) (.range [e1,e2]) b::s) loc H K=r:=h
theorem in_at{i:Int}{n m:Nat}{t r:Rs}(h:i=m)(hm:m<n)(g:t=r):gd (decide (0≤i)&&decide (i<n)) t=r:=by
  subst h
  exact gd_ok (by rw[decide_eq_true (Int.natCast_nonneg m),decide_eq_true (Int.ofNat_lt.mpr hm)];rfl) g
section
variable{α σ:Type}{f:V→List V→Hp→KF→Rs}{K:KF}{r:Rs}
structure Nx(L:σ→List V)(G:σ→Hp)(I:σ→Prop)(K N:KF)(r:Rs):Prop where
  next:∀ s,I s→N .next (L s) (G s)=r
  cont:∀ s,I s→N .cont (L s) (G s)=r
  brk:∀ loc H,K .next loc H=r→N .brk loc H=r
  ret:∀ v loc H,K (.ret v) loc H=r→N (.ret v) loc H=r
theorem for_x(e:α→V){l:List α}(L:σ→List V)(G:σ→Hp)(I:List α→σ→Prop)
    (h:∀ pre x post s N,l=pre++x::post→I pre s→Nx L G (I (pre++[x])) K N r→f (e x) (L s) (G s) N=r)
    (hK:∀ s,I l s→K .next (L s) (G s)=r) {s:σ} (h0:I [] s) {vs:List V} (hv:vs=l.map e):forK f vs (L s) (G s) K=r:=by
  subst hv
  suffices ∀ (m pre:List α) s,l=pre++m→I pre s→forK f (m.map e) (L s) (G s) K=r from this l [] s rfl h0
  intro m
  induction m with
  | nil=>intro pre s hl hi;rw[List.append_nil]at hl;exact hK s (hl▸hi)
  | cons x m ih=>
    intro pre s hl hi
    have g:=fun s' hi'=>ih (pre++[x]) s' (hl.trans (List.append_assoc pre [x] m).symm) hi'
    exact h pre x m s _ hl hi ⟨g,g,fun zz zz=>id,fun zz zz zz=>id⟩
theorem while_x{c:List V→Hp→(Bool→Hp→Rs)→Rs}{f:List V→Hp→KF→Rs}(L:σ→List V)(G:σ→Hp)(I:Nat→σ→Prop)
    (h:∀ m s N,I m s→Nx L G (fun s'=>∃ m',m'<m∧I m' s') K N r→c (L s) (G s) (fun b H=>cs b (f (L s) H N) (K .next (L s) H))=r)
    {n m:Nat} (hm:m<n) {s:σ} (h0:I m s):whileK c f n (L s) (G s) K=r:=by
  induction n generalizing m s with
  | zero=>exact absurd hm (Nat.not_lt_zero _)
  | succ n ih=>
    have g:∀ s',(∃ m',m'<m∧I m' s')→whileK c f n (L s') (G s') K=r:=fun s' ⟨m',h1,h2⟩=>ih (Nat.lt_of_lt_of_le h1 (Nat.le_of_lt_succ hm)) h2
    exact h m s _ h0 ⟨g,g,fun zz zz=>id,fun zz zz zz=>id⟩
end
theorem ret_i{i:Nat}{l:List Nat}{H:Hp}{k:V→Hp→Rs}{r:Rs}(h:cell H i=some (.list (l.map V.str)))(g:k (.lst (l.map V.str)) (setC H i (.frz (.lst (l.map V.str))))=r):b2 (frz 8 (.ref i) H) k=r:=
  b2_ok (bd_ok h (b2_ok (each_map V.str fun zz zz=>rfl) rfl)) g
theorem range_z{f:V→List V→Hp→KF→Rs}{loc:List V}{H:Hp}{K:KF}{r:Rs}(n:Nat)(h:n<100000)(g:forK f (rangeL n 0) loc H K=r) :
    gd (small (n:Int)) (gd (decide (((n:Int) - 0).toNat<lim)) (forK f (rangeL ((n:Int) - 0).toNat 0) loc H K))=r:=
  gd_ok (small_n h) (by rw[Int.sub_zero,Int.toNat_natCast];exact gl_ok h g)
theorem range_0{υ:Type}{f:V→List V→Hp→KF→Rs}{K:KF}{r:Rs}{n:Nat}(L:υ→List V)(G:Nat→Hp)
    (h:∀ k u N,k<n→(∀ u',N .next (L u') (G (k+1))=r)→f (.int k) (L u) (G k) N=r)
    (hK:∀ u,K .next (L u) (G n)=r) {u:υ} {H:Hp} (h0:H=G 0):forK f (rangeL n 0) (L u) H K=r:=
  h0▸range_l (fun zz=>L) (fun k zz=>G k) (fun k u N hk kk=>by rw[Int.zero_add];exact h k u N hk kk) hK
theorem eqV_nil{vs:List V}:eqV (.lst vs) (.lst [])=some vs.isEmpty:=by cases vs<;>rfl
theorem at_end{α:Type}{e:α→V}{l:List α}{x:α}:at_ ((l++[x]).map e) (-1)=some (e x):=by
  refine gd_ok (b:=decide (0<((l++[x]).map e).length)) (decide_eq_true (by rw[List.length_map,List.length_append];exact Nat.succ_pos _)) ?_
  rw[List.length_map,List.length_append]
  exact nth_m (by rw[show l.length+[x].length - (0+1)=l.length from Nat.add_sub_cancel l.length 1,List.getElem?_append_right (Nat.le_refl _),Nat.sub_self];rfl)
theorem whil_l{C:Orc}{c:Ex}{b s:List St}{loc:List V}{H:Hp}{K:KF}{r:Rs}(h:whileK (fun loc H K=>evK TB C c loc H fun v H=>bx (truth v) fun b=>K b H) (fun loc H K=>exL TB C b loc H K) turns loc H (fun fl loc H=>nx fl (exL TB C s loc H K) (K fl loc H))=r):exL TB C (.whil c b::s) loc H K=r:=h
theorem comp_en{α β:Type}{f:V→Hp→(Option V→Hp→Rs)→Rs}{l:List α}{H:Hp}{K:KL}{r:Rs}(e:α→V)(e':β→V)(g:List α→α→β)
    (h:∀ pre x post K,l=pre++x::post→f (.tup [.int pre.length,e x]) H K=K (some (e' (g pre x))) H) (hK:K ((mapPre g [] l).map e') H=r):gd ((enumL 0 (l.map e)).all fun v=>(pair1 v).isSome) (compK1 f (enumL 0 (l.map e)) H K)=r:=by
  have ap:∀ (vs:List V) (k:Int),(enumL k vs).all (fun v=>(pair1 v).isSome)=true:=fun vs=>by
    induction vs with
    | nil=>exact fun zz=>rfl
    | cons v vs ih=>exact fun k=>ih _
  refine gd_ok (ap _ _) ?_
  suffices ∀ (m pre:List α) K,l=pre++m→K ((mapPre g pre m).map e') H=r→compK1 f (enumL pre.length (m.map e)) H K=r from this l [] K rfl hK
  intro m
  induction m with
  | nil=>exact fun pre K zz hk=>hk
  | cons x m ih=>
    intro pre K hl hk
    refine(h pre x m _ hl).trans ?_
    have:=ih (pre++[x]) (fun us H=>K (consO (some (e' (g pre x))) us) H) (hl.trans (List.append_assoc pre [x] m).symm) hk
    rw[List.length_append]at this
    exact this
theorem comp_u{α:Type}{f:V→Hp→(Option V→Hp→Rs)→Rs}{l:List α}{H:Hp}{K:KL}{r:Rs}(e g:α→V){us:List V}(hu:l.map g=us)(h:∀ x∈l,∀ K,f (e x) H K=K (some (g x)) H)(hK:K us H=r):compK1 f (l.map e) H K=r:=comp_m e g h (hu▸hK)
theorem rng_1{C:Orc}{i:Nat}{e1:Ex}{b s:List St}{loc:List V}{H:Hp}{K:KF}{r:Rs}(h:(evEs TB C [e1] loc H fun vs H=>rangeK vs fun us=>forK (fun v loc H K=>exL TB C b (put loc i v) H K) us loc H fun fl loc H=>nx fl (exL TB C s loc H K) (K fl loc H))=r):exL TB C (.for_ (.one i) (.range [e1]) b::s) loc H K=r:=h
theorem enum_two(vs:List V)(k:Int):(enumL k vs).all (fun v=>(pair1 v).isSome)=true:=by
  induction vs generalizing k with
  | nil=>rfl
  | cons v vs ih=>exact ih _
theorem pre_lt{α:Type}{l pre post:List α}{x:α}(h:l=pre++x::post):pre.length<l.length:=by rw[h,List.length_append];exact Nat.lt_add_of_pos_right (Nat.succ_pos _)
theorem pre_at{α:Type}{l pre post:List α}{x:α}(h:l=pre++x::post):l[pre.length]?=some x:=by rw[h,List.getElem?_append_right (Nat.le_refl _),Nat.sub_self];rfl
theorem for_xe{α σ:Type}{f:V→List V→Hp→KF→Rs}{K:KF}{r:Rs}(e:α→V){l:List α}(L:σ→List V)(G:σ→Hp)(I:List α→σ→Prop)
    (h:∀ pre x post s N,l=pre++x::post→I pre s→Nx L G (I (pre++[x])) K N r→f (.tup [.int pre.length,e x]) (L s) (G s) N=r)
    (hK:∀ s,I l s→K .next (L s) (G s)=r) {s:σ} (h0:I [] s):gd ((enumL 0 (l.map e)).all fun v=>(pair1 v).isSome) (forK f (enumL 0 (l.map e)) (L s) (G s) K)=r:=by
  refine gd_ok (enum_two _ _) ?_
  suffices ∀ (m pre:List α) s,l=pre++m→I pre s→forK f (enumL pre.length (m.map e)) (L s) (G s) K=r from this l [] s rfl h0
  intro m
  induction m with
  | nil=>intro pre s hl hi;rw[List.append_nil]at hl;exact hK s (hl▸hi)
  | cons x m ih=>
    intro pre s hl hi
    have g:∀ s',I (pre++[x]) s'→forK f (enumL ((pre.length:Int)+1) (m.map e)) (L s') (G s') K=r:=fun s' hi'=>by
      have:=ih (pre++[x]) s' (hl.trans (List.append_assoc pre [x] m).symm) hi'
      rw[List.length_append]at this
      exact this
    exact h pre x m s _ hl hi ⟨g,g,fun zz zz=>id,fun zz zz zz=>id⟩
theorem comp_v{α:Type}{f:V→Hp→(Option V→Hp→Rs)→Rs}{l:List α}{H:Hp}{K:KL}{r:Rs}(e:α→V)(g:α→Option V){vs us:List V}(hv:vs=l.map e)(hu:l.filterMap g=us)(h:∀ x∈l,∀ K,f (e x) H K=K (g x) H)(hK:K us H=r):compK1 f vs H K=r:=by
  subst hv
  exact comp_f e g h (hu▸hK)
noncomputable def fb (f:Fn) (n:Nat):List St:=match f.body.drop n with
  | .for_ _ _ b::_=>b
  | .whil _ b::_=>b
  | _=>[]
noncomputable def tb:List St→List St
  | .ite _ t _::_=>t
  | _=>[]
noncomputable def eb:List St→List St
  | .ite _ _ e::_=>e
  | _=>[]
section
variable{α:Type}{f:V→List V→Hp→KF→Rs}{l:List α}{K:KF}{r:Rs}
structure Nk(L:Nat→List V→List V)(G:Nat→List V→Hp)(k n:Nat)(K N:KF)(r:Rs):Prop where
  next:∀ w,N .next (L k w) (G k w)=r
  cont:∀ w,N .cont (L k w) (G k w)=r
  last:k=n→∀ loc H,K .next loc H=r→N .next loc H=r
  brk:∀ loc H,K .next loc H=r→N .brk loc H=r
  ret:∀ v loc H,K (.ret v) loc H=r→N (.ret v) loc H=r
theorem for_ke(e:α→V)(L:Nat→List V→List V)(G:Nat→List V→Hp)
    (h:∀ k x w N,k<l.length→l[k]?=some x→Nk L G (k+1) l.length K N r→f (.tup [.int k,e x]) (L k w) (G k w) N=r)
    (hK:∀ w,K .next (L l.length w) (G l.length w)=r) {w:List V}:gd ((enumL 0 (l.map e)).all fun v=>(pair1 v).isSome) (forK f (enumL 0 (l.map e)) (L 0 w) (G 0 w) K)=r:=by
  refine gd_ok (enum_two _ _) ?_
  suffices ∀ (m pre:List α) w,l=pre++m→forK f (enumL pre.length (m.map e)) (L pre.length w) (G pre.length w) K=r from this l [] w rfl
  intro m
  induction m with
  | nil=>intro pre w hl;rw[List.append_nil]at hl;exact hl▸hK w
  | cons x m ih=>
    intro pre w hl
    have g:∀ w,forK f (enumL ((pre.length:Int)+1) (m.map e)) (L (pre.length+1) w) (G (pre.length+1) w) K=r:=fun w=>by
      have:=ih (pre++[x]) w (hl.trans (List.append_assoc pre [x] m).symm)
      rw[List.length_append]at this
      exact this
    refine h pre.length x w _ (pre_lt hl) (pre_at hl) ⟨g,g,fun q loc H hk=>?_,fun zz zz=>id,fun zz zz zz=>id⟩
    rw[hl,List.length_append]at q
    rw[show m=[]from List.eq_nil_of_length_eq_zero (Nat.succ.inj (Nat.add_left_cancel q).symm)]
    exact hk
end
section
variable{α σ:Type}{f:V→List V→Hp→KF→Rs}{K:KF}{r:Rs}
structure Ny(L:σ→List V→List V)(G:σ→List V→Hp)(I:σ→Prop)(K N:KF)(r:Rs):Prop where
  next:∀ s w,I s→N .next (L s w) (G s w)=r
  cont:∀ s w,I s→N .cont (L s w) (G s w)=r
  brk:∀ loc H,K .next loc H=r→N .brk loc H=r
  ret:∀ v loc H,K (.ret v) loc H=r→N (.ret v) loc H=r
theorem while_y{c:List V→Hp→(Bool→Hp→Rs)→Rs}{f:List V→Hp→KF→Rs}(L:σ→List V→List V)(G:σ→List V→Hp)(I:Nat→σ→Prop)
    (h:∀ m s w N,I m s→Ny L G (fun s'=>∃ m',m'<m∧I m' s') K N r→c (L s w) (G s w) (fun b H=>cs b (f (L s w) H N) (K .next (L s w) H))=r)
    {n m:Nat} (hm:m<n) {s:σ} {w:List V} (h0:I m s):whileK c f n (L s w) (G s w) K=r:=by
  induction n generalizing m s w with
  | zero=>exact absurd hm (Nat.not_lt_zero _)
  | succ n ih=>
    have g:∀ s' w',(∃ m',m'<m∧I m' s')→whileK c f n (L s' w') (G s' w') K=r:=fun s' w' ⟨m',h1,h2⟩=>ih (Nat.lt_of_lt_of_le h1 (Nat.le_of_lt_succ hm)) h2
    exact h m s w _ h0 ⟨g,g,fun zz zz=>id,fun zz zz zz=>id⟩
end
section
variable{α β:Type}{o:Option α}{a:α}{t e r:β}
theorem ni_t(h:o=none)(g:t=r):cs (!o.isSome) t e=r:=by subst h;exact g
theorem ni_f(h:o=some a)(g:e=r):cs (!o.isSome) t e=r:=by subst h;exact g
theorem is_t(h:o=some a)(g:t=r):cs o.isSome t e=r:=by subst h;exact g
theorem is_f(h:o=none)(g:e=r):cs o.isSome t e=r:=by subst h;exact g
end
theorem le2{k:Nat}(h:k≤2):k=0∨k=1∨k=2:=
  (Nat.lt_or_eq_of_le h).elim (fun h=>(Nat.lt_or_eq_of_le (Nat.le_of_lt_succ h)).elim (fun h=>.inl (Nat.lt_one_iff.mp h)) fun h=>.inr (.inl h)) fun h=>.inr (.inr h)
theorem at_rev{α:Type}{e:α→V}{q:List α}{t:α}:at_ ((t::q).reverse.map e) (-1)=some (e t):=by rw[List.reverse_cons];exact at_end
theorem push_rev{α:Type}{e:α→V}{q:List α}{t:α}:q.reverse.map e++[e t]=(t::q).reverse.map e:=by rw[List.reverse_cons];exact app_m e
end Mine
end
section
namespace Mine
noncomputable def letters (l:List Nat):List Nat:=l.map fun k=>if k=2 then 1 else k
theorem c28{d:Nat}{H:Hp}{l:List Nat}(hl:l.length<lim):callF TB (d+1) 28 [.lst (l.map V.str)] H=some (.lst ((letters l).map V.str),H):=by
  refine comp_m V.str (fun k=>V.str (if k=2 then 1 else k)) (fun x zz K=>?_) ?_
  · exact cs_d (fun h=>by rw[if_pos h];rfl) fun h=>by rw[if_neg h];rfl
  · refine held (fun k=>V.str (if k=2 then 1 else k)) (fun zz=>rfl) hl ?_
    unfold letters;rw[List.map_map];rfl
noncomputable def leftOvers (l:List Nat):List Nat:=l.map fun k=>if k=5∨k=6∨k=7 then 9 else k
theorem c33{d:Nat}{H:Hp}{l:List Nat}(hl:l.length<lim):callF TB (d+1) 33 [.lst (l.map V.str)] H=some (.lst ((leftOvers l).map V.str),H):=by
  refine comp_m V.str (fun k=>V.str (if k=5∨k=6∨k=7 then 9 else k)) (fun x zz K=>?_) ?_
  · exact cs_ok (fun h=>by rw[in3]at h;rw[if_pos (of_decide_eq_true h)];rfl) fun h=>by rw[in3]at h;rw[if_neg (of_decide_eq_false h)];rfl
  · refine held (fun k=>V.str (if k=5∨k=6∨k=7 then 9 else k)) (fun zz=>rfl) hl ?_
    unfold leftOvers;rw[List.map_map];rfl
noncomputable abbrev isoSign (k:Nat):Prop:=k=19∨k=20∨k=21∨k=22
noncomputable def mark (last k:Nat):Nat:=if k=8 then(if isoSign last then 9 else last)else k
noncomputable def lastD (s:Nat) (l:List Nat):Nat:=(l.getLast?).getD s
@[simp] theorem lastD_nil{s}:lastD s []=s:=rfl
@[simp] theorem lastD_snoc{s l x}:lastD s (l++[x])=x:=by simp[lastD]
noncomputable def marks (s:Nat) (l:List Nat):List Nat:=l.foldl (fun o k=>o++[mark (lastD s o) k]) []
theorem marks_snoc(s:Nat)(l:List Nat)(x:Nat):marks s (l++[x])=marks s l++[mark (lastD s (marks s l)) x]:=by simp[marks,List.foldl_append]
@[simp] theorem marks_length(s:Nat)(l:List Nat):(marks s l).length=l.length:=by
  suffices ∀ (l o:List Nat),(l.foldl (fun o k=>o++[mark (lastD s o) k]) o).length=o.length+l.length by simpa [marks]using this l []
  intro l
  induction l with
  | nil=>intro o;simp
  | cons a l ih=>intro o;simp[ih];lia
noncomputable def t26 (p:List V×Nat×V) (x:Nat) (F:List V×Nat×V→Rs):Rs:=
  let g:=fun y=>gd (decide (p.1.length<lim)) (F (p.1++[.str y],y,.str y))
  cs (x==8) (cs (19==p.2.1||(20==p.2.1||(21==p.2.1||(22==p.2.1||false)))) (g 9) (g p.2.1)) (g x)
theorem c26{d:Nat}{H:Hp}{l:List Nat}{s:Nat}(hl:l.length<lim):callF TB (d+1) 26 [.lst (l.map V.str),.str s] H=some (.lst ((marks s l).map V.str),H):=by
  refine for_u V.str (fun l u=>((marks s l).map V.str,lastD s (marks s l),u)) (fun p=>[V.lst (l.map V.str),.str s,.ref 0,.str p.2.1,p.2.2]) (fun p=>[.list p.1]) t26 ?_ (u:=.undef) ?_ ?_
  · exact fun zz zz zz=>rfl
  · intro N pre x u hn k
    rw[marks_snoc,lastD_snoc,←app_m]at k
    have e:∀ y,mark (lastD s (marks s pre)) x=y→gd (decide (((marks s pre).map V.str).length<lim)) (N ((marks s pre).map V.str++[.str y],y,.str y))=_:=fun y h=>gl_ok (lm (by rw[marks_length];exact Nat.lt_trans hn hl)) (by subst h;exact k _)
    exact cs_d (fun h=>cs_ok (fun g=>by rw[in4]at g;exact e _ ((if_pos h).trans (if_pos (of_decide_eq_true g)))) fun g=>by rw[in4]at g;exact e _ ((if_pos h).trans (if_neg (of_decide_eq_false g)))) fun h=>e _ (if_neg h)
  · exact fun zz=>ret_str rfl
noncomputable def trk (p:Nat→Bool) (s:Nat) (l:List Nat):Nat:=lastD s (l.filter p)
theorem trk_snoc{p s l x}:trk p s (l++[x])=if p x then x else trk p s l:=by
  unfold trk
  rw[List.filter_append]
  by_cases h:p x=true
  · simp[h]
  · simp[h]
@[simp] theorem trk_nil{p s}:trk p s []=s:=rfl
noncomputable def isStr (k:Nat):Bool:=k==0||k==1||k==2
noncomputable def isLR (k:Nat):Bool:=k==0||k==1
noncomputable def arNum (s:Nat) (pre:List Nat) (x:Nat):Nat:=if x=3∧trk isStr s pre=2 then 4 else x
noncomputable def arNums (s:Nat) (l:List Nat):List Nat:=mapPre (arNum s) [] l
noncomputable def t27 (b:Nat→Bool) (m v:Nat) (p:List V×Nat×V) (x:Nat) (F:List V×Nat×V→Rs):Rs:=
  let g:=fun t=>let w:=fun y=>gd (decide (p.1.length<lim)) (F (p.1++[.str y],t,.str x));cs (x==3) (cs (t==m) (w v) (w x)) (w x)
  cs (b x) (g x) (g p.2.1)
theorem t27_ok{b q:Nat→Bool}{m v s x:Nat}{u:V}{F:List V×Nat×V→Rs}{r:Rs}{g:List Nat→Nat→Nat}{pre l:List Nat}(hg:∀ p x,g p x=if x=3∧trk q s p=m then v else x)(hq:∀ x,b x=q x)(h3:q 3=false)(hn:pre.length<l.length)(hl:l.length<lim)
    (k:∀ u,F ((mapPre g [] (pre++[x])).map V.str,trk q s (pre++[x]),u)=r):t27 b m v ((mapPre g [] pre).map V.str,trk q s pre,u) x F=r:=by
  have e:∀ t y,g pre x=y→trk q s (pre++[x])=t→gd (decide (((mapPre g [] pre).map V.str).length<lim)) (F ((mapPre g [] pre).map V.str++[.str y],t,.str x))=r:=fun t y h1 h2=>gl_ok (lm (by rw[mapPre_length];exact Nat.lt_trans hn hl)) (by
    subst h1 h2;rw[app_m];have k:=k (.str x);rw[mapPre_snoc]at k;exact k)
  have f:∀ t,trk q s (pre++[x])=t→(x=3→t=trk q s pre)→(let w:=fun y=>gd (decide (((mapPre g [] pre).map V.str).length<lim)) (F ((mapPre g [] pre).map V.str++[.str y],t,.str x));cs (x==3) (cs (t==m) (w v) (w x)) (w x))=r:=fun t ht hs=>
    cs_d (fun h=>cs_d (fun h2=>e _ _ ((hg _ _).trans (if_pos ⟨h,hs h▸h2⟩)) ht) fun h2=>e _ _ ((hg _ _).trans (if_neg fun z=>h2 ((hs h).trans z.2))) ht) fun h=>e _ _ ((hg _ _).trans (if_neg fun z=>h z.1)) ht
  rw[trk_snoc]at f
  exact cs_ok (fun h=>f _ (if_pos ((hq x).symm.trans h)) fun z=>by subst z;rw[hq,h3]at h;cases h) fun h=>f _ (if_neg (by rw[←hq,h];exact Bool.false_ne_true)) fun zz=>rfl
theorem c27{d:Nat}{H:Hp}{l:List Nat}{s:Nat}(hl:l.length<lim):callF TB (d+1) 27 [.lst (l.map V.str),.str s] H=some (.lst ((arNums s l).map V.str),H):=by
  refine for_u V.str (fun l u=>((arNums s l).map V.str,trk isStr s l,u)) (fun p=>[V.lst (l.map V.str),.str s,.ref 0,.str p.2.1,p.2.2]) (fun p=>[.list p.1]) (t27 (fun x=>0==x||(1==x||(2==x||false))) 2 4) ?_ (u:=.undef) ?_ ?_
  · exact fun zz zz zz=>rfl
  · exact fun N pre x u hn k=>t27_ok (fun zz zz=>rfl) (fun x=>by rw[in3];unfold isStr;rw[Bool.eq_iff_iff];simp[or_assoc]) rfl hn hl k
  · exact fun zz=>ret_str rfl
noncomputable def lNum (s:Nat) (pre:List Nat) (x:Nat):Nat:=if x=3∧trk isLR s pre=0 then 0 else x
noncomputable def leftNums (s:Nat) (l:List Nat):List Nat:=mapPre (lNum s) [] l
theorem c34{d:Nat}{H:Hp}{l:List Nat}{s:Nat}(hl:l.length<lim):callF TB (d+1) 34 [.lst (l.map V.str),.str s] H=some (.lst ((leftNums s l).map V.str),H):=by
  refine for_u V.str (fun l u=>((leftNums s l).map V.str,trk isLR s l,u)) (fun p=>[V.lst (l.map V.str),.str s,.ref 0,.str p.2.1,p.2.2]) (fun p=>[.list p.1]) (t27 (fun x=>0==x||(1==x||false)) 0 0) ?_ (u:=.undef) ?_ ?_
  · exact fun zz zz zz=>rfl
  · exact fun N pre x u hn k=>t27_ok (fun zz zz=>rfl) (fun x=>by rw[in2];unfold isLR;rw[Bool.eq_iff_iff];simp) rfl hn hl k
  · exact fun zz=>ret_str rfl
noncomputable def fillS (c:Nat→Option Nat) (n:Nat) (l:List Nat):List Nat:=(List.range n).foldl (fun o k=>match c k with|some v=>o.set (k+1) v|none=>o) l
theorem fillS_succ{c n l}:fillS c (n+1) l=match c n with|some v=>(fillS c n l).set (n+1) v|none=>fillS c n l:=by
  unfold fillS
  rw[List.range_succ,List.foldl_append]
  rfl
@[simp] theorem fillS_zero{c l}:fillS c 0 l=l:=rfl
@[simp] theorem fillS_length{c n l}:(fillS c n l).length=l.length:=by
  induction n with
  | zero=>rfl
  | succ n ih=>rw[fillS_succ];cases c n<;>simp[ih]
noncomputable def sepC (l:List Nat) (k:Nat):Option Nat:=
  if l[k]?=l[k+2]?∧(l[k+1]?=some 7∧(l[k]?=some 3∨l[k]?=some 4)∨l[k+1]?=some 5∧l[k]?=some 3)then l[k]? else none
noncomputable def seps (l:List Nat):List Nat:=fillS (sepC l) (l.length - 2) l
theorem c29{d:Nat}{H:Hp}{l:List Nat}(hl:l.length<lim):callF TB (d+1) 29 [.lst (l.map V.str)] H=some (.lst ((seps l).map V.str),H):=by
  refine gl_ok (lm hl) ?_
  refine range_d (n:=l.length - 2) (fun k (u:V×V×V)=>[V.lst (l.map V.str),.ref 0,u.1,u.2.1,u.2.2]) (fun k zz=>[.list ((fillS (sepC l) k l).map V.str)]) (u:=(.undef,.undef,.undef)) ?_ ?_ ?_ ?_ ?_
  · rw[List.length_map];exact rd_1
  · rw[List.length_map];exact rd_2 hl
  · rw[List.length_map];exact rd_3 hl
  · intro k u K hk kk
    obtain⟨x,hx⟩:=at_some (rd_k hk).1
    obtain⟨y,hy⟩:=at_some (rd_k hk).2.1
    obtain⟨z,hz⟩:=at_some (rd_k hk).2.2
    have no:sepC l k=none→K .next [V.lst (l.map V.str),.ref 0,.int (1+k),.str y,.str x] [.list ((fillS (sepC l) k l).map V.str)]=some (.lst ((seps l).map V.str),H):=fun h=>by
      rw[fillS_succ,h]at kk;exact kk (.int (1+k),.str y,.str x)
    have yes:sepC l k=some x→gd (decide (0≤1+(k:Int))&&decide (1+(k:Int)<((fillS (sepC l) k l).map V.str).length)) (K .next [V.lst (l.map V.str),.ref 0,.int (1+k),.str y,.str x] [.list (put ((fillS (sepC l) k l).map V.str) (1+(k:Int)).toNat (.str x))])=some (.lst ((seps l).map V.str),H):=fun h=>by
      rw[fillS_succ,h]at kk
      refine in_at (m:=k+1) p1a (lg (fillS_length.symm▸(rd_k hk).2.1)) ?_
      rw[put_m,p1]
      exact kk (.int (1+k),.str y,.str x)
    unfold sepC at no yes
    rw[hx,hy,hz]at no yes
    refine bd_ok (at_m hy p1a) (bd_ok (at_m hx p1s) (bd_ok (at_m hz p1p) (cs_d (fun h=>?_) fun h=>no (if_neg fun q=>h (Option.some.inj q.1)))))
    subst h
    refine cs_d (fun h1=>cs_ok (fun h2=>yes ?_) fun h2=>cs_d (fun h3=>absurd (h1.symm.trans h3) (by decide)) fun h3=>no ?_) fun h1=>cs_d (fun h3=>cs_d (fun h4=>yes ?_) fun h4=>no ?_) fun h3=>no ?_
    · rw[in2]at h2;exact if_pos ⟨rfl,.inl ⟨congrArg some h1,(of_decide_eq_true h2).imp (congrArg some) (congrArg some)⟩⟩
    · rw[in2]at h2;exact if_neg fun q=>q.2.elim (fun q=>of_decide_eq_false h2 (q.2.imp Option.some.inj Option.some.inj)) fun q=>h3 (Option.some.inj q.1)
    · exact if_pos ⟨rfl,.inr ⟨congrArg some h3,congrArg some h4⟩⟩
    · exact if_neg fun q=>q.2.elim (fun q=>h1 (Option.some.inj q.1)) fun q=>h4 (Option.some.inj q.2)
    · exact if_neg fun q=>q.2.elim (fun q=>h1 (Option.some.inj q.1)) fun q=>h3 (Option.some.inj q.1)
  · exact fun zz=>ret_str rfl
end Mine
end
section
namespace Mine
noncomputable def isIn (ks:List Nat) (x:Nat):Bool:=decide (x∈ks)
theorem memV_map(x:Nat)(ks:List Nat):memV (.str x) (ks.map V.str)=some (isIn ks x):=by
  induction ks with
  | nil=>rfl
  | cons k ks ih=>
    refine bd_ok (x:=eqV (.str k) (.str x)) rfl (bd_ok ih (congrArg some ?_))
    unfold isIn
    rw[Bool.eq_iff_iff,Bool.or_eq_true,beq_iff_eq,decide_eq_true_iff,decide_eq_true_iff,List.mem_cons]
    exact or_congr eq_comm Iff.rfl
theorem frz_tup{α:Type}(e:α→V){n:Nat}(h:∀ x H,frz n (e x) H=some (e x,H)){l:List α}{H:Hp}:frz (n+1) (.tup (l.map e)) H=some (.tup (l.map e),H):=b2_ok (each_map e h) rfl
theorem eachC{f:V→Hp→Res V}{v:V}{vs us:List V}{H:Hp}(h:f v H=some (v,H))(g:eachS f vs H=some (us,H)):eachS f (v::vs) H=some (v::us,H):=b2_ok h (b2_ok g rfl)
section
variable{α σ:Type}
noncomputable def foldI (f:Nat→σ→α→σ):Nat→σ→List α→σ
  | _,s,[]=>s
  | k,s,x::r=>foldI f (k+1) (f k s x) r
theorem foldI_snoc(f:Nat→σ→α→σ)(k:Nat)(s:σ)(l:List α)(x:α):foldI f k s (l++[x])=f (k+l.length) (foldI f k s l) x:=by
  induction l generalizing k s with
  | nil=>rfl
  | cons a l ih=>rw[List.length_cons,Nat.add_comm l.length,←Nat.add_assoc];exact ih _ _
end
section
variable{α υ σ:Type}{f:V→List V→Hp→KF→Rs}{l:List α}{u:υ}{K:KF}{r:Rs}
theorem enum_pairs{vs:List V}{k:Int}:(enumL k vs).all (fun v=>(pair1 v).isSome)=true:=by
  induction vs generalizing k with
  | nil=>rfl
  | cons v vs ih=>exact ih
theorem for_en(e:α→V)(S:List α→υ→σ)(L:σ→List V)(G:σ→Hp)(t:σ→Nat→α→(σ→Rs)→Rs)
    (hf:∀ s (k:Nat) x K,f (.tup [.int k,e x]) (L s) (G s) K=t s k x fun s=>K .next (L s) (G s))
    (h:∀ N pre x u,pre.length<l.length→(∀ u',N (S (pre++[x]) u')=r)→t (S pre u) pre.length x N=r)
    (hK:∀ u,K .next (L (S l u)) (G (S l u))=r):gd ((enumL 0 (l.map e)).all fun v=>(pair1 v).isSome) (forK f (enumL 0 (l.map e)) (L (S [] u)) (G (S [] u)) K)=r:=by
  refine gd_ok enum_pairs ?_
  suffices ∀ (m pre:List α) u,pre++m=l→forK f (enumL pre.length (m.map e)) (L (S pre u)) (G (S pre u)) K=r from this l [] u rfl
  intro m
  induction m with
  | nil=>intro pre u hl;rw[List.append_nil]at hl;exact hl▸hK u
  | cons x m ih=>
    intro pre u hl
    have hp:pre.length<l.length:=by rw[←hl,List.length_append];exact Nat.lt_add_of_pos_right (Nat.succ_pos _)
    refine(hf _ _ _ _).trans (h _ pre x u hp fun u'=>?_)
    have:=ih (pre++[x]) u' (by rw[←hl,List.append_assoc];rfl)
    rw[List.length_append]at this
    exact this
end
noncomputable def encP (p:Nat×Nat):V:=.tup [.int p.1,.int p.2]
noncomputable def stretch (p:Nat→Bool) (l:List Nat) (r:Nat×Nat):Prop:=
  r.1<r.2∧r.2≤l.length∧(∀ j,r.1≤j→j<r.2→∃ x,l[j]?=some x∧p x=true)∧(∀ j,j+1=r.1→∃ x,l[j]?=some x∧p x=false)∧(∀ x,l[r.2]?=some x→p x=false)
noncomputable def inP (r:Nat×Nat) (i:Nat):Prop:=r.1≤i∧i<r.2
structure Runs(p:Nat→Bool)(l:List Nat)(k:Nat)(rs:List (Nat×Nat))(b:Option Nat):Prop where
  ok:∀ r∈rs,stretch p l r
  all:∀ i x,i<k→l[i]?=some x→p x=true→(∃ r∈rs,inP r i)∨(∃ a,b=some a∧a≤i)
  now:∀ a,b=some a→a<k∧(∀ j,a≤j→j<k→∃ x,l[j]?=some x∧p x=true)∧(∀ j,j+1=a→∃ x,l[j]?=some x∧p x=false)
  not:b=none→∀ j,j+1=k→∃ x,l[j]?=some x∧p x=false
  few:rs.length≤k
noncomputable def encB:Option Nat→V
  | none=>.none
  | some n=>.int n
theorem frz_encP(p:Nat×Nat){n:Nat}(H:Hp):frz (n+2) (encP p) H=some (encP p,H):=rfl
@[simp] theorem encB_none:encB none=.none:=rfl
@[simp] theorem encB_some{n}:encB (some n)=.int n:=rfl
noncomputable def runT (p:Nat→Bool) (k:Nat) (s:List (Nat×Nat)×Option Nat) (x:Nat):List (Nat×Nat)×Option Nat:=match p x,s.2 with
  | true,some a=>(s.1,some a)
  | true,none=>(s.1,some k)
  | false,some a=>(s.1++[(a,k)],none)
  | false,none=>(s.1,none)
theorem Runs.step{p:Nat→Bool}{l pre post:List Nat}{x:Nat}{rs b}(hl:l=pre++x::post)(h:Runs p l pre.length rs b) :
    Runs p l (pre.length+1) (runT p pre.length (rs,b) x).1 (runT p pre.length (rs,b) x).2:=by
  have hx:l[pre.length]?=some x:=by rw[hl,List.getElem?_append_right (Nat.le_refl _),Nat.sub_self];rfl
  obtain⟨h1,h2,h3,h4,h5⟩:=h
  have le:∀ {j},j<pre.length+1→j≠pre.length→j<pre.length:=fun h n=>Nat.lt_of_le_of_ne (Nat.le_of_lt_succ h) n
  unfold runT
  cases hp:p x with
  | true=>
    have at_:∀ j,(j≠pre.length→∃ y,l[j]?=some y∧p y=true)→∃ y,l[j]?=some y∧p y=true:=fun j f=>(Decidable.em (j=pre.length)).elim (fun e=>⟨x,e▸hx,hp⟩) f
    cases b with
    | none=>exact⟨h1,fun i y hi hy hpy=>(Decidable.em (i=pre.length)).elim (fun e=>.inr ⟨_,rfl,Nat.le_of_eq e.symm⟩) fun e=>.inl ((h2 i y (le hi e) hy hpy).elim id fun ⟨a,ha,_⟩=>nomatch ha),fun a ha=>by
        cases ha
        exact⟨Nat.lt_succ_self _,fun j hj hj2=>at_ j fun e=>absurd (Nat.le_antisymm (Nat.le_of_lt_succ hj2) hj) e,h4 rfl⟩,fun h=>(nomatch h),Nat.le_succ_of_le h5⟩
    | some a=>
      have q:=h3 a rfl
      exact⟨h1,fun i y hi hy hpy=>(Decidable.em (i=pre.length)).elim (fun e=>.inr ⟨_,rfl,Nat.le_of_lt (e▸q.1)⟩) fun e=>h2 i y (le hi e) hy hpy,fun a' ha=>by
        cases ha
        exact⟨Nat.lt_succ_of_lt q.1,fun j hj hj2=>at_ j fun e=>q.2.1 j hj (le hj2 e),q.2.2⟩,fun h=>(nomatch h),Nat.le_succ_of_le h5⟩
  | false=>
    have last:∀ j,j+1=pre.length+1→∃ y,l[j]?=some y∧p y=false:=fun j e=>⟨x,(Nat.succ.inj e)▸hx,hp⟩
    have ne:∀ {i y},l[i]?=some y→p y=true→i≠pre.length:=fun hy hpy e=>by
      cases hx.symm.trans (e▸hy)
      exact Bool.false_ne_true (hp.symm.trans hpy)
    cases b with
    | none=>exact⟨h1,fun i y hi hy hpy=>h2 i y (le hi (ne hy hpy)) hy hpy,fun a h=>(nomatch h),fun zz=>last,Nat.le_succ_of_le h5⟩
    | some a=>
      have q:=h3 a rfl
      exact⟨fun r hr=>(List.mem_append.mp hr).elim (h1 r) fun hr=>List.mem_singleton.mp hr▸⟨q.1,by rw[hl,List.length_append];exact Nat.le_add_right _ _,q.2.1,q.2.2,fun y hy=>by cases hx.symm.trans hy;exact hp⟩,
        fun i y hi hy hpy=>.inl ((h2 i y (le hi (ne hy hpy)) hy hpy).elim (fun ⟨r,hr,h⟩=>⟨r,List.mem_append_left _ hr,h⟩) fun ⟨a',ha,h⟩=>⟨(a,pre.length),List.mem_append_right _ (.head _),by cases ha;exact h,le hi (ne hy hpy)⟩),
        fun a h=>(nomatch h),fun zz=>last,by rw[List.length_append];exact Nat.succ_le_succ h5⟩
theorem Runs.done{p:Nat→Bool}{l:List Nat}{rs b}(h:Runs p l l.length rs b) :
    (∀ r∈(match b with|some a=>rs++[(a,l.length)]|none=>rs),stretch p l r)∧(∀ i x,l[i]?=some x→p x=true→∃ r∈(match b with|some a=>rs++[(a,l.length)]|none=>rs),inP r i):=by
  obtain⟨h1,h2,h3,h4,h5⟩:=h
  have hs:∀ a,b=some a→stretch p l (a,l.length):=by
    intro a ha
    obtain⟨h6,h7,h8⟩:=h3 a ha
    refine⟨h6,Nat.le_refl _,h7,h8,?_⟩
    intro y hy;simp at hy
  have hlt:∀ i x,l[i]?=some x→i<l.length:=fun i x h=>(List.getElem?_eq_some_iff.1 h).1
  cases b with
  | none=>
    refine⟨h1,?_⟩
    intro i x hx hp
    rcases h2 i x (hlt i x hx) hx hp with h|⟨a,ha,_⟩
    · exact h
    · cases ha
  | some a=>
    refine⟨?_,?_⟩
    · intro r hr
      simp only[List.mem_append,List.mem_singleton]at hr
      rcases hr with hr|rfl
      · exact h1 r hr
      · exact hs a rfl
    · intro i x hx hp
      rcases h2 i x (hlt i x hx) hx hp with⟨r,hr,hri⟩|⟨_,⟨⟩,ha⟩
      · exact⟨r,List.mem_append.2 (Or.inl hr),hri⟩
      · exact⟨(a,l.length),by simp,ha,hlt i x hx⟩
noncomputable def runS (p:Nat→Bool) (l:List Nat):List (Nat×Nat)×Option Nat:=foldI (runT p) 0 ([],none) l
theorem runS_snoc{p:Nat→Bool}{l:List Nat}{x:Nat}:runS p (l++[x])=runT p l.length (runS p l) x:=(foldI_snoc ..).trans (by rw[Nat.zero_add];rfl)
theorem runs_at{p:Nat→Bool}(m:List Nat):∀ (pre l:List Nat),l=pre++m→Runs p l pre.length (runS p pre).1 (runS p pre).2→Runs p l l.length (runS p l).1 (runS p l).2:=by
  induction m with
  | nil=>intro pre l e h;rw[List.append_nil]at e;exact e▸h
  | cons x m ih=>
    intro pre l e h
    refine ih (pre++[x]) l (by rw[e,List.append_assoc];rfl) ?_
    rw[runS_snoc,List.length_append]
    exact h.step e
noncomputable def runsOf (p:Nat→Bool) (l:List Nat):List (Nat×Nat):=match (runS p l).2 with
  | some a=>(runS p l).1++[(a,l.length)]
  | none=>(runS p l).1
theorem runs_are(p:Nat→Bool)(l:List Nat):Runs p l l.length (runS p l).1 (runS p l).2:=runs_at l [] l rfl ⟨fun r h=>absurd h List.not_mem_nil,fun i x h=>absurd h (Nat.not_lt_zero _),fun a h=>(nomatch h),fun zz j h=>(nomatch h),Nat.le_refl _⟩
theorem runs_ok(p:Nat→Bool)(l:List Nat):(∀ r∈runsOf p l,stretch p l r)∧(∀ i x,l[i]?=some x→p x=true→∃ r∈runsOf p l,inP r i):=(runs_are p l).done
noncomputable def t30 (ks:List Nat) (s:List V×Option Nat×V×V) (k x:Nat) (N:List V×Option Nat×V×V→Rs):Rs:=match s.2.1 with
  | none=>bx (memV (.str x) (ks.map V.str)) fun m=>cs m (N (s.1,some k,.int k,.str x)) (bx (memV (.str x) (ks.map V.str)) fun m=>cs (!m) (N (s.1,none,.int k,.str x)) (N (s.1,none,.int k,.str x)))
  | some a=>let g:=bx (memV (.str x) (ks.map V.str)) fun m=>cs (!m) (gd (decide (s.1.length<lim)) (N (s.1++[.tup [.int a,.int k]],none,.int k,.str x))) (N (s.1,some a,.int k,.str x));bx (memV (.str x) (ks.map V.str)) fun m=>cs m g g
theorem c30{d:Nat}{H:Hp}{l ks:List Nat}(hl:l.length<lim):callF TB (d+1) 30 [.lst (l.map V.str),.tup (ks.map V.str)] H=some (.lst ((runsOf (isIn ks) l).map encP),H):=by
  have few:∀ pre:List Nat,pre.length≤l.length→(runS (isIn ks) pre).1.length<lim:=fun pre h=>Nat.lt_of_le_of_lt (Nat.le_trans (runs_are _ pre).few h) hl
  refine bp_ok (eachC rfl (eachC (frz_tup V.str fun zz zz=>rfl) rfl)) ?_
  refine for_en V.str (fun l u=>((runS (isIn ks) l).1.map encP,(runS (isIn ks) l).2,u)) (fun s=>[V.lst (l.map V.str),.tup (ks.map V.str),.ref 0,encB s.2.1,s.2.2.1,s.2.2.2]) (fun s=>[.list s.1]) (t30 ks) ?_ (u:=(.undef,.undef)) ?_ ?_
  · intro s k x K
    obtain⟨rs,b,u⟩:=s
    cases b<;>rfl
  · intro N pre x u hn k
    have f:=few pre (Nat.le_of_lt hn)
    rw[runS_snoc]at k
    revert k f
    generalize runS (isIn ks) pre=s
    obtain⟨rs,b⟩:=s
    unfold runT
    intro k f
    cases b with
    | none=>
      refine bx_ok (memV_map x ks) (cs_ok (fun h=>?_) fun h=>bx_ok (memV_map x ks) ?_)
      · rw[h]at k;exact k (.int _,.str x)
      · rw[h]at k ⊢;exact k (.int _,.str x)
    | some a=>
      have g:isIn ks x=true→bx (memV (.str x) (ks.map V.str)) (fun m=>cs (!m) (gd (decide ((rs.map encP).length<lim)) (N (rs.map encP++[.tup [.int a,.int pre.length]],none,.int pre.length,.str x))) (N (rs.map encP,some a,.int pre.length,.str x)))=some (.lst ((runsOf (isIn ks) l).map encP),H):=fun h=>bx_ok (memV_map x ks) (by rw[h]at k ⊢;exact k (.int _,.str x))
      refine bx_ok (memV_map x ks) (cs_ok g fun h=>bx_ok (memV_map x ks) ?_)
      rw[h]at k ⊢
      refine gl_ok (lm f) ?_
      have k:=k (.int pre.length,.str x)
      dsimp only at k
      rw[List.map_append]at k
      exact k
  · intro u
    have f:=few l (Nat.le_refl _)
    unfold runsOf
    generalize runS (isIn ks) l=s at f
    obtain⟨rs,b⟩:=s
    cases b with
    | none=>exact ret_map encP (fun p H=>frz_encP p H) rfl
    | some a=>
      refine gl_ok (lm f) ?_
      show b2 (frz 8 (.ref 0) [.list (rs.map encP++[.tup [.int a,.int (l.map V.str).length]])]) _=_
      rw[List.length_map,show rs.map encP++[.tup [.int a,.int l.length]]=(rs++[(a,l.length)]).map encP by rw[List.map_append];rfl]
      exact ret_map encP (fun p H=>frz_encP p H) rfl
end Mine
end
section
namespace Mine
noncomputable def prevN (p:Nat→Bool) (l:List Nat) (i:Nat):Option Nat:=((l.take i).filter (!p ·)).getLast?
noncomputable def nextN (p:Nat→Bool) (l:List Nat) (i:Nat):Option Nat:=((l.drop i).filter (!p ·)).head?
theorem stretch_prev{p l r i}(h:stretch p l r)(hi:inP r i):prevN p l i=if r.1=0 then none else l[r.1 - 1]?:=by
  obtain⟨a,b⟩:=r
  obtain⟨h1,h2,h3,h4,h5⟩:=h
  obtain⟨h6,h7⟩:=hi
  simp only at *
  unfold prevN
  have hi:i=a+(i - a):=by lia
  rw[hi,List.take_add,List.filter_append]
  have:((l.drop a).take (i - a)).filter (!p ·)=[]:=by
    rw[List.filter_eq_nil_iff]
    intro x hx
    obtain⟨n,hn⟩:=List.mem_iff_getElem?.1 hx
    rw[List.getElem?_take]at hn
    split at hn
    · rw[List.getElem?_drop]at hn
      obtain⟨y,hy,hp⟩:=h3 (a+n) (by lia) (by lia)
      rw[hn]at hy;cases hy;simp[hp]
    · cases hn
  rw[this,List.append_nil]
  cases a with
  | zero=>simp
  | succ a=>
    obtain⟨x,hx,hp⟩:=h4 a rfl
    rw[if_neg (by lia)]
    have hlt:=(List.getElem?_eq_some_iff.1 hx).1
    rw[List.take_add_one,hx]
    simp[hp,hx]
theorem stretch_next{p l r i}(h:stretch p l r)(hi:inP r i):nextN p l i=l[r.2]?:=by
  obtain⟨a,b⟩:=r
  obtain⟨h1,h2,h3,h4,h5⟩:=h
  obtain⟨h6,h7⟩:=hi
  simp only at *
  unfold nextN
  have hd:l.drop i=(l.drop i).take (b - i)++l.drop b:=by
    have:=List.take_append_drop (b - i) (l.drop i)
    rw[List.drop_drop]at this
    have e:i+(b - i)=b:=by lia
    rw[e]at this
    exact this.symm
  rw[hd,List.filter_append]
  have:((l.drop i).take (b - i)).filter (!p ·)=[]:=by
    rw[List.filter_eq_nil_iff]
    intro x hx
    obtain⟨n,hn⟩:=List.mem_iff_getElem?.1 hx
    rw[List.getElem?_take]at hn
    split at hn
    · rw[List.getElem?_drop]at hn
      obtain⟨y,hy,hp⟩:=h3 (i+n) (by lia) (by lia)
      rw[hn]at hy;cases hy;simp[hp]
    · cases hn
  rw[this,List.nil_append]
  by_cases hb:b<l.length
  · rw[List.drop_eq_getElem_cons hb]
    have:=h5 l[b] (List.getElem?_eq_getElem hb)
    rw[List.filter_cons]
    simp[this,hb]
  · rw[List.drop_eq_nil_of_le (by lia)]
    simp[hb]
structure Filled(G:Nat→Nat)(l:List Nat)(rs:List (Nat×Nat))(o:List Nat):Prop where
  len:o.length=l.length
  own:∀ i,(∃ r∈rs,inP r i)→o[i]?=some (G i)
  old:∀ i,¬(∃ r∈rs,inP r i)→o[i]?=l[i]?
theorem Filled.step{G l rs o o' r}(h:Filled G l rs o)(hl:o'.length=o.length)(h1:∀ i,inP r i→o'[i]?=some (G i))(h2:∀ i,¬inP r i→o'[i]?=o[i]?):Filled G l (rs++[r]) o':=by
  refine⟨hl.trans h.len,?_,?_⟩
  · rintro i ⟨q,hq,hi⟩
    simp only[List.mem_append,List.mem_singleton]at hq
    by_cases hr:inP r i
    · exact h1 i hr
    · rw[h2 i hr]
      rcases hq with hq|rfl
      · exact h.own i ⟨q,hq,hi⟩
      · exact absurd hi hr
  · intro i hi
    rw[h2 i fun hr=>hi ⟨r,by simp,hr⟩]
    exact h.old i fun ⟨q,hq,hq2⟩=>hi ⟨q,by simp[hq],hq2⟩
theorem Filled.same{G l rs o r}(h:Filled G l rs o)(h1:∀ i,inP r i→l[i]?=some (G i)):Filled G l (rs++[r]) o:=by
  refine h.step rfl ?_ fun zz zz=>rfl
  intro i hi
  by_cases hc:∃ r∈rs,inP r i
  · exact h.own i hc
  · rw[h.old i hc];exact h1 i hi
theorem Filled.done{p:Nat→Bool}{G l rs o}(h:Filled G l rs o)(hs:∀ r∈rs,stretch p l r)(ha:∀ i x,l[i]?=some x→p x=true→∃ r∈rs,inP r i):o=l.mapIdx fun i x=>if p x=true then G i else x:=by
  apply List.ext_getElem?
  intro i
  rw[List.getElem?_mapIdx]
  cases hx:l[i]? with
  | none=>
    simp only[Option.map_none]
    rw[List.getElem?_eq_none_iff]at hx ⊢
    rw[h.len];exact hx
  | some x=>
    simp only[Option.map_some]
    cases hp:p x with
    | true=>rw[h.own i (ha i x hx hp)];simp
    | false=>
      rw[h.old i,hx]
      · simp
      · rintro⟨r,hr,hi⟩
        obtain⟨y,hy,hpy⟩:=(hs r hr).2.2.1 i hi.1 hi.2
        rw[hx]at hy;cases hy;rw[hp]at hpy;cases hpy
structure Calm(u:V):Prop where
  f:∀ n H,frz (n+1) u H=some (u,H)
  v:∀ H,view H u=u
  s:slotV u=some u
theorem calm_none:Calm .none:=⟨fun zz zz=>rfl,fun zz=>rfl,rfl⟩
theorem calm_str(n:Nat):Calm (.str n):=⟨fun zz zz=>rfl,fun zz=>rfl,rfl⟩
theorem t31{d:Nat}{H:Hp}{l:List Nat}{a b:Nat}{u v w w':V}(hw:Calm w')(hv:Calm v)(e:w=w'):exL TB (callF TB d) [.ret (.tup [.var 5,.ite (.cmp .Lt (.var 2) (.bi .len false [.var 0])) (.item (.var 0) (.var 2)) (.var 4)])] [.lst (l.map V.str),.int a,.int b,u,v,w] [] (fun fl zz H1=>outK fl H1 fun v H2=>frzK v H2 fun u zz=>some (u,H))=some (.tup [w',(l[b]?.map V.str).getD v],H):=by
  subst e
  have fin:∀ z,Calm z→b2 (frz 8 (.tup [view [] w,z]) []) (fun u zz=>some (u,H))=some (.tup [w,z],H):=fun z hz=>by rw[hw.v];exact b2_ok (b2_ok (eachC (hw.f _ _) (eachC (hz.f _ _) rfl)) rfl) rfl
  refine bx_ok hw.s (cs_d (fun h=>?_) fun h=>?_)
  · rw[List.length_map]at h
    obtain⟨x,hx⟩:=at_some (l:=l) (k:=b) (Int.ofNat_lt.mp h)
    refine bd_ok (at_m hx rfl) ?_
    rw[hx]
    exact fin (.str x) (calm_str x)
  · rw[List.length_map]at h
    rw[List.getElem?_eq_none (Nat.not_lt.mp fun q=>h (Int.ofNat_lt.mpr q))]
    refine bx_ok hv.s ?_
    have:=fin v hv
    rw[←hv.v []]at this
    rw[hv.v]at this ⊢
    exact this
theorem c31{d:Nat}{H:Hp}{l:List Nat}{a b:Nat}{u v:V}(ha:a≤l.length)(hu:Calm u)(hv:Calm v) :
    callF TB (d+1) 31 [.lst (l.map V.str),.int a,.int b,u,v] H=some (.tup [((if a=0 then none else l[a - 1]?).map V.str).getD u,(l[b]?.map V.str).getD v],H):=by
  refine bp_ok (eachC rfl (eachC rfl (eachC rfl (eachC (hu.f _ _) (eachC (hv.f _ _) rfl))))) (cs_d (fun h=>?_) fun h=>?_)
  · have h:0<a:=Int.ofNat_lt.mp h
    obtain⟨x,hx⟩:=at_some (l:=l) (k:=a - 1) (Nat.lt_of_lt_of_le (Nat.sub_lt h (Nat.succ_pos _)) ha)
    rw[if_neg (Nat.ne_of_gt h),hx]
    exact bd_ok (at_m hx (Int.ofNat_sub h).symm) (t31 (calm_str x) hv rfl)
  · rw[if_pos (Nat.eq_zero_of_not_pos fun q=>h (Int.ofNat_lt.mpr q))]
    exact bx_ok hu.s (t31 hu hv (hu.v _))
end Mine
end
section
namespace Mine
theorem encP_all{rs:List (Nat×Nat)}:(rs.map encP).all (fun v=>(pair1 v).isSome)=true:=all_m encP fun zz=>rfl
theorem two_ok{vs:List V}{t r:Rs}(h:vs.all (fun v=>(pair1 v).isSome)=true)(g:t=r):gd (vs.all fun v=>(pair1 v).isSome) t=r:=gd_ok h g
noncomputable def span (o o':List Nat) (a k v:Nat):Prop:=o'.length=o.length∧∀ i,o'[i]?=if a≤i∧i<a+k then some v else o[i]?
theorem span_zero{o a v}:span o o a 0 v:=⟨rfl,fun i=>by rw[if_neg (by lia)]⟩
theorem span_succ{o o' a k v}(h:span o o' a k v)(hk:a+k<o.length):span o (o'.set (a+k) v) a (k+1) v:=by
  refine⟨by simp[h.1],fun i=>?_⟩
  rw[List.getElem?_set,h.2 i]
  by_cases hi:a+k=i
  · subst hi
    rw[if_pos rfl,if_pos (by rw[h.1];exact hk),if_pos (by lia)]
  · rw[if_neg hi]
    by_cases h2:a≤i∧i<a+k
    · rw[if_pos h2,if_pos (by lia)]
    · rw[if_neg h2,if_neg (by lia)]
noncomputable def isET:Nat→Bool:=isIn [6]
noncomputable def etAt (l:List Nat) (i:Nat):Nat:=if prevN isET l i=some 3∨nextN isET l i=some 3 then 3 else 6
noncomputable def ets (l:List Nat):List Nat:=l.mapIdx fun i x=>if isET x=true then etAt l i else x
theorem getD_str{o:Option Nat}{H:Hp}{K:KB}{r:Rs}{b:Nat}(p:Option Nat)(h:K (decide (o=some b∨p=some b))=r):bx (memV (.str b) [(o.map V.str).getD .none,(p.map V.str).getD .none]) K=r:=by
  refine bx_ok ?_ h
  have e:∀ q:Option Nat,eqV ((q.map V.str).getD .none) (.str b)=some (decide (q=some b)):=fun q=>by
    cases q with
    | none=>rfl
    | some q=>exact congrArg some (by rw[Bool.eq_iff_iff,beq_iff_eq,decide_eq_true_iff,Option.some.injEq])
  exact bd_ok (e o) (bd_ok (bd_ok (e p) (bd_ok rfl rfl)) (congrArg some (by rw[Bool.or_false,Bool.eq_iff_iff,Bool.or_eq_true,decide_eq_true_iff,decide_eq_true_iff,decide_eq_true_iff])))
theorem c32{d:Nat}{H:Hp}{l:List Nat}(hl:l.length<lim):callF TB (d+2) 32 [.lst (l.map V.str)] H=some (.lst ((ets l).map V.str),H):=by
  have hl':l.length<100000:=hl
  have hR:=runs_ok isET l
  refine gl_ok (lm hl) ?_
  refine b2_ok (c30 (ks:=[6]) hl) ?_
  refine two_ok (vs:=(runsOf (isIn [6]) l).map encP) encP_all ?_
  refine for_i encP (fun s:(V×V×V)×List Nat=>[V.lst (l.map V.str),.ref 0,s.1.1,s.1.2.1,s.1.2.2]) (fun s=>[.list (s.2.map V.str)]) (fun pre s=>Filled (etAt l) l pre s.2) ?_ ?_ (s:=((.undef,.undef,.undef),l)) ⟨rfl,fun i h=>h.elim fun r h=>absurd h.1 List.not_mem_nil,fun i zz=>rfl⟩
  · rintro pre r post ⟨⟨a0,b0,c0⟩,o⟩ N hp hF kk
    have hr:stretch isET l r:=hR.1 r (hp▸List.mem_append_right _ (.head _))
    obtain⟨a,b⟩:=r
    have h1:a<b:=hr.1
    have h2:b≤l.length:=hr.2.1
    have h3:=hr.2.2.1
    refine b2_ok (c31 (Nat.le_trans (Nat.le_of_lt h1) h2) calm_none calm_none) (getD_str (H:=H) _ (cs_d (fun hE=>?_) fun hE=>?_))
    · have hG:∀ i,inP (a,b) i→etAt l i=3:=fun i hi=>if_pos (by rw[stretch_prev hr hi,stretch_next hr hi];exact hE)
      refine rng_l (range_n a b (Nat.lt_trans (Nat.lt_of_lt_of_le h1 h2) hl') (Nat.lt_of_le_of_lt h2 hl') ?_)
      refine range_i (fun s:V×List Nat=>[V.lst (l.map V.str),.ref 0,.int a,.int b,s.1]) (fun s=>[.list (s.2.map V.str)]) (fun k s=>span o s.2 a k 3) ?_ ?_ (s:=(c0,o)) span_zero
      · rintro k ⟨c,o'⟩ N hk hsp kk
        have hlt:a+k<o.length:=by rw[hF.len];omega
        have hl2:o'.length=o.length:=hsp.1
        refine in_at (m:=a+k) rfl (lg (hl2▸hlt)) ?_
        show N .next _ [.list (put (o'.map V.str) (a+k) (.str 3))]=_
        rw[put_m]
        exact kk (.int (a+k),o'.set (a+k) 3) (span_succ hsp hlt)
      · rintro⟨c,o'⟩ hsp
        refine kk ((.int a,.int b,c),o') (hF.step hsp.1 (fun i hi=>?_) fun i hi=>?_)
        · rw[hG i hi,hsp.2 i,Nat.add_sub_cancel' (Nat.le_of_lt h1)];exact if_pos hi
        · rw[hsp.2 i,Nat.add_sub_cancel' (Nat.le_of_lt h1)];exact if_neg hi
    · exact kk ((.int a,.int b,c0),o) (hF.same fun i hi=>by
        obtain⟨x,hx,hx6⟩:=h3 i hi.1 hi.2
        rw[hx,show x=6 from List.mem_singleton.mp (of_decide_eq_true hx6)]
        exact congrArg some (if_neg (by rw[stretch_prev hr hi,stretch_next hr hi];exact hE)).symm)
  · rintro⟨u,o⟩ hF
    refine ret_str ?_
    exact congrArg (fun o:List Nat=>some (V.lst (o.map V.str),H)) (hF.done hR.1 hR.2)
end Mine
end
section
namespace Mine
@[simp] theorem fmod2(n:Int):n.fmod 2=n%2:=Int.fmod_eq_emod_of_nonneg n (by decide)
noncomputable def encS:Option Nat→V
  | none=>.none
  | some n=>.str n
@[simp] theorem encS_none:encS none=.none:=rfl
@[simp] theorem encS_some{n}:encS (some n)=.str n:=rfl
noncomputable def strong (k:Nat):Option Nat:=if k=0 then some 0 else if k=1∨k=3∨k=4 then some 1 else none
theorem in34{k:Nat}:(3==k||(4==k||false))=decide (k=3∨k=4):=in2
theorem c40{d:Nat}{H:Hp}{k:Nat}:callF TB (d+1) 40 [.str k] H=some (encS (strong k),H):=by
  have e:∀ o,strong k=o→some (encS o,H)=some (encS (strong k),H):=fun o h=>by rw[h]
  refine cs_d (fun h=>e (some 0) (if_pos h)) fun h0=>cs_d (fun h=>e (some 1) ((if_neg h0).trans (if_pos (.inl h)))) fun h1=>cs_ok (fun h=>?_) fun h=>?_
  · rw[in34]at h;exact e (some 1) ((if_neg h0).trans (if_pos (.inr (of_decide_eq_true h))))
  · rw[in34]at h;exact e none ((if_neg h0).trans (if_neg fun q=>q.elim h1 (of_decide_eq_false h)))
noncomputable def emb (n:Nat):Nat:=n%2
theorem fm2(n:Nat):(n:Int).fmod 2=((n%2:Nat):Int):=Int.fmod_eq_emod_of_nonneg n (by decide)
theorem c41{d:Nat}{H:Hp}{n:Nat}:callF TB (d+1) 41 [.int n] H=some (.str (emb n),H):=by
  refine cs_ok (fun h=>?_) fun h=>?_
  · rw[show emb n=0 from Int.ofNat.inj ((fm2 n).symm.trans (eq_of_beq h))];rfl
  · rw[show emb n=1 from(Nat.mod_two_eq_zero_or_one n).elim (fun q=>absurd ((fm2 n).trans (congrArg Int.ofNat q)) (ne_of_beq_false h)) id];rfl
noncomputable def isNeu:Nat→Bool:=isIn [13,11,10,9,19,20,21,22]
noncomputable abbrev side (k:Nat):Prop:=k=0∨k=1∨k=3∨k=4
noncomputable def closed (l:List Nat):Prop:=∀ x∈l,side x∨isNeu x=true
noncomputable def st (k:Nat):Nat:=if k=0 then 0 else 1
theorem strong_side{k:Nat}(h:side k):strong k=some (st k):=by
  rcases h with rfl|rfl|rfl|rfl<;>rfl
theorem c40s{d:Nat}{H:Hp}{k:Nat}(h:side k):callF TB (d+1) 40 [.str k] H=some (.str (st k),H):=by rw[c40,strong_side h];rfl
noncomputable def neuAt (lv s e:Nat) (l:List Nat) (i:Nat):Nat:=if st ((prevN isNeu l i).getD s)=st ((nextN isNeu l i).getD e)then st ((prevN isNeu l i).getD s)else emb lv
noncomputable def neus (lv s e:Nat) (l:List Nat):List Nat:=l.mapIdx fun i x=>if isNeu x=true then neuAt lv s e l i else x
theorem getD_map{o:Option Nat}{s:Nat}:(o.map V.str).getD (.str s)=.str (o.getD s):=by cases o<;>rfl
theorem c31s{d:Nat}{H:Hp}{l:List Nat}{a b s e:Nat}(ha:a≤l.length):callF TB (d+1) 31 [.lst (l.map V.str),.int a,.int b,.str s,.str e] H=some (.tup [.str ((if a=0 then none else l[a - 1]?).getD s),.str ((l[b]?).getD e)],H):=by
  rw[c31 ha (calm_str s) (calm_str e),getD_map,getD_map]
theorem c44{d:Nat}{H:Hp}{l:List Nat}{lv s e:Nat}(hl:l.length<lim)(hc:closed l)(hs:side s)(he:side e):callF TB (d+2) 44 [.lst (l.map V.str),.int lv,.str s,.str e] H=some (.lst ((neus lv s e l).map V.str),H):=by
  have hl':l.length<100000:=hl
  have hR:=runs_ok isNeu l
  refine gl_ok (lm hl) (b2_ok (c30 (ks:=[13,11,10,9,19,20,21,22]) hl) (two_ok (vs:=(runsOf (isIn [13,11,10,9,19,20,21,22]) l).map encP) encP_all ?_))
  refine for_i encP (fun s':(V×V×V×V×V×V)×List Nat=>[V.lst (l.map V.str),.int lv,.str s,.str e,.ref 0,s'.1.1,s'.1.2.1,s'.1.2.2.1,s'.1.2.2.2.1,s'.1.2.2.2.2.1,s'.1.2.2.2.2.2]) (fun s=>[.list (s.2.map V.str)]) (fun pre s'=>Filled (neuAt lv s e l) l pre s'.2) ?_ ?_ (s:=((.undef,.undef,.undef,.undef,.undef,.undef),l)) ⟨rfl,fun i h=>h.elim fun r h=>absurd h.1 List.not_mem_nil,fun i zz=>rfl⟩
  · rintro pre r post ⟨⟨a0,b0,c0,d0,e0,f0⟩,o⟩ N hp hF kk
    have hr:stretch isNeu l r:=hR.1 r (hp▸List.mem_append_right _ (.head _))
    obtain⟨a,b⟩:=r
    have h1:a<b:=hr.1
    have h2:b≤l.length:=hr.2.1
    have cl:∀ {i x},l[i]?=some x→isNeu x=false→side x:=fun hx hn=>(hc _ (List.mem_of_getElem? hx)).elim id fun h=>absurd (hn.symm.trans h) Bool.false_ne_true
    have hu1:side ((if a=0 then none else l[a - 1]?).getD s):=by
      by_cases h0:a=0
      · rw[if_pos h0];exact hs
      · obtain⟨x,hx,hn⟩:=hr.2.2.2.1 (a - 1) (Nat.succ_pred_eq_of_ne_zero h0)
        rw[if_neg h0,hx];exact cl hx hn
    have hw1:side ((l[b]?).getD e):=by
      cases hx:l[b]? with
      | none=>exact he
      | some x=>exact cl hx (hr.2.2.2.2 x hx)
    have hG:∀ i,inP (a,b) i→neuAt lv s e l i=if st ((if a=0 then none else l[a - 1]?).getD s)=st ((l[b]?).getD e)then st ((if a=0 then none else l[a - 1]?).getD s)else emb lv:=fun i hi=>by unfold neuAt;rw[stretch_prev hr hi,stretch_next hr hi]
    have hc31:=fun H=>c31s (d:=d) (H:=H) (l:=l) (a:=a) (b:=b) (s:=s) (e:=e) (Nat.le_trans (Nat.le_of_lt h1) h2)
    revert hu1 hw1 hG hc31
    generalize (if a=0 then none else l[a - 1]?).getD s=u
    generalize (l[b]?).getD e=w
    intro hu1 hw1 hG hc31
    have tail:∀ g,(∀ i,inP (a,b) i→neuAt lv s e l i=g)→exL TB (callF TB (d+1)) [.for_ (.one 10) (.range [.var 5,.var 6]) [.assign (.item (.var 4) (.var 10)) (.var 9)]] [V.lst (l.map V.str),.int lv,.str s,.str e,.ref 0,.int a,.int b,.str u,.str w,.str g,f0] [.list (o.map V.str)] N=some (.lst ((neus lv s e l).map V.str),H):=fun g hG=>by
      refine rng_l (range_n a b (Nat.lt_trans (Nat.lt_of_lt_of_le h1 h2) hl') (Nat.lt_of_le_of_lt h2 hl') ?_)
      refine range_i (fun s':V×List Nat=>[V.lst (l.map V.str),.int lv,.str s,.str e,.ref 0,.int a,.int b,.str u,.str w,.str g,s'.1]) (fun s=>[.list (s.2.map V.str)]) (fun k s=>span o s.2 a k g) ?_ ?_ (s:=(f0,o)) span_zero
      · rintro k ⟨c,o'⟩ N hk hsp kk
        have hlt:a+k<o.length:=by rw[hF.len];exact Nat.lt_of_lt_of_le (Nat.add_lt_of_lt_sub' hk) h2
        have hl2:o'.length=o.length:=hsp.1
        refine in_at (m:=a+k) rfl (lg (hl2▸hlt)) ?_
        show N .next _ [.list (put (o'.map V.str) (a+k) (.str g))]=_
        rw[put_m]
        exact kk (.int (a+k),o'.set (a+k) g) (span_succ hsp hlt)
      · rintro⟨c,o'⟩ hsp
        refine kk ((.int a,.int b,.str u,.str w,.str g,c),o') (hF.step hsp.1 (fun i hi=>?_) fun i hi=>?_)
        · rw[hG i hi,hsp.2 i,Nat.add_sub_cancel' (Nat.le_of_lt h1)];exact if_pos hi
        · rw[hsp.2 i,Nat.add_sub_cancel' (Nat.le_of_lt h1)];exact if_neg hi
    refine b2_ok (hc31 _) ?_
    refine b2_ok (c40s hu1) ?_
    dsimp only[put,stK,nx]
    refine b2_ok (c40s hw1) ?_
    refine cs_ok (fun h=>?_) fun h=>?_
    · exact b2_ok c41 (tail _ fun i hi=>(hG i hi).trans (if_neg fun q=>by rw[q,beq_self_eq_true]at h;cases h))
    · exact tail _ fun i hi=>(hG i hi).trans (if_pos (Decidable.of_not_not fun q=>by rw[beq_eq_false_iff_ne.mpr q]at h;cases h))
  · rintro⟨u,o⟩ hF
    refine ret_str ?_
    exact congrArg (fun o:List Nat=>some (V.lst (o.map V.str),H)) (hF.done hR.1 hR.2)
noncomputable def ilv (lv k:Nat):Nat:=if lv%2=0 then lv+(if k=3∨k=4 then 2 else if k=1 then 1 else 0)else if k=1 then lv else lv+1
theorem c46{d:Nat}{H:Hp}{k lv:Nat}:callF TB (d+1) 46 [.str k,.int lv] H=some (.int (ilv lv k),H):=by
  have e:∀ n:Nat,ilv lv k=n→some (V.int n,H)=some (.int (ilv lv k),H):=fun n h=>by rw[h]
  have o:=Nat.mod_two_eq_zero_or_one lv
  refine cs_ok (fun h=>?_) fun h=>?_
  · have h:lv%2=0:=Int.ofNat.inj ((fm2 lv).symm.trans (eq_of_beq h))
    refine cs_ok (fun g=>?_) fun g=>cs_d (fun g1=>?_) fun g1=>?_
    · rw[in34]at g;exact e (lv+2) ((if_pos h).trans (congrArg _ (if_pos (of_decide_eq_true g))))
    · rw[in34]at g;exact e (lv+1) ((if_pos h).trans (congrArg _ ((if_neg (of_decide_eq_false g)).trans (if_pos g1))))
    · rw[in34]at g;exact e (lv+0) ((if_pos h).trans (congrArg _ ((if_neg (of_decide_eq_false g)).trans (if_neg g1))))
  · have h:¬lv%2=0:=fun q=>ne_of_beq_false h ((fm2 lv).trans (congrArg Int.ofNat q))
    exact cs_d (fun g=>e lv ((if_neg h).trans (if_pos g))) fun g=>e (lv+1) ((if_neg h).trans (if_neg g))
noncomputable def encN (n:Nat):V:=.int n
theorem c47{d:Nat}{H:Hp}{l:List Nat}{lv:Nat}(hl:l.length<lim):callF TB (d+2) 47 [.lst (l.map V.str),.int lv] H=some (.lst ((l.map (ilv lv)).map encN),H):=by
  refine comp_m V.str (fun k=>encN (ilv lv k)) (fun x zz K=>b2_ok c46 rfl) ?_
  refine held (fun k=>encN (ilv lv k)) (fun zz=>rfl) hl ?_
  rw[List.map_map];rfl
noncomputable def weakI (s:Nat) (l:List Nat):List Nat:=leftNums s (leftOvers (ets (seps (letters (arNums s (marks s l))))))
@[simp] theorem arNums_length{s l}:(arNums s l).length=l.length:=by simp[arNums]
@[simp] theorem leftNums_length{s l}:(leftNums s l).length=l.length:=by simp[leftNums]
@[simp] theorem letters_length{l}:(letters l).length=l.length:=by simp[letters]
@[simp] theorem leftOvers_length{l}:(leftOvers l).length=l.length:=by simp[leftOvers]
@[simp] theorem ets_length{l}:(ets l).length=l.length:=by simp[ets]
@[simp] theorem seps_length{l}:(seps l).length=l.length:=by simp[seps]
@[simp] theorem neus_length{lv s e l}:(neus lv s e l).length=l.length:=by simp[neus]
@[simp] theorem weakI_length{s l}:(weakI s l).length=l.length:=by simp[weakI]
theorem c35{d:Nat}{H:Hp}{l:List Nat}{s:Nat}(hl:l.length<lim):callF TB (d+3) 35 [.lst (l.map V.str),.str s] H=some (.lst ((weakI s l).map V.str),H):=
  have hm:(marks s l).length<lim:=by rw[marks_length];exact hl
  have ha:(arNums s (marks s l)).length<lim:=by rw[arNums_length];exact hm
  have h8:(letters (arNums s (marks s l))).length<lim:=by rw[letters_length];exact ha
  have h9:(seps (letters (arNums s (marks s l)))).length<lim:=by rw[seps_length];exact h8
  have h2:(ets (seps (letters (arNums s (marks s l))))).length<lim:=by rw[ets_length];exact h9
  b2_ok (c26 hl) (b2_ok (c27 hm) (b2_ok (c28 ha) (b2_ok (c29 h8) (b2_ok (c32 h9) (b2_ok (c33 h2) (b2_ok (c34 (by rw[leftOvers_length];exact h2)) rfl))))))
end Mine
end
section
namespace Mine
theorem take_m{α:Type}{e:α→V}{l:List α}{k:Nat}:(l.map e).take (clip (k:Int) (l.map e).length)=(l.take k).map e:=by
  rw[List.map_take]
  exact List.take_eq_take_min.symm
theorem drop_m{α:Type}{e:α→V}{l:List α}{k:Nat}(h:k≤l.length):(l.map e).drop (clip (k:Int) (l.map e).length)=(l.drop k).map e:=by
  rw[List.map_drop,show clip (k:Int) (l.map e).length=min k (l.map e).length from rfl,Nat.min_eq_left (by rw[List.length_map];exact h)]
theorem find_trk{p:Nat→Bool}{s:Nat}{l:List Nat}:(l.reverse.find? p).getD s=trk p s l:=by
  unfold trk lastD
  rw[←List.head?_filter,List.filter_reverse,List.head?_reverse]
theorem isStr_in{x:Nat}:(0==x||(1==x||(2==x||false)))=isStr x:=by
  rw[in3];unfold isStr;rw[Bool.eq_iff_iff,decide_eq_true_iff,Bool.or_eq_true,Bool.or_eq_true,beq_iff_eq,beq_iff_eq,beq_iff_eq,or_assoc]
theorem c70{d:Nat}{H:Hp}{l:List Nat}{k s:Nat}(hl:l.length<lim)(hk:k≤l.length):callF TB (d+1) 70 [.lst (l.map V.str),.int k,.str s] H=some (.str (trk isStr s (l.take k)),H):=by
  have hk':k<100000:=Nat.lt_of_le_of_lt hk hl
  refine gl_ok (lm hl) (gd_ok (small_n hk') (gl_ok (by rw[List.drop_zero,take_m];exact lm (Nat.lt_of_le_of_lt (List.length_take_le _ _) hk')) ?_))
  refine for_x V.str (l:=(l.take k).reverse) (fun u:V=>[V.lst (l.map V.str),.int k,.str s,u]) (fun zz=>[]) (fun pre zz=>pre.find? isStr=none) ?_ ?_ (s:=.undef) rfl (by rw[List.drop_zero,take_m,List.map_reverse])
  · intro pre x post u N hp hn X
    refine cs_ok (fun h=>X.ret _ _ _ ?_) fun h=>X.next (.str x) ?_
    · rw[isStr_in]at h
      rw[←find_trk,hp,List.find?_append,hn,List.find?_cons,h];rfl
    · rw[isStr_in]at h
      rw[List.find?_append,hn,List.find?_cons,h];rfl
  · intro u hn
    rw[←find_trk,hn];rfl
theorem near_far{l:List Nat}{k n m:Nat}(hk:l[k]?=some 6)(hn:n≤k)(hm:k≤m)(hml:m<l.length)(h1:∀ j,n<j→j≤k→l[j]?=some 6)(h2:∀ j,k≤j→j<m→l[j]?=some 6)(hn0:n=0∨l[n]?≠some 6)(hm0:m+1=l.length∨l[m]?≠some 6) :
    (l[n]?=some 3∨l[m]?=some 3)↔(prevN isET l k=some 3∨nextN isET l k=some 3):=by
  have hy:∀ (j x:Nat),l[j]?=some x→x≠6→∃ x,l[j]?=some x∧isET x=false:=fun j x h hx=>⟨x,h,by simp[isET,isIn,hx]⟩
  have h6:isET 6=true:=rfl
  obtain⟨x,hx⟩:=at_some (l:=l) (k:=n) (by lia)
  obtain⟨y,hy1⟩:=at_some (l:=l) (k:=m) hml
  obtain⟨a,ha⟩:∃ a,a=if x=6 then 0 else n+1:=⟨_,rfl⟩
  obtain⟨b,hb⟩:∃ b,b=if y=6 then m+1 else m:=⟨_,rfl⟩
  have hnk:x≠6→n<k:=fun h=>by
    rcases Nat.lt_or_eq_of_le hn with h'|h'
    · exact h'
    · subst h';rw[hx]at hk;cases hk;exact absurd rfl h
  have hkm:y≠6→k<m:=fun h=>by
    rcases Nat.lt_or_eq_of_le hm with h'|h'
    · exact h'
    · subst h';rw[hy1]at hk;cases hk;exact absurd rfl h
  have hak:a≤k:=by
    by_cases h:x=6
    · rw[if_pos h]at ha;lia
    · rw[if_neg h]at ha;have:=hnk h;lia
  have hbk:k<b:=by
    by_cases h:y=6
    · rw[if_pos h]at hb;lia
    · rw[if_neg h]at hb;have:=hkm h;lia
  have hbl:b≤l.length:=by
    by_cases h:y=6
    · rw[if_pos h]at hb;lia
    · rw[if_neg h]at hb;lia
  have hs:stretch isET l (a,b):=by
    refine⟨by simp only;lia,hbl,?_,?_,?_⟩
    · intro j hj1 hj2
      simp only at hj1 hj2
      refine⟨6,?_,h6⟩
      by_cases hj:j≤k
      · by_cases hjn:n<j
        · exact h1 j hjn hj
        · by_cases hx6:x=6
          · rw[hx]at hn0;subst hx6
            have:n=0:=by rcases hn0 with h|h;exact h;exact absurd rfl h
            have:j=n:=by lia
            rw[this];exact hx
          · rw[if_neg hx6]at ha;lia
      · by_cases hjm:j<m
        · exact h2 j (by lia) hjm
        · by_cases hy6:y=6
          · rw[if_pos hy6]at hb
            have:j=m:=by lia
            rw[this,hy1,hy6]
          · rw[if_neg hy6]at hb;lia
    · intro j hj
      simp only at hj
      by_cases hx6:x=6
      · rw[if_pos hx6]at ha;lia
      · rw[if_neg hx6]at ha
        have:j=n:=by lia
        rw[this];exact hy n x hx hx6
    · intro z hz
      simp only at hz
      by_cases hy6:y=6
      · rw[if_pos hy6]at hb
        rw[hy1]at hm0;subst hy6
        have:m+1=l.length:=by rcases hm0 with h|h;exact h;exact absurd rfl h
        rw[hb,this]at hz;simp at hz
      · rw[if_neg hy6]at hb
        rw[hb,hy1]at hz;cases hz;simp[isET,isIn,hy6]
  have hi:inP (a,b) k:=⟨hak,hbk⟩
  rw[stretch_prev hs hi,stretch_next hs hi,hx,hy1]
  have e1:(some x=some 3)↔((if a=0 then none else l[a - 1]?)=some 3):=by
    by_cases hx6:x=6
    · rw[if_pos hx6]at ha;rw[ha];simp[hx6]
    · rw[if_neg hx6]at ha;rw[ha];simp[hx]
  have e2:(some y=some 3)↔(l[b]?=some 3):=by
    by_cases hy6:y=6
    · rw[if_pos hy6]at hb
      rw[hy1]at hm0;subst hy6
      have:m+1=l.length:=by rcases hm0 with h|h;exact h;exact absurd rfl h
      rw[hb,this];simp
    · rw[if_neg hy6]at hb;rw[hb,hy1]
  simp only at e1 e2 ⊢
  rw[e1,e2]
end Mine
end
section
namespace Mine
theorem all_of_set{l:List Nat}{k v:Nat}{Q:Nat→Prop}(h:∀ x∈l,Q x)(hv:Q v):∀ x∈l.set k v,Q x:=by
  intro x hx
  rcases List.mem_or_eq_of_mem_set hx with h1|rfl
  · exact h x h1
  · exact hv
theorem lastD_all{s:Nat}{l:List Nat}{Q:Nat→Prop}(h:∀ x∈l,Q x)(hs:Q s):Q (lastD s l):=by
  unfold lastD
  cases hl:l.getLast? with
  | none=>exact hs
  | some y=>exact h y (List.mem_of_getLast? hl)
theorem snoc_ind{α:Type}{P:List α→Prop}(h0:P [])(h1:∀ l x,P l→P (l++[x]))(l:List α):P l:=by
  rw[←List.reverse_reverse l]
  induction l.reverse with
  | nil=>exact h0
  | cons x l ih=>rw[List.reverse_cons];exact h1 _ _ ih
theorem marks_all{s:Nat}{l:List Nat}{Q:Nat→Prop}(h:∀ x∈l,x=8∨Q x)(hs:Q s)(h9:Q 9):∀ x∈marks s l,Q x:=by
  revert h
  refine snoc_ind (P:=fun l=>(∀ x∈l,x=8∨Q x)→∀ x∈marks s l,Q x) ?_ ?_ l
  · intro _ x hx;simp[marks]at hx
  · intro l y ih h x hx
    have ih:=ih fun x hx=>h x (by simp[hx])
    rw[marks_snoc]at hx
    rcases List.mem_append.1 hx with hx|hx
    · exact ih x hx
    · simp only[List.mem_singleton]at hx
      subst hx
      unfold mark
      split
      · split
        · exact h9
        · exact lastD_all ih hs
      · rcases h y (by simp)with h1|h1
        · contradiction
        · exact h1
theorem mapPre_all{g:List Nat→Nat→Nat}{Q:Nat→Prop}:∀ (l p:List Nat),(∀ x∈l,∀ p,Q (g p x))→∀ x∈mapPre g p l,Q x:=by
  intro l
  induction l with
  | nil=>intro p _ x hx;simp[mapPre]at hx
  | cons a l ih=>
    intro p h x hx
    simp only[mapPre,List.mem_cons]at hx
    rcases hx with rfl|hx
    · exact h a (by simp) p
    · exact ih _ (fun x hx p=>h x (by simp[hx]) p) x hx
theorem seps_all{l:List Nat}{Q:Nat→Prop}(h:∀ x∈l,Q x):∀ x∈seps l,Q x:=by
  unfold seps
  generalize l.length - 2=n
  induction n with
  | zero=>exact h
  | succ n ih=>
    rw[fillS_succ]
    cases hc:sepC l n with
    | none=>exact ih
    | some v=>
      simp only[hc]
      refine all_of_set ih ?_
      unfold sepC at hc
      split at hc
      · exact h v (List.mem_of_getElem? hc)
      · cases hc
theorem ets_all{l:List Nat}{Q:Nat→Prop}(h:∀ x∈l,Q x)(h3:Q 3):∀ x∈ets l,Q x:=by
  intro x hx
  unfold ets at hx
  rw[List.mem_mapIdx]at hx
  obtain⟨i,hi,rfl⟩:=hx
  have:=h l[i] (List.getElem_mem hi)
  split
  · rename_i h6
    unfold etAt
    split
    · exact h3
    · have:l[i]=6:=by simpa [isET,isIn]using h6
      rw[←this];assumption
  · exact this
noncomputable def rowK (k:Nat):Prop:=k≤11∨k=13∨(19≤k∧k≤22)
noncomputable def q0 (k:Nat):Prop:=k≤7∨isNeu k=true
theorem rowK_q0{k:Nat}(h:rowK k):k=8∨q0 k:=by
  rcases h with h|rfl|⟨h1,h2⟩
  · by_cases h8:k=8
    · exact Or.inl h8
    · right
      by_cases h7:k≤7
      · exact Or.inl h7
      · right
        obtain rfl|rfl|rfl:k=9∨k=10∨k=11:=by lia
        all_goals rfl
  · exact Or.inr (Or.inr rfl)
  · right;right
    obtain rfl|rfl|rfl|rfl:k=19∨k=20∨k=21∨k=22:=by lia
    all_goals rfl
noncomputable def weakA (s:Nat) (l:List Nat):List Nat:=ets (seps (letters (arNums s (marks s l))))
theorem weakA_q{s:Nat}{l:List Nat}(hs:side s)(h:∀ x∈l,rowK x):∀ x∈weakA s l,q0 x∧x≠2:=by
  unfold weakA
  refine ets_all (seps_all ?_) ⟨Or.inl (by decide),by decide⟩
  intro x hx
  unfold letters at hx
  rw[List.mem_map]at hx
  obtain⟨y,hy,rfl⟩:=hx
  have:q0 y:=by
    refine mapPre_all (Q:=q0) _ _ ?_ y hy
    intro z hz p
    have hz:=marks_all (Q:=q0) (fun x hx=>rowK_q0 (h x hx)) (by rcases hs with rfl|rfl|rfl|rfl<;>exact Or.inl (by decide)) (Or.inr rfl) z hz
    unfold arNum
    split
    · exact Or.inl (by decide)
    · exact hz
  split
  · exact⟨Or.inl (by decide),by decide⟩
  · exact⟨this,by assumption⟩
theorem weakB_q{s:Nat}{l:List Nat}(hs:side s)(h:∀ x∈l,rowK x):closed (leftOvers (weakA s l)):=by
  intro x hx
  unfold leftOvers at hx
  rw[List.mem_map]at hx
  obtain⟨y,hy,rfl⟩:=hx
  obtain⟨h1,h2⟩:=weakA_q hs h y hy
  split
  · exact Or.inr rfl
  · rcases h1 with h1|h1
    · left;unfold side;lia
    · exact Or.inr h1
theorem weak_closed{s:Nat}{l:List Nat}(hs:side s)(h:∀ x∈l,rowK x):closed (weakI s l):=by
  show closed (leftNums s (leftOvers (weakA s l)))
  unfold closed leftNums
  refine mapPre_all (Q:=fun x=>side x∨isNeu x=true) _ _ ?_
  intro x hx p
  unfold lNum
  split
  · exact Or.inl (Or.inl rfl)
  · exact weakB_q hs h x hx
theorem lNum_str{s:Nat}{l:List Nat}(h:∀ x∈l,x≠2):mapPre (fun p x=>if x=3∧trk isStr s p=0 then 0 else x) [] l=leftNums s l:=by
  refine mapPre_congr _ _ ?_
  intro q x r hq _
  unfold lNum
  have:trk isStr s q=trk isLR s q:=by
    unfold trk
    congr 1
    apply List.filter_congr
    intro y hy
    have:y≠2:=h y (by rw[show l=q++x::r from hq];simp[hy])
    simp[isStr,isLR,this]
  rw[this]
noncomputable def etsTo (k:Nat) (l:List Nat):List Nat:=l.mapIdx fun i x=>if i<k∧isET x=true then etAt l i else x
theorem etsTo_zero{l}:etsTo 0 l=l:=by
  apply List.ext_getElem?;intro i;unfold etsTo;rw[List.getElem?_mapIdx];cases l[i]?<;>simp
theorem etsTo_end{l}:etsTo l.length l=ets l:=by
  apply List.ext_getElem?;intro i;unfold etsTo ets;rw[List.getElem?_mapIdx,List.getElem?_mapIdx]
  cases h:l[i]? with
  | none=>rfl
  | some x=>
    have:=(List.getElem?_eq_some_iff.1 h).1
    simp[this]
@[simp] theorem etsTo_length{k l}:(etsTo k l).length=l.length:=by simp[etsTo]
theorem etsTo_not{k x:Nat}{l:List Nat}(h:l[k]?=some x)(hx:x≠6):etsTo (k+1) l=etsTo k l:=by
  apply List.ext_getElem?;intro i;unfold etsTo;rw[List.getElem?_mapIdx,List.getElem?_mapIdx]
  by_cases hi:i=k
  · subst hi;rw[h];simp[isET,isIn,hx]
  · have:i<k+1↔i<k:=by lia
    simp only[this]
theorem etsTo_set{k:Nat}{l:List Nat}(h:l[k]?=some 6):etsTo (k+1) l=(etsTo k l).set k (etAt l k):=by
  have hk:=(List.getElem?_eq_some_iff.1 h).1
  apply List.ext_getElem?;intro i;rw[List.getElem?_set];unfold etsTo;rw[List.getElem?_mapIdx]
  by_cases hi:k=i
  · subst hi;rw[h];simp[isET,isIn,hk]
  · have:i<k+1↔i<k:=by lia
    rw[if_neg hi,List.getElem?_mapIdx]
    simp only[this]
theorem or_t'{a b:Bool}(h:(a||b)=true):a=true∨b=true:=(Bool.or_eq_true _ _).mp h
theorem two_b{x y a b:Nat}(h:(a==y&&(b==x&&true))=true):y=a∧x=b:=by
  have h:=(Bool.and_eq_true _ _).mp h
  exact⟨(eq_of_beq h.1).symm,(eq_of_beq ((Bool.and_eq_true _ _).mp h.2).1).symm⟩
theorem sep_in{x y:Nat}:((5==y&&(3==x&&true))||((7==y&&(3==x&&true))||((7==y&&(4==x&&true))||false)))=decide (y=7∧(x=3∨x=4)∨y=5∧x=3):=by
  rw[Bool.eq_iff_iff,decide_eq_true_iff]
  refine⟨fun h=>(or_t' h).elim (fun h=>.inr (two_b h)) fun h=>.inl ((or_t' h).elim (fun h=>(two_b h).imp id .inl) fun h=>(or_t' h).elim (fun h=>(two_b h).imp id .inr) fun h=>by cases h),?_⟩
  rintro(⟨rfl,rfl|rfl⟩|⟨rfl,rfl⟩)<;>rfl
noncomputable def etS:List St:=[.unpack [.var 6,.var 7] (.tup [.var 4,.var 4]),.whil (.and [.cmp .Gt (.var 6) (.int 0),.cmp .Eq (.item (.var 2) (.var 6)) (.str 6)]) [.assign (.var 6) (.bin .sub (.var 6) (.int 1))],.whil (.and [.cmp .Lt (.var 7) (.bin .sub (.bi .len false [.var 2]) (.int 1)),.cmp .Eq (.item (.var 2) (.var 7)) (.str 6)]) [.assign (.var 7) (.bin .add (.var 7) (.int 1))],.assign (.item (.var 5) (.var 4)) (.ite (.cmp .In (.str 3) (.tup [.item (.var 2) (.var 6),.item (.var 2) (.var 7)])) (.str 3) (.str 6))]
theorem etLoop{C:Orc}{a b w n0 m0:V}{F:O}{o B:List Nat}{k:Nat}{N:KF}{r:Rs}(hl:B.length<900)(hx:B[k]?=some 6)(ho:o.length=B.length)
    (kk:∀ n m:V,N .next [a,b,.ref 1,w,.int k,.ref 2,n,m] [F,.list (B.map V.str),.list ((o.set k (etAt B k)).map V.str)]=r) :
    exL TB C etS [a,b,.ref 1,w,.int k,.ref 2,n0,m0] [F,.list (B.map V.str),.list (o.map V.str)] N=r:=by
  have hk:k<B.length:=(List.getElem?_eq_some_iff.1 hx).1
  have fin:∀ n m:Nat,n≤k→(∀ j,n<j→j≤k→B[j]?=some 6)→(n=0∨B[n]?≠some 6)→k≤m→m<B.length→(∀ j,k≤j→j<m→B[j]?=some 6)→(m+1=B.length∨B[m]?≠some 6)→
      exL TB C (etS.drop 3) [a,b,.ref 1,w,.int k,.ref 2,.int n,.int m] [F,.list (B.map V.str),.list (o.map V.str)] N=r:=fun n m hn hn6 hn0 hm hml hm6 hm0=>by
    have hnf:=near_far hx hn hm hml hn6 hm6 hn0 hm0
    obtain⟨x,hx1⟩:=at_some (l:=B) (k:=n) (Nat.lt_of_le_of_lt hn hk)
    obtain⟨y,hy1⟩:=at_some (l:=B) (k:=m) hml
    rw[hx1,hy1,Option.some.injEq,Option.some.injEq]at hnf
    have put':∀ v:Nat,etAt B k=v→gd (decide (0≤(k:Int))&&decide ((k:Int)<(o.map V.str).length)) (N .next [a,b,.ref 1,w,.int k,.ref 2,.int n,.int m] [F,.list (B.map V.str),.list (put (o.map V.str) k (.str v))])=r:=fun v h=>in_at rfl (lg (ho▸hk)) (by rw[put_m];exact h▸kk (.int n) (.int m))
    refine bd_ok (at_m hx1 rfl) (bd_ok (at_m hy1 rfl) (cs_ok (fun h=>put' 3 (if_pos (hnf.mp ?_))) fun h=>put' 6 (if_neg fun q=>?_)))
    · exact(or_t' h).imp (fun h=>eq_of_beq h) fun h=>eq_of_beq ((Bool.or_false _).symm.trans h)
    · have h:=(Bool.or_eq_false_iff.mp h)
      exact(hnf.mpr q).elim (ne_of_beq_false h.1) (ne_of_beq_false ((Bool.or_false _).symm.trans h.2))
  show exL TB C (etS.drop 1) [a,b,.ref 1,w,.int k,.ref 2,.int k,.int k] [F,.list (B.map V.str),.list (o.map V.str)] N=r
  refine whil_l (s:=etS.drop 2) ?_
  refine while_x (fun n:Nat=>[a,b,.ref 1,w,.int k,.ref 2,.int n,.int k]) (fun zz=>[F,.list (B.map V.str),.list (o.map V.str)]) (fun m n=>m=n∧n≤k∧(∀ j,n<j→j≤k→B[j]?=some 6)) ?_ (n:=turns) (m:=k) (Nat.lt_trans hk (Nat.lt_trans hl (by rw[turns_is];decide))) (s:=k) ⟨rfl,Nat.le_refl _,fun j h1 h2=>absurd h1 (Nat.not_lt.mpr h2)⟩
  rintro n _ N1 ⟨rfl,hn,hn6⟩ X
  have w2:(n=0∨B[n]?≠some 6)→exL TB C (etS.drop 2) [a,b,.ref 1,w,.int k,.ref 2,.int n,.int k] [F,.list (B.map V.str),.list (o.map V.str)] N=r:=fun hn0=>by
    refine whil_l (s:=etS.drop 3) ?_
    refine while_x (fun m:Nat=>[a,b,.ref 1,w,.int k,.ref 2,.int n,.int m]) (fun zz=>[F,.list (B.map V.str),.list (o.map V.str)]) (fun q m=>q+m=B.length∧k≤m∧m<B.length∧(∀ j,k≤j→j<m→B[j]?=some 6)) ?_ (n:=turns) (m:=B.length - k) (Nat.lt_of_le_of_lt (Nat.sub_le _ _) (Nat.lt_trans hl (by rw[turns_is];decide))) (s:=k) ⟨Nat.sub_add_cancel (Nat.le_of_lt hk),Nat.le_refl _,hk,fun j h1 h2=>absurd h2 (Nat.not_lt.mpr h1)⟩
    rintro q m N2 ⟨hq,hm,hml,hm6⟩ X2
    obtain⟨y,hy⟩:=at_some hml
    refine cs_d (fun h=>?_) fun h=>fin n m hn hn6 hn0 hm hml hm6 (.inl ?_)
    · refine bd_ok (at_m hy rfl) (cs_d (fun h6=>?_) fun h6=>fin n m hn hn6 hn0 hm hml hm6 (.inr fun e=>h6 (Option.some.inj (hy.symm.trans e))))
      rw[List.length_map]at h
      have h:(m:Int)+1<B.length:=Int.add_lt_of_lt_sub_right h
      have h:m+1<B.length:=Int.ofNat_lt.mp h
      subst h6
      exact X2.next (m+1) ⟨q - 1,by omega,by omega,Nat.le_succ_of_le hm,h,fun j h1 h2=>(Nat.lt_or_eq_of_le (Nat.le_of_lt_succ h2)).elim (hm6 j h1) fun e=>e▸hy⟩
    · rw[List.length_map]at h
      omega
  obtain⟨y,hy⟩:=at_some (l:=B) (k:=n) (Nat.lt_of_le_of_lt hn hk)
  refine cs_d (fun h=>?_) fun h=>w2 (.inl (Nat.eq_zero_of_not_pos fun q=>h (Int.ofNat_lt.mpr q)))
  refine bd_ok (at_m hy rfl) (cs_d (fun h6=>?_) fun h6=>w2 (.inr fun e=>h6 (Option.some.inj (hy.symm.trans e))))
  subst h6
  cases n with
  | zero=>exact absurd h (Int.lt_irrefl 0)
  | succ n=>
    have e:((n+1:Nat):Int) - 1=n:=Int.add_sub_cancel (n:Int) 1
    show N1 .next [a,b,.ref 1,w,.int k,.ref 2,.int (((n+1:Nat):Int) - 1),.int k] _=_
    rw[e]
    exact X.next n ⟨n,Nat.lt_succ_self n,rfl,Nat.le_of_succ_le hn,fun j h1 h2=>(Nat.lt_or_eq_of_le h1).elim (fun h=>hn6 j h h2) fun e=>e▸hy⟩
theorem c71{d:Nat}{H:Hp}{l:List Nat}{s:Nat}(hl:l.length<900)(hs:s=0∨s=1)(hr:∀ x∈l,rowK x):callF TB (d+2) 71 [.lst (l.map V.str),.str s] H=some (.lst ((weakI s l).map V.str),H):=by
  have hl2:l.length<lim:=Nat.lt_trans hl (by rw[show lim=100000 from rfl];decide)
  have hss:side s:=hs.elim .inl fun h=>.inr (.inl h)
  refine for_x V.str (l:=l) (fun u:V×List Nat=>[V.lst (l.map V.str),.str s,.ref 0,u.1,.undef,.undef,.undef,.undef]) (fun u=>[.list (u.2.map V.str)]) (fun pre u=>u.2=marks s pre) ?_ ?_ (s:=(.undef,[])) rfl rfl
  · rintro pre x post ⟨w,q⟩ N hp (rfl:q=marks s pre) X
    have hb:(marks s pre).length<lim:=by rw[marks_length];exact Nat.lt_of_le_of_lt (by rw[hp,List.length_append];exact Nat.le_add_right _ _) hl2
    have e:∀ y,mark (lastD s (marks s pre)) x=y→gd (decide (((marks s pre).map V.str).length<lim)) (N .next [V.lst (l.map V.str),.str s,.ref 0,.str y,.undef,.undef,.undef,.undef] [.list ((marks s pre).map V.str++[.str y])])=some (.lst ((weakI s l).map V.str),H):=fun y h=>gl_ok (lm hb) (by
      rw[app_m];exact X.next (.str y,marks s pre++[y]) (by rw[marks_snoc,h]))
    refine cs_d (fun h8=>?_) fun h8=>e x (if_neg h8)
    refine bd_ok eqV_nil ?_
    revert e
    rcases List.eq_nil_or_concat (marks s pre)with hq|⟨q,y,hq⟩
    · rw[hq]
      intro e
      exact e s ((if_pos h8).trans (if_neg fun q:isoSign s=>by rcases hs with rfl|rfl<;>revert q<;>decide))
    · rw[hq,List.concat_eq_append,lastD_snoc]
      intro e
      refine cs_f (by rw[List.map_append];cases q<;>rfl) (bd_ok at_end (cs_ok (fun h=>?_) fun h=>bd_ok at_end ?_))
      · rw[in4]at h;exact e 9 ((if_pos h8).trans (if_pos (of_decide_eq_true h)))
      · rw[in4]at h;exact e y ((if_pos h8).trans (if_neg (of_decide_eq_false h)))
  rintro⟨w,q⟩ (rfl:q=marks s l)
  refine ret_str ?_
  have hml:(marks s l).length<lim:=by rw[marks_length];exact hl2
  refine comp_en V.str V.str (arNum s) (fun pre x post K hp=>?_) ?_
  · replace hp:marks s l=pre++x::post:=hp
    have ht:(marks s l).take pre.length=pre:=by rw[hp,List.take_left]
    have hk:pre.length≤(marks s l).length:=by rw[hp,List.length_append];exact Nat.le_add_right _ _
    have e:∀ y,arNum s pre x=y→K (some (.str y)) [.frz (.lst ((marks s l).map V.str))]=K (some (.str (arNum s pre x))) [.frz (.lst ((marks s l).map V.str))]:=fun y h=>by rw[h]
    refine cs_d (fun h3=>b2_ok (c70 hml hk) (cs_d (fun h4=>e 4 (if_pos ⟨h3,ht▸h4⟩)) fun h4=>e x (if_neg fun q=>h4 (ht.symm▸q.2)))) fun h3=>e x (if_neg fun q=>h3 q.1)
  have hal:(arNums s (marks s l)).length<lim:=by rw[arNums_length];exact hml
  refine held V.str (fun zz=>rfl) hal ?_
  refine comp_u V.str (fun k=>V.str (if k=2 then 1 else k)) (us:=(letters (arNums s (marks s l))).map V.str) (by unfold letters;rw[List.map_map];rfl) (fun x zz K=>cs_d (fun h=>by rw[if_pos h];rfl) fun h=>by rw[if_neg h];rfl) ?_
  have hAl:(letters (arNums s (marks s l))).length=l.length:=by rw[letters_length,arNums_length,marks_length]
  have hfin:∀ A,letters (arNums s (marks s l))=A→leftNums s (leftOvers (ets (seps A)))=weakI s l:=fun A h=>by rw[←h];rfl
  have hEA:∀ A,letters (arNums s (marks s l))=A→ets (seps A)=weakA s l:=fun A h=>by rw[←h];rfl
  generalize letters (arNums s (marks s l))=A at hAl hfin hEA
  have hfin:=hfin A rfl
  have hEA:=hEA A rfl
  have hAL:A.length<lim:=hAl.symm▸hl2
  have hAL':A.length<900:=hAl.symm▸hl
  refine held V.str (fun zz=>rfl) hAL (gl_ok (lm hAL) ?_)
  have seq:∀ w c,exL TB (callF TB (d+1)) (fn71.body.drop 6) [V.lst (l.map V.str),.str s,.ref 1,w,c,.lst (A.map V.str),.undef,.undef] [.frz (.lst ((marks s l).map V.str)),.list ((seps A).map V.str)] (fun fl zz H1=>outK fl H1 fun v H2=>frzK v H2 fun u zz=>some (u,H))=some (.lst ((weakI s l).map V.str),H):=fun w c=>by
    have hBl:(seps A).length=l.length:=by rw[seps_length];exact hAl
    generalize seps A=B at hBl hfin hEA
    have hBL:B.length<lim:=hBl.symm▸hl2
    refine gl_ok (lm hBL) ?_
    show exL TB (callF TB (d+1)) (fn71.body.drop 7) [V.lst (l.map V.str),.str s,.ref 1,w,c,.ref 2,.undef,.undef] [.frz (.lst ((marks s l).map V.str)),.list (B.map V.str),.list (B.map V.str)] (fun fl zz H1=>outK fl H1 fun v H2=>frzK v H2 fun u zz=>some (u,H))=_
    refine rng_1 (s:=fn71.body.drop 8) (range_z _ (lm hBL) ?_)
    rw[List.length_map]
    refine range_0 (fun u:V×V×V=>[V.lst (l.map V.str),.str s,.ref 1,w,u.1,.ref 2,u.2.1,u.2.2]) (fun k=>[.frz (.lst ((marks s l).map V.str)),.list (B.map V.str),.list ((etsTo k B).map V.str)]) ?_ ?_ (u:=(c,.undef,.undef)) (by rw[etsTo_zero])
    · rintro k ⟨c,n0,m0⟩ N hk kk
      obtain⟨x,hx⟩:=at_some hk
      refine bd_ok (at_m hx rfl) (cs_d (fun h6=>?_) fun h6=>?_)
      · subst h6
        refine etLoop (hBl.symm▸hl) hx etsTo_length fun n m=>?_
        rw[←etsTo_set hx]
        exact kk (.int k,n,m)
      · rw[etsTo_not hx h6]at kk
        exact kk (.int k,n0,m0)
    · rintro⟨c,n0,m0⟩
      rw[etsTo_end]
      have hEL:(ets B).length<lim:=by rw[ets_length];exact hBL
      refine ret_i rfl ?_
      refine comp_u V.str (fun k=>V.str (if k=5∨k=6∨k=7 then 9 else k)) (us:=(leftOvers (ets B)).map V.str) (by unfold leftOvers;rw[List.map_map];rfl) (fun x zz K=>cs_ok (fun h=>?_) fun h=>?_) ?_
      · rw[in3]at h;rw[if_pos (of_decide_eq_true h)];rfl
      · rw[in3]at h;rw[if_neg (of_decide_eq_false h)];rfl
      have hDL:(leftOvers (ets B)).length<lim:=by rw[leftOvers_length];exact hEL
      have hD2:∀ x∈leftOvers (ets B),x≠2:=fun x hx=>by
        rw[hEA]at hx
        rcases weakB_q hss hr x hx with h|h
        · rintro rfl;revert h;decide
        · rintro rfl;cases h
      rw[←lNum_str hD2]at hfin
      generalize leftOvers (ets B)=D at hDL hfin
      refine held V.str (fun zz=>rfl) hDL ?_
      refine comp_en V.str V.str (fun p x=>if x=3∧trk isStr s p=0 then 0 else x) (fun pre x post K hp=>?_) ?_
      · have ht:D.take pre.length=pre:=by rw[hp,List.take_left]
        have hk:pre.length≤D.length:=by rw[hp,List.length_append];exact Nat.le_add_right _ _
        refine cs_d (fun h3=>b2_ok (c70 hDL hk) (cs_d (fun h4=>?_) fun h4=>?_)) fun h3=>?_
        · rw[ht]at h4;rw[if_pos ⟨h3,h4⟩];rfl
        · rw[ht]at h4;rw[if_neg fun q=>h4 q.2];rfl
        · rw[if_neg fun q=>h3 q.1];rfl
      · refine held V.str (fun zz=>rfl) (by rw[mapPre_length];exact hDL) ?_
        rw[hfin];rfl
  refine range_d (n:=A.length - 2) (fun k (u:V)=>[V.lst (l.map V.str),.str s,.ref 1,w,u,.lst (A.map V.str),.undef,.undef]) (fun k zz=>[.frz (.lst ((marks s l).map V.str)),.list ((fillS (sepC A) k A).map V.str)]) (u:=.undef) ?_ ?_ ?_ ?_ ?_
  · rw[List.length_map];exact rd_1
  · rw[List.length_map];exact rd_2 hAL
  · rw[List.length_map];exact rd_3 hAL
  · intro k u K hk kk
    obtain⟨x,hx⟩:=at_some (rd_k hk).1
    obtain⟨y,hy⟩:=at_some (rd_k hk).2.1
    obtain⟨z,hz⟩:=at_some (rd_k hk).2.2
    have no:sepC A k=none→K .next [V.lst (l.map V.str),.str s,.ref 1,w,.int (1+k),.lst (A.map V.str),.undef,.undef] [.frz (.lst ((marks s l).map V.str)),.list ((fillS (sepC A) k A).map V.str)]=some (.lst ((weakI s l).map V.str),H):=fun h=>by
      rw[fillS_succ,h]at kk;exact kk (.int (1+k))
    have yes:sepC A k=some x→gd (decide (0≤1+(k:Int))&&decide (1+(k:Int)<((fillS (sepC A) k A).map V.str).length)) (K .next [V.lst (l.map V.str),.str s,.ref 1,w,.int (1+k),.lst (A.map V.str),.undef,.undef] [.frz (.lst ((marks s l).map V.str)),.list (put ((fillS (sepC A) k A).map V.str) (1+(k:Int)).toNat (.str x))])=some (.lst ((weakI s l).map V.str),H):=fun h=>by
      rw[fillS_succ,h]at kk
      refine in_at (m:=k+1) p1a (lg (fillS_length.symm▸(rd_k hk).2.1)) ?_
      rw[put_m,p1]
      exact kk (.int (1+k))
    unfold sepC at no yes
    rw[hx,hy,hz]at no yes
    refine bd_ok (at_m hx p1s) (bd_ok (at_m hz p1p) (cs_d (fun h=>?_) fun h=>no (if_neg fun q=>h (Option.some.inj q.1))))
    subst h
    refine bd_ok (at_m hy p1a) (bd_ok (at_m hx p1s) (cs_ok (fun h=>bd_ok (at_m hx p1s) (yes ?_)) fun h=>no ?_))
    · have h:=(sep_in (x:=x) (y:=y)).symm.trans h
      exact if_pos ⟨rfl,(of_decide_eq_true h).imp (fun q=>⟨congrArg some q.1,q.2.imp (congrArg some) (congrArg some)⟩) fun q=>⟨congrArg some q.1,congrArg some q.2⟩⟩
    · have h:=(sep_in (x:=x) (y:=y)).symm.trans h
      exact if_neg fun q=>of_decide_eq_false h (q.2.imp (fun q=>⟨Option.some.inj q.1,q.2.imp Option.some.inj Option.some.inj⟩) fun q=>⟨Option.some.inj q.1,Option.some.inj q.2⟩)
  · exact fun u=>seq w u
end Mine
end
section
namespace Mine
noncomputable def notSide (k:Nat):Bool:=!decide (side k)
theorem neu_side{l:List Nat}(hc:closed l):∀ x∈l,isNeu x=notSide x:=by
  intro x hx
  unfold notSide
  rcases hc x hx with h|h
  · rw[decide_eq_true h];rcases h with rfl|rfl|rfl|rfl<;>rfl
  · have:¬side x:=by rintro(rfl|rfl|rfl|rfl)<;>revert h<;>decide
    rw[decide_eq_false this,h];rfl
theorem prev_side{l:List Nat}(hc:closed l)(i:Nat):prevN isNeu l i=((l.take i).filter (decide<|side ·)).getLast?:=by
  unfold prevN;congr 1;apply List.filter_congr;intro x hx
  rw[neu_side hc x (List.mem_of_mem_take hx)];simp[notSide]
theorem next_side{l:List Nat}(hc:closed l)(i:Nat):nextN isNeu l i=((l.drop i).filter (decide<|side ·)).head?:=by
  unfold nextN;congr 1;apply List.filter_congr;intro x hx
  rw[neu_side hc x (List.mem_of_mem_drop hx)];simp[notSide]
noncomputable def sd:O:=.dict [.str 0,.str 1,.str 3,.str 4] [.str 0,.str 1,.str 1,.str 1]
theorem look_sd(x:Nat):look (.str x) [.str 0,.str 1,.str 3,.str 4] [.str 0,.str 1,.str 1,.str 1]=if side x then some (.str (st x))else none:=by
  have hk:∀ a b:Nat,keyEq (.str a) (.str b)=(a==b):=fun zz zz=>rfl
  unfold look;rw[hk];unfold look;rw[hk];unfold look;rw[hk];unfold look;rw[hk];unfold look
  by_cases h0:x=0
  · subst h0;rfl
  · by_cases h1:x=1
    · subst h1;rfl
    · by_cases h3:x=3
      · subst h3;rfl
      · by_cases h4:x=4
        · subst h4;rfl
        · rw[beq_false_of_ne h0,beq_false_of_ne h1,beq_false_of_ne h3,beq_false_of_ne h4,if_neg (by rintro(h|h|h|h)<;>contradiction)];rfl
theorem look_iv(x:Nat):look (.str x) [.str 0,.str 1,.str 3,.str 4] [.int 0,.int 1,.int 2,.int 2]=if side x then some (.int (if x=0 then 0 else if x=1 then 1 else 2))else none:=by
  have hk:∀ a b:Nat,keyEq (.str a) (.str b)=(a==b):=fun zz zz=>rfl
  unfold look;rw[hk];unfold look;rw[hk];unfold look;rw[hk];unfold look;rw[hk];unfold look
  by_cases h0:x=0
  · subst h0;rfl
  · by_cases h1:x=1
    · subst h1;rfl
    · by_cases h3:x=3
      · subst h3;rfl
      · by_cases h4:x=4
        · subst h4;rfl
        · rw[beq_false_of_ne h0,beq_false_of_ne h1,beq_false_of_ne h3,beq_false_of_ne h4,if_neg (by rintro(h|h|h|h)<;>contradiction)];rfl
theorem chr_LR(n:Nat):TB.chr 77 (n%2)=some (n%2):=by
  obtain h|h:n%2=0∨n%2=1:=by lia
  · rw[h];rfl
  · rw[h];rfl
noncomputable def rowLv (lv s e:Nat) (l:List Nat):List Nat:=(neus lv s e l).map (ilv lv)
noncomputable def lvAt (lv s e:Nat) (l:List Nat) (i x:Nat):Nat:=ilv lv (if isNeu x=true then neuAt lv s e l i else x)
theorem rowLv_eq{lv s e l}:rowLv lv s e l=l.mapIdx (lvAt lv s e l):=by
  apply List.ext_getElem?;intro i
  unfold rowLv neus lvAt
  rw[List.getElem?_map,List.getElem?_mapIdx,List.getElem?_mapIdx]
  cases l[i]?<;>rfl
noncomputable def rowLoc (l:List Nat) (lv s e:Nat) (a b c c2 c3 f:V):List V:=[V.lst (l.map V.str),.int lv,.str s,.str e,.ref 0,.ref 1,a,b,c,c2,c3,f]
theorem look_in(y:Nat):(look (.str y) [.str 0,.str 1,.str 3,.str 4] [.str 0,.str 1,.str 1,.str 1]).isSome=decide (side y):=by
  rw[look_sd]
  by_cases h:side y
  · rw[if_pos h,decide_eq_true h];rfl
  · rw[if_neg h,decide_eq_false h];rfl
theorem ilv_e{lv y:Nat}(h:lv%2=0):lv+(if y=0 then 0 else if y=1 then 1 else 2)=ilv lv y∨¬side y:=by
  refine Classical.or_iff_not_imp_right.mpr fun hy=>?_
  unfold ilv
  rw[if_pos h]
  rcases Classical.not_not.mp hy with rfl|rfl|rfl|rfl<;>rfl
theorem rowTail{d:Nat}{l Q:List Nat}{lv s e y:Nat}{a c c2 c3 f:V}{N:KF}{r:Rs}(hy:side y)(hQ:Q.length<lim)
    (kk:N .next (rowLoc l lv s e a (.str y) c c2 c3 f) [sd,.list ((Q++[ilv lv y]).map encN)]=r):exL TB (callF TB d) ((fb fn72 2).drop 1) (rowLoc l lv s e a (.str y) c c2 c3 f) [sd,.list (Q.map encN)] N=r:=by
  have put':∀ n:Int,n=(ilv lv y:Nat)→gd (decide ((Q.map encN).length<lim)) (N .next (rowLoc l lv s e a (.str y) c c2 c3 f) [sd,.list (Q.map encN++[.int n])])=r:=fun n h=>gl_ok (lm hQ) (by
    rw[h,show V.int (ilv lv y:Nat)=encN (ilv lv y)from rfl,app_m];exact kk)
  refine cs_ok (fun h=>?_) fun h=>?_
  · have h0:lv%2=0:=Int.ofNat.inj ((fm2 lv).symm.trans (eq_of_beq h))
    refine bd_ok ((look_iv y).trans (if_pos hy)) ?_
    refine put' _ ?_
    rw[←(ilv_e (y:=y) h0).resolve_right (not_not_intro hy)]
    rcases hy with rfl|rfl|rfl|rfl<;>rfl
  · have h0:¬lv%2=0:=fun q=>ne_of_beq_false h ((fm2 lv).trans (congrArg Int.ofNat q))
    refine put' _ ?_
    unfold ilv
    rw[if_neg h0]
    rcases hy with rfl|rfl|rfl|rfl<;>rfl
theorem sd_in{y:Nat}{t e r:Rs}(h1:side y→t=r)(h2:¬side y→e=r):cs (look (.str y) [.str 0,.str 1,.str 3,.str 4] [.str 0,.str 1,.str 1,.str 1]).isSome t e=r:=by
  rw[look_in];exact cs_d h1 h2
theorem sd_ni{y:Nat}{t e r:Rs}(h1:¬side y→t=r)(h2:side y→e=r):cs (!(look (.str y) [.str 0,.str 1,.str 3,.str 4] [.str 0,.str 1,.str 1,.str 1]).isSome) t e=r:=by
  rw[look_in]
  by_cases q:side y
  · rw[decide_eq_true q];exact h2 q
  · rw[decide_eq_false q];exact h1 q
noncomputable def sdG (y:Nat):Option V:=if side y then some (.str (st y))else none
noncomputable def sdL (m:List Nat):List Nat:=(m.filter (decide<|side ·)).map st
theorem sd_fm{m:List Nat}:m.filterMap sdG=(sdL m).map V.str:=by
  unfold sdL
  induction m with
  | nil=>rfl
  | cons y m ih=>
    rw[List.filterMap_cons,ih]
    unfold sdG
    by_cases h:side y
    · rw[if_pos h,List.filter_cons_of_pos (p:=fun x=>decide (side x)) (decide_eq_true h)];rfl
    · rw[if_neg h,List.filter_cons_of_neg (p:=fun x=>decide (side x)) (by rw[decide_eq_false h];decide)]
theorem sdL_lt{m l:List Nat}{n:Nat}(h:m.length≤l.length)(hl:l.length<n):(sdL m).length<n:=by
  unfold sdL;rw[List.length_map];exact Nat.lt_of_le_of_lt (Nat.le_trans (List.length_filter_le _ _) h) hl
theorem sdL_mem{m:List Nat}{s:Nat}(hs:s=0∨s=1):((sdL m).getLast?).getD s=0∨((sdL m).getLast?).getD s=1:=by
  cases hg:(sdL m).getLast? with
  | none=>exact hs
  | some z=>
    have:=List.mem_of_getLast? hg
    unfold sdL at this
    obtain⟨w,_,rfl⟩:=List.mem_map.mp this
    show st w=0∨st w=1
    unfold st;split
    · exact .inl rfl
    · exact .inr rfl
theorem rowMid{d:Nat}{l Q:List Nat}{lv s e x k:Nat}{c c2 c3 f:V}{N:KF}{r:Rs}(hl:l.length<lim)(hc:closed l)(hs:s=0∨s=1)(he:e=0∨e=1)(hkl:k<l.length)(hn:isNeu x=true)(h:¬side x)(hQl:Q.length<lim)
    (fin:∀ (y:Nat) (c c2 c3 f:V),lvAt lv s e l k x=ilv lv y→N .next (rowLoc l lv s e (.int k) (.str y) c c2 c3 f) [sd,.list ((Q++[ilv lv y]).map encN)]=r) :
    exL TB (callF TB d) (tb (fb fn72 2)) (rowLoc l lv s e (.int k) (.str x) c c2 c3 f) [sd,.list (Q.map encN)] (fun fl loc H=>nx fl (exL TB (callF TB d) ((fb fn72 2).drop 1) loc H N) (N fl loc H))=r:=by
  have hss:st s=s:=by rcases hs with rfl|rfl<;>rfl
  have hee:st e=e:=by rcases he with rfl|rfl<;>rfl
  have hk':k<100000:=Nat.lt_trans hkl hl
  have comp:∀ (m:List Nat) (vs:List V) (a b:V) (K:KL),vs=m.map V.str→K ((sdL m).map V.str) [sd,.list (Q.map encN)]=r→
      compK1 (fun v H K=>bx (bindC (.one 12) v (rowLoc l lv s e (.int k) (.str x) a b c3 f)) fun loc=>evIf TB (callF TB d) [.cmp .In (.var 12) (.var 4)] loc H fun b H=>cs b ((evB TB (callF TB d) (.item (.var 4) (.var 12))).1 loc H fun v H=>K (some v) H) (K none H)) vs [sd,.list (Q.map encN)] K=r:=fun m vs a b K hv hK=>by
    refine comp_v V.str sdG (l:=m) hv sd_fm (fun y zz K=>sd_in (y:=y) (fun h=>?_) fun h=>?_) hK
    · refine bd_ok ((look_sd y).trans (if_pos h)) ?_
      unfold sdG;rw[if_pos h];rfl
    · unfold sdG;rw[if_neg h];rfl
  refine gl_ok (lm hl) (gd_ok (small_n hk') (comp (l.take k) _ c c2 _ (by rw[List.drop_zero,take_m]) (held V.str (fun zz=>rfl) (sdL_lt (List.length_take_le' _ _) hl) ?_)))
  refine gl_ok (lm hl) (gd_ok (small_n hk') (comp (l.drop k) _ (.lst ((sdL (l.take k)).map V.str)) c2 _ (by rw[List.take_length,drop_m (Nat.le_of_lt hkl)]) (held V.str (fun zz=>rfl) (sdL_lt (by rw[List.length_drop];exact Nat.sub_le _ _) hl) ?_)))
  have hy:neuAt lv s e l k=if((sdL (l.take k)).getLast?).getD s=((sdL (l.drop k)).head?).getD e then((sdL (l.take k)).getLast?).getD s else emb lv:=by
    have hnear:st ((prevN isNeu l k).getD s)=((sdL (l.take k)).getLast?).getD s:=by
      unfold sdL
      rw[prev_side hc,List.getLast?_map]
      cases((l.take k).filter (decide<|side ·)).getLast? with
      | none=>exact hss
      | some y=>rfl
    have hfar:st ((nextN isNeu l k).getD e)=((sdL (l.drop k)).head?).getD e:=by
      unfold sdL
      rw[next_side hc,List.head?_map]
      cases((l.drop k).filter (decide<|side ·)).head? with
      | none=>exact hee
      | some y=>rfl
    unfold neuAt;rw[hnear,hfar]
  have hns:((sdL (l.take k)).getLast?).getD s=0∨((sdL (l.take k)).getLast?).getD s=1:=sdL_mem hs
  generalize sdL (l.take k)=A at *
  generalize sdL (l.drop k)=B at *
  have mid:∀ n m:Nat,(A.getLast?).getD s=n→(B.head?).getD e=m→exL TB (callF TB d) ((tb (fb fn72 2)).drop 3) (rowLoc l lv s e (.int k) (.str x) (.lst (A.map V.str)) (.lst (B.map V.str)) (.str n) (.str m)) [sd,.list (Q.map encN)] (fun fl loc H=>nx fl (exL TB (callF TB d) ((fb fn72 2).drop 1) loc H N) (N fl loc H))=r:=fun n m hn' hm'=>by
    rw[hn',hm']at hy
    rw[hn']at hns
    have hl2:∀ y,neuAt lv s e l k=y→lvAt lv s e l k x=ilv lv y:=fun y h=>by unfold lvAt;rw[hn,←h];rfl
    refine cs_d (fun h=>?_) fun h=>?_
    · rw[if_pos h]at hy
      exact rowTail (hns.imp id .inl) hQl (fin n _ _ _ _ (hl2 n hy))
    · rw[if_neg h]at hy
      refine gd_ok (decide_eq_true (by rw[fm2];exact Int.natCast_nonneg _)) (bd_ok (show TB.chr 77 ((lv:Int).fmod 2).toNat=some (emb lv)by rw[fm2];exact chr_LR lv) ?_)
      exact rowTail ((Nat.mod_two_eq_zero_or_one lv).imp id .inl) hQl (fin (emb lv) _ _ _ _ (hl2 _ hy))
  rcases List.eq_nil_or_concat A with hA|⟨q,y,hA⟩
  · subst hA
    cases B with
    | nil=>exact mid s e rfl rfl
    | cons z B=>exact mid s z rfl rfl
  · rw[List.concat_eq_append]at hA
    subst hA
    refine bd_ok eqV_nil (cs_t (by rw[List.map_append];cases q<;>rfl) (bd_ok at_end ?_))
    cases B with
    | nil=>exact mid y e (by rw[List.getLast?_append];rfl) rfl
    | cons z B=>exact mid y z (by rw[List.getLast?_append];rfl) rfl
theorem c72{d:Nat}{H:Hp}{l:List Nat}{lv s e:Nat}(hl:l.length<lim)(hc:closed l)(hs:s=0∨s=1)(he:e=0∨e=1):callF TB (d+1) 72 [.lst (l.map V.str),.int lv,.str s,.str e] H=some (.lst ((rowLv lv s e l).map encN),H):=by
  refine for_xe V.str (l:=l) (fun u:List Nat×V×V×V×V×V×V=>rowLoc l lv s e u.2.1 u.2.2.1 u.2.2.2.1 u.2.2.2.2.1 u.2.2.2.2.2.1 u.2.2.2.2.2.2) (fun u=>[sd,.list (u.1.map encN)]) (fun pre u=>u.1=pre.mapIdx (lvAt lv s e l)) ?_ ?_ (s:=([],.undef,.undef,.undef,.undef,.undef,.undef)) rfl
  · rintro pre x post ⟨Q,a,b,c,c2,c3,f⟩ N hp hQ X
    replace hQ:Q=pre.mapIdx (lvAt lv s e l):=hQ
    have hkl:=pre_lt hp
    have hx:=pre_at hp
    have hQl:Q.length<lim:=by rw[hQ,List.length_mapIdx];exact Nat.lt_trans hkl hl
    have hxm:x∈l:=List.mem_of_getElem? hx
    have fin:∀ (y:Nat) (c c2 c3 f:V),lvAt lv s e l pre.length x=ilv lv y→N .next (rowLoc l lv s e (.int pre.length) (.str y) c c2 c3 f) [sd,.list ((Q++[ilv lv y]).map encN)]=some (.lst ((rowLv lv s e l).map encN),H):=fun y c c2 c3 f h=>
      X.next (Q++[ilv lv y],.int pre.length,.str y,c,c2,c3,f) (by rw[hQ,←h];exact List.mapIdx_concat.symm)
    have hn:=neu_side hc x hxm
    unfold notSide at hn
    clear X hp hQ
    generalize pre.length=k at *
    have hk':k<100000:=Nat.lt_trans hkl hl
    refine sd_ni (y:=x) (fun h=>?_) fun h=>?_
    · rw[decide_eq_false h]at hn
      exact rowMid hl hc hs he hkl hn h hQl fin
    · rw[decide_eq_true h]at hn
      exact rowTail h hQl (fin x c c2 c3 f (by unfold lvAt;rw[hn];rfl))
  · rintro⟨Q,a,b,c,c2,c3,f⟩ (rfl:Q=_)
    rw[rowLv_eq]
    exact b2_ok (b2_ok (each_map encN fun zz zz=>rfl) rfl) rfl
end Mine
end
section
namespace Mine
noncomputable abbrev isInit (k:Nat):Prop:=k=19∨k=20∨k=21
noncomputable def kd (l:List Nat) (i:Nat):Nat:=(l[i]?).getD 0
noncomputable def sepLast (l:List Nat):Prop:=∀ i,l[i]?=some 13→i+1=l.length
noncomputable def opAt (l:List Nat):Nat→List Nat
  | 0=>[]
  | m+1=>if isInit (kd l m)then opAt l m++[m]else if kd l m=22 then(opAt l m).dropLast else opAt l m
noncomputable def mtAt (l:List Nat):Nat→Nat→Option Nat
  | 0=>fun zz=>none
  | m+1=>if kd l m=22 then(match (opAt l m).getLast? with
      | some b=>fun k=>if k=m then some b else if k=b then some m else mtAt l m k
      | none=>mtAt l m)else mtAt l m
noncomputable def mt (l:List Nat):Nat→Option Nat:=mtAt l l.length
noncomputable def isD (ks vs:List V) (f:Nat→Option Nat):Prop:=∀ k:Nat,look (.int k) ks vs=(f k).map encN
theorem keyEq_int{a b:Int}:keyEq (.int a) (.int b)=(a==b):=rfl
theorem keyEq_iff{a b:V}(h:keyEq a b=true):a=b:=by
  cases a with
  | none=>cases b with
    | none=>rfl
    | _=>exact absurd h Bool.false_ne_true
  | int i=>cases b with
    | int j=>exact congrArg V.int (eq_of_beq h)
    | _=>exact absurd h Bool.false_ne_true
  | str i=>cases b with
    | str j=>exact congrArg V.str (eq_of_beq h)
    | _=>exact absurd h Bool.false_ne_true
  | _=>exact absurd h Bool.false_ne_true
theorem keyEq_self{a:V}(h:keyOk a=true):keyEq a a=true:=by
  cases a with
  | none=>rfl
  | int i=>exact beq_self_eq_true i
  | str i=>exact beq_self_eq_true i
  | _=>exact absurd h Bool.false_ne_true
theorem cs_if{β:Type}{b:Bool}{t e:β}:cs b t e=if b=true then t else e:=by cases b<;>rfl
theorem look_cons{x a u:V}{ks vs:List V}:look x (a::ks) (u::vs)=if keyEq x a=true then some u else look x ks vs:=cs_if
theorem store_cons{k v a u:V}{ks vs:List V}:store k v (a::ks) (u::vs)=if keyEq k a=true then(a::ks,v::vs)else(a::(store k v ks vs).1,u::(store k v ks vs).2):=cs_if
theorem two_ind{P:List V→List V→Prop}(h0:P [] [])(h1:∀ a ks u vs,ks.length=vs.length→P ks vs→P (a::ks) (u::vs)){ks vs:List V}(h:ks.length=vs.length):P ks vs:=by
  induction ks generalizing vs with
  | nil=>rw[List.eq_nil_of_length_eq_zero h.symm];exact h0
  | cons a ks ih=>cases vs with
    | nil=>exact absurd h (Nat.succ_ne_zero _)
    | cons u vs=>exact h1 a ks u vs (Nat.succ.inj h) (ih (Nat.succ.inj h))
theorem store_length{k v:V}{ks vs:List V}(h:ks.length=vs.length):(store k v ks vs).1.length=(store k v ks vs).2.length∧(store k v ks vs).1.length≤ks.length+1:=by
  refine two_ind (P:=fun ks vs=>(store k v ks vs).1.length=(store k v ks vs).2.length∧(store k v ks vs).1.length≤ks.length+1) ⟨rfl,Nat.le_refl _⟩ (fun a ks u vs hl ih=>?_) h
  rw[store_cons]
  by_cases hk:keyEq k a=true
  · rw[if_pos hk];exact⟨congrArg Nat.succ hl,Nat.le_succ _⟩
  · rw[if_neg hk];exact⟨congrArg Nat.succ ih.1,Nat.succ_le_succ ih.2⟩
theorem look_store{k v x:V}(hk:keyOk k=true){ks vs:List V}(h:ks.length=vs.length):look x (store k v ks vs).1 (store k v ks vs).2=if keyEq x k=true then some v else look x ks vs:=by
  refine two_ind (P:=fun ks vs=>look x (store k v ks vs).1 (store k v ks vs).2=if keyEq x k=true then some v else look x ks vs) look_cons (fun a ks u vs hl ih=>?_) h
  rw[store_cons,look_cons]
  by_cases hka:keyEq k a=true
  · have:=keyEq_iff hka;subst this
    rw[if_pos hka,look_cons]
    by_cases hx:keyEq x k=true
    · rw[if_pos hx,if_pos hx]
    · rw[if_neg hx,if_neg hx,if_neg hx]
  · rw[if_neg hka,look_cons]
    by_cases hx:keyEq x a=true
    · rw[if_pos hx,if_neg fun q=>hka (by rw[←keyEq_iff hx,←keyEq_iff q];exact keyEq_self (by rw[keyEq_iff q];exact hk)),if_pos hx]
    · rw[if_neg hx,if_neg hx];exact ih
theorem isD_nil:isD [] [] fun zz=>none:=fun k=>rfl
theorem isD_store{ks vs f}{k v:Nat}(h:isD ks vs f)(hl:ks.length=vs.length):isD (store (.int k) (.int v) ks vs).1 (store (.int k) (.int v) ks vs).2 fun x=>if x=k then some v else f x:=by
  intro x
  show _=(if x=k then some v else f x).map encN
  rw[look_store rfl hl,keyEq_int]
  by_cases hx:x=k
  · rw[hx,if_pos (beq_self_eq_true _),if_pos rfl];rfl
  · rw[if_neg (fun q=>hx (Int.ofNat.inj (eq_of_beq q)):¬((x:Int)==(k:Int))=true),if_neg hx];exact h x
theorem opAt_init{l m}(h:isInit (kd l m)):opAt l (m+1)=opAt l m++[m]:=by rw[opAt,if_pos h]
theorem opAt_pdi{l m}(h:kd l m=22):opAt l (m+1)=(opAt l m).dropLast:=by rw[opAt,if_neg (by rw[h];decide),if_pos h]
theorem opAt_else{l m}(h:¬isInit (kd l m))(h2:kd l m≠22):opAt l (m+1)=opAt l m:=by rw[opAt,if_neg h,if_neg h2]
theorem opAt_le{l m}:(opAt l m).length≤m:=by
  induction m with
  | zero=>exact Nat.le_refl _
  | succ m ih=>
    unfold opAt
    split
    · simp only[List.length_append,List.length_singleton];lia
    · split
      · rw[List.length_dropLast];lia
      · lia
theorem opAt_inv{l:List Nat}{m:Nat}:∀ q x,(opAt l m)[q]?=some x→x<m∧isInit (kd l x)∧q=(opAt l x).length∧∀ m',x<m'→m'≤m→q<(opAt l m').length:=by
  induction m with
  | zero=>intro q x h;simp[opAt]at h
  | succ m ih=>
    intro q x h
    have hq:=(List.getElem?_eq_some_iff.1 h).1
    have old:(opAt l m)[q]?=some x→x<m+1∧isInit (kd l x)∧q=(opAt l x).length∧∀ m',x<m'→m'≤m+1→q<(opAt l m').length:=by
      intro h0
      obtain⟨h1,h2,h3,h4⟩:=ih q x h0
      refine⟨by lia,h2,h3,fun m' h5 h6=>?_⟩
      by_cases hm:m'=m+1
      · subst hm;exact hq
      · exact h4 m' h5 (by lia)
    by_cases hi:isInit (kd l m)
    · rw[opAt_init hi]at h
      rw[List.getElem?_append]at h
      split at h
      · exact old h
      · have:q=(opAt l m).length:=by
          rw[opAt_init hi]at hq
          simp only[List.length_append,List.length_singleton]at hq;lia
        subst this
        simp at h
        subst h
        refine⟨by lia,hi,rfl,fun m' h5 h6=>?_⟩
        have:m'=m+1:=by lia
        subst this;exact hq
    · by_cases hp:kd l m=22
      · rw[opAt_pdi hp]at h
        rw[List.getElem?_dropLast]at h
        split at h
        · exact old h
        · cases h
      · rw[opAt_else hi hp]at h
        exact old h
structure PrI(l:List Nat)(b e:Nat):Prop where
  lt:b<e
  en:e<l.length
  ini:isInit (kd l b)
  pdi:kd l e=22
  top:(opAt l e).length=(opAt l b).length+1
  out:∀ m,b<m→m≤e→(opAt l b).length<(opAt l m).length
theorem mtAt_pr{l:List Nat}{m:Nat}(hm:m≤l.length):∀ k v,mtAt l m k=some v→(isInit (kd l k)∧PrI l k v)∨(kd l k=22∧PrI l v k):=by
  induction m with
  | zero=>intro k v h;cases h
  | succ m ih=>
    intro k v h
    unfold mtAt at h
    split at h
    · rename_i hp
      cases hb:(opAt l m).getLast? with
      | some b=>
        simp only[hb]at h
        have hne:opAt l m≠[]:=by intro h0;rw[h0]at hb;cases hb
        have hpos:0<(opAt l m).length:=List.length_pos_iff.2 hne
        have hq:(opAt l m)[(opAt l m).length - 1]?=some b:=by rw[←List.getLast?_eq_getElem?];exact hb
        obtain⟨h1,h2,h3,h4⟩:=opAt_inv _ _ hq
        have hpr:PrI l b m:=⟨h1,by lia,h2,hp,by lia,fun m' h5 h6=>by have:=h4 m' h5 h6;lia⟩
        split at h
        · rename_i hk;cases h;subst hk;exact Or.inr ⟨hp,hpr⟩
        · split at h
          · rename_i hk;cases h;subst hk;exact Or.inl ⟨h2,hpr⟩
          · exact ih (by lia) k v h
      | none=>
        simp only[hb]at h
        exact ih (by lia) k v h
    · exact ih (by lia) k v h
theorem mt_init{l k v}(h:mt l k=some v)(hi:isInit (kd l k)):PrI l k v:=by
  rcases mtAt_pr (Nat.le_refl _) k v h with⟨_,h⟩|⟨h,_⟩
  · exact h
  · rw[h]at hi;exact absurd hi (by decide)
theorem mt_pdi{l k v}(h:mt l k=some v)(hi:kd l k=22):PrI l v k:=by
  rcases mtAt_pr (Nat.le_refl _) k v h with⟨h,_⟩|⟨_,h⟩
  · rw[hi]at h;exact absurd h (by decide)
  · exact h
end Mine
end
section
namespace Mine
theorem mtAt_same{l m}(h:kd l m≠22∨opAt l m=[]):mtAt l (m+1)=mtAt l m:=by
  rw[mtAt]
  split
  · rcases h with h|h
    · contradiction
    · rw[h];rfl
  · rfl
theorem mtAt_pair{l m q b}(h:kd l m=22)(hb:opAt l m=q++[b]):mtAt l (m+1)=fun k=>if k=m then some b else if k=b then some m else mtAt l m k:=by
  rw[mtAt,if_pos h,hb];simp
theorem ints_snoc{ks vs:List V}{k:V}{v:Int}(hl:ks.length=vs.length)(h:∀ x∈vs,∃ i:Int,x=.int i):∀ x∈(store k (.int v) ks vs).2,∃ i:Int,x=.int i:=by
  revert h
  refine two_ind (P:=fun ks vs=>(∀ x∈vs,∃ i:Int,x=.int i)→∀ x∈(store k (.int v) ks vs).2,∃ i:Int,x=.int i) (fun zz x hx=>⟨v,List.mem_singleton.mp hx⟩) (fun a ks u vs zz ih h x hx=>?_) hl
  rw[store_cons]at hx
  have h':=fun x hx=>h x (.tail _ hx)
  by_cases hk:keyEq k a=true
  · rw[if_pos hk]at hx
    exact(List.mem_cons.mp hx).elim (fun e=>⟨v,e⟩) (h' x)
  · rw[if_neg hk]at hx
    exact(List.mem_cons.mp hx).elim (fun e=>h x (e▸.head _)) (ih h' x)
theorem frz_ints{n:Nat}{vs:List V}{H:Hp}(h:∀ x∈vs,∃ i:Int,x=.int i):eachS (frz (n+1)) vs H=some (vs,H):=by
  induction vs with
  | nil=>rfl
  | cons v vs ih=>
    obtain⟨i,hi⟩:=h v (.head _)
    subst hi
    exact b2_ok rfl (b2_ok (ih fun x hx=>h x (.tail _ hx)) rfl)
structure DI(l:List Nat)(m:Nat)(ks vs:List V):Prop where
  len:ks.length=vs.length
  le:ks.length≤2*m
  isd:isD ks vs (mtAt l m)
  intz:∀ x∈vs,∃ i:Int,x=.int i
theorem DI.nil{l:List Nat}:DI l 0 [] []:=⟨rfl,Nat.le_refl _,isD_nil,fun zz h=>absurd h List.not_mem_nil⟩
theorem DI.same{l:List Nat}{m:Nat}{ks vs:List V}(h:DI l m ks vs)(hn:kd l m≠22∨opAt l m=[]):DI l (m+1) ks vs:=
  ⟨h.len,Nat.le_trans h.le (Nat.mul_le_mul_left 2 (Nat.le_succ m)),by rw[mtAt_same hn];exact h.isd,h.intz⟩
theorem DI.two{l:List Nat}{m b:Nat}{q:List Nat}{ks vs:List V}(h:DI l m ks vs)(hp:kd l m=22)(hb:opAt l m=q++[b]) :
    DI l (m+1) (store (.int m) (.int b) (store (.int b) (.int m) ks vs).1 (store (.int b) (.int m) ks vs).2).1 (store (.int m) (.int b) (store (.int b) (.int m) ks vs).1 (store (.int b) (.int m) ks vs).2).2:=by
  have l1:=store_length (k:=.int b) (v:=.int m) h.len
  have l2:=store_length (k:=.int m) (v:=.int b) l1.1
  refine⟨l2.1,Nat.le_trans l2.2 (Nat.succ_le_succ (Nat.le_trans l1.2 (Nat.succ_le_succ h.le))),?_,ints_snoc l1.1 (ints_snoc h.len h.intz)⟩
  rw[mtAt_pair hp hb];exact isD_store (isD_store h.isd h.len) l1.1
theorem pop_m{α:Type}{e:α→V}{q:List α}{y:α}:popL ((q++[y]).map e)=some (q.map e,e y):=by
  induction q with
  | nil=>rfl
  | cons a q ih=>
    rw[List.cons_append,List.map_cons]
    revert ih
    cases(q++[y]).map e with
    | nil=>exact fun ih=>by cases ih
    | cons w r=>exact fun ih=>b2_ok ih rfl
theorem lim_of{n m:Nat}(h:n≤2*m)(hm:m<900):n+1<100000:=by omega
noncomputable def two2 (m b:Nat) (p:List V×List V):List V×List V:=store (.int m) (.int b) (store (.int b) (.int m) p.1 p.2).1 (store (.int b) (.int m) p.1 p.2).2
noncomputable def dS (l:List Nat) (m:Nat) (p:List V×List V):List V×List V:=cs (decide (kd l m=22)) (oc (opAt l m).getLast? (fun b=>two2 m b p) p) p
noncomputable def dAt (l:List Nat):Nat→List V×List V
  | 0=>([],[])
  | m+1=>dS l m (dAt l m)
theorem dAt_same{l:List Nat}{m:Nat}(hn:kd l m≠22∨opAt l m=[]):dAt l (m+1)=dAt l m:=by
  show dS l m (dAt l m)=_
  unfold dS
  by_cases h:kd l m=22
  · rw[hn.resolve_left (not_not_intro h),decide_eq_true h];rfl
  · rw[decide_eq_false h];rfl
theorem dAt_two{l:List Nat}{m b:Nat}{q:List Nat}(hp:kd l m=22)(hb:opAt l m=q++[b]):dAt l (m+1)=two2 m b (dAt l m):=by
  show dS l m (dAt l m)=_
  rw[dS,decide_eq_true hp,hb,List.getLast?_append];rfl
theorem dI{l:List Nat}{m:Nat}:DI l m (dAt l m).1 (dAt l m).2:=by
  induction m with
  | zero=>exact DI.nil
  | succ m ih=>
    by_cases hn:kd l m≠22∨opAt l m=[]
    · rw[dAt_same hn];exact ih.same hn
    · have hp:kd l m=22:=Classical.byContradiction fun q=>hn (.inl q)
      rcases List.eq_nil_or_concat (opAt l m)with hq|⟨q,y,hq⟩
      · exact absurd (.inr hq) hn
      · rw[List.concat_eq_append]at hq
        rw[dAt_two hp hq];exact ih.two hp hq
noncomputable def dctM (l:List Nat):V:=.dct (dAt l l.length).1 (dAt l l.length).2
theorem dctM_is{l:List Nat}:∃ ks vs,dctM l=.dct ks vs∧isD ks vs (mt l):=⟨_,_,rfl,dI.isd⟩
theorem kd_at{l:List Nat}{m x:Nat}(h:l[m]?=some x):kd l m=x:=by unfold kd;rw[h];rfl
theorem c3x{d:Nat}{H:Hp}{l:List Nat}(hl:l.length<900)(hs:sepLast l):callF TB (d+1) 3 [.lst (l.map V.str)] H=some (dctM l,H):=by
  refine for_ke V.str (l:=l) (fun zz w=>[V.lst (l.map V.str),.ref 0,.ref 1,slot w 0,slot w 1,slot w 2]) (fun m zz=>[.dict (dAt l m).1 (dAt l m).2,.list ((opAt l m).map encN)]) ?_ ?_ (w:=[.undef,.undef,.undef])
  · intro m x w N hml hat X
    have hkd:=kd_at hat
    have hI:DI l m (dAt l m).1 (dAt l m).2:=dI
    have hml9:=Nat.lt_trans hml hl
    refine cs_ok (fun h=>?_) fun h=>?_
    · rw[in3]at h
      have hi:isInit (kd l m):=hkd.symm▸of_decide_eq_true h
      refine gl_ok (lm (Nat.lt_of_le_of_lt opAt_le (Nat.lt_trans hml9 (by decide)))) ?_
      have:=X.next [.int m,.str x,slot w 2]
      rw[dAt_same (.inl fun q=>by rw[q]at hi;revert hi;decide),opAt_init hi,←app_m]at this
      exact this
    · rw[in3]at h
      have hi:¬isInit (kd l m):=hkd.symm▸of_decide_eq_false h
      refine cs_d (fun hP=>?_) fun hP=>?_
      · subst hP
        have x1:=X.next [.int m,.str 22,slot w 2]
        have x2:=fun q=>X.next [.int m,.str 22,encN q]
        rw[opAt_pdi hkd]at x1 x2
        clear X hi h hat
        rcases List.eq_nil_or_concat (opAt l m)with hq|⟨q,y,hq⟩
        · rw[dAt_same (.inr hq),hq]at x1
          rw[hq];exact x1
        · rw[List.concat_eq_append]at hq
          rw[dAt_two hkd hq,hq,List.dropLast_concat]at x2
          rw[hq]
          have k1:=lim_of hI.le hml9
          exact bd_ok eqV_nil (cs_t (by rw[List.map_append];cases q<;>rfl) (b2_ok pop_m (gl_ok (Nat.lt_of_succ_lt k1) (gl_ok (Nat.lt_of_le_of_lt (store_length hI.len).2 k1) (x2 y)))))
      · have hP':kd l m≠22:=fun q=>hP (hkd.symm.trans q)
        refine cs_d (fun h13=>?_) fun h13=>?_
        · subst h13
          have hlast:=hs m hat
          refine X.last hlast _ _ ?_
          rw[←dAt_same (.inl hP'),hlast]
          exact b2_ok (bd_ok rfl (b2_ok (frz_ints dI.intz) rfl)) rfl
        · have:=X.next [.int m,.str x,slot w 2]
          rw[dAt_same (.inl hP'),opAt_else hi hP']at this
          exact this
  · exact fun w=>b2_ok (bd_ok rfl (b2_ok (frz_ints dI.intz) rfl)) rfl
theorem c3{d:Nat}{H:Hp}{l:List Nat}(hl:l.length<900)(hs:sepLast l):∃ u,callF TB (d+1) 3 [.lst (l.map V.str)] H=some (u,H)∧∃ ks vs,u=.dct ks vs∧isD ks vs (mt l):=⟨_,c3x hl hs,dctM_is⟩
end Mine
end
section
namespace Mine
theorem c65x{d:Nat}{H:Hp}{l:List Nat}(hl:l.length<900):callF TB (d+1) 65 [.lst (l.map V.str)] H=some (dctM l,H):=by
  refine for_ke V.str (l:=l) (fun zz w=>[V.lst (l.map V.str),.ref 0,.ref 1,slot w 0,slot w 1,slot w 2]) (fun m zz=>[.list ((opAt l m).map encN),.dict (dAt l m).1 (dAt l m).2]) ?_ (fun w=>b2_ok (bd_ok rfl (b2_ok (frz_ints dI.intz) rfl)) rfl) (w:=[.undef,.undef,.undef])
  intro m x w N hml hat X
  have hkd:=kd_at hat
  have hI:DI l m (dAt l m).1 (dAt l m).2:=dI
  have hml9:=Nat.lt_trans hml hl
  refine cs_ok (fun h=>?_) fun h=>?_
  · rw[in3]at h
    have hi:isInit (kd l m):=hkd.symm▸of_decide_eq_true h
    refine gl_ok (lm (Nat.lt_of_le_of_lt opAt_le (Nat.lt_trans hml9 (by decide)))) ?_
    have:=X.next [.int m,.str x,slot w 2]
    rw[dAt_same (.inl fun q=>by rw[q]at hi;revert hi;decide),opAt_init hi,←app_m]at this
    exact this
  · rw[in3]at h
    have hi:¬isInit (kd l m):=hkd.symm▸of_decide_eq_false h
    refine cs_d (fun hP=>?_) fun hP=>?_
    · subst hP
      have x1:=X.next [.int m,.str 22,slot w 2]
      have x2:=fun q=>X.next [.int m,.str 22,encN q]
      rw[opAt_pdi hkd]at x1 x2
      clear X hi h hat
      rcases List.eq_nil_or_concat (opAt l m)with hq|⟨q,y,hq⟩
      · rw[dAt_same (.inr hq),hq]at x1
        rw[hq];exact x1
      · rw[List.concat_eq_append]at hq
        rw[dAt_two hkd hq,hq,List.dropLast_concat]at x2
        rw[hq]
        have k1:=lim_of hI.le hml9
        exact bd_ok eqV_nil (cs_t (by rw[List.map_append];cases q<;>rfl) (b2_ok pop_m (gl_ok (Nat.lt_of_succ_lt k1) (gl_ok (Nat.lt_of_le_of_lt (store_length hI.len).2 k1) (x2 y)))))
    · have hP':kd l m≠22:=fun q=>hP (hkd.symm.trans q)
      have:=X.next [.int m,.str x,slot w 2]
      rw[dAt_same (.inl hP'),opAt_else hi hP']at this
      exact this
noncomputable def fsF (l:List Nat) (en a:Nat) (g:∀ b,en - b<en - a→Option Nat):Option Nat:=
  if h:a<en then
    if kd l a≤2 then some (kd l a)else if kd l a=13 then none else if isInit (kd l a)then(match mt l a with
      | none=>none
      | some j=>if q:a<j then g (j+1) (Nat.sub_lt_sub_left h (Nat.lt_succ_of_lt q))else none)
    else g (a+1) (Nat.sub_lt_sub_left h (Nat.lt_succ_self a))
  else none
noncomputable def fs (l:List Nat) (en:Nat):Nat→Option Nat:=(measure fun a=>en - a).wf.fix (fsF l en)
noncomputable def fsS (l:List Nat) (en a:Nat) (f:Nat→Option Nat):Option Nat:=
  if kd l a≤2 then some (kd l a)else if kd l a=13 then none else if isInit (kd l a)then(match mt l a with
      | none=>none
      | some j=>if a<j then f (j+1)else none)else f (a+1)
theorem fs_eq{l en a}:fs l en a=if a<en then fsS l en a (fs l en)else none:=(measure fun a=>en - a).wf.fix_eq (fsF l en) a
theorem fs_out{l en a}(h:¬a<en):fs l en a=none:=fs_eq.trans (if_neg h)
theorem fs_in{l en a}(h:a<en):fs l en a=fsS l en a (fs l en):=fs_eq.trans (if_pos h)
theorem fs_pdi{l en a}(h:kd l a=22):fs l en a=fs l en (a+1):=by
  by_cases ha:a<en
  · rw[fs_in ha,fsS,h];rfl
  · rw[fs_out ha,fs_out fun q=>ha (Nat.lt_of_succ_lt q)]
theorem kd_get{l:List Nat}{a:Nat}(h:a<l.length):l[a]?=some (kd l a):=by
  unfold kd;rw[List.getElem?_eq_getElem h];rfl
theorem strK{k:Nat}:(0==k||(1==k||(2==k||false)))=decide (k≤2):=by
  rw[in3]
  exact decide_eq_decide.mpr ⟨by rintro(rfl|rfl|rfl)<;>decide,le2⟩
theorem c4{d:Nat}{H:Hp}{l:List Nat}{a en:Nat}{ks vs:List V}(hl:l.length<900)(he:en≤l.length)(hD:isD ks vs (mt l)):callF TB (d+1) 4 [.lst (l.map V.str),.int a,.int en,.dct ks vs] H=some (encS (fs l en a),H):=by
  show exL TB (callF TB d) (fn4.body.drop 1) [V.lst (l.map V.str),.int a,.int en,.dct ks vs,.int a,.undef] [] (fun fl zz H1=>outK fl H1 fun v H2=>frzK v H2 fun u zz=>some (u,H))=_
  refine whil_l (s:=fn4.body.drop 2) ?_
  refine while_y (fun x w=>[V.lst (l.map V.str),.int a,.int en,.dct ks vs,.int (x:Nat),slot w 0]) (fun zz zz=>[]) (fun m x=>m=en - x∧fs l en x=fs l en a) ?_ (n:=turns) (m:=en - a) (Nat.lt_of_le_of_lt (Nat.sub_le _ _) (Nat.lt_of_le_of_lt he (Nat.lt_trans hl (by rw[turns_is];decide)))) (s:=a) (w:=[.undef]) ⟨rfl,rfl⟩
  intro m x w N ⟨hm,hf⟩ X
  generalize fs l en a=fa at *
  have out:∀ o:Option Nat,fs l en x=o→some (encS o,H)=some (encS fa,H):=fun o h=>by rw[←hf,h]
  refine cs_d (fun h=>?_) fun h=>out none (fs_out fun q=>h (Int.ofNat_lt.mpr q))
  have hx:x<en:=Int.ofNat_lt.mp h
  have go:∀ y w,x<y→fs l en x=fs l en y→N .next [V.lst (l.map V.str),.int a,.int en,.dct ks vs,.int (y:Nat),w] []=some (encS fa,H):=fun y w h1 h2=>X.next y [w] ⟨en - y,by rw[hm];exact Nat.sub_lt_sub_left hx h1,rfl,h2.symm.trans hf⟩
  clear hf
  have e:=fs_in (l:=l) hx
  unfold fsS at e
  have hD:=hD x
  have ret:=X.ret
  clear X
  refine bd_ok (at_m (kd_get (Nat.lt_of_lt_of_le hx he)) rfl) ?_
  have hpr:=fun v (h:mt l x=some v)=>mt_init h
  generalize kd l x=k at *
  refine cs_ok (fun h=>ret _ _ _ ?_) fun h=>cs_d (fun h13=>ret _ _ _ ?_) fun h13=>cs_ok (fun h3=>?_) fun h3=>?_
  · rw[strK]at h;exact out _ (e.trans (if_pos (of_decide_eq_true h)))
  · rw[strK]at h;exact out _ (e.trans ((if_neg (of_decide_eq_false h)).trans (if_pos h13)))
  · rw[strK]at h;rw[in3]at h3
    have h3:isInit k:=of_decide_eq_true h3
    rw[if_neg (of_decide_eq_false h),if_neg h13,if_pos h3]at e
    cases hm:mt l x with
    | none=>
      rw[hm]at hD e
      exact ni_t hD (ret _ _ _ (out _ e))
    | some j=>
      rw[hm]at hD e
      refine ni_f hD (bd_ok hD (go (j+1) _ (Nat.lt_succ_of_lt (hpr j hm h3).lt) (e.trans (if_pos (hpr j hm h3).lt))))
  · rw[strK]at h;rw[in3]at h3
    rw[if_neg (of_decide_eq_false h),if_neg h13,if_neg (of_decide_eq_false h3:¬isInit k)]at e
    exact go (x+1) _ (Nat.lt_succ_self x) e
end Mine
end
section
namespace Mine
theorem fs_ind{l:List Nat}{en:Nat}{P:Nat→Prop}(h:∀ a,(∀ y,a<y→P y)→P a)(h0:∀ a,¬a<en→P a)(a:Nat):P a:=by
  suffices ∀ n a,en≤a+n→P a from this en a (Nat.le_add_left _ _)
  intro n
  induction n with
  | zero=>exact fun a q=>h0 a (Nat.not_lt.mpr q)
  | succ n ih=>exact fun a q=>h a fun y hy=>ih y (Nat.le_trans q (by rw[←Nat.succ_add_eq_add_succ];exact Nat.add_le_add_right hy n))
theorem fs_le{l:List Nat}{en n a k:Nat}(_:en - a≤n):fs l en a=some k→k≤2:=by
  refine fs_ind (l:=l) (en:=en) (P:=fun a=>fs l en a=some k→k≤2) (fun a ih e=>?_) (fun a q e=>by rw[fs_out q]at e;cases e) a
  by_cases ha:a<en
  · rw[fs_in ha]at e
    unfold fsS at e
    by_cases h1:kd l a≤2
    · rw[if_pos h1]at e;exact Option.some.inj e▸h1
    · rw[if_neg h1]at e
      by_cases h2:kd l a=13
      · rw[if_pos h2]at e;cases e
      · rw[if_neg h2]at e
        by_cases h3:isInit (kd l a)
        · rw[if_pos h3]at e
          cases hm:mt l a with
          | none=>rw[hm]at e;cases e
          | some j=>
            have h4:=(mt_init hm h3).lt
            rw[hm]at e
            exact ih (j+1) (Nat.lt_succ_of_lt h4) ((if_pos h4).symm.trans e)
        · rw[if_neg h3]at e;exact ih _ (Nat.lt_succ_self a) e
  · rw[fs_out ha]at e;cases e
theorem c66{d:Nat}{H:Hp}{l:List Nat}{a en:Nat}{ks vs:List V}(hl:l.length<900)(hs:sepLast l)(he:en≤l.length)(hD:isD ks vs (mt l)):callF TB (d+1) 66 [.lst (l.map V.str),.dct ks vs,.int a,.int en] H=some (encB ((fs l en a).map st),H):=by
  refine whil_l (s:=fn66.body.drop 1) ?_
  refine while_y (fun x zz=>[V.lst (l.map V.str),.dct ks vs,.int (x:Nat),.int en]) (fun zz zz=>[]) (fun m x=>m=en - x∧fs l en x=fs l en a) ?_ (n:=turns) (m:=en - a) (Nat.lt_of_le_of_lt (Nat.sub_le _ _) (Nat.lt_of_le_of_lt he (Nat.lt_trans hl (by rw[turns_is];decide)))) (s:=a) (w:=[]) ⟨rfl,rfl⟩
  intro m x w N ⟨hm,hf⟩ X
  generalize fs l en a=fa at *
  have out:∀ o:Option Nat,fs l en x=o→some (encB (o.map st),H)=some (encB (fa.map st),H):=fun o h=>by rw[←hf,h]
  refine cs_d (fun h=>?_) fun h=>out none (fs_out fun q=>h (Int.ofNat_lt.mpr q))
  have hx:x<en:=Int.ofNat_lt.mp h
  have go:∀ y,x<y→fs l en x=fs l en y→N .next [V.lst (l.map V.str),.dct ks vs,.int (y:Nat),.int en] []=some (encB (fa.map st),H):=fun y h1 h2=>X.next y [] ⟨en - y,by rw[hm];exact Nat.sub_lt_sub_left hx h1,rfl,h2.symm.trans hf⟩
  clear hf
  have e:=fs_in (l:=l) hx
  unfold fsS at e
  have hD:=hD x
  have ret:=X.ret
  clear X
  have hg:=kd_get (Nat.lt_of_lt_of_le hx he)
  have hpr:=fun v (h:mt l x=some v)=>mt_init h
  generalize kd l x=k at *
  refine bd_ok (at_m hg rfl) (cs_d (fun h0=>ret _ _ _ ?_) fun h0=>bd_ok (at_m hg rfl) (cs_ok (fun h1=>ret _ _ _ ?_) fun h1=>bd_ok (at_m hg rfl) (cs_ok (fun h3=>?_) fun h3=>?_)))
  · subst h0;exact out _ e
  · rw[in2]at h1
    rcases of_decide_eq_true h1 with h1|h1
    · subst h1;exact out _ e
    · subst h1;exact out _ e
  · rw[in3]at h3
    have h3:isInit k:=of_decide_eq_true h3
    rw[if_neg (by rcases h3 with h|h|h<;>rw[h]<;>decide),if_neg (by rcases h3 with h|h|h<;>rw[h]<;>decide),if_pos h3]at e
    have g:∀ y:Nat,(look (.int x) ks vs).getD (.int en)=.int y→x<y→fs l en x=fs l en y→N .next [V.lst (l.map V.str),.dct ks vs,view [] ((look (.int x) ks vs).getD (.int en)),.int en] []=some (encB (fa.map st),H):=fun y h h1 h2=>by rw[h];exact go y h1 h2
    cases hm:mt l x with
    | none=>
      rw[hm]at hD e
      exact g en (by rw[hD];rfl) hx (e.trans (fs_out (Nat.lt_irrefl _)).symm)
    | some j=>
      have hp:=hpr j hm h3
      rw[hm]at hD e
      exact g j (by rw[hD];rfl) hp.lt ((e.trans (if_pos hp.lt)).trans (fs_pdi hp.pdi).symm)
  · rw[in2]at h1;rw[in3]at h3
    have h1:=of_decide_eq_false h1
    rw[if_neg fun q=>?_]at e
    · by_cases h13:k=13
      · rw[if_pos h13]at e
        have:=hs x (hg.trans (congrArg some h13))
        exact go (x+1) (Nat.lt_succ_self x) (e.trans (fs_out (by rw[this];exact Nat.not_lt.mpr he)).symm)
      · rw[if_neg h13,if_neg (of_decide_eq_false h3:¬isInit k)]at e
        exact go (x+1) (Nat.lt_succ_self x) e
    · exact(le2 q).elim h0 h1
noncomputable def baseOf (w:Nat) (l:List Nat):Nat:=if w=74 then 0 else if w=75 then 1 else match fs l l.length 0 with
  | none=>if w=78 then 1 else 0
  | some k=>st k
theorem c5{d:Nat}{H:Hp}{l:List Nat}{w:Nat}(hl:l.length<900)(hs:sepLast l):callF TB (d+2) 5 [.lst (l.map V.str),.str w] H=some (.int (baseOf w l),H):=by
  have e:∀ n:Nat,baseOf w l=n→some (V.int n,H)=some (.int (baseOf w l),H):=fun n h=>by rw[h]
  refine cs_d (fun h=>?_) fun h=>?_
  · subst h;exact e 0 (if_pos rfl)
  refine cs_d (fun h=>?_) fun h2=>?_
  · subst h;exact e 1 rfl
  obtain⟨_,h3,ks,vs,rfl,hD⟩:=c3 (d:=d) (H:=[]) hl hs
  refine b2_ok h3 (b2_ok (c4 (a:=0) (en:=(l.map V.str).length) hl (Nat.le_of_eq (List.length_map _)) hD) ?_)
  unfold baseOf at e ⊢
  rw[if_neg h,if_neg h2]at e ⊢
  rw[List.length_map]
  generalize fs l l.length 0=o at e ⊢
  cases o with
  | none=>exact cs_d (fun h=>e 1 (if_pos h)) fun h=>e 0 (if_neg h)
  | some k=>exact cs_d (fun h=>e 0 (if_pos h)) fun h=>e 1 (if_neg h)
noncomputable def rightI (l:List Nat) (i:Nat):Bool:=if kd l i=21 then(match fs l ((mt l i).getD l.length) (i+1)with
  | some k=>k==1||k==2
  | none=>false)else kd l i==20
theorem c16{d:Nat}{H:Hp}{l:List Nat}{i:Nat}{ks vs:List V}(hl:l.length<900)(hi:i<l.length)(hD:isD ks vs (mt l))(hini:isInit (kd l i)):callF TB (d+2) 16 [.lst (l.map V.str),.int i,.dct ks vs] H=some (.bool (rightI l i),H):=by
  have e:∀ b,rightI l i=b→some (V.bool b,H)=some (.bool (rightI l i),H):=fun b h=>by rw[h]
  have hg:=kd_get hi
  have hp:=fun v h=>mt_init (v:=v) h hini
  unfold rightI at e ⊢
  refine bd_ok (at_m hg rfl) (cs_ok (fun h=>bd_ok (at_m hg rfl) (e _ (if_neg ?_))) fun h=>?_)
  · intro q;rw[q]at h;cases h
  · have h:kd l i=21:=by
      by_cases q:kd l i=21
      · exact q
      · rw[show(kd l i==21)=false from beq_false_of_ne q]at h;cases h
    rw[if_pos h]at e ⊢
    have hen:(mt l i).getD l.length≤l.length:=by
      cases hm:mt l i with
      | none=>exact Nat.le_refl _
      | some j=>exact Nat.le_of_lt (hp j hm).en
    have hgd:(look (.int i) ks vs).getD (V.int (l.map V.str).length)=.int ((mt l i).getD l.length:Nat):=by rw[hD i,List.length_map];cases mt l i<;>rfl
    have h4:∀ v,v=V.int ((mt l i).getD l.length:Nat)→callF TB (d+1) 4 [.lst (l.map V.str),.int (i+1:Nat),v,.dct ks vs] []=some (encS (fs l ((mt l i).getD l.length) (i+1)),[]):=fun v hv=>by rw[hv];exact c4 hl hen hD
    refine b2_ok (h4 (view [] ((look (.int i) ks vs).getD (V.int (l.map V.str).length))) (by rw[hgd];rfl)) ?_
    generalize fs l ((mt l i).getD l.length) (i+1)=o at e ⊢
    cases o with
    | none=>exact e false rfl
    | some k=>exact cs_ok (fun h=>e true (congrArg (·||k==2) h)) fun h=>e _ (congrArg (·||k==2) h)
end Mine
end
section
set_option genInjectivity false
set_option genSizeOf false
namespace Mine
abbrev En:=Nat×Option Nat×Bool
noncomputable def encE (e:En):V:=.inst 0 [.int e.1,encS e.2.1,.bool e.2.2]
structure Sk where
  pile:List En
  lost:Nat
  li:Nat
noncomputable def vi (p:List En):Nat:=(p.filter (·.2.2)).length
noncomputable def stk (dp:Nat) (S:Sk) (G:Hp):Hp:=.inst 1 [.int dp,.ref 1,.int S.li,.int S.lost,.int (vi S.pile)]::.list (S.pile.reverse.map encE)::G
variable{d dp:Nat}{S:Sk}{G:Hp}
theorem c8{t:En}{q:List En}(hp:S.pile=t::q):callF TB (d+1) 8 [.ref 0] (stk dp S G)=some (encE t,stk dp S G):=by
  have h:at_ (S.pile.reverse.map encE) (-1)=some (encE t):=by rw[hp];exact at_rev
  exact bd_ok h rfl
noncomputable def fresh (r:Bool) (lv:Nat):Nat:=cs r (lv+1+lv%2) (lv+2 - lv%2)
theorem c9{t:En}{q:List En}{r:Bool}(hp:S.pile=t::q):callF TB (d+2) 9 [.ref 0,.bool r] (stk dp S G)=some (.int (fresh r t.1),stk dp S G):=by
  have e:∀ i:Int,i=(fresh r t.1:Nat)→some (V.int i,stk dp S G)=some (.int (fresh r t.1),stk dp S G):=fun i h=>h▸rfl
  refine b2_ok (c8 hp) ?_
  cases r
  · exact e _ (by rw[fm2];exact(Int.ofNat_sub (Nat.le_trans (Nat.mod_le _ _) (Nat.le_add_right _ _))).symm)
  · exact e _ (by rw[fm2];rfl)
noncomputable abbrev free (dp:Nat) (S:Sk) (f:Nat):Prop:=f≤dp∧S.li=0∧S.lost=0
theorem c10{f:Nat}:callF TB (d+1) 10 [.ref 0,.int f] (stk dp S G)=some (.bool (decide (free dp S f)),stk dp S G):=by
  have e:∀ b,decide (free dp S f)=b→some (V.bool b,stk dp S G)=some (.bool (decide (free dp S f)),stk dp S G):=fun b h=>by rw[h]
  refine cs_d (fun h1=>cs_d (fun h2=>?_) fun h2=>e _ (decide_eq_false fun q=>h2 (congrArg Int.ofNat q.2.1))) fun h1=>e _ (decide_eq_false fun q=>h1 (Int.ofNat_le.mpr q.1))
  by_cases h3:S.lost=0
  · have:=e _ (decide_eq_true ⟨Int.ofNat_le.mp h1,Int.ofNat.inj h2,h3⟩)
    generalize decide (free dp S f)=w at this ⊢
    unfold stk at this ⊢
    rw[h3]at this ⊢;exact this
  · exact(congrArg (fun b=>some (V.bool b,stk dp S G)) (beq_false_of_ne fun q=>h3 (Int.ofNat.inj q))).trans (e _ (decide_eq_false fun q=>h3 q.2.2))
noncomputable def embedS (dp:Nat) (r:Bool) (o:Option Nat) (S:Sk):Sk:=match S.pile with
  | []=>S
  | t::q=>if free dp S (fresh r t.1)then{ S with pile:=(fresh r t.1,o,false)::t::q }else if S.li=0 then{ S with lost:=S.lost+1 }else S
theorem pile_lt{t:En}{q:List En}(hl:q.length<10000):((t::q).reverse.map encE).length<lim:=lm (by rw[List.length_reverse];exact Nat.lt_trans (Nat.succ_lt_succ hl) (by decide))
theorem c11{t:En}{q:List En}{r:Bool}{o:Option Nat}(hp:S.pile=t::q)(hl:q.length<10000):callF TB (d+3) 11 [.ref 0,.bool r,encS o] (stk dp S G)=some (.none,stk dp (embedS dp r o S) G):=by
  obtain⟨p,ls,li⟩:=S
  subst hp
  have e:∀ S',embedS dp r o ⟨t::q,ls,li⟩=S'→some (V.none,stk dp S' G)=some (.none,stk dp (embedS dp r o ⟨t::q,ls,li⟩) G):=fun zz h=>by rw[h]
  refine b2_ok (c9 rfl) (b2_ok c10 (cs_d (fun h=>?_) fun h=>cs_d (fun h2=>?_) fun h2=>e _ ((if_neg h).trans (if_neg fun q=>h2 (congrArg Int.ofNat q)))))
  · have:=e _ (if_pos h)
    unfold stk at this
    rw[←push_rev]at this
    cases o<;>exact gl_ok (pile_lt hl) this
  · exact e _ ((if_neg h).trans (if_pos (Int.ofNat.inj h2)))
noncomputable def isolS (dp:Nat) (r:Bool) (S:Sk):Sk:=match S.pile with
  | []=>S
  | t::q=>if free dp S (fresh r t.1)then{ S with pile:=(fresh r t.1,none,true)::t::q }else{ S with li:=S.li+1 }
theorem c12{t:En}{q:List En}{r:Bool}(hp:S.pile=t::q)(hl:q.length<10000):callF TB (d+3) 12 [.ref 0,.bool r] (stk dp S G)=some (.none,stk dp (isolS dp r S) G):=by
  obtain⟨p,ls,li⟩:=S
  subst hp
  have e:∀ S',isolS dp r ⟨t::q,ls,li⟩=S'→some (V.none,stk dp S' G)=some (.none,stk dp (isolS dp r ⟨t::q,ls,li⟩) G):=fun zz h=>by rw[h]
  refine b2_ok (c9 rfl) (b2_ok c10 (cs_d (fun h=>?_) fun h=>e _ (if_neg h)))
  have:=e _ (if_pos h)
  unfold stk at this
  rw[←push_rev]at this
  exact gl_ok (pile_lt hl) this
theorem pop_rev{t:En}{q:List En}:popL ((t::q).reverse.map encE)=some (q.reverse.map encE,encE t):=by rw[List.reverse_cons];exact pop_m
noncomputable def endEmb (S:Sk):Sk:=if 0<S.li then S else if 0<S.lost then{ S with lost:=S.lost - 1 }else match S.pile with
  | t::u::q=>if t.2.2=true then S else{ S with pile:=u::q }
  | _=>S
theorem c14{t:En}{q:List En}(hp:S.pile=t::q):callF TB (d+2) 14 [.ref 0] (stk dp S G)=some (.none,stk dp (endEmb S) G):=by
  obtain⟨p,ls,li⟩:=S
  subst hp
  have e:∀ S',endEmb ⟨t::q,ls,li⟩=S'→some (V.none,stk dp S' G)=some (.none,stk dp (endEmb ⟨t::q,ls,li⟩) G):=fun zz h=>by rw[h]
  refine cs_d (fun h=>e _ (if_pos (Int.ofNat_lt.mp h))) fun h=>cs_d (fun h2=>?_) fun h2=>b2_ok (c8 rfl) ?_
  · have h2:0<ls:=Int.ofNat_lt.mp h2
    have:=e _ ((if_neg fun q=>h (Int.ofNat_lt.mpr q)).trans (if_pos h2))
    unfold stk at this
    rw[show((ls - 1:Nat):Int)=(ls:Int) - 1 from Int.ofNat_sub h2]at this
    exact this
  · have e:=fun S' k=>e S' ((if_neg fun q=>h (Int.ofNat_lt.mpr q)).trans ((if_neg fun q=>h2 (Int.ofNat_lt.mpr q)).trans k))
    obtain⟨a,b,c⟩:=t
    cases c
    · cases q with
      | nil=>exact e _ rfl
      | cons u q=>
        refine cs_d (fun zz=>?_) fun h=>absurd (show(1:Int)<((((a,b,false)::u::q).reverse.map encE).length:Nat)by rw[List.length_map,List.length_reverse];exact Int.ofNat_lt.mpr (Nat.succ_lt_succ (Nat.succ_pos _))) h
        exact b2_ok pop_rev (e ⟨u::q,ls,li⟩ rfl)
    · refine e _ ?_
      cases q<;>rfl
end Mine
end
section
namespace Mine
noncomputable def popIso:List En→List En
  | []=>[]
  | t::q=>cs t.2.2 q (popIso q)
noncomputable def endIso (S:Sk):Sk:=if 0<S.li then{ S with li:=S.li - 1 }else if 0<vi S.pile then{ S with pile:=popIso S.pile,lost:=0 }else S
noncomputable def okP:List En→Prop
  | []=>False
  | b::q=>match q with
    | []=>b.2.2=false
    | _::_=>okP q
theorem okP_ne{p:List En}(h:okP p):∃ t q,p=t::q:=by
  cases p with
  | nil=>exact h.elim
  | cons t q=>exact⟨t,q,rfl⟩
theorem okP_pop{p:List En}:okP p→0<vi p→okP (popIso p):=by
  induction p with
  | nil=>exact fun h zz=>h.elim
  | cons t q ih=>
    obtain⟨a,b,c⟩:=t
    intro h hv
    cases q with
    | nil=>cases(show c=false from h);exact absurd hv (Nat.lt_irrefl 0)
    | cons u q=>
      cases c
      · exact ih h hv
      · exact h
variable{d dp:Nat}{S:Sk}{G:Hp}
theorem c13(hl:S.pile.length<900):callF TB (d+2) 13 [.ref 0] (stk dp S G)=some (.none,stk dp (endIso S) G):=by
  obtain⟨p,ls,li⟩:=S
  have e:∀ S',endIso ⟨p,ls,li⟩=S'→some (V.none,stk dp S' G)=some (.none,stk dp (endIso ⟨p,ls,li⟩) G):=fun zz h=>by rw[h]
  refine cs_d (fun h=>?_) fun h=>cs_d (fun h2=>?_) fun h2=>e _ ((if_neg fun q=>h (Int.ofNat_lt.mpr q)).trans (if_neg fun q=>h2 (Int.ofNat_lt.mpr q)))
  · have h:0<li:=Int.ofNat_lt.mp h
    have:=e _ (if_pos h)
    unfold stk at this
    rw[show((li - 1:Nat):Int)=(li:Int) - 1 from Int.ofNat_sub h]at this
    exact this
  · have e:=e _ ((if_neg fun q=>h (Int.ofNat_lt.mpr q)).trans (if_pos (Int.ofNat_lt.mp h2)))
    have h2:0<vi p:=Int.ofNat_lt.mp h2
    show exL TB (callF TB (d+1)) ((tb (eb fn13.body)).drop 1) [.ref 0] (stk dp ⟨p,0,li⟩ G) _=_
    generalize some (V.none,stk dp (endIso ⟨p,ls,li⟩) G)=r at *
    refine whil_l (s:=(tb (eb fn13.body)).drop 2) (while_y (fun zz zz=>[.ref 0]) (fun p zz=>stk dp ⟨p,0,li⟩ G) (fun m x=>m=x.length∧popIso x=popIso p∧vi x=vi p) ?_ (n:=turns) (m:=p.length) (Nat.lt_trans hl (by rw[turns_is];decide)) (s:=p) (w:=[]) ⟨rfl,rfl,rfl⟩)
    intro m x _ N ⟨hm,hp,hv⟩ X
    cases x with
    | nil=>rw[←hv]at h2;exact absurd h2 (Nat.lt_irrefl 0)
    | cons t q=>
      obtain⟨a,b,c⟩:=t
      refine b2_ok (c8 rfl) ?_
      cases c
      · exact b2_ok pop_rev (X.next q [] ⟨q.length,by rw[hm];exact Nat.lt_succ_self _,rfl,hp,hv⟩)
      · rw[←hp]at e
        unfold stk at e
        rw[←Int.add_sub_cancel (vi (popIso ((a,b,true)::q)):Int) 1]at e
        exact b2_ok pop_rev e
end Mine
end
section
namespace Mine
noncomputable abbrev isRem (k:Nat):Prop:=k=12∨(14≤k∧k≤18)
noncomputable def stepK (l:List Nat) (dp m:Nat) (S:Sk) (k:Nat):Sk:=
  if k=15 then embedS dp true none S else if k=14 then embedS dp false none S else if k=17 then embedS dp true (some 1) S else if k=16 then embedS dp false (some 0) S
  else if k=18 then endEmb S else if k=22 then endIso S else if isInit k then isolS dp (rightI l m) S else S
noncomputable def stepS (l:List Nat) (dp m:Nat) (S:Sk):Sk:=stepK l dp m S (kd l m)
noncomputable def stAt (l:List Nat) (base dp:Nat):Nat→Sk
  | 0=>⟨[(base,none,false)],0,0⟩
  | m+1=>stepS l dp m (stAt l base dp m)
noncomputable def topE (S:Sk):En:=S.pile.headD (0,none,false)
noncomputable def seeS (l:List Nat) (base dp m:Nat):Sk:=if kd l m=22 then stAt l base dp (m+1)else stAt l base dp m
noncomputable def lvK (base k:Nat) (t:En):Option Nat:=if isRem k then none else if k=13 then some base else some t.1
noncomputable def clK (k:Nat) (t:En):Nat:=if isRem k then 12 else if k=13 then 13 else t.2.1.getD k
noncomputable def lvM (l:List Nat) (base dp m:Nat):Option Nat:=lvK base (kd l m) (topE (seeS l base dp m))
noncomputable def clM (l:List Nat) (base dp m:Nat):Nat:=clK (kd l m) (topE (seeS l base dp m))
noncomputable def lvs (l:List Nat) (base dp:Nat):List (Option Nat):=(List.range l.length).map (lvM l base dp)
noncomputable def cls (l:List Nat) (base dp:Nat):List Nat:=(List.range l.length).map (clM l base dp)
theorem ite_P{α:Type}{c:Prop}[Decidable c]{P:α→Prop}{a b:α}(h1:c→P a)(h2:¬c→P b):P (ite c a b):=by
  by_cases h:c
  · rw[if_pos h];exact h1 h
  · rw[if_neg h];exact h2 h
theorem popIso_le{p:List En}:(popIso p).length≤p.length:=by
  induction p with
  | nil=>exact Nat.le_refl _
  | cons t q ih=>
    obtain⟨a,b,c⟩:=t
    cases c
    · exact Nat.le_succ_of_le ih
    · exact Nat.le_succ _
noncomputable def good (n:Nat) (S:Sk):Prop:=okP S.pile∧S.pile.length≤n
theorem good_step{l:List Nat}{dp m n:Nat}{S:Sk}(h:good n S):good (n+1) (stepS l dp m S):=by
  obtain⟨p,ls,li⟩:=S
  obtain⟨t,q,rfl⟩:=okP_ne h.1
  have push:∀ e ls li,good (n+1) ⟨e::t::q,ls,li⟩:=fun zz zz zz=>⟨h.1,Nat.succ_le_succ h.2⟩
  have keep:∀ ls li,good (n+1) ⟨t::q,ls,li⟩:=fun zz zz=>⟨h.1,Nat.le_succ_of_le h.2⟩
  have em:∀ r o,good (n+1) (embedS dp r o ⟨t::q,ls,li⟩):=fun zz zz=>ite_P (fun zz=>push _ _ _) fun zz=>ite_P (fun zz=>keep _ _) fun zz=>keep _ _
  refine ite_P (fun zz=>em _ _) fun zz=>ite_P (fun zz=>em _ _) fun zz=>ite_P (fun zz=>em _ _) fun zz=>ite_P (fun zz=>em _ _) fun zz=>ite_P (fun zz=>?_) fun zz=>ite_P (fun zz=>?_) fun zz=>ite_P (fun zz=>ite_P (fun zz=>push _ _ _) fun zz=>keep _ _) fun zz=>keep _ _
  · refine ite_P (fun zz=>keep _ _) fun zz=>ite_P (fun zz=>keep _ _) fun zz=>?_
    cases q with
    | nil=>exact keep _ _
    | cons u q=>exact ite_P (fun zz=>keep _ _) fun zz=>⟨h.1,Nat.le_succ_of_le (Nat.le_of_succ_le h.2)⟩
  · exact ite_P (fun zz=>keep _ _) fun zz=>ite_P (fun hv=>⟨okP_pop h.1 hv,Nat.le_succ_of_le (Nat.le_trans popIso_le h.2)⟩) fun zz=>keep _ _
theorem good_at{l:List Nat}{base dp m:Nat}:good (m+1) (stAt l base dp m):=by
  induction m with
  | zero=>exact⟨rfl,Nat.le_refl _⟩
  | succ m ih=>exact good_step ih
theorem okP_at{l:List Nat}{base dp m:Nat}:okP (stAt l base dp m).pile:=good_at.1
theorem in6{x:Nat}:(15==x||(14==x||(17==x||(16==x||(18==x||(12==x||false))))))=decide (x=15∨x=14∨x=17∨x=16∨x=18∨x=12):=in_s (in_s in4)
theorem rem5:∀ k<19,isRem k→(k=15∨k=14∨k=17∨k=16∨k=18∨k=12):=by decide +kernel
theorem rem7{x:Nat}(h:x=15∨x=14∨x=17∨x=16∨x=18∨x=12):isRem x:=by rcases h with rfl|rfl|rfl|rfl|rfl|rfl<;>decide
theorem rem6{x:Nat}(h:¬(x=15∨x=14∨x=17∨x=16∨x=18∨x=12)):¬isRem x:=fun q=>h (rem5 x (q.elim (fun e=>e▸by decide) fun h=>Nat.lt_succ_of_le h.2) q)
noncomputable def exLc (l:List Nat) (base dp:Nat) (w:List V):List V:=[V.lst (l.map V.str),.int base,.int dp,.ref 0,dctM l,.ref 2,.ref 3,slot w 0,slot w 1,slot w 2,slot w 3,slot w 4]
noncomputable def exG (l:List Nat) (base dp m:Nat):Hp:=stk dp (stAt l base dp m) [.list (((List.range m).map (lvM l base dp)).map encB),.list (((List.range m).map (clM l base dp)).map V.str)]
theorem rng_snoc{β:Type}{e:β→V}{f:Nat→β}{m:Nat}:((List.range (m+1)).map f).map e=((List.range m).map f).map e++[e (f m)]:=by rw[List.range_succ,List.map_append,List.map_append];rfl
theorem rng_lt{β:Type}{e:β→V}{f:Nat→β}{m:Nat}(h:m<900):(((List.range m).map f).map e).length<lim:=by rw[List.length_map,List.length_map,List.length_range];exact Nat.lt_trans h (by decide)
section
variable{d dp m x base:Nat}{l:List Nat}{S:Sk}{t:En}{q:List En}{A C:List V}{K:KF}{r:Rs}{a b c:V}
theorem nx_ok{β:Type}{a b r:β}(h:a=r):nx .next a b=r:=h
theorem exTail(hl:l.length<800)(hm:m<l.length)(hx:kd l m=x)(hp:S.pile=t::q)(hq:q.length<10000)(hA:A.length<lim)(hC:C.length<lim)
    (k1:isInit x→∀ w,K .next (exLc l base dp w) (stk dp (isolS dp (rightI l m) S) [.list (A++[.int t.1]),.list (C++[.str (t.2.1.getD x)])])=r)
    (k0:¬isInit x→∀ w,K .next (exLc l base dp w) (stk dp S [.list (A++[.int t.1]),.list (C++[.str (t.2.1.getD x)])])=r) :
    exL TB (callF TB (d+4)) ((eb (eb (fb fn15 4))).drop 1) (exLc l base dp [.int m,.str x,a,b,c]) (stk dp S [.list A,.list C]) K=r:=by
  have fin:∀ c,exL TB (callF TB (d+4)) ((eb (eb (fb fn15 4))).drop 4) (exLc l base dp [.int m,.str x,a,b,c]) (stk dp S [.list (A++[.int t.1]),.list (C++[.str (t.2.1.getD x)])]) K=r:=fun c=>by
    refine cs_ok (fun h=>?_) fun h=>?_
    · rw[in3]at h
      have h:=of_decide_eq_true h
      have h16:=c16 (d:=d+2) (H:=stk dp S [.list (A++[.int t.1]),.list (C++[.str (t.2.1.getD x)])]) (Nat.lt_trans hl (by decide)) hm dI.isd (hx.symm▸h)
      refine b2_ok h16 ?_
      have h12:=c12 (d:=d+1) (r:=rightI l m) (dp:=dp) (S:=S) (G:=[.list (A++[.int t.1]),.list (C++[.str (t.2.1.getD x)])]) hp hq
      have k1:=k1 h [.int m,.str x,a,b,c]
      refine b2_ok h12 ?_
      exact k1
    · rw[in3]at h
      exact k0 (of_decide_eq_false h) [.int m,.str x,a,b,c]
  refine b2_ok (c8 (d:=d+3) (dp:=dp) (S:=S) (G:=[.list A,.list C]) hp) (gl_ok hA ?_)
  obtain⟨tl,to,ti⟩:=t
  cases to
  · exact gl_ok hC (fin (encE (tl,none,ti)))
  · exact gl_ok hC (fin (encE (tl,some _,ti)))
end
theorem frz_i{α:Type}{e:α→V}{n i:Nat}{l:List α}{H:Hp}(he:∀ x H,frz (n+1) (e x) H=some (e x,H))(h:cell H i=some (.list (l.map e))):frz (n+2) (.ref i) H=some (.lst (l.map e),setC H i (.frz (.lst (l.map e)))):=bd_ok h (b2_ok (each_map e he) rfl)
theorem ex_frz{dp:Nat}{S:Sk}{A:List (Option Nat)}{B:List Nat}:frz 8 (.tup [.ref 2,.ref 3]) (stk dp S [.list (A.map encB),.list (B.map V.str)])=some (.tup [.lst (A.map encB),.lst (B.map V.str)],stk dp S [.frz (.lst (A.map encB)),.frz (.lst (B.map V.str))]):=
  b2_ok (b2_ok (frz_i (n:=5) (l:=A) (fun x zz=>by cases x<;>rfl) rfl) (b2_ok (b2_ok (frz_i (n:=5) (l:=B) (fun zz zz=>rfl) rfl) rfl) rfl)) rfl
set_option maxHeartbeats 1600000 in
theorem c15{d:Nat}{H:Hp}{l:List Nat}{base dp:Nat}(hl:l.length<800)(hs:sepLast l):callF TB (d+5) 15 [.lst (l.map V.str),.int base,.int dp] H=some (.tup [.lst ((lvs l base dp).map encB),.lst ((cls l base dp).map V.str)],H):=by
  show exL TB (callF TB (d+4)) (fn15.body.drop 1) [V.lst (l.map V.str),.int base,.int dp,.ref 0,.undef,.undef,.undef,.undef,.undef,.undef,.undef,.undef] (stk dp ⟨[(base,none,false)],0,0⟩ []) (fun fl zz H1=>outK fl H1 fun v H2=>frzK v H2 fun u zz=>some (u,H))=_
  refine b2_ok (c3x (d:=d+3) (Nat.lt_trans hl (by decide)) hs) ?_
  refine for_ke V.str (fun zz w=>exLc l base dp w) (fun m zz=>exG l base dp m) ?_ (fun w=>b2_ok ex_frz rfl) (w:=[])
  intro m x w N hml hat X
  have hkd:=kd_at hat
  have nx:∀ w,N .next (exLc l base dp w) (exG l base dp (m+1))=some (.tup [.lst ((lvs l base dp).map encB),.lst ((cls l base dp).map V.str)],H):=X.next
  clear X hat
  have hm9:m<900:=Nat.lt_trans hml (Nat.lt_trans hl (by decide))
  have hLl:=rng_lt (e:=encB) (f:=lvM l base dp) hm9
  have hCl:=rng_lt (e:=V.str) (f:=clM l base dp) hm9
  have hg:=good_at (l:=l) (base:=base) (dp:=dp) (m:=m)
  have hg2:=good_at (l:=l) (base:=base) (dp:=dp) (m:=m+1)
  unfold exG at nx ⊢
  rw[rng_snoc,rng_snoc]at nx
  generalize some (V.tup [.lst ((lvs l base dp).map encB),.lst ((cls l base dp).map V.str)],H)=r at *
  generalize ((List.range m).map (lvM l base dp)).map encB=A at *
  generalize ((List.range m).map (clM l base dp)).map V.str=C at *
  unfold lvM clM seeS at nx
  have hS1:stAt l base dp (m+1)=stepK l dp m (stAt l base dp m) (kd l m):=rfl
  rw[hkd]at nx hS1
  generalize stAt l base dp m=S at *
  rw[hS1]at nx hg2
  clear hS1
  have hq:∀ {t:En} {q:List En} {S:Sk},good (m+2) S→S.pile=t::q→q.length<10000:=fun h e=>by
    have:=h.2;rw[e]at this;exact Nat.lt_of_le_of_lt (Nat.le_of_succ_le_succ this) (Nat.lt_of_le_of_lt hm9 (by decide))
  obtain⟨t,q,htq⟩:=okP_ne hg.1
  have hq1:=hq ⟨hg.1,Nat.le_succ_of_le hg.2⟩ htq
  refine bx_ok (a:=exLc l base dp [.int m,.str x,slot w 2,slot w 3,slot w 4]) rfl ?_
  refine cs_ok (fun h=>?_) fun h=>?_
  · rw[in6]at h
    clear hg2
    replace nx:∀ w T,stepK l dp m S x=T→N .next (exLc l base dp w) (stk dp T [.list (A++[.none]),.list (C++[.str 12])])=r:=by
      rintro w _ rfl
      have hr:=rem7 (of_decide_eq_true h)
      unfold lvK clK at nx
      rw[if_pos hr,if_pos hr]at nx;exact nx w
    refine gl_ok hLl (gl_ok hCl (nx_ok ?_))
    show exL TB _ _ (exLc l base dp [.int m,.str x,slot w 2,slot w 3,slot w 4]) (stk dp S [.list (A++[.none]),.list (C++[.str 12])]) _=_
    have em:∀ r o,callF TB (d+4) 11 [.ref 0,.bool r,encS o] (stk dp S [.list (A++[.none]),.list (C++[.str 12])])=some (.none,stk dp (embedS dp r o S) [.list (A++[.none]),.list (C++[.str 12])]):=fun r o=>c11 htq hq1
    clear hkd hLl hCl hg hq hm9
    rcases of_decide_eq_true h with rfl|rfl|rfl|rfl|rfl|rfl
    · refine b2_ok (em true none) ?_
      exact nx [.int m,.str 15,.bool true,.none,slot w 4] (embedS dp true none S) rfl
    · refine b2_ok (em false none) ?_
      exact nx [.int m,.str 14,.bool false,.none,slot w 4] (embedS dp false none S) rfl
    · refine b2_ok (em true (some 1)) ?_
      exact nx [.int m,.str 17,.bool true,.str 1,slot w 4] (embedS dp true (some 1) S) rfl
    · refine b2_ok (em false (some 0)) ?_
      exact nx [.int m,.str 16,.bool false,.str 0,slot w 4] (embedS dp false (some 0) S) rfl
    · have e14:callF TB (d+4) 14 [.ref 0] (stk dp S [.list (A++[.none]),.list (C++[.str 12])])=some (.none,stk dp (endEmb S) [.list (A++[.none]),.list (C++[.str 12])]):=c14 htq
      refine b2_ok e14 ?_
      exact nx [.int m,.str 18,slot w 2,slot w 3,slot w 4] (endEmb S) rfl
    · exact nx [.int m,.str 12,slot w 2,slot w 3,slot w 4] S rfl
  · rw[in6]at h
    have h:=of_decide_eq_false h
    have hr:=rem6 h
    unfold lvK clK at nx
    rw[if_neg hr,if_neg hr]at nx
    clear hr
    refine cs_d (fun h13=>?_) fun h13=>?_
    · subst h13
      exact gl_ok hLl (gl_ok hCl (nx [.int m,.str 13,slot w 2,slot w 3,slot w 4]))
    · rw[if_neg h13,if_neg h13]at nx
      refine cs_d (fun hP=>?_) fun hP=>?_
      · subst hP
        have e22:stepK l dp m S 22=endIso S:=rfl
        rw[e22]at nx hg2
        obtain⟨t2,q2,htq2⟩:=okP_ne hg2.1
        have hh:topE (if 22=22 then endIso S else S)=t2:=by rw[if_pos rfl];unfold topE;rw[htq2];rfl
        rw[hh]at nx
        have h13:callF TB (d+4) 13 [.ref 0] (stk dp S [.list A,.list C])=_:=c13 (Nat.lt_of_le_of_lt hg.2 (Nat.lt_of_lt_of_le (Nat.succ_lt_succ hml) (Nat.le_trans hl (by decide))))
        refine b2_ok h13 ?_
        exact exTail hl hml hkd htq2 (hq hg2 htq2) hLl hCl (fun h=>absurd h (by decide)) fun zz w=>nx w
      · have hh:topE (if x=22 then stepK l dp m S x else S)=t:=by rw[if_neg hP];unfold topE;rw[htq];rfl
        rw[hh]at nx
        unfold stepK at nx
        rw[if_neg fun q=>h (.inl q),if_neg fun q=>h (.inr (.inl q)),if_neg fun q=>h (.inr (.inr (.inl q))),if_neg fun q=>h (.inr (.inr (.inr (.inl q)))),if_neg fun q=>h (.inr (.inr (.inr (.inr (.inl q))))),if_neg hP]at nx
        exact exTail hl hml hkd htq hq1 hLl hCl (fun hi w=>by rw[if_pos hi]at nx;exact nx w) fun hi w=>by rw[if_neg hi]at nx;exact nx w
end Mine
end
section
namespace Mine
theorem nth_end{vs:List V}:nth vs vs.length=none:=by
  induction vs with
  | nil=>rfl
  | cons v vs ih=>exact ih
theorem comp_l{α:Type}{f:V→Hp→(Option V→Hp→Rs)→Rs}{l:List α}{H:Hp}{i:Nat}{K:KL}{r:Rs}(e:α→V)(g:α→Option V)(hc:cell H i=some (.lock (l.map e)))
    (h:∀ x∈l,∀ K,f (e x) H K=K (g x) H) (hK:K (l.filterMap g) H=r) {n:Nat} (hn:n=(l.map e).length+1):compK2 f i n 0 H K=r:=by
  rw[hn,List.length_map]
  suffices ∀ (m pre:List α) K,l=pre++m→K (m.filterMap g) H=r→compK2 f i (m.length+1) pre.length H K=r from this l [] K rfl hK
  have hc:lockO (cell H i)=some (l.map e):=by rw[hc];rfl
  intro m
  induction m with
  | nil=>
    intro pre K hl hk
    rw[List.append_nil]at hl
    have:nth (l.map e) pre.length=none:=by rw[hl,←List.length_map (f:=e)];exact nth_end
    exact bx_ok hc (by rw[this];exact hk)
  | cons x m ih=>
    intro pre K hl hk
    refine bx_ok hc ?_
    rw[nth_m (pre_at hl)]
    refine(h x (hl▸List.mem_append_right _ (.head _)) _).trans ?_
    have:=ih (pre++[x]) (fun us H=>K (consO (g x) us) H) (hl.trans (List.append_assoc pre [x] m).symm) (by rw[←hk,List.filterMap_cons];cases g x<;>rfl)
    rw[List.length_append]at this
    exact this
noncomputable def encT (e:En):V:=.tup [.int e.1,encS e.2.1,.bool e.2.2]
noncomputable def isoG (e:En):Option V:=cs e.2.2 (some (encT e)) none
theorem isoG_none{p:List En}:(p.reverse.filterMap isoG).isEmpty=!decide (0<vi p):=by
  rw[List.filterMap_reverse,List.isEmpty_reverse]
  induction p with
  | nil=>rfl
  | cons t q ih=>
    obtain⟨a,b,c⟩:=t
    cases c
    · exact ih
    · rfl
structure Kok(l:List Nat)(base dp m:Nat)(K:List Nat):Prop where
  len:K.length=l.length
  old:∀ i,i<m→lvM l base dp i≠none→K[i]?=some (clM l base dp i)
  new:∀ i,m≤i→K[i]?=l[i]?
section
variable{l:List Nat}{base dp m v:Nat}{K:List Nat}
theorem Kok.same(h:Kok l base dp m K)(hm:m<l.length)(hc:lvM l base dp m≠none→clM l base dp m=kd l m):Kok l base dp (m+1) K:=by
  refine⟨h.len,fun i hi hn=>(Nat.lt_or_eq_of_le (Nat.le_of_lt_succ hi)).elim (fun q=>h.old i q hn) fun he=>?_,fun i hi=>h.new i (Nat.le_of_succ_le hi)⟩
  subst he;rw[h.new i (Nat.le_refl _),hc hn];exact kd_get hm
theorem Kok.set(h:Kok l base dp m K)(hm:m<l.length)(hc:lvM l base dp m≠none→clM l base dp m=v):Kok l base dp (m+1) (K.set m v):=by
  refine⟨by rw[List.length_set];exact h.len,fun i hi hn=>?_,fun i hi=>?_⟩
  · rw[List.getElem?_set]
    by_cases he:m=i
    · subst he;rw[if_pos rfl,if_pos (by rw[h.len];exact hm),hc hn]
    · rw[if_neg he];exact h.old i (Nat.lt_of_le_of_ne (Nat.le_of_lt_succ hi) fun q=>he q.symm) hn
  · rw[List.getElem?_set,if_neg fun q=>absurd hi (by rw[q];exact Nat.not_succ_le_self i)];exact h.new i (Nat.le_of_succ_le hi)
noncomputable def kS (m k:Nat) (t:En) (K:List Nat):List Nat:=if k=13∨(13<k∧k<19)then K else if isInit k then(match t.2.1 with|some o=>K.set m o|none=>K)else K.set m (t.2.1.getD k)
noncomputable def kAt (l:List Nat) (base dp:Nat):Nat→List Nat
  | 0=>l
  | m+1=>kS m (kd l m) (topE (seeS l base dp m)) (kAt l base dp m)
theorem kok_at(h:m≤l.length):Kok l base dp m (kAt l base dp m):=by
  induction m with
  | zero=>exact⟨rfl,fun zz h=>absurd h (Nat.not_lt_zero _),fun zz zz=>rfl⟩
  | succ m ih=>
    have ih:=ih (Nat.le_of_succ_le h)
    have hs:=ih.same h
    have ht:=fun v=>ih.set (v:=v) h
    show Kok l base dp (m+1) (kS m (kd l m) (topE (seeS l base dp m)) (kAt l base dp m))
    unfold lvM clM at hs ht
    generalize topE (seeS l base dp m)=t at *
    generalize kAt l base dp m=K at *
    generalize kd l m=k at *
    have hR:isRem k→lvK base k t=none:=fun h=>if_pos h
    unfold kS
    refine ite_P (P:=Kok l base dp (m+1)) (fun hk=>?_) fun hk=>ite_P (P:=Kok l base dp (m+1)) (fun hi=>?_) fun hi=>?_
    · rcases hk with rfl|hk
      · exact hs fun zz=>rfl
      · exact hs fun q=>absurd (hR (.inr ⟨hk.1,Nat.le_of_lt_succ hk.2⟩)) q
    · have hc:clK k t=t.2.1.getD k:=by rcases hi with rfl|rfl|rfl<;>rfl
      rw[hc]at hs ht
      obtain⟨a,b,c⟩:=t
      cases b
      · exact hs fun zz=>rfl
      · exact ht _ fun zz=>rfl
    · refine ht _ fun hn=>?_
      have hr:¬isRem k:=fun q=>hn (hR q)
      unfold clK
      rw[if_neg hr,if_neg fun q=>hk (.inl q)]
end
end Mine
end
section
namespace Mine
noncomputable def laLc (l:List Nat) (base dp:Nat) (S:Sk) (w:List V):List V:=[V.lst (l.map V.str),.int base,.int dp,dctM l,.ref 0,.int S.lost,.int S.li,.ref 1,.ref 2,slot w 0,slot w 1,slot w 2,slot w 3,slot w 4,slot w 5]
noncomputable def laG (S:Sk) (LV:List V) (K:List Nat):Hp:=[.list (S.pile.reverse.map encT),.list LV,.list (K.map V.str)]
theorem fresh_law{r:Bool}{n:Nat}:fresh r n=if(n+1)%2=cs r 1 0 then n+1 else n+2:=by
  have h:=Nat.add_mod n 1 2
  have e:fresh r n=cs r (n+1+n%2) (n+2 - n%2):=rfl
  rcases Nat.mod_two_eq_zero_or_one n with h2|h2
  · rw[h2]at h e;rw[h,e];cases r<;>rfl
  · rw[h2]at h e;rw[h,e];cases r<;>rfl
theorem fl_b{r:Bool}{n:Nat}:(((n:Int)+1).fmod 2==cs r 1 0)=decide ((n+1)%2=cs r 1 0):=by
  rw[show((n:Int)+1).fmod 2=_ from fm2 (n+1)]
  rcases Nat.mod_two_eq_zero_or_one (n+1)with h|h<;>rw[h]<;>cases r<;>rfl
theorem fl_t{r:Bool}{n:Nat}(h:(!(((n:Int)+1).fmod 2==cs r 1 0))=true):(n:Int)+1+1=(fresh r n:Nat):=by
  rw[fl_b]at h
  rw[fresh_law,if_neg fun q=>by rw[decide_eq_true q]at h;cases h];rfl
theorem fl_f{r:Bool}{n:Nat}(h:(!(((n:Int)+1).fmod 2==cs r 1 0))=false):(n:Int)+1=(fresh r n:Nat):=by
  rw[fl_b]at h
  rw[fresh_law,if_pos (Classical.byContradiction fun q=>by rw[decide_eq_false q]at h;cases h)];rfl
theorem cs3{β:Type}{p:Prop}[Decidable p]{a b c:Bool}{A B r:β}(e:(a&&(b&&c))=decide p)(ht:p→A=r)(hf:¬p→B=r):cs a (cs b (cs c A B) B) B=r:=by
  have:=cs_ok (fun h=>ht (of_decide_eq_true (e.symm.trans h).symm.symm)) (fun h=>hf (of_decide_eq_false (e.symm.trans h))) (b:=a&&(b&&c))
  cases a
  · exact this
  · cases b
    · exact this
    · cases c<;>exact this
noncomputable def opS (dp:Nat) (iso r:Bool) (ov:Option Nat) (S:Sk):Sk:=cs iso (isolS dp r S) (embedS dp r ov S)
theorem free_b{dp f:Nat}{S:Sk}:(decide ((f:Int)≤dp)&&(((S.lost:Int)==0)&&((S.li:Int)==0)))=decide (free dp S f):=by
  rw[Bool.eq_iff_iff,Bool.and_eq_true,Bool.and_eq_true,decide_eq_true_iff,decide_eq_true_iff,beq_iff_eq,beq_iff_eq]
  exact⟨fun h=>⟨Int.ofNat_le.mp h.1,Int.ofNat.inj h.2.2,Int.ofNat.inj h.2.1⟩,fun h=>⟨Int.ofNat_le.mpr h.1,congrArg Int.ofNat h.2.2,congrArg Int.ofNat h.2.1⟩⟩
section
variable{C:Orc}{l K:List Nat}{base dp x m c0 c2:Nat}{iso r:Bool}{S:Sk}{t:En}{q:List En}{LV:List V}{N:KF}{rr:Rs}{b:V}
noncomputable def opB:List St:=tb ((fb fn67 2).drop 1)
noncomputable def ovOf (c0 c2:Nat):Option Nat:=cs (c2==81) (some c0) none
theorem pile_ltT(hq:q.length<10000):((t::q).reverse.map encT).length<lim:=lm (by rw[List.length_reverse];exact Nat.lt_trans (Nat.succ_lt_succ hq) (by decide))
theorem opPush(hp:S.pile=t::q)(hq:q.length<10000)(h2:TB.chr x 2=some c2)(h0:TB.chr x 0=some c0)(hi:iso=true→(c2==81)=false)
    (k:N .next (laLc l base dp (opS dp iso r (ovOf c0 c2) S) [.int m,.str x,encT t,.bool iso,.bool r,.int (fresh r t.1)]) (laG (opS dp iso r (ovOf c0 c2) S) LV K)=rr) :
    exL TB C (opB.drop 6) (laLc l base dp S [.int m,.str x,encT t,.bool iso,.bool r,.int (fresh r t.1)]) (laG S LV K) N=rr:=by
  obtain⟨p,ls,li⟩:=S
  subst hp
  have k2:∀ S',opS dp iso r (ovOf c0 c2) ⟨t::q,ls,li⟩=S'→N .next (laLc l base dp S' [.int m,.str x,encT t,.bool iso,.bool r,.int (fresh r t.1)]) (laG S' LV K)=rr:=by rintro _ rfl;exact k
  clear k
  refine cs3 (free_b (dp:=dp) (f:=fresh r t.1) (S:=⟨t::q,ls,li⟩)) (fun h=>?_) fun h=>?_
  · have k3:∀ o,ovOf c0 c2=o→N .next (laLc l base dp ⟨t::q,ls,li⟩ [.int m,.str x,encT t,.bool iso,.bool r,.int (fresh r t.1)]) [.list ((t::q).reverse.map encT++[encT (fresh r t.1,o,iso)]),.list LV,.list (K.map V.str)]=rr:=by
      rintro _ rfl
      rw[push_rev]
      refine k2 ⟨(fresh r t.1,ovOf c0 c2,iso)::t::q,ls,li⟩ ?_
      cases iso
      · exact if_pos h
      · unfold ovOf;rw[hi rfl];exact if_pos h
    unfold ovOf at k3
    refine bd_ok h2 (cs_ok (fun h8=>bd_ok h0 (gl_ok (pile_ltT hq) ?_)) fun h8=>gl_ok (pile_ltT hq) ?_)
    · exact k3 (some c0) (by rw[h8];rfl)
    · exact k3 none (by rw[h8];rfl)
  · cases iso
    · refine cs_d (fun h2=>?_) fun h2=>?_
      · exact k2 ⟨t::q,ls+1,li⟩ ((if_neg h).trans (if_pos (Int.ofNat.inj h2)))
      · exact k2 ⟨t::q,ls,li⟩ ((if_neg h).trans (if_neg fun q=>h2 (congrArg Int.ofNat q)))
    · exact k2 ⟨t::q,ls,li+1⟩ (if_neg h)
noncomputable def opK (m:Nat) (iso:Bool) (t:En) (K:List Nat):List Nat:=cs iso (match t.2.1 with|some o=>K.set m o|none=>K) K
theorem opTail(hp:S.pile=t::q)(hq:q.length<10000)(h2:TB.chr x 2=some c2)(h0:TB.chr x 0=some c0)(hi:iso=true→(c2==81)=false)(hL:LV.length<lim)(hm:m<K.length)
    (k:∀ f,N .next (laLc l base dp (opS dp iso r (ovOf c0 c2) S) [.int m,.str x,encT t,.bool iso,.bool r,f]) (laG (opS dp iso r (ovOf c0 c2) S) (LV++[cs iso (.int t.1) .none]) (opK m iso t K))=rr) :
    exL TB C (opB.drop 2) (laLc l base dp S [.int m,.str x,encT t,.bool iso,.bool r,b]) (laG S LV K) N=rr:=by
  have fin:∀ n:Int,n=(fresh r t.1:Nat)→exL TB C (opB.drop 4) (laLc l base dp S [.int m,.str x,encT t,.bool iso,.bool r,.int n]) (laG S LV K) N=rr:=by
    rintro _ rfl
    cases iso
    · exact gl_ok hL (opPush hp hq h2 h0 hi (k _))
    · obtain⟨a,b,c⟩:=t
      cases b
      · exact gl_ok hL (opPush hp hq h2 h0 hi (k _))
      · refine gl_ok hL (in_at rfl (lg hm) ?_)
        have:=opPush (C:=C) (x:=x) (m:=m) (LV:=LV++[.int a]) (K:=K.set m _) hp hq h2 h0 hi (k _)
        unfold laG at this
        rw[←put_m]at this
        exact this
  cases r
  · exact cs_ok (fun h=>fin _ (fl_t (r:=false) h)) fun h=>fin _ (fl_f (r:=false) h)
  · exact cs_ok (fun h=>fin _ (fl_t (r:=true) h)) fun h=>fin _ (fl_f (r:=true) h)
end
end Mine
end
section
namespace Mine
section
variable{C:Orc}{l K:List Nat}{base dp x m:Nat}{S:Sk}{t:En}{q:List En}{LV:List V}{N:KF}{rr:Rs}{a b1 b2 b3:V}
theorem opPdf(hp:S.pile=t::q)(hL:LV.length<lim)(k:N .next (laLc l base dp (endEmb S) [a,.str x,encT t,b1,b2,b3]) (laG (endEmb S) (LV++[.none]) K)=rr) :
    exL TB C (tb (eb ((fb fn67 2).drop 1))) (laLc l base dp S [a,.str x,encT t,b1,b2,b3]) (laG S LV K) N=rr:=by
  obtain⟨p,ls,li⟩:=S
  subst hp
  have k2:∀ S',endEmb ⟨t::q,ls,li⟩=S'→N .next (laLc l base dp S' [a,.str x,encT t,b1,b2,b3]) (laG S' (LV++[.none]) K)=rr:=by rintro _ rfl;exact k
  clear k
  refine gl_ok hL ?_
  cases li with
  | succ li=>exact k2 _ (if_pos (Nat.succ_pos _))
  | zero=>
    refine cs_d (fun h=>?_) fun h=>?_
    · have h:0<ls:=Int.ofNat_lt.mp h
      have:=k2 _ ((if_neg (Nat.lt_irrefl 0)).trans (if_pos h))
      unfold laLc at this
      rw[show((ls - 1:Nat):Int)=(ls:Int) - 1 from Int.ofNat_sub h]at this
      exact this
    · have k2:=fun S' k=>k2 S' ((if_neg (Nat.lt_irrefl 0)).trans ((if_neg fun q=>h (Int.ofNat_lt.mpr q)).trans k))
      obtain⟨u,o,c⟩:=t
      cases c
      · cases q with
        | nil=>exact k2 _ rfl
        | cons v q=>
          refine cs_d (fun zz=>b2_ok (show popL (((u,o,false)::v::q).reverse.map encT)=some ((v::q).reverse.map encT,encT (u,o,false))by rw[List.reverse_cons];exact pop_m) (k2 ⟨v::q,ls,0⟩ rfl)) fun h=>absurd ?_ h
          exact show(1:Int)<((((u,o,false)::v::q).reverse.map encT).length:Nat)by rw[List.length_map,List.length_reverse];exact Int.ofNat_lt.mpr (Nat.succ_lt_succ (Nat.succ_pos _))
      · refine k2 ⟨(u,o,true)::q,ls,0⟩ ?_
        cases q<;>rfl
noncomputable def pdB:List St:=tb (eb (eb ((fb fn67 2).drop 1)))
theorem popT:popL ((t::q).reverse.map encT)=some (q.reverse.map encT,encT t):=by rw[List.reverse_cons];exact pop_m
theorem isoG_held{p:List En}(hl:p.length<900):(decide ((p.reverse.filterMap isoG).length<lim)&&(p.reverse.filterMap isoG).all flatV)=true:=by
  rw[decide_eq_true (Nat.lt_of_le_of_lt (List.length_filterMap_le _ _) (by rw[List.length_reverse];exact Nat.lt_trans hl (by decide))),Bool.true_and,List.all_eq_true]
  intro v hv
  obtain⟨⟨u,o,c⟩,_,he⟩:=List.mem_filterMap.mp hv
  cases c
  · cases he
  · cases he;cases o<;>rfl
theorem opPdi{t':En}{q':List En}(hp:S.pile=t::q)(hl:S.pile.length<900)(hL:LV.length<lim)(hm:m<K.length)(ht:(endIso S).pile=t'::q')
    (k:N .next (laLc l base dp (endIso S) [.int m,.str x,a,b1,b2,b3]) (laG (endIso S) (LV++[.int t'.1]) (K.set m (t'.2.1.getD x)))=rr) :
    exL TB C pdB (laLc l base dp S [.int m,.str x,a,b1,b2,b3]) (laG S LV K) N=rr:=by
  have fin:∀ S',endIso S=S'→exL TB C (pdB.drop 1) (laLc l base dp S' [.int m,.str x,a,b1,b2,b3]) (laG S' LV K) N=rr:=by
    rintro _ rfl
    have h:at_ ((endIso S).pile.reverse.map encT) (-1)=some (encT t'):=by rw[ht];exact at_rev
    refine bd_ok h (gl_ok hL (bd_ok h ?_))
    unfold laG at k
    rw[←put_m]at k
    obtain⟨u,o,c⟩:=t'
    cases o
    · exact in_at rfl (lg hm) k
    · exact bd_ok h (in_at rfl (lg hm) k)
  obtain⟨p,ls,li⟩:=S
  refine cs_d (fun h=>?_) fun h=>?_
  · have h:0<li:=Int.ofNat_lt.mp h
    have:=fin _ (if_pos h)
    unfold laLc at this
    rw[show((li - 1:Nat):Int)=(li:Int) - 1 from Int.ofNat_sub h]at this
    exact this
  · have fin:=fun S' k=>fin S' ((if_neg fun q=>h (Int.ofNat_lt.mpr q)).trans k)
    refine comp_l encT isoG (l:=p.reverse) rfl ?_ ?_ rfl
    · intro e _ K;obtain⟨u,o,c⟩:=e;cases c<;>rfl
    refine gd_ok (isoG_held hl) (bd_ok eqV_nil (cs_ok (fun h2=>?_) fun h2=>?_))
    · rw[isoG_none,Bool.not_not]at h2
      have h2:=of_decide_eq_true h2
      have fin:=fin _ (if_pos h2)
      show exL TB C ((tb (eb pdB)).drop 1) (laLc l base dp ⟨p,0,li⟩ [.int m,.str x,a,b1,b2,b3]) (laG ⟨p,0,li⟩ LV K) _=_
      refine whil_l (s:=(tb (eb pdB)).drop 2) (while_y (fun zz zz=>laLc l base dp ⟨p,0,li⟩ [.int m,.str x,a,b1,b2,b3]) (fun y zz=>laG ⟨y,0,li⟩ LV K) (fun j y=>j=y.length∧popIso y=popIso p∧vi y=vi p) ?_ (n:=turns) (m:=p.length) (Nat.lt_trans hl (by rw[turns_is];decide)) (s:=p) (w:=[]) ⟨rfl,rfl,rfl⟩)
      intro j y _ N ⟨hj,hp,hv⟩ X
      cases y with
      | nil=>rw[←hv]at h2;exact absurd h2 (Nat.lt_irrefl 0)
      | cons t q=>
        obtain⟨u,o,c⟩:=t
        refine bd_ok at_rev ?_
        cases c
        · exact b2_ok popT (X.next q [] ⟨q.length,by rw[hj];exact Nat.lt_succ_self _,rfl,hp,hv⟩)
        · rw[←hp]at fin
          exact b2_ok popT fin
    · rw[isoG_none,Bool.not_not]at h2
      exact fin _ (if_neg (of_decide_eq_false h2))
theorem la_frz{P:List V}{A:List (Option Nat)}{B:List Nat}:frz 8 (.tup [.ref 1,.ref 2]) [.list P,.list (A.map encB),.list (B.map V.str)]=some (.tup [.lst (A.map encB),.lst (B.map V.str)],[.list P,.frz (.lst (A.map encB)),.frz (.lst (B.map V.str))]):=
  b2_ok (b2_ok (frz_i (n:=5) (l:=A) (fun x zz=>by cases x<;>rfl) rfl) (b2_ok (b2_ok (frz_i (n:=5) (l:=B) (fun zz zz=>rfl) rfl) rfl) rfl)) rfl
theorem opElse(hp:S.pile=t::q)(hL:LV.length<lim)(hm:m<K.length)(hx:x≠13)
    (k:N .next (laLc l base dp S [.int m,.str x,encT t,b1,b2,b3]) (laG S (LV++[if x=12 then .none else .int t.1]) (K.set m (t.2.1.getD x)))=rr) :
    exL TB C (eb (eb (eb ((fb fn67 2).drop 1)))) (laLc l base dp S [.int m,.str x,encT t,b1,b2,b3]) (laG S LV K) N=rr:=by
  have fin:∀ v,(if x=12 then V.none else .int t.1)=v→exL TB C ((eb (eb (eb (eb ((fb fn67 2).drop 1))))).drop 1) (laLc l base dp S [.int m,.str x,encT t,b1,b2,b3]) (laG S (LV++[v]) K) N=rr:=by
    rintro _ rfl
    unfold laG at k
    rw[←put_m]at k
    obtain⟨u,o,c⟩:=t
    cases o
    · exact in_at rfl (lg hm) k
    · exact in_at rfl (lg hm) k
  refine cs_d (fun h=>absurd h hx) fun zz=>cs_d (fun h=>?_) fun h=>?_
  · exact gl_ok hL (fin _ (if_pos h))
  · exact gl_ok hL (fin _ (if_neg h))
end
theorem in7{x:Nat}:(14==x||(16==x||(15==x||(17==x||(19==x||(20==x||(21==x||false)))))))=decide (x=14∨x=16∨x=15∨x=17∨x=19∨x=20∨x=21):=in_s (in_s (in_s in4))
theorem op5:∀ k<19,13<k→k=15∨k=14∨k=17∨k=16∨k=18∨k=12:=by decide +kernel
theorem opFsi{d:Nat}{H:Hp}{l:List Nat}{base dp m:Nat}{S:Sk}{t b:V}{N:KF}{r:Rs}(hl:l.length<800)(hs:sepLast l)(hkd:kd l m=21)
    (go:exL TB (callF TB (d+1)) (opB.drop 2) (laLc l base dp S [.int m,.str 21,t,.bool true,.bool (rightI l m),b]) H N=r) :
    exL TB (callF TB (d+1)) (opB.drop 1) (laLc l base dp S [.int m,.str 21,t,.bool true,.bool false,b]) H N=r:=by
  have hen:(mt l m).getD l.length≤l.length:=by
    cases hm:mt l m with
    | none=>exact Nat.le_refl _
    | some j=>exact Nat.le_of_lt (mt_init hm (hkd.symm▸.inr (.inr rfl))).en
  have hgd:(look (.int m) (dAt l l.length).1 (dAt l l.length).2).getD (.int (l.map V.str).length)=.int ((mt l m).getD l.length:Nat):=by rw[(show isD _ _ (mt l)from dI.isd) m,List.length_map];cases mt l m<;>rfl
  have h66:∀ v,v=V.int ((mt l m).getD l.length:Nat)→callF TB (d+1) 66 [.lst (l.map V.str),dctM l,.int (m+1:Nat),v] H=some (encB ((fs l ((mt l m).getD l.length) (m+1)).map st),H):=fun v hv=>by rw[hv];exact c66 (Nat.lt_trans hl (by decide)) hs hen dI.isd
  refine b2_ok (h66 (view H ((look (.int m) (dAt l l.length).1 (dAt l l.length).2).getD (.int (l.map V.str).length))) (by rw[hgd];rfl)) ?_
  have hr:rightI l m=if kd l m=21 then(match fs l ((mt l m).getD l.length) (m+1)with|some k=>k==1||k==2|none=>false)else kd l m==20:=rfl
  rw[if_pos hkd]at hr
  clear h66 hgd hen hkd
  generalize rightI l m=R at hr go
  have hle:=fun k=>fs_le (l:=l) (en:=(mt l m).getD l.length) (a:=m+1) (k:=k) (Nat.le_refl _)
  generalize fs l ((mt l m).getD l.length) (m+1)=o at *
  cases o with
  | none=>cases(show R=false from hr);exact go
  | some k=>
    rcases le2 (hle k rfl)with rfl|rfl|rfl
    · cases(show R=false from hr);exact go
    · cases(show R=true from hr);exact go
    · cases(show R=true from hr);exact go
theorem c67{d:Nat}{H:Hp}{l:List Nat}{base dp:Nat}(hl:l.length<800)(hs:sepLast l):callF TB (d+2) 67 [.lst (l.map V.str),.int base,.int dp] H=some (.tup [.lst ((lvs l base dp).map encB),.lst ((kAt l base dp l.length).map V.str)],H):=by
  refine b2_ok (c65x (d:=d) (Nat.lt_trans hl (by decide))) ?_
  refine gl_ok (lm (Nat.lt_trans hl (by decide))) ?_
  refine for_ke V.str (fun m w=>laLc l base dp (stAt l base dp m) w) (fun m zz=>laG (stAt l base dp m) (((List.range m).map (lvM l base dp)).map encB) (kAt l base dp m)) ?_ (fun w=>b2_ok la_frz rfl) (w:=[])
  intro m x w N hml hat X
  have hkd:=kd_at hat
  have nx:∀ w,N .next (laLc l base dp (stAt l base dp (m+1)) w) (laG (stAt l base dp (m+1)) (((List.range (m+1)).map (lvM l base dp)).map encB) (kAt l base dp (m+1)))=some (.tup [.lst ((lvs l base dp).map encB),.lst ((kAt l base dp l.length).map V.str)],H):=X.next
  clear X hat
  have hm9:m<900:=Nat.lt_trans hml (Nat.lt_trans hl (by decide))
  have hLl:=rng_lt (e:=encB) (f:=lvM l base dp) hm9
  have hmK:=(kok_at (base:=base) (dp:=dp) (Nat.le_of_lt hml)).len▸hml
  have hg:=good_at (l:=l) (base:=base) (dp:=dp) (m:=m)
  have hg2:=good_at (l:=l) (base:=base) (dp:=dp) (m:=m+1)
  rw[rng_snoc]at nx
  generalize some (V.tup [.lst ((lvs l base dp).map encB),.lst ((kAt l base dp l.length).map V.str)],H)=r at *
  generalize ((List.range m).map (lvM l base dp)).map encB=A at *
  have hK:kAt l base dp (m+1)=kS m (kd l m) (topE (seeS l base dp m)) (kAt l base dp m):=rfl
  have hS1:stAt l base dp (m+1)=stepK l dp m (stAt l base dp m) (kd l m):=rfl
  rw[hK]at nx
  unfold lvM seeS at nx
  rw[hkd]at nx hS1
  generalize kAt l base dp m=K at *
  generalize stAt l base dp m=S at *
  rw[hS1]at nx hg2
  clear hS1 hK
  obtain⟨t,q,htq⟩:=okP_ne hg.1
  have hq:q.length<10000:=by
    have:=hg.2;rw[htq]at this;exact Nat.lt_of_le_of_lt (Nat.le_of_succ_le_succ this) (Nat.lt_trans hm9 (by decide))
  have hat:at_ (S.pile.reverse.map encT) (-1)=some (encT t):=by rw[htq];exact at_rev
  refine bx_ok (a:=laLc l base dp S [.int m,.str x,slot w 2,slot w 3,slot w 4,slot w 5]) rfl (bd_ok hat ?_)
  show exL TB _ ((fb fn67 2).drop 1) (laLc l base dp S [.int m,.str x,encT t,slot w 3,slot w 4,slot w 5]) (laG S A K) N=r
  clear hat
  by_cases hP:x=22
  · subst hP
    have e22:stepK l dp m S 22=endIso S:=rfl
    rw[e22]at nx hg2
    obtain⟨t2,q2,htq2⟩:=okP_ne hg2.1
    have hh:topE (if 22=22 then endIso S else S)=t2:=by rw[if_pos rfl];unfold topE;rw[htq2];rfl
    rw[hh]at nx
    exact opPdi htq (Nat.lt_of_le_of_lt hg.2 (Nat.lt_of_lt_of_le (Nat.succ_lt_succ hml) (Nat.le_trans hl (by decide)))) hLl hmK htq2 (nx _)
  replace nx:∀ T L Kx,stepK l dp m S x=T→encB (lvK base x t)=L→kS m x t K=Kx→∀ w,N .next (laLc l base dp T w) (laG T (A++[L]) Kx)=r:=by
    rintro _ _ _ rfl rfl rfl
    have hh:topE (if x=22 then stepK l dp m S x else S)=t:=by rw[if_neg hP];unfold topE;rw[htq];rfl
    rw[hh]at nx;exact nx
  clear hg hg2
  refine cs_ok (fun h=>?_) fun h=>?_
  · rw[in7]at h
    have go:∀ {c0 c2 iso r'},TB.chr x 2=some c2→TB.chr x 0=some c0→(iso=true→(c2==81)=false)→stepK l dp m S x=opS dp iso r' (ovOf c0 c2) S→encB (lvK base x t)=cs iso (.int t.1) .none→kS m x t K=opK m iso t K→
        exL TB (callF TB (d+1)) (opB.drop 2) (laLc l base dp S [.int m,.str x,encT t,.bool iso,.bool r',slot w 5]) (laG S A K) (fun fl loc H=>Mine.nx fl (exL TB (callF TB (d+1)) [] loc H N) (N fl loc H))=r:=
      fun h2 h0 hi e1 e2 e3=>opTail htq hq h2 h0 hi hLl hmK fun f=>nx _ _ _ e1 e2 e3 _
    have hR:∀ b,rightI l m=b→isolS dp (rightI l m) S=isolS dp b S:=fun zz h=>by rw[h]
    have hr:rightI l m=if kd l m=21 then(match fs l ((mt l m).getD l.length) (m+1)with|some k=>k==1||k==2|none=>false)else kd l m==20:=rfl
    rw[hkd]at hr
    clear nx hLl hmK
    rcases of_decide_eq_true h with rfl|rfl|rfl|rfl|rfl|rfl|rfl
    · exact go (c0:=0) (c2:=85) (iso:=false) (r':=false) rfl rfl (fun h=>by cases h) rfl rfl rfl
    · exact go (c0:=0) (c2:=81) (iso:=false) (r':=false) rfl rfl (fun h=>by cases h) rfl rfl rfl
    · exact go (c0:=1) (c2:=85) (iso:=false) (r':=true) rfl rfl (fun h=>by cases h) rfl rfl rfl
    · exact go (c0:=1) (c2:=81) (iso:=false) (r':=true) rfl rfl (fun h=>by cases h) rfl rfl rfl
    · exact go (c0:=0) (c2:=80) (iso:=true) (r':=false) rfl rfl (fun zz=>rfl) (hR false hr) rfl rfl
    · exact go (c0:=1) (c2:=80) (iso:=true) (r':=true) rfl rfl (fun zz=>rfl) (hR true hr) rfl rfl
    · have go:=go (c0:=82) (c2:=80) (iso:=true) (r':=rightI l m) rfl rfl (fun zz=>rfl) rfl rfl rfl
      exact opFsi hl hs hkd go
  · rw[in7]at h
    have h:=of_decide_eq_false h
    refine cs_d (fun h18=>?_) fun h18=>cs_d (fun h=>absurd h hP) fun zz=>?_
    · subst h18
      exact opPdf htq hLl (nx (endEmb S) .none K rfl rfl rfl _)
    · by_cases h13:x=13
      · subst h13
        exact gl_ok hLl (nx S (.int base) K rfl rfl rfl [.int m,.str 13,encT t,slot w 3,slot w 4,slot w 5])
      · have n4:=fun q=>h (.inl q)
        have n6:=fun q=>h (.inr (.inl q))
        have n5:=fun q=>h (.inr (.inr (.inl q)))
        have n7:=fun q=>h (.inr (.inr (.inr (.inl q))))
        have hi:¬isInit x:=fun q=>h (.inr (.inr (.inr (.inr q))))
        have n12:x≠12→¬(x=15∨x=14∨x=17∨x=16∨x=18∨x=12):=fun q h=>h.elim n5 fun h=>h.elim n4 fun h=>h.elim n7 fun h=>h.elim n6 fun h=>h.elim h18 q
        refine opElse htq hLl hmK h13 (nx S _ _ ?_ ?_ ?_ _)
        · exact(if_neg n5).trans ((if_neg n4).trans ((if_neg n7).trans ((if_neg n6).trans ((if_neg h18).trans ((if_neg hP).trans (if_neg hi))))))
        · by_cases h12:x=12
          · subst h12;rfl
          · rw[if_neg h12,show lvK base x t=some t.1 from(if_neg (rem6 (n12 h12))).trans (if_neg h13)];rfl
        · refine(if_neg fun q=>q.elim h13 fun q=>?_).trans (if_neg hi)
          exact n12 (fun e=>absurd (e▸q.1) (by decide)) (op5 x q.2 q.1)
end Mine
end
section
namespace Mine
noncomputable def nI (S:Sk):Nat:=vi S.pile+S.li
section
variable{l:List Nat}{base dp m k f n:Nat}{r:Bool}{o:Option Nat}{S:Sk}{P p:List En}
theorem vi_pop(h:0<vi p):vi p=vi (popIso p)+1:=by
  induction p with
  | nil=>exact absurd h (Nat.lt_irrefl 0)
  | cons t q ih=>
    obtain⟨a,b,c⟩:=t
    cases c
    · exact ih h
    · rfl
theorem stepInit(h:isInit k):stepK l dp m S k=isolS dp (rightI l m) S:=by rcases h with rfl|rfl|rfl<;>rfl
theorem stepK_P{P:Sk→Prop}(h22:k=22→P (endIso S))(hi:isInit k→P (isolS dp (rightI l m) S))(he:∀ r o,P (embedS dp r o S))(hp:P (endEmb S))(h:P S):P (stepK l dp m S k):=
  ite_P (fun zz=>he _ _) fun zz=>ite_P (fun zz=>he _ _) fun zz=>ite_P (fun zz=>he _ _) fun zz=>ite_P (fun zz=>he _ _) fun zz=>ite_P (fun zz=>hp) fun zz=>ite_P h22 fun zz=>ite_P hi fun zz=>h
theorem embed_P{P:Sk→Prop}{t:En}{q:List En}{ls li:Nat}(h1:free dp ⟨t::q,ls,li⟩ (fresh r t.1)→P ⟨(fresh r t.1,o,false)::t::q,ls,li⟩)(h2:li=0→P ⟨t::q,ls+1,li⟩)(h:P ⟨t::q,ls,li⟩):P (embedS dp r o ⟨t::q,ls,li⟩):=
  ite_P h1 fun zz=>ite_P h2 fun zz=>h
theorem endEmb_P{P:Sk→Prop}{t:En}{q:List En}{ls li:Nat}(h2:P ⟨t::q,ls - 1,li⟩)(h3:li=0→∀ u s,q=u::s→t.2.2=false→P ⟨q,ls,li⟩)(h:P ⟨t::q,ls,li⟩):P (endEmb ⟨t::q,ls,li⟩):=by
  refine ite_P (fun zz=>h) fun h1=>ite_P (fun zz=>h2) fun zz=>?_
  cases q with
  | nil=>exact h
  | cons u s=>exact ite_P (fun zz=>h) fun ht=>h3 (Nat.eq_zero_of_not_pos h1) u s rfl (Bool.eq_false_iff.mpr ht)
theorem step_nI(hk:okP S.pile)(h:¬isInit k)(h2:k≠22):nI (stepK l dp m S k)=nI S:=by
  obtain⟨p,ls,li⟩:=S
  obtain⟨t,q,rfl⟩:=okP_ne hk
  refine stepK_P (P:=fun S':Sk=>nI S'=nI ⟨t::q,ls,li⟩) (fun q=>absurd q h2) (fun q=>absurd q h) (fun zz zz=>embed_P (P:=fun S':Sk=>nI S'=nI ⟨t::q,ls,li⟩) (fun zz=>rfl) (fun zz=>rfl) rfl) (endEmb_P (P:=fun S':Sk=>nI S'=nI ⟨t::q,ls,li⟩) rfl (fun zz u s hq ht=>?_) rfl) rfl
  obtain⟨a,b,c⟩:=t
  cases ht;rfl
theorem isol_nI(hk:okP S.pile):nI (isolS dp r S)=nI S+1:=by
  obtain⟨p,ls,li⟩:=S
  obtain⟨t,q,rfl⟩:=okP_ne hk
  exact ite_P (P:=fun S':Sk=>nI S'=nI ⟨t::q,ls,li⟩+1) (fun zz=>Nat.add_right_comm _ 1 _) fun zz=>rfl
theorem endIso_nI:nI (endIso S)=nI S - 1:=by
  obtain⟨p,ls,li⟩:=S
  refine ite_P (P:=fun S':Sk=>nI S'=nI ⟨p,ls,li⟩ - 1) (fun h=>(Nat.add_sub_assoc h _).symm) fun h=>ite_P (P:=fun S':Sk=>nI S'=nI ⟨p,ls,li⟩ - 1) (fun h2=>?_) fun h2=>?_
  · cases Nat.eq_zero_of_not_pos h;exact(congrArg (· - 1) (vi_pop h2)).symm
  · show vi p+li=vi p+li - 1
    rw[show li=0 from Nat.eq_zero_of_not_pos h,show vi p=0 from Nat.eq_zero_of_not_pos h2]
theorem open_len:(opAt l m).length=nI (stAt l base dp m):=by
  induction m with
  | zero=>rfl
  | succ m ih=>
    have hok:okP (stAt l base dp m).pile:=okP_at
    show _=nI (stepK l dp m (stAt l base dp m) (kd l m))
    generalize stAt l base dp m=S at *
    by_cases hi:isInit (kd l m)
    · rw[opAt_init hi,stepInit hi,isol_nI hok,List.length_append,ih];rfl
    · by_cases h22:kd l m=22
      · rw[opAt_pdi h22,h22,List.length_dropLast,ih];exact endIso_nI.symm
      · rw[opAt_else hi h22,step_nI hok hi h22,ih]
theorem fresh_lt:n<fresh r n:=by
  have h:=Nat.mod_lt n (y:=2) (by decide)
  cases r
  · exact Nat.lt_sub_of_add_lt (Nat.add_lt_add_left h n)
  · exact Nat.lt_of_lt_of_le (Nat.lt_succ_self n) (Nat.le_add_right _ _)
theorem popIso_app{R:List En}:(∃ R',popIso (R++(f,none,true)::P)=R'++(f,none,true)::P∧∀ x∈R',x∈R)∨popIso (R++(f,none,true)::P)=P:=by
  induction R with
  | nil=>exact .inr rfl
  | cons t R ih=>
    obtain⟨a,b,c⟩:=t
    cases c
    · exact ih.imp (fun ⟨R',h1,h2⟩=>⟨R',h1,fun x hx=>.tail _ (h2 x hx)⟩) id
    · exact .inl ⟨R,rfl,fun x hx=>.tail _ hx⟩
theorem vi_app{R:List En}:vi (R++(f,none,true)::P)=vi R+(vi P+1):=by
  unfold vi;rw[List.filter_append,List.length_append];rfl
noncomputable def over (f:Nat) (P p:List En):Prop:=∃ R,p=R++(f,none,true)::P∧∀ x∈R,f≤x.1
theorem over_top(h:over f P p):∃ t q,p=t::q∧f≤t.1:=by
  obtain⟨R,rfl,hR⟩:=h
  cases R with
  | nil=>exact⟨_,P,rfl,Nat.le_refl _⟩
  | cons t R=>exact⟨t,_,rfl,hR t (.head _)⟩
theorem over_push{e:En}(h:over f P p)(he:f≤e.1):over f P (e::p):=by
  obtain⟨R,rfl,hR⟩:=h
  exact⟨e::R,rfl,fun x hx=>(List.mem_cons.mp hx).elim (fun q=>q▸he) (hR x)⟩
theorem over_step(h:over f P S.pile)(hv:k=22→vi P<nI (endIso S)):over f P (stepK l dp m S k).pile:=by
  obtain⟨p,ls,li⟩:=S
  obtain⟨t,q,hp,ht⟩:=over_top h
  cases hp
  have push:∀ {r b c},over f P ((fresh r t.1,b,c)::t::q):=over_push h (Nat.le_trans ht (Nat.le_of_lt fresh_lt))
  refine stepK_P (P:=fun S':Sk=>over f P S'.pile) (fun h22=>?_) (fun zz=>ite_P (P:=fun S':Sk=>over f P S'.pile) (fun zz=>push) fun zz=>h) (fun zz zz=>embed_P (P:=fun S':Sk=>over f P S'.pile) (fun zz=>push) (fun zz=>h) h) (endEmb_P (P:=fun S':Sk=>over f P S'.pile) h (fun zz u s hq ht=>?_) h) h
  · have hv:=hv h22
    revert hv
    refine ite_P (P:=fun S':Sk=>vi P<nI S'→over f P S'.pile) (fun zz zz=>h) fun h1=>ite_P (P:=fun S':Sk=>vi P<nI S'→over f P S'.pile) (fun h2 hv=>?_) fun zz zz=>h
    obtain⟨R,hp,hR⟩:=h
    cases Nat.eq_zero_of_not_pos h1
    have hv:vi P<vi (popIso (t::q)):=hv
    show over f P (popIso (t::q))
    rw[show t::q=_ from hp]at hv ⊢
    rcases popIso_app (f:=f) (P:=P) (R:=R)with⟨R',h3,h4⟩|h3
    · rw[h3];exact⟨R',rfl,fun x hx=>hR x (h4 x hx)⟩
    · rw[h3]at hv;exact absurd hv (Nat.lt_irrefl _)
  · obtain⟨R,hp,hR⟩:=h
    cases R with
    | nil=>cases hp;cases ht
    | cons v R=>exact⟨R,(List.cons.inj hp).2,fun x hx=>hR x (.tail _ hx)⟩
theorem step_li(hk:okP S.pile)(h:0<S.li):(stepK l dp m S k).pile=S.pile:=by
  obtain⟨p,ls,li⟩:=S
  obtain⟨t,q,rfl⟩:=okP_ne hk
  have h0:li≠0:=Nat.ne_of_gt h
  exact stepK_P (P:=fun S':Sk=>S'.pile=t::q) (fun zz=>ite_P (P:=fun S':Sk=>S'.pile=t::q) (fun zz=>rfl) fun q=>absurd h q) (fun zz=>ite_P (P:=fun S':Sk=>S'.pile=_::_) (fun q=>absurd q.2.1 h0) fun zz=>rfl)
    (fun zz zz=>embed_P (P:=fun S':Sk=>S'.pile=t::q) (fun q=>absurd q.2.1 h0) (fun q=>absurd q h0) rfl) (endEmb_P (P:=fun S':Sk=>S'.pile=t::q) rfl (fun q=>absurd q h0) rfl) rfl
theorem lvK_some{x:Nat}{t:En}(h:lvK base k t=some x)(h13:k≠13):x=t.1:=by
  revert h
  exact ite_P (P:=fun o=>o=some x→x=t.1) (fun zz h=>by cases h) fun zz=>ite_P (P:=fun o=>o=some x→x=t.1) (fun q=>absurd q h13) fun zz h=>(Option.some.inj h).symm
end
set_option tactic.hygienic true in
theorem pair_lv{l:List Nat}{base dp b e:Nat}(hs:sepLast l)(h:PrI l b e):∃ v,lvM l base dp b=some v∧lvM l base dp e=some v∧((∀ m,b<m→m<e→∀ x,lvM l base dp m=some x→x=v)∨(∀ m,b<m→m<e→∀ x,lvM l base dp m=some x→v<x)):=by
  have hbe:=h.lt
  have hSb:stAt l base dp (b+1)=isolS dp (rightI l b) (stAt l base dp b):=stepInit h.ini
  have hSe:stAt l base dp (e+1)=endIso (stAt l base dp e):=by show stepK l dp e _ (kd l e)=_;rw[h.pdi];rfl
  have hlb:lvM l base dp b=some (topE (stAt l base dp b)).1:=by
    have:=h.ini
    unfold lvM seeS;rcases this with h|h|h<;>rw[h]<;>rfl
  have hle:lvM l base dp e=some (topE (stAt l base dp (e+1))).1:=by unfold lvM seeS;rw[h.pdi];rfl
  have hokb:okP (stAt l base dp b).pile:=okP_at
  have hn:nI (stAt l base dp e)=nI (stAt l base dp b)+1:=by rw[←open_len,←open_len,h.top]
  have hout:∀ m,b<m→m≤e→nI (stAt l base dp b)<nI (stAt l base dp m):=fun m h1 h2=>by rw[←open_len,←open_len];exact h.out m h1 h2
  have hin:∀ m,b<m→m<e→∀ x,lvM l base dp m=some x→x=(topE (seeS l base dp m)).1:=fun m h1 h2 x hx=>lvK_some hx fun h13=>by
    have:=hs m (by rw[kd_get (Nat.lt_trans h2 h.en),h13])
    exact Nat.ne_of_lt (Nat.lt_of_le_of_lt (Nat.succ_le_of_lt h2) h.en) this
  have hsee:∀ m,b<m→m<e→∃ k,b+1≤k∧k≤e∧seeS l base dp m=stAt l base dp k:=fun m h1 h2=>by
    unfold seeS
    by_cases q:kd l m=22
    · exact⟨m+1,Nat.le_succ_of_le h1,h2,if_pos q⟩
    · exact⟨m,h1,Nat.le_of_lt h2,if_neg q⟩
  clear h hs
  have hst:∀ k,stAt l base dp (k+1)=stepK l dp k (stAt l base dp k) (kd l k):=fun zz=>rfl
  obtain⟨t,q,hp⟩:=okP_ne hokb
  have htop:topE (stAt l base dp b)=t:=by unfold topE;rw[hp];rfl
  refine⟨t.1,by rw[hlb,htop],?_⟩
  rw[hle,hSe]
  generalize stAt l base dp b=B at *
  obtain⟨p,ls,li⟩:=B
  cases hp
  by_cases hf:free dp ⟨t::q,ls,li⟩ (fresh (rightI l b) t.1)
  · 
    have hS1:=hSb.trans (if_pos hf)
    have hftop:t.1<fresh (rightI l b) t.1:=fresh_lt
    have hli:li=0:=hf.2.1
    generalize fresh (rightI l b) t.1=f at *
    subst hli
    have key:∀ m,b+1≤m→m≤e→over f (t::q) (stAt l base dp m).pile:=by
      intro m h1
      induction h1 with
      | refl=>exact fun zz=>⟨[],congrArg Sk.pile hS1,nofun⟩
      | step h1 ih=>
        rename_i m
        intro h2
        have ho:=hout (m+1) (Nat.lt_succ_of_lt h1) h2
        rw[hst]at ho ⊢
        exact over_step (ih (Nat.le_of_succ_le h2)) fun h22=>by rw[h22]at ho;exact ho
    refine⟨?_,.inr fun m h1 h2 x hx=>?_⟩
    · obtain⟨R,hR,-⟩:=key e hbe (Nat.le_refl _)
      clear key hin hsee hout hst hSb hS1 hlb hle hSe
      generalize stAt l base dp e=E at *
      obtain⟨p,ls2,li2⟩:=E
      cases hR
      have hn:vi (R++(f,none,true)::t::q)+li2=vi (t::q)+1:=hn
      rw[vi_app]at hn
      have hl2:li2=0:=by omega
      have hR0:vi R=0:=by omega
      subst hl2
      have:endIso ⟨R++(f,none,true)::t::q,ls2,0⟩=⟨popIso (R++(f,none,true)::t::q),0,0⟩:=(if_neg (Nat.lt_irrefl 0)).trans (if_pos (by rw[vi_app];exact Nat.succ_pos _))
      have hv:=vi_pop (p:=R++(f,none,true)::t::q) (by rw[vi_app];exact Nat.succ_pos _)
      refine(congrArg (fun E=>some (topE E).1) this).trans ?_
      rcases popIso_app (f:=f) (P:=t::q) (R:=R)with⟨R',h3,-⟩|h3
      · rw[h3,vi_app,vi_app,hR0]at hv;omega
      · exact congrArg (fun p=>some (topE ⟨p,0,0⟩).1) h3
    · rw[hin m h1 h2 x hx]
      obtain⟨k,h3,h4,h5⟩:=hsee m h1 h2
      obtain⟨t',q',hp',ht'⟩:=over_top (key k h3 h4)
      rw[h5];unfold topE;rw[hp'];exact Nat.lt_of_lt_of_le hftop ht'
  · 
    have hS1:=hSb.trans (if_neg hf)
    have pos:∀ m,b<m→m≤e→(stAt l base dp m).pile=t::q→0<(stAt l base dp m).li:=fun m h1 h2 h3=>by
      have:=hout m h1 h2
      unfold nI at this
      rw[h3]at this
      exact Nat.lt_of_le_of_lt (Nat.zero_le _) (Nat.lt_of_add_lt_add_left this)
    have key:∀ m,b+1≤m→m≤e→(stAt l base dp m).pile=t::q:=by
      intro m h1
      induction h1 with
      | refl=>exact fun zz=>congrArg Sk.pile hS1
      | step h1 ih=>
        rename_i m
        intro h2
        have ih:=ih (Nat.le_of_succ_le h2)
        rw[hst,step_li okP_at (pos m h1 (Nat.le_of_succ_le h2) ih)]
        exact ih
    have hpe:=key e hbe (Nat.le_refl _)
    refine⟨?_,.inl fun m h1 h2 x hx=>?_⟩
    · have:=pos e hbe (Nat.le_refl _) hpe
      generalize stAt l base dp e=E at *
      unfold topE endIso
      rw[if_pos this]
      show some (E.pile.headD _).1=_
      rw[hpe];rfl
    · rw[hin m h1 h2 x hx]
      obtain⟨k,h3,h4,h5⟩:=hsee m h1 h2
      rw[h5];unfold topE;rw[key k h3 h4];rfl
end Mine
end
section
namespace Mine
noncomputable def addLast (rs:List (List Nat)) (m:Nat):List (List Nat):=match rs.getLast? with
  | some r=>rs.dropLast++[r++[m]]
  | none=>rs
theorem addLast_snoc{q:List (List Nat)}{r:List Nat}{m:Nat}:addLast (q++[r]) m=q++[r++[m]]:=by
  unfold addLast;rw[List.getLast?_concat];simp
noncomputable def runsAt (f:Nat→Option Nat):Nat→List (List Nat)×Option Nat
  | 0=>([],none)
  | m+1=>match f m with
    | none=>runsAt f m
    | some v=>if(runsAt f m).2=some v then(addLast (runsAt f m).1 m,some v)else((runsAt f m).1++[[m]],some v)
noncomputable def starts (f:Nat→Option Nat) (j:Nat):Prop:=∃ v,f j=some v∧∀ k,k<j→(∀ x,k<x→x<j→f x=none)→f k≠some v
noncomputable def endsB (f:Nat→Option Nat) (m i:Nat):Prop:=∃ v,f i=some v∧∀ k,i<k→k<m→(∀ x,i<x→x<k→f x=none)→f k≠some v
structure Ri(f:Nat→Option Nat)(m:Nat)(rs:List (List Nat))(la:Option Nat):Prop where
  non:la=none→rs=[]∧∀ k,k<m→f k=none
  som:∀ v,la=some v→∃ q r k,rs=q++[r]∧r.getLast?=some k∧k<m∧f k=some v∧∀ j,k<j→j<m→f j=none
  lev:∀ r∈rs,r≠[]∧∃ v,∀ k∈r,k<m∧f k=some v
  hea:∀ j,(∃ r∈rs,r.head?=some j)↔j<m∧starts f j
  las:∀ i,(∃ r∈rs,r.getLast?=some i)↔i<m∧endsB f m i
  ord:∀ r∈rs,∀ j i,r.head?=some j→r.getLast?=some i→j≤i
  few:rs.length≤m
  sma:∀ r∈rs,r.length≤m
  brd:∀ q r,rs=q++[r]→∀ x∈q,∀ y∈x,∀ z∈r,y<z
theorem nos{α:Type}{v:α}{C:Prop}(h:none=some v):C:=by cases h
theorem all_snoc{α:Type}{P:α→Prop}{q:List α}{r:α}(h1:∀ x∈q,P x)(h2:P r):∀ x∈q++[r],P x:=fun x h=>(List.mem_append.1 h).elim (h1 x) fun h=>(List.mem_singleton.1 h).symm▸h2
theorem ex_snoc{α:Type}{P:α→Prop}{q:List α}{r:α}:(∃ x∈q++[r],P x)↔(∃ x∈q,P x)∨P r:=
  ⟨fun h=>h.elim fun x h=>(List.mem_append.1 h.1).elim (fun g=>.inl ⟨x,g,h.2⟩) fun g=>.inr (List.mem_singleton.1 g▸h.2),fun h=>h.elim (fun h=>h.elim fun x h=>⟨x,List.mem_append.2 (.inl h.1),h.2⟩) fun h=>⟨r,List.mem_append.2 (.inr (List.mem_singleton.2 rfl)),h⟩⟩
theorem snoc_inj{α:Type}{q s:List α}{r t:α}(h:q++[r]=s++[t]):q=s∧r=t:=⟨(List.append_inj' h rfl).1,List.head_eq_of_cons_eq (List.append_inj' h rfl).2⟩
theorem snoc_l{α:Type}{q:List α}{r x:α}(h:x∈q):x∈q++[r]:=List.mem_append.2 (.inl h)
theorem snoc_r{α:Type}{q:List α}{r:α}:r∈q++[r]:=List.mem_append.2 (.inr (List.mem_singleton.2 rfl))
theorem lt_or{m k:Nat}(h:k<m+1):k<m∨k=m:=Nat.lt_or_eq_of_le (Nat.le_of_lt_succ h)
section
variable{f:Nat→Option Nat}{m i v:Nat}{rs:List (List Nat)}{la:Option Nat}
theorem endsB_up(h:(∀ x,i<x→x<m→f x=none)→f m≠f i)(e:endsB f m i):endsB f (m+1) i:=
  e.elim fun w e=>⟨w,e.1,fun x g1 g2 g3=>(lt_or g2).elim (fun g2=>e.2 x g1 g2 g3) fun g=>by subst g;exact fun q=>h g3 (q.trans e.1.symm)⟩
theorem endsB_dn(e:endsB f (m+1) i):endsB f m i:=e.elim fun w e=>⟨w,e.1,fun x g1 g2=>e.2 x g1 (Nat.lt_succ_of_lt g2)⟩
theorem endsB_top(hm:f m=some v):endsB f (m+1) m:=⟨v,hm,fun k h1 h2=>absurd h1 (Nat.not_lt.2 (Nat.le_of_lt_succ h2))⟩
theorem lev_up{r:List Nat}(h:r≠[]∧∃ v,∀ k∈r,k<m∧f k=some v):r≠[]∧∃ v,∀ k∈r,k<m+1∧f k=some v:=
  ⟨h.1,h.2.elim fun v h=>⟨v,fun k hk=>⟨Nat.lt_succ_of_lt (h k hk).1,(h k hk).2⟩⟩⟩
theorem Ri_none(ih:Ri f m rs la)(hm:f m=none):Ri f (m+1) rs la where
  non h:=⟨(ih.non h).1,fun k hk=>(lt_or hk).elim ((ih.non h).2 k) fun e=>e.symm▸hm⟩
  som v h:=(ih.som v h).elim fun q h=>h.elim fun r h=>h.elim fun k h=>⟨q,r,k,h.1,h.2.1,Nat.lt_succ_of_lt h.2.2.1,h.2.2.2.1,fun j h1 h2=>(lt_or h2).elim (h.2.2.2.2 j h1) fun e=>e.symm▸hm⟩
  lev r hr:=lev_up (ih.lev r hr)
  hea j:=(ih.hea j).trans ⟨fun h=>⟨Nat.lt_succ_of_lt h.1,h.2⟩,fun h=>⟨(lt_or h.1).elim id fun e=>h.2.elim fun w g=>nos (hm.symm.trans (e▸g.1)),h.2⟩⟩
  las i:=(ih.las i).trans ⟨fun h=>⟨Nat.lt_succ_of_lt h.1,endsB_up (fun zz e=>h.2.elim fun w g=>nos (hm.symm.trans (e.trans g.1))) h.2⟩,fun h=>⟨(lt_or h.1).elim id fun e=>h.2.elim fun w g=>nos (hm.symm.trans (e▸g.1)),endsB_dn h.2⟩⟩
  ord:=ih.ord
  few:=Nat.le_succ_of_le ih.few
  sma r hr:=Nat.le_succ_of_le (ih.sma r hr)
  brd:=ih.brd
theorem Ri.near(ih:Ri f m rs la)(hla:la≠some v)(hk:i<m)(hb:∀ x,i<x→x<m→f x=none):f i≠some v:=fun hkv=>by
  cases la with
  | none=>exact nos (((ih.non rfl).2 i hk).symm.trans hkv)
  | some w=>
    exact(ih.som w rfl).elim fun q h=>h.elim fun r h=>h.elim fun k h=>(Nat.lt_trichotomy k i).elim (fun g=>nos ((h.2.2.2.2 i g hk).symm.trans hkv))
      fun g=>g.elim (fun g=>hla (h.2.2.2.1.symm.trans (g▸hkv))) fun g=>nos ((hb k g h.2.2.1).symm.trans h.2.2.2.1)
theorem Ri_new(ih:Ri f m rs la)(hm:f m=some v)(hla:la≠some v):Ri f (m+1) (rs++[[m]]) (some v) where
  non h:=nos h.symm
  som w h:=⟨rs,[m],m,rfl,rfl,Nat.lt_succ_self m,hm.trans h,fun j h1 h2=>absurd h1 (Nat.not_lt.2 (Nat.le_of_lt_succ h2))⟩
  lev:=all_snoc (fun x hx=>lev_up (ih.lev x hx)) ⟨List.cons_ne_nil _ _,v,fun k hk=>(List.mem_singleton.1 hk).symm▸⟨Nat.lt_succ_self m,hm⟩⟩
  hea j:=ex_snoc.trans ⟨fun h=>h.elim (fun h=>⟨Nat.lt_succ_of_lt ((ih.hea j).1 h).1,((ih.hea j).1 h).2⟩) fun h=>Option.some.inj h▸⟨Nat.lt_succ_self m,v,hm,fun k hk hb=>ih.near hla hk hb⟩,
    fun h=>(lt_or h.1).elim (fun g=>.inl ((ih.hea j).2 ⟨g,h.2⟩)) fun g=>.inr (congrArg some g.symm)⟩
  las i:=ex_snoc.trans ⟨fun h=>h.elim (fun h=>⟨Nat.lt_succ_of_lt ((ih.las i).1 h).1,endsB_up (fun hb e=>ih.near hla ((ih.las i).1 h).1 hb (e.symm.trans hm)) ((ih.las i).1 h).2⟩) fun h=>Option.some.inj h▸⟨Nat.lt_succ_self m,endsB_top hm⟩,
    fun h=>(lt_or h.1).elim (fun g=>.inl ((ih.las i).2 ⟨g,endsB_dn h.2⟩)) fun g=>.inr (congrArg some g.symm)⟩
  ord:=all_snoc ih.ord fun j i g1 g2=>Nat.le_of_eq ((Option.some.inj g1).symm.trans (Option.some.inj g2))
  few:=(List.length_append ..).symm▸Nat.succ_le_succ ih.few
  sma:=all_snoc (fun x hx=>Nat.le_succ_of_le (ih.sma x hx)) (Nat.succ_le_succ (Nat.zero_le m))
  brd q r he x hx y hy z hz:=by
    obtain⟨rfl,rfl⟩:=snoc_inj he
    exact(ih.lev x hx).2.elim fun w g=>(List.mem_singleton.1 hz).symm▸(g y hy).1
theorem Ri_same{q:List (List Nat)}{r:List Nat}{k:Nat}(ih:Ri f m (q++[r]) (some v))(hm:f m=some v)(hl:r.getLast?=some k)(hk:k<m)(hkv:f k=some v)(hn:∀ j,k<j→j<m→f j=none):Ri f (m+1) (q++[r++[m]]) (some v):=
  have hr:∀ x∈r++[m],x<m+1∧f x=some v:=all_snoc (fun x hx=>(ih.lev r snoc_r).2.elim fun w g=>⟨Nat.lt_succ_of_lt (g x hx).1,(g x hx).2.trans ((g k (List.mem_of_getLast? hl)).2.symm.trans hkv)⟩) ⟨Nat.lt_succ_self m,hm⟩
  have hd:(r++[m]).head?=r.head?:=by
    cases r with
    | nil=>exact absurd rfl (ih.lev _ snoc_r).1
    | cons a b=>rfl
  { non:=fun h=>nos h.symm
    som:=fun w h=>⟨q,r++[m],m,rfl,List.getLast?_concat,Nat.lt_succ_self m,hm.trans h,fun j h1 h2=>absurd h1 (Nat.not_lt.2 (Nat.le_of_lt_succ h2))⟩
    lev:=all_snoc (fun x hx=>lev_up (ih.lev x (snoc_l hx))) ⟨List.append_ne_nil_of_right_ne_nil _ (List.cons_ne_nil _ _),v,hr⟩
    hea:=fun j=>ex_snoc.trans (hd.symm▸ex_snoc.symm.trans ((ih.hea j).trans ⟨fun h=>⟨Nat.lt_succ_of_lt h.1,h.2⟩,fun h=>⟨(lt_or h.1).elim id fun e=>h.2.elim fun w g=>absurd (hkv.trans (hm.symm.trans (e▸g.1))) (g.2 k (e.symm▸hk) (e.symm▸hn)),h.2⟩⟩))
    las:=fun i=>ex_snoc.trans ⟨fun h=>h.elim (fun h=>⟨Nat.lt_succ_of_lt ((ih.las i).1 (ex_snoc.2 (.inl h))).1,endsB_up (fun hb zz=>h.elim fun x h=>nos ((hb k (ih.brd q r rfl x h.1 i (List.mem_of_getLast? h.2) k (List.mem_of_getLast? hl)) hk).symm.trans hkv)) ((ih.las i).1 (ex_snoc.2 (.inl h))).2⟩)
        fun h=>Option.some.inj (List.getLast?_concat.symm.trans h)▸⟨Nat.lt_succ_self m,endsB_top hm⟩,
      fun h=>(lt_or h.1).elim (fun g=>(ex_snoc.1 ((ih.las i).2 ⟨g,endsB_dn h.2⟩)).elim .inl fun g=>h.2.elim fun w e=>by
        cases Option.some.inj (hl.symm.trans g)
        exact absurd (hm.trans (hkv.symm.trans e.1)) (e.2 m hk (Nat.lt_succ_self m) hn)) fun g=>.inr (g.symm▸List.getLast?_concat)⟩
    ord:=all_snoc (fun x hx=>ih.ord x (snoc_l hx)) fun j i g1 g2=>Option.some.inj (List.getLast?_concat.symm.trans g2)▸Nat.le_of_lt_succ (hr j (List.mem_of_head? g1)).1
    few:=Nat.le_succ_of_le (((List.length_append (as:=q) (bs:=[r++[m]])).trans (List.length_append (as:=q) (bs:=[r])).symm)▸ih.few)
    sma:=all_snoc (fun x hx=>Nat.le_succ_of_le (ih.sma x (snoc_l hx))) ((List.length_append ..).symm▸Nat.succ_le_succ (ih.sma r snoc_r))
    brd:=fun q' r' he x hx y hy=>by
      obtain⟨rfl,rfl⟩:=snoc_inj he
      exact all_snoc (fun z hz=>ih.brd q r rfl x hx y hy z hz) ((ih.lev x (snoc_l hx)).2.elim fun w g=>(g y hy).1) }
end
theorem Ri_all{f:Nat→Option Nat}{m:Nat}:Ri f m (runsAt f m).1 (runsAt f m).2:=by
  induction m with
  | zero=>exact⟨fun zz=>⟨rfl,fun k h=>absurd h (Nat.not_lt_zero k)⟩,fun v h=>nos h,fun r h=>absurd h List.not_mem_nil,fun j=>⟨fun h=>h.elim fun x h=>absurd h.1 List.not_mem_nil,fun h=>absurd h.1 (Nat.not_lt_zero j)⟩,fun j=>⟨fun h=>h.elim fun x h=>absurd h.1 List.not_mem_nil,fun h=>absurd h.1 (Nat.not_lt_zero j)⟩,fun r h=>absurd h List.not_mem_nil,Nat.le_refl 0,fun r h=>absurd h List.not_mem_nil,fun q r h=>absurd h.symm (List.append_ne_nil_of_right_ne_nil _ (List.cons_ne_nil _ _))⟩
  | succ m ih=>
    unfold runsAt
    cases hm:f m with
    | none=>exact Ri_none ih hm
    | some v=>
      by_cases hla:(runsAt f m).2=some v
      · dsimp only
        rw[if_pos hla]
        obtain⟨q,r,k,h1,h2,h3,h4,h5⟩:=ih.som v hla
        rw[h1,hla]at ih
        rw[h1,addLast_snoc]
        exact Ri_same ih hm h2 h3 h4 h5
      · dsimp only
        rw[if_neg hla]
        exact Ri_new ih hm hla
end Mine
end
section
namespace Mine
theorem near_before{f:Nat→Option Nat}{b e:Nat}(hbe:b<e)(hb:f b≠none):∃ k,b≤k∧k<e∧f k≠none∧∀ x,k<x→x<e→f x=none:=by
  induction e with
  | zero=>lia
  | succ e ih=>
    cases he:f e with
    | some v=>exact⟨e,by lia,by lia,by rw[he];simp,fun x zz zz=>by lia⟩
    | none=>
      by_cases h:b=e
      · subst h;exact absurd he hb
      · obtain⟨k,h1,h2,h3,h4⟩:=ih (by lia)
        refine⟨k,h1,by lia,h3,fun x hx hx2=>?_⟩
        by_cases hxe:x=e
        · subst hxe;exact he
        · exact h4 x hx (by lia)
theorem near_after{f:Nat→Option Nat}{b e:Nat}:∀ n,e=b+1+n→f e≠none→∃ k,b<k∧k≤e∧f k≠none∧∀ x,b<x→x<k→f x=none:=by
  intro n
  induction n generalizing b with
  | zero=>intro he hf;exact⟨e,by lia,by lia,hf,fun x zz zz=>by lia⟩
  | succ n ih=>
    intro he hf
    cases hb:f (b+1)with
    | some v=>exact⟨b+1,by lia,by lia,by rw[hb];simp,fun x zz zz=>by lia⟩
    | none=>
      obtain⟨k,h1,h2,h3,h4⟩:=ih (b:=b+1) (by lia) hf
      refine⟨k,by lia,h2,h3,fun x hx hx2=>?_⟩
      by_cases hxe:x=b+1
      · subst hxe;exact hb
      · exact h4 x (by lia) hx2
theorem pair_ends{f:Nat→Option Nat}{n b e v:Nat}(hbe:b<e)(hen:e<n)(hb:f b=some v)(he:f e=some v)(hin:(∀ m,b<m→m<e→∀ x,f m=some x→x=v)∨(∀ m,b<m→m<e→∀ x,f m=some x→v<x)):starts f e↔endsB f n b:=by
  constructor
  · rintro⟨v',h1,h2⟩
    rw[he]at h1;cases h1
    refine⟨v,hb,fun k g1 g2 g3 g4=>?_⟩
    obtain⟨k0,a1,a2,a3,a4⟩:=near_before (f:=f) hbe (by rw[hb];simp)
    have a5:=h2 k0 a2 a4
    have hne:k0≠b:=by rintro rfl;exact a5 hb
    cases hw:f k0 with
    | none=>exact a3 hw
    | some w=>
      rcases hin with h|h
      · rw[hw,h k0 (by lia) a2 w hw]at a5;exact a5 rfl
      · have hk:k≤k0:=by
          by_cases hk:k≤k0
          · exact hk
          · rw[g3 k0 (by lia) (by lia)]at hw;cases hw
        have:=h k g1 (by lia) v g4
        lia
  · rintro⟨v',h1,h2⟩
    rw[hb]at h1;cases h1
    refine⟨v,he,fun k g1 g2 g3=>?_⟩
    rcases Nat.lt_trichotomy k b with h|h|h
    · rw[g2 b h hbe]at hb;cases hb
    · subst h;exact h2 e g1 hen g2 he
    · rcases hin with h3|h3
      · obtain⟨k1,a1,a2,a3,a4⟩:=near_after (f:=f) (b:=b) (e:=e) (e - b - 1) (by lia) (by rw[he];simp)
        have a5:=h2 k1 a1 (by lia) a4
        cases hw:f k1 with
        | none=>exact a3 hw
        | some w=>
          by_cases hk:k1=e
          · subst hk;exact a5 he
          · rw[hw,h3 k1 a1 (by lia) w hw]at a5;exact a5 rfl
      · have:=h3 k h g1 v g3;lia
noncomputable def lf (L:List (Option Nat)) (i:Nat):Option Nat:=(L[i]?).getD none
noncomputable def runs (L:List (Option Nat)):List (List Nat):=(runsAt (lf L) L.length).1
noncomputable def encR (r:List Nat):V:=.lst (r.map encN)
noncomputable def refs (n:Nat):List V:=(List.range' 1 n).map V.ref
noncomputable def rcel (r:List Nat):O:=.list (r.map encN)
noncomputable def rheap (rs:List (List Nat)):Hp:=.list (refs rs.length)::rs.map rcel
theorem refs_succ{n:Nat}:refs (n+1)=refs n++[.ref (n+1)]:=by
  unfold refs;rw[List.range'_1_concat,List.map_append,Nat.add_comm 1];rfl
theorem refs_length{n:Nat}:(refs n).length=n:=by unfold refs;rw[List.length_map,List.length_range']
theorem cell_app{A B:Hp}{o:O}:cell (A++o::B) A.length=some o:=by
  induction A with
  | nil=>rfl
  | cons a A ih=>exact ih
theorem setC_app{A B:Hp}{o o':O}:setC (A++o::B) A.length o'=A++o'::B:=by
  induction A with
  | nil=>rfl
  | cons a A ih=>exact congrArg (a::·) ih
theorem frz_cells{n:Nat}{rs:List (List Nat)}(A:Hp):eachS (frz (n+2)) ((List.range' A.length rs.length).map V.ref) (A++rs.map rcel)=some (rs.map encR,A++rs.map fun r=>.frz (encR r)):=by
  induction rs generalizing A with
  | nil=>rfl
  | cons r rs ih=>
    have ih:=ih (A++[.frz (encR r)])
    rw[List.length_append,List.append_assoc,List.append_assoc]at ih
    have h:=frz_i (e:=encN) (n:=n) (i:=A.length) (l:=r) (H:=A++rcel r::rs.map rcel) (fun zz zz=>rfl) cell_app
    rw[setC_app]at h
    exact b2_ok h (b2_ok ih rfl)
theorem frz_rheap{n:Nat}{rs:List (List Nat)}:frz (n+3) (.ref 0) (rheap rs)=some (.lst (rs.map encR),.frz (.lst (rs.map encR))::rs.map fun r=>.frz (encR r)):=
  b2_ok (frz_cells (n:=n) (rs:=rs) [.list (refs rs.length)]) rfl
theorem rheap_push{rs:List (List Nat)}:O.list (refs rs.length++[.ref (rheap rs).length])::(rs.map rcel++[.list []])=rheap (rs++[[]]):=by
  unfold rheap;rw[List.length_append,List.map_append,show rs.length+[([]:List Nat)].length=rs.length+1 from rfl,refs_succ,List.length_cons,List.length_map];rfl
theorem ox_n{α β:Type}{x:Option α}{f:α→β}{e r:β}(h:x=none)(g:e=r):ox x f e=r:=by subst h;exact g
theorem app_last{C:Orc}{a b c:V}{m n:Nat}{T:Hp}{r:List Nat}{N:KF}{rr:Rs}(hc:cell T n=some (rcel r))(hr:r.length<lim)(k:N .next [a,.ref 0,b,.int m,c] (.list (refs (n+1))::setC T n (rcel (r++[m])))=rr) :
    exS TB C (.expr (.meth (.item (.var 1) (.neg (.int 1))) 0 [.frz (.var 3)])) [a,.ref 0,b,.int m,c] (.list (refs (n+1))::T) N=rr:=by
  have hat:at_ (refs (n+1)) (-1)=some (.ref (n+1)):=by
    unfold refs;rw[List.range'_1_concat,Nat.add_comm 1];exact at_end
  have hv:view (.list (refs (n+1))::T) (.ref (n+1))=.ref (n+1):=by
    show(match cell T n with|some (.frz v)=>v|_=>_)=_
    rw[hc];rfl
  have hcon:con (.list (refs (n+1))::T) (.ref (n+1))=.lst (r.map encN):=by
    show(match cell T n with|some (.list vs)=>V.lst vs|some (.lock vs)=>.lst vs|some (.dict ks vs)=>.dct ks vs|some (.inst c vs)=>.inst c vs|some (.frz v)=>v|none=>.undef)=_
    rw[hc];rfl
  refine bd_ok hat ?_
  rw[hv]
  refine ox_n (by rw[hcon];rfl) (gx_ok (by show(lstC (con _ _)).isSome=true;rw[hcon];rfl) (bx_ok hc (gl_ok (lm hr) ?_)))
  unfold rcel at k
  rw[←app_m]at k
  exact k
theorem rheap_cell{q:List (List Nat)}{r:List Nat}:cell ((q++[r]).map rcel) q.length=some (rcel r):=by
  have:=cell_app (A:=q.map rcel) (o:=rcel r) (B:=[])
  rw[List.length_map]at this;rw[List.map_append];exact this
theorem rheap_set{q:List (List Nat)}{r r':List Nat}:setC ((q++[r]).map rcel) q.length (rcel r')=(q++[r']).map rcel:=by
  have:=setC_app (A:=q.map rcel) (o:=rcel r) (o':=rcel r') (B:=[])
  rw[List.length_map]at this;rw[List.map_append,List.map_append];exact this
theorem grow17{C:Orc}{a la:V}{m v:Nat}{q:List (List Nat)}{s:List Nat}{N:KF}{r:Rs}(hs:s.length<lim)(k:N .next [a,.ref 0,.int v,.int m,.int v] (rheap (q++[s++[m]]))=r) :
    exL TB C ((tb (fb fn17 2)).drop 1) [a,.ref 0,la,.int m,.int v] (rheap (q++[s])) N=r:=by
  have e:∀ s:List Nat,rheap (q++[s])=.list (refs (q.length+1))::(q++[s]).map rcel:=fun s=>by unfold rheap;rw[List.length_append];rfl
  rw[e]at k ⊢
  rw[←rheap_set (r:=s)]at k
  exact app_last rheap_cell hs k
theorem c17{d:Nat}{H:Hp}{L:List (Option Nat)}(hl:L.length<900):callF TB (d+1) 17 [.lst (L.map encB)] H=some (.lst ((runs L).map encR),H):=by
  refine for_ke encB (fun k w=>[.lst (L.map encB),.ref 0,encB (runsAt (lf L) k).2,slot w 0,slot w 1]) (fun k zz=>rheap (runsAt (lf L) k).1) ?_ (fun w=>b2_ok frz_rheap rfl) (w:=[.undef,.undef])
  intro m x w N hml hat X
  have hf:lf L m=x:=by unfold lf;rw[hat];rfl
  have hR:=Ri_all (f:=lf L) (m:=m)
  have nx:∀ w,N .next [.lst (L.map encB),.ref 0,encB (runsAt (lf L) (m+1)).2,slot w 0,slot w 1] (rheap (runsAt (lf L) (m+1)).1)=some (.lst ((runs L).map encR),H):=X.next
  clear X hat
  generalize some (V.lst ((runs L).map encR),H)=r at *
  cases x with
  | none=>
    have e:runsAt (lf L) (m+1)=runsAt (lf L) m:=by rw[runsAt,hf]
    rw[e]at nx
    exact nx [.int m,.none]
  | some v=>
    have e:runsAt (lf L) (m+1)=if(runsAt (lf L) m).2=some v then(addLast (runsAt (lf L) m).1 m,some v)else((runsAt (lf L) m).1++[[m]],some v):=by rw[runsAt,hf]
    rw[e]at nx
    clear e hf
    have nx:=nx [.int m,.int v]
    have hm:m<lim:=Nat.lt_trans hml (Nat.lt_trans hl (by decide))
    generalize runsAt (lf L) m=S at *
    obtain⟨rs,la⟩:=S
    have hR:Ri (lf L) m rs la:=hR
    cases la with
    | none=>
      rw[if_neg (fun h=>by cases h)]at nx
      refine gl_ok (by rw[refs_length];exact Nat.lt_of_le_of_lt hR.few hm) ?_
      exact(congrArg (fun H=>exL TB (callF TB d) ((tb (fb fn17 2)).drop 1) [.lst (L.map encB),.ref 0,.none,.int m,.int v] H N) rheap_push).trans (grow17 (Nat.zero_lt_of_lt hm) nx)
    | some u=>
      refine cs_ok (fun h=>?_) fun h=>?_
      · rw[if_neg fun e=>by rw[Option.some.inj e]at h;exact absurd h (by rw[beq_self_eq_true];decide)]at nx
        refine gl_ok (by rw[refs_length];exact Nat.lt_of_le_of_lt hR.few hm) ?_
        exact(congrArg (fun H=>exL TB (callF TB d) ((tb (fb fn17 2)).drop 1) [.lst (L.map encB),.ref 0,.int u,.int m,.int v] H N) rheap_push).trans (grow17 (Nat.zero_lt_of_lt hm) nx)
      · have huv:u=v:=Int.ofNat.inj (eq_of_beq (Bool.not_eq_eq_eq_not.mp h)).symm
        subst huv
        obtain⟨q,s,-,h1,-⟩:=hR.som u rfl
        rw[if_pos rfl,h1,addLast_snoc]at nx
        rw[h1]
        exact grow17 (Nat.lt_of_le_of_lt (hR.sma s (h1▸List.mem_append_right _ (.head _))) hm) nx
end Mine
end
section
namespace Mine
theorem runs_sorted{f:Nat→Option Nat}{m:Nat}:∀ r∈(runsAt f m).1,r.Pairwise (·<·):=by
  induction m with
  | zero=>intro r h;cases h
  | succ m ih=>
    have hR:=Ri_all (f:=f) (m:=m)
    unfold runsAt
    cases hm:f m with
    | none=>exact ih
    | some v=>
      simp only
      by_cases hla:(runsAt f m).2=some v
      · rw[if_pos hla]
        obtain⟨q,r,k,h1,-⟩:=hR.som v hla
        rw[h1,addLast_snoc]
        intro x hx
        rcases List.mem_append.1 hx with hx|hx
        · exact ih x (by rw[h1];simp[hx])
        · simp only[List.mem_singleton]at hx;subst hx
          have hr:r∈(runsAt f m).1:=by rw[h1];simp
          rw[List.pairwise_append]
          refine⟨ih r hr,by simp,fun a ha b hb=>?_⟩
          simp only[List.mem_singleton]at hb;subst hb
          obtain⟨-,w,hw⟩:=hR.lev r hr
          exact(hw a ha).1
      · rw[if_neg hla]
        intro x hx
        rcases List.mem_append.1 hx with hx|hx
        · exact ih x hx
        · simp only[List.mem_singleton]at hx;subst hx;simp
theorem sorted_len:∀ {l:List Nat} {n:Nat},l.Pairwise (·<·)→(∀ x∈l,x<n)→l.length≤n:=by
  intro l
  refine snoc_ind (P:=fun l=>∀ {n:Nat},l.Pairwise (·<·)→(∀ x∈l,x<n)→l.length≤n) ?_ ?_ l
  · intro n _ _;simp
  · intro l x ih n hs hn
    rw[List.pairwise_append]at hs
    have:=ih (n:=x) hs.1 (fun a ha=>hs.2.2 a ha x (by simp))
    have:=hn x (by simp)
    simp;lia
noncomputable def hdMap (rs:List (List Nat)):Nat→Option (List Nat):=rs.foldl (fun f r x=>if r.head?=some x then some r else f x) fun zz=>none
theorem hdMap_snoc{rs:List (List Nat)}{r:List Nat}:hdMap (rs++[r])=fun x=>if r.head?=some x then some r else hdMap rs x:=by
  unfold hdMap;rw[List.foldl_append];rfl
theorem hdMap_some{rs:List (List Nat)}:∀ {x r},hdMap rs x=some r→r∈rs∧r.head?=some x:=by
  refine snoc_ind (P:=fun rs=>∀ {x r},hdMap rs x=some r→r∈rs∧r.head?=some x) ?_ ?_ rs
  · intro x r h;cases h
  · intro rs a ih x r h
    rw[hdMap_snoc]at h
    simp only at h
    split at h
    · cases h;exact⟨by simp,by assumption⟩
    · have:=ih h;exact⟨by simp[this.1],this.2⟩
theorem hdMap_ex{rs:List (List Nat)}{x:Nat}:(∃ r∈rs,r.head?=some x)→∃ r,hdMap rs x=some r:=by
  refine snoc_ind (P:=fun rs=>(∃ r∈rs,r.head?=some x)→∃ r,hdMap rs x=some r) ?_ ?_ rs
  · rintro⟨r,hr,_⟩;cases hr
  · rintro rs a ih ⟨r,hr,hh⟩
    rw[hdMap_snoc]
    by_cases ha:a.head?=some x
    · exact⟨a,by simp[ha]⟩
    · simp only[ha,if_false]
      rcases List.mem_append.1 hr with hr|hr
      · exact ih ⟨r,hr,hh⟩
      · simp only[List.mem_singleton]at hr;subst hr;exact absurd hh ha
noncomputable def nxt (l:List Nat) (rs:List (List Nat)) (i:Nat):Option (List Nat):=if isInit (kd l i)then(mt l i).bind (hdMap rs)else none
noncomputable def grow (nx:Nat→Option (List Nat)):Nat→List Nat→List Nat
  | 0,p=>p
  | q+1,p=>match p.getLast? with
    | some i=>(match nx i with
      | some r=>grow nx q (p++r)
      | none=>p)
    | none=>p
noncomputable def skipB (l:List Nat) (r:List Nat):Bool:=match r.head? with
  | some j=>kd l j==22&&(mt l j).isSome
  | none=>false
noncomputable def rows (l:List Nat) (L:List (Option Nat)):List (List Nat):=((runs L).filter (!skipB l ·)).map (grow (nxt l (runs L)) L.length)
theorem grow_none{nx q p i}(h:p.getLast?=some i)(hn:nx i=none):grow nx q p=p:=by
  cases q with
  | zero=>rfl
  | succ q=>unfold grow;rw[h];simp only[hn]
theorem grow_some{nx q p i r}(h:p.getLast?=some i)(hn:nx i=some r):grow nx (q+1) p=grow nx q (p++r):=by
  rw[grow,h];simp only[hn]
structure Fit(l:List Nat)(L:List (Option Nat)):Prop where
  len:L.length=l.length
  pair:∀ b e,PrI l b e→∃ v,lf L b=some v∧lf L e=some v∧((∀ m,b<m→m<e→∀ x,lf L m=some x→x=v)∨(∀ m,b<m→m<e→∀ x,lf L m=some x→v<x))
variable{l:List Nat}{L:List (Option Nat)}
theorem runs_Ri:Ri (lf L) L.length (runs L) (runsAt (lf L) L.length).2:=Ri_all
theorem fit_both(hF:Fit l L){b e}(h:PrI l b e):(∃ r∈runs L,r.getLast?=some b)↔(∃ r∈runs L,r.head?=some e):=by
  obtain⟨v,h1,h2,h3⟩:=hF.pair b e h
  have hen:=h.en
  have hlt:=h.lt
  have hle:=hF.len
  have:=pair_ends (n:=L.length) h.lt (by lia) h1 h2 h3
  rw[runs_Ri.las b,runs_Ri.hea e,this]
  exact⟨fun h=>⟨by lia,h.2⟩,fun h=>⟨by lia,h.2⟩⟩
theorem nxt_next(hF:Fit l L){i:Nat}(hi:∃ r∈runs L,r.getLast?=some i)(hini:isInit (kd l i)){j:Nat}(hm:mt l i=some j):∃ r,nxt l (runs L) i=some r∧hdMap (runs L) j=some r∧r∈runs L∧r.head?=some j∧i<j:=by
  have hpr:=mt_init hm hini
  obtain⟨r,hr⟩:=hdMap_ex ((fit_both hF hpr).1 hi)
  exact⟨r,by unfold nxt;rw[if_pos hini,hm];exact hr,hr,(hdMap_some hr).1,(hdMap_some hr).2,hpr.lt⟩
structure Gr(L:List (Option Nat))(p:List Nat)(i:Nat):Prop where
  las:p.getLast?=some i
  run:∃ r∈runs L,r.getLast?=some i
  srt:p.Pairwise (·<·)
  lev:∀ k∈p,k<L.length∧lf L k≠none
theorem Gr.of_run{r:List Nat}(hr:r∈runs L):∃ i,Gr L r i:=by
  obtain⟨h1,v,h2⟩:=runs_Ri.lev r hr
  cases hl:r.getLast? with
  | none=>rw[List.getLast?_eq_none_iff]at hl;exact absurd hl h1
  | some i=>exact⟨i,hl,⟨r,hr,hl⟩,runs_sorted r hr,fun k hk=>⟨(h2 k hk).1,by rw[(h2 k hk).2];simp⟩⟩
theorem Gr.step{p i j r}(h:Gr L p i)(hr:r∈runs L)(hj:r.head?=some j)(hij:i<j):∃ i',i<i'∧Gr L (p++r) i':=by
  obtain⟨i',h'⟩:=Gr.of_run hr
  obtain⟨q,hq⟩:=List.getLast?_eq_some_iff.1 h.las
  obtain⟨t,ht⟩:∃ t,r=j::t:=by
    cases r with
    | nil=>cases hj
    | cons a t=>simp at hj;subst hj;exact⟨t,rfl⟩
  have hpi:∀ a∈p,a≤i:=by
    intro a ha
    have hs:=h.srt
    rw[hq]at ha hs
    rw[List.pairwise_append]at hs
    rcases List.mem_append.1 ha with ha|ha
    · exact Nat.le_of_lt (hs.2.2 a ha i (by simp))
    · simp only[List.mem_singleton]at ha;lia
  have hrj:∀ b∈r,j≤b:=by
    intro b hb
    have hs:=h'.srt
    rw[ht]at hb hs
    rw[List.pairwise_cons]at hs
    rcases List.mem_cons.1 hb with rfl|hb
    · lia
    · exact Nat.le_of_lt (hs.1 b hb)
  refine⟨i',?_,?_,h'.run,?_,?_⟩
  · have:=hrj i' (List.mem_of_getLast? h'.las);lia
  · rw[List.getLast?_append,h'.las];rfl
  · rw[List.pairwise_append]
    exact⟨h.srt,h'.srt,fun a ha b hb=>by have:=hpi a ha;have:=hrj b hb;lia⟩
  · intro k hk
    rcases List.mem_append.1 hk with hk|hk
    · exact h.lev k hk
    · exact h'.lev k hk
theorem Gr.lt{p i}(h:Gr L p i):i<L.length:=(h.lev i (List.mem_of_getLast? h.las)).1
theorem Gr.len{p i}(h:Gr L p i):p.length≤L.length:=sorted_len h.srt fun x hx=>(h.lev x hx).1
theorem grown(hF:Fit l L):∀ (q:Nat) {p:List Nat} {i:Nat},Gr L p i→L.length≤q+i+1→∃ i',Gr L (grow (nxt l (runs L)) q p) i'∧(isInit (kd l i')→mt l i'=none)∧(grow (nxt l (runs L)) q p).head?=p.head?:=by
  intro q
  induction q with
  | zero=>
    intro p i h hq
    refine⟨i,h,fun hini=>?_,rfl⟩
    cases hm:mt l i with
    | none=>rfl
    | some j=>
      obtain⟨r,h1,h2,h3,h4,h5⟩:=nxt_next hF h.run hini hm
      obtain⟨i',h6,h7⟩:=h.step h3 h4 h5
      have:=h7.lt;have:=h.lt;lia
  | succ q ih=>
    intro p i h hq
    by_cases hini:isInit (kd l i)
    · cases hm:mt l i with
      | none=>
        have hn:nxt l (runs L) i=none:=by unfold nxt;rw[if_pos hini,hm];rfl
        rw[grow_none h.las hn]
        exact⟨i,h,fun zz=>hm,rfl⟩
      | some j=>
        obtain⟨r,h1,h2,h3,h4,h5⟩:=nxt_next hF h.run hini hm
        obtain⟨i',h6,h7⟩:=h.step h3 h4 h5
        rw[grow_some h.las h1]
        obtain⟨i2,g1,g2,g3⟩:=ih h7 (by lia)
        refine⟨i2,g1,g2,?_⟩
        rw[g3]
        cases p with
        | nil=>cases h.las
        | cons a p=>rfl
    · have hn:nxt l (runs L) i=none:=by unfold nxt;rw[if_neg hini]
      rw[grow_none h.las hn]
      exact⟨i,h,fun h=>absurd h hini,rfl⟩
theorem lf_lvs{base dp i:Nat}(hi:i<l.length):lf (lvs l base dp) i=lvM l base dp i:=by
  unfold lf lvs;rw[List.getElem?_map,List.getElem?_range hi];rfl
theorem fit_lvs{base dp:Nat}(hs:sepLast l):Fit l (lvs l base dp):=by
  refine⟨by simp[lvs],fun b e h=>?_⟩
  have hlt:=h.lt
  have hen:=h.en
  obtain⟨v,h1,h2,h3⟩:=pair_lv (base:=base) (dp:=dp) hs h
  refine⟨v,by rw[lf_lvs (by lia)];exact h1,by rw[lf_lvs hen];exact h2,?_⟩
  rcases h3 with h3|h3
  · exact Or.inl fun m g1 g2 x hx=>h3 m g1 g2 x (by rw[←lf_lvs (by lia)];exact hx)
  · exact Or.inr fun m g1 g2 x hx=>h3 m g1 g2 x (by rw[←lf_lvs (by lia)];exact hx)
end Mine
end
section
namespace Mine
section
variable{H:Hp}{i:Nat}{vs:List V}
theorem view_c(h:cell H i=some (.list vs)):view H (.ref i)=.ref i:=by
  show(match cell H i with|some (.frz v)=>v|_=>V.ref i)=_
  rw[h]
theorem con_c(h:cell H i=some (.list vs)):con H (.ref i)=.lst vs:=by
  show(match cell H i with|some (.list vs)=>V.lst vs|some (.lock vs)=>.lst vs|some (.dict ks vs)=>.dct ks vs|some (.inst c vs)=>.inst c vs|some (.frz v)=>v|none=>.undef)=_
  rw[h]
theorem item_v{k:Int}{v:V}{K:V→Rs}{r:Rs}(h:cell H i=some (.list vs))(hv:at_ vs k=some v)(g:K v=r):itemK TB H (view H (.ref i)) (.int k) K=r:=by
  rw[view_c h]
  show itemC (.int k) (con H (.ref i)) K=r
  rw[con_c h];exact bd_ok hv g
theorem meth_v{m:Nat}{f:Nat×List V→Rs}{e r:Rs}(h:cell H i=some (.list vs))(hk:∀ vs,kindV [.list vs] m (.ref 0)=true)(g:e=r):ox (insC (con H (view H (.ref i)))) f (gx (kindV H m (view H (.ref i))) e)=r:=by
  rw[view_c h,con_c h]
  refine gx_ok ?_ g
  have:=hk vs
  unfold kindV at this ⊢
  rw[con_c h]
  exact this
theorem own_v{f:Nat→List V→Rs}{r:Rs}(h:cell H i=some (.list vs))(g:f i vs=r):own H (view H (.ref i)) f=r:=by
  rw[view_c h]
  show bx (cell H i) _=r
  rw[h];exact g
theorem frz_v{α:Type}{e:α→V}{l:List α}{K:KV}{r:Rs}(h:cell H i=some (.list (l.map e)))(he:∀ x H,frz 7 (e x) H=some (e x,H))(g:K (.lst (l.map e)) (setC H i (.frz (.lst (l.map e))))=r):frzK (view H (.ref i)) H K=r:=by
  rw[view_c h];exact b2_ok (frz_i (n:=6) he h) g
end
section
variable{α:Type}{f:V→List V→Hp→KF→Rs}{l:List α}{K:KF}{r:Rs}
theorem for_w(e:α→V)(L:List α→List V→List V)(G:List α→Hp→Hp)
    (h:∀ pre x post w J N,l=pre++x::post→(∀ w J,N .next (L (pre++[x]) w) (G (pre++[x]) J)=r)→(∀ w J,N .cont (L (pre++[x]) w) (G (pre++[x]) J)=r)→f (e x) (L pre w) (G pre J) N=r)
    (hK:∀ w J,K .next (L l w) (G l J)=r) {w:List V} {J:Hp}:forK f (l.map e) (L [] w) (G [] J) K=r:=by
  suffices ∀ (m pre:List α) w J,l=pre++m→forK f (m.map e) (L pre w) (G pre J) K=r from this l [] w J rfl
  intro m
  induction m with
  | nil=>intro pre w J hl;rw[List.append_nil]at hl;exact hl▸hK w J
  | cons x m ih=>
    intro pre w J hl
    have g:=fun w' J'=>ih (pre++[x]) w' J' (hl.trans (List.append_assoc pre [x] m).symm)
    exact h pre x m w J _ hl g g
end
noncomputable def isN (rs:List (List Nat)) (ks vs:List V):Prop:=∀ x:Nat,∃ o:Option Nat,look (.int x) ks vs=o.map encN∧hdMap rs x=o.bind (rs[·]?)∧∀ k,o=some k→k<rs.length
theorem isN_snoc{rs:List (List Nat)}{r:List Nat}{a:Nat}{ks vs:List V}(h:isN rs ks vs)(hl:ks.length=vs.length)(ha:r.head?=some a):isN (rs++[r]) (store (.int a) (.int rs.length) ks vs).1 (store (.int a) (.int rs.length) ks vs).2:=by
  intro x
  rw[look_store rfl hl,keyEq_int,hdMap_snoc,ha]
  by_cases hx:x=a
  · subst hx
    exact⟨some rs.length,if_pos (beq_self_eq_true _),(if_pos rfl).trans (by show _=(rs++[r])[rs.length]?;rw[List.getElem?_append_right (Nat.le_refl _),Nat.sub_self];rfl),fun k hk=>by cases hk;rw[List.length_append];exact Nat.lt_succ_self _⟩
  · obtain⟨o,h1,h2,h3⟩:=h x
    refine⟨o,(if_neg fun q=>hx (Int.ofNat.inj (eq_of_beq q))).trans h1,(if_neg fun q=>hx (Option.some.inj q).symm).trans (h2.trans ?_),fun k hk=>by rw[List.length_append];exact Nat.lt_succ_of_lt (h3 k hk)⟩
    cases o with
    | none=>rfl
    | some k=>exact(List.getElem?_append_left (h3 k rfl)).symm
noncomputable def nAt (rs:List (List Nat)):Nat→List V×List V
  | 0=>([],[])
  | m+1=>store (.int (((rs[m]?).getD []).headD 0:Nat)) (.int m) (nAt rs m).1 (nAt rs m).2
theorem nAt_ok{rs:List (List Nat)}(hne:∀ r∈rs,r≠[]){m:Nat}(hm:m≤rs.length):isN (rs.take m) (nAt rs m).1 (nAt rs m).2∧(nAt rs m).1.length=(nAt rs m).2.length∧(nAt rs m).1.length≤m:=by
  induction m with
  | zero=>exact⟨fun x=>⟨none,rfl,rfl,fun k h=>by cases h⟩,rfl,Nat.le_refl _⟩
  | succ m ih=>
    obtain⟨h1,h2,h3⟩:=ih (Nat.le_of_succ_le hm)
    have hg:=List.getElem?_eq_getElem hm
    have ht:rs.take (m+1)=rs.take m++[rs[m]]:=by rw[List.take_add_one,hg];rfl
    have hn:=hne _ (List.getElem_mem hm)
    have hs:=store_length (k:=.int (((rs[m]?).getD []).headD 0:Nat)) (v:=.int m) h2
    refine⟨?_,hs.1,Nat.le_trans hs.2 (Nat.succ_le_succ h3)⟩
    rw[ht]
    have hh:rs[m].head?=some (((rs[m]?).getD []).headD 0):=by
      rw[hg];revert hn;cases rs[m]with
      | nil=>exact fun h=>absurd rfl h
      | cons a t=>exact fun zz=>rfl
    have:=isN_snoc h1 h2 hh
    rw[List.length_take,Nat.min_eq_left (Nat.le_of_succ_le hm)]at this
    exact this
section
variable{l:List Nat}{L:List (Option Nat)}
noncomputable def gwL (l:List Nat) (levels rs a b c:V) (ks vs:List V) (w:V):List V:=[V.lst (l.map V.str),levels,.dct ks vs,rs,.ref 0,a,b,c,w]
theorem growLoop{C:Orc}{a b:V}{ks vs kk kv F:List V}{T:Hp}{levels:V}{p:List Nat}{i:Nat}{N:KF}{rr:Rs}(hF:Fit l L)(hl:L.length<900)(hD:isD ks vs (mt l))(hN:isN (runs L) kk kv)(hp:Gr L p i)
    (k:exL TB C ((fb fn21 4).drop 3) (gwL l levels (.lst ((runs L).map encR)) a b (.ref 1) ks vs (.ref (T.length+2))) (.dict kk kv::.list F::(T++[.list ((grow (nxt l (runs L)) L.length p).map encN)])) N=rr) :
    exL TB C ((fb fn21 4).drop 2) (gwL l levels (.lst ((runs L).map encR)) a b (.ref 1) ks vs (.ref (T.length+2))) (.dict kk kv::.list F::(T++[.list (p.map encN)])) N=rr:=by
  refine whil_l (s:=(fb fn21 4).drop 3) (while_y (fun zz zz=>gwL l levels (.lst ((runs L).map encR)) a b (.ref 1) ks vs (.ref (T.length+2))) (fun p zz=>.dict kk kv::.list F::(T++[.list (p.map encN)])) (fun q p'=>∃ i,Gr L p' i∧L.length≤q+i+1∧grow (nxt l (runs L)) q p'=grow (nxt l (runs L)) L.length p) ?_ (n:=turns) (m:=L.length) (Nat.lt_trans hl (by rw[turns_is];decide)) (s:=p) (w:=[]) ⟨i,hp,by rw[Nat.add_assoc];exact Nat.le_add_right _ _,rfl⟩)
  rintro q p _ N' ⟨i,hG,hq,hg⟩ X
  rw[←hg]at k
  have hil:=hG.lt
  have hk:=kd_get (hF.len▸hil)
  have hc:cell (.dict kk kv::.list F::(T++[.list (p.map encN)])) (T.length+2)=some (.list (p.map encN)):=cell_app (A:=T) (B:=[])
  have hat:at_ (p.map encN) (-1)=some (encN i):=by
    obtain⟨p0,hp0⟩:=List.getLast?_eq_some_iff.1 hG.las
    rw[hp0];exact at_end
  have hd:=hD i
  refine item_v hc hat (bd_ok (at_m hk rfl) (cs_ok (fun h=>?_) fun h=>?_))
  · rw[in3]at h
    have hini:isInit (kd l i):=of_decide_eq_true h
    refine item_v hc hat ?_
    cases hm:mt l i with
    | none=>
      rw[hm]at hd
      rw[grow_none hG.las (by unfold nxt;rw[if_pos hini,hm];rfl)]at k
      exact is_f hd k
    | some j=>
      rw[hm]at hd
      obtain⟨r,h1,h2,h3,h4,h5⟩:=nxt_next hF hG.run hini hm
      obtain⟨i',h6,h7⟩:=hG.step h3 h4 h5
      obtain⟨o,n1,n2,n3⟩:=hN j
      rw[h2]at n2
      refine is_t hd (meth_v hc (fun zz=>rfl) ?_)
      cases o with
      | none=>cases n2
      | some e=>
        refine item_v hc hat (bd_ok hd (bd_ok n1 (bd_ok (at_m n2.symm rfl) (own_v hc (gl_ok ?_ ?_)))))
        · rw[List.length_map,List.length_map,←List.length_append];exact Nat.lt_of_le_of_lt h7.len (Nat.lt_trans hl (by decide))
        · cases q with
          | zero=>exact absurd (Nat.lt_of_le_of_lt h6 h7.lt) (Nat.not_lt.mpr (by rw[Nat.zero_add]at hq;exact hq))
          | succ q=>
            have x1:=X.next (p++r) [] ⟨q,Nat.lt_succ_self q,i',h7,Nat.le_trans hq (by rw[Nat.add_right_comm q 1 i,Nat.add_assoc (q+i)];exact Nat.add_le_add_right (Nat.add_le_add_left h6 q) 1),(grow_some hG.las h1).symm.trans hg⟩
            rw[List.map_append,←setC_app (A:=T) (o:=.list (p.map encN)) (B:=[])]at x1
            exact x1
  · rw[in3]at h
    rw[grow_none hG.las (if_neg (of_decide_eq_false h))]at k
    exact k
noncomputable def rowsP (l:List Nat) (L:List (Option Nat)) (rs:List (List Nat)):List (List Nat):=(rs.filter (!skipB l ·)).map (grow (nxt l (runs L)) L.length)
theorem rowsP_t{pre:List (List Nat)}{r:List Nat}(h:skipB l r=true):rowsP l L (pre++[r])=rowsP l L pre:=by
  unfold rowsP;rw[List.filter_append,List.filter_cons_of_neg (by rw[h];decide)];exact congrArg (List.map _) (List.append_nil _)
theorem rowsP_f{pre:List (List Nat)}{r:List Nat}(h:skipB l r=false):rowsP l L (pre++[r])=rowsP l L pre++[grow (nxt l (runs L)) L.length r]:=by
  unfold rowsP;rw[List.filter_append,List.filter_cons_of_pos (by rw[h];rfl),List.map_append];rfl
theorem rowsP_le{pre:List (List Nat)}:(rowsP l L pre).length≤pre.length:=by
  unfold rowsP;rw[List.length_map];exact List.length_filter_le _ _
theorem c21{d:Nat}{H:Hp}{ks vs:List V}(hF:Fit l L)(hl:L.length<900)(hD:isD ks vs (mt l)):callF TB (d+2) 21 [.lst (l.map V.str),.lst (L.map encB),.dct ks vs] H=some (.lst ((rows l L).map encR),H):=by
  have hR:=runs_Ri (L:=L)
  have hn:∀ r∈runs L,r≠[]:=fun r hr=>(hR.lev r hr).1
  have hfew:(runs L).length<lim:=Nat.lt_of_le_of_lt hR.few (Nat.lt_trans hl (by decide))
  refine b2_ok (c17 hl) ?_
  refine for_ke encR (l:=runs L) (fun zz w=>gwL l (.lst (L.map encB)) (.lst ((runs L).map encR)) (slot w 0) (slot w 1) .undef ks vs .undef) (fun m zz=>[.dict (nAt (runs L) m).1 (nAt (runs L) m).2]) ?_ ?_ (w:=[.undef,.undef])
  · intro m r w N hm hat X
    have nx:=X.next [.int m,encR r]
    have hok:=(nAt_ok hn (Nat.le_of_lt hm)).2.2
    have hr:=hn r (List.mem_of_getElem? hat)
    cases r with
    | nil=>exact absurd rfl hr
    | cons a t=>
      have e:(nAt (runs L) (m+1))=store (.int a) (.int m) (nAt (runs L) m).1 (nAt (runs L) m).2:=by
        show store (.int ((((runs L)[m]?).getD []).headD 0:Nat)) _ _ _=_
        rw[hat];rfl
      rw[e]at nx
      exact gl_ok (Nat.lt_of_le_of_lt hok (Nat.lt_trans hm hfew)) nx
  · intro w
    have hN:=(nAt_ok hn (Nat.le_refl _)).1
    rw[List.take_length]at hN
    generalize (nAt (runs L) (runs L).length).1=kk at *
    generalize (nAt (runs L) (runs L).length).2=kv at *
    refine for_w encR (fun zz w=>gwL l (.lst (L.map encB)) (.lst ((runs L).map encR)) (slot w 0) (slot w 1) (.ref 1) ks vs (slot w 2)) (fun pre J=>.dict kk kv::.list ((rowsP l L pre).map encR)::J) ?_ ?_ (w:=[slot w 0,slot w 1,.undef]) (J:=[])
    · intro pre r post w J N hp n1 n2
      have hrm:r∈runs L:=hp▸List.mem_append_right _ (.head _)
      obtain⟨i,hG⟩:=Gr.of_run hrm
      have hrl:r.length<lim:=Nat.lt_of_le_of_lt hG.len (Nat.lt_trans hl (by decide))
      have hFl:((rowsP l L pre).map encR).length<lim:=lm (Nat.lt_of_le_of_lt rowsP_le (Nat.lt_trans (pre_lt hp) hfew))
      have fin:skipB l r=false→exL TB (callF TB (d+1)) ((fb fn21 4).drop 1) (gwL l (.lst (L.map encB)) (.lst ((runs L).map encR)) (slot w 0) (encR r) (.ref 1) ks vs (slot w 2)) (.dict kk kv::.list ((rowsP l L pre).map encR)::J) N=some (.lst ((rows l L).map encR),H):=fun h=>by
        refine gl_ok (lm hrl) ?_
        refine growLoop hF hl hD hN hG ?_
        rw[rowsP_f h]at n1
        have hc:cell (.dict kk kv::.list ((rowsP l L pre).map encR)::(J++[.list ((grow (nxt l (runs L)) L.length r).map encN)])) (J.length+2)=some (.list ((grow (nxt l (runs L)) L.length r).map encN)):=cell_app (A:=J) (B:=[])
        refine frz_v hc (fun zz zz=>rfl) (gl_ok hFl ?_)
        have n1:=n1 [slot w 0,encR r,.ref (J.length+2)]
        rw[←app_m]at n1
        exact n1 _
      have hk:=kd_get (hF.len▸(hG.lev _ (List.head_mem (hn r hrm))).1)
      cases r with
      | nil=>exact absurd rfl (hn _ hrm)
      | cons a t=>
        have hd:=hD a
        refine bd_ok (at_m hk rfl) (cs_ok (fun h=>?_) fun h=>fin (by unfold skipB;exact congrArg (·&&_) h))
        cases hm:mt l a with
        | none=>rw[hm]at hd;exact is_f hd (fin (by show(_&&(mt l a).isSome)=false;rw[hm];exact Bool.and_false _))
        | some j=>
          rw[hm]at hd
          refine is_t hd ?_
          rw[rowsP_t (by show((kd l a==22)&&(mt l a).isSome)=true;rw[show(kd l a==22)=true from h,hm];rfl)]at n2
          exact n2 [slot w 0,encR (a::t),slot w 2] J
    · exact fun w J=>b2_ok (frz_i (n:=6) (l:=rowsP l L (runs L)) (fun zz zz=>rfl) rfl) rfl
end
end Mine
end
section
namespace Mine
noncomputable def isDV (ks vs:List V) (f:Nat→Option V):Prop:=ks.length=vs.length∧(∀ k:Nat,look (.int k) ks vs=f k)∧look .none ks vs=none
noncomputable def ofE (E:List (Nat×V)) (f:Nat→Option V):Nat→Option V:=E.foldl (fun f a x=>if x=a.1 then some a.2 else f x) f
theorem storeAll_fold{E:List (Nat×V)}:∀ {ks vs f},isDV ks vs f→isDV (storeAll (E.map fun a=>.int a.1) (E.map (·.2)) ks vs).1 (storeAll (E.map fun a=>.int a.1) (E.map (·.2)) ks vs).2 (ofE E f):=by
  induction E with
  | nil=>exact fun h=>h
  | cons a E ih=>
    intro ks vs f ⟨h1,h2,h3⟩
    refine ih ⟨(store_length h1).1,fun x=>?_,(look_store rfl h1).trans h3⟩
    rw[look_store rfl h1,keyEq_int,h2]
    show _=if x=a.1 then some a.2 else f x
    by_cases hx:x=a.1
    · rw[if_pos hx,if_pos (by rw[hx];exact beq_self_eq_true _)]
    · rw[if_neg hx];exact if_neg fun q=>hx (Int.ofNat.inj (eq_of_beq q))
theorem pairs_map{E:List (Nat×V)}:pairs (E.map fun a=>.tup [.int a.1,a.2])=some (E.map fun a=>.int a.1,E.map (·.2)):=by
  induction E with
  | nil=>rfl
  | cons a E ih=>exact b2_ok rfl (b2_ok ih rfl)
theorem dict_w{E:List (Nat×V)}{n:Nat}{vs:List V}{F:List V→List V→Rs}{r:Rs}(hv:vs=E.map fun a=>.tup [.int a.1,a.2])(hl:n<lim)(hf:∀ a∈E,flatV a.2=true)(g:F (E.map fun a=>.int a.1) (E.map (·.2))=r) :
    b2 (pairs vs) (fun ks us=>gd (ks.all keyOk) (gd (us.all flatV) (gd (decide (n<lim)) (F ks us))))=r:=by
  subst hv
  exact b2_ok pairs_map (gd_ok (all_m _ fun zz=>rfl) (gd_ok (List.all_eq_true.mpr fun x hx=>by obtain⟨a,ha,rfl⟩:=List.mem_map.mp hx;exact hf a ha) (gl_ok hl g)))
theorem ofE_ok{E:List (Nat×V)}:isDV (storeAll (E.map fun a=>.int a.1) (E.map (·.2)) [] []).1 (storeAll (E.map fun a=>.int a.1) (E.map (·.2)) [] []).2 (ofE E fun zz=>none):=storeAll_fold ⟨rfl,fun zz=>rfl,rfl⟩
theorem ofE_mem{E:List Nat}{x:Nat}:∀ {f},(ofE (E.map fun a=>(a,V.bool true)) f x).isSome=(decide (x∈E)||(f x).isSome):=by
  induction E with
  | nil=>exact fun {f}=>rfl
  | cons a E ih=>
    intro f
    refine ih.trans ?_
    show(_||(if x=a then _ else f x).isSome)=_
    by_cases h:x=a
    · rw[if_pos h,decide_eq_true (h▸.head _:x∈a::E)];exact Bool.or_true _
    · rw[if_neg h,show decide (x∈a::E)=decide (x∈E)from decide_eq_decide.mpr ⟨fun q=>(List.mem_cons.mp q).resolve_left h,.tail _⟩]
theorem ofE_hd{rs:List (List Nat)}(hne:∀ r∈rs,r≠[]):ofE (rs.map fun r=>(r.headD 0,encR r)) (fun zz=>none)=fun x=>(hdMap rs x).map encR:=by
  revert hne
  refine snoc_ind (P:=fun rs=>(∀ r∈rs,r≠[])→ofE (rs.map fun r=>(r.headD 0,encR r)) (fun zz=>none)=fun x=>(hdMap rs x).map encR) (fun zz=>rfl) (fun rs r ih hne=>?_) rs
  unfold ofE at ih ⊢
  rw[List.map_append,List.foldl_append,ih fun x hx=>hne x (List.mem_append_left _ hx),hdMap_snoc]
  have hr:=hne r (List.mem_append_right _ (.head _))
  funext x
  cases r with
  | nil=>exact absurd rfl hr
  | cons a t=>
    show(if x=a then _ else _)=Option.map encR (if some a=some x then _ else _)
    by_cases h:x=a
    · rw[if_pos h,if_pos (congrArg some h.symm)];rfl
    · rw[if_neg h,if_neg fun q=>h (Option.some.inj q).symm]
noncomputable def Nm (H:Hp) (w:V) (p:List Nat):Prop:=w=.lst (p.map encN)∨∃ i,w=.ref i∧cell H i=some (.list (p.map encN))
section
variable{H:Hp}{w:V}{p:List Nat}{r:Rs}
theorem item_w{k:Int}{v:V}{K:V→Rs}(h:Nm H w p)(hv:at_ (p.map encN) k=some v)(g:K v=r):itemK TB H (view H w) (.int k) K=r:=by
  rcases h with rfl|⟨i,rfl,h⟩
  · exact bd_ok hv g
  · exact item_v h hv g
theorem flat_N{p:List Nat}:(p.map encN).all flatV=true:=all_m encN fun zz=>rfl
theorem add_w{q:List Nat}{K:V→Rs}(h:Nm H w p)(hl:p.length+q.length<lim)(g:K (.lst ((p++q).map encN))=r):binK H .add (view H w) (.lst (q.map encN)) K=r:=by
  rw[List.map_append]at g
  have hl:(p.map encN).length+(q.map encN).length<lim:=by rw[List.length_map,List.length_map];exact hl
  rcases h with rfl|⟨i,rfl,h⟩
  · exact gl_ok hl g
  · rw[view_c h]
    show bx (lstC (con H (.ref i))) _=r
    rw[con_c h]
    exact gd_ok flat_N (gl_ok hl g)
theorem frz_w{K:KV}(h:Nm H w p)(g:K (.lst (p.map encN)) H=r)(g2:∀ i,w=.ref i→K (.lst (p.map encN)) (setC H i (.frz (.lst (p.map encN))))=r):frzK (view H w) H K=r:=by
  rcases h with rfl|⟨i,rfl,h⟩
  · exact g
  · exact frz_v h (fun zz zz=>rfl) (g2 i rfl)
end
theorem own_v2{H H':Hp}{i:Nat}{vs us:List V}{f:Nat→List V→Rs}{r:Rs}(h:cell H i=some (.list vs))(h':cell H' i=some (.list us))(g:f i us=r):own H' (view H (.ref i)) f=r:=by
  rw[view_c h]
  show bx (cell H' i) _=r
  rw[h'];exact g
noncomputable def isEnds (l:List Nat) (L:List (Option Nat)) (ks vs:List V):Prop:=(∀ x:Nat,(look (.int x) ks vs).isSome=true↔(∃ r∈runs L,r.getLast?=some x)∧isInit (kd l x))∧look .none ks vs=none
section
variable{l:List Nat}{L:List (Option Nat)}
noncomputable def gwR (l:List Nat) (levels a2:V) (ks vs:List V) (a4 a5 a6 a7:V) (ke ve kf vf:List V) (a10 w:V):List V:=[V.lst (l.map V.str),levels,a2,.dct ks vs,a4,a5,a6,a7,.dct ke ve,.dct kf vf,a10,w]
noncomputable def lawB:List St:=tb (fb fn68 5)
theorem growLoopL{C:Orc}{levels a2 a4 a5 a6 a7 a10 w:V}{ks vs ke ve kf vf:List V}{p:List Nat}{i:Nat}{H:Hp}{N:KF}{rr:Rs}(hF:Fit l L)(hl:L.length<900)(hD:isD ks vs (mt l))(hE:isEnds l L ke ve)(hN:isDV kf vf fun x=>(hdMap (runs L) x).map encR)(hp:Gr L p i)(hw:Nm H w p)
    (k:∀ w',(w'=w∨∃ p':List Nat,w'=.lst (p'.map encN))→Nm H w' (grow (nxt l (runs L)) L.length p)→exL TB C (lawB.drop 2) (gwR l levels a2 ks vs a4 a5 a6 a7 ke ve kf vf a10 w') H N=rr) :
    exL TB C (lawB.drop 1) (gwR l levels a2 ks vs a4 a5 a6 a7 ke ve kf vf a10 w) H N=rr:=by
  refine whil_l (s:=lawB.drop 2) (while_y (fun w' zz=>gwR l levels a2 ks vs a4 a5 a6 a7 ke ve kf vf a10 w') (fun zz zz=>H) (fun q w'=>(w'=w∨∃ p':List Nat,w'=.lst (p'.map encN))∧∃ p' i,Nm H w' p'∧Gr L p' i∧L.length≤q+i+1∧grow (nxt l (runs L)) q p'=grow (nxt l (runs L)) L.length p) ?_ (n:=turns) (m:=L.length) (Nat.lt_trans hl (by rw[turns_is];decide)) (s:=w) (w:=[]) ⟨.inl rfl,p,i,hw,hp,by rw[Nat.add_assoc];exact Nat.le_add_right _ _,rfl⟩)
  rintro q w' _ N' ⟨hw',p',i,hn,hG,hq,hg⟩ X
  have k:=k w' hw'
  rw[←hg]at k
  have hat:at_ (p'.map encN) (-1)=some (encN i):=by
    obtain⟨p0,hp0⟩:=List.getLast?_eq_some_iff.1 hG.las
    rw[hp0];exact at_end
  have hd:=hD i
  have he:=hE.1 i
  have hs:slotV w'=some w':=by rcases hn with rfl|⟨j,rfl,_⟩<;>rfl
  refine bx_ok hs (item_w hn hat ?_)
  refine cs_ok (fun h=>?_) fun h=>?_
  · have hini:=(he.mp h).2
    have key:keyOk (view H ((look (.int i) ks vs).getD .none))=true:=by rw[hd];cases mt l i<;>rfl
    refine bx_ok hs (item_w hn hat ?_)
    refine gx_ok key ?_
    clear key
    have hk:∀ o,(mt l i).map encN=o→look (view H ((look (.int i) ks vs).getD .none)) kf vf=look (view H (o.getD .none)) kf vf:=fun o ho=>by rw[hd,ho]
    cases hm:mt l i with
    | none=>
      rw[hm]at hk
      rw[grow_none hG.las (by unfold nxt;rw[if_pos hini,hm];rfl)]at k
      exact is_f ((hk none rfl).trans hN.2.2) (k hn)
    | some j=>
      rw[hm]at hd hk
      obtain⟨r,h1,h2,h3,h4,h5⟩:=nxt_next hF hG.run hini hm
      obtain⟨i',h6,h7⟩:=hG.step h3 h4 h5
      have hf:look (.int j) kf vf=some (encR r):=(hN.2.1 j).trans (congrArg (Option.map encR) h2)
      have hlen:=h7.len
      rw[List.length_append]at hlen
      refine is_t ((hk _ rfl).trans hf) (bx_ok hs ?_)
      refine bx_ok hs (item_w hn hat ?_)
      refine bd_ok hd (bd_ok hf ?_)
      refine add_w hn (Nat.lt_of_le_of_lt hlen (Nat.lt_trans hl (by decide))) ?_
      cases q with
      | zero=>exact absurd (Nat.lt_of_le_of_lt h6 h7.lt) (Nat.not_lt.mpr (by rw[Nat.zero_add]at hq;exact hq))
      | succ q=>exact X.next (.lst ((p'++r).map encN)) [] ⟨q,Nat.lt_succ_self q,.inr ⟨_,rfl⟩,p'++r,i',.inl rfl,h7,Nat.le_trans hq (by rw[Nat.add_right_comm q 1 i,Nat.add_assoc (q+i)];exact Nat.add_le_add_right (Nat.add_le_add_left h6 q) 1),(grow_some hG.las h1).symm.trans hg⟩
  · rw[grow_none hG.las (if_neg fun q=>absurd (he.mpr ⟨hG.run,q⟩) (by rw[show(look (.int i) ke ve).isSome=false from h];decide))]at k
    exact k hn
end
end Mine
end
section
namespace Mine
section
variable{l:List Nat}{L:List (Option Nat)}{rs:List (List Nat)}
theorem cell_map{k:Nat}{g:List Nat→O}:cell (rs.map g) k=(rs[k]?).map g:=by
  induction rs generalizing k with
  | nil=>rfl
  | cons r rs ih=>cases k with
    | zero=>rfl
    | succ k=>exact ih
noncomputable def lastOf (rs:List (List Nat)) (k:Nat):Nat:=((rs[k - 1]?).bind (·.getLast?)).getD 0
noncomputable def endE (l:List Nat) (rs:List (List Nat)):List Nat:=((List.range' 1 rs.length).map (lastOf rs)).filter fun x=>decide (isInit (kd l x))
noncomputable def endG (l:List Nat) (rs:List (List Nat)) (k:Nat):Option V:=cs (decide (isInit (kd l (lastOf rs k)))) (some (.tup [.int (lastOf rs k),.bool true])) none
theorem endG_map{ks:List Nat}:ks.filterMap (endG l rs)=((ks.map (lastOf rs)).filter fun x=>decide (isInit (kd l x))).map fun a=>.tup [.int a,.bool true]:=by
  induction ks with
  | nil=>rfl
  | cons k ks ih=>
    rw[List.filterMap_cons,ih,List.map_cons,List.filter_cons]
    unfold endG
    cases decide (isInit (kd l (lastOf rs k)))<;>rfl
theorem endE_mem(hn:∀ r∈rs,r≠[]){x:Nat}:x∈endE l rs↔(∃ r∈rs,r.getLast?=some x)∧isInit (kd l x):=by
  unfold endE
  rw[List.mem_filter,List.mem_map,decide_eq_true_iff]
  refine and_congr ⟨fun ⟨k,hk,e⟩=>?_,fun ⟨r,hr,e⟩=>?_⟩ Iff.rfl
  · obtain⟨h1,h2⟩:=List.mem_range'_1.mp hk
    obtain⟨j,rfl⟩:=Nat.exists_eq_add_of_le h1
    have hj:j<rs.length:=Nat.lt_of_add_lt_add_left h2
    refine⟨rs[j],List.getElem_mem hj,?_⟩
    unfold lastOf at e
    rw[Nat.add_sub_cancel_left,List.getElem?_eq_getElem hj]at e
    have:=hn _ (List.getElem_mem hj)
    rw[←e]
    show _=some ((rs[j].getLast?).getD 0)
    rw[List.getLast?_eq_some_getLast this];rfl
  · obtain⟨j,hj,rfl⟩:=List.getElem_of_mem hr
    refine⟨1+j,List.mem_range'_1.mpr ⟨Nat.le_add_right _ _,Nat.add_lt_add_left hj 1⟩,?_⟩
    unfold lastOf
    rw[Nat.add_sub_cancel_left,List.getElem?_eq_getElem hj]
    show(rs[j].getLast?).getD 0=x
    rw[e];rfl
theorem endE_le:(endE l rs).length≤rs.length:=by
  unfold endE
  exact Nat.le_trans (List.length_filter_le _ _) (by rw[List.length_map,List.length_range'];exact Nat.le_refl _)
noncomputable def stLc (l:List Nat) (levels:V) (ks vs:List V) (b w0 w1 c e:V):List V:=[V.lst (l.map V.str),levels,.ref 0,.dct ks vs,b,w0,w1,.undef,c,e,.undef,.undef]
theorem ends_w{C:Orc}{levels b w0 w1:V}{ks vs:List V}{N:KF}{r:Rs}(hR:∀ r∈rs,r≠[]∧∀ x∈r,x<l.length)(hl:rs.length<lim)
    (k:∀ ke ve,isDV ke ve (ofE ((endE l rs).map fun a=>(a,V.bool true)) fun zz=>none)→exL TB C (fn68.body.drop 3) (stLc l levels ks vs b w0 w1 (.dct ke ve) .undef) (rheap rs) N=r) :
    exL TB C (fn68.body.drop 2) (stLc l levels ks vs b w0 w1 .undef .undef) (rheap rs) N=r:=by
  have hE:(endE l rs).length<lim:=Nat.lt_of_le_of_lt endE_le hl
  refine comp_l V.ref (endG l rs) (l:=List.range' 1 rs.length) rfl (fun i hi K=>?_) ?_ rfl
  · obtain⟨h1,h2⟩:=List.mem_range'_1.mp hi
    obtain⟨j,rfl⟩:∃ j,i=j+1:=⟨i - 1,(Nat.sub_add_cancel h1).symm⟩
    have hj:j<rs.length:=by rw[Nat.add_comm]at h2;exact Nat.lt_of_add_lt_add_left h2
    have hg:=List.getElem?_eq_getElem hj
    obtain⟨hn,hx⟩:=hR _ (List.getElem_mem hj)
    have hc:cell (.lock (refs rs.length)::rs.map rcel) (j+1)=some (.list (rs[j].map encN)):=by
      show cell (rs.map rcel) j=_
      rw[cell_map,hg];rfl
    have hlo:rs[j].getLast?=some (lastOf rs (j+1)):=by
      unfold lastOf;rw[Nat.add_sub_cancel,hg]
      show _=some ((rs[j].getLast?).getD 0)
      rw[List.getLast?_eq_some_getLast hn];rfl
    have hat:at_ (rs[j].map encN) (-1)=some (encN (lastOf rs (j+1))):=by
      obtain⟨q,hq⟩:=List.getLast?_eq_some_iff.mp hlo
      rw[hq];exact at_end
    have hk:=kd_get (hx _ (List.mem_of_getLast? hlo))
    have e:∀ o,endG l rs (j+1)=o→K o (.lock (refs rs.length)::rs.map rcel)=K (endG l rs (j+1)) (.lock (refs rs.length)::rs.map rcel):=fun o h=>by rw[h]
    refine item_v hc hat (bd_ok (at_m hk rfl) (cs_ok (fun h=>?_) fun h=>?_))
    · rw[in3]at h
      exact item_v hc hat (e (some (.tup [.int (lastOf rs (j+1)),.bool true])) (by unfold endG;rw[show decide (isInit (kd l (lastOf rs (j+1))))=true from h];rfl))
    · rw[in3]at h
      exact e none (by unfold endG;rw[show decide (isInit (kd l (lastOf rs (j+1))))=false from h];rfl)
  · rw[endG_map]
    refine held (fun a:Nat=>V.tup [.int a,.bool true]) (fun zz=>rfl) hE ?_
    refine dict_w (E:=(endE l rs).map fun a=>(a,V.bool true)) ?_ (lm hE) (fun a ha=>by obtain⟨x,_,rfl⟩:=List.mem_map.mp ha;rfl) ?_
    · rw[List.map_map];rfl
    · exact k _ _ ofE_ok
noncomputable def fheap (rs:List (List Nat)):Hp:=.frz (.lst (rs.map encR))::rs.map fun r=>.frz (encR r)
theorem first_w{C:Orc}{levels b w0 w1 c:V}{ks vs:List V}{N:KF}{r:Rs}(hR:∀ r∈rs,r≠[])(hl:rs.length<lim)
    (k:∀ kf vf,isDV kf vf (ofE (rs.map fun r=>(r.headD 0,encR r)) fun zz=>none)→exL TB C (fn68.body.drop 4) (stLc l levels ks vs b w0 w1 c (.dct kf vf)) (fheap rs) N=r) :
    exL TB C (fn68.body.drop 3) (stLc l levels ks vs b w0 w1 c .undef) (rheap rs) N=r:=by
  refine b2_ok frz_rheap (comp_m encR (fun r=>.tup [.int (r.headD 0:Nat),encR r]) (fun r hr K=>?_) ?_)
  · have:=hR r hr
    cases r with
    | nil=>exact absurd rfl this
    | cons a t=>rfl
  · refine held (fun r=>V.tup [.int (r.headD 0:Nat),encR r]) (fun zz=>rfl) hl ?_
    refine dict_w (E:=rs.map fun r=>(r.headD 0,encR r)) ?_ (lm hl) (fun a ha=>by obtain⟨x,_,rfl⟩:=List.mem_map.mp ha;rfl) ?_
    · rw[List.map_map];rfl
    · exact k _ _ ofE_ok
end
end Mine
end
section
namespace Mine
section
variable{l:List Nat}{L:List (Option Nat)}
theorem grow68{C:Orc}{levels:V}{ks vs:List V}{la:V}{m v:Nat}{q:List (List Nat)}{s:List Nat}{N:KF}{r:Rs}(hs:s.length<lim)(k:N .next (stLc l levels ks vs la (.int m) (.int v) .undef .undef) (rheap (q++[s++[m]]))=r) :
    exS TB C (.expr (.meth (.item (.var 2) (.neg (.int 1))) 0 [.frz (.var 5)])) (stLc l levels ks vs la (.int m) (.int v) .undef .undef) (rheap (q++[s])) N=r:=by
  have e:∀ s:List Nat,rheap (q++[s])=.list (refs (q.length+1))::(q++[s]).map rcel:=fun s=>by unfold rheap;rw[List.length_append];rfl
  rw[e]at k ⊢
  rw[←rheap_set (r:=s)]at k
  have hc:cell (.list (refs (q.length+1))::(q++[s]).map rcel) (q.length+1)=some (.list (s.map encN)):=rheap_cell
  have hat:at_ (refs (q.length+1)) (-1)=some (.ref (q.length+1)):=by
    unfold refs;rw[List.range'_1_concat,Nat.add_comm 1];exact at_end
  unfold rcel at k
  rw[←app_m]at k
  exact bd_ok hat (meth_v hc (fun zz=>rfl) (own_v hc (gl_ok (lm hs) k)))
theorem rheap_push1{rs:List (List Nat)}{m:Nat}:O.list (refs rs.length++[.ref (rheap rs).length])::(rs.map rcel++[.list [.int m]])=rheap (rs++[[m]]):=by
  unfold rheap;rw[List.length_append,List.map_append,show rs.length+[[m]].length=rs.length+1 from rfl,refs_succ,List.length_cons,List.length_map];rfl
theorem rows_w{C:Orc}{levels b w0 w1:V}{ks vs ke ve kf vf:List V}{H:Hp}(hF:Fit l L)(hl:L.length<900)(hD:isD ks vs (mt l))(hE:isEnds l L ke ve)(hN:isDV kf vf fun x=>(hdMap (runs L) x).map encR) :
    exL TB C (fn68.body.drop 4) (stLc l levels ks vs b w0 w1 (.dct ke ve) (.dct kf vf)) (fheap (runs L)) (fun fl zz H1=>outK fl H1 fun v H2=>frzK v H2 fun u zz=>some (u,H))=some (.lst ((rows l L).map encR),H):=by
  have hR:=runs_Ri (L:=L)
  have hn:∀ r∈runs L,r≠[]:=fun r hr=>(hR.lev r hr).1
  have hfew:(runs L).length<lim:=Nat.lt_of_le_of_lt hR.few (Nat.lt_trans hl (by decide))
  have hB:((runs L).map fun r=>O.frz (encR r)).length=(runs L).length:=List.length_map _
  generalize hBB:((runs L).map fun r=>O.frz (encR r))=B at *
  have hH:fheap (runs L)=.frz (.lst ((runs L).map encR))::B:=by unfold fheap;rw[hBB]
  rw[hH]
  have hcF:∀ (F:List V) J,cell (.frz (.lst ((runs L).map encR))::(B++.list F::J)) (B.length+1)=some (.list F):=fun F J=>cell_app
  refine for_w encR (fun zz w=>gwR l levels (.ref 0) ks vs b w0 w1 (slot w 0) ke ve kf vf (.ref (B.length+1)) (slot w 1)) (fun pre J=>.frz (.lst ((runs L).map encR))::(B++.list ((rowsP l L pre).map encR)::J)) ?_ (fun w J=>frz_v (hcF _ J) (fun zz zz=>rfl) rfl) (w:=[.undef,.undef]) (J:=[])
  intro pre r post w J N hp n1 n2
  have hrm:r∈runs L:=hp▸List.mem_append_right _ (.head _)
  obtain⟨i,hG⟩:=Gr.of_run hrm
  have hrl:r.length<lim:=Nat.lt_of_le_of_lt hG.len (Nat.lt_trans hl (by decide))
  have hFl:((rowsP l L pre).map encR).length<lim:=lm (Nat.lt_of_le_of_lt rowsP_le (Nat.lt_trans (pre_lt hp) hfew))
  have fin:skipB l r=false→exL TB C lawB (gwR l levels (.ref 0) ks vs b w0 w1 (encR r) ke ve kf vf (.ref (B.length+1)) (slot w 1)) (.frz (.lst ((runs L).map encR))::(B++.list ((rowsP l L pre).map encR)::J)) (fun fl loc H=>nx fl (exL TB C [] loc H N) (N fl loc H))=some (.lst ((rows l L).map encR),H):=fun h=>by
    rw[rowsP_f h]at n1
    refine gl_ok (lm hrl) ?_
    have hc1:∀ x,cell ((.frz (.lst ((runs L).map encR))::(B++.list ((rowsP l L pre).map encR)::J))++[x]) (B.length+1)=some (.list ((rowsP l L pre).map encR)):=fun x=>by
      show cell ((B++.list ((rowsP l L pre).map encR)::J)++[x]) B.length=_
      rw[List.append_assoc];exact cell_app
    have nx:∀ w x,N .next (gwR l levels (.ref 0) ks vs b w0 w1 (encR r) ke ve kf vf (.ref (B.length+1)) w) (setC ((.frz (.lst ((runs L).map encR))::(B++.list ((rowsP l L pre).map encR)::J))++[x]) (B.length+1) (.list ((rowsP l L pre).map encR++[encR (grow (nxt l (runs L)) L.length r)])))=some (.lst ((rows l L).map encR),H):=fun w x=>by
      have e:setC ((.frz (.lst ((runs L).map encR))::(B++.list ((rowsP l L pre).map encR)::J))++[x]) (B.length+1) (.list ((rowsP l L pre).map encR++[encR (grow (nxt l (runs L)) L.length r)]))=.frz (.lst ((runs L).map encR))::(B++.list ((rowsP l L pre).map encR++[encR (grow (nxt l (runs L)) L.length r)])::(J++[x])):=by
        show _::setC ((B++.list ((rowsP l L pre).map encR)::J)++[x]) B.length _=_
        rw[List.append_assoc];exact congrArg _ setC_app
      rw[e,app_m]
      exact n1 [encR r,w] (J++[x])
    clear n1 n2 hcF
    generalize hH0:O.frz (.lst ((runs L).map encR))::(B++.list ((rowsP l L pre).map encR)::J)=H0 at *
    refine growLoopL hF hl hD hE hN hG (.inr ⟨_,rfl,cell_app (A:=H0) (B:=[])⟩) fun w' hw hN'=>?_
    have hs:slotV w'=some w':=by rcases hN' with rfl|⟨j,rfl,_⟩<;>rfl
    refine meth_v (hc1 _) (fun zz=>rfl) (bx_ok hs (frz_w hN' ?_ fun i hi=>?_))
    · exact own_v (hc1 _) (gl_ok hFl (nx _ _))
    · have:i=H0.length:=by
        rcases hw with rfl|⟨p',rfl⟩
        · cases hi;rfl
        · cases hi
      rw[this,setC_app (A:=H0) (B:=[])]
      exact own_v2 (hc1 _) (hc1 _) (gl_ok hFl (nx _ _))
  cases r with
  | nil=>exact absurd rfl (hn _ hrm)
  | cons a t=>
    have hk:=kd_get (hF.len▸(hG.lev a (.head _)).1)
    have hd:=hD a
    refine bd_ok (at_m hk rfl) (cs_ok (fun h=>?_) fun h=>fin (by unfold skipB;exact congrArg (·&&_) h))
    have key:keyOk (view (.frz (.lst ((runs L).map encR))::(B++.list ((rowsP l L pre).map encR)::J)) ((look (.int a) ks vs).getD .none))=true:=by rw[hd];cases mt l a<;>rfl
    refine gx_ok key ?_
    clear key
    have hlk:∀ o,(mt l a).map encN=o→look (view (.frz (.lst ((runs L).map encR))::(B++.list ((rowsP l L pre).map encR)::J)) ((look (.int a) ks vs).getD .none)) ke ve=look (view (.frz (.lst ((runs L).map encR))::(B++.list ((rowsP l L pre).map encR)::J)) (o.getD .none)) ke ve:=fun o ho=>by rw[hd,ho]
    cases hm:mt l a with
    | none=>
      rw[hm]at hlk
      exact ni_t ((hlk none rfl).trans hE.2) (fin (by show(_&&(mt l a).isSome)=false;rw[hm];exact Bool.and_false _))
    | some b'=>
      rw[hm]at hlk
      have hpr:=mt_pdi hm (eq_of_beq h)
      obtain⟨v,hv⟩:=Option.isSome_iff_exists.mp ((hE.1 b').mpr ⟨(fit_both hF hpr).mpr ⟨_,hrm,rfl⟩,hpr.ini⟩)
      rw[rowsP_t (by show((kd l a==22)&&(mt l a).isSome)=true;rw[show(kd l a==22)=true from h,hm];rfl)]at n1
      exact ni_f ((hlk _ rfl).trans hv) (n1 [encR (a::t),slot w 1] J)
end
theorem c68{d:Nat}{H:Hp}{l:List Nat}{L:List (Option Nat)}(hF:Fit l L)(hl:L.length<900):callF TB (d+2) 68 [.lst (l.map V.str),.lst (L.map encB)] H=some (.lst ((rows l L).map encR),H):=by
  have hR:=runs_Ri (L:=L)
  have hn:∀ r∈runs L,r≠[]:=fun r hr=>(hR.lev r hr).1
  have hl':l.length<900:=hF.len▸hl
  have hfew:(runs L).length<lim:=Nat.lt_of_le_of_lt hR.few (Nat.lt_trans hl (by decide))
  refine b2_ok (c65x (d:=d) hl') ?_
  refine for_ke encB (l:=L) (fun k w=>stLc l (.lst (L.map encB)) (dAt l l.length).1 (dAt l l.length).2 (encB (runsAt (lf L) k).2) (slot w 0) (slot w 1) .undef .undef) (fun k zz=>rheap (runsAt (lf L) k).1) ?_ ?_ (w:=[.undef,.undef])
  · intro m x w N hml hat X
    have hf:lf L m=x:=by unfold lf;rw[hat];rfl
    have hR:=Ri_all (f:=lf L) (m:=m)
    have nx:∀ w,N .next (stLc l (.lst (L.map encB)) (dAt l l.length).1 (dAt l l.length).2 (encB (runsAt (lf L) (m+1)).2) (slot w 0) (slot w 1) .undef .undef) (rheap (runsAt (lf L) (m+1)).1)=some (.lst ((rows l L).map encR),H):=X.next
    clear X hat
    generalize some (V.lst ((rows l L).map encR),H)=r at *
    have hm:m<lim:=Nat.lt_trans hml (Nat.lt_trans hl (by decide))
    cases x with
    | none=>
      have e:runsAt (lf L) (m+1)=runsAt (lf L) m:=by rw[runsAt,hf]
      rw[e]at nx
      exact nx [.int m,.none]
    | some v=>
      have e:runsAt (lf L) (m+1)=if(runsAt (lf L) m).2=some v then(addLast (runsAt (lf L) m).1 m,some v)else((runsAt (lf L) m).1++[[m]],some v):=by rw[runsAt,hf]
      rw[e]at nx
      clear e hf
      replace nx:=nx [.int m,.int v]
      generalize runsAt (lf L) m=S at *
      obtain⟨rs,la⟩:=S
      have hR:Ri (lf L) m rs la:=hR
      have push:la≠some v→gd (decide ((refs rs.length).length<lim)) (N .next (stLc l (.lst (L.map encB)) (dAt l l.length).1 (dAt l l.length).2 (.int v) (.int m) (.int v) .undef .undef) (.list (refs rs.length++[.ref (rheap rs).length])::(rs.map rcel++[.list [.int m]])))=r:=fun h=>by
        rw[if_neg h]at nx
        refine gl_ok (by rw[refs_length];exact Nat.lt_of_le_of_lt hR.few hm) ?_
        rw[rheap_push1];exact nx
      cases la with
      | none=>exact push (fun h=>by cases h)
      | some u=>
        refine cs_ok (fun h=>?_) fun h=>push fun e=>by rw[Option.some.inj e]at h;exact absurd h (by rw[beq_self_eq_true];decide)
        have huv:u=v:=(Int.ofNat.inj (eq_of_beq h)).symm
        subst huv
        obtain⟨q,s,-,h1,-⟩:=hR.som u rfl
        rw[if_pos rfl,h1,addLast_snoc]at nx
        rw[h1]
        exact grow68 (Nat.lt_of_le_of_lt (hR.sma s (h1▸List.mem_append_right _ (.head _))) hm) nx
  · intro w
    refine ends_w (fun r hr=>⟨hn r hr,fun x hx=>?_⟩) hfew fun ke ve hE=>first_w hn hfew fun kf vf hf=>rows_w hF hl dI.isd ⟨fun x=>?_,hE.2.2⟩ (ofE_hd hn▸hf)
    · obtain⟨v,hv⟩:=(hR.lev r hr).2
      exact hF.len▸(hv x hx).1
    · rw[hE.2.1,ofE_mem,Bool.or_eq_true,decide_eq_true_iff]
      exact(or_iff_left (fun h=>by cases h)).trans (endE_mem (rs:=runs L) hn)
end Mine
end
section
namespace Mine
noncomputable def somes (M:List (Option Nat)):List Nat:=(M.filter (·.isSome)).map (·.getD 0)
noncomputable def before (L:List (Option Nat)) (i:Nat):Option Nat:=(somes (L.take i)).getLast?
noncomputable def behind (L:List (Option Nat)) (k:Nat):Option Nat:=(somes (L.drop k)).head?
section
variable{L:List (Option Nat)}{k:Nat}{x:Option Nat}
theorem before_succ(h:L[k]?=some x):before L (k+1)=x.or (before L k):=by
  unfold before somes
  rw[List.take_add_one,h]
  show(List.map _ (List.filter _ (_++[x]))).getLast?=_
  rw[List.filter_append,List.map_append]
  cases x with
  | none=>exact congrArg List.getLast? (List.append_nil _)
  | some v=>exact List.getLast?_concat
theorem behind_end(h:L.length≤k):behind L k=none:=by
  unfold behind;rw[List.drop_eq_nil_of_le h];rfl
theorem behind_at(h:L[k]?=some x):behind L k=x.or (behind L (k+1)):=by
  have hk:=List.getElem?_eq_some_iff.mp h
  unfold behind somes
  rw[List.drop_eq_getElem_cons hk.1,hk.2]
  cases x<;>rfl
noncomputable def dirOf (a b:Nat):Nat:=max a b%2
theorem max_nat{a b:Nat}:cs (decide ((b:Int)>a)) (b:Int) a=((max a b:Nat):Int):=by
  refine cs_d (fun h=>?_) fun h=>?_
  · rw[Nat.max_eq_right (Nat.le_of_lt (Int.ofNat_lt.mp h))]
  · rw[Nat.max_eq_left (Nat.not_lt.mp fun q=>h (Int.ofNat_lt.mpr q))]
theorem c19{d:Nat}{H:Hp}{a b:Nat}:callF TB (d+1) 19 [.int a,.int b] H=some (.str (dirOf a b),H):=by
  have e:(cs (decide ((b:Int)>a)) (b:Int) a).fmod 2=(dirOf a b:Nat):=by rw[max_nat];exact fm2 _
  refine cs_ok (fun h=>?_) fun h=>?_
  · rw[Int.ofNat.inj (e.symm.trans (eq_of_beq h))];rfl
  · rw[show dirOf a b=0 from(Nat.mod_two_eq_zero_or_one (max a b)).resolve_right fun q=>ne_of_beq_false h (e.trans (congrArg Int.ofNat q))];rfl
theorem c20b{d:Nat}{H:Hp}{i base:Nat}(hl:L.length<900)(hi:i≤L.length):callF TB (d+1) 20 [.lst (L.map encB),.int i,.int (-1),.int base] H=some (.int ((before L i).getD base),H):=by
  refine whil_l (s:=fn20.body.drop 2) (while_y (fun z zz=>[V.lst (L.map encB),.int z,.int (-1),.int base]) (fun zz zz=>[]) (fun m z=>z=(m:Int)+ -1∧m≤L.length∧before L m=before L i) ?_ (n:=turns) (m:=i) (Nat.lt_of_le_of_lt hi (Nat.lt_trans hl (by rw[turns_is];decide))) (s:=(i:Int)+ -1) (w:=[]) ⟨rfl,hi,rfl⟩)
  intro m z w N ⟨hz,hm,hb⟩ X
  rw[←hb]at X ⊢
  cases m with
  | zero=>subst hz;rfl
  | succ m=>
    obtain⟨x,hx⟩:=at_some hm
    cases hz.trans (Int.add_neg_cancel_right m 1)
    have hb2:=before_succ hx
    rw[hb2]at X ⊢
    refine cs_d (fun zz=>bd_ok (at_m hx rfl) ?_) fun h=>absurd (show(m:Int)<((L.map encB).length:Nat)by rw[List.length_map];exact Int.ofNat_lt.mpr hm) h
    cases x with
    | none=>exact X.next ((m:Int)+ -1) [] ⟨m,Nat.lt_succ_self m,rfl,Nat.le_of_succ_le hm,rfl⟩
    | some v=>exact bd_ok (at_m hx rfl) (X.ret _ _ _ rfl)
theorem c20a{d:Nat}{H:Hp}{i base:Nat}(hl:L.length<900)(hi:i<L.length):callF TB (d+1) 20 [.lst (L.map encB),.int i,.int 1,.int base] H=some (.int ((behind L (i+1)).getD base),H):=by
  refine whil_l (s:=fn20.body.drop 2) (while_y (fun z zz=>[V.lst (L.map encB),.int (z:Nat),.int 1,.int base]) (fun zz zz=>[]) (fun m z=>m+z=L.length∧behind L z=behind L (i+1)) ?_ (n:=turns) (m:=L.length - (i+1)) (Nat.lt_of_le_of_lt (Nat.sub_le _ _) (Nat.lt_trans hl (by rw[turns_is];decide))) (s:=i+1) (w:=[]) ⟨Nat.sub_add_cancel hi,rfl⟩)
  intro m z w N ⟨hz,hb⟩ X
  rw[←hb]at X ⊢
  refine cs_d (fun h=>?_) fun h=>?_
  · have h:z<L.length:=by rw[List.length_map]at h;exact Int.ofNat_lt.mp h
    obtain⟨x,hx⟩:=at_some h
    rw[behind_at hx]at X ⊢
    refine bd_ok (at_m hx rfl) ?_
    cases x with
    | none=>
      cases m with
      | zero=>exact absurd h (by rw[←hz,Nat.zero_add];exact Nat.lt_irrefl z)
      | succ m=>exact X.next (z+1) [] ⟨m,Nat.lt_succ_self m,by rw[←hz,Nat.add_right_comm];rfl,rfl⟩
    | some v=>exact bd_ok (at_m hx rfl) (X.ret _ _ _ rfl)
  · rw[behind_end (Nat.not_lt.mp fun q=>h (by rw[List.length_map];exact Int.ofNat_lt.mpr q))];rfl
end
end Mine
end
section
namespace Mine
noncomputable def sosOf (L:List (Option Nat)) (h x base:Nat):Nat:=dirOf h ((before L x).getD base)
noncomputable def eosOf (l:List Nat) (L:List (Option Nat)) (h i base:Nat):Nat:=dirOf h (if isInit (kd l i)then base else(behind L (i+1)).getD base)
section
variable{l:List Nat}{L:List (Option Nat)}
theorem at_first{p:List Nat}{x:Nat}(h:p.head?=some x):at_ (p.map encN) 0=some (encN x):=by
  cases p with
  | nil=>cases h
  | cons a t=>cases h;rfl
theorem at_last{p:List Nat}{x:Nat}(h:p.getLast?=some x):at_ (p.map encN) (-1)=some (encN x):=by
  obtain⟨q,rfl⟩:=List.getLast?_eq_some_iff.mp h
  exact at_end
theorem somes_len{M:List (Option Nat)}:(somes M).length≤M.length:=by
  unfold somes;rw[List.length_map];exact List.length_filter_le _ _
theorem somes_fm{M:List (Option Nat)}:M.filterMap (fun o=>o.map encN)=(somes M).map encN:=by
  unfold somes
  induction M with
  | nil=>rfl
  | cons o M ih=>rw[List.filterMap_cons,ih];cases o<;>rfl
theorem LR_at{i:Int}{n:Nat}{F:Nat→Rs}{r:Rs}(h:i.fmod 2=(n:Nat))(hn:n<2)(g:F n=r):gd (decide (0≤i.fmod 2)) (bd (TB.chr 77 (i.fmod 2).toNat) F)=r:=by
  rw[h]
  refine gd_ok (decide_eq_true (Int.natCast_nonneg n)) (bd_ok ?_ g)
  match n,hn with
  | 0,_=>rfl
  | 1,_=>rfl
theorem dir_lt{a b:Nat}:dirOf a b<2:=Nat.mod_lt _ (by decide)
theorem dir_fm{a b:Nat}:(cs (decide ((b:Int)>a)) (b:Int) a).fmod 2=(dirOf a b:Nat):=by rw[max_nat];exact fm2 _
theorem c69{d:Nat}{H:Hp}{p:List Nat}{x i h base:Nat}(hll:L.length=l.length)(hl:L.length<900)(hx:p.head?=some x)(hi:p.getLast?=some i)(hil:i<L.length)(hh:L[x]?=some (some h)):callF TB (d+1) 69 [.lst (l.map V.str),.lst (L.map encB),encR p,.int base] H=some (.tup [.str (sosOf L h x base),.str (eosOf l L h i base)],H):=by
  have hl5:L.length<lim:=Nat.lt_trans hl (by decide)
  have hxl:x<100000:=Nat.lt_trans (List.getElem?_eq_some_iff.mp hh).1 hl5
  have hk:=kd_get (hll▸hil)
  refine bd_ok (at_first hx) (bd_ok (at_m hh rfl) ?_)
  refine bd_ok (at_first hx) (gl_ok (lm hl5) (gd_ok (small_n hxl) ?_))
  refine comp_v encB (fun o=>o.map encN) (l:=L.take x) (by rw[List.drop_zero,take_m]) somes_fm (fun o zz K=>by cases o<;>rfl) ?_
  refine held encN (fun zz=>rfl) (Nat.lt_of_le_of_lt somes_len (Nat.lt_of_le_of_lt (List.length_take_le' _ _) hl5)) ?_
  refine bd_ok (at_last hi) (gl_ok (lm hl5) (gd_ok (small_n (a:=i+1) (Nat.lt_of_le_of_lt hil hl5)) ?_))
  refine comp_v encB (fun o=>o.map encN) (l:=L.drop (i+1)) (by rw[List.take_length];exact drop_m (k:=i+1) hil) somes_fm (fun o zz K=>by cases o<;>rfl) ?_
  refine held encN (fun zz=>rfl) (Nat.lt_of_le_of_lt somes_len (by rw[List.length_drop];exact Nat.lt_of_le_of_lt (Nat.sub_le _ _) hl5)) ?_
  have fin:∀ y z:Nat,((somes (L.take x)).getLast?).getD base=y→(if isInit (kd l i)then base else((somes (L.drop (i+1))).head?).getD base)=z→exL TB (callF TB d) (fn69.body.drop 5) [V.lst (l.map V.str),.lst (L.map encB),encR p,.int base,.int h,.lst ((somes (L.take x)).map encN),.lst ((somes (L.drop (i+1))).map encN),.int (cs (decide ((y:Int)>h)) (y:Int) h),.int (cs (decide ((z:Int)>h)) (z:Int) h)] [] (fun fl zz H1=>outK fl H1 fun v H2=>frzK v H2 fun u zz=>some (u,H))=some (.tup [.str (sosOf L h x base),.str (eosOf l L h i base)],H):=by
    rintro _ _ rfl rfl
    refine LR_at dir_fm dir_lt ?_
    exact LR_at dir_fm dir_lt rfl
  show exL TB (callF TB d) (fn69.body.drop 3) [V.lst (l.map V.str),.lst (L.map encB),encR p,.int base,.int h,.lst ((somes (L.take x)).map encN),.lst ((somes (L.drop (i+1))).map encN),.undef,.undef] [] (fun fl zz H1=>outK fl H1 fun v H2=>frzK v H2 fun u zz=>some (u,H))=_
  clear hh hx hll hl hl5 hxl hil
  generalize somes (L.take x)=A at *
  generalize somes (L.drop (i+1))=B at *
  have far:∀ y:Nat,(A.getLast?).getD base=y→exL TB (callF TB d) (fn69.body.drop 4) [V.lst (l.map V.str),.lst (L.map encB),encR p,.int base,.int h,.lst (A.map encN),.lst (B.map encN),.int (cs (decide ((y:Int)>h)) (y:Int) h),.undef] [] (fun fl zz H1=>outK fl H1 fun v H2=>frzK v H2 fun u zz=>some (u,H))=some (.tup [.str (sosOf L h x base),.str (eosOf l L h i base)],H):=fun y hy=>by
    have fin:=fun z=>fin y z hy
    clear hy
    cases B with
    | nil=>exact fin base (by split<;>rfl)
    | cons z B=>
      refine bd_ok (at_last hi) (bd_ok (at_m hk rfl) (cs_ok (fun h=>?_) fun h=>?_))
      · rw[in3]at h;exact fin base (if_pos (of_decide_eq_true h))
      · rw[in3]at h;exact fin z (if_neg (of_decide_eq_false h))
  rcases List.eq_nil_or_concat A with hA|⟨q,y,hA⟩
  · subst hA;exact far base rfl
  · rw[List.concat_eq_append]at hA
    subst hA
    refine bd_ok eqV_nil (cs_t (by rw[List.map_append];cases q<;>rfl) (bd_ok at_end (far y (by rw[List.getLast?_append];rfl))))
end
end Mine
end
section
namespace Mine
noncomputable def encQ (p:List Nat) (cl:List Nat) (lv s e:Nat) (co:List Nat):V:=.inst 2 [encR p,.lst (cl.map V.str),.int lv,.str s,.str e,.lst (co.map encN)]
theorem c18{d:Nat}{p cl co:List Nat}{lv s e:Nat}(hc:co.length<lim):callF TB (d+1) 18 [.ref 0,encR p,.lst (cl.map V.str),.int lv,.str s,.str e,.lst (co.map encN)] [.inst 2 []]=some (.none,[.inst 2 [encR p,.lst (cl.map V.str),.int lv,.str s,.str e,.ref 1],.list (co.map encN)]):=
  gl_ok (lm hc) rfl
theorem frz_Q{p cl co:List Nat}{lv s e:Nat}:frz 8 (.ref 0) [.inst 2 [encR p,.lst (cl.map V.str),.int lv,.str s,.str e,.ref 1],.list (co.map encN)]=some (encQ p cl lv s e co,[.frz (encQ p cl lv s e co),.frz (.lst (co.map encN))]):=by
  have h:frz 7 (.ref 1) [.inst 2 [encR p,.lst (cl.map V.str),.int lv,.str s,.str e,.ref 1],.list (co.map encN)]=some (.lst (co.map encN),[.inst 2 [encR p,.lst (cl.map V.str),.int lv,.str s,.str e,.ref 1],.frz (.lst (co.map encN))]):=frz_i (n:=5) (fun zz zz=>rfl) rfl
  have h2:eachS (frz 7) [encR p,.lst (cl.map V.str),.int lv,.str s,.str e,.ref 1] [.inst 2 [encR p,.lst (cl.map V.str),.int lv,.str s,.str e,.ref 1],.list (co.map encN)]=some ([encR p,.lst (cl.map V.str),.int lv,.str s,.str e,.lst (co.map encN)],[.inst 2 [encR p,.lst (cl.map V.str),.int lv,.str s,.str e,.ref 1],.frz (.lst (co.map encN))]):=
    b2_ok rfl (b2_ok (b2_ok rfl (b2_ok (b2_ok rfl (b2_ok (b2_ok rfl (b2_ok (b2_ok rfl (b2_ok (b2_ok h rfl) rfl)) rfl)) rfl)) rfl)) rfl)
  exact bd_ok rfl (b2_ok h2 rfl)
noncomputable def atN (c:List Nat) (k:Nat):Nat:=(c[k]?).getD 0
noncomputable def lvOf (L:List (Option Nat)) (p:List Nat):Nat:=(lf L (p.headD 0)).getD 0
noncomputable def seqOf (l:List Nat) (L:List (Option Nat)) (cl co:List Nat) (base:Nat) (p:List Nat):V:=
  encQ p (p.map (atN cl)) (lvOf L p) (sosOf L (lvOf L p) (p.headD 0) base) (eosOf l L (lvOf L p) (p.getLast?.getD 0) base) (p.map (atN co))
structure Row(l:List Nat)(L:List (Option Nat))(p:List Nat)(i:Nat):Prop where
  gr:Gr L p i
  un:isInit (kd l i)→mt l i=none
  hd:p.head?=some (p.headD 0)∧L[p.headD 0]?=some (some (lvOf L p))
  ls:p.getLast?.getD 0=i
section
variable{l:List Nat}{L:List (Option Nat)}
theorem row_of(hF:Fit l L){p:List Nat}(hp:p∈rows l L):∃ i,Row l L p i:=by
  obtain⟨r,hr,hp⟩:=List.mem_map.mp hp
  have hr:=(List.mem_filter.mp hr).1
  obtain⟨i0,hG0⟩:=Gr.of_run hr
  obtain⟨i,hG,hun,hhd⟩:=grown hF L.length hG0 (by rw[Nat.add_assoc];exact Nat.le_add_right _ _)
  rw[hp]at hG hhd
  refine⟨i,hG,hun,?_,by rw[hG.las];rfl⟩
  have hn:=(runs_Ri.lev r hr).1
  cases r with
  | nil=>exact absurd rfl hn
  | cons x t=>
    have hx:p.headD 0=x:=by rw[List.headD_eq_head?_getD,hhd];rfl
    refine⟨by rw[hx];exact hhd,?_⟩
    obtain⟨h1,h2⟩:=hG.lev x (List.mem_of_head? hhd)
    unfold lvOf
    rw[hx]
    unfold lf at h2 ⊢
    rw[List.getElem?_eq_getElem h1]at h2 ⊢
    cases hv:L[x]with
    | none=>rw[hv]at h2;exact absurd rfl h2
    | some v=>rfl
theorem rows_few:(rows l L).length≤L.length:=Nat.le_trans rowsP_le (runs_Ri (L:=L)).few
theorem atN_at{c:List Nat}{a:Nat}(h:a<c.length):c[a]?=some (atN c a):=by unfold atN;rw[List.getElem?_eq_getElem h];rfl
noncomputable def qLc (l:List Nat) (L:List (Option Nat)) (cl co:List Nat) (base:Nat) (w:List V):List V:=[V.lst (l.map V.str),.lst (L.map encB),.lst (cl.map V.str),.int base,.lst (co.map encN),dctM l,.ref 0,slot w 0,slot w 1,slot w 2,slot w 3,slot w 4,slot w 5,slot w 6]
set_option maxHeartbeats 1000000 in
theorem c22{d:Nat}{H:Hp}{cl co:List Nat}{base:Nat}(hF:Fit l L)(hl:L.length<900)(hs:sepLast l)(hcl:cl.length=l.length)(hco:co.length=l.length):callF TB (d+3) 22 [.lst (l.map V.str),.lst (L.map encB),.lst (cl.map V.str),.int base,.lst (co.map encN)] H=some (.lst ((rows l L).map (seqOf l L cl co base)),H):=by
  have hll:=hF.len
  refine b2_ok (c3x (d:=d+1) (hll▸hl) hs) (b2_ok (c21 (d:=d) hF hl dI.isd) ?_)
  refine for_w encR (fun zz w=>qLc l L cl co base w) (fun pre zz=>[.list (pre.map (seqOf l L cl co base))]) ?_ (fun w J=>b2_ok (frz_i (n:=6) (l:=rows l L) (fun zz zz=>rfl) rfl) rfl) (w:=[.undef,.undef,.undef,.undef,.undef,.undef,.undef]) (J:=[])
  intro pre p post w _ N hp n1 _
  have hpm:p∈rows l L:=hp▸List.mem_append_right _ (.head _)
  obtain⟨i,hR⟩:=row_of hF hpm
  obtain⟨hG,hun,⟨hx,hh⟩,hi⟩:=hR
  have hla:=at_last hG.las
  have hil:=hG.lt
  have hpl:p.length<lim:=Nat.lt_of_le_of_lt hG.len (Nat.lt_trans hl (by decide))
  have hpa:∀ a∈p,a<l.length:=fun a ha=>hll▸(hG.lev a ha).1
  have hFl:(pre.map (seqOf l L cl co base)).length<lim:=lm (Nat.lt_of_lt_of_le (pre_lt hp) (Nat.le_trans rows_few (Nat.le_of_lt (Nat.lt_trans hl (by decide)))))
  have nx:∀ w,N .next (qLc l L cl co base w) [.list (pre.map (seqOf l L cl co base)++[encQ p (p.map (atN cl)) (lvOf L p) (sosOf L (lvOf L p) (p.headD 0) base) (eosOf l L (lvOf L p) i base) (p.map (atN co))])]=some (.lst ((rows l L).map (seqOf l L cl co base)),H):=fun w=>by
    have:=n1 w []
    rw[←app_m]at this
    unfold seqOf at this ⊢
    rw[hi]at this
    exact this
  clear n1 hpm hp hi
  generalize some (V.lst ((rows l L).map (seqOf l L cl co base)),H)=r at *
  generalize pre.map (seqOf l L cl co base)=F at *
  generalize p.headD 0=x at *
  generalize lvOf L p=lv at *
  have fin:∀ e,e=eosOf l L lv i base→exL TB (callF TB (d+2)) ((fb fn22 2).drop 5) (qLc l L cl co base [encR p,.int x,.int i,.int lv,.str (sosOf L lv x base),.str e,slot w 6]) [.list F] N=r:=by
    rintro _ rfl
    refine comp_u encN (fun a=>encN (atN co a)) (us:=(p.map (atN co)).map encN) (by rw[List.map_map];rfl) (fun a ha K=>bd_ok (at_m (atN_at (by rw[hco];exact hpa a ha)) rfl) rfl) ?_
    refine held encN (fun zz=>rfl) (by rw[List.length_map];exact hpl) ?_
    show exL TB (callF TB (d+2)) ((fb fn22 2).drop 6) (qLc l L cl co base [encR p,.int x,.int i,.int lv,.str (sosOf L lv x base),.str (eosOf l L lv i base),.lst ((p.map (atN co)).map encN)]) [.list F] _=_
    refine comp_u encN (fun a=>V.str (atN cl a)) (us:=(p.map (atN cl)).map V.str) (by rw[List.map_map];rfl) (fun a ha K=>bd_ok (at_m (atN_at (by rw[hcl];exact hpa a ha)) rfl) rfl) ?_
    refine held V.str (fun zz=>rfl) (by rw[List.length_map];exact hpl) ?_
    exact b2_ok (c18 (d:=d+1) (by rw[List.length_map];exact hpl)) (b2_ok frz_Q (gl_ok hFl (nx [encR p,.int x,.int i,.int lv,.str (sosOf L lv x base),.str (eosOf l L lv i base),.lst ((p.map (atN co)).map encN)])))
  clear nx
  refine bd_ok (at_first hx) (bd_ok hla (bd_ok (at_m hh rfl) ?_))
  refine b2_ok (c20b (d:=d+1) hl (Nat.le_of_lt (List.getElem?_eq_some_iff.mp hh).1)) (b2_ok (c19 (d:=d+1)) ?_)
  show exL TB (callF TB (d+2)) ((fb fn22 2).drop 4) (qLc l L cl co base [encR p,.int x,.int i,.int lv,.str (sosOf L lv x base),slot w 5,slot w 6]) [.list F] _=_
  have hk:=kd_get (hll▸hil)
  refine bd_ok (at_m hk rfl) (cs_ok (fun h=>?_) fun h=>?_)
  · rw[in3]at h
    have hini:isInit (kd l i):=of_decide_eq_true h
    have hd:look (.int i) (dAt l l.length).1 (dAt l l.length).2=none:=by rw[(show isD _ _ (mt l)from dI.isd) i,hun hini];rfl
    exact ni_t hd (b2_ok (c19 (d:=d+1)) (fin _ (by unfold eosOf;rw[if_pos hini])))
  · rw[in3]at h
    exact b2_ok (c20a (d:=d+1) hl hil) (b2_ok (c19 (d:=d+1)) (fin _ (by unfold eosOf;rw[if_neg (show ¬isInit (kd l i)from of_decide_eq_false h)])))
end
end Mine
end
section
namespace Mine
structure isData(D:V):Prop where
  cls:∃ vs,D=.inst 5 vs
  bc:∀ d H (k:Nat),k<23→callF TB (d+3) 61 [D,.str 27,.int (65+k:Nat)] H=some (.str k,H)
  bpb:∀ d H (c:Nat),callF TB (d+3) 61 [D,.str 61,.int c] H=some (.none,H)
section
variable{l:List Nat}{L:List (Option Nat)}{D:V}{d lv s e:Nat}{H:Hp}{p cl co b:List Nat}
theorem c36(hl:cl.length<lim):callF TB (d+4) 36 [encQ p cl lv s e co] H=some (.lst ((weakI s cl).map V.str),H):=b2_ok (c35 (d:=d) hl) rfl
theorem c38(hD:isData D)(hco:co.length=cl.length):callF TB (d+4) 38 [.lst (co.map encN),.lst (cl.map V.str),D] H=some (.lst [],H):=by
  have hb:=fun H c=>hD.bpb d H c
  obtain⟨vs,rfl⟩:=hD.cls
  refine for_ke encN (fun zz w=>[.lst (co.map encN),.lst (cl.map V.str),.inst 5 vs,.ref 0,.ref 1,slot w 0,slot w 1,slot w 2,slot w 3,slot w 4]) (fun zz zz=>[.list [],.list []]) ?_ (fun w=>rfl) (w:=[.undef,.undef,.undef,.undef,.undef])
  intro k x w N hk hat X
  have nx:=X.next [.int k,.int x,.none,slot w 3,slot w 4]
  obtain⟨y,hy⟩:=at_some (hco▸hk)
  refine bd_ok (at_m hy rfl) (cs_ok (fun h=>?_) fun h=>nx)
  exact b2_ok (hb _ x) nx
theorem c39(hD:isData D)(hco:co.length=cl.length):callF TB (d+5) 39 [encQ p cl lv s e co,D] H=some (.lst [],H):=by
  have:=fun H=>c38 (d:=d) (H:=H) hD hco
  obtain⟨vs,rfl⟩:=hD.cls
  exact b2_ok (this _) rfl
theorem c43(hl:cl.length<lim):callF TB (d+1) 43 [.lst (cl.map V.str),.lst [],.int lv,.str s,.lst (b.map V.str)] H=some (.lst (cl.map V.str),H):=gl_ok (lm hl) (ret_str rfl)
theorem c45(hD:isData D)(hl:cl.length<900)(hco:co.length=cl.length)(hc:closed cl)(hs:side s)(he:side e):callF TB (d+6) 45 [encQ p cl lv s e co,D,.lst (b.map V.str)] H=some (.lst ((neus lv s e cl).map V.str),H):=by
  have hl2:cl.length<lim:=Nat.lt_trans hl (by decide)
  have:=fun H=>c39 (d:=d) (H:=H) (p:=p) (lv:=lv) (s:=s) (e:=e) hD hco
  obtain⟨vs,rfl⟩:=hD.cls
  have e43:callF TB (d+5) 43 [.lst (cl.map V.str),.lst [],.int lv,.str s,.lst (b.map V.str)] []=_:=c43 hl2
  have e44:callF TB (d+5) 44 [.lst (cl.map V.str),.int lv,.str s,.str e] []=_:=c44 hl2 hc hs he
  show exL TB (callF TB (d+5)) (fn45.body.drop 2) [encQ p cl lv s e co,.inst 5 vs,.lst (b.map V.str),.lst (cl.map V.str),.lst (b.map V.str),.undef] [] (fun fl zz H1=>outK fl H1 fun v H2=>frzK v H2 fun u zz=>some (u,H))=_
  refine b2_ok (this _) (b2_ok e43 ?_)
  exact b2_ok e44 rfl
set_option maxHeartbeats 1000000 in
theorem c48(hD:isData D)(hl:cl.length<900)(hco:co.length=cl.length)(hr:∀ x∈cl,rowK x)(hs:side s)(he:side e):callF TB (d+7) 48 [encQ p cl lv s e co,D] H=some (.lst ((rowLv lv s e (weakI s cl)).map encN),H):=by
  have hwl:(weakI s cl).length=cl.length:=weakI_length
  have hl2:cl.length<lim:=Nat.lt_trans hl (by decide)
  have h45:=fun H=>c45 (d:=d) (H:=H) (p:=p) (cl:=weakI s cl) (co:=co) (lv:=lv) (b:=cl) hD (hwl▸hl) (hco.trans hwl.symm) (weak_closed hs hr) hs he
  obtain⟨vs,rfl⟩:=hD.cls
  have e36:callF TB (d+6) 36 [encQ p cl lv s e co] []=_:=c36 hl2
  have e18:callF TB (d+6) 18 [.ref 0,encR p,.lst ((weakI s cl).map V.str),.int lv,.str s,.str e,.lst (co.map encN)] [.inst 2 []]=_:=c18 (hco▸hl2)
  have e47:callF TB (d+6) 47 [.lst ((neus lv s e (weakI s cl)).map V.str),.int lv] []=_:=c47 (by rw[neus_length,hwl];exact hl2)
  refine b2_ok e36 ?_
  show exL TB (callF TB (d+6)) (fn48.body.drop 1) [encQ p cl lv s e co,.inst 5 vs,.lst ((weakI s cl).map V.str),.undef] [] (fun fl zz H1=>outK fl H1 fun v H2=>frzK v H2 fun u zz=>some (u,H))=_
  refine b2_ok e18 (b2_ok frz_Q ?_)
  show exL TB (callF TB (d+6)) (fn48.body.drop 2) [encQ p cl lv s e co,.inst 5 vs,.lst ((weakI s cl).map V.str),encQ p (weakI s cl) lv s e co] [] (fun fl zz H1=>outK fl H1 fun v H2=>frzK v H2 fun u zz=>some (u,H))=_
  refine b2_ok (h45 _) ?_
  exact b2_ok e47 rfl
end
end Mine
end
section
namespace Mine
noncomputable def ov1 (o:Option Nat):Prop:=o=none∨o=some 0∨o=some 1
noncomputable def okO (p:List En):Prop:=∀ e∈p,ov1 e.2.1
theorem okO_cons{t:En}{p:List En}(h:okO p)(ht:ov1 t.2.1):okO (t::p):=fun zz he=>(List.mem_cons.mp he).elim (fun q=>q▸ht) (h _)
theorem popIso_sub{p:List En}{e:En}:e∈popIso p→e∈p:=by
  induction p with
  | nil=>exact id
  | cons t q ih=>
    obtain⟨a,b,c⟩:=t
    cases c
    · exact fun h=>.tail _ (ih h)
    · exact .tail _
theorem okO_at{l:List Nat}{base dp m:Nat}:okO (stAt l base dp m).pile:=by
  induction m with
  | zero=>exact okO_cons nofun (.inl rfl)
  | succ m ih=>
    have hk:okP (stAt l base dp m).pile:=okP_at
    show okO (stepK l dp m (stAt l base dp m) (kd l m)).pile
    generalize stAt l base dp m=S at *
    obtain⟨p,ls,li⟩:=S
    obtain⟨t,q,rfl⟩:=okP_ne hk
    have em:∀ {r o},ov1 o→okO (embedS dp r o ⟨t::q,ls,li⟩).pile:=fun ho=>embed_P (P:=fun S:Sk=>okO S.pile) (fun zz=>okO_cons ih ho) (fun zz=>ih) ih
    refine ite_P (P:=fun S:Sk=>okO S.pile) (fun zz=>em (.inl rfl)) fun zz=>ite_P (P:=fun S:Sk=>okO S.pile) (fun zz=>em (.inl rfl)) fun zz=>ite_P (P:=fun S:Sk=>okO S.pile) (fun zz=>em (.inr (.inr rfl))) fun zz=>ite_P (P:=fun S:Sk=>okO S.pile) (fun zz=>em (.inr (.inl rfl))) fun zz=>
      ite_P (P:=fun S:Sk=>okO S.pile) (fun zz=>endEmb_P (P:=fun S:Sk=>okO S.pile) ih (fun zz u s hq zz e he=>ih e (.tail _ he)) ih) fun zz=>ite_P (P:=fun S:Sk=>okO S.pile) (fun zz=>?_) fun zz=>ite_P (P:=fun S:Sk=>okO S.pile) (fun zz=>?_) fun zz=>ih
    · exact ite_P (P:=fun S:Sk=>okO S.pile) (fun zz=>ih) fun zz=>ite_P (P:=fun S:Sk=>okO S.pile) (fun zz e he=>ih e (popIso_sub he)) fun zz=>ih
    · exact ite_P (P:=fun S:Sk=>okO S.pile) (fun zz=>okO_cons ih (.inl rfl)) fun zz=>ih
theorem row5:∀ k<23,¬(k=12∨(14≤k∧k≤18))→k≤11∨k=13∨(19≤k∧k≤22):=by decide +kernel
theorem clM_row{l:List Nat}{base dp k:Nat}(hl:kd l k≤22)(hn:lvM l base dp k≠none):rowK (clM l base dp k):=by
  have hO:okO (seeS l base dp k).pile:=by unfold seeS;split<;>exact okO_at
  have hP:okP (seeS l base dp k).pile:=by unfold seeS;split<;>exact okP_at
  unfold lvM at hn
  unfold clM
  generalize seeS l base dp k=S at *
  generalize kd l k=c at *
  obtain⟨p,ls,li⟩:=S
  obtain⟨t,q,rfl⟩:=okP_ne hP
  have hr:¬isRem c:=fun q=>hn (if_pos q)
  refine ite_P (P:=rowK) (fun q=>absurd q hr) fun zz=>ite_P (P:=rowK) (fun zz=>.inr (.inl rfl)) fun zz=>?_
  show rowK (t.2.1.getD c)
  rcases hO t (.head _)with h|h|h
  · rw[h];exact row5 c (Nat.lt_succ_of_le hl) hr
  · rw[h];exact .inl (Nat.zero_le _)
  · rw[h];exact .inl (show 1≤11 by decide)
theorem side_dir{a b:Nat}:dirOf a b=0∨dirOf a b=1:=Nat.mod_two_eq_zero_or_one _
theorem side_of{a:Nat}(h:a=0∨a=1):side a:=h.imp id .inl
section
variable{l:List Nat}{L:List (Option Nat)}{D:V}
noncomputable def encPg (b e:Nat) (co:List Nat) (base:Nat) (l:List Nat) (L:List (Option Nat)) (cl:List Nat):V:=.inst 3 [.int b,.int e,.lst (co.map encN),.int base,.lst (l.map V.str),.lst (L.map encB),.lst (cl.map V.str)]
theorem c24{d:Nat}{H:Hp}{b e:Nat}{cl co:List Nat}{base:Nat}(hF:Fit l L)(hl:L.length<900)(hs:sepLast l)(hcl:cl.length=l.length)(hco:co.length=l.length):callF TB (d+4) 24 [encPg b e co base l L cl] H=some (.lst ((rows l L).map (seqOf l L cl co base)),H):=
  b2_ok (c22 (d:=d) hF hl hs hcl hco) rfl
noncomputable def setAll (F:List (Option Nat)) (ps:List (Nat×Nat)):List (Option Nat):=ps.foldl (fun F kv=>F.set kv.1 (some kv.2)) F
noncomputable def fillRow (F:List (Option Nat)) (p vs:List Nat):List (Option Nat):=setAll F (p.zip vs)
theorem setAll_len{ps:List (Nat×Nat)}{F:List (Option Nat)}:(setAll F ps).length=F.length:=by
  induction ps generalizing F with
  | nil=>rfl
  | cons a ps ih=>exact ih.trans (List.length_set ..)
noncomputable def lvls (l:List Nat) (L:List (Option Nat)) (cl:List Nat) (base:Nat) (p:List Nat):List Nat:=
  rowLv (lvOf L p) (sosOf L (lvOf L p) (p.headD 0) base) (eosOf l L (lvOf L p) (p.getLast?.getD 0) base) (weakI (sosOf L (lvOf L p) (p.headD 0) base) (p.map (atN cl)))
noncomputable def paraF (l:List Nat) (L:List (Option Nat)) (cl:List Nat) (base:Nat) (ps:List (List Nat)):List (Option Nat):=ps.foldl (fun F p=>fillRow F p (lvls l L cl base p)) L
theorem paraF_snoc{cl:List Nat}{base:Nat}{ps:List (List Nat)}{p:List Nat}:paraF l L cl base (ps++[p])=fillRow (paraF l L cl base ps) p (lvls l L cl base p):=by
  unfold paraF;rw[List.foldl_append];rfl
theorem paraF_len{cl:List Nat}{base:Nat}{ps:List (List Nat)}:(paraF l L cl base ps).length=L.length:=
  snoc_ind (P:=fun ps=>(paraF l L cl base ps).length=L.length) rfl (fun ps p ih=>by rw[paraF_snoc];exact setAll_len.trans ih) ps
noncomputable def paraLv (l:List Nat) (L:List (Option Nat)) (cl:List Nat) (base:Nat):List (Option Nat):=paraF l L cl base (rows l L)
noncomputable def encKV (kv:Nat×Nat):V:=.tup [encN kv.1,encN kv.2]
theorem zip_encN{a b:List Nat}:zipL (a.map encN) (b.map encN)=(a.zip b).map encKV:=by
  induction a generalizing b with
  | nil=>rfl
  | cons x a ih=>cases b with
    | nil=>rfl
    | cons y b=>exact congrArg (encKV (x,y)::·) ih
theorem set_w{f:V→List V→Hp→KF→Rs}{K:KF}{r:Rs}{F:List (Option Nat)}{p vs:List Nat}(L:List V→List V)(hf:∀ a b w N (F:List (Option Nat)),a<F.length→(∀ w,N .next (L w) [.list ((F.set a (some b)).map encB)]=r)→f (encKV (a,b)) (L w) [.list (F.map encB)] N=r)
    (hp:∀ a∈p,a<F.length) (hK:∀ w,K .next (L w) [.list ((fillRow F p vs).map encB)]=r) {w:List V} {us:List V} (hu:us=zipL (p.map encN) (vs.map encN)):gd (us.all fun v=>(pair1 v).isSome) (forK f us (L w) [.list (F.map encB)] K)=r:=by
  rw[hu,zip_encN]
  refine gd_ok (all_m _ fun zz=>rfl) ?_
  refine for_w encKV (l:=p.zip vs) (fun zz w=>L w) (fun pre zz=>[.list ((setAll F pre).map encB)]) ?_ (fun w zz=>hK w) (J:=[])
  rintro pre ⟨a,b⟩ post w J N hp2 n1 _
  refine hf a b w N _ (by rw[setAll_len];exact hp a (List.of_mem_zip (hp2▸List.mem_append_right _ (.head _))).1) fun w=>?_
  have:=n1 w []
  unfold setAll at this ⊢
  rw[List.foldl_append]at this
  exact this
noncomputable def okCl (l:List Nat) (L:List (Option Nat)) (cl:List Nat):Prop:=∀ k,k<L.length→lf L k≠none→rowK (atN cl k)
theorem c49{d:Nat}{H:Hp}{b e:Nat}{cl co:List Nat}{base:Nat}(hD:isData D)(hF:Fit l L)(hl:L.length<900)(hs:sepLast l)(hcl:cl.length=l.length)(hco:co.length=l.length)(hok:okCl l L cl):callF TB (d+8) 49 [encPg b e co base l L cl,D] H=some (.lst ((paraLv l L cl base).map encB),H):=by
  have h48:=fun {p cl co lv s e} H (h1) (h2) (h3) (h4) (h5)=>c48 (d:=d) (H:=H) (p:=p) (cl:=cl) (co:=co) (lv:=lv) (s:=s) (e:=e) hD h1 h2 h3 h4 h5
  obtain⟨vs,rfl⟩:=hD.cls
  refine gl_ok (lm (Nat.lt_trans hl (by decide))) ?_
  refine b2_ok (c24 (d:=d+3) hF hl hs hcl hco) ?_
  refine for_w (seqOf l L cl co base) (fun zz w=>[encPg b e co base l L cl,.inst 5 vs,.ref 0,slot w 0,slot w 1,slot w 2]) (fun pre zz=>[.list ((paraF l L cl base pre).map encB)]) ?_ (fun w J=>b2_ok (frz_i (n:=6) (l:=paraLv l L cl base) (fun x zz=>by cases x<;>rfl) rfl) rfl) (w:=[.undef,.undef,.undef]) (J:=[])
  intro pre p post w _ N hp n1 _
  have hpm:p∈rows l L:=hp▸List.mem_append_right _ (.head _)
  obtain⟨i,hR⟩:=row_of hF hpm
  obtain⟨hG,hun,⟨hx,hh⟩,hi⟩:=hR
  have hpl:p.length<900:=Nat.lt_of_le_of_lt hG.len hl
  have e48:callF TB (d+7) 48 [seqOf l L cl co base p,.inst 5 vs] [.list ((paraF l L cl base pre).map encB)]=some (.lst ((lvls l L cl base p).map encN),[.list ((paraF l L cl base pre).map encB)]):=
    h48 _ (by rw[List.length_map];exact hpl) (by rw[List.length_map,List.length_map]) (fun x hx=>by obtain⟨k,hk,rfl⟩:=List.mem_map.mp hx;exact hok k (hG.lev k hk).1 (hG.lev k hk).2) (side_of side_dir) (side_of side_dir)
  refine b2_ok e48 ?_
  rw[paraF_snoc]at n1
  refine set_w (p:=p) (vs:=lvls l L cl base p) (fun w=>[encPg b e co base l L cl,.inst 5 vs,.ref 0,seqOf l L cl co base p,slot w 0,slot w 1]) (fun a b w N F ha n=>?_) (fun a ha=>by rw[paraF_len];exact(hG.lev a ha).1) ?_ rfl (w:=[slot w 1,slot w 2])
  · have n:=n [.int a,.int b]
    rw[←put_m]at n
    exact in_at rfl (lg ha) n
  · exact fun w=>n1 [seqOf l L cl co base p,slot w 0,slot w 1] []
end
end Mine
end
section
namespace Mine
section
variable{l:List Nat}{base dp k w:Nat}
theorem len_lvs:(lvs l base dp).length=l.length:=by unfold lvs;rw[List.length_map,List.length_range]
theorem len_cls:(cls l base dp).length=l.length:=by unfold cls;rw[List.length_map,List.length_range]
theorem at_cls(h:k<l.length):atN (cls l base dp) k=clM l base dp k:=by
  unfold atN cls;rw[List.getElem?_map,List.getElem?_range h];rfl
theorem okCl_cls(hk:∀ x∈l,x≤22):okCl l (lvs l base dp) (cls l base dp):=by
  intro k h1 h2
  rw[len_lvs]at h1
  rw[lf_lvs h1]at h2
  rw[at_cls h1]
  exact clM_row (hk _ (List.mem_of_getElem? (kd_get h1))) h2
theorem at_K{p:List Nat}{i:Nat}(hG:Gr (lvs l base dp) p i):p.map (atN (kAt l base dp l.length))=p.map (atN (cls l base dp)):=by
  refine List.map_congr_left fun k hk=>?_
  obtain⟨h1,h2⟩:=hG.lev k hk
  rw[len_lvs]at h1
  rw[lf_lvs h1]at h2
  rw[at_cls h1]
  unfold atN;rw[(kok_at (Nat.le_refl _)).old k h1 h2];rfl
noncomputable def words:List Nat:=[74,75,23,78]
noncomputable def para (w dp:Nat) (l:List Nat):List (Option Nat):=paraLv l (lvs l (baseOf w l) dp) (cls l (baseOf w l) dp) (baseOf w l)
theorem len_para:(para w dp l).length=l.length:=by unfold para paraLv;rw[paraF_len,len_lvs]
noncomputable def pLc (l:List Nat) (w dp:Nat) (w3:V) (base:Nat) (x5 x6 x7:V) (ws:List V):List V:=[V.lst (l.map V.str),.str w,.int dp,w3,.int base,x5,x6,x7,slot ws 0,slot ws 1,slot ws 2,slot ws 3,slot ws 4,slot ws 5]
theorem c73b{d:Nat}{H:Hp}{w3:V}(hl:l.length<800)(hs:sepLast l)(hk:∀ x∈l,x≤22):exL TB (callF TB (d+3)) (fn73.body.drop 2) (pLc l w dp w3 base .undef .undef .undef [.undef,.undef,.undef,.undef,.undef,.undef]) [] (fun fl zz H1=>outK fl H1 fun v H2=>frzK v H2 fun u zz=>some (u,H))=some (.lst ((paraLv l (lvs l base dp) (cls l base dp) base).map encB),H):=by
  have hF:=fit_lvs (base:=base) (dp:=dp) hs
  have hll:(lvs l base dp).length=l.length:=len_lvs
  have hl9:(lvs l base dp).length<900:=hll▸Nat.lt_trans hl (by decide)
  have hok:=okCl_cls (base:=base) (dp:=dp) hk
  refine b2_ok (c67 (d:=d+1) hl hs) (gl_ok (lm (Nat.lt_trans hl9 (by decide))) ?_)
  refine b2_ok (c68 (d:=d+1) hF hl9) ?_
  have hK:=fun {p i}=>at_K (l:=l) (base:=base) (dp:=dp) (p:=p) (i:=i)
  have hKl:(kAt l base dp l.length).length=l.length:=(kok_at (Nat.le_refl _)).len
  generalize kAt l base dp l.length=K at *
  generalize lvs l base dp=L at *
  generalize cls l base dp=cl at *
  refine for_w encR (fun zz ws=>pLc l w dp w3 base (.lst (L.map encB)) (.lst (K.map V.str)) (.ref 0) ws) (fun pre zz=>[.list ((paraF l L cl base pre).map encB)]) ?_ (fun w J=>b2_ok (frz_i (n:=6) (l:=paraLv l L cl base) (fun x zz=>by cases x<;>rfl) rfl) rfl) (w:=[.undef,.undef,.undef,.undef,.undef,.undef]) (J:=[])
  intro pre p post ws _ N hp n1 _
  have hpm:p∈rows l L:=hp▸List.mem_append_right _ (.head _)
  obtain⟨i,hG,hun,⟨hx,hh⟩,hi⟩:=row_of hF hpm
  have hpl:p.length<900:=Nat.lt_of_le_of_lt hG.len hl9
  have hpl2:(p.map (atN cl)).length<lim:=by rw[List.length_map];exact Nat.lt_trans hpl (by decide)
  have hrow:∀ x∈p.map (atN cl),rowK x:=fun x hx=>by obtain⟨k,hk,rfl⟩:=List.mem_map.mp hx;exact hok k (hG.lev k hk).1 (hG.lev k hk).2
  rw[paraF_snoc]at n1
  unfold lvls at n1
  rw[hi]at n1
  have hs1:=side_dir (a:=lvOf L p) (b:=(before L (p.headD 0)).getD base)
  have he1:=side_dir (a:=lvOf L p) (b:=if isInit (kd l i)then base else(behind L (i+1)).getD base)
  have e69:∀ H,callF TB (d+3) 69 [.lst (l.map V.str),.lst (L.map encB),encR p,.int base] H=some (.tup [.str (sosOf L (lvOf L p) (p.headD 0) base),.str (eosOf l L (lvOf L p) i base)],H):=fun H=>c69 hll hl9 hx hG.las hG.lt hh
  have e71:∀ H,callF TB (d+3) 71 [.lst ((p.map (atN cl)).map V.str),.str (sosOf L (lvOf L p) (p.headD 0) base)] H=_:=fun H=>c71 (by rw[List.length_map];exact hpl) hs1 hrow
  have e72:∀ H,callF TB (d+3) 72 [.lst ((weakI (sosOf L (lvOf L p) (p.headD 0) base) (p.map (atN cl))).map V.str),.int (lvOf L p),.str (sosOf L (lvOf L p) (p.headD 0) base),.str (eosOf l L (lvOf L p) i base)] H=_:=fun H=>c72 (by rw[weakI_length];exact hpl2) (weak_closed (side_of hs1) hrow) hs1 he1
  have hset:∀ x∈p,x<(paraF l L cl base pre).length:=fun a ha=>by rw[paraF_len];exact(hG.lev a ha).1
  generalize paraF l L cl base pre=F at *
  generalize sosOf L (lvOf L p) (p.headD 0) base=s at *
  generalize eosOf l L (lvOf L p) i base=e at *
  refine b2_ok (e69 _) ?_
  show exL TB (callF TB (d+3)) ((fb fn73 4).drop 1) (pLc l w dp w3 base (.lst (L.map encB)) (.lst (K.map V.str)) (.ref 0) [encR p,.str s,.str e,slot ws 3,slot ws 4,slot ws 5]) [.list (F.map encB)] _=_
  refine comp_u encN (fun a=>V.str (atN K a)) (us:=(p.map (atN cl)).map V.str) (by rw[←hK hG,List.map_map];rfl) (fun a ha K'=>bd_ok (at_m (atN_at (by rw[hKl,←hll];exact(hG.lev a ha).1)) rfl) rfl) ?_
  refine held V.str (fun zz=>rfl) hpl2 (b2_ok (e71 _) ?_)
  show exL TB (callF TB (d+3)) ((fb fn73 4).drop 2) (pLc l w dp w3 base (.lst (L.map encB)) (.lst (K.map V.str)) (.ref 0) [encR p,.str s,.str e,slot ws 3,.lst ((weakI s (p.map (atN cl))).map V.str),slot ws 5]) [.list (F.map encB)] _=_
  refine bd_ok (at_first hx) (bd_ok (at_m hh rfl) (b2_ok (e72 _) ?_))
  refine set_w (p:=p) (vs:=rowLv (lvOf L p) s e (weakI s (p.map (atN cl)))) (fun w'=>pLc l w dp w3 base (.lst (L.map encB)) (.lst (K.map V.str)) (.ref 0) [encR p,.str s,.str e,slot w' 0,.lst ((weakI s (p.map (atN cl))).map V.str),slot w' 1]) (fun a b w N F ha n=>?_) hset ?_ rfl (w:=[slot ws 3,slot ws 5])
  · have n:=n [.int a,.int b]
    rw[←put_m]at n
    exact in_at rfl (lg ha) n
  · exact fun w'=>n1 [encR p,.str s,.str e,slot w' 0,.lst ((weakI s (p.map (atN cl))).map V.str),slot w' 1] []
end
set_option maxHeartbeats 2000000 in
theorem c73{d:Nat}{H:Hp}{l:List Nat}{w dp:Nat}(hl:l.length<800)(hs:sepLast l)(hk:∀ x∈l,x≤22)(hw:w∈words):callF TB (d+4) 73 [.lst (l.map V.str),.str w,.int dp] H=some (.lst ((para w dp l).map encB),H):=by
  have fin:∀ (w3:V) (base:Nat),baseOf w l=base→exL TB (callF TB (d+3)) (fn73.body.drop 2) (pLc l w dp w3 base .undef .undef .undef [.undef,.undef,.undef,.undef,.undef,.undef]) [] (fun fl zz H1=>outK fl H1 fun v H2=>frzK v H2 fun u zz=>some (u,H))=some (.lst ((para w dp l).map encB),H):=by
    rintro w3 _ rfl;exact c73b hl hs hk
  refine b2_ok (c65x (d:=d+2) (Nat.lt_trans hl (by decide))) ?_
  have e66:callF TB (d+3) 66 [.lst (l.map V.str),dctM l,.int (0:Nat),.int (l.map V.str).length] []=some (encB ((fs l l.length 0).map st),[]):=by rw[List.length_map];exact c66 (Nat.lt_trans hl (by decide)) hs (Nat.le_refl _) dI.isd
  refine b2_ok e66 ?_
  have hle:=fun k=>fs_le (l:=l) (en:=l.length) (a:=0) (k:=k) (Nat.le_refl _)
  have hb:baseOf w l=if w=74 then 0 else if w=75 then 1 else match fs l l.length 0 with|none=>if w=78 then 1 else 0|some k=>st k:=rfl
  rw[hb]at fin
  clear hb e66
  generalize fs l l.length 0=o at *
  generalize some (V.lst ((para w dp l).map encB),H)=r at *
  have hw:w=74∨w=75∨w=23∨w=78:=by simpa [words]using hw
  cases o with
  | none=>
    show exL TB (callF TB (d+3)) (fn73.body.drop 1) [V.lst (l.map V.str),.str w,.int dp,.none,.undef,.undef,.undef,.undef,.undef,.undef,.undef,.undef,.undef,.undef] [] (fun fl zz H1=>outK fl H1 fun v H2=>frzK v H2 fun u zz=>some (u,H))=_
    rcases hw with rfl|rfl|rfl|rfl
    · exact fin .none 0 rfl
    · exact fin .none 1 rfl
    · exact fin .none 0 rfl
    · exact fin .none 1 rfl
  | some k=>
    have hk:=le2 (hle k rfl)
    have go:∀ n,st k=n→n=0∨n=1→exL TB (callF TB (d+3)) (fn73.body.drop 1) [V.lst (l.map V.str),.str w,.int dp,.int (n:Nat),.undef,.undef,.undef,.undef,.undef,.undef,.undef,.undef,.undef,.undef] [] (fun fl zz H1=>outK fl H1 fun v H2=>frzK v H2 fun u zz=>some (u,H))=r:=by
      intro n hn h01
      have fin:=fun w3 base (h:(if w=74 then 0 else if w=75 then 1 else n)=base)=>fin w3 base (by rw[←h,←hn])
      rcases h01 with rfl|rfl
      · rcases hw with rfl|rfl|rfl|rfl
        · exact fin (.int 0) 0 rfl
        · exact fin (.int 0) 1 rfl
        · exact fin (.int 0) 0 rfl
        · exact fin (.int 0) 0 rfl
      · rcases hw with rfl|rfl|rfl|rfl
        · exact fin (.int 1) 0 rfl
        · exact fin (.int 1) 1 rfl
        · exact fin (.int 1) 1 rfl
        · exact fin (.int 1) 1 rfl
    rcases hk with rfl|rfl|rfl
    · exact go 0 rfl (.inl rfl)
    · exact go 1 rfl (.inr rfl)
    · exact go 1 rfl (.inr rfl)
end Mine
end
section
namespace Mine
noncomputable def stL (v:V) (l:List Nat) (D:List V×List V):List V×List V:=l.foldl (fun D k=>store (.str k) v D.1 D.2) D
theorem stL_len{v:V}{l:List Nat}{D:List V×List V}(h:D.1.length=D.2.length):(stL v l D).1.length=(stL v l D).2.length∧(stL v l D).1.length≤D.1.length+l.length:=by
  induction l generalizing D with
  | nil=>exact⟨h,Nat.le_refl _⟩
  | cons k l ih=>
    have hs:=store_length (k:=.str k) (v:=v) h
    have:=ih (D:=store (.str k) v D.1 D.2) hs.1
    exact⟨this.1,Nat.le_trans this.2 (by rw[List.length_cons,Nat.add_comm l.length,←Nat.add_assoc];exact Nat.add_le_add_right hs.2 _)⟩
theorem ev_strs{C:Orc}{loc:List V}{H:Hp}{l:List Nat}{K:KL}:evEs TB C (l.map Ex.str) loc H K=K (l.map V.str) H:=by
  induction l generalizing K with
  | nil=>rfl
  | cons x l ih=>exact ih
theorem names_l{C:Orc}{s:List St}{K:KF}{r:Rs}(v:V)(e:Ex)(l:List Nat){D:List V×List V}(he:∀ loc H K,evK TB C e loc H K=K v H)(hD:D.1.length=D.2.length)(hl:D.1.length+l.length<200)
    (hK:∀ w,exL TB C s [.ref 0,w] [.dict (stL v l D).1 (stL v l D).2] K=r) {w:V}:exL TB C (.for_ (.one 1) (.tup (l.map Ex.str)) [.assign (.item (.var 0) (.var 1)) e]::s) [.ref 0,w] [.dict D.1 D.2] K=r:=by
  have hl:D.1.length+l.length<lim:=Nat.lt_trans hl (by decide)
  show evEs TB C (l.map Ex.str) [.ref 0,w] [.dict D.1 D.2] _=_
  rw[ev_strs]
  refine gx_ok (decide_eq_true (lm (Nat.lt_of_le_of_lt (Nat.le_add_left _ _) hl))) ?_
  refine for_w V.str (l:=l) (fun zz w=>[.ref 0,slot w 0]) (fun pre zz=>[.dict (stL v pre D).1 (stL v pre D).2]) (fun pre x post w J N hp n1 zz=>?_) (fun w zz=>hK _) (w:=[w]) (J:=[])
  have:=n1 [.str x] []
  unfold stL at this ⊢
  rw[List.foldl_append]at this
  refine(he _ _ _).trans (gl_ok (Nat.lt_of_le_of_lt (stL_len hD).2 (Nat.lt_trans (Nat.add_lt_add_left (pre_lt hp) _) hl)) this)
theorem frz_flat{n:Nat}{v:V}{H:Hp}(h:flat n v=true):frz (n+1) v H=some (v,H):=by
  induction n generalizing v H with
  | zero=>cases v<;>first|rfl|cases h
  | succ n ih=>
    cases v with
    | undef=>cases h
    | ref i=>cases h
    | tup vs=>
      have h:vs.all (flat n)=true:=h
      refine b2_ok (a:=vs) (b:=H) ?_ rfl
      induction vs with
      | nil=>rfl
      | cons v vs ihv=>
        rw[List.all_cons,Bool.and_eq_true]at h
        exact b2_ok (ih h.1) (b2_ok (ihv h.2 h.2) rfl)
    | _=>rfl
theorem each_flat{n:Nat}{vs:List V}{H:Hp}(h:vs.all (flat n)=true):eachS (frz (n+1)) vs H=some (vs,H):=by
  induction vs with
  | nil=>rfl
  | cons v vs ih=>
    rw[List.all_cons,Bool.and_eq_true]at h
    exact b2_ok (frz_flat h.1) (b2_ok (ih h.2) rfl)
noncomputable def D1:List V×List V:=storeAll [.str 25,.str 26,.str 27,.str 28,.str 29,.str 30,.str 31,.str 32] [.str 33,.int 0,.str 0,.str 34,.str 35,.str 36,.str 37,.str 38] [] []
noncomputable def D2:List V×List V:=stL (.str 42) [39,40,41] D1
noncomputable def D3:List V×List V:=stL (.bool false) [43,44,45,46,47,48,49,50,51,52,53,54,55] D2
noncomputable def D4:List V×List V:=stL .none [24,56,57,58,59,60,61,62,63,64,65,66,67] D3
noncomputable def D5:List V×List V:=stL (.tup []) [68,69,70,71] D4
noncomputable def DKV:List V×List V:=store (.str 72) (.tup [.str 73,.tup []]) D5.1 D5.2
noncomputable def isS (o:Option V) (v:V):Bool:=match o with|some u=>keyEq u v|none=>false
theorem isS_eq{o:Option V}{v:V}(h:isS o v=true):o=some v:=by
  cases o with
  | none=>cases h
  | some u=>exact congrArg some (keyEq_iff h)
theorem dkv_bc:look (.str 27) DKV.1 DKV.2=some (.str 0):=isS_eq (by decide +kernel)
theorem dkv_bpb:look (.str 61) DKV.1 DKV.2=some .none:=isS_eq (by decide +kernel)
theorem dkv_frz{H:Hp}:eachS (frz 7) DKV.2 H=some (DKV.2,H):=each_flat (by decide +kernel)
theorem frz_di{n i:Nat}{ks vs:List V}{H:Hp}(h:cell H i=some (.dict ks vs))(hv:eachS (frz n) vs H=some (vs,H)):frz (n+1) (.ref i) H=some (.dct ks vs,setC H i (.frz (.dct ks vs))):=bd_ok h (b2_ok hv rfl)
theorem as_D1{C:Orc}{K:KF}{s:List St}{r:Rs}(h:exL TB C s [.ref 0,.undef] [.dict D1.1 D1.2] K=r):exL TB C (.assign (.var 0) (.dct true [.str 25,.str 33,.str 26,.int 0,.str 27,.str 0,.str 28,.str 34,.str 29,.str 35,.str 30,.str 36,.str 31,.str 37,.str 32,.str 38])::s) [.undef,.undef] [] K=r:=h
noncomputable def st72 (X:List V×List V):List V×List V:=store (.str 72) (.tup [.str 73,.tup []]) X.1 X.2
theorem fin58{C:Orc}{w:V}{X:List V×List V}{H:Hp}(h:X.1.length<lim)(hv:eachS (frz 7) (st72 X).2 [.dict (st72 X).1 (st72 X).2]=some ((st72 X).2,[.dict (st72 X).1 (st72 X).2])) :
    exL TB C (fn58.body.drop 5) [.ref 0,w] [.dict X.1 X.2] (fun fl zz H1=>outK fl H1 fun v H2=>frzK v H2 fun u zz=>some (u,H))=some (.dct (st72 X).1 (st72 X).2,H):=
  gl_ok h (b2_ok (frz_di (i:=0) (H:=[.dict (st72 X).1 (st72 X).2]) rfl hv) rfl)
theorem c58{d:Nat}{H:Hp}:callF TB (d+1) 58 [] H=some (.dct DKV.1 DKV.2,H):=by
  have h1:D1.1.length=D1.2.length∧D1.1.length+3<200:=by decide +kernel
  have h2:D2.1.length=D2.2.length∧D2.1.length+13<200:=by decide +kernel
  have h3:D3.1.length=D3.2.length∧D3.1.length+13<200:=by decide +kernel
  have h4:D4.1.length=D4.2.length∧D4.1.length+4<200:=by decide +kernel
  have h5:D5.1.length<100:=by decide +kernel
  show exL TB (callF TB d) fn58.body [.undef,.undef] [] (fun fl zz H1=>outK fl H1 fun v H2=>frzK v H2 fun u zz=>some (u,H))=_
  refine as_D1 (s:=fn58.body.drop 1) ?_
  refine names_l (s:=fn58.body.drop 2) (.str 42) (.str 42) [39,40,41] (fun zz zz zz=>rfl) h1.1 h1.2 fun w=>?_
  refine names_l (s:=fn58.body.drop 3) (D:=D2) (.bool false) (.bool false) [43,44,45,46,47,48,49,50,51,52,53,54,55] (fun zz zz zz=>rfl) h2.1 h2.2 fun w=>?_
  refine names_l (s:=fn58.body.drop 4) (D:=D3) .none .none [24,56,57,58,59,60,61,62,63,64,65,66,67] (fun zz zz zz=>rfl) h3.1 h3.2 fun w=>?_
  refine names_l (s:=fn58.body.drop 5) (D:=D4) (.tup []) (.tup []) [68,69,70,71] (fun zz zz zz=>rfl) h4.1 h4.2 fun w=>?_
  exact fin58 (X:=D5) (Nat.lt_trans h5 (by decide)) dkv_frz
theorem fdiv2(n:Nat):(n:Int).fdiv 2=((n/2:Nat):Int):=Int.fdiv_eq_ediv_of_nonneg _ (by decide)
theorem c51{d:Nat}{H:Hp}{f:List Nat}{x c:Nat}(hl:f.length<900)(hc:c≤f.length)(h1:∀ i v,i<c→f[i]?=some v→v≤x)(h2:∀ i v,c≤i→f[i]?=some v→x<v):callF TB (d+1) 51 [.lst (f.map encN),.int x] H=some (.int ((c:Int) - 1),H):=by
  refine whil_l (s:=fn51.body.drop 3) (while_y (fun s w=>[.lst (f.map encN),.int x,.int (s.1:Nat),.int (s.2:Nat),slot w 0]) (fun zz zz=>[]) (fun m s=>m=s.2 - s.1∧s.1≤c∧c≤s.2∧s.2≤f.length) ?_ (n:=turns) (m:=(f.map encN).length) (by rw[List.length_map,turns_is];exact Nat.lt_trans hl (by decide)) (s:=(0,(f.map encN).length)) (w:=[.undef]) ⟨rfl,Nat.zero_le _,by rw[List.length_map];exact hc,by rw[List.length_map];exact Nat.le_refl _⟩)
  rintro m ⟨lo,hi⟩ w N ⟨hm,hlo,hhi,hf⟩ X
  have hlo:lo≤c:=hlo
  have hhi:c≤hi:=hhi
  have hf:hi≤f.length:=hf
  refine cs_d (fun h=>?_) fun h=>?_
  · have h:lo<hi:=Int.ofNat_lt.mp h
    have hmid:((lo:Int)+hi).fdiv 2=((lo+hi)/2:Nat):=fdiv2 (lo+hi)
    have h4:lo≤(lo+hi)/2:=(Nat.le_div_iff_mul_le (by decide)).mpr (by rw[Nat.mul_two];exact Nat.add_le_add_left (Nat.le_of_lt h) _)
    have h5:(lo+hi)/2<hi:=(Nat.div_lt_iff_lt_mul (by decide)).mpr (by rw[Nat.mul_two];exact Nat.add_lt_add_right h _)
    generalize (lo+hi)/2=mid at *
    obtain⟨v,hv⟩:=at_some (Nat.lt_of_lt_of_le h5 hf)
    refine bd_ok (at_m hv hmid) (cs_d (fun h3=>?_) fun h3=>?_)
    · have:=X.next (mid+1,hi) [.int mid] ⟨hi - (mid+1),by rw[hm];exact Nat.sub_lt_sub_left h (Nat.lt_succ_of_le h4),rfl,Nat.lt_of_not_le fun q=>absurd (h2 mid v q hv) (Nat.not_lt.mpr (Int.ofNat_le.mp h3)),hhi,hf⟩
      rw[←hmid]at this
      unfold slot at this
      rw[show((mid+1:Nat):Int)=((lo:Int)+hi).fdiv 2+1 by rw[hmid];rfl]at this
      exact this
    · have:=X.next (lo,mid) [.int mid] ⟨mid - lo,by rw[hm];exact Nat.sub_lt_sub_right h4 h5,rfl,hlo,Nat.le_of_not_lt fun q=>h3 (Int.ofNat_le.mpr (h1 mid v q hv)),Nat.le_trans (Nat.le_of_lt h5) hf⟩
      unfold slot at this
      rw[←hmid]at this
      exact this
  · have:lo=c:=Nat.le_antisymm hlo (Nat.le_trans hhi (Nat.not_lt.mp fun q=>h (Int.ofNat_lt.mpr q)))
    subst this;rfl
theorem c52{d:Nat}{H:Hp}{a b:Nat}:callF TB (d+1) 52 [.str a,.str b] H=some (.bool (a==b),H):=by
  have e:∀ t,(a==b)=t→some (V.bool t,H)=some (.bool (a==b),H):=fun t h=>by rw[h]
  exact cs_ok (fun h=>e true h) fun h=>e false h
end Mine
end
section
namespace Mine
section
variable{H:Hp}{i:Nat}{xs ys:List V}{K:V→Rs}{r:Rs}
theorem flat_v{F:List V→Rs}(h:cell H i=some (.list ys))(hf:ys.all flatV=true)(g:F ys=r):flatK H (view H (.ref i)) F=r:=by
  rw[view_c h]
  show bx (lstC (con H (.ref i))) _=r
  rw[con_c h];exact gd_ok hf g
theorem cut_a{a:Nat}(ha:a≤xs.length):(xs.take (clip (a:Int) xs.length)).drop 0=xs.take a:=by
  rw[List.drop_zero,show clip (a:Int) xs.length=min a xs.length from rfl,Nat.min_eq_left ha]
theorem cut_b{a:Nat}(ha:a≤xs.length):(xs.take xs.length).drop (clip (a:Int) xs.length)=xs.drop a:=by
  rw[List.take_length,show clip (a:Int) xs.length=min a xs.length from rfl,Nat.min_eq_left ha]
end
theorem cell_app0{A:Hp}{o p:O}:cell (A++[o,p]) A.length=some o:=cell_app
theorem cell_app1{A:Hp}{o p:O}:cell (A++[o,p]) (A.length+1)=some p:=by
  have:=cell_app (A:=A++[o]) (o:=p) (B:=[])
  rw[List.length_append,List.append_assoc]at this;exact this
theorem setC_app1{A:Hp}{o p p':O}:setC (A++[o,p]) (A.length+1) p'=A++[o,p']:=by
  have:=setC_app (A:=A++[o]) (o:=p) (o':=p') (B:=[])
  rw[List.length_append,List.append_assoc,List.append_assoc]at this;exact this
theorem setC_app0{A:Hp}{o p o':O}:setC (A++[o,p]) A.length o'=A++[o',p]:=setC_app
noncomputable def mapH (X:O) (A B:V) (J:Hp):Hp:=X::.inst 5 [.dct DKV.1 DKV.2,.ref 2,.ref 3,.ref 4]::.dict [.str 27] [.ref 5]::.dict [] []::.dict [] []::.inst 4 [.str 0,A,B]::J
section
variable{X:O}{d:Nat}{f g:List Nat}{J:Hp}{x v a b c1 c2:Nat}{K:KF}{r:Rs}
theorem three_lt{f:List Nat}{e:Nat→V}{b:List V}{c1 c2:Nat}(hfl:f.length<800)(hb:b.length=2):(((f.map e).take c1++b).length+((f.map e).drop c2).length)<lim:=by
  rw[List.length_append,List.length_take,List.length_drop,List.length_map,hb]
  show _<100000
  omega
theorem c55t{C:Orc}{y:V}(hfl:f.length<800)(hgl:g.length=f.length)(h1:c1≤f.length)(h2:c2≤f.length)(ha:g[c1 - 1]?=some a)(hC:∀ H,C 52 [.str a,.str v] H=some (.bool (a==v),H))(hav:a≠v)(h0:1≤c1)
    (k:K .next [.ref 5,.int x,.int x,.str v,.int c1,.int c2,y,.ref (J.length+6),.ref (J.length+1+6)] (mapH X (.lst ((f.take c1++[x,x+1]++f.drop c2).map encN)) (.lst ((g.take c1++[v,b]++g.drop c2).map V.str)) (J++[.list ([x,x+1].map encN),.list ([v,b].map V.str)]))=r) :
    exL TB C (fn55.body.drop 6) [.ref 5,.int x,.int x,.str v,.int c1,.int c2,y,.ref (J.length+6),.ref (J.length+1+6)] (mapH X (.lst (f.map encN)) (.lst (g.map V.str)) (J++[.list ([x,x+1].map encN),.list ([v,b].map V.str)])) K=r:=by
  have l8:∀ {n:Nat},n<800→n<lim:=fun h=>Nat.lt_trans h (by decide)
  have hg8:g.length<800:=hgl▸hfl
  have hi:(c1:Int) - 1=(c1 - 1:Nat):=(Int.ofNat_sub h0).symm
  have hc7:∀ A B,cell (mapH X A B (J++[.list ([x,x+1].map encN),.list ([v,b].map V.str)])) (J.length+6)=some (.list ([x,x+1].map encN)):=fun zz zz=>cell_app0
  have hc8:∀ A B,cell (mapH X A B (J++[.list ([x,x+1].map encN),.list ([v,b].map V.str)])) (J.length+1+6)=some (.list ([v,b].map V.str)):=fun zz zz=>cell_app1
  rw[List.map_append,List.map_append,List.map_append,List.map_append,List.map_take,List.map_take,List.map_drop,List.map_drop]at k
  refine cs_d (fun zz=>bd_ok (at_m ha hi) (b2_ok (hC _) (cs_f (beq_false_of_ne hav) ?_))) fun h=>absurd (Int.ofNat_lt.mpr h0) h
  show exL TB C (fn55.body.drop 7) [.ref 5,.int x,.int x,.str v,.int c1,.int c2,y,.ref (J.length+6),.ref (J.length+1+6)] (mapH X (.lst (f.map encN)) (.lst (g.map V.str)) (J++[.list ([x,x+1].map encN),.list ([v,b].map V.str)])) K=r
  clear ha hi h0 hav hC
  have t2:∀ {e:Nat→V} {f:List Nat} {b:List V},f.length<800→b.length=2→((f.map e).take c1).length+b.length<lim:=fun h hb=>by rw[hb];exact Nat.lt_of_le_of_lt (Nat.add_le_add_right (Nat.le_trans (List.length_take_le' _ _) (by rw[List.length_map];exact Nat.le_of_lt h)) 2) (by decide)
  have f1:c1≤(f.map encN).length:=by rw[List.length_map];exact h1
  have f2:c2≤(f.map encN).length:=by rw[List.length_map];exact h2
  have g1:c1≤(g.map V.str).length:=by rw[List.length_map,hgl];exact h1
  have g2:c2≤(g.map V.str).length:=by rw[List.length_map,hgl];exact h2
  have s1:=small_n (Nat.lt_of_le_of_lt h1 (l8 hfl))
  have s2:=small_n (Nat.lt_of_le_of_lt h2 (l8 hfl))
  rw[←cut_a f1,←cut_b f2,←cut_a g1,←cut_b g2]at k
  refine gl_ok (lm (l8 hfl)) (gd_ok s1 ?_)
  refine flat_v (hc7 _ _) rfl (gl_ok ?_ ?_)
  · rw[cut_a f1];exact t2 hfl rfl
  refine gl_ok (lm (l8 hfl)) (gd_ok s2 (gl_ok ?_ ?_))
  · rw[cut_a f1,cut_b f2];exact three_lt hfl rfl
  refine gl_ok (lm (l8 hg8)) (gd_ok s1 ?_)
  refine flat_v (hc8 _ _) rfl (gl_ok ?_ ?_)
  · rw[cut_a g1];exact t2 hg8 rfl
  refine gl_ok (lm (l8 hg8)) (gd_ok s2 (gl_ok ?_ ?_))
  · rw[cut_a g1,cut_b g2];exact three_lt hg8 rfl
  exact k
theorem st55{C:Orc}{A y:V}{s:List St}(hb:g[c2 - 1]?=some b)(h02:1≤c2)(h:exL TB C s [.ref 5,.int x,.int x,.str v,y,.int c2,.str b,.ref (J.length+6),.ref (J.length+1+6)] (mapH X A (.lst (g.map V.str)) (J++[.list [.int x],.list [.str v]])) K=r) :
    exL TB C (.assign (.var 6) (.item (.attr (.var 0) 26) (.bin .sub (.var 5) (.int 1)))::.unpack [.var 7,.var 8] (.tup [.lst true [.var 1],.lst true [.var 3]])::s) [.ref 5,.int x,.int x,.str v,y,.int c2,.undef,.undef,.undef] (mapH X A (.lst (g.map V.str)) J) K=r:=by
  generalize hB:V.lst (g.map V.str)=B at h
  have e1:(mapH X A B J++[O.list [.int x]]).length=J.length+1+6:=List.length_append
  have e2:mapH X A B (J++[.list [.int x],.list [.str v]])=mapH X A B J++[.list [.int x]]++[.list [.str v]]:=(List.append_assoc (mapH X A B J) [O.list [.int x]] [O.list [.str v]]).symm
  rw[e2,←e1]at h
  subst hB
  exact bd_ok (at_m hb (Int.ofNat_sub h02).symm) h
theorem mapH_set0{A B:V}{o p o':O}:setC (mapH X A B (J++[o,p])) (J.length+6) o'=mapH X A B (J++[o',p]):=by
  show mapH X A B (setC (J++[o,p]) J.length o')=_
  rw[setC_app0]
theorem mapH_set1{A B:V}{o p p':O}:setC (mapH X A B (J++[o,p])) (J.length+1+6) p'=mapH X A B (J++[o,p']):=by
  show mapH X A B (setC (J++[o,p]) (J.length+1) p')=_
  rw[setC_app1]
theorem st55b{T:Tab}{M:Int}{C:Orc}{A B y z:V}{s:List St}(hC:∀ H,C 52 [.str b,.str v] H=some (.bool (b==v),H))(hbv:b≠v)(hT:T.csts 13=some (.int M))(hx2:(x:Int)<M)
    (k:exL T C s [.ref 5,.int x,.int x,.str v,y,z,.str b,.ref (J.length+6),.ref (J.length+1+6)] (mapH X A B (J++[.list ([x,x+1].map encN),.list ([v,b].map V.str)])) K=r) :
    exL T C (.ite (.and [.cmp .Lt (.var 2) (.cst 13),.not (.call 52 [.var 6,.var 3])]) [.expr (.meth (.var 7) 0 [.bin .add (.var 2) (.int 1)]),.expr (.meth (.var 8) 0 [.frz (.var 6)])] []::s) [.ref 5,.int x,.int x,.str v,y,z,.str b,.ref (J.length+6),.ref (J.length+1+6)] (mapH X A B (J++[.list [.int x],.list [.str v]])) K=r:=by
  have hc7:cell (mapH X A B (J++[.list [.int x],.list [.str v]])) (J.length+6)=some (.list [.int x]):=cell_app0
  refine bx_ok hT (cs_t (decide_eq_true hx2) ?_)
  refine b2_ok (hC _) (cs_t (by rw[beq_false_of_ne hbv];rfl) ?_)
  refine meth_v hc7 (fun zz=>rfl) (own_v hc7 ?_)
  show exL T C [.expr (.meth (.var 8) 0 [.frz (.var 6)])] [.ref 5,.int x,.int x,.str v,y,z,.str b,.ref (J.length+6),.ref (J.length+1+6)] (setC (mapH X A B (J++[.list [.int x],.list [.str v]])) (J.length+6) (.list ([x,x+1].map encN))) (fun fl loc H=>nx fl (exL T C s loc H K) (K fl loc H))=r
  rw[mapH_set0]
  have hc8:cell (mapH X A B (J++[.list ([x,x+1].map encN),.list [.str v]])) (J.length+1+6)=some (.list [.str v]):=cell_app1
  rw[←mapH_set1 (p:=.list [.str v])]at k
  exact meth_v hc8 (fun zz=>rfl) (own_v hc8 k)
theorem c55(hfl:f.length<800)(hgl:g.length=f.length)(h1:1≤c1)(h12:c1≤c2)(h2:c2≤f.length)(hx:1≤x)(hx2:x<1114111)(l1:∀ i w,i<c1→f[i]?=some w→w≤x - 1)(l2:∀ i w,c1≤i→f[i]?=some w→x - 1<w)(u1:∀ i w,i<c2→f[i]?=some w→w≤x+1)(u2:∀ i w,c2≤i→f[i]?=some w→x+1<w)(hb:g[c2 - 1]?=some b)(ha:g[c1 - 1]?=some a)(hbv:b≠v)(hav:a≠v) :
    callF TB (d+2) 55 [.ref 5,.int x,.int x,.str v] (mapH X (.lst (f.map encN)) (.lst (g.map V.str)) J)=some (.none,mapH X (.lst ((f.take c1++[x,x+1]++f.drop c2).map encN)) (.lst ((g.take c1++[v,b]++g.drop c2).map V.str)) (J++[.list ([x,x+1].map encN),.list ([v,b].map V.str)])):=by
  have e1:∀ H,callF TB (d+1) 51 [.lst (f.map encN),.int ((x:Int) - 1)] H=some (.int ((c1:Int) - 1),H):=fun H=>by
    rw[show(x:Int) - 1=(x - 1:Nat)from(Int.ofNat_sub hx).symm];exact c51 (Nat.lt_trans hfl (by decide)) (Nat.le_trans h12 h2) l1 l2
  have e2:∀ H,callF TB (d+1) 51 [.lst (f.map encN),.int ((x:Int)+1)] H=some (.int ((c2:Int) - 1),H):=fun H=>c51 (Nat.lt_trans hfl (by decide)) h2 u1 u2
  have h02:1≤c2:=Nat.le_trans h1 h12
  show exL TB (callF TB (d+1)) fn55.body [.ref 5,.int x,.int x,.str v,.undef,.undef,.undef,.undef,.undef] (mapH X (.lst (f.map encN)) (.lst (g.map V.str)) J) (fun fl zz H=>outK fl H fun v H=>some (v,H))=_
  refine cs_d (fun h=>absurd h (Int.lt_irrefl _)) fun zz=>b2_ok (e1 _) (b2_ok (e2 _) ?_)
  show exL TB (callF TB (d+1)) (fn55.body.drop 3) [.ref 5,.int x,.int x,.str v,.int ((c1:Int) - 1+1),.int ((c2:Int) - 1+1),.undef,.undef,.undef] (mapH X (.lst (f.map encN)) (.lst (g.map V.str)) J) (fun fl zz H=>outK fl H fun v H=>some (v,H))=_
  rw[Int.sub_add_cancel,Int.sub_add_cancel]
  refine st55 (s:=fn55.body.drop 5) hb h02 ?_
  refine st55b (s:=fn55.body.drop 6) (M:=(1114111:Nat)) (fun zz=>c52) hbv rfl (Int.ofNat_lt.mpr hx2) ?_
  exact c55t hfl hgl (Nat.le_trans h12 h2) h2 ha (fun zz=>c52) hav h1 rfl
end
end Mine
end
section
namespace Mine
section
variable{X:O}{d:Nat}
noncomputable def H0 (X:O):Hp:=[X,.inst 5 [.dct DKV.1 DKV.2,.ref 2,.ref 3,.ref 4],.dict [] [],.dict [] [],.dict [] []]
theorem c53:callF TB (d+1) 53 [.ref 5,.str 0] (H0 X++[.inst 4 []])=some (.none,H0 X++[.inst 4 [.str 0,.ref 6,.ref 7],.list [.int 0],.list [.str 0]]):=rfl
theorem c62a:callF TB (d+2) 62 [.ref 1,.str 27] (H0 X)=some (.ref 5,mapH X (.ref 6) (.ref 7) [.list [.int 0],.list [.str 0]]):=by
  have h:∀ v,v=V.str 0→callF TB (d+1) 53 [.ref 5,v] (H0 X++[.inst 4 []])=some (.none,H0 X++[.inst 4 [.str 0,.ref 6,.ref 7],.list [.int 0],.list [.str 0]]):=fun v hv=>by rw[hv];exact c53
  generalize hC:callF TB (d+1)=C at *
  show exL TB (callF TB (d+1)) fn62.body [.ref 1,.str 27] (H0 X) (fun fl zz H=>outK fl H fun v H=>some (v,H))=_
  rw[hC]
  refine b2_ok (h (view (H0 X) ((look (.str 27) DKV.1 DKV.2).getD .none)) (by rw[dkv_bc];rfl)) ?_
  rfl
theorem c62b{A B:V}{J:Hp}:callF TB (d+1) 62 [.ref 1,.str 27] (mapH X A B J)=some (.ref 5,mapH X A B J):=rfl
theorem c51a{H:Hp}{x:Nat}(h:1≤x):callF TB (d+1) 51 [.lst [.int 0],.int x] H=some (.int 0,H):=
  c51 (f:=[0]) (c:=1) (by decide) (by decide) (fun i v h1 h2=>by cases Nat.lt_one_iff.mp h1;cases h2;exact Nat.zero_le _) (fun i v h1 h2=>by rw[List.getElem?_eq_none h1]at h2;cases h2)
section
variable{C:Orc}{s:List St}{K:KF}{r:Rs}
noncomputable def mA (X:O) (J:Hp):Hp:=mapH X (.ref 6) (.ref 7) (.frz (.lst [.int 0])::.list [.str 0]::J)
theorem p55a(e1:C 51 [.ref 6,.int 64] (mapH X (.ref 6) (.ref 7) [.list [.int 0],.list [.str 0]])=some (.int 0,mA X []))(e2:C 51 [.lst [.int 0],.int 66] (mA X [])=some (.int 0,mA X []))
    (k:exL TB C s [.ref 5,.int 65,.int 65,.str 0,.int 1,.int 1,.undef,.undef,.undef] (mA X []) K=r) :
    exL TB C (fn55.body.take 3++s) [.ref 5,.int 65,.int 65,.str 0,.undef,.undef,.undef,.undef,.undef] (mapH X (.ref 6) (.ref 7) [.list [.int 0],.list [.str 0]]) K=r:=b2_ok e1 (b2_ok e2 k)
theorem p55b(e3:∀ H,C 52 [.str 0,.str 0] H=some (.bool true,H))
    (k:exL TB C s [.ref 5,.int 65,.int 65,.str 0,.int 1,.int 1,.str 0,.ref 8,.ref 9] (mA X [.list [.int 65],.list [.str 0]]) K=r) :
    exL TB C ((fn55.body.drop 3).take 3++s) [.ref 5,.int 65,.int 65,.str 0,.int 1,.int 1,.undef,.undef,.undef] (mA X []) K=r:=b2_ok (e3 _) k
theorem p55c(e3:∀ H,C 52 [.str 0,.str 0] H=some (.bool true,H))
    (k:exL TB C s [.ref 5,.int 65,.int 65,.str 0,.int 1,.int 1,.str 0,.lst [],.lst []] (mA X [.list [.int 65],.list [.str 0]]) K=r) :
    exL TB C ((fn55.body.drop 6).take 1++s) [.ref 5,.int 65,.int 65,.str 0,.int 1,.int 1,.str 0,.ref 8,.ref 9] (mA X [.list [.int 65],.list [.str 0]]) K=r:=b2_ok (e3 _) k
theorem p55d(k:K .next [.ref 5,.int 65,.int 65,.str 0,.int 1,.int 1,.str 0,.lst [],.lst []] (mapH X (.lst [.int 0]) (.lst [.str 0]) [.frz (.lst [.int 0]),.list [.str 0],.list [.int 65],.list [.str 0]])=r) :
    exL TB C (fn55.body.drop 7) [.ref 5,.int 65,.int 65,.str 0,.int 1,.int 1,.str 0,.lst [],.lst []] (mA X [.list [.int 65],.list [.str 0]]) K=r:=k
end
theorem c55a:callF TB (d+2) 55 [.ref 5,.int 65,.int 65,.str 0] (mapH X (.ref 6) (.ref 7) [.list [.int 0],.list [.str 0]])=some (.none,mapH X (.lst [.int 0]) (.lst [.str 0]) [.frz (.lst [.int 0]),.list [.str 0],.list [.int 65],.list [.str 0]]):=by
  have e1:callF TB (d+1) 51 [.ref 6,.int 64] (mapH X (.ref 6) (.ref 7) [.list [.int 0],.list [.str 0]])=some (.int 0,mA X []):=c51a (H:=mA X []) (x:=64) (by decide)
  have e2:callF TB (d+1) 51 [.lst [.int 0],.int 66] (mA X [])=some (.int 0,mA X []):=c51a (x:=66) (by decide)
  have e3:∀ H,callF TB (d+1) 52 [.str 0,.str 0] H=some (.bool true,H):=fun H=>c52
  exact p55a (s:=fn55.body.drop 3) e1 e2 (p55b (s:=fn55.body.drop 6) e3 (p55c (s:=fn55.body.drop 7) e3 (p55d rfl)))
end
end Mine
end
section
namespace Mine
noncomputable def fS (k:Nat):List Nat:=if k≤1 then[0]else 0::(List.range k).map (66+·)
noncomputable def gS (k:Nat):List Nat:=if k≤1 then[0]else List.range k++[0]
theorem of_take{f:List Nat}{c:Nat}{P:Nat→Prop}(h:∀ w∈f.take c,P w):∀ i w,i<c→f[i]?=some w→P w:=fun i w hi hw=>
  h w (List.mem_of_getElem? (i:=i) (by rw[List.getElem?_take,if_pos hi];exact hw))
theorem of_drop{f:List Nat}{c:Nat}{P:Nat→Prop}(h:∀ w∈f.drop c,P w):∀ i w,c≤i→f[i]?=some w→P w:=fun i w hi hw=>
  h w (List.mem_of_getElem? (i:=i - c) (by rw[List.getElem?_drop,Nat.add_sub_cancel' hi];exact hw))
theorem facts:∀ k,k<23→1≤k→(fS k).length<800∧(gS k).length=(fS k).length∧k≤(fS k).length∧(∀ w∈(fS k).take k,w≤65+k - 1)∧(∀ w∈(fS k).drop k,65+k - 1<w)∧(∀ w∈(fS k).take (fS k).length,w≤65+k+1)∧(∀ w∈(fS k).drop (fS k).length,65+k+1<w)∧(gS k)[(fS k).length - 1]?=some 0∧(gS k)[k - 1]?=some (k - 1)∧fS (k+1)=(fS k).take k++[65+k,65+k+1]++(fS k).drop (fS k).length∧gS (k+1)=(gS k).take k++[k,0]++(gS k).drop (fS k).length:=by decide +kernel
noncomputable def kindsN:List Nat:=List.range 23
section
variable{X:O}{d:Nat}
noncomputable def dJ:Nat→Hp
  | 0=>[.frz (.lst [.int 0]),.list [.str 0],.list [.int 65],.list [.str 0]]
  | k+1=>dJ k++[.list ([65+(k+1),65+(k+1)+1].map encN),.list ([k+1,0].map V.str)]
noncomputable def dH (X:O):Nat→Hp
  | 0=>H0 X
  | k+1=>mapH X (.lst ((fS (k+1)).map encN)) (.lst ((gS (k+1)).map V.str)) (dJ k)
theorem p60{x:Int}{v:Nat}{D:List V}{H H':Hp}{A B:V}{J:Hp}(h1:callF TB (d+2) 62 [.ref 1,.str 27] (X::.inst 5 D::H)=some (.ref 5,mapH X A B J))(h2:callF TB (d+2) 55 [.ref 5,.int x,.int x,.str v] (mapH X A B J)=some (.none,H')) :
    callF TB (d+3) 60 [.ref 1,.str 27,.int x,.int x,.str v] (X::.inst 5 D::H)=some (.none,H'):=b2_ok h1 (b2_ok h2 rfl)
theorem c60{k:Nat}(hk:k<23):callF TB (d+3) 60 [.ref 1,.str 27,.int (65+k:Nat),.int (65+k:Nat),.str k] (dH X k)=some (.none,dH X (k+1)):=by
  cases k with
  | zero=>
    show callF TB (d+3) 60 [.ref 1,.str 27,.int 65,.int 65,.str 0] (H0 X)=some (.none,mapH X (.lst [.int 0]) (.lst [.str 0]) [.frz (.lst [.int 0]),.list [.str 0],.list [.int 65],.list [.str 0]])
    exact p60 c62a c55a
  | succ k=>
    obtain⟨f1,f2,f3,f4,f5,f6,f7,f8,f9,f10,f11⟩:=facts (k+1) hk (Nat.succ_pos k)
    have e:=c55 (X:=X) (d:=d) (J:=dJ k) f1 f2 (Nat.succ_pos k) f3 (Nat.le_refl _) (Nat.le_add_right_of_le (by decide)) (Nat.lt_trans (Nat.add_lt_add_left hk 65) (by decide)) (of_take f4) (of_drop f5) (of_take f6) (of_drop f7) f8 f9 (Nat.succ_ne_zero k).symm (Nat.ne_of_lt (Nat.lt_succ_self k))
    rw[←f10,←f11]at e
    exact p60 c62b e
noncomputable def D0:V:=.inst 5 [.dct DKV.1 DKV.2,.dct [.str 27] [.inst 4 [.str 0,.lst ((fS 23).map encN),.lst ((gS 23).map V.str)]],.dct [] [],.dct [] []]
noncomputable def frH (X:O) (J:Hp):Hp:=X::.frz D0::.frz (.dct [.str 27] [.inst 4 [.str 0,.lst ((fS 23).map encN),.lst ((gS 23).map V.str)]])::.frz (.dct [] [])::.frz (.dct [] [])::.frz (.inst 4 [.str 0,.lst ((fS 23).map encN),.lst ((gS 23).map V.str)])::J
theorem data_frz{J:Hp}:frz 8 (.ref 1) (mapH X (.lst ((fS 23).map encN)) (.lst ((gS 23).map V.str)) J)=some (D0,frH X J):=rfl
theorem c54{H:Hp}{f g:List Nat}{x c v:Nat}(hl:f.length<900)(hc:c+1≤f.length)(h1:∀ i v,i<c+1→f[i]?=some v→v≤x)(h2:∀ i v,c+1≤i→f[i]?=some v→x<v)(hv:g[c]?=some v):callF TB (d+2) 54 [.inst 4 [.str 0,.lst (f.map encN),.lst (g.map V.str)],.int x] H=some (.str v,H):=
  b2_ok (c51 (d:=d) hl hc h1 h2) (bd_ok (at_m hv (Int.add_sub_cancel c 1)) rfl)
theorem facts2:∀ k,k<23→k+1≤(fS 23).length∧(∀ w∈(fS 23).take (k+1),w≤65+k)∧(∀ w∈(fS 23).drop (k+1),65+k<w)∧(gS 23)[k]?=some k:=by decide +kernel
theorem fS_len:(fS 23).length<900:=by decide +kernel
theorem frz_get{H:Hp}{k v:V}{ks vs:List V}{K:KV}{r:Rs}(h:look k ks vs=some v)(g:frzK (view H v) H K=r):frzK (view H ((look k ks vs).getD .none)) H K=r:=by rw[h];exact g
theorem isData_D0:isData D0:=by
  refine⟨⟨_,rfl⟩,fun d H k hk=>?_,fun d H c=>?_⟩
  rotate_left
  · have h:=dkv_bpb
    unfold D0
    generalize DKV=D at h ⊢
    exact frz_get h rfl
  obtain⟨h0,h1,h2,h3⟩:=facts2 k hk
  have e:=fun H=>c54 (d:=d) (H:=H) fS_len h0 (of_take h1) (of_drop h2) h3
  unfold D0
  generalize (fS 23).map encN=F at *
  generalize (gS 23).map V.str=G at *
  exact b2_ok (e _) rfl
end
end Mine
end
section
namespace Mine
noncomputable def cod (l:List Nat):List Nat:=l.map (65+·)
noncomputable def cutAt (ks:List Nat):Nat→List (Nat×Nat)×Nat
  | 0=>([],0)
  | m+1=>if kd ks m=13 then((cutAt ks m).1++[((cutAt ks m).2,m+1)],m+1)else cutAt ks m
noncomputable def cuts (ks:List Nat):List (Nat×Nat):=(cutAt ks ks.length).1++if(cutAt ks ks.length).2<ks.length then[((cutAt ks ks.length).2,ks.length)]else[]
noncomputable def sl (ks:List Nat) (uv:Nat×Nat):List Nat:=(ks.take uv.2).drop uv.1
noncomputable def noSep (ks:List Nat) (n:Nat) (uv:Nat×Nat):Prop:=uv.1≤uv.2∧uv.2≤n∧∀ i,uv.1≤i→i+1<uv.2→kd ks i≠13
section
variable{ks:List Nat}{m:Nat}{uv:Nat×Nat}
theorem noSep.up(h:noSep ks m uv):noSep ks (m+1) uv:=⟨h.1,Nat.le_succ_of_le h.2.1,h.2.2⟩
theorem cut_inv:(cutAt ks m).2≤m∧(∀ i,(cutAt ks m).2≤i→i<m→kd ks i≠13)∧(∀ uv∈(cutAt ks m).1,noSep ks m uv)∧(cutAt ks m).1.length≤m:=by
  induction m with
  | zero=>exact⟨Nat.le_refl _,fun i zz h=>absurd h (Nat.not_lt_zero i),nofun,Nat.le_refl _⟩
  | succ m ih=>
    obtain⟨h1,h2,h3,h4⟩:=ih
    unfold cutAt
    generalize cutAt ks m=S at *
    by_cases h:kd ks m=13
    · rw[if_pos h]
      refine⟨Nat.le_refl _,fun i g1 g2=>absurd g2 (Nat.not_lt.mpr g1),fun uv hu=>(List.mem_append.mp hu).elim (fun hu=>(h3 uv hu).up) fun hu=>?_,by rw[List.length_append];exact Nat.succ_le_succ h4⟩
      cases List.mem_singleton.mp hu
      exact⟨Nat.le_succ_of_le h1,Nat.le_refl _,fun i g1 g2=>h2 i g1 (Nat.lt_of_succ_lt_succ g2)⟩
    · rw[if_neg h]
      refine⟨Nat.le_succ_of_le h1,fun i g1 g2=>(Nat.lt_or_eq_of_le (Nat.le_of_lt_succ g2)).elim (h2 i g1) fun e=>e▸h,fun uv hu=>(h3 uv hu).up,Nat.le_succ_of_le h4⟩
theorem cuts_ok:∀ uv∈cuts ks,noSep ks ks.length uv:=by
  intro uv hu
  obtain⟨h1,h2,h3,h4⟩:=cut_inv (ks:=ks) (m:=ks.length)
  refine(List.mem_append.mp hu).elim (h3 uv) fun hu=>?_
  by_cases h:(cutAt ks ks.length).2<ks.length
  · rw[if_pos h]at hu
    cases List.mem_singleton.mp hu
    exact⟨h1,Nat.le_refl _,fun i g1 g2=>h2 i g1 (Nat.lt_of_succ_lt g2)⟩
  · rw[if_neg h]at hu;cases hu
theorem cuts_few:(cuts ks).length≤ks.length+1:=by
  obtain⟨-,-,-,h4⟩:=cut_inv (ks:=ks) (m:=ks.length)
  unfold cuts
  rw[List.length_append]
  refine Nat.add_le_add h4 ?_
  exact ite_P (P:=fun l:List (Nat×Nat)=>l.length≤1) (fun zz=>Nat.le_refl _) fun zz=>Nat.zero_le _
theorem sl_len:(sl ks uv).length≤ks.length:=by
  unfold sl;rw[List.length_drop];exact Nat.le_trans (Nat.sub_le _ _) (List.length_take_le' _ _)
theorem sl_sep(h:noSep ks ks.length uv):sepLast (sl ks uv):=by
  intro i hi
  obtain⟨h1,h2,h3⟩:=h
  unfold sl at hi ⊢
  rw[List.getElem?_drop,List.getElem?_take]at hi
  by_cases hlt:uv.1+i<uv.2
  · rw[if_pos hlt]at hi
    have:¬(uv.1+i+1<uv.2):=fun hh=>h3 _ (Nat.le_add_right _ _) hh (kd_at hi)
    rw[List.length_drop,List.length_take,Nat.min_eq_left h2,←Nat.le_antisymm hlt (Nat.not_lt.mp this),Nat.succ_eq_add_one,Nat.add_assoc,Nat.add_sub_cancel_left]
  · rw[if_neg hlt]at hi;cases hi
theorem sl_mem{P:Nat→Prop}(h:∀ x∈ks,P x):∀ x∈sl ks uv,P x:=fun x hx=>h x (List.mem_of_mem_take (List.mem_of_mem_drop hx))
variable{D:V}{d:Nat}{H:Hp}{l:List Nat}
theorem c1(hD:isData D)(hl:l.length<lim)(hk:∀ x∈l,x<23):callF TB (d+4) 1 [.lst ((cod l).map encN),D] H=some (.lst (l.map V.str),H):=by
  have hb:=fun H k hk=>hD.bc d H k hk
  obtain⟨vs,rfl⟩:=hD.cls
  have e:(cod l).map encN=l.map fun x=>encN (65+x):=by unfold cod;rw[List.map_map];rfl
  rw[e]
  refine comp_m (fun x=>encN (65+x)) V.str (fun x hx K=>b2_ok (hb _ x (hk x hx)) rfl) ?_
  exact held V.str (fun zz=>rfl) hl rfl
theorem c2(hD:isData D)(hl:ks.length<800)(hk:∀ x∈ks,x<23):callF TB (d+4) 2 [.lst ((cod ks).map encN),D] H=some (.lst ((cuts ks).map encP),H):=by
  have hb:=fun H k hk=>hD.bc d H k hk
  obtain⟨vs,rfl⟩:=hD.cls
  have hcl:(cod ks).length=ks.length:=List.length_map _
  have l8:∀ {n:Nat},n≤800→n<lim:=fun h=>Nat.lt_of_le_of_lt h (by decide)
  refine for_ke encN (l:=cod ks) (fun m w=>[.lst ((cod ks).map encN),.inst 5 vs,.ref 0,.int (cutAt ks m).2,slot w 0,slot w 1,slot w 2]) (fun m zz=>[.list ((cutAt ks m).1.map encP)]) ?_ ?_ (w:=[.undef,.undef,.undef])
  · intro m x w N hm hat X
    rw[hcl]at hm
    obtain⟨k,hkm⟩:=at_some hm
    have hk23:=hk k (List.mem_of_getElem? hkm)
    have hx:x=65+k:=by
      unfold cod at hat
      rw[List.getElem?_map,hkm]at hat
      exact(Option.some.inj hat).symm
    subst hx
    have hkd:=kd_at hkm
    have hI:=(cut_inv (ks:=ks) (m:=m)).2.2.2
    have nx:=X.next
    have e:cutAt ks (m+1)=if k=13 then((cutAt ks m).1++[((cutAt ks m).2,m+1)],m+1)else cutAt ks m:=by rw[cutAt,hkd]
    rw[e]at nx
    clear X hat hkm hkd e
    generalize cutAt ks m=S at *
    refine b2_ok (hb _ k hk23) (cs_d (fun h=>?_) fun h=>?_)
    · rw[if_pos h]at nx
      cases h
      have nx:=nx [.int m,.int (65+13:Nat),.bool false]
      rw[←app_m]at nx
      exact gl_ok (lm (l8 (Nat.le_trans hI (Nat.le_of_lt (Nat.lt_trans hm hl))))) nx
    · rw[if_neg h]at nx
      exact nx [.int m,.int (65+k:Nat),slot w 2]
  · intro w
    rw[hcl]
    have hI:=(cut_inv (ks:=ks) (m:=ks.length)).2.2.2
    have hn:(((cod ks).map encN).length:Int)=ks.length:=by rw[List.length_map,hcl]
    have hc:cuts ks=(cutAt ks ks.length).1++if(cutAt ks ks.length).2<ks.length then[((cutAt ks ks.length).2,ks.length)]else[]:=rfl
    have fin:∀ vs',vs'=(cuts ks).map encP→exL TB (callF TB (d+3)) (fn2.body.drop 4) [.lst ((cod ks).map encN),.inst 5 vs,.ref 0,.int (cutAt ks ks.length).2,slot w 0,slot w 1,slot w 2] [.list vs'] (fun fl zz H1=>outK fl H1 fun v H2=>frzK v H2 fun u zz=>some (u,H))=some (.lst ((cuts ks).map encP),H):=by
      rintro _ rfl;exact b2_ok (frz_i (n:=6) (l:=cuts ks) (fun zz zz=>rfl) rfl) rfl
    refine cs_d (fun h=>?_) fun h=>?_
    · rw[hn]at h
      refine gl_ok (lm (l8 (Nat.le_trans hI (Nat.le_of_lt hl)))) (fin _ ?_)
      rw[hc,if_pos (Int.ofNat_lt.mp h),←app_m]
      show _=_++[V.tup [.int _,.int (ks.length:Int)]]
      rw[←hn];rfl
    · rw[hn]at h
      exact fin _ (by rw[hc,if_neg fun q=>h (Int.ofNat_lt.mpr q),List.append_nil])
end
end Mine
end
section
namespace Mine
section
variable{D:V}{d:Nat}{H:Hp}{ks:List Nat}{w dp:Nat}
noncomputable def pgOf (ks:List Nat) (w dp:Nat) (uv:Nat×Nat):V:=encPg uv.1 (uv.1+((cod (sl ks uv)).map encN).length) (cod (sl ks uv)) (baseOf w (sl ks uv)) (sl ks uv) (lvs (sl ks uv) (baseOf w (sl ks uv)) dp) (cls (sl ks uv) (baseOf w (sl ks uv)) dp)
theorem slc25{C:Orc}{s:List St}{K:KF}{r:Rs}{a b:V}{uv:Nat×Nat}{x8 x9 x10 x11:V}(hl:ks.length<300)(hu:noSep ks ks.length uv)
    (k:exL TB C s [.lst ((cod ks).map encN),D,a,b,.ref 0,.int uv.1,.int uv.2,.lst ((cod (sl ks uv)).map encN),x8,x9,x10,x11] H K=r) {x7:V} :
    exL TB C (.assign (.var 7) (.slc (.var 0) (some (.var 5)) (some (.var 6)))::s) [.lst ((cod ks).map encN),D,a,b,.ref 0,.int uv.1,.int uv.2,x7,x8,x9,x10,x11] H K=r:=by
  have hcl:((cod ks).map encN).length=ks.length:=by unfold cod;rw[List.length_map,List.length_map]
  have e:(((cod ks).map encN).take (clip (uv.2:Int) ((cod ks).map encN).length)).drop (clip (uv.1:Int) ((cod ks).map encN).length)=(cod (sl ks uv)).map encN:=by
    rw[hcl,show clip (uv.2:Int) ks.length=uv.2 from Nat.min_eq_left hu.2.1,show clip (uv.1:Int) ks.length=uv.1 from Nat.min_eq_left (Nat.le_trans hu.1 hu.2.1)]
    unfold cod sl
    rw[←List.map_take,←List.map_drop,←List.map_take,←List.map_drop]
  rw[←e]at k
  have l3:∀ {n:Nat},n≤ks.length→n<100000:=fun h=>Nat.lt_of_le_of_lt h (Nat.lt_trans hl (by decide))
  exact gl_ok (by rw[hcl];exact l3 (Nat.le_refl _)) (gd_ok (small_n (l3 (Nat.le_trans hu.1 hu.2.1))) (gd_ok (small_n (l3 hu.2.1)) k))
theorem p25{C:Orc}{s:List St}{K:KF}{r:Rs}{T:V}{vs co l L cl:List V}{dp a b base:Int}{wn:Nat}{x8 x9 x10 x11:V}(h1:C 1 [.lst co,.inst 5 vs] H=some (.lst l,H))(h5:C 5 [.lst l,.str wn] H=some (.int base,H))(h15:C 15 [.lst l,.int base,.int dp] H=some (.tup [.lst L,.lst cl],H))
    (k:exL TB C s [T,.inst 5 vs,.str wn,.int dp,.ref 0,.int a,.int b,.lst co,.lst l,.int base,.lst L,.lst cl] H K=r) :
    exL TB C (((fb fn25 1).drop 1).take 3++s) [T,.inst 5 vs,.str wn,.int dp,.ref 0,.int a,.int b,.lst co,x8,x9,x10,x11] H K=r:=b2_ok h1 (b2_ok h5 (b2_ok h15 k))
theorem p25b{d:Nat}{K:KF}{r:Rs}{T w dp:V}{vs l L cl F:List V}{co:List V}{a base:Nat}{b:V}(hF:F.length<lim)
    (k:K .next [T,.inst 5 vs,w,dp,.ref 0,.int a,b,.lst co,.lst l,.int base,.lst L,.lst cl] [.list (F++[.inst 3 [.int a,.int (a+co.length:Nat),.lst co,.int base,.lst l,.lst L,.lst cl]])]=r) :
    exL TB (callF TB (d+1)) ((fb fn25 1).drop 4) [T,.inst 5 vs,w,dp,.ref 0,.int a,b,.lst co,.lst l,.int base,.lst L,.lst cl] [.list F] K=r:=gl_ok hF k
theorem c25(hD:isData D)(hl:ks.length<300)(hk:∀ x∈ks,x<23):callF TB (d+6) 25 [.lst ((cod ks).map encN),D,.str w,.int dp] H=some (.lst ((cuts ks).map (pgOf ks w dp)),H):=by
  have e2:∀ H,callF TB (d+5) 2 [.lst ((cod ks).map encN),D] H=some (.lst ((cuts ks).map encP),H):=fun H=>c2 (d:=d+1) hD (Nat.lt_trans hl (by decide)) hk
  have e1:∀ uv H,callF TB (d+5) 1 [.lst ((cod (sl ks uv)).map encN),D] H=some (.lst ((sl ks uv).map V.str),H):=fun uv H=>c1 (d:=d+1) hD (Nat.lt_of_le_of_lt sl_len (Nat.lt_trans hl (by decide))) (sl_mem hk)
  obtain⟨vs,rfl⟩:=hD.cls
  refine b2_ok (e2 _) (gd_ok (all_m encP fun zz=>rfl) ?_)
  refine for_w encP (l:=cuts ks) (fun zz w'=>[.lst ((cod ks).map encN),.inst 5 vs,.str w,.int dp,.ref 0,slot w' 0,slot w' 1,slot w' 2,slot w' 3,slot w' 4,slot w' 5,slot w' 6]) (fun pre zz=>[.list (pre.map (pgOf ks w dp))]) ?_ ?_ (w:=[.undef,.undef,.undef,.undef,.undef,.undef,.undef]) (J:=[])
  rotate_left
  · exact fun w' J=>b2_ok (frz_i (n:=6) (l:=cuts ks) (fun zz zz=>rfl) rfl) rfl
  intro pre uv post w' _ N hp n1 _
  have hu:=cuts_ok uv (hp▸List.mem_append_right _ (.head _))
  have hsl:(sl ks uv).length<300:=Nat.lt_of_le_of_lt sl_len hl
  have e5:∀ H,callF TB (d+5) 5 [.lst ((sl ks uv).map V.str),.str w] H=some (.int (baseOf w (sl ks uv)),H):=fun H=>c5 (d:=d+3) (Nat.lt_trans hsl (by decide)) (sl_sep hu)
  have e15:∀ H,callF TB (d+5) 15 [.lst ((sl ks uv).map V.str),.int (baseOf w (sl ks uv)),.int dp] H=_:=fun H=>c15 (d:=d) (Nat.lt_trans hsl (by decide)) (sl_sep hu)
  have hF:(pre.map (pgOf ks w dp)).length<lim:=lm (Nat.lt_trans (pre_lt hp) (Nat.lt_of_le_of_lt cuts_few (Nat.lt_trans (Nat.succ_lt_succ hl) (by decide))))
  have nx:=n1 [.int uv.1,.int uv.2,.lst ((cod (sl ks uv)).map encN),.lst ((sl ks uv).map V.str),.int (baseOf w (sl ks uv)),.lst ((lvs (sl ks uv) (baseOf w (sl ks uv)) dp).map encB),.lst ((cls (sl ks uv) (baseOf w (sl ks uv)) dp).map V.str)] []
  rw[←app_m]at nx
  generalize some (V.lst ((cuts ks).map (pgOf ks w dp)),H)=rr at *
  generalize pre.map (pgOf ks w dp)=F at *
  unfold pgOf at nx
  refine bx_ok (a:=[.lst ((cod ks).map encN),.inst 5 vs,.str w,.int dp,.ref 0,.int uv.1,.int uv.2,slot w' 2,slot w' 3,slot w' 4,slot w' 5,slot w' 6]) rfl ?_
  refine slc25 (s:=(fb fn25 1).drop 1) hl hu ?_
  exact p25 (s:=(fb fn25 1).drop 4) (e1 uv _) (e5 _) (e15 _) (p25b hF nx)
noncomputable def paraAll (w dp:Nat) (ks:List Nat) (cs:List (Nat×Nat)):List (Option Nat):=cs.flatMap fun uv=>para w dp (sl ks uv)
theorem paraAll_snoc{cs:List (Nat×Nat)}{uv:Nat×Nat}:paraAll w dp ks (cs++[uv])=paraAll w dp ks cs++para w dp (sl ks uv):=by
  unfold paraAll;rw[List.flatMap_append];exact congrArg _ (List.append_nil _)
theorem paraAll_len{cs:List (Nat×Nat)}:(paraAll w dp ks cs).length≤cs.length*ks.length:=by
  refine snoc_ind (P:=fun cs=>(paraAll w dp ks cs).length≤cs.length*ks.length) (Nat.zero_le _) (fun cs uv ih=>?_) cs
  rw[paraAll_snoc,List.length_append,List.length_append,len_para]
  show _≤(cs.length+1)*ks.length
  rw[Nat.succ_mul]
  exact Nat.add_le_add ih sl_len
theorem c50k{K:KF}{r:Rs}{x:V}(hD:isData D)(hl:ks.length<200)(hk:∀ x∈ks,x<23)(hK:∀ w',K (.ret (.ref 0)) [.lst ((cod ks).map encN),D,.str w,.int dp,.ref 0,w'] [.list ((paraAll w dp ks (cuts ks)).map encB)]=r) :
    exL TB (callF TB (d+8)) fn50.body [.lst ((cod ks).map encN),D,.str w,.int dp,.undef,x] [] K=r:=by
  have e25:∀ H,callF TB (d+8) 25 [.lst ((cod ks).map encN),D,.str w,.int dp] H=some (.lst ((cuts ks).map (pgOf ks w dp)),H):=fun H=>c25 (d:=d+2) hD (Nat.lt_trans hl (by decide)) hk
  have e49:∀ uv,noSep ks ks.length uv→∀ H,callF TB (d+8) 49 [pgOf ks w dp uv,D] H=some (.lst ((para w dp (sl ks uv)).map encB),H):=fun uv hu H=>by
    have hsl:(sl ks uv).length<200:=Nat.lt_of_le_of_lt sl_len hl
    exact c49 (d:=d) hD (fit_lvs (sl_sep hu)) (by rw[len_lvs];exact Nat.lt_trans hsl (by decide)) (sl_sep hu) len_cls (by unfold cod;rw[List.length_map]) (okCl_cls (sl_mem fun x hx=>Nat.le_of_lt_succ (hk x hx)))
  obtain⟨vs,rfl⟩:=hD.cls
  refine b2_ok (e25 _) ?_
  refine for_w (pgOf ks w dp) (fun zz w'=>[.lst ((cod ks).map encN),.inst 5 vs,.str w,.int dp,.ref 0,slot w' 0]) (fun pre zz=>[.list ((paraAll w dp ks pre).map encB)]) ?_ ?_ (w:=[x]) (J:=[])
  rotate_left
  · exact fun w' J=>hK _
  intro pre uv post w' _ N hp n1 _
  have hu:=cuts_ok uv (hp▸List.mem_append_right _ (.head _))
  have nx:=n1 [pgOf ks w dp uv] []
  have hlen:(paraAll w dp ks pre).length+(para w dp (sl ks uv)).length<lim:=by
    rw[len_para]
    have h1:pre.length≤200:=Nat.le_of_lt_succ (Nat.lt_of_lt_of_le (pre_lt hp) (Nat.le_trans cuts_few (Nat.succ_le_succ (Nat.le_of_lt hl))))
    have h2:=Nat.le_trans (paraAll_len (w:=w) (dp:=dp) (ks:=ks) (cs:=pre)) (Nat.mul_le_mul h1 (Nat.le_of_lt hl))
    exact Nat.lt_of_le_of_lt (Nat.add_le_add h2 (Nat.le_trans (sl_len (uv:=uv)) (Nat.le_of_lt hl))) (by decide)
  rw[paraAll_snoc,List.map_append]at nx
  refine b2_ok (e49 uv hu _) (gl_ok ?_ nx)
  rw[List.length_map,List.length_map];exact hlen
theorem c50{args:List V}{H1:Hp}(hD:isData D)(hl:ks.length<200)(hk:∀ x∈ks,x<23)(ha:eachS (frz 8) args H=some ([.lst ((cod ks).map encN),D,.str w,.int dp],H1)):callF TB (d+9) 50 args H=some (.lst ((paraAll w dp ks (cuts ks)).map encB),H1):=
  bp_ok ha (c50k (d:=d) hD hl hk fun w'=>b2_ok (frz_i (n:=6) (l:=paraAll w dp ks (cuts ks)) (fun x zz=>by cases x<;>rfl) rfl) rfl)
theorem c50b{args:List V}{H1:Hp}(hD:isData D)(hl:ks.length<200)(hk:∀ x∈ks,x<23)(ha:eachS (frz 8) args H=some ([.lst ((cod ks).map encN),D,.str w],H1)):callF TB (d+9) 50 args H=some (.lst ((paraAll w 125 ks (cuts ks)).map encB),H1):=
  bp_ok ha (c50k (d:=d) (dp:=125) hD hl hk fun w'=>b2_ok (frz_i (n:=6) (l:=paraAll w 125 ks (cuts ks)) (fun x zz=>by cases x<;>rfl) rfl) rfl)
end
end Mine
end
section
namespace Mine
section
variable{d:Nat}
noncomputable def deckO (cs:List Int) (t:Nat):O:=.list [.lst (cs.map V.int),.int t]
theorem fmod_lt{a:Int}{b:Nat}(hb:0<b):∃ v:Nat,a.fmod b=v∧v<b:=by
  have h1:0≤a.fmod b:=Int.fmod_nonneg_of_pos a (Int.ofNat_lt.mpr hb)
  have h2:a.fmod b<b:=Int.fmod_lt_of_pos a (Int.ofNat_lt.mpr hb)
  obtain⟨v,hv⟩:=Int.eq_ofNat_of_zero_le h1
  exact⟨v,hv,Int.ofNat_lt.mp (hv▸h2)⟩
theorem small_i{n:Nat}(h:n<4000000000000000000):small (n:Int)=true:=decide_eq_true (Nat.lt_trans h (by decide))
theorem small_m{i:Int}{n:Nat}(h:i=n)(hn:n<4000000000000000000):small i=true:=h▸small_i hn
theorem draw_end{C:Orc}{t b:Nat}{c:Int}{x:V}{H:Hp}{K:KF}(ht:t<900)(hb:0<b):∃ y z:Int,exL TB C (fn64.body.drop 4) [.ref 0,.int b,.int ((t:Int)+1),x,.int c,.undef] H K=K (.ret (.int (y.fmod b))) [.ref 0,.int b,.int ((t:Int)+1),x,.int c,.int z] H:=by
  obtain⟨v1,h1,l1⟩:=fmod_lt (a:=c) (b:=2147483629) (by decide)
  obtain⟨v2,h2,l2⟩:=fmod_lt (a:=(c.fmod 2147483629+60013*((t:Int)+1)*((t:Int)+1)+17)*48271) (b:=2147483647) (by decide)
  replace h2:((c.fmod 2147483629+60013*((t:Int)+1)*((t:Int)+1)+17)*48271).fmod 2147483647=v2:=h2
  have hq:(t+1)*(t+1)≤900*900:=Nat.mul_le_mul ht ht
  have s2:small ((t:Int)+1)=true:=small_i (n:=t+1) (Nat.lt_trans (Nat.succ_lt_succ ht) (by decide))
  have s3:small (60013*((t:Int)+1))=true:=small_m (n:=60013*(t+1)) (by rw[Int.natCast_mul];rfl) (Nat.lt_of_le_of_lt (Nat.mul_le_mul_left 60013 (Nat.le_of_lt (Nat.succ_lt_succ ht))) (by decide))
  have s5:small (c.fmod 2147483629+60013*((t:Int)+1)*((t:Int)+1)+17)=true:=small_m (n:=v1+60013*((t+1)*(t+1))+17) (by rw[show c.fmod 2147483629=v1 from h1,Int.natCast_add,Int.natCast_add,Int.natCast_mul,Int.natCast_mul,Int.mul_assoc];rfl)
    (Nat.lt_of_lt_of_le (Nat.add_lt_add_right (Nat.add_lt_add_of_lt_of_le l1 (Nat.mul_le_mul_left 60013 hq)) 17) (by decide))
  have s6:=small_m h2 (Nat.lt_trans l2 (by decide))
  generalize hm:((c.fmod 2147483629+60013*((t:Int)+1)*((t:Int)+1)+17)*48271).fmod 2147483647=m at s6
  refine⟨((m*m+((t:Int)+1)).fmod 2147483579).fdiv 64,(m*m+((t:Int)+1)).fmod 2147483579,?_⟩
  subst hm
  refine gd_ok s2 ?_
  clear h2
  generalize (60013:Int)*((t:Int)+1)=X at *
  refine gd_ok s3 (gd_ok s2 (gd_ok s5 (gd_ok (by decide) (gd_ok s6 (gd_ok s6 ?_)))))
  exact gd_ok (decide_eq_true (Int.ofNat_lt.mpr hb)) rfl
theorem c64{cs:List Int}{t b:Nat}{G:Hp}(hc:cs.length≤20)(ht:t<900)(hb:0<b):∃ v:Nat,v<b∧callF TB (d+1) 64 [.ref 0,.int b] (deckO cs t::G)=some (.int v,deckO cs (t+1)::G):=by
  suffices ∃ y:Int,callF TB (d+1) 64 [.ref 0,.int b] (deckO cs t::G)=some (.int (y.fmod b),deckO cs (t+1)::G)by
    obtain⟨y,hy⟩:=this
    obtain⟨v,hv,hl⟩:=fmod_lt (a:=y) hb
    exact⟨v,hl,hv▸hy⟩
  by_cases h:t+1≤cs.length
  · obtain⟨c,hcc⟩:=at_some (l:=cs) h
    refine⟨c,cs_t (decide_eq_true (show(t:Int)+1≤((cs.map V.int).length:Nat)by rw[List.length_map];exact Int.ofNat_le.mpr h)) (bd_ok (at_m hcc (Int.add_sub_cancel _ 1)) (gd_ok (decide_eq_true (Int.ofNat_lt.mpr hb)) rfl))⟩
  · have h:decide ((t:Int)+1≤((cs.map V.int).length:Nat))=false:=decide_eq_false (by rw[List.length_map];exact fun q=>h (Int.ofNat_le.mp q))
    have fin:∀ c:Int,∃ y:Int,exL TB (callF TB d) (fn64.body.drop 4) [.ref 0,.int b,.int ((t:Int)+1),.lst (cs.map V.int),.int c,.undef] (deckO cs (t+1)::G) (fun fl zz H=>outK fl H fun v H=>some (v,H))=some (.int (y.fmod b),deckO cs (t+1)::G):=fun c=>by
      obtain⟨y,z,e⟩:=draw_end (C:=callF TB d) (c:=c) (x:=.lst (cs.map V.int)) (H:=deckO cs (t+1)::G) (K:=fun fl zz H=>outK fl H fun v H=>some (v,H)) ht hb
      exact⟨y,e⟩
    cases cs with
    | nil=>obtain⟨y,e⟩:=fin 7;exact⟨y,e⟩
    | cons c cs=>
      obtain⟨v,hv,hl⟩:=fmod_lt (a:=(t:Int)+1) (b:=(c::cs).length) (Nat.succ_pos _)
      obtain⟨x,hx⟩:=at_some hl
      obtain⟨y,e⟩:=fin x
      refine⟨y,cs_f h (gd_ok ?_ (bd_ok (at_m hx ?_) e))⟩
      · exact decide_eq_true (Int.ofNat_lt.mpr (Nat.succ_pos _))
      · rw[←hv,List.length_map]
end
end Mine
end
section
namespace Mine
theorem p59{C:Orc}{ks vs:List V}{X:O}{K:KF}{r:Rs}(h:∀ H,C 58 [] H=some (.dct ks vs,H))(k:K .next [.ref 1] [X,.inst 5 [.dct ks vs,.ref 2,.ref 3,.ref 4],.dict [] [],.dict [] [],.dict [] []]=r) :
    exL TB C fn59.body [.ref 1] [X,.inst 5 []] K=r:=b2_ok (h _) k
theorem call_at{T:Tab}{d f:Nat}{fn:Fn}{args:List V}{H:Hp}(h:T.fns f=some fn):callF T (d+1) f args H=rnFn T (callF T d) fn args H:=by
  show bx (T.fns f) _=_
  rw[h];rfl
theorem c59{d:Nat}{X:O}:callF TB (d+2) 59 [.ref 1] [X,.inst 5 []]=some (.none,H0 X):=by
  refine(call_at (fn:=fn59) rfl).trans ?_
  have h:∀ H,callF TB (d+1) 58 [] H=some (.dct DKV.1 DKV.2,H):=fun H=>c58
  generalize callF TB (d+1)=C at h
  exact p59 h rfl
theorem c63{d:Nat}{H:Hp}:callF TB (d+1) 63 [] H=some (.lst (kindsN.map V.str),H):=rfl
section
variable{A B:V}{J:Hp}{r:Rs}
theorem draw{d:Nat}{cs:List Int}{t b:Nat}(hc:cs.length≤20)(ht:t<900)(hb:0<b):∃ v:Nat,v<b∧callF TB (d+1) 64 [.ref 0,.int b] (mapH (deckO cs t) A B J)=some (.int v,mapH (deckO cs (t+1)) A B J):=c64 hc ht hb
noncomputable def rowOf (g:Nat→Nat):Nat→Nat→List Nat
  | _,0=>[]
  | t,n+1=>g t::rowOf g (t+1) n
theorem rowOf_len{g:Nat→Nat}{t n:Nat}:(rowOf g t n).length=n:=by
  induction n generalizing t with
  | zero=>rfl
  | succ n ih=>exact congrArg (·+1) ih
theorem rowOf_mem{g:Nat→Nat}{t n b:Nat}(h:∀ t,t<900→g t<b)(ht:t+n≤900):∀ x∈rowOf g t n,x<b:=by
  induction n generalizing t with
  | zero=>exact nofun
  | succ n ih=>exact fun x hx=>(List.mem_cons.mp hx).elim (fun e=>e▸h t (Nat.lt_of_lt_of_le (Nat.lt_add_of_pos_right (Nat.succ_pos n)) ht)) (ih (by rw[Nat.add_right_comm];exact ht) x)
theorem draw_row{cs:List Int}{g:Nat→Nat}{f:V→Hp→(Option V→Hp→Rs)→Rs}(hf:∀ (a:Int) t K,t<900→f (.int a) (mapH (deckO cs t) A B J) K=K (some (.str (g t))) (mapH (deckO cs (t+1)) A B J)){n:Nat}{a:Int}{t:Nat}{K:KL}(ht:t+n≤900)
    (hK:K ((rowOf g t n).map V.str) (mapH (deckO cs (t+n)) A B J)=r):compK1 f (rangeL n a) (mapH (deckO cs t) A B J) K=r:=by
  induction n generalizing a t K with
  | zero=>exact hK
  | succ n ih=>
    refine(hf a t _ (Nat.lt_of_lt_of_le (Nat.lt_add_of_pos_right (Nat.succ_pos n)) ht)).trans (ih (by rw[Nat.add_right_comm];exact ht) ?_)
    rw[Nat.add_right_comm];exact hK
theorem index_k:∀ k,k<23→index (.str k) 0 (kindsN.map V.str)=some (k:Int):=by decide +kernel
theorem kinds_key:(kindsN.map V.str).all keyOk=true:=all_m V.str fun zz=>rfl
theorem text_of{f:V→Hp→(Option V→Hp→Rs)→Rs}{ks:List Nat}{H:Hp}{K:KL}(hk:∀ x∈ks,x<23)(hf:∀ x K,f (.str x) H K=gd (keyOk (.str x)&&(kindsN.map V.str).all keyOk) (bd (index (.str x) 0 (kindsN.map V.str)) fun i=>K (some (.int (65+i))) H))(hK:K ((cod ks).map encN) H=r):compK1 f (ks.map V.str) H K=r:=by
  have e:(cod ks).map encN=ks.map fun x=>encN (65+x):=by unfold cod;rw[List.map_map];rfl
  rw[e]at hK
  refine comp_m V.str (fun x=>encN (65+x)) (fun x hx K=>?_) hK
  rw[hf,kinds_key]
  exact gd_ok rfl (bd_ok (index_k x (hk x hx)) rfl)
theorem via73{d:Nat}{args us:List V}{H H1:Hp}(ha:eachS (frz 8) args H=some (us,H1))(hu:eachS (frz 8) us H1=some (us,H1))(h:callF TB (d+1) 73 us H1=r):callF TB (d+1) 73 args H=r:=by
  have e:∀ a G,callF TB (d+1) 73 a G=bp (eachS (frz 8) a G) fun us H1=>rnIn TB (callF TB d) fn73 us [] fun v H2=>frzK v H2 fun u zz=>some (u,H1):=fun zz zz=>rfl
  rw[e,hu]at h;rw[e,ha];exact h
variable{X:O}
theorem mapH_end{o:O}:cell (mapH X A B (J++[o])) (J.length+6)=some o:=cell_app (A:=J) (B:=[])
theorem mapH_put{o o':O}:setC (mapH X A B (J++[o])) (J.length+6) o'=mapH X A B (J++[o']):=by
  show mapH X A B (setC (J++[o]) J.length o')=_
  rw[setC_app]
theorem call73{cur:List Nat}{w dp:Nat}(hl:cur.length<800)(hs:sepLast cur)(hk:∀ x∈cur,x≤22)(hw:w∈words):callF TB 19 73 [.ref (J.length+6),.str w,.int dp] (mapH X A B (J++[.list (cur.map V.str)]))=some (.lst ((para w dp cur).map encB),mapH X A B (J++[.frz (.lst (cur.map V.str))])):=by
  refine via73 (us:=[.lst (cur.map V.str),.str w,.int dp]) ?_ rfl (c73 (d:=15) hl hs hk hw)
  have h:=frz_i (e:=V.str) (n:=6) (l:=cur) (fun zz zz=>rfl) (mapH_end (X:=X) (A:=A) (B:=B) (J:=J) (o:=.list (cur.map V.str)))
  rw[mapH_put]at h
  exact b2_ok h (b2_ok (b2_ok rfl (b2_ok (b2_ok rfl rfl) rfl)) rfl)
noncomputable def wdAt (J0:Hp) (w dp:Nat) (ks:List Nat) (m:Nat):V:=match (cutAt ks m).1 with
  | []=>.ref (J0.length+6)
  | _::_=>.lst ((paraAll w dp ks (cutAt ks m).1).map encB)
noncomputable def pJ (J0:Hp) (ks:List Nat):Nat→Hp
  | 0=>J0++[.list []]
  | m+1=>if kd ks m=13 then pJ J0 ks m++[.frz (.lst ((sl ks ((cutAt ks m).2,m+1)).map V.str))]else pJ J0 ks m
theorem pJ_pre{J0:Hp}{ks:List Nat}{m:Nat}:∃ T,pJ J0 ks m=J0++.list []::T:=by
  induction m with
  | zero=>exact⟨[],rfl⟩
  | succ m ih=>
    obtain⟨T,h⟩:=ih
    unfold pJ
    refine ite_P (P:=fun p=>∃ T,p=J0++O.list []::T) (fun zz=>?_) fun zz=>⟨T,h⟩
    rw[h,List.append_assoc];exact⟨_,rfl⟩
end
end Mine
end
section
namespace Mine
section
variable{A B:V}{J0:Hp}{r:Rs}{X:O}{ks:List Nat}{w dp m:Nat}
theorem wd_slot:slotV (wdAt J0 w dp ks m)=some (wdAt J0 w dp ks m):=by
  unfold wdAt;cases(cutAt ks m).1<;>rfl
theorem due_add{R R':Hp}{P:List (Option Nat)}{K:V→Rs}(hl:(paraAll w dp ks (cutAt ks m).1).length+P.length<lim)(g:K (.lst ((paraAll w dp ks (cutAt ks m).1++P).map encB))=r) :
    binK (mapH X A B (pJ J0 ks m++R')) .add (view (mapH X A B (pJ J0 ks m++R)) (wdAt J0 w dp ks m)) (.lst (P.map encB)) K=r:=by
  obtain⟨T,hT⟩:=pJ_pre (J0:=J0) (ks:=ks) (m:=m)
  have hc:∀ R,cell (mapH X A B (pJ J0 ks m++R)) (J0.length+6)=some (.list []):=fun R=>by
    rw[hT,List.append_assoc];exact cell_app
  rw[List.map_append]at g
  have hl:((paraAll w dp ks (cutAt ks m).1).map encB).length+(P.map encB).length<lim:=by rw[List.length_map,List.length_map];exact hl
  unfold wdAt
  generalize (cutAt ks m).1=c at *
  cases c with
  | nil=>
    show binK _ .add (view _ (.ref (J0.length+6))) _ _=r
    rw[view_c (hc R)]
    show bx (lstC (con _ (.ref (J0.length+6)))) _=r
    rw[con_c (hc R')]
    exact gl_ok hl g
  | cons a c=>exact gl_ok hl g
theorem sl_snoc{u x:Nat}(h:ks[m]?=some x)(hu:u≤m):sl ks (u,m+1)=sl ks (u,m)++[x]:=by
  have hm:=(List.getElem?_eq_some_iff.mp h).1
  unfold sl
  show(ks.take (m+1)).drop u=(ks.take m).drop u++[x]
  rw[List.take_add_one,h,List.drop_append_of_le_length (by rw[List.length_take,Nat.min_eq_left (Nat.le_of_lt hm)];exact hu)];rfl
noncomputable def loLc (ks:List Nat) (w dp:Nat) (l0 kv a4 a5 tv wd p:V):List V:=[l0,.ref 0,kv,.ref 1,a4,a5,.str w,.int dp,.lst (ks.map V.str),tv,wd,p,.undef]
noncomputable def curA (ks:List Nat) (m:Nat):List Nat:=sl ks ((cutAt ks m).2,m)
section
variable{C:Orc}{s:List St}{K:KF}{J:Hp}{F:List V}{l0 kv a4 tv wd P Q:V}{x:Nat}
theorem p74a(hF:F.length<lim)(k:exL TB C s (loLc ks w dp l0 kv a4 (.str x) tv wd (.ref (J.length+6))) (mapH X A B (J++[.list (F++[.str x])])) K=r) :
    exL TB C ((fb fn74 6).take 1++s) (loLc ks w dp l0 kv a4 (.str x) tv wd (.ref (J.length+6))) (mapH X A B (J++[.list F])) K=r:=by
  rw[←mapH_put (o:=.list F)]at k
  exact meth_v mapH_end (fun zz=>rfl) (own_v mapH_end (gl_ok hF k))
theorem p74b{o o':O}(hs:slotV wd=some wd)(h73:C 73 [view (mapH X A B (J++[o])) (.ref (J.length+6)),.str w,.int dp] (mapH X A B (J++[o]))=some (P,mapH X A B (J++[o'])))
    (hadd:∀ (K:V→Rs) r,K Q=r→binK (mapH X A B (J++[o'])) .add (view (mapH X A B (J++[o])) wd) P K=r)
    (k:K .next (loLc ks w dp l0 kv a4 (.str x) tv Q (.ref ((J++[o']).length+6))) (mapH X A B (J++[o']++[.list []]))=r) :
    exL TB C (tb ((fb fn74 6).drop 1)) (loLc ks w dp l0 kv a4 (.str x) tv wd (.ref (J.length+6))) (mapH X A B (J++[o])) K=r:=bx_ok hs (b2_ok h73 (hadd _ _ k))
end
theorem lawLoop{s:List St}{K:KF}{l0 kv a4 a5 tv:V}(hl:ks.length<200)(hk:∀ x∈ks,x<23)(hw:w∈words)
    (k:∀ a5,exL TB (callF TB 19) s (loLc ks w dp l0 kv a4 a5 tv (wdAt J0 w dp ks ks.length) (.ref ((pJ J0 ks ks.length).length+6))) (mapH X A B (pJ J0 ks ks.length++[.list ((curA ks ks.length).map V.str)])) K=r) :
    exL TB (callF TB 19) ((fn74.body.drop 6).take 1++s) (loLc ks w dp l0 kv a4 a5 tv (.ref (J0.length+6)) (.ref ((J0++[O.list []]).length+6))) (mapH X A B (J0++[.list []]++[.list []])) K=r:=by
  refine for_w V.str (l:=ks) (fun pre w'=>loLc ks w dp l0 kv a4 (slot w' 0) tv (wdAt J0 w dp ks pre.length) (.ref ((pJ J0 ks pre.length).length+6))) (fun pre zz=>mapH X A B (pJ J0 ks pre.length++[.list ((curA ks pre.length).map V.str)])) ?_ ?_ (w:=[a5]) (J:=[])
  rotate_left
  · exact fun w' zz=>k _
  clear k
  intro pre x post w' _ N hp n1 _
  have hat:=pre_at hp
  have hm:=pre_lt hp
  have hkd:=kd_at hat
  obtain⟨h1,h2,h3,h4⟩:=cut_inv (ks:=ks) (m:=pre.length)
  have nx:=n1 [.str x] []
  rw[List.length_append]at nx
  clear n1 hp
  generalize hmm:pre.length=m at *
  have nx:N .next (loLc ks w dp l0 kv a4 (.str x) tv (wdAt J0 w dp ks (m+1)) (.ref ((pJ J0 ks (m+1)).length+6))) (mapH X A B (pJ J0 ks (m+1)++[.list ((curA ks (m+1)).map V.str)]))=r:=nx
  have hcur:(curA ks m).map V.str++[.str x]=(sl ks ((cutAt ks m).2,m+1)).map V.str:=by
    rw[sl_snoc hat h1,app_m];rfl
  have hcl:(curA ks m).length<lim:=Nat.lt_of_le_of_lt sl_len (Nat.lt_trans hl (by decide))
  refine bx_ok (a:=loLc ks w dp l0 kv a4 (.str x) tv (wdAt J0 w dp ks m) (.ref ((pJ J0 ks m).length+6))) rfl ?_
  refine p74a (s:=(fb fn74 6).drop 1) (lm hcl) ?_
  rw[hcur]
  refine cs_d (fun h13=>?_) fun h13=>?_
  · subst h13
    have hu:noSep ks ks.length ((cutAt ks m).2,m+1):=⟨Nat.le_succ_of_le h1,hm,fun i g1 g2=>h2 i g1 (Nat.lt_of_succ_lt_succ g2)⟩
    have hc73:callF TB 19 73 [view (mapH X A B (pJ J0 ks m++[.list ((sl ks ((cutAt ks m).2,m+1)).map V.str)])) (.ref ((pJ J0 ks m).length+6)),.str w,.int dp] (mapH X A B (pJ J0 ks m++[.list ((sl ks ((cutAt ks m).2,m+1)).map V.str)]))=some (.lst ((para w dp (sl ks ((cutAt ks m).2,m+1))).map encB),mapH X A B (pJ J0 ks m++[.frz (.lst ((sl ks ((cutAt ks m).2,m+1)).map V.str))])):=by
      rw[view_c mapH_end]
      exact call73 (Nat.lt_of_le_of_lt sl_len (Nat.lt_trans hl (by decide))) (sl_sep hu) (sl_mem fun y hy=>Nat.le_of_lt_succ (hk y hy)) hw
    have hlen:(paraAll w dp ks (cutAt ks m).1).length+(para w dp (sl ks ((cutAt ks m).2,m+1))).length<lim:=by
      rw[len_para]
      exact Nat.lt_of_le_of_lt (Nat.add_le_add (Nat.le_trans paraAll_len (Nat.mul_le_mul (Nat.le_of_lt (Nat.lt_of_le_of_lt h4 (Nat.lt_trans hm hl))) (Nat.le_of_lt hl))) (Nat.le_trans sl_len (Nat.le_of_lt hl))) (by decide)
    have e1:cutAt ks (m+1)=((cutAt ks m).1++[((cutAt ks m).2,m+1)],m+1):=by rw[cutAt,if_pos hkd]
    have e2:pJ J0 ks (m+1)=pJ J0 ks m++[.frz (.lst ((sl ks ((cutAt ks m).2,m+1)).map V.str))]:=if_pos hkd
    have e3:wdAt J0 w dp ks (m+1)=.lst ((paraAll w dp ks (cutAt ks m).1++para w dp (sl ks ((cutAt ks m).2,m+1))).map encB):=by
      unfold wdAt
      rw[e1,←paraAll_snoc]
      cases(cutAt ks m).1<;>rfl
    have e4:curA ks (m+1)=[]:=by unfold curA;rw[e1];unfold sl;exact List.drop_eq_nil_of_le (List.length_take_le _ _)
    rw[e2,e3,e4]at nx
    exact p74b wd_slot hc73 (fun zz zz g=>due_add hlen g) nx
  · have e1:cutAt ks (m+1)=cutAt ks m:=by rw[cutAt,if_neg (hkd.symm▸h13)]
    have e2:pJ J0 ks (m+1)=pJ J0 ks m:=if_neg (hkd.symm▸h13)
    have e3:wdAt J0 w dp ks (m+1)=wdAt J0 w dp ks m:=by unfold wdAt;rw[e1]
    have e4:curA ks (m+1)=sl ks ((cutAt ks m).2,m+1):=by unfold curA;rw[e1]
    rw[e2,e3,e4]at nx
    exact nx
end
end Mine
end
section
namespace Mine
theorem eqvs_me{α:Type}{e:α→V}(h:∀ a,eqv 3 (e a) (e a)=some true){L:List α}:eqvs (eqv 3) (L.map e) (L.map e)=some true:=by
  induction L with
  | nil=>rfl
  | cons a L ih=>exact bd_ok (h a) (bd_ok ih rfl)
theorem eqV_encB{L:List (Option Nat)}:eqV (.lst (L.map encB)) (.lst (L.map encB))=some true:=eqvs_me fun a=>by
  cases a with
  | none=>rfl
  | some n=>exact congrArg some (beq_self_eq_true (n:Int))
theorem eqV_encN{L:List Nat}:eqV (.lst (L.map encN)) (.lst (L.map encN))=some true:=eqvs_me (e:=encN) fun a=>congrArg some (beq_self_eq_true (a:Int))
theorem cut_none{ks:List Nat}(h:∀ x∈ks,x≠13){m:Nat}(hm:m≤ks.length):cutAt ks m=([],0):=by
  induction m with
  | zero=>rfl
  | succ m ih=>rw[cutAt,if_neg (h _ (List.mem_of_getElem? (kd_get hm))),ih (Nat.le_of_succ_le hm)]
theorem para_one{ks:List Nat}{w dp:Nat}(h:∀ x∈ks,x≠13)(hne:0<ks.length):paraAll w dp ks (cuts ks)=para w dp ks:=by
  unfold cuts
  rw[cut_none h (Nat.le_refl _),if_pos hne]
  show para w dp ((ks.take ks.length).drop 0)++[]=_
  rw[List.take_length,List.append_nil];rfl
theorem para_all{ks:List Nat}{w dp:Nat}:paraAll w dp ks (cuts ks)=paraAll w dp ks (cutAt ks ks.length).1++para w dp (curA ks ks.length):=by
  have hc:cuts ks=(cutAt ks ks.length).1++if(cutAt ks ks.length).2<ks.length then[((cutAt ks ks.length).2,ks.length)]else[]:=rfl
  by_cases h:(cutAt ks ks.length).2<ks.length
  · rw[hc,if_pos h,paraAll_snoc];rfl
  · rw[hc,if_neg h,List.append_nil]
    have:para w dp (curA ks ks.length)=[]:=List.eq_nil_of_length_eq_zero (by
      rw[len_para];unfold curA sl
      rw[List.length_drop,List.take_length]
      exact Nat.sub_eq_zero_of_le (Nat.not_lt.mp h))
    rw[this,List.append_nil]
section
variable{C:Orc}{s:List St}{K:KF}{r:Rs}{A B l0 a4 a5 kv:V}{cs:List Int}{X:O}{J:Hp}{ks:List Nat}{w dp:Nat}
theorem z0{l:List Int}(hl:l.length<lim)(hcs:((l.map V.int).take (min 20 (l.map V.int).length)).drop 0=cs.map V.int)(hc:cs.length≤20)(h63:∀ H,C 63 [] H=some (kv,H))(h59:C 59 [.ref 1] [deckO cs 0,.inst 5 []]=some (.none,H0 (deckO cs 0)))
    (k:exL TB C s [.lst (l.map V.int),.ref 0,kv,.ref 1,.undef,.undef,.undef,.undef,.undef,.undef,.undef,.undef,.undef] (H0 (deckO cs 0)) K=r) :
    exL TB C (fn74.body.take 1++s) [.lst (l.map V.int),.undef,.undef,.undef,.undef,.undef,.undef,.undef,.undef,.undef,.undef,.undef,.undef] [] K=r:=by
  have g1:(((l.map V.int).take (min 20 (l.map V.int).length)).drop 0).length<lim:=by rw[hcs];exact lm (Nat.lt_of_le_of_lt hc (by decide))
  have g2:(((l.map V.int).take (min 20 (l.map V.int).length)).drop 0).all flatV=true:=by rw[hcs];exact all_m V.int fun zz=>rfl
  have g3:C 59 [.ref 1] [.list [.lst (((l.map V.int).take (min 20 (l.map V.int).length)).drop 0),.int 0],.inst 5 []]=some (.none,H0 (deckO cs 0)):=by rw[hcs];exact h59
  refine gl_ok (lm hl) (gl_ok g1 (gd_ok g2 ?_))
  exact b2_ok (h63 _) (b2_ok g3 k)
theorem dH_cons{k:Nat}:∃ D G,dH X k=X::.inst 5 D::G:=by cases k<;>exact⟨_,_,rfl⟩
theorem z1{kn:List Nat}{a6 a7 a8 a9 a10 a11 a12:V}(hkn:∀ m x,kn[m]?=some x→x=m∧m<23)(h23:kn.length=23)(h60:∀ k:Nat,k<23→C 60 [.ref 1,.str 27,.int (65+k:Nat),.int (65+k:Nat),.str k] (dH X k)=some (.none,dH X (k+1)))
    (k:∀ a4 a5,exL TB C s [l0,.ref 0,.lst (kn.map V.str),.ref 1,a4,a5,a6,a7,a8,a9,a10,a11,a12] (dH X 23) K=r) :
    exL TB C ((fn74.body.drop 1).take 1++s) [l0,.ref 0,.lst (kn.map V.str),.ref 1,a4,a5,a6,a7,a8,a9,a10,a11,a12] (dH X 0) K=r:=by
  refine for_ke V.str (l:=kn) (fun zz w=>[l0,.ref 0,.lst (kn.map V.str),.ref 1,slot w 0,slot w 1,a6,a7,a8,a9,a10,a11,a12]) (fun m zz=>dH X m) ?_ ?_ (w:=[a4,a5])
  · intro m x w N hm hat Y
    obtain⟨rfl,hm⟩:=hkn m x hat
    have nx:=Y.next [.int x,.str x]
    have e:=h60 x hm
    generalize dH X (x+1)=H2 at *
    obtain⟨D,G,hd⟩:=dH_cons (X:=X) (k:=x)
    rw[hd]at e ⊢
    exact b2_ok e nx
  · intro w
    have:=k (slot w 0) (slot w 1)
    rw[h23]
    exact this
theorem z2{v w t:Nat}{G H':Hp}{a6 a7 a8 a9 a10 a11 a12 kv:V}(h64:C 64 [.ref 0,.int 4] (deckO cs t::G)=some (.int v,H'))(hv:([23,75,74,78]:List Nat)[v]?=some w)
    (k:exL TB C s [l0,.ref 0,kv,.ref 1,a4,a5,.str w,a7,a8,a9,a10,a11,a12] H' K=r) :
    exL TB C ((fn74.body.drop 2).take 1++s) [l0,.ref 0,kv,.ref 1,a4,a5,a6,a7,a8,a9,a10,a11,a12] (deckO cs t::G) K=r:=by
  refine b2_ok h64 ?_
  refine bd_ok (at_m (e:=V.str) hv rfl) ?_
  exact k
theorem z3{v dp t:Nat}{G H':Hp}{a6 a7 a8 a9 a10 a11 a12 kv:V}(h64:C 64 [.ref 0,.int 4] (deckO cs t::G)=some (.int v,H'))(hv:([125,3,4,5]:List Nat)[v]?=some dp)
    (k:exL TB C s [l0,.ref 0,kv,.ref 1,a4,a5,a6,.int dp,a8,a9,a10,a11,a12] H' K=r) :
    exL TB C ((fn74.body.drop 3).take 1++s) [l0,.ref 0,kv,.ref 1,a4,a5,a6,a7,a8,a9,a10,a11,a12] (deckO cs t::G) K=r:=by
  refine b2_ok h64 ?_
  refine bd_ok (at_m (e:=encN) hv rfl) ?_
  exact k
theorem z4{n t:Nat}{a6 a7 a8 a9 a10 a11 a12:V}{kn:List Nat}{g:Nat→Nat}(hn:n<10)(ht:t<100)(h64:C 64 [.ref 0,.int 10] (mapH (deckO cs t) A B J)=some (.int n,mapH (deckO cs (t+1)) A B J))
    (hd:∀ t,t<900→g t<23∧C 64 [.ref 0,.int 23] (mapH (deckO cs t) A B J)=some (.int (g t),mapH (deckO cs (t+1)) A B J)) (hkn:∀ v,v<23→kn[v]?=some v)
    (k:exL TB C s [l0,.ref 0,.lst (kn.map V.str),.ref 1,a4,a5,a6,a7,.lst ((rowOf g (t+1) (1+n)).map V.str),a9,a10,a11,a12] (mapH (deckO cs (t+1+(1+n))) A B J) K=r) :
    exL TB C ((fn74.body.drop 4).take 1++s) [l0,.ref 0,.lst (kn.map V.str),.ref 1,a4,a5,a6,a7,a8,a9,a10,a11,a12] (mapH (deckO cs t) A B J) K=r:=by
  refine b2_ok h64 ?_
  have hb:(1:Int)+n=(1+n:Nat):=(Int.natCast_add 1 n).symm
  have s1:small ((1:Int)+n)=true:=by rw[hb];exact small_n (Nat.lt_trans (Nat.add_lt_add_left hn 1) (by decide))
  have e1:((1:Int)+n - 0).toNat=1+n:=by rw[Int.sub_zero,hb];rfl
  have hl:1+n<lim:=Nat.lt_trans (Nat.add_lt_add_left hn 1) (by decide)
  refine gd_ok s1 (gd_ok (by rw[e1];exact decide_eq_true hl) ?_)
  rw[←e1]at k
  refine draw_row (g:=g) (t:=t+1) (fun a t K ht=>?_) ?_ (held V.str (fun zz=>rfl) (by rw[rowOf_len,e1];exact hl) k)
  · obtain⟨hv,e⟩:=hd t ht
    exact b2_ok e (bd_ok (at_m (hkn _ hv) rfl) rfl)
  · rw[e1]
    exact Nat.le_of_lt (Nat.lt_trans (Nat.add_lt_add (Nat.succ_lt_succ ht) (Nat.add_lt_add_left hn 1)) (by decide))
theorem z5{a6 a7 a9 a10 a11 a12:V}{kn:List Nat}(hk:∀ x∈ks,x<23)(hl:ks.length<lim)(hkn:kn=kindsN)
    (k:exL TB C s [l0,.ref 0,.lst (kn.map V.str),.ref 1,a4,a5,a6,a7,.lst (ks.map V.str),.lst ((cod ks).map encN),.ref (J.length+6),.ref ((J++[O.list []]).length+6),a12] (mapH X A B (J++[.list []]++[.list []])) K=r) :
    exL TB C ((fn74.body.drop 5).take 1++s) [l0,.ref 0,.lst (kn.map V.str),.ref 1,a4,a5,a6,a7,.lst (ks.map V.str),a9,a10,a11,a12] (mapH X A B J) K=r:=by
  refine comp_u V.str (fun x=>encN (65+x)) (us:=(cod ks).map encN) (by unfold cod;rw[List.map_map];rfl) (fun x hx K=>gd_ok ?_ (bd_ok (a:=(x:Int)) ?_ rfl)) ?_
  · rw[hkn];exact Bool.and_eq_true_iff.mpr ⟨rfl,kinds_key⟩
  · rw[hkn];exact index_k x (hk x hx)
  · exact held encN (fun zz=>rfl) (by unfold cod;rw[List.length_map];exact hl) k
theorem z7{wd rv tv P Q kv:V}{o o':O}(hs:slotV wd=some wd)(h73:C 73 [view (mapH X A B (J++[o])) (.ref (J.length+6)),.str w,.int dp] (mapH X A B (J++[o]))=some (P,mapH X A B (J++[o'])))
    (hadd:∀ (K:V→Rs) r,K Q=r→binK (mapH X A B (J++[o'])) .add (view (mapH X A B (J++[o])) wd) P K=r)
    (k:exL TB C s [l0,.ref 0,kv,.ref 1,a4,a5,.str w,.int dp,rv,tv,Q,.ref (J.length+6),.undef] (mapH X A B (J++[o'])) K=r) :
    exL TB C ((fn74.body.drop 7).take 1++s) [l0,.ref 0,kv,.ref 1,a4,a5,.str w,.int dp,rv,tv,wd,.ref (J.length+6),.undef] (mapH X A B (J++[o])) K=r:=bx_ok hs (b2_ok h73 (hadd _ _ k))
theorem z8{a6 a7 a8 wd p kv:V}{tx:List V}(hl:tx.length<lim)
    (k:exL TB C s [l0,.ref 0,kv,.ref 1,a4,a5,a6,a7,a8,.lst tx,wd,p,.ref (J.length+6)] (mapH X A B (J++[.list tx])) K=r) :
    exL TB C ((fn74.body.drop 8).take 1++s) [l0,.ref 0,kv,.ref 1,a4,a5,a6,a7,a8,.lst tx,wd,p,.undef] (mapH X A B J) K=r:=gl_ok hl k
theorem z9{a8 p kv:V}{tx:List Nat}{D:List (Option Nat)}(h50:C 50 [.lst (tx.map encN),.ref 1,.str w,.int dp] (mapH X A B (J++[.list (tx.map encN)]))=some (.lst (D.map encB),frH X (J++[.list (tx.map encN)])))
    (k:exL TB C s [l0,.ref 0,kv,.ref 1,a4,a5,.str w,.int dp,a8,.lst (tx.map encN),.lst (D.map encB),p,.ref (J.length+6)] (frH X (J++[.list (tx.map encN)])) K=r) :
    exL TB C ((fn74.body.drop 9).take 1++s) [l0,.ref 0,kv,.ref 1,a4,a5,.str w,.int dp,a8,.lst (tx.map encN),.lst (D.map encB),p,.ref (J.length+6)] (mapH X A B (J++[.list (tx.map encN)])) K=r:=by
  have hc:cell (frH X (J++[.list (tx.map encN)])) (J.length+6)=some (.list (tx.map encN)):=cell_app (A:=J) (B:=[])
  have he:eqV (.lst (tx.map encN)) (con (frH X (J++[.list (tx.map encN)])) (view (frH X (J++[.list (tx.map encN)])) (.ref (J.length+6))))=some true:=by rw[view_c hc,con_c hc];exact eqV_encN
  refine b2_ok h50 (bd_ok eqV_encB ?_)
  exact bd_ok he k
theorem z10a{v t:Nat}{G H':Hp}{a6 a7 a8 a9 a10 a11 a12 kv:V}(h64:C 64 [.ref 0,.int 6] (deckO cs t::G)=some (.int v,H'))(hv:v<5)
    (k:K (.ret (.bool true)) [l0,.ref 0,kv,.ref 1,a4,a5,a6,a7,a8,a9,a10,a11,a12] H'=r) :
    exL TB C ((fn74.body.drop 10).take 1++s) [l0,.ref 0,kv,.ref 1,a4,a5,a6,a7,a8,a9,a10,a11,a12] (deckO cs t::G) K=r:=by
  refine b2_ok h64 (cs_d (fun zz=>?_) fun q=>absurd (Int.ofNat_lt.mpr hv) q)
  exact k
theorem z10b{v t:Nat}{G H':Hp}{a6 a7 a8 a9 a10 a11 a12 kv:V}(h64:C 64 [.ref 0,.int 6] (deckO cs t::G)=some (.int v,H'))(hv:¬v<5)
    (k:exL TB C s [l0,.ref 0,kv,.ref 1,a4,a5,a6,a7,a8,a9,a10,a11,a12] H' K=r) :
    exL TB C ((fn74.body.drop 10).take 1++s) [l0,.ref 0,kv,.ref 1,a4,a5,a6,a7,a8,a9,a10,a11,a12] (deckO cs t::G) K=r:=by
  refine b2_ok h64 (cs_d (fun q=>absurd (Int.ofNat_lt.mp q) hv) fun zz=>?_)
  exact k
theorem flat_rep{n:Nat}:(List.replicate n [V.str 15]).flatten=(List.replicate n 15).map V.str:=by
  induction n with
  | zero=>rfl
  | succ n ih=>rw[List.replicate_succ,List.replicate_succ,List.flatten_cons,List.map_cons,ih];rfl
theorem z11{v t:Nat}{G H':Hp}{a6 a7 a8 a9 a10 a11 a12 kv:V}(hv:v<12)(h64:C 64 [.ref 0,.int 12] (deckO cs t::G)=some (.int v,H'))
    (k:exL TB C s [l0,.ref 0,kv,.ref 1,a4,a5,a6,a7,.lst ((List.replicate (58+v) 15++[0]).map V.str),a9,a10,a11,a12] H' K=r) :
    exL TB C ((fn74.body.drop 11).take 1++s) [l0,.ref 0,kv,.ref 1,a4,a5,a6,a7,a8,a9,a10,a11,a12] (deckO cs t::G) K=r:=by
  refine b2_ok h64 ?_
  have hb:(58:Int)+v=(58+v:Nat):=(Int.natCast_add 58 v).symm
  have h100:58+v<100:=Nat.lt_trans (Nat.add_lt_add_left hv 58) (by decide)
  have e:List.map V.str (List.replicate (58+v) 15++[0])=(List.replicate ((58:Int)+v).toNat [V.str 15]).flatten++[.str 0]:=by rw[hb,Int.toNat_natCast,flat_rep];exact List.map_append
  rw[e]at k
  refine gd_ok ?_ (gd_ok ?_ (gd_ok ?_ ?_))
  · rw[hb];exact small_n (Nat.lt_trans h100 (by decide))
  · rw[hb,Int.toNat_natCast];exact decide_eq_true (show(58+v)*1<100000 by rw[Nat.mul_one];exact Nat.lt_trans h100 (by decide))
  · rw[hb,Int.toNat_natCast,flat_rep,List.length_map,List.length_replicate]
    exact decide_eq_true (show 58+v+1<100000 from Nat.lt_trans (Nat.succ_lt_succ h100) (by decide))
  · exact k
theorem z12{a9 a10 a11 a12 a7:V}{D:List (Option Nat)}{kn:List Nat}(hk:∀ x∈ks,x<23)(hl:ks.length<lim)(hkn:kn=kindsN)(h50:C 50 [.lst ((cod ks).map encN),D0,.str w] (frH X J)=some (.lst (D.map encB),frH X J))(h73:C 73 [.lst (ks.map V.str),.str w,.int 125] (frH X J)=some (.lst (D.map encB),frH X J))
    (k:K (.ret (.bool true)) [l0,.ref 0,.lst (kn.map V.str),.ref 1,a4,a5,.str w,a7,.lst (ks.map V.str),a9,a10,a11,a12] (frH X J)=r) :
    exL TB C (fn74.body.drop 12) [l0,.ref 0,.lst (kn.map V.str),.ref 1,a4,a5,.str w,a7,.lst (ks.map V.str),a9,a10,a11,a12] (frH X J) K=r:=by
  refine comp_u V.str (fun x=>encN (65+x)) (us:=(cod ks).map encN) (by unfold cod;rw[List.map_map];rfl) (fun x hx K=>gd_ok ?_ (bd_ok (a:=(x:Int)) ?_ rfl)) ?_
  · rw[hkn];exact Bool.and_eq_true_iff.mpr ⟨rfl,kinds_key⟩
  · rw[hkn];exact index_k x (hk x hx)
  · refine held encN (fun zz=>rfl) (by unfold cod;rw[List.length_map];exact hl) (b2_ok h50 (b2_ok h73 ?_))
    exact bd_ok eqV_encB k
end
end Mine
end
section
namespace Mine
theorem kinds_at{v:Nat}(h:v<23):kindsN[v]?=some v:=by unfold kindsN;exact List.getElem?_range h
theorem kinds_is(m x:Nat)(h:kindsN[m]?=some x):x=m∧m<23:=by
  unfold kindsN at h
  have hm:m<23:=by have:=(List.getElem?_eq_some_iff.mp h).1;rw[List.length_range]at this;exact this
  rw[List.getElem?_range hm]at h
  exact⟨(Option.some.inj h).symm,hm⟩
theorem word_of{v:Nat}(h:v<4):∃ w,([23,75,74,78]:List Nat)[v]?=some w∧w∈words:=by
  match v,h with
  | 0,_=>exact⟨23,rfl,by decide⟩
  | 1,_=>exact⟨75,rfl,by decide⟩
  | 2,_=>exact⟨74,rfl,by decide⟩
  | 3,_=>exact⟨78,rfl,by decide⟩
theorem frz_args{X:O}{J:Hp}{tx:List V}{w:Nat}{dp:Int}:eachS (frz 8) [.lst tx,.ref 1,.str w,.int dp] (mapH X (.lst ((fS 23).map encN)) (.lst ((gS 23).map V.str)) J)=some ([.lst tx,D0,.str w,.int dp],frH X J):=
  b2_ok rfl (b2_ok (b2_ok data_frz (b2_ok (b2_ok rfl (b2_ok (b2_ok rfl (b2_ok rfl rfl)) rfl)) rfl)) rfl)
theorem law_main{l:List Int}{cs:List Int}{g:Nat→Nat}{v v2 n w dp:Nat}{r:Rs}{ks:List Nat}{t:Nat}(hl:l.length<lim)(hcs:((l.map V.int).take (min 20 (l.map V.int).length)).drop 0=cs.map V.int)(hc:cs.length≤20)(hn:n<10)
    (e1:callF TB 19 64 [.ref 0,.int 4] (mapH (deckO cs 0) (.lst ((fS 23).map encN)) (.lst ((gS 23).map V.str)) (dJ 22))=some (.int v,mapH (deckO cs 1) (.lst ((fS 23).map encN)) (.lst ((gS 23).map V.str)) (dJ 22)))
    (e2:callF TB 19 64 [.ref 0,.int 4] (mapH (deckO cs 1) (.lst ((fS 23).map encN)) (.lst ((gS 23).map V.str)) (dJ 22))=some (.int v2,mapH (deckO cs 2) (.lst ((fS 23).map encN)) (.lst ((gS 23).map V.str)) (dJ 22)))
    (e3:callF TB 19 64 [.ref 0,.int 10] (mapH (deckO cs 2) (.lst ((fS 23).map encN)) (.lst ((gS 23).map V.str)) (dJ 22))=some (.int n,mapH (deckO cs 3) (.lst ((fS 23).map encN)) (.lst ((gS 23).map V.str)) (dJ 22)))
    (hg:∀ t,t<900→g t<23∧callF TB 19 64 [.ref 0,.int 23] (mapH (deckO cs t) (.lst ((fS 23).map encN)) (.lst ((gS 23).map V.str)) (dJ 22))=some (.int (g t),mapH (deckO cs (t+1)) (.lst ((fS 23).map encN)) (.lst ((gS 23).map V.str)) (dJ 22)))
    (hw:([23,75,74,78]:List Nat)[v]?=some w) (hww:w∈words) (hdp:([125,3,4,5]:List Nat)[v2]?=some dp) (hks:rowOf g 3 (1+n)=ks) (ht:3+(1+n)=t)
    (k:∀ a4 a5 p,exL TB (callF TB 19) (fn74.body.drop 10) [.lst (l.map V.int),.ref 0,.lst (kindsN.map V.str),.ref 1,a4,a5,.str w,.int dp,.lst (ks.map V.str),.lst ((cod ks).map encN),.lst ((paraAll w dp ks (cuts ks)).map encB),p,.ref ((pJ (dJ 22) ks ks.length++[O.frz (.lst ((curA ks ks.length).map V.str))]).length+6)]
      (frH (deckO cs t) (pJ (dJ 22) ks ks.length++[.frz (.lst ((curA ks ks.length).map V.str))]++[.list ((cod ks).map encN)])) (fun fl zz H=>outK fl H fun v H=>some (v,H))=r) :
    callF TB 20 74 [.lst (l.map V.int)] []=r:=by
  have hkl:ks.length=1+n:=hks▸rowOf_len
  have hk:∀ x∈ks,x<23:=hks▸rowOf_mem (fun t ht=>(hg t ht).1) (Nat.le_of_lt (Nat.lt_trans (Nat.add_lt_add_left (Nat.add_lt_add_left hn 1) 3) (by decide)))
  have hk2:ks.length<200:=by rw[hkl];exact Nat.lt_trans (Nat.add_lt_add_left hn 1) (by decide)
  obtain⟨g1,g2,-,g4⟩:=cut_inv (ks:=ks) (m:=ks.length)
  have hsl:(curA ks ks.length).length<800:=Nat.lt_of_le_of_lt sl_len (Nat.lt_trans hk2 (by decide))
  have hsep:sepLast (curA ks ks.length):=sl_sep ⟨g1,Nat.le_refl _,fun i h1 h2=>g2 i h1 (Nat.lt_of_succ_lt h2)⟩
  have hcm:∀ y∈curA ks ks.length,y≤22:=sl_mem fun y hy=>Nat.le_of_lt_succ (hk y hy)
  have hlen:(paraAll w dp ks (cutAt ks ks.length).1).length+(para w dp (curA ks ks.length)).length<lim:=by
    rw[len_para]
    exact Nat.lt_of_le_of_lt (Nat.add_le_add (Nat.le_trans paraAll_len (Nat.mul_le_mul (Nat.le_trans g4 (Nat.le_of_lt hk2)) (Nat.le_of_lt hk2))) (Nat.le_trans sl_len (Nat.le_of_lt hk2))) (by decide)
  rw[para_all]at k
  have h73:callF TB 19 73 [view (mapH (deckO cs t) (.lst ((fS 23).map encN)) (.lst ((gS 23).map V.str)) (pJ (dJ 22) ks ks.length++[.list ((curA ks ks.length).map V.str)])) (.ref ((pJ (dJ 22) ks ks.length).length+6)),.str w,.int dp] (mapH (deckO cs t) (.lst ((fS 23).map encN)) (.lst ((gS 23).map V.str)) (pJ (dJ 22) ks ks.length++[.list ((curA ks ks.length).map V.str)]))=some (.lst ((para w dp (curA ks ks.length)).map encB),mapH (deckO cs t) (.lst ((fS 23).map encN)) (.lst ((gS 23).map V.str)) (pJ (dJ 22) ks ks.length++[.frz (.lst ((curA ks ks.length).map V.str))])):=by
    rw[view_c mapH_end]
    exact call73 hsl hsep hcm hww
  have h50:callF TB 19 50 [.lst ((cod ks).map encN),.ref 1,.str w,.int dp] (mapH (deckO cs t) (.lst ((fS 23).map encN)) (.lst ((gS 23).map V.str)) (pJ (dJ 22) ks ks.length++[.frz (.lst ((curA ks ks.length).map V.str))]++[.list ((cod ks).map encN)]))=some (.lst ((paraAll w dp ks (cutAt ks ks.length).1++para w dp (curA ks ks.length)).map encB),frH (deckO cs t) (pJ (dJ 22) ks ks.length++[.frz (.lst ((curA ks ks.length).map V.str))]++[.list ((cod ks).map encN)])):=by
    rw[←para_all]
    exact c50 (d:=10) isData_D0 hk2 hk frz_args
  have h60:∀ k:Nat,k<23→callF TB 19 60 [.ref 1,.str 27,.int (65+k:Nat),.int (65+k:Nat),.str k] (dH (deckO cs 0) k)=some (.none,dH (deckO cs 0) (k+1)):=fun k hk=>c60 hk
  have h63:∀ H,callF TB 19 63 [] H=some (.lst (kindsN.map V.str),H):=fun H=>c63
  have h59:callF TB 19 59 [.ref 1] [deckO cs 0,.inst 5 []]=some (.none,H0 (deckO cs 0)):=c59
  have hka:∀ v,v<23→kindsN[v]?=some v:=fun zz=>kinds_at
  have hki:=kinds_is
  have hk23:kindsN.length=23:=List.length_range
  have hke:kindsN=kindsN:=rfl
  generalize hkn:kindsN=kn at k h63 hka hki hk23
  generalize hK:(fun fl (_:List V) H=>outK fl H fun v H=>some (v,H))=K at k
  show exL TB (callF TB 19) fn74.body [.lst (l.map V.int),.undef,.undef,.undef,.undef,.undef,.undef,.undef,.undef,.undef,.undef,.undef,.undef] [] (fun fl zz H=>outK fl H fun v H=>some (v,H))=r
  rw[hK]
  refine z0 (s:=fn74.body.drop 1) hl hcs hc h63 h59 ?_
  refine z1 (s:=fn74.body.drop 2) hki hk23 h60 fun a4 a5=>?_
  refine z2 (s:=fn74.body.drop 3) e1 hw ?_
  refine z3 (s:=fn74.body.drop 4) e2 hdp ?_
  refine z4 (s:=fn74.body.drop 5) hn (by decide) e3 hg hka ?_
  rw[hks,ht]
  refine z5 (s:=fn74.body.drop 6) hk (Nat.lt_trans hk2 (by decide)) hkn.symm ?_
  refine lawLoop (s:=fn74.body.drop 7) hk2 hk hww fun a5=>?_
  refine z7 (s:=fn74.body.drop 8) wd_slot h73 (fun zz zz g=>due_add hlen g) ?_
  refine z8 (s:=fn74.body.drop 9) (lm (by unfold cod;rw[List.length_map];exact Nat.lt_trans hk2 (by decide))) ?_
  exact z9 (s:=fn74.body.drop 10) h50 (k _ _ _)
theorem law_true:∀ l:List Int,l.length≤63→∃ H,callF TB 20 74 [.lst (l.map V.int)] []=some (.bool true,H):=by
  intro l hl
  have hcs:((l.map V.int).take (min 20 (l.map V.int).length)).drop 0=(l.take (min 20 l.length)).map V.int:=by rw[List.drop_zero,List.length_map,List.map_take]
  have hc:(l.take (min 20 l.length)).length≤20:=Nat.le_trans (List.length_take_le _ _) (Nat.min_le_left _ _)
  generalize l.take (min 20 l.length)=cs at *
  obtain⟨v,hv,e1⟩:=draw (A:=.lst ((fS 23).map encN)) (B:=.lst ((gS 23).map V.str)) (J:=dJ 22) (d:=18) (cs:=cs) (t:=0) (b:=4) hc (by decide) (by decide)
  obtain⟨v2,hv2,e2⟩:=draw (A:=.lst ((fS 23).map encN)) (B:=.lst ((gS 23).map V.str)) (J:=dJ 22) (d:=18) (cs:=cs) (t:=1) (b:=4) hc (by decide) (by decide)
  obtain⟨n,hn,e3⟩:=draw (A:=.lst ((fS 23).map encN)) (B:=.lst ((gS 23).map V.str)) (J:=dJ 22) (d:=18) (cs:=cs) (t:=2) (b:=10) hc (by decide) (by decide)
  obtain⟨w,hw,hww⟩:=word_of hv
  obtain⟨dp,hdp⟩:=at_some (l:=([125,3,4,5]:List Nat)) hv2
  have hd:∀ t:Nat,∃ x:Nat,t<900→x<23∧callF TB 19 64 [.ref 0,.int 23] (mapH (deckO cs t) (.lst ((fS 23).map encN)) (.lst ((gS 23).map V.str)) (dJ 22))=some (.int x,mapH (deckO cs (t+1)) (.lst ((fS 23).map encN)) (.lst ((gS 23).map V.str)) (dJ 22)):=fun t=>by
    by_cases ht:t<900
    · obtain⟨x,hx⟩:=draw (A:=.lst ((fS 23).map encN)) (B:=.lst ((gS 23).map V.str)) (J:=dJ 22) (d:=18) (cs:=cs) (t:=t) (b:=23) hc ht (by decide)
      exact⟨x,fun zz=>hx⟩
    · exact⟨0,fun q=>absurd q ht⟩
  obtain⟨g,hg⟩:=Classical.axiomOfChoice hd
  have main:=fun r k=>law_main (r:=r) (ks:=rowOf g 3 (1+n)) (t:=3+(1+n)) (Nat.lt_of_le_of_lt hl (by decide)) hcs hc hn e1 e2 e3 hg hw hww hdp rfl rfl k
  have ht:3+(1+n)<800:=Nat.lt_trans (Nat.add_lt_add_left (Nat.add_lt_add_left hn 1) 3) (by decide)
  generalize rowOf g 3 (1+n)=ks at *
  generalize 3+(1+n)=t at *
  generalize pJ (dJ 22) ks ks.length++[O.frz (.lst ((curA ks ks.length).map V.str))]++[.list ((cod ks).map encN)]=J at *
  obtain⟨v6,hv6,e6⟩:=c64 (d:=18) (cs:=cs) (t:=t) (b:=6) (G:=(frH (deckO cs t) J).tail) hc (Nat.lt_trans ht (by decide)) (by decide)
  by_cases h5:v6<5
  · exact⟨_,main _ fun a4 a5 p=>z10a (s:=fn74.body.drop 11) e6 h5 rfl⟩
  · obtain⟨v7,hv7,e7⟩:=c64 (d:=18) (cs:=cs) (t:=t+1) (b:=12) (G:=(frH (deckO cs t) J).tail) hc (Nat.lt_trans (Nat.succ_lt_succ ht) (by decide)) (by decide)
    have hk2l:(List.replicate (58+v7) 15++[0]).length=58+v7+1:=by rw[List.length_append,List.length_replicate];rfl
    have hk2m:∀ x∈List.replicate (58+v7) 15++[0],x=15∨x=0:=fun x hx=>(List.mem_append.mp hx).imp List.eq_of_mem_replicate List.mem_singleton.mp
    have h100:58+v7+1<200:=Nat.lt_trans (Nat.succ_lt_succ (Nat.add_lt_add_left hv7 58)) (by decide)
    have hk2:(List.replicate (58+v7) 15++[0]).length<200:=by rw[hk2l];exact h100
    have hk3:∀ x∈List.replicate (58+v7) 15++[0],x<23:=fun x hx=>(hk2m x hx).elim (fun e=>e▸by decide) fun e=>e▸by decide
    have hne:∀ x∈List.replicate (58+v7) 15++[0],x≠13:=fun x hx=>(hk2m x hx).elim (fun e=>e▸by decide) fun e=>e▸by decide
    have hpos:0<(List.replicate (58+v7) 15++[0]).length:=by rw[hk2l];exact Nat.succ_pos _
    generalize hk:List.replicate (58+v7) 15++[0]=k2 at *
    have hsep:sepLast k2:=fun i hi=>absurd rfl (hne 13 (List.mem_of_getElem? hi))
    have e73:callF TB 19 73 [.lst (k2.map V.str),.str w,.int 125] (frH (deckO cs (t+1+1)) J)=some (.lst ((para w 125 k2).map encB),frH (deckO cs (t+1+1)) J):=c73 (d:=15) (dp:=125) (Nat.lt_trans hk2 (by decide)) hsep (fun x hx=>Nat.le_of_lt_succ (hk3 x hx)) hww
    have e50:callF TB 19 50 [.lst ((cod k2).map encN),D0,.str w] (frH (deckO cs (t+1+1)) J)=some (.lst ((para w 125 k2).map encB),frH (deckO cs (t+1+1)) J):=by
      rw[←para_one hne hpos]
      exact c50b (d:=10) isData_D0 hk2 hk3 rfl
    refine⟨frH (deckO cs (t+1+1)) J,main _ fun a4 a5 p=>z10b (s:=fn74.body.drop 11) e6 h5 (z11 (s:=fn74.body.drop 12) hv7 e7 ?_)⟩
    rw[hk]
    exact z12 hk3 (Nat.lt_trans hk2 (by decide)) rfl e50 e73 rfl
end Mine
end
set_option backward.match.sparseCases true
open PySem PySem.W PyProof.Rows
namespace Mine.head
theorem tw10005452208157733855:True:=⟨⟩
theorem tw10010264046613662565:True:=⟨⟩
theorem tw10015159338476511836:True:=⟨⟩
theorem tw10018764681926925449:True:=⟨⟩
theorem tw10021064610941686981:True:=⟨⟩
theorem tw10079960370226730655:True:=⟨⟩
theorem tw1017082373791098590:True:=⟨⟩
theorem tw10258521583956687137:True:=⟨⟩
theorem tw10261356005730403935:True:=⟨⟩
theorem tw10265929125382437317:True:=⟨⟩
theorem tw10356212845559719233:True:=⟨⟩
theorem tw10366927770000222440:True:=⟨⟩
theorem tw10431609616501453582:True:=⟨⟩
theorem tw10467814448475477596:True:=⟨⟩
theorem tw10504981510240967646:True:=⟨⟩
theorem tw10510622979536455646:True:=⟨⟩
theorem tw10519217271611395807:True:=⟨⟩
theorem tw10533634037010066435:True:=⟨⟩
theorem tw10619857144125423714:True:=⟨⟩
theorem tw10706776884845955466:True:=⟨⟩
theorem tw10730805705081004914:True:=⟨⟩
theorem tw10812213935944405949:True:=⟨⟩
theorem tw1082313596108445148:True:=⟨⟩
theorem tw10875119458065257276:True:=⟨⟩
theorem tw10900948863051656163:True:=⟨⟩
theorem tw10987702880554017565:True:=⟨⟩
theorem tw10988817232074504935:True:=⟨⟩
theorem tw11005904730967762025:True:=⟨⟩
theorem tw11063524718261073790:True:=⟨⟩
theorem tw11097941207591946120:True:=⟨⟩
theorem tw11105056867450500199:True:=⟨⟩
theorem tw11124748197601291601:True:=⟨⟩
theorem tw11194998557105285118:True:=⟨⟩
theorem tw11290360913936777911:True:=⟨⟩
theorem tw11296743742662292762:True:=⟨⟩
theorem tw11308087075614649832:True:=⟨⟩
theorem tw11338825007792423415:True:=⟨⟩
theorem tw1134157569726261602:True:=⟨⟩
theorem tw11364544325212742011:True:=⟨⟩
theorem tw11426403942048686318:True:=⟨⟩
theorem tw11427066125472700054:True:=⟨⟩
theorem tw11484797826999851062:True:=⟨⟩
theorem tw11485113708198979986:True:=⟨⟩
theorem tw11544532188706048022:True:=⟨⟩
theorem tw11582096051123008839:True:=⟨⟩
theorem tw11692735721529064706:True:=⟨⟩
theorem tw11714945338242495837:True:=⟨⟩
theorem tw11862927689305589065:True:=⟨⟩
theorem tw11923155195566972133:True:=⟨⟩
theorem tw11925700103697007601:True:=⟨⟩
theorem tw11988142204041823098:True:=⟨⟩
theorem tw12024539317367501503:True:=⟨⟩
theorem tw12032222614953749359:True:=⟨⟩
theorem tw12043669396524033845:True:=⟨⟩
theorem tw12074249297620881909:True:=⟨⟩
theorem tw1211024037004892549:True:=⟨⟩
theorem tw1212124681294104184:True:=⟨⟩
theorem tw12147184966966947637:True:=⟨⟩
theorem tw12201952087667049370:True:=⟨⟩
theorem tw12207028300977255130:True:=⟨⟩
theorem tw1224924573807776437:True:=⟨⟩
theorem tw12287978374625458572:True:=⟨⟩
theorem tw12310735299239354703:True:=⟨⟩
theorem tw12352672977532951062:True:=⟨⟩
theorem tw12359489953124434286:True:=⟨⟩
theorem tw12362083183470981646:True:=⟨⟩
theorem tw12364624919760631829:True:=⟨⟩
theorem tw12398312691204496596:True:=⟨⟩
theorem tw12460202669355646752:True:=⟨⟩
theorem tw12475708393154427166:True:=⟨⟩
theorem tw12478146576626367362:True:=⟨⟩
theorem tw12604462930493870256:True:=⟨⟩
theorem tw12695399030622205104:True:=⟨⟩
theorem tw12704426703380559182:True:=⟨⟩
theorem tw12740806245664736207:True:=⟨⟩
theorem tw12741294794224977040:True:=⟨⟩
theorem tw12763952150808568291:True:=⟨⟩
theorem tw1276956409769668328:True:=⟨⟩
theorem tw12773685731770592110:True:=⟨⟩
theorem tw12775505166333009402:True:=⟨⟩
theorem tw12822298378996975857:True:=⟨⟩
theorem tw12841863872788715202:True:=⟨⟩
theorem tw12851702773856589430:True:=⟨⟩
theorem tw12858780395421280599:True:=⟨⟩
theorem tw12865059321931465230:True:=⟨⟩
theorem tw12892129938458570674:True:=⟨⟩
theorem tw12903917746401883607:True:=⟨⟩
theorem tw12949380547846470161:True:=⟨⟩
theorem tw12998212659555988865:True:=⟨⟩
theorem tw13078646160514809887:True:=⟨⟩
theorem tw13086575352542018947:True:=⟨⟩
theorem tw13180129090757240718:True:=⟨⟩
theorem tw13198292447841614426:True:=⟨⟩
theorem tw13199516396595161752:True:=⟨⟩
theorem tw1319983325249436295:True:=⟨⟩
theorem tw13227620805987009915:True:=⟨⟩
theorem tw13246386896891170512:True:=⟨⟩
theorem tw13276723143375012678:True:=⟨⟩
theorem tw13294958713779813728:True:=⟨⟩
theorem tw13295082483830516422:True:=⟨⟩
theorem tw13295774097974887486:True:=⟨⟩
theorem tw13335025841360890868:True:=⟨⟩
theorem tw13337238644230332656:True:=⟨⟩
theorem tw13357441389134331599:True:=⟨⟩
theorem tw13379354915994877463:True:=⟨⟩
theorem tw13478637309914159250:True:=⟨⟩
theorem tw13508044439285423174:True:=⟨⟩
theorem tw13510609219080548989:True:=⟨⟩
theorem tw13537664574400122534:True:=⟨⟩
theorem tw13585267454733459922:True:=⟨⟩
theorem tw13605870324054321959:True:=⟨⟩
theorem tw13637325136056909300:True:=⟨⟩
theorem tw13653928888864918839:True:=⟨⟩
theorem tw13689084217373910675:True:=⟨⟩
theorem tw13801937863458859944:True:=⟨⟩
theorem tw1389810093214676884:True:=⟨⟩
theorem tw13942192884097748152:True:=⟨⟩
theorem tw13954853420313727417:True:=⟨⟩
theorem tw13955511503576765797:True:=⟨⟩
theorem tw13986843968525588388:True:=⟨⟩
theorem tw13988103294471073821:True:=⟨⟩
theorem tw140066278072042493:True:=⟨⟩
theorem tw14028522991509751376:True:=⟨⟩
theorem tw14095155658891914983:True:=⟨⟩
theorem tw14112051064653734678:True:=⟨⟩
theorem tw14149427978524627653:True:=⟨⟩
theorem tw14195316510222423288:True:=⟨⟩
theorem tw14205479233844494046:True:=⟨⟩
theorem tw14294327094442951597:True:=⟨⟩
theorem tw14303258195080707404:True:=⟨⟩
theorem tw14364637388885140079:True:=⟨⟩
theorem tw14385403278947933607:True:=⟨⟩
theorem tw14393718171448925343:True:=⟨⟩
theorem tw14417885227837004991:True:=⟨⟩
theorem tw14432977821161478157:True:=⟨⟩
theorem tw14492117785962260688:True:=⟨⟩
theorem tw14512941343882779238:True:=⟨⟩
theorem tw14527164170590304321:True:=⟨⟩
theorem tw14531177953140590962:True:=⟨⟩
theorem tw1457377512435260902:True:=⟨⟩
theorem tw14597329475937083939:True:=⟨⟩
theorem tw14628233357713752721:True:=⟨⟩
theorem tw1463646239528298992:True:=⟨⟩
theorem tw14637134836413734856:True:=⟨⟩
theorem tw14643560169476415855:True:=⟨⟩
theorem tw14643959010103036307:True:=⟨⟩
theorem tw14644802206701136288:True:=⟨⟩
theorem tw14646466228836335164:True:=⟨⟩
theorem tw14667470093908496907:True:=⟨⟩
theorem tw14676189674455941282:True:=⟨⟩
theorem tw14679116673082234219:True:=⟨⟩
theorem tw14699528089545365996:True:=⟨⟩
theorem tw14720509044617813951:True:=⟨⟩
theorem tw14744981736328886265:True:=⟨⟩
theorem tw14788773977795034992:True:=⟨⟩
theorem tw14842460003800876886:True:=⟨⟩
theorem tw14843749296085226474:True:=⟨⟩
theorem tw14877080517539528568:True:=⟨⟩
theorem tw14882813523228863612:True:=⟨⟩
theorem tw1489404036187247834:True:=⟨⟩
theorem tw14909605222495392915:True:=⟨⟩
theorem tw1495726902847802894:True:=⟨⟩
theorem tw14969385696402013904:True:=⟨⟩
theorem tw14969872817325187116:True:=⟨⟩
theorem tw14982685227137828758:True:=⟨⟩
theorem tw14999265807660949796:True:=⟨⟩
theorem tw15035418422258542911:True:=⟨⟩
theorem tw15037083628117588352:True:=⟨⟩
theorem tw15039987702171664376:True:=⟨⟩
theorem tw1506576300011279404:True:=⟨⟩
theorem tw15091486752826498866:True:=⟨⟩
theorem tw15112835437128306455:True:=⟨⟩
theorem tw15148963937461231693:True:=⟨⟩
theorem tw15193194302506122181:True:=⟨⟩
theorem tw1519320592345488741:True:=⟨⟩
theorem tw15204471325056678010:True:=⟨⟩
theorem tw1522823579158628613:True:=⟨⟩
theorem tw15253846138512369154:True:=⟨⟩
theorem tw15296082917334920728:True:=⟨⟩
theorem tw15305915472762889579:True:=⟨⟩
theorem tw15326552575505426906:True:=⟨⟩
theorem tw15410735652082386980:True:=⟨⟩
theorem tw15431117522699452526:True:=⟨⟩
theorem tw15436542981012472205:True:=⟨⟩
theorem tw15468718075485040107:True:=⟨⟩
theorem tw15501141472565082077:True:=⟨⟩
theorem tw15506723302920939300:True:=⟨⟩
theorem tw15510365090734361527:True:=⟨⟩
theorem tw15520248196984853422:True:=⟨⟩
theorem tw15539854500240908086:True:=⟨⟩
theorem tw15604011560834605598:True:=⟨⟩
theorem tw15638870477510070732:True:=⟨⟩
theorem tw15647610678857825673:True:=⟨⟩
theorem tw15656768269340197940:True:=⟨⟩
theorem tw15735840784391694233:True:=⟨⟩
theorem tw15782939476341012554:True:=⟨⟩
theorem tw15785421084128741142:True:=⟨⟩
theorem tw15794997505209512671:True:=⟨⟩
theorem tw15796087645652482245:True:=⟨⟩
theorem tw15798066900824788120:True:=⟨⟩
theorem tw15840312062823119879:True:=⟨⟩
theorem tw15841401105113185080:True:=⟨⟩
theorem tw15894371620910866019:True:=⟨⟩
theorem tw15895748673760503845:True:=⟨⟩
theorem tw15967466079928408925:True:=⟨⟩
theorem tw16014373381606645092:True:=⟨⟩
theorem tw16065720564569863766:True:=⟨⟩
theorem tw16072502192527678464:True:=⟨⟩
theorem tw16106133796442146334:True:=⟨⟩
theorem tw16172288393029767808:True:=⟨⟩
theorem tw16172356507618199906:True:=⟨⟩
theorem tw1620002657737552111:True:=⟨⟩
theorem tw1626232751844553403:True:=⟨⟩
theorem tw16278871845796110771:True:=⟨⟩
theorem tw1643771367246577777:True:=⟨⟩
theorem tw16474958459275807246:True:=⟨⟩
theorem tw16572314662081343053:True:=⟨⟩
theorem tw16640130746408290383:True:=⟨⟩
theorem tw16659920880120507502:True:=⟨⟩
theorem tw16714887947964762639:True:=⟨⟩
theorem tw1673358830478937286:True:=⟨⟩
theorem tw16769997242578385675:True:=⟨⟩
theorem tw16782820856776367440:True:=⟨⟩
theorem tw16800043278716471037:True:=⟨⟩
theorem tw16817119741492734445:True:=⟨⟩
theorem tw16847831306532103052:True:=⟨⟩
theorem tw16871623187472473471:True:=⟨⟩
theorem tw16874305072444578374:True:=⟨⟩
theorem tw16903022960794457021:True:=⟨⟩
theorem tw16966009324859112401:True:=⟨⟩
theorem tw16984083398119652359:True:=⟨⟩
theorem tw16997897962222511:True:=⟨⟩
theorem tw17002534310236347988:True:=⟨⟩
theorem tw17014734716931888790:True:=⟨⟩
theorem tw17015032458148788900:True:=⟨⟩
theorem tw17017319662998615:True:=⟨⟩
theorem tw17036404701509520903:True:=⟨⟩
theorem tw17093656651364094606:True:=⟨⟩
theorem tw17113217626458354986:True:=⟨⟩
theorem tw1714602735852981970:True:=⟨⟩
theorem tw17173245716831642929:True:=⟨⟩
theorem tw17188972718952451159:True:=⟨⟩
theorem tw17197444120159719569:True:=⟨⟩
theorem tw17243387458012846398:True:=⟨⟩
theorem tw17275705279478898512:True:=⟨⟩
theorem tw17297054508065495485:True:=⟨⟩
theorem tw17306198084081397603:True:=⟨⟩
theorem tw17332727794074296334:True:=⟨⟩
theorem tw17362218986543327160:True:=⟨⟩
theorem tw17411354535832351560:True:=⟨⟩
theorem tw174166394780034911:True:=⟨⟩
theorem tw17453365369857097546:True:=⟨⟩
theorem tw17464823870196871000:True:=⟨⟩
theorem tw1748456618969930982:True:=⟨⟩
theorem tw17486074103640542121:True:=⟨⟩
theorem tw17508272824862286709:True:=⟨⟩
theorem tw17525636777796739105:True:=⟨⟩
theorem tw17539234302018041193:True:=⟨⟩
theorem tw17608190574486352970:True:=⟨⟩
theorem tw17646911460466567920:True:=⟨⟩
theorem tw17674571679781333832:True:=⟨⟩
theorem tw17698105195316432488:True:=⟨⟩
theorem tw17700853532424174462:True:=⟨⟩
theorem tw17725469503822016867:True:=⟨⟩
theorem tw17782148633632673465:True:=⟨⟩
theorem tw17789423225533864492:True:=⟨⟩
theorem tw17821319399108415887:True:=⟨⟩
theorem tw17826015225549371706:True:=⟨⟩
theorem tw17836260108008149386:True:=⟨⟩
theorem tw17844492200522320778:True:=⟨⟩
theorem tw17850378814381688901:True:=⟨⟩
theorem tw17854896373637125580:True:=⟨⟩
theorem tw17905491414393134947:True:=⟨⟩
theorem tw17958272820484234708:True:=⟨⟩
theorem tw18007968972792079559:True:=⟨⟩
theorem tw18080951475816111786:True:=⟨⟩
theorem tw18123143868385100064:True:=⟨⟩
theorem tw18260194641540637818:True:=⟨⟩
theorem tw1832916270232011604:True:=⟨⟩
theorem tw18332285231265401824:True:=⟨⟩
theorem tw18364922244981856966:True:=⟨⟩
theorem tw18416563613846182222:True:=⟨⟩
theorem tw18433677622606106133:True:=⟨⟩
theorem tw1852205218256702202:True:=⟨⟩
theorem tw1858285994304674589:True:=⟨⟩
theorem tw1909714482019496454:True:=⟨⟩
theorem tw1917425121527220963:True:=⟨⟩
theorem tw1919001801439425371:True:=⟨⟩
theorem tw1937370526825066196:True:=⟨⟩
theorem tw1939405473400901271:True:=⟨⟩
theorem tw1985537357303476512:True:=⟨⟩
theorem tw1992862871153497056:True:=⟨⟩
theorem tw1993461502076026627:True:=⟨⟩
theorem tw2096541523181747872:True:=⟨⟩
theorem tw2154566216772986472:True:=⟨⟩
theorem tw2203363585012173787:True:=⟨⟩
theorem tw2260579728952749127:True:=⟨⟩
theorem tw2298694737197419510:True:=⟨⟩
theorem tw2326617092838664518:True:=⟨⟩
theorem tw2340069552987342377:True:=⟨⟩
theorem tw2350586252961548244:True:=⟨⟩
theorem tw2355103038987944067:True:=⟨⟩
theorem tw2393098407364606883:True:=⟨⟩
theorem tw2400818531096893172:True:=⟨⟩
theorem tw2437478716016495240:True:=⟨⟩
theorem tw2441957057352720082:True:=⟨⟩
theorem tw2491421050496283774:True:=⟨⟩
theorem tw2506711637615833298:True:=⟨⟩
theorem tw2518057956044344595:True:=⟨⟩
theorem tw2525174236342294155:True:=⟨⟩
theorem tw2525317073905713282:True:=⟨⟩
theorem tw2529948359932261575:True:=⟨⟩
theorem tw2554682012703037696:True:=⟨⟩
theorem tw2581250870941146908:True:=⟨⟩
theorem tw2591067827882107080:True:=⟨⟩
theorem tw2694075680205673411:True:=⟨⟩
theorem tw2728595385866086531:True:=⟨⟩
theorem tw2753283235347674219:True:=⟨⟩
theorem tw2825341998796452840:True:=⟨⟩
theorem tw2864405669816312776:True:=⟨⟩
theorem tw2876011056497122456:True:=⟨⟩
theorem tw2879759524354350568:True:=⟨⟩
theorem tw2907111362388958804:True:=⟨⟩
theorem tw2994366008111725845:True:=⟨⟩
theorem tw3062044705579621278:True:=⟨⟩
theorem tw3083302935323014018:True:=⟨⟩
theorem tw3088210815446039105:True:=⟨⟩
theorem tw3103639331685909893:True:=⟨⟩
theorem tw315434073420411817:True:=⟨⟩
theorem tw3160712208675142370:True:=⟨⟩
theorem tw3264716943610762504:True:=⟨⟩
theorem tw3271325274910284565:True:=⟨⟩
theorem tw3304075619188804072:True:=⟨⟩
theorem tw3368474557548986910:True:=⟨⟩
theorem tw3453547403478019728:True:=⟨⟩
theorem tw3547030090768783262:True:=⟨⟩
theorem tw3547240966391284428:True:=⟨⟩
theorem tw3556061257289618393:True:=⟨⟩
theorem tw3581614266968435656:True:=⟨⟩
theorem tw3615648651819825313:True:=⟨⟩
theorem tw3665506230870052707:True:=⟨⟩
theorem tw3690969761935527329:True:=⟨⟩
theorem tw3715584954343283195:True:=⟨⟩
theorem tw3746228215898030841:True:=⟨⟩
theorem tw3749026756887285471:True:=⟨⟩
theorem tw3790771472595898956:True:=⟨⟩
theorem tw3794523003379204399:True:=⟨⟩
theorem tw3821945547825155762:True:=⟨⟩
theorem tw3973953319845086491:True:=⟨⟩
theorem tw3980653432952411973:True:=⟨⟩
theorem tw3986194592780655508:True:=⟨⟩
theorem tw3991279037241028524:True:=⟨⟩
theorem tw4009957668330374740:True:=⟨⟩
theorem tw4017301010375394790:True:=⟨⟩
theorem tw4053978428183960486:True:=⟨⟩
theorem tw4063747431996464497:True:=⟨⟩
theorem tw4160124254940468481:True:=⟨⟩
theorem tw4273228799998304602:True:=⟨⟩
theorem tw4277651752456152607:True:=⟨⟩
theorem tw4311042196063409733:True:=⟨⟩
theorem tw4369461151777750837:True:=⟨⟩
theorem tw4381510469713062047:True:=⟨⟩
theorem tw4415685298772064003:True:=⟨⟩
theorem tw4433315090154635215:True:=⟨⟩
theorem tw4473611206160876864:True:=⟨⟩
theorem tw45052839361067614:True:=⟨⟩
theorem tw4543076655600059902:True:=⟨⟩
theorem tw4607607821588926596:True:=⟨⟩
theorem tw4658307059398736837:True:=⟨⟩
theorem tw466721876749952763:True:=⟨⟩
theorem tw467416434755642258:True:=⟨⟩
theorem tw4693820183103290663:True:=⟨⟩
theorem tw4708111749353345164:True:=⟨⟩
theorem tw4709128311485490483:True:=⟨⟩
theorem tw4746297304354101679:True:=⟨⟩
theorem tw4764554697811233:True:=⟨⟩
theorem tw4834694072379752904:True:=⟨⟩
theorem tw4839655697589452165:True:=⟨⟩
theorem tw48543519692965452:True:=⟨⟩
theorem tw4945251732147069371:True:=⟨⟩
theorem tw4964814941381164201:True:=⟨⟩
theorem tw4972248218790579157:True:=⟨⟩
theorem tw497287684792784471:True:=⟨⟩
theorem tw4975070653579243887:True:=⟨⟩
theorem tw4976181008148175253:True:=⟨⟩
theorem tw5038994553942263901:True:=⟨⟩
theorem tw5092371620264689978:True:=⟨⟩
theorem tw5096742575497195690:True:=⟨⟩
theorem tw5104563664521345299:True:=⟨⟩
theorem tw5111174896325423537:True:=⟨⟩
theorem tw5140934472235413692:True:=⟨⟩
theorem tw5141578139466067413:True:=⟨⟩
theorem tw5187041380464763778:True:=⟨⟩
theorem tw5274623360512300857:True:=⟨⟩
theorem tw5319049981483164881:True:=⟨⟩
theorem tw5331137831679937033:True:=⟨⟩
theorem tw5346772772824661884:True:=⟨⟩
theorem tw5353729903917744248:True:=⟨⟩
theorem tw5401097623525119610:True:=⟨⟩
theorem tw5467695095851852608:True:=⟨⟩
theorem tw5479459121986351116:True:=⟨⟩
theorem tw5487235932777146282:True:=⟨⟩
theorem tw5506250874072839755:True:=⟨⟩
theorem tw5508695066786827253:True:=⟨⟩
theorem tw5515381820778694223:True:=⟨⟩
theorem tw5593727005144783397:True:=⟨⟩
theorem tw5599997604879368025:True:=⟨⟩
theorem tw5617373736292572815:True:=⟨⟩
theorem tw5629256929840616583:True:=⟨⟩
theorem tw5638995163158488052:True:=⟨⟩
theorem tw5651425540991249520:True:=⟨⟩
theorem tw5723944856813171866:True:=⟨⟩
theorem tw573967197379146972:True:=⟨⟩
theorem tw5764021196749891206:True:=⟨⟩
theorem tw5788964047882338313:True:=⟨⟩
theorem tw5797013207949663412:True:=⟨⟩
theorem tw5870146547769353613:True:=⟨⟩
theorem tw5906749814970224870:True:=⟨⟩
theorem tw5927865893512547691:True:=⟨⟩
theorem tw5944575059761466720:True:=⟨⟩
theorem tw597074169871860151:True:=⟨⟩
theorem tw5973763720392745831:True:=⟨⟩
theorem tw5986637957666399235:True:=⟨⟩
theorem tw604627371996746742:True:=⟨⟩
theorem tw6053349399257934933:True:=⟨⟩
theorem tw6053997905714604814:True:=⟨⟩
theorem tw6079359036626576793:True:=⟨⟩
theorem tw6085824867444503733:True:=⟨⟩
theorem tw6100774026682323163:True:=⟨⟩
theorem tw6110071263904590700:True:=⟨⟩
theorem tw6121141971511671821:True:=⟨⟩
theorem tw6161856959107265637:True:=⟨⟩
theorem tw6202090305015876224:True:=⟨⟩
theorem tw6207834228037699737:True:=⟨⟩
theorem tw6212921109956642855:True:=⟨⟩
theorem tw6240353410654795137:True:=⟨⟩
theorem tw6247268493268985975:True:=⟨⟩
theorem tw6298033893332097587:True:=⟨⟩
theorem tw6327039764776113722:True:=⟨⟩
theorem tw6388477656530123435:True:=⟨⟩
theorem tw6402496994288996404:True:=⟨⟩
theorem tw6474009502463322548:True:=⟨⟩
theorem tw649443455394278489:True:=⟨⟩
theorem tw6507506987150044280:True:=⟨⟩
theorem tw6521490308693473283:True:=⟨⟩
theorem tw6587087628758450585:True:=⟨⟩
theorem tw6684681932595197013:True:=⟨⟩
theorem tw6684978435548883818:True:=⟨⟩
theorem tw6737735255597943219:True:=⟨⟩
theorem tw6765076016337515374:True:=⟨⟩
theorem tw6772502638888315869:True:=⟨⟩
theorem tw6836605351468522007:True:=⟨⟩
theorem tw6846597200999610202:True:=⟨⟩
theorem tw6857060684267632606:True:=⟨⟩
theorem tw6880043348581005364:True:=⟨⟩
theorem tw6891450509433485068:True:=⟨⟩
theorem tw69809265629811306:True:=⟨⟩
theorem tw7013799640231393816:True:=⟨⟩
theorem tw7090939061502383884:True:=⟨⟩
theorem tw7096138990903361605:True:=⟨⟩
theorem tw7119846925741900413:True:=⟨⟩
theorem tw7161073391023584161:True:=⟨⟩
theorem tw7253898381062576733:True:=⟨⟩
theorem tw7277520189549225825:True:=⟨⟩
theorem tw7287109101882759415:True:=⟨⟩
theorem tw7313386461004707312:True:=⟨⟩
theorem tw733406405333840765:True:=⟨⟩
theorem tw739537129135343663:True:=⟨⟩
theorem tw7404141018258913797:True:=⟨⟩
theorem tw7417378784160708352:True:=⟨⟩
theorem tw7417405269818204032:True:=⟨⟩
theorem tw742351954350328859:True:=⟨⟩
theorem tw7450023128482652576:True:=⟨⟩
theorem tw7494366503370351645:True:=⟨⟩
theorem tw7498250532897285284:True:=⟨⟩
theorem tw7512725033676591148:True:=⟨⟩
theorem tw7523532297153676066:True:=⟨⟩
theorem tw7599496313472250701:True:=⟨⟩
theorem tw7658410731251134818:True:=⟨⟩
theorem tw7661765248129044261:True:=⟨⟩
theorem tw7680146299302783591:True:=⟨⟩
theorem tw7688317290187622652:True:=⟨⟩
theorem tw7704315382344345624:True:=⟨⟩
theorem tw7712916153251135833:True:=⟨⟩
theorem tw7732209734871044160:True:=⟨⟩
theorem tw7758381527925395934:True:=⟨⟩
theorem tw7789450098604059249:True:=⟨⟩
theorem tw779419810087314491:True:=⟨⟩
theorem tw7802898811600756450:True:=⟨⟩
theorem tw780477332936465449:True:=⟨⟩
theorem tw7833285031277912329:True:=⟨⟩
theorem tw7876399200375917224:True:=⟨⟩
theorem tw7906546307943345882:True:=⟨⟩
theorem tw7928285938522686346:True:=⟨⟩
theorem tw8035625575855466936:True:=⟨⟩
theorem tw807142644699662319:True:=⟨⟩
theorem tw8159583801465064534:True:=⟨⟩
theorem tw8185714761375850791:True:=⟨⟩
theorem tw8187629637223713605:True:=⟨⟩
theorem tw820421773197932041:True:=⟨⟩
theorem tw8216834362191484069:True:=⟨⟩
theorem tw8299393411229908732:True:=⟨⟩
theorem tw8382746154173761051:True:=⟨⟩
theorem tw8402214883040486957:True:=⟨⟩
theorem tw8408249889716310983:True:=⟨⟩
theorem tw8414573866900348196:True:=⟨⟩
theorem tw8451290768687142514:True:=⟨⟩
theorem tw8476099583838051002:True:=⟨⟩
theorem tw851385035628625539:True:=⟨⟩
theorem tw8534208459206503383:True:=⟨⟩
theorem tw8535708456716222715:True:=⟨⟩
theorem tw8541356943393881859:True:=⟨⟩
theorem tw8603420104599213669:True:=⟨⟩
theorem tw8627200689577751383:True:=⟨⟩
theorem tw8671685427711848851:True:=⟨⟩
theorem tw8715499118904818895:True:=⟨⟩
theorem tw8773370040425892893:True:=⟨⟩
theorem tw8796753266530204203:True:=⟨⟩
theorem tw8812732774380208333:True:=⟨⟩
theorem tw8874674299285249911:True:=⟨⟩
theorem tw8895791426145780158:True:=⟨⟩
theorem tw8908391491709239787:True:=⟨⟩
theorem tw8912104118211102971:True:=⟨⟩
theorem tw8997269238129315039:True:=⟨⟩
theorem tw9062998866958442273:True:=⟨⟩
theorem tw9065935926736091543:True:=⟨⟩
theorem tw9074772780463953568:True:=⟨⟩
theorem tw9083612298779875492:True:=⟨⟩
theorem tw9103479521544129834:True:=⟨⟩
theorem tw9107825763807709430:True:=⟨⟩
theorem tw9114333099845857663:True:=⟨⟩
theorem tw9133290819911140118:True:=⟨⟩
theorem tw9142320679590124636:True:=⟨⟩
theorem tw9145527808636388435:True:=⟨⟩
theorem tw9162278640276766204:True:=⟨⟩
theorem tw9186546921256032858:True:=⟨⟩
theorem tw9196398404247428943:True:=⟨⟩
theorem tw9202431907968578930:True:=⟨⟩
theorem tw9214367901419015226:True:=⟨⟩
theorem tw9276144551764123601:True:=⟨⟩
theorem tw930087139818521243:True:=⟨⟩
theorem tw9325057278558614444:True:=⟨⟩
theorem tw9325123708862168440:True:=⟨⟩
theorem tw9328142537993144618:True:=⟨⟩
theorem tw9388430590476628193:True:=⟨⟩
theorem tw9407594320385231609:True:=⟨⟩
theorem tw9464831228461672588:True:=⟨⟩
theorem tw9495540839478616804:True:=⟨⟩
theorem tw9515422150858430662:True:=⟨⟩
theorem tw9585072729554991084:True:=⟨⟩
theorem tw9592777112578238593:True:=⟨⟩
theorem tw9625377726130185387:True:=⟨⟩
theorem tw9646481798937456297:True:=⟨⟩
theorem tw9658139154387788515:True:=⟨⟩
theorem tw9702098958229961203:True:=⟨⟩
theorem tw9716329373054682134:True:=⟨⟩
theorem tw9743709737119245314:True:=⟨⟩
theorem tw9746458257258439470:True:=⟨⟩
theorem tw976808484645153763:True:=⟨⟩
theorem tw9777900189565919194:True:=⟨⟩
theorem tw986149203867771114:True:=⟨⟩
theorem tw9984397402777080727:True:=⟨⟩
theorem tw9987851973559822609:True:=⟨⟩
end Mine.head
set_option maxRecDepth 1000000
set_option maxHeartbeats 8000000
namespace Mine
theorem lawT:LawTrue:=law_true
theorem head:PySem.Challenge.rw_nt0067_01.Holds:=by
  w_on;o_law;k_head
  case hw=>w_witness2
  exact finish lawT (fun P=>⟨by kernel_rfl,by kernel_rfl,by kernel_rfl,by kernel_rfl,by kernel_rfl⟩) (fun P=>by kernel_rfl) rfl
end Mine
theorem PySem.Challenge.cw_nt0067_01_holds : PySem.Challenge.rw_nt0067_01.Holds := by
  exact Mine.head
