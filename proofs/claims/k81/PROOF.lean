import PyProof.Rows.All
import Wide.All
import OpenK.AllK
import Wide.FinOn
import HandS.ForMost
import HandS.ForExc
import HandS.Walk
import HandS.Wide
import KE.SortData
import HandS.ExcIs
import HandS.ExcField
import HandS.ExcInit
import HandS.TryOnly
import KE.DataEq
import HandS.Zip
import PyProof.Draws
import HandS.Rev
import HandS.Defaults
import HandS.WordsExc
import HandS.Comp
import HandS.Small
import HandS.Text
import HandS.IsInst
import HandS.SortInts
import HandS.Head0
import HandS.Head1
import HandS.Head2
import HandS.HeadEnd
import HandS.HeadHook1
import HandS.HeadHook2
import HandS.Replace
import KE.KExcIs
import HandS.Style
import HandS.More
import HandS.Deep
import PyProof.Rows.StrMeet
import KE.KEqDict
import HandS.Set
import HandS.SetFor
import HandS.DeepEq
import HandS.TupSets
import KE.KSortTupAny
import HandS.TupAny
import PySem.Challenge.RW_findcourt_k81_questions_written
set_option Elab.async false
set_option linter.all false
set_option maxRecDepth 100000
set_option maxHeartbeats 4100000
namespace Vw
open PySem L2
inductive K0 where
 | i (n:Int)
 | s (t:List Nat)
 deriving DecidableEq
inductive D where
 | non
 | bl (b:Bool)
 | int (i:Int)
 | str (s:List Nat)
 | tup (l:List D)
 | lst (l:List D)
 | dic (l:List (K0×D))
 | dit (l:List (List K0×D))
 | ins (c:String) (fs:List (String×D))
 | exc (c:String) (p:List D)
inductive Val where
 | d (x:D)
 | r (n:Nat)
 | tp (l:List Val)
inductive Ob where
 | lst (l:List Val)
 | dic (k:Bool) (l:List (K0×Val))
 | dit (k:Bool) (l:List (List K0×Val))
 | ins (c:String) (fs:List (String×Val))
 | gone
inductive Sl where
 | v (x:Val)
 | own (o:Ob)
abbrev Slots:=List (Option Sl)
structure State where
 sg:Slots
 st:List Ob
inductive RV where
 | val (x:Val)
 | new (o:Ob)
 | own (i:Nat)
structure Exn where
 c:String
 p:Option D
inductive Res (α:Type) where
 | ok (a:α) (s:State)
 | exc (x:Exn) (s:State)
 | stuck
def Res.bind{α β:Type}:Res α→(α→State→Res β)→Res β
 | .ok a s,k=>k a s
 | .exc x s,_=>.exc x s
 | .stuck,_=>.stuck
@[simp] theorem Res.aa{α β:Type}(a:α)(s:State)(k:α→State→Res β):(Res.ok a s).bind k=k a s:=id rfl
@[simp] theorem Res.Bq{α β:Type}(x:Exn)(s:State)(k:α→State→Res β):(Res.exc x s).bind k=.exc x s:=id rfl
@[simp] theorem Res.GX{α β:Type}(k:α→State→Res β):(Res.stuck:Res α).bind k=.stuck:=id rfl
def kz:K0→Key
 | .i n=>.inl n
 | .s t=>.inr ⟨t.toArray⟩
theorem qF{a b:K0}(h:kz a=kz b):a=b:=by
 cases a<;> cases b<;> simp[kz]at h<;> first | (subst h;rfl) | skip
 all_goals (rw[h])
def Kh(cls:Value)(a:Addr)(d:Option Addr):HO:=.ext fun h=>∃ oe:Obj,h.get? a=some oe∧Zc cls d oe∧∃ vs,oe.data=.fields vs
def C1(Z:Hp)(d:Option Addr)(ws:List V):Prop:=(d=none∧ws=[])∨∃ dd w,d=some dd∧ws=[w]∧Z dd=some (.xd [(Str.ofString "place",w)])
theorem C1.mono{Z Z':Hp}(h:Same Z Z'){d:Option Addr}{ws:List V}(x:C1 Z d ws):C1 Z' d ws:=x.elim .inl fun⟨dd,w,e1,e2,z⟩=>.inr ⟨dd,w,e1,e2,h _ _ z⟩
section
variable(cA:String→Addr)(Z:Hp)
mutual
def cu:D→V→Prop
 | .non,v=>v=.non
 | .bl b,v=>v=.bl b
 | .int i,v=>v=.int i
 | .str s,v=>v=.str ⟨s.toArray⟩
 | .tup ds,v=>∃ a vs,v=.ref a∧Z a=some (.tup vs)∧dC ds vs
 | .lst ds,v=>∃ a vs,v=.ref a∧(Z a=some (.lst vs)∨∃ o,Z a=some (.frz o (.lst vs)))∧dC ds vs
 | .dic l,v=>∃ a ws,v=.ref a∧Z a=some (.dK ws)∧iU l ws
 | .dit l,v=>∃ a ws,v=.ref a∧Z a=some (.dT ws)∧lP l ws
 | .ins c fs,v=>∃ a dx ws,v=.ref a∧Z a=some (.ins (cA c) dx ws)∧iV fs ws
 | .exc c ps,v=>∃ a d ws,v=.ref a∧Z a=some (Kh (.ref (cA c)) a d)∧C1 Z d ws∧dC ps ws
def dC:List D→List V→Prop
 | [],vs=>vs=[]
 | d::ds,vs=>∃ v r,vs=v::r∧cu d v∧dC ds r
def iU:List (K0×D)→List (Key×V)→Prop
 | [],ws=>ws=[]
 | (k,d)::ds,ws=>∃ v r,ws=(kz k,v)::r∧cu d v∧iU ds r
def lP:List (List K0×D)→List (List Key×V)→Prop
 | [],ws=>ws=[]
 | (k,d)::ds,ws=>∃ v r,ws=(k.map kz,v)::r∧cu d v∧lP ds r
def iV:List (String×D)→List (Str×V)→Prop
 | [],ws=>ws=[]
 | (f,d)::ds,ws=>∃ v r,ws=(Str.ofString f,v)::r∧cu d v∧iV ds r
end
end
section
variable{cA:String→Addr}{Z Z':Hp}
mutual
theorem cu.mono(h:Same Z Z'):∀ (d:D) {v:V},cu cA Z d v→cu cA Z' d v
 | .non,v,q=>q
 | .bl _,v,q=>q
 | .int _,v,q=>q
 | .str _,v,q=>q
 | .tup ds,v,⟨a,vs,e,z,q⟩=>⟨a,vs,e,h _ _ z,dC.mono h ds q⟩
 | .lst ds,v,⟨a,vs,e,z,q⟩=>⟨a,vs,e,z.elim (fun z=>.inl (h _ _ z)) (fun⟨o,z⟩=>.inr ⟨o,h _ _ z⟩),dC.mono h ds q⟩
 | .dic l,v,⟨a,vs,e,z,q⟩=>⟨a,vs,e,h _ _ z,iU.mono h l q⟩
 | .dit l,v,⟨a,vs,e,z,q⟩=>⟨a,vs,e,h _ _ z,lP.mono h l q⟩
 | .ins c fs,v,⟨a,dx,ws,e,z,q⟩=>⟨a,dx,ws,e,h _ _ z,iV.mono h fs q⟩
 | .exc c ps,v,⟨a,d,ws,e,z,x,q⟩=>⟨a,d,ws,e,h _ _ z,x.mono h,dC.mono h ps q⟩
theorem dC.mono(h:Same Z Z'):∀ (ds:List D) {vs:List V},dC cA Z ds vs→dC cA Z' ds vs
 | [],vs,q=>q
 | d::ds,vs,⟨v,r,e,q,t⟩=>⟨v,r,e,cu.mono h d q,dC.mono h ds t⟩
theorem iU.mono(h:Same Z Z'):∀ (ds:List (K0×D)) {vs:List (Key×V)},iU cA Z ds vs→iU cA Z' ds vs
 | [],vs,q=>q
 | (k,d)::ds,vs,⟨v,r,e,q,t⟩=>⟨v,r,e,cu.mono h d q,iU.mono h ds t⟩
theorem lP.mono(h:Same Z Z'):∀ (ds:List (List K0×D)) {vs:List (List Key×V)},lP cA Z ds vs→lP cA Z' ds vs
 | [],vs,q=>q
 | (k,d)::ds,vs,⟨v,r,e,q,t⟩=>⟨v,r,e,cu.mono h d q,lP.mono h ds t⟩
theorem iV.mono(h:Same Z Z'):∀ (ds:List (String×D)) {vs:List (Str×V)},iV cA Z ds vs→iV cA Z' ds vs
 | [],vs,q=>q
 | (k,d)::ds,vs,⟨v,r,e,q,t⟩=>⟨v,r,e,cu.mono h d q,iV.mono h ds t⟩
end
end
end Vw
namespace Vw
open PySem L2
section
variable(cA:String→Addr)(Z:Hp)(loc:List Addr)
mutual
def c7:Val→V→Prop
 | .d x,v=>cu cA Z x v
 | .r n,v=>∃ a,loc[n]? =some a∧v=.ref a
 | .tp l,v=>∃ a vs,v=.ref a∧Z a=some (.tup vs)∧bc l vs
def bc:List Val→List V→Prop
 | [],vs=>vs=[]
 | x::l,vs=>∃ v r,vs=v::r∧c7 x v∧bc l r
end
def eD:List (K0×Val)→List (Key×V)→Prop
 | [],ws=>ws=[]
 | (k,x)::l,ws=>∃ v r,ws=(kz k,v)::r∧c7 cA Z loc x v∧eD l r
def eJ:List (List K0×Val)→List (List Key×V)→Prop
 | [],ws=>ws=[]
 | (k,x)::l,ws=>∃ v r,ws=(k.map kz,v)::r∧c7 cA Z loc x v∧eJ l r
def gh:List (String×Val)→List (Str×V)→Prop
 | [],ws=>ws=[]
 | (f,x)::l,ws=>∃ v r,ws=(Str.ofString f,v)::r∧c7 cA Z loc x v∧gh l r
def vU(H:Hp)(a:Addr)(u:HO):Bool→Prop
 | false=>H a=some u
 | true=>∃ o,H a=some (.frz o u)
def Cell(H:Hp)(a:Addr):Ob→Prop
 | .lst l=>∃ xs,H a=some (.lst xs)∧bc cA Z loc l xs
 | .dic k l=>∃ ws,vU H a (.dK ws) k∧eD cA Z loc l ws
 | .dit k l=>∃ ws,vU H a (.dT ws) k∧eJ cA Z loc l ws
 | .ins c fs=>∃ dx ws,H a=some (.ins (cA c) dx ws)∧gh cA Z loc fs ws
 | .gone=>True
end
def Ext(Z:Hp)(loc:List Addr)(Z':Hp)(loc':List Addr):Prop:=Same Z Z'∧∃ m,loc'=loc++m
theorem Ext.refl(Z:Hp)(loc:List Addr):Ext Z loc Z loc:=⟨Same.refl _,[],by simp⟩
theorem Ext.trans{Z Z1 Z2:Hp}{l l1 l2:List Addr}(a:Ext Z l Z1 l1)(b:Ext Z1 l1 Z2 l2):Ext Z l Z2 l2:=by
 obtain⟨a1,m,rfl⟩:=a
 obtain⟨b1,n,rfl⟩:=b
 exact⟨a1.trans b1,m++n,by simp⟩
theorem Ext.z{Z Z':Hp}{l:List Addr}(h:Same Z Z'):Ext Z l Z' l:=⟨h,[],by simp⟩
section
variable{cA:String→Addr}{Z Z':Hp}{loc loc':List Addr}
mutual
theorem c7.mono(h:Ext Z loc Z' loc'):∀ (x:Val) {v:V},c7 cA Z loc x v→c7 cA Z' loc' x v
 | .d x,v,q=>cu.mono h.1 x q
 | .r n,v,⟨a,e,q⟩=>⟨a,by
  obtain⟨_,m,rfl⟩:=h
  rw[List.getElem?_append_left (List.getElem?_eq_some_iff.mp e).1]
  exact e,q⟩
 | .tp l,v,⟨a,vs,e,z,q⟩=>⟨a,vs,e,h.1 _ _ z,bc.mono h l q⟩
theorem bc.mono(h:Ext Z loc Z' loc'):∀ (l:List Val) {vs:List V},bc cA Z loc l vs→bc cA Z' loc' l vs
 | [],vs,q=>q
 | x::l,vs,⟨v,r,e,q,t⟩=>⟨v,r,e,c7.mono h x q,bc.mono h l t⟩
end
theorem eD.mono(h:Ext Z loc Z' loc'):∀ (l:List (K0×Val)) {vs:List (Key×V)},eD cA Z loc l vs→eD cA Z' loc' l vs
 | [],vs,q=>q
 | (k,x)::l,vs,⟨v,r,e,q,t⟩=>⟨v,r,e,c7.mono h x q,eD.mono h l t⟩
theorem eJ.mono(h:Ext Z loc Z' loc'):∀ (l:List (List K0×Val)) {vs:List (List Key×V)},eJ cA Z loc l vs→eJ cA Z' loc' l vs
 | [],vs,q=>q
 | (k,x)::l,vs,⟨v,r,e,q,t⟩=>⟨v,r,e,c7.mono h x q,eJ.mono h l t⟩
theorem gh.mono(h:Ext Z loc Z' loc'):∀ (l:List (String×Val)) {vs:List (Str×V)},gh cA Z loc l vs→gh cA Z' loc' l vs
 | [],vs,q=>q
 | (k,x)::l,vs,⟨v,r,e,q,t⟩=>⟨v,r,e,c7.mono h x q,gh.mono h l t⟩
theorem vU.grow{H H':Hp}(h:Same H H'){a:Addr}{u:HO}:∀ {k:Bool},vU H a u k→vU H' a u k
 | false,q=>h _ _ q
 | true,⟨o,q⟩=>⟨o,h _ _ q⟩
theorem Ae{H:Hp}{a:Addr}{u:HO}:∀ {k:Bool},vU H a u k→H a≠none
 | false,q=>by rw[show H a=_ from q];simp
 | true,⟨o,q⟩=>by rw[q];simp
theorem Cell.mono{H H':Hp}{a:Addr}(h:Ext Z loc Z' loc')(g:Same H H'):∀ {o:Ob},Cell cA Z loc H a o→Cell cA Z' loc' H' a o
 | .lst l,⟨xs,e,q⟩=>⟨xs,g _ _ e,bc.mono h l q⟩
 | .dic k l,⟨xs,e,q⟩=>⟨xs,e.grow g,eD.mono h l q⟩
 | .dit k l,⟨xs,e,q⟩=>⟨xs,e.grow g,eJ.mono h l q⟩
 | .ins c l,⟨dx,xs,e,q⟩=>⟨dx,xs,g _ _ e,gh.mono h l q⟩
 | .gone,_=>trivial
theorem Cell.at{H H':Hp}{a:Addr}(g:H' a=H a):∀ {o:Ob},Cell cA Z loc H a o→Cell cA Z loc H' a o
 | .lst l,⟨xs,e,q⟩=>⟨xs,g.trans e,q⟩
 | .dic false l,⟨xs,e,q⟩=>⟨xs,g.trans e,q⟩
 | .dic true l,⟨xs,⟨o,e⟩,q⟩=>⟨xs,⟨o,g.trans e⟩,q⟩
 | .dit false l,⟨xs,e,q⟩=>⟨xs,g.trans e,q⟩
 | .dit true l,⟨xs,⟨o,e⟩,q⟩=>⟨xs,⟨o,g.trans e⟩,q⟩
 | .ins c l,⟨dx,xs,e,q⟩=>⟨dx,xs,g.trans e,q⟩
 | .gone,_=>trivial
theorem jM{H:Hp}{a:Addr}{o:Ob}(ne:o≠ .gone)(h:Cell cA Z loc H a o):H a≠none:=by
 cases o with
 | lst l=>obtain⟨xs,e,q⟩:=h;rw[e];simp
 | dic k l=>obtain⟨xs,e,q⟩:=h;exact Ae e
 | dit k l=>obtain⟨xs,e,q⟩:=h;exact Ae e
 | ins c l=>obtain⟨dx,xs,e,q⟩:=h;rw[e];simp
 | gone=>exact absurd rfl ne
end
def oG:HO→Bool
 | .dK _=>true
 | .dT _=>true
 | _=>false
def Rz(H:Hp)(a:Addr)(u:HO):Prop:=H a=some u∨(oG u=true∧∃ o,H a=some (.frz o u))
theorem uM{H:Hp}{a:Addr}{u:HO}(h:Rz H a u):H a≠none:=by
 rcases h with h | ⟨_,o,h⟩<;> rw[h]<;> simp
theorem Ds{H H':Hp}(g:Same H H'){a:Addr}{u:HO}(h:Rz H a u):Rz H' a u:=h.elim (fun h=>.inl (g _ _ h)) fun⟨d,o,h⟩=>.inr ⟨d,o,g _ _ h⟩
theorem Rz.rd{H:Hp}{a:Addr}{u:HO}(h:Rz H a u):Rd H a u:=h.elim .inl fun⟨_,o,h⟩=>.inr ⟨o,h⟩
theorem Rz.at{H:Hp}{a:Addr}{u:HO}(h:Rz H a u)(d:oG u=false):H a=some u:=h.elim id fun⟨e,_⟩=>by rw[d]at e;cases e
structure Cst where
 cA:String→Addr
 Fr:Hp
 H0:Hp
 W:WX
structure SR (C:Cst) (Z:Hp) (loc:List Addr) (s:State) (sv:L2.St) (H:Hp):Prop where
 fr:Same C.Fr H
 zh:∀ (a:Addr) (o:HO),Z a=some o→Rz H a o
 zf:∀ (a:Addr) (o:HO),Z a=some o→C.Fr a=none
 lk:∀ (a:Addr) (o:Obj) (u:HO),C.H0 a=some (.frz o u)→H a=some (.frz o u)
 ln:loc.length=s.st.length
 nd:loc.Nodup
 lh:∀ a∈loc,H a≠none∧C.Fr a=none
 cl:∀ (n:Nat) (a:Addr) (o:Ob),loc[n]? =some a→s.st[n]? =some o→o≠ .gone→Cell C.cA Z loc H a o∧Z a=none
 vl:∀ (i:Nat) (x:Val),s.sg[i]? =some (some (.v x))→∃ v,sv[i]? =some (some v)∧c7 C.cA Z loc x v
 ow:∀ (i:Nat) (o:Ob),s.sg[i]? =some (some (.own o))→∃ a,sv[i]? =some (some (.ref a))∧o≠ .gone∧Cell C.cA Z loc H a o∧Z a=none∧C.Fr a=none∧a∉loc
 oi:∀ (i j:Nat) (o o':Ob) (a:Addr),s.sg[i]? =some (some (.own o))→s.sg[j]? =some (some (.own o'))→sv[i]? =some (some (.ref a))→sv[j]? =some (some (.ref a))→i=j
 ls:s.sg.length=sv.length
structure Free (C:Cst) (Z:Hp) (loc:List Addr) (s:State) (sv:L2.St) (a:Addr):Prop where
 z:Z a=none
 f:C.Fr a=none
 l:a∉loc
 o:∀ (i:Nat) (o:Ob),s.sg[i]? =some (some (.own o))→sv[i]? ≠some (some (.ref a))
def da(C:Cst)(Z:Hp)(loc:List Addr)(s:State)(sv:L2.St)(H:Hp):RV→V→Prop
 | .val x,v=>c7 C.cA Z loc x v
 | .new o,v=>∃ a,v=.ref a∧o≠ .gone∧Cell C.cA Z loc H a o∧Free C Z loc s sv a
 | .own i,v=>sv[i]? =some (some v)
section
variable{C:Cst}{Z Z':Hp}{loc loc':List Addr}{s s':State}{sv:L2.St}{H H':Hp}
theorem SR.grow(r:SR C Z loc s sv H)(g:Same H H'):SR C Z loc s sv H' where
 fr:=r.fr.trans g
 zh a o h:=Ds g (r.zh a o h)
 zf:=r.zf
 lk a o u h:=g _ _ (r.lk a o u h)
 ln:=r.ln
 nd:=r.nd
 lh a h:=⟨fun e=>(r.lh a h).1 (g.free e),(r.lh a h).2⟩
 cl n a o h1 h2 h3:=⟨(r.cl n a o h1 h2 h3).1.mono (Ext.refl _ _) g,(r.cl n a o h1 h2 h3).2⟩
 vl:=r.vl
 ow i o h:=let ⟨a,h1,h2,h3,h4⟩:=r.ow i o h;⟨a,h1,h2,h3.mono (Ext.refl _ _) g,h4⟩
 oi:=r.oi
 ls:=r.ls
theorem dQ{p:Addr}{o:HO}(h:H p=none):Same H (upd H p o):=fun b x e=>by rw[upd_ne (ne_of_none e h)];exact e
theorem SR.free(r:SR C Z loc s sv H){p:Addr}(h:H p=none):Free C Z loc s sv p where
 z:=by
  cases e:Z p with
  | none=>rfl
  | some o=>exact absurd h (uM (r.zh p o e))
 f:=r.fr.free h
 l hm:=(r.lh p hm).1 h
 o i ob e q:=by
  obtain⟨a,h1,h2,h3,_⟩:=r.ow i ob e
  rw[h1]at q
  cases q
  exact jM h2 h3 h
theorem SR.xE(r:SR C Z loc s sv H){a:Addr}{o:HO}(e:H a=some o)(f:Free C Z loc s sv a):SR C (upd Z a o) loc s sv H:=by
 have g:Ext Z loc (upd Z a o) loc:=Ext.z (dQ f.z)
 refine⟨r.fr,fun b u h=>?_,fun b u h=>?_,r.lk,r.ln,r.nd,r.lh,fun n b ob h1 h2 h3=>?_,fun i x h=>?_,fun i ob h=>?_,r.oi,r.ls⟩
 ·by_cases hb:b=a
  ·subst hb
   rw[upd_same]at h
   cases h
   exact .inl e
  ·rw[upd_ne hb]at h
   exact r.zh b u h
 ·by_cases hb:b=a
  ·subst hb
   exact f.f
  ·rw[upd_ne hb]at h
   exact r.zf b u h
 ·obtain⟨q1,q2⟩:=r.cl n b ob h1 h2 h3
  have hb:b≠a:=fun z=>f.l (z▸List.mem_of_getElem? h1)
  exact⟨q1.mono g (Same.refl _),by rw[upd_ne hb];exact q2⟩
 ·obtain⟨v,h1,h2⟩:=r.vl i x h
  exact⟨v,h1,c7.mono g x h2⟩
 ·obtain⟨b,h1,h2,h3,h4,h5⟩:=r.ow i ob h
  have hb:b≠a:=fun z=>f.o i ob h (z▸h1)
  exact⟨b,h1,h2,h3.mono g (Same.refl _),by rw[upd_ne hb];exact h4,h5⟩
end
end Vw
namespace Vw
open PySem L2
def toDs:List Val→Option (List D)
 | []=>some []
 | .d x::r=>(toDs r).map (x:: ·)
 | _::_=>none
def toDK{κ:Type}:List (κ×Val)→Option (List (κ×D))
 | []=>some []
 | (k,.d x)::r=>(toDK r).map ((k,x):: ·)
 | _::_=>none
def Ob.toD:Ob→Option D
 | .lst l=>(toDs l).map .lst
 | .dic false l=>(toDK l).map .dic
 | .dit false l=>(toDK l).map .dit
 | .ins c fs=>(toDK fs).map (.ins c)
 | _=>none
@[simp] theorem toDs_map(xs:List D):toDs (xs.map .d)=some xs:=by
 induction xs with
 | nil=>rfl
 | cons x r ih=>simp[toDs,ih]
@[simp] theorem toDK_map{κ:Type}(xs:List (κ×D)):toDK (xs.map fun p=>(p.1,Val.d p.2))=some xs:=by
 induction xs with
 | nil=>rfl
 | cons x r ih=>obtain⟨k,x⟩:=x;simp[toDK,ih]
theorem toDs_inv:∀ {l:List Val} {ds:List D},toDs l=some ds→l=ds.map .d
 | [],ds,h=>by cases h;rfl
 | .d x::r,ds,h=>by
  obtain⟨t,e,rfl⟩:=Option.map_eq_some_iff.mp h
  rw[toDs_inv e];rfl
 | .r _::_,ds,h=>by cases h
 | .tp _::_,ds,h=>by cases h
theorem toDK_inv{κ:Type}:∀ {l:List (κ×Val)} {ds:List (κ×D)},toDK l=some ds→l=ds.map fun p=>(p.1,Val.d p.2)
 | [],ds,h=>by cases h;rfl
 | (k,.d x)::r,ds,h=>by
  obtain⟨t,e,rfl⟩:=Option.map_eq_some_iff.mp h
  rw[toDK_inv e];rfl
 | (_,.r _)::_,ds,h=>by cases h
 | (_,.tp _)::_,ds,h=>by cases h
section
variable{cA:String→Addr}{Z:Hp}{loc:List Addr}
theorem fB:∀ {ds:List D} {vs:List V},bc cA Z loc (ds.map .d) vs↔dC cA Z ds vs
 | [],vs=>Iff.rfl
 | d::ds,vs=>⟨fun⟨v,r,e,q,t⟩=>⟨v,r,e,q,fB.mp t⟩,fun⟨v,r,e,q,t⟩=>⟨v,r,e,q,fB.mpr t⟩⟩
theorem pb:∀ {ds:List (K0×D)} {vs:List (Key×V)},eD cA Z loc (ds.map fun p=>(p.1,Val.d p.2)) vs↔iU cA Z ds vs
 | [],vs=>Iff.rfl
 | (k,d)::ds,vs=>⟨fun⟨v,r,e,q,t⟩=>⟨v,r,e,q,pb.mp t⟩,fun⟨v,r,e,q,t⟩=>⟨v,r,e,q,pb.mpr t⟩⟩
theorem oK:∀ {ds:List (List K0×D)} {vs:List (List Key×V)},eJ cA Z loc (ds.map fun p=>(p.1,Val.d p.2)) vs↔lP cA Z ds vs
 | [],vs=>Iff.rfl
 | (k,d)::ds,vs=>⟨fun⟨v,r,e,q,t⟩=>⟨v,r,e,q,oK.mp t⟩,fun⟨v,r,e,q,t⟩=>⟨v,r,e,q,oK.mpr t⟩⟩
theorem sA:∀ {ds:List (String×D)} {vs:List (Str×V)},gh cA Z loc (ds.map fun p=>(p.1,Val.d p.2)) vs↔iV cA Z ds vs
 | [],vs=>Iff.rfl
 | (k,d)::ds,vs=>⟨fun⟨v,r,e,q,t⟩=>⟨v,r,e,q,sA.mp t⟩,fun⟨v,r,e,q,t⟩=>⟨v,r,e,q,sA.mpr t⟩⟩
theorem BK{H:Hp}{a:Addr}{o:Ob}{d:D}(h:Cell cA Z loc H a o)(e:o.toD=some d)(z:Z a=none):
  ∃ u,H a=some u∧cu cA (upd Z a u) d (.ref a):=by
 cases o with
 | lst l=>
  obtain⟨ds,e1,rfl⟩:=Option.map_eq_some_iff.mp e
  obtain⟨xs,h1,h2⟩:=h
  rw[toDs_inv e1]at h2
  exact⟨_,h1,a,xs,rfl,.inl upd_same,dC.mono (dQ z) ds (fB.mp h2)⟩
 | dic k l=>
  cases k with
  | true=>cases e
  | false=>
   obtain⟨ds,e1,rfl⟩:=Option.map_eq_some_iff.mp e
   obtain⟨xs,h1,h2⟩:=h
   rw[toDK_inv e1]at h2
   exact⟨_,h1,a,xs,rfl,upd_same,iU.mono (dQ z) ds (pb.mp h2)⟩
 | dit k l=>
  cases k with
  | true=>cases e
  | false=>
   obtain⟨ds,e1,rfl⟩:=Option.map_eq_some_iff.mp e
   obtain⟨xs,h1,h2⟩:=h
   rw[toDK_inv e1]at h2
   exact⟨_,h1,a,xs,rfl,upd_same,lP.mono (dQ z) ds (oK.mp h2)⟩
 | ins c l=>
  obtain⟨ds,e1,rfl⟩:=Option.map_eq_some_iff.mp e
  obtain⟨dx,xs,h1,h2⟩:=h
  rw[toDK_inv e1]at h2
  exact⟨_,h1,a,dx,xs,rfl,upd_same,iV.mono (dQ z) ds (sA.mp h2)⟩
 | gone=>cases e
end
def settle:RV→State→Res RV
 | .new o,s=>match o.toD with
  | some d=>.ok (.val (.d d)) s
  | none=>.stuck
 | r,s=>.ok r s
def jx(i:Nat)(s:State):Res Val:=
 match s.sg[i]? with
 | some (some (.own o))=>match o.toD with
  | some d=>.ok (.d d) { s with sg:=s.sg.set i (some (.v (.d d))) }
  | none=>.stuck
 | some (some (.v x))=>.ok x s
 | _=>.stuck
def eu:RV→State→Res Val
 | .val x,s=>.ok x s
 | .new o,s=>match o.toD with
  | some d=>.ok (.d d) s
  | none=>.stuck
 | .own i,s=>jx i s
section
variable{C:Cst}{Z Z':Hp}{loc loc':List Addr}{s s':State}{sv:L2.St}{H H':Hp}
theorem SR.settled(r:SR C Z loc s sv H){o:Ob}{v:V}{d:D}(h:da C Z loc s sv H (.new o) v)(e:o.toD=some d):∃ Z',Ext Z loc Z' loc∧SR C Z' loc s sv H∧c7 C.cA Z' loc (.d d) v:=by
 obtain⟨a,rfl,ne,h1,h2⟩:=h
 obtain⟨u,h3,h4⟩:=BK h1 e h2.z
 exact⟨_,Ext.z (dQ h2.z),r.xE h3 h2,h4⟩
theorem dV{α:Type}{l:List α}{i j:Nat}{x y:α}(h:(l.set i x)[j]? =some y):(i=j∧y=x)∨(i≠j∧l[j]? =some y):=by
 by_cases e:i=j
 ·subst e
  rw[List.getElem?_set]at h
  simp at h
  exact .inl ⟨rfl,h.2.symm⟩
 ·rw[List.getElem?_set_ne e]at h
  exact .inr ⟨e,h⟩
theorem SR.drop(r:SR C Z loc s sv H)(i:Nat):SR C Z loc { s with sg:=s.sg.set i none } sv H:=by
 refine⟨r.fr,r.zh,r.zf,r.lk,r.ln,r.nd,r.lh,r.cl,fun j x h=>?_,fun j o h=>?_,fun j k o o' a h1 h2=>?_,by simpa using r.ls⟩
 ·rcases dV h with⟨_,q⟩ | ⟨_,q⟩
  ·cases q
  ·exact r.vl j x q
 ·rcases dV h with⟨_,q⟩ | ⟨_,q⟩
  ·cases q
  ·exact r.ow j o q
 ·rcases dV h1 with⟨_,q⟩ | ⟨_,q⟩
  ·cases q
  ·rcases dV h2 with⟨_,q'⟩ | ⟨_,q'⟩
   ·cases q'
   ·exact r.oi j k o o' a q q'
theorem SR.BR(r:SR C Z loc s sv H){i:Nat}{o:Ob}{a:Addr}(h:s.sg[i]? =some (some (.own o)))(ha:sv[i]? =some (some (.ref a))):Free C Z loc { s with sg:=s.sg.set i none } sv a:=by
 obtain⟨b,h1,h2,h3,h4,h5,h6⟩:=r.ow i o h
 rw[ha]at h1
 cases h1
 refine⟨h4,h5,h6,fun j o' q e=>?_⟩
 rcases dV q with⟨_,q⟩ | ⟨ne,q⟩
 ·cases q
 ·exact ne (r.oi i j o o' a h q ha e)
theorem SR.Ez(r:SR C Z loc s sv H){i:Nat}{x:Val}{v:V}(h:sv[i]? =some (some v))(q:c7 C.cA Z loc x v):SR C Z loc { s with sg:=s.sg.set i (some (.v x)) } sv H:=by
 refine⟨r.fr,r.zh,r.zf,r.lk,r.ln,r.nd,r.lh,r.cl,fun j y h1=>?_,fun j o h1=>?_,fun j k o o' a h1 h2=>?_,by simpa using r.ls⟩
 ·rcases dV h1 with⟨rfl,e⟩ | ⟨_,e⟩
  ·cases e
   exact⟨v,h,q⟩
  ·exact r.vl j y e
 ·rcases dV h1 with⟨rfl,e⟩ | ⟨_,e⟩
  ·cases e
  ·exact r.ow j o e
 ·rcases dV h1 with⟨_,q⟩ | ⟨_,q⟩
  ·cases q
  ·rcases dV h2 with⟨_,q'⟩ | ⟨_,q'⟩
   ·cases q'
   ·exact r.oi j k o o' a q q'
theorem SR.I0(r:SR C Z loc s sv H){i:Nat}{o:Ob}{a:Addr}(h:sv[i]? =some (some (.ref a)))(ne:o≠ .gone)(q:Cell C.cA Z loc H a o)(f:Free C Z loc s sv a):SR C Z loc { s with sg:=s.sg.set i (some (.own o)) } sv H:=by
 refine⟨r.fr,r.zh,r.zf,r.lk,r.ln,r.nd,r.lh,r.cl,fun j y h1=>?_,fun j ob h1=>?_,fun j k ob ob' b h1 h2 h3 h4=>?_,by simpa using r.ls⟩
 ·rcases dV h1 with⟨rfl,e⟩ | ⟨_,e⟩
  ·cases e
  ·exact r.vl j y e
 ·rcases dV h1 with⟨rfl,e⟩ | ⟨_,e⟩
  ·cases e
   exact⟨a,h,ne,q,f.z,f.f,f.l⟩
  ·exact r.ow j ob e
 ·rcases dV h1 with⟨rfl,e⟩ | ⟨n1,e⟩
  ·rcases dV h2 with⟨rfl,e'⟩ | ⟨n2,e'⟩
   ·rfl
   ·rw[h]at h3
    cases h3
    exact absurd h4 (f.o k ob' e')
  ·rcases dV h2 with⟨rfl,e'⟩ | ⟨n2,e'⟩
   ·rw[h]at h4
    cases h4
    exact absurd h3 (f.o j ob e)
   ·exact r.oi j k ob ob' b e e' h3 h4
theorem sI{α:Type}(l:List α)(i:Nat)(x y:α):(l.set i x).set i y=l.set i y:=List.set_set ..
theorem SR.jx(r:SR C Z loc s sv H){i:Nat}{v:V}{x:Val}(h:sv[i]? =some (some v))(e:jx i s=.ok x s'):∃ Z',Ext Z loc Z' loc∧SR C Z' loc s' sv H∧c7 C.cA Z' loc x v:=by
 unfold Vw.jx at e
 split at e
 ·rename_i o ho
  split at e
  ·rename_i d hd
   cases e
   obtain⟨a,h1,h2,h3,h4⟩:=r.ow i o ho
   rw[h]at h1
   cases h1
   obtain⟨Z',g,r',q⟩:=(r.drop i).settled (v:=.ref a) ⟨a,rfl,h2,h3,r.BR ho h⟩ hd
   refine⟨Z',g,?_,q⟩
   have:=r'.Ez h q
   simpa [sI]using this
  ·cases e
 ·rename_i x' hx
  cases e
  obtain⟨v',h1,h2⟩:=r.vl i x hx
  rw[h]at h1
  cases h1
  exact⟨Z,Ext.refl _ _,r,h2⟩
 ·cases e
theorem SR.eu(r:SR C Z loc s sv H){rv:RV}{v:V}{x:Val}(h:da C Z loc s sv H rv v)(e:eu rv s=.ok x s'):∃ Z',Ext Z loc Z' loc∧SR C Z' loc s' sv H∧c7 C.cA Z' loc x v:=by
 cases rv with
 | val y=>cases e;exact⟨Z,Ext.refl _ _,r,h⟩
 | new o=>
  cases hd:o.toD with
  | none=>simp[Vw.eu,hd]at e
  | some d=>
   simp[Vw.eu,hd]at e
   obtain⟨rfl,rfl⟩:=e
   exact r.settled h hd
 | own i=>exact r.jx h e
theorem xC{rv:RV}{x:Exn}:eu rv s≠ .exc x s':=by
 unfold eu jx
 repeat' split
 all_goals simp
theorem vC{rv:RV}{x:Exn}:settle rv s≠ .exc x s':=by
 unfold settle
 repeat' split
 all_goals simp
def tJ:RV→Prop
 | .new _=>False
 | _=>True
theorem da.mono(h:Ext Z loc Z' loc'):∀ {rv:RV} {v:V},tJ rv→da C Z loc s sv H rv v→da C Z' loc' s' sv H' rv v
 | .val x,v,_,q=>c7.mono h x q
 | .own i,v,_,q=>q
 | .new o,v,z,_=>z.elim
theorem SR.settle(r:SR C Z loc s sv H){rv rv':RV}{v:V}(h:da C Z loc s sv H rv v)(e:settle rv s=.ok rv' s'):s'=s∧tJ rv'∧∃ Z',Ext Z loc Z' loc∧SR C Z' loc s sv H∧da C Z' loc s sv H rv' v:=by
 cases rv with
 | val y=>cases e;exact⟨rfl,trivial,Z,Ext.refl _ _,r,h⟩
 | own i=>cases e;exact⟨rfl,trivial,Z,Ext.refl _ _,r,h⟩
 | new o=>
  cases hd:o.toD with
  | none=>simp[Vw.settle,hd]at e
  | some d=>
   simp[Vw.settle,hd]at e
   obtain⟨rfl,rfl⟩:=e
   obtain⟨Z',g,r',q⟩:=r.settled h hd
   exact⟨rfl,trivial,Z',g,r',q⟩
end
def lH(C:Cst)(Z:Hp)(H:Hp)(x:Exn)(c:Value)(d:Option Addr):Prop:=
 c=.ref (C.cA x.c)∧match x.p with
  | none=>d=none
  | some p=>∃ dd v,d=some dd∧Z dd=some (.xd [(Str.ofString "place",v)])∧cu C.cA Z p v
inductive Fl where
 | nx
 | ret (r:RV)
 | brk
 | cnt
def EPost(C:Cst)(Z:Hp)(loc:List Addr)(sv:L2.St)(r:Res RV)(Q:VK):Prop:=
 match r with
 | .ok rv s'=>∀ Z' loc' H' v,Ext Z loc Z' loc'→SR C Z' loc' s' sv H'→da C Z' loc' s' sv H' rv v→Q v H'
 | .exc x s'=>∀ Z' loc' H' c d,Ext Z loc Z' loc'→SR C Z' loc' s' sv H'→lH C Z' H' x c d→C.W c d sv H'
 | .stuck=>False
def jz(C:Cst)(Z:Hp)(loc:List Addr)(s:State)(sv:L2.St)(H:Hp):List RV→List V→Prop
 | [],vs=>vs=[]
 | x::l,vs=>∃ v r,vs=v::r∧tJ x∧da C Z loc s sv H x v∧jz C Z loc s sv H l r
def oO(C:Cst)(Z:Hp)(loc:List Addr)(sv:L2.St)(r:Res (List RV))(Q:List V→Hp→Prop):Prop:=
 match r with
 | .ok rv s'=>∀ Z' loc' H' v,Ext Z loc Z' loc'→SR C Z' loc' s' sv H'→jz C Z' loc' s' sv H' rv v→Q v H'
 | .exc x s'=>∀ Z' loc' H' c d,Ext Z loc Z' loc'→SR C Z' loc' s' sv H'→lH C Z' H' x c d→C.W c d sv H'
 | .stuck=>False
def gN(C:Cst)(Z:Hp)(loc:List Addr)(sv:L2.St)(r:Res Bool)(Q:Bool→Hp→Prop):Prop:=
 match r with
 | .ok b s'=>∀ Z' loc' H',Ext Z loc Z' loc'→SR C Z' loc' s' sv H'→Q b H'
 | .exc x s'=>∀ Z' loc' H' c d,Ext Z loc Z' loc'→SR C Z' loc' s' sv H'→lH C Z' H' x c d→C.W c d sv H'
 | .stuck=>False
def dk(C:Cst)(Z:Hp)(loc:List Addr)(r:Res Fl)(D:Ends):Prop:=
 match r with
 | .ok .nx s'=>∀ Z' loc' sv' H',Ext Z loc Z' loc'→SR C Z' loc' s' sv' H'→D.nx sv' H'
 | .ok .brk s'=>∀ Z' loc' sv' H',Ext Z loc Z' loc'→SR C Z' loc' s' sv' H'→D.bk sv' H'
 | .ok .cnt s'=>∀ Z' loc' sv' H',Ext Z loc Z' loc'→SR C Z' loc' s' sv' H'→D.ct sv' H'
 | .ok (.ret rv) s'=>∀ Z' loc' sv' H' v,Ext Z loc Z' loc'→SR C Z' loc' s' sv' H'→da C Z' loc' s' sv' H' rv v→D.rt v H'
 | .exc x s'=>∀ Z' loc' sv' H' c d,Ext Z loc Z' loc'→SR C Z' loc' s' sv' H'→lH C Z' H' x c d→C.W c d sv' H'
 | .stuck=>False
def aA(C:Cst)(f:State→Res RV):TE:=fun sv H Q=>∃ Z loc s,SR C Z loc s sv H∧EPost C Z loc sv (f s) Q
def eR(C:Cst)(f:State→Res (List RV)):TA:=fun sv H Q=>∃ Z loc s,SR C Z loc s sv H∧oO C Z loc sv (f s) Q
def e6(C:Cst)(f:State→Res Bool):TT:=fun sv H Q=>∃ Z loc s,SR C Z loc s sv H∧gN C Z loc sv (f s) Q
def fK(C:Cst)(f:State→Res Fl):TS:=fun D sv H=>∃ Z loc s,SR C Z loc s sv H∧dk C Z loc (f s) D
section
variable{C:Cst}{Z Z':Hp}{loc loc':List Addr}{s:State}{sv:L2.St}{H:Hp}
theorem EPost.ext{r:Res RV}{Q:VK}(h:EPost C Z loc sv r Q)(g:Ext Z loc Z' loc'):EPost C Z' loc' sv r Q:=by
 cases r with
 | ok rv s'=>exact fun Z2 l2 H2 v g2=>h Z2 l2 H2 v (g.trans g2)
 | exc x s'=>exact fun Z2 l2 H2 c d g2=>h Z2 l2 H2 c d (g.trans g2)
 | stuck=>exact h
theorem EPost.imp{r:Res RV}{Q Q':VK}(h:EPost C Z loc sv r Q)(q:∀ v H,Q v H→Q' v H):EPost C Z loc sv r Q':=by
 cases r with
 | ok rv s'=>exact fun Z2 l2 H2 v g2 a b=>q _ _ (h Z2 l2 H2 v g2 a b)
 | exc x s'=>exact h
 | stuck=>exact h
theorem oO.ext{r:Res (List RV)}{Q:List V→Hp→Prop}(h:oO C Z loc sv r Q)(g:Ext Z loc Z' loc'):oO C Z' loc' sv r Q:=by
 cases r with
 | ok rv s'=>exact fun Z2 l2 H2 v g2=>h Z2 l2 H2 v (g.trans g2)
 | exc x s'=>exact fun Z2 l2 H2 c d g2=>h Z2 l2 H2 c d (g.trans g2)
 | stuck=>exact h
theorem gN.ext{r:Res Bool}{Q:Bool→Hp→Prop}(h:gN C Z loc sv r Q)(g:Ext Z loc Z' loc'):gN C Z' loc' sv r Q:=by
 cases r with
 | ok rv s'=>exact fun Z2 l2 H2 g2=>h Z2 l2 H2 (g.trans g2)
 | exc x s'=>exact fun Z2 l2 H2 c d g2=>h Z2 l2 H2 c d (g.trans g2)
 | stuck=>exact h
theorem dk.ext{r:Res Fl}{D:Ends}(h:dk C Z loc r D)(g:Ext Z loc Z' loc'):dk C Z' loc' r D:=by
 cases r with
 | ok f s'=>
  cases f with
  | nx=>exact fun Z2 l2 v2 H2 g2=>h Z2 l2 v2 H2 (g.trans g2)
  | brk=>exact fun Z2 l2 v2 H2 g2=>h Z2 l2 v2 H2 (g.trans g2)
  | cnt=>exact fun Z2 l2 v2 H2 g2=>h Z2 l2 v2 H2 (g.trans g2)
  | ret rv=>exact fun Z2 l2 v2 H2 v g2=>h Z2 l2 v2 H2 v (g.trans g2)
 | exc x s'=>exact fun Z2 l2 v2 H2 c d g2=>h Z2 l2 v2 H2 c d (g.trans g2)
 | stuck=>exact h
theorem aA.qZ{f:State→Res RV}{k:RV→State→Res RV}{Q:VK}(r:SR C Z loc s sv H)(h:EPost C Z loc sv ((f s).bind k) Q):
  aA C f sv H (fun v H'=>∃ Z' loc' s' rv,Ext Z loc Z' loc'∧SR C Z' loc' s' sv H'∧da C Z' loc' s' sv H' rv v∧EPost C Z' loc' sv (k rv s') Q):=by
 refine⟨Z,loc,s,r,?_⟩
 cases e:f s with
 | ok rv s'=>rw[e]at h;exact fun Z' loc' H' v g r' q=>⟨Z',loc',s',rv,g,r',q,EPost.ext h g⟩
 | exc x s'=>rw[e]at h;exact h
 | stuck=>rw[e]at h;exact h
theorem aA.oU{f:State→Res RV}{k:RV→State→Res Fl}{D:Ends}(r:SR C Z loc s sv H)(h:dk C Z loc ((f s).bind k) D):
  aA C f sv H (fun v H'=>∃ Z' loc' s' rv,Ext Z loc Z' loc'∧SR C Z' loc' s' sv H'∧da C Z' loc' s' sv H' rv v∧dk C Z' loc' (k rv s') D):=by
 refine⟨Z,loc,s,r,?_⟩
 cases e:f s with
 | ok rv s'=>rw[e]at h;exact fun Z' loc' H' v g r' q=>⟨Z',loc',s',rv,g,r',q,dk.ext h g⟩
 | exc x s'=>rw[e]at h;exact fun Z' loc' H' c d=>h Z' loc' sv H' c d
 | stuck=>rw[e]at h;exact h
theorem eR.qZ{f:State→Res (List RV)}{k:List RV→State→Res RV}{Q:VK}(r:SR C Z loc s sv H)(h:EPost C Z loc sv ((f s).bind k) Q):
  eR C f sv H (fun v H'=>∃ Z' loc' s' rv,Ext Z loc Z' loc'∧SR C Z' loc' s' sv H'∧jz C Z' loc' s' sv H' rv v∧EPost C Z' loc' sv (k rv s') Q):=by
 refine⟨Z,loc,s,r,?_⟩
 cases e:f s with
 | ok rv s'=>rw[e]at h;exact fun Z' loc' H' v g r' q=>⟨Z',loc',s',rv,g,r',q,EPost.ext h g⟩
 | exc x s'=>rw[e]at h;exact h
 | stuck=>rw[e]at h;exact h
theorem e6.qZ{f:State→Res Bool}{k:Bool→State→Res RV}{Q:VK}(r:SR C Z loc s sv H)(h:EPost C Z loc sv ((f s).bind k) Q):
  e6 C f sv H (fun b H'=>∃ Z' loc' s',Ext Z loc Z' loc'∧SR C Z' loc' s' sv H'∧EPost C Z' loc' sv (k b s') Q):=by
 refine⟨Z,loc,s,r,?_⟩
 cases e:f s with
 | ok rv s'=>rw[e]at h;exact fun Z' loc' H' g r'=>⟨Z',loc',s',g,r',EPost.ext h g⟩
 | exc x s'=>rw[e]at h;exact h
 | stuck=>rw[e]at h;exact h
theorem e6.oU{f:State→Res Bool}{k:Bool→State→Res Fl}{D:Ends}(r:SR C Z loc s sv H)(h:dk C Z loc ((f s).bind k) D):
  e6 C f sv H (fun b H'=>∃ Z' loc' s',Ext Z loc Z' loc'∧SR C Z' loc' s' sv H'∧dk C Z' loc' (k b s') D):=by
 refine⟨Z,loc,s,r,?_⟩
 cases e:f s with
 | ok rv s'=>rw[e]at h;exact fun Z' loc' H' g r'=>⟨Z',loc',s',g,r',dk.ext h g⟩
 | exc x s'=>rw[e]at h;exact fun Z' loc' H' c d=>h Z' loc' sv H' c d
 | stuck=>rw[e]at h;exact h
theorem aA.imp{f:State→Res RV}{Q Q':VK}(h:aA C f sv H Q)(q:∀ v H,Q v H→Q' v H):aA C f sv H Q':=by
 obtain⟨Z,loc,s,r,h⟩:=h
 exact⟨Z,loc,s,r,h.imp q⟩
theorem eR.imp{f:State→Res (List RV)}{Q Q':List V→Hp→Prop}(h:eR C f sv H Q)(q:∀ v H,Q v H→Q' v H):eR C f sv H Q':=by
 obtain⟨Z,loc,s,r,h⟩:=h
 refine⟨Z,loc,s,r,?_⟩
 cases e:f s with
 | ok rv s'=>rw[e]at h;exact fun Z2 l2 H2 v g2 a b=>q _ _ (h Z2 l2 H2 v g2 a b)
 | exc x s'=>rw[e]at h;exact h
 | stuck=>rw[e]at h;exact h
theorem e6.imp{f:State→Res Bool}{Q Q':Bool→Hp→Prop}(h:e6 C f sv H Q)(q:∀ v H,Q v H→Q' v H):e6 C f sv H Q':=by
 obtain⟨Z,loc,s,r,h⟩:=h
 refine⟨Z,loc,s,r,?_⟩
 cases e:f s with
 | ok rv s'=>rw[e]at h;exact fun Z2 l2 H2 g2 a=>q _ _ (h Z2 l2 H2 g2 a)
 | exc x s'=>rw[e]at h;exact h
 | stuck=>rw[e]at h;exact h
end
theorem c6{X:Cx}{e:Expr}{t t':TE}(h:PE X e t)(m:∀ sv H Q,t' sv H Q→t sv H Q):PE X e t':=⟨fun pins s sv H Q I q=>h.run pins s sv H Q I (m sv H Q q)⟩
theorem yQ{X:Cx}{e:List Expr}{t t':TA}(h:PA X e t)(m:∀ sv H Q,t' sv H Q→t sv H Q):PA X e t':=⟨fun pos pins s sv H Q I q=>h.run pos pins s sv H Q I (m sv H Q q)⟩
theorem rq{X:Cx}{e:Expr}{t t':TT}(h:PT X e t)(m:∀ sv H Q,t' sv H Q→t sv H Q):PT X e t':=⟨fun pins s sv H Q I q=>h.run pins s sv H Q I (m sv H Q q)⟩
theorem iC{X:Cx}{e:Stmt}{t t':TS}(h:PS X e t)(m:∀ D sv H,t' D sv H→t D sv H):PS X e t':=⟨fun pins s sv H D I q=>h.run pins s sv H D I (m D sv H q)⟩
theorem xZ{X:Cx}{e:List Stmt}{t t':TS}(h:PSs X e t)(m:∀ D sv H,t' D sv H→t D sv H):PSs X e t':=⟨fun pins s sv H D I q=>h.run pins s sv H D I (m D sv H q)⟩
end Vw
namespace Vw
open PySem L2 PyProof.Rows
section
variable{X:Cx}
theorem HD:OpR X (binaryOp .Add) (fun x y H Q=>∃ l b xs zs,x=.ref l∧y=.ref b∧Rd H l (.lst xs)∧Rd H b (.lst zs)∧xs.length+zs.length≤sizeLine∧∀ p,H p=none→Q (.ref p) (upd H p (.lst (xs++zs)))):=by
 intro pins s σ H x y v u Q I rx ry h
 obtain⟨l,b,xs,zs,rfl,rfl,hH,hB,hz,q⟩:=h
 cases rx
 cases ry
 obtain⟨z,its,n,r,e⟩:=hH.ok I.hok
 obtain⟨z2,its2,n2,r2,e2⟩:=hB.ok I.hok
 have hl:=r.length
 have hl2:=r2.length
 refine PySem.P.add_list e e2 ?_ (by rw[List.size_toArray,List.size_toArray];omega)
 have ea:its.toArray++its2.toArray=(its++its2).toArray:=by simp
 rw[ea]
 exact⟨.ref _,_,I.lnew (t':=s.toks) (r.append r2) (by rw[List.length_append];omega),rfl,q _ I.fresh⟩
def Ct(K:PySem.W.Frag)(n:Bool):R2:=fun x y H Q=>∃ d e,Dp K H x d∧Dp K H y e∧d.plain=true∧e.plain=true∧min d.depth e.depth≤60∧Q (.bl (xor n (PyData.eqv d e))) H
theorem Jg(hu:X.A.units+64<cLine):OpR X (compareOp .Eq) (Ct X.K false):=by
 intro pins s σ H x y v u Q I rx ry h
 obtain⟨d,e,hd,he,sd,se,dp,q⟩:=h
 obtain⟨as,r1⟩:=Dp.reads I d x v hd rx
 obtain⟨bs,r2⟩:=Dp.reads I e y u he ry
 exact SeqAt.eq_plain r1 r2 sd se (by omega) ⟨.bl _,H,I,by simp[L2.RelV],q⟩
theorem Gb(hu:X.A.units+64<cLine):OpR X (compareOp .NotEq) (Ct X.K true):=by
 intro pins s σ H x y v u Q I rx ry h
 obtain⟨d,e,hd,he,sd,se,dp,q⟩:=h
 obtain⟨as,r1⟩:=Dp.reads I d x v hd rx
 obtain⟨bs,r2⟩:=Dp.reads I e y u he ry
 exact SeqAt.ne_plain r1 r2 sd se (by omega) ⟨.bl _,H,I,by simp[L2.RelV],q⟩
def rIn(K:PySem.W.Frag)(n:Bool):R2:=fun x y H Q=>∃ d l,Dp K H x d∧(Dp K H y (.list l)∨Dp K H y (.tuple l))∧d.plain=true∧PyData.plainAll l=true∧min (PyData.depthAll l) d.depth≤60∧Q (.bl (xor n (l.any fun y=>PyData.eqv y d))) H
theorem I7(hu:X.A.units+64<cLine):OpR X (compareOp .In) (rIn X.K false):=by
 intro pins s σ H x y v u Q I rx ry h
 obtain⟨d,l,hd,he,sd,se,dp,q⟩:=h
 obtain⟨as,r1⟩:=Dp.reads I d x v hd rx
 rcases he with he | he
 ·obtain⟨bs,r2⟩:=Dp.reads I _ y u he ry
  exact SeqAt.in_list_data r2 r1 se sd (by omega) ⟨.bl _,H,I,by simp[L2.RelV],q⟩
 ·obtain⟨bs,r2⟩:=Dp.reads I _ y u he ry
  exact SeqAt.in_tuple_data r2 r1 se sd (by omega) ⟨.bl _,H,I,by simp[L2.RelV],q⟩
theorem GY(hu:X.A.units+64<cLine):OpR X (compareOp .NotIn) (rIn X.K true):=by
 intro pins s σ H x y v u Q I rx ry h
 obtain⟨d,l,hd,he,sd,se,dp,q⟩:=h
 obtain⟨as,r1⟩:=Dp.reads I d x v hd rx
 rcases he with he | he
 ·obtain⟨bs,r2⟩:=Dp.reads I _ y u he ry
  exact SeqAt.notIn_list_data r2 r1 se sd (by omega) ⟨.bl _,H,I,by simp[L2.RelV],q⟩
 ·obtain⟨bs,r2⟩:=Dp.reads I _ y u he ry
  exact SeqAt.notIn_tuple_data r2 r1 se sd (by omega) ⟨.bl _,H,I,by simp[L2.RelV],q⟩
def B4(n:Bool):R2:=fun y x H Q=>∃ a o,x=.ref a∧DGet H a y o∧Q (.bl (xor n o.isSome)) H
theorem GL(hu:X.A.units+64<cLine):OpR X (compareOp .In) (B4 false):=by
 intro pins s σ H x y v u Q I rx ry h
 obtain⟨a,o,rfl,g,q⟩:=h
 cases ry
 exact d_in (by omega) I g rx fun s' I'=>⟨.bl _,H,I',by simp[L2.RelV],q⟩
theorem Eg(hu:X.A.units+64<cLine):OpR X (compareOp .NotIn) (B4 true):=by
 intro pins s σ H x y v u Q I rx ry h
 obtain⟨a,o,rfl,g,q⟩:=h
 cases ry
 exact d_notIn (by omega) I g rx fun s' I'=>⟨.bl _,H,I',by simp[L2.RelV],q⟩
def rIxD:R2:=fun x y H Q=>∃ a v,x=.ref a∧DGet H a y (some v)∧Q v H
theorem GZ(hu:X.A.units+64<cLine):IxR X rIxD:=by
 intro value slice pins s σ H x y v u Q I rx ry h hs
 obtain⟨a,z,rfl,g,q⟩:=h
 cases rx
 have hT:=dict_typeIs I g
 unfold subscriptTail
 refine wpAny_bind ?_
 rw[getitemInPython_of_ne hT.not_modules]
 refine wpAny_bind (wpAny_specialOf hT PySem.F.slot_dict_getitem.lookup ?_)
 have fin:wpAny (model X.prog X.w) X.A (subscripted slice false (.ref a) u) (fun r s₃=>wpAny (model X.prog X.w) X.A (letTemporaryGo value (.ref a) r >>= fun _=>pure r) (EP X pins σ Q) X.xe s₃) X.xe s:=by
  rw[hs]
  exact wpAny_operating (d_getItem (by omega) I g ry fun w' s3 I3 rw'=>wpAny_bind (wpAny_letTemporaryGo (wpAny_pure ⟨z,H,I3,rw',q⟩)))
 first
  | exact wpAny_pure (wpAny_bind fin)
  | exact wpAny_bind (wpAny_pure (wpAny_bind fin))
  | exact wpAny_bind fin
end
def st(l:List Nat):Str:=⟨l.toArray⟩
mutual
def pd:D→PyData
 | .non=>.none
 | .bl b=>.bool b
 | .int i=>.int i
 | .str s=>.str (st s)
 | .tup l=>.tuple (fG l)
 | .lst l=>.list (fG l)
 | _=>.dict []
def fG:List D→List PyData
 | []=>[]
 | x::r=>pd x::fG r
end
mutual
theorem wy{C:Cst}{K:PySem.W.Frag}{Z:Hp}{loc:List Addr}{s:State}{sv:L2.St}{H:Hp}(r:SR C Z loc s sv H):∀ (d:D) {v:V},cu C.cA Z d v→(pd d).plain=true→Dp K H v (pd d)
 | .non,v,q,_=>by rw[show v=_ from q];exact .non
 | .bl _,v,q,_=>by rw[show v=_ from q];exact .bl _
 | .int _,v,q,_=>by rw[show v=_ from q];exact .int _
 | .str _,v,q,_=>by rw[show v=_ from q];exact .str _
 | .tup l,v,⟨a,vs,e,z,q⟩,p=>by
  rw[e]
  exact .tup (.inl (r.zh a _ z).rd) (tf r l q p)
 | .lst l,v,⟨a,vs,e,z,q⟩,p=>by
  rw[e]
  refine .lst (.inl ?_) (tf r l q p)
  rcases z with z | ⟨o,z⟩
  ·exact(r.zh a _ z).rd
  ·exact .inr ⟨o,(r.zh a _ z).at rfl⟩
 | .dic _,v,_,p=>by cases p
 | .dit _,v,_,p=>by cases p
 | .ins _ _,v,_,p=>by cases p
 | .exc _ _,v,_,p=>by cases p
theorem tf{C:Cst}{K:PySem.W.Frag}{Z:Hp}{loc:List Addr}{s:State}{sv:L2.St}{H:Hp}(r:SR C Z loc s sv H):∀ (l:List D) {vs:List V},dC C.cA Z l vs→PyData.plainAll (fG l)=true→DpAll K H vs (fG l)
 | [],vs,q,_=>by rw[show vs=_ from q];exact .nil
 | d::l,vs,⟨v,t,e,q1,q2⟩,p=>by
  rw[e]
  have p':(pd d).plain=true∧PyData.plainAll (fG l)=true:=by simpa [fG,PyData.plainAll]using p
  exact .cons (wy r d q1 p'.1) (tf r l q2 p'.2)
end
def iy(x y:D):Bool:=PyData.eqv (pd x) (pd y)
def dM(x y:D):Bool:=(pd x).plain&&(pd y).plain&&decide (min (pd x).depth (pd y).depth≤60)
def jJ(s:State):RV→RV
 | .own i=>match s.sg[i]? with
  | some (some (.v x))=>.val x
  | _=>.own i
 | r=>r
def dv(s:State)(r:RV):Option D:=
 match jJ s r with
 | .val (.d x)=>some x
 | _=>none
def ob(s:State)(r:RV):Option Ob:=
 match jJ s r with
 | .own i=>match s.sg[i]? with
  | some (some (.own o))=>some o
  | _=>none
 | .val (.r n)=>match s.st[n]? with
  | some .gone=>none
  | some o=>some o
  | none=>none
 | _=>none
def lv(s:State)(r:RV):Option (List Val):=
 match dv s r with
 | some (.lst l)=>some (l.map .d)
 | some _=>none
 | none=>match ob s r with
  | some (.lst l)=>some l
  | _=>none
def tv(s:State)(r:RV):Option (List Val):=
 match jJ s r with
 | .val (.d (.tup l))=>some (l.map .d)
 | .val (.tp l)=>some l
 | _=>none
def kn(s:State)(r:RV):Option D:=
 match dv s r with
 | some d=>some d
 | none=>match ob s r with
  | some (.lst l)=>(toDs l).map .lst
  | _=>none
section
variable{C:Cst}{Z:Hp}{loc:List Addr}{s:State}{sv:L2.St}{H:Hp}
theorem SR.jJ(r:SR C Z loc s sv H){rv:RV}{v:V}(h:da C Z loc s sv H rv v):da C Z loc s sv H (jJ s rv) v:=by
 cases rv with
 | val x=>exact h
 | new o=>exact h
 | own i=>
  unfold Vw.jJ
  dsimp only
  split
  ·rename_i x e
   obtain⟨v',h1,h2⟩:=r.vl i x e
   rw[show sv[i]? =some (some v)from h]at h1
   cases h1
   exact h2
  ·exact h
theorem SR.dv(r:SR C Z loc s sv H){rv:RV}{v:V}{x:D}(h:da C Z loc s sv H rv v)(e:dv s rv=some x):cu C.cA Z x v:=by
 have q:=r.jJ h
 unfold Vw.dv at e
 split at e
 ·rename_i y e1
  cases e
  rw[e1]at q
  exact q
 ·cases e
theorem SR.ob(r:SR C Z loc s sv H){rv:RV}{v:V}{o:Ob}(h:da C Z loc s sv H rv v)(e:ob s rv=some o):∃ a,v=.ref a∧o≠ .gone∧Cell C.cA Z loc H a o:=by
 have q:=r.jJ h
 unfold Vw.ob at e
 split at e
 ·rename_i i e1
  rw[e1]at q
  split at e
  ·rename_i o' e2
   cases e
   obtain⟨a,h1,h2,h3,_⟩:=r.ow i _ e2
   rw[show sv[i]? =some (some v)from q]at h1
   cases h1
   exact⟨a,rfl,h2,h3⟩
  ·cases e
 ·rename_i n e1
  rw[e1]at q
  obtain⟨a,h1,h2⟩:=q
  split at e
  ·cases e
  ·rename_i o' ne e2
   cases e
   exact⟨a,h2,ne,(r.cl n a _ h1 e2 ne).1⟩
  ·cases e
 ·cases e
theorem SR.lv(r:SR C Z loc s sv H){rv:RV}{v:V}{l:List Val}(h:da C Z loc s sv H rv v)(e:lv s rv=some l):∃ a xs,v=.ref a∧Rd H a (.lst xs)∧bc C.cA Z loc l xs:=by
 unfold Vw.lv at e
 split at e
 ·rename_i l' e1
  cases e
  obtain⟨a,vs,h1,h2,h3⟩:=r.dv h e1
  refine⟨a,vs,h1,?_,fB.mpr h3⟩
  rcases h2 with z | ⟨o,z⟩
  ·exact(r.zh a _ z).rd
  ·exact .inr ⟨o,(r.zh a _ z).at rfl⟩
 ·cases e
 ·split at e
  ·rename_i l' e1
   cases e
   obtain⟨a,h1,_,xs,h2,h3⟩:=r.ob h e1
   exact⟨a,xs,h1,.inl h2,h3⟩
  ·cases e
theorem SR.tv(r:SR C Z loc s sv H){rv:RV}{v:V}{l:List Val}(h:da C Z loc s sv H rv v)(e:tv s rv=some l):∃ a xs,v=.ref a∧H a=some (.tup xs)∧bc C.cA Z loc l xs:=by
 have q:=r.jJ h
 unfold Vw.tv at e
 split at e
 ·rename_i l' e1
  cases e
  rw[e1]at q
  obtain⟨a,vs,h1,h2,h3⟩:=q
  exact⟨a,vs,h1,(r.zh a _ h2).at rfl,fB.mpr h3⟩
 ·rename_i l' e1
  cases e
  rw[e1]at q
  obtain⟨a,vs,h1,h2,h3⟩:=q
  exact⟨a,vs,h1,(r.zh a _ h2).at rfl,h3⟩
 ·cases e
theorem SR.kn(r:SR C Z loc s sv H){K:PySem.W.Frag}{rv:RV}{v:V}{d:D}(h:da C Z loc s sv H rv v)(e:kn s rv=some d)(p:(pd d).plain=true):Dp K H v (pd d):=by
 unfold Vw.kn at e
 split at e
 ·rename_i d' e1
  cases e
  exact wy r _ (r.dv h e1) p
 ·split at e
  ·rename_i l e1
   obtain⟨ds,e2,rfl⟩:=Option.map_eq_some_iff.mp e
   obtain⟨a,h1,_,xs,h2,h3⟩:=r.ob h e1
   rw[h1]
   rw[toDs_inv e2]at h3
   exact .lst (.inl (.inl h2)) (tf r ds (fB.mp h3) p)
  ·cases e
end
end Vw
namespace Vw
open PySem L2 PyProof.Rows
def a0(x:D)(s:State):Res RV:=.ok (.val (.d x)) s
inductive Bop where
 | add | sub | mul | fdiv | mod | pow
 deriving DecidableEq
def Bop.py:Bop→Operator
 | .add=>.Add
 | .sub=>.Sub
 | .mul=>.Mult
 | .fdiv=>.FloorDiv
 | .mod=>.Mod
 | .pow=>.Pow
def o7(x y:RV)(s:State):Res RV:=
 match dv s x,dv s y with
 | some (.int i),some (.int j)=>a0 (.int (i+j)) s
 | some (.str a),some (.str b)=>if a.length+b.length≤sizeLine then a0 (.str (a++b)) s else .stuck
 | _,_=>match lv s x,lv s y with
  | some l,some m=>if l.length+m.length≤sizeLine then .ok (.new (.lst (l++m))) s else .stuck
  | _,_=>.stuck
def ux(x y:RV)(s:State):Res RV:=
 match dv s x,dv s y with
 | some (.int i),some (.int j)=>if i.natAbs.log2+j.natAbs.log2<1000000 then a0 (.int (i*j)) s else .stuck
 | some (.str a),some (.int j)=>if 0≤j∧j<1000000∧a.length*j.toNat≤1000000 then a0 (.str (List.replicate j.toNat a).flatten) s else .stuck
 | _,_=>.stuck
def binop:Bop→RV→RV→State→Res RV
 | .add,x,y,s=>o7 x y s
 | .mul,x,y,s=>ux x y s
 | .sub,x,y,s=>match dv s x,dv s y with
  | some (.int i),some (.int j)=>a0 (.int (i-j)) s
  | _,_=>.stuck
 | .fdiv,x,y,s=>match dv s x,dv s y with
  | some (.int i),some (.int j)=>if 0<j∧j.natAbs.log2<9000 then a0 (.int (i/j)) s else .stuck
  | _,_=>.stuck
 | .mod,x,y,s=>match dv s x,dv s y with
  | some (.int i),some (.int j)=>if 0<j then a0 (.int (i%j)) s else .stuck
  | _,_=>.stuck
 | .pow,x,y,s=>match dv s x,dv s y with
  | some (.int i),some (.int j)=>if 0≤j∧j≤1000000∧i.natAbs<2^64 then a0 (.int (i^j.toNat)) s else .stuck
  | _,_=>.stuck
inductive Cop where
 | eq | ne | lt | le | gt | ge | is | isn | isin | notin
 deriving DecidableEq
def Cop.py:Cop→CmpOp
 | .eq=>.Eq
 | .ne=>.NotEq
 | .lt=>.Lt
 | .le=>.LtE
 | .gt=>.Gt
 | .ge=>.GtE
 | .is=>.Is
 | .isn=>.IsNot
 | .isin=>.In
 | .notin=>.NotIn
def subIn(a b:List Nat):Bool:= !(Builtin.Str.occurrences (st b) (st a) 0 b.length 1).isEmpty
def zI(a b:List Nat):Bool:=decide (a<b)
def uW(s:State)(x y:RV)(f:Int→Int→Bool)(g:List Nat→List Nat→Bool):Option Bool:=
 match dv s x,dv s y with
 | some (.int i),some (.int j)=>some (f i j)
 | some (.str a),some (.str b)=>some (g a b)
 | _,_=>none
def x7:D→Option K0
 | .int i=>some (.i i)
 | .str t=>some (.s t)
 | _=>none
def wQ:List D→Option (List K0)
 | []=>some []
 | d::r=>match x7 d,wQ r with
  | some k,some t=>some (k::t)
  | _,_=>none
def lG{κ α:Type}[DecidableEq κ](l:List (κ×α))(k:κ):Option α:=(l.find? fun p=>decide (p.1=k)).map (·.2)
def uG{κ α:Type}[DecidableEq κ](l:List (κ×α))(k:κ)(v:α):List (κ×α):=
 if l.any fun p=>decide (p.1=k)then l.map (fun p=>if p.1=k then(p.1,v)else p)else l++[(k,v)]
def og(s:State)(r:RV):Option (List (K0×Val)):=
 match dv s r with
 | some (.dic l)=>some (l.map fun p=>(p.1,.d p.2))
 | some _=>none
 | none=>match ob s r with
  | some (.dic _ l)=>some l
  | _=>none
def sj(s:State)(r:RV):Option (List (List K0×Val)):=
 match dv s r with
 | some (.dit l)=>some (l.map fun p=>(p.1,.d p.2))
 | some _=>none
 | none=>match ob s r with
  | some (.dit _ l)=>some l
  | _=>none
def jA(s:State)(x k:RV):Option (Option Val):=
 match og s x,dv s k with
 | some l,some d=>(x7 d).map (lG l)
 | _,_=>match sj s x,dv s k with
  | some l,some (.tup ks)=>(wQ ks).map (lG l)
  | _,_=>none
def inD(s:State)(x y:RV):Option Bool:=
 match jA s y x with
 | some o=>some o.isSome
 | none=>match dv s x,dv s y with
  | some (.str a),some (.str b)=>some (subIn a b)
  | _,_=>match kn s x,kn s y with
   | some d,some (.lst l)=>if(pd d).plain&&PyData.plainAll (fG l)&&decide (min (PyData.depthAll (fG l)) (pd d).depth≤60)then some (l.any fun y=>iy y d)else none
   | some d,some (.tup l)=>if(pd d).plain&&PyData.plainAll (fG l)&&decide (min (PyData.depthAll (fG l)) (pd d).depth≤60)then some (l.any fun y=>iy y d)else none
   | _,_=>none
def Cm(s:State)(x y:RV):Option Bool:=
 match dv s y with
 | some .non=>match dv s x with
  | some .non=>some true
  | some _=>some false
  | none=>match ob s x with
   | some _=>some false
   | none=>(tv s x).map fun _=>false
 | _=>none
def tj(s:State)(x y:RV):Option Bool:=
 match kn s x,kn s y with
 | some a,some b=>if dM a b then some (iy a b)else none
 | _,_=>none
def ip:Cop→State→RV→RV→Option Bool
 | .eq,s,x,y=>tj s x y
 | .ne,s,x,y=>(tj s x y).map not
 | .lt,s,x,y=>uW s x y (fun i j=>decide (i<j)) zI
 | .le,s,x,y=>uW s x y (fun i j=>decide (i≤j)) fun a b=> !zI b a
 | .gt,s,x,y=>uW s x y (fun i j=>decide (j<i)) fun a b=>zI b a
 | .ge,s,x,y=>uW s x y (fun i j=>decide (j≤i)) fun a b=> !zI a b
 | .is,s,x,y=>Cm s x y
 | .isn,s,x,y=>(Cm s x y).map not
 | .isin,s,x,y=>inD s x y
 | .notin,s,x,y=>(inD s x y).map not
def tQ(C:Cst)(f:RV→RV→State→Res RV)(r:R2):Prop:=
 ∀ Z loc s sv H x y u v Q,SR C Z loc s sv H→da C Z loc s sv H x u→da C Z loc s sv H y v→EPost C Z loc sv (f x y s) Q→r u v H Q
def F8(C:Cst)(f:State→RV→RV→Option Bool)(r:R2):Prop:=
 ∀ Z loc s sv H x y u v b Q,SR C Z loc s sv H→da C Z loc s sv H x u→da C Z loc s sv H y v→f s x y=some b→Q (.bl b) H→r u v H Q
section
variable{C:Cst}{Z:Hp}{loc:List Addr}{s:State}{sv:L2.St}{H:Hp}{Q:VK}
theorem EPost.val{x:Val}{v:V}(h:EPost C Z loc sv (.ok (.val x) s) Q)(r:SR C Z loc s sv H)(q:c7 C.cA Z loc x v):Q v H:=h Z loc H v (Ext.refl _ _) r q
theorem EPost.a0{x:D}{v:V}(h:EPost C Z loc sv (a0 x s) Q)(r:SR C Z loc s sv H)(q:cu C.cA Z x v):Q v H:=EPost.val h r q
theorem EPost.new{o:Ob}{u:HO}{p:Addr}(h:EPost C Z loc sv (.ok (.new o) s) Q)(r:SR C Z loc s sv H)(np:H p=none)(ne:o≠ .gone)(q:Cell C.cA Z loc (upd H p u) p o):Q (.ref p) (upd H p u):=
 h Z loc _ _ (Ext.refl _ _) (r.grow (dQ np)) ⟨p,rfl,ne,q,r.free np⟩
theorem du:∀ {l:List Val} {xs:List V},bc C.cA Z loc l xs→l.length=xs.length
 | [],xs,h=>by rw[show xs=_ from h];rfl
 | x::l,xs,⟨v,r,e,q,t⟩=>by rw[e,List.length_cons,List.length_cons,du t]
theorem nA:∀ {l m:List Val} {xs ys:List V},bc C.cA Z loc l xs→bc C.cA Z loc m ys→bc C.cA Z loc (l++m) (xs++ys)
 | [],m,xs,ys,h,g=>by rw[show xs=_ from h];exact g
 | x::l,m,xs,ys,⟨v,r,e,q,t⟩,g=>by rw[e];exact⟨v,r++ys,rfl,q,nA t g⟩
theorem De:tQ C o7 (fun x y H Q=>rI0 (fun i j=>.int (i+j)) x y H Q∨((∃ i j,x=.str i∧y=.str j∧i.length+j.length≤sizeLine∧Q (.str (i++j)) H)∨
  ∃ l b xs zs,x=.ref l∧y=.ref b∧Rd H l (.lst xs)∧Rd H b (.lst zs)∧xs.length+zs.length≤sizeLine∧∀ p,H p=none→Q (.ref p) (upd H p (.lst (xs++zs))))):=by
 intro Z loc s sv H x y u v Q r hx hy h
 unfold o7 at h
 split at h
 ·rename_i i j e1 e2
  exact .inl ⟨i,j,r.dv hx e1,r.dv hy e2,h.a0 r rfl⟩
 ·rename_i a b e1 e2
  split at h
  ·rename_i hl
   refine .inr (.inl ⟨⟨a.toArray⟩,⟨b.toArray⟩,r.dv hx e1,r.dv hy e2,by simpa [Str.length]using hl,h.a0 r ?_⟩)
   show V.str _=V.str _
   congr 1
   show Str.mk (a.toArray++b.toArray)=_
   simp
  ·exact h.elim
 ·split at h
  ·rename_i l m e1 e2
   split at h
   ·rename_i hl
    obtain⟨a,xs,h1,h2,h3⟩:=r.lv hx e1
    obtain⟨b,ys,h4,h5,h6⟩:=r.lv hy e2
    refine .inr (.inr ⟨a,b,xs,ys,h1,h4,h2,h5,by rw[←du h3,←du h6];exact hl,fun p np=>h.new r np (by simp) ⟨_,upd_same,nA h3 h6⟩⟩)
   ·exact h.elim
  ·exact h.elim
end
section
variable{X:Cx}
theorem Hu:OpR X (binaryOp .Add) (fun x y H Q=>rI0 (fun i j=>.int (i+j)) x y H Q∨((∃ i j,x=.str i∧y=.str j∧i.length+j.length≤sizeLine∧Q (.str (i++j)) H)∨
  ∃ l b xs zs,x=.ref l∧y=.ref b∧Rd H l (.lst xs)∧Rd H b (.lst zs)∧xs.length+zs.length≤sizeLine∧∀ p,H p=none→Q (.ref p) (upd H p (.lst (xs++zs))))):=
 op_add.or (op_add_str.or HD)
def JT:R2:=fun x y H Q=>∃ (a:Str) (j:Int),x=.str a∧y=.int j∧0≤j∧j<1000000∧a.length*j.toNat≤1000000∧Q (.str ⟨(List.replicate j.toNat a.cps.toList).flatten.toArray⟩) H
theorem vG(a:Array Nat):∀ (n:Nat) (b:Array Nat),(List.replicate n a).foldl (· ++ ·) b=(b.toList++(List.replicate n a.toList).flatten).toArray
 | 0,b=>by simp
 | n+1,b=>by
  rw[List.replicate_succ,List.foldl_cons,vG a n]
  simp[List.replicate_succ]
theorem F0:OpR X (binaryOp .Mult) JT:=by
 intro pins s σ H x y v u Q I rx ry h
 obtain⟨a,j,rfl,rfl,h0,h1,h2,q⟩:=h
 obtain⟨t,rfl⟩:=rx
 obtain⟨t',rfl⟩:=ry
 have b63:(2:Int)^63=9223372036854775808:=by decide
 refine PySem.P.mul_str (by simp;omega) (fun g1 g2 g=>?_) (fun g1 g2=>?_) ?_
 ·have hj:(1:Int)≤j:=by omega
  have e1:(a.length:Int)*j≤1000000:=by
   have:((a.length*j.toNat:Nat):Int)≤1000000:=by omega
   rw[Int.natCast_mul,Int.toNat_of_nonneg h0]at this
   exact this
  have e2:(a.length:Int)≤1000000:=by
   have:a.length≤a.length*j.toNat:=Nat.le_mul_of_pos_right _ (by omega)
   omega
  have e3:(9223372036853:Int)≤(2^63- 1)/j:=by
   refine Int.le_ediv_of_mul_le (by omega) ?_
   rw[b63]
   omega
  omega
 ·have h3:a.length*j.toNat≤1000000:=h2
  unfold Builtin.Str.tooLong
  rw[sizeLine_eq]
  simp
  omega
 ·by_cases c1:j<1
  ·rw[if_pos c1]
   have e0:j=0:=by omega
   subst e0
   exact⟨by decide,.str _,H,I.tok _,⟨_,rfl⟩,q⟩
  ·rw[if_neg c1]
   by_cases c2:(j==1||a.length==0)=true
   ·rw[if_pos c2]
    refine⟨.str a,H,I,⟨_,rfl⟩,?_⟩
    have ea:(⟨(List.replicate j.toNat a.cps.toList).flatten.toArray⟩:Str)=a:=by
     refine Str.ext' (Array.toList_inj.mp ?_)
     simp at c2
     rcases c2 with c2 | c2
     ·subst c2;simp
     ·have:a.cps.toList=[]:=List.length_eq_zero_iff.mp (by simpa [Str.length]using c2)
      simp[this]
    rw[ea]at q
    exact q
   ·rw[if_neg c2]
    have ea:(List.replicate j.toNat a.cps).foldl (· ++ ·) #[]=(List.replicate j.toNat a.cps.toList).flatten.toArray:=by
     rw[vG];simp
    rw[ea]
    refine⟨?_,.str _,H,I.tok _,⟨_,rfl⟩,q⟩
    show(List.replicate j.toNat a.cps.toList).flatten.toArray.size≤_
    rw[List.size_toArray,List.length_flatten,List.map_replicate,List.sum_replicate_nat,sizeLine_eq]
    have h3:a.cps.toList.length=a.length:=rfl
    rw[h3,Nat.mul_comm]
    omega
end
end Vw
namespace Vw
open PySem L2 PyProof.Rows
section
variable{C:Cst}{X:Cx}
theorem rm{f:RV→RV→State→Res RV}{c:Int→Int→Prop}{g:Int→Int→Int}
  (h:∀ x y s,(∃ i j,dv s x=some (.int i)∧dv s y=some (.int j)∧c i j∧f x y s=a0 (.int (g i j)) s)∨f x y s=.stuck):tQ C f (rI c fun i j=>.int (g i j)):=by
 intro Z loc s sv H x y u v Q r hx hy q
 rcases h x y s with⟨i,j,e1,e2,hc,e⟩ | e
 ·rw[e]at q
  exact⟨i,j,r.dv hx e1,r.dv hy e2,hc,q.a0 r rfl⟩
 ·rw[e]at q
  exact q.elim
theorem FY(op:Bop):∃ r,OpR X (binaryOp op.py) r∧tQ C (binop op) r:=by
 cases op with
 | add=>exact⟨_,Hu,De⟩
 | sub=>exact⟨_,opI (C:=fun _ _=>True) fun _ _ _ _ _ _ _ _ q=>sub_int q,rm fun x y s=>by
   show(_∨(match dv s x,dv s y with | some (.int i),some (.int j)=>_ | _,_=>_)=Res.stuck)
   split
   ·rename_i i j e1 e2;exact .inl ⟨i,j,e1,e2,trivial,by unfold binop;simp only[e1,e2]⟩
   ·exact .inr rfl⟩
 | mul=>
  refine⟨_,op_mulW.or F0,?_⟩
  intro Z loc s sv H x y u v Q r hx hy q
  unfold binop ux at q
  dsimp only at q
  split at q
  ·rename_i i j e1 e2
   split at q
   ·rename_i hc
    exact .inl ⟨i,j,r.dv hx e1,r.dv hy e2,hc,q.a0 r rfl⟩
   ·exact q.elim
  ·rename_i a j e1 e2
   split at q
   ·rename_i hc
    refine .inr ⟨⟨a.toArray⟩,j,r.dv hx e1,r.dv hy e2,hc.1,hc.2.1,by simpa [Str.length]using hc.2.2,q.a0 r ?_⟩
    show V.str _=V.str _
    simp
   ·exact q.elim
  ·exact q.elim
 | fdiv=>exact⟨_,op_fdivW,rm fun x y s=>by
   show(_∨(match dv s x,dv s y with | some (.int i),some (.int j)=>_ | _,_=>_)=Res.stuck)
   split
   ·rename_i i j e1 e2
    by_cases hc:0<j∧j.natAbs.log2<9000
    ·exact .inl ⟨i,j,e1,e2,hc,by unfold binop;simp only[e1,e2,if_pos hc]⟩
    ·exact .inr (if_neg hc)
   ·exact .inr rfl⟩
 | mod=>exact⟨_,op_mod,rm fun x y s=>by
   show(_∨(match dv s x,dv s y with | some (.int i),some (.int j)=>_ | _,_=>_)=Res.stuck)
   split
   ·rename_i i j e1 e2
    by_cases hc:0<j
    ·exact .inl ⟨i,j,e1,e2,hc,by unfold binop;simp only[e1,e2,if_pos hc]⟩
    ·exact .inr (if_neg hc)
   ·exact .inr rfl⟩
 | pow=>exact⟨_,op_pow,rm fun x y s=>by
   show(_∨(match dv s x,dv s y with | some (.int i),some (.int j)=>_ | _,_=>_)=Res.stuck)
   split
   ·rename_i i j e1 e2
    by_cases hc:0≤j∧j≤1000000∧i.natAbs<2^64
    ·exact .inl ⟨i,j,e1,e2,hc,by unfold binop;simp only[e1,e2,if_pos hc]⟩
    ·exact .inr (if_neg hc)
   ·exact .inr rfl⟩
end
section
variable{C:Cst}{Z:Hp}{loc:List Addr}{s:State}{sv:L2.St}{H:Hp}
theorem zp{d:D}{k:K0}{v:V}(e:x7 d=some k)(h:cu C.cA Z d v):v=kV (kz k):=by
 cases d<;> simp[x7]at e
 ·subst e;exact h
 ·subst e;exact h
theorem xH:∀ {l:List D} {ks:List K0} {vs:List V},wQ l=some ks→dC C.cA Z l vs→vs=(ks.map kz).map kV
 | [],ks,vs,e,h=>by cases e;rw[show vs=_ from h];rfl
 | d::l,ks,vs,e,⟨v,r,e1,q,t⟩=>by
  unfold wQ at e
  split at e
  ·rename_i k ks' e2 e3
   cases e
   rw[e1,zp e2 q,xH e3 t]
   rfl
  ·cases e
def xa(C:Cst)(Z:Hp)(loc:List Addr):Option Val→Option V→Prop
 | some x,some v=>c7 C.cA Z loc x v
 | none,none=>True
 | _,_=>False
theorem vX{κ α:Type}[DecidableEq κ](k':κ)(x:α)(l:List (κ×α))(k:κ):lG ((k',x)::l) k=if k'=k then some x else lG l k:=by
 unfold lG
 by_cases e:k'=k<;> simp[List.find?_cons,e]
theorem vH:∀ {l:List (K0×Val)} {ws:List (Key×V)} (k:K0),eD C.cA Z loc l ws→xa C Z loc (lG l k) (valV ws (kz k))
 | [],ws,k,h=>by rw[show ws=_ from h];exact trivial
 | (k',x)::l,ws,k,⟨v,r,e,q,t⟩=>by
  rw[e,vX]
  by_cases hk:k'=k
  ·rw[if_pos hk,valV_pos (by rw[hk])];exact q
  ·rw[if_neg hk,valV_neg (fun z=>hk (qF z))];exact vH k t
theorem lZ:∀ {a b:List K0},a.map kz=b.map kz→a=b
 | [],[],_=>rfl
 | [],_::_,h=>by simp at h
 | _::_,[],h=>by simp at h
 | x::a,y::b,h=>by
  simp only[List.map_cons,List.cons.injEq]at h
  rw[qF h.1,lZ h.2]
theorem vB:∀ {l:List (List K0×Val)} {ws:List (List Key×V)} (k:List K0),eJ C.cA Z loc l ws→xa C Z loc (lG l k) (valV ws (k.map kz))
 | [],ws,k,h=>by rw[show ws=_ from h];exact trivial
 | (k',x)::l,ws,k,⟨v,r,e,q,t⟩=>by
  rw[e,vX]
  by_cases hk:k'=k
  ·rw[if_pos hk,valV_pos (by rw[hk])];exact q
  ·rw[if_neg hk,valV_neg (fun z=>hk (lZ z))];exact vB k t
theorem vU.rd{H:Hp}{a:Addr}{u:HO}:∀ {k:Bool},vU H a u k→Rd H a u
 | false,q=>.inl q
 | true,q=>.inr q
theorem SR.og(r:SR C Z loc s sv H){rv:RV}{v:V}{l:List (K0×Val)}(h:da C Z loc s sv H rv v)(e:og s rv=some l):∃ a ws,v=.ref a∧Rd H a (.dK ws)∧eD C.cA Z loc l ws:=by
 unfold Vw.og at e
 split at e
 ·rename_i l' e1
  cases e
  obtain⟨a,ws,h1,h2,h3⟩:=r.dv h e1
  exact⟨a,ws,h1,(r.zh a _ h2).rd,pb.mpr h3⟩
 ·cases e
 ·split at e
  ·rename_i k l' e1
   cases e
   obtain⟨a,h1,_,ws,h2,h3⟩:=r.ob h e1
   exact⟨a,ws,h1,h2.rd,h3⟩
  ·cases e
theorem SR.sj(r:SR C Z loc s sv H){rv:RV}{v:V}{l:List (List K0×Val)}(h:da C Z loc s sv H rv v)(e:sj s rv=some l):∃ a ws,v=.ref a∧Rd H a (.dT ws)∧eJ C.cA Z loc l ws:=by
 unfold Vw.sj at e
 split at e
 ·rename_i l' e1
  cases e
  obtain⟨a,ws,h1,h2,h3⟩:=r.dv h e1
  exact⟨a,ws,h1,(r.zh a _ h2).rd,oK.mpr h3⟩
 ·cases e
 ·split at e
  ·rename_i k l' e1
   cases e
   obtain⟨a,h1,_,ws,h2,h3⟩:=r.ob h e1
   exact⟨a,ws,h1,h2.rd,h3⟩
  ·cases e
theorem SR.jA(r:SR C Z loc s sv H){x k:RV}{u v:V}{o:Option Val}(hx:da C Z loc s sv H x u)(hk:da C Z loc s sv H k v)(e:jA s x k=some o):
  ∃ a w,u=.ref a∧DGet H a v w∧xa C Z loc o w:=by
 unfold Vw.jA at e
 split at e
 ·rename_i l d e1 e2
  obtain⟨k0,e3,rfl⟩:=Option.map_eq_some_iff.mp e
  obtain⟨a,ws,h1,h2,h3⟩:=r.og hx e1
  exact⟨a,_,h1,.inl ⟨ws,kz k0,h2,zp e3 (r.dv hk e2),rfl⟩,vH k0 h3⟩
 ·split at e
  ·rename_i l ks e1 e2
   obtain⟨k0,e3,rfl⟩:=Option.map_eq_some_iff.mp e
   obtain⟨a,ws,h1,h2,h3⟩:=r.sj hx e1
   obtain⟨b,vs,h4,h5,h6⟩:=r.dv hk e2
   refine⟨a,_,h1,.inr ⟨ws,k0.map kz,b,h2,h4,?_,rfl⟩,vB k0 h3⟩
   rw[←xH e3 h6]
   exact(r.zh b _ h5).at rfl
  ·cases e
theorem xa.isSome{o:Option Val}{w:Option V}(h:xa C Z loc o w):o.isSome=w.isSome:=by
 cases o<;> cases w<;> first | rfl | exact h.elim
end
section
variable{C:Cst}{X:Cx}
theorem zj{op:CmpOp}{f:Int→Int→Bool}{g:List Nat→List Nat→Bool}
  (h1:OpR X (compareOp op) (rI0 fun i j=>.bl (f i j))) (h2:OpR X (compareOp op) (fun x y H Q=>∃ i j:Str,x=.str i∧y=.str j∧Q (.bl (g i.cps.toList j.cps.toList)) H)):
  ∃ r,OpR X (compareOp op) r∧F8 C (fun s x y=>uW s x y f g) r:=by
 refine⟨_,h1.or h2,?_⟩
 intro Z loc s sv H x y u v b Q r hx hy e q
 unfold uW at e
 dsimp only at e
 split at e
 ·rename_i i j e1 e2
  cases e
  exact .inl ⟨i,j,r.dv hx e1,r.dv hy e2,q⟩
 ·rename_i i j e1 e2
  cases e
  exact .inr ⟨⟨i.toArray⟩,⟨j.toArray⟩,r.dv hx e1,r.dv hy e2,by simpa using q⟩
 ·cases e
theorem Ii(n:Bool){Z:Hp}{loc:List Addr}{s:State}{sv:L2.St}{H:Hp}{x y:RV}{u v:V}{b:Bool}{Q:VK}(r:SR C Z loc s sv H)(hx:da C Z loc s sv H x u)(hy:da C Z loc s sv H y v)(e:tj s x y=some b)
  (q:Q (.bl (xor n b)) H):Ct X.K n u v H Q:=by
 unfold tj at e
 split at e
 ·rename_i d d' e1 e2
  split at e
  ·rename_i hc
   cases e
   simp only[dM,Bool.and_eq_true,decide_eq_true_eq]at hc
   exact⟨pd d,pd d',r.kn hx e1 hc.1.1,r.kn hy e2 hc.1.2,hc.1.1,hc.1.2,hc.2,q⟩
  ·cases e
 ·cases e
theorem uF(d:D):∀ l:List D,(fG l).any (fun y=>PyData.eqv y (pd d))=l.any fun y=>iy y d
 | []=>rfl
 | x::l=>by
  show(_||_)=(_||_)
  rw[uF d l]
  rfl
theorem Ia(n:Bool){Z:Hp}{loc:List Addr}{s:State}{sv:L2.St}{H:Hp}{x y:RV}{u v:V}{b:Bool}(r:SR C Z loc s sv H)(hx:da C Z loc s sv H x u)(hy:da C Z loc s sv H y v)(e:Cm s x y=some b):
  v=.non∧decide (u=.non)=b:=by
 unfold Cm at e
 split at e
 ·rename_i e1
  refine⟨r.dv hy e1,?_⟩
  split at e
  ·rename_i e2
   cases e
   exact decide_eq_true (r.dv hx e2)
  ·rename_i d ne e2
   cases e
   refine decide_eq_false fun z=>?_
   have q:=r.dv hx e2
   subst z
   cases d with
   | non=>exact ne rfl
   | bl _=>cases q
   | int _=>cases q
   | str _=>cases q
   | tup l=>obtain⟨_,_,h,_⟩:=q;cases h
   | lst l=>obtain⟨_,_,h,_⟩:=q;cases h
   | dic l=>obtain⟨_,_,h,_⟩:=q;cases h
   | dit l=>obtain⟨_,_,h,_⟩:=q;cases h
   | ins c l=>obtain⟨_,_,_,h,_⟩:=q;cases h
   | exc c l=>obtain⟨_,_,_,h,_⟩:=q;cases h
  ·split at e
   ·rename_i o e2
    cases e
    obtain⟨a,h,_⟩:=r.ob hx e2
    rw[h];rfl
   ·obtain⟨l,e2,e3⟩:=Option.map_eq_some_iff.mp e
    obtain⟨a,xs,h,_⟩:=r.tv hx e2
    rw[h,←e3];rfl
 ·cases e
theorem HR(n:Bool){Z:Hp}{loc:List Addr}{s:State}{sv:L2.St}{H:Hp}{x y:RV}{u v:V}{b:Bool}{Q:VK}(r:SR C Z loc s sv H)(hx:da C Z loc s sv H x u)(hy:da C Z loc s sv H y v)(e:inD s x y=some b)
  (q:Q (.bl (xor n b)) H):B4 n u v H Q∨((∃ i j,u=.str i∧v=.str j∧Q (.bl (xor n (!(Builtin.Str.occurrences j i 0 j.length 1).isEmpty))) H)∨rIn X.K n u v H Q):=by
 unfold inD at e
 split at e
 ·rename_i o e1
  cases e
  obtain⟨a,w,h1,h2,h3⟩:=r.jA hy hx e1
  exact .inl ⟨a,w,h1,h2,by rw[←h3.isSome];exact q⟩
 ·split at e
  ·rename_i i j e1 e2
   cases e
   exact .inr (.inl ⟨⟨i.toArray⟩,⟨j.toArray⟩,r.dv hx e1,r.dv hy e2,by simpa [subIn,st,Str.length]using q⟩)
  ·split at e
   ·rename_i d l e1 e2
    split at e
    ·rename_i hc
     cases e
     simp only[Bool.and_eq_true,decide_eq_true_eq]at hc
     refine .inr (.inr ⟨pd d,fG l,r.kn hx e1 hc.1.1,.inl (r.kn hy e2 hc.1.2),hc.1.1,hc.1.2,hc.2,?_⟩)
     rw[uF];exact q
    ·cases e
   ·rename_i d l e1 e2
    split at e
    ·rename_i hc
     cases e
     simp only[Bool.and_eq_true,decide_eq_true_eq]at hc
     refine .inr (.inr ⟨pd d,fG l,r.kn hx e1 hc.1.1,.inr (r.kn hy e2 hc.1.2),hc.1.1,hc.1.2,hc.2,?_⟩)
     rw[uF];exact q
    ·cases e
   ·cases e
theorem t8(hu:X.A.units+64<cLine)(op:Cop):∃ r,OpR X (compareOp op.py) r∧F8 C (ip op) r:=by
 cases op with
 | eq=>exact⟨_,Jg hu,fun Z loc s sv H x y u v b Q r hx hy e q=>Ii false r hx hy e (by simpa using q)⟩
 | ne=>exact⟨_,Gb hu,fun Z loc s sv H x y u v b Q r hx hy e q=>by
   obtain⟨b',e1,rfl⟩:=Option.map_eq_some_iff.mp e
   exact Ii true r hx hy e1 (by simpa using q)⟩
 | lt=>exact zj op_lt op_lt_str
 | le=>exact zj op_le op_le_str
 | gt=>exact zj op_gt op_gt_str
 | ge=>exact zj op_ge op_ge_str
 | is=>exact⟨_,op_isN,fun Z loc s sv H x y u v b Q r hx hy e q=>by
   obtain⟨h1,h2⟩:=Ia false r hx hy e
   exact⟨h1,by rw[h2];exact q⟩⟩
 | isn=>exact⟨_,op_notN,fun Z loc s sv H x y u v b Q r hx hy e q=>by
   obtain⟨b',e1,rfl⟩:=Option.map_eq_some_iff.mp e
   obtain⟨h1,h2⟩:=Ia false r hx hy e1
   exact⟨h1,by rw[h2];exact q⟩⟩
 | isin=>exact⟨_,(GL hu).or (op_in_str.or (I7 hu)),fun Z loc s sv H x y u v b Q r hx hy e q=>by
   rcases HR (X:=X) false r hx hy e (by simpa using q)with h | ⟨i,j,h1,h2,h3⟩ | h
   ·exact .inl h
   ·exact .inr (.inl ⟨i,j,h1,h2,by simpa using h3⟩)
   ·exact .inr (.inr h)⟩
 | notin=>exact⟨_,(Eg hu).or (L2.op_notin_str.or (GY hu)),fun Z loc s sv H x y u v b Q r hx hy e q=>by
   obtain⟨b',e1,rfl⟩:=Option.map_eq_some_iff.mp e
   rcases HR (X:=X) true r hx hy e1 (by simpa using q)with h | ⟨i,j,h1,h2,h3⟩ | h
   ·exact .inl h
   ·exact .inr (.inl ⟨i,j,h1,h2,by simpa using h3⟩)
   ·exact .inr (.inr h)⟩
end
end Vw
namespace Vw
open PySem L2 PyProof.Rows
def notStar:Expr→Bool
 | .Starred .. =>false
 | _=>true
def zO:Expr→Bool
 | .Call (.Name x _) [] [] _=>x != "super"
 | _=>true
theorem di{e:Expr}{es:List Expr}{env:Env}(h:notStar e=true):starEach (e::es) env=(false,eval e env)::starEach es env:=by
 cases e<;> first | rfl | cases h
theorem ik{pos:Pos}{env:Env}:∀ {es:List Expr},es.all notStar=true→(backTo pos (starEach es env)).any (·.1)=false
 | [],_=>rfl
 | e::es,h=>by
  simp only[List.all_cons,Bool.and_eq_true]at h
  rw[di h.1]
  show(false||_)=false
  rw[Bool.false_or]
  exact ik h.2
theorem x3{pos:Pos}{env:Env}:∀ {es:List Expr},es.all notStar=true→(backTo pos (starEach es env)).all (fun x=> !x.1)=true
 | [],_=>rfl
 | e::es,h=>by
  simp only[List.all_cons,Bool.and_eq_true]at h
  rw[di h.1]
  show(true&&_)=true
  rw[Bool.true_and]
  exact x3 h.2
theorem FN{pos:Pos}{env:Env}{es:List Expr}(h:es.all notStar=true)(hl:es.length<20):
  ((backTo pos (starEach es env)).all (fun x=> !x.1)&&(backToKw pos (keywordEach [] env)).all (fun x=>x.1.isSome)
   &&decide (es.length+([]:List Keyword).length+(if([]:List Keyword).isEmpty then 0 else 1)<30))=true:=by
 rw[x3 h]
 show(true&&true&&decide (es.length+0+0<30))=true
 simp
 omega
theorem CJ{o:Expr}{a:Str}{env:Env}{w:Sem Value}(h:zO o=true):attributeBase o a env w=w:=by
 unfold attributeBase
 split
 ·rename_i x p q
  have hx:(x != "super")=true:=by
   unfold zO at h
   exact h
  simp[hx]
 ·rfl
def vT:Expr→Bool
 | .UnaryOp .Not _ _=>false
 | .BoolOp .. =>false
 | .IfExp .. =>false
 | .Compare .. =>false
 | _=>true
theorem Fj{e:Expr}{env:Env}(h:vT e=true):∀ whole,isTrue e env whole=(do let v ←whole;standAt e.pos;holding [v] (truthy v)):=by
 intro w
 cases e<;> first | rfl | cases h | skip
 rename_i op x p
 cases op<;> first | rfl | cases h
def d0:Expr→Bool
 | .Set .. =>false
 | _=>true
theorem pq{op:CmpOp}{e:Expr}(h:d0 e=true):behindInMarks op e=false:=by
 cases e<;> first | rfl | cases h
theorem fold_ok{e:Expr}{env:Env}(h:d0 e=true):∀ x,foldedSetIterable e env x=pure x:=by
 intro x
 cases e<;> first | rfl | cases h
def jF:Expr→Bool
 | .ListComp .. =>false
 | .SetComp .. =>false
 | .DictComp .. =>false
 | _=>true
theorem vp{e:Expr}{t:Option Expr}{n:Nat}{env:Env}(h:jF e=true):swapsWith e t n env=pure false:=by
 cases e<;> first | rfl | cases h
def mu:Expr→Bool
 | .Slice .. =>false
 | _=>true
theorem zP{e:Expr}(h:mu e=true):PlainIx e:=by
 intro o i
 cases e<;> first | rfl | cases h
def ab(i:Nat)(s:State):Res RV:=
 match s.sg[i]? with
 | some (some (.v x))=>.ok (.val x) s
 | some (some (.own _))=>.ok (.own i) s
 | _=>.stuck
def fD(d:D)(s:State):Res RV:=a0 d s
def ev(f:State→Res RV)(s:State):Res RV:=(f s).bind settle
def ai(fa fb:State→Res RV)(k:RV→RV→State→Res RV)(s:State):Res RV:=(ev fa s).bind fun x s=>(ev fb s).bind fun y s=>k x y s
def aQ(op:Cop)(x y:RV)(s:State):Res RV:=
 match ip op s x y with
 | some b=>a0 (.bl b) s
 | none=>.stuck
def vP(r:RV)(s:State):Res Bool:=
 match dv s r with
 | some (.bl b)=>.ok b s
 | _=>.stuck
def cB(f:State→Res RV)(s:State):Res Bool:=(ev f s).bind vP
def aC:List (State→Res RV)→State→Res (List RV)
 | [],s=>.ok [] s
 | f::r,s=>(ev f s).bind fun x s=>(aC r s).bind fun xs s=>.ok (x::xs) s
def bI:List RV→State→Res (List Val)
 | [],s=>.ok [] s
 | r::rs,s=>(eu r s).bind fun x s=>(bI rs s).bind fun xs s=>.ok (x::xs) s
def nK(l:List Val):Val:=
 match toDs l with
 | some ds=>.d (.tup ds)
 | none=>.tp l
def xv(rs:List RV)(s:State):Res RV:=(bI rs s).bind fun l s=>if l.length≤sizeLine then .ok (.val (nK l)) s else .stuck
def yk(rs:List RV)(s:State):Res RV:=(bI rs s).bind fun l s=>if l.length≤sizeLine then .ok (.new (.lst l)) s else .stuck
def xK(x:RV)(s:State):Res RV:=
 match dv s x with
 | some (.int i)=>a0 (.int (-i)) s
 | _=>.stuck
def kc:List (State→Res Bool)→State→Res Bool
 | [],s=>.ok true s
 | [f],s=>f s
 | f::r,s=>(f s).bind fun b s=>if b=true then kc r s else .ok false s
def jO:List (State→Res Bool)→State→Res Bool
 | [],s=>.ok false s
 | [f],s=>f s
 | f::r,s=>(f s).bind fun b s=>if b=true then .ok true s else jO r s
def jV(f:State→Res Bool)(s:State):Res Bool:=(f s).bind fun b s=>.ok (!b) s
def gX:List (State→Res RV)→State→Res RV
 | [],s=>.stuck
 | [f],s=>ev f s
 | f::r,s=>(cB f s).bind fun b s=>if b=true then gX r s else a0 (.bl false) s
def zB:List (State→Res RV)→State→Res RV
 | [],s=>.stuck
 | [f],s=>ev f s
 | f::r,s=>(cB f s).bind fun b s=>if b=true then a0 (.bl true) s else zB r s
theorem Res.bind_assoc{α β γ:Type}(r:Res α)(f:α→State→Res β)(g:β→State→Res γ):(r.bind f).bind g=r.bind fun a s=>(f a s).bind g:=by
 cases r<;> rfl
section
variable{C:Cst}{Z Z':Hp}{loc loc':List Addr}{s s':State}{sv:L2.St}{H:Hp}
theorem aA.AO{f:State→Res RV}{α:Type}{k:RV→State→Res α}{PO:Hp→List Addr→Res α→Prop}{Q:VK}
  (r:SR C Z loc s sv H) (h:PO Z loc ((ev f s).bind k)) (ext:∀ Z' loc' t,Ext Z loc Z' loc'→PO Z loc t→PO Z' loc' t)
  (hx:∀ x s',PO Z loc (.exc x s')→∀ Z' loc' H' c d,Ext Z loc Z' loc'→SR C Z' loc' s' sv H'→lH C Z' H' x c d→C.W c d sv H') (hs:¬ PO Z loc .stuck)
  (hq:∀ v H',(∃ Z' loc' s' rv,Ext Z loc Z' loc'∧SR C Z' loc' s' sv H'∧tJ rv∧da C Z' loc' s' sv H' rv v∧PO Z' loc' (k rv s'))→Q v H'):aA C f sv H Q:=by
 refine⟨Z,loc,s,r,?_⟩
 unfold ev at h
 cases e:f s with
 | stuck=>rw[e]at h;exact(hs h).elim
 | exc x s'=>rw[e]at h;exact hx x s' h
 | ok rv s'=>
  rw[e]at h
  intro Z1 l1 H1 v g r1 q
  simp only[Res.aa]at h
  cases e2:settle rv s' with
  | stuck=>rw[e2]at h;exact(hs h).elim
  | exc x s2=>exact absurd e2 vC
  | ok rv' s2=>
   rw[e2]at h
   obtain⟨rfl,st,Z2,g2,r2,q2⟩:=r1.settle q e2
   exact hq v H1 ⟨Z2,l1,s2,rv',g.trans g2,r2,st,q2,ext _ _ _ (g.trans g2) h⟩
theorem aA.nB{f:State→Res RV}{k:RV→State→Res RV}{Q:VK}(r:SR C Z loc s sv H)(h:EPost C Z loc sv ((ev f s).bind k) Q):
  aA C f sv H (fun v H'=>∃ Z' loc' s' rv,Ext Z loc Z' loc'∧SR C Z' loc' s' sv H'∧tJ rv∧da C Z' loc' s' sv H' rv v∧EPost C Z' loc' sv (k rv s') Q):=
 aA.AO (PO:=fun Z loc t=>EPost C Z loc sv t Q) r h (fun _ _ _ g q=>q.ext g) (fun _ _ q=>q) (fun q=>q) fun _ _ q=>q
theorem aA.Js{f:State→Res RV}{k:RV→State→Res (List RV)}{Q:List V→Hp→Prop}(r:SR C Z loc s sv H)(h:oO C Z loc sv ((ev f s).bind k) Q):
  aA C f sv H (fun v H'=>∃ Z' loc' s' rv,Ext Z loc Z' loc'∧SR C Z' loc' s' sv H'∧tJ rv∧da C Z' loc' s' sv H' rv v∧oO C Z' loc' sv (k rv s') Q):=
 aA.AO (PO:=fun Z loc t=>oO C Z loc sv t Q) r h (fun _ _ _ g q=>q.ext g) (fun _ _ q=>q) (fun q=>q) fun _ _ q=>q
theorem aA.IU{f:State→Res RV}{k:RV→State→Res Bool}{Q:Bool→Hp→Prop}(r:SR C Z loc s sv H)(h:gN C Z loc sv ((ev f s).bind k) Q):
  aA C f sv H (fun v H'=>∃ Z' loc' s' rv,Ext Z loc Z' loc'∧SR C Z' loc' s' sv H'∧tJ rv∧da C Z' loc' s' sv H' rv v∧gN C Z' loc' sv (k rv s') Q):=
 aA.AO (PO:=fun Z loc t=>gN C Z loc sv t Q) r h (fun _ _ _ g q=>q.ext g) (fun _ _ q=>q) (fun q=>q) fun _ _ q=>q
theorem aA.xy{f:State→Res RV}{k:RV→State→Res Fl}{D:Ends}(r:SR C Z loc s sv H)(h:dk C Z loc ((ev f s).bind k) D):
  aA C f sv H (fun v H'=>∃ Z' loc' s' rv,Ext Z loc Z' loc'∧SR C Z' loc' s' sv H'∧tJ rv∧da C Z' loc' s' sv H' rv v∧dk C Z' loc' (k rv s') D):=
 aA.AO (PO:=fun Z loc t=>dk C Z loc t D) r h (fun _ _ _ g q=>q.ext g) (fun _ _ q Z' loc' H' c d=>q Z' loc' sv H' c d) (fun q=>q) fun _ _ q=>q
variable{X:Cx}{e a b c:Expr}{es:List Expr}{pos:Pos}{f fa fb fc:State→Res RV}{ft:State→Res Bool}
theorem v_var{i:Nat}{x:Str}(hN:X.N[i]? =some x)(hv:Vis X.env.scope x)(hd:(x==("__debug__":Str))=false)(hcd:(x==("__classdict__":Str))=false):PE X (.Name x pos) (aA C (ab i)):=by
 refine c6 (pe_var hN hv hd hcd) fun sv H Q ⟨Z,loc,s,r,h⟩=>?_
 unfold ab at h
 split at h
 ·rename_i y e
  obtain⟨v,h1,h2⟩:=r.vl i y e
  exact⟨v,h1,h.val r h2⟩
 ·rename_i o e
  obtain⟨a,h1,_⟩:=r.ow i o e
  exact⟨_,h1,h Z loc H _ (Ext.refl _ _) r h1⟩
 ·exact h.elim
theorem qT{d:D}{v:V}(he:PE X e (tC v))(hd:∀ Z,cu C.cA Z d v):PE X e (aA C (fD d)):=
 c6 he fun sv H Q ⟨Z,loc,s,r,h⟩=>EPost.a0 h r (hd Z)
theorem tK{r:R2}{g:RV→RV→State→Res RV}(hs:tQ C g r){Q:VK}(h:aA C (ai fa fb g) sv H Q):tOp r (aA C fa) (aA C fb) sv H Q:=by
 obtain⟨Z,loc,s,r0,h⟩:=h
 refine(aA.nB r0 h).imp fun u H1 ⟨Z1,l1,s1,x,g1,r1,st1,q1,h1⟩=>?_
 refine(aA.nB r1 h1).imp fun v H2 ⟨Z2,l2,s2,y,g2,r2,st2,q2,h2⟩=>?_
 exact hs Z2 l2 s2 sv H2 x y u v Q r2 (q1.mono g2 st1) q2 h2
theorem qW(op:Bop)(ha:PE X a (aA C fa))(hb:PE X b (aA C fb)):PE X (.BinOp a op.py b pos) (aA C (ai fa fb (binop op))):=by
 obtain⟨r,ho,hs⟩:=FY (C:=C) (X:=X) op
 exact c6 (pe_op ho ha hb) fun sv H Q h=>tK hs h
theorem zc{op:Cop}{r:R2}(hs:F8 C (ip op) r):tQ C (aQ op) r:=by
 intro Z loc s sv H x y u v Q r0 hx hy h
 unfold aQ at h
 split at h
 ·rename_i b e
  exact hs Z loc s sv H x y u v b Q r0 hx hy e (h.a0 r0 rfl)
 ·exact h.elim
theorem wF(hu:X.A.units+64<cLine)(op:Cop)(ha:PE X a (aA C fa))(hb:PE X b (aA C fb))(hm:d0 b=true):PE X (.Compare a [op.py] [b] pos) (aA C (ai fa fb (aQ op))):=by
 obtain⟨r,ho,hs⟩:=t8 (C:=C) hu op
 exact c6 (pe_cmpR ho ha hb (pq hm)) fun sv H Q h=>tK (zc hs) h
theorem toB{f:State→Res RV}{Q:Bool→Hp→Prop}(h:e6 C (cB f) sv H Q):aA C f sv H (fun x H'=>∃ k,x=.bl k∧Q k H'):=by
 obtain⟨Z,loc,s,r0,h⟩:=h
 refine(aA.IU r0 h).imp fun u H1 ⟨Z1,l1,s1,x,g1,r1,st1,q1,h1⟩=>?_
 unfold vP at h1
 split at h1
 ·rename_i b e
  exact⟨b,r1.dv q1 e,h1 Z1 l1 H1 (Ext.refl _ _) r1⟩
 ·exact h1.elim
theorem gM(h:PE X e (aA C f))(he:vT e=true):PT X e (e6 C (cB f)):=
 rq (pt_val h (Fj he)) fun sv H Q q=>toB q
theorem oy(hu:X.A.units+64<cLine)(op:Cop)(ha:PE X a (aA C fa))(hb:PE X b (aA C fb))(hm:d0 b=true):PT X (.Compare a [op.py] [b] pos) (e6 C (cB (ai fa fb (aQ op)))):=by
 obtain⟨r,ho,hs⟩:=t8 (C:=C) hu op
 exact rq (pt_cmpR ho ha hb (pq hm)) fun sv H Q q=>tK (zc hs) (toB q)
def z4(fa fb fc:State→Res RV)(g g':RV→RV→State→Res RV)(s:State):Res RV:=
 (ev fa s).bind fun x s=>(ev fb s).bind fun y s=>(g x y s).bind fun z s=>(vP z s).bind fun k s=>if k=true then(ev fc s).bind fun w s=>g' y w s else a0 (.bl false) s
def CO(C:Cst)(f:RV→RV→State→Res RV):Prop:=∀ x y s,(∃ b,f x y s=a0 (.bl b) s)∨f x y s=.stuck
theorem Im{op:Cop}:CO C (aQ op):=by
 intro x y s
 unfold aQ
 split
 ·exact .inl ⟨_,rfl⟩
 ·exact .inr rfl
theorem Gz{r r':R2}{g g':RV→RV→State→Res RV}(hs:tQ C g r)(hs':tQ C g' r')(hb:CO C g){Q:VK}(h:aA C (z4 fa fb fc g g') sv H Q):tChain r r' (aA C fa) (aA C fb) (aA C fc) sv H Q:=by
 obtain⟨Z,loc,s,r0,h⟩:=h
 refine(aA.nB r0 h).imp fun u H1 ⟨Z1,l1,s1,x,g1,r1,st1,q1,h1⟩=>?_
 refine(aA.nB r1 h1).imp fun v H2 ⟨Z2,l2,s2,y,g2,r2,st2,q2,h2⟩=>?_
 have q1':=q1.mono (s':=s2) (H':=H2) g2 st1
 rcases hb x y s2 with⟨k,e⟩ | e
 ·rw[e]at h2
  refine hs Z2 l2 s2 sv H2 x y u v _ r2 q1' q2 ?_
  rw[e]
  intro Z3 l3 H3 z g3 r3 q3
  refine⟨k,q3,?_⟩
  simp only[a0,Res.aa,vP,dv,jJ]at h2
  cases k with
  | true=>
   rw[if_pos rfl]at h2 ⊢
   refine(aA.nB r3 (h2.ext g3)).imp fun w H4 ⟨Z4,l4,s4,z',g4,r4,st4,q4,h4⟩=>?_
   exact hs' Z4 l4 s4 sv H4 y z' v w Q r4 (q2.mono (g3.trans g4) st2) q4 h4
  | false=>
   rw[if_neg Bool.false_ne_true]at h2 ⊢
   exact EPost.a0 (h2.ext g3) r3 rfl
 ·rw[e]at h2
  exact h2.elim
theorem DX{op op':Cop}(hm:d0 c=true):lastMarks [op.py,op'.py] [b,c]=false:=pq hm
theorem Du(hu:X.A.units+64<cLine)(op op':Cop)(ha:PE X a (aA C fa))(hb:PE X b (aA C fb))(hc:PE X c (aA C fc))(hm:d0 c=true):PE X (.Compare a [op.py,op'.py] [b,c] pos) (aA C (z4 fa fb fc (aQ op) (aQ op'))):=by
 obtain⟨r,ho,hs⟩:=t8 (C:=C) hu op
 obtain⟨r',ho',hs'⟩:=t8 (C:=C) hu op'
 exact c6 (pe_chain ho ho' ha hb hc (DX hm)) fun sv H Q h=>Gz (zc hs) (zc hs') (Im (C:=C)) h
theorem xm(h:PT X e (e6 C ft)):PW X (.BoolOp .And [e] pos) (e6 C (kc [ft])):=pw_and1 h
theorem oZ(h:PT X e (e6 C ft)):PW X (.BoolOp .Or [e] pos) (e6 C (jO [ft])):=pw_or1 h
theorem v_and{ft2:State→Res Bool}{fr:List (State→Res Bool)}(h:PT X e (e6 C ft))(h2:PW X (.BoolOp .And (a::es) pos) (e6 C (kc (ft2::fr)))):PW X (.BoolOp .And (e::a::es) pos) (e6 C (kc (ft::ft2::fr))):=by
 refine⟨fun wh pins t sv H Q I q=>(pw_and h h2).run wh pins t sv H Q I ?_⟩
 obtain⟨Z,loc,s,r0,q⟩:=q
 refine⟨Z,loc,s,r0,?_⟩
 show gN C Z loc sv (ft s) _
 have q:gN C Z loc sv ((ft s).bind fun b s=>if b=true then kc (ft2::fr) s else .ok false s) Q:=q
 cases e:ft s with
 | stuck=>rw[e]at q;exact q
 | exc x s'=>rw[e]at q;exact q
 | ok b s'=>
  rw[e]at q
  intro Z1 l1 H1 g1 r1
  cases b with
  | true=>exact⟨Z1,l1,s',r1,gN.ext q g1⟩
  | false=>exact gN.ext (show gN C Z loc sv (.ok false s') Q from q) g1 Z1 l1 H1 (Ext.refl _ _) r1
theorem v_or{ft2:State→Res Bool}{fr:List (State→Res Bool)}(h:PT X e (e6 C ft))(h2:PW X (.BoolOp .Or (a::es) pos) (e6 C (jO (ft2::fr)))):PW X (.BoolOp .Or (e::a::es) pos) (e6 C (jO (ft::ft2::fr))):=by
 refine⟨fun wh pins t sv H Q I q=>(pw_or h h2).run wh pins t sv H Q I ?_⟩
 obtain⟨Z,loc,s,r0,q⟩:=q
 refine⟨Z,loc,s,r0,?_⟩
 show gN C Z loc sv (ft s) _
 have q:gN C Z loc sv ((ft s).bind fun b s=>if b=true then .ok true s else jO (ft2::fr) s) Q:=q
 cases e:ft s with
 | stuck=>rw[e]at q;exact q
 | exc x s'=>rw[e]at q;exact q
 | ok b s'=>
  rw[e]at q
  intro Z1 l1 H1 g1 r1
  cases b with
  | false=>exact⟨Z1,l1,s',r1,gN.ext q g1⟩
  | true=>exact gN.ext (show gN C Z loc sv (.ok true s') Q from q) g1 Z1 l1 H1 (Ext.refl _ _) r1
theorem v_not(h:PT X e (e6 C ft)):PT X (.UnaryOp .Not e pos) (e6 C (jV ft)):=by
 refine rq (pt_not h) fun sv H Q q=>?_
 obtain⟨Z,loc,s,r0,q⟩:=q
 unfold jV at q
 refine⟨Z,loc,s,r0,?_⟩
 cases e:ft s with
 | stuck=>rw[e]at q;exact q
 | exc x s'=>rw[e]at q;exact q
 | ok b s'=>rw[e]at q;exact q
end
end Vw
namespace Vw
open PySem L2 PyProof.Rows
def Cp(t:State→Res Bool)(a b:State→Res RV)(s:State):Res RV:=(t s).bind fun k s=>if k=true then a s else b s
def bK(x y:RV)(s:State):Res RV:=
 match jA s x y with
 | some (some v)=>.ok (.val v) s
 | some none=>.stuck
 | none=>match dv s x,dv s y with
  | some (.str t),some (.int i)=>if t.length≤sizeLine then match atI t i with
   | some c=>a0 (.str [c]) s
   | none=>.stuck else .stuck
  | _,some (.int i)=>match lv s x,tv s x with
   | some l,_=>match atI l i with
    | some v=>.ok (.val v) s
    | none=>.stuck
   | none,some l=>match atI l i with
    | some v=>.ok (.val v) s
    | none=>.stuck
   | none,none=>.stuck
  | _,_=>.stuck
inductive Par where
 | no
 | ex (f:State→Res RV)
def yP(r:RV)(s:State):Res (Option Int):=
 match dv s r with
 | some (.int i)=>.ok (some i) s
 | _=>.stuck
def jP:Par→State→Res (Option Int)
 | .no,s=>.ok none s
 | .ex f,s=>(ev f s).bind yP
def ey{α:Type}(l:List α)(lo hi:Option Int):List α:=(l.drop (HT.sIx l.length 0 lo)).take (HT.sIx l.length l.length hi-HT.sIx l.length 0 lo)
def tX(x:RV)(lo hi:Option Int)(s:State):Res RV:=
 match dv s x with
 | some (.str t)=>if t.length≤sizeLine then a0 (.str (ey t lo hi)) s else .stuck
 | _=>match lv s x with
  | some l=>.ok (.new (.lst (ey l lo hi))) s
  | none=>match tv s x with
   | some l=>if(ey l lo hi).length=l.length then .stuck else .ok (.val (nK (ey l lo hi))) s
   | none=>.stuck
def jL(f:State→Res RV)(lo hi:Par)(s:State):Res RV:=
 (ev f s).bind fun x s=>(jP lo s).bind fun l s=>(jP hi s).bind fun h s=>tX x l h s
section
variable{C:Cst}{Z Z':Hp}{loc loc':List Addr}{s s':State}{sv:L2.St}{H:Hp}
variable{X:Cx}{e a b c:Expr}{es:List Expr}{pos:Pos}{f fa fb fc:State→Res RV}{ft:State→Res Bool}
theorem yr(h:PE X e (aA C f)):PE X (.BoolOp .And [e] pos) (aA C (gX [f])):=c6 (pe_one h) fun sv H Q ⟨Z,loc,s,r,q⟩=>by
 have q:EPost C Z loc sv ((ev f s).bind fun x s=>.ok x s) Q:=by
  have e1:((ev f s).bind fun x s=>.ok x s)=gX [f] s:=by
   show _=ev f s
   cases ev f s<;> rfl
  rw[e1];exact q
 exact(aA.nB r q).imp fun v H1 ⟨Z1,l1,s1,x,g1,r1,st1,q1,h1⟩=>h1 Z1 l1 H1 v (Ext.refl _ _) r1 q1
theorem aA.IZ{f:State→Res RV}{k:Bool→State→Res RV}{Q:VK}(r:SR C Z loc s sv H)(h:EPost C Z loc sv ((cB f s).bind k) Q):
  aA C f sv H (fun x H'=>∃ c,x=.bl c∧∃ Z' loc' s',Ext Z loc Z' loc'∧SR C Z' loc' s' sv H'∧EPost C Z' loc' sv (k c s') Q):=by
 unfold cB at h
 rw[Res.bind_assoc]at h
 refine(aA.nB r h).imp fun v H1 ⟨Z1,l1,s1,x,g1,r1,st1,q1,h1⟩=>?_
 unfold vP at h1
 split at h1
 ·rename_i b e
  exact⟨b,r1.dv q1 e,Z1,l1,s1,g1,r1,h1⟩
 ·exact h1.elim
theorem Aq{f2:State→Res RV}{fr:List (State→Res RV)}(h:PE X e (aA C f))(h2:PE X (.BoolOp .And (a::es) pos) (aA C (gX (f2::fr)))):PE X (.BoolOp .And (e::a::es) pos) (aA C (gX (f::f2::fr))):=by
 refine c6 (pe_and h h2) fun sv H Q ⟨Z,loc,s,r,q⟩=>?_
 have q:EPost C Z loc sv ((cB f s).bind fun b s=>if b=true then gX (f2::fr) s else a0 (.bl false) s) Q:=q
 refine(aA.IZ r q).imp fun v H1 ⟨c,e1,Z1,l1,s1,g1,r1,h1⟩=>⟨c,e1,?_⟩
 cases c with
 | true=>exact⟨Z1,l1,s1,r1,h1⟩
 | false=>exact EPost.a0 h1 r1 rfl
theorem GC(ht:PT X c (e6 C ft))(ha:PE X a (aA C fa))(hb:PE X b (aA C fb)):PE X (.IfExp c a b pos) (aA C (Cp ft fa fb)):=by
 refine c6 (pe_ifExp ht ha hb) fun sv H Q ⟨Z,loc,s,r,q⟩=>?_
 refine(e6.qZ r q).imp fun k H1 ⟨Z1,l1,s1,g1,r1,h1⟩=>?_
 cases k with
 | true=>exact⟨Z1,l1,s1,r1,h1⟩
 | false=>exact⟨Z1,l1,s1,r1,h1⟩
theorem Hi(h:PE X e (aA C f)):PE X (.UnaryOp .USub e pos) (aA C (fun s=>(ev f s).bind xK)):=by
 refine c6 (pe_un un_neg h) fun sv H Q ⟨Z,loc,s,r,q⟩=>?_
 refine(aA.nB r q).imp fun v H1 ⟨Z1,l1,s1,x,g1,r1,st1,q1,h1⟩=>?_
 unfold xK at h1
 split at h1
 ·rename_i i e
  exact⟨i,r1.dv q1 e,h1.a0 r1 rfl⟩
 ·exact h1.elim
theorem jz.mono(h:Ext Z loc Z' loc'){H':Hp}:∀ {rs:List RV} {vs:List V},jz C Z loc s sv H rs vs→jz C Z' loc' s' sv H' rs vs
 | [],vs,q=>q
 | x::rs,vs,⟨v,r,e,st,q,t⟩=>⟨v,r,e,st,q.mono h st,jz.mono h t⟩
theorem ar:PA X [] (eR C (aC [])):=yQ pa_nil fun sv H Q ⟨Z,loc,s,r,q⟩=>q Z loc H [] (Ext.refl _ _) r rfl
theorem Eh{fr:List (State→Res RV)}(h:PE X e (aA C f))(hr:PA X es (eR C (aC fr)))(hs:notStar e=true):PA X (e::es) (eR C (aC (f::fr))):=by
 refine yQ (pa_cons h hr (di hs)) fun sv H Q ⟨Z,loc,s,r,q⟩=>?_
 refine(aA.Js r q).imp fun v H1 ⟨Z1,l1,s1,x,g1,r1,st1,q1,h1⟩=>?_
 refine⟨Z1,l1,s1,r1,?_⟩
 cases e1:aC fr s1 with
 | stuck=>rw[e1]at h1;exact h1
 | exc y s2=>rw[e1]at h1;exact h1
 | ok xs s2=>
  rw[e1]at h1
  intro Z2 l2 H2 vs g2 r2 q2
  exact h1 Z2 l2 H2 (v::vs) g2 r2 ⟨v,vs,rfl,st1,q1.mono g2 st1,q2⟩
theorem SR.bI(r:SR C Z loc s sv H):∀ {rs:List RV} {vs:List V} {l:List Val},jz C Z loc s sv H rs vs→bI rs s=.ok l s'→∃ Z',Ext Z loc Z' loc∧SR C Z' loc s' sv H∧bc C.cA Z' loc l vs:=by
 intro rs
 induction rs generalizing Z s with
 | nil=>intro vs l h e;cases e;exact⟨Z,Ext.refl _ _,r,h⟩
 | cons x rs ih=>
  intro vs l h e
  obtain⟨v,t,rfl,st,q,h⟩:=h
  unfold Vw.bI at e
  cases e1:Vw.eu x s with
  | stuck=>rw[e1]at e;cases e
  | exc y s2=>exact absurd e1 xC
  | ok y s1=>
   rw[e1]at e
   simp only[Res.aa]at e
   obtain⟨Z1,g1,r1,q1⟩:=r.eu q e1
   cases e2:Vw.bI rs s1 with
   | stuck=>rw[e2]at e;cases e
   | exc y s2=>rw[e2]at e;cases e
   | ok ys s2=>
    rw[e2]at e
    cases e
    obtain⟨Z2,g2,r2,q2⟩:=ih r1 (h.mono g1) e2
    exact⟨Z2,g1.trans g2,r2,v,t,rfl,q1.mono g2,q2⟩
theorem ie:∀ {rs:List RV} {s s1:State} {x:Exn},bI rs s≠ .exc x s1
 | [],s,s1,x=>by simp[bI]
 | r::rs,s,s1,x=>by
  unfold bI
  cases e:eu r s with
  | stuck=>simp
  | exc y s2=>exact absurd e xC
  | ok y s1=>
   simp only[Res.aa]
   cases e2:bI rs s1 with
   | stuck=>simp
   | exc y s2=>exact absurd e2 ie
   | ok ys s2=>simp
theorem AS{l:List Val}{vs:List V}{p:Addr}(h:bc C.cA Z loc l vs)(hp:Z p=some (.tup vs)):c7 C.cA Z loc (nK l) (.ref p):=by
 unfold nK
 split
 ·rename_i ds e
  rw[toDs_inv e]at h
  exact⟨p,vs,rfl,hp,fB.mp h⟩
 ·exact⟨p,vs,rfl,hp,h⟩
theorem EPost.tup{l:List Val}{vs:List V}{p:Addr}{Q:VK}(h:EPost C Z loc sv (.ok (.val (nK l)) s) Q)(r:SR C Z loc s sv H)(q:bc C.cA Z loc l vs)(np:H p=none):Q (.ref p) (upd H p (.tup vs)):=by
 have r1:=(r.grow (dQ np)).xE (o:=.tup vs) upd_same (r.free np)
 have g:Ext Z loc (upd Z p (.tup vs)) loc:=Ext.z (dQ (r.free np).z)
 exact h _ loc _ _ g r1 (AS (bc.mono g l q) upd_same)
theorem Ho{k:Nat}{fs:List (State→Res RV)}(h:PA X es (eR C (aC fs))):PE X (.Tuple es k pos) (aA C (fun s=>(aC fs s).bind xv)):=by
 refine c6 (pe_tup h) fun sv H Q ⟨Z,loc,s,r,q⟩=>?_
 refine(eR.qZ r q).imp fun vs H1 ⟨Z1,l1,s1,rs,g1,r1,q1,h1⟩=>?_
 unfold xv at h1
 cases e:bI rs s1 with
 | stuck=>rw[e]at h1;exact h1.elim
 | exc y s2=>exact absurd e ie
 | ok l s2=>
  rw[e]at h1
  simp only[Res.aa]at h1
  obtain⟨Z2,g2,r2,q2⟩:=r1.bI q1 e
  split at h1
  ·rename_i hl
   exact⟨by rw[←du q2];exact hl,fun p np=>(h1.ext g2).tup r2 q2 np⟩
  ·exact h1.elim
theorem HI{fs:List (State→Res RV)}(h:PA X es (eR C (aC fs))):PE X (.List es pos) (aA C (fun s=>(aC fs s).bind yk)):=by
 refine c6 (pe_lst h) fun sv H Q ⟨Z,loc,s,r,q⟩=>?_
 refine(eR.qZ r q).imp fun vs H1 ⟨Z1,l1,s1,rs,g1,r1,q1,h1⟩=>?_
 unfold yk at h1
 cases e:bI rs s1 with
 | stuck=>rw[e]at h1;exact h1.elim
 | exc y s2=>exact absurd e ie
 | ok l s2=>
  rw[e]at h1
  simp only[Res.aa]at h1
  obtain⟨Z2,g2,r2,q2⟩:=r1.bI q1 e
  split at h1
  ·rename_i hl
   exact⟨by rw[←du q2];exact hl,fun p np=>(h1.ext g2).new r2 np (by simp) ⟨_,upd_same,q2⟩⟩
  ·exact h1.elim
theorem iN:∀ {l:List Val} {xs:List V} {i:Nat} {x:Val},bc C.cA Z loc l xs→l[i]? =some x→∃ v,xs[i]? =some v∧c7 C.cA Z loc x v
 | [],xs,i,x,h,e=>by simp at e
 | y::l,xs,0,x,⟨v,r,e1,q,t⟩,e=>by
  rw[e1]
  simp at e
  exact⟨v,rfl,e▸q⟩
 | y::l,xs,i+1,x,⟨v,r,e1,q,t⟩,e=>by
  rw[e1]
  exact iN (i:=i) t (by simpa using e)
theorem xU{l:List Val}{xs:List V}{i:Int}{x:Val}(h:bc C.cA Z loc l xs)(e:atI l i=some x):∃ v,atI xs i=some v∧c7 C.cA Z loc x v:=by
 unfold atI at e ⊢
 rw[←du h]
 cases e1:ixN l.length i with
 | none=>rw[e1]at e;cases e
 | some j=>
  rw[e1]at e
  exact iN h e
def IP(K:PySem.W.Frag):R2:=fun x y H Q=>rIxD x y H Q∨rIx K x y H Q
theorem Es:tQ C bK (IP X.K):=by
 intro Z loc s sv H x y u v Q r hx hy h
 unfold bK at h
 split at h
 ·rename_i w e
  obtain⟨a,o,h1,h2,h3⟩:=r.jA hx hy e
  cases o with
  | none=>exact h3.elim
  | some z=>exact .inl ⟨a,z,h1,h2,h.val r h3⟩
 ·exact h.elim
 ·split at h
  ·rename_i t i e1 e2
   split at h
   ·rename_i hl
    split at h
    ·rename_i c e3
     exact .inr (.inr (.inr ⟨⟨t.toArray⟩,i,c,r.dv hx e1,r.dv hy e2,by simpa [Str.length]using hl,by simpa using e3,h.a0 r rfl⟩))
    ·exact h.elim
   ·exact h.elim
  ·rename_i i e2 _
   split at h
   ·rename_i l e3
    split at h
    ·rename_i w e4
     obtain⟨a,xs,h1,h2,h3⟩:=r.lv hx e3
     obtain⟨z,h4,h5⟩:=xU h3 e4
     exact .inr (.inl ⟨a,xs,i,z,h1,r.dv hy e2,.inl h2,h4,h.val r h5⟩)
    ·exact h.elim
   ·rename_i l e3
    split at h
    ·rename_i w e4
     obtain⟨a,xs,h1,h2,h3⟩:=r.tv hx e3
     obtain⟨z,h4,h5⟩:=xU h3 e4
     exact .inr (.inr (.inl ⟨a,xs,i,z,h1,r.dv hy e2,.inl (.inl h2),h4,h.val r h5⟩))
    ·exact h.elim
   ·exact h.elim
  ·exact h.elim
theorem IE(hu:X.A.units+64<cLine)(ha:PE X a (aA C fa))(hb:PE X b (aA C fb))(hs:mu b=true):PE X (.Subscript a b pos) (aA C (ai fa fb bK)):=
 c6 (pe_ix ((GZ hu).or ix_seq) ha hb (zP hs)) fun sv H Q h=>tK Es h
def yh(C:Cst)(p:Par):TO:=fun sv H Q=>∃ Z loc s,SR C Z loc s sv H∧match jP p s with
 | .ok o s'=>∀ Z' loc' H',Ext Z loc Z' loc'→SR C Z' loc' s' sv H'→Q o H'
 | .exc x s'=>∀ Z' loc' H' c d,Ext Z loc Z' loc'→SR C Z' loc' s' sv H'→lH C Z' H' x c d→C.W c d sv H'
 | .stuck=>False
theorem jt:PO X none (yh C .no):=⟨fun pins t sv H Q I ⟨Z,loc,s,r,h⟩=>po_none.run pins t sv H Q I (h Z loc H (Ext.refl _ _) r)⟩
theorem gV(h:PE X e (aA C f)):PO X (some e) (yh C (.ex f)):=by
 refine⟨fun pins t sv H Q I ⟨Z,loc,s,r,q⟩=>(po_some h).run pins t sv H Q I ?_⟩
 unfold jP at q
 dsimp only at q
 refine aA.AO (f:=f) (PO:=fun Z loc (t:Res (Option Int))=>match t with
  | .ok o s'=>∀ Z' loc' H',Ext Z loc Z' loc'→SR C Z' loc' s' sv H'→Q o H'
  | .exc x s'=>∀ Z' loc' H' c d,Ext Z loc Z' loc'→SR C Z' loc' s' sv H'→lH C Z' H' x c d→C.W c d sv H'
  | .stuck=>False) r q (fun Z1 l1 t g q=>?_) (fun _ _ q=>q) (fun q=>q) fun v H1 ⟨Z1,l1,s1,x,g1,r1,st1,q1,h1⟩=>?_
 ·cases t with
  | ok o s'=>exact fun Z2 l2 H2 g2=>q Z2 l2 H2 (g.trans g2)
  | exc x s'=>exact fun Z2 l2 H2 c d g2=>q Z2 l2 H2 c d (g.trans g2)
  | stuck=>exact q
 ·have key:(∃ i,dv s1 x=some (.int i)∧yP x s1=.ok (some i) s1)∨yP x s1=.stuck:=by
   unfold yP
   split
   ·rename_i i e
    exact .inl ⟨i,e,rfl⟩
   ·exact .inr rfl
  rcases key with⟨i,e1,e2⟩ | e2
  ·rw[e2]at h1
   exact⟨i,r1.dv q1 e1,h1 Z1 l1 H1 (Ext.refl _ _) r1⟩
  ·rw[e2]at h1
   exact h1.elim
theorem td:∀ {l:List Val} {xs:List V} (n:Nat),bc C.cA Z loc l xs→bc C.cA Z loc (l.drop n) (xs.drop n)
 | l,xs,0,h=>h
 | [],xs,n+1,h=>by rw[show xs=_ from h];exact rfl
 | x::l,xs,n+1,⟨v,r,e,q,t⟩=>by rw[e];exact td n t
theorem tH:∀ {l:List Val} {xs:List V} (n:Nat),bc C.cA Z loc l xs→bc C.cA Z loc (l.take n) (xs.take n)
 | l,xs,0,h=>rfl
 | [],xs,n+1,h=>by rw[show xs=_ from h];exact rfl
 | x::l,xs,n+1,⟨v,r,e,q,t⟩=>by rw[e];exact⟨v,r.take n,rfl,q,tH n t⟩
theorem vA{l:List Val}{xs:List V}{lo hi:Option Int}(h:bc C.cA Z loc l xs):bc C.cA Z loc (ey l lo hi) (cutV xs lo hi):=by
 unfold ey cutV
 rw[←du h]
 exact tH _ (td _ h)
theorem jZ{lo hi:Option Expr}{pl ph:Par}{p2:Pos}(he:PE X e (aA C f))(hl:PO X lo (yh C pl))(hh:PO X hi (yh C ph)):PE X (.Subscript e (.Slice lo hi none p2) pos) (aA C (jL f pl ph)):=by
 refine c6 (pe_slice (sl_str.or (sl_list.or sl_tup)) he hl hh) fun sv H Q ⟨Z,loc,s,r,q⟩=>?_
 refine(aA.nB r q).imp fun v H1 ⟨Z1,l1,s1,x,g1,r1,st1,q1,h1⟩=>?_
 have part:∀ {p:Par} {k:Option Int→State→Res RV} {Z1:Hp} {l1:List Addr} {s1:State} {H1:Hp},SR C Z1 l1 s1 sv H1→EPost C Z1 l1 sv ((jP p s1).bind k) Q→
   yh C p sv H1 fun o H2=>∃ Z2 l2 s2,Ext Z1 l1 Z2 l2∧SR C Z2 l2 s2 sv H2∧EPost C Z2 l2 sv (k o s2) Q:=by
  intro p k Z1 l1 s1 H1 r1 h
  refine⟨Z1,l1,s1,r1,?_⟩
  cases e:jP p s1 with
  | stuck=>rw[e]at h;exact h
  | exc y s2=>rw[e]at h;exact h
  | ok o s2=>rw[e]at h;exact fun Z2 l2 H2 g2 r2=>⟨Z2,l2,s2,g2,r2,EPost.ext h g2⟩
 have imp:∀ {p:Par} {H1:Hp} {Q1 Q2:Option Int→Hp→Prop},yh C p sv H1 Q1→(∀ o H,Q1 o H→Q2 o H)→yh C p sv H1 Q2:=by
  rintro p H1 Q1 Q2 ⟨Z,loc,s,r,h⟩ m
  refine⟨Z,loc,s,r,?_⟩
  cases e:jP p s with
  | stuck=>rw[e]at h;exact h
  | exc y s2=>rw[e]at h;exact h
  | ok o s2=>rw[e]at h;exact fun Z2 l2 H2 g2 r2=>m _ _ (h Z2 l2 H2 g2 r2)
 refine imp (part r1 h1) fun o1 H2 ⟨Z2,l2,s2,g2,r2,h2⟩=>?_
 refine imp (part r2 h2) fun o2 H3 ⟨Z3,l3,s3,g3,r3,h3⟩=>?_
 have q3:=q1.mono (s':=s3) (H':=H3) (g2.trans g3) st1
 unfold tX at h3
 split at h3
 ·rename_i t e1
  split at h3
  ·rename_i hz
   refine .inl ⟨⟨t.toArray⟩,r3.dv q3 e1,by simpa [Str.length]using hz,h3.a0 r3 ?_⟩
   show V.str _=V.str _
   simp[cutS,ey,Str.length]
  ·exact h3.elim
 ·split at h3
  ·rename_i l e1
   obtain⟨a,xs,h4,h5,h6⟩:=r3.lv q3 e1
   exact .inr (.inl ⟨a,xs,h4,.inl h5,fun p np=>h3.new r3 np (by simp) ⟨_,upd_same,vA h6⟩⟩)
  ·split at h3
   ·rename_i l e1
    obtain⟨a,xs,h4,h5,h6⟩:=r3.tv q3 e1
    split at h3
    ·exact h3.elim
    ·rename_i hne
     refine .inr (.inr ⟨a,xs,h4,.inl (.inl h5),fun z=>hne ?_,fun p np=>h3.tup r3 (vA h6) np⟩)
     rw[←du h6]at z
     unfold ey
     rw[z.1,z.2]
     simp
   ·exact h3.elim
end
end Vw
namespace Vw
open PySem L2 PyProof.Rows
def nO(i:Nat):RV→State→Option State
 | .val x,s=>some { s with sg:=s.sg.set i (some (.v x)) }
 | .new o,s=>some { s with sg:=s.sg.set i (some (.own o)) }
 | .own j,s=>match jx j s with
  | .ok x s=>some { s with sg:=s.sg.set i (some (.v x)) }
  | _=>none
def wr(r:RV)(o:Ob)(s:State):State:=
 match jJ s r with
 | .own i=> { s with sg:=s.sg.set i (some (.own o)) }
 | .val (.r n)=> { s with st:=s.st.set n o }
 | _=>s
inductive Tg where
 | nm (i:Nat)
 | tp (l:List Tg)
mutual
def iF:Tg→Val→State→Option State
 | .nm i,x,s=>some { s with sg:=s.sg.set i (some (.v x)) }
 | .tp ts,x,s=>match tv s (.val x)with
  | some l=>if l.length=ts.length then lX ts l s else none
  | none=>none
def lX:List Tg→List Val→State→Option State
 | [],[],s=>some s
 | t::ts,x::xs,s=>match iF t x s with
  | some s=>lX ts xs s
  | none=>none
 | _,_,_=>none
end
def su(o:Option State):Res Fl:=
 match o with
 | some s=>.ok .nx s
 | none=>.stuck
def cq(i:Nat)(f:State→Res RV)(s:State):Res Fl:=(f s).bind fun r s=>su (nO i r s)
def dH(f:State→Res RV)(s:State):Res Fl:=(f s).bind fun _ s=>.ok .nx s
def cC(f:State→Res RV)(s:State):Res Fl:=(f s).bind fun r s=>.ok (.ret r) s
def dW(t:State→Res Bool)(a b:State→Res Fl)(s:State):Res Fl:=(t s).bind fun k s=>if k=true then a s else b s
def av:List (State→Res Fl)→State→Res Fl
 | [],s=>.ok .nx s
 | f::r,s=>match f s with
  | .ok .nx s=>av r s
  | t=>t
def pG:Nat→(State→Res Bool)→(State→Res Fl)→State→Res Fl
 | 0,_,_,_=>.stuck
 | n+1,t,b,s=>(t s).bind fun k s=>if k=true then(match b s with
   | .ok .nx s=>pG n t b s
   | .ok .cnt s=>pG n t b s
   | .ok .brk s=>.ok .nx s
   | r=>r)else .ok .nx s
def j6(t:Tg)(b:State→Res Fl):List Val→State→Res Fl
 | [],s=>.ok .nx s
 | x::r,s=>match iF t x s with
  | none=>.stuck
  | some s=>match b s with
   | .ok .nx s=>j6 t b r s
   | .ok .cnt s=>j6 t b r s
   | .ok .brk s=>.ok .nx s
   | r=>r
def ug(o i:RV)(x:Val)(s:State):Option State:=
 match ob s o,dv s i with
 | some (.lst l),some (.int k)=>match ixN l.length k with
  | some j=>some (wr o (.lst (l.set j x)) s)
  | none=>none
 | some (.dic false l),some d=>match x7 d with
  | some k=>if l.length<sizeLine then some (wr o (.dic false (uG l k x)) s)else none
  | none=>none
 | some (.dit false l),some (.tup d)=>match wQ d with
  | some k=>if l.length<sizeLine then some (wr o (.dit false (uG l k x)) s)else none
  | none=>none
 | _,_=>none
def zq(fo fi fv:State→Res RV)(s:State):Res Fl:=
 (ev fv s).bind fun v s=>(ev fo s).bind fun o s=>(ev fi s).bind fun i s=>match eu v s with
  | .ok x s=>su (ug o i x s)
  | _=>.stuck
def zo:Bop→Option (Int→Int→Int)
 | .add=>some fun a b=>a+b
 | .sub=>some fun a b=>a-b
 | _=>none
section
variable{C:Cst}{Z Z':Hp}{loc loc':List Addr}{s s':State}{sv sv':L2.St}{H H':Hp}
theorem SR.unset(r:SR C Z loc s sv H)(i:Nat)(v:Option V):SR C Z loc { s with sg:=s.sg.set i none } (sv.set i v) H:=by
 have r1:=r.drop i
 have key:∀ {j:Nat} {x:Sl},(s.sg.set i none)[j]? =some (some x)→(sv.set i v)[j]? =sv[j]? :=fun {j x} h=>by
  rcases dV h with⟨_,q⟩ | ⟨ne,q⟩
  ·cases q
  ·rw[List.getElem?_set_ne ne]
 refine⟨r1.fr,r1.zh,r1.zf,r1.lk,r1.ln,r1.nd,r1.lh,r1.cl,fun j x h=>?_,fun j o h=>?_,fun j k o o' a h1 h2 h3 h4=>?_,by simpa using r1.ls⟩
 ·rw[key h];exact r1.vl j x h
 ·rw[key h];exact r1.ow j o h
 ·rw[key h1]at h3;rw[key h2]at h4;exact r1.oi j k o o' a h1 h2 h3 h4
theorem SR.store(r:SR C Z loc s sv H){i:Nat}(hi:i<sv.length){x:Val}{v:V}(q:c7 C.cA Z loc x v):SR C Z loc { s with sg:=s.sg.set i (some (.v x)) } (sv.set i (some v)) H:=by
 have:=(r.unset i (some v)).Ez (i:=i) (v:=v) (x:=x) (by simp[hi]) q
 simpa [sI]using this
theorem SR.nO(r:SR C Z loc s sv H){i:Nat}(hi:i<sv.length){rv:RV}{v:V}(q:da C Z loc s sv H rv v)(e:nO i rv s=some s'):∃ Z',Ext Z loc Z' loc∧SR C Z' loc s' (sv.set i (some v)) H:=by
 cases rv with
 | val x=>cases e;exact⟨Z,Ext.refl _ _,r.store hi q⟩
 | own j=>
  unfold Vw.nO at e
  dsimp only at e
  split at e
  ·rename_i x s1 e1
   cases e
   obtain⟨Z1,g,r1,q1⟩:=r.jx q e1
   exact⟨Z1,g,r1.store hi q1⟩
  ·cases e
 | new o=>
  cases e
  obtain⟨a,rfl,ne,h1,h2⟩:=q
  have r1:=r.unset i (some (.ref a))
  have f:Free C Z loc { s with sg:=s.sg.set i none } (sv.set i (some (.ref a))) a:=by
   refine⟨h2.z,h2.f,h2.l,fun j ob h=>?_⟩
   rcases dV h with⟨_,q⟩ | ⟨ne',q⟩
   ·cases q
   ·rw[List.getElem?_set_ne ne'];exact h2.o j ob q
  have:=r1.I0 (i:=i) (o:=o) (a:=a) (by simp[hi]) ne h1 f
  exact⟨Z,Ext.refl _ _,by simpa [sI]using this⟩
theorem SR.write(r:SR C Z loc s sv H){rv:RV}{v:V}{o o':Ob}{a:Addr}{u:HO}(h:da C Z loc s sv H rv v)(e:Vw.ob s rv=some o)(ea:v=.ref a)(ne:o'≠ .gone)(nf:∀ x w,H a≠some (.frz x w))
  (q:Cell C.cA Z loc (upd H a u) a o'):SR C Z loc (wr rv o' s) sv (upd H a u):=by
 have q0:=r.jJ h
 have zz:Z a=none∧C.Fr a=none:=by
  unfold Vw.ob at e
  split at e
  ·rename_i i e1
   rw[e1]at q0
   split at e
   ·rename_i o1 e2
    obtain⟨b,h1,_,_,h4,h5,_⟩:=r.ow i _ e2
    rw[show sv[i]? =some (some v)from q0,ea]at h1
    cases h1
    exact⟨h4,h5⟩
   ·cases e
  ·rename_i n e1
   rw[e1]at q0
   obtain⟨b,h1,h2⟩:=q0
   rw[ea]at h2
   cases h2
   split at e
   ·cases e
   ·rename_i o1 ng e2
    exact⟨(r.cl n a _ h1 e2 ng).2,(r.lh a (List.mem_of_getElem? h1)).2⟩
   ·cases e
  ·cases e
 have cellAt:∀ {b:Addr} {ob:Ob},b≠a→Cell C.cA Z loc H b ob→Cell C.cA Z loc (upd H a u) b ob:=fun {b ob} hb x=>x.at (upd_ne hb)
 have fr:Same C.Fr (upd H a u):=fun b x hx=>by
  have hb:b≠a:=fun z=>by rw[z,zz.2]at hx;cases hx
  rw[upd_ne hb];exact r.fr b x hx
 have zh:∀ (b:Addr) (x:HO),Z b=some x→Rz (upd H a u) b x:=fun b x hx=>by
  have hb:b≠a:=fun z=>by rw[z,zz.1]at hx;cases hx
  unfold Rz
  rw[upd_ne hb];exact r.zh b x hx
 have lk:∀ (b:Addr) (x:Obj) (w:HO),C.H0 b=some (.frz x w)→upd H a u b=some (.frz x w):=fun b x w hx=>by
  have hb:b≠a:=fun z=>nf x w (z▸r.lk b x w hx)
  rw[upd_ne hb];exact r.lk b x w hx
 have lh:∀ b∈loc,upd H a u b≠none∧C.Fr b=none:=fun b hb=>by
  refine⟨?_,(r.lh b hb).2⟩
  by_cases hba:b=a
  ·rw[hba,upd_same];simp
  ·rw[upd_ne hba];exact(r.lh b hb).1
 unfold Vw.ob at e
 unfold wr
 split at e
 ·rename_i i e1
  rw[e1]at q0
  split at e
  ·rename_i o1 e2
   cases e
   have hi:sv[i]? =some (some (.ref a)):=by rw[←ea];exact q0
   obtain⟨b,h1,h2,h3,h4,h5,h6⟩:=r.ow i _ e2
   rw[hi]at h1
   cases h1
   try rw[e1]
   try dsimp only
   refine⟨fr,zh,r.zf,lk,r.ln,r.nd,lh,fun n b ob g1 g2 g3=>?_,fun j x g=>?_,fun j ob g=>?_,fun j k o1 o2 b g1 g2 g3 g4=>?_,by simpa using r.ls⟩
   ·have hb:b≠a:=fun z=>h6 (z▸List.mem_of_getElem? g1)
    exact⟨cellAt hb (r.cl n b ob g1 g2 g3).1,(r.cl n b ob g1 g2 g3).2⟩
   ·change (s.sg.set i _)[j]? =_ at g
    rcases dV g with⟨_,k⟩ | ⟨_,k⟩
    ·cases k
    ·exact r.vl j x k
   ·change (s.sg.set i _)[j]? =_ at g
    rcases dV g with⟨rfl,k⟩ | ⟨nj,k⟩
    ·cases k
     exact⟨a,hi,ne,q,h4,h5,h6⟩
    ·obtain⟨b,f1,f2,f3,f4⟩:=r.ow j ob k
     have hb:b≠a:=fun z=>nj (r.oi i j _ ob a e2 k hi (z▸f1))
     exact⟨b,f1,f2,cellAt hb f3,f4⟩
   ·have pick:∀ {j:Nat} {ob:Ob},(s.sg.set i (some (.own o')))[j]? =some (some (.own ob))→∃ ob',s.sg[j]? =some (some (.own ob')):=fun {j ob} g=>by
     rcases dV g with⟨rfl,_⟩ | ⟨_,k⟩
     ·exact⟨_,e2⟩
     ·exact⟨_,k⟩
    obtain⟨p1,k1⟩:=pick g1
    obtain⟨p2,k2⟩:=pick g2
    exact r.oi j k p1 p2 b k1 k2 g3 g4
  ·cases e
 ·rename_i n e1
  rw[e1]at q0
  obtain⟨b,h1,h2⟩:=q0
  rw[ea]at h2
  cases h2
  try rw[e1]
  try dsimp only
  have hn:n<s.st.length:=by rw[←r.ln];exact(List.getElem?_eq_some_iff.mp h1).1
  refine⟨fr,zh,r.zf,lk,by simpa using r.ln,r.nd,lh,fun m b ob g1 g2 g3=>?_,r.vl,fun j ob g=>?_,r.oi,r.ls⟩
  ·rcases dV g2 with⟨rfl,g⟩ | ⟨nm,g⟩
   ·cases g
    rw[h1]at g1
    cases g1
    exact⟨q,zz.1⟩
   ·have hb:b≠a:=fun z=>by
     subst z
     obtain⟨l1,e3⟩:=List.getElem?_eq_some_iff.mp h1
     obtain⟨l2,e4⟩:=List.getElem?_eq_some_iff.mp g1
     exact nm ((List.getElem_inj r.nd).mp (e3.trans e4.symm))
    exact⟨cellAt hb (r.cl m b ob g1 g g3).1,(r.cl m b ob g1 g g3).2⟩
  ·obtain⟨b,f1,f2,f3,f4,f5,f6⟩:=r.ow j ob g
   have hb:b≠a:=fun z=>f6 (z▸List.mem_of_getElem? h1)
   exact⟨b,f1,f2,cellAt hb f3,f4,f5,f6⟩
 ·cases e
mutual
def vW:Tg→List Nat
 | .nm i=>[i]
 | .tp l=>xD l
def xD:List Tg→List Nat
 | []=>[]
 | t::l=>vW t++xD l
end
def Off(l:List Nat)(a b:L2.St):Prop:=b.length=a.length∧∀ j,j∉l→b[j]? =a[j]?
def pF(C:Cst)(t:Tg):TG:=fun v sv H Q=>∃ Z loc s x,SR C Z loc s sv H∧c7 C.cA Z loc x v∧match iF t x s with
 | some s'=>∀ sv',Off (vW t) sv sv'→SR C Z loc s' sv' H→Q sv' H
 | none=>False
def y0(C:Cst)(ts:List Tg):TGs:=fun vs sv H Q=>∃ Z loc s xs,SR C Z loc s sv H∧bc C.cA Z loc xs vs∧match lX ts xs s with
 | some s'=>∀ sv',Off (xD ts) sv sv'→SR C Z loc s' sv' H→Q sv' H
 | none=>False
variable{X:Cx}{e a b c:Expr}{es:List Expr}{pos:Pos}{f fa fb fc fo fi fv:State→Res RV}{ft:State→Res Bool}
theorem yA{t t':TG}{e:Expr}(h:PG X e t)(m:∀ v sv H Q,sv.length=X.N.length→t' v sv H Q→t v sv H Q):PG X e t':=⟨fun pins s sv H v u Q I r q=>h.run pins s sv H v u Q I r (m v sv H Q I.len q)⟩
theorem wZ{t t':TGs}{e:List Expr}(h:PGs X e t)(m:∀ v sv H Q,sv.length=X.N.length→t' v sv H Q→t v sv H Q):PGs X e t':=⟨fun pins s sv H v u Q I r q=>h.run pins s sv H v u Q I r (m v sv H Q I.len q)⟩
theorem xg{st:Stmt}{t t':TS}(h:PS X st t)(m:∀ D sv H,sv.length=X.N.length→t' D sv H→t D sv H):PS X st t':=⟨fun pins s sv H D I q=>h.run pins s sv H D I (m D sv H I.len q)⟩
theorem Hf{i:Nat}{x:Str}(hN:X.N.Nodup)(hi:X.N[i]? =some x)(hx:Loc X.env.scope x)(hf:X.fn x=true∨X.env.scope.names.lookup x=some .local):PG X (.Name x pos) (pF C (.nm i)):=by
 refine yA (pg_name hN hi hx hf) fun v sv H Q hl ⟨Z,loc,s,y,r,q,h⟩=>?_
 have hi':i<sv.length:=by rw[hl];exact(List.getElem?_eq_some_iff.mp hi).1
 exact h _ ⟨List.length_set,fun j hj=>List.getElem?_set_ne (fun e=>hj (by simp[vW,e]))⟩ (r.store hi' q)
theorem Dh:PGs X [] (y0 C []):=wZ pgs_nil fun vs sv H Q hl ⟨Z,loc,s,xs,r,q,h⟩=>by
 cases xs with
 | nil=>exact⟨q,h sv ⟨rfl,fun _ _=>rfl⟩ r⟩
 | cons x xs=>exact h.elim
theorem xu{e:Expr}{es:List Expr}{env:Env}(h:notStar e=true):assignEach (e::es) env=(false,assign e env)::assignEach es env:=by
 cases e<;> first | rfl | cases h
theorem yd{t:Tg}{ts:List Tg}(h1:PG X e (pF C t))(h2:PGs X es (y0 C ts))(hs:notStar e=true):PGs X (e::es) (y0 C (t::ts)):=by
 refine wZ (pgs_cons h1 h2 (by rw[xu hs];rfl)) fun vs sv H Q hl ⟨Z,loc,s,xs,r,q,h⟩=>?_
 cases xs with
 | nil=>exact h.elim
 | cons x xs=>
  obtain⟨v,t',rfl,q1,q2⟩:=q
  refine⟨v,t',rfl,Z,loc,s,x,r,q1,?_⟩
  unfold lX at h
  cases e1:iF t x s with
  | none=>rw[e1]at h;exact h
  | some s1=>
   rw[e1]at h
   refine fun sv' o' r'=>⟨Z,loc,s1,xs,r',q2,?_⟩
   dsimp only at h
   split at h
   ·rename_i s2 e2
    exact fun sv2 o2 r2=>h sv2 ⟨o2.1.trans o'.1,fun j hj=>(o2.2 j fun z=>hj (by simp[xD,z])).trans (o'.2 j fun z=>hj (by simp[xD,z]))⟩ r2
   ·exact h.elim
theorem yw:∀ {es:List Expr} {env:Env},(assignEach es env).length=es.length
 | [],_=>rfl
 | e::es,env=>by cases e<;> exact congrArg Nat.succ yw
theorem yW:∀ {es:List Expr} {env:Env},es.all notStar=true→(assignEach es env).findIdx? (·.1)=none
 | [],_,_=>rfl
 | e::es,env,h=>by
  simp only[List.all_cons,Bool.and_eq_true]at h
  rw[xu h.1,List.findIdx?_cons]
  simp[yW h.2]
theorem DH{k:Nat}{ts:List Tg}(hc:X.calm=true)(h:PGs X es (y0 C ts))(hs:es.all notStar=true)(hl:es.length=ts.length):PG X (.Tuple es k pos) (pF C (.tp ts)):=by
 refine yA (pg_tup hc h (n:=ts.length) (yw.trans hl) (yW hs)) fun v sv H Q hl ⟨Z,loc,s,y,r,q,h⟩=>?_
 unfold iF at h
 cases e1:tv s (.val y)with
 | none=>rw[e1]at h;exact h.elim
 | some l=>
  rw[e1]at h
  dsimp only at h
  obtain⟨a,xs,h1,h2,h3⟩:=r.tv (rv:=.val y) q e1
  by_cases hlen:l.length=ts.length
  ·rw[if_pos hlen]at h
   exact⟨a,xs,h1,.inl (.inl h2),by rw[←du h3];exact hlen,Z,loc,s,l,r,h3,h⟩
  ·rw[if_neg hlen]at h;exact h.elim
theorem dk.nx{D:Ends}(h:dk C Z loc (.ok .nx s) D)(r:SR C Z loc s sv H):D.nx sv H:=h Z loc sv H (Ext.refl _ _) r
theorem dE(h:PE X e (aA C f))(hc:jF e=true):PS X (.Expr e pos) (fK C (dH f)):=by
 refine iC (ps_expr h (vp hc)) fun D sv H ⟨Z,loc,s,r,q⟩=>?_
 exact(aA.oU r q).imp fun v H1 ⟨Z1,l1,s1,x,g1,r1,q1,h1⟩=>h1.nx r1
theorem cy(h:PE X e (aA C f)):PS X (.Return (some e) pos) (fK C (cC f)):=by
 refine iC (ps_ret h) fun D sv H ⟨Z,loc,s,r,q⟩=>?_
 exact(aA.oU r q).imp fun v H1 ⟨Z1,l1,s1,x,g1,r1,q1,h1⟩=>h1 Z1 l1 sv H1 v (Ext.refl _ _) r1 q1
theorem dN{a b:List Stmt}{sa sb:State→Res Fl}(ht:PT X c (e6 C ft))(ha:PSs X a (fK C sa))(hb:PSs X b (fK C sb)):PS X (.If c a b pos) (fK C (dW ft sa sb)):=by
 refine iC (ps_if ht ha hb) fun D sv H ⟨Z,loc,s,r,q⟩=>?_
 refine(e6.oU r q).imp fun k H1 ⟨Z1,l1,s1,g1,r1,h1⟩=>?_
 cases k with
 | true=>exact⟨Z1,l1,s1,r1,h1⟩
 | false=>exact⟨Z1,l1,s1,r1,h1⟩
theorem aB:PSs X [] (fK C (av [])):=xZ pss_nil fun D sv H ⟨Z,loc,s,r,h⟩=>h.nx r
theorem af{st:Stmt}{sts:List Stmt}{g:State→Res Fl}{gs:List (State→Res Fl)}(h1:PS X st (fK C g))(h2:PSs X sts (fK C (av gs))):PSs X (st::sts) (fK C (av (g::gs))):=by
 refine xZ (pss_cons h1 h2) fun D sv H ⟨Z,loc,s,r,h⟩=>?_
 refine⟨Z,loc,s,r,?_⟩
 unfold av at h
 cases e:g s with
 | stuck=>rw[e]at h;exact h
 | exc x s1=>rw[e]at h;exact h
 | ok k s1=>
  rw[e]at h
  cases k with
  | nx=>exact fun Z1 l1 sv1 H1 g1 r1=>⟨Z1,l1,s1,r1,dk.ext h g1⟩
  | ret rv=>exact h
  | brk=>exact h
  | cnt=>exact h
theorem Cc{i:Nat}{x:Str}{p:Pos}(hN:X.N.Nodup)(hi:X.N[i]? =some x)(hx:Loc X.env.scope x)(hf:X.fn x=true∨X.env.scope.names.lookup x=some .local)(h:PE X e (aA C f))(hc:jF e=true):
  PS X (.Assign [.Name x p] e pos) (fK C (cq i f)):=by
 refine xg (ps_set hN hi hx h (vp hc) hf) fun D sv H hl ⟨Z,loc,s,r,q⟩=>?_
 have hi':i<sv.length:=by rw[hl];exact(List.getElem?_eq_some_iff.mp hi).1
 refine(aA.oU r q).imp fun v H1 ⟨Z1,l1,s1,y,g1,r1,q1,h1⟩=>?_
 show D.nx (sv.set i (some v)) H1
 unfold su at h1
 split at h1
 ·rename_i s2 e2
  obtain⟨Z2,g2,r2⟩:=r1.nO hi' q1 e2
  exact(h1.ext g2).nx r2
 ·exact h1.elim
end
end Vw
namespace Vw
open PySem L2 PyProof.Rows
section
variable{C:Cst}{Z Z':Hp}{loc loc':List Addr}{s s':State}{sv sv':L2.St}{H H':Hp}
variable{X:Cx}{e a b c:Expr}{es:List Expr}{pos:Pos}{f fa fb fc fo fi fv:State→Res RV}{ft:State→Res Bool}
theorem F4(hu:X.A.units+64<cLine):PSet X (fun o i v H Q=>∃ a H',o=.ref a∧DPut H a i v H'∧Q H'):=by
 intro pins s sv H o i v ov iv u Q I ro ri rv ⟨a,H',e,g,q⟩
 subst e
 cases ro
 exact d_setItem (by omega) I g ri rv fun s' I'=>⟨H',I',q⟩
theorem DQ{t t':TSet}(h:PSet X t)(h':PSet X t'):PSet X (fun o i v H Q=>t o i v H Q∨t' o i v H Q):=by
 intro pins s sv H o i v ov iv u Q I ro ri rv q
 rcases q with q | q
 ·exact h pins s sv H o i v ov iv u Q I ro ri rv q
 ·exact h' pins s sv H o i v ov iv u Q I ro ri rv q
theorem vy:∀ {l:List Val} {xs:List V} (j:Nat) {x:Val} {v:V},bc C.cA Z loc l xs→c7 C.cA Z loc x v→bc C.cA Z loc (l.set j x) (xs.set j v)
 | [],xs,j,x,v,h,q=>by rw[show xs=_ from h];exact rfl
 | y::l,xs,0,x,v,⟨w,t,e,q1,q2⟩,q=>by rw[e];exact⟨v,t,rfl,q,q2⟩
 | y::l,xs,j+1,x,v,⟨w,t,e,q1,q2⟩,q=>by rw[e];exact⟨w,t.set j v,rfl,q1,vy j q2 q⟩
theorem EG:∀ {l:List (K0×Val)} {ws:List (Key×V)} (k:K0),eD C.cA Z loc l ws→(l.any fun p=>decide (p.1=k))=ws.any fun p=>decide (p.1=kz k)
 | [],ws,k,h=>by rw[show ws=_ from h];rfl
 | (k',x)::l,ws,k,⟨v,t,e,q,r⟩=>by
  rw[e,List.any_cons,List.any_cons,EG k r]
  congr 1
  by_cases h:k'=k
  ·simp[h]
  ·have h2:¬ kz k'=kz k:=fun z=>h (qF z)
   simp[h,h2]
theorem Eu:∀ {l:List (List K0×Val)} {ws:List (List Key×V)} (k:List K0),eJ C.cA Z loc l ws→(l.any fun p=>decide (p.1=k))=ws.any fun p=>decide (p.1=k.map kz)
 | [],ws,k,h=>by rw[show ws=_ from h];rfl
 | (k',x)::l,ws,k,⟨v,t,e,q,r⟩=>by
  rw[e,List.any_cons,List.any_cons,Eu k r]
  congr 1
  by_cases h:k'=k
  ·simp[h]
  ·have h2:¬ k'.map kz=k.map kz:=fun z=>h (lZ z)
   simp[h,h2]
theorem B6:∀ {l:List (K0×Val)} {ws:List (Key×V)} (k:K0) {x:Val} {v:V},eD C.cA Z loc l ws→c7 C.cA Z loc x v→
  eD C.cA Z loc (l.map fun p=>if p.1=k then(p.1,x)else p) (ws.map fun p=>if p.1=kz k then(p.1,v)else p)
 | [],ws,k,x,v,h,q=>by rw[show ws=_ from h];exact rfl
 | (k',y)::l,ws,k,x,v,⟨w,t,e,q1,r⟩,q=>by
  rw[e,List.map_cons,List.map_cons]
  by_cases h:k'=k
  ·rw[if_pos h,if_pos (by rw[h])];exact⟨v,_,rfl,q,B6 k r q⟩
  ·rw[if_neg h,if_neg (fun z=>h (qF z))];exact⟨w,_,rfl,q1,B6 k r q⟩
theorem B7:∀ {l:List (List K0×Val)} {ws:List (List Key×V)} (k:List K0) {x:Val} {v:V},eJ C.cA Z loc l ws→c7 C.cA Z loc x v→
  eJ C.cA Z loc (l.map fun p=>if p.1=k then(p.1,x)else p) (ws.map fun p=>if p.1=k.map kz then(p.1,v)else p)
 | [],ws,k,x,v,h,q=>by rw[show ws=_ from h];exact rfl
 | (k',y)::l,ws,k,x,v,⟨w,t,e,q1,r⟩,q=>by
  rw[e,List.map_cons,List.map_cons]
  by_cases h:k'=k
  ·rw[if_pos h,if_pos (by rw[h])];exact⟨v,_,rfl,q,B7 k r q⟩
  ·rw[if_neg h,if_neg (fun z=>h (lZ z))];exact⟨w,_,rfl,q1,B7 k r q⟩
theorem FJ:∀ {l m:List (K0×Val)} {ws us:List (Key×V)},eD C.cA Z loc l ws→eD C.cA Z loc m us→eD C.cA Z loc (l++m) (ws++us)
 | [],m,ws,us,h,q=>by rw[show ws=_ from h];exact q
 | (k,y)::l,m,ws,us,⟨w,t,e,q1,r⟩,q=>by rw[e];exact⟨w,t++us,rfl,q1,FJ r q⟩
theorem FR:∀ {l m:List (List K0×Val)} {ws us:List (List Key×V)},eJ C.cA Z loc l ws→eJ C.cA Z loc m us→eJ C.cA Z loc (l++m) (ws++us)
 | [],m,ws,us,h,q=>by rw[show ws=_ from h];exact q
 | (k,y)::l,m,ws,us,⟨w,t,e,q1,r⟩,q=>by rw[e];exact⟨w,t++us,rfl,q1,FR r q⟩
theorem HP{l:List (K0×Val)}{ws:List (Key×V)}(k:K0){x:Val}{v:V}(h:eD C.cA Z loc l ws)(q:c7 C.cA Z loc x v):eD C.cA Z loc (uG l k x) (putK ws (kz k) v):=by
 unfold uG putK
 rw[EG k h]
 split
 ·exact B6 k h q
 ·exact FJ h ⟨v,[],rfl,q,rfl⟩
theorem G5{l:List (List K0×Val)}{ws:List (List Key×V)}(k:List K0){x:Val}{v:V}(h:eJ C.cA Z loc l ws)(q:c7 C.cA Z loc x v):eJ C.cA Z loc (uG l k x) (putK ws (k.map kz) v):=by
 unfold uG putK
 rw[Eu k h]
 split
 ·exact B7 k h q
 ·exact FR h ⟨v,[],rfl,q,rfl⟩
theorem Fb:∀ {l:List (K0×Val)} {ws:List (Key×V)},eD C.cA Z loc l ws→l.length=ws.length
 | [],ws,h=>by rw[show ws=_ from h];rfl
 | (k,y)::l,ws,⟨w,t,e,q1,r⟩=>by rw[e,List.length_cons,List.length_cons,Fb r]
theorem F9:∀ {l:List (List K0×Val)} {ws:List (List Key×V)},eJ C.cA Z loc l ws→l.length=ws.length
 | [],ws,h=>by rw[show ws=_ from h];rfl
 | (k,y)::l,ws,⟨w,t,e,q1,r⟩=>by rw[e,List.length_cons,List.length_cons,F9 r]
def HM:TSet:=fun o i v H Q=>rSetL o i v H Q∨∃ a H',o=.ref a∧DPut H a i v H'∧Q H'
theorem D6(r:SR C Z loc s sv H){o i:RV}{x:Val}{u k v:V}(ho:da C Z loc s sv H o u)(hi:da C Z loc s sv H i k)(hx:c7 C.cA Z loc x v)(e:ug o i x s=some s'){Q:Hp→Prop}(q:∀ H',SR C Z loc s' sv H'→Q H'):HM u k v H Q:=by
 unfold ug at e
 split at e
 ·rename_i l n e1 e2
  split at e
  ·rename_i j e3
   cases e
   obtain⟨a,h1,_,xs,h2,h3⟩:=r.ob ho e1
   refine .inl ⟨a,xs,n,j,h1,r.dv hi e2,h2,by rw[←du h3];exact e3,q _ ?_⟩
   exact r.write ho e1 h1 (by simp) (fun _ _ z=>by rw[h2]at z;cases z) ⟨_,upd_same,vy j h3 hx⟩
  ·cases e
 ·rename_i l d e1 e2
  split at e
  ·rename_i k' e3
   split at e
   ·rename_i hl
    cases e
    obtain⟨a,h1,_,xs,h2,h3⟩:=r.ob ho e1
    have h2:H a=some (.dK xs):=h2
    refine .inr ⟨a,_,h1,.inl ⟨xs,kz k',h2,zp e3 (r.dv hi e2),by rw[←Fb h3];exact hl,rfl⟩,q _ ?_⟩
    exact r.write ho e1 h1 (by simp) (fun _ _ z=>by rw[h2]at z;cases z) ⟨_,upd_same,HP k' h3 hx⟩
   ·cases e
  ·cases e
 ·rename_i l d e1 e2
  split at e
  ·rename_i k' e3
   split at e
   ·rename_i hl
    cases e
    obtain⟨a,h1,_,xs,h2,h3⟩:=r.ob ho e1
    have h2:H a=some (.dT xs):=h2
    obtain⟨b,vs,h4,h5,h6⟩:=r.dv hi e2
    have hb:H b=some (.tup ((k'.map kz).map kV)):=by
     rw[←xH e3 h6]
     exact(r.zh b _ h5).at rfl
    refine .inr ⟨a,_,h1,.inr ⟨xs,k'.map kz,b,h2,h4,hb,by rw[←F9 h3];exact hl,rfl⟩,q _ ?_⟩
    exact r.write ho e1 h1 (by simp) (fun _ _ z=>by rw[h2]at z;cases z) ⟨_,upd_same,G5 k' h3 hx⟩
   ·cases e
  ·cases e
 ·cases e
theorem Dd{o i:Expr}{p:Pos}{env:Env}(h:mu i=true):∀ v,assign (.Subscript o i p) env v=(do
   let ov ←holding [v] (eval o env)
   let iv ←holding [v,ov] (eval i env)
   standAt p
   holding [v,ov,iv] (setItem ov iv v)
   release [v,ov,iv] []):=by
 intro v
 cases i<;> first | rfl | cases h
theorem D4{t e:Expr}{n:Nat}{env:Env}(h:jF e=true):swapsWithSole [t] e n env=pure false:=by
 cases e<;> first | rfl | cases h
theorem Hj{o i v:Expr}{p:Pos}(hu:X.A.units+64<cLine)(ho:PE X o (aA C fo))(hi:PE X i (aA C fi))(hv:PE X v (aA C fv))(hs:mu i=true)(hc:jF v=true):
  PS X (.Assign [.Subscript o i p] v pos) (fK C (zq fo fi fv)):=by
 refine iC (ps_asg hv (pg_sub ho hi (DQ set_list (F4 hu)) (Dd hs)) (D4 hc) (by cases v<;> rfl)) fun D sv H ⟨Z,loc,s,r,q⟩=>?_
 refine(aA.xy r q).imp fun x H1 ⟨Z1,l1,s1,y,g1,r1,st1,q1,h1⟩=>?_
 show aA C fo sv H1 _
 refine(aA.xy r1 h1).imp fun u H2 ⟨Z2,l2,s2,y2,g2,r2,st2,q2,h2⟩=>?_
 refine(aA.xy r2 h2).imp fun k H3 ⟨Z3,l3,s3,y3,g3,r3,st3,q3,h3⟩=>?_
 have q1':=q1.mono (s':=s3) (H':=H3) (g2.trans g3) st1
 have q2':=q2.mono (s':=s3) (H':=H3) g3 st2
 cases e1:eu y s3 with
 | stuck=>rw[e1]at h3;exact h3.elim
 | exc x s4=>rw[e1]at h3;exact h3.elim
 | ok z s4=>
  rw[e1]at h3
  dsimp only at h3
  obtain⟨Z4,g4,r4,q4⟩:=r3.eu q1' e1
  unfold su at h3
  split at h3
  ·rename_i s5 e5
   exact D6 r4 (q2'.mono (s':=s4) (H':=H3) g4 st2) (q3.mono (s':=s4) (H':=H3) g4 st3) q4 e5 fun H' r'=>dk.nx (dk.ext h3 g4) r'
  ·exact h3.elim
theorem BU{n:Nat}{b:List Stmt}{sb:State→Res Fl}(hp:PassesOwn (model X.prog X.w) X.A X.env X.xe)(ht:PT X c (e6 C ft))(hb:PSs X b (fK C sb)):PS X (.While c b [] pos) (fK C (pG n ft sb)):=by
 refine iC (ps_while hp ht hb) fun D sv H ⟨Z0,loc0,s0,r0,q0⟩=>?_
 refine⟨fun m sv H=>∃ Z loc s,SR C Z loc s sv H∧dk C Z loc (pG m ft sb s) D,⟨n,Z0,loc0,s0,r0,q0⟩,?_⟩
 rintro m sv H ⟨Z,loc,s,r,q⟩
 cases m with
 | zero=>exact q.elim
 | succ m=>
  unfold pG at q
  refine(e6.oU r q).imp fun k H1 ⟨Z1,l1,s1,g1,r1,h1⟩=>?_
  cases k with
  | false=>
   rw[if_neg Bool.false_ne_true]at h1 ⊢
   exact h1.nx r1
  | true=>
   rw[if_pos rfl]at h1 ⊢
   refine⟨fun sv' H'=>∃ Z loc s,SR C Z loc s sv' H'∧dk C Z loc (pG m ft sb s) D,fun sv' H' h=>⟨m,Nat.lt_succ_self m,h⟩,⟨Z1,l1,s1,r1,?_⟩⟩
   cases e:sb s1 with
   | stuck=>rw[e]at h1;exact h1
   | exc x s2=>rw[e]at h1;exact h1
   | ok k s2=>
    rw[e]at h1
    cases k with
    | nx=>exact fun Z2 l2 sv2 H2 g2 r2=>⟨Z2,l2,s2,r2,dk.ext h1 g2⟩
    | cnt=>exact fun Z2 l2 sv2 H2 g2 r2=>⟨Z2,l2,s2,r2,dk.ext h1 g2⟩
    | brk=>exact fun Z2 l2 sv2 H2 g2 r2=>dk.nx (dk.ext h1 g2) r2
    | ret rv=>exact h1
structure CLe (C C':Cst):Prop where
 ca:C'.cA=C.cA
 fr:C'.Fr=C.Fr
 w:C'.W=C.W
 h0:∀ (a:Addr) (o:Obj) (u:HO),C.H0 a=some (.frz o u)→C'.H0 a=some (.frz o u)
theorem CLe.refl(C:Cst):CLe C C:=⟨rfl,rfl,rfl,fun _ _ _ h=>h⟩
theorem SR.le{C':Cst}(c:CLe C C')(r:SR C' Z loc s sv H):SR C Z loc s sv H:=by
 obtain⟨a,f,h,w⟩:=C
 obtain⟨a',f',h',w'⟩:=C'
 obtain⟨c1,c2,c3,c4⟩:=c
 dsimp only at c1 c2 c3 c4
 subst c1 c2 c3
 exact⟨r.fr,r.zh,r.zf,fun b o u e=>r.lk b o u (c4 b o u e),r.ln,r.nd,r.lh,r.cl,r.vl,r.ow,r.oi,r.ls⟩
def nU(H Z H' Z':Hp):Prop:=Same H H'∧∀ a,H a≠none→Z' a=Z a
theorem nU.refl(H Z:Hp):nU H Z H Z:=⟨Same.refl _,fun _ _=>rfl⟩
structure WalkS (C:Cst) (Z:Hp) (loc:List Addr) (l:List Val) (J:It) (G:Hp→Prop) (Y:Nat→Hp→V→Hp→Prop):Prop where
 w:Walk J l.length G Y
 g:∀ Z' loc' s sv H,Ext Z loc Z' loc'→SR C Z' loc' s sv H→G H
 y:∀ Z' loc' s sv H (i:Nat) x v H',Ext Z loc Z' loc'→SR C Z' loc' s sv H→l[i]? =some x→Y i H v H'→∃ Z'',Ext Z' loc' Z'' loc'∧nU H Z' H' Z''∧SR C Z'' loc' s sv H'∧c7 C.cA Z'' loc' x v
def kB(C:Cst)(f:State→Res (List Val)):TI:=fun sv H R=>∃ Z loc s,SR C Z loc s sv H∧match f s with
 | .ok l s'=>∀ Z' loc' H' C' J G Y,CLe C C'→Ext Z loc Z' loc'→SR C' Z' loc' s' sv H'→WalkS C' Z' loc' l J G Y→R J H'
 | .exc x s'=>∀ Z' loc' H' c d,Ext Z loc Z' loc'→SR C Z' loc' s' sv H'→lH C Z' H' x c d→C.W c d sv H'
 | .stuck=>False
def nW(t:Tg)(src:State→Res (List Val))(b:State→Res Fl)(s:State):Res Fl:=(src s).bind fun l s=>j6 t b l s
theorem Gk{t:Tg}{tg it:Expr}{b:List Stmt}{sb:State→Res Fl}{src:State→Res (List Val)}(hp:PassesOwn (model X.prog X.w) X.A X.env X.xe)(hc:X.calm=true)(hi:PI X tg it (kB C src))
  (hg:∀ C',CLe C C'→PG X tg (pF C' t)) (hb:∀ C',CLe C C'→PSs X b (fK C' sb)) (hs:d0 it=true):PS X (.For tg it b [] pos) (fK C (nW t src sb)):=by
 refine⟨fun pins t0 sv H D I ⟨Z,loc,s,r,q⟩=>?_⟩
 -- the ends by any of the body's constants
 refine(ps_for (g:=fun v sv H Q=>∃ C',CLe C C'∧pF C' t v sv H Q) (tb:=fun D sv H=>∃ C',CLe C C'∧fK C' sb D sv H) hp hc hi
  ⟨fun pins s sv H v u Q I r ⟨C',c,q⟩=>(hg C' c).run pins s sv H v u Q I r q⟩ ⟨fun pins s sv H D I ⟨C',c,q⟩=>(hb C' c).run pins s sv H D I q⟩ (fold_ok hs)).run pins t0 sv H D I ?_
 refine⟨Z,loc,s,r,?_⟩
 unfold nW at q
 cases e:src s with
 | stuck=>rw[e]at q;exact q
 | exc x s1=>rw[e]at q;exact fun Z' loc' H' c d=>q Z' loc' sv H' c d
 | ok l s1=>
  rw[e]at q
  intro Z1 l1 H1 C' J G Y cle g1 r1 wk
  have q:dk C Z loc (j6 t sb l s1) D:=q
  refine for_it (g:=fun v sv H Q=>∃ C',CLe C C'∧pF C' t v sv H Q) (tb:=fun D sv H=>∃ C',CLe C C'∧fK C' sb D sv H) (D:=D) wk.w (fun i sv H=>∃ Z2 l2 s2,Ext Z1 l1 Z2 l2∧SR C' Z2 l2 s2 sv H∧dk C Z2 l2 (j6 t sb (l.drop i) s2) D)
   ⟨Z1,l1,s1,Ext.refl _ _,r1,q.ext g1⟩ (fun i sv H _ ⟨Z2,l2,s2,g2,r2,_⟩=>wk.g Z2 l2 s2 sv H g2 r2) ?_ ?_
  ·rintro i v sv2 H2 H3 hi ⟨Z2,l2,s2,g2,r2,q2⟩ hy
   rw[List.drop_eq_getElem_cons hi]at q2
   obtain⟨Z3,g3,_,r3,q3⟩:=wk.y Z2 l2 s2 sv2 H2 i l[i] v H3 g2 r2 (by simp[hi]) hy
   refine⟨C',cle,Z3,l2,s2,l[i],r3,q3,?_⟩
   unfold j6 at q2
   cases e1:iF t l[i] s2 with
   | none=>rw[e1]at q2;exact q2
   | some s3=>
    rw[e1]at q2
    intro sv4 _ r4
    refine⟨C',cle,Z3,l2,s3,r4,?_⟩
    dsimp only at q2
    have q2':=dk.ext q2 g3
    cases e2:sb s3 with
    | stuck=>rw[e2]at q2';exact q2'
    | exc x s5=>
     rw[e2]at q2'
     have q2':dk C Z3 l2 (.exc x s5) D:=q2'
     intro Z5 l5 sv5 H5 c d g5 r5 x5
     have:=q2' Z5 l5 sv5 H5 c d g5 (SR.le cle r5)
     unfold lH at this x5
     rw[cle.ca]at x5
     rw[cle.w]
     exact this x5
    | ok k s5=>
     rw[e2]at q2'
     cases k with
     | nx=>exact fun Z5 l5 sv5 H5 g5 r5=>⟨Z5,l5,s5,g2.trans (g3.trans g5),r5,dk.ext q2' g5⟩
     | cnt=>exact fun Z5 l5 sv5 H5 g5 r5=>⟨Z5,l5,s5,g2.trans (g3.trans g5),r5,dk.ext q2' g5⟩
     | brk=>exact fun Z5 l5 sv5 H5 g5 r5=>dk.nx (dk.ext q2' g5) (SR.le cle r5)
     | ret rv=>
      intro Z5 l5 sv5 H5 v5 g5 r5 q5
      refine q2' Z5 l5 sv5 H5 v5 g5 (SR.le cle r5) ?_
      cases rv with
      | val x=>have q5:c7 C'.cA Z5 l5 x v5:=q5;rw[cle.ca]at q5;exact q5
      | own j=>exact q5
      | new o=>
       obtain⟨a,h1,h2,h3,h4⟩:=q5
       rw[cle.ca]at h3
       exact⟨a,h1,h2,h3,h4.z,by rw[←cle.fr];exact h4.f,h4.l,h4.o⟩
  ·rintro sv2 H2 ⟨Z2,l2,s2,g2,r2,q2⟩
   rw[List.drop_length]at q2
   exact dk.nx q2 (SR.le cle r2)
end
end Vw
namespace Vw
open PySem L2 PyProof.Rows
def lF(r:RV)(s:State):Res D:=
 match eu r s with
 | .ok (.d x) s=>.ok x s
 | _=>.stuck
def CQ:K0→D
 | .i n=>.int n
 | .s t=>.str t
def itemsOf:D→State→Res (List Val)
 | .lst l,s=>.ok (l.map .d) s
 | .tup l,s=>.ok (l.map .d) s
 | .str t,s=>.ok (t.map fun c=>.d (.str [c])) s
 | .dic l,s=>.ok (l.map fun p=>.d (CQ p.1)) s
 | _,s=>.stuck
def mx:D→State→Res (List Val)
 | .lst l,s=>.ok (l.mapIdx fun i x=>.d (.tup [.int i,x])) s
 | .str t,s=>.ok (t.mapIdx fun i c=>.d (.tup [.int i,.str [c]])) s
 | _,s=>.stuck
def sD(f:State→Res RV)(k:D→State→Res (List Val))(s:State):Res (List Val):=(ev f s).bind fun r s=>(lF r s).bind k
def nG(lo hi:Int)(s:State):Res (List Val):=
 if-(2^62)≤lo∧lo<2^62∧ -(2^62)≤hi∧hi<2^62 then .ok ((List.range (hi-lo).toNat).map fun i=>.d (.int (lo+(i:Nat)))) s else .stuck
section
variable{C:Cst}{Z Z':Hp}{loc loc':List Addr}{s s':State}{sv sv':L2.St}{H H':Hp}
variable{X:Cx}{e a b c tg:Expr}{es:List Expr}{pos:Pos}{f fa fb fc fo fi fv:State→Res RV}
theorem aA.Ji{rv:RV}(r:SR C Z loc s sv H)(e:ev f s=.ok rv s'):aA C f sv H (fun v H'=>∃ Z' loc',Ext Z loc Z' loc'∧SR C Z' loc' s' sv H'∧tJ rv∧da C Z' loc' s' sv H' rv v):=by
 refine⟨Z,loc,s,r,?_⟩
 unfold ev at e
 cases e1:f s with
 | stuck=>rw[e1]at e;cases e
 | exc x s1=>rw[e1]at e;cases e
 | ok r0 s1=>
  rw[e1]at e
  intro Z1 l1 H1 v g r1 q
  obtain⟨rfl,st,Z2,g2,r2,q2⟩:=r1.settle q e
  exact⟨Z2,l1,g.trans g2,r2,st,q2⟩
theorem aA.IS{x:Exn}{Q:VK}(r:SR C Z loc s sv H)(e:ev f s=.exc x s')(h:∀ Z' loc' H' c d,Ext Z loc Z' loc'→SR C Z' loc' s' sv H'→lH C Z' H' x c d→C.W c d sv H'):aA C f sv H Q:=by
 refine⟨Z,loc,s,r,?_⟩
 unfold ev at e
 cases e1:f s with
 | stuck=>rw[e1]at e;cases e
 | exc x s1=>rw[e1]at e;cases e;exact h
 | ok r0 s1=>rw[e1]at e;exact absurd e vC
theorem SR.lF(r:SR C Z loc s sv H){rv:RV}{v:V}{x:D}(h:da C Z loc s sv H rv v)(e:lF rv s=.ok x s'):∃ Z',Ext Z loc Z' loc∧SR C Z' loc s' sv H∧cu C.cA Z' x v:=by
 unfold Vw.lF at e
 split at e
 ·rename_i y s1 e1
  cases e
  exact r.eu h e1
 ·cases e
theorem D8{rv:RV}{x:Exn}{s s':State}:lF rv s≠ .exc x s':=by
 unfold lF
 split<;> simp
theorem wG{w w':TI}(h:PI X tg e w)(h':PI X tg e w'):PI X tg e (fun sv H R=>w sv H R∨w' sv H R):=
 ⟨fun pins s sv H R I q=>q.elim (h.run pins s sv H R I) (h'.run pins s sv H R I)⟩
theorem q9{w w':TI}(h:PI X tg e w)(m:∀ sv H R,w' sv H R→w sv H R):PI X tg e w':=⟨fun pins s sv H R I q=>h.run pins s sv H R I (m sv H R q)⟩
def Kb(t:TE):TE:=fun sv H Q=>t sv H fun x H1=>(∃ d u,x=.ref d∧H1 d=some u∧oG u=true∧∀ od,Q x (upd H1 d (.frz od u)))∨Q x H1
theorem GW{t:TE}(h:PE X e t):PE X e (Kb t):=by
 refine⟨fun pins s sv H Q I q=>thn (h.run pins s sv H _ I q) fun v s1 ⟨x,H1,I1,rx,q1⟩=>?_⟩
 rcases q1 with⟨d,u,e1,h1,h2,q1⟩ | q1
 ·obtain⟨od,I2⟩:=I1.lock h1 (by cases u<;> first | trivial | cases h2)
  exact⟨x,_,I2,rx,q1 od⟩
 ·exact⟨x,H1,I1,rx,q1⟩
theorem SR.CK(r:SR C Z loc s sv H){d:Addr}{u:HO}(hz:Z d=some u)(hu:oG u=true)(hd:H d=some u)(od:Obj):
  CLe C { C with H0:=upd C.H0 d (.frz od u) }∧SR { C with H0:=upd C.H0 d (.frz od u) } Z loc s sv (upd H d (.frz od u)):=by
 have nf:∀ o w,C.H0 d≠some (.frz o w):=fun o w e=>by
  have:=r.lk d o w e
  rw[hd]at this
  cases this
  cases hu
 have fd:C.Fr d=none:=r.zf d u hz
 have cellAt:∀ {b:Addr} {ob:Ob},b≠d→Cell C.cA Z loc H b ob→Cell C.cA Z loc (upd H d (.frz od u)) b ob:=fun {b ob} hb x=>x.at (upd_ne hb)
 refine⟨⟨rfl,rfl,rfl,fun b o w e=>?_⟩,?_⟩
 ·have hb:b≠d:=fun z=>nf o w (z▸e)
  show upd C.H0 d _ b=_
  rw[upd_ne hb];exact e
 ·refine⟨fun b x hx=>?_,fun b x hx=>?_,r.zf,fun b o w e=>?_,r.ln,r.nd,fun b hb=>?_,fun n b ob h1 h2 h3=>?_,r.vl,fun i ob h=>?_,r.oi,r.ls⟩
  ·have hx:C.Fr b=some x:=hx
   have hb:b≠d:=fun z=>by rw[z,fd]at hx;cases hx
   rw[upd_ne hb];exact r.fr b x hx
  ·by_cases hb:b=d
   ·subst hb
    rw[hz]at hx
    cases hx
    exact .inr ⟨hu,od,upd_same⟩
   ·unfold Rz
    rw[upd_ne hb];exact r.zh b x hx
  ·have e:upd C.H0 d (.frz od u) b=some (.frz o w):=e
   by_cases hb:b=d
   ·subst hb
    rw[upd_same]at e
    cases e
    exact upd_same
   ·rw[upd_ne hb]at e ⊢
    exact r.lk b o w e
  ·refine⟨?_,(r.lh b hb).2⟩
   by_cases hbd:b=d
   ·rw[hbd,upd_same];simp
   ·rw[upd_ne hbd];exact(r.lh b hb).1
  ·obtain⟨q1,q2⟩:=r.cl n b ob h1 h2 h3
   have hb:b≠d:=fun z=>by rw[z,hz]at q2;cases q2
   exact⟨cellAt hb q1,q2⟩
  ·obtain⟨b,h1,h2,h3,h4,h5⟩:=r.ow i ob h
   have hb:b≠d:=fun z=>by rw[z,hz]at h4;cases h4
   exact⟨b,h1,h2,cellAt hb h3,h4,h5⟩
theorem CU{K:PySem.W.Frag}{ds:List D}{a:Addr}{vs:List V}(hz:Z a=some (.lst vs)∨∃ o,Z a=some (.frz o (.lst vs)))(q:dC C.cA Z ds vs):
  WalkS C Z loc (ds.map .d) (Itl K a) (fun H=>SqL K H a vs) (YAt vs):=by
 have hl:(ds.map Val.d).length=vs.length:=du (loc:=loc) (fB.mpr q)
 refine⟨by rw[hl];exact walk_list,fun Z' loc' s sv H g r=>?_,fun Z' loc' s sv H i x v H' g r hx y=>?_⟩
 ·rcases hz with z | ⟨o,z⟩
  ·exact .inl (.inl ((r.zh a _ (g.1 _ _ z)).at rfl))
  ·exact .inl (.inr ⟨o,(r.zh a _ (g.1 _ _ z)).at rfl⟩)
 ·obtain⟨rfl,y⟩:=y
  obtain⟨v',h1,h2⟩:=iN (fB.mpr q) hx
  rw[y]at h1
  cases h1
  exact⟨Z',Ext.refl _ _,nU.refl _ _,r,h2.mono g⟩
theorem GV{K:PySem.W.Frag}{ds:List D}{a:Addr}{vs:List V}(hz:Z a=some (.tup vs))(q:dC C.cA Z ds vs):
  WalkS C Z loc (ds.map .d) (Itt K a) (fun H=>SqT K H a vs) (YAt vs):=by
 have hl:(ds.map Val.d).length=vs.length:=du (loc:=loc) (fB.mpr q)
 refine⟨by rw[hl];exact walk_tup,fun Z' loc' s sv H g r=>?_,fun Z' loc' s sv H i x v H' g r hx y=>?_⟩
 ·exact .inl (.inl ((r.zh a _ (g.1 _ _ hz)).at rfl))
 ·obtain⟨rfl,y⟩:=y
  obtain⟨v',h1,h2⟩:=iN (fB.mpr q) hx
  rw[y]at h1
  cases h1
  exact⟨Z',Ext.refl _ _,nU.refl _ _,r,h2.mono g⟩
theorem Ht{t:List Nat}:∃ G Y,WalkS C Z loc (t.map fun c=>.d (.str [c])) (Its ⟨t.toArray⟩) G Y:=by
 refine⟨_,_,by simpa using walk_str (z:=⟨t.toArray⟩),fun _ _ _ _ _ _ _=>trivial,fun Z' loc' s sv H i x v H' g r hx y=>?_⟩
 obtain⟨rfl,c,y1,y2⟩:=y
 rw[List.getElem?_map]at hx
 have y1:t[i]? =some c:=by simpa using y1
 rw[y1]at hx
 cases hx
 exact⟨Z',Ext.refl _ _,nU.refl _ _,r,y2⟩
theorem Cv{lo:Int}{n:Nat}:∃ G Y,WalkS C Z loc ((List.range n).map fun i=>.d (.int (lo+(i:Nat)))) (Itr lo n) G Y:=by
 refine⟨_,_,by simpa using walk_range (lo:=lo) (n:=n),fun _ _ _ _ _ _ _=>trivial,fun Z' loc' s sv H i x v H' g r hx y=>?_⟩
 obtain⟨rfl,y⟩:=y
 rw[List.getElem?_map]at hx
 obtain⟨j,h1,h2⟩:=Option.map_eq_some_iff.mp hx
 have h3:=List.getElem?_eq_some_iff.mp h1
 obtain⟨h4,h5⟩:=h3
 rw[List.getElem_range]at h5
 subst h5 h2
 exact⟨Z',Ext.refl _ _,nU.refl _ _,r,y⟩
theorem Cs{xs ys:Nat→Option V}{Z:Hp}{loc:List Addr}(r:SR C Z loc s sv H){i:Nat}{v:V}{d1 d2:D}(y:YPair xs ys i H v H')(h1:∀ u,xs i=some u→cu C.cA Z d1 u)(h2:∀ u,ys i=some u→cu C.cA Z d2 u):
  ∃ Z'',Ext Z loc Z'' loc∧nU H Z H' Z''∧SR C Z'' loc s sv H'∧c7 C.cA Z'' loc (.d (.tup [d1,d2])) v:=by
 obtain⟨T,x,y,rfl,hT,rfl,e1,e2⟩:=y
 have f:=r.free hT
 have g:=dQ (o:=.tup [x,y]) f.z
 exact⟨_,Ext.z g,⟨dQ hT,fun b hb=>upd_ne fun z=>hb (z▸hT)⟩,(r.grow (dQ hT)).xE upd_same f,T,[x,y],rfl,upd_same,x,[y],rfl,cu.mono g d1 (h1 x e1),y,[],rfl,cu.mono g d2 (h2 y e2),rfl⟩
theorem A0{ds:List D}{vs:List V}{i:Nat}{u:V}(q:dC C.cA Z ds vs)(h:vs[i]? =some u):∃ d,ds[i]? =some d∧cu C.cA Z d u:=by
 have hl:(ds.map Val.d).length=vs.length:=du (loc:=[]) (fB.mpr q)
 have hi:i<ds.length:=by
  have:=(List.getElem?_eq_some_iff.mp h).1
  simpa [←hl]using this
 obtain⟨v',h1,h2⟩:=iN (loc:=[]) (fB.mpr q) (i:=i) (x:=.d ds[i]) (by simp[hi])
 rw[h]at h1
 cases h1
 exact⟨ds[i],by simp[hi],h2⟩
theorem G6{K:PySem.W.Frag}{ds:List D}{a:Addr}{vs:List V}(hz:Z a=some (.lst vs)∨∃ o,Z a=some (.frz o (.lst vs)))(q:dC C.cA Z ds vs):
  ∃ G Y,WalkS C Z loc (ds.mapIdx fun i x=>.d (.tup [.int i,x])) (Ite K a) G Y:=by
 have hl:(ds.map Val.d).length=vs.length:=du (loc:=loc) (fB.mpr q)
 refine⟨_,_,by rw[List.length_mapIdx,←List.length_map (f:=Val.d),hl];exact walk_enum (xs:=vs) (K:=K),fun Z' loc' s sv H g r=>?_,fun Z' loc' s sv H i x v H' g r hx y=>?_⟩
 ·rcases hz with z | ⟨o,z⟩
  ·exact .inl (.inl ((r.zh a _ (g.1 _ _ z)).at rfl))
  ·exact .inl (.inr ⟨o,(r.zh a _ (g.1 _ _ z)).at rfl⟩)
 ·rw[List.getElem?_mapIdx]at hx
  obtain⟨d,h1,rfl⟩:=Option.map_eq_some_iff.mp hx
  refine Cs r y (fun u e=>by cases e;rfl) fun u e=>?_
  obtain⟨d',h2,h3⟩:=A0 q e
  rw[h1]at h2
  cases h2
  exact cu.mono g.1 d h3
theorem vK:∀ {l:List (K0×D)} {ws:List (Key×V)} {i:Nat} {p:K0×D},iU C.cA Z l ws→l[i]? =some p→∃ v,ws[i]? =some (kz p.1,v)∧cu C.cA Z p.2 v
 | [],ws,i,p,h,e=>by simp at e
 | (k,x)::l,ws,0,p,⟨v,t,e1,q,r⟩,e=>by
  rw[e1]
  simp at e
  subst e
  exact⟨v,rfl,q⟩
 | (k,x)::l,ws,i+1,p,⟨v,t,e1,q,r⟩,e=>by
  rw[e1]
  exact vK (i:=i) r (by simpa using e)
theorem vz:∀ {l:List (K0×D)} {ws:List (Key×V)},iU C.cA Z l ws→l.length=ws.length
 | [],ws,h=>by rw[show ws=_ from h];rfl
 | (k,y)::l,ws,⟨w,t,e,q1,r⟩=>by rw[e,List.length_cons,List.length_cons,vz r]
theorem Dg(k:K0):cu C.cA Z (CQ k) (kV (kz k)):=by cases k<;> rfl
theorem GO{d:Addr}{u:HO}{od:Obj}{Z':Hp}{loc':List Addr}(h0:C.H0 d=some (.frz od u))(r:SR C Z' loc' s sv H):H d=some (.frz od u):=r.lk d od u h0
theorem Hn{l:List (K0×D)}{d:Addr}{od:Obj}{ws:List (Key×V)}(h0:C.H0 d=some (.frz od (.dK ws)))(q:iU C.cA Z l ws):∃ G Y,WalkS C Z loc (l.map fun p=>.d (CQ p.1)) (Itk d od ws) G Y:=by
 refine⟨_,_,by rw[List.length_map,vz q];exact walk_keys (d:=d) (o:=od) (kvs:=ws),fun Z' loc' s sv H g r=>GO h0 r,fun Z' loc' s sv H i x v H' g r hx y=>?_⟩
 obtain⟨rfl,k,w,h1,rfl⟩:=y
 rw[List.getElem?_map]at hx
 obtain⟨p,h2,rfl⟩:=Option.map_eq_some_iff.mp hx
 obtain⟨v',h3,h4⟩:=vK q h2
 rw[h1]at h3
 cases h3
 exact⟨Z',Ext.refl _ _,nU.refl _ _,r,Dg p.1⟩
end
end Vw
namespace Vw
open PySem L2 PyProof.Rows
def zr(x:Str):It:=⟨fun i _=>i<x.cps.size,fun i H v H'=>∃ T c,v=.ref T∧H T=none∧H'=upd H T (.tup [.int (i:Nat),.str ⟨#[c]⟩])∧x.cps[i]? =some c,fun i _=>x.cps.size≤i⟩
theorem zA{P:Program}{w:World}{K:PySem.W.Frag}{elts:List Expr}{kk:Nat}{tpos:Pos}(x:Str)(t:Tok)(e it:Addr):
  Turn P w K (.Tuple elts kk tpos) (zr x) [e,it] e (fun i h=>((∃ old,IsEnum h e it ((i:Nat):Int) old)∧h.IsStrIter it (strIterType x) x t i)∧e≠it∧i≤x.cps.size) where
 mem:=by simp
 obj:=fun i h st b hb=>by
  obtain⟨⟨⟨old,he⟩,⟨o,ho,hc,hd⟩⟩,_⟩:=st
  have e':b=e∨b=it:=by simpa using hb
  rcases e' with z | z
  ·rw[z];exact⟨_,he,fun v q=>nomatch q⟩
  ·rw[z];exact⟨o,ho,fun v q=>by rw[hd]at q;cases q⟩
 keep:=fun i h h' st k=>by
  obtain⟨⟨⟨old,he⟩,⟨o,ho,hc,hd⟩⟩,hne⟩:=st
  exact⟨⟨⟨old,k e (by simp) _ he⟩,⟨o,k it (by simp) _ ho,hc,hd⟩⟩,hne⟩
 item:=by
  intro X hP hw hK hc i pins s sv H E I hf st hg
  subst hP hw hK
  obtain⟨⟨⟨old,he⟩,hit⟩,hne,hle⟩:=st
  have hi:i<x.cps.size:=hg
  have hh:X.A.in1.handled=none:=by have:=I.ok.hd hc;exact this
  have D:Draws X.prog X.w X.A.in1 it [it] x.cps.size (fun i v=>∃ c u,x.cps[i]? =some c∧v=.str ⟨#[c]⟩ u) (fun i h=>h.IsStrIter it (strIterType x) x t i):=by
   unfold strIterType
   split
   ·exact Draws.strAscii hh it x t
   ·exact Draws.strWide hh it x t
  have hel:e<s.heap.objs.size:=Heap.lt_size he
  have hil:it<s.heap.objs.size:=by obtain⟨_,q,_⟩:=hit;exact Heap.lt_size q
  refine wpAny_pyNext_enum_itemD D he hit hi hne (by simpa using hne) fun y h' tk hy ho hit' hT hsz hk=>?_
  obtain⟨c,u,hcx,rfl⟩:=hy
  refine⟨_,rfl,wpAny_letOwnedTupleGo_enum (s:={ s with heap:=h',toks:=tk+1 }) ho fun h'' he' sb=>?_⟩
  have hT2:h''.get? s.heap.objs.size=some { cls:=.type "tuple",data:=.seq #[.int i tk,.str ⟨#[c]⟩ u] }:=(sb.2 _ (Nat.ne_of_gt hel)).trans hT
  have new:ObjOk X.prog X.w (upd H s.heap.objs.size (.tup [.int (i:Nat),.str ⟨#[c]⟩])) h'' s.heap.objs.size (.tup [.int (i:Nat),.str ⟨#[c]⟩]):=
   ⟨by show 2≤sizeLine;decide,[.int i tk,.str ⟨#[c]⟩ u],.cons ⟨_,rfl⟩ (.cons ⟨_,rfl⟩ .nil),⟨_,hT2,rfl,_,rfl⟩⟩
  have I1:Inv X pins sv (upd H s.heap.objs.size (.tup [.int (i:Nat),.str ⟨#[c]⟩])) { s with heap:=h'',toks:=tk+1 }:=
   I.turnedNew (ch:=[e,it]) (fun b ob hb q=>(sb.2 b (fun z=>hb (by simp[z]))).trans (hk b ob (fun z=>hb (by simp[z])) (fun z=>hb (by simp[z])) q)) hf (Nat.le_refl _) new
  refine⟨.ref s.heap.objs.size,_,I1,rfl,⟨_,c,rfl,I.hok.fresh (Nat.le_refl _),rfl,hcx⟩,⟨⟨⟨.str ⟨#[c]⟩ u,?_⟩,?_⟩,hne,hi⟩,fun b hb=>?_⟩
  ·have e1:((i+1:Nat):Int)=(i:Int)+1:=by omega
   rw[e1];exact he'
  ·obtain⟨o,q1,q2⟩:=hit'
   exact⟨o,(sb.2 it (Ne.symm hne)).trans q1,q2⟩
  ·have hb':b<s.heap.objs.size:=by
    have e':b=e∨b=it:=by simpa using hb
    rcases e' with z | z
    ·rw[z];exact hel
    ·rw[z];exact hil
   rw[upd_ne (Nat.ne_of_lt hb')]
   exact(hf b hb).1
 done:=by
  intro X hP hw hK hc i pins s sv H E I hf st hg
  subst hP hw hK
  obtain⟨⟨⟨old,he⟩,hit⟩,hne,hle⟩:=st
  have hh:X.A.in1.handled=none:=by have:=I.ok.hd hc;exact this
  have D:Draws X.prog X.w X.A.in1 it [it] x.cps.size (fun i v=>∃ c u,x.cps[i]? =some c∧v=.str ⟨#[c]⟩ u) (fun i h=>h.IsStrIter it (strIterType x) x t i):=by
   unfold strIterType
   split
   ·exact Draws.strAscii hh it x t
   ·exact Draws.strWide hh it x t
  have hi:i=x.cps.size:=Nat.le_antisymm hle hg
  obtain⟨f0,f1,f2,f3,f4,f5⟩:=hf it (by simp)
  exact wpAny_pyNext_enum_endD D he (hi▸hit) fun h' eb=>⟨rfl,I.turned (t':=s.toks) (fun b o hb q=>eb b o hb q) f0 f1 f3 f4 f5⟩
 self:=fun A i s Q E st h=>let ⟨⟨⟨_,he⟩,_⟩,_⟩:=st;wpAny_pyIter_enum he h
def FI(ta:TA):TI:=fun sv H R=>ta sv H fun vs H1=>∃ x,vs=[.str x]∧R (zr x) H1
theorem Bc{X:Cx}{e:Expr}{ta:TA}{p pos tpos:Pos}{elts:List Expr}{kk:Nat}(hg:Gl X "enumerate")(hm:X.mg "enumerate"=none)(ha:PA X [e] ta)(hs:starEach [e] X.env=[(false,eval e X.env)]):
  PI X (.Tuple elts kk tpos) (.Call (.Name "enumerate" p) [e] [] pos) (FI ta):=by
 refine⟨fun pins s sv H R I h=>?_⟩
 refine Call_ (ld_blt I hg hm boot_enumerate (PyProof.Rows.callWith_type1 (thn (ha.run pos pins s sv H _ I h) fun us s1 ⟨vs,H1,I1,r1,q1⟩=>?_) hs rfl))
 obtain⟨x,ex,q⟩:=q1
 subst ex
 cases r1 with
 | cons r rr=>
  cases rr
  obtain⟨t,rfl⟩:=r
  refine call_enumerate_str fun h' he hit hsz hk=>wpAny_pyIter_enum he ?_
  have I2:Inv X pins sv H1 { s1 with heap:=h' }:=I1.kept (t':=s1.toks) hk
  refine⟨s1.heap.objs.size+1,[s1.heap.objs.size+1,s1.heap.objs.size],_,_,H1,rfl,I2,zA x t (s1.heap.objs.size+1) s1.heap.objs.size,⟨⟨⟨.none,he⟩,hit⟩,Nat.succ_ne_self _,Nat.zero_le _⟩,fun b hb=>?_,q⟩
  have e':b=s1.heap.objs.size+1∨b=s1.heap.objs.size:=by simpa using hb
  have hle:s1.heap.objs.size≤b:=by
   rcases e' with z | z
   ·rw[z];exact Nat.le_add_right _ _
   ·rw[z];exact Nat.le_refl _
  exact I1.fpOk hle (I1.hok.fresh hle)
section
variable{C:Cst}{Z Z':Hp}{loc loc':List Addr}{s s':State}{sv sv':L2.St}{H H':Hp}
variable{X:Cx}{e a b c tg:Expr}{es:List Expr}{pos:Pos}{f fa fb fc fo fi fv:State→Res RV}
theorem zM{x:Str}:Walk (zr x) x.cps.size (fun _=>True) (YPair (fun i=>some (.int (i:Nat))) (fun i=>x.cps[i]?.map fun c=>.str ⟨#[c]⟩)):=by
 refine⟨fun i _ hi q=>hi,fun _ q=>Nat.le_refl _,fun i H v H' _ q y=>?_⟩
 obtain⟨T,c,h1,h2,h3,h4⟩:=y
 exact⟨T,.int (i:Nat),.str ⟨#[c]⟩,h1,h2,h3,rfl,by simp[h4]⟩
theorem Er{t:List Nat}:∃ G Y,WalkS C Z loc (t.mapIdx fun i c=>.d (.tup [.int i,.str [c]])) (zr ⟨t.toArray⟩) G Y:=by
 refine⟨_,_,by simpa using zM (x:=⟨t.toArray⟩),fun _ _ _ _ _ _ _=>trivial,fun Z' loc' s sv H i x v H' g r hx y=>?_⟩
 rw[List.getElem?_mapIdx]at hx
 obtain⟨d,h1,rfl⟩:=Option.map_eq_some_iff.mp hx
 refine Cs r y (fun u e=>by cases e;rfl) fun u e=>?_
 simp[h1]at e
 subst e
 rfl
theorem SR.CF(r:SR C Z loc s sv H){d:Addr}{u:HO}{od:Obj}(hd:H d=some (.frz od u)):
  CLe C { C with H0:=upd C.H0 d (.frz od u) }∧SR { C with H0:=upd C.H0 d (.frz od u) } Z loc s sv H:=by
 refine⟨⟨rfl,rfl,rfl,fun b o w e=>?_⟩,⟨r.fr,r.zh,r.zf,fun b o w e=>?_,r.ln,r.nd,r.lh,r.cl,r.vl,r.ow,r.oi,r.ls⟩⟩
 ·show upd C.H0 d _ b=_
  by_cases hb:b=d
  ·subst hb
   rw[r.lk b o w e]at hd
   cases hd
   exact upd_same
  ·rw[upd_ne hb];exact e
 ·have e:upd C.H0 d (.frz od u) b=some (.frz o w):=e
  by_cases hb:b=d
  ·subst hb
   rw[upd_same]at e
   cases e
   exact hd
  ·rw[upd_ne hb]at e
   exact r.lk b o w e
theorem C0{k:D→State→Res (List Val)}{R:It→Hp→Prop}(h:kB C (sD f k) sv H R)(hk:∀ d s x s',k d s≠ .exc x s'):
  (∀ Q,aA C f sv H Q)∨∃ d l s1 s2,k d s1=.ok l s2∧∀ Q:VK,(∀ v H1 Z1 l1,SR C Z1 l1 s1 sv H1→cu C.cA Z1 d v→
   (∀ C' J G Y H',CLe C C'→SR C' Z1 l1 s2 sv H'→WalkS C' Z1 l1 l J G Y→R J H')→Q v H1)→aA C f sv H Q:=by
 obtain⟨Z,loc,s,r,q⟩:=h
 unfold sD at q
 cases e:ev f s with
 | stuck=>rw[e]at q;exact q.elim
 | exc x s1=>rw[e]at q;exact .inl fun Q=>aA.IS r e q
 | ok rv s1=>
  rw[e]at q
  simp only[Res.bind]at q
  cases e1:lF rv s1 with
  | stuck=>rw[e1]at q;exact q.elim
  | exc x s2=>exact absurd e1 D8
  | ok d s2=>
   rw[e1]at q
   simp only[Res.bind]at q
   cases e2:k d s2 with
   | stuck=>rw[e2]at q;exact q.elim
   | exc x s3=>exact absurd e2 (hk _ _ _ _)
   | ok l s3=>
    rw[e2]at q
    refine .inr ⟨d,l,s2,s3,e2,fun Q h=>(aA.Ji r e).imp fun v H1 ⟨Z',l',g,r1,st,rv⟩=>?_⟩
    obtain⟨Z2,g2,r2,q2⟩:=r1.lF rv e1
    exact h v H1 Z2 l' r2 q2 fun C' J G Y H' cl r' wk=>q Z2 l' H' C' J G Y cl (g.trans g2) r' wk
theorem ze{d:D}{x:Exn}:itemsOf d s≠ .exc x s':=by unfold itemsOf;split<;> simp
theorem z9{d:D}{x:Exn}:mx d s≠ .exc x s':=by unfold mx;split<;> simp
theorem Jb{l:List (K0×D)}{v:V}(r:SR C Z loc s sv H)(q:cu C.cA Z (.dic l) v)(Q:VK)
  (h:∀ d od ws C' H',v=.ref d→CLe C C'→SR C' Z loc s sv H'→C'.H0 d=some (.frz od (.dK ws))→H' d=some (.frz od (.dK ws))→iU C.cA Z l ws→Q v H'):
  (∃ d u,v=.ref d∧H d=some u∧oG u=true∧∀ od,Q v (upd H d (.frz od u)))∨Q v H:=by
 obtain⟨d,ws,rfl,hz,q⟩:=q
 rcases r.zh d _ hz with h1 | ⟨_,od,h1⟩
 ·exact .inl ⟨d,.dK ws,rfl,h1,rfl,fun od=>h d od ws _ _ rfl (r.CK hz rfl h1 od).1 (r.CK hz rfl h1 od).2 upd_same upd_same q⟩
 ·exact .inr (h d od ws _ _ rfl (r.CF h1).1 (r.CF h1).2 upd_same h1 q)
theorem B2(he:PE X e (aA C f)):PI X tg e (kB C (sD f itemsOf)):=by
 refine q9 (wG (pi_list he) (wG (pi_tup he) (wG (pi_str he) (pi_keys (GW he))))) fun sv H R h=>?_
 rcases C0 h fun _ _ _ _=>ze with h | ⟨d,l,s1,s2,e1,h⟩
 ·exact .inl (h _)
 ·cases d<;> simp only[itemsOf]at e1<;> cases e1
  ·refine .inr (.inr (.inl (h _ fun v H1 Z1 l1 r q k=>?_)))
   cases q
   obtain⟨G,Y,wk⟩:=Ht (C:=C) (Z:=Z1) (loc:=l1)
   exact⟨_,rfl,k C _ _ _ _ (CLe.refl C) r wk⟩
  ·refine .inr (.inl (h _ fun v H1 Z1 l1 r q k=>?_))
   obtain⟨a,vs,rfl,hz,q⟩:=q
   have wk:=GV (C:=C) (loc:=l1) (K:=X.K) hz q
   exact⟨a,rfl,⟨vs,wk.g Z1 l1 _ sv H1 (Ext.refl _ _) r⟩,k C _ _ _ _ (CLe.refl C) r wk⟩
  ·refine .inl (h _ fun v H1 Z1 l1 r q k=>?_)
   obtain⟨a,vs,rfl,hz,q⟩:=q
   have wk:=CU (C:=C) (loc:=l1) (K:=X.K) hz q
   exact⟨a,rfl,⟨vs,wk.g Z1 l1 _ sv H1 (Ext.refl _ _) r⟩,k C _ _ _ _ (CLe.refl C) r wk⟩
  ·refine .inr (.inr (.inr (h _ fun v H1 Z1 l1 r q k=>Jb r q (fun x H1=>∃ d o,x=.ref d∧((∃ kvs,H1 d=some (.frz o (.dK kvs))∧R (Itk d o kvs) H1)∨∃ kvs,H1 d=some (.frz o (.dT kvs))∧R (Itkt d o kvs) H1)) fun d od ws C' H' ev c r' h0 hd q'=>?_)))
   obtain⟨G,Y,wk⟩:=Hn (C:=C') (Z:=Z1) (loc:=l1) h0 (c.ca▸q')
   exact⟨d,od,ev,.inl ⟨ws,hd,k C' _ _ _ _ c r' wk⟩⟩
theorem Fs{p tpos:Pos}{elts:List Expr}{kk:Nat}(he:PE X e (aA C f))(hg:Gl X "enumerate")(hm:X.mg "enumerate"=none)(hs:notStar e=true):
  PI X (.Tuple elts kk tpos) (.Call (.Name "enumerate" p) [e] [] pos) (kB C (sD f mx)):=by
 have ha:PA X [e] (tCons (aA C f) tNil):=pa_cons he pa_nil (di hs)
 refine q9 (wG (pi_enum hg hm ha (di hs)) (Bc hg hm ha (di hs))) fun sv H R h=>?_
 rcases C0 h fun _ _ _ _=>z9 with h | ⟨d,l,s1,s2,e1,h⟩
 ·exact .inl (h _)
 ·cases d<;> simp only[mx]at e1<;> cases e1
  ·refine .inr (h _ fun v H1 Z1 l1 r q k=>?_)
   cases q
   obtain⟨G,Y,wk⟩:=Er (C:=C) (Z:=Z1) (loc:=l1)
   exact⟨_,rfl,k C _ _ _ _ (CLe.refl C) r wk⟩
  ·refine .inl (h _ fun v H1 Z1 l1 r q k=>?_)
   obtain⟨a,vs,rfl,hz,q⟩:=q
   obtain⟨G,Y,wk⟩:=G6 (C:=C) (loc:=l1) (K:=X.K) hz q
   exact⟨a,vs,rfl,(CU (C:=C) (loc:=l1) (K:=X.K) hz q).g Z1 l1 _ sv H1 (Ext.refl _ _) r,k C _ _ _ _ (CLe.refl C) r wk⟩
def xh(C:Cst)(Z:Hp)(loc:List Addr)(sv:L2.St)(r:Res (List Val))(R:It→Hp→Prop):Prop:=
 match r with
 | .ok l s'=>∀ Z' loc' H' C' J G Y,CLe C C'→Ext Z loc Z' loc'→SR C' Z' loc' s' sv H'→WalkS C' Z' loc' l J G Y→R J H'
 | .exc x s'=>∀ Z' loc' H' c d,Ext Z loc Z' loc'→SR C Z' loc' s' sv H'→lH C Z' H' x c d→C.W c d sv H'
 | .stuck=>False
theorem xh.ext{r:Res (List Val)}{R:It→Hp→Prop}(h:xh C Z loc sv r R)(g:Ext Z loc Z' loc'):xh C Z' loc' sv r R:=by
 cases r with
 | stuck=>exact h
 | ok l s=>exact fun Z2 l2 H2 C' J G Y c g2=>h Z2 l2 H2 C' J G Y c (g.trans g2)
 | exc x s=>exact fun Z2 l2 H2 c d g2=>h Z2 l2 H2 c d (g.trans g2)
def kL(fs:State→Res (List RV))(k:List RV→State→Res (List Val))(s:State):Res (List Val):=(fs s).bind k
theorem Ex{fs:State→Res (List RV)}{k:List RV→State→Res (List Val)}{R:It→Hp→Prop}(h:kB C (kL fs k) sv H R):
  eR C fs sv H fun vs H1=>∃ Z loc s xs,SR C Z loc s sv H1∧jz C Z loc s sv H1 xs vs∧xh C Z loc sv (k xs s) R:=by
 obtain⟨Z,loc,s,r,q⟩:=h
 refine⟨Z,loc,s,r,?_⟩
 unfold kL at q
 cases e:fs s with
 | stuck=>rw[e]at q;exact q.elim
 | exc x s1=>rw[e]at q;exact q
 | ok xs s1=>
  rw[e]at q
  exact fun Z' l' H' vs g r' q'=>⟨Z',l',s1,xs,r',q',xh.ext (r:=k xs s1) q g⟩
def dvs(s:State):List RV→Option (List D)
 | []=>some []
 | r::rs=>match Vw.dv s r,dvs s rs with
  | some d,some ds=>some (d::ds)
  | _,_=>none
theorem SR.dvs(r:SR C Z loc s sv H):∀ {rs:List RV} {vs:List V} {ds:List D},jz C Z loc s sv H rs vs→dvs s rs=some ds→dC C.cA Z ds vs
 | [],vs,ds,h,e=>by cases e;exact h
 | x::l,vs,ds,⟨v,t,e1,st,q,h⟩,e=>by
  unfold Vw.dvs at e
  split at e
  ·rename_i d ds' e2 e3
   cases e
   exact⟨v,t,e1,r.dv q e2,SR.dvs r h e3⟩
  ·cases e
def lS(xs:List RV)(s:State):Res (List Val):=
 match dvs s xs with
 | some [.int j]=>nG 0 j s
 | _=>.stuck
def s9(xs:List RV)(s:State):Res (List Val):=
 match dvs s xs with
 | some [.int i,.int j]=>nG i j s
 | _=>.stuck
theorem wV{p:Pos}{fs:State→Res (List RV)}(ha:PA X [a] (eR C fs))(hg:Gl X "range")(hm:X.mg "range"=none)(hs:notStar a=true):
  PI X tg (.Call (.Name "range" p) [a] [] pos) (kB C (kL fs lS)):=by
 refine q9 (pi_range1 hg hm ha (di hs)) fun sv H R h=>(Ex h).imp fun vs H1 ⟨Z,loc,s,xs,r,q,h⟩=>?_
 unfold lS at h
 split at h
 ·rename_i j e
  obtain⟨v,t,rfl,hv,ht⟩:=r.dvs q e
  cases ht;cases hv
  unfold nG at h
  split at h
  ·rename_i b
   obtain⟨G,Y,wk⟩:=Cv (C:=C) (Z:=Z) (loc:=loc) (lo:=0) (n:=j.toNat)
   exact⟨j,rfl,b.2.2.1,b.2.2.2,h Z loc H1 C _ _ _ (CLe.refl C) (Ext.refl _ _) r (by simpa using wk)⟩
  ·exact h.elim
 ·exact h.elim
theorem FF{p:Pos}{fs:State→Res (List RV)}(ha:PA X [a,b] (eR C fs))(hg:Gl X "range")(hm:X.mg "range"=none)(hs:notStar a=true)(hs2:notStar b=true):
  PI X tg (.Call (.Name "range" p) [a,b] [] pos) (kB C (kL fs s9)):=by
 refine q9 (pi_range2 hg hm ha (by rw[di hs,di hs2];rfl) (by rw[di hs2];rfl)) fun sv H R h=>(Ex h).imp fun vs H1 ⟨Z,loc,s,xs,r,q,h⟩=>?_
 unfold s9 at h
 split at h
 ·rename_i i j e
  obtain⟨v,t,rfl,hv,w,t',rfl,hw,ht⟩:=r.dvs q e
  cases ht;cases hv;cases hw
  unfold nG at h
  split at h
  ·rename_i b
   obtain⟨G,Y,wk⟩:=Cv (C:=C) (Z:=Z) (loc:=loc) (lo:=i) (n:=(j-i).toNat)
   exact⟨i,j,rfl,b,h Z loc H1 C _ _ _ (CLe.refl C) (Ext.refl _ _) r wk⟩
  ·exact h.elim
 ·exact h.elim
end
end Vw
namespace Vw
open PySem L2 PyProof.Rows
def mL(s:State):RV→Option RV
 | .own i=>match s.sg[i]? with
  | some (some (.own o))=>some (.new o)
  | some (some (.v x))=>some (.val x)
  | _=>none
 | r=>some r
abbrev Fn:=List Val→List Ob→Res RV
def fW(n:Nat)(b:State→Res Fl):Fn:=fun args st=>
 match b ⟨args.map (fun x=>some (.v x))++List.replicate (n-args.length) none,st⟩with
 | .ok .nx s=>.ok (.val (.d .non)) ⟨[],s.st⟩
 | .ok (.ret r) s=>match mL s r with
  | some r'=>.ok r' ⟨[],s.st⟩
  | none=>.stuck
 | .ok _ _=>.stuck
 | .exc x s=>.exc x ⟨[],s.st⟩
 | .stuck=>.stuck
section
variable{C:Cst}{Z Z':Hp}{loc loc':List Addr}{s s':State}{sv sv':L2.St}{H H':Hp}
theorem SR.leave(r:SR C Z loc s sv H):SR C Z loc ⟨[],s.st⟩ [] H:=
 ⟨r.fr,r.zh,r.zf,r.lk,r.ln,r.nd,r.lh,r.cl,fun i x h=>by simp at h,fun i o h=>by simp at h,fun i j o o' a h=>by simp at h,rfl⟩
theorem SR.mL(r:SR C Z loc s sv H){rv rv':RV}{v:V}(h:da C Z loc s sv H rv v)(e:mL s rv=some rv'):da C Z loc ⟨[],s.st⟩ [] H rv' v:=by
 cases rv with
 | val x=>cases e;exact h
 | new o=>
  cases e
  obtain⟨a,h1,h2,h3,h4⟩:=h
  exact⟨a,h1,h2,h3,h4.z,h4.f,h4.l,fun i o h=>by simp at h⟩
 | own i=>
  dsimp only[Vw.mL]at e
  split at e
  ·rename_i o h1
   cases e
   obtain⟨a,q1,q2,q3,q4,q5,q6⟩:=r.ow i o h1
   have h:sv[i]? =some (some v):=h
   rw[q1]at h
   cases h
   exact⟨a,rfl,q2,q3,q4,q5,q6,fun i o h=>by simp at h⟩
  ·rename_i x h1
   cases e
   obtain⟨w,q1,q2⟩:=r.vl i x h1
   have h:sv[i]? =some (some v):=h
   rw[q1]at h
   cases h
   exact q2
  ·cases e
def C5(C:Cst)(Z:Hp)(loc:List Addr)(r:Res RV)(Q:VK):Prop:=
 match r with
 | .ok rv s'=>∀ Z' loc' H' v,Ext Z loc Z' loc'→SR C Z' loc' ⟨[],s'.st⟩ [] H'→da C Z' loc' ⟨[],s'.st⟩ [] H' rv v→Q v H'
 | .exc x s'=>∀ Z' loc' H' c d,Ext Z loc Z' loc'→SR C Z' loc' ⟨[],s'.st⟩ [] H'→lH C Z' H' x c d→C.W c d [] H'
 | .stuck=>False
def fL(cA:String→Addr)(Fr H0:Hp)(E:XK):Cst:=⟨cA,Fr,H0,fun c d _ H=>E c d H⟩
def eF(cA:String→Addr)(n:Nat)(g:Fn):Sp:=fun vs H Q E=>∃ Fr H0 Z loc args st,SR (fL cA Fr H0 E) Z loc ⟨[],st⟩ [] H∧bc cA Z loc args vs∧args.length=n∧C5 (fL cA Fr H0 E) Z loc (g args st) Q
theorem BS{cA:String→Addr}{l:List Val}{vs:List V}(h:bc cA Z loc l vs):l.length=vs.length:=du (C:=fL cA (fun _=>none) (fun _=>none) fun _ _ _=>True) h
theorem u1{cA:String→Addr}{n:Nat}{g:Fn}(vs:List V)(H:Hp)(Q:VK)(E:XK)(h:eF cA n g vs H Q E):vs.length=n:=by
 obtain⟨Fr,H0,Z,loc,args,st,r,q,e,_⟩:=h
 rw[←e,BS q]
theorem SR.enter{cA:String→Addr}{Fr H0:Hp}{E:XK}{st:List Ob}{args:List Val}{vs:List V}(r:SR (fL cA Fr H0 E) Z loc ⟨[],st⟩ [] H)(q:bc cA Z loc args vs)(m:Nat):
  SR (fL cA Fr H0 E) Z loc ⟨args.map (fun x=>some (.v x))++List.replicate m none,st⟩ (vs.map some++List.replicate m none) H:=by
 have hl:=BS q
 have noOwn:∀ (i:Nat) (o:Ob),(args.map (fun x=>some (Sl.v x))++List.replicate m none)[i]? ≠some (some (.own o)):=fun i o h=>by
  by_cases hi:i<args.length
  ·rw[List.getElem?_append_left (by simpa using hi)]at h
   simp[hi]at h
  ·rw[List.getElem?_append_right (by simpa using hi)]at h
   have:=List.getElem?_eq_some_iff.mp h
   simp at this
 refine⟨r.fr,r.zh,r.zf,r.lk,r.ln,r.nd,r.lh,r.cl,fun i x h=>?_,fun i o h=>absurd h (noOwn i o),fun i j o o' a h=>absurd h (noOwn i o),by simp[hl]⟩
 by_cases hi:i<args.length
 ·have h:(args.map (fun x=>some (Sl.v x))++List.replicate m none)[i]? =some (some (.v x)):=h
  rw[List.getElem?_append_left (by simpa using hi)]at h
  simp[hi]at h
  subst h
  obtain⟨v,q1,q2⟩:=iN (C:=fL cA Fr H0 E) q (i:=i) (x:=args[i]) (by simp[hi])
  refine⟨v,?_,q2⟩
  rw[List.getElem?_append_left (by simp;omega)]
  simp[q1]
 ·have h:(args.map (fun x=>some (Sl.v x))++List.replicate m none)[i]? =some (some (.v x)):=h
  rw[List.getElem?_append_right (by simpa using hi)]at h
  have:=List.getElem?_eq_some_iff.mp h
  simp at this
end
section
variable{P:Program}{w:World}{K:PySem.W.Frag}{mg:Str→Option Value}{base:Heap}{x qual:Str}{params:Arguments}{body:List Stmt}{scope:Scope}{f:Addr}{fd:FuncData}{N ps:List Str}{cA:String→Addr}{b:State→Res Fl}
theorem vE{Fr H0 Z:Hp}{loc:List Addr}{args:List Val}{st:List Ob}{vs:List V}{H:Hp}{Q:VK}{E:XK}(r:SR (fL cA Fr H0 E) Z loc ⟨[],st⟩ [] H)(q:bc cA Z loc args vs)(hl:args.length=ps.length)
  (h:C5 (fL cA Fr H0 E) Z loc (fW N.length b args st) Q) (hW:∀ c d H',E c d H'→(fL cA Fr H0 E).W c d [] H'):fK (fL cA Fr H0 E) b { nx:=fun _ H'=>Q .non H',rt:=Q } (L2.start N vs) H:=by
 have hv:=BS q
 have es:L2.start N vs=vs.map some++List.replicate (N.length-args.length) none:=by unfold L2.start;rw[hv]
 rw[es]
 refine⟨Z,loc,_,SR.enter r q (N.length-args.length),?_⟩
 unfold fW at h
 cases e:b ⟨args.map (fun x=>some (.v x))++List.replicate (N.length-args.length) none,st⟩with
 | stuck=>rw[e]at h;exact h
 | exc y s1=>rw[e]at h;exact fun Z' l' sv' H' c d g r' x'=>h Z' l' H' c d g r'.leave x'
 | ok k s1=>
  rw[e]at h
  cases k with
  | nx=>exact fun Z' l' sv' H' g r'=>h Z' l' H' .non g r'.leave rfl
  | brk=>exact False.elim h
  | cnt=>exact False.elim h
  | ret rv=>
   dsimp only at h
   split at h
   ·rename_i rv' e2
    exact fun Z' l' sv' H' v g r' q'=>h Z' l' H' v g r'.leave (r'.mL q' e2)
   ·exact h.elim
theorem fn_ok{k:Nat}(F:FunD K x qual params body scope [] [] f fd)(S:FnScope N ps scope)
  (hb:∀ (cdv:Value) (A:Around) (outer:List Env) (s:Shared) (H:Hp) (E:XK) (C:Cst),Room k (A.deeper (envOfC qual scope s.heap.objs.size f cdv))→C.cA=cA→PSs (cxOf CX0 P w K mg base N qual scope f cdv A outer s H E).nox body (fK C b)):
  FnOk P w K mg base CX0 (k+1) f fd ps (eF cA ps.length (fW N.length b)):=by
 refine F.ok S u1 fun cdv A outer s H vs Q E hr h=>?_
 obtain⟨Fr,H0,Z,loc,args,st,r,q,hl,h⟩:=h
 exact⟨_,PSs.nox (hb cdv A outer s H E (fL cA Fr H0 E) hr rfl),vE (ps:=ps) r q hl h fun _ _ _ z=>z⟩
end
open Classical in
noncomputable def gP(H Z:Hp)(loc:List Addr):Hp:=fun a=>if Z a=none∧a∉loc then H a else none
theorem ot{H Z:Hp}{loc:List Addr}{a:Addr}(h:Z a=none)(h':a∉loc):gP H Z loc a=H a:=by unfold gP;rw[if_pos ⟨h,h'⟩]
theorem k5{H Z:Hp}{loc:List Addr}{a:Addr}{o:HO}(h:gP H Z loc a=some o):H a=some o∧Z a=none∧a∉loc:=by
 unfold gP at h
 split at h
 ·rename_i q;exact⟨h,q.1,q.2⟩
 ·cases h
section
variable{C:Cst}{Z Z':Hp}{loc loc':List Addr}{s s':State}{sv sv':L2.St}{H H':Hp}
variable{X:Cx}{e a b c o:Expr}{es:List Expr}{p pos apos:Pos}{f fa fb fc fo fi fv:State→Res RV}
theorem SR.entry(r:SR C Z loc s sv H)(E:XK):SR (fL C.cA (gP H Z loc) C.H0 E) Z loc ⟨[],s.st⟩ [] H:=by
 refine⟨fun a o h=>(k5 h).1,r.zh,fun a o h=>?_,r.lk,r.ln,r.nd,fun a h=>⟨(r.lh a h).1,?_⟩,r.cl,fun i x h=>by simp at h,fun i o h=>by simp at h,fun i j o o' a h=>by simp at h,rfl⟩
 ·cases e:gP H Z loc a with
  | none=>exact e
  | some u=>rw[(k5 e).2.1]at h;cases h
 ·cases e:gP H Z loc a with
  | none=>exact e
  | some u=>exact absurd h (k5 e).2.2
theorem SR.l0(r:SR C Z loc s sv H){a:Addr}{o:HO}(h:C.Fr a=some o):Z a=none∧a∉loc:=by
 refine⟨?_,fun z=>?_⟩
 ·cases e:Z a with
  | none=>rfl
  | some u=>rw[r.zf a u e]at h;cases h
 ·rw[(r.lh a z).2]at h;cases h
theorem SR.back(r:SR C Z loc s sv H){E:XK}{st:List Ob}(g:Ext Z loc Z' loc')(r':SR (fL C.cA (gP H Z loc) C.H0 E) Z' loc' ⟨[],st⟩ [] H'):SR C Z' loc' ⟨s.sg,st⟩ sv H':=by
 have z0:∀ {a:Addr},Z a=none→a∉loc→H a≠none→Z' a=none∧a∉loc'∧H' a=H a:=fun {a} h1 h2 h3=>by
  cases e:H a with
  | none=>exact absurd e h3
  | some u=>
   have f:=(ot (H:=H) h1 h2).trans e
   obtain⟨q1,q2⟩:=r'.l0 (a:=a) f
   exact⟨q1,q2,r'.fr a u f⟩
 have fz:∀ {a:Addr} {o:HO},C.Fr a=some o→Z' a=none∧a∉loc'∧H' a=some o:=fun {a o} h=>by
  obtain⟨q1,q2⟩:=r.l0 h
  have e:=r.fr a o h
  obtain⟨q3,q4,q5⟩:=z0 q1 q2 (by rw[e];simp)
  exact⟨q3,q4,q5.trans e⟩
 refine⟨fun a o h=>(fz h).2.2,r'.zh,fun a o h=>?_,r'.lk,r'.ln,r'.nd,fun a h=>⟨(r'.lh a h).1,?_⟩,r'.cl,fun i x h=>?_,fun i o h=>?_,r.oi,r.ls⟩
 ·cases e:C.Fr a with
  | none=>rfl
  | some u=>rw[(fz e).1]at h;cases h
 ·cases e:C.Fr a with
  | none=>rfl
  | some u=>exact absurd h (fz e).2.1
 ·obtain⟨v,q1,q2⟩:=r.vl i x h
  exact⟨v,q1,c7.mono g x q2⟩
 ·obtain⟨a,q1,q2,q3,q4,q5,q6⟩:=r.ow i o h
  obtain⟨w1,w2,w3⟩:=z0 q4 q6 (jM q2 q3)
  exact⟨a,q1,q2,(q3.at w3).mono g (Same.refl _),w1,q5,w2⟩
theorem da.back(r:SR C Z loc s sv H){E:XK}{st:List Ob}{rv:RV}{v:V}(r':SR (fL C.cA (gP H Z loc) C.H0 E) Z' loc' ⟨[],st⟩ [] H')(q:da (fL C.cA (gP H Z loc) C.H0 E) Z' loc' ⟨[],st⟩ [] H' rv v):da C Z' loc' ⟨s.sg,st⟩ sv H' rv v:=by
 cases rv with
 | val x=>exact q
 | own i=>exact absurd (show([]:L2.St)[i]? =some (some v)from q) (by simp)
 | new o=>
  obtain⟨a,h1,h2,h3,h4⟩:=q
  refine⟨a,h1,h2,h3,h4.z,?_,h4.l,fun i o h e=>?_⟩
  ·cases e:C.Fr a with
   | none=>rfl
   | some u=>
    obtain⟨q1,q2⟩:=r.l0 e
    have:=(ot (H:=H) q1 q2).trans (r.fr a u e)
    have f:=h4.f
    rw[show(fL C.cA (gP H Z loc) C.H0 E).Fr a=_ from this]at f
    cases f
  ·obtain⟨b,q1,q2,q3,q4,q5,q6⟩:=r.ow i o h
   rw[e]at q1
   cases q1
   have f:=h4.f
   rw[show(fL C.cA (gP H Z loc) C.H0 E).Fr a=_ from ot q4 q6]at f
   exact jM q2 q3 f
def eg(g:Fn)(args:List Val)(s:State):Res RV:=
 match g args s.st with
 | .ok r s2=>.ok r ⟨s.sg,s2.st⟩
 | _=>.stuck
def dz(n:Nat)(fs:State→Res (List RV))(g:Fn)(s:State):Res RV:=(fs s).bind fun rs s=>(bI rs s).bind fun args s=>if args.length=n then eg g args s else .stuck
theorem eR.at{fs:State→Res (List RV)}{k:List RV→State→Res RV}{Q:VK}(h:aA C (fun s=>(fs s).bind k) sv H Q):
  eR C fs sv H fun vs H1=>∃ Z loc s xs,SR C Z loc s sv H1∧jz C Z loc s sv H1 xs vs∧EPost C Z loc sv (k xs s) Q:=by
 obtain⟨Z,loc,s,r,q⟩:=h
 refine⟨Z,loc,s,r,?_⟩
 cases e:fs s with
 | stuck=>simp only[e,Res.bind]at q;exact q
 | exc x s1=>simp only[e,Res.bind]at q;exact q
 | ok xs s1=>
  simp only[e,Res.bind]at q
  exact fun Z' l' H' vs g r' q'=>⟨Z',l',s1,xs,r',q',EPost.ext q g⟩
theorem Cf{g:Fn}{n:Nat}{args:List Val}{vs:List V}{Q:VK}(r:SR C Z loc s sv H)(q:bc C.cA Z loc args vs)(hn:args.length=n)(h:EPost C Z loc sv (eg g args s) Q):eF C.cA n g vs H Q E0:=by
 refine⟨gP H Z loc,C.H0,Z,loc,args,s.st,r.entry _,q,hn,?_⟩
 unfold eg at h
 cases e:g args s.st with
 | stuck=>rw[e]at h;exact h
 | exc x s1=>rw[e]at h;exact h.elim
 | ok rv s1=>
  rw[e]at h
  exact fun Z' l' H' v g r' q'=>h Z' l' H' v g (r.back g r') (da.back r r' q')
theorem Ej{CX:CXT}{k:Nat}{fA:Addr}{fd:FuncData}{ps:List Str}{x:Str}{g:Fn}{fs:State→Res (List RV)}(F:FnOk X.prog X.w X.K X.mg X.base CX k fA fd ps (eF C.cA ps.length g))(hr:Room k X.A)(hg:Gl X x)(hm:X.mg x=some (.ref fA))(hk:PySem.W.keepIn X.K (.ref fA)=true)
  (hb:Binds X.K fd ps []) (hx:Passes CX X E0) (ha:PA X (e::es) (eR C fs)) (hdb:(x==("__debug__":Str))=false) (hs:(e::es).all notStar=true):
  PE X (.Call (.Name x p) (e::es) [] pos) (aA C (dz ps.length fs g)):=by
 have hs':=hs
 simp only[List.all_cons,Bool.and_eq_true]at hs
 refine c6 (pe_call F hr hg hm hk hb .nil hx ha hdb (di hs.1) (ik hs.2)) fun sv H Q h=>(eR.at h).imp fun vs H1 ⟨Z,loc,s,xs,r,q,h⟩=>?_
 rw[List.append_nil]
 cases e1:bI xs s with
 | stuck=>rw[e1]at h;exact h.elim
 | exc x s1=>exact absurd e1 ie
 | ok args s1=>
  rw[e1]at h
  simp only[Res.bind]at h
  obtain⟨Z1,g1,r1,q1⟩:=r.bI q e1
  split at h
  ·rename_i hn
   exact Cf r1 q1 hn (EPost.ext h g1)
  ·exact h.elim
end
end Vw
namespace Vw
open PySem L2 PyProof.Rows
section
variable{C:Cst}{Z Z' Zc:Hp}{loc loc':List Addr}{s s':State}{sv sv':L2.St}{H H':Hp}
variable{X:Cx}{e a b c o:Expr}{es:List Expr}{p pos apos:Pos}{f fa fb fc fo fi fv:State→Res RV}
structure GoodZ (Z H Zc:Hp):Prop where
 up:Same Z Zc
 at_:∀ (a:Addr) (o:HO),Zc a=some o→Z a=some o∨(H a=some o∧oG o=false)
theorem GoodZ.refl:GoodZ Z H Z:=⟨Same.refl _,fun a o h=>.inl h⟩
theorem GoodZ.rz(g:GoodZ Z H Zc)(r:SR C Z loc s sv H){a:Addr}{o:HO}(h:Zc a=some o):Rz H a o:=(g.at_ a o h).elim (r.zh a o) fun q=>.inl q.1
theorem SR.look(r:SR C Z loc s sv H)(g:GoodZ Z H Zc)(E:XK):SR (fL C.cA (gP H Zc []) C.H0 E) Zc [] ⟨[],[]⟩ [] H:=by
 refine⟨fun a o h=>(k5 h).1,fun a o h=>g.rz r h,fun a o h=>?_,r.lk,rfl,List.nodup_nil,fun a h=>by simp at h,fun n a o h=>by simp at h,fun i x h=>by simp at h,fun i o h=>by simp at h,fun i j o o' a h=>by simp at h,rfl⟩
 cases e:gP H Zc [] a with
 | none=>exact e
 | some u=>rw[(k5 e).2.1]at h;cases h
end
end Vw
namespace Vw
open PySem L2 PyProof.Rows
def ig(g:Slots):List Nat→Slots
 | []=>g
 | v::vs=>(ig g vs).set v none
def eH(vs:List Nat)(s:State):State:={ s with sg:=ig s.sg vs }
def pL(vs:List Nat)(t:Tg)(ft:State→Res Bool)(fe:State→Res RV):List Val→List Val→State→Res (List Val)
 | [],acc,s=>.ok acc s
 | x::l,acc,s=>match iF t x (eH vs s)with
  | none=>.stuck
  | some s=>match ft s with
   | .ok true s=>match fe s with
    | .ok rv s=>match eu rv s with
     | .ok y s=>if acc.length<sizeLine then pL vs t ft fe l (acc++[y]) (eH vs s)else .stuck
     | _=>.stuck
    | _=>.stuck
   | .ok false s=>pL vs t ft fe l acc (eH vs s)
   | _=>.stuck
def zY(acc:List Val)(s:State):Res RV:=.ok (.new (.lst acc)) s
def lN(vs:List Nat)(t:Tg)(src:State→Res (List Val))(ft:State→Res Bool)(fe:State→Res RV)(s:State):Res RV:=(src s).bind fun l s=>(pL vs t ft fe l [] (eH vs s)).bind zY
section
variable{C:Cst}{Z Z' Zc:Hp}{loc loc':List Addr}{s s':State}{sv sv':L2.St}{H H':Hp}
variable{X:Cx}{elt tg iter:Expr}{ifs:List Expr}{scope:Scope}{own:List (Str×Nat)}{p pos:Pos}{f fa fb fc fo fi fv fe:State→Res RV}{ft:State→Res Bool}
theorem SR.wipe(r:SR C Z loc s sv H):∀ vs:List Nat,SR C Z loc (eH vs s) (L2.wipe sv vs) H
 | []=>r
 | v::vs=>(SR.wipe r vs).unset v none
theorem t4{g:Slots}{i:Nat}{x:Sl}:∀ {vs:List Nat},(ig g vs)[i]? =some (some x)→g[i]? =some (some x)
 | [],h=>h
 | v::vs,h=>by
  unfold ig at h
  rcases dV h with⟨_,q⟩ | ⟨_,q⟩
  ·cases q
  ·exact t4 q
theorem SR.ED{vs:List Nat}(r:SR C Z loc s (L2.wipe sv vs) H):SR C Z loc s sv H:=by
 refine⟨r.fr,r.zh,r.zf,r.lk,r.ln,r.nd,r.lh,r.cl,fun i x h=>?_,fun i o h=>?_,fun i j o o' a h h' h1 h2=>?_,by rw[r.ls,wipe_length]⟩
 ·obtain⟨v,q1,q2⟩:=r.vl i x h
  exact⟨v,(wipe_some q1).1,q2⟩
 ·obtain⟨a,q1,q2⟩:=r.ow i o h
  exact⟨a,(wipe_some q1).1,q2⟩
 ·obtain⟨b,q1,_⟩:=r.ow i o h
  obtain⟨c,q2,_⟩:=r.ow j o' h'
  have e1:=(wipe_some q1).1
  have e2:=(wipe_some q2).1
  rw[h1]at e1
  rw[h2]at e2
  cases e1;cases e2
  exact r.oi i j o o' _ h h' q1 q2
theorem Free.wipe{D:Addr}(f:Free C Z loc s sv D)(vs:List Nat):Free C Z loc (eH vs s) (L2.wipe sv vs) D:=
 ⟨f.z,f.f,f.l,fun i o h e=>f.o i o (t4 h) (wipe_some e).1⟩
theorem vr{i:Nat}:∀ {vs:List Nat},i∈vs→i<sv.length→(L2.wipe sv vs)[i]? =some none
 | [],h,_=>by simp at h
 | v::vs,h,hl=>by
  unfold L2.wipe
  by_cases hv:v=i
  ·subst hv
   exact List.getElem?_set_self (by rw[wipe_length];exact hl)
  ·rw[List.getElem?_set_ne hv]
   exact vr (by simpa [Ne.symm hv]using h) hl
theorem xq{vs l:List Nat}(h:Off l (L2.wipe sv vs) sv')(hl:∀ i∈l,i∈vs):L2.wipe sv' vs=L2.wipe sv vs:=by
 have len:sv'.length=sv.length:=by rw[h.1,wipe_length]
 refine List.ext_getElem? fun i=>?_
 by_cases hi:i<sv.length
 ·by_cases hv:i∈vs
  ·rw[vr hv hi,vr hv (by rw[len];exact hi)]
  ·rw[wipe_out hv,h.2 i fun z=>hv (hl i z)]
 ·rw[List.getElem?_eq_none (by rw[wipe_length,len];omega),List.getElem?_eq_none (by rw[wipe_length];omega)]
theorem vY(vs:List Nat):L2.wipe (L2.wipe sv vs) vs=L2.wipe sv vs:=xq (l:=vs) ⟨rfl,fun _ _=>rfl⟩ fun _ h=>h
def nt(C:Cst)(D:Addr)(o:HO):Cst:=⟨C.cA,upd C.Fr D o,C.H0,fun _ _ _ _=>False⟩
theorem SR.hold(r:SR C Z loc s sv H){D:Addr}{o:HO}(h:H D=some o)(f:Free C Z loc s sv D):SR (nt C D o) Z loc s sv H:=by
 have ne:∀ {a:Addr},a≠D→(nt C D o).Fr a=C.Fr a:=fun {a} h=>upd_ne h
 refine⟨fun a u q=>?_,r.zh,fun a u q=>?_,r.lk,r.ln,r.nd,fun a q=>⟨(r.lh a q).1,?_⟩,r.cl,r.vl,fun i ob q=>?_,r.oi,r.ls⟩
 ·by_cases ha:a=D
  ·subst ha
   have q:upd C.Fr a o a=some u:=q
   rw[upd_same]at q
   cases q
   exact h
  ·rw[ne ha]at q;exact r.fr a u q
 ·have ha:a≠D:=fun z=>by rw[z,f.z]at q;cases q
  rw[ne ha];exact r.zf a u q
 ·have ha:a≠D:=fun z=>f.l (z▸q)
  rw[ne ha];exact(r.lh a q).2
 ·obtain⟨a,q1,q2,q3,q4,q5,q6⟩:=r.ow i ob q
  have ha:a≠D:=fun z=>f.o i ob q (z▸q1)
  exact⟨a,q1,q2,q3,q4,(ne ha).trans q5,q6⟩
theorem SR.held{D:Addr}{o:HO}(f:C.Fr D=none)(r:SR (nt C D o) Z loc s sv H):SR C Z loc s sv H∧H D=some o∧Free C Z loc s sv D:=by
 have ne:∀ {a:Addr},(nt C D o).Fr a=none→a≠D∧C.Fr a=none:=fun {a} h=>by
  have ha:a≠D:=fun z=>by
   subst z
   have h:upd C.Fr a o a=none:=h
   rw[upd_same]at h
   cases h
  exact⟨ha,(upd_ne ha).symm.trans h⟩
 have hD:(nt C D o).Fr D=some o:=upd_same
 refine⟨⟨fun a u q=>?_,r.zh,fun a u q=>(ne (r.zf a u q)).2,r.lk,r.ln,r.nd,fun a q=>⟨(r.lh a q).1,(ne (r.lh a q).2).2⟩,r.cl,r.vl,fun i ob q=>?_,r.oi,r.ls⟩,r.fr D o hD,⟨?_,f,fun z=>?_,fun i ob q e=>?_⟩⟩
 ·have ha:a≠D:=fun z=>by rw[z,f]at q;cases q
  exact r.fr a u ((upd_ne ha).trans q)
 ·obtain⟨a,q1,q2,q3,q4,q5,q6⟩:=r.ow i ob q
  exact⟨a,q1,q2,q3,q4,(ne q5).2,q6⟩
 ·cases e:Z D with
  | none=>rfl
  | some u=>rw[r.zf D u e]at hD;cases hD
 ·rw[(r.lh D z).2]at hD;cases hD
 ·obtain⟨a,q1,q2,q3,q4,q5,q6⟩:=r.ow i ob q
  rw[e]at q1
  cases q1
  exact(ne q5).1 rfl
theorem SR.Hm(r:SR C Z loc s sv H){D:Addr}{o u:HO}(h:H D=some o)(nf:∀ x w,o≠ .frz x w)(f:Free C Z loc s sv D):SR C Z loc s sv (upd H D u):=by
 refine⟨fun a w q=>?_,fun a w q=>?_,r.zf,fun a w v q=>?_,r.ln,r.nd,fun a q=>⟨?_,(r.lh a q).2⟩,fun n a ob h1 h2 h3=>?_,r.vl,fun i ob q=>?_,r.oi,r.ls⟩
 ·have ha:a≠D:=fun z=>by rw[z,f.f]at q;cases q
  rw[upd_ne ha];exact r.fr a w q
 ·have ha:a≠D:=fun z=>by rw[z,f.z]at q;cases q
  unfold Rz
  rw[upd_ne ha];exact r.zh a w q
 ·have q':=r.lk a w v q
  have ha:a≠D:=fun z=>by
   rw[z,h]at q'
   cases q'
   exact nf _ _ rfl
  rw[upd_ne ha];exact q'
 ·have ha:a≠D:=fun z=>f.l (z▸q)
  rw[upd_ne ha];exact(r.lh a q).1
 ·have ha:a≠D:=fun z=>f.l (z▸List.mem_of_getElem? h1)
  obtain⟨q1,q2⟩:=r.cl n a ob h1 h2 h3
  exact⟨q1.at (upd_ne ha),q2⟩
 ·obtain⟨a,q1,q2,q3,q4,q5,q6⟩:=r.ow i ob q
  have ha:a≠D:=fun z=>f.o i ob q (z▸q1)
  exact⟨a,q1,q2,q3.at (upd_ne ha),q4,q5,q6⟩
theorem Free.Jn{D:Addr}{o:HO}(f:Free C Z loc s sv D)(h:H D=some o)(g:nU H Z H' Z'):Free C Z' loc s sv D:=⟨(g.2 D (by rw[h];simp)).trans f.z,f.f,f.l,f.o⟩
def lW(s:State):Res Bool:=.ok true s
theorem qO:PTs X [] (e6 C lW):=⟨fun pins s sv H Q I ⟨Z,loc,s0,r,q⟩=>pts_nil.run pins s sv H Q I (q Z loc H (Ext.refl _ _) r)⟩
abbrev CT(C:Cst)(t:Tg):TG:=fun v sv H Q=>∃ C',C'.cA=C.cA∧pF C' t v sv H Q
abbrev CZ(C:Cst)(ft:State→Res Bool):TT:=fun sv H Q=>∃ C',C'.cA=C.cA∧e6 C' ft sv H Q
abbrev CB(C:Cst)(fe:State→Res RV):TE:=fun sv H Q=>∃ C',C'.cA=C.cA∧aA C' fe sv H Q
theorem Af{t:Tg}{src:State→Res (List Val)}{vs:List Nat}{Q:VK}(hv:∀ i∈vW t,i∈vs)(h:aA C (lN vs t src ft fe) sv H Q):tLc (kB C src) (CT C t) (CZ C ft) (CB C fe) vs sv H Q:=by
 obtain⟨Z,loc,s,r,q⟩:=h
 refine⟨Z,loc,s,r,?_⟩
 unfold lN at q
 cases e:src s with
 | stuck=>rw[e]at q;exact q
 | exc x s1=>rw[e]at q;exact q
 | ok l s1=>
  rw[e]at q
  simp only[Res.aa]at q
  intro Z1 l1 H1 C' J G Y cle g1 r1 wk D hD
  have hf:=((r1.wipe vs).free hD)
  have cF:C'.Fr D=none:=hf.f
  refine lc_it (g:=CT C t) (tt:=CZ C ft) (te:=CB C fe) (vs:=vs) (σ:=sv) wk.w (fun i H=>∃ Z2 l2 s2 acc xs,Ext Z1 l1 Z2 l2∧SR C' Z2 l2 s2 (L2.wipe sv vs) H∧H D=some (.lst xs)∧Free C' Z2 l2 s2 (L2.wipe sv vs) D∧bc C'.cA Z2 l2 acc xs∧EPost C Z2 l2 sv ((pL vs t ft fe (l.drop i) acc s2).bind zY) Q)
   ⟨Z1,l1,eH vs s1,[],[],Ext.refl _ _,(r1.wipe vs).grow (dQ hD),upd_same,hf,rfl,EPost.ext q g1⟩ (fun i H _ ⟨Z2,l2,s2,acc,xs,g2,r2,_⟩=>wk.g Z2 l2 s2 _ H g2 r2) ?_ ?_
  ·rintro i v H2 H3 hi ⟨Z2,l2,s2,acc,xs,g2,r2,hx,f2,ra,q2⟩ hy
   rw[List.drop_eq_getElem_cons hi]at q2
   obtain⟨Z3,g3,gr,r3,q3⟩:=wk.y Z2 l2 s2 _ H2 i l[i] v H3 g2 r2 (by simp[hi]) hy
   have f3:=(f2.Jn hx gr).wipe vs
   rw[vY]at f3
   have r3':=r3.wipe vs
   rw[vY]at r3'
   have hx3:=gr.1 D _ hx
   refine⟨nt C' D (.lst xs),cle.ca,Z3,l2,eH vs s2,l[i],r3'.hold hx3 f3,q3,?_⟩
   unfold pL at q2
   cases e1:iF t l[i] (eH vs s2)with
   | none=>rw[e1]at q2;exact q2
   | some s3=>
    rw[e1]at q2
    intro sv4 off r4
    have we:=xq off hv
    refine⟨we,nt C' D (.lst xs),cle.ca,Z3,l2,s3,r4,?_⟩
    dsimp only at q2
    have q2':=EPost.ext q2 g3
    cases e2:ft s3 with
    | stuck=>rw[e2]at q2';exact q2'
    | exc x s4=>rw[e2]at q2';exact False.elim q2'
    | ok b s4=>
     rw[e2]at q2'
     intro Z5 l5 H5 g5 r5
     cases b with
     | false=>
      obtain⟨r5',hx5,f5⟩:=r5.held cF
      have r6:=r5'.wipe vs
      have f6:=f5.wipe vs
      rw[we]at r6 f6
      exact⟨Z5,l5,eH vs s4,acc,xs,g2.trans (g3.trans g5),r6,hx5,f6,bc.mono (g3.trans g5) _ ra,EPost.ext q2' g5⟩
     | true=>
      refine⟨nt C' D (.lst xs),cle.ca,Z5,l5,s4,r5,?_⟩
      dsimp only at q2'
      cases e3:fe s4 with
      | stuck=>rw[e3]at q2';exact q2'
      | exc x s5=>rw[e3]at q2';exact False.elim q2'
      | ok rv s5=>
       rw[e3]at q2'
       dsimp only at q2'
       intro Z6 l6 H6 v6 g6 r6 q6
       cases e4:eu rv s5 with
       | stuck=>rw[e4]at q2';exact False.elim q2'
       | exc x s6=>rw[e4]at q2';exact False.elim q2'
       | ok y s6=>
        rw[e4]at q2'
        dsimp only at q2'
        obtain⟨Z7,g7,r7,q7⟩:=r6.eu q6 e4
        obtain⟨r8,hx8,f8⟩:=r7.held cF
        have gg:=g3.trans (g5.trans (g6.trans g7))
        have ra':=bc.mono gg _ ra
        split at q2'
        ·rename_i hlt
         refine⟨xs,hx8,by rw[←du ra];exact hlt,?_⟩
         have r9:=(r8.Hm (u:=.lst (xs++[v6])) hx8 (fun _ _ z=>nomatch z) f8).wipe vs
         have f9:=f8.wipe vs
         rw[we]at r9 f9
         exact⟨Z7,l6,eH vs s6,acc++[y],xs++[v6],g2.trans gg,r9,upd_same,f9,nA ra' ⟨v6,[],rfl,q7,rfl⟩,EPost.ext q2' (g5.trans (g6.trans g7))⟩
        ·exact False.elim q2'
  ·rintro H2 ⟨Z2,l2,s2,acc,xs,g2,r2,hx,f2,ra,q2⟩
   rw[List.drop_length]at q2
   refine q2 Z2 l2 H2 (.ref D) (Ext.refl _ _) (SR.le cle r2).ED ⟨D,rfl,by simp,⟨xs,hx,by rw[←cle.ca];exact ra⟩,f2.z,by rw[←cle.fr];exact f2.f,f2.l,fun i o h e=>?_⟩
   obtain⟨b,q1,_⟩:=r2.ow i o h
   have e1:=(wipe_some q1).1
   rw[e]at e1
   cases e1
   exact f2.o i o h q1
theorem Be{i:Nat}{D:Ends}(hi:i<sv.length)(h:fK C (cq i f) D sv H):aA C f sv H fun v H1=>D.nx (sv.set i (some v)) H1:=by
 obtain⟨Z,loc,s,r,q⟩:=h
 refine(aA.oU r q).imp fun v H1 ⟨Z1,l1,s1,y,g1,r1,q1,h1⟩=>?_
 unfold su at h1
 split at h1
 ·rename_i s2 e2
  obtain⟨Z2,g2,r2⟩:=r1.nO hi q1 e2
  exact(h1.ext g2).nx r2
 ·exact h1.elim
structure Blk (X:Cx) (C:Cst) (scope:Scope) (tg elt:Expr) (ifs:List Expr) (t:Tg) (ft:State→Res Bool) (fe:State→Res RV):Prop where
 go:∀ (s:Shared) (H:Hp) (D:Addr) (cl:List (Str×Addr)) (fp:List Addr) (C':Cst),C'.cA=C.cA→
  PG (X.blk s H scope (compEnvC scope cl D X.env) fp) tg (pF C' t)∧PTs (X.blk s H scope (compEnvC scope cl D X.env) fp) ifs (e6 C' ft)∧PE (X.blk s H scope (compEnvC scope cl D X.env) fp) elt (aA C' fe)
theorem Jr{t:Tg}{src:State→Res (List Val)}(hc:X.calm=true)(hN:X.N.Nodup)(hi:PI X tg iter (kB C src))(ok:BlkOk X.N X.env.scope scope own)(hb:Blk X C scope tg elt ifs t ft fe)(hs:d0 iter=true)(hv:∀ i∈vW t,i∈own.map (·.2)):
  PE X (.ListComp elt [⟨tg,iter,ifs,0⟩] scope pos) (aA C (lN (own.map (·.2)) t src ft fe)):=
 c6 (pe_lc (g:=CT C t) (tt:=CZ C ft) (te:=CB C fe) hc hN hi ok
  (fun s H D cl fp=>⟨fun pins s0 sv H0 v u Q I r ⟨C',c,q⟩=>(hb.go s H D cl fp C' c).1.run pins s0 sv H0 v u Q I r q⟩)
  (fun s H D cl fp=>⟨fun pins s0 sv H0 Q I ⟨C',c,q⟩=>(hb.go s H D cl fp C' c).2.1.run pins s0 sv H0 Q I q⟩)
  (fun s H D cl fp=>⟨fun pins s0 sv H0 Q I ⟨C',c,q⟩=>(hb.go s H D cl fp C' c).2.2.run pins s0 sv H0 Q I q⟩) (fold_ok hs)) fun sv H Q h=>Af hv h
theorem DL{t:Tg}{src:State→Res (List Val)}{i:Nat}{y:Str}{py spos:Pos}(hc:X.calm=true)(hN:X.N.Nodup)(hy:X.N[i]? =some y)(hyl:X.env.scope.names.lookup y=some .local)(hk:X.env.scope.kind=.function)
  (hl:(py.line==pos.line)=true) (ha:(scope.names.any fun(n,k)=>n==y&&(k== .local||k== .cell))=false)
  (hi:PI X tg iter (kB C src)) (ok:BlkOk X.N X.env.scope scope own) (hb:Blk X C scope tg elt ifs t ft fe) (hs:d0 iter=true) (hv:∀ i∈vW t,i∈own.map (·.2)):
  PS X (.Assign [.Name y py] (.ListComp elt [⟨tg,iter,ifs,0⟩] scope pos) spos) (fK C (cq i (lN (own.map (·.2)) t src ft fe))):=by
 refine xg (ps_setLc (i:=i) (g:=CT C t) (tt:=CZ C ft) (te:=CB C fe) hc hN hy hyl (sw_true hk hyl hl ha) hi ok
  (fun s H D cl fp=>⟨fun pins s0 sv H0 v u Q I r ⟨C',c,q⟩=>(hb.go s H D cl fp C' c).1.run pins s0 sv H0 v u Q I r q⟩)
  (fun s H D cl fp=>⟨fun pins s0 sv H0 Q I ⟨C',c,q⟩=>(hb.go s H D cl fp C' c).2.1.run pins s0 sv H0 Q I q⟩)
  (fun s H D cl fp=>⟨fun pins s0 sv H0 Q I ⟨C',c,q⟩=>(hb.go s H D cl fp C' c).2.2.run pins s0 sv H0 Q I q⟩) (fold_ok hs)) fun D sv H hl h=>?_
 exact Af hv (Be (by rw[hl];exact(List.getElem?_eq_some_iff.mp hy).1) h)
end
end Vw
namespace Vw
open PySem L2 PyProof.Rows
def eZ(fs:State→Res (List RV))(b:List RV→State→Res RV)(s:State):Res RV:=(fs s).bind b
def ku(T:String)(fo:State→Res RV)(fs:State→Res (List RV))(b:RV→List RV→State→Res RV)(ty:State→RV→Bool)(s:State):Res RV:=
 (ev fo s).bind fun o s=>if ty s o then(fs s).bind fun rs s=>b o rs s else .stuck
def t9(s:State)(r:RV):Bool:=match dv s r with
 | some (.str _)=>true
 | _=>false
def ij(s:State)(r:RV):Bool:=(lv s r).isSome
def intsOf:List Val→Option (List Int)
 | []=>some []
 | .d (.int i)::r=>(intsOf r).map (i:: ·)
 | _=>none
def strsOf:List Val→Option (List (List Nat))
 | []=>some []
 | .d (.str i)::r=>(strsOf r).map (i:: ·)
 | _=>none
def sq(s:State)(r:RV):Option (List Val):=
 match lv s r with
 | some l=>some l
 | none=>tv s r
def gk(rs:List RV)(s:State):Res RV:=
 match rs with
 | [x]=>match dv s x with
  | some (.str t)=>if t.length≤sizeLine then a0 (.int t.length) s else .stuck
  | _=>match sq s x with
   | some l=>a0 (.int l.length) s
   | none=>.stuck
 | _=>.stuck
def Gm(rs:List RV)(s:State):Res RV:=
 match rs with
 | [x]=>match sq s x with
  | some l=>.ok (.new (.lst l)) s
  | none=>.stuck
 | _=>.stuck
def IV(rs:List RV)(s:State):Res RV:=
 match rs with
 | [x]=>match dv s x with
  | some (.int i)=>a0 (.int (if i<0 then-i else i)) s
  | _=>.stuck
 | _=>.stuck
def Gy(rs:List RV)(s:State):Res RV:=
 match rs with
 | [x,y]=>match dv s x,dv s y with
  | some (.int i),some (.int j)=>a0 (.int (if j > i then j else i)) s
  | _,_=>.stuck
 | _=>.stuck
def FX:List Int→Int
 | []=>0
 | x::r=>r.foldl max x
def Hs(rs:List RV)(s:State):Res RV:=
 match rs with
 | [x]=>match (lv s x).bind intsOf with
  | some (n::ns)=>a0 (.int (FX (n::ns))) s
  | _=>.stuck
 | _=>.stuck
def dX(i:Int):List Nat:=(Str.ofString (toString i)).cps.toList
def oS(rs:List RV)(s:State):Res RV:=
 match rs with
 | [x]=>match dv s x with
  | some (.int i)=>if i.natAbs.log2<1920 then a0 (.str (dX i)) s else .stuck
  | _=>.stuck
 | _=>.stuck
def bAppend(o:RV)(rs:List RV)(s:State):Res RV:=
 match rs with
 | [x]=>(eu x s).bind fun y s=>match ob s o with
  | some (.lst l)=>if l.length<sizeLine then .ok (.val (.d .non)) (wr o (.lst (l++[y])) s)else .stuck
  | _=>.stuck
 | _=>.stuck
def uD(o:RV)(rs:List RV)(s:State):Res RV:=
 match rs with
 | []=>match ob s o with
  | some (.lst l)=>match l[l.length- 1]? with
   | some y=>.ok (.val y) (wr o (.lst l.dropLast) s)
   | none=>.stuck
  | _=>.stuck
 | _=>.stuck
section
variable{C:Cst}{Z Z' Zc:Hp}{loc loc':List Addr}{s s':State}{sv sv':L2.St}{H H':Hp}
variable{X:Cx}{e a b c o:Expr}{es:List Expr}{p pos apos:Pos}{f fa fb fc fo fi fv:State→Res RV}{fs:State→Res (List RV)}
def uu(C:Cst)(b:List RV→State→Res RV)(r:List V→Hp→VK→Prop):Prop:=∀ (Z:Hp) (loc:List Addr) (s:State) (sv:L2.St) (H:Hp) (rs:List RV) (vs:List V) (Q:VK),SR C Z loc s sv H→jz C Z loc s sv H rs vs→EPost C Z loc sv (b rs s) Q→r vs H Q
def yK(C:Cst)(b:RV→List RV→State→Res RV)(r:V→List V→Hp→VK→Prop):Prop:=∀ (Z:Hp) (loc:List Addr) (s:State) (sv:L2.St) (H:Hp) (o:RV) (v:V) (rs:List RV) (vs:List V) (Q:VK),SR C Z loc s sv H→da C Z loc s sv H o v→jz C Z loc s sv H rs vs→EPost C Z loc sv (b o rs s) Q→r v vs H Q
def AM(C:Cst)(T:String)(ty:State→RV→Bool):Prop:=∀ (K:PySem.W.Frag) (Z:Hp) (loc:List Addr) (s:State) (sv:L2.St) (H:Hp) (o:RV) (v:V),SR C Z loc s sv H→da C Z loc s sv H o v→ty s o=true→tyV K T v H
theorem iH{id:String}{x:Str}{r:List V→Hp→VK→Prop}{bf:List RV→State→Res RV}(hc:CallR X (.builtin id) r)(hS:uu C bf r)(hg:Gl X x)(hm:X.mg x=none)(hv:bootBuiltins x=some (.builtin id))(ha:PA X (e::es) (eR C fs))(hs:(e::es).all notStar=true)(hn:x≠"__name__")(hdb:(x==("__debug__":Str))=false):
  PE X (.Call (.Name x p) (e::es) [] pos) (aA C (eZ fs bf)):=by
 have hs':=hs
 simp only[List.all_cons,Bool.and_eq_true]at hs
 exact c6 (pe_callB hc hg hm hv ha hn hdb (di hs.1) (ik hs.2)) fun sv H Q h=>(eR.at h).imp fun vs H1 ⟨Z,loc,s,xs,r,q,h⟩=>hS Z loc s sv H1 xs vs Q r q h
theorem jT{T:String}{x:Str}{r:List V→Hp→VK→Prop}{bf:List RV→State→Res RV}(hc:CallR X (.type T) r)(hS:uu C bf r)(hg:Gl X x)(hm:X.mg x=none)(hv:bootBuiltins x=some (.type T))(ha:PA X (e::es) (eR C fs))(hs:(e::es).all notStar=true)(hn:x≠"__name__")(hdb:(x==("__debug__":Str))=false):
  PE X (.Call (.Name x p) (e::es) [] pos) (aA C (eZ fs bf)):=by
 have hs':=hs
 simp only[List.all_cons,Bool.and_eq_true]at hs
 exact c6 (pe_callTy hc hg hm hv ha hn hdb (di hs.1) (ik hs.2)) fun sv H Q h=>(eR.at h).imp fun vs H1 ⟨Z,loc,s,xs,r,q,h⟩=>hS Z loc s sv H1 xs vs Q r q h
theorem CS{T:String}{r:V→List V→Hp→VK→Prop}{bf:RV→List RV→State→Res RV}{ty:State→RV→Bool}{Q:VK}(K:PySem.W.Frag)(hS:yK C bf r)(hT:AM C T ty)(h:aA C (ku T fo fs bf ty) sv H Q):
  aA C fo sv H fun x H1=>tyV K T x H1∧eR C fs sv H1 fun xs H2=>r x xs H2 Q:=by
 obtain⟨Z,loc,s,r,q⟩:=h
 refine(aA.nB r q).imp fun v H1 ⟨Z1,l1,s1,y,g1,r1,st1,q1,h1⟩=>?_
 split at h1
 ·rename_i ht
  refine⟨hT K Z1 l1 s1 sv H1 y v r1 q1 ht,?_⟩
  refine⟨Z1,l1,s1,r1,?_⟩
  cases e:fs s1 with
  | stuck=>simp only[e,Res.bind]at h1;exact h1
  | exc x s2=>simp only[e,Res.bind]at h1;exact h1
  | ok xs s2=>
   simp only[e,Res.bind]at h1
   exact fun Z' l' H' vs g r' q'=>hS Z' l' s2 sv H' y v xs vs Q r' (da.mono g st1 q1) q' (EPost.ext h1 g)
 ·exact h1.elim
theorem sR{T id:String}{name:Str}{r:V→List V→Hp→VK→Prop}{bf:RV→List RV→State→Res RV}{ty:State→RV→Bool}(pa:PlainAttrs T)(slot:Slot T name id)(hty:typeOf (.builtin id)=pure (.type "method_descriptor"))(hm:MtR X id r)(hS:yK C bf r)(hT:AM C T ty)
  (ho:PE X o (aA C fo)) (ha:PA X (e::es) (eR C fs)) (hb:zO o=true) (hs:(e::es).all notStar=true) (hl:(e::es).length<20) (hline:(apos.endLine==pos.line)=true):
  PE X (.Call (.Attribute o name apos) (e::es) [] pos) (aA C (ku T fo fs bf ty)):=by
 have hs':=hs
 simp only[List.all_cons,Bool.and_eq_true]at hs'
 exact c6 (pe_bm pa slot hty hm ho ha (CJ hb) (FN hs hl) hline (di hs'.1) (ik hs'.2)) fun sv H Q h=>CS X.K hS hT h
theorem GI{T id:String}{name:Str}{r:V→List V→Hp→VK→Prop}{bf:RV→List RV→State→Res RV}{ty:State→RV→Bool}(pa:PlainAttrs T)(slot:Slot T name id)(hty:typeOf (.builtin id)=pure (.type "method_descriptor"))(hm:MtR X id r)(hS:yK C bf r)(hT:AM C T ty)
  (ho:PE X o (aA C fo)) (hb:zO o=true) (hline:(apos.endLine==pos.line)=true):
  PE X (.Call (.Attribute o name apos) [] [] pos) (aA C (ku T fo (aC []) bf ty)):=by
 refine c6 (pe_bm0 pa slot hty hm ho (CJ hb) hline) fun sv H Q h=>(CS X.K hS hT h).imp fun v H1 ⟨h1,Z,loc,s,r,q⟩=>⟨h1,q Z loc H1 [] (Ext.refl _ _) r rfl⟩
theorem SR.sq(r:SR C Z loc s sv H){K:PySem.W.Frag}{rv:RV}{v:V}{l:List Val}(h:da C Z loc s sv H rv v)(e:Vw.sq s rv=some l):∃ a xs,v=.ref a∧(SqL K H a xs∨SqT K H a xs)∧bc C.cA Z loc l xs:=by
 unfold Vw.sq at e
 split at e
 ·rename_i l' e1
  cases e
  obtain⟨a,xs,h1,h2,h3⟩:=r.lv h e1
  exact⟨a,xs,h1,.inl (.inl h2),h3⟩
 ·obtain⟨a,xs,h1,h2,h3⟩:=r.tv h e
  exact⟨a,xs,h1,.inr (.inl (.inl h2)),h3⟩
theorem fO(K:PySem.W.Frag):uu C gk (fun xs H Q=>∃ x n,xs=[x]∧LenV K x H n∧Q (.int n) H):=by
 intro Z loc s sv H rs vs Q r q h
 unfold gk at h
 split at h
 ·rename_i x
  obtain⟨v,t,rfl,st,q1,q2⟩:=q
  cases q2
  split at h
  ·rename_i t e
   have q3:v=.str ⟨t.toArray⟩:=r.dv q1 e
   subst q3
   split at h
   ·rename_i hl
    exact⟨_,t.length,rfl,⟨by simpa [Str.length]using hl,by simp[Str.length]⟩,h.a0 r rfl⟩
   ·exact h.elim
  ·split at h
   ·rename_i l e
    obtain⟨a,xs,rfl,h1,h2⟩:=r.sq (K:=K) q1 e
    refine⟨_,l.length,rfl,?_,h.a0 r rfl⟩
    have el:=du h2
    exact h1.elim (fun z=>.inl ⟨xs,z,el⟩) fun z=>.inr ⟨xs,z,el⟩
   ·exact h.elim
 ·exact h.elim
theorem Cd(r:SR C Z loc s sv H){x:RV}{vs:List V}{d:D}(q:jz C Z loc s sv H [x] vs)(e:dv s x=some d):∃ v,vs=[v]∧cu C.cA Z d v:=by
 obtain⟨v,t,rfl,st,q1,q2⟩:=q
 cases q2
 exact⟨v,rfl,r.dv q1 e⟩
theorem oY:uu C oS (fun xs H Q=>∃ i,xs=[.int i]∧i.natAbs.log2<1920∧Q (.str (toString i)) H):=by
 intro Z loc s sv H rs vs Q r q h
 unfold oS at h
 split at h
 ·split at h
  ·rename_i i e
   obtain⟨v,rfl,rfl⟩:=Cd r q e
   split at h
   ·rename_i hl
    exact⟨_,rfl,hl,h.a0 r (by show _=V.str _;unfold dX;simp)⟩
   ·exact h.elim
  ·exact h.elim
 ·exact h.elim
theorem oc:AM C "list" ij:=by
 intro K Z loc s sv H o v r q h
 unfold ij at h
 obtain⟨l,e⟩:=Option.isSome_iff_exists.mp h
 obtain⟨a,xs,rfl,h1,h2⟩:=r.lv q e
 exact .inl ⟨rfl,xs,.inl h1⟩
theorem AD:AM C "str" t9:=by
 intro K Z loc s sv H o v r q h
 unfold t9 at h
 split at h
 ·rename_i t e
  have q3:v=.str ⟨t.toArray⟩:=r.dv q e
  subst q3
  exact rfl
 ·cases h
theorem SR.Ft(r:SR C Z loc s sv H){rv:RV}{v:V}{l l':List Val}(h:da C Z loc s sv H rv v)(e:Vw.ob s rv=some (.lst l)):∃ a xs,v=.ref a∧H a=some (.lst xs)∧bc C.cA Z loc l xs∧∀ ys,bc C.cA Z loc l' ys→SR C Z loc (wr rv (.lst l') s) sv (upd H a (.lst ys)):=by
 obtain⟨a,h1,_,xs,h3,h4⟩:=r.ob h e
 exact⟨a,xs,h1,h3,h4,fun ys q=>r.write h e h1 (by simp) (fun x w z=>by rw[h3]at z;cases z) ⟨ys,upd_same,q⟩⟩
theorem jS:yK C bAppend rAppend:=by
 intro Z loc s sv H o v rs vs Q r q qs h
 unfold bAppend at h
 split at h
 ·rename_i x
  obtain⟨w,t,rfl,st,q1,q2⟩:=qs
  cases q2
  cases e:eu x s with
  | stuck=>rw[e]at h;exact h.elim
  | exc x s1=>exact absurd e xC
  | ok y s1=>
   rw[e]at h
   simp only[Res.bind]at h
   obtain⟨Z1,g1,r1,q1'⟩:=r.eu q1 e
   split at h
   ·rename_i l e2
    split at h
    ·rename_i hl
     have h:=h
     have qo:da C Z1 loc s1 sv H o v:=by
      cases o with
      | val x=>exact c7.mono g1 x q
      | own i=>exact q
      | new o=>unfold ob at e2;simp[jJ]at e2
     obtain⟨a,xs,rfl,h1,h2,h3⟩:=r1.Ft (l':=l++[y]) qo e2
     exact⟨a,xs,w,rfl,rfl,h1,by rw[←du h2];exact hl,h Z1 loc _ .non g1 (h3 _ (nA h2 ⟨w,[],rfl,q1',rfl⟩)) rfl⟩
    ·exact h.elim
   ·exact h.elim
 ·exact h.elim
theorem n7:∀ {l:List Val} {xs:List V},bc C.cA Z loc l xs→bc C.cA Z loc l.dropLast xs.dropLast
 | [],xs,h=>by rw[show xs=_ from h];rfl
 | [x],xs,⟨v,t,e,q,h⟩=>by rw[e,show t=_ from h];rfl
 | x::y::l,xs,⟨v,t,e,q,h⟩=>by
  have h':=h
  obtain⟨w,t',e',_⟩:=h'
  rw[e,e']
  rw[e']at h
  exact⟨v,_,rfl,q,n7 h⟩
theorem DK:yK C uD rPop:=by
 intro Z loc s sv H o v rs vs Q r q qs h
 unfold uD at h
 split at h
 ·cases qs
  split at h
  ·rename_i l e2
   split at h
   ·rename_i y e3
    obtain⟨a,xs,rfl,h1,h2,h3⟩:=r.Ft (l':=l.dropLast) q e2
    obtain⟨w,h4,h5⟩:=iN h2 e3
    exact⟨a,xs,w,rfl,rfl,h1,by rw[←du h2];exact h4,h.val (h3 _ (n7 h2)) h5⟩
   ·exact h.elim
  ·exact h.elim
 ·exact h.elim
end
end Vw
namespace Vw
open PySem L2 PyProof.Rows
def sS(x:String):List Nat:=(Str.ofString x).cps.toList
def il(fs:List (State→Res RV))(s:State):Res RV:=(aC fs s).bind xv
def eX(fs:List (State→Res RV))(s:State):Res RV:=(aC fs s).bind yk
def ly(f:State→Res RV)(s:State):Res RV:=(ev f s).bind xK
def jl:Nat:=1000000
section
variable{C:Cst}{X:Cx}{e:Expr}{es:List Expr}{pos:Pos}{f:State→Res RV}
theorem az{x:String}{j:Nat}:PE X (.Constant (.str (Str.ofString x)) j pos) (aA C (fD (.str (sS x)))):=qT pe_str fun _=>by
 show V.str _=V.str _
 simp[sS]
theorem gj{k:Nat}{fs:List (State→Res RV)}(h:PA X es (eR C (aC fs))):PE X (.Tuple es k pos) (aA C (il fs)):=Ho h
theorem ej{fs:List (State→Res RV)}(h:PA X es (eR C (aC fs))):PE X (.List es pos) (aA C (eX fs)):=HI h
theorem th(h:PE X e (aA C f)):PE X (.UnaryOp .USub e pos) (aA C (ly f)):=Hi h
section
variable{C:Cst}{X:Cx}{e a b c:Expr}{es:List Expr}{p pos:Pos}{f fa fb fc:State→Res RV}
theorem aK(ha:PE X a (aA C fa))(hb:PE X b (aA C fb)):PE X (.BinOp a .Add b pos) (aA C (ai fa fb (binop .add))):=qW .add ha hb
theorem wi(ha:PE X a (aA C fa))(hb:PE X b (aA C fb)):PE X (.BinOp a .Sub b pos) (aA C (ai fa fb (binop .sub))):=qW .sub ha hb
theorem j0(ha:PE X a (aA C fa))(hb:PE X b (aA C fb)):PE X (.BinOp a .Mult b pos) (aA C (ai fa fb (binop .mul))):=qW .mul ha hb
theorem hM(ha:PE X a (aA C fa))(hb:PE X b (aA C fb)):PE X (.BinOp a .FloorDiv b pos) (aA C (ai fa fb (binop .fdiv))):=qW .fdiv ha hb
theorem eW(ha:PE X a (aA C fa))(hb:PE X b (aA C fb)):PE X (.BinOp a .Mod b pos) (aA C (ai fa fb (binop .mod))):=qW .mod ha hb
theorem Hv(ha:PE X a (aA C fa))(hb:PE X b (aA C fb)):PE X (.BinOp a .Pow b pos) (aA C (ai fa fb (binop .pow))):=qW .pow ha hb
theorem u6(hu:X.A.units+64<cLine)(ha:PE X a (aA C fa))(hb:PE X b (aA C fb))(hm:d0 b=true):PE X (.Compare a [.Eq] [b] pos) (aA C (ai fa fb (aQ .eq))):=wF hu .eq ha hb hm
theorem fV(hu:X.A.units+64<cLine)(ha:PE X a (aA C fa))(hb:PE X b (aA C fb))(hm:d0 b=true):PT X (.Compare a [.Eq] [b] pos) (e6 C (cB (ai fa fb (aQ .eq)))):=oy hu .eq ha hb hm
theorem y5(hu:X.A.units+64<cLine)(ha:PE X a (aA C fa))(hb:PE X b (aA C fb))(hm:d0 b=true):PT X (.Compare a [.NotEq] [b] pos) (e6 C (cB (ai fa fb (aQ .ne)))):=oy hu .ne ha hb hm
theorem wK(hu:X.A.units+64<cLine)(ha:PE X a (aA C fa))(hb:PE X b (aA C fb))(hm:d0 b=true):PT X (.Compare a [.Lt] [b] pos) (e6 C (cB (ai fa fb (aQ .lt)))):=oy hu .lt ha hb hm
theorem IG(hu:X.A.units+64<cLine)(ha:PE X a (aA C fa))(hb:PE X b (aA C fb))(hm:d0 b=true):PE X (.Compare a [.LtE] [b] pos) (aA C (ai fa fb (aQ .le))):=wF hu .le ha hb hm
theorem Cr(hu:X.A.units+64<cLine)(ha:PE X a (aA C fa))(hb:PE X b (aA C fb))(hm:d0 b=true):PT X (.Compare a [.Gt] [b] pos) (e6 C (cB (ai fa fb (aQ .gt)))):=oy hu .gt ha hb hm
theorem GS(hu:X.A.units+64<cLine)(ha:PE X a (aA C fa))(hb:PE X b (aA C fb))(hm:d0 b=true):PT X (.Compare a [.GtE] [b] pos) (e6 C (cB (ai fa fb (aQ .ge)))):=oy hu .ge ha hb hm
theorem FG(hu:X.A.units+64<cLine)(ha:PE X a (aA C fa))(hb:PE X b (aA C fb))(hm:d0 b=true):PE X (.Compare a [.In] [b] pos) (aA C (ai fa fb (aQ .isin))):=wF hu .isin ha hb hm
theorem n3(hu:X.A.units+64<cLine)(ha:PE X a (aA C fa))(hb:PE X b (aA C fb))(hm:d0 b=true):PT X (.Compare a [.In] [b] pos) (e6 C (cB (ai fa fb (aQ .isin)))):=oy hu .isin ha hb hm
theorem yx(hu:X.A.units+64<cLine)(ha:PE X a (aA C fa))(hb:PE X b (aA C fb))(hm:d0 b=true):PE X (.Compare a [.NotIn] [b] pos) (aA C (ai fa fb (aQ .notin))):=wF hu .notin ha hb hm
theorem Bu(hu:X.A.units+64<cLine)(ha:PE X a (aA C fa))(hb:PE X b (aA C fb))(hc:PE X c (aA C fc))(hm:d0 c=true):PE X (.Compare a [.Lt,.LtE] [b,c] pos) (aA C (z4 fa fb fc (aQ .lt) (aQ .le))):=Du hu .lt .le ha hb hc hm
theorem x_call{CX:CXT}{k n:Nat}{fA:Addr}{fd:FuncData}{ps:List Str}{x:Str}{g:Fn}{fs:State→Res (List RV)}{cA:String→Addr}(hC:C.cA=cA)(F:FnOk X.prog X.w X.K X.mg X.base CX k fA fd ps (eF cA n g))(hr:Room k X.A)(hg:Gl X x)(hm:X.mg x=some (.ref fA))(hk:PySem.W.keepIn X.K (.ref fA)=true)
  (hb:Binds X.K fd ps []) (hx:Passes CX X E0) (hn:ps.length=n) (ha:PA X (e::es) (eR C fs)) (hdb:(x==("__debug__":Str))=false) (hs:(e::es).all notStar=true):
  PE X (.Call (.Name x p) (e::es) [] pos) (aA C (dz n fs g)):=by
 subst hn hC
 exact Ej F hr hg hm hk hb hx ha hdb hs
section
variable{elt tg iter:Expr}{ifs:List Expr}{scope:Scope}{cA:String→Addr}{fe:State→Res RV}{ft:State→Res Bool}
theorem Jc{t:Tg}{src:State→Res (List Val)}(hC:C.cA=cA)(own:List (Str×Nat)){vs:List Nat}(hvs:own.map (·.2)=vs)(hc:X.calm=true)(hN:X.N.Nodup)(hi:PI X tg iter (kB C src))(ok:blkC X.N X.env.scope scope own=true)
  (hb:∀ (s:Shared) (H:Hp) (D:Addr) (cl:List (Str×Addr)) (fp:List Addr) (C':Cst),C'.cA=cA→PG (X.blk s H scope (compEnvC scope cl D X.env) fp) tg (pF C' t)∧PTs (X.blk s H scope (compEnvC scope cl D X.env) fp) ifs (e6 C' ft)∧PE (X.blk s H scope (compEnvC scope cl D X.env) fp) elt (aA C' fe))
  (hs:d0 iter=true) (hv:∀ i∈vW t,i∈vs):PE X (.ListComp elt [⟨tg,iter,ifs,0⟩] scope pos) (aA C (lN vs t src ft fe)):=by
 subst hvs
 exact Jr hc hN hi (blkOk_by ok) ⟨fun s H D cl fp C' h=>hb s H D cl fp C' (h.trans hC)⟩ hs hv
theorem qR{t:Tg}{src:State→Res (List Val)}{i:Nat}{y:Str}{py spos:Pos}(hC:C.cA=cA)(own:List (Str×Nat)){vs:List Nat}(hvs:own.map (·.2)=vs)(hc:X.calm=true)(hN:X.N.Nodup)(hy:X.N[i]? =some y)(hyl:X.env.scope.names.lookup y=some .local)(hk:X.env.scope.kind=.function)
  (hl:(py.line==pos.line)=true) (ha:(scope.names.any fun(n,k)=>n==y&&(k== .local||k== .cell))=false) (hi:PI X tg iter (kB C src)) (ok:blkC X.N X.env.scope scope own=true)
  (hb:∀ (s:Shared) (H:Hp) (D:Addr) (cl:List (Str×Addr)) (fp:List Addr) (C':Cst),C'.cA=cA→PG (X.blk s H scope (compEnvC scope cl D X.env) fp) tg (pF C' t)∧PTs (X.blk s H scope (compEnvC scope cl D X.env) fp) ifs (e6 C' ft)∧PE (X.blk s H scope (compEnvC scope cl D X.env) fp) elt (aA C' fe))
  (hs:d0 iter=true) (hv:∀ i∈vW t,i∈vs):PS X (.Assign [.Name y py] (.ListComp elt [⟨tg,iter,ifs,0⟩] scope pos) spos) (fK C (cq i (lN vs t src ft fe))):=by
 subst hvs
 exact DL hc hN hy hyl hk hl ha hi (blkOk_by ok) ⟨fun s H D cl fp C' h=>hb s H D cl fp C' (h.trans hC)⟩ hs hv
end
theorem lu{P:Program}{w:World}{K:PySem.W.Frag}{mg:Str→Option Value}{base:Heap}{x qual:Str}{params:Arguments}{body:List Stmt}{scope:Scope}{f:Addr}{fd:FuncData}{N ps:List Str}{cA:String→Addr}{b:State→Res Fl}{k n m:Nat}
  (F:FunD K x qual params body scope [] [] f fd) (S:FnScope N ps scope) (hn:ps.length=n) (hm:N.length=m)
  (hb:∀ (cdv:Value) (A:Around) (outer:List Env) (s:Shared) (H:Hp) (E:XK) (C:Cst),Room k (A.deeper (envOfC qual scope s.heap.objs.size f cdv))→C.cA=cA→PSs (cxOf CX0 P w K mg base N qual scope f cdv A outer s H E).nox body (fK C b)):
  FnOk P w K mg base CX0 (k+1) f fd ps (eF cA n (fW m b)):=by
 subst hn hm
 exact fn_ok F S hb
end
end
theorem gL:bootBuiltins "len"=some (.builtin "len"):=by decide+kernel
theorem D1:bootBuiltins "list"=some (.type "list"):=by decide+kernel
theorem qP:bootBuiltins "str"=some (.type "str"):=by decide+kernel
theorem p9:bootBuiltins "int"=some (.type "int"):=by decide+kernel
theorem B9:bootBuiltins "tuple"=some (.type "tuple"):=by decide+kernel
theorem wb:bootBuiltins "isinstance"=some (.builtin "isinstance"):=by decide+kernel
end Vw
namespace Vw
open PySem L2 PyProof.Rows
def rf(K:PySem.W.Frag):Bool:=K.all fun p=>match p.2.cls with
 | .type c=> !(decide (c="list"))
 | _=>true
theorem Bt{K:PySem.W.Frag}(h:rf K=true){a:Addr}{o:Obj}(e:K.lookup a=some o):o.cls≠ .type "list":=fun z=>by
 have hm:∃ p∈K,p.2=o:=by
  clear h
  induction K with
  | nil=>cases e
  | cons p r ih=>
   obtain⟨b,x⟩:=p
   rw[List.lookup_cons]at e
   split at e
   ·cases e
    exact⟨_,List.mem_cons_self,rfl⟩
   ·obtain⟨p,hp,q⟩:=ih e
    exact⟨p,List.mem_cons_of_mem _ hp,q⟩
 obtain⟨p,hp,rfl⟩:=hm
 have:=List.all_eq_true.mp h p hp
 rw[z]at this
 simp at this
def BM(ns:List Int):Val:=.d (.lst (ns.map .int))
theorem Av{cA:String→Addr}{K:PySem.W.Frag}{g:Fn}{H:Hp}{a:Addr}{ns:List Int}(nl:rf K=true)(hS:SqL K H a (ns.map V.int))(hg:∃ s,g [BM ns] []=.ok (.val (.d (.bl true))) s):
  eF cA 1 g [.ref a] H (fun v _=>v=.bl true) E0:=by
 obtain⟨s',hg⟩:=hg
 have hr:∃ u,H a=some u∧(u=.lst (ns.map V.int)∨∃ o,u=.frz o (.lst (ns.map V.int))):=by
  rcases hS with h | ⟨o,its,n,h1,h2,_⟩
  ·rcases h with h | ⟨o,h⟩
   ·exact⟨_,h,.inl rfl⟩
   ·exact⟨_,h,.inr ⟨o,rfl⟩⟩
  ·exact absurd h2 (Bt nl h1)
 obtain⟨u,hu,hu2⟩:=hr
 have rep:∀ (ns:List Int) (Z:Hp),dC cA Z (ns.map .int) (ns.map V.int):=fun ns Z=>by
  induction ns with
  | nil=>rfl
  | cons n r ih=>exact⟨_,_,rfl,rfl,ih⟩
 refine⟨fun _=>none,fun _=>none,upd (fun _=>none) a u,[],[BM ns],[],⟨fun b o h=>(by cases h),fun b o h=>?_,fun b o h=>rfl,fun b o w h=>(by cases h),rfl,List.nodup_nil,fun b h=>by simp at h,fun n b o h=>by simp at h,fun i x h=>by simp at h,fun i o h=>by simp at h,fun i j o o' b h=>by simp at h,rfl⟩,⟨.ref a,[],rfl,⟨a,ns.map V.int,rfl,?_,rep ns _⟩,rfl⟩,rfl,?_⟩
 ·by_cases hb:b=a
  ·subst hb
   rw[upd_same]at h
   cases h
   exact .inl hu
  ·rw[upd_ne hb]at h
   cases h
 ·rcases hu2 with e | ⟨o,e⟩
  ·exact .inl (by rw[upd_same,e])
  ·exact .inr ⟨o,by rw[upd_same,e]⟩
 ·rw[hg]
  exact fun Z' l' H' v _ _ q=>q
end Vw
namespace Vw
open PySem L2 PyProof.Rows
def Ci(sg:Slots)(r:Res RV):Res RV:=
 match r with
 | .ok r s2=>.ok r ⟨sg,s2.st⟩
 | _=>.stuck
def pk(r:Res Fl)(k:State→Res Fl):Res Fl:=
 match r with
 | .ok .nx s=>k s
 | t=>t
def sP(r:Res Fl)(k:State→Res Fl):Res Fl:=
 match r with
 | .ok .nx s=>k s
 | .ok .cnt s=>k s
 | .ok .brk s=>.ok .nx s
 | r=>r
@[simp] theorem xT(sg:Slots)(r:RV)(s:State):Ci sg (.ok r s)=.ok r ⟨sg,s.st⟩:=id rfl
@[simp] theorem uj(s:State)(k:State→Res Fl):pk (.ok .nx s) k=k s:=id rfl
@[simp] theorem IF(r:RV)(s:State)(k:State→Res Fl):pk (.ok (.ret r) s) k=.ok (.ret r) s:=id rfl
@[simp] theorem IW(s:State)(k:State→Res Fl):pk (.ok .brk s) k=.ok .brk s:=id rfl
@[simp] theorem Io(s:State)(k:State→Res Fl):pk (.ok .cnt s) k=.ok .cnt s:=id rfl
@[simp] theorem xN(x:Exn)(s:State)(k:State→Res Fl):pk (.exc x s) k=.exc x s:=id rfl
@[simp] theorem JQ(k:State→Res Fl):pk .stuck k=.stuck:=id rfl
@[simp] theorem DY(s:State)(k:State→Res Fl):sP (.ok .nx s) k=k s:=id rfl
@[simp] theorem Bk(s:State)(k:State→Res Fl):sP (.ok .cnt s) k=k s:=id rfl
@[simp] theorem Jj(s:State)(k:State→Res Fl):sP (.ok .brk s) k=.ok .nx s:=id rfl
@[simp] theorem Je(r:RV)(s:State)(k:State→Res Fl):sP (.ok (.ret r) s) k=.ok (.ret r) s:=id rfl
@[simp] theorem IH(x:Exn)(s:State)(k:State→Res Fl):sP (.exc x s) k=.exc x s:=id rfl
@[simp] theorem JG(k:State→Res Fl):sP .stuck k=.stuck:=id rfl
def A7(i j:Int):Bool:=decide (i.natAbs.log2+j.natAbs.log2<1000000)
def BE(j:Int):Bool:=decide (0<j∧j.natAbs.log2<9000)
section
variable(sg:Slots)(st:List Ob)(s s':State)(i n:Nat)(d d':D)(x y:Val)(o:Ob)(f g h fa fb fc:State→Res RV)(fs:List (State→Res RV))(ft:State→Res Bool)(sa sb:State→Res Fl)(ss:List (State→Res Fl))(r r':RV)(rs:List RV)
@[simp] theorem J1:jJ s (.val x)=.val x:=id rfl
@[simp] theorem J5:jJ s (.new o)=.new o:=id rfl
@[simp] theorem A2:jJ ⟨sg,st⟩ (.own i)=(match sg[i]? with | some (some (.v x))=>.val x | _=>.own i):=id rfl
@[simp] theorem vq:dv s (.val (.d d))=some d:=id rfl
@[simp] theorem Hz:dv s (.val (.r n))=none:=id rfl
@[simp] theorem y6:dv ⟨sg,st⟩ (.own i)=(match sg[i]? with | some (some (.v (.d x)))=>some x | _=>none):=by
 unfold dv
 rw[A2]
 cases e:sg[i]? with
 | none=>rfl
 | some a=>cases a with
  | none=>rfl
  | some b=>cases b<;> first | rfl | (rename_i v;cases v<;> rfl)
@[simp] theorem zv:ob ⟨sg,st⟩ (.own i)=(match sg[i]? with | some (some (.own o))=>some o | some (some (.v (.r n)))=>(match st[n]? with | some .gone=>none | some o=>some o | none=>none) | _=>none):=by
 unfold ob
 rw[A2]
 cases e:sg[i]? with
 | none=>simp[e]
 | some a=>cases a with
  | none=>simp[e]
  | some b=>cases b with
   | own o=>simp[e]
   | v v=>cases v<;> simp[e]<;> rfl
@[simp] theorem K6:ob s (.val (.d d))=none:=id rfl
@[simp] theorem zS:ob s (.val (.r n))=(match s.st[n]? with | some .gone=>none | some o=>some o | none=>none):=id rfl
@[simp] theorem K5:lv s (.val (.d d))=(match d with | .lst l=>some (l.map .d) | _=>none):=by cases d<;> rfl
@[simp] theorem Hq:tv s (.val (.d d))=(match d with | .tup l=>some (l.map .d) | _=>none):=by cases d<;> rfl
theorem xn:lv s r=(match dv s r with | some (.lst l)=>some (l.map .d) | some _=>none | none=>match ob s r with | some (.lst l)=>some l | _=>none):=rfl
@[simp] theorem K7:lv ⟨sg,st⟩ (.own i)=(match dv ⟨sg,st⟩ (.own i)with | some (.lst l)=>some (l.map .d) | some _=>none | none=>match ob ⟨sg,st⟩ (.own i)with | some (.lst l)=>some l | _=>none):=id rfl
@[simp] theorem Lc:lv s (.val (.r n))=(match ob s (.val (.r n))with | some (.lst l)=>some l | _=>none):=id rfl
@[simp] theorem jQ:ab i ⟨sg,st⟩=(match sg[i]? with | some (some (.v x))=>.ok (.val x) ⟨sg,st⟩ | some (some (.own _))=>.ok (.own i) ⟨sg,st⟩ | _=>.stuck):=id rfl
@[simp] theorem Lx:fD d s=.ok (.val (.d d)) s:=id rfl
@[simp] theorem Lq:a0 d s=.ok (.val (.d d)) s:=id rfl
@[simp] theorem o4:ev f s=(f s).bind settle:=id rfl
@[simp] theorem FC:settle (.val x) s=.ok (.val x) s:=id rfl
@[simp] theorem Iw:settle (.own i) s=.ok (.own i) s:=id rfl
@[simp] theorem IY:settle (.new o) s=(match o.toD with | some d=>.ok (.val (.d d)) s | none=>.stuck):=id rfl
@[simp] theorem Lm(k:RV→RV→State→Res RV):ai fa fb k s=(ev fa s).bind fun x s=>(ev fb s).bind fun y s=>k x y s:=id rfl
@[simp] theorem C3:cB f s=(ev f s).bind vP:=id rfl
@[simp] theorem Ha:vP r s=(match dv s r with | some (.bl b)=>.ok b s | _=>.stuck):=id rfl
@[simp] theorem Ay:aC [] s=.ok [] s:=id rfl
@[simp] theorem CY:aC (f::fs) s=(ev f s).bind fun x s=>(aC fs s).bind fun xs s=>.ok (x::xs) s:=id rfl
@[simp] theorem xc:eu (.val x) s=.ok x s:=id rfl
@[simp] theorem Ly:eu (.new o) s=(match o.toD with | some d=>.ok (.d d) s | none=>.stuck):=id rfl
@[simp] theorem Ff:eu (.own i) ⟨sg,st⟩=(match sg[i]? with | some (some (.own o))=>(match o.toD with | some d=>.ok (.d d) ⟨sg.set i (some (.v (.d d))),st⟩ | none=>.stuck) | some (some (.v x))=>.ok x ⟨sg,st⟩ | _=>.stuck):=id rfl
@[simp] theorem K4:bI [] s=.ok [] s:=id rfl
@[simp] theorem Bp:bI (r::rs) s=(eu r s).bind fun x s=>(bI rs s).bind fun xs s=>.ok (x::xs) s:=id rfl
@[simp] theorem JF:toDs []=some []:=id rfl
@[simp] theorem KC(v:List Val):toDs (.d d::v)=(toDs v).map (d:: ·):=id rfl
@[simp] theorem K9(l:List Val):Ob.toD (.lst l)=(toDs l).map .lst:=id rfl
@[simp] theorem Ck:il fs s=(aC fs s).bind xv:=id rfl
@[simp] theorem Cw:eX fs s=(aC fs s).bind yk:=id rfl
@[simp] theorem La:ly f s=(ev f s).bind xK:=id rfl
@[simp] theorem Ki:xK r s=(match dv s r with | some (.int i)=>.ok (.val (.d (.int (-i)))) s | _=>.stuck):=id rfl
@[simp] theorem ET:xv rs s=(bI rs s).bind fun l s=>if l.length≤sizeLine then .ok (.val (nK l)) s else .stuck:=id rfl
@[simp] theorem Ef:yk rs s=(bI rs s).bind fun l s=>if l.length≤sizeLine then .ok (.new (.lst l)) s else .stuck:=id rfl
@[simp] theorem Dk(l:List Val):nK l=(match toDs l with | some ds=>.d (.tup ds) | none=>.tp l):=id rfl
@[simp] theorem Lh(k:State→Res (List RV))(b:List RV→State→Res RV):eZ k b s=(k s).bind b:=id rfl
@[simp] theorem KZ(k:State→Res (List RV))(gg:Fn):dz n k gg s=(k s).bind fun rs s=>(bI rs s).bind fun args s=>if args.length=n then eg gg args s else .stuck:=id rfl
@[simp] theorem yL(gg:Fn)(args:List Val):eg gg args ⟨sg,st⟩=Ci sg (gg args st):=id rfl
@[simp] theorem zx(T:String)(k:State→Res (List RV))(b:RV→List RV→State→Res RV)(ty:State→RV→Bool):ku T f k b ty s=(ev f s).bind fun o s=>if ty s o then(k s).bind fun rs s=>b o rs s else .stuck:=id rfl
@[simp] theorem J4:av [] s=.ok .nx s:=id rfl
@[simp] theorem nq:av (sa::ss) s=pk (sa s) (av ss):=id rfl
@[simp] theorem zR:dW ft sa sb s=(ft s).bind fun k s=>if k=true then sa s else sb s:=id rfl
@[simp] theorem Lb:Cp ft fa fb s=(ft s).bind fun k s=>if k=true then fa s else fb s:=id rfl
@[simp] theorem nM:cC f s=(f s).bind fun r s=>.ok (.ret r) s:=id rfl
@[simp] theorem An:dH f s=(f s).bind fun _ s=>.ok .nx s:=id rfl
@[simp] theorem wH:cq i f s=(f s).bind fun r s=>su (nO i r s):=id rfl
@[simp] theorem KP:su (some s)=.ok .nx s:=id rfl
@[simp] theorem JY:nO i (.val x) ⟨sg,st⟩=some ⟨sg.set i (some (.v x)),st⟩:=id rfl
@[simp] theorem J3:nO i (.new o) ⟨sg,st⟩=some ⟨sg.set i (some (.own o)),st⟩:=id rfl
@[simp] theorem KS(j:Nat):nO i (.own j) s=(match jx j s with | .ok x s=>some { s with sg:=s.sg.set i (some (.v x)) } | _=>none):=id rfl
@[simp] theorem Kf:jx i ⟨sg,st⟩=eu (.own i) ⟨sg,st⟩:=id rfl
@[simp] theorem Lr(t:Tg)(src:State→Res (List Val)):nW t src sb s=(src s).bind fun l s=>j6 t sb l s:=id rfl
@[simp] theorem J9(k:State→Res (List RV))(b:List RV→State→Res (List Val)):kL k b s=(k s).bind b:=id rfl
@[simp] theorem xb(k:D→State→Res (List Val)):sD f k s=(ev f s).bind fun r s=>(lF r s).bind k:=id rfl
@[simp] theorem AA:lF r s=(match eu r s with | .ok (.d x) s=>.ok x s | _=>.stuck):=id rfl
@[simp] theorem Ke:kc [ft] s=ft s:=id rfl
@[simp] theorem KA(f2:State→Res Bool)(fr:List (State→Res Bool)):kc (ft::f2::fr) s=(ft s).bind fun b s=>if b=true then kc (f2::fr) s else .ok false s:=id rfl
@[simp] theorem Ll:jO [ft] s=ft s:=id rfl
@[simp] theorem Lk(f2:State→Res Bool)(fr:List (State→Res Bool)):jO (ft::f2::fr) s=(ft s).bind fun b s=>if b=true then .ok true s else jO (f2::fr) s:=id rfl
@[simp] theorem CI:jV ft s=(ft s).bind fun b s=>.ok (!b) s:=id rfl
@[simp] theorem JD:gX [f] s=ev f s:=id rfl
@[simp] theorem JN:gX (f::g::fs) s=(cB f s).bind fun b s=>if b=true then gX (g::fs) s else a0 (.bl false) s:=id rfl
@[simp] theorem Kx:zB [f] s=ev f s:=id rfl
@[simp] theorem KJ:zB (f::g::fs) s=(cB f s).bind fun b s=>if b=true then a0 (.bl true) s else zB (g::fs) s:=id rfl
@[simp] theorem s8(op:Cop):aQ op r r' s=(match ip op s r r' with | some b=>a0 (.bl b) s | none=>.stuck):=id rfl
@[simp] theorem HB:gk [r] s=(match dv s r with | some (.str t)=>if t.length≤sizeLine then a0 (.int t.length) s else .stuck | _=>match sq s r with | some l=>a0 (.int l.length) s | none=>.stuck):=id rfl
@[simp] theorem IC:sq s r=(match lv s r with | some l=>some l | none=>tv s r):=id rfl
@[simp] theorem Kn:Gm [r] s=(match sq s r with | some l=>.ok (.new (.lst l)) s | none=>.stuck):=id rfl
@[simp] theorem Lj:IV [r] s=(match dv s r with | some (.int i)=>a0 (.int (if i<0 then-i else i)) s | _=>.stuck):=id rfl
@[simp] theorem KN:Gy [r,r'] s=(match dv s r,dv s r' with | some (.int i),some (.int j)=>a0 (.int (if j > i then j else i)) s | _,_=>.stuck):=id rfl
@[simp] theorem IM:bAppend r [r'] s=(eu r' s).bind fun y s=>match ob s r with | some (.lst l)=>if l.length<sizeLine then .ok (.val (.d .non)) (wr r (.lst (l++[y])) s)else .stuck | _=>.stuck:=id rfl
@[simp] theorem K8:uD r [] s=(match ob s r with | some (.lst l)=>(match l[l.length- 1]? with | some y=>.ok (.val y) (wr r (.lst l.dropLast) s) | none=>.stuck) | _=>.stuck):=id rfl
@[simp] theorem Lg:wr (.own i) o ⟨sg,st⟩=(match jJ ⟨sg,st⟩ (.own i)with | .own i=>⟨sg.set i (some (.own o)),st⟩ | .val (.r n)=>⟨sg,st.set n o⟩ | _=>⟨sg,st⟩):=id rfl
@[simp] theorem HE:wr (.val (.r n)) o ⟨sg,st⟩=⟨sg,st.set n o⟩:=id rfl
@[simp] theorem Gv:ij s r=(lv s r).isSome:=id rfl
@[simp] theorem C4:binop .add r r' s=o7 r r' s:=id rfl
@[simp] theorem Ce:binop .mul r r' s=ux r r' s:=id rfl
@[simp] theorem Jy(i j:Int):o7 (.val (.d (.int i))) (.val (.d (.int j))) s=a0 (.int (i+j)) s:=id rfl
@[simp] theorem JE(i j:Int):binop .sub (.val (.d (.int i))) (.val (.d (.int j))) s=a0 (.int (i-j)) s:=id rfl
@[simp] theorem DB(i j:Int):ux (.val (.d (.int i))) (.val (.d (.int j))) s=if A7 i j=true then a0 (.int (i*j)) s else .stuck:=by
 show(if i.natAbs.log2+j.natAbs.log2<1000000 then a0 (.int (i*j)) s else .stuck)=_
 by_cases h:i.natAbs.log2+j.natAbs.log2<1000000
 ·rw[if_pos h];exact(if_pos (decide_eq_true h)).symm
 ·rw[if_neg h];exact(if_neg (fun z=>h (of_decide_eq_true z))).symm
@[simp] theorem A8(i j:Int):binop .fdiv (.val (.d (.int i))) (.val (.d (.int j))) s=if BE j=true then a0 (.int (i/j)) s else .stuck:=by
 show(if 0<j∧j.natAbs.log2<9000 then a0 (.int (i/j)) s else .stuck)=_
 by_cases h:0<j∧j.natAbs.log2<9000
 ·rw[if_pos h];exact(if_pos (decide_eq_true h)).symm
 ·rw[if_neg h];exact(if_neg (fun z=>h (of_decide_eq_true z))).symm
@[simp] theorem yS(i j:Int):binop .mod (.val (.d (.int i))) (.val (.d (.int j))) s=if 0<j then a0 (.int (i%j)) s else .stuck:=id rfl
@[simp] theorem DA(i j:Int):binop .pow (.val (.d (.int i))) (.val (.d (.int j))) s=if 0≤j∧j≤1000000∧i.natAbs<2^64 then a0 (.int (i^j.toNat)) s else .stuck:=id rfl
@[simp] theorem Kv(i j:Int):ip .lt s (.val (.d (.int i))) (.val (.d (.int j)))=some (decide (i<j)):=id rfl
@[simp] theorem Ko(i j:Int):ip .le s (.val (.d (.int i))) (.val (.d (.int j)))=some (decide (i≤j)):=id rfl
@[simp] theorem Kw(i j:Int):ip .gt s (.val (.d (.int i))) (.val (.d (.int j)))=some (decide (i > j)):=id rfl
@[simp] theorem Kg(i j:Int):ip .ge s (.val (.d (.int i))) (.val (.d (.int j)))=some (decide (i≥j)):=id rfl
@[simp] theorem Fo:ip .eq s r r'=tj s r r':=id rfl
@[simp] theorem IK:ip .ne s r r'=(tj s r r').map not:=id rfl
@[simp] theorem KU(i j:Int):tj s (.val (.d (.int i))) (.val (.d (.int j)))=some (decide (i=j)):=by
 show(if dM (.int i) (.int j)then some (iy (.int i) (.int j))else none)=_
 rw[if_pos (by rfl)]
 show some (i==j)=_
 by_cases h:i=j
 ·simp[h]
 ·have:(i==j)=false:=by simpa using h
  rw[this];simp[h]
@[simp] theorem JX(j:Int):lS [.val (.d (.int j))] s=nG 0 j s:=id rfl
@[simp] theorem KH(i j:Int):s9 [.val (.d (.int i)),.val (.d (.int j))] s=nG i j s:=id rfl
@[simp] theorem Ks:mL s (.val x)=some (.val x):=id rfl
@[simp] theorem JW:mL s (.new o)=some (.new o):=id rfl
@[simp] theorem Fc:mL ⟨sg,st⟩ (.own i)=(match sg[i]? with | some (some (.own o))=>some (.new o) | some (some (.v x))=>some (.val x) | _=>none):=id rfl
@[simp] theorem Kr:iF (.nm i) x ⟨sg,st⟩=some ⟨sg.set i (some (.v x)),st⟩:=id rfl
end
theorem small(n:Nat)(h:n≤16777216):n≤sizeLine:=by rw[sizeLine_eq];exact h
section
variable(sg:Slots)(st:List Ob)(s:State)(i:Int)(j:Nat)(l:List D)(t:List Nat)(m:List Val)
theorem uy{α β:Type}(f:α→β)(l:List α)(i:Int):atI (l.map f) i=(atI l i).map f:=by
 unfold atI
 rw[List.length_map]
 cases ixN l.length i<;> simp
@[simp] theorem GK:bK (.val (.d (.lst l))) (.val (.d (.int i))) s=(match atI l i with | some d=>.ok (.val (.d d)) s | none=>.stuck):=by
 show(match atI (l.map Val.d) i with | some v=>Res.ok (RV.val v) s | none=>Res.stuck)=_
 rw[uy]
 cases atI l i<;> rfl
@[simp] theorem Cy:bK (.val (.d (.tup l))) (.val (.d (.int i))) s=(match atI l i with | some d=>.ok (.val (.d d)) s | none=>.stuck):=by
 show(match atI (l.map Val.d) i with | some v=>Res.ok (RV.val v) s | none=>Res.stuck)=_
 rw[uy]
 cases atI l i<;> rfl
@[simp] theorem Gp:bK (.val (.d (.str t))) (.val (.d (.int i))) s=(if t.length≤sizeLine then match atI t i with | some c=>.ok (.val (.d (.str [c]))) s | none=>.stuck else .stuck):=id rfl
def Kz(x y:RV)(s:State):Res RV:=bK x y s
@[simp] theorem K3:bK (.own j) (.val (.d (.int i))) ⟨sg,st⟩=(match sg[j]? with | some (some (.own (.lst l)))=>(match atI l i with | some v=>.ok (.val v) ⟨sg,st⟩ | none=>.stuck) | _=>Kz (.own j) (.val (.d (.int i))) ⟨sg,st⟩):=by
 split
 ·rename_i l e
  unfold bK jA og sj
  simp[e,lv]
  all_goals (cases atI l i<;> rfl)
 ·rfl
theorem qX{α:Type}{l:List α}{i:Int}(h0:0≤i)(h1:i<l.length):atI l i=l[i.toNat]? :=by
 unfold atI ixN
 rw[if_pos h0,if_pos h1]
 rfl
@[simp] theorem HQ{α:Type}(x:α)(l:List α):atI (x::l) 0=some x:=by
 rw[qX (by omega) (by rw[List.length_cons];omega)]
 rfl
theorem atI_last{α:Type}(l:List α)(x:α):atI (l++[x]) (-1)=some x:=by
 unfold atI ixN
 rw[if_neg (by omega),if_pos (by simp;omega)]
 show(l++[x])[((-1:Int)+((l++[x]).length:Nat)).toNat]? =_
 have e:((-1:Int)+((l++[x]).length:Nat)).toNat=l.length:=by rw[List.length_append,List.length_singleton];omega
 rw[e]
 simp
end
theorem Hb{n:Nat}(h:n<18446744073709551616):n.log2<64:=by
 by_cases h0:n=0
 ·subst h0;decide
 ·exact(Nat.log2_lt h0).mpr h
theorem gY{j:Int}(h0:0<j)(h':j<18446744073709551616):BE j=true:=decide_eq_true ⟨h0,by have:=Hb (n:=j.natAbs) (by omega);omega⟩
@[simp] theorem Kq(t:Tg)(b:State→Res Fl)(s:State):j6 t b [] s=.ok .nx s:=id rfl
@[simp] theorem Ey(t:Tg)(b:State→Res Fl)(x:Val)(l:List Val)(s:State):j6 t b (x::l) s=(match iF t x s with | none=>.stuck | some s=>sP (b s) (j6 t b l)):=id rfl
abbrev vI(i:Int):Val:=.d (.int i)
abbrev sd(d:D):Option Sl:=some (.v (.d d))
section
variable(sg:Slots)(st:List Ob)(s:State)
@[simp] theorem K1:eH [] s=s:=id rfl
@[simp] theorem Ls(v:Nat)(vs:List Nat):eH (v::vs) ⟨sg,st⟩=⟨(ig sg vs).set v none,st⟩:=id rfl
@[simp] theorem Ka:ig sg []=sg:=id rfl
@[simp] theorem Ld(v:Nat)(vs:List Nat):ig sg (v::vs)=(ig sg vs).set v none:=id rfl
@[simp] theorem JK:lW s=.ok true s:=id rfl
@[simp] theorem Lw(acc:List Val):zY acc s=.ok (.new (.lst acc)) s:=id rfl
@[simp] theorem Lz(vs:List Nat)(t:Tg)(src:State→Res (List Val))(ft:State→Res Bool)(fe:State→Res RV):lN vs t src ft fe s=(src s).bind fun l s=>(pL vs t ft fe l [] (eH vs s)).bind zY:=id rfl
end
@[simp] theorem toDs_mapF{α:Type}(l:List α)(F:α→D):toDs (l.map fun x=>.d (F x))=some (l.map F):=by
 have:(l.map fun x=>Val.d (F x))=(l.map F).map .d:=by simp
 rw[this,toDs_map]
@[simp] theorem toDs_comp{α:Type}(l:List α)(F:α→D):toDs (l.map (Val.d∘F))=some (l.map F):=toDs_mapF l F
@[simp] theorem toDs_vI(l:List Int):toDs (l.map vI)=some (l.map .int):=toDs_mapF l _
section
variable(sg:Slots)(st:List Ob)(s:State)(t:Tg)(ts:List Tg)(x:Val)(l:List Val)(r:RV)(f:State→Res RV)
@[simp] theorem Ea:iF (.tp ts) x s=(match tv s (.val x)with | some l=>if l.length=ts.length then lX ts l s else none | none=>none):=id rfl
@[simp] theorem JS:lX [] [] s=some s:=id rfl
@[simp] theorem DF:lX (t::ts) (x::l) s=(match iF t x s with | some s=>lX ts l s | none=>none):=id rfl
@[simp] theorem J2:Hs [r] s=(match (lv s r).bind intsOf with | some (n::ns)=>a0 (.int (FX (n::ns))) s | _=>.stuck):=id rfl
@[simp] theorem JJ(d:D):itemsOf d s=(match d with | .lst l=>.ok (l.map .d) s | .tup l=>.ok (l.map .d) s | .str t=>.ok (t.map fun c=>.d (.str [c])) s | .dic l=>.ok (l.map fun p=>.d (CQ p.1)) s | _=>.stuck):=by cases d<;> rfl
@[simp] theorem ER(d:D):mx d s=(match d with | .lst l=>.ok (l.mapIdx fun i x=>.d (.tup [.int i,x])) s | .str t=>.ok (t.mapIdx fun i c=>.d (.tup [.int i,.str [c]])) s | _=>.stuck):=by cases d<;> rfl
@[simp] theorem LC(lo hi:Par):jL f lo hi s=(ev f s).bind fun x s=>(jP lo s).bind fun l s=>(jP hi s).bind fun h s=>tX x l h s:=id rfl
@[simp] theorem Lu:jP .no s=.ok none s:=id rfl
@[simp] theorem Cg:jP (.ex f) s=(ev f s).bind yP:=id rfl
@[simp] theorem Lo(i:Int):yP (.val (.d (.int i))) s=.ok (some i) s:=id rfl
@[simp] theorem HA(lo hi:Option Int):tX r lo hi s=(match dv s r with | some (.str t)=>if t.length≤sizeLine then a0 (.str (ey t lo hi)) s else .stuck | _=>match lv s r with | some l=>.ok (.new (.lst (ey l lo hi))) s | none=>match tv s r with | some l=>if(ey l lo hi).length=l.length then .stuck else .ok (.val (nK (ey l lo hi))) s | none=>.stuck):=id rfl
end
theorem sV{α:Type}(l:List α)(a b:Nat):ey l (some (a:Int)) (some (b:Int))=(l.drop a).take (b-a):=by
 unfold ey
 rw[HT.sIx_nat,HT.sIx_nat]
 by_cases h:a≤l.length
 ·rw[Nat.min_eq_left h]
  by_cases h2:b≤l.length
  ·rw[Nat.min_eq_left h2]
  ·have e1:(l.drop a).take (l.length-a)=l.drop a:=List.take_of_length_le (by simp)
   have e2:(l.drop a).take (b-a)=l.drop a:=List.take_of_length_le (by simp;omega)
   rw[Nat.min_eq_right (show l.length≤b by omega),e1,e2]
 ·have e1:l.drop a=[]:=List.drop_eq_nil_of_le (by omega)
  have e2:l.drop l.length=[]:=List.drop_eq_nil_of_le (Nat.le_refl _)
  rw[Nat.min_eq_right (show l.length≤a by omega),e1,e2]
  simp
theorem BX{α β:Type}(f:α→β)(l:List α)(lo hi:Option Int):ey (l.map f) lo hi=(ey l lo hi).map f:=by
 unfold ey
 rw[List.length_map,List.map_take,List.map_drop]
@[simp] theorem HW{α:Type}(x y:α)(l:List α):atI (x::y::l) 1=some y:=by
 rw[qX (by omega) (by rw[List.length_cons,List.length_cons];omega)]
 rfl
@[simp] theorem H7{α:Type}(x y z:α)(l:List α):atI (x::y::z::l) 2=some z:=by
 rw[qX (by omega) (by rw[List.length_cons,List.length_cons,List.length_cons];omega)]
 rfl
@[simp] theorem Ic{α:Type}(x y z w:α)(l:List α):atI (x::y::z::w::l) 3=some w:=by
 rw[qX (by omega) (by rw[List.length_cons,List.length_cons,List.length_cons,List.length_cons];omega)]
 rfl
def AZ(r:Res Fl):Res RV:=
 match r with
 | .ok .nx s=>.ok (.val (.d .non)) ⟨[],s.st⟩
 | .ok (.ret r) s=>match mL s r with
  | some r'=>.ok r' ⟨[],s.st⟩
  | none=>.stuck
 | .ok _ _=>.stuck
 | .exc x s=>.exc x ⟨[],s.st⟩
 | .stuck=>.stuck
theorem tx(n:Nat)(b:State→Res Fl)(args:List Val)(st:List Ob):fW n b args st=AZ (b ⟨args.map (fun x=>some (.v x))++List.replicate (n-args.length) none,st⟩):=by
 unfold fW
 generalize b _=r
 cases r with
 | ok k s=>cases k<;> rfl
 | exc x s=>rfl
 | stuck=>rfl
@[simp] theorem FU(s:State):AZ (.ok .nx s)=.ok (.val (.d .non)) ⟨[],s.st⟩:=id rfl
@[simp] theorem D9(r:RV)(s:State):AZ (.ok (.ret r) s)=(match mL s r with | some r'=>.ok r' ⟨[],s.st⟩ | none=>.stuck):=id rfl
@[simp] theorem Ie:AZ .stuck=.stuck:=id rfl
@[simp] theorem yI(x:Exn)(s:State):AZ (.exc x s)=.exc x ⟨[],s.st⟩:=id rfl
mutual
def fE:D→Bool
 | .non=>true
 | .bl _=>true
 | .int _=>true
 | .str _=>true
 | .tup l=>gx l
 | .lst l=>gx l
 | _=>false
def gx:List D→Bool
 | []=>true
 | x::r=>fE x&&gx r
end
mutual
def gu:Nat→D→Bool
 | 0,.tup _=>false
 | 0,.lst _=>false
 | n+1,.tup l=>gv n l
 | n+1,.lst l=>gv n l
 | _,_=>true
def gv:Nat→List D→Bool
 | _,[]=>true
 | n,x::r=>gu n x&&gv n r
end
mutual
theorem rp:∀ d:D,fE d=true→(pd d).plain=true
 | .non,_=>rfl
 | .bl _,_=>rfl
 | .int _,_=>rfl
 | .str _,_=>rfl
 | .tup l,h=>by
  have:=qi l (by simpa [fE]using h)
  simpa [pd,PyData.plain]using this
 | .lst l,h=>by
  have:=qi l (by simpa [fE]using h)
  simpa [pd,PyData.plain]using this
 | .dic _,h=>by simp[fE]at h
 | .dit _,h=>by simp[fE]at h
 | .ins _ _,h=>by simp[fE]at h
 | .exc _ _,h=>by simp[fE]at h
theorem qi:∀ l:List D,gx l=true→PyData.plainAll (fG l)=true
 | [],_=>rfl
 | x::r,h=>by
  have h:fE x=true∧gx r=true:=by simpa [gx]using h
  simp[fG,PyData.plainAll,rp x h.1,qi r h.2]
end
mutual
theorem eqv_refl:∀ d:D,fE d=true→PyData.eqv (pd d) (pd d)=true
 | .non,_=>rfl
 | .bl b,_=>by cases b<;> rfl
 | .int i,_=>by show(i==i)=true;simp
 | .str s,_=>by show(Vw.st s==Vw.st s)=true;exact beq_self_eq_true _
 | .tup l,h=>by
  have:=p0 l (by simpa [fE]using h)
  simpa [pd,PyData.eqv]using this
 | .lst l,h=>by
  have:=p0 l (by simpa [fE]using h)
  simpa [pd,PyData.eqv]using this
 | .dic _,h=>by simp[fE]at h
 | .dit _,h=>by simp[fE]at h
 | .ins _ _,h=>by simp[fE]at h
 | .exc _ _,h=>by simp[fE]at h
theorem p0:∀ l:List D,gx l=true→PyData.eqvAll (fG l) (fG l)=true
 | [],_=>rfl
 | x::r,h=>by
  have h:fE x=true∧gx r=true:=by simpa [gx]using h
  simp[fG,PyData.eqvAll,eqv_refl x h.1,p0 r h.2]
end
mutual
theorem qe:∀ (n:Nat) (d:D),fE d=true→gu n d=true→(pd d).depth≤n
 | n,.non,_,_=>by simp[pd,PyData.depth]
 | n,.bl _,_,_=>by simp[pd,PyData.depth]
 | n,.int _,_,_=>by simp[pd,PyData.depth]
 | n,.str _,_,_=>by simp[pd,PyData.depth]
 | 0,.tup l,_,h=>by simp[gu]at h
 | 0,.lst l,_,h=>by simp[gu]at h
 | n+1,.tup l,p,h=>by
  have:=n5 n l (by simpa [fE]using p) (by simpa [gu]using h)
  simp[pd,PyData.depth,this]
 | n+1,.lst l,p,h=>by
  have:=n5 n l (by simpa [fE]using p) (by simpa [gu]using h)
  simp[pd,PyData.depth,this]
 | n,.dic _,p,_=>by simp[fE]at p
 | n,.dit _,p,_=>by simp[fE]at p
 | n,.ins _ _,p,_=>by simp[fE]at p
theorem n5:∀ (n:Nat) (l:List D),gx l=true→gv n l=true→PyData.depthAll (fG l)≤n
 | n,[],_,_=>by simp[fG,PyData.depthAll]
 | n,x::r,p,h=>by
  have p:fE x=true∧gx r=true:=by simpa [gx]using p
  have h:gu n x=true∧gv n r=true:=by simpa [gv]using h
  have h1:=qe n x p.1 h.1
  have h2:=n5 n r p.2 h.2
  simp[fG,PyData.depthAll]
  omega
end
theorem kN{α:Type}(F:α→D):∀ l:List α,(∀ x∈l,fE (F x)=true)→gx (l.map F)=true
 | [],_=>rfl
 | x::r,h=>by simp[gx,h x (by simp),kN F r fun y hy=>h y (by simp[hy])]
theorem mP{α:Type}(n:Nat)(F:α→D):∀ l:List α,(∀ x∈l,gu n (F x)=true)→gv n (l.map F)=true
 | [],_=>by simp[gv]
 | x::r,h=>by simp[gv,h x (by simp),mP n F r fun y hy=>h y (by simp[hy])]
theorem Ba{d:D}(n:Nat)(hn:n≤60)(p:fE d=true)(h:gu n d=true):dM d d=true∧iy d d=true:=by
 refine⟨?_,eqv_refl d p⟩
 have:=qe n d p h
 unfold dM
 simp[rp d p]
 omega
section
variable(sg:Slots)(st:List Ob)(s:State)(r r':RV)(i:Int)(j:Nat)(x:Val)
@[simp] theorem En:kn s r=(match dv s r with | some d=>some d | none=>match ob s r with | some (.lst l)=>(toDs l).map .lst | _=>none):=id rfl
theorem zN:tj s r r'=(match kn s r,kn s r' with | some a,some b=>if dM a b then some (iy a b)else none | _,_=>none):=id rfl
def Gr(o i:RV)(x:Val)(s:State):Option State:=ug o i x s
@[simp] theorem EL:ug (.own j) (.val (.d (.int i))) x ⟨sg,st⟩=(match sg[j]? with | some (some (.own (.lst l)))=>(match ixN l.length i with | some m=>some ⟨sg.set j (some (.own (.lst (l.set m x)))),st⟩ | none=>none) | _=>Gr (.own j) (.val (.d (.int i))) x ⟨sg,st⟩):=by
 split
 ·rename_i l e
  unfold ug
  simp[e]
  all_goals (cases ixN l.length i<;> rfl)
 ·exact id rfl
end
theorem Ac{f:State→Res Fl}{r:List (State→Res Fl)}{s s':State}(h:f s=.ok .nx s'):av (f::r) s=av r s':=by rw[nq,h,uj]
end Vw
namespace Vw
open PySem L2 PyProof.Rows
def qv(t T:String):Bool:=t==T||(t=="bool"&&T=="int")
def nk:List String:=["NoneType","bool","int","str","list","tuple","dict"]
def vJ(s:State)(r:RV):Option String:=
 match dv s r with
 | some .non=>some "NoneType"
 | some (.bl _)=>some "bool"
 | some (.int _)=>some "int"
 | some (.str _)=>some "str"
 | some (.lst _)=>some "list"
 | some (.tup _)=>some "tuple"
 | some (.dic _)=>some "dict"
 | some _=>none
 | none=>match ob s r with
  | some (.lst _)=>some "list"
  | some _=>none
  | none=>(tv s r).map fun _=>"tuple"
def mY(T:String)(f:State→Res RV)(s:State):Res RV:=(ev f s).bind fun r s=>
 match vJ s r with
 | some t=>a0 (.bl (qv t T)) s
 | none=>.stuck
def bIndex(o:RV)(rs:List RV)(s:State):Res RV:=
 match rs with
 | [x]=>match dv s o,dv s x with
  | some (.str a),some (.str b)=>match Builtin.Str.occurrences (Vw.st a) (Vw.st b) 0 a.length 1 with
   | i::_=>a0 (.int (i:Nat)) s
   | []=>.stuck
  | _,_=>.stuck
 | _=>.stuck
section
variable{C:Cst}{Z Z' Zc:Hp}{loc loc':List Addr}{s s':State}{sv sv':L2.St}{H H':Hp}
variable{X:Cx}{e a b c o:Expr}{es:List Expr}{p pos apos pt:Pos}{f fa fb fc fo fi fv:State→Res RV}{fs:State→Res (List RV)}
theorem Jt(K:PySem.W.Frag):∀ t∈nk,∀ T∈nk,PySem.W.kitOne K (.type t) (.type T)=some (qv t T):=by
 intro t ht T hT
 simp only[nk,List.mem_cons,List.not_mem_nil,or_false]at ht hT
 rcases ht with rfl | rfl | rfl | rfl | rfl | rfl | rfl<;> rcases hT with rfl | rfl | rfl | rfl | rfl | rfl | rfl<;> rfl
theorem Fy(r:SR C Z loc s sv H)(K:PySem.W.Frag){rv:RV}{v:V}{t:String}(h:da C Z loc s sv H rv v)(e:vJ s rv=some t):TyX K H v (.type t)∧t∈nk:=by
 unfold vJ at e
 split at e
 ·rename_i e1;cases e;have q:=r.dv h e1;rw[show v=.non from q];exact⟨.base .non,by simp[nk]⟩
 ·rename_i b e1;cases e;have q:=r.dv h e1;rw[show v=.bl b from q];exact⟨.base (.bl b),by simp[nk]⟩
 ·rename_i i e1;cases e;have q:=r.dv h e1;rw[show v=.int i from q];exact⟨.base (.int i),by simp[nk]⟩
 ·rename_i x e1;cases e;have q:=r.dv h e1;rw[show v=.str _ from q];exact⟨.base (.str _),by simp[nk]⟩
 ·rename_i l e1
  cases e
  obtain⟨a,vs,rfl,z,_⟩:=r.dv h e1
  refine⟨.base ?_,by simp[nk]⟩
  rcases z with z | ⟨o,z⟩
  ·exact .lst ((r.zh a _ z).at rfl)
  ·exact .frz ((r.zh a _ z).at rfl)
 ·rename_i l e1
  cases e
  obtain⟨a,vs,rfl,z,_⟩:=r.dv h e1
  exact⟨.base (.tup ((r.zh a _ z).at rfl)),by simp[nk]⟩
 ·rename_i l e1
  cases e
  obtain⟨a,vs,rfl,z,_⟩:=r.dv h e1
  refine⟨?_,by simp[nk]⟩
  rcases r.zh a _ z with z | ⟨_,o,z⟩
  ·exact .base (.dK z)
  ·exact .fDict z
 ·cases e
 ·split at e
  ·rename_i l e1
   cases e
   obtain⟨a,rfl,_,xs,h1,_⟩:=r.ob h e1
   exact⟨.base (.lst h1),by simp[nk]⟩
  ·cases e
  ·obtain⟨l,e1,rfl⟩:=Option.map_eq_some_iff.mp e
   obtain⟨a,xs,rfl,h1,_⟩:=r.tv h e1
   exact⟨.base (.tup h1),by simp[nk]⟩
theorem zW{T:String}(he:PE X e (aA C f))(hg:Gl X "isinstance")(hm:X.mg "isinstance"=none)(hg2:Gl X (Str.ofString T))(hm2:X.mg (Str.ofString T)=none)(hv:bootBuiltins (Str.ofString T)=some (.type T))(hT:T∈nk)(hs:notStar e=true)
  (hn:(Str.ofString T)≠"__name__") (hd:((Str.ofString T)==("__debug__":Str))=false):PE X (.Call (.Name "isinstance" p) [e,.Name (Str.ofString T) pt] [] pos) (aA C (mY T f)):=by
 refine c6 (pe_callB call_isi hg hm wb (pa_cons he (pa_cons (pe_bltn (v:=.ty T) hg2 hm2 hv rfl hn hd) pa_nil (by rfl)) (di hs)) (by decide) (by decide) (di hs) (by rfl)) fun sv H Q ⟨Z,loc,s,r,q⟩=>?_
 refine(aA.nB r q).imp fun v H1 ⟨Z1,l1,s1,y,g1,r1,st1,q1,h1⟩=>?_
 cases et:vJ s1 y with
 | none=>rw[et]at h1;exact h1.elim
 | some t=>
  rw[et]at h1
  obtain⟨h2,h3⟩:=Fy r1 X.K q1 et
  exact⟨v,.ty T,.type t,.type T,_,rfl,.ty T,h2,Jt X.K t h3 T hT,h1.a0 r1 rfl⟩
theorem jW{x z:String}{t:Tok}(hg:Gl X (Str.ofString x))(hm:X.mg (Str.ofString x)=some (.str (Str.ofString z) t))(hd:((Str.ofString x)==("__debug__":Str))=false):PE X (.Name (Str.ofString x) pos) (aA C (fD (.str (sS z)))):=
 qT (pe_glob (v:=.str (Str.ofString z)) hg hm ⟨t,rfl⟩ hd) fun _=>by
  show V.str _=V.str _
  simp[sS]
end
section
variable{P:Program}{w:World}{K:PySem.W.Frag}{mg:Str→Option Value}{base:Heap}
theorem qQ{CX:CXT}{k n:Nat}{f:Addr}{fd:FuncData}{ps:List Str}{cA:String→Addr}(hn:ps.length=n):FnOk P w K mg base CX k f fd ps (eF cA n fun _ _=>.stuck):=by
 subst hn
 refine⟨u1,fun A outer s H args us vs Q E hr e0 hb hv hs=>?_⟩
 obtain⟨Fr,H0,Z,loc,args,st,r,q,hl,h⟩:=hs
 exact h.elim
end
@[simp] theorem G2(T:String)(f:State→Res RV)(s:State):mY T f s=(ev f s).bind fun r s=>match vJ s r with | some t=>a0 (.bl (qv t T)) s | none=>.stuck:=id rfl
@[simp] theorem Hg(s:State)(r:RV):vJ s r=(match dv s r with | some .non=>some "NoneType" | some (.bl _)=>some "bool" | some (.int _)=>some "int" | some (.str _)=>some "str" | some (.lst _)=>some "list" | some (.tup _)=>some "tuple" | some (.dic _)=>some "dict" | some _=>none | none=>match ob s r with | some (.lst _)=>some "list" | some _=>none | none=>(tv s r).map fun _=>"tuple"):=id rfl
end Vw
namespace Vw
open PySem L2 PyProof.Rows
def CL(r:RV)(s:State):Res RV:=
 match r with
 | .new .gone=>.stuck
 | .new o=>.ok (.val (.r s.st.length)) ⟨s.sg,s.st++[o]⟩
 | _=>.stuck
def sl(f:State→Res RV)(s:State):Res RV:=(f s).bind CL
section
variable{C:Cst}{Z Z' Zc:Hp}{loc loc':List Addr}{s s':State}{sv sv':L2.St}{H H':Hp}
variable{X:Cx}{e:Expr}{f:State→Res RV}
theorem SR.alloc(r:SR C Z loc s sv H){a:Addr}{o:Ob}(ne:o≠ .gone)(c:Cell C.cA Z loc H a o)(fr:Free C Z loc s sv a):
  Ext Z loc Z (loc++[a])∧SR C Z (loc++[a]) ⟨s.sg,s.st++[o]⟩ sv H∧c7 C.cA Z (loc++[a]) (.r s.st.length) (.ref a):=by
 have g:Ext Z loc Z (loc++[a]):=⟨Same.refl _,[a],rfl⟩
 refine⟨g,⟨r.fr,r.zh,r.zf,r.lk,by simp[r.ln],?_,fun b hb=>?_,fun n b ob h1 h2 h3=>?_,fun i x h=>?_,fun i ob h=>?_,r.oi,r.ls⟩,a,?_,rfl⟩
 ·rw[List.nodup_append]
  exact⟨r.nd,by simp,fun x hx y hy e=>by simp at hy;subst hy;subst e;exact fr.l hx⟩
 ·rcases List.mem_append.mp hb with hb | hb
  ·exact r.lh b hb
  ·simp at hb
   subst hb
   exact⟨jM ne c,fr.f⟩
 ·by_cases hn:n<loc.length
  ·rw[List.getElem?_append_left hn]at h1
   have h2:(s.st++[o])[n]? =some ob:=h2
   rw[List.getElem?_append_left (by rw[←r.ln];exact hn)]at h2
   obtain⟨q1,q2⟩:=r.cl n b ob h1 h2 h3
   exact⟨q1.mono g (Same.refl _),q2⟩
  ·have h2:(s.st++[o])[n]? =some ob:=h2
   have hlen:n<(loc++[a]).length:=(List.getElem?_eq_some_iff.mp h1).1
   have hn':n=loc.length:=by simp at hlen;omega
   subst hn'
   rw[List.getElem?_append_right (Nat.le_refl _)]at h1
   rw[r.ln,List.getElem?_append_right (Nat.le_refl _)]at h2
   simp at h1 h2
   subst h1 h2
   exact⟨c.mono g (Same.refl _),fr.z⟩
 ·obtain⟨v,q1,q2⟩:=r.vl i x h
  exact⟨v,q1,c7.mono g x q2⟩
 ·obtain⟨b,q1,q2,q3,q4,q5,q6⟩:=r.ow i ob h
  refine⟨b,q1,q2,q3.mono g (Same.refl _),q4,q5,fun z=>?_⟩
  rcases List.mem_append.mp z with z | z
  ·exact q6 z
  ·simp at z
   subst z
   exact fr.o i ob h q1
 ·rw[←r.ln]
  simp
theorem Bo(he:PE X e (aA C f)):PE X e (aA C (sl f)):=by
 refine c6 he fun sv H Q ⟨Z,loc,s,r,q⟩=>?_
 refine(aA.qZ r q).imp fun v H1 ⟨Z1,l1,s1,y,g1,r1,q1,h1⟩=>?_
 cases y with
 | val x=>exact h1.elim
 | own i=>exact h1.elim
 | new o=>
  obtain⟨a,h2,h3,h4,h5⟩:=q1
  subst h2
  have key:EPost C Z1 l1 sv (.ok (.val (.r s1.st.length)) ⟨s1.sg,s1.st++[o]⟩) Q:=by
   cases o<;> first | exact h1 | exact absurd rfl h3
  obtain⟨g2,r2,q2⟩:=r1.alloc h3 h4 h5
  exact key Z1 _ H1 _ g2 r2 q2
end
@[simp] theorem EM(f:State→Res RV)(s:State):sl f s=(f s).bind CL:=id rfl
@[simp] theorem K2(l:List Val)(sg:Slots)(st:List Ob):CL (.new (.lst l)) ⟨sg,st⟩=.ok (.val (.r st.length)) ⟨sg,st++[.lst l]⟩:=id rfl
end Vw
namespace Vw
open PySem L2 PyProof.Rows
def rl(a:List Nat)(ys:List (List Nat)):List Nat:=(Txt.join (Vw.st a) (ys.map Vw.st)).cps.toList
def qV(o:RV)(rs:List RV)(s:State):Res RV:=
 match rs with
 | [x]=>match dv s o,(sq s x).bind strsOf with
  | some (.str a),some ys=>if(ys.map (·.length)).sum+ys.length*a.length≤16777216 then a0 (.str (rl a ys)) s else .stuck
  | _,_=>.stuck
 | _=>.stuck
section
variable{C:Cst}{Z:Hp}{loc:List Addr}
theorem tP:∀ {l:List Val} {ns:List (List Nat)} {xs:List V},strsOf l=some ns→bc C.cA Z loc l xs→xs=(ns.map Vw.st).map V.str
 | [],ns,xs,e,h=>by cases e;exact h
 | .d (.str i)::r,ns,xs,e,⟨v,t,e1,q,h⟩=>by
  unfold strsOf at e
  obtain⟨m,e2,rfl⟩:=Option.map_eq_some_iff.mp e
  rw[e1,tP e2 h,show v=_ from q]
  rfl
 | .d .non::r,ns,xs,e,h=>by cases e
 | .d (.bl _)::r,ns,xs,e,h=>by cases e
 | .d (.int _)::r,ns,xs,e,h=>by cases e
 | .d (.tup _)::r,ns,xs,e,h=>by cases e
 | .d (.lst _)::r,ns,xs,e,h=>by cases e
 | .d (.dic _)::r,ns,xs,e,h=>by cases e
 | .d (.dit _)::r,ns,xs,e,h=>by cases e
 | .d (.ins _ _)::r,ns,xs,e,h=>by cases e
 | .r _::r,ns,xs,e,h=>by cases e
 | .tp _::r,ns,xs,e,h=>by cases e
theorem xQ(K:PySem.W.Frag):yK C qV (fun x xs H Q=>∃ a p,∃ ys:List Str,x=.str a∧xs=[.ref p]∧(SqL K H p (ys.map V.str)∨SqT K H p (ys.map V.str))∧
  (ys.map (·.length)).sum+ys.length*a.length≤16777216∧Q (.str (Txt.join a ys)) H):=by
 intro Z loc s sv H o v rs vs Q r q qs h
 unfold qV at h
 split at h
 ·obtain⟨w,t,rfl,st1,q1,q2⟩:=qs
  cases q2
  split at h
  ·rename_i a ys e e'
   have qa:v=.str (Vw.st a):=r.dv q e
   obtain⟨l,e1,e2⟩:=Option.bind_eq_some_iff.mp e'
   obtain⟨p,xs,rfl,h1,h2⟩:=r.sq (K:=K) q1 e1
   rw[tP e2 h2]at h1
   split at h
   ·rename_i hz
    refine⟨Vw.st a,p,ys.map Vw.st,qa,rfl,h1,?_,h.a0 r ?_⟩
    ·simpa [Vw.st,Str.length,Function.comp_def]using hz
    ·show V.str _=V.str _
     simp[rl]
   ·exact h.elim
  ·exact h.elim
 ·exact h.elim
end
end Vw
namespace Vw
open PySem L2 PyProof.Rows
def cx(g:Fn)(args:List Val)(s:State):Res RV:=
 match g args s.st with
 | .ok r s2=>.ok r ⟨s.sg,s2.st⟩
 | .exc x s2=>.exc x ⟨s.sg,s2.st⟩
 | .stuck=>.stuck
def FO(n:Nat)(fs:State→Res (List RV))(g:Fn)(s:State):Res RV:=(fs s).bind fun rs s=>(bI rs s).bind fun args s=>if args.length=n then cx g args s else .stuck
section
variable{C:Cst}{Z Z':Hp}{loc loc':List Addr}{s s':State}{sv sv':L2.St}{H H':Hp}
variable{X:Cx}{e a b c o:Expr}{es:List Expr}{p pos apos:Pos}{f fa fb fc fo fi fv:State→Res RV}
theorem EK{g:Fn}{n:Nat}{args:List Val}{vs:List V}{Q:VK}(r:SR C Z loc s sv H)(q:bc C.cA Z loc args vs)(hn:args.length=n)(h:EPost C Z loc sv (cx g args s) Q):eF C.cA n g vs H Q (WE C.W sv):=by
 refine⟨gP H Z loc,C.H0,Z,loc,args,s.st,r.entry _,q,hn,?_⟩
 unfold cx at h
 cases e:g args s.st with
 | stuck=>rw[e]at h;exact h
 | exc x s1=>
  rw[e]at h
  exact fun Z' l' H' c d g r' q'=>h Z' l' H' c d g (r.back g r') q'
 | ok rv s1=>
  rw[e]at h
  exact fun Z' l' H' v g r' q'=>h Z' l' H' v g (r.back g r') (da.back r r' q')
theorem lT{P:Program}{w:World}{K:PySem.W.Frag}{mg:Str→Option Value}{base:Heap}{x qual:Str}{params:Arguments}{body:List Stmt}{scope:Scope}{f:Addr}{fd:FuncData}{N ps:List Str}{cA:String→Addr}{b:State→Res Fl}{k n m:Nat}
  (F:FunD K x qual params body scope [] [] f fd) (S:FnScope N ps scope) (hn:ps.length=n) (hm:N.length=m)
  (hb:∀ (cdv:Value) (A:Around) (outer:List Env) (s:Shared) (H:Hp) (E:XK) (C:Cst),Room k (A.deeper (envOfC qual scope s.heap.objs.size f cdv))→C.cA=cA→Takes (cxOf (L2.CX P w) P w K mg base N qual scope f cdv A outer s H E) C.W→PSs (cxOf (L2.CX P w) P w K mg base N qual scope f cdv A outer s H E) body (fK C b)):
  FnOk P w K mg base (L2.CX P w) (k+1) f fd ps (eF cA n (fW m b)):=by
 subst hn hm
 refine F.ok S u1 fun cdv A outer s H vs Q E hr h=>?_
 obtain⟨Fr,H0,Z,loc,args,st,r,q,hl,h⟩:=h
 exact⟨_,hb cdv A outer s H E (fL cA Fr H0 E) hr rfl (takes_of rfl rfl rfl rfl),vE (ps:=ps) r q hl h fun _ _ _ z=>z⟩
def qJ(c:String)(s:State):Res Fl:=.exc ⟨c,none⟩ s
structure ExF (K:PySem.W.Frag) (C:Addr):Prop where
 ei:PySem.W.excIn K C He.veBase "ValueError.__new__"=true
 kC:PySem.W.keepIn K (.ref C)=true
 sB:PySem.W.subIn K (.ref C) (.type "BaseException")=some true
 tC:PySem.W.typeIn K (.ref C)=some (.type "type")
theorem C8{x m:Str}{j:Nat}{c:String}{p p2 pos pos':Pos}(hc:X.calm=true)(tk:Takes X C.W)(F:ExF X.K (C.cA c))(gC:X.mg x=some (.ref (C.cA c)))(hg:Gl X x)(hdb:(x==("__debug__":Str))=false):
  PS X (.Raise (some (.Call (.Name x p) [.Constant (.str m) j p2] [] pos)) none pos') (fK C (qJ c)):=by
 refine iC (ps_raise hc tk (pmk_own PySem.F.excBase_ValueError F.ei gC F.kC (raises_own F.sB F.tC) hg hdb)) fun D sv H ⟨Z,loc,s,r,h⟩=>?_
 exact h Z loc sv H _ _ (Ext.refl _ _) r ⟨rfl,rfl⟩
theorem x_raise{x:String}{m:Str}{j:Nat}{cA:String→Addr}{p p2 pos pos':Pos}(hC:C.cA=cA)(hc:X.calm=true)(tk:Takes X C.W)(F:ExF X.K (cA x))(gC:X.mg (Str.ofString x)=some (.ref (cA x)))(hg:Gl X (Str.ofString x))(hdb:((Str.ofString x)==("__debug__":Str))=false):
  PS X (.Raise (some (.Call (.Name (Str.ofString x) p) [.Constant (.str m) j p2] [] pos)) none pos') (fK C (qJ x)):=by
 subst hC
 exact C8 hc tk F gC hg hdb
end
end Vw
namespace L2
open PySem PySem.Spec PyProof.Rows
end L2
namespace Vw
open PySem L2 PySem.Spec PyProof.Rows
end Vw
namespace Vw
open PySem L2 PyProof.Rows
def EH(N:List String)(c T:String):Option Bool:=if N.contains c then(if T="ValueError" then some true else if N.contains T then some (decide (T="FindError")||decide (c=T))else none)else none
section
variable{C C':Cst}{Z Z':Hp}{loc loc':List Addr}{s s':State}{sv sv':L2.St}{H H':Hp}
theorem SR.w(r:SR C Z loc s sv H)(W:WX):SR { C with W:=W } Z loc s sv H:=⟨r.fr,r.zh,r.zf,r.lk,r.ln,r.nd,r.lh,r.cl,r.vl,r.ow,r.oi,r.ls⟩
end
end Vw
namespace Vw
open PySem L2 PyProof.Rows
def Jm(N:List String)(T:String)(f:State→Res RV)(s:State):Res RV:=(ev f s).bind fun r s=>
 match dv s r with
 | some (.exc c _)=>match EH N c T with
  | some b=>a0 (.bl b) s
  | none=>.stuck
 | some .non=>a0 (.bl false) s
 | _=>.stuck
end Vw
namespace Vw
open PySem L2 PyProof.Rows
def JU(N:List String)(f:State→Res RV)(s:State):Res RV:=(ev f s).bind fun r s=>
 match dv s r with
 | some (.exc c [p])=>if N.contains c then a0 p s else .stuck
 | _=>.stuck
def D2(T:String)(f:State→Res RV)(s:State):Res Fl:=(ev f s).bind fun r s=>match eu r s with
 | .ok (.d x) s=>.exc ⟨T,some x⟩ s
 | _=>.stuck
end Vw
namespace Vw
open PySem L2 PyProof.Rows
theorem ox{a b:String}(h:Str.ofString a=Str.ofString b):a=b:=by
 rw[Str.ofString_eq_toList,Str.ofString_eq_toList]at h
 have h1:(a.toList.map Char.toNat)=(b.toList.map Char.toNat):=by
  have:=congrArg (fun x:Str=>x.cps.toList) h
  simpa using this
 have h2:a.toList=b.toList:=by
  have inj:∀ (l m:List Char),l.map Char.toNat=m.map Char.toNat→l=m:=by
   intro l
   induction l with
   | nil=>intro m h;cases m<;> simp at h ⊢
   | cons c l ih=>
    intro m h
    cases m with
    | nil=>simp at h
    | cons d m=>
     simp only[List.map_cons,List.cons.injEq]at h
     have:c=d:=by
      apply Char.ext
      apply UInt32.toNat_inj.mp
      exact h.1
     rw[this,ih m h.2]
  exact inj _ _ h1
 exact String.toList_inj.mp h2
structure Mode (C:Cst) (X:Cx) where
 CX:CXT
 E:L2.St→XK
 hx:∀ σ,PassesAt CX X σ (E σ)
 call:Fn→List Val→State→Res RV
 sp:∀ {Z:Hp} {loc:List Addr} {s:State} {sv:L2.St} {H:Hp} {g:Fn} {n:Nat} {args:List Val} {vs:List V} {Q:VK},SR C Z loc s sv H→bc C.cA Z loc args vs→args.length=n→EPost C Z loc sv (call g args s) Q→eF C.cA n g vs H Q (E sv)
def mR{C:Cst}{X:Cx}:Mode C X:=⟨CX0,fun _=>E0,fun σ pins H s e s' I c=>L2.pass0 pins σ H s e s' I c,eg,fun r q hn h=>Cf r q hn h⟩
def mX{C:Cst}{X:Cx}(tk:Takes X C.W):Mode C X:=⟨L2.CX X.prog X.w,WE C.W,fun σ=>passAt tk σ,cx,fun r q hn h=>EK r q hn h⟩
def tL(s:State)(r:RV):Option (String×List String):=
 match dv s r with
 | some (.ins c fs)=>some (c,fs.map (·.1))
 | some _=>none
 | none=>match ob s r with
  | some (.ins c fs)=>some (c,fs.map (·.1))
  | _=>none
def cw(call:Fn→List Val→State→Res RV)(c m:String)(n:Nat)(fo:State→Res RV)(fs:State→Res (List RV))(g:Fn)(s:State):Res RV:=(ev fo s).bind fun r s=>
 match tL s r,r with
 | some (c',fl),.val x=>if c'=c∧fl.contains m=false then(fs s).bind fun rs s=>(bI rs s).bind fun args s=>if args.length+1=n then call g (x::args) s else .stuck else .stuck
 | _,_=>.stuck
def FZ(m:Nat)(r:Res RV):Res RV:=
 match r with
 | .ok (.val (.d .non)) s=>.ok (.val (.r m)) s
 | .exc x s=>.exc x s
 | _=>.stuck
def Cn(call:Fn→List Val→State→Res RV)(c:String)(n:Nat)(fs:State→Res (List RV))(g:Fn)(s:State):Res RV:=(fs s).bind fun rs s=>(bI rs s).bind fun args s=>
 if args.length+1=n then FZ s.st.length (call g (.r s.st.length::args) ⟨s.sg,s.st++[.ins c []]⟩)else .stuck
def qt{α:Type}(fs:List (String×α))(f:String):Option α:=(fs.find? fun p=>decide (p.1=f)).map (·.2)
def tu{α:Type}(f:String)(v:α):List (String×α)→List (String×α)
 | []=>[(f,v)]
 | (g,x)::r=>if g=f then(g,v)::r else(g,x)::tu f v r
def jC(T:List (String×String))(f:String)(fo:State→Res RV)(s:State):Res RV:=(ev fo s).bind fun r s=>
 match dv s r with
 | some (.ins c fs)=>if T.contains (c,f)then(match qt fs f with
  | some d=>a0 d s
  | none=>.stuck)else .stuck
 | some _=>.stuck
 | none=>match ob s r with
  | some (.ins c fs)=>if T.contains (c,f)then(match qt fs f with
   | some x=>.ok (.val x) s
   | none=>.stuck)else .stuck
  | _=>.stuck
def wC(T:List (String×String))(f:String)(fo fv:State→Res RV)(s:State):Res Fl:=(ev fv s).bind fun v s=>(ev fo s).bind fun o s=>
 match eu v s with
 | .ok x s=>match ob s o with
  | some (.ins c fs)=>if T.contains (c,f)&&decide (fs.length<1000)then .ok .nx (wr o (.ins c (tu f x fs)) s)else .stuck
  | _=>.stuck
 | _=>.stuck
def lU(T:List (String×String))(f:String)(op:Bop)(fo fv:State→Res RV)(s:State):Res Fl:=
 match zo op with
 | none=>.stuck
 | some g=>(ev fo s).bind fun o s=>match ob s o with
  | some (.ins c fs)=>if T.contains (c,f)&&decide (fs.length<1000)then(match qt fs f with
   | some (.d (.int a))=>(ev fv s).bind fun y s=>match dv s y,ob s o with
    | some (.int b),some (.ins c' fs')=>if c'=c∧fs'.length<1000 then .ok .nx (wr o (.ins c (tu f (.d (.int (g a b))) fs')) s)else .stuck
    | _,_=>.stuck
   | _=>.stuck)else .stuck
  | _=>.stuck
def qg(K:PySem.W.Frag)(cA:String→Addr)(T:List (String×String)):Prop:=∀ c f,(c,f)∈T→Cls K (cA c)∧NoAttr K (cA c) (Str.ofString f)
section
variable{C:Cst}{Z Z' Zc:Hp}{loc loc':List Addr}{s s':State}{sv sv':L2.St}{H H':Hp}
variable{X:Cx}{e a b c o v:Expr}{es:List Expr}{p p2 pos pos' apos pt:Pos}{f fa fb fc fo fi fv:State→Res RV}{fs:State→Res (List RV)}
theorem Aw{T:List (String×String)}:∀ {fs:List (String×D)} {ws:List (Str×V)} {f:String} {d:D},iV C.cA Z fs ws→qt fs f=some d→∃ v,ws.lookup (Str.ofString f)=some v∧cu C.cA Z d v
 | [],ws,f,d,h,e=>by cases e
 | (g,x)::fs,ws,f,d,⟨v,r,e1,q,t⟩,e=>by
  subst e1
  unfold qt at e
  rw[List.find?_cons]at e
  by_cases hg:g=f
  ·subst hg
   simp at e
   subst e
   exact⟨v,by simp[List.lookup],q⟩
  ·simp[hg]at e
   have hne:((Str.ofString f)==(Str.ofString g))=false:=beq_eq_false_iff_ne.mpr fun z=>hg (ox z.symm)
   obtain⟨v2,h1,h2⟩:=Aw (T:=T) (f:=f) (d:=d) t (by unfold qt;simpa using e)
   exact⟨v2,by rw[List.lookup,hne];exact h1,h2⟩
theorem vd:∀ {fs:List (String×Val)} {ws:List (Str×V)} {f:String} {d:Val},gh C.cA Z loc fs ws→qt fs f=some d→∃ v,ws.lookup (Str.ofString f)=some v∧c7 C.cA Z loc d v
 | [],ws,f,d,h,e=>by cases e
 | (g,x)::fs,ws,f,d,⟨v,r,e1,q,t⟩,e=>by
  subst e1
  unfold qt at e
  rw[List.find?_cons]at e
  by_cases hg:g=f
  ·subst hg
   simp at e
   subst e
   exact⟨v,by simp[List.lookup],q⟩
  ·simp[hg]at e
   have hne:((Str.ofString f)==(Str.ofString g))=false:=beq_eq_false_iff_ne.mpr fun z=>hg (ox z.symm)
   obtain⟨v2,h1,h2⟩:=vd (f:=f) (d:=d) t (by unfold qt;simpa using e)
   exact⟨v2,by rw[List.lookup,hne];exact h1,h2⟩
theorem yR:∀ {fs:List (String×D)} {ws:List (Str×V)} {m:String},iV C.cA Z fs ws→(fs.map (·.1)).contains m=false→ws.lookup (Str.ofString m)=none
 | [],ws,m,h,e=>by rw[show ws=_ from h];rfl
 | (g,x)::fs,ws,m,⟨v,r,e1,q,t⟩,e=>by
  subst e1
  simp only[List.map_cons,List.contains_cons,Bool.or_eq_false_iff]at e
  have hne:((Str.ofString m)==(Str.ofString g))=false:=beq_eq_false_iff_ne.mpr fun z=>by
   have:=ox z
   have e1:=e.1
   rw[this]at e1
   simp at e1
  rw[List.lookup,hne]
  exact yR t e.2
theorem ya:∀ {fs:List (String×Val)} {ws:List (Str×V)} {m:String},gh C.cA Z loc fs ws→(fs.map (·.1)).contains m=false→ws.lookup (Str.ofString m)=none
 | [],ws,m,h,e=>by rw[show ws=_ from h];rfl
 | (g,x)::fs,ws,m,⟨v,r,e1,q,t⟩,e=>by
  subst e1
  simp only[List.map_cons,List.contains_cons,Bool.or_eq_false_iff]at e
  have hne:((Str.ofString m)==(Str.ofString g))=false:=beq_eq_false_iff_ne.mpr fun z=>by
   have:=ox z
   have e1:=e.1
   rw[this]at e1
   simp at e1
  rw[List.lookup,hne]
  exact ya t e.2
theorem xf{f:String}{x:Val}{v:V}(q:c7 C.cA Z loc x v):∀ {fs:List (String×Val)} {ws:List (Str×V)},gh C.cA Z loc fs ws→gh C.cA Z loc (tu f x fs) (putF (Str.ofString f) v ws)
 | [],ws,h=>by rw[show ws=_ from h];exact⟨v,[],rfl,q,rfl⟩
 | (g,y)::fs,ws,⟨w,r,e1,q1,t⟩=>by
  subst e1
  unfold tu putF
  by_cases hg:g=f
  ·rw[if_pos hg,if_pos (by rw[hg])]
   exact⟨v,r,rfl,q,t⟩
  ·rw[if_neg hg,if_neg (fun z=>hg (ox z))]
   exact⟨w,_,rfl,q1,xf q t⟩
theorem Ca:∀ {fs:List (String×Val)} {ws:List (Str×V)},gh C.cA Z loc fs ws→fs.length=ws.length
 | [],ws,h=>by rw[show ws=_ from h];rfl
 | (g,y)::fs,ws,⟨w,r,e1,q1,t⟩=>by rw[e1,List.length_cons,List.length_cons,Ca t]
theorem SR.ins(r:SR C Z loc s sv H){rv:RV}{v:V}{c:String}{fl:List String}{m:String}(q:da C Z loc s sv H rv v)(e:tL s rv=some (c,fl))(hm:fl.contains m=false):∃ a dx ws,v=.ref a∧H a=some (.ins (C.cA c) dx ws)∧ws.lookup (Str.ofString m)=none:=by
 unfold tL at e
 split at e
 ·rename_i c' fs e1
  cases e
  obtain⟨a,dx,ws,rfl,z,q1⟩:=r.dv q e1
  exact⟨a,dx,ws,rfl,(r.zh a _ z).at rfl,yR q1 hm⟩
 ·cases e
 ·split at e
  ·rename_i c' fs e1
   cases e
   obtain⟨a,rfl,_,dx,ws,h1,h2⟩:=r.ob q e1
   exact⟨a,dx,ws,rfl,h1,ya h2 hm⟩
  ·cases e
theorem HC{T:List (String×String)}{n:String}(F:qg X.K C.cA T)(he:PE X e (aA C f))(hb:attributeBase e (Str.ofString n) X.env (eval e X.env)=eval e X.env):PE X (.Attribute e (Str.ofString n) pos) (aA C (jC T n f)):=by
 refine c6 (pe_fld he hb) fun sv H Q ⟨Z,loc,s,r,q⟩=>?_
 refine(aA.nB r q).imp fun v H1 ⟨Z1,l1,s1,y,g1,r1,st1,q1,h1⟩=>?_
 split at h1
 ·rename_i c fs e1
  split at h1
  ·rename_i hT
   split at h1
   ·rename_i d e2
    obtain⟨a,dx,ws,rfl,z,q2⟩:=r1.dv q1 e1
    obtain⟨w,l,qw⟩:=Aw (T:=T) q2 e2
    obtain⟨f1,f2⟩:=F c n (by simpa using hT)
    exact⟨a,C.cA c,dx,ws,w,rfl,(r1.zh a _ z).at rfl,f1,f2,l,h1.a0 r1 qw⟩
   ·exact h1.elim
  ·exact h1.elim
 ·exact h1.elim
 ·split at h1
  ·rename_i c fs e1
   split at h1
   ·rename_i hT
    split at h1
    ·rename_i x e2
     obtain⟨a,rfl,_,dx,ws,z,q2⟩:=r1.ob q1 e1
     obtain⟨w,l,qw⟩:=vd q2 e2
     obtain⟨f1,f2⟩:=F c n (by simpa using hT)
     exact⟨a,C.cA c,dx,ws,w,rfl,z,f1,f2,l,h1 Z1 l1 H1 w (Ext.refl _ _) r1 qw⟩
    ·exact h1.elim
   ·exact h1.elim
  ·exact h1.elim
theorem EY{T:List (String×String)}{n:String}(F:qg X.K C.cA T)(ho:PE X o (aA C fo))(hv:PE X v (aA C fv))(hc:jF v=true):PS X (.Assign [.Attribute o (Str.ofString n) pos'] v pos) (fK C (wC T n fo fv)):=by
 refine iC (ps_fld ho hv (vp hc)) fun D sv H ⟨Z,loc,s,r,q⟩=>?_
 refine(aA.xy r q).imp fun x H1 ⟨Z1,l1,s1,y,g1,r1,st1,q1,h1⟩=>?_
 refine(aA.xy r1 h1).imp fun u H2 ⟨Z2,l2,s2,y2,g2,r2,st2,q2,h2⟩=>?_
 have q1':=q1.mono (s':=s2) (H':=H2) g2 st1
 cases e1:eu y s2 with
 | stuck=>rw[e1]at h2;exact h2.elim
 | exc x s4=>rw[e1]at h2;exact h2.elim
 | ok z s4=>
  rw[e1]at h2
  dsimp only at h2
  obtain⟨Z4,g4,r4,q4⟩:=r2.eu q1' e1
  split at h2
  ·rename_i c fs e5
   split at h2
   ·rename_i hT
    simp only[Bool.and_eq_true,decide_eq_true_eq]at hT
    have q2':=q2.mono (s':=s4) (H':=H2) g4 st2
    obtain⟨a,rfl,_,dx,ws,hz,qf⟩:=r4.ob q2' e5
    obtain⟨f1,f2⟩:=F c n (by simpa using hT.1)
    refine⟨a,C.cA c,dx,ws,rfl,hz,f1,f2,by rw[←Ca qf];exact hT.2,?_⟩
    have r5:=r4.write (o':=.ins c (tu n z fs)) (u:=.ins (C.cA c) dx (putF (Str.ofString n) x ws)) q2' e5 rfl (by simp) (fun x w z=>by rw[hz]at z;cases z) ⟨dx,_,upd_same,xf q4 qf⟩
    exact dk.nx (dk.ext h2 g4) r5
   ·exact h2.elim
  ·exact h2.elim
theorem BQ{M:Mode C X}{k:Nat}{f D:Addr}{fd:FuncData}{ps:List Str}{sp:Sp}{m:Str}{ta:TE}{t:TA}{pl:Sem Bool}(he:PE X o ta)(c:Cls X.K D)(hm:Meth X.K D m f)(F:FnOk X.prog X.w X.K X.mg X.base M.CX k f fd ps sp)(hr:Room k X.A)(hb:Binds X.K fd ps [])(ha:PA X (e::es) t)
  (hst:starEach (e::es) X.env=(false,eval e X.env)::starEach es X.env) (hpl:(backTo pos (starEach es X.env)).any (·.1)=false)
  (ht:eval (.Call (.Attribute o m apos) (e::es) [] pos) X.env=(do
   let ov ←eval o X.env
   standAt apos.atName
   let (f,first) ←holding [ov] (getMethod ov m pl)
   callWith pos f first (backTo pos (starEach (e::es) X.env)) (backToKw pos (keywordEach [] X.env)))):
  PE X (.Call (.Attribute o m apos) (e::es) [] pos) (fun σ H Q=>ta σ H fun x H1=>∃ a dx fs,x=.ref a∧H1 a=some (.ins D dx fs)∧fs.lookup m=none∧t σ H1 fun vs H2=>sp (x::vs) H2 Q (M.E σ)):=by
 refine⟨fun pins s σ H Q I h=>?_⟩
 refine PySem.W.methodCall_KW (pl:=pl) (thn (he.run pins s σ H _ I h) fun u s1 ⟨x,H1,I1,rx,a,dx,fs,ex,ea,l,q⟩=>?_) ht
 subst ex
 obtain rfl:u=Value.ref a:=rx
 refine getmeth_ok I1 ea c hm l ?_
 refine PySem.W.callWith_K (first:=[.ref a]) (h₀:=X.base) I.ok.mod.kin hm.kp (thn (ha.run pos pins s1 σ H1 _ I1 q) fun us s2 ⟨vs,H2,I2,r,q2⟩=>⟨I2.kIn,?_⟩) hst hpl
 exact run_fnS (us:=.ref a::us) (vs:=.ref a::vs) F hr hb (M.hx σ) I2 (.cons rfl r) q2
theorem zZ{M:Mode C X}{k:Nat}{f D:Addr}{fd:FuncData}{ps:List Str}{sp:Sp}{m:Str}{ta:TE}{pl:Sem Bool}(he:PE X o ta)(c:Cls X.K D)(hm:Meth X.K D m f)(F:FnOk X.prog X.w X.K X.mg X.base M.CX k f fd ps sp)(hr:Room k X.A)(hb:Binds X.K fd ps [])
  (ht:eval (.Call (.Attribute o m apos) [] [] pos) X.env=(do
   let ov ←eval o X.env
   standAt apos.atName
   let (f,first) ←holding [ov] (getMethod ov m pl)
   callWith pos f first (backTo pos (starEach [] X.env)) (backToKw pos (keywordEach [] X.env)))):
  PE X (.Call (.Attribute o m apos) [] [] pos) (fun σ H Q=>ta σ H fun x H1=>∃ a dx fs,x=.ref a∧H1 a=some (.ins D dx fs)∧fs.lookup m=none∧sp [x] H1 Q (M.E σ)):=by
 refine⟨fun pins s σ H Q I h=>?_⟩
 refine PySem.W.methodCall_KW (pl:=pl) (thn (he.run pins s σ H _ I h) fun u s1 ⟨x,H1,I1,rx,a,dx,fs,ex,ea,l,q⟩=>?_) ht
 subst ex
 obtain rfl:u=Value.ref a:=rx
 refine getmeth_ok I1 ea c hm l ?_
 exact PySem.W.callWith_K0 (first:=[.ref a]) I1.kIn hm.kp (run_fnS (us:=[.ref a]) (vs:=[.ref a]) F hr hb (M.hx σ) I1 (.cons rfl .nil) q)
end
end Vw
namespace Vw
open PySem L2 PyProof.Rows
section
variable{C:Cst}{Z Z' Zc:Hp}{loc loc':List Addr}{s s':State}{sv sv':L2.St}{H H':Hp}
variable{X:Cx}{e a b c o v:Expr}{es:List Expr}{p p2 pos pos' apos pt:Pos}{f fa fb fc fo fi fv:State→Res RV}{fs:State→Res (List RV)}
theorem eR.KW{fs:State→Res (List RV)}{k:List RV→State→Res RV}{Q:VK}{R:List V→Hp→Prop}(r:SR C Z loc s sv H)(h:EPost C Z loc sv ((fs s).bind k) Q)
  (hq:∀ vs H1 Z1 loc1 s1 xs,Ext Z loc Z1 loc1→SR C Z1 loc1 s1 sv H1→jz C Z1 loc1 s1 sv H1 xs vs→EPost C Z1 loc1 sv (k xs s1) Q→R vs H1):eR C fs sv H R:=by
 refine⟨Z,loc,s,r,?_⟩
 cases e:fs s with
 | stuck=>rw[e]at h;exact h
 | exc x s1=>rw[e]at h;exact h
 | ok xs s1=>
  rw[e]at h
  simp only[Res.bind]at h
  exact fun Z' l' H' vs g r' q'=>hq vs H' Z' l' s1 xs g r' q' (EPost.ext h g)
theorem GU{M:Mode C X}{k:Nat}{fA:Addr}{fd:FuncData}{ps:List Str}{cl m:String}{g:Fn}{pl:Sem Bool}(he:PE X o (aA C fo))(c:Cls X.K (C.cA cl))(hm:Meth X.K (C.cA cl) (Str.ofString m) fA)(F:FnOk X.prog X.w X.K X.mg X.base M.CX k fA fd ps (eF C.cA ps.length g))(hr:Room k X.A)(hb:Binds X.K fd ps [])(ha:PA X (e::es) (eR C fs))
  (hs:(e::es).all notStar=true)
  (ht:eval (.Call (.Attribute o (Str.ofString m) apos) (e::es) [] pos) X.env=(do
   let ov ←eval o X.env
   standAt apos.atName
   let (f,first) ←holding [ov] (getMethod ov (Str.ofString m) pl)
   callWith pos f first (backTo pos (starEach (e::es) X.env)) (backToKw pos (keywordEach [] X.env)))):
  PE X (.Call (.Attribute o (Str.ofString m) apos) (e::es) [] pos) (aA C (cw M.call cl m ps.length fo fs g)):=by
 have hs':=hs
 simp only[List.all_cons,Bool.and_eq_true]at hs
 refine c6 (BQ (M:=M) he c hm F hr hb ha (di hs.1) (ik hs.2) ht) fun sv H Q ⟨Z,loc,s,r,q⟩=>?_
 refine(aA.nB r q).imp fun v H1 ⟨Z1,l1,s1,y,g1,r1,st1,q1,h1⟩=>?_
 split at h1
 ·rename_i c' fl x e1
  split at h1
  ·rename_i hc
   obtain⟨a,dx,ws,rfl,hz,hl⟩:=r1.ins q1 e1 hc.2
   rw[hc.1]at hz
   refine⟨a,dx,ws,rfl,hz,hl,eR.KW r1 h1 fun vs H2 Z2 l2 s2 xs g2 r2 q2 h2=>?_⟩
   have q1':c7 C.cA Z2 l2 x (.ref a):=c7.mono g2 x q1
   cases e2:bI xs s2 with
   | stuck=>rw[e2]at h2;exact h2.elim
   | exc x s3=>exact absurd e2 ie
   | ok args s3=>
    rw[e2]at h2
    simp only[Res.bind]at h2
    obtain⟨Z3,g3,r3,q3⟩:=r2.bI q2 e2
    split at h2
    ·rename_i hn
     exact M.sp (args:=x::args) r3 ⟨.ref a,vs,rfl,c7.mono g3 x q1',q3⟩ (by simpa using hn) (EPost.ext h2 g3)
    ·exact h2.elim
  ·exact h1.elim
 ·exact h1.elim
theorem FD{M:Mode C X}{k:Nat}{fA:Addr}{fd:FuncData}{ps:List Str}{cl m:String}{g:Fn}{pl:Sem Bool}(he:PE X o (aA C fo))(c:Cls X.K (C.cA cl))(hm:Meth X.K (C.cA cl) (Str.ofString m) fA)(F:FnOk X.prog X.w X.K X.mg X.base M.CX k fA fd ps (eF C.cA ps.length g))(hr:Room k X.A)(hb:Binds X.K fd ps [])
  (ht:eval (.Call (.Attribute o (Str.ofString m) apos) [] [] pos) X.env=(do
   let ov ←eval o X.env
   standAt apos.atName
   let (f,first) ←holding [ov] (getMethod ov (Str.ofString m) pl)
   callWith pos f first (backTo pos (starEach [] X.env)) (backToKw pos (keywordEach [] X.env)))):
  PE X (.Call (.Attribute o (Str.ofString m) apos) [] [] pos) (aA C (cw M.call cl m ps.length fo (aC []) g)):=by
 refine c6 (zZ (M:=M) he c hm F hr hb ht) fun sv H Q ⟨Z,loc,s,r,q⟩=>?_
 refine(aA.nB r q).imp fun v H1 ⟨Z1,l1,s1,y,g1,r1,st1,q1,h1⟩=>?_
 split at h1
 ·rename_i c' fl x e1
  split at h1
  ·rename_i hc
   obtain⟨a,dx,ws,rfl,hz,hl⟩:=r1.ins q1 e1 hc.2
   rw[hc.1]at hz
   refine⟨a,dx,ws,rfl,hz,hl,?_⟩
   simp only[aC,Res.bind,bI]at h1
   split at h1
   ·rename_i hn
    exact M.sp (args:=[x]) r1 ⟨.ref a,[],rfl,q1,rfl⟩ (by simpa using hn) h1
   ·exact h1.elim
  ·exact h1.elim
 ·exact h1.elim
theorem Bg{M:Mode C X}{k:Nat}{f D:Addr}{fd:FuncData}{ps:List Str}{sp:Sp}{x:Str}{t:TA}(Mk':Mk X.K D f)(F:FnOk X.prog X.w X.K X.mg X.base M.CX k f fd ps sp)(hr:Room (k+1) X.A)(hg:Gl X x)(hm:X.mg x=some (.ref D))(hb:Binds X.K fd ps [])
  (ha:PA X (e::es) t) (hdb:(x==("__debug__":Str))=false) (he:starEach (e::es) X.env=(false,eval e X.env)::starEach es X.env) (hpl:(backTo pos (starEach es X.env)).any (·.1)=false):
  PE X (.Call (.Name x p) (e::es) [] pos) (fun σ H Q=>t σ H fun vs H1=>∀ y dx,H1 y=none→H1 dx=none→dx≠y→sp (.ref y::vs) (upd (upd H1 dx (.own y)) y (.ins D dx [])) (fun v H2=>v=.non∧Q (.ref y) H2) (M.E σ)):=by
 refine⟨fun pins s σ H Q I h=>?_⟩
 refine wpAny_Call_Name_kw (ld_glob I hg hm ?_ hdb)
 refine PySem.W.callWith_K (h₀:=X.base) I.ok.mod.kin Mk'.kp (thn (ha.run pos pins s σ H _ I h) fun us s1 ⟨vs,H1,I1,r,hq⟩=>⟨I1.kIn,?_⟩) he hpl
 have hq1:=hq (s1.heap.objs.size+1) s1.heap.objs.size (I1.hok.fresh (Nat.le_succ _)) (I1.hok.fresh (Nat.le_refl _)) (Nat.ne_of_lt (Nat.lt_succ_self _))
 have I2:=Inv.made (C:=D) I1
 have r2:Vals (V.ref (s1.heap.objs.size+1)::vs) (Value.ref (s1.heap.objs.size+1)::us):=.cons rfl r
 have hl:(Value.ref (s1.heap.objs.size+1)::us++[]).length=ps.length:=by
  have e:=r2.length
  rw[F.len _ _ _ _ hq1]at e
  rw[List.append_nil]
  exact e.symm
 have hbb:=hb _ (Value.ref (s1.heap.objs.size+1)::us) I2.kIn hl
 rw[List.append_nil]at hbb
 refine wpAny_call (make_map (f:=f) I1.kIn Mk'.makes Mk'.init (beq_iff_eq.mp Mk'.fn) (codeAny_mono (F.run _ X.stack _ _ ⟨Value.ref (s1.heap.objs.size+1)::us,[]⟩ (Value.ref (s1.heap.objs.size+1)::us) _ _ (M.E σ) (hr.make D us [])
  (I2.env0.make D us []) hbb r2 hq1) fun r s' hq'=>?_))
 cases r with
 | error e=>exact M.hx σ pins _ _ e s' I2 hq'
 | ok fl=>
  cases fl with
  | ret u=>
   obtain⟨v,H',I3,rv,ev,q3⟩:=I2.after hq'
   subst ev
   exact⟨rv,⟨V.ref (s1.heap.objs.size+1),H',I3,rfl,q3⟩⟩
  | next=>exact False.elim hq'
  | brk=>exact False.elim hq'
  | cont=>exact False.elim hq'
theorem Gg{M:Mode C X}{cl:String}{n:Nat}{g:Fn}{args:List Val}{vs:List V}{Q:VK}(r:SR C Z loc s sv H)(q:bc C.cA Z loc args vs)(hn:args.length+1=n)
  (h:EPost C Z loc sv (FZ s.st.length (M.call g (.r s.st.length::args) ⟨s.sg,s.st++[.ins cl []]⟩)) Q):
  ∀ y dx,H y=none→H dx=none→dx≠y→eF C.cA n g (.ref y::vs) (upd (upd H dx (.own y)) y (.ins (C.cA cl) dx [])) (fun v H2=>v=.non∧Q (.ref y) H2) (M.E sv):=by
 intro y dx hy hdx ne
 have hy':upd H dx (.own y) y=none:=by rw[upd_ne (Ne.symm ne)];exact hy
 have r1:=(r.grow (dQ (o:=.own y) hdx)).grow (dQ (o:=.ins (C.cA cl) dx []) hy')
 have fr:Free C Z loc s sv y:=r.free hy
 obtain⟨g1,r2,q2⟩:=r1.alloc (o:=.ins cl []) (by simp) ⟨dx,[],upd_same,rfl⟩ fr
 refine M.sp (args:=.r s.st.length::args) r2 ⟨.ref y,vs,rfl,q2,bc.mono g1 args q⟩ (by simpa using hn) ?_
 have h:=EPost.ext h g1
 cases e:M.call g (.r s.st.length::args) ⟨s.sg,s.st++[.ins cl []]⟩with
 | stuck=>rw[e]at h;exact h
 | exc x s2=>rw[e]at h;exact h
 | ok rv s2=>
  rw[e]at h
  cases rv with
  | own i=>exact h.elim
  | new o=>exact h.elim
  | val x=>
   cases x with
   | r n=>exact h.elim
   | tp l=>exact h.elim
   | d d=>
    cases d with
    | non=>
     intro Z' l' H' v g' r' q'
     exact⟨q',h Z' l' H' _ g' r' (c7.mono g' _ q2)⟩
    | _=>exact h.elim
theorem Iz{M:Mode C X}{k:Nat}{fA:Addr}{fd:FuncData}{ps:List Str}{cl:String}{g:Fn}(Mk':Mk X.K (C.cA cl) fA)(F:FnOk X.prog X.w X.K X.mg X.base M.CX k fA fd ps (eF C.cA ps.length g))(hr:Room (k+1) X.A)(hg:Gl X (Str.ofString cl))(hm:X.mg (Str.ofString cl)=some (.ref (C.cA cl)))(hb:Binds X.K fd ps [])
  (ha:PA X (e::es) (eR C fs)) (hdb:((Str.ofString cl)==("__debug__":Str))=false) (hs:(e::es).all notStar=true):PE X (.Call (.Name (Str.ofString cl) p) (e::es) [] pos) (aA C (Cn M.call cl ps.length fs g)):=by
 have hs':=hs
 simp only[List.all_cons,Bool.and_eq_true]at hs
 refine c6 (Bg (M:=M) Mk' F hr hg hm hb ha hdb (di hs.1) (ik hs.2)) fun sv H Q h=>(eR.at h).imp fun vs H1 ⟨Z,loc,s,xs,r,q,h⟩=>?_
 cases e1:bI xs s with
 | stuck=>rw[e1]at h;exact h.elim
 | exc x s1=>exact absurd e1 ie
 | ok args s1=>
  rw[e1]at h
  simp only[Res.bind]at h
  obtain⟨Z1,g1,r1,q1⟩:=r.bI q e1
  split at h
  ·rename_i hn
   exact Gg (M:=M) r1 q1 hn (EPost.ext h g1)
  ·exact h.elim
theorem EU{T:List (String×String)}{n:String}(op:Bop)(F:qg X.K C.cA T)(ho:PE X o (aA C fo))(hv:PE X v (aA C fv)):PS X (.AugAssign (.Attribute o (Str.ofString n) pos') op.py v pos) (fK C (lU T n op fo fv)):=by
 cases ha:zo op with
 | none=>
  refine iC ps_never fun D sv H ⟨Z,loc,s,r,q⟩=>?_
  unfold lU at q
  rw[ha]at q
  exact q.elim
 | some g=>
  have hp:InOp X op.py (ipI g):=by
   cases op<;> simp[zo]at ha
   ·subst ha;exact ip_add
   ·subst ha;exact ip_sub
  refine iC (ps_fldaug ho hv hp) fun D sv H ⟨Z,loc,s,r,q⟩=>?_
  unfold lU at q
  rw[ha]at q
  refine(aA.xy r q).imp fun u H1 ⟨Z1,l1,s1,y,g1,r1,st1,q1,h1⟩=>?_
  split at h1
  ·rename_i c fs e2
   split at h1
   ·rename_i hT
    simp only[Bool.and_eq_true,decide_eq_true_eq]at hT
    split at h1
    ·rename_i a e3
     obtain⟨ad,rfl,_,dx,ws,hz,qf⟩:=r1.ob q1 e2
     obtain⟨f1,f2⟩:=F c n (by simpa using hT.1)
     obtain⟨w,l,qw⟩:=vd qf e3
     refine⟨ad,C.cA c,dx,ws,w,rfl,hz,f1,f2,l,(aA.xy r1 h1).imp fun b H2 ⟨Z2,l2,s2,y2,g2,r2,st2,q2,h2⟩=>?_⟩
     have q1':=q1.mono (s':=s2) (H':=H2) g2 st1
     split at h2
     ·rename_i bi c' fs' e4 e5
      split at h2
      ·rename_i hc
       obtain⟨ad',h3,_,dx',ws',hz',qf'⟩:=r2.ob q1' e5
       cases h3
       refine⟨a,bi,qw,r2.dv q2 e4,dx',ws',?_,by rw[←Ca qf'];exact hc.2,?_⟩
       ·rw[←hc.1];exact hz'
       ·have r5:=r2.write (o':=.ins c (tu n (.d (.int (g a bi))) fs')) (u:=.ins (C.cA c) dx' (putF (Str.ofString n) (.int (g a bi)) ws')) q1' e5 rfl (by simp) (fun x w z=>by rw[hz']at z;cases z) ⟨dx',_,upd_same,xf (x:=.d (.int (g a bi))) rfl qf'⟩
        exact dk.nx h2 r5
      ·exact h2.elim
     ·exact h2.elim
    ·exact h1.elim
   ·exact h1.elim
  ·exact h1.elim
end
end Vw
namespace Vw
open PySem L2 PyProof.Rows
section
variable{C:Cst}{X:Cx}{e a b c o v:Expr}{es:List Expr}{p p2 pos pos' apos pt:Pos}{f fa fb fc fo fi fv:State→Res RV}{fs:State→Res (List RV)}{cA:String→Addr}
theorem cL{k n:Nat}{fA:Addr}{fd:FuncData}{ps:List Str}{cl m:String}{g:Fn}{pl:Sem Bool}(hC:C.cA=cA)(M:Mode C X)(c:Cls X.K (cA cl))(hm:Meth X.K (cA cl) (Str.ofString m) fA)(F:FnOk X.prog X.w X.K X.mg X.base M.CX k fA fd ps (eF cA n g))(hr:Room k X.A)(hb:Binds X.K fd ps [])(hn:ps.length=n)(he:PE X o (aA C fo))(ha:PA X (e::es) (eR C fs))
  (hs:(e::es).all notStar=true)
  (ht:eval (.Call (.Attribute o (Str.ofString m) apos) (e::es) [] pos) X.env=(do
   let ov ←eval o X.env
   standAt apos.atName
   let (f,first) ←holding [ov] (getMethod ov (Str.ofString m) pl)
   callWith pos f first (backTo pos (starEach (e::es) X.env)) (backToKw pos (keywordEach [] X.env)))):
  PE X (.Call (.Attribute o (Str.ofString m) apos) (e::es) [] pos) (aA C (cw M.call cl m n fo fs g)):=by
 subst hC hn
 exact GU he c hm F hr hb ha hs ht
theorem mO{k n:Nat}{fA:Addr}{fd:FuncData}{ps:List Str}{cl m:String}{g:Fn}{pl:Sem Bool}(hC:C.cA=cA)(M:Mode C X)(c:Cls X.K (cA cl))(hm:Meth X.K (cA cl) (Str.ofString m) fA)(F:FnOk X.prog X.w X.K X.mg X.base M.CX k fA fd ps (eF cA n g))(hr:Room k X.A)(hb:Binds X.K fd ps [])(hn:ps.length=n)(he:PE X o (aA C fo))
  (ht:eval (.Call (.Attribute o (Str.ofString m) apos) [] [] pos) X.env=(do
   let ov ←eval o X.env
   standAt apos.atName
   let (f,first) ←holding [ov] (getMethod ov (Str.ofString m) pl)
   callWith pos f first (backTo pos (starEach [] X.env)) (backToKw pos (keywordEach [] X.env)))):
  PE X (.Call (.Attribute o (Str.ofString m) apos) [] [] pos) (aA C (cw M.call cl m n fo (aC []) g)):=by
 subst hC hn
 exact FD he c hm F hr hb ht
theorem Jp{k n:Nat}{fA:Addr}{fd:FuncData}{ps:List Str}{cl:String}{g:Fn}(hC:C.cA=cA)(M:Mode C X)(Mk':Mk X.K (cA cl) fA)(F:FnOk X.prog X.w X.K X.mg X.base M.CX k fA fd ps (eF cA n g))(hr:Room (k+1) X.A)(hg:Gl X (Str.ofString cl))(hm:X.mg (Str.ofString cl)=some (.ref (cA cl)))(hb:Binds X.K fd ps [])(hn:ps.length=n)
  (ha:PA X (e::es) (eR C fs)) (hdb:((Str.ofString cl)==("__debug__":Str))=false) (hs:(e::es).all notStar=true):PE X (.Call (.Name (Str.ofString cl) p) (e::es) [] pos) (aA C (Cn M.call cl n fs g)):=by
 subst hC hn
 exact Iz Mk' F hr hg hm hb ha hdb hs
theorem jk{T:List (String×String)}{n:String}(hC:C.cA=cA)(F:qg X.K cA T)(he:PE X e (aA C f))(hb:attributeBase e (Str.ofString n) X.env (eval e X.env)=eval e X.env):PE X (.Attribute e (Str.ofString n) pos) (aA C (jC T n f)):=by
 subst hC
 exact HC F he hb
theorem Aa{T:List (String×String)}{n:String}(hC:C.cA=cA)(F:qg X.K cA T)(ho:PE X o (aA C fo))(hv:PE X v (aA C fv))(hc:jF v=true):PS X (.Assign [.Attribute o (Str.ofString n) pos'] v pos) (fK C (wC T n fo fv)):=by
 subst hC
 exact EY F ho hv hc
theorem tS{T:List (String×String)}{n:String}(hC:C.cA=cA)(F:qg X.K cA T)(ho:PE X o (aA C fo))(hv:PE X v (aA C fv)):PS X (.AugAssign (.Attribute o (Str.ofString n) pos') .Add v pos) (fK C (lU T n .add fo fv)):=by
 subst hC
 exact EU .add F ho hv
end
abbrev Aj:Type:=He.AlD×Bool
def z1(K:PySem.W.Frag)(x:String):Addr:=He.ga K (Str.ofString x)
def A9(K:PySem.W.Frag)(T:List (String×String)):Bool:=T.all fun p=>(He.Fa.cls (Str.ofString p.1)).ok K&&decide (PySem.W.findIn K (.ref (z1 K p.1)) (Str.ofString p.2)=some none)
theorem DD{K:PySem.W.Frag}{T:List (String×String)}(h:A9 K T=true):qg K (z1 K) T:=fun c f hc=>by
 obtain⟨q1,q2⟩:=Bool.and_eq_true_iff.mp (List.all_eq_true.mp h (c,f) hc)
 have q3:=of_decide_eq_true q2
 exact⟨He.cls_ok q1,q3⟩
def IQ(K:PySem.W.Frag)(x:String):Bool:=(He.Fa.exc (Str.ofString x)).ok K
theorem Dl{K:PySem.W.Frag}{x:String}(h:IQ K x=true):ExF K (z1 K x):=by
 obtain⟨a,b,c,d⟩:=He.exc_ok h
 exact⟨a,b,c,d⟩
end Vw
namespace L2
open PySem PySem.Spec PyProof.Rows
end L2
namespace Vw
open PySem L2 PyProof.Rows
def Ju(x y:RV)(s:State):Res RV:=
 match lv s x,dv s y with
 | some l,some (.int k)=>if-(2^63)≤k∧k<2^63∧l.length*k.toNat≤sizeLine then .ok (.new (.lst (List.replicate k.toNat l).flatten)) s else .stuck
 | _,_=>.stuck
def Iv(x y:RV)(s:State):Res RV:=
 match dv s x,dv s y with
 | some (.bl a),some (.bl b)=>a0 (.bl (decide (a=b))) s
 | _,_=>.stuck
def GP(x y:RV)(s:State):Res RV:=
 match dv s x,dv s y with
 | some (.bl a),some (.bl b)=>a0 (.bl (!decide (a=b))) s
 | _,_=>.stuck
def HJ(f:State→Res RV)(s:State):Res RV:=(ev f s).bind fun r s=>
 match dv s r with
 | some (.str t)=>if t.length≤sizeLine then a0 (.str t.reverse) s else .stuck
 | _=>match lv s r with
  | some l=>.ok (.new (.lst l.reverse)) s
  | none=>.stuck
section
variable{C:Cst}{Z Z' Zc:Hp}{loc loc':List Addr}{s s':State}{sv sv':L2.St}{H H':Hp}
variable{X:Cx}{e a b c o v:Expr}{es:List Expr}{p p2 pos pos' apos pt:Pos}{f fa fb fc fo fi fv:State→Res RV}{fs:State→Res (List RV)}{cA:String→Addr}
theorem xF(hC:C.cA=cA){t:Tg}{tg it:Expr}{b:List Stmt}{sb:State→Res Fl}{src:State→Res (List Val)}(hp:PassesOwn (model X.prog X.w) X.A X.env X.xe)(hc:X.calm=true)(hi:PI X tg it (kB C src))
  (hg:∀ C':Cst,C'.cA=cA→C'.W=C.W→PG X tg (pF C' t)) (hb:∀ C':Cst,C'.cA=cA→C'.W=C.W→PSs X b (fK C' sb)) (hs:d0 it=true):PS X (.For tg it b [] pos) (fK C (nW t src sb)):=
 Gk hp hc hi (fun C' h=>hg C' (h.ca.trans hC) h.w) (fun C' h=>hb C' (h.ca.trans hC) h.w) hs
end
def CA:CXT:=fun outer H s E u s'=>∃ P w,L2.CX P w outer H s E u s'
theorem EZ(H:Hp)(s:Shared)(e:Value)(s':Shared)(h:CA [] H s (fun _ _ _=>False) e s'):False:=by
 obtain⟨P,w,h⟩:=h
 obtain⟨_,_,_,_,_,_,_,_,_,_,_,_,z⟩:=h
 exact z.elim
theorem Fq{P:Program}{w:World}{K:PySem.W.Frag}{mg:Str→Option Value}{base:Heap}{k:Nat}{f:Addr}{fd:FuncData}{ps:List Str}{sp:Sp}(F:FnOk P w K mg base (L2.CX P w) k f fd ps sp):FnOk P w K mg base CA k f fd ps sp:=
 ⟨F.len,fun A outer s H args us vs Q E hr e0 b r h=>codeAny_mono (F.run A outer s H args us vs Q E hr e0 b r h) fun r s' q=>by
  cases r with
  | error e=>exact⟨P,w,q⟩
  | ok fl=>cases fl<;> exact q⟩
end Vw
namespace Vw
open PySem L2
section
variable{C:Cst}{Z Z':Hp}{loc loc':List Addr}{s s':State}{sv sv':L2.St}{H H':Hp}
def nL(s:State)(x:RV):Option (List Val):=
 match x with
 | .new (.lst m)=>some m
 | _=>match ob s x with
  | some (.lst m)=>some m
  | _=>none
def ue(o:RV)(rs:List RV)(s:State):Res RV:=
 match rs with
 | [x]=>match nL s x,ob s o with
  | some m,some (.lst l)=>if l.length+m.length≤sizeLine then .ok (.val (.d .non)) (wr o (.lst (l++m)) s)else .stuck
  | _,_=>.stuck
 | _=>.stuck
def Iq(fo fe:State→Res RV)(s:State):Res RV:=(ev fo s).bind fun o s=>if ij s o then(fe s).bind fun x s=>ue o [x] s else .stuck
def uv(rs:List RV)(s:State):Res RV:=
 match rs with
 | [x]=>match dv s x with
  | some (.int i)=>a0 (.int i) s
  | some (.bl k)=>a0 (.int (if k then 1 else 0)) s
  | _=>.stuck
 | _=>.stuck
theorem ui:uu C uv (fun xs H Q=>(∃ i,xs=[.int i]∧Q (.int i) H)∨∃ k,xs=[.bl k]∧Q (.int (if k then 1 else 0)) H):=by
 intro Z loc s sv H rs vs Q r q h
 unfold uv at h
 split at h
 ·split at h
  ·rename_i i e
   obtain⟨v,rfl,rfl⟩:=Cd r q e
   exact .inl ⟨i,rfl,h.a0 r rfl⟩
  ·rename_i k e
   obtain⟨v,rfl,rfl⟩:=Cd r q e
   exact .inr ⟨k,rfl,h.a0 r rfl⟩
  ·exact h.elim
 ·exact h.elim
@[simp] theorem Ig(o x:RV)(s:State):ue o [x] s=(match nL s x,ob s o with
  | some m,some (.lst l)=>if l.length+m.length≤sizeLine then .ok (.val (.d .non)) (wr o (.lst (l++m)) s)else .stuck
  | _,_=>.stuck):=id rfl
@[simp] theorem J0(fo fe:State→Res RV)(s:State):Iq fo fe s=(ev fo s).bind fun o s=>if ij s o then(fe s).bind fun x s=>ue o [x] s else .stuck:=id rfl
@[simp] theorem LB(m:List Val)(s:State):nL s (.new (.lst m))=some m:=id rfl
end
end Vw
namespace Vw
open PySem L2 PyProof.Rows
def kM(f:Val→Option D):List Val→Option (List D)
 | []=>some []
 | x::l=>match f x,kM f l with
  | some d,some ds=>some (d::ds)
  | _,_=>none
def zl(f:Val→Option D):List (String×Val)→Option (List (String×D))
 | []=>some []
 | (k,x)::l=>match f x,zl f l with
  | some d,some ds=>some ((k,d)::ds)
  | _,_=>none
def ye(f:Val→Option D):Ob→Option D
 | .lst l=>(kM f l).map .lst
 | .ins c fs=>(zl f fs).map (.ins c)
 | _=>none
def frz:Nat→State→Val→Option D
 | 0,_,v=>match v with
  | .d x=>some x
  | _=>none
 | n+1,s,v=>match v with
  | .d x=>some x
  | .tp l=>(kM (frz n s) l).map .tup
  | .r m=>match s.st[m]? with
   | some o=>ye (frz n s) o
   | none=>none
def qd(n:Nat)(s:State)(r:RV):Option D:=
 match jJ s r with
 | .val v=>frz n s v
 | .own i=>match s.sg[i]? with
  | some (some (.own o))=>ye (frz n s) o
  | _=>none
 | _=>none
def eqQ(n:Nat)(s:State)(x y:RV):Option Bool:=
 match qd n s x,qd n s y with
 | some a,some b=>if dM a b then some (iy a b)else none
 | _,_=>none
def nE(n:Nat)(neg:Bool)(x y:RV)(s:State):Res RV:=
 match eqQ n s x y with
 | some b=>a0 (.bl (xor neg b)) s
 | none=>.stuck
section
variable{C:Cst}{Z Z' Zc:Hp}{loc loc':List Addr}{s s':State}{sv sv':L2.St}{H H':Hp}
variable{X:Cx}{e a b c o:Expr}{es:List Expr}{p pos apos:Pos}{f fa fb fc fo fi fv:State→Res RV}
theorem GoodZ.add(g:GoodZ Z H Zc){a:Addr}{u:HO}(z:Z a=none)(h1:H a=some u)(h4:oG u=false):∃ Zd,Same Zc Zd∧GoodZ Z H Zd∧Zd a=some u:=by
 cases ez:Zc a with
 | none=>
  refine⟨upd Zc a u,dQ ez,⟨g.up.trans (dQ ez),fun b w hb=>?_⟩,upd_same⟩
  by_cases hba:b=a
  ·subst hba
   rw[upd_same]at hb
   cases hb
   exact .inr ⟨h1,h4⟩
  ·rw[upd_ne hba]at hb
   exact g.at_ b w hb
 | some w=>
  have hw:w=u:=by
   rcases g.at_ a w ez with q | ⟨q,_⟩
   ·rw[z]at q;cases q
   ·rw[h1]at q;cases q;rfl
  subst hw
  exact⟨Zc,Same.refl _,g,ez⟩
def Fz(C:Cst)(Z:Hp)(loc:List Addr)(H:Hp)(f:Val→Option D):Prop:=∀ (Zc:Hp) (x:Val) (v:V) (d:D),GoodZ Z H Zc→c7 C.cA Z loc x v→f x=some d→∃ Zd,Same Zc Zd∧GoodZ Z H Zd∧cu C.cA Zd d v
theorem uR{f:Val→Option D}(hf:Fz C Z loc H f):∀ {Zc:Hp} {l:List Val} {vs:List V} {ds:List D},GoodZ Z H Zc→bc C.cA Z loc l vs→kM f l=some ds→∃ Zd,Same Zc Zd∧GoodZ Z H Zd∧dC C.cA Zd ds vs
 | Zc,[],vs,ds,g,h,e=>by cases e;exact⟨Zc,Same.refl _,g,h⟩
 | Zc,x::l,vs,ds,g,⟨v,t,e1,q,h⟩,e=>by
  unfold kM at e
  split at e
  ·rename_i d ds' e2 e3
   cases e
   obtain⟨Z1,s1,g1,r1⟩:=hf Zc x v d g q e2
   obtain⟨Z2,s2,g2,r2⟩:=uR hf g1 h e3
   exact⟨Z2,s1.trans s2,g2,v,t,e1,cu.mono s2 d r1,r2⟩
  ·cases e
theorem yu{f:Val→Option D}(hf:Fz C Z loc H f):∀ {Zc:Hp} {l:List (String×Val)} {vs:List (Str×V)} {ds:List (String×D)},GoodZ Z H Zc→gh C.cA Z loc l vs→zl f l=some ds→∃ Zd,Same Zc Zd∧GoodZ Z H Zd∧iV C.cA Zd ds vs
 | Zc,[],vs,ds,g,h,e=>by cases e;exact⟨Zc,Same.refl _,g,h⟩
 | Zc,(k,x)::l,vs,ds,g,⟨v,t,e1,q,h⟩,e=>by
  unfold zl at e
  split at e
  ·rename_i d ds' e2 e3
   cases e
   obtain⟨Z1,s1,g1,r1⟩:=hf Zc x v d g q e2
   obtain⟨Z2,s2,g2,r2⟩:=yu hf g1 h e3
   exact⟨Z2,s1.trans s2,g2,v,t,e1,cu.mono s2 d r1,r2⟩
  ·cases e
theorem yz{f:Val→Option D}(hf:Fz C Z loc H f){o:Ob}{a:Addr}{d:D}(g:GoodZ Z H Zc)(cell:Cell C.cA Z loc H a o)(z:Z a=none)(e:ye f o=some d):∃ Zd,Same Zc Zd∧GoodZ Z H Zd∧cu C.cA Zd d (.ref a):=by
 cases o with
 | lst l=>
  obtain⟨ds,e1,rfl⟩:=Option.map_eq_some_iff.mp e
  obtain⟨xs,h1,h2⟩:=cell
  obtain⟨Z1,s1,g1,r1⟩:=uR hf g h2 e1
  obtain⟨Z2,s2,g2,h3⟩:=g1.add z h1 rfl
  exact⟨Z2,s1.trans s2,g2,a,xs,rfl,.inl h3,dC.mono s2 ds r1⟩
 | ins c fs=>
  obtain⟨ds,e1,rfl⟩:=Option.map_eq_some_iff.mp e
  obtain⟨dx,xs,h1,h2⟩:=cell
  obtain⟨Z1,s1,g1,r1⟩:=yu hf g h2 e1
  obtain⟨Z2,s2,g2,h3⟩:=g1.add z h1 rfl
  exact⟨Z2,s1.trans s2,g2,a,dx,xs,rfl,h3,iV.mono s2 ds r1⟩
 | dic k l=>cases e
 | dit k l=>cases e
 | gone=>cases e
theorem ti(r:SR C Z loc s sv H):∀ n:Nat,Fz C Z loc H (frz n s)
 | 0=>fun Zc x v d g q e=>by
  cases x with
  | d y=>cases e;exact⟨Zc,Same.refl _,g,cu.mono g.up _ q⟩
  | r m=>cases e
  | tp l=>cases e
 | n+1=>fun Zc x v d g q e=>by
  cases x with
  | d y=>cases e;exact⟨Zc,Same.refl _,g,cu.mono g.up _ q⟩
  | r m=>
   have e':(match s.st[m]? with
    | some o=>ye (frz n s) o
    | none=>none)=some d:=e
   split at e'
   ·rename_i o h1
    obtain⟨a,h2,rfl⟩:=q
    have ne:o≠ .gone:=fun z=>by subst z;cases e'
    obtain⟨c1,c2⟩:=r.cl m a o h2 h1 ne
    exact yz (ti r n) g c1 c2 e'
   ·cases e'
  | tp l=>
   have e':(kM (frz n s) l).map D.tup=some d:=e
   obtain⟨ds,e1,rfl⟩:=Option.map_eq_some_iff.mp e'
   obtain⟨a,vs,rfl,h1,h2⟩:=q
   obtain⟨Z1,s1,g1,r1⟩:=uR (ti r n) g h2 e1
   exact⟨Z1,s1,g1,a,vs,rfl,g1.up _ _ h1,r1⟩
theorem SR.qd(r:SR C Z loc s sv H)(n:Nat)(g:GoodZ Z H Zc){rv:RV}{v:V}{d:D}(h:da C Z loc s sv H rv v)(e:Vw.qd n s rv=some d):∃ Zd,Same Zc Zd∧GoodZ Z H Zd∧cu C.cA Zd d v:=by
 have q:=r.jJ h
 unfold Vw.qd at e
 split at e
 ·rename_i x e1
  rw[e1]at q
  exact ti r n Zc x v d g q e
 ·rename_i i e1
  rw[e1]at q
  split at e
  ·rename_i o e2
   obtain⟨a,h1,h2,h3,h4,_⟩:=r.ow i _ e2
   rw[show sv[i]? =some (some v)from q]at h1
   cases h1
   exact yz (ti r n) g h3 h4 e
  ·cases e
 ·cases e
theorem I6(n:Nat)(neg:Bool):tQ C (nE n neg) (Ct X.K neg):=by
 intro Z loc s sv H x y u v Q r hx hy h
 unfold nE at h
 split at h
 ·rename_i b e
  unfold eqQ at e
  split at e
  ·rename_i d d' e1 e2
   split at e
   ·rename_i hc
    cases e
    simp only[dM,Bool.and_eq_true,decide_eq_true_eq]at hc
    obtain⟨Z1,s1,g1,r1⟩:=r.qd n (GoodZ.refl) hx e1
    obtain⟨Z2,s2,g2,r2⟩:=r.qd n g1 hy e2
    have L:=r.look g2 (fun _ _ _=>False)
    exact⟨pd d,pd d',wy L d (cu.mono s2 d r1) hc.1.1,wy L d' r2 hc.1.2,hc.1.1,hc.1.2,hc.2,h.a0 r rfl⟩
   ·cases e
  ·cases e
 ·exact h.elim
theorem F1{n:Nat}(hu:X.A.units+64<cLine)(ha:PE X a (aA C fa))(hb:PE X b (aA C fb))(hm:d0 b=true):PT X (.Compare a [.NotEq] [b] pos) (e6 C (cB (ai fa fb (nE n true)))):=rq (pt_cmpR (Gb hu) ha hb (pq hm)) fun sv H Q q=>tK (I6 n true) (toB q)
end
end Vw
namespace Vw
open PySem L2 PyProof.Rows
end Vw
namespace Vw
open PySem L2 PyProof.Rows
def oW:List Val→Option (List D)
 | []=>some []
 | .d x::r=>(oW r).map (x:: ·)
 | _::_=>none
def uN(r:Res RV)(s:State):Res RV:=
 match r with
 | .ok (.val (.d x)) _=>.ok (.val (.d x)) s
 | .ok (.new o) _=>if o.toD.isSome then .ok (.new o) s else .stuck
 | .exc x _=>.exc x s
 | _=>.stuck
def tA(n:Nat)(fs:State→Res (List RV))(g:Fn)(s:State):Res RV:=(fs s).bind fun rs s=>(bI rs s).bind fun args s=>match oW args with
 | some ds=>if ds.length=n then uN (g (ds.map .d) []) s else .stuck
 | none=>.stuck
theorem sQ:∀ {l:List Val} {ds:List D},oW l=some ds→l=ds.map .d
 | [],ds,h=>by cases h;rfl
 | .d x::r,ds,h=>by
  obtain⟨t,e,rfl⟩:=Option.map_eq_some_iff.mp h
  rw[List.map_cons,←sQ e]
 | .r n::r,ds,h=>by cases h
 | .tp l::r,ds,h=>by cases h
section
variable{C:Cst}{Z Z' Zc:Hp}{loc loc' l':List Addr}{s s':State}{sv sv':L2.St}{H H':Hp}
variable{X:Cx}{e a b c o:Expr}{es:List Expr}{p pos apos:Pos}{f fa fb fc fo fi fv:State→Res RV}
theorem yT{cA:String→Addr}:∀ {ds:List D} {vs:List V},bc cA Z loc (ds.map .d) vs→bc cA Z loc' (ds.map .d) vs
 | [],vs,h=>h
 | d::ds,vs,⟨v,t,e,q,h⟩=>⟨v,t,e,q,yT h⟩
theorem tT{cA:String→Addr}:∀ {l:List Val} {vs:List V} {ds:List D},toDs l=some ds→bc cA Z loc l vs→bc cA Z loc' l vs
 | [],vs,ds,e,h=>h
 | .d x::l,vs,ds,e,⟨v,t,e1,q,h⟩=>by
  obtain⟨t',e',_⟩:=Option.map_eq_some_iff.mp e
  exact⟨v,t,e1,q,tT e' h⟩
 | .r n::l,vs,ds,e,h=>by cases e
 | .tp m::l,vs,ds,e,h=>by cases e
theorem si{cA:String→Addr}:∀ {l:List (K0×Val)} {vs:List (Key×V)} {ds:List (K0×D)},toDK l=some ds→eD cA Z loc l vs→eD cA Z loc' l vs
 | [],vs,ds,e,h=>h
 | (k,.d x)::l,vs,ds,e,⟨v,t,e1,q,h⟩=>by
  obtain⟨t',e',_⟩:=Option.map_eq_some_iff.mp e
  exact⟨v,t,e1,q,si e' h⟩
 | (k,.r n)::l,vs,ds,e,h=>by cases e
 | (k,.tp m)::l,vs,ds,e,h=>by cases e
theorem rZ{cA:String→Addr}:∀ {l:List (List K0×Val)} {vs:List (List Key×V)} {ds:List (List K0×D)},toDK l=some ds→eJ cA Z loc l vs→eJ cA Z loc' l vs
 | [],vs,ds,e,h=>h
 | (k,.d x)::l,vs,ds,e,⟨v,t,e1,q,h⟩=>by
  obtain⟨t',e',_⟩:=Option.map_eq_some_iff.mp e
  exact⟨v,t,e1,q,rZ e' h⟩
 | (k,.r n)::l,vs,ds,e,h=>by cases e
 | (k,.tp m)::l,vs,ds,e,h=>by cases e
theorem rY{cA:String→Addr}:∀ {l:List (String×Val)} {vs:List (Str×V)} {ds:List (String×D)},toDK l=some ds→gh cA Z loc l vs→gh cA Z loc' l vs
 | [],vs,ds,e,h=>h
 | (k,.d x)::l,vs,ds,e,⟨v,t,e1,q,h⟩=>by
  obtain⟨t',e',_⟩:=Option.map_eq_some_iff.mp e
  exact⟨v,t,e1,q,rY e' h⟩
 | (k,.r n)::l,vs,ds,e,h=>by cases e
 | (k,.tp m)::l,vs,ds,e,h=>by cases e
theorem A5{cA:String→Addr}{a:Addr}:∀ {o:Ob} {d:D},o.toD=some d→Cell cA Z loc H a o→Cell cA Z loc' H a o
 | .lst l,d,e,⟨xs,h,q⟩=>by
  obtain⟨ds,e1,_⟩:=Option.map_eq_some_iff.mp e
  exact⟨xs,h,tT e1 q⟩
 | .dic false l,d,e,⟨ws,h,q⟩=>by
  obtain⟨ds,e1,_⟩:=Option.map_eq_some_iff.mp e
  exact⟨ws,h,si e1 q⟩
 | .dit false l,d,e,⟨ws,h,q⟩=>by
  obtain⟨ds,e1,_⟩:=Option.map_eq_some_iff.mp e
  exact⟨ws,h,rZ e1 q⟩
 | .ins c l,d,e,⟨dx,ws,h,q⟩=>by
  obtain⟨ds,e1,_⟩:=Option.map_eq_some_iff.mp e
  exact⟨dx,ws,h,rY e1 q⟩
 | .dic true l,d,e,_=>by cases e
 | .dit true l,d,e,_=>by cases e
 | .gone,d,e,_=>by cases e
theorem SR.n4(r:SR C Z loc s sv H){E:XK}{st:List Ob}(g:Ext Z [] Z' l')(r':SR (fL C.cA (gP H Z []) C.H0 E) Z' l' ⟨[],st⟩ [] H'):SR C Z' loc s sv H':=by
 have gz:Ext Z loc Z' loc:=⟨g.1,[],by simp⟩
 have z0:∀ {a:Addr} {u:HO},Z a=none→H a=some u→Z' a=none∧H' a=some u:=fun {a u} h1 h2=>by
  have f:=(ot (H:=H) (loc:=[]) h1 (by simp)).trans h2
  exact⟨(r'.l0 (a:=a) f).1,r'.fr a u f⟩
 have ne:∀ {a:Addr},H a≠none→H' a≠none:=fun {a} h=>by
  cases eh:H a with
  | none=>exact absurd eh h
  | some u=>
   cases ez:Z a with
   | none=>rw[(z0 ez eh).2];simp
   | some w=>exact uM (r'.zh a w (g.1 a w ez))
 refine⟨fun a o h=>?_,r'.zh,fun a o h=>?_,r'.lk,r.ln,r.nd,fun a h=>⟨ne (r.lh a h).1,(r.lh a h).2⟩,fun n a o h1 h2 h3=>?_,fun i x h=>?_,fun i o h=>?_,r.oi,r.ls⟩
 ·exact(z0 (r.l0 h).1 (r.fr a o h)).2
 ·cases e:C.Fr a with
  | none=>rfl
  | some u=>rw[(z0 (r.l0 e).1 (r.fr a u e)).1]at h;cases h
 ·obtain⟨q1,q2⟩:=r.cl n a o h1 h2 h3
  cases eh:H a with
  | none=>exact absurd eh (jM h3 q1)
  | some u=>
   obtain⟨w1,w2⟩:=z0 q2 eh
   exact⟨(q1.at (w2.trans eh.symm)).mono gz (Same.refl _),w1⟩
 ·obtain⟨v,q1,q2⟩:=r.vl i x h
  exact⟨v,q1,c7.mono gz x q2⟩
 ·obtain⟨a,q1,q2,q3,q4,q5,q6⟩:=r.ow i o h
  cases eh:H a with
  | none=>exact absurd eh (jM q2 q3)
  | some u=>
   obtain⟨w1,w2⟩:=z0 q4 eh
   exact⟨a,q1,q2,(q3.at (w2.trans eh.symm)).mono gz (Same.refl _),w1,q5,q6⟩
theorem da.n4(r:SR C Z loc s sv H){E:XK}{st:List Ob}(g:Ext Z [] Z' l')(r':SR (fL C.cA (gP H Z []) C.H0 E) Z' l' ⟨[],st⟩ [] H'){o:Ob}{v:V}(ho:o.toD.isSome=true)(q:da (fL C.cA (gP H Z []) C.H0 E) Z' l' ⟨[],st⟩ [] H' (.new o) v):da C Z' loc s sv H' (.new o) v:=by
 obtain⟨a,h1,h2,h3,h4⟩:=q
 obtain⟨d,hd⟩:=Option.isSome_iff_exists.mp ho
 have za:Z a=none:=by
  cases e:Z a with
  | none=>rfl
  | some w=>have:=g.1 a w e;rw[h4.z]at this;cases this
 have ha:H a=none:=by
  have:=h4.f
  exact(ot (H:=H) (loc:=[]) za (by simp)).symm.trans this
 refine⟨a,h1,h2,A5 hd h3,h4.z,?_,fun z=>(r.lh a z).1 ha,fun i o h e=>?_⟩
 ·cases e:C.Fr a with
  | none=>rfl
  | some u=>have:=r.fr a u e;rw[ha]at this;cases this
 ·obtain⟨b,q1,q2,q3,q4,q5,q6⟩:=r.ow i o h
  rw[e]at q1
  cases q1
  exact jM q2 q3 ha
theorem SR.I5(r:SR C Z loc s sv H)(E:XK):SR (fL C.cA (gP H Z []) C.H0 E) Z [] ⟨[],[]⟩ [] H:=r.look GoodZ.refl E
theorem DM{g:Fn}{n:Nat}{ds:List D}{vs:List V}{Q:VK}(r:SR C Z loc s sv H)(q:bc C.cA Z loc (ds.map .d) vs)(hn:ds.length=n)(h:EPost C Z loc sv (uN (g (ds.map .d) []) s) Q):eF C.cA n g vs H Q (WE C.W sv):=by
 refine⟨gP H Z [],C.H0,Z,[],ds.map .d,[],r.I5 _,yT q,by simpa using hn,?_⟩
 unfold uN at h
 cases e:g (ds.map .d) []with
 | stuck=>rw[e]at h;exact h
 | exc x s1=>
  rw[e]at h
  exact fun Z' l' H' c d g r' q'=>h Z' loc H' c d ⟨g.1,[],by simp⟩ (r.n4 g r') q'
 | ok rv s1=>
  rw[e]at h
  cases rv with
  | own i=>exact h.elim
  | val x=>
   cases x with
   | d x=>exact fun Z' l' H' v g r' q'=>h Z' loc H' v ⟨g.1,[],by simp⟩ (r.n4 g r') q'
   | r n=>exact h.elim
   | tp l=>exact h.elim
  | new o=>
   dsimp only at h
   split at h
   ·rename_i ho
    exact fun Z' l' H' v g r' q'=>h Z' loc H' v ⟨g.1,[],by simp⟩ (r.n4 g r') (da.n4 r g r' ho q')
   ·exact h.elim
theorem EW{k n:Nat}{fA:Addr}{fd:FuncData}{ps:List Str}{x:Str}{g:Fn}{fs:State→Res (List RV)}{cA:String→Addr}(hC:C.cA=cA)(tk:Takes X C.W)(F:FnOk X.prog X.w X.K X.mg X.base (L2.CX X.prog X.w) k fA fd ps (eF cA n g))(hr:Room k X.A)(hg:Gl X x)(hm:X.mg x=some (.ref fA))(hk:PySem.W.keepIn X.K (.ref fA)=true)
  (hb:Binds X.K fd ps []) (hn:ps.length=n) (ha:PA X (e::es) (eR C fs)) (hdb:(x==("__debug__":Str))=false) (hs:(e::es).all notStar=true):
  PE X (.Call (.Name x p) (e::es) [] pos) (aA C (tA n fs g)):=by
 subst hn hC
 have hs':=hs
 simp only[List.all_cons,Bool.and_eq_true]at hs
 refine c6 (pe_callS F hr hg hm hk hb (fun σ=>passAt tk σ) ha hdb (di hs.1) (ik hs.2)) fun sv H Q h=>(eR.at h).imp fun vs H1 ⟨Z,loc,s,xs,r,q,h⟩=>?_
 cases e1:bI xs s with
 | stuck=>rw[e1]at h;exact h.elim
 | exc x s1=>exact absurd e1 ie
 | ok args s1=>
  rw[e1]at h
  simp only[Res.bind]at h
  obtain⟨Z1,g1,r1,q1⟩:=r.bI q e1
  split at h
  ·rename_i ds e2
   split at h
   ·rename_i hn
    exact DM r1 (sQ e2▸q1) hn (EPost.ext h g1)
   ·exact h.elim
  ·exact h.elim
def x1(i:Nat)(s:State):State:=match jx i s with
 | .ok _ s'=>s'
 | _=>s
def CG(i:Nat)(b:State→Res Fl)(s:State):Res Fl:=match b s with
 | .ok .nx s'=>.ok .nx (x1 i s')
 | r=>r
theorem SR.fz(r:SR C Z loc s sv H)(i:Nat):∃ Z',Ext Z loc Z' loc∧SR C Z' loc (x1 i s) sv H:=by
 unfold x1
 cases e:Vw.jx i s with
 | exc x s1=>exact⟨Z,Ext.refl _ _,r⟩
 | stuck=>exact⟨Z,Ext.refl _ _,r⟩
 | ok x s1=>
  have e':=e
  unfold Vw.jx at e'
  split at e'
  ·rename_i o ho
   obtain⟨a,h1,_⟩:=r.ow i o ho
   obtain⟨Z',g,r',_⟩:=r.jx h1 e
   exact⟨Z',g,r'⟩
  ·rename_i x' hx
   cases e'
   exact⟨Z,Ext.refl _ _,r⟩
  ·cases e'
theorem Jk{i:Nat}{st:Stmt}{b:State→Res Fl}(h:PS X st (fK C b)):PS X st (fK C (CG i b)):=by
 refine iC h fun D sv H ⟨Z,loc,s,r,q⟩=>⟨Z,loc,s,r,?_⟩
 unfold CG at q
 cases e:b s with
 | stuck=>rw[e]at q;exact q
 | exc x s1=>rw[e]at q;exact q
 | ok f s1=>
  rw[e]at q
  cases f with
  | nx=>
   intro Z' l' sv' H' g r'
   obtain⟨Z2,g2,r2⟩:=r'.fz i
   exact q Z2 l' sv' H' (g.trans g2) r2
  | brk=>exact q
  | cnt=>exact q
  | ret rv=>exact q
end
end Vw
namespace Vw
open PySem L2 PyProof.Rows
end Vw
namespace Vw
open PySem L2 PyProof.Rows
end Vw
namespace L2
open PySem PySem.Spec PyProof.Rows
end L2
namespace Vw
open PySem L2 PyProof.Rows
end Vw
namespace Vw
open PySem L2 PyProof.Rows
def Cq:HO→Prop
 | .frz _ _=>False
 | _=>True
structure GoodY (Z H:Hp) (L:Addr→Prop) (Zc:Hp):Prop where
 up:Same Z Zc
 at_:∀ (a:Addr) (o:HO),Zc a=some o→Z a=some o∨(Z a=none∧Rz H a o∧L a∧Cq o)
section
variable{C:Cst}{Z Z' Zc Zd:Hp}{loc loc' l':List Addr}{L:Addr→Prop}{s s':State}{sv sv':L2.St}{H H':Hp}
variable{X:Cx}{e a b c o:Expr}{es:List Expr}{p pos apos:Pos}{f fa fb fc fo fi fv:State→Res RV}
theorem GoodY.refl:GoodY Z H L Z:=⟨Same.refl _,fun a o h=>.inl h⟩
theorem EC{a:Addr}{u w:HO}(h1:Rz H a u)(h2:Rz H a w)(n1:Cq u)(n2:Cq w):w=u:=by
 rcases h1 with h1 | ⟨_,o1,h1⟩
 ·rcases h2 with h2 | ⟨_,o2,h2⟩
  ·rw[h1]at h2;cases h2;rfl
  ·rw[h1]at h2;cases h2;exact n1.elim
 ·rcases h2 with h2 | ⟨_,o2,h2⟩
  ·rw[h1]at h2;cases h2;exact n2.elim
  ·rw[h1]at h2;cases h2;rfl
theorem GoodY.add(g:GoodY Z H L Zc){a:Addr}{u:HO}(z:Z a=none)(h1:Rz H a u)(hl:L a)(hn:Cq u):∃ Zd,Same Zc Zd∧GoodY Z H L Zd∧Zd a=some u:=by
 cases ez:Zc a with
 | none=>
  refine⟨upd Zc a u,dQ ez,⟨g.up.trans (dQ ez),fun b w hb=>?_⟩,upd_same⟩
  by_cases hba:b=a
  ·subst hba
   rw[upd_same]at hb
   cases hb
   exact .inr ⟨z,h1,hl,hn⟩
  ·rw[upd_ne hba]at hb
   exact g.at_ b w hb
 | some w=>
  have hw:w=u:=by
   rcases g.at_ a w ez with q | ⟨_,q,_,n⟩
   ·rw[z]at q;cases q
   ·exact EC h1 q hn n
  subst hw
  exact⟨Zc,Same.refl _,g,ez⟩
theorem SR.Ge(r:SR C Z loc s sv H)(k:Same Z Zd)(hn:∀ a u,Zd a=some u→Z a=some u∨(Rz H a u∧C.Fr a=none∧a∉loc∧∀ (i:Nat) (o:Ob),s.sg[i]? =some (some (.own o))→sv[i]? ≠some (some (.ref a)))):SR C Zd loc s sv H:=by
 have g:Ext Z loc Zd loc:=⟨k,[],by simp⟩
 refine⟨r.fr,fun a o h=>(hn a o h).elim (r.zh a o) fun q=>q.1,fun a o h=>(hn a o h).elim (r.zf a o) fun q=>q.2.1,r.lk,r.ln,r.nd,r.lh,fun n a o h1 h2 h3=>?_,fun i x h=>?_,fun i o h=>?_,r.oi,r.ls⟩
 ·obtain⟨q1,q2⟩:=r.cl n a o h1 h2 h3
  refine⟨q1.mono g (Same.refl _),?_⟩
  cases e:Zd a with
  | none=>rfl
  | some u=>
   rcases hn a u e with q | ⟨_,_,q,_⟩
   ·rw[q2]at q;cases q
   ·exact absurd (List.mem_of_getElem? h1) q
 ·obtain⟨v,q1,q2⟩:=r.vl i x h
  exact⟨v,q1,c7.mono g x q2⟩
 ·obtain⟨a,q1,q2,q3,q4,q5,q6⟩:=r.ow i o h
  refine⟨a,q1,q2,q3.mono g (Same.refl _),?_,q5,q6⟩
  cases e:Zd a with
  | none=>rfl
  | some u=>
   rcases hn a u e with q | ⟨_,_,_,q⟩
   ·rw[q4]at q;cases q
   ·exact absurd q1 (q i o h)
end
end Vw
namespace SrtO
open PySem PyProof.Rows Srt
section
variable{prog:Program}{w:World}{A:Around}{E:Value→Shared→Prop}{s:Shared}
def BD(h:Heap)(v:Value)(x:Int):Prop:=∃ a o t u n,v=.ref a∧h.get? a=some o∧o.cls=.type "tuple"∧o.data=.seq #[.int x t,u] n
theorem BD.keeps{h h':Heap}{v:Value}{x:Int}(p:BD h v x)(k:∀ b o,h.get? b=some o→o.cls=.type "tuple"→h'.get? b=some o):BD h' v x:=by
 obtain⟨a,o,t,u,n,e,ho,hc,hd⟩:=p
 exact⟨a,o,t,u,n,e,k _ _ ho hc,hc,hd⟩
end
end SrtO
namespace L2
open PySem PySem.Spec PyProof.Rows
end L2
namespace Vw
open PySem L2 PyProof.Rows
end Vw
namespace Vw
open PySem L2 PyProof.Rows
end Vw
namespace L2
open PySem PySem.Spec PyProof.Rows
end L2
namespace Vw
open PySem L2 PyProof.Rows
end Vw
namespace Vw
open PySem L2 PyProof.Rows
def y8(ex:PySem.W.Frag→Bool)(as:List Addr)(fa:List He.Fa)(fn:List He.DefD)(g:Addr→Option Obj):Aj:=(He.obsD fa fn (He.frG g as),rf (He.frG g as)&&ex (He.frG g as))
def CV(ex:PySem.W.Frag→Bool)(as:List Addr)(fa:List He.Fa)(fn:List He.DefD):PySem.W.Hook where
 α:=Aj
 obs:=fun s=>y8 ex as fa fn s.heap.get?
 val:=fun _=>(He.valD fn,true)
 says:=fun _ h=>∃ K:PySem.W.Frag,K.In h∧He.SaysD fa fn K∧rf K=true∧ex K=true
 of:=fun _ _ e=>⟨_,He.frG_in,congrArg (fun z:Aj=>z.1) e,Bool.and_eq_true_iff.mp (congrArg (fun z:Aj=>z.2) e)⟩
 keeps:=fun _ _ _ ⟨K,hK,c⟩ k=>⟨K,PySem.W.Frag.In.keeps hK k,c⟩
theorem Di{ex:PySem.W.Frag→Bool}{as:List Addr}{fa:List He.Fa}{fn:List He.DefD}{g:Addr→Option Obj}{s:Shared}(h:∀ a,g a=s.heap.get? a):y8 ex as fa fn g=(CV ex as fa fn).obs s:=by
 have e:g=s.heap.get? :=funext h
 rw[e]<;> rfl
theorem pf{α β γ:Type}{e:Option α}{f:α→β}{g:α→γ}{b:β}{c:γ}(h1:e.map f=some b)(h2:e.map g=some c):e.map (fun s=>(f s,g s))=some (b,c):=by
 cases e with
 | none=>cases h1
 | some s=>rw[Option.map_some]at *;cases h1;cases h2;rfl
theorem uS{α:Type}{e:Option α}{f g:α→Bool}(h1:e.map f=some true)(h2:e.map g=some true):e.map (fun s=>f s&&g s)=some true:=by
 cases e with
 | none=>cases h1
 | some s=>rw[Option.map_some]at *;rw[Option.some.inj h1,Option.some.inj h2];rfl
theorem BC{α:Type}{e:Option α}{ex:PySem.W.Frag→Bool}{as:List Addr}{fa:List He.Fa}{fn:List He.DefD}{g:α→Addr→Option Obj}(h1:e.map (fun s=>fa.all fun f=>f.ok (He.frG (g s) as))=some true)(h2:e.map (fun s=>fn.all fun d=>d.ok (He.frG (g s) as))=some true)
  (h3:e.map (fun s=>fn.map fun d=>He.fnW (He.frG (g s) as) d.at_)=some (fn.map He.DefD.val)) (h4:e.map (fun s=>rf (He.frG (g s) as))=some true) (h5:e.map (fun s=>ex (He.frG (g s) as))=some true):e.map (fun s=>y8 ex as fa fn (g s))=some (He.valD fn,true):=
 pf (pf (uS h1 h2) h3) (uS h4 h5)
end Vw
namespace K81
open PySem L2 PyProof.Rows Vw
def top(i:Nat):Stmt:=PySem.Challenge.pw_findcourt_k81_questions_written.main.body.getD i (.Pass ⟨0,0,0,0⟩)
def Dq(s:Stmt):List Stmt:=match s with
 | .ClassDef _ _ _ b _ _ _ _ _ _ _=>b
 | _=>[]
def eC(i j:Nat):Stmt:=(Dq (top i)).getD j (.Pass ⟨0,0,0,0⟩)
def fT:List (String×String):=[("AskReader","line"),("AskReader","at")]
def sk:He.DefD:=⟨("_law_pop",none),"_law_pop","_law_pop",defArgs (top 13),defBody (top 13),defScope (top 13),[],[]⟩
def ql:He.DefD:=⟨("_law_pool",none),"_law_pool","_law_pool",defArgs (top 14),defBody (top 14),defScope (top 14),[],[]⟩
def rX:He.DefD:=⟨("_law_mix",none),"_law_mix","_law_mix",defArgs (top 11),defBody (top 11),defScope (top 11),[],[]⟩
def pz:He.DefD:=⟨("_law_draws",none),"_law_draws","_law_draws",defArgs (top 12),defBody (top 12),defScope (top 12),[],[]⟩
def pJ:He.DefD:=⟨("_law_field",none),"_law_field","_law_field",defArgs (top 15),defBody (top 15),defScope (top 15),[],[]⟩
def nF:He.DefD:=⟨("_law_pattern",none),"_law_pattern","_law_pattern",defArgs (top 16),defBody (top 16),defScope (top 16),[],[]⟩
def mJ:He.DefD:=⟨("_law_question",none),"_law_question","_law_question",defArgs (top 17),defBody (top 17),defScope (top 17),[],[]⟩
def pA:He.DefD:=⟨("show_words",none),"show_words","show_words",defArgs (top 6),defBody (top 6),defScope (top 6),[],[]⟩
def mn:He.DefD:=⟨("show_question",none),"show_question","show_question",defArgs (top 7),defBody (top 7),defScope (top 7),[],[]⟩
def pH:He.DefD:=⟨("_law_shown",none),"_law_shown","_law_shown",defArgs (top 18),defBody (top 18),defScope (top 18),[],[]⟩
def jb:He.DefD:=⟨("AskReader",some "__init__"),"__init__","AskReader.__init__",defArgs (eC 8 0),defBody (eC 8 0),defScope (eC 8 0),[],[]⟩
def kb:He.DefD:=⟨("AskReader",some "begins"),"begins","AskReader.begins",defArgs (eC 8 2),defBody (eC 8 2),defScope (eC 8 2),[],[]⟩
def lj:He.DefD:=⟨("AskReader",some "sure"),"sure","AskReader.sure",defArgs (eC 8 1),defBody (eC 8 1),defScope (eC 8 1),[],[]⟩
def lO:He.DefD:=⟨("AskReader",some "eat"),"eat","AskReader.eat",defArgs (eC 8 3),defBody (eC 8 3),defScope (eC 8 3),[],[]⟩
def j1:He.DefD:=⟨("AskReader",some "row_of"),"row_of","AskReader.row_of",defArgs (eC 8 4),defBody (eC 8 4),defScope (eC 8 4),[],[]⟩
def k9:He.DefD:=⟨("AskReader",some "many"),"many","AskReader.many",defArgs (eC 8 7),defBody (eC 8 7),defScope (eC 8 7),[],[]⟩
def kA:He.DefD:=⟨("AskReader",some "words"),"words","AskReader.words",defArgs (eC 8 5),defBody (eC 8 5),defScope (eC 8 5),[],[]⟩
def kq:He.DefD:=⟨("AskReader",some "asked"),"asked","AskReader.asked",defArgs (eC 8 6),defBody (eC 8 6),defScope (eC 8 6),[],[]⟩
def jc:He.DefD:=⟨("AskReader",some "question"),"question","AskReader.question",defArgs (eC 8 8),defBody (eC 8 8),defScope (eC 8 8),[],[]⟩
def mV:He.DefD:=⟨("read_question",none),"read_question","read_question",defArgs (top 9),defBody (top 9),defScope (top 9),[],[]⟩
def Ap:He.DefD:=⟨("law",none),"law","law",defArgs (top 19),defBody (top 19),defScope (top 19),[],[]⟩
def vO:List He.DefD:=[sk,ql,rX,pz,pJ,nF,mJ,pA,mn,pH,jb,kb,lj,lO,j1,k9,kA,kq,jc,mV,Ap]
def CC:List He.Fa:=[.glo "_law_pop",.glo "_law_pool",.glo "_law_mix",.glo "_law_draws",.glo "_law_field",.glo "_law_pattern",.glo "_law_question",.glo "show_words",.glo "show_question",.glo "_law_shown",.meth "AskReader" "begins",.meth "AskReader" "sure",.meth "AskReader" "eat",.meth "AskReader" "row_of",.meth "AskReader" "many",.meth "AskReader" "words",.meth "AskReader" "asked",.meth "AskReader" "question",.glo "read_question",.glo "law",.free "enumerate",.free "int",.free "isinstance",.free "len",.free "list",.free "range",.free "str",.free "tuple",.str "FIGURES" "0123456789",.str "LETTERS" "abcdefghijklmnopqrstuvwxyz",.glo "AskReader",.glo "NoText",.exc "NoText",.cls "AskReader",.mkr "AskReader"]
def Ib(K:PySem.W.Frag):List Bool:=[A9 K fT]
def Am(K:PySem.W.Frag):Bool:=(Ib K).all id
theorem JZ{K:PySem.W.Frag}(h:Am K=true)(i:Nat){b:Bool}(e:(Ib K)[i]? =some b):b=true:=List.all_eq_true.mp h b (List.mem_of_getElem? e)
abbrev Rr:PySem.W.OpenRow:=PySem.W.OpenLaw.row PySem.Challenge.rw_findcourt_k81_questions_written
def zm:List Addr:=[3,152,159,140,145,166,173,178,46,51,185,65,79,72,86,93,112,100,105,119,133,192,122,37,151,158,139,144,165,172,177,45,50,184,64,78,71,85,92,111,99,104,118,132,191,121,36,24,146,147,148,149,150,153,154,155,156,157,134,135,136,137,138,141,142,143,160,161,162,163,164,167,168,169,170,171,174,175,176,40,41,42,43,44,47,48,49,179,180,181,182,183,59,60,61,62,63,73,74,75,76,77,66,67,68,69,70,80,81,82,83,84,87,88,89,90,91,106,107,108,109,110,94,95,96,97,98,101,102,103,113,114,115,116,117,127,128,129,130,131,186,187,188,189,190,23]
abbrev hk:PySem.W.Hook:=CV Am zm CC vO
def EF(s:PySem.W.SharedT):Aj:=y8 Am zm CC vO (HandSHeadRun.getT s)
theorem G1(s:PySem.W.SharedT):EF s=hk.obs s.abs:=Di (HandSHeadRun.getT_eq s)
theorem wR{α β γ:Type}{e:Option α}{f:α→β}{g:α→γ}{b:β}{c:γ}(h:e.map (fun s=>(f s,g s))=some (b,c)):e.map f=some b∧e.map g=some c:=by
 cases e with
 | none=>cases h
 | some s=>exact⟨congrArg some (congrArg Prod.fst (Option.some.inj h)),congrArg some (congrArg Prod.snd (Option.some.inj h))⟩
abbrev vQ:Program:=PySem.W.view Rr.prog [19]
noncomputable abbrev eE(w:World)(os:OsState):=HandSHeadRun.endF (HandSHeadRun.stepQ (HandSHeadRun.denQ HandSHeadRun.tabQ) Rr.prog w) 6000 Rr.prog w os
noncomputable abbrev kF(s:PySem.W.SharedT):PySem.W.Frag:=He.frG (HandSHeadRun.getT s) zm
theorem GJ(w:World)(os:OsState):(eE w os).map (fun s=>(HandSHeadRun.looksF Rr.prog (PySem.W.boot_heap w.params) s.abs,(HandSHeadRun.seenQ vQ ["FindError","NoText","LETTERS","FIGURES","show_words","show_question","AskReader","read_question","_law_mix","_law_draws","_law_pop","_law_pool","_law_field","_law_pattern","_law_question","_law_shown"] (importedModules Rr.prog.main.body) (fun s=>PySem.W.xlAt vQ [] s&&PySem.W.recOk Rr.toRowW.records s) s.abs,(rf (kF s),Am (kF s)))))=some (true,(PySem.W.openGood vQ ["FindError","NoText","LETTERS","FIGURES","show_words","show_question","AskReader","read_question","_law_mix","_law_draws","_law_pop","_law_pool","_law_field","_law_pattern","_law_question","_law_shown"],(true,true))):=by kernel_rfl
theorem Hl(w:World)(os:OsState):(eE w os).map (fun s=>CC.all fun f=>f.ok (kF s))=some true:=by kernel_rfl
theorem Fe(w:World)(os:OsState):(eE w os).map (fun s=>(vO.take 10).all fun d=>d.ok (kF s))=some true:=by kernel_rfl
theorem F3(w:World)(os:OsState):(eE w os).map (fun s=>(vO.drop 10).all fun d=>d.ok (kF s))=some true:=by kernel_rfl
theorem Gj(w:World)(os:OsState):(eE w os).map (fun s=>vO.all fun d=>d.ok (kF s))=some true:=by
 have h:=uS (Fe w os) (F3 w os)
 simp only[←List.all_append,List.take_append_drop]at h
 exact h
theorem G3(w:World)(os:OsState):(eE w os).map (fun s=>vO.map fun d=>He.fnW (kF s) d.at_)=some (vO.map He.DefD.val):=by kernel_rfl
theorem run(w:World):HandSHeadRun.RunEq Rr (PySem.W.view Rr.prog [19]) hk EF 6000 ["FindError","NoText","LETTERS","FIGURES","show_words","show_question","AskReader","read_question","_law_mix","_law_draws","_law_pop","_law_pool","_law_field","_law_pattern","_law_question","_law_shown"] w:=by
 intro os
 obtain⟨a,b⟩:=wR (GJ w os)
 obtain⟨b,c⟩:=wR b
 obtain⟨c,d⟩:=wR c
 exact pf a (pf b (BC (g:=HandSHeadRun.getT) (Hl w os) (Gj w os) (G3 w os) c d))
open PySem.W PySem.Calls in
theorem early(hc:WalkO (view (OpenLaw.row PySem.Challenge.rw_findcourt_k81_questions_written).prog [19]) ["FindError","NoText","LETTERS","FIGURES","show_words","show_question","AskReader","read_question","_law_mix","_law_draws","_law_pop","_law_pool","_law_field","_law_pattern","_law_question","_law_shown"] (XL (view (OpenLaw.row PySem.Challenge.rw_findcourt_k81_questions_written).prog [19]) []) hk.says (OpenLaw.row PySem.Challenge.rw_findcourt_k81_questions_written).toRowW (HandSHeadRun.topDef (OpenLaw.row PySem.Challenge.rw_findcourt_k81_questions_written).prog 19) [] fun f vs=>PySem.call f vs):PySem.Challenge.rw_findcourt_k81_questions_written.Holds:=by
 w_on;o_law
 refine HandSHeadRun.head_any (r:=OpenLaw.row PySem.Challenge.rw_findcourt_k81_questions_written) (q:=view (OpenLaw.row PySem.Challenge.rw_findcourt_k81_questions_written).prog [19]) (H:=hk) (ob:=EF) (M:=6000) (loose:=["FindError","NoText","LETTERS","FIGURES","show_words","show_question","AskReader","read_question","_law_mix","_law_draws","_law_pop","_law_pool","_law_field","_law_pattern","_law_question","_law_shown"]) (d:=HandSHeadRun.topDef (OpenLaw.row PySem.Challenge.rw_findcourt_k81_questions_written).prog 19) (kwd:=[]) G1
  (by kernel_rfl) (fun s=>by kernel_rfl) run (by kernel_rfl) (by kernel_rfl) (by kernel_rfl) (by rfl) (by first | assumption | decide+kernel) (by decide+kernel) ⟨rfl,rfl,rfl,rfl,rfl,by decide+kernel⟩ ?hw hc
 case hw=>w_witness2
end K81
namespace L2
open PySem PySem.Spec PyProof.Rows
end L2
namespace Vw
open PySem L2 PyProof.Rows
end Vw
namespace Vw
open PySem L2 PyProof.Rows
end Vw
namespace L2
open PySem PySem.Spec PyProof.Rows
section
variable{P:Program}{w:World}{K:Type}[DecidableEq K]{knd:PySem.KeyKind P w K}{key:Value→K}
def BL(knd:PySem.KeyKind P w K)(key:Value→K)(h:Heap)(a:Addr)(S:K→Bool)(n:Nat):Prop:=
 ∃ o es ep t,h.get? a=some o∧o.ExactSet∧o.data=.set es ep t∧ElemsOf knd es.toList∧(es.toList.map fun e=>key e.2).Nodup∧(∀ k,S k=true↔k∈es.toList.map fun e=>key e.2)∧
  es.size<scanBound∧t.fits es.size=true∧es.size=n∧Ris t.place.toList∧(w.params.followText "set-order"=true∨t.led=true)
variable{A:Around}{E:Value→Shared→Prop}{s:Shared}{a:Addr}{S:K→Bool}{n:Nat}{h h':Heap}
theorem BL.at(R:BL knd key h a S n)(k:∀ o,h.get? a=some o→h'.get? a=some o):BL knd key h' a S n:=by
 obtain⟨o,es,ep,t,ho,r⟩:=R
 exact⟨o,es,ep,t,k o ho,r⟩
end
end L2
namespace L2
open PySem PySem.Spec PyProof.Rows
end L2
namespace Vw
open PySem L2 PyProof.Rows
end Vw
namespace L2
open PySem PySem.Spec PyProof.Rows
end L2
namespace L2
open PySem PySem.Spec PyProof.Rows
end L2
namespace Vw
open PySem L2 PyProof.Rows
end Vw
namespace L2
open PySem PySem.Spec PyProof.Rows
section
variable{X:Cx}
def eqs(k:Str)(v:Value):Bool:=match v with
 | .str n _=>n==k
 | _=>false
end
end L2
namespace Vw
open PySem L2 PyProof.Rows
end Vw
namespace Vw
open PySem L2 PyProof.Rows
end Vw
namespace L2
open PySem PySem.Spec PyProof.Rows
section
variable{P:Program}{w:World}{A:Around}{E:Value→Shared→Prop}{s:Shared}{κ:Type}[DecidableEq κ]{knd:KeyKind P w κ}
def zk(knd:KeyKind P w κ)(L:List (Addr×List κ)):List (Int×Value):=L.map fun p=>(tupleKeyHash knd p.2,Value.ref p.1)
structure GSet (knd:KeyKind P w κ) (h:Heap) (a:Addr) (L:List (Addr×List κ)) (es:Array (Int×Value)) (ep:Nat) (t:SetTable):Prop where
 o:∃ o,h.get? a=some o∧o.ExactSet∧o.data=.set es ep t
 r:es.toList=zk knd L
 b:TabOk t (L.map fun p=>tupleKeyHash knd p.2)
 n:(L.map (·.2)).Nodup
 k:∀ p∈L,IsTupleKey knd h p.2 p.1
 l:w.params.followText "set-order"=true∨t.led=true
 m:L.length*5<t.mask*3
 f:L.length<64
variable{a:Addr}{L:List (Addr×List κ)}{es:Array (Int×Value)}{ep:Nat}{t:SetTable}
theorem Ab(h:es.toList=zk knd L):es.size=L.length:=by
 have q:=congrArg List.length h
 simpa [zk]using q
theorem Ga(h1:TabOk t (L.map fun p=>tupleKeyHash knd p.2))(h2:es.size=L.length)(h3:es.size≤t.mask):t.fits es.size=true:=by
 have z:=h1.sz
 rw[List.length_map]at z
 have key:t.place.size=es.size∧t.place.size+t.dummies.size≤t.mask:=by
  rw[h1.dm]
  exact⟨z.trans h2.symm,by show t.place.size+0≤t.mask;omega⟩
 unfold SetTable.fits SetTable.fill
 simp only[Bool.and_eq_true,beq_iff_eq,decide_eq_true_eq]
 rw[h1.dm]at key ⊢
 exact⟨key.1,key.2⟩
theorem GSet.fits(R:GSet knd s.heap a L es ep t):t.fits es.size=true:=by
 have h2:=Ab R.r
 have h3:=R.m
 exact Ga R.b h2 (by omega)
end
end L2
namespace L2
open PySem PySem.Spec PyProof.Rows
end L2
namespace L2
open PySem PySem.Spec PyProof.Rows
end L2
namespace SrtO
open PySem PyProof.Rows Srt L2
section
variable{prog:Program}{w:World}{A:Around}{E:Value→Shared→Prop}{s:Shared}
def BJ(h:Heap)(v:Value)(x:PySem.Str×PySem.Str):Prop:=∃ a o t u n,v=.ref a∧h.get? a=some o∧o.cls=.type "tuple"∧o.data=.seq #[.str x.1 t,.str x.2 u] n
theorem BJ.keeps{h h':Heap}{v:Value}{x:PySem.Str×PySem.Str}(p:BJ h v x)(k:∀ b o,h.get? b=some o→o.cls=.type "tuple"→h'.get? b=some o):BJ h' v x:=by
 obtain⟨a,o,t,u,n,e,ho,hc,hd⟩:=p
 exact⟨a,o,t,u,n,e,k _ _ ho hc,hc,hd⟩
end
end SrtO
namespace L2
open PySem PySem.Spec PyProof.Rows
end L2
namespace Vw
open PySem L2 PyProof.Rows
end Vw
namespace Vw
open PySem L2 PyProof.Rows
end Vw
namespace Vw
open PySem L2 PyProof.Rows
end Vw
namespace Vw
open PySem L2 PyProof.Rows
def lr:D→V
 | .str t=>.str ⟨t.toArray⟩
 | .int i=>.int i
 | .bl b=>.bl b
 | _=>.non
def wo:D→Bool
 | .str _=>true
 | .int _=>true
 | .bl _=>true
 | .non=>true
 | _=>false
theorem Dy{cA:String→Addr}{Z:Hp}{d:D}(h:wo d=true):cu cA Z d (lr d):=by
 cases d<;> first | rfl | cases h
def t2(l:List (K0×D))(s:State):Res RV:=if(l.map (·.1)).Nodup∧l.all (fun p=>wo p.2)=true∧l.length≤15 then .ok (.new (.dic false (l.map fun p=>(p.1,.d p.2)))) s else .stuck
section
variable{C:Cst}{Z:Hp}{loc:List Addr}{X:Cx}{pos:Pos}{keys:List (Option Expr)}{values:List Expr}
theorem uJ{x:String}{j:Nat}:PE X (.Constant (.str (Str.ofString x)) j pos) (tC (lr (.str (sS x)))):=by
 have e:lr (.str (sS x))=V.str (Str.ofString x):=by
  show V.str _=V.str _
  simp[sS]
 rw[e];exact pe_str
theorem yM{x:String}{j:Nat}:PE X (.Constant (.str (Str.ofString x)) j pos) (tC (kV (kz (.s (sS x))))):=uJ
theorem putK_new{kvs:List (Key×V)}{k:Key}{v:V}(h:k∉kvs.map (·.1)):putK kvs k v=kvs++[(k,v)]:=by
 unfold putK
 rw[if_neg fun e=>?_]
 obtain⟨p,hp,e⟩:=List.any_eq_true.mp e
 exact h (List.mem_map.mpr ⟨p,hp,of_decide_eq_true e⟩)
theorem s7:∀ (more kvs:List (Key×V)),(kvs.map (·.1)++more.map (·.1)).Nodup→mergeK kvs more=kvs++more
 | [],kvs,_=>by rw[List.append_nil];rfl
 | p::r,kvs,h=>by
  have h1:p.1∉kvs.map (·.1):=fun hm=>by
   rw[List.nodup_append]at h
   exact h.2.2 p.1 hm p.1 (by simp) rfl
  show mergeK (putK kvs p.1 p.2) r=_
  rw[putK_new h1,s7 r (kvs++[(p.1,p.2)]) (by simpa using h),List.append_assoc]
  rfl
def H8(l:List (K0×D)):List (TE×TE):=l.map fun p=>(tC (kV (kz p.1)),tC (lr p.2))
theorem yB{sv:L2.St}{H:Hp}{Q:List (V×V)→Hp→Prop}:∀ {l:List (K0×D)},Q (l.map fun p=>(kV (kz p.1),lr p.2)) H→tPairs (H8 l) sv H Q
 | [],h=>h
 | p::l,h=>yB (l:=l) (Q:=fun ps H=>Q ((kV (kz p.1),lr p.2)::ps) H) h
theorem yj{cA:String→Addr}:∀ {l:List (K0×D)},l.all (fun p=>wo p.2)=true→eD cA Z loc (l.map fun p=>(p.1,Val.d p.2)) (l.map fun p=>(kz p.1,lr p.2))
 | [],_=>rfl
 | p::l,h=>by
  rw[List.all_cons,Bool.and_eq_true]at h
  exact⟨_,_,rfl,Dy h.1,yj h.2⟩
theorem Fw{l:List (K0×D)}(h:PPs X pos keys values (H8 l))(hall:keys.all (·.isSome)=true)(hl:keys.length=values.length)(h0:keys≠[])(h15:keys.length≤15):PE X (.Dict keys values pos) (aA C (t2 l)):=c6 (pe_disp h hall hl h0 h15) fun sv H Q ⟨Z,loc,s,r,q⟩=>by
 intro p hp
 refine yB ?_
 unfold t2 at q
 split at q
 ·rename_i hc
  obtain⟨c1,c2,c3⟩:=hc
  refine⟨upd_same,l.map (fun p=>(kz p.1,lr p.2)),by rw[List.map_map];rfl,by rw[List.length_map];exact c3,?_⟩
  have nd:((l.map (fun p=>(kz p.1,lr p.2))).map (·.1)).Nodup:=by
   rw[List.map_map]
   have:((fun x:Key×V=>x.1)∘fun p:K0×D=>(kz p.1,lr p.2))=kz∘fun p:K0×D=>p.1:=rfl
   rw[this,←List.map_map]
   exact List.Pairwise.map _ (fun a b h e=>h (qF e)) c1
  rw[s7 _ [] (by simpa using nd),List.nil_append]
  have hu:upd (upd H p (.dK [])) p (.dK (l.map fun p=>(kz p.1,lr p.2)))=upd H p (.dK (l.map fun p=>(kz p.1,lr p.2))):=by
   funext b
   by_cases hb:b=p
   ·subst hb;rw[upd_same,upd_same]
   ·rw[upd_ne hb,upd_ne hb,upd_ne hb]
  rw[hu]
  exact q.new r hp (by simp) ⟨_,upd_same,yj c2⟩
 ·exact q.elim
end
end Vw
namespace Vw
open PySem L2 PyProof.Rows
end Vw
namespace Vw
open PySem L2 PyProof.Rows
end Vw
namespace L2
open PySem PySem.Spec PyProof.Rows
end L2
namespace Vw
open PySem L2 PyProof.Rows
end Vw
namespace Vw
open PySem L2 PyProof.Rows
def NM(x:Str):Prop:=(x==("__debug__":Str))=false∧(x==("__classdict__":Str))=false
section
variable{C:Cst}{X:Cx}{e a b:Expr}{es:List Expr}{pos:Pos}{f fa fb:State→Res RV}{fr:List (State→Res RV)}
theorem va{i:Nat}{x:Str}(n:NM x)(hN:X.N[i]? =some x:=by exact rfl)(hv:X.env.scope.names.lookup x=some .local:=by exact rfl):PE X (.Name x pos) (aA C (ab i)):=v_var hN (.inl hv) n.1 n.2
theorem vb{i:Nat}{x:Str}(n:NM x)(hN:X.N[i]? =some x:=by exact rfl)(hv:X.env.scope.names.lookup x=some .cell:=by exact rfl):PE X (.Name x pos) (aA C (ab i)):=v_var hN (.inr (.inl hv)) n.1 n.2
theorem vi{i:Int}{j:Nat}:PE X (.Constant (.int i) j pos) (aA C (fD (.int i))):=qT pe_int fun _=>rfl
theorem vt{i:Bool}{j:Nat}:PE X (.Constant (.bool i) j pos) (aA C (fD (.bl i))):=qT pe_bl fun _=>rfl
theorem vc(h:PE X e (aA C f))(hr:PA X es (eR C (aC fr)))(hs:notStar e=true:=by exact rfl):PA X (e::es) (eR C (aC (f::fr))):=Eh h hr hs
theorem tn{i:Nat}{x:Str}(hN:X.N.Nodup)(hi:X.N[i]? =some x:=by exact rfl)(hx:X.env.scope.names.lookup x=some .local:=by exact rfl):PG X (.Name x pos) (pF C (.nm i)):=Hf hN hi (.inl hx) (.inr hx)
theorem vg{i:Nat}{x:Str}{p:Pos}(hN:X.N.Nodup)(h:PE X e (aA C f))(hi:X.N[i]? =some x:=by exact rfl)(hx:X.env.scope.names.lookup x=some .local:=by exact rfl)(hc:jF e=true:=by exact rfl):PS X (.Assign [.Name x p] e pos) (fK C (cq i f)):=Cc hN hi (.inl hx) (.inr hx) h hc
theorem vx(hu:X.A.units+64<cLine)(ha:PE X a (aA C fa))(hb:PE X b (aA C fb))(hs:mu b=true:=by exact rfl):PE X (.Subscript a b pos) (aA C (ai fa fb bK)):=IE hu ha hb hs
theorem i9{N P:List Str}{sc:Scope}(h1:sc.kind=.function:=by exact rfl)(h2:sc.isCoroutine=false:=by exact rfl)(h3:sc.isGenerator=false:=by exact rfl)(h4:N.Nodup:=by decide+kernel)(h5:N.take P.length=P:=by exact rfl)(h6:∀ x∈P,sc.names.lookup x=some .local∨sc.names.lookup x=some .cell:=by decide+kernel)(h7:∀ y∈sc.names,y.2≠ .free:=by decide+kernel):FnScope N P sc:=⟨h1,h2,h3,h4,h5,h6,h7⟩
end
end Vw
namespace Vw
open PySem L2 PyProof.Rows
end Vw
namespace Vw
open PySem L2 PyProof.Rows
section
variable{C:Cst}{Z Z' Zc Zd:Hp}{loc loc' l':List Addr}{s s':State}{sv sv':L2.St}{H H':Hp}
variable{X:Cx}{e a b c o:Expr}{es:List Expr}{p pos apos:Pos}{f fa fb fc fo fi fv:State→Res RV}
def sB(f:State→Res RV)(k:D→State→Res (List Val))(s:State):Res (List Val):=(ev f s).bind fun r s1=>match jJ s1 r with
 | .val (.r n)=>(match s1.st[n]? with
  | some (.dic true l)=>(match toDK l with
   | some ds=>k (.dic ds) s1
   | none=>.stuck)
  | _=>.stuck)
 | _=>(lF r s1).bind k
end
end Vw
namespace Vw
open PySem L2 PyProof.Rows
end Vw
namespace Vw
open PySem L2 PyProof.Rows
end Vw
namespace Vw
open PySem L2 PyProof.Rows
mutual
def fy:D→Bool
 | .non=>true
 | .bl _=>true
 | .int _=>true
 | .str _=>true
 | .tup l=>eO l
 | .lst l=>eO l
 | _=>false
def eO:List D→Bool
 | []=>true
 | d::r=>fy d&&eO r
end
def kU:D→Bool
 | .non=>true
 | .bl _=>true
 | .int _=>true
 | .str _=>true
 | _=>false
def kr:List D→Option (List D×List D)
 | []=>none
 | [.lst xs]=>if eO xs=true then some ([],xs)else none
 | d::r=>if kU d=true then(kr r).map fun p=>(d::p.1,p.2)else none
def qu(r:Res RV)(s:State):Res RV:=
 match r with
 | .ok (.val (.d (.tup ds))) _=>(match kr ds with
  | some p=>.ok (.val (.tp (p.1.map .d++[.r s.st.length]))) ⟨s.sg,s.st++[.lst (p.2.map .d)]⟩
  | none=>.ok (.val (.d (.tup ds))) s)
 | _=>.stuck
def zu:D→Bool
 | .str _=>true
 | _=>false
def rh(n:Nat)(fs:State→Res (List RV))(g:Fn)(s:State):Res RV:=(fs s).bind fun rs s=>(bI rs s).bind fun args s=>match oW args with
 | some ds=>if ds.length=n∧ds.all zu=true then qu (g (ds.map .d) []) s else .stuck
 | none=>.stuck
theorem Ad:∀ {ds i xs:List D},kr ds=some (i,xs)→ds=i++[.lst xs]∧i.all kU=true∧eO xs=true
 | [],i,xs,h=>by simp[kr]at h
 | [d],i,xs,h=>by
  cases d with
  | lst ys=>
   unfold kr at h
   split at h
   ·rename_i hp
    cases h
    exact⟨rfl,rfl,hp⟩
   ·cases h
  | _=>simp[kr]at h
 | d::e::r,i,xs,h=>by
  have h:(if kU d=true then(kr (e::r)).map fun p=>(d::p.1,p.2)else none)=some (i,xs):=by
   cases d<;> exact h
  split at h
  ·rename_i ha
   obtain⟨⟨i',xs'⟩,h1,h2⟩:=Option.map_eq_some_iff.mp h
   cases h2
   obtain⟨e1,e2,e3⟩:=Ad h1
   exact⟨by rw[e1];rfl,by simp only[List.all_cons,ha,e2];rfl,e3⟩
  ·cases h
section
variable{cA:String→Addr}{Z Z' Y:Hp}
mutual
theorem det:∀ {d d':D} {v:V},cu cA Z d v→cu cA Z d' v→fy d=true→fy d'=true→d=d'
 | .non,d',v,h,h',p,p'=>by
  have h:v=.non:=h
  subst h
  cases d'<;> first | rfl | (simp[cu]at h';done) | (simp[fy]at p';done)
 | .bl b,d',v,h,h',p,p'=>by
  have h:v=.bl b:=h
  subst h
  cases d'<;> first | (simp[cu]at h';subst h';rfl) | (simp[cu]at h';done) | (simp[fy]at p';done)
 | .int b,d',v,h,h',p,p'=>by
  have h:v=.int b:=h
  subst h
  cases d'<;> first | (simp[cu]at h';subst h';rfl) | (simp[cu]at h';done) | (simp[fy]at p';done)
 | .str b,d',v,h,h',p,p'=>by
  have h:v=.str ⟨b.toArray⟩:=h
  subst h
  cases d'<;> first | (simp[cu]at h';subst h';rfl) | (simp[cu]at h';done) | (simp[fy]at p';done)
 | .tup ds,d',v,⟨a,vs,e,z,q⟩,h',p,p'=>by
  subst e
  cases d' with
  | tup ds'=>
   obtain⟨a',vs',e',z',q'⟩:=h'
   cases e'
   rw[z]at z'
   cases z'
   rw[Bv q q' p p']
  | lst ds'=>
   obtain⟨a',vs',e',z',q'⟩:=h'
   cases e'
   rw[z]at z'
   rcases z' with z' | ⟨_,z'⟩<;> cases z'
  | non=>cases h'
  | bl b=>cases h'
  | int b=>cases h'
  | str b=>cases h'
  | _=>simp[fy]at p'
 | .lst ds,d',v,⟨a,vs,e,z,q⟩,h',p,p'=>by
  subst e
  cases d' with
  | tup ds'=>
   obtain⟨a',vs',e',z',q'⟩:=h'
   cases e'
   rw[z']at z
   rcases z with z | ⟨_,z⟩<;> cases z
  | lst ds'=>
   obtain⟨a',vs',e',z',q'⟩:=h'
   cases e'
   have:vs=vs':=by
    rcases z with z | ⟨_,z⟩<;> rcases z' with z' | ⟨_,z'⟩<;> rw[z]at z'<;> cases z'<;> rfl
   subst this
   rw[Bv q q' p p']
  | non=>cases h'
  | bl b=>cases h'
  | int b=>cases h'
  | str b=>cases h'
  | _=>simp[fy]at p'
 | .dic _,d',v,h,h',p,p'=>by simp[fy]at p
 | .dit _,d',v,h,h',p,p'=>by simp[fy]at p
 | .ins _ _,d',v,h,h',p,p'=>by simp[fy]at p
 | .exc _ _,d',v,h,h',p,p'=>by simp[fy]at p
theorem Bv:∀ {ds ds':List D} {vs:List V},dC cA Z ds vs→dC cA Z ds' vs→eO ds=true→eO ds'=true→ds=ds'
 | [],[],vs,h,h',p,p'=>rfl
 | [],d'::r',vs,h,⟨v,t,e,q,w⟩,p,p'=>by
  have h:vs=[]:=h
  rw[h]at e
  cases e
 | d::r,[],vs,⟨v,t,e,q,w⟩,h',p,p'=>by
  have h':vs=[]:=h'
  rw[h']at e
  cases e
 | d::r,d'::r',vs,⟨v,t,e,q,w⟩,⟨v',t',e',q',w'⟩,p,p'=>by
  rw[e]at e'
  cases e'
  simp only[eO,Bool.and_eq_true]at p p'
  rw[det q q' p.1 p'.1,Bv w w' p.2 p'.2]
end
def HY(Z:Hp)(a:Addr)(vs:List V):Prop:=Z a=some (.lst vs)∨∃ o,Z a=some (.frz o (.lst vs))
mutual
theorem cu.less{a:Addr}{xs:List D}{ws:List V}(hl:cu cA Z (.lst xs) (.ref a))(ha:HY Z a ws)(px:eO xs=true)(hY:∀ (b:Addr) (u:HO),b≠a→Z b=some u→Y b=some u):∀ {d:D} {v:V},cu cA Z d v→fy d=true→sizeOf d<sizeOf (D.lst xs)→cu cA Y d v
 | .non,v,h,p,n=>h
 | .bl _,v,h,p,n=>h
 | .int _,v,h,p,n=>h
 | .str _,v,h,p,n=>h
 | .tup ds,v,⟨b,vs,e,z,q⟩,p,n=>⟨b,vs,e,hY b _ (fun z'=>by
   rw[z']at z
   rcases ha with h | ⟨_,h⟩<;> rw[z]at h<;> cases h) z,dC.less hl ha px hY q p (by simp at n ⊢;omega)⟩
 | .lst ds,v,⟨b,vs,e,z,q⟩,p,n=>⟨b,vs,e,by
   have ne:b≠a:=fun z'=>by
    subst z' e
    have:=det (d:=.lst ds) (d':=.lst xs) ⟨b,vs,rfl,z,q⟩ hl p px
    rw[this]at n
    omega
   exact z.elim (fun z=>.inl (hY b _ ne z)) (fun⟨o,z⟩=>.inr ⟨o,hY b _ ne z⟩),dC.less hl ha px hY q p (by simp at n ⊢;omega)⟩
 | .dic _,v,h,p,n=>by simp[fy]at p
 | .dit _,v,h,p,n=>by simp[fy]at p
 | .ins _ _,v,h,p,n=>by simp[fy]at p
 | .exc _ _,v,h,p,n=>by simp[fy]at p
theorem dC.less{a:Addr}{xs:List D}{ws:List V}(hl:cu cA Z (.lst xs) (.ref a))(ha:HY Z a ws)(px:eO xs=true)(hY:∀ (b:Addr) (u:HO),b≠a→Z b=some u→Y b=some u):∀ {ds:List D} {vs:List V},dC cA Z ds vs→eO ds=true→sizeOf ds<sizeOf (D.lst xs)→dC cA Y ds vs
 | [],vs,h,p,n=>h
 | d::r,vs,⟨v,t,e,q,w⟩,p,n=>by
  simp only[eO,Bool.and_eq_true]at p
  have n1:sizeOf d<sizeOf (D.lst xs):=by simp at n ⊢;omega
  have n2:sizeOf r<sizeOf (D.lst xs):=by simp at n ⊢;omega
  exact⟨v,t,e,cu.less hl ha px hY q p.1 n1,dC.less hl ha px hY w p.2 n2⟩
end
theorem DR{d:D}{v:V}(h:zu d=true)(q:cu cA Z d v):cu cA Y d v:=by
 cases d<;> first | exact q | cases h
theorem xB{loc:List Addr}:∀ {ds:List D} {vs:List V},ds.all zu=true→bc cA Z loc (ds.map .d) vs→bc cA Y [] (ds.map .d) vs
 | [],vs,h,q=>q
 | d::r,vs,h,⟨v,t,e,q,w⟩=>by
  simp only[List.all_cons,Bool.and_eq_true]at h
  exact⟨v,t,e,DR h.1 q,xB h.2 w⟩
theorem A3{d:D}{v:V}(h:kU d=true)(q:cu cA Z d v):cu cA Y d v:=by
 cases d<;> first | exact q | cases h
theorem sZ{x:D}:∀ {i:List D} {vs:List V},i.all kU=true→dC cA Z (i++[x]) vs→∃ w,cu cA Z x w∧∀ {Y:Hp} {loc:List Addr} {y:Val},c7 cA Y loc y w→bc cA Y loc (i.map .d++[y]) vs
 | [],vs,h,⟨v,t,e,q,w⟩=>⟨v,q,fun qy=>⟨v,t,e,qy,w⟩⟩
 | d::r,vs,h,⟨v,t,e,q,w⟩=>by
  simp only[List.all_cons,Bool.and_eq_true]at h
  obtain⟨u,h1,h2⟩:=sZ h.2 w
  exact⟨u,h1,fun qy=>⟨v,t,e,A3 h.1 q,h2 qy⟩⟩
end
section
variable{X:Cx}{CX:CXT}{k:Nat}{f:Addr}{fd:FuncData}{ps:List Str}{sp:Sp}{E:L2.St→XK}{x:Str}{p pos:Pos}{e:Expr}{es:List Expr}{t:TA}
def B5(H1:Hp)(Q:VK):VK:=fun v H'=>Q v H'∨∃ d od u,H1 d=none∧H' d=some (.frz od u)∧Q v (upd H' d u)
def FA(sp:Sp)(E:L2.St→XK)(t:TA):TE:=fun σ H Q=>t σ H fun vs H1=>sp vs H1 (B5 H1 Q) (E σ)
theorem BB(F:FnOk X.prog X.w X.K X.mg X.base CX k f fd ps sp)(hr:Room k X.A)(hg:Gl X x)(hm:X.mg x=some (.ref f))(hk:PySem.W.keepIn X.K (.ref f)=true)(hb:Binds X.K fd ps [])(hx:∀ σ,PassesAt CX X σ (E σ))
  (ha:PA X (e::es) t) (hdb:(x==("__debug__":Str))=false) (he:starEach (e::es) X.env=(false,eval e X.env)::starEach es X.env) (hpl:(backTo pos (starEach es X.env)).any (·.1)=false):
  PE X (.Call (.Name x p) (e::es) [] pos) (FA sp E t):=by
 refine⟨fun pins s σ H Q I h=>?_⟩
 refine wpAny_Call_Name_kw (ld_glob I hg hm ?_ hdb)
 refine PySem.W.callWith_K (h₀:=X.base) I.ok.mod.kin hk (thn (ha.run pos pins s σ H _ I h) fun us s1 ⟨vs,H1,I1,r,q⟩=>⟨I1.kIn,?_⟩) he hpl
 refine thn (run_fnS F hr hb (hx σ) I1 r q) fun v s2 ⟨y,H2,I2,r2,q2⟩=>?_
 rcases q2 with q2 | ⟨d,od,u,z,zf,q2⟩
 ·exact⟨y,H2,I2,r2,q2⟩
 ·refine⟨y,_,I2.unlock zf fun o' u' e0=>?_,r2,q2⟩
  have:=I1.base.frzs d o' u' e0
  rw[z]at this
  cases this
end
section
variable{C:Cst}{Z Z' Zc:Hp}{loc loc' l':List Addr}{s s':State}{sv sv':L2.St}{H H':Hp}
variable{X:Cx}{e a b c o:Expr}{es:List Expr}{p pos apos:Pos}{f fa fb fc fo fi fv:State→Res RV}
def nZ:Hp:=fun _=>none
theorem SR.GG(r:SR C Z loc s sv H)(E:XK):SR (fL C.cA H C.H0 E) nZ [] ⟨[],[]⟩ [] H:=by
 refine⟨Same.refl _,fun a o h=>?_,fun a o h=>?_,r.lk,rfl,List.nodup_nil,fun a h=>?_,fun n a o h1=>?_,fun i x h=>?_,fun i o h=>?_,fun i j o o' a h1=>?_,rfl⟩
 all_goals first | (exact nomatch h) | (exact absurd h (by simp)) | (exact absurd h1 (by simp)) | (exfalso;simp[nZ]at h)
def kQ(Z Z':Hp)(a:Option Addr):Hp:=fun b=>match Z b with
 | some u=>some u
 | none=>if some b=a then none else Z' b
theorem sT{a:Option Addr}:Same Z (kQ Z Z' a):=fun b u h=>by unfold kQ;rw[h]
section
variable{E:XK}{st:State}(r:SR C Z loc s sv H)(r':SR (fL C.cA H C.H0 E) Z' l' st [] H')
include r r'
theorem qU{b:Addr}{u:HO}(h:Z' b=some u):H b=none∧Z b=none:=by
 have h1:H b=none:=r'.zf b u h
 refine⟨h1,?_⟩
 cases e:Z b with
 | none=>rfl
 | some w=>exact absurd h1 (uM (r.zh b w e))
theorem xw{b:Addr}(h:H b=none):C.Fr b=none∧b∉loc∧∀ (i:Nat) (o:Ob),s.sg[i]? =some (some (.own o))→sv[i]? ≠some (some (.ref b)):=by
 refine⟨?_,fun z=>(r.lh b z).1 h,fun i o h1 h2=>?_⟩
 ·cases e:C.Fr b with
  | none=>rfl
  | some w=>have:=r.fr b w e;rw[h]at this;cases this
 ·obtain⟨a,q1,q2,q3,_⟩:=r.ow i o h1
  rw[h2]at q1
  cases q1
  exact jM q2 q3 h
theorem Ah(a:Option Addr):SR C (kQ Z Z' a) loc s sv H':=by
 refine(r.grow r'.fr).Ge sT fun b u h=>?_
 unfold kQ at h
 split at h
 ·rename_i w e
  exact .inl (e.trans h)
 ·split at h
  ·cases h
  ·obtain⟨h1,_⟩:=qU r r' h
   obtain⟨q1,q2,q3⟩:=xw r r' h1
   exact .inr ⟨r'.zh b u h,q1,q2,q3⟩
end
theorem BA{E:XK}{st:State}{ds:List D}{v:V}{Q:VK}(r:SR C Z loc s sv H)(r':SR (fL C.cA H C.H0 E) Z' l' st [] H')(q:cu C.cA Z' (.tup ds) v)(h:EPost C Z loc sv (qu (.ok (.val (.d (.tup ds))) st) s) Q):B5 H Q v H':=by
 unfold qu at h
 dsimp only at h
 split at h
 ·rename_i p hp
  obtain⟨i,xs⟩:=p
  obtain⟨e1,e2,e3⟩:=Ad hp
  subst e1
  obtain⟨t,vs,et,zt,q⟩:=q
  obtain⟨w,hw,hq⟩:=sZ e2 q
  obtain⟨a,ws,ea,za,qx⟩:=hw
  subst ea
  have na:H a=none∧Z a=none:=by
   rcases za with za | ⟨_,za⟩<;> exact qU r r' za
  have sr:SR C (kQ Z Z' (some a)) loc s sv H':=Ah r r' (some a)
  have hY:∀ (b:Addr) (u:HO),b≠a→Z' b=some u→kQ Z Z' (some a) b=some u:=fun b u hb hz=>by
   unfold kQ
   rw[(qU r r' hz).2]
   dsimp only
   rw[if_neg (fun z=>hb (Option.some.inj z)),hz]
  have za0:kQ Z Z' (some a) a=none:=by
   unfold kQ
   rw[na.2]
   dsimp only
   rw[if_pos rfl]
  have qx':dC C.cA (kQ Z Z' (some a)) xs ws:=dC.less (xs:=xs) ⟨a,ws,rfl,za,qx⟩ za e3 hY qx e3 (by simp)
  obtain⟨f1,f2,f3⟩:=xw r r' na.1
  have fin:∀ H2,SR C (kQ Z Z' (some a)) loc s sv H2→H2 a=some (.lst ws)→Q v H2:=fun H2 s2 h2=>by
   have fr:Free C (kQ Z Z' (some a)) loc s sv a:=⟨za0,f1,f2,f3⟩
   obtain⟨g3,r3,q3⟩:=s2.alloc (a:=a) (o:=.lst (xs.map .d)) (by simp) ⟨ws,h2,fB.mpr qx'⟩ fr
   refine h _ _ H2 v ((Ext.z sT).trans g3) r3 ⟨t,vs,et,?_,hq q3⟩
   exact hY t _ (fun z=>by
    rw[z]at zt
    rcases za with za | ⟨_,za⟩<;> rw[zt]at za<;> cases za) zt
  rcases za with za | ⟨od,za⟩
  ·exact .inl (fin H' sr ((r'.zh a _ za).at rfl))
  ·have hf:H' a=some (.frz od (.lst ws)):=(r'.zh a _ za).at rfl
   refine .inr ⟨a,od,_,na.1,hf,fin _ ?_ upd_same⟩
   refine⟨fun b w q=>?_,fun b w q=>?_,sr.zf,fun b w u q=>?_,sr.ln,sr.nd,fun b q=>⟨?_,(sr.lh b q).2⟩,fun n b ob h1 h2 h3=>?_,sr.vl,fun j ob q=>?_,sr.oi,sr.ls⟩
   ·have hb:b≠a:=fun z=>by rw[z,f1]at q;cases q
    rw[upd_ne hb];exact sr.fr b w q
   ·have hb:b≠a:=fun z=>by rw[z,za0]at q;cases q
    unfold Rz
    rw[upd_ne hb];exact sr.zh b w q
   ·have q':=r.lk b w u q
    have hb:b≠a:=fun z=>by rw[z,na.1]at q';cases q'
    rw[upd_ne hb];exact sr.lk b w u q
   ·have hb:b≠a:=fun z=>f2 (z▸q)
    rw[upd_ne hb];exact(sr.lh b q).1
   ·have hb:b≠a:=fun z=>f2 (z▸List.mem_of_getElem? h1)
    obtain⟨q1,q2⟩:=sr.cl n b ob h1 h2 h3
    exact⟨q1.at (upd_ne hb),q2⟩
   ·obtain⟨b,w1,w2,w3,w4⟩:=sr.ow j ob q
    have hb:b≠a:=fun z=>f3 j ob q (z▸w1)
    exact⟨b,w1,w2,w3.at (upd_ne hb),w4⟩
 ·refine .inl (h _ loc H' v (Ext.z sT) (Ah r r' none) ?_)
  exact cu.mono (fun b u hz=>by
   unfold kQ
   rw[(qU r r' hz).2]
   dsimp only
   rw[if_neg (fun z=>by cases z),hz]) _ q
theorem DG{g:Fn}{n:Nat}{ds:List D}{vs:List V}{Q:VK}(r:SR C Z loc s sv H)(q:bc C.cA Z loc (ds.map .d) vs)(hn:ds.length=n)(ht:ds.all zu=true)(h:EPost C Z loc sv (qu (g (ds.map .d) []) s) Q):eF C.cA n g vs H (B5 H Q) (WE C.W sv):=by
 refine⟨H,C.H0,nZ,[],ds.map .d,[],r.GG _,xB ht q,by simpa using hn,?_⟩
 cases e:g (ds.map .d) []with
 | stuck=>rw[e]at h;exact h
 | exc x s1=>rw[e]at h;exact h.elim
 | ok rv s1=>
  rw[e]at h
  cases rv with
  | own i=>exact h.elim
  | new o=>exact h.elim
  | val x=>
   cases x with
   | r n=>exact h.elim
   | tp l=>exact h.elim
   | d x=>
    cases x with
    | tup ds'=>exact fun Z' l' H' v g r' q'=>BA r r' q' h
    | _=>exact h.elim
theorem F7{k n:Nat}{fA:Addr}{fd:FuncData}{ps:List Str}{x:Str}{g:Fn}{fs:State→Res (List RV)}{cA:String→Addr}(hC:C.cA=cA)(tk:Takes X C.W)(F:FnOk X.prog X.w X.K X.mg X.base (L2.CX X.prog X.w) k fA fd ps (eF cA n g))(hr:Room k X.A)(hg:Gl X x)(hm:X.mg x=some (.ref fA))(hk:PySem.W.keepIn X.K (.ref fA)=true)
  (hb:Binds X.K fd ps []) (hn:ps.length=n) (ha:PA X (e::es) (eR C fs)) (hdb:(x==("__debug__":Str))=false) (hs:(e::es).all notStar=true):
  PE X (.Call (.Name x p) (e::es) [] pos) (aA C (rh n fs g)):=by
 subst hn hC
 have hs':=hs
 simp only[List.all_cons,Bool.and_eq_true]at hs
 refine c6 (BB F hr hg hm hk hb (fun σ=>passAt tk σ) ha hdb (di hs.1) (ik hs.2)) fun sv H Q h=>(eR.at h).imp fun vs H1 ⟨Z,loc,s,xs,r,q,h⟩=>?_
 cases e1:bI xs s with
 | stuck=>rw[e1]at h;exact h.elim
 | exc x s1=>exact absurd e1 ie
 | ok args s1=>
  rw[e1]at h
  simp only[Res.bind]at h
  obtain⟨Z1,g1,r1,q1⟩:=r.bI q e1
  split at h
  ·rename_i ds e2
   split at h
   ·rename_i hn
    exact DG r1 (sQ e2▸q1) hn.1 hn.2 (EPost.ext h g1)
   ·exact h.elim
  ·exact h.elim
end
end Vw
namespace Vw
open PySem L2 PyProof.Rows
def xA(t:List Nat):Option Int:=match PySem.intText? ⟨t.toArray⟩with
 | some n=>if t.length≤640 then some n else none
 | none=>none
def tM(rs:List RV)(s:State):Res RV:=
 match rs with
 | [x]=>match dv s x with
  | some (.str t)=>(match xA t with
   | some n=>a0 (.int n) s
   | none=>.stuck)
  | _=>.stuck
 | _=>.stuck
section
variable{C:Cst}{Z Z' Zc:Hp}{loc loc' l':List Addr}{s s':State}{sv sv':L2.St}{H H':Hp}
theorem w6:uu C tM (fun xs H Q=>∃ a n,xs=[.str a]∧PySem.intText? a=some n∧a.length≤640∧Q (.int n) H):=by
 intro Z loc s sv H rs vs Q r q h
 unfold tM at h
 split at h
 ·split at h
  ·rename_i t e
   obtain⟨v,rfl,rfl⟩:=Cd r q e
   split at h
   ·rename_i n hn
    unfold xA at hn
    split at hn
    ·rename_i m hm
     split at hn
     ·rename_i hl
      cases hn
      exact⟨_,n,rfl,hm,by simpa [Str.length]using hl,h.a0 r rfl⟩
     ·cases hn
    ·cases hn
   ·exact h.elim
  ·exact h.elim
 ·exact h.elim
end
end Vw
namespace K81
open PySem L2 PyProof.Rows Vw
abbrev jh(K:PySem.W.Frag)(x q:Str)(st:Stmt)(f:Addr)(fd:FuncData):Prop:=FunD K x q (defArgs st) (defBody st) (defScope st) [] [] f fd
def mK:=dW (cB (ai (ab 0) (eX []) (aQ .eq))) (av [(cC (fD (.int 0)))]) (av [])
def mU:=cC (ku "list" (ab 0) (aC []) uD ij)
def lR:=av [mK,mU]
def d4:Fn:=fW 1 lR
def wc:=cq 1 (dz 1 (aC [(ab 0)]) d4)
def vZ:=cq 2 (jL (jL (fD (.str (sS "abc1b2acb"))) (.ex (ai (ab 1) (fD (.int 7)) (binop .mod))) .no) .no (.ex (ai (ai (ab 1) (fD (.int 7)) (binop .fdiv)) (fD (.int 3)) (binop .mod))))
def wd:=cC (ai (eX [(ai (ab 2) (fD (.str (sS "a"))) (binop .add)),(ai (ab 2) (fD (.str (sS "b"))) (binop .add)),(ai (ab 2) (fD (.str (sS "ab"))) (binop .add)),(ai (fD (.str (sS "a"))) (ab 2) (binop .add)),(fD (.str (sS "c0")))]) (eX [(ai (ab 2) (ai (fD (.str (sS "abc"))) (ai (eX [(fD (.int 1)),(fD (.int 2)),(fD (.int 3)),(fD (.int 12))]) (ai (ai (ab 1) (fD (.int 21)) (binop .fdiv)) (fD (.int 4)) (binop .mod)) bK) (binop .mul)) (binop .add))]) (binop .add))
def sf:=av [wc,vZ,wd]
def iD:Fn:=fW 3 sf
def w0:=cq 2 (ai (ai (ai (ai (ai (ab 0) (fD (.int 2147483647)) (binop .mod)) (ai (ai (ab 1) (ab 1) (binop .mul)) (fD (.int 7919)) (binop .mul)) (binop .add)) (fD (.int 104729)) (binop .add)) (fD (.int 48271)) (binop .mul)) (fD (.int 2147483647)) (binop .mod))
def wY:=cC (ai (ai (ai (ab 2) (ab 2) (binop .mul)) (ai (fD (.int 69621)) (ab 1) (binop .mul)) (binop .add)) (fD (.int 2147483629)) (binop .mod))
def t7:=av [w0,wY]
def jU:Fn:=fW 3 t7
def kI:=cq 3 (ai (jL (ab 0) .no (.ex (fD (.int 63)))) (eX [(ab 1)]) (binop .add))
def kh:=ai (ab 9) (fD (.int 100000)) (binop .fdiv)
def kK:=cq 4 (lN [9] (.nm 9) (sD (ab 3) itemsOf) lW kh)
def kG:=cq 5 (eX [])
def j9:=av [(cq 7 (ai (ab 6) (eZ (aC [(ab 3)]) gk) (binop .mod))),(cq 8 (dz 2 (aC [(ai (ab 3) (ab 7) bK),(ab 6)]) jU)),(cq 8 (ai (ai (ai (ab 8) (ab 8) (binop .mul)) (ai (fD (.int 7)) (ab 6) (binop .mul)) (binop .add)) (fD (.int 2147483587)) (binop .mod))),(dW (kc [(cB (ai (ai (ab 3) (ab 7) bK) (ai (fD (.int 10)) (fD (.int 18)) (binop .pow)) (aQ .ge))),(cB (ai (ai (ab 4) (ab 7) bK) (fD (.int 0)) (aQ .gt)))]) (av [(cq 8 (ai (ai (ab 4) (ab 7) bK) (fD (.int 2147483587)) (binop .mod))),(zq (ab 4) (ab 7) (ai (ai (ab 4) (ab 7) bK) (fD (.int 2147483587)) (binop .fdiv)))]) (av [])),(dH (ku "list" (ab 5) (aC [(ab 8)]) bAppend ij))]
def kJ:=nW (.nm 6) (kL (aC [(ai (ab 1) (ab 2) (binop .add))]) lS) j9
def kD:=cC (jL (ab 5) (.ex (ab 1)) .no)
def j4:=av [kI,kK,kG,kJ,kD]
def dy:Fn:=fW 10 j4
def uT:=cC (ai (eX [(fD (.str (sS "title"))),(fD (.str (sS "body"))),(fD (.str (sS "h"))),(fD (.str (sS "*"))),(fD (.str (sS "*"))),(fD (.str (sS "zz")))]) (ai (dz 1 (aC [(ab 0)]) d4) (fD (.int 6)) (binop .mod)) bK)
def qB:=av [uT]
def iO:Fn:=fW 1 qB
def sx:=cq 2 (dz 1 (aC [(ab 0)]) d4)
def sC:=cq 3 (ai (ai (ab 1) (eX [(fD (.str (sS "zz")))]) (binop .add)) (ai (ab 2) (ai (eZ (aC [(ab 1)]) gk) (fD (.int 1)) (binop .add)) (binop .mod)) bK)
def sy:=cq 4 (ai (ai (ab 2) (fD (.int 16)) (binop .fdiv)) (eZ (aC [(ab 3)]) gk) (binop .mod))
def sF:=cq 5 (eX [(ai (jL (ab 3) .no (.ex (ab 4))) (fD (.str (sS "*"))) (binop .add)),(ai (fD (.str (sS "*"))) (jL (ab 3) (.ex (ab 4)) .no) (binop .add)),(ai (ai (jL (ab 3) .no (.ex (ab 4))) (fD (.str (sS "?"))) (binop .add)) (jL (ab 3) (.ex (ai (ab 4) (fD (.int 1)) (binop .add))) .no) (binop .add)),(ab 3),(fD (.str (sS "*"))),(ai (fD (.str (sS "?"))) (ai (fD (.int 1)) (ab 4) (binop .add)) (binop .mul))])
def sL:=cC (ai (ai (ab 5) (eX [(ai (ai (jL (ab 3) .no (.ex (ab 4))) (fD (.str (sS "*"))) (binop .add)) (jL (ab 3) (.ex (ai (ab 4) (fD (.int 1)) (binop .add))) .no) (binop .add)),(ai (ai (fD (.str (sS "*"))) (ai (ab 3) (ab 4) bK) (binop .add)) (fD (.str (sS "*"))) (binop .add))]) (binop .add)) (ai (ai (ab 2) (fD (.int 256)) (binop .fdiv)) (fD (.int 8)) (binop .mod)) bK)
def oq:=av [sx,sC,sy,sF,sL]
def gZ:Fn:=fW 6 oq
def rM(rec:Fn):=cq 3 (dz 1 (aC [(ab 0)]) d4)
def rJ(rec:Fn):=cq 4 (ai (ab 3) (fD (.int 9)) (binop .mod))
def rO(rec:Fn):=dW (cB (ai (ab 2) (fD (.int 0)) (aQ .eq))) (av [(cq 4 (ai (ab 4) (fD (.int 5)) (binop .mod)))]) (av [])
def ru(rec:Fn):=dW (cB (ai (ab 4) (fD (.int 5)) (aQ .lt))) (av [(cq 6 (dz 1 (aC [(ab 0)]) iO))]) (av [])
def rB(rec:Fn):=dW (cB (ai (ab 4) (fD (.int 0)) (aQ .eq))) (av [(cC (il [(fD (.str (sS "word"))),(ab 6),(ai (ai (ab 1) (eX [(fD (.str (sS "zz")))]) (binop .add)) (ai (ai (ab 3) (fD (.int 9)) (binop .fdiv)) (ai (eZ (aC [(ab 1)]) gk) (fD (.int 1)) (binop .add)) (binop .mod)) bK)]))]) (av [])
def rN(rec:Fn):=dW (cB (ai (ab 4) (fD (.int 1)) (aQ .eq))) (av [(cC (il [(fD (.str (sS "like"))),(ab 6),(dz 2 (aC [(ab 0),(ab 1)]) gZ)]))]) (av [])
def qn(rec:Fn):=ai (ab 1) (ai (dz 1 (aC [(ab 0)]) d4) (ai (eX [(fD (.int 2)),(eZ (aC [(ab 1)]) gk)]) (ai (ai (ab 3) (fD (.int 9)) (binop .fdiv)) (fD (.int 2)) (binop .mod)) bK) (binop .mod)) bK
def rW(rec:Fn):=dW (cB (ai (ab 4) (fD (.int 5)) (aQ .lt))) (av [(cq 7 (ai (fD (.int 1)) (ai (ai (ab 3) (fD (.int 18)) (binop .fdiv)) (ai (eX [(fD (.int 4)),(fD (.int 6))]) (ai (ai (ab 3) (fD (.int 2000)) (binop .fdiv)) (fD (.int 2)) (binop .mod)) bK) (binop .mod)) (binop .add))),(cq 8 (lN [9] (.nm 9) (kL (aC [(ab 7)]) lS) lW (qn rec))),(dW (cB (ai (ab 4) (fD (.int 2)) (aQ .eq))) (av [(cC (il [(fD (.str (sS "row"))),(ab 6),(ab 8)]))]) (av [])),(cC (il [(ai (eX [(fD (.str (sS "near"))),(fD (.str (sS "chain")))]) (ai (ab 4) (fD (.int 3)) (binop .sub)) bK),(ab 6),(ai (fD (.int 1)) (ai (ai (ab 3) (fD (.int 72)) (binop .fdiv)) (ai (eX [(fD (.int 9)),(fD (.int 20))]) (ai (ai (ab 3) (fD (.int 4000)) (binop .fdiv)) (fD (.int 2)) (binop .mod)) bK) (binop .mod)) (binop .add)),(ab 8)]))]) (av [])
def rC(rec:Fn):=dW (cB (ai (ab 4) (fD (.int 5)) (aQ .eq))) (av [(cC (il [(fD (.str (sS "not"))),(dz 3 (aC [(ab 0),(ab 1),(ai (ab 2) (fD (.int 1)) (binop .sub))]) rec)]))]) (av [])
def qq(rec:Fn):=dz 3 (aC [(ab 0),(ab 1),(ai (ab 2) (fD (.int 1)) (binop .sub))]) rec
def rQ(rec:Fn):=cq 5 (lN [9] (.nm 9) (kL (aC [(ai (ai (ab 3) (fD (.int 9)) (binop .fdiv)) (ai (eX [(fD (.int 4)),(fD (.int 4)),(fD (.int 4)),(fD (.int 3))]) (ab 2) bK) (binop .mod))]) lS) lW (qq rec))
def rF(rec:Fn):=cC (il [(ai (eX [(fD (.str (sS "both"))),(fD (.str (sS "one")))]) (ai (ab 4) (fD (.int 2)) (binop .mod)) bK),(ab 5)])
def ny(rec:Fn):=av [(rM rec),(rJ rec),(rO rec),(ru rec),(rB rec),(rN rec),(rW rec),(rC rec),(rQ rec),(rF rec)]
def cX:Nat→Fn
 | 0=>fun _ _=>.stuck
 | k+1=>fW 10 (ny (cX k))
def um:=dW (cB (ai (ai (ab 0) (fD (.int 0)) bK) (fD (.str (sS "word"))) (aQ .eq))) (av [(cC (ai (ab 0) (fD (.int 2)) bK))]) (av [])
def uc:=dW (cB (ai (ai (ab 0) (fD (.int 0)) bK) (fD (.str (sS "like"))) (aQ .eq))) (av [(dW (jO [(cB (ai (fD (.str (sS "?"))) (ai (ab 0) (fD (.int 2)) bK) (aQ .isin))),(cB (ai (fD (.str (sS "*"))) (ai (ab 0) (fD (.int 2)) bK) (aQ .isin)))]) (av [(cC (ai (ab 0) (fD (.int 2)) bK))]) (av [])),(cC (ai (fD (.str (sS "~"))) (ai (ab 0) (fD (.int 2)) bK) (binop .add)))]) (av [])
def uE:=cq 1 (ku "str" (fD (.str (sS " "))) (aC [(ai (ab 0) (ly (fD (.int 1))) bK)]) qV t9)
def vw:=dW (cB (ai (ai (ab 0) (fD (.int 0)) bK) (fD (.str (sS "row"))) (aQ .eq))) (av [(cC (ai (ai (fD (.str (sS "\""))) (ab 1) (binop .add)) (fD (.str (sS "\""))) (binop .add)))]) (av [])
def uB:=dW (cB (ai (ai (ab 0) (fD (.int 0)) bK) (fD (.str (sS "near"))) (aQ .eq))) (av [(cC (ai (ai (ai (eZ (aC [(ai (ab 0) (fD (.int 2)) bK)]) oS) (fD (.str (sS "<"))) (binop .add)) (ab 1) (binop .add)) (fD (.str (sS ">"))) (binop .add)))]) (av [])
def uw:=cC (ai (ai (ai (eZ (aC [(ai (ab 0) (fD (.int 2)) bK)]) oS) (fD (.str (sS "["))) (binop .add)) (ab 1) (binop .add)) (fD (.str (sS "]"))) (binop .add))
def p7:=av [um,uc,uE,vw,uB,uw]
def iJ:Fn:=fW 2 p7
def rL(rec:Fn):=dW (cB (ai (ai (ab 0) (fD (.int 0)) bK) (fD (.str (sS "not"))) (aQ .eq))) (av [(cC (ai (fD (.str (sS "!"))) (dz 1 (aC [(ai (ab 0) (fD (.int 1)) bK)]) rec) (binop .add)))]) (av [])
def rE(rec:Fn):=dW (kc [(cB (ai (ai (ab 0) (fD (.int 0)) bK) (fD (.str (sS "both"))) (aQ .ne))),(cB (ai (ai (ab 0) (fD (.int 0)) bK) (fD (.str (sS "one"))) (aQ .ne)))]) (av [(cC (ai (ai (ai (ab 0) (fD (.int 1)) bK) (fD (.str (sS ":"))) (binop .add)) (dz 1 (aC [(ab 0)]) iJ) (binop .add)))]) (av [])
def rT(rec:Fn):=cq 1 (Cp (cB (ai (ai (ab 0) (fD (.int 0)) bK) (fD (.str (sS "both"))) (aQ .eq))) (fD (.str (sS "&"))) (fD (.str (sS "|"))))
def qN(rec:Fn):=dz 1 (aC [(ab 3)]) rec
def rV(rec:Fn):=cq 2 (lN [3] (.nm 3) (sD (ai (ab 0) (fD (.int 1)) bK) itemsOf) lW (qN rec))
def rA(rec:Fn):=dW (cB (ai (eZ (aC [(ab 2)]) gk) (fD (.int 0)) (aQ .eq))) (av [(cC (ai (ai (fD (.str (sS "("))) (ab 1) (binop .add)) (fD (.str (sS ")"))) (binop .add)))]) (av [])
def rH(rec:Fn):=dW (cB (ai (eZ (aC [(ab 2)]) gk) (fD (.int 1)) (aQ .eq))) (av [(cC (ai (ai (ai (ai (fD (.str (sS "("))) (ab 1) (binop .add)) (fD (.str (sS " "))) (binop .add)) (ai (ab 2) (fD (.int 0)) bK) (binop .add)) (fD (.str (sS ")"))) (binop .add)))]) (av [])
def rK(rec:Fn):=cC (ai (ai (fD (.str (sS "("))) (ku "str" (ai (ai (fD (.str (sS " "))) (ab 1) (binop .add)) (fD (.str (sS " "))) (binop .add)) (aC [(ab 2)]) qV t9) (binop .add)) (fD (.str (sS ")"))) (binop .add))
def nr(rec:Fn):=av [(rL rec),(rE rec),(rT rec),(rV rec),(rA rec),(rH rec),(rK rec)]
def d8:Nat→Fn
 | 0=>fun _ _=>.stuck
 | k+1=>fW 4 (nr (d8 k))
def uh(rec:Fn):=dW (cB (ai (ai (ab 0) (fD (.int 0)) bK) (fD (.str (sS "not"))) (aQ .eq))) (av [(cC (ai (fD (.str (sS "!"))) (dz 1 (aC [(ai (ab 0) (fD (.int 1)) bK)]) rec) (binop .add)))]) (av [])
def tV(rec:Fn):=av [(dW (cB (ai (ab 6) (fD (.int 0)) (aQ .gt))) (av [(cq 1 (ai (ai (ai (ab 1) (fD (.str (sS " "))) (binop .add)) (ab 5) (binop .add)) (fD (.str (sS " "))) (binop .add)))]) (av [])),(cq 1 (ai (ab 1) (dz 1 (aC [(ab 7)]) rec) (binop .add)))]
def u3(rec:Fn):=dW (jO [(cB (ai (ai (ab 0) (fD (.int 0)) bK) (fD (.str (sS "both"))) (aQ .eq))),(cB (ai (ai (ab 0) (fD (.int 0)) bK) (fD (.str (sS "one"))) (aQ .eq)))]) (av [(cq 5 (ai (eX [(fD (.str (sS "|"))),(fD (.str (sS "&")))]) (eZ (aC [(ai (ai (ab 0) (fD (.int 0)) bK) (fD (.str (sS "both"))) (aQ .eq))]) uv) bK)),(cq 1 (fD (.str (sS "(")))),(dW (cB (ai (eZ (aC [(ai (ab 0) (fD (.int 1)) bK)]) gk) (fD (.int 2)) (aQ .lt))) (av [(cq 1 (ai (ai (ab 1) (ab 5) (binop .add)) (ai (fD (.str (sS " "))) (eZ (aC [(ai (ab 0) (fD (.int 1)) bK)]) gk) (binop .mul)) (binop .add)))]) (av [])),(nW (.tp [(.nm 6),(.nm 7)]) (sD (ai (ab 0) (fD (.int 1)) bK) mx) (tV rec)),(cC (ai (ab 1) (fD (.str (sS ")"))) (binop .add)))]) (av [])
def vk(rec:Fn):=cq 1 (ai (ai (ab 0) (fD (.int 1)) bK) (fD (.str (sS ":"))) (binop .add))
def ud(rec:Fn):=dW (cB (ai (ai (ab 0) (fD (.int 0)) bK) (fD (.str (sS "word"))) (aQ .eq))) (av [(cC (ai (ab 1) (ai (ab 0) (fD (.int 2)) bK) (binop .add)))]) (av [])
def uz(rec:Fn):=dW (cB (ai (ai (ab 0) (fD (.int 0)) bK) (fD (.str (sS "like"))) (aQ .eq))) (av [(cC (ai (ai (ab 1) (ai (fD (.str (sS "~"))) (eZ (aC [(gX [(ai (fD (.str (sS "?"))) (ai (ab 0) (fD (.int 2)) bK) (aQ .notin)),(ai (fD (.str (sS "*"))) (ai (ab 0) (fD (.int 2)) bK) (aQ .notin))])]) uv) (binop .mul)) (binop .add)) (ai (ab 0) (fD (.int 2)) bK) (binop .add)))]) (av [])
def vm(rec:Fn):=cq 2 (fD (.str (sS "")))
def tF(rec:Fn):=av [(cq 2 (ai (ai (ab 2) (fD (.str (sS " "))) (binop .add)) (ab 3) (binop .add)))]
def uI(rec:Fn):=nW (.nm 3) (sD (ai (ab 0) (ly (fD (.int 1))) bK) itemsOf) (tF rec)
def u0(rec:Fn):=dW (cB (ai (ai (ab 0) (fD (.int 0)) bK) (fD (.str (sS "row"))) (aQ .eq))) (av [(cC (ai (ai (ai (ab 1) (fD (.str (sS "\""))) (binop .add)) (jL (ab 2) (.ex (fD (.int 1))) .no) (binop .add)) (fD (.str (sS "\""))) (binop .add)))]) (av [])
def uP(rec:Fn):=cq 4 (ai (eX [(fD (.str (sS "[]"))),(fD (.str (sS "<>")))]) (eZ (aC [(ai (ai (ab 0) (fD (.int 0)) bK) (fD (.str (sS "near"))) (aQ .eq))]) uv) bK)
def ve(rec:Fn):=cC (ai (ai (ai (ai (ab 1) (eZ (aC [(ai (ab 0) (fD (.int 2)) bK)]) oS) (binop .add)) (ai (ab 4) (fD (.int 0)) bK) (binop .add)) (jL (ab 2) (.ex (fD (.int 1))) .no) (binop .add)) (ai (ab 4) (fD (.int 1)) bK) (binop .add))
def qC(rec:Fn):=av [(uh rec),(u3 rec),(vk rec),(ud rec),(uz rec),(vm rec),(uI rec),(u0 rec),(uP rec),(ve rec)]
def e8:Nat→Fn
 | 0=>fun _ _=>.stuck
 | k+1=>fW 8 (qC (e8 k))
def m7:=wC fT "line" (ab 0) (ab 1)
def m9:=wC fT "at" (ab 0) (fD (.int 0))
def jE:=av [m7,m9]
def g0:Fn:=fW 2 jE
def oa:=cC (ai (jL (jC fT "line" (ab 0)) (.ex (jC fT "at" (ab 0))) (.ex (ai (jC fT "at" (ab 0)) (eZ (aC [(ab 1)]) gk) (binop .add)))) (ab 1) (aQ .eq))
def kv:=av [oa]
def aW:Fn:=fW 2 kv
def pY:=dW (jV (cB (ab 1))) (av [(qJ "NoText")]) (av [])
def lM:=av [pY]
def eG:Fn:=fW 2 lM
def qh:=dH (cw cx "AskReader" "sure" 2 (ab 0) (aC [(cw eg "AskReader" "begins" 2 (ab 0) (aC [(ab 1)]) aW)]) eG)
def qA:=lU fT "at" .add (ab 0) (eZ (aC [(ab 1)]) gk)
def mN:=av [qh,qA]
def aZ:Fn:=fW 2 mN
def nX:=cq 3 (jC fT "at" (ab 0))
def nQ:=av [(lU fT "at" .add (ab 0) (fD (.int 1)))]
def oj:=pG jl (kc [(cB (ai (jC fT "at" (ab 0)) (eZ (aC [(jC fT "line" (ab 0))]) gk) (aQ .lt))),(cB (ai (ai (jC fT "line" (ab 0)) (jC fT "at" (ab 0)) bK) (ab 1) (aQ .isin)))]) nQ
def oA:=dH (cw cx "AskReader" "sure" 2 (ab 0) (aC [(z4 (fD (.int 0)) (ai (jC fT "at" (ab 0)) (ab 3) (binop .sub)) (ab 2) (aQ .lt) (aQ .le))]) eG)
def n9:=cC (jL (jC fT "line" (ab 0)) (.ex (ab 3)) (.ex (jC fT "at" (ab 0))))
def ko:=av [nX,oj,oA,n9]
def df:Fn:=fW 4 ko
def pV(rec:Fn):=cq 1 (t2 [(.s (sS "&"),.str (sS "both")),(.s (sS "|"),.str (sS "one"))])
def pO(rec:Fn):=dW (jO [(cB (cw eg "AskReader" "begins" 2 (ab 0) (aC [(fD (.str (sS "&")))]) aW)),(cB (cw eg "AskReader" "begins" 2 (ab 0) (aC [(fD (.str (sS "|")))]) aW))]) (av [(cq 3 (cw cx "AskReader" "row_of" 3 (ab 0) (aC [(fD (.str (sS "&|"))),(fD (.int 1))]) df)),(dW (cB (cw eg "AskReader" "begins" 2 (ab 0) (aC [(fD (.str (sS ")")))]) aW)) (av [(dH (cw cx "AskReader" "eat" 2 (ab 0) (aC [(fD (.str (sS ")")))]) aZ)),(cC (il [(ai (ab 1) (ab 3) bK),(eX [])]))]) (av [])),(dH (cw cx "AskReader" "eat" 2 (ab 0) (aC [(fD (.str (sS " ")))]) aZ)),(cq 2 (eX [(cw cx "AskReader" "question" 1 (ab 0) (aC []) rec)])),(dH (cw cx "AskReader" "eat" 2 (ab 0) (aC [(fD (.str (sS ")")))]) aZ)),(cC (il [(ai (ab 1) (ab 3) bK),(ab 2)]))]) (av [])
def pX(rec:Fn):=cq 2 (eX [(cw cx "AskReader" "question" 1 (ab 0) (aC []) rec)])
def pQ(rec:Fn):=dH (cw cx "AskReader" "eat" 2 (ab 0) (aC [(fD (.str (sS " ")))]) aZ)
def pP(rec:Fn):=cq 3 (cw cx "AskReader" "row_of" 3 (ab 0) (aC [(fD (.str (sS "&|"))),(fD (.int 1))]) df)
def pW(rec:Fn):=dH (cw cx "AskReader" "eat" 2 (ab 0) (aC [(fD (.str (sS " ")))]) aZ)
def pT(rec:Fn):=dH (ku "list" (ab 2) (aC [(cw cx "AskReader" "question" 1 (ab 0) (aC []) rec)]) bAppend ij)
def oJ(rec:Fn):=av [(dH (cw cx "AskReader" "eat" 2 (ab 0) (aC [(ai (ai (fD (.str (sS " "))) (ab 3) (binop .add)) (fD (.str (sS " "))) (binop .add))]) aZ)),(dH (ku "list" (ab 2) (aC [(cw cx "AskReader" "question" 1 (ab 0) (aC []) rec)]) bAppend ij))]
def pU(rec:Fn):=pG jl (jV (cB (cw eg "AskReader" "begins" 2 (ab 0) (aC [(fD (.str (sS ")")))]) aW))) (oJ rec)
def pR(rec:Fn):=dH (cw cx "AskReader" "eat" 2 (ab 0) (aC [(fD (.str (sS ")")))]) aZ)
def pM(rec:Fn):=cC (il [(ai (ab 1) (ab 3) bK),(ab 2)])
def lL(rec:Fn):=av [(pV rec),(pO rec),(pX rec),(pQ rec),(pP rec),(pW rec),(pT rec),(pU rec),(pR rec),(pM rec)]
def i6(rec:Fn):Fn:=fW 4 (lL rec)
def oV:=cq 2 (eX [(cw cx "AskReader" "row_of" 3 (ab 0) (aC [(ai (fD (.str (sS "abcdefghijklmnopqrstuvwxyz"))) (fD (.str (sS "0123456789"))) (binop .add)),(fD (.int 40))]) df)])
def n0:=av [(dH (cw cx "AskReader" "eat" 2 (ab 0) (aC [(fD (.str (sS " ")))]) aZ)),(dH (ku "list" (ab 2) (aC [(cw cx "AskReader" "row_of" 3 (ab 0) (aC [(ai (fD (.str (sS "abcdefghijklmnopqrstuvwxyz"))) (fD (.str (sS "0123456789"))) (binop .add)),(fD (.int 40))]) df)]) bAppend ij))]
def oT:=pG jl (jV (cB (cw eg "AskReader" "begins" 2 (ab 0) (aC [(ab 1)]) aW))) n0
def oM:=dH (cw cx "AskReader" "eat" 2 (ab 0) (aC [(ab 1)]) aZ)
def oN:=dH (cw cx "AskReader" "sure" 2 (ab 0) (aC [(ai (eZ (aC [(ab 2)]) gk) (fD (.int 6)) (aQ .le))]) eG)
def o5:=cC (ab 2)
def lg:=av [oV,oT,oM,oN,o5]
def fH:Fn:=fW 3 lg
def oI:=dW (cB (cw eg "AskReader" "begins" 2 (ab 0) (aC [(fD (.str (sS "\"")))]) aW)) (av [(dH (cw cx "AskReader" "eat" 2 (ab 0) (aC [(fD (.str (sS "\"")))]) aZ)),(cC (il [(fD (.str (sS "row"))),(ab 1),(cw cx "AskReader" "words" 2 (ab 0) (aC [(fD (.str (sS "\"")))]) fH)]))]) (av [])
def oH:=dW (cB (cw eg "AskReader" "begins" 2 (ab 0) (aC [(fD (.str (sS "~")))]) aW)) (av [(dH (cw cx "AskReader" "eat" 2 (ab 0) (aC [(fD (.str (sS "~")))]) aZ)),(cC (il [(fD (.str (sS "like"))),(ab 1),(cw cx "AskReader" "row_of" 3 (ab 0) (aC [(ai (fD (.str (sS "abcdefghijklmnopqrstuvwxyz"))) (fD (.str (sS "0123456789"))) (binop .add)),(fD (.int 40))]) df)]))]) (av [])
def oX:=cq 2 (cw cx "AskReader" "row_of" 3 (ab 0) (aC [(ai (ai (fD (.str (sS "abcdefghijklmnopqrstuvwxyz"))) (fD (.str (sS "0123456789"))) (binop .add)) (fD (.str (sS "?*"))) (binop .add)),(fD (.int 40))]) df)
def oh:=eZ (aC [(ab 3)]) oS
def oQ:=dW (jO [(cB (cw eg "AskReader" "begins" 2 (ab 0) (aC [(fD (.str (sS "<")))]) aW)),(cB (cw eg "AskReader" "begins" 2 (ab 0) (aC [(fD (.str (sS "[")))]) aW))]) (av [(dH (cw cx "AskReader" "sure" 2 (ab 0) (aC [(ai (ab 2) (lN [3] (.nm 3) (kL (aC [(fD (.int 1)),(fD (.int 21))]) s9) lW oh) (aQ .isin))]) eG)),(dW (cB (cw eg "AskReader" "begins" 2 (ab 0) (aC [(fD (.str (sS "<")))]) aW)) (av [(dH (cw cx "AskReader" "eat" 2 (ab 0) (aC [(fD (.str (sS "<")))]) aZ)),(cC (il [(fD (.str (sS "near"))),(ab 1),(eZ (aC [(ab 2)]) tM),(cw cx "AskReader" "words" 2 (ab 0) (aC [(fD (.str (sS ">")))]) fH)]))]) (av [])),(dH (cw cx "AskReader" "eat" 2 (ab 0) (aC [(fD (.str (sS "[")))]) aZ)),(cC (il [(fD (.str (sS "chain"))),(ab 1),(eZ (aC [(ab 2)]) tM),(cw cx "AskReader" "words" 2 (ab 0) (aC [(fD (.str (sS "]")))]) fH)]))]) (av [])
def oP:=dW (jO [(cB (ai (fD (.str (sS "?"))) (ab 2) (aQ .isin))),(cB (ai (fD (.str (sS "*"))) (ab 2) (aQ .isin)))]) (av [(cC (il [(fD (.str (sS "like"))),(ab 1),(ab 2)]))]) (av [])
def o6:=cC (il [(fD (.str (sS "word"))),(ab 1),(ab 2)])
def kZ:=av [oI,oH,oX,oQ,oP,o6]
def iQ:Fn:=fW 4 kZ
def nc(rec:Fn):=dW (cB (cw eg "AskReader" "begins" 2 (ab 0) (aC [(fD (.str (sS "!")))]) aW)) (av [(dH (cw cx "AskReader" "eat" 2 (ab 0) (aC [(fD (.str (sS "!")))]) aZ)),(cC (il [(fD (.str (sS "not"))),(cw cx "AskReader" "question" 1 (ab 0) (aC []) rec)]))]) (av [])
def m6(rec:Fn):=dW (cB (cw eg "AskReader" "begins" 2 (ab 0) (aC [(fD (.str (sS "(")))]) aW)) (av [(dH (cw cx "AskReader" "eat" 2 (ab 0) (aC [(fD (.str (sS "(")))]) aZ)),(cC (cw cx "AskReader" "many" 1 (ab 0) (aC []) (i6 rec)))]) (av [])
def nh(rec:Fn):=dW (cB (cw eg "AskReader" "begins" 2 (ab 0) (aC [(fD (.str (sS "*")))]) aW)) (av [(dH (cw cx "AskReader" "eat" 2 (ab 0) (aC [(fD (.str (sS "*")))]) aZ)),(cq 1 (fD (.str (sS "*"))))]) (av [(cq 1 (cw cx "AskReader" "row_of" 3 (ab 0) (aC [(fD (.str (sS "abcdefghijklmnopqrstuvwxyz"))),(fD (.int 12))]) df))])
def m8(rec:Fn):=dH (cw cx "AskReader" "eat" 2 (ab 0) (aC [(fD (.str (sS ":")))]) aZ)
def ni(rec:Fn):=cC (cw cx "AskReader" "asked" 2 (ab 0) (aC [(ab 1)]) iQ)
def jN(rec:Fn):=av [(nc rec),(m6 rec),(nh rec),(m8 rec),(ni rec)]
def d9:Nat→Fn
 | 0=>fun _ _=>.stuck
 | k+1=>fW 2 (jN (d9 k))
def rP:=cq 1 (Cn eg "AskReader" 2 (aC [(ab 0)]) g0)
def rR:=cq 2 (cw cx "AskReader" "question" 1 (ab 1) (aC []) (d9 4))
def rG:=dH (cw cx "AskReader" "sure" 2 (ab 1) (aC [(ai (jC fT "at" (ab 1)) (eZ (aC [(ab 0)]) gk) (aQ .eq))]) eG)
def rD:=cC (ab 2)
def nz:=av [rP,rR,rG,rD]
def dG:Fn:=fW 3 nz
def Df:=CG 1 (cq 1 (dz 1 (aC [(sl (dz 3 (aC [(ab 0),(fD (.int 1)),(fD (.int 2))]) dy))]) iD))
def Dx:=cq 2 (dz 3 (aC [(sl (dz 3 (aC [(ab 0),(fD (.int 400)),(fD (.int 40))]) dy)),(ab 1),(fD (.int 2))]) (cX 4))
def C9:=cq 3 (dz 1 (aC [(ab 2)]) (d8 4))
def Dz:=dW (jO [(jV (cB (mY "str" (ab 3)))),(cB (ai (ab 3) (dz 1 (aC [(ab 2)]) (e8 4)) (aQ .ne)))]) (av [(cC (fD (.bl false)))]) (av [])
def yY:=cq 4 (rh 1 (aC [(ab 3)]) dG)
def yE:=dW (jO [(jV (cB (mY "tuple" (ab 4)))),(cB (ai (ab 4) (ab 2) (nE 6 true)))]) (av [(cC (fD (.bl false)))]) (av [])
def yO:=dW (cB (mY "list" (ai (ab 4) (ly (fD (.int 1))) bK))) (av [(dH (ku "list" (ai (ab 4) (ly (fD (.int 1))) bK) (aC [(fD (.str (sS "zz")))]) bAppend ij))]) (av [])
def uL:=cC (gX [(ai (tA 1 (aC [(ab 3)]) dG) (ab 2) (aQ .eq)),(ai (ab 2) (dz 3 (aC [(sl (dz 3 (aC [(ab 0),(fD (.int 400)),(fD (.int 40))]) dy)),(ab 1),(fD (.int 2))]) (cX 4)) (aQ .eq))])
def zF:=av [Df,Dx,C9,Dz,yY,yE,yO,uL]
def q8:Fn:=fW 5 zF
end K81
namespace Sh
open PySem L2 PyProof.Rows Vw
def mK:State→Res Fl:=(dW (cB (ai (ab 0) (eX []) (aQ .eq))) (av [(cC (fD (.int 0)))]) (av []))
def mU:State→Res Fl:=(cC (ku "list" (ab 0) (aC []) uD ij))
def lR:State→Res Fl:=(av [mK,mU])
def d4:Fn:=fW 1 lR
def kI:State→Res Fl:=(cq 3 (ai (jL (ab 0) .no (.ex (fD (.int 63)))) (eX [(ab 1)]) (binop .add)))
def kK:State→Res Fl:=(cq 4 (eX []))
def kh:State→Res RV:=(ai (ab 10) (fD (.int 100000)) (binop .fdiv))
def j9:State→Res Fl:=(av [(cq 9 (ai (ab 5) (eZ (aC [(ab 6)]) gk) (binop .mod))),(dW (cB (ai (ab 5) (ab 1) (aQ .ge))) (av [(dH (ku "list" (ab 4) (aC [(ai (ai (ab 6) (ab 9) bK) (fD (.int 2147483587)) (binop .mod))]) bAppend ij))]) (av [])),(zq (ab 6) (ab 9) (ai (ai (ab 6) (ab 9) bK) (fD (.int 2147483587)) (binop .fdiv)))])
def kG:State→Res Fl:=(dW (cB (ai (ai (ai (ai (ab 3) (fD (.int 0)) bK) (fD (.int 50000)) (binop .fdiv)) (fD (.int 2)) (binop .mod)) (fD (.int 1)) (aQ .eq))) (av [(cq 6 (lN [10] (.nm 10) (sD (ab 3) itemsOf) lW kh)),(nW (.nm 5) (kL (aC [(ai (ab 1) (ab 2) (binop .add))]) lS) j9),(cC (ab 4))]) (av []))
def tG:State→Res Fl:=(av [(cq 7 (ai (ai (ai (ai (ab 5) (ab 1) (binop .add)) (ai (ab 5) (ab 1) (binop .add)) (binop .mul)) (fD (.int 7919)) (binop .mul)) (fD (.int 104729)) (binop .add))),(cq 8 (ai (ai (ai (ai (ai (ab 3) (ai (ab 5) (eZ (aC [(ab 3)]) gk) (binop .mod)) bK) (fD (.int 2147483647)) (binop .mod)) (ab 7) (binop .add)) (fD (.int 48271)) (binop .mul)) (fD (.int 2147483647)) (binop .mod))),(cq 8 (ai (ai (ai (ab 8) (ab 8) (binop .mul)) (ai (fD (.int 69621)) (ab 5) (binop .mul)) (binop .add)) (fD (.int 2147483629)) (binop .mod))),(dH (ku "list" (ab 4) (aC [(ai (ai (ab 8) (ab 8) (binop .mul)) (fD (.int 2147483587)) (binop .mod))]) bAppend ij))])
def kJ:State→Res Fl:=(nW (.nm 5) (kL (aC [(ab 2)]) lS) tG)
def kD:State→Res Fl:=(cC (ab 4))
def j4:State→Res Fl:=(av [kI,kK,kG,kJ,kD])
def dy:Fn:=fW 11 j4
@[simp] theorem Jv(a b:List D)(s:State):o7 (.val (.d (.lst a))) (.val (.d (.lst b))) s=(if a.length+b.length≤sizeLine then .ok (.new (.lst (a.map .d++b.map .d))) s else .stuck):=by
 show(if(a.map Val.d).length+(b.map Val.d).length≤sizeLine then _ else _)=_
 rw[List.length_map,List.length_map]
@[simp] theorem DV(a b:List Nat)(s:State):o7 (.val (.d (.str a))) (.val (.d (.str b))) s=(if a.length+b.length≤sizeLine then .ok (.val (.d (.str (a++b)))) s else .stuck):=id rfl
theorem vV{α:Type}(l:List α)(b:Nat):ey l none (some (b:Int))=l.take b:=by
 have h:=sV l 0 b
 simpa [ey,HT.sIx]using h
theorem yU{n:Nat}{i:Int}(h0:0≤i)(h1:i<n):ixN n i=some i.toNat:=by
 unfold ixN
 rw[if_pos h0,if_pos h1]
@[simp] theorem JR(l:List D):iy (.lst l) (.lst [])=l.isEmpty:=by
 show PyData.eqv (.list (fG l)) (.list (fG []))=_
 cases l<;> simp[fG,PyData.eqv,PyData.eqvAll]
end Sh
namespace Vw
open PySem L2 PyProof.Rows
def xt(sg:Slots)(r:Res RV):Res RV:=
 match r with
 | .ok r s2=>.ok r ⟨sg,s2.st⟩
 | .exc x s2=>.exc x ⟨sg,s2.st⟩
 | .stuck=>.stuck
def ur(r:Res Fl):Res Fl:=
 match r with
 | .ok .cnt s=>.ok .nx s
 | r=>r
def KD(t:Tg)(b:State→Res Fl)(v:Val)(s:State):Res Fl:=
 match iF t v s with
 | some s=>ur (b s)
 | none=>.stuck
section
variable(sg:Slots)(st:List Ob)(s s':State)(i j n:Nat)(d d':D)(x y:Val)(o:Ob)(f g h fa fb fc fo:State→Res RV)(fs:State→Res (List RV))(r r':RV)(N:List String)(T c:String)(e:Exn)(k:Fl)(gg:Fn)(b:State→Res Fl)(t:Tg)(args:List Val)
@[simp] theorem Ij:xt sg (.ok r s)=.ok r ⟨sg,s.st⟩:=id rfl
@[simp] theorem G0:xt sg (.exc e s)=.exc e ⟨sg,s.st⟩:=id rfl
@[simp] theorem JI:cx gg args ⟨sg,st⟩=xt sg (gg args st):=id rfl
@[simp] theorem Iy:FO n fs gg s=(fs s).bind fun rs s=>(bI rs s).bind fun args s=>if args.length=n then cx gg args s else .stuck:=id rfl
@[simp] theorem JM:qJ c s=.exc ⟨c,none⟩ s:=id rfl
@[simp] theorem Il:D2 c f s=(ev f s).bind fun r s=>match eu r s with
 | .ok (.d x) s=>.exc ⟨c,some x⟩ s
 | _=>.stuck:=id rfl
@[simp] theorem Ln:Jm N T f s=(ev f s).bind fun r s=>match dv s r with
 | some (.exc c _)=>(match EH N c T with
  | some b=>a0 (.bl b) s
  | none=>.stuck)
 | some .non=>a0 (.bl false) s
 | _=>.stuck:=id rfl
@[simp] theorem LA:JU N f s=(ev f s).bind fun r s=>match dv s r with
 | some (.exc c [p])=>if N.contains c then a0 p s else .stuck
 | _=>.stuck:=id rfl
@[simp] theorem KQ:Iv r r' s=(match dv s r,dv s r' with
 | some (.bl a),some (.bl b)=>a0 (.bl (decide (a=b))) s
 | _,_=>.stuck):=id rfl
@[simp] theorem JO:GP r r' s=(match dv s r,dv s r' with
 | some (.bl a),some (.bl b)=>a0 (.bl (!decide (a=b))) s
 | _,_=>.stuck):=id rfl
@[simp] theorem Kc:Ju r r' s=(match lv s r,dv s r' with
 | some l,some (.int k)=>if-(2^63)≤k∧k<2^63∧l.length*k.toNat≤sizeLine then .ok (.new (.lst (List.replicate k.toNat l).flatten)) s else .stuck
 | _,_=>.stuck):=id rfl
@[simp] theorem KY:HJ f s=(ev f s).bind fun r s=>match dv s r with
 | some (.str t)=>if t.length≤sizeLine then a0 (.str t.reverse) s else .stuck
 | _=>match lv s r with
  | some l=>.ok (.new (.lst l.reverse)) s
  | none=>.stuck:=id rfl
@[simp] theorem J7:vJ s (.val (.d d))=(match d with
 | .non=>some "NoneType" | .bl _=>some "bool" | .int _=>some "int" | .str _=>some "str" | .lst _=>some "list" | .tup _=>some "tuple" | .dic _=>some "dict" | _=>none):=by cases d<;> rfl
@[simp] theorem Km:qV r [r'] s=(match dv s r,(sq s r').bind strsOf with
  | some (.str a),some ys=>if(ys.map (·.length)).sum+ys.length*a.length≤16777216 then a0 (.str (rl a ys)) s else .stuck
  | _,_=>.stuck):=id rfl
@[simp] theorem KL:ip .isin s (.val (.d (.str a))) (.val (.d (.str b')))=some (subIn a b'):=id rfl
@[simp] theorem JH:ip .notin s r r'=(inD s r r').map not:=id rfl
@[simp] theorem Kd:ip .isin s r r'=inD s r r':=id rfl
@[simp] theorem KO(a b:List Nat):inD s (.val (.d (.str a))) (.val (.d (.str b)))=some (subIn a b):=id rfl
@[simp] theorem J8:ip .isn s (.val (.d d)) (.val (.d .non))=some (match d with | .non=>false | _=>true):=by cases d<;> rfl
@[simp] theorem Li:ip .is s (.val (.d d)) (.val (.d .non))=some (match d with | .non=>true | _=>false):=by cases d<;> rfl
@[simp] theorem Lf(s:State)(r:RV):t9 s r=(match dv s r with | some (.str _)=>true | _=>false):=id rfl
@[simp] theorem KI(o x:List Nat)(s:State):bIndex (.val (.d (.str o))) [.val (.d (.str x))] s=(match Builtin.Str.occurrences (Vw.st o) (Vw.st x) 0 o.length 1 with | i::_=>.ok (.val (.d (.int (i:Nat)))) s | []=>.stuck):=id rfl
@[simp] theorem JC(a:List Nat)(j:Int):ux (.val (.d (.str a))) (.val (.d (.int j))) s=if 0≤j∧j<1000000∧a.length*j.toNat≤1000000 then a0 (.str (List.replicate j.toNat a).flatten) s else .stuck:=id rfl
@[simp] theorem Jx:ur (.ok .nx s)=.ok .nx s:=id rfl
@[simp] theorem Jq:ur (.ok .cnt s)=.ok .nx s:=id rfl
@[simp] theorem Jd:ur (.ok (.ret r) s)=.ok (.ret r) s:=id rfl
@[simp] theorem II:ur (.exc e s)=.exc e s:=id rfl
@[simp] theorem Le(v:Val):KD t b v s=(match iF t v s with | some s=>ur (b s) | none=>.stuck):=id rfl
end
@[simp] theorem LD(s:State)(a b:List Nat):tj s (.val (.d (.str a))) (.val (.d (.str b)))=some (decide (a=b)):=by
 show(if dM (.str a) (.str b)then some (iy (.str a) (.str b))else none)=_
 rw[if_pos (by rfl)]
 show some (Vw.st a==Vw.st b)=_
 by_cases h:a=b
 ·subst h;simp
 ·have h':Vw.st a≠Vw.st b:=fun z=>h (by
   have:=congrArg (fun x:Str=>x.cps.toList) z
   simpa [Vw.st]using this)
  have:(Vw.st a==Vw.st b)=false:=beq_eq_false_iff_ne.mpr h'
  rw[this];simp[h]
def Bi(vs:List Nat)(r:Res Val):Res (Option Val):=
 match r with
 | .ok y s=>.ok (some y) (eH vs s)
 | _=>.stuck
def Hr(vs:List Nat)(t:Tg)(ft:State→Res Bool)(fe:State→Res RV)(v:Val)(s:State):Res (Option Val):=
 match iF t v (eH vs s)with
 | none=>.stuck
 | some s=>(ft s).bind fun b s=>if b=true then(fe s).bind fun r s=>Bi vs (eu r s)else .ok none (eH vs s)
@[simp] theorem JA(vs:List Nat)(t:Tg)(ft:State→Res Bool)(fe:State→Res RV)(v:Val)(s:State):Hr vs t ft fe v s=(match iF t v (eH vs s)with
 | none=>.stuck
 | some s=>(ft s).bind fun b s=>if b=true then(fe s).bind fun r s=>Bi vs (eu r s)else .ok none (eH vs s)):=id rfl
@[simp] theorem JP(vs:List Nat)(y:Val)(s:State):Bi vs (.ok y s)=.ok (some y) (eH vs s):=id rfl
theorem yF(i j:Int):iy (.int i) (.int j)=decide (i=j):=by
 show(i==j)=_
 by_cases h:i=j<;> simp[h]
theorem yq(a b:List Nat):iy (.str a) (.str b)=decide (a=b):=by
 show(Vw.st a==Vw.st b)=_
 by_cases h:a=b
 ·subst h;simp
 ·have h':Vw.st a≠Vw.st b:=fun z=>h (by
   have:=congrArg (fun x:Str=>x.cps.toList) z
   simpa [Vw.st]using this)
  rw[beq_eq_false_iff_ne.mpr h'];simp[h]
theorem Fp(a b:Bool):iy (.bl a) (.bl b)=decide (a=b):=by cases a<;> cases b<;> rfl
def nP(l:List D)(x:D):Option Bool:=if(pd x).plain&&PyData.plainAll (fG l)&&decide (min (PyData.depthAll (fG l)) (pd x).depth≤60)then some (l.any fun y=>iy y x)else none
def vn(m:List Val)(x:D):Option Bool:=(toDs m).bind fun l=>nP l x
theorem sH{α:Type}[DecidableEq α](F:α→D)(l:List α)(x:α)(p:∀ y,fE (F y)=true)(q:∀ y,gu 40 (F y)=true)(e:∀ y z,iy (F y) (F z)=decide (y=z)):nP (l.map F) (F x)=some (decide (x∈l)):=by
 unfold nP
 have h1:=kN F l (fun y _=>p y)
 have h2:=n5 40 _ h1 (mP 40 F l fun y _=>q y)
 have h3:=qe 40 _ (p x) (q x)
 rw[if_pos (by simp[rp _ (p x),qi _ h1];omega)]
 congr 1
 induction l with
 | nil=>rfl
 | cons a l ih=>
  have h1':=kN F l (fun y _=>p y)
  rw[List.map_cons,List.any_cons,ih h1' (n5 40 _ h1' (mP 40 F l fun y _=>q y)),e]
  by_cases h:a=x
  ·simp[h]
  ·have h':¬ x=a:=fun z=>h z.symm
   simp[h,h']
@[simp] theorem B1(l:List Int)(i:Int):nP (l.map .int) (.int i)=some (decide (i∈l)):=(sH D.int l i (fun _=>rfl) (fun _=>rfl) yF).trans (by congr)
@[simp] theorem Jf(l:List (List Nat))(i:List Nat):nP (l.map .str) (.str i)=some (decide (i∈l)):=(sH D.str l i (fun _=>rfl) (fun _=>rfl) yq).trans (by congr)
@[simp] theorem JL(l:List Bool)(i:Bool):nP (l.map .bl) (.bl i)=some (decide (i∈l)):=(sH D.bl l i (fun _=>rfl) (fun _=>rfl) Fp).trans (by congr)
@[simp] theorem Jw(l:List Int)(i:Int):vn (l.map vI) (.int i)=some (decide (i∈l)):=by
 unfold vn;rw[toDs_vI];exact B1 l i
@[simp] theorem Kj(l:List D)(i:D):vn (l.map .d) i=nP l i:=by
 unfold vn;rw[toDs_map];rfl
def Jl(s:State)(x:RV)(j:Nat):Option Bool:=inD s x (.own j)
@[simp] theorem Kl(s:State)(x:D)(l:List D):inD s (.val (.d x)) (.val (.d (.lst l)))=nP l x:=by
 cases x<;> rfl
@[simp] theorem KR(sg:Slots)(st:List Ob)(x:D)(j:Nat):inD ⟨sg,st⟩ (.val (.d x)) (.own j)=(match sg[j]? with | some (some (.own (.lst m)))=>vn m x | some (some (.v (.d (.lst l))))=>nP l x | _=>Jl ⟨sg,st⟩ (.val (.d x)) j):=by
 split
 ·rename_i m e
  unfold inD jA og sj
  simp only[y6,zv,vq,e,En]
  unfold vn
  cases e3:toDs m with
  | none=>cases x<;> simp
  | some l=>cases x<;> simp[nP]
 ·rename_i l e
  unfold inD jA og sj
  simp only[y6,zv,vq,e,En]
  cases x<;> rfl
 ·rfl
theorem je(c:Nat)(t:List Nat):subIn [c] t=decide (c∈t):=by
 have:=PySem.StrLaws.found_one (Vw.st t) c
 unfold subIn
 have e:(Vw.st t).length=t.length:=by simp[Vw.st,Str.length]
 rw[←e]
 have e2:Vw.st [c]=⟨#[c]⟩:=rfl
 rw[e2]
 rw[this]
 have h:c∈(Vw.st t).cps.toList↔c∈t:=by simp[Vw.st]
 by_cases hc:c∈t
 ·rw[decide_eq_true hc,decide_eq_true (h.mpr hc)]
 ·rw[decide_eq_false hc,decide_eq_false (fun z=>hc (h.mp z))]
theorem yb(a:List Nat)(ys:List (List Nat)):rl a ys=TL.joinL a ys:=by
 unfold rl
 rw[TL.join_eq]
 have h:=TL.tl_join (Vw.st a) (ys.map Vw.st)
 have e1:TL.tl (Vw.st a)=a:=by simp[TL.tl,Vw.st]
 have e2:(ys.map Vw.st).map TL.tl=ys:=by
  rw[List.map_map]
  have:(TL.tl∘Vw.st)=(id:List Nat→List Nat):=by funext x;simp[TL.tl,Vw.st]
  rw[this,List.map_id]
 rw[e1,e2]at h
 exact h
end Vw
namespace Vw
open PySem L2
inductive M (α:Type) where
 | ok (a:α)
 | exc (x:Exn)
 | bad
def M.bind{α β:Type}:M α→(α→M β)→M β
 | .ok a,k=>k a
 | .exc x,_=>.exc x
 | .bad,_=>.bad
@[simp] theorem M.aa{α β:Type}(a:α)(k:α→M β):(M.ok a).bind k=k a:=id rfl
@[simp] theorem M.Bq{α β:Type}(x:Exn)(k:α→M β):(M.exc x:M α).bind k=.exc x:=id rfl
@[simp] theorem M.Ir{α β:Type}(k:α→M β):(M.bad:M α).bind k=.bad:=id rfl
theorem M.bind_assoc{α β γ:Type}(m:M α)(k:α→M β)(l:β→M γ):(m.bind k).bind l=m.bind fun a=>(k a).bind l:=by cases m<;> rfl
def gd(b:Bool):M Unit:=if b then .ok ()else .bad
@[simp] theorem vo:gd true=.ok ():=id rfl
abbrev Pt:=List (Option Sl)
def Fits(p:Pt)(g:Slots):Prop:=p.length=g.length∧∀ (i:Nat) (s:Sl),p[i]? =some (some s)→g[i]? =some (some s)
def gb:Pt→Pt→Prop
 | [],[]=>True
 | none::p,_::q=>gb p q
 | some s::p,t::q=>t=some s∧gb p q
 | _,_=>False
theorem gb.imp:∀ {p q:Pt},gb p q→p.length=q.length∧∀ (i:Nat) (s:Sl),p[i]? =some (some s)→q[i]? =some (some s)
 | [],[],_=>⟨rfl,fun i s h=>by simp at h⟩
 | [],_::_,h=>by simp[gb]at h
 | none::p,[],h=>by simp[gb]at h
 | some s::p,[],h=>by simp[gb]at h
 | none::p,t::q,h=>by
  have ih:=gb.imp (p:=p) (q:=q) h
  refine⟨by simp[ih.1],fun i s e=>?_⟩
  cases i with
  | zero=>simp at e
  | succ i=>exact ih.2 i s (by simpa using e)
 | some s::p,t::q,h=>by
  have ih:=gb.imp (p:=p) (q:=q) h.2
  refine⟨by simp[ih.1],fun i s' e=>?_⟩
  cases i with
  | zero=>simp at e ⊢;rw[h.1,e]
  | succ i=>exact ih.2 i s' (by simpa using e)
theorem Fits.weak{p q:Pt}{g:Slots}(h:Fits q g)(w:gb p q):Fits p g:=⟨w.imp.1.trans h.1,fun i s e=>h.2 i s (w.imp.2 i s e)⟩
theorem Fits.set{p:Pt}{g:Slots}(h:Fits p g)(i:Nat)(s:Sl):Fits (p.set i (some s)) (g.set i (some s)):=by
 refine⟨by simp[h.1],fun j s' e=>?_⟩
 rw[List.getElem?_set]at e ⊢
 split at e
 ·rename_i hij
  rw[if_pos hij]
  split at e
  ·rename_i hl
   rw[if_pos (h.1▸hl)]
   exact e
  ·cases e
 ·rename_i hij
  rw[if_neg hij]
  exact h.2 j s' e
theorem Fits.wipe{p:Pt}{g:Slots}(h:Fits p g):∀ vs:List Nat,(vs.all fun v=>(p.getD v none).isNone)=true→Fits p (ig g vs)
 | [],_=>h
 | v::vs,hv=>by
  have hv:(p.getD v none).isNone=true∧(vs.all fun v=>(p.getD v none).isNone)=true:=by simpa using hv
  have ih:=Fits.wipe h vs hv.2
  refine⟨by simp[ig,ih.1],fun j s e=>?_⟩
  show((ig g vs).set v none)[j]? =_
  rw[List.getElem?_set]
  split
  ·rename_i hvj
   subst hvj
   have:=hv.1
   rw[List.getD_eq_getElem?_getD,e]at this
   cases this
  ·exact ih.2 j s e
def Rn{α T:Type}(R:List Ob→Prop)(r:Res α)(m:M T)(post:T→α×Pt×List Ob):Prop:=
 match m with
 | .ok v=>∃ sg,r=.ok (post v).1 ⟨sg,(post v).2.2⟩∧Fits (post v).2.1 sg
 | .exc x=>∃ s,r=.exc x s∧R s.st
 | .bad=>True
def Ev{α T:Type}(R:List Ob→Prop)(p:Pt)(σ:List Ob)(f:State→Res α)(m:M T)(post:T→α×Pt×List Ob):Prop:=∀ sg,Fits p sg→Rn R (f ⟨sg,σ⟩) m post
section
variable{R:List Ob→Prop}{p p':Pt}{σ σ':List Ob}{α β γ T U W:Type}
theorem Ev.bind{f:State→Res α}{k:α→State→Res β}{m:M T}{mk:T→M U}{post:T→α×Pt×List Ob}{post2:U→β×Pt×List Ob}(h:Ev R p σ f m post)(hk:∀ v,Ev R (post v).2.1 (post v).2.2 (k (post v).1) (mk v) post2):Ev R p σ (fun s=>(f s).bind k) (m.bind mk) post2:=by
 intro sg hf
 have:=h sg hf
 cases m with
 | ok v=>
  obtain⟨sg',e,hf'⟩:=this
  have h2:=hk v sg' hf'
  simp only[M.aa]
  rw[e,Res.aa]
  exact h2
 | exc x=>
  obtain⟨s,e,r⟩:=this
  refine⟨s,?_,r⟩
  show(f ⟨sg,σ⟩).bind k=_
  rw[e];rfl
 | bad=>trivial
theorem Ev.gD{f:State→Res α}{k:α→State→Res β}{a:T}{m:M U}{post:T→α×Pt×List Ob}{post2:U→β×Pt×List Ob}(h:Ev R p σ f (.ok a) post)(hk:Ev R (post a).2.1 (post a).2.2 (k (post a).1) m post2):Ev R p σ (fun s=>(f s).bind k) m post2:=by
 intro sg hf
 obtain⟨sg',e,hf'⟩:=h sg hf
 have h2:=hk sg' hf'
 dsimp only
 rw[e,Res.aa]
 exact h2
theorem Ev.pure{a:T}{r:T→α}:Ev R p σ (fun s=>.ok (r a) s) (.ok a) (fun v=>(r v,p,σ)):=fun sg hf=>⟨sg,rfl,hf⟩
theorem Ev.map{f:State→Res α}{m:M T}{post:T→α×Pt×List Ob}(φ:T→U)(post2:U→α×Pt×List Ob)(h:Ev R p σ f m post)(e:∀ v,post v=post2 (φ v)):Ev R p σ f (m.bind fun v=>.ok (φ v)) post2:=by
 intro sg hf
 have:=h sg hf
 cases m with
 | ok v=>
  obtain⟨sg',e',hf'⟩:=this
  rw[e v]at e' hf'
  exact⟨sg',e',hf'⟩
 | exc x=>exact this
 | bad=>trivial
theorem Ev.dO{f:State→Res α}{a:T}{post:T→α×Pt×List Ob}{b:U}{post2:U→α×Pt×List Ob}(h:Ev R p σ f (.ok a) post)(e:post a=post2 b):Ev R p σ f (.ok b) post2:=by
 intro sg hf
 obtain⟨sg',e',hf'⟩:=h sg hf
 rw[e]at e' hf'
 exact⟨sg',e',hf'⟩
theorem Ev.weak{f:State→Res α}{m:M T}{post:T→α×Pt×List Ob}(h:Ev R p σ f m post)(w:gb p p'):Ev R p' σ f m post:=fun sg hf=>h sg (hf.weak w)
theorem Ev.is{f g:State→Res α}{m:M T}{post:T→α×Pt×List Ob}(h:Ev R p σ f m post)(e:∀ s,g s=f s):Ev R p σ g m post:=fun sg hf=>by rw[e];exact h sg hf
theorem Ev.bad{f:State→Res α}{post:T→α×Pt×List Ob}:Ev R p σ f .bad post:=fun _ _=>trivial
theorem Ev.at{f:State→Res α}{a:T}{r:T→α}(h:∀ sg,Fits p sg→f ⟨sg,σ⟩=.ok (r a) ⟨sg,σ⟩):Ev R p σ f (.ok a) (fun v=>(r v,p,σ)):=fun sg hf=>⟨sg,h sg hf,hf⟩
theorem Ev.gd{f:State→Res α}{a:T}{r:T→α}{b:Bool}(h:b=true→∀ sg,Fits p sg→f ⟨sg,σ⟩=.ok (r a) ⟨sg,σ⟩):Ev R p σ f ((gd b).bind fun _=>.ok a) (fun v=>(r v,p,σ)):=by
 intro sg hf
 cases b with
 | true=>exact⟨sg,h rfl sg hf,hf⟩
 | false=>trivial
theorem Ev.op{f:State→Res α}{o:Option T}{r:T→α}(h:∀ a,o=some a→∀ sg,Fits p sg→f ⟨sg,σ⟩=.ok (r a) ⟨sg,σ⟩):Ev R p σ f (match o with | some a=>.ok a | none=>.bad) (fun v=>(r v,p,σ)):=by
 intro sg hf
 cases o with
 | some a=>exact⟨sg,h a rfl sg hf,hf⟩
 | none=>trivial
end
abbrev eL{T:Type}(e:T→D):List T→D:=fun l=>.lst (l.map e)
abbrev Ky{A B:Type}(a:A→D)(b:B→D):A×B→D:=fun p=>.tup [a p.1,b p.2]
abbrev eN:Unit→D:=fun _=>.non
abbrev eY:D→D:=fun d=>d
abbrev oL{T:Type}(e:T→D):List T→Ob:=fun l=>.lst (l.map fun x=>.d (e x))
abbrev k4{T:Type}(e:T→D):List (List Nat×T)→Ob:=fun l=>.dic false (l.map fun p=>(.s p.1,.d (e p.2)))
theorem dr{T:Type}(e:T→D)(l:List T):(oL e l).toD=some (eL e l):=by
 show(toDs _).map _=_
 rw[toDs_mapF];rfl
def Lv{T:Type}(p:Pt)(σ:List Ob)(r:RV)(e:T→D)(l:List T):Prop:=∀ sg,Fits p sg→lv ⟨sg,σ⟩ r=some (l.map fun x=>.d (e x))∧kn ⟨sg,σ⟩ r=some (eL e l)∧tv ⟨sg,σ⟩ r=none∧∀ k,jA ⟨sg,σ⟩ r k=none
end Vw
namespace Vw
open PySem L2
section
variable{R:List Ob→Prop}{p p':Pt}{σ σ':List Ob}{α β γ T U W:Type}{i j n:Nat}
theorem dt{e:T→D}{l:List T}:Lv p σ (.val (.d (eL e l))) e l:=fun sg _=>⟨by simp[Function.comp_def],rfl,rfl,fun k=>rfl⟩
theorem jX{e:T→D}{l:List T}(h:p[i]? =some (some (.own (oL e l)))):Lv p σ (.own i) e l:=fun sg hf=>by
 have h:=hf.2 _ _ h
 refine⟨by simp[h],by simp[h,Function.comp_def],?_,fun k=>?_⟩
 ·unfold tv;simp[h]
 ·unfold jA og sj;simp[h]
theorem Bm{e:T→D}{l:List T}(h:σ[n]? =some (oL e l)):Lv p σ (.val (.r n)) e l:=fun sg hf=>by
 refine⟨by simp[h],by simp[h,Function.comp_def],?_,fun k=>?_⟩
 ·unfold tv;simp
 ·unfold jA og sj;simp[h]
def Pv(p:Pt)(σ:List Ob)(r:RV)(d:D):Prop:=∀ sg,Fits p sg→kn ⟨sg,σ⟩ r=some d
theorem cn{d:D}:Pv p σ (.val (.d d)) d:=fun _ _=>rfl
theorem Lv.pv{e:T→D}{l:List T}{r:RV}(h:Lv p σ r e l):Pv p σ r (eL e l):=fun sg hf=>(h sg hf).2.1
theorem aw{a:T}{e:T→D}(h:p[i]? =some (some (.v (.d (e a))))):Ev R p σ (ab i) (.ok a) (fun v=>(.val (.d (e v)),p,σ)):=Ev.at (r:=fun v=>RV.val (Val.d (e v))) fun sg hf=>by
 rw[jQ,hf.2 _ _ h]
theorem ia{a:T}{o:Ob}(h:p[i]? =some (some (.own o))):Ev R p σ (ab i) (.ok a) (fun _=>(.own i,p,σ)):=Ev.at (r:=fun _=>RV.own i) fun sg hf=>by
 rw[jQ,hf.2 _ _ h]
theorem cW{a:T}(h:p[i]? =some (some (.v (.r n)))):Ev R p σ (ab i) (.ok a) (fun _=>(.val (.r n),p,σ)):=Ev.at (r:=fun _=>RV.val (Val.r n)) fun sg hf=>by
 rw[jQ,hf.2 _ _ h]
theorem cD(e:T→D)(a:T):Ev R p σ (fD (e a)) (.ok a) (fun v=>(.val (.d (e v)),p,σ)):=Ev.at (r:=fun v=>RV.val (Val.d (e v))) fun sg hf=>rfl
theorem sv{f:State→Res RV}{m:M T}{x:T→Val}{P:T→Pt}{S:T→List Ob}(h:Ev R p σ f m (fun v=>(.val (x v),P v,S v))):Ev R p σ (ev f) m (fun v=>(.val (x v),P v,S v)):=fun sg hf=>by
 have:=h sg hf
 cases m with
 | ok v=>obtain⟨sg',e,hf'⟩:=this;exact⟨sg',by rw[o4,e];rfl,hf'⟩
 | exc x=>obtain⟨s,e,r⟩:=this;exact⟨s,by rw[o4,e];rfl,r⟩
 | bad=>trivial
theorem ic{f:State→Res RV}{m:M T}{P:T→Pt}{S:T→List Ob}(h:Ev R p σ f m (fun v=>(.own i,P v,S v))):Ev R p σ (ev f) m (fun v=>(.own i,P v,S v)):=fun sg hf=>by
 have:=h sg hf
 cases m with
 | ok v=>obtain⟨sg',e,hf'⟩:=this;exact⟨sg',by rw[o4,e];rfl,hf'⟩
 | exc x=>obtain⟨s,e,r⟩:=this;exact⟨s,by rw[o4,e];rfl,r⟩
 | bad=>trivial
theorem sn{f:State→Res RV}{m:M T}{o:T→Ob}{d:T→D}{P:T→Pt}{S:T→List Ob}(h:Ev R p σ f m (fun v=>(.new (o v),P v,S v)))(hd:∀ v,(o v).toD=some (d v)):Ev R p σ (ev f) m (fun v=>(.val (.d (d v)),P v,S v)):=fun sg hf=>by
 have:=h sg hf
 cases m with
 | ok v=>obtain⟨sg',e,hf'⟩:=this;exact⟨sg',by rw[o4,e,Res.aa,IY,hd v],hf'⟩
 | exc x=>obtain⟨s,e,r⟩:=this;exact⟨s,by rw[o4,e];rfl,r⟩
 | bad=>trivial
abbrev pD(e:T→D)(p:Pt)(σ:List Ob):T→RV×Pt×List Ob:=fun v=>(.val (.d (e v)),p,σ)
abbrev HU(e:T→D)(p:Pt)(σ:List Ob):List T→RV×Pt×List Ob:=fun v=>(.new (oL e v),p,σ)
def mulM(a b:Int):M Int:=(gd (A7 a b)).bind fun _=>.ok (a*b)
def gQ(a b:Int):M Int:=(gd (decide (0<b))).bind fun _=>.ok (a%b)
def wN(a b:Int):M Int:=(gd (decide (0≤b∧b≤1000000∧a.natAbs<2^64))).bind fun _=>.ok (a^b.toNat)
theorem gW{a b:Int}:Ev R p σ (binop .add (.val (.d (.int a))) (.val (.d (.int b)))) (.ok (a+b)) (pD .int p σ):=Ev.at (r:=fun v=>RV.val (Val.d (D.int v))) fun sg _=>rfl
theorem oF{a b:Int}:Ev R p σ (binop .sub (.val (.d (.int a))) (.val (.d (.int b)))) (.ok (a-b)) (pD .int p σ):=Ev.at (r:=fun v=>RV.val (Val.d (D.int v))) fun sg _=>rfl
theorem pj{a b:Int}:Ev R p σ (binop .mul (.val (.d (.int a))) (.val (.d (.int b)))) (mulM a b) (pD .int p σ):=Ev.gd (r:=fun v=>RV.val (Val.d (D.int v))) fun h sg _=>by rw[Ce,DB,if_pos h];rfl
theorem i0{a b:Int}:Ev R p σ (binop .mod (.val (.d (.int a))) (.val (.d (.int b)))) (gQ a b) (pD .int p σ):=Ev.gd (r:=fun v=>RV.val (Val.d (D.int v))) fun h sg _=>by rw[yS,if_pos (of_decide_eq_true h)];rfl
theorem Hy{a b:Int}:Ev R p σ (binop .pow (.val (.d (.int a))) (.val (.d (.int b)))) (wN a b) (pD .int p σ):=Ev.gd (r:=fun v=>RV.val (Val.d (D.int v))) fun h sg _=>by rw[DA,if_pos (of_decide_eq_true h)];rfl
theorem fS{a b:Int}(h:0<b):Ev R p σ (binop .mod (.val (.d (.int a))) (.val (.d (.int b)))) (.ok (a%b)) (pD .int p σ):=Ev.at (r:=fun v=>RV.val (Val.d (D.int v))) fun sg _=>by rw[yS,if_pos h];rfl
theorem eT{a b:Int}(h:BE b=true):Ev R p σ (binop .fdiv (.val (.d (.int a))) (.val (.d (.int b)))) (.ok (a/b)) (pD .int p σ):=Ev.at (r:=fun v=>RV.val (Val.d (D.int v))) fun sg _=>by rw[A8,if_pos h];rfl
theorem El{f:State→Res RV}{m:M Int}{P:Pt}{S:List Ob}(h:Ev R p σ (ev f) m (pD .int P S)):Ev R p σ (ly f) (m.bind fun a=>.ok (-a)) (pD .int P S):=Ev.bind h fun a=>Ev.at (r:=fun v=>RV.val (Val.d (D.int v))) fun sg _=>rfl
def aO(a b:List Nat):M (List Nat):=(gd (decide (a.length+b.length≤sizeLine))).bind fun _=>.ok (a++b)
def mM(a:List Nat)(j:Int):M (List Nat):=(gd (decide (0≤j∧j<1000000∧a.length*j.toNat≤1000000))).bind fun _=>.ok (List.replicate j.toNat a).flatten
def lY(a b:List T):M (List T):=(gd (decide (a.length+b.length≤sizeLine))).bind fun _=>.ok (a++b)
theorem aX{a b:List Nat}:Ev R p σ (binop .add (.val (.d (.str a))) (.val (.d (.str b)))) (aO a b) (pD .str p σ):=Ev.gd (r:=fun v=>RV.val (Val.d (D.str v))) fun h sg _=>by rw[C4,Sh.DV,if_pos (of_decide_eq_true h)]
theorem wq{a:List Nat}{b:Int}:Ev R p σ (binop .mul (.val (.d (.str a))) (.val (.d (.int b)))) (mM a b) (pD .str p σ):=Ev.gd (r:=fun v=>RV.val (Val.d (D.str v))) fun h sg _=>by
 rw[Ce]
 unfold ux
 simp only[vq]
 rw[if_pos (of_decide_eq_true h)];rfl
theorem F2{s:State}{x y:RV}{l m:List Val}(h1:lv s x=some l)(h2:lv s y=some m):o7 x y s=if l.length+m.length≤sizeLine then .ok (.new (.lst (l++m))) s else .stuck:=by
 unfold o7
 have hx:∀ d,dv s x=some d→∃ l,d=.lst l:=fun d e=>by
  rw[xn,e]at h1
  cases d<;> simp at h1
  exact⟨_,rfl⟩
 split
 ·rename_i e _;obtain⟨_,z⟩:=hx _ e;cases z
 ·rename_i e _;obtain⟨_,z⟩:=hx _ e;cases z
 ·rw[h1,h2]
theorem add_l{e:T→D}{a b:List T}{x y:RV}(hx:Lv p σ x e a)(hy:Lv p σ y e b):Ev R p σ (binop .add x y) (lY a b) (HU e p σ):=Ev.gd (r:=fun v=>RV.new (oL e v)) fun h sg hf=>by
 rw[C4,F2 (hx sg hf).1 (hy sg hf).1,if_pos (by simpa using of_decide_eq_true h),←List.map_append]
theorem uQ{a b:Int}:Ev R p σ (aQ .lt (.val (.d (.int a))) (.val (.d (.int b)))) (.ok (decide (a<b))) (pD .bl p σ):=Ev.at (r:=fun v=>RV.val (Val.d (D.bl v))) fun sg _=>rfl
theorem E5{a b:Int}:Ev R p σ (aQ .le (.val (.d (.int a))) (.val (.d (.int b)))) (.ok (decide (a≤b))) (pD .bl p σ):=Ev.at (r:=fun v=>RV.val (Val.d (D.bl v))) fun sg _=>rfl
theorem Ew{a b:Int}:Ev R p σ (aQ .gt (.val (.d (.int a))) (.val (.d (.int b)))) (.ok (decide (b<a))) (pD .bl p σ):=Ev.at (r:=fun v=>RV.val (Val.d (D.bl v))) fun sg _=>rfl
theorem ID{a b:Int}:Ev R p σ (aQ .ge (.val (.d (.int a))) (.val (.d (.int b)))) (.ok (decide (b≤a))) (pD .bl p σ):=Ev.at (r:=fun v=>RV.val (Val.d (D.bl v))) fun sg _=>rfl
def eqB{T:Type}[DecidableEq T](a b:T):Bool:=decide (a=b)
@[simp] theorem Jz{T:Type}[DecidableEq T](a b:T):eqB a b=decide (a=b):=id rfl
structure EqE {T:Type} [DecidableEq T] (e:T→D) (n:Nat):Prop where
 pl:∀ x,fE (e x)=true
 dp:∀ x,gu n (e x)=true
 eq:∀ x y,iy (e x) (e y)=decide (x=y)
theorem EqE.cmp{T:Type}[DecidableEq T]{e:T→D}{n:Nat}(E:EqE e n)(h:n≤60)(x y:T):dM (e x) (e y)=true:=by
 have h1:=qe n _ (E.pl x) (E.dp x)
 unfold dM
 simp[rp _ (E.pl x),rp _ (E.pl y)]
 omega
theorem fq[DecidableEq T]{e:T→D}{a b:T}{x y:RV}(hx:Pv p σ x (e a))(hy:Pv p σ y (e b))(E:EqE e n)(hn:n≤60):Ev R p σ (aQ .eq x y) (.ok (eqB a b)) (pD .bl p σ):=Ev.at (r:=fun v=>RV.val (Val.d (D.bl v))) fun sg hf=>by
 rw[s8,Fo,zN,hx sg hf,hy sg hf]
 dsimp only
 rw[if_pos (E.cmp hn a b),E.eq];rfl
theorem A6[DecidableEq T]{e:T→D}{a b:T}{x y:RV}(hx:Pv p σ x (e a))(hy:Pv p σ y (e b))(E:EqE e n)(hn:n≤60):Ev R p σ (aQ .ne x y) (.ok (!eqB a b)) (pD .bl p σ):=Ev.at (r:=fun v=>RV.val (Val.d (D.bl v))) fun sg hf=>by
 rw[s8,IK,zN,hx sg hf,hy sg hf]
 dsimp only
 rw[if_pos (E.cmp hn a b),E.eq];rfl
def vL(a b:D):M Bool:=if dM a b then .ok (iy a b)else .bad
theorem E3{a b:D}{x y:RV}(hx:Pv p σ x a)(hy:Pv p σ y b):Ev R p σ (aQ .eq x y) (vL a b) (pD .bl p σ):=fun sg hf=>by
 unfold vL
 split
 ·rename_i h
  refine⟨sg,?_,hf⟩
  rw[s8,Fo,zN,hx sg hf,hy sg hf]
  dsimp only
  rw[if_pos h];rfl
 ·trivial
def uk{T:Type}[DecidableEq T](a:T)(l:List T):Bool:=decide (a∈l)
@[simp] theorem Ip{T:Type}[DecidableEq T](a:T)(l:List T):uk a l=decide (a∈l):=id rfl
theorem A1[DecidableEq T]{e:T→D}(E:EqE e n)(l:List T):gx (l.map e)=true:=kN e l fun x _=>E.pl x
theorem Gh[DecidableEq T]{e:T→D}(E:EqE e n)(l:List T)(a:T):((l.map e).any fun y=>iy y (e a))=decide (a∈l):=by
 rw[List.any_map]
 have:(fun y=>iy (e y) (e a))=fun y=>decide (y=a):=funext fun y=>E.eq y a
 rw[show((fun y=>iy y (e a))∘e)=fun y=>decide (y=a)from this]
 rw[Bool.eq_iff_iff]
 simp
theorem G4[DecidableEq T]{e:T→D}{a:T}{l:List T}{x y:RV}(hx:Pv p σ x (e a))(hy:Lv p σ y e l)(E:EqE e n)(hn:n≤60){sg:Slots}(hf:Fits p sg):inD ⟨sg,σ⟩ x y=some (decide (a∈l)):=by
 obtain⟨h1,h2,h3,h4⟩:=hy sg hf
 unfold inD
 rw[h4 x]
 have hs:∀ b,dv ⟨sg,σ⟩ y≠some (.str b):=fun b e=>by rw[xn,e]at h1;cases h1
 dsimp only
 split
 ·rename_i e;exact absurd e (hs _)
 ·rw[hx sg hf,h2]
  dsimp only
  have d1:=qe n _ (E.pl a) (E.dp a)
  have d2:=qi _ (A1 E l)
  rw[if_pos (by
   simp[rp _ (E.pl a),d2]
   omega)]
  rw[Gh E]
theorem IA[DecidableEq T]{e:T→D}{a:T}{l:List T}{x y:RV}(hx:Pv p σ x (e a))(hy:Lv p σ y e l)(E:EqE e n)(hn:n≤60):Ev R p σ (aQ .isin x y) (.ok (uk a l)) (pD .bl p σ):=Ev.at (r:=fun v=>RV.val (Val.d (D.bl v))) fun sg hf=>by
 rw[s8]
 show(match inD _ _ _ with | some b=>a0 (.bl b) _ | none=>Res.stuck)=_
 rw[G4 hx hy E hn hf];rfl
theorem wL{a b:List Nat}:Ev R p σ (aQ .isin (.val (.d (.str a))) (.val (.d (.str b)))) (.ok (subIn a b)) (pD .bl p σ):=Ev.at (r:=fun v=>RV.val (Val.d (D.bl v))) fun sg hf=>rfl
theorem yt{a b:List Nat}:Ev R p σ (aQ .notin (.val (.d (.str a))) (.val (.d (.str b)))) (.ok (!subIn a b)) (pD .bl p σ):=Ev.at (r:=fun v=>RV.val (Val.d (D.bl v))) fun sg hf=>rfl
def dB(l:List T)(i:Int):M T:=match atI l i with | some a=>.ok a | none=>.bad
def lJ(t:List Nat)(i:Int):M (List Nat):=(gd (decide (t.length≤sizeLine))).bind fun _=>match atI t i with | some c=>.ok [c] | none=>.bad
theorem fm{e:T→D}{l:List T}{k:Int}{x:RV}(h:Lv p σ x e l):Ev R p σ (bK x (.val (.d (.int k)))) (dB l k) (pD e p σ):=Ev.op (r:=fun v=>RV.val (Val.d (e v))) fun a h' sg hf=>by
 obtain⟨h1,h2,h3,h4⟩:=h sg hf
 unfold bK
 rw[h4]
 dsimp only
 split
 ·rename_i e' _;rw[xn,e']at h1;cases h1
 ·rename_i i e'' e'
  cases (show some (D.int k)=some (D.int i)from e'')
  rw[h1]
  dsimp only
  rw[uy,h'];rfl
 ·rename_i h5 h6
  exact absurd rfl (h5 k)
theorem zV{t:List Nat}{k:Int}:Ev R p σ (bK (.val (.d (.str t))) (.val (.d (.int k)))) (lJ t k) (pD .str p σ):=fun sg hf=>by
 unfold lJ
 by_cases h:t.length≤sizeLine
 ·rw[show decide (t.length≤sizeLine)=true from decide_eq_true h,vo,M.aa,Gp,if_pos h]
  cases atI t k with
  | some c=>exact⟨sg,rfl,hf⟩
  | none=>trivial
 ·rw[show decide (t.length≤sizeLine)=false from decide_eq_false h];trivial
def bM(d:D)(i:Int):M D:=match d with
 | .tup l=>dB l i
 | .lst l=>dB l i
 | _=>.bad
theorem dR{d:D}{k:Int}:Ev R p σ (bK (.val (.d d)) (.val (.d (.int k)))) (bM d k) (pD eY p σ):=fun sg hf=>by
 cases d<;> try trivial
 ·rename_i l
  show Rn R _ (dB l k) _
  unfold dB
  rw[Cy]
  cases atI l k<;> first | trivial | exact⟨sg,rfl,hf⟩
 ·rename_i l
  show Rn R _ (dB l k) _
  unfold dB
  rw[GK]
  cases atI l k<;> first | trivial | exact⟨sg,rfl,hf⟩
def gi(d:D):M (List Nat):=match d with | .str s=>.ok s | _=>.bad
def uV(d:D):M Int:=match d with | .int s=>.ok s | _=>.bad
def Jo(d:D):M (List D):=match d with | .lst l=>.ok l | _=>.bad
def lC(f:D→M T):List D→M (List T)
 | []=>.ok []
 | x::r=>(f x).bind fun a=>(lC f r).bind fun as=>.ok (a::as)
def sX(f:D→M T)(d:D):M (List T):=(Jo d).bind (lC f)
def Dec(f:D→M T)(e:T→D):Prop:=∀ d a,f d=.ok a→d=e a
def xk(f:D→M T):Prop:=∀ d x,f d≠ .exc x
theorem d7:Dec gi .str:=fun d a h=>by cases d<;> cases h;rfl
theorem zy:Dec uV .int:=fun d a h=>by cases d<;> cases h;rfl
theorem fg:xk gi:=fun d x h=>by cases d<;> cases h
theorem BW:xk uV:=fun d x h=>by cases d<;> cases h
theorem y7:Dec (fun d=>M.ok d) eY:=fun d a h=>by cases h;rfl
theorem Bh:xk (fun d=>M.ok d):=fun d x h=>by cases h
theorem FT{f:D→M T}{e:T→D}(h:Dec f e):∀ (l:List D) (as:List T),lC f l=.ok as→l=as.map e
 | [],as,q=>by cases q;rfl
 | x::r,as,q=>by
  unfold lC at q
  cases hx:f x with
  | ok a=>
   rw[hx,M.aa]at q
   cases hr:lC f r with
   | ok bs=>rw[hr,M.aa]at q;cases q;rw[h x a hx,FT h r bs hr];rfl
   | exc x=>rw[hr]at q;cases q
   | bad=>rw[hr]at q;cases q
  | exc x=>rw[hx]at q;cases q
  | bad=>rw[hx]at q;cases q
theorem wt{f:D→M T}{e:T→D}(h:Dec f e):Dec (sX f) (eL e):=fun d a q=>by
 cases d<;> try cases q
 exact congrArg D.lst (FT h _ _ q)
theorem HV{f:D→M T}(h:xk f):∀ (l:List D) (x:Exn),lC f l≠ .exc x
 | [],x=>by intro q;cases q
 | d::r,x=>by
  intro q
  unfold lC at q
  cases hx:f d with
  | ok a=>
   rw[hx,M.aa]at q
   cases hr:lC f r with
   | ok bs=>rw[hr]at q;cases q
   | exc x=>exact HV h r _ hr
   | bad=>rw[hr]at q;cases q
  | exc x=>exact h d _ hx
  | bad=>rw[hx]at q;cases q
theorem y9{f:D→M T}(h:xk f):xk (sX f):=fun d x q=>by
 cases d<;> try cases q
 exact HV h _ _ q
theorem fI{f:State→Res RV}{m:M D}{dec:D→M T}{e:T→D}{P:Pt}{S:List Ob}(h:Ev R p σ f m (pD eY P S))(hd:Dec dec e)(hx:xk dec):Ev R p σ f (m.bind dec) (pD e P S):=fun sg hf=>by
 have:=h sg hf
 cases m with
 | ok d=>
  obtain⟨sg',e',hf'⟩:=this
  show Rn R _ (dec d) _
  cases hq:dec d with
  | ok a=>exact⟨sg',by rw[e',hd d a hq],hf'⟩
  | exc x=>exact absurd hq (hx d x)
  | bad=>trivial
 | exc x=>exact this
 | bad=>trivial
theorem toY{f:State→Res RV}{m:M T}{e:T→D}{P:Pt}{S:List Ob}(h:Ev R p σ f m (pD e P S)):Ev R p σ f (m.bind fun v=>.ok (e v)) (pD eY P S):=Ev.map e (pD eY P S) h fun v=>rfl
end
end Vw
namespace Vw
open PySem L2
section
variable{R:List Ob→Prop}{p p':Pt}{σ σ':List Ob}{α β γ T U W A B:Type}{i j n:Nat}
abbrev pB(p:Pt)(σ:List Ob):Bool→Bool×Pt×List Ob:=fun v=>(v,p,σ)
theorem tB{f:State→Res RV}{m:M T}{b:T→Bool}{P:T→Pt}{S:T→List Ob}(h:Ev R p σ (ev f) m (fun v=>(.val (.d (.bl (b v))),P v,S v))):Ev R p σ (cB f) m (fun v=>(b v,P v,S v)):=fun sg hf=>by
 have:=h sg hf
 cases m with
 | ok v=>obtain⟨sg',e,hf'⟩:=this;exact⟨sg',by rw[C3,e];rfl,hf'⟩
 | exc x=>obtain⟨s,e,r⟩:=this;exact⟨s,by rw[C3,e];rfl,r⟩
 | bad=>trivial
def andM(a b:M Bool):M Bool:=a.bind fun x=>if x=true then b else .ok false
def orM(a b:M Bool):M Bool:=a.bind fun x=>if x=true then .ok true else b
@[simp] theorem cZ(x:Bool)(b:M Bool):andM (.ok x) b=if x=true then b else .ok false:=id rfl
@[simp] theorem dc(x:Bool)(b:M Bool):orM (.ok x) b=if x=true then .ok true else b:=id rfl
theorem wJ{x:Bool}{f g:State→Res α}{m1 m2:M T}{post:T→α×Pt×List Ob}(h1:x=true→Ev R p σ f m1 post)(h2:x=false→Ev R p σ g m2 post):Ev R p σ (fun s=>if x=true then f s else g s) (if x=true then m1 else m2) post:=by
 cases x with
 | true=>intro sg hf;exact h1 rfl sg hf
 | false=>intro sg hf;exact h2 rfl sg hf
theorem zQ{f g:State→Res Bool}{fs:List (State→Res Bool)}{m1 m2:M Bool}(h1:Ev R p σ f m1 (pB p σ))(h2:Ev R p σ (kc (g::fs)) m2 (pB p σ)):Ev R p σ (kc (f::g::fs)) (andM m1 m2) (pB p σ):=Ev.bind h1 fun x=>wJ (fun _=>h2) (fun _=>Ev.pure (r:=fun v:Bool=>v))
theorem qk{f g:State→Res Bool}{fs:List (State→Res Bool)}{m1 m2:M Bool}(h1:Ev R p σ f m1 (pB p σ))(h2:Ev R p σ (jO (g::fs)) m2 (pB p σ)):Ev R p σ (jO (f::g::fs)) (orM m1 m2) (pB p σ):=Ev.bind h1 fun x=>wJ (fun _=>Ev.pure (r:=fun v:Bool=>v)) (fun _=>h2)
theorem xY{f:State→Res Bool}{m1:M Bool}(h1:Ev R p σ f m1 (pB p σ)):Ev R p σ (kc [f]) m1 (pB p σ):=h1
theorem nI{f:State→Res Bool}{m1:M Bool}(h1:Ev R p σ f m1 (pB p σ)):Ev R p σ (jO [f]) m1 (pB p σ):=h1
theorem Cz{f:State→Res Bool}{m:M T}{b:T→Bool}{P:T→Pt}{S:T→List Ob}(h:Ev R p σ f m (fun v=>(b v,P v,S v))):Ev R p σ (jV f) m (fun v=>(!b v,P v,S v)):=fun sg hf=>by
 have:=h sg hf
 cases m with
 | ok v=>obtain⟨sg',e,hf'⟩:=this;exact⟨sg',by rw[CI,e];rfl,hf'⟩
 | exc x=>obtain⟨s,e,r⟩:=this;exact⟨s,by rw[CI,e];rfl,r⟩
 | bad=>trivial
theorem Ec{f g:State→Res RV}{fs:List (State→Res RV)}{m1 m2:M Bool}(h1:Ev R p σ (ev f) m1 (pD .bl p σ))(h2:Ev R p σ (gX (g::fs)) m2 (pD .bl p σ)):Ev R p σ (gX (f::g::fs)) (andM m1 m2) (pD .bl p σ):=Ev.bind (tB (b:=fun v=>v) h1) fun x=>wJ (fun _=>h2) (fun _=>cD D.bl false)
theorem yD{f:State→Res RV}{m1:M T}{post:T→RV×Pt×List Ob}(h1:Ev R p σ (ev f) m1 post):Ev R p σ (gX [f]) m1 post:=h1
theorem G9{t:State→Res Bool}{f g:State→Res RV}{mt:M A}{b:A→Bool}{P:A→Pt}{S:A→List Ob}{m1 m2:A→M T}{post:T→RV×Pt×List Ob}(ht:Ev R p σ t mt (fun v=>(b v,P v,S v)))(h1:∀ v,Ev R (P v) (S v) f (m1 v) post)(h2:∀ v,Ev R (P v) (S v) g (m2 v) post):Ev R p σ (Cp t f g) (mt.bind fun v=>if b v=true then m1 v else m2 v) post:=Ev.bind ht fun v=>wJ (fun _=>h1 v) (fun _=>h2 v)
theorem ak:Ev R p σ (aC []) (.ok ()) (fun _=>(([]:List RV),p,σ)):=Ev.pure (r:=fun _=>([]:List RV))
theorem aJ{f:State→Res RV}{fs:List (State→Res RV)}{m1:M A}{m2:A→M B}{r1:A→RV}{P1:A→Pt}{S1:A→List Ob}{rs:A→B→List RV}{P:A→B→Pt}{S:A→B→List Ob}(h1:Ev R p σ (ev f) m1 (fun v=>(r1 v,P1 v,S1 v)))(h2:∀ v,Ev R (P1 v) (S1 v) (aC fs) (m2 v) (fun w=>(rs v w,P v w,S v w))):Ev R p σ (aC (f::fs)) (m1.bind fun v=>(m2 v).bind fun w=>.ok (v,w)) (fun z=>(r1 z.1::rs z.1 z.2,P z.1 z.2,S z.1 z.2)):=
 Ev.bind h1 fun v=>Ev.bind (h2 v) fun w=>(Ev.pure (a:=(v,w)) (r:=fun z:A×B=>r1 z.1::rs z.1 z.2)).dO rfl
inductive AllD:List RV→List Val→Prop
 | nil:AllD [] []
 | d {x:Val} {rs:List RV} {vs:List Val}:AllD rs vs→AllD (.val x::rs) (x::vs)
theorem AllD.eu{s:State}:∀ {rs:List RV} {vs:List Val},AllD rs vs→bI rs s=.ok vs s
 | _,_,.nil=>rfl
 | _,_,.d h=>by rw[Bp,xc,Res.aa,AllD.eu h,Res.aa]
inductive Cap (σ:List Ob):Pt→List RV→List Val→Pt→Prop
 | nil {p:Pt}:Cap σ p [] [] p
 | d {p q:Pt} {x:Val} {rs:List RV} {vs:List Val}:Cap σ p rs vs q→Cap σ p (.val x::rs) (x::vs) q
 | o {p q:Pt} {i:Nat} {o:Ob} {d:D} {rs:List RV} {vs:List Val}:p[i]? =some (some (.own o))→o.toD=some d→Cap σ (p.set i (some (.v (.d d)))) rs vs q→Cap σ p (.own i::rs) (.d d::vs) q
theorem Cap.run{σ:List Ob}:∀ {p q:Pt} {rs:List RV} {vs:List Val},Cap σ p rs vs q→∀ sg,Fits p sg→∃ sg',bI rs ⟨sg,σ⟩=.ok vs ⟨sg',σ⟩∧Fits q sg'
 | _,_,_,_,.nil,sg,hf=>⟨sg,rfl,hf⟩
 | _,_,_,_,.d h,sg,hf=>by
  obtain⟨sg',e,hf'⟩:=Cap.run h sg hf
  exact⟨sg',by rw[Bp,xc,Res.aa,e,Res.aa],hf'⟩
 | _,_,_,_,.o h1 h2 h,sg,hf=>by
  obtain⟨sg',e,hf'⟩:=Cap.run h _ (hf.set _ _)
  refine⟨sg',?_,hf'⟩
  rw[Bp,Ff,hf.2 _ _ h1]
  dsimp only
  rw[h2]
  dsimp only
  rw[Res.aa,e,Res.aa]
theorem eA{fs:List (State→Res RV)}{m:M A}{rs:A→List RV}{P:A→Pt}{S:A→List Ob}{vs:A→List Val}{Q:A→Pt}{ds:A→List D}(h:Ev R p σ (aC fs) m (fun v=>(rs v,P v,S v)))(hc:∀ v,Cap (S v) (P v) (rs v) (vs v) (Q v))(hd:∀ v,toDs (vs v)=some (ds v))(hl:∀ v,Nat.ble (vs v).length 1000=true):Ev R p σ (il fs) m (fun v=>(.val (.d (.tup (ds v))),Q v,S v)):=fun sg hf=>by
 have:=h sg hf
 cases m with
 | ok v=>
  obtain⟨sg',e,hf'⟩:=this
  obtain⟨sg2,e2,hf2⟩:=(hc v).run sg' hf'
  refine⟨sg2,?_,hf2⟩
  rw[Ck,e,Res.aa,ET]
  dsimp only
  rw[e2,Res.aa,if_pos (small _ (by have:=Nat.le_of_ble_eq_true (hl v);omega)),Dk,hd v]
 | exc x=>obtain⟨s,e,r⟩:=this;exact⟨s,by rw[Ck,e];rfl,r⟩
 | bad=>trivial
theorem de{fs:List (State→Res RV)}{m:M A}{rs:A→List RV}{P:A→Pt}{S:A→List Ob}{vs:A→List Val}{Q:A→Pt}{e:T→D}{l:A→List T}(h:Ev R p σ (aC fs) m (fun v=>(rs v,P v,S v)))(hc:∀ v,Cap (S v) (P v) (rs v) (vs v) (Q v))(hd:∀ v,vs v=(l v).map fun x=>.d (e x))(hl:∀ v,Nat.ble (vs v).length 1000=true):Ev R p σ (eX fs) m (fun v=>(.new (oL e (l v)),Q v,S v)):=fun sg hf=>by
 have:=h sg hf
 cases m with
 | ok v=>
  obtain⟨sg',e,hf'⟩:=this
  obtain⟨sg2,e2,hf2⟩:=(hc v).run sg' hf'
  refine⟨sg2,?_,hf2⟩
  rw[Cw,e,Res.aa,Ef]
  dsimp only
  rw[e2,Res.aa,if_pos (small _ (by have:=Nat.le_of_ble_eq_true (hl v);omega)),hd v]
 | exc x=>obtain⟨s,e,r⟩:=this;exact⟨s,by rw[Cw,e];rfl,r⟩
 | bad=>trivial
theorem pn:Ev R p σ (jP .no) (.ok ()) (fun _=>((none:Option Int),p,σ)):=Ev.pure (r:=fun _=>(none:Option Int))
theorem pe{f:State→Res RV}{m:M Int}(h:Ev R p σ (ev f) m (pD .int p σ)):Ev R p σ (jP (.ex f)) m (fun v=>(some v,p,σ)):=fun sg hf=>by
 have:=h sg hf
 cases m with
 | ok v=>obtain⟨sg',e,hf'⟩:=this;exact⟨sg',by rw[Cg,e];rfl,hf'⟩
 | exc x=>obtain⟨s,e,r⟩:=this;exact⟨s,by rw[Cg,e];rfl,r⟩
 | bad=>trivial
theorem IL{f:State→Res RV}{lo hi:Par}{m:M T}{rx:T→RV}{Px:T→Pt}{Sx:T→List Ob}{ml:M A}{mh:M B}{lo':A→Option Int}{hi':B→Option Int}{mk:T→Option Int→Option Int→M U}{post:U→RV×Pt×List Ob}(h:Ev R p σ (ev f) m (fun v=>(rx v,Px v,Sx v)))(hl:∀ x,Ev R (Px x) (Sx x) (jP lo) ml (fun v=>(lo' v,(Px x),(Sx x))))(hh:∀ x,Ev R (Px x) (Sx x) (jP hi) mh (fun v=>(hi' v,(Px x),(Sx x))))(hk:∀ x l h,Ev R (Px x) (Sx x) (tX (rx x) l h) (mk x l h) post):Ev R p σ (jL f lo hi) (m.bind fun x=>ml.bind fun l=>mh.bind fun h=>mk x (lo' l) (hi' h)) post:=Ev.bind h fun x=>Ev.bind (hl x) fun l=>Ev.bind (hh x) fun k=>hk x (lo' l) (hi' k)
def i8(t:List Nat)(lo hi:Option Int):M (List Nat):=(gd (decide (t.length≤sizeLine))).bind fun _=>.ok (ey t lo hi)
theorem lB{t:List Nat}{lo hi:Option Int}:Ev R p σ (tX (.val (.d (.str t))) lo hi) (i8 t lo hi) (pD .str p σ):=Ev.gd (r:=fun v=>RV.val (Val.d (D.str v))) fun h sg _=>by
 show(if t.length≤sizeLine then _ else _)=_
 rw[if_pos (of_decide_eq_true h)];rfl
theorem Et{e:T→D}{l:List T}{r:RV}{lo hi:Option Int}(h:Lv p σ r e l):Ev R p σ (tX r lo hi) (.ok (ey l lo hi)) (HU e p σ):=Ev.at (r:=fun v=>RV.new (oL e v)) fun sg hf=>by
 obtain⟨h1,h2,h3,h4⟩:=h sg hf
 rw[HA]
 split
 ·rename_i e';rw[xn,e']at h1;cases h1
 ·rw[h1]
  dsimp only
  rw[BX]
theorem nJ{fs:List (State→Res RV)}{b:List RV→State→Res RV}{m:M A}{rs:A→List RV}{P:A→Pt}{S:A→List Ob}{mk:A→M T}{post:T→RV×Pt×List Ob}(h:Ev R p σ (aC fs) m (fun v=>(rs v,P v,S v)))(hb:∀ v,Ev R (P v) (S v) (b (rs v)) (mk v) post):Ev R p σ (eZ (aC fs) b) (m.bind mk) post:=Ev.bind h hb
def nT(t:List Nat):M Int:=(gd (decide (t.length≤sizeLine))).bind fun _=>.ok t.length
theorem tU{t:List Nat}:Ev R p σ (gk [.val (.d (.str t))]) (nT t) (pD .int p σ):=Ev.gd (r:=fun v=>RV.val (Val.d (D.int v))) fun h sg _=>by
 show(if t.length≤sizeLine then _ else _)=_
 rw[if_pos (of_decide_eq_true h)];rfl
theorem Lv.sq{e:T→D}{l:List T}{r:RV}(h:Lv p σ r e l){sg:Slots}(hf:Fits p sg):Vw.sq ⟨sg,σ⟩ r=some (l.map fun x=>.d (e x)):=by rw[IC,(h sg hf).1]
theorem lQ{e:T→D}{l:List T}{r:RV}(h:Lv p σ r e l):Ev R p σ (gk [r]) (.ok (l.length:Int)) (pD .int p σ):=Ev.at (r:=fun v=>RV.val (Val.d (D.int v))) fun sg hf=>by
 have h1:=(h sg hf).1
 rw[HB]
 split
 ·rename_i e';rw[xn,e']at h1;cases h1
 ·rw[h.sq hf];simp
theorem wU:∀ l:List (List Nat),strsOf (l.map fun x=>.d (.str x))=some l
 | []=>rfl
 | x::r=>by simp[strsOf,wU r]
def nV(i:Int):M (List Nat):=(gd (decide (i.natAbs.log2<1920))).bind fun _=>.ok (dX i)
theorem wm{a:Int}:Ev R p σ (oS [.val (.d (.int a))]) (nV a) (pD .str p σ):=Ev.gd (r:=fun v=>RV.val (Val.d (D.str v))) fun h sg _=>by
 show(if a.natAbs.log2<1920 then _ else _)=_
 rw[if_pos (of_decide_eq_true h)];rfl
theorem zw{a:Bool}:Ev R p σ (uv [.val (.d (.bl a))]) (.ok (if a=true then 1 else 0)) (pD .int p σ):=Ev.at (r:=fun v=>RV.val (Val.d (D.int v))) fun sg _=>rfl
theorem I4{T':String}{fo:State→Res RV}{fs:List (State→Res RV)}{b:RV→List RV→State→Res RV}{ty:State→RV→Bool}{mo:M A}{ro:A→RV}{Po:A→Pt}{So:A→List Ob}{m:A→M B}{rs:A→B→List RV}{P:A→B→Pt}{S:A→B→List Ob}{mk:A→B→M T}{post:T→RV×Pt×List Ob}(ho:Ev R p σ (ev fo) mo (fun v=>(ro v,Po v,So v)))(ht:∀ a sg,Fits (Po a) sg→ty ⟨sg,So a⟩ (ro a)=true)(h:∀ a,Ev R (Po a) (So a) (aC fs) (m a) (fun v=>(rs a v,P a v,S a v)))(hb:∀ a v,Ev R (P a v) (S a v) (b (ro a) (rs a v)) (mk a v) post):Ev R p σ (ku T' fo (aC fs) b ty) (mo.bind fun a=>(m a).bind fun v=>mk a v) post:=fun sg hf=>by
 have:=ho sg hf
 cases mo with
 | ok a=>
  obtain⟨sg',e,hf'⟩:=this
  have h2:=Ev.bind (h a) (hb a) sg' hf'
  rw[zx,e,Res.aa,ht a sg' hf',if_pos rfl]
  exact h2
 | exc x=>obtain⟨s,e,r⟩:=this;exact⟨s,by rw[zx,e];rfl,r⟩
 | bad=>trivial
theorem vh{e:T→D}{l:List T}{r:RV}(h:Lv p σ r e l){sg:Slots}(hf:Fits p sg):ij ⟨sg,σ⟩ r=true:=by rw[Gv,(h sg hf).1];rfl
def i7(l:List T)(x:T):M (List T):=(gd (decide (l.length<sizeLine))).bind fun _=>.ok (l++[x])
theorem wx{e:T→D}{l:List T}{x:T}(h:p[i]? =some (some (.own (oL e l)))):Ev R p σ (bAppend (.own i) [.val (.d (e x))]) (i7 l x) (fun v=>(.val (.d .non),p.set i (some (.own (oL e v))),σ)):=fun sg hf=>by
 unfold i7
 by_cases hl:l.length<sizeLine
 ·rw[show decide (l.length<sizeLine)=true from decide_eq_true hl,vo,M.aa]
  refine⟨_,?_,hf.set i _⟩
  have h:=hf.2 _ _ h
  simp[h,hl,oL]
 ·rw[show decide (l.length<sizeLine)=false from decide_eq_false hl];trivial
theorem GD{e:T→D}{l:List T}{x:T}{S:List T→List Ob}(h:σ[n]? =some (oL e l))(hs:∀ l',σ.set n (oL e l')=S l'):Ev R p σ (bAppend (.val (.r n)) [.val (.d (e x))]) (i7 l x) (fun v=>(.val (.d .non),p,S v)):=fun sg hf=>by
 unfold i7
 by_cases hl:l.length<sizeLine
 ·rw[show decide (l.length<sizeLine)=true from decide_eq_true hl,vo,M.aa]
  refine⟨sg,?_,hf⟩
  dsimp only
  rw[←hs]
  simp[h,hl,oL]
 ·rw[show decide (l.length<sizeLine)=false from decide_eq_false hl];trivial
def xp(l:List T):M (T×List T):=match l[l.length- 1]? with
  | some y=>.ok (y,l.dropLast)
  | none=>.bad
theorem Hx{e:T→D}{l:List T}{S:List T→List Ob}(h:σ[n]? =some (oL e l))(hs:∀ l',σ.set n (oL e l')=S l'):Ev R p σ (uD (.val (.r n)) []) (xp l) (fun v=>(.val (.d (e v.1)),p,S v.2)):=fun sg hf=>by
 unfold xp
 cases h2:l[l.length- 1]? with
 | none=>trivial
 | some y=>
  refine⟨sg,?_,hf⟩
  dsimp only
  rw[←hs]
  simp[h,h2,List.map_dropLast,oL]
def joinM(a:List Nat)(ys:List (List Nat)):M (List Nat):=(gd (decide ((ys.map (·.length)).sum+ys.length*a.length≤16777216))).bind fun _=>.ok (rl a ys)
theorem AW{a:List Nat}{l:List (List Nat)}{r:RV}(h:Lv p σ r .str l):Ev R p σ (qV (.val (.d (.str a))) [r]) (joinM a l) (pD .str p σ):=Ev.gd (r:=fun v=>RV.val (Val.d (D.str v))) fun hb sg hf=>by
 show(match dv _ _,(Vw.sq _ r).bind strsOf with | some (.str a),some ys=>_ | _,_=>Res.stuck)=_
 rw[h.sq hf,Option.bind_some,wU]
 simp only[vq]
 rw[if_pos (of_decide_eq_true hb)];rfl
end
end Vw
namespace Vw
open PySem L2
def nox{T:Type}:M T→M T
 | .ok a=>.ok a
 | _=>.bad
@[simp] theorem aN{T:Type}(a:T):nox (.ok a)=.ok a:=id rfl
@[simp] theorem JB{T:Type}:nox (.bad:M T)=.bad:=id rfl
def fw{T:Type}(R:List Ob→Prop)(g:Fn)(args:List Val)(σ:List Ob)(m:M T)(post:T→RV×List Ob):Prop:=
 match m with
 | .ok v=>g args σ=.ok (post v).1 ⟨[],(post v).2⟩
 | .exc x=>∃ s,g args σ=.exc x s∧R s.st
 | .bad=>True
section
variable{R R':List Ob→Prop}{p p':Pt}{σ σ':List Ob}{α β γ T U W A B C:Type}{i j n:Nat}
theorem fw.up{g:Fn}{args:List Val}{m:M T}{post:T→RV×List Ob}(h:fw R g args σ m post)(w:∀ s,R s→R' s):fw R' g args σ m post:=by
 cases m with
 | ok v=>exact h
 | exc x=>obtain⟨s,e,r⟩:=h;exact⟨s,e,w _ r⟩
 | bad=>trivial
theorem l7{k:Nat}{fs:List (State→Res RV)}{g:Fn}{mA:M A}{rs:A→List RV}{P:A→Pt}{S:A→List Ob}{vs:A→List Val}{Q:A→Pt}{mg:A→M T}{pg:A→T→RV×List Ob}{post:T→RV×Pt×List Ob}(h:Ev R p σ (aC fs) mA (fun v=>(rs v,P v,S v)))(hc:∀ v,Cap (S v) (P v) (rs v) (vs v) (Q v))(hl:∀ v,(vs v).length=k)(hg:∀ v,fw R' g (vs v) (S v) (mg v) (pg v))(hp:∀ v w,post w=((pg v w).1,Q v,(pg v w).2)):Ev R p σ (dz k (aC fs) g) (mA.bind fun v=>nox (mg v)) post:=by
 refine Ev.bind h fun v sg hf=>?_
 obtain⟨sg2,e2,hf2⟩:=(hc v).run sg hf
 have hg:=hg v
 show Rn R ((bI (rs v) ⟨sg,S v⟩).bind fun args s=>if args.length=k then eg g args s else .stuck) (nox (mg v)) post
 rw[e2,Res.aa,if_pos (hl v),yL]
 cases hm:mg v with
 | ok w=>
  rw[hm]at hg
  rw[show g (vs v) (S v)=_ from hg,xT]
  exact⟨sg2,by rw[hp v w],by rw[hp v w];exact hf2⟩
 | exc x=>trivial
 | bad=>trivial
def uX(p:Pt)(σ:List Ob)(x:Val)(c m:String):Prop:=∃ fl,(∀ sg,Fits p sg→tL ⟨sg,σ⟩ (.val x)=some (c,fl))∧fl.contains m=false
theorem aR{c m:String}{fs:List (String×Val)}(hσ:σ[n]? =some (.ins c fs))(h:(fs.map (·.1)).contains m=false):uX p σ (.r n) c m:=⟨_,fun sg hf=>by
 unfold tL
 simp[hσ],h⟩
theorem Fg{c m:String}{k:Nat}{fo:State→Res RV}{fs:List (State→Res RV)}{g:Fn}{mo:M B}{xo:B→Val}{Po:B→Pt}{So:B→List Ob}{mA:B→M A}{rs:B→A→List RV}{P:B→A→Pt}{S:B→A→List Ob}{vs:B→A→List Val}{Q:B→A→Pt}{mg:B→A→M T}{pg:B→A→T→RV×List Ob}{post:T→RV×Pt×List Ob}(ho:Ev R p σ (ev fo) mo (fun b=>(.val (xo b),Po b,So b)))(hi:∀ b,uX (Po b) (So b) (xo b) c m)(h:∀ b,Ev R (Po b) (So b) (aC fs) (mA b) (fun v=>(rs b v,P b v,S b v)))(hc:∀ b v,Cap (S b v) (P b v) (rs b v) (vs b v) (Q b v))(hl:∀ b v,(vs b v).length+1=k)(hg:∀ b v,fw R' g (xo b::vs b v) (S b v) (mg b v) (pg b v))(hp:∀ b v w,post w=((pg b v w).1,Q b v,(pg b v w).2)):Ev R p σ (cw eg c m k fo (aC fs) g) (mo.bind fun b=>(mA b).bind fun v=>nox (mg b v)) post:=by
 refine Ev.bind ho fun b sg hf=>?_
 obtain⟨fl,hi,hfl⟩:=hi b
 dsimp only
 rw[hi sg hf]
 dsimp only
 rw[if_pos ⟨rfl,hfl⟩]
 refine Ev.bind (h b) (fun v sg hf=>?_) sg hf
 obtain⟨sg2,e2,hf2⟩:=(hc b v).run sg hf
 have hg:=hg b v
 show Rn R ((bI (rs b v) ⟨sg,S b v⟩).bind fun args s=>if args.length+1=k then eg g (xo b::args) s else .stuck) (nox (mg b v)) post
 rw[e2,Res.aa,if_pos (hl b v),yL]
 cases hm:mg b v with
 | ok w=>
  rw[hm]at hg
  rw[show g (xo b::vs b v) (S b v)=_ from hg,xT]
  exact⟨sg2,by rw[hp b v w],by rw[hp b v w];exact hf2⟩
 | exc x=>trivial
 | bad=>trivial
theorem AG{c m:String}{k:Nat}{fo:State→Res RV}{fs:List (State→Res RV)}{g:Fn}{mo:M B}{xo:B→Val}{Po:B→Pt}{So:B→List Ob}{mA:B→M A}{rs:B→A→List RV}{P:B→A→Pt}{S:B→A→List Ob}{vs:B→A→List Val}{Q:B→A→Pt}{mg:B→A→M T}{pg:B→A→T→RV×List Ob}{post:T→RV×Pt×List Ob}(ho:Ev R p σ (ev fo) mo (fun b=>(.val (xo b),Po b,So b)))(hi:∀ b,uX (Po b) (So b) (xo b) c m)(h:∀ b,Ev R (Po b) (So b) (aC fs) (mA b) (fun v=>(rs b v,P b v,S b v)))(hc:∀ b v,Cap (S b v) (P b v) (rs b v) (vs b v) (Q b v))(hl:∀ b v,(vs b v).length+1=k)(hg:∀ b v,fw R g (xo b::vs b v) (S b v) (mg b v) (pg b v))(hp:∀ b v w,post w=((pg b v w).1,Q b v,(pg b v w).2)):Ev R p σ (cw cx c m k fo (aC fs) g) (mo.bind fun b=>(mA b).bind fun v=>mg b v) post:=by
 refine Ev.bind ho fun b sg hf=>?_
 obtain⟨fl,hi,hfl⟩:=hi b
 dsimp only
 rw[hi sg hf]
 dsimp only
 rw[if_pos ⟨rfl,hfl⟩]
 refine Ev.bind (h b) (fun v sg hf=>?_) sg hf
 obtain⟨sg2,e2,hf2⟩:=(hc b v).run sg hf
 have hg:=hg b v
 show Rn R ((bI (rs b v) ⟨sg,S b v⟩).bind fun args s=>if args.length+1=k then cx g (xo b::args) s else .stuck) (mg b v) post
 rw[e2,Res.aa,if_pos (hl b v)]
 show Rn R (match g (xo b::vs b v) (S b v)with | .ok r s2=>.ok r ⟨sg2,s2.st⟩ | .exc x s2=>.exc x ⟨sg2,s2.st⟩ | .stuck=>.stuck) (mg b v) post
 cases hm:mg b v with
 | ok w=>
  rw[hm]at hg
  rw[show g (xo b::vs b v) (S b v)=_ from hg]
  exact⟨sg2,by rw[hp b v w],by rw[hp b v w];exact hf2⟩
 | exc x=>
  rw[hm]at hg
  obtain⟨s,e,r⟩:=hg
  rw[e]
  exact⟨_,rfl,r⟩
 | bad=>trivial
abbrev pS(E:T→Val)(p:Pt)(σ:List Ob):List T→List Val×Pt×List Ob:=fun l=>(l.map E,p,σ)
def o3(l:List T):List (Int×T):=l.mapIdx fun i x=>((i:Int),x)
theorem Ei{f:State→Res RV}{m:M (List T)}{e:T→D}{P:Pt}{S:List Ob}(h:Ev R p σ (ev f) m (pD (eL e) P S)):Ev R p σ (sD f itemsOf) m (pS (fun x=>.d (e x)) P S):=fun sg hf=>by
 have:=h sg hf
 cases m with
 | ok v=>obtain⟨sg',e1,hf'⟩:=this;exact⟨sg',by rw[xb,e1,Res.aa];simp[Function.comp_def],hf'⟩
 | exc x=>obtain⟨s,e,r⟩:=this;exact⟨s,by rw[xb,e];rfl,r⟩
 | bad=>trivial
theorem Bl{sg:Slots}{st:List Ob}{o:Ob}{d:D}(h:sg[i]? =some (some (.own o)))(hd:o.toD=some d):lF (.own i) ⟨sg,st⟩=.ok d ⟨sg.set i (some (.v (.d d))),st⟩:=by
 rw[AA,Ff,h]
 dsimp only
 rw[hd]
theorem GF{l:List T}{e:T→D}(h:p[i]? =some (some (.own (oL e l)))):Ev R p σ (sD (ab i) itemsOf) (.ok l) (pS (fun x=>.d (e x)) (p.set i (some (.v (.d (eL e l))))) σ):=fun sg hf=>by
 refine⟨_,?_,hf.set i _⟩
 have h:=hf.2 _ _ h
 rw[xb,o4,jQ,h]
 dsimp only
 rw[Res.aa,Iw,Res.aa,Bl h (dr e l),Res.aa]
 simp[Function.comp_def]
theorem E9{f:State→Res RV}{m:M (List T)}{e:T→D}{P:Pt}{S:List Ob}(h:Ev R p σ (ev f) m (pD (eL e) P S)):Ev R p σ (sD f mx) (m.bind fun l=>.ok (o3 l)) (pS (fun x=>.d (Ky .int e x)) P S):=fun sg hf=>by
 have:=h sg hf
 cases m with
 | ok v=>
  obtain⟨sg',e1,hf'⟩:=this
  refine⟨sg',?_,hf'⟩
  rw[xb,e1,Res.aa]
  simp only[AA,xc,Res.aa,ER]
  congr 1
  unfold o3
  apply List.ext_getElem?
  intro i
  simp only[List.getElem?_mapIdx,List.getElem?_map]
  cases v[i]? <;> rfl
 | exc x=>obtain⟨s,e,r⟩:=this;exact⟨s,by rw[xb,e];rfl,r⟩
 | bad=>trivial
end
end Vw
namespace Vw
open PySem L2
section
variable{R R':List Ob→Prop}{p p':Pt}{σ σ':List Ob}{α β γ T U W A B C:Type}{i j n:Nat}
def jB(lo hi:Int):M (List Int):=(gd (decide (-(2^62)≤lo∧lo<2^62∧ -(2^62)≤hi∧hi<2^62))).bind fun _=>.ok ((List.range (hi-lo).toNat).map fun(i:Nat)=>lo+(i:Int))
theorem Ax{lo hi:Int}:Ev R p σ (nG lo hi) (jB lo hi) (pS (fun x=>.d (.int x)) p σ):=fun sg hf=>by
 unfold jB nG
 by_cases h: -(2^62)≤lo∧lo<2^62∧ -(2^62)≤hi∧hi<2^62
 ·rw[decide_eq_true h,vo,M.aa,if_pos h]
  exact⟨sg,by simp[Function.comp_def],hf⟩
 ·rw[decide_eq_false h];trivial
theorem Ih{fs:List (State→Res RV)}{b:List RV→State→Res (List Val)}{m:M A}{rs:A→List RV}{P:A→Pt}{S:A→List Ob}{mk:A→M T}{post:T→List Val×Pt×List Ob}(h:Ev R p σ (aC fs) m (fun v=>(rs v,P v,S v)))(hb:∀ v,Ev R (P v) (S v) (b (rs v)) (mk v) post):Ev R p σ (kL (aC fs) b) (m.bind mk) post:=Ev.bind h hb
theorem yg{a:Int}:Ev R p σ (lS [.val (.d (.int a))]) (jB 0 a) (pS (fun x=>.d (.int x)) p σ):=Ax
theorem Ik{a b:Int}:Ev R p σ (s9 [.val (.d (.int a)),.val (.d (.int b))]) (jB a b) (pS (fun x=>.d (.int x)) p σ):=Ax
def tI(p:Pt)(t:Tg)(v:Val)(q:Pt):Prop:=∀ sg σ,Fits p sg→∃ sg',iF t v ⟨sg,σ⟩=some ⟨sg',σ⟩∧Fits q sg'
def y4(p:Pt)(t:List Tg)(v:List Val)(q:Pt):Prop:=∀ sg σ,Fits p sg→∃ sg',lX t v ⟨sg,σ⟩=some ⟨sg',σ⟩∧Fits q sg'
theorem mT{v:Val}:tI p (.nm i) v (p.set i (some (.v v))):=fun sg σ hf=>⟨_,rfl,hf.set i _⟩
theorem Jh{ts:List Tg}{l:List D}{vs:List Val}{q:Pt}(hv:vs=l.map .d)(hl:l.length=ts.length)(h:y4 p ts vs q):tI p (.tp ts) (.d (.tup l)) q:=fun sg σ hf=>by
 obtain⟨sg',e,hf'⟩:=h sg σ hf
 refine⟨sg',?_,hf'⟩
 subst hv
 rw[Ea,Hq]
 dsimp only
 rw[if_pos (by simpa using hl)]
 exact e
theorem GA:y4 p [] [] p:=fun sg σ hf=>⟨sg,rfl,hf⟩
theorem C2{t:Tg}{ts:List Tg}{v:Val}{vs:List Val}{q q':Pt}(h1:tI p t v q)(h2:y4 q ts vs q'):y4 p (t::ts) (v::vs) q':=fun sg σ hf=>by
 obtain⟨sg1,e1,hf1⟩:=h1 sg σ hf
 obtain⟨sg2,e2,hf2⟩:=h2 sg1 σ hf1
 exact⟨sg2,by rw[DF,e1];exact e2,hf2⟩
def js(mt:T→M Bool)(me:T→M U):List U→List T→M (List U)
 | acc,[]=>.ok acc
 | acc,x::l=>(mt x).bind fun b=>if b=true then(me x).bind fun y=>(gd (decide (acc.length<sizeLine))).bind fun _=>js mt me (acc++[y]) l else js mt me acc l
def jm(mt:T→M Bool)(me:T→M U)(l:List T):M (List U):=nox (js mt me [] l)
theorem sJ{f:State→Res RV}{m:M T}{e:T→D}{P:T→Pt}{S:T→List Ob}(h:Ev R p σ f m (fun v=>(.val (.d (e v)),P v,S v))):Ev R p σ (fun s=>(f s).bind eu) m (fun v=>(Val.d (e v),P v,S v)):=fun sg hf=>by
 have:=h sg hf
 cases m with
 | ok v=>obtain⟨sg',e,hf'⟩:=this;exact⟨sg',by show(f _).bind eu=_;rw[e];rfl,hf'⟩
 | exc x=>obtain⟨s,e,r⟩:=this;exact⟨s,by show(f _).bind eu=_;rw[e];rfl,r⟩
 | bad=>trivial
def iP(mt:T→C→M Bool)(me:T→C→M (U×C)):List U→List T→C→M (List U×C)
 | acc,[],c=>.ok (acc,c)
 | acc,x::l,c=>(mt x c).bind fun b=>if b=true then(me x c).bind fun y=>(gd (decide (acc.length<sizeLine))).bind fun _=>iP mt me (acc++[y.1]) l y.2 else iP mt me acc l c
def jr(mt:T→C→M Bool)(me:T→C→M (U×C))(l:List T)(c:C):M (List U×C):=nox (iP mt me [] l c)
theorem vv{vs:List Nat}{t:Tg}{ft:State→Res Bool}{fe:State→Res RV}{E:T→Val}{e:U→D}{S:C→List Ob}{mt:T→C→M Bool}{me:T→C→M (U×C)}{p2 p3:T→Pt}(hv:(vs.all fun v=>(p.getD v none).isNone)=true)
  (hb:∀ x c,tI p t (E x) (p2 x)∧Ev R (p2 x) (S c) ft (mt x c) (fun b=>(b,p2 x,S c))∧Ev R (p2 x) (S c) (fun s=>(fe s).bind eu) (me x c) (fun y=>(.d (e y.1),p3 x,S y.2))) (hw2:∀ x,gb p (p2 x)) (hw3:∀ x,gb p (p3 x)):
  ∀ (l:List T) (acc:List U) (c:C) (sg:Slots),Fits p sg→match iP mt me acc l c with
   | .ok r=>∃ sg',pL vs t ft fe (l.map E) (acc.map fun x=>.d (e x)) ⟨sg,S c⟩=.ok (r.1.map fun x=>.d (e x)) ⟨sg',S r.2⟩∧Fits p sg'
   | _=>True
 | [],acc,c,sg,hf=>⟨sg,rfl,hf⟩
 | x::l,acc,c,sg,hf=>by
  obtain⟨h1,h2,h3⟩:=hb x c
  have ew:eH vs ⟨sg,S c⟩=⟨ig sg vs,S c⟩:=rfl
  obtain⟨sg1,e1,f1⟩:=h1 _ (S c) (hf.wipe vs hv)
  have h2:=h2 sg1 f1
  unfold iP
  rw[List.map_cons]
  have step:pL vs t ft fe (E x::l.map E) (acc.map fun x=>.d (e x)) ⟨sg,S c⟩=(match ft ⟨sg1,S c⟩with
   | .ok true s=>match fe s with
    | .ok rv s=>match eu rv s with
     | .ok y s=>if(acc.map fun x=>Val.d (e x)).length<sizeLine then pL vs t ft fe (l.map E) ((acc.map fun x=>Val.d (e x))++[y]) (eH vs s)else .stuck
     | _=>.stuck
    | _=>.stuck
   | .ok false s=>pL vs t ft fe (l.map E) (acc.map fun x=>.d (e x)) (eH vs s)
   | _=>.stuck):=by
   show(match iF t (E x) (eH vs ⟨sg,S c⟩)with | none=>Res.stuck | some s=>_)=_
   rw[ew,e1]
   try rfl
  rw[step]
  cases hm:mt x c with
  | ok b=>
   rw[hm]at h2
   obtain⟨sg2,e2,f2⟩:=h2
   rw[M.aa,e2]
   cases b with
   | true=>
    have h3:=h3 sg2 f2
    rw[if_pos rfl]
    cases hy:me x c with
    | ok y=>
     rw[hy]at h3
     obtain⟨sg3,e3,f3⟩:=h3
     rw[M.aa]
     by_cases ha:acc.length<sizeLine
     ·rw[decide_eq_true ha,vo,M.aa]
      have e3:(fe ⟨sg2,S c⟩).bind eu=.ok (.d (e y.1)) ⟨sg3,S y.2⟩:=e3
      cases hfe:fe ⟨sg2,S c⟩with
      | ok rv s=>
       rw[hfe,Res.aa]at e3
       dsimp only
       rw[hfe]
       dsimp only
       rw[e3]
       dsimp only
       rw[if_pos (by simpa using ha)]
       have ih:=vv hv hb hw2 hw3 l (acc++[y.1]) y.2 (ig sg3 vs) ((f3.weak (hw3 x)).wipe vs hv)
       rw[List.map_append]at ih
       exact ih
      | exc z s=>rw[hfe]at e3;cases e3
      | stuck=>rw[hfe]at e3;cases e3
     ·rw[decide_eq_false ha];trivial
    | exc z=>trivial
    | bad=>trivial
   | false=>
    rw[if_neg (by simp)]
    dsimp only
    exact vv hv hb hw2 hw3 l acc c (ig sg2 vs) ((f2.weak (hw2 x)).wipe vs hv)
  | exc z=>trivial
  | bad=>trivial
theorem tW{vs:List Nat}{t:Tg}{src:State→Res (List Val)}{ft:State→Res Bool}{fe:State→Res RV}{ml:M A}{lA:A→List T}{E:T→Val}{q:Pt}{e:U→D}{S:C→List Ob}{cA:A→C}{mt:T→C→M Bool}{me:T→C→M (U×C)}{p2 p3:T→Pt}(hs:Ev R p σ src ml (fun a=>((lA a).map E,q,S (cA a))))(hv:(vs.all fun v=>(q.getD v none).isNone)=true)
  (hb:∀ x c,tI q t (E x) (p2 x)∧Ev R (p2 x) (S c) ft (mt x c) (fun b=>(b,p2 x,S c))∧Ev R (p2 x) (S c) (fun s=>(fe s).bind eu) (me x c) (fun y=>(.d (e y.1),p3 x,S y.2))) (hw2:∀ x,gb q (p2 x)) (hw3:∀ x,gb q (p3 x)):
  Ev R p σ (lN vs t src ft fe) (ml.bind fun a=>jr mt me (lA a) (cA a)) (fun r=>(.new (oL e r.1),q,S r.2)):=Ev.bind hs fun a sg hf=>by
 have:=vv (R:=R) (fe:=fe) (ft:=ft) (me:=me) (mt:=mt) hv hb hw2 hw3 (lA a) [] (cA a) (ig sg vs) (hf.wipe vs hv)
 unfold jr
 cases hc:iP mt me [] (lA a) (cA a)with
 | ok r=>
  rw[hc]at this
  obtain⟨sg',e1,f1⟩:=this
  refine⟨sg',?_,f1⟩
  have e1:pL vs t ft fe ((lA a).map E) [] (eH vs ⟨sg,S (cA a)⟩)=_:=e1
  show(pL vs t ft fe ((lA a).map E) [] (eH vs ⟨sg,S (cA a)⟩)).bind zY=_
  rw[e1];rfl
 | exc x=>trivial
 | bad=>trivial
theorem vu(mt:T→M Bool)(me:T→M U):∀ (l:List T) (acc:List U),iP (C:=Unit) (fun x _=>mt x) (fun x _=>(me x).bind fun y=>.ok (y,())) acc l ()=(js mt me acc l).bind fun r=>.ok (r,())
 | [],acc=>rfl
 | x::l,acc=>by
  unfold iP js
  cases mt x with
  | ok b=>
   cases b with
   | true=>
    simp only[M.aa,if_pos]
    cases me x with
    | ok y=>
     simp only[M.aa]
     cases decide (acc.length<sizeLine)with
     | true=>simp only[vo,M.aa];exact vu mt me l _
     | false=>rfl
    | exc z=>rfl
    | bad=>rfl
   | false=>
    simp only[M.aa]
    exact vu mt me l acc
  | exc z=>rfl
  | bad=>rfl
theorem zX{vs:List Nat}{t:Tg}{src:State→Res (List Val)}{ft:State→Res Bool}{fe:State→Res RV}{ml:M (List T)}{E:T→Val}{q:Pt}{τ:List Ob}{e:U→D}{mt:T→M Bool}{me:T→M U}{p2 p3:T→Pt}(hs:Ev R p σ src ml (fun l=>(l.map E,q,τ)))(hv:(vs.all fun v=>(q.getD v none).isNone)=true)
  (hb:∀ x,tI q t (E x) (p2 x)∧Ev R (p2 x) τ ft (mt x) (fun b=>(b,p2 x,τ))∧Ev R (p2 x) τ (fun s=>(fe s).bind eu) (me x) (fun y=>(.d (e y),p3 x,τ))) (hw2:∀ x,gb q (p2 x)) (hw3:∀ x,gb q (p3 x)):
  Ev R p σ (lN vs t src ft fe) (ml.bind fun l=>jm mt me l) (fun r=>(.new (oL e r),q,τ)):=by
 have h:=tW (R:=R) (C:=Unit) (S:=fun _=>τ) (cA:=fun _=>()) (lA:=fun l=>l) (mt:=fun x _=>mt x) (me:=fun x _=>(me x).bind fun y=>.ok (y,())) (e:=e) (p3:=p3) hs hv (fun x c=>⟨(hb x).1,(hb x).2.1,Ev.map (fun y=>(y,())) _ (hb x).2.2 fun v=>rfl⟩) hw2 hw3
 intro sg hf
 have h:=h sg hf
 cases ml with
 | ok l=>
  show Rn R _ (jm mt me l) _
  have h:Rn R _ (jr (C:=Unit) (fun x _=>mt x) (fun x _=>(me x).bind fun y=>.ok (y,())) l ()) _:=h
  unfold jr at h
  unfold jm
  rw[vu]at h
  revert h
  cases js mt me [] l<;> intro h<;> exact h
 | exc x=>exact h
 | bad=>trivial
theorem mH:Ev R p σ lW (.ok true) (pB p σ):=Ev.pure (r:=fun v:Bool=>v)
end
end Vw
namespace Vw
open PySem L2
@[simp] theorem M.bind_pure{α:Type}(m:M α):(m.bind fun v=>.ok v)=m:=by cases m<;> rfl
inductive OutS where
 | nx (p:Pt) (σ:List Ob)
 | go (p:Pt) (σ:List Ob)
 | brk (p:Pt) (σ:List Ob)
 | ret (rv:RV) (σ:List Ob)
def Gf(r:Res Fl):OutS→Prop
 | .nx p σ=>∃ sg,r=.ok .nx ⟨sg,σ⟩∧Fits p sg
 | .go p σ=>∃ sg,(r=.ok .nx ⟨sg,σ⟩∨r=.ok .cnt ⟨sg,σ⟩)∧Fits p sg
 | .brk p σ=>∃ sg,r=.ok .brk ⟨sg,σ⟩∧Fits p sg
 | .ret rv σ=>∃ r0 sg,r=.ok (.ret r0) ⟨sg,σ⟩∧mL ⟨sg,σ⟩ r0=some rv
def Sg{T:Type}(w:Bool)(R:List Ob→Prop)(p:Pt)(σ:List Ob)(b:State→Res Fl)(m:M T)(post:T→OutS):Prop:=∀ sg,Fits p sg→match m with
 | .ok v=>Gf (b ⟨sg,σ⟩) (post v)∧(w=true→∀ s,b ⟨sg,σ⟩≠ .ok .nx s)
 | .exc x=>∃ s,b ⟨sg,σ⟩=.exc x s∧R s.st
 | .bad=>True
inductive Lp (C Q:Type) where
 | go (c:C)
 | brk (c:C)
 | ret (q:Q)
def foldM{C T:Type}(f:C→T→M C):C→List T→M C
 | c,[]=>.ok c
 | c,x::l=>(f c x).bind fun c=>foldM f c l
def CW{C T Q:Type}(f:C→T→M (Lp C Q)):C→List T→M (C ⊕ Q)
 | c,[]=>.ok (.inl c)
 | c,x::l=>(f c x).bind fun o=>match o with
  | .go c=>CW f c l
  | .brk c=>.ok (.inl c)
  | .ret q=>.ok (.inr q)
def ou{C:Type}(t:C→M Bool)(f:C→M C):Nat→C→M C
 | 0,_=>.bad
 | n+1,c=>(t c).bind fun b=>if b=true then(f c).bind fun c=>ou t f n c else .ok c
@[simp] theorem HS{C T:Type}(f:C→T→M C)(c:C):foldM f c []=.ok c:=id rfl
@[simp] theorem j8{C T:Type}(f:C→T→M C)(c:C)(x:T)(l:List T):foldM f c (x::l)=(f c x).bind fun c=>foldM f c l:=id rfl
@[simp] theorem HX{C T Q:Type}(f:C→T→M (Lp C Q))(c:C):CW f c []=.ok (.inl c):=id rfl
def Fh{C Q U:Type}(k:C→M U)(ι:Q→U):C ⊕ Q→M U
 | .inl c=>k c
 | .inr q=>.ok (ι q)
@[simp] theorem Kk{C Q U:Type}(k:C→M U)(ι:Q→U)(c:C):Fh k ι (.inl c)=k c:=id rfl
@[simp] theorem KG{C Q U:Type}(k:C→M U)(ι:Q→U)(q:Q):Fh k ι (.inr q)=.ok (ι q):=id rfl
section
variable{R R':List Ob→Prop}{p p' q:Pt}{σ σ':List Ob}{α β γ T U W A B C Q:Type}{i j n:Nat}{w:Bool}
theorem lx{v:T}{post:T→OutS}(hp:post v=.nx p' σ)(hw:gb p' p):Sg false R p σ (av []) (.ok v) post:=fun sg hf=>⟨by rw[hp];exact⟨sg,rfl,hf.weak hw⟩,fun h=>by cases h⟩
theorem uH{v:T}{post:T→OutS}(hp:post v=.go p' σ)(hw:gb p' p):Sg false R p σ (av []) (.ok v) post:=fun sg hf=>⟨by rw[hp];exact⟨sg,.inl rfl,hf.weak hw⟩,fun h=>by cases h⟩
theorem p5{s:State→Res Fl}{rest:List (State→Res Fl)}{m:M A}{P:A→Pt}{S:A→List Ob}{k:A→M T}{post:T→OutS}(hs:Ev R p σ s m (fun v=>(.nx,P v,S v)))(hr:∀ v,Sg w R (P v) (S v) (av rest) (k v) post):Sg w R p σ (av (s::rest)) (m.bind k) post:=fun sg hf=>by
 have:=hs sg hf
 cases m with
 | ok v=>
  obtain⟨sg',e,f⟩:=this
  have h2:=hr v sg' f
  rw[M.aa,Ac e]
  exact h2
 | exc x=>
  obtain⟨s',e,r⟩:=this
  exact⟨s',by rw[nq,e,xN],r⟩
 | bad=>trivial
theorem BZ{r:Res Fl}{k:State→Res Fl}(h:∀ s,r≠ .ok .nx s):pk r k=r:=by
 cases r with
 | ok f s=>
  cases f with
  | nx=>exact absurd rfl (h s)
  | ret r=>rfl
  | brk=>rfl
  | cnt=>rfl
 | exc x s=>rfl
 | stuck=>rfl
theorem bL{s:State→Res Fl}{rest:List (State→Res Fl)}{m:M T}{post:T→OutS}(hs:Sg true R p σ s m post):Sg w R p σ (av (s::rest)) m post:=fun sg hf=>by
 have:=hs sg hf
 cases m with
 | ok v=>
  have h2:=this.2 rfl
  rw[nq,BZ h2]
  exact⟨this.1,fun _=>h2⟩
 | exc x=>
  obtain⟨s',e,r⟩:=this
  exact⟨s',by rw[nq,e,xN],r⟩
 | bad=>trivial
theorem Sg.weak{b:State→Res Fl}{m:M T}{post:T→OutS}(h:Sg true R p σ b m post):Sg w R p σ b m post:=fun sg hf=>by
 have:=h sg hf
 cases m with
 | ok v=>exact⟨this.1,fun _=>this.2 rfl⟩
 | exc x=>exact this
 | bad=>trivial
theorem eB{f:State→Res RV}{m:M A}{x:A→Val}{P:A→Pt}{S:A→List Ob}{φ:A→T}{post:T→OutS}(h:Ev R p σ f m (fun v=>(.val (x v),P v,S v)))(hp:∀ v,post (φ v)=.ret (.val (x v)) (S v)):Sg true R p σ (cC f) (m.bind fun v=>.ok (φ v)) post:=fun sg hf=>by
 have:=h sg hf
 cases m with
 | ok v=>
  obtain⟨sg',e,f⟩:=this
  refine⟨?_,fun _ s h=>?_⟩
  ·rw[hp]
   exact⟨.val (x v),sg',by rw[nM,e];rfl,rfl⟩
  ·rw[nM,e]at h
   cases h
 | exc x=>
  obtain⟨s',e,r⟩:=this
  exact⟨s',by rw[nM,e];rfl,r⟩
 | bad=>trivial
theorem HZ{f:State→Res RV}{m:M A}{x:A→Ob}{P:A→Pt}{S:A→List Ob}{φ:A→T}{post:T→OutS}(h:Ev R p σ f m (fun v=>(.new (x v),P v,S v)))(hp:∀ v,post (φ v)=.ret (.new (x v)) (S v)):Sg true R p σ (cC f) (m.bind fun v=>.ok (φ v)) post:=fun sg hf=>by
 have:=h sg hf
 cases m with
 | ok v=>
  obtain⟨sg',e,f⟩:=this
  refine⟨?_,fun _ s h=>?_⟩
  ·rw[hp]
   exact⟨.new (x v),sg',by rw[nM,e];rfl,rfl⟩
  ·rw[nM,e]at h
   cases h
 | exc x=>
  obtain⟨s',e,r⟩:=this
  exact⟨s',by rw[nM,e];rfl,r⟩
 | bad=>trivial
theorem Kt{o:Ob}{a:T}{post:T→OutS}(h:p[i]? =some (some (.own o)))(hp:post a=.ret (.new o) σ):Sg true R p σ (cC (ab i)) (.ok a) post:=fun sg hf=>by
 have h:=hf.2 _ _ h
 refine⟨?_,fun _ s h'=>?_⟩
 ·rw[hp]
  exact⟨.own i,sg,by rw[nM,jQ,h];rfl,by rw[Fc,h]⟩
 ·rw[nM,jQ,h]at h'
  cases h'
theorem Dc{c:String}{post:T→OutS}(hr:R σ):Sg true R p σ (qJ c) (.exc ⟨c,none⟩) post:=fun sg hf=>⟨_,rfl,hr⟩
theorem xS{as bs:List (State→Res Fl)}{s:State}:pk (av as s) (av bs)=av (as++bs) s:=by
 induction as generalizing s with
 | nil=>rfl
 | cons a as ih=>
  rw[List.cons_append,nq,nq]
  cases a s with
  | ok f s'=>
   cases f with
   | nx=>rw[uj,uj];exact ih
   | ret r=>rfl
   | brk=>rfl
   | cnt=>rfl
  | exc x s'=>rfl
  | stuck=>rfl
theorem gS{t:State→Res Bool}{As Bs rest:List (State→Res Fl)}{mt:M A}{b:A→Bool}{P:A→Pt}{S:A→List Ob}{mA mB:A→M T}{post:T→OutS}(ht:Ev R p σ t mt (fun v=>(b v,P v,S v)))(hA:∀ v,Sg w R (P v) (S v) (av (As++rest)) (mA v) post)(hB:∀ v,Sg w R (P v) (S v) (av (Bs++rest)) (mB v) post):Sg w R p σ (av (dW t (av As) (av Bs)::rest)) (mt.bind fun v=>if b v=true then mA v else mB v) post:=fun sg hf=>by
 have:=ht sg hf
 cases mt with
 | ok v=>
  obtain⟨sg',e,f⟩:=this
  rw[M.aa,nq,zR,e,Res.aa]
  dsimp only
  by_cases hb:b v=true
  ·have h2:=hA v sg' f
   simp only[if_pos hb,xS]
   exact h2
  ·have h2:=hB v sg' f
   simp only[if_neg hb,xS]
   exact h2
 | exc x=>
  obtain⟨s',e,r⟩:=this
  exact⟨s',by rw[nq,zR,e];rfl,r⟩
 | bad=>trivial
theorem wB{t:State→Res Bool}{As Bs rest:List (State→Res Fl)}{mt:M A}{b:A→Bool}{P:A→Pt}{S:A→List Ob}{mA mB:A→M C}{Pc:C→Pt}{Sc:C→List Ob}{k:C→M T}{post:T→OutS}(ht:Ev R p σ t mt (fun v=>(b v,P v,S v)))(hA:∀ v,Sg false R (P v) (S v) (av As) (mA v) (fun c=>.nx (Pc c) (Sc c)))(hB:∀ v,Sg false R (P v) (S v) (av Bs) (mB v) (fun c=>.nx (Pc c) (Sc c)))(hr:∀ c,Sg w R (Pc c) (Sc c) (av rest) (k c) post):Sg w R p σ (av (dW t (av As) (av Bs)::rest)) ((mt.bind fun v=>if b v=true then mA v else mB v).bind k) post:=by
 refine p5 (P:=Pc) (S:=Sc) (fun sg hf=>?_) hr
 have:=ht sg hf
 cases mt with
 | ok v=>
  obtain⟨sg',e,f⟩:=this
  rw[M.aa,zR,e,Res.aa]
  dsimp only
  by_cases hb:b v=true
  ·have h2:=hA v sg' f
   simp only[if_pos hb]
   cases hm:mA v with
   | ok c=>rw[hm]at h2;exact h2.1
   | exc x=>rw[hm]at h2;exact h2
   | bad=>trivial
  ·have h2:=hB v sg' f
   simp only[if_neg hb]
   cases hm:mB v with
   | ok c=>rw[hm]at h2;exact h2.1
   | exc x=>rw[hm]at h2;exact h2
   | bad=>trivial
 | exc x=>
  obtain⟨s',e,r⟩:=this
  exact⟨s',by rw[zR,e];rfl,r⟩
 | bad=>trivial
theorem e9{f:State→Res RV}{m:M A}{x:A→Val}{P:A→Pt}{S:A→List Ob}(h:Ev R p σ f m (fun v=>(.val (x v),P v,S v))):Ev R p σ (cq i f) m (fun v=>(.nx,(P v).set i (some (.v (x v))),S v)):=fun sg hf=>by
 have:=h sg hf
 cases m with
 | ok v=>obtain⟨sg',e,f⟩:=this;exact⟨_,by rw[wH,e];rfl,f.set i _⟩
 | exc x=>obtain⟨s',e,r⟩:=this;exact⟨s',by rw[wH,e];rfl,r⟩
 | bad=>trivial
theorem nC{f:State→Res RV}{m:M A}{x:A→Ob}{P:A→Pt}{S:A→List Ob}(h:Ev R p σ f m (fun v=>(.new (x v),P v,S v))):Ev R p σ (cq i f) m (fun v=>(.nx,(P v).set i (some (.own (x v))),S v)):=fun sg hf=>by
 have:=h sg hf
 cases m with
 | ok v=>obtain⟨sg',e,f⟩:=this;exact⟨_,by rw[wH,e];rfl,f.set i _⟩
 | exc x=>obtain⟨s',e,r⟩:=this;exact⟨s',by rw[wH,e];rfl,r⟩
 | bad=>trivial
theorem hJ{f:State→Res RV}{m:M A}{r:A→RV}{P:A→Pt}{S:A→List Ob}(h:Ev R p σ f m (fun v=>(r v,P v,S v))):Ev R p σ (dH f) m (fun v=>(.nx,P v,S v)):=fun sg hf=>by
 have:=h sg hf
 cases m with
 | ok v=>obtain⟨sg',e,f⟩:=this;exact⟨sg',by rw[An,e];rfl,f⟩
 | exc x=>obtain⟨s',e,r⟩:=this;exact⟨s',by rw[An,e];rfl,r⟩
 | bad=>trivial
theorem xj{t:Tg}{b:State→Res Fl}{E:T→Val}{P:C→Pt}{S:C→List Ob}{p2:C→T→Pt}{mb:C→T→M C}(ht:∀ c x,tI (P c) t (E x) (p2 c x))(hb:∀ c x,Sg false R (p2 c x) (S c) b (mb c x) (fun c'=>.go (P c') (S c'))):
  ∀ (l:List T) (c:C) (sg:Slots),Fits (P c) sg→Rn R (j6 t b (l.map E) ⟨sg,S c⟩) (foldM mb c l) (fun c'=>(.nx,P c',S c'))
 | [],c,sg,hf=>⟨sg,rfl,hf⟩
 | x::l,c,sg,hf=>by
  obtain⟨sg1,e1,f1⟩:=ht c x sg (S c) hf
  have h:=hb c x sg1 f1
  rw[List.map_cons,Ey,e1,j8]
  dsimp only
  cases hm:mb c x with
  | ok c'=>
   rw[hm]at h
   obtain⟨⟨sg2,e2,f2⟩,_⟩:=h
   have ih:=xj ht hb l c' sg2 f2
   rw[M.aa]
   rcases e2 with e2 | e2
   ·rw[e2,DY];exact ih
   ·rw[e2,Bk];exact ih
  | exc z=>
   rw[hm]at h
   obtain⟨s',e,r⟩:=h
   exact⟨s',by rw[e];rfl,r⟩
  | bad=>trivial
theorem zE{t:Tg}{src:State→Res (List Val)}{b:State→Res Fl}{ml:M A}{lA:A→List T}{E:T→Val}{q:A→Pt}{S0:A→List Ob}{c0:A→C}{P:C→Pt}{S:C→List Ob}{p2:C→T→Pt}{mb:C→T→M C}(hs:Ev R p σ src ml (fun a=>((lA a).map E,q a,S0 a)))(hw:∀ a,gb (P (c0 a)) (q a))(hS:∀ a,S0 a=S (c0 a))(ht:∀ c x,tI (P c) t (E x) (p2 c x))(hb:∀ c x,Sg false R (p2 c x) (S c) b (mb c x) (fun c'=>.go (P c') (S c'))):Ev R p σ (nW t src b) (ml.bind fun a=>foldM mb (c0 a) (lA a)) (fun c'=>(.nx,P c',S c')):=Ev.bind hs fun a sg hf=>by
 dsimp only at hf ⊢
 rw[hS a]
 exact xj ht hb (lA a) (c0 a) sg (hf.weak (hw a))
theorem AI{t:State→Res Bool}{b:State→Res Fl}{P:C→Pt}{S:C→List Ob}{mt:C→M Bool}{mb:C→M C}(ht:∀ c,Ev R (P c) (S c) t (mt c) (fun v=>(v,P c,S c)))(hb:∀ c,Sg false R (P c) (S c) b (mb c) (fun c'=>.go (P c') (S c'))):∀ (n:Nat) (c:C) (sg:Slots),Fits (P c) sg→Rn R (pG n t b ⟨sg,S c⟩) (ou mt mb n c) (fun c'=>(.nx,P c',S c'))
 | 0,c,sg,hf=>trivial
 | n+1,c,sg,hf=>by
  have h1:=ht c sg hf
  unfold ou pG
  cases hm:mt c with
  | ok v=>
   rw[hm]at h1
   obtain⟨sg1,e1,f1⟩:=h1
   rw[e1,Res.aa,M.aa]
   cases v with
   | false=>
    rw[if_neg (by simp),if_neg (by simp)]
    exact⟨sg1,rfl,f1⟩
   | true=>
    rw[if_pos rfl,if_pos rfl]
    have h2:=hb c sg1 f1
    cases hb':mb c with
    | ok c'=>
     rw[hb']at h2
     obtain⟨⟨sg2,e2,f2⟩,_⟩:=h2
     have ih:=AI ht hb n c' sg2 f2
     dsimp only
     rw[M.aa]
     rcases e2 with e2 | e2
     ·rw[e2];exact ih
     ·rw[e2];exact ih
    | exc z=>
     rw[hb']at h2
     obtain⟨s',e,r⟩:=h2
     exact⟨s',by dsimp only;rw[e],r⟩
    | bad=>trivial
  | exc z=>
   rw[hm]at h1
   obtain⟨s',e,r⟩:=h1
   exact⟨s',by rw[e];rfl,r⟩
  | bad=>trivial
theorem Bj{N:Nat}{t:State→Res Bool}{b:State→Res Fl}{P:C→Pt}{S:C→List Ob}{mt:C→M Bool}{mb:C→M C}{c0:C}(hw:gb (P c0) p)(hS:σ=S c0)(ht:∀ c,Ev R (P c) (S c) t (mt c) (fun v=>(v,P c,S c)))(hb:∀ c,Sg false R (P c) (S c) b (mb c) (fun c'=>.go (P c') (S c'))):Ev R p σ (pG N t b) (ou mt mb N c0) (fun c'=>(.nx,P c',S c')):=fun sg hf=>by
 subst hS
 exact AI ht hb N c0 sg (hf.weak hw)
theorem gB{N:Nat}{b:State→Res Fl}{args:List Val}{m:M T}{post:T→RV×List Ob}(h:Sg true R (args.map (fun x=>some (.v x))++List.replicate (N-args.length) none) σ b m (fun v=>.ret (post v).1 (post v).2)):fw R (fW N b) args σ m post:=by
 have h:=h _ ⟨rfl,fun _ _ h=>h⟩
 cases m with
 | ok v=>
  obtain⟨⟨r0,sg,e,f⟩,_⟩:=h
  show fW N b args σ=_
  rw[tx,e,D9,f]
 | exc x=>
  obtain⟨s,e,r⟩:=h
  exact⟨⟨[],s.st⟩,by rw[tx,e,yI],r⟩
 | bad=>trivial
theorem E1{N:Nat}{b:State→Res Fl}{args:List Val}{m:M T}{P:T→Pt}{post:T→RV×List Ob}(h:Sg w R (args.map (fun x=>some (.v x))++List.replicate (N-args.length) none) σ b m (fun v=>.nx (P v) (post v).2))(hp:∀ v,(post v).1=.val (.d .non)):fw R (fW N b) args σ m post:=by
 have h:=h _ ⟨rfl,fun _ _ h=>h⟩
 cases m with
 | ok v=>
  obtain⟨⟨sg,e,f⟩,_⟩:=h
  show fW N b args σ=_
  rw[tx,e,FU,hp]
 | exc x=>
  obtain⟨s,e,r⟩:=h
  exact⟨⟨[],s.st⟩,by rw[tx,e,yI],r⟩
 | bad=>trivial
end
end Vw
namespace Vw
open PySem L2
section
variable{R R':List Ob→Prop}{p p':Pt}{σ σ':List Ob}{α β γ T U W A B C:Type}{i j n:Nat}{w:Bool}
theorem ax{fa fb:State→Res RV}{k:RV→RV→State→Res RV}{a:T}{b:U}{m:M W}{ra:T→RV}{Pa:T→Pt}{Sa:T→List Ob}{rb:U→RV}{Pb:U→Pt}{Sb:U→List Ob}{post:W→RV×Pt×List Ob}(ha:Ev R p σ (ev fa) (.ok a) (fun v=>(ra v,Pa v,Sa v)))(hb:Ev R (Pa a) (Sa a) (ev fb) (.ok b) (fun v=>(rb v,Pb v,Sb v)))(hk:Ev R (Pb b) (Sb b) (k (ra a) (rb b)) m post):Ev R p σ (ai fa fb k) m post:=Ev.gD ha (Ev.gD hb hk)
theorem dF{fa fb:State→Res RV}{k:RV→RV→State→Res RV}{a:T}{mb:M U}{mk:U→M W}{ra:T→RV}{Pa:T→Pt}{Sa:T→List Ob}{rb:U→RV}{Pb:U→Pt}{Sb:U→List Ob}{post:W→RV×Pt×List Ob}(ha:Ev R p σ (ev fa) (.ok a) (fun v=>(ra v,Pa v,Sa v)))(hb:Ev R (Pa a) (Sa a) (ev fb) mb (fun v=>(rb v,Pb v,Sb v)))(hk:∀ b,Ev R (Pb b) (Sb b) (k (ra a) (rb b)) (mk b) post):Ev R p σ (ai fa fb k) (mb.bind fun b=>mk b) post:=Ev.gD ha (Ev.bind hb hk)
theorem cP{fa fb:State→Res RV}{k:RV→RV→State→Res RV}{ma:M T}{b:T→U}{mk:T→M W}{ra:T→RV}{Pa:T→Pt}{Sa:T→List Ob}{rb:T→U→RV}{Pb:T→U→Pt}{Sb:T→U→List Ob}{post:W→RV×Pt×List Ob}(ha:Ev R p σ (ev fa) ma (fun v=>(ra v,Pa v,Sa v)))(hb:∀ a,Ev R (Pa a) (Sa a) (ev fb) (.ok (b a)) (fun v=>(rb a v,Pb a v,Sb a v)))(hk:∀ a,Ev R (Pb a (b a)) (Sb a (b a)) (k (ra a) (rb a (b a))) (mk a) post):Ev R p σ (ai fa fb k) (ma.bind fun a=>mk a) post:=Ev.bind ha fun a=>Ev.gD (hb a) (hk a)
theorem hE{fa fb:State→Res RV}{k:RV→RV→State→Res RV}{ma:M T}{mb:T→M U}{mk:T→U→M W}{ra:T→RV}{Pa:T→Pt}{Sa:T→List Ob}{rb:T→U→RV}{Pb:T→U→Pt}{Sb:T→U→List Ob}{post:W→RV×Pt×List Ob}(ha:Ev R p σ (ev fa) ma (fun v=>(ra v,Pa v,Sa v)))(hb:∀ a,Ev R (Pa a) (Sa a) (ev fb) (mb a) (fun v=>(rb a v,Pb a v,Sb a v)))(hk:∀ a b,Ev R (Pb a b) (Sb a b) (k (ra a) (rb a b)) (mk a b) post):Ev R p σ (ai fa fb k) (ma.bind fun a=>(mb a).bind fun b=>mk a b) post:=Ev.bind ha fun a=>Ev.bind (hb a) fun b=>hk a b
theorem zg{f:State→Res RV}{a:Int}(h:Ev R p σ (ev f) (.ok a) (pD .int p σ)):Ev R p σ (ly f) (.ok (-a)) (pD .int p σ):=El h
theorem ae{f:State→Res RV}{fs:List (State→Res RV)}{a:A}{m2:M B}{r1:A→RV}{P1:A→Pt}{S1:A→List Ob}{rs:B→List RV}{P:B→Pt}{S:B→List Ob}(h1:Ev R p σ (ev f) (.ok a) (fun v=>(r1 v,P1 v,S1 v)))(h2:Ev R (P1 a) (S1 a) (aC fs) m2 (fun w=>(rs w,P w,S w))):Ev R p σ (aC (f::fs)) m2 (fun z=>(r1 a::rs z,P z,S z)):=
 Ev.gD h1 (by
  intro sg hf
  have:=h2 sg hf
  cases m2 with
  | ok v=>
   obtain⟨sg',e,f⟩:=this
   exact⟨sg',by dsimp only;rw[e];rfl,f⟩
  | exc x=>
   obtain⟨s,e,r⟩:=this
   exact⟨s,by dsimp only;rw[e];rfl,r⟩
  | bad=>trivial)
theorem fF{fs:List (State→Res RV)}{b:List RV→State→Res RV}{a:A}{rs:A→List RV}{P:A→Pt}{S:A→List Ob}{m:M T}{post:T→RV×Pt×List Ob}(h:Ev R p σ (aC fs) (.ok a) (fun v=>(rs v,P v,S v)))(hb:Ev R (P a) (S a) (b (rs a)) m post):Ev R p σ (eZ (aC fs) b) m post:=Ev.gD h hb
theorem zC{fs:List (State→Res RV)}{b:List RV→State→Res (List Val)}{a:A}{rs:A→List RV}{P:A→Pt}{S:A→List Ob}{m:M T}{post:T→List Val×Pt×List Ob}(h:Ev R p σ (aC fs) (.ok a) (fun v=>(rs v,P v,S v)))(hb:Ev R (P a) (S a) (b (rs a)) m post):Ev R p σ (kL (aC fs) b) m post:=Ev.gD h hb
theorem dP{k:Nat}{fs:List (State→Res RV)}{g:Fn}{a:A}{rs:A→List RV}{P:A→Pt}{S:A→List Ob}{vs:List Val}{Q:Pt}{mg:M T}{pg:T→RV×List Ob}{post:T→RV×Pt×List Ob}(h:Ev R p σ (aC fs) (.ok a) (fun v=>(rs v,P v,S v)))(hc:Cap (S a) (P a) (rs a) vs Q)(hl:vs.length=k)(hg:fw R' g vs (S a) mg pg)(hp:∀ w,post w=((pg w).1,Q,(pg w).2)):Ev R p σ (dz k (aC fs) g) (nox mg) post:=
 l7 (R':=R') (mA:=M.ok a) (vs:=fun _=>vs) (Q:=fun _=>Q) (mg:=fun _=>mg) (pg:=fun _=>pg) (rs:=fun _=>rs a) (P:=fun _=>P a) (S:=fun _=>S a) (Ev.dO h rfl) (fun _=>hc) (fun _=>hl) (fun _=>hg) (fun _=>hp)
theorem fP{c m:String}{k:Nat}{fo:State→Res RV}{fs:List (State→Res RV)}{g:Fn}{b:B}{xo:B→Val}{Po:B→Pt}{So:B→List Ob}{a:A}{rs:A→List RV}{P:A→Pt}{S:A→List Ob}{vs:List Val}{Q:Pt}{mg:M T}{pg:T→RV×List Ob}{post:T→RV×Pt×List Ob}(ho:Ev R p σ (ev fo) (.ok b) (fun b=>(.val (xo b),Po b,So b)))(hi:uX (Po b) (So b) (xo b) c m)(h:Ev R (Po b) (So b) (aC fs) (.ok a) (fun v=>(rs v,P v,S v)))(hc:Cap (S a) (P a) (rs a) vs Q)(hl:vs.length+1=k)(hg:fw R' g (xo b::vs) (S a) mg pg)(hp:∀ w,post w=((pg w).1,Q,(pg w).2)):Ev R p σ (cw eg c m k fo (aC fs) g) (nox mg) post:=
 Fg (R':=R') (mo:=M.ok b) (xo:=fun _=>xo b) (Po:=fun _=>Po b) (So:=fun _=>So b) (mA:=fun _=>M.ok a) (vs:=fun _ _=>vs) (Q:=fun _ _=>Q) (mg:=fun _ _=>mg) (pg:=fun _ _=>pg) (rs:=fun _ _=>rs a) (P:=fun _ _=>P a) (S:=fun _ _=>S a) (Ev.dO ho rfl) (fun _=>hi) (fun _=>Ev.dO h rfl) (fun _ _=>hc) (fun _ _=>hl) (fun _ _=>hg) (fun _ _=>hp)
theorem cN{c m:String}{k:Nat}{fo:State→Res RV}{fs:List (State→Res RV)}{g:Fn}{b:B}{xo:B→Val}{Po:B→Pt}{So:B→List Ob}{a:A}{rs:A→List RV}{P:A→Pt}{S:A→List Ob}{vs:List Val}{Q:Pt}{mg:M T}{pg:T→RV×List Ob}{post:T→RV×Pt×List Ob}(ho:Ev R p σ (ev fo) (.ok b) (fun b=>(.val (xo b),Po b,So b)))(hi:uX (Po b) (So b) (xo b) c m)(h:Ev R (Po b) (So b) (aC fs) (.ok a) (fun v=>(rs v,P v,S v)))(hc:Cap (S a) (P a) (rs a) vs Q)(hl:vs.length+1=k)(hg:fw R g (xo b::vs) (S a) mg pg)(hp:∀ w,post w=((pg w).1,Q,(pg w).2)):Ev R p σ (cw cx c m k fo (aC fs) g) mg post:=
 AG (mo:=M.ok b) (xo:=fun _=>xo b) (Po:=fun _=>Po b) (So:=fun _=>So b) (mA:=fun _=>M.ok a) (vs:=fun _ _=>vs) (Q:=fun _ _=>Q) (mg:=fun _ _=>mg) (pg:=fun _ _=>pg) (rs:=fun _ _=>rs a) (P:=fun _ _=>P a) (S:=fun _ _=>S a) (Ev.dO ho rfl) (fun _=>hi) (fun _=>Ev.dO h rfl) (fun _ _=>hc) (fun _ _=>hl) (fun _ _=>hg) (fun _ _=>hp)
theorem Gi{f g:State→Res Bool}{fs:List (State→Res Bool)}{a b:Bool}(h1:Ev R p σ f (.ok a) (pB p σ))(h2:Ev R p σ (jO (g::fs)) (.ok b) (pB p σ)):Ev R p σ (jO (f::g::fs)) (.ok (a||b)) (pB p σ):=by
 have:=qk h1 h2
 rw[dc]at this
 cases a with
 | true=>exact this
 | false=>exact this
theorem wj{T':String}{fo:State→Res RV}{fs:List (State→Res RV)}{b:RV→List RV→State→Res RV}{ty:State→RV→Bool}{a:A}{ro:A→RV}{Po:A→Pt}{So:A→List Ob}{m:M B}{rs:B→List RV}{P:B→Pt}{S:B→List Ob}{mk:B→M T}{post:T→RV×Pt×List Ob}(ho:Ev R p σ (ev fo) (.ok a) (fun v=>(ro v,Po v,So v)))(ht:∀ sg,Fits (Po a) sg→ty ⟨sg,So a⟩ (ro a)=true)(h:Ev R (Po a) (So a) (aC fs) m (fun v=>(rs v,P v,S v)))(hb:∀ v,Ev R (P v) (S v) (b (ro a) (rs v)) (mk v) post):Ev R p σ (ku T' fo (aC fs) b ty) (m.bind fun v=>mk v) post:=fun sg hf=>by
 obtain⟨sg',e,hf'⟩:=ho sg hf
 have h2:=Ev.bind h hb sg' hf'
 rw[zx,e,Res.aa,ht sg' hf',if_pos rfl]
 exact h2
theorem xI{T':String}{fo:State→Res RV}{fs:List (State→Res RV)}{b:RV→List RV→State→Res RV}{ty:State→RV→Bool}{a:A}{ro:A→RV}{Po:A→Pt}{So:A→List Ob}{v:B}{rs:B→List RV}{P:B→Pt}{S:B→List Ob}{m:M T}{post:T→RV×Pt×List Ob}(ho:Ev R p σ (ev fo) (.ok a) (fun v=>(ro v,Po v,So v)))(ht:∀ sg,Fits (Po a) sg→ty ⟨sg,So a⟩ (ro a)=true)(h:Ev R (Po a) (So a) (aC fs) (.ok v) (fun v=>(rs v,P v,S v)))(hb:Ev R (P v) (S v) (b (ro a) (rs v)) m post):Ev R p σ (ku T' fo (aC fs) b ty) m post:=fun sg hf=>by
 obtain⟨sg',e,hf'⟩:=ho sg hf
 have h2:=Ev.gD h hb sg' hf'
 rw[zx,e,Res.aa,ht sg' hf',if_pos rfl]
 exact h2
theorem jq{f:State→Res RV}{lo hi:Par}{x:T}{rx:T→RV}{Px:T→Pt}{Sx:T→List Ob}{a:A}{b:B}{lo':A→Option Int}{hi':B→Option Int}{m:M U}{post:U→RV×Pt×List Ob}(h:Ev R p σ (ev f) (.ok x) (fun v=>(rx v,Px v,Sx v)))(hl:Ev R (Px x) (Sx x) (jP lo) (.ok a) (fun v=>(lo' v,(Px x),(Sx x))))(hh:Ev R (Px x) (Sx x) (jP hi) (.ok b) (fun v=>(hi' v,(Px x),(Sx x))))(hk:Ev R (Px x) (Sx x) (tX (rx x) (lo' a) (hi' b)) m post):Ev R p σ (jL f lo hi) m post:=Ev.gD h (Ev.gD hl (Ev.gD hh hk))
theorem G8{f:State→Res RV}{lo hi:Par}{x:T}{rx:T→RV}{Px:T→Pt}{Sx:T→List Ob}{ml:M A}{mh:M B}{lo':A→Option Int}{hi':B→Option Int}{mk:Option Int→Option Int→M U}{post:U→RV×Pt×List Ob}(h:Ev R p σ (ev f) (.ok x) (fun v=>(rx v,Px v,Sx v)))(hl:Ev R (Px x) (Sx x) (jP lo) ml (fun v=>(lo' v,(Px x),(Sx x))))(hh:Ev R (Px x) (Sx x) (jP hi) mh (fun v=>(hi' v,(Px x),(Sx x))))(hk:∀ l h,Ev R (Px x) (Sx x) (tX (rx x) l h) (mk l h) post):Ev R p σ (jL f lo hi) (ml.bind fun l=>mh.bind fun h=>mk (lo' l) (hi' h)) post:=Ev.gD h (Ev.bind hl fun l=>Ev.bind hh fun k=>hk (lo' l) (hi' k))
theorem gE{t:State→Res Bool}{As Bs rest:List (State→Res Fl)}{c:Bool}{mA mB:M T}{post:T→OutS}(ht:Ev R p σ t (.ok c) (pB p σ))(hA:Sg w R p σ (av (As++rest)) mA post)(hB:Sg w R p σ (av (Bs++rest)) mB post):Sg w R p σ (av (dW t (av As) (av Bs)::rest)) (if c=true then mA else mB) post:=
 gS (b:=fun v:Bool=>v) (P:=fun _=>p) (S:=fun _=>σ) (mA:=fun _=>mA) (mB:=fun _=>mB) ht (fun _=>hA) (fun _=>hB)
theorem AX{t:State→Res Bool}{As Bs rest:List (State→Res Fl)}{b:Bool}{mA mB:M C}{Pc:C→Pt}{Sc:C→List Ob}{k:C→M T}{post:T→OutS}(ht:Ev R p σ t (.ok b) (pB p σ))(hA:Sg false R p σ (av As) mA (fun c=>.nx (Pc c) (Sc c)))(hB:Sg false R p σ (av Bs) mB (fun c=>.nx (Pc c) (Sc c)))(hr:∀ c,Sg w R (Pc c) (Sc c) (av rest) (k c) post):Sg w R p σ (av (dW t (av As) (av Bs)::rest)) ((if b=true then mA else mB).bind k) post:=
 wB (b:=fun v:Bool=>v) (P:=fun _=>p) (S:=fun _=>σ) (mA:=fun _=>mA) (mB:=fun _=>mB) ht (fun _=>hA) (fun _=>hB) hr
theorem CD{s:State→Res Fl}{rest:List (State→Res Fl)}{a:A}{P:A→Pt}{S:A→List Ob}{m:M T}{post:T→OutS}(hs:Ev R p σ s (.ok a) (fun v=>(.nx,P v,S v)))(hr:Sg w R (P a) (S a) (av rest) m post):Sg w R p σ (av (s::rest)) m post:=fun sg hf=>by
 obtain⟨sg',e,f⟩:=hs sg hf
 have h2:=hr sg' f
 rw[Ac e]
 exact h2
theorem ub{f:State→Res RV}{a:A}{x:A→Val}{P:A→Pt}{S:A→List Ob}{v:T}{post:T→OutS}(h:Ev R p σ f (.ok a) (fun v=>(.val (x v),P v,S v)))(hp:post v=.ret (.val (x a)) (S a)):Sg true R p σ (cC f) (.ok v) post:=
 eB (m:=M.ok a) (x:=fun _=>x a) (P:=fun _=>P a) (S:=fun _=>S a) (φ:=fun _=>v) (Ev.dO h rfl) (fun _=>hp)
theorem Iu{f:State→Res RV}{a:A}{x:A→Ob}{P:A→Pt}{S:A→List Ob}{v:T}{post:T→OutS}(h:Ev R p σ f (.ok a) (fun v=>(.new (x v),P v,S v)))(hp:post v=.ret (.new (x a)) (S a)):Sg true R p σ (cC f) (.ok v) post:=
 HZ (m:=M.ok a) (x:=fun _=>x a) (P:=fun _=>P a) (S:=fun _=>S a) (φ:=fun _=>v) (Ev.dO h rfl) (fun _=>hp)
theorem HG{vs:List Nat}{t:Tg}{src:State→Res (List Val)}{ft:State→Res Bool}{fe:State→Res RV}{l:List T}{E:T→Val}{q:Pt}{τ:List Ob}{e:U→D}{mt:T→M Bool}{me:T→M U}{p2 p3:T→Pt}(hs:Ev R p σ src (.ok l) (fun l=>(l.map E,q,τ)))(hv:(vs.all fun v=>(q.getD v none).isNone)=true)
  (hb:∀ x,tI q t (E x) (p2 x)∧Ev R (p2 x) τ ft (mt x) (fun b=>(b,p2 x,τ))∧Ev R (p2 x) τ (fun s=>(fe s).bind eu) (me x) (fun y=>(.d (e y),p3 x,τ))) (hw2:∀ x,gb q (p2 x)) (hw3:∀ x,gb q (p3 x)):
  Ev R p σ (lN vs t src ft fe) (jm mt me l) (fun r=>(.new (oL e r),q,τ)):=zX hs hv hb hw2 hw3
theorem ib{f:State→Res RV}{a:Bool}(h:Ev R p σ (ev f) (.ok a) (pD .bl p σ)):Ev R p σ (cB f) (.ok a) (pB p σ):=tB (b:=fun v=>v) h
theorem t5{f:State→Res Bool}{a:Bool}(h:Ev R p σ f (.ok a) (pB p σ)):Ev R p σ (jV f) (.ok (!a)) (pB p σ):=(Cz (b:=fun v=>v) h).dO rfl
theorem AJ{f:State→Res Bool}{m:M Bool}(h:Ev R p σ f m (pB p σ)):Ev R p σ (jV f) (m.bind fun v=>.ok (!v)) (pB p σ):=Ev.map (fun v=> !v) (pB p σ) (Cz (b:=fun v=>v) h) (fun _=>rfl)
end
theorem EqE.mono{T:Type}[DecidableEq T]{e:T→D}{n m:Nat}(E:EqE e n)(h:n≤m):EqE e m:=by
 have up:∀ (n m:Nat),n≤m→(∀ d,gu n d=true→gu m d=true)∧(∀ l,gv n l=true→gv m l=true):=by
  intro n
  induction n with
  | zero=>
   intro m _
   have hd:∀ d,gu 0 d=true→gu m d=true:=fun d h=>by
    cases d<;> first | (simp[gu]at h;done) | (cases m<;> simp[gu])
   refine⟨hd,fun l=>?_⟩
   induction l with
   | nil=>intro _;simp[gv]
   | cons x l ih=>intro h;simp[gv]at h ⊢;exact⟨hd x h.1,ih h.2⟩
  | succ n ih=>
   intro m hm
   obtain⟨k,rfl⟩:∃ k,m=k+1:=⟨m- 1,by omega⟩
   have ihk:=ih k (by omega)
   have hd:∀ d,gu (n+1) d=true→gu (k+1) d=true:=fun d h=>by
    cases d<;> first | (simp[gu]at h ⊢;exact ihk.2 _ h) | simp[gu]
   refine⟨hd,fun l=>?_⟩
   induction l with
   | nil=>intro _;simp[gv]
   | cons x l ih=>intro h;simp[gv]at h ⊢;exact⟨hd x h.1,ih h.2⟩
 exact⟨E.pl,fun x=>(up n m h).1 _ (E.dp x),E.eq⟩
theorem qI:EqE D.int 0:=⟨fun _=>rfl,fun _=>rfl,yF⟩
theorem qS:EqE D.str 0:=⟨fun _=>rfl,fun _=>rfl,yq⟩
theorem tR{T:Type}[DecidableEq T]{e:T→D}{n:Nat}(E:EqE e n):∀ a b:List T,PyData.eqvAll (fG (a.map e)) (fG (b.map e))=decide (a=b)
 | [],[]=>by simp[fG,PyData.eqvAll]
 | [],_::_=>by simp[fG,PyData.eqvAll]
 | _::_,[]=>by simp[fG,PyData.eqvAll]
 | x::a,y::b=>by
  have h:PyData.eqv (pd (e x)) (pd (e y))=decide (x=y):=E.eq x y
  simp[fG,PyData.eqvAll,tR E a b,h]
theorem qL{T:Type}[DecidableEq T]{e:T→D}{n:Nat}(E:EqE e n):EqE (eL e) (n+1) where
 pl l:=by show gx (l.map e)=true;exact kN e l fun x _=>E.pl x
 dp l:=by show gv n (l.map e)=true;exact mP n e l fun x _=>E.dp x
 eq a b:=by
  show PyData.eqv (.list (fG (a.map e))) (.list (fG (b.map e)))=_
  rw[←tR E]
  simp[PyData.eqv]
end Vw
namespace Vw
open PySem L2
abbrev pN{T:Type}(o:T→Ob)(p:Pt)(σ:List Ob):T→RV×Pt×List Ob:=fun v=>(.new (o v),p,σ)
abbrev pE{T C:Type}(e:T→D)(p:Pt)(S:C→List Ob):T×C→RV×Pt×List Ob:=fun v=>(.val (.d (e v.1)),p,S v.2)
abbrev yv{T C:Type}(o:T→Ob)(p:Pt)(S:C→List Ob):T×C→RV×Pt×List Ob:=fun v=>(.new (o v.1),p,S v.2)
abbrev FW{T C:Type}(i:Nat)(o:T→Ob)(p:Pt)(S:C→List Ob):T×C→RV×Pt×List Ob:=fun v=>(.val (.d .non),p.set i (some (.own (o v.1))),S v.2)
section
variable{R R':List Ob→Prop}{p p':Pt}{σ σ':List Ob}{α β γ T U W A B C:Type}{i j n:Nat}{w:Bool}
theorem J6{fa fb fc:State→Res RV}{g g':RV→RV→State→Res RV}{a b c:Int}{k1 k2:Bool}(ha:Ev R p σ (ev fa) (.ok a) (pD .int p σ))(hb:Ev R p σ (ev fb) (.ok b) (pD .int p σ))(hc:Ev R p σ (ev fc) (.ok c) (pD .int p σ))(h1:Ev R p σ (g (.val (.d (.int a))) (.val (.d (.int b)))) (.ok k1) (pD .bl p σ))(h2:Ev R p σ (g' (.val (.d (.int b))) (.val (.d (.int c)))) (.ok k2) (pD .bl p σ)):Ev R p σ (z4 fa fb fc g g') (.ok (k1&&k2)) (pD .bl p σ):=Ev.gD ha (Ev.gD hb (Ev.gD h1 (by
 intro sg hf
 show Rn R ((vP (.val (.d (.bl k1))) ⟨sg,σ⟩).bind fun k s=>if k=true then(ev fc s).bind fun w s=>g' (.val (.d (.int b))) w s else a0 (.bl false) s) _ _
 rw[Ha]
 simp only[vq,Res.aa]
 cases k1 with
 | true=>
  rw[if_pos rfl]
  exact Ev.gD hc h2 sg hf
 | false=>exact⟨sg,rfl,hf⟩)))
def setM(l:List T)(k:Int)(x:T):M (List T):=match ixN l.length k with | some j=>.ok (l.set j x) | none=>.bad
theorem Fd{e:T→D}{l:List T}{fv fi:State→Res RV}{mv:M T}{mi:M Int}(h:p[i]? =some (some (.own (oL e l))))(hv:Ev R p σ (ev fv) mv (pD e p σ))(hi:∀ v:T,Ev R p σ (ev fi) mi (pD .int p σ)):Ev R p σ (zq (ab i) fi fv) (mv.bind fun a=>mi.bind fun k=>setM l k a) (fun v:List T=>(Fl.nx,p.set i (some (.own (oL e v))),σ)):=Ev.bind hv fun a=>Ev.gD (ic (ia (a:=l) h)) (Ev.bind (hi a) fun k sg hf=>by
 unfold setM
 have h:=hf.2 _ _ h
 cases hk:ixN l.length k with
 | none=>trivial
 | some q=>
  refine⟨_,?_,hf.set i _⟩
  dsimp only[xc]
  rw[xc]
  dsimp only
  rw[EL,h]
  simp[hk,oL])
def FL(p:Pt)(σ:List Ob)(r:RV)(e:T→D)(l:List (List Nat×T)):Prop:=∀ sg,Fits p sg→og ⟨sg,σ⟩ r=some (l.map fun p=>(K0.s p.1,Val.d (e p.2)))
theorem Gx{s:State}{k:Bool}{l:List (K0×Val)}(h:s.sg[i]? =some (some (.own (.dic k l)))):og s (.own i)=some l:=by
 obtain⟨sg,st⟩:=s
 unfold og
 simp only[y6,zv]
 rw[h]
theorem zH{e:T→D}{l:List (List Nat×T)}(h:p[i]? =some (some (.own (k4 e l)))):FL p σ (.own i) e l:=fun sg hf=>Gx (hf.2 _ _ h)
theorem Ai{κ κ' α β:Type}[DecidableEq κ][DecidableEq κ'](F:κ→κ')(hF:∀ a b,F a=F b→a=b)(G:α→β)(l:List (κ×α))(k:κ):lG (l.map fun p=>(F p.1,G p.2)) (F k)=(lG l k).map G:=by
 induction l with
 | nil=>rfl
 | cons p l ih=>
  unfold lG at ih ⊢
  rw[List.map_cons,List.find?_cons,List.find?_cons]
  by_cases h:p.1=k
  ·simp[h]
  ·have:¬ F p.1=F k:=fun z=>h (hF _ _ z)
   simp only[h,this,decide_false]
   exact ih
theorem F5:∀ a b:List Nat,K0.s a=K0.s b→a=b:=fun _ _ h=>by cases h;rfl
theorem FP{e:T→D}{l:List (List Nat×T)}{r:RV}{k:List Nat}(h:FL p σ r e l){sg:Slots}(hf:Fits p sg):jA ⟨sg,σ⟩ r (.val (.d (.str k)))=some ((lG l k).map fun x=>.d (e x)):=by
 unfold jA
 rw[h sg hf]
 exact congrArg some (Ai K0.s F5 (fun x=>Val.d (e x)) l k)
def sO{κ:Type}[DecidableEq κ](l:List (κ×T))(k:κ):M T:=match lG l k with | some a=>.ok a | none=>.bad
theorem zD{e:T→D}{l:List (List Nat×T)}{k:List Nat}{r:RV}(h:FL p σ r e l):Ev R p σ (bK r (.val (.d (.str k)))) (sO l k) (pD e p σ):=Ev.op (r:=fun v=>RV.val (Val.d (e v))) fun a h' sg hf=>by
 unfold bK
 rw[FP h hf,h'];rfl
end
end Vw
namespace Vw
open PySem L2
section
variable{R R':List Ob→Prop}{p p':Pt}{σ σ':List Ob}{α β γ T U W A B C:Type}{i j n:Nat}{w:Bool}
theorem iz{Tf:List (String×String)}{f c:String}{fs:List (String×Val)}{a:T}{e:T→Val}(h:p[i]? =some (some (.v (.r n))))(hσ:σ[n]? =some (.ins c fs))(hT:Tf.contains (c,f)=true)(hk:qt fs f=some (e a)):Ev R p σ (jC Tf f (ab i)) (.ok a) (fun v=>(.val (e v),p,σ)):=Ev.at (r:=fun v=>RV.val (e v)) fun sg hf=>by
 have h:=hf.2 _ _ h
 show(ev (ab i) ⟨sg,σ⟩).bind _=_
 rw[o4,jQ,h]
 dsimp only
 rw[Res.aa,FC,Res.aa]
 simp only[Hz,zS,hσ]
 rw[if_pos hT,hk]
theorem AY{Tf:List (String×String)}{f c:String}{op:Bop}{g:Int→Int→Int}{fv:State→Res RV}{fs:List (String×Val)}{a:Int}{mv:M Int}{φ:Int→U}{S:U→List Ob}(hg:zo op=some g)(h:p[i]? =some (some (.v (.r n))))(hσ:σ[n]? =some (.ins c fs))(hT:(Tf.contains (c,f)&&decide (fs.length<1000))=true)(hk:qt fs f=some (.d (.int a)))(hv:Ev R p σ (ev fv) mv (pD .int p σ))(hs:∀ b,σ.set n (.ins c (tu f (.d (.int (g a b))) fs))=S (φ b)):Ev R p σ (lU Tf f op (ab i) fv) (mv.bind fun b=>.ok (φ b)) (fun v:U=>(Fl.nx,p,S v)):=fun sg hf=>by
 have h:=hf.2 _ _ h
 have hl:fs.length<1000:=by simpa using (Bool.and_eq_true_iff.mp hT).2
 have e0:lU Tf f op (ab i) fv ⟨sg,σ⟩=(ev fv ⟨sg,σ⟩).bind fun y s=>match dv s y,ob s (.val (.r n))with
    | some (.int b),some (.ins c' fs')=>if c'=c∧fs'.length<1000 then .ok .nx (wr (.val (.r n)) (.ins c (tu f (.d (.int (g a b))) fs')) s)else .stuck
    | _,_=>.stuck:=by
  unfold lU
  rw[hg]
  dsimp only
  rw[o4,jQ,h]
  dsimp only
  rw[Res.aa,FC,Res.aa]
  simp only[zS,hσ]
  rw[if_pos hT,hk]
  try rfl
 rw[e0]
 have:=hv sg hf
 cases mv with
 | ok b=>
  obtain⟨sg',e,f'⟩:=this
  refine⟨sg',?_,f'⟩
  rw[e,Res.aa]
  simp only[vq,zS,hσ]
  rw[if_pos ⟨trivial,hl⟩,HE,hs]
 | exc x=>obtain⟨s',e,r⟩:=this;exact⟨s',by rw[e];rfl,r⟩
 | bad=>trivial
theorem jG{c m:String}{k:Nat}{fo:State→Res RV}{fs:List (State→Res RV)}{g:Fn}{b:B}{xo:B→Val}{Po:B→Pt}{So:B→List Ob}{mA:M A}{rs:A→List RV}{P:A→Pt}{S:A→List Ob}{vs:A→List Val}{Q:A→Pt}{mg:A→M T}{pg:A→T→RV×List Ob}{post:T→RV×Pt×List Ob}(ho:Ev R p σ (ev fo) (.ok b) (fun b=>(.val (xo b),Po b,So b)))(hi:uX (Po b) (So b) (xo b) c m)(h:Ev R (Po b) (So b) (aC fs) mA (fun v=>(rs v,P v,S v)))(hc:∀ v,Cap (S v) (P v) (rs v) (vs v) (Q v))(hl:∀ v,(vs v).length+1=k)(hg:∀ v,fw R g (xo b::vs v) (S v) (mg v) (pg v))(hp:∀ v w,post w=((pg v w).1,Q v,(pg v w).2)):Ev R p σ (cw cx c m k fo (aC fs) g) (mA.bind fun v=>mg v) post:=
 AG (mo:=M.ok b) (xo:=fun _=>xo b) (Po:=fun _=>Po b) (So:=fun _=>So b) (mA:=fun _=>mA) (vs:=fun _=>vs) (Q:=fun _=>Q) (mg:=fun _=>mg) (pg:=fun _=>pg) (rs:=fun _=>rs) (P:=fun _=>P) (S:=fun _=>S) (Ev.dO ho rfl) (fun _=>hi) (fun _=>h) (fun _=>hc) (fun _=>hl) (fun _=>hg) (fun _=>hp)
end
end Vw
namespace Vw
open PySem L2
section
variable{R:List Ob→Prop}{p:Pt}{σ:List Ob}{T A:Type}{w:Bool}
theorem aP{s:State→Res Fl}{rest:List (State→Res Fl)}{m:M A}(Q:A→Pt){P:A→Pt}{S:A→List Ob}{k:A→M T}{post:T→OutS}(hs:Ev R p σ s m (fun v=>(.nx,P v,S v)))(he:∀ v,P v=Q v)(hr:∀ v,Sg w R (Q v) (S v) (av rest) (k v) post):Sg w R p σ (av (s::rest)) (m.bind k) post:=
 p5 hs fun v=>by rw[he v];exact hr v
theorem mG{s:State→Res Fl}{rest:List (State→Res Fl)}{a:A}(Q:Pt){P:A→Pt}{S:A→List Ob}{m:M T}{post:T→OutS}(hs:Ev R p σ s (.ok a) (fun v=>(.nx,P v,S v)))(he:P a=Q)(hr:Sg w R Q (S a) (av rest) m post):Sg w R p σ (av (s::rest)) m post:=
 CD hs (by rw[he];exact hr)
end
end Vw
namespace Vw
open PySem L2
def H9(r:RV):Prop:=match r with
 | .val (.d _)=>True
 | .new o=>o.toD.isSome=true
 | _=>False
def xM{T:Type}(g:Fn)(ds:List D)(m:M T)(rv:T→RV):Prop:=
 match m with
 | .ok v=>(∃ s,g (ds.map .d) []=.ok (rv v) s)∧H9 (rv v)
 | .exc x=>∃ s,g (ds.map .d) []=.exc x s
 | .bad=>True
section
variable{R R':List Ob→Prop}{p p':Pt}{σ σ':List Ob}{α β γ T U W A B C Q:Type}{i j n:Nat}{w:Bool}
theorem z7(ds:List D):oW (ds.map .d)=some ds:=by
 induction ds with
 | nil=>rfl
 | cons d r ih=>rw[List.map_cons,oW,ih];rfl
theorem DI{k:Nat}{fs:List (State→Res RV)}{g:Fn}{mA:M A}{rs:A→List RV}{P:A→Pt}{S:A→List Ob}{ds:A→List D}{Q:A→Pt}{mg:A→M T}{rv:A→T→RV}{post:T→RV×Pt×List Ob}(h:Ev R p σ (aC fs) mA (fun v=>(rs v,P v,S v)))(hc:∀ v,Cap (S v) (P v) (rs v) ((ds v).map .d) (Q v))(hl:∀ v,(ds v).length=k)(hg:∀ v,xM g (ds v) (mg v) (rv v))(hp:∀ v w,post w=(rv v w,Q v,S v))(hR:∀ v,R (S v)):Ev R p σ (tA k (aC fs) g) (mA.bind fun v=>mg v) post:=by
 refine Ev.bind h fun v sg hf=>?_
 obtain⟨sg2,e2,hf2⟩:=(hc v).run sg hf
 have hg:=hg v
 show Rn R ((bI (rs v) ⟨sg,S v⟩).bind fun args s=>match oW args with
  | some ds=>if ds.length=k then uN (g (ds.map .d) []) s else .stuck
  | none=>.stuck) (mg v) post
 rw[e2,Res.aa,z7]
 dsimp only
 rw[if_pos (hl v)]
 cases hm:mg v with
 | ok w=>
  rw[hm]at hg
  obtain⟨⟨s1,e1⟩,hr⟩:=hg
  refine⟨sg2,?_,by rw[hp v w];exact hf2⟩
  rw[hp v w,e1]
  show uN (.ok (rv v w) s1) _=_
  unfold uN
  revert hr
  cases rv v w with
  | val x=>cases x<;> intro hr<;> first | rfl | exact hr.elim
  | own i=>intro hr;exact hr.elim
  | new o=>
   intro hr
   have hr:o.toD.isSome=true:=hr
   dsimp only
   rw[if_pos hr]
 | exc x=>
  rw[hm]at hg
  obtain⟨s,e⟩:=hg
  rw[e]
  exact⟨_,rfl,hR v⟩
 | bad=>trivial
theorem Br{k:Nat}{fs:List (State→Res RV)}{g:Fn}{a:A}{rs:A→List RV}{P:A→Pt}{S:A→List Ob}{ds:List D}{Q:Pt}{mg:M T}{rv:T→RV}{post:T→RV×Pt×List Ob}(h:Ev R p σ (aC fs) (.ok a) (fun v=>(rs v,P v,S v)))(hc:Cap (S a) (P a) (rs a) (ds.map .d) Q)(hl:ds.length=k)(hg:xM g ds mg rv)(hp:∀ w,post w=(rv w,Q,S a))(hR:R (S a)):Ev R p σ (tA k (aC fs) g) mg post:=
 DI (mA:=M.ok a) (ds:=fun _=>ds) (Q:=fun _=>Q) (mg:=fun _=>mg) (rv:=fun _=>rv) (rs:=fun _=>rs a) (P:=fun _=>P a) (S:=fun _=>S a) (Ev.dO h rfl) (fun _=>hc) (fun _=>hl) (fun _=>hg) (fun _=>hp) (fun _=>hR)
theorem IX{f:State→Res RV}{m:M T}{o:T→Ob}{P:T→Pt}{S:T→List Ob}(h:Ev R p σ f m (fun v=>(.new (o v),P v,S v)))(hg:∀ v,o v≠ .gone):Ev R p σ (sl f) m (fun v=>(.val (.r (S v).length),P v,S v++[o v])):=fun sg hf=>by
 have:=h sg hf
 cases m with
 | ok v=>
  obtain⟨sg',e,hf'⟩:=this
  refine⟨sg',?_,hf'⟩
  rw[EM,e,Res.aa]
  unfold CL
  have:=hg v
  revert this
  dsimp only
  cases o v<;> intro h<;> first | rfl | exact absurd rfl h
 | exc x=>obtain⟨s,e,r⟩:=this;exact⟨s,by rw[EM,e];rfl,r⟩
 | bad=>trivial
theorem HL{e:T→D}(l:List T):oL e l≠ .gone:=fun h=>by cases h
theorem HH{c:String}{k:Nat}{fs:List (State→Res RV)}{g:Fn}{m:M A}{rs:A→List RV}{P:A→Pt}{S:A→List Ob}{vs:A→List Val}{Q:A→Pt}{o:A→Ob}(h:Ev R p σ (aC fs) m (fun v=>(rs v,P v,S v)))(hc:∀ v,Cap (S v) (P v) (rs v) (vs v) (Q v))(hl:∀ v,(vs v).length+1=k)(hg:∀ v,g (.r (S v).length::vs v) (S v++[.ins c []])=.ok (.val (.d .non)) ⟨[],S v++[o v]⟩):Ev R p σ (Cn eg c k (aC fs) g) m (fun v=>(.val (.r (S v).length),Q v,S v++[o v])):=fun sg hf=>by
 have:=h sg hf
 cases m with
 | ok v=>
  obtain⟨sg1,e1,f1⟩:=this
  obtain⟨sg2,e2,f2⟩:=(hc v).run sg1 f1
  refine⟨sg2,?_,f2⟩
  show(aC fs ⟨sg,σ⟩).bind (fun rs s=>(bI rs s).bind fun args s=>if args.length+1=k then FZ s.st.length (eg g (.r s.st.length::args) ⟨s.sg,s.st++[.ins c []]⟩)else .stuck)=_
  rw[e1,Res.aa]
  dsimp only
  rw[e2,Res.aa,if_pos (hl v)]
  dsimp only
  unfold eg
  dsimp only
  rw[hg v]
  rfl
 | exc x=>obtain⟨s,e,r⟩:=this;exact⟨s,by show(aC fs ⟨sg,σ⟩).bind _=_;rw[e];rfl,r⟩
 | bad=>trivial
theorem blt{a b:Nat}(h:Nat.blt a b=true):a<b:=Nat.blt_eq.mp h
theorem I9{s:State→Res Fl}{m:M A}{o:A→Ob}{d:A→D}{P:A→Pt}{S:A→List Ob}(hs:Ev R p σ s m (fun v=>(.nx,(P v).set i (some (.own (o v))),S v)))(hd:∀ v,(o v).toD=some (d v))(hi:∀ v,i<(P v).length):Ev R p σ (CG i s) m (fun v=>(.nx,(P v).set i (some (.v (.d (d v)))),S v)):=fun sg hf=>by
 have:=hs sg hf
 cases m with
 | ok v=>
  obtain⟨sg',e,f⟩:=this
  have e1:sg'[i]? =some (some (.own (o v))):=f.2 _ _ (by rw[List.getElem?_set_self (hi v)])
  refine⟨sg'.set i (some (.v (.d (d v)))),?_,?_⟩
  ·show(match s ⟨sg,σ⟩with | .ok Fl.nx s'=>Res.ok Fl.nx (x1 i s') | r=>r)=_
   rw[e]
   show Res.ok Fl.nx (x1 i ⟨sg',S v⟩)=_
   unfold x1 jx
   dsimp only
   rw[e1]
   dsimp only
   rw[hd v]
  ·have f2:=f.set i (.v (.d (d v)))
   rw[List.set_set]at f2
   exact f2
 | exc x=>
  obtain⟨s',e,r⟩:=this
  exact⟨s',by show(match s ⟨sg,σ⟩with | .ok Fl.nx s'=>Res.ok Fl.nx (x1 i s') | r=>r)=_;rw[e],r⟩
 | bad=>trivial
theorem mz{s:State→Res Fl}{rest:List (State→Res Fl)}{a:A}(Q:Pt)(S':List Ob){P:A→Pt}{S:A→List Ob}{m:M T}{post:T→OutS}(hs:Ev R p σ s (.ok a) (fun v=>(.nx,P v,S v)))(he:P a=Q)(hS:S a=S')(hr:Sg w R Q S' (av rest) m post):Sg w R p σ (av (s::rest)) m post:=
 CD hs (by rw[he,hS];exact hr)
theorem fw.toI{g:Fn}{ds:List D}{m:M (T×List Ob)}{rv:T→RV}(h:fw R g (ds.map .d) [] m (fun v=>(rv v.1,v.2)))(hr:∀ v,H9 (rv v)):xM g ds (m.bind fun v=>.ok v.1) rv:=by
 cases m with
 | ok v=>exact⟨⟨_,h⟩,hr v.1⟩
 | exc x=>obtain⟨s,e,_⟩:=h;exact⟨s,e⟩
 | bad=>trivial
theorem t6{f:State→Res RV}{a:A}{r:A→RV}{T' t:String}(h:Ev R p σ (ev f) (.ok a) (fun v=>(r v,p,σ)))(ht:∀ sg,Fits p sg→vJ ⟨sg,σ⟩ (r a)=some t):Ev R p σ (mY T' f) (.ok (qv t T')) (pD .bl p σ):=fun sg hf=>by
 obtain⟨sg',e,hf'⟩:=h sg hf
 refine⟨sg',?_,hf'⟩
 rw[G2,e,Res.aa]
 dsimp only
 rw[ht sg' hf']
 rfl
end
end Vw
namespace Vw
open PySem L2
end Vw
namespace Vw
open PySem L2
section
variable{R R':List Ob→Prop}{p p':Pt}{σ σ':List Ob}{α β γ T U W A B C Q:Type}{i j n:Nat}{w:Bool}
theorem wD{f:State→Res RV}{e:T→D}:Ev R p σ f (M.bad:M T) (pD e p σ):=fun _ _=>trivial
end
end Vw
namespace Vw
open PySem L2
end Vw
namespace Vw
open PySem L2
end Vw
namespace Vw
open PySem L2
end Vw
namespace Vw
open PySem L2
end Vw
namespace Vw
open PySem L2
end Vw
namespace Vw
open PySem L2
end Vw
namespace K81
open PySem L2 PyProof.Rows Vw
def j5(nN:Int)(dq:Int):M Int:=((((((mulM dq dq).bind fun a1=>mulM a1 (7919:Int)).bind fun a2=>M.ok ((nN%(2147483647:Int))+a2)).bind fun a3=>M.ok (a3+(104729:Int))).bind fun a4=>mulM a4 (48271:Int)).bind fun a5=>M.ok (a5%(2147483647:Int))).bind fun kR=>(((mulM kR kR).bind fun a7=>(mulM (69621:Int) dq).bind fun a8=>M.ok (a7+a8)).bind fun a9=>M.ok (a9%(2147483629:Int))).bind fun v10=>M.ok (v10)
theorem zJ{R:List Ob→Prop}{σ:List Ob}{nN:Int}{dq:Int}:fw R jU [.d (D.int nN),.d (D.int dq)] σ (j5 nN dq) (fun v=>(.val (.d (D.int v)),σ)):=(gB (aP (fun kR=>[some (.v (.d (D.int nN))),some (.v (.d (D.int dq))),some (.v (.d (D.int kR)))]) (e9 (cP (sv (cP (sv (cP (sv (dF (sv (ax (sv (aw (a:=nN) (e:=D.int) rfl)) (sv (cD D.int (2147483647:Int))) (fS (a:=nN) (b:=(2147483647:Int)) (by decide)))) (sv (cP (sv (ax (sv (aw (a:=dq) (e:=D.int) rfl)) (sv (aw (a:=dq) (e:=D.int) rfl)) pj)) (fun a1=>(sv (cD D.int (7919:Int)))) fun a1=>pj)) fun a2=>gW)) (fun a3=>(sv (cD D.int (104729:Int)))) fun a3=>gW)) (fun a4=>(sv (cD D.int (48271:Int)))) fun a4=>pj)) (fun a5=>(sv (cD D.int (2147483647:Int)))) fun a5=>(fS (a:=a5) (b:=(2147483647:Int)) (by decide)))) (fun _=>rfl) fun kR=>(bL (eB (φ:=fun v10=>v10) (cP (sv (hE (sv (ax (sv (aw (a:=kR) (e:=D.int) rfl)) (sv (aw (a:=kR) (e:=D.int) rfl)) pj)) (fun a7=>(sv (ax (sv (cD D.int (69621:Int))) (sv (aw (a:=dq) (e:=D.int) rfl)) pj))) fun a7 a8=>gW)) (fun a9=>(sv (cD D.int (2147483629:Int)))) fun a9=>(fS (a:=a9) (b:=(2147483629:Int)) (by decide))) fun _=>rfl))))
def g9(ee:List Int)(dq:Int)(gm:Int):M ((List Int)):=(lY (ey ee (none:Option Int) (some (63:Int))) [dq]).bind fun dI=>(jm (fun(jv:Int)=>M.ok true) (fun(jv:Int)=>M.ok (jv/(100000:Int))) dI).bind fun oC=>((jB 0 (dq+gm)).bind fun a4=>foldM (fun(c5:List Int×List Int) (k6:Int)=>(gQ k6 (dI.length:Int)).bind fun at_7=>(((dB dI at_7).bind fun a8=>(M.ok ()).bind fun w9=>M.ok (a8,w9)).bind fun z10=>nox (j5 z10.1 k6)).bind fun gU=>(((mulM gU gU).bind fun a12=>(mulM (7:Int) k6).bind fun a13=>M.ok (a12+a13)).bind fun a14=>M.ok (a14%(2147483587:Int))).bind fun kS=>(((andM ((dB dI at_7).bind fun a16=>(wN (10:Int) (18:Int)).bind fun a17=>M.ok (decide (a17≤a16))) ((dB c5.1 at_7).bind fun a18=>M.ok (decide ((0:Int)<a18)))).bind fun b19=>if b19=true then(((dB c5.1 at_7).bind fun a27=>M.ok (a27%(2147483587:Int))).bind fun jD=>(((dB c5.1 at_7).bind fun a29=>M.ok (a29/(2147483587:Int))).bind fun a31=>(M.ok at_7).bind fun a32=>setM c5.1 a32 a31).bind fun mf=>M.ok (mf,jD))else(M.ok (c5.1,kS))):M (List Int×Int)).bind fun j26=>(i7 c5.2 j26.2).bind fun mj=>M.ok (j26.1,mj)) (oC,([]:List Int)) a4).bind fun r34=>M.ok ((ey r34.2 (some dq) (none:Option Int)))
theorem x2{R:List Ob→Prop}{σ:List Ob}{ee:List Int}{dq:Int}{gm:Int}:fw R dy [.d ((eL D.int) ee),.d (D.int dq),.d (D.int gm)] σ (g9 ee dq gm) (fun v=>(.new ((oL D.int) v),σ)):=(gB (aP (fun dI=>[some (.v (.d ((eL D.int) ee))),some (.v (.d (D.int dq))),some (.v (.d (D.int gm))),some (.own ((oL D.int) dI)),none,none,none,none,none,none]) (nC (ax (sn (jq (sv (aw (a:=ee) (e:=(eL D.int)) rfl)) pn (pe (sv (cD D.int (63:Int)))) (Et dt)) (fun v=>dr _ v)) (sn (Ev.dO (post2:=(pN (oL D.int) _ _)) (de (l:=fun _=>([dq]:List Int)) (e:=D.int) (ae (sv (aw (a:=dq) (e:=D.int) rfl)) ak) (fun _=>(.d .nil)) (fun _=>rfl) (fun _=>rfl)) rfl) (fun v=>dr _ v)) (add_l dt dt))) (fun _=>rfl) fun dI=>(aP (fun oC=>[some (.v (.d ((eL D.int) ee))),some (.v (.d (D.int dq))),some (.v (.d (D.int gm))),some (.v (.d ((eL D.int) dI))),some (.own ((oL D.int) oC)),none,none,none,none,none]) (nC (HG (q:=[some (.v (.d ((eL D.int) ee))),some (.v (.d (D.int dq))),some (.v (.d (D.int gm))),some (.v (.d ((eL D.int) dI))),none,none,none,none,none,none]) (p2:=fun(jv:Int)=>[some (.v (.d ((eL D.int) ee))),some (.v (.d (D.int dq))),some (.v (.d (D.int gm))),some (.v (.d ((eL D.int) dI))),none,none,none,none,none,some (.v (.d (D.int jv)))]) (p3:=fun(jv:Int)=>[some (.v (.d ((eL D.int) ee))),some (.v (.d (D.int dq))),some (.v (.d (D.int gm))),some (.v (.d ((eL D.int) dI))),none,none,none,none,none,some (.v (.d (D.int jv)))]) (mt:=(fun(jv:Int)=>M.ok true)) (me:=(fun(jv:Int)=>M.ok (jv/(100000:Int)))) (e:=D.int) (GF rfl) rfl (fun(jv:Int)=>⟨mT,mH,(sJ (ax (sv (aw (a:=jv) (e:=D.int) rfl)) (sv (cD D.int (100000:Int))) (eT (a:=jv) (b:=(100000:Int)) (gY (by decide) (by decide)))))⟩) (fun _=>by(repeat' (first | exact trivial | refine And.intro rfl ?_))) (fun _=>by(repeat' (first | exact trivial | refine And.intro rfl ?_))))) (fun _=>rfl) fun oC=>(mG [some (.v (.d ((eL D.int) ee))),some (.v (.d (D.int dq))),some (.v (.d (D.int gm))),some (.v (.d ((eL D.int) dI))),some (.own ((oL D.int) oC)),some (.own ((oL D.int) ([]:List Int))),none,none,none,none] (nC (Ev.dO (post2:=(pN (oL D.int) _ _)) (de (l:=fun _=>([]:List Int)) (e:=D.int) ak (fun _=>.nil) (fun _=>rfl) (fun _=>rfl)) rfl)) rfl (p5 (zE (P:=fun(c5:List Int×List Int)=>[some (.v (.d ((eL D.int) ee))),some (.v (.d (D.int dq))),some (.v (.d (D.int gm))),some (.v (.d ((eL D.int) dI))),some (.own ((oL D.int) c5.1)),some (.own ((oL D.int) c5.2)),none,none,none,none]) (S:=fun(c5:List Int×List Int)=>σ) (lA:=(fun(a4:List Int)=>a4)) (c0:=fun(a4:List Int)=>(oC,([]:List Int))) (mb:=(fun(c5:List Int×List Int) (k6:Int)=>(gQ k6 (dI.length:Int)).bind fun at_7=>(((dB dI at_7).bind fun a8=>(M.ok ()).bind fun w9=>M.ok (a8,w9)).bind fun z10=>nox (j5 z10.1 k6)).bind fun gU=>(((mulM gU gU).bind fun a12=>(mulM (7:Int) k6).bind fun a13=>M.ok (a12+a13)).bind fun a14=>M.ok (a14%(2147483587:Int))).bind fun kS=>(((andM ((dB dI at_7).bind fun a16=>(wN (10:Int) (18:Int)).bind fun a17=>M.ok (decide (a17≤a16))) ((dB c5.1 at_7).bind fun a18=>M.ok (decide ((0:Int)<a18)))).bind fun b19=>if b19=true then(((dB c5.1 at_7).bind fun a27=>M.ok (a27%(2147483587:Int))).bind fun jD=>(((dB c5.1 at_7).bind fun a29=>M.ok (a29/(2147483587:Int))).bind fun a31=>(M.ok at_7).bind fun a32=>setM c5.1 a32 a31).bind fun mf=>M.ok (mf,jD))else(M.ok (c5.1,kS))):M (List Int×Int)).bind fun j26=>(i7 c5.2 j26.2).bind fun mj=>M.ok (j26.1,mj))) (zC (ae (sv (ax (sv (aw (a:=dq) (e:=D.int) rfl)) (sv (aw (a:=gm) (e:=D.int) rfl)) gW)) ak) yg) (fun _=>by(repeat' (first | exact trivial | refine And.intro rfl ?_))) (fun _=>rfl) (fun c5 k6=>mT) (fun c5 k6=>(aP (fun at_7=>[some (.v (.d ((eL D.int) ee))),some (.v (.d (D.int dq))),some (.v (.d (D.int gm))),some (.v (.d ((eL D.int) dI))),some (.own ((oL D.int) c5.1)),some (.own ((oL D.int) c5.2)),some (.v (.d (D.int k6))),some (.v (.d (D.int at_7))),none,none]) (e9 (ax (sv (aw (a:=k6) (e:=D.int) rfl)) (sv (fF (ae (sv (aw (a:=dI) (e:=(eL D.int)) rfl)) ak) (lQ dt))) i0)) (fun _=>rfl) fun at_7=>(aP (fun gU=>[some (.v (.d ((eL D.int) ee))),some (.v (.d (D.int dq))),some (.v (.d (D.int gm))),some (.v (.d ((eL D.int) dI))),some (.own ((oL D.int) c5.1)),some (.own ((oL D.int) c5.2)),some (.v (.d (D.int k6))),some (.v (.d (D.int at_7))),some (.v (.d (D.int gU))),none]) (e9 (l7 (R':=R) (post:=(pD D.int _ _)) (aJ (sv (ax (sv (aw (a:=dI) (e:=(eL D.int)) rfl)) (sv (aw (a:=at_7) (e:=D.int) rfl)) (fm dt))) fun a8=>(ae (sv (aw (a:=k6) (e:=D.int) rfl)) ak)) (fun _=>(.d (.d .nil))) (fun _=>rfl) (fun z10=>(zJ (nN:=z10.1) (dq:=k6))) (fun _ _=>rfl))) (fun _=>rfl) fun gU=>(aP (fun kS=>[some (.v (.d ((eL D.int) ee))),some (.v (.d (D.int dq))),some (.v (.d (D.int gm))),some (.v (.d ((eL D.int) dI))),some (.own ((oL D.int) c5.1)),some (.own ((oL D.int) c5.2)),some (.v (.d (D.int k6))),some (.v (.d (D.int at_7))),some (.v (.d (D.int kS))),none]) (e9 (cP (sv (hE (sv (ax (sv (aw (a:=gU) (e:=D.int) rfl)) (sv (aw (a:=gU) (e:=D.int) rfl)) pj)) (fun a12=>(sv (ax (sv (cD D.int (7:Int))) (sv (aw (a:=k6) (e:=D.int) rfl)) pj))) fun a12 a13=>gW)) (fun a14=>(sv (cD D.int (2147483587:Int)))) fun a14=>(fS (a:=a14) (b:=(2147483587:Int)) (by decide)))) (fun _=>rfl) fun kS=>(wB (b:=fun v=>v) (Pc:=fun(j26:List Int×Int)=>[some (.v (.d ((eL D.int) ee))),some (.v (.d (D.int dq))),some (.v (.d (D.int gm))),some (.v (.d ((eL D.int) dI))),some (.own ((oL D.int) j26.1)),some (.own ((oL D.int) c5.2)),some (.v (.d (D.int k6))),some (.v (.d (D.int at_7))),some (.v (.d (D.int j26.2))),none]) (Sc:=fun(j26:List Int×Int)=>σ) (zQ (tB (b:=fun v=>v) (sv (hE (sv (ax (sv (aw (a:=dI) (e:=(eL D.int)) rfl)) (sv (aw (a:=at_7) (e:=D.int) rfl)) (fm dt))) (fun a16=>(sv (ax (sv (cD D.int (10:Int))) (sv (cD D.int (18:Int))) Hy))) fun a16 a17=>ID))) (xY (tB (b:=fun v=>v) (sv (cP (sv (ax (ic (ia (a:=c5.1) rfl)) (sv (aw (a:=at_7) (e:=D.int) rfl)) (fm (jX rfl)))) (fun a18=>(sv (cD D.int (0:Int)))) fun a18=>Ew))))) (fun b19=>(aP (fun jD=>[some (.v (.d ((eL D.int) ee))),some (.v (.d (D.int dq))),some (.v (.d (D.int gm))),some (.v (.d ((eL D.int) dI))),some (.own ((oL D.int) c5.1)),some (.own ((oL D.int) c5.2)),some (.v (.d (D.int k6))),some (.v (.d (D.int at_7))),some (.v (.d (D.int jD))),none]) (e9 (cP (sv (ax (ic (ia (a:=c5.1) rfl)) (sv (aw (a:=at_7) (e:=D.int) rfl)) (fm (jX rfl)))) (fun a27=>(sv (cD D.int (2147483587:Int)))) fun a27=>(fS (a:=a27) (b:=(2147483587:Int)) (by decide)))) (fun _=>rfl) fun jD=>(aP (fun mf=>[some (.v (.d ((eL D.int) ee))),some (.v (.d (D.int dq))),some (.v (.d (D.int gm))),some (.v (.d ((eL D.int) dI))),some (.own ((oL D.int) mf)),some (.own ((oL D.int) c5.2)),some (.v (.d (D.int k6))),some (.v (.d (D.int at_7))),some (.v (.d (D.int jD))),none]) (Fd rfl (sv (cP (sv (ax (ic (ia (a:=c5.1) rfl)) (sv (aw (a:=at_7) (e:=D.int) rfl)) (fm (jX rfl)))) (fun a29=>(sv (cD D.int (2147483587:Int)))) fun a29=>(eT (a:=a29) (b:=(2147483587:Int)) (gY (by decide) (by decide))))) (fun _=>(sv (aw (a:=at_7) (e:=D.int) rfl)))) (fun _=>rfl) fun mf=>(lx rfl (by(repeat' (first | exact trivial | refine And.intro rfl ?_))))))) (fun b19=>(lx rfl (by(repeat' (first | exact trivial | refine And.intro rfl ?_))))) fun j26=>(aP (fun mj=>[some (.v (.d ((eL D.int) ee))),some (.v (.d (D.int dq))),some (.v (.d (D.int gm))),some (.v (.d ((eL D.int) dI))),some (.own ((oL D.int) j26.1)),some (.own ((oL D.int) mj)),some (.v (.d (D.int k6))),some (.v (.d (D.int at_7))),some (.v (.d (D.int j26.2))),none]) (hJ (xI (ic (ia (a:=c5.2) rfl)) (fun _ hf=>vh (jX rfl) hf) (ae (sv (aw (a:=j26.2) (e:=D.int) rfl)) ak) (wx rfl))) (fun _=>rfl) fun mj=>(uH rfl (by(repeat' (first | exact trivial | refine And.intro rfl ?_))))))))))) fun r34=>(bL (Iu (jq (ic (ia (a:=r34.2) rfl)) (pe (sv (aw (a:=dq) (e:=D.int) rfl))) pn (Et (jX rfl))) rfl)))))))
def eM(bb:List Int):M (Int×List Int):=(if(eqB bb ([]:List Int))=true then(M.ok (((0:Int),bb)))else((xp bb).bind fun v1=>M.ok (v1)))
theorem iX{R:List Ob→Prop}{S:(List Int)→List Ob}{n:Nat}(hr:∀ d,(S d)[n]? =some ((oL D.int) d))(hw:∀ d d',(S d).set n ((oL D.int) d')=S d'){bb:List Int}:fw R d4 [.r n] (S bb) (eM bb) (fun v=>(.val (.d (D.int v.1)),S v.2)):=(gB (gE (ib (sv (ax (sv (cW (a:=bb) rfl)) (sn (Ev.dO (post2:=(pN (oL D.int) _ _)) (de (l:=fun _=>([]:List Int)) (e:=D.int) ak (fun _=>.nil) (fun _=>rfl) (fun _=>rfl)) rfl) (fun v=>dr _ v)) (fq (Bm (hr _)).pv cn (qL qI) (by decide))))) (bL (ub (cD D.int (0:Int)) rfl)) (bL (eB (φ:=fun v1=>v1) (xI (sv (cW (a:=bb) rfl)) (fun _ hf=>vh (Bm (hr _)) hf) ak (Hx (hr _) (hw _))) fun _=>rfl))))
def kW(bb:List Int):M ((List (List Nat))×List Int):=(nox (eM bb)).bind fun ah=>((i8 (sS "abc1b2acb") (some (ah.1%(7:Int))) (none:Option Int)).bind fun a2=>(M.ok ()).bind fun l3=>(M.ok ((ah.1/(7:Int))%(3:Int))).bind fun h4=>i8 a2 (none:Option Int) (some h4)).bind fun i3=>((((aO i3 (sS "a")).bind fun a6=>((aO i3 (sS "b")).bind fun a7=>((aO i3 (sS "ab")).bind fun a8=>((aO (sS "a") i3).bind fun a9=>(M.ok ()).bind fun w10=>M.ok (a9,w10)).bind fun w11=>M.ok (a8,w11)).bind fun w12=>M.ok (a7,w12)).bind fun w13=>M.ok (a6,w13)).bind fun z14=>M.ok [z14.1,z14.2.1,z14.2.2.1,z14.2.2.2.1,(sS "c0")]).bind fun a15=>(((((dB [(1:Int),(2:Int),(3:Int),(12:Int)] ((ah.1/(21:Int))%(4:Int))).bind fun a16=>mM (sS "abc") a16).bind fun a17=>aO i3 a17).bind fun a18=>(M.ok ()).bind fun w19=>M.ok (a18,w19)).bind fun z20=>M.ok [z20.1]).bind fun a21=>lY a15 a21).bind fun v22=>M.ok ((v22,ah.2))
theorem yo{R:List Ob→Prop}{S:(List Int)→List Ob}{n:Nat}(hr:∀ d,(S d)[n]? =some ((oL D.int) d))(hw:∀ d d',(S d).set n ((oL D.int) d')=S d'){bb:List Int}:fw R iD [.r n] (S bb) (kW bb) (fun v=>(.new ((oL D.str) v.1),S v.2)):=(gB (aP (fun ah=>[some (.v (.r n)),some (.v (.d (D.int ah.1))),none]) (e9 (dP (R':=R) (post:=(pE D.int _ S)) (ae (sv (cW (a:=bb) rfl)) ak) (.d .nil) rfl (iX (bb:=bb) hr hw) (fun _=>rfl))) (fun _=>rfl) fun ah=>(aP (fun i3=>[some (.v (.r n)),some (.v (.d (D.int ah.1))),some (.v (.d (D.str i3)))]) (e9 (IL (lo':=(fun _=>none)) (hi':=some) (mk:=fun a2 l h=>i8 a2 l h) (sv (jq (sv (cD D.str (sS "abc1b2acb"))) (pe (sv (ax (sv (aw (a:=ah.1) (e:=D.int) rfl)) (sv (cD D.int (7:Int))) (fS (a:=ah.1) (b:=(7:Int)) (by decide))))) pn lB)) (fun _=>pn) (fun _=>(pe (sv (ax (sv (ax (sv (aw (a:=ah.1) (e:=D.int) rfl)) (sv (cD D.int (7:Int))) (eT (a:=ah.1) (b:=(7:Int)) (gY (by decide) (by decide))))) (sv (cD D.int (3:Int))) (fS (a:=(ah.1/(7:Int))) (b:=(3:Int)) (by decide)))))) (fun _ _ _=>lB))) (fun _=>rfl) fun i3=>(bL (HZ (φ:=fun v22=>(v22,ah.2)) (hE (sn (Ev.map (fun(z14:List Nat×(List Nat×(List Nat×(List Nat×Unit))))=>[z14.1,z14.2.1,z14.2.2.1,z14.2.2.2.1,(sS "c0")]) (pN (oL D.str) _ _) (de (l:=fun z14=>([z14.1,z14.2.1,z14.2.2.1,z14.2.2.2.1,(sS "c0")]:List (List Nat))) (e:=D.str) (aJ (sv (ax (sv (aw (a:=i3) (e:=D.str) rfl)) (sv (cD D.str (sS "a"))) aX)) fun a6=>(aJ (sv (ax (sv (aw (a:=i3) (e:=D.str) rfl)) (sv (cD D.str (sS "b"))) aX)) fun a7=>(aJ (sv (ax (sv (aw (a:=i3) (e:=D.str) rfl)) (sv (cD D.str (sS "ab"))) aX)) fun a8=>(aJ (sv (ax (sv (cD D.str (sS "a"))) (sv (aw (a:=i3) (e:=D.str) rfl)) aX)) fun a9=>(ae (sv (cD D.str (sS "c0"))) ak))))) (fun _=>(.d (.d (.d (.d (.d .nil)))))) (fun _=>rfl) (fun _=>rfl)) fun _=>rfl) (fun v=>dr _ v)) (fun a15=>(sn (Ev.map (fun(z20:List Nat×Unit)=>[z20.1]) (pN (oL D.str) _ _) (de (l:=fun z20=>([z20.1]:List (List Nat))) (e:=D.str) (aJ (sv (dF (sv (aw (a:=i3) (e:=D.str) rfl)) (sv (dF (sv (cD D.str (sS "abc"))) (sv (ax (sn (Ev.dO (post2:=(pN (oL D.int) _ _)) (de (l:=fun _=>([(1:Int),(2:Int),(3:Int),(12:Int)]:List Int)) (e:=D.int) (ae (sv (cD D.int (1:Int))) (ae (sv (cD D.int (2:Int))) (ae (sv (cD D.int (3:Int))) (ae (sv (cD D.int (12:Int))) ak)))) (fun _=>(.d (.d (.d (.d .nil))))) (fun _=>rfl) (fun _=>rfl)) rfl) (fun v=>dr _ v)) (sv (ax (sv (ax (sv (aw (a:=ah.1) (e:=D.int) rfl)) (sv (cD D.int (21:Int))) (eT (a:=ah.1) (b:=(21:Int)) (gY (by decide) (by decide))))) (sv (cD D.int (4:Int))) (fS (a:=(ah.1/(21:Int))) (b:=(4:Int)) (by decide)))) (fm dt))) fun a16=>wq)) fun a17=>aX)) fun a18=>ak) (fun _=>(.d .nil)) (fun _=>rfl) (fun _=>rfl)) fun _=>rfl) (fun v=>dr _ v))) fun a15 a21=>(add_l dt dt)) fun _=>rfl)))))
def jR(bb:List Int):M (List Nat×List Int):=(((nox (eM bb)).bind fun a1=>M.ok ((a1.1%(6:Int)),a1.2)).bind fun a2=>(dB [(sS "title"),(sS "body"),(sS "h"),(sS "*"),(sS "*"),(sS "zz")] a2.1).bind fun v=>M.ok (v,a2.2)).bind fun v3=>M.ok (v3)
theorem x4{R:List Ob→Prop}{S:(List Int)→List Ob}{n:Nat}(hr:∀ d,(S d)[n]? =some ((oL D.int) d))(hw:∀ d d',(S d).set n ((oL D.int) d')=S d'){bb:List Int}:fw R iO [.r n] (S bb) (jR bb) (fun v=>(.val (.d (D.str v.1)),S v.2)):=(gB (bL (eB (φ:=fun v3=>v3) (dF (sn (Ev.dO (post2:=(pN (oL D.str) _ _)) (de (l:=fun _=>([(sS "title"),(sS "body"),(sS "h"),(sS "*"),(sS "*"),(sS "zz")]:List (List Nat))) (e:=D.str) (ae (sv (cD D.str (sS "title"))) (ae (sv (cD D.str (sS "body"))) (ae (sv (cD D.str (sS "h"))) (ae (sv (cD D.str (sS "*"))) (ae (sv (cD D.str (sS "*"))) (ae (sv (cD D.str (sS "zz"))) ak)))))) (fun _=>(.d (.d (.d (.d (.d (.d .nil))))))) (fun _=>rfl) (fun _=>rfl)) rfl) (fun v=>dr _ v)) (sv (cP (sv (dP (R':=R) (post:=(pE D.int _ S)) (ae (sv (cW (a:=bb) rfl)) ak) (.d .nil) rfl (iX (bb:=bb) hr hw) (fun _=>rfl))) (fun a1=>(sv (cD D.int (6:Int)))) fun a1=>(Ev.dO (post2:=(pE D.int _ S)) (fS (a:=a1.1) (b:=(6:Int)) (by decide)) rfl))) fun a2=>(Ev.map (fun v=>(v,a2.2)) (pE D.str _ S) (fm dt) fun _=>rfl)) fun _=>rfl)))
def g8(bb:List Int)(aI:List (List Nat)):M (List Nat×List Int):=(nox (eM bb)).bind fun ah=>((lY aI [(sS "zz")]).bind fun a2=>(gQ ah.1 ((aI.length:Int)+(1:Int))).bind fun a3=>dB a2 a3).bind fun eP=>((nT eP).bind fun a5=>gQ (ah.1/(16:Int)) a5).bind fun at_6=>((((i8 eP (none:Option Int) (some at_6)).bind fun a7=>aO a7 (sS "*")).bind fun a8=>(((i8 eP (some at_6) (none:Option Int)).bind fun a9=>aO (sS "*") a9).bind fun a10=>((((i8 eP (none:Option Int) (some at_6)).bind fun a11=>aO a11 (sS "?")).bind fun a12=>(i8 eP (some (at_6+(1:Int))) (none:Option Int)).bind fun a13=>aO a12 a13).bind fun a14=>((mM (sS "?") ((1:Int)+at_6)).bind fun a15=>(M.ok ()).bind fun w16=>M.ok (a15,w16)).bind fun w17=>M.ok (a14,w17)).bind fun w18=>M.ok (a10,w18)).bind fun w19=>M.ok (a8,w19)).bind fun z20=>M.ok [z20.1,z20.2.1,z20.2.2.1,eP,(sS "*"),z20.2.2.2.1]).bind fun oD=>(((((((i8 eP (none:Option Int) (some at_6)).bind fun a22=>aO a22 (sS "*")).bind fun a23=>(i8 eP (some (at_6+(1:Int))) (none:Option Int)).bind fun a24=>aO a23 a24).bind fun a25=>((((lJ eP at_6).bind fun a26=>aO (sS "*") a26).bind fun a27=>aO a27 (sS "*")).bind fun a28=>(M.ok ()).bind fun w29=>M.ok (a28,w29)).bind fun w30=>M.ok (a25,w30)).bind fun z31=>M.ok [z31.1,z31.2.1]).bind fun a32=>lY oD a32).bind fun a33=>dB a33 ((ah.1/(256:Int))%(8:Int))).bind fun v34=>M.ok ((v34,ah.2))
theorem n6{R:List Ob→Prop}{S:(List Int)→List Ob}{n:Nat}(hr:∀ d,(S d)[n]? =some ((oL D.int) d))(hw:∀ d d',(S d).set n ((oL D.int) d')=S d'){bb:List Int}{aI:List (List Nat)}:fw R gZ [.r n,.d ((eL D.str) aI)] (S bb) (g8 bb aI) (fun v=>(.val (.d (D.str v.1)),S v.2)):=(gB (aP (fun ah=>[some (.v (.r n)),some (.v (.d ((eL D.str) aI))),some (.v (.d (D.int ah.1))),none,none,none]) (e9 (dP (R':=R) (post:=(pE D.int _ S)) (ae (sv (cW (a:=bb) rfl)) ak) (.d .nil) rfl (iX (bb:=bb) hr hw) (fun _=>rfl))) (fun _=>rfl) fun ah=>(aP (fun eP=>[some (.v (.r n)),some (.v (.d ((eL D.str) aI))),some (.v (.d (D.int ah.1))),some (.v (.d (D.str eP))),none,none]) (e9 (hE (sn (ax (sv (aw (a:=aI) (e:=(eL D.str)) rfl)) (sn (Ev.dO (post2:=(pN (oL D.str) _ _)) (de (l:=fun _=>([(sS "zz")]:List (List Nat))) (e:=D.str) (ae (sv (cD D.str (sS "zz"))) ak) (fun _=>(.d .nil)) (fun _=>rfl) (fun _=>rfl)) rfl) (fun v=>dr _ v)) (add_l dt dt)) (fun v=>dr _ v)) (fun a2=>(sv (ax (sv (aw (a:=ah.1) (e:=D.int) rfl)) (sv (ax (sv (fF (ae (sv (aw (a:=aI) (e:=(eL D.str)) rfl)) ak) (lQ dt))) (sv (cD D.int (1:Int))) gW)) i0))) fun a2 a3=>(fm dt))) (fun _=>rfl) fun eP=>(aP (fun at_6=>[some (.v (.r n)),some (.v (.d ((eL D.str) aI))),some (.v (.d (D.int ah.1))),some (.v (.d (D.str eP))),some (.v (.d (D.int at_6))),none]) (e9 (dF (sv (ax (sv (aw (a:=ah.1) (e:=D.int) rfl)) (sv (cD D.int (16:Int))) (eT (a:=ah.1) (b:=(16:Int)) (gY (by decide) (by decide))))) (sv (fF (ae (sv (aw (a:=eP) (e:=D.str) rfl)) ak) tU)) fun a5=>i0)) (fun _=>rfl) fun at_6=>(aP (fun oD=>[some (.v (.r n)),some (.v (.d ((eL D.str) aI))),some (.v (.d (D.int ah.1))),some (.v (.d (D.str eP))),some (.v (.d (D.int at_6))),some (.own ((oL D.str) oD))]) (nC (Ev.map (fun(z20:List Nat×(List Nat×(List Nat×(List Nat×Unit))))=>[z20.1,z20.2.1,z20.2.2.1,eP,(sS "*"),z20.2.2.2.1]) (pN (oL D.str) _ _) (de (l:=fun z20=>([z20.1,z20.2.1,z20.2.2.1,eP,(sS "*"),z20.2.2.2.1]:List (List Nat))) (e:=D.str) (aJ (sv (cP (sv (jq (sv (aw (a:=eP) (e:=D.str) rfl)) pn (pe (sv (aw (a:=at_6) (e:=D.int) rfl))) lB)) (fun a7=>(sv (cD D.str (sS "*")))) fun a7=>aX)) fun a8=>(aJ (sv (dF (sv (cD D.str (sS "*"))) (sv (jq (sv (aw (a:=eP) (e:=D.str) rfl)) (pe (sv (aw (a:=at_6) (e:=D.int) rfl))) pn lB)) fun a9=>aX)) fun a10=>(aJ (sv (hE (sv (cP (sv (jq (sv (aw (a:=eP) (e:=D.str) rfl)) pn (pe (sv (aw (a:=at_6) (e:=D.int) rfl))) lB)) (fun a11=>(sv (cD D.str (sS "?")))) fun a11=>aX)) (fun a12=>(sv (jq (sv (aw (a:=eP) (e:=D.str) rfl)) (pe (sv (ax (sv (aw (a:=at_6) (e:=D.int) rfl)) (sv (cD D.int (1:Int))) gW))) pn lB))) fun a12 a13=>aX)) fun a14=>(ae (sv (aw (a:=eP) (e:=D.str) rfl)) (ae (sv (cD D.str (sS "*"))) (aJ (sv (ax (sv (cD D.str (sS "?"))) (sv (ax (sv (cD D.int (1:Int))) (sv (aw (a:=at_6) (e:=D.int) rfl)) gW)) wq)) fun a15=>ak)))))) (fun _=>(.d (.d (.d (.d (.d (.d .nil))))))) (fun _=>rfl) (fun _=>rfl)) fun _=>rfl)) (fun _=>rfl) fun oD=>(bL (eB (φ:=fun v34=>(v34,ah.2)) (cP (sn (dF (ic (ia (a:=oD) rfl)) (sn (Ev.map (fun(z31:List Nat×(List Nat×Unit))=>[z31.1,z31.2.1]) (pN (oL D.str) _ _) (de (l:=fun z31=>([z31.1,z31.2.1]:List (List Nat))) (e:=D.str) (aJ (sv (hE (sv (cP (sv (jq (sv (aw (a:=eP) (e:=D.str) rfl)) pn (pe (sv (aw (a:=at_6) (e:=D.int) rfl))) lB)) (fun a22=>(sv (cD D.str (sS "*")))) fun a22=>aX)) (fun a23=>(sv (jq (sv (aw (a:=eP) (e:=D.str) rfl)) (pe (sv (ax (sv (aw (a:=at_6) (e:=D.int) rfl)) (sv (cD D.int (1:Int))) gW))) pn lB))) fun a23 a24=>aX)) fun a25=>(aJ (sv (cP (sv (dF (sv (cD D.str (sS "*"))) (sv (ax (sv (aw (a:=eP) (e:=D.str) rfl)) (sv (aw (a:=at_6) (e:=D.int) rfl)) zV)) fun a26=>aX)) (fun a27=>(sv (cD D.str (sS "*")))) fun a27=>aX)) fun a28=>ak)) (fun _=>(.d (.d .nil))) (fun _=>rfl) (fun _=>rfl)) fun _=>rfl) (fun v=>dr _ v)) fun a32=>(add_l (jX rfl) dt)) (fun v=>dr _ v)) (fun a33=>(sv (ax (sv (ax (sv (aw (a:=ah.1) (e:=D.int) rfl)) (sv (cD D.int (256:Int))) (eT (a:=ah.1) (b:=(256:Int)) (gY (by decide) (by decide))))) (sv (cD D.int (8:Int))) (fS (a:=(ah.1/(256:Int))) (b:=(8:Int)) (by decide))))) fun a33=>(fm dt)) fun _=>rfl)))))))
def e7:Nat→(List Int)→(List (List Nat))→Int→M (D×List Int)
 | 0,_,_,_=>.bad
 | k+1,bb,aI,cv=>let recm:=e7 k;(nox (eM bb)).bind fun ah=>((if(eqB cv (0:Int))=true then(M.ok ((ah.1%(9:Int))%(5:Int)))else(M.ok (ah.1%(9:Int)))):M Int).bind fun j2=>(if(decide (j2<(5:Int)))=true then((nox (jR ah.2)).bind fun cV=>(if(eqB j2 (0:Int))=true then((((((lY aI [(sS "zz")]).bind fun a4=>(gQ (ah.1/(9:Int)) ((aI.length:Int)+(1:Int))).bind fun a5=>dB a4 a5).bind fun v=>M.ok (D.str v)).bind fun a6=>(M.ok ()).bind fun w7=>M.ok (a6,w7)).bind fun z8=>M.ok (D.tup [(D.str (sS "word")),(D.str cV.1),z8.1])).bind fun v9=>M.ok ((v9,cV.2)))else((if(eqB j2 (1:Int))=true then(((((nox (g8 cV.2 aI)).bind fun v=>M.ok (D.str v.1,v.2)).bind fun a10=>(M.ok ()).bind fun w11=>M.ok (a10,w11)).bind fun z12=>M.ok ((D.tup [(D.str (sS "like")),(D.str cV.1),z12.1.1]),z12.1.2)).bind fun v13=>M.ok (v13))else((if(decide (j2<(5:Int)))=true then((((dB [(4:Int),(6:Int)] ((ah.1/(2000:Int))%(2:Int))).bind fun a14=>gQ (ah.1/(18:Int)) a14).bind fun a15=>M.ok ((1:Int)+a15)).bind fun iT=>((jB 0 iT).bind fun a22=>jr (fun k17 c18=>M.ok true) (fun k17 c18=>((nox (eM c18)).bind fun a19=>(dB [(2:Int),(aI.length:Int)] ((ah.1/(9:Int))%(2:Int))).bind fun a20=>(gQ a19.1 a20).bind fun v=>M.ok (v,a19.2)).bind fun a21=>(dB aI a21.1).bind fun v=>M.ok (v,a21.2)) a22 cV.2).bind fun hO=>(if(eqB j2 (2:Int))=true then(M.ok (((D.tup [(D.str (sS "row")),(D.str cV.1),((eL D.str) hO.1)]),hO.2)))else(((((dB [(sS "near"),(sS "chain")] (j2-(3:Int))).bind fun v=>M.ok (D.str v)).bind fun a24=>(((((dB [(9:Int),(20:Int)] ((ah.1/(4000:Int))%(2:Int))).bind fun a25=>gQ (ah.1/(72:Int)) a25).bind fun a26=>M.ok ((1:Int)+a26)).bind fun v=>M.ok (D.int v)).bind fun a27=>(M.ok ()).bind fun w28=>M.ok (a27,w28)).bind fun w29=>M.ok (a24,w29)).bind fun z30=>M.ok (D.tup [z30.1,(D.str cV.1),z30.2.1,((eL D.str) hO.1)])).bind fun v31=>M.ok ((v31,hO.2)))))else((if(eqB j2 (5:Int))=true then((((nox (recm cV.2 aI (cv-(1:Int)))).bind fun a32=>(M.ok ()).bind fun w33=>M.ok (a32,w33)).bind fun z34=>M.ok ((D.tup [(D.str (sS "not")),z34.1.1]),z34.1.2)).bind fun v35=>M.ok (v35))else((((((dB [(4:Int),(4:Int),(4:Int),(3:Int)] cv).bind fun a36=>gQ (ah.1/(9:Int)) a36).bind fun a37=>(M.ok ()).bind fun w38=>M.ok (a37,w38)).bind fun z39=>jB 0 z39.1).bind fun a42=>jr (fun k40 c41=>M.ok true) (fun k40 c41=>nox (recm c41 aI (cv-(1:Int)))) a42 cV.2).bind fun lp=>((((dB [(sS "both"),(sS "one")] (j2%(2:Int))).bind fun v=>M.ok (D.str v)).bind fun a44=>(M.ok ()).bind fun w45=>M.ok (a44,w45)).bind fun z46=>M.ok (D.tup [z46.1,((eL eY) lp.1)])).bind fun v47=>M.ok ((v47,lp.2)))))))))))else((if(eqB j2 (0:Int))=true then((((((M.bad:M (List Nat))).bind fun v=>M.ok (D.str v)).bind fun a48=>((((lY aI [(sS "zz")]).bind fun a49=>(gQ (ah.1/(9:Int)) ((aI.length:Int)+(1:Int))).bind fun a50=>dB a49 a50).bind fun v=>M.ok (D.str v)).bind fun a51=>(M.ok ()).bind fun w52=>M.ok (a51,w52)).bind fun w53=>M.ok (a48,w53)).bind fun z54=>M.ok (D.tup [(D.str (sS "word")),z54.1,z54.2.1])).bind fun v55=>M.ok ((v55,ah.2)))else((if(eqB j2 (1:Int))=true then((((((M.bad:M (List Nat))).bind fun v=>M.ok (D.str v)).bind fun a56=>(((nox (g8 ah.2 aI)).bind fun v=>M.ok (D.str v.1,v.2)).bind fun a57=>(M.ok ()).bind fun w58=>M.ok (a57,w58)).bind fun w59=>M.ok (a56,w59)).bind fun z60=>M.ok ((D.tup [(D.str (sS "like")),z60.1,z60.2.1.1]),z60.2.1.2)).bind fun v61=>M.ok (v61))else((if(decide (j2<(5:Int)))=true then((((dB [(4:Int),(6:Int)] ((ah.1/(2000:Int))%(2:Int))).bind fun a62=>gQ (ah.1/(18:Int)) a62).bind fun a63=>M.ok ((1:Int)+a63)).bind fun km=>((jB 0 km).bind fun a70=>jr (fun k65 c66=>M.ok true) (fun k65 c66=>((nox (eM c66)).bind fun a67=>(dB [(2:Int),(aI.length:Int)] ((ah.1/(9:Int))%(2:Int))).bind fun a68=>(gQ a67.1 a68).bind fun v=>M.ok (v,a67.2)).bind fun a69=>(dB aI a69.1).bind fun v=>M.ok (v,a69.2)) a70 ah.2).bind fun gp=>(if(eqB j2 (2:Int))=true then((((((M.bad:M (List Nat))).bind fun v=>M.ok (D.str v)).bind fun a72=>(M.ok ()).bind fun w73=>M.ok (a72,w73)).bind fun z74=>M.ok (D.tup [(D.str (sS "row")),z74.1,((eL D.str) gp.1)])).bind fun v75=>M.ok ((v75,gp.2)))else(((((dB [(sS "near"),(sS "chain")] (j2-(3:Int))).bind fun v=>M.ok (D.str v)).bind fun a76=>((((M.bad:M (List Nat))).bind fun v=>M.ok (D.str v)).bind fun a77=>(((((dB [(9:Int),(20:Int)] ((ah.1/(4000:Int))%(2:Int))).bind fun a78=>gQ (ah.1/(72:Int)) a78).bind fun a79=>M.ok ((1:Int)+a79)).bind fun v=>M.ok (D.int v)).bind fun a80=>(M.ok ()).bind fun w81=>M.ok (a80,w81)).bind fun w82=>M.ok (a77,w82)).bind fun w83=>M.ok (a76,w83)).bind fun z84=>M.ok (D.tup [z84.1,z84.2.1,z84.2.2.1,((eL D.str) gp.1)])).bind fun v85=>M.ok ((v85,gp.2)))))else((if(eqB j2 (5:Int))=true then((((nox (recm ah.2 aI (cv-(1:Int)))).bind fun a86=>(M.ok ()).bind fun w87=>M.ok (a86,w87)).bind fun z88=>M.ok ((D.tup [(D.str (sS "not")),z88.1.1]),z88.1.2)).bind fun v89=>M.ok (v89))else((((((dB [(4:Int),(4:Int),(4:Int),(3:Int)] cv).bind fun a90=>gQ (ah.1/(9:Int)) a90).bind fun a91=>(M.ok ()).bind fun w92=>M.ok (a91,w92)).bind fun z93=>jB 0 z93.1).bind fun a96=>jr (fun k94 c95=>M.ok true) (fun k94 c95=>nox (recm c95 aI (cv-(1:Int)))) a96 ah.2).bind fun lq=>((((dB [(sS "both"),(sS "one")] (j2%(2:Int))).bind fun v=>M.ok (D.str v)).bind fun a98=>(M.ok ()).bind fun w99=>M.ok (a98,w99)).bind fun z100=>M.ok (D.tup [z100.1,((eL eY) lq.1)])).bind fun v101=>M.ok ((v101,lq.2))))))))))))
theorem tY(k:Nat){R:List Ob→Prop}{S:(List Int)→List Ob}{n:Nat}(hr:∀ d,(S d)[n]? =some ((oL D.int) d))(hw:∀ d d',(S d).set n ((oL D.int) d')=S d'){bb:List Int}{aI:List (List Nat)}{cv:Int}:fw R (cX k) [.r n,.d ((eL D.str) aI),.d (D.int cv)] (S bb) (e7 k bb aI cv) (fun v=>(.val (.d (eY v.1)),S v.2)):=by
 induction k generalizing bb aI cv with
 | zero=>exact trivial
 | succ k srec=>
  exact(gB (aP (fun ah=>[some (.v (.r n)),some (.v (.d ((eL D.str) aI))),some (.v (.d (D.int cv))),some (.v (.d (D.int ah.1))),none,none,none,none,none,none]) (e9 (dP (R':=R) (post:=(pE D.int _ S)) (ae (sv (cW (a:=bb) rfl)) ak) (.d .nil) rfl (iX (bb:=bb) hr hw) (fun _=>rfl))) (fun _=>rfl) fun ah=>(mG [some (.v (.r n)),some (.v (.d ((eL D.str) aI))),some (.v (.d (D.int cv))),some (.v (.d (D.int ah.1))),some (.v (.d (D.int (ah.1%(9:Int))))),none,none,none,none,none] (e9 (ax (sv (aw (a:=ah.1) (e:=D.int) rfl)) (sv (cD D.int (9:Int))) (fS (a:=ah.1) (b:=(9:Int)) (by decide)))) rfl (AX (Pc:=fun(j2:Int)=>[some (.v (.r n)),some (.v (.d ((eL D.str) aI))),some (.v (.d (D.int cv))),some (.v (.d (D.int ah.1))),some (.v (.d (D.int j2))),none,none,none,none,none]) (Sc:=fun(j2:Int)=>S ah.2) (ib (sv (ax (sv (aw (a:=cv) (e:=D.int) rfl)) (sv (cD D.int (0:Int))) (fq cn cn qI (by decide))))) (mG [some (.v (.r n)),some (.v (.d ((eL D.str) aI))),some (.v (.d (D.int cv))),some (.v (.d (D.int ah.1))),some (.v (.d (D.int ((ah.1%(9:Int))%(5:Int))))),none,none,none,none,none] (e9 (ax (sv (aw (a:=(ah.1%(9:Int))) (e:=D.int) rfl)) (sv (cD D.int (5:Int))) (fS (a:=(ah.1%(9:Int))) (b:=(5:Int)) (by decide)))) rfl (lx rfl (by(repeat' (first | exact trivial | refine And.intro rfl ?_))))) (lx rfl (by(repeat' (first | exact trivial | refine And.intro rfl ?_)))) fun j2=>(gE (ib (sv (ax (sv (aw (a:=j2) (e:=D.int) rfl)) (sv (cD D.int (5:Int))) uQ))) (aP (fun cV=>[some (.v (.r n)),some (.v (.d ((eL D.str) aI))),some (.v (.d (D.int cv))),some (.v (.d (D.int ah.1))),some (.v (.d (D.int j2))),none,some (.v (.d (D.str cV.1))),none,none,none]) (e9 (dP (R':=R) (post:=(pE D.str _ S)) (ae (sv (cW (a:=ah.2) rfl)) ak) (.d .nil) rfl (x4 (bb:=ah.2) hr hw) (fun _=>rfl))) (fun _=>rfl) fun cV=>(gE (ib (sv (ax (sv (aw (a:=j2) (e:=D.int) rfl)) (sv (cD D.int (0:Int))) (fq cn cn qI (by decide))))) (bL (eB (φ:=fun v9=>(v9,cV.2)) (Ev.map (fun(z8:D×Unit)=>(D.tup [(D.str (sS "word")),(D.str cV.1),z8.1])) (pD eY _ _) (eA (ae (sv (toY (cD D.str (sS "word")))) (ae (sv (toY (aw (a:=cV.1) (e:=D.str) rfl))) (aJ (sv (toY (hE (sn (ax (sv (aw (a:=aI) (e:=(eL D.str)) rfl)) (sn (Ev.dO (post2:=(pN (oL D.str) _ _)) (de (l:=fun _=>([(sS "zz")]:List (List Nat))) (e:=D.str) (ae (sv (cD D.str (sS "zz"))) ak) (fun _=>(.d .nil)) (fun _=>rfl) (fun _=>rfl)) rfl) (fun v=>dr _ v)) (add_l dt dt)) (fun v=>dr _ v)) (fun a4=>(sv (ax (sv (ax (sv (aw (a:=ah.1) (e:=D.int) rfl)) (sv (cD D.int (9:Int))) (eT (a:=ah.1) (b:=(9:Int)) (gY (by decide) (by decide))))) (sv (ax (sv (fF (ae (sv (aw (a:=aI) (e:=(eL D.str)) rfl)) ak) (lQ dt))) (sv (cD D.int (1:Int))) gW)) i0))) fun a4 a5=>(fm dt)))) fun a6=>ak))) (fun _=>(.d (.d (.d .nil)))) (fun _=>rfl) (fun _=>rfl)) fun _=>rfl) fun _=>rfl)) (gE (ib (sv (ax (sv (aw (a:=j2) (e:=D.int) rfl)) (sv (cD D.int (1:Int))) (fq cn cn qI (by decide))))) (bL (eB (φ:=fun v13=>v13) (Ev.map (fun(z12:(D×List Int)×Unit)=>((D.tup [(D.str (sS "like")),(D.str cV.1),z12.1.1]),z12.1.2)) (pE eY _ S) (eA (ae (sv (toY (cD D.str (sS "like")))) (ae (sv (toY (aw (a:=cV.1) (e:=D.str) rfl))) (aJ (sv (Ev.map (fun v=>(D.str v.1,v.2)) (pE eY _ S) (dP (R':=R) (post:=(pE D.str _ S)) (ae (sv (cW (a:=cV.2) rfl)) (ae (sv (aw (a:=aI) (e:=(eL D.str)) rfl)) ak)) (.d (.d .nil)) rfl (n6 (bb:=cV.2) (aI:=aI) hr hw) (fun _=>rfl)) fun _=>rfl)) fun a10=>ak))) (fun _=>(.d (.d (.d .nil)))) (fun _=>rfl) (fun _=>rfl)) fun _=>rfl) fun _=>rfl)) (gE (ib (sv (ax (sv (aw (a:=j2) (e:=D.int) rfl)) (sv (cD D.int (5:Int))) uQ))) (aP (fun iT=>[some (.v (.r n)),some (.v (.d ((eL D.str) aI))),some (.v (.d (D.int cv))),some (.v (.d (D.int ah.1))),some (.v (.d (D.int j2))),none,some (.v (.d (D.str cV.1))),some (.v (.d (D.int iT))),none,none]) (e9 (dF (sv (cD D.int (1:Int))) (sv (dF (sv (ax (sv (aw (a:=ah.1) (e:=D.int) rfl)) (sv (cD D.int (18:Int))) (eT (a:=ah.1) (b:=(18:Int)) (gY (by decide) (by decide))))) (sv (ax (sn (Ev.dO (post2:=(pN (oL D.int) _ _)) (de (l:=fun _=>([(4:Int),(6:Int)]:List Int)) (e:=D.int) (ae (sv (cD D.int (4:Int))) (ae (sv (cD D.int (6:Int))) ak)) (fun _=>(.d (.d .nil))) (fun _=>rfl) (fun _=>rfl)) rfl) (fun v=>dr _ v)) (sv (ax (sv (ax (sv (aw (a:=ah.1) (e:=D.int) rfl)) (sv (cD D.int (2000:Int))) (eT (a:=ah.1) (b:=(2000:Int)) (gY (by decide) (by decide))))) (sv (cD D.int (2:Int))) (fS (a:=(ah.1/(2000:Int))) (b:=(2:Int)) (by decide)))) (fm dt))) fun a14=>i0)) fun a15=>gW)) (fun _=>rfl) fun iT=>(aP (fun hO=>[some (.v (.r n)),some (.v (.d ((eL D.str) aI))),some (.v (.d (D.int cv))),some (.v (.d (D.int ah.1))),some (.v (.d (D.int j2))),none,some (.v (.d (D.str cV.1))),some (.v (.d (D.int iT))),some (.own ((oL D.str) hO.1)),none]) (nC (tW (q:=[some (.v (.r n)),some (.v (.d ((eL D.str) aI))),some (.v (.d (D.int cv))),some (.v (.d (D.int ah.1))),some (.v (.d (D.int j2))),none,some (.v (.d (D.str cV.1))),some (.v (.d (D.int iT))),none,none]) (p2:=fun k17=>[some (.v (.r n)),some (.v (.d ((eL D.str) aI))),some (.v (.d (D.int cv))),some (.v (.d (D.int ah.1))),some (.v (.d (D.int j2))),none,some (.v (.d (D.str cV.1))),some (.v (.d (D.int iT))),none,some (.v (.d (D.int k17)))]) (p3:=fun k17=>[some (.v (.r n)),some (.v (.d ((eL D.str) aI))),some (.v (.d (D.int cv))),some (.v (.d (D.int ah.1))),some (.v (.d (D.int j2))),none,some (.v (.d (D.str cV.1))),some (.v (.d (D.int iT))),none,some (.v (.d (D.int k17)))]) (S:=S) (lA:=(fun(a22:List Int)=>a22)) (cA:=(fun(a22:List Int)=>cV.2)) (mt:=(fun k17 c18=>M.ok true)) (me:=(fun k17 c18=>((nox (eM c18)).bind fun a19=>(dB [(2:Int),(aI.length:Int)] ((ah.1/(9:Int))%(2:Int))).bind fun a20=>(gQ a19.1 a20).bind fun v=>M.ok (v,a19.2)).bind fun a21=>(dB aI a21.1).bind fun v=>M.ok (v,a21.2))) (e:=D.str) (zC (ae (sv (aw (a:=iT) (e:=D.int) rfl)) ak) yg) rfl (fun k17 c18=>⟨mT,mH,(sJ (dF (sv (aw (a:=aI) (e:=(eL D.str)) rfl)) (sv (hE (sv (dP (R':=R) (post:=(pE D.int _ S)) (ae (sv (cW (a:=c18) rfl)) ak) (.d .nil) rfl (iX (bb:=c18) hr hw) (fun _=>rfl))) (fun a19=>(sv (ax (sn (Ev.dO (post2:=(pN (oL D.int) _ _)) (de (l:=fun _=>([(2:Int),(aI.length:Int)]:List Int)) (e:=D.int) (ae (sv (cD D.int (2:Int))) (ae (sv (fF (ae (sv (aw (a:=aI) (e:=(eL D.str)) rfl)) ak) (lQ dt))) ak)) (fun _=>(.d (.d .nil))) (fun _=>rfl) (fun _=>rfl)) rfl) (fun v=>dr _ v)) (sv (ax (sv (ax (sv (aw (a:=ah.1) (e:=D.int) rfl)) (sv (cD D.int (9:Int))) (eT (a:=ah.1) (b:=(9:Int)) (gY (by decide) (by decide))))) (sv (cD D.int (2:Int))) (fS (a:=(ah.1/(9:Int))) (b:=(2:Int)) (by decide)))) (fm dt)))) fun a19 a20=>(Ev.map (fun v=>(v,a19.2)) (pE D.int _ S) i0 fun _=>rfl))) fun a21=>(Ev.map (fun v=>(v,a21.2)) (pE D.str _ S) (fm dt) fun _=>rfl)))⟩) (fun _=>by(repeat' (first | exact trivial | refine And.intro rfl ?_))) (fun _=>by(repeat' (first | exact trivial | refine And.intro rfl ?_))))) (fun _=>rfl) fun hO=>(gE (ib (sv (ax (sv (aw (a:=j2) (e:=D.int) rfl)) (sv (cD D.int (2:Int))) (fq cn cn qI (by decide))))) (bL (ub (Ev.dO (post2:=(pD eY _ _)) (eA (ae (sv (toY (cD D.str (sS "row")))) (ae (sv (toY (aw (a:=cV.1) (e:=D.str) rfl))) (ae (ic (ia (a:=hO.1) rfl)) ak))) (fun _=>(.d (.d (.o rfl (dr _ _) .nil)))) (fun _=>rfl) (fun _=>rfl)) rfl) rfl)) (bL (eB (φ:=fun v31=>(v31,hO.2)) (Ev.map (fun(z30:D×(D×Unit))=>(D.tup [z30.1,(D.str cV.1),z30.2.1,((eL D.str) hO.1)])) (pD eY _ _) (eA (aJ (sv (toY (ax (sn (Ev.dO (post2:=(pN (oL D.str) _ _)) (de (l:=fun _=>([(sS "near"),(sS "chain")]:List (List Nat))) (e:=D.str) (ae (sv (cD D.str (sS "near"))) (ae (sv (cD D.str (sS "chain"))) ak)) (fun _=>(.d (.d .nil))) (fun _=>rfl) (fun _=>rfl)) rfl) (fun v=>dr _ v)) (sv (ax (sv (aw (a:=j2) (e:=D.int) rfl)) (sv (cD D.int (3:Int))) oF)) (fm dt)))) fun a24=>(ae (sv (toY (aw (a:=cV.1) (e:=D.str) rfl))) (aJ (sv (toY (dF (sv (cD D.int (1:Int))) (sv (dF (sv (ax (sv (aw (a:=ah.1) (e:=D.int) rfl)) (sv (cD D.int (72:Int))) (eT (a:=ah.1) (b:=(72:Int)) (gY (by decide) (by decide))))) (sv (ax (sn (Ev.dO (post2:=(pN (oL D.int) _ _)) (de (l:=fun _=>([(9:Int),(20:Int)]:List Int)) (e:=D.int) (ae (sv (cD D.int (9:Int))) (ae (sv (cD D.int (20:Int))) ak)) (fun _=>(.d (.d .nil))) (fun _=>rfl) (fun _=>rfl)) rfl) (fun v=>dr _ v)) (sv (ax (sv (ax (sv (aw (a:=ah.1) (e:=D.int) rfl)) (sv (cD D.int (4000:Int))) (eT (a:=ah.1) (b:=(4000:Int)) (gY (by decide) (by decide))))) (sv (cD D.int (2:Int))) (fS (a:=(ah.1/(4000:Int))) (b:=(2:Int)) (by decide)))) (fm dt))) fun a25=>i0)) fun a26=>gW))) fun a27=>(ae (ic (ia (a:=hO.1) rfl)) ak)))) (fun _=>(.d (.d (.d (.o rfl (dr _ _) .nil))))) (fun _=>rfl) (fun _=>rfl)) fun _=>rfl) fun _=>rfl))))) (gE (ib (sv (ax (sv (aw (a:=j2) (e:=D.int) rfl)) (sv (cD D.int (5:Int))) (fq cn cn qI (by decide))))) (bL (eB (φ:=fun v35=>v35) (Ev.map (fun(z34:(D×List Int)×Unit)=>((D.tup [(D.str (sS "not")),z34.1.1]),z34.1.2)) (pE eY _ S) (eA (ae (sv (toY (cD D.str (sS "not")))) (aJ (sv (dP (R':=R) (post:=(pE eY _ S)) (ae (sv (cW (a:=cV.2) rfl)) (ae (sv (aw (a:=aI) (e:=(eL D.str)) rfl)) (ae (sv (ax (sv (aw (a:=cv) (e:=D.int) rfl)) (sv (cD D.int (1:Int))) oF)) ak))) (.d (.d (.d .nil))) rfl (srec (bb:=cV.2) (aI:=aI) (cv:=(cv-(1:Int)))) (fun _=>rfl))) fun a32=>ak)) (fun _=>(.d (.d .nil))) (fun _=>rfl) (fun _=>rfl)) fun _=>rfl) fun _=>rfl)) (aP (fun lp=>[some (.v (.r n)),some (.v (.d ((eL D.str) aI))),some (.v (.d (D.int cv))),some (.v (.d (D.int ah.1))),some (.v (.d (D.int j2))),some (.own ((oL eY) lp.1)),some (.v (.d (D.str cV.1))),none,none,none]) (nC (tW (q:=[some (.v (.r n)),some (.v (.d ((eL D.str) aI))),some (.v (.d (D.int cv))),some (.v (.d (D.int ah.1))),some (.v (.d (D.int j2))),none,some (.v (.d (D.str cV.1))),none,none,none]) (p2:=fun k40=>[some (.v (.r n)),some (.v (.d ((eL D.str) aI))),some (.v (.d (D.int cv))),some (.v (.d (D.int ah.1))),some (.v (.d (D.int j2))),none,some (.v (.d (D.str cV.1))),none,none,some (.v (.d (D.int k40)))]) (p3:=fun k40=>[some (.v (.r n)),some (.v (.d ((eL D.str) aI))),some (.v (.d (D.int cv))),some (.v (.d (D.int ah.1))),some (.v (.d (D.int j2))),none,some (.v (.d (D.str cV.1))),none,none,some (.v (.d (D.int k40)))]) (S:=S) (lA:=(fun(a42:List Int)=>a42)) (cA:=(fun(a42:List Int)=>cV.2)) (mt:=(fun k40 c41=>M.ok true)) (me:=(fun k40 c41=>nox ((e7 k) c41 aI (cv-(1:Int))))) (e:=eY) (Ih (aJ (sv (dF (sv (ax (sv (aw (a:=ah.1) (e:=D.int) rfl)) (sv (cD D.int (9:Int))) (eT (a:=ah.1) (b:=(9:Int)) (gY (by decide) (by decide))))) (sv (ax (sn (Ev.dO (post2:=(pN (oL D.int) _ _)) (de (l:=fun _=>([(4:Int),(4:Int),(4:Int),(3:Int)]:List Int)) (e:=D.int) (ae (sv (cD D.int (4:Int))) (ae (sv (cD D.int (4:Int))) (ae (sv (cD D.int (4:Int))) (ae (sv (cD D.int (3:Int))) ak)))) (fun _=>(.d (.d (.d (.d .nil))))) (fun _=>rfl) (fun _=>rfl)) rfl) (fun v=>dr _ v)) (sv (aw (a:=cv) (e:=D.int) rfl)) (fm dt))) fun a36=>i0)) fun a37=>ak) fun z39=>yg) rfl (fun k40 c41=>⟨mT,mH,(sJ (dP (R':=R) (post:=(pE eY _ S)) (ae (sv (cW (a:=c41) rfl)) (ae (sv (aw (a:=aI) (e:=(eL D.str)) rfl)) (ae (sv (ax (sv (aw (a:=cv) (e:=D.int) rfl)) (sv (cD D.int (1:Int))) oF)) ak))) (.d (.d (.d .nil))) rfl (srec (bb:=c41) (aI:=aI) (cv:=(cv-(1:Int)))) (fun _=>rfl)))⟩) (fun _=>by(repeat' (first | exact trivial | refine And.intro rfl ?_))) (fun _=>by(repeat' (first | exact trivial | refine And.intro rfl ?_))))) (fun _=>rfl) fun lp=>(bL (eB (φ:=fun v47=>(v47,lp.2)) (Ev.map (fun(z46:D×Unit)=>(D.tup [z46.1,((eL eY) lp.1)])) (pD eY _ _) (eA (aJ (sv (toY (ax (sn (Ev.dO (post2:=(pN (oL D.str) _ _)) (de (l:=fun _=>([(sS "both"),(sS "one")]:List (List Nat))) (e:=D.str) (ae (sv (cD D.str (sS "both"))) (ae (sv (cD D.str (sS "one"))) ak)) (fun _=>(.d (.d .nil))) (fun _=>rfl) (fun _=>rfl)) rfl) (fun v=>dr _ v)) (sv (ax (sv (aw (a:=j2) (e:=D.int) rfl)) (sv (cD D.int (2:Int))) (fS (a:=j2) (b:=(2:Int)) (by decide)))) (fm dt)))) fun a44=>(ae (ic (ia (a:=lp.1) rfl)) ak)) (fun _=>(.d (.o rfl (dr _ _) .nil))) (fun _=>rfl) (fun _=>rfl)) fun _=>rfl) fun _=>rfl)))))))) (gE (ib (sv (ax (sv (aw (a:=j2) (e:=D.int) rfl)) (sv (cD D.int (0:Int))) (fq cn cn qI (by decide))))) (bL (eB (φ:=fun v55=>(v55,ah.2)) (Ev.map (fun(z54:D×(D×Unit))=>(D.tup [(D.str (sS "word")),z54.1,z54.2.1])) (pD eY _ _) (eA (ae (sv (toY (cD D.str (sS "word")))) (aJ (sv (toY (wD (e:=D.str)))) fun a48=>(aJ (sv (toY (hE (sn (ax (sv (aw (a:=aI) (e:=(eL D.str)) rfl)) (sn (Ev.dO (post2:=(pN (oL D.str) _ _)) (de (l:=fun _=>([(sS "zz")]:List (List Nat))) (e:=D.str) (ae (sv (cD D.str (sS "zz"))) ak) (fun _=>(.d .nil)) (fun _=>rfl) (fun _=>rfl)) rfl) (fun v=>dr _ v)) (add_l dt dt)) (fun v=>dr _ v)) (fun a49=>(sv (ax (sv (ax (sv (aw (a:=ah.1) (e:=D.int) rfl)) (sv (cD D.int (9:Int))) (eT (a:=ah.1) (b:=(9:Int)) (gY (by decide) (by decide))))) (sv (ax (sv (fF (ae (sv (aw (a:=aI) (e:=(eL D.str)) rfl)) ak) (lQ dt))) (sv (cD D.int (1:Int))) gW)) i0))) fun a49 a50=>(fm dt)))) fun a51=>ak))) (fun _=>(.d (.d (.d .nil)))) (fun _=>rfl) (fun _=>rfl)) fun _=>rfl) fun _=>rfl)) (gE (ib (sv (ax (sv (aw (a:=j2) (e:=D.int) rfl)) (sv (cD D.int (1:Int))) (fq cn cn qI (by decide))))) (bL (eB (φ:=fun v61=>v61) (Ev.map (fun(z60:D×((D×List Int)×Unit))=>((D.tup [(D.str (sS "like")),z60.1,z60.2.1.1]),z60.2.1.2)) (pE eY _ S) (eA (ae (sv (toY (cD D.str (sS "like")))) (aJ (sv (toY (wD (e:=D.str)))) fun a56=>(aJ (sv (Ev.map (fun v=>(D.str v.1,v.2)) (pE eY _ S) (dP (R':=R) (post:=(pE D.str _ S)) (ae (sv (cW (a:=ah.2) rfl)) (ae (sv (aw (a:=aI) (e:=(eL D.str)) rfl)) ak)) (.d (.d .nil)) rfl (n6 (bb:=ah.2) (aI:=aI) hr hw) (fun _=>rfl)) fun _=>rfl)) fun a57=>ak))) (fun _=>(.d (.d (.d .nil)))) (fun _=>rfl) (fun _=>rfl)) fun _=>rfl) fun _=>rfl)) (gE (ib (sv (ax (sv (aw (a:=j2) (e:=D.int) rfl)) (sv (cD D.int (5:Int))) uQ))) (aP (fun km=>[some (.v (.r n)),some (.v (.d ((eL D.str) aI))),some (.v (.d (D.int cv))),some (.v (.d (D.int ah.1))),some (.v (.d (D.int j2))),none,none,some (.v (.d (D.int km))),none,none]) (e9 (dF (sv (cD D.int (1:Int))) (sv (dF (sv (ax (sv (aw (a:=ah.1) (e:=D.int) rfl)) (sv (cD D.int (18:Int))) (eT (a:=ah.1) (b:=(18:Int)) (gY (by decide) (by decide))))) (sv (ax (sn (Ev.dO (post2:=(pN (oL D.int) _ _)) (de (l:=fun _=>([(4:Int),(6:Int)]:List Int)) (e:=D.int) (ae (sv (cD D.int (4:Int))) (ae (sv (cD D.int (6:Int))) ak)) (fun _=>(.d (.d .nil))) (fun _=>rfl) (fun _=>rfl)) rfl) (fun v=>dr _ v)) (sv (ax (sv (ax (sv (aw (a:=ah.1) (e:=D.int) rfl)) (sv (cD D.int (2000:Int))) (eT (a:=ah.1) (b:=(2000:Int)) (gY (by decide) (by decide))))) (sv (cD D.int (2:Int))) (fS (a:=(ah.1/(2000:Int))) (b:=(2:Int)) (by decide)))) (fm dt))) fun a62=>i0)) fun a63=>gW)) (fun _=>rfl) fun km=>(aP (fun gp=>[some (.v (.r n)),some (.v (.d ((eL D.str) aI))),some (.v (.d (D.int cv))),some (.v (.d (D.int ah.1))),some (.v (.d (D.int j2))),none,none,some (.v (.d (D.int km))),some (.own ((oL D.str) gp.1)),none]) (nC (tW (q:=[some (.v (.r n)),some (.v (.d ((eL D.str) aI))),some (.v (.d (D.int cv))),some (.v (.d (D.int ah.1))),some (.v (.d (D.int j2))),none,none,some (.v (.d (D.int km))),none,none]) (p2:=fun k65=>[some (.v (.r n)),some (.v (.d ((eL D.str) aI))),some (.v (.d (D.int cv))),some (.v (.d (D.int ah.1))),some (.v (.d (D.int j2))),none,none,some (.v (.d (D.int km))),none,some (.v (.d (D.int k65)))]) (p3:=fun k65=>[some (.v (.r n)),some (.v (.d ((eL D.str) aI))),some (.v (.d (D.int cv))),some (.v (.d (D.int ah.1))),some (.v (.d (D.int j2))),none,none,some (.v (.d (D.int km))),none,some (.v (.d (D.int k65)))]) (S:=S) (lA:=(fun(a70:List Int)=>a70)) (cA:=(fun(a70:List Int)=>ah.2)) (mt:=(fun k65 c66=>M.ok true)) (me:=(fun k65 c66=>((nox (eM c66)).bind fun a67=>(dB [(2:Int),(aI.length:Int)] ((ah.1/(9:Int))%(2:Int))).bind fun a68=>(gQ a67.1 a68).bind fun v=>M.ok (v,a67.2)).bind fun a69=>(dB aI a69.1).bind fun v=>M.ok (v,a69.2))) (e:=D.str) (zC (ae (sv (aw (a:=km) (e:=D.int) rfl)) ak) yg) rfl (fun k65 c66=>⟨mT,mH,(sJ (dF (sv (aw (a:=aI) (e:=(eL D.str)) rfl)) (sv (hE (sv (dP (R':=R) (post:=(pE D.int _ S)) (ae (sv (cW (a:=c66) rfl)) ak) (.d .nil) rfl (iX (bb:=c66) hr hw) (fun _=>rfl))) (fun a67=>(sv (ax (sn (Ev.dO (post2:=(pN (oL D.int) _ _)) (de (l:=fun _=>([(2:Int),(aI.length:Int)]:List Int)) (e:=D.int) (ae (sv (cD D.int (2:Int))) (ae (sv (fF (ae (sv (aw (a:=aI) (e:=(eL D.str)) rfl)) ak) (lQ dt))) ak)) (fun _=>(.d (.d .nil))) (fun _=>rfl) (fun _=>rfl)) rfl) (fun v=>dr _ v)) (sv (ax (sv (ax (sv (aw (a:=ah.1) (e:=D.int) rfl)) (sv (cD D.int (9:Int))) (eT (a:=ah.1) (b:=(9:Int)) (gY (by decide) (by decide))))) (sv (cD D.int (2:Int))) (fS (a:=(ah.1/(9:Int))) (b:=(2:Int)) (by decide)))) (fm dt)))) fun a67 a68=>(Ev.map (fun v=>(v,a67.2)) (pE D.int _ S) i0 fun _=>rfl))) fun a69=>(Ev.map (fun v=>(v,a69.2)) (pE D.str _ S) (fm dt) fun _=>rfl)))⟩) (fun _=>by(repeat' (first | exact trivial | refine And.intro rfl ?_))) (fun _=>by(repeat' (first | exact trivial | refine And.intro rfl ?_))))) (fun _=>rfl) fun gp=>(gE (ib (sv (ax (sv (aw (a:=j2) (e:=D.int) rfl)) (sv (cD D.int (2:Int))) (fq cn cn qI (by decide))))) (bL (eB (φ:=fun v75=>(v75,gp.2)) (Ev.map (fun(z74:D×Unit)=>(D.tup [(D.str (sS "row")),z74.1,((eL D.str) gp.1)])) (pD eY _ _) (eA (ae (sv (toY (cD D.str (sS "row")))) (aJ (sv (toY (wD (e:=D.str)))) fun a72=>(ae (ic (ia (a:=gp.1) rfl)) ak))) (fun _=>(.d (.d (.o rfl (dr _ _) .nil)))) (fun _=>rfl) (fun _=>rfl)) fun _=>rfl) fun _=>rfl)) (bL (eB (φ:=fun v85=>(v85,gp.2)) (Ev.map (fun(z84:D×(D×(D×Unit)))=>(D.tup [z84.1,z84.2.1,z84.2.2.1,((eL D.str) gp.1)])) (pD eY _ _) (eA (aJ (sv (toY (ax (sn (Ev.dO (post2:=(pN (oL D.str) _ _)) (de (l:=fun _=>([(sS "near"),(sS "chain")]:List (List Nat))) (e:=D.str) (ae (sv (cD D.str (sS "near"))) (ae (sv (cD D.str (sS "chain"))) ak)) (fun _=>(.d (.d .nil))) (fun _=>rfl) (fun _=>rfl)) rfl) (fun v=>dr _ v)) (sv (ax (sv (aw (a:=j2) (e:=D.int) rfl)) (sv (cD D.int (3:Int))) oF)) (fm dt)))) fun a76=>(aJ (sv (toY (wD (e:=D.str)))) fun a77=>(aJ (sv (toY (dF (sv (cD D.int (1:Int))) (sv (dF (sv (ax (sv (aw (a:=ah.1) (e:=D.int) rfl)) (sv (cD D.int (72:Int))) (eT (a:=ah.1) (b:=(72:Int)) (gY (by decide) (by decide))))) (sv (ax (sn (Ev.dO (post2:=(pN (oL D.int) _ _)) (de (l:=fun _=>([(9:Int),(20:Int)]:List Int)) (e:=D.int) (ae (sv (cD D.int (9:Int))) (ae (sv (cD D.int (20:Int))) ak)) (fun _=>(.d (.d .nil))) (fun _=>rfl) (fun _=>rfl)) rfl) (fun v=>dr _ v)) (sv (ax (sv (ax (sv (aw (a:=ah.1) (e:=D.int) rfl)) (sv (cD D.int (4000:Int))) (eT (a:=ah.1) (b:=(4000:Int)) (gY (by decide) (by decide))))) (sv (cD D.int (2:Int))) (fS (a:=(ah.1/(4000:Int))) (b:=(2:Int)) (by decide)))) (fm dt))) fun a78=>i0)) fun a79=>gW))) fun a80=>(ae (ic (ia (a:=gp.1) rfl)) ak)))) (fun _=>(.d (.d (.d (.o rfl (dr _ _) .nil))))) (fun _=>rfl) (fun _=>rfl)) fun _=>rfl) fun _=>rfl))))) (gE (ib (sv (ax (sv (aw (a:=j2) (e:=D.int) rfl)) (sv (cD D.int (5:Int))) (fq cn cn qI (by decide))))) (bL (eB (φ:=fun v89=>v89) (Ev.map (fun(z88:(D×List Int)×Unit)=>((D.tup [(D.str (sS "not")),z88.1.1]),z88.1.2)) (pE eY _ S) (eA (ae (sv (toY (cD D.str (sS "not")))) (aJ (sv (dP (R':=R) (post:=(pE eY _ S)) (ae (sv (cW (a:=ah.2) rfl)) (ae (sv (aw (a:=aI) (e:=(eL D.str)) rfl)) (ae (sv (ax (sv (aw (a:=cv) (e:=D.int) rfl)) (sv (cD D.int (1:Int))) oF)) ak))) (.d (.d (.d .nil))) rfl (srec (bb:=ah.2) (aI:=aI) (cv:=(cv-(1:Int)))) (fun _=>rfl))) fun a86=>ak)) (fun _=>(.d (.d .nil))) (fun _=>rfl) (fun _=>rfl)) fun _=>rfl) fun _=>rfl)) (aP (fun lq=>[some (.v (.r n)),some (.v (.d ((eL D.str) aI))),some (.v (.d (D.int cv))),some (.v (.d (D.int ah.1))),some (.v (.d (D.int j2))),some (.own ((oL eY) lq.1)),none,none,none,none]) (nC (tW (q:=[some (.v (.r n)),some (.v (.d ((eL D.str) aI))),some (.v (.d (D.int cv))),some (.v (.d (D.int ah.1))),some (.v (.d (D.int j2))),none,none,none,none,none]) (p2:=fun k94=>[some (.v (.r n)),some (.v (.d ((eL D.str) aI))),some (.v (.d (D.int cv))),some (.v (.d (D.int ah.1))),some (.v (.d (D.int j2))),none,none,none,none,some (.v (.d (D.int k94)))]) (p3:=fun k94=>[some (.v (.r n)),some (.v (.d ((eL D.str) aI))),some (.v (.d (D.int cv))),some (.v (.d (D.int ah.1))),some (.v (.d (D.int j2))),none,none,none,none,some (.v (.d (D.int k94)))]) (S:=S) (lA:=(fun(a96:List Int)=>a96)) (cA:=(fun(a96:List Int)=>ah.2)) (mt:=(fun k94 c95=>M.ok true)) (me:=(fun k94 c95=>nox ((e7 k) c95 aI (cv-(1:Int))))) (e:=eY) (Ih (aJ (sv (dF (sv (ax (sv (aw (a:=ah.1) (e:=D.int) rfl)) (sv (cD D.int (9:Int))) (eT (a:=ah.1) (b:=(9:Int)) (gY (by decide) (by decide))))) (sv (ax (sn (Ev.dO (post2:=(pN (oL D.int) _ _)) (de (l:=fun _=>([(4:Int),(4:Int),(4:Int),(3:Int)]:List Int)) (e:=D.int) (ae (sv (cD D.int (4:Int))) (ae (sv (cD D.int (4:Int))) (ae (sv (cD D.int (4:Int))) (ae (sv (cD D.int (3:Int))) ak)))) (fun _=>(.d (.d (.d (.d .nil))))) (fun _=>rfl) (fun _=>rfl)) rfl) (fun v=>dr _ v)) (sv (aw (a:=cv) (e:=D.int) rfl)) (fm dt))) fun a90=>i0)) fun a91=>ak) fun z93=>yg) rfl (fun k94 c95=>⟨mT,mH,(sJ (dP (R':=R) (post:=(pE eY _ S)) (ae (sv (cW (a:=c95) rfl)) (ae (sv (aw (a:=aI) (e:=(eL D.str)) rfl)) (ae (sv (ax (sv (aw (a:=cv) (e:=D.int) rfl)) (sv (cD D.int (1:Int))) oF)) ak))) (.d (.d (.d .nil))) rfl (srec (bb:=c95) (aI:=aI) (cv:=(cv-(1:Int)))) (fun _=>rfl)))⟩) (fun _=>by(repeat' (first | exact trivial | refine And.intro rfl ?_))) (fun _=>by(repeat' (first | exact trivial | refine And.intro rfl ?_))))) (fun _=>rfl) fun lq=>(bL (eB (φ:=fun v101=>(v101,lq.2)) (Ev.map (fun(z100:D×Unit)=>(D.tup [z100.1,((eL eY) lq.1)])) (pD eY _ _) (eA (aJ (sv (toY (ax (sn (Ev.dO (post2:=(pN (oL D.str) _ _)) (de (l:=fun _=>([(sS "both"),(sS "one")]:List (List Nat))) (e:=D.str) (ae (sv (cD D.str (sS "both"))) (ae (sv (cD D.str (sS "one"))) ak)) (fun _=>(.d (.d .nil))) (fun _=>rfl) (fun _=>rfl)) rfl) (fun v=>dr _ v)) (sv (ax (sv (aw (a:=j2) (e:=D.int) rfl)) (sv (cD D.int (2:Int))) (fS (a:=j2) (b:=(2:Int)) (by decide)))) (fm dt)))) fun a98=>(ae (ic (ia (a:=lq.1) rfl)) ak)) (fun _=>(.d (.o rfl (dr _ _) .nil))) (fun _=>rfl) (fun _=>rfl)) fun _=>rfl) fun _=>rfl))))))))))))
end K81
namespace Vw
open PySem L2
theorem zL:sizeLine=16777216:=rfl
section
variable{T U C A B Q:Type}
theorem fU{b:Bool}(h:b=true):gd b=.ok ():=by rw[h];rfl
theorem mQ{a b:List T}(h:a.length+b.length≤16777216):lY a b=.ok (a++b):=by
 unfold lY;rw[zL,fU (decide_eq_true h)];rfl
theorem ay{a b:List Nat}(h:a.length+b.length≤16777216):aO a b=.ok (a++b):=by
 unfold aO;rw[zL,fU (decide_eq_true h)];rfl
theorem oz{a:List T}{x:T}(h:a.length<16777216):i7 a x=.ok (a++[x]):=by
 unfold i7;rw[zL,fU (decide_eq_true h)];rfl
theorem mc{a:List Nat}(h:a.length≤16777216):nT a=.ok (a.length:Int):=by
 unfold nT;rw[zL,fU (decide_eq_true h)];rfl
theorem la{a:List Nat}{lo hi:Option Int}(h:a.length≤16777216):i8 a lo hi=.ok (ey a lo hi):=by
 unfold i8;rw[zL,fU (decide_eq_true h)];rfl
theorem jK{a b:Int}(h:0<b):gQ a b=.ok (a%b):=by
 unfold gQ;rw[fU (decide_eq_true h)];rfl
theorem DZ{a b:Int}(h:a.natAbs.log2+b.natAbs.log2<1000000):mulM a b=.ok (a*b):=by
 unfold mulM A7;rw[fU (decide_eq_true h)];rfl
theorem uZ{n:Int}(h:n<1000000000)(h0: -1000000000<n):jB 0 n=.ok ((List.range n.toNat).map fun(i:Nat)=>(i:Int)):=by
 unfold jB
 rw[fU (decide_eq_true (by omega)),M.aa]
 congr 1
 rw[show(n- 0).toNat=n.toNat by omega]
 exact List.map_congr_left fun i _=>by omega
theorem C6{n:Nat}{i:Nat}(h:i<n):ixN n (i:Int)=some i:=by
 rw[Sh.yU (by omega) (by omega)];simp
theorem atI_nat{l:List T}{i:Nat}(h:i<l.length):atI l (i:Int)=some l[i]:=by
 unfold atI
 rw[C6 h]
 simp[h]
theorem D7{l:List T}{i:Nat}(h:i<l.length):dB l (i:Int)=.ok l[i]:=by
 unfold dB;rw[atI_nat h]
theorem EJ{l:List T}{i:Int}(h0:0≤i)(h:i<l.length):∃ a,a∈l∧dB l i=.ok a:=by
 have:i=((i.toNat:Nat):Int):=by omega
 rw[this]
 have h':i.toNat<l.length:=by omega
 exact⟨_,List.getElem_mem h',D7 h'⟩
theorem E7{l:List Nat}{i:Int}(h0:0≤i)(h:i<l.length)(hl:l.length≤16777216):∃ a,a∈l∧lJ l i=.ok [a]:=by
 have:i=((i.toNat:Nat):Int):=by omega
 have h':i.toNat<l.length:=by omega
 refine⟨l[i.toNat],List.getElem_mem h',?_⟩
 unfold lJ
 rw[zL,fU (decide_eq_true hl),M.aa]
 have e:=atI_nat h'
 rw[show((i.toNat:Nat):Int)=i by omega]at e
 rw[e]
theorem D5{l:List T}{i:Int}(h0:0≤i)(h:i<l.length)(x:T):setM l i x=.ok (l.set i.toNat x):=by
 unfold setM
 rw[Sh.yU h0 h]
theorem vR{mt:T→M Bool}{me:T→M U}{F:T→U}:∀ (l:List T) (acc:List U),(∀ x∈l,mt x=.ok true)→(∀ x∈l,me x=.ok (F x))→acc.length+l.length≤16777216→js mt me acc l=.ok (acc++l.map F)
 | [],acc,h1,h2,hl=>by simp[js]
 | x::l,acc,h1,h2,hl=>by
  simp only[List.length_cons]at hl
  unfold js
  rw[h1 x (by simp),M.aa,if_pos rfl,h2 x (by simp),M.aa,fU (decide_eq_true (by rw[zL];omega)),M.aa,vR l _ (fun y hy=>h1 y (by simp[hy])) (fun y hy=>h2 y (by simp[hy])) (by simp;omega)]
  simp
theorem vM{mt:T→M Bool}{me:T→M U}{F:T→U}{l:List T}(h1:∀ x∈l,mt x=.ok true)(h2:∀ x∈l,me x=.ok (F x))(hl:l.length≤16777216):jm mt me l=.ok (l.map F):=by
 unfold jm
 rw[vR l [] h1 h2 (by simpa using hl)];simp
theorem yc{mt:T→C→M Bool}{me:T→C→M (U×C)}(I:C→Prop)(P:U→Prop):∀ (l:List T) (acc:List U) (c:C),I c→(∀ x∈l,∀ c,mt x c=.ok true)→(∀ x∈l,∀ c,I c→∃ y c',me x c=.ok (y,c')∧P y∧I c')→acc.length+l.length≤16777216→∃ r c',iP mt me acc l c=.ok (acc++r,c')∧r.length=l.length∧(∀ y∈r,P y)∧I c'
 | [],acc,c,hc,h1,h2,hl=>⟨[],c,by simp[iP],rfl,by simp,hc⟩
 | x::l,acc,c,hc,h1,h2,hl=>by
  simp only[List.length_cons]at hl
  obtain⟨y,c1,e,hy,hc1⟩:=h2 x (by simp) c hc
  obtain⟨r,c2,e2,hr,hp,hc2⟩:=yc I P l (acc++[y]) c1 hc1 (fun y hy=>h1 y (by simp[hy])) (fun y hy=>h2 y (by simp[hy])) (by simp;omega)
  refine⟨y::r,c2,?_,by simp[hr],fun z hz=>?_,hc2⟩
  ·unfold iP
   rw[h1 x (by simp),M.aa,if_pos rfl,e,M.aa,fU (decide_eq_true (by rw[zL];omega)),M.aa,e2]
   simp
  ·rcases List.mem_cons.mp hz with rfl | hz
   ·exact hy
   ·exact hp z hz
theorem DC{mt:T→C→M Bool}{me:T→C→M (U×C)}(I:C→Prop)(P:U→Prop){l:List T}{c:C}(hc:I c)(h1:∀ x∈l,∀ c,mt x c=.ok true)(h2:∀ x∈l,∀ c,I c→∃ y c',me x c=.ok (y,c')∧P y∧I c')(hl:l.length≤16777216):∃ r c',jr mt me l c=.ok (r,c')∧r.length=l.length∧(∀ y∈r,P y)∧I c':=by
 obtain⟨r,c',e,h3,h4,h5⟩:=yc I P l [] c hc h1 h2 (by simpa using hl)
 exact⟨r,c',by unfold jr;rw[e];simp,h3,h4,h5⟩
theorem sE{t:C→M Bool}{f:C→M C}{n:Nat}{c c':C}(h1:t c=.ok true)(h2:f c=.ok c'):ou t f (n+1) c=ou t f n c':=by
 show(t c).bind _=_
 rw[h1,M.aa,if_pos rfl,h2,M.aa]
theorem uU{t:C→M Bool}{f:C→M C}{n:Nat}{c:C}(h1:t c=.ok false):ou t f (n+1) c=.ok c:=by
 show(t c).bind _=_
 rw[h1,M.aa,if_neg (by simp)]
theorem DP{l:List T}(h:l≠[]):∃ y,y∈l∧xp l=.ok (y,l.dropLast):=by
 have hl:l.length- 1<l.length:=by have:=List.length_pos_iff.mpr h;omega
 refine⟨l[l.length- 1],List.getElem_mem hl,?_⟩
 unfold xp
 rw[List.getElem?_eq_getElem hl]
def Sat(m:M T)(P:T→Prop):Prop:=∃ v,m=.ok v∧P v
theorem aG{v:T}{P:T→Prop}(h:P v):Sat (.ok v) P:=⟨v,rfl,h⟩
theorem aq{m:M T}{k:T→M U}{P:T→Prop}{Q:U→Prop}(h:Sat m P)(hk:∀ v,P v→Sat (k v) Q):Sat (m.bind k) Q:=by
 obtain⟨v,e,p⟩:=h
 rw[e,M.aa]
 exact hk v p
theorem fQ{m:M T}{P:T→Prop}(h:Sat m P):Sat (nox m) P:=by
 obtain⟨v,e,p⟩:=h
 exact⟨v,by rw[e];rfl,p⟩
theorem l9{m:M T}{P Q:T→Prop}(h:Sat m P)(w:∀ v,P v→Q v):Sat m Q:=by
 obtain⟨v,e,p⟩:=h
 exact⟨v,e,w v p⟩
theorem gG{c:Prop}[Decidable c]{m1 m2:M T}{P:T→Prop}(h1:c→Sat m1 P)(h2:¬c→Sat m2 P):Sat (if c then m1 else m2) P:=by
 by_cases h:c
 ·rw[if_pos h];exact h1 h
 ·rw[if_neg h];exact h2 h
theorem BV{f:C→T→M C}(I:Nat→C→Prop){l:List T}{c:C}(h0:I 0 c)(h:∀ n c x,x∈l→n<l.length→I n c→Sat (f c x) (I (n+1))):Sat (foldM f c l) (I l.length):=by
 have key:∀ (m:List T) (n:Nat) (c:C),(∀ x∈m,x∈l)→n+m.length=l.length→I n c→Sat (foldM f c m) (I l.length):=by
  intro m
  induction m with
  | nil=>intro n c _ hn i;exact aG (by simpa [←hn]using i)
  | cons x m ih=>
   intro n c hx hn i
   rw[j8]
   simp only[List.length_cons]at hn
   exact aq (h n c x (hx x (by simp)) (by omega) i) fun c' i'=>ih (n+1) c' (fun y hy=>hx y (by simp[hy])) (by omega) i'
 exact key l 0 c (fun _ h=>h) (by simp) h0
theorem eU{l:List T}{i:Int}{P:T→Prop}(h0:0≤i)(h:i<l.length)(hp:∀ a∈l,P a):Sat (dB l i) P:=by
 obtain⟨a,ha,e⟩:=EJ h0 h
 exact⟨a,e,hp a ha⟩
theorem Au{l:List T}{i:Int}{P:T→Prop}(hl:0<l.length)(hp:∀ a∈l,P a):Sat (dB l (i%(l.length:Int))) P:=
 eU (Int.emod_nonneg _ (by omega)) (Int.emod_lt_of_pos _ (by omega)) hp
theorem vS{mt:T→C→M Bool}{me:T→C→M (U×C)}(I:C→Prop)(P:U→Prop){l:List T}{c:C}(hc:I c)(h1:∀ x∈l,∀ c,mt x c=.ok true)(h2:∀ x∈l,∀ c,I c→Sat (me x c) fun r=>P r.1∧I r.2)(hl:l.length≤16777216):Sat (jr mt me l c) fun r=>r.1.length=l.length∧(∀ y∈r.1,P y)∧I r.2:=by
 obtain⟨r,c',e,h⟩:=DC I P hc h1 (fun x hx c hc=>by
  obtain⟨v,e,h⟩:=h2 x hx c hc
  exact⟨v.1,v.2,e,h⟩) hl
 exact⟨(r,c'),e,h⟩
theorem DJ{n:Nat}{x:Int}(h:x∈(List.range n).map fun(i:Nat)=>(i:Int)):0≤x∧x<n:=by
 obtain⟨i,hi,rfl⟩:=List.mem_map.mp h
 have:=List.mem_range.mp hi
 omega
theorem yV{n k:Nat}(h:n<2^k)(hk:0<k):n.log2<k:=by
 by_cases h0:n=0
 ·subst h0;simpa using hk
 ·exact(Nat.log2_lt h0).mpr h
theorem kE{a b:Int}(k j:Nat)(ha:a.natAbs<2^k)(hb:b.natAbs<2^j)(h:k+j≤1000000)(hk:0<k)(hj:0<j):mulM a b=.ok (a*b):=by
 have:=yV ha hk
 have:=yV hb hj
 exact DZ (by omega)
end
end Vw
namespace Vw
open PySem L2
section
variable{T A:Type}{R:List Ob→Prop}{p:Pt}{σ:List Ob}{i j:Nat}
theorem sh{α:Type}{f:State→Res α}{m m':M T}{post:T→α×Pt×List Ob}(h:Ev R p σ f m post)(e:m=m'):Ev R p σ f m' post:=e▸h
theorem zG{w:Bool}{t:State→Res Bool}{As Bs rest:List (State→Res Fl)}{m:M T}{post:T→OutS}(ht:Ev R p σ t (.ok false) (pB p σ))(h:Sg w R p σ (av (Bs++rest)) m post):Sg w R p σ (av (dW t (av As) (av Bs)::rest)) m post:=
 gE (mA:=.bad) (mB:=m) ht (fun _ _=>trivial) h
theorem Hw{w:Bool}{t:State→Res Bool}{As Bs rest:List (State→Res Fl)}{m:M T}{post:T→OutS}(ht:Ev R p σ t (.ok true) (pB p σ))(h:Sg w R p σ (av (As++rest)) m post):Sg w R p σ (av (dW t (av As) (av Bs)::rest)) m post:=
 gE (mA:=m) (mB:=.bad) ht h (fun _ _=>trivial)
end
end Vw
namespace Vw
open PySem L2
end Vw
namespace Vw
open PySem L2
section
variable{R:List Ob→Prop}{p:Pt}{σ:List Ob}{A B T U:Type}{i j n:Nat}
theorem AR{f:Val→Option D}(hf:∀ d,f (.d d)=some d){e:A→D}:∀ l:List A,kM f (l.map fun x=>.d (e x))=some (l.map e)
 | []=>rfl
 | x::l=>by
  rw[List.map_cons]
  unfold kM
  rw[hf,AR hf l]
  rfl
theorem zK{k:Nat}{s:State}(d:D):frz k s (.d d)=some d:=by cases k<;> rfl
theorem EV{e:A→D}{l:List A}{k:Nat}{sg:Slots}(h:σ[n]? =some (oL e l)):frz (k+1) ⟨sg,σ⟩ (.r n)=some (eL e l):=by
 show(match σ[n]? with
   | some o=>ye (frz k ⟨sg,σ⟩) o
   | none=>none)=_
 rw[h]
 show(kM (frz k ⟨sg,σ⟩) (l.map fun x=>.d (e x))).map D.lst=_
 rw[AR (fun d=>zK d)]
 rfl
theorem E2{l:List D}:Ev R p σ (gk [.val (.d (.tup l))]) (.ok (l.length:Int)) (pD .int p σ):=Ev.at (r:=fun v=>RV.val (Val.d (D.int v))) fun sg hf=>by
 show(match sq ⟨sg,σ⟩ (.val (.d (.tup l)))with
   | some l=>a0 (.int l.length) ⟨sg,σ⟩
   | none=>Res.stuck)=_
 have:sq ⟨sg,σ⟩ (.val (.d (.tup l)))=some (l.map Val.d):=rfl
 rw[this]
 show a0 (.int ((l.map Val.d).length:Nat)) _=_
 rw[List.length_map]
 rfl
end
end Vw
namespace Vw
open PySem L2
def xx:D→M Int
 | .lst l=>.ok l.length
 | .tup l=>.ok l.length
 | _=>.bad
section
variable{R:List Ob→Prop}{p:Pt}{σ:List Ob}{A B T U:Type}{i j n:Nat}
theorem FE{l:List D}:Ev R p σ (gk [.val (.d (.lst l))]) (.ok (l.length:Int)) (pD .int p σ):=Ev.at (r:=fun v=>RV.val (Val.d (D.int v))) fun sg hf=>by
 show(match sq ⟨sg,σ⟩ (.val (.d (.lst l)))with
   | some l=>a0 (.int l.length) ⟨sg,σ⟩
   | none=>Res.stuck)=_
 have:sq ⟨sg,σ⟩ (.val (.d (.lst l)))=some (l.map Val.d):=rfl
 rw[this]
 show a0 (.int ((l.map Val.d).length:Nat)) _=_
 rw[List.length_map]
 rfl
theorem Cu{d:D}:Ev R p σ (gk [.val (.d d)]) (xx d) (pD .int p σ):=by
 cases d with
 | lst l=>exact FE
 | tup l=>exact E2
 | _=>exact fun _ _=>trivial
theorem EB{l:List (List Nat×List Nat)}(h:(l.map (·.1)).Nodup∧l.length≤15):Ev R p σ (t2 (l.map fun q=>(K0.s q.1,D.str q.2))) (.ok l) (fun v=>(.new (k4 D.str v),p,σ)):=fun sg hf=>by
 refine⟨sg,?_,hf⟩
 have h1:((l.map fun q=>(K0.s q.1,D.str q.2)).map (·.1)).Nodup:=by
  rw[List.map_map]
  have:((fun x:K0×D=>x.1)∘fun q:List Nat×List Nat=>(K0.s q.1,D.str q.2))=K0.s∘fun q:List Nat×List Nat=>q.1:=rfl
  rw[this,←List.map_map]
  exact List.Pairwise.map _ (fun a b h e=>h (by cases e;rfl)) h.1
 have h2:(l.map fun q=>(K0.s q.1,D.str q.2)).all (fun p=>wo p.2)=true:=by
  rw[List.all_eq_true]
  intro x hx
  obtain⟨q,_,rfl⟩:=List.mem_map.mp hx
  rfl
 unfold t2
 rw[if_pos ⟨h1,h2,by rw[List.length_map];exact h.2⟩,List.map_map]
 rfl
end
end Vw
namespace Vw
open PySem L2
end Vw
namespace Vw
open PySem L2 PyProof.Rows
end Vw
namespace Vw
open PySem L2 PyProof.Rows
end Vw
namespace Vw
open PySem L2 PyProof.Rows
end Vw
namespace Vw
open PySem L2 PyProof.Rows
end Vw
namespace Vw
open PySem L2 PyProof.Rows
end Vw
namespace Vw
open PySem L2 PyProof.Rows
theorem wk{p q:Pt}(h:gb p q:=by(repeat' (first | exact trivial | refine And.intro rfl ?_))):gb p q:=h
section
variable{R:List Ob→Prop}{p:Pt}{σ:List Ob}{A B T U C:Type}{i:Nat}
theorem rv(a:T)(e:T→D)(h:p[i]? =some (some (.v (.d (e a))))):Ev R p σ (ev (ab i)) (.ok a) (fun v=>(.val (.d (e v)),p,σ)):=sv (aw h)
theorem Ku{f:State→Res RV}{m:M (List T)}{e:T→D}{P:List T→Pt}{S:List T→List Ob}(h:Ev R p σ f m (fun v=>(.new (oL e v),P v,S v))):Ev R p σ (ev f) m (fun v=>(.val (.d (eL e v)),P v,S v)):=sn h (fun v=>dr _ v)
theorem nl(e:T→D):Ev R p σ (ev (eX [])) (.ok ([]:List T)) (fun v=>(.val (.d (eL e v)),p,σ)):=Ku (Ev.dO (post2:=(pN (oL e) _ _)) (de (l:=fun _=>([]:List T)) (e:=e) ak (fun _=>.nil) (fun _=>rfl) (fun _=>rfl)) rfl)
end
end Vw
namespace Vw
open PySem L2 PyProof.Rows
end Vw
namespace Vw
open PySem L2 PyProof.Rows
end Vw
namespace Vw
open PySem L2 PyProof.Rows
end Vw
namespace Vw
open PySem L2
end Vw
namespace Vw
open PySem L2
end Vw
namespace Vw
open PySem L2 PyProof.Rows
def uC(t:List Nat):M Int:=match xA t with
 | some a=>.ok a
 | none=>.bad
section
variable{R:List Ob→Prop}{p p':Pt}{σ σ':List Ob}
theorem Cb{t:List Nat}:Ev R p σ (tM [.val (.d (.str t))]) (uC t) (pD .int p σ):=by
 unfold uC
 intro sg hf
 cases e:xA t with
 | none=>trivial
 | some n=>
  refine⟨sg,?_,hf⟩
  show(match xA t with | some n=>a0 (.int n) _ | none=>.stuck)=_
  rw[e]
  rfl
end
end Vw
namespace K81
open PySem L2 PyProof.Rows Vw
abbrev hI:List Nat×Int→Ob:=fun a=>.ins "AskReader" [("line",.d (.str a.1)),("at",.d (.int a.2))]
def cM(aj:List Nat×Int)(kX:Bool):M Unit:=(if(!kX)=true then(M.exc ⟨"NoText",none⟩)else(M.ok ()))
theorem gc{R:List Ob→Prop}{σ:List Ob}{n:Nat}{aj:List Nat×Int}{kX:Bool}(hk:σ[n]? =some (hI aj))(hR:R σ):fw R eG [.r n,.d (D.bl kX)] σ (cM aj kX) (fun v=>(.val (.d (eN v)),σ)):=(E1 (P:=fun _=>[none,none]) (gE (t5 (ib (sv (aw (a:=kX) (e:=D.bl) rfl)))) (bL (Dc hR)) (lx (p':=[none,none]) rfl (by(repeat' (first | exact trivial | refine And.intro rfl ?_))))) (fun _=>rfl))
def ao(aj:List Nat×Int)(cz:List Nat):M Bool:=(((M.ok aj.2).bind fun l2=>((nT cz).bind fun a1=>M.ok (aj.2+a1)).bind fun h3=>i8 aj.1 (some l2) (some h3)).bind fun a4=>M.ok (eqB a4 cz)).bind fun v5=>M.ok (v5)
theorem bH{R:List Ob→Prop}{σ:List Ob}{n:Nat}{aj:List Nat×Int}{cz:List Nat}(hk:σ[n]? =some (hI aj)):fw R aW [.r n,.d (D.str cz)] σ (ao aj cz) (fun v=>(.val (.d (D.bl v)),σ)):=(gB (bL (eB (φ:=fun v5=>v5) (cP (sv (G8 (lo':=some) (hi':=some) (mk:=(fun l h=>i8 aj.1 l h)) (sv (iz (i:=0) (a:=aj.1) (e:=fun v=>.d (D.str v)) rfl hk rfl rfl)) (pe (sv (iz (i:=0) (a:=aj.2) (e:=fun v=>.d (D.int v)) rfl hk rfl rfl))) (pe (sv (dF (sv (iz (i:=0) (a:=aj.2) (e:=fun v=>.d (D.int v)) rfl hk rfl rfl)) (sv (fF (ae (sv (aw (a:=cz) (e:=D.str) rfl)) ak) tU)) fun a1=>gW))) (fun _ _=>lB))) (fun a4=>(sv (aw (a:=cz) (e:=D.str) rfl))) fun a4=>(fq cn cn qS (by decide))) fun _=>rfl)))
def au(aj:List Nat×Int)(cz:List Nat):M (Unit×(List Nat×Int)):=(((nox (ao aj cz)).bind fun a1=>(M.ok ()).bind fun w2=>M.ok (a1,w2)).bind fun z3=>cM aj z3.1).bind fun u4=>((nT cz).bind fun a5=>M.ok (aj.1,(aj.2+a5))).bind fun d6=>M.ok ((),d6)
theorem bE{R:List Ob→Prop}{S:(List Nat×Int)→List Ob}{n:Nat}(hr:∀ d,(S d)[n]? =some (hI d))(hw:∀ d d',(S d).set n (hI d')=S d')(hR:∀ d,R (S d)){aj:List Nat×Int}{cz:List Nat}:fw R aZ [.r n,.d (D.str cz)] (S aj) (au aj cz) (fun v=>(.val (.d (eN v.1)),S v.2)):=(E1 (P:=fun _=>[none,none]) (aP (fun u4=>[some (.v (.r n)),some (.v (.d (D.str cz)))]) (hJ (jG (post:=(pD eN _ _)) (sv (cW (a:=aj) rfl)) (aR (hr _) rfl) (aJ (sv (fP (R':=R) (post:=(pD D.bl _ _)) (sv (cW (a:=aj) rfl)) (aR (hr _) rfl) (ae (sv (aw (a:=cz) (e:=D.str) rfl)) ak) (.d .nil) rfl (bH (aj:=aj) (cz:=cz) (hr _) ) (fun _=>rfl))) fun a1=>ak) (fun _=>(.d .nil)) (fun _=>rfl) (fun z3=>(gc (aj:=aj) (kX:=z3.1) (hr _) (hR _))) (fun _ _=>rfl))) (fun _=>rfl) fun u4=>(aP (fun d6=>[some (.v (.r n)),some (.v (.d (D.str cz)))]) (AY (φ:=fun a5=>(aj.1,(aj.2+a5))) (S:=S) (a:=aj.2) rfl rfl (hr _) rfl rfl (sv (fF (ae (sv (aw (a:=cz) (e:=D.str) rfl)) ak) tU)) (fun a5=>hw _ (aj.1,(aj.2+a5)))) (fun _=>rfl) fun d6=>(lx (p':=[none,none]) rfl (by(repeat' (first | exact trivial | refine And.intro rfl ?_)))))) (fun _=>rfl))
def aL(aj:List Nat×Int)(fM:List Nat)(gO:Int):M (List Nat×(List Nat×Int)):=(ou (fun(c1:List Nat×Int)=>andM ((nT c1.1).bind fun a2=>M.ok (decide (c1.2<a2))) ((lJ c1.1 c1.2).bind fun a3=>M.ok (subIn a3 fM))) (fun(c1:List Nat×Int)=>((M.ok (1:Int)).bind fun a4=>M.ok (c1.1,(c1.2+a4))).bind fun d5=>M.ok d5) jl aj).bind fun r6=>(cM r6 (decide ((0:Int)<(r6.2-aj.2))&&decide ((r6.2-aj.2)≤gO))).bind fun u7=>(i8 r6.1 (some aj.2) (some r6.2)).bind fun v8=>M.ok ((v8,r6))
theorem dY{R:List Ob→Prop}{S:(List Nat×Int)→List Ob}{n:Nat}(hr:∀ d,(S d)[n]? =some (hI d))(hw:∀ d d',(S d).set n (hI d')=S d')(hR:∀ d,R (S d)){aj:List Nat×Int}{fM:List Nat}{gO:Int}:fw R df [.r n,.d (D.str fM),.d (D.int gO)] (S aj) (aL aj fM gO) (fun v=>(.val (.d (D.str v.1)),S v.2)):=(gB (mG [some (.v (.r n)),some (.v (.d (D.str fM))),some (.v (.d (D.int gO))),some (.v (.d (D.int aj.2)))] (e9 (iz (i:=0) (a:=aj.2) (e:=fun v=>.d (D.int v)) rfl (hr _) rfl rfl)) rfl (p5 (Bj (P:=fun(c1:List Nat×Int)=>[some (.v (.r n)),some (.v (.d (D.str fM))),some (.v (.d (D.int gO))),some (.v (.d (D.int aj.2)))]) (S:=fun(c1:List Nat×Int)=>S c1) (c0:=aj) (mt:=(fun(c1:List Nat×Int)=>andM ((nT c1.1).bind fun a2=>M.ok (decide (c1.2<a2))) ((lJ c1.1 c1.2).bind fun a3=>M.ok (subIn a3 fM)))) (mb:=(fun(c1:List Nat×Int)=>((M.ok (1:Int)).bind fun a4=>M.ok (c1.1,(c1.2+a4))).bind fun d5=>M.ok d5)) (by(repeat' (first | exact trivial | refine And.intro rfl ?_))) rfl (fun c1=>(zQ (tB (b:=fun v=>v) (sv (dF (sv (iz (i:=0) (a:=c1.2) (e:=fun v=>.d (D.int v)) rfl (hr _) rfl rfl)) (sv (fF (ae (sv (iz (i:=0) (a:=c1.1) (e:=fun v=>.d (D.str v)) rfl (hr _) rfl rfl)) ak) tU)) fun a2=>uQ))) (xY (tB (b:=fun v=>v) (sv (cP (sv (ax (sv (iz (i:=0) (a:=c1.1) (e:=fun v=>.d (D.str v)) rfl (hr _) rfl rfl)) (sv (iz (i:=0) (a:=c1.2) (e:=fun v=>.d (D.int v)) rfl (hr _) rfl rfl)) zV)) (fun a3=>(sv (aw (a:=fM) (e:=D.str) rfl))) fun a3=>wL)))))) (fun c1=>(aP (fun d5=>[some (.v (.r n)),some (.v (.d (D.str fM))),some (.v (.d (D.int gO))),some (.v (.d (D.int aj.2)))]) (AY (φ:=fun a4=>(c1.1,(c1.2+a4))) (S:=S) (a:=c1.2) rfl rfl (hr _) rfl rfl (sv (cD D.int (1:Int))) (fun a4=>hw _ (c1.1,(c1.2+a4)))) (fun _=>rfl) fun d5=>(uH rfl (by(repeat' (first | exact trivial | refine And.intro rfl ?_))))))) fun r6=>(aP (fun u7=>[some (.v (.r n)),some (.v (.d (D.str fM))),some (.v (.d (D.int gO))),some (.v (.d (D.int aj.2)))]) (hJ (cN (post:=(pD eN _ _)) (sv (cW (a:=r6) rfl)) (aR (hr _) rfl) (ae (sv (J6 (sv (cD D.int (0:Int))) (sv (ax (sv (iz (i:=0) (a:=r6.2) (e:=fun v=>.d (D.int v)) rfl (hr _) rfl rfl)) (sv (aw (a:=aj.2) (e:=D.int) rfl)) oF)) (sv (aw (a:=gO) (e:=D.int) rfl)) uQ E5)) ak) (.d .nil) rfl (gc (aj:=r6) (kX:=(decide ((0:Int)<(r6.2-aj.2))&&decide ((r6.2-aj.2)≤gO))) (hr _) (hR _)) (fun _=>rfl))) (fun _=>rfl) fun u7=>(bL (eB (φ:=fun v8=>(v8,r6)) (jq (sv (iz (i:=0) (a:=r6.1) (e:=fun v=>.d (D.str v)) rfl (hr _) rfl rfl)) (pe (sv (aw (a:=aj.2) (e:=D.int) rfl))) (pe (sv (iz (i:=0) (a:=r6.2) (e:=fun v=>.d (D.int v)) rfl (hr _) rfl rfl))) lB) fun _=>rfl))))))
def c9(aj:List Nat×Int)(end_:List Nat):M ((List (List Nat))×(List Nat×Int)):=(((((aO (sS "abcdefghijklmnopqrstuvwxyz") (sS "0123456789")).bind fun a1=>(M.ok ()).bind fun w2=>M.ok (a1,w2)).bind fun z3=>aL aj z3.1 (40:Int)).bind fun a4=>(M.ok ()).bind fun w5=>M.ok (a4,w5)).bind fun z6=>M.ok ([z6.1.1],z6.1.2)).bind fun m3=>(ou (fun(c8:(List (List Nat))×(List Nat×Int))=>(nox (ao c8.2 end_)).bind fun v=>M.ok (!v)) (fun(c8:(List (List Nat))×(List Nat×Int))=>(au c8.2 (sS " ")).bind fun u9=>(((((aO (sS "abcdefghijklmnopqrstuvwxyz") (sS "0123456789")).bind fun a10=>(M.ok ()).bind fun w11=>M.ok (a10,w11)).bind fun z12=>aL u9.2 z12.1 (40:Int)).bind fun a13=>(M.ok ()).bind fun w14=>M.ok (a13,w14)).bind fun z15=>(i7 c8.1 z15.1.1).bind fun v=>M.ok (v,z15.1.2)).bind fun dJ=>M.ok (dJ.1,dJ.2)) jl (m3.1,m3.2)).bind fun r17=>(au r17.2 end_).bind fun u18=>(cM u18.2 (decide ((r17.1.length:Int)≤(6:Int)))).bind fun u19=>M.ok ((r17.1,u18.2))
theorem iR{R:List Ob→Prop}{S:(List Nat×Int)→List Ob}{n:Nat}(hr:∀ d,(S d)[n]? =some (hI d))(hw:∀ d d',(S d).set n (hI d')=S d')(hR:∀ d,R (S d)){aj:List Nat×Int}{end_:List Nat}:fw R fH [.r n,.d (D.str end_)] (S aj) (c9 aj end_) (fun v=>(.new ((oL D.str) v.1),S v.2)):=(gB (aP (fun m3=>[some (.v (.r n)),some (.v (.d (D.str end_))),some (.own ((oL D.str) m3.1))]) (nC (Ev.map (fun(z6:(List Nat×(List Nat×Int))×Unit)=>([z6.1.1],z6.1.2)) (yv (oL D.str) _ S) (de (l:=fun z6=>([z6.1.1]:List (List Nat))) (e:=D.str) (aJ (sv (jG (post:=(pE D.str _ S)) (sv (cW (a:=aj) rfl)) (aR (hr _) rfl) (aJ (sv (ax (sv (cD D.str (sS "abcdefghijklmnopqrstuvwxyz"))) (sv (cD D.str (sS "0123456789"))) aX)) fun a1=>(ae (sv (cD D.int (40:Int))) ak)) (fun _=>(.d (.d .nil))) (fun _=>rfl) (fun z3=>(dY (aj:=aj) (fM:=z3.1) (gO:=(40:Int)) hr hw hR)) (fun _ _=>rfl))) fun a4=>ak) (fun _=>(.d .nil)) (fun _=>rfl) (fun _=>rfl)) fun _=>rfl)) (fun _=>rfl) fun m3=>(p5 (Bj (P:=fun(c8:(List (List Nat))×(List Nat×Int))=>[some (.v (.r n)),some (.v (.d (D.str end_))),some (.own ((oL D.str) c8.1))]) (S:=fun(c8:(List (List Nat))×(List Nat×Int))=>S c8.2) (c0:=(m3.1,m3.2)) (mt:=(fun(c8:(List (List Nat))×(List Nat×Int))=>(nox (ao c8.2 end_)).bind fun v=>M.ok (!v))) (mb:=(fun(c8:(List (List Nat))×(List Nat×Int))=>(au c8.2 (sS " ")).bind fun u9=>(((((aO (sS "abcdefghijklmnopqrstuvwxyz") (sS "0123456789")).bind fun a10=>(M.ok ()).bind fun w11=>M.ok (a10,w11)).bind fun z12=>aL u9.2 z12.1 (40:Int)).bind fun a13=>(M.ok ()).bind fun w14=>M.ok (a13,w14)).bind fun z15=>(i7 c8.1 z15.1.1).bind fun v=>M.ok (v,z15.1.2)).bind fun dJ=>M.ok (dJ.1,dJ.2))) (by(repeat' (first | exact trivial | refine And.intro rfl ?_))) rfl (fun c8=>(AJ (tB (b:=fun v=>v) (sv (fP (R':=R) (post:=(pD D.bl _ _)) (sv (cW (a:=c8.2) rfl)) (aR (hr _) rfl) (ae (sv (aw (a:=end_) (e:=D.str) rfl)) ak) (.d .nil) rfl (bH (aj:=c8.2) (cz:=end_) (hr _) ) (fun _=>rfl)))))) (fun c8=>(aP (fun u9=>[some (.v (.r n)),some (.v (.d (D.str end_))),some (.own ((oL D.str) c8.1))]) (hJ (cN (post:=(pE eN _ S)) (sv (cW (a:=c8.2) rfl)) (aR (hr _) rfl) (ae (sv (cD D.str (sS " "))) ak) (.d .nil) rfl (bE (aj:=c8.2) (cz:=(sS " ")) hr hw hR) (fun _=>rfl))) (fun _=>rfl) fun u9=>(aP (fun dJ=>[some (.v (.r n)),some (.v (.d (D.str end_))),some (.own ((oL D.str) dJ.1))]) (hJ (wj (ic (ia (a:=c8.1) rfl)) (fun _ hf=>vh (jX rfl) hf) (aJ (sv (jG (post:=(pE D.str _ S)) (sv (cW (a:=u9.2) rfl)) (aR (hr _) rfl) (aJ (sv (ax (sv (cD D.str (sS "abcdefghijklmnopqrstuvwxyz"))) (sv (cD D.str (sS "0123456789"))) aX)) fun a10=>(ae (sv (cD D.int (40:Int))) ak)) (fun _=>(.d (.d .nil))) (fun _=>rfl) (fun z12=>(dY (aj:=u9.2) (fM:=z12.1) (gO:=(40:Int)) hr hw hR)) (fun _ _=>rfl))) fun a13=>ak) fun z15=>(Ev.map (fun v=>(v,z15.1.2)) (FW 2 (oL D.str) _ S) (wx rfl) fun _=>rfl))) (fun _=>rfl) fun dJ=>(uH rfl (by(repeat' (first | exact trivial | refine And.intro rfl ?_)))))))) fun r17=>(aP (fun u18=>[some (.v (.r n)),some (.v (.d (D.str end_))),some (.own ((oL D.str) r17.1))]) (hJ (cN (post:=(pE eN _ S)) (sv (cW (a:=r17.2) rfl)) (aR (hr _) rfl) (ae (sv (aw (a:=end_) (e:=D.str) rfl)) ak) (.d .nil) rfl (bE (aj:=r17.2) (cz:=end_) hr hw hR) (fun _=>rfl))) (fun _=>rfl) fun u18=>(aP (fun u19=>[some (.v (.r n)),some (.v (.d (D.str end_))),some (.own ((oL D.str) r17.1))]) (hJ (cN (post:=(pD eN _ _)) (sv (cW (a:=u18.2) rfl)) (aR (hr _) rfl) (ae (sv (ax (sv (fF (ae (ic (ia (a:=r17.1) rfl)) ak) (lQ (jX rfl)))) (sv (cD D.int (6:Int))) E5)) ak) (.d .nil) rfl (gc (aj:=u18.2) (kX:=(decide ((r17.1.length:Int)≤(6:Int)))) (hr _) (hR _)) (fun _=>rfl))) (fun _=>rfl) fun u19=>(bL (Kt rfl rfl)))))))
def eo(aj:List Nat×Int)(dA:List Nat):M (D×(List Nat×Int)):=(nox (ao aj (sS "\""))).bind fun b1=>if b1=true then((au aj (sS "\"")).bind fun u2=>((((c9 u2.2 (sS "\"")).bind fun v=>M.ok ((eL D.str) v.1,v.2)).bind fun a3=>(M.ok ()).bind fun w4=>M.ok (a3,w4)).bind fun z5=>M.ok ((D.tup [(D.str (sS "row")),(D.str dA),z5.1.1]),z5.1.2)).bind fun v6=>M.ok (v6))else((nox (ao aj (sS "~"))).bind fun b7=>if b7=true then((au aj (sS "~")).bind fun u8=>((((((aO (sS "abcdefghijklmnopqrstuvwxyz") (sS "0123456789")).bind fun a9=>(M.ok ()).bind fun w10=>M.ok (a9,w10)).bind fun z11=>aL u8.2 z11.1 (40:Int)).bind fun v=>M.ok (D.str v.1,v.2)).bind fun a12=>(M.ok ()).bind fun w13=>M.ok (a12,w13)).bind fun z14=>M.ok ((D.tup [(D.str (sS "like")),(D.str dA),z14.1.1]),z14.1.2)).bind fun v15=>M.ok (v15))else(((((aO (sS "abcdefghijklmnopqrstuvwxyz") (sS "0123456789")).bind fun a16=>aO a16 (sS "?*")).bind fun a17=>(M.ok ()).bind fun w18=>M.ok (a17,w18)).bind fun z19=>aL aj z19.1 (40:Int)).bind fun row20=>(orM (nox (ao row20.2 (sS "<"))) (nox (ao row20.2 (sS "[")))).bind fun b21=>if b21=true then((((((jB (1:Int) (21:Int)).bind fun l24=>jm (fun(fX:Int)=>M.ok true) (fun(fX:Int)=>nV fX) l24).bind fun a25=>M.ok (uk row20.1 a25)).bind fun a26=>(M.ok ()).bind fun w27=>M.ok (a26,w27)).bind fun z28=>cM row20.2 z28.1).bind fun u29=>(nox (ao row20.2 (sS "<"))).bind fun b30=>if b30=true then((au row20.2 (sS "<")).bind fun u31=>((((uC row20.1).bind fun v=>M.ok (D.int v)).bind fun a32=>(((c9 u31.2 (sS ">")).bind fun v=>M.ok ((eL D.str) v.1,v.2)).bind fun a33=>(M.ok ()).bind fun w34=>M.ok (a33,w34)).bind fun w35=>M.ok (a32,w35)).bind fun z36=>M.ok ((D.tup [(D.str (sS "near")),(D.str dA),z36.1,z36.2.1.1]),z36.2.1.2)).bind fun v37=>M.ok (v37))else((au row20.2 (sS "[")).bind fun u38=>((((uC row20.1).bind fun v=>M.ok (D.int v)).bind fun a39=>(((c9 u38.2 (sS "]")).bind fun v=>M.ok ((eL D.str) v.1,v.2)).bind fun a40=>(M.ok ()).bind fun w41=>M.ok (a40,w41)).bind fun w42=>M.ok (a39,w42)).bind fun z43=>M.ok ((D.tup [(D.str (sS "chain")),(D.str dA),z43.1,z43.2.1.1]),z43.2.1.2)).bind fun v44=>M.ok (v44)))else((if((subIn (sS "?") row20.1)||(subIn (sS "*") row20.1))=true then(M.ok (((D.tup [(D.str (sS "like")),(D.str dA),(D.str row20.1)]),row20.2)))else(M.ok (((D.tup [(D.str (sS "word")),(D.str dA),(D.str row20.1)]),row20.2)))))))
theorem p6{R:List Ob→Prop}{S:(List Nat×Int)→List Ob}{n:Nat}(hr:∀ d,(S d)[n]? =some (hI d))(hw:∀ d d',(S d).set n (hI d')=S d')(hR:∀ d,R (S d)){aj:List Nat×Int}{dA:List Nat}:fw R iQ [.r n,.d (D.str dA)] (S aj) (eo aj dA) (fun v=>(.val (.d (eY v.1)),S v.2)):=(gB (gS (b:=fun v=>v) (tB (b:=fun v=>v) (sv (fP (R':=R) (post:=(pD D.bl _ _)) (sv (cW (a:=aj) rfl)) (aR (hr _) rfl) (ae (sv (cD D.str (sS "\""))) ak) (.d .nil) rfl (bH (aj:=aj) (cz:=(sS "\"")) (hr _) ) (fun _=>rfl)))) (fun b1=>(aP (fun u2=>[some (.v (.r n)),some (.v (.d (D.str dA))),none,none]) (hJ (cN (post:=(pE eN _ S)) (sv (cW (a:=aj) rfl)) (aR (hr _) rfl) (ae (sv (cD D.str (sS "\""))) ak) (.d .nil) rfl (bE (aj:=aj) (cz:=(sS "\"")) hr hw hR) (fun _=>rfl))) (fun _=>rfl) fun u2=>(bL (eB (φ:=fun v6=>v6) (Ev.map (fun(z5:(D×(List Nat×Int))×Unit)=>((D.tup [(D.str (sS "row")),(D.str dA),z5.1.1]),z5.1.2)) (pE eY _ S) (eA (ae (sv (toY (cD D.str (sS "row")))) (ae (sv (toY (aw (a:=dA) (e:=D.str) rfl))) (aJ (Ev.map (fun v=>((eL D.str) v.1,v.2)) (pE eY _ S) (sn (cN (post:=(yv (oL D.str) _ S)) (sv (cW (a:=u2.2) rfl)) (aR (hr _) rfl) (ae (sv (cD D.str (sS "\""))) ak) (.d .nil) rfl (iR (aj:=u2.2) (end_:=(sS "\"")) hr hw hR) (fun _=>rfl)) (fun v=>dr _ v.1)) fun _=>rfl) fun a3=>ak))) (fun _=>(.d (.d (.d .nil)))) (fun _=>rfl) (fun _=>rfl)) fun _=>rfl) fun _=>rfl)))) (fun b1=>(gS (b:=fun v=>v) (tB (b:=fun v=>v) (sv (fP (R':=R) (post:=(pD D.bl _ _)) (sv (cW (a:=aj) rfl)) (aR (hr _) rfl) (ae (sv (cD D.str (sS "~"))) ak) (.d .nil) rfl (bH (aj:=aj) (cz:=(sS "~")) (hr _) ) (fun _=>rfl)))) (fun b7=>(aP (fun u8=>[some (.v (.r n)),some (.v (.d (D.str dA))),none,none]) (hJ (cN (post:=(pE eN _ S)) (sv (cW (a:=aj) rfl)) (aR (hr _) rfl) (ae (sv (cD D.str (sS "~"))) ak) (.d .nil) rfl (bE (aj:=aj) (cz:=(sS "~")) hr hw hR) (fun _=>rfl))) (fun _=>rfl) fun u8=>(bL (eB (φ:=fun v15=>v15) (Ev.map (fun(z14:(D×(List Nat×Int))×Unit)=>((D.tup [(D.str (sS "like")),(D.str dA),z14.1.1]),z14.1.2)) (pE eY _ S) (eA (ae (sv (toY (cD D.str (sS "like")))) (ae (sv (toY (aw (a:=dA) (e:=D.str) rfl))) (aJ (sv (Ev.map (fun v=>(D.str v.1,v.2)) (pE eY _ S) (jG (post:=(pE D.str _ S)) (sv (cW (a:=u8.2) rfl)) (aR (hr _) rfl) (aJ (sv (ax (sv (cD D.str (sS "abcdefghijklmnopqrstuvwxyz"))) (sv (cD D.str (sS "0123456789"))) aX)) fun a9=>(ae (sv (cD D.int (40:Int))) ak)) (fun _=>(.d (.d .nil))) (fun _=>rfl) (fun z11=>(dY (aj:=u8.2) (fM:=z11.1) (gO:=(40:Int)) hr hw hR)) (fun _ _=>rfl)) fun _=>rfl)) fun a12=>ak))) (fun _=>(.d (.d (.d .nil)))) (fun _=>rfl) (fun _=>rfl)) fun _=>rfl) fun _=>rfl)))) (fun b7=>(aP (fun row20=>[some (.v (.r n)),some (.v (.d (D.str dA))),some (.v (.d (D.str row20.1))),none]) (e9 (jG (post:=(pE D.str _ S)) (sv (cW (a:=aj) rfl)) (aR (hr _) rfl) (aJ (sv (cP (sv (ax (sv (cD D.str (sS "abcdefghijklmnopqrstuvwxyz"))) (sv (cD D.str (sS "0123456789"))) aX)) (fun a16=>(sv (cD D.str (sS "?*")))) fun a16=>aX)) fun a17=>(ae (sv (cD D.int (40:Int))) ak)) (fun _=>(.d (.d .nil))) (fun _=>rfl) (fun z19=>(dY (aj:=aj) (fM:=z19.1) (gO:=(40:Int)) hr hw hR)) (fun _ _=>rfl))) (fun _=>rfl) fun row20=>(gS (b:=fun v=>v) (qk (tB (b:=fun v=>v) (sv (fP (R':=R) (post:=(pD D.bl _ _)) (sv (cW (a:=row20.2) rfl)) (aR (hr _) rfl) (ae (sv (cD D.str (sS "<"))) ak) (.d .nil) rfl (bH (aj:=row20.2) (cz:=(sS "<")) (hr _) ) (fun _=>rfl)))) (nI (tB (b:=fun v=>v) (sv (fP (R':=R) (post:=(pD D.bl _ _)) (sv (cW (a:=row20.2) rfl)) (aR (hr _) rfl) (ae (sv (cD D.str (sS "["))) ak) (.d .nil) rfl (bH (aj:=row20.2) (cz:=(sS "[")) (hr _) ) (fun _=>rfl)))))) (fun b21=>(aP (fun u29=>[some (.v (.r n)),some (.v (.d (D.str dA))),some (.v (.d (D.str row20.1))),none]) (hJ (jG (post:=(pD eN _ _)) (sv (cW (a:=row20.2) rfl)) (aR (hr _) rfl) (aJ (sv (dF (sv (aw (a:=row20.1) (e:=D.str) rfl)) (sn (zX (q:=[some (.v (.r n)),some (.v (.d (D.str dA))),some (.v (.d (D.str row20.1))),none]) (p2:=fun(fX:Int)=>[some (.v (.r n)),some (.v (.d (D.str dA))),some (.v (.d (D.str row20.1))),some (.v (.d (D.int fX)))]) (p3:=fun(fX:Int)=>[some (.v (.r n)),some (.v (.d (D.str dA))),some (.v (.d (D.str row20.1))),some (.v (.d (D.int fX)))]) (mt:=(fun(fX:Int)=>M.ok true)) (me:=(fun(fX:Int)=>nV fX)) (e:=D.str) (zC (ae (sv (cD D.int (1:Int))) (ae (sv (cD D.int (21:Int))) ak)) Ik) rfl (fun(fX:Int)=>⟨mT,mH,(sJ (fF (ae (sv (aw (a:=fX) (e:=D.int) rfl)) ak) wm))⟩) (fun _=>by(repeat' (first | exact trivial | refine And.intro rfl ?_))) (fun _=>by(repeat' (first | exact trivial | refine And.intro rfl ?_)))) (fun v=>dr _ v)) fun a25=>(IA cn dt qS (by decide)))) fun a26=>ak) (fun _=>(.d .nil)) (fun _=>rfl) (fun z28=>(gc (aj:=row20.2) (kX:=z28.1) (hr _) (hR _))) (fun _ _=>rfl))) (fun _=>rfl) fun u29=>(gS (b:=fun v=>v) (tB (b:=fun v=>v) (sv (fP (R':=R) (post:=(pD D.bl _ _)) (sv (cW (a:=row20.2) rfl)) (aR (hr _) rfl) (ae (sv (cD D.str (sS "<"))) ak) (.d .nil) rfl (bH (aj:=row20.2) (cz:=(sS "<")) (hr _) ) (fun _=>rfl)))) (fun b30=>(aP (fun u31=>[some (.v (.r n)),some (.v (.d (D.str dA))),some (.v (.d (D.str row20.1))),none]) (hJ (cN (post:=(pE eN _ S)) (sv (cW (a:=row20.2) rfl)) (aR (hr _) rfl) (ae (sv (cD D.str (sS "<"))) ak) (.d .nil) rfl (bE (aj:=row20.2) (cz:=(sS "<")) hr hw hR) (fun _=>rfl))) (fun _=>rfl) fun u31=>(bL (eB (φ:=fun v37=>v37) (Ev.map (fun(z36:D×((D×(List Nat×Int))×Unit))=>((D.tup [(D.str (sS "near")),(D.str dA),z36.1,z36.2.1.1]),z36.2.1.2)) (pE eY _ S) (eA (ae (sv (toY (cD D.str (sS "near")))) (ae (sv (toY (aw (a:=dA) (e:=D.str) rfl))) (aJ (sv (toY (fF (ae (sv (aw (a:=row20.1) (e:=D.str) rfl)) ak) Cb))) fun a32=>(aJ (Ev.map (fun v=>((eL D.str) v.1,v.2)) (pE eY _ S) (sn (cN (post:=(yv (oL D.str) _ S)) (sv (cW (a:=u31.2) rfl)) (aR (hr _) rfl) (ae (sv (cD D.str (sS ">"))) ak) (.d .nil) rfl (iR (aj:=u31.2) (end_:=(sS ">")) hr hw hR) (fun _=>rfl)) (fun v=>dr _ v.1)) fun _=>rfl) fun a33=>ak)))) (fun _=>(.d (.d (.d (.d .nil))))) (fun _=>rfl) (fun _=>rfl)) fun _=>rfl) fun _=>rfl)))) (fun b30=>(aP (fun u38=>[some (.v (.r n)),some (.v (.d (D.str dA))),some (.v (.d (D.str row20.1))),none]) (hJ (cN (post:=(pE eN _ S)) (sv (cW (a:=row20.2) rfl)) (aR (hr _) rfl) (ae (sv (cD D.str (sS "["))) ak) (.d .nil) rfl (bE (aj:=row20.2) (cz:=(sS "[")) hr hw hR) (fun _=>rfl))) (fun _=>rfl) fun u38=>(bL (eB (φ:=fun v44=>v44) (Ev.map (fun(z43:D×((D×(List Nat×Int))×Unit))=>((D.tup [(D.str (sS "chain")),(D.str dA),z43.1,z43.2.1.1]),z43.2.1.2)) (pE eY _ S) (eA (ae (sv (toY (cD D.str (sS "chain")))) (ae (sv (toY (aw (a:=dA) (e:=D.str) rfl))) (aJ (sv (toY (fF (ae (sv (aw (a:=row20.1) (e:=D.str) rfl)) ak) Cb))) fun a39=>(aJ (Ev.map (fun v=>((eL D.str) v.1,v.2)) (pE eY _ S) (sn (cN (post:=(yv (oL D.str) _ S)) (sv (cW (a:=u38.2) rfl)) (aR (hr _) rfl) (ae (sv (cD D.str (sS "]"))) ak) (.d .nil) rfl (iR (aj:=u38.2) (end_:=(sS "]")) hr hw hR) (fun _=>rfl)) (fun v=>dr _ v.1)) fun _=>rfl) fun a40=>ak)))) (fun _=>(.d (.d (.d (.d .nil))))) (fun _=>rfl) (fun _=>rfl)) fun _=>rfl) fun _=>rfl))))))) (fun b21=>(gE (Gi (ib (sv (ax (sv (cD D.str (sS "?"))) (sv (aw (a:=row20.1) (e:=D.str) rfl)) wL))) (nI (ib (sv (ax (sv (cD D.str (sS "*"))) (sv (aw (a:=row20.1) (e:=D.str) rfl)) wL))))) (bL (ub (Ev.dO (post2:=(pD eY _ _)) (eA (ae (sv (toY (cD D.str (sS "like")))) (ae (sv (toY (aw (a:=dA) (e:=D.str) rfl))) (ae (sv (toY (aw (a:=row20.1) (e:=D.str) rfl))) ak))) (fun _=>(.d (.d (.d .nil)))) (fun _=>rfl) (fun _=>rfl)) rfl) rfl)) (bL (ub (Ev.dO (post2:=(pD eY _ _)) (eA (ae (sv (toY (cD D.str (sS "word")))) (ae (sv (toY (aw (a:=dA) (e:=D.str) rfl))) (ae (sv (toY (aw (a:=row20.1) (e:=D.str) rfl))) ak))) (fun _=>(.d (.d (.d .nil)))) (fun _=>rfl) (fun _=>rfl)) rfl) rfl)))))))))))
def fk(recm:(List Nat×Int)→M (D×(List Nat×Int)))(aj:List Nat×Int):M (D×(List Nat×Int)):=(M.ok ([(sS "&",sS "both"),(sS "|",sS "one")]:List (List Nat×List Nat))).bind fun er=>(orM (nox (ao aj (sS "&"))) (nox (ao aj (sS "|")))).bind fun b2=>if b2=true then((aL aj (sS "&|") (1:Int)).bind fun fY=>(nox (ao fY.2 ((sS ")")))).bind fun b4=>if b4=true then((au fY.2 ((sS ")"))).bind fun u5=>((((sO er fY.1).bind fun v=>M.ok (D.str v)).bind fun a6=>(((M.ok ([]:List D)).bind fun v=>M.ok ((eL eY) v)).bind fun a7=>(M.ok ()).bind fun w8=>M.ok (a7,w8)).bind fun w9=>M.ok (a6,w9)).bind fun z10=>M.ok (D.tup [z10.1,z10.2.1])).bind fun v11=>M.ok ((v11,u5.2)))else((au fY.2 (sS " ")).bind fun u12=>(((recm u12.2).bind fun a13=>(M.ok ()).bind fun w14=>M.ok (a13,w14)).bind fun z15=>M.ok ([z15.1.1],z15.1.2)).bind fun dJ=>(au dJ.2 ((sS ")"))).bind fun u17=>((((sO er fY.1).bind fun v=>M.ok (D.str v)).bind fun a18=>(M.ok ()).bind fun w19=>M.ok (a18,w19)).bind fun z20=>M.ok (D.tup [z20.1,((eL eY) dJ.1)])).bind fun v21=>M.ok ((v21,u17.2))))else((((recm aj).bind fun a22=>(M.ok ()).bind fun w23=>M.ok (a22,w23)).bind fun z24=>M.ok ([z24.1.1],z24.1.2)).bind fun hQ=>(au hQ.2 (sS " ")).bind fun u26=>(aL u26.2 (sS "&|") (1:Int)).bind fun fN=>(au fN.2 (sS " ")).bind fun u28=>(((recm u28.2).bind fun a29=>(M.ok ()).bind fun w30=>M.ok (a29,w30)).bind fun z31=>(i7 hQ.1 z31.1.1).bind fun v=>M.ok (v,z31.1.2)).bind fun kT=>(ou (fun(c33:List D×(List Nat×Int))=>(nox (ao c33.2 ((sS ")")))).bind fun v=>M.ok (!v)) (fun(c33:List D×(List Nat×Int))=>((((aO (sS " ") fN.1).bind fun a34=>aO a34 (sS " ")).bind fun a35=>(M.ok ()).bind fun w36=>M.ok (a35,w36)).bind fun z37=>au c33.2 z37.1).bind fun u38=>(((recm u38.2).bind fun a39=>(M.ok ()).bind fun w40=>M.ok (a39,w40)).bind fun z41=>(i7 c33.1 z41.1.1).bind fun v=>M.ok (v,z41.1.2)).bind fun hU=>M.ok (hU.1,hU.2)) jl (kT.1,kT.2)).bind fun r43=>(au r43.2 ((sS ")"))).bind fun u44=>((((sO er fN.1).bind fun v=>M.ok (D.str v)).bind fun a45=>(M.ok ()).bind fun w46=>M.ok (a45,w46)).bind fun z47=>M.ok (D.tup [z47.1,((eL eY) r43.1)])).bind fun v48=>M.ok ((v48,u44.2)))
theorem rS{R:List Ob→Prop}{rec:Fn}{recm:(List Nat×Int)→M (D×(List Nat×Int))}{S:(List Nat×Int)→List Ob}{n:Nat}(srec:∀ {aj:List Nat×Int},fw R rec [.r n] (S aj) (recm aj) (fun v=>(.val (.d (eY v.1)),S v.2)))(hr:∀ d,(S d)[n]? =some (hI d))(hw:∀ d d',(S d).set n (hI d')=S d')(hR:∀ d,R (S d)){aj:List Nat×Int}:fw R (i6 rec) [.r n] (S aj) (fk recm aj) (fun v=>(.val (.d (eY v.1)),S v.2)):=(gB (aP (fun er=>[some (.v (.r n)),some (.own ((k4 D.str) er)),none,none]) (nC (EB (l:=([(sS "&",sS "both"),(sS "|",sS "one")]:List (List Nat×List Nat))) (by decide))) (fun _=>rfl) fun er=>(gS (b:=fun v=>v) (qk (tB (b:=fun v=>v) (sv (fP (R':=R) (post:=(pD D.bl _ _)) (sv (cW (a:=aj) rfl)) (aR (hr _) rfl) (ae (sv (cD D.str (sS "&"))) ak) (.d .nil) rfl (bH (aj:=aj) (cz:=(sS "&")) (hr _) ) (fun _=>rfl)))) (nI (tB (b:=fun v=>v) (sv (fP (R':=R) (post:=(pD D.bl _ _)) (sv (cW (a:=aj) rfl)) (aR (hr _) rfl) (ae (sv (cD D.str (sS "|"))) ak) (.d .nil) rfl (bH (aj:=aj) (cz:=(sS "|")) (hr _) ) (fun _=>rfl)))))) (fun b2=>(aP (fun fY=>[some (.v (.r n)),some (.own ((k4 D.str) er)),none,some (.v (.d (D.str fY.1)))]) (e9 (cN (post:=(pE D.str _ S)) (sv (cW (a:=aj) rfl)) (aR (hr _) rfl) (ae (sv (cD D.str (sS "&|"))) (ae (sv (cD D.int (1:Int))) ak)) (.d (.d .nil)) rfl (dY (aj:=aj) (fM:=(sS "&|")) (gO:=(1:Int)) hr hw hR) (fun _=>rfl))) (fun _=>rfl) fun fY=>(gS (b:=fun v=>v) (tB (b:=fun v=>v) (sv (fP (R':=R) (post:=(pD D.bl _ _)) (sv (cW (a:=fY.2) rfl)) (aR (hr _) rfl) (ae (sv (cD D.str ((sS ")")))) ak) (.d .nil) rfl (bH (aj:=fY.2) (cz:=(sS ")")) (hr _) ) (fun _=>rfl)))) (fun b4=>(aP (fun u5=>[some (.v (.r n)),some (.own ((k4 D.str) er)),none,some (.v (.d (D.str fY.1)))]) (hJ (cN (post:=(pE eN _ S)) (sv (cW (a:=fY.2) rfl)) (aR (hr _) rfl) (ae (sv (cD D.str ((sS ")")))) ak) (.d .nil) rfl (bE (aj:=fY.2) (cz:=(sS ")")) hr hw hR) (fun _=>rfl))) (fun _=>rfl) fun u5=>(bL (eB (φ:=fun v11=>(v11,u5.2)) (Ev.map (fun(z10:D×(D×Unit))=>(D.tup [z10.1,z10.2.1])) (pD eY _ _) (eA (aJ (sv (toY (ax (ic (ia (a:=er) rfl)) (sv (aw (a:=fY.1) (e:=D.str) rfl)) (zD (zH rfl))))) fun a6=>(aJ (toY (sn (Ev.dO (post2:=(pN (oL eY) _ _)) (de (l:=fun _=>([]:List D)) (e:=eY) ak (fun _=>.nil) (fun _=>rfl) (fun _=>rfl)) rfl) (fun v=>dr _ v))) fun a7=>ak)) (fun _=>(.d (.d .nil))) (fun _=>rfl) (fun _=>rfl)) fun _=>rfl) fun _=>rfl)))) (fun b4=>(aP (fun u12=>[some (.v (.r n)),some (.own ((k4 D.str) er)),none,some (.v (.d (D.str fY.1)))]) (hJ (cN (post:=(pE eN _ S)) (sv (cW (a:=fY.2) rfl)) (aR (hr _) rfl) (ae (sv (cD D.str (sS " "))) ak) (.d .nil) rfl (bE (aj:=fY.2) (cz:=(sS " ")) hr hw hR) (fun _=>rfl))) (fun _=>rfl) fun u12=>(aP (fun dJ=>[some (.v (.r n)),some (.own ((k4 D.str) er)),some (.own ((oL eY) dJ.1)),some (.v (.d (D.str fY.1)))]) (nC (Ev.map (fun(z15:(D×(List Nat×Int))×Unit)=>([z15.1.1],z15.1.2)) (yv (oL eY) _ S) (de (l:=fun z15=>([z15.1.1]:List D)) (e:=eY) (aJ (sv (cN (post:=(pE eY _ S)) (sv (cW (a:=u12.2) rfl)) (aR (hr _) rfl) ak .nil rfl (srec (aj:=u12.2)) (fun _=>rfl))) fun a13=>ak) (fun _=>(.d .nil)) (fun _=>rfl) (fun _=>rfl)) fun _=>rfl)) (fun _=>rfl) fun dJ=>(aP (fun u17=>[some (.v (.r n)),some (.own ((k4 D.str) er)),some (.own ((oL eY) dJ.1)),some (.v (.d (D.str fY.1)))]) (hJ (cN (post:=(pE eN _ S)) (sv (cW (a:=dJ.2) rfl)) (aR (hr _) rfl) (ae (sv (cD D.str ((sS ")")))) ak) (.d .nil) rfl (bE (aj:=dJ.2) (cz:=(sS ")")) hr hw hR) (fun _=>rfl))) (fun _=>rfl) fun u17=>(bL (eB (φ:=fun v21=>(v21,u17.2)) (Ev.map (fun(z20:D×Unit)=>(D.tup [z20.1,((eL eY) dJ.1)])) (pD eY _ _) (eA (aJ (sv (toY (ax (ic (ia (a:=er) rfl)) (sv (aw (a:=fY.1) (e:=D.str) rfl)) (zD (zH rfl))))) fun a18=>(ae (ic (ia (a:=dJ.1) rfl)) ak)) (fun _=>(.d (.o rfl (dr _ _) .nil))) (fun _=>rfl) (fun _=>rfl)) fun _=>rfl) fun _=>rfl))))))))) (fun b2=>(aP (fun hQ=>[some (.v (.r n)),some (.own ((k4 D.str) er)),some (.own ((oL eY) hQ.1)),none]) (nC (Ev.map (fun(z24:(D×(List Nat×Int))×Unit)=>([z24.1.1],z24.1.2)) (yv (oL eY) _ S) (de (l:=fun z24=>([z24.1.1]:List D)) (e:=eY) (aJ (sv (cN (post:=(pE eY _ S)) (sv (cW (a:=aj) rfl)) (aR (hr _) rfl) ak .nil rfl (srec (aj:=aj)) (fun _=>rfl))) fun a22=>ak) (fun _=>(.d .nil)) (fun _=>rfl) (fun _=>rfl)) fun _=>rfl)) (fun _=>rfl) fun hQ=>(aP (fun u26=>[some (.v (.r n)),some (.own ((k4 D.str) er)),some (.own ((oL eY) hQ.1)),none]) (hJ (cN (post:=(pE eN _ S)) (sv (cW (a:=hQ.2) rfl)) (aR (hr _) rfl) (ae (sv (cD D.str (sS " "))) ak) (.d .nil) rfl (bE (aj:=hQ.2) (cz:=(sS " ")) hr hw hR) (fun _=>rfl))) (fun _=>rfl) fun u26=>(aP (fun fN=>[some (.v (.r n)),some (.own ((k4 D.str) er)),some (.own ((oL eY) hQ.1)),some (.v (.d (D.str fN.1)))]) (e9 (cN (post:=(pE D.str _ S)) (sv (cW (a:=u26.2) rfl)) (aR (hr _) rfl) (ae (sv (cD D.str (sS "&|"))) (ae (sv (cD D.int (1:Int))) ak)) (.d (.d .nil)) rfl (dY (aj:=u26.2) (fM:=(sS "&|")) (gO:=(1:Int)) hr hw hR) (fun _=>rfl))) (fun _=>rfl) fun fN=>(aP (fun u28=>[some (.v (.r n)),some (.own ((k4 D.str) er)),some (.own ((oL eY) hQ.1)),some (.v (.d (D.str fN.1)))]) (hJ (cN (post:=(pE eN _ S)) (sv (cW (a:=fN.2) rfl)) (aR (hr _) rfl) (ae (sv (cD D.str (sS " "))) ak) (.d .nil) rfl (bE (aj:=fN.2) (cz:=(sS " ")) hr hw hR) (fun _=>rfl))) (fun _=>rfl) fun u28=>(aP (fun kT=>[some (.v (.r n)),some (.own ((k4 D.str) er)),some (.own ((oL eY) kT.1)),some (.v (.d (D.str fN.1)))]) (hJ (wj (ic (ia (a:=hQ.1) rfl)) (fun _ hf=>vh (jX rfl) hf) (aJ (sv (cN (post:=(pE eY _ S)) (sv (cW (a:=u28.2) rfl)) (aR (hr _) rfl) ak .nil rfl (srec (aj:=u28.2)) (fun _=>rfl))) fun a29=>ak) fun z31=>(Ev.map (fun v=>(v,z31.1.2)) (FW 2 (oL eY) _ S) (wx rfl) fun _=>rfl))) (fun _=>rfl) fun kT=>(p5 (Bj (P:=fun(c33:List D×(List Nat×Int))=>[some (.v (.r n)),some (.own ((k4 D.str) er)),some (.own ((oL eY) c33.1)),some (.v (.d (D.str fN.1)))]) (S:=fun(c33:List D×(List Nat×Int))=>S c33.2) (c0:=(kT.1,kT.2)) (mt:=(fun(c33:List D×(List Nat×Int))=>(nox (ao c33.2 ((sS ")")))).bind fun v=>M.ok (!v))) (mb:=(fun(c33:List D×(List Nat×Int))=>((((aO (sS " ") fN.1).bind fun a34=>aO a34 (sS " ")).bind fun a35=>(M.ok ()).bind fun w36=>M.ok (a35,w36)).bind fun z37=>au c33.2 z37.1).bind fun u38=>(((recm u38.2).bind fun a39=>(M.ok ()).bind fun w40=>M.ok (a39,w40)).bind fun z41=>(i7 c33.1 z41.1.1).bind fun v=>M.ok (v,z41.1.2)).bind fun hU=>M.ok (hU.1,hU.2))) (by(repeat' (first | exact trivial | refine And.intro rfl ?_))) rfl (fun c33=>(AJ (tB (b:=fun v=>v) (sv (fP (R':=R) (post:=(pD D.bl _ _)) (sv (cW (a:=c33.2) rfl)) (aR (hr _) rfl) (ae (sv (cD D.str ((sS ")")))) ak) (.d .nil) rfl (bH (aj:=c33.2) (cz:=(sS ")")) (hr _) ) (fun _=>rfl)))))) (fun c33=>(aP (fun u38=>[some (.v (.r n)),some (.own ((k4 D.str) er)),some (.own ((oL eY) c33.1)),some (.v (.d (D.str fN.1)))]) (hJ (jG (post:=(pE eN _ S)) (sv (cW (a:=c33.2) rfl)) (aR (hr _) rfl) (aJ (sv (cP (sv (ax (sv (cD D.str (sS " "))) (sv (aw (a:=fN.1) (e:=D.str) rfl)) aX)) (fun a34=>(sv (cD D.str (sS " ")))) fun a34=>aX)) fun a35=>ak) (fun _=>(.d .nil)) (fun _=>rfl) (fun z37=>(bE (aj:=c33.2) (cz:=z37.1) hr hw hR)) (fun _ _=>rfl))) (fun _=>rfl) fun u38=>(aP (fun hU=>[some (.v (.r n)),some (.own ((k4 D.str) er)),some (.own ((oL eY) hU.1)),some (.v (.d (D.str fN.1)))]) (hJ (wj (ic (ia (a:=c33.1) rfl)) (fun _ hf=>vh (jX rfl) hf) (aJ (sv (cN (post:=(pE eY _ S)) (sv (cW (a:=u38.2) rfl)) (aR (hr _) rfl) ak .nil rfl (srec (aj:=u38.2)) (fun _=>rfl))) fun a39=>ak) fun z41=>(Ev.map (fun v=>(v,z41.1.2)) (FW 2 (oL eY) _ S) (wx rfl) fun _=>rfl))) (fun _=>rfl) fun hU=>(uH rfl (by(repeat' (first | exact trivial | refine And.intro rfl ?_)))))))) fun r43=>(aP (fun u44=>[some (.v (.r n)),some (.own ((k4 D.str) er)),some (.own ((oL eY) r43.1)),some (.v (.d (D.str fN.1)))]) (hJ (cN (post:=(pE eN _ S)) (sv (cW (a:=r43.2) rfl)) (aR (hr _) rfl) (ae (sv (cD D.str ((sS ")")))) ak) (.d .nil) rfl (bE (aj:=r43.2) (cz:=(sS ")")) hr hw hR) (fun _=>rfl))) (fun _=>rfl) fun u44=>(bL (eB (φ:=fun v48=>(v48,u44.2)) (Ev.map (fun(z47:D×Unit)=>(D.tup [z47.1,((eL eY) r43.1)])) (pD eY _ _) (eA (aJ (sv (toY (ax (ic (ia (a:=er) rfl)) (sv (aw (a:=fN.1) (e:=D.str) rfl)) (zD (zH rfl))))) fun a45=>(ae (ic (ia (a:=r43.1) rfl)) ak)) (fun _=>(.d (.o rfl (dr _ _) .nil))) (fun _=>rfl) (fun _=>rfl)) fun _=>rfl) fun _=>rfl)))))))))))))
def aM:Nat→(List Nat×Int)→M (D×(List Nat×Int))
 | 0,_=>.bad
 | k+1,aj=>let recm:=aM k;(nox (ao aj (sS "!"))).bind fun b1=>if b1=true then((au aj (sS "!")).bind fun u2=>(((recm u2.2).bind fun a3=>(M.ok ()).bind fun w4=>M.ok (a3,w4)).bind fun z5=>M.ok ((D.tup [(D.str (sS "not")),z5.1.1]),z5.1.2)).bind fun v6=>M.ok (v6))else((nox (ao aj ((sS "(")))).bind fun b7=>if b7=true then((au aj ((sS "("))).bind fun u8=>((fk recm) u8.2).bind fun v9=>M.ok (v9))else((((nox (ao aj (sS "*"))).bind fun b10=>if b10=true then((au aj (sS "*")).bind fun u14=>M.ok ((sS "*"),u14.2))else((aL aj (sS "abcdefghijklmnopqrstuvwxyz") (12:Int)).bind fun oE=>M.ok (oE.1,oE.2))):M (List Nat×(List Nat×Int))).bind fun j13=>(au j13.2 (sS ":")).bind fun u16=>(eo u16.2 j13.1).bind fun v17=>M.ok (v17)))
theorem n8(k:Nat){R:List Ob→Prop}{S:(List Nat×Int)→List Ob}{n:Nat}(hr:∀ d,(S d)[n]? =some (hI d))(hw:∀ d d',(S d).set n (hI d')=S d')(hR:∀ d,R (S d)){aj:List Nat×Int}:fw R (d9 k) [.r n] (S aj) (aM k aj) (fun v=>(.val (.d (eY v.1)),S v.2)):=by
 induction k generalizing aj with
 | zero=>exact trivial
 | succ k srec=>
  exact(gB (gS (b:=fun v=>v) (tB (b:=fun v=>v) (sv (fP (R':=R) (post:=(pD D.bl _ _)) (sv (cW (a:=aj) rfl)) (aR (hr _) rfl) (ae (sv (cD D.str (sS "!"))) ak) (.d .nil) rfl (bH (aj:=aj) (cz:=(sS "!")) (hr _) ) (fun _=>rfl)))) (fun b1=>(aP (fun u2=>[some (.v (.r n)),none]) (hJ (cN (post:=(pE eN _ S)) (sv (cW (a:=aj) rfl)) (aR (hr _) rfl) (ae (sv (cD D.str (sS "!"))) ak) (.d .nil) rfl (bE (aj:=aj) (cz:=(sS "!")) hr hw hR) (fun _=>rfl))) (fun _=>rfl) fun u2=>(bL (eB (φ:=fun v6=>v6) (Ev.map (fun(z5:(D×(List Nat×Int))×Unit)=>((D.tup [(D.str (sS "not")),z5.1.1]),z5.1.2)) (pE eY _ S) (eA (ae (sv (toY (cD D.str (sS "not")))) (aJ (sv (cN (post:=(pE eY _ S)) (sv (cW (a:=u2.2) rfl)) (aR (hr _) rfl) ak .nil rfl (srec (aj:=u2.2)) (fun _=>rfl))) fun a3=>ak)) (fun _=>(.d (.d .nil))) (fun _=>rfl) (fun _=>rfl)) fun _=>rfl) fun _=>rfl)))) (fun b1=>(gS (b:=fun v=>v) (tB (b:=fun v=>v) (sv (fP (R':=R) (post:=(pD D.bl _ _)) (sv (cW (a:=aj) rfl)) (aR (hr _) rfl) (ae (sv (cD D.str ((sS "(")))) ak) (.d .nil) rfl (bH (aj:=aj) (cz:=(sS "(")) (hr _) ) (fun _=>rfl)))) (fun b7=>(aP (fun u8=>[some (.v (.r n)),none]) (hJ (cN (post:=(pE eN _ S)) (sv (cW (a:=aj) rfl)) (aR (hr _) rfl) (ae (sv (cD D.str ((sS "(")))) ak) (.d .nil) rfl (bE (aj:=aj) (cz:=(sS "(")) hr hw hR) (fun _=>rfl))) (fun _=>rfl) fun u8=>(bL (eB (φ:=fun v9=>v9) (cN (post:=(pE eY _ S)) (sv (cW (a:=u8.2) rfl)) (aR (hr _) rfl) ak .nil rfl (rS srec (aj:=u8.2) hr hw hR) (fun _=>rfl)) fun _=>rfl)))) (fun b7=>(wB (b:=fun v=>v) (Pc:=fun(j13:List Nat×(List Nat×Int))=>[some (.v (.r n)),some (.v (.d (D.str j13.1)))]) (Sc:=fun(j13:List Nat×(List Nat×Int))=>S j13.2) (tB (b:=fun v=>v) (sv (fP (R':=R) (post:=(pD D.bl _ _)) (sv (cW (a:=aj) rfl)) (aR (hr _) rfl) (ae (sv (cD D.str (sS "*"))) ak) (.d .nil) rfl (bH (aj:=aj) (cz:=(sS "*")) (hr _) ) (fun _=>rfl)))) (fun b10=>(aP (fun u14=>[some (.v (.r n)),none]) (hJ (cN (post:=(pE eN _ S)) (sv (cW (a:=aj) rfl)) (aR (hr _) rfl) (ae (sv (cD D.str (sS "*"))) ak) (.d .nil) rfl (bE (aj:=aj) (cz:=(sS "*")) hr hw hR) (fun _=>rfl))) (fun _=>rfl) fun u14=>(mG [some (.v (.r n)),some (.v (.d (D.str (sS "*"))))] (e9 (cD D.str (sS "*"))) rfl (lx rfl (by(repeat' (first | exact trivial | refine And.intro rfl ?_))))))) (fun b10=>(aP (fun oE=>[some (.v (.r n)),some (.v (.d (D.str oE.1)))]) (e9 (cN (post:=(pE D.str _ S)) (sv (cW (a:=aj) rfl)) (aR (hr _) rfl) (ae (sv (cD D.str (sS "abcdefghijklmnopqrstuvwxyz"))) (ae (sv (cD D.int (12:Int))) ak)) (.d (.d .nil)) rfl (dY (aj:=aj) (fM:=(sS "abcdefghijklmnopqrstuvwxyz")) (gO:=(12:Int)) hr hw hR) (fun _=>rfl))) (fun _=>rfl) fun oE=>(lx rfl (by(repeat' (first | exact trivial | refine And.intro rfl ?_)))))) fun j13=>(aP (fun u16=>[some (.v (.r n)),some (.v (.d (D.str j13.1)))]) (hJ (cN (post:=(pE eN _ S)) (sv (cW (a:=j13.2) rfl)) (aR (hr _) rfl) (ae (sv (cD D.str (sS ":"))) ak) (.d .nil) rfl (bE (aj:=j13.2) (cz:=(sS ":")) hr hw hR) (fun _=>rfl))) (fun _=>rfl) fun u16=>(bL (eB (φ:=fun v17=>v17) (cN (post:=(pE eY _ S)) (sv (cW (a:=u16.2) rfl)) (aR (hr _) rfl) (ae (sv (aw (a:=j13.1) (e:=D.str) rfl)) ak) (.d .nil) rfl (p6 (aj:=u16.2) (dA:=j13.1) hr hw hR) (fun _=>rfl)) fun _=>rfl)))))))))
end K81
namespace K81
open PySem L2 PyProof.Rows Vw
theorem yn(line:List Nat):g0 [.r 0,.d (.str line)] [.ins "AskReader" []]=.ok (.val (.d .non)) ⟨[],[hI (line,0)]⟩:=by kernel_rfl
def jY(fZ:List Nat):M (D×List Ob):=((aM 4) (fZ,(0:Int))).bind fun iB=>((((nT fZ).bind fun a3=>M.ok (eqB iB.2.2 a3)).bind fun a4=>(M.ok ()).bind fun w5=>M.ok (a4,w5)).bind fun z6=>cM iB.2 z6.1).bind fun u7=>M.ok ((iB.1,([hI iB.2]:List Ob)))
theorem tw{fZ:List Nat}:fw (fun _=>True) dG [.d (D.str fZ)] [] (jY fZ) (fun v=>(.val (.d (eY v.1)),v.2)):=(gB (mz [some (.v (.d (D.str fZ))),some (.v (.r 0)),none] ([hI (fZ,(0:Int))]:List Ob) (e9 (HH (o:=fun _=>hI (fZ,(0:Int))) (ae (sv (aw (a:=fZ) (e:=D.str) rfl)) ak) (fun _=>(.d .nil)) (fun _=>rfl) (fun _=>yn _))) rfl rfl (aP (fun iB=>[some (.v (.d (D.str fZ))),some (.v (.r 0)),some (.v (.d (eY iB.1)))]) (e9 (cN (post:=(pE eY _ (fun(d:List Nat×Int)=>[hI d]))) (sv (cW (a:=(fZ,(0:Int))) rfl)) (aR rfl rfl) ak .nil rfl (n8 4 (aj:=(fZ,(0:Int))) (S:=(fun(d:List Nat×Int)=>[hI d])) (n:=0) (fun _=>rfl) (fun _ _=>rfl) (fun _=>trivial)) (fun _=>rfl))) (fun _=>rfl) fun iB=>(aP (fun u7=>[some (.v (.d (D.str fZ))),some (.v (.r 0)),some (.v (.d (eY iB.1)))]) (hJ (jG (post:=(pD eN _ _)) (sv (cW (a:=iB.2) rfl)) (aR rfl rfl) (aJ (sv (dF (sv (iz (i:=1) (a:=iB.2.2) (e:=fun v=>.d (D.int v)) rfl rfl rfl rfl)) (sv (fF (ae (sv (aw (a:=fZ) (e:=D.str) rfl)) ak) tU)) fun a3=>(fq cn cn qI (by decide)))) fun a4=>ak) (fun _=>(.d .nil)) (fun _=>rfl) (fun z6=>(gc (aj:=iB.2) (kX:=z6.1) rfl trivial)) (fun _ _=>rfl))) (fun _=>rfl) fun u7=>(bL (ub (aw (a:=iB.1) (e:=eY) rfl) rfl))))))
def kj(fZ:List Nat):M D:=(jY fZ).bind fun v=>M.ok v.1
theorem tD{fZ:List Nat}:xM dG [(D.str fZ)] (kj fZ) (fun v=>.val (.d (eY v))):=fw.toI tw (fun _=>trivial)
def j3(ag:D):M ((List Nat)):=(((bM ag (0:Int)).bind gi).bind fun a1=>M.ok (eqB a1 (sS "word"))).bind fun b2=>if b2=true then(((bM ag (2:Int)).bind gi).bind fun v3=>M.ok (v3))else((((bM ag (0:Int)).bind gi).bind fun a4=>M.ok (eqB a4 (sS "like"))).bind fun b5=>if b5=true then((orM (((bM ag (2:Int)).bind gi).bind fun a6=>M.ok (subIn (sS "?") a6)) (((bM ag (2:Int)).bind gi).bind fun a7=>M.ok (subIn (sS "*") a7))).bind fun b8=>if b8=true then(((bM ag (2:Int)).bind gi).bind fun v9=>M.ok (v9))else((((bM ag (2:Int)).bind gi).bind fun a10=>aO (sS "~") a10).bind fun v11=>M.ok (v11)))else(((((bM ag (-(1:Int))).bind (sX gi)).bind fun a12=>(M.ok ()).bind fun w13=>M.ok (a12,w13)).bind fun z14=>joinM (sS " ") z14.1).bind fun i5=>(((bM ag (0:Int)).bind gi).bind fun a16=>M.ok (eqB a16 (sS "row"))).bind fun b17=>if b17=true then(((aO (sS "\"") i5).bind fun a18=>aO a18 (sS "\"")).bind fun v19=>M.ok (v19))else((((bM ag (0:Int)).bind gi).bind fun a20=>M.ok (eqB a20 (sS "near"))).bind fun b21=>if b21=true then((((((((bM ag (2:Int)).bind uV).bind fun a22=>(M.ok ()).bind fun w23=>M.ok (a22,w23)).bind fun z24=>nV z24.1).bind fun a25=>aO a25 (sS "<")).bind fun a26=>aO a26 i5).bind fun a27=>aO a27 (sS ">")).bind fun v28=>M.ok (v28))else((((((((bM ag (2:Int)).bind uV).bind fun a29=>(M.ok ()).bind fun w30=>M.ok (a29,w30)).bind fun z31=>nV z31.1).bind fun a32=>aO a32 (sS "[")).bind fun a33=>aO a33 i5).bind fun a34=>aO a34 (sS "]")).bind fun v35=>M.ok (v35)))))
theorem x9{R:List Ob→Prop}{σ:List Ob}{ag:D}:fw R iJ [.d (eY ag)] σ (j3 ag) (fun v=>(.val (.d (D.str v)),σ)):=(gB (gS (b:=fun v=>v) (tB (b:=fun v=>v) (sv (cP (sv (fI (ax (sv (aw (a:=ag) (e:=eY) rfl)) (sv (cD D.int (0:Int))) dR) d7 fg)) (fun a1=>(sv (cD D.str (sS "word")))) fun a1=>(fq cn cn qS (by decide))))) (fun b2=>(bL (eB (φ:=fun v3=>v3) (fI (ax (sv (aw (a:=ag) (e:=eY) rfl)) (sv (cD D.int (2:Int))) dR) d7 fg) fun _=>rfl))) (fun b2=>(gS (b:=fun v=>v) (tB (b:=fun v=>v) (sv (cP (sv (fI (ax (sv (aw (a:=ag) (e:=eY) rfl)) (sv (cD D.int (0:Int))) dR) d7 fg)) (fun a4=>(sv (cD D.str (sS "like")))) fun a4=>(fq cn cn qS (by decide))))) (fun b5=>(gS (b:=fun v=>v) (qk (tB (b:=fun v=>v) (sv (dF (sv (cD D.str (sS "?"))) (sv (fI (ax (sv (aw (a:=ag) (e:=eY) rfl)) (sv (cD D.int (2:Int))) dR) d7 fg)) fun a6=>wL))) (nI (tB (b:=fun v=>v) (sv (dF (sv (cD D.str (sS "*"))) (sv (fI (ax (sv (aw (a:=ag) (e:=eY) rfl)) (sv (cD D.int (2:Int))) dR) d7 fg)) fun a7=>wL))))) (fun b8=>(bL (eB (φ:=fun v9=>v9) (fI (ax (sv (aw (a:=ag) (e:=eY) rfl)) (sv (cD D.int (2:Int))) dR) d7 fg) fun _=>rfl))) (fun b8=>(bL (eB (φ:=fun v11=>v11) (dF (sv (cD D.str (sS "~"))) (sv (fI (ax (sv (aw (a:=ag) (e:=eY) rfl)) (sv (cD D.int (2:Int))) dR) d7 fg)) fun a10=>aX) fun _=>rfl))))) (fun b5=>(aP (fun i5=>[some (.v (.d (eY ag))),some (.v (.d (D.str i5)))]) (e9 (wj (sv (cD D.str (sS " "))) (fun _ _=>rfl) (aJ (sv (fI (ax (sv (aw (a:=ag) (e:=eY) rfl)) (sv (zg (sv (cD D.int (1:Int))))) dR) (wt d7) (y9 fg))) fun a12=>ak) fun z14=>(AW dt))) (fun _=>rfl) fun i5=>(gS (b:=fun v=>v) (tB (b:=fun v=>v) (sv (cP (sv (fI (ax (sv (aw (a:=ag) (e:=eY) rfl)) (sv (cD D.int (0:Int))) dR) d7 fg)) (fun a16=>(sv (cD D.str (sS "row")))) fun a16=>(fq cn cn qS (by decide))))) (fun b17=>(bL (eB (φ:=fun v19=>v19) (cP (sv (ax (sv (cD D.str (sS "\""))) (sv (aw (a:=i5) (e:=D.str) rfl)) aX)) (fun a18=>(sv (cD D.str (sS "\"")))) fun a18=>aX) fun _=>rfl))) (fun b17=>(gS (b:=fun v=>v) (tB (b:=fun v=>v) (sv (cP (sv (fI (ax (sv (aw (a:=ag) (e:=eY) rfl)) (sv (cD D.int (0:Int))) dR) d7 fg)) (fun a20=>(sv (cD D.str (sS "near")))) fun a20=>(fq cn cn qS (by decide))))) (fun b21=>(bL (eB (φ:=fun v28=>v28) (cP (sv (cP (sv (cP (sv (nJ (aJ (sv (fI (ax (sv (aw (a:=ag) (e:=eY) rfl)) (sv (cD D.int (2:Int))) dR) zy BW)) fun a22=>ak) fun z24=>wm)) (fun a25=>(sv (cD D.str (sS "<")))) fun a25=>aX)) (fun a26=>(sv (aw (a:=i5) (e:=D.str) rfl))) fun a26=>aX)) (fun a27=>(sv (cD D.str (sS ">")))) fun a27=>aX) fun _=>rfl))) (fun b21=>(bL (eB (φ:=fun v35=>v35) (cP (sv (cP (sv (cP (sv (nJ (aJ (sv (fI (ax (sv (aw (a:=ag) (e:=eY) rfl)) (sv (cD D.int (2:Int))) dR) zy BW)) fun a29=>ak) fun z31=>wm)) (fun a32=>(sv (cD D.str (sS "[")))) fun a32=>aX)) (fun a33=>(sv (aw (a:=i5) (e:=D.str) rfl))) fun a33=>aX)) (fun a34=>(sv (cD D.str (sS "]")))) fun a34=>aX) fun _=>rfl))))))))))))
def dw:Nat→D→M ((List Nat))
 | 0,_=>.bad
 | k+1,ag=>let recm:=dw k;(((bM ag (0:Int)).bind gi).bind fun a1=>M.ok (eqB a1 (sS "not"))).bind fun b2=>if b2=true then(((((bM ag (1:Int)).bind fun a3=>(M.ok ()).bind fun w4=>M.ok (a3,w4)).bind fun z5=>nox (recm z5.1)).bind fun a6=>aO (sS "!") a6).bind fun v7=>M.ok (v7))else((andM (((bM ag (0:Int)).bind gi).bind fun a8=>M.ok (!(eqB a8 (sS "both")))) (((bM ag (0:Int)).bind gi).bind fun a9=>M.ok (!(eqB a9 (sS "one"))))).bind fun b10=>if b10=true then(((((bM ag (1:Int)).bind gi).bind fun a11=>aO a11 (sS ":")).bind fun a12=>(nox (j3 ag)).bind fun a13=>aO a12 a13).bind fun v14=>M.ok (v14))else(((((bM ag (0:Int)).bind gi).bind fun a15=>M.ok (eqB a15 (sS "both"))).bind fun a16=>if a16=true then(M.ok (sS "&"))else(M.ok (sS "|"))).bind fun hV=>(((bM ag (1:Int)).bind (sX (fun d=>M.ok d))).bind fun l19=>jm (fun(one18:D)=>M.ok true) (fun(one18:D)=>nox (recm one18)) l19).bind fun hX=>(if(eqB (hX.length:Int) (0:Int))=true then(((aO ((sS "(")) hV).bind fun a21=>aO a21 ((sS ")"))).bind fun v22=>M.ok (v22))else((if(eqB (hX.length:Int) (1:Int))=true then(((((aO ((sS "(")) hV).bind fun a23=>aO a23 (sS " ")).bind fun a24=>(dB hX (0:Int)).bind fun a25=>aO a24 a25).bind fun a26=>aO a26 ((sS ")"))).bind fun v27=>M.ok (v27))else((((((aO (sS " ") hV).bind fun a28=>aO a28 (sS " ")).bind fun a29=>(M.ok ()).bind fun z30=>joinM a29 hX).bind fun a31=>aO ((sS "(")) a31).bind fun a32=>aO a32 ((sS ")"))).bind fun v33=>M.ok (v33)))))))
theorem tZ(k:Nat){R:List Ob→Prop}{σ:List Ob}{ag:D}:fw R (d8 k) [.d (eY ag)] σ (dw k ag) (fun v=>(.val (.d (D.str v)),σ)):=by
 induction k generalizing ag σ with
 | zero=>exact trivial
 | succ k srec=>
  exact(gB (gS (b:=fun v=>v) (tB (b:=fun v=>v) (sv (cP (sv (fI (ax (sv (aw (a:=ag) (e:=eY) rfl)) (sv (cD D.int (0:Int))) dR) d7 fg)) (fun a1=>(sv (cD D.str (sS "not")))) fun a1=>(fq cn cn qS (by decide))))) (fun b2=>(bL (eB (φ:=fun v7=>v7) (dF (sv (cD D.str (sS "!"))) (sv (l7 (R':=R) (post:=(pD D.str _ _)) (aJ (sv (ax (sv (aw (a:=ag) (e:=eY) rfl)) (sv (cD D.int (1:Int))) dR)) fun a3=>ak) (fun _=>(.d .nil)) (fun _=>rfl) (fun z5=>(srec (ag:=z5.1))) (fun _ _=>rfl))) fun a6=>aX) fun _=>rfl))) (fun b2=>(gS (b:=fun v=>v) (zQ (tB (b:=fun v=>v) (sv (cP (sv (fI (ax (sv (aw (a:=ag) (e:=eY) rfl)) (sv (cD D.int (0:Int))) dR) d7 fg)) (fun a8=>(sv (cD D.str (sS "both")))) fun a8=>(A6 cn cn qS (by decide))))) (xY (tB (b:=fun v=>v) (sv (cP (sv (fI (ax (sv (aw (a:=ag) (e:=eY) rfl)) (sv (cD D.int (0:Int))) dR) d7 fg)) (fun a9=>(sv (cD D.str (sS "one")))) fun a9=>(A6 cn cn qS (by decide))))))) (fun b10=>(bL (eB (φ:=fun v14=>v14) (hE (sv (cP (sv (fI (ax (sv (aw (a:=ag) (e:=eY) rfl)) (sv (cD D.int (1:Int))) dR) d7 fg)) (fun a11=>(sv (cD D.str (sS ":")))) fun a11=>aX)) (fun a12=>(sv (dP (R':=R) (post:=(pD D.str _ _)) (ae (sv (aw (a:=ag) (e:=eY) rfl)) ak) (.d .nil) rfl (x9 (ag:=ag)) (fun _=>rfl)))) fun a12 a13=>aX) fun _=>rfl))) (fun b10=>(aP (fun hV=>[some (.v (.d (eY ag))),some (.v (.d (D.str hV))),none,none]) (e9 (G9 (b:=fun v=>v) (post:=(pD D.str _ _)) (tB (b:=fun v=>v) (sv (cP (sv (fI (ax (sv (aw (a:=ag) (e:=eY) rfl)) (sv (cD D.int (0:Int))) dR) d7 fg)) (fun a15=>(sv (cD D.str (sS "both")))) fun a15=>(fq cn cn qS (by decide))))) (fun a16=>(cD D.str (sS "&"))) (fun a16=>(cD D.str (sS "|"))))) (fun _=>rfl) fun hV=>(aP (fun hX=>[some (.v (.d (eY ag))),some (.v (.d (D.str hV))),some (.own ((oL D.str) hX)),none]) (nC (zX (q:=[some (.v (.d (eY ag))),some (.v (.d (D.str hV))),none,none]) (p2:=fun(one18:D)=>[some (.v (.d (eY ag))),some (.v (.d (D.str hV))),none,some (.v (.d (eY one18)))]) (p3:=fun(one18:D)=>[some (.v (.d (eY ag))),some (.v (.d (D.str hV))),none,some (.v (.d (eY one18)))]) (mt:=(fun(one18:D)=>M.ok true)) (me:=(fun(one18:D)=>nox ((dw k) one18))) (e:=D.str) (Ei (sv (fI (ax (sv (aw (a:=ag) (e:=eY) rfl)) (sv (cD D.int (1:Int))) dR) (wt y7) (y9 Bh)))) rfl (fun(one18:D)=>⟨mT,mH,(sJ (dP (R':=R) (post:=(pD D.str _ _)) (ae (sv (aw (a:=one18) (e:=eY) rfl)) ak) (.d .nil) rfl (srec (ag:=one18)) (fun _=>rfl)))⟩) (fun _=>by(repeat' (first | exact trivial | refine And.intro rfl ?_))) (fun _=>by(repeat' (first | exact trivial | refine And.intro rfl ?_))))) (fun _=>rfl) fun hX=>(gE (ib (sv (ax (sv (fF (ae (ic (ia (a:=hX) rfl)) ak) (lQ (jX rfl)))) (sv (cD D.int (0:Int))) (fq cn cn qI (by decide))))) (bL (eB (φ:=fun v22=>v22) (cP (sv (ax (sv (cD D.str ((sS "(")))) (sv (aw (a:=hV) (e:=D.str) rfl)) aX)) (fun a21=>(sv (cD D.str ((sS ")"))))) fun a21=>aX) fun _=>rfl)) (gE (ib (sv (ax (sv (fF (ae (ic (ia (a:=hX) rfl)) ak) (lQ (jX rfl)))) (sv (cD D.int (1:Int))) (fq cn cn qI (by decide))))) (bL (eB (φ:=fun v27=>v27) (cP (sv (hE (sv (cP (sv (ax (sv (cD D.str ((sS "(")))) (sv (aw (a:=hV) (e:=D.str) rfl)) aX)) (fun a23=>(sv (cD D.str (sS " ")))) fun a23=>aX)) (fun a24=>(sv (ax (ic (ia (a:=hX) rfl)) (sv (cD D.int (0:Int))) (fm (jX rfl))))) fun a24 a25=>aX)) (fun a26=>(sv (cD D.str ((sS ")"))))) fun a26=>aX) fun _=>rfl)) (bL (eB (φ:=fun v33=>v33) (cP (sv (dF (sv (cD D.str ((sS "(")))) (sv (I4 (sv (cP (sv (ax (sv (cD D.str (sS " "))) (sv (aw (a:=hV) (e:=D.str) rfl)) aX)) (fun a28=>(sv (cD D.str (sS " ")))) fun a28=>aX)) (fun _=>(fun _ _=>rfl)) (fun a29=>(ae (ic (ia (a:=hX) rfl)) ak)) fun a29 z30=>(AW (jX rfl)))) fun a31=>aX)) (fun a32=>(sv (cD D.str ((sS ")"))))) fun a32=>aX) fun _=>rfl)))))))))))
def dD:Nat→D→M ((List Nat))
 | 0,_=>.bad
 | k+1,ag=>let recm:=dD k;(((bM ag (0:Int)).bind gi).bind fun a1=>M.ok (eqB a1 (sS "not"))).bind fun b2=>if b2=true then(((((bM ag (1:Int)).bind fun a3=>(M.ok ()).bind fun w4=>M.ok (a3,w4)).bind fun z5=>nox (recm z5.1)).bind fun a6=>aO (sS "!") a6).bind fun v7=>M.ok (v7))else((orM (((bM ag (0:Int)).bind gi).bind fun a8=>M.ok (eqB a8 (sS "both"))) (((bM ag (0:Int)).bind gi).bind fun a9=>M.ok (eqB a9 (sS "one")))).bind fun b10=>if b10=true then(((((((bM ag (0:Int)).bind gi).bind fun a11=>M.ok (eqB a11 (sS "both"))).bind fun a12=>(M.ok ()).bind fun w13=>M.ok (a12,w13)).bind fun z14=>M.ok (if z14.1=true then(1:Int)else 0)).bind fun a15=>dB [(sS "|"),(sS "&")] a15).bind fun gy=>((((((bM ag (1:Int)).bind fun a17=>(M.ok ()).bind fun w18=>M.ok (a17,w18)).bind fun z19=>xx z19.1).bind fun a20=>M.ok (decide (a20<(2:Int)))).bind fun b21=>if b21=true then(((aO ((sS "(")) gy).bind fun a30=>((((bM ag (1:Int)).bind fun a31=>(M.ok ()).bind fun w32=>M.ok (a31,w32)).bind fun z33=>xx z33.1).bind fun a34=>mM (sS " ") a34).bind fun a35=>aO a30 a35).bind fun ua=>M.ok ua)else(M.ok ((sS "(")))):M (List Nat)).bind fun j29=>((((bM ag (1:Int)).bind (sX (fun d=>M.ok d))).bind fun l=>M.ok (o3 l)).bind fun a37=>foldM (fun(c38:List Nat) (k39:Int×D)=>((if(decide ((0:Int)<k39.1))=true then((((aO c38 (sS " ")).bind fun a44=>aO a44 gy).bind fun a45=>aO a45 (sS " ")).bind fun ji=>M.ok ji)else(M.ok c38)):M (List Nat)).bind fun j43=>((nox (recm k39.2)).bind fun a47=>aO j43 a47).bind fun jj=>M.ok jj) j29 a37).bind fun r49=>(aO r49 ((sS ")"))).bind fun v50=>M.ok (v50))else((((bM ag (1:Int)).bind gi).bind fun a51=>aO a51 (sS ":")).bind fun gA=>(((bM ag (0:Int)).bind gi).bind fun a53=>M.ok (eqB a53 (sS "word"))).bind fun b54=>if b54=true then((((bM ag (2:Int)).bind gi).bind fun a55=>aO gA a55).bind fun v56=>M.ok (v56))else((((bM ag (0:Int)).bind gi).bind fun a57=>M.ok (eqB a57 (sS "like"))).bind fun b58=>if b58=true then(((((((andM (((bM ag (2:Int)).bind gi).bind fun a59=>M.ok (!subIn (sS "?") a59)) (((bM ag (2:Int)).bind gi).bind fun a60=>M.ok (!subIn (sS "*") a60))).bind fun a61=>(M.ok ()).bind fun w62=>M.ok (a61,w62)).bind fun z63=>M.ok (if z63.1=true then(1:Int)else 0)).bind fun a64=>mM (sS "~") a64).bind fun a65=>aO gA a65).bind fun a66=>((bM ag (2:Int)).bind gi).bind fun a67=>aO a66 a67).bind fun v68=>M.ok (v68))else((((bM ag (-(1:Int))).bind (sX (fun d=>M.ok d))).bind fun a69=>foldM (fun(c70:List Nat) (m4:D)=>((aO c70 (sS " ")).bind fun a72=>((M.ok m4).bind gi).bind fun a73=>aO a72 a73).bind fun mm=>M.ok mm) (sS "") a69).bind fun r75=>(((bM ag (0:Int)).bind gi).bind fun a76=>M.ok (eqB a76 (sS "row"))).bind fun b77=>if b77=true then((((aO gA (sS "\"")).bind fun a78=>(i8 r75 (some (1:Int)) (none:Option Int)).bind fun a79=>aO a78 a79).bind fun a80=>aO a80 (sS "\"")).bind fun v81=>M.ok (v81))else(((((((bM ag (0:Int)).bind gi).bind fun a82=>M.ok (eqB a82 (sS "near"))).bind fun a83=>(M.ok ()).bind fun w84=>M.ok (a83,w84)).bind fun z85=>M.ok (if z85.1=true then(1:Int)else 0)).bind fun a86=>dB ([(sS "[]"),(sS "<>")]) a86).bind fun m5=>((((((((bM ag (2:Int)).bind uV).bind fun a88=>(M.ok ()).bind fun w89=>M.ok (a88,w89)).bind fun z90=>nV z90.1).bind fun a91=>aO gA a91).bind fun a92=>(lJ m5 (0:Int)).bind fun a93=>aO a92 a93).bind fun a94=>(i8 r75 (some (1:Int)) (none:Option Int)).bind fun a95=>aO a94 a95).bind fun a96=>(lJ m5 (1:Int)).bind fun a97=>aO a96 a97).bind fun v98=>M.ok (v98))))))
theorem xR(k:Nat){R:List Ob→Prop}{σ:List Ob}{ag:D}:fw R (e8 k) [.d (eY ag)] σ (dD k ag) (fun v=>(.val (.d (D.str v)),σ)):=by
 induction k generalizing ag σ with
 | zero=>exact trivial
 | succ k srec=>
  exact(gB (gS (b:=fun v=>v) (tB (b:=fun v=>v) (sv (cP (sv (fI (ax (sv (aw (a:=ag) (e:=eY) rfl)) (sv (cD D.int (0:Int))) dR) d7 fg)) (fun a1=>(sv (cD D.str (sS "not")))) fun a1=>(fq cn cn qS (by decide))))) (fun b2=>(bL (eB (φ:=fun v7=>v7) (dF (sv (cD D.str (sS "!"))) (sv (l7 (R':=R) (post:=(pD D.str _ _)) (aJ (sv (ax (sv (aw (a:=ag) (e:=eY) rfl)) (sv (cD D.int (1:Int))) dR)) fun a3=>ak) (fun _=>(.d .nil)) (fun _=>rfl) (fun z5=>(srec (ag:=z5.1))) (fun _ _=>rfl))) fun a6=>aX) fun _=>rfl))) (fun b2=>(gS (b:=fun v=>v) (qk (tB (b:=fun v=>v) (sv (cP (sv (fI (ax (sv (aw (a:=ag) (e:=eY) rfl)) (sv (cD D.int (0:Int))) dR) d7 fg)) (fun a8=>(sv (cD D.str (sS "both")))) fun a8=>(fq cn cn qS (by decide))))) (nI (tB (b:=fun v=>v) (sv (cP (sv (fI (ax (sv (aw (a:=ag) (e:=eY) rfl)) (sv (cD D.int (0:Int))) dR) d7 fg)) (fun a9=>(sv (cD D.str (sS "one")))) fun a9=>(fq cn cn qS (by decide))))))) (fun b10=>(aP (fun gy=>[some (.v (.d (eY ag))),none,none,none,none,some (.v (.d (D.str gy))),none,none]) (e9 (dF (sn (Ev.dO (post2:=(pN (oL D.str) _ _)) (de (l:=fun _=>([(sS "|"),(sS "&")]:List (List Nat))) (e:=D.str) (ae (sv (cD D.str (sS "|"))) (ae (sv (cD D.str (sS "&"))) ak)) (fun _=>(.d (.d .nil))) (fun _=>rfl) (fun _=>rfl)) rfl) (fun v=>dr _ v)) (sv (nJ (aJ (sv (cP (sv (fI (ax (sv (aw (a:=ag) (e:=eY) rfl)) (sv (cD D.int (0:Int))) dR) d7 fg)) (fun a11=>(sv (cD D.str (sS "both")))) fun a11=>(fq cn cn qS (by decide)))) fun a12=>ak) fun z14=>zw)) fun a15=>(fm dt))) (fun _=>rfl) fun gy=>(mG [some (.v (.d (eY ag))),some (.v (.d (D.str ((sS "("))))),none,none,none,some (.v (.d (D.str gy))),none,none] (e9 (cD D.str ((sS "(")))) rfl (wB (b:=fun v=>v) (Pc:=fun(j29:List Nat)=>[some (.v (.d (eY ag))),some (.v (.d (D.str j29))),none,none,none,some (.v (.d (D.str gy))),none,none]) (Sc:=fun(j29:List Nat)=>σ) (tB (b:=fun v=>v) (sv (cP (sv (nJ (aJ (sv (ax (sv (aw (a:=ag) (e:=eY) rfl)) (sv (cD D.int (1:Int))) dR)) fun a17=>ak) fun z19=>Cu)) (fun a20=>(sv (cD D.int (2:Int)))) fun a20=>uQ))) (fun b21=>(aP (fun ua=>[some (.v (.d (eY ag))),some (.v (.d (D.str ua))),none,none,none,some (.v (.d (D.str gy))),none,none]) (e9 (hE (sv (ax (sv (aw (a:=(sS "(")) (e:=D.str) rfl)) (sv (aw (a:=gy) (e:=D.str) rfl)) aX)) (fun a30=>(sv (dF (sv (cD D.str (sS " "))) (sv (nJ (aJ (sv (ax (sv (aw (a:=ag) (e:=eY) rfl)) (sv (cD D.int (1:Int))) dR)) fun a31=>ak) fun z33=>Cu)) fun a34=>wq))) fun a30 a35=>aX)) (fun _=>rfl) fun ua=>(lx rfl (by(repeat' (first | exact trivial | refine And.intro rfl ?_)))))) (fun b21=>(lx rfl (by(repeat' (first | exact trivial | refine And.intro rfl ?_))))) fun j29=>(p5 (zE (P:=fun(c38:List Nat)=>[some (.v (.d (eY ag))),some (.v (.d (D.str c38))),none,none,none,some (.v (.d (D.str gy))),none,none]) (S:=fun(c38:List Nat)=>σ) (lA:=(fun(a37:List (Int×D))=>a37)) (c0:=fun(a37:List (Int×D))=>j29) (mb:=(fun(c38:List Nat) (k39:Int×D)=>((if(decide ((0:Int)<k39.1))=true then((((aO c38 (sS " ")).bind fun a44=>aO a44 gy).bind fun a45=>aO a45 (sS " ")).bind fun ji=>M.ok ji)else(M.ok c38)):M (List Nat)).bind fun j43=>((nox ((dD k) k39.2)).bind fun a47=>aO j43 a47).bind fun jj=>M.ok jj)) (E9 (sv (fI (ax (sv (aw (a:=ag) (e:=eY) rfl)) (sv (cD D.int (1:Int))) dR) (wt y7) (y9 Bh)))) (fun _=>by(repeat' (first | exact trivial | refine And.intro rfl ?_))) (fun _=>rfl) (fun c38 k39=>(Jh rfl rfl (C2 mT (C2 mT GA)))) (fun c38 k39=>(AX (Pc:=fun(j43:List Nat)=>[some (.v (.d (eY ag))),some (.v (.d (D.str j43))),none,none,none,some (.v (.d (D.str gy))),some (.v (.d (D.int k39.1))),some (.v (.d (eY k39.2)))]) (Sc:=fun(j43:List Nat)=>σ) (ib (sv (ax (sv (aw (a:=k39.1) (e:=D.int) rfl)) (sv (cD D.int (0:Int))) Ew))) (aP (fun ji=>[some (.v (.d (eY ag))),some (.v (.d (D.str ji))),none,none,none,some (.v (.d (D.str gy))),some (.v (.d (D.int k39.1))),some (.v (.d (eY k39.2)))]) (e9 (cP (sv (cP (sv (ax (sv (aw (a:=c38) (e:=D.str) rfl)) (sv (cD D.str (sS " "))) aX)) (fun a44=>(sv (aw (a:=gy) (e:=D.str) rfl))) fun a44=>aX)) (fun a45=>(sv (cD D.str (sS " ")))) fun a45=>aX)) (fun _=>rfl) fun ji=>(lx rfl (by(repeat' (first | exact trivial | refine And.intro rfl ?_))))) (lx rfl (by(repeat' (first | exact trivial | refine And.intro rfl ?_)))) fun j43=>(aP (fun jj=>[some (.v (.d (eY ag))),some (.v (.d (D.str jj))),none,none,none,some (.v (.d (D.str gy))),some (.v (.d (D.int k39.1))),some (.v (.d (eY k39.2)))]) (e9 (dF (sv (aw (a:=j43) (e:=D.str) rfl)) (sv (dP (R':=R) (post:=(pD D.str _ _)) (ae (sv (aw (a:=k39.2) (e:=eY) rfl)) ak) (.d .nil) rfl (srec (ag:=k39.2)) (fun _=>rfl))) fun a47=>aX)) (fun _=>rfl) fun jj=>(uH rfl (by(repeat' (first | exact trivial | refine And.intro rfl ?_)))))))) fun r49=>(bL (eB (φ:=fun v50=>v50) (ax (sv (aw (a:=r49) (e:=D.str) rfl)) (sv (cD D.str ((sS ")")))) aX) fun _=>rfl))))))) (fun b10=>(aP (fun gA=>[some (.v (.d (eY ag))),some (.v (.d (D.str gA))),none,none,none,none,none,none]) (e9 (cP (sv (fI (ax (sv (aw (a:=ag) (e:=eY) rfl)) (sv (cD D.int (1:Int))) dR) d7 fg)) (fun a51=>(sv (cD D.str (sS ":")))) fun a51=>aX)) (fun _=>rfl) fun gA=>(gS (b:=fun v=>v) (tB (b:=fun v=>v) (sv (cP (sv (fI (ax (sv (aw (a:=ag) (e:=eY) rfl)) (sv (cD D.int (0:Int))) dR) d7 fg)) (fun a53=>(sv (cD D.str (sS "word")))) fun a53=>(fq cn cn qS (by decide))))) (fun b54=>(bL (eB (φ:=fun v56=>v56) (dF (sv (aw (a:=gA) (e:=D.str) rfl)) (sv (fI (ax (sv (aw (a:=ag) (e:=eY) rfl)) (sv (cD D.int (2:Int))) dR) d7 fg)) fun a55=>aX) fun _=>rfl))) (fun b54=>(gS (b:=fun v=>v) (tB (b:=fun v=>v) (sv (cP (sv (fI (ax (sv (aw (a:=ag) (e:=eY) rfl)) (sv (cD D.int (0:Int))) dR) d7 fg)) (fun a57=>(sv (cD D.str (sS "like")))) fun a57=>(fq cn cn qS (by decide))))) (fun b58=>(bL (eB (φ:=fun v68=>v68) (hE (sv (dF (sv (aw (a:=gA) (e:=D.str) rfl)) (sv (dF (sv (cD D.str (sS "~"))) (sv (nJ (aJ (sv (Ec (sv (dF (sv (cD D.str (sS "?"))) (sv (fI (ax (sv (aw (a:=ag) (e:=eY) rfl)) (sv (cD D.int (2:Int))) dR) d7 fg)) fun a59=>yt)) (yD (sv (dF (sv (cD D.str (sS "*"))) (sv (fI (ax (sv (aw (a:=ag) (e:=eY) rfl)) (sv (cD D.int (2:Int))) dR) d7 fg)) fun a60=>yt))))) fun a61=>ak) fun z63=>zw)) fun a64=>wq)) fun a65=>aX)) (fun a66=>(sv (fI (ax (sv (aw (a:=ag) (e:=eY) rfl)) (sv (cD D.int (2:Int))) dR) d7 fg))) fun a66 a67=>aX) fun _=>rfl))) (fun b58=>(mG [some (.v (.d (eY ag))),some (.v (.d (D.str gA))),some (.v (.d (D.str (sS "")))),none,none,none,none,none] (e9 (cD D.str (sS ""))) rfl (p5 (zE (P:=fun(c70:List Nat)=>[some (.v (.d (eY ag))),some (.v (.d (D.str gA))),some (.v (.d (D.str c70))),none,none,none,none,none]) (S:=fun(c70:List Nat)=>σ) (lA:=(fun(a69:List D)=>a69)) (c0:=fun(a69:List D)=>(sS "")) (mb:=(fun(c70:List Nat) (m4:D)=>((aO c70 (sS " ")).bind fun a72=>((M.ok m4).bind gi).bind fun a73=>aO a72 a73).bind fun mm=>M.ok mm)) (Ei (sv (fI (ax (sv (aw (a:=ag) (e:=eY) rfl)) (sv (zg (sv (cD D.int (1:Int))))) dR) (wt y7) (y9 Bh)))) (fun _=>by(repeat' (first | exact trivial | refine And.intro rfl ?_))) (fun _=>rfl) (fun c70 m4=>mT) (fun c70 m4=>(aP (fun mm=>[some (.v (.d (eY ag))),some (.v (.d (D.str gA))),some (.v (.d (D.str mm))),some (.v (.d (eY m4))),none,none,none,none]) (e9 (hE (sv (ax (sv (aw (a:=c70) (e:=D.str) rfl)) (sv (cD D.str (sS " "))) aX)) (fun a72=>(sv (fI (aw (a:=m4) (e:=eY) rfl) d7 fg))) fun a72 a73=>aX)) (fun _=>rfl) fun mm=>(uH rfl (by(repeat' (first | exact trivial | refine And.intro rfl ?_))))))) fun r75=>(gS (b:=fun v=>v) (tB (b:=fun v=>v) (sv (cP (sv (fI (ax (sv (aw (a:=ag) (e:=eY) rfl)) (sv (cD D.int (0:Int))) dR) d7 fg)) (fun a76=>(sv (cD D.str (sS "row")))) fun a76=>(fq cn cn qS (by decide))))) (fun b77=>(bL (eB (φ:=fun v81=>v81) (cP (sv (hE (sv (ax (sv (aw (a:=gA) (e:=D.str) rfl)) (sv (cD D.str (sS "\""))) aX)) (fun a78=>(sv (jq (sv (aw (a:=r75) (e:=D.str) rfl)) (pe (sv (cD D.int (1:Int)))) pn lB))) fun a78 a79=>aX)) (fun a80=>(sv (cD D.str (sS "\"")))) fun a80=>aX) fun _=>rfl))) (fun b77=>(aP (fun m5=>[some (.v (.d (eY ag))),some (.v (.d (D.str gA))),some (.v (.d (D.str r75))),none,some (.v (.d (D.str m5))),none,none,none]) (e9 (dF (sn (Ev.dO (post2:=(pN (oL D.str) _ _)) (de (l:=fun _=>([(sS "[]"),(sS "<>")]:List (List Nat))) (e:=D.str) (ae (sv (cD D.str (sS "[]"))) (ae (sv (cD D.str (sS "<>"))) ak)) (fun _=>(.d (.d .nil))) (fun _=>rfl) (fun _=>rfl)) rfl) (fun v=>dr _ v)) (sv (nJ (aJ (sv (cP (sv (fI (ax (sv (aw (a:=ag) (e:=eY) rfl)) (sv (cD D.int (0:Int))) dR) d7 fg)) (fun a82=>(sv (cD D.str (sS "near")))) fun a82=>(fq cn cn qS (by decide)))) fun a83=>ak) fun z85=>zw)) fun a86=>(fm dt))) (fun _=>rfl) fun m5=>(bL (eB (φ:=fun v98=>v98) (hE (sv (hE (sv (hE (sv (dF (sv (aw (a:=gA) (e:=D.str) rfl)) (sv (nJ (aJ (sv (fI (ax (sv (aw (a:=ag) (e:=eY) rfl)) (sv (cD D.int (2:Int))) dR) zy BW)) fun a88=>ak) fun z90=>wm)) fun a91=>aX)) (fun a92=>(sv (ax (sv (aw (a:=m5) (e:=D.str) rfl)) (sv (cD D.int (0:Int))) zV))) fun a92 a93=>aX)) (fun a94=>(sv (jq (sv (aw (a:=r75) (e:=D.str) rfl)) (pe (sv (cD D.int (1:Int)))) pn lB))) fun a94 a95=>aX)) (fun a96=>(sv (ax (sv (aw (a:=m5) (e:=D.str) rfl)) (sv (cD D.int (1:Int))) zV))) fun a96 a97=>aX) fun _=>rfl)))))))))))))))))
end K81
namespace K81
open PySem L2 PyProof.Rows Vw
theorem fR{a m:Int}(h:0<m):0≤a%m∧a%m<m:=⟨Int.emod_nonneg _ (by omega),Int.emod_lt_of_pos _ h⟩
theorem Ed{a b:M Bool}(h1:∃ x,a=.ok x)(h2:∃ y,b=.ok y):∃ z,andM a b=.ok z:=by
 obtain⟨x,rfl⟩:=h1
 obtain⟨y,rfl⟩:=h2
 cases x
 ·exact⟨false,rfl⟩
 ·exact⟨y,rfl⟩
theorem D0{a b:Int}(h1:0≤b)(h2:b≤1000000)(h3:a.natAbs<2^64):wN a b=.ok (a^b.toNat):=by
 unfold wN
 rw[fU (decide_eq_true ⟨h1,h2,h3⟩),M.aa]
def CH:List Nat:=sS "abc012"
theorem nY(d:List Int):Sat (eM d) fun _=>True:=by
 unfold eM
 refine gG (fun _=>aG trivial) fun h=>?_
 by_cases hd:d=[]
 ·subst hd;exact absurd rfl h
 ·obtain⟨y,_,e⟩:=DP hd
  rw[e];exact aG trivial
theorem oo{T:Type}{l:List T}{lo hi:Option Int}:∀ x∈ey l lo hi,x∈l:=fun x hx=>by
 unfold ey at hx
 exact List.mem_of_mem_drop (List.mem_of_mem_take hx)
theorem qY{T:Type}{l:List T}{lo hi:Option Int}:(ey l lo hi).length≤l.length:=by
 unfold ey
 simp only[List.length_take,List.length_drop];omega
def Wd(u:List Nat):Prop:=u≠[]∧u.length≤38∧∀ c∈u,c∈CH
def qr(W:List (List Nat)):Prop:=W.length=6∧∀ u∈W,Wd u
theorem qc{a b:List Nat}(ha:∀ c∈a,c∈CH)(hb:∀ c∈b,c∈CH)(hl:a.length+b.length≤38)(hn:0<a.length+b.length):Wd (a++b):=by
 refine⟨fun h=>?_,by simpa using hl,fun c hc=>?_⟩
 ·obtain⟨rfl,rfl⟩:=List.append_eq_nil_iff.mp h
  simp at hn
 ·rcases List.mem_append.mp hc with h | h
  ·exact ha c h
  ·exact hb c h
theorem Dt:∀ v∈[(1:Int),2,3,12],(match mM (sS "abc") v with | .ok u=>decide (0<u.length)&&decide (u.length≤36)&&u.all (fun c=>decide (c∈CH)) | _=>false)=true:=by decide+kernel
theorem By(d:List Int):Sat (kW d) fun r=>qr r.1:=by
 unfold kW
 refine aq (fQ (nY d)) fun n _=>?_
 have hS:∀ c∈(sS "abc1b2acb"),c∈CH:=by decide+kernel
 have hL:(sS "abc1b2acb").length=9:=by decide+kernel
 refine aq (P:=fun(st:List Nat)=>st.length≤2∧∀ c∈st,c∈CH) ?_ fun st hst=>?_
 ·rw[la (by omega)]
  simp only[M.aa]
  rw[la (Nat.le_trans qY (by omega))]
  refine aG ⟨?_,fun c hc=>hS c (oo c (oo c hc))⟩
  have h3:=fR (a:=n.1/7) (m:=3) (by decide)
  obtain⟨k,ek⟩:=Int.eq_ofNat_of_zero_le h3.1
  rw[ek,Sh.vV,List.length_take]
  omega
 ·have c1:∀ c∈(sS "a"),c∈CH:=by decide+kernel
  have c2:∀ c∈(sS "b"),c∈CH:=by decide+kernel
  have c3:∀ c∈(sS "ab"),c∈CH:=by decide+kernel
  have l1:(sS "a").length=1:=rfl
  have l2:(sS "b").length=1:=rfl
  have l3:(sS "ab").length=2:=rfl
  have w5:Wd (sS "c0"):=by refine⟨by decide,by decide,by decide+kernel⟩
  rw[ay (by omega),ay (by omega),ay (by omega),ay (by omega)]
  simp only[M.aa]
  refine aq (P:=fun(l:List (List Nat))=>qr l) (aq (P:=fun(l:List (List Nat))=>l.length=1∧∀ u∈l,Wd u) ?_ fun l hl=>?_) fun v hv=>aG hv
  ·refine aq (P:=fun(z:List Nat×Unit)=>Wd z.1) ?_ fun z hz=>aG ⟨rfl,fun u hu=>by rw[List.mem_singleton]at hu;rw[hu];exact hz⟩
   refine aq (P:=fun(u:List Nat)=>Wd u) ?_ fun u hu=>aG hu
   refine aq (P:=fun(u:List Nat)=>0<u.length∧u.length≤36∧∀ c∈u,c∈CH) ?_ fun u hu=>?_
   ·refine aq (Au (l:=[(1:Int),2,3,12]) (P:=fun v=>v∈[(1:Int),2,3,12]) (by decide) (fun a ha=>ha)) fun v hv=>?_
    have hm:=Dt v hv
    cases e:mM (sS "abc") v with
    | ok u=>
     rw[e]at hm
     simp only[Bool.and_eq_true,decide_eq_true_eq,List.all_eq_true]at hm
     exact aG ⟨hm.1.1,hm.1.2,hm.2⟩
    | exc x=>rw[e]at hm;cases hm
    | bad=>rw[e]at hm;cases hm
   ·rw[ay (by omega)]
    exact aG (qc hst.2 hu.2.2 (by omega) (by omega))
  ·rw[mQ (by simp[hl.1])]
   refine aG ⟨by simp[hl.1],fun u hu=>?_⟩
   simp only[List.mem_append,List.mem_cons,List.not_mem_nil,or_false]at hu
   rcases hu with(rfl | rfl | rfl | rfl | rfl) | hu
   ·exact qc hst.2 c1 (by omega) (by omega)
   ·exact qc hst.2 c2 (by omega) (by omega)
   ·exact qc hst.2 c3 (by omega) (by omega)
   ·exact qc c1 hst.2 (by omega) (by omega)
   ·exact w5
   ·exact hl.2 u hu
theorem DU{c t:Int}(h0:0≤t)(h1:t<1000):Sat (j5 c t) fun v=>0≤v∧v<2147483629:=by
 unfold j5
 have hc:=fR (a:=c) (m:=2147483647) (by decide)
 obtain⟨u,hu⟩:∃ u,u=t*t:=⟨_,rfl⟩
 have hu0:0≤u:=by rw[hu];exact Int.mul_nonneg h0 h0
 have hu1:u≤998001:=by
  rw[hu]
  have:=Int.mul_le_mul (show t≤999 by omega) (show t≤999 by omega) h0 (by decide)
  omega
 rw[kE 10 10 (by omega) (by omega) (by decide) (by decide) (by decide)]
 rw[M.aa,←hu,kE 20 13 (by omega) (by decide) (by decide) (by decide) (by decide)]
 simp only[M.aa]
 rw[kE 35 16 (by omega) (by decide) (by decide) (by decide) (by decide)]
 simp only[M.aa]
 obtain⟨n,hn⟩:∃ n,n=(c%2147483647+u*7919+104729)*48271%2147483647:=⟨_,rfl⟩
 rw[←hn]
 have hn2:=fR (a:=(c%2147483647+u*7919+104729)*48271) (m:=2147483647) (by decide)
 rw[←hn]at hn2
 rw[kE 31 31 (by omega) (by omega) (by decide) (by decide) (by decide),kE 17 10 (by decide) (by omega) (by decide) (by decide) (by decide)]
 simp only[M.aa]
 exact aG (fR (by decide))
theorem DT{a b:M Bool}(h1:Sat a fun _=>True)(h2:Sat b fun _=>True):Sat (Vw.andM a b) fun _=>True:=by
 obtain⟨x,e1,_⟩:=h1
 obtain⟨y,e2,_⟩:=h2
 obtain⟨z,e⟩:=Ed ⟨x,e1⟩ ⟨y,e2⟩
 exact⟨z,e,trivial⟩
theorem tO{ns:List Int}{a b:Int}(hl:ns.length≤63)(ha:0≤a)(hb:0≤b)(hab:a+b≤1000):Sat (g9 ns a b) fun _=>True:=by
 unfold g9
 have hcl:=qY (l:=ns) (lo:=none) (hi:=some 63)
 rw[mQ (by simp;omega),M.aa]
 obtain⟨cells,hcells⟩:∃ cells,cells=ey ns none (some 63)++[a]:=⟨_,rfl⟩
 rw[←hcells]
 have h1:0<cells.length:=by rw[hcells];simp
 have h2:cells.length≤64:=by rw[hcells];simp;omega
 rw[vM (F:=fun c=>c/100000) (fun _ _=>rfl) (fun _ _=>rfl) (by omega),M.aa,uZ (by omega) (by omega),M.aa]
 refine aq (BV (fun n (c:List Int×List Int)=>c.1.length=cells.length∧c.2.length≤n) ⟨by simp,Nat.le_refl _⟩ ?_) fun v _=>aG trivial
 intro n c k hk hn hc
 have hk:=DJ hk
 rw[List.length_map,List.length_range]at hn
 rw[jK (by omega),M.aa]
 have hat:=fR (a:=k) (m:=(cells.length:Int)) (by omega)
 refine aq (aq (aq (eU (P:=fun _=>True) hat.1 hat.2 fun _ _=>trivial) fun v _=>aG (P:=fun _=>True) trivial) fun z _=>fQ (DU hk.1 (by omega))) fun nu hnu=>?_
 rw[kE 31 31 (by omega) (by omega) (by decide) (by decide) (by decide),kE 3 10 (by decide) (by omega) (by decide) (by decide) (by decide)]
 simp only[M.aa]
 refine aq (P:=fun(j:List Int×Int)=>j.1.length=cells.length) ?_ fun j hj=>?_
 ·refine aq (DT ?_ ?_) fun b _=>gG (fun _=>?_) fun _=>aG hc.1
  ·refine aq (eU (P:=fun _=>True) hat.1 hat.2 fun _ _=>trivial) fun v _=>?_
   rw[D0 (by decide) (by decide) (by decide),M.aa]
   exact aG trivial
  ·exact aq (eU (P:=fun _=>True) hat.1 (by rw[hc.1];exact hat.2) fun _ _=>trivial) fun v _=>aG trivial
  ·refine aq (aq (eU (P:=fun _=>True) hat.1 (by rw[hc.1];exact hat.2) fun _ _=>trivial) fun v _=>aG (P:=fun _=>True) trivial) fun v _=>?_
   refine aq (P:=fun(l:List Int)=>l.length=cells.length) ?_ fun l hl=>aG hl
   refine aq (aq (eU (P:=fun _=>True) hat.1 (by rw[hc.1];exact hat.2) fun _ _=>trivial) fun v _=>aG (P:=fun _=>True) trivial) fun v _=>?_
   rw[D5 hat.1 (by rw[hc.1];exact hat.2)]
   exact aG (by simpa using hc.1)
 ·rw[oz (by omega),M.aa]
  exact aG ⟨hj,by simp;omega⟩
abbrev Ws:Type:=List (List Nat)
inductive Qn where
 | word (f w:List Nat)
 | like (f p:List Nat)
 | row (f:List Nat) (ns:Ws)
 | near (f:List Nat) (w:Nat) (ns:Ws)
 | chain (f:List Nat) (w:Nat) (ns:Ws)
 | neg (q:Qn)
 | both (qs:List Qn)
 | one (qs:List Qn)
mutual
def eQ:Qn→D
 | .word f w=>.tup [.str (sS "word"),.str f,.str w]
 | .like f p=>.tup [.str (sS "like"),.str f,.str p]
 | .row f ns=>.tup [.str (sS "row"),.str f,eL D.str ns]
 | .near f w ns=>.tup [.str (sS "near"),.str f,.int w,eL D.str ns]
 | .chain f w ns=>.tup [.str (sS "chain"),.str f,.int w,eL D.str ns]
 | .neg q=>.tup [.str (sS "not"),eQ q]
 | .both qs=>.tup [.str (sS "both"),.lst (ka qs)]
 | .one qs=>.tup [.str (sS "one"),.lst (ka qs)]
def ka:List Qn→List D
 | []=>[]
 | q::qs=>eQ q::ka qs
end
theorem iZ:∀ qs:List Qn,ka qs=qs.map eQ
 | []=>by rw[ka];rfl
 | q::qs=>by rw[ka,iZ qs];rfl
def AN:List Nat:=sS "abcdefghijklmnopqrstuvwxyz0123456789"
def vN:List Nat:=sS "abcdefghijklmnopqrstuvwxyz0123456789?*"
def FQ:Ws:=[sS "title",sS "body",sS "h",sS "*",sS "zz"]
def tm(u:List Nat):Prop:=1≤u.length∧u.length≤40∧∀ c∈u,c∈AN
def JV(u:List Nat):Prop:=1≤u.length∧u.length≤40∧∀ c∈u,c∈vN
def nH(ns:Ws):Prop:=(∀ u∈ns,tm u)∧1≤ns.length∧ns.length≤6
def lb:Qn→Prop
 | .word f w=>f∈FQ∧tm w
 | .like f p=>f∈FQ∧JV p
 | .row f ns=>f∈FQ∧nH ns
 | .near f w ns=>f∈FQ∧nH ns∧1≤w∧w≤20
 | .chain f w ns=>f∈FQ∧nH ns∧1≤w∧w≤20
 | _=>False
def WQ:Nat→Qn→Prop
 | 0,q=>lb q
 | k+1,q=>match q with
  | .neg q=>WQ k q
  | .both qs=>qs.length≤4∧∀ q∈qs,WQ k q
  | .one qs=>qs.length≤4∧∀ q∈qs,WQ k q
  | q=>lb q
theorem G7:∀ c∈CH,c∈AN:=by decide+kernel
theorem wA:∀ c∈AN,c∈vN:=by decide+kernel
theorem FH{u:List Nat}(h:Wd u):tm u:=⟨List.length_pos_iff.mpr h.1,by have:=h.2.1;omega,fun c hc=>G7 c (h.2.2 c hc)⟩
theorem IT:tm (sS "zz"):=⟨by decide,by decide,by decide+kernel⟩
theorem Bb(t:List Nat)(n:Nat):(List.replicate n t).flatten.length=n*t.length:=by
 induction n with
 | zero=>simp
 | succ n ih=>rw[List.replicate_succ,List.flatten_cons,List.length_append,ih,Nat.succ_mul];omega
theorem sY{α:Type}(l:List α)(k:Nat):ey l (some (k:Int)) none=l.drop k:=by
 unfold ey
 rw[HT.sIx_nat]
 have e:HT.sIx l.length l.length none=l.length:=rfl
 rw[e]
 by_cases h:k≤l.length
 ·rw[Nat.min_eq_left h]
  exact List.take_of_length_le (by simp)
 ·rw[Nat.min_eq_right (by omega),List.drop_length,List.drop_eq_nil_of_le (by omega)]
  simp
def Q0(n:Nat)(t:List Nat):Prop:=t.length≤n∧∀ c∈t,c∈vN
def QP(t:List Nat):Prop:=1≤t.length∧Q0 40 t
theorem GN:∀ c∈CH,c∈vN:=by decide+kernel
theorem CP{n:Nat}{w:List Nat}{lo hi:Option Int}(hn:n≤40)(h:Q0 n w):Sat (i8 w lo hi) (Q0 n):=by
 rw[la (by have:=h.1;omega)]
 exact aG ⟨Nat.le_trans qY h.1,fun c hc=>h.2 c (oo c hc)⟩
theorem tc{n m:Nat}{a b:List Nat}(hn:n+m≤80)(ha:Q0 n a)(hb:Q0 m b):Sat (aO a b) fun t=>Q0 (n+m) t∧t.length=a.length+b.length:=by
 have h1:=ha.1;have h2:=hb.1
 rw[ay (by omega)]
 refine aG ⟨⟨by simp;omega,fun c hc=>?_⟩,by simp⟩
 rcases List.mem_append.mp hc with h | h
 ·exact ha.2 c h
 ·exact hb.2 c h
theorem mC:Q0 1 (sS "*")∧(sS "*").length=1:=⟨⟨by decide,by decide+kernel⟩,rfl⟩
theorem zU:Q0 1 (sS "?")∧(sS "?").length=1:=⟨⟨by decide,by decide+kernel⟩,rfl⟩
theorem oB{n:Nat}{t:List Nat}(h:Q0 n t)(h1:1≤t.length)(hn:n≤40):QP t:=⟨h1,by have:=h.1;omega,h.2⟩
theorem Ag{w k:List Nat}{i:Int}(hi:0≤i)(hw:Q0 38 w)(hk:Q0 1 k)(hk1:k.length=1):Sat (((i8 w (none:Option Int) (some i)).bind fun a22=>aO a22 k).bind fun a23=>(i8 w (some (i+(1:Int))) (none:Option Int)).bind fun a24=>aO a23 a24) QP:=by
 have hl:∀ {lo hi:Option Int},(ey w lo hi).length≤38:=Nat.le_trans qY hw.1
 have hw1:=hw.1
 rw[la (by omega),M.aa,ay (by have:=hl (lo:=none) (hi:=some i);omega),M.aa,la (by omega),M.aa]
 have e:(ey w none (some i)).length+(ey w (some (i+1)) none).length≤39:=by
  obtain⟨j,rfl⟩:=Int.eq_ofNat_of_zero_le hi
  rw[Sh.vV,show((j:Int)+1)=((j+1:Nat):Int) by omega,sY]
  simp only[List.length_take,List.length_drop]
  omega
 rw[ay (by simp;omega)]
 refine aG ⟨by simp;omega,by simp;omega,fun c hc=>?_⟩
 simp only[List.mem_append]at hc
 rcases hc with(h | h) | h
 ·exact hw.2 c (oo c h)
 ·exact hk.2 c h
 ·exact hw.2 c (oo c h)
theorem GB:Q0 38 (sS "zz")∧(sS "zz")≠[]:=⟨⟨by decide,by decide+kernel⟩,by decide⟩
theorem yl{W:List (List Nat)}(hW:qr W)(d:List Int):Sat (g8 d W) fun r=>QP r.1:=by
 unfold g8
 refine aq (fQ (nY d)) fun n _=>?_
 refine aq (P:=fun(w:List Nat)=>1≤w.length∧Q0 38 w) ?_ fun w hw=>?_
 ·have hWl:=hW.1
  rw[mQ (by simp;omega),M.aa,jK (by omega),M.aa]
  have hi:=fR (a:=n.1) (m:=(W.length:Int)+1) (by omega)
  refine eU hi.1 (by simp;omega) fun u hu=>?_
  rcases List.mem_append.mp hu with h | h
  ·have h:=hW.2 u h
   exact⟨List.length_pos_iff.mpr h.1,h.2.1,fun c hc=>GN c (h.2.2 c hc)⟩
  ·simp at h;rw[h];exact⟨by decide,GB.1⟩
 obtain⟨hw1,hw⟩:=hw
 have hwl:=hw.1
 refine aq (P:=fun(i:Int)=>0≤i∧i<w.length) ?_ fun i hi=>?_
 ·rw[mc (by omega),M.aa,jK (by omega)]
  exact aG (fR (by omega))
 have hs1:=mC.2
 have ha1:=zU.2
 refine aq (P:=fun(l:List (List Nat))=>l.length=6∧∀ t∈l,QP t) ?_ fun l hl=>?_
 ·refine aq (P:=fun(z:List Nat×List Nat×List Nat×List Nat×Unit)=>QP z.1∧QP z.2.1∧QP z.2.2.1∧QP z.2.2.2.1) ?_ fun z hz=>aG ⟨rfl,fun t ht=>?_⟩
  ·refine aq (P:=QP) (aq (CP (by decide) hw) fun a ha=>l9 (tc (by decide) ha mC.1) fun v hv=>oB hv.1 (by omega) (by decide)) fun a8 h8=>?_
   refine aq (P:=fun(z:List Nat×List Nat×List Nat×Unit)=>QP z.1∧QP z.2.1∧QP z.2.2.1) ?_ fun z hz=>aG ⟨h8,hz⟩
   refine aq (P:=QP) (aq (CP (by decide) hw) fun a ha=>l9 (tc (by decide) mC.1 ha) fun v hv=>oB hv.1 (by omega) (by decide)) fun a10 h10=>?_
   refine aq (P:=fun(z:List Nat×List Nat×Unit)=>QP z.1∧QP z.2.1) ?_ fun z hz=>aG ⟨h10,hz⟩
   refine aq (Ag hi.1 hw zU.1 ha1) fun a14 h14=>?_
   refine aq (P:=fun(z:List Nat×Unit)=>QP z.1) ?_ fun z hz=>aG ⟨h14,hz⟩
   refine aq (P:=QP) ?_ fun a15 h15=>aG h15
   unfold mM
   have hk:(1+i).toNat≤38∧1≤(1+i).toNat:=by omega
   rw[fU (decide_eq_true ⟨by omega,by omega,by rw[ha1];omega⟩),M.aa]
   have hlen:(List.replicate (1+i).toNat (sS "?")).flatten.length=(1+i).toNat:=by rw[Bb,ha1];omega
   refine aG ⟨by omega,by omega,fun c hc=>?_⟩
   obtain⟨u,hu,hcu⟩:=List.mem_flatten.mp hc
   rw[(List.mem_replicate.mp hu).2]at hcu
   exact zU.1.2 c hcu
  ·simp only[List.mem_cons,List.not_mem_nil,or_false]at ht
   rcases ht with rfl | rfl | rfl | rfl | rfl | rfl
   ·exact hz.1
   ·exact hz.2.1
   ·exact hz.2.2.1
   ·exact oB hw hw1 (by decide)
   ·exact oB mC.1 (by omega) (by decide)
   ·exact hz.2.2.2
 refine aq (P:=QP) ?_ fun t ht=>aG ht
 refine aq (P:=fun(l:List (List Nat))=>l.length=8∧∀ t∈l,QP t) ?_ fun k hk=>?_
 ·refine aq (P:=fun(l:List (List Nat))=>l.length=2∧∀ t∈l,QP t) ?_ fun k hk=>?_
  ·refine aq (P:=fun(z:List Nat×List Nat×Unit)=>QP z.1∧QP z.2.1) ?_ fun z hz=>aG ⟨rfl,fun t ht=>?_⟩
   ·refine aq (Ag hi.1 hw mC.1 hs1) fun a25 h25=>?_
    refine aq (P:=fun(z:List Nat×Unit)=>QP z.1) ?_ fun z hz=>aG ⟨h25,hz⟩
    refine aq (P:=QP) ?_ fun a28 h28=>aG h28
    obtain⟨c,hc,e⟩:=E7 (l:=w) hi.1 hi.2 (by omega)
    rw[e,M.aa]
    have hc1:Q0 1 [c]:=⟨by simp,fun x hx=>by rw[List.mem_singleton]at hx;rw[hx];exact hw.2 c hc⟩
    exact aq (tc (by decide) mC.1 hc1) fun a ha=>l9 (tc (by decide) ha.1 mC.1) fun v hv=>oB hv.1 (by omega) (by decide)
   ·simp only[List.mem_cons,List.not_mem_nil,or_false]at ht
    rcases ht with rfl | rfl
    ·exact hz.1
    ·exact hz.2
  ·rw[mQ (by have:=hl.1;have:=hk.1;omega)]
   refine aG ⟨by have:=hl.1;have:=hk.1;simp;omega,fun t ht=>?_⟩
   rcases List.mem_append.mp ht with h | h
   ·exact hl.2 t h
   ·exact hk.2 t h
 ·have h8:=fR (a:=n.1/256) (m:=8) (by decide)
  exact eU h8.1 (by rw[hk.1];exact h8.2) hk.2
theorem md{a b:Int}:(eqB a b=true)↔a=b:=by unfold eqB;exact decide_eq_true_iff
theorem AL(d:List Int):Sat (jR d) fun v=>v.1∈FQ:=by
 unfold jR
 refine aq (P:=fun(v:List Nat×List Int)=>v.1∈FQ) (aq (aq (fQ (nY d)) fun a _=>aG (P:=fun(z:Int×List Int)=>0≤z.1∧z.1<6) (fR (by decide))) fun z hz=>?_) fun v hv=>aG hv
 exact aq (eU (P:=fun v=>v∈FQ) hz.1 (by simpa using hz.2) fun a ha=>by
  unfold FQ
  simp only[List.mem_cons,List.not_mem_nil,or_false]at ha ⊢
  rcases ha with h | h | h | h | h | h<;> simp[h]) fun v hv=>aG (P:=fun(z:List Nat×List Int)=>z.1∈FQ) hv
theorem BO{q:Qn}(h:lb q):∀ k,WQ k q
 | 0=>h
 | k+1=>by cases q<;> first | exact h | exact h.elim
def GQ(k:Nat)(v:D):Prop:=∃ q,v=eQ q∧WQ k q
theorem mq{q:Qn}{k:Nat}(h:lb q):GQ k (eQ q):=⟨q,rfl,BO h k⟩
theorem yG{k:Nat}:∀ l:List D,(∀ y∈l,GQ k y)→∃ qs:List Qn,l=qs.map eQ∧∀ q∈qs,WQ k q
 | [],_=>⟨[],rfl,fun q h=>by cases h⟩
 | y::l,h=>by
  obtain⟨q,e,hq⟩:=h y (by simp)
  obtain⟨qs,e2,h2⟩:=yG l fun z hz=>h z (by simp[hz])
  refine⟨q::qs,by rw[e,e2];rfl,fun z hz=>?_⟩
  rcases List.mem_cons.mp hz with rfl | hz
  ·exact hq
  ·exact h2 z hz
theorem Hc{W:List (List Nat)}(hW:qr W){w:List Nat}(h:w∈W++[sS "zz"]):tm w:=by
 rcases List.mem_append.mp h with h | h
 ·exact FH (hW.2 w h)
 ·rw[List.mem_singleton]at h;rw[h];exact IT
theorem zd{W:List (List Nat)}(hW:qr W){ns:List (List Nat)}(h:(∀ u∈ns,u∈W)∧ns≠[]∧ns.length≤6):nH ns:=⟨fun u hu=>FH (hW.2 u (h.1 u hu)),List.length_pos_iff.mpr h.2.1,h.2.2⟩
theorem qm{W:List (List Nat)}(hW:qr W):∀ (k:Nat) (deep:Int) (d:List Int),0≤deep→deep<k→deep≤3→Sat (e7 k d W deep) fun v=>GQ deep.toNat v.1
 | 0,deep,d,h0,h1,h2=>by omega
 | k+1,deep,d,h0,h1,h2=>by
  have hWl:=hW.1
  unfold e7
  dsimp only
  refine aq (fQ (nY d)) fun n _=>?_
  have h9:=fR (a:=n.1) (m:=9) (by decide)
  have h5:=fR (a:=n.1%9) (m:=5) (by decide)
  refine aq (P:=fun(j:Int)=>0≤j∧j<9∧(deep=0→j<5)) (gG (fun h=>aG ⟨h5.1,by omega,fun _=>h5.2⟩) fun h=>aG ⟨h9.1,h9.2,fun e=>absurd (md.mpr e) h⟩) fun j hj=>?_
  have many:∀ d',Sat ((((dB [(4:Int),(6:Int)] ((n.1/(2000:Int))%(2:Int))).bind fun a14=>gQ (n.1/(18:Int)) a14).bind fun a15=>M.ok ((1:Int)+a15)).bind fun iT=>((jB 0 iT).bind fun a22=>jr (fun(k17:Int) (c18:List Int)=>M.ok true) (fun k17 c18=>((nox (eM c18)).bind fun a19=>(dB [(2:Int),(W.length:Int)] ((n.1/(9:Int))%(2:Int))).bind fun a20=>(gQ a19.1 a20).bind fun v=>M.ok (v,a19.2)).bind fun a21=>(dB W a21.1).bind fun v=>M.ok (v,a21.2)) a22 d')) fun(r:List (List Nat)×List Int)=>(∀ u∈r.1,u∈W)∧r.1≠[]∧r.1.length≤6:=fun d'=>by
   have i1:=fR (a:=n.1/2000) (m:=2) (by decide)
   have i2:=fR (a:=n.1/9) (m:=2) (by decide)
   refine aq (P:=fun(m:Int)=>1≤m∧m≤6) ?_ fun m hm=>?_
   ·refine aq (aq (eU (P:=fun v=>0<v∧v≤6) i1.1 (by simpa using i1.2) (by intro a ha;simp at ha;omega)) fun v hv=>?_) fun v hv=>aG hv
    rw[jK hv.1]
    have:=fR (a:=n.1/18) hv.1
    exact aG (P:=fun x=>1≤1+x∧1+x≤6) (by omega)
   ·rw[uZ (by omega) (by omega),M.aa]
    refine l9 (vS (fun _=>True) (fun u=>u∈W) trivial (fun _ _ _=>rfl) (fun x hx c _=>?_) (by simp;omega)) fun v hv=>?_
    ·refine aq (P:=fun(z:Int×List Int)=>0≤z.1∧z.1<6) ?_ fun z hz=>?_
     ·refine aq (fQ (nY _)) fun a _=>?_
      refine aq (eU (P:=fun v=>0<v∧v≤6) i2.1 (by simpa using i2.2) (by intro a ha;simp at ha;omega)) fun v hv=>?_
      rw[jK hv.1,M.aa]
      have:=fR (a:=a.1) hv.1
      exact aG (by dsimp only;omega)
     ·exact aq (eU (P:=fun u=>u∈W) hz.1 (by rw[hWl];omega) fun a ha=>ha) fun v hv=>aG ⟨hv,trivial⟩
    ·have hu:=hv.2.1
     have hv:=hv.1
     rw[List.length_map,List.length_range]at hv
     exact⟨hu,fun e=>by rw[e]at hv;simp at hv;omega,by omega⟩
  refine gG (fun hj5=>?_) fun hj5=>?_
  ·have hj5:=of_decide_eq_true hj5
   refine aq (fQ (AL _)) fun f hf=>?_
   refine gG (fun _=>?_) fun hj0=>gG (fun _=>?_) fun hj1=>gG (fun _=>?_) fun h=>absurd (decide_eq_true hj5) h
   ·rw[mQ (by simp;omega),M.aa,jK (by omega),M.aa]
    have hi:=fR (a:=n.1/9) (m:=(W.length:Int)+1) (by omega)
    refine aq (P:=GQ deep.toNat) (aq (P:=fun(z:D×Unit)=>∃ w,z.1=.str w∧w∈W++[sS "zz"]) (aq (P:=fun(z:D)=>∃ w,z=.str w∧w∈W++[sS "zz"]) (aq (eU (P:=fun w=>w∈W++[sS "zz"]) hi.1 (by simp;omega) fun a ha=>ha) fun v hv=>aG ⟨v,rfl,hv⟩) fun v hv=>aG hv) fun z hz=>?_) fun v hv=>aG hv
    obtain⟨w,e,hw⟩:=hz
    rw[e]
    exact aG (mq (q:=.word f.1 w) ⟨hf,Hc hW hw⟩)
   ·refine aq (P:=fun(v:D×List Int)=>GQ deep.toNat v.1) (aq (P:=fun(z:(D×List Int)×Unit)=>∃ w,z.1.1=.str w∧QP w) (aq (P:=fun(z:D×List Int)=>∃ w,z.1=.str w∧QP w) (aq (fQ (yl hW _)) fun v hv=>aG ⟨_,rfl,hv⟩) fun v hv=>aG hv) fun z hz=>?_) fun v hv=>aG hv
    obtain⟨w,e,hw⟩:=hz
    refine aG ?_
    show GQ _ (D.tup [_,_,z.1.1])
    rw[e]
    exact mq (q:=.like f.1 w) ⟨hf,hw⟩
   ·have hm:=many f.2
    rw[←M.bind_assoc]
    refine aq hm fun ws hws=>?_
    have hj0':j≠0:=fun e=>hj0 (md.mpr e)
    have hj1':j≠1:=fun e=>hj1 (md.mpr e)
    refine gG (fun _=>aG (mq (q:=.row f.1 ws.1) ⟨hf,zd hW hws⟩)) fun hj2=>?_
    have hj2':j≠2:=fun e=>hj2 (md.mpr e)
    refine aq (P:=GQ deep.toNat) ?_ fun v hv=>aG hv
    refine aq (P:=fun(z:D×D×Unit)=>(z.1=.str (sS "near")∨z.1=.str (sS "chain"))∧∃ w:Nat,z.2.1=.int (w:Int)∧w≤20∧1≤w) ?_ fun z hz=>?_
    ·refine aq (P:=fun(v:D)=>v=.str (sS "near")∨v=.str (sS "chain")) (aq (eU (P:=fun v=>v=sS "near"∨v=sS "chain") (i:=j- 3) (by omega) (by simp;omega) (by intro a ha;simpa using ha)) fun v hv=>aG (by rcases hv with rfl | rfl<;> simp)) fun a ha=>?_
     refine aq (P:=fun(w:D×Unit)=>∃ k:Nat,w.1=.int (k:Int)∧k≤20∧1≤k) ?_ fun w hw=>aG ⟨ha,hw⟩
     refine aq (P:=fun(w:D)=>∃ k:Nat,w=.int (k:Int)∧k≤20∧1≤k) ?_ fun w hw=>aG hw
     refine aq (P:=fun(v:Int)=>1≤v∧v≤20) ?_ fun v hv=>aG ⟨v.toNat,by rw[Int.toNat_of_nonneg (by omega)],by omega,by omega⟩
     refine aq (P:=fun(v:Int)=>0≤v∧v<20) ?_ fun v hv=>aG (by omega)
     have i4:=fR (a:=n.1/4000) (m:=2) (by decide)
     refine aq (eU (P:=fun v=>0<v∧v≤20) i4.1 (by simpa using i4.2) (by intro a ha;simp at ha;omega)) fun v hv=>?_
     rw[jK hv.1]
     have:=fR (a:=n.1/72) hv.1
     exact aG (by omega)
    ·obtain⟨hk,w,e,hw⟩:=hz
     refine aG ?_
     rw[e]
     rcases hk with hk | hk
     ·rw[hk];exact mq (q:=.near f.1 w ws.1) ⟨hf,zd hW hws,hw.2,hw.1⟩
     ·rw[hk];exact mq (q:=.chain f.1 w ws.1) ⟨hf,zd hW hws,hw.2,hw.1⟩
  ·have hj5:¬ j<5:=fun h=>hj5 (decide_eq_true h)
   have hd1:1≤deep:=by
    by_cases e:deep=0
    ·exact absurd (hj.2.2 e) hj5
    ·omega
   have ed:deep.toNat=(deep- 1).toNat+1:=by omega
   have srec:=fun d'=>qm hW k (deep- 1) d' (by omega) (by omega) (by omega)
   refine gG (fun h=>absurd (md.mp h) (by omega)) fun _=>gG (fun h=>absurd (md.mp h) (by omega)) fun _=>gG (fun h=>absurd (of_decide_eq_true h) hj5) fun _=>gG (fun _=>?_) fun _=>?_
   ·refine aq (P:=fun(v:D×List Int)=>GQ deep.toNat v.1) (aq (P:=fun(z:(D×List Int)×Unit)=>GQ (deep- 1).toNat z.1.1) (aq (fQ (srec _)) fun v hv=>aG hv) fun z hz=>?_) fun v hv=>aG hv
    obtain⟨q,e,hq⟩:=hz
    refine aG ⟨.neg q,?_,?_⟩
    ·show D.tup [_,z.1.1]=_
     rw[e];rfl
    ·rw[ed];exact hq
   ·refine aq (P:=fun(r:List D×List Int)=>r.1.length≤4∧∀ y∈r.1,GQ (deep- 1).toNat y) ?_ fun v hv=>?_
    ·refine aq (P:=fun(l:List Int)=>l.length≤4) ?_ fun l hl=>?_
     ·refine aq (P:=fun(z:Int×Unit)=>0≤z.1∧z.1≤4) ?_ fun z hz=>?_
      ·refine aq (P:=fun(z:Int)=>0≤z∧z≤4) ?_ fun z hz=>aG hz
       refine aq (eU (P:=fun v=>0<v∧v≤4) h0 (by simp;omega) (by intro a ha;simp at ha;omega)) fun v hv=>?_
       rw[jK hv.1]
       have:=fR (a:=n.1/9) hv.1
       exact aG (by omega)
      ·rw[uZ (by omega) (by omega)]
       exact aG (by simp;omega)
     ·exact l9 (vS (fun _=>True) (GQ (deep- 1).toNat) trivial (fun _ _ _=>rfl) (fun x hx c _=>l9 (fQ (srec c)) fun _ h=>⟨h,trivial⟩) (by omega)) fun v hv=>⟨by have:=hv.1;omega,hv.2.1⟩
    ·have i2:=fR (a:=j) (m:=2) (by decide)
     obtain⟨qs,eqs,hqs⟩:=yG v.1 hv.2
     have hl:=hv.1
     rw[eqs,List.length_map]at hl
     refine aq (P:=GQ deep.toNat) (aq (P:=fun(z:D×Unit)=>z.1=.str (sS "both")∨z.1=.str (sS "one")) (aq (P:=fun(z:D)=>z=.str (sS "both")∨z=.str (sS "one")) (aq (eU (P:=fun v=>v=sS "both"∨v=sS "one") i2.1 (by simpa using i2.2) (by intro a ha;simpa using ha)) fun v hv=>aG (by rcases hv with rfl | rfl<;> simp)) fun v hv=>aG hv) fun z hz=>?_) fun v hv=>aG hv
     refine aG ?_
     have el:eL eY v.1=.lst (ka qs):=by
      rw[iZ,←eqs]
      show D.lst (v.1.map fun x=>x)=_
      rw[List.map_id']
     rw[el,ed]
     rcases hz with hz | hz
     ·rw[hz];exact⟨.both qs,rfl,hl,hqs⟩
     ·rw[hz];exact⟨.one qs,rfl,hl,hqs⟩
end K81
namespace K81
open PySem L2 PyProof.Rows Vw
def rs(P X:List Nat):List Nat×Int:=(P++X,(P.length:Int))
theorem E8(P t Y:List Nat):((P++(t++Y),(P.length:Int)+(t.length:Int)):List Nat×Int)=rs (P++t) Y:=by
 unfold rs;simp
theorem gT{T:Type}[DecidableEq T](a:T):eqB a a=true:=by unfold eqB;exact decide_eq_true rfl
theorem qE{T:Type}[DecidableEq T]{a b:T}(h:a≠b):eqB a b=false:=by unfold eqB;exact decide_eq_false h
theorem vF{P X t:List Nat}(h:P.length+X.length+t.length≤1000000):ao (rs P X) t=.ok (eqB (X.take t.length) t):=by
 unfold ao rs
 rw[mc (by omega)]
 simp only[M.aa]
 rw[la (by simp;omega)]
 simp only[M.aa]
 rw[show(P.length:Int)+(t.length:Int)=((P.length+t.length:Nat):Int)from(Int.natCast_add ..).symm,sV,Nat.add_sub_cancel_left,List.drop_left]
theorem fh{P t Y:List Nat}(h:P.length+(t++Y).length+t.length≤1000000):ao (rs P (t++Y)) t=.ok true:=by
 rw[vF h,List.take_left,gT]
theorem fj{P X:List Nat}{c:Nat}(h:P.length+X.length≤999999)(hc:X.head? ≠some c):ao (rs P X) [c]=.ok false:=by
 rw[vF (by simp;omega)]
 cases X with
 | nil=>rfl
 | cons x X=>rw[qE (fun e=>hc (by simp at e;rw[e];rfl))]
theorem om(s:List Nat×Int):cM s true=.ok ():=rfl
theorem fu{P t Y:List Nat}(h:P.length+(t++Y).length+t.length≤1000000):au (rs P (t++Y)) t=.ok ((),rs (P++t) Y):=by
 unfold au
 rw[fh h]
 simp only[aN,M.aa]
 rw[om,M.aa,mc (by omega)]
 simp only[M.aa]
 rw[←E8]
 rfl
theorem xG{S:List Nat}:∀ (w P Y:List Nat) (n:Nat),(∀ c∈w,c∈S)→(∀ c,Y.head? =some c→c∉S)→w.length<n→P.length+w.length+Y.length≤1000000→
  ou (fun(c1:List Nat×Int)=>andM ((nT c1.1).bind fun a2=>M.ok (decide (c1.2<a2))) ((lJ c1.1 c1.2).bind fun a3=>M.ok (subIn a3 S))) (fun(c1:List Nat×Int)=>((M.ok (1:Int)).bind fun a4=>M.ok (c1.1,(c1.2+a4))).bind fun d5=>M.ok d5) n (rs P (w++Y))=.ok (rs (P++w) Y)
 | [],P,Y,0,h1,h2,h3,h4=>by omega
 | [],P,Y,n+1,h1,h2,h3,h4=>by
  rw[List.append_nil]
  refine uU ?_
  unfold rs
  dsimp only[List.nil_append]
  rw[mc (by simp at h4 ⊢;omega)]
  simp only[M.aa]
  cases Y with
  | nil=>
   rw[decide_eq_false (by simp)]
   rfl
  | cons c Y=>
   rw[decide_eq_true (by simp;omega)]
   simp only[cZ,if_true]
   unfold lJ
   rw[fU (decide_eq_true (by simp at h4 ⊢;rw[zL];omega)),M.aa,Vw.atI_nat (by simp)]
   simp only[List.getElem_append_right,Nat.le_refl,Nat.sub_self,List.getElem_cons_zero,M.aa]
   rw[je,decide_eq_false (h2 c rfl)]
 | c::w,P,Y,0,h1,h2,h3,h4=>by omega
 | c::w,P,Y,n+1,h1,h2,h3,h4=>by
  have hl:P.length+(c::w++Y).length≤1000000:=by simp at h4 ⊢;omega
  rw[sE (c':=rs (P++[c]) (w++Y)) ?_ ?_]
  ·rw[xG w (P++[c]) Y n (fun x hx=>h1 x (by simp[hx])) h2 (by simpa using h3) (by simp at h4 ⊢;omega)]
   rw[List.append_assoc]
   rfl
  ·unfold rs
   dsimp only
   rw[mc (by simp at hl ⊢;omega)]
   simp only[M.aa]
   rw[decide_eq_true (by simp;omega)]
   simp only[cZ,if_true]
   unfold lJ
   rw[fU (decide_eq_true (by simp at hl ⊢;rw[zL];omega)),M.aa,Vw.atI_nat (by simp)]
   simp only[List.cons_append,List.getElem_append_right,Nat.le_refl,Nat.sub_self,List.getElem_cons_zero,M.aa]
   rw[je,decide_eq_true (h1 c (by simp))]
  ·simp only[M.aa]
   unfold rs
   simp
theorem iI{P w Y S:List Nat}{most:Int}(h1:∀ c∈w,c∈S)(h2:∀ c,Y.head? =some c→c∉S)(h3:1≤w.length)(h4:(w.length:Int)≤most)(h:P.length+(w++Y).length≤900000):aL (rs P (w++Y)) S most=.ok (w,rs (P++w) Y):=by
 have hl:(w++Y).length=w.length+Y.length:=by simp
 unfold aL
 rw[xG w P Y jl h1 h2 (by unfold jl;omega) (by omega),M.aa]
 have e:(rs (P++w) Y).2-(rs P (w++Y)).2=(w.length:Int):=by unfold rs;simp;omega
 rw[e,decide_eq_true (by omega),decide_eq_true h4]
 rw[show(true&&true)=true from rfl,om,M.aa]
 unfold rs
 dsimp only
 rw[la (by simp;omega),M.aa,sV]
 rw[show(P++w).length-P.length=w.length by simp,List.append_assoc,List.drop_left,List.take_left]
end K81
namespace K81
open PySem L2 PyProof.Rows Vw
theorem DS:∀ w∈List.range 20,xA (dX (((w+1:Nat)):Int))=some (((w+1:Nat)):Int):=by decide+kernel
theorem EA:∀ w∈List.range 20,1≤(dX (((w+1:Nat)):Int)).length∧(dX (((w+1:Nat)):Int)).length≤2∧∀ c∈dX (((w+1:Nat)):Int),c∈AN:=by decide+kernel
theorem I8{w:Nat}(h:1≤w∧w≤20):xA (dX (w:Int))=some (w:Int):=by
 have:=DS (w- 1) (List.mem_range.mpr (by omega))
 rwa[show w- 1+1=w by omega]at this
theorem qH{w:Nat}(h:1≤w∧w≤20):1≤(dX (w:Int)).length∧(dX (w:Int)).length≤2∧∀ c∈dX (w:Int),c∈AN:=by
 have:=EA (w- 1) (List.mem_range.mpr (by omega))
 rwa[show w- 1+1=w by omega]at this
theorem Ak:aO (sS "abcdefghijklmnopqrstuvwxyz") (sS "0123456789")=.ok AN:=by kernel_rfl
theorem E4:aO AN (sS "?*")=.ok vN:=by kernel_rfl
theorem Bz:sS "\""=[34]:=by kernel_rfl
theorem BP:sS "~"=[126]:=by kernel_rfl
theorem Fu:sS "<"=[60]:=by kernel_rfl
theorem Fm:sS ">"=[62]:=by kernel_rfl
theorem Fv:sS "["=[91]:=by kernel_rfl
theorem Ek:sS "]"=[93]:=by kernel_rfl
theorem nS:sS " "=[32]:=by kernel_rfl
theorem mD:sS ":"=[58]:=by kernel_rfl
theorem uf:sS "!"=[33]:=by kernel_rfl
theorem sM:sS "("=[40]:=by kernel_rfl
theorem yf:sS ")"=[41]:=by kernel_rfl
theorem wM:sS "*"=[42]:=by kernel_rfl
theorem zi:sS "?"=[63]:=by kernel_rfl
theorem BN:sS "&"=[38]:=by kernel_rfl
theorem BY:sS "|"=[124]:=by kernel_rfl
theorem IB:sS "&|"=[38,124]:=by kernel_rfl
theorem gq:∀ c∈AN,c≠32∧c≠34∧c≠62∧c≠93∧c≠126∧c≠63∧c≠42∧c≠60∧c≠91∧c≠33∧c≠40∧c≠41∧c≠38∧c≠124:=by decide+kernel
theorem pZ:∀ c∈vN,c≠32∧c≠34∧c≠126∧c≠60∧c≠91∧c≠41:=by decide+kernel
theorem Gn:∀ c∈vN,c≠63→c≠42→c∈AN:=by decide+kernel
def jn(ns:Ws):List Nat:=TL.joinL [32] ns
def fC(ns:Ws):List Nat:=ns.flatMap fun w=>32::w
theorem sU(a:List Nat):∀ (u:List Nat) (r:Ws),TL.joinL a (u::r)=u++r.flatMap fun w=>a++w
 | u,[]=>by simp[TL.joinL]
 | u,v::r=>by
  rw[TL.joinL,sU a v r,List.flatMap_cons]
  simp
theorem uo(u:List Nat)(r:Ws):jn (u::r)=u++fC r:=sU [32] u r
theorem vf:∀ r:Ws,(∀ u∈r,tm u)→(fC r).length≤41*r.length
 | [],h=>by simp[fC]
 | u::r,h=>by
  have h1:=vf r fun v hv=>h v (by simp[hv])
  have h2:=(h u (by simp)).2.1
  unfold fC at h1 ⊢
  rw[List.flatMap_cons]
  simp at h1 ⊢
  omega
theorem ki{ns:Ws}(h:nH ns):(jn ns).length≤250:=by
 obtain⟨h1,h2,h3⟩:=h
 cases ns with
 | nil=>simp at h2
 | cons u r=>
  rw[uo,List.length_append]
  have:=vf r fun v hv=>h1 v (by simp[hv])
  have:=(h1 u (by simp)).2.1
  simp at h3
  omega
theorem tN{e:Nat}(he:e∉AN)(h32:e≠32):∀ (r acc:Ws) (P Y:List Nat) (n:Nat),(∀ u∈r,tm u)→r.length<n→P.length+(fC r++e::Y).length≤800000→acc.length+r.length≤1000→
  ou (fun(c8:(List (List Nat))×(List Nat×Int))=>(nox (ao c8.2 [e])).bind fun v=>M.ok (!v)) (fun(c8:(List (List Nat))×(List Nat×Int))=>(au c8.2 (sS " ")).bind fun u9=>(((aL u9.2 AN (40:Int)).bind fun a13=>M.ok (a13,())).bind fun z15=>(i7 c8.1 z15.1.1).bind fun v=>M.ok (v,z15.1.2)).bind fun dJ=>M.ok (dJ.1,dJ.2)) n (acc,rs P (fC r++e::Y))=.ok (acc++r,rs (P++fC r) (e::Y))
 | [],acc,P,Y,0,h1,h2,h3,h4=>by omega
 | [],acc,P,Y,n+1,h1,h2,h3,h4=>by
  rw[List.append_nil,show fC []=[]from rfl,List.append_nil,List.nil_append]
  refine uU ?_
  have:=fh (P:=P) (t:=[e]) (Y:=Y) (by simp[fC]at h3 ⊢;omega)
  dsimp only
  rw[show rs P (e::Y)=rs P ([e]++Y)from rfl,this]
  rfl
 | u::r,acc,P,Y,0,h1,h2,h3,h4=>by omega
 | u::r,acc,P,Y,n+1,h1,h2,h3,h4=>by
  have hu:=h1 u (by simp)
  have et:fC (u::r)++e::Y=[32]++(u++(fC r++e::Y)):=by
   unfold fC
   rw[List.flatMap_cons]
   simp
  rw[et]at h3 ⊢
  have hl:([32]++(u++(fC r++e::Y))).length=1+(u.length+(fC r++e::Y).length):=by simp;omega
  rw[hl]at h3
  have hh:∀ c,(fC r++e::Y).head? =some c→c∉AN:=fun c hc hm=>by
   cases r with
   | nil=>simp[fC]at hc;exact he (hc▸hm)
   | cons v r=>simp[fC]at hc;exact(gq c hm).1 hc.symm
  rw[sE (c':=(acc++[u],rs (P++[32]++u) (fC r++e::Y))) ?_ ?_]
  ·rw[tN he h32 r (acc++[u]) (P++[32]++u) Y n (fun v hv=>h1 v (by simp[hv])) (by simpa using h2) (by simp only[List.length_append,List.length_cons,List.length_nil]at h3 ⊢;omega) (by simp at h4 ⊢;omega)]
   have e2:P++[32]++u++fC r=P++fC (u::r):=by
    unfold fC
    rw[List.flatMap_cons]
    simp
   rw[e2]
   simp
  ·dsimp only
   rw[fj (by rw[hl];omega) (by simp;exact fun z=>h32 z.symm)]
   rfl
  ·dsimp only
   rw[nS,fu (by rw[hl];simp only[List.length_cons,List.length_nil];omega),M.aa]
   rw[iI hu.2.2 hh hu.1 (by have:=hu.2.1;omega) (by simp only[List.length_append,List.length_cons,List.length_nil]at h3 ⊢;omega)]
   simp only[M.aa]
   rw[oz (by simp at h4 ⊢;omega)]
   rfl
theorem sG{P Y:List Nat}{ns:Ws}{e:Nat}(he:e∉AN)(h32:e≠32)(h:nH ns)(hl:P.length+(jn ns++e::Y).length≤700000):c9 (rs P (jn ns++e::Y)) [e]=.ok (ns,rs (P++jn ns++[e]) Y):=by
 obtain⟨h1,h2,h3⟩:=h
 cases ns with
 | nil=>simp at h2
 | cons u r=>
  have hu:=h1 u (by simp)
  rw[uo]at hl ⊢
  rw[List.append_assoc]at hl ⊢
  have ll:(u++(fC r++e::Y)).length=u.length+(fC r++e::Y).length:=by simp
  have hh:∀ c,(fC r++e::Y).head? =some c→c∉AN:=fun c hc hm=>by
   cases r with
   | nil=>simp[fC]at hc;exact he (hc▸hm)
   | cons v r=>simp[fC]at hc;exact(gq c hm).1 hc.symm
  unfold c9
  rw[Ak]
  simp only[M.aa]
  rw[iI hu.2.2 hh hu.1 (by have:=hu.2.1;omega) (by omega)]
  simp only[M.aa]
  rw[tN he h32 r [u] (P++u) Y jl (fun v hv=>h1 v (by simp[hv])) (by unfold jl;simp at h3;omega) (by rw[ll]at hl;simp only[List.length_append]at hl ⊢;omega) (by simp at h3 ⊢;omega)]
  simp only[M.aa]
  rw[show rs (P++u++fC r) (e::Y)=rs (P++u++fC r) ([e]++Y)from rfl,fu (by simp only[List.length_append,List.length_cons,List.length_nil]at hl ⊢;omega)]
  simp only[M.aa]
  rw[decide_eq_true (by simp at h3 ⊢;omega),om]
  simp only[M.aa,List.singleton_append,List.append_assoc]
end K81
namespace K81
open PySem L2 PyProof.Rows Vw
def mF(p:List Nat):Bool:=decide (63∈p)||decide (42∈p)
def bd:Qn→List Nat
 | .word _ w=>w
 | .like _ p=>if mF p=true then p else 126::p
 | .row _ ns=>34::(jn ns++[34])
 | .near _ w ns=>dX (w:Int)++60::(jn ns++[62])
 | .chain _ w ns=>dX (w:Int)++91::(jn ns++[93])
 | _=>[]
def fieldOf:Qn→List Nat
 | .word f _=>f
 | .like f _=>f
 | .row f _=>f
 | .near f _ _=>f
 | .chain f _ _=>f
 | _=>[]
def Ao(Y:List Nat):Prop:=∀ c,Y.head? =some c→c=32∨c=41
theorem xV{Y:List Nat}(h:Ao Y):∀ c,Y.head? =some c→c∉vN:=fun c hc hm=>by
 have:=pZ c hm
 rcases h c hc with h | h
 ·exact this.1 h
 ·exact this.2.2.2.2.2 h
theorem Bw{w Y:List Nat}(h:1≤w.length):∃ c,c∈w∧(w++Y).head? =some c:=by
 cases w with
 | nil=>simp at h
 | cons c w=>exact⟨c,by simp,rfl⟩
theorem iK{P w Y:List Nat}{c:Nat}(h1:1≤w.length)(hw:∀ x∈w,x≠c)(h:P.length+(w++Y).length≤999999):ao (rs P (w++Y)) [c]=.ok false:=by
 obtain⟨x,hx,e⟩:=Bw (Y:=Y) h1
 exact fj h (by rw[e];exact fun z=>hw x hx (Option.some.inj z))
theorem tq{P Y:List Nat}{c:Nat}(hY:Ao Y)(h1:c≠32)(h2:c≠41)(h:P.length+Y.length≤999999):ao (rs P Y) [c]=.ok false:=
 fj h fun e=>(hY c e).elim h1 h2
theorem E6:(jB (1:Int) (21:Int)).bind (fun l24=>jm (fun(fX:Int)=>M.ok true) (fun(fX:Int)=>nV fX) l24)=.ok ((List.range 20).map fun i=>dX ((i+1:Nat):Int)):=by
 have e:jB (1:Int) (21:Int)=.ok ((List.range 20).map fun(i:Nat)=>((i+1:Nat):Int)):=by kernel_rfl
 rw[e,M.aa,vM (F:=dX) (fun _ _=>rfl) (fun x hx=>?_) (by simp),List.map_map]
 ·rfl
 ·obtain⟨i,hi,rfl⟩:=List.mem_map.mp hx
  have hi:=List.mem_range.mp hi
  unfold nV
  have:(((i+1:Nat):Int)).natAbs.log2<1920:=by
   rw[Int.natAbs_natCast]
   exact Nat.lt_of_lt_of_le (Nat.log2_lt (by omega) |>.mpr (show i+1<2^10 by omega)) (by decide)
  rw[fU (decide_eq_true this),M.aa]
theorem IJ{T:Type}[DecidableEq T]{a:T}{l:List T}(h:a∈l):uk a l=true:=by unfold uk;exact decide_eq_true h
theorem yC{w:Nat}(h:1≤w∧w≤20):uk (dX (w:Int)) ((List.range 20).map fun i=>dX ((i+1:Nat):Int))=true:=by
 refine IJ (List.mem_map.mpr ⟨w- 1,List.mem_range.mpr (by omega),?_⟩)
 rw[show w- 1+1=w by omega]
theorem yy{w:Nat}(h:1≤w∧w≤20):uC (dX (w:Int))=.ok (w:Int):=by
 unfold uC
 rw[I8 h]
theorem BH{q:Qn}(h:lb q){P Y:List Nat}(hY:Ao Y)(hl:P.length+(bd q++Y).length≤600000):eo (rs P (bd q++Y)) (fieldOf q)=.ok (eQ q,rs (P++bd q) Y):=by
 unfold eo
 rw[Bz,BP,Fu,Fv,Fm,Ek,Ak]
 simp only[M.aa]
 rw[E4]
 simp only[M.aa]
 cases q with
 | word f w=>
  obtain⟨hf,h1,h2,h3⟩:=h
  have e:bd (.word f w)=w:=rfl
  rw[e]at hl ⊢
  have hl2:(w++Y).length=w.length+Y.length:=by simp
  rw[iK h1 (fun x hx=>(gq x (h3 x hx)).2.1) (by omega),iK h1 (fun x hx=>(gq x (h3 x hx)).2.2.2.2.1) (by omega)]
  simp only[aN,M.aa,Bool.false_eq_true,if_false]
  rw[iI (fun c hc=>wA c (h3 c hc)) (xV hY) h1 (by omega) (by omega)]
  simp only[M.aa]
  rw[tq hY (by decide) (by decide) (by simp;omega),tq hY (by decide) (by decide) (by simp;omega)]
  simp only[aN,dc,M.aa,Bool.false_eq_true,if_false]
  rw[zi,wM,je,je,decide_eq_false (fun z=>(gq _ (h3 _ z)).2.2.2.2.2.1 rfl),decide_eq_false (fun z=>(gq _ (h3 _ z)).2.2.2.2.2.2.1 rfl)]
  rfl
 | like f p=>
  obtain⟨hf,h1,h2,h3⟩:=h
  by_cases hw:mF p=true
  ·have e:bd (.like f p)=p:=if_pos hw
   rw[e]at hl ⊢
   have hl2:(p++Y).length=p.length+Y.length:=by simp
   rw[iK h1 (fun x hx=>(pZ x (h3 x hx)).2.1) (by omega),iK h1 (fun x hx=>(pZ x (h3 x hx)).2.2.1) (by omega)]
   simp only[aN,M.aa,Bool.false_eq_true,if_false]
   rw[iI h3 (xV hY) h1 (by omega) (by omega)]
   simp only[M.aa]
   rw[tq hY (by decide) (by decide) (by simp;omega),tq hY (by decide) (by decide) (by simp;omega)]
   simp only[aN,dc,M.aa,Bool.false_eq_true,if_false]
   rw[zi,wM,je,je,show(decide (63∈p)||decide (42∈p))=true from hw]
   rfl
  ·have e:bd (.like f p)=[126]++p:=if_neg hw
   rw[e,List.append_assoc]at hl ⊢
   have hl2:([126]++(p++Y)).length=1+(p.length+Y.length):=by simp;omega
   have hw':63∉p∧42∉p:=by
    unfold mF at hw
    simp at hw
    exact hw
   rw[fj (by omega) (by simp)]
   simp only[aN,M.aa,Bool.false_eq_true,if_false]
   rw[fh (by rw[hl2];simp;omega)]
   simp only[aN,M.aa,if_true]
   rw[fu (by rw[hl2];simp;omega)]
   simp only[M.aa]
   rw[iI (fun c hc=>Gn c (h3 c hc) (fun z=>hw'.1 (z▸hc)) (fun z=>hw'.2 (z▸hc))) (fun c hc hm=>xV hY c hc (wA c hm)) h1 (by omega) (by simp;omega)]
   simp only[M.aa,List.append_assoc]
   rfl
 | row f ns=>
  obtain⟨hf,hn⟩:=h
  have e:bd (.row f ns)++Y=[34]++(jn ns++34::Y):=by
   show 34::(jn ns++[34])++Y=_
   simp
  rw[e]at hl ⊢
  have hl2:([34]++(jn ns++34::Y)).length=1+(jn ns++34::Y).length:=by simp;omega
  rw[fh (by simp at hl ⊢;omega)]
  simp only[aN,M.aa,if_true]
  rw[fu (by simp at hl ⊢;omega)]
  simp only[M.aa]
  rw[sG (fun z=>(gq _ z).2.1 rfl) (by decide) hn (by simp only[List.length_append,List.length_cons,List.length_nil]at hl ⊢;omega)]
  simp only[M.aa]
  have e2:P++bd (.row f ns)=P++[34]++jn ns++[34]:=by
   show P++34::(jn ns++[34])=_
   simp
  rw[e2]
  rfl
 | near f w ns=>
  obtain⟨hf,hn,hw⟩:=h
  obtain⟨d1,d2,d3⟩:=qH hw
  have e:bd (.near f w ns)++Y=dX (w:Int)++([60]++(jn ns++62::Y)):=by
   show(dX (w:Int)++60::(jn ns++[62]))++Y=_
   simp
  rw[e]at hl ⊢
  have hl2:(dX (w:Int)++([60]++(jn ns++62::Y))).length=(dX (w:Int)).length+(1+(jn ns++62::Y).length):=by simp;omega
  rw[iK d1 (fun x hx=>(gq x (d3 x hx)).2.1) (by omega),iK d1 (fun x hx=>(gq x (d3 x hx)).2.2.2.2.1) (by omega)]
  simp only[aN,M.aa,Bool.false_eq_true,if_false]
  rw[iI (fun c hc=>wA c (d3 c hc)) (fun c hc hm=>by simp at hc;exact(pZ c hm).2.2.2.1 hc.symm) d1 (by omega) (by omega)]
  simp only[M.aa]
  rw[fh (by simp only[List.length_append,List.length_cons,List.length_nil]at hl ⊢;omega)]
  simp only[aN,dc,M.aa,if_true]
  rw[E6]
  simp only[M.aa]
  rw[yC hw,om]
  simp only[M.aa]
  rw[fu (by simp only[List.length_append,List.length_cons,List.length_nil]at hl ⊢;omega)]
  simp only[M.aa]
  rw[yy hw]
  simp only[M.aa]
  rw[sG (fun z=>(gq _ z).2.2.1 rfl) (by decide) hn (by simp only[List.length_append,List.length_cons,List.length_nil]at hl ⊢;omega)]
  simp only[M.aa]
  have e2:P++bd (.near f w ns)=P++dX (w:Int)++[60]++jn ns++[62]:=by
   show P++(dX (w:Int)++60::(jn ns++[62]))=_
   simp
  rw[e2]
  rfl
 | chain f w ns=>
  obtain⟨hf,hn,hw⟩:=h
  obtain⟨d1,d2,d3⟩:=qH hw
  have e:bd (.chain f w ns)++Y=dX (w:Int)++([91]++(jn ns++93::Y)):=by
   show(dX (w:Int)++91::(jn ns++[93]))++Y=_
   simp
  rw[e]at hl ⊢
  have hl2:(dX (w:Int)++([91]++(jn ns++93::Y))).length=(dX (w:Int)).length+(1+(jn ns++93::Y).length):=by simp;omega
  rw[iK d1 (fun x hx=>(gq x (d3 x hx)).2.1) (by omega),iK d1 (fun x hx=>(gq x (d3 x hx)).2.2.2.2.1) (by omega)]
  simp only[aN,M.aa,Bool.false_eq_true,if_false]
  rw[iI (fun c hc=>wA c (d3 c hc)) (fun c hc hm=>by simp at hc;exact(pZ c hm).2.2.2.2.1 hc.symm) d1 (by omega) (by omega)]
  simp only[M.aa]
  rw[fj (c:=60) (by simp only[List.length_append,List.length_cons,List.length_nil]at hl ⊢;omega) (by simp),fh (by simp only[List.length_append,List.length_cons,List.length_nil]at hl ⊢;omega)]
  simp only[aN,dc,M.aa,if_true,Bool.false_eq_true,if_false]
  rw[E6]
  simp only[M.aa]
  rw[yC hw,om]
  simp only[M.aa]
  rw[fu (by simp only[List.length_append,List.length_cons,List.length_nil]at hl ⊢;omega)]
  simp only[M.aa]
  rw[yy hw]
  simp only[M.aa]
  rw[sG (fun z=>(gq _ z).2.2.2.1 rfl) (by decide) hn (by simp only[List.length_append,List.length_cons,List.length_nil]at hl ⊢;omega)]
  simp only[M.aa]
  have e2:P++bd (.chain f w ns)=P++dX (w:Int)++[91]++jn ns++[93]:=by
   show P++(dX (w:Int)++91::(jn ns++[93]))=_
   simp
  rw[e2]
  rfl
 | neg q=>exact h.elim
 | both qs=>exact h.elim
 | one qs=>exact h.elim
end K81
namespace K81
open PySem L2 PyProof.Rows Vw
def gF(sg:Nat):List (List Nat)→List Nat
 | []=>[sg]
 | [x]=>sg::32::x
 | x::y::r=>x++(y::r).flatMap fun w=>[32,sg,32]++w
mutual
def ln:Qn→List Nat
 | .word f w=>f++58::bd (.word f w)
 | .like f p=>f++58::bd (.like f p)
 | .row f ns=>f++58::bd (.row f ns)
 | .near f w ns=>f++58::bd (.near f w ns)
 | .chain f w ns=>f++58::bd (.chain f w ns)
 | .neg q=>33::ln q
 | .both qs=>40::(gF 38 (kY qs)++[41])
 | .one qs=>40::(gF 124 (kY qs)++[41])
def kY:List Qn→List (List Nat)
 | []=>[]
 | q::qs=>ln q::kY qs
end
theorem jH:∀ qs:List Qn,kY qs=qs.map ln
 | []=>by rw[kY];rfl
 | q::qs=>by rw[kY,jH qs];rfl
theorem kP{q:Qn}(h:lb q):ln q=fieldOf q++58::bd q:=by
 cases q<;> first | (rw[ln];rfl) | exact h.elim
theorem my{f:List Nat}(h:f∈FQ):f=[42]∨(1≤f.length∧f.length≤12∧∀ c∈f,c∈sS "abcdefghijklmnopqrstuvwxyz"):=by
 have:∀ f∈FQ,f=[42]∨(1≤f.length∧f.length≤12∧∀ c∈f,c∈sS "abcdefghijklmnopqrstuvwxyz"):=by decide+kernel
 exact this f h
theorem mS{q:Qn}(h:lb q):fieldOf q∈FQ:=by
 cases q<;> first | exact h.1 | exact h.elim
theorem AE:∀ c∈sS "abcdefghijklmnopqrstuvwxyz",c∈AN:=by decide+kernel
theorem DW:∀ f∈FQ,∃ c t,f=c::t∧c≠38∧c≠124∧c≠41:=by
 intro f hf
 rcases my hf with rfl | ⟨h1,_,h3⟩
 ·exact⟨42,[],rfl,by decide,by decide,by decide⟩
 ·cases f with
  | nil=>simp at h1
  | cons c t=>
   have:=gq c (AE c (h3 c (by simp)))
   exact⟨c,t,rfl,this.2.2.2.2.2.2.2.2.2.2.2.2.1,this.2.2.2.2.2.2.2.2.2.2.2.2.2,this.2.2.2.2.2.2.2.2.2.2.2.1⟩
theorem D3:∀ {k:Nat} {q:Qn},WQ k q→∃ c t,ln q=c::t∧c≠38∧c≠124∧c≠41:=by
 intro k q h
 have bas:lb q→∃ c t,ln q=c::t∧c≠38∧c≠124∧c≠41:=fun h=>by
  obtain⟨c,t,e,h2⟩:=DW _ (mS h)
  exact⟨c,t++58::bd q,by rw[kP h,e];rfl,h2⟩
 cases k with
 | zero=>exact bas h
 | succ k=>
  cases q with
  | neg q=>exact⟨33,_,by rw[ln],by decide,by decide,by decide⟩
  | both qs=>exact⟨40,_,by rw[ln],by decide,by decide,by decide⟩
  | one qs=>exact⟨40,_,by rw[ln],by decide,by decide,by decide⟩
  | word f w=>exact bas h
  | like f w=>exact bas h
  | row f w=>exact bas h
  | near f w n=>exact bas h
  | chain f w n=>exact bas h
theorem Dj:sO ([(sS "&",sS "both"),(sS "|",sS "one")]:List (List Nat×List Nat)) [38]=.ok (sS "both"):=by kernel_rfl
theorem Dm:sO ([(sS "&",sS "both"),(sS "|",sS "one")]:List (List Nat×List Nat)) [124]=.ok (sS "one"):=by kernel_rfl
theorem wI(l:List D):eL eY l=.lst l:=by
 show D.lst (l.map fun x=>x)=_
 rw[List.map_id']
def gn(sg:Nat)(l:List (List Nat)):List Nat:=l.flatMap fun w=>[32,sg,32]++w
theorem yZ{sg:Nat}{Y:List Nat}:∀ l:List (List Nat),Ao (gn sg l++41::Y)
 | []=>fun c hc=>by simp[gn]at hc;exact .inr hc.symm
 | w::l=>fun c hc=>by simp[gn]at hc;exact .inl hc.symm
def yN(recm:(List Nat×Int)→M (D×(List Nat×Int)))(q:Qn):Prop:=∀ (P Y:List Nat),Ao Y→P.length+(ln q++Y).length≤300000→recm (rs P (ln q++Y))=.ok (eQ q,rs (P++ln q) Y)
theorem vD{recm:(List Nat×Int)→M (D×(List Nat×Int))}{sg:Nat}(hsg:sg≠41):∀ (qs:List Qn) (acc:List D) (P Y:List Nat) (n:Nat),(∀ q∈qs,yN recm q)→qs.length<n→acc.length+qs.length≤1000→P.length+(gn sg (qs.map ln)++41::Y).length≤300000→
  ou (fun(c33:List D×(List Nat×Int))=>(nox (ao c33.2 [41])).bind fun v=>M.ok (!v)) (fun(c33:List D×(List Nat×Int))=>((((aO [32] [sg]).bind fun a34=>aO a34 [32]).bind fun a35=>M.ok (a35,())).bind fun z37=>au c33.2 z37.1).bind fun u38=>(((recm u38.2).bind fun a39=>M.ok (a39,())).bind fun z41=>(i7 c33.1 z41.1.1).bind fun v=>M.ok (v,z41.1.2)).bind fun hU=>M.ok (hU.1,hU.2)) n (acc,rs P (gn sg (qs.map ln)++41::Y))=.ok (acc++qs.map eQ,rs (P++gn sg (qs.map ln)) (41::Y))
 | [],acc,P,Y,0,h1,h2,h3,h4=>by omega
 | [],acc,P,Y,n+1,h1,h2,h3,h4=>by
  rw[List.map_nil,List.map_nil,List.append_nil,show gn sg []=[]from rfl,List.append_nil,List.nil_append]
  refine uU ?_
  have:=fh (P:=P) (t:=[41]) (Y:=Y) (by simp[gn]at h4 ⊢;omega)
  dsimp only
  rw[show rs P (41::Y)=rs P ([41]++Y)from rfl,this]
  rfl
 | u::r,acc,P,Y,0,h1,h2,h3,h4=>by omega
 | u::r,acc,P,Y,n+1,h1,h2,h3,h4=>by
  have et:gn sg ((u::r).map ln)++41::Y=[32,sg,32]++(ln u++(gn sg (r.map ln)++41::Y)):=by
   unfold gn
   rw[List.map_cons,List.flatMap_cons]
   simp
  rw[et]at h4 ⊢
  have hl:([32,sg,32]++(ln u++(gn sg (r.map ln)++41::Y))).length=3+((ln u).length+(gn sg (r.map ln)++41::Y).length):=by simp;omega
  rw[hl]at h4
  rw[sE (c':=(acc++[eQ u],rs (P++[32,sg,32]++ln u) (gn sg (r.map ln)++41::Y))) ?_ ?_]
  ·rw[vD hsg r (acc++[eQ u]) (P++[32,sg,32]++ln u) Y n (fun v hv=>h1 v (by simp[hv])) (by simpa using h2) (by simp at h3 ⊢;omega) (by simp only[List.length_append,List.length_cons,List.length_nil]at h4 ⊢;omega)]
   have e2:P++[32,sg,32]++ln u++gn sg (r.map ln)=P++gn sg ((u::r).map ln):=by
    unfold gn
    rw[List.map_cons,List.flatMap_cons]
    simp
   rw[e2]
   simp
  ·dsimp only
   rw[fj (by rw[hl];omega) (by simp)]
   rfl
  ·dsimp only
   rw[ay (by simp),M.aa,ay (by simp),M.aa,M.aa]
   dsimp only
   rw[show [32]++[sg]++[32]=[32,sg,32]from rfl,fu (by rw[hl];simp only[List.length_cons,List.length_nil];omega),M.aa]
   dsimp only
   rw[h1 u (by simp) _ _ (yZ _) (by simp only[List.length_append,List.length_cons,List.length_nil]at h4 ⊢;omega)]
   simp only[M.aa]
   rw[oz (by simp at h3 ⊢;omega)]
   rfl
theorem yH{recm:(List Nat×Int)→M (D×(List Nat×Int))}{sg:Nat}{kind:List Nat}(hsg:sg=38∨sg=124)(hk:sO ([(sS "&",sS "both"),(sS "|",sS "one")]:List (List Nat×List Nat)) [sg]=.ok kind){k:Nat}{qs:List Qn}(hq:∀ q∈qs,yN recm q∧WQ k q)(hn:qs.length≤4){P Y:List Nat}(hl:P.length+(gF sg (kY qs)++41::Y).length≤300000):
  fk recm (rs P (gF sg (kY qs)++41::Y))=.ok (.tup [.str kind,.lst (ka qs)],rs (P++gF sg (kY qs)++[41]) Y):=by
 have s41:sg≠41:=by omega
 have s32:sg≠32:=by omega
 have hab:∀ c∈[sg],c∈[38,124]:=fun c hc=>by
  rw[List.mem_singleton]at hc
  rw[hc]
  rcases hsg with h | h<;> rw[h]<;> simp
 have bg:∀ {P Z:List Nat},P.length+Z.length≤900000→(orM (nox (ao (rs P (sg::Z)) [38])) (nox (ao (rs P (sg::Z)) [124])))=.ok true:=fun {P Z} h=>by
  rcases hsg with e | e
  ·rw[e,show rs P (38::Z)=rs P ([38]++Z)from rfl,fh (by simp;omega)]
   rfl
  ·rw[e,fj (by simp;omega) (by simp),show rs P (124::Z)=rs P ([124]++Z)from rfl,fh (by simp;omega)]
   rfl
 unfold fk
 rw[BN,BY]at *
 rw[IB,yf,nS]
 simp only[M.aa]
 rw[jH,iZ]at *
 match qs,hq,hn,hl with
 | [],hq,hn,hl=>
  rw[List.map_nil,show gF sg []=[sg]from rfl]at hl ⊢
  rw[show [sg]++41::Y=sg::(41::Y)from rfl,bg (by simp at hl ⊢;omega)]
  simp only[M.aa,if_true]
  rw[show sg::(41::Y)=[sg]++(41::Y)from rfl,iI hab (fun c hc=>by simp at hc;rw[←hc];decide) (by simp) (by simp) (by simp at hl ⊢;omega)]
  simp only[M.aa]
  rw[show(41::Y)=[41]++Y from rfl,fh (by simp at hl ⊢;omega)]
  simp only[aN,M.aa,if_true]
  rw[fu (by simp at hl ⊢;omega)]
  simp only[M.aa]
  rw[hk]
  simp only[M.aa]
  rw[wI]
  rfl
 | [q],hq,hn,hl=>
  obtain⟨h1,h2⟩:=hq q (by simp)
  rw[show gF sg ([q].map ln)=[sg]++([32]++ln q)from rfl]at hl ⊢
  rw[show [sg]++([32]++ln q)++41::Y=sg::([32]++(ln q++41::Y)) by simp]at hl ⊢
  rw[bg (by simp at hl ⊢;omega)]
  simp only[M.aa,if_true]
  rw[show sg::([32]++(ln q++41::Y))=[sg]++([32]++(ln q++41::Y))from rfl,iI hab (fun c hc=>by simp at hc;rw[←hc];decide) (by simp) (by simp) (by simp at hl ⊢;omega)]
  simp only[M.aa]
  rw[fj (by simp at hl ⊢;omega) (by simp)]
  simp only[aN,M.aa,Bool.false_eq_true,if_false]
  rw[fu (by simp at hl ⊢;omega)]
  simp only[M.aa]
  rw[h1 _ _ (fun c hc=>by simp at hc;exact .inr hc.symm) (by simp at hl ⊢;omega)]
  simp only[M.aa]
  rw[show(41::Y)=[41]++Y from rfl,fu (by simp at hl ⊢;omega)]
  simp only[M.aa]
  rw[hk]
  simp only[M.aa]
  rw[wI]
  simp
 | q::q2::r,hq,hn,hl=>
  obtain⟨h1,w1⟩:=hq q (by simp)
  obtain⟨h2,_⟩:=hq q2 (by simp)
  obtain⟨c,t,ec,c1,c2,c3⟩:=D3 w1
  have einn:gF sg ((q::q2::r).map ln)=ln q++([32]++([sg]++([32]++(ln q2++gn sg (r.map ln))))):=by
   show ln q++gn sg (ln q2::r.map ln)=_
   unfold gn
   rw[List.flatMap_cons]
   simp
  rw[einn]at hl ⊢
  rw[show ln q++([32]++([sg]++([32]++(ln q2++gn sg (r.map ln)))))++41::Y=ln q++([32]++([sg]++([32]++(ln q2++(gn sg (r.map ln)++41::Y))))) by simp]at hl ⊢
  have hL:(ln q++([32]++([sg]++([32]++(ln q2++(gn sg (r.map ln)++41::Y)))))).length=(ln q).length+(3+((ln q2).length+(gn sg (r.map ln)++41::Y).length)):=by simp;omega
  rw[fj (c:=38) (by omega) (by rw[ec];simp;exact c1),fj (c:=124) (by omega) (by rw[ec];simp;exact c2)]
  simp only[aN,dc,M.aa,Bool.false_eq_true,if_false]
  rw[h1 _ _ (fun c hc=>by simp at hc;exact .inl hc.symm) (by omega)]
  simp only[M.aa]
  rw[fu (by simp only[List.length_append,List.length_cons,List.length_nil]at hl ⊢;omega)]
  simp only[M.aa]
  rw[iI hab (fun c hc=>by simp at hc;rw[←hc];decide) (by simp) (by simp) (by simp only[List.length_append,List.length_cons,List.length_nil]at hl ⊢;omega)]
  simp only[M.aa]
  rw[fu (by simp only[List.length_append,List.length_cons,List.length_nil]at hl ⊢;omega)]
  simp only[M.aa]
  rw[h2 _ _ (yZ _) (by simp only[List.length_append,List.length_cons,List.length_nil]at hl ⊢;omega)]
  simp only[M.aa]
  rw[oz (by simp)]
  simp only[M.aa]
  rw[vD s41 r _ _ Y jl (fun v hv=>(hq v (by simp[hv])).1) (by unfold jl;simp at hn;omega) (by simp at hn ⊢;omega) (by simp only[List.length_append,List.length_cons,List.length_nil]at hl ⊢;omega)]
  simp only[M.aa]
  rw[show(41::Y)=[41]++Y from rfl,fu (by simp only[List.length_append,List.length_cons,List.length_nil]at hl ⊢;omega)]
  simp only[M.aa]
  rw[hk]
  simp only[M.aa]
  rw[wI]
  simp
end K81
namespace K81
open PySem L2 PyProof.Rows Vw
theorem kH{q:Qn}(h:lb q)(j:Nat):yN (aM (j+1)) q:=fun P Y hY hl=>by
 have e:ln q++Y=fieldOf q++([58]++(bd q++Y)):=by
  rw[kP h]
  simp
 rw[e]at hl ⊢
 have hL:(fieldOf q++([58]++(bd q++Y))).length=(fieldOf q).length+(1+(bd q++Y).length):=by simp;omega
 have fin:∀ (f:List Nat),f=fieldOf q→((au (rs (P++f) ([58]++(bd q++Y))) [58]).bind fun u16=>(eo u16.2 f).bind fun v17=>M.ok v17)=.ok (eQ q,rs (P++ln q) Y):=fun f ef=>by
  rw[ef,fu (by simp only[List.length_append,List.length_cons,List.length_nil]at hl ⊢;omega),M.aa]
  dsimp only
  rw[BH h hY (by simp only[List.length_append,List.length_cons,List.length_nil]at hl ⊢;omega),M.aa,kP h]
  simp
 unfold aM
 dsimp only
 rw[uf,sM,wM,mD]
 rcases my (mS h)with ef | ⟨h1,h2,h3⟩
 ·rw[ef]at hl hL ⊢
  rw[fj (by omega) (by simp)]
  simp only[aN,M.aa,Bool.false_eq_true,if_false]
  rw[fj (by omega) (by simp)]
  simp only[aN,M.aa,Bool.false_eq_true,if_false]
  rw[fh (by rw[hL];simp only[List.length_cons,List.length_nil];omega)]
  simp only[aN,M.aa,if_true]
  rw[fu (by rw[hL];simp only[List.length_cons,List.length_nil];omega)]
  simp only[M.aa]
  have:=fin [42] ef.symm
  exact this
 ·have ha:∀ c∈fieldOf q,c≠33∧c≠40∧c≠42:=fun c hc=>by
   have:=gq c (AE c (h3 c hc))
   exact⟨this.2.2.2.2.2.2.2.2.2.1,this.2.2.2.2.2.2.2.2.2.2.1,this.2.2.2.2.2.2.1⟩
  rw[iK h1 (fun x hx=>(ha x hx).1) (by omega)]
  simp only[aN,M.aa,Bool.false_eq_true,if_false]
  rw[iK h1 (fun x hx=>(ha x hx).2.1) (by omega)]
  simp only[aN,M.aa,Bool.false_eq_true,if_false]
  rw[iK h1 (fun x hx=>(ha x hx).2.2) (by omega)]
  simp only[aN,M.aa,Bool.false_eq_true,if_false]
  rw[iI h3 (fun c hc=>by simp at hc;rw[←hc];decide+kernel) h1 (by omega) (by omega)]
  simp only[M.aa]
  have:=fin (fieldOf q) rfl
  exact this
theorem zb:∀ (k:Nat) {q:Qn},WQ k q→∀ j,yN (aM (k+j+1)) q
 | 0,q,h,j=>kH h _
 | k+1,q,h,j=>by
  cases q with
  | word f w=>exact kH (q:=.word f w) h _
  | like f w=>exact kH (q:=.like f w) h _
  | row f w=>exact kH (q:=.row f w) h _
  | near f w n=>exact kH (q:=.near f w n) h _
  | chain f w n=>exact kH (q:=.chain f w n) h _
  | neg q=>
   have ih:=zb k (q:=q) h j
   intro P Y hY hl
   rw[ln]at hl ⊢
   rw[show 33::ln q++Y=[33]++(ln q++Y)from rfl]at hl ⊢
   have hL:([33]++(ln q++Y)).length=1+(ln q++Y).length:=by simp;omega
   unfold aM
   dsimp only
   rw[uf,fh (by rw[hL];simp only[List.length_cons,List.length_nil];omega)]
   simp only[aN,M.aa,if_true]
   rw[fu (by rw[hL];simp only[List.length_cons,List.length_nil];omega)]
   simp only[M.aa]
   rw[show k+1+j=k+j+1 by omega,ih _ _ hY (by rw[hL]at hl;simp only[List.length_append,List.length_cons,List.length_nil]at hl ⊢;omega)]
   simp only[M.aa]
   rw[eQ]
   simp
  | both qs=>
   have ih:∀ q∈qs,yN (aM (k+j+1)) q∧WQ k q:=fun q hq=>⟨zb k (h.2 q hq) j,h.2 q hq⟩
   intro P Y hY hl
   rw[ln]at hl ⊢
   rw[show 40::(gF 38 (kY qs)++[41])++Y=[40]++(gF 38 (kY qs)++41::Y) by simp]at hl ⊢
   have hL:([40]++(gF 38 (kY qs)++41::Y)).length=1+(gF 38 (kY qs)++41::Y).length:=by simp;omega
   unfold aM
   dsimp only
   rw[uf,sM,fj (by omega) (by simp)]
   simp only[aN,M.aa,Bool.false_eq_true,if_false]
   rw[fh (by rw[hL];simp only[List.length_cons,List.length_nil];omega)]
   simp only[aN,M.aa,if_true]
   rw[fu (by rw[hL];simp only[List.length_cons,List.length_nil];omega)]
   simp only[M.aa]
   rw[show k+1+j=k+j+1 by omega,yH (.inl rfl) Dj ih h.1 (by rw[hL]at hl;simp only[List.length_append,List.length_cons,List.length_nil]at hl ⊢;omega)]
   simp only[M.aa]
   rw[eQ]
   simp
  | one qs=>
   have ih:∀ q∈qs,yN (aM (k+j+1)) q∧WQ k q:=fun q hq=>⟨zb k (h.2 q hq) j,h.2 q hq⟩
   intro P Y hY hl
   rw[ln]at hl ⊢
   rw[show 40::(gF 124 (kY qs)++[41])++Y=[40]++(gF 124 (kY qs)++41::Y) by simp]at hl ⊢
   have hL:([40]++(gF 124 (kY qs)++41::Y)).length=1+(gF 124 (kY qs)++41::Y).length:=by simp;omega
   unfold aM
   dsimp only
   rw[uf,sM,fj (by omega) (by simp)]
   simp only[aN,M.aa,Bool.false_eq_true,if_false]
   rw[fh (by rw[hL];simp only[List.length_cons,List.length_nil];omega)]
   simp only[aN,M.aa,if_true]
   rw[fu (by rw[hL];simp only[List.length_cons,List.length_nil];omega)]
   simp only[M.aa]
   rw[show k+1+j=k+j+1 by omega,yH (.inr rfl) Dm ih h.1 (by rw[hL]at hl;simp only[List.length_append,List.length_cons,List.length_nil]at hl ⊢;omega)]
   simp only[M.aa]
   rw[eQ]
   simp
theorem wX{q:Qn}(h:lb q):(bd q).length≤260:=by
 cases q with
 | word f w=>have:=h.2.2.1;show w.length≤260;omega
 | like f p=>
  have:=h.2.2.1
  show(if mF p=true then p else 126::p).length≤260
  split
  ·omega
  ·simp;omega
 | row f ns=>have:=ki h.2;show(34::(jn ns++[34])).length≤260;simp;omega
 | near f w ns=>have:=ki h.2.1;have:=(qH h.2.2).2.1;show(dX (w:Int)++60::(jn ns++[62])).length≤260;simp;omega
 | chain f w ns=>have:=ki h.2.1;have:=(qH h.2.2).2.1;show(dX (w:Int)++91::(jn ns++[93])).length≤260;simp;omega
 | _=>exact h.elim
theorem jI{q:Qn}(h:lb q):(ln q).length≤300:=by
 rw[kP h]
 have:=wX h
 have hf:(fieldOf q).length≤12:=by
  rcases my (mS h)with e | ⟨_,h2,_⟩
  ·rw[e];decide
  ·exact h2
 simp
 omega
theorem l8{sg B:Nat}{l:List (List Nat)}(h:∀ x∈l,x.length≤B)(hn:l.length≤4):(gF sg l).length≤4*B+10:=by
 match l,h,hn with
 | [],h,hn=>simp[gF]
 | [a],h,hn=>have:=h a (by simp);simp[gF];omega
 | [a,b],h,hn=>have:=h a (by simp);have:=h b (by simp);simp[gF];omega
 | [a,b,c],h,hn=>have:=h a (by simp);have:=h b (by simp);have:=h c (by simp);simp[gF];omega
 | [a,b,c,d],h,hn=>have:=h a (by simp);have:=h b (by simp);have:=h c (by simp);have:=h d (by simp);simp[gF];omega
 | a::b::c::d::e::r,h,hn=>exact absurd hn (by simp)
theorem jd:∀ (k:Nat) {q:Qn},WQ k q→(ln q).length≤300*5^k
 | 0,q,h=>by have:=jI h;omega
 | k+1,q,h=>by
  have hp:1≤5^k:=Nat.one_le_pow _ _ (by decide)
  have e5:300*5^(k+1)=300*5^k*5:=by rw[Nat.pow_succ,Nat.mul_assoc]
  rw[e5]
  cases q with
  | word f w=>have:=jI (q:=.word f w) h;omega
  | like f w=>have:=jI (q:=.like f w) h;omega
  | row f w=>have:=jI (q:=.row f w) h;omega
  | near f w n=>have:=jI (q:=.near f w n) h;omega
  | chain f w n=>have:=jI (q:=.chain f w n) h;omega
  | neg q=>have:=jd k (q:=q) h;rw[ln];simp;omega
  | both qs=>
   rw[ln,jH]
   have:=l8 (sg:=38) (B:=300*5^k) (l:=qs.map ln) (fun x hx=>by obtain⟨q,hq,rfl⟩:=List.mem_map.mp hx;exact jd k (h.2 q hq)) (by rw[List.length_map];exact h.1)
   simp
   omega
  | one qs=>
   rw[ln,jH]
   have:=l8 (sg:=124) (B:=300*5^k) (l:=qs.map ln) (fun x hx=>by obtain⟨q,hq,rfl⟩:=List.mem_map.mp hx;exact jd k (h.2 q hq)) (by rw[List.length_map];exact h.1)
   simp
   omega
theorem C7{q:Qn}(h:WQ 2 q):kj (ln q)=.ok (eQ q):=by
 have hl:=jd 2 h
 unfold kj jY
 have:=zb 2 h 1 [] [] (fun c hc=>by cases hc) (by simp;omega)
 rw[List.append_nil,List.nil_append]at this
 have e:rs [] (ln q)=(ln q,(0:Int)):=rfl
 rw[e]at this
 rw[this,M.aa]
 have e2:rs (ln q) []=(ln q,((ln q).length:Int)):=by unfold rs;simp
 rw[e2,mc (by omega)]
 simp only[M.aa]
 rw[gT,om]
 simp only[M.aa]
end K81
namespace K81
open PySem L2 PyProof.Rows Vw
theorem bA:eqB (sS "word") (sS "like")=false:=by kernel_rfl
theorem cf:eqB (sS "word") (sS "row")=false:=by kernel_rfl
theorem bh:eqB (sS "word") (sS "near")=false:=by kernel_rfl
theorem b9:eqB (sS "word") (sS "not")=false:=by kernel_rfl
theorem bC:eqB (sS "word") (sS "both")=false:=by kernel_rfl
theorem b3:eqB (sS "word") (sS "one")=false:=by kernel_rfl
theorem bw:eqB (sS "like") (sS "word")=false:=by kernel_rfl
theorem bQ:eqB (sS "like") (sS "row")=false:=by kernel_rfl
theorem bz:eqB (sS "like") (sS "near")=false:=by kernel_rfl
theorem b0:eqB (sS "like") (sS "not")=false:=by kernel_rfl
theorem bx:eqB (sS "like") (sS "both")=false:=by kernel_rfl
theorem bV:eqB (sS "like") (sS "one")=false:=by kernel_rfl
theorem bR:eqB (sS "row") (sS "word")=false:=by kernel_rfl
theorem cb:eqB (sS "row") (sS "like")=false:=by kernel_rfl
theorem bN:eqB (sS "row") (sS "near")=false:=by kernel_rfl
theorem cI:eqB (sS "row") (sS "not")=false:=by kernel_rfl
theorem bX:eqB (sS "row") (sS "both")=false:=by kernel_rfl
theorem cG:eqB (sS "row") (sS "one")=false:=by kernel_rfl
theorem br:eqB (sS "near") (sS "word")=false:=by kernel_rfl
theorem bq:eqB (sS "near") (sS "like")=false:=by kernel_rfl
theorem cc:eqB (sS "near") (sS "row")=false:=by kernel_rfl
theorem bO:eqB (sS "near") (sS "not")=false:=by kernel_rfl
theorem bj:eqB (sS "near") (sS "both")=false:=by kernel_rfl
theorem bW:eqB (sS "near") (sS "one")=false:=by kernel_rfl
theorem aT:eqB (sS "chain") (sS "word")=false:=by kernel_rfl
theorem aV:eqB (sS "chain") (sS "like")=false:=by kernel_rfl
theorem bt:eqB (sS "chain") (sS "row")=false:=by kernel_rfl
theorem aS:eqB (sS "chain") (sS "near")=false:=by kernel_rfl
theorem bB:eqB (sS "chain") (sS "not")=false:=by kernel_rfl
theorem aU:eqB (sS "chain") (sS "both")=false:=by kernel_rfl
theorem bp:eqB (sS "chain") (sS "one")=false:=by kernel_rfl
theorem bP:eqB (sS "not") (sS "word")=false:=by kernel_rfl
theorem bZ:eqB (sS "not") (sS "like")=false:=by kernel_rfl
theorem cK:eqB (sS "not") (sS "row")=false:=by kernel_rfl
theorem bS:eqB (sS "not") (sS "near")=false:=by kernel_rfl
theorem bU:eqB (sS "not") (sS "both")=false:=by kernel_rfl
theorem cJ:eqB (sS "not") (sS "one")=false:=by kernel_rfl
theorem bD:eqB (sS "both") (sS "word")=false:=by kernel_rfl
theorem bu:eqB (sS "both") (sS "like")=false:=by kernel_rfl
theorem bY:eqB (sS "both") (sS "row")=false:=by kernel_rfl
theorem bo:eqB (sS "both") (sS "near")=false:=by kernel_rfl
theorem ck:eqB (sS "both") (sS "not")=false:=by kernel_rfl
theorem bT:eqB (sS "both") (sS "one")=false:=by kernel_rfl
theorem cm:eqB (sS "one") (sS "word")=false:=by kernel_rfl
theorem b6:eqB (sS "one") (sS "like")=false:=by kernel_rfl
theorem cE:eqB (sS "one") (sS "row")=false:=by kernel_rfl
theorem cg:eqB (sS "one") (sS "near")=false:=by kernel_rfl
theorem cH:eqB (sS "one") (sS "not")=false:=by kernel_rfl
theorem cj:eqB (sS "one") (sS "both")=false:=by kernel_rfl
theorem cU:eqB (sS "word") (sS "word")=true:=gT _
theorem cT:eqB (sS "like") (sS "like")=true:=gT _
theorem dh:eqB (sS "row") (sS "row")=true:=gT _
theorem cR:eqB (sS "near") (sS "near")=true:=gT _
theorem dg:eqB (sS "not") (sS "not")=true:=gT _
theorem cQ:eqB (sS "both") (sS "both")=true:=gT _
theorem dj:eqB (sS "one") (sS "one")=true:=gT _
theorem eK(t:List Nat):gi (.str t)=.ok t:=rfl
theorem fJ(t:Int):uV (.int t)=.ok t:=rfl
theorem zT{T:Type}{e:T→D}{f:D→M T}(hf:∀ a,f (e a)=.ok a)(l:List T):sX f (eL e l)=.ok l:=by
 show lC f (l.map e)=_
 induction l with
 | nil=>rfl
 | cons a l ih=>rw[List.map_cons,lC,hf,M.aa,ih];rfl
theorem vj:∀ l:List D,lC (fun d=>M.ok d) l=.ok l
 | []=>rfl
 | a::l=>by rw[lC,M.aa,vj l];rfl
theorem rk(ws:Ws):sX (fun d=>M.ok d) (eL D.str ws)=.ok (ws.map D.str):=vj _
theorem wz(l:List D):sX (fun d=>M.ok d) (.lst l)=.ok l:=vj l
theorem DN{ns:Ws}(h:nH ns):(ns.map (·.length)).sum≤240:=by
 obtain⟨h1,_,h3⟩:=h
 have:∀ l:Ws,(∀ u∈l,tm u)→(l.map (·.length)).sum≤40*l.length:=by
  intro l
  induction l with
  | nil=>intro _;simp
  | cons u l ih=>
   intro h
   have a:=ih fun v hv=>h v (by simp[hv])
   have b:=(h u (by simp)).2.1
   simp at a ⊢
   omega
 have:=this ns h1
 omega
theorem uK{ns:Ws}(h:nH ns):joinM (sS " ") ns=.ok (jn ns):=by
 have a:=DN h
 have b:=h.2.2
 unfold joinM
 rw[nS,fU (decide_eq_true (by simp;omega)),M.aa,yb]
 rfl
theorem wu{w:Nat}(h:1≤w∧w≤20):nV (w:Int)=.ok (dX (w:Int)):=by
 unfold nV
 have:((w:Int)).natAbs.log2<1920:=by
  rw[Int.natAbs_natCast]
  exact Nat.lt_of_lt_of_le (Nat.log2_lt (by omega) |>.mpr (show w<2^10 by omega)) (by decide)
 rw[fU (decide_eq_true this),M.aa]
theorem DE{q:Qn}(h:lb q):j3 (eQ q)=.ok (bd q):=by
 unfold j3
 cases q with
 | word f w=>
  have k0:bM (eQ (.word f w)) (0:Int)=.ok (.str (sS "word")):=rfl
  have k2:bM (eQ (.word f w)) (2:Int)=.ok (.str w):=rfl
  simp only[k0,k2,M.aa,aN,eK,fJ,if_true,if_false,Bool.false_eq_true,Bool.not_true,Bool.not_false,cZ,dc,bA,cf,bh,b9,bC,b3,bw,bQ,bz,b0,bx,bV,bR,cb,bN,cI,bX,cG,br,bq,cc,bO,bj,bW,aT,aV,bt,aS,bB,aU,bp,bP,bZ,cK,bS,bU,cJ,bD,bu,bY,bo,ck,bT,cm,b6,cE,cg,cH,cj,cU,cT,dh,cR,dg,cQ,dj]
  rfl
 | like f p=>
  have hp:=h.2.2.1
  have k0:bM (eQ (.like f p)) (0:Int)=.ok (.str (sS "like")):=rfl
  have k2:bM (eQ (.like f p)) (2:Int)=.ok (.str p):=rfl
  simp only[k0,k2,M.aa,aN,eK,fJ,if_true,if_false,Bool.false_eq_true,Bool.not_true,Bool.not_false,cZ,dc,bA,cf,bh,b9,bC,b3,bw,bQ,bz,b0,bx,bV,bR,cb,bN,cI,bX,cG,br,bq,cc,bO,bj,bW,aT,aV,bt,aS,bB,aU,bp,bP,bZ,cK,bS,bU,cJ,bD,bu,bY,bo,ck,bT,cm,b6,cE,cg,cH,cj,cU,cT,dh,cR,dg,cQ,dj]
  rw[zi,wM,BP,je,je]
  show _=M.ok (if mF p=true then p else 126::p)
  rw[ay (by simp;omega)]
  unfold mF
  by_cases h1:63∈p
  ·simp[h1]
  ·by_cases h2:42∈p
   ·simp[h1,h2]
   ·simp[h1,h2]
 | row f ns=>
  have hn:=h.2
  have hj:=ki hn
  have k0:bM (eQ (.row f ns)) (0:Int)=.ok (.str (sS "row")):=rfl
  have k2:bM (eQ (.row f ns)) (-(1:Int))=.ok (eL D.str ns):=rfl
  simp only[k0,k2,M.aa,aN,eK,fJ,if_true,if_false,Bool.false_eq_true,Bool.not_true,Bool.not_false,cZ,dc,bA,cf,bh,b9,bC,b3,bw,bQ,bz,b0,bx,bV,bR,cb,bN,cI,bX,cG,br,bq,cc,bO,bj,bW,aT,aV,bt,aS,bB,aU,bp,bP,bZ,cK,bS,bU,cJ,bD,bu,bY,bo,ck,bT,cm,b6,cE,cg,cH,cj,cU,cT,dh,cR,dg,cQ,dj,zT eK,uK hn]
  rw[Bz,ay (by simp;omega),M.aa,ay (by simp;omega),M.aa]
  rfl
 | near f w ns=>
  obtain⟨hf,hn,hw⟩:=h
  have hj:=ki hn
  have hd:=(qH hw).2.1
  have k0:bM (eQ (.near f w ns)) (0:Int)=.ok (.str (sS "near")):=rfl
  have k1:bM (eQ (.near f w ns)) (2:Int)=.ok (.int w):=rfl
  have k2:bM (eQ (.near f w ns)) (-(1:Int))=.ok (eL D.str ns):=rfl
  simp only[k0,k1,k2,M.aa,aN,eK,fJ,if_true,if_false,Bool.false_eq_true,Bool.not_true,Bool.not_false,cZ,dc,bA,cf,bh,b9,bC,b3,bw,bQ,bz,b0,bx,bV,bR,cb,bN,cI,bX,cG,br,bq,cc,bO,bj,bW,aT,aV,bt,aS,bB,aU,bp,bP,bZ,cK,bS,bU,cJ,bD,bu,bY,bo,ck,bT,cm,b6,cE,cg,cH,cj,cU,cT,dh,cR,dg,cQ,dj,zT eK,uK hn,wu hw]
  rw[Fu,Fm,ay (by simp;omega),M.aa,ay (by simp;omega),M.aa,ay (by simp;omega),M.aa]
  show M.ok _=M.ok (dX (w:Int)++60::(jn ns++[62]))
  simp
 | chain f w ns=>
  obtain⟨hf,hn,hw⟩:=h
  have hj:=ki hn
  have hd:=(qH hw).2.1
  have k0:bM (eQ (.chain f w ns)) (0:Int)=.ok (.str (sS "chain")):=rfl
  have k1:bM (eQ (.chain f w ns)) (2:Int)=.ok (.int w):=rfl
  have k2:bM (eQ (.chain f w ns)) (-(1:Int))=.ok (eL D.str ns):=rfl
  simp only[k0,k1,k2,M.aa,aN,eK,fJ,if_true,if_false,Bool.false_eq_true,Bool.not_true,Bool.not_false,cZ,dc,bA,cf,bh,b9,bC,b3,bw,bQ,bz,b0,bx,bV,bR,cb,bN,cI,bX,cG,br,bq,cc,bO,bj,bW,aT,aV,bt,aS,bB,aU,bp,bP,bZ,cK,bS,bU,cJ,bD,bu,bY,bo,ck,bT,cm,b6,cE,cg,cH,cj,cU,cT,dh,cR,dg,cQ,dj,zT eK,uK hn,wu hw]
  rw[Fv,Ek,ay (by simp;omega),M.aa,ay (by simp;omega),M.aa,ay (by simp;omega),M.aa]
  show M.ok _=M.ok (dX (w:Int)++91::(jn ns++[93]))
  simp
 | neg q=>exact h.elim
 | both qs=>exact h.elim
 | one qs=>exact h.elim
theorem iY{q:Qn}(h:lb q)(j:Nat):dw (j+1) (eQ q)=.ok (ln q):=by
 have hs:=DE h
 have hb:=wX h
 have hf:(fieldOf q).length≤12:=by
  rcases my (mS h)with e | ⟨_,h2,_⟩
  ·rw[e];decide
  ·exact h2
 rw[kP h]
 unfold dw
 dsimp only
 cases q with
 | word f w=>
  have k0:bM (eQ (.word f w)) (0:Int)=.ok (.str (sS "word")):=rfl
  have k1:bM (eQ (.word f w)) (1:Int)=.ok (.str f):=rfl
  have hf:f.length≤12:=hf
  simp only[k0,k1,M.aa,aN,eK,fJ,if_true,if_false,Bool.false_eq_true,Bool.not_true,Bool.not_false,cZ,dc,bA,cf,bh,b9,bC,b3,bw,bQ,bz,b0,bx,bV,bR,cb,bN,cI,bX,cG,br,bq,cc,bO,bj,bW,aT,aV,bt,aS,bB,aU,bp,bP,bZ,cK,bS,bU,cJ,bD,bu,bY,bo,ck,bT,cm,b6,cE,cg,cH,cj,cU,cT,dh,cR,dg,cQ,dj,hs]
  rw[mD,ay (by simp;omega),M.aa,ay (by simp;omega),M.aa]
  show M.ok (f++[58]++_)=M.ok (f++58::_)
  simp
 | like f p=>
  have k0:bM (eQ (.like f p)) (0:Int)=.ok (.str (sS "like")):=rfl
  have k1:bM (eQ (.like f p)) (1:Int)=.ok (.str f):=rfl
  have hf:f.length≤12:=hf
  simp only[k0,k1,M.aa,aN,eK,fJ,if_true,if_false,Bool.false_eq_true,Bool.not_true,Bool.not_false,cZ,dc,bA,cf,bh,b9,bC,b3,bw,bQ,bz,b0,bx,bV,bR,cb,bN,cI,bX,cG,br,bq,cc,bO,bj,bW,aT,aV,bt,aS,bB,aU,bp,bP,bZ,cK,bS,bU,cJ,bD,bu,bY,bo,ck,bT,cm,b6,cE,cg,cH,cj,cU,cT,dh,cR,dg,cQ,dj,hs]
  rw[mD,ay (by simp;omega),M.aa,ay (by simp;omega),M.aa]
  show M.ok (f++[58]++_)=M.ok (f++58::_)
  simp
 | row f ns=>
  have k0:bM (eQ (.row f ns)) (0:Int)=.ok (.str (sS "row")):=rfl
  have k1:bM (eQ (.row f ns)) (1:Int)=.ok (.str f):=rfl
  have hf:f.length≤12:=hf
  simp only[k0,k1,M.aa,aN,eK,fJ,if_true,if_false,Bool.false_eq_true,Bool.not_true,Bool.not_false,cZ,dc,bA,cf,bh,b9,bC,b3,bw,bQ,bz,b0,bx,bV,bR,cb,bN,cI,bX,cG,br,bq,cc,bO,bj,bW,aT,aV,bt,aS,bB,aU,bp,bP,bZ,cK,bS,bU,cJ,bD,bu,bY,bo,ck,bT,cm,b6,cE,cg,cH,cj,cU,cT,dh,cR,dg,cQ,dj,hs]
  rw[mD,ay (by simp;omega),M.aa,ay (by simp;omega),M.aa]
  show M.ok (f++[58]++_)=M.ok (f++58::_)
  simp
 | near f w ns=>
  have k0:bM (eQ (.near f w ns)) (0:Int)=.ok (.str (sS "near")):=rfl
  have k1:bM (eQ (.near f w ns)) (1:Int)=.ok (.str f):=rfl
  have hf:f.length≤12:=hf
  simp only[k0,k1,M.aa,aN,eK,fJ,if_true,if_false,Bool.false_eq_true,Bool.not_true,Bool.not_false,cZ,dc,bA,cf,bh,b9,bC,b3,bw,bQ,bz,b0,bx,bV,bR,cb,bN,cI,bX,cG,br,bq,cc,bO,bj,bW,aT,aV,bt,aS,bB,aU,bp,bP,bZ,cK,bS,bU,cJ,bD,bu,bY,bo,ck,bT,cm,b6,cE,cg,cH,cj,cU,cT,dh,cR,dg,cQ,dj,hs]
  rw[mD,ay (by simp;omega),M.aa,ay (by simp;omega),M.aa]
  show M.ok (f++[58]++_)=M.ok (f++58::_)
  simp
 | chain f w ns=>
  have k0:bM (eQ (.chain f w ns)) (0:Int)=.ok (.str (sS "chain")):=rfl
  have k1:bM (eQ (.chain f w ns)) (1:Int)=.ok (.str f):=rfl
  have hf:f.length≤12:=hf
  simp only[k0,k1,M.aa,aN,eK,fJ,if_true,if_false,Bool.false_eq_true,Bool.not_true,Bool.not_false,cZ,dc,bA,cf,bh,b9,bC,b3,bw,bQ,bz,b0,bx,bV,bR,cb,bN,cI,bX,cG,br,bq,cc,bO,bj,bW,aT,aV,bt,aS,bB,aU,bp,bP,bZ,cK,bS,bU,cJ,bD,bu,bY,bo,ck,bT,cm,b6,cE,cg,cH,cj,cU,cT,dh,cR,dg,cQ,dj,hs]
  rw[mD,ay (by simp;omega),M.aa,ay (by simp;omega),M.aa]
  show M.ok (f++[58]++_)=M.ok (f++58::_)
  simp
 | neg q=>exact h.elim
 | both qs=>exact h.elim
 | one qs=>exact h.elim
theorem x8{recm:D→M (List Nat)}{qs:List Qn}(h:∀ q∈qs,recm (eQ q)=.ok (ln q))(hn:qs.length≤4):jm (fun(one18:D)=>M.ok true) (fun(one18:D)=>nox (recm one18)) (qs.map eQ)=.ok (qs.map ln):=by
 have key:∀ (l:List Qn) (acc:List (List Nat)),(∀ q∈l,recm (eQ q)=.ok (ln q))→acc.length+l.length≤1000→js (fun(one18:D)=>M.ok true) (fun(one18:D)=>nox (recm one18)) acc (l.map eQ)=.ok (acc++l.map ln):=by
  intro l
  induction l with
  | nil=>intro acc _ _;simp[js]
  | cons q l ih=>
   intro acc h hl
   simp only[List.map_cons,js,M.aa,if_true]
   rw[h q (by simp),aN,M.aa,fU (decide_eq_true (by rw[zL];simp at hl;omega)),M.aa,ih _ (fun q hq=>h q (by simp[hq])) (by simp at hl ⊢;omega)]
   simp
 unfold jm
 rw[key qs [] h (by simp;omega)]
 rfl
theorem wO{sg:Nat}{l:List (List Nat)}{B:Nat}(h:∀ x∈l,x.length≤B)(hB:B≤100000)(hn:l.length≤4)(h2:2≤l.length):joinM ([32]++[sg]++[32]) l=.ok (gF sg l):=by
 match l,h,hn,h2 with
 | [],_,_,h2=>simp at h2
 | [a],_,_,h2=>simp at h2
 | a::b::r,h,hn,h2=>
  have hs:((a::b::r).map (·.length)).sum≤B*(a::b::r).length:=by
   generalize a::b::r=l at h
   clear hn h2
   induction l with
   | nil=>simp
   | cons u l ih=>
    have x:=ih fun v hv=>h v (by simp[hv])
    have y:=h u (by simp)
    simp only[List.map_cons,List.sum_cons,List.length_cons,Nat.mul_succ]at x ⊢
    omega
  have hm:B*(a::b::r).length≤100000*4:=Nat.mul_le_mul hB hn
  unfold joinM
  rw[fU (decide_eq_true (by simp only[List.length_append,List.length_cons,List.length_nil]at *;omega)),M.aa,yb,sU]
  rfl
theorem rg:∀ (k:Nat) {q:Qn},WQ k q→∀ j,k≤2→dw (k+j+1) (eQ q)=.ok (ln q)
 | 0,q,h,j,hk=>iY h _
 | k+1,q,h,j,hk=>by
  cases q with
  | word f w=>exact iY (q:=.word f w) h _
  | like f p=>exact iY (q:=.like f p) h _
  | row f ns=>exact iY (q:=.row f ns) h _
  | near f w ns=>exact iY (q:=.near f w ns) h _
  | chain f w ns=>exact iY (q:=.chain f w ns) h _
  | neg q=>
   have hB:300*5^k≤90000:=by have:5^k≤5^2:=Nat.pow_le_pow_right (by decide) (by omega);omega
   have hq:=jd k (q:=q) h
   have ih:=rg k (q:=q) h j (by omega)
   have k0:bM (eQ (.neg q)) (0:Int)=.ok (.str (sS "not")):=by rw[eQ];rfl
   have k1:bM (eQ (.neg q)) (1:Int)=.ok (eQ q):=by rw[eQ];rfl
   rw[ln]
   unfold dw
   dsimp only
   simp only[k0,k1,M.aa,aN,eK,fJ,if_true,if_false,Bool.false_eq_true,Bool.not_true,Bool.not_false,cZ,dc,bA,cf,bh,b9,bC,b3,bw,bQ,bz,b0,bx,bV,bR,cb,bN,cI,bX,cG,br,bq,cc,bO,bj,bW,aT,aV,bt,aS,bB,aU,bp,bP,bZ,cK,bS,bU,cJ,bD,bu,bY,bo,ck,bT,cm,b6,cE,cg,cH,cj,cU,cT,dh,cR,dg,cQ,dj]
   rw[show k+1+j=k+j+1 by omega,ih,aN,M.aa,uf,ay (by simp;omega),M.aa]
   rfl
  | both qs=>
   have hB:300*5^k≤90000:=by have:5^k≤5^2:=Nat.pow_le_pow_right (by decide) (by omega);omega
   have hx:∀ x∈qs.map ln,x.length≤300*5^k:=fun x hx=>by obtain⟨q,hq,rfl⟩:=List.mem_map.mp hx;exact jd k (h.2 q hq)
   have hi:=l8 (sg:=38) hx (by rw[List.length_map];exact h.1)
   have ih:=x8 (recm:=dw (k+j+1)) (qs:=qs) (fun q hq=>rg k (h.2 q hq) j (by omega)) h.1
   have k0:bM (eQ (.both qs)) (0:Int)=.ok (.str (sS "both")):=by rw[eQ];rfl
   have k1:bM (eQ (.both qs)) (1:Int)=.ok (.lst (qs.map eQ)):=by rw[eQ,iZ];rfl
   rw[ln,jH]
   unfold dw
   dsimp only
   simp only[k0,k1,M.aa,aN,eK,fJ,if_true,if_false,Bool.false_eq_true,Bool.not_true,Bool.not_false,cZ,dc,bA,cf,bh,b9,bC,b3,bw,bQ,bz,b0,bx,bV,bR,cb,bN,cI,bX,cG,br,bq,cc,bO,bj,bW,aT,aV,bt,aS,bB,aU,bp,bP,bZ,cK,bS,bU,cJ,bD,bu,bY,bo,ck,bT,cm,b6,cE,cg,cH,cj,cU,cT,dh,cR,dg,cQ,dj,wz]
   rw[show k+1+j=k+j+1 by omega,ih]
   simp only[M.aa]
   rw[BN,sM,yf,nS]
   by_cases h0:qs.length=0
   ·have:qs=[]:=List.length_eq_zero_iff.mp h0
    subst this
    rw[show eqB ((([]:List Qn).map ln).length:Int) (0:Int)=true from rfl,if_pos rfl,ay (by simp),M.aa,ay (by simp),M.aa]
    rfl
   ·rw[qE (by rw[List.length_map];omega)]
    simp only[Bool.false_eq_true,if_false]
    by_cases h1:qs.length=1
    ·obtain⟨a,rfl⟩:=List.length_eq_one_iff.mp h1
     have ha:=hx (ln a) (by simp)
     rw[show eqB ((([a]:List Qn).map ln).length:Int) (1:Int)=true from rfl,if_pos rfl,ay (by simp),M.aa,ay (by simp),M.aa,show dB ([a].map ln) (0:Int)=.ok (ln a)from rfl,M.aa,ay (by simp;omega),M.aa,ay (by simp;omega),M.aa]
     show M.ok _=M.ok (40::(38::32::ln a++[41]))
     simp
    ·rw[qE (by rw[List.length_map];omega)]
     simp only[Bool.false_eq_true,if_false]
     rw[ay (by simp),M.aa,ay (by simp),M.aa]
     try simp only[M.aa]
     rw[wO hx (by omega) (by rw[List.length_map];exact h.1) (by rw[List.length_map];omega),M.aa,ay (by simp;omega),M.aa,ay (by simp;omega),M.aa]
     simp
  | one qs=>
   have hB:300*5^k≤90000:=by have:5^k≤5^2:=Nat.pow_le_pow_right (by decide) (by omega);omega
   have hx:∀ x∈qs.map ln,x.length≤300*5^k:=fun x hx=>by obtain⟨q,hq,rfl⟩:=List.mem_map.mp hx;exact jd k (h.2 q hq)
   have hi:=l8 (sg:=124) hx (by rw[List.length_map];exact h.1)
   have ih:=x8 (recm:=dw (k+j+1)) (qs:=qs) (fun q hq=>rg k (h.2 q hq) j (by omega)) h.1
   have k0:bM (eQ (.one qs)) (0:Int)=.ok (.str (sS "one")):=by rw[eQ];rfl
   have k1:bM (eQ (.one qs)) (1:Int)=.ok (.lst (qs.map eQ)):=by rw[eQ,iZ];rfl
   rw[ln,jH]
   unfold dw
   dsimp only
   simp only[k0,k1,M.aa,aN,eK,fJ,if_true,if_false,Bool.false_eq_true,Bool.not_true,Bool.not_false,cZ,dc,bA,cf,bh,b9,bC,b3,bw,bQ,bz,b0,bx,bV,bR,cb,bN,cI,bX,cG,br,bq,cc,bO,bj,bW,aT,aV,bt,aS,bB,aU,bp,bP,bZ,cK,bS,bU,cJ,bD,bu,bY,bo,ck,bT,cm,b6,cE,cg,cH,cj,cU,cT,dh,cR,dg,cQ,dj,wz]
   rw[show k+1+j=k+j+1 by omega,ih]
   simp only[M.aa]
   rw[BY,sM,yf,nS]
   by_cases h0:qs.length=0
   ·have:qs=[]:=List.length_eq_zero_iff.mp h0
    subst this
    rw[show eqB ((([]:List Qn).map ln).length:Int) (0:Int)=true from rfl,if_pos rfl,ay (by simp),M.aa,ay (by simp),M.aa]
    rfl
   ·rw[qE (by rw[List.length_map];omega)]
    simp only[Bool.false_eq_true,if_false]
    by_cases h1:qs.length=1
    ·obtain⟨a,rfl⟩:=List.length_eq_one_iff.mp h1
     have ha:=hx (ln a) (by simp)
     rw[show eqB ((([a]:List Qn).map ln).length:Int) (1:Int)=true from rfl,if_pos rfl,ay (by simp),M.aa,ay (by simp),M.aa,show dB ([a].map ln) (0:Int)=.ok (ln a)from rfl,M.aa,ay (by simp;omega),M.aa,ay (by simp;omega),M.aa]
     show M.ok _=M.ok (40::(124::32::ln a++[41]))
     simp
    ·rw[qE (by rw[List.length_map];omega)]
     simp only[Bool.false_eq_true,if_false]
     rw[ay (by simp),M.aa,ay (by simp),M.aa]
     try simp only[M.aa]
     rw[wO hx (by omega) (by rw[List.length_map];exact h.1) (by rw[List.length_map];omega),M.aa,ay (by simp;omega),M.aa,ay (by simp;omega),M.aa]
     simp
end K81
namespace K81
open PySem L2 PyProof.Rows Vw
theorem rn(F:List Nat→D→M (List Nat))(hF:∀ (c u:List Nat),c.length≤100000→u.length≤40→F c (.str u)=.ok (c++(32::u))):∀ (ns:Ws) (acc:List Nat),(∀ u∈ns,tm u)→acc.length+41*ns.length≤100000→foldM F acc (ns.map D.str)=.ok (acc++fC ns)
 | [],acc,h,hl=>by simp[fC]
 | u::r,acc,h,hl=>by
  have hu:=(h u (by simp)).2.1
  rw[List.map_cons,j8,hF acc u (by omega) hu,M.aa,rn F hF r _ (fun v hv=>h v (by simp[hv])) (by simp at hl ⊢;omega)]
  unfold fC
  rw[List.flatMap_cons]
  simp
theorem BI{ns:Ws}(h:nH ns):(fC ns).drop 1=jn ns:=by
 have h2:=h.2.1
 cases ns with
 | nil=>simp at h2
 | cons u r=>
  rw[uo]
  unfold fC
  rw[List.flatMap_cons]
  simp
theorem B3{ns:Ws}(h:nH ns):(fC ns).length≤246:=by
 have a:=vf ns h.1
 have b:=h.2.2
 omega
theorem xJ{ns:Ws}(h:nH ns):i8 (fC ns) (some (1:Int)) (none:Option Int)=.ok (jn ns):=by
 have:=B3 h
 have e:=sY (fC ns) 1
 rw[la (by omega),show(1:Int)=((1:Nat):Int)from rfl,e,BI h]
theorem Ar{n:Nat}(h:n<2):mM [32] (n:Int)=.ok (List.replicate n 32):=by
 have:n=0∨n=1:=by omega
 rcases this with e | e<;> subst e<;> kernel_rfl
theorem AH(F:List Nat→(Int×D)→M (List Nat))(sg:Nat)(B:Nat):∀ (qs:List Qn) (n:Nat) (c:List Nat),(∀ (c:List Nat) (i:Int) (q:Qn),q∈qs→c.length≤1000000→F c (i,eQ q)=.ok (if 0<i then c++([32,sg,32]++ln q)else c++ln q))→1≤n→(∀ q∈qs,(ln q).length≤B)→c.length+(B+3)*qs.length≤1000000→foldM F c ((qs.map eQ).mapIdx fun i x=>(((i+n:Nat):Int),x))=.ok (c++gn sg (qs.map ln))
 | [],n,c,hF,hn,hB,hl=>by simp[gn]
 | q::r,n,c,hF,hn,hB,hl=>by
  have hq:=hB q (by simp)
  have e:(B+3)*(q::r).length=(B+3)*r.length+(B+3):=by rw[List.length_cons,Nat.mul_succ]
  rw[e]at hl
  rw[List.map_cons,List.mapIdx_cons,j8,hF c _ q (by simp) (by omega),M.aa,if_pos (by omega)]
  have e2:(fun(i:Nat) (x:D)=>(((i+1+n:Nat):Int),x))=fun i x=>(((i+(n+1):Nat):Int),x):=by
   funext i x
   rw[show i+1+n=i+(n+1) by omega]
  rw[e2,AH F sg B r (n+1) _ (fun c i v hv=>hF c i v (by simp[hv])) (by omega) (fun v hv=>hB v (by simp[hv])) (by simp only[List.length_append,List.length_cons,List.length_nil]at hl ⊢;omega)]
  unfold gn
  rw[List.map_cons,List.flatMap_cons]
  simp
def ir(sg:Nat):List (List Nat)→List Nat
 | []=>[]
 | x::r=>x++gn sg r
theorem yJ(F:List Nat→(Int×D)→M (List Nat))(sg:Nat)(B:Nat)(qs:List Qn)(c:List Nat)(hF:∀ (c:List Nat) (i:Int) (q:Qn),q∈qs→c.length≤1000000→F c (i,eQ q)=.ok (if 0<i then c++([32,sg,32]++ln q)else c++ln q))(hB:∀ q∈qs,(ln q).length≤B)(hl:c.length+(B+3)*qs.length≤1000000):foldM F c (o3 (qs.map eQ))=.ok (c++ir sg (qs.map ln)):=by
 unfold o3
 cases qs with
 | nil=>simp[ir]
 | cons q r=>
  have hq:=hB q (by simp)
  have e:(B+3)*(q::r).length=(B+3)*r.length+(B+3):=by rw[List.length_cons,Nat.mul_succ]
  rw[e]at hl
  rw[List.map_cons,List.mapIdx_cons,j8,hF c _ q (by simp) (by omega),M.aa,if_neg (by simp)]
  rw[AH F sg B r 1 _ (fun c i v hv=>hF c i v (by simp[hv])) (by omega) (fun v hv=>hB v (by simp[hv])) (by simp only[List.length_append]at hl ⊢;omega)]
  unfold ir
  simp
theorem EN(sg:Nat):∀ qs:List Qn,qs.length<2→[40]++([sg]++List.replicate qs.length 32)++ir sg (qs.map ln)++[41]=40::(gF sg (qs.map ln)++[41])
 | [],_=>rfl
 | [a],_=>by simp[ir,gn,gF]
 | a::b::r,h2=>by simp only[List.length_cons]at h2;omega
theorem Em(sg:Nat):∀ qs:List Qn,¬ qs.length<2→[40]++ir sg (qs.map ln)++[41]=40::(gF sg (qs.map ln)++[41])
 | [],h2=>by simp at h2
 | [a],h2=>by simp at h2
 | a::b::r,_=>by simp[ir,gn,gF]
theorem ES(sg:Nat):∀ qs:List Qn,(gF sg (qs.map ln)).length≤400000→(ir sg (qs.map ln)).length≤400000
 | [],_=>by simp[ir]
 | [a],this=>by simp[ir,gF,gn]at this ⊢;omega
 | a::b::r,this=>by simp[ir,gF,gn]at this ⊢;omega
theorem iE{q:Qn}(h:lb q)(j:Nat):dD (j+1) (eQ q)=.ok (ln q):=by
 have hb:=wX h
 have hf:(fieldOf q).length≤12:=by
  rcases my (mS h)with e | ⟨_,h2,_⟩
  ·rw[e];decide
  ·exact h2
 rw[kP h]
 unfold dD
 dsimp only
 cases q with
 | word f w=>
  have k0:bM (eQ (.word f w)) (0:Int)=.ok (.str (sS "word")):=rfl
  have k1:bM (eQ (.word f w)) (1:Int)=.ok (.str f):=rfl
  have hf:f.length≤12:=hf
  have k2:bM (eQ (.word f w)) (2:Int)=.ok (.str w):=rfl
  have hw:=h.2.2.1
  simp only[k0,k1,k2,M.aa,aN,eK,fJ,if_true,if_false,Bool.false_eq_true,Bool.not_true,Bool.not_false,cZ,dc,bA,cf,bh,b9,bC,b3,bw,bQ,bz,b0,bx,bV,bR,cb,bN,cI,bX,cG,br,bq,cc,bO,bj,bW,aT,aV,bt,aS,bB,aU,bp,bP,bZ,cK,bS,bU,cJ,bD,bu,bY,bo,ck,bT,cm,b6,cE,cg,cH,cj,cU,cT,dh,cR,dg,cQ,dj]
  rw[mD,ay (by simp;omega),M.aa]
  try simp only[k0,k1,k2,M.aa,aN,eK,fJ,if_true,if_false,Bool.false_eq_true,Bool.not_true,Bool.not_false,cZ,dc,bA,cf,bh,b9,bC,b3,bw,bQ,bz,b0,bx,bV,bR,cb,bN,cI,bX,cG,br,bq,cc,bO,bj,bW,aT,aV,bt,aS,bB,aU,bp,bP,bZ,cK,bS,bU,cJ,bD,bu,bY,bo,ck,bT,cm,b6,cE,cg,cH,cj,cU,cT,dh,cR,dg,cQ,dj]
  rw[ay (by simp;omega)]
  show M.ok (f++[58]++_)=M.ok (f++58::_)
  simp[bd]
 | like f p=>
  have k0:bM (eQ (.like f p)) (0:Int)=.ok (.str (sS "like")):=rfl
  have k1:bM (eQ (.like f p)) (1:Int)=.ok (.str f):=rfl
  have hf:f.length≤12:=hf
  have k2:bM (eQ (.like f p)) (2:Int)=.ok (.str p):=rfl
  have hp:=h.2.2.1
  simp only[k0,k1,k2,M.aa,aN,eK,fJ,if_true,if_false,Bool.false_eq_true,Bool.not_true,Bool.not_false,cZ,dc,bA,cf,bh,b9,bC,b3,bw,bQ,bz,b0,bx,bV,bR,cb,bN,cI,bX,cG,br,bq,cc,bO,bj,bW,aT,aV,bt,aS,bB,aU,bp,bP,bZ,cK,bS,bU,cJ,bD,bu,bY,bo,ck,bT,cm,b6,cE,cg,cH,cj,cU,cT,dh,cR,dg,cQ,dj]
  rw[mD,ay (by simp;omega),M.aa]
  try simp only[k0,k1,k2,M.aa,aN,eK,fJ,if_true,if_false,Bool.false_eq_true,Bool.not_true,Bool.not_false,cZ,dc,bA,cf,bh,b9,bC,b3,bw,bQ,bz,b0,bx,bV,bR,cb,bN,cI,bX,cG,br,bq,cc,bO,bj,bW,aT,aV,bt,aS,bB,aU,bp,bP,bZ,cK,bS,bU,cJ,bD,bu,bY,bo,ck,bT,cm,b6,cE,cg,cH,cj,cU,cT,dh,cR,dg,cQ,dj]
  rw[zi,wM,BP,je,je]
  have e1:mM [126] (1:Int)=.ok [126]:=rfl
  have e0:mM [126] (0:Int)=.ok []:=rfl
  by_cases hw:mF p=true
  ·have hz:(if(!decide (63∈p))=true then M.ok (!decide (42∈p))else M.ok false)=M.ok false:=by
    unfold mF at hw
    by_cases h1:63∈p
    ·simp[h1]
    ·simp[h1]at hw;simp[h1,hw]
   rw[hz]
   simp only[M.aa,Bool.false_eq_true,if_false]
   rw[e0,M.aa,ay (by simp;omega),M.aa,ay (by simp;omega)]
   show M.ok _=M.ok (f++58::(if mF p=true then p else 126::p))
   rw[if_pos hw]
   simp
  ·have hz:(if(!decide (63∈p))=true then M.ok (!decide (42∈p))else M.ok false)=M.ok true:=by
    unfold mF at hw
    simp at hw
    simp[hw.1,hw.2]
   rw[hz]
   simp only[M.aa,if_true]
   rw[e1,M.aa,ay (by simp;omega),M.aa,ay (by simp;omega)]
   show M.ok _=M.ok (f++58::(if mF p=true then p else 126::p))
   rw[if_neg hw]
   simp
 | row f ns=>
  have k0:bM (eQ (.row f ns)) (0:Int)=.ok (.str (sS "row")):=rfl
  have k1:bM (eQ (.row f ns)) (1:Int)=.ok (.str f):=rfl
  have hf:f.length≤12:=hf
  have hn:nH ns:=h.2
  have hj:=ki hn
  have k3:bM (eQ (.row f ns)) (-(1:Int))=.ok (eL D.str ns):=rfl
  simp only[k0,k1,k3,M.aa,aN,eK,fJ,if_true,if_false,Bool.false_eq_true,Bool.not_true,Bool.not_false,cZ,dc,bA,cf,bh,b9,bC,b3,bw,bQ,bz,b0,bx,bV,bR,cb,bN,cI,bX,cG,br,bq,cc,bO,bj,bW,aT,aV,bt,aS,bB,aU,bp,bP,bZ,cK,bS,bU,cJ,bD,bu,bY,bo,ck,bT,cm,b6,cE,cg,cH,cj,cU,cT,dh,cR,dg,cQ,dj,rk]
  rw[mD,ay (by simp;omega),M.aa]
  try simp only[k0,k1,k3,M.aa,aN,eK,fJ,if_true,if_false,Bool.false_eq_true,Bool.not_true,Bool.not_false,cZ,dc,bA,cf,bh,b9,bC,b3,bw,bQ,bz,b0,bx,bV,bR,cb,bN,cI,bX,cG,br,bq,cc,bO,bj,bW,aT,aV,bt,aS,bB,aU,bp,bP,bZ,cK,bS,bU,cJ,bD,bu,bY,bo,ck,bT,cm,b6,cE,cg,cH,cj,cU,cT,dh,cR,dg,cQ,dj,rk]
  rw[show sS ""=[]from by kernel_rfl,rn _ (fun c u hc hu=>by
   rw[nS,ay (by simp;omega),M.aa,eK,M.aa,ay (by simp;omega)]
   simp) ns _ hn.1 (by have:=hn.2.2;simp;omega),M.aa]
  rw[List.nil_append]
  simp only[xJ hn,M.aa]
  rw[Bz,ay (by simp;omega),M.aa,ay (by simp;omega),M.aa,ay (by simp;omega)]
  show M.ok _=M.ok (f++58::(34::(jn ns++[34])))
  simp
 | near f w ns=>
  have k0:bM (eQ (.near f w ns)) (0:Int)=.ok (.str (sS "near")):=rfl
  have k1:bM (eQ (.near f w ns)) (1:Int)=.ok (.str f):=rfl
  have hf:f.length≤12:=hf
  have hn:nH ns:=h.2.1
  have hj:=ki hn
  have k3:bM (eQ (.near f w ns)) (-(1:Int))=.ok (eL D.str ns):=rfl
  have k2:bM (eQ (.near f w ns)) (2:Int)=.ok (.int w):=rfl
  have hw:=h.2.2
  have hd:=(qH hw).2.1
  simp only[k0,k1,k2,k3,M.aa,aN,eK,fJ,if_true,if_false,Bool.false_eq_true,Bool.not_true,Bool.not_false,cZ,dc,bA,cf,bh,b9,bC,b3,bw,bQ,bz,b0,bx,bV,bR,cb,bN,cI,bX,cG,br,bq,cc,bO,bj,bW,aT,aV,bt,aS,bB,aU,bp,bP,bZ,cK,bS,bU,cJ,bD,bu,bY,bo,ck,bT,cm,b6,cE,cg,cH,cj,cU,cT,dh,cR,dg,cQ,dj,rk]
  rw[mD,ay (by simp;omega),M.aa]
  try simp only[k0,k1,k2,k3,M.aa,aN,eK,fJ,if_true,if_false,Bool.false_eq_true,Bool.not_true,Bool.not_false,cZ,dc,bA,cf,bh,b9,bC,b3,bw,bQ,bz,b0,bx,bV,bR,cb,bN,cI,bX,cG,br,bq,cc,bO,bj,bW,aT,aV,bt,aS,bB,aU,bp,bP,bZ,cK,bS,bU,cJ,bD,bu,bY,bo,ck,bT,cm,b6,cE,cg,cH,cj,cU,cT,dh,cR,dg,cQ,dj,rk]
  rw[show sS ""=[]from by kernel_rfl,rn _ (fun c u hc hu=>by
   rw[nS,ay (by simp;omega),M.aa,eK,M.aa,ay (by simp;omega)]
   simp) ns _ hn.1 (by have:=hn.2.2;simp;omega),M.aa]
  rw[List.nil_append]
  simp only[xJ hn,M.aa]
  try simp only[wu hw,M.aa]
  rw[show dB [(sS "[]"),(sS "<>")] (1:Int)=.ok (sS "<>")from rfl]
  simp only[M.aa,show lJ (sS "<>") (0:Int)=.ok [60]from by kernel_rfl,show lJ (sS "<>") (1:Int)=.ok [62]from by kernel_rfl]
  rw[ay (by simp;omega),M.aa,ay (by simp;omega),M.aa,ay (by simp;omega),M.aa,ay (by simp;omega)]
  show M.ok _=M.ok (f++58::(dX (w:Int)++60::(jn ns++[62])))
  simp
 | chain f w ns=>
  have k0:bM (eQ (.chain f w ns)) (0:Int)=.ok (.str (sS "chain")):=rfl
  have k1:bM (eQ (.chain f w ns)) (1:Int)=.ok (.str f):=rfl
  have hf:f.length≤12:=hf
  have hn:nH ns:=h.2.1
  have hj:=ki hn
  have k3:bM (eQ (.chain f w ns)) (-(1:Int))=.ok (eL D.str ns):=rfl
  have k2:bM (eQ (.chain f w ns)) (2:Int)=.ok (.int w):=rfl
  have hw:=h.2.2
  have hd:=(qH hw).2.1
  simp only[k0,k1,k2,k3,M.aa,aN,eK,fJ,if_true,if_false,Bool.false_eq_true,Bool.not_true,Bool.not_false,cZ,dc,bA,cf,bh,b9,bC,b3,bw,bQ,bz,b0,bx,bV,bR,cb,bN,cI,bX,cG,br,bq,cc,bO,bj,bW,aT,aV,bt,aS,bB,aU,bp,bP,bZ,cK,bS,bU,cJ,bD,bu,bY,bo,ck,bT,cm,b6,cE,cg,cH,cj,cU,cT,dh,cR,dg,cQ,dj,rk]
  rw[mD,ay (by simp;omega),M.aa]
  try simp only[k0,k1,k2,k3,M.aa,aN,eK,fJ,if_true,if_false,Bool.false_eq_true,Bool.not_true,Bool.not_false,cZ,dc,bA,cf,bh,b9,bC,b3,bw,bQ,bz,b0,bx,bV,bR,cb,bN,cI,bX,cG,br,bq,cc,bO,bj,bW,aT,aV,bt,aS,bB,aU,bp,bP,bZ,cK,bS,bU,cJ,bD,bu,bY,bo,ck,bT,cm,b6,cE,cg,cH,cj,cU,cT,dh,cR,dg,cQ,dj,rk]
  rw[show sS ""=[]from by kernel_rfl,rn _ (fun c u hc hu=>by
   rw[nS,ay (by simp;omega),M.aa,eK,M.aa,ay (by simp;omega)]
   simp) ns _ hn.1 (by have:=hn.2.2;simp;omega),M.aa]
  rw[List.nil_append]
  simp only[xJ hn,M.aa]
  try simp only[wu hw,M.aa]
  rw[show dB [(sS "[]"),(sS "<>")] (0:Int)=.ok (sS "[]")from rfl]
  simp only[M.aa,show lJ (sS "[]") (0:Int)=.ok [91]from by kernel_rfl,show lJ (sS "[]") (1:Int)=.ok [93]from by kernel_rfl]
  rw[ay (by simp;omega),M.aa,ay (by simp;omega),M.aa,ay (by simp;omega),M.aa,ay (by simp;omega)]
  show M.ok _=M.ok (f++58::(dX (w:Int)++91::(jn ns++[93])))
  simp
 | neg q=>exact h.elim
 | both qs=>exact h.elim
 | one qs=>exact h.elim
theorem o9:∀ (k:Nat) {q:Qn},WQ k q→∀ j,k≤2→dD (k+j+1) (eQ q)=.ok (ln q)
 | 0,q,h,j,hk=>iE h _
 | k+1,q,h,j,hk=>by
  cases q with
  | word f w=>exact iE (q:=.word f w) h _
  | like f p=>exact iE (q:=.like f p) h _
  | row f ns=>exact iE (q:=.row f ns) h _
  | near f w ns=>exact iE (q:=.near f w ns) h _
  | chain f w ns=>exact iE (q:=.chain f w ns) h _
  | neg q=>
   have hB:300*5^k≤90000:=by have:5^k≤5^2:=Nat.pow_le_pow_right (by decide) (by omega);omega
   have hq:=jd k (q:=q) h
   have ih:=o9 k (q:=q) h j (by omega)
   have k0:bM (eQ (.neg q)) (0:Int)=.ok (.str (sS "not")):=by rw[eQ];rfl
   have k1:bM (eQ (.neg q)) (1:Int)=.ok (eQ q):=by rw[eQ];rfl
   rw[ln]
   unfold dD
   dsimp only
   simp only[k0,k1,M.aa,aN,eK,fJ,if_true,if_false,Bool.false_eq_true,Bool.not_true,Bool.not_false,cZ,dc,bA,cf,bh,b9,bC,b3,bw,bQ,bz,b0,bx,bV,bR,cb,bN,cI,bX,cG,br,bq,cc,bO,bj,bW,aT,aV,bt,aS,bB,aU,bp,bP,bZ,cK,bS,bU,cJ,bD,bu,bY,bo,ck,bT,cm,b6,cE,cg,cH,cj,cU,cT,dh,cR,dg,cQ,dj]
   rw[show k+1+j=k+j+1 by omega,ih,aN,M.aa,uf,ay (by simp;omega),M.aa]
   rfl
  | both qs=>
   have hB:300*5^k≤90000:=by have:5^k≤5^2:=Nat.pow_le_pow_right (by decide) (by omega);omega
   have hx:∀ q∈qs,(ln q).length≤300*5^k:=fun q hq=>jd k (h.2 q hq)
   have ih:∀ q∈qs,dD (k+j+1) (eQ q)=.ok (ln q):=fun q hq=>o9 k (h.2 q hq) j (by omega)
   have k0:bM (eQ (.both qs)) (0:Int)=.ok (.str (sS "both")):=by rw[eQ];rfl
   have k1:bM (eQ (.both qs)) (1:Int)=.ok (.lst (qs.map eQ)):=by rw[eQ,iZ];rfl
   have kl:xx (.lst (qs.map eQ))=.ok (qs.length:Int):=by show M.ok _=_;rw[List.length_map]
   have hn:=h.1
   rw[ln,jH]
   unfold dD
   dsimp only
   simp only[k0,k1,kl,M.aa,aN,eK,fJ,if_true,if_false,Bool.false_eq_true,Bool.not_true,Bool.not_false,cZ,dc,bA,cf,bh,b9,bC,b3,bw,bQ,bz,b0,bx,bV,bR,cb,bN,cI,bX,cG,br,bq,cc,bO,bj,bW,aT,aV,bt,aS,bB,aU,bp,bP,bZ,cK,bS,bU,cJ,bD,bu,bY,bo,ck,bT,cm,b6,cE,cg,cH,cj,cU,cT,dh,cR,dg,cQ,dj,wz]
   rw[show dB [(sS "|"),(sS "&")] (1:Int)=.ok (sS "&")from rfl]
   simp only[M.aa]
   have hm:(300*5^k+3)*qs.length≤90003*4:=Nat.mul_le_mul (by omega) hn
   have fold:∀ (F:List Nat→(Int×D)→M (List Nat)) (c:List Nat),c.length≤10→(∀ (c:List Nat) (i:Int) (q:Qn),q∈qs→c.length≤1000000→F c (i,eQ q)=.ok (if 0<i then c++([32,38,32]++ln q)else c++ln q))→foldM F c (o3 (qs.map eQ))=.ok (c++ir 38 (qs.map ln)):=fun F c hc hF=>yJ F 38 (300*5^k) qs c hF hx (by omega)
   have step:∀ (c:List Nat) (i:Int) (q:Qn),q∈qs→c.length≤1000000→((if(decide ((0:Int)<i))=true then((((aO c [32]).bind fun a44=>aO a44 [38]).bind fun a45=>aO a45 [32]).bind fun ji=>M.ok ji)else(M.ok c)).bind fun j43=>((nox (dD (k+1+j) (eQ q))).bind fun a47=>aO j43 a47).bind fun jj=>M.ok jj)=.ok (if 0<i then c++([32,38,32]++ln q)else c++ln q):=fun c i q hq hc=>by
    have hlq:=hx q hq
    rw[show k+1+j=k+j+1 by omega,ih q hq]
    by_cases hi:0<i
    ·rw[if_pos (decide_eq_true hi),if_pos hi,ay (by simp;omega),M.aa,ay (by simp;omega),M.aa,ay (by simp;omega),M.aa,M.aa,aN,M.aa,ay (by simp;omega),M.aa]
     simp
    ·rw[if_neg (by simp;omega),if_neg hi,M.aa,aN,M.aa,ay (by omega),M.aa]
   rw[BN,sM,yf,nS]
   have blen:(ir 38 (qs.map ln)).length≤400000:=by
    have:=l8 (sg:=38) (l:=qs.map ln) (B:=300*5^k) (fun x hx'=>by obtain⟨q,hq,rfl⟩:=List.mem_map.mp hx';exact hx q hq) (by rw[List.length_map];exact hn)
    exact ES 38 qs (Nat.le_trans this (by omega))
   by_cases h2:qs.length<2
   ·rw[if_pos (decide_eq_true (by omega)),ay (by simp),M.aa]
    have em:=Ar h2
    rw[em,M.aa,ay (by simp;omega)]
    simp only[M.aa]
    rw[fold _ _ (by simp;omega) step,M.aa,ay (by simp;omega)]
    exact congrArg M.ok (EN 38 qs h2)
   ·rw[if_neg (by simp;omega)]
    simp only[M.aa]
    rw[fold _ _ (by simp) step,M.aa,ay (by simp;omega)]
    exact congrArg M.ok (Em 38 qs h2)
  | one qs=>
   have hB:300*5^k≤90000:=by have:5^k≤5^2:=Nat.pow_le_pow_right (by decide) (by omega);omega
   have hx:∀ q∈qs,(ln q).length≤300*5^k:=fun q hq=>jd k (h.2 q hq)
   have ih:∀ q∈qs,dD (k+j+1) (eQ q)=.ok (ln q):=fun q hq=>o9 k (h.2 q hq) j (by omega)
   have k0:bM (eQ (.one qs)) (0:Int)=.ok (.str (sS "one")):=by rw[eQ];rfl
   have k1:bM (eQ (.one qs)) (1:Int)=.ok (.lst (qs.map eQ)):=by rw[eQ,iZ];rfl
   have kl:xx (.lst (qs.map eQ))=.ok (qs.length:Int):=by show M.ok _=_;rw[List.length_map]
   have hn:=h.1
   rw[ln,jH]
   unfold dD
   dsimp only
   simp only[k0,k1,kl,M.aa,aN,eK,fJ,if_true,if_false,Bool.false_eq_true,Bool.not_true,Bool.not_false,cZ,dc,bA,cf,bh,b9,bC,b3,bw,bQ,bz,b0,bx,bV,bR,cb,bN,cI,bX,cG,br,bq,cc,bO,bj,bW,aT,aV,bt,aS,bB,aU,bp,bP,bZ,cK,bS,bU,cJ,bD,bu,bY,bo,ck,bT,cm,b6,cE,cg,cH,cj,cU,cT,dh,cR,dg,cQ,dj,wz]
   rw[show dB [(sS "|"),(sS "&")] (0:Int)=.ok (sS "|")from rfl]
   simp only[M.aa]
   have hm:(300*5^k+3)*qs.length≤90003*4:=Nat.mul_le_mul (by omega) hn
   have fold:∀ (F:List Nat→(Int×D)→M (List Nat)) (c:List Nat),c.length≤10→(∀ (c:List Nat) (i:Int) (q:Qn),q∈qs→c.length≤1000000→F c (i,eQ q)=.ok (if 0<i then c++([32,124,32]++ln q)else c++ln q))→foldM F c (o3 (qs.map eQ))=.ok (c++ir 124 (qs.map ln)):=fun F c hc hF=>yJ F 124 (300*5^k) qs c hF hx (by omega)
   have step:∀ (c:List Nat) (i:Int) (q:Qn),q∈qs→c.length≤1000000→((if(decide ((0:Int)<i))=true then((((aO c [32]).bind fun a44=>aO a44 [124]).bind fun a45=>aO a45 [32]).bind fun ji=>M.ok ji)else(M.ok c)).bind fun j43=>((nox (dD (k+1+j) (eQ q))).bind fun a47=>aO j43 a47).bind fun jj=>M.ok jj)=.ok (if 0<i then c++([32,124,32]++ln q)else c++ln q):=fun c i q hq hc=>by
    have hlq:=hx q hq
    rw[show k+1+j=k+j+1 by omega,ih q hq]
    by_cases hi:0<i
    ·rw[if_pos (decide_eq_true hi),if_pos hi,ay (by simp;omega),M.aa,ay (by simp;omega),M.aa,ay (by simp;omega),M.aa,M.aa,aN,M.aa,ay (by simp;omega),M.aa]
     simp
    ·rw[if_neg (by simp;omega),if_neg hi,M.aa,aN,M.aa,ay (by omega),M.aa]
   rw[BY,sM,yf,nS]
   have blen:(ir 124 (qs.map ln)).length≤400000:=by
    have:=l8 (sg:=124) (l:=qs.map ln) (B:=300*5^k) (fun x hx'=>by obtain⟨q,hq,rfl⟩:=List.mem_map.mp hx';exact hx q hq) (by rw[List.length_map];exact hn)
    exact ES 124 qs (Nat.le_trans this (by omega))
   by_cases h2:qs.length<2
   ·rw[if_pos (decide_eq_true (by omega)),ay (by simp),M.aa]
    have em:=Ar h2
    rw[em,M.aa,ay (by simp;omega)]
    simp only[M.aa]
    rw[fold _ _ (by simp;omega) step,M.aa,ay (by simp;omega)]
    exact congrArg M.ok (EN 124 qs h2)
   ·rw[if_neg (by simp;omega)]
    simp only[M.aa]
    rw[fold _ _ (by simp) step,M.aa,ay (by simp;omega)]
    exact congrArg M.ok (Em 124 qs h2)
end K81
namespace Vw
open PySem L2
end Vw
namespace Vw
open PySem L2
end Vw
namespace Vw
open PySem L2
section
variable{R:List Ob→Prop}{p:Pt}{σ:List Ob}{A B T U:Type}{i j n:Nat}
theorem EE{x:Val}(h:p[i]? =some (some (.v x))):Ev R p σ (ab i) (.ok ()) (fun _=>(.val x,p,σ)):=Ev.at (r:=fun _=>RV.val x) fun sg hf=>by
 rw[jQ,hf.2 _ _ h]
end
end Vw
namespace K81
open PySem L2 PyProof.Rows Vw
abbrev RT:List Ob→Prop:=fun _=>True
abbrev x6:List Int→D:=eL D.int
def oR(i:List D)(n:Nat):Val:=.tp (i.map .d++[.r n])
section
variable{R:List Ob→Prop}{p:Pt}{σ:List Ob}{ns:List Int}{A:Type}
theorem AB{g:Fn}{line:List Nat}{d:D}{i xs:List D}{j:Nat}(h:p[j]? =some (some (.v (.d (.str line)))))(hg:xM g [.str line] (M.ok d) (fun v=>.val (.d (eY v))))(hd:d=.tup (i++[.lst xs]))(ht:kr (i++[.lst xs])=some (i,xs)):Ev R p σ (rh 1 (aC [ab j]) g) (.ok ()) (fun _=>(.val (oR i σ.length),p,σ++[.lst (xs.map .d)])):=fun sg hf=>by
 subst hd
 refine⟨sg,?_,hf⟩
 obtain⟨⟨st,e⟩,_⟩:=hg
 have e1:aC [ab j] ⟨sg,σ⟩=.ok [.val (.d (.str line))] ⟨sg,σ⟩:=by
  rw[CY]
  show(ev (ab j) ⟨sg,σ⟩).bind _=_
  have:ev (ab j) ⟨sg,σ⟩=.ok (.val (.d (.str line))) ⟨sg,σ⟩:=by
   show(ab j ⟨sg,σ⟩).bind settle=_
   rw[jQ,hf.2 _ _ h]
   rfl
  rw[this,Res.aa,Ay]
  rfl
 unfold rh
 rw[e1,Res.aa]
 show qu (g ([D.str line].map .d) []) ⟨sg,σ⟩=_
 rw[e]
 unfold qu
 show(match kr (i++[D.lst xs])with
  | some p=>Res.ok (RV.val (Val.tp (p.1.map Val.d++[Val.r σ.length]))) (State.mk sg (σ++[Ob.lst (p.2.map Val.d)]))
  | none=>Res.ok (RV.val (Val.d (D.tup (i++[D.lst xs])))) (State.mk sg σ))=_
 rw[ht]
 rfl
theorem AU{g:Fn}{line:List Nat}{d:D}{ds:List D}{j:Nat}(h:p[j]? =some (some (.v (.d (.str line)))))(hg:xM g [.str line] (M.ok d) (fun v=>.val (.d (eY v))))(hd:d=.tup ds)(ht:kr ds=none):Ev R p σ (rh 1 (aC [ab j]) g) (.ok ()) (fun _=>(.val (.d d),p,σ)):=fun sg hf=>by
 subst hd
 refine⟨sg,?_,hf⟩
 obtain⟨⟨st,e⟩,_⟩:=hg
 have e1:aC [ab j] ⟨sg,σ⟩=.ok [.val (.d (.str line))] ⟨sg,σ⟩:=by
  rw[CY]
  show(ev (ab j) ⟨sg,σ⟩).bind _=_
  have:ev (ab j) ⟨sg,σ⟩=.ok (.val (.d (.str line))) ⟨sg,σ⟩:=by
   show(ab j ⟨sg,σ⟩).bind settle=_
   rw[jQ,hf.2 _ _ h]
   rfl
  rw[this,Res.aa,Ay]
  rfl
 unfold rh
 rw[e1,Res.aa]
 show qu (g ([D.str line].map .d) []) ⟨sg,σ⟩=_
 rw[e]
 unfold qu
 show(match kr ds with
  | some p=>Res.ok (RV.val (Val.tp (p.1.map Val.d++[Val.r σ.length]))) (State.mk sg (σ++[Ob.lst (p.2.map Val.d)]))
  | none=>Res.ok (RV.val (Val.d (D.tup ds))) (State.mk sg σ))=_
 rw[ht]
theorem xX{f:Val→Option D}(hf:∀ d,f (.d d)=some d){x:Val}{y:D}(hx:f x=some y):∀ i:List D,kM f (i.map .d++[x])=some (i++[y])
 | []=>by
  show(match f x,kM f []with | some d,some ds=>some (d::ds) | _,_=>none)=_
  rw[hx]
  rfl
 | a::i=>by
  show(match f (.d a),kM f (i.map .d++[x])with | some d,some ds=>some (d::ds) | _,_=>none)=_
  rw[hf,xX hf hx i]
  rfl
theorem ne_T{i xs:List D}{n j k:Nat}{d:D}(h4:p[j]? =some (some (.v (oR i n))))(h2:p[k]? =some (some (.v (.d d))))(hs:σ[n]? =some (.lst (xs.map .d)))(hd:d=.tup (i++[.lst xs]))(hq:vL d d=.ok true):Ev R p σ (ai (ab j) (ab k) (nE 6 true)) (.ok false) (pD .bl p σ):=by
 refine ax (sv (EE h4)) (sv (aw (a:=d) (e:=eY) h2)) (Ev.at (r:=fun v=>RV.val (Val.d (D.bl v))) fun sg hf=>?_)
 have g:qd 6 ⟨sg,σ⟩ (.val (oR i n))=some d:=by
  rw[hd]
  show(kM (frz 5 ⟨sg,σ⟩) (i.map .d++[.r n])).map D.tup=_
  rw[xX (fun d=>zK d) (EV (e:=eY) (l:=xs) hs)]
  show some (D.tup (i++[eL eY xs]))=_
  rw[wI]
 unfold nE eqQ
 rw[g]
 show(match (if dM d d=true then some (iy d d)else none)with
  | some b=>a0 (D.bl (xor true b)) ⟨sg,σ⟩
  | none=>Res.stuck)=_
 unfold vL at hq
 split at hq
 ·rename_i hc
  rw[if_pos hc]
  cases hq':iy d d with
  | true=>rfl
  | false=>rw[hq']at hq;cases hq
 ·cases hq
theorem Ja{j k:Nat}{d:D}(h4:p[j]? =some (some (.v (.d d))))(h2:p[k]? =some (some (.v (.d d))))(hq:vL d d=.ok true):Ev R p σ (ai (ab j) (ab k) (nE 6 true)) (.ok false) (pD .bl p σ):=by
 refine ax (sv (aw (a:=d) (e:=eY) h4)) (sv (aw (a:=d) (e:=eY) h2)) (Ev.at (r:=fun v=>RV.val (Val.d (D.bl v))) fun sg hf=>?_)
 have g:qd 6 ⟨sg,σ⟩ (.val (.d d))=some d:=zK d
 unfold nE eqQ
 show(match (match qd 6 ⟨sg,σ⟩ (.val (.d d)),qd 6 ⟨sg,σ⟩ (.val (.d d))with
  | some a,some b=>if dM a b then some (iy a b)else none
  | _,_=>none)with
  | some b=>a0 (D.bl (xor true b)) ⟨sg,σ⟩
  | none=>Res.stuck)=_
 rw[g]
 show(match (if dM d d=true then some (iy d d)else none)with
  | some b=>a0 (D.bl (xor true b)) ⟨sg,σ⟩
  | none=>Res.stuck)=_
 unfold vL at hq
 split at hq
 ·rename_i hc
  rw[if_pos hc]
  cases hq':iy d d with
  | true=>rfl
  | false=>rw[hq']at hq;cases hq
 ·cases hq
theorem Az{i:List D}{n j:Nat}(h4:p[j]? =some (some (.v (oR i n)))):Ev R p σ (ai (ab j) (ly (fD (.int 1))) bK) (.ok ()) (fun _=>(.val (.r n),p,σ)):=
 ax (sv (EE h4)) (sv (zg (sv (cD D.int (1:Int))))) (Ev.at (r:=fun _=>RV.val (Val.r n)) fun sg hf=>by
  show(match atI (i.map Val.d++[.r n]) (-1)with
    | some v=>Res.ok (RV.val v) (State.mk sg σ)
    | none=>Res.stuck)=_
  rw[Vw.atI_last])
theorem Ee{i:List D}{x:D}{j:Nat}(h4:p[j]? =some (some (.v (.d (.tup (i++[x])))))):Ev R p σ (ai (ab j) (ly (fD (.int 1))) bK) (.ok x) (pD eY p σ):=
 ax (sv (aw (a:=D.tup (i++[x])) (e:=eY) h4)) (sv (zg (sv (cD D.int (1:Int))))) (Ev.at (r:=fun v=>RV.val (Val.d v)) fun sg hf=>by
  show bK (.val (.d (.tup (i++[x])))) (.val (.d (.int (-1)))) ⟨sg,σ⟩=_
  rw[Cy,Vw.atI_last])
theorem GH{i:List D}{xs:List Val}{n j:Nat}(h4:p[j]? =some (some (.v (oR i n))))(hs:σ[n]? =some (.lst xs)):Ev R p σ (cB (mY "list" (ai (ab j) (ly (fD (.int 1))) bK))) (.ok true) (pB p σ):=
 ib (sv (t6 (T':="list") (t:="list") (sv (Az h4)) (fun sg hf=>by
  have:ob ⟨sg,σ⟩ (.val (.r n))=some (.lst xs):=by
   show(match σ[n]? with | some .gone=>none | some o=>some o | none=>none)=_
   rw[hs]
  rw[Hg,show dv ⟨sg,σ⟩ (.val (.r n))=none from rfl,this])))
def EI:D→Option String
 | .str _=>some "str"
 | .tup _=>some "tuple"
 | _=>none
theorem HF{i:List D}{x:D}{j:Nat}{t:String}(h4:p[j]? =some (some (.v (.d (.tup (i++[x]))))))(hx:EI x=some t):Ev R p σ (cB (mY "list" (ai (ab j) (ly (fD (.int 1))) bK))) (.ok false) (pB p σ):=by
 have ht:t="str"∨t="tuple":=by
  cases x<;> simp[EI]at hx<;> simp[←hx]
 have:=ib (sv (t6 (R:=R) (p:=p) (σ:=σ) (T':="list") (t:=t) (sv (Ee h4)) (fun sg hf=>by
  cases x<;> first | exact hx | cases hx)))
 rwa[show qv t "list"=false from by rcases ht with rfl | rfl<;> decide]at this
theorem Hk{i:List D}{n j:Nat}(h4:p[j]? =some (some (.v (oR i n)))):Ev R p σ (jV (cB (mY "tuple" (ab j)))) (.ok false) (pB p σ):=by
 have q:=t5 (σ:=σ) (ib (sv (t6 (T':="tuple") (t:="tuple") (sv (EE (R:=R) h4)) (fun sg hf=>rfl))))
 rwa[show(!qv "tuple" "tuple")=false from by decide]at q
theorem Gq{ds:List D}{j:Nat}(h4:p[j]? =some (some (.v (.d (.tup ds))))):Ev R p σ (jV (cB (mY "tuple" (ab j)))) (.ok false) (pB p σ):=by
 have q:=t5 (σ:=σ) (ib (sv (t6 (T':="tuple") (t:="tuple") (sv (aw (R:=R) (a:=D.tup ds) (e:=eY) h4)) (fun sg hf=>rfl))))
 rwa[show(!qv "tuple" "tuple")=false from by decide]at q
theorem Gu{s:List Nat}{j:Nat}(h4:p[j]? =some (some (.v (.d (.str s))))):Ev R p σ (jV (cB (mY "str" (ab j)))) (.ok false) (pB p σ):=by
 have q:=t5 (σ:=σ) (ib (sv (t6 (T':="str") (t:="str") (sv (aw (R:=R) (a:=s) (e:=D.str) h4)) (fun sg hf=>rfl))))
 rwa[show(!qv "str" "str")=false from by decide]at q
theorem Eo{f g:State→Res RV}{fs:List (State→Res RV)}{m:M A}{post:A→RV×Pt×List Ob}(h1:Ev R p σ (ev f) (.ok true) (pD .bl p σ))(h2:Ev R p σ (gX (g::fs)) m post):Ev R p σ (gX (f::g::fs)) m post:=
 Ev.gD (tB (b:=fun v=>v) h1) (fun sg hf=>h2 sg hf)
end
end K81
namespace K81
open PySem L2 PyProof.Rows Vw
theorem BG:∀ qs:List Qn,(∀ q∈qs,fE (eQ q)=true)→gx (ka qs)=true
 | [],_=>rfl
 | q::qs,h=>by
  rw[ka,gx,h q (by simp),BG qs fun x hx=>h x (by simp[hx])]
  rfl
theorem uq{q:Qn}(h:lb q):fE (eQ q)=true:=by
 have hs:∀ l:Ws,gx (l.map D.str)=true:=fun l=>kN _ _ fun _ _=>rfl
 cases q<;> first | exact h.elim | (simp[eQ,fE,gx,eL,hs])
theorem Co:∀ (k:Nat) (q:Qn),WQ k q→fE (eQ q)=true
 | 0,q,h=>uq h
 | k+1,q,h=>by
  cases q with
  | neg q=>simp[eQ,fE,gx,Co k q h]
  | both qs=>simp[eQ,fE,gx,BG qs fun x hx=>Co k x (h.2 x hx)]
  | one qs=>simp[eQ,fE,gx,BG qs fun x hx=>Co k x (h.2 x hx)]
  | word f w=>exact uq (q:=.word f w) h
  | like f w=>exact uq (q:=.like f w) h
  | row f w=>exact uq (q:=.row f w) h
  | near f w ns=>exact uq (q:=.near f w ns) h
  | chain f w ns=>exact uq (q:=.chain f w ns) h
theorem Bf{n:Nat}:∀ qs:List Qn,(∀ q∈qs,gu n (eQ q)=true)→gv n (ka qs)=true
 | [],_=>by rw[ka];cases n<;> rfl
 | q::qs,h=>by
  rw[ka,gv,h q (by simp),Bf qs fun x hx=>h x (by simp[hx])]
  rfl
theorem uO{q:Qn}(h:lb q)(n:Nat):gu (n+2) (eQ q)=true:=by
 have hs:∀ l:Ws,gv n (l.map D.str)=true:=fun l=>mP _ _ _ fun _ _=>by cases n<;> rfl
 cases q<;> first | exact h.elim | (simp[eQ,gu,gv,eL,hs])
theorem CM:∀ (k:Nat) (q:Qn),WQ k q→∀ n,2*k≤n→gu (n+2) (eQ q)=true
 | 0,q,h=>fun n _=>uO h n
 | k+1,q,h=>fun n hn=>by
  obtain⟨m,rfl⟩:∃ m,n=m+2:=⟨n- 2,by omega⟩
  cases q with
  | neg q=>
   have:=CM k q h (m+1) (by omega)
   simp only[eQ,gu,gv,this]
   simp[gu]
  | both qs=>
   have:=Bf qs fun x hx=>CM k x (h.2 x hx) m (by omega)
   simp only[eQ,gu,gv,this]
   simp[gu]
  | one qs=>
   have:=Bf qs fun x hx=>CM k x (h.2 x hx) m (by omega)
   simp only[eQ,gu,gv,this]
   simp[gu]
  | word f w=>exact uO (q:=.word f w) h _
  | like f w=>exact uO (q:=.like f w) h _
  | row f w=>exact uO (q:=.row f w) h _
  | near f w ns=>exact uO (q:=.near f w ns) h _
  | chain f w ns=>exact uO (q:=.chain f w ns) h _
theorem AV{q:Qn}(h:WQ 2 q):vL (eQ q) (eQ q)=.ok true:=by
 obtain⟨h1,h2⟩:=Ba (d:=eQ q) (4+2) (by decide) (Co 2 q h) (CM 2 q h 4 (by decide))
 unfold vL
 rw[if_pos h1,h2]
theorem A4:∀ qs:List Qn,(∀ q∈qs,fy (eQ q)=true)→eO (ka qs)=true
 | [],_=>rfl
 | q::qs,h=>by
  rw[ka,eO,h q (by simp),A4 qs fun x hx=>h x (by simp[hx])]
  rfl
theorem xO:∀ l:Ws,eO (l.map D.str)=true
 | []=>rfl
 | a::l=>by rw[List.map_cons,eO,xO l];rfl
theorem uY{q:Qn}(h:lb q):fy (eQ q)=true:=by
 cases q<;> first | exact h.elim | (simp[eQ,fy,eO,eL,xO])
theorem CN:∀ (k:Nat) (q:Qn),WQ k q→fy (eQ q)=true
 | 0,q,h=>uY h
 | k+1,q,h=>by
  cases q with
  | neg q=>simp[eQ,fy,eO,CN k q h]
  | both qs=>simp[eQ,fy,eO,A4 qs fun x hx=>CN k x (h.2 x hx)]
  | one qs=>simp[eQ,fy,eO,A4 qs fun x hx=>CN k x (h.2 x hx)]
  | word f w=>exact uY (q:=.word f w) h
  | like f w=>exact uY (q:=.like f w) h
  | row f w=>exact uY (q:=.row f w) h
  | near f w ns=>exact uY (q:=.near f w ns) h
  | chain f w ns=>exact uY (q:=.chain f w ns) h
theorem HK{q:Qn}(h:WQ 2 q):(∃ i x t,eQ q=.tup (i++[x])∧kr (i++[x])=none∧EI x=some t)∨(∃ i xs,eQ q=.tup (i++[.lst xs])∧kr (i++[.lst xs])=some (i,xs)∧xs.length≤10):=by
 have hp:=CN 2 q h
 have ns:∀ l:Ws,eO (l.map D.str)=true:=xO
 cases q with
 | word f w=>exact .inl ⟨[.str (sS "word"),.str f],.str w,"str",by rw[eQ];rfl,rfl,rfl⟩
 | like f w=>exact .inl ⟨[.str (sS "like"),.str f],.str w,"str",by rw[eQ];rfl,rfl,rfl⟩
 | neg q=>
  have hx:∃ ds,eQ q=.tup ds:=by cases q<;> (rw[eQ];exact⟨_,rfl⟩)
  obtain⟨ds,e⟩:=hx
  exact .inl ⟨[.str (sS "not")],.tup ds,"tuple",by rw[eQ,e];rfl,rfl,rfl⟩
 | row f l=>exact .inr ⟨[.str (sS "row"),.str f],l.map D.str,by rw[eQ];rfl,by simp[kr,kU,ns l],by have:=h.2.2.2;simp;omega⟩
 | near f w l=>exact .inr ⟨[.str (sS "near"),.str f,.int w],l.map D.str,by rw[eQ];rfl,by simp[kr,kU,ns l],by have:=h.2.1.2.2;simp;omega⟩
 | chain f w l=>exact .inr ⟨[.str (sS "chain"),.str f,.int w],l.map D.str,by rw[eQ];rfl,by simp[kr,kU,ns l],by have:=h.2.1.2.2;simp;omega⟩
 | both qs=>
  rw[eQ]at hp
  have hp:eO (ka qs)=true:=by simpa [fy,eO]using hp
  exact .inr ⟨[.str (sS "both")],ka qs,by rw[eQ];rfl,by simp[kr,kU,hp],by have:=h.1;rw[iZ,List.length_map];omega⟩
 | one qs=>
  rw[eQ]at hp
  have hp:eO (ka qs)=true:=by simpa [fy,eO]using hp
  exact .inr ⟨[.str (sS "one")],ka qs,by rw[eQ];rfl,by simp[kr,kU,hp],by have:=h.1;rw[iZ,List.length_map];omega⟩
abbrev xd(d:D):Option Sl:=some (.v (.d d))
section
variable{p:Pt}{σ:List Ob}{ns:List Int}
theorem yX{σ:List Ob}{a b:Int}(h0:p[0]? =some (some (.v (.d (x6 ns))))):Ev RT p σ (ev (sl (dz 3 (aC [(ab 0),(fD (.int a)),(fD (.int b))]) dy))) (nox (g9 ns a b)) (fun v=>(.val (.r σ.length),p,σ++[oL D.int v])):=
 sv (IX (o:=fun v=>oL D.int v) (dP (R':=RT) (post:=(pN (oL D.int) p σ)) (ae (sv (aw (a:=ns) (e:=x6) h0)) (ae (sv (cD D.int a)) (ae (sv (cD D.int b)) ak))) (.d (.d (.d .nil))) rfl (x2 (ee:=ns)) (fun _=>rfl)) (fun v=>HL v))
def yi(ns:List Int)(a b:Int)(pl:List (List Nat))(deep:Int):M (D×List Int):=((nox (g9 ns a b)).bind fun v=>(M.ok ()).bind fun w=>M.ok (v,w)).bind fun z=>nox (e7 4 z.1 pl deep)
theorem Ep{p:Pt}{σ:List Ob}{pl:List (List Nat)}{i:Nat}{a b deep:Int}(h0:p[0]? =some (some (.v (.d (x6 ns)))))(hi:p[i]? =some (some (.v (.d (eL D.str pl))))):Ev RT p σ (dz 3 (aC [(sl (dz 3 (aC [(ab 0),(fD (.int a)),(fD (.int b))]) dy)),(ab i),(fD (.int deep))]) (cX 4)) (yi ns a b pl deep) (fun v=>(.val (.d v.1),p,σ++[oL D.int v.2])):=
 l7 (R':=RT) (vs:=fun z:List Int×Unit=>[.r σ.length,.d (eL D.str pl),.d (.int deep)]) (Q:=fun _=>p) (pg:=fun _ v=>(.val (.d v.1),σ++[oL D.int v.2])) (aJ (yX h0) (fun d=>ae (sv (aw (a:=pl) (e:=eL D.str) (i:=i) hi)) (ae (sv (cD D.int deep)) ak))) (fun _=>.d (.d (.d .nil))) (fun _=>rfl) (fun z=>tY 4 (S:=fun dd=>σ++[oL D.int dd]) (n:=σ.length) (fun dd=>by simp) (fun dd dd'=>by simp)) (fun _ _=>rfl)
def Cj(ns:List Int):M (List (List Nat)×List Int):=((nox (g9 ns 1 2)).bind fun v=>(M.ok ()).bind fun w=>M.ok (v,w)).bind fun z=>nox (kW z.1)
theorem FV(h0:p[0]? =some (some (.v (.d (x6 ns))))):Ev RT p σ (dz 1 (aC [(sl (dz 3 (aC [(ab 0),(fD (.int 1)),(fD (.int 2))]) dy))]) iD) (Cj ns) (fun v=>(.new (oL D.str v.1),p,σ++[oL D.int v.2])):=
 l7 (R':=RT) (vs:=fun z:List Int×Unit=>[.r σ.length]) (Q:=fun _=>p) (pg:=fun _ v=>(.new (oL D.str v.1),σ++[oL D.int v.2])) (aJ (yX h0) (fun d=>ak)) (fun _=>.d .nil) (fun _=>rfl) (fun z=>yo (S:=fun dd=>σ++[oL D.int dd]) (n:=σ.length) (fun dd=>by simp) (fun dd dd'=>by simp)) (fun _ _=>rfl)
theorem GR{ns:List Int}(hl:ns.length≤63):Sat (Cj ns) fun v=>qr v.1:=by
 unfold Cj
 exact aq (aq (fQ (tO hl (by decide) (by decide) (by decide))) fun d _=>aG (P:=fun _=>True) trivial) fun z _=>fQ (By z.1)
theorem F6{W:Ws}(hW:qr W){ns:List Int}(hl:ns.length≤63):Sat (yi ns 400 40 W 2) fun q=>GQ 2 q.1:=by
 unfold yi
 exact aq (aq (fQ (tO hl (by decide) (by decide) (by decide))) fun d _=>aG (P:=fun _=>True) trivial) fun z _=>fQ (qm hW 4 2 z.1 (by decide) (by decide) (by decide))
theorem xi{q:Qn}(h:WQ 2 q):xM dG [.str (ln q)] (M.ok (eQ q)) (fun v=>.val (.d (eY v))):=by
 have:=tD (fZ:=ln q)
 rwa[C7 h]at this
abbrev PL(ns:List Int)(s1 s2 s3 s4:Option Sl):Pt:=[xd (x6 ns),s1,s2,s3,s4]
theorem s_end{pl:Ws}{q:Qn}{d2:List Int}{s4:Option Sl}(hq:yi ns 400 40 pl 2=.ok (eQ q,d2))(hw:WQ 2 q):Sg true RT (PL ns (xd (eL D.str pl)) (xd (eQ q)) (xd (.str (ln q))) s4) σ (av [uL]) (.ok true) (fun b=>.ret (.val (.d (.bl b))) (σ++[oL D.int d2])):=by
 have hy:=AV hw
 have h1:Ev RT (PL ns (xd (eL D.str pl)) (xd (eQ q)) (xd (.str (ln q))) s4) σ (ai (tA 1 (aC [(ab 3)]) dG) (ab 2) (aQ .eq)) (.ok true) (pD .bl (PL ns (xd (eL D.str pl)) (xd (eQ q)) (xd (.str (ln q))) s4) σ):=
  sh (cP (sv (Br (ds:=[D.str (ln q)]) (post:=pD eY _ _) (ae (sv (aw (a:=ln q) (e:=D.str) rfl)) ak) (.d .nil) rfl (xi hw) (fun _=>rfl) trivial)) (fun a=>sv (aw (a:=eQ q) (e:=eY) rfl)) (fun a=>E3 cn cn)) (by rw[M.aa];exact hy)
 have h2:Ev RT (PL ns (xd (eL D.str pl)) (xd (eQ q)) (xd (.str (ln q))) s4) σ (ai (ab 2) (dz 3 (aC [(sl (dz 3 (aC [(ab 0),(fD (.int 400)),(fD (.int 40))]) dy)),(ab 1),(fD (.int 2))]) (cX 4)) (aQ .eq)) (.ok true) (pD .bl (PL ns (xd (eL D.str pl)) (xd (eQ q)) (xd (.str (ln q))) s4) (σ++[oL D.int d2])):=
  sh (ax (sv (aw (a:=eQ q) (e:=eY) rfl)) (sv (sh (Ep (i:=1) (pl:=pl) rfl rfl) hq)) (E3 (a:=eQ q) (b:=eQ q) cn cn)) hy
 exact bL (ub (x:=fun b=>.d (.bl b)) (Eo (sv h1) (yD (sv h2))) rfl)
theorem Hh{pl:Ws}{d1:List Int}{q:Qn}{d2:List Int}(hp:Cj ns=.ok (pl,d1))(hq:yi ns 400 40 pl 2=.ok (eQ q,d2))(hw:WQ 2 q):∃ st,fw RT q8 [.d (x6 ns)] [] (.ok true) (fun b=>(.val (.d (.bl b)),st)):=by
 have hs:=rg 2 hw 1 (by decide)
 have hn:=o9 2 hw 1 (by decide)
 have hy:=AV hw
 obtain⟨σ2,e2⟩:∃ σ2,σ2=[oL D.int d1]++[oL D.int d2]:=⟨_,rfl⟩
 -- the first four statements
 have head:∀ (st:List Ob),Sg true RT (PL ns (xd (eL D.str pl)) (xd (eQ q)) (xd (.str (ln q))) none) σ2 (av [yY,yE,yO,uL]) (.ok true) (fun b=>.ret (.val (.d (.bl b))) st)→fw RT q8 [.d (x6 ns)] [] (.ok true) (fun b=>(.val (.d (.bl b)),st)):=fun st h=>by
  refine gB (N:=5) (b:=zF) ?_
  refine mz (PL ns (xd (eL D.str pl)) none none none) [oL D.int d1] (sh (I9 (nC (FV rfl)) (fun v=>dr _ v.1) (fun _=>blt rfl)) hp) rfl rfl ?_
  refine mz (PL ns (xd (eL D.str pl)) (xd (eQ q)) none none) σ2 (sh (e9 (x:=fun v=>.d v.1) (Ep (i:=1) (pl:=pl) rfl rfl)) hq) rfl e2.symm ?_
  refine mz (PL ns (xd (eL D.str pl)) (xd (eQ q)) (xd (.str (ln q))) none) σ2 (sh (m':=M.ok (ln q)) (e9 (x:=fun v=>.d (.str v)) (dP (R':=RT) (post:=pD D.str _ _) (ae (sv (aw (a:=eQ q) (e:=eY) rfl)) ak) (.d .nil) rfl (tZ 4) (fun _=>rfl))) (by rw[hs];rfl)) rfl rfl ?_
  refine zG (sh (qk (Gu rfl) (nI (tB (b:=fun v=>v) (sv (dF (sv (aw (a:=ln q) (e:=D.str) rfl)) (sv (dP (R':=RT) (post:=pD D.str _ _) (ae (sv (aw (a:=eQ q) (e:=eY) rfl)) ak) (.d .nil) rfl (xR 4) (fun _=>rfl))) (fun a=>A6 cn cn qS (by decide))))))) (by rw[hn,aN,M.aa,gT];rfl)) ?_
  exact h
 rcases HK hw with⟨i,x,t,eq,ht,hx⟩ | ⟨i,xs,eq,ht,hl⟩
 ·refine⟨σ2++[oL D.int d2],head _ ?_⟩
  refine mz (PL ns (xd (eL D.str pl)) (xd (eQ q)) (xd (.str (ln q))) (xd (eQ q))) σ2 (e9 (x:=fun _=>.d (eQ q)) (AU (j:=3) rfl (xi hw) eq ht)) rfl rfl ?_
  refine zG (sh (qk (Gq (ds:=i++[x]) (by rw[eq];rfl)) (nI (ib (sv (Ja (d:=eQ q) rfl rfl hy))))) rfl) ?_
  refine zG (HF (i:=i) (x:=x) (by rw[eq];rfl) hx) ?_
  exact s_end hq hw
 ·refine⟨σ2++[oL eY (xs++[D.str (sS "zz")])]++[oL D.int d2],head _ ?_⟩
  refine mz (PL ns (xd (eL D.str pl)) (xd (eQ q)) (xd (.str (ln q))) (some (.v (oR i σ2.length)))) (σ2++[.lst (xs.map .d)]) (e9 (x:=fun _=>oR i σ2.length) (AB (j:=3) rfl (xi hw) eq ht)) rfl rfl ?_
  refine zG (sh (qk (Hk rfl) (nI (ib (sv (ne_T (d:=eQ q) (xs:=xs) rfl rfl (by simp) eq hy))))) rfl) ?_
  refine Hw (GH (xs:=xs.map .d) rfl (by simp)) ?_
  have hs4:(σ2++[Ob.lst (xs.map .d)])[σ2.length]? =some (oL eY xs):=by simp[oL]
  have ea:i7 xs (D.str (sS "zz"))=.ok (xs++[D.str (sS "zz")]):=oz (by omega)
  refine mz (PL ns (xd (eL D.str pl)) (xd (eQ q)) (xd (.str (ln q))) (some (.v (oR i σ2.length)))) (σ2++[oL eY (xs++[D.str (sS "zz")])]) (sh (m':=M.ok (xs++[D.str (sS "zz")])) (hJ (r:=fun _=>.val (.d .non)) (S:=fun l=>σ2++[oL eY l]) (xI (sv (Az rfl)) (fun sg hf=>vh (e:=eY) (l:=xs) (Bm hs4) hf) (ae (sv (cD eY (D.str (sS "zz")))) ak) (GD hs4 (fun l'=>by simp)))) ea) rfl rfl ?_
  exact s_end hq hw
end
theorem EO(ns:List Int)(hl:ns.length≤63):∃ s,q8 [BM ns] []=.ok (.val (.d (.bl true))) s:=by
 obtain⟨⟨pl,d1⟩,hp,hW⟩:=GR hl
 obtain⟨⟨v,d2⟩,hq,⟨q,ev,hw⟩⟩:=F6 hW hl
 have ev:v=eQ q:=ev
 subst ev
 obtain⟨st,s⟩:=Hh hp hq hw
 exact⟨⟨[],st⟩,s⟩
end K81
namespace K81
open PySem L2 PyProof.Rows Vw
theorem xr:NM "AskReader":=⟨by decide,by decide⟩
theorem lV:NM "FIGURES":=⟨by decide,by decide⟩
theorem kf:NM "LETTERS":=⟨by decide,by decide⟩
theorem AQ:NM "NoText":=⟨by decide,by decide⟩
theorem dZ:NM "_law_at":=⟨by decide,by decide⟩
theorem qp:NM "_law_cell":=⟨by decide,by decide⟩
theorem ju:NM "_law_cells":=⟨by decide,by decide⟩
theorem kg:NM "_law_deep":=⟨by decide,by decide⟩
theorem lE:NM "_law_draws":=⟨by decide,by decide⟩
theorem cS:NM "_law_draws_here":=⟨by decide,by decide⟩
theorem qj:NM "_law_ends":=⟨by decide,by decide⟩
theorem wa:NM "_law_field":=⟨by decide,by decide⟩
theorem gI:NM "_law_field_here":=⟨by decide,by decide⟩
theorem gH:NM "_law_found":=⟨by decide,by decide⟩
theorem nv:NM "_law_k":=⟨by decide,by decide⟩
theorem ff:NM "_law_kind":=⟨by decide,by decide⟩
theorem jo:NM "_law_lefts":=⟨by decide,by decide⟩
theorem dS:NM "_law_line":=⟨by decide,by decide⟩
theorem qM:NM "_law_many":=⟨by decide,by decide⟩
theorem yp:NM "_law_mix":=⟨by decide,by decide⟩
theorem bJ:NM "_law_number":=⟨by decide,by decide⟩
theorem ym:NM "_law_one":=⟨by decide,by decide⟩
theorem wW:NM "_law_ones":=⟨by decide,by decide⟩
theorem tE:NM "_law_pattern":=⟨by decide,by decide⟩
theorem xl:NM "_law_pool":=⟨by decide,by decide⟩
theorem cY:NM "_law_pool_here":=⟨by decide,by decide⟩
theorem jf:NM "_law_pop":=⟨by decide,by decide⟩
theorem iu:NM "_law_question":=⟨by decide,by decide⟩
theorem aD:NM "_law_question_here":=⟨by decide,by decide⟩
theorem iW:NM "_law_script":=⟨by decide,by decide⟩
theorem lD:NM "_law_shown":=⟨by decide,by decide⟩
theorem qG:NM "_law_sign":=⟨by decide,by decide⟩
theorem xW:NM "_law_some":=⟨by decide,by decide⟩
theorem iM:NM "_law_stem":=⟨by decide,by decide⟩
theorem hG:NM "_law_turn":=⟨by decide,by decide⟩
theorem eI:NM "_law_word":=⟨by decide,by decide⟩
theorem iw:NM "_law_words":=⟨by decide,by decide⟩
theorem xP:NM "begin":=⟨by decide,by decide⟩
theorem AK:NM "end":=⟨by decide,by decide⟩
theorem jy:NM "field":=⟨by decide,by decide⟩
theorem iS:NM "found":=⟨by decide,by decide⟩
theorem DO:NM "good":=⟨by decide,by decide⟩
theorem qK:NM "int":=⟨by decide,by decide⟩
theorem qb:("int":Str)≠"__name__":=by decide
theorem sW:NM "kinds":=⟨by decide,by decide⟩
theorem gK:NM "len":=⟨by decide,by decide⟩
theorem gJ:("len":Str)≠"__name__":=by decide
theorem uA:NM "line":=⟨by decide,by decide⟩
theorem Dr:NM "list":=⟨by decide,by decide⟩
theorem Eb:("list":Str)≠"__name__":=by decide
theorem Dw:NM "most":=⟨by decide,by decide⟩
theorem Fi:NM "one":=⟨by decide,by decide⟩
theorem o8:NM "parts":=⟨by decide,by decide⟩
theorem cO:NM "question":=⟨by decide,by decide⟩
theorem mE:NM "read_question":=⟨by decide,by decide⟩
theorem qD:NM "reader":=⟨by decide,by decide⟩
theorem mI:NM "row":=⟨by decide,by decide⟩
theorem aF:NM "self":=⟨by decide,by decide⟩
theorem jw:NM "show_question":=⟨by decide,by decide⟩
theorem wg:NM "show_words":=⟨by decide,by decide⟩
theorem kO:NM "sign":=⟨by decide,by decide⟩
theorem B0:NM "signs":=⟨by decide,by decide⟩
theorem p4:NM "str":=⟨by decide,by decide⟩
theorem qz:("str":Str)≠"__name__":=by decide
theorem rj:NM "text":=⟨by decide,by decide⟩
theorem Bx:NM "tuple":=⟨by decide,by decide⟩
theorem BF:("tuple":Str)≠"__name__":=by decide
theorem Bn:NM "width":=⟨by decide,by decide⟩
theorem sN:NM "words":=⟨by decide,by decide⟩
structure Fx (P:Program) (w:World) (K:PySem.W.Frag) (mg:Str→Option Value) (base:Heap) (cA:String→Addr) where
 f__law_pop:Addr
 d__law_pop:FuncData
 F__law_pop:jh K "_law_pop" "_law_pop" (top 13) f__law_pop d__law_pop
 B__law_pop:Binds K d__law_pop ["_law_draws_here"] []
 d4:mg "_law_pop"=some (.ref f__law_pop)
 f__law_pool:Addr
 d__law_pool:FuncData
 F__law_pool:jh K "_law_pool" "_law_pool" (top 14) f__law_pool d__law_pool
 B__law_pool:Binds K d__law_pool ["_law_draws_here"] []
 iD:mg "_law_pool"=some (.ref f__law_pool)
 f__law_mix:Addr
 d__law_mix:FuncData
 F__law_mix:jh K "_law_mix" "_law_mix" (top 11) f__law_mix d__law_mix
 B__law_mix:Binds K d__law_mix ["_law_cell","_law_turn"] []
 jU:mg "_law_mix"=some (.ref f__law_mix)
 f__law_draws:Addr
 d__law_draws:FuncData
 F__law_draws:jh K "_law_draws" "_law_draws" (top 12) f__law_draws d__law_draws
 B__law_draws:Binds K d__law_draws ["_law_script","_law_turn","_law_many"] []
 dy:mg "_law_draws"=some (.ref f__law_draws)
 f__law_field:Addr
 d__law_field:FuncData
 F__law_field:jh K "_law_field" "_law_field" (top 15) f__law_field d__law_field
 B__law_field:Binds K d__law_field ["_law_draws_here"] []
 iO:mg "_law_field"=some (.ref f__law_field)
 f__law_pattern:Addr
 d__law_pattern:FuncData
 F__law_pattern:jh K "_law_pattern" "_law_pattern" (top 16) f__law_pattern d__law_pattern
 B__law_pattern:Binds K d__law_pattern ["_law_draws_here","_law_pool_here"] []
 gZ:mg "_law_pattern"=some (.ref f__law_pattern)
 f__law_question:Addr
 d__law_question:FuncData
 F__law_question:jh K "_law_question" "_law_question" (top 17) f__law_question d__law_question
 B__law_question:Binds K d__law_question ["_law_draws_here","_law_pool_here","_law_deep"] []
 cX:mg "_law_question"=some (.ref f__law_question)
 f_show_words:Addr
 d_show_words:FuncData
 F_show_words:jh K "show_words" "show_words" (top 6) f_show_words d_show_words
 B_show_words:Binds K d_show_words ["question"] []
 iJ:mg "show_words"=some (.ref f_show_words)
 f_show_question:Addr
 d_show_question:FuncData
 F_show_question:jh K "show_question" "show_question" (top 7) f_show_question d_show_question
 B_show_question:Binds K d_show_question ["question"] []
 d8:mg "show_question"=some (.ref f_show_question)
 f__law_shown:Addr
 d__law_shown:FuncData
 F__law_shown:jh K "_law_shown" "_law_shown" (top 18) f__law_shown d__law_shown
 B__law_shown:Binds K d__law_shown ["_law_question_here"] []
 e8:mg "_law_shown"=some (.ref f__law_shown)
 hZ:Addr
 eV:FuncData
 F_AskReader____init__:jh K "__init__" "AskReader.__init__" (eC 8 0) hZ eV
 B_AskReader____init__:Binds K eV ["self","line"] []
 f_AskReader__begins:Addr
 d_AskReader__begins:FuncData
 F_AskReader__begins:jh K "begins" "AskReader.begins" (eC 8 2) f_AskReader__begins d_AskReader__begins
 B_AskReader__begins:Binds K d_AskReader__begins ["self","text"] []
 ao:Meth K (cA "AskReader") (Str.ofString "begins") f_AskReader__begins
 f_AskReader__sure:Addr
 d_AskReader__sure:FuncData
 F_AskReader__sure:jh K "sure" "AskReader.sure" (eC 8 1) f_AskReader__sure d_AskReader__sure
 B_AskReader__sure:Binds K d_AskReader__sure ["self","good"] []
 cM:Meth K (cA "AskReader") (Str.ofString "sure") f_AskReader__sure
 f_AskReader__eat:Addr
 d_AskReader__eat:FuncData
 F_AskReader__eat:jh K "eat" "AskReader.eat" (eC 8 3) f_AskReader__eat d_AskReader__eat
 B_AskReader__eat:Binds K d_AskReader__eat ["self","text"] []
 au:Meth K (cA "AskReader") (Str.ofString "eat") f_AskReader__eat
 f_AskReader__row_of:Addr
 d_AskReader__row_of:FuncData
 F_AskReader__row_of:jh K "row_of" "AskReader.row_of" (eC 8 4) f_AskReader__row_of d_AskReader__row_of
 B_AskReader__row_of:Binds K d_AskReader__row_of ["self","signs","most"] []
 aL:Meth K (cA "AskReader") (Str.ofString "row_of") f_AskReader__row_of
 f_AskReader__many:Addr
 d_AskReader__many:FuncData
 F_AskReader__many:jh K "many" "AskReader.many" (eC 8 7) f_AskReader__many d_AskReader__many
 B_AskReader__many:Binds K d_AskReader__many ["self"] []
 fk:Meth K (cA "AskReader") (Str.ofString "many") f_AskReader__many
 f_AskReader__words:Addr
 d_AskReader__words:FuncData
 F_AskReader__words:jh K "words" "AskReader.words" (eC 8 5) f_AskReader__words d_AskReader__words
 B_AskReader__words:Binds K d_AskReader__words ["self","end"] []
 c9:Meth K (cA "AskReader") (Str.ofString "words") f_AskReader__words
 f_AskReader__asked:Addr
 d_AskReader__asked:FuncData
 F_AskReader__asked:jh K "asked" "AskReader.asked" (eC 8 6) f_AskReader__asked d_AskReader__asked
 B_AskReader__asked:Binds K d_AskReader__asked ["self","field"] []
 eo:Meth K (cA "AskReader") (Str.ofString "asked") f_AskReader__asked
 f_AskReader__question:Addr
 d_AskReader__question:FuncData
 F_AskReader__question:jh K "question" "AskReader.question" (eC 8 8) f_AskReader__question d_AskReader__question
 B_AskReader__question:Binds K d_AskReader__question ["self"] []
 aM:Meth K (cA "AskReader") (Str.ofString "question") f_AskReader__question
 f_read_question:Addr
 d_read_question:FuncData
 F_read_question:jh K "read_question" "read_question" (top 9) f_read_question d_read_question
 B_read_question:Binds K d_read_question ["line"] []
 dG:mg "read_question"=some (.ref f_read_question)
 f_law:Addr
 d_law:FuncData
 F_law:jh K "law" "law" (top 19) f_law d_law
 B_law:Binds K d_law ["_law_script"] []
 q8:mg "law"=some (.ref f_law)
 b_enumerate:mg "enumerate"=none
 b_int:mg "int"=none
 b_isinstance:mg "isinstance"=none
 b_len:mg "len"=none
 b_list:mg "list"=none
 b_range:mg "range"=none
 b_str:mg "str"=none
 b_tuple:mg "tuple"=none
 t_FIGURES:Tok
 c_FIGURES:mg "FIGURES"=some (.str "0123456789" t_FIGURES)
 t_LETTERS:Tok
 c_LETTERS:mg "LETTERS"=some (.str "abcdefghijklmnopqrstuvwxyz" t_LETTERS)
 gc_AskReader:mg (Str.ofString "AskReader")=some (.ref (cA "AskReader"))
 gc_NoText:mg (Str.ofString "NoText")=some (.ref (cA "NoText"))
 ex_NoText:ExF K (cA "NoText")
 cl_AskReader:Cls K (cA "AskReader")
 k_AskReader:Mk K (cA "AskReader") hZ
 fld:qg K cA fT
section
variable{P:Program}{w:World}{K:PySem.W.Frag}{mg:Str→Option Value}{base:Heap}{cA:String→Addr}
theorem so:FnScope ["_law_draws_here"] ["_law_draws_here"] (defScope (top 13)):=i9
theorem dU(E:Fx P w K mg base cA):FnOk P w K mg base CX0 2 E.f__law_pop E.d__law_pop ["_law_draws_here"] (eF cA 1 d4):=by
 refine lu (k:=1) E.F__law_pop so rfl rfl fun cdv A outer s H E0 C hr hC=>?_
 have hu:=hr.units
 have nodupN:=so.nd
 unfold lR
 exact(af (Vw.dN (fV hu (va cS) (ej ar) rfl) (af (cy vi) aB) aB) (af (cy (GI F.plainAttrs_list F.slot_list_pop F.type_list_pop mt_pop DK oc (va cS) rfl rfl)) aB))
theorem p8:FnScope ["_law_draws_here","_law_number","_law_stem"] ["_law_draws_here"] (defScope (top 14)):=i9
theorem mZ(E:Fx P w K mg base cA):FnOk P w K mg base CX0 4 E.f__law_pool E.d__law_pool ["_law_draws_here"] (eF cA 1 iD):=by
 have dU:=dU E
 refine lu (k:=3) E.F__law_pool p8 rfl rfl fun cdv A outer s H E0 C hr hC=>?_
 have hu:=hr.units
 have nodupN:=p8.nd
 unfold sf
 exact(af (vg nodupN (x_call hC dU (hr.mono (by omega)) rfl E.d4 E.F__law_pop.kp E.B__law_pop pass0 rfl (vc (va cS) ar) jf.1 rfl)) (af (vg nodupN (jZ (jZ az (gV (eW (va bJ) vi)) jt) jt (gV (eW (hM (va bJ) vi) vi)))) (af (cy (aK (ej (vc (aK (va iM) az) (vc (aK (va iM) az) (vc (aK (va iM) az) (vc (aK az (va iM)) (vc az ar)))))) (ej (vc (aK (va iM) (j0 az (vx hu (ej (vc vi (vc vi (vc vi (vc vi ar))))) (eW (hM (va bJ) vi) vi)))) ar)))) aB)))
theorem sm:FnScope ["_law_cell","_law_turn","_law_number"] ["_law_cell","_law_turn"] (defScope (top 11)):=i9
theorem nR(E:Fx P w K mg base cA):FnOk P w K mg base CX0 2 E.f__law_mix E.d__law_mix ["_law_cell","_law_turn"] (eF cA 2 jU):=by
 refine lu (k:=1) E.F__law_mix sm rfl rfl fun cdv A outer s H E0 C hr hC=>?_
 have hu:=hr.units
 have nodupN:=sm.nd
 unfold t7
 exact(af (vg nodupN (eW (j0 (aK (aK (eW (va qp) vi) (j0 (j0 (va hG) (va hG)) vi)) vi) vi) vi)) (af (cy (eW (aK (j0 (va bJ) (va bJ)) (j0 vi (va hG))) vi)) aB))
theorem pC:FnScope ["_law_script","_law_turn","_law_many","_law_cells","_law_lefts","_law_found","_law_k","_law_at","_law_number","_law_cell"] ["_law_script","_law_turn","_law_many"] (defScope (top 12)):=i9
theorem iA(E:Fx P w K mg base cA):FnOk P w K mg base CX0 4 E.f__law_draws E.d__law_draws ["_law_script","_law_turn","_law_many"] (eF cA 3 dy):=by
 have nR:=nR E
 refine lu (k:=3) E.F__law_draws pC rfl rfl fun cdv A outer s H E0 C hr hC=>?_
 have hu:=hr.units
 have nodupN:=pC.nd
 unfold j4
 exact(af (vg nodupN (aK (jZ (va iW) jt (gV vi)) (ej (vc (va hG) ar)))) (af (qR hC [("_law_cell",9)] rfl rfl nodupN rfl rfl rfl rfl (by kernel_rfl) (B2 (va ju)) (by kernel_rfl) (fun s H D cl fp C hC=>⟨(tn nodupN),qO,(hM (va qp) vi)⟩) rfl (by decide)) (af (vg nodupN (ej ar)) (af (xF hC PassesOwn.never rfl (wV (vc (aK (va hG) (va qM)) ar) rfl E.b_range rfl) (fun C hC hW=>(tn nodupN)) (fun C hC hW=>(af (vg nodupN (eW (va nv) (iH call_len (fO _) rfl E.b_len gL (vc (va ju) ar) rfl gJ gK.1))) (af (vg nodupN (x_call hC nR (hr.mono (by omega)) rfl E.jU E.F__law_mix.kp E.B__law_mix pass0 rfl (vc (vx hu (va ju) (va dZ)) (vc (va nv) ar)) yp.1 rfl)) (af (vg nodupN (eW (aK (j0 (va bJ) (va bJ)) (j0 vi (va nv))) vi)) (af (Vw.dN (PW.pt (Vw.v_and (GS hu (vx hu (va ju) (va dZ)) (Hv vi vi) rfl) (Vw.xm (Cr hu (vx hu (va jo) (va dZ)) vi rfl)))) (af (vg nodupN (eW (vx hu (va jo) (va dZ)) vi)) (af (Hj hu (va jo) (va dZ) (hM (vx hu (va jo) (va dZ)) vi) rfl rfl) aB)) aB) (af (dE (sR F.plainAttrs_list F.slot_list_append F.type_list_append mt_append jS oc (va gH) (vc (va bJ) ar) rfl rfl (by decide) rfl) rfl) aB)))))) rfl) (af (cy (jZ (va gH) (gV (va hG)) jt)) aB)))))
theorem pI:FnScope ["_law_draws_here"] ["_law_draws_here"] (defScope (top 15)):=i9
theorem lI(E:Fx P w K mg base cA):FnOk P w K mg base CX0 4 E.f__law_field E.d__law_field ["_law_draws_here"] (eF cA 1 iO):=by
 have dU:=dU E
 refine lu (k:=3) E.F__law_field pI rfl rfl fun cdv A outer s H E0 C hr hC=>?_
 have hu:=hr.units
 have nodupN:=pI.nd
 unfold qB
 exact(af (cy (vx hu (ej (vc az (vc az (vc az (vc az (vc az (vc az ar))))))) (eW (x_call hC dU (hr.mono (by omega)) rfl E.d4 E.F__law_pop.kp E.B__law_pop pass0 rfl (vc (va cS) ar) jf.1 rfl) vi))) aB)
theorem nD:FnScope ["_law_draws_here","_law_pool_here","_law_number","_law_word","_law_at","_law_some"] ["_law_draws_here","_law_pool_here"] (defScope (top 16)):=i9
theorem j7(E:Fx P w K mg base cA):FnOk P w K mg base CX0 4 E.f__law_pattern E.d__law_pattern ["_law_draws_here","_law_pool_here"] (eF cA 2 gZ):=by
 have dU:=dU E
 refine lu (k:=3) E.F__law_pattern nD rfl rfl fun cdv A outer s H E0 C hr hC=>?_
 have hu:=hr.units
 have nodupN:=nD.nd
 unfold oq
 exact(af (vg nodupN (x_call hC dU (hr.mono (by omega)) rfl E.d4 E.F__law_pop.kp E.B__law_pop pass0 rfl (vc (va cS) ar) jf.1 rfl)) (af (vg nodupN (vx hu (aK (va cY) (ej (vc az ar))) (eW (va bJ) (aK (iH call_len (fO _) rfl E.b_len gL (vc (va cY) ar) rfl gJ gK.1) vi)))) (af (vg nodupN (eW (hM (va bJ) vi) (iH call_len (fO _) rfl E.b_len gL (vc (va eI) ar) rfl gJ gK.1))) (af (vg nodupN (ej (vc (aK (jZ (va eI) jt (gV (va dZ))) az) (vc (aK az (jZ (va eI) (gV (va dZ)) jt)) (vc (aK (aK (jZ (va eI) jt (gV (va dZ))) az) (jZ (va eI) (gV (aK (va dZ) vi)) jt)) (vc (va eI) (vc az (vc (j0 az (aK vi (va dZ))) ar)))))))) (af (cy (vx hu (aK (va xW) (ej (vc (aK (aK (jZ (va eI) jt (gV (va dZ))) az) (jZ (va eI) (gV (aK (va dZ) vi)) jt)) (vc (aK (aK az (vx hu (va eI) (va dZ))) az) ar)))) (eW (hM (va bJ) vi) vi))) aB)))))
theorem mr:FnScope ["_law_draws_here","_law_pool_here","_law_deep","_law_number","_law_kind","_law_ones","_law_field_here","_law_many","_law_words","_law_k"] ["_law_draws_here","_law_pool_here","_law_deep"] (defScope (top 17)):=i9
theorem en(E:Fx P w K mg base cA):∀ n,FnOk P w K mg base CX0 (6+n) E.f__law_question E.d__law_question ["_law_draws_here","_law_pool_here","_law_deep"] (eF cA 3 (cX n))
 | 0=>qQ rfl
 | n+1=>by
  have en:=en E n
  have dU:=dU E
  have lI:=lI E
  have j7:=j7 E
  refine lu (k:=6+n) E.F__law_question mr rfl rfl fun cdv A outer s H E0 C hr hC=>?_
  have hu:=hr.units
  have nodupN:=mr.nd
  generalize cX n=rec at *
  unfold ny
  exact(af (Cc nodupN rfl (.inr rfl) (.inl rfl) (x_call hC dU (hr.mono (by omega)) rfl E.d4 E.F__law_pop.kp E.B__law_pop pass0 rfl (vc (vb cS) ar) jf.1 rfl) rfl) (af (vg nodupN (eW (vb bJ) vi)) (af (Vw.dN (fV hu (vb kg) vi rfl) (af (vg nodupN (eW (va ff) vi)) aB) aB) (af (Vw.dN (wK hu (va ff) vi rfl) (af (vg nodupN (x_call hC lI (hr.mono (by omega)) rfl E.iO E.F__law_field.kp E.B__law_field pass0 rfl (vc (vb cS) ar) wa.1 rfl)) aB) aB) (af (Vw.dN (fV hu (va ff) vi rfl) (af (cy (gj (vc az (vc (va gI) (vc (vx hu (aK (vb cY) (ej (vc az ar))) (eW (hM (vb bJ) vi) (aK (iH call_len (fO _) rfl E.b_len gL (vc (vb cY) ar) rfl gJ gK.1) vi))) ar))))) aB) aB) (af (Vw.dN (fV hu (va ff) vi rfl) (af (cy (gj (vc az (vc (va gI) (vc (x_call hC j7 (hr.mono (by omega)) rfl E.gZ E.F__law_pattern.kp E.B__law_pattern pass0 rfl (vc (vb cS) (vc (vb cY) ar)) tE.1 rfl) ar))))) aB) aB) (af (Vw.dN (wK hu (va ff) vi rfl) (af (vg nodupN (aK vi (eW (hM (vb bJ) vi) (vx hu (ej (vc vi (vc vi ar))) (eW (hM (vb bJ) vi) vi))))) (af (qR hC [("_law_k",9)] rfl rfl nodupN rfl rfl rfl rfl (by kernel_rfl) (wV (vc (va qM) ar) rfl E.b_range rfl) (by kernel_rfl) (fun s H D cl fp C hC=>⟨(tn nodupN),qO,(vx hu (vb cY) (eW (x_call hC dU (hr.mono (by omega)) rfl E.d4 E.F__law_pop.kp E.B__law_pop pass0 rfl (vc (vb cS) ar) jf.1 rfl) (vx hu (ej (vc vi (vc (iH call_len (fO _) rfl E.b_len gL (vc (vb cY) ar) rfl gJ gK.1) ar))) (eW (hM (vb bJ) vi) vi))))⟩) rfl (by decide)) (af (Vw.dN (fV hu (va ff) vi rfl) (af (cy (gj (vc az (vc (va gI) (vc (va iw) ar))))) aB) aB) (af (cy (gj (vc (vx hu (ej (vc az (vc az ar))) (wi (va ff) vi)) (vc (va gI) (vc (aK vi (eW (hM (vb bJ) vi) (vx hu (ej (vc vi (vc vi ar))) (eW (hM (vb bJ) vi) vi)))) (vc (va iw) ar)))))) aB)))) aB) (af (Vw.dN (fV hu (va ff) vi rfl) (af (cy (gj (vc az (vc (x_call hC en (hr.mono (by omega)) rfl E.cX E.F__law_question.kp E.B__law_question pass0 rfl (vc (vb cS) (vc (vb cY) (vc (wi (vb kg) vi) ar))) iu.1 rfl) ar)))) aB) aB) (af (qR hC [("_law_k",9)] rfl rfl nodupN rfl rfl rfl rfl (by kernel_rfl) (wV (vc (eW (hM (vb bJ) vi) (vx hu (ej (vc vi (vc vi (vc vi (vc vi ar))))) (vb kg))) ar) rfl E.b_range rfl) (by kernel_rfl) (fun s H D cl fp C hC=>⟨(tn nodupN),qO,(x_call hC en (hr.mono (by omega)) rfl E.cX E.F__law_question.kp E.B__law_question pass0 rfl (vc (vb cS) (vc (vb cY) (vc (wi (vb kg) vi) ar))) iu.1 rfl)⟩) rfl (by decide)) (af (cy (gj (vc (vx hu (ej (vc az (vc az ar))) (eW (va ff) vi)) (vc (va wW) ar)))) aB))))))))))
theorem pw:FnScope ["question","words"] ["question"] (defScope (top 6)):=i9
theorem lz(E:Fx P w K mg base cA):FnOk P w K mg base CX0 2 E.f_show_words E.d_show_words ["question"] (eF cA 1 iJ):=by
 refine lu (k:=1) E.F_show_words pw rfl rfl fun cdv A outer s H E0 C hr hC=>?_
 have hu:=hr.units
 have nodupN:=pw.nd
 unfold p7
 exact(af (Vw.dN (fV hu (vx hu (va cO) vi) az rfl) (af (cy (vx hu (va cO) vi)) aB) aB) (af (Vw.dN (fV hu (vx hu (va cO) vi) az rfl) (af (Vw.dN (PW.pt (Vw.v_or (n3 hu az (vx hu (va cO) vi) rfl) (Vw.oZ (n3 hu az (vx hu (va cO) vi) rfl)))) (af (cy (vx hu (va cO) vi)) aB) aB) (af (cy (aK az (vx hu (va cO) vi))) aB)) aB) (af (vg nodupN (sR F.plainAttrs_str F.slot_str_join F.type_str_join mt_join (xQ _) AD az (vc (vx hu (va cO) (th vi)) ar) rfl rfl (by decide) rfl)) (af (Vw.dN (fV hu (vx hu (va cO) vi) az rfl) (af (cy (aK (aK az (va sN)) az)) aB) aB) (af (Vw.dN (fV hu (vx hu (va cO) vi) az rfl) (af (cy (aK (aK (aK (jT call_str_int oY rfl E.b_str qP (vc (vx hu (va cO) vi) ar) rfl qz p4.1) az) (va sN)) az)) aB) aB) (af (cy (aK (aK (aK (jT call_str_int oY rfl E.b_str qP (vc (vx hu (va cO) vi) ar) rfl qz p4.1) az) (va sN)) az)) aB))))))
theorem mW:FnScope ["question","sign","parts","one"] ["question"] (defScope (top 7)):=i9
theorem eS(E:Fx P w K mg base cA):∀ n,FnOk P w K mg base CX0 (4+n) E.f_show_question E.d_show_question ["question"] (eF cA 1 (d8 n))
 | 0=>qQ rfl
 | n+1=>by
  have eS:=eS E n
  have lz:=lz E
  refine lu (k:=4+n) E.F_show_question mW rfl rfl fun cdv A outer s H E0 C hr hC=>?_
  have hu:=hr.units
  have nodupN:=mW.nd
  generalize d8 n=rec at *
  unfold nr
  exact(af (Vw.dN (fV hu (vx hu (va cO) vi) az rfl) (af (cy (aK az (x_call hC eS (hr.mono (by omega)) rfl E.d8 E.F_show_question.kp E.B_show_question pass0 rfl (vc (vx hu (va cO) vi) ar) jw.1 rfl))) aB) aB) (af (Vw.dN (PW.pt (Vw.v_and (y5 hu (vx hu (va cO) vi) az rfl) (Vw.xm (y5 hu (vx hu (va cO) vi) az rfl)))) (af (cy (aK (aK (vx hu (va cO) vi) az) (x_call hC lz (hr.mono (by omega)) rfl E.iJ E.F_show_words.kp E.B_show_words pass0 rfl (vc (va cO) ar) wg.1 rfl))) aB) aB) (af (vg nodupN (GC (fV hu (vx hu (va cO) vi) az rfl) az az)) (af (qR hC [("one",3)] rfl rfl nodupN rfl rfl rfl rfl (by kernel_rfl) (B2 (vx hu (va cO) vi)) (by kernel_rfl) (fun s H D cl fp C hC=>⟨(tn nodupN),qO,(x_call hC eS (hr.mono (by omega)) rfl E.d8 E.F_show_question.kp E.B_show_question pass0 rfl (vc (va Fi) ar) jw.1 rfl)⟩) rfl (by decide)) (af (Vw.dN (fV hu (iH call_len (fO _) rfl E.b_len gL (vc (va o8) ar) rfl gJ gK.1) vi rfl) (af (cy (aK (aK az (va kO)) az)) aB) aB) (af (Vw.dN (fV hu (iH call_len (fO _) rfl E.b_len gL (vc (va o8) ar) rfl gJ gK.1) vi rfl) (af (cy (aK (aK (aK (aK az (va kO)) az) (vx hu (va o8) vi)) az)) aB) aB) (af (cy (aK (aK az (sR F.plainAttrs_str F.slot_str_join F.type_str_join mt_join (xQ _) AD (aK (aK az (va kO)) az) (vc (va o8) ar) rfl rfl (by decide) rfl)) az)) aB)))))))
theorem pK:FnScope ["_law_question_here","_law_line","_law_words","_law_word","_law_ends","_law_sign","_law_k","_law_one"] ["_law_question_here"] (defScope (top 18)):=i9
theorem f7(E:Fx P w K mg base cA):∀ n,FnOk P w K mg base CX0 (2+n) E.f__law_shown E.d__law_shown ["_law_question_here"] (eF cA 1 (e8 n))
 | 0=>qQ rfl
 | n+1=>by
  have f7:=f7 E n
  refine lu (k:=2+n) E.F__law_shown pK rfl rfl fun cdv A outer s H E0 C hr hC=>?_
  have hu:=hr.units
  have nodupN:=pK.nd
  generalize e8 n=rec at *
  unfold qC
  exact(af (Vw.dN (fV hu (vx hu (va aD) vi) az rfl) (af (cy (aK az (x_call hC f7 (hr.mono (by omega)) rfl E.e8 E.F__law_shown.kp E.B__law_shown pass0 rfl (vc (vx hu (va aD) vi) ar) lD.1 rfl))) aB) aB) (af (Vw.dN (PW.pt (Vw.v_or (fV hu (vx hu (va aD) vi) az rfl) (Vw.oZ (fV hu (vx hu (va aD) vi) az rfl)))) (af (vg nodupN (vx hu (ej (vc az (vc az ar))) (jT call_int1 ui rfl E.b_int p9 (vc (u6 hu (vx hu (va aD) vi) az rfl) ar) rfl qb qK.1))) (af (vg nodupN az) (af (Vw.dN (wK hu (iH call_len (fO _) rfl E.b_len gL (vc (vx hu (va aD) vi) ar) rfl gJ gK.1) vi rfl) (af (vg nodupN (aK (aK (va dS) (va qG)) (j0 az (iH call_len (fO _) rfl E.b_len gL (vc (vx hu (va aD) vi) ar) rfl gJ gK.1)))) aB) aB) (af (xF hC PassesOwn.never rfl (Fs (vx hu (va aD) vi) rfl E.b_enumerate rfl) (fun C hC hW=>(DH rfl (yd (tn nodupN) (yd (tn nodupN) Dh rfl) rfl) rfl rfl)) (fun C hC hW=>(af (Vw.dN (Cr hu (va nv) vi rfl) (af (vg nodupN (aK (aK (aK (va dS) az) (va qG)) az)) aB) aB) (af (vg nodupN (aK (va dS) (x_call hC f7 (hr.mono (by omega)) rfl E.e8 E.F__law_shown.kp E.B__law_shown pass0 rfl (vc (va ym) ar) lD.1 rfl))) aB))) rfl) (af (cy (aK (va dS) az)) aB))))) aB) (af (vg nodupN (aK (vx hu (va aD) vi) az)) (af (Vw.dN (fV hu (vx hu (va aD) vi) az rfl) (af (cy (aK (va dS) (vx hu (va aD) vi))) aB) aB) (af (Vw.dN (fV hu (vx hu (va aD) vi) az rfl) (af (cy (aK (aK (va dS) (j0 az (jT call_int1 ui rfl E.b_int p9 (vc (Vw.Aq (yx hu az (vx hu (va aD) vi) rfl) (Vw.yr (yx hu az (vx hu (va aD) vi) rfl))) ar) rfl qb qK.1))) (vx hu (va aD) vi))) aB) aB) (af (vg nodupN az) (af (xF hC PassesOwn.never rfl (B2 (vx hu (va aD) (th vi))) (fun C hC hW=>(tn nodupN)) (fun C hC hW=>(af (vg nodupN (aK (aK (va iw) az) (va eI))) aB)) rfl) (af (Vw.dN (fV hu (vx hu (va aD) vi) az rfl) (af (cy (aK (aK (aK (va dS) az) (jZ (va iw) (gV vi) jt)) az)) aB) aB) (af (vg nodupN (vx hu (ej (vc az (vc az ar))) (jT call_int1 ui rfl E.b_int p9 (vc (u6 hu (vx hu (va aD) vi) az rfl) ar) rfl qb qK.1))) (af (cy (aK (aK (aK (aK (va dS) (jT call_str_int oY rfl E.b_str qP (vc (vx hu (va aD) vi) ar) rfl qz p4.1)) (vx hu (va qj) vi)) (jZ (va iw) (gV vi) jt)) (vx hu (va qj) vi))) aB))))))))))
theorem ja:FnScope ["self","line"] ["self","line"] (defScope (eC 8 0)):=i9
theorem gR(E:Fx P w K mg base cA):FnOk P w K mg base CX0 2 E.hZ E.eV ["self","line"] (eF cA 2 g0):=by
 refine lu (k:=1) E.F_AskReader____init__ ja rfl rfl fun cdv A outer s H E0 C hr hC=>?_
 have hu:=hr.units
 have nodupN:=ja.nd
 unfold jE
 exact(af (Aa hC E.fld (va aF) (va uA) rfl) (af (Aa hC E.fld (va aF) vi rfl) aB))
theorem ke:FnScope ["self","text"] ["self","text"] (defScope (eC 8 2)):=i9
theorem aE(E:Fx P w K mg base cA):FnOk P w K mg base CX0 2 E.f_AskReader__begins E.d_AskReader__begins ["self","text"] (eF cA 2 aW):=by
 refine lu (k:=1) E.F_AskReader__begins ke rfl rfl fun cdv A outer s H E0 C hr hC=>?_
 have hu:=hr.units
 have nodupN:=ke.nd
 unfold kv
 exact(af (cy (u6 hu (jZ (jk hC E.fld (va aF) rfl) (gV (jk hC E.fld (va aF) rfl)) (gV (aK (jk hC E.fld (va aF) rfl) (iH call_len (fO _) rfl E.b_len gL (vc (va rj) ar) rfl gJ gK.1)))) (va rj) rfl)) aB)
theorem k8:FnScope ["self","good"] ["self","good"] (defScope (eC 8 1)):=i9
theorem bF(E:Fx P w K mg base cA):FnOk P w K mg base (L2.CX P w) 2 E.f_AskReader__sure E.d_AskReader__sure ["self","good"] (eF cA 2 eG):=by
 refine lT (k:=1) E.F_AskReader__sure k8 rfl rfl fun cdv A outer s H E0 C hr hC tk=>?_
 have hu:=hr.units
 have nodupN:=k8.nd
 unfold lM
 exact(af (Vw.dN (Vw.v_not (gM (va DO) rfl)) (af (x_raise hC rfl tk E.ex_NoText E.gc_NoText rfl AQ.1) aB) aB) aB)
theorem lK:FnScope ["self","text"] ["self","text"] (defScope (eC 8 3)):=i9
theorem aH(E:Fx P w K mg base cA):FnOk P w K mg base (L2.CX P w) 4 E.f_AskReader__eat E.d_AskReader__eat ["self","text"] (eF cA 2 aZ):=by
 have bF:=bF E
 have aE:=aE E
 refine lT (k:=3) E.F_AskReader__eat lK rfl rfl fun cdv A outer s H E0 C hr hC tk=>?_
 have hu:=hr.units
 have nodupN:=lK.nd
 unfold mN
 exact(af (dE (cL hC (mX tk) E.cl_AskReader E.cM bF (hr.mono (by omega)) E.B_AskReader__sure rfl (va aF) (vc (cL hC mR E.cl_AskReader E.ao aE (hr.mono (by omega)) E.B_AskReader__begins rfl (va aF) (vc (va rj) ar) rfl rfl) ar) rfl rfl) rfl) (af (tS hC E.fld (va aF) (iH call_len (fO _) rfl E.b_len gL (vc (va rj) ar) rfl gJ gK.1)) aB))
theorem kd:FnScope ["self","signs","most","begin"] ["self","signs","most"] (defScope (eC 8 4)):=i9
theorem aY(E:Fx P w K mg base cA):FnOk P w K mg base (L2.CX P w) 4 E.f_AskReader__row_of E.d_AskReader__row_of ["self","signs","most"] (eF cA 3 df):=by
 have bF:=bF E
 refine lT (k:=3) E.F_AskReader__row_of kd rfl rfl fun cdv A outer s H E0 C hr hC tk=>?_
 have hu:=hr.units
 have nodupN:=kd.nd
 unfold ko
 exact(af (vg nodupN (jk hC E.fld (va aF) rfl)) (af (BU (L2.passes_of rfl) (PW.pt (Vw.v_and (wK hu (jk hC E.fld (va aF) rfl) (iH call_len (fO _) rfl E.b_len gL (vc (jk hC E.fld (va aF) rfl) ar) rfl gJ gK.1) rfl) (Vw.xm (n3 hu (vx hu (jk hC E.fld (va aF) rfl) (jk hC E.fld (va aF) rfl)) (va B0) rfl)))) (af (tS hC E.fld (va aF) vi) aB)) (af (dE (cL hC (mX tk) E.cl_AskReader E.cM bF (hr.mono (by omega)) E.B_AskReader__sure rfl (va aF) (vc (Bu hu vi (wi (jk hC E.fld (va aF) rfl) (va xP)) (va Dw) rfl) ar) rfl rfl) rfl) (af (cy (jZ (jk hC E.fld (va aF) rfl) (gV (va xP)) (gV (jk hC E.fld (va aF) rfl)))) aB))))
theorem k7:FnScope ["self","kinds","found","sign"] ["self"] (defScope (eC 8 7)):=i9
theorem iL(E:Fx P w K mg base cA)(rec:Fn)(n:Nat)(bG:FnOk P w K mg base (L2.CX P w) (10+2*n) E.f_AskReader__question E.d_AskReader__question ["self"] (eF cA 1 rec)):FnOk P w K mg base (L2.CX P w) (10+2*n+1) E.f_AskReader__many E.d_AskReader__many ["self"] (eF cA 1 (i6 rec)):=by
 have aE:=aE E
 have aY:=aY E
 have aH:=aH E
 refine lT (k:=10+2*n) E.F_AskReader__many k7 rfl rfl fun cdv A outer s H E0 C hr hC tk=>?_
 have hu:=hr.units
 have nodupN:=k7.nd
 unfold lL
 exact(af (vg nodupN (Fw (pps_cons yM uJ (pps_cons yM uJ pps_nil)) rfl rfl (fun h=>by cases h) (Nat.le_of_ble_eq_true rfl))) (af (Vw.dN (PW.pt (Vw.v_or (gM (cL hC mR E.cl_AskReader E.ao aE (hr.mono (by omega)) E.B_AskReader__begins rfl (va aF) (vc az ar) rfl rfl) rfl) (Vw.oZ (gM (cL hC mR E.cl_AskReader E.ao aE (hr.mono (by omega)) E.B_AskReader__begins rfl (va aF) (vc az ar) rfl rfl) rfl)))) (af (vg nodupN (cL hC (mX tk) E.cl_AskReader E.aL aY (hr.mono (by omega)) E.B_AskReader__row_of rfl (va aF) (vc az (vc vi ar)) rfl rfl)) (af (Vw.dN (gM (cL hC mR E.cl_AskReader E.ao aE (hr.mono (by omega)) E.B_AskReader__begins rfl (va aF) (vc az ar) rfl rfl) rfl) (af (dE (cL hC (mX tk) E.cl_AskReader E.au aH (hr.mono (by omega)) E.B_AskReader__eat rfl (va aF) (vc az ar) rfl rfl) rfl) (af (cy (gj (vc (vx hu (va sW) (va kO)) (vc (ej ar) ar)))) aB)) aB) (af (dE (cL hC (mX tk) E.cl_AskReader E.au aH (hr.mono (by omega)) E.B_AskReader__eat rfl (va aF) (vc az ar) rfl rfl) rfl) (af (vg nodupN (ej (vc (mO hC (mX tk) E.cl_AskReader E.aM bG (hr.mono (by omega)) E.B_AskReader__question rfl (va aF) rfl) ar))) (af (dE (cL hC (mX tk) E.cl_AskReader E.au aH (hr.mono (by omega)) E.B_AskReader__eat rfl (va aF) (vc az ar) rfl rfl) rfl) (af (cy (gj (vc (vx hu (va sW) (va kO)) (vc (va iS) ar)))) aB)))))) aB) (af (vg nodupN (ej (vc (mO hC (mX tk) E.cl_AskReader E.aM bG (hr.mono (by omega)) E.B_AskReader__question rfl (va aF) rfl) ar))) (af (dE (cL hC (mX tk) E.cl_AskReader E.au aH (hr.mono (by omega)) E.B_AskReader__eat rfl (va aF) (vc az ar) rfl rfl) rfl) (af (vg nodupN (cL hC (mX tk) E.cl_AskReader E.aL aY (hr.mono (by omega)) E.B_AskReader__row_of rfl (va aF) (vc az (vc vi ar)) rfl rfl)) (af (dE (cL hC (mX tk) E.cl_AskReader E.au aH (hr.mono (by omega)) E.B_AskReader__eat rfl (va aF) (vc az ar) rfl rfl) rfl) (af (dE (sR F.plainAttrs_list F.slot_list_append F.type_list_append mt_append jS oc (va iS) (vc (mO hC (mX tk) E.cl_AskReader E.aM bG (hr.mono (by omega)) E.B_AskReader__question rfl (va aF) rfl) ar) rfl rfl (by decide) rfl) rfl) (af (BU (L2.passes_of rfl) (Vw.v_not (gM (cL hC mR E.cl_AskReader E.ao aE (hr.mono (by omega)) E.B_AskReader__begins rfl (va aF) (vc az ar) rfl rfl) rfl)) (af (dE (cL hC (mX tk) E.cl_AskReader E.au aH (hr.mono (by omega)) E.B_AskReader__eat rfl (va aF) (vc (aK (aK az (va kO)) az) ar) rfl rfl) rfl) (af (dE (sR F.plainAttrs_list F.slot_list_append F.type_list_append mt_append jS oc (va iS) (vc (mO hC (mX tk) E.cl_AskReader E.aM bG (hr.mono (by omega)) E.B_AskReader__question rfl (va aF) rfl) ar) rfl rfl (by decide) rfl) rfl) aB))) (af (dE (cL hC (mX tk) E.cl_AskReader E.au aH (hr.mono (by omega)) E.B_AskReader__eat rfl (va aF) (vc az ar) rfl rfl) rfl) (af (cy (gj (vc (vx hu (va sW) (va kO)) (vc (va iS) ar)))) aB))))))))))
theorem ky:FnScope ["self","end","found"] ["self","end"] (defScope (eC 8 5)):=i9
theorem fx(E:Fx P w K mg base cA):FnOk P w K mg base (L2.CX P w) 6 E.f_AskReader__words E.d_AskReader__words ["self","end"] (eF cA 2 fH):=by
 have aY:=aY E
 have aE:=aE E
 have aH:=aH E
 have bF:=bF E
 refine lT (k:=5) E.F_AskReader__words ky rfl rfl fun cdv A outer s H E0 C hr hC tk=>?_
 have hu:=hr.units
 have nodupN:=ky.nd
 unfold lg
 exact(af (vg nodupN (ej (vc (cL hC (mX tk) E.cl_AskReader E.aL aY (hr.mono (by omega)) E.B_AskReader__row_of rfl (va aF) (vc (aK (jW rfl E.c_LETTERS kf.1) (jW rfl E.c_FIGURES lV.1)) (vc vi ar)) rfl rfl) ar))) (af (BU (L2.passes_of rfl) (Vw.v_not (gM (cL hC mR E.cl_AskReader E.ao aE (hr.mono (by omega)) E.B_AskReader__begins rfl (va aF) (vc (va AK) ar) rfl rfl) rfl)) (af (dE (cL hC (mX tk) E.cl_AskReader E.au aH (hr.mono (by omega)) E.B_AskReader__eat rfl (va aF) (vc az ar) rfl rfl) rfl) (af (dE (sR F.plainAttrs_list F.slot_list_append F.type_list_append mt_append jS oc (va iS) (vc (cL hC (mX tk) E.cl_AskReader E.aL aY (hr.mono (by omega)) E.B_AskReader__row_of rfl (va aF) (vc (aK (jW rfl E.c_LETTERS kf.1) (jW rfl E.c_FIGURES lV.1)) (vc vi ar)) rfl rfl) ar) rfl rfl (by decide) rfl) rfl) aB))) (af (dE (cL hC (mX tk) E.cl_AskReader E.au aH (hr.mono (by omega)) E.B_AskReader__eat rfl (va aF) (vc (va AK) ar) rfl rfl) rfl) (af (dE (cL hC (mX tk) E.cl_AskReader E.cM bF (hr.mono (by omega)) E.B_AskReader__sure rfl (va aF) (vc (IG hu (iH call_len (fO _) rfl E.b_len gL (vc (va iS) ar) rfl gJ gK.1) vi rfl) ar) rfl rfl) rfl) (af (cy (va iS)) aB)))))
theorem kx:FnScope ["self","field","row","width"] ["self","field"] (defScope (eC 8 6)):=i9
theorem iG(E:Fx P w K mg base cA):FnOk P w K mg base (L2.CX P w) 8 E.f_AskReader__asked E.d_AskReader__asked ["self","field"] (eF cA 2 iQ):=by
 have aE:=aE E
 have aH:=aH E
 have fx:=fx E
 have aY:=aY E
 have bF:=bF E
 refine lT (k:=7) E.F_AskReader__asked kx rfl rfl fun cdv A outer s H E0 C hr hC tk=>?_
 have hu:=hr.units
 have nodupN:=kx.nd
 unfold kZ
 exact(af (Vw.dN (gM (cL hC mR E.cl_AskReader E.ao aE (hr.mono (by omega)) E.B_AskReader__begins rfl (va aF) (vc az ar) rfl rfl) rfl) (af (dE (cL hC (mX tk) E.cl_AskReader E.au aH (hr.mono (by omega)) E.B_AskReader__eat rfl (va aF) (vc az ar) rfl rfl) rfl) (af (cy (gj (vc az (vc (va jy) (vc (cL hC (mX tk) E.cl_AskReader E.c9 fx (hr.mono (by omega)) E.B_AskReader__words rfl (va aF) (vc az ar) rfl rfl) ar))))) aB)) aB) (af (Vw.dN (gM (cL hC mR E.cl_AskReader E.ao aE (hr.mono (by omega)) E.B_AskReader__begins rfl (va aF) (vc az ar) rfl rfl) rfl) (af (dE (cL hC (mX tk) E.cl_AskReader E.au aH (hr.mono (by omega)) E.B_AskReader__eat rfl (va aF) (vc az ar) rfl rfl) rfl) (af (cy (gj (vc az (vc (va jy) (vc (cL hC (mX tk) E.cl_AskReader E.aL aY (hr.mono (by omega)) E.B_AskReader__row_of rfl (va aF) (vc (aK (jW rfl E.c_LETTERS kf.1) (jW rfl E.c_FIGURES lV.1)) (vc vi ar)) rfl rfl) ar))))) aB)) aB) (af (vg nodupN (cL hC (mX tk) E.cl_AskReader E.aL aY (hr.mono (by omega)) E.B_AskReader__row_of rfl (va aF) (vc (aK (aK (jW rfl E.c_LETTERS kf.1) (jW rfl E.c_FIGURES lV.1)) az) (vc vi ar)) rfl rfl)) (af (Vw.dN (PW.pt (Vw.v_or (gM (cL hC mR E.cl_AskReader E.ao aE (hr.mono (by omega)) E.B_AskReader__begins rfl (va aF) (vc az ar) rfl rfl) rfl) (Vw.oZ (gM (cL hC mR E.cl_AskReader E.ao aE (hr.mono (by omega)) E.B_AskReader__begins rfl (va aF) (vc az ar) rfl rfl) rfl)))) (af (dE (cL hC (mX tk) E.cl_AskReader E.cM bF (hr.mono (by omega)) E.B_AskReader__sure rfl (va aF) (vc (FG hu (va mI) (Jc hC [("width",3)] rfl rfl nodupN (FF (vc vi (vc vi ar)) rfl E.b_range rfl rfl) (by kernel_rfl) (fun s H D cl fp C hC=>⟨(tn nodupN),qO,(jT call_str_int oY rfl E.b_str qP (vc (va Bn) ar) rfl qz p4.1)⟩) rfl (by decide)) rfl) ar) rfl rfl) rfl) (af (Vw.dN (gM (cL hC mR E.cl_AskReader E.ao aE (hr.mono (by omega)) E.B_AskReader__begins rfl (va aF) (vc az ar) rfl rfl) rfl) (af (dE (cL hC (mX tk) E.cl_AskReader E.au aH (hr.mono (by omega)) E.B_AskReader__eat rfl (va aF) (vc az ar) rfl rfl) rfl) (af (cy (gj (vc az (vc (va jy) (vc (jT call_int_str w6 rfl E.b_int p9 (vc (va mI) ar) rfl qb qK.1) (vc (cL hC (mX tk) E.cl_AskReader E.c9 fx (hr.mono (by omega)) E.B_AskReader__words rfl (va aF) (vc az ar) rfl rfl) ar)))))) aB)) aB) (af (dE (cL hC (mX tk) E.cl_AskReader E.au aH (hr.mono (by omega)) E.B_AskReader__eat rfl (va aF) (vc az ar) rfl rfl) rfl) (af (cy (gj (vc az (vc (va jy) (vc (jT call_int_str w6 rfl E.b_int p9 (vc (va mI) ar) rfl qb qK.1) (vc (cL hC (mX tk) E.cl_AskReader E.c9 fx (hr.mono (by omega)) E.B_AskReader__words rfl (va aF) (vc az ar) rfl rfl) ar)))))) aB)))) aB) (af (Vw.dN (PW.pt (Vw.v_or (n3 hu az (va mI) rfl) (Vw.oZ (n3 hu az (va mI) rfl)))) (af (cy (gj (vc az (vc (va jy) (vc (va mI) ar))))) aB) aB) (af (cy (gj (vc az (vc (va jy) (vc (va mI) ar))))) aB))))))
theorem jg:FnScope ["self","field"] ["self"] (defScope (eC 8 8)):=i9
theorem bG(E:Fx P w K mg base cA):∀ n,FnOk P w K mg base (L2.CX P w) (10+2*n) E.f_AskReader__question E.d_AskReader__question ["self"] (eF cA 1 (d9 n))
 | 0=>qQ rfl
 | n+1=>by
  have bG:=bG E n
  have aE:=aE E
  have aH:=aH E
  have iL:=iL E (d9 n) n bG
  have aY:=aY E
  have iG:=iG E
  refine lT (k:=10+2*n+1) E.F_AskReader__question jg rfl rfl fun cdv A outer s H E0 C hr hC tk=>?_
  have hu:=hr.units
  have nodupN:=jg.nd
  generalize d9 n=rec at *
  unfold jN
  exact(af (Vw.dN (gM (cL hC mR E.cl_AskReader E.ao aE (hr.mono (by omega)) E.B_AskReader__begins rfl (va aF) (vc az ar) rfl rfl) rfl) (af (dE (cL hC (mX tk) E.cl_AskReader E.au aH (hr.mono (by omega)) E.B_AskReader__eat rfl (va aF) (vc az ar) rfl rfl) rfl) (af (cy (gj (vc az (vc (mO hC (mX tk) E.cl_AskReader E.aM bG (hr.mono (by omega)) E.B_AskReader__question rfl (va aF) rfl) ar)))) aB)) aB) (af (Vw.dN (gM (cL hC mR E.cl_AskReader E.ao aE (hr.mono (by omega)) E.B_AskReader__begins rfl (va aF) (vc az ar) rfl rfl) rfl) (af (dE (cL hC (mX tk) E.cl_AskReader E.au aH (hr.mono (by omega)) E.B_AskReader__eat rfl (va aF) (vc az ar) rfl rfl) rfl) (af (cy (mO hC (mX tk) E.cl_AskReader E.fk iL (hr.mono (by omega)) E.B_AskReader__many rfl (va aF) rfl)) aB)) aB) (af (Vw.dN (gM (cL hC mR E.cl_AskReader E.ao aE (hr.mono (by omega)) E.B_AskReader__begins rfl (va aF) (vc az ar) rfl rfl) rfl) (af (dE (cL hC (mX tk) E.cl_AskReader E.au aH (hr.mono (by omega)) E.B_AskReader__eat rfl (va aF) (vc az ar) rfl rfl) rfl) (af (vg nodupN az) aB)) (af (vg nodupN (cL hC (mX tk) E.cl_AskReader E.aL aY (hr.mono (by omega)) E.B_AskReader__row_of rfl (va aF) (vc (jW rfl E.c_LETTERS kf.1) (vc vi ar)) rfl rfl)) aB)) (af (dE (cL hC (mX tk) E.cl_AskReader E.au aH (hr.mono (by omega)) E.B_AskReader__eat rfl (va aF) (vc az ar) rfl rfl) rfl) (af (cy (cL hC (mX tk) E.cl_AskReader E.eo iG (hr.mono (by omega)) E.B_AskReader__asked rfl (va aF) (vc (va jy) ar) rfl rfl)) aB)))))
theorem mw:FnScope ["line","reader","found"] ["line"] (defScope (top 9)):=i9
theorem iq(E:Fx P w K mg base cA):FnOk P w K mg base (L2.CX P w) 20 E.f_read_question E.d_read_question ["line"] (eF cA 1 dG):=by
 have gR:=gR E
 have bG:=bG E 4
 have bF:=bF E
 refine lT (k:=19) E.F_read_question mw rfl rfl fun cdv A outer s H E0 C hr hC tk=>?_
 have hu:=hr.units
 have nodupN:=mw.nd
 unfold nz
 exact(af (vg nodupN (Jp hC mR E.k_AskReader gR (hr.mono (by omega)) rfl E.gc_AskReader E.B_AskReader____init__ rfl (vc (va uA) ar) xr.1 rfl)) (af (vg nodupN (mO hC (mX tk) E.cl_AskReader E.aM bG (hr.mono (by omega)) E.B_AskReader__question rfl (va qD) rfl)) (af (dE (cL hC (mX tk) E.cl_AskReader E.cM bF (hr.mono (by omega)) E.B_AskReader__sure rfl (va qD) (vc (u6 hu (jk hC E.fld (va qD) rfl) (iH call_len (fO _) rfl E.b_len gL (vc (va uA) ar) rfl gJ gK.1) rfl) ar) rfl rfl) rfl) (af (cy (va iS)) aB))))
theorem AF:FnScope ["_law_script","_law_pool_here","_law_question_here","_law_line","_law_found"] ["_law_script"] (defScope (top 19)):=i9
theorem EX(E:Fx P w K mg base cA):FnOk P w K mg base (L2.CX P w) 22 E.f_law E.d_law ["_law_script"] (eF cA 1 q8):=by
 have mZ:=mZ E
 have iA:=iA E
 have en:=en E 4
 have eS:=eS E 4
 have f7:=f7 E 4
 have iq:=iq E
 refine lT (k:=21) E.F_law AF rfl rfl fun cdv A outer s H E0 C hr hC tk=>?_
 have hu:=hr.units
 have nodupN:=AF.nd
 unfold zF
 exact(af (Jk (vg nodupN (x_call hC mZ (hr.mono (by omega)) rfl E.iD E.F__law_pool.kp E.B__law_pool pass0 rfl (vc (Bo (x_call hC iA (hr.mono (by omega)) rfl E.dy E.F__law_draws.kp E.B__law_draws pass0 rfl (vc (va iW) (vc vi (vc vi ar))) lE.1 rfl)) ar) xl.1 rfl))) (af (vg nodupN (x_call hC en (hr.mono (by omega)) rfl E.cX E.F__law_question.kp E.B__law_question pass0 rfl (vc (Bo (x_call hC iA (hr.mono (by omega)) rfl E.dy E.F__law_draws.kp E.B__law_draws pass0 rfl (vc (va iW) (vc vi (vc vi ar))) lE.1 rfl)) (vc (va cY) (vc vi ar))) iu.1 rfl)) (af (vg nodupN (x_call hC eS (hr.mono (by omega)) rfl E.d8 E.F_show_question.kp E.B_show_question pass0 rfl (vc (va aD) ar) jw.1 rfl)) (af (Vw.dN (PW.pt (Vw.v_or (Vw.v_not (gM (zW (va dS) rfl E.b_isinstance rfl E.b_str qP (by decide) rfl qz p4.1) rfl)) (Vw.oZ (y5 hu (va dS) (x_call hC f7 (hr.mono (by omega)) rfl E.e8 E.F__law_shown.kp E.B__law_shown pass0 rfl (vc (va aD) ar) lD.1 rfl) rfl)))) (af (cy vt) aB) aB) (af (vg nodupN (F7 hC tk iq (hr.mono (by omega)) rfl E.dG E.F_read_question.kp E.B_read_question rfl (vc (va dS) ar) mE.1 rfl)) (af (Vw.dN (PW.pt (Vw.v_or (Vw.v_not (gM (zW (va gH) rfl E.b_isinstance rfl E.b_tuple B9 (by decide) rfl BF Bx.1) rfl)) (Vw.oZ (F1 hu (va gH) (va aD) rfl)))) (af (cy vt) aB) aB) (af (Vw.dN (gM (zW (vx hu (va gH) (th vi)) rfl E.b_isinstance rfl E.b_list D1 (by decide) rfl Eb Dr.1) rfl) (af (dE (sR F.plainAttrs_list F.slot_list_append F.type_list_append mt_append jS oc (vx hu (va gH) (th vi)) (vc az ar) rfl rfl (by decide) rfl) rfl) aB) aB) (af (cy (Vw.Aq (u6 hu (EW hC tk iq (hr.mono (by omega)) rfl E.dG E.F_read_question.kp E.B_read_question rfl (vc (va dS) ar) mE.1 rfl) (va aD) rfl) (Vw.yr (u6 hu (va aD) (x_call hC en (hr.mono (by omega)) rfl E.cX E.F__law_question.kp E.B__law_question pass0 rfl (vc (Bo (x_call hC iA (hr.mono (by omega)) rfl E.dy E.F__law_draws.kp E.B__law_draws pass0 rfl (vc (va iW) (vc vi (vc vi ar))) lE.1 rfl)) (vc (va cY) (vc vi ar))) iu.1 rfl) rfl)))) aB))))))))
end
end K81
namespace K81
open PySem L2 PyProof.Rows Vw
theorem facts{P:Program}{w:World}{K:PySem.W.Frag}{h:Heap}{mg:Str→Option Value}{f:Addr}(X:K.In h)(G:h.Ns mainGlobals mg)(hfa:mg ("law":Str)=some (.ref f))(c:He.SaysD CC vO K)(ex:Am K=true):
  ∃ fd:FuncData,(∀ (s:Shared) (v:Value),BindsTo s fd ⟨[v],[]⟩ [("_law_script",v)])∧∀ base:Heap,K.In base→base.Ns mainGlobals mg→FnOk P w K mg base CA 22 f fd ["_law_script"] (eF (z1 K) 1 q8):=by
 obtain⟨d__law_pop,F__law_pop⟩:=c.def_ 0 (d:=sk) rfl
 obtain⟨d__law_pool,F__law_pool⟩:=c.def_ 1 (d:=ql) rfl
 obtain⟨d__law_mix,F__law_mix⟩:=c.def_ 2 (d:=rX) rfl
 obtain⟨d__law_draws,F__law_draws⟩:=c.def_ 3 (d:=pz) rfl
 obtain⟨d__law_field,F__law_field⟩:=c.def_ 4 (d:=pJ) rfl
 obtain⟨d__law_pattern,F__law_pattern⟩:=c.def_ 5 (d:=nF) rfl
 obtain⟨d__law_question,F__law_question⟩:=c.def_ 6 (d:=mJ) rfl
 obtain⟨d_show_words,F_show_words⟩:=c.def_ 7 (d:=pA) rfl
 obtain⟨d_show_question,F_show_question⟩:=c.def_ 8 (d:=mn) rfl
 obtain⟨d__law_shown,F__law_shown⟩:=c.def_ 9 (d:=pH) rfl
 obtain⟨eV,F_AskReader____init__⟩:=c.def_ 10 (d:=jb) rfl
 obtain⟨d_AskReader__begins,F_AskReader__begins⟩:=c.def_ 11 (d:=kb) rfl
 obtain⟨d_AskReader__sure,F_AskReader__sure⟩:=c.def_ 12 (d:=lj) rfl
 obtain⟨d_AskReader__eat,F_AskReader__eat⟩:=c.def_ 13 (d:=lO) rfl
 obtain⟨d_AskReader__row_of,F_AskReader__row_of⟩:=c.def_ 14 (d:=j1) rfl
 obtain⟨d_AskReader__many,F_AskReader__many⟩:=c.def_ 15 (d:=k9) rfl
 obtain⟨d_AskReader__words,F_AskReader__words⟩:=c.def_ 16 (d:=kA) rfl
 obtain⟨d_AskReader__asked,F_AskReader__asked⟩:=c.def_ 17 (d:=kq) rfl
 obtain⟨d_AskReader__question,F_AskReader__question⟩:=c.def_ 18 (d:=jc) rfl
 obtain⟨d_read_question,F_read_question⟩:=c.def_ 19 (d:=mV) rfl
 obtain⟨d_law,F_law⟩:=c.def_ 20 (d:=Ap) rfl
 have e:=hfa.symm.trans (He.glo_ok X G (c.fact 19 (f:=.glo "law") rfl))
 cases e
 have b:=FunD.bindsA (ps:=["_law_script"]) F_law fun _ _ _ _ _ _ us hl=>match us,hl with | [_],_=>rfl
 obtain⟨t_FIGURES,c_FIGURES⟩:=He.str_ok X G (c.fact 28 (f:=.str "FIGURES" "0123456789") rfl)
 obtain⟨t_LETTERS,c_LETTERS⟩:=He.str_ok X G (c.fact 29 (f:=.str "LETTERS" "abcdefghijklmnopqrstuvwxyz") rfl)
 refine⟨d_law,fun s v=>b s [v] rfl,fun base _ _=>Fq (EX (cA:=z1 K) (E:=⟨
  _,d__law_pop,F__law_pop,F__law_pop.bindsN fun _ _ _ _ _ _ us hl=>match us,hl with | [_],_=>rfl,He.glo_ok X G (c.fact 0 (f:=.glo "_law_pop") rfl),
  _,d__law_pool,F__law_pool,F__law_pool.bindsN fun _ _ _ _ _ _ us hl=>match us,hl with | [_],_=>rfl,He.glo_ok X G (c.fact 1 (f:=.glo "_law_pool") rfl),
  _,d__law_mix,F__law_mix,F__law_mix.bindsN fun _ _ _ _ _ _ us hl=>match us,hl with | [_,_],_=>rfl,He.glo_ok X G (c.fact 2 (f:=.glo "_law_mix") rfl),
  _,d__law_draws,F__law_draws,F__law_draws.bindsN fun _ _ _ _ _ _ us hl=>match us,hl with | [_,_,_],_=>rfl,He.glo_ok X G (c.fact 3 (f:=.glo "_law_draws") rfl),
  _,d__law_field,F__law_field,F__law_field.bindsN fun _ _ _ _ _ _ us hl=>match us,hl with | [_],_=>rfl,He.glo_ok X G (c.fact 4 (f:=.glo "_law_field") rfl),
  _,d__law_pattern,F__law_pattern,F__law_pattern.bindsN fun _ _ _ _ _ _ us hl=>match us,hl with | [_,_],_=>rfl,He.glo_ok X G (c.fact 5 (f:=.glo "_law_pattern") rfl),
  _,d__law_question,F__law_question,F__law_question.bindsN fun _ _ _ _ _ _ us hl=>match us,hl with | [_,_,_],_=>rfl,He.glo_ok X G (c.fact 6 (f:=.glo "_law_question") rfl),
  _,d_show_words,F_show_words,F_show_words.bindsN fun _ _ _ _ _ _ us hl=>match us,hl with | [_],_=>rfl,He.glo_ok X G (c.fact 7 (f:=.glo "show_words") rfl),
  _,d_show_question,F_show_question,F_show_question.bindsN fun _ _ _ _ _ _ us hl=>match us,hl with | [_],_=>rfl,He.glo_ok X G (c.fact 8 (f:=.glo "show_question") rfl),
  _,d__law_shown,F__law_shown,F__law_shown.bindsN fun _ _ _ _ _ _ us hl=>match us,hl with | [_],_=>rfl,He.glo_ok X G (c.fact 9 (f:=.glo "_law_shown") rfl),
  _,eV,F_AskReader____init__,F_AskReader____init__.bindsN fun _ _ _ _ _ _ us hl=>match us,hl with | [_,_],_=>rfl,
  _,d_AskReader__begins,F_AskReader__begins,F_AskReader__begins.bindsN fun _ _ _ _ _ _ us hl=>match us,hl with | [_,_],_=>rfl,He.meth_ok (c.fact 10 (f:=.meth "AskReader" "begins") rfl),
  _,d_AskReader__sure,F_AskReader__sure,F_AskReader__sure.bindsN fun _ _ _ _ _ _ us hl=>match us,hl with | [_,_],_=>rfl,He.meth_ok (c.fact 11 (f:=.meth "AskReader" "sure") rfl),
  _,d_AskReader__eat,F_AskReader__eat,F_AskReader__eat.bindsN fun _ _ _ _ _ _ us hl=>match us,hl with | [_,_],_=>rfl,He.meth_ok (c.fact 12 (f:=.meth "AskReader" "eat") rfl),
  _,d_AskReader__row_of,F_AskReader__row_of,F_AskReader__row_of.bindsN fun _ _ _ _ _ _ us hl=>match us,hl with | [_,_,_],_=>rfl,He.meth_ok (c.fact 13 (f:=.meth "AskReader" "row_of") rfl),
  _,d_AskReader__many,F_AskReader__many,F_AskReader__many.bindsN fun _ _ _ _ _ _ us hl=>match us,hl with | [_],_=>rfl,He.meth_ok (c.fact 14 (f:=.meth "AskReader" "many") rfl),
  _,d_AskReader__words,F_AskReader__words,F_AskReader__words.bindsN fun _ _ _ _ _ _ us hl=>match us,hl with | [_,_],_=>rfl,He.meth_ok (c.fact 15 (f:=.meth "AskReader" "words") rfl),
  _,d_AskReader__asked,F_AskReader__asked,F_AskReader__asked.bindsN fun _ _ _ _ _ _ us hl=>match us,hl with | [_,_],_=>rfl,He.meth_ok (c.fact 16 (f:=.meth "AskReader" "asked") rfl),
  _,d_AskReader__question,F_AskReader__question,F_AskReader__question.bindsN fun _ _ _ _ _ _ us hl=>match us,hl with | [_],_=>rfl,He.meth_ok (c.fact 17 (f:=.meth "AskReader" "question") rfl),
  _,d_read_question,F_read_question,F_read_question.bindsN fun _ _ _ _ _ _ us hl=>match us,hl with | [_],_=>rfl,He.glo_ok X G (c.fact 18 (f:=.glo "read_question") rfl),
  _,d_law,F_law,F_law.bindsN fun _ _ _ _ _ _ us hl=>match us,hl with | [_],_=>rfl,He.glo_ok X G (c.fact 19 (f:=.glo "law") rfl),
  He.free_ok X G (c.fact 20 (f:=.free "enumerate") rfl),
  He.free_ok X G (c.fact 21 (f:=.free "int") rfl),
  He.free_ok X G (c.fact 22 (f:=.free "isinstance") rfl),
  He.free_ok X G (c.fact 23 (f:=.free "len") rfl),
  He.free_ok X G (c.fact 24 (f:=.free "list") rfl),
  He.free_ok X G (c.fact 25 (f:=.free "range") rfl),
  He.free_ok X G (c.fact 26 (f:=.free "str") rfl),
  He.free_ok X G (c.fact 27 (f:=.free "tuple") rfl),
  t_FIGURES,c_FIGURES,
  t_LETTERS,c_LETTERS,
  He.glo_ok X G (c.fact 30 (f:=.glo "AskReader") rfl),
  He.glo_ok X G (c.fact 31 (f:=.glo "NoText") rfl),
  Dl (c.fact 32 (f:=.exc "NoText") rfl),
  He.cls_ok (c.fact 33 (f:=.cls "AskReader") rfl),
  He.mkr_ok (c.fact 34 (f:=.mkr "AskReader") rfl),
  DD (JZ ex 0 (b:=A9 K fT) rfl)⟩))⟩
end K81
open PySem PySem.W PySem.Calls PyProof.Rows
theorem PySem.Challenge.cw_findcourt_k81_questions_written_holds : PySem.Challenge.rw_findcourt_k81_questions_written.Holds := by
 refine K81.early ?hc
 case hc=>
  refine L2.walk_ofE (l:=PySem.Challenge.rw_findcourt_k81_questions_written) (n:=63) (k:=22) (x:="_law_script") (CX:=Vw.CA) rfl (by decide) (by kernel_rfl) ⟨rfl,by decide,by decide⟩ ?F Vw.EZ
  intro w mg fa h Y G hmg0
  obtain⟨K,KX,c,nl,ex⟩:=Y
  have hmg:mg ("law":PySem.Str)=some (.ref fa):=by
   have e:(HandSHeadRun.topDef (OpenLaw.row PySem.Challenge.rw_findcourt_k81_questions_written).prog 19).name=("law":PySem.Str):=by kernel_rfl
   rw[←e]
   exact hmg0
  obtain⟨fd,hb,hF⟩:=K81.facts (P:=(PySem.Challenge.rw_findcourt_k81_questions_written).prog) (w:=w) KX G hmg c ex
  exact⟨K,fd,_,KX,hb,fun H a ns hl _ hS=>Vw.Av nl hS (K81.EO ns hl),hF⟩
